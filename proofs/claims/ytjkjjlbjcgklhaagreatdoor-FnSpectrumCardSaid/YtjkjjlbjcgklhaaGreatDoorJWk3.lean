/- Walks, printed by program. -/
import Derived.Test.YtjkjjlbjcgklhaaGreatDoorJLW
set_option linter.all false
namespace Gv
open Go.Value renaming slice→zS,bool→zB
open Option.some renaming inj→zI
open Gv.Hp renaming le_refl→zR
open Go Go.Proofs Go.Proofs.Tryz
set_option maxRecDepth 20000
set_option maxHeartbeats 40000000
variable {G:Env} {K:Hp} {L:List iD} {w:World} {a1 a4 a7 a10:Option Addr} {c2 c5 c8 c11:Nat}
theorem aFg {a:(List aL)} {b:aL} {R:Int} (hm:aCu a b=some R) (e:aD G K (L) w) (g:aT K a1 c2 a):
  Calls prog 71 ([zS a1 a.length c2,str b]:List Value).toArray w (dO fun v w'=>v=i64 R/\aD G K (L) w'):=by
 refine cA func71 ?_;unfold aCu at hm
 refine aC ?_;refine aJ [] (fun f w=>aKV=some R/\aD G K (L) w) aI ?_
 obtain ⟨h,c,ho⟩:=aB hm
 exact eM [0,1] c (fun d f w=>f 5=i64 d/\aD G K (L) w) aI aI
theorem aIE {q R:(List aL)} (hm:aBa q=some R) (hs:aD G K (L) w) (h3:aT K a1 c2 q):
  Calls prog 70 ([zS a1 q.length c2]:List Value).toArray w (dO fun v w'=>∃ V Z,v=zS V R.length Z/\aD G K (aH 9 K V Z R::L) w'):=by
 refine cA func70 ?_;unfold aBa at hm
 refine aC ?_;refine nE ([([116,97,117]:aL)]:List aL) fun a4 w5 e7=>?_
 refine aC ?_;refine aJ [] (fun f w=>∃ r a8 c9,aKW r=some R/\f 3=zS a8 r.length c9/\aD G K (aH 9 K a8 c9 r::L) w) aI ?_
 obtain ⟨e8,b7,ho⟩:=aB hm
 refine aY [0] b7 (fun c g f w=>∃ d e,f 3=zS d c.length e/\f 4=i64 g/\aD G K (aH 9 K d e c::L) w) aI ?_
 ·rintro c g u f e9 hm hr ⟨d,e,f0,f1,b8⟩
  unfold jN at hm
  refine aC ?_
  rcases aG hm with ⟨b9,hm⟩|⟨b9,hm⟩
  ·refine aC ?_;refine aJ [0,4] (fun f w=>∃ j k l,qW g j=some u/\f 3=zS k j.length l/\aD G K (aH 9 K k l j::L) w) ?_ ?_
   ·rintro f f2 ⟨j,k,l,hm,c0,c1⟩
    unfold qW at hm
    refine aC ?_;exact ⟨_,(zI hm).symm,aU,k,l,c0,rfl,c1⟩
   refine aC ?_;obtain ⟨m,c3,hm⟩:=aB hm
   refine aC ?_;obtain ⟨f3,f4,c4⟩:=aT.el (sz:=1) rfl h3 c3
   cases c4
   refine aC ?_;obtain ⟨f5,f6,c5,c6,c7⟩:=aD.lendSp b8 (zR _) .head
   obtain ⟨f7,c8,hm⟩:=aB hm
   refine bP call71 (aFg c8 c6 c5) ?_
   rintro _ f8 ⟨rfl,d0⟩
   have f9:=c7 _ _ d0
   refine aC ?_
   rcases aG hm with ⟨d1,hm⟩|⟨d1,hm⟩
   ·exact aI
   ·refine aC ?_;refine aJ [0,3,4] (fun f w=>∃ o,aBC c g m o=some u/\f 5=i64 o/\aD G K (aH 9 K d e c::L) w) ?_ ?_
    ·rintro f g0 ⟨o,hm,g1,g2⟩
     unfold aBC at hm
     refine aC ?_;refine nE ([([]:aL)]:List aL) fun g3 g4 g5=>?_
     obtain ⟨g6,g7,hm⟩:=aB hm
     refine aGA fun a b g8 g9=>?_;refine aC ?_
     refine aJ [0,4,5] (fun f w=>∃ p,aBB g m o p=some u/\f 3=zS a p.length b/\aD G K (aH 9 K a b p::L) w) ?_ ?_
     ·rintro f h0 ⟨p,hm,d2,a3⟩
      unfold aBB at hm
      refine aC ?_;obtain ⟨h1,x,hm⟩:=aB hm
      have d3:=bY a3 (i:=0) rfl x
      refine aK (cR dG rfl d3 rfl rfl rfl x) ?_;obtain ⟨a5,a6,hm⟩:=aB hm
      refine lU (i:=0) (t:=0) (ns:=[str m]) (e':=(m:aL)) sizeOf9 a3 rfl (zR _) rfl rfl rfl x a6 rfl rfl (oR rfl) rfl (fun cs h=>by cases h;rfl) (fun d4 (d5:aD G K (aH 9 K a b a5::L) d4)=>(aC ?_));exact ⟨aU,a5,a,b,hm,(Eq.trans d2 (congrArg (fun n=>zS a n b) (gX a6))),d5⟩
     obtain ⟨h2,d6,ho⟩:=aB hm
     refine aY [0,4,5] d6 (fun y a7 f w=>f 3=zS a y.length b/\f 6=i64 a7/\aD G K (aH 9 K a b y::L) w) aI ?_
     ·rintro y a7 h4 f h5 hm hr ⟨d7,h6,a9⟩
      unfold tU at hm
      refine aC ?_
      rcases aG hm with ⟨d8,hm⟩|⟨d8,hm⟩
      ·refine aC ?_;refine bT (aC ?_)
       obtain ⟨b0,b1,hm⟩:=aB hm
       have b2:=bY a9 (i:=0) rfl b1
       refine aK (cR dG rfl b2 rfl rfl rfl b1) (aC ?_);obtain ⟨h7,b3,hm⟩:=aB hm
       refine aK (cR dG rfl b2 rfl rfl rfl b3) ?_;obtain ⟨d9,b4,hm⟩:=aB hm
       refine lU (i:=0) (t:=0) (ns:=[str b0]) (e':=(b0:aL)) sizeOf9 a9 rfl (zR _) rfl rfl rfl b3 b4 rfl rfl (oR rfl) rfl (fun cs h=>by cases h;rfl) (fun e0 (e1:aD G K (aH 9 K a b d9::L) e0)=>(aC ?_));exact ⟨_,(zI hm).symm,aU,(Eq.trans d7 (congrArg (fun n=>zS a n b) (gX b4))),rfl,e1⟩
      ·exact aI
    obtain ⟨h8,e2,ho⟩:=aB hm
    refine eM [0,3,4] e2 (fun z f w=>f 5=i64 z/\aD G K (aH 9 K d e c::L) w) aI ?_
    ·rintro z e3 f h9 hm hr ⟨i0,i1⟩
     unfold mZ at hm
     refine aC ?_;exact bG [0,3,4,5] (fun f w=>∃ b5,xQ z b5=some e3/\f 35=zB b5/\aD G K (aH 9 K d e c::L) w) aI aI
  ·exact aI
theorem aIF {a:Edge} {c:Nat} {b:Edge} {d:Nat} {R:Bool} (hm:aJk a b=some R) (e:aD G K (L) w) (g:cK K a1 c [i64 a.F,i64 a.B,i64 a.To]) (h:cK K a4 d [i64 b.F,i64 b.B,i64 b.To]):
  Calls prog 123 ([cU a1 c,cU a4 d]:List Value).toArray w (dO fun v w'=>v=zB R/\aD G K (L) w'):=by
 exact aI
theorem aPc {c:(List Edge)} {e:Edge} {R:(List Edge)} (hm:aIq c e=some R) (hs:aD G K (aH 61 K a1 c2 c::L) w):
  Calls prog 72 ([zS a1 c.length c2,Value.agg #[i64 e.F,i64 e.B,i64 e.To]]:List Value).toArray w (dO fun v w'=>∃ z V,v=zS z R.length V/\aD G K (aH 61 K z V R::L) w'):=by
 let d:=[i64 e.F,i64 e.B,i64 e.To]
 refine cA func72 ?_;unfold aIq at hm
 refine aC ?_;refine kN fun g w4 e9=>?_
 refine aC ?_;refine aJ [0,3] (fun f w=>∃ k,aFI c e k=some R/\f 5=i64 k/\aD G K (box g 61 d::aH 61 K a1 c2 c::L) w) ?_ ?_
 ·rintro f w8 ⟨k,hm,e7,m⟩
  unfold aFI at hm
  refine aC ?_;refine bG [0,3,5] (fun f w=>∃ o,aBb c e k o=some R/\f 30=zB o/\aD G K (box g 61 d::aH 61 K a1 c2 c::L) w) ?_ ?_
  ·rintro f f2 ⟨o,hm,f3,f4⟩
   unfold aBb at hm
   refine aC ?_
   rcases aG hm with ⟨b4,hm⟩|⟨b4,hm⟩
   ·exact aI
   ·iterate 6 refine eU ?_
    refine aK (dI (vs:=[]) (cs:=[i64 0,i64 0,i64 0]) aPy rfl (by kernel_rfl)) (nE ([⟨0,0,0⟩]:List Edge) fun f5 f6 f7=>?_);obtain ⟨f8,f9,hm⟩:=aB hm
    refine aGA fun a b g0 g1=>?_;refine aC ?_
    refine aJ [3,5] (fun f w=>∃ l,aFH e k l=some R/\f 0=zS a l.length b/\aD G K (box g 61 d::aH 61 K a b l::L) w) ?_ ?_
    ·rintro f g2 ⟨l,hm,b5,Z⟩
     unfold aFH at hm
     refine aC ?_;obtain ⟨g3,p,hm⟩:=aB hm
     have b6:=bY Z (i:=1) rfl p
     refine aK (cR lH rfl b6 rfl rfl rfl p) ?_;obtain ⟨a0,a2,hm⟩:=aB hm
     refine lU (i:=1) (t:=0) (ns:=d) (e':=(⟨e.F,e.B,e.To⟩:Edge)) sizeOf61 Z rfl (zR _) rfl rfl rfl p a2 rfl rfl (oR rfl) rfl (fun cs h=>by cases h;rfl) (fun b7 (g4:aD G K (box g 61 d::aH 61 K a b a0::L) b7)=>?_)
     iterate 4 refine eU ?_
     refine fO (v:=zS a a0.length b) (Eq.trans b5 (congrArg (fun n=>zS a n b) (gX a2))) (aC ?_);obtain rfl:=zI hm
     exact aLM results72 ⟨a,b,rfl,oK⟩
    obtain ⟨g5,b9,ho⟩:=aB hm
    refine aY [3,5] b9 (fun q a3 f w=>f 0=zS a q.length b/\f 6=i64 a3/\aD G K (box g 61 d::aH 61 K a b q::L) w) aI ?_
    ·rintro q a3 g6 f g7 hm hr ⟨c0,g8,a4⟩
     unfold aDi at hm
     refine aC ?_
     rcases aG hm with ⟨c1,hm⟩|⟨c1,hm⟩
     ·refine aC ?_;refine bT (aC ?_)
      obtain ⟨j,a5,hm⟩:=aB hm
      have a6:=bY a4 (i:=1) rfl a5
      refine aK (cR lH rfl a6 rfl rfl rfl a5) (aC ?_);obtain ⟨g9,a7,hm⟩:=aB hm
      refine aK (cR lH rfl a6 rfl rfl rfl a7) ?_;obtain ⟨c3,a8,hm⟩:=aB hm
      refine lU (i:=1) (t:=0) (ns:=[i64 j.F,i64 j.B,i64 j.To]) (e':=(⟨j.F,j.B,j.To⟩:Edge)) sizeOf61 a4 rfl (zR _) rfl rfl rfl a7 a8 rfl rfl (oR rfl) rfl (fun cs h=>by cases h;rfl) (fun c4 (c5:aD G K (box g 61 d::aH 61 K a b c3::L) c4)=>(aC ?_));exact ⟨_,(zI hm).symm,aU,(Eq.trans c0 (congrArg (fun n=>zS a n b) (gX a8))),rfl,c5⟩
     ·exact aI
  refine st_k ?_;refine aC ?_
  rcases aG hm with ⟨c6,hm⟩|⟨c6,hm⟩
  ·refine aC ?_;obtain ⟨a9,b0,hm⟩:=aB hm
   have c7:=bY m (i:=1) rfl b0
   refine gE (fun _ m=>cR lH rfl c7 rfl rfl rfl b0) (aC ?_);refine gE (fun _ m=>R_eqlG (eq_61 (x:=a9) (y:=e)) rfl rfl) (aC ?_)
   refine yP (fun h0 c8=>(aC ?_));exact ⟨aU,decide ((a9:Edge)=e),hm,rfl,c8⟩
  ·exact aI
 obtain ⟨h1,c9,ho⟩:=aB hm
 refine eM [0,3] c9 (fun r f w=>f 5=i64 r/\aD G K (box g 61 d::aH 61 K a1 c2 c::L) w) aI ?_
 ·rintro r d0 f h2 hm hr ⟨h3,b1⟩
  unfold aBc at hm
  iterate 2 refine eU ?_
  refine bG [0,3,5] (fun f w=>∃ b2,aDj r b2=some d0/\f 17=zB b2/\aD G K (box g 61 d::aH 61 K a1 c2 c::L) w) aI (aC ?_)
  rcases aG hm with ⟨d1,hm⟩|⟨d1,hm⟩
  ·refine aC ?_;obtain ⟨h4,u,hm⟩:=aB hm
   have d2:=bY b1 (i:=1) rfl u
   refine aK (cR lH rfl d2 rfl rfl rfl u) (aC ?_);obtain ⟨h5,d3,d4,d5,d6⟩:=aD.lendBp b1 .head
   obtain ⟨h6,d7,d8,d9,e0⟩:=aD.lendSp d5 d3 .head
   obtain ⟨h7,e1,e2⟩:=aT.el (sz:=3) rfl d8 u
   cases e2
   obtain ⟨h8,e3,hm⟩:=aB hm
   refine bP call123 (aIF e3 d9 (d4.mono d7) e1) ?_
   rintro _ h9 ⟨rfl,e4⟩
   have e5:=e0 _ _ e4
   have i0:=d6 _ _ e5
   exact aI
  ·exact aI
theorem aNL {a b:Int} {g:(List aL)} {edges:(List Edge)} {R:aO} (hm:sK a b g edges=some R) (hs:aD G K (L) w) (m:aT K a1 c2 g) (h6:aT K a4 c5 edges):
  Calls prog 32 ([i64 a,i64 b,zS a1 g.length c2,zS a4 edges.length c5]:List Value).toArray w (dO fun v w'=>∃ n o p q,v=Value.agg (zCa R n o p q)/\aD G K (aH 9 K n o R.L::aH 61 K p q R.E::L) w'):=by
 refine cA func32 ?_;unfold sK at hm
 refine aC ?_;refine jH fun r w8 a3=>?_
 refine aC ?_;obtain ⟨c,a5,hm⟩:=aB hm
 refine bP call70 (aIE a5 a3 m) ?_
 rintro _ c9 ⟨d,e,rfl,d0⟩
 refine nE ([]:List Edge) fun u d1 d2=>?_;refine aK (dI (vs:=[(0,i64 a),(1,i64 b),(2,zS d c.length e),(3,zS u ([]:List Edge).length 0)]) (cs:=[i64 a,i64 b,zS d c.length e,zS u ([]:List Edge).length 0]) zH rfl (by kernel_rfl)) (jH fun x d3 d4=>?_)
 refine kM fun d5 d6=>?_;refine aC ?_
 refine aJ [8,9] (fun f w=>∃ h y z,aKX a b c h=some R/\aD G K (aH 61 K y z h::box x 27 [i64 a,i64 b,zS d c.length e,zS y h.length z]::aH 9 K d e c::box r 27 zG::L) w) aI ?_;obtain ⟨d7,a6,ho⟩:=aB hm
 refine aY [2,3,8,9] a6 (fun i V f w=>∃ j k,f 10=i64 V/\aD G K (box x 27 [i64 a,i64 b,zS d c.length e,zS j i.length k]::aH 61 K j k i::aH 9 K d e c::box r 27 zG::L) w) aI ?_
 ·rintro i V d8 f d9 hm hr ⟨j,k,e0,e1⟩
  unfold nA at hm
  refine aC ?_
  rcases aG hm with ⟨a7,hm⟩|⟨a7,hm⟩
  ·refine aC ?_;refine bT (aC ?_)
   obtain ⟨e2,a8,hm⟩:=aB hm
   refine aC ?_;obtain ⟨e3,e4,a9⟩:=aT.el (sz:=3) rfl h6 a8
   cases a9
   refine aC ?_;refine jH fun e5 e6 e7=>?_
   refine kM fun e8 b0=>?_;refine aC ?_
   obtain ⟨e9,b1,b2,b3,b4⟩:=aD.lendBp b0 .head
   obtain ⟨f0,Z,f1,f2,b5⟩:=aD.lendBp b3 .head
   refine aBr [(0,0),(1,0),(2,0),(3,0),(4,0),(5,0),(6,0),(7,1),(8,0),(9,2)] fun f3 l=>?_;refine aC ?_
   refine cS rfl (fun _ ⟨_,l⟩=>cH (t:=1) jE l (b2.mono Z) rfl rfl) ?_;obtain ⟨f4,b6,hm⟩:=aB hm
   refine aC ?_;obtain ⟨f5,f6,b8⟩:=aT.el (sz:=1) rfl m b6
   cases b8
   refine aC ?_;refine lV rfl ?_
   obtain ⟨f7,f8,b9,c0,c1⟩:=aD.lendSp l (Hp.le_trans b1 Z) zt1
   obtain ⟨f9,c3,hm⟩:=aB hm
   refine bP call71 (aFg c3 c0 b9) ?_
   rintro _ g0 ⟨rfl,c4⟩
   have a0:=c1 _ _ c4
   refine aM (aF ⟨⟨_,a0⟩,?_⟩)
   refine aC ?_
   have c6:=b5 _ _ a0
   have g1:=b4 _ _ c6
   exact aI
  ·exact aI
theorem aAA {a:(List Int)} {n R:Int} (hm:aAG a n=some R) (d:aD G K (L) w) (e:aT K a1 c2 a):
  Calls prog 73 ([zS a1 a.length c2,i64 n]:List Value).toArray w (dO fun v w'=>v=i64 R/\aD G K (L) w'):=by
 refine cA func73 ?_;unfold aAG at hm
 refine aC ?_;refine aJ [] (fun f w=>aJJ=some R/\aD G K (L) w) aI ?_
 obtain ⟨g,b,ho⟩:=aB hm
 exact eM [0,1] b (fun c f w=>f 5=i64 c/\aD G K (L) w) aI aI
theorem aCd {t:aO} {y:Nat} {a:(List Int)} {R:aO} (hm:aBd t a=some R) (hs:aD G K (L) w) (h3:cK K a1 y (zC t a4 c5 a7 c8)) (h6:aT K a4 c5 t.L) (h9:aT K a7 c8 t.E) (u:aT K a10 c11 a):
  Calls prog 34 ([cU a1 y,zS a10 a.length c11]:List Value).toArray w (dO fun v w'=>∃ z V Z a0,v=Value.agg (zCa R z V Z a0)/\aD G K (aH 9 K z V R.L::aH 61 K Z a0 R.E::L) w'):=by
 let h:=zG
 refine cA func34 ?_;unfold aBd at hm
 refine aC ?_;refine jH fun j d1 b3=>?_
 refine aC ?_;obtain ⟨e,b4,hm⟩:=aB hm
 refine bP call73 (aAA b4 b3 u) ?_
 rintro _ d2 ⟨rfl,d3⟩
 refine nE ([]:List Edge) fun n d4 d5=>?_;refine aK (dI (vs:=[(0,i64 (a.length:Int)),(1,i64 e),(3,zS n ([]:List Edge).length 0)]) (cs:=[i64 (a.length:Int),i64 e,zS none 0 0,zS n ([]:List Edge).length 0]) zH rfl (by kernel_rfl)) (jH fun k d6 d7=>?_)
 refine kM fun d8 d9=>?_;refine aC ?_
 refine nE ([]:List aL) fun e0 e1 b5=>?_;refine aC ?_
 obtain ⟨b,b6,hm⟩:=aB hm
 refine tR (i:=0) dG underlying24 zF rfl rfl b5 rfl (zR _) h6 b6 rfl rfl rfl rfl (fun c d b7 (e2:aD G K (aH 9 K c d b::box k 27 [i64 (a.length:Int),i64 e,zS none 0 0,zS n ([]:List Edge).length 0]::aH 61 K n 0 ([]:List Edge)::box j 27 h::L) b7)=>(aC ?_));refine kM fun e3 e4=>?_
 refine aC ?_;refine aJ [4,5] (fun f w=>∃ x a2 a3,aKY a e b x=some R/\aD G K (aH 61 K a2 a3 x::aH 9 K c d b::box k 27 [i64 (a.length:Int),i64 e,zS c b.length d,zS a2 x.length a3]::box j 27 h::L) w) aI ?_
 obtain ⟨e5,b8,ho⟩:=aB hm
 refine aY [0,1,4,5] b8 (fun g o f w=>∃ l m,f 6=i64 o/\aD G K (aH 9 K c d b::box k 27 [i64 (a.length:Int),i64 e,zS c b.length d,zS l g.length m]::aH 61 K l m g::box j 27 h::L) w) aI ?_
 ·rintro g o a5 f e6 hm hr ⟨l,m,e7,e8⟩
  unfold xS at hm
  refine aC ?_
  rcases aG hm with ⟨b9,hm⟩|⟨b9,hm⟩
  ·refine aC ?_;refine aJ [0,1,4,5,6] (fun f w=>∃ p q r,tV o p=some a5/\aD G K (aH 61 K q r p::aH 9 K c d b::box k 27 [i64 (a.length:Int),i64 e,zS c b.length d,zS q p.length r]::box j 27 h::L) w) ?_ ?_
   ·rintro f e9 ⟨p,q,r,hm,f0⟩
    unfold tV at hm
    refine aC ?_;exact ⟨_,(zI hm).symm,aU,q,r,rfl,oK⟩
   refine aC ?_;obtain ⟨a6,c0,hm⟩:=aB hm
   refine aC ?_;obtain ⟨f1,f2,c1⟩:=aT.el (sz:=3) rfl h9 c0
   cases c1
   refine aC ?_;refine jH fun c2 f3 f4=>?_
   refine kM fun f5 c3=>?_;refine aC ?_
   obtain ⟨a8,c4,hm⟩:=aB hm
   refine bP call73 (aAA c4 c3 u) ?_
   rintro _ f6 ⟨rfl,f7⟩
   refine aC ?_;refine kM fun f8 c6=>?_
   refine aC ?_;obtain ⟨a9,c7,hm⟩:=aB hm
   refine bP call73 (aAA c7 c6 u) ?_
   rintro _ f9 ⟨rfl,g0⟩
   refine aC ?_;refine kM fun g1 g2=>?_
   iterate 3 refine eU ?_
   exact bG [0,1,4,5,6,7] (fun f w=>∃ b0,xR g o a6 a8 a9 b0=some a5/\f 58=zB b0/\aD G K (box c2 61 [i64 a8,i64 a6.B,i64 a9]::aH 9 K c d b::box k 27 [i64 (a.length:Int),i64 e,zS c b.length d,zS l g.length m]::aH 61 K l m g::box j 27 h::L) w) aI aI
  ·exact aI
theorem aAB {t:aO} {k2:Nat} {R:(List Int)} (hm:wJ t=some R) (hs:aD G K (L) w) (h3:cK K a1 k2 (zC t a4 c5 a7 c8)) (h6:aT K a4 c5 t.L) (h9:aT K a7 c8 t.E):
  Calls prog 35 ([cU a1 k2]:List Value).toArray w (dO fun v w'=>∃ a6 a8,v=zS a6 R.length a8/\aD G K (aH 2 K a6 a8 R::L) w'):=by
 refine cA func35 ?_;unfold wJ at hm
 refine aC ?_;obtain ⟨a,c3,hm⟩:=aB hm
 refine aFB (e:=(false:Bool)) gP ez_4 rfl rfl hs rfl rfl rfl c3 rfl (fun b c4 (a9:aD G K (aH 4 K b a.length a::L) c4)=>(aC ?_));obtain ⟨f4,p,hm⟩:=aB hm
 have b0:=bY a9 (i:=0) rfl p
 refine aK (cR gP rfl b0 rfl rfl rfl p) ?_;obtain ⟨c6,b1,hm⟩:=aB hm
 refine lU (i:=0) (t:=0) (ns:=[zB true]) (e':=(true:Bool)) sizeOf4 a9 rfl (zR _) rfl rfl rfl p b1 rfl rfl (oR rfl) rfl (fun cs h=>by cases h;rfl) (fun c7 (c9:aD G K (aH 4 K b a.length c6::L) c7)=>(aC ?_));refine aJ [0] (fun f w=>∃ c,aCS t c=some R/\f 3=zS b c.length a.length/\aD G K (aH 4 K b a.length c::L) w) ?_ ?_
 ·rintro f f5 ⟨c,hm,f6,f7⟩
  unfold aCS at hm
  refine aC ?_;refine nE ([]:List Int) fun f8 f9 g0=>?_
  refine aC ?_;refine aJ [] (fun f w=>∃ q b2 b3,aJK q=some R/\f 6=zS b2 q.length b3/\aD G K (aH 2 K b2 b3 q::L) w) aI ?_
  obtain ⟨g1,d0,ho⟩:=aB hm
  refine aY [0,3] d0 (fun r u f w=>∃ x y,f 6=zS x r.length y/\f 7=i64 u/\aD G K (aH 2 K x y r::aH 4 K b a.length c::L) w) aI ?_
  ·rintro r u d1 f g2 hm hr ⟨x,y,g3,g4,g5⟩
   unfold zW at hm
   refine aC ?_
   rcases aG hm with ⟨d2,hm⟩|⟨d2,hm⟩
   ·refine aC ?_;refine aJ [0,3,7] (fun f w=>∃ g j k,zV u g=some d1/\f 6=zS j g.length k/\aD G K (aH 2 K j k g::aH 4 K b a.length c::L) w) ?_ ?_
    ·rintro f g6 ⟨g,j,k,hm,d3,d4⟩
     unfold zV at hm
     refine aC ?_;exact ⟨_,(zI hm).symm,aU,j,k,d3,rfl,d4⟩
    exact aI
   ·exact aI
 obtain ⟨g7,d5,ho⟩:=aB hm
 refine aY [0] d5 (fun z b4 f w=>f 3=zS b z.length a.length/\f 4=zB b4/\aD G K (aH 4 K b a.length z::L) w) ?_ ?_
 ·exact ⟨(Eq.trans rfl (congrArg (fun n=>zS b n a.length) (gX b1))),rfl,c9⟩
 ·rintro z b4 b5 f g8 hm hr ⟨g9,h0,h1⟩
  unfold aEM at hm
  refine aC ?_
  rcases aG hm with ⟨d6,hm⟩|⟨d6,hm⟩
  ·refine aC ?_;refine aJ [0] (fun f w=>∃ l V,aGf l V=some b5/\f 3=zS b l.length a.length/\f 4=zB V/\aD G K (aH 4 K b a.length l::L) w) ?_ ?_
   ·rintro f h2 ⟨l,V,hm,d7,d8,d9⟩
    unfold aGf at hm
    refine aC ?_;exact ⟨_,(zI hm).symm,aU,d7,d8,d9⟩
   refine aC ?_;refine aJ [0] (fun f w=>∃ Z b6,aJL Z b6=some b5/\f 3=zS b Z.length a.length/\f 4=zB b6/\aD G K (aH 4 K b a.length Z::L) w) aI ?_
   obtain ⟨h4,e0,ho⟩:=aB hm
   refine mA [0] e0 (fun d a0 m f w=>f 3=zS b d.length a.length/\f 4=zB a0/\f 5=i64 m/\aD G K (aH 4 K b a.length d::L) w) aI ?_
   ·rintro d a0 m b7 f h5 hm hr ⟨e1,h7,h8,i0⟩
    unfold zX at hm
    refine aC ?_
    rcases aG hm with ⟨e2,hm⟩|⟨e2,hm⟩
    ·refine aC ?_;refine aJ [0,5] (fun f w=>∃ o a2,rJ m o a2=some b7/\f 3=zS b o.length a.length/\f 4=zB a2/\aD G K (aH 4 K b a.length o::L) w) ?_ ?_
     ·rintro f i1 ⟨o,a2,hm,e3,e4,e5⟩
      unfold rJ at hm
      refine aC ?_;exact ⟨_,(zI hm).symm,aU,e3,e4,rfl,e5⟩
     iterate 1 refine eU ?_
     refine bG [0,3,4,5] (fun f w=>∃ a3,rK t d a0 m a3=some b7/\f 53=zB a3/\aD G K (aH 4 K b a.length d::L) w) ?_ ?_
     ·rintro f i2 ⟨a3,hm,i3,e6⟩
      unfold rK at hm
      refine aC ?_
      rcases aG hm with ⟨e7,hm⟩|⟨e7,hm⟩
      ·refine aC ?_;obtain ⟨i4,e8,hm⟩:=aB hm
       refine aC ?_;obtain ⟨i5,i6,e9⟩:=aT.el (sz:=3) rfl h9 e8
       cases e9
       refine aC ?_;obtain ⟨i7,b8,hm⟩:=aB hm
       refine aK (cR gP rfl b0 rfl rfl rfl b8) ?_;obtain ⟨b9,c0,hm⟩:=aB hm
       refine lU (i:=0) (t:=0) (ns:=[zB true]) (e':=(true:Bool)) sizeOf4 e6 rfl (zR _) rfl rfl rfl b8 c0 rfl rfl (oR rfl) rfl (fun cs h=>by cases h;rfl) (fun f0 (f1:aD G K (aH 4 K b a.length b9::L) f0)=>(aC ?_));exact ⟨aU,b9,true,hm,(Eq.trans e1 (congrArg (fun n=>zS b n a.length) (gX c0))),rfl,f1⟩
      ·exact aI
     exact aI
    ·exact aI
  ·exact aI
theorem aPd {a b R:Int} (hm:aNG a b=some R) (c:aD G K (L) w):
  Calls prog 124 ([i64 a,i64 b]:List Value).toArray w (dO fun v w'=>v=i64 R/\aD G K (L) w'):=by
 exact aI
theorem aLV {p:(List Int)} {R:Int} (hm:tM p=some R) (e:aD G K (L) w) (g:aT K a1 c2 p):
  Calls prog 74 ([zS a1 p.length c2]:List Value).toArray w (dO fun v w'=>v=i64 R/\aD G K (L) w'):=by
 refine cA func74 ?_;unfold tM at hm
 refine aC ?_;refine aJ [] (fun f w=>∃ a,aIr a=some R/\f 3=i64 a/\aD G K (L) w) aI ?_
 obtain ⟨h,b,ho⟩:=aB hm
 exact aY [0] b (fun c d f w=>f 3=i64 c/\f 4=i64 d/\aD G K (L) w) aI aI
theorem aFh {t:aO} {h:Nat} {p:(List Int)} {R:aO} (hm:vF t p=some R) (z:aD G K (L) w) (V:cK K a1 h (zC t a4 c5 a7 c8)) (Z:aT K a4 c5 t.L) (o:aT K a7 c8 t.E) (a0:aT K a10 c11 p):
  Calls prog 36 ([cU a1 h,zS a10 p.length c11]:List Value).toArray w (dO fun v w'=>∃ i j k l,v=Value.agg (zCa R i j k l)/\aD G K (aH 9 K i j R.L::aH 61 K k l R.E::L) w'):=by
 refine cA func36 ?_;unfold vF at hm
 refine aC ?_;refine jH fun m a2 a3=>?_
 refine aC ?_;refine nE ([]:List Edge) fun a5 a6 a8=>?_
 refine aC ?_;refine aJ [0,1,4] (fun f w=>∃ a b c,xT t p a=some R/\f 5=zS b a.length c/\aD G K (aH 61 K b c a::box m 27 zG::L) w) ?_ ?_
 ·rintro f a9 ⟨a,b,c,hm,b0,b1⟩
  unfold xT at hm
  refine aC ?_;refine aBr [(0,0),(2,0),(3,0),(4,0),(5,0),(6,0),(7,0),(8,0),(9,0),(10,0),(11,0),(12,0),(13,0),(1,1),(14,1),(15,2)] fun b2 b3=>?_
  exact aI
 obtain ⟨b4,q,ho⟩:=aB hm
 refine aY [0,1,4] q (fun d n f w=>∃ e g,f 5=zS e d.length g/\f 6=i64 n/\aD G K (aH 61 K e g d::box m 27 zG::L) w) aI ?_
 ·rintro d n b5 f b6 hm hr ⟨e,g,b7,b8,b9⟩
  unfold sL at hm
  refine aC ?_
  rcases aG hm with ⟨r,hm⟩|⟨r,hm⟩
  ·refine aC ?_;refine bT (aC ?_)
   obtain ⟨c0,u,hm⟩:=aB hm
   refine aC ?_;obtain ⟨c1,c2,x⟩:=aT.el (sz:=3) rfl o u
   cases x
   refine aC ?_;refine jH fun c3 c4 c6=>?_
   refine kM fun c7 y=>?_;refine aC ?_
   obtain ⟨c9,d0,d1,d2,d3⟩:=aD.lendBp y .head
   refine aBr [(0,0),(1,0),(2,0),(3,0),(4,0),(5,0),(6,0),(7,0),(8,0),(9,0),(10,0),(11,0),(12,0),(13,0),(14,1),(15,1),(16,0)] fun d4 d5=>?_;exact aI
  ·exact aI
theorem tE {a b:(List Int)} {R:Bool} (hm:sM a b=some R) (g:aD G K (L) w) (h:aT K a1 c2 a) (i:aT K a4 c5 b):
  Calls prog 43 ([zS a1 a.length c2,zS a4 b.length c5]:List Value).toArray w (dO fun v w'=>v=zB R/\aD G K (L) w'):=by
 refine cA func43 ?_;unfold sM at hm
 refine aC ?_
 rcases aG hm with ⟨c,hm⟩|⟨c,hm⟩
 ·exact aI
 ·refine aC ?_;refine aJ [] (fun f w=>aKZ=some R/\aD G K (L) w) aI ?_
  obtain ⟨j,d,ho⟩:=aB hm
  exact eM [0,1] d (fun e f w=>f 5=i64 e/\aD G K (L) w) aI aI
theorem aPe {a:(List Int)} {n:Int} {R:(List Int)} (hm:aGE a n=some R) (hs:aD G K (L) w) (V:aT K a1 c2 a):
  Calls prog 165 ([zS a1 a.length c2,i64 n]:List Value).toArray w (dO fun v w'=>∃ p q,v=zS p R.length q/\aD G K (aH 2 K p q R::L) w'):=by
 refine cA func165 ?_;unfold aGE at hm
 refine aC ?_;refine nE ([]:List Int) fun a4 w5 b5=>?_
 refine aC ?_;refine aJ [1] (fun f w=>∃ c h i j,aFK n c h=some R/\f 5=zS i c.length j/\f 6=zB h/\aD G K (aH 2 K i j c::L) w) ?_ ?_
 ·rintro f b6 ⟨c,h,i,j,hm,b7,b8,b9⟩
  unfold aFK at hm
  iterate 1 refine eU ?_
  exact rD [] (fun f w=>∃ k r t,aFJ k=some R/\f 5=zS r k.length t/\aD G K (aH 2 K r t k::L) w) aI aI
 obtain ⟨c0,Z,ho⟩:=aB hm
 refine mA [0,1] Z (fun b l d f w=>∃ e g,f 5=zS e b.length g/\f 6=zB l/\f 7=i64 d/\aD G K (aH 2 K e g b::L) w) aI ?_
 ·rintro b l d u f c1 hm hr ⟨e,g,c3,c4,c5,c6⟩
  unfold wL at hm
  refine aC ?_
  rcases aG hm with ⟨a0,hm⟩|⟨a0,hm⟩
  ·refine aC ?_;refine bT (rD [0,1,7] (fun f w=>∃ m x y z,aBe a d m x=some u/\f 5=zS y m.length z/\f 6=zB x/\aD G K (aH 2 K y z m::L) w) aI ?_)
   iterate 1 refine eU ?_
   refine bG [0,1,5,6,7] (fun f w=>∃ o,aBf a n b l d o=some u/\f 24=zB o/\aD G K (aH 2 K e g b::L) w) ?_ ?_
   ·rintro f c7 ⟨o,hm,c8,d0⟩
    unfold aBf at hm
    refine aC ?_
    rcases aG hm with ⟨a2,hm⟩|⟨a2,hm⟩
    ·refine aC ?_;obtain ⟨d1,a3,hm⟩:=aB hm
     refine aC ?_;obtain ⟨d2,d3,a5⟩:=aT.el (sz:=1) rfl V a3
     cases a5
     refine aC ?_
     rcases aG hm with ⟨a6,hm⟩|⟨a6,hm⟩
     ·refine aC ?_;refine nE ([n]:List Int) fun d4 d5 d6=>?_
      obtain ⟨a7,d7,hm⟩:=aB hm
      refine aGA fun a9 b0 d8 b1=>?_;refine aC ?_
      exact ⟨aU,a7,true,a9,b0,hm,rfl,rfl,b1⟩
     ·exact aI
    ·exact aI
   exact aI
  ·exact aI
theorem aIG {t:aO} {j:Nat} {p:(List Int)} {k:Int} {R:(List Int)} (hm:aGF t p k=some R) (hs:aD G K (L) w) (h3:cK K a1 j (zC t a4 c5 a7 c8)) (h6:aT K a4 c5 t.L) (q:aT K a7 c8 t.E) (a6:aT K a10 c11 p):
  Calls prog 163 ([cU a1 j,zS a10 p.length c11,i64 k]:List Value).toArray w (dO fun v w'=>∃ l m,v=zS l R.length m/\aD G K (aH 2 K l m R::L) w'):=by
 refine cA func163 ?_;unfold aGF at hm
 refine aC ?_;refine nE ([]:List Int) fun a8 a9 b0=>?_
 refine aC ?_;refine aJ [] (fun f w=>∃ d n o,aLa d=some R/\f 7=zS n d.length o/\aD G K (aH 2 K n o d::L) w) aI ?_
 obtain ⟨b1,r,ho⟩:=aB hm
 refine aY [0,1,2] r (fun e g f w=>∃ h i,f 7=zS h e.length i/\f 8=i64 g/\aD G K (aH 2 K h i e::L) w) aI ?_
 ·rintro e g u f b2 hm hr ⟨h,i,b3,b4,b5⟩
  unfold qX at hm
  refine aC ?_
  rcases aG hm with ⟨x,hm⟩|⟨x,hm⟩
  ·refine aC ?_;refine aJ [0,1,2,8] (fun f w=>∃ a b c,aBD g a=some u/\f 7=zS b a.length c/\aD G K (aH 2 K b c a::L) w) ?_ ?_
   ·rintro f b6 ⟨a,b,c,hm,y,z⟩
    unfold aBD at hm
    refine aC ?_;exact ⟨_,(zI hm).symm,aU,b,c,y,rfl,z⟩
   refine aC ?_;obtain ⟨b7,V,hm⟩:=aB hm
   refine aC ?_;obtain ⟨b8,b9,Z⟩:=aT.el (sz:=3) rfl q V
   cases Z
   refine aC ?_
   rcases aG hm with ⟨a0,hm⟩|⟨a0,hm⟩
   ·refine aC ?_;refine aBr [(0,0),(1,0),(2,0),(3,0),(4,0),(5,0),(6,0),(7,0),(8,0),(9,0),(10,0),(11,0),(12,0),(13,0),(14,0),(15,0),(16,0),(17,0),(18,0),(19,0),(20,0),(21,0),(22,0),(23,0),(24,1),(25,0)] fun c0 c1=>?_
    exact aI
   ·exact aI
  ·exact aI
theorem aGQ {t:aO} {k2:Nat} {p R:(List Int)} (hm:aDk t p=some R) (hs:aD G K (L) w) (h3:cK K a1 k2 (zC t a4 c5 a7 c8)) (h6:aT K a4 c5 t.L) (h9:aT K a7 c8 t.E) (a3:aT K a10 c11 p):
  Calls prog 125 ([cU a1 k2,zS a10 p.length c11]:List Value).toArray w (dO fun v w'=>∃ b8 b9,v=zS b8 R.length b9/\aD G K (aH 2 K b8 b9 R::L) w'):=by
 refine cA func125 ?_;unfold aDk at hm
 refine aC ?_;refine cQ (Kt:=K) (xs:=([]:List (List Int))) (cs:=[]) (vs:=[]) jB vX rfl rfl hs rfl (by kernel_rfl) rfl rfl rfl trivial (fun d9 e0 (i7:aD G K (aH 66 K d9 0 ([]:List (List Int))::L) e0)=>(aC ?_))
 refine aJ [1] (fun f w=>∃ a b d e,Hp.le K a/\qE p b=some R/\f 5=zS d b.length e/\aD G a (aH 66 a d e b::L) w) ?_ ?_
 ·rintro f i8 ⟨a,b,d,e,i9,hm,j0,j1⟩
  unfold qE at hm
  refine aC ?_;refine nE ([]:List Int) fun j2 j3 j4=>?_
  refine aC ?_;refine aJ [] (fun f w=>∃ a5 c0 c1,aIs a5=some R/\f 7=zS c0 a5.length c1/\aD G a (aH 2 K c0 c1 a5::L) w) aI ?_
  obtain ⟨j5,e1,ho⟩:=aB hm
  refine mA [1,5] e1 (fun c a6 k f w=>∃ g h,f 7=zS g c.length h/\f 8=i64 a6/\f 9=i64 k/\aD G a (aH 2 K g h c::aH 66 a d e b::L) w) aI ?_
  ·rintro c a6 k a8 f j6 hm hr ⟨g,h,j7,j8,j9,k0⟩
   unfold nG at hm
   refine aC ?_
   rcases aG hm with ⟨e2,hm⟩|⟨e2,hm⟩
   ·refine aC ?_;refine aJ [1,5,9] (fun f w=>∃ y a9 z V,aBE k y a9=some a8/\f 7=zS z y.length V/\f 8=i64 a9/\aD G a (aH 2 K z V y::aH 66 a d e b::L) w) ?_ ?_
    ·rintro f k1 ⟨y,a9,z,V,hm,e3,e4,e5⟩
     unfold aBE at hm
     refine aC ?_;exact ⟨_,(zI hm).symm,aU,z,V,e3,e4,rfl,e5⟩
    refine aC ?_;refine aJ [1,5,7,8,9] (fun f w=>∃ b0,aBG c a6 k b0=some a8/\f 10=i64 b0/\aD G a (aH 2 K g h c::aH 66 a d e b::L) w) ?_ ?_
    ·rintro f k3 ⟨b0,hm,k4,k5⟩
     unfold aBG at hm
     iterate 1 refine eU ?_
     exact rD [1,5,7,9] (fun f w=>∃ c2 c3,aBF c k c2 c3=some a8/\f 8=i64 c2/\f 10=i64 c3/\aD G a (aH 2 K g h c::aH 66 a d e b::L) w) aI aI
    obtain ⟨k6,e6,ho⟩:=aB hm
    refine aY [1,5,7,8,9] e6 (fun Z u f w=>f 10=i64 Z/\f 11=i64 u/\aD G a (aH 2 K g h c::aH 66 a d e b::L) w) aI ?_
    ·rintro Z u b1 f k7 hm hr ⟨k8,k9,l0⟩
     unfold pE at hm
     iterate 2 refine eU ?_
     refine bG [1,5,7,8,9,10,11] (fun f w=>∃ b2,pD p b c k Z u b2=some b1/\f 41=zB b2/\aD G a (aH 2 K g h c::aH 66 a d e b::L) w) ?_ ?_
     ·rintro f l1 ⟨b2,hm,l2,e7⟩
      unfold pD at hm
      refine aC ?_
      rcases aG hm with ⟨e8,hm⟩|⟨e8,hm⟩
      ·refine aC ?_;refine aJ [1,5,7,8,9,11] (fun f w=>∃ b3,sO u b3=some b1/\f 10=i64 b3/\aD G a (aH 2 K g h c::aH 66 a d e b::L) w) ?_ ?_
       ·rintro f l3 ⟨b3,hm,e9,f0⟩
        unfold sO at hm
        refine aC ?_;exact ⟨_,(zI hm).symm,aU,e9,rfl,f0⟩
       refine aC ?_;refine bG [1,5,7,8,9,10,11] (fun f w=>∃ c4,sP c Z u c4=some b1/\f 63=zB c4/\aD G a (aH 2 K g h c::aH 66 a d e b::L) w) aI ?_
       obtain ⟨l4,l5,b4,a0,c6⟩:=aD.lendSp e7 (zR _) zt1
       refine st_k ?_;refine aC ?_
       obtain ⟨l6,f1,hm⟩:=aB hm
       refine aC ?_;obtain ⟨l7,l8,f2⟩:=aT.el (sz:=1) rfl a3 f1
       cases f2
       refine aC ?_;obtain ⟨l9,f3,hm⟩:=aB hm
       refine aC ?_;obtain ⟨m0,m1,f4⟩:=aT.el (sz:=1) rfl a3 f3
       cases f4
       refine aC ?_
       rcases aG hm with ⟨f5,hm⟩|⟨f5,hm⟩
       ·refine aC ?_;obtain ⟨f6,b5,hm⟩:=aB hm
        have c7:=aKO b4 b5
        refine gE (fun _ a0=>cR jB rfl c7 rfl rfl rfl b5) (aC ?_);obtain ⟨m2,m3,f7⟩:=aT.el (sz:=1) rfl b4 b5
        obtain ⟨f8,f9,rfl,g0⟩:=f7
        refine aC ?_;obtain ⟨g1,c9,hm⟩:=aB hm
        refine gE (fun _ a0=>cR jB rfl c7 rfl rfl rfl c9) (aC ?_);obtain ⟨m4,m5,g2⟩:=aT.el (sz:=1) rfl b4 c9
        obtain ⟨g3,g4,rfl,g5⟩:=g2
        refine aC ?_;obtain ⟨g6,g7,hm⟩:=aB hm
        refine aMW (vs:=[zS f8 f6.length f9,zS g3 g1.length g4]) (v:=zB g6) call43 rfl (fun _ a0=>(tE g7 a0 g0 g5)) (aC ?_);refine yP (fun m6 g8=>?_)
        have m7:=c6 _ _ g8
        exact aI
       ·refine aC ?_;refine yP (fun m8 g9=>?_)
        have m9:=c6 _ _ g9
        exact aI
      ·exact aI
     exact aI
   ·exact aI
 obtain ⟨n0,h0,ho⟩:=aB hm
 refine aY [0,1] h0 (fun l d0 f w=>∃ j m n,Hp.le K j/\f 5=zS m l.length n/\f 6=i64 d0/\aD G j (aH 66 j m n l::L) w) aI ?_
 ·rintro l d0 n1 f n2 hm hr ⟨j,m,n,x,n3,n4,h1⟩
  unfold lJ at hm
  refine aC ?_
  rcases aG hm with ⟨h2,hm⟩|⟨h2,hm⟩
  ·refine aC ?_;refine bT (aC ?_)
   obtain ⟨o,h4,hm⟩:=aB hm
   refine bP call163 (aIG h4 h1 (h3.mono x) (h6.mono x) (h9.mono x) (a3.mono x)) ?_
   rintro _ h5 ⟨q,r,rfl,h7⟩
   have h8:aD G j (rows [2] ([(q,r)]:List (Dp.Hd (List Int))) [o]::aH 66 j m n l::L) h5:=aD.rowsOne h7
   refine cQ (Kt:=K) (xs:=aQ ([(q,r)]:List (Dp.Hd (List Int))) ([o]:List (List Int))) (cs:=[zS q o.length r]) (vs:=[(0,zS q o.length r)]) jB vX rfl rfl h8 rfl (by kernel_rfl) rfl rfl rfl ⟨rfl,trivial⟩ ?_
   intro i0 d1 (i1:aD G j (aH 66 K i0 1 (aQ ([(q,r)]:List (Dp.Hd (List Int))) ([o]:List (List Int)))::rows [2] ([(q,r)]:List (Dp.Hd (List Int))) ([o]:List (List Int))::aH 66 j m n l::L) d1)
   obtain ⟨a2,d2,i2,_,b6,_⟩:=aD.lendD' (i:=0) i1 rfl rfl rfl
   replace b6:aD G a2 (aH 66 j m n l::L) d1:=b6
   obtain ⟨i3,i4,hm⟩:=aB hm
   refine tR (i:=0) jB underlying43 vX rfl rfl b6 rfl d2 i2 i4 rfl rfl rfl rfl (fun d3 d4 i5 (i6:aD G a2 (aH 66 a2 d3 d4 i3::L) i5)=>(aC ?_));exact ⟨_,(zI hm).symm,aU,a2,d3,d4,(Hp.le_trans x d2),rfl,rfl,i6⟩
  ·exact aI
end Gv
namespace Gv
open Go.Value renaming slice→zS,bool→zB
open Option.some renaming inj→zI
open Gv.Hp renaming le_trans→zL,le_refl→zR
open Go Go.Proofs Go.Proofs.Tryz
set_option maxRecDepth 20000
set_option maxHeartbeats 40000000
variable {G:Env} {K:Hp} {L:List iD} {w:World} {a1 a4 a7 a10:Option Addr} {c5 c8 c2 c11:Nat}
theorem aLW {t:aO} {g:Nat} {R:((List Int) × Int)} (hm:aDl t=some R) (l:aD G K (L) w) (m:cK K a1 g (zC t a4 c5 a7 c8)) (n:aT K a4 c5 t.L) (o:aT K a7 c8 t.E):
  Calls prog 75 ([cU a1 g]:List Value).toArray w (dO fun v w'=>∃ h i,v=Value.tuple #[zS h R.1.length i,i64 R.2]/\aD G K (aH 2 K h i R.1::L) w'):=by
 refine cA func75 ?_;unfold aDl at hm
 refine aC ?_;obtain ⟨j,p,hm⟩:=aB hm
 refine aFB (e:=(0:Int)) gD aGc rfl rfl l rfl rfl rfl p rfl (fun q r (b6:aD G K (aH 2 K q j.length j::L) r)=>(aC ?_));refine bT ?_
 obtain ⟨b7,u,ho⟩:=aB hm
 refine aY [0] u (fun a k f w=>∃ b c,f 4=zS b a.length c/\f 5=i64 k/\aD G K (aH 2 K b c a::L) w) aI ?_
 ·rintro a k b8 f b9 hm hr ⟨b,c,c0,c1,x⟩
  unfold pF at hm
  refine aC ?_;refine bT (aC ?_)
  obtain ⟨c2,d,y,z,V⟩:=aD.lendSp x (zR _) .head
  obtain ⟨c3,Z,hm⟩:=aB hm
  refine bP call125 (aGQ Z z (m.mono d) (n.mono d) (o.mono d) y) ?_
  rintro _ c4 ⟨c6,c7,rfl,a0⟩
  have a2:=V _ _ a0
  refine aC ?_;obtain ⟨c9,a3,a5,a6,a8⟩:=aD.lendSp a2 (zR _) zt1
  obtain ⟨d0,a9,b0,b1,b2⟩:=aD.lendSp a6 a3 .head
  obtain ⟨d1,b3,hm⟩:=aB hm
  refine bP call43 (tE b3 b1 (a5.mono a9) b0) ?_
  rintro _ d2 ⟨rfl,b4⟩
  have b5:=b2 _ _ b4
  have d3:=a8 _ _ b5
  exact aI
theorem aFi {t:aO} {a:Nat} {R:(List Int)} (hm:aGG t=some R) (d:aD G K (L) w) (e:cK K a1 a (zC t a4 c5 a7 c8)) (g:aT K a4 c5 t.L) (h:aT K a7 c8 t.E):
  Calls prog 37 ([cU a1 a]:List Value).toArray w (dO fun v w'=>∃ b c,v=zS b R.length c/\aD G K (aH 2 K b c R::L) w'):=by
 exact aI
theorem aHO {t:aO} {d:Nat} {R:aO} (hm:aCv t=some R) (hs:aD G K (L) w) (e:cK K a1 d (zC t a4 c5 a7 c8)) (g:aT K a4 c5 t.L) (h:aT K a7 c8 t.E):
  Calls prog 15 ([cU a1 d]:List Value).toArray w (dO fun v w'=>∃ i j k l,v=Value.agg (zCa R i j k l)/\aD G K (aH 9 K i j R.L::aH 61 K k l R.E::L) w'):=by
 refine cA func15 ?_;unfold aCv at hm
 refine aC ?_;refine jH fun d3 d4 p=>?_
 refine aC ?_;obtain ⟨d5,q,hm⟩:=aB hm
 refine bP call35 (aAB q p e g h) ?_
 rintro _ d6 ⟨d7,d8,rfl,r⟩
 obtain ⟨d9,a,u,x,y⟩:=aD.lendSp r (zR _) .head
 obtain ⟨e0,z,hm⟩:=aB hm
 refine bP call34 (aCd z x (e.mono a) (g.mono a) (h.mono a) u) ?_
 rintro _ e1 ⟨e2,e3,e4,e5,rfl,V⟩
 have e6:=y _ _ V
 refine jH fun e7 e8 e9=>?_;refine kM fun f0 Z=>?_
 refine aC ?_;obtain ⟨f1,a0,a2,a3,a5⟩:=aD.lendSp Z (zR _) zt2
 obtain ⟨f2,a6,a8,a9,b0⟩:=aD.lendSp a3 a0 zt2
 obtain ⟨f3,m,b1,b2,b3⟩:=aD.lendBp a9 .head
 obtain ⟨f4,b4,hm⟩:=aB hm
 refine bP call37 (aFi b4 b2 b1 (a2.mono (zL a6 m)) (a8.mono m)) ?_
 rintro _ f5 ⟨f6,f7,rfl,b5⟩
 have b6:=b3 _ _ b5
 have b7:=b0 _ _ b6
 have b8:=a5 _ _ b7
 obtain ⟨f8,n,b9,c0,f9⟩:=aD.lendSp b8 (zR _) .head
 obtain ⟨g0,o,c1,c2,g1⟩:=aD.lendSp c0 n .head
 obtain ⟨g2,b,c3,c4,g3⟩:=aD.lendBp c2 .head
 obtain ⟨g4,c,c6,c7,c9⟩:=aD.lendSp c4 (zL (zL n o) b) .head
 obtain ⟨g5,d0,hm⟩:=aB hm
 refine bP call36 (aFh d0 c7 (c3.mono c) (b9.mono (zL (zL o b) c)) (c1.mono (zL b c)) c6) ?_
 rintro _ g6 ⟨g7,g8,g9,h0,rfl,d1⟩
 have h1:=c9 _ _ d1
 exact aI
theorem uY {e:Edge} {a:Nat} {p:(List Int)} {R:Bool} (hm:wM e p=some R) (c:aD G K (L) w) (d:cK K a1 a [i64 e.F,i64 e.B,i64 e.To]) (g:aT K a4 c5 p):
  Calls prog 76 ([cU a1 a,zS a4 p.length c5]:List Value).toArray w (dO fun v w'=>v=zB R/\aD G K (L) w'):=by
 refine cA func76 ?_;unfold wM at hm
 refine aC ?_;exact bG [] (fun f w=>∃ b,aCT b=some R/\f 4=zB b/\aD G K (L) w) aI aI
theorem aIH {d:(List Bool)} {R:(List Int)} (hm:aGH d=some R) (u:aD G K (L) w) (x:aT K a1 c2 d):
  Calls prog 77 ([zS a1 d.length c2]:List Value).toArray w (dO fun v w'=>∃ k l,v=zS k R.length l/\aD G K (aH 2 K k l R::L) w'):=by
 refine cA func77 ?_;unfold aGH at hm
 refine aC ?_;refine nE ([]:List Int) fun y z V=>?_
 refine aC ?_;refine aJ [] (fun f w=>∃ e m n,aLb e=some R/\f 3=zS m e.length n/\aD G K (aH 2 K m n e::L) w) aI ?_
 obtain ⟨Z,o,ho⟩:=aB hm
 refine aY [0] o (fun g h f w=>∃ i j,f 3=zS i g.length j/\f 4=i64 h/\aD G K (aH 2 K i j g::L) w) aI ?_
 ·rintro g h p f a0 hm hr ⟨i,j,a2,a3,a5⟩
  unfold qY at hm
  refine aC ?_
  rcases aG hm with ⟨q,hm⟩|⟨q,hm⟩
  ·refine aC ?_;refine aJ [0,4] (fun f w=>∃ a b c,aBH h a=some p/\f 3=zS b a.length c/\aD G K (aH 2 K b c a::L) w) ?_ ?_
   ·rintro f a6 ⟨a,b,c,hm,r,t⟩
    unfold aBH at hm
    refine aC ?_;exact ⟨_,(zI hm).symm,aU,b,c,r,rfl,t⟩
   exact aI
  ·exact aI
theorem aCe {t:aO} {k2:Nat} {p:(List Int)} {R:(List Bool)} (hm:xV t p=some R) (hs:aD G K (L) w) (h3:cK K a1 k2 (zC t a4 c5 a7 c8)) (h6:aT K a4 c5 t.L) (h9:aT K a7 c8 t.E) (c0:aT K a10 c11 p):
  Calls prog 78 ([cU a1 k2,zS a10 p.length c11]:List Value).toArray w (dO fun v w'=>∃ a3 a5,v=zS a3 R.length a5/\aD G K (aH 4 K a3 a5 R::L) w'):=by
 refine cA func78 ?_;unfold xV at hm
 refine aC ?_;obtain ⟨a,c1,hm⟩:=aB hm
 refine aFB (e:=(false:Bool)) gP ez_4 rfl rfl hs rfl rfl rfl c1 rfl (fun b c2 (g5:aD G K (aH 4 K b a.length a::L) c2)=>(aC ?_));refine aJ [0,1] (fun f w=>∃ d,xU t p d=some R/\f 5=zS b d.length a.length/\aD G K (aH 4 K b a.length d::L) w) ?_ ?_
 ·rintro f g6 ⟨d,hm,g7,g8⟩
  unfold xU at hm
  refine aC ?_;refine aJ [] (fun f w=>∃ m,aDM m=some R/\f 5=zS b m.length a.length/\aD G K (aH 4 K b a.length m::L) w) aI ?_
  obtain ⟨g9,c3,ho⟩:=aB hm
  refine aY [0,1] c3 (fun o a6 f w=>f 5=zS b o.length a.length/\f 7=zB a6/\aD G K (aH 4 K b a.length o::L) w) aI ?_
  ·rintro o a6 a8 f h0 hm hr ⟨h1,h2,h4⟩
   unfold qF at hm
   refine aC ?_
   rcases aG hm with ⟨c4,hm⟩|⟨c4,hm⟩
   ·refine aC ?_;refine aJ [0,1] (fun f w=>∃ g q,aDN g q=some a8/\f 5=zS b g.length a.length/\f 7=zB q/\aD G K (aH 4 K b a.length g::L) w) ?_ ?_
    ·rintro f h5 ⟨g,q,hm,c6,c7,c9⟩
     unfold aDN at hm
     refine aC ?_;exact ⟨_,(zI hm).symm,aU,c6,c7,c9⟩
    refine aC ?_;refine aJ [0,1] (fun f w=>∃ r a9,aHL r a9=some a8/\f 5=zS b r.length a.length/\f 7=zB a9/\aD G K (aH 4 K b a.length r::L) w) aI ?_
    obtain ⟨h7,d0,ho⟩:=aB hm
    refine mA [0,1] d0 (fun c u j f w=>f 5=zS b c.length a.length/\f 7=zB u/\f 8=i64 j/\aD G K (aH 4 K b a.length c::L) w) aI ?_
    ·rintro c u j b0 f h8 hm hr ⟨d1,i0,i1,d2⟩
     unfold oB at hm
     refine aC ?_
     rcases aG hm with ⟨d3,hm⟩|⟨d3,hm⟩
     ·refine aC ?_;refine aJ [0,1,8] (fun f w=>∃ k x,oA j k x=some b0/\f 5=zS b k.length a.length/\f 7=zB x/\aD G K (aH 4 K b a.length k::L) w) ?_ ?_
      ·rintro f i2 ⟨k,x,hm,d4,d5,d6⟩
       unfold oA at hm
       refine aC ?_;exact ⟨_,(zI hm).symm,aU,d4,d5,rfl,d6⟩
      refine aC ?_;obtain ⟨i3,l,hm⟩:=aB hm
      have b1:=bY d2 (i:=0) rfl l
      refine aK (cR gP rfl b1 rfl rfl rfl l) (aC ?_)
      rcases aG hm with ⟨d7,hm⟩|⟨d7,hm⟩
      ·exact aI
      ·refine aC ?_;refine aJ [0,1,5,7,8] (fun f w=>∃ y,aAq c u j y=some b0/\f 9=zB y/\aD G K (aH 4 K b a.length c::L) w) ?_ ?_
       ·rintro f i4 ⟨y,hm,i5,d8⟩
        unfold aAq at hm
        refine aC ?_
        rcases aG hm with ⟨d9,hm⟩|⟨d9,hm⟩
        ·iterate 5 refine eU ?_
         refine aK (cR gP rfl b1 rfl rfl rfl l) ?_;obtain ⟨b2,b3,hm⟩:=aB hm
         refine lU (i:=0) (t:=0) (ns:=[zB false]) (e':=(false:Bool)) sizeOf4 d8 rfl (zR _) rfl rfl rfl l b3 rfl rfl (oR rfl) rfl (fun cs h=>by cases h;rfl) (fun e0 (e1:aD G K (aH 4 K b a.length b2::L) e0)=>(aC ?_));exact ⟨aU,b2,true,hm,(Eq.trans d1 (congrArg (fun n=>zS b n a.length) (gX b3))),rfl,e1⟩
        ·exact aI
       obtain ⟨i6,e2,ho⟩:=aB hm
       refine aY [0,1,5,7,8] e2 (fun b4 z f w=>f 9=zB b4/\f 10=i64 z/\aD G K (aH 4 K b a.length c::L) w) aI ?_
       ·rintro b4 z e3 f i7 hm hr ⟨i8,i9,j0⟩
        unfold lL at hm
        refine aC ?_
        rcases aG hm with ⟨e4,hm⟩|⟨e4,hm⟩
        ·refine aC ?_;refine bT (aC ?_)
         obtain ⟨j1,e5,hm⟩:=aB hm
         refine aC ?_;obtain ⟨j2,j3,e6⟩:=aT.el (sz:=3) rfl h9 e5
         cases e6
         refine aC ?_;refine jH fun j4 j5 j6=>?_
         refine kM fun j7 e7=>?_
         iterate 2 refine eU ?_
         refine bG [0,1,5,7,8,10] (fun f w=>∃ V,lK z V=some e3/\f 9=zB V/\aD G K (aH 4 K b a.length c::L) w) ?_ ?_
         ·rintro f j8 ⟨V,hm,e8,e9⟩
          unfold lK at hm
          refine aC ?_;exact ⟨_,(zI hm).symm,aU,e8,rfl,e9⟩
         refine aC ?_
         rcases aG hm with ⟨f0,hm⟩|⟨f0,hm⟩
         ·exact aI
         ·refine aC ?_
          rcases aG hm with ⟨f1,hm⟩|⟨f1,hm⟩
          ·refine aC ?_;obtain ⟨j9,f2,f3,f4,k0⟩:=aD.lendBp e7 .head
           obtain ⟨k1,f5,hm⟩:=aB hm
           exact bP call76 (uY f5 f4 f3 (c0.mono f2)) aI
          ·exact aI
        ·exact aI
     ·exact aI
   ·exact aI
 obtain ⟨k3,f6,ho⟩:=aB hm
 refine aY [0,1] f6 (fun Z b5 f w=>f 5=zS b Z.length a.length/\f 6=i64 b5/\aD G K (aH 4 K b a.length Z::L) w) aI ?_
 ·rintro Z b5 k4 f k5 hm hr ⟨f7,k6,b6⟩
  unfold kC at hm
  refine aC ?_
  rcases aG hm with ⟨f8,hm⟩|⟨f8,hm⟩
  ·refine aC ?_;refine bT (aC ?_)
   obtain ⟨k7,a0,hm⟩:=aB hm
   have f9:=bY b6 (i:=0) rfl a0
   refine aK (cR gP rfl f9 rfl rfl rfl a0) ?_;obtain ⟨g0,b7,hm⟩:=aB hm
   refine lU (i:=0) (t:=0) (ns:=[zB true]) (e':=(true:Bool)) sizeOf4 b6 rfl (zR _) rfl rfl rfl a0 b7 rfl rfl (oR rfl) rfl (fun cs h=>by cases h;rfl) (fun g1 (g2:aD G K (aH 4 K b a.length g0::L) g1)=>(aC ?_));exact ⟨_,(zI hm).symm,aU,(Eq.trans f7 (congrArg (fun n=>zS b n a.length) (gX b7))),rfl,g2⟩
  ·exact aI
theorem aAQ {t:aO} {k2:Nat} {p:(List Int)} {k:Bool} {R:aO} (hm:vG t p k=some R) (hs:aD G K (L) w) (h3:cK K a1 k2 (zC t a4 c5 a7 c8)) (h6:aT K a4 c5 t.L) (h9:aT K a7 c8 t.E) (l:aT K a10 c11 p):
  Calls prog 38 ([cU a1 k2,zS a10 p.length c11,zB k]:List Value).toArray w (dO fun v w'=>∃ a5 a6 a8 a9,v=Value.agg (zCa R a5 a6 a8 a9)/\aD G K (aH 9 K a5 a6 R.L::aH 61 K a8 a9 R.E::L) w'):=by
 let a:=zG
 refine cA func38 ?_;unfold vG at hm
 refine aC ?_;refine jH fun b f7 f8=>?_
 refine aC ?_;refine nE ([]:List Edge) fun f9 g0 g1=>?_
 refine aC ?_;refine aJ [0,1,2,6] (fun f w=>∃ d m n,xW t p k d=some R/\f 7=zS m d.length n/\aD G K (aH 61 K m n d::box b 27 a::L) w) ?_ ?_
 ·rintro f g2 ⟨d,m,n,hm,g3,b8⟩
  unfold xW at hm
  iterate 1 refine eU ?_
  refine rD [0,1,6] (fun f w=>∃ e o q,oY t p e=some R/\f 7=zS o e.length q/\aD G K (aH 61 K o q e::box b 27 a::L) w) ?_ ?_
  ·rintro f g4 ⟨e,o,q,hm,g5,g6⟩
   unfold oY at hm
   refine aC ?_;refine aBr [(0,0),(2,0),(3,0),(4,0),(5,0),(6,0),(7,0),(8,0),(9,0),(10,0),(11,0),(12,0),(13,0),(1,1),(14,1),(15,2)] fun g7 g8=>?_
   exact aI
  refine aC ?_
  rcases aG hm with ⟨b9,hm⟩|⟨b9,hm⟩
  ·refine aC ?_;obtain ⟨g9,c0,hm⟩:=aB hm
   refine bP call78 (aCe c0 b8 h3 h6 h9 l) ?_
   rintro _ h0 ⟨h1,h2,rfl,c1⟩
   obtain ⟨h4,h5,c2,c3,c4⟩:=aD.lendSp c1 (zR _) .head
   obtain ⟨c6,c7,hm⟩:=aB hm
   refine bP call77 (aIH c7 c3 c2) ?_
   rintro _ h7 ⟨c9,d0,rfl,d1⟩
   have h8:=c4 _ _ d1
   refine aC ?_;refine aJ [0,1,6] (fun f w=>∃ r b0 b1,aCw t p r=some R/\f 7=zS b0 r.length b1/\aD G K (aH 61 K b0 b1 r::box b 27 a::L) w) aI ?_
   obtain ⟨i0,d2,ho⟩:=aB hm
   refine aY [0,1,6,10] d2 (fun u b2 f w=>∃ x y,f 7=zS x u.length y/\f 11=i64 b2/\aD G K (aH 2 K c9 d0 c6::aH 61 K x y u::box b 27 a::L) w) aI ?_
   ·rintro u b2 i1 f i2 hm hr ⟨x,y,i3,i4,d3⟩
    unfold kD at hm
    refine aC ?_
    rcases aG hm with ⟨d4,hm⟩|⟨d4,hm⟩
    ·refine aC ?_;refine bT ?_
     obtain ⟨i5,i6,b3,i7,d5⟩:=aD.lendSp d3 (zR _) .head
     refine aBr [(0,0),(1,0),(2,0),(3,0),(4,0),(5,0),(6,0),(7,0),(8,0),(9,0),(10,0),(11,0),(12,0),(13,0),(14,0),(15,0),(16,1),(17,1),(18,0)] fun i8 i9=>?_;refine aC ?_
     obtain ⟨j0,g,hm⟩:=aB hm
     have b4:=aKO b3 g
     refine cS rfl (fun _ _=>cR gD rfl b4 rfl rfl rfl g) ?_;obtain ⟨j1,j2,d6⟩:=aT.el (sz:=1) rfl b3 g
     cases d6
     refine aC ?_;obtain ⟨c,d7,hm⟩:=aB hm
     refine aC ?_;obtain ⟨j3,j4,d8⟩:=aT.el (sz:=1) rfl l d7
     cases d8
     iterate 4 refine eU ?_
     refine cS rfl (fun _ _=>cR gD rfl b4 rfl rfl rfl g) ?_
     iterate 3 refine eU ?_
     refine cS rfl (fun _ _=>dI (vs:=[(0,i64 c),(2,i64 c)]) (cs:=[i64 c,i64 0,i64 c]) aPy rfl (by kernel_rfl)) (lV rfl (nE ([⟨c,0,c⟩]:List Edge) fun j5 j6 d9=>?_));refine aM (aF ⟨⟨_,d9⟩,?_⟩)
     refine lV rfl ?_;obtain ⟨j7,j8,hm⟩:=aB hm
     refine aGA fun j9 k0 k1 b5=>?_;refine aM (aF ⟨⟨_,b5⟩,?_⟩)
     refine aC ?_;refine tS ?_
     have k3:=d5 _ _ b5
     exact aI
    ·exact aI
  ·exact aI
 obtain ⟨k4,e0,ho⟩:=aB hm
 refine aY [0,1,2,6] e0 (fun z V f w=>∃ Z a0,f 7=zS Z z.length a0/\f 8=i64 V/\aD G K (aH 61 K Z a0 z::box b 27 a::L) w) aI ?_
 ·rintro z V e1 f k5 hm hr ⟨Z,a0,k6,k7,k8⟩
  unfold kE at hm
  refine aC ?_
  rcases aG hm with ⟨e2,hm⟩|⟨e2,hm⟩
  ·refine aC ?_;refine aJ [0,1,2,6,8] (fun f w=>∃ h i j,sQ V h=some e1/\f 7=zS i h.length j/\aD G K (aH 61 K i j h::box b 27 a::L) w) ?_ ?_
   ·rintro f k9 ⟨h,i,j,hm,e3,e4⟩
    unfold sQ at hm
    refine aC ?_;exact ⟨_,(zI hm).symm,aU,i,j,e3,rfl,e4⟩
   refine aC ?_;obtain ⟨l0,e5,hm⟩:=aB hm
   refine aC ?_;obtain ⟨l1,l2,e6⟩:=aT.el (sz:=3) rfl h9 e5
   cases e6
   refine aC ?_;refine jH fun l3 l4 l5=>?_
   refine kM fun l6 e7=>?_;refine aC ?_
   obtain ⟨l7,e8,e9,f0,f1⟩:=aD.lendBp e7 .head
   obtain ⟨l8,f2,hm⟩:=aB hm
   refine bP call76 (uY f2 f0 e9 (l.mono e8)) ?_
   rintro _ l9 ⟨rfl,f3⟩
   have f4:=f1 _ _ f3
   refine aC ?_
   rcases aG hm with ⟨f5,hm⟩|⟨f5,hm⟩
   ·refine aC ?_;obtain ⟨m0,m1,m2,m3,m4⟩:=aD.lendBp f4 .head
    refine aBr [(0,0),(1,0),(2,0),(3,0),(4,0),(5,0),(6,0),(7,0),(8,0),(9,0),(10,0),(11,0),(12,0),(13,0),(14,1),(15,1),(16,0)] fun m5 m6=>?_;exact aI
   ·exact aI
  ·exact aI
theorem aHP {t:aO} {Z:Nat} {p:(List Int)} {k:Int} {R:(List Bool)} (hm:aEN t p k=some R) (hs:aD G K (L) w) (h3:cK K a1 Z (zC t a4 c5 a7 c8)) (h6:aT K a4 c5 t.L) (h9:aT K a7 c8 t.E) (b7:aT K a10 c11 p):
  Calls prog 164 ([cU a1 Z,zS a10 p.length c11,i64 k]:List Value).toArray w (dO fun v w'=>∃ a0 a2,v=zS a0 R.length a2/\aD G K (aH 4 K a0 a2 R::L) w'):=by
 refine cA func164 ?_;unfold aEN at hm
 refine aC ?_;obtain ⟨a,b8,hm⟩:=aB hm
 refine aFB (e:=(false:Bool)) gP ez_4 rfl rfl hs rfl rfl rfl b8 rfl (fun b b9 (a3:aD G K (aH 4 K b a.length a::L) b9)=>(aC ?_));obtain ⟨f4,o,hm⟩:=aB hm
 have g:=bY a3 (i:=0) rfl o
 refine aK (cR gP rfl g rfl rfl rfl o) ?_;obtain ⟨c0,a5,hm⟩:=aB hm
 refine lU (i:=0) (t:=0) (ns:=[zB true]) (e':=(true:Bool)) sizeOf4 a3 rfl (zR _) rfl rfl rfl o a5 rfl rfl (oR rfl) rfl (fun cs h=>by cases h;rfl) (fun c1 (c2:aD G K (aH 4 K b a.length c0::L) c1)=>(aC ?_));refine aJ [] (fun f w=>∃ q,aJM q=some R/\f 7=zS b q.length a.length/\aD G K (aH 4 K b a.length q::L) w) aI ?_
 obtain ⟨f5,c3,ho⟩:=aB hm
 refine aY [0,1] c3 (fun r a6 f w=>f 7=zS b r.length a.length/\f 8=zB a6/\aD G K (aH 4 K b a.length r::L) w) ?_ ?_
 ·exact ⟨(Eq.trans rfl (congrArg (fun n=>zS b n a.length) (gX a5))),rfl,c2⟩
 ·rintro r a6 a8 f f6 hm hr ⟨f7,f8,f9⟩
  unfold vI at hm
  refine aC ?_
  rcases aG hm with ⟨c4,hm⟩|⟨c4,hm⟩
  ·refine aC ?_;refine aJ [0,1] (fun f w=>∃ j u,aGg j u=some a8/\f 7=zS b j.length a.length/\f 8=zB u/\aD G K (aH 4 K b a.length j::L) w) ?_ ?_
   ·rintro f g0 ⟨j,u,hm,c6,c7,c9⟩
    unfold aGg at hm
    refine aC ?_;exact ⟨_,(zI hm).symm,aU,c6,c7,c9⟩
   refine aC ?_;refine aJ [0,1] (fun f w=>∃ x a9,aJN x a9=some a8/\f 7=zS b x.length a.length/\f 8=zB a9/\aD G K (aH 4 K b a.length x::L) w) aI ?_
   obtain ⟨g1,d0,ho⟩:=aB hm
   refine mA [0,1] d0 (fun d y l f w=>f 7=zS b d.length a.length/\f 8=zB y/\f 9=i64 l/\aD G K (aH 4 K b a.length d::L) w) aI ?_
   ·rintro d y l b0 f g2 hm hr ⟨d1,g3,g4,g5⟩
    unfold rM at hm
    refine aC ?_
    rcases aG hm with ⟨d2,hm⟩|⟨d2,hm⟩
    ·refine aC ?_;refine aJ [0,1,9] (fun f w=>∃ m z,vH l m z=some b0/\f 7=zS b m.length a.length/\f 8=zB z/\aD G K (aH 4 K b a.length m::L) w) ?_ ?_
     ·rintro f g6 ⟨m,z,hm,d3,d4,d5⟩
      unfold vH at hm
      refine aC ?_;exact ⟨_,(zI hm).symm,aU,d3,d4,rfl,d5⟩
     refine aC ?_;obtain ⟨c,d6,hm⟩:=aB hm
     refine aC ?_;obtain ⟨g7,g8,d7⟩:=aT.el (sz:=3) rfl h9 d6
     cases d7
     refine aC ?_;refine jH fun b1 g9 h0=>?_
     refine kM fun h1 d8=>?_
     iterate 3 refine eU ?_
     refine bG [0,1,7,8,9,10] (fun f w=>∃ V,oU d y l c V=some b0/\f 52=zB V/\aD G K (box b1 61 [i64 c.F,i64 c.B,i64 c.To]::aH 4 K b a.length d::L) w) ?_ ?_
     ·rintro f h2 ⟨V,hm,h4,d9⟩
      unfold oU at hm
      refine aC ?_
      rcases aG hm with ⟨e0,hm⟩|⟨e0,hm⟩
      ·refine aC ?_;obtain ⟨h5,b2,hm⟩:=aB hm
       refine aK (cR gP rfl g rfl rfl rfl b2) ?_;obtain ⟨b3,b4,hm⟩:=aB hm
       refine lU (i:=1) (t:=0) (ns:=[zB true]) (e':=(true:Bool)) sizeOf4 d9 rfl (zR _) rfl rfl rfl b2 b4 rfl rfl (oR rfl) rfl (fun cs h=>by cases h;rfl) (fun e1 (h7:aD G K (box b1 61 [i64 c.F,i64 c.B,i64 c.To]::aH 4 K b a.length b3::L) e1)=>(aC ?_));exact ⟨aU,b3,true,hm,(Eq.trans d1 (congrArg (fun n=>zS b n a.length) (gX b4))),rfl,oK⟩
      ·exact aI
     refine aC ?_;obtain ⟨h8,e2,hm⟩:=aB hm
     refine aK (cR gP rfl g rfl rfl rfl e2) (aC ?_)
     rcases aG hm with ⟨e3,hm⟩|⟨e3,hm⟩
     ·refine aC ?_;obtain ⟨i0,e4,hm⟩:=aB hm
      refine aK (cR gP rfl g rfl rfl rfl e4) (aC ?_)
      rcases aG hm with ⟨e5,hm⟩|⟨e5,hm⟩
      ·refine aC ?_;obtain ⟨i1,e6,e7,e8,e9⟩:=aD.lendBp d8 .head
       obtain ⟨i2,f0,hm⟩:=aB hm
       refine bP call76 (uY f0 e8 e7 (b7.mono e6)) ?_
       rintro _ i3 ⟨rfl,f1⟩
       have i4:=e9 _ _ f1
       exact aI
      ·exact aI
     ·exact aI
    ·exact aI
  ·exact aI
theorem aGR {t:aO} {r:Nat} {p:(List Int)} {k:Int} {R:(List Int)} (hm:aDm t p k=some R) (hs:aD G K (L) w) (h3:cK K a1 r (zC t a4 c5 a7 c8)) (h6:aT K a4 c5 t.L) (u:aT K a7 c8 t.E) (x:aT K a10 c11 p):
  Calls prog 126 ([cU a1 r,zS a10 p.length c11,i64 k]:List Value).toArray w (dO fun v w'=>∃ y z,v=zS y R.length z/\aD G K (aH 2 K y z R::L) w'):=by
 refine cA func126 ?_;unfold aDm at hm
 refine aC ?_;obtain ⟨l,a9,hm⟩:=aB hm
 refine bP call164 (aHP a9 hs h3 h6 u x) ?_
 rintro _ c9 ⟨m,n,rfl,d0⟩
 refine aC ?_;refine nE ([]:List Int) fun d1 d2 d3=>?_
 refine aC ?_;refine aJ [] (fun f w=>∃ o V Z,aIt o=some R/\f 8=zS V o.length Z/\aD G K (aH 2 K V Z o::L) w) aI ?_
 obtain ⟨d4,b0,ho⟩:=aB hm
 refine aY [0,1,7] b0 (fun a b f w=>∃ c d,f 8=zS c a.length d/\f 9=i64 b/\aD G K (aH 2 K c d a::aH 4 K m n l::L) w) aI ?_
 ·rintro a b a0 f d5 hm hr ⟨c,d,d6,d7,d8⟩
  unfold nH at hm
  refine aC ?_
  rcases aG hm with ⟨b1,hm⟩|⟨b1,hm⟩
  ·refine aC ?_;refine aJ [0,1,7,9] (fun f w=>∃ e g h,sS b e=some a0/\f 8=zS g e.length h/\aD G K (aH 2 K g h e::aH 4 K m n l::L) w) ?_ ?_
   ·rintro f d9 ⟨e,g,h,hm,b2,b3⟩
    unfold sS at hm
    refine aC ?_;exact ⟨_,(zI hm).symm,aU,g,h,b2,rfl,b3⟩
   refine aC ?_;obtain ⟨j,b4,hm⟩:=aB hm
   refine aC ?_;obtain ⟨e0,e1,b5⟩:=aT.el (sz:=3) rfl u b4
   cases b5
   refine aC ?_;refine jH fun b6 e2 e3=>?_
   refine kM fun e4 a2=>?_
   iterate 3 refine eU ?_
   refine bG [0,1,7,8,9,10] (fun f w=>∃ q,pG p a b j q=some a0/\f 41=zB q/\aD G K (box b6 61 [i64 j.F,i64 j.B,i64 j.To]::aH 2 K c d a::aH 4 K m n l::L) w) ?_ ?_
   ·rintro f e5 ⟨q,hm,e6,b7⟩
    unfold pG at hm
    refine aC ?_
    rcases aG hm with ⟨b8,hm⟩|⟨b8,hm⟩
    ·refine aC ?_;obtain ⟨e7,e8,e9,f0,f1⟩:=aD.lendBp b7 .head
     refine aBr [(0,0),(1,0),(2,0),(3,0),(4,0),(5,0),(6,0),(7,0),(8,0),(9,0),(10,0),(11,0),(12,1),(13,0)] fun f2 f3=>?_;exact aI
    ·exact aI
   refine aC ?_;obtain ⟨f4,a3,hm⟩:=aB hm
   have b9:=bY a2 (i:=2) rfl a3
   refine aK (cR gP rfl b9 rfl rfl rfl a3) (aC ?_)
   rcases aG hm with ⟨c0,hm⟩|⟨c0,hm⟩
   ·refine aC ?_;obtain ⟨f5,c1,c2,c3,c4⟩:=aD.lendBp a2 .head
    obtain ⟨f6,c6,hm⟩:=aB hm
    refine bP call76 (uY c6 c3 c2 (x.mono c1)) ?_
    rintro _ f7 ⟨rfl,c7⟩
    have f8:=c4 _ _ c7
    exact aI
   ·exact aI
  ·exact aI
theorem aGS {t:aO} {k2:Nat} {p:(List Int)} {c3:Bool} {R:(List Int)} (hm:aDn t p c3=some R) (hs:aD G K (L) w) (h3:cK K a1 k2 (zC t a4 c5 a7 c8)) (h6:aT K a4 c5 t.L) (h9:aT K a7 c8 t.E) (Z:aT K a10 c11 p):
  Calls prog 79 ([cU a1 k2,zS a10 p.length c11,zB c3]:List Value).toArray w (dO fun v w'=>∃ c9 d0,v=zS c9 R.length d0/\aD G K (aH 2 K c9 d0 R::L) w'):=by
 refine cA func79 ?_;unfold aDn at hm
 refine aC ?_;obtain ⟨o,e6,hm⟩:=aB hm
 refine bP call78 (aCe e6 hs h3 h6 h9 Z) ?_
 rintro _ k4 ⟨q,r,rfl,e7⟩
 refine aC ?_;refine cQ (Kt:=K) (xs:=([]:List (List Int))) (cs:=[]) (vs:=[]) jB vX rfl rfl e7 rfl (by kernel_rfl) rfl rfl rfl trivial (fun e8 e9 (k5:aD G K (aH 66 K e8 0 ([]:List (List Int))::aH 4 K q r o::L) e9)=>(aC ?_))
 refine aJ [1] (fun f w=>∃ a b e g,Hp.le K a/\aAr p b=some R/\f 8=zS e b.length g/\aD G a (aH 66 a e g b::L) w) ?_ ?_
 ·rintro f k6 ⟨a,b,e,g,k7,hm,k8,k9⟩
  unfold aAr at hm
  refine aC ?_;refine nE ([]:List Int) fun l0 l1 l2=>?_
  refine aC ?_;refine aJ [] (fun f w=>∃ b0 d1 d2,aIu b0=some R/\f 11=zS d1 b0.length d2/\aD G a (aH 2 K d1 d2 b0::L) w) aI ?_
  obtain ⟨l3,f0,ho⟩:=aB hm
  refine mA [1,8] f0 (fun c b1 y f w=>∃ k l,f 11=zS k c.length l/\f 12=i64 b1/\f 13=i64 y/\aD G a (aH 2 K k l c::aH 66 a e g b::L) w) aI ?_
  ·rintro c b1 y b2 f l4 hm hr ⟨k,l,l5,l6,l7,l8⟩
   unfold aIw at hm
   refine aC ?_
   rcases aG hm with ⟨f1,hm⟩|⟨f1,hm⟩
   ·refine aC ?_;refine aJ [1,8,13] (fun f w=>∃ a0 b3 a2 a3,aEO y a0 b3=some b2/\f 11=zS a2 a0.length a3/\f 12=i64 b3/\aD G a (aH 2 K a2 a3 a0::aH 66 a e g b::L) w) ?_ ?_
    ·rintro f l9 ⟨a0,b3,a2,a3,hm,f2,f3,f4⟩
     unfold aEO at hm
     refine aC ?_;exact ⟨_,(zI hm).symm,aU,a2,a3,f2,f3,rfl,f4⟩
    refine aC ?_;refine aJ [1,8,11,12,13] (fun f w=>∃ b4,aEQ c b1 y b4=some b2/\f 14=i64 b4/\aD G a (aH 2 K k l c::aH 66 a e g b::L) w) ?_ ?_
    ·rintro f m0 ⟨b4,hm,m1,m2⟩
     unfold aEQ at hm
     iterate 1 refine eU ?_
     exact rD [1,8,11,13] (fun f w=>∃ d3 d4,aEP c y d3 d4=some b2/\f 12=i64 d3/\f 14=i64 d4/\aD G a (aH 2 K k l c::aH 66 a e g b::L) w) aI aI
    obtain ⟨m3,f5,ho⟩:=aB hm
    refine aY [1,8,11,12,13] f5 (fun a5 z f w=>f 14=i64 a5/\f 15=i64 z/\aD G a (aH 2 K k l c::aH 66 a e g b::L) w) aI ?_
    ·rintro a5 z b5 f m4 hm hr ⟨m5,m6,m7⟩
     unfold aIv at hm
     iterate 2 refine eU ?_
     refine bG [1,8,11,12,13,14,15] (fun f w=>∃ b6,aBJ p b c y a5 z b6=some b5/\f 59=zB b6/\aD G a (aH 2 K k l c::aH 66 a e g b::L) w) ?_ ?_
     ·rintro f m8 ⟨b6,hm,m9,f6⟩
      unfold aBJ at hm
      refine aC ?_
      rcases aG hm with ⟨f7,hm⟩|⟨f7,hm⟩
      ·refine aC ?_;refine aJ [1,8,11,12,13,15] (fun f w=>∃ b7,aBI z b7=some b5/\f 14=i64 b7/\aD G a (aH 2 K k l c::aH 66 a e g b::L) w) ?_ ?_
       ·rintro f n0 ⟨b7,hm,f8,f9⟩
        unfold aBI at hm
        refine aC ?_;exact ⟨_,(zI hm).symm,aU,f8,rfl,f9⟩
       refine aC ?_;refine bG [1,8,11,12,13,14,15] (fun f w=>∃ d5,aER c a5 z d5=some b5/\f 81=zB d5/\aD G a (aH 2 K k l c::aH 66 a e g b::L) w) aI ?_
       obtain ⟨n1,n2,b8,a6,d6⟩:=aD.lendSp f6 (zR _) zt1
       refine st_k ?_;refine aC ?_
       obtain ⟨n3,g0,hm⟩:=aB hm
       refine aC ?_;obtain ⟨n4,n5,g1⟩:=aT.el (sz:=1) rfl Z g0
       cases g1
       refine aC ?_;obtain ⟨n6,g2,hm⟩:=aB hm
       refine aC ?_;obtain ⟨n7,n8,g3⟩:=aT.el (sz:=1) rfl Z g2
       cases g3
       refine aC ?_
       rcases aG hm with ⟨g4,hm⟩|⟨g4,hm⟩
       ·refine aC ?_;obtain ⟨g5,b9,hm⟩:=aB hm
        have d7:=aKO b8 b9
        refine gE (fun _ a6=>cR jB rfl d7 rfl rfl rfl b9) (aC ?_);obtain ⟨n9,o0,g6⟩:=aT.el (sz:=1) rfl b8 b9
        obtain ⟨g7,g8,rfl,g9⟩:=g6
        refine aC ?_;obtain ⟨h0,d8,hm⟩:=aB hm
        refine gE (fun _ a6=>cR jB rfl d7 rfl rfl rfl d8) (aC ?_);obtain ⟨o1,o2,h1⟩:=aT.el (sz:=1) rfl b8 d8
        obtain ⟨h2,h4,rfl,h5⟩:=h1
        refine aC ?_;obtain ⟨h7,h8,hm⟩:=aB hm
        refine aMW (vs:=[zS g7 g5.length g8,zS h2 h0.length h4]) (v:=zB h7) call43 rfl (fun _ a6=>(tE h8 a6 g9 h5)) (aC ?_);refine yP (fun o3 i0=>?_)
        have o4:=d6 _ _ i0
        exact aI
       ·refine aC ?_;refine yP (fun o5 i1=>?_)
        have o6:=d6 _ _ i1
        exact aI
      ·exact aI
     exact aI
   ·exact aI
 obtain ⟨o7,i2,ho⟩:=aB hm
 refine aY [0,1,2,7] i2 (fun h a8 f w=>∃ d u x,Hp.le K d/\f 8=zS u h.length x/\f 9=i64 a8/\aD G d (aH 66 d u x h::aH 4 K q r o::L) w) aI ?_
 ·rintro h a8 d9 f o8 hm hr ⟨d,u,x,V,o9,p0,i3⟩
  unfold lM at hm
  refine aC ?_
  rcases aG hm with ⟨i4,hm⟩|⟨i4,hm⟩
  ·refine aC ?_;refine bT (aC ?_)
   obtain ⟨e0,i5,hm⟩:=aB hm
   refine bP call126 (aGR i5 i3 (h3.mono V) (h6.mono V) (h9.mono V) (Z.mono V)) ?_
   rintro _ p1 ⟨i6,i7,rfl,p2⟩
   iterate 3 refine eU ?_
   refine rD [0,1,2,7,8,9] (fun f w=>∃ j m n,qG h a8 j=some d9/\f 10=zS m j.length n/\aD G d (aH 2 K m n j::aH 66 d u x h::aH 4 K q r o::L) w) ?_ ?_
   ·rintro f i8 ⟨j,m,n,hm,p3,i9⟩
    unfold qG at hm
    refine aC ?_
    have j0:aD G d (rows [2] ([(m,n)]:List (Dp.Hd (List Int))) [j]::aH 66 d u x h::aH 4 K q r o::L) i8:=aD.rowsOne i9
    refine cQ (Kt:=K) (xs:=aQ ([(m,n)]:List (Dp.Hd (List Int))) ([j]:List (List Int))) (cs:=[zS m j.length n]) (vs:=[(0,zS m j.length n)]) jB vX rfl rfl j0 rfl (by kernel_rfl) rfl rfl rfl ⟨rfl,trivial⟩ ?_
    intro j1 e1 (j2:aD G d (aH 66 K j1 1 (aQ ([(m,n)]:List (Dp.Hd (List Int))) ([j]:List (List Int)))::rows [2] ([(m,n)]:List (Dp.Hd (List Int))) ([j]:List (List Int))::aH 66 d u x h::aH 4 K q r o::L) e1)
    obtain ⟨a9,e2,j3,_,c0,_⟩:=aD.lendD' (i:=0) j2 rfl rfl rfl
    replace c0:aD G a9 (aH 66 d u x h::aH 4 K q r o::L) e1:=c0
    obtain ⟨j4,j5,hm⟩:=aB hm
    refine tR (i:=0) jB underlying43 vX rfl rfl c0 rfl e2 j3 j5 rfl rfl rfl rfl (fun e3 e4 j6 (j7:aD G a9 (aH 66 a9 e3 e4 j4::aH 4 K q r o::L) j6)=>(aC ?_));exact ⟨_,(zI hm).symm,aU,a9,e3,e4,(zL V e2),rfl,rfl,j7⟩
   iterate 1 refine eU ?_
   refine bG [0,1,2,7,8,9,10] (fun f w=>∃ c1,qH h a8 e0 c1=some d9/\f 38=zB c1/\aD G d (aH 2 K i6 i7 e0::aH 66 d u x h::aH 4 K q r o::L) w) ?_ ?_
   ·rintro f p4 ⟨c1,hm,p5,p6⟩
    unfold qH at hm
    refine aC ?_
    rcases aG hm with ⟨j8,hm⟩|⟨j8,hm⟩
    ·refine aC ?_;refine nE ([(-1)]:List Int) fun p7 p8 p9=>?_
     obtain ⟨j9,q0,hm⟩:=aB hm
     refine aGA fun k0 k1 q1 k3=>?_;refine aC ?_
     exact ⟨aU,j9,k0,k1,hm,rfl,k3⟩
    ·exact aI
   exact aI
  ·exact aI
theorem aII {t:aO} {g:Nat} {h:Bool} {R:(List Int)} (hm:aGI t h=some R) (l:aD G K (L) w) (m:cK K a1 g (zC t a4 c5 a7 c8)) (n:aT K a4 c5 t.L) (o:aT K a7 c8 t.E):
  Calls prog 39 ([cU a1 g,zB h]:List Value).toArray w (dO fun v w'=>∃ i j,v=zS i R.length j/\aD G K (aH 2 K i j R::L) w'):=by
 refine cA func39 ?_;unfold aGI at hm
 refine aC ?_;obtain ⟨k,p,hm⟩:=aB hm
 refine aFB (e:=(0:Int)) gD aGc rfl rfl l rfl rfl rfl p rfl (fun q r (b6:aD G K (aH 2 K q k.length k::L) r)=>(aC ?_));refine bT ?_
 obtain ⟨b7,u,ho⟩:=aB hm
 refine eM [0,1] u (fun a f w=>∃ b c,f 5=zS b a.length c/\aD G K (aH 2 K b c a::L) w) aI ?_
 ·rintro a b8 f b9 hm hr ⟨b,c,c0,x⟩
  unfold aBK at hm
  refine bT (aC ?_);obtain ⟨c1,d,y,z,V⟩:=aD.lendSp x (zR _) .head
  obtain ⟨c2,Z,hm⟩:=aB hm
  refine bP call79 (aGS Z z (m.mono d) (n.mono d) (o.mono d) y) ?_
  rintro _ c3 ⟨c4,c45,rfl,a0⟩
  have a2:=V _ _ a0
  refine aC ?_;obtain ⟨c6,a3,a5,a6,a8⟩:=aD.lendSp a2 (zR _) zt1
  obtain ⟨c7,a9,b0,b1,b2⟩:=aD.lendSp a6 a3 .head
  obtain ⟨c9,b3,hm⟩:=aB hm
  refine bP call43 (tE b3 b1 (a5.mono a9) b0) ?_
  rintro _ d0 ⟨rfl,b4⟩
  have b5:=b2 _ _ b4
  have d1:=a8 _ _ b5
  exact aI
theorem aDR {t:aO} {d:Nat} {e:Bool} {R:aO} (hm:wN t e=some R) (hs:aD G K (L) w) (g:cK K a1 d (zC t a4 c5 a7 c8)) (h:aT K a4 c5 t.L) (i:aT K a7 c8 t.E):
  Calls prog 16 ([cU a1 d,zB e]:List Value).toArray w (dO fun v w'=>∃ j k l m,v=Value.agg (zCa R j k l m)/\aD G K (aH 9 K j k R.L::aH 61 K l m R.E::L) w'):=by
 refine cA func16 ?_;unfold wN at hm
 refine aC ?_;refine jH fun d4 d5 q=>?_
 refine aC ?_;obtain ⟨d6,r,hm⟩:=aB hm
 refine bP call35 (aAB r q g h i) ?_
 rintro _ d7 ⟨d8,d9,rfl,u⟩
 obtain ⟨e0,a,x,y,z⟩:=aD.lendSp u (zR _) .head
 obtain ⟨e1,V,hm⟩:=aB hm
 refine bP call34 (aCd V y (g.mono a) (h.mono a) (i.mono a) x) ?_
 rintro _ e2 ⟨e3,e4,e5,e6,rfl,Z⟩
 have e7:=z _ _ Z
 refine jH fun e8 e9 f0=>?_;refine kM fun f1 a0=>?_
 refine aC ?_;obtain ⟨f2,a2,a3,a5,a6⟩:=aD.lendSp a0 (zR _) zt2
 obtain ⟨f3,a8,a9,b0,b1⟩:=aD.lendSp a5 a2 zt2
 obtain ⟨f4,n,b2,b3,b4⟩:=aD.lendBp b0 .head
 obtain ⟨f5,b5,hm⟩:=aB hm
 refine bP call39 (aII b5 b3 b2 (a3.mono (zL a8 n)) (a9.mono n)) ?_
 rintro _ f6 ⟨f7,f8,rfl,b6⟩
 have b7:=b4 _ _ b6
 have b8:=b1 _ _ b7
 have b9:=a6 _ _ b8
 refine aC ?_;obtain ⟨f9,o,c0,c1,g0⟩:=aD.lendSp b9 (zR _) .head
 obtain ⟨g1,p,c2,c3,g2⟩:=aD.lendSp c1 o .head
 obtain ⟨g3,b,c4,c6,g4⟩:=aD.lendBp c3 .head
 obtain ⟨g5,c,c7,c9,d0⟩:=aD.lendSp c6 (zL (zL o p) b) .head
 obtain ⟨g6,d1,hm⟩:=aB hm
 refine bP call38 (aAQ d1 c9 (c4.mono c) (c0.mono (zL (zL p b) c)) (c2.mono (zL b c)) c7) ?_
 rintro _ g7 ⟨g8,g9,h0,h1,rfl,d2⟩
 have h2:=d0 _ _ d2
 exact aI
theorem aHQ {n:Int} {m R:(List Bool)} (hm:aES n m=some R) (hs:aD G K (aH 4 K a1 c2 m::L) w):
  Calls prog 166 ([i64 n,zS a1 m.length c2]:List Value).toArray w (dO fun v w'=>v=Value.tuple #[]/\m.length=R.length/\aD G K (aH 4 K a1 c2 R::L) w'):=by
 refine cA func166 ?_;unfold aES at hm
 refine aC ?_;refine aJ [0] (fun f w=>∃ a,aBL n a=some R/\f 1=zS a1 a.length c2/\m.length=a.length/\aD G K (aH 4 K a1 c2 a::L) w) ?_ ?_
 ·rintro f w6 ⟨a,hm,e5,e4,e6⟩
  unfold aBL at hm
  refine aC ?_;refine aJ [] (fun f w=>∃ r,aJO r=some R/\m.length=r.length/\aD G K (aH 4 K a1 c2 r::L) w) aI ?_
  obtain ⟨e7,a7,ho⟩:=aB hm
  refine aY [0] a7 (fun e g f w=>f 1=zS a1 e.length c2/\f 5=i64 g/\m.length=e.length/\aD G K (aH 4 K a1 c2 e::L) w) aI ?_
  ·rintro e g Z f e8 hm hr ⟨e9,f0,f1,f2⟩
   unfold rQ at hm
   refine aC ?_
   rcases aG hm with ⟨a8,hm⟩|⟨a8,hm⟩
   ·refine aC ?_;refine aJ [0,5] (fun f w=>∃ b,aCU g b=some Z/\f 1=zS a1 b.length c2/\m.length=b.length/\aD G K (aH 4 K a1 c2 b::L) w) ?_ ?_
    ·rintro f f3 ⟨b,hm,a9,b0,b1⟩
     unfold aCU at hm
     refine aC ?_;exact ⟨_,(zI hm).symm,aU,a9,rfl,b0,b1⟩
    refine aC ?_;refine aJ [0,5] (fun f w=>∃ j,aGh g j=some Z/\f 1=zS a1 j.length c2/\m.length=j.length/\aD G K (aH 4 K a1 c2 j::L) w) aI ?_
    obtain ⟨f4,b2,ho⟩:=aB hm
    refine aY [0,5] b2 (fun k l f w=>f 1=zS a1 k.length c2/\f 6=i64 l/\m.length=k.length/\aD G K (aH 4 K a1 c2 k::L) w) aI ?_
    ·rintro k l a0 f f5 hm hr ⟨f6,f7,f8,b3⟩
     unfold rP at hm
     refine aC ?_
     rcases aG hm with ⟨b4,hm⟩|⟨b4,hm⟩
     ·refine aC ?_;refine aJ [0,5,6] (fun f w=>∃ c,zY l c=some a0/\f 1=zS a1 c.length c2/\m.length=c.length/\aD G K (aH 4 K a1 c2 c::L) w) ?_ ?_
      ·rintro f f9 ⟨c,hm,b5,b6,b7⟩
       unfold zY at hm
       refine aC ?_;exact ⟨_,(zI hm).symm,aU,b5,rfl,b6,b7⟩
      refine aC ?_;obtain ⟨g0,a2,hm⟩:=aB hm
      have u:=bY b3 (i:=0) rfl a2
      refine aK (cR gP rfl u rfl rfl rfl a2) (aC ?_)
      rcases aG hm with ⟨b8,hm⟩|⟨b8,hm⟩
      ·exact aI
      ·refine aC ?_;refine aJ [0,5,6] (fun f w=>∃ o,aGi l o=some a0/\f 1=zS a1 o.length c2/\m.length=o.length/\aD G K (aH 4 K a1 c2 o::L) w) aI ?_
       obtain ⟨g1,b9,ho⟩:=aB hm
       refine aY [0,5,6] b9 (fun p x f w=>f 1=zS a1 p.length c2/\f 7=i64 x/\m.length=p.length/\aD G K (aH 4 K a1 c2 p::L) w) aI ?_
       ·rintro p x c0 f g2 hm hr ⟨c1,g3,c3,c4⟩
        unfold rO at hm
        refine aC ?_
        rcases aG hm with ⟨c5,hm⟩|⟨c5,hm⟩
        ·refine aC ?_;refine aJ [0,5,6,7] (fun f w=>∃ d,zZ x d=some c0/\f 1=zS a1 d.length c2/\m.length=d.length/\aD G K (aH 4 K a1 c2 d::L) w) ?_ ?_
         ·rintro f g4 ⟨d,hm,c6,c7,c8⟩
          unfold zZ at hm
          refine aC ?_;exact ⟨_,(zI hm).symm,aU,c6,rfl,c7,c8⟩
         refine aC ?_;obtain ⟨g5,c9,hm⟩:=aB hm
         refine aK (cR gP rfl u rfl rfl rfl c9) (aC ?_)
         rcases aG hm with ⟨d0,hm⟩|⟨d0,hm⟩
         ·refine aC ?_;obtain ⟨g6,a3,hm⟩:=aB hm
          refine aK (cR gP rfl u rfl rfl rfl a3) ?_;obtain ⟨a4,y,hm⟩:=aB hm
          refine lU (i:=0) (t:=0) (ns:=[zB true]) (e':=(true:Bool)) sizeOf4 c4 rfl (zR _) rfl rfl rfl a3 y rfl rfl (oR rfl) rfl (fun cs h=>by cases h;rfl) (fun d1 (d2:aD G K (aH 4 K a1 c2 a4::L) d1)=>(aC ?_));exact ⟨aU,a4,hm,(Eq.trans c1 (congrArg (fun n=>zS a1 n c2) (gX y))),(c3.trans (gX y)),d2⟩
         ·exact aI
        ·exact aI
     ·exact aI
   ·exact aI
 obtain ⟨g7,d3,ho⟩:=aB hm
 refine aY [0] d3 (fun q a5 f w=>f 1=zS a1 q.length c2/\f 4=i64 a5/\m.length=q.length/\aD G K (aH 4 K a1 c2 q::L) w) aI ?_
 ·rintro q a5 g8 f g9 hm hr ⟨d4,h0,d5,a6⟩
  unfold pH at hm
  refine aC ?_
  rcases aG hm with ⟨d6,hm⟩|⟨d6,hm⟩
  ·refine aC ?_;refine bT (aC ?_)
   obtain ⟨h1,z,hm⟩:=aB hm
   have d7:=bY a6 (i:=0) rfl z
   refine aK (cR gP rfl d7 rfl rfl rfl z) ?_;obtain ⟨d8,V,hm⟩:=aB hm
   refine lU (i:=0) (t:=0) (ns:=[zB true]) (e':=(true:Bool)) sizeOf4 a6 rfl (zR _) rfl rfl rfl z V rfl rfl (oR rfl) rfl (fun cs h=>by cases h;rfl) (fun d9 (e0:aD G K (aH 4 K a1 c2 d8::L) d9)=>(aC ?_));exact ⟨_,(zI hm).symm,aU,(Eq.trans d4 (congrArg (fun n=>zS a1 n c2) (gX V))),rfl,(d5.trans (gX V)),e0⟩
  ·exact aI
theorem aHR {t:aO} {l:Nat} {R:(List Bool)} (hm:aET t=some R) (u:aD G K (L) w) (h3:cK K a1 l (zC t a4 c5 a7 c8)) (h6:aT K a4 c5 t.L) (x:aT K a7 c8 t.E):
  Calls prog 127 ([cU a1 l]:List Value).toArray w (dO fun v w'=>∃ m o,v=zS m R.length o/\aD G K (aH 4 K m o R::L) w'):=by
 refine cA func127 ?_;unfold aET at hm
 refine aC ?_;obtain ⟨a,y,hm⟩:=aB hm
 refine aFB (e:=(false:Bool)) gP ez_4 rfl rfl u rfl rfl rfl y rfl (fun b z (c1:aD G K (aH 4 K b a.length a::L) z)=>(aC ?_));refine aJ [3] (fun f w=>∃ c,aCV t c=some R/\f 4=zS b c.length a.length/\aD G K (aH 4 K b a.length c::L) w) ?_ ?_
 ·rintro f c2 ⟨c,hm,V,Z⟩
  unfold aCV at hm
  refine aC ?_;obtain ⟨a0,a2,hm⟩:=aB hm
  refine bP call166 (aHQ a2 Z) ?_
  rintro _ c3 ⟨rfl,a3,a5⟩
  iterate 4 refine eU ?_
  refine fO (v:=zS b a0.length a.length) (Eq.trans V (congrArg (fun n=>zS b n a.length) a3)) (aC ?_);obtain rfl:=zI hm
  exact aLM results127 ⟨b,a.length,rfl,a5⟩
 obtain ⟨c4,a8,ho⟩:=aB hm
 refine aY [0,3] a8 (fun g j f w=>f 4=zS b g.length a.length/\f 5=i64 j/\aD G K (aH 4 K b a.length g::L) w) aI ?_
 ·rintro g j a9 f c6 hm hr ⟨b0,c7,c9⟩
  unfold rR at hm
  refine aC ?_
  rcases aG hm with ⟨c48,hm⟩|⟨c48,hm⟩
  ·refine aC ?_;refine aJ [0,3,5] (fun f w=>∃ d,aAa j d=some a9/\f 4=zS b d.length a.length/\aD G K (aH 4 K b a.length d::L) w) ?_ ?_
   ·rintro f d0 ⟨d,hm,b1,b2⟩
    unfold aAa at hm
    refine aC ?_;exact ⟨_,(zI hm).symm,aU,b1,rfl,b2⟩
   refine aC ?_;obtain ⟨d1,b3,hm⟩:=aB hm
   refine aC ?_;obtain ⟨d2,d3,b4⟩:=aT.el (sz:=3) rfl x b3
   cases b4
   refine aC ?_
   rcases aG hm with ⟨b5,hm⟩|⟨b5,hm⟩
   ·refine aC ?_;refine aBr [(0,0),(1,0),(2,0),(3,0),(4,0),(5,0),(6,0),(7,0),(8,0),(9,0),(10,0),(11,0),(12,0),(13,0),(14,0),(15,0),(16,0),(17,0),(18,0),(19,0),(20,0),(21,2)] fun d4 p=>?_
    refine aC ?_;obtain ⟨d5,k,hm⟩:=aB hm
    have b6:=bY p (i:=0) rfl k
    refine cS rfl (fun _ _=>cR gP rfl b6 rfl rfl rfl k) (WE_s rfl ?_);obtain ⟨q,r,hm⟩:=aB hm
    refine lU (i:=0) (t:=0) (ns:=[zB true]) (e':=(true:Bool)) sizeOf4 p rfl (zR _) rfl rfl rfl k r rfl rfl (oR rfl) rfl (fun cs h=>by cases h;rfl) (fun b7 (b8:aD G K (aH 4 K b a.length q::L) b7)=>(aC ?_));refine tS (aC ?_)
    exact ⟨aU,q,hm,(Eq.trans b0 (congrArg (fun n=>zS b n a.length) (gX r))),b8⟩
   ·exact aI
  ·exact aI
end Gv
