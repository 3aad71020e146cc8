/- Walks, printed by program. -/
import Derived.Test.YtjkjjlbjcgklhaaGreatDoorJWk5
set_option linter.all false
namespace Gv
open Go.Value renaming slice→zS,agg→zA
open Option.some renaming inj→zI
open Gv.Hp renaming le_refl→zR
open Go Go.Proofs Go.Proofs.Tryz
set_option maxRecDepth 20000
set_option maxHeartbeats 40000000
variable {G:Env} {K Kf:Hp} {L:List iD} {w:World} {a1 a4 a7 a10:Option Addr} {c2 c5 c8 c11:Nat}
theorem tF {b R:(List Edge)} (hm:cX b=some R) (hs:aD G K (aH 61 K a1 c2 b::L) w):
  Calls prog 114 ([zS a1 b.length c2]:List Value).toArray w (dO fun v w'=>∃ V Z,v=zS V R.length Z/\aD G K (aH 61 K V Z R::L) w'):=by
 refine cA func114 ?_;unfold cX at hm
 refine aC ?_
 rcases aG hm with ⟨c3,hm⟩|⟨c3,hm⟩
 ·exact aI
 ·refine aC ?_;refine aJ [0] (fun f w=>kY b=some R/\aD G K (aH 61 K a1 c2 b::L) w) aI ?_
  obtain ⟨e9,b8,ho⟩:=aB hm
  refine eM [0] b8 (fun d f w=>f 3=i64 d/\aD G K (aH 61 K a1 c2 b::L) w) aI ?_
  ·rintro d a0 f f0 hm hr ⟨f1,e⟩
   unfold cO at hm
   refine aC ?_
   rcases aG hm with ⟨b9,hm⟩|⟨b9,hm⟩
   ·refine aC ?_;refine aJ [0] (fun f w=>eC d=some a0/\f 3=i64 d/\aD G K (aH 61 K a1 c2 b::L) w) ?_ ?_
    ·rintro f f2 ⟨hm,f3,c0⟩
     unfold eC at hm
     refine aC ?_;exact ⟨_,(zI hm).symm,aU,rfl,c0⟩
    refine aC ?_;refine st_k ?_
    refine aC ?_;obtain ⟨c1,a2,hm⟩:=aB hm
    have c:=bY e (i:=0) rfl a2
    refine gE (fun _ e=>cR lH rfl c rfl rfl rfl a2) (aC ?_);obtain ⟨c4,c5,hm⟩:=aB hm
    refine gE (fun _ e=>cR lH rfl c rfl rfl rfl c5) (aC ?_);refine gE (fun _ e=>R_eqlG (eq_61 (x:=c1) (y:=c4)) rfl rfl) (yP (fun f4 c6=>(aC ?_)))
    rcases aG hm with ⟨c7,hm⟩|⟨c7,hm⟩
    ·refine aC ?_;obtain ⟨f5,g,hm⟩:=aB hm
     have j:=mX c6 (i:=0) rfl
     obtain ⟨f6,f7,k⟩:=Cut.ex 3 a1 c2 d
     refine aK (yR lH j k rfl rfl rfl g) (aC ?_);refine aJ [] (fun f w=>∃ l m,fX l m=some a0/\f 0=zS a1 l.length c2/\f 3=i64 m/\aD G K (aH 61 K a1 c2 l::L) w) ?_ ?_
     ·rintro f f8 ⟨l,m,hm,c8,f9,a3⟩
      unfold fX at hm
      refine aC ?_;obtain ⟨g0,c9,hm⟩:=aB hm
      have d0:=mX a3 (i:=0) rfl
      obtain ⟨g1,g2,a4⟩:=Cut.ex 3 a1 c2 m
      refine aK (yR lH d0 a4 rfl rfl rfl c9) ?_;obtain ⟨a5,a6,hm⟩:=aB hm
      refine aGy lH aEE rfl a3 (i:=0) rfl a4 rfl rfl a6 (fun a7 (a8:aD G K (aH 61 K a1 c2 a5::L) a7)=>?_)
      iterate 4 refine eU ?_
      refine fO (v:=zS a1 a5.length c2) (Eq.trans c8 (congrArg (fun n=>zS a1 n c2) (aHk a6))) (aC ?_);obtain ⟨a9,b0,hm⟩:=aB hm
      have d1:=mX a8 (i:=0) rfl
      obtain ⟨d2,d3,b1⟩:=Cut.ex 3 a1 c2 0
      refine aK (aIk lH d1 b1 rfl rfl rfl b0) (aC ?_);refine kQ (gF (bO (bO (bO ?_))))
      have d4:=hr _ (zI hm).symm
      subst d4
      have hm:(some a9)=some R:=ho
      clear hr ho
      have g3:aD G K (aH 61 K d2 d3 a9::L) a7:=aD.cutP a8 (i:=0) rfl b0 b1
      exact aI
     obtain ⟨g4,d5,ho⟩:=aB hm
     refine mA [4] d5 (fun p q r f w=>f 0=zS a1 p.length c2/\f 3=i64 q/\f 5=i64 r/\aD G K (aH 61 K a1 c2 p::L) w) aI ?_
     ·rintro p q r d6 f g5 hm hr ⟨d7,g6,g7,u⟩
      unfold kZ at hm
      refine aC ?_
      rcases aG hm with ⟨d8,hm⟩|⟨d8,hm⟩
      ·refine aC ?_;refine aJ [4,5] (fun f w=>∃ o z,eD r o z=some d6/\f 0=zS a1 o.length c2/\f 3=i64 z/\aD G K (aH 61 K a1 c2 o::L) w) ?_ ?_
       ·rintro f g8 ⟨o,z,hm,d9,e0,e1⟩
        unfold eD at hm
        refine aC ?_;exact ⟨_,(zI hm).symm,aU,d9,e0,rfl,e1⟩
       refine aC ?_;refine st_k ?_
       refine aC ?_;obtain ⟨g9,b2,hm⟩:=aB hm
       obtain ⟨a,e2,hm⟩:=aB hm
       refine gE (fun _ u=>aKR lH c k g j rfl rfl rfl b2 rfl) (aC ?_);obtain ⟨h0,e3,hm⟩:=aB hm
       obtain ⟨e4,h1,hm⟩:=aB hm
       refine gE (fun _ u=>aKR lH c k g j rfl rfl rfl e3 rfl) (aC ?_);refine gE (fun _ u=>R_neqG (eq_61 (x:=a) (y:=e4)) rfl rfl) (yP (fun h2 b3=>(aC ?_)))
       rcases aG hm with ⟨e5,hm⟩|⟨e5,hm⟩
       ·refine aC ?_;refine aK (aKR lH c k g j rfl rfl rfl b2 rfl) (aK (R_ldOG (t:=0) (vs:=[i64 a.F,i64 a.B,i64 a.To]) ag_61 b3 (i:=0) rfl e2 rfl rfl rfl rfl) ?_)
        obtain ⟨h3,b4,hm⟩:=aB hm
        refine aK (cR lH rfl c rfl rfl rfl b4) ?_;obtain ⟨b5,b6,hm⟩:=aB hm
        refine lU (i:=0) (t:=0) (ns:=[i64 a.F,i64 a.B,i64 a.To]) (e':=(⟨a.F,a.B,a.To⟩:Edge)) sizeOf61 b3 rfl (Hp.le_refl _) rfl rfl rfl b4 b6 rfl rfl (oR rfl) rfl (fun cs h=>by cases h;rfl) (fun e6 (e7:aD G K (aH 61 K a1 c2 b5::L) e6)=>(aC ?_));exact ⟨aU,b5,wr (q+1),hm,(Eq.trans d7 (congrArg (fun n=>zS a1 n c2) (gX b6))),rfl,e7⟩
       ·exact aI
      ·exact aI
    ·exact aI
   ·exact aI
theorem oO {a:(List aL)} {b:aL} {R:Int} (hm:dZ a b=some R) (e:aD G K (L) w) (g:aT K a1 c2 a):
  Calls prog 112 ([zS a1 a.length c2,str b]:List Value).toArray w (dO fun v w'=>v=i64 R/\aD G K (L) w'):=by
 refine cA func112 ?_;unfold dZ at hm
 refine aC ?_;refine aJ [] (fun f w=>pI=some R/\aD G K (L) w) aI ?_
 obtain ⟨h,c,ho⟩:=aB hm
 exact eM [0,1,7] c (fun d f w=>f 8=i64 d/\aD G K (L) w) aI aI
theorem xD {a b:Int} {labels:(List aL)} {arcs:(List nX)} {R:aO} (hm:aDq a b labels arcs=some R) (hs:aD G K (L) w) (h3:aT K a1 c2 labels) (h6:aT K a4 c5 arcs):
  Calls prog 62 ([i64 a,i64 b,zS a1 labels.length c2,zS a4 arcs.length c5]:List Value).toArray w (dO fun v w'=>∃ a0 a2 a3 a5,v=zA (zCa R a0 a2 a3 a5)/\aD G K (aH 9 K a0 a2 R.L::aH 61 K a3 a5 R.E::L) w'):=by
 let h:=zG
 refine cA func62 ?_;unfold aDq at hm
 refine aC ?_;refine jH fun j w8 f0=>?_
 refine aC ?_;refine nE ([([116,97,117]:aL)]:List aL) fun f1 f2 b2=>?_
 refine aC ?_;obtain ⟨n,b3,hm⟩:=aB hm
 refine tR (i:=0) dG underlying24 zF rfl rfl b2 rfl (Hp.le_refl _) h3 b3 rfl rfl rfl rfl (fun d e b4 (f3:aD G K (aH 9 K d e n::box j 27 h::L) b4)=>(aK (dI (vs:=[(0,i64 a),(1,i64 b),(2,zS d n.length e)]) (cs:=[i64 a,i64 b,zS d n.length e,zS none 0 0]) zH rfl (by kernel_rfl)) (jH fun o f4 f5=>?_)));refine kM fun b5 f6=>?_
 refine aC ?_
 have b6:aD G K (aH 9 K d e n::box o 27 [i64 a,i64 b,zS d n.length e,zS none 0 0]::box j 27 h::L) b5:=oK
 obtain ⟨a6,b8,hm⟩:=aB hm
 refine bP call109 (lib_SortStr b6 b8) ?_
 rintro _ b9 ⟨rfl,c0,c1⟩
 have c3:aD G K (aH 9 K d e a6::box o 27 [i64 a,i64 b,zS d a6.length e,zS none 0 0]::box j 27 h::L) b9:=by rw [←c0];exact c1
 refine aC ?_;obtain ⟨g,c4,hm⟩:=aB hm
 refine bP call111 (iN c4 c3) ?_
 rintro _ f7 ⟨k,l,rfl,f8⟩
 refine aC ?_;refine kM fun f9 c6=>?_
 refine aC ?_;refine aJ [8,9] (fun f w=>∃ r p q,aIy a b g r=some R/\aD G K (aH 61 K p q r::aH 9 K k l g::box o 27 [i64 a,i64 b,zS k g.length l,zS p r.length q]::box j 27 h::L) w) ?_ ?_
 ·rintro f g0 ⟨r,p,q,hm,c7⟩
  unfold aIy at hm
  refine aC ?_;obtain ⟨a7,c8,hm⟩:=aB hm
  refine bP call113 (lib_SortEdge c7 c8) ?_
  rintro _ c9 ⟨rfl,d0,d1⟩
  have g1:aD G K (aH 61 K p q a7::aH 9 K k l g::box o 27 [i64 a,i64 b,zS k g.length l,zS p a7.length q]::box j 27 h::L) c9:=by rw [←d0];exact d1
  exact aI
 have g2:=aD.nil (α:=Edge) c6 61 K
 obtain ⟨g3,d2,ho⟩:=aB hm
 refine aY [8,9,25,26] d2 (fun x a8 f w=>∃ y z,f 27=i64 a8/\aD G K (aH 61 K y z x::aH 9 K k l g::box o 27 [i64 a,i64 b,zS k g.length l,zS y x.length z]::box j 27 h::L) w) aI ?_
 ·rintro x a8 g4 f g5 hm hr ⟨y,z,g6,g7⟩
  unfold aDp at hm
  refine aC ?_
  rcases aG hm with ⟨d3,hm⟩|⟨d3,hm⟩
  ·refine aC ?_;refine bT (aC ?_)
   obtain ⟨m,d4,hm⟩:=aB hm
   refine aC ?_;obtain ⟨g8,g9,d5⟩:=aT.el (sz:=3) rfl h6 d4
   cases d5
   refine aC ?_;refine jH fun h0 h1 h2=>?_
   refine kM fun h4 d6=>?_;refine aC ?_
   obtain ⟨h5,d7,V,d8,h7⟩:=aD.lendBp d6 .head
   obtain ⟨h8,u,d9,h9,e0⟩:=aD.lendBp d8 zt2
   refine aBr [(0,0),(1,0),(2,0),(3,0),(4,0),(5,0),(6,0),(7,0),(9,0),(10,0),(8,1),(11,0),(12,1),(13,1),(14,0),(15,2)] fun i0 c=>?_;refine aC ?_
   refine cS rfl (fun _ ⟨_,c⟩=>cH (t:=0) jE c (V.mono u) rfl rfl) (cS rfl (fun _ _=>jG (t':=2) vW rfl rfl) (cS rfl (fun _ ⟨_,c⟩=>cH (t:=2) aBv c d9 rfl rfl) (cS rfl (fun _ _=>jG (t':=1) aRT rfl rfl) (cS rfl (fun _ ⟨_,c⟩=>cH (t:=1) sc_9 c (V.mono u) rfl rfl) (cS rfl (fun _ _=>jG (t':=2) aRU rfl rfl) (cS rfl (fun _ ⟨_,c⟩=>cH (t:=2) jE c (V.mono u) rfl rfl) (lV rfl ?_)))))));obtain ⟨i1,i2,e1,e2,e3⟩:=aD.lendSp c (Hp.le_trans d7 u) zt1
   obtain ⟨Z,e4,hm⟩:=aB hm
   refine bP call112 (oO e4 e2 e1) ?_
   rintro _ i3 ⟨rfl,e5⟩
   have e6:=e3 _ _ e5
   refine aM (aF ⟨⟨_,e6⟩,?_⟩)
   refine cS rfl (fun _ _=>dI (vs:=[(0,i64 m.from_),(1,i64 Z),(2,i64 m.to_)]) (cs:=[i64 m.from_,i64 Z,i64 m.to_]) aPy rfl (by kernel_rfl)) (lV rfl (nE ([⟨m.from_,Z,m.to_⟩]:List Edge) fun i4 i5 e7=>?_));refine aM (aF ⟨⟨_,e7⟩,?_⟩)
   refine lV rfl ?_;obtain ⟨i6,i7,hm⟩:=aB hm
   refine aGA fun i8 i9 j0 a9=>?_;refine aM (aF ⟨⟨_,a9⟩,?_⟩)
   refine aC ?_
   have j1:=e0 _ _ a9
   exact aI
  ·exact aI
theorem aAC {t:aO} {R:(List nX)} (hm:wW t=some R) (hs:aD G K (L) w) (q:aT K a1 c2 t.L) (r:aT K a4 c5 t.E):
  Calls prog 101 ([zA (zCa t a1 c2 a4 c5)]:List Value).toArray w (dO fun v w'=>∃ k l,v=zS k R.length l/\aD G K (aH 139 K k l R::L) w'):=by
 refine cA func101 ?_;unfold wW at hm
 refine aC ?_;refine kN fun u w8 x=>?_
 refine aC ?_;refine aJ [] (fun f w=>∃ c m n,aJR c=some R/\f 3=zS m c.length n/\aD G K (aH 139 K m n c::L) w) aI ?_
 have b1:=aD.nil (α:=nX) x 139 K
 obtain ⟨b2,y,ho⟩:=aB hm
 refine aY [1,7,8] y (fun d o f w=>∃ e g,f 3=zS e d.length g/\f 9=i64 o/\aD G K (aH 139 K e g d::box u 27 (zC t a1 c2 a4 c5)::L) w) aI ?_
 ·rintro d o b3 f b4 hm hr ⟨e,g,b5,b6,b8⟩
  unfold aAe at hm
  refine aC ?_
  rcases aG hm with ⟨z,hm⟩|⟨z,hm⟩
  ·refine aC ?_;refine bT (aC ?_)
   obtain ⟨b,V,hm⟩:=aB hm
   refine aC ?_;obtain ⟨b9,c0,Z⟩:=aT.el (sz:=3) rfl r V
   cases Z
   refine aC ?_;refine jH fun c1 c3 c4=>?_
   refine kM fun c6 a0=>?_;refine aC ?_
   obtain ⟨c7,c8,h,a2,c9⟩:=aD.lendBp a0 .head
   obtain ⟨d0,i,a3,d1,a5⟩:=aD.lendBp a2 zt1
   refine aBr [(0,0),(1,0),(2,0),(3,0),(4,0),(5,0),(6,0),(7,0),(8,0),(9,0),(10,0),(11,0),(12,1),(13,1),(14,0)] fun d2 a=>?_;refine aC ?_
   refine cS rfl (fun _ ⟨_,a⟩=>cH (t:=0) jE a (h.mono i) rfl rfl) (cS rfl (fun _ _=>jG (t':=2) vW rfl rfl) (cS rfl (fun _ ⟨_,a⟩=>cH (t:=2) aBv a a3 rfl rfl) (cS rfl (fun _ _=>jG (t':=1) aJh rfl rfl) (cS rfl (fun _ ⟨_,a⟩=>cH (t:=1) jE a (h.mono i) rfl rfl) ?_))));obtain ⟨j,a6,hm⟩:=aB hm
   refine aC ?_;obtain ⟨d3,d4,a7⟩:=aT.el (sz:=1) rfl q a6
   cases a7
   refine aC ?_;refine cS rfl (fun _ ⟨_,a⟩=>cH (t:=2) jE a (h.mono i) rfl rfl) (cS rfl (fun _ _=>dI (vs:=[(0,i64 b.F),(1,str j),(2,i64 b.To)]) (cs:=[i64 b.F,str j,i64 b.To]) aQv rfl (by kernel_rfl)) (lV rfl (nE ([⟨b.F,j,b.To⟩]:List nX) fun d5 d6 a8=>?_)))
   refine aM (aF ⟨⟨_,a8⟩,?_⟩)
   refine lV rfl ?_;obtain ⟨d7,d8,hm⟩:=aB hm
   refine aGA fun d9 e0 e1 p=>?_;refine aM (aF ⟨⟨_,p⟩,?_⟩)
   refine aC ?_;refine tS ?_
   have e2:=a5 _ _ p
   exact aI
  ·exact aI
theorem fD {a:(List (List aL))} {R:(List aL)} (hm:bB a=some R) (V:aD G K (L) w) (Z:aT K a1 c2 a):
  Calls prog 63 ([zS a1 a.length c2]:List Value).toArray w (dO fun v w'=>∃ g h,v=zS g R.length h/\aD G K (aH 9 K g h R::L) w'):=by
 refine cA func63 ?_;unfold bB at hm
 refine aC ?_;refine aJ [0] (fun f w=>∃ b,fR a b=some R/\f 3=i64 b/\aD G K (L) w) ?_ ?_
 ·rintro f w6 ⟨b,hm,e5,o⟩
  unfold fR at hm
  refine aC ?_;obtain ⟨r8,p,hm⟩:=aB hm
  refine bP call115 (lib_GrowStr o (tQ (α:=aL) _) p) ?_
  rintro _ a4 ⟨a5,a6,rfl,a7⟩
  refine aC ?_;refine aJ [] (fun f w=>∃ c i j,oV c=some R/\f 6=zS i c.length j/\aD G K (aH 9 K i j c::L) w) aI ?_
  obtain ⟨a8,q,ho⟩:=aB hm
  exact aY [25,26] q (fun k r f w=>∃ l m,f 6=zS l k.length m/\f 27=i64 r/\aD G K (aH 9 K l m k::L) w) aI aI
 obtain ⟨a9,t,ho⟩:=aB hm
 refine aY [0,9,10] t (fun n d f w=>f 3=i64 n/\f 11=i64 d/\aD G K (L) w) aI ?_
 ·rintro n d u f b0 hm hr ⟨b1,b2,b3⟩
  unfold aZ at hm
  refine aC ?_
  rcases aG hm with ⟨x,hm⟩|⟨x,hm⟩
  ·refine aC ?_;refine aJ [0,9,10,11] (fun f w=>∃ e,eH d e=some u/\f 3=i64 e/\aD G K (L) w) ?_ ?_
   ·rintro f b4 ⟨e,hm,y,z⟩
    unfold eH at hm
    refine aC ?_;exact ⟨_,(zI hm).symm,aU,y,rfl,z⟩
   exact aI
  ·exact aI
theorem aEo {a b R:aO} (hm:aHw a b=some R) (hs:aD G K (L) w) (k:aT K a1 c2 a.L) (h6:aT K a4 c5 a.E) (l:aT K a7 c8 b.L) (a5:aT K a10 c11 b.E):
  Calls prog 85 ([zA (zCa a a1 c2 a4 c5),zA (zCa b a7 c8 a10 c11)]:List Value).toArray w (dO fun v w'=>∃ m n o p,v=zA (zCa R m n o p)/\aD G K (aH 9 K m n R.L::aH 61 K o p R.E::L) w'):=by
 let q:=(zC b a7 c8 a10 c11)
 let r:=(zC a a1 c2 a4 c5)
 let h:=zG
 refine cA func85 ?_;unfold aHw at hm
 refine aC ?_;refine kN fun u c6 c7=>?_
 refine kN fun x c9 d0=>?_;refine jH fun i d1 a6=>?_
 refine aC ?_;obtain ⟨d2,a8,hm⟩:=aB hm
 refine bP call101 (aAC a8 a6 k h6) ?_
 rintro _ d3 ⟨d4,d5,rfl,a9⟩
 refine aC ?_;obtain ⟨b0,b1,hm⟩:=aB hm
 refine bP call101 (aAC b1 a9 l a5) ?_
 rintro _ d6 ⟨b2,b3,rfl,d7⟩
 refine aC ?_;refine aJ [2,3,4] (fun f w=>∃ d e g,aHv a b d=some R/\f 5=zS e d.length g/\aD G K (aH 139 K e g d::box i 27 h::box x 27 q::box u 27 r::L) w) ?_ ?_
 ·rintro f d8 ⟨d,e,g,hm,b4,b5⟩
  unfold aHv at hm
  refine aC ?_;obtain ⟨d9,b6,y,b7,e0⟩:=aD.lendBp b5 zt2
  obtain ⟨b8,j,z,e1,e2⟩:=aD.lendBp b7 zt2
  refine aBr [(0,0),(1,0),(2,0),(3,0),(4,0),(5,0),(6,0),(7,0),(8,0),(9,0),(10,0),(13,0),(11,1),(12,1),(14,1),(15,2)] fun e3 c=>?_;refine aC ?_
  refine cS rfl (fun _ ⟨_,c⟩=>cH (t:=0) jE c (y.mono j) rfl rfl) (cS rfl (fun _ _=>tJ rfl rfl) (cS rfl (fun _ _=>jG (t':=1) aHq rfl rfl) (cS rfl (fun _ ⟨_,c⟩=>cH (t:=1) jE c z rfl rfl) (cS rfl (fun _ _=>jG (t':=2) vW rfl rfl) (cS rfl (fun _ ⟨_,c⟩=>cH (t:=2) aBv c z rfl rfl) (cS rfl (fun _ _=>jG (t':=2) vW rfl rfl) (cS rfl (fun _ ⟨_,c⟩=>cH (t:=2) aBv c (y.mono j) rfl rfl) (cS rfl (fun _ _=>bW b4) (lV rfl (cQ (Kt:=K) (xs:=([a.L,b.L]:List (List aL))) (cs:=[zS a1 a.L.length c2,zS a7 b.L.length c8]) (vs:=[(0,zS a1 a.L.length c2),(1,zS a7 b.L.length c8)]) aND ez_24 rfl rfl c rfl (by kernel_rfl) rfl rfl rfl ⟨⟨a1,c2,rfl,k⟩,⟨a7,c8,rfl,l⟩,trivial⟩ (fun b9 c0 (V:aD G b8 (aH 24 K b9 2 ([a.L,b.L]:List (List aL))::aH 139 K e g d::box i 27 h::L) c0)=>(aM (aF ⟨⟨_,V⟩,?_⟩)))))))))))))
  refine lV rfl ?_;obtain ⟨e4,e5,e6,e7,e8⟩:=aD.lendSp V (Hp.le_trans b6 j) .head
  exact aI
 obtain ⟨e9,c1,ho⟩:=aB hm
 exact aY [2,3,4,11,12] c1 (fun Z c3 f w=>∃ a0 a2,f 5=zS a0 Z.length a2/\f 13=i64 c3/\aD G K (aH 139 K b2 b3 b0::aH 139 K a0 a2 Z::box i 27 h::box x 27 q::box u 27 r::L) w) aI aI
theorem aIO {a:(List (List Int))} {R:(List Int)} (hm:oC a=some R) (d:aD G K (L) w) (e:Hp.le Kf K) (g:aT Kf a1 c2 a):
  Calls prog 47 ([zS a1 a.length c2]:List Value).toArray w (dO fun v w'=>∃ b c,v=zS b R.length c/\aT Kf b c R/\aD G K (L) w'):=by
 exact aI
theorem aGl {n:Int} {R:(List Int)} (hm:aGO n=some R) (g:aD G K (L) w):
  Calls prog 88 ([i64 n]:List Value).toArray w (dO fun v w'=>∃ b c,v=zS b R.length c/\aD G K (aH 2 K b c R::L) w'):=by
 refine cA func88 ?_;unfold aGO at hm
 refine aC ?_;obtain ⟨a,h,hm⟩:=aB hm
 refine aFB (e:=(0:Int)) gD aGc rfl rfl g rfl rfl rfl h rfl (fun d i (j:aD G K (aH 2 K d a.length a::L) i)=>(aC ?_));obtain rfl:=zI hm
 exact aLM results88 ⟨d,a.length,rfl,j⟩
theorem aPg {m R:(List Int)} (hm:aIz m=some R) (hs:aD G K (L) w) (h3:aT K a1 c2 m):
  Calls prog 133 ([zS a1 m.length c2]:List Value).toArray w (dO fun v w'=>∃ u x,v=zS u R.length x/\aD G K (aH 2 K u x R::L) w'):=by
 refine cA func133 ?_;unfold aIz at hm
 refine aC ?_;refine aGw Int Int hs ?_
 intro c w5 (a5:aD G K (iR c ([]:(List (Int × Int)))::L) w5)
 refine aC ?_;obtain ⟨a,q8,hm⟩:=aB hm
 refine aFB (e:=(0:Int)) gD aGc rfl rfl a5 rfl rfl rfl q8 rfl ?_
 intro b a7 (c4:aD G K (aH 2 K b a.length a::iR c ([]:(List (Int × Int)))::L) a7)
 refine aC ?_;refine aJ [] (fun f w=>∃ o,aMx o=some R/\f 4=zS b o.length a.length/\aD G K (aH 2 K b a.length o::L) w) aI ?_
 obtain ⟨c5,a8,ho⟩:=aB hm
 refine mA [3,13,14] a8 (fun g d p f w=>f 4=zS b d.length a.length/\f 15=i64 p/\aD G K (aH 2 K b a.length d::iR c g::L) w) aI ?_
 ·rintro g d p b0 f c6 hm hr ⟨b1,c7,q⟩
  unfold tO at hm
  refine aC ?_
  rcases aG hm with ⟨b2,hm⟩|⟨b2,hm⟩
  ·refine aC ?_;refine bT (aC ?_)
   obtain ⟨y,b3,hm⟩:=aB hm
   refine aC ?_;obtain ⟨c8,c9,b4⟩:=aT.el (sz:=1) rfl h3 b3
   cases b4
   refine aC ?_;refine aK (R_look (kv:=g) (k:=y) (z:=(0:Int)) runUnderlying201 ko_2 zeroValue2 q (i:=1) rfl rfl rfl) ?_
   iterate 7 refine eU ?_
   refine rD [3,4,5,13,14,15] (fun f w=>∃ l j,aDr d p l j=some b0/\f 7=i64 j/\aD G K (aH 2 K b a.length d::iR c l::L) w) ?_ ?_
   ·rintro f d0 ⟨l,j,hm,d1,V⟩
    unfold aDr at hm
    refine aC ?_;obtain ⟨d2,r,hm⟩:=aB hm
    have b5:=bY V (i:=0) rfl r
    refine aK (cR gD rfl b5 rfl rfl rfl r) ?_;obtain ⟨b6,Z,hm⟩:=aB hm
    refine lU (i:=0) (t:=0) (ns:=[i64 j]) (e':=(j:Int)) sizeOf2 V rfl (Hp.le_refl _) rfl rfl rfl r Z rfl rfl (oR rfl) rfl (fun cs h=>by cases h;rfl) (fun b7 (b8:aD G K (aH 2 K b a.length b6::iR c l::L) b7)=>(aC ?_));exact ⟨_,(zI hm).symm,aU,(Eq.trans b1 (congrArg (fun n=>zS b n a.length) (gX Z))),rfl,b8⟩
   refine aC ?_
   rcases aG hm with ⟨b9,hm⟩|⟨b9,hm⟩
   ·refine aC ?_;refine aK (R_lenM runUnderlying201 q (i:=1) rfl rfl) (aC ?_)
    obtain ⟨a0,c0,hm⟩:=aB hm
    refine aGx (i:=1) (k:=y) (v:=(g.length:Int)) runUnderlying201 ko_2 q rfl rfl rfl rfl c0 (fun c1 (c3:aD G K (aH 2 K b a.length d::iR c a0::L) c1)=>(aC ?_));exact ⟨aU,a0,(g.length:Int),hm,rfl,c3⟩
   ·exact aI
  ·exact aI
theorem jX {a b:(List Int)} {R:Bool} (hm:cM a b=some R) (g:aD G K (L) w) (h:aT K a1 c2 a) (i:aT K a4 c5 b):
  Calls prog 89 ([zS a1 a.length c2,zS a4 b.length c5]:List Value).toArray w (dO fun v w'=>v=Value.bool R/\aD G K (L) w'):=by
 refine cA func89 ?_;unfold cM at hm
 refine aC ?_
 rcases aG hm with ⟨c,hm⟩|⟨c,hm⟩
 ·exact aI
 ·refine aC ?_;refine aJ [] (fun f w=>rA=some R/\aD G K (L) w) aI ?_
  obtain ⟨j,d,ho⟩:=aB hm
  exact eM [0,1,12] d (fun e f w=>f 13=i64 e/\aD G K (L) w) aI aI
theorem aDw {k p:(List Int)} {a:Nat} {R:Bool} (hm:aDO k p=some R) (b:aD G K (L) w) (c:aT K a1 c2 k) (d:cK K a4 a [zS a7 p.length c8]) (e:aT K a7 c8 p):
  Calls prog 132 ([zS a1 k.length c2,cU a4 a]:List Value).toArray w (dO fun v w'=>v=Value.bool R/\aD G K (L) w'):=by
 exact aI
theorem lE {b:(List (List Int))} {c:(List Int)} {a:Nat} {R:Int} (hm:dK b c=some R) (t:aD G K (L) w) (i:aT K a1 c2 b) (j:cK K a4 a [zS a7 c.length c8]) (k:aT K a7 c8 c):
  Calls prog 131 ([zS a1 b.length c2,Value.func (.func 132) #[] #[cU a4 a]]:List Value).toArray w (dO fun v w'=>v=i64 R/\aD G K (L) w'):=by
 refine cA func131 ?_;unfold dK at hm
 refine aC ?_;refine aJ [] (fun f w=>mB=some R/\aD G K (L) w) aI ?_
 obtain ⟨u,l,ho⟩:=aB hm
 refine eM [0,1,7] l (fun d f w=>f 8=i64 d/\aD G K (L) w) aI ?_
 ·rintro d x f y hm hr ⟨z,m⟩
  unfold bQ at hm
  refine aC ?_
  rcases aG hm with ⟨n,hm⟩|⟨n,hm⟩
  ·refine aC ?_;refine bT (aC ?_)
   obtain ⟨e,o,hm⟩:=aB hm
   refine aC ?_;obtain ⟨V,Z,p⟩:=aT.el (sz:=1) rfl i o
   obtain ⟨g,h,rfl,q⟩:=p
   refine aC ?_;obtain ⟨a0,r,hm⟩:=aB hm
   exact gR (vs:=[zS g e.length h]) (caps:=[cU a4 a]) (us:=[zS g e.length h,cU a4 a]) rfl call132 rfl rfl (aDw r m q j k) aI
  ·exact aI
theorem aCf {d:(List (List Int))} {R:(List Int)} (hm:yF d=some R) (q:aD G K (L) w) (e:aT K a1 c2 d):
  Calls prog 92 ([zS a1 d.length c2]:List Value).toArray w (dO fun v w'=>∃ i j,v=zS i R.length j/\aD G K (aH 2 K i j R::L) w'):=by
 refine cA func92 ?_;unfold yF at hm
 refine aC ?_;refine aJ [] (fun f w=>∃ g k l,aDP g=some R/\f 3=zS k g.length l/\aD G K (aH 2 K k l g::L) w) aI ?_
 have a8:=aD.nil (α:=Int) q 2 K
 obtain ⟨a9,r,ho⟩:=aB hm
 refine aY [0,7,8] r (fun a h f w=>∃ b c,f 3=zS b a.length c/\f 9=i64 h/\aD G K (aH 2 K b c a::L) w) aI ?_
 ·rintro a h t f b0 hm hr ⟨b,c,b1,b2,b3⟩
  unfold lN at hm
  refine aC ?_
  rcases aG hm with ⟨u,hm⟩|⟨u,hm⟩
  ·refine aC ?_;refine bT (aC ?_)
   obtain ⟨b4,x,hm⟩:=aB hm
   refine aC ?_;obtain ⟨b5,b6,y⟩:=aT.el (sz:=1) rfl e x
   obtain ⟨b7,b8,rfl,z⟩:=y
   refine aC ?_;refine jH fun V b9 c0=>?_
   refine aC ?_;refine kM fun c1 Z=>?_
   refine aC ?_;obtain ⟨c3,m,hm⟩:=aB hm
   obtain ⟨c4,c5,n⟩:=Cut.ex 1 a1 c2 0
   have a0:=aT.cut' e m n
   refine aK (aIk jB e.room n rfl rfl rfl m) (aK (kU (vs:=[Value.pointer (some ⟨V,0,none⟩)]) rfl) ?_);obtain ⟨c7,o,a2,a3,a4⟩:=aD.lendBp Z .head
   obtain ⟨c8,a6,hm⟩:=aB hm
   refine bP call131 (lE a6 a3 (a0.mono o) a2 (z.mono o)) ?_
   rintro _ c9 ⟨rfl,a7⟩
   have d0:=a4 _ _ a7
   iterate 3 refine eU ?_
   exact rD [0,3,7,8,9] (fun f w=>∃ p,aAs a h p=some t/\f 6=i64 p/\aD G K (aH 2 K b c a::L) w) aI aI
  ·exact aI
theorem aFS {t:aO} {p R:(List Int)} (hm:yG t p=some R) (hs:aD G K (L) w) (h3:aT K a1 c2 t.L) (h6:aT K a4 c5 t.E) (h9:aT K a7 c8 p):
  Calls prog 49 ([zA (zCa t a1 c2 a4 c5),zS a7 p.length c8]:List Value).toArray w (dO fun v w'=>∃ g8 g9,v=zS g8 R.length g9/\aD G K (aH 2 K g8 g9 R::L) w'):=by
 let V:=(zC t a1 c2 a4 c5)
 refine cA func49 ?_;unfold yG at hm
 refine aC ?_;refine kN fun Z r8 k4=>?_
 refine aC ?_;obtain ⟨a,h0,hm⟩:=aB hm
 refine WO_mkD (tys:=[2]) (hd:=((none,0):Dp.Hd (List Int))) jB vX rfl rfl k4 rfl rfl rfl h0 rfl (pcs_nil _) ?_
 intro b k5 (k6:aD G K (aH 66 K b a.length (aQ (List.replicate t.N.toNat ((none,0):Dp.Hd (List Int))) a)::rows [2] (List.replicate t.N.toNat ((none,0):Dp.Hd (List Int))) a::box Z 27 V::L) k5)
 refine aC ?_;refine aJ [1,2] (fun f w=>∃ d h,aAx t p d=some R/\f 5=zS b d.length a.length/\List.length h=List.length d/\aD G K (aH 66 K b a.length (aQ h d)::rows [2] h d::box Z 27 V::L) w) ?_ ?_
 ·rintro f r9 ⟨d,h,hm,s0,s1,k7⟩
  unfold aAx at hm
  refine aC ?_;obtain ⟨e,h1,hm⟩:=aB hm
  refine WO_mkD (tys:=[2]) (hd:=((none,0):Dp.Hd (List Int))) jB vX rfl rfl k7 rfl rfl rfl h1 rfl (pcs_nil _) ?_
  intro k k8 (k9:aD G K (aH 66 K k e.length (aQ (List.replicate t.N.toNat ((none,0):Dp.Hd (List Int))) e)::rows [2] (List.replicate t.N.toNat ((none,0):Dp.Hd (List Int))) e::aH 66 K b a.length (aQ h d)::rows [2] h d::box Z 27 V::L) k8)
  refine aC ?_;refine aJ [5] (fun f w=>∃ l m,aAv d l=some R/\f 8=zS k l.length e.length/\List.length m=List.length l/\aD G K (aH 66 K k e.length (aQ m l)::rows [2] m l::aH 66 K b a.length (aQ h d)::rows [2] h d::L) w) ?_ ?_
  ·rintro f s2 ⟨l,m,hm,s3,d3,s4⟩
   unfold aAv at hm
   refine aC ?_;refine aJ [] (fun f w=>∃ b1 d4,aAt b1=some R/\f 5=zS b b1.length a.length/\List.length d4=List.length b1/\aD G K (aH 66 K b a.length (aQ d4 b1)::rows [2] d4 b1::L) w) ?_ ?_
   ·rintro f s5 ⟨b1,d4,hm,s6,l0,l1⟩
    unfold aAt at hm
    refine aC ?_;obtain ⟨s7,s8,l2,s9,l3,l4⟩:=aD.lendD' (i:=0) l1 l0 rfl rfl
    obtain ⟨t0,l5,hm⟩:=aB hm
    refine bP call92 (aCf l5 l3 l2) ?_
    rintro _ t1 ⟨l6,l7,rfl,l8⟩
    have l9:=l4 _ _ l8
    refine aC ?_;obtain rfl:=zI hm
    exact aLM results49 ⟨l6,l7,rfl,(aD.arr 2 [] l9 rfl)⟩
   obtain ⟨t2,m1,ho⟩:=aB hm
   refine mA [62,63] m1 (fun x d5 r f w=>∃ o,f 5=zS b x.length a.length/\f 64=i64 r/\List.length o=List.length x/\aD G K (aH 66 K k e.length (aQ m l)::rows [2] (List.drop d5 m) (List.drop d5 l)::aH 66 K b a.length (aQ o x)::rows [2] o x::L) w) aI ?_
   ·rintro x d5 r m2 f m3 hm hr ⟨o,h2,m4,a3,e9⟩
    unfold lO at hm
    refine aC ?_
    rcases aG hm with ⟨m5,hm⟩|⟨m5,hm⟩
    ·refine aC ?_;refine bT (aC ?_)
     obtain ⟨m6,c4,hm⟩:=aB hm
     obtain ⟨⟨f0,f1⟩,f2⟩:=aHn d3 c4
     have m7:=bY e9 (i:=0) rfl (jZ d3 c4 f2)
     refine aK (cR jB rfl m7 rfl rfl m4 c4) (aK (vV (t:=0) aHK e9 (i:=0) rfl (jZ d3 c4 f2) rfl rfl rfl) ?_);obtain ⟨u,m8,hm⟩:=aB hm
     have m9:aD G K (aH 2 K f0 f1 m6::aH 66 K k e.length (aQ m l)::rows [2] (List.drop u m) (List.drop u l)::aH 66 K b a.length (aQ o x)::rows [2] o x::L) m3:=aD.eatR (i:=0) (g:=d5) e9 rfl rfl d3 f2 c4 m8
     refine aC ?_;obtain ⟨n0,n1,hm⟩:=aB hm
     refine bP call90 (aDu m9 n1) ?_
     rintro _ t3 ⟨rfl,n2,n3⟩
     refine aC ?_;refine bG [62,63,64] (fun f w=>∃ b2 c6,aAu r u b2=some m2/\f 5=zS b b2.length a.length/\List.length c6=List.length b2/\aD G K (aH 66 K k e.length (aQ m l)::rows [2] (List.drop u m) (List.drop u l)::aH 66 K b a.length (aQ c6 b2)::rows [2] c6 b2::L) w) ?_ ?_
     ·rintro f t4 ⟨b2,c6,hm,n4,n5,n6⟩
      unfold aAu at hm
      refine aC ?_;exact ⟨_,(zI hm).symm,aU,c6,n4,rfl,n5,n6⟩
     refine xM (C:=fun w'=>∃ L',aD G K L' w') [10] Tryz_mixed (by kernel_rfl) (fun t5 n7=>?_)
     have a8:=aD.mono n3 n7
     refine kP 0 ?_;refine kP 1 ?_
     refine kP 2 ?_;refine kP 3 ?_
     obtain ⟨d6,a0,hm⟩:=aB hm
     obtain ⟨⟨d7,d8⟩,a9⟩:=aHn a3 a0
     have f3:=bY a8 (i:=3) rfl (jZ a3 a0 a9)
     refine gH (i:=4) rfl (by kernel_rfl) ⟨_,a8⟩ (fun _ _=>cR jB rfl f3 rfl rfl rfl a0) (gH (i:=6) rfl (by kernel_rfl) ⟨_,a8⟩ (fun _ _=>bW (v:=zS f0 n0.length f1) (Eq.trans rfl (congrArg (fun n=>zS f0 n f1) n2))) (nM (i:=5) (j:=7) (by kernel_rfl) rfl rfl ?_ ?_))
     ·refine aK (vV (t:=0) aHK a8 (i:=3) rfl (jZ a3 a0 a9) rfl rfl rfl) (aM (aF ⟨fun _=>⟨_,a8⟩,?_⟩))
      refine aS (i:=7) (by kernel_rfl) rfl ?_;obtain ⟨h4,n8,hm⟩:=aB hm
      refine bP call91 (dX n8 a8) ?_
      rintro _ h5 ⟨h7,h8,rfl,i0⟩
      refine aM (aF ⟨fun _=>⟨_,i0⟩,?_⟩)
      refine aS (i:=8) (by kernel_rfl) rfl ?_
      have t6:aD G K (aH 66 K b a.length (aQ o x)::rows [2] ((o).eraseIdx r.toNat) ((x).eraseIdx r.toNat)::aH 2 K d7 d8 d6::aH 2 K h7 h8 h4::aH 66 K k e.length (aQ m l)::rows [2] (List.drop u m) (List.drop u l)::L) h5:=aD.focusR (i:=3) i0 rfl rfl a9 a0
      obtain ⟨i1,t7,hm⟩:=aB hm
      have t8:aD G K (aH 2 K h7 h8 h4::aH 66 K b a.length (aQ o x)::rows [2] ((o).eraseIdx r.toNat) ((x).eraseIdx r.toNat)::aH 2 K d7 d8 d6::aH 66 K k e.length (aQ m l)::rows [2] (List.drop u m) (List.drop u l)::L) h5:=oK
      refine aGA fun b3 b4 n9 i2=>?_;refine aM (aF ⟨fun _=>⟨_,i2⟩,?_⟩)
      refine gH (i:=9) rfl (by kernel_rfl) ⟨_,i2⟩ (fun _ _=>cR jB rfl f3 rfl rfl rfl a0) (aS (i:=10) (by kernel_rfl) rfl ?_)
      have o0:aD G K (aH 2 K b3 b4 i1::aH 66 K b a.length (aQ o x)::rows [2] ((o).eraseIdx r.toNat) ((x).eraseIdx r.toNat)::aH 66 K k e.length (aQ m l)::rows [2] (List.drop u m) (List.drop u l)::L) n9:=oK
      obtain ⟨f4,f5,hm⟩:=aB hm
      refine aQl (i:=0) (tys:=[2]) (hd':=(b3,b4)) (e':=i1) (hds:=o) sizeOf66 o0 a3 rfl rfl rfl rfl rfl a0 a9 f5 rfl ?_
      intro o1 (t9:aD G K (aH 66 K b a.length (aQ (List.set o r.toNat (b3,b4)) f4)::rows [2] (List.set o r.toNat (b3,b4)) f4::aH 66 K k e.length (aQ m l)::rows [2] (List.drop u m) (List.drop u l)::L) o1)
      refine aM (aF ⟨aGb rfl,?_⟩)
      refine fG (by kernel_rfl) (aC ?_);exact ⟨aU,f4,(List.set o r.toNat (b3,b4)),hm,(Eq.trans h2 (congrArg (fun n=>zS b n a.length) (gX f5))),(aKN (hd:=((b3,b4):Dp.Hd (List Int))) a3 f5),oK⟩
     ·obtain ⟨i3,o2,hm⟩:=aB hm
      refine bP call91 (dX o2 a8) ?_
      rintro _ i4 ⟨i5,i6,rfl,d9⟩
      refine aM (aF ⟨fun _=>⟨_,d9⟩,?_⟩)
      refine aS (i:=5) (by kernel_rfl) rfl (aK (vV (t:=0) aHK d9 (i:=3) rfl (jZ a3 a0 a9) rfl rfl rfl) (aM (aF ⟨fun _=>⟨_,d9⟩,?_⟩)))
      refine aS (i:=8) (by kernel_rfl) rfl ?_
      have u0:aD G K (aH 66 K b a.length (aQ o x)::rows [2] ((o).eraseIdx r.toNat) ((x).eraseIdx r.toNat)::aH 2 K d7 d8 d6::aH 2 K i5 i6 i3::aH 66 K k e.length (aQ m l)::rows [2] (List.drop u m) (List.drop u l)::L) i4:=aD.focusR (i:=3) d9 rfl rfl a9 a0
      obtain ⟨i7,u1,hm⟩:=aB hm
      have u2:aD G K (aH 2 K i5 i6 i3::aH 66 K b a.length (aQ o x)::rows [2] ((o).eraseIdx r.toNat) ((x).eraseIdx r.toNat)::aH 2 K d7 d8 d6::aH 66 K k e.length (aQ m l)::rows [2] (List.drop u m) (List.drop u l)::L) i4:=oK
      refine aGA fun b5 b6 o3 i8=>?_;refine aM (aF ⟨fun _=>⟨_,i8⟩,?_⟩)
      refine gH (i:=9) rfl (by kernel_rfl) ⟨_,i8⟩ (fun _ _=>cR jB rfl f3 rfl rfl rfl a0) (aS (i:=10) (by kernel_rfl) rfl ?_)
      have o4:aD G K (aH 2 K b5 b6 i7::aH 66 K b a.length (aQ o x)::rows [2] ((o).eraseIdx r.toNat) ((x).eraseIdx r.toNat)::aH 66 K k e.length (aQ m l)::rows [2] (List.drop u m) (List.drop u l)::L) o3:=oK
      obtain ⟨f6,f7,hm⟩:=aB hm
      refine aQl (i:=0) (tys:=[2]) (hd':=(b5,b6)) (e':=i7) (hds:=o) sizeOf66 o4 a3 rfl rfl rfl rfl rfl a0 a9 f7 rfl ?_
      intro o5 (u3:aD G K (aH 66 K b a.length (aQ (List.set o r.toNat (b5,b6)) f6)::rows [2] (List.set o r.toNat (b5,b6)) f6::aH 66 K k e.length (aQ m l)::rows [2] (List.drop u m) (List.drop u l)::L) o5)
      refine aM (aF ⟨aGb rfl,?_⟩)
      refine fG (by kernel_rfl) (aC ?_);exact ⟨aU,f6,(List.set o r.toNat (b5,b6)),hm,(Eq.trans h2 (congrArg (fun n=>zS b n a.length) (gX f7))),(aKN (hd:=((b5,b6):Dp.Hd (List Int))) a3 f7),oK⟩
    ·exact aI
  obtain ⟨u4,o6,ho⟩:=aB hm
  refine aY [1,2,5,33,34] o6 (fun y f8 f w=>∃ q,f 8=zS k y.length e.length/\f 35=i64 f8/\List.length q=List.length y/\aD G K (aH 66 K k e.length (aQ q y)::rows [2] q y::aH 66 K b a.length (aQ h d)::rows [2] h d::box Z 27 V::L) w) ?_ ?_
  ·exact ⟨(List.replicate t.N.toNat ((none,0):Dp.Hd (List Int))),rfl,rfl,(aLH (hd:=((none,0):Dp.Hd (List Int))) h1).2.1,k9⟩
  ·rintro y f8 o7 f u5 hm hr ⟨q,i9,u6,a5,u7⟩
   unfold lP at hm
   refine aC ?_
   rcases aG hm with ⟨o8,hm⟩|⟨o8,hm⟩
   ·refine aC ?_;refine bT (aC ?_)
    obtain ⟨c,o9,hm⟩:=aB hm
    refine aC ?_;obtain ⟨u8,u9,p0⟩:=aT.el (sz:=3) rfl h6 o9
    cases p0
    refine aC ?_;refine jH fun e0 v0 v1=>?_
    refine kM fun v2 p1=>?_;refine aC ?_
    refine bG [1,2,5,33,34,35] (fun f w=>∃ b7 c7,aAw f8 b7=some o7/\f 8=zS k b7.length e.length/\List.length c7=List.length b7/\aD G K (aH 66 K k e.length (aQ c7 b7)::rows [2] c7 b7::aH 66 K b a.length (aQ h d)::rows [2] h d::box Z 27 V::L) w) ?_ ?_
    ·rintro f v3 ⟨b7,c7,hm,p2,p3,p4⟩
     unfold aAw at hm
     refine aC ?_;exact ⟨_,(zI hm).symm,aU,c7,p2,rfl,p3,p4⟩
    obtain ⟨v4,v5,e1,p5,j0⟩:=aD.lendBp p1 .head
    obtain ⟨c9,e2,v6,p6,j1⟩:=aD.lendBp p5 zt4
    refine xM (C:=fun w'=>∃ L',aD G c9 L' w') [22] Tryz_mixed (by kernel_rfl) (fun v7 p7=>?_)
    have z:=aD.mono p6 p7
    refine kP 0 ?_;refine kP 1 ?_
    refine gH (i:=2) rfl (by kernel_rfl) ⟨_,z⟩ (fun _ ⟨_,z⟩=>cH (t:=0) jE z (e1.mono e2) rfl rfl) (kP 3 ?_);refine kP 4 ?_
    refine gH (i:=5) rfl (by kernel_rfl) ⟨_,z⟩ (fun _ ⟨_,z⟩=>cH (t:=0) jE z (e1.mono e2) rfl rfl) ?_;obtain ⟨e3,a2,hm⟩:=aB hm
    obtain ⟨⟨e4,e5⟩,b0⟩:=aHn a5 a2
    have f9:=bY z (i:=0) rfl (jZ a5 a2 b0)
    refine gH (i:=6) rfl (by kernel_rfl) ⟨_,z⟩ (fun _ _=>cR jB rfl f9 rfl rfl rfl a2) (kP 8 ?_);refine gH (i:=9) rfl (by kernel_rfl) ⟨_,z⟩ (fun _ ⟨_,z⟩=>cH (t:=1) jE z (e1.mono e2) rfl rfl) (kP 10 ?_)
    refine kP 11 ?_;refine kP 12 ?_
    refine kP 13 ?_;refine kP 14 ?_
    refine gH (i:=15) rfl (by kernel_rfl) ⟨_,z⟩ (fun _ ⟨_,z⟩=>cH (t:=2) jE z (e1.mono e2) rfl rfl) ?_;obtain ⟨b8,p8,hm⟩:=aB hm
    refine kP 16 ?_;obtain ⟨v8,v9,p9⟩:=aT.el (sz:=1) rfl h9 p8
    cases p9
    refine kP 17 ?_;refine kP 18 ?_
    refine nM (i:=7) (j:=19) (by kernel_rfl) rfl rfl ?_ ?_
    ·refine aK (vV (t:=0) aHK z (i:=0) rfl (jZ a5 a2 b0) rfl rfl rfl) (aM (aF ⟨fun _=>⟨_,z⟩,?_⟩))
     refine aS (i:=19) (by kernel_rfl) rfl (nE ([wr ((wr (c.B * t.N))+b8)]:List Int) fun j2 j3 j4=>?_);refine aM (aF ⟨fun _=>⟨_,j4⟩,?_⟩)
     refine aS (i:=20) (by kernel_rfl) rfl ?_
     have w0:aD G c9 (aH 66 K k e.length (aQ q y)::rows [2] ((q).eraseIdx c.F.toNat) ((y).eraseIdx c.F.toNat)::aH 2 K e4 e5 e3::aH 2 K j2 1 ([wr ((wr (c.B * t.N))+b8)]:List Int)::aH 66 K b a.length (aQ h d)::rows [2] h d::L) j3:=aD.focusR (i:=1) j4 rfl rfl b0 a2
     obtain ⟨j5,w1,hm⟩:=aB hm
     have w2:aD G c9 (aH 2 K j2 1 ([wr ((wr (c.B * t.N))+b8)]:List Int)::aH 66 K k e.length (aQ q y)::rows [2] ((q).eraseIdx c.F.toNat) ((y).eraseIdx c.F.toNat)::aH 2 K e4 e5 e3::aH 66 K b a.length (aQ h d)::rows [2] h d::L) j3:=oK
     refine aGA fun b9 c0 q0 g0=>?_;refine aM (aF ⟨fun _=>⟨_,g0⟩,?_⟩)
     refine gH (i:=21) rfl (by kernel_rfl) ⟨_,g0⟩ (fun _ _=>cR jB rfl f9 rfl rfl rfl a2) (aS (i:=22) (by kernel_rfl) rfl ?_)
     have q1:=j1 _ _ g0
     have w3:=j0 _ _ q1
     have q2:aD G K (aH 2 K b9 c0 j5::box e0 61 [i64 c.F,i64 c.B,i64 c.To]::box Z 27 V::aH 66 K k e.length (aQ q y)::rows [2] ((q).eraseIdx c.F.toNat) ((y).eraseIdx c.F.toNat)::aH 66 K b a.length (aQ h d)::rows [2] h d::L) q0:=oK
     obtain ⟨g1,g2,hm⟩:=aB hm
     refine aQl (i:=2) (tys:=[2]) (hd':=(b9,c0)) (e':=j5) (hds:=q) sizeOf66 q2 a5 rfl rfl rfl rfl rfl a2 b0 g2 rfl ?_
     intro q3 (w4:aD G K (aH 66 K k e.length (aQ (List.set q c.F.toNat (b9,c0)) g1)::rows [2] (List.set q c.F.toNat (b9,c0)) g1::box e0 61 [i64 c.F,i64 c.B,i64 c.To]::box Z 27 V::aH 66 K b a.length (aQ h d)::rows [2] h d::L) q3)
     refine aM (aF ⟨aGb rfl,?_⟩)
     refine fG (by kernel_rfl) (aC ?_);exact ⟨aU,g1,(List.set q c.F.toNat (b9,c0)),hm,(Eq.trans i9 (congrArg (fun n=>zS k n e.length) (gX g2))),(aKN (hd:=((b9,c0):Dp.Hd (List Int))) a5 g2),oK⟩
    ·refine nE ([wr ((wr (c.B * t.N))+b8)]:List Int) fun j6 j7 e6=>?_;refine aM (aF ⟨fun _=>⟨_,e6⟩,?_⟩)
     refine aS (i:=7) (by kernel_rfl) rfl (aK (vV (t:=0) aHK e6 (i:=1) rfl (jZ a5 a2 b0) rfl rfl rfl) (aM (aF ⟨fun _=>⟨_,e6⟩,?_⟩)))
     refine aS (i:=20) (by kernel_rfl) rfl ?_
     have w5:aD G c9 (aH 66 K k e.length (aQ q y)::rows [2] ((q).eraseIdx c.F.toNat) ((y).eraseIdx c.F.toNat)::aH 2 K e4 e5 e3::aH 2 K j6 1 ([wr ((wr (c.B * t.N))+b8)]:List Int)::aH 66 K b a.length (aQ h d)::rows [2] h d::L) j7:=aD.focusR (i:=1) e6 rfl rfl b0 a2
     obtain ⟨j8,w6,hm⟩:=aB hm
     have w7:aD G c9 (aH 2 K j6 1 ([wr ((wr (c.B * t.N))+b8)]:List Int)::aH 66 K k e.length (aQ q y)::rows [2] ((q).eraseIdx c.F.toNat) ((y).eraseIdx c.F.toNat)::aH 2 K e4 e5 e3::aH 66 K b a.length (aQ h d)::rows [2] h d::L) j7:=oK
     refine aGA fun c1 c3 q4 g3=>?_;refine aM (aF ⟨fun _=>⟨_,g3⟩,?_⟩)
     refine gH (i:=21) rfl (by kernel_rfl) ⟨_,g3⟩ (fun _ _=>cR jB rfl f9 rfl rfl rfl a2) (aS (i:=22) (by kernel_rfl) rfl ?_)
     have q5:=j1 _ _ g3
     have w8:=j0 _ _ q5
     have q6:aD G K (aH 2 K c1 c3 j8::box e0 61 [i64 c.F,i64 c.B,i64 c.To]::box Z 27 V::aH 66 K k e.length (aQ q y)::rows [2] ((q).eraseIdx c.F.toNat) ((y).eraseIdx c.F.toNat)::aH 66 K b a.length (aQ h d)::rows [2] h d::L) q4:=oK
     obtain ⟨g4,g5,hm⟩:=aB hm
     refine aQl (i:=2) (tys:=[2]) (hd':=(c1,c3)) (e':=j8) (hds:=q) sizeOf66 q6 a5 rfl rfl rfl rfl rfl a2 b0 g5 rfl ?_
     intro q7 (w9:aD G K (aH 66 K k e.length (aQ (List.set q c.F.toNat (c1,c3)) g4)::rows [2] (List.set q c.F.toNat (c1,c3)) g4::box e0 61 [i64 c.F,i64 c.B,i64 c.To]::box Z 27 V::aH 66 K b a.length (aQ h d)::rows [2] h d::L) q7)
     refine aM (aF ⟨aGb rfl,?_⟩)
     refine fG (by kernel_rfl) (aC ?_);exact ⟨aU,g4,(List.set q c.F.toNat (c1,c3)),hm,(Eq.trans i9 (congrArg (fun n=>zS k n e.length) (gX g5))),(aKN (hd:=((c1,c3):Dp.Hd (List Int))) a5 g5),oK⟩
   ·exact aI
 obtain ⟨x0,q8,ho⟩:=aB hm
 refine aY [1,2,16,17] q8 (fun d0 d1 f w=>∃ a6,f 5=zS b d0.length a.length/\f 18=i64 d1/\List.length a6=List.length d0/\aD G K (aH 66 K b a.length (aQ a6 d0)::rows [2] a6 d0::box Z 27 V::L) w) ?_ ?_
 ·exact ⟨(List.replicate t.N.toNat ((none,0):Dp.Hd (List Int))),rfl,rfl,(aLH (hd:=((none,0):Dp.Hd (List Int))) h0).2.1,k6⟩
 ·rintro d0 d1 x1 f x2 hm hr ⟨a6,q9,x3,e7,x4⟩
  unfold lQ at hm
  refine aC ?_
  rcases aG hm with ⟨r0,hm⟩|⟨r0,hm⟩
  ·refine aC ?_;refine bT (aC ?_)
   obtain ⟨j9,r1,hm⟩:=aB hm
   refine aC ?_;obtain ⟨x5,x6,r2⟩:=aT.el (sz:=1) rfl h9 r1
   cases r2
   refine aC ?_;refine nE ([j9]:List Int) fun d2 x7 k0=>?_
   obtain ⟨x8,e8,hm⟩:=aB hm
   obtain ⟨⟨x9,y0⟩,k1⟩:=aHn e7 e8
   have r3:=bY k0 (i:=1) rfl (jZ e7 e8 k1)
   refine aK (cR jB rfl r3 rfl rfl rfl e8) ?_;obtain ⟨k2,g6,hm⟩:=aB hm
   refine WO_stD (i:=0) (tys:=[2]) (hd':=(d2,1)) (e':=([j9]:List Int)) (hds:=a6) sizeOf66 k0 e7 rfl rfl rfl rfl rfl e8 k1 g6 rfl ?_
   intro r4 (r5:aD G K (aH 66 K b a.length (aQ (List.set a6 d1.toNat (d2,1)) k2)::rows [2] (List.set a6 d1.toNat (d2,1)) k2::box Z 27 V::L) r4)
   refine aC ?_;exact ⟨_,(zI hm).symm,aU,(List.set a6 d1.toNat (d2,1)),(Eq.trans q9 (congrArg (fun n=>zS b n a.length) (gX g6))),rfl,(aKN (hd:=((d2,1):Dp.Hd (List Int))) e7 g6),r5⟩
  ·exact aI
theorem aJV {n:Int} {a:aO} {R:(List (List Int))} (hm:aLf n a=some R) (hs:aD G K (L) w) (h3:aT K a1 c2 a.L) (h6:aT K a4 c5 a.E):
  Calls prog 48 ([i64 n,Value.func (.func 49) #[zA (zCa a a1 c2 a4 c5)] #[]]:List Value).toArray w (dO fun v w'=>∃ V Z y,v=zS V R.length Z/\List.length y=List.length R/\aD G K (aH 66 K V Z (aQ y R)::rows [2] y R::L) w'):=by
 refine cA func48 ?_;unfold aLf at hm
 refine aC ?_;obtain ⟨o,q8,hm⟩:=aB hm
 refine bP call88 (aGl q8 hs) ?_
 rintro _ b5 ⟨h,j,rfl,b6⟩
 have b7:aD G K (rows [2] ([(h,j)]:List (Dp.Hd (List Int))) [o]::L) b5:=aD.rowsOne b6
 refine cQ (Kt:=K) (xs:=aQ ([(h,j)]:List (Dp.Hd (List Int))) ([o]:List (List Int))) (cs:=[zS h o.length j]) (vs:=[(0,zS h o.length j)]) jB vX rfl rfl b7 rfl (by kernel_rfl) rfl rfl rfl ⟨rfl,trivial⟩ ?_
 intro a0 b8 (b9:aD G K (aH 66 K a0 1 (aQ ([(h,j)]:List (Dp.Hd (List Int))) ([o]:List (List Int)))::rows [2] ([(h,j)]:List (Dp.Hd (List Int))) ([o]:List (List Int))::L) b8)
 refine aC ?_;refine bT ?_
 obtain ⟨f1,c0,ho⟩:=aB hm
 refine eM [1] c0 (fun c f w=>∃ k l b,f 5=zS k c.length l/\List.length b=List.length c/\aD G K (aH 66 K k l (aQ b c)::rows [2] b c::L) w) ?_ ?_
 ·exact ⟨a0,1,([(h,j)]:List (Dp.Hd (List Int))),rfl,rfl,b9⟩
 ·rintro c f2 f f3 hm hr ⟨k,l,b,f4,g,z⟩
  unfold aFM at hm
  refine bT (aC ?_);obtain ⟨q,p,hm⟩:=aB hm
  obtain ⟨⟨r,u⟩,x⟩:=aHn g p
  have c1:=bY z (i:=0) rfl (jZ g p x)
  refine aK (cR jB rfl c1 rfl rfl rfl p) (aK (vV (t:=0) aHK z (i:=0) rfl (jZ g p x) rfl rfl rfl) (aV (v:=zS r q.length u) (bA (bL (aR (v:=Value.func (.func 49) #[zA (zCa a a1 c2 a4 c5)] #[]) (aR (v:=zS r q.length u) ?_))))));obtain ⟨f5,a2,f6,c3,c4,c6⟩:=aD.lendD' (i:=0) z g rfl rfl
  obtain ⟨m,c7,hm⟩:=aB hm
  refine WO_callvB (bs:=[zA (zCa a a1 c2 a4 c5)]) (vs:=[zS r q.length u]) (caps:=[]) (us:=[zA (zCa a a1 c2 a4 c5),zS r q.length u]) rfl call49 rfl rfl (aFS c7 c4 (h3.mono a2) (h6.mono a2) (aKh (c3 _ _ _ x (aKM p)))) ?_
  rintro _ f7 ⟨d,e,rfl,c8⟩
  have c9:=c6 _ _ c8
  refine aC ?_;obtain ⟨f8,d0,f9,d1,d2,d3⟩:=aD.lendD' (i:=0) c9 g rfl rfl
  obtain ⟨g0,d4,d5,d6,d7⟩:=aD.lendSp d2 d0 .head
  obtain ⟨g1,d8,hm⟩:=aB hm
  refine bP call89 (jX d8 d6 ((aKh (d1 _ _ _ x (aKM p))).mono d4) d5) ?_
  rintro _ a3 ⟨rfl,d9⟩
  have e0:=d7 _ _ d9
  have a5:=d3 _ _ e0
  refine aC ?_
  rcases aG hm with ⟨e1,hm⟩|⟨e1,hm⟩
  ·refine aC ?_;refine kQ (bO (gF (bO ?_)))
   have e2:=hr _ (zI hm).symm
   subst e2
   have hm:(some c)=some R:=ho
   clear hr ho
   obtain rfl:=zI hm
   exact gF (oQ results48 rfl ⟨k,l,b,rfl,g,(aD.arr 3 [0,1] a5 rfl)⟩)
  ·refine aC ?_
   have e4:aD G K (aH 2 K d e m::aH 66 K k l (aQ b c)::rows [2] b c::L) a3:=(aD.arr 3 [2,0,1] a5 rfl)
   have e5:aD G K (rows [2] ([(d,e)]:List (Dp.Hd (List Int))) [m]::aH 66 K k l (aQ b c)::rows [2] b c::L) a3:=aD.rowsOne e4
   refine cQ (Kt:=K) (xs:=aQ ([(d,e)]:List (Dp.Hd (List Int))) ([m]:List (List Int))) (cs:=[zS d m.length e]) (vs:=[(0,zS d m.length e)]) jB vX rfl rfl e5 rfl (by kernel_rfl) rfl rfl rfl ⟨rfl,trivial⟩ ?_
   intro e6 e7 (e8:aD G K (aH 66 K e6 1 (aQ ([(d,e)]:List (Dp.Hd (List Int))) ([m]:List (List Int)))::rows [2] ([(d,e)]:List (Dp.Hd (List Int))) ([m]:List (List Int))::aH 66 K k l (aQ b c)::rows [2] b c::L) e7)
   obtain ⟨a6,a7,hm⟩:=aB hm
   refine aKP (i:=0) (tys:=[2]) (hds:=b) (hds2:=([(d,e)]:List (Dp.Hd (List Int)))) jB underlying43 vX rfl rfl e8 g rfl rfl rfl a7 rfl rfl rfl rfl ?_
   intro a8 b0 e9 (f0:aD G K (aH 66 K a8 b0 (aQ (b++([(d,e)]:List (Dp.Hd (List Int)))) a6)::rows [2] (b++([(d,e)]:List (Dp.Hd (List Int)))) a6::L) e9)
   refine aC ?_;exact ⟨_,(zI hm).symm,aU,a8,b0,(b++([(d,e)]:List (Dp.Hd (List Int)))),rfl,(aJf g rfl a7),f0⟩
theorem aCg {t:aO} {R:(List Int)} (hm:rB t=some R) (l:aD G K (L) w) (d:aT K a1 c2 t.L) (e:aT K a4 c5 t.E):
  Calls prog 22 ([zA (zCa t a1 c2 a4 c5)]:List Value).toArray w (dO fun v w'=>∃ a b c,v=zS b R.length c/\Hp.le K a/\aT a b c R/\aD G a (L) w'):=by
 refine cA func22 ?_;unfold rB at hm
 refine aC ?_;refine kN fun m n g=>?_
 refine aC ?_;refine aK (aRN (bs:=[zA (zCa t a1 c2 a4 c5)]) (vs:=[]) rfl rfl) ?_
 obtain ⟨o,h,hm⟩:=aB hm
 refine bP call48 (aJV h g d e) ?_
 rintro _ p ⟨q,r,u,rfl,j,k⟩
 obtain ⟨x,y,z,_,V,_⟩:=aD.lendD' (i:=0) k j rfl rfl
 exact aI
theorem aX {a R:(List aL)} (hm:cE a=some R) (t:aD G K (L) w) (b:aT K a1 c2 a):
  Calls prog 86 ([zS a1 a.length c2]:List Value).toArray w (dO fun v w'=>∃ c d,v=zS c R.length d/\aD G K (aH 9 K c d R::L) w'):=by
 refine cA func86 ?_;unfold cE at hm
 iterate 9 refine eU ?_
 refine aK (aQj dG rfl rfl) (aC ?_)
 rcases aPt b with ⟨h,j,k⟩|l
 ·subst h;subst j;subst k
  refine aRp rfl ?_
  replace hm:(some [])=some R:=hm
  exact aI
 ·refine aRq (Eq.trans rfl (congrArg Value.bool l)) (aC ?_);refine nE ([]:List aL) fun u x m=>?_
  refine aC ?_;obtain ⟨n,o,hm⟩:=aB hm
  refine tR (i:=0) dG underlying24 zF rfl rfl m rfl (Hp.le_refl _) b o rfl rfl rfl rfl (fun e g p (q:aD G K (aH 9 K e g n::L) p)=>(aC ?_));obtain rfl:=zI hm
  exact aLM results86 ⟨e,g,rfl,q⟩
end Gv
namespace Gv
open Go.Value renaming slice→zS,bool→zB,agg→zA,tuple→zT
open Option.some renaming inj→zI
open Gv.Hp renaming le_trans→zL,le_refl→zR
open Go Go.Proofs Go.Proofs.Tryz
set_option maxRecDepth 20000
set_option maxHeartbeats 40000000
variable {G:Env} {K Kf:Hp} {L:List iD} {w:World} {a1 a4 a7 a10 a13:Option Addr} {c2 c5 c8 c11:Nat}
theorem aDx {t R:aO} (hm:uP t=some R) (hs:aD G K (L) w) (y:aT K a1 c2 t.L) (h6:aT K a4 c5 t.E):
  Calls prog 46 ([zA (zCa t a1 c2 a4 c5)]:List Value).toArray w (dO fun v w'=>∃ c3 c4 c6 c7,v=zA (zCa R c3 c4 c6 c7)/\aD G K (aH 9 K c3 c4 R.L::aH 61 K c6 c7 R.E::L) w'):=by
 let g:=(zC t a1 c2 a4 c5)
 let d:=zG
 refine kR func46 rfl (by kernel_rfl) (by show (1:Nat)<=52;decide) ?_;unfold uP at hm
 refine bL (aCt (v:=zA (zCa t a1 c2 a4 c5)) (vs:=g) hs rfl rfl (fun l w8 f0=>(gQ (vs:=d) zeroValue27 f0 rfl (fun h h8 f1=>(bA (bM (bG [1,2] (fun f w=>∃ a k b c,uF t a=some R/\f 3=Value.pointer (some ⟨k,0,none⟩)/\aD G K (aH 9 K b c a::box k 27 [i64 t.N,i64 t.I,zS b a.length c,zS none 0 0]::box h 27 d::box l 27 g::L) w) ?_ ?_)))))))
 ·rintro f h9 ⟨a,k,b,c,hm,i0,c8⟩
  unfold uF at hm
  refine aF (bM (bL (aK (jG (t':=0) aHp rfl rfl) (aK (aKH jE c8 (i:=3) rfl rfl rfl) (aR (v:=i64 0) (bA (aJ [2,3] (fun f w=>∃ a6 c9 d0,aEX t a a6=some R/\aD G K (aH 61 K c9 d0 a6::aH 9 K b c a::box k 27 [i64 t.N,i64 t.I,zS b a.length c,zS c9 a6.length d0]::box h 27 d::L) w) aI ?_)))))))
  have i1:=aD.nil (α:=Edge) c8 61 K
  obtain ⟨i2,f2,ho⟩:=aB hm
  refine aY [1,2,3,18] f2 (fun a7 m f w=>∃ a8 a9,f 19=i64 m/\aD G K (aH 61 K a8 a9 a7::aH 9 K b c a::box k 27 [i64 t.N,i64 t.I,zS b a.length c,zS a8 a7.length a9]::box h 27 d::box l 27 g::L) w) aI ?_
  ·rintro a7 m d1 f i3 hm hr ⟨a8,a9,b0,f3⟩
   unfold jT at hm
   refine bL (aK (tK b0 rfl) (bA (bM ?_)))
   rcases aG hm with ⟨d2,hm⟩|⟨d2,hm⟩
   ·refine bX d2 rfl (eJ (aF (bM (aJ [1,2,3,18,19] (fun f w=>∃ z V Z,uD m z=some d1/\aD G K (aH 61 K V Z z::aH 9 K b c a::box k 27 [i64 t.N,i64 t.I,zS b a.length c,zS V z.length Z]::box h 27 d::box l 27 g::L) w) ?_ ?_))))
    ·rintro f i4 ⟨z,V,Z,hm,f4⟩
     unfold uD at hm
     exact aF (cG (aK (tJ b0 rfl) (aR (v:=i64 (wr (m+1))) (bA ⟨_,(zI hm).symm,aU,V,Z,rfl,f4⟩))))
    refine bL (fO b0 (aV (v:=i64 m) (bA (bL (aK (jG (t':=2) vW rfl rfl) (aK (aKH aBv f3 (i:=4) rfl rfl rfl) (aK (nW (len:=t.L.length) dG rfl) (aR (v:=i64 0) (bA (aJ [1,2,3,18,19] (fun f w=>∃ b1 d3 d4,aAI m b1=some d1/\aD G K (aH 61 K d3 d4 b1::aH 9 K b c a::box k 27 [i64 t.N,i64 t.I,zS b a.length c,zS d3 b1.length d4]::box h 27 d::box l 27 g::L) w) aI ?_))))))))));obtain ⟨i5,f5,ho⟩:=aB hm
    refine aY [1,2,3,4,18,19,23,24] f5 (fun b2 n f w=>∃ b3 b4,f 25=i64 n/\aD G K (aH 61 K b3 b4 b2::aH 9 K b c a::box k 27 [i64 t.N,i64 t.I,zS b a.length c,zS b3 b2.length b4]::box h 27 d::box l 27 g::L) w) aI ?_
    ·rintro b2 n d5 f i6 hm hr ⟨b3,b4,a0,b5⟩
     unfold mK at hm
     refine bL (aK (tK a0 rfl) (bA (bM ?_)))
     rcases aG hm with ⟨d6,hm⟩|⟨d6,hm⟩
     ·refine bX d6 rfl (eJ (aF (bM (aJ [1,2,3,4,18,19,23,24,25] (fun f w=>∃ a2 a3 a5,uE n a2=some d5/\aD G K (aH 61 K a3 a5 a2::aH 9 K b c a::box k 27 [i64 t.N,i64 t.I,zS b a.length c,zS a3 a2.length a5]::box h 27 d::box l 27 g::L) w) ?_ ?_))))
      ·rintro f i7 ⟨a2,a3,a5,hm,f6⟩
       unfold uE at hm
       exact aF (cG (aK (tJ a0 rfl) (aR (v:=i64 (wr (n+1))) (bA ⟨_,(zI hm).symm,aU,a3,a5,rfl,f6⟩))))
      refine bL (fO a0 ?_);obtain ⟨b6,d7,hm⟩:=aB hm
      refine aK (aId dG rfl y rfl rfl a0 d7) ?_;obtain ⟨i8,f7,f8⟩:=aT.el (sz:=1) rfl y d7
      cases f8
      refine aK (cH (t:=0) sc_9 b5 f7 rfl rfl) (aV (v:=i64 n) (aV (v:=str b6) (bA (bL (aK (nC (us:=g) fF b5 (i:=4) rfl rfl rfl rfl) (aR (v:=i64 m) (aR (v:=str b6) ?_)))))));obtain ⟨d8,f9,hm⟩:=aB hm
      refine bJ (vs:=[zA (zCa t a1 c2 a4 c5),i64 m,str b6]) call87 rfl (aCc f9 b5 y h6) ?_
      rintro _ i9 ⟨g0,g1,rfl,j0⟩
      refine aK (nW (len:=d8.length) gD rfl) (aR (v:=i64 0) (bA (aJ [1,2,3,4,18,19,23,24,25] (fun f w=>∃ b8 d9 e0,aAJ n b8=some d5/\aD G K (aH 61 K d9 e0 b8::aH 9 K b c a::box k 27 [i64 t.N,i64 t.I,zS b a.length c,zS d9 b8.length e0]::box h 27 d::box l 27 g::L) w) aI ?_)));obtain ⟨j1,g2,ho⟩:=aB hm
      exact aY [1,2,3,4,5,18,19,23,24,25,33,34] g2 (fun e1 g3 f w=>∃ e2 e3,f 35=i64 g3/\aD G K (aH 2 K g0 g1 d8::aH 61 K e2 e3 e1::aH 9 K b c a::box k 27 [i64 t.N,i64 t.I,zS b a.length c,zS e2 e1.length e3]::box h 27 d::box l 27 g::L) w) aI aI
     ·exact aI
   ·exact aI
 obtain ⟨g4,e4,b9,g5,e5⟩:=aD.lendBp f1 zt1
 refine xM (C:=fun w'=>∃ L',aD G g4 L' w') [9] Tryz_mixed (by kernel_rfl) (fun j2 g6=>?_)
 have e:=aD.mono g5 g6
 refine gH (i:=0) rfl (by kernel_rfl) ⟨_,e⟩ (fun _ _=>jG (t':=0) aHp rfl rfl) (gH (i:=1) rfl (by kernel_rfl) ⟨_,e⟩ (fun _ ⟨_,e⟩=>cH (t:=0) jE e b9 rfl rfl) (gH (i:=2) rfl (by kernel_rfl) ⟨_,e⟩ (fun _ _=>jG (t':=1) aHq rfl rfl) (gH (i:=3) rfl (by kernel_rfl) ⟨_,e⟩ (fun _ ⟨_,e⟩=>cH (t:=1) jE e b9 rfl rfl) (gH (i:=4) rfl (by kernel_rfl) ⟨_,e⟩ (fun _ _=>jG (t':=2) vW rfl rfl) (gH (i:=5) rfl (by kernel_rfl) ⟨_,e⟩ (fun _ ⟨_,e⟩=>cH (t:=2) aBv e b9 rfl rfl) (nM (i:=6) (j:=8) (by kernel_rfl) rfl rfl ?_ ?_))))))
 ·obtain ⟨o,g7,hm⟩:=aB hm
  refine bJ (vs:=[zS a1 t.L.length c2]) call86 rfl (aX g7 e (y.mono e4)) ?_
  rintro _ j3 ⟨p,q,rfl,c0⟩
  refine aM (aF ⟨fun _=>⟨_,c0⟩,?_⟩)
  refine gH (i:=7) rfl (by kernel_rfl) ⟨_,c0⟩ (fun _ _=>dI (vs:=[(0,i64 t.N),(1,i64 t.I),(2,zS p o.length q)]) (cs:=[i64 t.N,i64 t.I,zS p o.length q,zS none 0 0]) zH rfl (by kernel_rfl)) (aS (i:=8) (by kernel_rfl) rfl (gQ (vs:=d) zeroValue27 c0 rfl (fun g8 j4 e6=>(aM (aF ⟨fun _=>⟨_,e6⟩,?_⟩)))))
  refine aS (i:=9) (by kernel_rfl) rfl ?_
  have g9:=e5 _ _ e6
  refine nV (i:=1) (ns:=[i64 t.N,i64 t.I,zS p o.length q,zS none 0 0]) (us:=[i64 t.N,i64 t.I,zS p o.length q,zS none 0 0]) sizeOf27 g9 rfl rfl rfl rfl rfl (oR rfl) rfl rfl (fun h0 (j5:aD G K (box l 27 g::box g8 27 [i64 t.N,i64 t.I,zS p o.length q,zS none 0 0]::aH 9 K p q o::box h 27 d::L) h0)=>(aM (aF ⟨aGb rfl,?_⟩)))
  exact fG (by kernel_rfl) aI
 ·refine gQ (vs:=d) zeroValue27 e rfl (fun h1 j6 e7=>(aM (aF ⟨fun _=>⟨_,e7⟩,?_⟩)))
  refine aS (i:=6) (by kernel_rfl) rfl ?_;obtain ⟨r,h2,hm⟩:=aB hm
  refine bJ (vs:=[zS a1 t.L.length c2]) call86 rfl (aX h2 e7 (y.mono e4)) ?_
  rintro _ j7 ⟨u,x,rfl,c1⟩
  refine aM (aF ⟨fun _=>⟨_,c1⟩,?_⟩)
  refine gH (i:=7) rfl (by kernel_rfl) ⟨_,c1⟩ (fun _ _=>dI (vs:=[(0,i64 t.N),(1,i64 t.I),(2,zS u r.length x)]) (cs:=[i64 t.N,i64 t.I,zS u r.length x,zS none 0 0]) zH rfl (by kernel_rfl)) (aS (i:=9) (by kernel_rfl) rfl ?_)
  have h4:=e5 _ _ c1
  refine nV (i:=2) (ns:=[i64 t.N,i64 t.I,zS u r.length x,zS none 0 0]) (us:=[i64 t.N,i64 t.I,zS u r.length x,zS none 0 0]) sizeOf27 h4 rfl rfl rfl rfl rfl (oR rfl) rfl rfl (fun h5 (j8:aD G K (box l 27 g::aH 9 K u x r::box h1 27 [i64 t.N,i64 t.I,zS u r.length x,zS none 0 0]::box h 27 d::L) h5)=>(aM (aF ⟨aGb rfl,?_⟩)))
  exact fG (by kernel_rfl) aI
theorem aHV {t:aO} {R:(List Int)} (hm:aCB t=some R) (hs:aD G K (L) w) (m:aT K a1 c2 t.L) (n:aT K a4 c5 t.E):
  Calls prog 21 ([zA (zCa t a1 c2 a4 c5)]:List Value).toArray w (dO fun v w'=>∃ b e g,v=zS e R.length g/\Hp.le K b/\aT b e g R/\aD G b (L) w'):=by
 let h:=(zC t a1 c2 a4 c5)
 refine cA func21 ?_;unfold aCB at hm
 refine aC ?_;refine kN fun i w8 o=>?_
 refine aC ?_;obtain ⟨a,p,hm⟩:=aB hm
 refine bP call46 (aDx p o m n) ?_
 rintro _ j ⟨b0,b1,q,r,rfl,u⟩
 obtain ⟨x,k,y,c⟩:=aD.giveSp u (zR _) .head
 replace c:aD G x (aH 61 K q r a.E::box i 27 h::L) j:=c
 obtain ⟨z,l,V,d⟩:=aD.giveSp c k .head
 replace d:aD G z (box i 27 h::L) j:=d
 obtain ⟨b2,Z,hm⟩:=aB hm
 refine bP call22 (aCg (t:=⟨a.N,a.I,a.L,a.E⟩) Z d (y.mono l) V) ?_
 rintro _ b3 ⟨a0,a2,a3,rfl,a5,a6,b4⟩
 refine aC ?_;obtain rfl:=zI hm
 exact aLM results21 ⟨a0,a2,a3,rfl,(zL (zL k l) a5),a6,oK⟩
theorem aSa {a b:aO} {R:(List Int)} (hm:aQy a b=some R) (hs:aD G K (L) w) (y:aT K a1 c2 a.L) (z:aT K a4 c5 a.E) (V:aT K a7 c8 b.L) (Z:aT K a10 c11 b.E):
  Calls prog 45 ([zA (zCa a a1 c2 a4 c5),zA (zCa b a7 c8 a10 c11),Value.func (.func 21) #[] #[]]:List Value).toArray w (dO fun v w'=>∃ d j k,v=zS j R.length k/\Hp.le K d/\aT d j k R/\aD G d (L) w'):=by
 let l:=(zC b a7 c8 a10 c11)
 let m:=(zC a a1 c2 a4 c5)
 refine cA func45 ?_;unfold aQy at hm
 refine aC ?_;refine kN fun n b8 b9=>?_
 refine kN fun o c0 a0=>?_;refine aC ?_
 obtain ⟨c,a2,hm⟩:=aB hm
 refine bP call85 (aEo a2 a0 y z V Z) ?_
 rintro _ p ⟨q,r,e,g,rfl,a3⟩
 obtain ⟨a5,u,a6,h⟩:=aD.giveSp a3 (zR _) .head
 replace h:aD G a5 (aH 61 K e g c.E::box o 27 l::box n 27 m::L) p:=h
 obtain ⟨a8,x,a9,i⟩:=aD.giveSp h u .head
 replace i:aD G a8 (box o 27 l::box n 27 m::L) p:=i
 obtain ⟨c1,b0,hm⟩:=aB hm
 refine gR (vs:=[zA (zCa c q r e g)]) (caps:=[]) (us:=[zA (zCa c q r e g)]) rfl call21 rfl rfl (aHV (t:=⟨c.N,c.I,c.L,c.E⟩) b0 i (a6.mono x) a9) ?_
 rintro _ c3 ⟨b1,b2,b3,rfl,b4,b5,c4⟩
 refine aC ?_;obtain rfl:=zI hm
 exact aLM results45 ⟨b1,b2,b3,rfl,(zL (zL u x) b4),b5,oK⟩
theorem aMM {a b:aO} {R:(Bool × Int)} (hm:aHx a b=some R) (x:aD G K (L) w) (y:G.lo=0) (z:aT K a1 c2 a.L) (V:aT K a4 c5 a.E) (Z:aT K a7 c8 b.L) (a0:aT K a10 c11 b.E):
  Calls prog 20 ([zA (zCa a a1 c2 a4 c5),zA (zCa b a7 c8 a10 c11),Value.func (.func 21) #[] #[]]:List Value).toArray w (dO fun v w'=>v=zT #[zB R.1,i64 R.2]/\aD G K (L) w'):=by
 let d:=(zC b a7 c8 a10 c11)
 let e:=(zC a a1 c2 a4 c5)
 refine cA func20 ?_;unfold aHx at hm
 refine aC ?_;refine kN fun i a2 a3=>?_
 refine kN fun n a5 a6=>?_
 iterate 6 refine eU ?_
 refine bG [2,3,4] (fun f w=>∃ g,aAf a b g=some R/\f 15=zB g/\aD G K (box n 27 d::box i 27 e::L) w) ?_ ?_
 ·rintro f j ⟨g,hm,a8,o⟩
  unfold aAf at hm
  refine aC ?_
  rcases aG hm with ⟨p,hm⟩|⟨p,hm⟩
  ·exact aI
  ·refine aC ?_;obtain ⟨q,a9,k,h,_⟩:=aD.lendBp o .head
   replace h:aD G q (box i 27 e::L) j:=h
   obtain ⟨r,l,u,m,_⟩:=aD.lendBp h .head
   replace m:aD G r (L) j:=m
   refine aBr [(0,0),(1,0),(2,0),(3,0),(4,0),(5,1),(6,1),(7,0),(8,0)] fun b0 c=>?_;refine aC ?_
   exact cS rfl (fun _ ⟨_,c⟩=>jR (t:=0) (vs:=d) fF c (k.mono l) (kA rfl) rfl rfl) (cS rfl (fun _ ⟨_,c⟩=>jR (t:=0) (vs:=e) fF c u (kA rfl) rfl rfl) (cS rfl (fun _ ⟨_,c⟩=>jR (t:=0) (vs:=d) fF c (k.mono l) (kA rfl) rfl rfl) (cS rfl (fun _ _=>bW (v:=Value.func (.func 21) #[] #[]) rfl) (lV rfl aI))))
 exact aI
theorem aFl {a b:aO} {R:(Bool × Int)} (hm:aBh a b=some R) (c:aD G K (L) w) (d:G.lo=0) (e:aT K a1 c2 a.L) (g:aT K a4 c5 a.E) (h:aT K a7 c8 b.L) (i:aT K a10 c11 b.E):
  Calls prog 6 ([zA (zCa a a1 c2 a4 c5),zA (zCa b a7 c8 a10 c11)]:List Value).toArray w (dO fun v w'=>v=zT #[zB R.1,i64 R.2]/\aD G K (L) w'):=by
 exact aI
theorem aNN {a b:aO} {R:(List Int)} (hm:aJm a b=some R) (hs:aD G K (L) w) (y:aT K a1 c2 a.L) (z:aT K a4 c5 a.E) (V:aT K a7 c8 b.L) (Z:aT K a10 c11 b.E):
  Calls prog 45 ([zA (zCa a a1 c2 a4 c5),zA (zCa b a7 c8 a10 c11),Value.func (.func 22) #[] #[]]:List Value).toArray w (dO fun v w'=>∃ d j k,v=zS j R.length k/\Hp.le K d/\aT d j k R/\aD G d (L) w'):=by
 let l:=(zC b a7 c8 a10 c11)
 let m:=(zC a a1 c2 a4 c5)
 refine cA func45 ?_;unfold aJm at hm
 refine aC ?_;refine kN fun n b8 b9=>?_
 refine kN fun o c0 a0=>?_;refine aC ?_
 obtain ⟨c,a2,hm⟩:=aB hm
 refine bP call85 (aEo a2 a0 y z V Z) ?_
 rintro _ p ⟨q,r,e,g,rfl,a3⟩
 obtain ⟨a5,u,a6,h⟩:=aD.giveSp a3 (zR _) .head
 replace h:aD G a5 (aH 61 K e g c.E::box o 27 l::box n 27 m::L) p:=h
 obtain ⟨a8,x,a9,i⟩:=aD.giveSp h u .head
 replace i:aD G a8 (box o 27 l::box n 27 m::L) p:=i
 obtain ⟨c1,b0,hm⟩:=aB hm
 refine gR (vs:=[zA (zCa c q r e g)]) (caps:=[]) (us:=[zA (zCa c q r e g)]) rfl call22 rfl rfl (aCg (t:=⟨c.N,c.I,c.L,c.E⟩) b0 i (a6.mono x) a9) ?_
 rintro _ c3 ⟨b1,b2,b3,rfl,b4,b5,c4⟩
 refine aC ?_;obtain rfl:=zI hm
 exact aLM results45 ⟨b1,b2,b3,rfl,(zL (zL u x) b4),b5,oK⟩
theorem aKp {a b:aO} {R:(Bool × Int)} (hm:aCY a b=some R) (x:aD G K (L) w) (y:G.lo=0) (z:aT K a1 c2 a.L) (V:aT K a4 c5 a.E) (Z:aT K a7 c8 b.L) (a0:aT K a10 c11 b.E):
  Calls prog 20 ([zA (zCa a a1 c2 a4 c5),zA (zCa b a7 c8 a10 c11),Value.func (.func 22) #[] #[]]:List Value).toArray w (dO fun v w'=>v=zT #[zB R.1,i64 R.2]/\aD G K (L) w'):=by
 let d:=(zC b a7 c8 a10 c11)
 let e:=(zC a a1 c2 a4 c5)
 refine cA func20 ?_;unfold aCY at hm
 refine aC ?_;refine kN fun i a2 a3=>?_
 refine kN fun n a5 a6=>?_
 iterate 6 refine eU ?_
 refine bG [2,3,4] (fun f w=>∃ g,sZ a b g=some R/\f 15=zB g/\aD G K (box n 27 d::box i 27 e::L) w) ?_ ?_
 ·rintro f j ⟨g,hm,a8,o⟩
  unfold sZ at hm
  refine aC ?_
  rcases aG hm with ⟨p,hm⟩|⟨p,hm⟩
  ·exact aI
  ·refine aC ?_;obtain ⟨q,a9,k,h,_⟩:=aD.lendBp o .head
   replace h:aD G q (box i 27 e::L) j:=h
   obtain ⟨r,l,u,m,_⟩:=aD.lendBp h .head
   replace m:aD G r (L) j:=m
   refine aBr [(0,0),(1,0),(2,0),(3,0),(4,0),(5,1),(6,1),(7,0),(8,0)] fun b0 c=>?_;refine aC ?_
   exact cS rfl (fun _ ⟨_,c⟩=>jR (t:=0) (vs:=d) fF c (k.mono l) (kA rfl) rfl rfl) (cS rfl (fun _ ⟨_,c⟩=>jR (t:=0) (vs:=e) fF c u (kA rfl) rfl rfl) (cS rfl (fun _ ⟨_,c⟩=>jR (t:=0) (vs:=d) fF c (k.mono l) (kA rfl) rfl rfl) (cS rfl (fun _ _=>bW (v:=Value.func (.func 22) #[] #[]) rfl) (lV rfl aI))))
 exact aI
theorem aEe {a b:aO} {R:(Bool × Int)} (hm:wX a b=some R) (c:aD G K (L) w) (d:G.lo=0) (e:aT K a1 c2 a.L) (g:aT K a4 c5 a.E) (h:aT K a7 c8 b.L) (i:aT K a10 c11 b.E):
  Calls prog 7 ([zA (zCa a a1 c2 a4 c5),zA (zCa b a7 c8 a10 c11)]:List Value).toArray w (dO fun v w'=>v=zT #[zB R.1,i64 R.2]/\aD G K (L) w'):=by
 exact aI
theorem aBj {e:Edge} {p:(List Int)} {a:Nat} {R:Bool} (hm:pK e p=some R) (c:aD G K (L) w) (d:cK K a1 a [zS a4 p.length c5]) (g:aT K a4 c5 p):
  Calls prog 179 ([zA #[i64 e.F,i64 e.B,i64 e.To],cU a1 a]:List Value).toArray w (dO fun v w'=>v=zB R/\aD G K (L) w'):=by
 refine cA func179 ?_;unfold pK at hm
 refine aC ?_;refine kN fun h i j=>?_
 refine aC ?_;exact bG [] (fun f w=>∃ b,vP b=some R/\f 3=zB b/\aD G K (L) w) aI aI
theorem aHW {t:aO} {g:(List Int)} {b:Nat} {R:aO} (hm:aHy t g=some R) (hs:aD G K (L) w) (b3:Hp.le Kf K) (h3:aT Kf a1 c2 t.L) (z:aT K a4 c5 t.E) (V:cK K a7 b [zS a10 g.length c11]) (Z:aT K a10 c11 g):
  Calls prog 178 ([zA (zCa t a1 c2 a4 c5),Value.func (.func 179) #[] #[cU a7 b]]:List Value).toArray w (dO fun v w'=>∃ p q r u,v=zA (zCa R p q r u)/\aT Kf p q R.L/\aD G K (aH 61 K r u R.E::L) w'):=by
 let h:=zG
 refine cA func178 ?_;unfold aHy at hm
 refine aC ?_;refine kN fun b5 b6 b7=>?_
 refine jH fun i b8 b9=>?_
 iterate 10 refine eU ?_
 refine aK (dI (vs:=[(0,i64 t.N),(1,i64 t.I),(2,zS a1 t.L.length c2)]) (cs:=[i64 t.N,i64 t.I,zS a1 t.L.length c2,zS none 0 0]) zH rfl (by kernel_rfl)) (jH fun j c0 c1=>?_);refine kM fun c3 a0=>?_
 refine aC ?_;refine aJ [4,5] (fun f w=>∃ k x y,aJS t k=some R/\aD G K (aH 61 K x y k::box j 27 [i64 t.N,i64 t.I,zS a1 t.L.length c2,zS x k.length y]::box i 27 h::L) w) aI ?_
 have c4:=aD.nil (α:=Edge) a0 61 K
 obtain ⟨c6,a2,ho⟩:=aB hm
 refine aY [1,4,5,16,17] a2 (fun l m f w=>∃ n o,f 18=i64 m/\aD G K (aH 61 K n o l::box j 27 [i64 t.N,i64 t.I,zS a1 t.L.length c2,zS n l.length o]::box i 27 h::L) w) aI ?_
 ·rintro l m a3 f c7 hm hr ⟨n,o,c8,c9⟩
  unfold vM at hm
  refine aC ?_
  rcases aG hm with ⟨a5,hm⟩|⟨a5,hm⟩
  ·refine aC ?_;refine aJ [1,4,5,16,17,18] (fun f w=>∃ c d e,aAg m c=some a3/\aD G K (aH 61 K d e c::box j 27 [i64 t.N,i64 t.I,zS a1 t.L.length c2,zS d c.length e]::box i 27 h::L) w) ?_ ?_
   ·rintro f d0 ⟨c,d,e,hm,a6⟩
    unfold aAg at hm
    refine aC ?_;exact ⟨_,(zI hm).symm,aU,d,e,rfl,a6⟩
   refine aC ?_;obtain ⟨a,a8,hm⟩:=aB hm
   refine aC ?_;obtain ⟨d1,d2,a9⟩:=aT.el (sz:=3) rfl z a8
   cases a9
   refine aC ?_;refine jH fun d3 d4 d5=>?_
   refine kM fun d6 b0=>?_;refine aC ?_
   obtain ⟨d7,b1,hm⟩:=aB hm
   exact gR (vs:=[zA #[i64 a.F,i64 a.B,i64 a.To]]) (caps:=[cU a7 b]) (us:=[zA #[i64 a.F,i64 a.B,i64 a.To],cU a7 b]) rfl call179 rfl rfl (aBj b1 b0 V Z) aI
  ·exact aI
theorem aDy {t:aO} {p:(List Int)} {R:aO} (hm:uQ t p=some R) (x:aD G K (L) w) (h:aT K a1 c2 t.L) (i:aT K a4 c5 t.E) (j:aT K a7 c8 p):
  Calls prog 134 ([zA (zCa t a1 c2 a4 c5),zS a7 p.length c8]:List Value).toArray w (dO fun v w'=>∃ a c d e g,v=zA (zCa R c d e g)/\Hp.le K a/\aT a c d R.L/\aT a e g R.E/\aD G a (L) w'):=by
 refine cA func134 ?_;unfold uQ at hm
 refine aC ?_;refine kN fun y z V=>?_
 refine kN fun k Z a0=>?_;refine jH fun a2 a3 l=>?_
 iterate 5 refine eU ?_
 refine aK (kU (vs:=[Value.pointer (some ⟨k,0,none⟩)]) rfl) ?_;obtain ⟨a5,b,m,n,o⟩:=aD.lendBp l zt1
 obtain ⟨a6,q,hm⟩:=aB hm
 refine bP call178 (aHW (Kf:=K) q n b h (i.mono b) m (j.mono b)) ?_
 rintro _ a8 ⟨a9,b0,b1,b2,rfl,b3,r⟩
 have b4:=o _ _ r
 refine kM fun b5 u=>?_;refine aC ?_
 obtain ⟨b6,b7,b8,b9⟩:=aD.giveSp u (zR _) zt1
 exact aI
theorem pX {d:(List Bool)} {l:Int} {R:(List Bool)} (hm:eZ d l=some R) (hs:aD G K (L) w) (h3:aT K a1 c2 d):
  Calls prog 180 ([zS a1 d.length c2,i64 l]:List Value).toArray w (dO fun v w'=>∃ u x,v=zS u R.length x/\aD G K (aH 4 K u x R::L) w'):=by
 refine cA func180 ?_;unfold eZ at hm
 iterate 5 refine eU ?_
 refine rD [0,1] (fun f w=>iH d l=some R/\aD G K (L) w) ?_ ?_
 ·rintro f w4 ⟨hm,a9⟩
  unfold iH at hm
  refine bL (aR (v:=zS a1 d.length c2) (aK (nW (len:=d.length) gP rfl) (aK (aLF runUnderlying101 rfl ⟨_,runUnderlying3⟩) (aR (v:=i64 l) (aK (aLF runUnderlying101 rfl ⟨_,runUnderlying3⟩) ?_)))));obtain ⟨c,q7,hm⟩:=aB hm
  refine bP call218 (lib_Mul a9 q7) ?_
  rintro _ w8 ⟨rfl,y⟩
  refine aR (v:=zT #[Value.int .u64 c.1,Value.int .u64 c.2]) (aK (dD rfl rfl) (aK (dD rfl rfl) (aV (v:=Value.int .u64 c.1) (aV (v:=Value.int .u64 c.2) (bA (rD [0,6] (fun f w=>iG d c=some R/\aD G K (L) w) ?_ ?_))))))
  ·rintro f d4 ⟨hm,b1⟩
   unfold iG at hm
   refine bL (aR (v:=Value.int .u64 c.2) (aK (aRt runUnderlying3 rfl ⟨_,runUnderlying101⟩) ?_));obtain ⟨a,b2,hm⟩:=aB hm
   refine aFB (e:=(false:Bool)) gP ez_4 rfl rfl b1 rfl rfl rfl b2 rfl (fun b b3 (z:aD G K (aH 4 K b a.length a::L) b3)=>(aV (v:=zS b a.length a.length) (bA (bL (aR (v:=zS b a.length a.length) (aR (v:=zS a1 d.length c2) ?_))))));obtain ⟨b4,V,hm⟩:=aB hm
   refine aRG gP rfl z (i:=0) rfl Cut.whole rfl rfl rfl (aPs _ _ _) aNB (aRH rfl z h3) V (fun b5 (b6:aD G K (aH 4 K b a.length b4::L) b5)=>(aV (v:=i64 ((Nat.min d.length a.length):Int)) (bA (bM (aJ [] (fun f w=>∃ j,iE j=some R/\f 7=zS b j.length a.length/\aD G K (aH 4 K b a.length j::L) w) ?_ ?_)))))
   ·rintro f d5 ⟨j,hm,b7,b8⟩
    unfold iE at hm
    refine aF (bL (fO b7 (aV (v:=zS b j.length a.length) (bA ?_))));obtain rfl:=zI hm
    exact aLM results180 ⟨b,a.length,rfl,b8⟩
   obtain ⟨d6,c0,ho⟩:=aB hm
   refine aY [] c0 (fun k m f w=>f 7=zS b k.length a.length/\f 8=i64 m/\aD G K (aH 4 K b a.length k::L) w) ?_ ?_
   ·exact ⟨(Eq.trans rfl (congrArg (fun n=>zS b n a.length) (aHk V))),rfl,b6⟩
   ·rintro k m d7 f d8 hm hr ⟨o,p,d9⟩
    unfold iF at hm
    refine bM (bL (fO p (fO o (aK (nW (len:=k.length) gP rfl) (aK (tK rfl rfl) (bA ?_))))))
    rcases aG hm with ⟨r,hm⟩|⟨r,hm⟩
    ·refine bX r rfl (eJ (aF (bT (aBr [(0,0),(1,0),(2,0),(3,0),(4,0),(5,0),(6,0),(7,1),(8,0),(9,0)] fun e0 q=>?_))));refine cS rfl (fun _ _=>bW p) (cS rfl (fun _ _=>bW o) (cS rfl (fun _ _=>bW p) ?_))
     obtain ⟨c1,c3,hm⟩:=aB hm
     have c4:=mX q (i:=0) rfl
     obtain ⟨e1,e2,Z⟩:=Cut.ex 1 b a.length m
     refine cS rfl (fun _ _=>yR gP c4 Z rfl rfl rfl c3) (cS rfl (fun _ _=>bW o) (cS rfl (fun _ _=>bW p) ?_));obtain ⟨c5,a0,hm⟩:=aB hm
     have c6:=mX q (i:=0) rfl
     obtain ⟨e3,e4,a2⟩:=Cut.ex 1 b a.length 0
     refine cS rfl (fun _ _=>aIk gP c6 a2 rfl rfl rfl a0) (lV rfl ?_);obtain ⟨c7,a3,hm⟩:=aB hm
     refine aRG gP rfl q (i:=0) rfl Z rfl rfl rfl (aPs _ _ _) aNB (aTo rfl q (i:=0) rfl a0 a2) a3 (fun c8 (a4:aD G K (aH 4 K b a.length c7::L) c8)=>(aM (aF ⟨⟨_,a4⟩,?_⟩)))
     exact cS rfl (fun _ _=>tJ rfl rfl) (cS rfl (fun _ _=>jY (v:=i64 (wr (m+((Nat.min c5.length c1.length):Int)))) rfl) (tS (oJ (aF ⟨_,(zI hm).symm,aU,(Eq.trans o (congrArg (fun n=>zS b n a.length) (aHk a3))),rfl,a4⟩))))
    ·refine cD r rfl (aEz (oP (oP ?_)))
     have c9:=hr _ (zI hm).symm
     subst c9
     have hm:(iE k)=some R:=ho
     exact aI
  refine bM (bG [0,6] (fun f w=>∃ t,fE d c t=some R/\f 26=zB t/\aD G K (L) w) ?_ ?_)
  ·rintro f e5 ⟨t,hm,d0,d1⟩
   unfold fE at hm
   refine aF ?_
   rcases aG hm with ⟨a5,hm⟩|⟨a5,hm⟩
   ·exact aI
   ·exact cD a5 d0 (eJ (aF ⟨aU,hm,d1⟩))
  refine cG (aR (v:=Value.int .u64 c.1) (aK (aNv rfl rfl) (aR (v:=zB (decide (0 < c.1))) ?_)))
  rcases aG hm with ⟨h,hm⟩|⟨h,hm⟩
  ·exact bV h rfl rfl (bV h rfl rfl (aK (dH (v:=zB true) h rfl rfl) (bA ⟨aU,true,hm,rfl,y⟩)))
  ·exact cC h rfl rfl (aR (v:=Value.int .u64 c.2) (cC h rfl rfl (aK (aNv rfl rfl) (aK (dR (v:=zB (decide (9223372036854775807 < c.2))) h rfl rfl) (bA ⟨aU,decide (9223372036854775807 < c.2),hm,rfl,y⟩)))))
 refine aC ?_
 rcases aG hm with ⟨a6,hm⟩|⟨a6,hm⟩
 ·exact aI
 ·exact cD a6 rfl (eJ (aF ⟨aU,hm,hs⟩))
theorem aBk {e:Edge} {p:(List Bool)} {a:Nat} {R:Bool} (hm:pL e p=some R) (c:aD G K (L) w) (d:cK K a1 a [zS a4 p.length c5]) (g:aT K a4 c5 p):
  Calls prog 182 ([zA #[i64 e.F,i64 e.B,i64 e.To],cU a1 a]:List Value).toArray w (dO fun v w'=>v=zB R/\aD G K (L) w'):=by
 refine cA func182 ?_;unfold pL at hm
 refine aC ?_;refine kN fun h i j=>?_
 iterate 4 refine eU ?_
 exact bG [] (fun f w=>∃ b,vQ b=some R/\f 3=zB b/\aD G K (L) w) aI aI
theorem rT {c:(List Edge)} {d:(List Bool)} {b:Nat} {R:Int} (hm:eL c d=some R) (p:aD G K (L) w) (g:aT K a1 c2 c) (h:cK K a4 b [zS a7 d.length c8]) (i:aT K a7 c8 d):
  Calls prog 219 ([zS a1 c.length c2,Value.func (.func 182) #[] #[cU a4 b]]:List Value).toArray w (dO fun v w'=>v=i64 R/\aD G K (L) w'):=by
 refine cA func219 ?_;unfold eL at hm
 refine aC ?_;refine aJ [] (fun f w=>kF=some R/\aD G K (L) w) aI ?_
 obtain ⟨q,j,ho⟩:=aB hm
 refine eM [0,1,7] j (fun e f w=>f 8=i64 e/\aD G K (L) w) aI ?_
 ·rintro e r f t hm hr ⟨u,k⟩
  unfold cI at hm
  refine aC ?_
  rcases aG hm with ⟨l,hm⟩|⟨l,hm⟩
  ·refine aC ?_;refine bT (aC ?_)
   obtain ⟨a,m,hm⟩:=aB hm
   refine aC ?_;obtain ⟨x,y,n⟩:=aT.el (sz:=3) rfl g m
   cases n
   refine aC ?_;obtain ⟨z,o,hm⟩:=aB hm
   exact gR (vs:=[zA #[i64 a.F,i64 a.B,i64 a.To]]) (caps:=[cU a4 b]) (us:=[zA #[i64 a.F,i64 a.B,i64 a.To],cU a4 b]) rfl call182 rfl rfl (aBk o k h i) aI
  ·exact aI
theorem iP {a:(List Edge)} {b:(List Bool)} {c:Nat} {R:Bool} (hm:dL a b=some R) (d:aD G K (L) w) (e:aT K a1 c2 a) (g:cK K a4 c [zS a7 b.length c8]) (h:aT K a7 c8 b):
  Calls prog 181 ([zS a1 a.length c2,Value.func (.func 182) #[] #[cU a4 c]]:List Value).toArray w (dO fun v w'=>v=zB R/\aD G K (L) w'):=by
 exact aI
theorem aDz {t:aO} {R:(List Bool)} (hm:oD t=some R) (hs:aD G K (L) w) (h3:aT K a1 c2 t.L) (h6:aT K a4 c5 t.E):
  Calls prog 135 ([zA (zCa t a1 c2 a4 c5)]:List Value).toArray w (dO fun v w'=>∃ z V,v=zS z R.length V/\aD G K (aH 4 K z V R::L) w'):=by
 let d:=(zC t a1 c2 a4 c5)
 refine cA func135 ?_;unfold oD at hm
 refine aC ?_;refine kN fun e w8 f1=>?_
 refine aC ?_;refine nE ([true]:List Bool) fun f2 f3 b1=>?_
 refine aC ?_;obtain ⟨f4,f5,b2,b3,b4⟩:=aD.lendSp b1 (zR _) .head
 obtain ⟨f6,b5,hm⟩:=aB hm
 refine bP call180 (pX b5 b3 b2) ?_
 rintro _ f7 ⟨a,b,rfl,b6⟩
 have f8:=b4 _ _ b6
 refine jH fun c f9 g0=>?_;refine kM fun g1 g2=>?_
 refine aC ?_;refine aJ [3] (fun f w=>∃ m,aEY m=some R/\aD G K (box c 103 [zS a m.length b]::aH 4 K a b m::L) w) aI ?_
 obtain ⟨g3,b8,ho⟩:=aB hm
 refine aY [1,3] b8 (fun n Z f w=>f 4=zB Z/\aD G K (box c 103 [zS a n.length b]::aH 4 K a b n::box e 27 d::L) w) aI ?_
 ·rintro n Z a0 f g4 hm hr ⟨g5,g6⟩
  unfold mM at hm
  refine aC ?_
  rcases aG hm with ⟨b9,hm⟩|⟨b9,hm⟩
  ·refine aC ?_;refine aJ [1,3] (fun f w=>∃ j o,aAK j o=some a0/\f 4=zB o/\aD G K (box c 103 [zS a j.length b]::aH 4 K a b j::box e 27 d::L) w) ?_ ?_
   ·rintro f g7 ⟨j,o,hm,c0,c1⟩
    unfold aAK at hm
    refine aC ?_;exact ⟨_,(zI hm).symm,aU,c0,c1⟩
   refine aC ?_;refine aJ [1,3] (fun f w=>∃ p a2,aEZ p a2=some a0/\f 4=zB a2/\aD G K (box c 103 [zS a p.length b]::aH 4 K a b p::box e 27 d::L) w) aI ?_
   obtain ⟨g8,c3,ho⟩:=aB hm
   refine mA [1,3,13] c3 (fun g q k f w=>f 4=zB q/\f 14=i64 k/\aD G K (box c 103 [zS a g.length b]::aH 4 K a b g::box e 27 d::L) w) aI ?_
   ·rintro g q k a3 f g9 hm hr ⟨h0,h1,c4⟩
    unfold gA at hm
    refine aC ?_
    rcases aG hm with ⟨c6,hm⟩|⟨c6,hm⟩
    ·refine aC ?_;refine aJ [1,3,13,14] (fun f w=>∃ l r,jU k l r=some a3/\f 4=zB r/\aD G K (box c 103 [zS a l.length b]::aH 4 K a b l::box e 27 d::L) w) ?_ ?_
     ·rintro f h2 ⟨l,r,hm,c7,c8⟩
      unfold jU at hm
      refine aC ?_;exact ⟨_,(zI hm).symm,aU,c7,rfl,c8⟩
     refine aC ?_;obtain ⟨h4,c9,hm⟩:=aB hm
     refine bP call119 (xB c9 c4 h3 h6) ?_
     rintro _ h5 ⟨h7,h8,rfl,d0⟩
     refine aK (kU (vs:=[Value.pointer (some ⟨c,0,none⟩)]) rfl) ?_;obtain ⟨h9,d1,d2,d3,d4⟩:=aD.lendSp d0 (zR _) .head
     obtain ⟨i0,d5,d6,d7,d8⟩:=aD.lendSp d3 d1 zt1
     obtain ⟨i1,a5,d9,e0,e1⟩:=aD.lendBp d7 .head
     obtain ⟨i2,e2,hm⟩:=aB hm
     refine bP call181 (iP e2 e0 (d2.mono (zL d5 a5)) d9 (d6.mono a5)) ?_
     rintro _ i3 ⟨rfl,e3⟩
     have e4:=e1 _ _ e3
     have e5:=d8 _ _ e4
     have i4:=d4 _ _ e5
     iterate 4 refine eU ?_
     refine bG [1,3,4,5,13,14] (fun f w=>∃ u,fZ g q k u=some a3/\f 29=zB u/\aD G K (aH 4 K a b g::box c 103 [zS a g.length b]::box e 27 d::L) w) ?_ ?_
     ·rintro f i5 ⟨u,hm,i6,a6⟩
      unfold fZ at hm
      refine aC ?_
      rcases aG hm with ⟨e6,hm⟩|⟨e6,hm⟩
      ·refine aC ?_;obtain ⟨i7,x,hm⟩:=aB hm
       have e7:=bY a6 (i:=0) rfl x
       refine aK (cR gP rfl e7 rfl rfl rfl x) ?_;obtain ⟨y,a7,hm⟩:=aB hm
       refine lU (i:=0) (t:=0) (ns:=[zB false]) (e':=(false:Bool)) sizeOf4 a6 rfl (zR _) rfl rfl rfl x a7 rfl rfl (oR rfl) rfl (fun cs h=>by cases h;rfl) (fun a8 (e8:aD G K (aH 4 K a b y::box c 103 [zS a g.length b]::box e 27 d::L) a8)=>?_)
       have i8:aD G K (aH 4 K a b y::box c 103 [zS a y.length b]::box e 27 d::L) a8:=by rw [←(gX a7)];exact e8
       exact aI
      ·exact aI
     exact aI
    ·exact aI
  ·exact aI
theorem aBl {t:aO} {R:(List (List Int))} (hm:pM t=some R) (hs:aD G K (L) w) (h3:aT K a1 c2 t.L) (h6:aT K a4 c5 t.E):
  Calls prog 136 ([zA (zCa t a1 c2 a4 c5)]:List Value).toArray w (dO fun v w'=>∃ q r o,v=zS q R.length r/\List.length o=List.length R/\aD G K (aH 66 K q r (aQ o R)::rows [2] o R::L) w'):=by
 let h:=(zC t a1 c2 a4 c5)
 refine cA func136 ?_;unfold pM at hm
 refine aC ?_;refine kN fun j w8 a8=>?_
 refine aC ?_;refine aJ [] (fun f w=>∃ m u x p,aCo m=some R/\f 3=zS u m.length x/\List.length p=List.length m/\aD G K (aH 66 K u x (aQ p m)::rows [2] p m::L) w) aI ?_
 have a9:aD G K (aH 66 K none 0 (aQ ([]:List (Dp.Hd (List Int))) ([]:List (List Int)))::rows [2] ([]:List (Dp.Hd (List Int))) ([]:List (List Int))::box j 27 h::L) w8:=aD.nil (α:=Cells _) (aD.rowsNil (α:=(List Int)) (tys:=[2]) a8) 66 K
 obtain ⟨c8,b0,ho⟩:=aB hm
 refine aY [1,6] b0 (fun b e f w=>∃ k l a,f 3=zS k b.length l/\f 7=i64 e/\List.length a=List.length b/\aD G K (aH 66 K k l (aQ a b)::rows [2] a b::box j 27 h::L) w) ?_ ?_
 ·exact ⟨none,0,[],rfl,rfl,rfl,a9⟩
 ·rintro b e c9 f d0 hm hr ⟨k,l,a,d1,d2,y,d3⟩
  unfold jF at hm
  refine aC ?_
  rcases aG hm with ⟨b1,hm⟩|⟨b1,hm⟩
  ·refine aC ?_;refine bT (aC ?_)
   refine nE ([e]:List Int) fun n d4 b2=>?_;obtain ⟨d5,z,b3,b4,b5⟩:=aD.lendSp b2 (zR _) .head
   obtain ⟨g,b6,hm⟩:=aB hm
   refine bP call96 (sD b6 b4 (h3.mono z) (h6.mono z) b3) ?_
   rintro _ V ⟨c,d,rfl,b8⟩
   have d6:=b5 _ _ b8
   have b9:aD G K (aH 2 K c d g::aH 2 K n 1 ([e]:List Int)::aH 66 K k l (aQ a b)::rows [2] a b::box j 27 h::L) V:=oK
   have c0:aD G K (rows [2] ([(c,d)]:List (Dp.Hd (List Int))) [g]::aH 2 K n 1 ([e]:List Int)::aH 66 K k l (aQ a b)::rows [2] a b::box j 27 h::L) V:=aD.rowsOne b9
   refine cQ (Kt:=K) (xs:=aQ ([(c,d)]:List (Dp.Hd (List Int))) ([g]:List (List Int))) (cs:=[zS c g.length d]) (vs:=[(0,zS c g.length d)]) jB vX rfl rfl c0 rfl (by kernel_rfl) rfl rfl rfl ⟨rfl,trivial⟩ ?_
   intro c1 c3 (c4:aD G K (aH 66 K c1 1 (aQ ([(c,d)]:List (Dp.Hd (List Int))) ([g]:List (List Int)))::rows [2] ([(c,d)]:List (Dp.Hd (List Int))) ([g]:List (List Int))::aH 2 K n 1 ([e]:List Int)::aH 66 K k l (aQ a b)::rows [2] a b::box j 27 h::L) c3)
   obtain ⟨Z,a0,hm⟩:=aB hm
   refine aKP (i:=1) (tys:=[2]) (hds:=a) (hds2:=([(c,d)]:List (Dp.Hd (List Int)))) jB underlying43 vX rfl rfl c4 y rfl rfl rfl a0 rfl rfl rfl rfl ?_
   intro a2 a3 c6 (d7:aD G K (aH 66 K a2 a3 (aQ (a++([(c,d)]:List (Dp.Hd (List Int)))) Z)::rows [2] (a++([(c,d)]:List (Dp.Hd (List Int)))) Z::aH 2 K n 1 ([e]:List Int)::box j 27 h::L) c6)
   refine aC ?_;exact ⟨_,(zI hm).symm,aU,a2,a3,(a++([(c,d)]:List (Dp.Hd (List Int)))),rfl,rfl,(aJf y rfl a0),oK⟩
  ·exact aI
theorem aHA {is:Bool} {R:Int} (hm:aQz is=some R) (a:aD G K (L) w):
  Calls prog 138 ([zB is]:List Value).toArray w (dO fun v w'=>v=i64 R/\aD G K (L) w'):=by
 exact aI
theorem aFm {t:aO} {p:(List Int)} {c6:Bool} {R:(List Int)} (hm:mC t p c6=some R) (hs:aD G K (L) w) (h3:aT K a1 c2 t.L) (h6:aT K a4 c5 t.E) (h9:aT K a7 c8 p):
  Calls prog 94 ([zA (zCa t a1 c2 a4 c5),zS a7 p.length c8,zB c6]:List Value).toArray w (dO fun v w'=>∃ h8 i0,v=zS h8 R.length i0/\aD G K (aH 2 K h8 i0 R::L) w'):=by
 let o:=(zC t a1 c2 a4 c5)
 refine kR func94 rfl (by kernel_rfl) (by show (3:Nat)<=98;decide) ?_;unfold mC at hm
 refine bL (aCt (v:=zA (zCa t a1 c2 a4 c5)) (vs:=o) hs rfl rfl (fun y u9 i1=>(aV (v:=zS none 0 0) (bA (bL (aK (nC (us:=o) fF i1 (i:=0) rfl rfl rfl rfl) (aR (v:=zS a7 p.length c8) ?_)))))));obtain ⟨j,m2,hm⟩:=aB hm
 refine bJ (vs:=[zA (zCa t a1 c2 a4 c5),zS a7 p.length c8]) call134 rfl (aDy m2 i1 h3 h6 h9) ?_
 rintro _ v0 ⟨Z,b5,b6,b7,b8,rfl,a0,i2,i3,m3⟩
 refine gQ (vs:=zG) zeroValue27 m3 rfl (fun i4 v1 m4=>(nV (i:=0) (ns:=(zC j b5 b6 b7 b8)) (us:=(zC j b5 b6 b7 b8)) sizeOf27 m4 rfl rfl rfl rfl rfl (oR rfl) rfl rfl (fun m5 (i5:aD G Z (box i4 27 (zC j b5 b6 b7 b8)::box y 27 o::L) m5)=>(bA (bL (aK (nC (us:=(zC j b5 b6 b7 b8)) fF i5 (i:=0) rfl rfl rfl rfl) ?_))))));obtain ⟨m,m6,hm⟩:=aB hm
 refine bJ (vs:=[zA (zCa j b5 b6 b7 b8)]) call135 rfl (aDz m6 i5 i2 i3) ?_
 rintro _ v2 ⟨q,r,rfl,i6⟩
 refine aV (v:=zS q m.length r) (bA (bL (aV (v:=zS none 0 0) (bA (bM (bL (aK (nC (us:=(zC j b5 b6 b7 b8)) fF i6 (i:=1) rfl rfl rfl rfl) ?_)))))));obtain ⟨c,m7,hm⟩:=aB hm
 refine bJ (vs:=[zA (zCa j b5 b6 b7 b8)]) call136 rfl (aBl m7 i6 i2 i3) ?_
 rintro _ m8 ⟨z,V,d,rfl,d9,m9⟩
 refine aK (nW (len:=c.length) jB rfl) (aR (v:=i64 0) (bA (aJ [] (fun f w=>∃ c1 e0 e1 e2,jJ c1=some R/\f 9=zS e0 c1.length e1/\List.length e2=List.length c1/\aD G Z (aH 66 K e0 e1 (aQ e2 c1)::rows [2] e2 c1::L) w) ?_ ?_)))
 ·rintro f v3 ⟨c1,e0,e1,e2,hm,n0,n1,n2⟩
  unfold jJ at hm
  refine aF (bL (fO n0 ?_));obtain ⟨v4,v5,n3,v6,n4,n5⟩:=aD.lendD' (i:=0) n2 n1 rfl rfl
  obtain ⟨n6,n7,hm⟩:=aB hm
  refine bJ (vs:=[zS e0 c1.length e1]) call92 rfl (aCf n7 n4 n3) ?_
  rintro _ v7 ⟨i7,i8,rfl,n8⟩
  have n9:=n5 _ _ n8
  refine aV (v:=zS i7 n6.length i8) (bA ?_);obtain rfl:=zI hm
  exact kQ (oQ results94 rfl ⟨i7,i8,rfl,(aD.weakK (aD.arr 2 [] n9 rfl) a0)⟩)
 have o1:aD G Z (aH 66 K none 0 (aQ ([]:List (Dp.Hd (List Int))) ([]:List (List Int)))::rows [2] ([]:List (Dp.Hd (List Int))) ([]:List (List Int))::aH 66 K z V (aQ d c)::rows [2] d c::aH 4 K q r m::box i4 27 (zC j b5 b6 b7 b8)::box y 27 o::L) m8:=aD.nil (α:=Cells _) (aD.rowsNil (α:=(List Int)) (tys:=[2]) m9) 66 K
 obtain ⟨v8,o2,ho⟩:=aB hm
 refine aY [1,2,3,8,22,23] o2 (fun a b0 f w=>∃ u x b,f 9=zS u a.length x/\f 24=i64 b0/\List.length b=List.length a/\aD G Z (aH 66 K u x (aQ b a)::rows [2] b a::aH 66 K z V (aQ d c)::rows [2] d c::aH 4 K q r m::box y 27 o::L) w) ?_ ?_
 ·exact ⟨none,0,[],rfl,rfl,rfl,(aD.arr 6 [0,1,2,3,4] o1 rfl)⟩
 ·rintro a b0 e3 f v9 hm hr ⟨u,x,b,i9,e4,f7,d1⟩
  unfold fC at hm
  refine bL (aK (tK e4 rfl) (bA (bM ?_)))
  rcases aG hm with ⟨f8,hm⟩|⟨f8,hm⟩
  ·refine bX f8 rfl (eJ (aF (bM (aJ [1,2,3,8,22,23,24] (fun f w=>∃ c7 e5 e6 d2,nB b0 c7=some e3/\f 9=zS e5 c7.length e6/\List.length d2=List.length c7/\aD G Z (aH 66 K e5 e6 (aQ d2 c7)::rows [2] d2 c7::aH 66 K z V (aQ d c)::rows [2] d c::aH 4 K q r m::box y 27 o::L) w) ?_ ?_))))
   ·rintro f w0 ⟨c7,e5,e6,d2,hm,o3,o4,o5⟩
    unfold nB at hm
    exact aF (cG (aK (tJ e4 rfl) (aR (v:=i64 (wr (b0+1))) (bA ⟨_,(zI hm).symm,aU,e5,e6,d2,o3,rfl,o4,o5⟩))))
   refine bL (fO e4 ?_);obtain ⟨f9,d3,hm⟩:=aB hm
   obtain ⟨⟨g0,g1⟩,g2⟩:=aHn d9 d3
   have o6:=bY d1 (i:=2) rfl (jZ d9 d3 g2)
   refine aK (cR jB rfl o6 rfl rfl e4 d3) (aK (vV (t:=0) aHK d1 (i:=2) rfl (jZ d9 d3 g2) rfl rfl rfl) (aV (v:=i64 b0) (aV (v:=zS g0 f9.length g1) (bA (bL (aV (v:=zS none 0 0) (bA (bM (bL (aK (jG (t':=3) aQt rfl rfl) (aK (aKH sc_25 d1 (i:=5) rfl rfl rfl) (aK (nW (len:=t.E.length) lH rfl) (aR (v:=i64 0) (bA (aJ [1,2,3,8,9,10,22,23,24] (fun f w=>∃ d4 a3 a5,jK p c6 m a b0 d4=some e3/\f 12=zS a3 d4.length a5/\aD G Z (aH 2 K a3 a5 d4::aH 66 K u x (aQ b a)::rows [2] b a::aH 66 K z V (aQ d c)::rows [2] d c::aH 4 K q r m::box y 27 o::L) w) ?_ ?_)))))))))))))))
   ·rintro f w1 ⟨d4,a3,a5,hm,j0,o7⟩
    unfold jK at hm
    refine aF (bL (fO j0 ?_));obtain ⟨c3,o8,hm⟩:=aB hm
    refine bJ (vs:=[zS a3 d4.length a5]) call90 rfl (aDu o7 o8) ?_
    rintro _ w2 ⟨rfl,o9,p0⟩
    refine bA (bM (bG [1,2,3,8,9,12,22,23,24] (fun f w=>∃ d5 e7 e8,gO a b0 c3 d5=some e3/\f 15=zS e7 d5.length e8/\aD G Z (aH 2 K e7 e8 d5::aH 2 K a3 a5 c3::aH 66 K u x (aQ b a)::rows [2] b a::aH 66 K z V (aQ d c)::rows [2] d c::aH 4 K q r m::box y 27 o::L) w) ?_ ?_))
    ·rintro f p1 ⟨d5,e7,e8,hm,p2,p3⟩
     unfold gO at hm
     refine aF (cG (fO i9 (fO p2 (fO (v:=zS a3 c3.length a5) (Eq.trans j0 (congrArg (fun n=>zS a3 n a5) o9)) ?_))))
     have p4:aD G Z (aH 2 K a3 a5 c3::aH 2 K e7 e8 d5::aH 66 K u x (aQ b a)::rows [2] b a::aH 66 K z V (aQ d c)::rows [2] d c::aH 4 K q r m::box y 27 o::L) p1:=(aD.arr 2 [1,0] p3 rfl)
     obtain ⟨w3,p5,hm⟩:=aB hm
     refine bJ (vs:=[zS a3 c3.length a5]) call91 rfl (dX p5 p4) ?_
     rintro _ w4 ⟨w5,w6,rfl,p6⟩
     obtain ⟨c4,p7,hm⟩:=aB hm
     refine aAk (i:=0) gD underlying66 aGc rfl rfl p6 rfl a0 (zR _) p7 rfl rfl rfl rfl (fun _ h=>h) (fun a6 a8 j1 (p8:aD G Z (aH 2 K a6 a8 c4::aH 66 K u x (aQ b a)::rows [2] b a::aH 66 K z V (aQ d c)::rows [2] d c::aH 4 K q r m::box y 27 o::L) j1)=>?_)
     have p9:aD G Z (rows [2] ([(a6,a8)]:List (Dp.Hd (List Int))) [c4]::aH 66 K u x (aQ b a)::rows [2] b a::aH 66 K z V (aQ d c)::rows [2] d c::aH 4 K q r m::box y 27 o::L) j1:=aD.rowsOne p8
     refine cQ (Kt:=K) (xs:=aQ ([(a6,a8)]:List (Dp.Hd (List Int))) ([c4]:List (List Int))) (cs:=[zS a6 c4.length a8]) (vs:=[(0,zS a6 c4.length a8)]) jB vX rfl rfl p9 rfl (by kernel_rfl) rfl rfl rfl ⟨rfl,trivial⟩ ?_
     intro q0 q1 (q2:aD G Z (aH 66 K q0 1 (aQ ([(a6,a8)]:List (Dp.Hd (List Int))) ([c4]:List (List Int)))::rows [2] ([(a6,a8)]:List (Dp.Hd (List Int))) ([c4]:List (List Int))::aH 66 K u x (aQ b a)::rows [2] b a::aH 66 K z V (aQ d c)::rows [2] d c::aH 4 K q r m::box y 27 o::L) q1)
     obtain ⟨e9,j2,hm⟩:=aB hm
     refine aKP (i:=0) (tys:=[2]) (hds:=b) (hds2:=([(a6,a8)]:List (Dp.Hd (List Int)))) jB underlying43 vX rfl rfl q2 f7 rfl rfl rfl j2 rfl rfl rfl rfl ?_
     intro g3 g4 q3 (q4:aD G Z (aH 66 K g3 g4 (aQ (b++([(a6,a8)]:List (Dp.Hd (List Int)))) e9)::rows [2] (b++([(a6,a8)]:List (Dp.Hd (List Int)))) e9::aH 66 K z V (aQ d c)::rows [2] d c::aH 4 K q r m::box y 27 o::L) q3)
     exact aV (v:=zS g3 e9.length g4) (aM (oJ (aF ⟨aU,e9,g3,g4,(b++([(a6,a8)]:List (Dp.Hd (List Int)))),hm,rfl,(aJf f7 rfl j2),q4⟩)))
    obtain ⟨g5,j3,j4,j5,j6⟩:=aD.lendSp p0 a0 zt5
    refine aGu (C:=fun w'=>∃ L',aD G g5 L' w') [(0,0),(1,0),(2,0),(3,0),(4,0),(5,0),(6,0),(7,0),(8,0),(9,0),(10,0),(11,1),(12,1),(13,0)] Tryz_mixed (by kernel_rfl) (fun _ hg=>⟨_,aD.mono j5 hg⟩) (fun w7 q5=>?_)
    have c9:=aD.mono j5 q5
    refine cS rfl (fun _ _=>bW (v:=zS a7 p.length c8) rfl) (cS rfl (fun _ _=>bW (v:=i64 b0) rfl) ?_);obtain ⟨b1,j7,hm⟩:=aB hm
    refine cS rfl (fun _ _=>aId gD rfl (h9.mono (zL a0 j3)) rfl rfl rfl j7) ?_;obtain ⟨w8,q6,q7⟩:=aT.el (sz:=1) rfl h9 j7
    cases q7
    refine cS rfl (fun _ ⟨_,c9⟩=>cH (t:=0) jE c9 (q6.mono (zL a0 j3)) rfl rfl) (cS rfl (fun _ _=>bW (v:=zB c6) rfl) (cS rfl (fun _ _=>bW (v:=zB c6) rfl) ?_))
    rcases aG hm with ⟨a9,hm⟩|⟨a9,hm⟩
    ·refine aEB rfl rfl rfl a9 (fun _ _=>bW (v:=zS q m.length r) rfl) (aEB rfl rfl rfl a9 (fun _ _=>bW (v:=i64 b0) rfl) ?_);obtain ⟨j8,g6,hm⟩:=aB hm
     have q8:=aKO j4 g6
     refine aEB rfl rfl rfl a9 (fun _ _=>cR gP rfl q8 rfl rfl rfl g6) ?_;obtain ⟨w9,q9,r0⟩:=aT.el (sz:=1) rfl j4 g6
     cases r0
     refine aEB rfl rfl rfl a9 (fun _ ⟨_,c9⟩=>cH (t:=0) sc_4 c9 q9 rfl rfl) (cS rfl (fun _ _=>dH (v:=zB j8) a9 rfl rfl) (lV rfl ?_));obtain ⟨d6,r1,hm⟩:=aB hm
     refine bJ (vs:=[zB j8]) call138 rfl (aHA r1 c9) ?_
     rintro _ x0 ⟨rfl,j9⟩
     refine aM (aF ⟨⟨_,j9⟩,?_⟩)
     refine lV rfl (cQ (Kt:=K) (xs:=([b1,d6]:List Int)) (cs:=[i64 b1,i64 d6]) (vs:=[(0,i64 b1),(1,i64 d6)]) gD aGc rfl rfl j9 rfl (by kernel_rfl) rfl rfl rfl ⟨rfl,rfl,trivial⟩ (fun k0 r2 (k1:aD G g5 (aH 2 K k0 2 ([b1,d6]:List Int)::aH 2 K a3 a5 c3::aH 66 K u x (aQ b a)::rows [2] b a::aH 66 K z V (aQ d c)::rows [2] d c::box y 27 o::L) r2)=>(aM (aF ⟨⟨_,k1⟩,?_⟩))))
     refine cS rfl (fun _ _=>jY (v:=zS k0 ([b1,d6]:List Int).length 2) rfl) (tS ?_)
     have x1:=j6 _ _ k1
     exact aI
    ·refine aAD rfl rfl rfl (aDX a9) (aAD rfl rfl rfl (aDX a9) (aAD rfl rfl rfl (aDX a9) (aAD rfl rfl rfl (aDX a9) (cS rfl (fun _ _=>dR (v:=zB false) a9 rfl rfl) (lV rfl ?_)))));obtain ⟨d7,r3,hm⟩:=aB hm
     refine bJ (vs:=[zB false]) call138 rfl (aHA r3 c9) ?_
     rintro _ x2 ⟨rfl,k2⟩
     refine aM (aF ⟨⟨_,k2⟩,?_⟩)
     refine lV rfl (cQ (Kt:=K) (xs:=([b1,d7]:List Int)) (cs:=[i64 b1,i64 d7]) (vs:=[(0,i64 b1),(1,i64 d7)]) gD aGc rfl rfl k2 rfl (by kernel_rfl) rfl rfl rfl ⟨rfl,rfl,trivial⟩ (fun k3 r4 (k4:aD G g5 (aH 2 K k3 2 ([b1,d7]:List Int)::aH 2 K a3 a5 c3::aH 66 K u x (aQ b a)::rows [2] b a::aH 66 K z V (aQ d c)::rows [2] d c::box y 27 o::L) r4)=>(aM (aF ⟨⟨_,k4⟩,?_⟩))))
     refine cS rfl (fun _ _=>jY (v:=zS k3 ([b1,d7]:List Int).length 2) rfl) (tS ?_)
     have x3:=j6 _ _ k4
     exact aI
   have x4:=aD.nil (α:=Int) d1 2 K
   obtain ⟨x5,r5,ho⟩:=aB hm
   refine aY [1,2,3,8,9,10,11,22,23,24,30,31] r5 (fun b2 d8 f w=>∃ b9 c0,f 12=zS b9 b2.length c0/\f 32=i64 d8/\aD G Z (aH 2 K b9 c0 b2::aH 66 K u x (aQ b a)::rows [2] b a::aH 66 K z V (aQ d c)::rows [2] d c::aH 4 K q r m::box y 27 o::L) w) aI ?_
   ·rintro b2 d8 k5 f x6 hm hr ⟨b9,c0,k6,g7,g8⟩
    unfold fB at hm
    refine bL (aK (tK g7 rfl) (bA (bM ?_)))
    rcases aG hm with ⟨g9,hm⟩|⟨g9,hm⟩
    ·refine bX g9 rfl (eJ (aF (bM (aJ [1,2,3,8,9,10,11,22,23,24,30,31,32] (fun f w=>∃ f0 f1 f2,jL d8 f0=some k5/\f 12=zS f1 f0.length f2/\aD G Z (aH 2 K f1 f2 f0::aH 66 K u x (aQ b a)::rows [2] b a::aH 66 K z V (aQ d c)::rows [2] d c::aH 4 K q r m::box y 27 o::L) w) ?_ ?_))))
     ·rintro f x7 ⟨f0,f1,f2,hm,r6,r7⟩
      unfold jL at hm
      exact aF (cG (aK (tJ g7 rfl) (aR (v:=i64 (wr (d8+1))) (bA ⟨_,(zI hm).symm,aU,f1,f2,r6,rfl,r7⟩))))
     refine bL ?_;obtain ⟨k,k7,hm⟩:=aB hm
     refine aK (aId lH rfl (h6.mono a0) rfl rfl g7 k7) ?_;obtain ⟨x8,r8,r9⟩:=aT.el (sz:=3) rfl h6 k7
     cases r9
     refine aK (jR (t:=0) (vs:=[i64 k.F,i64 k.B,i64 k.To]) ag_61 g8 (r8.mono a0) rfl rfl rfl) (gQ (vs:=[i64 0,i64 0,i64 0]) zeroValue61 g8 rfl (fun h0 x9 s0=>(nV (i:=0) (ns:=[i64 k.F,i64 k.B,i64 k.To]) (us:=[i64 k.F,i64 k.B,i64 k.To]) sizeOf61 s0 rfl rfl rfl rfl rfl (oR rfl) rfl rfl (fun s1 (s2:aD G Z (box h0 61 [i64 k.F,i64 k.B,i64 k.To]::aH 2 K b9 c0 b2::aH 66 K u x (aQ b a)::rows [2] b a::aH 66 K z V (aQ d c)::rows [2] d c::aH 4 K q r m::box y 27 o::L) s1)=>(bA (bM (bG [1,2,3,8,9,10,11,12,14,22,23,24,30,31,32] (fun f w=>∃ h1,fA t p b2 d8 k h1=some k5/\f 57=zB h1/\aD G Z (box h0 61 [i64 k.F,i64 k.B,i64 k.To]::aH 2 K b9 c0 b2::aH 66 K u x (aQ b a)::rows [2] b a::aH 66 K z V (aQ d c)::rows [2] d c::aH 4 K q r m::box y 27 o::L) w) ?_ ?_)))))))
     ·rintro f y0 ⟨h1,hm,s3,s4⟩
      unfold fA at hm
      refine aF ?_
      rcases aG hm with ⟨k8,hm⟩|⟨k8,hm⟩
      ·refine bX k8 s3 ?_;obtain ⟨y1,f3,k9,s5,y2⟩:=aD.lendBp s4 .head
       obtain ⟨h2,d0,s6,l0,s7⟩:=aD.lendBp s5 zt6
       refine aGu (C:=fun w'=>∃ L',aD G h2 L' w') [(0,0),(1,0),(2,0),(3,0),(4,0),(5,0),(6,0),(7,0),(8,0),(9,0),(10,0),(11,0),(12,1),(13,1),(14,0)] Tryz_mixed (by kernel_rfl) (fun _ hg=>⟨_,aD.mono l0 hg⟩) (fun y3 s8=>?_)
       have b4:=aD.mono l0 s8
       refine cS rfl (fun _ _=>bW k6) (cS rfl (fun _ _=>jG (t':=1) aJh rfl rfl) (cS rfl (fun _ ⟨_,b4⟩=>cH (t:=1) jE b4 (k9.mono d0) rfl rfl) (cS rfl (fun _ _=>jG (t':=0) aHp rfl rfl) (cS rfl (fun _ ⟨_,b4⟩=>cH (t:=0) jE b4 s6 rfl rfl) (cS rfl (fun _ _=>R_mul rfl rfl) (cS rfl (fun _ _=>bW (v:=zS a7 p.length c8) rfl) (cS rfl (fun _ _=>jG (t':=2) aKU rfl rfl) (cS rfl (fun _ ⟨_,b4⟩=>cH (t:=2) jE b4 (k9.mono d0) rfl rfl) ?_))))))))
       obtain ⟨f4,l1,hm⟩:=aB hm
       refine cS rfl (fun _ _=>aId gD rfl (h9.mono (zL (zL a0 f3) d0)) rfl rfl rfl l1) ?_;obtain ⟨y4,s9,t0⟩:=aT.el (sz:=1) rfl h9 l1
       cases t0
       refine cS rfl (fun _ ⟨_,b4⟩=>cH (t:=0) jE b4 (s9.mono (zL (zL a0 f3) d0)) rfl rfl) (cS rfl (fun _ _=>tJ rfl rfl) (lV rfl (cQ (Kt:=K) (xs:=([wr ((wr (k.B * t.N))+f4)]:List Int)) (cs:=[i64 (wr ((wr (k.B * t.N))+f4))]) (vs:=[(0,i64 (wr ((wr (k.B * t.N))+f4)))]) gD aGc rfl rfl b4 rfl (by kernel_rfl) rfl rfl rfl ⟨rfl,trivial⟩ ?_)))
       intro t1 t2 (l2:aD G h2 (aH 2 K t1 1 ([wr ((wr (k.B * t.N))+f4)]:List Int)::aH 2 K b9 c0 b2::aH 66 K u x (aQ b a)::rows [2] b a::aH 66 K z V (aQ d c)::rows [2] d c::aH 4 K q r m::L) t2)
       refine aM (aF ⟨⟨_,l2⟩,?_⟩)
       refine lV rfl ?_;obtain ⟨l3,t3,hm⟩:=aB hm
       refine aAk (i:=0) gD underlying66 aGc rfl rfl l2 rfl (zL (zL a0 f3) d0) (zL (zL a0 f3) d0) t3 rfl rfl rfl rfl (fun _ h=>h) (fun l4 l5 t4 (l6:aD G h2 (aH 2 K l4 l5 l3::aH 66 K u x (aQ b a)::rows [2] b a::aH 66 K z V (aQ d c)::rows [2] d c::aH 4 K q r m::L) t4)=>(aM (aF ⟨⟨_,l6⟩,?_⟩)))
       refine cS rfl (fun _ _=>jY (v:=zS l4 l3.length l5) rfl) (tS ?_)
       have y5:=s7 _ _ l6
       exact aI
      ·exact aI
     obtain ⟨t5,f5,y6,t6,e,h4⟩:=aD.lendD' (i:=4) s2 d9 rfl rfl
     refine aEs (C:=fun w'=>aD G t5 (box h0 61 [i64 k.F,i64 k.B,i64 k.To]::aH 2 K b9 c0 b2::aH 66 K u x (aQ b a)::rows [2] b a::aH 4 K q r m::box y 27 o::L) w') Tryz_mixed (by kernel_rfl) (aD.mono e (fN.drew _)) (gE (fun _ e=>bW (v:=zS g0 f9.length g1) rfl) (gE (fun _ e=>jG (t':=0) aKT rfl rfl) (gE (fun _ e=>aKH jE e (i:=0) rfl rfl rfl) ?_)));obtain ⟨l7,t7,hm⟩:=aB hm
     refine aMW (vs:=[zS g0 f9.length g1,i64 k.F]) (v:=zB l7) call137 rfl (fun _ e=>(nR t7 e (aKh (t6 _ _ _ g2 (aKM d3))))) (gE (fun _ e=>bW (v:=zB l7) rfl) ?_)
     rcases aG hm with ⟨a2,hm⟩|⟨a2,hm⟩
     ·refine aBt (g:=40) rfl rfl a2 (gE (fun _ e=>jG (t':=1) aJh rfl rfl) (aBt (g:=40) rfl rfl a2 (gE (fun _ e=>aKH jE e (i:=0) rfl rfl rfl) (aBt (g:=40) rfl rfl a2 (gE (fun _ e=>aHI rfl rfl) (aBt (g:=40) rfl rfl a2 (gE (fun _ e=>bW (v:=zB (k.B != 0)) rfl) ?_)))))))
      rcases aG hm with ⟨l,hm⟩|⟨l,hm⟩
      ·refine vO (g:=44) rfl rfl (aEA l) (vO (g:=44) rfl rfl (aEA l) (vO (g:=44) rfl rfl (aEA l) (vO (g:=44) rfl rfl (aEA l) (vO (g:=44) rfl rfl (aEA l) (vO (g:=44) rfl rfl (aEA l) (vO (g:=44) rfl rfl (aEA l) (vO (g:=44) rfl rfl (aEA l) (vO (g:=44) rfl rfl (aEA l) (vO (g:=44) rfl rfl (aEA l) (vO (g:=44) rfl rfl (aEA l) (aBt (g:=40) rfl rfl a2 (gE (fun _ e=>dH (v:=zB true) l rfl rfl) (gE (fun _ e=>dH (v:=zB true) a2 rfl rfl) (yP (fun y7 t8=>?_)))))))))))))))
       have y8:=h4 _ _ t8
       exact aI
      ·refine aBt (g:=44) rfl rfl (yQ l) (gE (fun _ e=>bW (v:=zS a7 p.length c8) rfl) (aBt (g:=44) rfl rfl (yQ l) (gE (fun _ e=>jG (t':=0) aKT rfl rfl) (aBt (g:=44) rfl rfl (yQ l) (gE (fun _ e=>aKH jE e (i:=0) rfl rfl rfl) (aBt (g:=44) rfl rfl (yQ l) ?_))))));obtain ⟨h5,l8,hm⟩:=aB hm
       refine gE (fun _ e=>aId gD rfl (h9.mono (zL a0 f5)) rfl rfl rfl l8) ?_;obtain ⟨y9,t9,u0⟩:=aT.el (sz:=1) rfl h9 l8
       cases u0
       refine aBt (g:=44) rfl rfl (yQ l) (gE (fun _ e=>cH (t:=0) jE e (t9.mono (zL a0 f5)) rfl rfl) (aBt (g:=44) rfl rfl (yQ l) (gE (fun _ e=>bW (v:=zS a7 p.length c8) rfl) (aBt (g:=44) rfl rfl (yQ l) (gE (fun _ e=>jG (t':=2) aKU rfl rfl) (aBt (g:=44) rfl rfl (yQ l) (gE (fun _ e=>aKH jE e (i:=0) rfl rfl rfl) (aBt (g:=44) rfl rfl (yQ l) ?_))))))));obtain ⟨h7,l9,hm⟩:=aB hm
       refine gE (fun _ e=>aId gD rfl (h9.mono (zL a0 f5)) rfl rfl rfl l9) ?_;obtain ⟨z0,u1,u2⟩:=aT.el (sz:=1) rfl h9 l9
       cases u2
       refine aBt (g:=44) rfl rfl (yQ l) (gE (fun _ e=>cH (t:=0) jE e (u1.mono (zL a0 f5)) rfl rfl) (aBt (g:=44) rfl rfl (yQ l) (gE (fun _ e=>aHI rfl rfl) (aBt (g:=40) rfl rfl a2 (gE (fun _ e=>dR (v:=zB (h5 != h7)) l rfl rfl) (gE (fun _ e=>dH (v:=zB (h5 != h7)) a2 rfl rfl) (yP (fun z1 u3=>?_))))))))
       have u4:=h4 _ _ u3
       exact aF ⟨aU,h5 != h7,hm,rfl,(aD.arr 6 [2,3,4,5,0,1] u4 rfl)⟩
     ·refine vO (g:=40) rfl rfl (aDX a2) (vO (g:=40) rfl rfl (aDX a2) (vO (g:=40) rfl rfl (aDX a2) (vO (g:=40) rfl rfl (aDX a2) (qO (g:=44) rfl rfl (qO (g:=44) rfl rfl (qO (g:=44) rfl rfl (qO (g:=44) rfl rfl (qO (g:=44) rfl rfl (qO (g:=44) rfl rfl (qO (g:=44) rfl rfl (qO (g:=44) rfl rfl (qO (g:=44) rfl rfl (qO (g:=44) rfl rfl (qO (g:=44) rfl rfl (vO (g:=40) rfl rfl (aDX a2) (gE (fun _ e=>dR (v:=zB false) a2 rfl rfl) (yP (fun z2 u5=>?_))))))))))))))))))
      have u6:=h4 _ _ u5
      exact aF ⟨aU,false,hm,rfl,(aD.arr 6 [2,3,4,5,0,1] u6 rfl)⟩
    ·refine cD g9 rfl (aEz (oP (oP ?_)))
     have u7:=hr _ (zI hm).symm
     subst u7
     have hm:(jK p c6 m a b0 b2)=some e3:=ho
     clear hr ho
     exact yW (aF ⟨aU,b2,b9,c0,hm,k6,g8⟩)
  ·refine cD f8 rfl (aEz (oP (oP ?_)))
   have u8:=hr _ (zI hm).symm
   subst u8
   have hm:(jJ a)=some R:=ho
   clear hr ho
   exact yW (aF ⟨aU,a,u,x,b,hm,i9,f7,(aD.arr 6 [0,1] d1 rfl)⟩)
theorem aBm {p:(List Int)} {a:aO} {b:Nat} {c:Bool} {d:Nat} {R:(List Int)} (hm:uG p a c=some R) (h:aD G K (L) w) (i:aT K a1 c2 p) (j:cK K a4 b (zC a a7 c8 a10 c11)) (k:aT K a7 c8 a.L) (l:aT K a10 c11 a.E) (m:cK K a13 d [zB c]):
  Calls prog 93 ([zS a1 p.length c2,cU a4 b,cU a13 d]:List Value).toArray w (dO fun v w'=>∃ e g,v=zS e R.length g/\aD G K (aH 2 K e g R::L) w'):=by
 exact aI
end Gv
