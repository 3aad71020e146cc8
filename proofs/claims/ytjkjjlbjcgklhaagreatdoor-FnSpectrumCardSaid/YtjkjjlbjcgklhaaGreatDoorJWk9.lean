/- Walks, printed by program. -/
import Derived.Test.YtjkjjlbjcgklhaaGreatDoorJWk7
set_option linter.all false
namespace Gv
open Go.Value renaming slice→zS,bool→zB,pointer→zP,agg→zA,tuple→zT,map→zM
open Option.some renaming inj→zI
open Gv.Hp renaming le_trans→zL,le_refl→zR
open Go Go.Proofs Go.Proofs.Tryz
set_option maxRecDepth 20000
set_option maxHeartbeats 40000000
variable {G:Env} {K Kf:Hp} {L:List iD} {w:World} {a1 a4 a7 a10 a13 a2 a5 a6 a9 a11 a14 a17 a20:Option Addr} {c5 c8 c2 c11 b1 c3 c6 b4 b5 c7 c10 c18 c21:Nat}
theorem aGU {n:Int} {g:aO} {q:Nat} {a2:Bool} {r:Nat} {R:(List (List Int))} (hm:aFN n g a2=some R) (hs:aD G K (L) w) (h3:cK K a1 q (zC g a4 c5 a7 c8)) (h6:aT K a4 c5 g.L) (h9:aT K a7 c8 g.E) (b8:cK K a10 r [zB a2]):
  Calls prog 48 ([i64 n,Value.func (.func 93) #[] #[cU a1 q,cU a10 r]]:List Value).toArray w (dO fun v w'=>∃ a3 a5 Z,v=zS a3 R.length a5/\List.length Z=List.length R/\aD G K (aH 66 K a3 a5 (aQ Z R)::rows [2] Z R::L) w'):=by
 refine cA func48 ?_;unfold aFN at hm
 refine aC ?_;obtain ⟨o,b9,hm⟩:=aB hm
 refine bP call88 (aGl b9 hs) ?_
 rintro _ c0 ⟨h,j,rfl,c1⟩
 have c2:aD G K (rows [2] ([(h,j)]:List (Dp.Hd (List Int))) [o]::L) c0:=aD.rowsOne c1
 refine cQ (Kt:=K) (xs:=aQ ([(h,j)]:List (Dp.Hd (List Int))) ([o]:List (List Int))) (cs:=[zS h o.length j]) (vs:=[(0,zS h o.length j)]) jB vX rfl rfl c2 rfl (by kernel_rfl) rfl rfl rfl ⟨rfl,trivial⟩ ?_
 intro a6 c3 (c4:aD G K (aH 66 K a6 1 (aQ ([(h,j)]:List (Dp.Hd (List Int))) ([o]:List (List Int)))::rows [2] ([(h,j)]:List (Dp.Hd (List Int))) ([o]:List (List Int))::L) c3)
 refine aC ?_;refine bT ?_
 obtain ⟨f6,c6,ho⟩:=aB hm
 refine eM [1] c6 (fun b f w=>∃ k l a,f 5=zS k b.length l/\List.length a=List.length b/\aD G K (aH 66 K k l (aQ a b)::rows [2] a b::L) w) ?_ ?_
 ·exact ⟨a6,1,([(h,j)]:List (Dp.Hd (List Int))),rfl,rfl,c4⟩
 ·rintro b f7 f f8 hm hr ⟨k,l,a,f9,e,a0⟩
  unfold aBY at hm
  refine bT (aC ?_);obtain ⟨u,p,hm⟩:=aB hm
  obtain ⟨⟨x,y⟩,z⟩:=aHn e p
  have c7:=bY a0 (i:=0) rfl (jZ e p z)
  refine aK (cR jB rfl c7 rfl rfl rfl p) (aK (vV (t:=0) aHK a0 (i:=0) rfl (jZ e p z) rfl rfl rfl) (aV (v:=zS x u.length y) (bA (bL (aR (v:=Value.func (.func 93) #[] #[cU a1 q,cU a10 r]) (aR (v:=zS x u.length y) ?_))))));obtain ⟨g0,V,g1,c9,d0,d1⟩:=aD.lendD' (i:=0) a0 e rfl rfl
  obtain ⟨m,d2,hm⟩:=aB hm
  refine gR (vs:=[zS x u.length y]) (caps:=[cU a1 q,cU a10 r]) (us:=[zS x u.length y,cU a1 q,cU a10 r]) rfl call93 rfl rfl (aBm d2 d0 (aKh (c9 _ _ _ z (aKM p))) (h3.mono V) (h6.mono V) (h9.mono V) (b8.mono V)) ?_
  rintro _ g2 ⟨c,d,rfl,d3⟩
  have d4:=d1 _ _ d3
  refine aC ?_;obtain ⟨g3,d5,g4,d6,d7,d8⟩:=aD.lendD' (i:=0) d4 e rfl rfl
  obtain ⟨g5,d9,e0,e1,e2⟩:=aD.lendSp d7 d5 .head
  obtain ⟨g6,e3,hm⟩:=aB hm
  refine bP call89 (jX e3 e1 ((aKh (d6 _ _ _ z (aKM p))).mono d9) e0) ?_
  rintro _ a8 ⟨rfl,e4⟩
  have e5:=e2 _ _ e4
  have a9:=d8 _ _ e5
  refine aC ?_
  rcases aG hm with ⟨e6,hm⟩|⟨e6,hm⟩
  ·refine aC ?_;refine kQ (bO (gF (bO ?_)))
   have e7:=hr _ (zI hm).symm
   subst e7
   have hm:(some b)=some R:=ho
   clear hr ho
   obtain rfl:=zI hm
   exact gF (oQ results48 rfl ⟨k,l,a,rfl,e,(aD.arr 3 [0,1] a9 rfl)⟩)
  ·refine aC ?_
   have e9:aD G K (aH 2 K c d m::aH 66 K k l (aQ a b)::rows [2] a b::L) a8:=(aD.arr 3 [2,0,1] a9 rfl)
   have f0:aD G K (rows [2] ([(c,d)]:List (Dp.Hd (List Int))) [m]::aH 66 K k l (aQ a b)::rows [2] a b::L) a8:=aD.rowsOne e9
   refine cQ (Kt:=K) (xs:=aQ ([(c,d)]:List (Dp.Hd (List Int))) ([m]:List (List Int))) (cs:=[zS c m.length d]) (vs:=[(0,zS c m.length d)]) jB vX rfl rfl f0 rfl (by kernel_rfl) rfl rfl rfl ⟨rfl,trivial⟩ ?_
   intro f1 f2 (f3:aD G K (aH 66 K f1 1 (aQ ([(c,d)]:List (Dp.Hd (List Int))) ([m]:List (List Int)))::rows [2] ([(c,d)]:List (Dp.Hd (List Int))) ([m]:List (List Int))::aH 66 K k l (aQ a b)::rows [2] a b::L) f2)
   obtain ⟨b0,b1,hm⟩:=aB hm
   refine aKP (i:=0) (tys:=[2]) (hds:=a) (hds2:=([(c,d)]:List (Dp.Hd (List Int)))) jB underlying43 vX rfl rfl f3 e rfl rfl rfl b1 rfl rfl rfl rfl ?_
   intro b2 b3 f4 (f5:aD G K (aH 66 K b2 b3 (aQ (a++([(c,d)]:List (Dp.Hd (List Int)))) b0)::rows [2] (a++([(c,d)]:List (Dp.Hd (List Int)))) b0::L) f4)
   refine aC ?_;exact ⟨_,(zI hm).symm,aU,b2,b3,(a++([(c,d)]:List (Dp.Hd (List Int)))),rfl,(aJf e rfl b1),f5⟩
theorem aIP {t:aO} {a:Bool} {R:(List Int)} (hm:qL t a=some R) (hs:aD G K (L) w) (l:aT K a1 c2 t.L) (m:aT K a4 c5 t.E):
  Calls prog 51 ([zA (zCa t a1 c2 a4 c5),zB a]:List Value).toArray w (dO fun v w'=>∃ b d e,v=zS d R.length e/\Hp.le K b/\aT b d e R/\aD G b (L) w'):=by
 refine cA func51 ?_;unfold qL at hm
 refine aC ?_;refine kN fun g w8 a7=>?_
 refine kN fun h a8 n=>?_
 iterate 7 refine eU ?_
 refine aK (kU (vs:=[zP (some ⟨g,0,none⟩),zP (some ⟨h,0,none⟩)]) rfl) ?_;obtain ⟨a9,j,o,p,q⟩:=aD.lendBp n zt1
 obtain ⟨b0,c,r,u,x⟩:=aD.lendBp p .head
 obtain ⟨b1,y,hm⟩:=aB hm
 refine bP call48 (aGU y u (o.mono c) (l.mono (zL j c)) (m.mono (zL j c)) r) ?_
 rintro _ z ⟨b2,b3,b4,rfl,V,Z⟩
 have a0:=x _ _ Z
 have a2:=q _ _ a0
 obtain ⟨a3,b5,b6,_,k,_⟩:=aD.lendD' (i:=2) a2 V rfl rfl
 replace k:aD G a3 (box g 27 (zC t a1 c2 a4 c5)::box h 4 [zB a]::L) z:=k
 exact aI
theorem aBn {a:Bool} {R:Unit} (hm:aAL a=some R) (c:aD G K (L) w):
  Calls prog 23 ([zB a]:List Value).toArray w (dO fun v w'=>∃ b,v=Value.func (.func 50) #[] #[zP (some ⟨b,0,none⟩)]/\aD G K (box b 4 [zB a]::L) w'):=by
 exact aI
theorem xE {t:aO} {p:Bool} {b:Nat} {R:(List Int)} (hm:vR t p=some R) (e:aD G K (L) w) (g:aT K a1 c2 t.L) (h:aT K a4 c5 t.E) (i:cK K a7 b [zB p]):
  Calls prog 50 ([zA (zCa t a1 c2 a4 c5),cU a7 b]:List Value).toArray w (dO fun v w'=>∃ a c d,v=zS c R.length d/\Hp.le K a/\aT a c d R/\aD G a (L) w'):=by
 exact aI
theorem aNO {a b:aO} {m:Bool} {d:Nat} {R:(List Int)} (hm:aJn a b m=some R) (hs:aD G K (L) w) (V:aT K a1 c2 a.L) (Z:aT K a4 c5 a.E) (h9:aT K a7 c8 b.L) (a2:aT K a10 c11 b.E) (a3:cK K a13 d [zB m]):
  Calls prog 45 ([zA (zCa a a1 c2 a4 c5),zA (zCa b a7 c8 a10 c11),Value.func (.func 50) #[] #[cU a13 d]]:List Value).toArray w (dO fun v w'=>∃ e n o,v=zS n R.length o/\Hp.le K e/\aT e n o R/\aD G e (L) w'):=by
 let p:=(zC b a7 c8 a10 c11)
 let q:=(zC a a1 c2 a4 c5)
 refine cA func45 ?_;unfold aJn at hm
 refine aC ?_;refine kN fun r c1 c3=>?_
 refine kN fun u c4 a5=>?_;refine aC ?_
 obtain ⟨c,a6,hm⟩:=aB hm
 refine bP call85 (aEo a6 a5 V Z h9 a2) ?_
 rintro _ x ⟨y,z,g,h,rfl,a8⟩
 obtain ⟨a9,i,b0,j⟩:=aD.giveSp a8 (zR _) .head
 replace j:aD G a9 (aH 61 K g h c.E::box u 27 p::box r 27 q::L) x:=j
 obtain ⟨b1,k,b2,l⟩:=aD.giveSp j i .head
 replace l:aD G b1 (box u 27 p::box r 27 q::L) x:=l
 obtain ⟨c6,b3,hm⟩:=aB hm
 refine gR (vs:=[zA (zCa c y z g h)]) (caps:=[cU a13 d]) (us:=[zA (zCa c y z g h),cU a13 d]) rfl call50 rfl rfl (xE (t:=⟨c.N,c.I,c.L,c.E⟩) b3 l (b0.mono k) b2 (a3.mono (zL i k))) ?_
 rintro _ c7 ⟨b4,b5,b6,rfl,b7,b8,c9⟩
 refine aC ?_;obtain rfl:=zI hm
 exact aLM results45 ⟨b4,b5,b6,rfl,(zL (zL i k) b7),b8,oK⟩
theorem aFn {a b:aO} {d:Bool} {e:Nat} {R:(Bool × Int)} (hm:aCZ a b d=some R) (z:aD G K (L) w) (V:G.lo=0) (Z:aT K a1 c2 a.L) (h6:aT K a4 c5 a.E) (h9:aT K a7 c8 b.L) (a3:aT K a10 c11 b.E) (a5:cK K a13 e [zB d]):
  Calls prog 20 ([zA (zCa a a1 c2 a4 c5),zA (zCa b a7 c8 a10 c11),Value.func (.func 50) #[] #[cU a13 e]]:List Value).toArray w (dO fun v w'=>v=zT #[zB R.1,i64 R.2]/\aD G K (L) w'):=by
 let g:=(zC b a7 c8 a10 c11)
 let h:=(zC a a1 c2 a4 c5)
 refine cA func20 ?_;unfold aCZ at hm
 refine aC ?_;refine kN fun k a6 a8=>?_
 refine kN fun p a9 b0=>?_
 iterate 6 refine eU ?_
 refine bG [2,3,4] (fun f w=>∃ i,tA a b d i=some R/\f 15=zB i/\aD G K (box p 27 g::box k 27 h::L) w) ?_ ?_
 ·rintro f l ⟨i,hm,b1,q⟩
  unfold tA at hm
  refine aC ?_
  rcases aG hm with ⟨r,hm⟩|⟨r,hm⟩
  ·exact aI
  ·refine aC ?_;obtain ⟨u,b2,m,j,_⟩:=aD.lendBp q .head
   replace j:aD G u (box k 27 h::L) l:=j
   obtain ⟨x,n,y,o,_⟩:=aD.lendBp j .head
   replace o:aD G x (L) l:=o
   refine aBr [(0,0),(1,0),(2,0),(3,0),(4,0),(5,1),(6,1),(7,0),(8,0)] fun b3 c=>?_;refine aC ?_
   exact cS rfl (fun _ ⟨_,c⟩=>jR (t:=0) (vs:=g) fF c (m.mono n) (kA rfl) rfl rfl) (cS rfl (fun _ ⟨_,c⟩=>jR (t:=0) (vs:=h) fF c y (kA rfl) rfl rfl) (cS rfl (fun _ ⟨_,c⟩=>jR (t:=0) (vs:=g) fF c (m.mono n) (kA rfl) rfl rfl) (cS rfl (fun _ _=>bW (v:=Value.func (.func 50) #[] #[cU a13 e]) rfl) (lV rfl aI))))
 exact aI
theorem yU {a b:aO} {g:Bool} {R:(Bool × Int)} (hm:nJ a b g=some R) (z:aD G K (L) w) (j:G.lo=0) (k:aT K a1 c2 a.L) (l:aT K a4 c5 a.E) (m:aT K a7 c8 b.L) (n:aT K a10 c11 b.E):
  Calls prog 8 ([zA (zCa a a1 c2 a4 c5),zA (zCa b a7 c8 a10 c11),zB g]:List Value).toArray w (dO fun v w'=>v=zT #[zB R.1,i64 R.2]/\aD G K (L) w'):=by
 refine cA func8 ?_;unfold nJ at hm
 refine aC ?_;refine kN fun V Z a0=>?_
 refine kN fun a2 a3 o=>?_;refine aC ?_
 obtain ⟨a5,d,p,q,a6⟩:=aD.lendBp o .head
 obtain ⟨a8,c,a9,b0,b1⟩:=aD.lendBp q .head
 refine aBr [(0,0),(1,0),(2,0),(3,1),(4,1),(5,0),(6,0),(7,0),(8,0)] fun b2 h=>?_;refine aC ?_
 refine cS rfl (fun _ ⟨_,h⟩=>jR (t:=0) (vs:=(zC b a7 c8 a10 c11)) fF h (p.mono c) rfl rfl rfl) (cS rfl (fun _ _=>bW (v:=zB g) rfl) (lV rfl ?_));obtain ⟨b3,r,hm⟩:=aB hm
 refine bP call23 (aBn r h) ?_
 rintro _ b4 ⟨b5,rfl,i⟩
 refine aM (aF ⟨⟨_,i⟩,?_⟩)
 refine lV rfl ?_;obtain ⟨b6,e,u,x,b7⟩:=aD.lendBp i .head
 obtain ⟨b8,y,hm⟩:=aB hm
 exact bP call20 (aFn y x j (k.mono (zL (zL d c) e)) (l.mono (zL (zL d c) e)) (m.mono (zL (zL d c) e)) (n.mono (zL (zL d c) e)) u) aI
theorem aDT {arcs:(List nX)} {R:(List aL)} (hm:aFa arcs=some R) (j:aD G K (L) w) (m:aT K a1 c2 arcs):
  Calls prog 141 ([zS a1 arcs.length c2]:List Value).toArray w (dO fun v w'=>∃ b c,v=zS b R.length c/\aD G K (aH 9 K b c R::L) w'):=by
 refine cA func141 ?_;unfold aFa at hm
 refine aC ?_;refine aJ [] (fun f w=>∃ a d e,aJT a=some R/\f 3=zS d a.length e/\aD G K (aH 9 K d e a::L) w) aI ?_
 have n:=aD.nil (α:=aL) j 9 K
 obtain ⟨o,k,ho⟩:=aB hm
 exact aY [6,7] k (fun g l f w=>∃ h i,f 3=zS h g.length i/\f 8=i64 l/\aD G K (aH 9 K h i g::L) w) aI aI
theorem yM {a:(List Int)} {R:aL} (hm:rC a=some R) (b:aD G K (L) w) (c:G.lo=0) (d:aT K a1 c2 a):
  Calls prog 97 ([zS a1 a.length c2]:List Value).toArray w (dO fun v w'=>v=str R/\aD G K (L) w'):=by
 exact aI
theorem gW {d:(List (List Int))} {g:(List (aL × Int))} {b:Nat} {a:(List nX)} {c:(List Int)} {R:(Int × (List (List Int)) × (List (aL × Int)))} (hm:eE d g a c=some R) (hs:aD G K (aH 66 Kf a2 c3 d::iR b g::aH 139 K a5 c6 a::box b1 167 [zS a2 d.length c3,zM (some b),zS a5 a.length c6,Value.func (.func 97) #[] #[]]::L) w) (hG:G.lo=0) (a3:Hp.le Kf K) (m:aT Kf a7 c8 c):
  Calls prog 139 ([zP (some ⟨b1,0,none⟩),zS a7 c.length c8]:List Value).toArray w (dO fun v w'=>∃ n o,v=i64 R.1/\aD G K (aH 66 Kf n o R.2.1::iR b R.2.2::aH 139 K a5 c6 a::box b1 167 [zS n R.2.1.length o,zM (some b),zS a5 a.length c6,Value.func (.func 97) #[] #[]]::L) w'):=by
 let j:=[zS a2 d.length c3,zM (some b),zS a5 a.length c6,Value.func (.func 97) #[] #[]]
 refine cA func139 ?_;unfold eE at hm
 refine aC ?_;obtain ⟨p,a4,hm⟩:=aB hm
 refine gR (vs:=[zS a7 c.length c8]) (caps:=[]) (us:=[zS a7 c.length c8]) rfl call97 rfl rfl (yM a4 hs hG (m.mono a3)) ?_
 rintro _ b8 ⟨rfl,q⟩
 refine aC ?_;refine aK (R_look (kv:=g) (k:=p) (z:=(0:Int)) runUnderlying165 ko_9 zeroValue2 q (i:=1) rfl rfl rfl) ?_
 iterate 7 refine eU ?_
 refine rD [] (fun f w=>∃ r l t u x,mO r l t=some R/\f 6=i64 r/\aD G K (aH 66 Kf u x l::iR b t::aH 139 K a5 c6 a::box b1 167 [zS u l.length x,zM (some b),zS a5 a.length c6,Value.func (.func 97) #[] #[]]::L) w) aI (aC ?_)
 rcases aG hm with ⟨a6,hm⟩|⟨a6,hm⟩
 ·refine aC ?_;obtain ⟨e,a8,hm⟩:=aB hm
  refine aGx (i:=1) (k:=p) (v:=(d.length:Int)) runUnderlying165 ko_9 q rfl rfl rfl rfl a8 (fun a9 (b0:aD G K (aH 66 Kf a2 c3 d::iR b e::aH 139 K a5 c6 a::box b1 167 j::L) a9)=>(aC ?_));refine cQ (Kt:=Kf) (xs:=([c]:List (List Int))) (cs:=[zS a7 c.length c8]) (vs:=[(0,zS a7 c.length c8)]) jB vX rfl rfl b0 rfl (by kernel_rfl) rfl rfl rfl ⟨⟨a7,c8,rfl,m⟩,trivial⟩ (fun b2 b3 (b4:aD G K (aH 66 Kf b2 1 ([c]:List (List Int))::aH 66 Kf a2 c3 d::iR b e::aH 139 K a5 c6 a::box b1 167 j::L) b3)=>?_)
  obtain ⟨y,b5,hm⟩:=aB hm
  refine aEg (i:=0) Kf jB underlying43 vX rfl rfl b4 rfl (zR _) (zR _) b5 rfl rfl rfl rfl (fun _ _ _ h=>El.one h) (fun V Z b6 (b9:aD G K (aH 66 Kf V Z y::iR b e::aH 139 K a5 c6 a::box b1 167 j::L) b6)=>(aC ?_));refine kM fun c0 b7=>?_
  refine aC ?_;exact ⟨aU,(d.length:Int),y,e,V,Z,hm,rfl,b7⟩
 ·exact aI
theorem wC {a:aL} {d:(List Int)} {e:(List (List Int))} {q:(List (aL × Int))} {b:Nat} {g:(List nX)} {p:Int} {r:Nat} {R:((List (List Int)) × (List (aL × Int)) × (List nX))} (hm:lA a d e q g p=some R) (hs:aD G K (aH 66 Kf a6 c7 e::iR b q::aH 139 K a9 c10 g::box b5 167 [zS a6 e.length c7,zM (some b),zS a9 g.length c10,Value.func (.func 97) #[] #[]]::box b4 164 [zP (some ⟨b5,0,none⟩)]::L) w) (t:G.lo=0) (u:Hp.le Kf K) (x:aT Kf a1 c2 d) (c9:cK K a11 r [i64 p]):
  Calls prog 140 ([str a,zS a1 d.length c2,zP (some ⟨b4,0,none⟩),cU a11 r]:List Value).toArray w (dO fun v w'=>∃ y z V Z,v=zT #[]/\aD G K (aH 66 Kf y z R.1::iR b R.2.1::aH 139 K V Z R.2.2::box b5 167 [zS y R.1.length z,zM (some b),zS V R.2.2.length Z,Value.func (.func 97) #[] #[]]::box b4 164 [zP (some ⟨b5,0,none⟩)]::L) w'):=by
 refine cA func140 ?_;unfold lA at hm
 refine bG [] (fun f w=>∃ h a0 k a2 a3 a4 a5,pZ h a0 k=some R/\aD G K (aH 139 K a4 a5 k::aH 66 Kf a2 a3 h::iR b a0::box b5 167 [zS a2 h.length a3,zM (some b),zS a4 k.length a5,Value.func (.func 97) #[] #[]]::box b4 164 [zP (some ⟨b5,0,none⟩)]::L) w) aI ?_;obtain ⟨b7,a7,d0,b8,l⟩:=aD.lendBp hs zt4
 refine xM (C:=fun w'=>∃ L',aD G b7 L' w') [] Tryz_mixed (by kernel_rfl) (fun d1 b9=>?_)
 have m:=aD.mono b8 b9
 refine kP 0 ?_;refine kP 1 ?_
 refine kP 2 ?_;refine kP 3 ?_
 refine kP 5 ?_;refine kP 6 ?_
 refine kP 7 ?_;refine kP 8 ?_
 refine nM (i:=4) (j:=9) (by kernel_rfl) rfl rfl ?_ ?_
 ·iterate 1 refine eU ?_
  refine aM (aF ⟨fun _=>⟨_,m⟩,?_⟩)
  refine aS (i:=9) (by kernel_rfl) rfl ?_;obtain ⟨n,c0,hm⟩:=aB hm
  refine bP call139 (gW (Kf:=Kf) c0 m t (zL u a7) x) ?_
  rintro _ d2 ⟨d3,d4,rfl,a8⟩
  refine aM (aF ⟨fun _=>⟨_,a8⟩,?_⟩)
  refine gH (i:=10) rfl (by kernel_rfl) ⟨_,a8⟩ (fun _ _=>dI (vs:=[(0,i64 p),(1,str a),(2,i64 n.1)]) (cs:=[i64 p,str a,i64 n.1]) aQv rfl (by kernel_rfl)) (aS (i:=11) (by kernel_rfl) rfl (nE ([⟨p,a,n.1⟩]:List nX) fun d5 d6 c1=>?_));refine aM (aF ⟨fun _=>⟨_,c1⟩,?_⟩)
  refine aS (i:=12) (by kernel_rfl) rfl ?_;obtain ⟨d7,d8,hm⟩:=aB hm
  refine aGA fun d9 c45 e0 c3=>?_;refine aM (aF ⟨fun _=>⟨_,c3⟩,?_⟩)
  refine kP 13 ?_;refine kP 14 ?_
  refine aS (i:=15) (by kernel_rfl) rfl (kM fun e1 b0=>?_);refine aM (aF ⟨fun _=>⟨_,b0⟩,?_⟩)
  refine fG (by kernel_rfl) ?_
  have e2:=l _ _ b0
  exact aI
 ·obtain ⟨c,c4,hm⟩:=aB hm
  refine bP call139 (gW (Kf:=Kf) c4 m t (zL u a7) x) ?_
  rintro _ e3 ⟨e4,e5,rfl,o⟩
  refine aM (aF ⟨fun _=>⟨_,o⟩,?_⟩)
  refine gH (i:=10) rfl (by kernel_rfl) ⟨_,o⟩ (fun _ _=>dI (vs:=[(0,i64 p),(1,str a),(2,i64 c.1)]) (cs:=[i64 p,str a,i64 c.1]) aQv rfl (by kernel_rfl)) (nM (i:=4) (j:=11) (by kernel_rfl) rfl rfl ?_ ?_)
  ·iterate 1 refine eU ?_
   refine aM (aF ⟨fun _=>⟨_,o⟩,?_⟩)
   refine aS (i:=11) (by kernel_rfl) rfl (nE ([⟨p,a,c.1⟩]:List nX) fun e6 e7 c5=>?_);refine aM (aF ⟨fun _=>⟨_,c5⟩,?_⟩)
   refine aS (i:=12) (by kernel_rfl) rfl ?_;obtain ⟨e8,e9,hm⟩:=aB hm
   refine aGA fun f0 f1 f2 c6=>?_;refine aM (aF ⟨fun _=>⟨_,c6⟩,?_⟩)
   refine kP 13 ?_;refine kP 14 ?_
   refine aS (i:=15) (by kernel_rfl) rfl (kM fun f3 b1=>?_);refine aM (aF ⟨fun _=>⟨_,b1⟩,?_⟩)
   refine fG (by kernel_rfl) ?_
   have f4:=l _ _ b1
   exact aI
  ·refine nE ([⟨p,a,c.1⟩]:List nX) fun f5 f6 b2=>?_;refine aM (aF ⟨fun _=>⟨_,b2⟩,?_⟩)
   refine aS (i:=4) (by kernel_rfl) rfl ?_
   iterate 1 refine eU ?_
   refine aM (aF ⟨fun _=>⟨_,b2⟩,?_⟩)
   refine aS (i:=12) (by kernel_rfl) rfl ?_;obtain ⟨f7,f8,hm⟩:=aB hm
   refine aGA fun f9 g0 g1 c8=>?_;refine aM (aF ⟨fun _=>⟨_,c8⟩,?_⟩)
   refine kP 13 ?_;refine kP 14 ?_
   refine aS (i:=15) (by kernel_rfl) rfl (kM fun g2 b3=>?_);refine aM (aF ⟨fun _=>⟨_,b3⟩,?_⟩)
   refine fG (by kernel_rfl) ?_
   have g3:=l _ _ b3
   exact aI
theorem yN {s_:(List Int)} {n:(List (List Int))} {a3:(List (aL × Int))} {a:Nat} {o:(List nX)} {b6:Int} {r:Nat} {p:aO} {b7:Nat} {R:(Bool × (List (List Int)) × (List (aL × Int)) × (List nX))} (hm:nK s_ n a3 o b6 p=some R) (hs:aD G K (aH 66 Kf a6 c7 n::iR a a3::aH 139 K a9 c10 o::box b5 167 [zS a6 n.length c7,zM (some a),zS a9 o.length c10,Value.func (.func 97) #[] #[]]::box b4 164 [zP (some ⟨b5,0,none⟩)]::L) w) (hG:G.lo=0) (d9:Hp.le Kf K) (h3:aT K a1 c2 s_) (e1:cK K a11 r [i64 b6]) (f7:cK K a14 b7 (zC p a17 c18 a20 c21)) (a4:aT K a17 c18 p.L) (e2:aT K a20 c21 p.E):
  Calls prog 99 ([zS a1 s_.length c2,Value.func (.func 140) #[] #[zP (some ⟨b4,0,none⟩),cU a11 r],cU a14 b7]:List Value).toArray w (dO fun v w'=>∃ K' b8 b9 c0 c1,v=zB R.1/\Hp.le K K'/\aD G K' (aH 66 K' b8 b9 R.2.1::iR a R.2.2.1::aH 139 K c0 c1 R.2.2.2::box b5 167 [zS b8 R.2.1.length b9,zM (some a),zS c0 R.2.2.2.length c1,Value.func (.func 97) #[] #[]]::box b4 164 [zP (some ⟨b5,0,none⟩)]::L) w'):=by
 let k:=[zP (some ⟨b5,0,none⟩)]
 refine cA func99 ?_;unfold nK at hm
 refine aC ?_;obtain ⟨f8,c3,hm⟩:=aB hm
 obtain ⟨f9,g0,c4⟩:=Cut.ex 1 a17 c18 1
 have e3:=aT.cut' a4 c3 c4
 refine aK (yR dG a4.room c4 rfl rfl rfl c3) (aC ?_);refine aJ [] (fun f w=>∃ a7 a8 c5 b0 c6 c8 c9 d0,Hp.le K a7/\tB a8 c5 b0=some R/\aD G a7 (aH 139 K c9 d0 b0::aH 66 a7 c6 c8 a8::iR a c5::box b5 167 [zS c6 a8.length c8,zM (some a),zS c9 b0.length d0,Value.func (.func 97) #[] #[]]::box b4 164 k::L) w) aI ?_
 have g1:aD G K (aH 66 K a6 c7 n::iR a a3::aH 139 K a9 c10 o::box b5 167 [zS a6 n.length c7,zM (some a),zS a9 o.length c10,Value.func (.func 97) #[] #[]]::box b4 164 k::L) w:=aD.weak (i:=0) hs rfl (fun _ h=>aH.mono d9 h)
 obtain ⟨g2,e4,ho⟩:=aB hm
 refine aDd [0,1,2,11,12] e4 (fun b t c b1 f w=>∃ l d e g j,Hp.le K l/\f 13=i64 b1/\aD G l (aH 66 l d e b::iR a t::aH 139 K g j c::box b5 167 [zS d b.length e,zM (some a),zS g c.length j,Value.func (.func 97) #[] #[]]::box b4 164 k::L) w) aI ?_
 ·rintro b t c b1 e5 f g3 hm hr ⟨l,d,e,g,j,m,g4,e6⟩
  unfold iC at hm
  refine aC ?_
  rcases aG hm with ⟨e7,hm⟩|⟨e7,hm⟩
  ·refine aC ?_;refine aJ [0,1,2,11,12,13] (fun f w=>∃ q u b2 x y z V Z,Hp.le l q/\hQ b1 u b2 x=some e5/\aD G q (aH 139 K V Z x::aH 66 q y z u::iR a b2::box b5 167 [zS y u.length z,zM (some a),zS V x.length Z,Value.func (.func 97) #[] #[]]::box b4 164 k::L) w) ?_ ?_
   ·rintro f g5 ⟨q,u,b2,x,y,z,V,Z,e8,hm,g6⟩
    unfold hQ at hm
    refine aC ?_;exact ⟨_,(zI hm).symm,aU,q,y,z,V,Z,(zL m e8),rfl,oK⟩
   refine aC ?_;obtain ⟨d1,e9,hm⟩:=aB hm
   refine aC ?_;obtain ⟨g7,g8,f0⟩:=aT.el (sz:=1) rfl e3 e9
   cases f0
   refine aC ?_;obtain ⟨d2,f1,hm⟩:=aB hm
   refine bP call100 (aFd f1 e6 (a4.mono m) (e2.mono m) (h3.mono m)) ?_
   rintro _ d3 ⟨d4,d5,rfl,f2⟩
   refine aC ?_
   rcases aG hm with ⟨f3,hm⟩|⟨f3,hm⟩
   ·refine aC ?_;obtain ⟨a0,d6,f4,b3⟩:=aD.giveSp f2 m .head
    replace b3:aD G a0 (aH 66 l d e b::iR a t::aH 139 K g j c::box b5 167 [zS d b.length e,zM (some a),zS g c.length j,Value.func (.func 97) #[] #[]]::box b4 164 k::L) d3:=b3
    have f5:aD G a0 (aH 66 a0 d e b::iR a t::aH 139 K g j c::box b5 167 [zS d b.length e,zM (some a),zS g c.length j,Value.func (.func 97) #[] #[]]::box b4 164 k::L) d3:=aD.weak (i:=0) b3 rfl (fun _ h=>aH.mono d6 h)
    obtain ⟨g9,f6,hm⟩:=aB hm
    exact gR (vs:=[str d1,zS d4 d2.length d5]) (caps:=[zP (some ⟨b4,0,none⟩),cU a11 r]) (us:=[str d1,zS d4 d2.length d5,zP (some ⟨b4,0,none⟩),cU a11 r]) rfl call140 rfl rfl (wC (Kf:=a0) f6 f5 hG (zR _) f4 (e1.mono (zL m d6))) aI
   ·exact aI
  ·exact aI
theorem aAh {c7:(List Int)} {z:aO} {k5:Nat} {R:(aO × (List (List Int)) × Bool)} (hm:oN c7 z=some R) (hs:aD G K (L) w) (hG:G.lo=0) (h3:aT K a1 c2 c7) (h6:cK K a4 k5 (zC z a7 c8 a10 c11)) (h9:aT K a7 c8 z.L) (g8:aT K a10 c11 z.E):
  Calls prog 95 ([zS a1 c7.length c2,Value.func (.func 97) #[] #[],Value.func (.func 99) #[] #[cU a4 k5]]:List Value).toArray w (dO fun v w'=>∃ K' e7 e8 e9 f0 f1 f2,v=zT #[zA (zCa R.1 e7 e8 e9 f0),zS f1 R.2.1.length f2,zB R.2.2]/\Hp.le K K'/\aD G K' (aH 9 K e7 e8 R.1.L::aH 61 K e9 f0 R.1.E::aH 66 K' f1 f2 R.2.1::L) w'):=by
 let k:=zG
 refine cA func95 ?_;unfold oN at hm
 refine aC ?_;refine jH fun l q7 g9=>?_
 refine aC ?_;refine aGw aL Int g9 ?_
 intro a h0 (q8:aD G K (iR a ([]:(List (aL × Int)))::box l 27 k::L) h0)
 iterate 1 refine eU ?_
 refine aK (dI (vs:=[(1,zM (some a)),(3,Value.func (.func 97) #[] #[])]) (cs:=[zS none 0 0,zM (some a),zS none 0 0,Value.func (.func 97) #[] #[]]) bs_167 rfl (by kernel_rfl)) (kN fun b q9 r0=>?_);refine jH fun c r1 r2=>?_
 refine kM fun h1 h2=>?_;refine aC ?_
 have h4:=aD.nil (α:=(List Int)) h2 66 K
 have r3:=aD.nil (α:=nX) h4 139 K
 have h5:aD G K (aH 66 K none 0 ([]:List (List Int))::iR a ([]:(List (aL × Int)))::aH 139 K none 0 ([]:List nX)::box b 167 [zS none 0 0,zM (some a),zS none 0 0,Value.func (.func 97) #[] #[]]::box c 164 [zP (some ⟨b,0,none⟩)]::box l 27 k::L) h1:=oK
 obtain ⟨r4,h7,hm⟩:=aB hm
 refine bP call139 (gW (Kf:=K) h7 h5 hG (zR _) h3) ?_
 rintro _ r5 ⟨r6,r7,rfl,r8⟩
 refine aC ?_;refine jH fun r9 s0 s1=>?_
 refine kM fun s2 h8=>?_;refine aC ?_
 refine aJ [6,9] (fun f w=>∃ a3 V c4 a5 b2 c45 b3 b4,Hp.le K a3/\lB V c4 a5=some R/\aD G a3 (aH 139 K b3 b4 a5::aH 66 a3 b2 c45 V::iR a c4::box b 167 [zS b2 V.length c45,zM (some a),zS b3 a5.length b4,Value.func (.func 97) #[] #[]]::box c 164 [zP (some ⟨b,0,none⟩)]::box l 27 k::L) w) ?_ ?_
 ·rintro f s3 ⟨a3,V,c4,a5,b2,c45,b3,b4,e,hm,i0⟩
  unfold lB at hm
  refine aC ?_;refine bG [6,9] (fun f w=>∃ a6 a8 Z a0 d1 b5 b6 b7 b8,oT V a6 a8 Z a0=some R/\f 12=zP (some ⟨d1,0,none⟩)/\aD G a3 (aH 61 K b7 b8 a0::aH 9 K b5 b6 Z::box d1 27 [i64 a6,i64 a8,zS b5 Z.length b6,zS b7 a0.length b8]::aH 139 K b3 b4 a5::aH 66 a3 b2 c45 V::iR a c4::box b 167 [zS b2 V.length c45,zM (some a),zS b3 a5.length b4,Value.func (.func 97) #[] #[]]::box c 164 [zP (some ⟨b,0,none⟩)]::box l 27 k::L) w) ?_ ?_
  ·rintro f s4 ⟨a6,a8,Z,a0,d1,b5,b6,b7,b8,hm,f3,i1⟩
   unfold oT at hm
   refine aC ?_;obtain ⟨s5,f4,f5,i2,s6⟩:=aD.lendBp i1 zt2
   obtain ⟨s7,c5,i3,i4,s8⟩:=aD.lendBp i2 zt5
   obtain ⟨s9,b9,i5,t0,t1⟩:=aD.lendBp i4 zt5
   refine aBr [(0,0),(1,0),(2,0),(3,0),(4,0),(5,1),(6,1),(7,1),(8,2),(9,2)] fun t2 m=>?_;refine cS rfl (fun _ ⟨_,m⟩=>jR (t:=0) (vs:=[i64 a6,i64 a8,zS b5 Z.length b6,zS b7 a0.length b8]) fF m (f5.mono (zL c5 b9)) f3 rfl rfl) (cS rfl (fun _ ⟨_,m⟩=>cH (t:=0) sc_164 m i5 rfl rfl) (cS rfl (fun _ _=>R_nilP rfl) (cS rfl (fun _ _=>jG (t':=0) aRW rfl rfl) (cS rfl (fun _ ⟨_,m⟩=>cH (t:=0) sc_43 m (i3.mono b9) rfl rfl) (lV rfl (aK (jR (t:=0) (vs:=[i64 a6,i64 a8,zS b5 Z.length b6,zS b7 a0.length b8]) fF m (f5.mono (zL c5 b9)) f3 rfl rfl) (aM (aF ⟨⟨_,m⟩,?_⟩))))))))
   refine lV rfl ?_;obtain ⟨t3,i6,i7,i8,i9⟩:=aD.lendSp m (zL (zL (zL e f4) c5) b9) zt1
   obtain ⟨t4,j0,j1,j2,j3⟩:=aD.lendSp i8 (zL (zL (zL (zL e f4) c5) b9) i6) .head
   obtain ⟨t5,j4,hm⟩:=aB hm
   refine bP call26 (aHN (t:=⟨a6,a8,Z,a0⟩) j4 j2 hG (i7.mono j0) j1) ?_
   rintro _ t6 ⟨rfl,j5⟩
   have j6:=j3 _ _ j5
   have t7:=i9 _ _ j6
   exact aI
  obtain ⟨t8,x,d2,j7,d3⟩:=aD.lendBp i0 zt3
  obtain ⟨j8,d,t9,j9,d4⟩:=aD.lendBp j7 zt3
  refine xM (C:=fun w'=>∃ L',aD G j8 L' w') [16] Tryz_mixed (by kernel_rfl) (fun u0 k0=>?_)
  have g:=aD.mono j9 k0
  refine kP 0 ?_;refine kP 1 ?_
  refine kP 2 ?_;refine gH (i:=3) rfl (by kernel_rfl) ⟨_,g⟩ (fun _ ⟨_,g⟩=>cH (t:=0) sc_43 g (d2.mono d) rfl rfl) (kP 4 ?_)
  refine kP 5 ?_;refine kP 6 ?_
  refine kP 7 ?_;refine gH (i:=8) rfl (by kernel_rfl) ⟨_,g⟩ (fun _ ⟨_,g⟩=>cH (t:=2) sc_124 g (d2.mono d) rfl rfl) (kP 10 ?_)
  refine kP 11 ?_;refine kP 12 ?_
  refine gH (i:=13) rfl (by kernel_rfl) ⟨_,g⟩ (fun _ ⟨_,g⟩=>cH (t:=2) sc_124 g (d2.mono d) rfl rfl) (nM (i:=9) (j:=15) (by kernel_rfl) rfl rfl ?_ ?_)
  ·obtain ⟨u1,u2,k1,k2,k3⟩:=aD.lendSp g (zL (zL e x) d) .head
   obtain ⟨u3,k4,hm⟩:=aB hm
   refine bP call141 (aDT k4 k2 k1) ?_
   rintro _ u4 ⟨u5,u6,rfl,k6⟩
   have f6:=k3 _ _ k6
   refine aM (aF ⟨fun _=>⟨_,f6⟩,?_⟩)
   refine nM (i:=14) (j:=15) (by kernel_rfl) rfl rfl ?_ ?_
   ·obtain ⟨u7,k7,k8,k9,l0⟩:=aD.lendSp f6 (zL (zL e x) d) zt1
    obtain ⟨u8,l1,l2,l3,l4⟩:=aD.lendSp k9 (zL (zL (zL e x) d) k7) .head
    obtain ⟨u9,l5,hm⟩:=aB hm
    refine bP call62 (xD l5 l3 (k8.mono l1) l2) ?_
    rintro _ v0 ⟨v1,v2,v3,v4,rfl,l6⟩
    have l7:=l4 _ _ l6
    have l8:=l0 _ _ l7
    refine aM (aF ⟨fun _=>⟨_,l8⟩,?_⟩)
    refine aS (i:=15) (by kernel_rfl) rfl (jH fun v5 v6 f7=>?_);refine aM (aF ⟨fun _=>⟨_,f7⟩,?_⟩)
    refine aS (i:=16) (by kernel_rfl) rfl ?_
    have l9:=d4 _ _ f7
    have v7:=d3 _ _ l9
    refine kM fun v8 v9=>?_;refine aM (aF ⟨aGb rfl,?_⟩)
    exact fG (by kernel_rfl) aI
   ·refine jH fun w0 w1 f8=>?_;refine aM (aF ⟨fun _=>⟨_,f8⟩,?_⟩)
    refine aS (i:=14) (by kernel_rfl) rfl ?_;obtain ⟨w2,m0,m1,m2,m3⟩:=aD.lendSp f8 (zL (zL e x) d) zt2
    obtain ⟨w3,m4,m5,m6,m7⟩:=aD.lendSp m2 (zL (zL (zL e x) d) m0) zt1
    obtain ⟨w4,m8,hm⟩:=aB hm
    refine bP call62 (xD m8 m6 (m1.mono m4) m5) ?_
    rintro _ w5 ⟨w6,w7,w8,w9,rfl,m9⟩
    have n0:=m7 _ _ m9
    have f9:=m3 _ _ n0
    refine aM (aF ⟨fun _=>⟨_,f9⟩,?_⟩)
    refine aS (i:=16) (by kernel_rfl) rfl ?_
    have n1:=d4 _ _ f9
    have x0:=d3 _ _ n1
    refine kM fun x1 x2=>?_;refine aM (aF ⟨aGb rfl,?_⟩)
    exact fG (by kernel_rfl) aI
  ·refine jH fun x3 x4 g0=>?_;refine aM (aF ⟨fun _=>⟨_,g0⟩,?_⟩)
   refine aS (i:=9) (by kernel_rfl) rfl ?_;obtain ⟨x5,x6,n2,n3,n4⟩:=aD.lendSp g0 (zL (zL e x) d) zt1
   obtain ⟨x7,n5,hm⟩:=aB hm
   refine bP call141 (aDT n5 n3 n2) ?_
   rintro _ x8 ⟨x9,y0,rfl,n6⟩
   have g1:=n4 _ _ n6
   refine aM (aF ⟨fun _=>⟨_,g1⟩,?_⟩)
   refine aS (i:=14) (by kernel_rfl) rfl ?_;obtain ⟨y1,n7,n8,n9,o0⟩:=aD.lendSp g1 (zL (zL e x) d) zt1
   obtain ⟨y2,o1,o2,o3,o4⟩:=aD.lendSp n9 (zL (zL (zL e x) d) n7) .head
   obtain ⟨y3,o5,hm⟩:=aB hm
   refine bP call62 (xD o5 o3 (n8.mono o1) o2) ?_
   rintro _ y4 ⟨y5,y6,y7,y8,rfl,o6⟩
   have o7:=o4 _ _ o6
   have g2:=o0 _ _ o7
   refine aM (aF ⟨fun _=>⟨_,g2⟩,?_⟩)
   refine aS (i:=16) (by kernel_rfl) rfl ?_
   have o8:=d4 _ _ g2
   have y9:=d3 _ _ o8
   refine kM fun z0 z1=>?_;refine aM (aF ⟨aGb rfl,?_⟩)
   exact fG (by kernel_rfl) aI
 have z2:=aD.nil (α:=nX) h8 139 K
 obtain ⟨z3,o9,ho⟩:=aB hm
 refine aDd [2,6,9] o9 (fun n c0 o d5 f w=>∃ c1 p q r u a9,Hp.le K c1/\f 10=zP (some ⟨a9,0,none⟩)/\aD G c1 (aH 139 K r u o::box a9 3 [i64 d5]::aH 66 c1 p q n::iR a c0::box b 167 [zS p n.length q,zM (some a),zS r o.length u,Value.func (.func 97) #[] #[]]::box c 164 [zP (some ⟨b,0,none⟩)]::box l 27 k::L) w) aI ?_
 ·rintro n c0 o d5 p0 f z4 hm hr ⟨c1,p,q,r,u,a9,c6,p1,z5⟩
  unfold cP at hm
  refine aC ?_;refine st_k ?_
  refine aC ?_;refine yP (fun p2 p3=>(aC ?_))
  rcases aG hm with ⟨p4,hm⟩|⟨p4,hm⟩
  ·refine aC ?_;refine bT (aC ?_)
   obtain ⟨a2,b0,p5,d6,_⟩:=aD.lendBp p3 zt1
   replace d6:aD G a2 (aH 139 K r u o::aH 66 c1 p q n::iR a c0::box b 167 [zS p n.length q,zM (some a),zS r o.length u,Value.func (.func 97) #[] #[]]::box c 164 [zP (some ⟨b,0,none⟩)]::box l 27 k::L) p2:=d6
   refine xM (C:=fun w'=>∃ L',aD G a2 L' w') [] Tryz_mixed (by kernel_rfl) (fun g3 p6=>?_)
   have y:=aD.mono d6 p6
   refine kP 0 ?_;refine kP 5 ?_
   refine gH (i:=8) rfl (by kernel_rfl) ⟨_,y⟩ (fun _ _=>kU (vs:=[zP (some ⟨c,0,none⟩),cU (some ⟨a9,0,none⟩) 0]) (lst2 rfl (kA p1))) (aS (i:=1) (by kernel_rfl) rfl ?_)
   iterate 1 refine eU ?_
   refine aM (aF ⟨fun _=>⟨_,y⟩,?_⟩)
   refine kP 2 ?_;refine kP 3 ?_
   refine aS (i:=4) (by kernel_rfl) rfl ?_
   iterate 1 refine eU ?_
   refine aM (aF ⟨fun _=>⟨_,y⟩,?_⟩)
   obtain ⟨d7,d8,hm⟩:=aB hm
   have p7:=bY y (i:=1) rfl d8
   refine gH (i:=6) rfl (by kernel_rfl) ⟨_,y⟩ (fun _ _=>cR jB rfl p7 rfl rfl rfl d8) (aS (i:=7) (by kernel_rfl) rfl ?_);obtain ⟨z6,p8,p9⟩:=own_el (sz:=1) rfl y (i:=1) rfl d8
   obtain ⟨d9,e0,rfl,q0⟩:=p9
   refine aK (R_ldC (t:=0) (v:=zS d9 d7.length e0) aHK p8 rfl rfl) (aM (aF ⟨fun _=>⟨_,y⟩,?_⟩))
   refine aS (i:=9) (by kernel_rfl) rfl ?_
   have z7:aD G a2 (aH 139 K r u o::aH 66 a2 p q n::iR a c0::box b 167 [zS p n.length q,zM (some a),zS r o.length u,Value.func (.func 97) #[] #[]]::box c 164 [zP (some ⟨b,0,none⟩)]::box l 27 k::L) g3:=aD.weak (i:=1) y rfl (fun _ h=>aH.mono b0 h)
   have q1:aD G a2 (aH 66 a2 p q n::iR a c0::aH 139 K r u o::box b 167 [zS p n.length q,zM (some a),zS r o.length u,Value.func (.func 97) #[] #[]]::box c 164 [zP (some ⟨b,0,none⟩)]::box l 27 k::L) g3:=oK
   obtain ⟨b1,q2,hm⟩:=aB hm
   refine gR (vs:=[zS d9 d7.length e0,Value.func (.func 140) #[] #[zP (some ⟨c,0,none⟩),cU (some ⟨a9,0,none⟩) 0]]) (caps:=[cU a4 k5]) (us:=[zS d9 d7.length e0,Value.func (.func 140) #[] #[zP (some ⟨c,0,none⟩),cU (some ⟨a9,0,none⟩) 0],cU a4 k5]) rfl call99 rfl rfl (yN (Kf:=a2) q2 q1 hG (zR _) (q0.mono b0) p5 (h6.mono (zL c6 b0)) (h9.mono (zL c6 b0)) (g8.mono (zL c6 b0))) ?_
   rintro _ z8 ⟨e1,e2,e3,e4,e5,rfl,g4,q3⟩
   refine aM (aF ⟨fun _=>⟨_,(aD.weakK q3 g4)⟩,?_⟩)
   refine kP 10 ?_;refine fG (by kernel_rfl) ?_
   iterate 2 refine eU ?_
   refine bG [2,6,9,10] (fun f w=>∃ e6,lC d5 b1 e6=some p0/\f 48=zB e6/\aD G e1 (aH 66 e1 e2 e3 b1.2.1::iR a b1.2.2.1::aH 139 K e4 e5 b1.2.2.2::box b 167 [zS e2 b1.2.1.length e3,zM (some a),zS e4 b1.2.2.2.length e5,Value.func (.func 97) #[] #[]]::box c 164 [zP (some ⟨b,0,none⟩)]::box l 27 k::L) w) ?_ ?_
   ·rintro f z9 ⟨e6,hm,a00,a01⟩
    unfold lC at hm
    refine aC ?_
    rcases aG hm with ⟨q4,hm⟩|⟨q4,hm⟩
    ·exact aI
    ·refine aC ?_;refine jH fun q5 a02 a03=>?_
     refine kM fun a04 a05=>?_;refine aC ?_
     refine kM fun a06 a07=>?_;refine aC ?_
     exact ⟨_,(zI hm).symm,aU,e1,e2,e3,e4,e5,q5,(zL (zL c6 b0) g4),rfl,oK⟩
   exact aI
  ·exact aI
theorem lF {t:aO} {R:(aO × (List (List Int)) × Bool)} (hm:jD t=some R) (hs:aD G K (L) w) (hG:G.lo=0) (j:aT K a1 c2 t.L) (n:aT K a4 c5 t.E):
  Calls prog 52 ([zA (zCa t a1 c2 a4 c5)]:List Value).toArray w (dO fun v w'=>∃ k o p q r u x,v=zT #[zA (zCa R.1 o p q r),zS u R.2.1.length x,zB R.2.2]/\Hp.le K k/\aD G k (aH 9 K o p R.1.L::aH 61 K q r R.1.E::aH 66 k u x R.2.1::L) w'):=by
 refine cA func52 ?_;unfold jD at hm
 refine aC ?_;refine kN fun y w8 f7=>?_
 refine jH fun z f8 f9=>?_;refine aC ?_
 refine nE ([t.I]:List Int) fun V g0 b2=>?_;obtain ⟨g1,Z,b3,b4,b5⟩:=aD.lendSp b2 (zR _) .head
 obtain ⟨g2,b6,hm⟩:=aB hm
 refine bP call96 (sD b6 b4 (j.mono Z) (n.mono Z) b3) ?_
 rintro _ a0 ⟨g3,g4,rfl,b8⟩
 have b9:=b5 _ _ b8
 refine aK (kU (vs:=[zP (some ⟨y,0,none⟩)]) rfl) ?_;obtain ⟨c0,b,c1,l⟩:=aD.giveSp b9 (zR _) zt1
 replace l:aD G c0 (aH 2 K V 1 ([t.I]:List Int)::box z 27 zG::box y 27 (zC t a1 c2 a4 c5)::L) a0:=l
 obtain ⟨c3,a,a2,m,_⟩:=aD.lendBp l zt2
 replace m:aD G c3 (aH 2 K V 1 ([t.I]:List Int)::box z 27 zG::L) a0:=m
 obtain ⟨d,c4,hm⟩:=aB hm
 refine bP call95 (aAh c4 m hG (c1.mono a) a2 (j.mono (zL b a)) (n.mono (zL b a))) ?_
 rintro _ g5 ⟨c6,c7,c8,c9,d0,a3,c45,rfl,c,g6⟩
 refine aC ?_;refine jH fun g7 g8 g9=>?_
 refine kM fun h0 d1=>?_;refine aC ?_
 rcases aG hm with ⟨d2,hm⟩|⟨d2,hm⟩
 ·exact aI
 ·refine aC ?_;obtain ⟨h1,e,d3,h2,d4⟩:=aD.lendBp d1 .head
  refine aBr [(0,0),(1,0),(2,0),(3,0),(4,0),(7,0),(5,1),(6,1),(8,1),(9,2),(10,2)] fun h4 g=>?_;refine aC ?_
  refine cS rfl (fun _ ⟨_,g⟩=>cH (t:=2) aBv g (a2.mono (zL c e)) rfl rfl) (cS rfl (fun _ ⟨_,g⟩=>jR (t:=0) (vs:=(zC d.1 c7 c8 c9 d0)) fF g d3 rfl rfl rfl) (cS rfl (fun _ _=>bW (v:=zS a3 d.2.1.length c45) rfl) (lV rfl ?_)));obtain ⟨h5,d5,d6,d7,d8⟩:=aD.lendSp g (zL (zL (zL b a) c) e) .head
  obtain ⟨h7,d9,e0,e1,e2⟩:=aD.lendSp d7 (zL (zL (zL (zL b a) c) e) d5) .head
  obtain ⟨h8,e3,hm⟩:=aB hm
  refine bP call101 (aAC e3 e1 (d6.mono d9) e0) ?_
  rintro _ h9 ⟨i0,i1,rfl,e4⟩
  have e5:=e2 _ _ e4
  have a5:=d8 _ _ e5
  refine aM (aF ⟨⟨_,a5⟩,?_⟩)
  refine lV rfl ?_;obtain ⟨i2,e6,e7,e8,e9⟩:=aD.lendSp a5 (zL (zL (zL b a) c) e) zt2
  obtain ⟨h,f0,hm⟩:=aB hm
  refine bP call62 (xD f0 e8 (j.mono (zL (zL (zL (zL b a) c) e) e6)) e7) ?_
  rintro _ i3 ⟨a6,a7,a8,a9,rfl,f1⟩
  have f2:=e9 _ _ f1
  refine aM (aF ⟨⟨_,f2⟩,?_⟩)
  refine lV rfl (kM fun i4 b0=>?_);refine aM (aF ⟨⟨_,b0⟩,?_⟩)
  have f3:=d4 _ _ b0
  refine WE_s rfl (aC ?_);refine WE_s rfl (aC ?_)
  refine tS (aC ?_);obtain rfl:=zI hm
  exact kQ (aMX results52 (aKL (vs:=(zC h a6 a7 a8 a9)) rfl fF f3 (i:=8) rfl rfl rfl) (aKg rfl rfl) (aKg rfl rfl) ⟨c6,a6,a7,a8,a9,a3,c45,rfl,(zL (zL b a) c),oK⟩)
theorem gL {t:aO} {k:Int} {a:aL} {R:Int} (hm:wY t k a=some R) (d:aD G K (L) w) (e:aT K a1 c2 t.L) (g:aT K a4 c5 t.E):
  Calls prog 102 ([zA (zCa t a1 c2 a4 c5),i64 k,str a]:List Value).toArray w (dO fun v w'=>v=i64 R/\aD G K (L) w'):=by
 refine cA func102 ?_;unfold wY at hm
 refine aC ?_;refine kN fun h i j=>?_
 refine aC ?_
 rcases aG hm with ⟨b,hm⟩|⟨b,hm⟩
 ·exact aI
 ·refine aC ?_;refine nE ([k]:List Int) fun l m c=>?_
  refine aC ?_;obtain ⟨n,o,p,q,r⟩:=aD.lendSp c (zR _) .head
  exact aI
theorem aCr {p q:Int} {R:Bool} (hm:tC p q=some R) (b:aD G K (L) w):
  Calls prog 25 ([i64 p,i64 q]:List Value).toArray w (dO fun v w'=>v=zB R/\aD G K (L) w'):=by
 refine cA func25 ?_;unfold tC at hm
 iterate 6 refine eU ?_
 exact bG [] (fun f w=>∃ a,sC a=some R/\f 4=zB a/\aD G K (L) w) aI aI
end Gv
namespace Gv
open Go.Value renaming slice→zS,bool→zB,pointer→zP,agg→zA
open Option.some renaming inj→zI
open Gv.Hp renaming le_trans→zL,le_refl→zR
open Go Go.Proofs Go.Proofs.Tryz
set_option maxRecDepth 20000
set_option maxHeartbeats 40000000
variable {G:Env} {K:Hp} {L:List iD} {w:World} {a1 a4 a7 a10 a3 a6 a9 a13 a16 a19 a22 a25 a28:Option Addr} {c2 c5 c8 c11 c7 c10 c14 c17 c23 c29:Nat}
theorem aFT {a b:aO} {R:((List aL) × Bool)} (hm:uH a b=some R) (hs:aD G K (L) w) (h3:aT K a1 c2 a.L) (h6:aT K a4 c5 a.E) (h9:aT K a7 c8 b.L) (f9:aT K a10 c11 b.E):
  Calls prog 53 ([zA (zCa a a1 c2 a4 c5),zA (zCa b a7 c8 a10 c11),Value.func (.func 25) #[] #[]]:List Value).toArray w (dO fun v w'=>∃ K' i9 j0,v=Value.tuple #[zS i9 R.1.length j0,zB R.2]/\Hp.le K K'/\aT K' i9 j0 R.1/\aD G K' (L) w'):=by
 let j1:=[i64 a.I,i64 b.I,zS none 0 0]
 refine cA func53 ?_;unfold uH at hm
 refine aC ?_;refine kN fun y9 m1 m2=>?_
 obtain ⟨m3,r,g1,j2,_⟩:=aD.lendBp m2 .head
 replace j2:aD G m3 (L) m1:=j2
 refine kN fun z0 m4 m5=>?_;obtain ⟨y,o,c3,c4,_⟩:=aD.lendBp m5 .head
 replace c4:aD G y (L) m4:=c4
 refine aC ?_;refine aK (cH (t:=2) aBv c4 (g1.mono o) rfl rfl) (aK (kT (k':=0+2) vW (kA rfl) c3 rfl) (aK (cH (t:=2) aBv c4 c3 rfl rfl) (cQ (Kt:=y) (xs:=([a.L,b.L]:List (List aL))) (cs:=[zS a1 a.L.length c2,zS a7 b.L.length c8]) (vs:=[(0,zS a1 a.L.length c2),(1,zS a7 b.L.length c8)]) aND ez_24 rfl rfl c4 rfl (by kernel_rfl) rfl rfl rfl ⟨⟨a1,c2,rfl,(h3.mono (zL r o))⟩,⟨a7,c8,rfl,(h9.mono (zL r o))⟩,trivial⟩ (fun e5 m6 (m7:aD G y (aH 24 y e5 2 ([a.L,b.L]:List (List aL))::L) m6)=>?_))))
 obtain ⟨z1,z2,m8,m9,n0⟩:=aD.lendSp m7 (zR _) .head
 obtain ⟨g2,n1,hm⟩:=aB hm
 refine bP call63 (fD n1 m9 m8) ?_
 rintro _ z3 ⟨g3,g4,rfl,n2⟩
 have n3:=n0 _ _ n2
 obtain ⟨z4,z5,n4,n5,n6⟩:=aD.lendSp n3 (zL r o) zt1
 obtain ⟨e6,n7,hm⟩:=aB hm
 have hcl:=xD n7 n5 n4 (tQ (α:=nX) _)
 refine bP call62 hcl ?_
 rintro _ n8 ⟨j3,j4,g5,g6,rfl,n9⟩
 have j5:=n6 _ _ n9
 refine aK (aMU (v:=zS j3 e6.L.length j4) aNa rfl rfl) ?_;obtain ⟨d,j6,hm⟩:=aB hm
 have o0:=mX j5 (i:=1) rfl
 obtain ⟨e,g,j7⟩:=Cut.ex 1 j3 j4 1
 refine aK (yR dG o0 j7 rfl rfl rfl j6) ?_
 have o1:aD G y (aH 9 K g3 g4 g2::aH 9 K e g d::aH 61 K g5 g6 e6.E::aH 24 y e5 2 ([a.L,b.L]:List (List aL))::L) n8:=aD.cutP j5 (i:=1) rfl j6 j7
 refine aC ?_;refine aGw (Int × Int) Bool o1 ?_
 intro l o2 (g7:aD G y (iR l ([]:(List ((Int × Int) × Bool)))::aH 9 K g3 g4 g2::aH 9 K e g d::aH 61 K g5 g6 e6.E::aH 24 y e5 2 ([a.L,b.L]:List (List aL))::L) o2)
 refine aC ?_;refine aK (cH (t:=1) jE g7 (g1.mono o) rfl rfl) (aK (kT (k':=0+1) aHq (kA rfl) c3 rfl) (aK (cH (t:=1) jE g7 c3 rfl rfl) (aK (dI (vs:=[(0,i64 a.I),(1,i64 b.I),(2,zS none 0 0)]) (cs:=j1) aEG rfl (by kernel_rfl)) (cQ (Kt:=y) (xs:=([⟨a.I,b.I,[]⟩]:List aP)) (cs:=j1) (vs:=[(0,zA #[i64 a.I,i64 b.I,zS none 0 0])]) oS tT rfl rfl g7 rfl (by kernel_rfl) rfl rfl rfl ⟨⟨none,0,rfl,tQ _⟩,trivial⟩ ?_))))
 intro j8 o3 (z6:aD G y (aH 127 y j8 1 ([⟨a.I,b.I,[]⟩]:List aP)::iR l ([]:(List ((Int × Int) × Bool)))::aH 9 K g3 g4 g2::aH 9 K e g d::aH 61 K g5 g6 e6.E::aH 24 y e5 2 ([a.L,b.L]:List (List aL))::L) o3)
 refine aC ?_;refine aJ [] (fun f w=>∃ j9,Hp.le y j9/\aHM=some R/\aD G j9 (L) w) aI ?_
 obtain ⟨z7,o4,ho⟩:=aB hm
 refine aY [2,3,4,8,9] o4 (fun a3 e7 f w=>∃ a6 c6 c7,Hp.le y a6/\f 10=zS c6 e7.length c7/\aD G a6 (aH 127 a6 c6 c7 e7::iR l a3::aH 9 K e g d::L) w) ?_ ?_
 ·exact ⟨y,j8,1,(zR _),rfl,oK⟩
 ·rintro a3 e7 g8 f z8 hm hr ⟨a6,c6,c7,u,z9,k0⟩
  unfold gK at hm
  refine aC ?_
  rcases aG hm with ⟨o5,hm⟩|⟨o5,hm⟩
  ·refine aC ?_;refine aJ [2,3,4,8,9] (fun f w=>∃ (c9:Hp) (g9:(List ((Int × Int) × Bool))) (e8:List aP) (e9:Option Addr) (f0:Nat),Hp.le a6 c9/\aAy g9 e8=some g8/\f 10=zS e9 e8.length f0/\aD G c9 (aH 127 c9 e9 f0 e8::iR l g9::aH 9 K e g d::L) w) ?_ ?_
   ·rintro f a00 ⟨c9,g9,e8,e9,f0,o6,hm,o7,o8⟩
    unfold aAy at hm
    refine aC ?_;exact ⟨_,(zI hm).symm,aU,c9,e9,f0,(zL u o6),o7,o8⟩
   refine aC ?_;obtain ⟨c,h0,hm⟩:=aB hm
   have o9:=bY k0 (i:=0) rfl h0
   refine aK (cR oS rfl o9 rfl rfl rfl h0) ?_;obtain ⟨a01,p0,p1⟩:=own_el (sz:=3) rfl k0 (i:=0) rfl h0
   obtain ⟨k1,k2,rfl,d0⟩:=p1
   refine aK (R_ldCG (t:=0) (vs:=[i64 c.a,i64 c.b,zS k1 c.trace.length k2]) ag_127 p0 rfl rfl rfl) (jH fun a02 a03 a04=>?_);refine kM fun k3 p2=>?_
   obtain ⟨a5,m,a05,f1,_⟩:=aD.lendBp p2 .head
   replace f1:aD G a5 (aH 127 a6 c6 c7 e7::iR l a3::aH 9 K e g d::L) k3:=f1
   refine aC ?_;obtain ⟨b4,k4,hm⟩:=aB hm
   have p3:=aRO f1 (i:=0) rfl
   obtain ⟨d1,d2,k5⟩:=Cut.ex 3 c6 c7 1
   refine aK (yR oS p3 k5 rfl rfl rfl k4) ?_
   have f2:aD G a5 (aH 127 a6 d1 d2 b4::iR l a3::aH 9 K e g d::L) k3:=aD.cutPE f1 (i:=0) rfl k4 k5
   iterate 5 refine eU ?_
   refine bG [2,3,4,8,9,10,11] (fun f w=>∃ h1,lR a b d a3 c b4 h1=some g8/\f 54=zB h1/\aD G a5 (aH 127 a6 d1 d2 b4::iR l a3::aH 9 K e g d::L) w) ?_ ?_
   ·rintro f p4 ⟨h1,hm,a06,k6⟩
    unfold lR at hm
    refine aC ?_
    rcases aG hm with ⟨p5,hm⟩|⟨p5,hm⟩
    ·refine aC ?_
     have a07:aD G a5 (aH 127 a5 d1 d2 b4::iR l a3::aH 9 K e g d::L) p4:=aD.weak (i:=0) k6 rfl (fun _ h=>aH.mono m h)
     exact aI
    ·refine aC ?_;refine aK (aBu (vs:=[(0,i64 c.a),(1,i64 c.b)]) (cs:=[i64 c.a,i64 c.b]) aEF aHr rfl (by kernel_rfl)) ?_
     obtain ⟨n,p6,hm⟩:=aB hm
     refine aGx (i:=1) (k:=⟨c.a,c.b⟩) (v:=true) runUnderlying92 aGd k6 rfl rfl rfl rfl p6 (fun p7 (p8:aD G a5 (aH 127 a6 d1 d2 b4::iR l n::aH 9 K e g d::L) p7)=>(aC ?_));obtain ⟨a08,p9,hm⟩:=aB hm
     refine gR (vs:=[i64 c.a,i64 c.b]) (caps:=[]) (us:=[i64 c.a,i64 c.b]) rfl call25 rfl rfl (aCr p9 p8) ?_
     rintro _ q0 ⟨rfl,q1⟩
     refine aC ?_
     rcases aG hm with ⟨q2,hm⟩|⟨q2,hm⟩
     ·refine aC ?_;refine kQ (bO (gF (bO (bO ?_))))
      have q3:=hr _ (zI hm).symm
      subst q3
      have hm:(some (c.trace,true))=some R:=ho
      clear hr ho
      obtain rfl:=zI hm
      exact gF (bO (bO (aNu results53 rfl rfl ⟨a5,k1,k2,rfl,(zL (zL (zL r o) u) m),(d0.mono m),oK⟩)))
     ·refine aC ?_;refine aJ [2,3,4,8,9] (fun f w=>∃ d3 d4 f3 f4,Hp.le a5 d3/\aDQ n d4=some g8/\f 10=zS f3 d4.length f4/\aD G d3 (aH 127 d3 f3 f4 d4::iR l n::aH 9 K e g d::L) w) ?_ ?_
      ·rintro f a09 ⟨d3,d4,f3,f4,q5,hm,q6,q7⟩
       unfold aDQ at hm
       refine aC ?_;exact ⟨aU,d3,n,d4,f3,f4,(zL m q5),hm,q6,q7⟩
      have a11:aD G a5 (aH 127 a5 d1 d2 b4::iR l n::aH 9 K e g d::L) q0:=aD.weak (i:=0) q1 rfl (fun _ h=>aH.mono m h)
      obtain ⟨a12,q8,ho⟩:=aB hm
      refine aY [2,3,4,8,9,11,69,70] q8 (fun V h2 f w=>∃ q Z a0,Hp.le a5 q/\f 10=zS Z V.length a0/\f 71=i64 h2/\aD G q (aH 127 q Z a0 V::iR l n::aH 9 K e g d::L) w) aI ?_
      ·rintro V h2 q9 f a13 hm hr ⟨q,Z,a0,p,a14,r0,k7⟩
       unfold gJ at hm
       refine aC ?_
       rcases aG hm with ⟨r1,hm⟩|⟨r1,hm⟩
       ·refine aC ?_;refine bT (aC ?_)
        obtain ⟨a8,k8,hm⟩:=aB hm
        have r2:=bY k7 (i:=2) rfl k8
        refine aK (cR dG rfl r2 rfl rfl r0 k8) (aC ?_);refine bG [2,3,4,8,9,11,69,70,71] (fun f w=>∃ d5 f5 f6 f7,Hp.le q d5/\aAz h2 f5=some q9/\f 10=zS f6 f5.length f7/\aD G d5 (aH 127 d5 f6 f7 f5::iR l n::aH 9 K e g d::L) w) ?_ ?_
        ·rintro f a15 ⟨d5,f5,f6,f7,r3,hm,r4,r5⟩
         unfold aAz at hm
         refine aC ?_;exact ⟨_,(zI hm).symm,aU,d5,f6,f7,(zL p r3),r4,rfl,r5⟩
        refine xM (C:=fun w'=>∃ L',aD G q L' w') [] Tryz_mixed (by kernel_rfl) (fun a16 r6=>?_)
        have a9:=aD.mono k7 r6
        refine kP 0 ?_;refine gH (i:=1) rfl (by kernel_rfl) ⟨_,a9⟩ (fun _ ⟨_,a9⟩=>jR (t:=0) (vs:=(zC a a1 c2 a4 c5)) fF a9 (g1.mono (zL (zL (zL o u) m) p)) (kA rfl) rfl rfl) (kP 2 ?_)
        refine kP 3 ?_;refine kP 4 ?_
        refine gH (i:=6) rfl (by kernel_rfl) ⟨_,a9⟩ (fun _ ⟨_,a9⟩=>jR (t:=0) (vs:=(zC b a7 c8 a10 c11)) fF a9 (c3.mono (zL (zL u m) p)) (kA rfl) rfl rfl) (kP 7 ?_);refine kP 8 ?_
        refine kP 9 ?_;refine kP 11 ?_
        refine kP 12 ?_;refine kP 14 ?_
        refine nM (i:=5) (j:=15) (by kernel_rfl) rfl rfl ?_ ?_
        ·obtain ⟨x,r7,hm⟩:=aB hm
         refine bP call102 (gL r7 a9 (h3.mono (zL (zL (zL (zL r o) u) m) p)) (h6.mono (zL (zL (zL (zL r o) u) m) p))) ?_
         rintro _ a17 ⟨rfl,k9⟩
         refine aM (aF ⟨fun _=>⟨_,k9⟩,?_⟩)
         refine nM (i:=10) (j:=15) (by kernel_rfl) rfl rfl ?_ ?_
         ·obtain ⟨a2,r8,hm⟩:=aB hm
          refine bP call102 (gL r8 k9 (h9.mono (zL (zL (zL (zL r o) u) m) p)) (f9.mono (zL (zL (zL (zL r o) u) m) p))) ?_
          rintro _ a18 ⟨rfl,l0⟩
          refine aM (aF ⟨fun _=>⟨_,l0⟩,?_⟩)
          refine nM (i:=13) (j:=15) (by kernel_rfl) rfl rfl ?_ ?_
          ·obtain ⟨a19,r9,hm⟩:=aB hm
           refine bP call86 (aX r9 l0 (d0.mono (zL m p))) ?_
           rintro _ a20 ⟨a21,a22,rfl,s0⟩
           refine aM (aF ⟨fun _=>⟨_,s0⟩,?_⟩)
           refine aS (i:=15) (by kernel_rfl) rfl (nE ([a8]:List aL) fun a23 a24 s1=>?_);refine aM (aF ⟨fun _=>⟨_,s1⟩,?_⟩)
           refine aS (i:=16) (by kernel_rfl) rfl ?_;obtain ⟨b5,a25,hm⟩:=aB hm
           refine aGA fun d6 d7 s2 h4=>?_;refine aM (aF ⟨fun _=>⟨_,h4⟩,?_⟩)
           refine gH (i:=17) rfl (by kernel_rfl) ⟨_,h4⟩ (fun _ _=>dI (vs:=[(0,i64 x),(1,i64 a2),(2,zS d6 b5.length d7)]) (cs:=[i64 x,i64 a2,zS d6 b5.length d7]) aEG rfl (by kernel_rfl)) (aS (i:=18) (by kernel_rfl) rfl ?_);obtain ⟨b0,h5,s3,h7⟩:=aD.giveSp h4 (zL (zL (zL (zL r o) u) m) p) .head
           replace h7:aD G b0 (aH 127 q Z a0 V::iR l n::aH 9 K e g d::L) s2:=h7
           refine cQ (Kt:=b0) (xs:=([⟨x,a2,b5⟩]:List aP)) (cs:=[i64 x,i64 a2,zS d6 b5.length d7]) (vs:=[(0,zA #[i64 x,i64 a2,zS d6 b5.length d7])]) oS tT rfl rfl h7 rfl (by kernel_rfl) rfl rfl rfl ⟨⟨d6,d7,rfl,s3⟩,trivial⟩ (fun s4 s5 (l1:aD G b0 (aH 127 b0 s4 1 ([⟨x,a2,b5⟩]:List aP)::aH 127 q Z a0 V::iR l n::aH 9 K e g d::L) s5)=>(aM (aF ⟨fun _=>⟨_,(aD.weakK l1 h5)⟩,?_⟩)))
           refine aS (i:=19) (by kernel_rfl) rfl ?_;obtain ⟨s6,s7,hm⟩:=aB hm
           refine aEg (i:=0) b0 oS underlying128 tT rfl rfl l1 rfl h5 (zR _) s7 rfl rfl rfl rfl (fun _ _ _ h=>El.one h) (fun s8 s9 t0 (t1:aD G b0 (aH 127 b0 s8 s9 s6::iR l n::aH 9 K e g d::L) t0)=>(aM (aF ⟨fun _=>⟨_,(aD.weakK t1 h5)⟩,?_⟩)))
           refine kP 20 ?_;exact fG (by kernel_rfl) aI
          ·refine nE ([a8]:List aL) fun t2 a26 l2=>?_;refine aM (aF ⟨fun _=>⟨_,l2⟩,?_⟩)
           refine aS (i:=13) (by kernel_rfl) rfl ?_;obtain ⟨t3,t4,hm⟩:=aB hm
           refine bP call86 (aX t4 l2 (d0.mono (zL m p))) ?_
           rintro _ t5 ⟨t6,t7,rfl,t8⟩
           refine aM (aF ⟨fun _=>⟨_,t8⟩,?_⟩)
           refine aS (i:=16) (by kernel_rfl) rfl ?_;obtain ⟨b6,a28,hm⟩:=aB hm
           have a29:aD G q (aH 9 K t2 1 ([a8]:List aL)::aH 9 K t6 t7 t3::aH 127 q Z a0 V::iR l n::aH 9 K e g d::L) t5:=oK
           refine aGA fun d8 d9 t9 h8=>?_;refine aM (aF ⟨fun _=>⟨_,h8⟩,?_⟩)
           refine gH (i:=17) rfl (by kernel_rfl) ⟨_,h8⟩ (fun _ _=>dI (vs:=[(0,i64 x),(1,i64 a2),(2,zS d8 b6.length d9)]) (cs:=[i64 x,i64 a2,zS d8 b6.length d9]) aEG rfl (by kernel_rfl)) (aS (i:=18) (by kernel_rfl) rfl ?_);obtain ⟨b1,i0,u0,i1⟩:=aD.giveSp h8 (zL (zL (zL (zL r o) u) m) p) .head
           replace i1:aD G b1 (aH 127 q Z a0 V::iR l n::aH 9 K e g d::L) t9:=i1
           refine cQ (Kt:=b1) (xs:=([⟨x,a2,b6⟩]:List aP)) (cs:=[i64 x,i64 a2,zS d8 b6.length d9]) (vs:=[(0,zA #[i64 x,i64 a2,zS d8 b6.length d9])]) oS tT rfl rfl i1 rfl (by kernel_rfl) rfl rfl rfl ⟨⟨d8,d9,rfl,u0⟩,trivial⟩ (fun u1 u2 (l3:aD G b1 (aH 127 b1 u1 1 ([⟨x,a2,b6⟩]:List aP)::aH 127 q Z a0 V::iR l n::aH 9 K e g d::L) u2)=>(aM (aF ⟨fun _=>⟨_,(aD.weakK l3 i0)⟩,?_⟩)))
           refine aS (i:=19) (by kernel_rfl) rfl ?_;obtain ⟨u3,u4,hm⟩:=aB hm
           refine aEg (i:=0) b1 oS underlying128 tT rfl rfl l3 rfl i0 (zR _) u4 rfl rfl rfl rfl (fun _ _ _ h=>El.one h) (fun u5 u6 u7 (u8:aD G b1 (aH 127 b1 u5 u6 u3::iR l n::aH 9 K e g d::L) u7)=>(aM (aF ⟨fun _=>⟨_,(aD.weakK u8 i0)⟩,?_⟩)))
           refine kP 20 ?_;exact fG (by kernel_rfl) aI
         ·refine nE ([a8]:List aL) fun u9 a30 l4=>?_;refine aM (aF ⟨fun _=>⟨_,l4⟩,?_⟩)
          refine aS (i:=10) (by kernel_rfl) rfl ?_;obtain ⟨b7,v0,hm⟩:=aB hm
          refine bP call102 (gL v0 l4 (h9.mono (zL (zL (zL (zL r o) u) m) p)) (f9.mono (zL (zL (zL (zL r o) u) m) p))) ?_
          rintro _ a31 ⟨rfl,l5⟩
          refine aM (aF ⟨fun _=>⟨_,l5⟩,?_⟩)
          refine aS (i:=13) (by kernel_rfl) rfl ?_;obtain ⟨v1,v2,hm⟩:=aB hm
          refine bP call86 (aX v2 l5 (d0.mono (zL m p))) ?_
          rintro _ v3 ⟨v4,v5,rfl,v6⟩
          refine aM (aF ⟨fun _=>⟨_,v6⟩,?_⟩)
          refine aS (i:=16) (by kernel_rfl) rfl ?_;obtain ⟨b8,a32,hm⟩:=aB hm
          have a33:aD G q (aH 9 K u9 1 ([a8]:List aL)::aH 9 K v4 v5 v1::aH 127 q Z a0 V::iR l n::aH 9 K e g d::L) v3:=oK
          refine aGA fun e0 e1 v7 i2=>?_;refine aM (aF ⟨fun _=>⟨_,i2⟩,?_⟩)
          refine gH (i:=17) rfl (by kernel_rfl) ⟨_,i2⟩ (fun _ _=>dI (vs:=[(0,i64 x),(1,i64 b7),(2,zS e0 b8.length e1)]) (cs:=[i64 x,i64 b7,zS e0 b8.length e1]) aEG rfl (by kernel_rfl)) (aS (i:=18) (by kernel_rfl) rfl ?_);obtain ⟨b2,i3,v8,i4⟩:=aD.giveSp i2 (zL (zL (zL (zL r o) u) m) p) .head
          replace i4:aD G b2 (aH 127 q Z a0 V::iR l n::aH 9 K e g d::L) v7:=i4
          refine cQ (Kt:=b2) (xs:=([⟨x,b7,b8⟩]:List aP)) (cs:=[i64 x,i64 b7,zS e0 b8.length e1]) (vs:=[(0,zA #[i64 x,i64 b7,zS e0 b8.length e1])]) oS tT rfl rfl i4 rfl (by kernel_rfl) rfl rfl rfl ⟨⟨e0,e1,rfl,v8⟩,trivial⟩ (fun v9 w0 (l6:aD G b2 (aH 127 b2 v9 1 ([⟨x,b7,b8⟩]:List aP)::aH 127 q Z a0 V::iR l n::aH 9 K e g d::L) w0)=>(aM (aF ⟨fun _=>⟨_,(aD.weakK l6 i3)⟩,?_⟩)))
          refine aS (i:=19) (by kernel_rfl) rfl ?_;obtain ⟨w1,w2,hm⟩:=aB hm
          refine aEg (i:=0) b2 oS underlying128 tT rfl rfl l6 rfl i3 (zR _) w2 rfl rfl rfl rfl (fun _ _ _ h=>El.one h) (fun w3 w4 w5 (w6:aD G b2 (aH 127 b2 w3 w4 w1::iR l n::aH 9 K e g d::L) w5)=>(aM (aF ⟨fun _=>⟨_,(aD.weakK w6 i3)⟩,?_⟩)))
          refine kP 20 ?_;exact fG (by kernel_rfl) aI
        ·refine nE ([a8]:List aL) fun w7 a34 l7=>?_;refine aM (aF ⟨fun _=>⟨_,l7⟩,?_⟩)
         refine aS (i:=5) (by kernel_rfl) rfl ?_;obtain ⟨b9,w8,hm⟩:=aB hm
         refine bP call102 (gL w8 l7 (h3.mono (zL (zL (zL (zL r o) u) m) p)) (h6.mono (zL (zL (zL (zL r o) u) m) p))) ?_
         rintro _ a35 ⟨rfl,l8⟩
         refine aM (aF ⟨fun _=>⟨_,l8⟩,?_⟩)
         refine aS (i:=10) (by kernel_rfl) rfl ?_;obtain ⟨c0,w9,hm⟩:=aB hm
         refine bP call102 (gL w9 l8 (h9.mono (zL (zL (zL (zL r o) u) m) p)) (f9.mono (zL (zL (zL (zL r o) u) m) p))) ?_
         rintro _ a36 ⟨rfl,l9⟩
         refine aM (aF ⟨fun _=>⟨_,l9⟩,?_⟩)
         refine aS (i:=13) (by kernel_rfl) rfl ?_;obtain ⟨x0,x1,hm⟩:=aB hm
         refine bP call86 (aX x1 l9 (d0.mono (zL m p))) ?_
         rintro _ x2 ⟨x3,x4,rfl,x5⟩
         refine aM (aF ⟨fun _=>⟨_,x5⟩,?_⟩)
         refine aS (i:=16) (by kernel_rfl) rfl ?_;obtain ⟨c1,a38,hm⟩:=aB hm
         have a39:aD G q (aH 9 K w7 1 ([a8]:List aL)::aH 9 K x3 x4 x0::aH 127 q Z a0 V::iR l n::aH 9 K e g d::L) x2:=oK
         refine aGA fun e2 e3 x6 i5=>?_;refine aM (aF ⟨fun _=>⟨_,i5⟩,?_⟩)
         refine gH (i:=17) rfl (by kernel_rfl) ⟨_,i5⟩ (fun _ _=>dI (vs:=[(0,i64 b9),(1,i64 c0),(2,zS e2 c1.length e3)]) (cs:=[i64 b9,i64 c0,zS e2 c1.length e3]) aEG rfl (by kernel_rfl)) (aS (i:=18) (by kernel_rfl) rfl ?_);obtain ⟨b3,i6,x7,i7⟩:=aD.giveSp i5 (zL (zL (zL (zL r o) u) m) p) .head
         replace i7:aD G b3 (aH 127 q Z a0 V::iR l n::aH 9 K e g d::L) x6:=i7
         refine cQ (Kt:=b3) (xs:=([⟨b9,c0,c1⟩]:List aP)) (cs:=[i64 b9,i64 c0,zS e2 c1.length e3]) (vs:=[(0,zA #[i64 b9,i64 c0,zS e2 c1.length e3])]) oS tT rfl rfl i7 rfl (by kernel_rfl) rfl rfl rfl ⟨⟨e2,e3,rfl,x7⟩,trivial⟩ (fun x8 x9 (m0:aD G b3 (aH 127 b3 x8 1 ([⟨b9,c0,c1⟩]:List aP)::aH 127 q Z a0 V::iR l n::aH 9 K e g d::L) x9)=>(aM (aF ⟨fun _=>⟨_,(aD.weakK m0 i6)⟩,?_⟩)))
         refine aS (i:=19) (by kernel_rfl) rfl ?_;obtain ⟨y0,y1,hm⟩:=aB hm
         refine aEg (i:=0) b3 oS underlying128 tT rfl rfl m0 rfl i6 (zR _) y1 rfl rfl rfl rfl (fun _ _ _ h=>El.one h) (fun y2 y3 y4 (y5:aD G b3 (aH 127 b3 y2 y3 y0::iR l n::aH 9 K e g d::L) y4)=>(aM (aF ⟨fun _=>⟨_,(aD.weakK y5 i6)⟩,?_⟩)))
         refine kP 20 ?_;exact fG (by kernel_rfl) aI
       ·exact aI
   refine aC ?_
   rcases aG hm with ⟨y6,hm⟩|⟨y6,hm⟩
   ·refine aC ?_
    rcases aG hm with ⟨y7,hm⟩|⟨y7,hm⟩
    ·exact aI
    ·refine aC ?_;refine aK (aBu (vs:=[(0,i64 c.a),(1,i64 c.b)]) (cs:=[i64 c.a,i64 c.b]) aEF aHr rfl (by kernel_rfl)) (aC ?_)
     refine aK (aKQ (kv:=a3) (k:=⟨c.a,c.b⟩) (z:=(false:Bool)) runUnderlying92 aGd zeroValue4 f2 (i:=1) rfl rfl rfl) (aC ?_);exact ⟨aU,((mW a3 ⟨c.a,c.b⟩).getD false),hm,rfl,f2⟩
   ·refine aC ?_;refine aK (aBu (vs:=[(0,i64 c.a),(1,i64 c.b)]) (cs:=[i64 c.a,i64 c.b]) aEF aHr rfl (by kernel_rfl)) (aC ?_)
    refine aK (aKQ (kv:=a3) (k:=⟨c.a,c.b⟩) (z:=(false:Bool)) runUnderlying92 aGd zeroValue4 f2 (i:=1) rfl rfl rfl) (aC ?_);exact ⟨aU,((mW a3 ⟨c.a,c.b⟩).getD false),hm,rfl,f2⟩
  ·exact aI
theorem aIQ {a b:aO} {R:(Bool × (List aL) × Int)} (hm:uR a b=some R) (hs:aD G K (L) w) (hG:G.lo=0) (h3:aT K a1 c2 a.L) (h6:aT K a4 c5 a.E) (h9:aT K a7 c8 b.L) (b3:aT K a10 c11 b.E):
  Calls prog 24 ([zA (zCa a a1 c2 a4 c5),zA (zCa b a7 c8 a10 c11),Value.func (.func 25) #[] #[]]:List Value).toArray w (dO fun v w'=>∃ z a8 a9,v=Value.tuple #[zB R.1,zS a8 R.2.1.length a9,i64 R.2.2]/\Hp.le K z/\aT z a8 a9 R.2.1/\aD G z (L) w'):=by
 refine cA func24 ?_;unfold uR at hm
 refine aC ?_;refine kN fun b4 e3 e4=>?_
 refine kN fun b5 e5 e6=>?_
 iterate 7 refine eU ?_
 refine bG [2,3,4] (fun f w=>∃ V,pO a b V=some R/\f 24=zB V/\aD G K (box b5 27 (zC b a7 c8 a10 c11)::box b4 27 (zC a a1 c2 a4 c5)::L) w) ?_ ?_
 ·rintro f e7 ⟨V,hm,e8,b6⟩
  unfold pO at hm
  refine aC ?_
  rcases aG hm with ⟨b7,hm⟩|⟨b7,hm⟩
  ·exact aI
  ·refine aC ?_;obtain ⟨d,b8,hm⟩:=aB hm
   refine bP call52 (lF b8 b6 hG h3 h6) ?_
   rintro _ e9 ⟨f0,m,n,j,k,f1,f2,rfl,l,f3⟩
   refine aC ?_;refine jH fun o f4 f5=>?_
   refine kM fun f6 b9=>?_;refine aC ?_
   obtain ⟨c,c0,hm⟩:=aB hm
   refine bP call52 (lF c0 b9 hG (h9.mono l) (b3.mono l)) ?_
   rintro _ f7 ⟨c1,h,i,e,g,f8,f9,rfl,p,g0⟩
   refine aC ?_;refine jH fun q g1 g2=>?_
   refine kM fun g3 g4=>?_
   iterate 6 refine eU ?_
   refine bG [2,9,12] (fun f w=>∃ Z,pN d c Z=some R/\f 42=zB Z/\aD G c1 (box q 27 (zC c.1 h i e g)::aH 9 K h i c.1.L::aH 61 K e g c.1.E::box o 27 (zC d.1 m n j k)::aH 9 K m n d.1.L::aH 61 K j k d.1.E::L) w) ?_ ?_
   ·rintro f r ⟨Z,hm,g5,c3⟩
    unfold pN at hm
    refine aC ?_
    rcases aG hm with ⟨c4,hm⟩|⟨c4,hm⟩
    ·exact aI
    ·refine aC ?_;obtain ⟨c6,t,c7,a0⟩:=aD.giveSp c3 (zL l p) zt4
     replace a0:aD G c6 (box q 27 (zC c.1 h i e g)::aH 9 K h i c.1.L::aH 61 K e g c.1.E::box o 27 (zC d.1 m n j k)::aH 61 K j k d.1.E::L) r:=a0
     obtain ⟨c9,u,d0,a2⟩:=aD.giveSp a0 (zL (zL l p) t) zt4
     replace a2:aD G c9 (box q 27 (zC c.1 h i e g)::aH 9 K h i c.1.L::aH 61 K e g c.1.E::box o 27 (zC d.1 m n j k)::L) r:=a2
     obtain ⟨d1,x,d2,a3⟩:=aD.giveSp a2 (zL (zL (zL l p) t) u) zt1
     replace a3:aD G d1 (box q 27 (zC c.1 h i e g)::aH 61 K e g c.1.E::box o 27 (zC d.1 m n j k)::L) r:=a3
     obtain ⟨d3,y,d4,a5⟩:=aD.giveSp a3 (zL (zL (zL (zL l p) t) u) x) zt1
     replace a5:aD G d3 (box q 27 (zC c.1 h i e g)::box o 27 (zC d.1 m n j k)::L) r:=a5
     obtain ⟨g6,d5,hm⟩:=aB hm
     refine bP call53 (aFT (a:=⟨d.1.N,d.1.I,d.1.L,d.1.E⟩) (b:=⟨c.1.N,c.1.I,c.1.L,c.1.E⟩) d5 a5 (c7.mono (zL (zL u x) y)) (d0.mono (zL x y)) (d2.mono y) d4) ?_
     rintro _ g7 ⟨d6,d7,d8,rfl,d9,e0,g8⟩
     refine aC ?_;obtain rfl:=zI hm
     exact kQ (retQ_3 results24 rfl rfl rfl ⟨d6,d7,d8,rfl,(zL (zL (zL (zL (zL (zL l p) t) u) x) y) d9),e0,oK⟩)
   exact aI
 exact aI
theorem aFo {a b:aO} {R:(Bool × (List aL) × Int)} (hm:rS a b=some R) (g:aD G K (L) w) (h:G.lo=0) (i:aT K a1 c2 a.L) (j:aT K a4 c5 a.E) (k:aT K a7 c8 b.L) (l:aT K a10 c11 b.E):
  Calls prog 9 ([zA (zCa a a1 c2 a4 c5),zA (zCa b a7 c8 a10 c11)]:List Value).toArray w (dO fun v w'=>∃ c d e,v=Value.tuple #[zB R.1,zS d R.2.1.length e,i64 R.2.2]/\Hp.le K c/\aT c d e R.2.1/\aD G c (L) w'):=by
 exact aI
theorem wD {a:(List aL)} {b:aL} {R:Bool} (hm:eR a b=some R) (c:aD G K (L) w) (d:aT K a1 c2 a):
  Calls prog 118 ([zS a1 a.length c2,str b]:List Value).toArray w (dO fun v w'=>v=zB R/\aD G K (L) w'):=by
 exact aI
theorem aJB {t:aO} {k:Int} {R:Bool} (hm:aBZ t k=some R) (a:aD G K (L) w) (b:aT K a1 c2 t.L) (c:aT K a4 c5 t.E):
  Calls prog 154 ([zA (zCa t a1 c2 a4 c5),i64 k]:List Value).toArray w (dO fun v w'=>v=zB R/\aD G K (L) w'):=by
 exact aI
theorem xF {k:Int} {p:aO} {a:Nat} {R:Bool} (hm:uS k p=some R) (b:aD G K (L) w) (c:cK K a1 a (zC p a4 c5 a7 c8)) (d:aT K a4 c5 p.L) (e:aT K a7 c8 p.E):
  Calls prog 153 ([i64 k,cU a1 a]:List Value).toArray w (dO fun v w'=>v=zB R/\aD G K (L) w'):=by
 exact aI
theorem lS {c:(List Int)} {a:aO} {b:Nat} {R:Int} (hm:dW c a=some R) (q:aD G K (L) w) (g:aT K a1 c2 c) (h:cK K a4 b (zC a a7 c8 a10 c11)) (i:aT K a7 c8 a.L) (j:aT K a10 c11 a.E):
  Calls prog 155 ([zS a1 c.length c2,Value.func (.func 153) #[] #[cU a4 b]]:List Value).toArray w (dO fun v w'=>v=i64 R/\aD G K (L) w'):=by
 refine cA func155 ?_;unfold dW at hm
 refine aC ?_;refine aJ [] (fun f w=>mS=some R/\aD G K (L) w) aI ?_
 obtain ⟨r,k,ho⟩:=aB hm
 refine eM [0,1,7] k (fun d f w=>f 8=i64 d/\aD G K (L) w) aI ?_
 ·rintro d t f u hm hr ⟨x,l⟩
  unfold cY at hm
  refine aC ?_
  rcases aG hm with ⟨m,hm⟩|⟨m,hm⟩
  ·refine aC ?_;refine bT (aC ?_)
   obtain ⟨e,n,hm⟩:=aB hm
   refine aC ?_;obtain ⟨y,z,o⟩:=aT.el (sz:=1) rfl g n
   cases o
   refine aC ?_;obtain ⟨V,p,hm⟩:=aB hm
   exact gR (vs:=[i64 e]) (caps:=[cU a4 b]) (us:=[i64 e,cU a4 b]) rfl call153 rfl rfl (xF p l h i j) aI
  ·exact aI
theorem mU {j:(List Int)} {a:aO} {b:Nat} {R:(List Int)} (hm:gB j a=some R) (hs:aD G K (aH 2 K a1 c2 j::L) w) (q:cK K a3 b (zC a a6 c7 a9 c10)) (r:aT K a6 c7 a.L) (u:aT K a9 c10 a.E):
  Calls prog 152 ([zS a1 j.length c2,Value.func (.func 153) #[] #[cU a3 b]]:List Value).toArray w (dO fun v w'=>∃ x y,v=zS x R.length y/\aD G K (aH 2 K x y R::L) w'):=by
 refine cA func152 ?_;unfold gB at hm
 refine aC ?_;obtain ⟨e3,k,b6,b7,b8⟩:=aD.lendSp hs (zR _) .head
 obtain ⟨e4,b9,hm⟩:=aB hm
 refine bP call155 (lS b9 b7 b6 (q.mono k) (r.mono k) (u.mono k)) ?_
 rintro _ e5 ⟨rfl,c0⟩
 have e6:=b8 _ _ c0
 refine aC ?_
 rcases aG hm with ⟨c1,hm⟩|⟨c1,hm⟩
 ·exact aI
 ·refine aC ?_;refine aJ [] (fun f w=>∃ c d,iU c d=some R/\f 0=zS a1 c.length c2/\f 5=i64 d/\aD G K (aH 2 K a1 c2 c::L) w) ?_ ?_
  ·rintro f e7 ⟨c,d,hm,c3,e8,z⟩
   unfold iU at hm
   refine aC ?_;obtain ⟨e9,c4,hm⟩:=aB hm
   have c5:=mX z (i:=0) rfl
   obtain ⟨f0,f1,V⟩:=Cut.ex 1 a1 c2 d
   refine aK (yR gD c5 V rfl rfl rfl c4) ?_;obtain ⟨Z,a0,hm⟩:=aB hm
   refine aGy gD aGc rfl z (i:=0) rfl V rfl rfl a0 (fun a2 (a4:aD G K (aH 2 K a1 c2 Z::L) a2)=>?_)
   iterate 4 refine eU ?_
   refine fO (v:=zS a1 Z.length c2) (Eq.trans c3 (congrArg (fun n=>zS a1 n c2) (aHk a0))) (aC ?_);obtain ⟨c6,a5,hm⟩:=aB hm
   have c8:=mX a4 (i:=0) rfl
   obtain ⟨c9,d0,a7⟩:=Cut.ex 1 a1 c2 0
   refine aK (aIk gD c8 a7 rfl rfl rfl a5) (aC ?_)
   have f2:aD G K (aH 2 K c9 d0 c6::L) a2:=aD.cutP a4 (i:=0) rfl a5 a7
   exact aI
  obtain ⟨f3,d1,ho⟩:=aB hm
  refine mA [1] d1 (fun l m o f w=>f 0=zS a1 l.length c2/\f 5=i64 m/\f 6=i64 o/\aD G K (aH 2 K a1 c2 l::L) w) aI ?_
  ·rintro l m o d2 f f4 hm hr ⟨d3,f5,f6,a8⟩
   unfold dN at hm
   refine aC ?_
   rcases aG hm with ⟨d4,hm⟩|⟨d4,hm⟩
   ·refine aC ?_;refine aJ [1,6] (fun f w=>∃ e p,dM o e p=some d2/\f 0=zS a1 e.length c2/\f 5=i64 p/\aD G K (aH 2 K a1 c2 e::L) w) ?_ ?_
    ·rintro f f7 ⟨e,p,hm,d5,d6,d7⟩
     unfold dM at hm
     refine aC ?_;exact ⟨_,(zI hm).symm,aU,d5,d6,rfl,d7⟩
    refine aC ?_;obtain ⟨g,b0,hm⟩:=aB hm
    have b1:=bY a8 (i:=0) rfl b0
    refine aK (cR gD rfl b1 rfl rfl rfl b0) (aC ?_);obtain ⟨f8,d8,hm⟩:=aB hm
    refine gR (vs:=[i64 g]) (caps:=[cU a3 b]) (us:=[i64 g,cU a3 b]) rfl call153 rfl rfl (xF d8 a8 q r u) ?_
    rintro _ f9 ⟨rfl,d9⟩
    refine aC ?_
    rcases aG hm with ⟨e0,hm⟩|⟨e0,hm⟩
    ·refine aC ?_;obtain ⟨g0,b2,hm⟩:=aB hm
     refine aK (cR gD rfl b1 rfl rfl rfl b2) ?_;obtain ⟨b3,b4,hm⟩:=aB hm
     refine lU (i:=0) (t:=0) (ns:=[i64 g]) (e':=(g:Int)) sizeOf2 d9 rfl (zR _) rfl rfl rfl b2 b4 rfl rfl (oR rfl) rfl (fun cs h=>by cases h;rfl) (fun e1 (e2:aD G K (aH 2 K a1 c2 b3::L) e1)=>(aC ?_));exact ⟨aU,b3,wr (m+1),hm,(Eq.trans d3 (congrArg (fun n=>zS a1 n c2) (gX b4))),rfl,e2⟩
    ·exact aI
   ·exact aI
theorem aCh {t:aO} {a R:(List Int)} (hm:yH t a=some R) (p:aD G K (L) w) (e:aT K a1 c2 t.L) (g:aT K a4 c5 t.E) (h:aT K a7 c8 a):
  Calls prog 106 ([zA (zCa t a1 c2 a4 c5),zS a7 a.length c8]:List Value).toArray w (dO fun v w'=>∃ b c,v=zS b R.length c/\aD G K (aH 2 K b c R::L) w'):=by
 refine cA func106 ?_;unfold yH at hm
 refine aC ?_;refine kN fun i q j=>?_
 refine aC ?_;obtain ⟨r,k,hm⟩:=aB hm
 refine bP call142 (jW k j h) ?_
 rintro _ u ⟨x,y,rfl,l⟩
 refine aK (kU (vs:=[zP (some ⟨i,0,none⟩)]) rfl) ?_;obtain ⟨z,d,m,n,V⟩:=aD.lendBp l zt1
 obtain ⟨Z,o,hm⟩:=aB hm
 exact bP call152 (mU o n m (e.mono d) (g.mono d)) aI
theorem aCi {a:aL} {p:(List aL)} {b:Nat} {R:Bool} (hm:aCa a p=some R) (c:aD G K (L) w) (d:cK K a1 b [zS a4 p.length c5]) (e:aT K a4 c5 p):
  Calls prog 117 ([str a,cU a1 b]:List Value).toArray w (dO fun v w'=>v=zB R/\aD G K (L) w'):=by
 exact aI
theorem mD {b c:(List aL)} {a:Nat} {R:Int} (hm:eI b c=some R) (p:aD G K (L) w) (g:aT K a1 c2 b) (h:cK K a4 a [zS a7 c.length c8]) (i:aT K a7 c8 c):
  Calls prog 159 ([zS a1 b.length c2,Value.func (.func 117) #[] #[cU a4 a]]:List Value).toArray w (dO fun v w'=>v=i64 R/\aD G K (L) w'):=by
 refine cA func159 ?_;unfold eI at hm
 refine aC ?_;refine aJ [] (fun f w=>nL=some R/\aD G K (L) w) aI ?_
 obtain ⟨q,j,ho⟩:=aB hm
 refine eM [0,1,7] j (fun d f w=>f 8=i64 d/\aD G K (L) w) aI ?_
 ·rintro d r f t hm hr ⟨u,k⟩
  unfold dF at hm
  refine aC ?_
  rcases aG hm with ⟨l,hm⟩|⟨l,hm⟩
  ·refine aC ?_;refine bT (aC ?_)
   obtain ⟨e,m,hm⟩:=aB hm
   refine aC ?_;obtain ⟨x,y,n⟩:=aT.el (sz:=1) rfl g m
   cases n
   refine aC ?_;obtain ⟨z,o,hm⟩:=aB hm
   exact gR (vs:=[str e]) (caps:=[cU a4 a]) (us:=[str e,cU a4 a]) rfl call117 rfl rfl (aCi o k h i) aI
  ·exact aI
theorem lT {g j:(List aL)} {a:Nat} {R:(List aL)} (hm:fL g j=some R) (hs:aD G K (aH 9 K a1 c2 g::L) w) (p:cK K a3 a [zS a6 j.length c7]) (q:aT K a6 c7 j):
  Calls prog 116 ([zS a1 g.length c2,Value.func (.func 117) #[] #[cU a3 a]]:List Value).toArray w (dO fun v w'=>∃ r u,v=zS r R.length u/\aD G K (aH 9 K r u R::L) w'):=by
 refine cA func116 ?_;unfold fL at hm
 refine aC ?_;obtain ⟨K9,x,b4,b5,b6⟩:=aD.lendSp hs (zR _) .head
 obtain ⟨e2,b7,hm⟩:=aB hm
 refine bP call159 (mD b7 b5 b4 (p.mono x) (q.mono x)) ?_
 rintro _ e3 ⟨rfl,b8⟩
 have e4:=b6 _ _ b8
 refine aC ?_
 rcases aG hm with ⟨b9,hm⟩|⟨b9,hm⟩
 ·exact aI
 ·refine aC ?_;refine aJ [] (fun f w=>∃ b c,gY b c=some R/\f 0=zS a1 b.length c2/\f 5=i64 c/\aD G K (aH 9 K a1 c2 b::L) w) ?_ ?_
  ·rintro f e5 ⟨b,c,hm,c0,e6,y⟩
   unfold gY at hm
   refine aC ?_;obtain ⟨e7,c1,hm⟩:=aB hm
   have c3:=mX y (i:=0) rfl
   obtain ⟨e8,e9,z⟩:=Cut.ex 1 a1 c2 c
   refine aK (yR dG c3 z rfl rfl rfl c1) ?_;obtain ⟨V,Z,hm⟩:=aB hm
   refine aGy dG zF rfl y (i:=0) rfl z rfl rfl Z (fun a0 (a2:aD G K (aH 9 K a1 c2 V::L) a0)=>?_)
   iterate 4 refine eU ?_
   refine fO (v:=zS a1 V.length c2) (Eq.trans c0 (congrArg (fun n=>zS a1 n c2) (aHk Z))) (aC ?_);obtain ⟨c4,a4,hm⟩:=aB hm
   have c5:=mX a2 (i:=0) rfl
   obtain ⟨c6,c8,a5⟩:=Cut.ex 1 a1 c2 0
   refine aK (aIk dG c5 a5 rfl rfl rfl a4) (aC ?_)
   have f0:aD G K (aH 9 K c6 c8 c4::L) a0:=aD.cutP a2 (i:=0) rfl a4 a5
   exact aI
  obtain ⟨f1,c9,ho⟩:=aB hm
  refine mA [1] c9 (fun k l m f w=>f 0=zS a1 k.length c2/\f 5=i64 l/\f 6=i64 m/\aD G K (aH 9 K a1 c2 k::L) w) aI ?_
  ·rintro k l m d0 f f2 hm hr ⟨d1,f3,f4,a7⟩
   unfold dA at hm
   refine aC ?_
   rcases aG hm with ⟨d2,hm⟩|⟨d2,hm⟩
   ·refine aC ?_;refine aJ [1,6] (fun f w=>∃ d o,cZ m d o=some d0/\f 0=zS a1 d.length c2/\f 5=i64 o/\aD G K (aH 9 K a1 c2 d::L) w) ?_ ?_
    ·rintro f f5 ⟨d,o,hm,d3,d4,d5⟩
     unfold cZ at hm
     refine aC ?_;exact ⟨_,(zI hm).symm,aU,d3,d4,rfl,d5⟩
    refine aC ?_;obtain ⟨e,a8,hm⟩:=aB hm
    have a9:=bY a7 (i:=0) rfl a8
    refine aK (cR dG rfl a9 rfl rfl rfl a8) (aC ?_);obtain ⟨f6,d6,hm⟩:=aB hm
    refine gR (vs:=[str e]) (caps:=[cU a3 a]) (us:=[str e,cU a3 a]) rfl call117 rfl rfl (aCi d6 a7 p q) ?_
    rintro _ f7 ⟨rfl,d7⟩
    refine aC ?_
    rcases aG hm with ⟨d8,hm⟩|⟨d8,hm⟩
    ·refine aC ?_;obtain ⟨f8,b0,hm⟩:=aB hm
     refine aK (cR dG rfl a9 rfl rfl rfl b0) ?_;obtain ⟨b1,b2,hm⟩:=aB hm
     refine lU (i:=0) (t:=0) (ns:=[str e]) (e':=(e:aL)) sizeOf9 d7 rfl (zR _) rfl rfl rfl b0 b2 rfl rfl (oR rfl) rfl (fun cs h=>by cases h;rfl) (fun d9 (e0:aD G K (aH 9 K a1 c2 b1::L) d9)=>(aC ?_));exact ⟨aU,b1,wr (l+1),hm,(Eq.trans d1 (congrArg (fun n=>zS a1 n c2) (gX b2))),rfl,e0⟩
    ·exact aI
   ·exact aI
theorem aIR {a b R:(List aL)} (hm:aBi a b=some R) (p:aD G K (L) w) (e:aT K a1 c2 a) (g:aT K a4 c5 b):
  Calls prog 64 ([zS a1 a.length c2,zS a4 b.length c5]:List Value).toArray w (dO fun v w'=>∃ c d,v=zS c R.length d/\aD G K (aH 9 K c d R::L) w'):=by
 refine cA func64 ?_;unfold aBi at hm
 refine aC ?_;refine kN fun h q i=>?_
 refine aC ?_;obtain ⟨r,j,hm⟩:=aB hm
 refine bP call86 (aX j i e) ?_
 rintro _ t ⟨u,x,rfl,k⟩
 refine aK (kU (vs:=[zP (some ⟨h,0,none⟩)]) rfl) ?_;obtain ⟨y,l,m,n,z⟩:=aD.lendBp k zt1
 obtain ⟨V,o,hm⟩:=aB hm
 exact bP call116 (lT o n m (g.mono l)) aI
theorem aGV {j:Int} {p:aO} {b:Nat} {a:(List aL)} {c:Nat} {R:Bool} (hm:aFO j p a=some R) (d:aD G K (L) w) (e:cK K a1 b (zC p a4 c5 a7 c8)) (g:aT K a4 c5 p.L) (h:aT K a7 c8 p.E) (i:cK K a10 c [zS a13 a.length c14]) (k:aT K a13 c14 a):
  Calls prog 107 ([i64 j,cU a1 b,cU a10 c]:List Value).toArray w (dO fun v w'=>v=zB R/\aD G K (L) w'):=by
 refine cA func107 ?_;unfold aFO at hm
 refine aC ?_;refine aBr [(0,0),(1,0),(3,0),(2,1),(4,1),(5,0),(6,0),(7,0)] fun l m=>?_
 exact aI
theorem uZ {d:(List Int)} {a:aO} {b:Nat} {e:(List aL)} {c:Nat} {R:Int} (hm:fM d a e=some R) (x:aD G K (L) w) (i:aT K a1 c2 d) (j:cK K a4 b (zC a a7 c8 a10 c11)) (k:aT K a7 c8 a.L) (l:aT K a10 c11 a.E) (m:cK K a13 c [zS a16 e.length c17]) (n:aT K a16 c17 e):
  Calls prog 155 ([zS a1 d.length c2,Value.func (.func 107) #[] #[cU a4 b,cU a13 c]]:List Value).toArray w (dO fun v w'=>v=i64 R/\aD G K (L) w'):=by
 refine cA func155 ?_;unfold fM at hm
 refine aC ?_;refine aJ [] (fun f w=>mT=some R/\aD G K (L) w) aI ?_
 obtain ⟨y,o,ho⟩:=aB hm
 refine eM [0,1,7] o (fun g f w=>f 8=i64 g/\aD G K (L) w) aI ?_
 ·rintro g z f V hm hr ⟨Z,p⟩
  unfold dB at hm
  refine aC ?_
  rcases aG hm with ⟨q,hm⟩|⟨q,hm⟩
  ·refine aC ?_;refine bT (aC ?_)
   obtain ⟨h,r,hm⟩:=aB hm
   refine aC ?_;obtain ⟨a0,a2,t⟩:=aT.el (sz:=1) rfl i r
   cases t
   refine aC ?_;obtain ⟨a3,u,hm⟩:=aB hm
   exact gR (vs:=[i64 h]) (caps:=[cU a4 b,cU a13 c]) (us:=[i64 h,cU a4 b,cU a13 c]) rfl call107 rfl rfl (aGV u p j k l m n) aI
  ·exact aI
theorem kI {b:(List Int)} {a:aO} {d:Nat} {c:(List aL)} {e:Nat} {R:Bool} (hm:eX b a c=some R) (g:aD G K (L) w) (h:aT K a1 c2 b) (i:cK K a4 d (zC a a7 c8 a10 c11)) (j:aT K a7 c8 a.L) (k:aT K a10 c11 a.E) (l:cK K a13 e [zS a16 c.length c17]) (m:aT K a16 c17 c):
  Calls prog 108 ([zS a1 b.length c2,Value.func (.func 107) #[] #[cU a4 d,cU a13 e]]:List Value).toArray w (dO fun v w'=>v=zB R/\aD G K (L) w'):=by
 exact aI
theorem aJW {a b:aO} {g h:(List Int)} {R:Int} (hm:aDt a b g h=some R) (hs:aD G K (L) w) (k:aT K a1 c2 a.L) (l:aT K a4 c5 a.E) (m:aT K a7 c8 b.L) (n:aT K a10 c11 b.E) (t:aT K a13 c14 g) (u:aT K a16 c17 h):
  Calls prog 60 ([zA (zCa a a1 c2 a4 c5),zA (zCa b a7 c8 a10 c11),zS a13 g.length c14,zS a16 h.length c17]:List Value).toArray w (dO fun v w'=>v=i64 R/\aD G K (L) w'):=by
 refine cA func60 ?_;unfold aDt at hm
 refine aC ?_;refine kN fun o d2 d3=>?_
 refine kN fun x d4 y=>?_;refine aC ?_
 obtain ⟨z,V,hm⟩:=aB hm
 refine bP call106 (aCh V y m n u) ?_
 rintro _ d5 ⟨Z,a0,rfl,d6⟩
 refine aC ?_;refine aJ [] (fun f w=>aMy=some R/\aD G K (L) w) aI ?_
 obtain ⟨d7,a2,ho⟩:=aB hm
 refine eM [2,4,5,15,16] a2 (fun p f w=>f 17=i64 p/\aD G K (aH 2 K Z a0 z::box x 27 (zC b a7 c8 a10 c11)::box o 27 (zC a a1 c2 a4 c5)::L) w) aI ?_
 ·rintro p d8 f d9 hm hr ⟨a3,q⟩
  unfold aDs at hm
  refine aC ?_
  rcases aG hm with ⟨a5,hm⟩|⟨a5,hm⟩
  ·refine aC ?_;refine bT (aC ?_)
   obtain ⟨e0,r,hm⟩:=aB hm
   have a6:=bY q (i:=0) rfl r
   refine aK (cR gD rfl a6 rfl rfl a3 r) (aC ?_);obtain ⟨e1,a8,hm⟩:=aB hm
   refine bP call65 (gC a8 q m n) ?_
   rintro _ e2 ⟨e3,e4,rfl,e5⟩
   refine jH fun a9 e6 e7=>?_;refine kM fun e8 b0=>?_
   iterate 4 refine eU ?_
   refine aK (kU (vs:=[zP (some ⟨o,0,none⟩),zP (some ⟨a9,0,none⟩)]) rfl) (aC ?_);obtain ⟨e9,b1,hm⟩:=aB hm
   refine bP call106 (aCh b1 b0 k l t) ?_
   rintro _ f0 ⟨f1,f2,rfl,b2⟩
   refine aC ?_;obtain ⟨f3,j,b3,b4,f4⟩:=aD.lendSp b2 (zR _) .head
   obtain ⟨f5,d,b5,b6,b7⟩:=aD.lendBp b4 zt4
   obtain ⟨f6,e,b8,b9,c0⟩:=aD.lendSp b6 (zL j d) zt1
   obtain ⟨f7,c,c1,c3,c4⟩:=aD.lendBp b9 .head
   obtain ⟨f8,c6,hm⟩:=aB hm
   refine bP call108 (kI c6 c3 (b3.mono (zL (zL d e) c)) (b5.mono (zL e c)) (k.mono (zL (zL (zL j d) e) c)) (l.mono (zL (zL (zL j d) e) c)) c1 (b8.mono c)) ?_
   rintro _ f9 ⟨rfl,c7⟩
   have c9:=c4 _ _ c7
   have d0:=c0 _ _ c9
   have g0:=b7 _ _ d0
   exact aI
  ·exact aI
theorem aCD {t:aO} {a:(List aL)} {R:(List Int)} (hm:oW t a=some R) (V:aD G K (L) w) (l:aT K a1 c2 t.L) (m:aT K a4 c5 t.E) (Z:aT K a7 c8 a):
  Calls prog 61 ([zA (zCa t a1 c2 a4 c5),zS a7 a.length c8]:List Value).toArray w (dO fun v w'=>∃ c d,v=zS c R.length d/\aD G K (aH 2 K c d R::L) w'):=by
 refine cA func61 ?_;unfold oW at hm
 refine aC ?_;refine kN fun n a0 a2=>?_
 refine aC ?_;refine nE ([t.I]:List Int) fun a3 a5 o=>?_
 obtain ⟨a6,e,p,q,r⟩:=aD.lendSp o (zR _) .head
 obtain ⟨a8,u,hm⟩:=aB hm
 refine bP call96 (sD u q (l.mono e) (m.mono e) p) ?_
 rintro _ a9 ⟨b0,b1,rfl,x⟩
 have b2:=r _ _ x
 refine aC ?_;refine aJ [] (fun f w=>∃ b g h,aIA b=some R/\f 5=zS g b.length h/\aD G K (aH 2 K g h b::L) w) aI ?_
 obtain ⟨b3,y,ho⟩:=aB hm
 exact aY [2,13,14] y (fun i z f w=>∃ j k,f 5=zS j i.length k/\f 15=i64 z/\aD G K (aH 2 K j k i::box n 27 (zC t a1 c2 a4 c5)::L) w) aI aI
theorem aDA {p q:Int} {a:aO} {e:Nat} {b:aO} {g:Nat} {c:(List (List Int))} {h:Nat} {d:(List (List Int))} {i:Nat} {R:Bool} (hm:oE p q a b c d=some R) (k:aD G K (L) w) (l:cK K a1 e (zC a a4 c5 a7 c8)) (m:aT K a4 c5 a.L) (n:aT K a7 c8 a.E) (o:cK K a10 g (zC b a13 c14 a16 c17)) (r:aT K a13 c14 b.L) (t:aT K a16 c17 b.E) (u:cK K a19 h [zS a22 c.length c23]) (x:aT K a22 c23 c) (y:cK K a25 i [zS a28 d.length c29]) (z:aT K a28 c29 d):
  Calls prog 59 ([i64 p,i64 q,cU a1 e,cU a10 g,cU a19 h,cU a25 i]:List Value).toArray w (dO fun v w'=>v=zB R/\aD G K (L) w'):=by
 refine cA func59 ?_;unfold oE at hm
 refine aC ?_;exact bG [] (fun f w=>∃ j,pQ j=some R/\f 8=zB j/\aD G K (L) w) aI aI
end Gv
