/- Walks, printed by program. -/
import Derived.Test.YtnelhgfdoneljaaGreatDoorJWk5
set_option linter.all false
namespace Gv
open Gv.Hp renaming le_refl→zR
open Go.Value renaming slice→zS,bool→zB,pointer→zP
open Option.some renaming inj→zI
open Gv.Hp renaming le_trans→zL
open Go Go.Proofs Go.Proofs.Tryz
set_option maxRecDepth 20000
set_option maxHeartbeats 40000000
variable {G:tO} {K:Hp} {L:List fJ} {w:World} {a1 a4 a7 a10 a13 a16 a19 a22 a25 a2:Option Addr} {c5 c8 c11 c14 c17 c26 c20 c2 b1 c3:Nat}
theorem wX {x_:eO} {j:Nat} {Z:Int} {l:Nat} {R:(List Bool)} (hm:nI x_ Z=some R) (hs:aF G K (L) w) (k:dT K a1 j [zS a4 x_.g.length c5,zS a7 x_.back.length c8,zS a10 x_.in_.length c11]) (h6:bL K a4 c5 x_.g) (h9:bL K a7 c8 x_.back) (a2:bL K a10 c11 x_.in_) (b3:dT K a13 l [i64 Z]):
  Calls prog 83 ([bY a1 j,Value.func (.func 122) #[] #[bY a13 l]]:List Value).toArray w (eC fun v w'=>∃ a3 a5,v=zS a3 R.length a5/\aF G K (own 4 K a3 a5 R::L) w'):=by
 refine aN func83 rfl (by kernel_rfl) (by show (2:Nat)<=35;decide) ?_;unfold nI at hm
 refine aJ (aI (v:=zS none 0 0) (aH (aJ (aG (v:=bY a1 j) (aD (cQ rfl k) (aD (cJ (k':=j+0) pY rfl k rfl) (aD (aU (t:=0) aBh hs k rfl rfl) (aD (bC (len:=x_.g.length) vV rfl) ?_))))))));obtain ⟨a,b4,hm⟩:=aB hm
 refine xD (e:=(false:Bool)) cS aFu rfl rfl hs rfl rfl rfl b4 rfl (fun b b5 (b6:aF G K (own 4 K b a.length a::L) b5)=>(aI (v:=zS b a.length a.length) (aH (aK (aJ (aG (v:=bY a1 j) (aD (cQ rfl k) (aD (cJ (k':=j+2) tT rfl k rfl) (aD (aU (t:=2) aBi b6 k rfl rfl) (aD (bC (len:=x_.in_.length) cS rfl) (aG (v:=i64 0) (aH (aO [] (fun f w=>∃ q,zW q=some R/\f 5=zS b q.length a.length/\aF G K (own 4 K b a.length q::L) w) aM ?_)))))))))))))
 obtain ⟨d4,b7,ho⟩:=aB hm
 refine bO [1,17,18] b7 (fun r c f w=>f 5=zS b r.length a.length/\f 19=i64 c/\aF G K (own 4 K b a.length r::L) w) aM ?_
 ·rintro r c b8 f d5 hm hr ⟨u,m,o⟩
  unfold fT at hm
  refine aJ (aD (cK m rfl) (aH (aK ?_)))
  rcases aL hm with ⟨c48,hm⟩|⟨c48,hm⟩
  ·refine aR c48 rfl (aW (aC (aK (cD (aJ (aY m ?_))))));obtain ⟨x,a6,hm⟩:=aB hm
   refine aD (dM cS rfl a2 rfl rfl m a6) ?_;obtain ⟨d6,b9,c0⟩:=bL.el (sz:=1) rfl a2 a6
   cases c0
   refine aD (aU (t:=0) aDv o b9 rfl rfl) (aI (v:=i64 c) (aI (v:=zB x) (aH (bP [1,17,18,19] (fun f w=>∃ p,jX c p=some b8/\f 5=zS b p.length a.length/\aF G K (own 4 K b a.length p::L) w) ?_ ?_))))
   ·rintro f d7 ⟨p,hm,c1,c2⟩
    unfold jX at hm
    exact cH (aC (aS (aD (cN m rfl) (aG (v:=i64 (wr (c+1))) (aH ⟨_,(zI hm).symm,bF,c1,rfl,c2⟩)))))
   refine aS (aY u (aG (v:=i64 c) (aG (v:=zB x) (aG (v:=zB x) ?_))))
   rcases aL hm with ⟨d,hm⟩|⟨d,hm⟩
   ·refine cO d rfl rfl (aG (v:=Value.func (.func 122) #[] #[bY a13 l]) (cO d rfl rfl (aG (v:=i64 c) (cO d rfl rfl ?_))));obtain ⟨y,c3,hm⟩:=aB hm
    refine mT (vs:=[i64 c]) (caps:=[bY a13 l]) (us:=[i64 c,bY a13 l]) rfl call122 rfl rfl (aAG c3 o b3) ?_
    rintro _ d8 ⟨rfl,a8⟩
    refine aD (eX (v:=zB y) d rfl rfl) ?_;obtain ⟨d9,z,hm⟩:=aB hm
    have c4:=cA a8 (i:=0) rfl z
    refine aD (cM cS rfl c4 rfl rfl rfl z) ?_;obtain ⟨a9,b0,hm⟩:=aB hm
    exact gA (i:=0) (t:=0) (ns:=[zB y]) (e':=(y:Bool)) sizeOf4 a8 rfl (zR _) rfl rfl rfl z b0 rfl rfl (eV rfl) rfl (fun cs h=>by cases h;rfl) (fun c6 (c7:aF G K (own 4 K b a.length a9::L) c6)=>(aH ⟨bF,a9,hm,(Eq.trans u (congrArg (fun n=>zS b n a.length) (eL b0))),c7⟩))
   ·refine dU d rfl rfl (dU d rfl rfl (dU d rfl rfl (aD (fF (v:=zB false) d rfl rfl) ?_)));obtain ⟨e0,J,hm⟩:=aB hm
    have c9:=cA o (i:=0) rfl J
    refine aD (cM cS rfl c9 rfl rfl rfl J) ?_;obtain ⟨b1,b2,hm⟩:=aB hm
    exact gA (i:=0) (t:=0) (ns:=[zB false]) (e':=(false:Bool)) sizeOf4 o rfl (zR _) rfl rfl rfl J b2 rfl rfl (eV rfl) rfl (fun cs h=>by cases h;rfl) (fun d0 (d1:aF G K (own 4 K b a.length b1::L) d0)=>(aH ⟨bF,b1,hm,(Eq.trans u (congrArg (fun n=>zS b n a.length) (eL b2))),d1⟩))
  ·exact aM
theorem aAH {k:Int} {p:(List Bool)} {o:Nat} {d:Int} {q:Nat} {j:(List Bool)} {r:Nat} {R:Bool} (hm:rX k p d j=some R) (b:aF G K (L) w) (l:dT K a1 o [zS a4 p.length c5]) (e:bL K a4 c5 p) (z:dT K a7 q [i64 d]) (J:dT K a10 r [zS a13 j.length c14]) (u:bL K a13 c14 j):
  Calls prog 123 ([i64 k,bY a1 o,bY a7 q,bY a10 r]:List Value).toArray w (eC fun v w'=>v=zB R/\aF G K (L) w'):=by
 refine aN func123 rfl (by kernel_rfl) (by show (4:Nat)<=27;decide) ?_;unfold rX at hm
 refine aJ (aI (v:=zB false) (aH (aK (bP [] (fun f w=>∃ x,nJ x=some R/\f 5=zB x/\aF G K (L) w) aM (aS (aD (aU (t:=0) aBi b l rfl rfl) (aG (v:=i64 k) ?_)))))));obtain ⟨m,h,hm⟩:=aB hm
 refine aD (dM cS rfl e rfl rfl rfl h) ?_;obtain ⟨a3,n,Z⟩:=bL.el (sz:=1) rfl e h
 cases Z
 refine aD (aU (t:=0) aDv b n rfl rfl) (aG (v:=zB m) ?_)
 rcases aL hm with ⟨a,hm⟩|⟨a,hm⟩
 ·refine cO a rfl rfl (aD (aU (t:=0) cR b z rfl rfl) (cO a rfl rfl (aD (qS rfl rfl) (aD (eX (v:=zB (d == 0)) a rfl rfl) (aG (v:=zB (d == 0)) ?_)))))
  rcases aL hm with ⟨c,hm⟩|⟨c,hm⟩
  ·exact aM
  ·exact cU c rfl rfl (aD (aU (t:=0) aBi b l rfl rfl) (cU c rfl rfl (aG (v:=i64 k) (cU c rfl rfl (aD (dM cS rfl e rfl rfl rfl h) (cU c rfl rfl (aD (aU (t:=0) aDv b n rfl rfl) (cU c rfl rfl (aD (aDH rfl) (cU c rfl rfl (aG (v:=zB (!m)) (dU (aEe a) rfl rfl (dU (aEe a) rfl rfl (dU (aEe a) rfl rfl (dU (aEe a) rfl rfl (cU c rfl rfl (aD (fF (v:=zB false) (aEe a) rfl rfl) (aD (fF (v:=zB false) c rfl rfl) (aI (v:=zB false) (aH ⟨bF,false,hm,rfl,b⟩))))))))))))))))))))
 ·refine dU a rfl rfl (dU a rfl rfl (aD (fF (v:=zB false) a rfl rfl) (aG (v:=zB false) (cU (by decide:¬ false=true) rfl rfl (aD (aU (t:=0) aBi b l rfl rfl) (cU (by decide:¬ false=true) rfl rfl (aG (v:=i64 k) (cU (by decide:¬ false=true) rfl rfl (aD (dM cS rfl e rfl rfl rfl h) (cU (by decide:¬ false=true) rfl rfl (aD (aU (t:=0) aDv b n rfl rfl) (cU (by decide:¬ false=true) rfl rfl (aD (aDH rfl) (cU (by decide:¬ false=true) rfl rfl (aG (v:=zB (!m)) (cO (aCS a) rfl rfl (aD (aU (t:=0) aBi b J rfl rfl) (cO (aCS a) rfl rfl (aG (v:=i64 k) (cO (aCS a) rfl rfl ?_))))))))))))))))))))
  obtain ⟨i,y,hm⟩:=aB hm
  refine aD (dM cS rfl u rfl rfl rfl y) ?_;obtain ⟨a5,a0,a2⟩:=bL.el (sz:=1) rfl u y
  cases a2
  exact cO (aCS a) rfl rfl (aD (aU (t:=0) aDv b a0 rfl rfl) (cU (by decide:¬ false=true) rfl rfl (aD (eX (v:=zB i) (aCS a) rfl rfl) (aD (fF (v:=zB i) (by decide:¬ false=true) rfl rfl) (aI (v:=zB i) (aH ⟨bF,i,hm,rfl,b⟩))))))
theorem wY {x_:eO} {j:Nat} {u:(List Bool)} {l:Nat} {a5:Int} {m:Nat} {x:(List Bool)} {o:Nat} {R:(List Bool)} (hm:nK x_ u a5 x=some R) (hs:aF G K (L) w) (k:dT K a1 j [zS a4 x_.g.length c5,zS a7 x_.back.length c8,zS a10 x_.in_.length c11]) (h6:bL K a4 c5 x_.g) (h9:bL K a7 c8 x_.back) (a8:bL K a10 c11 x_.in_) (b8:dT K a13 l [zS a16 u.length c17]) (b9:bL K a16 c17 u) (c0:dT K a19 m [i64 a5]) (c1:dT K a22 o [zS a25 x.length c26]) (c2:bL K a25 c26 x):
  Calls prog 83 ([bY a1 j,Value.func (.func 123) #[] #[bY a13 l,bY a19 m,bY a22 o]]:List Value).toArray w (eC fun v w'=>∃ a9 b0,v=zS a9 R.length b0/\aF G K (own 4 K a9 b0 R::L) w'):=by
 refine aN func83 rfl (by kernel_rfl) (by show (2:Nat)<=35;decide) ?_;unfold nK at hm
 refine aJ (aI (v:=zS none 0 0) (aH (aJ (aG (v:=bY a1 j) (aD (cQ rfl k) (aD (cJ (k':=j+0) pY rfl k rfl) (aD (aU (t:=0) aBh hs k rfl rfl) (aD (bC (len:=x_.g.length) vV rfl) ?_))))))));obtain ⟨a,c3,hm⟩:=aB hm
 refine xD (e:=(false:Bool)) cS aFu rfl rfl hs rfl rfl rfl c3 rfl (fun b c4 (c6:aF G K (own 4 K b a.length a::L) c4)=>(aI (v:=zS b a.length a.length) (aH (aK (aJ (aG (v:=bY a1 j) (aD (cQ rfl k) (aD (cJ (k':=j+2) tT rfl k rfl) (aD (aU (t:=2) aBi c6 k rfl rfl) (aD (bC (len:=x_.in_.length) cS rfl) (aG (v:=i64 0) (aH (aO [] (fun f w=>∃ y,zX y=some R/\f 5=zS b y.length a.length/\aF G K (own 4 K b a.length y::L) w) aM ?_)))))))))))))
 obtain ⟨e3,c7,ho⟩:=aB hm
 refine bO [1,17,18] c7 (fun z c f w=>f 5=zS b z.length a.length/\f 19=i64 c/\aF G K (own 4 K b a.length z::L) w) aM ?_
 ·rintro z c c9 f e4 hm hr ⟨J,p,q⟩
  unfold fU at hm
  refine aJ (aD (cK p rfl) (aH (aK ?_)))
  rcases aL hm with ⟨b1,hm⟩|⟨b1,hm⟩
  ·refine aR b1 rfl (aW (aC (aK (cD (aJ (aY p ?_))))));obtain ⟨Z,b2,hm⟩:=aB hm
   refine aD (dM cS rfl a8 rfl rfl p b2) ?_;obtain ⟨e5,d0,d1⟩:=bL.el (sz:=1) rfl a8 b2
   cases d1
   refine aD (aU (t:=0) aDv q d0 rfl rfl) (aI (v:=i64 c) (aI (v:=zB Z) (aH (bP [1,17,18,19] (fun f w=>∃ r,jY c r=some c9/\f 5=zS b r.length a.length/\aF G K (own 4 K b a.length r::L) w) ?_ ?_))))
   ·rintro f e6 ⟨r,hm,d2,d3⟩
    unfold jY at hm
    exact cH (aC (aS (aD (cN p rfl) (aG (v:=i64 (wr (c+1))) (aH ⟨_,(zI hm).symm,bF,d2,rfl,d3⟩)))))
   refine aS (aY J (aG (v:=i64 c) (aG (v:=zB Z) (aG (v:=zB Z) ?_))))
   rcases aL hm with ⟨d,hm⟩|⟨d,hm⟩
   ·refine cO d rfl rfl (aG (v:=Value.func (.func 123) #[] #[bY a13 l,bY a19 m,bY a22 o]) (cO d rfl rfl (aG (v:=i64 c) (cO d rfl rfl ?_))));obtain ⟨a0,d4,hm⟩:=aB hm
    refine mT (vs:=[i64 c]) (caps:=[bY a13 l,bY a19 m,bY a22 o]) (us:=[i64 c,bY a13 l,bY a19 m,bY a22 o]) rfl call123 rfl rfl (aAH d4 q b8 b9 c0 c1 c2) ?_
    rintro _ e7 ⟨rfl,b3⟩
    refine aD (eX (v:=zB a0) d rfl rfl) ?_;obtain ⟨e8,a2,hm⟩:=aB hm
    have d5:=cA b3 (i:=0) rfl a2
    refine aD (cM cS rfl d5 rfl rfl rfl a2) ?_;obtain ⟨b4,b5,hm⟩:=aB hm
    exact gA (i:=0) (t:=0) (ns:=[zB a0]) (e':=(a0:Bool)) sizeOf4 b3 rfl (zR _) rfl rfl rfl a2 b5 rfl rfl (eV rfl) rfl (fun cs h=>by cases h;rfl) (fun d6 (d7:aF G K (own 4 K b a.length b4::L) d6)=>(aH ⟨bF,b4,hm,(Eq.trans J (congrArg (fun n=>zS b n a.length) (eL b5))),d7⟩))
   ·refine dU d rfl rfl (dU d rfl rfl (dU d rfl rfl (aD (fF (v:=zB false) d rfl rfl) ?_)));obtain ⟨e9,a3,hm⟩:=aB hm
    have d8:=cA q (i:=0) rfl a3
    refine aD (cM cS rfl d8 rfl rfl rfl a3) ?_;obtain ⟨b6,b7,hm⟩:=aB hm
    exact gA (i:=0) (t:=0) (ns:=[zB false]) (e':=(false:Bool)) sizeOf4 q rfl (zR _) rfl rfl rfl a3 b7 rfl rfl (eV rfl) rfl (fun cs h=>by cases h;rfl) (fun d9 (e0:aF G K (own 4 K b a.length b6::L) d9)=>(aH ⟨bF,b6,hm,(Eq.trans J (congrArg (fun n=>zS b n a.length) (eL b7))),e0⟩))
  ·exact aM
theorem aBL {rec_:eO->Option (List Bool)} (ih:∀ {G:tO} {K:Hp} {L:List fJ} {w:World} {x_:eO} {a1:Option Addr} {b:Nat} {a4:Option Addr} {c5:Nat} {a7:Option Addr} {c8:Nat} {a10:Option Addr} {c11:Nat} {R:(List Bool)} (hm:rec_ x_=some R) (hs:aF G K (L) w) (c:dT K a1 b [zS a4 x_.g.length c5,zS a7 x_.back.length c8,zS a10 x_.in_.length c11]) (d:bL K a4 c5 x_.g) (m:bL K a7 c8 x_.back) (p:bL K a10 c11 x_.in_),
  Calls prog 87 ([bY a1 b]:List Value).toArray w (eC fun v w'=>∃ d3 d4,v=zS d3 R.length d4/\aF G K (own 4 K d3 d4 R::L) w'))
  {G:tO} {K:Hp} {L:List fJ} {w:World} {x_:eO} {a1:Option Addr} {b:Nat} {a4:Option Addr} {c5:Nat} {a7:Option Addr} {c8:Nat} {a10:Option Addr} {c11:Nat} {R:(List Bool)} (hm:uF rec_ x_=some R) (hs:aF G K (L) w) (c:dT K a1 b [zS a4 x_.g.length c5,zS a7 x_.back.length c8,zS a10 x_.in_.length c11]) (d:bL K a4 c5 x_.g) (m:bL K a7 c8 x_.back) (p:bL K a10 c11 x_.in_):
  Calls prog 87 ([bY a1 b]:List Value).toArray w (eC fun v w'=>∃ d3 d4,v=zS d3 R.length d4/\aF G K (own 4 K d3 d4 R::L) w'):=by
 refine aN func87 rfl (by kernel_rfl) (by show (1:Nat)<=88;decide) ?_;unfold uF at hm
 refine aJ (gF (v:=bY a1 b) (vs:=[bY a1 b]) hs rfl rfl (fun j z2 e8=>(aI (v:=zS none 0 0) (aH (aJ (aD (eM tF e8 (i:=0) rfl rfl rfl) (aD (cQ rfl c) (aD (cJ (k':=b+2) tT rfl c rfl) (aD (aU (t:=2) aBi e8 c rfl rfl) ?_)))))))));obtain ⟨q,k6,hm⟩:=aB hm
 refine aP (vs:=[zS a10 x_.in_.length c11]) call24 rfl (aCJ k6 e8 p) ?_
 rintro _ z3 ⟨a5,a6,rfl,d9⟩
 refine aI (v:=zS a5 q.length a6) (aH (aK (aJ (aG (v:=zS a5 q.length a6) (aD (bC (len:=q.length) bN rfl) (aD (qS rfl rfl) (aH ?_)))))))
 rcases aL hm with ⟨e9,hm⟩|⟨e9,hm⟩
 ·refine aR e9 rfl (aJ (aD (eM tF d9 (i:=1) rfl rfl rfl) (aD (cQ rfl c) (aD (cJ (k':=b+0) pY rfl c rfl) (aD (aU (t:=0) aBh d9 c rfl rfl) (aD (bC (len:=x_.g.length) vV rfl) ?_))))));obtain ⟨d5,k7,hm⟩:=aB hm
  refine xD (e:=(false:Bool)) cS aFu rfl rfl d9 rfl rfl rfl k7 rfl (fun f0 k8 (k9:aF G K (own 4 K f0 d5.length d5::own 2 K a5 a6 q::box j 113 [bY a1 b]::L) k8)=>(aI (v:=zS f0 d5.length d5.length) (aH ?_)));obtain rfl:=zI hm
  exact tC (mG (pJ results87 rfl ⟨f0,d5.length,rfl,(aF.arr 3 [0] k9 rfl)⟩))
 ·refine bG e9 rfl (aW (aC (aK ?_)));obtain ⟨z4,c4,h5,l1,l2⟩:=aF.lendSp d9 (zR _) .head
  obtain ⟨l3,a8,l4,h7,l5⟩:=aF.lendBp l1 .head
  refine cV (C:=fun w'=>∃ L',aF G l3 L' w') [(0,0),(1,0),(2,0),(3,0),(4,0),(5,0),(6,0),(7,0),(8,0),(9,0),(10,1),(11,2)] Tryz_mixed (by kernel_rfl) (fun _ hg=>⟨_,aF.mono h7 hg⟩) (fun z5 l6=>?_)
  have x:=aF.mono h7 l6
  refine bE rfl (fun _ ⟨_,x⟩=>aU (t:=0) tF x l4 rfl rfl) (bE rfl (fun _ _=>cQ rfl (c.mono (zL c4 a8))) (bE rfl (fun _ _=>cJ (k':=b+0) pY rfl (c.mono (zL c4 a8)) rfl) (bE rfl (fun _ ⟨_,x⟩=>aU (t:=0) aBh x (c.mono (zL c4 a8)) rfl rfl) (bE rfl (fun _ _=>aT (v:=zS a5 q.length a6) rfl) ?_))));obtain ⟨l7,f1,hm⟩:=aB hm
  have h8:=aFe (h5.mono a8) f1
  refine bE rfl (fun _ _=>cM bN rfl h8 rfl rfl rfl f1) ?_;obtain ⟨z6,l8,l9⟩:=bL.el (sz:=1) rfl (h5.mono a8) f1
  cases l9
  refine bE rfl (fun _ ⟨_,x⟩=>aU (t:=0) cR x l8 rfl rfl) ?_;obtain ⟨f2,i0,hm⟩:=aB hm
  refine bE rfl (fun _ _=>dM vV rfl (d.mono (zL c4 a8)) rfl rfl rfl i0) ?_;obtain ⟨z7,i1,m0⟩:=bL.el (sz:=3) rfl d i0
  obtain ⟨z8,z9,rfl,h56⟩:=m0
  refine bE rfl (fun _ _=>cJ (k':=l7.toNat * 3+1) aGv rfl (i1.mono (zL c4 a8)) rfl) (bE rfl (fun _ ⟨_,x⟩=>aU (t:=1) cR x (i1.mono (zL c4 a8)) rfl rfl) (nT rfl (bV (vs:=[i64 0]) zeroValue2 x rfl (fun n w58 i2=>(aV (aC ⟨⟨_,i2⟩,?_⟩))))))
  have m1:=l5 _ _ i2
  have m2:=l2 _ _ m1
  refine WE_s rfl (dJ (i:=2) (ns:=[i64 f2.Priority]) (us:=[i64 f2.Priority]) sizeOf2 m2 rfl rfl rfl rfl rfl (eV rfl) rfl rfl (fun m3 (m4:aF G K (own 2 K a5 a6 q::box j 113 [bY a1 b]::box n 2 [i64 f2.Priority]::L) m3)=>(aH (xI (aC (aK (aJ (aG (v:=zS a5 q.length a6) (aD (bC (len:=q.length) bN rfl) (aG (v:=i64 0) (aH (aO [1,4] (fun f w=>∃ y,rY rec_ x_ y=some R/\aF G K (box j 113 [bY a1 b]::box n 2 [i64 y]::L) w) ?_ ?_))))))))))))
  ·rintro f w65 ⟨y,hm,i3⟩
   unfold rY at hm
   refine aC (aJ (aD (eM cR i3 (i:=1) rfl rfl rfl) ?_));obtain ⟨r,m5,hm⟩:=aB hm
   refine aD (R_rem rfl rfl m5) (bV (vs:=[i64 0]) zeroValue2 i3 rfl (fun o w70 m6=>(dJ (i:=0) (ns:=[i64 r]) (us:=[i64 r]) sizeOf2 m6 rfl rfl rfl rfl rfl (eV rfl) rfl rfl (fun m7 (m8:aF G K (box o 2 [i64 r]::box j 113 [bY a1 b]::box n 2 [i64 y]::L) m7)=>(aH (aK ?_))))));obtain ⟨K74,k,m9,n0,n1⟩:=aF.lendBp m8 .head
   obtain ⟨n2,h,f3,i4,n3⟩:=aF.lendBp n0 .head
   refine cV (C:=fun w'=>∃ L',aF G n2 L' w') [(0,0),(1,0),(2,0),(3,0),(4,1),(5,1),(6,0)] Tryz_mixed (by kernel_rfl) (fun _ hg=>⟨_,aF.mono i4 hg⟩) (fun w84 n4=>?_)
   have b6:=aF.mono i4 n4
   refine bE rfl (fun _ ⟨_,b6⟩=>aU (t:=0) tF b6 f3 rfl rfl) (bE rfl (fun _ ⟨_,b6⟩=>aU (t:=0) cR b6 (m9.mono h) rfl rfl) (bE rfl (fun _ ⟨_,b6⟩=>aU (t:=0) tF b6 f3 rfl rfl) (bE rfl (fun _ _=>pK (vs:=[zP (some ⟨j,0,none⟩),zP (some ⟨n,0,none⟩)]) rfl) (nT rfl ?_))));obtain ⟨K88,z,n5,n6,n7⟩:=aF.lendBp b6 .head
   obtain ⟨c6,n8,hm⟩:=aB hm
   refine aP (vs:=[bY a1 b,Value.func (.func 119) #[] #[bY (some ⟨j,0,none⟩) 0,bY (some ⟨n,0,none⟩) 0]]) call83 rfl (aAE n8 n6 (c.mono (zL (zL k h) z)) (d.mono (zL (zL k h) z)) (m.mono (zL (zL k h) z)) (p.mono (zL (zL k h) z)) (f3.mono z) (c.mono (zL (zL k h) z)) (d.mono (zL (zL k h) z)) (m.mono (zL (zL k h) z)) (p.mono (zL (zL k h) z)) n5) ?_
   rintro _ w97 ⟨c7,c9,rfl,n9⟩
   have i5:=n7 _ _ n9
   refine aV (aC ⟨⟨_,i5⟩,?_⟩)
   refine nT rfl ?_;obtain ⟨a08,e0,o0,o1,o2⟩:=aF.lendSp i5 (zL k h) zt1
   obtain ⟨f4,o3,hm⟩:=aB hm
   refine aP (vs:=[bY a1 b,i64 r,zS c7 c6.length c9]) call85 rfl (kA o3 o1 (c.mono (zL (zL k h) e0)) (d.mono (zL (zL k h) e0)) (m.mono (zL (zL k h) e0)) (p.mono (zL (zL k h) e0)) o0) ?_
   rintro _ o4 ⟨f5,f6,rfl,o5⟩
   have i6:=o2 _ _ o5
   refine aV (aC ⟨⟨_,i6⟩,?_⟩)
   refine bE rfl (fun _ _=>eE (v:=zS f5 f4.length f6) rfl) (xI ?_)
   have o6:=n3 _ _ i6
   have i7:=n1 _ _ o6
   refine aC (aJ (aD (eM tF i7 (i:=1) rfl rfl rfl) (aG (v:=zS f5 f4.length f6) ?_)));obtain ⟨f7,a,o7,f8⟩:=aF.giveSp i7 (zR _) zt3
   replace f8:aF G f7 (box o 2 [i64 r]::box j 113 [bY a1 b]::own 4 K c7 c9 c6::box n 2 [i64 y]::L) o4:=f8
   obtain ⟨u,o8,hm⟩:=aB hm
   refine aP (vs:=[bY a1 b,zS f5 f4.length f6]) call86 rfl (kB o8 f8 (c.mono a) (d.mono a) (m.mono a) (p.mono a) o7) ?_
   rintro _ a09 ⟨a9,b0,J,rfl,o9⟩
   refine aI (v:=zP (some ⟨J,0,none⟩)) (aH (aJ (aG (v:=zP (some ⟨J,0,none⟩)) ?_)));obtain ⟨a11,i8,p0,p1,p2⟩:=aF.lendSp o9 a .head
   obtain ⟨a12,f9,p3,p4,p5⟩:=aF.lendBp p1 .head
   obtain ⟨Z,p6,hm⟩:=aB hm
   refine aP (vs:=[bY (some ⟨J,0,none⟩) 0]) call87 rfl (ih (x_:=⟨x_.g,x_.back,u⟩) p6 p4 p3 (d.mono (zL (zL a i8) f9)) (m.mono (zL (zL a i8) f9)) (p0.mono f9)) ?_
   rintro _ a13 ⟨a0,a2,rfl,p7⟩
   have p8:=p5 _ _ p7
   have p9:=p2 _ _ p8
   refine bV (vs:=[zS none 0 0]) zeroValue57 p9 rfl (fun b1 a14 q0=>(dJ (i:=0) (ns:=[zS a0 Z.length a2]) (us:=[zS a0 Z.length a2]) sizeOf57 q0 rfl rfl rfl rfl rfl (eV rfl) rfl rfl (fun q1 (q2:aF G f7 (box b1 57 [zS a0 Z.length a2]::own 4 K a9 b0 u::box J 148 [zS a4 x_.g.length c5,zS a7 x_.back.length c8,zS a9 u.length b0]::own 4 K a0 a2 Z::box o 2 [i64 r]::box j 113 [bY a1 b]::own 4 K c7 c9 c6::box n 2 [i64 y]::L) q1)=>(aH (aJ (aG (v:=zP (some ⟨J,0,none⟩)) (aD (pK (vs:=[zP (some ⟨b1,0,none⟩),zP (some ⟨o,0,none⟩)]) rfl) ?_)))))))
   obtain ⟨a15,g0,q3,q4,q5⟩:=aF.lendSp q2 a zt1
   obtain ⟨a16,e1,q6,q7,q8⟩:=aF.lendBp q4 zt1
   obtain ⟨a17,e2,q9,r0,r1⟩:=aF.lendSp q7 (zL (zL a g0) e1) zt1
   obtain ⟨a19,d6,r2,r3,r4⟩:=aF.lendBp r0 .head
   obtain ⟨a20,d0,r5,r6,r7⟩:=aF.lendBp r3 .head
   obtain ⟨b2,r8,hm⟩:=aB hm
   refine aP (vs:=[bY (some ⟨J,0,none⟩) 0,Value.func (.func 120) #[] #[bY (some ⟨b1,0,none⟩) 0,bY (some ⟨o,0,none⟩) 0]]) call83 rfl (wV (x_:=⟨x_.g,x_.back,u⟩) r8 r6 (q6.mono (zL (zL e2 d6) d0)) (d.mono (zL (zL (zL (zL (zL a g0) e1) e2) d6) d0)) (m.mono (zL (zL (zL (zL (zL a g0) e1) e2) d6) d0)) (q3.mono (zL (zL (zL e1 e2) d6) d0)) (r2.mono d0) (q9.mono (zL d6 d0)) r5) ?_
   rintro _ a21 ⟨b3,b4,rfl,r9⟩
   have s0:=r7 _ _ r9
   have s1:=r4 _ _ s0
   have s2:=r1 _ _ s1
   have s3:=q8 _ _ s2
   have s4:=q5 _ _ s3
   refine aI (v:=zS b3 b2.length b4) (aH (aK (aJ (aG (v:=zS b3 b2.length b4) ?_))));obtain ⟨a22,a23,s5,s6,s7⟩:=aF.lendSp s4 a zt5
   obtain ⟨a24,s8,hm⟩:=aB hm
   refine aP (vs:=[zS b3 b2.length b4,zB true]) call121 rfl (lF s8 s6 s5) ?_
   rintro _ a26 ⟨rfl,s9⟩
   have d7:=s7 _ _ s9
   refine aD (aDH rfl) (aH ?_)
   rcases aL hm with ⟨g1,hm⟩|⟨g1,hm⟩
   ·refine aR g1 rfl (aJ (aD (eM tF d7 (i:=6) rfl rfl rfl) (aD (pK (vs:=[zP (some ⟨o,0,none⟩)]) rfl) ?_)));obtain ⟨a27,e3,t0,t1,t2⟩:=aF.lendBp d7 zt5
    obtain ⟨t3,t4,hm⟩:=aB hm
    refine aP (vs:=[bY a1 b,Value.func (.func 122) #[] #[bY (some ⟨o,0,none⟩) 0]]) call83 rfl (wX t4 t1 (c.mono (zL a e3)) (d.mono (zL a e3)) (m.mono (zL a e3)) (p.mono (zL a e3)) t0) ?_
    rintro _ a28 ⟨i9,j0,rfl,t5⟩
    have t6:=t2 _ _ t5
    refine aI (v:=zS i9 t3.length j0) (aH ?_);obtain rfl:=zI hm
    exact tC (mG (pJ results87 rfl ⟨i9,j0,rfl,(aF.weakK (aF.arr 10 [1] t6 rfl) a)⟩))
   ·refine bG g1 rfl (aW (aC (aJ (aD (eM tF d7 (i:=6) rfl rfl rfl) (aD (eM cR d7 (i:=5) rfl rfl rfl) (aD (oH rfl rfl) (aG (v:=zS b3 b2.length b4) ?_)))))));obtain ⟨a29,e4,t8,t9,u0⟩:=aF.lendSp d7 a .head
    obtain ⟨b7,u1,hm⟩:=aB hm
    refine aP (vs:=[bY a1 b,i64 (wr (1 - r)),zS b3 b2.length b4]) call85 rfl (kA u1 t9 (c.mono (zL a e4)) (d.mono (zL a e4)) (m.mono (zL a e4)) (p.mono (zL a e4)) t8) ?_
    rintro _ a30 ⟨b8,b9,rfl,u2⟩
    have u3:=u0 _ _ u2
    refine bV (vs:=[zS none 0 0]) zeroValue57 u3 rfl (fun d8 a31 u4=>(dJ (i:=0) (ns:=[zS b8 b7.length b9]) (us:=[zS b8 b7.length b9]) sizeOf57 u4 rfl rfl rfl rfl rfl (eV rfl) rfl rfl (fun j1 (g2:aF G f7 (box d8 57 [zS b8 b7.length b9]::own 4 K b3 b4 b2::own 4 K b8 b9 b7::own 4 K a9 b0 u::box J 148 [zS a4 x_.g.length c5,zS a7 x_.back.length c8,zS a9 u.length b0]::own 4 K a0 a2 Z::box b1 57 [zS a0 Z.length a2]::box o 2 [i64 r]::box j 113 [bY a1 b]::own 4 K c7 c9 c6::box n 2 [i64 y]::L) j1)=>(aH (aJ (aD (eM tF g2 (i:=8) rfl rfl rfl) (aD (eM aBi g2 (i:=0) rfl rfl rfl) ?_)))))))
    obtain ⟨j2,l,j3,g3⟩:=aF.giveSp g2 a zt2
    replace g3:aF G j2 (box d8 57 [zS b8 b7.length b9]::own 4 K b3 b4 b2::own 4 K a9 b0 u::box J 148 [zS a4 x_.g.length c5,zS a7 x_.back.length c8,zS a9 u.length b0]::own 4 K a0 a2 Z::box b1 57 [zS a0 Z.length a2]::box o 2 [i64 r]::box j 113 [bY a1 b]::own 4 K c7 c9 c6::box n 2 [i64 y]::L) j1:=g3
    obtain ⟨g4,u5,hm⟩:=aB hm
    refine aP (vs:=[bY a1 b,zS b8 b7.length b9]) call86 rfl (kB u5 g3 (c.mono (zL a l)) (d.mono (zL a l)) (m.mono (zL a l)) (p.mono (zL a l)) j3) ?_
    rintro _ a32 ⟨j4,j5,j6,rfl,u6⟩
    obtain ⟨a33,j7,u7,u8,u9⟩:=aF.lendSp u6 (zL a l) .head
    obtain ⟨a34,g5,v0,v1,v2⟩:=aF.lendBp u8 .head
    obtain ⟨e5,v3,hm⟩:=aB hm
    refine aP (vs:=[bY (some ⟨j6,0,none⟩) 0]) call87 rfl (ih (x_:=⟨x_.g,x_.back,g4⟩) v3 v1 v0 (d.mono (zL (zL (zL a l) j7) g5)) (m.mono (zL (zL (zL a l) j7) g5)) (u7.mono g5)) ?_
    rintro _ a35 ⟨e6,e7,rfl,v4⟩
    have v5:=v2 _ _ v4
    have v6:=u9 _ _ v5
    refine dJ (i:=8) (ns:=[zS e6 e5.length e7]) (us:=[zS e6 e5.length e7]) sizeOf57 v6 rfl rfl rfl rfl rfl (eV rfl) rfl rfl (fun v7 (j8:aF G j2 (own 4 K j4 j5 g4::box j6 148 [zS a4 x_.g.length c5,zS a7 x_.back.length c8,zS j4 g4.length j5]::own 4 K e6 e7 e5::box d8 57 [zS b8 b7.length b9]::own 4 K b3 b4 b2::own 4 K a9 b0 u::box J 148 [zS a4 x_.g.length c5,zS a7 x_.back.length c8,zS a9 u.length b0]::own 4 K a0 a2 Z::box b1 57 [zS e6 e5.length e7]::box o 2 [i64 r]::box j 113 [bY a1 b]::own 4 K c7 c9 c6::box n 2 [i64 y]::L) v7)=>(aH (aJ (aD (eM tF j8 (i:=10) rfl rfl rfl) (aD (pK (vs:=[zP (some ⟨d8,0,none⟩),zP (some ⟨o,0,none⟩),zP (some ⟨b1,0,none⟩)]) rfl) ?_)))))
    obtain ⟨a36,d1,v8,v9,w0⟩:=aF.lendBp j8 zt3
    obtain ⟨a37,c0,w1,w2,w3⟩:=aF.lendBp v9 zt8
    obtain ⟨a38,c1,w4,w5,w6⟩:=aF.lendSp w2 (zL (zL (zL a l) d1) c0) zt2
    obtain ⟨a39,b5,w7,w8,w9⟩:=aF.lendBp w5 zt6
    obtain ⟨x0,x1,hm⟩:=aB hm
    refine aP (vs:=[bY a1 b,Value.func (.func 123) #[] #[bY (some ⟨d8,0,none⟩) 0,bY (some ⟨o,0,none⟩) 0,bY (some ⟨b1,0,none⟩) 0]]) call83 rfl (wY x1 w8 (c.mono (zL (zL (zL (zL (zL a l) d1) c0) c1) b5)) (d.mono (zL (zL (zL (zL (zL a l) d1) c0) c1) b5)) (m.mono (zL (zL (zL (zL (zL a l) d1) c0) c1) b5)) (p.mono (zL (zL (zL (zL (zL a l) d1) c0) c1) b5)) (v8.mono (zL (zL c0 c1) b5)) (j3.mono (zL (zL (zL d1 c0) c1) b5)) (w1.mono (zL c1 b5)) w7 (w4.mono b5)) ?_
    rintro _ a40 ⟨j9,k0,rfl,x2⟩
    have x3:=w9 _ _ x2
    have x4:=w6 _ _ x3
    have x5:=w3 _ _ x4
    have x6:=w0 _ _ x5
    refine aI (v:=zS j9 x0.length k0) (aH ?_);obtain rfl:=zI hm
    exact tC (pJ results87 rfl ⟨j9,k0,rfl,(aF.weakK (aF.arr 14 [4] x6 rfl) (zL a l))⟩)
  obtain ⟨a41,x8,ho⟩:=aB hm
  refine bO [1,4,37,38] x8 (fun c2 g6 f w=>f 39=i64 g6/\aF G K (own 2 K a5 a6 q::box j 113 [bY a1 b]::box n 2 [i64 c2]::L) w) ?_ ?_
  ·exact ⟨rfl,m4⟩
  ·rintro c2 g6 a42 f a43 hm hr ⟨g7,g8⟩
   unfold iL at hm
   refine aJ (aD (cK g7 rfl) (aH (aK ?_)))
   rcases aL hm with ⟨g9,hm⟩|⟨g9,hm⟩
   ·refine aR g9 rfl (aW (aC (aK (cD (aJ ?_)))));obtain ⟨h0,k1,hm⟩:=aB hm
    refine aD (cM bN rfl h8 rfl rfl g7 k1) (aD (lA (t:=0) cR g8 (i:=0) rfl k1 rfl rfl rfl) (aI (v:=i64 h0) (aH ?_)));obtain ⟨a44,d2,x9,y0,y1⟩:=aF.lendBp g8 zt1
    obtain ⟨y2,c3,y3,k3,y4⟩:=aF.lendBp y0 zt1
    refine cV (C:=fun w'=>∃ L',aF G y2 L' w') [(0,0),(1,0),(2,0),(3,0),(4,0),(5,0),(6,0),(7,0),(8,0),(9,0),(10,2)] Tryz_mixed (by kernel_rfl) (fun _ hg=>⟨_,aF.mono k3 hg⟩) (fun a45 y5=>?_)
    have a3:=aF.mono k3 y5
    refine bE rfl (fun _ ⟨_,a3⟩=>aU (t:=0) cR a3 y3 rfl rfl) (bE rfl (fun _ ⟨_,a3⟩=>aU (t:=0) tF a3 (x9.mono c3) rfl rfl) (bE rfl (fun _ _=>cQ rfl (c.mono (zL d2 c3))) (bE rfl (fun _ _=>cJ (k':=b+0) pY rfl (c.mono (zL d2 c3)) rfl) (bE rfl (fun _ ⟨_,a3⟩=>aU (t:=0) aBh a3 (c.mono (zL d2 c3)) rfl rfl) (bE rfl (fun _ _=>aT (v:=i64 h0) rfl) ?_)))));obtain ⟨h1,k4,hm⟩:=aB hm
    refine bE rfl (fun _ _=>dM vV rfl (d.mono (zL d2 c3)) rfl rfl rfl k4) ?_;obtain ⟨a46,k5,y6⟩:=bL.el (sz:=3) rfl d k4
    obtain ⟨a47,a48,rfl,a49⟩:=y6
    refine bE rfl (fun _ _=>cJ (k':=h0.toNat * 3+1) aGv rfl (k5.mono (zL d2 c3)) rfl) (bE rfl (fun _ ⟨_,a3⟩=>aU (t:=1) cR a3 (k5.mono (zL d2 c3)) rfl rfl) (bE rfl (fun _ _=>R_min rfl rfl) ?_))
    have y7:=y4 _ _ a3
    have y8:=y1 _ _ y7
    exact WE_s rfl (dJ (i:=1) (ns:=[i64 (mnI c2 h1.Priority)]) (us:=[i64 (mnI c2 h1.Priority)]) sizeOf2 y8 rfl rfl rfl rfl rfl (eV rfl) rfl rfl (fun y9 (z0:aF G K (box j 113 [bY a1 b]::box n 2 [i64 (mnI c2 h1.Priority)]::own 2 K a5 a6 q::L) y9)=>(aH (xI (cH (aC (aS (aD (cN g7 rfl) (aG (v:=i64 (wr (g6+1))) (aH ⟨_,(zI hm).symm,bF,rfl,(aF.arr 3 [2,0,1] z0 rfl)⟩))))))))))
   ·refine bG g9 rfl (aCA (kY (kY ?_)))
    have z1:=hr _ (zI hm).symm
    subst z1
    have hm:(rY rec_ x_ c2)=some R:=ho
    clear hr ho
    exact vS (aC ⟨bF,c2,hm,(aF.arr 1 [] g8 rfl)⟩)
theorem aBM (n:Nat):∀ {G:tO} {K:Hp} {L:List fJ} {w:World} {x_:eO} {a1:Option Addr} {h:Nat} {a4:Option Addr} {c5:Nat} {a7:Option Addr} {c8:Nat} {a10:Option Addr} {c11:Nat} {R:(List Bool)} (hm:nZ n x_=some R) (a:aF G K (L) w) (b:dT K a1 h [zS a4 x_.g.length c5,zS a7 x_.back.length c8,zS a10 x_.in_.length c11]) (c:bL K a4 c5 x_.g) (d:bL K a7 c8 x_.back) (e:bL K a10 c11 x_.in_),
  Calls prog 87 ([bY a1 h]:List Value).toArray w (eC fun v w'=>∃ i j,v=zS i R.length j/\aF G K (own 4 K i j R::L) w'):=by
 induction n with
 |zero=>
  intro G K L w x_ a1 h a4 c5 a7 c8 a10 c11 R hm a b c d e
  unfold nZ at hm
  cases hm
 |succ n ih=>
  intro G K L w x_ a1 h a4 c5 a7 c8 a10 c11 R hm a b c d e
  exact aBL (rec_:=nZ n) (fun hm a b c d e=>ih hm a b c d e) hm a b c d e
theorem aDn {x_:eO} {k2:Nat} {R:(List Bool)} (hm:aEE x_=some R) (hs:aF G K (L) w) (h3:dT K a1 k2 [zS a4 x_.g.length c5,zS a7 x_.back.length c8,zS a10 x_.in_.length c11]) (h6:bL K a4 c5 x_.g) (h9:bL K a7 c8 x_.back) (h12:bL K a10 c11 x_.in_):
  Calls prog 87 ([bY a1 k2]:List Value).toArray w (eC fun v w'=>∃ ra0 rc0,v=zS ra0 R.length rc0/\aF G K (own 4 K ra0 rc0 R::L) w'):=aBM 100000 hm hs h3 h6 h9 h12
theorem nP {is:Bool} {R:Int} (hm:yQ is=some R) (a:aF G K (L) w):
  Calls prog 88 ([zB is]:List Value).toArray w (eC fun v w'=>v=i64 R/\aF G K (L) w'):=by
 exact aM
theorem aAg {k:Int} {p:(List bM)} {a:Nat} {b:Int} {c:Nat} {R:Bool} (hm:qD k p b=some R) (e:aF G K (L) w) (g:dT K a1 a [zS a4 p.length c5]) (h:bL K a4 c5 p) (i:dT K a7 c [i64 b]):
  Calls prog 84 ([i64 k,bY a1 a,bY a7 c]:List Value).toArray w (eC fun v w'=>v=zB R/\aF G K (L) w'):=by
 refine aN func84 rfl (by kernel_rfl) (by show (3:Nat)<=21;decide) ?_;unfold qD at hm
 exact aJ (aI (v:=zB false) (aH (aK (bP [] (fun f w=>∃ d,pU d=some R/\f 4=zB d/\aF G K (L) w) aM aM))))
theorem wZ {x_:eO} {j:Nat} {r:(List bM)} {l:Nat} {a2:Int} {m:Nat} {R:(List Bool)} (hm:iM x_ r a2=some R) (hs:aF G K (L) w) (k:dT K a1 j [zS a4 x_.g.length c5,zS a7 x_.back.length c8,zS a10 x_.in_.length c11]) (h6:bL K a4 c5 x_.g) (h9:bL K a7 c8 x_.back) (a5:bL K a10 c11 x_.in_) (b6:dT K a13 l [zS a16 r.length c17]) (b7:bL K a16 c17 r) (b8:dT K a19 m [i64 a2]):
  Calls prog 83 ([bY a1 j,Value.func (.func 84) #[] #[bY a13 l,bY a19 m]]:List Value).toArray w (eC fun v w'=>∃ a6 a8,v=zS a6 R.length a8/\aF G K (own 4 K a6 a8 R::L) w'):=by
 refine aN func83 rfl (by kernel_rfl) (by show (2:Nat)<=35;decide) ?_;unfold iM at hm
 refine aJ (aI (v:=zS none 0 0) (aH (aJ (aG (v:=bY a1 j) (aD (cQ rfl k) (aD (cJ (k':=j+0) pY rfl k rfl) (aD (aU (t:=0) aBh hs k rfl rfl) (aD (bC (len:=x_.g.length) vV rfl) ?_))))))));obtain ⟨a,b9,hm⟩:=aB hm
 refine xD (e:=(false:Bool)) cS aFu rfl rfl hs rfl rfl rfl b9 rfl (fun b c0 (c1:aF G K (own 4 K b a.length a::L) c0)=>(aI (v:=zS b a.length a.length) (aH (aK (aJ (aG (v:=bY a1 j) (aD (cQ rfl k) (aD (cJ (k':=j+2) tT rfl k rfl) (aD (aU (t:=2) aBi c1 k rfl rfl) (aD (bC (len:=x_.in_.length) cS rfl) (aG (v:=i64 0) (aH (aO [] (fun f w=>∃ u,zY u=some R/\f 5=zS b u.length a.length/\aF G K (own 4 K b a.length u::L) w) aM ?_)))))))))))))
 obtain ⟨d9,c2,ho⟩:=aB hm
 refine bO [1,17,18] c2 (fun x c f w=>f 5=zS b x.length a.length/\f 19=i64 c/\aF G K (own 4 K b a.length x::L) w) aM ?_
 ·rintro x c c3 f e0 hm hr ⟨y,o,p⟩
  unfold fV at hm
  refine aJ (aD (cK o rfl) (aH (aK ?_)))
  rcases aL hm with ⟨a9,hm⟩|⟨a9,hm⟩
  ·refine aR a9 rfl (aW (aC (aK (cD (aJ (aY o ?_))))));obtain ⟨z,b0,hm⟩:=aB hm
   refine aD (dM cS rfl a5 rfl rfl o b0) ?_;obtain ⟨e1,c4,c6⟩:=bL.el (sz:=1) rfl a5 b0
   cases c6
   refine aD (aU (t:=0) aDv p c4 rfl rfl) (aI (v:=i64 c) (aI (v:=zB z) (aH (bP [1,17,18,19] (fun f w=>∃ q,jZ c q=some c3/\f 5=zS b q.length a.length/\aF G K (own 4 K b a.length q::L) w) ?_ ?_))))
   ·rintro f e2 ⟨q,hm,c7,c9⟩
    unfold jZ at hm
    exact cH (aC (aS (aD (cN o rfl) (aG (v:=i64 (wr (c+1))) (aH ⟨_,(zI hm).symm,bF,c7,rfl,c9⟩)))))
   refine aS (aY y (aG (v:=i64 c) (aG (v:=zB z) (aG (v:=zB z) ?_))))
   rcases aL hm with ⟨d,hm⟩|⟨d,hm⟩
   ·refine cO d rfl rfl (aG (v:=Value.func (.func 84) #[] #[bY a13 l,bY a19 m]) (cO d rfl rfl (aG (v:=i64 c) (cO d rfl rfl ?_))));obtain ⟨J,d0,hm⟩:=aB hm
    refine mT (vs:=[i64 c]) (caps:=[bY a13 l,bY a19 m]) (us:=[i64 c,bY a13 l,bY a19 m]) rfl call84 rfl rfl (aAg d0 p b6 b7 b8) ?_
    rintro _ e3 ⟨rfl,b1⟩
    refine aD (eX (v:=zB J) d rfl rfl) ?_;obtain ⟨e4,Z,hm⟩:=aB hm
    have d1:=cA b1 (i:=0) rfl Z
    refine aD (cM cS rfl d1 rfl rfl rfl Z) ?_;obtain ⟨b2,b3,hm⟩:=aB hm
    exact gA (i:=0) (t:=0) (ns:=[zB J]) (e':=(J:Bool)) sizeOf4 b1 rfl (zR _) rfl rfl rfl Z b3 rfl rfl (eV rfl) rfl (fun cs h=>by cases h;rfl) (fun d2 (d3:aF G K (own 4 K b a.length b2::L) d2)=>(aH ⟨bF,b2,hm,(Eq.trans y (congrArg (fun n=>zS b n a.length) (eL b3))),d3⟩))
   ·refine dU d rfl rfl (dU d rfl rfl (dU d rfl rfl (aD (fF (v:=zB false) d rfl rfl) ?_)));obtain ⟨e5,a0,hm⟩:=aB hm
    have d4:=cA p (i:=0) rfl a0
    refine aD (cM cS rfl d4 rfl rfl rfl a0) ?_;obtain ⟨b4,b5,hm⟩:=aB hm
    exact gA (i:=0) (t:=0) (ns:=[zB false]) (e':=(false:Bool)) sizeOf4 p rfl (zR _) rfl rfl rfl a0 b5 rfl rfl (eV rfl) rfl (fun cs h=>by cases h;rfl) (fun d5 (d6:aF G K (own 4 K b a.length b4::L) d5)=>(aH ⟨bF,b4,hm,(Eq.trans y (congrArg (fun n=>zS b n a.length) (eL b5))),d6⟩))
  ·exact aM
theorem xA {b:Int} {h:Nat} {p:eO} {d:Nat} {e:(List bM)} {c:Nat} {R:(List Bool)} (hm:wM b p e=some R) (m:aF G K (L) w) (n:dT K a1 h [bY a4 d]) (o:dT K a4 d [zS a7 p.g.length c8,zS a10 p.back.length c11,zS a13 p.in_.length c14]) (q:bL K a7 c8 p.g) (r:bL K a10 c11 p.back) (u:bL K a13 c14 p.in_) (x:dT K a16 c [zS a19 e.length c20]) (y:bL K a19 c20 e):
  Calls prog 82 ([i64 b,bY a1 h,bY a16 c]:List Value).toArray w (eC fun v w'=>∃ i j,v=zS i R.length j/\aF G K (own 4 K i j R::L) w'):=by
 refine aN func82 rfl (by kernel_rfl) (by show (3:Nat)<=8;decide) ?_;unfold wM at hm
 refine aJ (gF (v:=i64 b) (vs:=[i64 b]) m rfl rfl (fun k a0 l=>(aI (v:=zS none 0 0) (aH (aJ (aD (aU (t:=0) tF l n rfl rfl) (aD (pK (vs:=[bY a16 c,zP (some ⟨k,0,none⟩)]) rfl) ?_)))))));obtain ⟨a2,a,z,J,a3⟩:=aF.lendBp l .head
 obtain ⟨a5,Z,hm⟩:=aB hm
 exact aP (vs:=[bY a4 d,Value.func (.func 84) #[] #[bY a16 c,bY (some ⟨k,0,none⟩) 0]]) call83 rfl (wZ Z J (o.mono a) (q.mono a) (r.mono a) (u.mono a) (x.mono a) (y.mono a) z) aM
theorem aET {g:(List bM)} {R:(List Int)} (hm:aDg g=some R) (hs:aF G K (L) w) (J:bL K a1 c2 g):
  Calls prog 51 ([zS a1 g.length c2]:List Value).toArray w (eC fun v w'=>∃ h1 h2,v=zS h1 R.length h2/\aF G K (own 2 K h1 h2 R::L) w'):=by
 refine aN func51 rfl (by kernel_rfl) (by show (1:Nat)<=58;decide) ?_;unfold aDg at hm
 refine aJ (gF (v:=zS a1 g.length c2) (vs:=[zS a1 g.length c2]) hs rfl rfl (fun j w5 h4=>(aI (v:=zS none 0 0) (aH (aJ (aD (eM aBh h4 (i:=0) rfl rfl rfl) ?_))))));obtain ⟨a,q8,hm⟩:=aB hm
 refine aP (vs:=[zS a1 g.length c2]) call81 rfl (aDP q8 h4 J) ?_
 rintro _ y6 ⟨a9,c1,h5,c7,c8,b,rfl,c9,k8⟩
 refine bV (vs:=[zP none]) zeroValue113 k8 rfl (fun k y7 k9=>(dJ (i:=0) (ns:=[zP (some ⟨b,0,none⟩)]) (us:=[zP (some ⟨b,0,none⟩)]) sizeOf113 k9 rfl rfl rfl rfl rfl (eV rfl) rfl rfl (fun l0 (l1:aF G K (box k 113 [zP (some ⟨b,0,none⟩)]::own 32 K a9 c1 (aX h5 a.1)::rows [2] h5 a.1::own 4 K c7 c8 a.2::box b 148 [zS a1 g.length c2,zS a9 a.1.length c1,zS c7 a.2.length c8]::box j 88 [zS a1 g.length c2]::L) l0)=>(aH (aJ (aD (pK (vs:=[zP (some ⟨k,0,none⟩),zP (some ⟨j,0,none⟩)]) rfl) (aI (v:=Value.func (.func 82) #[] #[zP (some ⟨k,0,none⟩),zP (some ⟨j,0,none⟩)]) (aH (aK ?_)))))))))
 obtain ⟨l2,c3,h6,h7,l3⟩:=aF.lendBp l1 .head
 refine cV (C:=fun w'=>∃ L',aF G l2 L' w') [(0,0),(1,0),(2,1),(3,1),(4,0)] Tryz_mixed (by kernel_rfl) (fun _ hg=>⟨_,aF.mono h7 hg⟩) (fun y8 l4=>?_)
 have e5:=aF.mono h7 l4
 refine bE rfl (fun _ ⟨_,e5⟩=>aU (t:=0) tF e5 h6 rfl rfl) (bE rfl (fun _ _=>aT (v:=Value.func (.func 82) #[] #[zP (some ⟨k,0,none⟩),zP (some ⟨j,0,none⟩)]) rfl) (nT rfl ?_));obtain ⟨y9,d5,l5,z0,l6,l7⟩:=aF.lendD' (i:=0) e5 c9 rfl rfl
 obtain ⟨z1,d6,l8,l9,m0⟩:=aF.lendSp l6 (zL c3 d5) .head
 obtain ⟨z2,d0,m1,m2,m3⟩:=aF.lendBp l9 .head
 obtain ⟨z3,c4,m4,m5,m6⟩:=aF.lendBp m2 .head
 obtain ⟨a3,m7,hm⟩:=aB hm
 refine mT (vs:=[i64 0]) (caps:=[bY (some ⟨k,0,none⟩) 0,bY (some ⟨j,0,none⟩) 0]) (us:=[i64 0,bY (some ⟨k,0,none⟩) 0,bY (some ⟨j,0,none⟩) 0]) rfl call82 rfl rfl (xA (p:=⟨g,a.1,a.2⟩) m7 m5 (show dT _ _ _ [bY (some ⟨b,0,none⟩) 0] from (h6.mono (zL (zL (zL d5 d6) d0) c4))) (m1.mono c4) (J.mono (zL (zL (zL (zL c3 d5) d6) d0) c4)) (l5.mono (zL (zL d6 d0) c4)) (l8.mono (zL d0 c4)) m4 (J.mono (zL (zL (zL (zL c3 d5) d6) d0) c4))) ?_
 rintro _ z4 ⟨a4,a5,rfl,m8⟩
 have m9:=m6 _ _ m8
 have n0:=m3 _ _ m9
 have n1:=m0 _ _ n0
 have h8:=l7 _ _ n1
 refine aV (aC ⟨⟨_,h8⟩,?_⟩)
 refine nT rfl ?_;obtain ⟨z5,e6,n2,z6,n3,n4⟩:=aF.lendD' (i:=0) h8 c9 rfl rfl
 obtain ⟨z7,e7,n5,n6,n7⟩:=aF.lendSp n3 (zL c3 e6) .head
 obtain ⟨z8,d7,n8,n9,o0⟩:=aF.lendBp n6 .head
 obtain ⟨z9,d8,o1,o2,o3⟩:=aF.lendSp n9 (zL (zL (zL c3 e6) e7) d7) zt1
 obtain ⟨b7,o4,hm⟩:=aB hm
 refine aP (vs:=[bY (some ⟨b,0,none⟩) 0,i64 1,zS a4 a3.length a5]) call85 rfl (kA (x_:=⟨g,a.1,a.2⟩) o4 o2 (n8.mono d8) (J.mono (zL (zL (zL (zL c3 e6) e7) d7) d8)) (n2.mono (zL (zL e7 d7) d8)) (n5.mono (zL d7 d8)) o1) ?_
 rintro _ w88 ⟨b8,b9,rfl,o5⟩
 have o6:=o3 _ _ o5
 have o7:=o0 _ _ o6
 have o8:=n7 _ _ o7
 have h9:=n4 _ _ o8
 refine aV (aC ⟨⟨_,h9⟩,?_⟩)
 refine bE rfl (fun _ _=>eE (v:=zS b8 b7.length b9) rfl) (xI ?_)
 have o9:=l3 _ _ h9
 refine aC (aK ?_);obtain ⟨p0,c5,i0,i1,p1⟩:=aF.lendBp o9 .head
 refine cV (C:=fun w'=>∃ L',aF G p0 L' w') [(0,0),(1,0),(2,1),(3,1),(4,0)] Tryz_mixed (by kernel_rfl) (fun _ hg=>⟨_,aF.mono i1 hg⟩) (fun a01 p2=>?_)
 have e8:=aF.mono i1 p2
 refine bE rfl (fun _ ⟨_,e8⟩=>aU (t:=0) tF e8 i0 rfl rfl) (bE rfl (fun _ _=>aT (v:=Value.func (.func 82) #[] #[zP (some ⟨k,0,none⟩),zP (some ⟨j,0,none⟩)]) rfl) (nT rfl ?_));obtain ⟨a02,d9,p3,a03,p4,p5⟩:=aF.lendD' (i:=0) e8 c9 rfl rfl
 obtain ⟨a04,e0,p6,p7,p8⟩:=aF.lendSp p4 (zL c5 d9) .head
 obtain ⟨a05,d1,p9,q0,q1⟩:=aF.lendBp p7 .head
 obtain ⟨a06,c6,q2,q3,q4⟩:=aF.lendBp q0 zt2
 obtain ⟨a6,q5,hm⟩:=aB hm
 refine mT (vs:=[i64 1]) (caps:=[bY (some ⟨k,0,none⟩) 0,bY (some ⟨j,0,none⟩) 0]) (us:=[i64 1,bY (some ⟨k,0,none⟩) 0,bY (some ⟨j,0,none⟩) 0]) rfl call82 rfl rfl (xA (p:=⟨g,a.1,a.2⟩) q5 q3 (show dT _ _ _ [bY (some ⟨b,0,none⟩) 0] from (i0.mono (zL (zL (zL d9 e0) d1) c6))) (p9.mono c6) (J.mono (zL (zL (zL (zL c5 d9) e0) d1) c6)) (p3.mono (zL (zL e0 d1) c6)) (p6.mono (zL d1 c6)) q2 (J.mono (zL (zL (zL (zL c5 d9) e0) d1) c6))) ?_
 rintro _ a07 ⟨a7,a8,rfl,q6⟩
 have q7:=q4 _ _ q6
 have q9:=q1 _ _ q7
 have r0:=p8 _ _ q9
 have i2:=p5 _ _ r0
 refine aV (aC ⟨⟨_,i2⟩,?_⟩)
 refine nT rfl ?_;obtain ⟨a08,e9,r1,a09,r2,r3⟩:=aF.lendD' (i:=0) i2 c9 rfl rfl
 obtain ⟨a10,f0,r4,r5,r6⟩:=aF.lendSp r2 (zL c5 e9) .head
 obtain ⟨a11,e1,r8,r9,s0⟩:=aF.lendBp r5 .head
 obtain ⟨a12,e2,s1,s2,s3⟩:=aF.lendSp r9 (zL (zL (zL c5 e9) f0) e1) zt1
 obtain ⟨Z,s4,hm⟩:=aB hm
 refine aP (vs:=[bY (some ⟨b,0,none⟩) 0,i64 0,zS a7 a6.length a8]) call85 rfl (kA (x_:=⟨g,a.1,a.2⟩) s4 s2 (r8.mono e2) (J.mono (zL (zL (zL (zL c5 e9) f0) e1) e2)) (r1.mono (zL (zL f0 e1) e2)) (r4.mono (zL e1 e2)) s1) ?_
 rintro _ e3 ⟨a0,a2,rfl,s5⟩
 have s6:=s3 _ _ s5
 have s7:=s0 _ _ s6
 have s8:=r6 _ _ s7
 have i3:=r3 _ _ s8
 refine aV (aC ⟨⟨_,i3⟩,?_⟩)
 refine bE rfl (fun _ _=>eE (v:=zS a0 Z.length a2) rfl) (xI ?_)
 have i4:=p1 _ _ i3
 refine aC (aJ (aD (eM tF i4 (i:=0) rfl rfl rfl) (aG (v:=zS b8 b7.length b9) ?_)));obtain ⟨s9,x,f1,_,f2,_⟩:=aF.lendD' (i:=1) i4 c9 rfl rfl
 replace f2:aF G s9 (box k 113 [zP (some ⟨b,0,none⟩)]::own 4 K c7 c8 a.2::box b 148 [zS a1 g.length c2,zS a9 a.1.length c1,zS c7 a.2.length c8]::own 4 K a7 a8 a6::own 4 K a0 a2 Z::box j 88 [zS a1 g.length c2]::own 4 K a4 a5 a3::own 4 K b8 b9 b7::L) e3:=f2
 obtain ⟨t0,q,t1,f3⟩:=aF.giveSp f2 x zt1
 replace f3:aF G t0 (box k 113 [zP (some ⟨b,0,none⟩)]::box b 148 [zS a1 g.length c2,zS a9 a.1.length c1,zS c7 a.2.length c8]::own 4 K a7 a8 a6::own 4 K a0 a2 Z::box j 88 [zS a1 g.length c2]::own 4 K a4 a5 a3::own 4 K b8 b9 b7::L) e3:=f3
 obtain ⟨t2,m,t3,f4,_⟩:=aF.lendBp f3 zt1
 replace f4:aF G t2 (box k 113 [zP (some ⟨b,0,none⟩)]::own 4 K a7 a8 a6::own 4 K a0 a2 Z::box j 88 [zS a1 g.length c2]::own 4 K a4 a5 a3::own 4 K b8 b9 b7::L) e3:=f4
 obtain ⟨t4,o,f5,f6⟩:=aF.giveSp f4 (zL (zL x q) m) zt5
 replace f6:aF G t4 (box k 113 [bY (some ⟨b,0,none⟩) 0]::own 4 K a7 a8 a6::own 4 K a0 a2 Z::box j 88 [zS a1 g.length c2]::own 4 K a4 a5 a3::L) e3:=f6
 obtain ⟨i5,t5,hm⟩:=aB hm
 refine aP (vs:=[bY (some ⟨b,0,none⟩) 0,zS b8 b7.length b9]) call86 (lst2 (aJW rfl) rfl) (kB (x_:=⟨g,a.1,a.2⟩) t5 f6 (t3.mono o) (J.mono (zL (zL (zL x q) m) o)) (f1.mono (zL (zL q m) o)) (t1.mono (zL m o)) f5) ?_
 rintro _ f7 ⟨t6,t7,i6,rfl,t8⟩
 refine aG (v:=zS a0 Z.length a2) ?_;obtain ⟨t9,y,u0,f8⟩:=aF.giveSp t8 (zL (zL (zL x q) m) o) .head
 replace f8:aF G t9 (box i6 148 [zS a1 g.length c2,zS a9 a.1.length c1,zS t6 i5.length t7]::box k 113 [bY (some ⟨b,0,none⟩) 0]::own 4 K a7 a8 a6::own 4 K a0 a2 Z::box j 88 [zS a1 g.length c2]::own 4 K a4 a5 a3::L) f7:=f8
 obtain ⟨u1,r,u2,f9,_⟩:=aF.lendBp f8 .head
 replace f9:aF G u1 (box k 113 [bY (some ⟨b,0,none⟩) 0]::own 4 K a7 a8 a6::own 4 K a0 a2 Z::box j 88 [zS a1 g.length c2]::own 4 K a4 a5 a3::L) f7:=f9
 obtain ⟨b1,u,g0,g1⟩:=aF.giveSp f9 (zL (zL (zL (zL (zL x q) m) o) y) r) zt2
 replace g1:aF G b1 (box k 113 [bY (some ⟨b,0,none⟩) 0]::own 4 K a7 a8 a6::box j 88 [zS a1 g.length c2]::own 4 K a4 a5 a3::L) f7:=g1
 obtain ⟨g2,u3,hm⟩:=aB hm
 refine aP (vs:=[bY (some ⟨i6,0,none⟩) 0,zS a0 Z.length a2]) call86 (lst2 (aJW rfl) rfl) (kB (x_:=⟨g,a.1,i5⟩) u3 g1 (u2.mono u) (J.mono (zL (zL (zL (zL (zL (zL x q) m) o) y) r) u)) (f1.mono (zL (zL (zL (zL (zL q m) o) y) r) u)) (u0.mono (zL r u)) g0) ?_
 rintro _ a14 ⟨i7,i8,i9,rfl,u4⟩
 obtain ⟨a15,j0,u5,u6,u7⟩:=aF.lendSp u4 (zL (zL (zL (zL (zL (zL x q) m) o) y) r) u) .head
 obtain ⟨a16,g3,u8,u9,v0⟩:=aF.lendBp u6 .head
 obtain ⟨b2,v1,hm⟩:=aB hm
 refine aP (vs:=[bY (some ⟨i9,0,none⟩) 0]) call87 rfl (aDn (x_:=⟨g,a.1,g2⟩) v1 u9 u8 (J.mono (zL (zL (zL (zL (zL (zL (zL (zL x q) m) o) y) r) u) j0) g3)) (f1.mono (zL (zL (zL (zL (zL (zL (zL q m) o) y) r) u) j0) g3)) (u5.mono g3)) ?_
 rintro _ a17 ⟨b3,b5,rfl,v2⟩
 have v3:=v0 _ _ v2
 have j1:=u7 _ _ v3
 refine aI (v:=zS b3 b2.length b5) (aH (aJ (aD (eM aBh j1 (i:=5) rfl rfl rfl) (aD (bC (len:=g.length) vV rfl) ?_))));obtain ⟨d,v4,hm⟩:=aB hm
 refine xD (e:=(0:Int)) bN kQ rfl rfl j1 rfl rfl rfl v4 rfl (fun l v5 (v6:aF G b1 (own 2 K l d.length d::own 4 K i7 i8 g2::box i9 148 [zS a1 g.length c2,zS a9 a.1.length c1,zS i7 g2.length i8]::own 4 K b3 b5 b2::box k 113 [bY (some ⟨b,0,none⟩) 0]::own 4 K a7 a8 a6::box j 88 [zS a1 g.length c2]::own 4 K a4 a5 a3::L) v5)=>(aI (v:=zS l d.length d.length) (aH (aK (aJ (aD (eM aBh v6 (i:=6) rfl rfl rfl) (aD (bC (len:=g.length) vV rfl) (aG (v:=i64 0) (aH (aO [] (fun f w=>∃ d2,aAO d2=some R/\f 8=zS l d2.length d.length/\aF G b1 (own 2 K l d.length d2::L) w) ?_ ?_))))))))))
 ·rintro f a18 ⟨d2,hm,v7,v8⟩
  unfold aAO at hm
  refine aC (aJ (aY v7 (aI (v:=zS l d2.length d.length) (aH ?_))));obtain rfl:=zI hm
  exact tC (pJ results51 rfl ⟨l,d.length,rfl,(aF.weakK v8 (zL (zL (zL (zL (zL (zL x q) m) o) y) r) u))⟩)
 obtain ⟨a19,w0,ho⟩:=aB hm
 refine bO [5,6,7,31] w0 (fun d3 b0 f w=>f 8=zS l d3.length d.length/\f 32=i64 b0/\aF G b1 (own 2 K l d.length d3::own 4 K b3 b5 b2::L) w) aM ?_
 ·rintro d3 b0 w1 f a20 hm hr ⟨d4,g4,b6⟩
  unfold nL at hm
  refine aJ (aD (cK g4 rfl) (aH (aK ?_)))
  rcases aL hm with ⟨g5,hm⟩|⟨g5,hm⟩
  ·refine aR g5 rfl (aW (aC (aK (cD (aJ (aY g4 (aI (v:=i64 b0) (aH (bP [5,6,7,31,32] (fun f w=>∃ e4,sW b0 e4=some w1/\f 8=zS l e4.length d.length/\aF G b1 (own 2 K l d.length e4::own 4 K b3 b5 b2::L) w) ?_ ?_)))))))))
   ·rintro f a21 ⟨e4,hm,w2,w3⟩
    unfold sW at hm
    exact cH (aC (aS (aD (cN g4 rfl) (aG (v:=i64 (wr (b0+1))) (aH ⟨_,(zI hm).symm,bF,w2,rfl,w3⟩)))))
   refine aS (aY d4 (aG (v:=i64 b0) (aG (v:=zS b8 b7.length b9) (aG (v:=i64 b0) ?_))));obtain ⟨w4,j2,hm⟩:=aB hm
   refine aD (dM cS rfl (f5.mono (zL (zL y r) u)) rfl rfl rfl j2) ?_;obtain ⟨a22,w6,w7⟩:=bL.el (sz:=1) rfl f5 j2
   cases w7
   refine aD (aU (t:=0) aDv b6 (w6.mono (zL (zL y r) u)) rfl rfl) (aG (v:=zB w4) ?_)
   rcases aL hm with ⟨c,hm⟩|⟨c,hm⟩
   ·refine dL c rfl rfl (dL c rfl rfl (dL c rfl rfl (dL c rfl rfl (dL c rfl rfl (dL c rfl rfl (aDZ (g:=47) rfl rfl (aDZ (g:=47) rfl rfl (aDZ (g:=47) rfl rfl (aDZ (g:=47) rfl rfl (dL c rfl rfl (aD (eX (v:=zB true) c rfl rfl) ?_)))))))))));obtain ⟨j3,w8,hm⟩:=aB hm
    refine aP (vs:=[zB true]) call88 rfl (nP w8 b6) ?_
    rintro _ a23 ⟨rfl,j4⟩
    obtain ⟨a24,g6,hm⟩:=aB hm
    have w9:=cA j4 (i:=0) rfl g6
    refine aD (cM bN rfl w9 rfl rfl rfl g6) ?_;obtain ⟨j5,j6,hm⟩:=aB hm
    exact gA (i:=0) (t:=0) (ns:=[i64 j3]) (e':=(j3:Int)) sizeOf2 j4 rfl (zL (zL (zL (zL (zL (zL x q) m) o) y) r) u) rfl rfl rfl g6 j6 rfl rfl (eV rfl) rfl (fun cs h=>by cases h;rfl) (fun x0 (x1:aF G b1 (own 2 K l d.length j5::own 4 K b3 b5 b2::L) x0)=>(aH ⟨bF,j5,hm,(Eq.trans d4 (congrArg (fun n=>zS l n d.length) (eL j6))),x1⟩))
   ·refine cU c rfl rfl (aG (v:=zS a0 Z.length a2) (cU c rfl rfl (aG (v:=i64 b0) (cU c rfl rfl ?_))));obtain ⟨x2,j7,hm⟩:=aB hm
    refine aD (dM cS rfl g0 rfl rfl rfl j7) ?_;obtain ⟨a25,x3,x4⟩:=bL.el (sz:=1) rfl g0 j7
    cases x4
    refine cU c rfl rfl (aD (aU (t:=0) aDv b6 x3 rfl rfl) (cU c rfl rfl (aD (aDH rfl) (cU c rfl rfl (aG (v:=zB (!x2)) ?_)))))
    rcases aL hm with ⟨z,hm⟩|⟨z,hm⟩
    ·refine cO z rfl rfl (aG (v:=zS b3 b2.length b5) (cO z rfl rfl (aG (v:=i64 b0) (cO z rfl rfl ?_))));obtain ⟨g7,g8,hm⟩:=aB hm
     have x5:=cA b6 (i:=1) rfl g8
     refine aD (cM cS rfl x5 rfl rfl rfl g8) (cO z rfl rfl (aD (lA (t:=0) aDv b6 (i:=1) rfl g8 rfl rfl rfl) (cU c rfl rfl (aD (eX (v:=zB g7) z rfl rfl) (aD (fF (v:=zB g7) c rfl rfl) ?_)))));obtain ⟨j8,x6,hm⟩:=aB hm
     refine aP (vs:=[zB g7]) call88 rfl (nP x6 b6) ?_
     rintro _ a26 ⟨rfl,j9⟩
     obtain ⟨a27,g9,hm⟩:=aB hm
     have x7:=cA j9 (i:=0) rfl g9
     refine aD (cM bN rfl x7 rfl rfl rfl g9) ?_;obtain ⟨k0,k1,hm⟩:=aB hm
     exact gA (i:=0) (t:=0) (ns:=[i64 j8]) (e':=(j8:Int)) sizeOf2 j9 rfl (zL (zL (zL (zL (zL (zL x q) m) o) y) r) u) rfl rfl rfl g9 k1 rfl rfl (eV rfl) rfl (fun cs h=>by cases h;rfl) (fun x8 (x9:aF G b1 (own 2 K l d.length k0::own 4 K b3 b5 b2::L) x8)=>(aH ⟨bF,k0,hm,(Eq.trans d4 (congrArg (fun n=>zS l n d.length) (eL k1))),x9⟩))
    ·refine dU z rfl rfl (dU z rfl rfl (dU z rfl rfl (dU z rfl rfl (cU c rfl rfl (aD (fF (v:=zB false) z rfl rfl) (aD (fF (v:=zB false) c rfl rfl) ?_))))));obtain ⟨k2,y0,hm⟩:=aB hm
     refine aP (vs:=[zB false]) call88 rfl (nP y0 b6) ?_
     rintro _ a28 ⟨rfl,k3⟩
     obtain ⟨a29,h0,hm⟩:=aB hm
     have y1:=cA k3 (i:=0) rfl h0
     refine aD (cM bN rfl y1 rfl rfl rfl h0) ?_;obtain ⟨k4,k5,hm⟩:=aB hm
     exact gA (i:=0) (t:=0) (ns:=[i64 k2]) (e':=(k2:Int)) sizeOf2 k3 rfl (zL (zL (zL (zL (zL (zL x q) m) o) y) r) u) rfl rfl rfl h0 k5 rfl rfl (eV rfl) rfl (fun cs h=>by cases h;rfl) (fun y2 (y3:aF G b1 (own 2 K l d.length k4::own 4 K b3 b5 b2::L) y2)=>(aH ⟨bF,k4,hm,(Eq.trans d4 (congrArg (fun n=>zS l n d.length) (eL k5))),y3⟩))
  ·refine bG g5 rfl (aCA (kY (kY ?_)))
   have y4:=hr _ (zI hm).symm
   subst y4
   have hm:(aAO d3)=some R:=ho
   clear hr ho
   exact vS (aC ⟨bF,d3,hm,d4,(aF.arr 2 [0] b6 rfl)⟩)
theorem aCt {b:(List bD)} {k:Int} {R:(List Int)} (hm:iN b k=some R) (d:aF G K (L) w) (e:bL K a1 c2 b):
  Calls prog 89 ([zS a1 b.length c2,i64 k]:List Value).toArray w (eC fun v w'=>∃ g h,v=zS g R.length h/\aF G K (own 3 K g h R::L) w'):=by
 refine aN func89 rfl (by kernel_rfl) (by show (2:Nat)<=25;decide) ?_;unfold iN at hm
 refine aJ (aI (v:=zS none 0 0) (aH (aJ (aI (v:=zS none 0 0) (aH (aJ (aG (v:=i64 k) (aD (cN rfl rfl) (aI (v:=i64 (wr (k+1))) (aH (aK (aJ (aG (v:=zS a1 b.length c2) (aG (v:=i64 k) ?_))))))))))))));obtain ⟨a,i,hm⟩:=aB hm
 refine aD (dM tD rfl e rfl rfl rfl i) ?_;obtain ⟨J,p,q⟩:=bL.el (sz:=4) rfl e i
 cases q
 refine aD (jQ (t:=0) (vs:=[i64 a.Kind,i64 a.Variable,str a.B,zB a.Not]) aFA d p rfl rfl rfl) ?_;obtain ⟨Z,r,hm⟩:=aB hm
 refine aP (vs:=[Value.agg #[i64 a.Kind,i64 a.Variable,str a.B,zB a.Not]]) call113 rfl (aAf r d) ?_
 rintro _ a0 ⟨rfl,u⟩
 refine aG (v:=i64 0) (aH (aO [] (fun f w=>∃ c j l,aDL c=some R/\f 5=zS j c.length l/\aF G K (own 3 K j l c::L) w) aM ?_))
 have a2:=aF.nil (α:=Int) u 3 K
 obtain ⟨a3,x,ho⟩:=aB hm
 exact oI [0,13] x (fun m y z f w=>∃ n o,f 5=zS n m.length o/\f 6=i64 y/\f 14=i64 z/\aF G K (own 3 K n o m::L) w) aM aM
theorem aEU {t:bQ} {k:Int} {R:(List Edge)} (hm:aDh t k=some R) (u:aF G K (L) w) (Z:bL K a1 c2 t.L) (h6:bL K a4 c5 t.E):
  Calls prog 92 ([Value.agg (zCa t a1 c2 a4 c5),i64 k]:List Value).toArray w (eC fun v w'=>∃ l m,v=zS l R.length m/\aF G K (own 51 K l m R::L) w'):=by
 refine aN func92 rfl (by kernel_rfl) (by show (2:Nat)<=25;decide) ?_;unfold aDh at hm
 refine aJ (gF (v:=Value.agg (zCa t a1 c2 a4 c5)) (vs:=(zC t a1 c2 a4 c5)) u rfl rfl (fun b7 w8 n=>(aI (v:=zS none 0 0) (aH (aJ (aI (v:=zS none 0 0) (aH (aK (aJ (aD (bH (t':=3) fK rfl rfl) (aD (eM oJ n (i:=0) rfl rfl rfl) (aD (bC (len:=t.E.length) cP rfl) (aG (v:=i64 0) (aH (aO [] (fun f w=>∃ e o p,aDx e=some R/\f 5=zS o e.length p/\aF G K (own 51 K o p e::L) w) aM ?_)))))))))))))))
 have a5:=aF.nil (α:=Edge) n 51 K
 obtain ⟨a6,x,ho⟩:=aB hm
 refine bO [1,9,10] x (fun g a f w=>∃ h j,f 5=zS h g.length j/\f 11=i64 a/\aF G K (own 51 K h j g::L) w) aM ?_
 ·rintro g a y f a7 hm hr ⟨h,j,a8,q,a9⟩
  unfold wO at hm
  refine aJ (aD (cK q rfl) (aH (aK ?_)))
  rcases aL hm with ⟨r,hm⟩|⟨r,hm⟩
  ·refine aR r rfl (aW (aC (aK (aO [1,9,10,11] (fun f w=>∃ b c d,wN a b=some y/\f 5=zS c b.length d/\aF G K (own 51 K c d b::L) w) ?_ ?_))))
   ·rintro f b0 ⟨b,c,d,hm,z,J⟩
    unfold wN at hm
    exact aC (aS (aD (cN q rfl) (aG (v:=i64 (wr (a+1))) (aH ⟨_,(zI hm).symm,bF,c,d,z,rfl,J⟩))))
   exact aM
  ·exact aM
theorem aHr {a R:aQ} (hm:aCo a=some R) (b:aF G K (L) w) (c:G.lo=0):
  Calls prog 125 ([str a]:List Value).toArray w (eC fun v w'=>v=str R/\aF G K (L) w'):=by
 exact aM
theorem aAI {n:bD} {b:aQ} {R:Bool} (hm:mA n b=some R) (g:aF G K (L) w) (k:G.lo=0):
  Calls prog 93 ([Value.agg #[i64 n.Kind,i64 n.Variable,str n.B,zB n.Not],str b]:List Value).toArray w (eC fun v w'=>v=zB R/\aF G K (L) w'):=by
 let c:=[i64 n.Kind,i64 n.Variable,str n.B,zB n.Not]
 refine aN func93 rfl (by kernel_rfl) (by show (2:Nat)<=36;decide) ?_;unfold mA at hm
 refine aJ (gF (v:=Value.agg #[i64 n.Kind,i64 n.Variable,str n.B,zB n.Not]) (vs:=c) g rfl rfl (fun h l d=>(aI (v:=zB false) (aH (aJ (aD (bH (t':=2) fa_66_2 rfl rfl) (aD (eM aFW d (i:=0) rfl rfl rfl) ?_)))))));obtain ⟨a,j,hm⟩:=aB hm
 refine aP (vs:=[str n.B,str ([42]:aQ)]) call124 rfl (oA j d) ?_
 rintro _ m ⟨rfl,o⟩
 exact aG (v:=Value.tuple #[str a.1,zB a.2]) (aD (dC rfl rfl) (aD (dC rfl rfl) (aI (v:=str a.1) (aI (v:=zB a.2) (aH (aK (bP [2] (fun f w=>∃ e,kI n e=some R/\f 7=zB e/\aF G K (box h 66 c::L) w) aM aM)))))))
theorem aEV {b:(List bD)} {k R:Int} (hm:xV b k=some R) (o:aF G K (L) w) (p:bL K a1 c2 b):
  Calls prog 95 ([zS a1 b.length c2,i64 k]:List Value).toArray w (eC fun v w'=>v=i64 R/\aF G K (L) w'):=by
 refine aN func95 rfl (by kernel_rfl) (by show (2:Nat)<=27;decide) ?_;unfold xV at hm
 refine aJ (aI (v:=i64 0) (aH (aJ (aI (v:=i64 0) (aH (aK (aJ (aG (v:=i64 k) (aG (v:=i64 0) (aH (aO [] (fun f w=>∃ g,aGH g=some R/\f 5=i64 g/\aF G K (L) w) aM ?_)))))))))));obtain ⟨q,l,ho⟩:=aB hm
 refine bO [0,1,7] l (fun c a f w=>f 5=i64 c/\f 8=i64 a/\aF G K (L) w) aM ?_
 ·rintro c a h f r hm hr ⟨t,d,u⟩
  unfold nM at hm
  refine aJ (aD (cK d rfl) (aH (aK ?_)))
  rcases aL hm with ⟨i,hm⟩|⟨i,hm⟩
  ·refine aR i rfl (aW (aC (aK (aO [0,1,7,8] (fun f w=>∃ e,wP a e=some h/\f 5=i64 e/\aF G K (L) w) ?_ ?_))))
   ·rintro f x ⟨e,hm,m,n⟩
    unfold wP at hm
    exact aC (aS (aD (cN d rfl) (aG (v:=i64 (wr (a+1))) (aH ⟨_,(zI hm).symm,bF,m,rfl,n⟩))))
   exact aJ (aY d (aI (v:=i64 a) (aH (aK (bP [0,1,5,7,8] (fun f w=>∃ j,wQ c a j=some h/\f 22=zB j/\aF G K (L) w) aM aM)))))
  ·exact aM
theorem mE {a R:(List Int)} (hm:gM a=some R) (j:aF G K (L) w) (d:bL K a1 c2 a):
  Calls prog 126 ([zS a1 a.length c2]:List Value).toArray w (eC fun v w'=>∃ e g,v=zS e R.length g/\aF G K (own 2 K e g R::L) w'):=by
 refine aN func126 rfl (by kernel_rfl) (by show (1:Nat)<=8;decide) ?_;unfold gM at hm
 refine aJ (aI (v:=zS none 0 0) (aH (aK (aJ (aG (v:=zS a1 a.length c2) (aD (aKD bN rfl rfl) (aH ?_)))))))
 rcases aKa d with ⟨k,l,m⟩|n
 ·subst k;subst l;subst m
  refine aLg rfl ?_
  replace hm:(some [])=some R:=hm
  exact aM
 ·refine aLh (Eq.trans rfl (congrArg zB n)) (aW (aC (aJ (bX (Kt:=K) (xs:=([]:List Int)) (cs:=[]) (vs:=[]) bN kQ rfl rfl j rfl (by kernel_rfl) rfl rfl rfl trivial (fun o p (q:aF G K (own 2 K o 0 ([]:List Int)::L) p)=>(aG (v:=zS a1 a.length c2) ?_))))));obtain ⟨h,r,hm⟩:=aB hm
  refine aDs (i:=0) bN underlying32 kQ rfl rfl q rfl (zR _) d r rfl rfl rfl rfl (fun b c t (u:aF G K (own 2 K b c h::L) t)=>(aI (v:=zS b h.length c) (aH ?_)));obtain rfl:=zI hm
  exact tC (pJ results126 rfl ⟨b,c,rfl,u⟩)
theorem aDo {c R:(List Int)} (hm:zZ c=some R) (i:aF G K (L) w) (j:bL K a1 c2 c):
  Calls prog 96 ([zS a1 c.length c2]:List Value).toArray w (eC fun v w'=>∃ e g,v=zS e R.length g/\aF G K (own 2 K e g R::L) w'):=by
 refine aN func96 rfl (by kernel_rfl) (by show (1:Nat)<=10;decide) ?_;unfold zZ at hm
 refine aJ (aI (v:=zS none 0 0) (aH (aJ (aG (v:=zS a1 c.length c2) ?_))));obtain ⟨d,k,hm⟩:=aB hm
 refine aP (vs:=[zS a1 c.length c2]) call126 rfl (mE k i j) ?_
 rintro _ r ⟨a,b,rfl,l⟩
 refine aI (v:=zS a d.length b) (aH (aJ (aG (v:=zS a d.length b) ?_)));obtain ⟨h,m,hm⟩:=aB hm
 refine aP (vs:=[zS a d.length b]) call73 rfl (aEG l m) ?_
 rintro _ t ⟨rfl,o,p⟩
 refine aH (aJ (aY (v:=zS a h.length b) (Eq.trans rfl (congrArg (fun n=>zS a n b) o)) ?_));obtain ⟨u,q,hm⟩:=aB hm
 exact aP (vs:=[zS a h.length b]) call74 rfl (eJ q p) aM
theorem mH {c d a b:Int} {p2_:(List Int)} {p:bQ} {e:Nat} {R:(List Int)} (hm:lO c d a b p2_ p=some R) (i:aF G K (own 2 K a2 c3 p2_::box b1 117 [i64 a,i64 b,zS a2 p2_.length c3]::L) w) (j:dT K a4 e (zC p a7 c8 a10 c11)) (k:bL K a7 c8 p.L) (l:bL K a10 c11 p.E):
  Calls prog 90 ([i64 c,i64 d,zP (some ⟨b1,0,none⟩),bY a4 e]:List Value).toArray w (eC fun v w'=>∃ g h,v=Value.tuple #[]/\aF G K (own 2 K g h R::box b1 117 [i64 a,i64 b,zS g R.length h]::L) w'):=by
 exact aM
end Gv
namespace Gv
open Gv.Hp renaming le_refl→zR
open Go.Value renaming slice→zS,bool→zB,pointer→zP,agg→zA
open Option.some renaming inj→zI
open Gv.Hp renaming le_trans→zL
open Go Go.Proofs Go.Proofs.Tryz
set_option maxRecDepth 20000
set_option maxHeartbeats 40000000
variable {G:tO} {K:Hp} {L:List fJ} {w:World} {a1 a4 a7 a10 a13:Option Addr} {c2 c5 c8 c11 c14:Nat}
theorem xG {J:(List bD)} {t:bQ} {R:(List bM)} (hm:pA J t=some R) (hs:aF G K (L) w) (hG:G.lo=0) (h3:bL K a1 c2 J) (h6:bL K a4 c5 t.L) (h9:bL K a7 c8 t.E):
  Calls prog 52 ([zS a1 J.length c2,zA (zCa t a4 c5 a7 c8),zS none 0 0]:List Value).toArray w (eC fun v w'=>∃ K' i6 i7,v=zS i6 R.length i7/\Hp.le K K'/\aF G K' (own 117 K' i6 i7 R::L) w'):=by
 let k:=(zC t a4 c5 a7 c8)
 let d4:=[i64 0,i64 1000,zS none 0 0]
 refine aN func52 rfl (by kernel_rfl) (by show (3:Nat)<=141;decide) ?_;unfold pA at hm
 refine aJ (gF (v:=zA (zCa t a4 c5 a7 c8)) (vs:=k) hs rfl rfl (fun c w9 m6=>(aI (v:=zS none 0 0) (aH (aJ (aI (v:=zS none 0 0) (aH (aK (aJ (aG (v:=zS a1 J.length c2) (aD (bC (len:=J.length) tD rfl) (aG (v:=i64 0) (aH (aO [] (fun f w=>∃ f3 f4 i8 i9,Hp.le K f3/\tJ f4=some R/\f 7=zS i8 f4.length i9/\aF G f3 (own 117 f3 i8 i9 f4::L) w) aM ?_))))))))))))))
 have x0:=aF.nil (α:=bM) m6 117 K
 obtain ⟨x1,m7,ho⟩:=aB hm
 refine bO [0,2,4,18,19] m7 (fun b9 x f w=>∃ a8 c4 c6,Hp.le K a8/\f 7=zS c4 b9.length c6/\f 20=i64 x/\aF G a8 (own 117 a8 c4 c6 b9::box c 29 k::L) w) aM ?_
 ·rintro b9 x f5 f x2 hm hr ⟨a8,c4,c6,r,m8,d5,f6⟩
  unfold eP at hm
  refine aJ (aD (cK d5 rfl) (aH (aK ?_)))
  rcases aL hm with ⟨f7,hm⟩|⟨f7,hm⟩
  ·refine aR f7 rfl (aW (aC (aK (aO [0,2,4,18,19,20] (fun f w=>∃ c7 d6 d7 d8,Hp.le a8 c7/\oE x d6=some f5/\f 7=zS d7 d6.length d8/\aF G c7 (own 117 c7 d7 d8 d6::box c 29 k::L) w) ?_ ?_))))
   ·rintro f x3 ⟨c7,d6,d7,d8,m9,hm,n0,n1⟩
    unfold oE at hm
    exact aC (aS (aD (cN d5 rfl) (aG (v:=i64 (wr (x+1))) (aH ⟨_,(zI hm).symm,bF,c7,d7,d8,(zL r m9),n0,rfl,n1⟩))))
   refine aJ (aY d5 ?_);obtain ⟨a,j0,hm⟩:=aB hm
   refine aD (dM tD rfl (h3.mono r) rfl rfl d5 j0) ?_;obtain ⟨x4,n2,n3⟩:=bL.el (sz:=4) rfl h3 j0
   cases n3
   refine aD (jQ (t:=0) (vs:=[i64 a.Kind,i64 a.Variable,str a.B,zB a.Not]) aFA f6 (n2.mono r) rfl rfl rfl) (bV (vs:=[i64 0,i64 0,str ([]:aQ),zB false]) zeroValue66 f6 rfl (fun o x5 n4=>(aI (v:=i64 x) (dJ (i:=0) (ns:=[i64 a.Kind,i64 a.Variable,str a.B,zB a.Not]) (us:=[i64 a.Kind,i64 a.Variable,str a.B,zB a.Not]) sizeOf66 n4 rfl rfl rfl rfl rfl (eV rfl) rfl rfl (fun n5 (n6:aF G a8 (box o 66 [i64 a.Kind,i64 a.Variable,str a.B,zB a.Not]::own 117 a8 c4 c6 b9::box c 29 k::L) n5)=>(aH (aJ (aG (v:=zS a1 J.length c2) (aG (v:=i64 x) ?_)))))))))
   obtain ⟨l,n7,hm⟩:=aB hm
   refine aP (vs:=[zS a1 J.length c2,i64 x]) call89 rfl (aCt n7 n6 (h3.mono r)) ?_
   rintro _ x6 ⟨m,n,rfl,n8⟩
   refine aI (v:=zS m l.length n) (aH (aJ (aD (bH (t':=0) fA rfl rfl) (aD (eM cR n8 (i:=3) rfl rfl rfl) (aG (v:=i64 0) (aH (aO [0,2,4,18,19,20] (fun f w=>∃ f8 f9 j1 j2,Hp.le a8 f8/\oF x f9=some f5/\f 7=zS j1 f9.length j2/\aF G f8 (own 117 f8 j1 j2 f9::box c 29 k::L) w) aM ?_)))))));obtain ⟨x7,n9,ho⟩:=aB hm
   refine bO [0,2,4,8,9,10,18,19,20,29] n9 (fun e u f w=>∃ b p q,Hp.le a8 b/\f 7=zS p e.length q/\f 30=i64 u/\aF G b (own 3 K m n l::box o 66 [i64 a.Kind,i64 a.Variable,str a.B,zB a.Not]::own 117 b p q e::box c 29 k::L) w) aM ?_
   ·rintro e u b7 f x8 hm hr ⟨b,p,q,y,j3,g0,j4⟩
    unfold eA at hm
    refine aJ (aD (cK g0 rfl) (aH (aK ?_)))
    rcases aL hm with ⟨g1,hm⟩|⟨g1,hm⟩
    ·refine aR g1 rfl (aW (aC (aK (aO [0,2,4,8,9,10,18,19,20,29,30] (fun f w=>∃ c9 d9 e0 e1,Hp.le b c9/\oG u d9=some b7/\f 7=zS e0 d9.length e1/\aF G c9 (own 117 c9 e0 e1 d9::own 3 K m n l::box o 66 [i64 a.Kind,i64 a.Variable,str a.B,zB a.Not]::box c 29 k::L) w) ?_ ?_))))
     ·rintro f x9 ⟨c9,d9,e0,e1,o0,hm,o1,o2⟩
      unfold oG at hm
      exact aC (aS (aD (cN g0 rfl) (aG (v:=i64 (wr (u+1))) (aH ⟨_,(zI hm).symm,bF,c9,e0,e1,(zL y o0),o1,rfl,(aF.arr 3 [1,2,0] o2 rfl)⟩))))
     refine aJ (aY g0 (aI (v:=i64 u) (aH (aJ (aD (gJ (vs:=[(1,i64 1000)]) (cs:=d4) bs_117 rfl (by kernel_rfl)) (bV (vs:=[i64 0,i64 0,zS none 0 0]) zeroValue117 j4 rfl (fun d y0 o3=>(dJ (i:=0) (ns:=d4) (us:=d4) sizeOf117 o3 rfl rfl rfl rfl rfl (eV rfl) rfl rfl (fun o4 (c0:aF G b (box d 117 d4::own 3 K m n l::box o 66 [i64 a.Kind,i64 a.Variable,str a.B,zB a.Not]::own 117 b p q e::box c 29 k::L) o4)=>(aH (aJ (aD (pK (vs:=[zP (some ⟨d,0,none⟩),zP (some ⟨c,0,none⟩)]) rfl) (aI (v:=Value.func (.func 90) #[] #[zP (some ⟨d,0,none⟩),zP (some ⟨c,0,none⟩)]) (aH (aK (bP [0,2,4,7,8,9,10,11,12,13,18,19,20,29,30] (fun f w=>∃ j,fX J t x a l e u j=some b7/\aF G b (box d 117 [i64 j,i64 1000,zS none 0 0]::own 3 K m n l::box o 66 [i64 a.Kind,i64 a.Variable,str a.B,zB a.Not]::own 117 b p q e::box c 29 k::L) w) ?_ ?_))))))))))))))))
     ·rintro f y1 ⟨j,hm,j5⟩
      unfold fX at hm
      refine aC (aK (aO [0,2,4,7,8,9,10,12,18,19,20,29,30] (fun f w=>∃ a2 a9 b0,gH J x a e u j a2=some b7/\aF G b (own 2 K a9 b0 a2::box d 117 [i64 j,i64 1000,zS a9 a2.length b0]::own 3 K m n l::box o 66 [i64 a.Kind,i64 a.Variable,str a.B,zB a.Not]::own 117 b p q e::box c 29 k::L) w) ?_ ?_))
      ·rintro f y2 ⟨a2,a9,b0,hm,j6⟩
       unfold gH at hm
       refine aC (gT [0,2,4,7,8,9,10,12,18,19,20,29,30] (fun f w=>∃ a0,iT e u j a2 a0=some b7/\aF G b (own 2 K a9 b0 a2::box d 117 [i64 j,i64 a0,zS a9 a2.length b0]::own 3 K m n l::box o 66 [i64 a.Kind,i64 a.Variable,str a.B,zB a.Not]::own 117 b p q e::box c 29 k::L) w) ?_ ?_)
       ·rintro f y3 ⟨a0,hm,j7⟩
        unfold iT at hm
        refine aJ (aD (bH (t':=2) aEk rfl rfl) (aD (eM vU j7 (i:=1) rfl rfl rfl) ?_));obtain ⟨y4,y5,o5,o6,o7⟩:=aF.lendSp j7 (zL r y) .head
        obtain ⟨a3,o8,hm⟩:=aB hm
        refine aP (vs:=[zS a9 a2.length b0]) call96 rfl (aDo o8 o6 o5) ?_
        rintro _ y6 ⟨a5,a6,rfl,o9⟩
        have p0:=o7 _ _ o9
        refine aD (bH (t':=2) aEk rfl rfl) (dJ (i:=2) (ns:=[zS a5 a3.length a6]) (us:=[i64 j,i64 a0,zS a5 a3.length a6]) sizeOf32 p0 rfl rfl rfl rfl rfl (eV rfl) rfl rfl (fun j8 (j9:aF G b (own 2 K a9 b0 a2::own 2 K a5 a6 a3::box d 117 [i64 j,i64 a0,zS a5 a3.length a6]::own 3 K m n l::box o 66 [i64 a.Kind,i64 a.Variable,str a.B,zB a.Not]::own 117 b p q e::box c 29 k::L) j8)=>(aH (aS (aY j3 (aD (kZ (us:=[i64 j,i64 a0,zS a5 a3.length a6]) ag_117 j9 (i:=2) rfl rfl rfl rfl) ?_))))))
        obtain ⟨b6,k0,p1,g2⟩:=aF.giveSp j9 (zL r y) zt1
        replace g2:aF G b6 (own 2 K a9 b0 a2::box d 117 [i64 j,i64 a0,zS a5 a3.length a6]::own 3 K m n l::box o 66 [i64 a.Kind,i64 a.Variable,str a.B,zB a.Not]::own 117 b p q e::box c 29 k::L) j8:=g2
        refine bX (Kt:=b6) (xs:=([⟨j,a0,a3⟩]:List bM)) (cs:=[i64 j,i64 a0,zS a5 a3.length a6]) (vs:=[(0,zA #[i64 j,i64 a0,zS a5 a3.length a6])]) vV ez_117 rfl rfl g2 rfl (by kernel_rfl) rfl rfl rfl ⟨⟨a5,a6,rfl,p1⟩,trivial⟩ (fun p2 p3 (p4:aF G b6 (own 117 b6 p2 1 ([⟨j,a0,a3⟩]:List bM)::own 2 K a9 b0 a2::box d 117 [i64 j,i64 a0,zS a5 a3.length a6]::own 3 K m n l::box o 66 [i64 a.Kind,i64 a.Variable,str a.B,zB a.Not]::own 117 b p q e::box c 29 k::L) p3)=>?_)
        obtain ⟨g3,p5,hm⟩:=aB hm
        exact WO_appO (i:=4) b6 vV underlying88 ez_117 rfl rfl p4 rfl k0 (zR _) p5 rfl rfl rfl rfl (fun _ _ _ h=>El.one h) (fun g4 g5 p6 (p7:aF G b6 (own 2 K a9 b0 a2::box d 117 [i64 j,i64 a0,zS a5 a3.length a6]::own 3 K m n l::box o 66 [i64 a.Kind,i64 a.Variable,str a.B,zB a.Not]::own 117 b6 g4 g5 g3::box c 29 k::L) p6)=>(aI (v:=zS g4 g3.length g5) (aV (cH (aC ⟨bF,b6,g3,g4,g5,k0,hm,rfl,(aF.arr 5 [4,2,3] p7 rfl)⟩)))))
       refine aJ (aD (kZ (us:=[i64 a.Kind,i64 a.Variable,str a.B,zB a.Not]) aFA j6 (i:=3) rfl rfl rfl rfl) ?_);obtain ⟨y7,p8,hm⟩:=aB hm
       refine aP (vs:=[zA #[i64 a.Kind,i64 a.Variable,str a.B,zB a.Not]]) call94 rfl (aAC p8 j6) ?_
       rintro _ y8 ⟨rfl,p9⟩
       refine aH ?_
       rcases aL hm with ⟨k1,hm⟩|⟨k1,hm⟩
       ·refine aR k1 rfl ?_;obtain ⟨q0,q1,q2,k2,q3⟩:=aF.lendBp p9 zt3
        refine cV (C:=fun w'=>∃ L',aF G q0 L' w') [(0,0),(1,0),(4,0),(5,0),(6,0),(2,1),(3,0),(7,1),(8,0),(9,0),(10,2)] Tryz_mixed (by kernel_rfl) (fun _ hg=>⟨_,aF.mono k2 hg⟩) (fun y9 q4=>?_)
        have g6:=aF.mono k2 q4
        refine bE rfl (fun _ _=>aT (v:=zS a1 J.length c2) rfl) (bE rfl (fun _ _=>aT (v:=i64 x) rfl) (bE rfl (fun _ _=>bH (t':=0) aCb rfl rfl) (bE rfl (fun _ ⟨_,g6⟩=>aU (t:=0) cR g6 q2 rfl rfl) (bE rfl (fun _ _=>qS rfl rfl) (nT rfl ?_)))));obtain ⟨z0,q5,hm⟩:=aB hm
        refine aP (vs:=[zS a1 J.length c2,i64 x]) call95 rfl (aEV q5 g6 (h3.mono (zL (zL r y) q1))) ?_
        rintro _ z1 ⟨rfl,k3⟩
        refine aV (aC ⟨⟨_,k3⟩,?_⟩)
        refine bE rfl (fun _ _=>R_mul rfl rfl) (nT rfl ?_);obtain ⟨z2,q6,hm⟩:=aB hm
        refine aP (vs:=[zB (a.Kind == 7)]) call88 rfl (nP q6 k3) ?_
        rintro _ z3 ⟨rfl,k4⟩
        refine aV (aC ⟨⟨_,k4⟩,?_⟩)
        refine bE rfl (fun _ _=>cN rfl rfl) (bE rfl (fun _ _=>bH (t':=1) aGv rfl rfl) ?_)
        have z4:=q3 _ _ k4
        exact aM
       ·exact aM
      refine aJ (aD (kZ (us:=[i64 a.Kind,i64 a.Variable,str a.B,zB a.Not]) aFA j5 (i:=2) rfl rfl rfl rfl) ?_);obtain ⟨q7,q8,hm⟩:=aB hm
      refine aP (vs:=[zA #[i64 a.Kind,i64 a.Variable,str a.B,zB a.Not]]) call91 rfl (pV q8 j5) ?_
      rintro _ z5 ⟨rfl,e2⟩
      refine aI (v:=zB q7) (aH ?_)
      rcases aL hm with ⟨g7,hm⟩|⟨g7,hm⟩
      ·refine aR g7 rfl (aJ (aD (kZ (us:=k) rE e2 (i:=4) rfl rfl rfl rfl) (aG (v:=i64 u) ?_)));obtain ⟨c1,q9,hm⟩:=aB hm
       refine aP (vs:=[zA (zCa t a4 c5 a7 c8),i64 u]) call92 rfl (aEU q9 e2 (h6.mono (zL r y)) (h9.mono (zL r y))) ?_
       rintro _ z6 ⟨d0,d1,rfl,r0⟩
       refine aD (bC (len:=c1.length) cP rfl) (aG (v:=i64 0) (aH (aO [0,2,4,7,8,9,10,12,18,19,20,29,30] (fun f w=>∃ g8 k5 k6,tK J x a e u j g8=some b7/\aF G b (own 2 K k5 k6 g8::box d 117 [i64 j,i64 1000,zS k5 g8.length k6]::own 3 K m n l::box o 66 [i64 a.Kind,i64 a.Variable,str a.B,zB a.Not]::own 117 b p q e::box c 29 k::L) w) aM ?_)))
       have z7:=aF.nil (α:=Int) r0 2 K
       obtain ⟨z8,r1,ho⟩:=aB hm
       refine bO [0,2,4,7,8,9,10,12,13,18,19,20,29,30,66,67] r1 (fun b1 e3 f w=>∃ b2 b3,f 68=i64 e3/\aF G b (own 2 K b2 b3 b1::own 51 K d0 d1 c1::box d 117 [i64 j,i64 1000,zS b2 b1.length b3]::own 3 K m n l::box o 66 [i64 a.Kind,i64 a.Variable,str a.B,zB a.Not]::own 117 b p q e::box c 29 k::L) w) aM ?_
       ·rintro b1 e3 r2 f z9 hm hr ⟨b2,b3,g9,h0⟩
        unfold gI at hm
        refine aJ (aD (cK g9 rfl) (aH (aK ?_)))
        rcases aL hm with ⟨k7,hm⟩|⟨k7,hm⟩
        ·refine aR k7 rfl (aW (aC (aK (aO [0,2,4,7,8,9,10,12,13,18,19,20,29,30,66,67,68] (fun f w=>∃ e4 e5 e6,kT e3 e4=some r2/\aF G b (own 2 K e5 e6 e4::own 51 K d0 d1 c1::box d 117 [i64 j,i64 1000,zS e5 e4.length e6]::own 3 K m n l::box o 66 [i64 a.Kind,i64 a.Variable,str a.B,zB a.Not]::own 117 b p q e::box c 29 k::L) w) ?_ ?_))))
         ·rintro f a00 ⟨e4,e5,e6,hm,r3⟩
          unfold kT at hm
          exact aC (aS (aD (cN g9 rfl) (aG (v:=i64 (wr (e3+1))) (aH ⟨_,(zI hm).symm,bF,e5,e6,rfl,r3⟩))))
         refine aJ ?_;obtain ⟨z,h1,hm⟩:=aB hm
         have r4:=cA h0 (i:=1) rfl h1
         refine aD (cM cP rfl r4 rfl rfl g9 h1) (aD (aCB (t:=0) (vs:=[i64 z.F,i64 z.B,i64 z.To]) tE h0 (i:=1) rfl h1 rfl rfl rfl rfl) (bV (vs:=[i64 0,i64 0,i64 0]) zeroValue51 h0 rfl (fun k8 a01 r5=>(dJ (i:=0) (ns:=[i64 z.F,i64 z.B,i64 z.To]) (us:=[i64 z.F,i64 z.B,i64 z.To]) sizeOf51 r5 rfl rfl rfl rfl rfl (eV rfl) rfl rfl (fun r6 (Z:aF G b (box k8 51 [i64 z.F,i64 z.B,i64 z.To]::own 2 K b2 b3 b1::own 51 K d0 d1 c1::box d 117 [i64 j,i64 1000,zS b2 b1.length b3]::own 3 K m n l::box o 66 [i64 a.Kind,i64 a.Variable,str a.B,zB a.Not]::own 117 b p q e::box c 29 k::L) r6)=>(aH (aK (mK (C:=fun w'=>aF G b (box k8 51 [i64 z.F,i64 z.B,i64 z.To]::own 2 K b2 b3 b1::own 51 K d0 d1 c1::box d 117 [i64 j,i64 1000,zS b2 b1.length b3]::own 3 K m n l::box o 66 [i64 a.Kind,i64 a.Variable,str a.B,zB a.Not]::own 117 b p q e::box c 29 k::L) w') Tryz_mixed (by kernel_rfl) (aF.mono Z (dZ.drew _)) (cC (fun _ Z=>kZ (us:=[i64 a.Kind,i64 a.Variable,str a.B,zB a.Not]) aFA Z (i:=5) rfl rfl rfl rfl) (cC (fun _ Z=>bH (t':=2) pM rfl rfl) (cC (fun _ Z=>eM aCV Z (i:=7) rfl rfl rfl) (cC (fun _ Z=>bH (t':=1) aCc rfl rfl) (cC (fun _ Z=>eM cR Z (i:=0) rfl rfl rfl) ?_)))))))))))))
         obtain ⟨r7,k9,hm⟩:=aB hm
         refine cC (fun _ Z=>dM fD rfl (h6.mono (zL r y)) rfl rfl rfl k9) ?_;obtain ⟨a02,r8,r9⟩:=bL.el (sz:=1) rfl h6 k9
         cases r9
         refine cC (fun _ Z=>aU (t:=0) aFW Z (r8.mono (zL r y)) rfl rfl) ?_;obtain ⟨s0,s1,hm⟩:=aB hm
         refine aFc (vs:=[zA #[i64 a.Kind,i64 a.Variable,str a.B,zB a.Not],str r7]) (v:=zB s0) call93 rfl (fun _ Z=>(aAI s1 Z hG)) (uV (fun a03 s2=>(aC ?_)))
         rcases aL hm with ⟨l0,hm⟩|⟨l0,hm⟩
         ·refine aR l0 rfl ?_;obtain ⟨a04,h2,s3,s4,a05⟩:=aF.lendBp s2 .head
          obtain ⟨s5,h4,l1,l2,s6⟩:=aF.lendSp s4 (zL (zL r y) h2) zt3
          refine cV (C:=fun w'=>∃ L',aF G s5 L' w') [(0,0),(1,0),(2,0),(3,0),(4,0),(5,0),(6,1)] Tryz_mixed (by kernel_rfl) (fun _ hg=>⟨_,aF.mono l2 hg⟩) (fun s7 s8=>?_)
          have d2:=aF.mono l2 s8
          refine bE rfl (fun _ _=>aT (v:=Value.func (.func 90) #[] #[zP (some ⟨d,0,none⟩),zP (some ⟨c,0,none⟩)]) rfl) (bE rfl (fun _ _=>aT (v:=zS m l.length n) rfl) ?_);obtain ⟨l3,h5,hm⟩:=aB hm
          have s9:=aFe l1 h5
          refine bE rfl (fun _ _=>cM aHi rfl s9 rfl rfl rfl h5) ?_;obtain ⟨a06,t0,t1⟩:=bL.el (sz:=1) rfl l1 h5
          cases t1
          refine bE rfl (fun _ ⟨_,d2⟩=>aU (t:=0) sc_3 d2 t0 rfl rfl) (bE rfl (fun _ _=>bH (t':=2) uK rfl rfl) (bE rfl (fun _ ⟨_,d2⟩=>aU (t:=2) cR d2 (s3.mono h4) rfl rfl) (nT rfl ?_)));obtain ⟨t2,l4,t3,t4,t5⟩:=aF.lendBp d2 zt5
          have t6:aF G t2 (own 2 K b2 b3 b1::box d 117 [i64 j,i64 1000,zS b2 b1.length b3]::own 51 K d0 d1 c1::box o 66 [i64 a.Kind,i64 a.Variable,str a.B,zB a.Not]::own 117 b p q e::L) s7:=(aF.arr 3 [0,2,1] t4 rfl)
          obtain ⟨a07,t7,hm⟩:=aB hm
          refine mT (vs:=[i64 l3,i64 z.To]) (caps:=[zP (some ⟨d,0,none⟩),bY (some ⟨c,0,none⟩) 0]) (us:=[i64 l3,i64 z.To,zP (some ⟨d,0,none⟩),bY (some ⟨c,0,none⟩) 0]) rfl call90 rfl rfl (mH t7 t6 t3 (h6.mono (zL (zL (zL (zL r y) h2) h4) l4)) (h9.mono (zL (zL (zL (zL r y) h2) h4) l4))) ?_
          rintro _ a08 ⟨a09,a10,rfl,t8⟩
          have l5:=t5 _ _ t8
          refine aV (aC ⟨⟨_,l5⟩,?_⟩)
          refine xI ?_
          have a11:=s6 _ _ l5
          exact aM
         ·exact aM
        ·exact aM
      ·refine bG g7 rfl (aK (bP [0,2,4,7,8,9,10,11,12,13,18,19,20,29,30] (fun f w=>iD J t x a l e u j=some b7/\f 88=zB false/\aF G b (box d 117 [i64 j,i64 1000,zS none 0 0]::own 3 K m n l::box o 66 [i64 a.Kind,i64 a.Variable,str a.B,zB a.Not]::own 117 b p q e::box c 29 k::L) w) ?_ ?_))
       ·rintro f a12 ⟨hm,t9,h7⟩
        unfold iD at hm
        refine aC (bG (by decide:¬ false=true) t9 (aJ (aD (bH (t':=0) aCb rfl rfl) (aD (eM cR h7 (i:=2) rfl rfl rfl) (aD (qS rfl rfl) (aI (v:=zB (a.Kind == 6)) (aH ?_)))))))
        rcases aL hm with ⟨h8,hm⟩|⟨h8,hm⟩
        ·refine aR h8 rfl (aS (aG (v:=Value.func (.func 90) #[] #[zP (some ⟨d,0,none⟩),zP (some ⟨c,0,none⟩)]) (aG (v:=zS a1 J.length c2) (aG (v:=i64 x) ?_))));obtain ⟨l6,u0,hm⟩:=aB hm
         refine aP (vs:=[zS a1 J.length c2,i64 x]) call80 rfl (aFN u0 h7 (h3.mono (zL r y))) ?_
         rintro _ a13 ⟨rfl,u1⟩
         refine aG (v:=i64 u) ?_;obtain ⟨a14,l7,u2,u3,u4⟩:=aF.lendBp u1 zt4
         have u5:=aF.nil (α:=Int) u3 2 K
         obtain ⟨a15,u6,hm⟩:=aB hm
         refine mT (vs:=[i64 l6,i64 u]) (caps:=[zP (some ⟨d,0,none⟩),bY (some ⟨c,0,none⟩) 0]) (us:=[i64 l6,i64 u,zP (some ⟨d,0,none⟩),bY (some ⟨c,0,none⟩) 0]) rfl call90 rfl rfl (mH (p2_:=[]) u6 u5 u2 (h6.mono (zL (zL r y) l7)) (h9.mono (zL (zL r y) l7))) ?_
         rintro _ a17 ⟨a18,a19,rfl,u7⟩
         have a20:=u4 _ _ u7
         exact aM
        ·refine bG h8 rfl (aJ (aG (v:=zS m l.length n) (aD (bC (len:=l.length) aHi rfl) (aG (v:=i64 0) (aH (aO [0,2,4,7,8,9,10,12,18,19,20,29,30] (fun f w=>∃ i0 l8 l9,rZ J x a e u j i0=some b7/\aF G b (own 2 K l8 l9 i0::box d 117 [i64 j,i64 1000,zS l8 i0.length l9]::own 3 K m n l::box o 66 [i64 a.Kind,i64 a.Variable,str a.B,zB a.Not]::own 117 b p q e::box c 29 k::L) w) aM ?_))))))
         have a21:=aF.nil (α:=Int) h7 2 K
         obtain ⟨a22,u8,ho⟩:=aB hm
         refine bO [0,2,4,7,8,9,10,11,12,13,18,19,20,29,30,50,51] u8 (fun i1 m0 f w=>∃ i2 i3,f 52=i64 m0/\aF G b (own 2 K i2 i3 i1::box d 117 [i64 j,i64 1000,zS i2 i1.length i3]::own 3 K m n l::box o 66 [i64 a.Kind,i64 a.Variable,str a.B,zB a.Not]::own 117 b p q e::box c 29 k::L) w) aM ?_
         ·rintro i1 m0 a23 f a24 hm hr ⟨i2,i3,m1,i4⟩
          unfold fW at hm
          refine aJ (aD (cK m1 rfl) (aH (aK ?_)))
          rcases aL hm with ⟨m2,hm⟩|⟨m2,hm⟩
          ·refine aR m2 rfl (aW (aC (aK (cD (aJ ?_)))));obtain ⟨e7,i5,hm⟩:=aB hm
           have u9:=cA i4 (i:=2) rfl i5
           refine aD (cM aHi rfl u9 rfl rfl m1 i5) (aD (lA (t:=0) sc_3 i4 (i:=2) rfl i5 rfl rfl rfl) (aI (v:=i64 e7) (aH (aS (aG (v:=Value.func (.func 90) #[] #[zP (some ⟨d,0,none⟩),zP (some ⟨c,0,none⟩)]) (aG (v:=i64 e7) (aG (v:=i64 u) ?_)))))));obtain ⟨a25,m3,v0,v1,v2⟩:=aF.lendBp i4 zt5
           obtain ⟨a26,v3,hm⟩:=aB hm
           refine mT (vs:=[i64 e7,i64 u]) (caps:=[zP (some ⟨d,0,none⟩),bY (some ⟨c,0,none⟩) 0]) (us:=[i64 e7,i64 u,zP (some ⟨d,0,none⟩),bY (some ⟨c,0,none⟩) 0]) rfl call90 rfl rfl (mH v3 v1 v0 (h6.mono (zL (zL r y) m3)) (h9.mono (zL (zL r y) m3))) ?_
           rintro _ a27 ⟨a28,a29,rfl,v4⟩
           have a30:=v2 _ _ v4
           exact aM
          ·exact aM
       refine aS (aD (bH (t':=0) aCb rfl rfl) (aD (eM cR e2 (i:=2) rfl rfl rfl) (aD (qS rfl rfl) (aG (v:=zB (a.Kind == 6)) ?_))))
       rcases aL hm with ⟨e8,hm⟩|⟨e8,hm⟩
       ·exact cO e8 rfl rfl (aG (v:=zS none 0 0) (cO e8 rfl rfl (aD (R_nilNe cS rfl rfl) (aD (eX (v:=zB false) e8 rfl rfl) (aG (v:=zB false) (dU (by decide:¬ false=true) rfl rfl (dU (by decide:¬ false=true) rfl rfl (dU (by decide:¬ false=true) rfl rfl (dU (by decide:¬ false=true) rfl rfl (aD (fF (v:=zB false) (by decide:¬ false=true) rfl rfl) (aI (v:=zB false) (aH ⟨bF,hm,rfl,e2⟩))))))))))))
       ·exact aM
     refine aS (aD (bH (t':=0) aCb rfl rfl) (aD (eM cR c0 (i:=2) rfl rfl rfl) (aD (qS rfl rfl) (aG (v:=zB (a.Kind == 0)) ?_))))
     rcases aL hm with ⟨b4,hm⟩|⟨b4,hm⟩
     ·refine dL b4 rfl rfl (dL b4 rfl rfl (dL b4 rfl rfl (aD (eX (v:=zB true) b4 rfl rfl) (aG (v:=zB true) (dL (rfl:true=true) rfl rfl (dL (rfl:true=true) rfl rfl (dL (rfl:true=true) rfl rfl (aD (eX (v:=zB true) (rfl:true=true) rfl rfl) ?_))))))));obtain ⟨e9,v5,hm⟩:=aB hm
      refine aP (vs:=[zB true]) call88 rfl (nP v5 c0) ?_
      rintro _ a31 ⟨rfl,v6⟩
      exact aD (bH (t':=0) aEm rfl rfl) (dJ (i:=0) (ns:=[i64 e9]) (us:=[i64 e9,i64 1000,zS none 0 0]) sizeOf2 v6 rfl rfl rfl rfl rfl (eV rfl) rfl rfl (fun v7 (v8:aF G b (box d 117 [i64 e9,i64 1000,zS none 0 0]::own 3 K m n l::box o 66 [i64 a.Kind,i64 a.Variable,str a.B,zB a.Not]::own 117 b p q e::box c 29 k::L) v7)=>(aH ⟨bF,e9,hm,v8⟩)))
     ·refine cU b4 rfl rfl (aD (bH (t':=0) aCb rfl rfl) (cU b4 rfl rfl (aD (eM cR c0 (i:=2) rfl rfl rfl) (cU b4 rfl rfl (aD (qS rfl rfl) (aD (fF (v:=zB (a.Kind == 2)) b4 rfl rfl) (aG (v:=zB (a.Kind == 2)) ?_)))))))
      rcases aL hm with ⟨b5,hm⟩|⟨b5,hm⟩
      ·refine dL b5 rfl rfl (dL b5 rfl rfl (dL b5 rfl rfl (aD (eX (v:=zB true) b5 rfl rfl) ?_)));obtain ⟨f0,v9,hm⟩:=aB hm
       refine aP (vs:=[zB true]) call88 rfl (nP v9 c0) ?_
       rintro _ a32 ⟨rfl,w0⟩
       exact aD (bH (t':=0) aEm rfl rfl) (dJ (i:=0) (ns:=[i64 f0]) (us:=[i64 f0,i64 1000,zS none 0 0]) sizeOf2 w0 rfl rfl rfl rfl rfl (eV rfl) rfl rfl (fun w1 (w2:aF G b (box d 117 [i64 f0,i64 1000,zS none 0 0]::own 3 K m n l::box o 66 [i64 a.Kind,i64 a.Variable,str a.B,zB a.Not]::own 117 b p q e::box c 29 k::L) w1)=>(aH ⟨bF,f0,hm,w2⟩)))
      ·refine cU b5 rfl rfl (aD (bH (t':=0) aCb rfl rfl) (cU b5 rfl rfl (aD (eM cR c0 (i:=2) rfl rfl rfl) (cU b5 rfl rfl (aD (qS rfl rfl) (aD (fF (v:=zB (a.Kind == 5)) b5 rfl rfl) ?_))))));obtain ⟨f1,w3,hm⟩:=aB hm
       refine aP (vs:=[zB (a.Kind == 5)]) call88 rfl (nP w3 c0) ?_
       rintro _ a33 ⟨rfl,w4⟩
       exact aD (bH (t':=0) aEm rfl rfl) (dJ (i:=0) (ns:=[i64 f1]) (us:=[i64 f1,i64 1000,zS none 0 0]) sizeOf2 w4 rfl rfl rfl rfl rfl (eV rfl) rfl rfl (fun w5 (w6:aF G b (box d 117 [i64 f1,i64 1000,zS none 0 0]::own 3 K m n l::box o 66 [i64 a.Kind,i64 a.Variable,str a.B,zB a.Not]::own 117 b p q e::box c 29 k::L) w5)=>(aH ⟨bF,f1,hm,w6⟩)))
    ·refine bG g1 rfl (aCA (kY (kY ?_)))
     have w7:=hr _ (zI hm).symm
     subst w7
     have hm:(oF x e)=some f5:=ho
     clear hr ho
     exact vS (aC ⟨bF,b,e,p,q,y,hm,j3,(aF.arr 2 [] j4 rfl)⟩)
  ·refine bG f7 rfl (aCA (kY (kY ?_)))
   have w8:=hr _ (zI hm).symm
   subst w8
   have hm:(tJ b9)=some R:=ho
   clear hr ho
   exact vS (aC ⟨bF,a8,b9,c4,c6,r,hm,m8,(aF.arr 2 [0] f6 rfl)⟩)
theorem aAJ {d:(List bD)} {t:bQ} {k:Int} {R:(List Bool)} (hm:pB d t k=some R) (hs:aF G K (L) w) (hG:G.lo=0) (h3:bL K a1 c2 d) (h6:bL K a4 c5 t.L) (h9:bL K a7 c8 t.E):
  Calls prog 25 ([zS a1 d.length c2,zA (zCa t a4 c5 a7 c8),zS none 0 0,i64 k]:List Value).toArray w (eC fun v w'=>∃ J Z,v=zS J R.length Z/\aF G K (own 4 K J Z R::L) w'):=by
 let g:=(zC t a4 c5 a7 c8)
 refine aN func25 rfl (by kernel_rfl) (by show (4:Nat)<=40;decide) ?_;unfold pB at hm
 refine aJ (gF (v:=zA (zCa t a4 c5 a7 c8)) (vs:=g) hs rfl rfl (fun p d6 a0=>(aI (v:=zS none 0 0) (aH (aJ (aD (bH (t':=0) fA rfl rfl) (aD (eM cR a0 (i:=0) rfl rfl rfl) ?_)))))));obtain ⟨a,b4,hm⟩:=aB hm
 refine xD (e:=(false:Bool)) cS aFu rfl rfl a0 rfl rfl rfl b4 rfl (fun b b5 (a2:aF G K (own 4 K b a.length a::box p 29 g::L) b5)=>(aI (v:=zS b a.length a.length) (aH (aJ (aG (v:=zS a1 d.length c2) (aD (kZ (us:=g) rE a2 (i:=1) rfl rfl rfl rfl) (aG (v:=zS none 0 0) ?_)))))));obtain ⟨b6,b7,hm⟩:=aB hm
 refine aP (vs:=[zS a1 d.length c2,zA (zCa t a4 c5 a7 c8),zS none 0 0]) call52 rfl (xG b7 a2 hG h3 h6 h9) ?_
 rintro _ d7 ⟨q,b8,b9,rfl,c0,c1⟩
 obtain ⟨d8,d9,c3,c4,c6⟩:=aF.lendSp c1 (zR _) .head
 obtain ⟨l,c7,hm⟩:=aB hm
 refine aP (vs:=[zS b8 b6.length b9]) call51 rfl (aET c7 c4 c3) ?_
 rintro _ e0 ⟨m,o,rfl,c9⟩
 have e1:=c6 _ _ c9
 refine aI (v:=zS m l.length o) (aH (aK (aJ (aG (v:=zS b a.length a.length) (aD (bC (len:=a.length) cS rfl) (aG (v:=i64 0) (aH (aO [] (fun f w=>∃ r,aCp r=some R/\f 9=zS b r.length a.length/\aF G q (own 4 K b a.length r::L) w) aM ?_))))))));obtain ⟨e2,d0,ho⟩:=aB hm
 refine bO [3,5,10,21] d0 (fun u c f w=>f 9=zS b u.length a.length/\f 22=i64 c/\aF G q (own 2 K m o l::own 4 K b a.length u::box p 29 g::L) w) aM ?_
 ·rintro u c e3 f e4 hm hr ⟨a3,x,j⟩
  unfold iO at hm
  refine aJ (aD (cK x rfl) (aH (aK ?_)))
  rcases aL hm with ⟨a5,hm⟩|⟨a5,hm⟩
  ·refine aR a5 rfl (aW (aC (aK (cD (aJ (aY x (aI (v:=i64 c) (aH (aS (aY a3 (aG (v:=i64 c) (aG (v:=zS m l.length o) (aG (v:=i64 k) (aD (bH (t':=0) fA rfl rfl) (aD (eM cR j (i:=2) rfl rfl rfl) (aD (R_mul rfl rfl) (aG (v:=i64 c) (aD (cN rfl rfl) ?_))))))))))))))))));obtain ⟨a6,y,hm⟩:=aB hm
   have d1:=cA j (i:=0) rfl y
   refine aD (cM bN rfl d1 rfl rfl rfl y) (aD (lA (t:=0) cR j (i:=0) rfl y rfl rfl rfl) (aD (qS rfl rfl) ?_));obtain ⟨e5,z,hm⟩:=aB hm
   have d2:=cA j (i:=1) rfl z
   refine aD (cM cS rfl d2 rfl rfl rfl z) ?_;obtain ⟨d3,a8,hm⟩:=aB hm
   exact gA (i:=1) (t:=0) (ns:=[zB (a6 == 0)]) (e':=(a6 == 0:Bool)) sizeOf4 j rfl c0 rfl rfl rfl z a8 rfl rfl (eV rfl) rfl (fun cs h=>by cases h;rfl) (fun d4 (d5:aF G q (own 2 K m o l::own 4 K b a.length d3::box p 29 g::L) d4)=>(aV (cH (aC (aS (aD (cN x rfl) (aG (v:=i64 (wr (c+1))) (aH ⟨_,(zI hm).symm,bF,(Eq.trans a3 (congrArg (fun n=>zS b n a.length) (eL a8))),rfl,d5⟩))))))))
  ·exact aM
theorem aAh {a:(List bD)} {t:bQ} {R:((List Int) × Int)} (hm:qE a t=some R) (g:aF G K (L) w) (n:G.lo=0) (h:bL K a1 c2 a) (o:bL K a4 c5 t.L) (p:bL K a7 c8 t.E):
  Calls prog 8 ([zS a1 a.length c2,zA (zCa t a4 c5 a7 c8)]:List Value).toArray w (eC fun v w'=>∃ c d,v=Value.tuple #[zS c R.1.length d,i64 R.2]/\aF G K (own 2 K c d R.1::L) w'):=by
 let b:=(zC t a4 c5 a7 c8)
 refine aN func8 rfl (by kernel_rfl) (by show (2:Nat)<=18;decide) ?_;unfold qE at hm
 refine aJ (gF (v:=zA (zCa t a4 c5 a7 c8)) (vs:=b) g rfl rfl (fun j q e=>(aI (v:=zS none 0 0) (aI (v:=i64 0) (aH (aK (aJ (aD (kZ (us:=b) rE e (i:=0) rfl rfl rfl rfl) (aG (v:=zS a1 a.length c2) (bX (Kt:=K) (xs:=([a]:List (List bD))) (cs:=[zS a1 a.length c2]) (vs:=[(0,zS a1 a.length c2)]) sl_84 ez_24 rfl rfl e rfl (by kernel_rfl) rfl rfl rfl ⟨⟨a1,c2,rfl,h⟩,trivial⟩ (fun k l (m:aF G K (own 24 K k 1 ([a]:List (List bD))::box j 29 b::L) l)=>?_)))))))))))
 obtain ⟨r,u,x,y,z⟩:=aF.lendSp m (zR _) .head
 exact aM
theorem aDB {a:(List Int)} {n:Int} {R:Bool} (hm:aDy a n=some R) (d:aF G K (L) w) (e:bL K a1 c2 a):
  Calls prog 9 ([zS a1 a.length c2,i64 n]:List Value).toArray w (eC fun v w'=>v=zB R/\aF G K (L) w'):=by
 refine aN func9 rfl (by kernel_rfl) (by show (2:Nat)<=18;decide) ?_;unfold aDy at hm
 refine aJ (aI (v:=zB false) (aH (aK (aJ (aI (v:=i64 0) (aH (aO [] (fun f w=>aIF=some R/\aF G K (L) w) aM ?_)))))));obtain ⟨g,b,ho⟩:=aB hm
 exact eY [0,1] b (fun c f w=>f 5=i64 c/\aF G K (L) w) aM aM
theorem aDC {a b:bQ} {p:(List Int)} {R:Bool} (hm:wR a b p=some R) (c:aF G K (L) w) (d:bL K a1 c2 a.L) (e:bL K a4 c5 a.E) (g:bL K a7 c8 b.L) (h:bL K a10 c11 b.E) (i:bL K a13 c14 p):
  Calls prog 53 ([zA (zCa a a1 c2 a4 c5),zA (zCa b a7 c8 a10 c11),zS a13 p.length c14]:List Value).toArray w (eC fun v w'=>v=zB R/\aF G K (L) w'):=by
 exact aM
theorem aAt {t:bQ} {R:(List Arc)} (hm:xX t=some R) (hs:aF G K (L) w) (p:bL K a1 c2 t.L) (q:bL K a4 c5 t.E):
  Calls prog 127 ([zA (zCa t a1 c2 a4 c5)]:List Value).toArray w (eC fun v w'=>∃ r u,v=zS r R.length u/\aF G K (own 159 K r u R::L) w'):=by
 let l:=(zC t a1 c2 a4 c5)
 refine aN func127 rfl (by kernel_rfl) (by show (1:Nat)<=29;decide) ?_;unfold xX at hm
 refine aJ (gF (v:=zA (zCa t a1 c2 a4 c5)) (vs:=l) hs rfl rfl (fun x w8 y=>(aI (v:=zS none 0 0) (aH (aJ (aI (v:=zS none 0 0) (aH (aK (aJ (aD (bH (t':=3) fK rfl rfl) (aD (eM oJ y (i:=0) rfl rfl rfl) (aD (bC (len:=t.E.length) cP rfl) (aG (v:=i64 0) (aH (aO [] (fun f w=>∃ m z J,aFI m=some R/\f 3=zS z m.length J/\aF G K (own 159 K z J m::L) w) aM ?_)))))))))))))))
 have d6:=aF.nil (α:=Arc) y 159 K
 obtain ⟨d7,b4,ho⟩:=aB hm
 refine bO [1,7,8] b4 (fun e Z f w=>∃ g j,f 3=zS g e.length j/\f 9=i64 Z/\aF G K (own 159 K g j e::box x 29 l::L) w) aM ?_
 ·rintro e Z d8 f d9 hm hr ⟨g,j,b5,a0,a2⟩
  unfold uG at hm
  refine aJ (aD (cK a0 rfl) (aH (aK ?_)))
  rcases aL hm with ⟨a3,hm⟩|⟨a3,hm⟩
  ·refine aR a3 rfl (aW (aC (aK (cD (aJ ?_)))));obtain ⟨a,a5,hm⟩:=aB hm
   refine aD (dM cP rfl q rfl rfl a0 a5) ?_;obtain ⟨e0,b6,b8⟩:=bL.el (sz:=3) rfl q a5
   cases b8
   refine aD (jQ (t:=0) (vs:=[i64 a.F,i64 a.B,i64 a.To]) tE a2 b6 rfl rfl rfl) (bV (vs:=[i64 0,i64 0,i64 0]) zeroValue51 a2 rfl (fun b9 e1 c0=>(dJ (i:=0) (ns:=[i64 a.F,i64 a.B,i64 a.To]) (us:=[i64 a.F,i64 a.B,i64 a.To]) sizeOf51 c0 rfl rfl rfl rfl rfl (eV rfl) rfl rfl (fun c1 (c3:aF G K (box b9 51 [i64 a.F,i64 a.B,i64 a.To]::own 159 K g j e::box x 29 l::L) c1)=>(aH ?_)))));obtain ⟨e2,k,n,c4,e3⟩:=aF.lendBp c3 .head
   obtain ⟨o,c,c6,a6,c7⟩:=aF.lendBp c4 zt1
   refine cV (C:=fun w'=>∃ L',aF G o L' w') [(0,0),(1,0),(2,0),(3,0),(4,0),(5,0),(6,0),(7,0),(8,0),(9,0),(10,0),(11,0),(12,1),(13,1),(14,0)] Tryz_mixed (by kernel_rfl) (fun _ hg=>⟨_,aF.mono a6 hg⟩) (fun e4 c8=>?_)
   have b:=aF.mono a6 c8
   refine bE rfl (fun _ _=>aT b5) (bE rfl (fun _ _=>bH (t':=0) uJ rfl rfl) (bE rfl (fun _ ⟨_,b⟩=>aU (t:=0) cR b (n.mono c) rfl rfl) (bE rfl (fun _ _=>bH (t':=2) pM rfl rfl) (bE rfl (fun _ ⟨_,b⟩=>aU (t:=2) aCV b c6 rfl rfl) (bE rfl (fun _ _=>bH (t':=1) aCc rfl rfl) (bE rfl (fun _ ⟨_,b⟩=>aU (t:=1) cR b (n.mono c) rfl rfl) ?_))))));obtain ⟨d,a7,hm⟩:=aB hm
   refine bE rfl (fun _ _=>dM fD rfl (p.mono (zL k c)) rfl rfl rfl a7) ?_;obtain ⟨e5,c9,d0⟩:=bL.el (sz:=1) rfl p a7
   cases d0
   refine bE rfl (fun _ ⟨_,b⟩=>aU (t:=0) aFW b (c9.mono (zL k c)) rfl rfl) (bE rfl (fun _ _=>bH (t':=2) uK rfl rfl) (bE rfl (fun _ ⟨_,b⟩=>aU (t:=2) cR b (n.mono c) rfl rfl) (bE rfl (fun _ _=>gJ (vs:=[(0,i64 a.F),(1,str d),(2,i64 a.To)]) (cs:=[i64 a.F,str d,i64 a.To]) bs_159 rfl (by kernel_rfl)) (nT rfl (bX (Kt:=K) (xs:=([⟨a.F,d,a.To⟩]:List Arc)) (cs:=[i64 a.F,str d,i64 a.To]) (vs:=[(0,zA #[i64 a.F,str d,i64 a.To])]) aHj ez_159 rfl rfl b rfl (by kernel_rfl) rfl rfl rfl ⟨rfl,trivial⟩ (fun d1 d2 (a8:aF G o (own 159 K d1 1 ([⟨a.F,d,a.To⟩]:List Arc)::own 159 K g j e::L) d2)=>(aV (aC ⟨⟨_,a8⟩,?_⟩))))))))
   refine nT rfl ?_;obtain ⟨a9,d3,hm⟩:=aB hm
   refine eQ (i:=0) aHj underlying156 ez_159 rfl rfl a8 rfl (zL k c) (zL k c) d3 rfl rfl rfl rfl (fun _ h=>h) (fun b0 b1 d4 (b2:aF G o (own 159 K b0 b1 a9::L) d4)=>(aV (aC ⟨⟨_,b2⟩,?_⟩)))
   refine bE rfl (fun _ _=>eE (v:=zS b0 a9.length b1) rfl) (xI ?_)
   have e6:=c7 _ _ b2
   exact aM
  ·exact aM
theorem pD {a R:(List Edge)} (hm:cT a=some R) (hs:aF G K (own 51 K a1 c2 a::L) w):
  Calls prog 159 ([zS a1 a.length c2]:List Value).toArray w (eC fun v w'=>∃ a9 b0,v=zS a9 R.length b0/\aF G K (own 51 K a9 b0 R::L) w'):=by
 refine aN func159 rfl (by kernel_rfl) (by show (1:Nat)<=61;decide) ?_;unfold cT at hm
 refine aJ (aI (v:=zS none 0 0) (aH (aK (aJ (aG (v:=zS a1 a.length c2) (aD (bC (len:=a.length) cP rfl) (aD (cK rfl rfl) (aH ?_))))))))
 rcases aL hm with ⟨c3,hm⟩|⟨c3,hm⟩
 ·exact aM
 ·refine bG c3 rfl (aW (aC (aK (aJ (aI (v:=i64 1) (aH (aO [0] (fun f w=>iP a=some R/\aF G K (own 51 K a1 c2 a::L) w) aM ?_)))))));obtain ⟨f8,e0,ho⟩:=aB hm
  refine eY [0] e0 (fun e f w=>f 3=i64 e/\aF G K (own 51 K a1 c2 a::L) w) aM ?_
  ·rintro e b2 f f9 hm hr ⟨o,b⟩
   unfold cL at hm
   refine aK (aJ (aY o (aG (v:=zS a1 a.length c2) (aD (bC (len:=a.length) cP rfl) (aD (cK rfl rfl) (aH ?_))))))
   rcases aL hm with ⟨b3,hm⟩|⟨b3,hm⟩
   ·refine aR b3 rfl (aW (aC (aK (aO [0] (fun f w=>dE e=some b2/\f 3=i64 e/\aF G K (own 51 K a1 c2 a::L) w) ?_ ?_))))
    ·rintro f g0 ⟨hm,e1,e2⟩
     unfold dE at hm
     exact aC (aS (aY e1 (aD (cN rfl rfl) (aI (v:=i64 (wr (e+1))) (aH ⟨_,(zI hm).symm,bF,rfl,e2⟩)))))
    refine aK (mK (C:=fun w'=>aF G K (own 51 K a1 c2 a::L) w') Tryz_mixed (by kernel_rfl) (aF.mono b (dZ.drew _)) (cC (fun _ b=>aT (v:=zS a1 a.length c2) rfl) (cC (fun _ b=>aT o) ?_)));obtain ⟨p,a6,hm⟩:=aB hm
    have g:=cA b (i:=0) rfl a6
    refine cC (fun _ b=>cM cP rfl g rfl rfl rfl a6) (cC (fun _ b=>aCB (t:=0) (vs:=[i64 p.F,i64 p.B,i64 p.To]) tE b (i:=0) rfl a6 rfl rfl rfl rfl) (cC (fun _ b=>aT (v:=zS a1 a.length c2) rfl) (cC (fun _ b=>aT o) (cC (fun _ b=>oH rfl rfl) ?_))));obtain ⟨q,b4,hm⟩:=aB hm
    refine cC (fun _ b=>cM cP rfl g rfl rfl rfl b4) (cC (fun _ b=>aCB (t:=0) (vs:=[i64 q.F,i64 q.B,i64 q.To]) tE b (i:=0) rfl b4 rfl rfl rfl rfl) (cC (fun _ b=>R_eqlG (eq_51 (x:=p) (y:=q)) rfl rfl) (uV (fun g1 e3=>(aC ?_)))))
    rcases aL hm with ⟨b5,hm⟩|⟨b5,hm⟩
    ·refine aR b5 rfl (aJ (aG (v:=zS a1 a.length c2) (aY o ?_)));obtain ⟨j,r,hm⟩:=aB hm
     have u:=sH e3 (i:=0) rfl
     obtain ⟨k,l,z⟩:=Cut.ex 3 a1 c2 e
     refine aD (aEh cP u z rfl rfl rfl r) (aI (v:=zS k j.length l) (aH (aK (aJ (aI (v:=i64 1) (aH (aO [] (fun f w=>∃ J Z,eT J Z=some b2/\f 0=zS a1 J.length c2/\f 3=i64 Z/\aF G K (own 51 K a1 c2 J::L) w) ?_ ?_)))))))
     ·rintro f g2 ⟨J,Z,hm,b6,b7,b8⟩
      unfold eT at hm
      refine aC (aJ (aY b6 (aY b7 ?_)));obtain ⟨g3,e4,hm⟩:=aB hm
      have e5:=sH b8 (i:=0) rfl
      obtain ⟨g4,g5,b9⟩:=Cut.ex 3 a1 c2 Z
      refine aD (aEh cP e5 b9 rfl rfl rfl e4) ?_;obtain ⟨c0,c1,hm⟩:=aB hm
      refine aHf cP qT rfl b8 (i:=0) rfl b9 rfl rfl c1 (fun c4 (c5:aF G K (own 51 K a1 c2 c0::L) c4)=>(aH (aJ (aY (v:=zS a1 c0.length c2) (Eq.trans b6 (congrArg (fun n=>zS a1 n c2) (aGj c1))) (aY b7 ?_)))));obtain ⟨a7,c6,hm⟩:=aB hm
      have e6:=sH c5 (i:=0) rfl
      obtain ⟨c7,c8,c9⟩:=Cut.ex 3 a1 c2 0
      refine aD (aIB cP e6 c9 rfl rfl rfl c6) (aI (v:=zS c7 a7.length c8) (aH (tC (aCR (mG (mG (mG ?_)))))))
      have e7:=hr _ (zI hm).symm
      subst e7
      have hm:(some a7)=some R:=ho
      clear hr ho
      have g6:aF G K (own 51 K c7 c8 a7::L) c4:=aF.cutP c5 (i:=0) rfl c6 c9
      exact aM
     obtain ⟨g7,e8,ho⟩:=aB hm
     refine oI [4] e8 (fun a0 a2 a3 f w=>f 0=zS a1 a0.length c2/\f 3=i64 a2/\f 5=i64 a3/\aF G K (own 51 K a1 c2 a0::L) w) aM ?_
     ·rintro a0 a2 a3 e9 f g8 hm hr ⟨d0,d1,m,c⟩
      unfold iQ at hm
      refine aK (aJ (aY m (aG (v:=zS k j.length l) (aD (bC (len:=j.length) cP rfl) (aD (cK rfl rfl) (aH ?_))))))
      rcases aL hm with ⟨d2,hm⟩|⟨d2,hm⟩
      ·refine aR d2 rfl (aW (aC (aK (aO [4,5] (fun f w=>∃ a4 a8,dF a3 a4 a8=some e9/\f 0=zS a1 a4.length c2/\f 3=i64 a8/\aF G K (own 51 K a1 c2 a4::L) w) ?_ ?_))))
       ·rintro f g9 ⟨a4,a8,hm,f0,f1,f2⟩
        unfold dF at hm
        exact aC (aS (aY m (aD (cN rfl rfl) (aI (v:=i64 (wr (a3+1))) (aH ⟨_,(zI hm).symm,bF,f0,f1,rfl,f2⟩)))))
       refine aK (mK (C:=fun w'=>aF G K (own 51 K a1 c2 a0::L) w') Tryz_mixed (by kernel_rfl) (aF.mono c (dZ.drew _)) (cC (fun _ c=>aT (v:=zS k j.length l) rfl) (cC (fun _ c=>aT m) ?_)));obtain ⟨h0,d3,hm⟩:=aB hm
       obtain ⟨d,d4,hm⟩:=aB hm
       refine cC (fun _ c=>aGs cP g z r u rfl rfl rfl d3 rfl) (cC (fun _ c=>aCB (t:=0) (vs:=[i64 d.F,i64 d.B,i64 d.To]) tE c (i:=0) rfl d4 rfl rfl rfl rfl) (cC (fun _ c=>aT (v:=zS k j.length l) rfl) (cC (fun _ c=>aT m) (cC (fun _ c=>oH rfl rfl) ?_))));obtain ⟨h1,f3,hm⟩:=aB hm
       obtain ⟨a5,f4,hm⟩:=aB hm
       refine cC (fun _ c=>aGs cP g z r u rfl rfl rfl f3 rfl) (cC (fun _ c=>aCB (t:=0) (vs:=[i64 a5.F,i64 a5.B,i64 a5.To]) tE c (i:=0) rfl f4 rfl rfl rfl rfl) (cC (fun _ c=>R_neqG (eq_51 (x:=d) (y:=a5)) rfl rfl) (uV (fun h2 d5=>(aC ?_)))))
       rcases aL hm with ⟨d6,hm⟩|⟨d6,hm⟩
       ·refine aR d6 rfl (aJ (aY d0 (aY d1 (aG (v:=zS k j.length l) (aY m (aD (aGs cP g z r u rfl rfl rfl d3 rfl) (aD (aCB (t:=0) (vs:=[i64 d.F,i64 d.B,i64 d.To]) tE d5 (i:=0) rfl d4 rfl rfl rfl rfl) ?_)))))));obtain ⟨h3,d7,hm⟩:=aB hm
        refine aD (cM cP rfl g rfl rfl rfl d7) ?_;obtain ⟨d8,d9,hm⟩:=aB hm
        exact gA (i:=0) (t:=0) (ns:=[i64 d.F,i64 d.B,i64 d.To]) (e':=(⟨d.F,d.B,d.To⟩:Edge)) sizeOf51 d5 rfl (zR _) rfl rfl rfl d7 d9 rfl rfl (eV rfl) rfl (fun cs h=>by cases h;rfl) (fun f5 (f6:aF G K (own 51 K a1 c2 d8::L) f5)=>(aH (aS (aY d1 (aD (cN rfl rfl) (aI (v:=i64 (wr (a2+1))) (aV (cH (aC ⟨bF,d8,wr (a2+1),hm,(Eq.trans d0 (congrArg (fun n=>zS a1 n c2) (eL d9))),rfl,f6⟩)))))))))
       ·exact aM
      ·exact aM
    ·exact aM
   ·exact aM
theorem kC {a R:(List aQ)} (hm:dW a=some R) (hs:aF G K (own 9 K a1 c2 a::L) w):
  Calls prog 156 ([zS a1 a.length c2]:List Value).toArray w (eC fun v w'=>∃ a3 a4,v=zS a3 R.length a4/\aF G K (own 9 K a3 a4 R::L) w'):=by
 refine aN func156 rfl (by kernel_rfl) (by show (1:Nat)<=61;decide) ?_;unfold dW at hm
 refine aJ (aI (v:=zS none 0 0) (aH (aK (aJ (aG (v:=zS a1 a.length c2) (aD (bC (len:=a.length) fD rfl) (aD (cK rfl rfl) (aH ?_))))))))
 rcases aL hm with ⟨c3,hm⟩|⟨c3,hm⟩
 ·exact aM
 ·refine bG c3 rfl (aW (aC (aK (aJ (aI (v:=i64 1) (aH (aO [0] (fun f w=>kU a=some R/\aF G K (own 9 K a1 c2 a::L) w) aM ?_)))))));obtain ⟨f3,d5,ho⟩:=aB hm
  refine eY [0] d5 (fun d f w=>f 3=i64 d/\aF G K (own 9 K a1 c2 a::L) w) aM ?_
  ·rintro d a6 f f4 hm hr ⟨m,b⟩
   unfold dB at hm
   refine aK (aJ (aY m (aG (v:=zS a1 a.length c2) (aD (bC (len:=a.length) fD rfl) (aD (cK rfl rfl) (aH ?_))))))
   rcases aL hm with ⟨a7,hm⟩|⟨a7,hm⟩
   ·refine aR a7 rfl (aW (aC (aK (aO [0] (fun f w=>eH d=some a6/\f 3=i64 d/\aF G K (own 9 K a1 c2 a::L) w) ?_ ?_))))
    ·rintro f f5 ⟨hm,d6,d7⟩
     unfold eH at hm
     exact aC (aS (aY d6 (aD (cN rfl rfl) (aI (v:=i64 (wr (d+1))) (aH ⟨_,(zI hm).symm,bF,rfl,d7⟩)))))
    refine aK (mK (C:=fun w'=>aF G K (own 9 K a1 c2 a::L) w') Tryz_mixed (by kernel_rfl) (aF.mono b (dZ.drew _)) (cC (fun _ b=>aT (v:=zS a1 a.length c2) rfl) (cC (fun _ b=>aT m) ?_)));obtain ⟨f6,Z,hm⟩:=aB hm
    have e:=cA b (i:=0) rfl Z
    refine cC (fun _ b=>cM fD rfl e rfl rfl rfl Z) (cC (fun _ b=>lA (t:=0) aFW b (i:=0) rfl Z rfl rfl rfl) (cC (fun _ b=>aT (v:=zS a1 a.length c2) rfl) (cC (fun _ b=>aT m) (cC (fun _ b=>oH rfl rfl) ?_))));obtain ⟨f7,a8,hm⟩:=aB hm
    refine cC (fun _ b=>cM fD rfl e rfl rfl rfl a8) (cC (fun _ b=>lA (t:=0) aFW b (i:=0) rfl a8 rfl rfl rfl) (cC (fun _ b=>R_eqlS rfl rfl) (uV (fun f8 d8=>(aC ?_)))))
    rcases aL hm with ⟨a9,hm⟩|⟨a9,hm⟩
    ·refine aR a9 rfl (aJ (aG (v:=zS a1 a.length c2) (aY m ?_)));obtain ⟨g,o,hm⟩:=aB hm
     have p:=sH d8 (i:=0) rfl
     obtain ⟨j,k,q⟩:=Cut.ex 1 a1 c2 d
     refine aD (aEh fD p q rfl rfl rfl o) (aI (v:=zS j g.length k) (aH (aK (aJ (aI (v:=i64 1) (aH (aO [] (fun f w=>∃ r u,eI r u=some a6/\f 0=zS a1 r.length c2/\f 3=i64 u/\aF G K (own 9 K a1 c2 r::L) w) ?_ ?_)))))))
     ·rintro f f9 ⟨r,u,hm,b0,b1,b2⟩
      unfold eI at hm
      refine aC (aJ (aY b0 (aY b1 ?_)));obtain ⟨g0,d9,hm⟩:=aB hm
      have e0:=sH b2 (i:=0) rfl
      obtain ⟨g1,g2,b3⟩:=Cut.ex 1 a1 c2 u
      refine aD (aEh fD e0 b3 rfl rfl rfl d9) ?_;obtain ⟨b4,b5,hm⟩:=aB hm
      refine aHf fD aGu rfl b2 (i:=0) rfl b3 rfl rfl b5 (fun b6 (b7:aF G K (own 9 K a1 c2 b4::L) b6)=>(aH (aJ (aY (v:=zS a1 b4.length c2) (Eq.trans b0 (congrArg (fun n=>zS a1 n c2) (aGj b5))) (aY b1 ?_)))));obtain ⟨a0,b8,hm⟩:=aB hm
      have e1:=sH b7 (i:=0) rfl
      obtain ⟨b9,c0,c1⟩:=Cut.ex 1 a1 c2 0
      refine aD (aIB fD e1 c1 rfl rfl rfl b8) (aI (v:=zS b9 a0.length c0) (aH (tC (aCR (mG (mG (mG ?_)))))))
      have e2:=hr _ (zI hm).symm
      subst e2
      have hm:(some a0)=some R:=ho
      clear hr ho
      have g3:aF G K (own 9 K b9 c0 a0::L) b6:=aF.cutP b7 (i:=0) rfl b8 c1
      exact aM
     obtain ⟨g4,e3,ho⟩:=aB hm
     refine oI [4] e3 (fun x y z f w=>f 0=zS a1 x.length c2/\f 3=i64 y/\f 5=i64 z/\aF G K (own 9 K a1 c2 x::L) w) aM ?_
     ·rintro x y z e4 f g5 hm hr ⟨c4,c5,l,c⟩
      unfold dA at hm
      refine aK (aJ (aY l (aG (v:=zS j g.length k) (aD (bC (len:=g.length) fD rfl) (aD (cK rfl rfl) (aH ?_))))))
      rcases aL hm with ⟨c6,hm⟩|⟨c6,hm⟩
      ·refine aR c6 rfl (aW (aC (aK (aO [4,5] (fun f w=>∃ J a2,cZ z J a2=some e4/\f 0=zS a1 J.length c2/\f 3=i64 a2/\aF G K (own 9 K a1 c2 J::L) w) ?_ ?_))))
       ·rintro f g6 ⟨J,a2,hm,e5,e6,e7⟩
        unfold cZ at hm
        exact aC (aS (aY l (aD (cN rfl rfl) (aI (v:=i64 (wr (z+1))) (aH ⟨_,(zI hm).symm,bF,e5,e6,rfl,e7⟩)))))
       refine aK (mK (C:=fun w'=>aF G K (own 9 K a1 c2 x::L) w') Tryz_mixed (by kernel_rfl) (aF.mono c (dZ.drew _)) (cC (fun _ c=>aT (v:=zS j g.length k) rfl) (cC (fun _ c=>aT l) ?_)));obtain ⟨g7,c7,hm⟩:=aB hm
       obtain ⟨c8,c9,hm⟩:=aB hm
       refine cC (fun _ c=>aGs fD e q o p rfl rfl rfl c7 rfl) (cC (fun _ c=>lA (t:=0) aFW c (i:=0) rfl c9 rfl rfl rfl) (cC (fun _ c=>aT (v:=zS j g.length k) rfl) (cC (fun _ c=>aT l) (cC (fun _ c=>oH rfl rfl) ?_))));obtain ⟨g8,e8,hm⟩:=aB hm
       obtain ⟨g9,e9,hm⟩:=aB hm
       refine cC (fun _ c=>aGs fD e q o p rfl rfl rfl e8 rfl) (cC (fun _ c=>lA (t:=0) aFW c (i:=0) rfl e9 rfl rfl rfl) (cC (fun _ c=>R_neqS rfl rfl) (uV (fun h0 d0=>(aC ?_)))))
       rcases aL hm with ⟨d1,hm⟩|⟨d1,hm⟩
       ·refine aR d1 rfl (aJ (aY c4 (aY c5 (aG (v:=zS j g.length k) (aY l (aD (aGs fD e q o p rfl rfl rfl c7 rfl) (aD (lA (t:=0) aFW d0 (i:=0) rfl c9 rfl rfl rfl) ?_)))))));obtain ⟨h1,d2,hm⟩:=aB hm
        refine aD (cM fD rfl e rfl rfl rfl d2) ?_;obtain ⟨d3,d4,hm⟩:=aB hm
        exact gA (i:=0) (t:=0) (ns:=[str c8]) (e':=(c8:aQ)) sizeOf9 d0 rfl (zR _) rfl rfl rfl d2 d4 rfl rfl (eV rfl) rfl (fun cs h=>by cases h;rfl) (fun f0 (f1:aF G K (own 9 K a1 c2 d3::L) f0)=>(aH (aS (aY c5 (aD (cN rfl rfl) (aI (v:=i64 (wr (y+1))) (aV (cH (aC ⟨bF,d3,wr (y+1),hm,(Eq.trans c4 (congrArg (fun n=>zS a1 n c2) (eL d4))),rfl,f1⟩)))))))))
       ·exact aM
      ·exact aM
    ·exact aM
   ·exact aM
theorem kW {a:(List aQ)} {b:aQ} {R:Int} (hm:eG a b=some R) (e:aF G K (L) w) (g:bL K a1 c2 a):
  Calls prog 157 ([zS a1 a.length c2,str b]:List Value).toArray w (eC fun v w'=>v=i64 R/\aF G K (L) w'):=by
 refine aN func157 rfl (by kernel_rfl) (by show (2:Nat)<=19;decide) ?_;unfold eG at hm
 refine aJ (aI (v:=i64 0) (aH (aK (aJ (aG (v:=zS a1 a.length c2) (aD (bC (len:=a.length) fD rfl) (aG (v:=i64 0) (aH (aO [] (fun f w=>mB=some R/\aF G K (L) w) aM ?_)))))))));obtain ⟨h,c,ho⟩:=aB hm
 exact eY [0,1,7] c (fun d f w=>f 8=i64 d/\aF G K (L) w) aM aM
theorem aMP {b c:Int} {a2:(List aQ)} {Z:(List Arc)} {R:bQ} (hm:i_lts b c a2 Z=some R) (hs:aF G K (L) w) (h3:bL K a1 c2 a2) (h6:bL K a4 c5 Z):
  Calls prog 128 ([i64 b,i64 c,zS a1 a2.length c2,zS a4 Z.length c5]:List Value).toArray w (eC fun v w'=>∃ a9 b0 b1 b2,v=zA (zCa R a9 b0 b1 b2)/\aF G K (own 9 K a9 b0 R.L::own 51 K b1 b2 R.E::L) w'):=by
 let j:=zG
 refine aN func128 rfl (by kernel_rfl) (by show (4:Nat)<=55;decide) ?_;unfold i_lts at hm
 refine aJ (bV (vs:=j) zeroValue29 hs rfl (fun m w8 d3=>(aH (aJ (aG (v:=i64 b) (aG (v:=i64 c) (bX (Kt:=K) (xs:=([([116,97,117]:aQ)]:List aQ)) (cs:=[str ([116,97,117]:aQ)]) (vs:=[(0,str ([116,97,117]:aQ))]) fD aGu rfl rfl d3 rfl (by kernel_rfl) rfl rfl rfl ⟨rfl,trivial⟩ (fun d4 d5 (d6:aF G K (own 9 K d4 1 ([([116,97,117]:aQ)]:List aQ)::box m 29 j::L) d5)=>(aG (v:=zS a1 a2.length c2) ?_)))))))));obtain ⟨o,d7,hm⟩:=aB hm
 refine aDs (i:=0) fD underlying26 aGu rfl rfl d6 rfl (zR _) h3 d7 rfl rfl rfl rfl (fun k l d8 (d9:aF G K (own 9 K k l o::box m 29 j::L) d8)=>(aD (gJ (vs:=[(0,i64 b),(1,i64 c),(2,zS k o.length l)]) (cs:=[i64 b,i64 c,zS k o.length l,zS none 0 0]) bs_29 rfl (by kernel_rfl)) (bV (vs:=j) zeroValue29 d9 rfl (fun p h9 e0=>(dJ (i:=0) (ns:=[i64 b,i64 c,zS k o.length l,zS none 0 0]) (us:=[i64 b,i64 c,zS k o.length l,zS none 0 0]) sizeOf29 e0 rfl rfl rfl rfl rfl (eV rfl) rfl rfl (fun b3 (b4:aF G K (box p 29 [i64 b,i64 c,zS k o.length l,zS none 0 0]::own 9 K k l o::box m 29 j::L) b3)=>(aH (aJ (aD (bH (t':=2) pM rfl rfl) (aD (eM aCV b4 (i:=0) rfl rfl rfl) ?_))))))))))
 have e1:aF G K (own 9 K k l o::box p 29 [i64 b,i64 c,zS k o.length l,zS none 0 0]::box m 29 j::L) b3:=(aF.arr 2 [1,0] b4 rfl)
 obtain ⟨a3,e2,hm⟩:=aB hm
 refine aP (vs:=[zS k o.length l,Value.func (.func 155) #[] #[]]) call154 rfl (lib_SortStr e1 e2) ?_
 rintro _ e3 ⟨rfl,e4,e5⟩
 have b5:aF G K (own 9 K k l a3::box p 29 [i64 b,i64 c,zS k a3.length l,zS none 0 0]::box m 29 j::L) e3:=by rw [←e4];exact e5
 refine aH (aJ (aD (bH (t':=2) pM rfl rfl) (aD (eM aCV b5 (i:=1) rfl rfl rfl) ?_)));obtain ⟨d,e6,hm⟩:=aB hm
 refine aP (vs:=[zS k a3.length l]) call156 rfl (kC e6 b5) ?_
 rintro _ i0 ⟨e,g,rfl,e7⟩
 refine aD (bH (t':=2) pM rfl rfl) (dJ (i:=1) (ns:=[zS e d.length g]) (us:=[i64 b,i64 c,zS e d.length g,zS none 0 0]) sizeOf26 e7 rfl rfl rfl rfl rfl (eV rfl) rfl rfl (fun e8 (e9:aF G K (own 9 K e g d::box p 29 [i64 b,i64 c,zS e d.length g,zS none 0 0]::box m 29 j::L) e8)=>(aH (aK (aJ (aG (v:=zS a4 Z.length c5) (aD (bC (len:=Z.length) aHj rfl) (aG (v:=i64 0) (aH (aO [8,9] (fun f w=>∃ a0 q r,aGI b c d a0=some R/\aF G K (own 51 K q r a0::own 9 K e g d::box p 29 [i64 b,i64 c,zS e d.length g,zS q a0.length r]::box m 29 j::L) w) ?_ ?_))))))))))
 ·rintro f i1 ⟨a0,q,r,hm,b6⟩
  unfold aGI at hm
  refine aC (aJ (aD (bH (t':=3) fK rfl rfl) (aD (eM oJ b6 (i:=2) rfl rfl rfl) ?_)));obtain ⟨b8,f0,hm⟩:=aB hm
  refine aP (vs:=[zS q a0.length r,Value.func (.func 44) #[] #[]]) call158 rfl (lib_SortEdge b6 f0) ?_
  rintro _ f1 ⟨rfl,f2,f3⟩
  have i2:aF G K (own 51 K q r b8::own 9 K e g d::box p 29 [i64 b,i64 c,zS e d.length g,zS q b8.length r]::box m 29 j::L) f1:=by rw [←f2];exact f3
  exact aM
 have i3:=aF.nil (α:=Edge) e9 51 K
 obtain ⟨i4,f4,ho⟩:=aB hm
 refine bO [8,9,25,26] f4 (fun u b9 f w=>∃ x y,f 27=i64 b9/\aF G K (own 51 K x y u::own 9 K e g d::box p 29 [i64 b,i64 c,zS e d.length g,zS x u.length y]::box m 29 j::L) w) aM ?_
 ·rintro u b9 i5 f i6 hm hr ⟨x,y,c0,c1⟩
  unfold aEF at hm
  refine aJ (aD (cK c0 rfl) (aH (aK ?_)))
  rcases aL hm with ⟨c3,hm⟩|⟨c3,hm⟩
  ·refine aR c3 rfl (aW (aC (aK (cD (aJ ?_)))));obtain ⟨a,c4,hm⟩:=aB hm
   refine aD (dM aHj rfl h6 rfl rfl c0 c4) ?_;obtain ⟨i7,f5,f6⟩:=bL.el (sz:=3) rfl h6 c4
   cases f6
   refine aD (jQ (t:=0) (vs:=[i64 a.from_,str a.label,i64 a.to_]) ag_159 c1 f5 rfl rfl rfl) (bV (vs:=[i64 0,str ([]:aQ),i64 0]) zeroValue159 c1 rfl (fun f7 i8 f8=>(dJ (i:=0) (ns:=[i64 a.from_,str a.label,i64 a.to_]) (us:=[i64 a.from_,str a.label,i64 a.to_]) sizeOf159 f8 rfl rfl rfl rfl rfl (eV rfl) rfl rfl (fun f9 (g0:aF G K (box f7 159 [i64 a.from_,str a.label,i64 a.to_]::own 51 K x y u::own 9 K e g d::box p 29 [i64 b,i64 c,zS e d.length g,zS x u.length y]::box m 29 j::L) f9)=>(aH ?_)))))
   obtain ⟨i9,a5,a6,g1,j0⟩:=aF.lendBp g0 .head
   obtain ⟨a7,z,c6,c7,g2⟩:=aF.lendBp g1 zt2
   refine cV (C:=fun w'=>∃ L',aF G a7 L' w') [(0,0),(1,0),(2,0),(3,0),(4,0),(5,0),(6,0),(7,0),(9,0),(10,0),(8,1),(11,0),(12,1),(13,1),(14,0),(15,2)] Tryz_mixed (by kernel_rfl) (fun _ hg=>⟨_,aF.mono c7 hg⟩) (fun j1 g3=>?_)
   have n:=aF.mono c7 g3
   refine bE rfl (fun _ _=>bH (t':=3) fK rfl rfl) (bE rfl (fun _ ⟨_,n⟩=>aU (t:=3) oJ n c6 rfl rfl) (bE rfl (fun _ _=>bH (t':=0) aLF rfl rfl) (bE rfl (fun _ ⟨_,n⟩=>aU (t:=0) cR n (a6.mono z) rfl rfl) (bE rfl (fun _ _=>bH (t':=2) pM rfl rfl) (bE rfl (fun _ ⟨_,n⟩=>aU (t:=2) aCV n c6 rfl rfl) (bE rfl (fun _ _=>bH (t':=1) aLG rfl rfl) (bE rfl (fun _ ⟨_,n⟩=>aU (t:=1) aFW n (a6.mono z) rfl rfl) (bE rfl (fun _ _=>bH (t':=2) aLH rfl rfl) (bE rfl (fun _ ⟨_,n⟩=>aU (t:=2) cR n (a6.mono z) rfl rfl) (nT rfl ?_))))))))))
   obtain ⟨j2,j3,g4,g5,g6⟩:=aF.lendSp n (zL a5 z) zt1
   obtain ⟨J,g7,hm⟩:=aB hm
   refine aP (vs:=[zS e d.length g,str a.label]) call157 rfl (kW g7 g5 g4) ?_
   rintro _ j4 ⟨rfl,g8⟩
   have c8:=g6 _ _ g8
   refine aV (aC ⟨⟨_,c8⟩,?_⟩)
   refine bE rfl (fun _ _=>gJ (vs:=[(0,i64 a.from_),(1,i64 J),(2,i64 a.to_)]) (cs:=[i64 a.from_,i64 J,i64 a.to_]) aIC rfl (by kernel_rfl)) (nT rfl (bX (Kt:=K) (xs:=([⟨a.from_,J,a.to_⟩]:List Edge)) (cs:=[i64 a.from_,i64 J,i64 a.to_]) (vs:=[(0,zA #[i64 a.from_,i64 J,i64 a.to_])]) cP qT rfl rfl c8 rfl (by kernel_rfl) rfl rfl rfl ⟨rfl,trivial⟩ (fun g9 h0 (c9:aF G a7 (own 51 K g9 1 ([⟨a.from_,J,a.to_⟩]:List Edge)::own 9 K e g d::own 51 K x y u::box m 29 j::L) h0)=>(aV (aC ⟨⟨_,c9⟩,?_⟩)))))
   refine nT rfl ?_;obtain ⟨h1,h2,hm⟩:=aB hm
   refine eQ (i:=1) cP underlying27 qT rfl rfl c9 rfl (zL a5 z) (zL a5 z) h2 rfl rfl rfl rfl (fun _ h=>h) (fun h4 h5 h7 (d0:aF G a7 (own 9 K e g d::own 51 K h4 h5 h1::box m 29 j::L) h7)=>(aV (aC ⟨⟨_,d0⟩,?_⟩)))
   refine bE rfl (fun _ _=>bH (t':=3) fK rfl rfl) ?_
   have j5:=g2 _ _ d0
   exact aM
  ·exact aM
theorem sZ {a:(List (List aQ))} {R:(List aQ)} (hm:eB a=some R) (hs:aF G K (L) w) (h3:bL K a1 c2 a):
  Calls prog 129 ([zS a1 a.length c2]:List Value).toArray w (eC fun v w'=>∃ g h,v=zS g R.length h/\aF G K (own 9 K g h R::L) w'):=by
 refine aN func129 rfl (by kernel_rfl) (by show (1:Nat)<=36;decide) ?_;unfold eB at hm
 refine aJ (aI (v:=zS none 0 0) (aH (aJ (aI (v:=i64 0) (aH (aK (aJ (aG (v:=zS a1 a.length c2) (aD (bC (len:=a.length) aKH rfl) (aG (v:=i64 0) (aH (aO [0] (fun f w=>∃ b,eN a b=some R/\f 3=i64 b/\aF G K (L) w) ?_ ?_))))))))))))
 ·rintro f w6 ⟨b,hm,q,r⟩
  unfold eN at hm
  refine aC (aJ (aY q ?_));obtain ⟨t,u,hm⟩:=aB hm
  refine aP (vs:=[zS none 0 0,i64 b]) call160 rfl (lib_GrowStr r (aGl (α:=aQ) _) u) ?_
  rintro _ a7 ⟨x,y,rfl,a8⟩
  refine aI (v:=zS x t.length y) (aH (aK (aJ (aG (v:=zS a1 a.length c2) (aD (bC (len:=a.length) aKH rfl) (aG (v:=i64 0) (aH (aO [] (fun f w=>∃ d i j,lE d=some R/\f 6=zS i d.length j/\aF G K (own 9 K i j d::L) w) aM ?_))))))));obtain ⟨a9,z,ho⟩:=aB hm
  exact bO [25,26] z (fun k J f w=>∃ l m,f 6=zS l k.length m/\f 27=i64 J/\aF G K (own 9 K l m k::L) w) aM aM
 obtain ⟨b0,Z,ho⟩:=aB hm
 refine bO [0,9,10] Z (fun n c f w=>f 3=i64 n/\f 11=i64 c/\aF G K (L) w) aM ?_
 ·rintro n c a0 f b1 hm hr ⟨b2,o,b3⟩
  unfold bB at hm
  refine aJ (aD (cK o rfl) (aH (aK ?_)))
  rcases aL hm with ⟨p,hm⟩|⟨p,hm⟩
  ·refine aR p rfl (aW (aC (aK (aO [0,9,10,11] (fun f w=>∃ e,dH c e=some a0/\f 3=i64 e/\aF G K (L) w) ?_ ?_))))
   ·rintro f b4 ⟨e,hm,a2,a3⟩
    unfold dH at hm
    exact aC (aS (aD (cN o rfl) (aG (v:=i64 (wr (c+1))) (aH ⟨_,(zI hm).symm,bF,a2,rfl,a3⟩))))
   exact aM
  ·exact aM
theorem aGM {a b R:bQ} (hm:aGJ a b=some R) (hs:aF G K (L) w) (o:bL K a1 c2 a.L) (h6:bL K a4 c5 a.E) (p:bL K a7 c8 b.L) (b3:bL K a10 c11 b.E):
  Calls prog 97 ([zA (zCa a a1 c2 a4 c5),zA (zCa b a7 c8 a10 c11)]:List Value).toArray w (eC fun v w'=>∃ q r u x,v=zA (zCa R q r u x)/\aF G K (own 9 K q r R.L::own 51 K u x R.E::L) w'):=by
 let e:=(zC b a7 c8 a10 c11)
 let g:=(zC a a1 c2 a4 c5)
 let h:=zG
 refine aN func97 rfl (by kernel_rfl) (by show (2:Nat)<=49;decide) ?_;unfold aGJ at hm
 refine aJ (gF (v:=zA (zCa a a1 c2 a4 c5)) (vs:=g) hs rfl rfl (fun y d5 b4=>(gF (v:=zA (zCa b a7 c8 a10 c11)) (vs:=e) b4 rfl rfl (fun z d6 b5=>(bV (vs:=h) zeroValue29 b5 rfl (fun l d7 J=>(aH (aJ (aD (kZ (us:=g) rE J (i:=2) rfl rfl rfl rfl) ?_)))))))));obtain ⟨b6,b7,hm⟩:=aB hm
 refine aP (vs:=[zA (zCa a a1 c2 a4 c5)]) call127 rfl (aAt b7 J o h6) ?_
 rintro _ d8 ⟨b8,b9,rfl,Z⟩
 refine aI (v:=zS b8 b6.length b9) (aH (aK (aJ (aD (kZ (us:=e) rE Z (i:=2) rfl rfl rfl rfl) ?_))));obtain ⟨a0,c0,hm⟩:=aB hm
 refine aP (vs:=[zA (zCa b a7 c8 a10 c11)]) call127 rfl (aAt c0 Z p b3) ?_
 rintro _ d9 ⟨c1,c3,rfl,e0⟩
 refine aD (bC (len:=a0.length) aHj rfl) (aG (v:=i64 0) (aH (aO [2,3,4] (fun f w=>∃ d j k,aDz a b d=some R/\f 5=zS j d.length k/\aF G K (own 159 K j k d::box l 29 h::box z 29 e::box y 29 g::L) w) ?_ ?_)))
 ·rintro f e1 ⟨d,j,k,hm,c4,c6⟩
  unfold aDz at hm
  refine aC (aK ?_);obtain ⟨e2,c7,a2,c9,e3⟩:=aF.lendBp c6 zt2
  obtain ⟨a3,m,n,a5,e4⟩:=aF.lendBp c9 zt2
  refine cV (C:=fun w'=>∃ L',aF G a3 L' w') [(0,0),(1,0),(2,0),(3,0),(4,0),(5,0),(6,0),(7,0),(8,0),(9,0),(10,0),(13,0),(11,1),(12,1),(14,1),(15,2)] Tryz_mixed (by kernel_rfl) (fun _ hg=>⟨_,aF.mono a5 hg⟩) (fun e5 d0=>?_)
  have c:=aF.mono a5 d0
  refine bE rfl (fun _ _=>bH (t':=0) fA rfl rfl) (bE rfl (fun _ ⟨_,c⟩=>aU (t:=0) cR c n rfl rfl) (bE rfl (fun _ _=>bH (t':=0) fA rfl rfl) (bE rfl (fun _ ⟨_,c⟩=>aU (t:=0) cR c (a2.mono m) rfl rfl) (bE rfl (fun _ _=>cN rfl rfl) (bE rfl (fun _ _=>bH (t':=1) aFg rfl rfl) (bE rfl (fun _ ⟨_,c⟩=>aU (t:=1) cR c n rfl rfl) (bE rfl (fun _ _=>bH (t':=2) pM rfl rfl) (bE rfl (fun _ ⟨_,c⟩=>aU (t:=2) aCV c n rfl rfl) (bE rfl (fun _ _=>bH (t':=2) pM rfl rfl) (bE rfl (fun _ ⟨_,c⟩=>aU (t:=2) aCV c (a2.mono m) rfl rfl) (bE rfl (fun _ _=>aT c4) (nT rfl (bX (Kt:=K) (xs:=([a.L,b.L]:List (List aQ))) (cs:=[zS a1 a.L.length c2,zS a7 b.L.length c8]) (vs:=[(0,zS a1 a.L.length c2),(1,zS a7 b.L.length c8)]) aKH ez_26 rfl rfl c rfl (by kernel_rfl) rfl rfl rfl ⟨⟨a1,c2,rfl,o⟩,⟨a7,c8,rfl,p⟩,trivial⟩ (fun d1 d2 (a6:aF G a3 (own 26 K d1 2 ([a.L,b.L]:List (List aQ))::own 159 K j k d::box l 29 h::L) d2)=>(aV (aC ⟨⟨_,a6⟩,?_⟩))))))))))))))))
  refine nT rfl ?_;obtain ⟨e6,e7,e8,e9,f0⟩:=aF.lendSp a6 (zL c7 m) .head
  exact aM
 obtain ⟨f1,d3,ho⟩:=aB hm
 exact bO [2,3,4,11,12] d3 (fun a8 d4 f w=>∃ a9 b0,f 5=zS a9 a8.length b0/\f 13=i64 d4/\aF G K (own 159 K c1 c3 a0::own 159 K a9 b0 a8::box l 29 h::box z 29 e::box y 29 g::L) w) aM aM
theorem aLN {a b:bQ} {R:(List Int)} (hm:aKJ a b=some R) (hs:aF G K (L) w) (h3:bL K a1 c2 a.L) (h6:bL K a4 c5 a.E) (h9:bL K a7 c8 b.L) (a6:bL K a10 c11 b.E):
  Calls prog 54 ([zA (zCa a a1 c2 a4 c5),zA (zCa b a7 c8 a10 c11),Value.func (.func 22) #[] #[]]:List Value).toArray w (eC fun v w'=>∃ g n o,v=zS n R.length o/\Hp.le K g/\bL g n o R/\aF G g (L) w'):=by
 let d:=(zC b a7 c8 a10 c11)
 let e:=(zC a a1 c2 a4 c5)
 refine aN func54 rfl (by kernel_rfl) (by show (3:Nat)<=12;decide) ?_;unfold aKJ at hm
 refine aJ (gF (v:=zA (zCa a a1 c2 a4 c5)) (vs:=e) hs rfl rfl (fun p c3 a8=>(gF (v:=zA (zCa b a7 c8 a10 c11)) (vs:=d) a8 rfl rfl (fun q c4 h=>(aI (v:=zS none 0 0) (aH (aJ (aG (v:=Value.func (.func 22) #[] #[]) (aD (kZ (us:=e) rE h (i:=1) rfl rfl rfl rfl) (aD (kZ (us:=d) rE h (i:=0) rfl rfl rfl rfl) ?_))))))))));obtain ⟨c,a9,hm⟩:=aB hm
 refine aP (vs:=[zA (zCa a a1 c2 a4 c5),zA (zCa b a7 c8 a10 c11)]) call97 rfl (aGM a9 h h3 h6 h9 a6) ?_
 rintro _ r ⟨u,x,j,k,rfl,b0⟩
 obtain ⟨b1,y,b2,l⟩:=aF.giveSp b0 (zR _) .head
 replace l:aF G b1 (own 51 K j k c.E::box q 29 d::box p 29 e::L) r:=l
 obtain ⟨b3,z,b4,m⟩:=aF.giveSp l y .head
 replace m:aF G b3 (box q 29 d::box p 29 e::L) r:=m
 obtain ⟨b5,b6,hm⟩:=aB hm
 refine mT (vs:=[zA (zCa c u x j k)]) (caps:=[]) (us:=[zA (zCa c u x j k)]) rfl call22 rfl rfl (aCs (t:=⟨c.N,c.I,c.L,c.E⟩) b6 m (b2.mono z) b4) ?_
 rintro _ c6 ⟨b7,J,Z,rfl,b8,b9,c0⟩
 refine aI (v:=zS J b5.length Z) (aH ?_);obtain rfl:=zI hm
 exact tC (pJ results54 rfl ⟨b7,J,Z,rfl,(zL (zL y z) b8),b9,(aF.arr 2 [] c0 rfl)⟩)
end Gv
