/- Walks, printed by program. -/
import Derived.Test.YtmlgcbjkfcapaaaGreatDoorFJWk5
set_option linter.all false
namespace Gv
open Go.Value renaming slice→zS,bool→zB,pointer→zP,agg→zA,map→zM
open Option.some renaming inj→zI
open Gv.Hp renaming le_trans→zL,le_refl→zR
open Go Go.Proofs
set_option maxRecDepth 20000
set_option maxHeartbeats 40000000
variable {G:Env} {K:Hp} {L:List oT} {w:World} {a1 a4 a7 a10 a13 a16 a21 a19 a24:Option Addr} {c2 c5 c8 c11 c14 c17:Nat}
theorem vK {t:cH} {o:(List Int)} {p:bH} {R:(List Int)} (hs:aK G K (L) w) (h3:cL K a1 c2 t.L) (h6:cL K a4 c5 t.E) (h9:cL K a7 c8 o) (c:oN t o p=some R):
  Calls Tryz.prog 122 ([zA (zCa t a1 c2 a4 c5),zS a7 o.length c8,str p]:List Value).toArray w (gO fun v w'=>∃ (c1:Option Addr) (c3:Nat),v=zS c1 R.length c3∧aK G K (aV 2 K c1 c3 R::L) w'):=by
 let q:=(zC t a1 c2 a4 c5)
 refine aS Tryz.func122 rfl (by kernel_rfl) (by show (3:Nat)≤41;decide) ?_
 unfold oN at c
 refine aI (eE (v:=zA (zCa t a1 c2 a4 c5)) (vs:=q) hs rfl rfl (fun j i3 c4=>(aF (v:=zS none 0 0) (aG (aI (aF (v:=zS none 0 0) (aG (aN (aI (aC (bG (t':=3) cK rfl rfl) (aC (cF fS c4 (i:=0) rfl rfl rfl) (aC (bT (len:=t.E.length) bY rfl) (aM (v:=i64 0) (aG (bC (fun f w=>∃ (y:List Int) (r:Option Addr) (u:Nat),oX y=some R∧f 7=zS r y.length u∧aK G K (aV 2 K r u y::L) w) ?_ ?_)))))))))))))))
 ·rintro f i4 ⟨y,r,u,c,c6,e4⟩
  unfold oX at c
  refine aA (aI (aO c6 ?_))
  obtain ⟨c7,e5,c⟩:=aB c
  refine aU (vs:=[zS r y.length u]) Tryz.call184 rfl (aEO e4 e5) ?_
  rintro _ i5 ⟨rfl,e6,e7⟩
  refine aG (aI (aO (v:=zS r c7.length u) (Eq.trans c6 (congrArg (fun n=>zS r n u) e6)) ?_))
  obtain ⟨e8,e9,c⟩:=aB c
  refine aU (vs:=[zS r c7.length u]) Tryz.call191 rfl (rU e7 e9) ?_
  rintro _ i6 ⟨c9,d0,rfl,f0⟩
  refine aF (v:=zS c9 e8.length d0) (aG ?_)
  obtain rfl:=zI c
  exact bF (bB Tryz.results122 rfl ⟨c9,d0,rfl,f0⟩)
 have f2:=aK.nil (α:=Int) c4 2 K
 obtain ⟨i7,f3,c⟩:=aB c
 refine cA f3 (fun (s:(List Int × Int)) f w=>match s with|(d,k)=>∃ (l:Option Addr) (m:Nat),f 1=zS a7 o.length c8∧f 2=str p∧f 3=zP (some ⟨j,0,none⟩)∧f 7=zS l d.length m∧f 11=zS a4 t.E.length c5∧f 12=i64 (t.E.length:Int)∧f 13=i64 k∧aK G K (aV 2 K l m d::box j 29 q::L) w) ?_ ?_
 ·exact ⟨none,0,rfl,rfl,rfl,rfl,rfl,rfl,rfl,f2⟩
 ·rintro ⟨d,k⟩ a2 f i8 a f4 ⟨l,m,a3,a5,a6,a8,a9,b0,V,b1⟩
  replace a:mA t o p d k=some a2:=a
  unfold mA at a
  refine aI (aC (cJ V b0) (aG (aN ?_)))
  rcases aH a with ⟨b2,a⟩|⟨b2,a⟩
  ·refine aL b2 rfl (aY (aA (aN (bC (fun f w=>∃ (z:List Int) (Z:Option Addr) (a0:Nat),oY k z=some a2∧f 1=zS a7 o.length c8∧f 2=str p∧f 3=zP (some ⟨j,0,none⟩)∧f 7=zS Z z.length a0∧f 11=zS a4 t.E.length c5∧f 12=i64 (t.E.length:Int)∧f 13=i64 k∧aK G K (aV 2 K Z a0 z::box j 29 q::L) w) ?_ ?_))))
   ·rintro f i9 ⟨z,Z,a0,a,f5,f6,f7,f8,f9,g0,g1,g2⟩
    unfold oY at a
    exact aA (aP (aC (cM g1 rfl) (aM (v:=i64 (wr (k+1))) (aG ⟨(z,wr (k+1)),(zI a).symm,Z,a0,f5,f6,f7,f8,f9,g0,rfl,g2⟩))))
   refine aI ?_
   obtain ⟨b,d1,a⟩:=aB a
   refine aC (cT bY rfl h6 a9 rfl V d1) ?_
   obtain ⟨j0,g3,g4⟩:=cL.el (sz:=3) rfl h6 d1
   cases g4
   refine aC (gG (t:=0) (vs:=[i64 b.F,i64 b.B,i64 b.To]) iJ b1 g3 rfl rfl rfl) (bW (vs:=[i64 0,i64 0,i64 0]) Tryz.zeroValue63 b1 rfl (fun J j1 g5=>(cD (i:=0) (ns:=[i64 b.F,i64 b.B,i64 b.To]) (us:=[i64 b.F,i64 b.B,i64 b.To]) Tryz.sizeOf63 g5 rfl rfl rfl rfl rfl (dK rfl) rfl rfl (fun g6 (x:aK G K (box J 63 [i64 b.F,i64 b.B,i64 b.To]::aV 2 K l m d::box j 29 q::L) g6)=>(aG (aN (cN (fun f w=>∃ (b3:Bool),oZ d k b b3=some a2∧f 1=zS a7 o.length c8∧f 2=str p∧f 3=zP (some ⟨j,0,none⟩)∧f 7=zS l d.length m∧f 9=zP (some ⟨J,0,none⟩)∧f 11=zS a4 t.E.length c5∧f 12=i64 (t.E.length:Int)∧f 13=i64 k∧f 30=zB b3∧aK G K (box J 63 [i64 b.F,i64 b.B,i64 b.To]::aV 2 K l m d::box j 29 q::L) w) ?_ ?_)))))))
   ·rintro f j2 ⟨b3,a,d2,d3,d4,d5,g7,d6,d7,d8,d9,b4⟩
    unfold oZ at a
    refine aA ?_
    rcases aH a with ⟨b5,a⟩|⟨b5,a⟩
    ·refine aL b5 d9 (aP (aO d5 (aC (bG (t':=2) eM g7 rfl) (aC (cF cE b4 (i:=0) rfl rfl rfl) (dJ (Kt:=K) (xs:=([b.To]:List Int)) (cs:=[i64 b.To]) (vs:=[(0,i64 b.To)]) cG qE rfl rfl b4 rfl (by kernel_rfl) rfl rfl rfl ⟨rfl,trivial⟩ (fun g8 g9 (h0:aK G K (aV 2 K g8 1 ([b.To]:List Int)::box J 63 [i64 b.F,i64 b.B,i64 b.To]::aV 2 K l m d::box j 29 q::L) g9)=>?_))))))
     obtain ⟨b6,h1,a⟩:=aB a
     exact iA (i:=1) cG Tryz.underlying38 qE rfl rfl h0 rfl (zR _) (zR _) h1 rfl rfl rfl rfl (fun _ h=>h) (fun b7 b8 h2 (h4:aK G K (box J 63 [i64 b.F,i64 b.B,i64 b.To]::aV 2 K b7 b8 b6::box j 29 q::L) h2)=>(aF (v:=zS b7 b6.length b8) (bK (bE (aA ⟨b6,b7,b8,a,d2,d3,d4,rfl,d6,d7,d8,(aK.arr 1 [] h4 rfl)⟩)))))
    ·exact aJ b5 d9 (aY (bE (aA ⟨d,l,m,a,d2,d3,d4,d5,d6,d7,d8,(aK.arr 1 [] b4 rfl)⟩)))
   refine aP (aC (bG (t':=2) gI a6 rfl) (aC (cF mG x (i:=2) rfl rfl rfl) (aC (bG (t':=1) gB rfl rfl) (aC (cF cE x (i:=0) rfl rfl rfl) ?_))))
   obtain ⟨h5,e0,a⟩:=aB a
   refine aC (cT cO rfl h3 rfl rfl rfl e0) ?_
   obtain ⟨j3,h7,h8⟩:=cL.el (sz:=1) rfl h3 e0
   cases h8
   refine aC (bJ (t:=0) pU x h7 rfl rfl) (aO a5 (aC (vR rfl rfl) (aM (v:=zB (h5 == p)) ?_)))
   rcases aH a with ⟨e,a⟩|⟨e,a⟩
   ·refine bA e rfl rfl (aO a3 (bA e rfl rfl (aC (bG (t':=0) fJ rfl rfl) (bA e rfl rfl (aC (cF cE x (i:=0) rfl rfl rfl) (bA e rfl rfl ?_))))))
    obtain ⟨e1,i0,a⟩:=aB a
    refine aU (vs:=[zS a7 o.length c8,i64 b.F]) Tryz.call183 rfl (kE x h9 i0) ?_
    rintro _ j4 ⟨rfl,i1⟩
    exact aC (bI (v:=zB e1) e rfl rfl) (aG ⟨e1,a,a3,a5,a6,a8,rfl,a9,b0,V,rfl,i1⟩)
   ·exact aQ e rfl rfl (aQ e rfl rfl (aQ e rfl rfl (aQ e rfl rfl (aC (bL (v:=zB false) e rfl rfl) (aG ⟨false,a,a3,a5,a6,a8,rfl,a9,b0,V,rfl,x⟩)))))
  ·refine aJ b2 rfl (bZ (aW (aW ?_)))
   have i2:=f4 _ (zI a).symm
   subst i2
   have c:(oX d)=some R:=c
   exact bO (aA ⟨d,l,m,c,a8,(aK.arr 2 [0] b1 rfl)⟩)
theorem yB {t:cH} {z R:(List Int)} (hs:aK G K (L) w) (h3:cL K a1 c2 t.L) (h6:cL K a4 c5 t.E) (h9:cL K a7 c8 z) (c:vG t z=some R):
  Calls Tryz.prog 113 ([zA (zCa t a1 c2 a4 c5),zS a7 z.length c8]:List Value).toArray w (gO fun v w'=>∃ (d6:Option Addr) (d7:Nat),v=zS d6 R.length d7∧aK G K (aV 2 K d6 d7 R::L) w'):=by
 let j:=(zC t a1 c2 a4 c5)
 refine aS Tryz.func113 rfl (by kernel_rfl) (by show (2:Nat)≤41;decide) ?_
 unfold vG at c
 refine aI (eE (v:=zA (zCa t a1 c2 a4 c5)) (vs:=j) hs rfl rfl (fun d l8 f7=>(aF (v:=zS none 0 0) (aG (aI (aM (v:=zS a7 z.length c8) ?_))))))
 obtain ⟨f8,f9,c⟩:=aB c
 refine aU (vs:=[zS a7 z.length c8]) Tryz.call154 rfl (lS f7 h9 f9) ?_
 rintro _ l9 ⟨d8,d9,rfl,g0⟩
 refine aF (v:=zS d8 f8.length d9) (aG (aN (aI (aF (v:=i64 0) (aG (bC (fun f w=>∃ (J:List Int) (l:Option Addr) (m:Nat),pW J=some R∧f 5=zS l J.length m∧aK G K (aV 2 K l m J::L) w) ?_ ?_))))))
 ·rintro f m0 ⟨J,l,m,c,e0,g1⟩
  unfold pW at c
  refine aA (aI (aO e0 ?_))
  obtain ⟨e1,g2,c⟩:=aB c
  refine aU (vs:=[zS l J.length m]) Tryz.call184 rfl (aEO g1 g2) ?_
  rintro _ m1 ⟨rfl,g3,g4⟩
  refine aG (aI (aO (v:=zS l e1.length m) (Eq.trans e0 (congrArg (fun n=>zS l n m) g3)) (aF (v:=zS l e1.length m) (aG ?_))))
  obtain rfl:=zI c
  exact bF (bB Tryz.results113 rfl ⟨l,m,rfl,g4⟩)
 obtain ⟨m2,g6,c⟩:=aB c
 refine cA g6 (fun (s:(List Int × Int)) f w=>match s with|(p,e)=>∃ (V:Option Addr) (c48:Nat),f 2=zP (some ⟨d,0,none⟩)∧f 5=zS V p.length c48∧f 6=i64 e∧aK G K (aV 2 K V c48 p::box d 29 j::L) w) ?_ ?_
 ·exact ⟨d8,d9,rfl,rfl,rfl,g0⟩
 ·rintro ⟨p,e⟩ a8 f m3 a g7 ⟨V,c48,e2,a9,b9,e3⟩
  replace a:vF t p e=some a8:=a
  unfold vF at a
  refine aN (aI (aO b9 (aO a9 (aC (bT (len:=p.length) cG rfl) (aC (cJ rfl rfl) (aG ?_))))))
  rcases aH a with ⟨c0,a⟩|⟨c0,a⟩
  ·refine aL c0 rfl (aY (aA (aN (bC (fun f w=>∃ (Z:List Int) (b0:Option Addr) (b1:Nat),vD e Z=some a8∧f 2=zP (some ⟨d,0,none⟩)∧f 5=zS b0 Z.length b1∧f 6=i64 e∧aK G K (aV 2 K b0 b1 Z::box d 29 j::L) w) ?_ ?_))))
   ·rintro f m4 ⟨Z,b0,b1,a,g8,g9,h0,h1⟩
    unfold vD at a
    exact aA (aP (aO h0 (aC (cM rfl rfl) (aF (v:=i64 (wr (e+1))) (aG ⟨(Z,wr (e+1)),(zI a).symm,b0,b1,g8,g9,rfl,h1⟩)))))
   refine aN ?_
   obtain ⟨m5,c1,e4,h2,h4⟩:=aK.lendS (i:=0) e3 (zR _) rfl
   obtain ⟨e5,a0,h5,e6,h7⟩:=aK.lendB (i:=0) h2 rfl
   refine iB (C:=fun w'=>∃ L',aK G e5 L' w') [(0,0),(1,0),(2,0),(3,0),(4,0),(8,0),(5,1),(6,1),(7,0)] bU (by kernel_rfl) (fun _ hg=>⟨_,aK.mono e6 hg⟩) (fun m6 h8=>?_)
   have a2:=aK.mono e6 h8
   refine bX rfl (fun _ ⟨_,a2⟩=>gG (t:=0) (vs:=j) eC a2 h5 e2 rfl rfl) (bX rfl (fun _ _=>bD a9) (bX rfl (fun _ _=>bD b9) ?_))
   obtain ⟨a3,c3,a⟩:=aB a
   have i0:=aFm (e4.mono a0) c3
   refine bX rfl (fun _ _=>eB cG rfl i0 rfl rfl rfl c3) ?_
   obtain ⟨m7,i1,i2⟩:=cL.el (sz:=1) rfl (e4.mono a0) c3
   cases i2
   refine bX rfl (fun _ ⟨_,a2⟩=>bJ (t:=0) cE a2 i1 rfl rfl) (bX rfl (fun _ _=>bD (v:=i64 0) rfl) (nD rfl (dJ (Kt:=K) (xs:=([a3]:List Int)) (cs:=[i64 a3]) (vs:=[(0,i64 a3)]) cG qE rfl rfl a2 rfl (by kernel_rfl) rfl rfl rfl ⟨rfl,trivial⟩ (fun e7 i3 (e8:aK G e5 (aV 2 K e7 1 ([a3]:List Int)::L) i3)=>(bK (aA ⟨⟨_,e8⟩,?_⟩))))))
   refine nD rfl ?_
   obtain ⟨m8,e9,i4,i5,i6⟩:=aK.lendS (i:=0) e8 (zL c1 a0) rfl
   obtain ⟨g,i7,a⟩:=aB a
   refine aU (vs:=[zA (zCa t a1 c2 a4 c5),zS e7 ([a3]:List Int).length 1,str ([116,97,117]:bH)]) Tryz.call122 rfl (vK i5 (h3.mono (zL (zL c1 a0) e9)) (h6.mono (zL (zL c1 a0) e9)) i4 i7) ?_
   rintro _ m9 ⟨x,y,rfl,i8⟩
   have f0:=i6 _ _ i8
   refine bK (aA ⟨⟨_,f0⟩,?_⟩)
   refine bX rfl (fun _ _=>bT (len:=g.length) cG rfl) (mP ?_)
   have i9:=h7 _ _ f0
   have j0:=h4 _ _ i9
   refine aA (bC (fun f w=>∃ (a5:List Int) (b2:Option Addr) (b3:Nat),pX e a5=some a8∧f 2=zP (some ⟨d,0,none⟩)∧f 5=zS b2 a5.length b3∧f 6=i64 e∧aK G K (aV 2 K b2 b3 a5::box d 29 j::L) w) ?_ ?_)
   ·rintro f n0 ⟨a5,b2,b3,a,j1,j2,j3,j4⟩
    unfold pX at a
    exact bE (aA ⟨a5,b2,b3,a,j1,j2,j3,j4⟩)
   obtain ⟨n1,j5,a⟩:=aB a
   refine cA j5 (fun (s:(List Int × Int)) f w=>match s with|(k,q)=>∃ (r:Option Addr) (u:Nat),f 2=zP (some ⟨d,0,none⟩)∧f 5=zS r k.length u∧f 6=i64 e∧f 23=zS x g.length y∧f 24=i64 (g.length:Int)∧f 25=i64 q∧aK G K (aV 2 K r u k::box d 29 j::aV 2 K x y g::L) w) ?_ ?_
   ·exact ⟨V,c48,e2,a9,b9,rfl,rfl,rfl,(aK.arr 3 [0,1] j0 rfl)⟩
   ·rintro ⟨k,q⟩ f1 f n2 b j6 ⟨r,u,c4,b4,c6,c7,c9,b5,b6⟩
    replace b:vE g k q=some f1:=b
    unfold vE at b
    refine aI (aC (cJ b5 c9) (aG (aN ?_)))
    rcases aH b with ⟨d0,b⟩|⟨d0,b⟩
    ·refine aL d0 rfl (aY (aA (aN (bC (fun f w=>∃ (a6:List Int) (b7:Option Addr) (b8:Nat),pY q a6=some f1∧f 2=zP (some ⟨d,0,none⟩)∧f 5=zS b7 a6.length b8∧f 6=i64 e∧f 23=zS x g.length y∧f 24=i64 (g.length:Int)∧f 25=i64 q∧aK G K (aV 2 K b7 b8 a6::box d 29 j::aV 2 K x y g::L) w) ?_ ?_))))
     ·rintro f n3 ⟨a6,b7,b8,b,j7,j8,j9,k0,k1,k2,k3⟩
      unfold pY at b
      exact aA (aP (aC (cM k2 rfl) (aM (v:=i64 (wr (q+1))) (aG ⟨(a6,wr (q+1)),(zI b).symm,b7,b8,j7,j8,j9,k0,k1,rfl,k3⟩))))
     refine aI ?_
     obtain ⟨o,d1,b⟩:=aB b
     have k4:=dM b6 (i:=2) rfl d1
     refine aC (eB cG rfl k4 c7 rfl b5 d1) (aC (lX (t:=0) cE b6 (i:=2) rfl d1 rfl rfl rfl) (aF (v:=i64 o) (aG (aI (aO b4 (aM (v:=i64 o) ?_))))))
     obtain ⟨n4,n5,k5,k6,k7⟩:=aK.lendS (i:=0) b6 (zR _) rfl
     obtain ⟨n6,k8,b⟩:=aB b
     refine aU (vs:=[zS r k.length u,i64 o]) Tryz.call183 rfl (kE k6 k5 k8) ?_
     rintro _ n7 ⟨rfl,k9⟩
     have f2:=k7 _ _ k9
     refine aC (fH rfl) (aG ?_)
     rcases aH b with ⟨d2,b⟩|⟨d2,b⟩
     ·refine aL d2 rfl (aP (aO b4 (aM (v:=i64 o) (dJ (Kt:=K) (xs:=([o]:List Int)) (cs:=[i64 o]) (vs:=[(0,i64 o)]) cG qE rfl rfl f2 rfl (by kernel_rfl) rfl rfl rfl ⟨rfl,trivial⟩ (fun l0 l1 (l2:aK G K (aV 2 K l0 1 ([o]:List Int)::aV 2 K r u k::box d 29 j::aV 2 K x y g::L) l1)=>?_)))))
      obtain ⟨d3,l3,b⟩:=aB b
      exact iA (i:=0) cG Tryz.underlying38 qE rfl rfl l2 rfl (zR _) (zR _) l3 rfl rfl rfl rfl (fun _ h=>h) (fun d4 d5 l4 (l5:aK G K (aV 2 K d4 d5 d3::box d 29 j::aV 2 K x y g::L) l4)=>(aF (v:=zS d4 d3.length d5) (bK (bE (aA ⟨d3,d4,d5,b,c4,rfl,c6,c7,c9,b5,l5⟩)))))
     ·exact aJ d2 rfl (aY (bE (aA ⟨k,r,u,b,c4,b4,c6,c7,c9,b5,f2⟩)))
    ·refine aJ d0 rfl (bZ (aW (aW ?_)))
     have l6:=j6 _ (zI b).symm
     subst l6
     have a:(pX e k)=some a8:=a
     exact bO (aA ⟨k,r,u,a,c4,b4,c6,(aK.arr 3 [0,1] b6 rfl)⟩)
  ·refine aJ c0 rfl (bZ (aW (aW ?_)))
   have l7:=g7 _ (zI a).symm
   subst l7
   have c:(pW p)=some R:=c
   exact bO (aA ⟨p,V,c48,c,a9,(aK.arr 2 [0] e3 rfl)⟩)
theorem aDf {t:cH} {c:(List Int)} {e:bH} {R:(List Int)} (x:aK G K (L) w) (h:cL K a1 c2 t.L) (j:cL K a4 c5 t.E) (y:cL K a7 c8 c) (a:aAO t c e=some R):
  Calls Tryz.prog 117 ([zA (zCa t a1 c2 a4 c5),zS a7 c.length c8,str e]:List Value).toArray w (gO fun v w'=>∃ (k:Option Addr) (l:Nat),v=zS k R.length l∧aK G K (aV 2 K k l R::L) w'):=by
 let g:=(zC t a1 c2 a4 c5)
 refine aS Tryz.func117 rfl (by kernel_rfl) (by show (3:Nat)≤13;decide) ?_
 unfold aAO at a
 refine aI (eE (v:=zA (zCa t a1 c2 a4 c5)) (vs:=g) x rfl rfl (fun b5 b6 z=>(aF (v:=zS none 0 0) (aG (aN ?_)))))
 obtain ⟨J,b,m,n,V⟩:=aK.lendB (i:=0) z rfl
 refine iB (C:=fun w'=>∃ L',aK G J L' w') [(0,0),(1,0),(2,0),(3,0),(4,1),(5,1),(6,0)] bU (by kernel_rfl) (fun _ hg=>⟨_,aK.mono n hg⟩) (fun b7 Z=>?_)
 have d:=aK.mono n Z
 refine bX rfl (fun _ ⟨_,d⟩=>gG (t:=0) (vs:=g) eC d m rfl rfl rfl) (bX rfl (fun _ ⟨_,d⟩=>gG (t:=0) (vs:=g) eC d m rfl rfl rfl) (bX rfl (fun _ _=>bD (v:=zS a7 c.length c8) rfl) (bX rfl (fun _ _=>bD (v:=str e) rfl) (nD rfl ?_))))
 obtain ⟨a0,a2,a⟩:=aB a
 refine aU (vs:=[zA (zCa t a1 c2 a4 c5),zS a7 c.length c8,str e]) Tryz.call122 rfl (vK d (h.mono b) (j.mono b) (y.mono b) a2) ?_
 rintro _ b8 ⟨a3,a5,rfl,o⟩
 refine bK (aA ⟨⟨_,o⟩,?_⟩)
 refine nD rfl ?_
 obtain ⟨b9,p,a6,a8,a9⟩:=aK.lendS (i:=0) o b rfl
 obtain ⟨b0,b1,a⟩:=aB a
 refine aU (vs:=[zA (zCa t a1 c2 a4 c5),zS a3 a0.length a5]) Tryz.call113 rfl (yB a8 (h.mono (zL b p)) (j.mono (zL b p)) a6 b1) ?_
 rintro _ c0 ⟨q,r,rfl,b2⟩
 have u:=a9 _ _ b2
 refine bK (aA ⟨⟨_,u⟩,?_⟩)
 refine bX rfl (fun _ _=>gF (v:=zS q b0.length r) rfl) (mP ?_)
 have b3:=V _ _ u
 refine aA ?_
 obtain rfl:=zI a
 exact bF (bB Tryz.results117 rfl ⟨q,r,rfl,(aK.arr 2 [] b3 rfl)⟩)
theorem aDJ {t:cH} {k:Int} {d:bH} {R:(List Int)} (z:aK G K (L) w) (l:cL K a1 c2 t.L) (m:cL K a4 c5 t.E) (a:aBA t k d=some R):
  Calls Tryz.prog 334 ([zA (zCa t a1 c2 a4 c5),i64 k,str d]:List Value).toArray w (gO fun v w'=>∃ (n:Option Addr) (o:Nat),v=zS n R.length o∧aK G K (aV 2 K n o R::L) w'):=by
 let g:=(zC t a1 c2 a4 c5)
 refine aS Tryz.func334 rfl (by kernel_rfl) (by show (3:Nat)≤19;decide) ?_
 unfold aBA at a
 refine aI (eE (v:=zA (zCa t a1 c2 a4 c5)) (vs:=g) z rfl rfl (fun J w8 p=>(aF (v:=zS none 0 0) (aG (aI (aC (dF (us:=g) eC p (i:=0) rfl rfl rfl rfl) (aM (v:=i64 k) (dJ (Kt:=K) (xs:=([k]:List Int)) (cs:=[i64 k]) (vs:=[(0,i64 k)]) cG qE rfl rfl p rfl (by kernel_rfl) rfl rfl rfl ⟨rfl,trivial⟩ (fun q V (Z:aK G K (aV 2 K q 1 ([k]:List Int)::box J 29 g::L) V)=>?_)))))))))
 obtain ⟨b8,r,a0,a2,a3⟩:=aK.lendS (i:=0) Z (zR _) rfl
 obtain ⟨e,a5,a⟩:=aB a
 refine aU (vs:=[zA (zCa t a1 c2 a4 c5),zS q ([k]:List Int).length 1]) Tryz.call113 rfl (yB a2 (l.mono r) (m.mono r) a0 a5) ?_
 rintro _ b9 ⟨b,c,rfl,a6⟩
 have h:=a3 _ _ a6
 refine aF (v:=zS b e.length c) (aG (aN (aI (aM (v:=str d) (aC (vR rfl rfl) (aG ?_))))))
 rcases aH a with ⟨j,a⟩|⟨j,a⟩
 ·refine aL j rfl (aI (aM (v:=zS b e.length c) (aF (v:=zS b e.length c) (aG ?_))))
  obtain rfl:=zI a
  exact bF (aR (bB Tryz.results334 rfl ⟨b,c,rfl,(aK.arr 3 [1] h rfl)⟩))
 ·refine aJ j rfl (aY (aA (aI (aC (dF (us:=g) eC h (i:=2) rfl rfl rfl rfl) (aM (v:=zS b e.length c) (aM (v:=str d) ?_))))))
  obtain ⟨c0,u,a8,a9,b0⟩:=aK.lendS (i:=1) h (zR _) rfl
  obtain ⟨b1,b2,a⟩:=aB a
  refine aU (vs:=[zA (zCa t a1 c2 a4 c5),zS b e.length c,str d]) Tryz.call117 rfl (aDf a9 (l.mono u) (m.mono u) a8 b2) ?_
  rintro _ c1 ⟨x,y,rfl,b3⟩
  have b4:=b0 _ _ b3
  refine aF (v:=zS x b1.length y) (aG ?_)
  obtain rfl:=zI a
  exact bF (bB Tryz.results334 rfl ⟨x,y,rfl,(aK.arr 4 [1] b4 rfl)⟩)
theorem kU {d g:(List bH)} {R:Bool} (l:aK G K (L) w) (m:cL K a1 c2 d) (n:cL K a4 c5 g) (a:gX d g=some R):
  Calls Tryz.prog 232 ([zS a1 d.length c2,zS a4 g.length c5]:List Value).toArray w (gO fun v w'=>v=zB R∧aK G K (L) w'):=by
 refine aS Tryz.func232 rfl (by kernel_rfl) (by show (2:Nat)≤26;decide) ?_
 unfold gX at a
 refine aI (aF (v:=zB false) (aG (aN (aI (aM (v:=zS a1 d.length c2) (aC (bT (len:=d.length) cO rfl) (aM (v:=zS a4 g.length c5) (aC (bT (len:=g.length) cO rfl) (aC (oC rfl rfl) (aG ?_))))))))))
 rcases aH a with ⟨h,a⟩|⟨h,a⟩
 ·refine aL h rfl (aI (aF (v:=zB false) (aG ?_)))
  obtain rfl:=zI a
  exact bF (aR (bB Tryz.results232 rfl ⟨rfl,l⟩))
 ·refine aJ h rfl (aY (aA (aN (aI (aM (v:=zS a1 d.length c2) (aC (bT (len:=d.length) cO rfl) (aM (v:=i64 0) (aG (bC (fun f w=>gE=some R∧aK G K (L) w) ?_ ?_)))))))))
  ·rintro f w9 ⟨a,J⟩
   unfold gE at a
   refine aA (aI (aF (v:=zB true) (aG ?_)))
   obtain rfl:=zI a
   exact bF (bB Tryz.results232 rfl ⟨rfl,J⟩)
  obtain ⟨b1,Z,a⟩:=aB a
  refine cA Z (fun (e:Int) f w=>f 0=zS a1 d.length c2∧f 1=zS a4 g.length c5∧f 12=i64 (d.length:Int)∧f 13=i64 e∧aK G K (L) w) ?_ ?_
  ·exact ⟨rfl,rfl,rfl,rfl,l⟩
  ·rintro e a0 f b2 b o ⟨p,q,r,i,c⟩
   replace b:iQ d g e=some a0:=b
   unfold iQ at b
   refine aI (aC (cJ i r) (aG (aN ?_)))
   rcases aH b with ⟨j,b⟩|⟨j,b⟩
   ·refine aL j rfl (aY (aA (aN (cP (aI (aO i (aF (v:=i64 e) (aG (aN (eK (C:=fun w'=>aK G K (L) w') bU (by kernel_rfl) (aK.mono c (dQ.drew _)) (aX (fun _ c=>bD p) (aX (fun _ c=>bD (v:=i64 e) rfl) ?_))))))))))))
    obtain ⟨b3,u,b⟩:=aB b
    refine aX (fun _ c=>cT cO rfl m rfl rfl rfl u) ?_
    obtain ⟨b4,a2,a3⟩:=cL.el (sz:=1) rfl m u
    cases a3
    refine aX (fun _ c=>bJ (t:=0) pU c a2 rfl rfl) (aX (fun _ c=>bD q) (aX (fun _ c=>bD (v:=i64 e) rfl) ?_))
    obtain ⟨b5,x,b⟩:=aB b
    refine aX (fun _ c=>cT cO rfl n rfl rfl rfl x) ?_
    obtain ⟨b6,a5,a6⟩:=cL.el (sz:=1) rfl n x
    cases a6
    refine aX (fun _ c=>bJ (t:=0) pU c a5 rfl rfl) (aX (fun _ c=>aAG rfl rfl) (eG (fun b7 y=>(aA ?_))))
    rcases aH b with ⟨k,b⟩|⟨k,b⟩
    ·refine aL k rfl (aI (aF (v:=zB false) (aG (bF (bQ (aR (aR ?_)))))))
     have a7:=o _ (zI b).symm
     subst a7
     have a:(some false)=some R:=a
     obtain rfl:=zI a
     exact bQ (aR (aR (bB Tryz.results232 rfl ⟨rfl,y⟩)))
    ·exact aJ k rfl (aY (bE (aA (aP (aC (cM i rfl) (aM (v:=i64 (wr (e+1))) (aG ⟨wr (e+1),(zI b).symm,p,q,r,rfl,y⟩)))))))
   ·refine aJ j rfl (bZ (aW (aW ?_)))
    have a9:=o _ (zI b).symm
    subst a9
    have a:(gE)=some R:=a
    exact bO (aA ⟨a,c⟩)
theorem xO {a y:Int} {d:Nat} {b:(List ((Int × Int) × Bool))} {e:Nat} {R:Bool} (c:aK G K (L) w) (h:fV K a1 d [zM (some e)]) (i:rdM K e b) (g:pA a y b=some R):
  Calls Tryz.prog 234 ([i64 a,i64 y,bV a1 d]:List Value).toArray w (gO fun v w'=>v=zB R∧aK G K (L) w'):=by
 refine aS Tryz.func234 rfl (by kernel_rfl) (by show (3:Nat)≤11;decide) ?_
 unfold pA at g
 refine aI (aF (v:=zB false) (aG (aI (aC (bJ (t:=0) aBZ c h rfl rfl) (aM (v:=i64 a) (aM (v:=i64 y) (aC (zV (vs:=[(0,i64 a),(1,i64 y)]) (cs:=[i64 a,i64 y]) aBu aCY rfl (by kernel_rfl)) (aC (aFB (kv:=b) (k:=⟨a,y⟩) (z:=(false:Bool)) Tryz.runUnderlying124 aCa Tryz.zeroValue4 c i rfl rfl) (aF (v:=zB ((jA b ⟨a,y⟩).getD false)) (aG ?_))))))))))
 obtain rfl:=zI g
 exact bF (bB Tryz.results234 rfl ⟨rfl,c⟩)
theorem aDK {a:Int} {d:Nat} {k l:Int} {e:(List bH)} {g:(List Edge)} {m n:Int} {h:(List bH)} {i:(List Edge)} {b:Nat} {o:(List ((Int × Int) × Bool))} {q:Nat} {p:Int} {r:Nat} {R:Bool} (j:aK G K (L) w) (u:fV K a1 d [i64 k,i64 l,zS a4 e.length c5,zS a7 g.length c8,i64 m,i64 n,zS a10 h.length c11,zS a13 i.length c14,Value.func (.func 234) #[] #[bV a16 b]]) (h6:cL K a4 c5 e) (h9:cL K a7 c8 g) (a5:cL K a10 c11 h) (a6:cL K a13 c14 i) (x:fV K a16 b [zM (some q)]) (y:rdM K q o) (z:fV K a21 r [i64 p]) (c:aBB a k l e g m n h i o p=some R):
  Calls Tryz.prog 335 ([i64 a,bV a1 d,bV a21 r]:List Value).toArray w (gO fun v w'=>v=zB R∧aK G K (L) w'):=by
 refine aS Tryz.func335 rfl (by kernel_rfl) (by show (3:Nat)≤10;decide) ?_
 unfold aBB at c
 refine aI (aF (v:=zB false) (aG (aI (aC (cC (k':=d+8) aIZ rfl u rfl) (aC (bJ (t:=8) sc_237 j u rfl rfl) (aC (bJ (t:=0) cE j z rfl rfl) (aM (v:=i64 a) ?_)))))))
 obtain ⟨J,V,c⟩:=aB c
 refine jX (vs:=[i64 p,i64 a]) (caps:=[bV a16 b]) (us:=[i64 p,i64 a,bV a16 b]) rfl Tryz.call234 rfl rfl (xO j x y V) ?_
 rintro _ a8 ⟨rfl,Z⟩
 refine aF (v:=zB J) (aG ?_)
 obtain rfl:=zI c
 exact bF (bB Tryz.results335 rfl ⟨rfl,Z⟩)
theorem pF {d:(List Int)} {e:Nat} {l m:Int} {h:(List bH)} {i:(List Edge)} {n o:Int} {j:(List bH)} {k:(List Edge)} {z:Nat} {p:(List ((Int × Int) × Bool))} {J:Nat} {q:Int} {g:Nat} {R:Int} (hs:aK G K (L) w) (V:cL K a1 c2 d) (h6:fV K a4 e [i64 l,i64 m,zS a7 h.length c8,zS a10 i.length c11,i64 n,i64 o,zS a13 j.length c14,zS a16 k.length c17,Value.func (.func 234) #[] #[bV a19 z]]) (h9:cL K a7 c8 h) (b2:cL K a10 c11 i) (b3:cL K a13 c14 j) (b4:cL K a16 c17 k) (b5:fV K a19 z [zM (some J)]) (b6:rdM K J p) (b7:fV K a24 g [i64 q]) (b:iI d l m h i n o j k p q=some R):
  Calls Tryz.prog 167 ([zS a1 d.length c2,Value.func (.func 335) #[] #[bV a4 e,bV a24 g]]:List Value).toArray w (gO fun v w'=>v=i64 R∧aK G K (L) w'):=by
 refine aS Tryz.func167 rfl (by kernel_rfl) (by show (2:Nat)≤19;decide) ?_
 unfold iI at b
 refine aI (aF (v:=i64 0) (aG (aN (aI (aM (v:=zS a1 d.length c2) (aC (bT (len:=d.length) cG rfl) (aM (v:=i64 0) (aG (bC (fun f w=>fA=some R∧aK G K (L) w) ?_ ?_)))))))))
 ·rintro f d0 ⟨b,b8⟩
  unfold fA at b
  refine aA (aI (aF (v:=i64 (-1)) (aG ?_)))
  obtain rfl:=zI b
  exact bF (bB Tryz.results167 rfl ⟨rfl,b8⟩)
 obtain ⟨d1,c0,b⟩:=aB b
 refine cA c0 (fun (c:Int) f w=>f 0=zS a1 d.length c2∧f 1=Value.func (.func 335) #[] #[bV a4 e,bV a24 g]∧f 7=i64 (d.length:Int)∧f 8=i64 c∧aK G K (L) w) ?_ ?_
 ·exact ⟨rfl,rfl,rfl,rfl,hs⟩
 ·rintro c c1 f d2 a Z ⟨a0,a2,a3,r,u⟩
  replace a:gT d l m h i n o j k p q c=some c1:=a
  unfold gT at a
  refine aI (aC (cJ r a3) (aG (aN ?_)))
  rcases aH a with ⟨x,a⟩|⟨x,a⟩
  ·refine aL x rfl (aY (aA (aN (cP (aI (aO r (aF (v:=i64 c) (aG (aI (aO a2 (aO a0 (aM (v:=i64 c) ?_))))))))))))
   obtain ⟨a5,a6,a⟩:=aB a
   refine aC (cT cG rfl V rfl rfl rfl a6) ?_
   obtain ⟨d3,c3,c4⟩:=cL.el (sz:=1) rfl V a6
   cases c4
   refine aC (bJ (t:=0) cE u c3 rfl rfl) ?_
   obtain ⟨d4,c5,a⟩:=aB a
   refine jX (vs:=[i64 a5]) (caps:=[bV a4 e,bV a24 g]) (us:=[i64 a5,bV a4 e,bV a24 g]) rfl Tryz.call335 rfl rfl (aDK u h6 h9 b2 b3 b4 b5 b6 b7 c5) ?_
   rintro _ d5 ⟨rfl,a8⟩
   refine aG ?_
   rcases aH a with ⟨y,a⟩|⟨y,a⟩
   ·refine aL y rfl (aI (aM (v:=i64 c) (aF (v:=i64 c) (aG (bF (bQ (aR (aR ?_))))))))
    have c6:=Z _ (zI a).symm
    subst c6
    have b:(some c)=some R:=b
    obtain rfl:=zI b
    exact bQ (aR (aR (bB Tryz.results167 rfl ⟨rfl,a8⟩)))
   ·exact aJ y rfl (aY (bE (aA (aP (aC (cM r rfl) (aM (v:=i64 (wr (c+1))) (aG ⟨wr (c+1),(zI a).symm,a0,a2,a3,rfl,a8⟩)))))))
  ·refine aJ x rfl (bZ (aW (aW ?_)))
   have c9:=Z _ (zI a).symm
   subst c9
   have b:(fA)=some R:=b
   exact bO (aA ⟨b,u⟩)
theorem nZ {a:(List Int)} {b:Nat} {j k:Int} {e:(List bH)} {g:(List Edge)} {l m:Int} {h:(List bH)} {i:(List Edge)} {n:Nat} {o:(List ((Int × Int) × Bool))} {p:Nat} {q:Int} {c:Nat} {R:Bool} (r:aK G K (L) w) (t:cL K a1 c2 a) (u:fV K a4 b [i64 j,i64 k,zS a7 e.length c8,zS a10 g.length c11,i64 l,i64 m,zS a13 h.length c14,zS a16 i.length c17,Value.func (.func 234) #[] #[bV a19 n]]) (x:cL K a7 c8 e) (y:cL K a10 c11 g) (z:cL K a13 c14 h) (J:cL K a16 c17 i) (V:fV K a19 n [zM (some p)]) (Z:rdM K p o) (a0:fV K a24 c [i64 q]) (d:gU a j k e g l m h i o q=some R):
  Calls Tryz.prog 330 ([zS a1 a.length c2,Value.func (.func 335) #[] #[bV a4 b,bV a24 c]]:List Value).toArray w (gO fun v w'=>v=zB R∧aK G K (L) w'):=by
 refine aS Tryz.func330 rfl (by kernel_rfl) (by show (2:Nat)≤9;decide) ?_
 unfold gU at d
 refine aI (aF (v:=zB false) (aG (aI (aM (v:=zS a1 a.length c2) (aM (v:=Value.func (.func 335) #[] #[bV a4 b,bV a24 c]) ?_)))))
 obtain ⟨a2,a3,d⟩:=aB d
 refine aU (vs:=[zS a1 a.length c2,Value.func (.func 335) #[] #[bV a4 b,bV a24 c]]) Tryz.call167 rfl (pF r t u x y z J V Z a0 a3) ?_
 rintro _ a8 ⟨rfl,a5⟩
 refine aC (uI rfl rfl) (aF (v:=zB (decide (0≤a2))) (aG ?_))
 obtain rfl:=zI d
 exact bF (bB Tryz.results330 rfl ⟨rfl,a5⟩)
theorem aDL {r_a r_b:cH} {e:Nat} {j:(List ((Int × Int) × Bool))} {k:Nat} {l y:Int} {g:bH} {h:Int} {R:Bool} (r:aK G K (L) w) (t:cL K a1 c2 r_a.L) (u:cL K a4 c5 r_a.E) (m:cL K a7 c8 r_b.L) (n:cL K a10 c11 r_b.E) (x:fV K a13 e [zM (some k)]) (z:rdM K k j) (c:aBC r_a r_b j l y g h=some R):
  Calls Tryz.prog 286 ([zA #[i64 r_a.N,i64 r_a.I,zS a1 r_a.L.length c2,zS a4 r_a.E.length c5,i64 r_b.N,i64 r_b.I,zS a7 r_b.L.length c8,zS a10 r_b.E.length c11,Value.func (.func 234) #[] #[bV a13 e]],i64 l,i64 y,str g,i64 h]:List Value).toArray w (gO fun v w'=>v=zB R∧aK G K (L) w'):=by
 refine aS Tryz.func286 rfl (by kernel_rfl) (by show (5:Nat)≤18;decide) ?_
 unfold aBC at c
 refine aI (eE (v:=zA #[i64 r_a.N,i64 r_a.I,zS a1 r_a.L.length c2,zS a4 r_a.E.length c5,i64 r_b.N,i64 r_b.I,zS a7 r_b.L.length c8,zS a10 r_b.E.length c11,Value.func (.func 234) #[] #[bV a13 e]]) (vs:=[i64 r_a.N,i64 r_a.I,zS a1 r_a.L.length c2,zS a4 r_a.E.length c5,i64 r_b.N,i64 r_b.I,zS a7 r_b.L.length c8,zS a10 r_b.E.length c11,Value.func (.func 234) #[] #[bV a13 e]]) r rfl rfl (fun o c3 J=>(eE (v:=i64 h) (vs:=[i64 h]) J rfl rfl (fun p c4 q=>(aF (v:=zB false) (aG (aI (aC (bG (t':=4) aFK rfl rfl) (aC (dF (us:=(zC r_b a7 c8 a10 c11)) eC q (i:=1) rfl rfl rfl rfl) (aM (v:=i64 y) (aM (v:=str g) ?_)))))))))))
 obtain ⟨V,Z,c⟩:=aB c
 refine aU (vs:=[zA (zCa r_b a7 c8 a10 c11),i64 y,str g]) Tryz.call334 rfl (aDJ q m n Z) ?_
 rintro _ c6 ⟨a0,a2,rfl,a3⟩
 refine aC (qD (vs:=[zP (some ⟨o,0,none⟩),zP (some ⟨p,0,none⟩)]) rfl) ?_
 obtain ⟨c7,d,a5,a6,a8⟩:=aK.lendS (i:=0) a3 (zR _) rfl
 obtain ⟨c9,b,a9,b0,b1⟩:=aK.lendB (i:=1) a6 rfl
 obtain ⟨d0,a,b2,b3,b4⟩:=aK.lendB (i:=0) b0 rfl
 obtain ⟨b5,b6,c⟩:=aB c
 refine aU (vs:=[zS a0 V.length a2,Value.func (.func 335) #[] #[bV (some ⟨o,0,none⟩) 0,bV (some ⟨p,0,none⟩) 0]]) Tryz.call330 rfl (nZ b3 (a5.mono (zL b a)) (a9.mono a) (t.mono (zL (zL d b) a)) (u.mono (zL (zL d b) a)) (m.mono (zL (zL d b) a)) (n.mono (zL (zL d b) a)) (x.mono (zL (zL d b) a)) (z.mono (zL (zL d b) a)) b2 b6) ?_
 rintro _ d1 ⟨rfl,b7⟩
 have b8:=b4 _ _ b7
 have b9:=b1 _ _ b8
 have c0:=a8 _ _ b9
 refine aF (v:=zB b5) (aG ?_)
 obtain rfl:=zI c
 exact bF (bB Tryz.results286 rfl ⟨rfl,(aK.arr 3 [] c0 rfl)⟩)
theorem aAR {r_a r_b:cH} {j:Nat} {p:(List ((Int × Int) × Bool))} {a0:Nat} {g y:Int} {R:Bool} (hs:aK G K (L) w) (m:cL K a1 c2 r_a.L) (h6:cL K a4 c5 r_a.E) (h9:cL K a7 c8 r_b.L) (c1:cL K a10 c11 r_b.E) (c3:fV K a13 j [zM (some a0)]) (c4:rdM K a0 p) (b:rT r_a r_b p g y=some R):
  Calls Tryz.prog 285 ([zA #[i64 r_a.N,i64 r_a.I,zS a1 r_a.L.length c2,zS a4 r_a.E.length c5,i64 r_b.N,i64 r_b.I,zS a7 r_b.L.length c8,zS a10 r_b.E.length c11,Value.func (.func 234) #[] #[bV a13 j]],i64 g,i64 y,Value.func (.func 286) #[] #[]]:List Value).toArray w (gO fun v w'=>v=zB R∧aK G K (L) w'):=by
 let n:=[i64 r_a.N,i64 r_a.I,zS a1 r_a.L.length c2,zS a4 r_a.E.length c5,i64 r_b.N,i64 r_b.I,zS a7 r_b.L.length c8,zS a10 r_b.E.length c11,Value.func (.func 234) #[] #[bV a13 j]]
 refine aS Tryz.func285 rfl (by kernel_rfl) (by show (4:Nat)≤36;decide) ?_
 unfold rT at b
 refine aI (eE (v:=zA #[i64 r_a.N,i64 r_a.I,zS a1 r_a.L.length c2,zS a4 r_a.E.length c5,i64 r_b.N,i64 r_b.I,zS a7 r_b.L.length c8,zS a10 r_b.E.length c11,Value.func (.func 234) #[] #[bV a13 j]]) (vs:=n) hs rfl rfl (fun q f0 a3=>(aF (v:=zB false) (aG (aN (aI (aC (bG (t':=0) aCb rfl rfl) (aC (dF (us:=(zC r_a a1 c2 a4 c5)) eC a3 (i:=0) rfl rfl rfl rfl) (aM (v:=i64 g) ?_)))))))))
 obtain ⟨k,c6,b⟩:=aB b
 refine aU (vs:=[zA (zCa r_a a1 c2 a4 c5),i64 g]) Tryz.call121 rfl (aAk a3 m h6 c6) ?_
 rintro _ f1 ⟨r,u,rfl,c7⟩
 refine aC (bT (len:=k.length) bY rfl) (aM (v:=i64 0) (aG (bC (fun f w=>kX=some R∧aK G K (L) w) ?_ ?_)))
 ·rintro f f2 ⟨b,c9⟩
  unfold kX at b
  refine aA (aI (aF (v:=zB true) (aG ?_)))
  obtain rfl:=zI b
  exact bF (bB Tryz.results285 rfl ⟨rfl,c9⟩)
 obtain ⟨f3,d1,b⟩:=aB b
 refine cA d1 (fun (l:Int) f w=>f 1=i64 g∧f 2=i64 y∧f 3=Value.func (.func 286) #[] #[]∧f 4=zP (some ⟨q,0,none⟩)∧f 14=zS r k.length u∧f 15=i64 (k.length:Int)∧f 16=i64 l∧aK G K (aV 63 K r u k::box q 260 n::L) w) ?_ ?_
 ·exact ⟨rfl,rfl,rfl,rfl,rfl,rfl,rfl,c7⟩
 ·rintro l d2 f f4 a a5 ⟨a6,a8,a9,x,b0,b1,z,o⟩
  replace a:oO r_a r_b p g y k l=some d2:=a
  unfold oO at a
  refine aI (aC (cJ z b1) (aG (aN ?_)))
  rcases aH a with ⟨J,a⟩|⟨J,a⟩
  ·refine aL J rfl (aY (aA (aN (cP (aI ?_)))))
   obtain ⟨c,V,a⟩:=aB a
   have d3:=dM o (i:=0) rfl V
   refine aC (eB bY rfl d3 b0 rfl z V) (aC (aAH (t:=0) (vs:=[i64 c.F,i64 c.B,i64 c.To]) iJ o (i:=0) rfl V rfl rfl rfl rfl) (bW (vs:=[i64 0,i64 0,i64 0]) Tryz.zeroValue63 o rfl (fun d4 f5 d5=>(cD (i:=0) (ns:=[i64 c.F,i64 c.B,i64 c.To]) (us:=[i64 c.F,i64 c.B,i64 c.To]) Tryz.sizeOf63 d5 rfl rfl rfl rfl rfl (dK rfl) rfl rfl (fun d6 (d7:aK G K (box d4 63 [i64 c.F,i64 c.B,i64 c.To]::aV 63 K r u k::box q 260 n::L) d6)=>(aG (aN ?_)))))))
   obtain ⟨f6,h,b2,d8,d9⟩:=aK.lendB (i:=0) d7 rfl
   obtain ⟨e0,e,b3,b4,e1⟩:=aK.lendB (i:=1) d8 rfl
   refine iB (C:=fun w'=>∃ L',aK G e0 L' w') [(0,0),(1,0),(2,0),(3,0),(4,0),(5,0),(6,0),(7,0),(8,0),(9,0),(10,0),(11,0),(12,0),(13,1),(14,0)] bU (by kernel_rfl) (fun _ hg=>⟨_,aK.mono b4 hg⟩) (fun f7 e2=>?_)
   have d:=aK.mono b4 e2
   refine bX rfl (fun _ _=>bD a9) (bX rfl (fun _ ⟨_,d⟩=>gG (t:=0) (vs:=n) aFJ d b3 x rfl rfl) (bX rfl (fun _ _=>bD a6) (bX rfl (fun _ _=>bD a8) (bX rfl (fun _ _=>bG (t':=0) aCb x rfl) (bX rfl (fun _ _=>bG (t':=2) gI rfl rfl) (bX rfl (fun _ ⟨_,d⟩=>bJ (t:=2) mG d b3 rfl rfl) (bX rfl (fun _ _=>bG (t':=1) gB rfl rfl) (bX rfl (fun _ ⟨_,d⟩=>bJ (t:=1) cE d (b2.mono e) rfl rfl) ?_))))))))
   obtain ⟨b5,b6,a⟩:=aB a
   refine bX rfl (fun _ _=>cT cO rfl (m.mono (zL h e)) rfl rfl rfl b6) ?_
   obtain ⟨f8,e3,e4⟩:=cL.el (sz:=1) rfl m b6
   cases e4
   refine bX rfl (fun _ ⟨_,d⟩=>bJ (t:=0) pU d (e3.mono (zL h e)) rfl rfl) (bX rfl (fun _ _=>bG (t':=2) eM rfl rfl) (bX rfl (fun _ ⟨_,d⟩=>bJ (t:=2) cE d (b2.mono e) rfl rfl) (nD rfl ?_)))
   obtain ⟨f9,e5,a⟩:=aB a
   refine jX (vs:=[zA #[i64 r_a.N,i64 r_a.I,zS a1 r_a.L.length c2,zS a4 r_a.E.length c5,i64 r_b.N,i64 r_b.I,zS a7 r_b.L.length c8,zS a10 r_b.E.length c11,Value.func (.func 234) #[] #[bV a13 j]],i64 g,i64 y,str b5,i64 c.To]) (caps:=[]) (us:=[zA #[i64 r_a.N,i64 r_a.I,zS a1 r_a.L.length c2,zS a4 r_a.E.length c5,i64 r_b.N,i64 r_b.I,zS a7 r_b.L.length c8,zS a10 r_b.E.length c11,Value.func (.func 234) #[] #[bV a13 j]],i64 g,i64 y,str b5,i64 c.To]) rfl Tryz.call286 rfl rfl (aDL (r_a:=⟨r_a.N,r_a.I,r_a.L,r_a.E⟩) (r_b:=⟨r_b.N,r_b.I,r_b.L,r_b.E⟩) d (m.mono (zL h e)) (h6.mono (zL h e)) (h9.mono (zL h e)) (c1.mono (zL h e)) (c3.mono (zL h e)) (c4.mono (zL h e)) e5) ?_
   rintro _ g0 ⟨rfl,b7⟩
   refine bK (aA ⟨⟨_,b7⟩,?_⟩)
   refine bX rfl (fun _ _=>fH rfl) (mP ?_)
   have e6:=e1 _ _ b7
   have b8:=d9 _ _ e6
   refine aA ?_
   rcases aH a with ⟨Z,a⟩|⟨Z,a⟩
   ·refine aL Z rfl (aI (aF (v:=zB false) (aG (bF (bQ (aR (aR ?_)))))))
    have e7:=a5 _ (zI a).symm
    subst e7
    have b:(some false)=some R:=b
    obtain rfl:=zI b
    exact bQ (aR (aR (bB Tryz.results285 rfl ⟨rfl,(aK.arr 3 [] b8 rfl)⟩)))
   ·exact aJ Z rfl (aY (bE (aA (aP (aC (cM z rfl) (aM (v:=i64 (wr (l+1))) (aG ⟨wr (l+1),(zI a).symm,a6,a8,a9,x,b0,b1,rfl,(aK.arr 3 [2,1] b8 rfl)⟩)))))))
  ·refine aJ J rfl (bZ (aW (aW ?_)))
   have e9:=a5 _ (zI a).symm
   subst e9
   have b:(kX)=some R:=b
   exact bO (aA ⟨b,(aK.arr 2 [] o rfl)⟩)
theorem aDg {a:Int} {d:Nat} {k l:Int} {e:(List bH)} {g:(List Edge)} {m n:Int} {h:(List bH)} {i:(List Edge)} {b:Nat} {o:(List ((Int × Int) × Bool))} {q:Nat} {p:Int} {r:Nat} {R:Bool} (j:aK G K (L) w) (u:fV K a1 d [i64 k,i64 l,zS a4 e.length c5,zS a7 g.length c8,i64 m,i64 n,zS a10 h.length c11,zS a13 i.length c14,Value.func (.func 234) #[] #[bV a16 b]]) (h6:cL K a4 c5 e) (h9:cL K a7 c8 g) (a5:cL K a10 c11 h) (a6:cL K a13 c14 i) (x:fV K a16 b [zM (some q)]) (y:rdM K q o) (z:fV K a21 r [i64 p]) (c:wV a k l e g m n h i o p=some R):
  Calls Tryz.prog 336 ([i64 a,bV a1 d,bV a21 r]:List Value).toArray w (gO fun v w'=>v=zB R∧aK G K (L) w'):=by
 refine aS Tryz.func336 rfl (by kernel_rfl) (by show (3:Nat)≤10;decide) ?_
 unfold wV at c
 refine aI (aF (v:=zB false) (aG (aI (aC (cC (k':=d+8) aIZ rfl u rfl) (aC (bJ (t:=8) sc_237 j u rfl rfl) (aC (bJ (t:=0) cE j z rfl rfl) (aM (v:=i64 a) ?_)))))))
 obtain ⟨J,V,c⟩:=aB c
 refine jX (vs:=[i64 p,i64 a]) (caps:=[bV a16 b]) (us:=[i64 p,i64 a,bV a16 b]) rfl Tryz.call234 rfl rfl (xO j x y V) ?_
 rintro _ a8 ⟨rfl,Z⟩
 refine aF (v:=zB J) (aG ?_)
 obtain rfl:=zI c
 exact bF (bB Tryz.results336 rfl ⟨rfl,Z⟩)
theorem pG {d:(List Int)} {e:Nat} {l m:Int} {h:(List bH)} {i:(List Edge)} {n o:Int} {j:(List bH)} {k:(List Edge)} {z:Nat} {p:(List ((Int × Int) × Bool))} {J:Nat} {q:Int} {g:Nat} {R:Int} (hs:aK G K (L) w) (V:cL K a1 c2 d) (h6:fV K a4 e [i64 l,i64 m,zS a7 h.length c8,zS a10 i.length c11,i64 n,i64 o,zS a13 j.length c14,zS a16 k.length c17,Value.func (.func 234) #[] #[bV a19 z]]) (h9:cL K a7 c8 h) (b2:cL K a10 c11 i) (b3:cL K a13 c14 j) (b4:cL K a16 c17 k) (b5:fV K a19 z [zM (some J)]) (b6:rdM K J p) (b7:fV K a24 g [i64 q]) (b:fP d l m h i n o j k p q=some R):
  Calls Tryz.prog 167 ([zS a1 d.length c2,Value.func (.func 336) #[] #[bV a4 e,bV a24 g]]:List Value).toArray w (gO fun v w'=>v=i64 R∧aK G K (L) w'):=by
 refine aS Tryz.func167 rfl (by kernel_rfl) (by show (2:Nat)≤19;decide) ?_
 unfold fP at b
 refine aI (aF (v:=i64 0) (aG (aN (aI (aM (v:=zS a1 d.length c2) (aC (bT (len:=d.length) cG rfl) (aM (v:=i64 0) (aG (bC (fun f w=>fB=some R∧aK G K (L) w) ?_ ?_)))))))))
 ·rintro f d0 ⟨b,b8⟩
  unfold fB at b
  refine aA (aI (aF (v:=i64 (-1)) (aG ?_)))
  obtain rfl:=zI b
  exact bF (bB Tryz.results167 rfl ⟨rfl,b8⟩)
 obtain ⟨d1,c0,b⟩:=aB b
 refine cA c0 (fun (c:Int) f w=>f 0=zS a1 d.length c2∧f 1=Value.func (.func 336) #[] #[bV a4 e,bV a24 g]∧f 7=i64 (d.length:Int)∧f 8=i64 c∧aK G K (L) w) ?_ ?_
 ·exact ⟨rfl,rfl,rfl,rfl,hs⟩
 ·rintro c c1 f d2 a Z ⟨a0,a2,a3,r,u⟩
  replace a:dC d l m h i n o j k p q c=some c1:=a
  unfold dC at a
  refine aI (aC (cJ r a3) (aG (aN ?_)))
  rcases aH a with ⟨x,a⟩|⟨x,a⟩
  ·refine aL x rfl (aY (aA (aN (cP (aI (aO r (aF (v:=i64 c) (aG (aI (aO a2 (aO a0 (aM (v:=i64 c) ?_))))))))))))
   obtain ⟨a5,a6,a⟩:=aB a
   refine aC (cT cG rfl V rfl rfl rfl a6) ?_
   obtain ⟨d3,c3,c4⟩:=cL.el (sz:=1) rfl V a6
   cases c4
   refine aC (bJ (t:=0) cE u c3 rfl rfl) ?_
   obtain ⟨d4,c5,a⟩:=aB a
   refine jX (vs:=[i64 a5]) (caps:=[bV a4 e,bV a24 g]) (us:=[i64 a5,bV a4 e,bV a24 g]) rfl Tryz.call336 rfl rfl (aDg u h6 h9 b2 b3 b4 b5 b6 b7 c5) ?_
   rintro _ d5 ⟨rfl,a8⟩
   refine aG ?_
   rcases aH a with ⟨y,a⟩|⟨y,a⟩
   ·refine aL y rfl (aI (aM (v:=i64 c) (aF (v:=i64 c) (aG (bF (bQ (aR (aR ?_))))))))
    have c6:=Z _ (zI a).symm
    subst c6
    have b:(some c)=some R:=b
    obtain rfl:=zI b
    exact bQ (aR (aR (bB Tryz.results167 rfl ⟨rfl,a8⟩)))
   ·exact aJ y rfl (aY (bE (aA (aP (aC (cM r rfl) (aM (v:=i64 (wr (c+1))) (aG ⟨wr (c+1),(zI a).symm,a0,a2,a3,rfl,a8⟩)))))))
  ·refine aJ x rfl (bZ (aW (aW ?_)))
   have c9:=Z _ (zI a).symm
   subst c9
   have b:(fB)=some R:=b
   exact bO (aA ⟨b,u⟩)
theorem oA {a:(List Int)} {b:Nat} {j k:Int} {e:(List bH)} {g:(List Edge)} {l m:Int} {h:(List bH)} {i:(List Edge)} {n:Nat} {o:(List ((Int × Int) × Bool))} {p:Nat} {q:Int} {c:Nat} {R:Bool} (r:aK G K (L) w) (t:cL K a1 c2 a) (u:fV K a4 b [i64 j,i64 k,zS a7 e.length c8,zS a10 g.length c11,i64 l,i64 m,zS a13 h.length c14,zS a16 i.length c17,Value.func (.func 234) #[] #[bV a19 n]]) (x:cL K a7 c8 e) (y:cL K a10 c11 g) (z:cL K a13 c14 h) (J:cL K a16 c17 i) (V:fV K a19 n [zM (some p)]) (Z:rdM K p o) (a0:fV K a24 c [i64 q]) (d:fC a j k e g l m h i o q=some R):
  Calls Tryz.prog 330 ([zS a1 a.length c2,Value.func (.func 336) #[] #[bV a4 b,bV a24 c]]:List Value).toArray w (gO fun v w'=>v=zB R∧aK G K (L) w'):=by
 refine aS Tryz.func330 rfl (by kernel_rfl) (by show (2:Nat)≤9;decide) ?_
 unfold fC at d
 refine aI (aF (v:=zB false) (aG (aI (aM (v:=zS a1 a.length c2) (aM (v:=Value.func (.func 336) #[] #[bV a4 b,bV a24 c]) ?_)))))
 obtain ⟨a2,a3,d⟩:=aB d
 refine aU (vs:=[zS a1 a.length c2,Value.func (.func 336) #[] #[bV a4 b,bV a24 c]]) Tryz.call167 rfl (pG r t u x y z J V Z a0 a3) ?_
 rintro _ a8 ⟨rfl,a5⟩
 refine aC (uI rfl rfl) (aF (v:=zB (decide (0≤a2))) (aG ?_))
 obtain rfl:=zI d
 exact bF (bB Tryz.results330 rfl ⟨rfl,a5⟩)
theorem aDh {r_a r_b:cH} {g:Nat} {l:(List ((Int × Int) × Bool))} {m:Nat} {n y:Int} {h:bH} {e:Int} {R:Bool} (x:aK G K (L) w) (z:cL K a1 c2 r_a.L) (J:cL K a4 c5 r_a.E) (o:cL K a7 c8 r_b.L) (p:cL K a10 c11 r_b.E) (V:fV K a13 g [zM (some m)]) (Z:rdM K m l) (c:pS r_a r_b l n y h e=some R):
  Calls Tryz.prog 287 ([zA #[i64 r_a.N,i64 r_a.I,zS a1 r_a.L.length c2,zS a4 r_a.E.length c5,i64 r_b.N,i64 r_b.I,zS a7 r_b.L.length c8,zS a10 r_b.E.length c11,Value.func (.func 234) #[] #[bV a13 g]],i64 n,i64 y,str h,i64 e]:List Value).toArray w (gO fun v w'=>v=zB R∧aK G K (L) w'):=by
 let q:=[i64 r_a.N,i64 r_a.I,zS a1 r_a.L.length c2,zS a4 r_a.E.length c5,i64 r_b.N,i64 r_b.I,zS a7 r_b.L.length c8,zS a10 r_b.E.length c11,Value.func (.func 234) #[] #[bV a13 g]]
 refine aS Tryz.func287 rfl (by kernel_rfl) (by show (5:Nat)≤19;decide) ?_
 unfold pS at c
 refine aI (eE (v:=zA #[i64 r_a.N,i64 r_a.I,zS a1 r_a.L.length c2,zS a4 r_a.E.length c5,i64 r_b.N,i64 r_b.I,zS a7 r_b.L.length c8,zS a10 r_b.E.length c11,Value.func (.func 234) #[] #[bV a13 g]]) (vs:=q) x rfl rfl (fun j d4 a0=>(eE (v:=i64 e) (vs:=[i64 e]) a0 rfl rfl (fun k d5 r=>(aF (v:=zB false) (aG (aI (aC (bG (t':=4) aFK rfl rfl) (aC (dF (us:=(zC r_b a7 c8 a10 c11)) eC r (i:=1) rfl rfl rfl rfl) (aM (v:=i64 y) (dJ (Kt:=K) (xs:=([y]:List Int)) (cs:=[i64 y]) (vs:=[(0,i64 y)]) cG qE rfl rfl r rfl (by kernel_rfl) rfl rfl rfl ⟨rfl,trivial⟩ (fun t a2 (a3:aK G K (aV 2 K t 1 ([y]:List Int)::box k 2 [i64 e]::box j 260 q::L) a2)=>(aM (v:=str h) ?_)))))))))))))
 obtain ⟨d6,u,a5,a6,a8⟩:=aK.lendS (i:=0) a3 (zR _) rfl
 obtain ⟨a9,b0,c⟩:=aB c
 refine aU (vs:=[zA (zCa r_b a7 c8 a10 c11),zS t ([y]:List Int).length 1,str h]) Tryz.call122 rfl (vK a6 (o.mono u) (p.mono u) a5 b0) ?_
 rintro _ d7 ⟨b1,b2,rfl,b3⟩
 have b4:=a8 _ _ b3
 refine aC (qD (vs:=[zP (some ⟨j,0,none⟩),zP (some ⟨k,0,none⟩)]) rfl) ?_
 obtain ⟨d8,d,b5,b6,b7⟩:=aK.lendS (i:=1) b4 (zR _) rfl
 obtain ⟨d9,b,b8,b9,c0⟩:=aK.lendB (i:=2) b6 rfl
 obtain ⟨e0,a,c1,c3,c4⟩:=aK.lendB (i:=1) b9 rfl
 obtain ⟨c6,c7,c⟩:=aB c
 refine aU (vs:=[zS b1 a9.length b2,Value.func (.func 336) #[] #[bV (some ⟨j,0,none⟩) 0,bV (some ⟨k,0,none⟩) 0]]) Tryz.call330 rfl (oA c3 (b5.mono (zL b a)) (b8.mono a) (z.mono (zL (zL d b) a)) (J.mono (zL (zL d b) a)) (o.mono (zL (zL d b) a)) (p.mono (zL (zL d b) a)) (V.mono (zL (zL d b) a)) (Z.mono (zL (zL d b) a)) c1 c7) ?_
 rintro _ e1 ⟨rfl,c9⟩
 have d0:=c4 _ _ c9
 have d1:=c0 _ _ d0
 have d2:=b7 _ _ d1
 refine aF (v:=zB c6) (aG ?_)
 obtain rfl:=zI c
 exact bF (bB Tryz.results287 rfl ⟨rfl,(aK.arr 4 [] d2 rfl)⟩)
theorem yT {r_a r_b:cH} {j:Nat} {p:(List ((Int × Int) × Bool))} {a0:Nat} {g y:Int} {R:Bool} (hs:aK G K (L) w) (m:cL K a1 c2 r_a.L) (h6:cL K a4 c5 r_a.E) (h9:cL K a7 c8 r_b.L) (c1:cL K a10 c11 r_b.E) (c3:fV K a13 j [zM (some a0)]) (c4:rdM K a0 p) (b:kY r_a r_b p g y=some R):
  Calls Tryz.prog 285 ([zA #[i64 r_a.N,i64 r_a.I,zS a1 r_a.L.length c2,zS a4 r_a.E.length c5,i64 r_b.N,i64 r_b.I,zS a7 r_b.L.length c8,zS a10 r_b.E.length c11,Value.func (.func 234) #[] #[bV a13 j]],i64 g,i64 y,Value.func (.func 287) #[] #[]]:List Value).toArray w (gO fun v w'=>v=zB R∧aK G K (L) w'):=by
 let n:=[i64 r_a.N,i64 r_a.I,zS a1 r_a.L.length c2,zS a4 r_a.E.length c5,i64 r_b.N,i64 r_b.I,zS a7 r_b.L.length c8,zS a10 r_b.E.length c11,Value.func (.func 234) #[] #[bV a13 j]]
 refine aS Tryz.func285 rfl (by kernel_rfl) (by show (4:Nat)≤36;decide) ?_
 unfold kY at b
 refine aI (eE (v:=zA #[i64 r_a.N,i64 r_a.I,zS a1 r_a.L.length c2,zS a4 r_a.E.length c5,i64 r_b.N,i64 r_b.I,zS a7 r_b.L.length c8,zS a10 r_b.E.length c11,Value.func (.func 234) #[] #[bV a13 j]]) (vs:=n) hs rfl rfl (fun q f0 a3=>(aF (v:=zB false) (aG (aN (aI (aC (bG (t':=0) aCb rfl rfl) (aC (dF (us:=(zC r_a a1 c2 a4 c5)) eC a3 (i:=0) rfl rfl rfl rfl) (aM (v:=i64 g) ?_)))))))))
 obtain ⟨k,c6,b⟩:=aB b
 refine aU (vs:=[zA (zCa r_a a1 c2 a4 c5),i64 g]) Tryz.call121 rfl (aAk a3 m h6 c6) ?_
 rintro _ f1 ⟨r,u,rfl,c7⟩
 refine aC (bT (len:=k.length) bY rfl) (aM (v:=i64 0) (aG (bC (fun f w=>jM=some R∧aK G K (L) w) ?_ ?_)))
 ·rintro f f2 ⟨b,c9⟩
  unfold jM at b
  refine aA (aI (aF (v:=zB true) (aG ?_)))
  obtain rfl:=zI b
  exact bF (bB Tryz.results285 rfl ⟨rfl,c9⟩)
 obtain ⟨f3,d1,b⟩:=aB b
 refine cA d1 (fun (l:Int) f w=>f 1=i64 g∧f 2=i64 y∧f 3=Value.func (.func 287) #[] #[]∧f 4=zP (some ⟨q,0,none⟩)∧f 14=zS r k.length u∧f 15=i64 (k.length:Int)∧f 16=i64 l∧aK G K (aV 63 K r u k::box q 260 n::L) w) ?_ ?_
 ·exact ⟨rfl,rfl,rfl,rfl,rfl,rfl,rfl,c7⟩
 ·rintro l d2 f f4 a a5 ⟨a6,a8,a9,x,b0,b1,z,o⟩
  replace a:gA r_a r_b p g y k l=some d2:=a
  unfold gA at a
  refine aI (aC (cJ z b1) (aG (aN ?_)))
  rcases aH a with ⟨J,a⟩|⟨J,a⟩
  ·refine aL J rfl (aY (aA (aN (cP (aI ?_)))))
   obtain ⟨c,V,a⟩:=aB a
   have d3:=dM o (i:=0) rfl V
   refine aC (eB bY rfl d3 b0 rfl z V) (aC (aAH (t:=0) (vs:=[i64 c.F,i64 c.B,i64 c.To]) iJ o (i:=0) rfl V rfl rfl rfl rfl) (bW (vs:=[i64 0,i64 0,i64 0]) Tryz.zeroValue63 o rfl (fun d4 f5 d5=>(cD (i:=0) (ns:=[i64 c.F,i64 c.B,i64 c.To]) (us:=[i64 c.F,i64 c.B,i64 c.To]) Tryz.sizeOf63 d5 rfl rfl rfl rfl rfl (dK rfl) rfl rfl (fun d6 (d7:aK G K (box d4 63 [i64 c.F,i64 c.B,i64 c.To]::aV 63 K r u k::box q 260 n::L) d6)=>(aG (aN ?_)))))))
   obtain ⟨f6,h,b2,d8,d9⟩:=aK.lendB (i:=0) d7 rfl
   obtain ⟨e0,e,b3,b4,e1⟩:=aK.lendB (i:=1) d8 rfl
   refine iB (C:=fun w'=>∃ L',aK G e0 L' w') [(0,0),(1,0),(2,0),(3,0),(4,0),(5,0),(6,0),(7,0),(8,0),(9,0),(10,0),(11,0),(12,0),(13,1),(14,0)] bU (by kernel_rfl) (fun _ hg=>⟨_,aK.mono b4 hg⟩) (fun f7 e2=>?_)
   have d:=aK.mono b4 e2
   refine bX rfl (fun _ _=>bD a9) (bX rfl (fun _ ⟨_,d⟩=>gG (t:=0) (vs:=n) aFJ d b3 x rfl rfl) (bX rfl (fun _ _=>bD a6) (bX rfl (fun _ _=>bD a8) (bX rfl (fun _ _=>bG (t':=0) aCb x rfl) (bX rfl (fun _ _=>bG (t':=2) gI rfl rfl) (bX rfl (fun _ ⟨_,d⟩=>bJ (t:=2) mG d b3 rfl rfl) (bX rfl (fun _ _=>bG (t':=1) gB rfl rfl) (bX rfl (fun _ ⟨_,d⟩=>bJ (t:=1) cE d (b2.mono e) rfl rfl) ?_))))))))
   obtain ⟨b5,b6,a⟩:=aB a
   refine bX rfl (fun _ _=>cT cO rfl (m.mono (zL h e)) rfl rfl rfl b6) ?_
   obtain ⟨f8,e3,e4⟩:=cL.el (sz:=1) rfl m b6
   cases e4
   refine bX rfl (fun _ ⟨_,d⟩=>bJ (t:=0) pU d (e3.mono (zL h e)) rfl rfl) (bX rfl (fun _ _=>bG (t':=2) eM rfl rfl) (bX rfl (fun _ ⟨_,d⟩=>bJ (t:=2) cE d (b2.mono e) rfl rfl) (nD rfl ?_)))
   obtain ⟨f9,e5,a⟩:=aB a
   refine jX (vs:=[zA #[i64 r_a.N,i64 r_a.I,zS a1 r_a.L.length c2,zS a4 r_a.E.length c5,i64 r_b.N,i64 r_b.I,zS a7 r_b.L.length c8,zS a10 r_b.E.length c11,Value.func (.func 234) #[] #[bV a13 j]],i64 g,i64 y,str b5,i64 c.To]) (caps:=[]) (us:=[zA #[i64 r_a.N,i64 r_a.I,zS a1 r_a.L.length c2,zS a4 r_a.E.length c5,i64 r_b.N,i64 r_b.I,zS a7 r_b.L.length c8,zS a10 r_b.E.length c11,Value.func (.func 234) #[] #[bV a13 j]],i64 g,i64 y,str b5,i64 c.To]) rfl Tryz.call287 rfl rfl (aDh (r_a:=⟨r_a.N,r_a.I,r_a.L,r_a.E⟩) (r_b:=⟨r_b.N,r_b.I,r_b.L,r_b.E⟩) d (m.mono (zL h e)) (h6.mono (zL h e)) (h9.mono (zL h e)) (c1.mono (zL h e)) (c3.mono (zL h e)) (c4.mono (zL h e)) e5) ?_
   rintro _ g0 ⟨rfl,b7⟩
   refine bK (aA ⟨⟨_,b7⟩,?_⟩)
   refine bX rfl (fun _ _=>fH rfl) (mP ?_)
   have e6:=e1 _ _ b7
   have b8:=d9 _ _ e6
   refine aA ?_
   rcases aH a with ⟨Z,a⟩|⟨Z,a⟩
   ·refine aL Z rfl (aI (aF (v:=zB false) (aG (bF (bQ (aR (aR ?_)))))))
    have e7:=a5 _ (zI a).symm
    subst e7
    have b:(some false)=some R:=b
    obtain rfl:=zI b
    exact bQ (aR (aR (bB Tryz.results285 rfl ⟨rfl,(aK.arr 3 [] b8 rfl)⟩)))
   ·exact aJ Z rfl (aY (bE (aA (aP (aC (cM z rfl) (aM (v:=i64 (wr (l+1))) (aG ⟨wr (l+1),(zI a).symm,a6,a8,a9,x,b0,b1,rfl,(aK.arr 3 [2,1] b8 rfl)⟩)))))))
  ·refine aJ J rfl (bZ (aW (aW ?_)))
   have e9:=a5 _ (zI a).symm
   subst e9
   have b:(jM)=some R:=b
   exact bO (aA ⟨b,(aK.arr 2 [] o rfl)⟩)
theorem xU {r_a r_b:cH} {e:Nat} {m:(List ((Int × Int) × Bool))} {z:Nat} {h d y:Int} {R:Bool} (hs:aK G K (L) w) (n:cL K a1 c2 r_a.L) (o:cL K a4 c5 r_a.E) (p:cL K a7 c8 r_b.L) (q:cL K a10 c11 r_b.E) (J:fV K a13 e [zM (some z)]) (V:rdM K z m) (a:gV r_a r_b m h d y=some R):
  Calls Tryz.prog 235 ([zA #[i64 r_a.N,i64 r_a.I,zS a1 r_a.L.length c2,zS a4 r_a.E.length c5,i64 r_b.N,i64 r_b.I,zS a7 r_b.L.length c8,zS a10 r_b.E.length c11,Value.func (.func 234) #[] #[bV a13 e]],i64 h,i64 d,i64 y]:List Value).toArray w (gO fun v w'=>v=zB R∧aK G K (L) w'):=by
 let l:=[i64 r_a.N,i64 r_a.I,zS a1 r_a.L.length c2,zS a4 r_a.E.length c5,i64 r_b.N,i64 r_b.I,zS a7 r_b.L.length c8,zS a10 r_b.E.length c11,Value.func (.func 234) #[] #[bV a13 e]]
 refine aS Tryz.func235 rfl (by kernel_rfl) (by show (4:Nat)≤33;decide) ?_
 unfold gV at a
 refine aI (eE (v:=zA #[i64 r_a.N,i64 r_a.I,zS a1 r_a.L.length c2,zS a4 r_a.E.length c5,i64 r_b.N,i64 r_b.I,zS a7 r_b.L.length c8,zS a10 r_b.E.length c11,Value.func (.func 234) #[] #[bV a13 e]]) (vs:=l) hs rfl rfl (fun Z f2 b5=>(aF (v:=zB false) (aG (aN (aN (cN (fun f w=>∃ (r:Bool),hQ r_a r_b m h d y r=some R∧f 1=i64 h∧f 2=i64 d∧f 3=i64 y∧f 4=zP (some ⟨Z,0,none⟩)∧f 22=zB r∧aK G K (box Z 260 l::L) w) ?_ ?_)))))))
 ·rintro f f3 ⟨r,a,b6,a0,a2,a3,a5,k⟩
  unfold hQ at a
  refine aA ?_
  rcases aH a with ⟨u,a⟩|⟨u,a⟩
  ·refine aL u a5 (aI (aF (v:=zB false) (aG ?_)))
   obtain rfl:=zI a
   exact bF (aR (bB Tryz.results235 rfl ⟨rfl,(aK.arr 1 [] k rfl)⟩))
  ·refine aJ u a5 (aY (aA (aN (aI (aO b6 (aC (lC rfl rfl) (aG ?_)))))))
   rcases aH a with ⟨x,a⟩|⟨x,a⟩
   ·refine aL x rfl (aI (aC (dF (us:=l) aFJ k (i:=0) rfl a3 rfl rfl) (aO a0 (aO a2 ?_))))
    obtain ⟨b8,b9,a⟩:=aB a
    refine aU (vs:=[zA #[i64 r_a.N,i64 r_a.I,zS a1 r_a.L.length c2,zS a4 r_a.E.length c5,i64 r_b.N,i64 r_b.I,zS a7 r_b.L.length c8,zS a10 r_b.E.length c11,Value.func (.func 234) #[] #[bV a13 e]],i64 d,i64 y,Value.func (.func 286) #[] #[]]) Tryz.call285 rfl (aAR (r_a:=⟨r_a.N,r_a.I,r_a.L,r_a.E⟩) (r_b:=⟨r_b.N,r_b.I,r_b.L,r_b.E⟩) k n o p q J V b9) ?_
    rintro _ f4 ⟨rfl,c0⟩
    refine aF (v:=zB b8) (aG ?_)
    obtain rfl:=zI a
    exact bF (aR (bB Tryz.results235 rfl ⟨rfl,(aK.arr 1 [] c0 rfl)⟩))
   ·refine aJ x rfl (aY (aA (aI (aC (dF (us:=l) aFJ k (i:=0) rfl a3 rfl rfl) (aO a0 (aO a2 ?_))))))
    obtain ⟨c3,c4,a⟩:=aB a
    refine aU (vs:=[zA #[i64 r_a.N,i64 r_a.I,zS a1 r_a.L.length c2,zS a4 r_a.E.length c5,i64 r_b.N,i64 r_b.I,zS a7 r_b.L.length c8,zS a10 r_b.E.length c11,Value.func (.func 234) #[] #[bV a13 e]],i64 d,i64 y,Value.func (.func 287) #[] #[]]) Tryz.call285 rfl (yT (r_a:=⟨r_a.N,r_a.I,r_a.L,r_a.E⟩) (r_b:=⟨r_b.N,r_b.I,r_b.L,r_b.E⟩) k n o p q J V c4) ?_
    rintro _ f5 ⟨rfl,c6⟩
    refine aF (v:=zB c3) (aG ?_)
    obtain rfl:=zI a
    exact bF (bB Tryz.results235 rfl ⟨rfl,(aK.arr 1 [] c6 rfl)⟩)
 obtain ⟨c9,j,a6,a8,a9⟩:=aK.lendB (i:=0) b5 rfl
 refine iB (C:=fun w'=>∃ L',aK G c9 L' w') [(0,0),(1,0),(2,0),(3,0),(4,0),(5,0),(7,0),(8,0),(9,0),(6,1),(10,1),(11,1),(12,0),(13,0)] bU (by kernel_rfl) (fun _ hg=>⟨_,aK.mono a8 hg⟩) (fun f6 d0=>?_)
 have c:=aK.mono a8 d0
 refine bX rfl (fun _ _=>bD (v:=i64 h) rfl) (bX rfl (fun _ _=>lC rfl rfl) (bX rfl (fun _ _=>bD (v:=zB (h == 1)) rfl) ?_))
 rcases aH a with ⟨b,a⟩|⟨b,a⟩
 ·refine aBX rfl rfl rfl b (fun _ _=>bG (t':=0) aCb rfl rfl) (aBX rfl rfl rfl b (fun _ ⟨_,c⟩=>gG (t:=0) (vs:=(zC r_a a1 c2 a4 c5)) eC c a6 rfl rfl rfl) (aBX rfl rfl rfl b (fun _ _=>bD (v:=i64 d) rfl) (aBX rfl rfl rfl b (fun _ _=>bG (t':=4) aFK rfl rfl) (aBX rfl rfl rfl b (fun _ ⟨_,c⟩=>gG (t:=4) (vs:=(zC r_b a7 c8 a10 c11)) eC c a6 rfl rfl rfl) (aBX rfl rfl rfl b (fun _ _=>bD (v:=i64 y) rfl) (nD rfl (bA b rfl rfl ?_)))))))
  obtain ⟨d1,d2,a⟩:=aB a
  refine aU (vs:=[zA (zCa r_a a1 c2 a4 c5),i64 d]) Tryz.call233 rfl (lB c (n.mono j) (o.mono j) d2) ?_
  rintro _ f7 ⟨d3,d4,rfl,b0⟩
  refine bK (aA ⟨⟨_,b0⟩,?_⟩)
  refine nD rfl (bA b rfl rfl ?_)
  obtain ⟨d5,d6,a⟩:=aB a
  refine aU (vs:=[zA (zCa r_b a7 c8 a10 c11),i64 y]) Tryz.call233 rfl (lB b0 (p.mono j) (q.mono j) d6) ?_
  rintro _ f8 ⟨d7,d8,rfl,b1⟩
  refine bK (aA ⟨⟨_,b1⟩,?_⟩)
  refine nD rfl (bA b rfl rfl ?_)
  obtain ⟨f9,d9,e0,e1,e2⟩:=aK.lendS (i:=1) b1 j rfl
  obtain ⟨g0,e3,e4,e5,e6⟩:=aK.lendS (i:=0) e1 (zL j d9) rfl
  obtain ⟨b2,e7,a⟩:=aB a
  refine aU (vs:=[zS d3 d1.length d4,zS d7 d5.length d8]) Tryz.call232 rfl (kU e5 (e0.mono e3) e4 e7) ?_
  rintro _ g1 ⟨rfl,e8⟩
  have e9:=e6 _ _ e8
  have b3:=e2 _ _ e9
  refine bK (aA ⟨⟨_,b3⟩,?_⟩)
  refine aBX rfl rfl rfl b (fun _ _=>fH rfl) (bX rfl (fun _ _=>bI (v:=zB (!b2)) b rfl rfl) (mP ?_))
  have f0:=a9 _ _ b3
  exact aA ⟨!b2,a,rfl,rfl,rfl,rfl,rfl,(aK.arr 3 [0] f0 rfl)⟩
 ·refine zQ rfl rfl rfl (cB b) (zQ rfl rfl rfl (cB b) (zQ rfl rfl rfl (cB b) (zQ rfl rfl rfl (cB b) (zQ rfl rfl rfl (cB b) (zQ rfl rfl rfl (cB b) (nD rfl (aQ (g:=11) b (by exact rfl) rfl (bK (aA ⟨⟨_,c⟩,?_⟩)))))))))
  refine nD rfl (aQ (g:=11) b (by exact rfl) rfl (bK (aA ⟨⟨_,c⟩,?_⟩)))
  refine nD rfl (aQ (g:=11) b (by exact rfl) rfl (bK (aA ⟨⟨_,c⟩,?_⟩)))
  refine zQ rfl rfl rfl (cB b) (bX rfl (fun _ _=>bL (v:=zB false) b rfl rfl) (mP ?_))
  have f1:=a9 _ _ c
  exact aA ⟨false,a,rfl,rfl,rfl,rfl,rfl,f1⟩
theorem aDM {a b:cH} {m:Int} {R:((List ((Int × Int) × Bool)) × Int)} (hs:aK G K (L) w) (h3:cL K a1 c2 a.L) (h6:cL K a4 c5 a.E) (h9:cL K a7 c8 b.L) (j4:cL K a10 c11 b.E) (hm:yQ a b m=some R):
  Calls Tryz.prog 170 ([zA (zCa a a1 c2 a4 c5),zA (zCa b a7 c8 a10 c11),i64 m]:List Value).toArray w (gO fun v w'=>∃ (j5:Nat),v=Value.tuple #[zM (some j5),i64 R.2]∧aK G K (rR j5 R.1::L) w'):=by
 let p:=(zC b a7 c8 a10 c11)
 let q:=(zC a a1 c2 a4 c5)
 refine aS Tryz.func170 rfl (by kernel_rfl) (by show (3:Nat)≤89;decide) ?_
 unfold yQ at hm
 refine aI (eE (v:=zA (zCa a a1 c2 a4 c5)) (vs:=q) hs rfl rfl (fun d w14 o6=>(eE (v:=zA (zCa b a7 c8 a10 c11)) (vs:=p) o6 rfl rfl (fun e w17 o7=>(aF (v:=zM none) (aF (v:=i64 0) (aG (aI (aFA (Int × Int) Bool o7 ?_)))))))))
 intro u o8 (o9:aK G K (rR u ([]:(List ((Int × Int) × Bool)))::box e 29 p::box d 29 q::L) o8)
 refine bW (vs:=[zM none]) Tryz.zeroValue124 o9 rfl (fun c w23 p0=>(cD (i:=0) (ns:=[zM (some u)]) (us:=[zM (some u)]) Tryz.sizeOf124 p0 rfl rfl rfl rfl rfl (dK rfl) rfl rfl ?_))
 intro p1 (j6:aK G K (box c 124 [zM (some u)]::rR u ([]:(List ((Int × Int) × Bool)))::box e 29 p::box d 29 q::L) p1)
 refine aG (aN (aI (aC (bG (t':=0) iM rfl rfl) (aC (cF cE j6 (i:=3) rfl rfl rfl) (aM (v:=i64 0) (aG (bC (fun f w=>∃ (d6:(List ((Int × Int) × Bool))),pB a b m d6=some R∧f 2=i64 m∧f 3=zP (some ⟨d,0,none⟩)∧f 4=zP (some ⟨e,0,none⟩)∧f 8=zP (some ⟨c,0,none⟩)∧aK G K (box c 124 [zM (some u)]::rR u d6::box e 29 p::box d 29 q::L) w) ?_ ?_)))))))
 ·rintro f w32 ⟨d6,hm,p2,j7,j8,p3,f8⟩
  unfold pB at hm
  refine aA (aI (aC (bG (t':=1) nE j7 rfl) (aC (cF cE f8 (i:=3) rfl rfl rfl) (aC (bG (t':=1) nE j8 rfl) (aC (cF cE f8 (i:=2) rfl rfl rfl) (aC (zV (vs:=[(0,i64 a.I),(1,i64 b.I)]) (cs:=[i64 a.I,i64 b.I]) aBu aCY rfl (by kernel_rfl)) (bW (vs:=[i64 0,i64 0]) Tryz.zeroValue126 f8 rfl (fun x w35 p4=>(cD (i:=0) (ns:=[i64 a.I,i64 b.I]) (us:=[i64 a.I,i64 b.I]) Tryz.sizeOf126 p4 rfl rfl rfl rfl rfl (dK rfl) rfl rfl (fun p5 (p6:aK G K (box x 126 [i64 a.I,i64 b.I]::box c 124 [zM (some u)]::rR u d6::box e 29 p::box d 29 q::L) p5)=>(aG (aI (aF (v:=i64 (-1)) (aG (aI (aF (v:=i64 0) (aG (cP ?_))))))))))))))))))
  obtain ⟨a16,p7,hm⟩:=aB hm
  refine cA p7 (fun (s:((List ((Int × Int) × Bool)) × Int × Int)) f w=>match s with|(h,b5,a2)=>∃ (l:Nat),f 2=i64 m∧f 3=zP (some ⟨d,0,none⟩)∧f 4=zP (some ⟨e,0,none⟩)∧f 8=zP (some ⟨c,0,none⟩)∧f 11=zP (some ⟨x,0,none⟩)∧f 12=i64 b5∧f 13=i64 a2∧aK G K (box x 126 [i64 a.I,i64 b.I]::box c 124 [zM (some l)]::rR l h::box e 29 p::box d 29 q::L) w) ?_ ?_
  ·exact ⟨u,p2,j7,j8,p3,rfl,rfl,rfl,p6⟩
  ·rintro ⟨h,b5,a2⟩ c1 f w72 o p8 ⟨l,j9,k0,k1,f9,g0,g1,k2,c3⟩
   replace o:mD a b m h b5 a2=some c1:=o
   unfold mD at o
   refine aN (bC (fun f w=>∃ (d7:(List ((Int × Int) × Bool))) (d8:Int) (d9:Nat),tF a2 d7 d8=some c1∧f 2=i64 m∧f 3=zP (some ⟨d,0,none⟩)∧f 4=zP (some ⟨e,0,none⟩)∧f 8=zP (some ⟨c,0,none⟩)∧f 11=zP (some ⟨x,0,none⟩)∧f 12=i64 d8∧f 13=i64 a2∧aK G K (rR d9 d7::box x 126 [i64 a.I,i64 b.I]::box c 124 [zM (some d9)]::box e 29 p::box d 29 q::L) w) ?_ ?_)
   ·rintro f a18 ⟨d7,d8,d9,o,p9,q0,q1,q2,q3,q4,q5,q6⟩
    unfold tF at o
    exact aA (aP (aO q5 (aC (cM rfl rfl) (aF (v:=i64 (wr (a2+1))) (aG ⟨(d7,d8,wr (a2+1)),(zI o).symm,d9,p9,q0,q1,q2,q3,q4,rfl,(aK.arr 3 [1,2,0] q6 rfl)⟩)))))
   refine aAF (fun f w=>∃ (b0:Int),mB a b m h a2 b0=some c1∧f 2=i64 m∧f 3=zP (some ⟨d,0,none⟩)∧f 4=zP (some ⟨e,0,none⟩)∧f 8=zP (some ⟨c,0,none⟩)∧f 11=zP (some ⟨x,0,none⟩)∧f 12=i64 b0∧f 13=i64 a2∧aK G K (box x 126 [i64 a.I,i64 b.I]::box c 124 [zM (some l)]::rR l h::box e 29 p::box d 29 q::L) w) ?_ ?_
   ·rintro f a19 ⟨b0,o,q7,k3,k4,g2,q8,q9,r0,g3⟩
    unfold mB at o
    refine aI (aC (dF (us:=q) eC g3 (i:=4) rfl k3 rfl rfl) (aC (dF (us:=p) eC g3 (i:=3) rfl k4 rfl rfl) (aC (qD (vs:=[zP (some ⟨c,0,none⟩)]) (lst1 g2)) (aC (kA (vs:=[(0,zA (zCa a a1 c2 a4 c5)),(1,zA (zCa b a7 c8 a10 c11)),(2,Value.func (.func 234) #[] #[zP (some ⟨c,0,none⟩)])]) (cs:=[i64 a.N,i64 a.I,zS a1 a.L.length c2,zS a4 a.E.length c5,i64 b.N,i64 b.I,zS a7 b.L.length c8,zS a10 b.E.length c11,Value.func (.func 234) #[] #[zP (some ⟨c,0,none⟩)]]) bs_260 rfl (by kernel_rfl)) (bW (vs:=[i64 0,i64 0,zS none 0 0,zS none 0 0,i64 0,i64 0,zS none 0 0,zS none 0 0,Value.nilFunc]) Tryz.zeroValue260 g3 rfl (fun a6 a20 r1=>(cD (i:=0) (ns:=[i64 a.N,i64 a.I,zS a1 a.L.length c2,zS a4 a.E.length c5,i64 b.N,i64 b.I,zS a7 b.L.length c8,zS a10 b.E.length c11,Value.func (.func 234) #[] #[zP (some ⟨c,0,none⟩)]]) (us:=[i64 a.N,i64 a.I,zS a1 a.L.length c2,zS a4 a.E.length c5,i64 b.N,i64 b.I,zS a7 b.L.length c8,zS a10 b.E.length c11,Value.func (.func 234) #[] #[zP (some ⟨c,0,none⟩)]]) Tryz.sizeOf260 r1 rfl rfl rfl rfl rfl (dK rfl) rfl rfl (fun r2 (r3:aK G K (box a6 260 [i64 a.N,i64 a.I,zS a1 a.L.length c2,zS a4 a.E.length c5,i64 b.N,i64 b.I,zS a7 b.L.length c8,zS a10 b.E.length c11,Value.func (.func 234) #[] #[zP (some ⟨c,0,none⟩)]]::box x 126 [i64 a.I,i64 b.I]::box c 124 [zM (some l)]::rR l h::box e 29 p::box d 29 q::L) r2)=>(aG (aI (aFA (Int × Int) Bool r3 ?_)))))))))))
    intro V r4 (k5:aK G K (rR V ([]:(List ((Int × Int) × Bool)))::box a6 260 [i64 a.N,i64 a.I,zS a1 a.L.length c2,zS a4 a.E.length c5,i64 b.N,i64 b.I,zS a7 b.L.length c8,zS a10 b.E.length c11,Value.func (.func 234) #[] #[zP (some ⟨c,0,none⟩)]]::box x 126 [i64 a.I,i64 b.I]::box c 124 [zM (some l)]::rR l h::box e 29 p::box d 29 q::L) r4)
    refine aF (v:=zM (some V)) (aG (aN (aI (aC (cF aBZ k5 (i:=3) rfl g2 rfl) (WO_range (i:=4) Tryz.runUnderlying124 k5 rfl rfl ?_)))))
    intro b2 r5 (k6:aK G K (rR V ([]:(List ((Int × Int) × Bool)))::box a6 260 [i64 a.N,i64 a.I,zS a1 a.L.length c2,zS a4 a.E.length c5,i64 b.N,i64 b.I,zS a7 b.L.length c8,zS a10 b.E.length c11,Value.func (.func 234) #[] #[zP (some ⟨c,0,none⟩)]]::box x 126 [i64 a.I,i64 b.I]::box c 124 [zM (some l)]::mpi b2 l h (List.map Prod.fst h) none::box e 29 p::box d 29 q::L) r5)
    refine aG (bC (fun f w=>∃ (c4:(List ((Int × Int) × Bool))),tG h a2 b0 c4=some c1∧f 2=i64 m∧f 3=zP (some ⟨d,0,none⟩)∧f 4=zP (some ⟨e,0,none⟩)∧f 8=zP (some ⟨c,0,none⟩)∧f 11=zP (some ⟨x,0,none⟩)∧f 12=i64 b0∧f 13=i64 a2∧f 15=zM (some V)∧aK G K (rR V c4::box x 126 [i64 a.I,i64 b.I]::box c 124 [zM (some l)]::rR l h::box e 29 p::box d 29 q::L) w) ?_ ?_)
    ·rintro f a21 ⟨c4,o,r6,r7,r8,e0,r9,k7,s0,k8,b7⟩
     unfold tG at o
     refine aA (aN (aI (aO k8 (aC (R_lenM Tryz.runUnderlying124 b7 (i:=0) rfl rfl) (aC (cF aBZ b7 (i:=2) rfl e0 rfl) (aC (R_lenM Tryz.runUnderlying124 b7 (i:=3) rfl rfl) (aC (lC rfl rfl) (aG ?_))))))))
     rcases aH o with ⟨g4,o⟩|⟨g4,o⟩
     ·refine aL g4 rfl (aI (aC (cF aBZ b7 (i:=2) rfl e0 rfl) (aO k7 (aF (v:=zM (some l)) (aF (v:=i64 b0) (aG (bF (aR (bQ (aR (aR (aR ?_))))))))))))
      have s1:=p8 _ (zI o).symm
      subst s1
      have hm:(some (h,b0))=some R:=hm
      obtain rfl:=zI hm
      exact bQ (rS Tryz.results170 rfl rfl ⟨l,rfl,(aK.arr 6 [3] b7 rfl)⟩)
     ·exact aJ g4 rfl (aY (aA (aP (aO k8 (cD (i:=2) (ns:=[zM (some V)]) (us:=[zM (some V)]) Tryz.sizeOf124 b7 rfl e0 rfl rfl rfl (dK rfl) rfl rfl (fun s3 (s4:aK G K (rR V c4::box x 126 [i64 a.I,i64 b.I]::box c 124 [zM (some V)]::rR l h::box e 29 p::box d 29 q::L) s3)=>(bK (bE (aA ⟨c4,b0,V,o,r6,r7,r8,e0,r9,k7,s0,(aK.arr 4 [0,1,2] s4 rfl)⟩)))))))))
    have s5:=aK.keysM (i:=0) k6 rfl
    obtain ⟨a22,k9,o⟩:=aB o
    obtain ⟨l0,s6,o⟩:=aB o
    refine W_loopC (fun (n:Nat) f w=>∃ (a8:List (Int × Int)) (b8:List (Int × Int)) (g5:Option ((Int × Int) × Bool)),List.Perm (a8++b8) (List.map Prod.fst h)∧b8.length=n∧f 2=i64 m∧f 3=zP (some ⟨d,0,none⟩)∧f 4=zP (some ⟨e,0,none⟩)∧f 8=zP (some ⟨c,0,none⟩)∧f 11=zP (some ⟨x,0,none⟩)∧f 12=i64 b0∧f 13=i64 a2∧f 14=zP (some ⟨a6,0,none⟩)∧f 15=zM (some V)∧f 67=zP (some ⟨b2,0,none⟩)∧aK G K (rR V (aDz (fQ a b m h) ([]:(List ((Int × Int) × Bool))) true a8)::box a6 260 [i64 a.N,i64 a.I,zS a1 a.L.length c2,zS a4 a.E.length c5,i64 b.N,i64 b.I,zS a7 b.L.length c8,zS a10 b.E.length c11,Value.func (.func 234) #[] #[zP (some ⟨c,0,none⟩)]]::box x 126 [i64 a.I,i64 b.I]::box c 124 [zM (some l)]::mpi b2 l h b8 g5::box e 29 p::box d 29 q::L) w) (List.length (List.map Prod.fst h)) ⟨[],_,_,List.Perm.refl _,rfl,q7,k3,k4,g2,q8,q9,r0,rfl,rfl,rfl,k6⟩ ?_ ?_
    ·rintro f l1 ⟨a8,b8,g5,c6,c7,c9,e1,e2,e3,e4,e5,e6,e7,d0,b9,l2⟩
     obtain rfl:=List.length_eq_zero_iff.1 c7
     refine aI (aC (R_nextN l2 (i:=4) rfl b9) (aC (dE rfl rfl) (aG (aN (aJ (by decide:¬ false=true) rfl (bZ (aW (aW ?_))))))))
     have s7:aK G K (rR V (aDz (fQ a b m h) ([]:(List ((Int × Int) × Bool))) true a8)::box a6 260 [i64 a.N,i64 a.I,zS a1 a.L.length c2,zS a4 a.E.length c5,i64 b.N,i64 b.I,zS a7 b.L.length c8,zS a10 b.E.length c11,Value.func (.func 234) #[] #[zP (some ⟨c,0,none⟩)]]::box x 126 [i64 a.I,i64 b.I]::box c 124 [zM (some l)]::rR l h::box e 29 p::box d 29 q::L) l1:=aK.endI (i:=4) l2 rfl
     have s8:aK G K (rR V l0::box a6 260 [i64 a.N,i64 a.I,zS a1 a.L.length c2,zS a4 a.E.length c5,i64 b.N,i64 b.I,zS a7 b.L.length c8,zS a10 b.E.length c11,Value.func (.func 234) #[] #[zP (some ⟨c,0,none⟩)]]::box x 126 [i64 a.I,i64 b.I]::box c 124 [zM (some l)]::rR l h::box e 29 p::box d 29 q::L) l1:=aK.permM (i:=0) s7 rfl (accS_end s5 k9 s6 c6)
     exact bO (aA ⟨l0,o,c9,e1,e2,e3,e4,e5,e6,d0,(aK.arr 2 [0] s8 rfl)⟩)
    ·rintro j f l3 ⟨a8,b8,g5,c6,c7,c9,e1,e2,e3,e4,e5,e6,e7,d0,b9,s9⟩
     have t0:b8≠[]:=by rintro rfl;cases c7
     refine aI (WO_nextC s9 (i:=4) rfl t0 b9 ?_)
     intro y d1 d2 t1 d3 a23 (l4:aK G K (rR V (aDz (fQ a b m h) ([]:(List ((Int × Int) × Bool))) true a8)::box a6 260 [i64 a.N,i64 a.I,zS a1 a.L.length c2,zS a4 a.E.length c5,i64 b.N,i64 b.I,zS a7 b.L.length c8,zS a10 b.E.length c11,Value.func (.func 234) #[] #[zP (some ⟨c,0,none⟩)]]::box x 126 [i64 a.I,i64 b.I]::box c 124 [zM (some l)]::mpi b2 l h d2 (some (y,d1))::box e 29 p::box d 29 q::L) t1)
     obtain ⟨t2,g6⟩:=mfil_at k9 c6 d3
     have b3:(fQ a b m h) y=some t2:=g6
     unfold fQ at b3
     refine aC (dE rfl rfl) (aG (aN (aL (rfl:true=true) rfl (aY (aA (cP (aI (aC (R_entry l4 (i:=4) rfl b9) (aC (dE rfl rfl) (bW (vs:=[i64 0,i64 0]) Tryz.zeroValue126 l4 rfl (fun l5 a24 t3=>(cD (i:=0) (ns:=[i64 y.1,i64 y.2]) (us:=[i64 y.1,i64 y.2]) Tryz.sizeOf126 t3 rfl rfl rfl rfl rfl (dK rfl) rfl rfl ?_))))))))))))
     intro t4 (e8:aK G K (box l5 126 [i64 y.1,i64 y.2]::rR V (aDz (fQ a b m h) ([]:(List ((Int × Int) × Bool))) true a8)::box a6 260 [i64 a.N,i64 a.I,zS a1 a.L.length c2,zS a4 a.E.length c5,i64 b.N,i64 b.I,zS a7 b.L.length c8,zS a10 b.E.length c11,Value.func (.func 234) #[] #[zP (some ⟨c,0,none⟩)]]::box x 126 [i64 a.I,i64 b.I]::box c 124 [zM (some l)]::mpi b2 l h d2 (some (y,d1))::box e 29 p::box d 29 q::L) t4)
     refine aG (aI (aC (dF (us:=[i64 a.N,i64 a.I,zS a1 a.L.length c2,zS a4 a.E.length c5,i64 b.N,i64 b.I,zS a7 b.L.length c8,zS a10 b.E.length c11,Value.func (.func 234) #[] #[zP (some ⟨c,0,none⟩)]]) aFJ e8 (i:=2) rfl e7 rfl rfl) (aO c9 (aC (R_ixP (t':=0) (j:=0) aBu rfl rfl (by decide) (by decide) rfl) (aC (cF cE e8 (i:=0) rfl rfl rfl) (aC (R_ixP (t':=1) (j:=1) aBu rfl rfl (by decide) (by decide) rfl) (aC (cF cE e8 (i:=0) rfl rfl rfl) ?_)))))))
     obtain ⟨a25,e9,t5,t6,t7⟩:=aK.lendI (i:=5) e8 rfl
     obtain ⟨a26,d4,t8,t9,u0⟩:=aK.lendB (i:=4) t6 rfl
     obtain ⟨a27,u1,b3⟩:=aB b3
     refine aU (vs:=[zA #[i64 a.N,i64 a.I,zS a1 a.L.length c2,zS a4 a.E.length c5,i64 b.N,i64 b.I,zS a7 b.L.length c8,zS a10 b.E.length c11,Value.func (.func 234) #[] #[bV (some ⟨c,0,none⟩) 0]],i64 m,i64 y.1,i64 y.2]) Tryz.call235 rfl (xU (r_a:=⟨a.N,a.I,a.L,a.E⟩) (r_b:=⟨b.N,b.I,b.L,b.E⟩) t9 (h3.mono (zL e9 d4)) (h6.mono (zL e9 d4)) (h9.mono (zL e9 d4)) (j4.mono (zL e9 d4)) t8 (t5.mono d4) u1) ?_
     rintro _ l3 ⟨rfl,u2⟩
     have u3:=u0 _ _ u2
     have g7:=t7 _ _ u3
     refine aG ?_
     rcases aH b3 with ⟨g8,b3⟩|⟨g8,b3⟩
     ·refine aL g8 rfl (aP (aO d0 (aC (dF (us:=[i64 y.1,i64 y.2]) ag_126 g7 (i:=2) rfl rfl rfl rfl) (aFC (i:=3) (k:=y) (v:=true) Tryz.runUnderlying124 aCa g7 rfl rfl rfl rfl rfl ?_))))
      intro l6 (u4:aK G K (mpi b2 l h d2 (some (y,d1))::box c 124 [zM (some l)]::box l5 126 [i64 y.1,i64 y.2]::rR V (tJ (aDz (fQ a b m h) ([]:(List ((Int × Int) × Bool))) true a8) y true)::box a6 260 [i64 a.N,i64 a.I,zS a1 a.L.length c2,zS a4 a.E.length c5,i64 b.N,i64 b.I,zS a7 b.L.length c8,zS a10 b.E.length c11,Value.func (.func 234) #[] #[zP (some ⟨c,0,none⟩)]]::box x 126 [i64 a.I,i64 b.I]::box e 29 p::box d 29 q::L) l6)
      refine bK (bE (aA ?_))
      obtain rfl:=zI b3
      have u5:aK G K (rR V (aDz (fQ a b m h) ([]:(List ((Int × Int) × Bool))) true (a8++[y]))::box a6 260 [i64 a.N,i64 a.I,zS a1 a.L.length c2,zS a4 a.E.length c5,i64 b.N,i64 b.I,zS a7 b.L.length c8,zS a10 b.E.length c11,Value.func (.func 234) #[] #[zP (some ⟨c,0,none⟩)]]::box x 126 [i64 a.I,i64 b.I]::box c 124 [zM (some l)]::mpi b2 l h d2 (some (y,d1))::box e 29 p::box d 29 q::L) l6:=by rw [accS_t g6];exact (aK.arr 6 [3,4,5,1,0] u4 rfl)
      exact ⟨a8++[y],_,_,aHj c6 d3,aIU d3 c7,c9,e1,e2,e3,e4,e5,e6,e7,d0,b9,u5⟩
     ·refine aJ g8 rfl (aY (bE (aA ?_)))
      obtain rfl:=zI b3
      have u6:aK G K (rR V (aDz (fQ a b m h) ([]:(List ((Int × Int) × Bool))) true (a8++[y]))::box a6 260 [i64 a.N,i64 a.I,zS a1 a.L.length c2,zS a4 a.E.length c5,i64 b.N,i64 b.I,zS a7 b.L.length c8,zS a10 b.E.length c11,Value.func (.func 234) #[] #[zP (some ⟨c,0,none⟩)]]::box x 126 [i64 a.I,i64 b.I]::box c 124 [zM (some l)]::mpi b2 l h d2 (some (y,d1))::box e 29 p::box d 29 q::L) l3:=by rw [accS_f g6];exact (aK.arr 6 [3,4,5,1,0] g7 rfl)
      exact ⟨a8++[y],_,_,aHj c6 d3,aIU d3 c7,c9,e1,e2,e3,e4,e5,e6,e7,d0,b9,u6⟩
   refine aN (cN (fun f w=>∃ (g9:Bool),mC a b m h b5 a2 g9=some c1∧f 2=i64 m∧f 3=zP (some ⟨d,0,none⟩)∧f 4=zP (some ⟨e,0,none⟩)∧f 8=zP (some ⟨c,0,none⟩)∧f 11=zP (some ⟨x,0,none⟩)∧f 12=i64 b5∧f 13=i64 a2∧f 59=zB g9∧aK G K (box x 126 [i64 a.I,i64 b.I]::box c 124 [zM (some l)]::rR l h::box e 29 p::box d 29 q::L) w) ?_ ?_)
   ·rintro f a28 ⟨g9,o,l7,l8,l9,m0,m1,u7,h0,m2,m3⟩
    unfold mC at o
    refine aA ?_
    rcases aH o with ⟨h1,o⟩|⟨h1,o⟩
    ·exact aL h1 m2 (aP (aO h0 (aF (v:=i64 a2) (aG ⟨a2,o,l7,l8,l9,m0,m1,rfl,h0,m3⟩))))
    ·exact aJ h1 m2 (aY (aA ⟨b5,o,l7,l8,l9,m0,m1,u7,h0,m3⟩))
   refine aP (aO g1 (aC (cJ rfl rfl) (aM (v:=zB (decide (b5 < 0))) ?_)))
   rcases aH o with ⟨a9,o⟩|⟨a9,o⟩
   ·exact bA a9 rfl rfl (aC (cF aBZ c3 (i:=1) rfl f9 rfl) (bA a9 rfl rfl (aC (dF (us:=[i64 a.I,i64 b.I]) ag_126 c3 (i:=0) rfl g0 rfl rfl) (bA a9 rfl rfl (aC (aHN (kv:=h) (k:=⟨a.I,b.I⟩) (z:=(false:Bool)) Tryz.runUnderlying124 aCa Tryz.zeroValue4 c3 (i:=2) rfl rfl rfl) (bA a9 rfl rfl (aC (fH rfl) (aC (bI (v:=zB (!((jA h ⟨a.I,b.I⟩).getD false))) a9 rfl rfl) (aG ⟨!((jA h ⟨a.I,b.I⟩).getD false),o,j9,k0,k1,f9,g0,g1,k2,rfl,c3⟩)))))))))
   ·exact aQ a9 rfl rfl (aQ a9 rfl rfl (aQ a9 rfl rfl (aQ a9 rfl rfl (aC (bL (v:=zB false) a9 rfl rfl) (aG ⟨false,o,j9,k0,k1,f9,g0,g1,k2,rfl,c3⟩)))))
 obtain ⟨a29,u8,hm⟩:=aB hm
 refine cA u8 (fun (s:((List ((Int × Int) × Bool)) × Int)) f w=>match s with|(d5,J)=>f 2=i64 m∧f 3=zP (some ⟨d,0,none⟩)∧f 4=zP (some ⟨e,0,none⟩)∧f 8=zP (some ⟨c,0,none⟩)∧f 19=i64 a.N∧f 20=i64 J∧aK G K (box c 124 [zM (some u)]::rR u d5::box e 29 p::box d 29 q::L) w) ?_ ?_
 ·exact ⟨rfl,rfl,rfl,rfl,rfl,rfl,j6⟩
 ·rintro ⟨d5,J⟩ f0 f a30 Z u9 ⟨m4,m5,h2,m6,m7,h4,h5⟩
  replace Z:iV a b m d5 J=some f0:=Z
  unfold iV at Z
  refine aI (aC (cJ h4 m7) (aG (aN ?_)))
  rcases aH Z with ⟨h7,Z⟩|⟨h7,Z⟩
  ·refine aL h7 rfl (aY (aA (aN (bC (fun f w=>∃ (f1:(List ((Int × Int) × Bool))),tH J f1=some f0∧f 2=i64 m∧f 3=zP (some ⟨d,0,none⟩)∧f 4=zP (some ⟨e,0,none⟩)∧f 8=zP (some ⟨c,0,none⟩)∧f 19=i64 a.N∧f 20=i64 J∧aK G K (box c 124 [zM (some u)]::rR u f1::box e 29 p::box d 29 q::L) w) ?_ ?_))))
   ·rintro f a31 ⟨f1,Z,v0,v1,v2,v3,v4,v5,v6⟩
    unfold tH at Z
    exact aA (aP (aC (cM v5 rfl) (aM (v:=i64 (wr (J+1))) (aG ⟨(f1,wr (J+1)),(zI Z).symm,v0,v1,v2,v3,v4,rfl,v6⟩))))
   refine aI (aO h4 (aF (v:=i64 J) (aG (aI (aC (bG (t':=0) iM h2 rfl) (aC (cF cE h5 (i:=2) rfl rfl rfl) (aM (v:=i64 0) (aG (bC (fun f w=>∃ (f2:(List ((Int × Int) × Bool))),pC J f2=some f0∧f 2=i64 m∧f 3=zP (some ⟨d,0,none⟩)∧f 4=zP (some ⟨e,0,none⟩)∧f 8=zP (some ⟨c,0,none⟩)∧f 19=i64 a.N∧f 20=i64 J∧aK G K (box c 124 [zM (some u)]::rR u f2::box e 29 p::box d 29 q::L) w) ?_ ?_)))))))))
   ·rintro f a32 ⟨f2,Z,v7,v8,v9,w0,w1,w2,w3⟩
    unfold pC at Z
    exact bE (aA ⟨f2,Z,v7,v8,v9,w0,w1,w2,w3⟩)
   obtain ⟨a33,w4,Z⟩:=aB Z
   refine cA w4 (fun (s:((List ((Int × Int) × Bool)) × Int)) f w=>match s with|(b4,a3)=>f 2=i64 m∧f 3=zP (some ⟨d,0,none⟩)∧f 4=zP (some ⟨e,0,none⟩)∧f 8=zP (some ⟨c,0,none⟩)∧f 9=i64 J∧f 19=i64 a.N∧f 20=i64 J∧f 24=i64 b.N∧f 25=i64 a3∧aK G K (box c 124 [zM (some u)]::rR u b4::box e 29 p::box d 29 q::L) w) ?_ ?_
   ·exact ⟨m4,m5,h2,m6,rfl,m7,h4,rfl,rfl,h5⟩
   ·rintro ⟨b4,a3⟩ h8 f a34 r w5 ⟨f3,f4,f5,i0,i1,i2,i3,i4,f6,m8⟩
    replace r:iU a b m J b4 a3=some h8:=r
    unfold iU at r
    refine aI (aC (cJ f6 i4) (aG (aN ?_)))
    rcases aH r with ⟨i5,r⟩|⟨i5,r⟩
    ·refine aL i5 rfl (aY (aA (aN (bC (fun f w=>∃ (f7:(List ((Int × Int) × Bool))),nR a3 f7=some h8∧f 2=i64 m∧f 3=zP (some ⟨d,0,none⟩)∧f 4=zP (some ⟨e,0,none⟩)∧f 8=zP (some ⟨c,0,none⟩)∧f 9=i64 J∧f 19=i64 a.N∧f 20=i64 J∧f 24=i64 b.N∧f 25=i64 a3∧aK G K (box c 124 [zM (some u)]::rR u f7::box e 29 p::box d 29 q::L) w) ?_ ?_))))
     ·rintro f a35 ⟨f7,r,w6,w7,w8,w9,x0,x1,x2,x3,x4,x5⟩
      unfold nR at r
      exact aA (aP (aC (cM x4 rfl) (aM (v:=i64 (wr (a3+1))) (aG ⟨(f7,wr (a3+1)),(zI r).symm,w6,w7,w8,w9,x0,x1,x2,x3,rfl,x5⟩))))
     refine aI (aO f6 (aF (v:=i64 a3) (aG (aN (cN (fun f w=>∃ (i6:Bool),nS J b4 a3 i6=some h8∧f 2=i64 m∧f 3=zP (some ⟨d,0,none⟩)∧f 4=zP (some ⟨e,0,none⟩)∧f 8=zP (some ⟨c,0,none⟩)∧f 9=i64 J∧f 10=i64 a3∧f 19=i64 a.N∧f 20=i64 J∧f 24=i64 b.N∧f 25=i64 a3∧f 38=zB i6∧aK G K (box c 124 [zM (some u)]::rR u b4::box e 29 p::box d 29 q::L) w) ?_ ?_)))))
     ·rintro f a36 ⟨i6,r,m9,n0,n1,i7,i8,x6,n2,n3,n4,n5,n6,i9⟩
      unfold nS at r
      refine aA ?_
      rcases aH r with ⟨j0,r⟩|⟨j0,r⟩
      ·refine aL j0 n6 (aP (aC (cF aBZ i9 (i:=0) rfl i7 rfl) (aO i8 (aO x6 (aC (zV (vs:=[(0,i64 J),(1,i64 a3)]) (cs:=[i64 J,i64 a3]) aBu aCY rfl (by kernel_rfl)) ?_)))))
       obtain ⟨n7,x7,r⟩:=aB r
       exact aFC (i:=1) (k:=⟨J,a3⟩) (v:=true) Tryz.runUnderlying124 aCa i9 rfl rfl rfl rfl x7 (fun x8 (x9:aK G K (box c 124 [zM (some u)]::rR u n7::box e 29 p::box d 29 q::L) x8)=>(bK (bE (aA ⟨n7,r,m9,n0,n1,i7,i8,n2,n3,n4,n5,x9⟩))))
      ·exact aJ j0 n6 (aY (bE (aA ⟨b4,r,m9,n0,n1,i7,i8,n2,n3,n4,n5,i9⟩)))
     obtain ⟨a37,c0,y0,y1,n8⟩:=aK.lendB (i:=2) m8 rfl
     obtain ⟨y2,b6,y3,n9,o0⟩:=aK.lendB (i:=2) y1 rfl
     refine iB (C:=fun w'=>∃ L',aK G y2 L' w') [(0,0),(1,0),(2,0),(3,0),(4,0),(6,0),(7,0),(5,1),(8,1),(9,1),(10,0)] bU (by kernel_rfl) (fun _ hg=>⟨_,aK.mono n9 hg⟩) (fun a38 y4=>?_)
     have b1:=aK.mono n9 y4
     refine bX rfl (fun _ _=>bD f3) (bX rfl (fun _ _=>oC rfl rfl) (bX rfl (fun _ _=>bD (v:=zB (m != 1)) rfl) ?_))
     rcases aH r with ⟨a0,r⟩|⟨a0,r⟩
     ·refine zQ rfl rfl rfl (bS a0) (zQ rfl rfl rfl (bS a0) (zQ rfl rfl rfl (bS a0) (zQ rfl rfl rfl (bS a0) (nD rfl (aZ (g:=30) a0 (by exact rfl) rfl (bK (aA ⟨⟨_,b1⟩,?_⟩)))))))
      refine nD rfl (aZ (g:=30) a0 (by exact rfl) rfl (bK (aA ⟨⟨_,b1⟩,?_⟩)))
      refine nD rfl (aZ (g:=30) a0 (by exact rfl) rfl (bK (aA ⟨⟨_,b1⟩,?_⟩)))
      refine bX rfl (fun _ _=>bI (v:=zB true) a0 rfl rfl) (mP ?_)
      have y5:=o0 _ _ b1
      have y6:=n8 _ _ y5
      exact aA ⟨true,r,f3,f4,f5,i0,i1,rfl,i2,i3,i4,f6,rfl,(aK.arr 4 [2,3,0,1] y6 rfl)⟩
     ·refine aBX rfl rfl rfl (bR a0) (fun _ ⟨_,b1⟩=>gG (t:=0) (vs:=q) eC b1 y3 f4 rfl rfl) (aBX rfl rfl rfl (bR a0) (fun _ _=>bD i1) (aBX rfl rfl rfl (bR a0) (fun _ ⟨_,b1⟩=>gG (t:=0) (vs:=p) eC b1 (y0.mono b6) f5 rfl rfl) (aBX rfl rfl rfl (bR a0) (fun _ _=>bD (v:=i64 a3) rfl) (nD rfl (bN a0 rfl rfl ?_)))))
      obtain ⟨y7,y8,r⟩:=aB r
      refine aU (vs:=[zA (zCa a a1 c2 a4 c5),i64 J]) Tryz.call233 rfl (lB b1 (h3.mono (zL c0 b6)) (h6.mono (zL c0 b6)) y8) ?_
      rintro _ a39 ⟨y9,z0,rfl,o1⟩
      refine bK (aA ⟨⟨_,o1⟩,?_⟩)
      refine nD rfl (bN a0 rfl rfl ?_)
      obtain ⟨z1,z2,r⟩:=aB r
      refine aU (vs:=[zA (zCa b a7 c8 a10 c11),i64 a3]) Tryz.call233 rfl (lB o1 (h9.mono (zL c0 b6)) (j4.mono (zL c0 b6)) z2) ?_
      rintro _ a40 ⟨z3,z4,rfl,o2⟩
      refine bK (aA ⟨⟨_,o2⟩,?_⟩)
      refine nD rfl (bN a0 rfl rfl ?_)
      obtain ⟨a41,z5,z6,z7,z8⟩:=aK.lendS (i:=1) o2 (zL c0 b6) rfl
      obtain ⟨a42,z9,a00,a01,a02⟩:=aK.lendS (i:=0) z7 (zL (zL c0 b6) z5) rfl
      obtain ⟨o3,a03,r⟩:=aB r
      refine aU (vs:=[zS y9 y7.length z0,zS z3 z1.length z4]) Tryz.call232 rfl (kU a01 (z6.mono z9) a00 a03) ?_
      rintro _ a43 ⟨rfl,a04⟩
      have a05:=a02 _ _ a04
      have o4:=z8 _ _ a05
      refine bK (aA ⟨⟨_,o4⟩,?_⟩)
      refine bX rfl (fun _ _=>bL (v:=zB o3) a0 rfl rfl) (mP ?_)
      have a06:=o0 _ _ o4
      have a07:=n8 _ _ a06
      exact aA ⟨o3,r,f3,f4,f5,i0,i1,rfl,i2,i3,i4,f6,rfl,(aK.arr 6 [4,5,0,1] a07 rfl)⟩
    ·refine aJ i5 rfl (bZ (aW (aW ?_)))
     have a08:=w5 _ (zI r).symm
     subst a08
     have Z:(pC J b4)=some f0:=Z
     exact bO (aA ⟨b4,Z,f3,f4,f5,i0,i2,i3,m8⟩)
  ·refine aJ h7 rfl (bZ (aW (aW ?_)))
   have a09:=u9 _ (zI Z).symm
   subst a09
   have hm:(pB a b m d5)=some R:=hm
   exact bO (aA ⟨d5,hm,m4,m5,h2,m6,h5⟩)
theorem aBh {t:cH} {R:(List ((Int × Int) × Bool))} (k:aK G K (L) w) (e:cL K a1 c2 t.L) (g:cL K a4 c5 t.E) (b:uC t=some R):
  Calls Tryz.prog 92 ([zA (zCa t a1 c2 a4 c5)]:List Value).toArray w (gO fun v w'=>∃ (h:Nat),v=zM (some h)∧aK G K (rR h R::L) w'):=by
 let c:=(zC t a1 c2 a4 c5)
 refine aS Tryz.func92 rfl (by kernel_rfl) (by show (1:Nat)≤12;decide) ?_
 unfold uC at b
 refine aI (eE (v:=zA (zCa t a1 c2 a4 c5)) (vs:=c) k rfl rfl (fun o p d=>(aF (v:=zM none) (aG (aI (aC (dF (us:=c) eC d (i:=0) rfl rfl rfl rfl) (aC (dF (us:=c) eC d (i:=0) rfl rfl rfl rfl) ?_)))))))
 obtain ⟨j,l,b⟩:=aB b
 refine aU (vs:=[zA (zCa t a1 c2 a4 c5),zA (zCa t a1 c2 a4 c5),i64 0]) Tryz.call170 rfl (aDM d e g e g l) ?_
 rintro _ q ⟨a,rfl,m⟩
 refine aM (v:=Value.tuple #[zM (some a),i64 j.2]) (aC (dE rfl rfl) (aC (dE rfl rfl) (aF (v:=zM (some a)) (aF (v:=i64 j.2) (aG (aI (aM (v:=zM (some a)) (aF (v:=zM (some a)) (aG ?_)))))))))
 obtain rfl:=zI b
 exact bF (bB Tryz.results92 rfl ⟨a,rfl,(aK.arr 2 [0] m rfl)⟩)
end Gv
