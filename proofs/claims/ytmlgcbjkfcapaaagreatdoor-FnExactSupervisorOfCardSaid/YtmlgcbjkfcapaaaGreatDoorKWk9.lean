/- Walks, printed by program. -/
import Derived.Test.YtmlgcbjkfcapaaaGreatDoorKWk6
import Derived.Test.YtmlgcbjkfcapaaaGreatDoorKWk8
set_option linter.all false
namespace Gv
open Go.Value renaming slice→zS,bool→zB,pointer→zP,agg→zA,tuple→zT,map→zM
open Option.some renaming inj→zI
open Gv.Hp renaming le_trans→zL,le_refl→zR
open Go Go.Proofs
set_option maxRecDepth 20000
set_option maxHeartbeats 40000000
variable {G:Env} {K Kf:Hp} {L:List qD} {w:World} {b1 c9 c18 c21 c24 c27 c30 c33 c36 c41 c5 c8 c11 c14 c17 c20 c23 c28 c31 b33 c50 c53 c56 c59 c62 c65 c68 c73 c3 c6 c12 c15 c26 c32 c2 c37 c35 c44 c47 c67 c82 c85 c88 c91 c94 c97 c100 c105 c40 c43 c46 c49 c52 c55 c58 c63 c69:Nat} {a2 a5 a8 a11 a14 a17 a20 a23 a26 a29 a32 a35 a40 a1 a4 a7 a10 a13 a16 a19 a22 a27 a30 a34 a37 a43 a46 a49 a52 a55 a58 a61 a64 a67 a72 a25 a28 a31 a33 a36 a66 a69 a75 a78 a81 a84 a87 a90 a93 a96 a99 a104 a39 a42 a45 a48 a51 a54 a57 a62 a65 a68:Option Addr}
theorem aCQ {h:aZ} {to_:(Int × Int)} {p:Bool} {k3:Nat} {n:(List Bool)} {m a1 o:Nat} {a3 a4:Int} {q:(List aZ)} {r:(List Edge)} {u:(List Int)} {x:(List aZ)} {a6 a7:Int} {y:(List aZ)} {J:(List Edge)} {p10_:(List (List Int))} {j:(List ((Int × Int) × Int))} {a9:Nat} {p12_:(List (List aZ))} {R:Bool} (hs:aL G K (box b1 4 [zB p]::L) w) (h4:fW K a2 k3 [Value.func (.func 206) #[] #[bY a5 m]]) (h7:fW K a5 m [zS a8 n.length c9]) (b9:bT K a8 c9 n) (c0:fW K a11 a1 [bY a14 o]) (V:fW K a14 o [i64 a3,i64 a4,zS a17 q.length c18,zS a20 r.length c21,zS a23 u.length c24,zS a26 x.length c27,i64 a6,i64 a7,zS a29 y.length c30,zS a32 J.length c33,zS a35 p10_.length c36,zM (some a9),zS a40 p12_.length c41]) (e0:bT K a17 c18 q) (e1:bT K a20 c21 r) (e2:bT K a23 c24 u) (e3:bT K a26 c27 x) (e4:bT K a29 c30 y) (e5:bT K a32 c33 J) (e6:bT K a35 c36 p10_) (c1:rdM K a9 j) (e7:bT K a40 c41 p12_) (c:qF h to_ p n a3 a4 q r u x a6 a7 y J p10_ j p12_=some R):
  Calls Tryz.prog 210 ([cL h,zA #[i64 to_.1,i64 to_.2],zP (some ⟨b1,0,none⟩),bY a2 k3,bY a11 a1]:List Value).toArray w (fV fun v w'=>v=zT #[]∧aL G K (box b1 4 [zB R]::L) w'):=by
 refine aT Tryz.func210 rfl (by kernel_rfl) (by show (5:Nat)≤19;decide) ?_
 unfold qF at c
 refine aAZ (dW (v:=zA #[i64 to_.1,i64 to_.2]) (vs:=[i64 to_.1,i64 to_.2]) hs rfl rfl (fun b0 e8 c2=>(aAf (cS (fun f w=>∃ (Z:Bool),lD Z=some R∧aL G K (box b1 4 [zB Z]::L) w) ?_ ?_))))
 ·rintro f e9 ⟨Z,c,c3⟩
  unfold lD at c
  cases zI c
  exact yA Tryz.results210 ⟨rfl,c3⟩
 obtain ⟨f0,e,c5,c6,b2⟩:=aL.lendB (i:=0) c2 rfl
 obtain ⟨c7,d,c8,b3,b4⟩:=aL.lendB (i:=0) c6 rfl
 refine eQ (C:=fun w'=>∃ L',aL G c7 L' w') [(0,0),(1,0),(2,0),(3,0),(4,0),(5,0),(6,0),(7,0),(8,0),(9,0),(10,1),(11,0),(12,2)] bK (by kernel_rfl) (fun _ hg=>⟨_,aL.mono b3 hg⟩) (fun f1 d0=>?_)
 have b:=aL.mono b3 d0
 refine bS rfl (fun _ ⟨_,b⟩=>bH (t:=0) yE b c8 rfl rfl) (bS rfl (fun _ _=>aD (v:=zB p) rfl) ?_)
 rcases aK c with ⟨a,c⟩|⟨a,c⟩
 ·refine jT rfl rfl rfl (bZ a) (jT rfl rfl rfl (bZ a) (jT rfl rfl rfl (bZ a) (jT rfl rfl rfl (bZ a) (jT rfl rfl rfl (bZ a) (jT rfl rfl rfl (bZ a) (jT rfl rfl rfl (bZ a) (jT rfl rfl rfl (bZ a) (lL rfl (bA (g:=8) a (by exact rfl) rfl (aF (aA ⟨⟨_,b⟩,?_⟩)))))))))))
  refine bS rfl (fun _ _=>bI (v:=zB true) a rfl rfl) ?_
  have d1:=b4 _ _ b
  have d2:=b2 _ _ d1
  exact aBn rfl (cC (i:=1) (ns:=[zB true]) (us:=[zB true]) Tryz.sizeOf4 d2 rfl rfl rfl rfl rfl (dL rfl) rfl rfl (fun d3 (d4:aL G K (box b0 126 [i64 to_.1,i64 to_.2]::box b1 4 [zB true]::L) d3)=>(aAf (kB (aA ⟨true,c,(aL.arr 1 [] d4 rfl)⟩)))))
 ·refine nV rfl rfl rfl (bX a) (fun _ ⟨_,b⟩=>bH (t:=0) sc_182 b (h4.mono (zL e d)) rfl rfl) (nV rfl rfl rfl (bX a) (fun _ _=>aD (v:=cL h) rfl) (nV rfl rfl rfl (bX a) (fun _ ⟨_,b⟩=>bH (t:=0) qH b (c0.mono (zL e d)) rfl rfl) (nV rfl rfl rfl (bX a) (fun _ _=>dG rfl (V.mono (zL e d))) (nV rfl rfl rfl (bX a) (fun _ _=>cH (k':=o+11) aGe rfl (V.mono (zL e d)) rfl) (nV rfl rfl rfl (bX a) (fun _ ⟨_,b⟩=>bH (t:=11) aFJ b (V.mono (zL e d)) rfl rfl) (nV rfl rfl rfl (bX a) (fun _ ⟨_,b⟩=>gO (t:=0) (vs:=[i64 to_.1,i64 to_.2]) aGI b (c5.mono d) rfl rfl rfl) (nV rfl rfl rfl (bX a) (fun _ ⟨_,b⟩=>aLV (kv:=j) (k:=to_) (z:=(0:Int)) Tryz.runUnderlying173 aFK Tryz.zeroValue2 b (c1.mono (zL e d)) rfl rfl) (lL rfl (bM a rfl rfl ?_)))))))))
  obtain ⟨l,d5,c⟩:=aI c
  refine kH (vs:=[cL h,i64 ((nY j to_).getD 0)]) (caps:=[bY a5 m]) (us:=[cL h,i64 ((nY j to_).getD 0),bY a5 m]) rfl Tryz.call206 rfl rfl (aAl b (h7.mono (zL e d)) (b9.mono (zL e d)) d5) ?_
  rintro _ f2 ⟨rfl,b5⟩
  refine aF (aA ⟨⟨_,b5⟩,?_⟩)
  refine bS rfl (fun _ _=>bJ (v:=zB l) a rfl rfl) ?_
  have d6:=b4 _ _ b5
  have d7:=b2 _ _ d6
  exact aBn rfl (cC (i:=1) (ns:=[zB l]) (us:=[zB l]) Tryz.sizeOf4 d7 rfl rfl rfl rfl rfl (dL rfl) rfl rfl (fun d8 (d9:aL G K (box b0 126 [i64 to_.1,i64 to_.2]::box b1 4 [zB l]::L) d8)=>(aAf (kB (aA ⟨l,c,(aL.arr 1 [] d9 rfl)⟩)))))
theorem aDz {k:Nat} {Z a0:Int} {o:(List aZ)} {u:(List Edge)} {c0:(List Int)} {c1:(List aZ)} {x y:Int} {p:(List aZ)} {q:(List Edge)} {c2:(List (List Int))} {e1:(List ((Int × Int) × Int))} {e2:Nat} {c3:(List (List aZ))} {pair:(List Int)} {e3:Bool} {z:Nat} {a3:(List Bool)} {e4 J e5:Nat} {c4 c6:Int} {a5:(List aZ)} {a6:(List Edge)} {a8:(List Int)} {a9:(List aZ)} {c7 c9:Int} {b0:(List aZ)} {b1:(List Edge)} {b2:(List (List Int))} {d0:(List ((Int × Int) × Int))} {e6:Nat} {b3:(List (List aZ))} {R:Bool} (hs:aL G K (box b33 4 [zB e3]::L) w) (h:fW K a1 k [i64 Z,i64 a0,zS a4 o.length c5,zS a7 u.length c8,zS a10 c0.length c11,zS a13 c1.length c14,i64 x,i64 y,zS a16 p.length c17,zS a19 q.length c20,zS a22 c2.length c23,zM (some e2),zS a27 c3.length c28]) (h6:bT K a4 c5 o) (h9:bT K a7 c8 u) (k5:bT K a10 c11 c0) (k6:bT K a13 c14 c1) (f4:bT K a16 c17 p) (f5:bT K a19 c20 q) (k7:bT K a22 c23 c2) (k8:rdM K e2 e1) (k9:bT K a27 c28 c3) (b4:bT K a30 c31 pair) (f6:fW K a34 z [Value.func (.func 206) #[] #[bY a37 e4]]) (f7:fW K a37 e4 [zS a40 a3.length c41]) (f8:bT K a40 c41 a3) (f9:fW K a43 J [bY a46 e5]) (g0:fW K a46 e5 [i64 c4,i64 c6,zS a49 a5.length c50,zS a52 a6.length c53,zS a55 a8.length c56,zS a58 a9.length c59,i64 c7,i64 c9,zS a61 b0.length c62,zS a64 b1.length c65,zS a67 b2.length c68,zM (some e6),zS a72 b3.length c73]) (g1:bT K a49 c50 a5) (g2:bT K a52 c53 a6) (g3:bT K a55 c56 a8) (g4:bT K a58 c59 a9) (g5:bT K a61 c62 b0) (g6:bT K a64 c65 b1) (g7:bT K a67 c68 b2) (g8:rdM K e6 d0) (g9:bT K a72 c73 b3) (e:rX Z a0 o u c0 c1 x y p q c2 e1 c3 pair e3 a3 c4 c6 a5 a6 a8 a9 c7 c9 b0 b1 b2 d0 b3=some R):
  Calls Tryz.prog 145 ([bY a1 k,zS a30 pair.length c31,Value.func (.func 210) #[] #[zP (some ⟨b33,0,none⟩),bY a34 z,bY a43 J]]:List Value).toArray w (fV fun v w'=>v=zT #[]∧aL G K (box b33 4 [zB R]::L) w'):=by
 refine aT Tryz.func145 rfl (by kernel_rfl) (by show (3:Nat)≤56;decide) ?_
 unfold rX at e
 refine aH (eQ (C:=fun w'=>∃ L',aL G K L' w') [(0,0),(1,0),(2,0),(3,0),(4,0),(5,0),(6,0),(7,0),(10,0),(8,1),(9,0)] bK (by kernel_rfl) (fun _ hg=>⟨_,aL.mono hs hg⟩) (fun l0 h0=>?_))
 have a2:=aL.mono hs h0
 refine bS rfl (fun _ _=>aD (v:=bY a1 k) rfl) (bS rfl (fun _ _=>dG rfl h) (bS rfl (fun _ _=>cH (k':=k+0) oD rfl h rfl) (bS rfl (fun _ _=>cH (k':=k+0) iZ rfl h rfl) (bS rfl (fun _ ⟨_,a2⟩=>gO (t:=0) (vs:=[i64 Z,i64 a0,zS a4 o.length c5,zS a7 u.length c8]) fD a2 h rfl rfl rfl) (bS rfl (fun _ _=>aD (v:=zS a30 pair.length c31) rfl) ?_)))))
 obtain ⟨h1,e8,e⟩:=aI e
 refine bS rfl (fun _ _=>cO bW rfl b4 rfl rfl rfl e8) ?_
 obtain ⟨l1,h2,h4⟩:=bT.el (sz:=1) rfl b4 e8
 cases h4
 refine bS rfl (fun _ ⟨_,a2⟩=>bH (t:=0) cP a2 h2 rfl rfl) (bS rfl (fun _ _=>aD (v:=i64 0) rfl) (lL rfl ?_))
 obtain ⟨j,h5,e⟩:=aI e
 refine aU (vs:=[zA #[i64 Z,i64 a0,zS a4 o.length c5,zS a7 u.length c8],i64 h1]) Tryz.call121 rfl (uR (t:=⟨Z,a0,o,u⟩) a2 h6 h9 h5) ?_
 rintro _ l2 ⟨m,n,rfl,e9⟩
 refine aF (aA ⟨⟨_,e9⟩,?_⟩)
 refine bS rfl (fun _ _=>bQ (len:=j.length) cR rfl) (kB (aA (bD (fun f w=>∃ (d2:Bool),oO d2=some R∧aL G K (box b33 4 [zB d2]::L) w) ?_ ?_)))
 ·rintro f l3 ⟨d2,e,h7⟩
  unfold oO at e
  cases zI e
  exact yA Tryz.results145 ⟨rfl,h7⟩
 obtain ⟨l4,i0,e⟩:=aI e
 refine cD i0 (fun (s:(Bool × Int)) f w=>match s with|(l,r)=>f 0=bY a1 k∧f 1=zS a30 pair.length c31∧f 2=Value.func (.func 210) #[] #[zP (some ⟨b33,0,none⟩),bY a34 z,bY a43 J]∧f 19=zS m j.length n∧f 20=i64 (j.length:Int)∧f 21=i64 r∧aL G K (aN 63 K m n j::box b33 4 [zB l]::L) w) ?_ ?_
 ·exact ⟨rfl,rfl,rfl,rfl,rfl,rfl,e9⟩
 ·rintro ⟨l,r⟩ f0 f l5 b i1 ⟨b5,d3,d4,d5,d6,b6,b7⟩
  replace b:jN o x y p q pair a3 c4 c6 a5 a6 a8 a9 c7 c9 b0 b1 b2 d0 b3 j l r=some f0:=b
  unfold jN at b
  refine aAZ (aB (cJ b6 d6) (aAf (aH ?_)))
  rcases aK b with ⟨d7,b⟩|⟨d7,b⟩
  ·refine aO d7 rfl (aW (aA (aH (bD (fun f w=>∃ (b8:Bool),jM r b8=some f0∧f 0=bY a1 k∧f 1=zS a30 pair.length c31∧f 2=Value.func (.func 210) #[] #[zP (some ⟨b33,0,none⟩),bY a34 z,bY a43 J]∧f 19=zS m j.length n∧f 20=i64 (j.length:Int)∧f 21=i64 r∧aL G K (aN 63 K m n j::box b33 4 [zB b8]::L) w) ?_ ?_))))
   ·rintro f l6 ⟨b8,b,i2,i3,i4,i5,i6,i7,i8⟩
    unfold jM at b
    exact aA (aC (aB (cX i7 rfl) (aBl (v:=i64 (wr (r+1))) (aAf ⟨(b8,wr (r+1)),(zI b).symm,i2,i3,i4,i5,i6,rfl,i8⟩))))
   refine aAZ ?_
   obtain ⟨a,d8,b⟩:=aI b
   have i9:=cG b7 (i:=0) rfl d8
   refine aB (dA cR rfl i9 d5 rfl b6 d8) (aB (wX (t:=0) (vs:=[i64 a.F,i64 a.B,i64 a.To]) mB b7 (i:=0) rfl d8 rfl rfl rfl rfl) (cF (vs:=[i64 0,i64 0,i64 0]) Tryz.zeroValue63 b7 rfl (fun b9 l7 j0=>(cC (i:=0) (ns:=[i64 a.F,i64 a.B,i64 a.To]) (us:=[i64 a.F,i64 a.B,i64 a.To]) Tryz.sizeOf63 j0 rfl rfl rfl rfl rfl (dL rfl) rfl rfl (fun j1 (d:aL G K (box b9 63 [i64 a.F,i64 a.B,i64 a.To]::aN 63 K m n j::box b33 4 [zB l]::L) j1)=>(aAf (aH (cT (C:=fun w'=>aL G K (box b9 63 [i64 a.F,i64 a.B,i64 a.To]::aN 63 K m n j::box b33 4 [zB l]::L) w') bK (by kernel_rfl) (aL.mono d (dE.drew _)) (aQ (fun _ d=>aD b5) (aQ (fun _ d=>dG rfl h) (aQ (fun _ d=>cH (k':=k+0) oD rfl h rfl) (aQ (fun _ d=>cH (k':=k+0) iZ rfl h rfl) (aQ (fun _ d=>cH (k':=k+2) gL rfl h rfl) (aQ (fun _ d=>bH (t:=2) jJ d h rfl rfl) (aQ (fun _ d=>bB (t':=1) fP rfl rfl) (aQ (fun _ d=>bR cP d (i:=0) rfl rfl rfl) ?_))))))))))))))))
   obtain ⟨V,f1,b⟩:=aI b
   refine aQ (fun _ d=>cO cY rfl h6 rfl rfl rfl f1) ?_
   obtain ⟨l8,j2,j3⟩:=bT.el (sz:=1) rfl h6 f1
   cases j3
   refine aQ (fun _ d=>bH (t:=0) pK d j2 rfl rfl) (aQ (fun _ d=>aG (v:=cL V) rfl) (dC (fun l9 c=>(aA (aH (cT (C:=fun w'=>aL G K (box b9 63 [i64 a.F,i64 a.B,i64 a.To]::aN 63 K m n j::box b33 4 [zB l]::L) w') bK (by kernel_rfl) (aL.mono c (dE.drew _)) (aQ (fun _ c=>aD b5) (aQ (fun _ c=>dG rfl h) (aQ (fun _ c=>cH (k':=k+6) aDe rfl h rfl) (aQ (fun _ c=>gO (t:=6) (vs:=[i64 x,i64 y,zS a16 p.length c17,zS a19 q.length c20]) fD c h rfl rfl rfl) (aQ (fun _ c=>aD d3) ?_)))))))))))
   obtain ⟨j4,f2,b⟩:=aI b
   refine aQ (fun _ c=>cO bW rfl b4 rfl rfl rfl f2) ?_
   obtain ⟨m0,j5,j6⟩:=bT.el (sz:=1) rfl b4 f2
   cases j6
   refine aQ (fun _ c=>bH (t:=0) cP c j5 rfl rfl) (aQ (fun _ c=>aD (v:=cL V) rfl) ?_)
   obtain ⟨g,j7,b⟩:=aI b
   refine iR (vs:=[zA #[i64 x,i64 y,zS a16 p.length c17,zS a19 q.length c20],i64 j4,cL V]) (v:=zT #[i64 g.1,zB g.2]) Tryz.call205 rfl (fun _ c=>(rC (t:=⟨x,y,p,q⟩) c f4 f5 j7)) (aQ (fun _ c=>aD (v:=zT #[i64 g.1,zB g.2]) rfl) (aQ (fun _ c=>bV rfl rfl) (aQ (fun _ c=>bV rfl rfl) (aQ (fun _ c=>aG (v:=i64 g.1) rfl) (aQ (fun _ c=>aG (v:=zB g.2) rfl) (dC (fun j8 d9=>(aA (aAZ (aBl (v:=zB g.2) (aAf ?_)))))))))))
   rcases aK b with ⟨e0,b⟩|⟨e0,b⟩
   ·refine aO e0 rfl (aC (aCv d4 (aBl (v:=cL V) (aB (bB (t':=2) iB rfl rfl) (aB (bR cP d9 (i:=0) rfl rfl rfl) (aBl (v:=i64 g.1) (aB (aBS (vs:=[(0,i64 a.To),(1,i64 g.1)]) (cs:=[i64 a.To,i64 g.1]) aDP aFI rfl (by kernel_rfl)) ?_)))))))
    have j9:aL G K (box b33 4 [zB l]::box b9 63 [i64 a.F,i64 a.B,i64 a.To]::aN 63 K m n j::L) j8:=(aL.arr 3 [2,0,1] d9 rfl)
    obtain ⟨k0,k1,b⟩:=aI b
    refine kH (vs:=[cL V,zA #[i64 a.To,i64 g.1]]) (caps:=[zP (some ⟨b33,0,none⟩),bY a34 z,bY a43 J]) (us:=[cL V,zA #[i64 a.To,i64 g.1],zP (some ⟨b33,0,none⟩),bY a34 z,bY a43 J]) rfl Tryz.call210 rfl rfl (aCQ (to_:=⟨a.To,g.1⟩) j9 f6 f7 f8 f9 g0 g1 g2 g3 g4 g5 g6 g7 g8 g9 k1) ?_
    rintro _ m1 ⟨rfl,k3⟩
    exact aF (bG (aA ⟨k0,b,b5,d3,d4,d5,d6,b6,(aL.arr 3 [2,0] k3 rfl)⟩))
   ·exact aM e0 rfl (aW (bG (aA ⟨l,b,b5,d3,d4,d5,d6,b6,(aL.arr 1 [] d9 rfl)⟩)))
  ·refine aM d7 rfl (cB (aY (aY ?_)))
   have k4:=i1 _ (zI b).symm
   subst k4
   have e:(oO l)=some R:=e
   exact bO (aA ⟨l,e,(aL.arr 1 [] b7 rfl)⟩)
theorem aEj {t u:Int} {l:(List aZ)} {m:(List Edge)} {n:(List Int)} {o:(List aZ)} {x y:Int} {p:(List aZ)} {q:(List Edge)} {h:(List (List Int))} {z:(List ((Int × Int) × Int))} {k:Nat} {j:(List (List aZ))} {pair:(List Int)} {V:(List Bool)} {r:Nat} {R:Bool} (hs:aL G K (aN 38 Kf a20 c21 h::fH k z::aN 22 Kf a23 c24 j::box b1 176 [i64 t,i64 u,zS a2 l.length c3,zS a5 m.length c6,zS a8 n.length c9,zS a11 o.length c12,i64 x,i64 y,zS a14 p.length c15,zS a17 q.length c18,zS a20 h.length c21,zM (some k),zS a23 j.length c24]::L) w) (a3:Hp.le Kf K) (h4:bT K a2 c3 l) (h7:bT K a5 c6 m) (a7:bT K a8 c9 n) (a9:bT K a11 c12 o) (b0:bT K a14 c15 p) (b2:bT K a17 c18 q) (c0:bT K a25 c26 pair) (c1:fW K a28 r [zS a31 V.length c32]) (c2:bT K a31 c32 V) (J:qZ t u l m n o x y p q h z j pair V=some R):
  Calls Tryz.prog 152 ([zP (some ⟨b1,0,none⟩),zS a25 pair.length c26,Value.func (.func 206) #[] #[bY a28 r]]:List Value).toArray w (fV fun v w'=>v=zB R∧aL G K (aN 38 Kf a20 c21 h::fH k z::aN 22 Kf a23 c24 j::box b1 176 [i64 t,i64 u,zS a2 l.length c3,zS a5 m.length c6,zS a8 n.length c9,zS a11 o.length c12,i64 x,i64 y,zS a14 p.length c15,zS a17 q.length c18,zS a20 h.length c21,zM (some k),zS a23 j.length c24]::L) w'):=by
 refine aT Tryz.func152 rfl (by kernel_rfl) (by show (3:Nat)≤13;decide) ?_
 unfold qZ at J
 refine aAZ (dW (v:=zP (some ⟨b1,0,none⟩)) (vs:=[zP (some ⟨b1,0,none⟩)]) hs rfl rfl (fun Z f3 c4=>(dW (v:=Value.func (.func 206) #[] #[bY a28 r]) (vs:=[Value.func (.func 206) #[] #[bY a28 r]]) c4 rfl rfl (fun a0 f4 c5=>(pM (v:=zB false) (aAf (aAZ (cF (vs:=[zB false]) Tryz.zeroValue4 c5 rfl (fun a1 f5 c7=>(cC (i:=0) (ns:=[zB false]) (us:=[zB false]) Tryz.sizeOf4 c7 rfl rfl rfl rfl rfl (dL rfl) rfl rfl (fun c8 (b3:aL G K (box a1 4 [zB false]::box a0 182 [Value.func (.func 206) #[] #[bY a28 r]]::box Z 94 [zP (some ⟨b1,0,none⟩)]::aN 38 Kf a20 c21 h::fH k z::aN 22 Kf a23 c24 j::box b1 176 [i64 t,i64 u,zS a2 l.length c3,zS a5 m.length c6,zS a8 n.length c9,zS a11 o.length c12,i64 x,i64 y,zS a14 p.length c15,zS a17 q.length c18,zS a20 h.length c21,zM (some k),zS a23 j.length c24]::L) c8)=>(aAf (aAZ (aB (bR qH b3 (i:=2) rfl rfl rfl) (aBl (v:=zS a25 pair.length c26) (aB (rL (vs:=[zP (some ⟨a1,0,none⟩),zP (some ⟨a0,0,none⟩),zP (some ⟨Z,0,none⟩)]) rfl) ?_))))))))))))))))
 obtain ⟨f6,g,b4,d0,d1⟩:=aL.lendS (i:=3) b3 a3 rfl
 obtain ⟨f7,e,b5,d2,d3⟩:=aL.lendM (i:=3) d0 rfl
 obtain ⟨f8,d,b6,d4,d5⟩:=aL.lendS (i:=3) d2 (zL (zL a3 g) e) rfl
 obtain ⟨f9,c,b7,d6,d7⟩:=aL.lendB (i:=3) d4 rfl
 obtain ⟨g0,b,d8,d9,e0⟩:=aL.lendB (i:=1) d6 rfl
 obtain ⟨g1,a,e1,e2,e3⟩:=aL.lendB (i:=1) d9 rfl
 obtain ⟨e4,e5,J⟩:=aI J
 refine aU (vs:=[bY (some ⟨b1,0,none⟩) 0,zS a25 pair.length c26,Value.func (.func 210) #[] #[zP (some ⟨a1,0,none⟩),bY (some ⟨a0,0,none⟩) 0,bY (some ⟨Z,0,none⟩) 0]]) Tryz.call145 rfl (aDz e2 (b7.mono (zL b a)) (h4.mono (zL (zL (zL (zL (zL g e) d) c) b) a)) (h7.mono (zL (zL (zL (zL (zL g e) d) c) b) a)) (a7.mono (zL (zL (zL (zL (zL g e) d) c) b) a)) (a9.mono (zL (zL (zL (zL (zL g e) d) c) b) a)) (b0.mono (zL (zL (zL (zL (zL g e) d) c) b) a)) (b2.mono (zL (zL (zL (zL (zL g e) d) c) b) a)) (b4.mono (zL (zL (zL (zL e d) c) b) a)) (b5.mono (zL (zL (zL d c) b) a)) (b6.mono (zL (zL c b) a)) (c0.mono (zL (zL (zL (zL (zL g e) d) c) b) a)) (d8.mono a) (c1.mono (zL (zL (zL (zL (zL g e) d) c) b) a)) (c2.mono (zL (zL (zL (zL (zL g e) d) c) b) a)) (show fW _ _ _ [bY (some ⟨b1,0,none⟩) 0] from e1) (b7.mono (zL b a)) (h4.mono (zL (zL (zL (zL (zL g e) d) c) b) a)) (h7.mono (zL (zL (zL (zL (zL g e) d) c) b) a)) (a7.mono (zL (zL (zL (zL (zL g e) d) c) b) a)) (a9.mono (zL (zL (zL (zL (zL g e) d) c) b) a)) (b0.mono (zL (zL (zL (zL (zL g e) d) c) b) a)) (b2.mono (zL (zL (zL (zL (zL g e) d) c) b) a)) (b4.mono (zL (zL (zL (zL e d) c) b) a)) (b5.mono (zL (zL (zL d c) b) a)) (b6.mono (zL (zL c b) a)) e5) ?_
 rintro _ g2 ⟨rfl,e6⟩
 have e7:=e3 _ _ e6
 have e8:=e0 _ _ e7
 have e9:=d7 _ _ e8
 have f0:=d5 _ _ e9
 have f1:=d3 _ _ f0
 have b8:=d1 _ _ f1
 refine aAf (aAZ (aB (bR yE b8 (i:=6) rfl rfl rfl) (pM (v:=zB e4) (aAf ?_))))
 cases zI J
 exact bF (bC Tryz.results152 rfl ⟨rfl,(aL.arr 7 [0,1,2,3] b8 rfl)⟩)
theorem aAm {a7 a9:Int} {z:(List aZ)} {J:(List Edge)} {V:(List Int)} {Z:(List aZ)} {b7 b8:Int} {b4:(List aZ)} {b5:(List Edge)} {j:(List (List Int))} {k:(List ((Int × Int) × Int))} {m:Nat} {b0:(List (List aZ))} {q R:(List Bool)} (hs:aL G K (aN 38 Kf a20 c21 j::fH m k::aN 22 Kf a23 c24 b0::box b1 176 [i64 a7,i64 a9,zS a2 z.length c3,zS a5 J.length c6,zS a8 V.length c9,zS a11 Z.length c12,i64 b7,i64 b8,zS a14 b4.length c15,zS a17 b5.length c18,zS a20 j.length c21,zM (some m),zS a23 b0.length c24]::L) w) (d0:Hp.le Kf K) (h4:bT K a2 c3 z) (h7:bT K a5 c6 J) (g9:bT K a8 c9 V) (h0:bT K a11 c12 Z) (j5:bT K a14 c15 b4) (j6:bT K a17 c18 b5) (h1:bT K a25 c26 q) (hm:jK a7 a9 z J V Z b7 b8 b4 b5 j k b0 q=some R):
  Calls Tryz.prog 147 ([zP (some ⟨b1,0,none⟩),zS a25 q.length c26]:List Value).toArray w (fV fun v w'=>∃ (h2:Option Addr) (h3:Nat),v=zS h2 R.length h3∧aL G K (aN 4 K h2 h3 R::aN 38 Kf a20 c21 j::fH m k::aN 22 Kf a23 c24 b0::box b1 176 [i64 a7,i64 a9,zS a2 z.length c3,zS a5 J.length c6,zS a8 V.length c9,zS a11 Z.length c12,i64 b7,i64 b8,zS a14 b4.length c15,zS a17 b5.length c18,zS a20 j.length c21,zM (some m),zS a23 b0.length c24]::L) w'):=by
 let r:=[i64 a7,i64 a9,zS a2 z.length c3,zS a5 J.length c6,zS a8 V.length c9,zS a11 Z.length c12,i64 b7,i64 b8,zS a14 b4.length c15,zS a17 b5.length c18,zS a20 j.length c21,zM (some m),zS a23 b0.length c24]
 let u:=aN 38 Kf a20 c21 j
 let x:=aN 22 Kf a23 c24 b0
 refine aT Tryz.func147 rfl (by kernel_rfl) (by show (2:Nat)≤56;decide) ?_
 unfold jK at hm
 refine aAZ (pM (v:=zS none 0 0) (aAf (aAZ (aBl (v:=zP (some ⟨b1,0,none⟩)) (aB (dJ rfl) (aB (bB (t':=10) sE rfl rfl) (aB (bR qC hs (i:=3) rfl rfl rfl) (aB (bQ (len:=j.length) fX rfl) ?_))))))))
 obtain ⟨b,j7,hm⟩:=aI hm
 refine aFt (e:=(false:Bool)) fQ ez_4 rfl rfl hs rfl rfl rfl j7 rfl (fun c j8 (j9:aL G K (aN 4 K c b.length b::u::fH m k::x::box b1 176 r::L) j8)=>(cF (vs:=[zS none 0 0]) Tryz.zeroValue87 j9 rfl (fun d p8 k0=>(cC (i:=0) (ns:=[zS c b.length b.length]) (us:=[zS c b.length b.length]) Tryz.sizeOf87 k0 rfl rfl rfl rfl rfl (dL rfl) rfl rfl (fun k1 (k2:aL G K (box d 87 [zS c b.length b.length]::aN 4 K c b.length b::u::fH m k::x::box b1 176 r::L) k1)=>(aAf (aH (aAZ (pM (v:=zB true) (aAf (bD (fun f w=>∃ (c0:List Bool),jX c0=some R∧f 5=zP (some ⟨d,0,none⟩)∧aL G K (box d 87 [zS c c0.length b.length]::aN 4 K c b.length c0::u::fH m k::x::box b1 176 r::L) w) ?_ ?_)))))))))))
 ·rintro f p9 ⟨c0,hm,k3,h5⟩
  unfold jX at hm
  refine aA (aAZ (aB (bR aGg h5 (i:=0) rfl k3 rfl) (pM (v:=zS c c0.length b.length) (aAf ?_))))
  cases zI hm
  exact bF (bC Tryz.results147 rfl ⟨c,b.length,rfl,(aL.arr 1 [] h5 rfl)⟩)
 obtain ⟨q0,k5,hm⟩:=aI hm
 refine cD k5 (fun (s:(List Bool × Bool)) f w=>match s with|(b9,e3)=>f 0=zP (some ⟨b1,0,none⟩)∧f 1=zS a25 q.length c26∧f 5=zP (some ⟨d,0,none⟩)∧f 6=zB e3∧aL G K (box d 87 [zS c b9.length b.length]::aN 4 K c b.length b9::u::fH m k::x::box b1 176 r::L) w) ?_ ?_
 ·exact ⟨rfl,rfl,rfl,rfl,k2⟩
 ·rintro ⟨b9,e3⟩ d1 f q1 l k6 ⟨h6,k7,h8,k8,e4⟩
  replace l:jZ a7 a9 z J V Z b7 b8 b4 b5 j k b0 q b9 e3=some d1:=l
  unfold jZ at l
  refine aH (aAZ (aCv k8 (aAf ?_)))
  rcases aK l with ⟨e5,l⟩|⟨e5,l⟩
  ·refine aO e5 rfl (aW (aA (bD (fun f w=>∃ (c1:List Bool) (d2:Bool),nE c1 d2=some d1∧f 0=zP (some ⟨b1,0,none⟩)∧f 1=zS a25 q.length c26∧f 5=zP (some ⟨d,0,none⟩)∧f 6=zB d2∧aL G K (box d 87 [zS c c1.length b.length]::aN 4 K c b.length c1::u::fH m k::x::box b1 176 r::L) w) ?_ ?_)))
   ·rintro f q2 ⟨c1,d2,l,k9,l0,l1,l2,l3⟩
    unfold nE at l
    exact aA ⟨(c1,d2),(zI l).symm,k9,l0,l1,l2,l3⟩
   refine aAZ (pM (v:=zB false) (aAf (aAZ (aCv h6 (aB (dJ rfl) (aB (bB (t':=10) sE rfl rfl) (aB (bR qC e4 (i:=5) rfl rfl rfl) (aB (bQ (len:=j.length) fX rfl) (aBl (v:=i64 0) (aAf (bD (fun f w=>∃ (c2:List Bool) (d3:Bool),jY c2 d3=some d1∧f 0=zP (some ⟨b1,0,none⟩)∧f 1=zS a25 q.length c26∧f 5=zP (some ⟨d,0,none⟩)∧f 6=zB d3∧aL G K (box d 87 [zS c c2.length b.length]::aN 4 K c b.length c2::u::fH m k::x::box b1 176 r::L) w) ?_ ?_)))))))))))
   ·rintro f q3 ⟨c2,d3,l,l4,l5,l6,l7,l8⟩
    unfold jY at l
    exact bG (aA ⟨c2,d3,l,l4,l5,l6,l7,l8⟩)
   obtain ⟨q4,l9,l⟩:=aI l
   refine cD l9 (fun (s:(List Bool × Bool × Int)) f w=>match s with|(o,a1,n)=>f 0=zP (some ⟨b1,0,none⟩)∧f 1=zS a25 q.length c26∧f 5=zP (some ⟨d,0,none⟩)∧f 6=zB a1∧f 19=zS a20 j.length c21∧f 20=i64 (j.length:Int)∧f 21=i64 n∧aL G K (box d 87 [zS c o.length b.length]::aN 4 K c b.length o::u::fH m k::x::box b1 176 r::L) w) ?_ ?_
   ·exact ⟨h6,k7,h8,rfl,rfl,rfl,rfl,e4⟩
   ·rintro ⟨o,a1,n⟩ d4 f q5 a m0 ⟨e6,d5,d6,e7,e8,e9,c4,b2⟩
    replace a:fO a7 a9 z J V Z b7 b8 b4 b5 j k b0 q o a1 n=some d4:=a
    unfold fO at a
    refine aAZ (aB (cJ c4 e9) (aAf (aH ?_)))
    rcases aK a with ⟨f0,a⟩|⟨f0,a⟩
    ·refine aO f0 rfl (aW (aA (aH (bD (fun f w=>∃ (c5:List Bool) (d7:Bool),fN n c5 d7=some d4∧f 0=zP (some ⟨b1,0,none⟩)∧f 1=zS a25 q.length c26∧f 5=zP (some ⟨d,0,none⟩)∧f 6=zB d7∧f 19=zS a20 j.length c21∧f 20=i64 (j.length:Int)∧f 21=i64 n∧aL G K (box d 87 [zS c c5.length b.length]::aN 4 K c b.length c5::u::fH m k::x::box b1 176 r::L) w) ?_ ?_))))
     ·rintro f q6 ⟨c5,d7,a,m1,m2,m3,m4,m5,m6,m7,m8⟩
      unfold fN at a
      exact aA (aC (aB (cX m7 rfl) (aBl (v:=i64 (wr (n+1))) (aAf ⟨(c5,d7,wr (n+1)),(zI a).symm,m1,m2,m3,m4,m5,m6,rfl,m8⟩))))
     refine aAZ (aCv c4 ?_)
     obtain ⟨c7,f1,a⟩:=aI a
     have m9:=cG b2 (i:=2) rfl f1
     refine aB (dA fX rfl m9 e8 rfl c4 f1) ?_
     obtain ⟨q7,n0,n1⟩:=aBc (sz:=1) rfl b2 (i:=2) rfl f1
     obtain ⟨d8,d9,rfl,f2⟩:=n1
     refine aB (aEa (t:=0) (v:=zS d8 c7.length d9) mM n0 rfl rfl) (pM (v:=i64 n) (pM (v:=zS d8 c7.length d9) (aAf (aH (aH (cS (fun f w=>∃ (f3:Bool),iA a7 a9 z J V Z b7 b8 b4 b5 j k b0 o a1 n c7 f3=some d4∧f 0=zP (some ⟨b1,0,none⟩)∧f 1=zS a25 q.length c26∧f 5=zP (some ⟨d,0,none⟩)∧f 6=zB a1∧f 7=i64 n∧f 8=zS d8 c7.length d9∧f 19=zS a20 j.length c21∧f 20=i64 (j.length:Int)∧f 21=i64 n∧f 36=zB f3∧aL G K (box d 87 [zS c o.length b.length]::aN 4 K c b.length o::u::fH m k::x::box b1 176 r::L) w) ?_ ?_))))))
     ·rintro f q8 ⟨f3,a,c8,f4,e0,f5,h9,i0,f6,f7,f8,i1,i2⟩
      unfold iA at a
      refine aA ?_
      rcases aK a with ⟨f9,a⟩|⟨f9,a⟩
      ·exact aO f9 i1 (cB (aY (bO (aA ⟨o,a1,a,c8,f4,e0,f5,f6,f7,f8,i2⟩))))
      ·refine aM f9 i1 (aW (aA (aH (cS (fun f w=>∃ (g0:Bool),hY o a1 n g0=some d4∧f 0=zP (some ⟨b1,0,none⟩)∧f 1=zS a25 q.length c26∧f 5=zP (some ⟨d,0,none⟩)∧f 6=zB a1∧f 7=i64 n∧f 19=zS a20 j.length c21∧f 20=i64 (j.length:Int)∧f 21=i64 n∧f 50=zB g0∧aL G K (box d 87 [zS c o.length b.length]::aN 4 K c b.length o::u::fH m k::x::box b1 176 r::L) w) ?_ ?_))))
       ·rintro f q9 ⟨g0,a,i3,i4,g1,n2,n3,i5,i6,i7,i8,e1⟩
        unfold hY at a
        refine aA ?_
        rcases aK a with ⟨g2,a⟩|⟨g2,a⟩
        ·refine aO g2 i8 (aAZ (aB (bR aGg e1 (i:=0) rfl g1 rfl) (aCv n3 ?_)))
         obtain ⟨r0,g3,a⟩:=aI a
         have n4:=cG e1 (i:=1) rfl g3
         refine aB (dA fQ rfl n4 rfl rfl rfl g3) ?_
         obtain ⟨e2,i9,a⟩:=aI a
         refine kV (i:=1) (t:=0) (ns:=[zB true]) (e':=(true:Bool)) Tryz.sizeOf4 e1 rfl (zR _) rfl rfl rfl g3 i9 rfl rfl (dL rfl) rfl (fun cs h=>by cases h;rfl) (fun j0 (n5:aL G K (box d 87 [zS c o.length b.length]::aN 4 K c b.length e2::u::fH m k::x::box b1 176 r::L) j0)=>?_)
         have n6:aL G K (box d 87 [zS c e2.length b.length]::aN 4 K c b.length e2::u::fH m k::x::box b1 176 r::L) j0:=by rw [←(iN i9)];exact n5
         exact aAf (aC (pM (v:=zB true) (aF (bG (aA ⟨e2,true,a,i3,i4,g1,rfl,i5,i6,i7,n6⟩)))))
        ·exact aM g2 i8 (aW (bG (aA ⟨o,a1,a,i3,i4,g1,n2,i5,i6,i7,e1⟩)))
       refine aAg (C:=fun w'=>∃ L',aL G K L' w') [] bK (by kernel_rfl) (fun r1 n7=>?_)
       have a3:=aL.mono i2 n7
       refine gN (i:=0) rfl (by kernel_rfl) ⟨_,a3⟩ (fun _ _=>aD c8) (gN (i:=1) rfl (by kernel_rfl) ⟨_,a3⟩ (fun _ _=>dJ rfl) (gN (i:=2) rfl (by kernel_rfl) ⟨_,a3⟩ (fun _ _=>bB (t':=0) oD rfl rfl) (gN (i:=4) rfl (by kernel_rfl) ⟨_,a3⟩ (fun _ _=>aD i0) ?_)))
       obtain ⟨n8,j1,a⟩:=aI a
       refine gN (i:=5) rfl (by kernel_rfl) ⟨_,a3⟩ (fun _ _=>cO bW rfl (f2.mono d0) rfl rfl rfl j1) ?_
       obtain ⟨r2,n9,o0⟩:=bT.el (sz:=1) rfl f2 j1
       cases o0
       refine gN (i:=6) rfl (by kernel_rfl) ⟨_,a3⟩ (fun _ ⟨_,a3⟩=>bH (t:=0) cP a3 (n9.mono d0) rfl rfl) (cW (i:=3) (by kernel_rfl) rfl (aB (dK (us:=[i64 a7,i64 a9,zS a2 z.length c3,zS a5 J.length c6,zS a8 V.length c9,zS a11 Z.length c12]) xF a3 (i:=5) rfl rfl rfl rfl) (aF (aA ⟨fun _=>⟨_,a3⟩,?_⟩))))
       refine cW (i:=7) (by kernel_rfl) rfl ?_
       obtain ⟨o1,o2,a⟩:=aI a
       refine aU (vs:=[zA #[i64 a7,i64 a9,zS a2 z.length c3,zS a5 J.length c6,zS a8 V.length c9,zS a11 Z.length c12],i64 n8]) Tryz.call142 rfl (aBk (p:=⟨⟨a7,a9,z,J⟩,V,Z⟩) a3 h4 h7 g9 h0 o2) ?_
       rintro _ r3 ⟨rfl,y⟩
       refine aF (aA ⟨fun _=>⟨_,y⟩,?_⟩)
       refine gN (i:=8) rfl (by kernel_rfl) ⟨_,y⟩ (fun _ _=>aD (v:=zB o1) rfl) ?_
       rcases aK a with ⟨a4,a⟩|⟨a4,a⟩
       ·refine WA_off (i:=9) (g:=45) rfl (by kernel_rfl) ⟨_,y⟩ (by kernel_rfl) rfl (bZ a4) (WA_off (i:=10) (g:=45) rfl (by kernel_rfl) ⟨_,y⟩ (by kernel_rfl) rfl (bZ a4) (WA_off (i:=11) (g:=45) rfl (by kernel_rfl) ⟨_,y⟩ (by kernel_rfl) rfl (bZ a4) (cW (i:=12) (by kernel_rfl) rfl (bA (g:=45) a4 (by exact rfl) rfl (aF (aA ⟨fun _=>⟨_,y⟩,?_⟩))))))
        exact gN (i:=13) rfl (by kernel_rfl) ⟨_,y⟩ (fun _ _=>bI (v:=zB true) a4 rfl rfl) (kQ (by kernel_rfl) (aA ⟨true,a,c8,f4,e0,f5,h9,f6,f7,f8,rfl,y⟩))
       ·refine WA_vg (i:=9) (g:=45) rfl (by kernel_rfl) ⟨_,y⟩ (by kernel_rfl) rfl (bX a4) (fun _ _=>aD c8) (WA_vg (i:=10) (g:=45) rfl (by kernel_rfl) ⟨_,y⟩ (by kernel_rfl) rfl (bX a4) (fun _ _=>aD i0) (WA_vg (i:=11) (g:=45) rfl (by kernel_rfl) ⟨_,y⟩ (by kernel_rfl) rfl (bX a4) (fun _ _=>rL (vs:=[zP (some ⟨d,0,none⟩)]) (lst1 e0)) (cW (i:=12) (by kernel_rfl) rfl (bM a4 rfl rfl ?_))))
        obtain ⟨r4,b6,o3,o4,o5⟩:=aL.lendS (i:=1) y (zR _) rfl
        obtain ⟨r5,b3,o6,o7,o8⟩:=aL.lendB (i:=0) o4 rfl
        obtain ⟨j2,o9,a⟩:=aI a
        refine aU (vs:=[zP (some ⟨b1,0,none⟩),zS d8 c7.length d9,Value.func (.func 206) #[] #[bY (some ⟨d,0,none⟩) 0]]) Tryz.call152 rfl (aEj (Kf:=Kf) o7 (zL (zL d0 b6) b3) (h4.mono (zL b6 b3)) (h7.mono (zL b6 b3)) (g9.mono (zL b6 b3)) (h0.mono (zL b6 b3)) (j5.mono (zL b6 b3)) (j6.mono (zL b6 b3)) (f2.mono (zL (zL d0 b6) b3)) o6 (o3.mono b3) o9) ?_
        rintro _ r6 ⟨rfl,p0⟩
        have p1:=o8 _ _ p0
        have g4:=o5 _ _ p1
        refine aF (aA ⟨fun _=>⟨_,g4⟩,?_⟩)
        exact gN (i:=13) rfl (by kernel_rfl) ⟨_,g4⟩ (fun _ _=>bJ (v:=zB j2) a4 rfl rfl) (kQ (by kernel_rfl) (aA ⟨j2,a,c8,f4,e0,f5,h9,f6,f7,f8,rfl,(aL.arr 2 [1,0] g4 rfl)⟩))
     refine aC (aCv d5 (aBl (v:=i64 n) ?_))
     obtain ⟨p2,j3,a⟩:=aI a
     refine aB (cO fQ rfl h1 rfl rfl rfl j3) ?_
     obtain ⟨r7,p3,p4⟩:=bT.el (sz:=1) rfl h1 j3
     cases p4
     refine aB (bH (t:=0) yE b2 p3 rfl rfl) (aB (dY rfl) (aBl (v:=zB (!p2)) ?_))
     rcases aK a with ⟨a6,a⟩|⟨a6,a⟩
     ·exact bA a6 rfl rfl (bA a6 rfl rfl (bA a6 rfl rfl (bA a6 rfl rfl (aB (bI (v:=zB true) a6 rfl rfl) (aAf ⟨true,a,e6,d5,d6,e7,rfl,rfl,e8,e9,c4,rfl,b2⟩)))))
     ·refine bM a6 rfl rfl (aB (bR aGg b2 (i:=0) rfl d6 rfl) (bM a6 rfl rfl (aBl (v:=i64 n) (bM a6 rfl rfl ?_))))
      obtain ⟨j4,g5,a⟩:=aI a
      have p5:=cG b2 (i:=1) rfl g5
      exact aB (dA fQ rfl p5 rfl rfl rfl g5) (bM a6 rfl rfl (aB (kA (t:=0) yE b2 (i:=1) rfl g5 rfl rfl rfl) (aB (bJ (v:=zB j4) a6 rfl rfl) (aAf ⟨j4,a,e6,d5,d6,e7,rfl,rfl,e8,e9,c4,rfl,b2⟩))))
    ·refine aM f0 rfl (cB (aY (aY ?_)))
     have p6:=m0 _ (zI a).symm
     subst p6
     have l:(jY o a1)=some d1:=l
     exact bO (aA ⟨o,a1,l,e6,d5,d6,e7,b2⟩)
  ·refine aM e5 rfl (cB (aY (aY ?_)))
   have p7:=k6 _ (zI l).symm
   subst p7
   have hm:(jX b9)=some R:=hm
   exact bO (aA ⟨b9,hm,h8,e4⟩)
theorem zZ {b R:(List Bool)} (e:aL G K (L) w) (g:bT K a1 c2 b) (a:kR b=some R):
  Calls Tryz.prog 148 ([zS a1 b.length c2]:List Value).toArray w (fV fun v w'=>∃ (h:Option Addr) (j:Nat),v=zS h R.length j∧aL G K (aN 4 K h j R::L) w'):=by
 refine aT Tryz.func148 rfl (by kernel_rfl) (by show (1:Nat)≤8;decide) ?_
 unfold kR at a
 refine aAZ (pM (v:=zS none 0 0) (aAf (aH (aAZ (aBl (v:=zS a1 b.length c2) (aB (aKM fQ rfl rfl) (aAf ?_)))))))
 rcases aGG g with ⟨l,m,n⟩|o
 ·subst l;subst m;subst n
  refine aHY rfl ?_
  replace a:(some [])=some R:=a
  refine aAZ (pM (v:=zS none 0 0) (aAf ?_))
  have p:=aL.nil (α:=Bool) e 4 K
  cases zI a
  exact bF (aS (bC Tryz.results148 rfl ⟨none,0,rfl,p⟩))
 ·refine aHZ (Eq.trans rfl (congrArg zB o)) (aW (aA (aAZ (dM (Kt:=K) (xs:=([]:List Bool)) (cs:=[]) (vs:=[]) fQ ez_4 rfl rfl e rfl (by kernel_rfl) rfl rfl rfl trivial (fun r t (u:aL G K (aN 4 K r 0 ([]:List Bool)::L) t)=>(aBl (v:=zS a1 b.length c2) ?_))))))
  obtain ⟨k,x,a⟩:=aI a
  refine aEv (i:=0) fQ Tryz.underlying87 ez_4 rfl rfl u rfl (zR _) g x rfl rfl rfl rfl (fun c d y (z:aL G K (aN 4 K c d k::L) y)=>(pM (v:=zS c k.length d) (aAf ?_)))
  cases zI a
  exact bF (bC Tryz.results148 rfl ⟨c,d,rfl,z⟩)
theorem aBh {a0 a1:Int} {m:(List aZ)} {u:(List Edge)} {a9:(List Int)} {b0:(List aZ)} {x y:Int} {n:(List aZ)} {o:(List Edge)} {a3:(List (List Int))} {k:(List ((Int × Int) × Int))} {e:Nat} {a4:(List (List aZ))} {pair:(List Int)} {R:(List aZ)} (hs:aL G K (aN 38 Kf a20 c21 a3::fH e k::aN 22 Kf a23 c24 a4::box b1 176 [i64 a0,i64 a1,zS a2 m.length c3,zS a5 u.length c6,zS a8 a9.length c9,zS a11 b0.length c12,i64 x,i64 y,zS a14 n.length c15,zS a17 o.length c18,zS a20 a3.length c21,zM (some e),zS a23 a4.length c24]::L) w) (j2:Hp.le Kf K) (h4:bT K a2 c3 m) (h7:bT K a5 c6 u) (j3:bT K a8 c9 a9) (j4:bT K a11 c12 b0) (f0:bT K a14 c15 n) (f1:bT K a17 c18 o) (b8:bT K a25 c26 pair) (g:kN a0 a1 m u a9 b0 x y n o a3 k a4 pair=some R):
  Calls Tryz.prog 209 ([zP (some ⟨b1,0,none⟩),zS a25 pair.length c26]:List Value).toArray w (fV fun v w'=>∃ (d9:Option Addr) (e0:Nat),v=zS d9 R.length e0∧aL G K (aN 9 K d9 e0 R::aN 38 Kf a20 c21 a3::fH e k::aN 22 Kf a23 c24 a4::box b1 176 [i64 a0,i64 a1,zS a2 m.length c3,zS a5 u.length c6,zS a8 a9.length c9,zS a11 b0.length c12,i64 x,i64 y,zS a14 n.length c15,zS a17 o.length c18,zS a20 a3.length c21,zM (some e),zS a23 a4.length c24]::L) w'):=by
 let z:=[i64 a0,i64 a1,zS a2 m.length c3,zS a5 u.length c6,zS a8 a9.length c9,zS a11 b0.length c12,i64 x,i64 y,zS a14 n.length c15,zS a17 o.length c18,zS a20 a3.length c21,zM (some e),zS a23 a4.length c24]
 let J:=aN 38 Kf a20 c21 a3
 let V:=aN 22 Kf a23 c24 a4
 refine aT Tryz.func209 rfl (by kernel_rfl) (by show (2:Nat)≤55;decide) ?_
 unfold kN at g
 refine aAZ (pM (v:=zS none 0 0) (aAf (aAZ (pM (v:=zS none 0 0) (aAf (aH (aH ?_)))))))
 obtain ⟨f2,b9,f3,e1,f4⟩:=aL.lendB (i:=3) hs rfl
 refine eQ (C:=fun w'=>∃ L',aL G f2 L' w') [(0,0),(1,0),(2,0),(3,0),(4,0),(5,0),(6,0),(7,0),(10,0),(8,1),(9,0)] bK (by kernel_rfl) (fun _ hg=>⟨_,aL.mono e1 hg⟩) (fun j5 f5=>?_)
 have b2:=aL.mono e1 f5
 refine bS rfl (fun _ _=>aD (v:=zP (some ⟨b1,0,none⟩)) rfl) (bS rfl (fun _ _=>dJ rfl) (bS rfl (fun _ _=>bB (t':=0) oD rfl rfl) (bS rfl (fun _ _=>bB (t':=0) iZ rfl rfl) (bS rfl (fun _ ⟨_,b2⟩=>gO (t:=0) (vs:=[i64 a0,i64 a1,zS a2 m.length c3,zS a5 u.length c6]) fD b2 f3 rfl rfl rfl) (bS rfl (fun _ _=>aD (v:=zS a25 pair.length c26) rfl) ?_)))))
 obtain ⟨f6,e2,g⟩:=aI g
 refine bS rfl (fun _ _=>cO bW rfl (b8.mono b9) rfl rfl rfl e2) ?_
 obtain ⟨j6,f7,f8⟩:=bT.el (sz:=1) rfl b8 e2
 cases f8
 refine bS rfl (fun _ ⟨_,b2⟩=>bH (t:=0) cP b2 (f7.mono b9) rfl rfl) (bS rfl (fun _ _=>aD (v:=i64 0) rfl) (lL rfl ?_))
 obtain ⟨j,f9,g⟩:=aI g
 refine aU (vs:=[zA #[i64 a0,i64 a1,zS a2 m.length c3,zS a5 u.length c6],i64 f6]) Tryz.call121 rfl (uR (t:=⟨a0,a1,m,u⟩) b2 (h4.mono b9) (h7.mono b9) f9) ?_
 rintro _ j7 ⟨p,c45,rfl,e3⟩
 refine aF (aA ⟨⟨_,e3⟩,?_⟩)
 refine bS rfl (fun _ _=>bQ (len:=j.length) cR rfl) (kB ?_)
 have g0:=f4 _ _ e3
 refine aA (bD (fun f w=>∃ (b3:List aZ) (b4:Option Addr) (b5:Nat),lE b3=some R∧f 5=zS b4 b3.length b5∧aL G K (aN 9 K b4 b5 b3::box b1 176 z::J::fH e k::V::L) w) ?_ ?_)
 ·rintro f j8 ⟨b3,b4,b5,g,g1,g2⟩
  unfold lE at g
  refine aA (aAZ (aCv g1 (pM (v:=zS b4 b3.length b5) (aAf ?_))))
  cases zI g
  exact bF (bC Tryz.results209 rfl ⟨b4,b5,rfl,(aL.arr 5 [0,2,3,4,1] g2 rfl)⟩)
 have g4:=aL.nil (α:=aZ) g0 9 K
 obtain ⟨j9,g5,g⟩:=aI g
 refine cD g5 (fun (s:(List aZ × Int)) f w=>match s with|(l,a6)=>∃ (q:Option Addr) (r:Nat),f 0=zP (some ⟨b1,0,none⟩)∧f 1=zS a25 pair.length c26∧f 5=zS q l.length r∧f 19=zS p j.length c45∧f 20=i64 (j.length:Int)∧f 21=i64 a6∧aL G K (aN 9 K q r l::box b1 176 z::aN 63 K p c45 j::J::fH e k::V::L) w) ?_ ?_
 ·exact ⟨none,0,rfl,rfl,rfl,rfl,rfl,rfl,g4⟩
 ·rintro ⟨l,a6⟩ e4 f k0 a g6 ⟨q,r,c0,c8,d0,d1,d2,c1,c2⟩
  replace a:fF m x y n o pair j l a6=some e4:=a
  unfold fF at a
  refine aAZ (aB (cJ c1 d2) (aAf (aH ?_)))
  rcases aK a with ⟨d3,a⟩|⟨d3,a⟩
  ·refine aO d3 rfl (aW (aA (aH (bD (fun f w=>∃ (b6:List aZ) (c4:Option Addr) (c5:Nat),gK a6 b6=some e4∧f 0=zP (some ⟨b1,0,none⟩)∧f 1=zS a25 pair.length c26∧f 5=zS c4 b6.length c5∧f 19=zS p j.length c45∧f 20=i64 (j.length:Int)∧f 21=i64 a6∧aL G K (aN 9 K c4 c5 b6::box b1 176 z::aN 63 K p c45 j::J::fH e k::V::L) w) ?_ ?_))))
   ·rintro f k1 ⟨b6,c4,c5,a,g7,g8,g9,h0,h1,h2,h3⟩
    unfold gK at a
    exact aA (aC (aB (cX h2 rfl) (aBl (v:=i64 (wr (a6+1))) (aAf ⟨(b6,wr (a6+1)),(zI a).symm,c4,c5,g7,g8,g9,h0,h1,rfl,h3⟩))))
   refine aAZ ?_
   obtain ⟨b,d4,a⟩:=aI a
   have h5:=cG c2 (i:=2) rfl d4
   refine aB (dA cR rfl h5 d1 rfl c1 d4) (aB (wX (t:=0) (vs:=[i64 b.F,i64 b.B,i64 b.To]) mB c2 (i:=2) rfl d4 rfl rfl rfl rfl) (cF (vs:=[i64 0,i64 0,i64 0]) Tryz.zeroValue63 c2 rfl (fun b7 k2 h6=>(cC (i:=0) (ns:=[i64 b.F,i64 b.B,i64 b.To]) (us:=[i64 b.F,i64 b.B,i64 b.To]) Tryz.sizeOf63 h6 rfl rfl rfl rfl rfl (dL rfl) rfl rfl (fun h8 (d:aL G K (box b7 63 [i64 b.F,i64 b.B,i64 b.To]::aN 9 K q r l::box b1 176 z::aN 63 K p c45 j::J::fH e k::V::L) h8)=>(aAf (aH (cT (C:=fun w'=>aL G K (box b7 63 [i64 b.F,i64 b.B,i64 b.To]::aN 9 K q r l::box b1 176 z::aN 63 K p c45 j::J::fH e k::V::L) w') bK (by kernel_rfl) (aL.mono d (dE.drew _)) (aQ (fun _ d=>aD c0) (aQ (fun _ d=>dJ rfl) (aQ (fun _ d=>bB (t':=0) oD rfl rfl) (aQ (fun _ d=>bB (t':=0) iZ rfl rfl) (aQ (fun _ d=>bB (t':=2) gL rfl rfl) (aQ (fun _ d=>bR jJ d (i:=2) rfl rfl rfl) (aQ (fun _ d=>bB (t':=1) fP rfl rfl) (aQ (fun _ d=>bR cP d (i:=0) rfl rfl rfl) ?_))))))))))))))))
   obtain ⟨Z,e5,a⟩:=aI a
   refine aQ (fun _ d=>cO cY rfl h4 rfl rfl rfl e5) ?_
   obtain ⟨k3,h9,i0⟩:=bT.el (sz:=1) rfl h4 e5
   cases i0
   refine aQ (fun _ d=>bH (t:=0) pK d h9 rfl rfl) (aQ (fun _ d=>aG (v:=cL Z) rfl) (dC (fun k4 c=>(aA (aH (cT (C:=fun w'=>aL G K (box b7 63 [i64 b.F,i64 b.B,i64 b.To]::aN 9 K q r l::box b1 176 z::aN 63 K p c45 j::J::fH e k::V::L) w') bK (by kernel_rfl) (aL.mono c (dE.drew _)) (aQ (fun _ c=>aD c0) (aQ (fun _ c=>dJ rfl) (aQ (fun _ c=>bB (t':=6) aDe rfl rfl) (aQ (fun _ c=>dK (us:=[i64 x,i64 y,zS a14 n.length c15,zS a17 o.length c18]) fD c (i:=2) rfl rfl rfl rfl) (aQ (fun _ c=>aD c8) ?_)))))))))))
   obtain ⟨i1,e6,a⟩:=aI a
   refine aQ (fun _ c=>cO bW rfl b8 rfl rfl rfl e6) ?_
   obtain ⟨k5,i2,i3⟩:=bT.el (sz:=1) rfl b8 e6
   cases i3
   refine aQ (fun _ c=>bH (t:=0) cP c i2 rfl rfl) (aQ (fun _ c=>aD (v:=cL Z) rfl) ?_)
   obtain ⟨a7,i4,a⟩:=aI a
   refine iR (vs:=[zA #[i64 x,i64 y,zS a14 n.length c15,zS a17 o.length c18],i64 i1,cL Z]) (v:=zT #[i64 a7.1,zB a7.2]) Tryz.call205 rfl (fun _ c=>(rC (t:=⟨x,y,n,o⟩) c f0 f1 i4)) (aQ (fun _ c=>aD (v:=zT #[i64 a7.1,zB a7.2]) rfl) (aQ (fun _ c=>bV rfl rfl) (aQ (fun _ c=>bV rfl rfl) (aQ (fun _ c=>aG (v:=i64 a7.1) rfl) (aQ (fun _ c=>aG (v:=zB a7.2) rfl) (dC (fun k6 e7=>(aA (aAZ (aBl (v:=zB a7.2) (aB (dY rfl) (aAf ?_))))))))))))
   rcases aK a with ⟨d5,a⟩|⟨d5,a⟩
   ·refine aO d5 rfl (aC (aCv d0 (aBl (v:=cL Z) (dM (Kt:=K) (xs:=([Z]:List aZ)) (cs:=[cL Z]) (vs:=[(0,cL Z)]) cY yD rfl rfl e7 rfl (by kernel_rfl) rfl rfl rfl ⟨rfl,trivial⟩ (fun i5 i6 (i7:aL G K (aN 9 K i5 1 ([Z]:List aZ)::box b7 63 [i64 b.F,i64 b.B,i64 b.To]::aN 9 K q r l::box b1 176 z::aN 63 K p c45 j::J::fH e k::V::L) i6)=>?_)))))
    obtain ⟨d6,i8,a⟩:=aI a
    exact iY (i:=1) cY Tryz.underlying22 yD rfl rfl i7 rfl (zR _) (zR _) i8 rfl rfl rfl rfl (fun _ h=>h) (fun d7 d8 i9 (j0:aL G K (box b7 63 [i64 b.F,i64 b.B,i64 b.To]::aN 9 K d7 d8 d6::box b1 176 z::aN 63 K p c45 j::J::fH e k::V::L) i9)=>(pM (v:=zS d7 d6.length d8) (aF (bG (aA ⟨d6,d7,d8,a,c0,c8,rfl,d1,d2,c1,(aL.arr 1 [] j0 rfl)⟩)))))
   ·exact aM d5 rfl (aW (bG (aA ⟨l,q,r,a,c0,c8,d0,d1,d2,c1,(aL.arr 1 [] e7 rfl)⟩)))
  ·refine aM d3 rfl (cB (aY (aY ?_)))
   have j1:=g6 _ (zI a).symm
   subst j1
   have g:(lE l)=some R:=g
   exact bO (aA ⟨l,q,r,g,d0,(aL.arr 3 [0,1] c2 rfl)⟩)
theorem aCR {h j:Int} {c:(List aZ)} {d:(List Edge)} {e:(List Int)} {g:(List aZ)} {z J:Int} {o:(List aZ)} {q:(List Edge)} {k:(List (List Int))} {r:(List ((Int × Int) × Int))} {m:Nat} {l:(List (List aZ))} {pair:(List Int)} {R:aZ} (hs:aL G K (aN 38 Kf a20 c21 k::fH m r::aN 22 Kf a23 c24 l::box b1 176 [i64 h,i64 j,zS a2 c.length c3,zS a5 d.length c6,zS a8 e.length c9,zS a11 g.length c12,i64 z,i64 J,zS a14 o.length c15,zS a17 q.length c18,zS a20 k.length c21,zM (some m),zS a23 l.length c24]::L) w) (hG:G.lo=0) (c0:Hp.le Kf K) (h4:bT K a2 c3 c) (h7:bT K a5 c6 d) (a6:bT K a8 c9 e) (a7:bT K a11 c12 g) (c1:bT K a14 c15 o) (c2:bT K a17 c18 q) (c4:bT K a25 c26 pair) (b:nK h j c d e g z J o q k r l pair=some R):
  Calls Tryz.prog 151 ([zP (some ⟨b1,0,none⟩),zS a25 pair.length c26]:List Value).toArray w (fV fun v w'=>v=cL R∧aL G K (aN 38 Kf a20 c21 k::fH m r::aN 22 Kf a23 c24 l::box b1 176 [i64 h,i64 j,zS a2 c.length c3,zS a5 d.length c6,zS a8 e.length c9,zS a11 g.length c12,i64 z,i64 J,zS a14 o.length c15,zS a17 q.length c18,zS a20 k.length c21,zM (some m),zS a23 l.length c24]::L) w'):=by
 let a9:=[i64 h,i64 j,zS a2 c.length c3,zS a5 d.length c6,zS a8 e.length c9,zS a11 g.length c12,i64 z,i64 J,zS a14 o.length c15,zS a17 q.length c18,zS a20 k.length c21,zM (some m),zS a23 l.length c24]
 refine aT Tryz.func151 rfl (by kernel_rfl) (by show (2:Nat)≤24;decide) ?_
 unfold nK at b
 refine aAZ (pM (v:=cL ([]:aZ)) (aAf (aH (aAZ (aBl (v:=zP (some ⟨b1,0,none⟩)) (aBl (v:=zS a25 pair.length c26) ?_))))))
 obtain ⟨u,c5,b⟩:=aI b
 refine aU (vs:=[zP (some ⟨b1,0,none⟩),zS a25 pair.length c26]) Tryz.call209 rfl (aBh (Kf:=Kf) hs c0 h4 h7 a6 a7 c1 c2 c4 c5) ?_
 rintro _ d8 ⟨b0,b2,rfl,c7⟩
 refine aB (bQ (len:=u.length) cY rfl) (aBl (v:=i64 0) (aAf (bD (fun f w=>nR=some R∧aL G K (aN 38 Kf a20 c21 k::fH m r::aN 22 Kf a23 c24 l::box b1 176 a9::L) w) ?_ ?_)))
 ·rintro f d9 ⟨b,c8⟩
  unfold nR at b
  refine aA (aAZ (pM (v:=cL ([]:aZ)) (aAf ?_)))
  cases zI b
  exact bF (bC Tryz.results151 rfl ⟨rfl,c8⟩)
 obtain ⟨e0,d1,b⟩:=aI b
 refine cD d1 (fun (x:Int) f w=>f 0=zP (some ⟨b1,0,none⟩)∧f 9=zS b0 u.length b2∧f 10=i64 (u.length:Int)∧f 11=i64 x∧aL G K (aN 9 K b0 b2 u::aN 38 Kf a20 c21 k::fH m r::aN 22 Kf a23 c24 l::box b1 176 a9::L) w) ?_ ?_
 ·exact ⟨rfl,rfl,rfl,rfl,c7⟩
 ·rintro x d2 f e1 a b3 ⟨b4,b5,b6,V,y⟩
  replace a:gZ h j c d e g u x=some d2:=a
  unfold gZ at a
  refine aAZ (aB (cJ V b6) (aAf (aH ?_)))
  rcases aK a with ⟨Z,a⟩|⟨Z,a⟩
  ·refine aO Z rfl (aW (aA (aH (cU (aAZ ?_)))))
   obtain ⟨n,a0,a⟩:=aI a
   have d3:=cG y (i:=0) rfl a0
   refine aB (dA cY rfl d3 b5 rfl V a0) (aB (kA (t:=0) pK y (i:=0) rfl a0 rfl rfl rfl) (pM (v:=cL n) (aAf (aAZ (aCv b4 (aB (dJ rfl) (aB (bB (t':=0) oD rfl rfl) (aB (dK (us:=[i64 h,i64 j,zS a2 c.length c3,zS a5 d.length c6,zS a8 e.length c9,zS a11 g.length c12]) xF y (i:=4) rfl rfl rfl rfl) (aBl (v:=cL n) ?_)))))))))
   obtain ⟨e2,d4,a⟩:=aI a
   refine aU (vs:=[zA #[i64 h,i64 j,zS a2 c.length c3,zS a5 d.length c6,zS a8 e.length c9,zS a11 g.length c12],cL n]) Tryz.call150 rfl (xY (p:=⟨⟨h,j,c,d⟩,e,g⟩) y hG h4 h7 a6 a7 d4) ?_
   rintro _ e3 ⟨rfl,b7⟩
   refine aB (dY rfl) (aAf ?_)
   rcases aK a with ⟨a1,a⟩|⟨a1,a⟩
   ·refine aO a1 rfl (aAZ (aBl (v:=cL n) (pM (v:=cL n) (aAf (bF (bN (aS (aS ?_))))))))
    have d5:=b3 _ (zI a).symm
    subst d5
    have b:(some n)=some R:=b
    cases zI b
    exact bN (aS (aS (bC Tryz.results151 rfl ⟨rfl,(aL.arr 1 [] b7 rfl)⟩)))
   ·exact aM a1 rfl (aW (bG (aA (aC (aB (cX V rfl) (aBl (v:=i64 (wr (x+1))) (aAf ⟨wr (x+1),(zI a).symm,b4,b5,b6,rfl,b7⟩)))))))
  ·refine aM Z rfl (cB (aY (aY ?_)))
   have d7:=b3 _ (zI a).symm
   subst d7
   have b:(nR)=some R:=b
   exact bO (aA ⟨b,(aL.arr 1 [] y rfl)⟩)
theorem aDA {j:aZ} {to_:Int} {x l:Nat} {h i:Int} {b:(List aZ)} {c:(List Edge)} {d:(List Int)} {e:(List aZ)} {y z:Int} {m:(List aZ)} {n:(List Edge)} {p10_:(List (List Int))} {J:(List ((Int × Int) × Int))} {V:Nat} {p12_:(List (List aZ))} {p:(List Bool)} {Z:Nat} {R:Bool} (o:aL G K (L) w) (hG:G.lo=0) (h3:fW K a1 x [bY a4 l]) (q:fW K a4 l [i64 h,i64 i,zS a7 b.length c8,zS a10 c.length c11,zS a13 d.length c14,zS a16 e.length c17,i64 y,i64 z,zS a19 m.length c20,zS a22 n.length c23,zS a25 p10_.length c26,zM (some V),zS a30 p12_.length c31]) (h9:bT K a7 c8 b) (a8:bT K a10 c11 c) (a9:bT K a13 c14 d) (b0:bT K a16 c17 e) (b9:bT K a19 c20 m) (c0:bT K a22 c23 n) (c1:bT K a25 c26 p10_) (c2:rdM K V J) (c3:bT K a30 c31 p12_) (b1:fW K a33 Z [zS a36 p.length c37]) (a0:bT K a36 c37 p) (a:rY j to_ h i b c d e y z m n p10_ J p12_ p=some R):
  Calls Tryz.prog 149 ([cL j,i64 to_,bY a1 x,bY a33 Z]:List Value).toArray w (fV fun v w'=>v=zB R∧aL G K (L) w'):=by
 refine aT Tryz.func149 rfl (by kernel_rfl) (by show (4:Nat)≤21;decide) ?_
 unfold rY at a
 refine aAZ (pM (v:=zB false) (aAf (aH (cS (fun f w=>∃ (r:Bool),lN r=some R∧f 6=zB r∧aL G K (L) w) ?_ ?_))))
 ·rintro f c4 ⟨r,a,b2,b3⟩
  unfold lN at a
  refine aA ?_
  cases zI a
  exact bF (bC Tryz.results149 rfl ⟨b2,b3⟩)
 refine aC (aB (bH (t:=0) qH o h3 rfl rfl) (aB (dG rfl q) (aB (cH (k':=l+0) oD rfl q rfl) (aB (gO (t:=0) (vs:=[i64 h,i64 i,zS a7 b.length c8,zS a10 c.length c11,zS a13 d.length c14,zS a16 e.length c17]) xF o q rfl rfl rfl) (aBl (v:=cL j) ?_)))))
 obtain ⟨b5,b6,a⟩:=aI a
 refine aU (vs:=[zA #[i64 h,i64 i,zS a7 b.length c8,zS a10 c.length c11,zS a13 d.length c14,zS a16 e.length c17],cL j]) Tryz.call150 rfl (xY (p:=⟨⟨h,i,b,c⟩,d,e⟩) o hG h9 a8 a9 b0 b6) ?_
 rintro _ c5 ⟨rfl,k⟩
 refine aB (dY rfl) (aBl (v:=zB (!b5)) ?_)
 rcases aK a with ⟨c48,a⟩|⟨c48,a⟩
 ·refine bE c48 rfl rfl (aB (bH (t:=0) aGg k b1 rfl rfl) (bE c48 rfl rfl (aBl (v:=i64 to_) (bE c48 rfl rfl ?_))))
  obtain ⟨u,a2,a⟩:=aI a
  refine aB (cO fQ rfl a0 rfl rfl rfl a2) ?_
  obtain ⟨c6,b7,b8⟩:=bT.el (sz:=1) rfl a0 a2
  cases b8
  exact bE c48 rfl rfl (aB (bH (t:=0) yE k b7 rfl rfl) (bE c48 rfl rfl (aB (dY rfl) (aB (bI (v:=zB (!u)) c48 rfl rfl) (pM (v:=zB (!u)) (aAf ⟨!u,a,rfl,k⟩))))))
 ·exact aV c48 rfl rfl (aV c48 rfl rfl (aV c48 rfl rfl (aV c48 rfl rfl (aV c48 rfl rfl (aB (bJ (v:=zB false) c48 rfl rfl) (pM (v:=zB false) (aAf ⟨false,a,rfl,k⟩)))))))
theorem aBC {h:aZ} {to_:(Int × Int)} {p:Bool} {k3 m k9:Nat} {b5 b6:Int} {o:(List aZ)} {q:(List Edge)} {r:(List Int)} {u:(List aZ)} {b7 b8:Int} {x:(List aZ)} {y:(List Edge)} {J:(List (List Int))} {b9:(List ((Int × Int) × Int))} {c0:Nat} {V:(List (List aZ))} {Z:(List Bool)} {n c1 a0:Nat} {c2 c3:Int} {a1:(List aZ)} {a3:(List Edge)} {a4:(List Int)} {a6:(List aZ)} {c4 c5:Int} {a7:(List aZ)} {a9:(List Edge)} {p10_:(List (List Int))} {j:(List ((Int × Int) × Int))} {c6:Nat} {p12_:(List (List aZ))} {R:Bool} (hs:aL G K (box b1 4 [zB p]::L) w) (hG:G.lo=0) (h4:fW K a2 k3 [Value.func (.func 149) #[] #[bY a5 m,bY a37 n]]) (h7:fW K a5 m [bY a8 k9]) (d6:fW K a8 k9 [i64 b5,i64 b6,zS a11 o.length c12,zS a14 q.length c15,zS a17 r.length c18,zS a20 u.length c21,i64 b7,i64 b8,zS a23 x.length c24,zS a26 y.length c27,zS a29 J.length c30,zM (some c0),zS a34 V.length c35]) (d7:bT K a11 c12 o) (d8:bT K a14 c15 q) (d9:bT K a17 c18 r) (e0:bT K a20 c21 u) (e1:bT K a23 c24 x) (e2:bT K a26 c27 y) (e3:bT K a29 c30 J) (e4:rdM K c0 b9) (e5:bT K a34 c35 V) (e6:fW K a37 n [zS a40 Z.length c41]) (e7:bT K a40 c41 Z) (e8:fW K a43 c1 [bY a46 a0]) (b0:fW K a46 a0 [i64 c2,i64 c3,zS a49 a1.length c50,zS a52 a3.length c53,zS a55 a4.length c56,zS a58 a6.length c59,i64 c4,i64 c5,zS a61 a7.length c62,zS a64 a9.length c65,zS a67 p10_.length c68,zM (some c6),zS a72 p12_.length c73]) (g7:bT K a49 c50 a1) (g8:bT K a52 c53 a3) (g9:bT K a55 c56 a4) (h0:bT K a58 c59 a6) (h1:bT K a61 c62 a7) (h2:bT K a64 c65 a9) (h3:bT K a67 c68 p10_) (e9:rdM K c6 j) (h5:bT K a72 c73 p12_) (e:nS h to_ p b5 b6 o q r u b7 b8 x y J b9 V Z c2 c3 a1 a3 a4 a6 c4 c5 a7 a9 p10_ j p12_=some R):
  Calls Tryz.prog 210 ([cL h,zA #[i64 to_.1,i64 to_.2],zP (some ⟨b1,0,none⟩),bY a2 k3,bY a43 c1]:List Value).toArray w (fV fun v w'=>v=zT #[]∧aL G K (box b1 4 [zB R]::L) w'):=by
 refine aT Tryz.func210 rfl (by kernel_rfl) (by show (5:Nat)≤19;decide) ?_
 unfold nS at e
 refine aAZ (dW (v:=zA #[i64 to_.1,i64 to_.2]) (vs:=[i64 to_.1,i64 to_.2]) hs rfl rfl (fun c7 h6 f0=>(aAf (cS (fun f w=>∃ (b2:Bool),jL b2=some R∧aL G K (box b1 4 [zB b2]::L) w) ?_ ?_))))
 ·rintro f h8 ⟨b2,e,f1⟩
  unfold jL at e
  cases zI e
  exact yA Tryz.results210 ⟨rfl,f1⟩
 obtain ⟨h9,c,f3,f4,c8⟩:=aL.lendB (i:=0) f0 rfl
 obtain ⟨f5,b,f6,c9,d0⟩:=aL.lendB (i:=0) f4 rfl
 refine eQ (C:=fun w'=>∃ L',aL G f5 L' w') [(0,0),(1,0),(2,0),(3,0),(4,0),(5,0),(6,0),(7,0),(8,0),(9,0),(10,1),(11,0),(12,2)] bK (by kernel_rfl) (fun _ hg=>⟨_,aL.mono c9 hg⟩) (fun i0 f7=>?_)
 have d:=aL.mono c9 f7
 refine bS rfl (fun _ ⟨_,d⟩=>bH (t:=0) yE d f6 rfl rfl) (bS rfl (fun _ _=>aD (v:=zB p) rfl) ?_)
 rcases aK e with ⟨a,e⟩|⟨a,e⟩
 ·refine jT rfl rfl rfl (bZ a) (jT rfl rfl rfl (bZ a) (jT rfl rfl rfl (bZ a) (jT rfl rfl rfl (bZ a) (jT rfl rfl rfl (bZ a) (jT rfl rfl rfl (bZ a) (jT rfl rfl rfl (bZ a) (jT rfl rfl rfl (bZ a) (lL rfl (bA (g:=8) a (by exact rfl) rfl (aF (aA ⟨⟨_,d⟩,?_⟩)))))))))))
  refine bS rfl (fun _ _=>bI (v:=zB true) a rfl rfl) ?_
  have f8:=d0 _ _ d
  have f9:=c8 _ _ f8
  exact aBn rfl (cC (i:=1) (ns:=[zB true]) (us:=[zB true]) Tryz.sizeOf4 f9 rfl rfl rfl rfl rfl (dL rfl) rfl rfl (fun g0 (g1:aL G K (box c7 126 [i64 to_.1,i64 to_.2]::box b1 4 [zB true]::L) g0)=>(aAf (kB (aA ⟨true,e,(aL.arr 1 [] g1 rfl)⟩)))))
 ·refine nV rfl rfl rfl (bX a) (fun _ ⟨_,d⟩=>bH (t:=0) sc_182 d (h4.mono (zL c b)) rfl rfl) (nV rfl rfl rfl (bX a) (fun _ _=>aD (v:=cL h) rfl) (nV rfl rfl rfl (bX a) (fun _ ⟨_,d⟩=>bH (t:=0) qH d (e8.mono (zL c b)) rfl rfl) (nV rfl rfl rfl (bX a) (fun _ _=>dG rfl (b0.mono (zL c b))) (nV rfl rfl rfl (bX a) (fun _ _=>cH (k':=a0+11) aGe rfl (b0.mono (zL c b)) rfl) (nV rfl rfl rfl (bX a) (fun _ ⟨_,d⟩=>bH (t:=11) aFJ d (b0.mono (zL c b)) rfl rfl) (nV rfl rfl rfl (bX a) (fun _ ⟨_,d⟩=>gO (t:=0) (vs:=[i64 to_.1,i64 to_.2]) aGI d (f3.mono b) rfl rfl rfl) (nV rfl rfl rfl (bX a) (fun _ ⟨_,d⟩=>aLV (kv:=j) (k:=to_) (z:=(0:Int)) Tryz.runUnderlying173 aFK Tryz.zeroValue2 d (e9.mono (zL c b)) rfl rfl) (lL rfl (bM a rfl rfl ?_)))))))))
  obtain ⟨l,g2,e⟩:=aI e
  refine kH (vs:=[cL h,i64 ((nY j to_).getD 0)]) (caps:=[bY a5 m,bY a37 n]) (us:=[cL h,i64 ((nY j to_).getD 0),bY a5 m,bY a37 n]) rfl Tryz.call149 rfl rfl (aDA d hG (h7.mono (zL c b)) (d6.mono (zL c b)) (d7.mono (zL c b)) (d8.mono (zL c b)) (d9.mono (zL c b)) (e0.mono (zL c b)) (e1.mono (zL c b)) (e2.mono (zL c b)) (e3.mono (zL c b)) (e4.mono (zL c b)) (e5.mono (zL c b)) (e6.mono (zL c b)) (e7.mono (zL c b)) g2) ?_
  rintro _ i1 ⟨rfl,d1⟩
  refine aF (aA ⟨⟨_,d1⟩,?_⟩)
  refine bS rfl (fun _ _=>bJ (v:=zB l) a rfl rfl) ?_
  have g3:=d0 _ _ d1
  have g4:=c8 _ _ g3
  exact aBn rfl (cC (i:=1) (ns:=[zB l]) (us:=[zB l]) Tryz.sizeOf4 g4 rfl rfl rfl rfl rfl (dL rfl) rfl rfl (fun g5 (g6:aL G K (box c7 126 [i64 to_.1,i64 to_.2]::box b1 4 [zB l]::L) g5)=>(aAf (kB (aA ⟨l,e,(aL.arr 1 [] g6 rfl)⟩)))))
theorem aDB {k:Nat} {Z a0:Int} {o:(List aZ)} {u:(List Edge)} {d0:(List Int)} {d1:(List aZ)} {x y:Int} {p:(List aZ)} {q:(List Edge)} {d2:(List (List Int))} {f4:(List ((Int × Int) × Int))} {f5:Nat} {d3:(List (List aZ))} {pair:(List Int)} {f6:Bool} {z f7 f8:Nat} {d4 d5:Int} {a3:(List aZ)} {a5:(List Edge)} {a6:(List Int)} {a8:(List aZ)} {d6 d7:Int} {a9:(List aZ)} {b0:(List Edge)} {b1:(List (List Int))} {d8:(List ((Int × Int) × Int))} {f9:Nat} {b2:(List (List aZ))} {b3:(List Bool)} {g0 J g1:Nat} {d9 e0:Int} {b4:(List aZ)} {b5:(List Edge)} {b6:(List Int)} {b7:(List aZ)} {e1 e2:Int} {b8:(List aZ)} {b9:(List Edge)} {c0:(List (List Int))} {e3:(List ((Int × Int) × Int))} {g2:Nat} {c1:(List (List aZ))} {R:Bool} (hs:aL G K (box b33 4 [zB f6]::L) w) (hG:G.lo=0) (h:fW K a1 k [i64 Z,i64 a0,zS a4 o.length c5,zS a7 u.length c8,zS a10 d0.length c11,zS a13 d1.length c14,i64 x,i64 y,zS a16 p.length c17,zS a19 q.length c20,zS a22 d2.length c23,zM (some f5),zS a27 d3.length c28]) (h6:bT K a4 c5 o) (h9:bT K a7 c8 u) (n3:bT K a10 c11 d0) (n4:bT K a13 c14 d1) (h1:bT K a16 c17 p) (h2:bT K a19 c20 q) (n5:bT K a22 c23 d2) (n6:rdM K f5 f4) (n7:bT K a27 c28 d3) (c2:bT K a30 c31 pair) (h4:fW K a34 z [Value.func (.func 149) #[] #[bY a37 f7,bY a69 g0]]) (h5:fW K a37 f7 [bY a40 f8]) (h7:fW K a40 f8 [i64 d4,i64 d5,zS a43 a3.length c44,zS a46 a5.length c47,zS a49 a6.length c50,zS a52 a8.length c53,i64 d6,i64 d7,zS a55 a9.length c56,zS a58 b0.length c59,zS a61 b1.length c62,zM (some f9),zS a66 b2.length c67]) (h8:bT K a43 c44 a3) (i0:bT K a46 c47 a5) (i1:bT K a49 c50 a6) (i2:bT K a52 c53 a8) (i3:bT K a55 c56 a9) (i4:bT K a58 c59 b0) (i5:bT K a61 c62 b1) (i6:rdM K f9 d8) (i7:bT K a66 c67 b2) (i8:fW K a69 g0 [zS a72 b3.length c73]) (i9:bT K a72 c73 b3) (j0:fW K a75 J [bY a78 g1]) (j1:fW K a78 g1 [i64 d9,i64 e0,zS a81 b4.length c82,zS a84 b5.length c85,zS a87 b6.length c88,zS a90 b7.length c91,i64 e1,i64 e2,zS a93 b8.length c94,zS a96 b9.length c97,zS a99 c0.length c100,zM (some g2),zS a104 c1.length c105]) (j2:bT K a81 c82 b4) (j3:bT K a84 c85 b5) (j4:bT K a87 c88 b6) (j5:bT K a90 c91 b7) (j6:bT K a93 c94 b8) (j7:bT K a96 c97 b9) (j8:bT K a99 c100 c0) (j9:rdM K g2 e3) (k0:bT K a104 c105 c1) (e:rZ Z a0 o u d0 d1 x y p q d2 f4 d3 pair f6 d4 d5 a3 a5 a6 a8 d6 d7 a9 b0 b1 d8 b2 b3 d9 e0 b4 b5 b6 b7 e1 e2 b8 b9 c0 e3 c1=some R):
  Calls Tryz.prog 145 ([bY a1 k,zS a30 pair.length c31,Value.func (.func 210) #[] #[zP (some ⟨b33,0,none⟩),bY a34 z,bY a75 J]]:List Value).toArray w (fV fun v w'=>v=zT #[]∧aL G K (box b33 4 [zB R]::L) w'):=by
 refine aT Tryz.func145 rfl (by kernel_rfl) (by show (3:Nat)≤56;decide) ?_
 unfold rZ at e
 refine aH (eQ (C:=fun w'=>∃ L',aL G K L' w') [(0,0),(1,0),(2,0),(3,0),(4,0),(5,0),(6,0),(7,0),(10,0),(8,1),(9,0)] bK (by kernel_rfl) (fun _ hg=>⟨_,aL.mono hs hg⟩) (fun n8 k1=>?_))
 have a2:=aL.mono hs k1
 refine bS rfl (fun _ _=>aD (v:=bY a1 k) rfl) (bS rfl (fun _ _=>dG rfl h) (bS rfl (fun _ _=>cH (k':=k+0) oD rfl h rfl) (bS rfl (fun _ _=>cH (k':=k+0) iZ rfl h rfl) (bS rfl (fun _ ⟨_,a2⟩=>gO (t:=0) (vs:=[i64 Z,i64 a0,zS a4 o.length c5,zS a7 u.length c8]) fD a2 h rfl rfl rfl) (bS rfl (fun _ _=>aD (v:=zS a30 pair.length c31) rfl) ?_)))))
 obtain ⟨k3,g4,e⟩:=aI e
 refine bS rfl (fun _ _=>cO bW rfl c2 rfl rfl rfl g4) ?_
 obtain ⟨n9,k4,k5⟩:=bT.el (sz:=1) rfl c2 g4
 cases k5
 refine bS rfl (fun _ ⟨_,a2⟩=>bH (t:=0) cP a2 k4 rfl rfl) (bS rfl (fun _ _=>aD (v:=i64 0) rfl) (lL rfl ?_))
 obtain ⟨j,k6,e⟩:=aI e
 refine aU (vs:=[zA #[i64 Z,i64 a0,zS a4 o.length c5,zS a7 u.length c8],i64 k3]) Tryz.call121 rfl (uR (t:=⟨Z,a0,o,u⟩) a2 h6 h9 k6) ?_
 rintro _ o0 ⟨m,n,rfl,g5⟩
 refine aF (aA ⟨⟨_,g5⟩,?_⟩)
 refine bS rfl (fun _ _=>bQ (len:=j.length) cR rfl) (kB (aA (bD (fun f w=>∃ (e5:Bool),oP e5=some R∧aL G K (box b33 4 [zB e5]::L) w) ?_ ?_)))
 ·rintro f o1 ⟨e5,e,k7⟩
  unfold oP at e
  cases zI e
  exact yA Tryz.results145 ⟨rfl,k7⟩
 obtain ⟨o2,k9,e⟩:=aI e
 refine cD k9 (fun (s:(Bool × Int)) f w=>match s with|(l,r)=>f 0=bY a1 k∧f 1=zS a30 pair.length c31∧f 2=Value.func (.func 210) #[] #[zP (some ⟨b33,0,none⟩),bY a34 z,bY a75 J]∧f 19=zS m j.length n∧f 20=i64 (j.length:Int)∧f 21=i64 r∧aL G K (aN 63 K m n j::box b33 4 [zB l]::L) w) ?_ ?_
 ·exact ⟨rfl,rfl,rfl,rfl,rfl,rfl,g5⟩
 ·rintro ⟨l,r⟩ g6 f o3 b l0 ⟨c3,e6,e7,e8,e9,c4,c6⟩
  replace b:jP o x y p q pair d4 d5 a3 a5 a6 a8 d6 d7 a9 b0 b1 d8 b2 b3 d9 e0 b4 b5 b6 b7 e1 e2 b8 b9 c0 e3 c1 j l r=some g6:=b
  unfold jP at b
  refine aAZ (aB (cJ c4 e9) (aAf (aH ?_)))
  rcases aK b with ⟨f0,b⟩|⟨f0,b⟩
  ·refine aO f0 rfl (aW (aA (aH (bD (fun f w=>∃ (c7:Bool),jO r c7=some g6∧f 0=bY a1 k∧f 1=zS a30 pair.length c31∧f 2=Value.func (.func 210) #[] #[zP (some ⟨b33,0,none⟩),bY a34 z,bY a75 J]∧f 19=zS m j.length n∧f 20=i64 (j.length:Int)∧f 21=i64 r∧aL G K (aN 63 K m n j::box b33 4 [zB c7]::L) w) ?_ ?_))))
   ·rintro f o4 ⟨c7,b,l1,l2,l3,l4,l5,l6,l7⟩
    unfold jO at b
    exact aA (aC (aB (cX l6 rfl) (aBl (v:=i64 (wr (r+1))) (aAf ⟨(c7,wr (r+1)),(zI b).symm,l1,l2,l3,l4,l5,rfl,l7⟩))))
   refine aAZ ?_
   obtain ⟨a,f1,b⟩:=aI b
   have l8:=cG c6 (i:=0) rfl f1
   refine aB (dA cR rfl l8 e8 rfl c4 f1) (aB (wX (t:=0) (vs:=[i64 a.F,i64 a.B,i64 a.To]) mB c6 (i:=0) rfl f1 rfl rfl rfl rfl) (cF (vs:=[i64 0,i64 0,i64 0]) Tryz.zeroValue63 c6 rfl (fun c9 o5 l9=>(cC (i:=0) (ns:=[i64 a.F,i64 a.B,i64 a.To]) (us:=[i64 a.F,i64 a.B,i64 a.To]) Tryz.sizeOf63 l9 rfl rfl rfl rfl rfl (dL rfl) rfl rfl (fun m0 (d:aL G K (box c9 63 [i64 a.F,i64 a.B,i64 a.To]::aN 63 K m n j::box b33 4 [zB l]::L) m0)=>(aAf (aH (cT (C:=fun w'=>aL G K (box c9 63 [i64 a.F,i64 a.B,i64 a.To]::aN 63 K m n j::box b33 4 [zB l]::L) w') bK (by kernel_rfl) (aL.mono d (dE.drew _)) (aQ (fun _ d=>aD c3) (aQ (fun _ d=>dG rfl h) (aQ (fun _ d=>cH (k':=k+0) oD rfl h rfl) (aQ (fun _ d=>cH (k':=k+0) iZ rfl h rfl) (aQ (fun _ d=>cH (k':=k+2) gL rfl h rfl) (aQ (fun _ d=>bH (t:=2) jJ d h rfl rfl) (aQ (fun _ d=>bB (t':=1) fP rfl rfl) (aQ (fun _ d=>bR cP d (i:=0) rfl rfl rfl) ?_))))))))))))))))
   obtain ⟨V,g7,b⟩:=aI b
   refine aQ (fun _ d=>cO cY rfl h6 rfl rfl rfl g7) ?_
   obtain ⟨o6,m1,m2⟩:=bT.el (sz:=1) rfl h6 g7
   cases m2
   refine aQ (fun _ d=>bH (t:=0) pK d m1 rfl rfl) (aQ (fun _ d=>aG (v:=cL V) rfl) (dC (fun o7 c=>(aA (aH (cT (C:=fun w'=>aL G K (box c9 63 [i64 a.F,i64 a.B,i64 a.To]::aN 63 K m n j::box b33 4 [zB l]::L) w') bK (by kernel_rfl) (aL.mono c (dE.drew _)) (aQ (fun _ c=>aD c3) (aQ (fun _ c=>dG rfl h) (aQ (fun _ c=>cH (k':=k+6) aDe rfl h rfl) (aQ (fun _ c=>gO (t:=6) (vs:=[i64 x,i64 y,zS a16 p.length c17,zS a19 q.length c20]) fD c h rfl rfl rfl) (aQ (fun _ c=>aD e6) ?_)))))))))))
   obtain ⟨m3,g8,b⟩:=aI b
   refine aQ (fun _ c=>cO bW rfl c2 rfl rfl rfl g8) ?_
   obtain ⟨o8,m4,m5⟩:=bT.el (sz:=1) rfl c2 g8
   cases m5
   refine aQ (fun _ c=>bH (t:=0) cP c m4 rfl rfl) (aQ (fun _ c=>aD (v:=cL V) rfl) ?_)
   obtain ⟨g,m6,b⟩:=aI b
   refine iR (vs:=[zA #[i64 x,i64 y,zS a16 p.length c17,zS a19 q.length c20],i64 m3,cL V]) (v:=zT #[i64 g.1,zB g.2]) Tryz.call205 rfl (fun _ c=>(rC (t:=⟨x,y,p,q⟩) c h1 h2 m6)) (aQ (fun _ c=>aD (v:=zT #[i64 g.1,zB g.2]) rfl) (aQ (fun _ c=>bV rfl rfl) (aQ (fun _ c=>bV rfl rfl) (aQ (fun _ c=>aG (v:=i64 g.1) rfl) (aQ (fun _ c=>aG (v:=zB g.2) rfl) (dC (fun m7 f2=>(aA (aAZ (aBl (v:=zB g.2) (aAf ?_)))))))))))
   rcases aK b with ⟨f3,b⟩|⟨f3,b⟩
   ·refine aO f3 rfl (aC (aCv e7 (aBl (v:=cL V) (aB (bB (t':=2) iB rfl rfl) (aB (bR cP f2 (i:=0) rfl rfl rfl) (aBl (v:=i64 g.1) (aB (aBS (vs:=[(0,i64 a.To),(1,i64 g.1)]) (cs:=[i64 a.To,i64 g.1]) aDP aFI rfl (by kernel_rfl)) ?_)))))))
    have m8:aL G K (box b33 4 [zB l]::box c9 63 [i64 a.F,i64 a.B,i64 a.To]::aN 63 K m n j::L) m7:=(aL.arr 3 [2,0,1] f2 rfl)
    obtain ⟨m9,n0,b⟩:=aI b
    refine kH (vs:=[cL V,zA #[i64 a.To,i64 g.1]]) (caps:=[zP (some ⟨b33,0,none⟩),bY a34 z,bY a75 J]) (us:=[cL V,zA #[i64 a.To,i64 g.1],zP (some ⟨b33,0,none⟩),bY a34 z,bY a75 J]) rfl Tryz.call210 rfl rfl (aBC (to_:=⟨a.To,g.1⟩) m8 hG h4 h5 h7 h8 i0 i1 i2 i3 i4 i5 i6 i7 i8 i9 j0 j1 j2 j3 j4 j5 j6 j7 j8 j9 k0 n0) ?_
    rintro _ o9 ⟨rfl,n1⟩
    exact aF (bG (aA ⟨m9,b,c3,e6,e7,e8,e9,c4,(aL.arr 3 [2,0] n1 rfl)⟩))
   ·exact aM f3 rfl (aW (bG (aA ⟨l,b,c3,e6,e7,e8,e9,c4,(aL.arr 1 [] f2 rfl)⟩)))
  ·refine aM f0 rfl (cB (aY (aY ?_)))
   have n2:=l0 _ (zI b).symm
   subst n2
   have e:(oP l)=some R:=e
   exact bO (aA ⟨l,e,(aL.arr 1 [] c6 rfl)⟩)
theorem aCS {c:Nat} {a3 a5:Int} {h:(List aZ)} {j:(List Edge)} {k:(List Int)} {l:(List aZ)} {a6 a8:Int} {m:(List aZ)} {n:(List Edge)} {o:(List (List Int))} {a9:(List ((Int × Int) × Int))} {b0:Nat} {p:(List (List aZ))} {pair:(List Int)} {d b1:Nat} {b2 b3:Int} {q:(List aZ)} {r:(List Edge)} {t:(List Int)} {u:(List aZ)} {b4 b5:Int} {x:(List aZ)} {y:(List Edge)} {z:(List (List Int))} {b6:(List ((Int × Int) × Int))} {b7:Nat} {J:(List (List aZ))} {V:(List Bool)} {e:Nat} {R:Bool} (hs:aL G K (L) w) (hG:G.lo=0) (h3:fW K a1 c [i64 a3,i64 a5,zS a4 h.length c5,zS a7 j.length c8,zS a10 k.length c11,zS a13 l.length c14,i64 a6,i64 a8,zS a16 m.length c17,zS a19 n.length c20,zS a22 o.length c23,zM (some b0),zS a27 p.length c28]) (h6:bT K a4 c5 h) (h9:bT K a7 c8 j) (c1:bT K a10 c11 k) (c2:bT K a13 c14 l) (c3:bT K a16 c17 m) (c4:bT K a19 c20 n) (c6:bT K a22 c23 o) (c7:rdM K b0 a9) (c9:bT K a27 c28 p) (d4:bT K a30 c31 pair) (d5:fW K a33 d [bY a36 b1]) (d6:fW K a36 b1 [i64 b2,i64 b3,zS a39 q.length c40,zS a42 r.length c43,zS a45 t.length c46,zS a48 u.length c49,i64 b4,i64 b5,zS a51 x.length c52,zS a54 y.length c55,zS a57 z.length c58,zM (some b7),zS a62 J.length c63]) (d7:bT K a39 c40 q) (d8:bT K a42 c43 r) (d9:bT K a45 c46 t) (e0:bT K a48 c49 u) (e1:bT K a51 c52 x) (e2:bT K a54 c55 y) (e3:bT K a57 c58 z) (e4:rdM K b7 b6) (e5:bT K a62 c63 J) (e6:fW K a65 e [zS a68 V.length c69]) (e7:bT K a68 c69 V) (g:nL a3 a5 h j k l a6 a8 m n o a9 p pair b2 b3 q r t u b4 b5 x y z b6 J V=some R):
  Calls Tryz.prog 152 ([bY a1 c,zS a30 pair.length c31,Value.func (.func 149) #[] #[bY a33 d,bY a65 e]]:List Value).toArray w (fV fun v w'=>v=zB R∧aL G K (L) w'):=by
 refine aT Tryz.func152 rfl (by kernel_rfl) (by show (3:Nat)≤13;decide) ?_
 unfold nL at g
 refine aAZ (dW (v:=bY a1 c) (vs:=[bY a1 c]) hs rfl rfl (fun Z g3 e8=>(dW (v:=Value.func (.func 149) #[] #[bY a33 d,bY a65 e]) (vs:=[Value.func (.func 149) #[] #[bY a33 d,bY a65 e]]) e8 rfl rfl (fun a0 g4 e9=>(pM (v:=zB false) (aAf (aAZ (cF (vs:=[zB false]) Tryz.zeroValue4 e9 rfl (fun a2 g5 f0=>(cC (i:=0) (ns:=[zB false]) (us:=[zB false]) Tryz.sizeOf4 f0 rfl rfl rfl rfl rfl (dL rfl) rfl rfl (fun f1 (d0:aL G K (box a2 4 [zB false]::box a0 182 [Value.func (.func 149) #[] #[bY a33 d,bY a65 e]]::box Z 94 [bY a1 c]::L) f1)=>(aAf (aAZ (aB (bR qH d0 (i:=2) rfl rfl rfl) (aBl (v:=zS a30 pair.length c31) (aB (rL (vs:=[zP (some ⟨a2,0,none⟩),zP (some ⟨a0,0,none⟩),zP (some ⟨Z,0,none⟩)]) rfl) ?_))))))))))))))))
 obtain ⟨g6,b,f2,f3,f4⟩:=aL.lendB (i:=1) d0 rfl
 obtain ⟨g7,a,f5,f6,f7⟩:=aL.lendB (i:=1) f3 rfl
 obtain ⟨f8,f9,g⟩:=aI g
 refine aU (vs:=[bY a1 c,zS a30 pair.length c31,Value.func (.func 210) #[] #[zP (some ⟨a2,0,none⟩),bY (some ⟨a0,0,none⟩) 0,bY (some ⟨Z,0,none⟩) 0]]) Tryz.call145 rfl (aDB f6 hG (h3.mono (zL b a)) (h6.mono (zL b a)) (h9.mono (zL b a)) (c1.mono (zL b a)) (c2.mono (zL b a)) (c3.mono (zL b a)) (c4.mono (zL b a)) (c6.mono (zL b a)) (c7.mono (zL b a)) (c9.mono (zL b a)) (d4.mono (zL b a)) (f2.mono a) (d5.mono (zL b a)) (d6.mono (zL b a)) (d7.mono (zL b a)) (d8.mono (zL b a)) (d9.mono (zL b a)) (e0.mono (zL b a)) (e1.mono (zL b a)) (e2.mono (zL b a)) (e3.mono (zL b a)) (e4.mono (zL b a)) (e5.mono (zL b a)) (e6.mono (zL b a)) (e7.mono (zL b a)) f5 (h3.mono (zL b a)) (h6.mono (zL b a)) (h9.mono (zL b a)) (c1.mono (zL b a)) (c2.mono (zL b a)) (c3.mono (zL b a)) (c4.mono (zL b a)) (c6.mono (zL b a)) (c7.mono (zL b a)) (c9.mono (zL b a)) f9) ?_
 rintro _ g8 ⟨rfl,g0⟩
 have g1:=f7 _ _ g0
 have d1:=f4 _ _ g1
 refine aAf (aAZ (aB (bR yE d1 (i:=2) rfl rfl rfl) (pM (v:=zB f8) (aAf ?_))))
 cases zI g
 exact bF (bC Tryz.results152 rfl ⟨rfl,(aL.arr 3 [] d1 rfl)⟩)
theorem aAa {d g:(List Bool)} {R:Bool} (l:aL G K (L) w) (m:bT K a1 c2 d) (n:bT K a4 c5 g) (a:iU d g=some R):
  Calls Tryz.prog 153 ([zS a1 d.length c2,zS a4 g.length c5]:List Value).toArray w (fV fun v w'=>v=zB R∧aL G K (L) w'):=by
 refine aT Tryz.func153 rfl (by kernel_rfl) (by show (2:Nat)≤26;decide) ?_
 unfold iU at a
 refine aAZ (pM (v:=zB false) (aAf (aH (aAZ (aBl (v:=zS a1 d.length c2) (aB (bQ (len:=d.length) fQ rfl) (aBl (v:=zS a4 g.length c5) (aB (bQ (len:=g.length) fQ rfl) (aB (oZ rfl rfl) (aAf ?_))))))))))
 rcases aK a with ⟨h,a⟩|⟨h,a⟩
 ·refine aO h rfl (aAZ (pM (v:=zB false) (aAf ?_)))
  cases zI a
  exact bF (aS (bC Tryz.results153 rfl ⟨rfl,l⟩))
 ·refine aM h rfl (aW (aA (aH (aAZ (aBl (v:=zS a1 d.length c2) (aB (bQ (len:=d.length) fQ rfl) (aBl (v:=i64 0) (aAf (bD (fun f w=>jI=some R∧aL G K (L) w) ?_ ?_)))))))))
  ·rintro f w9 ⟨a,J⟩
   unfold jI at a
   refine aA (aAZ (pM (v:=zB true) (aAf ?_)))
   cases zI a
   exact bF (bC Tryz.results153 rfl ⟨rfl,J⟩)
  obtain ⟨b1,Z,a⟩:=aI a
  refine cD Z (fun (e:Int) f w=>f 0=zS a1 d.length c2∧f 1=zS a4 g.length c5∧f 12=i64 (d.length:Int)∧f 13=i64 e∧aL G K (L) w) ?_ ?_
  ·exact ⟨rfl,rfl,rfl,rfl,l⟩
  ·rintro e a0 f b2 b o ⟨p,q,r,i,c⟩
   replace b:fC d g e=some a0:=b
   unfold fC at b
   refine aAZ (aB (cJ i r) (aAf (aH ?_)))
   rcases aK b with ⟨j,b⟩|⟨j,b⟩
   ·refine aO j rfl (aW (aA (aH (cU (aAZ (aCv i (pM (v:=i64 e) (aAf (aH (cT (C:=fun w'=>aL G K (L) w') bK (by kernel_rfl) (aL.mono c (dE.drew _)) (aQ (fun _ c=>aD p) (aQ (fun _ c=>aD (v:=i64 e) rfl) ?_))))))))))))
    obtain ⟨b3,u,b⟩:=aI b
    refine aQ (fun _ c=>cO fQ rfl m rfl rfl rfl u) ?_
    obtain ⟨b4,a2,a3⟩:=bT.el (sz:=1) rfl m u
    cases a3
    refine aQ (fun _ c=>bH (t:=0) yE c a2 rfl rfl) (aQ (fun _ c=>aD q) (aQ (fun _ c=>aD (v:=i64 e) rfl) ?_))
    obtain ⟨b5,x,b⟩:=aI b
    refine aQ (fun _ c=>cO fQ rfl n rfl rfl rfl x) ?_
    obtain ⟨b6,a5,a6⟩:=bT.el (sz:=1) rfl n x
    cases a6
    refine aQ (fun _ c=>bH (t:=0) yE c a5 rfl rfl) (aQ (fun _ c=>R_neqB Tryz.runUnderlying4 rfl rfl) (dC (fun b7 y=>(aA ?_))))
    rcases aK b with ⟨k,b⟩|⟨k,b⟩
    ·refine aO k rfl (aAZ (pM (v:=zB false) (aAf (bF (bN (aS (aS ?_)))))))
     have a7:=o _ (zI b).symm
     subst a7
     have a:(some false)=some R:=a
     cases zI a
     exact bN (aS (aS (bC Tryz.results153 rfl ⟨rfl,y⟩)))
    ·exact aM k rfl (aW (bG (aA (aC (aB (cX i rfl) (aBl (v:=i64 (wr (e+1))) (aAf ⟨wr (e+1),(zI b).symm,p,q,r,rfl,y⟩)))))))
   ·refine aM j rfl (cB (aY (aY ?_)))
    have a9:=o _ (zI b).symm
    subst a9
    have a:(jI)=some R:=a
    exact bO (aA ⟨a,c⟩)
theorem aDC {c8 d0:Int} {b8:(List aZ)} {b9:(List Edge)} {c0:(List Int)} {c1:(List aZ)} {d1 d2:Int} {c2:(List aZ)} {c4:(List Edge)} {q:(List (List Int))} {y:(List ((Int × Int) × Int))} {z:Nat} {b3:(List (List aZ))} {R:(List Bool)} (hs:aL G K (aN 38 Kf a20 c21 q::fH z y::aN 22 Kf a23 c24 b3::box b1 176 [i64 c8,i64 d0,zS a2 b8.length c3,zS a5 b9.length c6,zS a8 c0.length c9,zS a11 c1.length c12,i64 d1,i64 d2,zS a14 c2.length c15,zS a17 c4.length c18,zS a20 q.length c21,zM (some z),zS a23 b3.length c24]::L) w) (hG:G.lo=0) (d3:Hp.le Kf K) (h4:bT K a2 c3 b8) (h7:bT K a5 c6 b9) (e5:bT K a8 c9 c0) (e6:bT K a11 c12 c1) (e7:bT K a14 c15 c2) (e8:bT K a17 c18 c4) (hm:oK c8 d0 b8 b9 c0 c1 d1 d2 c2 c4 q y b3=some R):
  Calls Tryz.prog 63 ([zP (some ⟨b1,0,none⟩)]:List Value).toArray w (fV fun v w'=>∃ (h9:Option Addr) (i0:Nat),v=zS h9 R.length i0∧aL G K (aN 4 K h9 i0 R::aN 38 Kf a20 c21 q::fH z y::aN 22 Kf a23 c24 b3::box b1 176 [i64 c8,i64 d0,zS a2 b8.length c3,zS a5 b9.length c6,zS a8 c0.length c9,zS a11 c1.length c12,i64 d1,i64 d2,zS a14 c2.length c15,zS a17 c4.length c18,zS a20 q.length c21,zM (some z),zS a23 b3.length c24]::L) w'):=by
 let a0:=[i64 c8,i64 d0,zS a2 b8.length c3,zS a5 b9.length c6,zS a8 c0.length c9,zS a11 c1.length c12,i64 d1,i64 d2,zS a14 c2.length c15,zS a17 c4.length c18,zS a20 q.length c21,zM (some z),zS a23 b3.length c24]
 let Z:=[zP (some ⟨b1,0,none⟩)]
 let a1:=aN 38 Kf a20 c21 q
 let a3:=aN 22 Kf a23 c24 b3
 refine aT Tryz.func63 rfl (by kernel_rfl) (by show (1:Nat)≤58;decide) ?_
 unfold oK at hm
 refine aAZ (dW (v:=zP (some ⟨b1,0,none⟩)) (vs:=Z) hs rfl rfl (fun e t6 k1=>(pM (v:=zS none 0 0) (aAf (aAZ (dM (Kt:=K) (xs:=([true]:List Bool)) (cs:=[zB true]) (vs:=[(0,zB true)]) fQ ez_4 rfl rfl k1 rfl (by kernel_rfl) rfl rfl rfl ⟨rfl,trivial⟩ (fun f8 k2 (f9:aL G K (aN 4 K f8 1 ([true]:List Bool)::box e 94 Z::a1::fH z y::a3::box b1 176 a0::L) k2)=>(aB (bR qH f9 (i:=1) rfl rfl rfl) (aB (dJ rfl) (aB (bB (t':=10) sE rfl rfl) (aB (bR qC f9 (i:=5) rfl rfl rfl) (aB (bQ (len:=q.length) fX rfl) ?_))))))))))))
 obtain ⟨t7,t8,k3,k4,k5⟩:=aL.lendS (i:=0) f9 (zR _) rfl
 obtain ⟨e9,k6,hm⟩:=aI hm
 refine aU (vs:=[zS f8 ([true]:List Bool).length 1,i64 (q.length:Int)]) Tryz.call141 rfl (oR k4 k3 k6) ?_
 rintro _ t9 ⟨d8,d9,rfl,k7⟩
 have k8:=k5 _ _ k7
 refine cF (vs:=[zS none 0 0]) Tryz.zeroValue87 k8 rfl (fun o u0 k9=>(cC (i:=0) (ns:=[zS d8 e9.length d9]) (us:=[zS d8 e9.length d9]) Tryz.sizeOf87 k9 rfl rfl rfl rfl rfl (dL rfl) rfl rfl (fun l0 (l1:aL G K (box o 87 [zS d8 e9.length d9]::aN 4 K f8 1 ([true]:List Bool)::aN 4 K d8 d9 e9::box e 94 Z::a1::fH z y::a3::box b1 176 a0::L) l0)=>(aAf (cU ?_)))))
 obtain ⟨u1,l2,hm⟩:=aI hm
 refine cD l2 (fun (b:List Bool) f w=>∃ (j:Option Addr) (k:Nat),f 1=zP (some ⟨e,0,none⟩)∧f 3=zP (some ⟨o,0,none⟩)∧aL G K (box o 87 [zS j b.length k]::aN 4 K j k b::box e 94 Z::a1::fH z y::a3::box b1 176 a0::L) w) ?_ ?_
 ·exact ⟨d8,d9,rfl,rfl,(aL.arr 2 [0] l1 rfl)⟩
 ·rintro b f0 f l3 c l4 ⟨j,k,g0,g1,g2⟩
  replace c:jR c8 d0 b8 b9 c0 c1 d1 d2 c2 c4 q y b3 b=some f0:=c
  unfold jR at c
  refine bD (fun f w=>∃ (e0:List Bool) (f1:Option Addr) (f2:Nat),tN e0=some f0∧f 1=zP (some ⟨e,0,none⟩)∧f 3=zP (some ⟨o,0,none⟩)∧aL G K (aN 4 K f1 f2 e0::box o 87 [zS f1 e0.length f2]::box e 94 Z::a1::fH z y::a3::box b1 176 a0::L) w) ?_ ?_
  ·rintro f u2 ⟨e0,f1,f2,c,l5,l6,l7⟩
   unfold tN at c
   exact aA ⟨e0,(zI c).symm,f1,f2,l5,l6,(aL.arr 2 [1,0] l7 rfl)⟩
  refine aAZ (aB (bR qH g2 (i:=2) rfl g0 rfl) (aB (bR aGg g2 (i:=0) rfl g1 rfl) ?_))
  obtain ⟨l8,c5,l9,m0,m1⟩:=aL.lendS (i:=1) g2 (zR _) rfl
  have m2:aL G l8 (a1::fH z y::a3::box b1 176 a0::box o 87 [zS j b.length k]::box e 94 Z::L) l3:=(aL.arr 6 [2,3,4,5,0,1] m0 rfl)
  obtain ⟨b0,m3,c⟩:=aI c
  refine aU (vs:=[zP (some ⟨b1,0,none⟩),zS j b.length k]) Tryz.call147 rfl (aAm (Kf:=Kf) m2 (zL d3 c5) (h4.mono c5) (h7.mono c5) (e5.mono c5) (e6.mono c5) (e7.mono c5) (e8.mono c5) l9 m3) ?_
  rintro _ u3 ⟨b4,b5,rfl,m4⟩
  have i1:=m1 _ _ m4
  refine pM (v:=zS b4 b0.length b5) (aAf (aAZ (aB (bR aGg i1 (i:=6) rfl g1 rfl) ?_)))
  obtain ⟨u4,u5,m5,m6,m7⟩:=aL.lendS (i:=0) i1 (zR _) rfl
  obtain ⟨m8,m9,c⟩:=aI c
  refine aU (vs:=[zS j b.length k]) Tryz.call148 rfl (zZ m6 m5 m9) ?_
  rintro _ u6 ⟨r,u,rfl,n0⟩
  have g3:=m7 _ _ n0
  refine pM (v:=zS r m8.length u) (aAf (aH (aAZ (aB (bR qH g3 (i:=8) rfl g0 rfl) (aB (dJ rfl) (aB (bB (t':=10) sE rfl rfl) (aB (bR qC g3 (i:=6) rfl rfl rfl) (aB (bQ (len:=q.length) fX rfl) (aBl (v:=i64 0) (aAf (bD (fun f w=>∃ (b2:List Bool),lO b b2=some f0∧f 1=zP (some ⟨e,0,none⟩)∧f 3=zP (some ⟨o,0,none⟩)∧f 5=zS r b2.length u∧aL G K (aN 4 K j k b::aN 4 K r u b2::a1::fH z y::a3::box b1 176 a0::box o 87 [zS j b.length k]::box e 94 Z::L) w) ?_ ?_)))))))))))
  ·rintro f u7 ⟨b2,c,n1,f3,i2,i3⟩
   unfold lO at c
   refine aA (aH (aAZ (aCv i2 (aB (bR aGg i3 (i:=6) rfl f3 rfl) ?_))))
   obtain ⟨u8,n2,n3,n4,n5⟩:=aL.lendS (i:=1) i3 (zR _) rfl
   obtain ⟨u9,n6,n7,n8,n9⟩:=aL.lendS (i:=0) n4 n2 rfl
   obtain ⟨v0,o0,c⟩:=aI c
   refine aU (vs:=[zS r b2.length u,zS j b.length k]) Tryz.call153 rfl (aAa n8 (n3.mono n6) n7 o0) ?_
   rintro _ v1 ⟨rfl,o1⟩
   have o2:=n9 _ _ o1
   have g4:=n5 _ _ o2
   refine aAf ?_
   rcases aK c with ⟨g5,c⟩|⟨g5,c⟩
   ·refine aO g5 rfl (aAZ (aB (bR aGg g4 (i:=6) rfl f3 rfl) (pM (v:=zS j b.length k) (aAf (bF (aS (bN (aS (aS ?_)))))))))
    have o3:=l4 _ (zI c).symm
    subst o3
    have hm:(some b)=some R:=hm
    cases zI hm
    exact bN (bC Tryz.results63 rfl ⟨j,k,rfl,(aL.arr 8 [1,2,3,4,5] g4 rfl)⟩)
   ·exact aM g5 rfl (aW (aA (aC (aCv i2 (cC (i:=6) (ns:=[zS r b2.length u]) (us:=[zS r b2.length u]) Tryz.sizeOf87 g4 rfl f3 rfl rfl rfl (dL rfl) rfl rfl (fun o5 (o6:aL G K (aN 4 K r u b2::aN 4 K j k b::a1::fH z y::a3::box b1 176 a0::box o 87 [zS r b2.length u]::box e 94 Z::L) o5)=>(aF (bG (aA ⟨b2,r,u,c,n1,f3,(aL.arr 8 [0,6,7,2,3,4,5] o6 rfl)⟩)))))))))
  obtain ⟨v2,o7,c⟩:=aI c
  refine cD o7 (fun (s:(List Bool × Int)) f w=>match s with|(a6,a4)=>f 1=zP (some ⟨e,0,none⟩)∧f 3=zP (some ⟨o,0,none⟩)∧f 4=zS b4 b0.length b5∧f 5=zS r a6.length u∧f 24=zS a20 q.length c21∧f 25=i64 (q.length:Int)∧f 26=i64 a4∧aL G K (aN 4 K j k b::aN 4 K r u a6::aN 4 K b4 b5 b0::a1::fH z y::a3::box b1 176 a0::box o 87 [zS j b.length k]::box e 94 Z::L) w) ?_ ?_
  ·exact ⟨g0,g1,rfl,rfl,rfl,rfl,rfl,g3⟩
  ·rintro ⟨a6,a4⟩ g6 f o8 a o9 ⟨c7,e1,f4,f5,f6,f7,d4,b7⟩
   replace a:iQ c8 d0 b8 b9 c0 c1 d1 d2 c2 c4 q y b3 b b0 a6 a4=some g6:=a
   unfold iQ at a
   refine aAZ (aB (cJ d4 f7) (aAf (aH ?_)))
   rcases aK a with ⟨g7,a⟩|⟨g7,a⟩
   ·refine aO g7 rfl (aW (aA (aH (bD (fun f w=>∃ (e2:List Bool),lP a4 e2=some g6∧f 1=zP (some ⟨e,0,none⟩)∧f 3=zP (some ⟨o,0,none⟩)∧f 4=zS b4 b0.length b5∧f 5=zS r e2.length u∧f 24=zS a20 q.length c21∧f 25=i64 (q.length:Int)∧f 26=i64 a4∧aL G K (aN 4 K j k b::aN 4 K r u e2::aN 4 K b4 b5 b0::a1::fH z y::a3::box b1 176 a0::box o 87 [zS j b.length k]::box e 94 Z::L) w) ?_ ?_))))
    ·rintro f v3 ⟨e2,a,p0,p1,p2,p3,p4,p5,p6,p7⟩
     unfold lP at a
     exact aA (aC (aB (cX p6 rfl) (aBl (v:=i64 (wr (a4+1))) (aAf ⟨(e2,wr (a4+1)),(zI a).symm,p0,p1,p2,p3,p4,p5,rfl,p7⟩))))
    refine aAZ (aCv d4 ?_)
    obtain ⟨d5,g8,a⟩:=aI a
    have p8:=cG b7 (i:=3) rfl g8
    refine aB (dA fX rfl p8 f6 rfl d4 g8) ?_
    obtain ⟨v4,p9,q0⟩:=aBc (sz:=1) rfl b7 (i:=3) rfl g8
    obtain ⟨d6,d7,rfl,i4⟩:=q0
    refine aB (aEa (t:=0) (v:=zS d6 d5.length d7) mM p9 rfl rfl) (pM (v:=i64 a4) (pM (v:=zS d6 d5.length d7) (aAf (aAZ (aB (rL (vs:=[zP (some ⟨e,0,none⟩),zP (some ⟨o,0,none⟩)]) (lst2 c7 e1)) (pM (v:=Value.func (.func 149) #[] #[zP (some ⟨e,0,none⟩),zP (some ⟨o,0,none⟩)]) (aAf (aH (cS (fun f w=>∃ (g9:Bool),jQ a6 a4 g9=some g6∧f 1=zP (some ⟨e,0,none⟩)∧f 3=zP (some ⟨o,0,none⟩)∧f 4=zS b4 b0.length b5∧f 5=zS r a6.length u∧f 6=i64 a4∧f 24=zS a20 q.length c21∧f 25=i64 (q.length:Int)∧f 26=i64 a4∧f 48=zB g9∧aL G K (aN 4 K j k b::aN 4 K r u a6::aN 4 K b4 b5 b0::a1::fH z y::a3::box b1 176 a0::box o 87 [zS j b.length k]::box e 94 Z::L) w) ?_ ?_)))))))))
    ·rintro f v5 ⟨g9,a,i5,i6,i7,h0,q1,i8,i9,j0,j1,h1⟩
     unfold jQ at a
     refine aA ?_
     rcases aK a with ⟨h2,a⟩|⟨h2,a⟩
     ·refine aO h2 j1 (aC (aCv h0 (aCv q1 ?_)))
      obtain ⟨v6,h3,a⟩:=aI a
      have q2:=cG h1 (i:=1) rfl h3
      refine aB (dA fQ rfl q2 rfl rfl rfl h3) ?_
      obtain ⟨j2,j3,a⟩:=aI a
      exact kV (i:=1) (t:=0) (ns:=[zB false]) (e':=(false:Bool)) Tryz.sizeOf4 h1 rfl (zR _) rfl rfl rfl h3 j3 rfl rfl (dL rfl) rfl (fun cs h=>by cases h;rfl) (fun q3 (q4:aL G K (aN 4 K j k b::aN 4 K r u j2::aN 4 K b4 b5 b0::a1::fH z y::a3::box b1 176 a0::box o 87 [zS j b.length k]::box e 94 Z::L) q3)=>(aF (bG (aA ⟨j2,a,i5,i6,i7,(Eq.trans h0 (congrArg (fun n=>zS r n u) (iN j3))),i8,i9,j0,q4⟩))))
     ·exact aM h2 j1 (aW (bG (aA ⟨a6,a,i5,i6,i7,h0,i8,i9,j0,h1⟩)))
    refine aC (aCv f4 (aBl (v:=i64 a4) ?_))
    obtain ⟨q5,h5,a⟩:=aI a
    have q6:=cG b7 (i:=2) rfl h5
    refine aB (dA fQ rfl q6 rfl rfl rfl h5) (aB (kA (t:=0) yE b7 (i:=2) rfl h5 rfl rfl rfl) (aB (dY rfl) (aBl (v:=zB (!q5)) ?_)))
    rcases aK a with ⟨a7,a⟩|⟨a7,a⟩
    ·exact bA a7 rfl rfl (bA a7 rfl rfl (bA a7 rfl rfl (bA a7 rfl rfl (aB (bI (v:=zB true) a7 rfl rfl) (aBl (v:=zB true) (bA (rfl:true=true) rfl rfl (bA (rfl:true=true) rfl rfl (bA (rfl:true=true) rfl rfl (bA (rfl:true=true) rfl rfl (aB (bI (v:=zB true) (rfl:true=true) rfl rfl) (aAf ⟨true,a,c7,e1,f4,f5,rfl,f6,f7,d4,rfl,b7⟩)))))))))))
    ·refine bM a7 rfl rfl (aB (bR qH b7 (i:=8) rfl c7 rfl) (bM a7 rfl rfl (aBl (v:=zS d6 d5.length d7) (bM a7 rfl rfl ?_))))
     have q7:aL G K (a1::fH z y::a3::box b1 176 a0::aN 4 K j k b::aN 4 K r u a6::aN 4 K b4 b5 b0::box o 87 [zS j b.length k]::box e 94 Z::L) o8:=(aL.arr 7 [3,4,5,6,0,1,2] b7 rfl)
     obtain ⟨j4,q8,a⟩:=aI a
     refine aU (vs:=[zP (some ⟨b1,0,none⟩),zS d6 d5.length d7]) Tryz.call151 rfl (aCR (Kf:=Kf) q7 hG d3 h4 h7 e5 e6 e7 e8 (i4.mono d3) q8) ?_
     rintro _ v7 ⟨rfl,h6⟩
     refine bM a7 rfl rfl (aB (aEp rfl rfl) (aB (bJ (v:=zB (!(j4 == ([]:aZ)))) a7 rfl rfl) (aBl (v:=zB (!(j4 == ([]:aZ)))) ?_)))
     rcases aK a with ⟨a9,a⟩|⟨a9,a⟩
     ·exact bA a9 rfl rfl (bA a9 rfl rfl (bA a9 rfl rfl (bA a9 rfl rfl (aB (bI (v:=zB true) a9 rfl rfl) (aAf ⟨true,a,c7,e1,f4,f5,rfl,f6,f7,d4,rfl,(aL.arr 7 [4,5,6,0,1,2,3] h6 rfl)⟩)))))
     ·refine bM a9 rfl rfl (aB (bR qH h6 (i:=8) rfl c7 rfl) (bM a9 rfl rfl (aBl (v:=zS d6 d5.length d7) (bM a9 rfl rfl (aBl (v:=Value.func (.func 149) #[] #[zP (some ⟨e,0,none⟩),zP (some ⟨o,0,none⟩)]) (bM a9 rfl rfl ?_))))))
      obtain ⟨v8,V,j5,q9,r0⟩:=aL.lendS (i:=0) h6 d3 rfl
      obtain ⟨v9,J,j6,r1,r2⟩:=aL.lendM (i:=0) q9 rfl
      obtain ⟨w0,x,j7,r3,r4⟩:=aL.lendS (i:=0) r1 (zL (zL d3 V) J) rfl
      obtain ⟨w1,p,j8,r5,r6⟩:=aL.lendB (i:=0) r3 rfl
      obtain ⟨w2,l,r7,r8,r9⟩:=aL.lendB (i:=4) r5 rfl
      obtain ⟨w3,m,s0,s1,s2⟩:=aL.lendS (i:=0) r8 (zL (zL (zL (zL V J) x) p) l) rfl
      obtain ⟨w4,d,s3,s4,s5⟩:=aL.lendB (i:=2) s1 rfl
      obtain ⟨j9,s6,a⟩:=aI a
      refine aU (vs:=[bY (some ⟨b1,0,none⟩) 0,zS d6 d5.length d7,Value.func (.func 149) #[] #[bY (some ⟨e,0,none⟩) 0,bY (some ⟨o,0,none⟩) 0]]) Tryz.call152 rfl (aCS s4 hG (j8.mono (zL (zL l m) d)) (h4.mono (zL (zL (zL (zL (zL (zL V J) x) p) l) m) d)) (h7.mono (zL (zL (zL (zL (zL (zL V J) x) p) l) m) d)) (e5.mono (zL (zL (zL (zL (zL (zL V J) x) p) l) m) d)) (e6.mono (zL (zL (zL (zL (zL (zL V J) x) p) l) m) d)) (e7.mono (zL (zL (zL (zL (zL (zL V J) x) p) l) m) d)) (e8.mono (zL (zL (zL (zL (zL (zL V J) x) p) l) m) d)) (j5.mono (zL (zL (zL (zL (zL J x) p) l) m) d)) (j6.mono (zL (zL (zL (zL x p) l) m) d)) (j7.mono (zL (zL (zL p l) m) d)) (i4.mono (zL (zL (zL (zL (zL (zL (zL d3 V) J) x) p) l) m) d)) (show fW _ _ _ [bY (some ⟨b1,0,none⟩) 0] from (r7.mono (zL m d))) (j8.mono (zL (zL l m) d)) (h4.mono (zL (zL (zL (zL (zL (zL V J) x) p) l) m) d)) (h7.mono (zL (zL (zL (zL (zL (zL V J) x) p) l) m) d)) (e5.mono (zL (zL (zL (zL (zL (zL V J) x) p) l) m) d)) (e6.mono (zL (zL (zL (zL (zL (zL V J) x) p) l) m) d)) (e7.mono (zL (zL (zL (zL (zL (zL V J) x) p) l) m) d)) (e8.mono (zL (zL (zL (zL (zL (zL V J) x) p) l) m) d)) (j5.mono (zL (zL (zL (zL (zL J x) p) l) m) d)) (j6.mono (zL (zL (zL (zL x p) l) m) d)) (j7.mono (zL (zL (zL p l) m) d)) s3 (s0.mono d) s6) ?_
      rintro _ w5 ⟨rfl,s7⟩
      have s8:=s5 _ _ s7
      have s9:=s2 _ _ s8
      have t0:=r9 _ _ s9
      have t1:=r6 _ _ t0
      have t2:=r4 _ _ t1
      have t3:=r2 _ _ t2
      have t4:=r0 _ _ t3
      exact aB (bJ (v:=zB j9) a9 rfl rfl) (aAf ⟨j9,a,c7,e1,f4,f5,rfl,f6,f7,d4,rfl,(aL.arr 9 [5,7,8,0,1,2,3,6,4] t4 rfl)⟩)
   ·refine aM g7 rfl (cB (aY (aY ?_)))
    have t5:=o9 _ (zI a).symm
    subst t5
    have c:(lO b a6)=some f0:=c
    exact bO (aA ⟨a6,c,c7,e1,f5,(aL.arr 3 [0,1] b7 rfl)⟩)
end Gv
