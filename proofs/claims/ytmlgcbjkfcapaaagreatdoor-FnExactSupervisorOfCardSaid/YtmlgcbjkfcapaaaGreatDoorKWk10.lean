/- Walks, printed by program. -/
import Derived.Test.YtmlgcbjkfcapaaaGreatDoorKWk1
import Derived.Test.YtmlgcbjkfcapaaaGreatDoorKWk5
import Derived.Test.YtmlgcbjkfcapaaaGreatDoorKWk6
import Derived.Test.YtmlgcbjkfcapaaaGreatDoorKWk7
import Derived.Test.YtmlgcbjkfcapaaaGreatDoorKWk8
import Derived.Test.YtmlgcbjkfcapaaaGreatDoorKWk9
set_option linter.all false
namespace Gv
open Go.Value renaming slice→zS,bool→zB,pointer→zP,agg→zA
open Option.some renaming inj→zI
open Gv.Hp renaming le_trans→zL
open Go Go.Proofs
set_option maxRecDepth 20000
set_option maxHeartbeats 40000000
variable {G:Env} {K:Hp} {L:List qD} {w:World} {a1 a4 a7 a10 a13 a16 a19 a22 a3 a5:Option Addr} {c2 c5 c8 c11 c14 c17 c20 c23 c4 c6:Nat}
theorem nO {p:cA} {c:dB} {R:(dB × Int)} (hs:aL G K (L) w) (hG:G.lo=0) (h3:bT K a1 c2 p.S.L) (h6:bT K a4 c5 p.S.E) (h9:bT K a7 c8 p.M) (d2:bT K a10 c11 p.C) (d3:bT K a13 c14 c.L) (d4:bT K a16 c17 c.E) (d:rA p c=some R):
  Calls Tryz.prog 18 ([zA (zEa p a1 c2 a4 c5 a7 c8 a10 c11),zA (zCa c a13 c14 a16 c17)]:List Value).toArray w (fV fun v w'=>∃ (e5:Option Addr) (e6:Nat) (e7:Option Addr) (e8:Nat),v=Value.tuple #[zA (zCa R.1 e5 e6 e7 e8),i64 R.2]∧aL G K (aN 9 K e5 e6 R.1.L::aN 63 K e7 e8 R.1.E::L) w'):=by
 let a0:=(zE p a1 c2 a4 c5 a7 c8 a10 c11)
 let a2:=(zC c a13 c14 a16 c17)
 let j:=zG
 let e9:=[zA (zEa p a1 c2 a4 c5 a7 c8 a10 c11),zA (zCa c a13 c14 a16 c17)]
 refine aT Tryz.func18 rfl (by kernel_rfl) (by show (2:Nat)≤44;decide) ?_
 unfold rA at d
 refine aAZ (dW (v:=zA (zEa p a1 c2 a4 c5 a7 c8 a10 c11)) (vs:=a0) hs rfl rfl (fun c1 m6 g5=>(dW (v:=zA (zCa c a13 c14 a16 c17)) (vs:=a2) g5 rfl rfl (fun c3 m7 g6=>(cF (vs:=j) Tryz.zeroValue29 g6 rfl (fun c4 m8 e0=>(pM (v:=i64 0) (aAf (aH (aAZ (aB (dK (us:=a0) xF e0 (i:=2) rfl rfl rfl rfl) (aB (dK (us:=a2) fD e0 (i:=1) rfl rfl rfl rfl) ?_))))))))))))
 obtain ⟨a,g7,d⟩:=aI d
 refine aU (vs:=e9) Tryz.call61 rfl (aFr e0 hG h3 h6 h9 d2 d3 d4 g7) ?_
 rintro _ m9 ⟨k,l,m,n,o,q,r,u,a5,a6,Z,rfl,n0,g8⟩
 refine aBl (v:=Value.tuple #[zA (zEa a.1 k l m n o q r u),zS a5 a.2.1.length a6,i64 a.2.2]) (aB (bV rfl rfl) (aB (bV rfl rfl) (aB (bV rfl rfl) (cF (vs:=zK) Tryz.zeroValue44 g8 rfl (fun c6 n1 g9=>(cC (i:=0) (ns:=(zE a.1 k l m n o q r u)) (us:=(zE a.1 k l m n o q r u)) Tryz.sizeOf44 g9 rfl rfl rfl rfl rfl (dL rfl) rfl rfl (fun h0 (d5:aL G K (box c6 44 (zE a.1 k l m n o q r u)::aN 9 K k l a.1.S.L::aN 63 K m n a.1.S.E::aN 2 K o q a.1.M::aN 9 K r u a.1.C::aN 38 K a5 a6 (dR Z a.2.1)::rows [2] Z a.2.1::box c4 29 j::box c3 29 a2::box c1 44 a0::L) h0)=>(pM (v:=zS a5 a.2.1.length a6) (pM (v:=i64 a.2.2) (aAf (aAZ (aBl (v:=i64 a.2.2) (aB (oZ rfl rfl) (aAf ?_))))))))))))))
 rcases aK d with ⟨e1,d⟩|⟨e1,d⟩
 ·refine aO e1 rfl (aAZ (aB (kU (vs:=[]) (cs:=j) aEz rfl (by kernel_rfl)) (aBl (v:=i64 a.2.2) (cC (i:=7) (ns:=j) (us:=j) Tryz.sizeOf29 d5 rfl rfl rfl rfl rfl (dL rfl) rfl rfl (fun h1 (h2:aL G K (box c6 44 (zE a.1 k l m n o q r u)::aN 9 K k l a.1.S.L::aN 63 K m n a.1.S.E::aN 2 K o q a.1.M::aN 9 K r u a.1.C::aN 38 K a5 a6 (dR Z a.2.1)::rows [2] Z a.2.1::box c4 29 j::box c3 29 a2::box c1 44 a0::L) h1)=>(pM (v:=i64 a.2.2) (aAf ?_)))))))
  have h4:=aL.nil (α:=aZ) h2 9 K
  have f0:=aL.nil (α:=Edge) h4 63 K
  cases zI d
  exact bF (aS (aBo Tryz.results18 (kW (vs:=j) rfl fD f0 (i:=9) rfl rfl rfl) (wY rfl rfl) ⟨none,0,none,0,rfl,(aL.arr 12 [1,0] f0 rfl)⟩))
 ·refine aM e1 rfl (aW (aA (aAZ (aB (dK (us:=a0) xF d5 (i:=9) rfl rfl rfl rfl) (aB (dK (us:=a2) fD d5 (i:=8) rfl rfl rfl rfl) ?_)))))
  obtain ⟨h,h7,d⟩:=aI d
  refine aU (vs:=e9) Tryz.call62 rfl (aCH d5 h3 h6 h9 d2 d3 d4 h7) ?_
  rintro _ n2 ⟨x,b2,b3,b4,b5,b6,a3,rfl,e,h8⟩
  refine pM (v:=zP (some ⟨a3,0,none⟩)) (aAf (aAZ (aBl (v:=zP (some ⟨a3,0,none⟩)) ?_)))
  obtain ⟨a8,i0,d⟩:=aI d
  refine aU (vs:=[zP (some ⟨a3,0,none⟩)]) Tryz.call63 rfl (aDC (Kf:=x) h8 hG (Hp.le_refl _) (h3.mono e) (h6.mono e) (h9.mono e) (d2.mono e) (d3.mono e) (d4.mono e) i0) ?_
  rintro _ n3 ⟨a9,b0,rfl,d6⟩
  refine pM (v:=zS a9 a8.length b0) (aAf (aH (aAZ (aBl (v:=zS a9 a8.length b0) ?_))))
  obtain ⟨n4,e2,d⟩:=aI d
  have i1:=cG d6 (i:=0) rfl e2
  refine aB (dA fQ rfl i1 rfl rfl rfl e2) (aB (kA (t:=0) yE d6 (i:=0) rfl e2 rfl rfl rfl) (aB (dY rfl) (aAf ?_)))
  rcases aK d with ⟨e3,d⟩|⟨e3,d⟩
  ·refine aO e3 rfl (aAZ (aB (kU (vs:=[]) (cs:=j) aEz rfl (by kernel_rfl)) (cC (i:=12) (ns:=j) (us:=j) Tryz.sizeOf29 d6 rfl rfl rfl rfl rfl (dL rfl) rfl rfl (fun i2 (i3:aL G x (aN 4 K a9 b0 a8::aN 38 x b2 b3 h.1::fH b4 h.2.1::aN 22 x b5 b6 h.2.2::box a3 176 [i64 p.S.N,i64 p.S.I,zS a1 p.S.L.length c2,zS a4 p.S.E.length c5,zS a7 p.M.length c8,zS a10 p.C.length c11,i64 c.N,i64 c.I,zS a13 c.L.length c14,zS a16 c.E.length c17,zS b2 h.1.length b3,Value.map (some b4),zS b5 h.2.2.length b6]::box c6 44 (zE a.1 k l m n o q r u)::aN 9 K k l a.1.S.L::aN 63 K m n a.1.S.E::aN 2 K o q a.1.M::aN 9 K r u a.1.C::aN 38 K a5 a6 (dR Z a.2.1)::rows [2] Z a.2.1::box c4 29 j::box c3 29 a2::box c1 44 a0::L) i2)=>(pM (v:=i64 3) (aAf ?_))))))
   have i4:=aL.nil (α:=aZ) i3 9 K
   have f1:=aL.nil (α:=Edge) i4 63 K
   cases zI d
   exact bF (aS (aBo Tryz.results18 (kW (vs:=j) rfl fD f1 (i:=14) rfl rfl rfl) (wY rfl rfl) ⟨none,0,none,0,rfl,(aL.weakK (aL.arr 17 [1,0] f1 rfl) e)⟩))
  ·refine aM e3 rfl (aW (aA (aAZ (aBl (v:=zP (some ⟨a3,0,none⟩)) (aBl (v:=zS a9 a8.length b0) ?_)))))
   obtain ⟨n5,b1,i6,i7,i8⟩:=aL.lendS (i:=0) d6 e rfl
   obtain ⟨b,i9,d⟩:=aI d
   refine aU (vs:=[zP (some ⟨a3,0,none⟩),zS a9 a8.length b0]) Tryz.call64 rfl (vS (Kf:=x) i7 b1 (h3.mono (zL e b1)) (h6.mono (zL e b1)) (h9.mono (zL e b1)) (d2.mono (zL e b1)) (d3.mono (zL e b1)) (d4.mono (zL e b1)) i6 i9) ?_
   rintro _ n6 ⟨y,z,J,V,d7,d8,d9,rfl,n7,j0⟩
   have j1:=i8 _ _ j0
   refine aBl (v:=Value.tuple #[zA (zCa b.1 y z J V),zS d7 b.2.length d8]) (aB (bV rfl rfl) (aB (bV rfl rfl) (cF (vs:=j) Tryz.zeroValue29 j1 rfl (fun f2 n8 j2=>(cC (i:=0) (ns:=(zC b.1 y z J V)) (us:=(zC b.1 y z J V)) Tryz.sizeOf29 j2 rfl rfl rfl rfl rfl (dL rfl) rfl rfl (fun j3 (j4:aL G x (box f2 29 (zC b.1 y z J V)::aN 4 K a9 b0 a8::aN 9 K y z b.1.L::aN 63 K J V b.1.E::aN 38 K d7 d8 (dR d9 b.2)::rows [2] d9 b.2::aN 38 x b2 b3 h.1::fH b4 h.2.1::aN 22 x b5 b6 h.2.2::box a3 176 [i64 p.S.N,i64 p.S.I,zS a1 p.S.L.length c2,zS a4 p.S.E.length c5,zS a7 p.M.length c8,zS a10 p.C.length c11,i64 c.N,i64 c.I,zS a13 c.L.length c14,zS a16 c.E.length c17,zS b2 h.1.length b3,Value.map (some b4),zS b5 h.2.2.length b6]::box c6 44 (zE a.1 k l m n o q r u)::aN 9 K k l a.1.S.L::aN 63 K m n a.1.S.E::aN 2 K o q a.1.M::aN 9 K r u a.1.C::aN 38 K a5 a6 (dR Z a.2.1)::rows [2] Z a.2.1::box c4 29 j::box c3 29 a2::box c1 44 a0::L) j3)=>(pM (v:=zS d7 b.2.length d8) (aAf (aH ?_)))))))))
   obtain ⟨j5,f3,f4,f5,j6⟩:=aL.lendB (i:=0) j4 rfl
   refine eQ (C:=fun w'=>∃ L',aL G j5 L' w') [(0,0),(1,1),(2,1),(3,2),(4,2),(5,2)] bK (by kernel_rfl) (fun _ hg=>⟨_,aL.mono f5 hg⟩) (fun n9 j7=>?_)
   have c7:=aL.mono f5 j7
   refine bS rfl (fun _ ⟨_,c7⟩=>gO (t:=0) (vs:=(zC b.1 y z J V)) fD c7 f4 rfl rfl rfl) (lL rfl (aB (gO (t:=0) (vs:=(zC b.1 y z J V)) fD c7 f4 rfl rfl rfl) (aF (aA ⟨⟨_,c7⟩,?_⟩))))
   refine lL rfl ?_
   obtain ⟨o0,j8,j9,k0,k1⟩:=aL.lendS (i:=1) c7 (zL e f3) rfl
   obtain ⟨o1,k2,k3,k4,k5⟩:=aL.lendS (i:=1) k0 (zL (zL e f3) j8) rfl
   obtain ⟨f6,k6,d⟩:=aI d
   refine aU (vs:=[zA (zCa b.1 y z J V)]) Tryz.call33 rfl (aEN k4 (j9.mono k2) k3 k6) ?_
   rintro _ o2 ⟨f7,f8,rfl,k7⟩
   have k8:=k5 _ _ k7
   have f9:=k1 _ _ k8
   refine aF (aA ⟨⟨_,f9⟩,?_⟩)
   have k9:=j6 _ _ f9
   refine aBn rfl ?_
   obtain ⟨o3,g0,l0,l1,l2⟩:=aL.lendS (i:=1) k9 e rfl
   obtain ⟨o4,g1,l3,l4,l5⟩:=aL.lendS (i:=1) l1 (zL e g0) rfl
   obtain ⟨o5,g2,l6,l7,l8⟩:=aL.lendS (i:=1) l4 (zL (zL e g0) g1) rfl
   obtain ⟨g,l9,d⟩:=aI d
   refine aU (vs:=[zA (zCa b.1 y z J V),zS f7 f6.length f8]) Tryz.call32 rfl (aHI l7 (l0.mono (zL g1 g2)) (l3.mono g2) l6 l9) ?_
   rintro _ o6 ⟨b7,b8,b9,c0,rfl,m0⟩
   have m1:=l8 _ _ m0
   have m2:=l5 _ _ m1
   have m3:=l2 _ _ m2
   refine aAf (aBn rfl (cC (i:=20) (ns:=(zC g b7 b8 b9 c0)) (us:=(zC g b7 b8 b9 c0)) Tryz.sizeOf29 m3 rfl rfl rfl rfl rfl (dL rfl) rfl rfl (fun m4 (g3:aL G x (aN 9 K y z b.1.L::aN 63 K J V b.1.E::aN 2 K f7 f8 f6::aN 9 K b7 b8 g.L::aN 63 K b9 c0 g.E::box f2 29 (zC b.1 y z J V)::aN 4 K a9 b0 a8::aN 38 K d7 d8 (dR d9 b.2)::rows [2] d9 b.2::aN 38 x b2 b3 h.1::fH b4 h.2.1::aN 22 x b5 b6 h.2.2::box a3 176 [i64 p.S.N,i64 p.S.I,zS a1 p.S.L.length c2,zS a4 p.S.E.length c5,zS a7 p.M.length c8,zS a10 p.C.length c11,i64 c.N,i64 c.I,zS a13 c.L.length c14,zS a16 c.E.length c17,zS b2 h.1.length b3,Value.map (some b4),zS b5 h.2.2.length b6]::box c6 44 (zE a.1 k l m n o q r u)::aN 9 K k l a.1.S.L::aN 63 K m n a.1.S.E::aN 2 K o q a.1.M::aN 9 K r u a.1.C::aN 38 K a5 a6 (dR Z a.2.1)::rows [2] Z a.2.1::box c4 29 (zC g b7 b8 b9 c0)::box c3 29 a2::box c1 44 a0::L) m4)=>(aAf (aBn rfl (pM (v:=i64 0) (aAf (kB (aA ?_)))))))))
   cases zI d
   exact bF (aBo Tryz.results18 (kW (vs:=(zC g b7 b8 b9 c0)) rfl fD g3 (i:=20) rfl rfl rfl) (wY rfl rfl) ⟨b7,b8,b9,c0,rfl,(aL.weakK (aL.arr 23 [3,4] g3 rfl) e)⟩)
theorem aHL {a b:(List Int)} {R:Bool} (m:aL G K (L) w) (n:bT K a1 c2 a) (o:bT K a4 c5 b) (c:aCn a b=some R):
  Calls Tryz.prog 65 ([zS a1 a.length c2,zS a4 b.length c5]:List Value).toArray w (fV fun v w'=>v=zB R∧aL G K (L) w'):=by
 refine aT Tryz.func65 rfl (by kernel_rfl) (by show (2:Nat)≤26;decide) ?_
 unfold aCn at c
 refine aAZ (pM (v:=zB false) (aAf (aH (aAZ (aBl (v:=zS a1 a.length c2) (aB (bQ (len:=a.length) bW rfl) (aBl (v:=zS a4 b.length c5) (aB (bQ (len:=b.length) bW rfl) (aB (oZ rfl rfl) (aAf ?_))))))))))
 rcases aK c with ⟨i,c⟩|⟨i,c⟩
 ·refine aO i rfl (aAZ (pM (v:=zB false) (aAf ?_)))
  cases zI c
  exact bF (aS (bC Tryz.results65 rfl ⟨rfl,m⟩))
 ·refine aM i rfl (aW (aA (aH (aAZ (pM (v:=i64 0) (aAf (bD (fun f w=>aAG=some R∧aL G K (L) w) ?_ ?_)))))))
  ·rintro f w9 ⟨c,z⟩
   unfold aAG at c
   refine aA (aAZ (pM (v:=zB true) (aAf ?_)))
   cases zI c
   exact bF (bC Tryz.results65 rfl ⟨rfl,z⟩)
  obtain ⟨b0,V,c⟩:=aI c
  refine cD V (fun (g:Int) f w=>f 0=zS a1 a.length c2∧f 1=zS a4 b.length c5∧f 5=i64 g∧aL G K (L) w) ?_ ?_
  ·exact ⟨rfl,rfl,rfl,m⟩
  ·rintro g Z f b1 d p ⟨j,q,h,e⟩
   replace d:tK a b g=some Z:=d
   unfold tK at d
   refine aH (aAZ (aCv h (aCv j (aB (bQ (len:=a.length) bW rfl) (aB (cJ rfl rfl) (aAf ?_))))))
   rcases aK d with ⟨k,d⟩|⟨k,d⟩
   ·refine aO k rfl (aW (aA (aH (cU (aH (cT (C:=fun w'=>aL G K (L) w') bK (by kernel_rfl) (aL.mono e (dE.drew _)) (aQ (fun _ e=>aD j) (aQ (fun _ e=>aD h) ?_))))))))
    obtain ⟨b2,r,d⟩:=aI d
    refine aQ (fun _ e=>cO bW rfl n rfl rfl rfl r) ?_
    obtain ⟨b3,a0,a2⟩:=bT.el (sz:=1) rfl n r
    cases a2
    refine aQ (fun _ e=>bH (t:=0) cP e a0 rfl rfl) (aQ (fun _ e=>aD q) (aQ (fun _ e=>aD h) ?_))
    obtain ⟨b4,u,d⟩:=aI d
    refine aQ (fun _ e=>cO bW rfl o rfl rfl rfl u) ?_
    obtain ⟨b5,a3,a5⟩:=bT.el (sz:=1) rfl o u
    cases a5
    refine aQ (fun _ e=>bH (t:=0) cP e a3 rfl rfl) (aQ (fun _ e=>oZ rfl rfl) (dC (fun b6 x=>(aA ?_))))
    rcases aK d with ⟨l,d⟩|⟨l,d⟩
    ·refine aO l rfl (aAZ (pM (v:=zB false) (aAf (bF (bN (aS (aS ?_)))))))
     have a6:=p _ (zI d).symm
     subst a6
     have c:(some false)=some R:=c
     cases zI c
     exact bN (aS (aS (bC Tryz.results65 rfl ⟨rfl,x⟩)))
    ·exact aM l rfl (aW (bG (aA (aC (aCv h (aB (cX rfl rfl) (pM (v:=i64 (wr (g+1))) (aAf ⟨wr (g+1),(zI d).symm,j,q,rfl,x⟩))))))))
   ·refine aM k rfl (cB (aY (aY ?_)))
    have a8:=p _ (zI d).symm
    subst a8
    have c:(aAG)=some R:=c
    exact bO (aA ⟨c,e⟩)
theorem aIC {a b:cA} {R:Bool} (m:aL G K (L) w) (n:bT K a1 c2 a.S.L) (o:bT K a4 c5 a.S.E) (p:bT K a7 c8 a.M) (q:bT K a10 c11 a.C) (r:bT K a13 c14 b.S.L) (t:bT K a16 c17 b.S.E) (u:bT K a19 c20 b.M) (x:bT K a22 c23 b.C) (c:aDs a b=some R):
  Calls Tryz.prog 19 ([zA (zEa a a1 c2 a4 c5 a7 c8 a10 c11),zA (zEa b a13 c14 a16 c17 a19 c20 a22 c23)]:List Value).toArray w (fV fun v w'=>v=zB R∧aL G K (L) w'):=by
 refine aT Tryz.func19 rfl (by kernel_rfl) (by show (2:Nat)≤23;decide) ?_
 unfold aDs at c
 refine aAZ (dW (v:=zA (zEa a a1 c2 a4 c5 a7 c8 a10 c11)) (vs:=(zE a a1 c2 a4 c5 a7 c8 a10 c11)) m rfl rfl (fun a5 a6 y=>(dW (v:=zA (zEa b a13 c14 a16 c17 a19 c20 a22 c23)) (vs:=(zE b a13 c14 a16 c17 a19 c20 a22 c23)) y rfl rfl (fun a8 a9 g=>(pM (v:=zB false) (aAf (aH (aAZ (aB (bB (t':=0) iZ rfl rfl) (aB (dK (us:=(zC a.S a1 c2 a4 c5)) fD g (i:=1) rfl rfl rfl rfl) (aB (bB (t':=0) iZ rfl rfl) (aB (dK (us:=(zC b.S a13 c14 a16 c17)) fD g (i:=0) rfl rfl rfl rfl) ?_))))))))))))
 obtain ⟨b0,z,c⟩:=aI c
 refine aU (vs:=[zA (zCa a.S a1 c2 a4 c5),zA (zCa b.S a13 c14 a16 c17)]) Tryz.call10 rfl (zX g n o r t z) ?_
 rintro _ b1 ⟨rfl,d⟩
 refine aB (dY rfl) (aAf ?_)
 rcases aK c with ⟨h,c⟩|⟨h,c⟩
 ·refine aO h rfl (aAZ (pM (v:=zB false) (aAf ?_)))
  cases zI c
  exact bF (aS (bC Tryz.results19 rfl ⟨rfl,(aL.arr 2 [] d rfl)⟩))
 ·refine aM h rfl (aW (aA (aH (aAZ (aB (bB (t':=4) aAr rfl rfl) (aB (bR mM d (i:=1) rfl rfl rfl) (aB (bB (t':=4) aAr rfl rfl) (aB (bR mM d (i:=0) rfl rfl rfl) ?_))))))))
  obtain ⟨b2,V,c⟩:=aI c
  refine aU (vs:=[zS a7 a.M.length c8,zS a19 b.M.length c20]) Tryz.call65 rfl (aHL d p u V) ?_
  rintro _ b3 ⟨rfl,e⟩
  refine aB (dY rfl) (aAf ?_)
  rcases aK c with ⟨j,c⟩|⟨j,c⟩
  ·refine aO j rfl (aAZ (pM (v:=zB false) (aAf ?_)))
   cases zI c
   exact bF (aS (bC Tryz.results19 rfl ⟨rfl,(aL.arr 2 [] e rfl)⟩))
  ·refine aM j rfl (aW (aA (aH (aAZ (aB (bB (t':=5) aBp rfl rfl) (aB (bR jJ e (i:=1) rfl rfl rfl) (aB (bB (t':=5) aBp rfl rfl) (aB (bR jJ e (i:=0) rfl rfl rfl) ?_))))))))
   obtain ⟨b4,a0,c⟩:=aI c
   refine aU (vs:=[zS a10 a.C.length c11,zS a22 b.C.length c23]) Tryz.call38 rfl (aDw e q x a0) ?_
   rintro _ b5 ⟨rfl,l⟩
   refine aB (dY rfl) (aAf ?_)
   rcases aK c with ⟨k,c⟩|⟨k,c⟩
   ·refine aO k rfl (aAZ (pM (v:=zB false) (aAf ?_)))
    cases zI c
    exact bF (aS (bC Tryz.results19 rfl ⟨rfl,(aL.arr 2 [] l rfl)⟩))
   ·refine aM k rfl (aW (aA (aAZ (pM (v:=zB true) (aAf ?_)))))
    cases zI c
    exact bF (bC Tryz.results19 rfl ⟨rfl,(aL.arr 2 [] l rfl)⟩)
theorem aGr {a:(List Int)} {k:Int} {R:(Int × (List Int))} (z:aL G K (aN 2 K a1 c2 a::L) w) (c:zW a k=some R):
  Calls Tryz.prog 66 ([zS a1 a.length c2,i64 k]:List Value).toArray w (fV fun v w'=>v=i64 R.1∧a.length=R.2.length∧aL G K (aN 2 K a1 c2 R.2::L) w'):=by
 refine aT Tryz.func66 rfl (by kernel_rfl) (by show (2:Nat)≤19;decide) ?_
 unfold zW at c
 refine aAZ (pM (v:=i64 0) (aAf (aH (aAZ (pM (v:=i64 0) (aAf (bD (fun f w=>∃ (j:Int) (l:List Int),sP j l=some R∧f 1=i64 j∧a.length=l.length∧aL G K (aN 2 K a1 c2 l::L) w) ?_ ?_)))))))
 ·rintro f w7 ⟨j,l,c,J,V,Z⟩
  unfold sP at c
  refine aA (aAZ (aCv J (pM (v:=i64 j) (aAf ?_))))
  cases zI c
  exact bF (bC Tryz.results66 rfl ⟨rfl,V,Z⟩)
 obtain ⟨b1,a2,c⟩:=aI c
 refine cD a2 (fun (s:(List Int × Int × Int)) f w=>match s with|(e,d,g)=>f 0=zS a1 e.length c2∧f 1=i64 d∧f 5=i64 g∧a.length=e.length∧aL G K (aN 2 K a1 c2 e::L) w) ?_ ?_
 ·exact ⟨rfl,rfl,rfl,rfl,z⟩
 ·rintro ⟨e,d,g⟩ a3 f b2 b a5 ⟨m,o,p,x,q⟩
  replace b:sQ e d g=some a3:=b
  unfold sQ at b
  refine aH (aAZ (aCv p (aCv m (aB (bQ (len:=e.length) bW rfl) (aB (cJ rfl rfl) (aAf ?_))))))
  rcases aK b with ⟨c45,b⟩|⟨c45,b⟩
  ·refine aO c45 rfl (aW (aA (aH (cU (aAZ (aCv m (aCv p (aCv o ?_))))))))
   obtain ⟨b3,r,b⟩:=aI b
   have a6:=cG q (i:=0) rfl r
   refine aB (dA bW rfl a6 rfl rfl rfl r) ?_
   obtain ⟨y,u,b⟩:=aI b
   exact kV (i:=0) (t:=0) (ns:=[i64 d]) (e':=(d:Int)) Tryz.sizeOf2 q rfl (Hp.le_refl _) rfl rfl rfl r u rfl rfl (dL rfl) rfl (fun cs h=>by cases h;rfl) (fun a7 (a8:aL G K (aN 2 K a1 c2 y::L) a7)=>(aAf (aC (aCv o (aB (cX rfl rfl) (pM (v:=i64 (wr (d+1))) (aF (bG (aA (aC (aCv p (aB (cX rfl rfl) (pM (v:=i64 (wr (g+1))) (aAf ⟨(y,wr (d+1),wr (g+1)),(zI b).symm,(Eq.trans m (congrArg (fun n=>zS a1 n c2) (iN u))),rfl,rfl,(x.trans (iN u)),a8⟩))))))))))))))
  ·refine aM c45 rfl (cB (aY (aY ?_)))
   have a9:=a5 _ (zI b).symm
   subst a9
   have c:(sP d e)=some R:=c
   exact bO (aA ⟨d,e,c,o,x,q⟩)
theorem aGS {d e:Int} {g:(List aZ)} {h:(List Edge)} {b:(List Int)} {c:(List aZ)} {k:Int} {R:(Int × (List aZ) × (List Edge) × (List Int) × (List aZ))} (Z:aL G K (aN 9 K a1 c2 g::aN 63 K a3 c4 h::aN 2 K a5 c6 b::aN 9 K a7 c8 c::L) w) (l:aAX d e g h b c k=some R):
  Calls Tryz.prog 20 ([zA #[i64 d,i64 e,zS a1 g.length c2,zS a3 h.length c4,zS a5 b.length c6,zS a7 c.length c8],i64 k]:List Value).toArray w (fV fun v w'=>v=i64 R.1∧g.length=R.2.1.length∧h.length=R.2.2.1.length∧b.length=R.2.2.2.1.length∧c.length=R.2.2.2.2.length∧aL G K (aN 9 K a1 c2 R.2.1::aN 63 K a3 c4 R.2.2.1::aN 2 K a5 c6 R.2.2.2.1::aN 9 K a7 c8 R.2.2.2.2::L) w'):=by
 let p:=[i64 d,i64 e,zS a1 g.length c2,zS a3 h.length c4,zS a5 b.length c6,zS a7 c.length c8]
 let n:=aN 9 K a7 c8 c
 refine aT Tryz.func20 rfl (by kernel_rfl) (by show (2:Nat)≤18;decide) ?_
 unfold aAX at l
 refine aAZ (dW (v:=zA #[i64 d,i64 e,zS a1 g.length c2,zS a3 h.length c4,zS a5 b.length c6,zS a7 c.length c8]) (vs:=p) Z rfl rfl (fun m a0 q=>(pM (v:=i64 0) (aAf (aAZ (aB (bB (t':=0) iZ rfl rfl) (aB (dK (us:=[i64 d,i64 e,zS a1 g.length c2,zS a3 h.length c4]) fD q (i:=0) rfl rfl rfl rfl) (aBl (v:=i64 k) ?_))))))))
 have a2:aL G K (aN 9 K a1 c2 g::aN 63 K a3 c4 h::box m 44 p::aN 2 K a5 c6 b::n::L) a0:=(aL.arr 3 [1,2,0] q rfl)
 obtain ⟨a,a4,l⟩:=aI l
 refine aU (vs:=[zA #[i64 d,i64 e,zS a1 g.length c2,zS a3 h.length c4],i64 k]) Tryz.call11 rfl (aCp a2 a4) ?_
 rintro _ r ⟨rfl,t,u,a6⟩
 have x:aL G K (aN 9 K a1 c2 a.2.1::aN 63 K a3 c4 a.2.2::box m 44 [i64 d,i64 e,zS a1 a.2.1.length c2,zS a3 a.2.2.length c4,zS a5 b.length c6,zS a7 c.length c8]::aN 2 K a5 c6 b::n::L) r:=by rw [←t,←u];exact a6
 refine pM (v:=i64 a.1) (aAf (aAZ (aB (bB (t':=4) aAr rfl rfl) (aB (bR mM x (i:=2) rfl rfl rfl) (aBl (v:=i64 a.1) ?_)))))
 have a8:aL G K (aN 2 K a5 c6 b::aN 9 K a1 c2 a.2.1::aN 63 K a3 c4 a.2.2::box m 44 [i64 d,i64 e,zS a1 a.2.1.length c2,zS a3 a.2.2.length c4,zS a5 b.length c6,zS a7 c.length c8]::n::L) r:=(aL.arr 4 [3,0,1,2] x rfl)
 obtain ⟨j,a9,l⟩:=aI l
 refine aU (vs:=[zS a5 b.length c6,i64 a.1]) Tryz.call66 rfl (aGr a8 a9) ?_
 rintro _ y ⟨rfl,z,b0⟩
 have J:aL G K (aN 2 K a5 c6 j.2::aN 9 K a1 c2 a.2.1::aN 63 K a3 c4 a.2.2::box m 44 [i64 d,i64 e,zS a1 a.2.1.length c2,zS a3 a.2.2.length c4,zS a5 j.2.length c6,zS a7 c.length c8]::n::L) y:=by rw [←z];exact b0
 refine pM (v:=i64 j.1) (aAf (aAZ (aB (bB (t':=5) aBp rfl rfl) (aB (bR jJ J (i:=3) rfl rfl rfl) (aBl (v:=i64 j.1) ?_)))))
 have b1:aL G K (n::aN 2 K a5 c6 j.2::aN 9 K a1 c2 a.2.1::aN 63 K a3 c4 a.2.2::box m 44 [i64 d,i64 e,zS a1 a.2.1.length c2,zS a3 a.2.2.length c4,zS a5 j.2.length c6,zS a7 c.length c8]::L) y:=(aL.arr 5 [4,0,1,2,3] J rfl)
 obtain ⟨o,b2,l⟩:=aI l
 refine aU (vs:=[zS a7 c.length c8,i64 j.1]) Tryz.call40 rfl (aCo b1 b2) ?_
 rintro _ b3 ⟨rfl,V,b4⟩
 have b5:aL G K (aN 9 K a7 c8 o.2::aN 2 K a5 c6 j.2::aN 9 K a1 c2 a.2.1::aN 63 K a3 c4 a.2.2::box m 44 [i64 d,i64 e,zS a1 a.2.1.length c2,zS a3 a.2.2.length c4,zS a5 j.2.length c6,zS a7 o.2.length c8]::L) b3:=by rw [←V];exact b4
 refine pM (v:=i64 o.1) (aAf (aAZ (aBl (v:=i64 o.1) (pM (v:=i64 o.1) (aAf ?_)))))
 cases zI l
 exact bF (bC Tryz.results20 rfl ⟨rfl,t,u,z,V,(aL.arr 5 [2,3,1,0] b5 rfl)⟩)
end Gv
