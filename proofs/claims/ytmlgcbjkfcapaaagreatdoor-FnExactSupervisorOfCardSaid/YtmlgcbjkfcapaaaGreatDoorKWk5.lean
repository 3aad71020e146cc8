/- Walks, printed by program. -/
import Derived.Test.YtmlgcbjkfcapaaaGreatDoorKWk1
import Derived.Test.YtmlgcbjkfcapaaaGreatDoorKWk2
import Derived.Test.YtmlgcbjkfcapaaaGreatDoorKWk3
import Derived.Test.YtmlgcbjkfcapaaaGreatDoorKWk4
set_option linter.all false
namespace Gv
open Go.Value renaming slice→zS,bool→zB,pointer→zP,agg→zA
open Option.some renaming inj→zI
open Gv.Hp renaming le_trans→zL,le_refl→zR
open Go Go.Proofs
set_option maxRecDepth 20000
set_option maxHeartbeats 40000000
variable {G:Env} {K Kf:Hp} {L:List qD} {w:World} {b1 c6 c9 c12 c15 c21 c24 c27 c29 c31 c2 c5 c8 c11 c14 c17:Nat} {a2 a5 a8 a11 a14 a17 a20 a23 a26 a28 a30 a1 a4 a7 a10 a13 a16:Option Addr}
theorem aCP {o:cA} {k3:Nat} {b3:dB} {e3:Nat} {p:(List (List Int))} {V:(List Edge)} {e4:Bool} {y:(List Bool)} {R:(dB × (List (List Int)))} (hs:aL G K (aN 38 Kf a26 c27 p::aN 63 K a28 c29 V::box b1 86 [bY a2 k3,bY a17 e3,zS a26 p.length c27,zS a28 V.length c29,zB e4]::L) w) (f5:Hp.le Kf K) (h4:fW K a2 k3 (zE o a5 c6 a8 c9 a11 c12 a14 c15)) (h7:bT K a5 c6 o.S.L) (y6:bT K a8 c9 o.S.E) (y7:bT K a11 c12 o.M) (y8:bT K a14 c15 o.C) (y9:fW K a17 e3 (zC b3 a20 c21 a23 c24)) (z0:bT K a20 c21 b3.L) (z1:bT K a23 c24 b3.E) (b9:bT K a30 c31 y) (c:nI o b3 p V e4 y=some R):
  Calls Tryz.prog 59 ([zP (some ⟨b1,0,none⟩),zS a30 y.length c31]:List Value).toArray w (fV fun v w'=>∃ (K':Hp) (i7:Option Addr) (i8:Nat) (i9:Option Addr) (j0:Nat) (j1:Option Addr) (j2:Nat),v=Value.tuple #[zA (zCa R.1 i7 i8 i9 j0),zS j1 R.2.length j2]∧Hp.le K K'∧aL G K' (aN 9 K i7 i8 R.1.L::aN 63 K i9 j0 R.1.E::aN 38 K' j1 j2 R.2::aN 38 Kf a26 c27 p::aN 63 K a28 c29 V::box b1 86 [bY a2 k3,bY a17 e3,zS a26 p.length c27,zS a28 V.length c29,zB e4]::L) w'):=by
 let u:=zG
 let Z:=box b1 86 [bY a2 k3,bY a17 e3,zS a26 p.length c27,zS a28 V.length c29,zB e4]
 let x:=aN 63 K a28 c29 V
 let a0:=aN 38 Kf a26 c27 p
 refine aT Tryz.func59 rfl (by kernel_rfl) (by show (2:Nat)≤110;decide) ?_
 unfold nI at c
 refine aAZ (cF (vs:=u) Tryz.zeroValue29 hs rfl (fun e z2 n2=>(pM (v:=zS none 0 0) (aAf (aAZ (dM (Kt:=K) (xs:=([]:List (List Int))) (cs:=[]) (vs:=[]) fX aBV rfl rfl n2 rfl (by kernel_rfl) rfl rfl rfl trivial (fun f7 n3 (n4:aL G K (aN 38 K f7 0 ([]:List (List Int))::box e 29 u::a0::x::Z::L) n3)=>(pM (v:=zS f7 ([]:List (List Int)).length 0) (aAf (aH (aAZ (pM (v:=i64 0) (aAf (bD (fun f w=>∃ (m:Hp) (b:List (List Int)) (j:Option Addr) (k:Nat),Hp.le K m∧lA o p V y b=some R∧f 0=zP (some ⟨b1,0,none⟩)∧f 1=zS a30 y.length c31∧f 4=zP (some ⟨e,0,none⟩)∧f 6=zS j b.length k∧aL G m (aN 38 m j k b::box e 29 u::a0::x::Z::L) w) ?_ ?_))))))))))))))
 ·rintro f z3 ⟨m,b,j,k,q,c,n5,n6,n7,n8,n9⟩
  unfold lA at c
  refine aA (aAZ (dM (Kt:=K) (xs:=([]:List Edge)) (cs:=[]) (vs:=[]) cR vQ rfl rfl n9 rfl (by kernel_rfl) rfl rfl rfl trivial (fun f8 o0 (o1:aL G m (aN 63 K f8 0 ([]:List Edge)::aN 38 m j k b::box e 29 u::a0::x::Z::L) o0)=>(pM (v:=zS f8 ([]:List Edge).length 0) (aAf (aH (aAZ (pM (v:=i64 0) (aAf (bD (fun f w=>∃ (c0:List Edge) (d3:Option Addr) (d4:Nat),kZ o p b c0=some R∧f 0=zP (some ⟨b1,0,none⟩)∧f 4=zP (some ⟨e,0,none⟩)∧f 6=zS j b.length k∧f 8=zS d3 c0.length d4∧aL G m (aN 63 K d3 d4 c0::aN 38 m j k b::box e 29 u::a0::x::Z::L) w) ?_ ?_))))))))))
  ·rintro f z4 ⟨c0,d3,d4,c,j3,j4,f9,o2,o3⟩
   unfold kZ at c
   refine aA (aH ?_)
   obtain ⟨z5,b4,j5,o4,o5⟩:=aL.lendS (i:=3) o3 (zL f5 q) rfl
   obtain ⟨j6,a3,j7,j8,o6⟩:=aL.lendB (i:=4) o4 rfl
   refine eQ (C:=fun w'=>∃ L',aL G j6 L' w') [(0,0),(1,0),(2,0),(3,0),(4,0),(5,0),(6,0),(7,0),(8,0),(10,0),(11,0),(12,0),(13,0),(14,0),(15,0),(16,0),(17,0),(18,0),(20,0),(9,1),(19,1),(21,1),(22,2)] bK (by kernel_rfl) (fun _ hg=>⟨_,aL.mono j8 hg⟩) (fun z6 o7=>?_)
   have a4:=aL.mono j8 o7
   refine bS rfl (fun _ _=>aD f9) (bS rfl (fun _ _=>bQ (len:=b.length) fX rfl) (bS rfl (fun _ _=>aD f9) (bS rfl (fun _ _=>aD j3) (bS rfl (fun _ _=>dJ rfl) (bS rfl (fun _ _=>bB (t':=2) pB rfl rfl) (bS rfl (fun _ ⟨_,a4⟩=>bH (t:=2) qC a4 j7 rfl rfl) ?_))))))
   obtain ⟨o8,g0,c⟩:=aI c
   have o9:=aCB (j5.mono a3) g0
   refine bS rfl (fun _ _=>dA fX rfl o9 rfl rfl rfl g0) ?_
   obtain ⟨z7,p0,p1⟩:=bT.el (sz:=1) rfl (j5.mono a3) g0
   obtain ⟨p2,p3,rfl,p4⟩:=p1
   refine bS rfl (fun _ ⟨_,a4⟩=>bH (t:=0) mM a4 p0 rfl rfl) (bS rfl (fun _ _=>aD j3) (bS rfl (fun _ _=>dJ rfl) (bS rfl (fun _ _=>bB (t':=0) aEZ rfl rfl) (bS rfl (fun _ ⟨_,a4⟩=>bH (t:=0) aKj a4 j7 rfl rfl) (bS rfl (fun _ _=>dG rfl (h4.mono (zL (zL q b4) a3))) (bS rfl (fun _ _=>cH (k':=k3+0) iZ rfl (h4.mono (zL (zL q b4) a3)) rfl) (bS rfl (fun _ _=>cH (k':=k3+2) gL rfl (h4.mono (zL (zL q b4) a3)) rfl) (bS rfl (fun _ ⟨_,a4⟩=>bH (t:=2) jJ a4 (h4.mono (zL (zL q b4) a3)) rfl rfl) (bS rfl (fun _ _=>aD o2) (bS rfl (fun _ _=>aD f9) (lL rfl ?_)))))))))))
   obtain ⟨z8,p5,p6,p7,p8⟩:=aL.lendS (i:=1) a4 (zL b4 a3) rfl
   obtain ⟨p9,q0,c⟩:=aI c
   refine aU (vs:=[zS j b.length k,zS p2 o8.length p3]) Tryz.call133 rfl (aAH p7 p6 (p4.mono p5) q0) ?_
   rintro _ z9 ⟨rfl,q1⟩
   have j9:=p8 _ _ q1
   refine aF (aA ⟨⟨_,j9⟩,?_⟩)
   refine lL rfl ?_
   obtain ⟨K95,q2,q3,q4,q5⟩:=aL.lendS (i:=1) j9 (zL (zL q b4) a3) rfl
   obtain ⟨n,q6,c⟩:=aI c
   refine aU (vs:=[i64 (b.length:Int),i64 p9,zS a5 o.S.L.length c6,zS d3 c0.length d4]) Tryz.call71 rfl (aIA q4 (h7.mono (zL (zL (zL q b4) a3) q2)) q3 q6) ?_
   rintro _ a01 ⟨c1,c2,c3,c4,rfl,q7⟩
   have k0:=q5 _ _ q7
   refine aF (aA ⟨⟨_,k0⟩,?_⟩)
   refine lL rfl (cC (i:=4) (ns:=(zC n c1 c2 c3 c4)) (us:=(zC n c1 c2 c3 c4)) Tryz.sizeOf29 k0 rfl j4 rfl rfl rfl (dL rfl) rfl rfl (fun q8 (k1:aL G j6 (aN 63 K d3 d4 c0::aN 9 K c1 c2 n.L::aN 63 K c3 c4 n.E::aN 38 m j k b::box e 29 (zC n c1 c2 c3 c4)::x::L) q8)=>(aF (aA ⟨⟨_,k1⟩,?_⟩))))
   have q9:=o6 _ _ k1
   have k2:=o5 _ _ q9
   refine aBn rfl (pM (v:=zS j b.length k) (aAf (kB (aA ?_))))
   cases zI c
   exact bF (aBo Tryz.results59 (kW (vs:=(zC n c1 c2 c3 c4)) rfl fD k2 (i:=6) rfl j4 rfl) (wY rfl rfl) ⟨m,c1,c2,c3,c4,j,k,rfl,q,(aL.arr 8 [3,4,5,0,7,1] k2 rfl)⟩)
  obtain ⟨a02,r1,c⟩:=aI c
  refine cD r1 (fun (s:(List Edge × Int)) f w=>match s with|(J,a6)=>∃ (a7:Option Addr) (a9:Nat),f 0=zP (some ⟨b1,0,none⟩)∧f 1=zS a30 y.length c31∧f 4=zP (some ⟨e,0,none⟩)∧f 6=zS j b.length k∧f 8=zS a7 J.length a9∧f 9=i64 a6∧aL G m (aN 63 K a7 a9 J::aN 38 m j k b::box e 29 u::a0::x::Z::L) w) ?_ ?_
  ·exact ⟨f8,0,n5,n6,n7,n8,rfl,rfl,o1⟩
  ·rintro ⟨J,a6⟩ g1 f a03 a r2 ⟨a7,a9,d5,e6,g2,g3,g4,e7,c5⟩
   replace a:eE p V y b J a6=some g1:=a
   unfold eE at a
   refine aH (aAZ (aCv e7 (aCv d5 (aB (dJ rfl) (aB (bB (t':=3) aBq rfl rfl) (aB (bR hX c5 (i:=5) rfl rfl rfl) (aB (bQ (len:=V.length) cR rfl) (aB (cJ rfl rfl) (aAf ?_)))))))))
   rcases aK a with ⟨g5,a⟩|⟨g5,a⟩
   ·refine aO g5 rfl (aW (aA (aH (bD (fun f w=>∃ (d6:List Edge) (e8:Option Addr) (e9:Nat),gQ a6 d6=some g1∧f 0=zP (some ⟨b1,0,none⟩)∧f 1=zS a30 y.length c31∧f 4=zP (some ⟨e,0,none⟩)∧f 6=zS j b.length k∧f 8=zS e8 d6.length e9∧f 9=i64 a6∧aL G m (aN 63 K e8 e9 d6::aN 38 m j k b::box e 29 u::a0::x::Z::L) w) ?_ ?_))))
    ·rintro f a04 ⟨d6,e8,e9,a,r3,r4,r5,r6,r7,r8,r9⟩
     unfold gQ at a
     exact aA (aC (aCv r8 (aB (cX rfl rfl) (pM (v:=i64 (wr (a6+1))) (aAf ⟨(d6,wr (a6+1)),(zI a).symm,e8,e9,r3,r4,r5,r6,r7,rfl,r9⟩)))))
    refine aAZ (aCv d5 (aB (dJ rfl) (aB (bB (t':=3) aBq rfl rfl) (aB (bR hX c5 (i:=5) rfl rfl rfl) (aCv e7 ?_)))))
    obtain ⟨d,g6,a⟩:=aI a
    have s0:=cG c5 (i:=4) rfl g6
    refine aB (dA cR rfl s0 rfl rfl rfl g6) (aB (wX (t:=0) (vs:=[i64 d.F,i64 d.B,i64 d.To]) mB c5 (i:=4) rfl g6 rfl rfl rfl rfl) (cF (vs:=[i64 0,i64 0,i64 0]) Tryz.zeroValue63 c5 rfl (fun g7 a05 s1=>(cC (i:=0) (ns:=[i64 d.F,i64 d.B,i64 d.To]) (us:=[i64 d.F,i64 d.B,i64 d.To]) Tryz.sizeOf63 s1 rfl rfl rfl rfl rfl (dL rfl) rfl rfl (fun s2 (c7:aL G m (box g7 63 [i64 d.F,i64 d.B,i64 d.To]::aN 63 K a7 a9 J::aN 38 m j k b::box e 29 u::a0::x::Z::L) s2)=>(aAf (aH (cS (fun f w=>∃ (g8:Bool),gR p b J a6 d g8=some g1∧f 0=zP (some ⟨b1,0,none⟩)∧f 1=zS a30 y.length c31∧f 4=zP (some ⟨e,0,none⟩)∧f 6=zS j b.length k∧f 8=zS a7 J.length a9∧f 9=i64 a6∧f 10=zP (some ⟨g7,0,none⟩)∧f 62=zB g8∧aL G m (box g7 63 [i64 d.F,i64 d.B,i64 d.To]::aN 63 K a7 a9 J::aN 38 m j k b::box e 29 u::a0::x::Z::L) w) ?_ ?_))))))))
    ·rintro f a06 ⟨g8,a,f0,k4,k5,f1,k6,k7,g9,k8,k9⟩
     unfold gR at a
     refine aA ?_
     rcases aK a with ⟨h0,a⟩|⟨h0,a⟩
     ·refine aO h0 k8 ?_
      obtain ⟨a07,d7,h1,s3,s4⟩:=aL.lendB (i:=0) k9 rfl
      obtain ⟨a08,b5,h2,s5,s6⟩:=aL.lendS (i:=3) s3 (zL (zL f5 q) d7) rfl
      obtain ⟨h3,a1,l0,l1,s7⟩:=aL.lendB (i:=4) s5 rfl
      refine eQ (C:=fun w'=>∃ L',aL G h3 L' w') [(0,0),(1,0),(2,0),(3,0),(4,0),(5,0),(6,0),(7,0),(8,0),(9,0),(11,0),(12,0),(13,0),(14,0),(15,0),(16,0),(17,0),(18,0),(19,0),(20,0),(21,0),(10,1),(22,1),(23,0),(24,1),(25,1),(26,0)] bK (by kernel_rfl) (fun _ hg=>⟨_,aL.mono l1 hg⟩) (fun a09 s8=>?_)
      have r:=aL.mono l1 s8
      refine bS rfl (fun _ _=>aD k6) (bS rfl (fun _ _=>aD f1) (bS rfl (fun _ _=>aD f0) (bS rfl (fun _ _=>dJ rfl) (bS rfl (fun _ _=>bB (t':=2) pB rfl rfl) (bS rfl (fun _ ⟨_,r⟩=>bH (t:=2) qC r l0 rfl rfl) (bS rfl (fun _ _=>bB (t':=0) fY g9 rfl) (bS rfl (fun _ ⟨_,r⟩=>bH (t:=0) cP r (h1.mono (zL b5 a1)) rfl rfl) ?_)))))))
      obtain ⟨s9,h5,a⟩:=aI a
      have l2:=aCB (h2.mono a1) h5
      refine bS rfl (fun _ _=>dA fX rfl l2 rfl rfl rfl h5) ?_
      obtain ⟨a10,t0,t1⟩:=bT.el (sz:=1) rfl (h2.mono a1) h5
      obtain ⟨t2,t3,rfl,t4⟩:=t1
      refine bS rfl (fun _ ⟨_,r⟩=>bH (t:=0) mM r t0 rfl rfl) (bS rfl (fun _ _=>bB (t':=1) fP g9 rfl) (bS rfl (fun _ ⟨_,r⟩=>bH (t:=1) cP r (h1.mono (zL b5 a1)) rfl rfl) (bS rfl (fun _ _=>aD f1) (bS rfl (fun _ _=>aD f0) (bS rfl (fun _ _=>dJ rfl) (bS rfl (fun _ _=>bB (t':=2) pB rfl rfl) (bS rfl (fun _ ⟨_,r⟩=>bH (t:=2) qC r l0 rfl rfl) (bS rfl (fun _ _=>bB (t':=2) iB g9 rfl) (bS rfl (fun _ ⟨_,r⟩=>bH (t:=2) cP r (h1.mono (zL b5 a1)) rfl rfl) ?_)))))))))
      obtain ⟨t5,l3,a⟩:=aI a
      refine bS rfl (fun _ _=>dA fX rfl l2 rfl rfl rfl l3) ?_
      obtain ⟨a12,t6,t7⟩:=bT.el (sz:=1) rfl (h2.mono a1) l3
      obtain ⟨t8,t9,rfl,u0⟩:=t7
      refine bS rfl (fun _ ⟨_,r⟩=>bH (t:=0) mM r t6 rfl rfl) (lL rfl ?_)
      obtain ⟨a13,u1,u2,u3,u4⟩:=aL.lendS (i:=1) r (zL (zL d7 b5) a1) rfl
      obtain ⟨c8,u5,a⟩:=aI a
      refine aU (vs:=[zS j b.length k,zS t2 s9.length t3]) Tryz.call133 rfl (aAH u3 u2 (t4.mono u1) u5) ?_
      rintro _ a15 ⟨rfl,u6⟩
      have l4:=u4 _ _ u6
      refine aF (aA ⟨⟨_,l4⟩,?_⟩)
      refine lL rfl ?_
      obtain ⟨a16,u7,u8,u9,v0⟩:=aL.lendS (i:=0) l4 (zL (zL d7 b5) a1) rfl
      obtain ⟨d0,v1,a⟩:=aI a
      refine aU (vs:=[zS j b.length k,zS t8 t5.length t9]) Tryz.call133 rfl (aAH u9 u8 (u0.mono u7) v1) ?_
      rintro _ a18 ⟨rfl,v2⟩
      have l5:=v0 _ _ v2
      refine aF (aA ⟨⟨_,l5⟩,?_⟩)
      refine bS rfl (fun _ _=>kU (vs:=[(0,i64 c8),(1,i64 d.B),(2,i64 d0)]) (cs:=[i64 c8,i64 d.B,i64 d0]) bs_63 rfl (by kernel_rfl)) (lL rfl (dM (Kt:=K) (xs:=([⟨c8,d.B,d0⟩]:List Edge)) (cs:=[i64 c8,i64 d.B,i64 d0]) (vs:=[(0,zA #[i64 c8,i64 d.B,i64 d0])]) cR vQ rfl rfl l5 rfl (by kernel_rfl) rfl rfl rfl ⟨rfl,trivial⟩ (fun v3 v4 (l6:aL G h3 (aN 63 K v3 1 ([⟨c8,d.B,d0⟩]:List Edge)::aN 38 m j k b::aN 63 K a7 a9 J::box e 29 u::x::L) v4)=>(aF (aA ⟨⟨_,l6⟩,?_⟩)))))
      refine lL rfl ?_
      obtain ⟨h6,v5,a⟩:=aI a
      refine iY (i:=1) cR Tryz.underlying27 vQ rfl rfl l6 rfl (zL (zL (zL q d7) b5) a1) (zL (zL (zL q d7) b5) a1) v5 rfl rfl rfl rfl (fun _ h=>h) (fun h8 h9 v6 (l7:aL G h3 (aN 38 m j k b::aN 63 K h8 h9 h6::box e 29 u::x::L) v6)=>(aF (aA ⟨⟨_,l7⟩,?_⟩)))
      refine bS rfl (fun _ _=>aG (v:=zS h8 h6.length h9) rfl) (kB ?_)
      have v7:=s7 _ _ l7
      have v8:=s6 _ _ v7
      have v9:=s4 _ _ v8
      exact bG (aA ⟨h6,h8,h9,a,f0,k4,k5,f1,rfl,k7,(aL.arr 7 [4,3,5,1,6,2] v9 rfl)⟩)
     ·exact aM h0 k8 (aW (bG (aA ⟨J,a7,a9,a,f0,k4,k5,f1,k6,k7,(aL.arr 1 [] k9 rfl)⟩)))
    refine aC (aCv e6 (aB (bB (t':=0) fY rfl rfl) (aB (bR cP c7 (i:=0) rfl rfl rfl) ?_)))
    obtain ⟨w0,l8,a⟩:=aI a
    refine aB (cO fQ rfl (b9.mono q) rfl rfl rfl l8) ?_
    obtain ⟨a19,w1,w2⟩:=bT.el (sz:=1) rfl b9 l8
    cases w2
    refine aB (bH (t:=0) yE c7 (w1.mono q) rfl rfl) (aBl (v:=zB w0) ?_)
    rcases aK a with ⟨z,a⟩|⟨z,a⟩
    ·refine bE z rfl rfl (aCv e6 (bE z rfl rfl (aB (bB (t':=2) iB rfl rfl) (bE z rfl rfl (aB (bR cP c7 (i:=0) rfl rfl rfl) (bE z rfl rfl ?_))))))
     obtain ⟨l9,m0,a⟩:=aI a
     refine aB (cO fQ rfl (b9.mono q) rfl rfl rfl m0) ?_
     obtain ⟨a21,w3,w4⟩:=bT.el (sz:=1) rfl b9 m0
     cases w4
     exact bE z rfl rfl (aB (bH (t:=0) yE c7 (w3.mono q) rfl rfl) (aB (bI (v:=zB l9) z rfl rfl) (aAf ⟨l9,a,d5,e6,g2,g3,g4,e7,rfl,rfl,c7⟩)))
    ·exact aV z rfl rfl (aV z rfl rfl (aV z rfl rfl (aV z rfl rfl (aV z rfl rfl (aB (bJ (v:=zB false) z rfl rfl) (aAf ⟨false,a,d5,e6,g2,g3,g4,e7,rfl,rfl,c7⟩))))))
   ·refine aM g5 rfl (cB (aY (aY ?_)))
    have w5:=r2 _ (zI a).symm
    subst w5
    have c:(kZ o p b J)=some R:=c
    exact bO (aA ⟨J,a7,a9,c,d5,g2,g3,g4,c5⟩)
 obtain ⟨a22,w6,c⟩:=aI c
 refine cD w6 (fun (s:(List (List Int) × Int)) f w=>match s with|(b0,b6)=>∃ (b7:Hp) (d1:Option Addr) (d2:Nat),Hp.le K b7∧f 0=zP (some ⟨b1,0,none⟩)∧f 1=zS a30 y.length c31∧f 4=zP (some ⟨e,0,none⟩)∧f 6=zS d1 b0.length d2∧f 7=i64 b6∧aL G b7 (aN 38 b7 d1 d2 b0::box e 29 u::a0::x::Z::L) w) ?_ ?_
 ·exact ⟨K,f7,0,(zR _),rfl,rfl,rfl,rfl,rfl,n4⟩
 ·rintro ⟨b0,b6⟩ m1 f w7 l w8 ⟨b7,d1,d2,d8,d9,f2,i0,i1,e0,b2⟩
  replace l:gS p y b0 b6=some m1:=l
  unfold gS at l
  refine aH (aAZ (aCv e0 (aCv d9 (aB (dJ rfl) (aB (bB (t':=2) pB rfl rfl) (aB (bR qC b2 (i:=4) rfl rfl rfl) (aB (bQ (len:=p.length) fX rfl) (aB (cJ rfl rfl) (aAf ?_)))))))))
  rcases aK l with ⟨i2,l⟩|⟨i2,l⟩
  ·refine aO i2 rfl (aW (aA (aH (bD (fun f w=>∃ (e1:Hp) (e2:List (List Int)) (f3:Option Addr) (f4:Nat),Hp.le b7 e1∧jH b6 e2=some m1∧f 0=zP (some ⟨b1,0,none⟩)∧f 1=zS a30 y.length c31∧f 4=zP (some ⟨e,0,none⟩)∧f 6=zS f3 e2.length f4∧f 7=i64 b6∧aL G e1 (aN 38 e1 f3 f4 e2::box e 29 u::a0::x::Z::L) w) ?_ ?_))))
   ·rintro f a24 ⟨e1,e2,f3,f4,w9,l,x0,x1,x2,x3,x4,x5⟩
    unfold jH at l
    exact aA (aC (aCv x4 (aB (cX rfl rfl) (pM (v:=i64 (wr (b6+1))) (aAf ⟨(e2,wr (b6+1)),(zI l).symm,e1,f3,f4,(zL d8 w9),x0,x1,x2,x3,rfl,x5⟩)))))
   refine aAZ (aCv f2 (aCv e0 ?_))
   obtain ⟨a25,m2,l⟩:=aI l
   refine aB (cO fQ rfl (b9.mono d8) rfl rfl rfl m2) ?_
   obtain ⟨a27,x6,x7⟩:=bT.el (sz:=1) rfl b9 m2
   cases x7
   refine aB (bH (t:=0) yE b2 (x6.mono d8) rfl rfl) (aAf ?_)
   rcases aK l with ⟨i3,l⟩|⟨i3,l⟩
   ·refine aO i3 rfl (aC (aCv i1 (aCv d9 (aB (dJ rfl) (aB (bB (t':=2) pB rfl rfl) (aB (bR qC b2 (i:=4) rfl rfl rfl) (aCv e0 ?_)))))))
    obtain ⟨m3,i4,l⟩:=aI l
    have x8:=cG b2 (i:=2) rfl i4
    refine aB (dA fX rfl x8 rfl rfl rfl i4) ?_
    obtain ⟨a29,x9,y0⟩:=aBc (sz:=1) rfl b2 (i:=2) rfl i4
    obtain ⟨m4,m5,rfl,y1⟩:=y0
    refine aB (aEa (t:=0) (v:=zS m4 m3.length m5) mM x9 rfl rfl) ?_
    obtain ⟨i5,m6,y2,i6⟩:=aL.giveS (i:=0) b2 (zR _) rfl
    replace i6:aL G i5 (box e 29 u::a0::x::Z::L) w7:=i6
    obtain ⟨m7,y3,l⟩:=aI l
    refine aU (vs:=[zS d1 b0.length d2,zS m4 m3.length m5]) Tryz.call139 rfl (aGP (Kf:=i5) i6 (zR _) y2 (y1.mono (zL (zL f5 d8) m6)) y3) ?_
    rintro _ a31 ⟨m8,m9,rfl,y4⟩
    exact pM (v:=zS m8 m7.length m9) (aF (bG (aA ⟨i5,m7,m8,m9,m6,l,d9,f2,i0,rfl,e0,y4⟩)))
   ·exact aM i3 rfl (aW (bG (aA ⟨b7,b0,d1,d2,(zR _),l,d9,f2,i0,i1,e0,b2⟩)))
  ·refine aM i2 rfl (cB (aY (aY ?_)))
   have y5:=w8 _ (zI l).symm
   subst y5
   have c:(lA o p V y b0)=some R:=c
   exact bO (aA ⟨b7,b0,d1,d2,d8,c,d9,f2,i0,i1,b2⟩)
theorem qG {p:cA} {m:dB} {R:(dB × Int)} (hs:aL G K (L) w) (h3:bT K a1 c2 p.S.L) (h6:bT K a4 c5 p.S.E) (h9:bT K a7 c8 p.M) (c0:bT K a10 c11 p.C) (c1:bT K a13 c14 m.L) (c3:bT K a16 c17 m.E) (a:uK p m=some R):
  Calls Tryz.prog 16 ([zA (zEa p a1 c2 a4 c5 a7 c8 a10 c11),zA (zCa m a13 c14 a16 c17)]:List Value).toArray w (fV fun v w'=>∃ (e7:Option Addr) (e8:Nat) (e9:Option Addr) (f0:Nat),v=Value.tuple #[zA (zCa R.1 e7 e8 e9 f0),i64 R.2]∧aL G K (aN 9 K e7 e8 R.1.L::aN 63 K e9 f0 R.1.E::L) w'):=by
 let k:=zG
 let d3:=(zE p a1 c2 a4 c5 a7 c8 a10 c11)
 let c4:=(zC m a13 c14 a16 c17)
 refine aT Tryz.func16 rfl (by kernel_rfl) (by show (2:Nat)≤38;decide) ?_
 unfold uK at a
 refine aAZ (dW (v:=zA (zEa p a1 c2 a4 c5 a7 c8 a10 c11)) (vs:=d3) hs rfl rfl (fun z o9 g9=>(dW (v:=zA (zCa m a13 c14 a16 c17)) (vs:=c4) g9 rfl rfl (fun o p0 h0=>(cF (vs:=k) Tryz.zeroValue29 h0 rfl (fun J p1 h1=>(pM (v:=i64 0) (aAf (aH (aH (cS (fun f w=>∃ (d4:Bool),pD p m d4=some R∧f 2=zP (some ⟨z,0,none⟩)∧f 3=zP (some ⟨o,0,none⟩)∧f 4=zP (some ⟨J,0,none⟩)∧f 15=zB d4∧aL G K (box J 29 k::box o 29 c4::box z 44 d3::L) w) ?_ ?_)))))))))))
 ·rintro f f1 ⟨d4,a,h2,h4,V,f2,f3⟩
  unfold pD at a
  refine aA ?_
  rcases aK a with ⟨d5,a⟩|⟨d5,a⟩
  ·refine aO d5 f2 (aAZ (aB (kU (vs:=[]) (cs:=k) aEz rfl (by kernel_rfl)) (cC (i:=0) (ns:=k) (us:=k) Tryz.sizeOf29 f3 rfl V rfl rfl rfl (dL rfl) rfl rfl (fun h5 (h7:aL G K (box J 29 k::box o 29 c4::box z 44 d3::L) h5)=>(pM (v:=i64 1) (aAf ?_))))))
   have h8:=aL.nil (α:=aZ) h7 9 K
   have f4:=aL.nil (α:=Edge) h8 63 K
   cases zI a
   exact bF (aS (aBo Tryz.results16 (kW (vs:=k) rfl fD f4 (i:=2) rfl V rfl) (wY rfl rfl) ⟨none,0,none,0,rfl,(aL.arr 5 [1,0] f4 rfl)⟩))
  ·refine aM d5 f2 (aW (aA (aAZ ?_)))
   obtain ⟨i1,e,d6,d7,_⟩:=aL.lendB (i:=2) f3 rfl
   replace d7:aL G i1 (box J 29 k::box o 29 c4::L) f1:=d7
   obtain ⟨i2,b,d8,d9,_⟩:=aL.lendB (i:=1) d7 rfl
   replace d9:aL G i2 (box J 29 k::L) f1:=d9
   obtain ⟨c,i3,a⟩:=aI a
   refine aU (vs:=[bY (some ⟨z,0,none⟩) 0,bY (some ⟨o,0,none⟩) 0]) Tryz.call57 (lst2 (aFu h2) (aFu h4)) (aHE d9 (d6.mono b) (h3.mono (zL e b)) (h6.mono (zL e b)) (h9.mono (zL e b)) (c0.mono (zL e b)) d8 (c1.mono (zL e b)) (c3.mono (zL e b)) i3) ?_
   rintro _ p2 ⟨a6,q,r,u,x,y,rfl,j,e0⟩
   refine pM (v:=zP (some ⟨y,0,none⟩)) (aAf (aH (aAZ (aBl (v:=zP (some ⟨y,0,none⟩)) (aB (dJ rfl) (aB (bB (t':=4) aKO rfl rfl) (aB (bR yE e0 (i:=2) rfl rfl rfl) (aAf ?_))))))))
   rcases aK a with ⟨e1,a⟩|⟨e1,a⟩
   ·refine aO e1 rfl (aAZ (aB (kU (vs:=[]) (cs:=k) aEz rfl (by kernel_rfl)) (cC (i:=3) (ns:=k) (us:=k) Tryz.sizeOf29 e0 rfl V rfl rfl rfl (dL rfl) rfl rfl (fun i4 (i5:aL G a6 (aN 38 a6 q r c.1::aN 63 K u x c.2.1::box y 86 [bY (some ⟨z,0,none⟩) 0,bY (some ⟨o,0,none⟩) 0,zS q c.1.length r,zS u c.2.1.length x,zB c.2.2]::box J 29 k::L) i4)=>(pM (v:=i64 5) (aAf ?_))))))
    have i6:=aL.nil (α:=aZ) i5 9 K
    have f5:=aL.nil (α:=Edge) i6 63 K
    cases zI a
    exact bF (aS (aBo Tryz.results16 (kW (vs:=k) rfl fD f5 (i:=5) rfl V rfl) (wY rfl rfl) ⟨none,0,none,0,rfl,(aL.weakK (aL.arr 6 [1,0] f5 rfl) (zL (zL e b) j))⟩))
   ·refine aM e1 rfl (aW (aA (aAZ (aBl (v:=zP (some ⟨y,0,none⟩)) ?_))))
    obtain ⟨b4,i8,a⟩:=aI a
    refine aU (vs:=[zP (some ⟨y,0,none⟩)]) Tryz.call58 rfl (aGp (Kf:=a6) e0 (zR _) (d6.mono (zL b j)) (h3.mono (zL (zL e b) j)) (h6.mono (zL (zL e b) j)) (h9.mono (zL (zL e b) j)) (c0.mono (zL (zL e b) j)) (d8.mono j) (c1.mono (zL (zL e b) j)) (c3.mono (zL (zL e b) j)) i8) ?_
    rintro _ f6 ⟨b5,b6,rfl,c6⟩
    refine pM (v:=zS b5 b4.length b6) (aAf (aH (aAZ (aBl (v:=zS b5 b4.length b6) ?_))))
    obtain ⟨p3,e2,a⟩:=aI a
    have i9:=cG c6 (i:=0) rfl e2
    refine aB (dA fQ rfl i9 rfl rfl rfl e2) (aB (kA (t:=0) yE c6 (i:=0) rfl e2 rfl rfl rfl) (aB (dY rfl) (aAf ?_)))
    rcases aK a with ⟨e3,a⟩|⟨e3,a⟩
    ·refine aO e3 rfl (aAZ (aB (kU (vs:=[]) (cs:=k) aEz rfl (by kernel_rfl)) (cC (i:=4) (ns:=k) (us:=k) Tryz.sizeOf29 c6 rfl V rfl rfl rfl (dL rfl) rfl rfl (fun j0 (j1:aL G a6 (aN 4 K b5 b6 b4::aN 38 a6 q r c.1::aN 63 K u x c.2.1::box y 86 [bY (some ⟨z,0,none⟩) 0,bY (some ⟨o,0,none⟩) 0,zS q c.1.length r,zS u c.2.1.length x,zB c.2.2]::box J 29 k::L) j0)=>(pM (v:=i64 3) (aAf ?_))))))
     have j2:=aL.nil (α:=aZ) j1 9 K
     have f7:=aL.nil (α:=Edge) j2 63 K
     cases zI a
     exact bF (aS (aBo Tryz.results16 (kW (vs:=k) rfl fD f7 (i:=6) rfl V rfl) (wY rfl rfl) ⟨none,0,none,0,rfl,(aL.weakK (aL.arr 7 [1,0] f7 rfl) (zL (zL e b) j))⟩))
    ·refine aM e3 rfl (aW (aA (aAZ (aBl (v:=zP (some ⟨y,0,none⟩)) (aBl (v:=zS b5 b4.length b6) ?_)))))
     obtain ⟨a8,n,j4,e4⟩:=aL.giveS (i:=0) c6 (zL (zL e b) j) rfl
     replace e4:aL G a8 (aN 38 a6 q r c.1::aN 63 K u x c.2.1::box y 86 [bY (some ⟨z,0,none⟩) 0,bY (some ⟨o,0,none⟩) 0,zS q c.1.length r,zS u c.2.1.length x,zB c.2.2]::box J 29 k::L) f6:=e4
     have j5:aL G a8 (aN 38 a8 q r c.1::aN 63 K u x c.2.1::box y 86 [bY (some ⟨z,0,none⟩) 0,bY (some ⟨o,0,none⟩) 0,zS q c.1.length r,zS u c.2.1.length x,zB c.2.2]::box J 29 k::L) f6:=aL.weak (i:=0) e4 rfl (fun _ h=>aN.mono n h)
     obtain ⟨d,j6,a⟩:=aI a
     refine aU (vs:=[zP (some ⟨y,0,none⟩),zS b5 b4.length b6]) Tryz.call59 rfl (aCP (Kf:=a8) j5 (zR _) (d6.mono (zL (zL b j) n)) (h3.mono (zL (zL (zL e b) j) n)) (h6.mono (zL (zL (zL e b) j) n)) (h9.mono (zL (zL (zL e b) j) n)) (c0.mono (zL (zL (zL e b) j) n)) (d8.mono (zL j n)) (c1.mono (zL (zL (zL e b) j) n)) (c3.mono (zL (zL (zL e b) j) n)) j4 j6) ?_
     rintro _ p4 ⟨c7,Z,a0,a2,a3,c9,d0,rfl,a9,j7⟩
     refine aBl (v:=Value.tuple #[zA (zCa d.1 Z a0 a2 a3),zS c9 d.2.length d0]) (aB (bV rfl rfl) (aB (bV rfl rfl) (cF (vs:=k) Tryz.zeroValue29 j7 rfl (fun d1 p5 j8=>(cC (i:=0) (ns:=(zC d.1 Z a0 a2 a3)) (us:=(zC d.1 Z a0 a2 a3)) Tryz.sizeOf29 j8 rfl rfl rfl rfl rfl (dL rfl) rfl rfl (fun j9 (k0:aL G c7 (box d1 29 (zC d.1 Z a0 a2 a3)::aN 9 K Z a0 d.1.L::aN 63 K a2 a3 d.1.E::aN 38 c7 c9 d0 d.2::aN 38 a8 q r c.1::aN 63 K u x c.2.1::box y 86 [bY (some ⟨z,0,none⟩) 0,bY (some ⟨o,0,none⟩) 0,zS q c.1.length r,zS u c.2.1.length x,zB c.2.2]::box J 29 k::L) j9)=>(pM (v:=zS c9 d.2.length d0) (aAf (aAZ ?_)))))))))
     obtain ⟨p6,k1,k2,k3,k4⟩:=aL.lendS (i:=1) k0 (zL (zL (zL (zL e b) j) n) a9) rfl
     obtain ⟨p7,k5,k6,k7,k8⟩:=aL.lendS (i:=1) k3 (zL (zL (zL (zL (zL e b) j) n) a9) k1) rfl
     obtain ⟨p8,f8,k9,l0,l1⟩:=aL.lendB (i:=0) k7 rfl
     obtain ⟨f9,l2,a⟩:=aI a
     refine aU (vs:=[bY (some ⟨d1,0,none⟩) 0]) Tryz.call25 rfl (aHy l0 k9 (k2.mono (zL k5 f8)) (k6.mono f8) l2) ?_
     rintro _ p9 ⟨g0,g1,rfl,l3⟩
     have l4:=l1 _ _ l3
     have l5:=k8 _ _ l4
     have l6:=k4 _ _ l5
     obtain ⟨q0,g2,l7,l8,l9⟩:=aL.lendS (i:=0) l6 (zL (zL (zL (zL e b) j) n) a9) rfl
     obtain ⟨q1,g3,m0,m1,m2⟩:=aL.lendS (i:=0) l8 (zL (zL (zL (zL (zL e b) j) n) a9) g2) rfl
     obtain ⟨q2,e5,m3,m4,m5⟩:=aL.lendB (i:=0) m1 rfl
     obtain ⟨q3,e6,m6,m7,m8⟩:=aL.lendS (i:=0) m4 (zL (zL (zL (zL (zL (zL (zL e b) j) n) a9) g2) g3) e5) rfl
     obtain ⟨l,m9,a⟩:=aI a
     refine aU (vs:=[bY (some ⟨d1,0,none⟩) 0,zS g0 f9.length g1]) Tryz.call24 rfl (aIw m7 (m3.mono e6) (l7.mono (zL (zL g3 e5) e6)) (m0.mono (zL e5 e6)) m6 m9) ?_
     rintro _ q4 ⟨b0,b1,b2,b3,rfl,n0⟩
     have n1:=m8 _ _ n0
     have n2:=m5 _ _ n1
     have n3:=m2 _ _ n2
     have n4:=l9 _ _ n3
     refine cC (i:=10) (ns:=(zC l b0 b1 b2 b3)) (us:=(zC l b0 b1 b2 b3)) Tryz.sizeOf29 n4 rfl V rfl rfl rfl (dL rfl) rfl rfl (fun n5 (g4:aL G c7 (aN 9 K Z a0 d.1.L::aN 63 K a2 a3 d.1.E::box d1 29 (zC d.1 Z a0 a2 a3)::aN 2 K g0 g1 f9::aN 9 K b0 b1 l.L::aN 63 K b2 b3 l.E::aN 38 c7 c9 d0 d.2::aN 38 a8 q r c.1::aN 63 K u x c.2.1::box y 86 [bY (some ⟨z,0,none⟩) 0,bY (some ⟨o,0,none⟩) 0,zS q c.1.length r,zS u c.2.1.length x,zB c.2.2]::box J 29 (zC l b0 b1 b2 b3)::L) n5)=>(pM (v:=i64 0) (aAf ?_)))
     cases zI a
     exact bF (aBo Tryz.results16 (kW (vs:=(zC l b0 b1 b2 b3)) rfl fD g4 (i:=10) rfl V rfl) (wY rfl rfl) ⟨b0,b1,b2,b3,rfl,(aL.weakK (aL.arr 11 [4,5] g4 rfl) (zL (zL (zL (zL e b) j) n) a9))⟩)
 refine aC ?_
 obtain ⟨q5,d2,n7,n8,n9⟩:=aL.lendB (i:=2) h1 rfl
 obtain ⟨o0,o1,a⟩:=aI a
 refine aU (vs:=[bY (some ⟨z,0,none⟩) 0]) Tryz.call55 rfl (aKS n8 n7 (h3.mono d2) (h6.mono d2) (h9.mono d2) (c0.mono d2) o1) ?_
 rintro _ q6 ⟨rfl,o2⟩
 have g5:=n9 _ _ o2
 refine aB (dY rfl) (aBl (v:=zB (!o0)) ?_)
 rcases aK a with ⟨a5,a⟩|⟨a5,a⟩
 ·exact bA a5 rfl rfl (bA a5 rfl rfl (aB (bI (v:=zB true) a5 rfl rfl) (aAf ⟨true,a,rfl,rfl,rfl,rfl,(aL.arr 3 [1,2,0] g5 rfl)⟩)))
 ·refine bM a5 rfl rfl ?_
  obtain ⟨q7,g6,o3,o4,o5⟩:=aL.lendB (i:=2) g5 rfl
  obtain ⟨g7,o6,a⟩:=aI a
  refine aU (vs:=[bY (some ⟨o,0,none⟩) 0]) Tryz.call56 rfl (aEL o4 o3 (c1.mono g6) (c3.mono g6) o6) ?_
  rintro _ q8 ⟨rfl,o7⟩
  have o8:=o5 _ _ o7
  exact bM a5 rfl rfl (aB (dY rfl) (aB (bJ (v:=zB (!g7)) a5 rfl rfl) (aAf ⟨!g7,a,rfl,rfl,rfl,rfl,(aL.arr 3 [2,0,1] o8 rfl)⟩)))
theorem aHH {a R:(List Int)} (hs:aL G K (L) w) (x:bT K a1 c2 a) (d:aCj a=some R):
  Calls Tryz.prog 60 ([zS a1 a.length c2]:List Value).toArray w (fV fun v w'=>∃ (y:Option Addr) (z:Nat),v=zS y R.length z∧aL G K (aN 2 K y z R::L) w'):=by
 refine aT Tryz.func60 rfl (by kernel_rfl) (by show (1:Nat)≤22;decide) ?_
 unfold aCj at d
 refine aAZ (pM (v:=zS none 0 0) (aAf (aAZ (aBl (v:=zS a1 a.length c2) (aB (bQ (len:=a.length) bW rfl) ?_)))))
 obtain ⟨c,q5,d⟩:=aI d
 refine aFt (e:=(0:Int)) bW tU rfl rfl hs rfl rfl rfl q5 rfl (fun g w7 (a5:aL G K (aN 2 K g c.length c::L) w7)=>(pM (v:=zS g c.length c.length) (aAf (aH (aAZ (pM (v:=i64 0) (aAf (bD (fun f w=>∃ (k:List Int),aAD k=some R∧f 3=zS g k.length c.length∧aL G K (aN 2 K g c.length k::L) w) ?_ ?_))))))))
 ·rintro f b9 ⟨k,d,a7,a8⟩
  unfold aAD at d
  refine aA (aAZ (aCv a7 (pM (v:=zS g k.length c.length) (aAf ?_))))
  cases zI d
  exact bF (bC Tryz.results60 rfl ⟨g,c.length,rfl,a8⟩)
 obtain ⟨c0,b0,d⟩:=aI d
 refine cD b0 (fun (s:(List Int × Int)) f w=>match s with|(j,l)=>f 0=zS a1 a.length c2∧f 3=zS g j.length c.length∧f 4=i64 l∧aL G K (aN 2 K g c.length j::L) w) ?_ ?_
 ·exact ⟨rfl,rfl,rfl,a5⟩
 ·rintro ⟨j,l⟩ b1 f c1 b b2 ⟨p,q,m,o⟩
  replace b:wK a j l=some b1:=b
  unfold wK at b
  refine aH (aAZ (aCv m (aCv p (aB (bQ (len:=a.length) bW rfl) (aB (cJ rfl rfl) (aAf ?_))))))
  rcases aK b with ⟨r,b⟩|⟨r,b⟩
  ·refine aO r rfl (aW (aA (aH (cU (aC (aCv q (aCv m (aCv p (aCv m ?_)))))))))
   obtain ⟨J,V,b⟩:=aI b
   refine aB (cO bW rfl x rfl rfl rfl V) ?_
   obtain ⟨c3,b3,b4⟩:=bT.el (sz:=1) rfl x V
   cases b4
   refine aB (bH (t:=0) cP o b3 rfl rfl) ?_
   obtain ⟨c4,u,b⟩:=aI b
   have b5:=cG o (i:=0) rfl u
   refine aB (dA bW rfl b5 rfl rfl rfl u) ?_
   obtain ⟨Z,a0,b⟩:=aI b
   exact kV (i:=0) (t:=0) (ns:=[i64 J]) (e':=(J:Int)) Tryz.sizeOf2 o rfl (zR _) rfl rfl rfl u a0 rfl rfl (dL rfl) rfl (fun cs h=>by cases h;rfl) (fun b6 (b7:aL G K (aN 2 K g c.length Z::L) b6)=>(aF (bG (aA (aC (aCv m (aB (cX rfl rfl) (pM (v:=i64 (wr (l+1))) (aAf ⟨(Z,wr (l+1)),(zI b).symm,p,(Eq.trans q (congrArg (fun n=>zS g n c.length) (iN a0))),rfl,b7⟩)))))))))
  ·refine aM r rfl (cB (aY (aY ?_)))
   have b8:=b2 _ (zI b).symm
   subst b8
   have d:(aAD j)=some R:=d
   exact bO (aA ⟨j,d,q,o⟩)
theorem rB {a R:cA} (hs:aL G K (L) w) (h3:bT K a1 c2 a.S.L) (h6:bT K a4 c5 a.S.E) (h9:bT K a7 c8 a.M) (b4:bT K a10 c11 a.C) (o:xV a=some R):
  Calls Tryz.prog 17 ([zA (zEa a a1 c2 a4 c5 a7 c8 a10 c11)]:List Value).toArray w (fV fun v w'=>∃ (x:Option Addr) (y:Nat) (z:Option Addr) (J:Nat) (V:Option Addr) (Z:Nat) (a0:Option Addr) (a2:Nat),v=zA (zEa R x y z J V Z a0 a2)∧aL G K (aN 9 K x y R.S.L::aN 63 K z J R.S.E::aN 2 K V Z R.M::aN 9 K a0 a2 R.C::L) w'):=by
 let p:=(zE a a1 c2 a4 c5 a7 c8 a10 c11)
 let q:=zK
 refine aT Tryz.func17 rfl (by kernel_rfl) (by show (1:Nat)≤17;decide) ?_
 unfold xV at o
 refine aAZ (dW (v:=zA (zEa a a1 c2 a4 c5 a7 c8 a10 c11)) (vs:=p) hs rfl rfl (fun r d1 b5=>(cF (vs:=q) Tryz.zeroValue44 b5 rfl (fun t d2 b6=>(aAf (aAZ (cF (vs:=q) Tryz.zeroValue44 b6 rfl (fun u d3 a3=>(aAf (aAZ (aB (bB (t':=0) fa_40_0 rfl rfl) (aB (dK (us:=(zC a.S a1 c2 a4 c5)) aIk a3 (i:=2) rfl rfl rfl rfl) ?_))))))))))))
 obtain ⟨b,b7,o⟩:=aI o
 refine aU (vs:=[zA (zCa a.S a1 c2 a4 c5)]) Tryz.call8 rfl (nT a3 h3 h6 b7) ?_
 rintro _ d4 ⟨c,d,e,g,rfl,b8⟩
 refine aB (bB (t':=0) iZ rfl rfl) (cC (i:=2) (ns:=(zC b c d e g)) (us:=[i64 b.N,i64 b.I,zS c b.L.length d,zS e b.E.length g,zS none 0 0,zS none 0 0]) Tryz.sizeOf29 b8 rfl rfl rfl rfl rfl (dL rfl) rfl rfl (fun b9 (a5:aL G K (aN 9 K c d b.L::aN 63 K e g b.E::box u 44 [i64 b.N,i64 b.I,zS c b.L.length d,zS e b.E.length g,zS none 0 0,zS none 0 0]::box t 44 q::box r 40 p::L) b9)=>(aAf (aAZ (aB (bB (t':=4) fa_40_1 rfl rfl) (aB (bR mM a5 (i:=4) rfl rfl rfl) ?_))))))
 obtain ⟨k,c0,o⟩:=aI o
 refine aU (vs:=[zS a7 a.M.length c8]) Tryz.call60 rfl (aHH a5 h9 c0) ?_
 rintro _ d5 ⟨h,j,rfl,c1⟩
 refine aB (bB (t':=4) aAr rfl rfl) (cC (i:=3) (ns:=[zS h k.length j]) (us:=[i64 b.N,i64 b.I,zS c b.L.length d,zS e b.E.length g,zS h k.length j,zS none 0 0]) Tryz.sizeOf38 c1 rfl rfl rfl rfl rfl (dL rfl) rfl rfl (fun c3 (a6:aL G K (aN 2 K h j k::aN 9 K c d b.L::aN 63 K e g b.E::box u 44 [i64 b.N,i64 b.I,zS c b.L.length d,zS e b.E.length g,zS h k.length j,zS none 0 0]::box t 44 q::box r 40 p::L) c3)=>(aAf (aAZ (aB (bB (t':=5) fa_40_2 rfl rfl) (aB (bR jJ a6 (i:=5) rfl rfl rfl) ?_))))))
 obtain ⟨n,c4,o⟩:=aI o
 refine aU (vs:=[zS a10 a.C.length c11]) Tryz.call29 rfl (aDv a6 b4 c4) ?_
 rintro _ d6 ⟨l,m,rfl,c6⟩
 refine aB (bB (t':=5) aBp rfl rfl) (cC (i:=4) (ns:=[zS l n.length m]) (us:=[i64 b.N,i64 b.I,zS c b.L.length d,zS e b.E.length g,zS h k.length j,zS l n.length m]) Tryz.sizeOf22 c6 rfl rfl rfl rfl rfl (dL rfl) rfl rfl (fun c7 (a8:aL G K (aN 9 K l m n::aN 2 K h j k::aN 9 K c d b.L::aN 63 K e g b.E::box u 44 [i64 b.N,i64 b.I,zS c b.L.length d,zS e b.E.length g,zS h k.length j,zS l n.length m]::box t 44 q::box r 40 p::L) c7)=>(aAf (aAZ (aB (dK (us:=[i64 b.N,i64 b.I,zS c b.L.length d,zS e b.E.length g,zS h k.length j,zS l n.length m]) xF a8 (i:=4) rfl rfl rfl rfl) (cC (i:=5) (ns:=[i64 b.N,i64 b.I,zS c b.L.length d,zS e b.E.length g,zS h k.length j,zS l n.length m]) (us:=[i64 b.N,i64 b.I,zS c b.L.length d,zS e b.E.length g,zS h k.length j,zS l n.length m]) Tryz.sizeOf44 a8 rfl rfl rfl rfl rfl (dL rfl) rfl rfl (fun c9 (a9:aL G K (aN 9 K l m n::aN 2 K h j k::aN 9 K c d b.L::aN 63 K e g b.E::box u 44 [i64 b.N,i64 b.I,zS c b.L.length d,zS e b.E.length g,zS h k.length j,zS l n.length m]::box t 44 [i64 b.N,i64 b.I,zS c b.L.length d,zS e b.E.length g,zS h k.length j,zS l n.length m]::box r 40 p::L) c9)=>(aAf ?_))))))))
 cases zI o
 exact bF (aDN Tryz.results17 (kW (vs:=[i64 b.N,i64 b.I,zS c b.L.length d,zS e b.E.length g,zS h k.length j,zS l n.length m]) rfl xF a9 (i:=5) rfl rfl rfl) ⟨c,d,e,g,h,j,l,m,rfl,(aL.arr 7 [2,3,1,0] a9 rfl)⟩)
theorem oL {d:(List Int)} {e R:Int} (q:aL G K (L) w) (k:bT K a1 c2 d) (b:fG d e=some R):
  Calls Tryz.prog 83 ([zS a1 d.length c2,i64 e]:List Value).toArray w (fV fun v w'=>v=i64 R∧aL G K (L) w'):=by
 refine aT Tryz.func83 rfl (by kernel_rfl) (by show (2:Nat)≤19;decide) ?_
 unfold fG at b
 refine aAZ (pM (v:=i64 0) (aAf (aH (aAZ (aBl (v:=zS a1 d.length c2) (aB (bQ (len:=d.length) bW rfl) (aBl (v:=i64 0) (aAf (bD (fun f w=>iT=some R∧aL G K (L) w) ?_ ?_)))))))))
 ·rintro f w4 ⟨b,r⟩
  unfold iT at b
  refine aA (aAZ (pM (v:=i64 (-1)) (aAf ?_)))
  cases zI b
  exact bF (bC Tryz.results83 rfl ⟨rfl,r⟩)
 obtain ⟨a3,x,b⟩:=aI b
 refine cD x (fun (c:Int) f w=>f 0=zS a1 d.length c2∧f 1=i64 e∧f 7=i64 (d.length:Int)∧f 8=i64 c∧aL G K (L) w) ?_ ?_
 ·exact ⟨rfl,rfl,rfl,rfl,q⟩
 ·rintro c y f a4 a l ⟨m,n,o,h,g⟩
  replace a:eI d e c=some y:=a
  unfold eI at a
  refine aAZ (aB (cJ h o) (aAf (aH ?_)))
  rcases aK a with ⟨i,a⟩|⟨i,a⟩
  ·refine aO i rfl (aW (aA (aH (cU (aAZ (aCv h (pM (v:=i64 c) (aAf (aAZ (aCv n (aCv m (aBl (v:=i64 c) ?_))))))))))))
   obtain ⟨a5,p,a⟩:=aI a
   refine aB (cO bW rfl k rfl rfl rfl p) ?_
   obtain ⟨a6,z,J⟩:=bT.el (sz:=1) rfl k p
   cases J
   refine aB (bH (t:=0) cP g z rfl rfl) (aB (oY rfl rfl) (aAf ?_))
   rcases aK a with ⟨j,a⟩|⟨j,a⟩
   ·refine aO j rfl (aAZ (aBl (v:=i64 c) (pM (v:=i64 c) (aAf (bF (bN (aS (aS ?_))))))))
    have V:=l _ (zI a).symm
    subst V
    have b:(some c)=some R:=b
    cases zI b
    exact bN (aS (aS (bC Tryz.results83 rfl ⟨rfl,g⟩)))
   ·exact aM j rfl (aW (bG (aA (aC (aB (cX h rfl) (aBl (v:=i64 (wr (c+1))) (aAf ⟨wr (c+1),(zI a).symm,m,n,o,rfl,g⟩)))))))
  ·refine aM i rfl (cB (aY (aY ?_)))
   have a0:=l _ (zI a).symm
   subst a0
   have b:(iT)=some R:=b
   exact bO (aA ⟨b,g⟩)
theorem sB {k:Int} {p:(List Int)} {b:Nat} {R:Int} (c:aL G K (L) w) (d:fW K a1 b [zS a4 p.length c5]) (e:bT K a4 c5 p) (a:pT k p=some R):
  Calls Tryz.prog 82 ([i64 k,bY a1 b]:List Value).toArray w (fV fun v w'=>v=i64 R∧aL G K (L) w'):=by
 refine aT Tryz.func82 rfl (by kernel_rfl) (by show (2:Nat)≤7;decide) ?_
 unfold pT at a
 refine aAZ (pM (v:=i64 0) (aAf (aAZ (aB (bH (t:=0) mM c d rfl rfl) (aBl (v:=i64 k) ?_)))))
 obtain ⟨g,h,a⟩:=aI a
 refine aU (vs:=[zS a4 p.length c5,i64 k]) Tryz.call83 rfl (oL c e h) ?_
 rintro _ l ⟨rfl,i⟩
 refine pM (v:=i64 g) (aAf ?_)
 cases zI a
 exact bF (bC Tryz.results82 rfl ⟨rfl,i⟩)
theorem cM {b R:(List aZ)} (e:aL G K (L) w) (g:bT K a1 c2 b) (a:dD b=some R):
  Calls Tryz.prog 84 ([zS a1 b.length c2]:List Value).toArray w (fV fun v w'=>∃ (h:Option Addr) (j:Nat),v=zS h R.length j∧aL G K (aN 9 K h j R::L) w'):=by
 refine aT Tryz.func84 rfl (by kernel_rfl) (by show (1:Nat)≤8;decide) ?_
 unfold dD at a
 refine aAZ (pM (v:=zS none 0 0) (aAf (aH (aAZ (aBl (v:=zS a1 b.length c2) (aB (aKM cY rfl rfl) (aAf ?_)))))))
 rcases aGG g with ⟨l,m,n⟩|o
 ·subst l;subst m;subst n
  refine aHY rfl ?_
  replace a:(some [])=some R:=a
  refine aAZ (pM (v:=zS none 0 0) (aAf ?_))
  have p:=aL.nil (α:=aZ) e 9 K
  cases zI a
  exact bF (aS (bC Tryz.results84 rfl ⟨none,0,rfl,p⟩))
 ·refine aHZ (Eq.trans rfl (congrArg zB o)) (aW (aA (aAZ (dM (Kt:=K) (xs:=([]:List aZ)) (cs:=[]) (vs:=[]) cY yD rfl rfl e rfl (by kernel_rfl) rfl rfl rfl trivial (fun r t (u:aL G K (aN 9 K r 0 ([]:List aZ)::L) t)=>(aBl (v:=zS a1 b.length c2) ?_))))))
  obtain ⟨k,x,a⟩:=aI a
  refine aEv (i:=0) cY Tryz.underlying22 yD rfl rfl u rfl (zR _) g x rfl rfl rfl rfl (fun c d y (z:aL G K (aN 9 K c d k::L) y)=>(pM (v:=zS c k.length d) (aAf ?_)))
  cases zI a
  exact bF (bC Tryz.results84 rfl ⟨c,d,rfl,z⟩)
theorem aHI {t:dB} {a:(List Int)} {R:dB} (hs:aL G K (L) w) (h3:bT K a1 c2 t.L) (h6:bT K a4 c5 t.E) (h9:bT K a7 c8 a) (l:aCk t a=some R):
  Calls Tryz.prog 32 ([zA (zCa t a1 c2 a4 c5),zS a7 a.length c8]:List Value).toArray w (fV fun v w'=>∃ (f8:Option Addr) (f9:Nat) (g0:Option Addr) (g1:Nat),v=zA (zCa R f8 f9 g0 g1)∧aL G K (aN 9 K f8 f9 R.L::aN 63 K g0 g1 R.E::L) w'):=by
 let p:=zG
 let c4:=(zC t a1 c2 a4 c5)
 let z:=[zS a7 a.length c8]
 let e0:=[zS a1 t.L.length c2]
 refine aT Tryz.func32 rfl (by kernel_rfl) (by show (2:Nat)≤58;decide) ?_
 unfold aCk at l
 refine aAZ (dW (v:=zA (zCa t a1 c2 a4 c5)) (vs:=c4) hs rfl rfl (fun c6 q9 j3=>(dW (v:=zS a7 a.length c8) (vs:=z) j3 rfl rfl (fun m r0 j4=>(cF (vs:=p) Tryz.zeroValue29 j4 rfl (fun o r1 j5=>(aAf (aAZ (aB (rL (vs:=[zP (some ⟨m,0,none⟩)]) rfl) (pM (v:=Value.func (.func 82) #[] #[zP (some ⟨m,0,none⟩)]) (aAf (aH (cS (fun f w=>∃ (n:Int) (c:List aZ) (q:Nat) (d:Option Addr) (e:Nat),aAE t a n c=some R∧f 2=zP (some ⟨c6,0,none⟩)∧f 4=zP (some ⟨o,0,none⟩)∧f 5=Value.func (.func 82) #[] #[zP (some ⟨m,0,none⟩)]∧f 6=zP (some ⟨q,0,none⟩)∧aL G K (aN 9 K d e c::box q 29 [i64 (a.length:Int),i64 n,zS d c.length e,zS none 0 0]::box o 29 p::box m 38 z::box c6 29 c4::L) w) ?_ ?_)))))))))))))
 ·rintro f r2 ⟨n,c,q,d,e,l,j6,j7,j8,j9,g2⟩
  unfold aAE at l
  refine aA (aH (aAZ (aB (bB (t':=3) dO j6 rfl) (aB (bR hX g2 (i:=4) rfl rfl rfl) (aB (bQ (len:=t.E.length) cR rfl) (aBl (v:=i64 0) (aAf (bD (fun f w=>∃ (c7:List Edge) (x:Option Addr) (y:Nat),wM a n c c7=some R∧f 4=zP (some ⟨o,0,none⟩)∧f 6=zP (some ⟨q,0,none⟩)∧aL G K (aN 63 K x y c7::aN 9 K d e c::box q 29 [i64 (a.length:Int),i64 n,zS d c.length e,zS x c7.length y]::box o 29 p::L) w) ?_ ?_))))))))
  ·rintro f r3 ⟨c7,x,y,l,g3,g4,g5⟩
   unfold wM at l
   refine aA (aAZ (aB (bB (t':=3) dO g4 rfl) (aB (bR hX g5 (i:=2) rfl rfl rfl) ?_)))
   obtain ⟨a3,k0,l⟩:=aI l
   refine aU (vs:=[zS x c7.length y,Value.func (.func 81) #[] #[]]) Tryz.call85 rfl (lib_SortEdge g5 k0) ?_
   rintro _ k1 ⟨rfl,k2,k3⟩
   have g6:aL G K (aN 63 K x y a3::aN 9 K d e c::box q 29 [i64 (a.length:Int),i64 n,zS d c.length e,zS x a3.length y]::box o 29 p::L) k1:=by rw [←k2];exact k3
   refine aAf (aAZ (aB (dK (us:=[i64 (a.length:Int),i64 n,zS d c.length e,zS x a3.length y]) fD g6 (i:=2) rfl g4 rfl rfl) (cC (i:=3) (ns:=[i64 (a.length:Int),i64 n,zS d c.length e,zS x a3.length y]) (us:=[i64 (a.length:Int),i64 n,zS d c.length e,zS x a3.length y]) Tryz.sizeOf29 g6 rfl g3 rfl rfl rfl (dL rfl) rfl rfl (fun k4 (g7:aL G K (aN 63 K x y a3::aN 9 K d e c::box q 29 [i64 (a.length:Int),i64 n,zS d c.length e,zS x a3.length y]::box o 29 [i64 (a.length:Int),i64 n,zS d c.length e,zS x a3.length y]::L) k4)=>(aAf ?_)))))
   cases zI l
   exact bF (aDN Tryz.results32 (kW (vs:=[i64 (a.length:Int),i64 n,zS d c.length e,zS x a3.length y]) rfl fD g7 (i:=3) rfl g3 rfl) ⟨d,e,x,y,rfl,(aL.arr 4 [1,0] g7 rfl)⟩)
  have k6:=aL.nil (α:=Edge) g2 63 K
  obtain ⟨r4,k7,l⟩:=aI l
  refine cD k7 (fun (s:(List Edge × Int)) f w=>match s with|(r,a5)=>∃ (J:Option Addr) (V:Nat),f 4=zP (some ⟨o,0,none⟩)∧f 5=Value.func (.func 82) #[] #[zP (some ⟨m,0,none⟩)]∧f 6=zP (some ⟨q,0,none⟩)∧f 23=zS a4 t.E.length c5∧f 24=i64 (t.E.length:Int)∧f 25=i64 a5∧aL G K (aN 63 K J V r::aN 9 K d e c::box q 29 [i64 (a.length:Int),i64 n,zS d c.length e,zS J r.length V]::box o 29 p::box m 38 z::L) w) ?_ ?_
  ·exact ⟨none,0,j7,j8,j9,rfl,rfl,rfl,(aL.arr 6 [0,1,2,3,4] k6 rfl)⟩
  ·rintro ⟨r,a5⟩ e1 f r5 k k8 ⟨J,V,e2,d3,e3,e4,e5,d4,e6⟩
   replace k:pW t a r a5=some e1:=k
   unfold pW at k
   refine aAZ (aB (cJ d4 e5) (aAf (aH ?_)))
   rcases aK k with ⟨e7,k⟩|⟨e7,k⟩
   ·refine aO e7 rfl (aW (aA (aH (bD (fun f w=>∃ (c9:List Edge) (d5:Option Addr) (d6:Nat),pU a5 c9=some e1∧f 4=zP (some ⟨o,0,none⟩)∧f 5=Value.func (.func 82) #[] #[zP (some ⟨m,0,none⟩)]∧f 6=zP (some ⟨q,0,none⟩)∧f 23=zS a4 t.E.length c5∧f 24=i64 (t.E.length:Int)∧f 25=i64 a5∧aL G K (aN 63 K d5 d6 c9::aN 9 K d e c::box q 29 [i64 (a.length:Int),i64 n,zS d c.length e,zS d5 c9.length d6]::box o 29 p::box m 38 z::L) w) ?_ ?_))))
    ·rintro f r6 ⟨c9,d5,d6,k,k9,l0,l1,l2,l3,l4,l5⟩
     unfold pU at k
     exact aA (aC (aB (cX l4 rfl) (aBl (v:=i64 (wr (a5+1))) (aAf ⟨(c9,wr (a5+1)),(zI k).symm,d5,d6,k9,l0,l1,l2,l3,rfl,l5⟩))))
    refine aAZ ?_
    obtain ⟨b,g8,k⟩:=aI k
    refine aB (cO cR rfl h6 e4 rfl d4 g8) ?_
    obtain ⟨r7,l6,l7⟩:=bT.el (sz:=3) rfl h6 g8
    cases l7
    refine aB (gO (t:=0) (vs:=[i64 b.F,i64 b.B,i64 b.To]) mB e6 l6 rfl rfl rfl) (cF (vs:=[i64 0,i64 0,i64 0]) Tryz.zeroValue63 e6 rfl (fun b8 r8 l8=>(cC (i:=0) (ns:=[i64 b.F,i64 b.B,i64 b.To]) (us:=[i64 b.F,i64 b.B,i64 b.To]) Tryz.sizeOf63 l8 rfl rfl rfl rfl rfl (dL rfl) rfl rfl (fun l9 (m0:aL G K (box b8 63 [i64 b.F,i64 b.B,i64 b.To]::aN 63 K J V r::aN 9 K d e c::box q 29 [i64 (a.length:Int),i64 n,zS d c.length e,zS J r.length V]::box o 29 p::box m 38 z::L) l9)=>(aAf (aH ?_))))))
    obtain ⟨m1,g9,h0,h1,m2⟩:=aL.lendB (i:=0) m0 rfl
    refine eQ (C:=fun w'=>∃ L',aL G m1 L' w') [(0,0),(1,0),(2,0),(4,0),(5,0),(6,0),(3,1),(7,1),(8,0),(9,0)] bK (by kernel_rfl) (fun _ hg=>⟨_,aL.mono h1 hg⟩) (fun r9 m3=>?_)
    have d0:=aL.mono h1 m3
    refine bS rfl (fun _ _=>aD d3) (bS rfl (fun _ _=>bB (t':=0) fY rfl rfl) (bS rfl (fun _ ⟨_,d0⟩=>bH (t:=0) cP d0 h0 rfl rfl) (bS rfl (fun _ _=>aD d3) (bS rfl (fun _ _=>bB (t':=2) iB rfl rfl) (bS rfl (fun _ ⟨_,d0⟩=>bH (t:=2) cP d0 h0 rfl rfl) (lL rfl ?_))))))
    obtain ⟨s0,m4,m5,m6,m7⟩:=aL.lendB (i:=4) d0 rfl
    obtain ⟨a2,m8,k⟩:=aI k
    refine kH (vs:=[i64 b.F]) (caps:=[bY (some ⟨m,0,none⟩) 0]) (us:=[i64 b.F,bY (some ⟨m,0,none⟩) 0]) rfl Tryz.call82 rfl rfl (sB m6 m5 (h9.mono (zL g9 m4)) m8) ?_
    rintro _ s1 ⟨rfl,m9⟩
    have h2:=m7 _ _ m9
    refine aF (aA ⟨⟨_,h2⟩,?_⟩)
    refine lL rfl ?_
    obtain ⟨s2,n0,n1,n2,n3⟩:=aL.lendB (i:=0) h2 rfl
    obtain ⟨Z,n4,k⟩:=aI k
    refine kH (vs:=[i64 b.To]) (caps:=[bY (some ⟨m,0,none⟩) 0]) (us:=[i64 b.To,bY (some ⟨m,0,none⟩) 0]) rfl Tryz.call82 rfl rfl (sB n2 n1 (h9.mono (zL g9 n0)) n4) ?_
    rintro _ s3 ⟨rfl,n5⟩
    have h4:=n3 _ _ n5
    refine aF (aA ⟨⟨_,h4⟩,?_⟩)
    refine bS rfl (fun _ _=>aG (v:=i64 a2) rfl) (bS rfl (fun _ _=>aG (v:=i64 Z) rfl) (kB ?_))
    have h5:=m2 _ _ h4
    refine aA (aH (cS (fun f w=>∃ (e8:Bool),pV r a5 b a2 Z e8=some e1∧f 4=zP (some ⟨o,0,none⟩)∧f 5=Value.func (.func 82) #[] #[zP (some ⟨m,0,none⟩)]∧f 6=zP (some ⟨q,0,none⟩)∧f 8=zP (some ⟨b8,0,none⟩)∧f 9=i64 a2∧f 10=i64 Z∧f 23=zS a4 t.E.length c5∧f 24=i64 (t.E.length:Int)∧f 25=i64 a5∧f 42=zB e8∧aL G K (box b8 63 [i64 b.F,i64 b.B,i64 b.To]::box m 38 z::aN 63 K J V r::aN 9 K d e c::box q 29 [i64 (a.length:Int),i64 n,zS d c.length e,zS J r.length V]::box o 29 p::L) w) ?_ ?_))
    ·rintro f s4 ⟨e8,k,h7,h8,d7,n6,n7,n8,i0,i1,i2,i3,d8⟩
     unfold pV at k
     refine aA ?_
     rcases aK k with ⟨e9,k⟩|⟨e9,k⟩
     ·refine aO e9 i3 (aC (aB (bB (t':=3) dO d7 rfl) (aB (bR hX d8 (i:=4) rfl rfl rfl) (aCv n7 (aB (bB (t':=1) fP n6 rfl) (aB (bR cP d8 (i:=0) rfl rfl rfl) (aCv n8 (aB (kU (vs:=[(0,i64 a2),(1,i64 b.B),(2,i64 Z)]) (cs:=[i64 a2,i64 b.B,i64 Z]) bs_63 rfl (by kernel_rfl)) (dM (Kt:=K) (xs:=([⟨a2,b.B,Z⟩]:List Edge)) (cs:=[i64 a2,i64 b.B,i64 Z]) (vs:=[(0,zA #[i64 a2,i64 b.B,i64 Z])]) cR vQ rfl rfl d8 rfl (by kernel_rfl) rfl rfl rfl ⟨rfl,trivial⟩ (fun n9 o0 (o1:aL G K (aN 63 K n9 1 ([⟨a2,b.B,Z⟩]:List Edge)::box b8 63 [i64 b.F,i64 b.B,i64 b.To]::box m 38 z::aN 63 K J V r::aN 9 K d e c::box q 29 [i64 (a.length:Int),i64 n,zS d c.length e,zS J r.length V]::box o 29 p::L) o0)=>?_))))))))))
      obtain ⟨b9,o2,k⟩:=aI k
      exact iY (i:=2) cR Tryz.underlying27 vQ rfl rfl o1 rfl (zR _) (zR _) o2 rfl rfl rfl rfl (fun _ h=>h) (fun c0 c1 o3 (o4:aL G K (box b8 63 [i64 b.F,i64 b.B,i64 b.To]::box m 38 z::aN 63 K c0 c1 b9::aN 9 K d e c::box q 29 [i64 (a.length:Int),i64 n,zS d c.length e,zS J r.length V]::box o 29 p::L) o3)=>(aB (bB (t':=3) dO d7 rfl) (cC (i:=4) (ns:=[zS c0 b9.length c1]) (us:=[i64 (a.length:Int),i64 n,zS d c.length e,zS c0 b9.length c1]) Tryz.sizeOf27 o4 rfl rfl rfl rfl rfl (dL rfl) rfl rfl (fun o5 (o6:aL G K (box b8 63 [i64 b.F,i64 b.B,i64 b.To]::box m 38 z::aN 63 K c0 c1 b9::aN 9 K d e c::box q 29 [i64 (a.length:Int),i64 n,zS d c.length e,zS c0 b9.length c1]::box o 29 p::L) o5)=>(aF (bG (aA ⟨b9,c0,c1,k,h7,h8,d7,i0,i1,i2,(aL.arr 6 [2,3,4,5,1] o6 rfl)⟩)))))))
     ·exact aM e9 i3 (aW (bG (aA ⟨r,J,V,k,h7,h8,d7,i0,i1,i2,(aL.arr 6 [2,3,4,5,1] d8 rfl)⟩)))
    refine aC (aBl (v:=i64 a2) (aB (tT rfl rfl) (aBl (v:=zB (decide (0≤a2))) ?_)))
    rcases aK k with ⟨a8,k⟩|⟨a8,k⟩
    ·exact bE a8 rfl rfl (aBl (v:=i64 Z) (bE a8 rfl rfl (aB (tT rfl rfl) (aB (bI (v:=zB (decide (0≤Z))) a8 rfl rfl) (aAf ⟨decide (0≤Z),k,e2,d3,e3,rfl,rfl,rfl,e4,e5,d4,rfl,h5⟩)))))
    ·exact aV a8 rfl rfl (aV a8 rfl rfl (aB (bJ (v:=zB false) a8 rfl rfl) (aAf ⟨false,k,e2,d3,e3,rfl,rfl,rfl,e4,e5,d4,rfl,h5⟩)))
   ·refine aM e7 rfl (cB (aY (aY ?_)))
    have o7:=k8 _ (zI k).symm
    subst o7
    have l:(wM a n c r)=some R:=l
    exact bO (aA ⟨r,J,V,l,e2,e3,(aL.arr 5 [0,1,2,3] e6 rfl)⟩)
 obtain ⟨s5,d1,f0,o8,f1⟩:=aL.lendB (i:=1) j5 rfl
 obtain ⟨o9,a6,i4,p0,f2⟩:=aL.lendB (i:=1) o8 rfl
 refine aAg (C:=fun w'=>∃ L',aL G o9 L' w') [11] bK (by kernel_rfl) (fun s6 p1=>?_)
 have u:=aL.mono p0 p1
 refine gN (i:=0) rfl (by kernel_rfl) ⟨_,u⟩ (fun _ ⟨_,u⟩=>bH (t:=0) mM u (f0.mono a6) rfl rfl) (gN (i:=1) rfl (by kernel_rfl) ⟨_,u⟩ (fun _ _=>bQ (len:=a.length) bW rfl) (gN (i:=2) rfl (by kernel_rfl) ⟨_,u⟩ (fun _ _=>aD (v:=Value.func (.func 82) #[] #[zP (some ⟨m,0,none⟩)]) rfl) (gN (i:=3) rfl (by kernel_rfl) ⟨_,u⟩ (fun _ _=>bB (t':=1) rM rfl rfl) (gN (i:=4) rfl (by kernel_rfl) ⟨_,u⟩ (fun _ ⟨_,u⟩=>bH (t:=1) cP u i4 rfl rfl) (gN (i:=6) rfl (by kernel_rfl) ⟨_,u⟩ (fun _ _=>bB (t':=2) gL rfl rfl) (gN (i:=7) rfl (by kernel_rfl) ⟨_,u⟩ (fun _ ⟨_,u⟩=>bH (t:=2) jJ u i4 rfl rfl) (qE (i:=5) (j:=10) (by kernel_rfl) rfl rfl ?_ ?_)))))))
 ·obtain ⟨a0,p2,l⟩:=aI l
  refine kH (vs:=[i64 t.I]) (caps:=[bY (some ⟨m,0,none⟩) 0]) (us:=[i64 t.I,bY (some ⟨m,0,none⟩) 0]) rfl Tryz.call82 rfl rfl (sB u (f0.mono a6) (h9.mono (zL d1 a6)) p2) ?_
  rintro _ s7 ⟨rfl,f3⟩
  refine aF (aA ⟨fun _=>⟨_,f3⟩,?_⟩)
  refine qE (i:=8) (j:=10) (by kernel_rfl) rfl rfl ?_ ?_
  ·obtain ⟨a9,p3,l⟩:=aI l
   refine aU (vs:=e0) Tryz.call84 rfl (cM f3 (h3.mono (zL d1 a6)) p3) ?_
   rintro _ s8 ⟨b0,b1,rfl,f4⟩
   refine aF (aA ⟨fun _=>⟨_,f4⟩,?_⟩)
   refine gN (i:=9) rfl (by kernel_rfl) ⟨_,f4⟩ (fun _ _=>kU (vs:=[(0,i64 (a.length:Int)),(1,i64 a0),(2,zS b0 a9.length b1)]) (cs:=[i64 (a.length:Int),i64 a0,zS b0 a9.length b1,zS none 0 0]) aEz rfl (by kernel_rfl)) (cW (i:=10) (by kernel_rfl) rfl (cF (vs:=p) Tryz.zeroValue29 f4 rfl (fun i5 s9 i6=>(aF (aA ⟨fun _=>⟨_,i6⟩,?_⟩)))))
   refine cW (i:=11) (by kernel_rfl) rfl ?_
   have p4:=f2 _ _ i6
   have p5:=f1 _ _ p4
   refine cC (i:=2) (ns:=[i64 (a.length:Int),i64 a0,zS b0 a9.length b1,zS none 0 0]) (us:=[i64 (a.length:Int),i64 a0,zS b0 a9.length b1,zS none 0 0]) Tryz.sizeOf29 p5 rfl rfl rfl rfl rfl (dL rfl) rfl rfl (fun p6 (p7:aL G K (box m 38 z::box c6 29 c4::box i5 29 [i64 (a.length:Int),i64 a0,zS b0 a9.length b1,zS none 0 0]::aN 9 K b0 b1 a9::box o 29 p::L) p6)=>(aF (aA ⟨no_c rfl,?_⟩)))
   exact kQ (by kernel_rfl) (aA ⟨a0,a9,i5,b0,b1,l,rfl,rfl,rfl,rfl,(aL.arr 5 [3,2,4,0,1] p7 rfl)⟩)
  ·refine cF (vs:=p) Tryz.zeroValue29 f3 rfl (fun i7 t0 i8=>(aF (aA ⟨fun _=>⟨_,i8⟩,?_⟩)))
   refine cW (i:=8) (by kernel_rfl) rfl ?_
   obtain ⟨b2,p8,l⟩:=aI l
   refine aU (vs:=e0) Tryz.call84 rfl (cM i8 (h3.mono (zL d1 a6)) p8) ?_
   rintro _ t1 ⟨b3,b4,rfl,f5⟩
   refine aF (aA ⟨fun _=>⟨_,f5⟩,?_⟩)
   refine gN (i:=9) rfl (by kernel_rfl) ⟨_,f5⟩ (fun _ _=>kU (vs:=[(0,i64 (a.length:Int)),(1,i64 a0),(2,zS b3 b2.length b4)]) (cs:=[i64 (a.length:Int),i64 a0,zS b3 b2.length b4,zS none 0 0]) aEz rfl (by kernel_rfl)) (cW (i:=11) (by kernel_rfl) rfl ?_)
   have p9:=f2 _ _ f5
   have q0:=f1 _ _ p9
   refine cC (i:=3) (ns:=[i64 (a.length:Int),i64 a0,zS b3 b2.length b4,zS none 0 0]) (us:=[i64 (a.length:Int),i64 a0,zS b3 b2.length b4,zS none 0 0]) Tryz.sizeOf29 q0 rfl rfl rfl rfl rfl (dL rfl) rfl rfl (fun q1 (q2:aL G K (box m 38 z::box c6 29 c4::aN 9 K b3 b4 b2::box i7 29 [i64 (a.length:Int),i64 a0,zS b3 b2.length b4,zS none 0 0]::box o 29 p::L) q1)=>(aF (aA ⟨no_c rfl,?_⟩)))
   exact kQ (by kernel_rfl) (aA ⟨a0,b2,i7,b3,b4,l,rfl,rfl,rfl,rfl,(aL.arr 5 [2,3,4,0,1] q2 rfl)⟩)
 ·refine cF (vs:=p) Tryz.zeroValue29 u rfl (fun i9 t2 j0=>(aF (aA ⟨fun _=>⟨_,j0⟩,?_⟩)))
  refine cW (i:=5) (by kernel_rfl) rfl ?_
  obtain ⟨c3,q3,l⟩:=aI l
  refine kH (vs:=[i64 t.I]) (caps:=[bY (some ⟨m,0,none⟩) 0]) (us:=[i64 t.I,bY (some ⟨m,0,none⟩) 0]) rfl Tryz.call82 rfl rfl (sB j0 (f0.mono a6) (h9.mono (zL d1 a6)) q3) ?_
  rintro _ t3 ⟨rfl,j1⟩
  refine aF (aA ⟨fun _=>⟨_,j1⟩,?_⟩)
  refine cW (i:=8) (by kernel_rfl) rfl ?_
  obtain ⟨b5,q4,l⟩:=aI l
  refine aU (vs:=e0) Tryz.call84 rfl (cM j1 (h3.mono (zL d1 a6)) q4) ?_
  rintro _ t4 ⟨b6,b7,rfl,f6⟩
  refine aF (aA ⟨fun _=>⟨_,f6⟩,?_⟩)
  refine gN (i:=9) rfl (by kernel_rfl) ⟨_,f6⟩ (fun _ _=>kU (vs:=[(0,i64 (a.length:Int)),(1,i64 c3),(2,zS b6 b5.length b7)]) (cs:=[i64 (a.length:Int),i64 c3,zS b6 b5.length b7,zS none 0 0]) aEz rfl (by kernel_rfl)) (cW (i:=11) (by kernel_rfl) rfl ?_)
  have q5:=f2 _ _ f6
  have q6:=f1 _ _ q5
  refine cC (i:=3) (ns:=[i64 (a.length:Int),i64 c3,zS b6 b5.length b7,zS none 0 0]) (us:=[i64 (a.length:Int),i64 c3,zS b6 b5.length b7,zS none 0 0]) Tryz.sizeOf29 q6 rfl rfl rfl rfl rfl (dL rfl) rfl rfl (fun q7 (q8:aL G K (box m 38 z::box c6 29 c4::aN 9 K b6 b7 b5::box i9 29 [i64 (a.length:Int),i64 c3,zS b6 b5.length b7,zS none 0 0]::box o 29 p::L) q7)=>(aF (aA ⟨no_c rfl,?_⟩)))
  exact kQ (by kernel_rfl) (aA ⟨c3,b5,i9,b6,b7,l,rfl,rfl,rfl,rfl,(aL.arr 5 [2,3,4,0,1] q8 rfl)⟩)
theorem wP {j:(List Int)} {m:Int} {R:(List Int)} (hs:aL G K (L) w) (h3:bT K a1 c2 j) (a:gD j m=some R):
  Calls Tryz.prog 166 ([zS a1 j.length c2,i64 m]:List Value).toArray w (fV fun v w'=>∃ (Z:Option Addr) (a0:Nat),v=zS Z R.length a0∧aL G K (aN 2 K Z a0 R::L) w'):=by
 refine aT Tryz.func166 rfl (by kernel_rfl) (by show (2:Nat)≤48;decide) ?_
 unfold gD at a
 refine aAZ (pM (v:=zS none 0 0) (aAf (aBQ (fun f w=>iG j m=some R∧f 0=zS a1 j.length c2∧f 1=i64 m∧aL G K (L) w) ?_ ?_)))
 ·rintro f w6 ⟨a,u,e5,b7⟩
  unfold iG at a
  refine aAZ (aCv u (aB (bQ (len:=j.length) bW rfl) (aB (aEW Tryz.runUnderlying194 rfl ⟨_,Tryz.runUnderlying3⟩) (aCv e5 (aB (aEW Tryz.runUnderlying194 rfl ⟨_,Tryz.runUnderlying3⟩) ?_)))))
  obtain ⟨h,q9,a⟩:=aI a
  refine aU (vs:=[Value.int .u64 (aBO (j.length:Int)),Value.int .u64 (aBO m)]) Tryz.call202 rfl (lib_Mul b7 q9) ?_
  rintro _ e6 ⟨rfl,a2⟩
  refine aBl (v:=Value.tuple #[Value.int .u64 h.1,Value.int .u64 h.2]) (aB (bV rfl rfl) (aB (bV rfl rfl) (pM (v:=Value.int .u64 h.1) (pM (v:=Value.int .u64 h.2) (aAf (aBQ (fun f w=>iF j h=some R∧f 0=zS a1 j.length c2∧f 6=Value.int .u64 h.2∧aL G K (L) w) ?_ ?_))))))
  ·rintro f e7 ⟨a,b9,c0,c1⟩
   unfold iF at a
   refine aAZ (aCv c0 (aB (aId Tryz.runUnderlying3 rfl ⟨_,Tryz.runUnderlying194⟩) ?_))
   obtain ⟨b,c3,a⟩:=aI a
   refine aFt (e:=(0:Int)) bW tU rfl rfl c1 rfl rfl rfl c3 rfl (fun c c4 (a3:aL G K (aN 2 K c b.length b::L) c4)=>(pM (v:=zS c b.length b.length) (aAf (aAZ (aBl (v:=zS c b.length b.length) (aCv b9 ?_))))))
   obtain ⟨c5,a4,a⟩:=aI a
   refine aGc bW rfl a3 (i:=0) rfl Cut.whole rfl rfl rfl (aEY _ _ _) aEy (aIi rfl a3 h3) a4 (fun c6 (c7:aL G K (aN 2 K c b.length c5::L) c6)=>(pM (v:=i64 ((Nat.min j.length b.length):Int)) (aAf (aH (bD (fun f w=>∃ (p:List Int),iE p=some R∧f 7=zS c p.length b.length∧aL G K (aN 2 K c b.length p::L) w) ?_ ?_)))))
   ·rintro f e8 ⟨p,a,c8,c9⟩
    unfold iE at a
    refine aA (aAZ (aCv c8 (pM (v:=zS c p.length b.length) (aAf ?_))))
    cases zI a
    exact bF (bC Tryz.results166 rfl ⟨c,b.length,rfl,c9⟩)
   obtain ⟨e9,d1,a⟩:=aI a
   refine cD d1 (fun (s:(List Int × Int)) f w=>match s with|(k,o)=>f 7=zS c k.length b.length∧f 8=i64 o∧aL G K (aN 2 K c b.length k::L) w) ?_ ?_
   ·exact ⟨(Eq.trans rfl (congrArg (fun n=>zS c n b.length) (aCz a4))),rfl,c7⟩
   ·rintro ⟨k,o⟩ d2 f f0 d d3 ⟨q,r,x⟩
    replace d:fI k o=some d2:=d
    unfold fI at d
    refine aH (aAZ (aCv r (aCv q (aB (bQ (len:=k.length) bW rfl) (aB (cJ rfl rfl) (aAf ?_))))))
    rcases aK d with ⟨y,d⟩|⟨y,d⟩
    ·refine aO y rfl (aW (aA (cU (eQ (C:=fun w'=>∃ L',aL G K L' w') [(0,0),(1,0),(2,0),(3,0),(4,0),(5,0),(6,0),(7,1),(8,0),(9,0)] bK (by kernel_rfl) (fun _ hg=>⟨_,aL.mono x hg⟩) (fun f1 d4=>?_)))))
     have t:=aL.mono x d4
     refine bS rfl (fun _ _=>aD r) (bS rfl (fun _ _=>aD q) (bS rfl (fun _ _=>aD r) ?_))
     obtain ⟨a5,d5,d⟩:=aI d
     have d6:=pA t (i:=0) rfl
     obtain ⟨f2,f3,a6⟩:=Cut.ex 1 c b.length o
     refine bS rfl (fun _ _=>aCL bW d6 a6 rfl rfl rfl d5) (bS rfl (fun _ _=>aD q) (bS rfl (fun _ _=>aD r) ?_))
     obtain ⟨a7,a8,d⟩:=aI d
     have d7:=pA t (i:=0) rfl
     obtain ⟨f4,f5,a9⟩:=Cut.ex 1 c b.length 0
     refine bS rfl (fun _ _=>aGH bW d7 a9 rfl rfl rfl a8) (lL rfl ?_)
     obtain ⟨b0,b1,d⟩:=aI d
     refine aGc bW rfl t (i:=0) rfl a6 rfl rfl rfl (aEY _ _ _) aEy (aIj rfl t (i:=0) rfl a8 a9) b1 (fun d8 (b2:aL G K (aN 2 K c b.length b0::L) d8)=>(aF (aA ⟨⟨_,b2⟩,?_⟩)))
     exact bS rfl (fun _ _=>cX rfl rfl) (bS rfl (fun _ _=>aG (v:=i64 (wr (o+((Nat.min a7.length a5.length):Int)))) rfl) (kB (bG (aA ⟨(b0,wr (o+((Nat.min a7.length a5.length):Int))),(zI d).symm,(Eq.trans q (congrArg (fun n=>zS c n b.length) (aCz b1))),rfl,b2⟩))))
    ·refine aM y rfl (cB (aY (aY ?_)))
     have d9:=d3 _ (zI d).symm
     subst d9
     have a:(iE k)=some R:=a
     exact bO (aA ⟨k,a,q,x⟩)
  refine aH (cS (fun f w=>∃ (z:Bool),fJ j h z=some R∧f 0=zS a1 j.length c2∧f 6=Value.int .u64 h.2∧f 26=zB z∧aL G K (L) w) ?_ ?_)
  ·rintro f f6 ⟨z,a,e0,e1,b3,e2⟩
   unfold fJ at a
   refine aA ?_
   rcases aK a with ⟨J,a⟩|⟨J,a⟩
   ·refine aO J b3 (aC ?_)
    cases a
   ·exact aM J b3 (aW (aA ⟨a,e0,e1,e2⟩))
  refine aC (aBl (v:=Value.int .u64 h.1) (aB (mL rfl rfl) (aBl (v:=zB (decide (0 < h.1))) ?_)))
  rcases aK a with ⟨l,a⟩|⟨l,a⟩
  ·exact bA l rfl rfl (bA l rfl rfl (aB (bI (v:=zB true) l rfl rfl) (aAf ⟨true,a,u,rfl,rfl,a2⟩)))
  ·exact bM l rfl rfl (aBl (v:=Value.int .u64 h.2) (bM l rfl rfl (aB (mL rfl rfl) (aB (bJ (v:=zB (decide (9223372036854775807 < h.2))) l rfl rfl) (aAf ⟨decide (9223372036854775807 < h.2),a,u,rfl,rfl,a2⟩)))))
 refine aAZ (aBl (v:=i64 m) (aB (cJ rfl rfl) (aAf ?_)))
 rcases aK a with ⟨V,a⟩|⟨V,a⟩
 ·refine aO V rfl (aC ?_)
  cases a
 ·exact aM V rfl (aW (aA ⟨a,rfl,rfl,hs⟩))
theorem oM {b R:(List Int)} (e:aL G K (L) w) (g:bT K a1 c2 b) (a:eH b=some R):
  Calls Tryz.prog 154 ([zS a1 b.length c2]:List Value).toArray w (fV fun v w'=>∃ (h:Option Addr) (j:Nat),v=zS h R.length j∧aL G K (aN 2 K h j R::L) w'):=by
 refine aT Tryz.func154 rfl (by kernel_rfl) (by show (1:Nat)≤8;decide) ?_
 unfold eH at a
 refine aAZ (pM (v:=zS none 0 0) (aAf (aH (aAZ (aBl (v:=zS a1 b.length c2) (aB (aKM bW rfl rfl) (aAf ?_)))))))
 rcases aGG g with ⟨l,m,n⟩|o
 ·subst l;subst m;subst n
  refine aHY rfl ?_
  replace a:(some [])=some R:=a
  refine aAZ (pM (v:=zS none 0 0) (aAf ?_))
  have p:=aL.nil (α:=Int) e 2 K
  cases zI a
  exact bF (aS (bC Tryz.results154 rfl ⟨none,0,rfl,p⟩))
 ·refine aHZ (Eq.trans rfl (congrArg zB o)) (aW (aA (aAZ (dM (Kt:=K) (xs:=([]:List Int)) (cs:=[]) (vs:=[]) bW tU rfl rfl e rfl (by kernel_rfl) rfl rfl rfl trivial (fun r t (u:aL G K (aN 2 K r 0 ([]:List Int)::L) t)=>(aBl (v:=zS a1 b.length c2) ?_))))))
  obtain ⟨k,x,a⟩:=aI a
  refine aEv (i:=0) bW Tryz.underlying38 tU rfl rfl u rfl (zR _) g x rfl rfl rfl rfl (fun c d y (z:aL G K (aN 2 K c d k::L) y)=>(pM (v:=zS c k.length d) (aAf ?_)))
  cases zI a
  exact bF (bC Tryz.results154 rfl ⟨c,d,rfl,z⟩)
theorem aEM {t:dB} {z:(List Int)} {o:Bool} {R:(List Int)} (hs:aL G K (L) w) (h3:bT K a1 c2 t.L) (h6:bT K a4 c5 t.E) (h9:bT K a7 c8 z) (k:sJ t z o=some R):
  Calls Tryz.prog 86 ([zA (zCa t a1 c2 a4 c5),zS a7 z.length c8,zB o]:List Value).toArray w (fV fun v w'=>∃ (h0:Option Addr) (h1:Nat),v=zS h0 R.length h1∧aL G K (aN 2 K h0 h1 R::L) w'):=by
 let l:=(zC t a1 c2 a4 c5)
 refine aT Tryz.func86 rfl (by kernel_rfl) (by show (3:Nat)≤79;decide) ?_
 unfold sJ at k
 refine aAZ (dW (v:=zA (zCa t a1 c2 a4 c5)) (vs:=l) hs rfl rfl (fun d s8 l6=>(pM (v:=zS none 0 0) (aAf (aAZ (dM (Kt:=K) (xs:=([(-1)]:List Int)) (cs:=[i64 (-1)]) (vs:=[(0,i64 (-1))]) bW tU rfl rfl l6 rfl (by kernel_rfl) rfl rfl rfl ⟨rfl,trivial⟩ (fun h2 l7 (h4:aL G K (aN 2 K h2 1 ([(-1)]:List Int)::box d 29 l::L) l7)=>(aB (bB (t':=0) tP rfl rfl) (aB (bR cP h4 (i:=1) rfl rfl rfl) ?_)))))))))
 obtain ⟨s9,t0,l8,l9,m0⟩:=aL.lendS (i:=0) h4 (zR _) rfl
 obtain ⟨m1,m2,k⟩:=aI k
 refine aU (vs:=[zS h2 ([(-1)]:List Int).length 1,i64 t.N]) Tryz.call166 rfl (wP l9 l8 m2) ?_
 rintro _ t1 ⟨b,c,rfl,m3⟩
 have m4:=m0 _ _ m3
 refine pM (v:=zS b m1.length c) (aAf (aAZ (aBl (v:=zS a7 z.length c8) ?_)))
 obtain ⟨a0,m5,k⟩:=aI k
 refine aU (vs:=[zS a7 z.length c8]) Tryz.call154 rfl (oM m4 h9 m5) ?_
 rintro _ t2 ⟨a2,a3,rfl,m6⟩
 refine pM (v:=zS a2 a0.length a3) (aAf (aH (aAZ (aBl (v:=zS a7 z.length c8) (aB (bQ (len:=z.length) bW rfl) (aBl (v:=i64 0) (aAf (bD (fun f w=>∃ (b8:List Int),oI t o a0 b8=some R∧f 2=zB o∧f 3=zP (some ⟨d,0,none⟩)∧f 7=zS b b8.length c∧f 8=zS a2 a0.length a3∧aL G K (aN 2 K a2 a3 a0::aN 2 K b c b8::box d 29 l::L) w) ?_ ?_))))))))
 ·rintro f t3 ⟨b8,k,m7,m8,m9,n0,n1⟩
  unfold oI at k
  refine aA (aH (bD (fun f w=>∃ (a8:List Int),rT a8=some R∧f 7=zS b a8.length c∧aL G K (aN 2 K b c a8::L) w) ?_ ?_))
  ·rintro f t4 ⟨a8,k,n2,n3⟩
   unfold rT at k
   refine aA (aAZ (aCv n2 (pM (v:=zS b a8.length c) (aAf ?_))))
   cases zI k
   exact bF (bC Tryz.results86 rfl ⟨b,c,rfl,n3⟩)
  obtain ⟨t5,n5,k⟩:=aI k
  refine cD n5 (fun (s:(List Int × List Int)) f w=>match s with|(a5,a9)=>∃ (b9:Option Addr) (c0:Nat),f 2=zB o∧f 3=zP (some ⟨d,0,none⟩)∧f 7=zS b a5.length c∧f 8=zS b9 a9.length c0∧aL G K (aN 2 K b9 c0 a9::aN 2 K b c a5::box d 29 l::L) w) ?_ ?_
  ·exact ⟨a2,a3,m7,m8,m9,n0,n1⟩
  ·rintro ⟨a5,a9⟩ c1 f n6 j n7 ⟨b9,c0,n8,h5,h7,e1,b0⟩
   replace j:oH t o a5 a9=some c1:=j
   unfold oH at j
   refine aH (aAZ (aCv e1 (aB (bQ (len:=a9.length) bW rfl) (aB (mL rfl rfl) (aAf ?_)))))
   rcases aK j with ⟨e2,j⟩|⟨e2,j⟩
   ·refine aO e2 rfl (aW (aA (bD (fun f w=>∃ (b1:List Int) (b2:List Int) (c3:Option Addr) (c4:Nat),xC b1 b2=some c1∧f 2=zB o∧f 3=zP (some ⟨d,0,none⟩)∧f 7=zS b b1.length c∧f 8=zS c3 b2.length c4∧aL G K (aN 2 K c3 c4 b2::aN 2 K b c b1::box d 29 l::L) w) ?_ ?_)))
    ·rintro f t6 ⟨b1,b2,c3,c4,j,n9,o0,o1,o2,o3⟩
     unfold xC at j
     exact aA ⟨(b1,b2),(zI j).symm,c3,c4,n9,o0,o1,o2,o3⟩
    refine aAZ (aCv e1 ?_)
    obtain ⟨J,e3,j⟩:=aI j
    have o4:=cG b0 (i:=0) rfl e3
    refine aB (dA bW rfl o4 rfl rfl rfl e3) (aB (kA (t:=0) cP b0 (i:=0) rfl e3 rfl rfl rfl) (pM (v:=i64 J) (aAf (aAZ (aCv e1 ?_)))))
    obtain ⟨h8,i0,j⟩:=aI j
    have o5:=pA b0 (i:=0) rfl
    obtain ⟨e4,e5,i1⟩:=Cut.ex 1 b9 c0 1
    refine aB (aCL bW o5 i1 rfl rfl rfl i0) ?_
    have i2:aL G K (aN 2 K e4 e5 h8::aN 2 K b c a5::box d 29 l::L) n6:=aL.cutP b0 (i:=0) rfl i0 i1
    refine pM (v:=zS e4 h8.length e5) (aAf (aAZ (aB (bB (t':=3) dO h5 rfl) (aB (bR hX i2 (i:=2) rfl rfl rfl) (aB (bQ (len:=t.E.length) cR rfl) (aBl (v:=i64 0) (aAf (bD (fun f w=>∃ (b3:List Int) (b4:List Int) (c6:Option Addr) (c7:Nat),rU b3 b4=some c1∧f 2=zB o∧f 3=zP (some ⟨d,0,none⟩)∧f 7=zS b b3.length c∧f 8=zS c6 b4.length c7∧aL G K (aN 2 K c6 c7 b4::aN 2 K b c b3::box d 29 l::L) w) ?_ ?_))))))))
    ·rintro f t7 ⟨b3,b4,c6,c7,j,o6,o7,o8,o9,p0⟩
     unfold rU at j
     exact bG (aA ⟨b3,b4,c6,c7,j,o6,o7,o8,o9,p0⟩)
    obtain ⟨t8,p1,j⟩:=aI j
    refine cD p1 (fun (s:(List Int × List Int × Int)) f w=>match s with|(p,m,y)=>∃ (r:Option Addr) (u:Nat),f 2=zB o∧f 3=zP (some ⟨d,0,none⟩)∧f 7=zS b p.length c∧f 8=zS r m.length u∧f 11=i64 J∧f 41=zS a4 t.E.length c5∧f 42=i64 (t.E.length:Int)∧f 43=i64 y∧aL G K (aN 2 K r u m::aN 2 K b c p::box d 29 l::L) w) ?_ ?_
    ·exact ⟨e4,e5,n8,h5,h7,rfl,rfl,rfl,rfl,rfl,i2⟩
    ·rintro ⟨p,m,y⟩ c9 f t9 a p2 ⟨r,u,d0,e6,e7,e8,i3,e9,f0,d1,f1⟩
     replace a:lW t o J p m y=some c9:=a
     unfold lW at a
     refine aAZ (aB (cJ d1 f0) (aAf (aH ?_)))
     rcases aK a with ⟨f2,a⟩|⟨f2,a⟩
     ·refine aO f2 rfl (aW (aA (aH (bD (fun f w=>∃ (b5:List Int) (b6:List Int) (d2:Option Addr) (d3:Nat),kC y b5 b6=some c9∧f 2=zB o∧f 3=zP (some ⟨d,0,none⟩)∧f 7=zS b b5.length c∧f 8=zS d2 b6.length d3∧f 11=i64 J∧f 41=zS a4 t.E.length c5∧f 42=i64 (t.E.length:Int)∧f 43=i64 y∧aL G K (aN 2 K d2 d3 b6::aN 2 K b c b5::box d 29 l::L) w) ?_ ?_))))
      ·rintro f u0 ⟨b5,b6,d2,d3,a,p3,p4,p5,p6,p7,p8,p9,q0,q1⟩
       unfold kC at a
       exact aA (aC (aB (cX q0 rfl) (aBl (v:=i64 (wr (y+1))) (aAf ⟨(b5,b6,wr (y+1)),(zI a).symm,d2,d3,p3,p4,p5,p6,p7,p8,p9,rfl,q1⟩))))
      refine aAZ ?_
      obtain ⟨e,i4,a⟩:=aI a
      refine aB (cO cR rfl h6 e9 rfl d1 i4) ?_
      obtain ⟨u1,q2,q3⟩:=bT.el (sz:=3) rfl h6 i4
      cases q3
      refine aB (gO (t:=0) (vs:=[i64 e.F,i64 e.B,i64 e.To]) mB f1 q2 rfl rfl rfl) (cF (vs:=[i64 0,i64 0,i64 0]) Tryz.zeroValue63 f1 rfl (fun i5 u2 q4=>(cC (i:=0) (ns:=[i64 e.F,i64 e.B,i64 e.To]) (us:=[i64 e.F,i64 e.B,i64 e.To]) Tryz.sizeOf63 q4 rfl rfl rfl rfl rfl (dL rfl) rfl rfl (fun q5 (V:aL G K (box i5 63 [i64 e.F,i64 e.B,i64 e.To]::aN 2 K r u m::aN 2 K b c p::box d 29 l::L) q5)=>(aAf (aH (cT (C:=fun w'=>aL G K (box i5 63 [i64 e.F,i64 e.B,i64 e.To]::aN 2 K r u m::aN 2 K b c p::box d 29 l::L) w') bK (by kernel_rfl) (aL.mono V (dE.drew _)) (aQ (fun _ V=>bB (t':=0) fY rfl rfl) (aQ (fun _ V=>bR cP V (i:=0) rfl rfl rfl) (aQ (fun _ V=>bB (t':=2) iB rfl rfl) (aQ (fun _ V=>bR cP V (i:=0) rfl rfl rfl) (aQ (fun _ V=>aG (v:=i64 e.F) rfl) (aQ (fun _ V=>aG (v:=i64 e.To) rfl) (dC (fun u3 i6=>(aA (aBQ (fun f w=>∃ (d4:Int) (Z:Int),oG J p m y d4 Z=some c9∧f 2=zB o∧f 3=zP (some ⟨d,0,none⟩)∧f 7=zS b p.length c∧f 8=zS r m.length u∧f 11=i64 J∧f 14=i64 d4∧f 15=i64 Z∧f 41=zS a4 t.E.length c5∧f 42=i64 (t.E.length:Int)∧f 43=i64 y∧aL G K (aN 2 K r u m::aN 2 K b c p::box d 29 l::L) w) ?_ ?_)))))))))))))))))
      ·rintro f u4 ⟨d4,Z,a,i7,i8,f3,i9,f4,q6,f5,j0,j1,j2,d5⟩
       unfold oG at a
       refine aH (cS (fun f w=>∃ (f6:Bool),lV J p m y Z f6=some c9∧f 2=zB o∧f 3=zP (some ⟨d,0,none⟩)∧f 7=zS b p.length c∧f 8=zS r m.length u∧f 11=i64 J∧f 15=i64 Z∧f 41=zS a4 t.E.length c5∧f 42=i64 (t.E.length:Int)∧f 43=i64 y∧f 64=zB f6∧aL G K (aN 2 K r u m::aN 2 K b c p::box d 29 l::L) w) ?_ ?_)
       ·rintro f u5 ⟨f6,a,j3,j4,d6,j5,f7,j6,j7,j8,j9,k0,d7⟩
        unfold lV at a
        refine aA ?_
        rcases aK a with ⟨f8,a⟩|⟨f8,a⟩
        ·refine aO f8 k0 (aAZ (aCv d6 (aCv j6 (aCv d6 (aCv f7 ?_)))))
         obtain ⟨k1,f9,a⟩:=aI a
         have k2:=cG d7 (i:=1) rfl f9
         refine aB (dA bW rfl k2 rfl rfl rfl f9) (aB (kA (t:=0) cP d7 (i:=1) rfl f9 rfl rfl rfl) (aB (cX rfl rfl) ?_))
         obtain ⟨u6,k3,a⟩:=aI a
         refine aB (dA bW rfl k2 rfl rfl rfl k3) ?_
         obtain ⟨d8,k4,a⟩:=aI a
         refine kV (i:=1) (t:=0) (ns:=[i64 (wr (k1+1))]) (e':=(wr (k1+1):Int)) Tryz.sizeOf2 d7 rfl (zR _) rfl rfl rfl k3 k4 rfl rfl (dL rfl) rfl (fun cs h=>by cases h;rfl) (fun q7 (q8:aL G K (aN 2 K r u m::aN 2 K b c d8::box d 29 l::L) q7)=>(aAf (aC (aCv j5 (aCv j6 (dM (Kt:=K) (xs:=([Z]:List Int)) (cs:=[i64 Z]) (vs:=[(0,i64 Z)]) bW tU rfl rfl q8 rfl (by kernel_rfl) rfl rfl rfl ⟨rfl,trivial⟩ (fun q9 r0 (r1:aL G K (aN 2 K q9 1 ([Z]:List Int)::aN 2 K r u m::aN 2 K b c d8::box d 29 l::L) r0)=>?_)))))))
         obtain ⟨g0,r2,a⟩:=aI a
         exact iY (i:=0) bW Tryz.underlying38 tU rfl rfl r1 rfl (zR _) (zR _) r2 rfl rfl rfl rfl (fun _ h=>h) (fun g1 g2 r3 (r4:aL G K (aN 2 K g1 g2 g0::aN 2 K b c d8::box d 29 l::L) r3)=>(pM (v:=zS g1 g0.length g2) (aF (bG (aA ⟨d8,g0,g1,g2,a,j3,j4,(Eq.trans d6 (congrArg (fun n=>zS b n c) (iN k4))),rfl,f7,j7,j8,j9,r4⟩)))))
        ·exact aM f8 k0 (aW (bG (aA ⟨p,m,r,u,a,j3,j4,d6,j5,f7,j7,j8,j9,d7⟩)))
       refine aC (aCv q6 (aCv f4 (aB (oY rfl rfl) (aBl (v:=zB (d4 == J)) ?_))))
       rcases aK a with ⟨x,a⟩|⟨x,a⟩
       ·refine bE x rfl rfl (aCv f3 (bE x rfl rfl (aCv f5 (bE x rfl rfl ?_))))
        obtain ⟨k5,g3,a⟩:=aI a
        have r5:=cG d5 (i:=1) rfl g3
        exact aB (dA bW rfl r5 rfl rfl rfl g3) (bE x rfl rfl (aB (kA (t:=0) cP d5 (i:=1) rfl g3 rfl rfl rfl) (bE x rfl rfl (aB (cJ rfl rfl) (aB (bI (v:=zB (decide (k5 < 0))) x rfl rfl) (aAf ⟨decide (k5 < 0),a,i7,i8,f3,i9,f4,f5,j0,j1,j2,rfl,d5⟩))))))
       ·exact aV x rfl rfl (aV x rfl rfl (aV x rfl rfl (aV x rfl rfl (aV x rfl rfl (aB (bJ (v:=zB false) x rfl rfl) (aAf ⟨false,a,i7,i8,f3,i9,f4,f5,j0,j1,j2,rfl,d5⟩))))))
      refine aAZ (aCv d0 (aB (dY rfl) (aAf ?_)))
      rcases aK a with ⟨g4,a⟩|⟨g4,a⟩
      ·exact aO g4 rfl (aC (aBl (v:=i64 e.To) (aBl (v:=i64 e.F) (pM (v:=i64 e.To) (pM (v:=i64 e.F) (aAf ⟨e.To,e.F,a,d0,e6,e7,e8,i3,rfl,rfl,e9,f0,d1,(aL.arr 1 [] i6 rfl)⟩))))))
      ·exact aM g4 rfl (aW (aA ⟨e.F,e.To,a,d0,e6,e7,e8,i3,rfl,rfl,e9,f0,d1,(aL.arr 1 [] i6 rfl)⟩))
     ·refine aM f2 rfl (cB (aY (aY ?_)))
      have r6:=p2 _ (zI a).symm
      subst r6
      have j:(rU p m)=some c1:=j
      exact bO (aA ⟨p,m,r,u,j,d0,e6,e7,e8,f1⟩)
   ·refine aM e2 rfl (cB (aY (aY ?_)))
    have r7:=n7 _ (zI j).symm
    subst r7
    have k:(rT a5)=some R:=k
    exact bO (aA ⟨a5,k,h7,(aL.arr 3 [1] b0 rfl)⟩)
 obtain ⟨u7,r8,k⟩:=aI k
 refine cD r8 (fun (s:(List Int × Int)) f w=>match s with|(a6,b7)=>f 2=zB o∧f 3=zP (some ⟨d,0,none⟩)∧f 7=zS b a6.length c∧f 8=zS a2 a0.length a3∧f 22=zS a7 z.length c8∧f 23=i64 (z.length:Int)∧f 24=i64 b7∧aL G K (aN 2 K a2 a3 a0::aN 2 K b c a6::box d 29 l::L) w) ?_ ?_
 ·exact ⟨rfl,rfl,rfl,rfl,rfl,rfl,rfl,(aL.arr 2 [0] m6 rfl)⟩
 ·rintro ⟨a6,b7⟩ r9 f u8 q s0 ⟨k6,k7,g5,k8,k9,l0,g6,d9⟩
  replace q:nJ z a6 b7=some r9:=q
  unfold nJ at q
  refine aAZ (aB (cJ g6 l0) (aAf (aH ?_)))
  rcases aK q with ⟨g7,q⟩|⟨g7,q⟩
  ·refine aO g7 rfl (aW (aA (aH (cU (aAZ ?_)))))
   obtain ⟨l1,l2,q⟩:=aI q
   refine aB (cO bW rfl h9 k9 rfl g6 l2) ?_
   obtain ⟨u9,s1,s2⟩:=bT.el (sz:=1) rfl h9 l2
   cases s2
   refine aB (bH (t:=0) cP d9 s1 rfl rfl) (pM (v:=i64 l1) (aAf (aC (aCv g5 (aBl (v:=i64 l1) ?_)))))
   obtain ⟨v0,g8,q⟩:=aI q
   have s3:=cG d9 (i:=1) rfl g8
   refine aB (dA bW rfl s3 rfl rfl rfl g8) ?_
   obtain ⟨l3,l4,q⟩:=aI q
   exact kV (i:=1) (t:=0) (ns:=[i64 0]) (e':=(0:Int)) Tryz.sizeOf2 d9 rfl (zR _) rfl rfl rfl g8 l4 rfl rfl (dL rfl) rfl (fun cs h=>by cases h;rfl) (fun s4 (s5:aL G K (aN 2 K a2 a3 a0::aN 2 K b c l3::box d 29 l::L) s4)=>(aF (bG (aA (aC (aB (cX g6 rfl) (aBl (v:=i64 (wr (b7+1))) (aAf ⟨(l3,wr (b7+1)),(zI q).symm,k6,k7,(Eq.trans g5 (congrArg (fun n=>zS b n c) (iN l4))),k8,k9,l0,rfl,s5⟩))))))))
  ·refine aM g7 rfl (cB (aY (aY ?_)))
   have s6:=s0 _ (zI q).symm
   subst s6
   have k:(oI t o a0 a6)=some R:=k
   exact bO (aA ⟨a6,k,k6,k7,g5,k8,d9⟩)
theorem aMj {n:Int} {R:(List Int)} (J:aL G K (L) w) (c:aIn n=some R):
  Calls Tryz.prog 88 ([i64 n]:List Value).toArray w (fV fun v w'=>∃ (t:Option Addr) (u:Nat),v=zS t R.length u∧aL G K (aN 2 K t u R::L) w'):=by
 refine aT Tryz.func88 rfl (by kernel_rfl) (by show (1:Nat)≤15;decide) ?_
 unfold aIn at c
 refine aAZ (pM (v:=zS none 0 0) (aAf (aAZ (pM (v:=zS none 0 0) (aAf (aH (aAZ (aBl (v:=i64 n) (aBl (v:=i64 0) (aAf (bD (fun f w=>∃ (e:List Int) (g:Option Addr) (j:Nat),aFe e=some R∧f 3=zS g e.length j∧aL G K (aN 2 K g j e::L) w) ?_ ?_)))))))))))
 ·rintro f w5 ⟨e,g,j,c,V,Z⟩
  unfold aFe at c
  refine aA (aAZ (aCv V (pM (v:=zS g e.length j) (aAf ?_))))
  cases zI c
  exact bF (bC Tryz.results88 rfl ⟨g,j,rfl,Z⟩)
 have a1:=aL.nil (α:=Int) J 2 K
 obtain ⟨b4,a3,c⟩:=aI c
 refine cD a3 (fun (s:(List Int × Int)) f w=>match s with|(d,a)=>∃ (k:Option Addr) (l:Nat),f 3=zS k d.length l∧f 5=i64 n∧f 6=i64 a∧aL G K (aN 2 K k l d::L) w) ?_ ?_
 ·exact ⟨none,0,rfl,rfl,rfl,a1⟩
 ·rintro ⟨d,a⟩ a4 f b5 b a5 ⟨k,l,x,y,m,z⟩
  replace b:aBM n d a=some a4:=b
  unfold aBM at b
  refine aAZ (aB (cJ m y) (aAf (aH ?_)))
  rcases aK b with ⟨o,b⟩|⟨o,b⟩
  ·refine aO o rfl (aW (aA (aH (cU (aAZ (aCv m (pM (v:=i64 a) (aAf (aC (aCv x (aBl (v:=i64 a) (dM (Kt:=K) (xs:=([a]:List Int)) (cs:=[i64 a]) (vs:=[(0,i64 a)]) bW tU rfl rfl z rfl (by kernel_rfl) rfl rfl rfl ⟨rfl,trivial⟩ (fun a6 a7 (a8:aL G K (aN 2 K a6 1 ([a]:List Int)::aN 2 K k l d::L) a7)=>?_)))))))))))))
   obtain ⟨p,a9,b⟩:=aI b
   exact iY (i:=0) bW Tryz.underlying38 tU rfl rfl a8 rfl (zR _) (zR _) a9 rfl rfl rfl rfl (fun _ h=>h) (fun q r b0 (b1:aL G K (aN 2 K q r p::L) b0)=>(pM (v:=zS q p.length r) (aF (bG (aA (aC (aB (cX m rfl) (aBl (v:=i64 (wr (a+1))) (aAf ⟨(p,wr (a+1)),(zI b).symm,q,r,rfl,y,rfl,b1⟩)))))))))
  ·refine aM o rfl (cB (aY (aY ?_)))
   have b2:=a5 _ (zI b).symm
   subst b2
   have c:(aFe d)=some R:=c
   exact bO (aA ⟨d,k,l,c,x,z⟩)
theorem xX {k:Int} {p:(List Int)} {c:Nat} {R:Bool} (b:aL G K (L) w) (g:fW K a1 c [zS a4 p.length c5]) (d:bT K a4 c5 p) (a:lX k p=some R):
  Calls Tryz.prog 89 ([i64 k,bY a1 c]:List Value).toArray w (fV fun v w'=>v=zB R∧aL G K (L) w'):=by
 refine aT Tryz.func89 rfl (by kernel_rfl) (by show (2:Nat)≤9;decide) ?_
 unfold lX at a
 refine aAZ (pM (v:=zB false) (aAf (aAZ (aB (bH (t:=0) mM b g rfl rfl) (aBl (v:=i64 k) ?_)))))
 obtain ⟨h,e,a⟩:=aI a
 refine aB (cO bW rfl d rfl rfl rfl e) ?_
 obtain ⟨m,i,j⟩:=bT.el (sz:=1) rfl d e
 cases j
 refine aB (bH (t:=0) cP b i rfl rfl) (aB (cJ rfl rfl) (pM (v:=zB (decide (h < 0))) (aAf ?_)))
 cases zI a
 exact bF (bC Tryz.results89 rfl ⟨rfl,b⟩)
theorem sS {d g:(List Int)} {e:Nat} {R:Int} (x:aL G K (L) w) (l:bT K a1 c2 d) (y:fW K a4 e [zS a7 g.length c8]) (z:bT K a7 c8 g) (b:eN d g=some R):
  Calls Tryz.prog 167 ([zS a1 d.length c2,Value.func (.func 89) #[] #[bY a4 e]]:List Value).toArray w (fV fun v w'=>v=i64 R∧aL G K (L) w'):=by
 refine aT Tryz.func167 rfl (by kernel_rfl) (by show (2:Nat)≤19;decide) ?_
 unfold eN at b
 refine aAZ (pM (v:=i64 0) (aAf (aH (aAZ (aBl (v:=zS a1 d.length c2) (aB (bQ (len:=d.length) bW rfl) (aBl (v:=i64 0) (aAf (bD (fun f w=>fL=some R∧aL G K (L) w) ?_ ?_)))))))))
 ·rintro f b0 ⟨b,J⟩
  unfold fL at b
  refine aA (aAZ (pM (v:=i64 (-1)) (aAf ?_)))
  cases zI b
  exact bF (bC Tryz.results167 rfl ⟨rfl,J⟩)
 obtain ⟨b1,Z,b⟩:=aI b
 refine cD Z (fun (c:Int) f w=>f 0=zS a1 d.length c2∧f 1=Value.func (.func 89) #[] #[bY a4 e]∧f 7=i64 (d.length:Int)∧f 8=i64 c∧aL G K (L) w) ?_ ?_
 ·exact ⟨rfl,rfl,rfl,rfl,x⟩
 ·rintro c a0 f b2 a m ⟨n,o,p,h,i⟩
  replace a:dN d g c=some a0:=a
  unfold dN at a
  refine aAZ (aB (cJ h p) (aAf (aH ?_)))
  rcases aK a with ⟨j,a⟩|⟨j,a⟩
  ·refine aO j rfl (aW (aA (aH (cU (aAZ (aCv h (pM (v:=i64 c) (aAf (aAZ (aCv o (aCv n (aBl (v:=i64 c) ?_))))))))))))
   obtain ⟨q,r,a⟩:=aI a
   refine aB (cO bW rfl l rfl rfl rfl r) ?_
   obtain ⟨b3,a2,a3⟩:=bT.el (sz:=1) rfl l r
   cases a3
   refine aB (bH (t:=0) cP i a2 rfl rfl) ?_
   obtain ⟨b4,a5,a⟩:=aI a
   refine kH (vs:=[i64 q]) (caps:=[bY a4 e]) (us:=[i64 q,bY a4 e]) rfl Tryz.call89 rfl rfl (xX i y z a5) ?_
   rintro _ b5 ⟨rfl,u⟩
   refine aAf ?_
   rcases aK a with ⟨k,a⟩|⟨k,a⟩
   ·refine aO k rfl (aAZ (aBl (v:=i64 c) (pM (v:=i64 c) (aAf (bF (bN (aS (aS ?_))))))))
    have a6:=m _ (zI a).symm
    subst a6
    have b:(some c)=some R:=b
    cases zI b
    exact bN (aS (aS (bC Tryz.results167 rfl ⟨rfl,u⟩)))
   ·exact aM k rfl (aW (bG (aA (aC (aB (cX h rfl) (aBl (v:=i64 (wr (c+1))) (aAf ⟨wr (c+1),(zI a).symm,n,o,p,rfl,u⟩)))))))
  ·refine aM j rfl (cB (aY (aY ?_)))
   have a9:=m _ (zI a).symm
   subst a9
   have b:(fL)=some R:=b
   exact bO (aA ⟨b,i⟩)
end Gv
