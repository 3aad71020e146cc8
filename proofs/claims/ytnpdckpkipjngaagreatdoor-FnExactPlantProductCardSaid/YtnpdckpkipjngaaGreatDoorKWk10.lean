/- Walks, printed by program. -/
import Derived.Test.YtnpdckpkipjngaaGreatDoorKWk2
import Derived.Test.YtnpdckpkipjngaaGreatDoorKWk3
import Derived.Test.YtnpdckpkipjngaaGreatDoorKWk8
import Derived.Test.YtnpdckpkipjngaaGreatDoorKWk9
set_option linter.all false
namespace Gv
open Go.Value renaming slice→zS,bool→zB,pointer→zP,agg→zA
open Option.some renaming inj→zI
open Gv.Hp renaming le_trans→zL,le_refl→zR
open Go Go.Proofs
set_option maxRecDepth 20000
set_option maxHeartbeats 40000000
variable {G:Env} {K Kf:Hp} {L:List nD} {w:World} {b1 c6 c9 c12 c15 c21 c24 c27 c29 c31 c2 c5 c8 c11 c14 c17:Nat} {a2 a5 a8 a11 a14 a17 a20 a23 a26 a28 a30 a1 a4 a7 a10 a13 a16:Option Addr}
theorem aCL {x0_:cI} {k3:Nat} {x1_:cH} {k18:Nat} {x2_:(List (List Int))} {x3_:(List Edge)} {x4_:Bool} {keep:(List Bool)} {R:(cH × (List (List Int)))} (hs:aN G K (aK 31 Kf a26 c27 x2_::aK 63 K a28 c29 x3_::box b1 84 [cS a2 k3,cS a17 k18,zS a26 x2_.length c27,zS a28 x3_.length c29,zB x4_]::L) w) (hKf:Hp.le Kf K) (h4:nY K a2 k3 (zE x0_ a5 c6 a8 c9 a11 c12 a14 c15)) (h7:cJ K a5 c6 x0_.S.L) (h10:cJ K a8 c9 x0_.S.E) (h13:cJ K a11 c12 x0_.M) (h16:cJ K a14 c15 x0_.C) (h19:nY K a17 k18 (zC x1_ a20 c21 a23 c24)) (h22:cJ K a20 c21 x1_.L) (h25:cJ K a23 c24 x1_.E) (h32:cJ K a30 c31 keep) (hm:lB x0_ x1_ x2_ x3_ x4_ keep=some R):
  Calls Tryz.prog 49 ([zP (some ⟨b1,0,none⟩),zS a30 keep.length c31]:List Value).toArray w (gV fun v w'=>∃ (K':Hp) (ra1:Option Addr) (rc1:Nat) (ra2:Option Addr) (rc2:Nat) (ra3:Option Addr) (rc3:Nat),v=Value.tuple #[zA (zCa R.1 ra1 rc1 ra2 rc2),zS ra3 R.2.length rc3]∧Hp.le K K'∧aN G K' (aK 9 K ra1 rc1 R.1.L::aK 63 K ra2 rc2 R.1.E::aK 31 K' ra3 rc3 R.2::aK 31 Kf a26 c27 x2_::aK 63 K a28 c29 x3_::box b1 84 [cS a2 k3,cS a17 k18,zS a26 x2_.length c27,zS a28 x3_.length c29,zB x4_]::L) w'):=by
 refine aW Tryz.func49 rfl (by kernel_rfl) (by show (2:Nat)≤110;decide) ?_
 unfold lB at hm
 refine aH (aC (cL (vs:=zG) Tryz.zeroValue30 hs rfl (fun a4 y2 m8=>(aB (aG (v:=zS none 0 0) rfl) (aD (aA (aH (aC (dA (Kt:=K) (xs:=([]:List (List Int))) (cs:=[]) (vs:=[]) eQ yN rfl rfl m8 rfl (by kernel_rfl) rfl rfl rfl trivial (fun g1 m9 (n0:aN G K (aK 31 K g1 0 ([]:List (List Int))::box a4 30 zG::aK 31 Kf a26 c27 x2_::aK 63 K a28 c29 x3_::box b1 84 [cS a2 k3,cS a17 k18,zS a26 x2_.length c27,zS a28 x3_.length c29,zB x4_]::L) m9)=>(aB (aG (v:=zS g1 ([]:List (List Int)).length 0) rfl) (aD (aA (aH (aH (aC (aB (aG (v:=i64 0) rfl) (aD (aA (bJ (fun f w=>∃ (b0:Hp) (a1:List (List Int)) (a6:Option Addr) (a7:Nat),Hp.le K b0∧jC x0_ x2_ x3_ keep a1=some R∧f 0=zP (some ⟨b1,0,none⟩)∧f 1=zS a30 keep.length c31∧f 4=zP (some ⟨a4,0,none⟩)∧f 6=zS a6 a1.length a7∧aN G b0 (aK 31 b0 a6 a7 a1::box a4 30 zG::aK 31 Kf a26 c27 x2_::aK 63 K a28 c29 x3_::box b1 84 [cS a2 k3,cS a17 k18,zS a26 x2_.length c27,zS a28 x3_.length c29,zB x4_]::L) w) ?_ ?_))))))))))))))))))))
 ·rintro f y3 ⟨b0,a1,a6,a7,b3,hm,n1,n2,n3,n4,n5⟩
  unfold jC at hm
  refine aA (aH (aC (dA (Kt:=K) (xs:=([]:List Edge)) (cs:=[]) (vs:=[]) cZ aAm rfl rfl n5 rfl (by kernel_rfl) rfl rfl rfl trivial (fun g2 n6 (n7:aN G b0 (aK 63 K g2 0 ([]:List Edge)::aK 31 b0 a6 a7 a1::box a4 30 zG::aK 31 Kf a26 c27 x2_::aK 63 K a28 c29 x3_::box b1 84 [cS a2 k3,cS a17 k18,zS a26 x2_.length c27,zS a28 x3_.length c29,zB x4_]::L) n6)=>(aB (aG (v:=zS g2 ([]:List Edge).length 0) rfl) (aD (aA (aH (aH (aC (aB (aG (v:=i64 0) rfl) (aD (aA (bJ (fun f w=>∃ (d1:List Edge) (e2:Option Addr) (e3:Nat),iZ x0_ x2_ a1 d1=some R∧f 0=zP (some ⟨b1,0,none⟩)∧f 4=zP (some ⟨a4,0,none⟩)∧f 6=zS a6 a1.length a7∧f 8=zS e2 d1.length e3∧aN G b0 (aK 63 K e2 e3 d1::aK 31 b0 a6 a7 a1::box a4 30 zG::aK 31 Kf a26 c27 x2_::aK 63 K a28 c29 x3_::box b1 84 [cS a2 k3,cS a17 k18,zS a26 x2_.length c27,zS a28 x3_.length c29,zB x4_]::L) w) ?_ ?_))))))))))))))
  ·rintro f y4 ⟨d1,e2,e3,hm,j1,j2,g3,n8,n9⟩
   unfold iZ at hm
   refine aA (aH ?_)
   obtain ⟨y5,c5,j3,o0,o1⟩:=aN.lendS (i:=3) n9 (zL hKf b3) rfl
   obtain ⟨j4,b8,j5,j6,o2⟩:=aN.lendB (i:=4) o0 rfl
   refine hJ (C:=fun w'=>∃ L',aN G j4 L' w') [(0,0),(1,0),(2,0),(3,0),(4,0),(5,0),(6,0),(7,0),(8,0),(10,0),(11,0),(12,0),(13,0),(14,0),(15,0),(16,0),(17,0),(18,0),(20,0),(9,1),(19,1),(21,1),(22,2)] bQ (by kernel_rfl) (fun _ hg=>⟨_,aN.mono j6 hg⟩) (fun y6 o3=>?_)
   have b9:=aN.mono j6 o3
   refine cD rfl (fun _ _=>aF g3) (cD rfl (fun _ _=>bR (len:=a1.length) eQ rfl) (cD rfl (fun _ _=>aF g3) (cD rfl (fun _ _=>aF j1) (cD rfl (fun _ _=>eR rfl) (cD rfl (fun _ _=>bD (t':=2) qY rfl rfl) (cD rfl (fun _ ⟨_,b9⟩=>bP (t:=2) uD b9 j5 rfl rfl) ?_))))))
   obtain ⟨o4,g4,hm⟩:=aJ hm
   have o5:=aFs (j3.mono b8) g4
   refine cD rfl (fun _ _=>eY eQ rfl o5 rfl rfl rfl g4) ?_
   obtain ⟨y7,o6,o7⟩:=cJ.el (sz:=1) rfl (j3.mono b8) g4
   obtain ⟨o8,o9,rfl,p0⟩:=o7
   refine cD rfl (fun _ ⟨_,b9⟩=>bP (t:=0) kD b9 o6 rfl rfl) (cD rfl (fun _ _=>aF j1) (cD rfl (fun _ _=>eR rfl) (cD rfl (fun _ _=>bD (t':=0) fa_84_0 rfl rfl) (cD rfl (fun _ ⟨_,b9⟩=>bP (t:=0) sc_79 b9 j5 rfl rfl) (cD rfl (fun _ _=>eX rfl (h4.mono (zL (zL b3 c5) b8))) (cD rfl (fun _ _=>dC (k':=k3+0) kK rfl (h4.mono (zL (zL b3 c5) b8)) rfl) (cD rfl (fun _ _=>dC (k':=k3+2) iO rfl (h4.mono (zL (zL b3 c5) b8)) rfl) (cD rfl (fun _ ⟨_,b9⟩=>bP (t:=2) jK b9 (h4.mono (zL (zL b3 c5) b8)) rfl rfl) (cD rfl (fun _ _=>aF n8) (cD rfl (fun _ _=>aF g3) (nZ rfl ?_)))))))))))
   obtain ⟨y8,p1,p2,p3,p4⟩:=aN.lendS (i:=1) b9 (zL c5 b8) rfl
   obtain ⟨p5,p6,hm⟩:=aJ hm
   refine aX (vs:=[zS a6 a1.length a7,zS o8 o4.length o9]) Tryz.call93 rfl (aAh p3 p2 (p0.mono p1) p6) ?_
   rintro _ y9 ⟨rfl,p7⟩
   have j7:=p4 _ _ p7
   refine aD (aA ⟨⟨_,j7⟩,?_⟩)
   refine nZ rfl ?_
   obtain ⟨z0,p8,p9,q0,q1⟩:=aN.lendS (i:=1) j7 (zL (zL b3 c5) b8) rfl
   obtain ⟨b2,q2,hm⟩:=aJ hm
   refine aX (vs:=[i64 (a1.length:Int),i64 p5,zS a5 x0_.S.L.length c6,zS e2 d1.length e3]) Tryz.call95 rfl (aJN q0 (h7.mono (zL (zL (zL b3 c5) b8) p8)) p9 q2) ?_
   rintro _ z1 ⟨d2,d3,d4,d5,rfl,q3⟩
   have j8:=q1 _ _ q3
   refine aD (aA ⟨⟨_,j8⟩,?_⟩)
   refine nZ rfl (cM (i:=4) (ns:=(zC b2 d2 d3 d4 d5)) (us:=(zC b2 d2 d3 d4 d5)) Tryz.sizeOf30 j8 rfl j2 rfl rfl rfl (eD rfl) rfl rfl (fun q4 (j9:aN G j4 (aK 63 K e2 e3 d1::aK 9 K d2 d3 b2.L::aK 63 K d4 d5 b2.E::aK 31 b0 a6 a7 a1::box a4 30 (zC b2 d2 d3 d4 d5)::aK 63 K a28 c29 x3_::L) q4)=>(aD (aA ⟨⟨_,j9⟩,?_⟩))))
   have q5:=o2 _ _ j9
   have k0:=o1 _ _ q5
   refine aGd rfl (aB (aG (v:=zS a6 a1.length a7) rfl) (aD (aA (qQ (aA ?_)))))
   cases zI hm
   exact bC (retQ_m2 Tryz.results49 (oA (vs:=(zC b2 d2 d3 d4 d5)) rfl kE k0 (i:=6) rfl j2 rfl) (wU rfl rfl) ⟨b0,d2,d3,d4,d5,a6,a7,rfl,b3,(aN.arr 8 [3,4,5,0,7,1] k0 rfl)⟩)
  obtain ⟨z2,q7,hm⟩:=aJ hm
  refine cP q7 (fun (s:(List Edge × Int)) f w=>match s with|(b6,c0)=>∃ (c1:Option Addr) (c2:Nat),f 0=zP (some ⟨b1,0,none⟩)∧f 1=zS a30 keep.length c31∧f 4=zP (some ⟨a4,0,none⟩)∧f 6=zS a6 a1.length a7∧f 8=zS c1 b6.length c2∧f 9=i64 c0∧aN G b0 (aK 63 K c1 c2 b6::aK 31 b0 a6 a7 a1::box a4 30 zG::aK 31 Kf a26 c27 x2_::aK 63 K a28 c29 x3_::box b1 84 [cS a2 k3,cS a17 k18,zS a26 x2_.length c27,zS a28 x3_.length c29,zB x4_]::L) w) ?_ ?_
  ·exact ⟨g2,0,n1,n2,n3,n4,rfl,rfl,n7⟩
  ·rintro ⟨b6,c0⟩ g5 f z3 a0 q8 ⟨c1,c2,e4,f2,g6,g7,g8,f3,d6⟩
   replace a0:fZ x2_ x3_ keep a1 b6 c0=some g5:=a0
   unfold fZ at a0
   refine aH (aH (aC (aB (aF f3) (aB (aF e4) (aB (eR rfl) (aB (bD (t':=3) aGK rfl rfl) (aB (bY jQ d6 (i:=5) rfl rfl rfl) (aB (bR (len:=x3_.length) cZ rfl) (aB (cK rfl rfl) (aD (aA ?_)))))))))))
   rcases aM a0 with ⟨g9,a0⟩|⟨g9,a0⟩
   ·refine aQ g9 rfl (aY (aA (aH (bJ (fun f w=>∃ (e5:List Edge) (f4:Option Addr) (f5:Nat),jA c0 e5=some g5∧f 0=zP (some ⟨b1,0,none⟩)∧f 1=zS a30 keep.length c31∧f 4=zP (some ⟨a4,0,none⟩)∧f 6=zS a6 a1.length a7∧f 8=zS f4 e5.length f5∧f 9=i64 c0∧aN G b0 (aK 63 K f4 f5 e5::aK 31 b0 a6 a7 a1::box a4 30 zG::aK 31 Kf a26 c27 x2_::aK 63 K a28 c29 x3_::box b1 84 [cS a2 k3,cS a17 k18,zS a26 x2_.length c27,zS a28 x3_.length c29,zB x4_]::L) w) ?_ ?_))))
    ·rintro f z4 ⟨e5,f4,f5,a0,q9,r0,r1,r2,r3,r4,r5⟩
     unfold jA at a0
     exact aA (aC (aB (aF r4) (aB (cY rfl rfl) (aB (aG (v:=i64 (wr (c0+1))) rfl) (aD (aA ⟨(e5,wr (c0+1)),(zI a0).symm,f4,f5,q9,r0,r1,r2,r3,rfl,r5⟩))))))
    refine aH (aC (aB (aF e4) (aB (eR rfl) (aB (bD (t':=3) aGK rfl rfl) (aB (bY jQ d6 (i:=5) rfl rfl rfl) (aB (aF f3) ?_))))))
    obtain ⟨a3,h0,a0⟩:=aJ a0
    have r6:=dH d6 (i:=4) rfl h0
    refine aB (eY cZ rfl r6 rfl rfl rfl h0) (aB (aCA (t:=0) (vs:=[i64 a3.F,i64 a3.B,i64 a3.To]) oC d6 (i:=4) rfl h0 rfl rfl rfl rfl) (cL (vs:=[i64 0,i64 0,i64 0]) Tryz.zeroValue63 d6 rfl (fun h1 z5 r7=>(cM (i:=0) (ns:=[i64 a3.F,i64 a3.B,i64 a3.To]) (us:=[i64 a3.F,i64 a3.B,i64 a3.To]) Tryz.sizeOf63 r7 rfl rfl rfl rfl rfl (eD rfl) rfl rfl (fun r8 (d7:aN G b0 (box h1 63 [i64 a3.F,i64 a3.B,i64 a3.To]::aK 63 K c1 c2 b6::aK 31 b0 a6 a7 a1::box a4 30 zG::aK 31 Kf a26 c27 x2_::aK 63 K a28 c29 x3_::box b1 84 [cS a2 k3,cS a17 k18,zS a26 x2_.length c27,zS a28 x3_.length c29,zB x4_]::L) r8)=>(aD (aA (aH (cU (fun f w=>∃ (h2:Bool),jB x2_ a1 b6 c0 a3 h2=some g5∧f 0=zP (some ⟨b1,0,none⟩)∧f 1=zS a30 keep.length c31∧f 4=zP (some ⟨a4,0,none⟩)∧f 6=zS a6 a1.length a7∧f 8=zS c1 b6.length c2∧f 9=i64 c0∧f 10=zP (some ⟨h1,0,none⟩)∧f 62=zB h2∧aN G b0 (box h1 63 [i64 a3.F,i64 a3.B,i64 a3.To]::aK 63 K c1 c2 b6::aK 31 b0 a6 a7 a1::box a4 30 zG::aK 31 Kf a26 c27 x2_::aK 63 K a28 c29 x3_::box b1 84 [cS a2 k3,cS a17 k18,zS a26 x2_.length c27,zS a28 x3_.length c29,zB x4_]::L) w) ?_ ?_)))))))))
    ·rintro f z6 ⟨h2,a0,f6,k1,k2,f7,k4,k5,h3,k6,k7⟩
     unfold jB at a0
     refine aA ?_
     rcases aM a0 with ⟨h5,a0⟩|⟨h5,a0⟩
     ·refine aQ h5 k6 ?_
      obtain ⟨z7,e6,h6,r9,s0⟩:=aN.lendB (i:=0) k7 rfl
      obtain ⟨z8,c7,h8,s1,s2⟩:=aN.lendS (i:=3) r9 (zL (zL hKf b3) e6) rfl
      obtain ⟨h9,b7,k8,k9,s3⟩:=aN.lendB (i:=4) s1 rfl
      refine hJ (C:=fun w'=>∃ L',aN G h9 L' w') [(0,0),(1,0),(2,0),(3,0),(4,0),(5,0),(6,0),(7,0),(8,0),(9,0),(11,0),(12,0),(13,0),(14,0),(15,0),(16,0),(17,0),(18,0),(19,0),(20,0),(21,0),(10,1),(22,1),(23,0),(24,1),(25,1),(26,0)] bQ (by kernel_rfl) (fun _ hg=>⟨_,aN.mono k9 hg⟩) (fun z9 s4=>?_)
      have b4:=aN.mono k9 s4
      refine cD rfl (fun _ _=>aF k4) (cD rfl (fun _ _=>aF f7) (cD rfl (fun _ _=>aF f6) (cD rfl (fun _ _=>eR rfl) (cD rfl (fun _ _=>bD (t':=2) qY rfl rfl) (cD rfl (fun _ ⟨_,b4⟩=>bP (t:=2) uD b4 k8 rfl rfl) (cD rfl (fun _ _=>bD (t':=0) iX h3 rfl) (cD rfl (fun _ ⟨_,b4⟩=>bP (t:=0) dF b4 (h6.mono (zL c7 b7)) rfl rfl) ?_)))))))
      obtain ⟨s5,i0,a0⟩:=aJ a0
      have l0:=aFs (h8.mono b7) i0
      refine cD rfl (fun _ _=>eY eQ rfl l0 rfl rfl rfl i0) ?_
      obtain ⟨a00,s6,s7⟩:=cJ.el (sz:=1) rfl (h8.mono b7) i0
      obtain ⟨s8,s9,rfl,t0⟩:=s7
      refine cD rfl (fun _ ⟨_,b4⟩=>bP (t:=0) kD b4 s6 rfl rfl) (cD rfl (fun _ _=>bD (t':=1) gO h3 rfl) (cD rfl (fun _ ⟨_,b4⟩=>bP (t:=1) dF b4 (h6.mono (zL c7 b7)) rfl rfl) (cD rfl (fun _ _=>aF f7) (cD rfl (fun _ _=>aF f6) (cD rfl (fun _ _=>eR rfl) (cD rfl (fun _ _=>bD (t':=2) qY rfl rfl) (cD rfl (fun _ ⟨_,b4⟩=>bP (t:=2) uD b4 k8 rfl rfl) (cD rfl (fun _ _=>bD (t':=2) lY h3 rfl) (cD rfl (fun _ ⟨_,b4⟩=>bP (t:=2) dF b4 (h6.mono (zL c7 b7)) rfl rfl) ?_)))))))))
      obtain ⟨t1,l1,a0⟩:=aJ a0
      refine cD rfl (fun _ _=>eY eQ rfl l0 rfl rfl rfl l1) ?_
      obtain ⟨a01,t2,t3⟩:=cJ.el (sz:=1) rfl (h8.mono b7) l1
      obtain ⟨t4,t5,rfl,t6⟩:=t3
      refine cD rfl (fun _ ⟨_,b4⟩=>bP (t:=0) kD b4 t2 rfl rfl) (nZ rfl ?_)
      obtain ⟨a02,t7,t8,t9,u0⟩:=aN.lendS (i:=1) b4 (zL (zL e6 c7) b7) rfl
      obtain ⟨d8,u1,a0⟩:=aJ a0
      refine aX (vs:=[zS a6 a1.length a7,zS s8 s5.length s9]) Tryz.call93 rfl (aAh t9 t8 (t0.mono t7) u1) ?_
      rintro _ a03 ⟨rfl,u2⟩
      have l2:=u0 _ _ u2
      refine aD (aA ⟨⟨_,l2⟩,?_⟩)
      refine nZ rfl ?_
      obtain ⟨a04,u3,u4,u5,u6⟩:=aN.lendS (i:=0) l2 (zL (zL e6 c7) b7) rfl
      obtain ⟨d9,u7,a0⟩:=aJ a0
      refine aX (vs:=[zS a6 a1.length a7,zS t4 t1.length t5]) Tryz.call93 rfl (aAh u5 u4 (t6.mono u3) u7) ?_
      rintro _ a05 ⟨rfl,u8⟩
      have l3:=u6 _ _ u8
      refine aD (aA ⟨⟨_,l3⟩,?_⟩)
      refine cD rfl (fun _ _=>gW (vs:=[(0,i64 d8),(1,i64 a3.B),(2,i64 d9)]) (cs:=[i64 d8,i64 a3.B,i64 d9]) bs_63 rfl (by kernel_rfl)) (nZ rfl (dA (Kt:=K) (xs:=([⟨d8,a3.B,d9⟩]:List Edge)) (cs:=[i64 d8,i64 a3.B,i64 d9]) (vs:=[(0,zA #[i64 d8,i64 a3.B,i64 d9])]) cZ aAm rfl rfl l3 rfl (by kernel_rfl) rfl rfl rfl ⟨rfl,trivial⟩ (fun u9 v0 (l4:aN G h9 (aK 63 K u9 1 ([⟨d8,a3.B,d9⟩]:List Edge)::aK 31 b0 a6 a7 a1::aK 63 K c1 c2 b6::box a4 30 zG::aK 63 K a28 c29 x3_::L) v0)=>(aD (aA ⟨⟨_,l4⟩,?_⟩)))))
      refine nZ rfl ?_
      obtain ⟨i1,v1,a0⟩:=aJ a0
      refine jO (i:=1) cZ Tryz.underlying28 aAm rfl rfl l4 rfl (zL (zL (zL b3 e6) c7) b7) (zL (zL (zL b3 e6) c7) b7) v1 rfl rfl rfl rfl (fun _ h=>h) (fun i2 i3 v2 (l5:aN G h9 (aK 31 b0 a6 a7 a1::aK 63 K i2 i3 i1::box a4 30 zG::aK 63 K a28 c29 x3_::L) v2)=>(aD (aA ⟨⟨_,l5⟩,?_⟩)))
      refine cD rfl (fun _ _=>aG (v:=zS i2 i1.length i3) rfl) (qQ ?_)
      have v3:=s3 _ _ l5
      have v4:=s2 _ _ v3
      have v5:=s0 _ _ v4
      exact bO (aA ⟨i1,i2,i3,a0,f6,k1,k2,f7,rfl,k5,(aN.arr 7 [4,3,5,1,6,2] v5 rfl)⟩)
     ·exact aO h5 k6 (aY (bO (aA ⟨b6,c1,c2,a0,f6,k1,k2,f7,k4,k5,(aN.arr 1 [] k7 rfl)⟩)))
    refine aC (aB (aF f2) (aB (bD (t':=0) iX rfl rfl) (aB (bY dF d7 (i:=0) rfl rfl rfl) ?_)))
    obtain ⟨v6,l6,a0⟩:=aJ a0
    refine aB (cV aCc rfl (h32.mono b3) rfl rfl rfl l6) ?_
    obtain ⟨a06,v7,v8⟩:=cJ.el (sz:=1) rfl h32 l6
    cases v8
    refine aB (bP (t:=0) sc_4 d7 (v7.mono b3) rfl rfl) (aB (aF (v:=zB v6) rfl) ?_)
    rcases aM a0 with ⟨b5,a0⟩|⟨b5,a0⟩
    ·refine bK b5 rfl rfl (aB (aF f2) (bK b5 rfl rfl (aB (bD (t':=2) lY rfl rfl) (bK b5 rfl rfl (aB (bY dF d7 (i:=0) rfl rfl rfl) (bK b5 rfl rfl ?_))))))
     obtain ⟨l7,l8,a0⟩:=aJ a0
     refine aB (cV aCc rfl (h32.mono b3) rfl rfl rfl l8) ?_
     obtain ⟨a07,v9,w0⟩:=cJ.el (sz:=1) rfl h32 l8
     cases w0
     exact bK b5 rfl rfl (aB (bP (t:=0) sc_4 d7 (v9.mono b3) rfl rfl) (aB (bH (v:=zB l7) b5 rfl rfl) (aD (aA ⟨l7,a0,e4,f2,g6,g7,g8,f3,rfl,rfl,d7⟩))))
    ·exact bE b5 rfl rfl (bE b5 rfl rfl (bE b5 rfl rfl (bE b5 rfl rfl (bE b5 rfl rfl (aB (bL (v:=zB false) b5 rfl rfl) (aD (aA ⟨false,a0,e4,f2,g6,g7,g8,f3,rfl,rfl,d7⟩)))))))
   ·refine aO g9 rfl (cN (bB (bB ?_)))
    have w1:=q8 _ (zI a0).symm
    subst w1
    have hm:(iZ x0_ x2_ a1 b6)=some R:=hm
    exact bS (aA ⟨b6,c1,c2,hm,e4,g6,g7,g8,d6⟩)
 obtain ⟨a08,w2,hm⟩:=aJ hm
 refine cP w2 (fun (s:(List (List Int) × Int)) f w=>match s with|(c3,c8)=>∃ (d0:Hp) (e0:Option Addr) (e1:Nat),Hp.le K d0∧f 0=zP (some ⟨b1,0,none⟩)∧f 1=zS a30 keep.length c31∧f 4=zP (some ⟨a4,0,none⟩)∧f 6=zS e0 c3.length e1∧f 7=i64 c8∧aN G d0 (aK 31 d0 e0 e1 c3::box a4 30 zG::aK 31 Kf a26 c27 x2_::aK 63 K a28 c29 x3_::box b1 84 [cS a2 k3,cS a17 k18,zS a26 x2_.length c27,zS a28 x3_.length c29,zB x4_]::L) w) ?_ ?_
 ·exact ⟨K,g1,0,(zR _),rfl,rfl,rfl,rfl,rfl,n0⟩
 ·rintro ⟨c3,c8⟩ l9 f w3 a9 w4 ⟨d0,e0,e1,e7,e8,f8,i4,i5,e9,c4⟩
  replace a9:gA x2_ keep c3 c8=some l9:=a9
  unfold gA at a9
  refine aH (aH (aC (aB (aF e9) (aB (aF e8) (aB (eR rfl) (aB (bD (t':=2) qY rfl rfl) (aB (bY uD c4 (i:=4) rfl rfl rfl) (aB (bR (len:=x2_.length) eQ rfl) (aB (cK rfl rfl) (aD (aA ?_)))))))))))
  rcases aM a9 with ⟨i6,a9⟩|⟨i6,a9⟩
  ·refine aQ i6 rfl (aY (aA (aH (bJ (fun f w=>∃ (f0:Hp) (f1:List (List Int)) (f9:Option Addr) (g0:Nat),Hp.le d0 f0∧jD c8 f1=some l9∧f 0=zP (some ⟨b1,0,none⟩)∧f 1=zS a30 keep.length c31∧f 4=zP (some ⟨a4,0,none⟩)∧f 6=zS f9 f1.length g0∧f 7=i64 c8∧aN G f0 (aK 31 f0 f9 g0 f1::box a4 30 zG::aK 31 Kf a26 c27 x2_::aK 63 K a28 c29 x3_::box b1 84 [cS a2 k3,cS a17 k18,zS a26 x2_.length c27,zS a28 x3_.length c29,zB x4_]::L) w) ?_ ?_))))
   ·rintro f a09 ⟨f0,f1,f9,g0,w5,a9,w6,w7,w8,w9,x0,x1⟩
    unfold jD at a9
    exact aA (aC (aB (aF x0) (aB (cY rfl rfl) (aB (aG (v:=i64 (wr (c8+1))) rfl) (aD (aA ⟨(f1,wr (c8+1)),(zI a9).symm,f0,f9,g0,(zL e7 w5),w6,w7,w8,w9,rfl,x1⟩))))))
   refine aH (aC (aB (aF f8) (aB (aF e9) ?_)))
   obtain ⟨a10,m0,a9⟩:=aJ a9
   refine aB (cV aCc rfl (h32.mono e7) rfl rfl rfl m0) ?_
   obtain ⟨a12,x2,x3⟩:=cJ.el (sz:=1) rfl h32 m0
   cases x3
   refine aB (bP (t:=0) sc_4 c4 (x2.mono e7) rfl rfl) (aD (aA ?_))
   rcases aM a9 with ⟨i7,a9⟩|⟨i7,a9⟩
   ·refine aQ i7 rfl (aC (aB (aF i5) (aB (aF e8) (aB (eR rfl) (aB (bD (t':=2) qY rfl rfl) (aB (bY uD c4 (i:=4) rfl rfl rfl) (aB (aF e9) ?_)))))))
    obtain ⟨m1,i8,a9⟩:=aJ a9
    have x4:=dH c4 (i:=2) rfl i8
    refine aB (eY eQ rfl x4 rfl rfl rfl i8) ?_
    obtain ⟨a13,x5,x6⟩:=aBr (sz:=1) rfl c4 (i:=2) rfl i8
    obtain ⟨m2,m3,rfl,x7⟩:=x6
    refine aB (aEM (t:=0) (v:=zS m2 m1.length m3) kD x5 rfl rfl) ?_
    obtain ⟨i9,m4,x8,j0⟩:=aN.giveS (i:=0) c4 (zR _) rfl
    replace j0:aN G i9 (box a4 30 zG::aK 31 Kf a26 c27 x2_::aK 63 K a28 c29 x3_::box b1 84 [cS a2 k3,cS a17 k18,zS a26 x2_.length c27,zS a28 x3_.length c29,zB x4_]::L) w3:=j0
    obtain ⟨m5,x9,a9⟩:=aJ a9
    refine aX (vs:=[zS e0 c3.length e1,zS m2 m1.length m3]) Tryz.call94 rfl (aHW (Kf:=i9) j0 (zR _) x8 (x7.mono (zL (zL hKf e7) m4)) x9) ?_
    rintro _ a15 ⟨m6,m7,rfl,y0⟩
    exact aB (aG (v:=zS m6 m5.length m7) rfl) (aD (bO (aA ⟨i9,m5,m6,m7,m4,a9,e8,f8,i4,rfl,e9,y0⟩)))
   ·exact aO i7 rfl (aY (bO (aA ⟨d0,c3,e0,e1,(zR _),a9,e8,f8,i4,i5,e9,c4⟩)))
  ·refine aO i6 rfl (cN (bB (bB ?_)))
   have y1:=w4 _ (zI a9).symm
   subst y1
   have hm:(jC x0_ x2_ x3_ keep c3)=some R:=hm
   exact bS (aA ⟨d0,c3,e0,e1,e7,hm,e8,f8,i4,i5,c4⟩)
theorem nX {p:cI} {r_:cH} {R:(cI × (List (List Int)) × Int)} (hs:aN G K (L) w) (h3:cJ K a1 c2 p.S.L) (h6:cJ K a4 c5 p.S.E) (h9:cJ K a7 c8 p.M) (h12:cJ K a10 c11 p.C) (h15:cJ K a13 c14 r_.L) (h18:cJ K a16 c17 r_.E) (hm:sK p r_=some R):
  Calls Tryz.prog 19 ([zA (zEa p a1 c2 a4 c5 a7 c8 a10 c11),zA (zCa r_ a13 c14 a16 c17)]:List Value).toArray w (gV fun v w'=>∃ (K':Hp) (ra1:Option Addr) (rc1:Nat) (ra2:Option Addr) (rc2:Nat) (ra3:Option Addr) (rc3:Nat) (ra4:Option Addr) (rc4:Nat) (ra5:Option Addr) (rc5:Nat),v=Value.tuple #[zA (zEa R.1 ra1 rc1 ra2 rc2 ra3 rc3 ra4 rc4),zS ra5 R.2.1.length rc5,i64 R.2.2]∧Hp.le K K'∧aN G K' (aK 9 K ra1 rc1 R.1.S.L::aK 63 K ra2 rc2 R.1.S.E::aK 2 K ra3 rc3 R.1.M::aK 9 K ra4 rc4 R.1.C::aK 31 K' ra5 rc5 R.2.1::L) w'):=by
 refine aW Tryz.func19 rfl (by kernel_rfl) (by show (2:Nat)≤76;decide) ?_
 unfold sK at hm
 refine aH (aC (fC (v:=zA (zEa p a1 c2 a4 c5 a7 c8 a10 c11)) (vs:=(zE p a1 c2 a4 c5 a7 c8 a10 c11)) hs rfl rfl (fun b7 w20 v4=>(fC (v:=zA (zCa r_ a13 c14 a16 c17)) (vs:=(zC r_ a13 c14 a16 c17)) v4 rfl rfl (fun b8 w23 v5=>(cL (vs:=zK) Tryz.zeroValue48 v5 rfl (fun b4 w26 v6=>(aB (aG (v:=zS none 0 0) rfl) (aB (aG (v:=i64 0) rfl) (aD (aA (aH (aH (cU (fun f w=>∃ (m7:Bool),mY p r_ m7=some R∧f 2=zP (some ⟨b7,0,none⟩)∧f 3=zP (some ⟨b8,0,none⟩)∧f 4=zP (some ⟨b4,0,none⟩)∧f 18=zB m7∧aN G K (box b4 48 zK::box b8 30 (zC r_ a13 c14 a16 c17)::box b7 48 (zE p a1 c2 a4 c5 a7 c8 a10 c11)::L) w) ?_ ?_))))))))))))))
 ·rintro f r1 ⟨m7,hm,e4,v7,e2,r2,r3⟩
  unfold mY at hm
  refine aA ?_
  rcases aM hm with ⟨m8,hm⟩|⟨m8,hm⟩
  ·refine aQ m8 r2 (aH (aC (aB (gW (vs:=[]) (cs:=zK) yO rfl (by kernel_rfl)) (cM (i:=0) (ns:=zK) (us:=zK) Tryz.sizeOf48 r3 rfl e2 rfl rfl rfl (eD rfl) rfl rfl (fun v8 (v9:aN G K (box b4 48 zK::box b8 30 (zC r_ a13 c14 a16 c17)::box b7 48 (zE p a1 c2 a4 c5 a7 c8 a10 c11)::L) v8)=>(aB (aG (v:=zS none 0 0) rfl) (aB (aG (v:=i64 1) rfl) (aD (aA ?_)))))))))
   have w0:=aN.nil (α:=aZ) v9 9 K
   have w1:=aN.nil (α:=Edge) w0 63 K
   have w2:=aN.nil (α:=Int) w1 2 K
   have w3:=aN.nil (α:=aZ) w2 9 K
   have r4:=aN.nil (α:=(List Int)) w3 31 K
   cases zI hm
   exact bC (aS (aFr Tryz.results19 (oA (vs:=zK) rfl nV r4 (i:=5) rfl e2 rfl) (wU rfl rfl) (wU rfl rfl) ⟨K,none,0,none,0,none,0,none,0,none,0,rfl,(zR _),(aN.arr 8 [4,3,2,1,0] r4 rfl)⟩))
  ·refine aO m8 r2 (aY (aA (aH (aC ?_))))
   obtain ⟨w5,c3,k6,m9,_⟩:=aN.lendB (i:=2) r3 rfl
   replace m9:aN G w5 (box b4 48 zK::box b8 30 (zC r_ a13 c14 a16 c17)::L) r1:=m9
   obtain ⟨w6,b9,r5,n0,_⟩:=aN.lendB (i:=1) m9 rfl
   replace n0:aN G w6 (box b4 48 zK::L) r1:=n0
   obtain ⟨a2,w7,hm⟩:=aJ hm
   refine aX (vs:=[cS (some ⟨b7,0,none⟩) 0,cS (some ⟨b8,0,none⟩) 0]) Tryz.call48 (lst2 (kY e4) (kY v7)) (aIB n0 (k6.mono b9) (h3.mono (zL c3 b9)) (h6.mono (zL c3 b9)) (h9.mono (zL c3 b9)) (h12.mono (zL c3 b9)) r5 (h15.mono (zL c3 b9)) (h18.mono (zL c3 b9)) w7) ?_
   rintro _ w61 ⟨l8,a9,b0,b1,b2,c0,rfl,c4,m1⟩
   refine aB (aG (v:=zP (some ⟨c0,0,none⟩)) rfl) (aD (aA (aH (aH (aC (aB (aF (v:=zP (some ⟨c0,0,none⟩)) rfl) (aB (eR rfl) (aB (bD (t':=4) aLH rfl rfl) (aB (bY sc_4 m1 (i:=2) rfl rfl rfl) (aD (aA ?_)))))))))))
   rcases aM hm with ⟨n1,hm⟩|⟨n1,hm⟩
   ·refine aQ n1 rfl (aH (aC (aB (gW (vs:=[]) (cs:=zK) yO rfl (by kernel_rfl)) (cM (i:=3) (ns:=zK) (us:=zK) Tryz.sizeOf48 m1 rfl e2 rfl rfl rfl (eD rfl) rfl rfl (fun w8 (w9:aN G l8 (aK 31 l8 a9 b0 a2.1::aK 63 K b1 b2 a2.2.1::box c0 84 [cS (some ⟨b7,0,none⟩) 0,cS (some ⟨b8,0,none⟩) 0,zS a9 a2.1.length b0,zS b1 a2.2.1.length b2,zB a2.2.2]::box b4 48 zK::L) w8)=>(aB (aG (v:=zS none 0 0) rfl) (aB (aG (v:=i64 5) rfl) (aD (aA ?_)))))))))
    have x0:=aN.nil (α:=aZ) w9 9 K
    have x1:=aN.nil (α:=Edge) x0 63 K
    have x2:=aN.nil (α:=Int) x1 2 K
    have x3:=aN.nil (α:=aZ) x2 9 K
    have r6:=aN.nil (α:=(List Int)) x3 31 l8
    cases zI hm
    exact bC (aS (aFr Tryz.results19 (oA (vs:=zK) rfl nV r6 (i:=8) rfl e2 rfl) (wU rfl rfl) (wU rfl rfl) ⟨l8,none,0,none,0,none,0,none,0,none,0,rfl,(zL (zL c3 b9) c4),(aN.arr 9 [4,3,2,1,0] r6 rfl)⟩))
   ·refine aO n1 rfl (aY (aA (aH (aC (aB (aF (v:=zP (some ⟨c0,0,none⟩)) rfl) (aB (aF (v:=zP (some ⟨c0,0,none⟩)) rfl) (aB (eR rfl) (aB (bD (t':=2) qY rfl rfl) (aB (bY uD m1 (i:=2) rfl rfl rfl) (aB (bR (len:=a2.1.length) eQ rfl) ?_))))))))))
    obtain ⟨x5,x6,hm⟩:=aJ hm
    refine aX (vs:=[i64 (a2.1.length:Int)]) Tryz.call50 rfl (aIC m1 x6) ?_
    rintro _ r7 ⟨x7,x8,rfl,x9⟩
    obtain ⟨c1,c6,y0,n2⟩:=aN.giveS (i:=0) x9 (zL (zL c3 b9) c4) rfl
    replace n2:aN G c1 (aK 31 l8 a9 b0 a2.1::aK 63 K b1 b2 a2.2.1::box c0 84 [cS (some ⟨b7,0,none⟩) 0,cS (some ⟨b8,0,none⟩) 0,zS a9 a2.1.length b0,zS b1 a2.2.1.length b2,zB a2.2.2]::box b4 48 zK::L) r7:=n2
    have y1:aN G c1 (aK 31 c1 a9 b0 a2.1::aK 63 K b1 b2 a2.2.1::box c0 84 [cS (some ⟨b7,0,none⟩) 0,cS (some ⟨b8,0,none⟩) 0,zS a9 a2.1.length b0,zS b1 a2.2.1.length b2,zB a2.2.2]::box b4 48 zK::L) r7:=aN.weak (i:=0) n2 rfl (fun _ h=>aK.mono c6 h)
    obtain ⟨a0,y2,hm⟩:=aJ hm
    refine aX (vs:=[zP (some ⟨c0,0,none⟩),zS x7 x5.length x8]) Tryz.call49 rfl (aCL (Kf:=c1) y1 (zR _) (k6.mono (zL (zL b9 c4) c6)) (h3.mono (zL (zL (zL c3 b9) c4) c6)) (h6.mono (zL (zL (zL c3 b9) c4) c6)) (h9.mono (zL (zL (zL c3 b9) c4) c6)) (h12.mono (zL (zL (zL c3 b9) c4) c6)) (r5.mono (zL c4 c6)) (h15.mono (zL (zL (zL c3 b9) c4) c6)) (h18.mono (zL (zL (zL c3 b9) c4) c6)) y0 y2) ?_
    rintro _ w94 ⟨b3,a3,a5,a6,a8,b5,b6,rfl,d1,y3⟩
    refine aB (aF (v:=Value.tuple #[zA (zCa a0.1 a3 a5 a6 a8),zS b5 a0.2.length b6]) rfl) (aB (bX rfl rfl) (aB (bX rfl rfl) (cL (vs:=zG) Tryz.zeroValue30 y3 rfl (fun e7 w97 y4=>(cM (i:=0) (ns:=(zC a0.1 a3 a5 a6 a8)) (us:=(zC a0.1 a3 a5 a6 a8)) Tryz.sizeOf30 y4 rfl rfl rfl rfl rfl (eD rfl) rfl rfl (fun y5 (y6:aN G b3 (box e7 30 (zC a0.1 a3 a5 a6 a8)::aK 9 K a3 a5 a0.1.L::aK 63 K a6 a8 a0.1.E::aK 31 b3 b5 b6 a0.2::aK 31 c1 a9 b0 a2.1::aK 63 K b1 b2 a2.2.1::box c0 84 [cS (some ⟨b7,0,none⟩) 0,cS (some ⟨b8,0,none⟩) 0,zS a9 a2.1.length b0,zS b1 a2.2.1.length b2,zB a2.2.2]::box b4 48 zK::L) y5)=>(aB (aG (v:=zS b5 a0.2.length b6) rfl) (aD (aA (aH (cU (fun f w=>∃ (c7:List aZ) (d6:Nat) (k7:Option Addr) (k8:Nat) (c9:Option Addr) (d0:Nat),rH p a0 c7=some R∧f 2=cS (some ⟨b7,0,none⟩) 0∧f 4=zP (some ⟨b4,0,none⟩)∧f 9=zS b5 a0.2.length b6∧f 10=zP (some ⟨d6,0,none⟩)∧aN G b3 (aK 9 K c9 d0 c7::aK 2 K k7 k8 ([]:List Int)::box d6 48 [i64 a0.1.N,i64 a0.1.I,zS a3 a0.1.L.length a5,zS a6 a0.1.E.length a8,zS k7 ([]:List Int).length k8,zS c9 c7.length d0]::aK 9 K a3 a5 a0.1.L::aK 63 K a6 a8 a0.1.E::aK 31 b3 b5 b6 a0.2::box b4 48 zK::L) w) ?_ ?_)))))))))))
    ·rintro f b38 ⟨c7,d6,k7,k8,c9,d0,hm,y7,y8,y9,z0,z1⟩
     unfold rH at hm
     refine aA (aH (aC (dA (Kt:=b3) (xs:=([]:List (List Int))) (cs:=[]) (vs:=[]) eQ yN rfl rfl z1 rfl (by kernel_rfl) rfl rfl rfl trivial (fun n3 z2 (z3:aN G b3 (aK 31 b3 n3 0 ([]:List (List Int))::aK 9 K c9 d0 c7::aK 2 K k7 k8 ([]:List Int)::box d6 48 [i64 a0.1.N,i64 a0.1.I,zS a3 a0.1.L.length a5,zS a6 a0.1.E.length a8,zS k7 ([]:List Int).length k8,zS c9 c7.length d0]::aK 9 K a3 a5 a0.1.L::aK 63 K a6 a8 a0.1.E::aK 31 b3 b5 b6 a0.2::box b4 48 zK::L) z2)=>(aB (aG (v:=zS n3 ([]:List (List Int)).length 0) rfl) (aD (aA (aH (aH (aC (aB (aG (v:=i64 0) rfl) (aD (aA (bJ (fun f w=>∃ (k4:Hp) (f5:List Int) (k9:List (List Int)) (f6:Option Addr) (f7:Nat) (l0:Option Addr) (l1:Nat),Hp.le b3 k4∧rG a0 c7 f5 k9=some R∧f 4=zP (some ⟨b4,0,none⟩)∧f 10=zP (some ⟨d6,0,none⟩)∧f 11=zS l0 k9.length l1∧aN G k4 (aK 31 k4 l0 l1 k9::aK 2 K f6 f7 f5::aK 9 K c9 d0 c7::box d6 48 [i64 a0.1.N,i64 a0.1.I,zS a3 a0.1.L.length a5,zS a6 a0.1.E.length a8,zS f6 f5.length f7,zS c9 c7.length d0]::aK 9 K a3 a5 a0.1.L::aK 63 K a6 a8 a0.1.E::box b4 48 zK::L) w) ?_ ?_))))))))))))))
     ·rintro f b39 ⟨k4,f5,k9,f6,f7,l0,l1,z4,hm,r8,z5,z6,r9⟩
      unfold rG at hm
      refine aA (aH (aC (aB (dO (us:=[i64 a0.1.N,i64 a0.1.I,zS a3 a0.1.L.length a5,zS a6 a0.1.E.length a8,zS f6 f5.length f7,zS c9 c7.length d0]) nV r9 (i:=3) rfl z5 rfl rfl) (aB (aF z6) (cM (i:=6) (ns:=[i64 a0.1.N,i64 a0.1.I,zS a3 a0.1.L.length a5,zS a6 a0.1.E.length a8,zS f6 f5.length f7,zS c9 c7.length d0]) (us:=[i64 a0.1.N,i64 a0.1.I,zS a3 a0.1.L.length a5,zS a6 a0.1.E.length a8,zS f6 f5.length f7,zS c9 c7.length d0]) Tryz.sizeOf48 r9 rfl r8 rfl rfl rfl (eD rfl) rfl rfl (fun z7 (s0:aN G k4 (aK 31 k4 l0 l1 k9::aK 2 K f6 f7 f5::aK 9 K c9 d0 c7::box d6 48 [i64 a0.1.N,i64 a0.1.I,zS a3 a0.1.L.length a5,zS a6 a0.1.E.length a8,zS f6 f5.length f7,zS c9 c7.length d0]::aK 9 K a3 a5 a0.1.L::aK 63 K a6 a8 a0.1.E::box b4 48 [i64 a0.1.N,i64 a0.1.I,zS a3 a0.1.L.length a5,zS a6 a0.1.E.length a8,zS f6 f5.length f7,zS c9 c7.length d0]::L) z7)=>(aB (aG (v:=zS l0 k9.length l1) rfl) (aB (aG (v:=i64 0) rfl) (aD (aA ?_))))))))))
      cases zI hm
      exact bC (aFr Tryz.results19 (oA (vs:=[i64 a0.1.N,i64 a0.1.I,zS a3 a0.1.L.length a5,zS a6 a0.1.E.length a8,zS f6 f5.length f7,zS c9 c7.length d0]) rfl nV s0 (i:=6) rfl r8 rfl) (wU rfl rfl) (wU rfl rfl) ⟨k4,a3,a5,a6,a8,f6,f7,c9,d0,l0,l1,rfl,(zL (zL (zL (zL (zL c3 b9) c4) c6) d1) z4),(aN.arr 7 [4,5,1,2,0] s0 rfl)⟩)
     obtain ⟨b40,z9,hm⟩:=aJ hm
     refine cP z9 (fun (s:(List Int × List (List Int) × Int)) f w=>match s with|(f1,e3,f8)=>∃ (d7:Hp) (f9:Option Addr) (g0:Nat) (e8:Option Addr) (e9:Nat),Hp.le b3 d7∧f 2=cS (some ⟨b7,0,none⟩) 0∧f 4=zP (some ⟨b4,0,none⟩)∧f 9=zS b5 a0.2.length b6∧f 10=zP (some ⟨d6,0,none⟩)∧f 11=zS e8 e3.length e9∧f 12=i64 f8∧aN G d7 (aK 31 d7 e8 e9 e3::aK 9 K c9 d0 c7::aK 2 K f9 g0 f1::box d6 48 [i64 a0.1.N,i64 a0.1.I,zS a3 a0.1.L.length a5,zS a6 a0.1.E.length a8,zS f9 f1.length g0,zS c9 c7.length d0]::aK 9 K a3 a5 a0.1.L::aK 63 K a6 a8 a0.1.E::aK 31 b3 b5 b6 a0.2::box b4 48 zK::L) w) ?_ ?_
     ·exact ⟨b3,k7,k8,n3,0,(zR _),y7,y8,y9,z0,rfl,rfl,z3⟩
     ·rintro ⟨f1,e3,f8⟩ s1 f b41 d2 a00 ⟨d7,f9,g0,e8,e9,g3,n4,n5,m2,l9,n6,m0,s2⟩
      replace d2:jE p a0 f1 e3 f8=some s1:=d2
      unfold jE at d2
      refine aH (aH (aC (aB (aF m0) (aB (aF m2) (aB (bR (len:=a0.2.length) eQ rfl) (aB (cK rfl rfl) (aD (aA ?_))))))))
      rcases aM d2 with ⟨n7,d2⟩|⟨n7,d2⟩
      ·refine aQ n7 rfl (aY (aA (aH (cQ (aDz (fun f w=>∃ (f0:List Int) (f2:Option Addr) (f3:Nat),kO a0 e3 f8 f0=some s1∧f 2=cS (some ⟨b7,0,none⟩) 0∧f 4=zP (some ⟨b4,0,none⟩)∧f 9=zS b5 a0.2.length b6∧f 10=zP (some ⟨d6,0,none⟩)∧f 11=zS e8 e3.length e9∧f 12=i64 f8∧aN G d7 (aK 2 K f2 f3 f0::aK 31 d7 e8 e9 e3::aK 9 K c9 d0 c7::box d6 48 [i64 a0.1.N,i64 a0.1.I,zS a3 a0.1.L.length a5,zS a6 a0.1.E.length a8,zS f2 f0.length f3,zS c9 c7.length d0]::aK 9 K a3 a5 a0.1.L::aK 63 K a6 a8 a0.1.E::aK 31 b3 b5 b6 a0.2::box b4 48 zK::L) w) ?_ ?_)))))
       ·rintro f b42 ⟨f0,f2,f3,d2,a01,a02,s3,a03,a04,s4,n8⟩
        unfold kO at d2
        refine aC (aB (aF a04) (aB (aF s3) (aB (aF s4) ?_)))
        obtain ⟨s5,n9,d2⟩:=aJ d2
        have a05:=dH n8 (i:=6) rfl n9
        refine aB (eY eQ rfl a05 rfl rfl rfl n9) ?_
        obtain ⟨b43,a06,a07⟩:=aBr (sz:=1) rfl n8 (i:=6) rfl n9
        obtain ⟨s6,s7,rfl,a08⟩:=a07
        refine aB (aEM (t:=0) (v:=zS s6 s5.length s7) kD a06 rfl rfl) ?_
        obtain ⟨l2,a09,d2⟩:=aJ d2
        refine aX (vs:=[zS s6 s5.length s7]) Tryz.call52 rfl (aKI n8 (a08.mono g3) a09) ?_
        rintro _ a11 ⟨l3,l4,rfl,a12⟩
        have a14:aN G d7 (rows [2] ([(l3,l4)]:List (Dp.Hd (List Int))) [l2]::aK 2 K f2 f3 f0::aK 31 d7 e8 e9 e3::aK 9 K c9 d0 c7::box d6 48 [i64 a0.1.N,i64 a0.1.I,zS a3 a0.1.L.length a5,zS a6 a0.1.E.length a8,zS f2 f0.length f3,zS c9 c7.length d0]::aK 9 K a3 a5 a0.1.L::aK 63 K a6 a8 a0.1.E::aK 31 b3 b5 b6 a0.2::box b4 48 zK::L) a11:=aN.rowsOne a12
        refine dA (Kt:=K) (xs:=bZ ([(l3,l4)]:List (Dp.Hd (List Int))) ([l2]:List (List Int))) (cs:=[zS l3 l2.length l4]) (vs:=[(0,zS l3 l2.length l4)]) eQ yN rfl rfl a14 rfl (by kernel_rfl) rfl rfl rfl ⟨rfl,trivial⟩ ?_
        intro a15 s8 (a17:aN G d7 (aK 31 K a15 1 (bZ ([(l3,l4)]:List (Dp.Hd (List Int))) ([l2]:List (List Int)))::rows [2] ([(l3,l4)]:List (Dp.Hd (List Int))) ([l2]:List (List Int))::aK 2 K f2 f3 f0::aK 31 d7 e8 e9 e3::aK 9 K c9 d0 c7::box d6 48 [i64 a0.1.N,i64 a0.1.I,zS a3 a0.1.L.length a5,zS a6 a0.1.E.length a8,zS f2 f0.length f3,zS c9 c7.length d0]::aK 9 K a3 a5 a0.1.L::aK 63 K a6 a8 a0.1.E::aK 31 b3 b5 b6 a0.2::box b4 48 zK::L) s8)
        obtain ⟨m3,s9,a18,_,o0,_⟩:=aN.lendD' (i:=0) a17 rfl rfl rfl
        replace o0:aN G m3 (aK 2 K f2 f3 f0::aK 31 d7 e8 e9 e3::aK 9 K c9 d0 c7::box d6 48 [i64 a0.1.N,i64 a0.1.I,zS a3 a0.1.L.length a5,zS a6 a0.1.E.length a8,zS f2 f0.length f3,zS c9 c7.length d0]::aK 9 K a3 a5 a0.1.L::aK 63 K a6 a8 a0.1.E::aK 31 b3 b5 b6 a0.2::box b4 48 zK::L) s8:=o0
        obtain ⟨o1,a19,d2⟩:=aJ d2
        exact qP (i:=1) eQ Tryz.underlying49 yN rfl rfl o0 rfl s9 a18 a19 rfl rfl rfl rfl (fun o2 o3 a20 (a21:aN G m3 (aK 2 K f2 f3 f0::aK 31 m3 o2 o3 o1::aK 9 K c9 d0 c7::box d6 48 [i64 a0.1.N,i64 a0.1.I,zS a3 a0.1.L.length a5,zS a6 a0.1.E.length a8,zS f2 f0.length f3,zS c9 c7.length d0]::aK 9 K a3 a5 a0.1.L::aK 63 K a6 a8 a0.1.E::aK 31 b3 b5 b6 a0.2::box b4 48 zK::L) a20)=>(aB (aG (v:=zS o2 o1.length o3) rfl) (aD (bO (aA (aC (aB (aF s4) (aB (cY rfl rfl) (aB (aG (v:=i64 (wr (f8+1))) rfl) (aD (aA ⟨(f0,o1,wr (f8+1)),(zI d2).symm,m3,f2,f3,o2,o3,(zL g3 s9),a01,a02,s3,a03,rfl,rfl,(aN.arr 3 [1,2,0] a21 rfl)⟩)))))))))))
       refine aH ?_
       obtain ⟨a22,o4,t0,e5,a23⟩:=aN.lendS (i:=6) s2 g3 rfl
       refine cW (C:=fun w'=>aN G a22 (aK 31 d7 e8 e9 e3::aK 9 K c9 d0 c7::aK 2 K f9 g0 f1::box d6 48 [i64 a0.1.N,i64 a0.1.I,zS a3 a0.1.L.length a5,zS a6 a0.1.E.length a8,zS f9 f1.length g0,zS c9 c7.length d0]::aK 9 K a3 a5 a0.1.L::aK 63 K a6 a8 a0.1.E::box b4 48 zK::L) w') bQ (by kernel_rfl) (aN.mono e5 (dE.drew _)) (aT (fun _ e5=>dC (k':=0+4) sV n4 (k6.mono (zL (zL (zL (zL (zL b9 c4) c6) d1) g3) o4)) rfl) (aT (fun _ e5=>bP (t:=4) kD e5 (k6.mono (zL (zL (zL (zL (zL b9 c4) c6) d1) g3) o4)) rfl rfl) (aT (fun _ e5=>aF m2) (aT (fun _ e5=>aF m0) ?_))))
       obtain ⟨b44,o5,d2⟩:=aJ d2
       have a24:=aFs t0 o5
       refine aT (fun _ e5=>eY eQ rfl a24 rfl rfl rfl o5) ?_
       obtain ⟨b45,a25,a26⟩:=cJ.el (sz:=1) rfl t0 o5
       obtain ⟨b46,b47,rfl,t1⟩:=a26
       refine aT (fun _ e5=>bP (t:=0) kD e5 a25 rfl rfl) ?_
       obtain ⟨a27,t2,d2⟩:=aJ d2
       refine aT (fun _ e5=>cV cG rfl t1 rfl rfl rfl t2) ?_
       obtain ⟨b48,a28,a29⟩:=cJ.el (sz:=1) rfl t1 t2
       cases a29
       refine aT (fun _ e5=>bP (t:=0) dF e5 a28 rfl rfl) ?_
       obtain ⟨a30,a31,d2⟩:=aJ d2
       refine iV (vs:=[zS a7 p.M.length c8,i64 a27]) (v:=zB a30) Tryz.call51 rfl (fun _ e5=>(aKC e5 (h9.mono (zL (zL (zL (zL (zL (zL c3 b9) c4) c6) d1) g3) o4)) a31)) (dD (fun b49 a32=>?_))
       have o6:=a23 _ _ a32
       refine aA ?_
       rcases aM d2 with ⟨o7,d2⟩|⟨o7,d2⟩
       ·refine aQ o7 rfl (aC (aB (bD (t':=4) sV l9 rfl) (aB (bY kD o6 (i:=4) rfl rfl rfl) (aB (aF m0) (dA (Kt:=K) (xs:=([f8]:List Int)) (cs:=[i64 f8]) (vs:=[(0,i64 f8)]) cG sU rfl rfl o6 rfl (by kernel_rfl) rfl rfl rfl ⟨rfl,trivial⟩ (fun a33 a34 (a35:aN G d7 (aK 2 K a33 1 ([f8]:List Int)::aK 31 b3 b5 b6 a0.2::aK 31 d7 e8 e9 e3::aK 9 K c9 d0 c7::aK 2 K f9 g0 f1::box d6 48 [i64 a0.1.N,i64 a0.1.I,zS a3 a0.1.L.length a5,zS a6 a0.1.E.length a8,zS f9 f1.length g0,zS c9 c7.length d0]::aK 9 K a3 a5 a0.1.L::aK 63 K a6 a8 a0.1.E::box b4 48 zK::L) a34)=>?_))))))
        obtain ⟨l5,a36,d2⟩:=aJ d2
        exact jO (i:=3) cG Tryz.underlying31 sU rfl rfl a35 rfl (zL (zL (zL (zL (zL c3 b9) c4) c6) d1) g3) (zL (zL (zL (zL (zL c3 b9) c4) c6) d1) g3) a36 rfl rfl rfl rfl (fun _ h=>h) (fun l6 l7 a37 (a38:aN G d7 (aK 31 b3 b5 b6 a0.2::aK 31 d7 e8 e9 e3::aK 9 K c9 d0 c7::aK 2 K l6 l7 l5::box d6 48 [i64 a0.1.N,i64 a0.1.I,zS a3 a0.1.L.length a5,zS a6 a0.1.E.length a8,zS f9 f1.length g0,zS c9 c7.length d0]::aK 9 K a3 a5 a0.1.L::aK 63 K a6 a8 a0.1.E::box b4 48 zK::L) a37)=>(aB (bD (t':=4) sV l9 rfl) (cM (i:=4) (ns:=[zS l6 l5.length l7]) (us:=[i64 a0.1.N,i64 a0.1.I,zS a3 a0.1.L.length a5,zS a6 a0.1.E.length a8,zS l6 l5.length l7,zS c9 c7.length d0]) Tryz.sizeOf31 a38 rfl rfl rfl rfl rfl (eD rfl) rfl rfl (fun a39 (a40:aN G d7 (aK 31 b3 b5 b6 a0.2::aK 31 d7 e8 e9 e3::aK 9 K c9 d0 c7::aK 2 K l6 l7 l5::box d6 48 [i64 a0.1.N,i64 a0.1.I,zS a3 a0.1.L.length a5,zS a6 a0.1.E.length a8,zS l6 l5.length l7,zS c9 c7.length d0]::aK 9 K a3 a5 a0.1.L::aK 63 K a6 a8 a0.1.E::box b4 48 zK::L) a39)=>(aD (aA ⟨l5,l6,l7,d2,n4,n5,m2,l9,n6,m0,(aN.arr 7 [3,1,2,4,5,6,0] a40 rfl)⟩))))))
       ·exact aO o7 rfl (aY (aA ⟨f1,f9,g0,d2,n4,n5,m2,l9,n6,m0,(aN.arr 7 [3,1,2,4,5,6,0] o6 rfl)⟩))
      ·refine aO n7 rfl (cN (bB (bB ?_)))
       have a41:=a00 _ (zI d2).symm
       subst a41
       have hm:(rG a0 c7 f1 e3)=some R:=hm
       exact bS (aA ⟨d7,f1,e3,f9,g0,e8,e9,g3,hm,n5,l9,n6,(aN.arr 7 [0,2,1,3,4,5] s2 rfl)⟩)
    obtain ⟨d4,d5,a42,a43,f4⟩:=aN.lendB (i:=0) y6 rfl
    refine aBh (C:=fun w'=>∃ L',aN G d4 L' w') [8] bQ (by kernel_rfl) (fun b50 a44=>?_)
    have g1:=aN.mono a43 a44
    refine eS (i:=0) rfl (by kernel_rfl) ⟨_,g1⟩ (fun _ ⟨_,g1⟩=>iU (t:=0) (vs:=(zC a0.1 a3 a5 a6 a8)) kE g1 a42 rfl rfl rfl) (eS (i:=3) rfl (by kernel_rfl) ⟨_,g1⟩ (fun _ _=>dC (k':=0+5) aAU (kY e4) (k6.mono (zL (zL (zL (zL b9 c4) c6) d1) d5)) rfl) (eS (i:=4) rfl (by kernel_rfl) ⟨_,g1⟩ (fun _ ⟨_,g1⟩=>bP (t:=5) jK g1 (k6.mono (zL (zL (zL (zL b9 c4) c6) d1) d5)) rfl rfl) (WA_act3 (i:=1) (j:=2) (k:=7) (by kernel_rfl) rfl rfl rfl ?_ ?_ ?_)))
    ·refine dA (Kt:=K) (xs:=([]:List Int)) (cs:=[]) (vs:=[]) cG sU rfl rfl g1 rfl (by kernel_rfl) rfl rfl rfl trivial (fun d3 a45 (o8:aN G d4 (aK 2 K d3 0 ([]:List Int)::aK 9 K a3 a5 a0.1.L::aK 63 K a6 a8 a0.1.E::aK 31 b3 b5 b6 a0.2::aK 31 c1 a9 b0 a2.1::aK 63 K b1 b2 a2.2.1::box c0 84 [cS (some ⟨b7,0,none⟩) 0,cS (some ⟨b8,0,none⟩) 0,zS a9 a2.1.length b0,zS b1 a2.2.1.length b2,zB a2.2.2]::box b4 48 zK::L) a45)=>(aD (aA ⟨fun _=>⟨_,o8⟩,?_⟩)))
     refine jW (i:=2) (j:=7) (by kernel_rfl) rfl rfl ?_ ?_
     ·refine dA (Kt:=K) (xs:=([]:List aZ)) (cs:=[]) (vs:=[]) cE oB rfl rfl o8 rfl (by kernel_rfl) rfl rfl rfl trivial (fun a46 a47 (o9:aN G d4 (aK 9 K a46 0 ([]:List aZ)::aK 2 K d3 0 ([]:List Int)::aK 9 K a3 a5 a0.1.L::aK 63 K a6 a8 a0.1.E::aK 31 b3 b5 b6 a0.2::aK 31 c1 a9 b0 a2.1::aK 63 K b1 b2 a2.2.1::box c0 84 [cS (some ⟨b7,0,none⟩) 0,cS (some ⟨b8,0,none⟩) 0,zS a9 a2.1.length b0,zS b1 a2.2.1.length b2,zB a2.2.2]::box b4 48 zK::L) a47)=>(aD (aA ⟨fun _=>⟨_,o9⟩,?_⟩)))
      refine jW (i:=5) (j:=7) (by kernel_rfl) rfl rfl ?_ ?_
      ·obtain ⟨h2,a48,hm⟩:=aJ hm
       refine qP (i:=0) cE Tryz.underlying22 oB rfl rfl o9 rfl (zL (zL (zL (zL (zL c3 b9) c4) c6) d1) d5) (h12.mono (zL (zL (zL (zL (zL c3 b9) c4) c6) d1) d5)) a48 rfl rfl rfl rfl (fun h4 h5 a49 (p0:aN G d4 (aK 9 K h4 h5 h2::aK 2 K d3 0 ([]:List Int)::aK 9 K a3 a5 a0.1.L::aK 63 K a6 a8 a0.1.E::aK 31 b3 b5 b6 a0.2::aK 31 c1 a9 b0 a2.1::aK 63 K b1 b2 a2.2.1::box c0 84 [cS (some ⟨b7,0,none⟩) 0,cS (some ⟨b8,0,none⟩) 0,zS a9 a2.1.length b0,zS b1 a2.2.1.length b2,zB a2.2.2]::box b4 48 zK::L) a49)=>(aD (aA ⟨fun _=>⟨_,p0⟩,?_⟩)))
       refine eS (i:=6) rfl (by kernel_rfl) ⟨_,p0⟩ (fun _ _=>gW (vs:=[(0,zA (zCa a0.1 a3 a5 a6 a8)),(1,zS d3 ([]:List Int).length 0),(2,zS h4 h2.length h5)]) (cs:=[i64 a0.1.N,i64 a0.1.I,zS a3 a0.1.L.length a5,zS a6 a0.1.E.length a8,zS d3 ([]:List Int).length 0,zS h4 h2.length h5]) yO rfl (by kernel_rfl)) (bW (i:=7) (by kernel_rfl) rfl (cL (vs:=zK) Tryz.zeroValue48 p0 rfl (fun t3 b51 t4=>(aD (aA ⟨fun _=>⟨_,t4⟩,?_⟩)))))
       refine bW (i:=8) (by kernel_rfl) rfl ?_
       have a50:=f4 _ _ t4
       refine cM (i:=1) (ns:=[i64 a0.1.N,i64 a0.1.I,zS a3 a0.1.L.length a5,zS a6 a0.1.E.length a8,zS d3 ([]:List Int).length 0,zS h4 h2.length h5]) (us:=[i64 a0.1.N,i64 a0.1.I,zS a3 a0.1.L.length a5,zS a6 a0.1.E.length a8,zS d3 ([]:List Int).length 0,zS h4 h2.length h5]) Tryz.sizeOf48 a50 rfl rfl rfl rfl rfl (eD rfl) rfl rfl (fun a51 (a52:aN G b3 (box e7 30 (zC a0.1 a3 a5 a6 a8)::box t3 48 [i64 a0.1.N,i64 a0.1.I,zS a3 a0.1.L.length a5,zS a6 a0.1.E.length a8,zS d3 ([]:List Int).length 0,zS h4 h2.length h5]::aK 9 K h4 h5 h2::aK 2 K d3 0 ([]:List Int)::aK 9 K a3 a5 a0.1.L::aK 63 K a6 a8 a0.1.E::aK 31 b3 b5 b6 a0.2::aK 31 c1 a9 b0 a2.1::aK 63 K b1 b2 a2.2.1::box c0 84 [cS (some ⟨b7,0,none⟩) 0,cS (some ⟨b8,0,none⟩) 0,zS a9 a2.1.length b0,zS b1 a2.2.1.length b2,zB a2.2.2]::box b4 48 zK::L) a51)=>(aD (aA ⟨aGH rfl,?_⟩)))
       exact fT (by kernel_rfl) (aA ⟨h2,t3,d3,0,h4,h5,hm,(kY e4),e2,rfl,rfl,(aN.arr 10 [2,3,1,4,5,6] a52 rfl)⟩)
      ·refine cL (vs:=zK) Tryz.zeroValue48 o9 rfl (fun p1 b52 t5=>(aD (aA ⟨fun _=>⟨_,t5⟩,?_⟩)))
       refine bW (i:=5) (by kernel_rfl) rfl ?_
       obtain ⟨h7,a53,hm⟩:=aJ hm
       refine qP (i:=1) cE Tryz.underlying22 oB rfl rfl t5 rfl (zL (zL (zL (zL (zL c3 b9) c4) c6) d1) d5) (h12.mono (zL (zL (zL (zL (zL c3 b9) c4) c6) d1) d5)) a53 rfl rfl rfl rfl (fun h8 i0 a54 (p2:aN G d4 (box p1 48 zK::aK 9 K h8 i0 h7::aK 2 K d3 0 ([]:List Int)::aK 9 K a3 a5 a0.1.L::aK 63 K a6 a8 a0.1.E::aK 31 b3 b5 b6 a0.2::aK 31 c1 a9 b0 a2.1::aK 63 K b1 b2 a2.2.1::box c0 84 [cS (some ⟨b7,0,none⟩) 0,cS (some ⟨b8,0,none⟩) 0,zS a9 a2.1.length b0,zS b1 a2.2.1.length b2,zB a2.2.2]::box b4 48 zK::L) a54)=>(aD (aA ⟨fun _=>⟨_,p2⟩,?_⟩)))
       refine eS (i:=6) rfl (by kernel_rfl) ⟨_,p2⟩ (fun _ _=>gW (vs:=[(0,zA (zCa a0.1 a3 a5 a6 a8)),(1,zS d3 ([]:List Int).length 0),(2,zS h8 h7.length i0)]) (cs:=[i64 a0.1.N,i64 a0.1.I,zS a3 a0.1.L.length a5,zS a6 a0.1.E.length a8,zS d3 ([]:List Int).length 0,zS h8 h7.length i0]) yO rfl (by kernel_rfl)) (bW (i:=8) (by kernel_rfl) rfl ?_)
       have a55:=f4 _ _ p2
       refine cM (i:=1) (ns:=[i64 a0.1.N,i64 a0.1.I,zS a3 a0.1.L.length a5,zS a6 a0.1.E.length a8,zS d3 ([]:List Int).length 0,zS h8 h7.length i0]) (us:=[i64 a0.1.N,i64 a0.1.I,zS a3 a0.1.L.length a5,zS a6 a0.1.E.length a8,zS d3 ([]:List Int).length 0,zS h8 h7.length i0]) Tryz.sizeOf48 a55 rfl rfl rfl rfl rfl (eD rfl) rfl rfl (fun a56 (a57:aN G b3 (box e7 30 (zC a0.1 a3 a5 a6 a8)::box p1 48 [i64 a0.1.N,i64 a0.1.I,zS a3 a0.1.L.length a5,zS a6 a0.1.E.length a8,zS d3 ([]:List Int).length 0,zS h8 h7.length i0]::aK 9 K h8 i0 h7::aK 2 K d3 0 ([]:List Int)::aK 9 K a3 a5 a0.1.L::aK 63 K a6 a8 a0.1.E::aK 31 b3 b5 b6 a0.2::aK 31 c1 a9 b0 a2.1::aK 63 K b1 b2 a2.2.1::box c0 84 [cS (some ⟨b7,0,none⟩) 0,cS (some ⟨b8,0,none⟩) 0,zS a9 a2.1.length b0,zS b1 a2.2.1.length b2,zB a2.2.2]::box b4 48 zK::L) a56)=>(aD (aA ⟨aGH rfl,?_⟩)))
       exact fT (by kernel_rfl) (aA ⟨h7,p1,d3,0,h8,i0,hm,(kY e4),e2,rfl,rfl,(aN.arr 10 [2,3,1,4,5,6] a57 rfl)⟩)
     ·refine cL (vs:=zK) Tryz.zeroValue48 o8 rfl (fun m4 b53 t6=>(aD (aA ⟨fun _=>⟨_,t6⟩,?_⟩)))
      refine bW (i:=2) (by kernel_rfl) rfl (dA (Kt:=K) (xs:=([]:List aZ)) (cs:=[]) (vs:=[]) cE oB rfl rfl t6 rfl (by kernel_rfl) rfl rfl rfl trivial (fun a58 a59 (t7:aN G d4 (aK 9 K a58 0 ([]:List aZ)::box m4 48 zK::aK 2 K d3 0 ([]:List Int)::aK 9 K a3 a5 a0.1.L::aK 63 K a6 a8 a0.1.E::aK 31 b3 b5 b6 a0.2::aK 31 c1 a9 b0 a2.1::aK 63 K b1 b2 a2.2.1::box c0 84 [cS (some ⟨b7,0,none⟩) 0,cS (some ⟨b8,0,none⟩) 0,zS a9 a2.1.length b0,zS b1 a2.2.1.length b2,zB a2.2.2]::box b4 48 zK::L) a59)=>(aD (aA ⟨fun _=>⟨_,t7⟩,?_⟩))))
      refine bW (i:=5) (by kernel_rfl) rfl ?_
      obtain ⟨i1,a60,hm⟩:=aJ hm
      refine qP (i:=0) cE Tryz.underlying22 oB rfl rfl t7 rfl (zL (zL (zL (zL (zL c3 b9) c4) c6) d1) d5) (h12.mono (zL (zL (zL (zL (zL c3 b9) c4) c6) d1) d5)) a60 rfl rfl rfl rfl (fun i2 i3 a61 (p3:aN G d4 (aK 9 K i2 i3 i1::box m4 48 zK::aK 2 K d3 0 ([]:List Int)::aK 9 K a3 a5 a0.1.L::aK 63 K a6 a8 a0.1.E::aK 31 b3 b5 b6 a0.2::aK 31 c1 a9 b0 a2.1::aK 63 K b1 b2 a2.2.1::box c0 84 [cS (some ⟨b7,0,none⟩) 0,cS (some ⟨b8,0,none⟩) 0,zS a9 a2.1.length b0,zS b1 a2.2.1.length b2,zB a2.2.2]::box b4 48 zK::L) a61)=>(aD (aA ⟨fun _=>⟨_,p3⟩,?_⟩)))
      refine eS (i:=6) rfl (by kernel_rfl) ⟨_,p3⟩ (fun _ _=>gW (vs:=[(0,zA (zCa a0.1 a3 a5 a6 a8)),(1,zS d3 ([]:List Int).length 0),(2,zS i2 i1.length i3)]) (cs:=[i64 a0.1.N,i64 a0.1.I,zS a3 a0.1.L.length a5,zS a6 a0.1.E.length a8,zS d3 ([]:List Int).length 0,zS i2 i1.length i3]) yO rfl (by kernel_rfl)) (bW (i:=8) (by kernel_rfl) rfl ?_)
      have a62:=f4 _ _ p3
      refine cM (i:=2) (ns:=[i64 a0.1.N,i64 a0.1.I,zS a3 a0.1.L.length a5,zS a6 a0.1.E.length a8,zS d3 ([]:List Int).length 0,zS i2 i1.length i3]) (us:=[i64 a0.1.N,i64 a0.1.I,zS a3 a0.1.L.length a5,zS a6 a0.1.E.length a8,zS d3 ([]:List Int).length 0,zS i2 i1.length i3]) Tryz.sizeOf48 a62 rfl rfl rfl rfl rfl (eD rfl) rfl rfl (fun a63 (a64:aN G b3 (box e7 30 (zC a0.1 a3 a5 a6 a8)::aK 9 K i2 i3 i1::box m4 48 [i64 a0.1.N,i64 a0.1.I,zS a3 a0.1.L.length a5,zS a6 a0.1.E.length a8,zS d3 ([]:List Int).length 0,zS i2 i1.length i3]::aK 2 K d3 0 ([]:List Int)::aK 9 K a3 a5 a0.1.L::aK 63 K a6 a8 a0.1.E::aK 31 b3 b5 b6 a0.2::aK 31 c1 a9 b0 a2.1::aK 63 K b1 b2 a2.2.1::box c0 84 [cS (some ⟨b7,0,none⟩) 0,cS (some ⟨b8,0,none⟩) 0,zS a9 a2.1.length b0,zS b1 a2.2.1.length b2,zB a2.2.2]::box b4 48 zK::L) a63)=>(aD (aA ⟨aGH rfl,?_⟩)))
      exact fT (by kernel_rfl) (aA ⟨i1,m4,d3,0,i2,i3,hm,(kY e4),e2,rfl,rfl,(aN.arr 10 [1,3,2,4,5,6] a64 rfl)⟩)
    ·refine dA (Kt:=K) (xs:=([]:List aZ)) (cs:=[]) (vs:=[]) cE oB rfl rfl g1 rfl (by kernel_rfl) rfl rfl rfl trivial (fun p4 a65 (m5:aN G d4 (aK 9 K p4 0 ([]:List aZ)::aK 9 K a3 a5 a0.1.L::aK 63 K a6 a8 a0.1.E::aK 31 b3 b5 b6 a0.2::aK 31 c1 a9 b0 a2.1::aK 63 K b1 b2 a2.2.1::box c0 84 [cS (some ⟨b7,0,none⟩) 0,cS (some ⟨b8,0,none⟩) 0,zS a9 a2.1.length b0,zS b1 a2.2.1.length b2,zB a2.2.2]::box b4 48 zK::L) a65)=>(aD (aA ⟨fun _=>⟨_,m5⟩,?_⟩)))
     refine WA_act3 (i:=1) (j:=5) (k:=7) (by kernel_rfl) rfl rfl rfl ?_ ?_ ?_
     ·refine dA (Kt:=K) (xs:=([]:List Int)) (cs:=[]) (vs:=[]) cG sU rfl rfl m5 rfl (by kernel_rfl) rfl rfl rfl trivial (fun d8 a66 (p5:aN G d4 (aK 2 K d8 0 ([]:List Int)::aK 9 K p4 0 ([]:List aZ)::aK 9 K a3 a5 a0.1.L::aK 63 K a6 a8 a0.1.E::aK 31 b3 b5 b6 a0.2::aK 31 c1 a9 b0 a2.1::aK 63 K b1 b2 a2.2.1::box c0 84 [cS (some ⟨b7,0,none⟩) 0,cS (some ⟨b8,0,none⟩) 0,zS a9 a2.1.length b0,zS b1 a2.2.1.length b2,zB a2.2.2]::box b4 48 zK::L) a66)=>(aD (aA ⟨fun _=>⟨_,p5⟩,?_⟩)))
      refine jW (i:=5) (j:=7) (by kernel_rfl) rfl rfl ?_ ?_
      ·obtain ⟨i4,a67,hm⟩:=aJ hm
       refine qP (i:=1) cE Tryz.underlying22 oB rfl rfl p5 rfl (zL (zL (zL (zL (zL c3 b9) c4) c6) d1) d5) (h12.mono (zL (zL (zL (zL (zL c3 b9) c4) c6) d1) d5)) a67 rfl rfl rfl rfl (fun i5 i6 a68 (p6:aN G d4 (aK 2 K d8 0 ([]:List Int)::aK 9 K i5 i6 i4::aK 9 K a3 a5 a0.1.L::aK 63 K a6 a8 a0.1.E::aK 31 b3 b5 b6 a0.2::aK 31 c1 a9 b0 a2.1::aK 63 K b1 b2 a2.2.1::box c0 84 [cS (some ⟨b7,0,none⟩) 0,cS (some ⟨b8,0,none⟩) 0,zS a9 a2.1.length b0,zS b1 a2.2.1.length b2,zB a2.2.2]::box b4 48 zK::L) a68)=>(aD (aA ⟨fun _=>⟨_,p6⟩,?_⟩)))
       refine eS (i:=6) rfl (by kernel_rfl) ⟨_,p6⟩ (fun _ _=>gW (vs:=[(0,zA (zCa a0.1 a3 a5 a6 a8)),(1,zS d8 ([]:List Int).length 0),(2,zS i5 i4.length i6)]) (cs:=[i64 a0.1.N,i64 a0.1.I,zS a3 a0.1.L.length a5,zS a6 a0.1.E.length a8,zS d8 ([]:List Int).length 0,zS i5 i4.length i6]) yO rfl (by kernel_rfl)) (bW (i:=7) (by kernel_rfl) rfl (cL (vs:=zK) Tryz.zeroValue48 p6 rfl (fun t8 b54 t9=>(aD (aA ⟨fun _=>⟨_,t9⟩,?_⟩)))))
       refine bW (i:=8) (by kernel_rfl) rfl ?_
       have a69:=f4 _ _ t9
       refine cM (i:=1) (ns:=[i64 a0.1.N,i64 a0.1.I,zS a3 a0.1.L.length a5,zS a6 a0.1.E.length a8,zS d8 ([]:List Int).length 0,zS i5 i4.length i6]) (us:=[i64 a0.1.N,i64 a0.1.I,zS a3 a0.1.L.length a5,zS a6 a0.1.E.length a8,zS d8 ([]:List Int).length 0,zS i5 i4.length i6]) Tryz.sizeOf48 a69 rfl rfl rfl rfl rfl (eD rfl) rfl rfl (fun a70 (a71:aN G b3 (box e7 30 (zC a0.1 a3 a5 a6 a8)::box t8 48 [i64 a0.1.N,i64 a0.1.I,zS a3 a0.1.L.length a5,zS a6 a0.1.E.length a8,zS d8 ([]:List Int).length 0,zS i5 i4.length i6]::aK 2 K d8 0 ([]:List Int)::aK 9 K i5 i6 i4::aK 9 K a3 a5 a0.1.L::aK 63 K a6 a8 a0.1.E::aK 31 b3 b5 b6 a0.2::aK 31 c1 a9 b0 a2.1::aK 63 K b1 b2 a2.2.1::box c0 84 [cS (some ⟨b7,0,none⟩) 0,cS (some ⟨b8,0,none⟩) 0,zS a9 a2.1.length b0,zS b1 a2.2.1.length b2,zB a2.2.2]::box b4 48 zK::L) a70)=>(aD (aA ⟨aGH rfl,?_⟩)))
       exact fT (by kernel_rfl) (aA ⟨i4,t8,d8,0,i5,i6,hm,(kY e4),e2,rfl,rfl,(aN.arr 10 [3,2,1,4,5,6] a71 rfl)⟩)
      ·refine cL (vs:=zK) Tryz.zeroValue48 p5 rfl (fun p7 b55 u0=>(aD (aA ⟨fun _=>⟨_,u0⟩,?_⟩)))
       refine bW (i:=5) (by kernel_rfl) rfl ?_
       obtain ⟨i7,a72,hm⟩:=aJ hm
       refine qP (i:=2) cE Tryz.underlying22 oB rfl rfl u0 rfl (zL (zL (zL (zL (zL c3 b9) c4) c6) d1) d5) (h12.mono (zL (zL (zL (zL (zL c3 b9) c4) c6) d1) d5)) a72 rfl rfl rfl rfl (fun i8 i9 a73 (p8:aN G d4 (box p7 48 zK::aK 2 K d8 0 ([]:List Int)::aK 9 K i8 i9 i7::aK 9 K a3 a5 a0.1.L::aK 63 K a6 a8 a0.1.E::aK 31 b3 b5 b6 a0.2::aK 31 c1 a9 b0 a2.1::aK 63 K b1 b2 a2.2.1::box c0 84 [cS (some ⟨b7,0,none⟩) 0,cS (some ⟨b8,0,none⟩) 0,zS a9 a2.1.length b0,zS b1 a2.2.1.length b2,zB a2.2.2]::box b4 48 zK::L) a73)=>(aD (aA ⟨fun _=>⟨_,p8⟩,?_⟩)))
       refine eS (i:=6) rfl (by kernel_rfl) ⟨_,p8⟩ (fun _ _=>gW (vs:=[(0,zA (zCa a0.1 a3 a5 a6 a8)),(1,zS d8 ([]:List Int).length 0),(2,zS i8 i7.length i9)]) (cs:=[i64 a0.1.N,i64 a0.1.I,zS a3 a0.1.L.length a5,zS a6 a0.1.E.length a8,zS d8 ([]:List Int).length 0,zS i8 i7.length i9]) yO rfl (by kernel_rfl)) (bW (i:=8) (by kernel_rfl) rfl ?_)
       have a74:=f4 _ _ p8
       refine cM (i:=1) (ns:=[i64 a0.1.N,i64 a0.1.I,zS a3 a0.1.L.length a5,zS a6 a0.1.E.length a8,zS d8 ([]:List Int).length 0,zS i8 i7.length i9]) (us:=[i64 a0.1.N,i64 a0.1.I,zS a3 a0.1.L.length a5,zS a6 a0.1.E.length a8,zS d8 ([]:List Int).length 0,zS i8 i7.length i9]) Tryz.sizeOf48 a74 rfl rfl rfl rfl rfl (eD rfl) rfl rfl (fun a75 (a76:aN G b3 (box e7 30 (zC a0.1 a3 a5 a6 a8)::box p7 48 [i64 a0.1.N,i64 a0.1.I,zS a3 a0.1.L.length a5,zS a6 a0.1.E.length a8,zS d8 ([]:List Int).length 0,zS i8 i7.length i9]::aK 2 K d8 0 ([]:List Int)::aK 9 K i8 i9 i7::aK 9 K a3 a5 a0.1.L::aK 63 K a6 a8 a0.1.E::aK 31 b3 b5 b6 a0.2::aK 31 c1 a9 b0 a2.1::aK 63 K b1 b2 a2.2.1::box c0 84 [cS (some ⟨b7,0,none⟩) 0,cS (some ⟨b8,0,none⟩) 0,zS a9 a2.1.length b0,zS b1 a2.2.1.length b2,zB a2.2.2]::box b4 48 zK::L) a75)=>(aD (aA ⟨aGH rfl,?_⟩)))
       exact fT (by kernel_rfl) (aA ⟨i7,p7,d8,0,i8,i9,hm,(kY e4),e2,rfl,rfl,(aN.arr 10 [3,2,1,4,5,6] a76 rfl)⟩)
     ·obtain ⟨d9,a77,hm⟩:=aJ hm
      refine qP (i:=0) cE Tryz.underlying22 oB rfl rfl m5 rfl (zL (zL (zL (zL (zL c3 b9) c4) c6) d1) d5) (h12.mono (zL (zL (zL (zL (zL c3 b9) c4) c6) d1) d5)) a77 rfl rfl rfl rfl (fun e0 e1 a78 (p9:aN G d4 (aK 9 K e0 e1 d9::aK 9 K a3 a5 a0.1.L::aK 63 K a6 a8 a0.1.E::aK 31 b3 b5 b6 a0.2::aK 31 c1 a9 b0 a2.1::aK 63 K b1 b2 a2.2.1::box c0 84 [cS (some ⟨b7,0,none⟩) 0,cS (some ⟨b8,0,none⟩) 0,zS a9 a2.1.length b0,zS b1 a2.2.1.length b2,zB a2.2.2]::box b4 48 zK::L) a78)=>(aD (aA ⟨fun _=>⟨_,p9⟩,?_⟩)))
      refine jW (i:=1) (j:=7) (by kernel_rfl) rfl rfl ?_ ?_
      ·refine dA (Kt:=K) (xs:=([]:List Int)) (cs:=[]) (vs:=[]) cG sU rfl rfl p9 rfl (by kernel_rfl) rfl rfl rfl trivial (fun j0 a79 (q0:aN G d4 (aK 2 K j0 0 ([]:List Int)::aK 9 K e0 e1 d9::aK 9 K a3 a5 a0.1.L::aK 63 K a6 a8 a0.1.E::aK 31 b3 b5 b6 a0.2::aK 31 c1 a9 b0 a2.1::aK 63 K b1 b2 a2.2.1::box c0 84 [cS (some ⟨b7,0,none⟩) 0,cS (some ⟨b8,0,none⟩) 0,zS a9 a2.1.length b0,zS b1 a2.2.1.length b2,zB a2.2.2]::box b4 48 zK::L) a79)=>(aD (aA ⟨fun _=>⟨_,q0⟩,?_⟩)))
       refine eS (i:=6) rfl (by kernel_rfl) ⟨_,q0⟩ (fun _ _=>gW (vs:=[(0,zA (zCa a0.1 a3 a5 a6 a8)),(1,zS j0 ([]:List Int).length 0),(2,zS e0 d9.length e1)]) (cs:=[i64 a0.1.N,i64 a0.1.I,zS a3 a0.1.L.length a5,zS a6 a0.1.E.length a8,zS j0 ([]:List Int).length 0,zS e0 d9.length e1]) yO rfl (by kernel_rfl)) (bW (i:=7) (by kernel_rfl) rfl (cL (vs:=zK) Tryz.zeroValue48 q0 rfl (fun u1 b56 u2=>(aD (aA ⟨fun _=>⟨_,u2⟩,?_⟩)))))
       refine bW (i:=8) (by kernel_rfl) rfl ?_
       have a80:=f4 _ _ u2
       refine cM (i:=1) (ns:=[i64 a0.1.N,i64 a0.1.I,zS a3 a0.1.L.length a5,zS a6 a0.1.E.length a8,zS j0 ([]:List Int).length 0,zS e0 d9.length e1]) (us:=[i64 a0.1.N,i64 a0.1.I,zS a3 a0.1.L.length a5,zS a6 a0.1.E.length a8,zS j0 ([]:List Int).length 0,zS e0 d9.length e1]) Tryz.sizeOf48 a80 rfl rfl rfl rfl rfl (eD rfl) rfl rfl (fun a81 (a82:aN G b3 (box e7 30 (zC a0.1 a3 a5 a6 a8)::box u1 48 [i64 a0.1.N,i64 a0.1.I,zS a3 a0.1.L.length a5,zS a6 a0.1.E.length a8,zS j0 ([]:List Int).length 0,zS e0 d9.length e1]::aK 2 K j0 0 ([]:List Int)::aK 9 K e0 e1 d9::aK 9 K a3 a5 a0.1.L::aK 63 K a6 a8 a0.1.E::aK 31 b3 b5 b6 a0.2::aK 31 c1 a9 b0 a2.1::aK 63 K b1 b2 a2.2.1::box c0 84 [cS (some ⟨b7,0,none⟩) 0,cS (some ⟨b8,0,none⟩) 0,zS a9 a2.1.length b0,zS b1 a2.2.1.length b2,zB a2.2.2]::box b4 48 zK::L) a81)=>(aD (aA ⟨aGH rfl,?_⟩)))
       exact fT (by kernel_rfl) (aA ⟨d9,u1,j0,0,e0,e1,hm,(kY e4),e2,rfl,rfl,(aN.arr 10 [3,2,1,4,5,6] a82 rfl)⟩)
      ·refine cL (vs:=zK) Tryz.zeroValue48 p9 rfl (fun q1 b57 u3=>(aD (aA ⟨fun _=>⟨_,u3⟩,?_⟩)))
       refine bW (i:=1) (by kernel_rfl) rfl (dA (Kt:=K) (xs:=([]:List Int)) (cs:=[]) (vs:=[]) cG sU rfl rfl u3 rfl (by kernel_rfl) rfl rfl rfl trivial (fun j1 a83 (q2:aN G d4 (aK 2 K j1 0 ([]:List Int)::box q1 48 zK::aK 9 K e0 e1 d9::aK 9 K a3 a5 a0.1.L::aK 63 K a6 a8 a0.1.E::aK 31 b3 b5 b6 a0.2::aK 31 c1 a9 b0 a2.1::aK 63 K b1 b2 a2.2.1::box c0 84 [cS (some ⟨b7,0,none⟩) 0,cS (some ⟨b8,0,none⟩) 0,zS a9 a2.1.length b0,zS b1 a2.2.1.length b2,zB a2.2.2]::box b4 48 zK::L) a83)=>(aD (aA ⟨fun _=>⟨_,q2⟩,?_⟩))))
       refine eS (i:=6) rfl (by kernel_rfl) ⟨_,q2⟩ (fun _ _=>gW (vs:=[(0,zA (zCa a0.1 a3 a5 a6 a8)),(1,zS j1 ([]:List Int).length 0),(2,zS e0 d9.length e1)]) (cs:=[i64 a0.1.N,i64 a0.1.I,zS a3 a0.1.L.length a5,zS a6 a0.1.E.length a8,zS j1 ([]:List Int).length 0,zS e0 d9.length e1]) yO rfl (by kernel_rfl)) (bW (i:=8) (by kernel_rfl) rfl ?_)
       have a84:=f4 _ _ q2
       refine cM (i:=2) (ns:=[i64 a0.1.N,i64 a0.1.I,zS a3 a0.1.L.length a5,zS a6 a0.1.E.length a8,zS j1 ([]:List Int).length 0,zS e0 d9.length e1]) (us:=[i64 a0.1.N,i64 a0.1.I,zS a3 a0.1.L.length a5,zS a6 a0.1.E.length a8,zS j1 ([]:List Int).length 0,zS e0 d9.length e1]) Tryz.sizeOf48 a84 rfl rfl rfl rfl rfl (eD rfl) rfl rfl (fun a85 (a86:aN G b3 (box e7 30 (zC a0.1 a3 a5 a6 a8)::aK 2 K j1 0 ([]:List Int)::box q1 48 [i64 a0.1.N,i64 a0.1.I,zS a3 a0.1.L.length a5,zS a6 a0.1.E.length a8,zS j1 ([]:List Int).length 0,zS e0 d9.length e1]::aK 9 K e0 e1 d9::aK 9 K a3 a5 a0.1.L::aK 63 K a6 a8 a0.1.E::aK 31 b3 b5 b6 a0.2::aK 31 c1 a9 b0 a2.1::aK 63 K b1 b2 a2.2.1::box c0 84 [cS (some ⟨b7,0,none⟩) 0,cS (some ⟨b8,0,none⟩) 0,zS a9 a2.1.length b0,zS b1 a2.2.1.length b2,zB a2.2.2]::box b4 48 zK::L) a85)=>(aD (aA ⟨aGH rfl,?_⟩)))
       exact fT (by kernel_rfl) (aA ⟨d9,q1,j1,0,e0,e1,hm,(kY e4),e2,rfl,rfl,(aN.arr 10 [3,1,2,4,5,6] a86 rfl)⟩)
     ·refine cL (vs:=zK) Tryz.zeroValue48 m5 rfl (fun j2 b58 q3=>(aD (aA ⟨fun _=>⟨_,q3⟩,?_⟩)))
      refine jW (i:=1) (j:=5) (by kernel_rfl) rfl rfl ?_ ?_
      ·refine dA (Kt:=K) (xs:=([]:List Int)) (cs:=[]) (vs:=[]) cG sU rfl rfl q3 rfl (by kernel_rfl) rfl rfl rfl trivial (fun g4 a87 (u4:aN G d4 (aK 2 K g4 0 ([]:List Int)::box j2 48 zK::aK 9 K p4 0 ([]:List aZ)::aK 9 K a3 a5 a0.1.L::aK 63 K a6 a8 a0.1.E::aK 31 b3 b5 b6 a0.2::aK 31 c1 a9 b0 a2.1::aK 63 K b1 b2 a2.2.1::box c0 84 [cS (some ⟨b7,0,none⟩) 0,cS (some ⟨b8,0,none⟩) 0,zS a9 a2.1.length b0,zS b1 a2.2.1.length b2,zB a2.2.2]::box b4 48 zK::L) a87)=>(aD (aA ⟨fun _=>⟨_,u4⟩,?_⟩)))
       refine bW (i:=5) (by kernel_rfl) rfl ?_
       obtain ⟨j3,a88,hm⟩:=aJ hm
       refine qP (i:=2) cE Tryz.underlying22 oB rfl rfl u4 rfl (zL (zL (zL (zL (zL c3 b9) c4) c6) d1) d5) (h12.mono (zL (zL (zL (zL (zL c3 b9) c4) c6) d1) d5)) a88 rfl rfl rfl rfl (fun j4 j5 a89 (q4:aN G d4 (aK 2 K g4 0 ([]:List Int)::box j2 48 zK::aK 9 K j4 j5 j3::aK 9 K a3 a5 a0.1.L::aK 63 K a6 a8 a0.1.E::aK 31 b3 b5 b6 a0.2::aK 31 c1 a9 b0 a2.1::aK 63 K b1 b2 a2.2.1::box c0 84 [cS (some ⟨b7,0,none⟩) 0,cS (some ⟨b8,0,none⟩) 0,zS a9 a2.1.length b0,zS b1 a2.2.1.length b2,zB a2.2.2]::box b4 48 zK::L) a89)=>(aD (aA ⟨fun _=>⟨_,q4⟩,?_⟩)))
       refine eS (i:=6) rfl (by kernel_rfl) ⟨_,q4⟩ (fun _ _=>gW (vs:=[(0,zA (zCa a0.1 a3 a5 a6 a8)),(1,zS g4 ([]:List Int).length 0),(2,zS j4 j3.length j5)]) (cs:=[i64 a0.1.N,i64 a0.1.I,zS a3 a0.1.L.length a5,zS a6 a0.1.E.length a8,zS g4 ([]:List Int).length 0,zS j4 j3.length j5]) yO rfl (by kernel_rfl)) (bW (i:=8) (by kernel_rfl) rfl ?_)
       have a90:=f4 _ _ q4
       refine cM (i:=2) (ns:=[i64 a0.1.N,i64 a0.1.I,zS a3 a0.1.L.length a5,zS a6 a0.1.E.length a8,zS g4 ([]:List Int).length 0,zS j4 j3.length j5]) (us:=[i64 a0.1.N,i64 a0.1.I,zS a3 a0.1.L.length a5,zS a6 a0.1.E.length a8,zS g4 ([]:List Int).length 0,zS j4 j3.length j5]) Tryz.sizeOf48 a90 rfl rfl rfl rfl rfl (eD rfl) rfl rfl (fun a91 (a92:aN G b3 (box e7 30 (zC a0.1 a3 a5 a6 a8)::aK 2 K g4 0 ([]:List Int)::box j2 48 [i64 a0.1.N,i64 a0.1.I,zS a3 a0.1.L.length a5,zS a6 a0.1.E.length a8,zS g4 ([]:List Int).length 0,zS j4 j3.length j5]::aK 9 K j4 j5 j3::aK 9 K a3 a5 a0.1.L::aK 63 K a6 a8 a0.1.E::aK 31 b3 b5 b6 a0.2::aK 31 c1 a9 b0 a2.1::aK 63 K b1 b2 a2.2.1::box c0 84 [cS (some ⟨b7,0,none⟩) 0,cS (some ⟨b8,0,none⟩) 0,zS a9 a2.1.length b0,zS b1 a2.2.1.length b2,zB a2.2.2]::box b4 48 zK::L) a91)=>(aD (aA ⟨aGH rfl,?_⟩)))
       exact fT (by kernel_rfl) (aA ⟨j3,j2,g4,0,j4,j5,hm,(kY e4),e2,rfl,rfl,(aN.arr 10 [3,1,2,4,5,6] a92 rfl)⟩)
      ·obtain ⟨g5,a93,hm⟩:=aJ hm
       refine qP (i:=1) cE Tryz.underlying22 oB rfl rfl q3 rfl (zL (zL (zL (zL (zL c3 b9) c4) c6) d1) d5) (h12.mono (zL (zL (zL (zL (zL c3 b9) c4) c6) d1) d5)) a93 rfl rfl rfl rfl (fun g6 g7 a94 (u5:aN G d4 (box j2 48 zK::aK 9 K g6 g7 g5::aK 9 K a3 a5 a0.1.L::aK 63 K a6 a8 a0.1.E::aK 31 b3 b5 b6 a0.2::aK 31 c1 a9 b0 a2.1::aK 63 K b1 b2 a2.2.1::box c0 84 [cS (some ⟨b7,0,none⟩) 0,cS (some ⟨b8,0,none⟩) 0,zS a9 a2.1.length b0,zS b1 a2.2.1.length b2,zB a2.2.2]::box b4 48 zK::L) a94)=>(aD (aA ⟨fun _=>⟨_,u5⟩,?_⟩)))
       refine bW (i:=1) (by kernel_rfl) rfl (dA (Kt:=K) (xs:=([]:List Int)) (cs:=[]) (vs:=[]) cG sU rfl rfl u5 rfl (by kernel_rfl) rfl rfl rfl trivial (fun j6 a95 (q5:aN G d4 (aK 2 K j6 0 ([]:List Int)::box j2 48 zK::aK 9 K g6 g7 g5::aK 9 K a3 a5 a0.1.L::aK 63 K a6 a8 a0.1.E::aK 31 b3 b5 b6 a0.2::aK 31 c1 a9 b0 a2.1::aK 63 K b1 b2 a2.2.1::box c0 84 [cS (some ⟨b7,0,none⟩) 0,cS (some ⟨b8,0,none⟩) 0,zS a9 a2.1.length b0,zS b1 a2.2.1.length b2,zB a2.2.2]::box b4 48 zK::L) a95)=>(aD (aA ⟨fun _=>⟨_,q5⟩,?_⟩))))
       refine eS (i:=6) rfl (by kernel_rfl) ⟨_,q5⟩ (fun _ _=>gW (vs:=[(0,zA (zCa a0.1 a3 a5 a6 a8)),(1,zS j6 ([]:List Int).length 0),(2,zS g6 g5.length g7)]) (cs:=[i64 a0.1.N,i64 a0.1.I,zS a3 a0.1.L.length a5,zS a6 a0.1.E.length a8,zS j6 ([]:List Int).length 0,zS g6 g5.length g7]) yO rfl (by kernel_rfl)) (bW (i:=8) (by kernel_rfl) rfl ?_)
       have a96:=f4 _ _ q5
       refine cM (i:=2) (ns:=[i64 a0.1.N,i64 a0.1.I,zS a3 a0.1.L.length a5,zS a6 a0.1.E.length a8,zS j6 ([]:List Int).length 0,zS g6 g5.length g7]) (us:=[i64 a0.1.N,i64 a0.1.I,zS a3 a0.1.L.length a5,zS a6 a0.1.E.length a8,zS j6 ([]:List Int).length 0,zS g6 g5.length g7]) Tryz.sizeOf48 a96 rfl rfl rfl rfl rfl (eD rfl) rfl rfl (fun a97 (a98:aN G b3 (box e7 30 (zC a0.1 a3 a5 a6 a8)::aK 2 K j6 0 ([]:List Int)::box j2 48 [i64 a0.1.N,i64 a0.1.I,zS a3 a0.1.L.length a5,zS a6 a0.1.E.length a8,zS j6 ([]:List Int).length 0,zS g6 g5.length g7]::aK 9 K g6 g7 g5::aK 9 K a3 a5 a0.1.L::aK 63 K a6 a8 a0.1.E::aK 31 b3 b5 b6 a0.2::aK 31 c1 a9 b0 a2.1::aK 63 K b1 b2 a2.2.1::box c0 84 [cS (some ⟨b7,0,none⟩) 0,cS (some ⟨b8,0,none⟩) 0,zS a9 a2.1.length b0,zS b1 a2.2.1.length b2,zB a2.2.2]::box b4 48 zK::L) a97)=>(aD (aA ⟨aGH rfl,?_⟩)))
       exact fT (by kernel_rfl) (aA ⟨g5,j2,j6,0,g6,g7,hm,(kY e4),e2,rfl,rfl,(aN.arr 10 [3,1,2,4,5,6] a98 rfl)⟩)
    ·refine cL (vs:=zK) Tryz.zeroValue48 g1 rfl (fun e6 b59 q6=>(aD (aA ⟨fun _=>⟨_,q6⟩,?_⟩)))
     refine jW (i:=1) (j:=2) (by kernel_rfl) rfl rfl ?_ ?_
     ·refine dA (Kt:=K) (xs:=([]:List Int)) (cs:=[]) (vs:=[]) cG sU rfl rfl q6 rfl (by kernel_rfl) rfl rfl rfl trivial (fun g2 a99 (u6:aN G d4 (aK 2 K g2 0 ([]:List Int)::box e6 48 zK::aK 9 K a3 a5 a0.1.L::aK 63 K a6 a8 a0.1.E::aK 31 b3 b5 b6 a0.2::aK 31 c1 a9 b0 a2.1::aK 63 K b1 b2 a2.2.1::box c0 84 [cS (some ⟨b7,0,none⟩) 0,cS (some ⟨b8,0,none⟩) 0,zS a9 a2.1.length b0,zS b1 a2.2.1.length b2,zB a2.2.2]::box b4 48 zK::L) a99)=>(aD (aA ⟨fun _=>⟨_,u6⟩,?_⟩)))
      refine bW (i:=2) (by kernel_rfl) rfl (dA (Kt:=K) (xs:=([]:List aZ)) (cs:=[]) (vs:=[]) cE oB rfl rfl u6 rfl (by kernel_rfl) rfl rfl rfl trivial (fun b00 b01 (u7:aN G d4 (aK 9 K b00 0 ([]:List aZ)::aK 2 K g2 0 ([]:List Int)::box e6 48 zK::aK 9 K a3 a5 a0.1.L::aK 63 K a6 a8 a0.1.E::aK 31 b3 b5 b6 a0.2::aK 31 c1 a9 b0 a2.1::aK 63 K b1 b2 a2.2.1::box c0 84 [cS (some ⟨b7,0,none⟩) 0,cS (some ⟨b8,0,none⟩) 0,zS a9 a2.1.length b0,zS b1 a2.2.1.length b2,zB a2.2.2]::box b4 48 zK::L) b01)=>(aD (aA ⟨fun _=>⟨_,u7⟩,?_⟩))))
      refine bW (i:=5) (by kernel_rfl) rfl ?_
      obtain ⟨j7,b02,hm⟩:=aJ hm
      refine qP (i:=0) cE Tryz.underlying22 oB rfl rfl u7 rfl (zL (zL (zL (zL (zL c3 b9) c4) c6) d1) d5) (h12.mono (zL (zL (zL (zL (zL c3 b9) c4) c6) d1) d5)) b02 rfl rfl rfl rfl (fun j8 j9 b03 (q7:aN G d4 (aK 9 K j8 j9 j7::aK 2 K g2 0 ([]:List Int)::box e6 48 zK::aK 9 K a3 a5 a0.1.L::aK 63 K a6 a8 a0.1.E::aK 31 b3 b5 b6 a0.2::aK 31 c1 a9 b0 a2.1::aK 63 K b1 b2 a2.2.1::box c0 84 [cS (some ⟨b7,0,none⟩) 0,cS (some ⟨b8,0,none⟩) 0,zS a9 a2.1.length b0,zS b1 a2.2.1.length b2,zB a2.2.2]::box b4 48 zK::L) b03)=>(aD (aA ⟨fun _=>⟨_,q7⟩,?_⟩)))
      refine eS (i:=6) rfl (by kernel_rfl) ⟨_,q7⟩ (fun _ _=>gW (vs:=[(0,zA (zCa a0.1 a3 a5 a6 a8)),(1,zS g2 ([]:List Int).length 0),(2,zS j8 j7.length j9)]) (cs:=[i64 a0.1.N,i64 a0.1.I,zS a3 a0.1.L.length a5,zS a6 a0.1.E.length a8,zS g2 ([]:List Int).length 0,zS j8 j7.length j9]) yO rfl (by kernel_rfl)) (bW (i:=8) (by kernel_rfl) rfl ?_)
      have b04:=f4 _ _ q7
      refine cM (i:=3) (ns:=[i64 a0.1.N,i64 a0.1.I,zS a3 a0.1.L.length a5,zS a6 a0.1.E.length a8,zS g2 ([]:List Int).length 0,zS j8 j7.length j9]) (us:=[i64 a0.1.N,i64 a0.1.I,zS a3 a0.1.L.length a5,zS a6 a0.1.E.length a8,zS g2 ([]:List Int).length 0,zS j8 j7.length j9]) Tryz.sizeOf48 b04 rfl rfl rfl rfl rfl (eD rfl) rfl rfl (fun b05 (b06:aN G b3 (box e7 30 (zC a0.1 a3 a5 a6 a8)::aK 9 K j8 j9 j7::aK 2 K g2 0 ([]:List Int)::box e6 48 [i64 a0.1.N,i64 a0.1.I,zS a3 a0.1.L.length a5,zS a6 a0.1.E.length a8,zS g2 ([]:List Int).length 0,zS j8 j7.length j9]::aK 9 K a3 a5 a0.1.L::aK 63 K a6 a8 a0.1.E::aK 31 b3 b5 b6 a0.2::aK 31 c1 a9 b0 a2.1::aK 63 K b1 b2 a2.2.1::box c0 84 [cS (some ⟨b7,0,none⟩) 0,cS (some ⟨b8,0,none⟩) 0,zS a9 a2.1.length b0,zS b1 a2.2.1.length b2,zB a2.2.2]::box b4 48 zK::L) b05)=>(aD (aA ⟨aGH rfl,?_⟩)))
      exact fT (by kernel_rfl) (aA ⟨j7,e6,g2,0,j8,j9,hm,(kY e4),e2,rfl,rfl,(aN.arr 10 [1,2,3,4,5,6] b06 rfl)⟩)
     ·refine dA (Kt:=K) (xs:=([]:List aZ)) (cs:=[]) (vs:=[]) cE oB rfl rfl q6 rfl (by kernel_rfl) rfl rfl rfl trivial (fun u8 b07 (q8:aN G d4 (aK 9 K u8 0 ([]:List aZ)::box e6 48 zK::aK 9 K a3 a5 a0.1.L::aK 63 K a6 a8 a0.1.E::aK 31 b3 b5 b6 a0.2::aK 31 c1 a9 b0 a2.1::aK 63 K b1 b2 a2.2.1::box c0 84 [cS (some ⟨b7,0,none⟩) 0,cS (some ⟨b8,0,none⟩) 0,zS a9 a2.1.length b0,zS b1 a2.2.1.length b2,zB a2.2.2]::box b4 48 zK::L) b07)=>(aD (aA ⟨fun _=>⟨_,q8⟩,?_⟩)))
      refine jW (i:=1) (j:=5) (by kernel_rfl) rfl rfl ?_ ?_
      ·refine dA (Kt:=K) (xs:=([]:List Int)) (cs:=[]) (vs:=[]) cG sU rfl rfl q8 rfl (by kernel_rfl) rfl rfl rfl trivial (fun g8 b08 (u9:aN G d4 (aK 2 K g8 0 ([]:List Int)::aK 9 K u8 0 ([]:List aZ)::box e6 48 zK::aK 9 K a3 a5 a0.1.L::aK 63 K a6 a8 a0.1.E::aK 31 b3 b5 b6 a0.2::aK 31 c1 a9 b0 a2.1::aK 63 K b1 b2 a2.2.1::box c0 84 [cS (some ⟨b7,0,none⟩) 0,cS (some ⟨b8,0,none⟩) 0,zS a9 a2.1.length b0,zS b1 a2.2.1.length b2,zB a2.2.2]::box b4 48 zK::L) b08)=>(aD (aA ⟨fun _=>⟨_,u9⟩,?_⟩)))
       refine bW (i:=5) (by kernel_rfl) rfl ?_
       obtain ⟨k0,b09,hm⟩:=aJ hm
       refine qP (i:=1) cE Tryz.underlying22 oB rfl rfl u9 rfl (zL (zL (zL (zL (zL c3 b9) c4) c6) d1) d5) (h12.mono (zL (zL (zL (zL (zL c3 b9) c4) c6) d1) d5)) b09 rfl rfl rfl rfl (fun k1 k2 b10 (q9:aN G d4 (aK 2 K g8 0 ([]:List Int)::aK 9 K k1 k2 k0::box e6 48 zK::aK 9 K a3 a5 a0.1.L::aK 63 K a6 a8 a0.1.E::aK 31 b3 b5 b6 a0.2::aK 31 c1 a9 b0 a2.1::aK 63 K b1 b2 a2.2.1::box c0 84 [cS (some ⟨b7,0,none⟩) 0,cS (some ⟨b8,0,none⟩) 0,zS a9 a2.1.length b0,zS b1 a2.2.1.length b2,zB a2.2.2]::box b4 48 zK::L) b10)=>(aD (aA ⟨fun _=>⟨_,q9⟩,?_⟩)))
       refine eS (i:=6) rfl (by kernel_rfl) ⟨_,q9⟩ (fun _ _=>gW (vs:=[(0,zA (zCa a0.1 a3 a5 a6 a8)),(1,zS g8 ([]:List Int).length 0),(2,zS k1 k0.length k2)]) (cs:=[i64 a0.1.N,i64 a0.1.I,zS a3 a0.1.L.length a5,zS a6 a0.1.E.length a8,zS g8 ([]:List Int).length 0,zS k1 k0.length k2]) yO rfl (by kernel_rfl)) (bW (i:=8) (by kernel_rfl) rfl ?_)
       have b11:=f4 _ _ q9
       refine cM (i:=3) (ns:=[i64 a0.1.N,i64 a0.1.I,zS a3 a0.1.L.length a5,zS a6 a0.1.E.length a8,zS g8 ([]:List Int).length 0,zS k1 k0.length k2]) (us:=[i64 a0.1.N,i64 a0.1.I,zS a3 a0.1.L.length a5,zS a6 a0.1.E.length a8,zS g8 ([]:List Int).length 0,zS k1 k0.length k2]) Tryz.sizeOf48 b11 rfl rfl rfl rfl rfl (eD rfl) rfl rfl (fun b12 (b13:aN G b3 (box e7 30 (zC a0.1 a3 a5 a6 a8)::aK 2 K g8 0 ([]:List Int)::aK 9 K k1 k2 k0::box e6 48 [i64 a0.1.N,i64 a0.1.I,zS a3 a0.1.L.length a5,zS a6 a0.1.E.length a8,zS g8 ([]:List Int).length 0,zS k1 k0.length k2]::aK 9 K a3 a5 a0.1.L::aK 63 K a6 a8 a0.1.E::aK 31 b3 b5 b6 a0.2::aK 31 c1 a9 b0 a2.1::aK 63 K b1 b2 a2.2.1::box c0 84 [cS (some ⟨b7,0,none⟩) 0,cS (some ⟨b8,0,none⟩) 0,zS a9 a2.1.length b0,zS b1 a2.2.1.length b2,zB a2.2.2]::box b4 48 zK::L) b12)=>(aD (aA ⟨aGH rfl,?_⟩)))
       exact fT (by kernel_rfl) (aA ⟨k0,e6,g8,0,k1,k2,hm,(kY e4),e2,rfl,rfl,(aN.arr 10 [2,1,3,4,5,6] b13 rfl)⟩)
      ·obtain ⟨g9,b14,hm⟩:=aJ hm
       refine qP (i:=0) cE Tryz.underlying22 oB rfl rfl q8 rfl (zL (zL (zL (zL (zL c3 b9) c4) c6) d1) d5) (h12.mono (zL (zL (zL (zL (zL c3 b9) c4) c6) d1) d5)) b14 rfl rfl rfl rfl (fun h0 h1 b15 (v0:aN G d4 (aK 9 K h0 h1 g9::box e6 48 zK::aK 9 K a3 a5 a0.1.L::aK 63 K a6 a8 a0.1.E::aK 31 b3 b5 b6 a0.2::aK 31 c1 a9 b0 a2.1::aK 63 K b1 b2 a2.2.1::box c0 84 [cS (some ⟨b7,0,none⟩) 0,cS (some ⟨b8,0,none⟩) 0,zS a9 a2.1.length b0,zS b1 a2.2.1.length b2,zB a2.2.2]::box b4 48 zK::L) b15)=>(aD (aA ⟨fun _=>⟨_,v0⟩,?_⟩)))
       refine bW (i:=1) (by kernel_rfl) rfl (dA (Kt:=K) (xs:=([]:List Int)) (cs:=[]) (vs:=[]) cG sU rfl rfl v0 rfl (by kernel_rfl) rfl rfl rfl trivial (fun k3 b16 (r0:aN G d4 (aK 2 K k3 0 ([]:List Int)::aK 9 K h0 h1 g9::box e6 48 zK::aK 9 K a3 a5 a0.1.L::aK 63 K a6 a8 a0.1.E::aK 31 b3 b5 b6 a0.2::aK 31 c1 a9 b0 a2.1::aK 63 K b1 b2 a2.2.1::box c0 84 [cS (some ⟨b7,0,none⟩) 0,cS (some ⟨b8,0,none⟩) 0,zS a9 a2.1.length b0,zS b1 a2.2.1.length b2,zB a2.2.2]::box b4 48 zK::L) b16)=>(aD (aA ⟨fun _=>⟨_,r0⟩,?_⟩))))
       refine eS (i:=6) rfl (by kernel_rfl) ⟨_,r0⟩ (fun _ _=>gW (vs:=[(0,zA (zCa a0.1 a3 a5 a6 a8)),(1,zS k3 ([]:List Int).length 0),(2,zS h0 g9.length h1)]) (cs:=[i64 a0.1.N,i64 a0.1.I,zS a3 a0.1.L.length a5,zS a6 a0.1.E.length a8,zS k3 ([]:List Int).length 0,zS h0 g9.length h1]) yO rfl (by kernel_rfl)) (bW (i:=8) (by kernel_rfl) rfl ?_)
       have b17:=f4 _ _ r0
       refine cM (i:=3) (ns:=[i64 a0.1.N,i64 a0.1.I,zS a3 a0.1.L.length a5,zS a6 a0.1.E.length a8,zS k3 ([]:List Int).length 0,zS h0 g9.length h1]) (us:=[i64 a0.1.N,i64 a0.1.I,zS a3 a0.1.L.length a5,zS a6 a0.1.E.length a8,zS k3 ([]:List Int).length 0,zS h0 g9.length h1]) Tryz.sizeOf48 b17 rfl rfl rfl rfl rfl (eD rfl) rfl rfl (fun b18 (b19:aN G b3 (box e7 30 (zC a0.1 a3 a5 a6 a8)::aK 2 K k3 0 ([]:List Int)::aK 9 K h0 h1 g9::box e6 48 [i64 a0.1.N,i64 a0.1.I,zS a3 a0.1.L.length a5,zS a6 a0.1.E.length a8,zS k3 ([]:List Int).length 0,zS h0 g9.length h1]::aK 9 K a3 a5 a0.1.L::aK 63 K a6 a8 a0.1.E::aK 31 b3 b5 b6 a0.2::aK 31 c1 a9 b0 a2.1::aK 63 K b1 b2 a2.2.1::box c0 84 [cS (some ⟨b7,0,none⟩) 0,cS (some ⟨b8,0,none⟩) 0,zS a9 a2.1.length b0,zS b1 a2.2.1.length b2,zB a2.2.2]::box b4 48 zK::L) b18)=>(aD (aA ⟨aGH rfl,?_⟩)))
       exact fT (by kernel_rfl) (aA ⟨g9,e6,k3,0,h0,h1,hm,(kY e4),e2,rfl,rfl,(aN.arr 10 [2,1,3,4,5,6] b19 rfl)⟩)
 refine aC ?_
 obtain ⟨b60,m6,b20,b21,b22⟩:=aN.lendB (i:=2) v6 rfl
 obtain ⟨b23,b24,hm⟩:=aJ hm
 refine aX (vs:=[cS (some ⟨b7,0,none⟩) 0]) Tryz.call46 rfl (aMh b21 b20 (h3.mono m6) (h6.mono m6) (h9.mono m6) (h12.mono m6) b24) ?_
 rintro _ b61 ⟨rfl,b25⟩
 have v1:=b22 _ _ b25
 refine aB (eP rfl) (aB (aF (v:=zB (!b23)) rfl) ?_)
 rcases aM hm with ⟨k5,hm⟩|⟨k5,hm⟩
 ·exact aV k5 rfl rfl (aV k5 rfl rfl (aB (bH (v:=zB true) k5 rfl rfl) (aD (aA ⟨true,hm,rfl,rfl,rfl,rfl,(aN.arr 3 [1,2,0] v1 rfl)⟩))))
 ·refine bI k5 rfl rfl ?_
  obtain ⟨b62,v2,b26,b27,b28⟩:=aN.lendB (i:=2) v1 rfl
  obtain ⟨v3,b29,hm⟩:=aJ hm
  refine aX (vs:=[cS (some ⟨b8,0,none⟩) 0]) Tryz.call47 rfl (aFm b27 b26 (h15.mono v2) (h18.mono v2) b29) ?_
  rintro _ b63 ⟨rfl,b30⟩
  have b31:=b28 _ _ b30
  exact bI k5 rfl rfl (aB (eP rfl) (aB (bL (v:=zB (!v3)) k5 rfl rfl) (aD (aA ⟨!v3,hm,rfl,rfl,rfl,rfl,(aN.arr 3 [2,0,1] b31 rfl)⟩))))
theorem aID {a:(List Int)} {R:(List Int)} (hs:aN G K (L) w) (h3:cJ K a1 c2 a) (hm:aBL a=some R):
  Calls Tryz.prog 53 ([zS a1 a.length c2]:List Value).toArray w (gV fun v w'=>∃ (ra0:Option Addr) (rc0:Nat),v=zS ra0 R.length rc0∧aN G K (aK 2 K ra0 rc0 R::L) w'):=by
 refine aW Tryz.func53 rfl (by kernel_rfl) (by show (1:Nat)≤22;decide) ?_
 unfold aBL at hm
 refine aH (aC (aB (aG (v:=zS none 0 0) rfl) (aD (aA (aH (aC (aB (aF (v:=zS a1 a.length c2) rfl) (aB (bR (len:=a.length) cG rfl) ?_))))))))
 obtain ⟨a2,q5,hm⟩:=aJ hm
 refine aKW (e:=(0:Int)) cG sU rfl rfl hs rfl rfl rfl q5 rfl (fun a6 w7 (b9:aN G K (aK 2 K a6 a2.length a2::L) w7)=>(aB (aG (v:=zS a6 a2.length a2.length) rfl) (aD (aA (aH (aH (aC (aB (aG (v:=i64 0) rfl) (aD (aA (bJ (fun f w=>∃ (a5:List Int),aAg a5=some R∧f 3=zS a6 a5.length a2.length∧aN G K (aK 2 K a6 a2.length a5::L) w) ?_ ?_)))))))))))
 ·rintro f d3 ⟨a5,hm,c0,c1⟩
  unfold aAg at hm
  refine aA (aH (aC (aB (aF c0) (aB (aG (v:=zS a6 a5.length a2.length) rfl) (aD (aA ?_))))))
  cases zI hm
  exact bC (bA Tryz.results53 rfl ⟨a6,a2.length,rfl,c1⟩)
 obtain ⟨d4,c4,hm⟩:=aJ hm
 refine cP c4 (fun (s:(List Int × Int)) f w=>match s with|(a4,i27)=>f 0=zS a1 a.length c2∧f 3=zS a6 a4.length a2.length∧f 4=i64 i27∧aN G K (aK 2 K a6 a2.length a4::L) w) ?_ ?_
 ·exact ⟨rfl,rfl,rfl,b9⟩
 ·rintro ⟨a4,i27⟩ c5 f d5 a0 c6 ⟨a9,b0,a7,a8⟩
  replace a0:uU a a4 i27=some c5:=a0
  unfold uU at a0
  refine aH (aH (aC (aB (aF a7) (aB (aF a9) (aB (bR (len:=a.length) cG rfl) (aB (cK rfl rfl) (aD (aA ?_))))))))
  rcases aM a0 with ⟨b1,a0⟩|⟨b1,a0⟩
  ·refine aQ b1 rfl (aY (aA (aH (cQ (aC (aB (aF b0) (aB (aF a7) (aB (aF a9) (aB (aF a7) ?_)))))))))
   obtain ⟨b3,b4,a0⟩:=aJ a0
   refine aB (cV cG rfl h3 rfl rfl rfl b4) ?_
   obtain ⟨d6,c7,c8⟩:=cJ.el (sz:=1) rfl h3 b4
   cases c8
   refine aB (bP (t:=0) dF a8 c7 rfl rfl) ?_
   obtain ⟨d7,b2,a0⟩:=aJ a0
   have c9:=dH a8 (i:=0) rfl b2
   refine aB (eY cG rfl c9 rfl rfl rfl b2) ?_
   obtain ⟨b5,b6,a0⟩:=aJ a0
   exact rO (i:=0) (t:=0) (ns:=[i64 b3]) (e':=(b3:Int)) Tryz.sizeOf2 a8 rfl (zR _) rfl rfl rfl b2 b6 rfl rfl (eD rfl) rfl (fun cs h=>by cases h;rfl) (fun d0 (d1:aN G K (aK 2 K a6 a2.length b5::L) d0)=>(aD (bO (aA (aC (aB (aF a7) (aB (cY rfl rfl) (aB (aG (v:=i64 (wr (i27+1))) rfl) (aD (aA ⟨(b5,wr (i27+1)),(zI a0).symm,a9,(Eq.trans b0 (congrArg (fun n=>zS a6 n a2.length) (jM b6))),rfl,d1⟩))))))))))
  ·refine aO b1 rfl (cN (bB (bB ?_)))
   have d2:=c6 _ (zI a0).symm
   subst d2
   have hm:(aAg a4)=some R:=hm
   exact bS (aA ⟨a4,hm,b0,a8⟩)
theorem oZ {a:cI} {R:cI} (hs:aN G K (L) w) (h3:cJ K a1 c2 a.S.L) (h6:cJ K a4 c5 a.S.E) (h9:cJ K a7 c8 a.M) (h12:cJ K a10 c11 a.C) (hm:wH a=some R):
  Calls Tryz.prog 20 ([zA (zEa a a1 c2 a4 c5 a7 c8 a10 c11)]:List Value).toArray w (gV fun v w'=>∃ (ra0:Option Addr) (rc0:Nat) (ra1:Option Addr) (rc1:Nat) (ra2:Option Addr) (rc2:Nat) (ra3:Option Addr) (rc3:Nat),v=zA (zEa R ra0 rc0 ra1 rc1 ra2 rc2 ra3 rc3)∧aN G K (aK 9 K ra0 rc0 R.S.L::aK 63 K ra1 rc1 R.S.E::aK 2 K ra2 rc2 R.M::aK 9 K ra3 rc3 R.C::L) w'):=by
 refine aW Tryz.func20 rfl (by kernel_rfl) (by show (1:Nat)≤17;decide) ?_
 unfold wH at hm
 refine aH (aC (fC (v:=zA (zEa a a1 c2 a4 c5 a7 c8 a10 c11)) (vs:=(zE a a1 c2 a4 c5 a7 c8 a10 c11)) hs rfl rfl (fun b4 d8 c3=>(cL (vs:=zK) Tryz.zeroValue48 c3 rfl (fun b5 d9 c4=>(aD (aA (aH (aC (cL (vs:=zK) Tryz.zeroValue48 c4 rfl (fun b6 e0 b7=>(aD (aA (aH (aC (aB (bD (t':=0) fa_45_0 rfl rfl) (aB (dO (us:=(zC a.S a1 c2 a4 c5)) aIY b7 (i:=2) rfl rfl rfl rfl) ?_)))))))))))))))))
 obtain ⟨a0,c6,hm⟩:=aJ hm
 refine aX (vs:=[zA (zCa a.S a1 c2 a4 c5)]) Tryz.call8 rfl (lI b7 h3 h6 c6) ?_
 rintro _ e1 ⟨a2,a3,a5,a6,rfl,c7⟩
 refine aB (bD (t':=0) kK rfl rfl) (cM (i:=2) (ns:=(zC a0 a2 a3 a5 a6)) (us:=[i64 a0.N,i64 a0.I,zS a2 a0.L.length a3,zS a5 a0.E.length a6,zS none 0 0,zS none 0 0]) Tryz.sizeOf30 c7 rfl rfl rfl rfl rfl (eD rfl) rfl rfl (fun c9 (b8:aN G K (aK 9 K a2 a3 a0.L::aK 63 K a5 a6 a0.E::box b6 48 [i64 a0.N,i64 a0.I,zS a2 a0.L.length a3,zS a5 a0.E.length a6,zS none 0 0,zS none 0 0]::box b5 48 zK::box b4 45 (zE a a1 c2 a4 c5 a7 c8 a10 c11)::L) c9)=>(aD (aA (aH (aC (aB (bD (t':=4) fa_45_1 rfl rfl) (aB (bY kD b8 (i:=4) rfl rfl rfl) ?_))))))))
 obtain ⟨b0,d0,hm⟩:=aJ hm
 refine aX (vs:=[zS a7 a.M.length c8]) Tryz.call53 rfl (aID b8 h9 d0) ?_
 rintro _ e2 ⟨a8,a9,rfl,d1⟩
 refine aB (bD (t':=4) sV rfl rfl) (cM (i:=3) (ns:=[zS a8 b0.length a9]) (us:=[i64 a0.N,i64 a0.I,zS a2 a0.L.length a3,zS a5 a0.E.length a6,zS a8 b0.length a9,zS none 0 0]) Tryz.sizeOf31 d1 rfl rfl rfl rfl rfl (eD rfl) rfl rfl (fun d2 (b9:aN G K (aK 2 K a8 a9 b0::aK 9 K a2 a3 a0.L::aK 63 K a5 a6 a0.E::box b6 48 [i64 a0.N,i64 a0.I,zS a2 a0.L.length a3,zS a5 a0.E.length a6,zS a8 b0.length a9,zS none 0 0]::box b5 48 zK::box b4 45 (zE a a1 c2 a4 c5 a7 c8 a10 c11)::L) d2)=>(aD (aA (aH (aC (aB (bD (t':=5) fa_45_2 rfl rfl) (aB (bY jK b9 (i:=5) rfl rfl rfl) ?_))))))))
 obtain ⟨b3,d3,hm⟩:=aJ hm
 refine aX (vs:=[zS a10 a.C.length c11]) Tryz.call9 rfl (aDo b9 h12 d3) ?_
 rintro _ e3 ⟨b1,b2,rfl,d4⟩
 refine aB (bD (t':=5) aAU rfl rfl) (cM (i:=4) (ns:=[zS b1 b3.length b2]) (us:=[i64 a0.N,i64 a0.I,zS a2 a0.L.length a3,zS a5 a0.E.length a6,zS a8 b0.length a9,zS b1 b3.length b2]) Tryz.sizeOf22 d4 rfl rfl rfl rfl rfl (eD rfl) rfl rfl (fun d5 (c0:aN G K (aK 9 K b1 b2 b3::aK 2 K a8 a9 b0::aK 9 K a2 a3 a0.L::aK 63 K a5 a6 a0.E::box b6 48 [i64 a0.N,i64 a0.I,zS a2 a0.L.length a3,zS a5 a0.E.length a6,zS a8 b0.length a9,zS b1 b3.length b2]::box b5 48 zK::box b4 45 (zE a a1 c2 a4 c5 a7 c8 a10 c11)::L) d5)=>(aD (aA (aH (aC (aB (dO (us:=[i64 a0.N,i64 a0.I,zS a2 a0.L.length a3,zS a5 a0.E.length a6,zS a8 b0.length a9,zS b1 b3.length b2]) nV c0 (i:=4) rfl rfl rfl rfl) (cM (i:=5) (ns:=[i64 a0.N,i64 a0.I,zS a2 a0.L.length a3,zS a5 a0.E.length a6,zS a8 b0.length a9,zS b1 b3.length b2]) (us:=[i64 a0.N,i64 a0.I,zS a2 a0.L.length a3,zS a5 a0.E.length a6,zS a8 b0.length a9,zS b1 b3.length b2]) Tryz.sizeOf48 c0 rfl rfl rfl rfl rfl (eD rfl) rfl rfl (fun d6 (c1:aN G K (aK 9 K b1 b2 b3::aK 2 K a8 a9 b0::aK 9 K a2 a3 a0.L::aK 63 K a5 a6 a0.E::box b6 48 [i64 a0.N,i64 a0.I,zS a2 a0.L.length a3,zS a5 a0.E.length a6,zS a8 b0.length a9,zS b1 b3.length b2]::box b5 48 [i64 a0.N,i64 a0.I,zS a2 a0.L.length a3,zS a5 a0.E.length a6,zS a8 b0.length a9,zS b1 b3.length b2]::box b4 45 (zE a a1 c2 a4 c5 a7 c8 a10 c11)::L) d6)=>(aD (aA ?_)))))))))))
 cases zI hm
 exact bC (aGF Tryz.results20 (oA (vs:=[i64 a0.N,i64 a0.I,zS a2 a0.L.length a3,zS a5 a0.E.length a6,zS a8 b0.length a9,zS b1 b3.length b2]) rfl nV c1 (i:=5) rfl rfl rfl) ⟨a2,a3,a5,a6,a8,a9,b1,b2,rfl,(aN.arr 7 [2,3,1,0] c1 rfl)⟩)
theorem aFJ {t:cH} {list:(List Int)} {R:Bool} (hs:aN G K (L) w) (h3:cJ K a1 c2 t.L) (h6:cJ K a4 c5 t.E) (h9:cJ K a7 c8 list) (hm:sL t list=some R):
  Calls Tryz.prog 107 ([zA (zCa t a1 c2 a4 c5),zS a7 list.length c8]:List Value).toArray w (gV fun v w'=>v=zB R∧aN G K (L) w'):=by
 refine aW Tryz.func107 rfl (by kernel_rfl) (by show (2:Nat)≤32;decide) ?_
 unfold sL at hm
 refine aH (aC (fC (v:=zA (zCa t a1 c2 a4 c5)) (vs:=(zC t a1 c2 a4 c5)) hs rfl rfl (fun a9 e7 c9=>(aB (aG (v:=zB false) rfl) (aD (aA (aH (aH (aC (aB (aF (v:=zS a7 list.length c8) rfl) (aB (bR (len:=list.length) cG rfl) (aB (aF (v:=i64 0) rfl) (aD (aA (bJ (fun f w=>rI=some R∧aN G K (L) w) ?_ ?_)))))))))))))))
 ·rintro f e8 ⟨hm,d0⟩
  unfold rI at hm
  refine aA (aH (aC (aB (aG (v:=zB true) rfl) (aD (aA ?_)))))
  cases zI hm
  exact bC (bA Tryz.results107 rfl ⟨rfl,d0⟩)
 obtain ⟨e9,d2,hm⟩:=aJ hm
 refine cP d2 (fun (a5:Int) f w=>f 1=zS a7 list.length c8∧f 2=zP (some ⟨a9,0,none⟩)∧f 7=zS a7 list.length c8∧f 8=i64 (list.length:Int)∧f 9=i64 a5∧aN G K (box a9 30 (zC t a1 c2 a4 c5)::L) w) ?_ ?_
 ·exact ⟨rfl,rfl,rfl,rfl,rfl,c9⟩
 ·rintro a5 c0 f f0 a0 c1 ⟨b0,b1,b2,b3,a8,b4⟩
  replace a0:jF t list a5=some c0:=a0
  unfold jF at a0
  refine aH (aC (aB (cK a8 b3) (aD (aA (aH ?_)))))
  rcases aM a0 with ⟨b6,a0⟩|⟨b6,a0⟩
  ·refine aQ b6 rfl (aY (aA (aH (cQ (aH (aC (aB (aF a8) ?_)))))))
   obtain ⟨a6,c3,a0⟩:=aJ a0
   refine aB (cV cG rfl h9 b2 rfl a8 c3) ?_
   obtain ⟨f1,d3,d4⟩:=cJ.el (sz:=1) rfl h9 c3
   cases d4
   refine aB (bP (t:=0) dF b4 d3 rfl rfl) (aB (aG (v:=i64 a5) rfl) (aB (aG (v:=i64 a6) rfl) (aD (aA (aH (cU (fun f w=>∃ (b7:Bool),kQ a5 b7=some c0∧f 1=zS a7 list.length c8∧f 2=zP (some ⟨a9,0,none⟩)∧f 7=zS a7 list.length c8∧f 8=i64 (list.length:Int)∧f 9=i64 a5∧f 30=zB b7∧aN G K (box a9 30 (zC t a1 c2 a4 c5)::L) w) ?_ ?_))))))
   ·rintro f f2 ⟨b7,a0,d5,d6,d7,d8,d9,c4,c6⟩
    unfold kQ at a0
    refine aA ?_
    rcases aM a0 with ⟨b8,a0⟩|⟨b8,a0⟩
    ·refine aQ b8 c4 (aH (aC (aB (aG (v:=zB false) rfl) (aD (aA (bC (bN (aS (aS ?_)))))))))
     have e0:=c1 _ (zI a0).symm
     subst e0
     have hm:(some false)=some R:=hm
     cases zI hm
     exact bN (aS (aS (bA Tryz.results107 rfl ⟨rfl,(aN.arr 1 [] c6 rfl)⟩)))
    ·exact aO b8 c4 (aY (bO (aA (aC (aB (cY d9 rfl) (aB (aF (v:=i64 (wr (a5+1))) rfl) (aD (aA ⟨wr (a5+1),(zI a0).symm,d5,d6,d7,d8,rfl,c6⟩))))))))
   refine aC (aB (dO (us:=(zC t a1 c2 a4 c5)) kE b4 (i:=0) rfl b1 rfl rfl) (aB (aF (v:=i64 a6) rfl) ?_))
   obtain ⟨e2,e3,a0⟩:=aJ a0
   refine aX (vs:=[zA (zCa t a1 c2 a4 c5),i64 a6]) Tryz.call74 rfl (pP b4 h3 h6 e3) ?_
   rintro _ f3 ⟨rfl,b5⟩
   refine aB (eP rfl) (aB (aF (v:=zB (!e2)) rfl) ?_)
   rcases aM a0 with ⟨a3,a0⟩|⟨a3,a0⟩
   ·exact aV a3 rfl rfl (aV a3 rfl rfl (aV a3 rfl rfl (dG (g:=21) rfl rfl (dG (g:=21) rfl rfl (dG (g:=21) rfl rfl (dG (g:=21) rfl rfl (dG (g:=21) rfl rfl (dG (g:=21) rfl rfl (dG (g:=21) rfl rfl (aV a3 rfl rfl (aB (bH (v:=zB true) a3 rfl rfl) (aD (aA ⟨true,a0,b0,b1,b2,b3,a8,rfl,b5⟩)))))))))))))
   ·refine bI a3 rfl rfl (aB (aF (v:=i64 a5) rfl) (bI a3 rfl rfl (aB (lJ rfl rfl) (bI a3 rfl rfl (aB (aF (v:=zB (decide (0 < a5))) rfl) ?_)))))
    rcases aM a0 with ⟨a2,a0⟩|⟨a2,a0⟩
    ·refine bK a2 rfl rfl (aB (aF (v:=i64 a6) rfl) (bK a2 rfl rfl (aB (aF b0) (bK a2 rfl rfl (aB (aF (v:=i64 a5) rfl) (bK a2 rfl rfl (aB (hY rfl rfl) (bK a2 rfl rfl ?_))))))))
     obtain ⟨b9,c7,a0⟩:=aJ a0
     refine aB (cV cG rfl h9 rfl rfl rfl c7) ?_
     obtain ⟨f4,e4,e5⟩:=cJ.el (sz:=1) rfl h9 c7
     cases e5
     exact bK a2 rfl rfl (aB (bP (t:=0) dF b5 e4 rfl rfl) (bK a2 rfl rfl (aB (aED rfl rfl) (bI a3 rfl rfl (aB (bH (v:=zB (decide (a6≤b9))) a2 rfl rfl) (aB (bL (v:=zB (decide (a6≤b9))) a3 rfl rfl) (aD (aA ⟨decide (a6≤b9),a0,b0,b1,b2,b3,a8,rfl,b5⟩))))))))
    ·exact bE a2 rfl rfl (bE a2 rfl rfl (bE a2 rfl rfl (bE a2 rfl rfl (bE a2 rfl rfl (bE a2 rfl rfl (bE a2 rfl rfl (bI a3 rfl rfl (aB (bL (v:=zB false) a2 rfl rfl) (aB (bL (v:=zB false) a3 rfl rfl) (aD (aA ⟨false,a0,b0,b1,b2,b3,a8,rfl,b5⟩)))))))))))
  ·refine aO b6 rfl (cN (bB (bB ?_)))
   have e6:=c1 _ (zI a0).symm
   subst e6
   have hm:(rI)=some R:=hm
   exact bS (aA ⟨hm,(aN.arr 1 [] b4 rfl)⟩)
end Gv
