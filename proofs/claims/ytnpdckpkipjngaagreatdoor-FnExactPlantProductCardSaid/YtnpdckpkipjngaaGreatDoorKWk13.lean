/- Walks, printed by program. -/
import Derived.Test.YtnpdckpkipjngaaGreatDoorKWk1
import Derived.Test.YtnpdckpkipjngaaGreatDoorKWk3
import Derived.Test.YtnpdckpkipjngaaGreatDoorKWk7
import Derived.Test.YtnpdckpkipjngaaGreatDoorKWk8
import Derived.Test.YtnpdckpkipjngaaGreatDoorKWk10
import Derived.Test.YtnpdckpkipjngaaGreatDoorKWk12
set_option linter.all false
namespace Gv
open Go.Value renaming slice→zS,bool→zB,pointer→zP,agg→zA,tuple→zT
open Option.some renaming inj→zI
open Gv.Hp renaming le_trans→zL
open Go Go.Proofs
set_option maxRecDepth 20000
set_option maxHeartbeats 40000000
variable {G:Env} {K:Hp} {L:List nD} {w:World} {a1 a4 a7 a10 a13 a16:Option Addr} {c2 c5 c8 c11 c14 c17:Nat}
theorem aBS {aP:cI} {aR:cH} {R:Bool} (hs:aN G K (L) w) (hG:G.lo=0) (h3:cJ K a1 c2 aP.S.L) (h6:cJ K a4 c5 aP.S.E) (h9:cJ K a7 c8 aP.M) (h12:cJ K a10 c11 aP.C) (h15:cJ K a13 c14 aR.L) (h18:cJ K a16 c17 aR.E) (hm:mC aP aR=some R):
  Calls Tryz.prog 4 ([zA (zEa aP a1 c2 a4 c5 a7 c8 a10 c11),zA (zCa aR a13 c14 a16 c17)]:List Value).toArray w (gV fun v w'=>v=zB R∧aN G K (L) w'):=by
 refine aW Tryz.func4 rfl (by kernel_rfl) (by show (2:Nat)≤156;decide) ?_
 unfold mC at hm
 refine aH (aC (fC (v:=zA (zEa aP a1 c2 a4 c5 a7 c8 a10 c11)) (vs:=(zE aP a1 c2 a4 c5 a7 c8 a10 c11)) hs rfl rfl (fun b19 w20 c90=>(fC (v:=zA (zCa aR a13 c14 a16 c17)) (vs:=(zC aR a13 c14 a16 c17)) c90 rfl rfl (fun b22 w23 c18=>(aB (aG (v:=zB false) rfl) (aD (aA (aH (aC (aB (aG (v:=i64 1048576) rfl) (aD (aA (aH (aC (aB (dO (us:=(zE aP a1 c2 a4 c5 a7 c8 a10 c11)) ag_45 c18 (i:=1) rfl rfl rfl rfl) (aB (aF (v:=i64 1048576) rfl) ?_)))))))))))))))))
 obtain ⟨r25,q26,hm⟩:=aJ hm
 refine aX (vs:=[zA (zEa aP a1 c2 a4 c5 a7 c8 a10 c11),i64 1048576]) Tryz.call18 rfl (aJK c18 h3 h6 h9 h12 q26) ?_
 rintro _ w27 ⟨rfl,b27⟩
 refine aB (aG (v:=i64 r25) rfl) (aD (aA (aH (aH (aC (aB (aF (v:=i64 r25) rfl) (aB (cK rfl rfl) (aD (aA ?_)))))))))
 rcases aM hm with ⟨c29,hm⟩|⟨c29,hm⟩
 ·refine aQ c29 rfl (aH (aC (aB (aG (v:=zB true) rfl) (aD (aA ?_)))))
  cases zI hm
  exact bC (aS (bA Tryz.results4 rfl ⟨rfl,(aN.arr 2 [] b27 rfl)⟩))
 ·refine aO c29 rfl (aY (aA (aH (aC (aB (dO (us:=(zC aR a13 c14 a16 c17)) aIY b27 (i:=0) rfl rfl rfl rfl) (aB (aF (v:=i64 r25) rfl) ?_))))))
  obtain ⟨r31,q32,hm⟩:=aJ hm
  refine aX (vs:=[zA (zCa aR a13 c14 a16 c17),i64 r25]) Tryz.call5 rfl (aHh b27 h15 h18 q32) ?_
  rintro _ w33 ⟨rfl,c21⟩
  refine aB (aG (v:=i64 r31) rfl) (aD (aA (aH (aH (aC (aB (aF (v:=i64 r31) rfl) (aB (cK rfl rfl) (aD (aA ?_)))))))))
  rcases aM hm with ⟨c35,hm⟩|⟨c35,hm⟩
  ·refine aQ c35 rfl (aH (aC (aB (aG (v:=zB true) rfl) (aD (aA ?_)))))
   cases zI hm
   exact bC (aS (bA Tryz.results4 rfl ⟨rfl,(aN.arr 2 [] c21 rfl)⟩))
  ·refine aO c35 rfl (aY (aA (aH (cU (fun f w=>∃ (d2:Hp) (d8:Int) (d9:Int) (a9:List aZ) (b0:List Edge) (b1:List Int) (b2:List aZ) (e0:List (List Int)) (k3:Int) (g5:Nat) (c1:Option Addr) (c3:Nat) (c4:Option Addr) (c6:Nat) (c7:Option Addr) (c9:Nat) (d0:Option Addr) (d1:Nat) (f0:Option Addr) (f1:Nat),Hp.le K d2∧kB aP aR d8 d9 a9 b0 b1 b2 e0 k3=some R∧f 2=cS (some ⟨b19,0,none⟩) 0∧f 3=cS (some ⟨b22,0,none⟩) 0∧f 6=zP (some ⟨g5,0,none⟩)∧f 7=zS f0 e0.length f1∧f 8=i64 k3∧nY d2 (some ⟨b19,0,none⟩) 0 (zE aP a1 c2 a4 c5 a7 c8 a10 c11)∧nY d2 (some ⟨b22,0,none⟩) 0 (zC aR a13 c14 a16 c17)∧aN G d2 (aK 31 d2 f0 f1 e0::aK 9 K d0 d1 b2::aK 2 K c7 c9 b1::aK 63 K c4 c6 b0::aK 9 K c1 c3 a9::box g5 48 [i64 d8,i64 d9,zS c1 a9.length c3,zS c4 b0.length c6,zS c7 b1.length c9,zS d0 b2.length d1]::L) w) ?_ ?_))))
   ·rintro f w65 ⟨d2,d8,d9,a9,b0,b1,b2,e0,k3,g5,c1,c3,c4,c6,c7,c9,d0,d1,f0,f1,a6,hm,e60,e61,e62,e63,e64,h39,h40,c22⟩
    unfold kB at hm
    refine aA (aH (aC (aB (iU (t:=0) (vs:=(zE aP a1 c2 a4 c5 a7 c8 a10 c11)) ag_45 c22 h39 e60 rfl rfl) ?_)))
    obtain ⟨a2,q68,hm⟩:=aJ hm
    refine aX (vs:=[zA (zEa aP a1 c2 a4 c5 a7 c8 a10 c11)]) Tryz.call20 rfl (oZ c22 (h3.mono a6) (h6.mono a6) (h9.mono a6) (h12.mono a6) q68) ?_
    rintro _ w77 ⟨e2,e3,e4,e5,e6,e7,e8,e9,rfl,c96⟩
    refine cL (vs:=zK) Tryz.zeroValue48 c96 rfl (fun h1 w80 c97=>(cM (i:=0) (ns:=(zE a2 e2 e3 e4 e5 e6 e7 e8 e9)) (us:=(zE a2 e2 e3 e4 e5 e6 e7 e8 e9)) Tryz.sizeOf48 c97 rfl rfl rfl rfl rfl (eD rfl) rfl rfl (fun w82 (c23:aN G d2 (box h1 48 (zE a2 e2 e3 e4 e5 e6 e7 e8 e9)::aK 9 K e2 e3 a2.S.L::aK 63 K e4 e5 a2.S.E::aK 2 K e6 e7 a2.M::aK 9 K e8 e9 a2.C::aK 31 d2 f0 f1 e0::aK 9 K d0 d1 b2::aK 2 K c7 c9 b1::aK 63 K c4 c6 b0::aK 9 K c1 c3 a9::box g5 48 [i64 d8,i64 d9,zS c1 a9.length c3,zS c4 b0.length c6,zS c7 b1.length c9,zS d0 b2.length d1]::L) w82)=>(aD (aA (aH (aC (aB (iU (t:=0) (vs:=(zC aR a13 c14 a16 c17)) aIY c23 h40 e61 rfl rfl) ?_))))))))
    obtain ⟨a5,q85,hm⟩:=aJ hm
    refine aX (vs:=[zA (zCa aR a13 c14 a16 c17)]) Tryz.call8 rfl (lI c23 (h15.mono a6) (h18.mono a6) q85) ?_
    rintro _ w90 ⟨f2,f3,f4,f5,rfl,d00⟩
    refine cL (vs:=zG) Tryz.zeroValue30 d00 rfl (fun h2 w93 d01=>(cM (i:=0) (ns:=(zC a5 f2 f3 f4 f5)) (us:=(zC a5 f2 f3 f4 f5)) Tryz.sizeOf30 d01 rfl rfl rfl rfl rfl (eD rfl) rfl rfl (fun w95 (b32:aN G d2 (box h2 30 (zC a5 f2 f3 f4 f5)::aK 9 K f2 f3 a5.L::aK 63 K f4 f5 a5.E::box h1 48 (zE a2 e2 e3 e4 e5 e6 e7 e8 e9)::aK 9 K e2 e3 a2.S.L::aK 63 K e4 e5 a2.S.E::aK 2 K e6 e7 a2.M::aK 9 K e8 e9 a2.C::aK 31 d2 f0 f1 e0::aK 9 K d0 d1 b2::aK 2 K c7 c9 b1::aK 63 K c4 c6 b0::aK 9 K c1 c3 a9::box g5 48 [i64 d8,i64 d9,zS c1 a9.length c3,zS c4 b0.length c6,zS c7 b1.length c9,zS d0 b2.length d1]::L) w95)=>(aD (aA (aH (aC (aB (dO (us:=(zE a2 e2 e3 e4 e5 e6 e7 e8 e9)) nV b32 (i:=3) rfl rfl rfl rfl) (aB (dO (us:=(zC a5 f2 f3 f4 f5)) kE b32 (i:=0) rfl rfl rfl rfl) ?_)))))))))
    obtain ⟨K97,a25,d03,d04,d05⟩:=aN.lendS (i:=4) b32 a6 rfl
    obtain ⟨i16,a26,d06,d07,d08⟩:=aN.lendS (i:=4) d04 (zL a6 a25) rfl
    obtain ⟨i17,a27,d09,d10,d11⟩:=aN.lendS (i:=4) d07 (zL (zL a6 a25) a26) rfl
    obtain ⟨i18,a28,d12,d13,d14⟩:=aN.lendS (i:=4) d10 (zL (zL (zL a6 a25) a26) a27) rfl
    obtain ⟨i19,a29,d15,d16,d17⟩:=aN.lendS (i:=1) d13 (zL (zL (zL (zL a6 a25) a26) a27) a28) rfl
    obtain ⟨i20,a30,d18,d19,d20⟩:=aN.lendS (i:=1) d16 (zL (zL (zL (zL (zL a6 a25) a26) a27) a28) a29) rfl
    obtain ⟨a0,d21,hm⟩:=aJ hm
    refine aX (vs:=[zA (zEa a2 e2 e3 e4 e5 e6 e7 e8 e9),zA (zCa a5 f2 f3 f4 f5)]) Tryz.call21 rfl (lE d19 hG (d03.mono (zL (zL (zL (zL a26 a27) a28) a29) a30)) (d06.mono (zL (zL (zL a27 a28) a29) a30)) (d09.mono (zL (zL a28 a29) a30)) (d12.mono (zL a29 a30)) (d15.mono a30) d18 d21) ?_
    rintro _ i21 ⟨b3,b4,b5,b6,b7,b8,b9,c0,d6,d7,d4,rfl,b33,d22⟩
    have d23:=d20 _ _ d22
    have d24:=d17 _ _ d23
    have d25:=d14 _ _ d24
    have d26:=d11 _ _ d25
    have d27:=d08 _ _ d26
    have d28:=d05 _ _ d27
    refine aB (aF (v:=zT #[zA (zEa a0.1 b3 b4 b5 b6 b7 b8 b9 c0),zS d6 a0.2.1.length d7,i64 a0.2.2]) rfl) (aB (bX rfl rfl) (aB (bX rfl rfl) (aB (bX rfl rfl) (cL (vs:=zK) Tryz.zeroValue48 d28 rfl (fun g6 i22 d29=>(cM (i:=0) (ns:=(zE a0.1 b3 b4 b5 b6 b7 b8 b9 c0)) (us:=(zE a0.1 b3 b4 b5 b6 b7 b8 b9 c0)) Tryz.sizeOf48 d29 rfl rfl rfl rfl rfl (eD rfl) rfl rfl (fun d30 (b34:aN G d2 (box g6 48 (zE a0.1 b3 b4 b5 b6 b7 b8 b9 c0)::aK 9 K e2 e3 a2.S.L::aK 63 K e4 e5 a2.S.E::aK 2 K e6 e7 a2.M::aK 9 K e8 e9 a2.C::aK 9 K f2 f3 a5.L::aK 63 K f4 f5 a5.E::aK 9 K b3 b4 a0.1.S.L::aK 63 K b5 b6 a0.1.S.E::aK 2 K b7 b8 a0.1.M::aK 9 K b9 c0 a0.1.C::aK 31 K d6 d7 (bZ d4 a0.2.1)::rows [2] d4 a0.2.1::box h2 30 (zC a5 f2 f3 f4 f5)::box h1 48 (zE a2 e2 e3 e4 e5 e6 e7 e8 e9)::aK 31 d2 f0 f1 e0::aK 9 K d0 d1 b2::aK 2 K c7 c9 b1::aK 63 K c4 c6 b0::aK 9 K c1 c3 a9::box g5 48 [i64 d8,i64 d9,zS c1 a9.length c3,zS c4 b0.length c6,zS c7 b1.length c9,zS d0 b2.length d1]::L) d30)=>(aB (aG (v:=zS d6 a0.2.1.length d7) rfl) (aB (aG (v:=i64 a0.2.2) rfl) (aD (aA (aH (aH (cU (fun f w=>∃ (b35:Bool),gF aP aR d8 d9 a9 b0 b1 b2 e0 k3 a2 a5 a0 b35=some R∧f 2=cS (some ⟨b19,0,none⟩) 0∧f 3=cS (some ⟨b22,0,none⟩) 0∧f 6=zP (some ⟨g5,0,none⟩)∧f 7=zS f0 e0.length f1∧f 8=i64 k3∧f 9=zP (some ⟨h1,0,none⟩)∧f 10=zP (some ⟨h2,0,none⟩)∧f 11=zP (some ⟨g6,0,none⟩)∧f 12=zS d6 a0.2.1.length d7∧f 13=i64 a0.2.2∧f 64=zB b35∧aN G d2 (box g6 48 (zE a0.1 b3 b4 b5 b6 b7 b8 b9 c0)::aK 9 K e2 e3 a2.S.L::aK 63 K e4 e5 a2.S.E::aK 2 K e6 e7 a2.M::aK 9 K e8 e9 a2.C::aK 9 K f2 f3 a5.L::aK 63 K f4 f5 a5.E::aK 9 K b3 b4 a0.1.S.L::aK 63 K b5 b6 a0.1.S.E::aK 2 K b7 b8 a0.1.M::aK 9 K b9 c0 a0.1.C::aK 31 K d6 d7 (bZ d4 a0.2.1)::rows [2] d4 a0.2.1::box h2 30 (zC a5 f2 f3 f4 f5)::box h1 48 (zE a2 e2 e3 e4 e5 e6 e7 e8 e9)::aK 31 d2 f0 f1 e0::aK 9 K d0 d1 b2::aK 2 K c7 c9 b1::aK 63 K c4 c6 b0::aK 9 K c1 c3 a9::box g5 48 [i64 d8,i64 d9,zS c1 a9.length c3,zS c4 b0.length c6,zS c7 b1.length c9,zS d0 b2.length d1]::L) w) ?_ ?_))))))))))))))
    ·rintro f i23 ⟨b35,hm,a31,a32,a33,a34,a35,c24,c25,a36,a37,d31,c26,c27⟩
     unfold gF at hm
     refine aA ?_
     rcases aM hm with ⟨b36,hm⟩|⟨b36,hm⟩
     ·refine aQ b36 c26 (aH (aC (aB (aG (v:=zB false) rfl) (aD (aA ?_)))))
      cases zI hm
      exact bC (aS (bA Tryz.results4 rfl ⟨rfl,(aN.weakK (aN.arr 21 [] c27 rfl) a6)⟩))
     ·refine aO b36 c26 (aY (aA (aH (aH ?_))))
      obtain ⟨d33,l7,d34,c28,d35⟩:=aN.lendB (i:=14) c27 rfl
      refine hJ (C:=fun w'=>∃ L',aN G d33 L' w') [(0,0),(1,0),(2,1),(3,1),(4,0)] bQ (by kernel_rfl) (fun _ hg=>⟨_,aN.mono c28 hg⟩) (fun i24 d36=>?_)
      have a38:=aN.mono c28 d36
      refine cD rfl (fun _ ⟨_,a38⟩=>iU (t:=0) (vs:=(zE a2 e2 e3 e4 e5 e6 e7 e8 e9)) nV a38 d34 c24 rfl rfl) (cD rfl (fun _ ⟨_,a38⟩=>iU (t:=0) (vs:=(zE aP a1 c2 a4 c5 a7 c8 a10 c11)) ag_45 a38 (h39.mono l7) a31 rfl rfl) (nZ rfl ?_))
      obtain ⟨d3,d37,hm⟩:=aJ hm
      refine aX (vs:=[zA (zEa aP a1 c2 a4 c5 a7 c8 a10 c11)]) Tryz.call20 rfl (oZ a38 (h3.mono (zL a6 l7)) (h6.mono (zL a6 l7)) (h9.mono (zL a6 l7)) (h12.mono (zL a6 l7)) d37) ?_
      rintro _ i25 ⟨k4,k5,k6,k7,k8,k9,l0,l1,rfl,hs190⟩
      refine aD (aA ⟨⟨_,hs190⟩,?_⟩)
      refine nZ rfl ?_
      obtain ⟨i26,o7,d38,d39,d40⟩:=aN.lendS (i:=5) hs190 (zL a6 l7) rfl
      obtain ⟨i27,o8,d41,d42,d43⟩:=aN.lendS (i:=5) d39 (zL (zL a6 l7) o7) rfl
      obtain ⟨i28,o9,d44,d45,d46⟩:=aN.lendS (i:=5) d42 (zL (zL (zL a6 l7) o7) o8) rfl
      obtain ⟨i29,p0,d47,d48,d49⟩:=aN.lendS (i:=5) d45 (zL (zL (zL (zL a6 l7) o7) o8) o9) rfl
      obtain ⟨i30,p1,d50,d51,d52⟩:=aN.lendS (i:=0) d48 (zL (zL (zL (zL (zL a6 l7) o7) o8) o9) p0) rfl
      obtain ⟨i31,p2,d53,d54,d55⟩:=aN.lendS (i:=0) d51 (zL (zL (zL (zL (zL (zL a6 l7) o7) o8) o9) p0) p1) rfl
      obtain ⟨i32,p3,d56,d57,d58⟩:=aN.lendS (i:=0) d54 (zL (zL (zL (zL (zL (zL (zL a6 l7) o7) o8) o9) p0) p1) p2) rfl
      obtain ⟨i33,p4,d59,d60,d61⟩:=aN.lendS (i:=0) d57 (zL (zL (zL (zL (zL (zL (zL (zL a6 l7) o7) o8) o9) p0) p1) p2) p3) rfl
      obtain ⟨i34,d62,hm⟩:=aJ hm
      refine aX (vs:=[zA (zEa a2 e2 e3 e4 e5 e6 e7 e8 e9),zA (zEa d3 k4 k5 k6 k7 k8 k9 l0 l1)]) Tryz.call22 rfl (yI d60 (d38.mono (zL (zL (zL (zL (zL (zL o8 o9) p0) p1) p2) p3) p4)) (d41.mono (zL (zL (zL (zL (zL o9 p0) p1) p2) p3) p4)) (d44.mono (zL (zL (zL (zL p0 p1) p2) p3) p4)) (d47.mono (zL (zL (zL p1 p2) p3) p4)) (d50.mono (zL (zL p2 p3) p4)) (d53.mono (zL p3 p4)) (d56.mono p4) d59 d62) ?_
      rintro _ i35 ⟨rfl,d63⟩
      have d64:=d61 _ _ d63
      have d65:=d58 _ _ d64
      have d66:=d55 _ _ d65
      have d67:=d52 _ _ d66
      have d68:=d49 _ _ d67
      have d69:=d46 _ _ d68
      have d70:=d43 _ _ d69
      have c30:=d40 _ _ d70
      refine aD (aA ⟨⟨_,c30⟩,?_⟩)
      refine cD rfl (fun _ _=>eP rfl) (qQ ?_)
      have c31:=d35 _ _ c30
      refine aA ?_
      rcases aM hm with ⟨b37,hm⟩|⟨b37,hm⟩
      ·refine aQ b37 rfl (aH (aC (aB (aG (v:=zB false) rfl) (aD (aA ?_)))))
       cases zI hm
       exact bC (aS (bA Tryz.results4 rfl ⟨rfl,(aN.weakK (aN.arr 25 [] c31 rfl) a6)⟩))
      ·refine aO b37 rfl (aY (aA (aH (aH ?_))))
       obtain ⟨d72,p5,d73,c32,d74⟩:=aN.lendB (i:=18) c31 rfl
       refine hJ (C:=fun w'=>∃ L',aN G d72 L' w') [(0,0),(1,0),(2,1),(3,1),(4,0)] bQ (by kernel_rfl) (fun _ hg=>⟨_,aN.mono c32 hg⟩) (fun i36 d75=>?_)
       have a39:=aN.mono c32 d75
       refine cD rfl (fun _ ⟨_,a39⟩=>iU (t:=0) (vs:=(zC a5 f2 f3 f4 f5)) kE a39 d73 c25 rfl rfl) (cD rfl (fun _ ⟨_,a39⟩=>iU (t:=0) (vs:=(zC aR a13 c14 a16 c17)) aIY a39 (h40.mono p5) a32 rfl rfl) (nZ rfl ?_))
       obtain ⟨g8,d76,hm⟩:=aJ hm
       refine aX (vs:=[zA (zCa aR a13 c14 a16 c17)]) Tryz.call8 rfl (lI a39 (h15.mono (zL a6 p5)) (h18.mono (zL a6 p5)) d76) ?_
       rintro _ i37 ⟨l2,l3,l4,l5,rfl,c33⟩
       refine aD (aA ⟨⟨_,c33⟩,?_⟩)
       refine nZ rfl ?_
       obtain ⟨i38,b38,d77,d78,d79⟩:=aN.lendS (i:=12) c33 (zL a6 p5) rfl
       obtain ⟨i39,b39,d80,d81,d82⟩:=aN.lendS (i:=12) d78 (zL (zL a6 p5) b38) rfl
       obtain ⟨i40,b40,d83,d84,d85⟩:=aN.lendS (i:=0) d81 (zL (zL (zL a6 p5) b38) b39) rfl
       obtain ⟨i41,b41,d86,d87,d88⟩:=aN.lendS (i:=0) d84 (zL (zL (zL (zL a6 p5) b38) b39) b40) rfl
       obtain ⟨i42,d89,hm⟩:=aJ hm
       refine aX (vs:=[zA (zCa a5 f2 f3 f4 f5),zA (zCa g8 l2 l3 l4 l5)]) Tryz.call12 rfl (aHj d87 (d77.mono (zL (zL b39 b40) b41)) (d80.mono (zL b40 b41)) (d83.mono b41) d86 d89) ?_
       rintro _ d90 ⟨rfl,d91⟩
       have d92:=d88 _ _ d91
       have d93:=d85 _ _ d92
       have d94:=d82 _ _ d93
       have c34:=d79 _ _ d94
       refine aD (aA ⟨⟨_,c34⟩,?_⟩)
       refine cD rfl (fun _ _=>eP rfl) (qQ ?_)
       have b42:=d74 _ _ c34
       refine aA ?_
       rcases aM hm with ⟨b43,hm⟩|⟨b43,hm⟩
       ·refine aQ b43 rfl (aH (aC (aB (aG (v:=zB false) rfl) (aD (aA ?_)))))
        cases zI hm
        exact bC (aS (bA Tryz.results4 rfl ⟨rfl,(aN.weakK (aN.arr 27 [] b42 rfl) a6)⟩))
       ·refine aO b43 rfl (aY (aA (aH (aC (aB (aG (v:=i64 1) rfl) (aD (aA (aH (aC (aB (dO (us:=(zE a2 e2 e3 e4 e5 e6 e7 e8 e9)) nV b42 (i:=5) rfl c24 rfl rfl) (aB (aF (v:=i64 1) rfl) ?_)))))))))))
        have d96:aN G d2 (aK 9 K e2 e3 a2.S.L::aK 63 K e4 e5 a2.S.E::aK 2 K e6 e7 a2.M::aK 9 K e8 e9 a2.C::box h2 30 (zC a5 f2 f3 f4 f5)::aK 9 K f2 f3 a5.L::aK 63 K f4 f5 a5.E::aK 9 K l2 l3 g8.L::aK 63 K l4 l5 g8.E::box h1 48 (zE a2 e2 e3 e4 e5 e6 e7 e8 e9)::aK 9 K k4 k5 d3.S.L::aK 63 K k6 k7 d3.S.E::aK 2 K k8 k9 d3.M::aK 9 K l0 l1 d3.C::box g6 48 (zE a0.1 b3 b4 b5 b6 b7 b8 b9 c0)::aK 9 K b3 b4 a0.1.S.L::aK 63 K b5 b6 a0.1.S.E::aK 2 K b7 b8 a0.1.M::aK 9 K b9 c0 a0.1.C::aK 31 K d6 d7 (bZ d4 a0.2.1)::rows [2] d4 a0.2.1::aK 31 d2 f0 f1 e0::aK 9 K d0 d1 b2::aK 2 K c7 c9 b1::aK 63 K c4 c6 b0::aK 9 K c1 c3 a9::box g5 48 [i64 d8,i64 d9,zS c1 a9.length c3,zS c4 b0.length c6,zS c7 b1.length c9,zS d0 b2.length d1]::L) d90:=(aN.arr 10 [6,7,8,9,0,1,2,3,4,5] b42 rfl)
        obtain ⟨a8,d97,hm⟩:=aJ hm
        refine aX (vs:=[zA (zEa a2 e2 e3 e4 e5 e6 e7 e8 e9),i64 1]) Tryz.call24 rfl (aDs d96 d97) ?_
        rintro _ n5 ⟨rfl,d98,d99,e00,e01,e02⟩
        have e03:aN G d2 (aK 9 K e2 e3 a8.2.1::aK 63 K e4 e5 a8.2.2.1::aK 2 K e6 e7 a8.2.2.2.1::aK 9 K e8 e9 a8.2.2.2.2::box h2 30 (zC a5 f2 f3 f4 f5)::aK 9 K f2 f3 a5.L::aK 63 K f4 f5 a5.E::aK 9 K l2 l3 g8.L::aK 63 K l4 l5 g8.E::box h1 48 [i64 a2.S.N,i64 a2.S.I,zS e2 a8.2.1.length e3,zS e4 a2.S.E.length e5,zS e6 a2.M.length e7,zS e8 a2.C.length e9]::aK 9 K k4 k5 d3.S.L::aK 63 K k6 k7 d3.S.E::aK 2 K k8 k9 d3.M::aK 9 K l0 l1 d3.C::box g6 48 (zE a0.1 b3 b4 b5 b6 b7 b8 b9 c0)::aK 9 K b3 b4 a0.1.S.L::aK 63 K b5 b6 a0.1.S.E::aK 2 K b7 b8 a0.1.M::aK 9 K b9 c0 a0.1.C::aK 31 K d6 d7 (bZ d4 a0.2.1)::rows [2] d4 a0.2.1::aK 31 d2 f0 f1 e0::aK 9 K d0 d1 b2::aK 2 K c7 c9 b1::aK 63 K c4 c6 b0::aK 9 K c1 c3 a9::box g5 48 [i64 d8,i64 d9,zS c1 a9.length c3,zS c4 b0.length c6,zS c7 b1.length c9,zS d0 b2.length d1]::L) n5:=Eq.mp (congrArg (fun n=>aN G d2 (aK 9 K e2 e3 a8.2.1::aK 63 K e4 e5 a8.2.2.1::aK 2 K e6 e7 a8.2.2.2.1::aK 9 K e8 e9 a8.2.2.2.2::box h2 30 (zC a5 f2 f3 f4 f5)::aK 9 K f2 f3 a5.L::aK 63 K f4 f5 a5.E::aK 9 K l2 l3 g8.L::aK 63 K l4 l5 g8.E::box h1 48 [i64 a2.S.N,i64 a2.S.I,zS e2 n e3,zS e4 a2.S.E.length e5,zS e6 a2.M.length e7,zS e8 a2.C.length e9]::aK 9 K k4 k5 d3.S.L::aK 63 K k6 k7 d3.S.E::aK 2 K k8 k9 d3.M::aK 9 K l0 l1 d3.C::box g6 48 (zE a0.1 b3 b4 b5 b6 b7 b8 b9 c0)::aK 9 K b3 b4 a0.1.S.L::aK 63 K b5 b6 a0.1.S.E::aK 2 K b7 b8 a0.1.M::aK 9 K b9 c0 a0.1.C::aK 31 K d6 d7 (bZ d4 a0.2.1)::rows [2] d4 a0.2.1::aK 31 d2 f0 f1 e0::aK 9 K d0 d1 b2::aK 2 K c7 c9 b1::aK 63 K c4 c6 b0::aK 9 K c1 c3 a9::box g5 48 [i64 d8,i64 d9,zS c1 a9.length c3,zS c4 b0.length c6,zS c7 b1.length c9,zS d0 b2.length d1]::L) n5) d98) e02
        have e04:aN G d2 (aK 9 K e2 e3 a8.2.1::aK 63 K e4 e5 a8.2.2.1::aK 2 K e6 e7 a8.2.2.2.1::aK 9 K e8 e9 a8.2.2.2.2::box h2 30 (zC a5 f2 f3 f4 f5)::aK 9 K f2 f3 a5.L::aK 63 K f4 f5 a5.E::aK 9 K l2 l3 g8.L::aK 63 K l4 l5 g8.E::box h1 48 [i64 a2.S.N,i64 a2.S.I,zS e2 a8.2.1.length e3,zS e4 a8.2.2.1.length e5,zS e6 a2.M.length e7,zS e8 a2.C.length e9]::aK 9 K k4 k5 d3.S.L::aK 63 K k6 k7 d3.S.E::aK 2 K k8 k9 d3.M::aK 9 K l0 l1 d3.C::box g6 48 (zE a0.1 b3 b4 b5 b6 b7 b8 b9 c0)::aK 9 K b3 b4 a0.1.S.L::aK 63 K b5 b6 a0.1.S.E::aK 2 K b7 b8 a0.1.M::aK 9 K b9 c0 a0.1.C::aK 31 K d6 d7 (bZ d4 a0.2.1)::rows [2] d4 a0.2.1::aK 31 d2 f0 f1 e0::aK 9 K d0 d1 b2::aK 2 K c7 c9 b1::aK 63 K c4 c6 b0::aK 9 K c1 c3 a9::box g5 48 [i64 d8,i64 d9,zS c1 a9.length c3,zS c4 b0.length c6,zS c7 b1.length c9,zS d0 b2.length d1]::L) n5:=Eq.mp (congrArg (fun n=>aN G d2 (aK 9 K e2 e3 a8.2.1::aK 63 K e4 e5 a8.2.2.1::aK 2 K e6 e7 a8.2.2.2.1::aK 9 K e8 e9 a8.2.2.2.2::box h2 30 (zC a5 f2 f3 f4 f5)::aK 9 K f2 f3 a5.L::aK 63 K f4 f5 a5.E::aK 9 K l2 l3 g8.L::aK 63 K l4 l5 g8.E::box h1 48 [i64 a2.S.N,i64 a2.S.I,zS e2 a8.2.1.length e3,zS e4 n e5,zS e6 a2.M.length e7,zS e8 a2.C.length e9]::aK 9 K k4 k5 d3.S.L::aK 63 K k6 k7 d3.S.E::aK 2 K k8 k9 d3.M::aK 9 K l0 l1 d3.C::box g6 48 (zE a0.1 b3 b4 b5 b6 b7 b8 b9 c0)::aK 9 K b3 b4 a0.1.S.L::aK 63 K b5 b6 a0.1.S.E::aK 2 K b7 b8 a0.1.M::aK 9 K b9 c0 a0.1.C::aK 31 K d6 d7 (bZ d4 a0.2.1)::rows [2] d4 a0.2.1::aK 31 d2 f0 f1 e0::aK 9 K d0 d1 b2::aK 2 K c7 c9 b1::aK 63 K c4 c6 b0::aK 9 K c1 c3 a9::box g5 48 [i64 d8,i64 d9,zS c1 a9.length c3,zS c4 b0.length c6,zS c7 b1.length c9,zS d0 b2.length d1]::L) n5) d99) e03
        have e05:aN G d2 (aK 9 K e2 e3 a8.2.1::aK 63 K e4 e5 a8.2.2.1::aK 2 K e6 e7 a8.2.2.2.1::aK 9 K e8 e9 a8.2.2.2.2::box h2 30 (zC a5 f2 f3 f4 f5)::aK 9 K f2 f3 a5.L::aK 63 K f4 f5 a5.E::aK 9 K l2 l3 g8.L::aK 63 K l4 l5 g8.E::box h1 48 [i64 a2.S.N,i64 a2.S.I,zS e2 a8.2.1.length e3,zS e4 a8.2.2.1.length e5,zS e6 a8.2.2.2.1.length e7,zS e8 a2.C.length e9]::aK 9 K k4 k5 d3.S.L::aK 63 K k6 k7 d3.S.E::aK 2 K k8 k9 d3.M::aK 9 K l0 l1 d3.C::box g6 48 (zE a0.1 b3 b4 b5 b6 b7 b8 b9 c0)::aK 9 K b3 b4 a0.1.S.L::aK 63 K b5 b6 a0.1.S.E::aK 2 K b7 b8 a0.1.M::aK 9 K b9 c0 a0.1.C::aK 31 K d6 d7 (bZ d4 a0.2.1)::rows [2] d4 a0.2.1::aK 31 d2 f0 f1 e0::aK 9 K d0 d1 b2::aK 2 K c7 c9 b1::aK 63 K c4 c6 b0::aK 9 K c1 c3 a9::box g5 48 [i64 d8,i64 d9,zS c1 a9.length c3,zS c4 b0.length c6,zS c7 b1.length c9,zS d0 b2.length d1]::L) n5:=Eq.mp (congrArg (fun n=>aN G d2 (aK 9 K e2 e3 a8.2.1::aK 63 K e4 e5 a8.2.2.1::aK 2 K e6 e7 a8.2.2.2.1::aK 9 K e8 e9 a8.2.2.2.2::box h2 30 (zC a5 f2 f3 f4 f5)::aK 9 K f2 f3 a5.L::aK 63 K f4 f5 a5.E::aK 9 K l2 l3 g8.L::aK 63 K l4 l5 g8.E::box h1 48 [i64 a2.S.N,i64 a2.S.I,zS e2 a8.2.1.length e3,zS e4 a8.2.2.1.length e5,zS e6 n e7,zS e8 a2.C.length e9]::aK 9 K k4 k5 d3.S.L::aK 63 K k6 k7 d3.S.E::aK 2 K k8 k9 d3.M::aK 9 K l0 l1 d3.C::box g6 48 (zE a0.1 b3 b4 b5 b6 b7 b8 b9 c0)::aK 9 K b3 b4 a0.1.S.L::aK 63 K b5 b6 a0.1.S.E::aK 2 K b7 b8 a0.1.M::aK 9 K b9 c0 a0.1.C::aK 31 K d6 d7 (bZ d4 a0.2.1)::rows [2] d4 a0.2.1::aK 31 d2 f0 f1 e0::aK 9 K d0 d1 b2::aK 2 K c7 c9 b1::aK 63 K c4 c6 b0::aK 9 K c1 c3 a9::box g5 48 [i64 d8,i64 d9,zS c1 a9.length c3,zS c4 b0.length c6,zS c7 b1.length c9,zS d0 b2.length d1]::L) n5) e00) e04
        have hs306:aN G d2 (aK 9 K e2 e3 a8.2.1::aK 63 K e4 e5 a8.2.2.1::aK 2 K e6 e7 a8.2.2.2.1::aK 9 K e8 e9 a8.2.2.2.2::box h2 30 (zC a5 f2 f3 f4 f5)::aK 9 K f2 f3 a5.L::aK 63 K f4 f5 a5.E::aK 9 K l2 l3 g8.L::aK 63 K l4 l5 g8.E::box h1 48 [i64 a2.S.N,i64 a2.S.I,zS e2 a8.2.1.length e3,zS e4 a8.2.2.1.length e5,zS e6 a8.2.2.2.1.length e7,zS e8 a8.2.2.2.2.length e9]::aK 9 K k4 k5 d3.S.L::aK 63 K k6 k7 d3.S.E::aK 2 K k8 k9 d3.M::aK 9 K l0 l1 d3.C::box g6 48 (zE a0.1 b3 b4 b5 b6 b7 b8 b9 c0)::aK 9 K b3 b4 a0.1.S.L::aK 63 K b5 b6 a0.1.S.E::aK 2 K b7 b8 a0.1.M::aK 9 K b9 c0 a0.1.C::aK 31 K d6 d7 (bZ d4 a0.2.1)::rows [2] d4 a0.2.1::aK 31 d2 f0 f1 e0::aK 9 K d0 d1 b2::aK 2 K c7 c9 b1::aK 63 K c4 c6 b0::aK 9 K c1 c3 a9::box g5 48 [i64 d8,i64 d9,zS c1 a9.length c3,zS c4 b0.length c6,zS c7 b1.length c9,zS d0 b2.length d1]::L) n5:=Eq.mp (congrArg (fun n=>aN G d2 (aK 9 K e2 e3 a8.2.1::aK 63 K e4 e5 a8.2.2.1::aK 2 K e6 e7 a8.2.2.2.1::aK 9 K e8 e9 a8.2.2.2.2::box h2 30 (zC a5 f2 f3 f4 f5)::aK 9 K f2 f3 a5.L::aK 63 K f4 f5 a5.E::aK 9 K l2 l3 g8.L::aK 63 K l4 l5 g8.E::box h1 48 [i64 a2.S.N,i64 a2.S.I,zS e2 a8.2.1.length e3,zS e4 a8.2.2.1.length e5,zS e6 a8.2.2.2.1.length e7,zS e8 n e9]::aK 9 K k4 k5 d3.S.L::aK 63 K k6 k7 d3.S.E::aK 2 K k8 k9 d3.M::aK 9 K l0 l1 d3.C::box g6 48 (zE a0.1 b3 b4 b5 b6 b7 b8 b9 c0)::aK 9 K b3 b4 a0.1.S.L::aK 63 K b5 b6 a0.1.S.E::aK 2 K b7 b8 a0.1.M::aK 9 K b9 c0 a0.1.C::aK 31 K d6 d7 (bZ d4 a0.2.1)::rows [2] d4 a0.2.1::aK 31 d2 f0 f1 e0::aK 9 K d0 d1 b2::aK 2 K c7 c9 b1::aK 63 K c4 c6 b0::aK 9 K c1 c3 a9::box g5 48 [i64 d8,i64 d9,zS c1 a9.length c3,zS c4 b0.length c6,zS c7 b1.length c9,zS d0 b2.length d1]::L) n5) e01) e05
        refine aB (aG (v:=i64 a8.1) rfl) (aD (aA (aH (aC (aB (dO (us:=(zC a5 f2 f3 f4 f5)) kE hs306 (i:=4) rfl c25 rfl rfl) (aB (aF (v:=i64 a8.1) rfl) ?_))))))
        have e06:aN G d2 (aK 9 K f2 f3 a5.L::aK 63 K f4 f5 a5.E::aK 9 K e2 e3 a8.2.1::aK 63 K e4 e5 a8.2.2.1::aK 2 K e6 e7 a8.2.2.2.1::aK 9 K e8 e9 a8.2.2.2.2::box h2 30 (zC a5 f2 f3 f4 f5)::aK 9 K l2 l3 g8.L::aK 63 K l4 l5 g8.E::box h1 48 [i64 a2.S.N,i64 a2.S.I,zS e2 a8.2.1.length e3,zS e4 a8.2.2.1.length e5,zS e6 a8.2.2.2.1.length e7,zS e8 a8.2.2.2.2.length e9]::aK 9 K k4 k5 d3.S.L::aK 63 K k6 k7 d3.S.E::aK 2 K k8 k9 d3.M::aK 9 K l0 l1 d3.C::box g6 48 (zE a0.1 b3 b4 b5 b6 b7 b8 b9 c0)::aK 9 K b3 b4 a0.1.S.L::aK 63 K b5 b6 a0.1.S.E::aK 2 K b7 b8 a0.1.M::aK 9 K b9 c0 a0.1.C::aK 31 K d6 d7 (bZ d4 a0.2.1)::rows [2] d4 a0.2.1::aK 31 d2 f0 f1 e0::aK 9 K d0 d1 b2::aK 2 K c7 c9 b1::aK 63 K c4 c6 b0::aK 9 K c1 c3 a9::box g5 48 [i64 d8,i64 d9,zS c1 a9.length c3,zS c4 b0.length c6,zS c7 b1.length c9,zS d0 b2.length d1]::L) n5:=(aN.arr 7 [5,6,0,1,2,3,4] hs306 rfl)
        obtain ⟨l6,e07,hm⟩:=aJ hm
        refine aX (vs:=[zA (zCa a5 f2 f3 f4 f5),i64 a8.1]) Tryz.call14 rfl (aFl e06 e07) ?_
        rintro _ a87 ⟨rfl,e08,e09,e10⟩
        have e11:aN G d2 (aK 9 K f2 f3 l6.2.1::aK 63 K f4 f5 l6.2.2::aK 9 K e2 e3 a8.2.1::aK 63 K e4 e5 a8.2.2.1::aK 2 K e6 e7 a8.2.2.2.1::aK 9 K e8 e9 a8.2.2.2.2::box h2 30 [i64 a5.N,i64 a5.I,zS f2 l6.2.1.length f3,zS f4 a5.E.length f5]::aK 9 K l2 l3 g8.L::aK 63 K l4 l5 g8.E::box h1 48 [i64 a2.S.N,i64 a2.S.I,zS e2 a8.2.1.length e3,zS e4 a8.2.2.1.length e5,zS e6 a8.2.2.2.1.length e7,zS e8 a8.2.2.2.2.length e9]::aK 9 K k4 k5 d3.S.L::aK 63 K k6 k7 d3.S.E::aK 2 K k8 k9 d3.M::aK 9 K l0 l1 d3.C::box g6 48 (zE a0.1 b3 b4 b5 b6 b7 b8 b9 c0)::aK 9 K b3 b4 a0.1.S.L::aK 63 K b5 b6 a0.1.S.E::aK 2 K b7 b8 a0.1.M::aK 9 K b9 c0 a0.1.C::aK 31 K d6 d7 (bZ d4 a0.2.1)::rows [2] d4 a0.2.1::aK 31 d2 f0 f1 e0::aK 9 K d0 d1 b2::aK 2 K c7 c9 b1::aK 63 K c4 c6 b0::aK 9 K c1 c3 a9::box g5 48 [i64 d8,i64 d9,zS c1 a9.length c3,zS c4 b0.length c6,zS c7 b1.length c9,zS d0 b2.length d1]::L) a87:=Eq.mp (congrArg (fun n=>aN G d2 (aK 9 K f2 f3 l6.2.1::aK 63 K f4 f5 l6.2.2::aK 9 K e2 e3 a8.2.1::aK 63 K e4 e5 a8.2.2.1::aK 2 K e6 e7 a8.2.2.2.1::aK 9 K e8 e9 a8.2.2.2.2::box h2 30 [i64 a5.N,i64 a5.I,zS f2 n f3,zS f4 a5.E.length f5]::aK 9 K l2 l3 g8.L::aK 63 K l4 l5 g8.E::box h1 48 [i64 a2.S.N,i64 a2.S.I,zS e2 a8.2.1.length e3,zS e4 a8.2.2.1.length e5,zS e6 a8.2.2.2.1.length e7,zS e8 a8.2.2.2.2.length e9]::aK 9 K k4 k5 d3.S.L::aK 63 K k6 k7 d3.S.E::aK 2 K k8 k9 d3.M::aK 9 K l0 l1 d3.C::box g6 48 (zE a0.1 b3 b4 b5 b6 b7 b8 b9 c0)::aK 9 K b3 b4 a0.1.S.L::aK 63 K b5 b6 a0.1.S.E::aK 2 K b7 b8 a0.1.M::aK 9 K b9 c0 a0.1.C::aK 31 K d6 d7 (bZ d4 a0.2.1)::rows [2] d4 a0.2.1::aK 31 d2 f0 f1 e0::aK 9 K d0 d1 b2::aK 2 K c7 c9 b1::aK 63 K c4 c6 b0::aK 9 K c1 c3 a9::box g5 48 [i64 d8,i64 d9,zS c1 a9.length c3,zS c4 b0.length c6,zS c7 b1.length c9,zS d0 b2.length d1]::L) a87) e08) e10
        have a88:aN G d2 (aK 9 K f2 f3 l6.2.1::aK 63 K f4 f5 l6.2.2::aK 9 K e2 e3 a8.2.1::aK 63 K e4 e5 a8.2.2.1::aK 2 K e6 e7 a8.2.2.2.1::aK 9 K e8 e9 a8.2.2.2.2::box h2 30 [i64 a5.N,i64 a5.I,zS f2 l6.2.1.length f3,zS f4 l6.2.2.length f5]::aK 9 K l2 l3 g8.L::aK 63 K l4 l5 g8.E::box h1 48 [i64 a2.S.N,i64 a2.S.I,zS e2 a8.2.1.length e3,zS e4 a8.2.2.1.length e5,zS e6 a8.2.2.2.1.length e7,zS e8 a8.2.2.2.2.length e9]::aK 9 K k4 k5 d3.S.L::aK 63 K k6 k7 d3.S.E::aK 2 K k8 k9 d3.M::aK 9 K l0 l1 d3.C::box g6 48 (zE a0.1 b3 b4 b5 b6 b7 b8 b9 c0)::aK 9 K b3 b4 a0.1.S.L::aK 63 K b5 b6 a0.1.S.E::aK 2 K b7 b8 a0.1.M::aK 9 K b9 c0 a0.1.C::aK 31 K d6 d7 (bZ d4 a0.2.1)::rows [2] d4 a0.2.1::aK 31 d2 f0 f1 e0::aK 9 K d0 d1 b2::aK 2 K c7 c9 b1::aK 63 K c4 c6 b0::aK 9 K c1 c3 a9::box g5 48 [i64 d8,i64 d9,zS c1 a9.length c3,zS c4 b0.length c6,zS c7 b1.length c9,zS d0 b2.length d1]::L) a87:=Eq.mp (congrArg (fun n=>aN G d2 (aK 9 K f2 f3 l6.2.1::aK 63 K f4 f5 l6.2.2::aK 9 K e2 e3 a8.2.1::aK 63 K e4 e5 a8.2.2.1::aK 2 K e6 e7 a8.2.2.2.1::aK 9 K e8 e9 a8.2.2.2.2::box h2 30 [i64 a5.N,i64 a5.I,zS f2 l6.2.1.length f3,zS f4 n f5]::aK 9 K l2 l3 g8.L::aK 63 K l4 l5 g8.E::box h1 48 [i64 a2.S.N,i64 a2.S.I,zS e2 a8.2.1.length e3,zS e4 a8.2.2.1.length e5,zS e6 a8.2.2.2.1.length e7,zS e8 a8.2.2.2.2.length e9]::aK 9 K k4 k5 d3.S.L::aK 63 K k6 k7 d3.S.E::aK 2 K k8 k9 d3.M::aK 9 K l0 l1 d3.C::box g6 48 (zE a0.1 b3 b4 b5 b6 b7 b8 b9 c0)::aK 9 K b3 b4 a0.1.S.L::aK 63 K b5 b6 a0.1.S.E::aK 2 K b7 b8 a0.1.M::aK 9 K b9 c0 a0.1.C::aK 31 K d6 d7 (bZ d4 a0.2.1)::rows [2] d4 a0.2.1::aK 31 d2 f0 f1 e0::aK 9 K d0 d1 b2::aK 2 K c7 c9 b1::aK 63 K c4 c6 b0::aK 9 K c1 c3 a9::box g5 48 [i64 d8,i64 d9,zS c1 a9.length c3,zS c4 b0.length c6,zS c7 b1.length c9,zS d0 b2.length d1]::L) a87) e09) e11
        refine aB (aG (v:=i64 l6.1) rfl) (aD (aA (aH (aH (cU (fun f w=>∃ (b44:Bool),fD aP aR d8 d9 a9 b0 b1 b2 e0 k3 a0 b44=some R∧f 2=cS (some ⟨b19,0,none⟩) 0∧f 3=cS (some ⟨b22,0,none⟩) 0∧f 6=zP (some ⟨g5,0,none⟩)∧f 7=zS f0 e0.length f1∧f 8=i64 k3∧f 11=zP (some ⟨g6,0,none⟩)∧f 12=zS d6 a0.2.1.length d7∧f 99=zB b44∧aN G d2 (box g6 48 (zE a0.1 b3 b4 b5 b6 b7 b8 b9 c0)::aK 9 K b3 b4 a0.1.S.L::aK 63 K b5 b6 a0.1.S.E::aK 2 K b7 b8 a0.1.M::aK 9 K b9 c0 a0.1.C::aK 31 K d6 d7 (bZ d4 a0.2.1)::rows [2] d4 a0.2.1::aK 31 d2 f0 f1 e0::aK 9 K d0 d1 b2::aK 2 K c7 c9 b1::aK 63 K c4 c6 b0::aK 9 K c1 c3 a9::box g5 48 [i64 d8,i64 d9,zS c1 a9.length c3,zS c4 b0.length c6,zS c7 b1.length c9,zS d0 b2.length d1]::L) w) ?_ ?_)))))
        ·rintro f e12 ⟨b44,hm,e13,e14,a89,a90,a91,s5,s6,c36,b45⟩
         unfold fD at hm
         refine aA ?_
         rcases aM hm with ⟨b46,hm⟩|⟨b46,hm⟩
         ·refine aQ b46 c36 (aH (aC (aB (aG (v:=zB false) rfl) (aD (aA ?_)))))
          cases zI hm
          exact bC (aS (bA Tryz.results4 rfl ⟨rfl,(aN.weakK (aN.arr 13 [] b45 rfl) a6)⟩))
         ·refine aO b46 c36 (aY (aA (aH (aC (aB (aG (v:=i64 1) rfl) (aD (aA (aH (aC (aB (dO (us:=(zE a0.1 b3 b4 b5 b6 b7 b8 b9 c0)) nV b45 (i:=0) rfl s5 rfl rfl) (aB (aF (v:=i64 1) rfl) ?_)))))))))))
          have e16:aN G d2 (aK 9 K b3 b4 a0.1.S.L::aK 63 K b5 b6 a0.1.S.E::aK 2 K b7 b8 a0.1.M::aK 9 K b9 c0 a0.1.C::box g6 48 (zE a0.1 b3 b4 b5 b6 b7 b8 b9 c0)::aK 31 K d6 d7 (bZ d4 a0.2.1)::rows [2] d4 a0.2.1::aK 31 d2 f0 f1 e0::aK 9 K d0 d1 b2::aK 2 K c7 c9 b1::aK 63 K c4 c6 b0::aK 9 K c1 c3 a9::box g5 48 [i64 d8,i64 d9,zS c1 a9.length c3,zS c4 b0.length c6,zS c7 b1.length c9,zS d0 b2.length d1]::L) e12:=(aN.arr 5 [1,2,3,4,0] b45 rfl)
          obtain ⟨a3,e17,hm⟩:=aJ hm
          refine aX (vs:=[zA (zEa a0.1 b3 b4 b5 b6 b7 b8 b9 c0),i64 1]) Tryz.call24 rfl (aDs e16 e17) ?_
          rintro _ n6 ⟨rfl,e18,e19,e20,e21,e22⟩
          have e23:aN G d2 (aK 9 K b3 b4 a3.2.1::aK 63 K b5 b6 a3.2.2.1::aK 2 K b7 b8 a3.2.2.2.1::aK 9 K b9 c0 a3.2.2.2.2::box g6 48 [i64 a0.1.S.N,i64 a0.1.S.I,zS b3 a3.2.1.length b4,zS b5 a0.1.S.E.length b6,zS b7 a0.1.M.length b8,zS b9 a0.1.C.length c0]::aK 31 K d6 d7 (bZ d4 a0.2.1)::rows [2] d4 a0.2.1::aK 31 d2 f0 f1 e0::aK 9 K d0 d1 b2::aK 2 K c7 c9 b1::aK 63 K c4 c6 b0::aK 9 K c1 c3 a9::box g5 48 [i64 d8,i64 d9,zS c1 a9.length c3,zS c4 b0.length c6,zS c7 b1.length c9,zS d0 b2.length d1]::L) n6:=Eq.mp (congrArg (fun n=>aN G d2 (aK 9 K b3 b4 a3.2.1::aK 63 K b5 b6 a3.2.2.1::aK 2 K b7 b8 a3.2.2.2.1::aK 9 K b9 c0 a3.2.2.2.2::box g6 48 [i64 a0.1.S.N,i64 a0.1.S.I,zS b3 n b4,zS b5 a0.1.S.E.length b6,zS b7 a0.1.M.length b8,zS b9 a0.1.C.length c0]::aK 31 K d6 d7 (bZ d4 a0.2.1)::rows [2] d4 a0.2.1::aK 31 d2 f0 f1 e0::aK 9 K d0 d1 b2::aK 2 K c7 c9 b1::aK 63 K c4 c6 b0::aK 9 K c1 c3 a9::box g5 48 [i64 d8,i64 d9,zS c1 a9.length c3,zS c4 b0.length c6,zS c7 b1.length c9,zS d0 b2.length d1]::L) n6) e18) e22
          have e24:aN G d2 (aK 9 K b3 b4 a3.2.1::aK 63 K b5 b6 a3.2.2.1::aK 2 K b7 b8 a3.2.2.2.1::aK 9 K b9 c0 a3.2.2.2.2::box g6 48 [i64 a0.1.S.N,i64 a0.1.S.I,zS b3 a3.2.1.length b4,zS b5 a3.2.2.1.length b6,zS b7 a0.1.M.length b8,zS b9 a0.1.C.length c0]::aK 31 K d6 d7 (bZ d4 a0.2.1)::rows [2] d4 a0.2.1::aK 31 d2 f0 f1 e0::aK 9 K d0 d1 b2::aK 2 K c7 c9 b1::aK 63 K c4 c6 b0::aK 9 K c1 c3 a9::box g5 48 [i64 d8,i64 d9,zS c1 a9.length c3,zS c4 b0.length c6,zS c7 b1.length c9,zS d0 b2.length d1]::L) n6:=Eq.mp (congrArg (fun n=>aN G d2 (aK 9 K b3 b4 a3.2.1::aK 63 K b5 b6 a3.2.2.1::aK 2 K b7 b8 a3.2.2.2.1::aK 9 K b9 c0 a3.2.2.2.2::box g6 48 [i64 a0.1.S.N,i64 a0.1.S.I,zS b3 a3.2.1.length b4,zS b5 n b6,zS b7 a0.1.M.length b8,zS b9 a0.1.C.length c0]::aK 31 K d6 d7 (bZ d4 a0.2.1)::rows [2] d4 a0.2.1::aK 31 d2 f0 f1 e0::aK 9 K d0 d1 b2::aK 2 K c7 c9 b1::aK 63 K c4 c6 b0::aK 9 K c1 c3 a9::box g5 48 [i64 d8,i64 d9,zS c1 a9.length c3,zS c4 b0.length c6,zS c7 b1.length c9,zS d0 b2.length d1]::L) n6) e19) e23
          have e25:aN G d2 (aK 9 K b3 b4 a3.2.1::aK 63 K b5 b6 a3.2.2.1::aK 2 K b7 b8 a3.2.2.2.1::aK 9 K b9 c0 a3.2.2.2.2::box g6 48 [i64 a0.1.S.N,i64 a0.1.S.I,zS b3 a3.2.1.length b4,zS b5 a3.2.2.1.length b6,zS b7 a3.2.2.2.1.length b8,zS b9 a0.1.C.length c0]::aK 31 K d6 d7 (bZ d4 a0.2.1)::rows [2] d4 a0.2.1::aK 31 d2 f0 f1 e0::aK 9 K d0 d1 b2::aK 2 K c7 c9 b1::aK 63 K c4 c6 b0::aK 9 K c1 c3 a9::box g5 48 [i64 d8,i64 d9,zS c1 a9.length c3,zS c4 b0.length c6,zS c7 b1.length c9,zS d0 b2.length d1]::L) n6:=Eq.mp (congrArg (fun n=>aN G d2 (aK 9 K b3 b4 a3.2.1::aK 63 K b5 b6 a3.2.2.1::aK 2 K b7 b8 a3.2.2.2.1::aK 9 K b9 c0 a3.2.2.2.2::box g6 48 [i64 a0.1.S.N,i64 a0.1.S.I,zS b3 a3.2.1.length b4,zS b5 a3.2.2.1.length b6,zS b7 n b8,zS b9 a0.1.C.length c0]::aK 31 K d6 d7 (bZ d4 a0.2.1)::rows [2] d4 a0.2.1::aK 31 d2 f0 f1 e0::aK 9 K d0 d1 b2::aK 2 K c7 c9 b1::aK 63 K c4 c6 b0::aK 9 K c1 c3 a9::box g5 48 [i64 d8,i64 d9,zS c1 a9.length c3,zS c4 b0.length c6,zS c7 b1.length c9,zS d0 b2.length d1]::L) n6) e20) e24
          have e26:aN G d2 (aK 9 K b3 b4 a3.2.1::aK 63 K b5 b6 a3.2.2.1::aK 2 K b7 b8 a3.2.2.2.1::aK 9 K b9 c0 a3.2.2.2.2::box g6 48 [i64 a0.1.S.N,i64 a0.1.S.I,zS b3 a3.2.1.length b4,zS b5 a3.2.2.1.length b6,zS b7 a3.2.2.2.1.length b8,zS b9 a3.2.2.2.2.length c0]::aK 31 K d6 d7 (bZ d4 a0.2.1)::rows [2] d4 a0.2.1::aK 31 d2 f0 f1 e0::aK 9 K d0 d1 b2::aK 2 K c7 c9 b1::aK 63 K c4 c6 b0::aK 9 K c1 c3 a9::box g5 48 [i64 d8,i64 d9,zS c1 a9.length c3,zS c4 b0.length c6,zS c7 b1.length c9,zS d0 b2.length d1]::L) n6:=Eq.mp (congrArg (fun n=>aN G d2 (aK 9 K b3 b4 a3.2.1::aK 63 K b5 b6 a3.2.2.1::aK 2 K b7 b8 a3.2.2.2.1::aK 9 K b9 c0 a3.2.2.2.2::box g6 48 [i64 a0.1.S.N,i64 a0.1.S.I,zS b3 a3.2.1.length b4,zS b5 a3.2.2.1.length b6,zS b7 a3.2.2.2.1.length b8,zS b9 n c0]::aK 31 K d6 d7 (bZ d4 a0.2.1)::rows [2] d4 a0.2.1::aK 31 d2 f0 f1 e0::aK 9 K d0 d1 b2::aK 2 K c7 c9 b1::aK 63 K c4 c6 b0::aK 9 K c1 c3 a9::box g5 48 [i64 d8,i64 d9,zS c1 a9.length c3,zS c4 b0.length c6,zS c7 b1.length c9,zS d0 b2.length d1]::L) n6) e21) e25
          refine aB (aG (v:=i64 a3.1) rfl) (aD (aA (aH (aC (aB (aF s6) (aB (aF (v:=i64 a3.1) rfl) ?_))))))
          have e27:aN G d2 (aK 31 K d6 d7 (bZ d4 a0.2.1)::rows [2] d4 a0.2.1::aK 9 K b3 b4 a3.2.1::aK 63 K b5 b6 a3.2.2.1::aK 2 K b7 b8 a3.2.2.2.1::aK 9 K b9 c0 a3.2.2.2.2::box g6 48 [i64 a0.1.S.N,i64 a0.1.S.I,zS b3 a3.2.1.length b4,zS b5 a3.2.2.1.length b6,zS b7 a3.2.2.2.1.length b8,zS b9 a3.2.2.2.2.length c0]::aK 31 d2 f0 f1 e0::aK 9 K d0 d1 b2::aK 2 K c7 c9 b1::aK 63 K c4 c6 b0::aK 9 K c1 c3 a9::box g5 48 [i64 d8,i64 d9,zS c1 a9.length c3,zS c4 b0.length c6,zS c7 b1.length c9,zS d0 b2.length d1]::L) n6:=(aN.arr 7 [5,6,0,1,2,3,4] e26 rfl)
          obtain ⟨h0,e28,hm⟩:=aJ hm
          refine aX (vs:=[zS d6 a0.2.1.length d7,i64 a3.1]) Tryz.call25 rfl (aGv e27 b33 e28) ?_
          rintro _ i43 ⟨l8,rfl,a40,c37,c38⟩
          refine aB (aG (v:=i64 h0.1) rfl) (aD (aA (aH (aC (aB (aG (v:=i64 1) rfl) (aD (aA (aH (aC (aB (dO (us:=[i64 a0.1.S.N,i64 a0.1.S.I,zS b3 a3.2.1.length b4,zS b5 a3.2.2.1.length b6,zS b7 a3.2.2.2.1.length b8,zS b9 a3.2.2.2.2.length c0]) nV c38 (i:=6) rfl s5 rfl rfl) (aB (aF (v:=i64 1) rfl) ?_)))))))))))
          obtain ⟨i44,b47,e29,e30,e31⟩:=aN.lendS (i:=2) c38 a6 rfl
          obtain ⟨i45,b48,e32,e33,e34⟩:=aN.lendS (i:=2) e30 (zL a6 b47) rfl
          obtain ⟨i46,b49,e35,e36,e37⟩:=aN.lendS (i:=2) e33 (zL (zL a6 b47) b48) rfl
          obtain ⟨i47,b50,e38,e39,e40⟩:=aN.lendS (i:=2) e36 (zL (zL (zL a6 b47) b48) b49) rfl
          obtain ⟨a92,e41,hm⟩:=aJ hm
          refine aX (vs:=[zA #[i64 a0.1.S.N,i64 a0.1.S.I,zS b3 a3.2.1.length b4,zS b5 a3.2.2.1.length b6,zS b7 a3.2.2.2.1.length b8,zS b9 a3.2.2.2.2.length c0],i64 1]) Tryz.call26 rfl (aDt (a:=⟨⟨a0.1.S.N,a0.1.S.I,a3.2.1,a3.2.2.1⟩,a3.2.2.2.1,a3.2.2.2.2⟩) e39 (e29.mono (zL (zL b48 b49) b50)) (e32.mono (zL b49 b50)) (e35.mono b50) e38 e41) ?_
          rintro _ i48 ⟨rfl,e42⟩
          have e43:=e40 _ _ e42
          have e44:=e37 _ _ e43
          have e45:=e34 _ _ e44
          have c39:=e31 _ _ e45
          refine aB (aG (v:=i64 a92) rfl) (aD (aA (aH (aH (aC (aB (aF (v:=i64 a92) rfl) (aB (cK rfl rfl) (aD (aA ?_)))))))))
          rcases aM hm with ⟨b51,hm⟩|⟨b51,hm⟩
          ·refine aQ b51 rfl (aH (aC (aB (aG (v:=zB false) rfl) (aD (aA ?_)))))
           cases zI hm
           exact bC (aS (bA Tryz.results4 rfl ⟨rfl,(aN.weakK (aN.arr 13 [] c39 rfl) a6)⟩))
          ·refine aO b51 rfl (aY (aA (aH (aC (aB (aF (v:=zS d6 h0.2.length d7) (Eq.trans s6 (congrArg (fun n=>zS d6 n d7) a40))) (aB (aF (v:=i64 a92) rfl) ?_))))))
           obtain ⟨i49,i50,e47,i51,e48,e49⟩:=aN.lendD' (i:=4) c39 c37 rfl rfl
           obtain ⟨b52,e50,hm⟩:=aJ hm
           refine aX (vs:=[zS d6 h0.2.length d7,i64 a92]) Tryz.call27 rfl (aBR e48 e47 e50) ?_
           rintro _ i52 ⟨rfl,e51⟩
           have b53:=e49 _ _ e51
           refine aB (aG (v:=i64 b52) rfl) (aD (aA (aH (aH (aC (aB (aF (v:=i64 b52) rfl) (aB (cK rfl rfl) (aD (aA ?_)))))))))
           rcases aM hm with ⟨b54,hm⟩|⟨b54,hm⟩
           ·refine aQ b54 rfl (aH (aC (aB (aG (v:=zB false) rfl) (aD (aA ?_)))))
            cases zI hm
            exact bC (aS (bA Tryz.results4 rfl ⟨rfl,(aN.weakK (aN.arr 13 [] b53 rfl) a6)⟩))
           ·refine aO b54 rfl (aY (aA (aH (aH (aC (aB (aF (v:=i64 b52) rfl) (aB (aF (v:=i64 h0.1) rfl) (aB (mO rfl rfl) (aD (aA ?_))))))))))
            rcases aM hm with ⟨b55,hm⟩|⟨b55,hm⟩
            ·refine aQ b55 rfl (aH (aC (aB (aG (v:=zB false) rfl) (aD (aA ?_)))))
             cases zI hm
             exact bC (aS (bA Tryz.results4 rfl ⟨rfl,(aN.weakK (aN.arr 13 [] b53 rfl) a6)⟩))
            ·refine aO b55 rfl (aY (aA (aH (cU (fun f w=>∃ (s7:Int) (s8:Int) (p6:List aZ) (p7:List Edge) (p8:List Int) (p9:List aZ) (q0:List (List Int)) (a41:Int) (b56:Nat) (a42:Option Addr) (a43:Nat) (a44:Option Addr) (a45:Nat) (a46:Option Addr) (a47:Nat) (a48:Option Addr) (a49:Nat) (a93:Option Addr) (a94:Nat) (a95:List (Dp.Hd (List Int))),kA d8 d9 a9 b0 b1 b2 e0 k3 a0 a3 h0 s7 s8 p6 p7 p8 p9 q0 a41=some R∧f 6=zP (some ⟨g5,0,none⟩)∧f 7=zS f0 e0.length f1∧f 8=i64 k3∧f 11=zP (some ⟨g6,0,none⟩)∧f 12=zS d6 h0.2.length d7∧f 15=i64 h0.1∧f 17=zP (some ⟨b56,0,none⟩)∧f 18=zS a93 q0.length a94∧f 19=i64 a41∧List.length a95=List.length q0∧aN G d2 (aK 31 K a93 a94 (bZ a95 q0)::rows [2] a95 q0::aK 9 K a48 a49 p9::aK 2 K a46 a47 p8::aK 63 K a44 a45 p7::aK 9 K a42 a43 p6::box b56 48 [i64 s7,i64 s8,zS a42 p6.length a43,zS a44 p7.length a45,zS a46 p8.length a47,zS a48 p9.length a49]::aK 31 K d6 d7 (bZ l8 h0.2)::rows [2] l8 h0.2::aK 9 K b3 b4 a3.2.1::aK 63 K b5 b6 a3.2.2.1::aK 2 K b7 b8 a3.2.2.2.1::aK 9 K b9 c0 a3.2.2.2.2::box g6 48 [i64 a0.1.S.N,i64 a0.1.S.I,zS b3 a3.2.1.length b4,zS b5 a3.2.2.1.length b6,zS b7 a3.2.2.2.1.length b8,zS b9 a3.2.2.2.2.length c0]::aK 31 d2 f0 f1 e0::aK 9 K d0 d1 b2::aK 2 K c7 c9 b1::aK 63 K c4 c6 b0::aK 9 K c1 c3 a9::box g5 48 [i64 d8,i64 d9,zS c1 a9.length c3,zS c4 b0.length c6,zS c7 b1.length c9,zS d0 b2.length d1]::L) w) ?_ ?_))))
             ·rintro f i53 ⟨s7,s8,p6,p7,p8,p9,q0,a41,b56,a42,a43,a44,a45,a46,a47,a48,a49,a93,a94,a95,hm,e54,e55,e56,b57,b58,b59,e57,e58,e59,hl414,b60⟩
              unfold kA at hm
              refine aA (aH (aH (cU (fun f w=>∃ (b61:Bool),gE a0 a3 h0 b61=some R∧f 11=zP (some ⟨g6,0,none⟩)∧f 12=zS d6 h0.2.length d7∧f 15=i64 h0.1∧f 142=zB b61∧aN G d2 (aK 31 K d6 d7 (bZ l8 h0.2)::rows [2] l8 h0.2::aK 9 K b3 b4 a3.2.1::aK 63 K b5 b6 a3.2.2.1::aK 2 K b7 b8 a3.2.2.2.1::aK 9 K b9 c0 a3.2.2.2.2::box g6 48 [i64 a0.1.S.N,i64 a0.1.S.I,zS b3 a3.2.1.length b4,zS b5 a3.2.2.1.length b6,zS b7 a3.2.2.2.1.length b8,zS b9 a3.2.2.2.2.length c0]::L) w) ?_ ?_)))
              ·rintro f i54 ⟨b61,hm,e428,e429,e430,c40,b62⟩
               unfold gE at hm
               refine aA ?_
               rcases aM hm with ⟨b63,hm⟩|⟨b63,hm⟩
               ·refine aQ b63 c40 (aH (aC (aB (aG (v:=zB false) rfl) (aD (aA ?_)))))
                cases zI hm
                exact bC (aS (bA Tryz.results4 rfl ⟨rfl,(aN.weakK (aN.arr 7 [] b62 rfl) a6)⟩))
               ·refine aO b63 c40 (aY (aA (aH (aC (aB (aG (v:=i64 1) rfl) (aD (aA (aH (aC (aB (dO (us:=[i64 a0.1.S.N,i64 a0.1.S.I,zS b3 a3.2.1.length b4,zS b5 a3.2.2.1.length b6,zS b7 a3.2.2.2.1.length b8,zS b9 a3.2.2.2.2.length c0]) nV b62 (i:=6) rfl e428 rfl rfl) (aB (aF (v:=i64 1) rfl) ?_)))))))))))
                obtain ⟨i55,b64,e65,e66,e67⟩:=aN.lendS (i:=2) b62 a6 rfl
                obtain ⟨i56,b65,e68,e69,e70⟩:=aN.lendS (i:=2) e66 (zL a6 b64) rfl
                obtain ⟨i57,b66,e71,e72,e73⟩:=aN.lendS (i:=2) e69 (zL (zL a6 b64) b65) rfl
                obtain ⟨i58,b67,e74,e75,e76⟩:=aN.lendS (i:=2) e72 (zL (zL (zL a6 b64) b65) b66) rfl
                obtain ⟨a96,e77,hm⟩:=aJ hm
                refine aX (vs:=[zA #[i64 a0.1.S.N,i64 a0.1.S.I,zS b3 a3.2.1.length b4,zS b5 a3.2.2.1.length b6,zS b7 a3.2.2.2.1.length b8,zS b9 a3.2.2.2.2.length c0],i64 1]) Tryz.call26 rfl (aDt (a:=⟨⟨a0.1.S.N,a0.1.S.I,a3.2.1,a3.2.2.1⟩,a3.2.2.2.1,a3.2.2.2.2⟩) e75 (e65.mono (zL (zL b65 b66) b67)) (e68.mono (zL b66 b67)) (e71.mono b67) e74 e77) ?_
                rintro _ i59 ⟨rfl,e78⟩
                have e79:=e76 _ _ e78
                have e80:=e73 _ _ e79
                have e81:=e70 _ _ e80
                have c41:=e67 _ _ e81
                refine aB (aG (v:=i64 a96) rfl) (aD (aA (aH (aH (aC (aB (aF (v:=i64 a96) rfl) (aB (cK rfl rfl) (aD (aA ?_)))))))))
                rcases aM hm with ⟨b68,hm⟩|⟨b68,hm⟩
                ·refine aQ b68 rfl (aH (aC (aB (aG (v:=zB false) rfl) (aD (aA ?_)))))
                 cases zI hm
                 exact bC (aS (bA Tryz.results4 rfl ⟨rfl,(aN.weakK (aN.arr 7 [] c41 rfl) a6)⟩))
                ·refine aO b68 rfl (aY (aA (aH (aC (aB (aF e429) (aB (aF (v:=i64 a96) rfl) ?_))))))
                 obtain ⟨i60,i61,e83,i62,e84,e85⟩:=aN.lendD' (i:=4) c41 c37 rfl rfl
                 obtain ⟨b69,e86,hm⟩:=aJ hm
                 refine aX (vs:=[zS d6 h0.2.length d7,i64 a96]) Tryz.call27 rfl (aBR e84 e83 e86) ?_
                 rintro _ i63 ⟨rfl,e87⟩
                 have b70:=e85 _ _ e87
                 refine aB (aG (v:=i64 b69) rfl) (aD (aA (aH (aH (aC (aB (aF (v:=i64 b69) rfl) (aB (cK rfl rfl) (aD (aA ?_)))))))))
                 rcases aM hm with ⟨b71,hm⟩|⟨b71,hm⟩
                 ·refine aQ b71 rfl (aH (aC (aB (aG (v:=zB false) rfl) (aD (aA ?_)))))
                  cases zI hm
                  exact bC (aS (bA Tryz.results4 rfl ⟨rfl,(aN.weakK (aN.arr 7 [] b70 rfl) a6)⟩))
                 ·refine aO b71 rfl (aY (aA (aH (aH (aC (aB (aF (v:=i64 b69) rfl) (aB (aF e430) (aB (mO rfl rfl) (aD (aA ?_))))))))))
                  rcases aM hm with ⟨b72,hm⟩|⟨b72,hm⟩
                  ·refine aQ b72 rfl (aH (aC (aB (aG (v:=zB false) rfl) (aD (aA ?_)))))
                   cases zI hm
                   exact bC (aS (bA Tryz.results4 rfl ⟨rfl,(aN.weakK (aN.arr 7 [] b70 rfl) a6)⟩))
                  ·refine aO b72 rfl (aY (aA (aH (aC (aB (aG (v:=zB true) rfl) (aD (aA ?_)))))))
                   cases zI hm
                   exact bC (bA Tryz.results4 rfl ⟨rfl,(aN.weakK (aN.arr 7 [] b70 rfl) a6)⟩)
              refine aC (aB (dO (us:=[i64 s7,i64 s8,zS a42 p6.length a43,zS a44 p7.length a45,zS a46 p8.length a47,zS a48 p9.length a49]) nV b60 (i:=6) rfl e57 rfl rfl) (aB (dO (us:=[i64 d8,i64 d9,zS c1 a9.length c3,zS c4 b0.length c6,zS c7 b1.length c9,zS d0 b2.length d1]) nV b60 (i:=19) rfl e54 rfl rfl) ?_))
              obtain ⟨i65,q1,e91,e92,e93⟩:=aN.lendS (i:=5) b60 a6 rfl
              obtain ⟨i66,q2,e94,e95,e96⟩:=aN.lendS (i:=4) e92 (zL a6 q1) rfl
              obtain ⟨i67,q3,e97,e98,e99⟩:=aN.lendS (i:=3) e95 (zL (zL a6 q1) q2) rfl
              obtain ⟨i68,q4,f00,f01,f02⟩:=aN.lendS (i:=2) e98 (zL (zL (zL a6 q1) q2) q3) rfl
              obtain ⟨i69,q5,f03,f04,f05⟩:=aN.lendS (i:=14) f01 (zL (zL (zL (zL a6 q1) q2) q3) q4) rfl
              obtain ⟨i70,q6,f06,f07,f08⟩:=aN.lendS (i:=13) f04 (zL (zL (zL (zL (zL a6 q1) q2) q3) q4) q5) rfl
              obtain ⟨i71,q7,f09,f10,f11⟩:=aN.lendS (i:=12) f07 (zL (zL (zL (zL (zL (zL a6 q1) q2) q3) q4) q5) q6) rfl
              obtain ⟨i72,q8,f12,f13,f14⟩:=aN.lendS (i:=11) f10 (zL (zL (zL (zL (zL (zL (zL a6 q1) q2) q3) q4) q5) q6) q7) rfl
              obtain ⟨f15,f16,hm⟩:=aJ hm
              refine aX (vs:=[zA #[i64 s7,i64 s8,zS a42 p6.length a43,zS a44 p7.length a45,zS a46 p8.length a47,zS a48 p9.length a49],zA #[i64 d8,i64 d9,zS c1 a9.length c3,zS c4 b0.length c6,zS c7 b1.length c9,zS d0 b2.length d1]]) Tryz.call22 rfl (yI (a:=⟨⟨s7,s8,p6,p7⟩,p8,p9⟩) (b:=⟨⟨d8,d9,a9,b0⟩,b1,b2⟩) f13 (e91.mono (zL (zL (zL (zL (zL (zL q2 q3) q4) q5) q6) q7) q8)) (e94.mono (zL (zL (zL (zL (zL q3 q4) q5) q6) q7) q8)) (e97.mono (zL (zL (zL (zL q4 q5) q6) q7) q8)) (f00.mono (zL (zL (zL q5 q6) q7) q8)) (f03.mono (zL (zL q6 q7) q8)) (f06.mono (zL q7 q8)) (f09.mono q8) f12 f16) ?_
              rintro _ i73 ⟨rfl,f17⟩
              have f18:=f14 _ _ f17
              have f19:=f11 _ _ f18
              have f20:=f08 _ _ f19
              have f21:=f05 _ _ f20
              have f22:=f02 _ _ f21
              have f23:=e99 _ _ f22
              have f24:=e96 _ _ f23
              have c42:=e93 _ _ f24
              refine aB (eP rfl) (aB (aF (v:=zB (!f15)) rfl) ?_)
              rcases aM hm with ⟨m5,hm⟩|⟨m5,hm⟩
              ·exact aV m5 rfl rfl (aV m5 rfl rfl (aV m5 rfl rfl (aV m5 rfl rfl (aB (bH (v:=zB true) m5 rfl rfl) (aB (aF (v:=zB true) rfl) (aV (rfl:true=true) rfl rfl (aV (rfl:true=true) rfl rfl (aV (rfl:true=true) rfl rfl (aB (bH (v:=zB true) (rfl:true=true) rfl rfl) (aD (aA ⟨true,hm,b57,b58,b59,rfl,(aN.arr 20 [11,12,13,14,15,16,17] c42 rfl)⟩)))))))))))
              ·refine bI m5 rfl rfl (aB (aF e58) (bI m5 rfl rfl (aB (aF e55) (bI m5 rfl rfl ?_))))
               obtain ⟨i74,f25,f26,i75,f27,f28⟩:=aN.lendD' (i:=8) c42 hl414 rfl rfl
               obtain ⟨i76,f29,f30,f31,f32⟩:=aN.lendS (i:=16) f27 f25 rfl
               obtain ⟨c43,f33,hm⟩:=aJ hm
               refine aX (vs:=[zS a93 q0.length a94,zS f0 e0.length f1]) Tryz.call23 rfl (zF f31 (f26.mono f29) f30 f33) ?_
               rintro _ i77 ⟨rfl,f34⟩
               have f35:=f32 _ _ f34
               have c44:=f28 _ _ f35
               refine bI m5 rfl rfl (aB (eP rfl) (aB (bL (v:=zB (!c43)) m5 rfl rfl) (aB (aF (v:=zB (!c43)) rfl) ?_)))
               rcases aM hm with ⟨n7,hm⟩|⟨n7,hm⟩
               ·exact aV n7 rfl rfl (aV n7 rfl rfl (aV n7 rfl rfl (aB (bH (v:=zB true) n7 rfl rfl) (aD (aA ⟨true,hm,b57,b58,b59,rfl,(aN.arr 20 [12,13,14,15,16,17,18] c44 rfl)⟩)))))
               ·exact bI n7 rfl rfl (aB (aF e59) (bI n7 rfl rfl (aB (aF e56) (bI n7 rfl rfl (aB (mO rfl rfl) (aB (bL (v:=zB (a41 != k3)) n7 rfl rfl) (aD (aA ⟨a41 != k3,hm,b57,b58,b59,rfl,(aN.arr 20 [12,13,14,15,16,17,18] c44 rfl)⟩))))))))
             refine aBh (C:=fun w'=>∃ L',aN G d2 L' w') [] bQ (by kernel_rfl) (fun i78 f36=>?_)
             have o2:=aN.mono b53 f36
             refine eS (i:=0) rfl (by kernel_rfl) ⟨_,o2⟩ (fun _ ⟨_,o2⟩=>iU (t:=0) (vs:=(zE aP a1 c2 a4 c5 a7 c8 a10 c11)) ag_45 o2 h39 e13 rfl rfl) (eS (i:=2) rfl (by kernel_rfl) ⟨_,o2⟩ (fun _ ⟨_,o2⟩=>iU (t:=0) (vs:=(zC aR a13 c14 a16 c17)) aIY o2 h40 e14 rfl rfl) (jW (i:=1) (j:=9) (by kernel_rfl) rfl rfl ?_ ?_))
             ·obtain ⟨g9,f37,hm⟩:=aJ hm
              refine aX (vs:=[zA (zEa aP a1 c2 a4 c5 a7 c8 a10 c11)]) Tryz.call20 rfl (oZ o2 (h3.mono a6) (h6.mono a6) (h9.mono a6) (h12.mono a6) f37) ?_
              rintro _ i79 ⟨s9,t0,t1,t2,t3,t4,t5,t6,rfl,b73⟩
              refine aD (aA ⟨fun _=>⟨_,b73⟩,?_⟩)
              refine jW (i:=3) (j:=9) (by kernel_rfl) rfl rfl ?_ ?_
              ·obtain ⟨l9,f38,hm⟩:=aJ hm
               refine aX (vs:=[zA (zCa aR a13 c14 a16 c17)]) Tryz.call8 rfl (lI b73 (h15.mono a6) (h18.mono a6) f38) ?_
               rintro _ i80 ⟨a97,a98,a99,b00,rfl,b74⟩
               refine aD (aA ⟨fun _=>⟨_,b74⟩,?_⟩)
               refine jW (i:=4) (j:=9) (by kernel_rfl) rfl rfl ?_ ?_
               ·obtain ⟨i81,a50,f39,f40,f41⟩:=aN.lendS (i:=2) b74 a6 rfl
                obtain ⟨i82,a51,f42,f43,f44⟩:=aN.lendS (i:=2) f40 (zL a6 a50) rfl
                obtain ⟨i83,a52,f45,f46,f47⟩:=aN.lendS (i:=2) f43 (zL (zL a6 a50) a51) rfl
                obtain ⟨i84,a53,f48,f49,f50⟩:=aN.lendS (i:=2) f46 (zL (zL (zL a6 a50) a51) a52) rfl
                obtain ⟨i85,a54,f51,f52,f53⟩:=aN.lendS (i:=0) f49 (zL (zL (zL (zL a6 a50) a51) a52) a53) rfl
                obtain ⟨i86,a55,f54,f55,f56⟩:=aN.lendS (i:=0) f52 (zL (zL (zL (zL (zL a6 a50) a51) a52) a53) a54) rfl
                obtain ⟨f6,f57,hm⟩:=aJ hm
                refine aX (vs:=[zA (zEa g9 s9 t0 t1 t2 t3 t4 t5 t6),zA (zCa l9 a97 a98 a99 b00)]) Tryz.call21 rfl (lE f55 hG (f39.mono (zL (zL (zL (zL a51 a52) a53) a54) a55)) (f42.mono (zL (zL (zL a52 a53) a54) a55)) (f45.mono (zL (zL a53 a54) a55)) (f48.mono (zL a54 a55)) (f51.mono a55) f54 f57) ?_
                rintro _ i87 ⟨t7,t8,t9,u0,u1,u2,u3,u4,b01,b02,b75,rfl,f58,f59⟩
                have f60:=f56 _ _ f59
                have f61:=f53 _ _ f60
                have f62:=f50 _ _ f61
                have f63:=f47 _ _ f62
                have f64:=f44 _ _ f63
                have u5:=f41 _ _ f64
                refine aD (aA ⟨fun _=>⟨_,u5⟩,?_⟩)
                refine eS (i:=5) rfl (by kernel_rfl) ⟨_,u5⟩ (fun _ _=>aF (v:=zT #[zA (zEa f6.1 t7 t8 t9 u0 u1 u2 u3 u4),zS b01 f6.2.1.length b02,i64 f6.2.2]) rfl) (eS (i:=6) rfl (by kernel_rfl) ⟨_,u5⟩ (fun _ _=>bX rfl rfl) (eS (i:=7) rfl (by kernel_rfl) ⟨_,u5⟩ (fun _ _=>bX rfl rfl) (eS (i:=8) rfl (by kernel_rfl) ⟨_,u5⟩ (fun _ _=>bX rfl rfl) (bW (i:=9) (by kernel_rfl) rfl (cL (vs:=zK) Tryz.zeroValue48 u5 rfl (fun c45 i88 c46=>(aD (aA ⟨fun _=>⟨_,c46⟩,?_⟩))))))))
                refine bW (i:=10) (by kernel_rfl) rfl (cM (i:=0) (ns:=(zE f6.1 t7 t8 t9 u0 u1 u2 u3 u4)) (us:=(zE f6.1 t7 t8 t9 u0 u1 u2 u3 u4)) Tryz.sizeOf48 c46 rfl rfl rfl rfl rfl (eD rfl) rfl rfl (fun f65 (b03:aN G d2 (box c45 48 (zE f6.1 t7 t8 t9 u0 u1 u2 u3 u4)::aK 9 K s9 t0 g9.S.L::aK 63 K t1 t2 g9.S.E::aK 2 K t3 t4 g9.M::aK 9 K t5 t6 g9.C::aK 9 K a97 a98 l9.L::aK 63 K a99 b00 l9.E::aK 9 K t7 t8 f6.1.S.L::aK 63 K t9 u0 f6.1.S.E::aK 2 K u1 u2 f6.1.M::aK 9 K u3 u4 f6.1.C::aK 31 K b01 b02 (bZ b75 f6.2.1)::rows [2] b75 f6.2.1::aK 31 K d6 d7 (bZ l8 h0.2)::rows [2] l8 h0.2::aK 9 K b3 b4 a3.2.1::aK 63 K b5 b6 a3.2.2.1::aK 2 K b7 b8 a3.2.2.2.1::aK 9 K b9 c0 a3.2.2.2.2::box g6 48 [i64 a0.1.S.N,i64 a0.1.S.I,zS b3 a3.2.1.length b4,zS b5 a3.2.2.1.length b6,zS b7 a3.2.2.2.1.length b8,zS b9 a3.2.2.2.2.length c0]::aK 31 d2 f0 f1 e0::aK 9 K d0 d1 b2::aK 2 K c7 c9 b1::aK 63 K c4 c6 b0::aK 9 K c1 c3 a9::box g5 48 [i64 d8,i64 d9,zS c1 a9.length c3,zS c4 b0.length c6,zS c7 b1.length c9,zS d0 b2.length d1]::L) f65)=>(aD (aA ⟨fun _=>⟨_,b03⟩,?_⟩))))
                exact eS (i:=11) rfl (by kernel_rfl) ⟨_,b03⟩ (fun _ _=>aG (v:=zS b01 f6.2.1.length b02) rfl) (eS (i:=12) rfl (by kernel_rfl) ⟨_,b03⟩ (fun _ _=>aG (v:=i64 f6.2.2) rfl) (fT (by kernel_rfl) (aA ⟨f6.1.S.N,f6.1.S.I,f6.1.S.L,f6.1.S.E,f6.1.M,f6.1.C,f6.2.1,f6.2.2,c45,t7,t8,t9,u0,u1,u2,u3,u4,b01,b02,b75,hm,a89,a90,a91,s5,(Eq.trans s6 (congrArg (fun n=>zS d6 n d7) a40)),rfl,rfl,rfl,rfl,f58,(aN.arr 13 [11,12,10,9,8,7,0] b03 rfl)⟩)))
               ·refine cL (vs:=zK) Tryz.zeroValue48 b74 rfl (fun c47 i89 c48=>(aD (aA ⟨fun _=>⟨_,c48⟩,?_⟩)))
                refine bW (i:=4) (by kernel_rfl) rfl ?_
                obtain ⟨i90,a56,f66,f67,f68⟩:=aN.lendS (i:=3) c48 a6 rfl
                obtain ⟨i91,a57,f69,f70,f71⟩:=aN.lendS (i:=3) f67 (zL a6 a56) rfl
                obtain ⟨i92,a58,f72,f73,f74⟩:=aN.lendS (i:=3) f70 (zL (zL a6 a56) a57) rfl
                obtain ⟨i93,a59,f75,f76,f77⟩:=aN.lendS (i:=3) f73 (zL (zL (zL a6 a56) a57) a58) rfl
                obtain ⟨i94,a60,f78,f79,f80⟩:=aN.lendS (i:=1) f76 (zL (zL (zL (zL a6 a56) a57) a58) a59) rfl
                obtain ⟨i95,a61,f81,f82,f83⟩:=aN.lendS (i:=1) f79 (zL (zL (zL (zL (zL a6 a56) a57) a58) a59) a60) rfl
                obtain ⟨f7,f84,hm⟩:=aJ hm
                refine aX (vs:=[zA (zEa g9 s9 t0 t1 t2 t3 t4 t5 t6),zA (zCa l9 a97 a98 a99 b00)]) Tryz.call21 rfl (lE f82 hG (f66.mono (zL (zL (zL (zL a57 a58) a59) a60) a61)) (f69.mono (zL (zL (zL a58 a59) a60) a61)) (f72.mono (zL (zL a59 a60) a61)) (f75.mono (zL a60 a61)) (f78.mono a61) f81 f84) ?_
                rintro _ i96 ⟨u6,u7,u8,u9,v0,v1,v2,v3,b04,b05,b76,rfl,f85,f86⟩
                have f87:=f83 _ _ f86
                have f88:=f80 _ _ f87
                have f89:=f77 _ _ f88
                have f90:=f74 _ _ f89
                have f91:=f71 _ _ f90
                have v4:=f68 _ _ f91
                refine aD (aA ⟨fun _=>⟨_,v4⟩,?_⟩)
                refine eS (i:=5) rfl (by kernel_rfl) ⟨_,v4⟩ (fun _ _=>aF (v:=zT #[zA (zEa f7.1 u6 u7 u8 u9 v0 v1 v2 v3),zS b04 f7.2.1.length b05,i64 f7.2.2]) rfl) (eS (i:=6) rfl (by kernel_rfl) ⟨_,v4⟩ (fun _ _=>bX rfl rfl) (eS (i:=7) rfl (by kernel_rfl) ⟨_,v4⟩ (fun _ _=>bX rfl rfl) (eS (i:=8) rfl (by kernel_rfl) ⟨_,v4⟩ (fun _ _=>bX rfl rfl) (bW (i:=10) (by kernel_rfl) rfl (cM (i:=12) (ns:=(zE f7.1 u6 u7 u8 u9 v0 v1 v2 v3)) (us:=(zE f7.1 u6 u7 u8 u9 v0 v1 v2 v3)) Tryz.sizeOf48 v4 rfl rfl rfl rfl rfl (eD rfl) rfl rfl (fun f92 (b06:aN G d2 (aK 9 K s9 t0 g9.S.L::aK 63 K t1 t2 g9.S.E::aK 2 K t3 t4 g9.M::aK 9 K t5 t6 g9.C::aK 9 K a97 a98 l9.L::aK 63 K a99 b00 l9.E::aK 9 K u6 u7 f7.1.S.L::aK 63 K u8 u9 f7.1.S.E::aK 2 K v0 v1 f7.1.M::aK 9 K v2 v3 f7.1.C::aK 31 K b04 b05 (bZ b76 f7.2.1)::rows [2] b76 f7.2.1::box c47 48 (zE f7.1 u6 u7 u8 u9 v0 v1 v2 v3)::aK 31 K d6 d7 (bZ l8 h0.2)::rows [2] l8 h0.2::aK 9 K b3 b4 a3.2.1::aK 63 K b5 b6 a3.2.2.1::aK 2 K b7 b8 a3.2.2.2.1::aK 9 K b9 c0 a3.2.2.2.2::box g6 48 [i64 a0.1.S.N,i64 a0.1.S.I,zS b3 a3.2.1.length b4,zS b5 a3.2.2.1.length b6,zS b7 a3.2.2.2.1.length b8,zS b9 a3.2.2.2.2.length c0]::aK 31 d2 f0 f1 e0::aK 9 K d0 d1 b2::aK 2 K c7 c9 b1::aK 63 K c4 c6 b0::aK 9 K c1 c3 a9::box g5 48 [i64 d8,i64 d9,zS c1 a9.length c3,zS c4 b0.length c6,zS c7 b1.length c9,zS d0 b2.length d1]::L) f92)=>(aD (aA ⟨fun _=>⟨_,b06⟩,?_⟩))))))))
                exact eS (i:=11) rfl (by kernel_rfl) ⟨_,b06⟩ (fun _ _=>aG (v:=zS b04 f7.2.1.length b05) rfl) (eS (i:=12) rfl (by kernel_rfl) ⟨_,b06⟩ (fun _ _=>aG (v:=i64 f7.2.2) rfl) (fT (by kernel_rfl) (aA ⟨f7.1.S.N,f7.1.S.I,f7.1.S.L,f7.1.S.E,f7.1.M,f7.1.C,f7.2.1,f7.2.2,c47,u6,u7,u8,u9,v0,v1,v2,v3,b04,b05,b76,hm,a89,a90,a91,s5,(Eq.trans s6 (congrArg (fun n=>zS d6 n d7) a40)),rfl,rfl,rfl,rfl,f85,(aN.arr 12 [10,11,9,8,7,6] b06 rfl)⟩)))
              ·refine cL (vs:=zK) Tryz.zeroValue48 b73 rfl (fun c49 i97 c50=>(aD (aA ⟨fun _=>⟨_,c50⟩,?_⟩)))
               refine bW (i:=3) (by kernel_rfl) rfl ?_
               obtain ⟨v5,f93,hm⟩:=aJ hm
               refine aX (vs:=[zA (zCa aR a13 c14 a16 c17)]) Tryz.call8 rfl (lI c50 (h15.mono a6) (h18.mono a6) f93) ?_
               rintro _ i98 ⟨c51,c52,c53,c54,rfl,c55⟩
               refine aD (aA ⟨fun _=>⟨_,c55⟩,?_⟩)
               refine bW (i:=4) (by kernel_rfl) rfl ?_
               obtain ⟨i99,a62,f94,f95,f96⟩:=aN.lendS (i:=3) c55 a6 rfl
               obtain ⟨j00,a63,f97,f98,f99⟩:=aN.lendS (i:=3) f95 (zL a6 a62) rfl
               obtain ⟨j01,a64,g00,g01,g02⟩:=aN.lendS (i:=3) f98 (zL (zL a6 a62) a63) rfl
               obtain ⟨j02,a65,g03,g04,g05⟩:=aN.lendS (i:=3) g01 (zL (zL (zL a6 a62) a63) a64) rfl
               obtain ⟨j03,a66,g06,g07,g08⟩:=aN.lendS (i:=0) g04 (zL (zL (zL (zL a6 a62) a63) a64) a65) rfl
               obtain ⟨j04,a67,g09,g10,g11⟩:=aN.lendS (i:=0) g07 (zL (zL (zL (zL (zL a6 a62) a63) a64) a65) a66) rfl
               obtain ⟨f8,g12,hm⟩:=aJ hm
               refine aX (vs:=[zA (zEa g9 s9 t0 t1 t2 t3 t4 t5 t6),zA (zCa v5 c51 c52 c53 c54)]) Tryz.call21 rfl (lE g10 hG (f94.mono (zL (zL (zL (zL a63 a64) a65) a66) a67)) (f97.mono (zL (zL (zL a64 a65) a66) a67)) (g00.mono (zL (zL a65 a66) a67)) (g03.mono (zL a66 a67)) (g06.mono a67) g09 g12) ?_
               rintro _ j05 ⟨v6,v7,v8,v9,w0,w1,w2,w3,b07,b08,b77,rfl,g13,g14⟩
               have g15:=g11 _ _ g14
               have g16:=g08 _ _ g15
               have g17:=g05 _ _ g16
               have g18:=g02 _ _ g17
               have g19:=f99 _ _ g18
               have w4:=f96 _ _ g19
               refine aD (aA ⟨fun _=>⟨_,w4⟩,?_⟩)
               refine eS (i:=5) rfl (by kernel_rfl) ⟨_,w4⟩ (fun _ _=>aF (v:=zT #[zA (zEa f8.1 v6 v7 v8 v9 w0 w1 w2 w3),zS b07 f8.2.1.length b08,i64 f8.2.2]) rfl) (eS (i:=6) rfl (by kernel_rfl) ⟨_,w4⟩ (fun _ _=>bX rfl rfl) (eS (i:=7) rfl (by kernel_rfl) ⟨_,w4⟩ (fun _ _=>bX rfl rfl) (eS (i:=8) rfl (by kernel_rfl) ⟨_,w4⟩ (fun _ _=>bX rfl rfl) (bW (i:=10) (by kernel_rfl) rfl (cM (i:=12) (ns:=(zE f8.1 v6 v7 v8 v9 w0 w1 w2 w3)) (us:=(zE f8.1 v6 v7 v8 v9 w0 w1 w2 w3)) Tryz.sizeOf48 w4 rfl rfl rfl rfl rfl (eD rfl) rfl rfl (fun g20 (b09:aN G d2 (aK 9 K s9 t0 g9.S.L::aK 63 K t1 t2 g9.S.E::aK 2 K t3 t4 g9.M::aK 9 K t5 t6 g9.C::aK 9 K c51 c52 v5.L::aK 63 K c53 c54 v5.E::aK 9 K v6 v7 f8.1.S.L::aK 63 K v8 v9 f8.1.S.E::aK 2 K w0 w1 f8.1.M::aK 9 K w2 w3 f8.1.C::aK 31 K b07 b08 (bZ b77 f8.2.1)::rows [2] b77 f8.2.1::box c49 48 (zE f8.1 v6 v7 v8 v9 w0 w1 w2 w3)::aK 31 K d6 d7 (bZ l8 h0.2)::rows [2] l8 h0.2::aK 9 K b3 b4 a3.2.1::aK 63 K b5 b6 a3.2.2.1::aK 2 K b7 b8 a3.2.2.2.1::aK 9 K b9 c0 a3.2.2.2.2::box g6 48 [i64 a0.1.S.N,i64 a0.1.S.I,zS b3 a3.2.1.length b4,zS b5 a3.2.2.1.length b6,zS b7 a3.2.2.2.1.length b8,zS b9 a3.2.2.2.2.length c0]::aK 31 d2 f0 f1 e0::aK 9 K d0 d1 b2::aK 2 K c7 c9 b1::aK 63 K c4 c6 b0::aK 9 K c1 c3 a9::box g5 48 [i64 d8,i64 d9,zS c1 a9.length c3,zS c4 b0.length c6,zS c7 b1.length c9,zS d0 b2.length d1]::L) g20)=>(aD (aA ⟨fun _=>⟨_,b09⟩,?_⟩))))))))
               exact eS (i:=11) rfl (by kernel_rfl) ⟨_,b09⟩ (fun _ _=>aG (v:=zS b07 f8.2.1.length b08) rfl) (eS (i:=12) rfl (by kernel_rfl) ⟨_,b09⟩ (fun _ _=>aG (v:=i64 f8.2.2) rfl) (fT (by kernel_rfl) (aA ⟨f8.1.S.N,f8.1.S.I,f8.1.S.L,f8.1.S.E,f8.1.M,f8.1.C,f8.2.1,f8.2.2,c49,v6,v7,v8,v9,w0,w1,w2,w3,b07,b08,b77,hm,a89,a90,a91,s5,(Eq.trans s6 (congrArg (fun n=>zS d6 n d7) a40)),rfl,rfl,rfl,rfl,g13,(aN.arr 12 [10,11,9,8,7,6] b09 rfl)⟩)))
             ·refine cL (vs:=zK) Tryz.zeroValue48 o2 rfl (fun c56 j06 c57=>(aD (aA ⟨fun _=>⟨_,c57⟩,?_⟩)))
              refine bW (i:=1) (by kernel_rfl) rfl ?_
              obtain ⟨n2,g21,hm⟩:=aJ hm
              refine aX (vs:=[zA (zEa aP a1 c2 a4 c5 a7 c8 a10 c11)]) Tryz.call20 rfl (oZ c57 (h3.mono a6) (h6.mono a6) (h9.mono a6) (h12.mono a6) g21) ?_
              rintro _ j07 ⟨c58,c59,c60,c61,c62,c63,c64,c65,rfl,c66⟩
              refine aD (aA ⟨fun _=>⟨_,c66⟩,?_⟩)
              refine bW (i:=3) (by kernel_rfl) rfl ?_
              obtain ⟨w5,g22,hm⟩:=aJ hm
              refine aX (vs:=[zA (zCa aR a13 c14 a16 c17)]) Tryz.call8 rfl (lI c66 (h15.mono a6) (h18.mono a6) g22) ?_
              rintro _ j08 ⟨c67,c68,c69,c70,rfl,c71⟩
              refine aD (aA ⟨fun _=>⟨_,c71⟩,?_⟩)
              refine bW (i:=4) (by kernel_rfl) rfl ?_
              obtain ⟨j09,a68,g23,g24,g25⟩:=aN.lendS (i:=2) c71 a6 rfl
              obtain ⟨j10,a69,g26,g27,g28⟩:=aN.lendS (i:=2) g24 (zL a6 a68) rfl
              obtain ⟨j11,a70,g29,g30,g31⟩:=aN.lendS (i:=2) g27 (zL (zL a6 a68) a69) rfl
              obtain ⟨j12,a71,g32,g33,g34⟩:=aN.lendS (i:=2) g30 (zL (zL (zL a6 a68) a69) a70) rfl
              obtain ⟨j13,a72,g35,g36,g37⟩:=aN.lendS (i:=0) g33 (zL (zL (zL (zL a6 a68) a69) a70) a71) rfl
              obtain ⟨j14,a73,g38,g39,g40⟩:=aN.lendS (i:=0) g36 (zL (zL (zL (zL (zL a6 a68) a69) a70) a71) a72) rfl
              obtain ⟨f9,g41,hm⟩:=aJ hm
              refine aX (vs:=[zA (zEa n2 c58 c59 c60 c61 c62 c63 c64 c65),zA (zCa w5 c67 c68 c69 c70)]) Tryz.call21 rfl (lE g39 hG (g23.mono (zL (zL (zL (zL a69 a70) a71) a72) a73)) (g26.mono (zL (zL (zL a70 a71) a72) a73)) (g29.mono (zL (zL a71 a72) a73)) (g32.mono (zL a72 a73)) (g35.mono a73) g38 g41) ?_
              rintro _ j15 ⟨w6,w7,w8,w9,x0,x1,x2,x3,b10,b11,b78,rfl,g42,g43⟩
              have g44:=g40 _ _ g43
              have g45:=g37 _ _ g44
              have g46:=g34 _ _ g45
              have g47:=g31 _ _ g46
              have g48:=g28 _ _ g47
              have x4:=g25 _ _ g48
              refine aD (aA ⟨fun _=>⟨_,x4⟩,?_⟩)
              refine eS (i:=5) rfl (by kernel_rfl) ⟨_,x4⟩ (fun _ _=>aF (v:=zT #[zA (zEa f9.1 w6 w7 w8 w9 x0 x1 x2 x3),zS b10 f9.2.1.length b11,i64 f9.2.2]) rfl) (eS (i:=6) rfl (by kernel_rfl) ⟨_,x4⟩ (fun _ _=>bX rfl rfl) (eS (i:=7) rfl (by kernel_rfl) ⟨_,x4⟩ (fun _ _=>bX rfl rfl) (eS (i:=8) rfl (by kernel_rfl) ⟨_,x4⟩ (fun _ _=>bX rfl rfl) (bW (i:=10) (by kernel_rfl) rfl (cM (i:=12) (ns:=(zE f9.1 w6 w7 w8 w9 x0 x1 x2 x3)) (us:=(zE f9.1 w6 w7 w8 w9 x0 x1 x2 x3)) Tryz.sizeOf48 x4 rfl rfl rfl rfl rfl (eD rfl) rfl rfl (fun g49 (b12:aN G d2 (aK 9 K c58 c59 n2.S.L::aK 63 K c60 c61 n2.S.E::aK 2 K c62 c63 n2.M::aK 9 K c64 c65 n2.C::aK 9 K c67 c68 w5.L::aK 63 K c69 c70 w5.E::aK 9 K w6 w7 f9.1.S.L::aK 63 K w8 w9 f9.1.S.E::aK 2 K x0 x1 f9.1.M::aK 9 K x2 x3 f9.1.C::aK 31 K b10 b11 (bZ b78 f9.2.1)::rows [2] b78 f9.2.1::box c56 48 (zE f9.1 w6 w7 w8 w9 x0 x1 x2 x3)::aK 31 K d6 d7 (bZ l8 h0.2)::rows [2] l8 h0.2::aK 9 K b3 b4 a3.2.1::aK 63 K b5 b6 a3.2.2.1::aK 2 K b7 b8 a3.2.2.2.1::aK 9 K b9 c0 a3.2.2.2.2::box g6 48 [i64 a0.1.S.N,i64 a0.1.S.I,zS b3 a3.2.1.length b4,zS b5 a3.2.2.1.length b6,zS b7 a3.2.2.2.1.length b8,zS b9 a3.2.2.2.2.length c0]::aK 31 d2 f0 f1 e0::aK 9 K d0 d1 b2::aK 2 K c7 c9 b1::aK 63 K c4 c6 b0::aK 9 K c1 c3 a9::box g5 48 [i64 d8,i64 d9,zS c1 a9.length c3,zS c4 b0.length c6,zS c7 b1.length c9,zS d0 b2.length d1]::L) g49)=>(aD (aA ⟨fun _=>⟨_,b12⟩,?_⟩))))))))
              exact eS (i:=11) rfl (by kernel_rfl) ⟨_,b12⟩ (fun _ _=>aG (v:=zS b10 f9.2.1.length b11) rfl) (eS (i:=12) rfl (by kernel_rfl) ⟨_,b12⟩ (fun _ _=>aG (v:=i64 f9.2.2) rfl) (fT (by kernel_rfl) (aA ⟨f9.1.S.N,f9.1.S.I,f9.1.S.L,f9.1.S.E,f9.1.M,f9.1.C,f9.2.1,f9.2.2,c56,w6,w7,w8,w9,x0,x1,x2,x3,b10,b11,b78,hm,a89,a90,a91,s5,(Eq.trans s6 (congrArg (fun n=>zS d6 n d7) a40)),rfl,rfl,rfl,rfl,g42,(aN.arr 12 [10,11,9,8,7,6] b12 rfl)⟩)))
        refine aC (aB (aF (v:=i64 l6.1) rfl) (aB (cK rfl rfl) (aB (aF (v:=zB (decide (l6.1 < 0))) rfl) ?_)))
        rcases aM hm with ⟨m6,hm⟩|⟨m6,hm⟩
        ·exact aV m6 rfl rfl (aV m6 rfl rfl (aV m6 rfl rfl (aV m6 rfl rfl (aB (bH (v:=zB true) m6 rfl rfl) (aB (aF (v:=zB true) rfl) (aV (rfl:true=true) rfl rfl (aV (rfl:true=true) rfl rfl (aV (rfl:true=true) rfl rfl (aV (rfl:true=true) rfl rfl (aB (bH (v:=zB true) (rfl:true=true) rfl rfl) (aB (aF (v:=zB true) rfl) (aV (rfl:true=true) rfl rfl (aV (rfl:true=true) rfl rfl (aV (rfl:true=true) rfl rfl (aB (bH (v:=zB true) (rfl:true=true) rfl rfl) (aD (aA ⟨true,hm,a31,a32,a33,a34,a35,a36,a37,rfl,(aN.arr 14 [] a88 rfl)⟩)))))))))))))))))
        ·refine bI m6 rfl rfl (aB (dO (us:=(zE a0.1 b3 b4 b5 b6 b7 b8 b9 c0)) nV a88 (i:=14) rfl a36 rfl rfl) (bI m6 rfl rfl (aB (dO (us:=[i64 d8,i64 d9,zS c1 a9.length c3,zS c4 b0.length c6,zS c7 b1.length c9,zS d0 b2.length d1]) nV a88 (i:=26) rfl a33 rfl rfl) (bI m6 rfl rfl ?_))))
         obtain ⟨j16,q9,g50,g51,g52⟩:=aN.lendS (i:=15) a88 a6 rfl
         obtain ⟨j17,r0,g53,g54,g55⟩:=aN.lendS (i:=15) g51 (zL a6 q9) rfl
         obtain ⟨j18,r1,g56,g57,g58⟩:=aN.lendS (i:=15) g54 (zL (zL a6 q9) r0) rfl
         obtain ⟨j19,r2,g59,g60,g61⟩:=aN.lendS (i:=15) g57 (zL (zL (zL a6 q9) r0) r1) rfl
         obtain ⟨j20,r3,g62,g63,g64⟩:=aN.lendS (i:=21) g60 (zL (zL (zL (zL a6 q9) r0) r1) r2) rfl
         obtain ⟨j21,r4,g65,g66,g67⟩:=aN.lendS (i:=20) g63 (zL (zL (zL (zL (zL a6 q9) r0) r1) r2) r3) rfl
         obtain ⟨j22,r5,g68,g69,g70⟩:=aN.lendS (i:=19) g66 (zL (zL (zL (zL (zL (zL a6 q9) r0) r1) r2) r3) r4) rfl
         obtain ⟨j23,r6,g71,g72,g73⟩:=aN.lendS (i:=18) g69 (zL (zL (zL (zL (zL (zL (zL a6 q9) r0) r1) r2) r3) r4) r5) rfl
         obtain ⟨c72,g74,hm⟩:=aJ hm
         refine aX (vs:=[zA (zEa a0.1 b3 b4 b5 b6 b7 b8 b9 c0),zA #[i64 d8,i64 d9,zS c1 a9.length c3,zS c4 b0.length c6,zS c7 b1.length c9,zS d0 b2.length d1]]) Tryz.call22 rfl (yI (b:=⟨⟨d8,d9,a9,b0⟩,b1,b2⟩) g72 (g50.mono (zL (zL (zL (zL (zL (zL r0 r1) r2) r3) r4) r5) r6)) (g53.mono (zL (zL (zL (zL (zL r1 r2) r3) r4) r5) r6)) (g56.mono (zL (zL (zL (zL r2 r3) r4) r5) r6)) (g59.mono (zL (zL (zL r3 r4) r5) r6)) (g62.mono (zL (zL r4 r5) r6)) (g65.mono (zL r5 r6)) (g68.mono r6) g71 g74) ?_
         rintro _ j24 ⟨rfl,g75⟩
         have g76:=g73 _ _ g75
         have g77:=g70 _ _ g76
         have g78:=g67 _ _ g77
         have g79:=g64 _ _ g78
         have g80:=g61 _ _ g79
         have g81:=g58 _ _ g80
         have g82:=g55 _ _ g81
         have c73:=g52 _ _ g82
         refine bI m6 rfl rfl (aB (eP rfl) (aB (bL (v:=zB (!c72)) m6 rfl rfl) (aB (aF (v:=zB (!c72)) rfl) ?_)))
         rcases aM hm with ⟨m7,hm⟩|⟨m7,hm⟩
         ·exact aV m7 rfl rfl (aV m7 rfl rfl (aV m7 rfl rfl (aV m7 rfl rfl (aB (bH (v:=zB true) m7 rfl rfl) (aB (aF (v:=zB true) rfl) (aV (rfl:true=true) rfl rfl (aV (rfl:true=true) rfl rfl (aV (rfl:true=true) rfl rfl (aB (bH (v:=zB true) (rfl:true=true) rfl rfl) (aD (aA ⟨true,hm,a31,a32,a33,a34,a35,a36,a37,rfl,(aN.arr 26 [22,0,1,2,3,23,24,25,7,6,5,4] c73 rfl)⟩)))))))))))
         ·refine bI m7 rfl rfl (aB (aF a37) (bI m7 rfl rfl (aB (aF a34) (bI m7 rfl rfl ?_))))
          obtain ⟨j25,g83,g84,j26,g85,g86⟩:=aN.lendD' (i:=23) c73 b33 rfl rfl
          obtain ⟨j27,g87,g88,g89,g90⟩:=aN.lendS (i:=23) g85 g83 rfl
          obtain ⟨c74,g91,hm⟩:=aJ hm
          refine aX (vs:=[zS d6 a0.2.1.length d7,zS f0 e0.length f1]) Tryz.call23 rfl (zF g89 (g84.mono g87) g88 g91) ?_
          rintro _ j28 ⟨rfl,g92⟩
          have g93:=g90 _ _ g92
          have c75:=g86 _ _ g93
          refine bI m7 rfl rfl (aB (eP rfl) (aB (bL (v:=zB (!c74)) m7 rfl rfl) (aB (aF (v:=zB (!c74)) rfl) ?_)))
          rcases aM hm with ⟨n8,hm⟩|⟨n8,hm⟩
          ·exact aV n8 rfl rfl (aV n8 rfl rfl (aV n8 rfl rfl (aB (bH (v:=zB true) n8 rfl rfl) (aD (aA ⟨true,hm,a31,a32,a33,a34,a35,a36,a37,rfl,(aN.arr 26 [25,3,4,5,6,0,1,2,10,9,8,7] c75 rfl)⟩)))))
          ·exact bI n8 rfl rfl (aB (aF d31) (bI n8 rfl rfl (aB (aF a35) (bI n8 rfl rfl (aB (mO rfl rfl) (aB (bL (v:=zB (a0.2.2 != k3)) n8 rfl rfl) (aD (aA ⟨a0.2.2 != k3,hm,a31,a32,a33,a34,a35,a36,a37,rfl,(aN.arr 26 [25,3,4,5,6,0,1,2,10,9,8,7] c75 rfl)⟩))))))))
    refine aC (aB (dO (us:=(zE a0.1 b3 b4 b5 b6 b7 b8 b9 c0)) nV b34 (i:=0) rfl rfl rfl rfl) (aB (dO (us:=[i64 d8,i64 d9,zS c1 a9.length c3,zS c4 b0.length c6,zS c7 b1.length c9,zS d0 b2.length d1]) nV b34 (i:=20) rfl e62 rfl rfl) ?_))
    obtain ⟨j29,r7,g94,g95,g96⟩:=aN.lendS (i:=7) b34 a6 rfl
    obtain ⟨j30,r8,g97,g98,g99⟩:=aN.lendS (i:=7) g95 (zL a6 r7) rfl
    obtain ⟨j31,r9,h00,h01,h02⟩:=aN.lendS (i:=7) g98 (zL (zL a6 r7) r8) rfl
    obtain ⟨j32,s0,h03,h04,h05⟩:=aN.lendS (i:=7) h01 (zL (zL (zL a6 r7) r8) r9) rfl
    obtain ⟨j33,s1,h06,h07,h08⟩:=aN.lendS (i:=15) h04 (zL (zL (zL (zL a6 r7) r8) r9) s0) rfl
    obtain ⟨j34,s2,h09,h10,h11⟩:=aN.lendS (i:=14) h07 (zL (zL (zL (zL (zL a6 r7) r8) r9) s0) s1) rfl
    obtain ⟨j35,s3,h13,h14,h16⟩:=aN.lendS (i:=13) h10 (zL (zL (zL (zL (zL (zL a6 r7) r8) r9) s0) s1) s2) rfl
    obtain ⟨j36,s4,h17,h19,h20⟩:=aN.lendS (i:=12) h14 (zL (zL (zL (zL (zL (zL (zL a6 r7) r8) r9) s0) s1) s2) s3) rfl
    obtain ⟨h21,h22,hm⟩:=aJ hm
    refine aX (vs:=[zA (zEa a0.1 b3 b4 b5 b6 b7 b8 b9 c0),zA #[i64 d8,i64 d9,zS c1 a9.length c3,zS c4 b0.length c6,zS c7 b1.length c9,zS d0 b2.length d1]]) Tryz.call22 rfl (yI (b:=⟨⟨d8,d9,a9,b0⟩,b1,b2⟩) h19 (g94.mono (zL (zL (zL (zL (zL (zL r8 r9) s0) s1) s2) s3) s4)) (g97.mono (zL (zL (zL (zL (zL r9 s0) s1) s2) s3) s4)) (h00.mono (zL (zL (zL (zL s0 s1) s2) s3) s4)) (h03.mono (zL (zL (zL s1 s2) s3) s4)) (h06.mono (zL (zL s2 s3) s4)) (h09.mono (zL s3 s4)) (h13.mono s4) h17 h22) ?_
    rintro _ j37 ⟨rfl,h23⟩
    have h24:=h20 _ _ h23
    have h25:=h16 _ _ h24
    have h26:=h11 _ _ h25
    have h27:=h08 _ _ h26
    have h28:=h05 _ _ h27
    have h29:=h02 _ _ h28
    have h30:=g99 _ _ h29
    have c76:=g96 _ _ h30
    refine aB (eP rfl) (aB (aF (v:=zB (!h21)) rfl) ?_)
    rcases aM hm with ⟨m8,hm⟩|⟨m8,hm⟩
    ·exact aV m8 rfl rfl (aV m8 rfl rfl (aV m8 rfl rfl (aV m8 rfl rfl (aB (bH (v:=zB true) m8 rfl rfl) (aB (aF (v:=zB true) rfl) (aV (rfl:true=true) rfl rfl (aV (rfl:true=true) rfl rfl (aV (rfl:true=true) rfl rfl (aB (bH (v:=zB true) (rfl:true=true) rfl rfl) (aD (aA ⟨true,hm,e60,e61,e62,e63,e64,rfl,rfl,rfl,rfl,rfl,rfl,(aN.arr 20 [8,9,10,11,12,13,14,0,1,2,3,15,16,17,18,19,7,6,5,4] c76 rfl)⟩)))))))))))
    ·refine bI m8 rfl rfl (aB (aF (v:=zS d6 a0.2.1.length d7) rfl) (bI m8 rfl rfl (aB (aF e63) (bI m8 rfl rfl ?_))))
     obtain ⟨j38,h31,h32,j39,h33,h34⟩:=aN.lendD' (i:=15) c76 b33 rfl rfl
     obtain ⟨j40,h35,h36,h37,h38⟩:=aN.lendS (i:=17) h33 h31 rfl
     obtain ⟨c77,q973,hm⟩:=aJ hm
     refine aX (vs:=[zS d6 a0.2.1.length d7,zS f0 e0.length f1]) Tryz.call23 rfl (zF h37 (h32.mono h35) h36 q973) ?_
     rintro _ j41 ⟨rfl,hs975⟩
     have h41:=h38 _ _ hs975
     have c78:=h34 _ _ h41
     refine bI m8 rfl rfl (aB (eP rfl) (aB (bL (v:=zB (!c77)) m8 rfl rfl) (aB (aF (v:=zB (!c77)) rfl) ?_)))
     rcases aM hm with ⟨n9,hm⟩|⟨n9,hm⟩
     ·exact aV n9 rfl rfl (aV n9 rfl rfl (aV n9 rfl rfl (aB (bH (v:=zB true) n9 rfl rfl) (aD (aA ⟨true,hm,e60,e61,e62,e63,e64,rfl,rfl,rfl,rfl,rfl,rfl,(aN.arr 20 [11,12,13,14,15,16,17,3,4,5,6,0,1,18,19,2,10,9,8,7] c78 rfl)⟩)))))
     ·exact bI n9 rfl rfl (aB (aF (v:=i64 a0.2.2) rfl) (bI n9 rfl rfl (aB (aF e64) (bI n9 rfl rfl (aB (mO rfl rfl) (aB (bL (v:=zB (a0.2.2 != k3)) n9 rfl rfl) (aD (aA ⟨a0.2.2 != k3,hm,e60,e61,e62,e63,e64,rfl,rfl,rfl,rfl,rfl,rfl,(aN.arr 20 [11,12,13,14,15,16,17,3,4,5,6,0,1,18,19,2,10,9,8,7] c78 rfl)⟩))))))))
   obtain ⟨h42,g0,a74,b79,_⟩:=aN.lendB (i:=0) c21 rfl
   replace b79:aN G h42 (box b19 45 (zE aP a1 c2 a4 c5 a7 c8 a10 c11)::L) w33:=b79
   obtain ⟨c79,e1,a75,b80,_⟩:=aN.lendB (i:=0) b79 rfl
   replace b80:aN G c79 (L) w33:=b80
   refine aBh (C:=fun w'=>∃ L',aN G c79 L' w') [] bQ (by kernel_rfl) (fun j42 h43=>?_)
   have o3:=aN.mono b80 h43
   refine eS (i:=0) rfl (by kernel_rfl) ⟨_,o3⟩ (fun _ ⟨_,o3⟩=>iU (t:=0) (vs:=(zE aP a1 c2 a4 c5 a7 c8 a10 c11)) ag_45 o3 a75 (kY rfl) rfl rfl) (eS (i:=2) rfl (by kernel_rfl) ⟨_,o3⟩ (fun _ ⟨_,o3⟩=>iU (t:=0) (vs:=(zC aR a13 c14 a16 c17)) aIY o3 (a74.mono e1) (kY rfl) rfl rfl) (jW (i:=1) (j:=9) (by kernel_rfl) rfl rfl ?_ ?_))
   ·obtain ⟨d5,h44,hm⟩:=aJ hm
    refine aX (vs:=[zA (zEa aP a1 c2 a4 c5 a7 c8 a10 c11)]) Tryz.call20 rfl (oZ o3 (h3.mono (zL g0 e1)) (h6.mono (zL g0 e1)) (h9.mono (zL g0 e1)) (h12.mono (zL g0 e1)) h44) ?_
    rintro _ j43 ⟨b81,b82,x5,x6,o0,o1,m0,m1,rfl,b83⟩
    refine aD (aA ⟨fun _=>⟨_,b83⟩,?_⟩)
    refine jW (i:=3) (j:=9) (by kernel_rfl) rfl rfl ?_ ?_
    ·obtain ⟨g7,h45,hm⟩:=aJ hm
     refine aX (vs:=[zA (zCa aR a13 c14 a16 c17)]) Tryz.call8 rfl (lI b83 (h15.mono (zL g0 e1)) (h18.mono (zL g0 e1)) h45) ?_
     rintro _ x7 ⟨n3,n4,m2,m3,rfl,b84⟩
     refine aD (aA ⟨fun _=>⟨_,b84⟩,?_⟩)
     refine jW (i:=4) (j:=9) (by kernel_rfl) rfl rfl ?_ ?_
     ·obtain ⟨h46,h5,h47,b85⟩:=aN.giveS (i:=2) b84 (zL g0 e1) rfl
      replace b85:aN G h46 (aK 9 K n3 n4 g7.L::aK 63 K m2 m3 g7.E::aK 63 K x5 x6 d5.S.E::aK 2 K o0 o1 d5.M::aK 9 K m0 m1 d5.C::L) x7:=b85
      obtain ⟨h48,h7,h49,b86⟩:=aN.giveS (i:=2) b85 (zL (zL g0 e1) h5) rfl
      replace b86:aN G h48 (aK 9 K n3 n4 g7.L::aK 63 K m2 m3 g7.E::aK 2 K o0 o1 d5.M::aK 9 K m0 m1 d5.C::L) x7:=b86
      obtain ⟨h50,h8,h51,b87⟩:=aN.giveS (i:=2) b86 (zL (zL (zL g0 e1) h5) h7) rfl
      replace b87:aN G h50 (aK 9 K n3 n4 g7.L::aK 63 K m2 m3 g7.E::aK 9 K m0 m1 d5.C::L) x7:=b87
      obtain ⟨h52,i0,h53,b88⟩:=aN.giveS (i:=2) b87 (zL (zL (zL (zL g0 e1) h5) h7) h8) rfl
      replace b88:aN G h52 (aK 9 K n3 n4 g7.L::aK 63 K m2 m3 g7.E::L) x7:=b88
      obtain ⟨h54,i1,h55,b89⟩:=aN.giveS (i:=0) b88 (zL (zL (zL (zL (zL g0 e1) h5) h7) h8) i0) rfl
      replace b89:aN G h54 (aK 63 K m2 m3 g7.E::L) x7:=b89
      obtain ⟨h56,i2,h57,b90⟩:=aN.giveS (i:=0) b89 (zL (zL (zL (zL (zL (zL g0 e1) h5) h7) h8) i0) i1) rfl
      replace b90:aN G h56 (L) x7:=b90
      obtain ⟨g1,h58,hm⟩:=aJ hm
      refine aX (vs:=[zA (zEa d5 b81 b82 x5 x6 o0 o1 m0 m1),zA (zCa g7 n3 n4 m2 m3)]) Tryz.call19 rfl (nX (p:=⟨⟨d5.S.N,d5.S.I,d5.S.L,d5.S.E⟩,d5.M,d5.C⟩) (r_:=⟨g7.N,g7.I,g7.L,g7.E⟩) b90 (h47.mono (zL (zL (zL (zL h7 h8) i0) i1) i2)) (h49.mono (zL (zL (zL h8 i0) i1) i2)) (h51.mono (zL (zL i0 i1) i2)) (h53.mono (zL i1 i2)) (h55.mono i2) h57 h58) ?_
      rintro _ j44 ⟨b91,x8,x9,y0,y1,y2,y3,y4,y5,b13,b14,rfl,m4,y6⟩
      refine aD (aA ⟨fun _=>⟨_,(aN.weakK y6 (zL (zL (zL (zL (zL (zL h5 h7) h8) i0) i1) i2) m4))⟩,?_⟩)
      refine eS (i:=5) rfl (by kernel_rfl) ⟨_,(aN.weakK y6 (zL (zL (zL (zL (zL (zL h5 h7) h8) i0) i1) i2) m4))⟩ (fun _ _=>aF (v:=zT #[zA (zEa g1.1 x8 x9 y0 y1 y2 y3 y4 y5),zS b13 g1.2.1.length b14,i64 g1.2.2]) rfl) (eS (i:=6) rfl (by kernel_rfl) ⟨_,(aN.weakK y6 (zL (zL (zL (zL (zL (zL h5 h7) h8) i0) i1) i2) m4))⟩ (fun _ _=>bX rfl rfl) (eS (i:=7) rfl (by kernel_rfl) ⟨_,(aN.weakK y6 (zL (zL (zL (zL (zL (zL h5 h7) h8) i0) i1) i2) m4))⟩ (fun _ _=>bX rfl rfl) (eS (i:=8) rfl (by kernel_rfl) ⟨_,(aN.weakK y6 (zL (zL (zL (zL (zL (zL h5 h7) h8) i0) i1) i2) m4))⟩ (fun _ _=>bX rfl rfl) (bW (i:=9) (by kernel_rfl) rfl (cL (vs:=zK) Tryz.zeroValue48 y6 rfl (fun c80 j45 c81=>(aD (aA ⟨fun _=>⟨_,(aN.weakK c81 (zL (zL (zL (zL (zL (zL h5 h7) h8) i0) i1) i2) m4))⟩,?_⟩))))))))
      refine bW (i:=10) (by kernel_rfl) rfl (cM (i:=0) (ns:=(zE g1.1 x8 x9 y0 y1 y2 y3 y4 y5)) (us:=(zE g1.1 x8 x9 y0 y1 y2 y3 y4 y5)) Tryz.sizeOf48 c81 rfl rfl rfl rfl rfl (eD rfl) rfl rfl (fun h59 (b15:aN G b91 (box c80 48 (zE g1.1 x8 x9 y0 y1 y2 y3 y4 y5)::aK 9 K x8 x9 g1.1.S.L::aK 63 K y0 y1 g1.1.S.E::aK 2 K y2 y3 g1.1.M::aK 9 K y4 y5 g1.1.C::aK 31 b91 b13 b14 g1.2.1::L) h59)=>(aD (aA ⟨fun _=>⟨_,(aN.weakK b15 (zL (zL (zL (zL (zL (zL h5 h7) h8) i0) i1) i2) m4))⟩,?_⟩))))
      exact eS (i:=11) rfl (by kernel_rfl) ⟨_,(aN.weakK b15 (zL (zL (zL (zL (zL (zL h5 h7) h8) i0) i1) i2) m4))⟩ (fun _ _=>aG (v:=zS b13 g1.2.1.length b14) rfl) (eS (i:=12) rfl (by kernel_rfl) ⟨_,(aN.weakK b15 (zL (zL (zL (zL (zL (zL h5 h7) h8) i0) i1) i2) m4))⟩ (fun _ _=>aG (v:=i64 g1.2.2) rfl) (fT (by kernel_rfl) (aA ⟨b91,g1.1.S.N,g1.1.S.I,g1.1.S.L,g1.1.S.E,g1.1.M,g1.1.C,g1.2.1,g1.2.2,c80,x8,x9,y0,y1,y2,y3,y4,y5,b13,b14,(zL (zL (zL (zL (zL (zL (zL (zL g0 e1) h5) h7) h8) i0) i1) i2) m4),hm,(kY rfl),(kY rfl),rfl,rfl,rfl,(a75.mono (zL (zL (zL (zL (zL (zL h5 h7) h8) i0) i1) i2) m4)),(a74.mono (zL (zL (zL (zL (zL (zL (zL e1 h5) h7) h8) i0) i1) i2) m4)),(aN.arr 6 [5,4,3,2,1,0] b15 rfl)⟩)))
     ·refine cL (vs:=zK) Tryz.zeroValue48 b84 rfl (fun o4 y7 c82=>(aD (aA ⟨fun _=>⟨_,c82⟩,?_⟩)))
      refine bW (i:=4) (by kernel_rfl) rfl ?_
      obtain ⟨h60,i5,h61,b92⟩:=aN.giveS (i:=3) c82 (zL g0 e1) rfl
      replace b92:aN G h60 (box o4 48 zK::aK 9 K n3 n4 g7.L::aK 63 K m2 m3 g7.E::aK 63 K x5 x6 d5.S.E::aK 2 K o0 o1 d5.M::aK 9 K m0 m1 d5.C::L) y7:=b92
      obtain ⟨h62,i6,h63,b93⟩:=aN.giveS (i:=3) b92 (zL (zL g0 e1) i5) rfl
      replace b93:aN G h62 (box o4 48 zK::aK 9 K n3 n4 g7.L::aK 63 K m2 m3 g7.E::aK 2 K o0 o1 d5.M::aK 9 K m0 m1 d5.C::L) y7:=b93
      obtain ⟨h64,i7,h65,b94⟩:=aN.giveS (i:=3) b93 (zL (zL (zL g0 e1) i5) i6) rfl
      replace b94:aN G h64 (box o4 48 zK::aK 9 K n3 n4 g7.L::aK 63 K m2 m3 g7.E::aK 9 K m0 m1 d5.C::L) y7:=b94
      obtain ⟨h66,i8,h67,b95⟩:=aN.giveS (i:=3) b94 (zL (zL (zL (zL g0 e1) i5) i6) i7) rfl
      replace b95:aN G h66 (box o4 48 zK::aK 9 K n3 n4 g7.L::aK 63 K m2 m3 g7.E::L) y7:=b95
      obtain ⟨h68,i9,h69,b96⟩:=aN.giveS (i:=1) b95 (zL (zL (zL (zL (zL g0 e1) i5) i6) i7) i8) rfl
      replace b96:aN G h68 (box o4 48 zK::aK 63 K m2 m3 g7.E::L) y7:=b96
      obtain ⟨h70,j0,h71,b97⟩:=aN.giveS (i:=1) b96 (zL (zL (zL (zL (zL (zL g0 e1) i5) i6) i7) i8) i9) rfl
      replace b97:aN G h70 (box o4 48 zK::L) y7:=b97
      obtain ⟨g2,h72,hm⟩:=aJ hm
      refine aX (vs:=[zA (zEa d5 b81 b82 x5 x6 o0 o1 m0 m1),zA (zCa g7 n3 n4 m2 m3)]) Tryz.call19 rfl (nX (p:=⟨⟨d5.S.N,d5.S.I,d5.S.L,d5.S.E⟩,d5.M,d5.C⟩) (r_:=⟨g7.N,g7.I,g7.L,g7.E⟩) b97 (h61.mono (zL (zL (zL (zL i6 i7) i8) i9) j0)) (h63.mono (zL (zL (zL i7 i8) i9) j0)) (h65.mono (zL (zL i8 i9) j0)) (h67.mono (zL i9 j0)) (h69.mono j0) h71 h72) ?_
      rintro _ j46 ⟨b98,y8,y9,z0,z1,z2,z3,z4,z5,b16,b17,rfl,m9,z6⟩
      refine aD (aA ⟨fun _=>⟨_,(aN.weakK z6 (zL (zL (zL (zL (zL (zL i5 i6) i7) i8) i9) j0) m9))⟩,?_⟩)
      refine eS (i:=5) rfl (by kernel_rfl) ⟨_,(aN.weakK z6 (zL (zL (zL (zL (zL (zL i5 i6) i7) i8) i9) j0) m9))⟩ (fun _ _=>aF (v:=zT #[zA (zEa g2.1 y8 y9 z0 z1 z2 z3 z4 z5),zS b16 g2.2.1.length b17,i64 g2.2.2]) rfl) (eS (i:=6) rfl (by kernel_rfl) ⟨_,(aN.weakK z6 (zL (zL (zL (zL (zL (zL i5 i6) i7) i8) i9) j0) m9))⟩ (fun _ _=>bX rfl rfl) (eS (i:=7) rfl (by kernel_rfl) ⟨_,(aN.weakK z6 (zL (zL (zL (zL (zL (zL i5 i6) i7) i8) i9) j0) m9))⟩ (fun _ _=>bX rfl rfl) (eS (i:=8) rfl (by kernel_rfl) ⟨_,(aN.weakK z6 (zL (zL (zL (zL (zL (zL i5 i6) i7) i8) i9) j0) m9))⟩ (fun _ _=>bX rfl rfl) (bW (i:=10) (by kernel_rfl) rfl (cM (i:=5) (ns:=(zE g2.1 y8 y9 z0 z1 z2 z3 z4 z5)) (us:=(zE g2.1 y8 y9 z0 z1 z2 z3 z4 z5)) Tryz.sizeOf48 z6 rfl rfl rfl rfl rfl (eD rfl) rfl rfl (fun h73 (b18:aN G b98 (aK 9 K y8 y9 g2.1.S.L::aK 63 K z0 z1 g2.1.S.E::aK 2 K z2 z3 g2.1.M::aK 9 K z4 z5 g2.1.C::aK 31 b98 b16 b17 g2.2.1::box o4 48 (zE g2.1 y8 y9 z0 z1 z2 z3 z4 z5)::L) h73)=>(aD (aA ⟨fun _=>⟨_,(aN.weakK b18 (zL (zL (zL (zL (zL (zL i5 i6) i7) i8) i9) j0) m9))⟩,?_⟩))))))))
      exact eS (i:=11) rfl (by kernel_rfl) ⟨_,(aN.weakK b18 (zL (zL (zL (zL (zL (zL i5 i6) i7) i8) i9) j0) m9))⟩ (fun _ _=>aG (v:=zS b16 g2.2.1.length b17) rfl) (eS (i:=12) rfl (by kernel_rfl) ⟨_,(aN.weakK b18 (zL (zL (zL (zL (zL (zL i5 i6) i7) i8) i9) j0) m9))⟩ (fun _ _=>aG (v:=i64 g2.2.2) rfl) (fT (by kernel_rfl) (aA ⟨b98,g2.1.S.N,g2.1.S.I,g2.1.S.L,g2.1.S.E,g2.1.M,g2.1.C,g2.2.1,g2.2.2,o4,y8,y9,z0,z1,z2,z3,z4,z5,b16,b17,(zL (zL (zL (zL (zL (zL (zL (zL g0 e1) i5) i6) i7) i8) i9) j0) m9),hm,(kY rfl),(kY rfl),rfl,rfl,rfl,(a75.mono (zL (zL (zL (zL (zL (zL i5 i6) i7) i8) i9) j0) m9)),(a74.mono (zL (zL (zL (zL (zL (zL (zL e1 i5) i6) i7) i8) i9) j0) m9)),(aN.arr 5 [4,3,2,1,0] b18 rfl)⟩)))
    ·refine cL (vs:=zK) Tryz.zeroValue48 b83 rfl (fun o5 j47 c83=>(aD (aA ⟨fun _=>⟨_,c83⟩,?_⟩)))
     refine bW (i:=3) (by kernel_rfl) rfl ?_
     obtain ⟨i3,h74,hm⟩:=aJ hm
     refine aX (vs:=[zA (zCa aR a13 c14 a16 c17)]) Tryz.call8 rfl (lI c83 (h15.mono (zL g0 e1)) (h18.mono (zL g0 e1)) h74) ?_
     rintro _ z7 ⟨a76,a77,z8,z9,rfl,c84⟩
     refine aD (aA ⟨fun _=>⟨_,c84⟩,?_⟩)
     refine bW (i:=4) (by kernel_rfl) rfl ?_
     obtain ⟨h75,j1,h76,b99⟩:=aN.giveS (i:=3) c84 (zL g0 e1) rfl
     replace b99:aN G h75 (aK 9 K a76 a77 i3.L::aK 63 K z8 z9 i3.E::box o5 48 zK::aK 63 K x5 x6 d5.S.E::aK 2 K o0 o1 d5.M::aK 9 K m0 m1 d5.C::L) z7:=b99
     obtain ⟨h77,j2,h78,c00⟩:=aN.giveS (i:=3) b99 (zL (zL g0 e1) j1) rfl
     replace c00:aN G h77 (aK 9 K a76 a77 i3.L::aK 63 K z8 z9 i3.E::box o5 48 zK::aK 2 K o0 o1 d5.M::aK 9 K m0 m1 d5.C::L) z7:=c00
     obtain ⟨h79,j3,h80,c01⟩:=aN.giveS (i:=3) c00 (zL (zL (zL g0 e1) j1) j2) rfl
     replace c01:aN G h79 (aK 9 K a76 a77 i3.L::aK 63 K z8 z9 i3.E::box o5 48 zK::aK 9 K m0 m1 d5.C::L) z7:=c01
     obtain ⟨h81,j4,h82,c02⟩:=aN.giveS (i:=3) c01 (zL (zL (zL (zL g0 e1) j1) j2) j3) rfl
     replace c02:aN G h81 (aK 9 K a76 a77 i3.L::aK 63 K z8 z9 i3.E::box o5 48 zK::L) z7:=c02
     obtain ⟨h83,j5,h84,c03⟩:=aN.giveS (i:=0) c02 (zL (zL (zL (zL (zL g0 e1) j1) j2) j3) j4) rfl
     replace c03:aN G h83 (aK 63 K z8 z9 i3.E::box o5 48 zK::L) z7:=c03
     obtain ⟨h85,j6,h86,c04⟩:=aN.giveS (i:=0) c03 (zL (zL (zL (zL (zL (zL g0 e1) j1) j2) j3) j4) j5) rfl
     replace c04:aN G h85 (box o5 48 zK::L) z7:=c04
     obtain ⟨g3,h87,hm⟩:=aJ hm
     refine aX (vs:=[zA (zEa d5 b81 b82 x5 x6 o0 o1 m0 m1),zA (zCa i3 a76 a77 z8 z9)]) Tryz.call19 rfl (nX (p:=⟨⟨d5.S.N,d5.S.I,d5.S.L,d5.S.E⟩,d5.M,d5.C⟩) (r_:=⟨i3.N,i3.I,i3.L,i3.E⟩) c04 (h76.mono (zL (zL (zL (zL j2 j3) j4) j5) j6)) (h78.mono (zL (zL (zL j3 j4) j5) j6)) (h80.mono (zL (zL j4 j5) j6)) (h82.mono (zL j5 j6)) (h84.mono j6) h86 h87) ?_
     rintro _ j48 ⟨c05,a00,a01,a02,a03,a04,a05,a06,a07,a1147,b20,rfl,n0,a08⟩
     refine aD (aA ⟨fun _=>⟨_,(aN.weakK a08 (zL (zL (zL (zL (zL (zL j1 j2) j3) j4) j5) j6) n0))⟩,?_⟩)
     refine eS (i:=5) rfl (by kernel_rfl) ⟨_,(aN.weakK a08 (zL (zL (zL (zL (zL (zL j1 j2) j3) j4) j5) j6) n0))⟩ (fun _ _=>aF (v:=zT #[zA (zEa g3.1 a00 a01 a02 a03 a04 a05 a06 a07),zS a1147 g3.2.1.length b20,i64 g3.2.2]) rfl) (eS (i:=6) rfl (by kernel_rfl) ⟨_,(aN.weakK a08 (zL (zL (zL (zL (zL (zL j1 j2) j3) j4) j5) j6) n0))⟩ (fun _ _=>bX rfl rfl) (eS (i:=7) rfl (by kernel_rfl) ⟨_,(aN.weakK a08 (zL (zL (zL (zL (zL (zL j1 j2) j3) j4) j5) j6) n0))⟩ (fun _ _=>bX rfl rfl) (eS (i:=8) rfl (by kernel_rfl) ⟨_,(aN.weakK a08 (zL (zL (zL (zL (zL (zL j1 j2) j3) j4) j5) j6) n0))⟩ (fun _ _=>bX rfl rfl) (bW (i:=10) (by kernel_rfl) rfl (cM (i:=5) (ns:=(zE g3.1 a00 a01 a02 a03 a04 a05 a06 a07)) (us:=(zE g3.1 a00 a01 a02 a03 a04 a05 a06 a07)) Tryz.sizeOf48 a08 rfl rfl rfl rfl rfl (eD rfl) rfl rfl (fun h88 (b21:aN G c05 (aK 9 K a00 a01 g3.1.S.L::aK 63 K a02 a03 g3.1.S.E::aK 2 K a04 a05 g3.1.M::aK 9 K a06 a07 g3.1.C::aK 31 c05 a1147 b20 g3.2.1::box o5 48 (zE g3.1 a00 a01 a02 a03 a04 a05 a06 a07)::L) h88)=>(aD (aA ⟨fun _=>⟨_,(aN.weakK b21 (zL (zL (zL (zL (zL (zL j1 j2) j3) j4) j5) j6) n0))⟩,?_⟩))))))))
     exact eS (i:=11) rfl (by kernel_rfl) ⟨_,(aN.weakK b21 (zL (zL (zL (zL (zL (zL j1 j2) j3) j4) j5) j6) n0))⟩ (fun _ _=>aG (v:=zS a1147 g3.2.1.length b20) rfl) (eS (i:=12) rfl (by kernel_rfl) ⟨_,(aN.weakK b21 (zL (zL (zL (zL (zL (zL j1 j2) j3) j4) j5) j6) n0))⟩ (fun _ _=>aG (v:=i64 g3.2.2) rfl) (fT (by kernel_rfl) (aA ⟨c05,g3.1.S.N,g3.1.S.I,g3.1.S.L,g3.1.S.E,g3.1.M,g3.1.C,g3.2.1,g3.2.2,o5,a00,a01,a02,a03,a04,a05,a06,a07,a1147,b20,(zL (zL (zL (zL (zL (zL (zL (zL g0 e1) j1) j2) j3) j4) j5) j6) n0),hm,(kY rfl),(kY rfl),rfl,rfl,rfl,(a75.mono (zL (zL (zL (zL (zL (zL j1 j2) j3) j4) j5) j6) n0)),(a74.mono (zL (zL (zL (zL (zL (zL (zL e1 j1) j2) j3) j4) j5) j6) n0)),(aN.arr 5 [4,3,2,1,0] b21 rfl)⟩)))
   ·refine cL (vs:=zK) Tryz.zeroValue48 o3 rfl (fun o6 j49 c85=>(aD (aA ⟨fun _=>⟨_,c85⟩,?_⟩)))
    refine bW (i:=1) (by kernel_rfl) rfl ?_
    obtain ⟨h4,h89,hm⟩:=aJ hm
    refine aX (vs:=[zA (zEa aP a1 c2 a4 c5 a7 c8 a10 c11)]) Tryz.call20 rfl (oZ c85 (h3.mono (zL g0 e1)) (h6.mono (zL g0 e1)) (h9.mono (zL g0 e1)) (h12.mono (zL g0 e1)) h89) ?_
    rintro _ j50 ⟨h90,h91,c86,c87,c06,c07,a1164,b23,rfl,c88⟩
    refine aD (aA ⟨fun _=>⟨_,c88⟩,?_⟩)
    refine bW (i:=3) (by kernel_rfl) rfl ?_
    obtain ⟨i4,h92,hm⟩:=aJ hm
    refine aX (vs:=[zA (zCa aR a13 c14 a16 c17)]) Tryz.call8 rfl (lI c88 (h15.mono (zL g0 e1)) (h18.mono (zL g0 e1)) h92) ?_
    rintro _ a09 ⟨a78,a79,a11,a12,rfl,c89⟩
    refine aD (aA ⟨fun _=>⟨_,c89⟩,?_⟩)
    refine bW (i:=4) (by kernel_rfl) rfl ?_
    obtain ⟨h93,j7,h94,c08⟩:=aN.giveS (i:=2) c89 (zL g0 e1) rfl
    replace c08:aN G h93 (aK 9 K a78 a79 i4.L::aK 63 K a11 a12 i4.E::aK 63 K c86 c87 h4.S.E::aK 2 K c06 c07 h4.M::aK 9 K a1164 b23 h4.C::box o6 48 zK::L) a09:=c08
    obtain ⟨h95,j8,h96,c09⟩:=aN.giveS (i:=2) c08 (zL (zL g0 e1) j7) rfl
    replace c09:aN G h95 (aK 9 K a78 a79 i4.L::aK 63 K a11 a12 i4.E::aK 2 K c06 c07 h4.M::aK 9 K a1164 b23 h4.C::box o6 48 zK::L) a09:=c09
    obtain ⟨h97,j9,h98,c10⟩:=aN.giveS (i:=2) c09 (zL (zL (zL g0 e1) j7) j8) rfl
    replace c10:aN G h97 (aK 9 K a78 a79 i4.L::aK 63 K a11 a12 i4.E::aK 9 K a1164 b23 h4.C::box o6 48 zK::L) a09:=c10
    obtain ⟨h99,k0,i00,c12⟩:=aN.giveS (i:=2) c10 (zL (zL (zL (zL g0 e1) j7) j8) j9) rfl
    replace c12:aN G h99 (aK 9 K a78 a79 i4.L::aK 63 K a11 a12 i4.E::box o6 48 zK::L) a09:=c12
    obtain ⟨i01,k1,i02,c13⟩:=aN.giveS (i:=0) c12 (zL (zL (zL (zL (zL g0 e1) j7) j8) j9) k0) rfl
    replace c13:aN G i01 (aK 63 K a11 a12 i4.E::box o6 48 zK::L) a09:=c13
    obtain ⟨i03,k2,i04,c15⟩:=aN.giveS (i:=0) c13 (zL (zL (zL (zL (zL (zL g0 e1) j7) j8) j9) k0) k1) rfl
    replace c15:aN G i03 (box o6 48 zK::L) a09:=c15
    obtain ⟨g4,i05,hm⟩:=aJ hm
    refine aX (vs:=[zA (zEa h4 h90 h91 c86 c87 c06 c07 a1164 b23),zA (zCa i4 a78 a79 a11 a12)]) Tryz.call19 rfl (nX (p:=⟨⟨h4.S.N,h4.S.I,h4.S.L,h4.S.E⟩,h4.M,h4.C⟩) (r_:=⟨i4.N,i4.I,i4.L,i4.E⟩) c15 (h94.mono (zL (zL (zL (zL j8 j9) k0) k1) k2)) (h96.mono (zL (zL (zL j9 k0) k1) k2)) (h98.mono (zL (zL k0 k1) k2)) (i00.mono (zL k1 k2)) (i02.mono k2) i04 i05) ?_
    rintro _ j51 ⟨c16,a14,a15,a17,a18,a19,a20,a21,a22,b24,b25,rfl,n1,a23⟩
    refine aD (aA ⟨fun _=>⟨_,(aN.weakK a23 (zL (zL (zL (zL (zL (zL j7 j8) j9) k0) k1) k2) n1))⟩,?_⟩)
    refine eS (i:=5) rfl (by kernel_rfl) ⟨_,(aN.weakK a23 (zL (zL (zL (zL (zL (zL j7 j8) j9) k0) k1) k2) n1))⟩ (fun _ _=>aF (v:=zT #[zA (zEa g4.1 a14 a15 a17 a18 a19 a20 a21 a22),zS b24 g4.2.1.length b25,i64 g4.2.2]) rfl) (eS (i:=6) rfl (by kernel_rfl) ⟨_,(aN.weakK a23 (zL (zL (zL (zL (zL (zL j7 j8) j9) k0) k1) k2) n1))⟩ (fun _ _=>bX rfl rfl) (eS (i:=7) rfl (by kernel_rfl) ⟨_,(aN.weakK a23 (zL (zL (zL (zL (zL (zL j7 j8) j9) k0) k1) k2) n1))⟩ (fun _ _=>bX rfl rfl) (eS (i:=8) rfl (by kernel_rfl) ⟨_,(aN.weakK a23 (zL (zL (zL (zL (zL (zL j7 j8) j9) k0) k1) k2) n1))⟩ (fun _ _=>bX rfl rfl) (bW (i:=10) (by kernel_rfl) rfl (cM (i:=5) (ns:=(zE g4.1 a14 a15 a17 a18 a19 a20 a21 a22)) (us:=(zE g4.1 a14 a15 a17 a18 a19 a20 a21 a22)) Tryz.sizeOf48 a23 rfl rfl rfl rfl rfl (eD rfl) rfl rfl (fun i06 (b26:aN G c16 (aK 9 K a14 a15 g4.1.S.L::aK 63 K a17 a18 g4.1.S.E::aK 2 K a19 a20 g4.1.M::aK 9 K a21 a22 g4.1.C::aK 31 c16 b24 b25 g4.2.1::box o6 48 (zE g4.1 a14 a15 a17 a18 a19 a20 a21 a22)::L) i06)=>(aD (aA ⟨fun _=>⟨_,(aN.weakK b26 (zL (zL (zL (zL (zL (zL j7 j8) j9) k0) k1) k2) n1))⟩,?_⟩))))))))
    exact eS (i:=11) rfl (by kernel_rfl) ⟨_,(aN.weakK b26 (zL (zL (zL (zL (zL (zL j7 j8) j9) k0) k1) k2) n1))⟩ (fun _ _=>aG (v:=zS b24 g4.2.1.length b25) rfl) (eS (i:=12) rfl (by kernel_rfl) ⟨_,(aN.weakK b26 (zL (zL (zL (zL (zL (zL j7 j8) j9) k0) k1) k2) n1))⟩ (fun _ _=>aG (v:=i64 g4.2.2) rfl) (fT (by kernel_rfl) (aA ⟨c16,g4.1.S.N,g4.1.S.I,g4.1.S.L,g4.1.S.E,g4.1.M,g4.1.C,g4.2.1,g4.2.2,o6,a14,a15,a17,a18,a19,a20,a21,a22,b24,b25,(zL (zL (zL (zL (zL (zL (zL (zL g0 e1) j7) j8) j9) k0) k1) k2) n1),hm,(kY rfl),(kY rfl),rfl,rfl,rfl,(a75.mono (zL (zL (zL (zL (zL (zL j7 j8) j9) k0) k1) k2) n1)),(a74.mono (zL (zL (zL (zL (zL (zL (zL e1 j7) j8) j9) k0) k1) k2) n1)),(aN.arr 5 [4,3,2,1,0] b26 rfl)⟩)))
end Gv
