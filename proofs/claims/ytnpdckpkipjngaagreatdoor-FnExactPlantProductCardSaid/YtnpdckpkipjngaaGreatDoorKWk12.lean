/- Walks, printed by program. -/
import Derived.Test.YtnpdckpkipjngaaGreatDoorKWk4
import Derived.Test.YtnpdckpkipjngaaGreatDoorKWk5
import Derived.Test.YtnpdckpkipjngaaGreatDoorKWk6
import Derived.Test.YtnpdckpkipjngaaGreatDoorKWk7
import Derived.Test.YtnpdckpkipjngaaGreatDoorKWk8
import Derived.Test.YtnpdckpkipjngaaGreatDoorKWk11
set_option linter.all false
namespace Gv
open Go.Value renaming slice→zS,bool→zB,pointer→zP,agg→zA,tuple→zT,map→zM
open Option.some renaming inj→zI
open Gv.Hp renaming le_trans→zL
open Go Go.Proofs
set_option maxRecDepth 20000
set_option maxHeartbeats 40000000
variable {G:Env} {K Kf:Hp} {L:List nD} {w:World} {b1 c3 c6 c9 c12 c15 c18 c21 c24 c26 b33 c35 c2 c5 c8 c11 c14 c17 c20 c23 c4:Nat} {a2 a5 a8 a11 a14 a17 a20 a23 a25 a28 a34 a36 a1 a4 a7 a10 a13 a16 a19 a22 a3:Option Addr}
theorem aDr {x0_:Int} {x1_:Int} {x2_:(List aZ)} {x3_:(List Edge)} {x4_:(List Int)} {x5_:(List aZ)} {x6_:Int} {x7_:Int} {x8_:(List aZ)} {x9_:(List Edge)} {x10_:(List (List Int))} {x11_M:(List ((Int × Int) × Int))} {r22:Nat} {x12_:(List (List aZ))} {pair:(List Int)} {k29:Nat} {do_c0M:(List ((Int × Int) × Int))} {r31:Nat} {do_c1_:(List lS)} {do_c2_:Int} {k37:Nat} {R:(List lS)} (hs:aN G K (aK 31 Kf a20 c21 x10_::gX r22 x11_M::aK 22 Kf a23 c24 x12_::box b1 98 [i64 x0_,i64 x1_,zS a2 x2_.length c3,zS a5 x3_.length c6,zS a8 x4_.length c9,zS a11 x5_.length c12,i64 x6_,i64 x7_,zS a14 x8_.length c15,zS a17 x9_.length c18,zS a20 x10_.length c21,zM (some r22),zS a23 x12_.length c24]::aK 70 K a34 c35 do_c1_::box b33 68 [zS a34 do_c1_.length c35]::L) w) (hKf:Hp.le Kf K) (h4:cJ K a2 c3 x2_) (h7:cJ K a5 c6 x3_) (h10:cJ K a8 c9 x4_) (h13:cJ K a11 c12 x5_) (h16:cJ K a14 c15 x8_) (h19:cJ K a17 c18 x9_) (h27:cJ K a25 c26 pair) (h30:nY K a28 k29 [zM (some r31)]) (h32:rdM K r31 do_c0M) (h38:nY K a36 k37 [i64 do_c2_]) (hm:lV x0_ x1_ x2_ x3_ x4_ x5_ x6_ x7_ x8_ x9_ x10_ x11_M x12_ pair do_c0M do_c1_ do_c2_=some R):
  Calls Tryz.prog 99 ([zP (some ⟨b1,0,none⟩),zS a25 pair.length c26,Value.func (.func 104) #[] #[cS a28 k29,zP (some ⟨b33,0,none⟩),cS a36 k37]]:List Value).toArray w (gV fun v w'=>∃ (ra0:Option Addr) (rc0:Nat),v=zT #[]∧aN G K (aK 31 Kf a20 c21 x10_::gX r22 x11_M::aK 22 Kf a23 c24 x12_::box b1 98 [i64 x0_,i64 x1_,zS a2 x2_.length c3,zS a5 x3_.length c6,zS a8 x4_.length c9,zS a11 x5_.length c12,i64 x6_,i64 x7_,zS a14 x8_.length c15,zS a17 x9_.length c18,zS a20 x10_.length c21,zM (some r22),zS a23 x12_.length c24]::aK 70 K ra0 rc0 R::box b33 68 [zS ra0 R.length rc0]::L) w'):=by
 refine aW Tryz.func99 rfl (by kernel_rfl) (by show (3:Nat)≤56;decide) ?_
 unfold lV at hm
 refine aH ?_
 obtain ⟨e6,b9,e7,e0,e8⟩:=aN.lendB (i:=3) hs rfl
 refine hJ (C:=fun w'=>∃ L',aN G e6 L' w') [(0,0),(1,0),(2,0),(3,0),(4,0),(5,0),(6,0),(7,0),(10,0),(8,1),(9,0)] bQ (by kernel_rfl) (fun _ hg=>⟨_,aN.mono e0 hg⟩) (fun i5 e9=>?_)
 have b7:=aN.mono e0 e9
 refine cD rfl (fun _ _=>aF (v:=zP (some ⟨b1,0,none⟩)) rfl) (cD rfl (fun _ _=>eR rfl) (cD rfl (fun _ _=>bD (t':=0) aFt rfl rfl) (cD rfl (fun _ _=>bD (t':=0) kK rfl rfl) (cD rfl (fun _ ⟨_,b7⟩=>iU (t:=0) (vs:=[i64 x0_,i64 x1_,zS a2 x2_.length c3,zS a5 x3_.length c6]) kE b7 e7 rfl rfl rfl) (cD rfl (fun _ _=>aF (v:=zS a25 pair.length c26) rfl) ?_)))))
 obtain ⟨f0,e1,hm⟩:=aJ hm
 refine cD rfl (fun _ _=>cV cG rfl (h27.mono b9) rfl rfl rfl e1) ?_
 obtain ⟨i6,f1,f2⟩:=cJ.el (sz:=1) rfl h27 e1
 cases f2
 refine cD rfl (fun _ ⟨_,b7⟩=>bP (t:=0) dF b7 (f1.mono b9) rfl rfl) (cD rfl (fun _ _=>aF (v:=i64 0) rfl) (nZ rfl ?_))
 obtain ⟨b2,f3,hm⟩:=aJ hm
 refine aX (vs:=[zA #[i64 x0_,i64 x1_,zS a2 x2_.length c3,zS a5 x3_.length c6],i64 f0]) Tryz.call144 rfl (aFk (t:=⟨x0_,x1_,x2_,x3_⟩) b7 (h4.mono b9) (h7.mono b9) f3) ?_
 rintro _ i7 ⟨b3,b4,rfl,e2⟩
 refine aD (aA ⟨⟨_,e2⟩,?_⟩)
 refine cD rfl (fun _ _=>bR (len:=b2.length) cZ rfl) (qQ ?_)
 have f4:=e8 _ _ e2
 refine aA (bJ (fun f w=>∃ (c0:List lS) (c1:Option Addr) (c2:Nat),mB c0=some R∧aN G K (aK 70 K c1 c2 c0::box b1 98 [i64 x0_,i64 x1_,zS a2 x2_.length c3,zS a5 x3_.length c6,zS a8 x4_.length c9,zS a11 x5_.length c12,i64 x6_,i64 x7_,zS a14 x8_.length c15,zS a17 x9_.length c18,zS a20 x10_.length c21,zM (some r22),zS a23 x12_.length c24]::aK 31 Kf a20 c21 x10_::gX r22 x11_M::aK 22 Kf a23 c24 x12_::box b33 68 [zS c1 c0.length c2]::L) w) ?_ ?_)
 ·rintro f i8 ⟨c0,c1,c2,hm,f5⟩
  unfold mB at hm
  cases zI hm
  exact aDA Tryz.results99 ⟨c1,c2,rfl,(aN.arr 5 [2,3,4,1,0] f5 rfl)⟩
 obtain ⟨i9,f7,hm⟩:=aJ hm
 refine cP f7 (fun (s:(List lS × Int)) f w=>match s with|(a4,b5)=>∃ (a7:Option Addr) (a9:Nat),f 0=zP (some ⟨b1,0,none⟩)∧f 1=zS a25 pair.length c26∧f 2=Value.func (.func 104) #[] #[cS a28 k29,zP (some ⟨b33,0,none⟩),cS a36 k37]∧f 19=zS b3 b2.length b4∧f 20=i64 (b2.length:Int)∧f 21=i64 b5∧aN G K (box b1 98 [i64 x0_,i64 x1_,zS a2 x2_.length c3,zS a5 x3_.length c6,zS a8 x4_.length c9,zS a11 x5_.length c12,i64 x6_,i64 x7_,zS a14 x8_.length c15,zS a17 x9_.length c18,zS a20 x10_.length c21,zM (some r22),zS a23 x12_.length c24]::aK 63 K b3 b4 b2::aK 31 Kf a20 c21 x10_::gX r22 x11_M::aK 22 Kf a23 c24 x12_::aK 70 K a7 a9 a4::box b33 68 [zS a7 a4.length a9]::L) w) ?_ ?_
 ·exact ⟨a34,c35,rfl,rfl,rfl,rfl,rfl,rfl,f4⟩
 ·rintro ⟨a4,b5⟩ e3 f j0 a1 f8 ⟨a7,a9,c4,d2,d3,d4,d5,c5,c7⟩
  replace a1:gH x2_ x6_ x7_ x8_ x9_ pair do_c0M do_c2_ b2 a4 b5=some e3:=a1
  unfold gH at a1
  refine aH (aC (aB (cK c5 d5) (aD (aA (aH ?_)))))
  rcases aM a1 with ⟨d6,a1⟩|⟨d6,a1⟩
  ·refine aQ d6 rfl (aY (aA (aH (bJ (fun f w=>∃ (b8:List lS) (c8:Option Addr) (d0:Nat),hX b5 b8=some e3∧f 0=zP (some ⟨b1,0,none⟩)∧f 1=zS a25 pair.length c26∧f 2=Value.func (.func 104) #[] #[cS a28 k29,zP (some ⟨b33,0,none⟩),cS a36 k37]∧f 19=zS b3 b2.length b4∧f 20=i64 (b2.length:Int)∧f 21=i64 b5∧aN G K (aK 70 K c8 d0 b8::box b1 98 [i64 x0_,i64 x1_,zS a2 x2_.length c3,zS a5 x3_.length c6,zS a8 x4_.length c9,zS a11 x5_.length c12,i64 x6_,i64 x7_,zS a14 x8_.length c15,zS a17 x9_.length c18,zS a20 x10_.length c21,zM (some r22),zS a23 x12_.length c24]::aK 63 K b3 b4 b2::aK 31 Kf a20 c21 x10_::gX r22 x11_M::aK 22 Kf a23 c24 x12_::box b33 68 [zS c8 b8.length d0]::L) w) ?_ ?_))))
   ·rintro f j1 ⟨b8,c8,d0,a1,f9,g0,g1,g2,g3,g4,g5⟩
    unfold hX at a1
    exact aA (aC (aB (cY g4 rfl) (aB (aF (v:=i64 (wr (b5+1))) rfl) (aD (aA ⟨(b8,wr (b5+1)),(zI a1).symm,c8,d0,f9,g0,g1,g2,g3,rfl,(aN.arr 6 [1,2,3,4,5,0] g5 rfl)⟩)))))
   refine aH (aC ?_)
   obtain ⟨a0,d7,a1⟩:=aJ a1
   have g6:=dH c7 (i:=1) rfl d7
   refine aB (eY cZ rfl g6 d4 rfl c5 d7) (aB (aCA (t:=0) (vs:=[i64 a0.F,i64 a0.B,i64 a0.To]) oC c7 (i:=1) rfl d7 rfl rfl rfl rfl) (cL (vs:=[i64 0,i64 0,i64 0]) Tryz.zeroValue63 c7 rfl (fun d1 j2 g7=>(cM (i:=0) (ns:=[i64 a0.F,i64 a0.B,i64 a0.To]) (us:=[i64 a0.F,i64 a0.B,i64 a0.To]) Tryz.sizeOf63 g7 rfl rfl rfl rfl rfl (eD rfl) rfl rfl (fun g8 (a6:aN G K (box d1 63 [i64 a0.F,i64 a0.B,i64 a0.To]::box b1 98 [i64 x0_,i64 x1_,zS a2 x2_.length c3,zS a5 x3_.length c6,zS a8 x4_.length c9,zS a11 x5_.length c12,i64 x6_,i64 x7_,zS a14 x8_.length c15,zS a17 x9_.length c18,zS a20 x10_.length c21,zM (some r22),zS a23 x12_.length c24]::aK 63 K b3 b4 b2::aK 31 Kf a20 c21 x10_::gX r22 x11_M::aK 22 Kf a23 c24 x12_::aK 70 K a7 a9 a4::box b33 68 [zS a7 a4.length a9]::L) g8)=>(aD (aA (aH (cW (C:=fun w'=>aN G K (box d1 63 [i64 a0.F,i64 a0.B,i64 a0.To]::box b1 98 [i64 x0_,i64 x1_,zS a2 x2_.length c3,zS a5 x3_.length c6,zS a8 x4_.length c9,zS a11 x5_.length c12,i64 x6_,i64 x7_,zS a14 x8_.length c15,zS a17 x9_.length c18,zS a20 x10_.length c21,zM (some r22),zS a23 x12_.length c24]::aK 63 K b3 b4 b2::aK 31 Kf a20 c21 x10_::gX r22 x11_M::aK 22 Kf a23 c24 x12_::aK 70 K a7 a9 a4::box b33 68 [zS a7 a4.length a9]::L) w') bQ (by kernel_rfl) (aN.mono a6 (dE.drew _)) (aT (fun _ a6=>aF c4) (aT (fun _ a6=>eR rfl) (aT (fun _ a6=>bD (t':=0) aFt rfl rfl) (aT (fun _ a6=>bD (t':=0) kK rfl rfl) (aT (fun _ a6=>bD (t':=2) iO rfl rfl) (aT (fun _ a6=>bY jK a6 (i:=1) rfl rfl rfl) (aT (fun _ a6=>bD (t':=1) gO rfl rfl) (aT (fun _ a6=>bY dF a6 (i:=0) rfl rfl rfl) ?_)))))))))))))))))
   obtain ⟨b6,e4,a1⟩:=aJ a1
   refine aT (fun _ a6=>cV cE rfl h4 rfl rfl rfl e4) ?_
   obtain ⟨j3,g9,h0⟩:=cJ.el (sz:=1) rfl h4 e4
   cases h0
   refine aT (fun _ a6=>bP (t:=0) qR a6 g9 rfl rfl) (aT (fun _ a6=>aG (v:=cR b6) rfl) (dD (fun j4 a3=>(aA (aH (cW (C:=fun w'=>aN G K (box d1 63 [i64 a0.F,i64 a0.B,i64 a0.To]::box b1 98 [i64 x0_,i64 x1_,zS a2 x2_.length c3,zS a5 x3_.length c6,zS a8 x4_.length c9,zS a11 x5_.length c12,i64 x6_,i64 x7_,zS a14 x8_.length c15,zS a17 x9_.length c18,zS a20 x10_.length c21,zM (some r22),zS a23 x12_.length c24]::aK 63 K b3 b4 b2::aK 31 Kf a20 c21 x10_::gX r22 x11_M::aK 22 Kf a23 c24 x12_::aK 70 K a7 a9 a4::box b33 68 [zS a7 a4.length a9]::L) w') bQ (by kernel_rfl) (aN.mono a3 (dE.drew _)) (aT (fun _ a3=>aF c4) (aT (fun _ a3=>eR rfl) (aT (fun _ a3=>bD (t':=6) aLJ rfl rfl) (aT (fun _ a3=>dO (us:=[i64 x6_,i64 x7_,zS a14 x8_.length c15,zS a17 x9_.length c18]) kE a3 (i:=1) rfl rfl rfl rfl) (aT (fun _ a3=>aF d2) ?_)))))))))))
   obtain ⟨h1,e5,a1⟩:=aJ a1
   refine aT (fun _ a3=>cV cG rfl h27 rfl rfl rfl e5) ?_
   obtain ⟨j5,h2,h3⟩:=cJ.el (sz:=1) rfl h27 e5
   cases h3
   refine aT (fun _ a3=>bP (t:=0) dF a3 h2 rfl rfl) (aT (fun _ a3=>aF (v:=cR b6) rfl) ?_)
   obtain ⟨b0,h5,a1⟩:=aJ a1
   refine iV (vs:=[zA #[i64 x6_,i64 x7_,zS a14 x8_.length c15,zS a17 x9_.length c18],i64 h1,cR b6]) (v:=zT #[i64 b0.1,zB b0.2]) Tryz.call145 rfl (fun _ a3=>(aDq (t:=⟨x6_,x7_,x8_,x9_⟩) a3 h16 h19 h5)) (aT (fun _ a3=>aF (v:=zT #[i64 b0.1,zB b0.2]) rfl) (aT (fun _ a3=>bX rfl rfl) (aT (fun _ a3=>bX rfl rfl) (aT (fun _ a3=>aG (v:=i64 b0.1) rfl) (aT (fun _ a3=>aG (v:=zB b0.2) rfl) (dD (fun h6 d8=>(aA (aH (aC (aB (aF (v:=zB b0.2) rfl) (aD (aA ?_)))))))))))))
   rcases aM a1 with ⟨d9,a1⟩|⟨d9,a1⟩
   ·refine aQ d9 rfl (aC (aB (aF d3) (aB (aF (v:=cR b6) rfl) (aB (bD (t':=2) lY rfl rfl) (aB (bY dF d8 (i:=0) rfl rfl rfl) (aB (aF (v:=i64 b0.1) rfl) (aB (aEN (vs:=[(0,i64 a0.To),(1,i64 b0.1)]) (cs:=[i64 a0.To,i64 b0.1]) aGh aIZ rfl (by kernel_rfl)) ?_)))))))
    have h8:aN G K (aK 70 K a7 a9 a4::box b33 68 [zS a7 a4.length a9]::box d1 63 [i64 a0.F,i64 a0.B,i64 a0.To]::box b1 98 [i64 x0_,i64 x1_,zS a2 x2_.length c3,zS a5 x3_.length c6,zS a8 x4_.length c9,zS a11 x5_.length c12,i64 x6_,i64 x7_,zS a14 x8_.length c15,zS a17 x9_.length c18,zS a20 x10_.length c21,zM (some r22),zS a23 x12_.length c24]::aK 63 K b3 b4 b2::aK 31 Kf a20 c21 x10_::gX r22 x11_M::aK 22 Kf a23 c24 x12_::L) h6:=(aN.arr 8 [6,7,0,1,2,3,4,5] d8 rfl)
    obtain ⟨h9,i0,a1⟩:=aJ a1
    refine tZ (vs:=[cR b6,zA #[i64 a0.To,i64 b0.1]]) (caps:=[cS a28 k29,zP (some ⟨b33,0,none⟩),cS a36 k37]) (us:=[cR b6,zA #[i64 a0.To,i64 b0.1],cS a28 k29,zP (some ⟨b33,0,none⟩),cS a36 k37]) rfl Tryz.call104 rfl rfl (aBX (to_:=⟨a0.To,b0.1⟩) h8 h30 h32 h38 i0) ?_
    rintro _ j6 ⟨i1,i2,rfl,i3⟩
    exact aD (bO (aA ⟨h9,i1,i2,a1,c4,d2,d3,d4,d5,c5,(aN.arr 8 [0,3,4,5,6,7,1] i3 rfl)⟩))
   ·exact aO d9 rfl (aY (bO (aA ⟨a4,a7,a9,a1,c4,d2,d3,d4,d5,c5,(aN.arr 7 [6,1,2,3,4,5] d8 rfl)⟩)))
  ·refine aO d6 rfl (cN (bB (bB ?_)))
   have i4:=f8 _ (zI a1).symm
   subst i4
   have hm:(mB a4)=some R:=hm
   exact bS (aA ⟨a4,a7,a9,hm,(aN.arr 6 [5,0,2,3,4] c7 rfl)⟩)
theorem aBY {x0_:Int} {x1_:Int} {x2_:(List aZ)} {x3_:(List Edge)} {x4_:(List Int)} {x5_:(List aZ)} {x6_:Int} {x7_:Int} {x8_:(List aZ)} {x9_:(List Edge)} {x10_:(List (List Int))} {x11_M:(List ((Int × Int) × Int))} {r22:Nat} {x12_:(List (List aZ))} {keep:(List Bool)} {R:(cH × (List (List Int)))} (hs:aN G K (aK 31 Kf a20 c21 x10_::gX r22 x11_M::aK 22 Kf a23 c24 x12_::box b1 98 [i64 x0_,i64 x1_,zS a2 x2_.length c3,zS a5 x3_.length c6,zS a8 x4_.length c9,zS a11 x5_.length c12,i64 x6_,i64 x7_,zS a14 x8_.length c15,zS a17 x9_.length c18,zS a20 x10_.length c21,zM (some r22),zS a23 x12_.length c24]::L) w) (hKf:Hp.le Kf K) (h4:cJ K a2 c3 x2_) (h7:cJ K a5 c6 x3_) (h10:cJ K a8 c9 x4_) (h13:cJ K a11 c12 x5_) (h16:cJ K a14 c15 x8_) (h19:cJ K a17 c18 x9_) (h27:cJ K a25 c26 keep) (hm:kJ x0_ x1_ x2_ x3_ x4_ x5_ x6_ x7_ x8_ x9_ x10_ x11_M x12_ keep=some R):
  Calls Tryz.prog 56 ([zP (some ⟨b1,0,none⟩),zS a25 keep.length c26]:List Value).toArray w (gV fun v w'=>∃ (ra0:Option Addr) (rc0:Nat) (ra1:Option Addr) (rc1:Nat) (ra2:Option Addr) (rc2:Nat) (rh3:List (Dp.Hd (List Int))),v=zT #[zA (zCa R.1 ra0 rc0 ra1 rc1),zS ra2 R.2.length rc2]∧List.length rh3=List.length R.2∧aN G K (aK 9 K ra0 rc0 R.1.L::aK 63 K ra1 rc1 R.1.E::aK 31 K ra2 rc2 (bZ rh3 R.2)::rows [2] rh3 R.2::aK 31 Kf a20 c21 x10_::gX r22 x11_M::aK 22 Kf a23 c24 x12_::box b1 98 [i64 x0_,i64 x1_,zS a2 x2_.length c3,zS a5 x3_.length c6,zS a8 x4_.length c9,zS a11 x5_.length c12,i64 x6_,i64 x7_,zS a14 x8_.length c15,zS a17 x9_.length c18,zS a20 x10_.length c21,zM (some r22),zS a23 x12_.length c24]::L) w'):=by
 refine aW Tryz.func56 rfl (by kernel_rfl) (by show (2:Nat)≤94;decide) ?_
 unfold kJ at hm
 refine aH (aC (cL (vs:=zG) Tryz.zeroValue30 hs rfl (fun a1 n1 k3=>(aB (aG (v:=zS none 0 0) rfl) (aD (aA (aH (aC (aB (aG (v:=zS none 0 0) rfl) (aD (aA (aH (aH (aC (aB (aF (v:=zP (some ⟨b1,0,none⟩)) rfl) (aB (eR rfl) (aB (bD (t':=10) aCd rfl rfl) (aB (bY uD k3 (i:=4) rfl rfl rfl) (aB (bR (len:=x10_.length) eQ rfl) (aB (aF (v:=i64 0) rfl) (aD (aA (bJ (fun f w=>∃ (d6:List (List Int)) (a3:Option Addr) (a4:Nat) (f7:List (Dp.Hd (List Int))),iJ x0_ x1_ x2_ x3_ x4_ x5_ x6_ x7_ x8_ x9_ x10_ x11_M x12_ d6=some R∧f 0=zP (some ⟨b1,0,none⟩)∧f 4=zP (some ⟨a1,0,none⟩)∧f 6=zS a3 d6.length a4∧List.length f7=List.length d6∧aN G K (aK 31 K a3 a4 (bZ f7 d6)::rows [2] f7 d6::box a1 30 zG::aK 31 Kf a20 c21 x10_::gX r22 x11_M::aK 22 Kf a23 c24 x12_::box b1 98 [i64 x0_,i64 x1_,zS a2 x2_.length c3,zS a5 x3_.length c6,zS a8 x4_.length c9,zS a11 x5_.length c12,i64 x6_,i64 x7_,zS a14 x8_.length c15,zS a17 x9_.length c18,zS a20 x10_.length c21,zM (some r22),zS a23 x12_.length c24]::L) w) ?_ ?_)))))))))))))))))))))))
 ·rintro f y6 ⟨d6,a3,a4,f7,hm,n2,n3,g9,n4,n5⟩
  unfold iJ at hm
  refine aA (aH (aC (aB (aF g9) ?_)))
  obtain ⟨a0,n6,hm⟩:=aJ hm
  refine aX (vs:=[zS a3 d6.length a4,Value.func (.func 103) #[] #[]]) Tryz.call102 rfl (aMe n5 n4 n6) ?_
  rintro _ y7 ⟨a7,rfl,k4,c4,n7⟩
  refine aD (aA (aH (aC (aMU (Int × Int) Int n7 ?_))))
  intro a9 n8 (n9:aN G K (gX a9 ([]:(List ((Int × Int) × Int)))::aK 31 K a3 a4 (bZ a7 a0)::rows [2] a7 a0::box a1 30 zG::aK 31 Kf a20 c21 x10_::gX r22 x11_M::aK 22 Kf a23 c24 x12_::box b1 98 [i64 x0_,i64 x1_,zS a2 x2_.length c3,zS a5 x3_.length c6,zS a8 x4_.length c9,zS a11 x5_.length c12,i64 x6_,i64 x7_,zS a14 x8_.length c15,zS a17 x9_.length c18,zS a20 x10_.length c21,zM (some r22),zS a23 x12_.length c24]::L) n8)
  refine cL (vs:=[zM none]) Tryz.zeroValue95 n9 rfl (fun b4 y8 o0=>(cM (i:=0) (ns:=[zM (some a9)]) (us:=[zM (some a9)]) Tryz.sizeOf95 o0 rfl rfl rfl rfl rfl (eD rfl) rfl rfl ?_))
  intro o1 (o2:aN G K (box b4 95 [zM (some a9)]::gX a9 ([]:(List ((Int × Int) × Int)))::aK 31 K a3 a4 (bZ a7 a0)::rows [2] a7 a0::box a1 30 zG::aK 31 Kf a20 c21 x10_::gX r22 x11_M::aK 22 Kf a23 c24 x12_::box b1 98 [i64 x0_,i64 x1_,zS a2 x2_.length c3,zS a5 x3_.length c6,zS a8 x4_.length c9,zS a11 x5_.length c12,i64 x6_,i64 x7_,zS a14 x8_.length c15,zS a17 x9_.length c18,zS a20 x10_.length c21,zM (some r22),zS a23 x12_.length c24]::L) o1)
  refine aD (aA (aH (aH (aC (aB (aF (v:=zS a3 a0.length a4) (Eq.trans g9 (congrArg (fun n=>zS a3 n a4) k4))) (aB (bR (len:=a0.length) eQ rfl) (aB (aF (v:=i64 0) rfl) (aD (aA (bJ (fun f w=>∃ (b5:(List ((Int × Int) × Int))),iI x0_ x1_ x2_ x3_ x4_ x5_ x6_ x7_ x8_ x9_ x10_ x11_M x12_ a0 b5=some R∧f 0=zP (some ⟨b1,0,none⟩)∧f 4=zP (some ⟨a1,0,none⟩)∧f 6=zS a3 a0.length a4∧f 9=zP (some ⟨b4,0,none⟩)∧aN G K (box b4 95 [zM (some a9)]::gX a9 b5::aK 31 K a3 a4 (bZ a7 a0)::rows [2] a7 a0::box a1 30 zG::aK 31 Kf a20 c21 x10_::gX r22 x11_M::aK 22 Kf a23 c24 x12_::box b1 98 [i64 x0_,i64 x1_,zS a2 x2_.length c3,zS a5 x3_.length c6,zS a8 x4_.length c9,zS a11 x5_.length c12,i64 x6_,i64 x7_,zS a14 x8_.length c15,zS a17 x9_.length c18,zS a20 x10_.length c21,zM (some r22),zS a23 x12_.length c24]::L) w) ?_ ?_))))))))))
  ·rintro f y9 ⟨b5,hm,o3,o4,k5,o5,o6⟩
   unfold iI at hm
   refine aA (aH (aC (cL (vs:=[zS none 0 0]) Tryz.zeroValue68 o6 rfl (fun c5 z0 o7=>(aD (aA (aH (aH (aC (aB (aF k5) (aB (bR (len:=a0.length) eQ rfl) (aB (aF (v:=i64 0) rfl) (aD (aA (bJ (fun f w=>∃ (d0:List lS) (d7:Option Addr) (d8:Nat),iH x1_ x2_ x7_ a0 b5 d0=some R∧f 0=zP (some ⟨b1,0,none⟩)∧f 4=zP (some ⟨a1,0,none⟩)∧f 6=zS a3 a0.length a4∧f 9=zP (some ⟨b4,0,none⟩)∧f 12=zP (some ⟨c5,0,none⟩)∧aN G K (aK 70 K d7 d8 d0::box c5 68 [zS d7 d0.length d8]::box b4 95 [zM (some a9)]::gX a9 b5::aK 31 K a3 a4 (bZ a7 a0)::rows [2] a7 a0::box a1 30 zG::aK 31 Kf a20 c21 x10_::gX r22 x11_M::aK 22 Kf a23 c24 x12_::box b1 98 [i64 x0_,i64 x1_,zS a2 x2_.length c3,zS a5 x3_.length c6,zS a8 x4_.length c9,zS a11 x5_.length c12,i64 x6_,i64 x7_,zS a14 x8_.length c15,zS a17 x9_.length c18,zS a20 x10_.length c21,zM (some r22),zS a23 x12_.length c24]::L) w) ?_ ?_)))))))))))))))
   ·rintro f z1 ⟨d0,d7,d8,hm,h0,k6,k7,o8,o9,b0⟩
    unfold iH at hm
    refine aA (aH (cW (C:=fun w'=>aN G K (aK 70 K d7 d8 d0::box c5 68 [zS d7 d0.length d8]::box b4 95 [zM (some a9)]::gX a9 b5::aK 31 K a3 a4 (bZ a7 a0)::rows [2] a7 a0::box a1 30 zG::aK 31 Kf a20 c21 x10_::gX r22 x11_M::aK 22 Kf a23 c24 x12_::box b1 98 [i64 x0_,i64 x1_,zS a2 x2_.length c3,zS a5 x3_.length c6,zS a8 x4_.length c9,zS a11 x5_.length c12,i64 x6_,i64 x7_,zS a14 x8_.length c15,zS a17 x9_.length c18,zS a20 x10_.length c21,zM (some r22),zS a23 x12_.length c24]::L) w') bQ (by kernel_rfl) (aN.mono b0 (dE.drew _)) (aT (fun _ b0=>bY sc_95 b0 (i:=2) rfl o8 rfl) (aT (fun _ b0=>aF h0) (aT (fun _ b0=>eR rfl) (aT (fun _ b0=>bD (t':=0) aFt rfl rfl) (aT (fun _ b0=>bD (t':=0) kK rfl rfl) (aT (fun _ b0=>bD (t':=1) wV rfl rfl) (aT (fun _ b0=>bY dF b0 (i:=10) rfl rfl rfl) (aT (fun _ b0=>aF h0) (aT (fun _ b0=>eR rfl) (aT (fun _ b0=>bD (t':=6) aLJ rfl rfl) (aT (fun _ b0=>bD (t':=7) wV rfl rfl) (aT (fun _ b0=>bY dF b0 (i:=10) rfl rfl rfl) (aT (fun _ b0=>aEN (vs:=[(0,i64 x1_),(1,i64 x7_)]) (cs:=[i64 x1_,i64 x7_]) aGh aIZ rfl (by kernel_rfl)) (aT (fun _ b0=>R_look1 (kv:=b5) (k:=⟨x1_,x7_⟩) (z:=(0:Int)) Tryz.runUnderlying95 aJa Tryz.zeroValue2 b0 (i:=3) rfl rfl rfl) (aT (fun _ b0=>aG (v:=i64 ((mF b5 ⟨x1_,x7_⟩).getD 0)) rfl) (dD (fun z2 p0=>(aA (aH ?_)))))))))))))))))))))
    obtain ⟨z3,k8,p1,p2,p3⟩:=aN.lendB (i:=1) p0 rfl
    obtain ⟨k9,h1,p4,l0,p5⟩:=aN.lendB (i:=9) p2 rfl
    refine hJ (C:=fun w'=>∃ L',aN G k9 L' w') [(0,0),(1,0),(2,0),(3,0),(4,0),(5,0),(6,0),(7,0),(8,0),(9,0),(11,0),(10,1),(12,1),(13,2)] bQ (by kernel_rfl) (fun _ hg=>⟨_,aN.mono l0 hg⟩) (fun z4 p6=>?_)
    have f1:=aN.mono l0 p6
    refine cD rfl (fun _ _=>aF k7) (cD rfl (fun _ _=>bR (len:=a0.length) eQ rfl) (cD rfl (fun _ _=>aF (v:=i64 ((mF b5 ⟨x1_,x7_⟩).getD 0)) rfl) (cD rfl (fun _ _=>aF h0) (cD rfl (fun _ _=>eR rfl) (cD rfl (fun _ _=>bD (t':=0) aFt rfl rfl) (cD rfl (fun _ _=>bD (t':=0) kK rfl rfl) (cD rfl (fun _ _=>bD (t':=2) iO rfl rfl) (cD rfl (fun _ ⟨_,f1⟩=>bP (t:=2) jK f1 p4 rfl rfl) (cD rfl (fun _ ⟨_,f1⟩=>bP (t:=0) sc_68 f1 (p1.mono h1) o9 rfl) (cD rfl (fun _ _=>aF k7) (nZ rfl ?_)))))))))))
    obtain ⟨z5,p7,p8,p9,q0⟩:=aN.lendS (i:=0) f1 (zL k8 h1) rfl
    obtain ⟨b2,q1,hm⟩:=aJ hm
    refine aX (vs:=[i64 (a0.length:Int),i64 ((mF b5 ⟨x1_,x7_⟩).getD 0),zS a2 x2_.length c3,zS d7 d0.length d8]) Tryz.call36 rfl (aOJ p9 (h4.mono (zL (zL k8 h1) p7)) p8 q1) ?_
    rintro _ z6 ⟨e5,e6,e7,e8,rfl,q2⟩
    have l1:=q0 _ _ q2
    refine aD (aA ⟨⟨_,l1⟩,?_⟩)
    refine nZ rfl (cM (i:=7) (ns:=(zC b2 e5 e6 e7 e8)) (us:=(zC b2 e5 e6 e7 e8)) Tryz.sizeOf30 l1 rfl k6 rfl rfl rfl (eD rfl) rfl rfl (fun q3 (l2:aN G k9 (aK 70 K d7 d8 d0::aK 9 K e5 e6 b2.L::aK 63 K e7 e8 b2.E::box b4 95 [zM (some a9)]::gX a9 b5::aK 31 K a3 a4 (bZ a7 a0)::rows [2] a7 a0::box a1 30 (zC b2 e5 e6 e7 e8)::aK 31 Kf a20 c21 x10_::gX r22 x11_M::aK 22 Kf a23 c24 x12_::L) q3)=>(aD (aA ⟨⟨_,l2⟩,?_⟩))))
    have q4:=p5 _ _ l2
    have l3:=p3 _ _ q4
    refine aGd rfl (aB (aG (v:=zS a3 a0.length a4) rfl) (aD (aA (qQ (aA ?_)))))
    cases zI hm
    exact bC (retQ_m2 Tryz.results56 (oA (vs:=(zC b2 e5 e6 e7 e8)) rfl kE l3 (i:=9) rfl k6 rfl) (wU rfl rfl) ⟨e5,e6,e7,e8,a3,a4,a7,rfl,c4,(aN.arr 13 [3,4,7,8,10,11,12,1] l3 rfl)⟩)
   have q6:=aN.nil (α:=lS) o7 70 K
   obtain ⟨z7,q7,hm⟩:=aJ hm
   refine cP q7 (fun (s:(List lS × Int)) f w=>match s with|(b9,d1)=>∃ (d2:Option Addr) (d3:Nat),f 0=zP (some ⟨b1,0,none⟩)∧f 4=zP (some ⟨a1,0,none⟩)∧f 6=zS a3 a0.length a4∧f 9=zP (some ⟨b4,0,none⟩)∧f 12=zP (some ⟨c5,0,none⟩)∧f 56=zS a3 a0.length a4∧f 57=i64 (a0.length:Int)∧f 58=i64 d1∧aN G K (aK 70 K d2 d3 b9::box c5 68 [zS d2 b9.length d3]::box b4 95 [zM (some a9)]::gX a9 b5::aK 31 K a3 a4 (bZ a7 a0)::rows [2] a7 a0::box a1 30 zG::aK 31 Kf a20 c21 x10_::gX r22 x11_M::aK 22 Kf a23 c24 x12_::box b1 98 [i64 x0_,i64 x1_,zS a2 x2_.length c3,zS a5 x3_.length c6,zS a8 x4_.length c9,zS a11 x5_.length c12,i64 x6_,i64 x7_,zS a14 x8_.length c15,zS a17 x9_.length c18,zS a20 x10_.length c21,zM (some r22),zS a23 x12_.length c24]::L) w) ?_ ?_
   ·exact ⟨none,0,o3,o4,k5,o5,rfl,rfl,rfl,rfl,q6⟩
   ·rintro ⟨b9,d1⟩ q8 f z8 b8 q9 ⟨d2,d3,h2,l4,l5,h3,h5,l6,l7,f8,f9⟩
    replace b8:fN x0_ x1_ x2_ x3_ x4_ x5_ x6_ x7_ x8_ x9_ x10_ x11_M x12_ a0 b5 b9 d1=some q8:=b8
    unfold fN at b8
    refine aH (aC (aB (cK f8 l7) (aD (aA (aH ?_)))))
    rcases aM b8 with ⟨h6,b8⟩|⟨h6,b8⟩
    ·refine aQ h6 rfl (aY (aA (aH (cQ (aH (aC (aB (aF f8) ?_)))))))
     obtain ⟨h8,f2,b8⟩:=aJ b8
     obtain ⟨⟨h9,i0⟩,i1⟩:=aLE c4 f2
     have r0:=dH f9 (i:=4) rfl (aAl c4 f2 i1)
     refine aB (eY eQ rfl r0 l6 rfl f8 f2) (aB (tQ (t:=0) kD f9 (i:=4) rfl (aAl c4 f2 i1) rfl rfl rfl) (cL (vs:=[i64 0]) Tryz.zeroValue3 f9 rfl (fun i2 z9 r1=>(cM (i:=0) (ns:=[i64 d1]) (us:=[i64 d1]) Tryz.sizeOf3 r1 rfl rfl rfl rfl rfl (eD rfl) rfl rfl (fun l8 (r2:aN G K (box i2 3 [i64 d1]::aK 70 K d2 d3 b9::box c5 68 [zS d2 b9.length d3]::box b4 95 [zM (some a9)]::gX a9 b5::aK 31 K a3 a4 (bZ a7 a0)::rows [2] a7 a0::box a1 30 zG::aK 31 Kf a20 c21 x10_::gX r22 x11_M::aK 22 Kf a23 c24 x12_::box b1 98 [i64 x0_,i64 x1_,zS a2 x2_.length c3,zS a5 x3_.length c6,zS a8 x4_.length c9,zS a11 x5_.length c12,i64 x6_,i64 x7_,zS a14 x8_.length c15,zS a17 x9_.length c18,zS a20 x10_.length c21,zM (some r22),zS a23 x12_.length c24]::L) l8)=>(aB (aG (v:=zS h9 h8.length i0) rfl) (aD (aA (aC (aB (aF h2) (aB (aF (v:=zS h9 h8.length i0) rfl) (aB (aGa (vs:=[zP (some ⟨b4,0,none⟩),zP (some ⟨c5,0,none⟩),zP (some ⟨i2,0,none⟩)]) (lst3 h3 h5 rfl)) ?_))))))))))))
     obtain ⟨a00,d9,a01,r3,r4,r5⟩:=aN.lendD' (i:=5) r2 c4 rfl rfl
     obtain ⟨a02,d4,r6,r7,r8⟩:=aN.lendM (i:=4) r4 rfl
     obtain ⟨a03,c7,r9,s0,s1⟩:=aN.lendB (i:=3) r7 rfl
     obtain ⟨s2,c0,s3,s4,s5⟩:=aN.lendB (i:=0) s0 rfl
     have s6:aN G s2 (aK 31 Kf a20 c21 x10_::gX r22 x11_M::aK 22 Kf a23 c24 x12_::box b1 98 [i64 x0_,i64 x1_,zS a2 x2_.length c3,zS a5 x3_.length c6,zS a8 x4_.length c9,zS a11 x5_.length c12,i64 x6_,i64 x7_,zS a14 x8_.length c15,zS a17 x9_.length c18,zS a20 x10_.length c21,zM (some r22),zS a23 x12_.length c24]::aK 70 K d2 d3 b9::box c5 68 [zS d2 b9.length d3]::box a1 30 zG::L) l8:=(aN.arr 7 [3,4,5,6,0,1,2] s4 rfl)
     obtain ⟨s7,s8,b8⟩:=aJ b8
     refine aX (vs:=[zP (some ⟨b1,0,none⟩),zS h9 h8.length i0,Value.func (.func 104) #[] #[cS (some ⟨b4,0,none⟩) 0,zP (some ⟨c5,0,none⟩),cS (some ⟨i2,0,none⟩) 0]]) Tryz.call99 rfl (aDr (Kf:=Kf) s6 (zL (zL (zL (zL hKf d9) d4) c7) c0) (h4.mono (zL (zL (zL d9 d4) c7) c0)) (h7.mono (zL (zL (zL d9 d4) c7) c0)) (h10.mono (zL (zL (zL d9 d4) c7) c0)) (h13.mono (zL (zL (zL d9 d4) c7) c0)) (h16.mono (zL (zL (zL d9 d4) c7) c0)) (h19.mono (zL (zL (zL d9 d4) c7) c0)) ((aIS (r3 _ _ _ i1 (aIT f2))).mono (zL (zL d4 c7) c0)) (r9.mono c0) (r6.mono (zL c7 c0)) s3 s8) ?_
     rintro _ a04 ⟨s9,t0,rfl,t1⟩
     have t2:=s5 _ _ t1
     have t3:=s1 _ _ t2
     have t4:=r8 _ _ t3
     have t5:=r5 _ _ t4
     exact aD (bO (aA (aC (aB (cY f8 rfl) (aB (aF (v:=i64 (wr (d1+1))) rfl) (aD (aA ⟨(s7,wr (d1+1)),(zI b8).symm,s9,t0,h2,l4,l5,h3,h5,l6,l7,rfl,(aN.arr 12 [9,10,3,2,0,1,11,5,6,7,8] t5 rfl)⟩)))))))
    ·refine aO h6 rfl (cN (bB (bB ?_)))
     have t6:=q9 _ (zI b8).symm
     subst t6
     have hm:(iH x1_ x2_ x7_ a0 b5 b9)=some R:=hm
     exact bS (aA ⟨b9,d2,d3,hm,h2,l4,l5,h3,h5,f9⟩)
  obtain ⟨a05,t7,hm⟩:=aJ hm
  refine cP t7 (fun (s:((List ((Int × Int) × Int)) × Int)) f w=>match s with|(f3,d5)=>f 0=zP (some ⟨b1,0,none⟩)∧f 4=zP (some ⟨a1,0,none⟩)∧f 6=zS a3 a0.length a4∧f 9=zP (some ⟨b4,0,none⟩)∧f 39=zS a3 a0.length a4∧f 40=i64 (a0.length:Int)∧f 41=i64 d5∧aN G K (box b4 95 [zM (some a9)]::gX a9 f3::aK 31 K a3 a4 (bZ a7 a0)::rows [2] a7 a0::box a1 30 zG::aK 31 Kf a20 c21 x10_::gX r22 x11_M::aK 22 Kf a23 c24 x12_::box b1 98 [i64 x0_,i64 x1_,zS a2 x2_.length c3,zS a5 x3_.length c6,zS a8 x4_.length c9,zS a11 x5_.length c12,i64 x6_,i64 x7_,zS a14 x8_.length c15,zS a17 x9_.length c18,zS a20 x10_.length c21,zM (some r22),zS a23 x12_.length c24]::L) w) ?_ ?_
  ·exact ⟨n2,n3,(Eq.trans g9 (congrArg (fun n=>zS a3 n a4) k4)),rfl,rfl,rfl,rfl,o2⟩
  ·rintro ⟨f3,d5⟩ t8 f a06 b3 t9 ⟨l9,m0,m1,i3,m2,m3,g0,g1⟩
   replace b3:fO a0 f3 d5=some t8:=b3
   unfold fO at b3
   refine aH (aC (aB (cK g0 m3) (aD (aA (aH ?_)))))
   rcases aM b3 with ⟨i4,b3⟩|⟨i4,b3⟩
   ·refine aQ i4 rfl (aY (aA (aH (cQ (aH (aC (aB (aF g0) ?_)))))))
    obtain ⟨i5,e0,b3⟩:=aJ b3
    obtain ⟨⟨i6,i7⟩,f4⟩:=aLE c4 e0
    have u0:=dH g1 (i:=2) rfl (aAl c4 e0 f4)
    refine aB (eY eQ rfl u0 m2 rfl g0 e0) (aB (tQ (t:=0) kD g1 (i:=2) rfl (aAl c4 e0 f4) rfl rfl rfl) (aB (aG (v:=i64 d5) rfl) (aB (aG (v:=zS i6 i5.length i7) rfl) (aD (aA ?_)))))
    obtain ⟨a07,a08,u1,u2,u3⟩:=aN.lendB (i:=0) g1 rfl
    obtain ⟨u4,u5,a09,i8,m4,u6⟩:=aN.lendD' (i:=1) u2 c4 rfl rfl
    refine hJ (C:=fun w'=>∃ L',aN G u4 L' w') [(0,0),(1,0),(2,0),(3,0),(4,0),(5,0),(6,0),(7,0),(8,0),(9,2)] bQ (by kernel_rfl) (fun _ hg=>⟨_,aN.mono m4 hg⟩) (fun a10 u7=>?_)
    have e1:=aN.mono m4 u7
    refine cD rfl (fun _ ⟨_,e1⟩=>bP (t:=0) sc_95 e1 (u1.mono u5) i3 rfl) (cD rfl (fun _ _=>aF (v:=zS i6 i5.length i7) rfl) ?_)
    obtain ⟨i9,j0,b3⟩:=aJ b3
    have m5:=aFs (aIS (i8 _ _ _ f4 (aIT e0))) j0
    refine cD rfl (fun _ _=>eY cG rfl m5 rfl rfl rfl j0) ?_
    obtain ⟨a12,u8,u9⟩:=cJ.el (sz:=1) rfl (aIS (i8 _ _ _ f4 (aIT e0))) j0
    cases u9
    refine cD rfl (fun _ ⟨_,e1⟩=>bP (t:=0) dF e1 u8 rfl rfl) (cD rfl (fun _ _=>aF (v:=zS i6 i5.length i7) rfl) ?_)
    obtain ⟨j1,m6,b3⟩:=aJ b3
    refine cD rfl (fun _ _=>eY cG rfl m5 rfl rfl rfl m6) ?_
    obtain ⟨a13,v0,v1⟩:=cJ.el (sz:=1) rfl (aIS (i8 _ _ _ f4 (aIT e0))) m6
    cases v1
    refine cD rfl (fun _ ⟨_,e1⟩=>bP (t:=0) dF e1 v0 rfl rfl) (cD rfl (fun _ _=>aEN (vs:=[(0,i64 i9),(1,i64 j1)]) (cs:=[i64 i9,i64 j1]) aGh aIZ rfl (by kernel_rfl)) (cD rfl (fun _ _=>aF (v:=i64 d5) rfl) ?_))
    have v2:=u6 _ _ e1
    have v3:=u3 _ _ v2
    refine aGd rfl ?_
    obtain ⟨m7,v4,b3⟩:=aJ b3
    exact aMV (i:=3) (k:=⟨i9,j1⟩) (v:=d5) Tryz.runUnderlying95 aJa v3 rfl rfl rfl rfl v4 (fun v5 (v6:aN G K (box b4 95 [zM (some a9)]::aK 31 K a3 a4 (bZ a7 a0)::rows [2] a7 a0::gX a9 m7::box a1 30 zG::aK 31 Kf a20 c21 x10_::gX r22 x11_M::aK 22 Kf a23 c24 x12_::box b1 98 [i64 x0_,i64 x1_,zS a2 x2_.length c3,zS a5 x3_.length c6,zS a8 x4_.length c9,zS a11 x5_.length c12,i64 x6_,i64 x7_,zS a14 x8_.length c15,zS a17 x9_.length c18,zS a20 x10_.length c21,zM (some r22),zS a23 x12_.length c24]::L) v5)=>(aD (aA (qQ (bO (aA (aC (aB (cY g0 rfl) (aB (aF (v:=i64 (wr (d5+1))) rfl) (aD (aA ⟨(m7,wr (d5+1)),(zI b3).symm,l9,m0,m1,i3,m2,m3,rfl,(aN.arr 4 [0,3,1,2] v6 rfl)⟩)))))))))))
   ·refine aO i4 rfl (cN (bB (bB ?_)))
    have v7:=t9 _ (zI b3).symm
    subst v7
    have hm:(iI x0_ x1_ x2_ x3_ x4_ x5_ x6_ x7_ x8_ x9_ x10_ x11_M x12_ a0 f3)=some R:=hm
    exact bS (aA ⟨f3,hm,l9,m0,m1,i3,g1⟩)
 have v8:aN G K (aK 31 K none 0 (bZ ([]:List (Dp.Hd (List Int))) ([]:List (List Int)))::rows [2] ([]:List (Dp.Hd (List Int))) ([]:List (List Int))::box a1 30 zG::aK 31 Kf a20 c21 x10_::gX r22 x11_M::aK 22 Kf a23 c24 x12_::box b1 98 [i64 x0_,i64 x1_,zS a2 x2_.length c3,zS a5 x3_.length c6,zS a8 x4_.length c9,zS a11 x5_.length c12,i64 x6_,i64 x7_,zS a14 x8_.length c15,zS a17 x9_.length c18,zS a20 x10_.length c21,zM (some r22),zS a23 x12_.length c24]::L) n1:=aN.nil (α:=Cells _) (aN.rowsNil (α:=(List Int)) (tys:=[2]) k3) 31 K
 obtain ⟨a15,v9,hm⟩:=aJ hm
 refine cP v9 (fun (s:(List (List Int) × Int)) f w=>match s with|(b7,c8)=>∃ (e2:Option Addr) (e3:Nat) (b6:List (Dp.Hd (List Int))),f 0=zP (some ⟨b1,0,none⟩)∧f 1=zS a25 keep.length c26∧f 4=zP (some ⟨a1,0,none⟩)∧f 6=zS e2 b7.length e3∧f 19=zS a20 x10_.length c21∧f 20=i64 (x10_.length:Int)∧f 21=i64 c8∧List.length b6=List.length b7∧aN G K (aK 31 K e2 e3 (bZ b6 b7)::rows [2] b6 b7::box a1 30 zG::aK 31 Kf a20 c21 x10_::gX r22 x11_M::aK 22 Kf a23 c24 x12_::box b1 98 [i64 x0_,i64 x1_,zS a2 x2_.length c3,zS a5 x3_.length c6,zS a8 x4_.length c9,zS a11 x5_.length c12,i64 x6_,i64 x7_,zS a14 x8_.length c15,zS a17 x9_.length c18,zS a20 x10_.length c21,zM (some r22),zS a23 x12_.length c24]::L) w) ?_ ?_
 ·exact ⟨none,0,[],rfl,rfl,rfl,rfl,rfl,rfl,rfl,rfl,v8⟩
 ·rintro ⟨b7,c8⟩ m8 f a16 a6 w0 ⟨e2,e3,b6,j2,j3,j4,j5,j6,j7,f5,g2,e9⟩
  replace a6:gN x10_ keep b7 c8=some m8:=a6
  unfold gN at a6
  refine aH (aC (aB (cK f5 j7) (aD (aA (aH ?_)))))
  rcases aM a6 with ⟨j8,a6⟩|⟨j8,a6⟩
  ·refine aQ j8 rfl (aY (aA (aH (bJ (fun f w=>∃ (e4:List (List Int)) (g3:Option Addr) (g4:Nat) (f6:List (Dp.Hd (List Int))),iK c8 e4=some m8∧f 0=zP (some ⟨b1,0,none⟩)∧f 1=zS a25 keep.length c26∧f 4=zP (some ⟨a1,0,none⟩)∧f 6=zS g3 e4.length g4∧f 19=zS a20 x10_.length c21∧f 20=i64 (x10_.length:Int)∧f 21=i64 c8∧List.length f6=List.length e4∧aN G K (aK 31 K g3 g4 (bZ f6 e4)::rows [2] f6 e4::box a1 30 zG::aK 31 Kf a20 c21 x10_::gX r22 x11_M::aK 22 Kf a23 c24 x12_::box b1 98 [i64 x0_,i64 x1_,zS a2 x2_.length c3,zS a5 x3_.length c6,zS a8 x4_.length c9,zS a11 x5_.length c12,i64 x6_,i64 x7_,zS a14 x8_.length c15,zS a17 x9_.length c18,zS a20 x10_.length c21,zM (some r22),zS a23 x12_.length c24]::L) w) ?_ ?_))))
   ·rintro f a18 ⟨e4,g3,g4,f6,a6,w1,w2,w3,w4,w5,w6,w7,w8,w9⟩
    unfold iK at a6
    exact aA (aC (aB (cY w7 rfl) (aB (aF (v:=i64 (wr (c8+1))) rfl) (aD (aA ⟨(e4,wr (c8+1)),(zI a6).symm,g3,g4,f6,w1,w2,w3,w4,w5,w6,rfl,w8,w9⟩)))))
   refine aH (aC (aB (aF f5) ?_))
   obtain ⟨g5,j9,a6⟩:=aJ a6
   have x0:=dH e9 (i:=3) rfl j9
   refine aB (eY eQ rfl x0 j6 rfl f5 j9) ?_
   obtain ⟨a19,x1,x2⟩:=aBr (sz:=1) rfl e9 (i:=3) rfl j9
   obtain ⟨g6,g7,rfl,x3⟩:=x2
   refine aB (aEM (t:=0) (v:=zS g6 g5.length g7) kD x1 rfl rfl) (aB (aG (v:=i64 c8) rfl) (aB (aG (v:=zS g6 g5.length g7) rfl) (aD (aA (aH (aC (aB (aF j3) (aB (aF (v:=i64 c8) rfl) ?_))))))))
   obtain ⟨a21,m9,a6⟩:=aJ a6
   refine aB (cV aCc rfl h27 rfl rfl rfl m9) ?_
   obtain ⟨a22,x4,x5⟩:=cJ.el (sz:=1) rfl h27 m9
   cases x5
   refine aB (bP (t:=0) sc_4 e9 x4 rfl rfl) (aD (aA ?_))
   rcases aM a6 with ⟨k0,a6⟩|⟨k0,a6⟩
   ·refine aQ k0 rfl (aC (aB (aF j5) (aB (aF (v:=zS g6 g5.length g7) rfl) ?_)))
    obtain ⟨f0,x6,a6⟩:=aJ a6
    refine aX (vs:=[zS g6 g5.length g7]) Tryz.call101 rfl (vP e9 (x3.mono hKf) x6) ?_
    rintro _ x7 ⟨c1,c2,rfl,x8⟩
    have x9:aN G K (rows [2] ([(c1,c2)]:List (Dp.Hd (List Int))) [f0]::aK 31 K e2 e3 (bZ b6 b7)::rows [2] b6 b7::box a1 30 zG::aK 31 Kf a20 c21 x10_::gX r22 x11_M::aK 22 Kf a23 c24 x12_::box b1 98 [i64 x0_,i64 x1_,zS a2 x2_.length c3,zS a5 x3_.length c6,zS a8 x4_.length c9,zS a11 x5_.length c12,i64 x6_,i64 x7_,zS a14 x8_.length c15,zS a17 x9_.length c18,zS a20 x10_.length c21,zM (some r22),zS a23 x12_.length c24]::L) x7:=aN.rowsOne x8
    refine dA (Kt:=K) (xs:=bZ ([(c1,c2)]:List (Dp.Hd (List Int))) ([f0]:List (List Int))) (cs:=[zS c1 f0.length c2]) (vs:=[(0,zS c1 f0.length c2)]) eQ yN rfl rfl x9 rfl (by kernel_rfl) rfl rfl rfl ⟨rfl,trivial⟩ ?_
    intro y0 y1 (y2:aN G K (aK 31 K y0 1 (bZ ([(c1,c2)]:List (Dp.Hd (List Int))) ([f0]:List (List Int)))::rows [2] ([(c1,c2)]:List (Dp.Hd (List Int))) ([f0]:List (List Int))::aK 31 K e2 e3 (bZ b6 b7)::rows [2] b6 b7::box a1 30 zG::aK 31 Kf a20 c21 x10_::gX r22 x11_M::aK 22 Kf a23 c24 x12_::box b1 98 [i64 x0_,i64 x1_,zS a2 x2_.length c3,zS a5 x3_.length c6,zS a8 x4_.length c9,zS a11 x5_.length c12,i64 x6_,i64 x7_,zS a14 x8_.length c15,zS a17 x9_.length c18,zS a20 x10_.length c21,zM (some r22),zS a23 x12_.length c24]::L) y1)
    obtain ⟨g8,n0,a6⟩:=aJ a6
    refine WO_appD (i:=0) (tys:=[2]) (hds:=b6) (hds2:=([(c1,c2)]:List (Dp.Hd (List Int)))) eQ Tryz.underlying49 yN rfl rfl y2 g2 rfl rfl rfl n0 rfl rfl rfl rfl ?_
    intro k1 k2 y3 (y4:aN G K (aK 31 K k1 k2 (bZ (b6++([(c1,c2)]:List (Dp.Hd (List Int)))) g8)::rows [2] (b6++([(c1,c2)]:List (Dp.Hd (List Int)))) g8::box a1 30 zG::aK 31 Kf a20 c21 x10_::gX r22 x11_M::aK 22 Kf a23 c24 x12_::box b1 98 [i64 x0_,i64 x1_,zS a2 x2_.length c3,zS a5 x3_.length c6,zS a8 x4_.length c9,zS a11 x5_.length c12,i64 x6_,i64 x7_,zS a14 x8_.length c15,zS a17 x9_.length c18,zS a20 x10_.length c21,zM (some r22),zS a23 x12_.length c24]::L) y3)
    exact aB (aG (v:=zS k1 g8.length k2) rfl) (aD (bO (aA ⟨g8,k1,k2,(b6++([(c1,c2)]:List (Dp.Hd (List Int)))),a6,j2,j3,j4,rfl,j6,j7,f5,(app_len g2 rfl n0),y4⟩)))
   ·exact aO k0 rfl (aY (bO (aA ⟨b7,e2,e3,b6,a6,j2,j3,j4,j5,j6,j7,f5,g2,e9⟩)))
  ·refine aO j8 rfl (cN (bB (bB ?_)))
   have y5:=w0 _ (zI a6).symm
   subst y5
   have hm:(iJ x0_ x1_ x2_ x3_ x4_ x5_ x6_ x7_ x8_ x9_ x10_ x11_M x12_ b7)=some R:=hm
   exact bS (aA ⟨b7,e2,e3,b6,hm,j2,j4,j5,g2,e9⟩)
theorem lE {p:cI} {r_:cH} {R:(cI × (List (List Int)) × Int)} (hs:aN G K (L) w) (hG:G.lo=0) (h3:cJ K a1 c2 p.S.L) (h6:cJ K a4 c5 p.S.E) (h9:cJ K a7 c8 p.M) (h12:cJ K a10 c11 p.C) (h15:cJ K a13 c14 r_.L) (h18:cJ K a16 c17 r_.E) (hm:oU p r_=some R):
  Calls Tryz.prog 21 ([zA (zEa p a1 c2 a4 c5 a7 c8 a10 c11),zA (zCa r_ a13 c14 a16 c17)]:List Value).toArray w (gV fun v w'=>∃ (ra0:Option Addr) (rc0:Nat) (ra1:Option Addr) (rc1:Nat) (ra2:Option Addr) (rc2:Nat) (ra3:Option Addr) (rc3:Nat) (ra4:Option Addr) (rc4:Nat) (rh5:List (Dp.Hd (List Int))),v=zT #[zA (zEa R.1 ra0 rc0 ra1 rc1 ra2 rc2 ra3 rc3),zS ra4 R.2.1.length rc4,i64 R.2.2]∧List.length rh5=List.length R.2.1∧aN G K (aK 9 K ra0 rc0 R.1.S.L::aK 63 K ra1 rc1 R.1.S.E::aK 2 K ra2 rc2 R.1.M::aK 9 K ra3 rc3 R.1.C::aK 31 K ra4 rc4 (bZ rh5 R.2.1)::rows [2] rh5 R.2.1::L) w'):=by
 refine aW Tryz.func21 rfl (by kernel_rfl) (by show (2:Nat)≤67;decide) ?_
 unfold oU at hm
 refine aH (aC (fC (v:=zA (zEa p a1 c2 a4 c5 a7 c8 a10 c11)) (vs:=(zE p a1 c2 a4 c5 a7 c8 a10 c11)) hs rfl rfl (fun b9 v8 l1=>(fC (v:=zA (zCa r_ a13 c14 a16 c17)) (vs:=(zC r_ a13 c14 a16 c17)) l1 rfl rfl (fun e0 v9 l2=>(cL (vs:=zK) Tryz.zeroValue48 l2 rfl (fun b6 w0 g7=>(aB (aG (v:=zS none 0 0) rfl) (aB (aG (v:=i64 0) rfl) (aD (aA (aH (aH (aC (aB (dO (us:=(zE p a1 c2 a4 c5 a7 c8 a10 c11)) nV g7 (i:=2) rfl rfl rfl rfl) (aB (dO (us:=(zC r_ a13 c14 a16 c17)) kE g7 (i:=1) rfl rfl rfl rfl) (dA (Kt:=K) (xs:=([r_]:List cH)) (cs:=(zC r_ a13 c14 a16 c17)) (vs:=[(0,zA (zCa r_ a13 c14 a16 c17))]) sl_130 ez_30 rfl rfl g7 rfl (by kernel_rfl) rfl rfl rfl ⟨⟨a13,c14,a16,c17,rfl,h15,h18⟩,trivial⟩ (fun d7 l3 (l4:aN G K (aK 30 K d7 1 ([r_]:List cH)::box b6 48 zK::box e0 30 (zC r_ a13 c14 a16 c17)::box b9 48 (zE p a1 c2 a4 c5 a7 c8 a10 c11)::L) l3)=>?_))))))))))))))))))
 obtain ⟨w1,f6,l5,l6,l7⟩:=aN.lendS (i:=0) l4 (Hp.le_refl _) rfl
 obtain ⟨f7,l8,hm⟩:=aJ hm
 refine aX (vs:=[zA (zEa p a1 c2 a4 c5 a7 c8 a10 c11),zS d7 ([r_]:List cH).length 1]) Tryz.call54 rfl (aHX l6 hG (h3.mono f6) (h6.mono f6) (h9.mono f6) (h12.mono f6) l5 l8) ?_
 rintro _ w2 ⟨rfl,l9⟩
 have f8:=l7 _ _ l9
 refine aB (aG (v:=i64 f7) rfl) (aD (aA (aH (aC (aB (aF (v:=i64 f7) rfl) (aB (mO rfl rfl) (aD (aA ?_))))))))
 rcases aM hm with ⟨g8,hm⟩|⟨g8,hm⟩
 ·refine aQ g8 rfl (aH (aC (aB (gW (vs:=[]) (cs:=zK) yO rfl (by kernel_rfl)) (aB (aF (v:=i64 f7) rfl) (cM (i:=1) (ns:=zK) (us:=zK) Tryz.sizeOf48 f8 rfl rfl rfl rfl rfl (eD rfl) rfl rfl (fun j1 (m0:aN G K (aK 30 K d7 1 ([r_]:List cH)::box b6 48 zK::box e0 30 (zC r_ a13 c14 a16 c17)::box b9 48 (zE p a1 c2 a4 c5 a7 c8 a10 c11)::L) j1)=>(aB (aG (v:=zS none 0 0) rfl) (aB (aG (v:=i64 f7) rfl) (aD (aA ?_))))))))))
  have m1:=aN.nil (α:=aZ) m0 9 K
  have m2:=aN.nil (α:=Edge) m1 63 K
  have m3:=aN.nil (α:=Int) m2 2 K
  have m4:=aN.nil (α:=aZ) m3 9 K
  have j2:aN G K (aK 31 K none 0 (bZ ([]:List (Dp.Hd (List Int))) ([]:List (List Int)))::rows [2] ([]:List (Dp.Hd (List Int))) ([]:List (List Int))::aK 9 K none 0 ([]:List aZ)::aK 2 K none 0 ([]:List Int)::aK 63 K none 0 ([]:List Edge)::aK 9 K none 0 ([]:List aZ)::aK 30 K d7 1 ([r_]:List cH)::box b6 48 zK::box e0 30 (zC r_ a13 c14 a16 c17)::box b9 48 (zE p a1 c2 a4 c5 a7 c8 a10 c11)::L) j1:=aN.nil (α:=Cells _) (aN.rowsNil (α:=(List Int)) (tys:=[2]) m4) 31 K
  cases zI hm
  exact bC (aS (aFr Tryz.results21 (oA (vs:=zK) rfl nV j2 (i:=7) rfl rfl rfl) (wU rfl rfl) (wU rfl rfl) ⟨none,0,none,0,none,0,none,0,none,0,([]:List (Dp.Hd (List Int))),rfl,rfl,(aN.arr 10 [5,4,3,2,0,1] j2 rfl)⟩))
 ·refine aO g8 rfl (aY (aA (aH (aC (aB (dO (us:=(zE p a1 c2 a4 c5 a7 c8 a10 c11)) nV f8 (i:=3) rfl rfl rfl rfl) (aB (dO (us:=(zC r_ a13 c14 a16 c17)) kE f8 (i:=2) rfl rfl rfl rfl) ?_))))))
  obtain ⟨b2,m6,hm⟩:=aJ hm
  refine aX (vs:=[zA (zEa p a1 c2 a4 c5 a7 c8 a10 c11),zA (zCa r_ a13 c14 a16 c17)]) Tryz.call55 rfl (aHm f8 h3 h6 h9 h12 h15 h18 m6) ?_
  rintro _ w3 ⟨b3,d0,d1,d2,d3,d4,d8,rfl,b8,m7⟩
  refine aB (aG (v:=zP (some ⟨d8,0,none⟩)) rfl) (aD (aA (aH (aC (aB (aF (v:=zP (some ⟨d8,0,none⟩)) rfl) (dA (Kt:=K) (xs:=([true]:List Bool)) (cs:=[zB true]) (vs:=[(0,zB true)]) aCc ez_4 rfl rfl m7 rfl (by kernel_rfl) rfl rfl rfl ⟨rfl,trivial⟩ (fun e8 m8 (j3:aN G b3 (aK 4 K e8 1 ([true]:List Bool)::aK 31 b3 d0 d1 b2.1::gX d2 b2.2.1::aK 22 b3 d3 d4 b2.2.2::box d8 98 [i64 p.S.N,i64 p.S.I,zS a1 p.S.L.length c2,zS a4 p.S.E.length c5,zS a7 p.M.length c8,zS a10 p.C.length c11,i64 r_.N,i64 r_.I,zS a13 r_.L.length c14,zS a16 r_.E.length c17,zS d0 b2.1.length d1,zM (some d2),zS d3 b2.2.2.length d4]::aK 30 K d7 1 ([r_]:List cH)::box b6 48 zK::box e0 30 (zC r_ a13 c14 a16 c17)::box b9 48 (zE p a1 c2 a4 c5 a7 c8 a10 c11)::L) m8)=>(aB (aF (v:=zP (some ⟨d8,0,none⟩)) rfl) (aB (eR rfl) (aB (bD (t':=10) aCd rfl rfl) (aB (bY uD j3 (i:=4) rfl rfl rfl) (aB (bR (len:=b2.1.length) eQ rfl) ?_))))))))))))
  obtain ⟨w4,w5,m9,n0,n1⟩:=aN.lendS (i:=0) j3 b8 rfl
  obtain ⟨f9,n2,hm⟩:=aJ hm
  refine aX (vs:=[zS e8 ([true]:List Bool).length 1,i64 (b2.1.length:Int)]) Tryz.call57 rfl (wR n0 m9 n2) ?_
  rintro _ n3 ⟨g0,g1,rfl,n4⟩
  have n5:=n1 _ _ n4
  obtain ⟨n6,e1,n7,n8,n9⟩:=aN.lendS (i:=1) n5 b8 rfl
  have o0:aN G n6 (aK 31 b3 d0 d1 b2.1::gX d2 b2.2.1::aK 22 b3 d3 d4 b2.2.2::box d8 98 [i64 p.S.N,i64 p.S.I,zS a1 p.S.L.length c2,zS a4 p.S.E.length c5,zS a7 p.M.length c8,zS a10 p.C.length c11,i64 r_.N,i64 r_.I,zS a13 r_.L.length c14,zS a16 r_.E.length c17,zS d0 b2.1.length d1,zM (some d2),zS d3 b2.2.2.length d4]::aK 4 K e8 1 ([true]:List Bool)::aK 30 K d7 1 ([r_]:List cH)::box b6 48 zK::box e0 30 (zC r_ a13 c14 a16 c17)::box b9 48 (zE p a1 c2 a4 c5 a7 c8 a10 c11)::L) n3:=(aN.arr 5 [1,2,3,4,0] n8 rfl)
  obtain ⟨a0,o1,hm⟩:=aJ hm
  refine aX (vs:=[zP (some ⟨d8,0,none⟩),zS g0 f9.length g1]) Tryz.call56 rfl (aBY (Kf:=b3) o0 e1 (h3.mono (zL b8 e1)) (h6.mono (zL b8 e1)) (h9.mono (zL b8 e1)) (h12.mono (zL b8 e1)) (h15.mono (zL b8 e1)) (h18.mono (zL b8 e1)) n7 o1) ?_
  rintro _ w6 ⟨a2,a3,a5,a6,b4,b5,b1,rfl,g2,o2⟩
  have o3:=n9 _ _ o2
  refine aB (aF (v:=zT #[zA (zCa a0.1 a2 a3 a5 a6),zS b4 a0.2.length b5]) rfl) (aB (bX rfl rfl) (aB (bX rfl rfl) (cL (vs:=zG) Tryz.zeroValue30 o3 rfl (fun g9 w7 o4=>(cM (i:=0) (ns:=(zC a0.1 a2 a3 a5 a6)) (us:=(zC a0.1 a2 a3 a5 a6)) Tryz.sizeOf30 o4 rfl rfl rfl rfl rfl (eD rfl) rfl rfl (fun o5 (o6:aN G b3 (box g9 30 (zC a0.1 a2 a3 a5 a6)::aK 4 K g0 g1 f9::aK 9 K a2 a3 a0.1.L::aK 63 K a5 a6 a0.1.E::aK 31 K b4 b5 (bZ b1 a0.2)::rows [2] b1 a0.2::aK 31 b3 d0 d1 b2.1::gX d2 b2.2.1::aK 22 b3 d3 d4 b2.2.2::box d8 98 [i64 p.S.N,i64 p.S.I,zS a1 p.S.L.length c2,zS a4 p.S.E.length c5,zS a7 p.M.length c8,zS a10 p.C.length c11,i64 r_.N,i64 r_.I,zS a13 r_.L.length c14,zS a16 r_.E.length c17,zS d0 b2.1.length d1,zM (some d2),zS d3 b2.2.2.length d4]::aK 4 K e8 1 ([true]:List Bool)::aK 30 K d7 1 ([r_]:List cH)::box b6 48 zK::box e0 30 (zC r_ a13 c14 a16 c17)::box b9 48 (zE p a1 c2 a4 c5 a7 c8 a10 c11)::L) o5)=>(aB (aG (v:=zS b4 a0.2.length b5) rfl) (aD (aA (aH (cU (fun f w=>∃ (a8:List aZ) (c4:Nat) (a9:Option Addr) (b0:Nat),rJ p a0 a8=some R∧f 2=zP (some ⟨b9,0,none⟩)∧f 4=zP (some ⟨b6,0,none⟩)∧f 10=zS b4 a0.2.length b5∧f 11=zP (some ⟨c4,0,none⟩)∧aN G b3 (aK 9 K a9 b0 a8::box c4 48 [i64 a0.1.N,i64 a0.1.I,zS a2 a0.1.L.length a3,zS a5 a0.1.E.length a6,zS none 0 0,zS a9 a8.length b0]::aK 9 K a2 a3 a0.1.L::aK 63 K a5 a6 a0.1.E::aK 31 K b4 b5 (bZ b1 a0.2)::rows [2] b1 a0.2::box b6 48 zK::box b9 48 (zE p a1 c2 a4 c5 a7 c8 a10 c11)::L) w) ?_ ?_)))))))))))
  ·rintro f w8 ⟨a8,c4,a9,b0,hm,o7,o8,j4,o9,p0⟩
   unfold rJ at hm
   refine aA (aH (aH (aC (aB (aF j4) (aB (bR (len:=a0.2.length) eQ rfl) (aB (aF (v:=i64 0) rfl) (aD (aA (bJ (fun f w=>∃ (c0:List Int) (c1:Option Addr) (c3:Nat),nA a0 a8 c0=some R∧f 4=zP (some ⟨b6,0,none⟩)∧f 10=zS b4 a0.2.length b5∧f 11=zP (some ⟨c4,0,none⟩)∧aN G b3 (aK 2 K c1 c3 c0::aK 9 K a9 b0 a8::box c4 48 [i64 a0.1.N,i64 a0.1.I,zS a2 a0.1.L.length a3,zS a5 a0.1.E.length a6,zS c1 c0.length c3,zS a9 a8.length b0]::aK 9 K a2 a3 a0.1.L::aK 63 K a5 a6 a0.1.E::aK 31 K b4 b5 (bZ b1 a0.2)::rows [2] b1 a0.2::box b6 48 zK::L) w) ?_ ?_)))))))))
   ·rintro f w9 ⟨c0,c1,c3,hm,g3,p1,j5,j6⟩
    unfold nA at hm
    refine aA (aH (aH (aC (aB (dO (us:=[i64 a0.1.N,i64 a0.1.I,zS a2 a0.1.L.length a3,zS a5 a0.1.E.length a6,zS c1 c0.length c3,zS a9 a8.length b0]) nV j6 (i:=2) rfl j5 rfl rfl) ?_))))
    obtain ⟨x0,h0,p2,p3,p4⟩:=aN.lendS (i:=3) j6 b8 rfl
    obtain ⟨x1,h1,p5,p6,p7⟩:=aN.lendS (i:=3) p3 (zL b8 h0) rfl
    obtain ⟨x2,h2,p8,p9,q0⟩:=aN.lendS (i:=0) p6 (zL (zL b8 h0) h1) rfl
    obtain ⟨x3,h4,q1,q2,q3⟩:=aN.lendS (i:=0) p9 (zL (zL (zL b8 h0) h1) h2) rfl
    obtain ⟨x4,q4,hm⟩:=aJ hm
    refine aX (vs:=[zA #[i64 a0.1.N,i64 a0.1.I,zS a2 a0.1.L.length a3,zS a5 a0.1.E.length a6,zS c1 c0.length c3,zS a9 a8.length b0]]) Tryz.call60 rfl (aCz (p:=⟨⟨a0.1.N,a0.1.I,a0.1.L,a0.1.E⟩,c0,a8⟩) q2 hG (p2.mono (zL (zL h1 h2) h4)) (p5.mono (zL h2 h4)) (p8.mono h4) q1 q4) ?_
    rintro _ x5 ⟨rfl,q5⟩
    have q6:=q3 _ _ q5
    have q7:=q0 _ _ q6
    have q8:=p7 _ _ q7
    have h5:=p4 _ _ q8
    refine aB (eP rfl) (aD (aA ?_))
    rcases aM hm with ⟨h7,hm⟩|⟨h7,hm⟩
    ·refine aQ h7 rfl (aH (aC (aB (gW (vs:=[]) (cs:=zK) yO rfl (by kernel_rfl)) (cM (i:=7) (ns:=zK) (us:=zK) Tryz.sizeOf48 h5 rfl g3 rfl rfl rfl (eD rfl) rfl rfl (fun j7 (q9:aN G b3 (aK 9 K a2 a3 a0.1.L::aK 63 K a5 a6 a0.1.E::aK 2 K c1 c3 c0::aK 9 K a9 b0 a8::box c4 48 [i64 a0.1.N,i64 a0.1.I,zS a2 a0.1.L.length a3,zS a5 a0.1.E.length a6,zS c1 c0.length c3,zS a9 a8.length b0]::aK 31 K b4 b5 (bZ b1 a0.2)::rows [2] b1 a0.2::box b6 48 zK::L) j7)=>(aB (aG (v:=zS none 0 0) rfl) (aB (aG (v:=i64 5) rfl) (aD (aA ?_)))))))))
     have r0:=aN.nil (α:=aZ) q9 9 K
     have r1:=aN.nil (α:=Edge) r0 63 K
     have r2:=aN.nil (α:=Int) r1 2 K
     have r3:=aN.nil (α:=aZ) r2 9 K
     have j8:aN G b3 (aK 31 K none 0 (bZ ([]:List (Dp.Hd (List Int))) ([]:List (List Int)))::rows [2] ([]:List (Dp.Hd (List Int))) ([]:List (List Int))::aK 9 K none 0 ([]:List aZ)::aK 2 K none 0 ([]:List Int)::aK 63 K none 0 ([]:List Edge)::aK 9 K none 0 ([]:List aZ)::aK 9 K a2 a3 a0.1.L::aK 63 K a5 a6 a0.1.E::aK 2 K c1 c3 c0::aK 9 K a9 b0 a8::box c4 48 [i64 a0.1.N,i64 a0.1.I,zS a2 a0.1.L.length a3,zS a5 a0.1.E.length a6,zS c1 c0.length c3,zS a9 a8.length b0]::aK 31 K b4 b5 (bZ b1 a0.2)::rows [2] b1 a0.2::box b6 48 zK::L) j7:=aN.nil (α:=Cells _) (aN.rowsNil (α:=(List Int)) (tys:=[2]) r3) 31 K
     cases zI hm
     exact bC (aS (aFr Tryz.results21 (oA (vs:=zK) rfl nV j8 (i:=13) rfl g3 rfl) (wU rfl rfl) (wU rfl rfl) ⟨none,0,none,0,none,0,none,0,none,0,([]:List (Dp.Hd (List Int))),rfl,rfl,(aN.weakK (aN.arr 14 [5,4,3,2,0,1] j8 rfl) b8)⟩))
    ·refine aO h7 rfl (aY (aA (aH (aC (aB (dO (us:=[i64 a0.1.N,i64 a0.1.I,zS a2 a0.1.L.length a3,zS a5 a0.1.E.length a6,zS c1 c0.length c3,zS a9 a8.length b0]) nV h5 (i:=4) rfl j5 rfl rfl) (aB (aF p1) (cM (i:=7) (ns:=[i64 a0.1.N,i64 a0.1.I,zS a2 a0.1.L.length a3,zS a5 a0.1.E.length a6,zS c1 c0.length c3,zS a9 a8.length b0]) (us:=[i64 a0.1.N,i64 a0.1.I,zS a2 a0.1.L.length a3,zS a5 a0.1.E.length a6,zS c1 c0.length c3,zS a9 a8.length b0]) Tryz.sizeOf48 h5 rfl g3 rfl rfl rfl (eD rfl) rfl rfl (fun r5 (j9:aN G b3 (aK 9 K a2 a3 a0.1.L::aK 63 K a5 a6 a0.1.E::aK 2 K c1 c3 c0::aK 9 K a9 b0 a8::box c4 48 [i64 a0.1.N,i64 a0.1.I,zS a2 a0.1.L.length a3,zS a5 a0.1.E.length a6,zS c1 c0.length c3,zS a9 a8.length b0]::aK 31 K b4 b5 (bZ b1 a0.2)::rows [2] b1 a0.2::box b6 48 [i64 a0.1.N,i64 a0.1.I,zS a2 a0.1.L.length a3,zS a5 a0.1.E.length a6,zS c1 c0.length c3,zS a9 a8.length b0]::L) r5)=>(aB (aG (v:=zS b4 a0.2.length b5) rfl) (aB (aG (v:=i64 0) rfl) (aD (aA ?_))))))))))))
     cases zI hm
     exact bC (aFr Tryz.results21 (oA (vs:=[i64 a0.1.N,i64 a0.1.I,zS a2 a0.1.L.length a3,zS a5 a0.1.E.length a6,zS c1 c0.length c3,zS a9 a8.length b0]) rfl nV j9 (i:=7) rfl g3 rfl) (wU rfl rfl) (wU rfl rfl) ⟨a2,a3,a5,a6,c1,c3,a9,b0,b4,b5,b1,rfl,g2,(aN.weakK (aN.arr 8 [0,1,2,3,5,6] j9 rfl) b8)⟩)
   have r7:=aN.nil (α:=Int) p0 2 K
   obtain ⟨x6,r8,hm⟩:=aJ hm
   refine cP r8 (fun (s:(List Int × Int)) f w=>match s with|(c9,c6)=>∃ (d5:Option Addr) (d6:Nat),f 2=zP (some ⟨b9,0,none⟩)∧f 4=zP (some ⟨b6,0,none⟩)∧f 10=zS b4 a0.2.length b5∧f 11=zP (some ⟨c4,0,none⟩)∧f 42=zS b4 a0.2.length b5∧f 43=i64 (a0.2.length:Int)∧f 44=i64 c6∧aN G b3 (aK 2 K d5 d6 c9::aK 9 K a9 b0 a8::box c4 48 [i64 a0.1.N,i64 a0.1.I,zS a2 a0.1.L.length a3,zS a5 a0.1.E.length a6,zS d5 c9.length d6,zS a9 a8.length b0]::aK 9 K a2 a3 a0.1.L::aK 63 K a5 a6 a0.1.E::aK 31 K b4 b5 (bZ b1 a0.2)::rows [2] b1 a0.2::box b6 48 zK::box b9 48 (zE p a1 c2 a4 c5 a7 c8 a10 c11)::L) w) ?_ ?_
   ·exact ⟨none,0,o7,o8,j4,o9,rfl,rfl,rfl,r7⟩
   ·rintro ⟨c9,c6⟩ k0 f x7 b7 r9 ⟨d5,d6,h8,i0,i1,f3,i2,i3,f4,c7⟩
    replace b7:jG p a0 c9 c6=some k0:=b7
    unfold jG at b7
    refine aH (aC (aB (cK f4 i3) (aD (aA (aH ?_)))))
    rcases aM b7 with ⟨i4,b7⟩|⟨i4,b7⟩
    ·refine aQ i4 rfl (aY (aA (aH (bJ (fun f w=>∃ (f5:List Int) (g4:Option Addr) (g5:Nat),kR c6 f5=some k0∧f 2=zP (some ⟨b9,0,none⟩)∧f 4=zP (some ⟨b6,0,none⟩)∧f 10=zS b4 a0.2.length b5∧f 11=zP (some ⟨c4,0,none⟩)∧f 42=zS b4 a0.2.length b5∧f 43=i64 (a0.2.length:Int)∧f 44=i64 c6∧aN G b3 (aK 2 K g4 g5 f5::aK 9 K a9 b0 a8::box c4 48 [i64 a0.1.N,i64 a0.1.I,zS a2 a0.1.L.length a3,zS a5 a0.1.E.length a6,zS g4 f5.length g5,zS a9 a8.length b0]::aK 9 K a2 a3 a0.1.L::aK 63 K a5 a6 a0.1.E::aK 31 K b4 b5 (bZ b1 a0.2)::rows [2] b1 a0.2::box b6 48 zK::box b9 48 (zE p a1 c2 a4 c5 a7 c8 a10 c11)::L) w) ?_ ?_))))
     ·rintro f x8 ⟨f5,g4,g5,b7,s0,s1,s2,s3,s4,s5,s6,s7⟩
      unfold kR at b7
      exact aA (aC (aB (cY s6 rfl) (aB (aF (v:=i64 (wr (c6+1))) rfl) (aD (aA ⟨(f5,wr (c6+1)),(zI b7).symm,g4,g5,s0,s1,s2,s3,s4,s5,rfl,s7⟩)))))
     refine aH (aC (aB (aF f4) ?_))
     obtain ⟨k1,e9,b7⟩:=aJ b7
     obtain ⟨⟨k2,k3⟩,g6⟩:=aLE g2 e9
     have s8:=dH c7 (i:=5) rfl (aAl g2 e9 g6)
     refine aB (eY eQ rfl s8 i2 rfl f4 e9) (aB (tQ (t:=0) kD c7 (i:=5) rfl (aAl g2 e9 g6) rfl rfl rfl) (aB (aG (v:=i64 c6) rfl) (aB (aG (v:=zS k2 k1.length k3) rfl) (aD (aA (aH (cW (C:=fun w'=>aN G b3 (aK 2 K d5 d6 c9::aK 9 K a9 b0 a8::box c4 48 [i64 a0.1.N,i64 a0.1.I,zS a2 a0.1.L.length a3,zS a5 a0.1.E.length a6,zS d5 c9.length d6,zS a9 a8.length b0]::aK 9 K a2 a3 a0.1.L::aK 63 K a5 a6 a0.1.E::aK 31 K b4 b5 (bZ b1 a0.2)::rows [2] b1 a0.2::box b6 48 zK::box b9 48 (zE p a1 c2 a4 c5 a7 c8 a10 c11)::L) w') bQ (by kernel_rfl) (aN.mono c7 (dE.drew _)) (aT (fun _ c7=>dO (us:=(zE p a1 c2 a4 c5 a7 c8 a10 c11)) nV c7 (i:=8) rfl h8 rfl rfl) (aT (fun _ c7=>aF (v:=zS k2 k1.length k3) rfl) ?_)))))))))
     obtain ⟨s9,i5,b7⟩:=aJ b7
     have t0:=dH (aN.rowOut (i:=6) c7 rfl g6 (aIT e9)) (i:=0) rfl i5
     refine aT (fun _ c7=>eY cG rfl t0 rfl rfl rfl i5) (aT (fun _ c7=>tQ (t:=0) dF (aN.rowOut (i:=6) c7 rfl g6 (aIT e9)) (i:=0) rfl i5 rfl rfl rfl) ?_)
     obtain ⟨t1,t2,b7⟩:=aJ b7
     refine iV (vs:=[zA (zEa p a1 c2 a4 c5 a7 c8 a10 c11),i64 s9]) (v:=zB t1) Tryz.call59 rfl (fun _ c7=>(aFL c7 (h3.mono b8) (h6.mono b8) (h9.mono b8) (h12.mono b8) t2)) (dD (fun x9 i6=>(aA ?_)))
     rcases aM b7 with ⟨i7,b7⟩|⟨i7,b7⟩
     ·refine aQ i7 rfl (aC (aB (bD (t':=4) sV f3 rfl) (aB (bY kD i6 (i:=2) rfl rfl rfl) (aB (aF (v:=i64 c6) rfl) (dA (Kt:=K) (xs:=([c6]:List Int)) (cs:=[i64 c6]) (vs:=[(0,i64 c6)]) cG sU rfl rfl i6 rfl (by kernel_rfl) rfl rfl rfl ⟨rfl,trivial⟩ (fun t3 t4 (t5:aN G b3 (aK 2 K t3 1 ([c6]:List Int)::aK 2 K d5 d6 c9::aK 9 K a9 b0 a8::box c4 48 [i64 a0.1.N,i64 a0.1.I,zS a2 a0.1.L.length a3,zS a5 a0.1.E.length a6,zS d5 c9.length d6,zS a9 a8.length b0]::aK 9 K a2 a3 a0.1.L::aK 63 K a5 a6 a0.1.E::aK 31 K b4 b5 (bZ b1 a0.2)::rows [2] b1 a0.2::box b6 48 zK::box b9 48 (zE p a1 c2 a4 c5 a7 c8 a10 c11)::L) t4)=>?_))))))
      obtain ⟨f0,t6,b7⟩:=aJ b7
      exact jO (i:=0) cG Tryz.underlying31 sU rfl rfl t5 rfl b8 b8 t6 rfl rfl rfl rfl (fun _ h=>h) (fun f1 f2 t7 (t8:aN G b3 (aK 2 K f1 f2 f0::aK 9 K a9 b0 a8::box c4 48 [i64 a0.1.N,i64 a0.1.I,zS a2 a0.1.L.length a3,zS a5 a0.1.E.length a6,zS d5 c9.length d6,zS a9 a8.length b0]::aK 9 K a2 a3 a0.1.L::aK 63 K a5 a6 a0.1.E::aK 31 K b4 b5 (bZ b1 a0.2)::rows [2] b1 a0.2::box b6 48 zK::box b9 48 (zE p a1 c2 a4 c5 a7 c8 a10 c11)::L) t7)=>(aB (bD (t':=4) sV f3 rfl) (cM (i:=2) (ns:=[zS f1 f0.length f2]) (us:=[i64 a0.1.N,i64 a0.1.I,zS a2 a0.1.L.length a3,zS a5 a0.1.E.length a6,zS f1 f0.length f2,zS a9 a8.length b0]) Tryz.sizeOf31 t8 rfl rfl rfl rfl rfl (eD rfl) rfl rfl (fun t9 (u0:aN G b3 (aK 2 K f1 f2 f0::aK 9 K a9 b0 a8::box c4 48 [i64 a0.1.N,i64 a0.1.I,zS a2 a0.1.L.length a3,zS a5 a0.1.E.length a6,zS f1 f0.length f2,zS a9 a8.length b0]::aK 9 K a2 a3 a0.1.L::aK 63 K a5 a6 a0.1.E::aK 31 K b4 b5 (bZ b1 a0.2)::rows [2] b1 a0.2::box b6 48 zK::box b9 48 (zE p a1 c2 a4 c5 a7 c8 a10 c11)::L) t9)=>(aD (bO (aA ⟨f0,f1,f2,b7,h8,i0,i1,f3,i2,i3,f4,u0⟩)))))))
     ·exact aO i7 rfl (aY (bO (aA ⟨c9,d5,d6,b7,h8,i0,i1,f3,i2,i3,f4,i6⟩)))
    ·refine aO i4 rfl (cN (bB (bB ?_)))
     have u1:=r9 _ (zI b7).symm
     subst u1
     have hm:(nA a0 a8 c9)=some R:=hm
     exact bS (aA ⟨c9,d5,d6,hm,i0,i1,f3,(aN.arr 9 [0,1,2,3,4,5,6,7] c7 rfl)⟩)
  obtain ⟨y0,k4,u2,u3,k5⟩:=aN.lendB (i:=0) o6 rfl
  obtain ⟨u4,i8,u5,u6,k6⟩:=aN.lendB (i:=13) u3 rfl
  refine aBh (C:=fun w'=>∃ L',aN G u4 L' w') [6] bQ (by kernel_rfl) (fun y1 u7=>?_)
  have d9:=aN.mono u6 u7
  refine eS (i:=0) rfl (by kernel_rfl) ⟨_,d9⟩ (fun _ ⟨_,d9⟩=>iU (t:=0) (vs:=(zC a0.1 a2 a3 a5 a6)) kE d9 (u2.mono i8) rfl rfl rfl) (eS (i:=1) rfl (by kernel_rfl) ⟨_,d9⟩ (fun _ _=>bD (t':=5) aAU rfl rfl) (eS (i:=2) rfl (by kernel_rfl) ⟨_,d9⟩ (fun _ ⟨_,d9⟩=>bP (t:=5) jK d9 u5 rfl rfl) (jW (i:=3) (j:=5) (by kernel_rfl) rfl rfl ?_ ?_)))
  ·obtain ⟨e2,u8,hm⟩:=aJ hm
   refine aX (vs:=[zS a10 p.C.length c11]) Tryz.call58 rfl (dB d9 (h12.mono (zL (zL b8 k4) i8)) u8) ?_
   rintro _ y2 ⟨e3,e4,rfl,i9⟩
   refine aD (aA ⟨fun _=>⟨_,i9⟩,?_⟩)
   refine eS (i:=4) rfl (by kernel_rfl) ⟨_,i9⟩ (fun _ _=>gW (vs:=[(0,zA (zCa a0.1 a2 a3 a5 a6)),(2,zS e3 e2.length e4)]) (cs:=[i64 a0.1.N,i64 a0.1.I,zS a2 a0.1.L.length a3,zS a5 a0.1.E.length a6,zS none 0 0,zS e3 e2.length e4]) yO rfl (by kernel_rfl)) (bW (i:=5) (by kernel_rfl) rfl (cL (vs:=zK) Tryz.zeroValue48 i9 rfl (fun k7 y3 k8=>(aD (aA ⟨fun _=>⟨_,k8⟩,?_⟩)))))
   refine bW (i:=6) (by kernel_rfl) rfl ?_
   have u9:=k6 _ _ k8
   have v0:=k5 _ _ u9
   refine cM (i:=2) (ns:=[i64 a0.1.N,i64 a0.1.I,zS a2 a0.1.L.length a3,zS a5 a0.1.E.length a6,zS none 0 0,zS e3 e2.length e4]) (us:=[i64 a0.1.N,i64 a0.1.I,zS a2 a0.1.L.length a3,zS a5 a0.1.E.length a6,zS none 0 0,zS e3 e2.length e4]) Tryz.sizeOf48 v0 rfl rfl rfl rfl rfl (eD rfl) rfl rfl (fun v1 (v2:aN G b3 (box g9 30 (zC a0.1 a2 a3 a5 a6)::box b9 48 (zE p a1 c2 a4 c5 a7 c8 a10 c11)::box k7 48 [i64 a0.1.N,i64 a0.1.I,zS a2 a0.1.L.length a3,zS a5 a0.1.E.length a6,zS none 0 0,zS e3 e2.length e4]::aK 9 K e3 e4 e2::aK 4 K g0 g1 f9::aK 9 K a2 a3 a0.1.L::aK 63 K a5 a6 a0.1.E::aK 31 K b4 b5 (bZ b1 a0.2)::rows [2] b1 a0.2::aK 31 b3 d0 d1 b2.1::gX d2 b2.2.1::aK 22 b3 d3 d4 b2.2.2::box d8 98 [i64 p.S.N,i64 p.S.I,zS a1 p.S.L.length c2,zS a4 p.S.E.length c5,zS a7 p.M.length c8,zS a10 p.C.length c11,i64 r_.N,i64 r_.I,zS a13 r_.L.length c14,zS a16 r_.E.length c17,zS d0 b2.1.length d1,zM (some d2),zS d3 b2.2.2.length d4]::aK 4 K e8 1 ([true]:List Bool)::aK 30 K d7 1 ([r_]:List cH)::box b6 48 zK::box e0 30 (zC r_ a13 c14 a16 c17)::L) v1)=>(aD (aA ⟨aGH rfl,?_⟩)))
   exact fT (by kernel_rfl) (aA ⟨e2,k7,e3,e4,hm,rfl,rfl,rfl,rfl,(aN.arr 17 [3,2,5,6,7,8,15,1] v2 rfl)⟩)
  ·refine cL (vs:=zK) Tryz.zeroValue48 d9 rfl (fun k9 y4 l0=>(aD (aA ⟨fun _=>⟨_,l0⟩,?_⟩)))
   refine bW (i:=3) (by kernel_rfl) rfl ?_
   obtain ⟨e5,v3,hm⟩:=aJ hm
   refine aX (vs:=[zS a10 p.C.length c11]) Tryz.call58 rfl (dB l0 (h12.mono (zL (zL b8 k4) i8)) v3) ?_
   rintro _ y5 ⟨e6,e7,rfl,j0⟩
   refine aD (aA ⟨fun _=>⟨_,j0⟩,?_⟩)
   refine eS (i:=4) rfl (by kernel_rfl) ⟨_,j0⟩ (fun _ _=>gW (vs:=[(0,zA (zCa a0.1 a2 a3 a5 a6)),(2,zS e6 e5.length e7)]) (cs:=[i64 a0.1.N,i64 a0.1.I,zS a2 a0.1.L.length a3,zS a5 a0.1.E.length a6,zS none 0 0,zS e6 e5.length e7]) yO rfl (by kernel_rfl)) (bW (i:=6) (by kernel_rfl) rfl ?_)
   have v4:=k6 _ _ j0
   have v5:=k5 _ _ v4
   refine cM (i:=3) (ns:=[i64 a0.1.N,i64 a0.1.I,zS a2 a0.1.L.length a3,zS a5 a0.1.E.length a6,zS none 0 0,zS e6 e5.length e7]) (us:=[i64 a0.1.N,i64 a0.1.I,zS a2 a0.1.L.length a3,zS a5 a0.1.E.length a6,zS none 0 0,zS e6 e5.length e7]) Tryz.sizeOf48 v5 rfl rfl rfl rfl rfl (eD rfl) rfl rfl (fun v6 (v7:aN G b3 (box g9 30 (zC a0.1 a2 a3 a5 a6)::box b9 48 (zE p a1 c2 a4 c5 a7 c8 a10 c11)::aK 9 K e6 e7 e5::box k9 48 [i64 a0.1.N,i64 a0.1.I,zS a2 a0.1.L.length a3,zS a5 a0.1.E.length a6,zS none 0 0,zS e6 e5.length e7]::aK 4 K g0 g1 f9::aK 9 K a2 a3 a0.1.L::aK 63 K a5 a6 a0.1.E::aK 31 K b4 b5 (bZ b1 a0.2)::rows [2] b1 a0.2::aK 31 b3 d0 d1 b2.1::gX d2 b2.2.1::aK 22 b3 d3 d4 b2.2.2::box d8 98 [i64 p.S.N,i64 p.S.I,zS a1 p.S.L.length c2,zS a4 p.S.E.length c5,zS a7 p.M.length c8,zS a10 p.C.length c11,i64 r_.N,i64 r_.I,zS a13 r_.L.length c14,zS a16 r_.E.length c17,zS d0 b2.1.length d1,zM (some d2),zS d3 b2.2.2.length d4]::aK 4 K e8 1 ([true]:List Bool)::aK 30 K d7 1 ([r_]:List cH)::box b6 48 zK::box e0 30 (zC r_ a13 c14 a16 c17)::L) v6)=>(aD (aA ⟨aGH rfl,?_⟩)))
   exact fT (by kernel_rfl) (aA ⟨e5,k9,e6,e7,hm,rfl,rfl,rfl,rfl,(aN.arr 17 [2,3,5,6,7,8,15,1] v7 rfl)⟩)
theorem yI {a:cI} {b:cI} {R:Bool} (hs:aN G K (L) w) (h3:cJ K a1 c2 a.S.L) (h6:cJ K a4 c5 a.S.E) (h9:cJ K a7 c8 a.M) (h12:cJ K a10 c11 a.C) (h15:cJ K a13 c14 b.S.L) (h18:cJ K a16 c17 b.S.E) (h21:cJ K a19 c20 b.M) (h24:cJ K a22 c23 b.C) (hm:wJ a b=some R):
  Calls Tryz.prog 22 ([zA (zEa a a1 c2 a4 c5 a7 c8 a10 c11),zA (zEa b a13 c14 a16 c17 a19 c20 a22 c23)]:List Value).toArray w (gV fun v w'=>v=zB R∧aN G K (L) w'):=by
 refine aW Tryz.func22 rfl (by kernel_rfl) (by show (2:Nat)≤23;decide) ?_
 unfold wJ at hm
 refine aH (aC (fC (v:=zA (zEa a a1 c2 a4 c5 a7 c8 a10 c11)) (vs:=(zE a a1 c2 a4 c5 a7 c8 a10 c11)) hs rfl rfl (fun b8 b9 b0=>(fC (v:=zA (zEa b a13 c14 a16 c17 a19 c20 a22 c23)) (vs:=(zE b a13 c14 a16 c17 a19 c20 a22 c23)) b0 rfl rfl (fun c0 c1 a3=>(aB (aG (v:=zB false) rfl) (aD (aA (aH (aH (aC (aB (bD (t':=0) kK rfl rfl) (aB (dO (us:=(zC a.S a1 c2 a4 c5)) kE a3 (i:=1) rfl rfl rfl rfl) (aB (bD (t':=0) kK rfl rfl) (aB (dO (us:=(zC b.S a13 c14 a16 c17)) kE a3 (i:=0) rfl rfl rfl rfl) ?_)))))))))))))))
 obtain ⟨c3,b1,hm⟩:=aJ hm
 refine aX (vs:=[zA (zCa a.S a1 c2 a4 c5),zA (zCa b.S a13 c14 a16 c17)]) Tryz.call12 rfl (aHj a3 h3 h6 h15 h18 b1) ?_
 rintro _ c4 ⟨rfl,a0⟩
 refine aB (eP rfl) (aD (aA ?_))
 rcases aM hm with ⟨a5,hm⟩|⟨a5,hm⟩
 ·refine aQ a5 rfl (aH (aC (aB (aG (v:=zB false) rfl) (aD (aA ?_)))))
  cases zI hm
  exact bC (aS (bA Tryz.results22 rfl ⟨rfl,(aN.arr 2 [] a0 rfl)⟩))
 ·refine aO a5 rfl (aY (aA (aH (aH (aC (aB (bD (t':=4) sV rfl rfl) (aB (bY kD a0 (i:=1) rfl rfl rfl) (aB (bD (t':=4) sV rfl rfl) (aB (bY kD a0 (i:=0) rfl rfl rfl) ?_)))))))))
  obtain ⟨c6,b3,hm⟩:=aJ hm
  refine aX (vs:=[zS a7 a.M.length c8,zS a19 b.M.length c20]) Tryz.call38 rfl (aEw a0 h9 h21 b3) ?_
  rintro _ c7 ⟨rfl,a2⟩
  refine aB (eP rfl) (aD (aA ?_))
  rcases aM hm with ⟨a6,hm⟩|⟨a6,hm⟩
  ·refine aQ a6 rfl (aH (aC (aB (aG (v:=zB false) rfl) (aD (aA ?_)))))
   cases zI hm
   exact bC (aS (bA Tryz.results22 rfl ⟨rfl,(aN.arr 2 [] a2 rfl)⟩))
  ·refine aO a6 rfl (aY (aA (aH (aH (aC (aB (bD (t':=5) aAU rfl rfl) (aB (bY jK a2 (i:=1) rfl rfl rfl) (aB (bD (t':=5) aAU rfl rfl) (aB (bY jK a2 (i:=0) rfl rfl rfl) ?_)))))))))
   obtain ⟨c9,b5,hm⟩:=aJ hm
   refine aX (vs:=[zS a10 a.C.length c11,zS a22 b.C.length c23]) Tryz.call13 rfl (aDp a2 h12 h24 b5) ?_
   rintro _ d0 ⟨rfl,a9⟩
   refine aB (eP rfl) (aD (aA ?_))
   rcases aM hm with ⟨a8,hm⟩|⟨a8,hm⟩
   ·refine aQ a8 rfl (aH (aC (aB (aG (v:=zB false) rfl) (aD (aA ?_)))))
    cases zI hm
    exact bC (aS (bA Tryz.results22 rfl ⟨rfl,(aN.arr 2 [] a9 rfl)⟩))
   ·refine aO a8 rfl (aY (aA (aH (aC (aB (aG (v:=zB true) rfl) (aD (aA ?_)))))))
    cases zI hm
    exact bC (bA Tryz.results22 rfl ⟨rfl,(aN.arr 2 [] a9 rfl)⟩)
theorem zF {a:(List (List Int))} {b:(List (List Int))} {R:Bool} (hs:aN G K (L) w) (h3:cJ K a1 c2 a) (h6:cJ K a4 c5 b) (hm:sO a b=some R):
  Calls Tryz.prog 23 ([zS a1 a.length c2,zS a4 b.length c5]:List Value).toArray w (gV fun v w'=>v=zB R∧aN G K (L) w'):=by
 refine aW Tryz.func23 rfl (by kernel_rfl) (by show (2:Nat)≤27;decide) ?_
 unfold sO at hm
 refine aH (aC (aB (aG (v:=zB false) rfl) (aD (aA (aH (aH (aC (aB (aF (v:=zS a1 a.length c2) rfl) (aB (bR (len:=a.length) eQ rfl) (aB (aF (v:=zS a4 b.length c5) rfl) (aB (bR (len:=b.length) eQ rfl) (aB (mO rfl rfl) (aD (aA ?_))))))))))))))
 rcases aM hm with ⟨c7,hm⟩|⟨c7,hm⟩
 ·refine aQ c7 rfl (aH (aC (aB (aG (v:=zB false) rfl) (aD (aA ?_)))))
  cases zI hm
  exact bC (aS (bA Tryz.results23 rfl ⟨rfl,hs⟩))
 ·refine aO c7 rfl (aY (aA (aH (aH (aC (aB (aG (v:=i64 0) rfl) (aD (aA (bJ (fun f w=>sN=some R∧aN G K (L) w) ?_ ?_)))))))))
  ·rintro f w9 ⟨hm,b6⟩
   unfold sN at hm
   refine aA (aH (aC (aB (aG (v:=zB true) rfl) (aD (aA ?_)))))
   cases zI hm
   exact bC (bA Tryz.results23 rfl ⟨rfl,b6⟩)
  obtain ⟨e0,b8,hm⟩:=aJ hm
  refine cP b8 (fun (a3:Int) f w=>f 0=zS a1 a.length c2∧f 1=zS a4 b.length c5∧f 5=i64 a3∧aN G K (L) w) ?_ ?_
  ·exact ⟨rfl,rfl,rfl,hs⟩
  ·rintro a3 b9 f e1 a0 b0 ⟨a7,b1,a5,a2⟩
   replace a0:oV a b a3=some b9:=a0
   unfold oV at a0
   refine aH (aH (aC (aB (aF a5) (aB (aF a7) (aB (bR (len:=a.length) eQ rfl) (aB (cK rfl rfl) (aD (aA ?_))))))))
   rcases aM a0 with ⟨a8,a0⟩|⟨a8,a0⟩
   ·refine aQ a8 rfl (aY (aA (aH (cQ (aH (cW (C:=fun w'=>aN G K (L) w') bQ (by kernel_rfl) (aN.mono a2 (dE.drew _)) (aT (fun _ a2=>aF a7) (aT (fun _ a2=>aF a5) ?_))))))))
    obtain ⟨c0,b2,a0⟩:=aJ a0
    refine aT (fun _ a2=>cV eQ rfl h3 rfl rfl rfl b2) ?_
    obtain ⟨e2,c1,c3⟩:=cJ.el (sz:=1) rfl h3 b2
    obtain ⟨c4,c6,rfl,h48⟩:=c3
    refine aT (fun _ a2=>bP (t:=0) kD a2 c1 rfl rfl) (aT (fun _ a2=>aF b1) (aT (fun _ a2=>aF a5) ?_))
    obtain ⟨c8,b3,a0⟩:=aJ a0
    refine aT (fun _ a2=>cV eQ rfl h6 rfl rfl rfl b3) ?_
    obtain ⟨e3,c9,d0⟩:=cJ.el (sz:=1) rfl h6 b3
    obtain ⟨d1,d2,rfl,d3⟩:=d0
    refine aT (fun _ a2=>bP (t:=0) kD a2 c9 rfl rfl) ?_
    obtain ⟨d4,d5,a0⟩:=aJ a0
    refine iV (vs:=[zS c4 c0.length c6,zS d1 c8.length d2]) (v:=zB d4) Tryz.call38 rfl (fun _ a2=>(aEw a2 h48 d3 d5)) (aT (fun _ a2=>eP rfl) (dD (fun e4 b4=>(aA ?_))))
    rcases aM a0 with ⟨a9,a0⟩|⟨a9,a0⟩
    ·refine aQ a9 rfl (aH (aC (aB (aG (v:=zB false) rfl) (aD (aA (bC (bN (aS (aS ?_)))))))))
     have d6:=b0 _ (zI a0).symm
     subst d6
     have hm:(some false)=some R:=hm
     cases zI hm
     exact bN (aS (aS (bA Tryz.results23 rfl ⟨rfl,b4⟩)))
    ·exact aO a9 rfl (aY (bO (aA (aC (aB (aF a5) (aB (cY rfl rfl) (aB (aG (v:=i64 (wr (a3+1))) rfl) (aD (aA ⟨wr (a3+1),(zI a0).symm,a7,b1,rfl,b4⟩)))))))))
   ·refine aO a8 rfl (cN (bB (bB ?_)))
    have d8:=b0 _ (zI a0).symm
    subst d8
    have hm:(sN)=some R:=hm
    exact bS (aA ⟨hm,a2⟩)
theorem aDs {a_System_States:Int} {a_System_Initial:Int} {a_System_Labels:(List aZ)} {a_System_Edges:(List Edge)} {a_Marked:(List Int)} {a_Controlled:(List aZ)} {k:Int} {R:(Int × (List aZ) × (List Edge) × (List Int) × (List aZ))} (hs:aN G K (aK 9 K a1 c2 a_System_Labels::aK 63 K a3 c4 a_System_Edges::aK 2 K a5 c6 a_Marked::aK 9 K a7 c8 a_Controlled::L) w)  (hm:wK a_System_States a_System_Initial a_System_Labels a_System_Edges a_Marked a_Controlled k=some R):
  Calls Tryz.prog 24 ([zA #[i64 a_System_States,i64 a_System_Initial,zS a1 a_System_Labels.length c2,zS a3 a_System_Edges.length c4,zS a5 a_Marked.length c6,zS a7 a_Controlled.length c8],i64 k]:List Value).toArray w (gV fun v w'=>v=i64 R.1∧a_System_Labels.length=R.2.1.length∧a_System_Edges.length=R.2.2.1.length∧a_Marked.length=R.2.2.2.1.length∧a_Controlled.length=R.2.2.2.2.length∧aN G K (aK 9 K a1 c2 R.2.1::aK 63 K a3 c4 R.2.2.1::aK 2 K a5 c6 R.2.2.2.1::aK 9 K a7 c8 R.2.2.2.2::L) w'):=by
 refine aW Tryz.func24 rfl (by kernel_rfl) (by show (2:Nat)≤18;decide) ?_
 unfold wK at hm
 refine aH (aC (fC (v:=zA #[i64 a_System_States,i64 a_System_Initial,zS a1 a_System_Labels.length c2,zS a3 a_System_Edges.length c4,zS a5 a_Marked.length c6,zS a7 a_Controlled.length c8]) (vs:=[i64 a_System_States,i64 a_System_Initial,zS a1 a_System_Labels.length c2,zS a3 a_System_Edges.length c4,zS a5 a_Marked.length c6,zS a7 a_Controlled.length c8]) hs rfl rfl (fun b9 b8 b0=>(aB (aG (v:=i64 0) rfl) (aD (aA (aH (aC (aB (bD (t':=0) kK rfl rfl) (aB (dO (us:=[i64 a_System_States,i64 a_System_Initial,zS a1 a_System_Labels.length c2,zS a3 a_System_Edges.length c4]) kE b0 (i:=0) rfl rfl rfl rfl) (aB (aF (v:=i64 k) rfl) ?_)))))))))))
 have hs12:aN G K (aK 9 K a1 c2 a_System_Labels::aK 63 K a3 c4 a_System_Edges::box b9 48 [i64 a_System_States,i64 a_System_Initial,zS a1 a_System_Labels.length c2,zS a3 a_System_Edges.length c4,zS a5 a_Marked.length c6,zS a7 a_Controlled.length c8]::aK 2 K a5 c6 a_Marked::aK 9 K a7 c8 a_Controlled::L) b8:=(aN.arr 3 [1,2,0] b0 rfl)
 obtain ⟨a0,c0,hm⟩:=aJ hm
 refine aX (vs:=[zA #[i64 a_System_States,i64 a_System_Initial,zS a1 a_System_Labels.length c2,zS a3 a_System_Edges.length c4],i64 k]) Tryz.call14 rfl (aFl hs12 c0) ?_
 rintro _ a8 ⟨rfl,b1,b2,c1⟩
 have c3:aN G K (aK 9 K a1 c2 a0.2.1::aK 63 K a3 c4 a0.2.2::box b9 48 [i64 a_System_States,i64 a_System_Initial,zS a1 a0.2.1.length c2,zS a3 a_System_Edges.length c4,zS a5 a_Marked.length c6,zS a7 a_Controlled.length c8]::aK 2 K a5 c6 a_Marked::aK 9 K a7 c8 a_Controlled::L) a8:=Eq.mp (congrArg (fun n=>aN G K (aK 9 K a1 c2 a0.2.1::aK 63 K a3 c4 a0.2.2::box b9 48 [i64 a_System_States,i64 a_System_Initial,zS a1 n c2,zS a3 a_System_Edges.length c4,zS a5 a_Marked.length c6,zS a7 a_Controlled.length c8]::aK 2 K a5 c6 a_Marked::aK 9 K a7 c8 a_Controlled::L) a8) b1) c1
 have b3:aN G K (aK 9 K a1 c2 a0.2.1::aK 63 K a3 c4 a0.2.2::box b9 48 [i64 a_System_States,i64 a_System_Initial,zS a1 a0.2.1.length c2,zS a3 a0.2.2.length c4,zS a5 a_Marked.length c6,zS a7 a_Controlled.length c8]::aK 2 K a5 c6 a_Marked::aK 9 K a7 c8 a_Controlled::L) a8:=Eq.mp (congrArg (fun n=>aN G K (aK 9 K a1 c2 a0.2.1::aK 63 K a3 c4 a0.2.2::box b9 48 [i64 a_System_States,i64 a_System_Initial,zS a1 a0.2.1.length c2,zS a3 n c4,zS a5 a_Marked.length c6,zS a7 a_Controlled.length c8]::aK 2 K a5 c6 a_Marked::aK 9 K a7 c8 a_Controlled::L) a8) b2) c3
 refine aB (aG (v:=i64 a0.1) rfl) (aD (aA (aH (aC (aB (bD (t':=4) sV rfl rfl) (aB (bY kD b3 (i:=2) rfl rfl rfl) (aB (aF (v:=i64 a0.1) rfl) ?_)))))))
 have c5:aN G K (aK 2 K a5 c6 a_Marked::aK 9 K a1 c2 a0.2.1::aK 63 K a3 c4 a0.2.2::box b9 48 [i64 a_System_States,i64 a_System_Initial,zS a1 a0.2.1.length c2,zS a3 a0.2.2.length c4,zS a5 a_Marked.length c6,zS a7 a_Controlled.length c8]::aK 9 K a7 c8 a_Controlled::L) a8:=(aN.arr 4 [3,0,1,2] b3 rfl)
 obtain ⟨a2,c7,hm⟩:=aJ hm
 refine aX (vs:=[zS a5 a_Marked.length c6,i64 a0.1]) Tryz.call42 rfl (aCx c5 c7) ?_
 rintro _ a9 ⟨rfl,b4,c9⟩
 have b5:aN G K (aK 2 K a5 c6 a2.2::aK 9 K a1 c2 a0.2.1::aK 63 K a3 c4 a0.2.2::box b9 48 [i64 a_System_States,i64 a_System_Initial,zS a1 a0.2.1.length c2,zS a3 a0.2.2.length c4,zS a5 a2.2.length c6,zS a7 a_Controlled.length c8]::aK 9 K a7 c8 a_Controlled::L) a9:=Eq.mp (congrArg (fun n=>aN G K (aK 2 K a5 c6 a2.2::aK 9 K a1 c2 a0.2.1::aK 63 K a3 c4 a0.2.2::box b9 48 [i64 a_System_States,i64 a_System_Initial,zS a1 a0.2.1.length c2,zS a3 a0.2.2.length c4,zS a5 n c6,zS a7 a_Controlled.length c8]::aK 9 K a7 c8 a_Controlled::L) a9) b4) c9
 refine aB (aG (v:=i64 a2.1) rfl) (aD (aA (aH (aC (aB (bD (t':=5) aAU rfl rfl) (aB (bY jK b5 (i:=3) rfl rfl rfl) (aB (aF (v:=i64 a2.1) rfl) ?_)))))))
 have d0:aN G K (aK 9 K a7 c8 a_Controlled::aK 2 K a5 c6 a2.2::aK 9 K a1 c2 a0.2.1::aK 63 K a3 c4 a0.2.2::box b9 48 [i64 a_System_States,i64 a_System_Initial,zS a1 a0.2.1.length c2,zS a3 a0.2.2.length c4,zS a5 a2.2.length c6,zS a7 a_Controlled.length c8]::L) a9:=(aN.arr 5 [4,0,1,2,3] b5 rfl)
 obtain ⟨a6,d1,hm⟩:=aJ hm
 refine aX (vs:=[zS a7 a_Controlled.length c8,i64 a2.1]) Tryz.call15 rfl (aBO d0 d1) ?_
 rintro _ b6 ⟨rfl,b7,d2⟩
 have d3:aN G K (aK 9 K a7 c8 a6.2::aK 2 K a5 c6 a2.2::aK 9 K a1 c2 a0.2.1::aK 63 K a3 c4 a0.2.2::box b9 48 [i64 a_System_States,i64 a_System_Initial,zS a1 a0.2.1.length c2,zS a3 a0.2.2.length c4,zS a5 a2.2.length c6,zS a7 a6.2.length c8]::L) b6:=Eq.mp (congrArg (fun n=>aN G K (aK 9 K a7 c8 a6.2::aK 2 K a5 c6 a2.2::aK 9 K a1 c2 a0.2.1::aK 63 K a3 c4 a0.2.2::box b9 48 [i64 a_System_States,i64 a_System_Initial,zS a1 a0.2.1.length c2,zS a3 a0.2.2.length c4,zS a5 a2.2.length c6,zS a7 n c8]::L) b6) b7) d2
 refine aB (aG (v:=i64 a6.1) rfl) (aD (aA (aH (aC (aB (aF (v:=i64 a6.1) rfl) (aB (aG (v:=i64 a6.1) rfl) (aD (aA ?_))))))))
 cases zI hm
 exact bC (bA Tryz.results24 rfl ⟨rfl,b1,b2,b4,b7,(aN.arr 5 [2,3,1,0] d3 rfl)⟩)
theorem aGv {a:(List (List Int))} {hd3:List (Dp.Hd (List Int))} {k:Int} {R:(Int × (List (List Int)))} (hs:aN G K (aK 31 K a1 c2 (bZ hd3 a)::rows [2] hd3 a::L) w) (hl4:List.length hd3=List.length a) (hm:uV a k=some R):
  Calls Tryz.prog 25 ([zS a1 a.length c2,i64 k]:List Value).toArray w (gV fun v w'=>∃ (rh0:List (Dp.Hd (List Int))),v=i64 R.1∧a.length=R.2.length∧List.length rh0=List.length R.2∧aN G K (aK 31 K a1 c2 (bZ rh0 R.2)::rows [2] rh0 R.2::L) w'):=by
 refine aW Tryz.func25 rfl (by kernel_rfl) (by show (2:Nat)≤19;decide) ?_
 unfold uV at hm
 refine aH (aC (aB (aG (v:=i64 0) rfl) (aD (aA (aH (aH (aC (aB (aG (v:=i64 0) rfl) (aD (aA (bJ (fun f w=>∃ (k5:Int) (a6:List (List Int)) (a9:List (Dp.Hd (List Int))),tL k5 a6=some R∧f 1=i64 k5∧List.length a9=List.length a6∧a.length=a6.length∧aN G K (aK 31 K a1 c2 (bZ a9 a6)::rows [2] a9 a6::L) w) ?_ ?_)))))))))))
 ·rintro f e3 ⟨k5,a6,a9,hm,c6,c7,c8,c9⟩
  unfold tL at hm
  refine aA (aH (aC (aB (aF c6) (aB (aG (v:=i64 k5) rfl) (aD (aA ?_))))))
  cases zI hm
  exact bC (bA Tryz.results25 rfl ⟨a9,rfl,c8,c7,c9⟩)
 obtain ⟨e4,d1,hm⟩:=aJ hm
 refine cP d1 (fun (s:(List (List Int) × Int × Int)) f w=>match s with|(a0,k34,a4)=>∃ (a3:List (Dp.Hd (List Int))),f 0=zS a1 a0.length c2∧f 1=i64 k34∧f 5=i64 a4∧List.length a3=List.length a0∧a.length=a0.length∧aN G K (aK 31 K a1 c2 (bZ a3 a0)::rows [2] a3 a0::L) w) ?_ ?_
 ·exact ⟨hd3,rfl,rfl,rfl,hl4,rfl,hs⟩
 ·rintro ⟨a0,k34,a4⟩ d2 f c1 a2 d3 ⟨a3,b4,c3,b5,a7,c4,b1⟩
  replace a2:jT a0 k34 a4=some d2:=a2
  unfold jT at a2
  refine aH (aH (aC (aB (aF b5) (aB (aF b4) (aB (bR (len:=a0.length) eQ rfl) (aB (cK rfl rfl) (aD (aA ?_))))))))
  rcases aM a2 with ⟨b6,a2⟩|⟨b6,a2⟩
  ·refine aQ b6 rfl (aY (aA (aH (cQ (aC (aB (aF b4) (aB (aF b5) ?_)))))))
   obtain ⟨b7,a8,a2⟩:=aJ a2
   obtain ⟨⟨b8,b9⟩,b2⟩:=aLE a7 a8
   have d4:=dH b1 (i:=0) rfl (aAl a7 a8 b2)
   refine aB (eY eQ rfl d4 rfl rfl rfl a8) (aB (tQ (t:=0) kD b1 (i:=0) rfl (aAl a7 a8 b2) rfl rfl rfl) (aB (aF c3) ?_))
   have d5:aN G K (aK 31 K a1 c2 (bZ a3 a0)::rows [2] ((a3).eraseIdx a4.toNat) ((a0).eraseIdx a4.toNat)::aK 2 K b8 b9 b7::L) c1:=aN.focusR (i:=0) b1 rfl rfl b2 a8
   have d6:aN G K (aK 2 K b8 b9 b7::aK 31 K a1 c2 (bZ a3 a0)::rows [2] ((a3).eraseIdx a4.toNat) ((a0).eraseIdx a4.toNat)::L) c1:=(aN.arr 3 [2,0,1] d5 rfl)
   obtain ⟨c5,d7,a2⟩:=aJ a2
   refine aX (vs:=[zS b8 b7.length b9,i64 k34]) Tryz.call42 rfl (aCx d6 d7) ?_
   rintro _ d8 ⟨rfl,d9,e0⟩
   obtain ⟨c0,b3,a2⟩:=aJ a2
   have e1:aN G K (aK 31 K a1 c2 (bZ a3 c0)::rows [2] a3 c0::L) d8:=aN.unfocusR (tys:=[2]) e0 a7 b2 a8 d9 b3
   exact aB (aG (v:=i64 c5.1) rfl) (aD (bO (aA (aC (aB (aF b5) (aB (cY rfl rfl) (aB (aG (v:=i64 (wr (a4+1))) rfl) (aD (aA ⟨(c0,c5.1,wr (a4+1)),(zI a2).symm,a3,(Eq.trans b4 (congrArg (fun n=>zS a1 n c2) (jM b3))),rfl,rfl,(a7.trans (jM b3)),(c4.trans (jM b3)),e1⟩)))))))))
  ·refine aO b6 rfl (cN (bB (bB ?_)))
   have e2:=d3 _ (zI a2).symm
   subst e2
   have hm:(tL k34 a0)=some R:=hm
   exact bS (aA ⟨k34,a0,a3,hm,c3,a7,c4,b1⟩)
theorem aDt {a:cI} {k:Int} {R:Int} (hs:aN G K (L) w) (h3:cJ K a1 c2 a.S.L) (h6:cJ K a4 c5 a.S.E) (h9:cJ K a7 c8 a.M) (h12:cJ K a10 c11 a.C) (hm:wL a k=some R):
  Calls Tryz.prog 26 ([zA (zEa a a1 c2 a4 c5 a7 c8 a10 c11),i64 k]:List Value).toArray w (gV fun v w'=>v=i64 R∧aN G K (L) w'):=by
 refine aW Tryz.func26 rfl (by kernel_rfl) (by show (2:Nat)≤24;decide) ?_
 unfold wL at hm
 refine aH (aC (fC (v:=zA (zEa a a1 c2 a4 c5 a7 c8 a10 c11)) (vs:=(zE a a1 c2 a4 c5 a7 c8 a10 c11)) hs rfl rfl (fun c0 c1 b1=>(aB (aG (v:=i64 0) rfl) (aD (aA (aH (aC (aB (bD (t':=0) kK rfl rfl) (aB (dO (us:=(zC a.S a1 c2 a4 c5)) kE b1 (i:=0) rfl rfl rfl rfl) (aB (aF (v:=i64 k) rfl) ?_)))))))))))
 obtain ⟨a0,b3,hm⟩:=aJ hm
 refine aX (vs:=[zA (zCa a.S a1 c2 a4 c5),i64 k]) Tryz.call43 rfl (aJJ b1 h3 h6 b3) ?_
 rintro _ c3 ⟨rfl,a5⟩
 refine aB (aG (v:=i64 a0) rfl) (aD (aA (aH (aH (aC (aB (aF (v:=i64 a0) rfl) (aB (cK rfl rfl) (aD (aA ?_)))))))))
 rcases aM hm with ⟨a6,hm⟩|⟨a6,hm⟩
 ·refine aQ a6 rfl (aH (aC (aB (aG (v:=i64 (-1)) rfl) (aD (aA ?_)))))
  cases zI hm
  exact bC (aS (bA Tryz.results26 rfl ⟨rfl,(aN.arr 1 [] a5 rfl)⟩))
 ·refine aO a6 rfl (aY (aA (aH (aC (aB (bD (t':=4) sV rfl rfl) (aB (bY kD a5 (i:=0) rfl rfl rfl) (aB (aF (v:=i64 a0) rfl) ?_)))))))
  obtain ⟨a2,b5,hm⟩:=aJ hm
  refine aX (vs:=[zS a7 a.M.length c8,i64 a0]) Tryz.call44 rfl (aCy a5 h9 b5) ?_
  rintro _ c4 ⟨rfl,a8⟩
  refine aB (aG (v:=i64 a2) rfl) (aD (aA (aH (aH (aC (aB (aF (v:=i64 a2) rfl) (aB (cK rfl rfl) (aD (aA ?_)))))))))
  rcases aM hm with ⟨a9,hm⟩|⟨a9,hm⟩
  ·refine aQ a9 rfl (aH (aC (aB (aG (v:=i64 (-1)) rfl) (aD (aA ?_)))))
   cases zI hm
   exact bC (aS (bA Tryz.results26 rfl ⟨rfl,(aN.arr 1 [] a8 rfl)⟩))
  ·refine aO a9 rfl (aY (aA (aH (aC (aB (bD (t':=5) aAU rfl rfl) (aB (bY jK a8 (i:=0) rfl rfl rfl) (aB (aF (v:=i64 a2) rfl) ?_)))))))
   obtain ⟨a3,b7,hm⟩:=aJ hm
   refine aX (vs:=[zS a10 a.C.length c11,i64 a2]) Tryz.call61 rfl (aBP a8 h12 b7) ?_
   rintro _ c6 ⟨rfl,b2⟩
   refine aB (aG (v:=i64 a3) rfl) (aD (aA (aH (aH (aC (aB (aF (v:=i64 a3) rfl) (aB (cK rfl rfl) (aD (aA ?_)))))))))
   rcases aM hm with ⟨b0,hm⟩|⟨b0,hm⟩
   ·refine aQ b0 rfl (aH (aC (aB (aG (v:=i64 (-1)) rfl) (aD (aA ?_)))))
    cases zI hm
    exact bC (aS (bA Tryz.results26 rfl ⟨rfl,(aN.arr 1 [] b2 rfl)⟩))
   ·refine aO b0 rfl (aY (aA (aH (aC (aB (aF (v:=i64 a3) rfl) (aB (aG (v:=i64 a3) rfl) (aD (aA ?_))))))))
    cases zI hm
    exact bC (bA Tryz.results26 rfl ⟨rfl,(aN.arr 1 [] b2 rfl)⟩)
theorem aBR {a:(List (List Int))} {k:Int} {R:Int} (hs:aN G K (L) w) (h3:cJ K a1 c2 a) (hm:qN a k=some R):
  Calls Tryz.prog 27 ([zS a1 a.length c2,i64 k]:List Value).toArray w (gV fun v w'=>v=i64 R∧aN G K (L) w'):=by
 refine aW Tryz.func27 rfl (by kernel_rfl) (by show (2:Nat)≤21;decide) ?_
 unfold qN at hm
 refine aH (aC (aB (aG (v:=i64 0) rfl) (aD (aA (aH (aH (aC (aB (aG (v:=i64 0) rfl) (aD (aA (bJ (fun f w=>∃ (k4:Int),tM k4=some R∧f 1=i64 k4∧aN G K (L) w) ?_ ?_)))))))))))
 ·rintro f w6 ⟨k4,hm,e5,b6⟩
  unfold tM at hm
  refine aA (aH (aC (aB (aF e5) (aB (aG (v:=i64 k4) rfl) (aD (aA ?_))))))
  cases zI hm
  exact bC (bA Tryz.results27 rfl ⟨rfl,b6⟩)
 obtain ⟨d1,b8,hm⟩:=aJ hm
 refine cP b8 (fun (s:(Int × Int)) f w=>match s with|(a2,a3)=>f 0=zS a1 a.length c2∧f 1=i64 a2∧f 5=i64 a3∧aN G K (L) w) ?_ ?_
 ·exact ⟨rfl,rfl,rfl,hs⟩
 ·rintro ⟨a2,a3⟩ b9 f d2 a0 b1 ⟨a5,b2,a6,a7⟩
  replace a0:jU a a2 a3=some b9:=a0
  unfold jU at a0
  refine aH (aH (aC (aB (aF a6) (aB (aF a5) (aB (bR (len:=a.length) eQ rfl) (aB (cK rfl rfl) (aD (aA ?_))))))))
  rcases aM a0 with ⟨a8,a0⟩|⟨a8,a0⟩
  ·refine aQ a8 rfl (aY (aA (aH (cQ (aH (aC (aB (aF a5) (aB (aF a6) ?_))))))))
   obtain ⟨c0,b3,a0⟩:=aJ a0
   refine aB (cV eQ rfl h3 rfl rfl rfl b3) ?_
   obtain ⟨d3,c1,c3⟩:=cJ.el (sz:=1) rfl h3 b3
   obtain ⟨c4,c45,rfl,c5⟩:=c3
   refine aB (bP (t:=0) kD a7 c1 rfl rfl) (aB (aF b2) ?_)
   obtain ⟨a9,c6,a0⟩:=aJ a0
   refine aX (vs:=[zS c4 c0.length c45,i64 a2]) Tryz.call44 rfl (aCy a7 c5 c6) ?_
   rintro _ d4 ⟨rfl,b4⟩
   refine aB (aG (v:=i64 a9) rfl) (aD (aA (aH (aC (aB (aF (v:=i64 a9) rfl) (aB (cK rfl rfl) (aD (aA ?_))))))))
   rcases aM a0 with ⟨b0,a0⟩|⟨b0,a0⟩
   ·refine aQ b0 rfl (aH (aC (aB (aG (v:=i64 (-1)) rfl) (aD (aA (bC (bN (aS (aS ?_)))))))))
    have c7:=b1 _ (zI a0).symm
    subst c7
    have hm:(some (-1))=some R:=hm
    cases zI hm
    exact bN (aS (aS (bA Tryz.results27 rfl ⟨rfl,b4⟩)))
   ·exact aO b0 rfl (aY (bO (aA (aC (aB (aF a6) (aB (cY rfl rfl) (aB (aG (v:=i64 (wr (a3+1))) rfl) (aD (aA ⟨(a9,wr (a3+1)),(zI a0).symm,a5,rfl,rfl,b4⟩)))))))))
  ·refine aO a8 rfl (cN (bB (bB ?_)))
   have c9:=b1 _ (zI a0).symm
   subst c9
   have hm:(tM a2)=some R:=hm
   exact bS (aA ⟨a2,hm,b2,a7⟩)
end Gv
