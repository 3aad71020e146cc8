/- Walks, printed by program. -/
import Derived.Test.YtnpdckpkipjngaaGreatDoorRWk1
import Derived.Test.YtnpdckpkipjngaaGreatDoorRWk2
set_option linter.all false
namespace Gv
open Go Go.Proofs
set_option maxRecDepth 20000
set_option maxHeartbeats 1000000
variable {G : Env} {K : Hp} {L : List nV} {w : World} {a1 a4 a7 a10 a13 a16 : Option Addr} {c5 c8 c14 c17 c2 : Nat}
theorem aFj {t : dC} {k2 : Nat} {p : dC} {k11 : Nat} {R : (dS × Bool)} (hs : aN G K (L) w) (h3 : fN K a1 k2 [i64 t.States, i64 t.Initial, Value.slice a4 t.Labels.length c5, Value.slice a7 t.Edges.length c8]) (h6 : bX K a4 c5 t.Labels) (h9 : bX K a7 c8 t.Edges) (h12 : fN K a10 k11 [i64 p.States, i64 p.Initial, Value.slice a13 p.Labels.length c14, Value.slice a16 p.Edges.length c17]) (h15 : bX K a13 c14 p.Labels) (h18 : bX K a16 c17 p.Edges) (hm : aAC t p = some R) :
  Calls Tryz.prog 31 ([bZ a1 k2, bZ a10 k11] : List Value).toArray w (fW fun v w' => ∃ (ra0 : Option Addr) (rc0 : Nat) (ra1 : Option Addr) (rc1 : Nat) (ra2 : Option Addr) (rc2 : Nat), v = Value.tuple #[Value.agg #[i64 R.1.System.States, i64 R.1.System.Initial, Value.slice ra0 R.1.System.Labels.length rc0, Value.slice ra1 R.1.System.Edges.length rc1, Value.slice ra2 R.1.Verdicts.length rc2], Value.bool R.2] ∧ aN G K (aT 9 K ra0 rc0 R.1.System.Labels :: aT 63 K ra1 rc1 R.1.System.Edges :: aT 2 K ra2 rc2 R.1.Verdicts :: L) w') := by
 refine aU Tryz.func31 rfl (by kernel_rfl) (by show (2 : Nat) ≤ 156; decide) ?_
 unfold aAC at hm
 refine aH (aB (cG (vs := [i64 0, i64 0, Value.slice none 0 0, Value.slice none 0 0, Value.slice none 0 0]) Tryz.zeroValue33 hs rfl (fun a2 w20 a19 => (aC (aG (v := Value.bool false) rfl) (aF (aA (aH (aB (aC (aD (v := bZ a1 k2) rfl) (aC (aD (v := bZ a10 k11) rfl) ?_))))))))))
 obtain ⟨a9, q23, hm⟩ := aI hm
 refine aW (vs := [bZ a1 k2, bZ a10 k11]) Tryz.call65 rfl (aEK a19 h3 h6 h9 h12 h15 h18 q23) ?_
 rintro _ w26 ⟨b1, b2, rfl, a21⟩
 refine aC (aG (v := Value.slice b1 a9.length b2) rfl) (aF (aA (aH (aB (aC (aD (v := bZ a1 k2) rfl) (aC (aD (v := bZ a10 k11) rfl) ?_))))))
 obtain ⟨b0, q29, hm⟩ := aI hm
 refine aW (vs := [bZ a1 k2, bZ a10 k11]) Tryz.call66 rfl (aFg a21 h3 h6 h9 h12 h15 h18 q29) ?_
 rintro _ w32 ⟨b3, b4, rfl, a23⟩
 refine aC (aG (v := Value.slice b3 b0.length b4) rfl) (aF (aA (aH (aB (aC (aD (v := bZ a1 k2) rfl) ?_)))))
 obtain ⟨f1, q35, hm⟩ := aI hm
 refine aW (vs := [bZ a1 k2]) Tryz.call67 rfl (aEM a23 h3 h6 h9 q35) ?_
 rintro _ w38 ⟨f2, f3, rfl, a26⟩
 have a27 : aN G K (rows [2] ([(f2, f3)] : List (Dp.Hd (List Int))) [f1] :: aT 4 K b3 b4 b0 :: aT 4 K b1 b2 a9 :: box a2 33 [i64 0, i64 0, Value.slice none 0 0, Value.slice none 0 0, Value.slice none 0 0] :: L) w38 := aN.rowsOne a26
 refine eN (Kt := K) (xs := bT ([(f2, f3)] : List (Dp.Hd (List Int))) ([f1] : List (List Int))) (cs := [Value.slice f2 f1.length f3]) (vs := [(0, Value.slice f2 f1.length f3)]) aBR ez_31 rfl rfl a27 rfl (by kernel_rfl) rfl rfl rfl ⟨rfl, trivial⟩ ?_
 intro j2 w42 (t8 : aN G K (aT 31 K j2 1 (bT ([(f2, f3)] : List (Dp.Hd (List Int))) ([f1] : List (List Int))) :: rows [2] ([(f2, f3)] : List (Dp.Hd (List Int))) ([f1] : List (List Int)) :: aT 4 K b3 b4 b0 :: aT 4 K b1 b2 a9 :: box a2 33 [i64 0, i64 0, Value.slice none 0 0, Value.slice none 0 0, Value.slice none 0 0] :: L) w42)
 refine aC (aG (v := Value.slice j2 ([f1] : List (List Int)).length 1) rfl) (aF (aA (aH (aB (aC (aD (v := bZ a10 k11) rfl) (aC (cS rfl h12) (aC (bW (k' := k11 + 1) xM rfl h12 rfl) (aC (bL (t := 1) cM t8 h12 rfl rfl) (eN (Kt := K) (xs := ([p.Initial] : List Int)) (cs := [i64 p.Initial]) (vs := [(0, i64 p.Initial)]) cT vJ rfl rfl t8 rfl (by kernel_rfl) rfl rfl rfl ⟨rfl, trivial⟩ ?_)))))))))
 intro j5 w45 (a30 : aN G K (aT 2 K j5 1 ([p.Initial] : List Int) :: aT 31 K j2 1 (bT ([(f2, f3)] : List (Dp.Hd (List Int))) ([f1] : List (List Int))) :: rows [2] ([(f2, f3)] : List (Dp.Hd (List Int))) ([f1] : List (List Int)) :: aT 4 K b3 b4 b0 :: aT 4 K b1 b2 a9 :: box a2 33 [i64 0, i64 0, Value.slice none 0 0, Value.slice none 0 0, Value.slice none 0 0] :: L) w45)
 refine aC (aG (v := Value.slice j5 ([p.Initial] : List Int).length 1) rfl) (aF (aA (aH (aB (aC (eR (vs := []) (cs := [i64 0, i64 0, Value.slice none 0 0, Value.slice none 0 0, Value.slice none 0 0]) xE rfl (by kernel_rfl)) (cG (vs := [i64 0, i64 0, Value.slice none 0 0, Value.slice none 0 0, Value.slice none 0 0]) Tryz.zeroValue33 a30 rfl (fun a5 w48 a31 => (cC (i := 0) (ns := [i64 0, i64 0, Value.slice none 0 0, Value.slice none 0 0, Value.slice none 0 0]) (us := [i64 0, i64 0, Value.slice none 0 0, Value.slice none 0 0, Value.slice none 0 0]) Tryz.sizeOf33 a31 rfl rfl rfl rfl rfl (dT rfl) rfl rfl ?_))))))))
 intro w50 (a33 : aN G K (box a5 33 [i64 0, i64 0, Value.slice none 0 0, Value.slice none 0 0, Value.slice none 0 0] :: aT 2 K j5 1 ([p.Initial] : List Int) :: aT 31 K j2 1 (bT ([(f2, f3)] : List (Dp.Hd (List Int))) ([f1] : List (List Int))) :: rows [2] ([(f2, f3)] : List (Dp.Hd (List Int))) ([f1] : List (List Int)) :: aT 4 K b3 b4 b0 :: aT 4 K b1 b2 a9 :: box a2 33 [i64 0, i64 0, Value.slice none 0 0, Value.slice none 0 0, Value.slice none 0 0] :: L) w50)
 refine aF (aA (aH (aB (eN (Kt := K) (xs := ([] : List Edge)) (cs := []) (vs := []) cR zS rfl rfl a33 rfl (by kernel_rfl) rfl rfl rfl trivial ?_))))
 intro p1 w53 (a35 : aN G K (aT 63 K p1 0 ([] : List Edge) :: box a5 33 [i64 0, i64 0, Value.slice none 0 0, Value.slice none 0 0, Value.slice none 0 0] :: aT 2 K j5 1 ([p.Initial] : List Int) :: aT 31 K j2 1 (bT ([(f2, f3)] : List (Dp.Hd (List Int))) ([f1] : List (List Int))) :: rows [2] ([(f2, f3)] : List (Dp.Hd (List Int))) ([f1] : List (List Int)) :: aT 4 K b3 b4 b0 :: aT 4 K b1 b2 a9 :: box a2 33 [i64 0, i64 0, Value.slice none 0 0, Value.slice none 0 0, Value.slice none 0 0] :: L) w53)
 refine aC (aG (v := Value.slice p1 ([] : List Edge).length 0) rfl) (aF (aA (aH (aH (aB (aC (aG (v := i64 0) rfl) (aF (aA (bC (fun f w => ∃ (c6 : List (List Int)) (e1 : List Int) (d6 : List Edge) (i3 : Option Addr) (i4 : Nat) (f5 : List (Dp.Hd (List Int))) (e2 : Option Addr) (e3 : Nat) (d7 : Option Addr) (d8 : Nat), uM t c6 e1 d6 = some R ∧ f 0 = bZ a1 k2 ∧ f 4 = Value.pointer (some ⟨a2, 0, none⟩) ∧ f 8 = Value.slice i3 c6.length i4 ∧ f 10 = Value.pointer (some ⟨a5, 0, none⟩) ∧ f 11 = Value.slice d7 d6.length d8 ∧ List.length f5 = List.length c6 ∧ aN G K (aT 63 K d7 d8 d6 :: aT 2 K e2 e3 e1 :: aT 31 K i3 i4 (bT f5 c6) :: rows [2] f5 c6 :: box a5 33 [i64 0, i64 0, Value.slice none 0 0, Value.slice none 0 0, Value.slice e2 e1.length e3] :: box a2 33 [i64 0, i64 0, Value.slice none 0 0, Value.slice none 0 0, Value.slice none 0 0] :: L) w) ?_ ?_)))))))))
 ·rintro f w71 ⟨c6, e1, d6, i3, i4, f5, e2, e3, d7, d8, hm, e66, t9, e68, u0, e70, c20, a39⟩
  unfold uM at hm
  refine aA (aH (aB (aC (aD e68) (aC (bU (len := c6.length) aBR rfl) (eN (Kt := K) (xs := ([] : List bF)) (cs := []) (vs := []) cQ aCx rfl rfl a39 rfl (by kernel_rfl) rfl rfl rfl trivial (fun a73 w74 (u1 : aN G K (aT 9 K a73 0 ([] : List bF) :: aT 63 K d7 d8 d6 :: aT 2 K e2 e3 e1 :: aT 31 K i3 i4 (bT f5 c6) :: rows [2] f5 c6 :: box a5 33 [i64 0, i64 0, Value.slice none 0 0, Value.slice none 0 0, Value.slice e2 e1.length e3] :: box a2 33 [i64 0, i64 0, Value.slice none 0 0, Value.slice none 0 0, Value.slice none 0 0] :: L) w74) => (aC (aD e66) (aC (cS rfl h3) (aC (bW (k' := k2 + 2) gS rfl h3 rfl) (aC (bL (t := 2) nY u1 h3 rfl rfl) ?_))))))))))
  obtain ⟨e9, q77, hm⟩ := aI hm
  refine aEX (i := 0) cQ Tryz.underlying22 aCx rfl rfl u1 rfl (Hp.le_refl _) h6 q77 rfl rfl rfl rfl (fun e5 e6 w80 (a44 : aN G K (aT 9 K e5 e6 e9 :: aT 63 K d7 d8 d6 :: aT 2 K e2 e3 e1 :: aT 31 K i3 i4 (bT f5 c6) :: rows [2] f5 c6 :: box a5 33 [i64 0, i64 0, Value.slice none 0 0, Value.slice none 0 0, Value.slice e2 e1.length e3] :: box a2 33 [i64 0, i64 0, Value.slice none 0 0, Value.slice none 0 0, Value.slice none 0 0] :: L) w80) => (aC (aD e70) (aC (eR (vs := [(0, i64 (c6.length : Int)), (2, Value.slice e5 e9.length e6), (3, Value.slice d7 d6.length d8)]) (cs := [i64 (c6.length : Int), i64 0, Value.slice e5 e9.length e6, Value.slice d7 d6.length d8]) bs_30 rfl (by kernel_rfl)) (aC (bI (t' := 0) aDn u0 rfl) (cC (i := 5) (ns := [i64 (c6.length : Int), i64 0, Value.slice e5 e9.length e6, Value.slice d7 d6.length d8]) (us := [i64 (c6.length : Int), i64 0, Value.slice e5 e9.length e6, Value.slice d7 d6.length d8, Value.slice e2 e1.length e3]) Tryz.sizeOf30 a44 rfl rfl rfl rfl rfl (dT rfl) rfl rfl (fun w82 (u2 : aN G K (aT 9 K e5 e6 e9 :: aT 63 K d7 d8 d6 :: aT 2 K e2 e3 e1 :: aT 31 K i3 i4 (bT f5 c6) :: rows [2] f5 c6 :: box a5 33 [i64 (c6.length : Int), i64 0, Value.slice e5 e9.length e6, Value.slice d7 d6.length d8, Value.slice e2 e1.length e3] :: box a2 33 [i64 0, i64 0, Value.slice none 0 0, Value.slice none 0 0, Value.slice none 0 0] :: L) w82) => (aF (aA (aH (aB (aC (dR (us := [i64 (c6.length : Int), i64 0, Value.slice e5 e9.length e6, Value.slice d7 d6.length d8, Value.slice e2 e1.length e3]) lI u2 (i := 5) rfl u0 rfl rfl) (cC (i := 6) (ns := [i64 (c6.length : Int), i64 0, Value.slice e5 e9.length e6, Value.slice d7 d6.length d8, Value.slice e2 e1.length e3]) (us := [i64 (c6.length : Int), i64 0, Value.slice e5 e9.length e6, Value.slice d7 d6.length d8, Value.slice e2 e1.length e3]) Tryz.sizeOf33 u2 rfl t9 rfl rfl rfl (dT rfl) rfl rfl (fun w84 (u3 : aN G K (aT 9 K e5 e6 e9 :: aT 63 K d7 d8 d6 :: aT 2 K e2 e3 e1 :: aT 31 K i3 i4 (bT f5 c6) :: rows [2] f5 c6 :: box a5 33 [i64 (c6.length : Int), i64 0, Value.slice e5 e9.length e6, Value.slice d7 d6.length d8, Value.slice e2 e1.length e3] :: box a2 33 [i64 (c6.length : Int), i64 0, Value.slice e5 e9.length e6, Value.slice d7 d6.length d8, Value.slice e2 e1.length e3] :: L) w84) => (aC (aG (v := Value.bool true) rfl) (aF (aA ?_))))))))))))))))
  have a47 := Option.some.inj hm
  subst a47
  exact bB (lT Tryz.results31 (gL (vs := [i64 (c6.length : Int), i64 0, Value.slice e5 e9.length e6, Value.slice d7 d6.length d8, Value.slice e2 e1.length e3]) rfl lI u3 (i := 6) rfl t9 rfl) (mH rfl rfl) ⟨e5, e6, d7, d8, e2, e3, rfl, (aN.arr 7 [0, 1, 2] u3 rfl)⟩)
 have a48 := aN.nil (α := Int) a35 2 K
 obtain ⟨c21, a49, hm⟩ := aI hm
 refine cD a49 (fun (s : (List (List Int) × List Int × List Int × List Edge × Int)) f w => match s with | (e7, h4, f8, g2, b8) => ∃ (h5 : Option Addr) (h7 : Nat) (f6 : List (Dp.Hd (List Int))) (h8 : Option Addr) (i0 : Nat) (g3 : Option Addr) (g4 : Nat) (g5 : Option Addr) (g6 : Nat), f 0 = bZ a1 k2 ∧ f 1 = bZ a10 k11 ∧ f 4 = Value.pointer (some ⟨a2, 0, none⟩) ∧ f 6 = Value.slice b1 a9.length b2 ∧ f 7 = Value.slice b3 b0.length b4 ∧ f 8 = Value.slice h5 e7.length h7 ∧ f 9 = Value.slice h8 h4.length i0 ∧ f 10 = Value.pointer (some ⟨a5, 0, none⟩) ∧ f 11 = Value.slice g5 g2.length g6 ∧ f 12 = i64 b8 ∧ List.length f6 = List.length e7 ∧ aN G K (aT 2 K g3 g4 f8 :: aT 63 K g5 g6 g2 :: box a5 33 [i64 0, i64 0, Value.slice none 0 0, Value.slice none 0 0, Value.slice g3 f8.length g4] :: aT 2 K h8 i0 h4 :: aT 31 K h5 h7 (bT f6 e7) :: rows [2] f6 e7 :: aT 4 K b3 b4 b0 :: aT 4 K b1 b2 a9 :: box a2 33 [i64 0, i64 0, Value.slice none 0 0, Value.slice none 0 0, Value.slice none 0 0] :: L) w) ?_ ?_
 ·exact ⟨j2, 1, ([(f2, f3)] : List (Dp.Hd (List Int))), j5, 1, none, 0, p1, 0, rfl, rfl, rfl, rfl, rfl, rfl, rfl, rfl, rfl, rfl, rfl, a48⟩
 ·rintro ⟨e7, h4, f8, g2, b8⟩ j6 f c22 b9 u4 ⟨h5, h7, f6, h8, i0, g3, g4, g5, g6, u5, u6, u7, u8, u9, l7, v0, l8, v1, l9, p2, v2⟩
  replace b9 : pJ t p a9 b0 e7 h4 f8 g2 b8 = some j6 := b9
  unfold pJ at b9
  refine aH (aH (aB (aC (aD l9) (aC (aD l7) (aC (bU (len := e7.length) aBR rfl) (aC (cE rfl rfl) (aF (aA ?_))))))))
  rcases aJ b9 with ⟨p3, b9⟩ | ⟨p3, b9⟩
  ·refine aO p3 rfl (aX (aA (aH (bC (fun f w => ∃ (i5 : List (List Int)) (j7 : List Int) (j8 : List Int) (j9 : List Edge) (m0 : Option Addr) (m1 : Nat) (k0 : List (Dp.Hd (List Int))) (m2 : Option Addr) (m3 : Nat) (m4 : Option Addr) (m5 : Nat) (m6 : Option Addr) (m7 : Nat), aBe b8 i5 j7 j8 j9 = some j6 ∧ f 0 = bZ a1 k2 ∧ f 1 = bZ a10 k11 ∧ f 4 = Value.pointer (some ⟨a2, 0, none⟩) ∧ f 6 = Value.slice b1 a9.length b2 ∧ f 7 = Value.slice b3 b0.length b4 ∧ f 8 = Value.slice m0 i5.length m1 ∧ f 9 = Value.slice m2 j7.length m3 ∧ f 10 = Value.pointer (some ⟨a5, 0, none⟩) ∧ f 11 = Value.slice m6 j9.length m7 ∧ f 12 = i64 b8 ∧ List.length k0 = List.length i5 ∧ aN G K (aT 63 K m6 m7 j9 :: aT 2 K m4 m5 j8 :: aT 2 K m2 m3 j7 :: aT 31 K m0 m1 (bT k0 i5) :: rows [2] k0 i5 :: box a5 33 [i64 0, i64 0, Value.slice none 0 0, Value.slice none 0 0, Value.slice m4 j8.length m5] :: aT 4 K b3 b4 b0 :: aT 4 K b1 b2 a9 :: box a2 33 [i64 0, i64 0, Value.slice none 0 0, Value.slice none 0 0, Value.slice none 0 0] :: L) w) ?_ ?_))))
   ·rintro f c23 ⟨i5, j7, j8, j9, m0, m1, k0, m2, m3, m4, m5, m6, m7, b9, a50, a51, a52, a53, a54, a55, a56, a57, a58, a59, a60, a61⟩
    unfold aBe at b9
    exact aA (aB (aC (aD a59) (aC (cI rfl rfl) (aC (aG (v := i64 (wr (b8 + 1))) rfl) (aF (aA ⟨(i5, j7, j8, j9, wr (b8 + 1)), (Option.some.inj b9).symm, m0, m1, k0, m2, m3, m4, m5, m6, m7, a50, a51, a52, a53, a54, a55, a56, a57, a58, rfl, a60, (aN.arr 6 [1, 0, 5, 2, 3, 4] a61 rfl)⟩))))))
   refine aH ?_
   obtain ⟨c24, k1, v3, c25, a62, a63⟩ := aN.lendD' (i := 4) v2 p2 rfl rfl
   obtain ⟨c26, j3, a64, a65, a66⟩ := aN.lendS (i := 4) a62 k1 rfl
   obtain ⟨a67, j4, a68, e4, a69⟩ := aN.lendS (i := 4) a65 (Hp.le_trans k1 j3) rfl
   refine cW (C := fun w' => aN G a67 (aT 2 K g3 g4 f8 :: aT 63 K g5 g6 g2 :: box a5 33 [i64 0, i64 0, Value.slice none 0 0, Value.slice none 0 0, Value.slice g3 f8.length g4] :: aT 2 K h8 i0 h4 :: box a2 33 [i64 0, i64 0, Value.slice none 0 0, Value.slice none 0 0, Value.slice none 0 0] :: L) w') bR (by kernel_rfl) (aN.mono e4 (dB.drew _)) (aS (fun _ e4 => aD u6) (aS (fun _ e4 => aD u8) (aS (fun _ e4 => aD u9) (aS (fun _ e4 => aD l7) (aS (fun _ e4 => aD l9) ?_)))))
   obtain ⟨a70, p4, b9⟩ := aI b9
   have a71 := rd_lies (v3.mono (Hp.le_trans j3 j4)) p4
   refine aS (fun _ e4 => eT aBR rfl a71 rfl rfl rfl p4) ?_
   obtain ⟨c27, a72, hr235⟩ := bX.el (sz := 1) rfl (v3.mono (Hp.le_trans j3 j4)) p4
   obtain ⟨a74, a75, rfl, a76⟩ := hr235
   refine aS (fun _ e4 => bL (t := 0) aAu e4 a72 rfl rfl) (aS (fun _ e4 => aD v0) (aS (fun _ e4 => aD l9) ?_))
   obtain ⟨a77, p5, b9⟩ := aI b9
   have a78 := dL e4 (i := 3) rfl p5
   refine aS (fun _ e4 => eT cT rfl a78 rfl rfl rfl p5) (aS (fun _ e4 => kD (t := 0) cM e4 (i := 3) rfl p5 rfl rfl rfl) ?_)
   obtain ⟨d9, a79, b9⟩ := aI b9
   refine lC (vs := [bZ a10 k11, Value.slice b1 a9.length b2, Value.slice b3 b0.length b4, Value.slice a74 a70.length a75, i64 a77]) (v := i64 d9) Tryz.call68 rfl (fun _ e4 => (aDA e4 (h12.mono (Hp.le_trans (Hp.le_trans k1 j3) j4)) (h15.mono (Hp.le_trans (Hp.le_trans k1 j3) j4)) (h18.mono (Hp.le_trans (Hp.le_trans k1 j3) j4)) a68 (a64.mono j4) a76 a79)) (aS (fun _ e4 => aG (v := i64 d9) rfl) (dD (fun c28 a80 => ?_)))
   have a81 := a69 _ _ a80
   have a82 := a66 _ _ a81
   have v4 := a63 _ _ a82
   refine aA (aH (aB (aC (bI (t' := 4) zT l8 rfl) (aC (cA aAu v4 (i := 6) rfl rfl rfl) (aC (aD (v := i64 d9) rfl) (eN (Kt := K) (xs := ([d9] : List Int)) (cs := [i64 d9]) (vs := [(0, i64 d9)]) cT vJ rfl rfl v4 rfl (by kernel_rfl) rfl rfl rfl ⟨rfl, trivial⟩ (fun a83 a84 (a85 : aN G K (aT 2 K a83 1 ([d9] : List Int) :: aT 31 K h5 h7 (bT f6 e7) :: rows [2] f6 e7 :: aT 4 K b3 b4 b0 :: aT 4 K b1 b2 a9 :: aT 2 K g3 g4 f8 :: aT 63 K g5 g6 g2 :: box a5 33 [i64 0, i64 0, Value.slice none 0 0, Value.slice none 0 0, Value.slice g3 f8.length g4] :: aT 2 K h8 i0 h4 :: box a2 33 [i64 0, i64 0, Value.slice none 0 0, Value.slice none 0 0, Value.slice none 0 0] :: L) a84) => ?_)))))))
   obtain ⟨a3, a86, b9⟩ := aI b9
   refine iZ (i := 4) cT Tryz.underlying31 vJ rfl rfl a85 rfl (Hp.le_refl _) (Hp.le_refl _) a86 rfl rfl rfl rfl (fun _ h => h) (fun a6 a8 a87 (a88 : aN G K (aT 31 K h5 h7 (bT f6 e7) :: rows [2] f6 e7 :: aT 4 K b3 b4 b0 :: aT 4 K b1 b2 a9 :: aT 2 K a6 a8 a3 :: aT 63 K g5 g6 g2 :: box a5 33 [i64 0, i64 0, Value.slice none 0 0, Value.slice none 0 0, Value.slice g3 f8.length g4] :: aT 2 K h8 i0 h4 :: box a2 33 [i64 0, i64 0, Value.slice none 0 0, Value.slice none 0 0, Value.slice none 0 0] :: L) a87) => (aC (bI (t' := 4) zT l8 rfl) (cC (i := 6) (ns := [Value.slice a6 a3.length a8]) (us := [i64 0, i64 0, Value.slice none 0 0, Value.slice none 0 0, Value.slice a6 a3.length a8]) Tryz.sizeOf31 a88 rfl rfl rfl rfl rfl (dT rfl) rfl rfl (fun a89 (a90 : aN G K (aT 31 K h5 h7 (bT f6 e7) :: rows [2] f6 e7 :: aT 4 K b3 b4 b0 :: aT 4 K b1 b2 a9 :: aT 2 K a6 a8 a3 :: aT 63 K g5 g6 g2 :: box a5 33 [i64 0, i64 0, Value.slice none 0 0, Value.slice none 0 0, Value.slice a6 a3.length a8] :: aT 2 K h8 i0 h4 :: box a2 33 [i64 0, i64 0, Value.slice none 0 0, Value.slice none 0 0, Value.slice none 0 0] :: L) a89) => (aF (aA (aH (aB (aC (aG (v := i64 1) rfl) (aF (aA (bC (fun f w => ∃ (i6 : List (List Int)) (k3 : List Int) (k4 : List Edge) (m8 : Option Addr) (m9 : Nat) (k5 : List (Dp.Hd (List Int))) (n0 : Option Addr) (n1 : Nat) (n2 : Option Addr) (n3 : Nat), xT b8 a3 i6 k3 k4 = some j6 ∧ f 0 = bZ a1 k2 ∧ f 1 = bZ a10 k11 ∧ f 4 = Value.pointer (some ⟨a2, 0, none⟩) ∧ f 6 = Value.slice b1 a9.length b2 ∧ f 7 = Value.slice b3 b0.length b4 ∧ f 8 = Value.slice m8 i6.length m9 ∧ f 9 = Value.slice n0 k3.length n1 ∧ f 10 = Value.pointer (some ⟨a5, 0, none⟩) ∧ f 11 = Value.slice n2 k4.length n3 ∧ f 12 = i64 b8 ∧ List.length k5 = List.length i6 ∧ aN G K (aT 63 K n2 n3 k4 :: aT 2 K n0 n1 k3 :: aT 31 K m8 m9 (bT k5 i6) :: rows [2] k5 i6 :: aT 4 K b3 b4 b0 :: aT 4 K b1 b2 a9 :: aT 2 K a6 a8 a3 :: box a5 33 [i64 0, i64 0, Value.slice none 0 0, Value.slice none 0 0, Value.slice a6 a3.length a8] :: box a2 33 [i64 0, i64 0, Value.slice none 0 0, Value.slice none 0 0, Value.slice none 0 0] :: L) w) ?_ ?_))))))))))))
   ·rintro f c29 ⟨i6, k3, k4, m8, m9, k5, n0, n1, n2, n3, b9, a91, a92, a93, a94, a95, a96, a97, a98, a99, b00, b01, b02⟩
    unfold xT at b9
    exact bG (aA ⟨i6, k3, a3, k4, m8, m9, k5, n0, n1, a6, a8, n2, n3, b9, a91, a92, a93, a94, a95, a96, a97, a98, a99, b00, b01, (aN.arr 8 [0, 6, 1, 2, 3, 7, 4, 5] b02 rfl)⟩)
   obtain ⟨c30, b03, b9⟩ := aI b9
   refine cD b03 (fun (s : (List (List Int) × List Int × List Edge × Int)) f w => match s with | (b5, c0, b7, c2) => ∃ (d4 : Option Addr) (d5 : Nat) (b6 : List (Dp.Hd (List Int))) (d1 : Option Addr) (d2 : Nat) (c7 : Option Addr) (c9 : Nat), f 0 = bZ a1 k2 ∧ f 1 = bZ a10 k11 ∧ f 4 = Value.pointer (some ⟨a2, 0, none⟩) ∧ f 6 = Value.slice b1 a9.length b2 ∧ f 7 = Value.slice b3 b0.length b4 ∧ f 8 = Value.slice d4 b5.length d5 ∧ f 9 = Value.slice d1 c0.length d2 ∧ f 10 = Value.pointer (some ⟨a5, 0, none⟩) ∧ f 11 = Value.slice c7 b7.length c9 ∧ f 12 = i64 b8 ∧ f 13 = i64 d9 ∧ f 14 = i64 c2 ∧ List.length b6 = List.length b5 ∧ aN G K (aT 31 K d4 d5 (bT b6 b5) :: rows [2] b6 b5 :: aT 4 K b3 b4 b0 :: aT 4 K b1 b2 a9 :: aT 2 K a6 a8 a3 :: aT 63 K c7 c9 b7 :: box a5 33 [i64 0, i64 0, Value.slice none 0 0, Value.slice none 0 0, Value.slice a6 a3.length a8] :: aT 2 K d1 d2 c0 :: box a2 33 [i64 0, i64 0, Value.slice none 0 0, Value.slice none 0 0, Value.slice none 0 0] :: L) w) ?_ ?_
   ·exact ⟨h5, h7, f6, h8, i0, g5, g6, u5, u6, u7, u8, u9, l7, v0, l8, v1, l9, rfl, rfl, p2, a90⟩
   ·rintro ⟨b5, c0, b7, c2⟩ i7 f c31 a0 v5 ⟨d4, d5, b6, d1, d2, c7, c9, p6, v6, v7, v8, v9, w0, w1, w2, w3, w4, p7, p8, f7, p9⟩
    replace a0 : iS t p b8 d9 b5 c0 b7 c2 = some i7 := a0
    unfold iS at a0
    refine aH (aH (cH (fun f w => ∃ (q0 : Bool), pI t p b8 b5 c0 b7 c2 q0 = some i7 ∧ f 0 = bZ a1 k2 ∧ f 1 = bZ a10 k11 ∧ f 4 = Value.pointer (some ⟨a2, 0, none⟩) ∧ f 6 = Value.slice b1 a9.length b2 ∧ f 7 = Value.slice b3 b0.length b4 ∧ f 8 = Value.slice d4 b5.length d5 ∧ f 9 = Value.slice d1 c0.length d2 ∧ f 10 = Value.pointer (some ⟨a5, 0, none⟩) ∧ f 11 = Value.slice c7 b7.length c9 ∧ f 12 = i64 b8 ∧ f 13 = i64 d9 ∧ f 14 = i64 c2 ∧ f 69 = Value.bool q0 ∧ aN G K (aT 31 K d4 d5 (bT b6 b5) :: rows [2] b6 b5 :: aT 4 K b3 b4 b0 :: aT 4 K b1 b2 a9 :: aT 2 K a6 a8 a3 :: aT 63 K c7 c9 b7 :: box a5 33 [i64 0, i64 0, Value.slice none 0 0, Value.slice none 0 0, Value.slice a6 a3.length a8] :: aT 2 K d1 d2 c0 :: box a2 33 [i64 0, i64 0, Value.slice none 0 0, Value.slice none 0 0, Value.slice none 0 0] :: L) w) ?_ ?_))
    ·rintro f c32 ⟨q0, a0, k6, n4, q1, q2, q3, n5, n6, q4, q5, k7, w5, n7, w6, n8⟩
     unfold pI at a0
     refine aA ?_
     rcases aJ a0 with ⟨q6, a0⟩ | ⟨q6, a0⟩
     ·refine aO q6 w6 (aX (aA (aH (bC (fun f w => ∃ (i8 : List (List Int)) (k8 : List Int) (k9 : List Edge) (n9 : Option Addr) (o0 : Nat) (l0 : List (Dp.Hd (List Int))) (o1 : Option Addr) (o2 : Nat) (o3 : Option Addr) (o4 : Nat), uN c2 i8 k8 k9 = some i7 ∧ f 0 = bZ a1 k2 ∧ f 1 = bZ a10 k11 ∧ f 4 = Value.pointer (some ⟨a2, 0, none⟩) ∧ f 6 = Value.slice b1 a9.length b2 ∧ f 7 = Value.slice b3 b0.length b4 ∧ f 8 = Value.slice n9 i8.length o0 ∧ f 9 = Value.slice o1 k8.length o2 ∧ f 10 = Value.pointer (some ⟨a5, 0, none⟩) ∧ f 11 = Value.slice o3 k9.length o4 ∧ f 12 = i64 b8 ∧ f 13 = i64 d9 ∧ f 14 = i64 c2 ∧ List.length l0 = List.length i8 ∧ aN G K (aT 31 K n9 o0 (bT l0 i8) :: rows [2] l0 i8 :: aT 4 K b3 b4 b0 :: aT 4 K b1 b2 a9 :: aT 2 K a6 a8 a3 :: aT 63 K o3 o4 k9 :: box a5 33 [i64 0, i64 0, Value.slice none 0 0, Value.slice none 0 0, Value.slice a6 a3.length a8] :: aT 2 K o1 o2 k8 :: box a2 33 [i64 0, i64 0, Value.slice none 0 0, Value.slice none 0 0, Value.slice none 0 0] :: L) w) ?_ ?_))))
      ·rintro f c33 ⟨i8, k8, k9, n9, o0, l0, o1, o2, o3, o4, a0, b04, b05, b06, b07, b08, b09, b10, b11, b12, b13, b14, b15, b16, b17⟩
       unfold uN at a0
       exact aA (aB (aC (aD b15) (aC (cI rfl rfl) (aC (aG (v := i64 (wr (c2 + 1))) rfl) (aF (aA ⟨(i8, k8, k9, wr (c2 + 1)), (Option.some.inj a0).symm, n9, o0, l0, o1, o2, o3, o4, b04, b05, b06, b07, b08, b09, b10, b11, b12, b13, b14, rfl, b16, b17⟩))))))
      refine aH (aB (aC (aD k6) (aC (aD n5) (aC (aD k7) ?_))))
      obtain ⟨b18, l1, a0⟩ := aI a0
      obtain ⟨⟨b19, b20⟩, q7⟩ := aAh f7 l1
      have w7 := dL n8 (i := 0) rfl (lU f7 l1 q7)
      refine aC (eT aBR rfl w7 rfl rfl rfl l1) (aC (kD (t := 0) aAu n8 (i := 0) rfl (lU f7 l1 q7) rfl rfl rfl) (aC (aD n7) ?_))
      obtain ⟨c34, q8, c35, b21, b22, b23⟩ := aN.lendD' (i := 0) n8 f7 rfl rfl
      obtain ⟨d0, b24, a0⟩ := aI a0
      refine aW (vs := [bZ a1 k2, Value.slice b19 b18.length b20, i64 c2]) Tryz.call69 rfl (aFh b22 (h3.mono q8) (h6.mono q8) (h9.mono q8) (rd_row (b21 _ _ _ q7 (aDk l1))) b24) ?_
      rintro _ c36 ⟨c3, c4, rfl, b25⟩
      have d3 := b23 _ _ b25
      refine aC (aG (v := Value.slice c3 d0.length c4) rfl) (aF (aA (aH (aH (aB (aC (aD (v := Value.slice c3 d0.length c4) rfl) (aC (bU (len := d0.length) cT rfl) (aC (kC rfl rfl) (aF (aA ?_))))))))))
      rcases aJ a0 with ⟨q9, a0⟩ | ⟨q9, a0⟩
      ·exact aO q9 rfl (bY (aY (bO (aA ⟨b5, c0, b7, d4, d5, b6, d1, d2, c7, c9, a0, k6, n4, q1, q2, q3, n5, n6, q4, q5, k7, w5, n7, f7, (aN.arr 3 [0, 1] d3 rfl)⟩))))
      ·refine aM q9 rfl (aX (aA (aH (cW (C := fun w' => aN G K (aT 31 K d4 d5 (bT b6 b5) :: rows [2] b6 b5 :: aT 2 K c3 c4 d0 :: aT 4 K b3 b4 b0 :: aT 4 K b1 b2 a9 :: aT 2 K a6 a8 a3 :: aT 63 K c7 c9 b7 :: box a5 33 [i64 0, i64 0, Value.slice none 0 0, Value.slice none 0 0, Value.slice a6 a3.length a8] :: aT 2 K d1 d2 c0 :: box a2 33 [i64 0, i64 0, Value.slice none 0 0, Value.slice none 0 0, Value.slice none 0 0] :: L) w') bR (by kernel_rfl) (aN.mono d3 (dB.drew _)) (aS (fun _ d3 => aD n4) (aS (fun _ d3 => aD n6) (aS (fun _ d3 => aD k7) ?_)))))))
       obtain ⟨b26, r0, a0⟩ := aI a0
       have w8 := dL d3 (i := 8) rfl r0
       refine aS (fun _ d3 => eT cT rfl w8 rfl rfl rfl r0) (aS (fun _ d3 => kD (t := 0) cM d3 (i := 8) rfl r0 rfl rfl rfl) (aS (fun _ d3 => aD k6) (aS (fun _ d3 => cS rfl h3) (aS (fun _ d3 => bW (k' := k2 + 2) gS rfl h3 rfl) (aS (fun _ d3 => bL (t := 2) nY d3 h3 rfl rfl) (aS (fun _ d3 => aD n7) ?_))))))
       obtain ⟨b27, w9, a0⟩ := aI a0
       refine aS (fun _ d3 => cU cQ rfl h6 rfl rfl rfl w9) ?_
       obtain ⟨c37, b28, b29⟩ := bX.el (sz := 1) rfl h6 w9
       cases b29
       refine aS (fun _ d3 => bL (t := 0) oI d3 b28 rfl rfl) ?_
       obtain ⟨f0, b30, a0⟩ := aI a0
       refine lC (vs := [bZ a10 k11, i64 b26, cF b27]) (v := i64 f0) Tryz.call70 rfl (fun _ d3 => (aDy d3 h12 h15 h18 b30)) (aS (fun _ d3 => aG (v := i64 f0) rfl) (dD (fun c38 b31 => (aA (aH (aB (aC (aG (v := i64 (-1)) rfl) (aF (aA (aH (aH (aB (aC (aG (v := i64 0) rfl) (aF (aA (bC (fun f w => ∃ (o5 : Int), rI b8 b5 c0 b7 c2 d0 f0 o5 = some i7 ∧ f 0 = bZ a1 k2 ∧ f 1 = bZ a10 k11 ∧ f 4 = Value.pointer (some ⟨a2, 0, none⟩) ∧ f 6 = Value.slice b1 a9.length b2 ∧ f 7 = Value.slice b3 b0.length b4 ∧ f 8 = Value.slice d4 b5.length d5 ∧ f 9 = Value.slice d1 c0.length d2 ∧ f 10 = Value.pointer (some ⟨a5, 0, none⟩) ∧ f 11 = Value.slice c7 b7.length c9 ∧ f 12 = i64 b8 ∧ f 13 = i64 d9 ∧ f 14 = i64 c2 ∧ f 15 = Value.slice c3 d0.length c4 ∧ f 16 = i64 f0 ∧ f 17 = i64 o5 ∧ aN G K (aT 31 K d4 d5 (bT b6 b5) :: rows [2] b6 b5 :: aT 2 K c3 c4 d0 :: aT 4 K b3 b4 b0 :: aT 4 K b1 b2 a9 :: aT 2 K a6 a8 a3 :: aT 63 K c7 c9 b7 :: box a5 33 [i64 0, i64 0, Value.slice none 0 0, Value.slice none 0 0, Value.slice a6 a3.length a8] :: aT 2 K d1 d2 c0 :: box a2 33 [i64 0, i64 0, Value.slice none 0 0, Value.slice none 0 0, Value.slice none 0 0] :: L) w) ?_ ?_))))))))))))))))
       ·rintro f x0 ⟨o5, a0, x1, x2, x3, x4, x5, r1, x6, x7, x8, x9, y0, y1, b32, b33, y2, y3⟩
        unfold rI at a0
        refine aA (aCK (fun f w => ∃ (e0 : List (List Int)) (f9 : List Int) (g7 : Int) (g8 : Option Addr) (g9 : Nat) (f4 : List (Dp.Hd (List Int))) (h0 : Option Addr) (h1 : Nat), rH b8 b7 c2 e0 f9 g7 = some i7 ∧ f 0 = bZ a1 k2 ∧ f 1 = bZ a10 k11 ∧ f 4 = Value.pointer (some ⟨a2, 0, none⟩) ∧ f 6 = Value.slice b1 a9.length b2 ∧ f 7 = Value.slice b3 b0.length b4 ∧ f 8 = Value.slice g8 e0.length g9 ∧ f 9 = Value.slice h0 f9.length h1 ∧ f 10 = Value.pointer (some ⟨a5, 0, none⟩) ∧ f 11 = Value.slice c7 b7.length c9 ∧ f 12 = i64 b8 ∧ f 13 = i64 d9 ∧ f 14 = i64 c2 ∧ f 17 = i64 g7 ∧ List.length f4 = List.length e0 ∧ aN G K (aT 2 K h0 h1 f9 :: aT 31 K g8 g9 (bT f4 e0) :: rows [2] f4 e0 :: aT 4 K b3 b4 b0 :: aT 4 K b1 b2 a9 :: aT 2 K a6 a8 a3 :: aT 63 K c7 c9 b7 :: box a5 33 [i64 0, i64 0, Value.slice none 0 0, Value.slice none 0 0, Value.slice a6 a3.length a8] :: box a2 33 [i64 0, i64 0, Value.slice none 0 0, Value.slice none 0 0, Value.slice none 0 0] :: L) w) ?_ ?_)
        ·rintro f c39 ⟨e0, f9, g7, g8, g9, f4, h0, h1, a0, y4, y5, y6, y7, y8, r2, y9, z0, b34, r3, z1, r4, b35, b36, b37⟩
         unfold rH at a0
         refine aH (aB (aC (aD b34) (aC (aD r3) (aC (aD r4) (aC (aD b35) (aC (eR (vs := [(0, i64 b8), (1, i64 c2), (2, i64 g7)]) (cs := [i64 b8, i64 c2, i64 g7]) bs_63 rfl (by kernel_rfl)) (eN (Kt := K) (xs := ([⟨b8, c2, g7⟩] : List Edge)) (cs := [i64 b8, i64 c2, i64 g7]) (vs := [(0, Value.agg #[i64 b8, i64 c2, i64 g7])]) cR zS rfl rfl b37 rfl (by kernel_rfl) rfl rfl rfl ⟨rfl, trivial⟩ (fun b38 b39 (b40 : aN G K (aT 63 K b38 1 ([⟨b8, c2, g7⟩] : List Edge) :: aT 2 K h0 h1 f9 :: aT 31 K g8 g9 (bT f4 e0) :: rows [2] f4 e0 :: aT 4 K b3 b4 b0 :: aT 4 K b1 b2 a9 :: aT 2 K a6 a8 a3 :: aT 63 K c7 c9 b7 :: box a5 33 [i64 0, i64 0, Value.slice none 0 0, Value.slice none 0 0, Value.slice a6 a3.length a8] :: box a2 33 [i64 0, i64 0, Value.slice none 0 0, Value.slice none 0 0, Value.slice none 0 0] :: L) b39) => ?_))))))))
         obtain ⟨g0, b41, a0⟩ := aI a0
         refine iZ (i := 6) cR Tryz.underlying28 zS rfl rfl b40 rfl (Hp.le_refl _) (Hp.le_refl _) b41 rfl rfl rfl rfl (fun _ h => h) (fun i9 j0 b42 (z2 : aN G K (aT 2 K h0 h1 f9 :: aT 31 K g8 g9 (bT f4 e0) :: rows [2] f4 e0 :: aT 4 K b3 b4 b0 :: aT 4 K b1 b2 a9 :: aT 2 K a6 a8 a3 :: aT 63 K i9 j0 g0 :: box a5 33 [i64 0, i64 0, Value.slice none 0 0, Value.slice none 0 0, Value.slice a6 a3.length a8] :: box a2 33 [i64 0, i64 0, Value.slice none 0 0, Value.slice none 0 0, Value.slice none 0 0] :: L) b42) => (aC (aG (v := Value.slice i9 g0.length j0) rfl) (aF (aA (aH (cH (fun f w => ∃ (r5 : Bool), uO c2 e0 f9 g0 r5 = some i7 ∧ f 0 = bZ a1 k2 ∧ f 1 = bZ a10 k11 ∧ f 4 = Value.pointer (some ⟨a2, 0, none⟩) ∧ f 6 = Value.slice b1 a9.length b2 ∧ f 7 = Value.slice b3 b0.length b4 ∧ f 8 = Value.slice g8 e0.length g9 ∧ f 9 = Value.slice h0 f9.length h1 ∧ f 10 = Value.pointer (some ⟨a5, 0, none⟩) ∧ f 11 = Value.slice i9 g0.length j0 ∧ f 12 = i64 b8 ∧ f 13 = i64 d9 ∧ f 14 = i64 c2 ∧ f 142 = Value.bool r5 ∧ aN G K (aT 2 K h0 h1 f9 :: aT 31 K g8 g9 (bT f4 e0) :: rows [2] f4 e0 :: aT 4 K b3 b4 b0 :: aT 4 K b1 b2 a9 :: aT 2 K a6 a8 a3 :: aT 63 K i9 j0 g0 :: box a5 33 [i64 0, i64 0, Value.slice none 0 0, Value.slice none 0 0, Value.slice a6 a3.length a8] :: box a2 33 [i64 0, i64 0, Value.slice none 0 0, Value.slice none 0 0, Value.slice none 0 0] :: L) w) ?_ ?_))))))
         ·rintro f c40 ⟨r5, a0, b43, b44, r6, b45, b46, b47, b48, b49, b50, b51, b52, b53, z3, z4⟩
          unfold uO at a0
          refine aA ?_
          rcases aJ a0 with ⟨r7, a0⟩ | ⟨r7, a0⟩
          ·refine aO r7 z3 (aH (aB (aC (eR (vs := []) (cs := [i64 0, i64 0, Value.slice none 0 0, Value.slice none 0 0, Value.slice none 0 0]) xE rfl (by kernel_rfl)) (cC (i := 8) (ns := [i64 0, i64 0, Value.slice none 0 0, Value.slice none 0 0, Value.slice none 0 0]) (us := [i64 0, i64 0, Value.slice none 0 0, Value.slice none 0 0, Value.slice none 0 0]) Tryz.sizeOf33 z4 rfl r6 rfl rfl rfl (dT rfl) rfl rfl (fun b54 (b55 : aN G K (aT 2 K h0 h1 f9 :: aT 31 K g8 g9 (bT f4 e0) :: rows [2] f4 e0 :: aT 4 K b3 b4 b0 :: aT 4 K b1 b2 a9 :: aT 2 K a6 a8 a3 :: aT 63 K i9 j0 g0 :: box a5 33 [i64 0, i64 0, Value.slice none 0 0, Value.slice none 0 0, Value.slice a6 a3.length a8] :: box a2 33 [i64 0, i64 0, Value.slice none 0 0, Value.slice none 0 0, Value.slice none 0 0] :: L) b54) => (aC (aG (v := Value.bool false) rfl) (aF (aA (bB (bN (aQ (aQ (aQ ?_)))))))))))))
           have b56 := v5 _ (Option.some.inj a0).symm
           subst b56
           have b9 : (some (.inr (.inr (⟨⟨0, 0, [], []⟩, []⟩, false)))) = some j6 := b9
           refine bN (aQ (bN (aQ (aQ (aQ ?_)))))
           have b57 := u4 _ (Option.some.inj b9).symm
           subst b57
           have hm : (some (⟨⟨0, 0, [], []⟩, []⟩, false)) = some R := hm
           have b58 := aN.nil (α := bF) b55 9 K
           have b59 := aN.nil (α := Edge) b58 63 K
           have z5 := aN.nil (α := Int) b59 2 K
           have b60 := Option.some.inj hm
           subst b60
           exact bN (aQ (aQ (lT Tryz.results31 (gL (vs := [i64 0, i64 0, Value.slice none 0 0, Value.slice none 0 0, Value.slice none 0 0]) rfl lI z5 (i := 11) rfl r6 rfl) (mH rfl rfl) ⟨none, 0, none, 0, none, 0, rfl, (aN.arr 12 [2, 1, 0] z5 rfl)⟩)))
          ·exact aM r7 z3 (aX (bG (aA ⟨e0, f9, g0, g8, g9, f4, h0, h1, i9, j0, a0, b43, b44, r6, b45, b46, b47, b48, b49, b50, b51, b52, b53, b36, (aN.arr 8 [1, 2, 3, 4, 5, 6, 7, 0] z4 rfl)⟩)))
         refine aB (aC (aD r2) (aC (bU (len := e0.length) aBR rfl) (aC (oH rfl rfl) (aC (aD (v := Value.bool (decide (40 < (e0.length : Int)))) rfl) ?_))))
         rcases aJ a0 with ⟨h2, a0⟩ | ⟨h2, a0⟩
         ·exact aV (g := 138) h2 (by kernel_rfl) rfl (aV (g := 138) h2 (by kernel_rfl) rfl (aV (g := 138) h2 (by kernel_rfl) rfl (aC (bK (v := Value.bool true) h2 rfl rfl) (aF (aA ⟨true, a0, y4, y5, y6, y7, y8, r2, y9, z0, rfl, r3, z1, r4, rfl, z2⟩)))))
         ·exact bJ (g := 138) h2 (by kernel_rfl) rfl (aC (aD (v := Value.slice i9 g0.length j0) rfl) (bJ (g := 138) h2 (by kernel_rfl) rfl (aC (bU (len := g0.length) cR rfl) (bJ (g := 138) h2 (by kernel_rfl) rfl (aC (oH rfl rfl) (aC (bM (v := Value.bool (decide (300 < (g0.length : Int)))) h2 rfl rfl) (aF (aA ⟨decide (300 < (g0.length : Int)), a0, y4, y5, y6, y7, y8, r2, y9, z0, rfl, r3, z1, r4, rfl, z2⟩))))))))
        refine aH (aB (aC (aD y2) (aC (cE rfl rfl) (aF (aA ?_)))))
        rcases aJ a0 with ⟨r8, a0⟩ | ⟨r8, a0⟩
        ·refine aO r8 rfl (aH (aB (aC (aD r1) (aC (bU (len := b5.length) aBR rfl) (aC (aG (v := i64 (b5.length : Int)) rfl) (aF (aA (aH (aB (aC (aD r1) (aC (aD b32) ?_)))))))))))
         have b61 : aN G K (aT 2 K c3 c4 d0 :: aT 31 K d4 d5 (bT b6 b5) :: rows [2] b6 b5 :: aT 4 K b3 b4 b0 :: aT 4 K b1 b2 a9 :: aT 2 K a6 a8 a3 :: aT 63 K c7 c9 b7 :: box a5 33 [i64 0, i64 0, Value.slice none 0 0, Value.slice none 0 0, Value.slice a6 a3.length a8] :: aT 2 K d1 d2 c0 :: box a2 33 [i64 0, i64 0, Value.slice none 0 0, Value.slice none 0 0, Value.slice none 0 0] :: L) x0 := (aN.arr 3 [2, 0, 1] y3 rfl)
         have b62 : aN G K (rows [2] ([(c3, c4)] : List (Dp.Hd (List Int))) [d0] :: aT 31 K d4 d5 (bT b6 b5) :: rows [2] b6 b5 :: aT 4 K b3 b4 b0 :: aT 4 K b1 b2 a9 :: aT 2 K a6 a8 a3 :: aT 63 K c7 c9 b7 :: box a5 33 [i64 0, i64 0, Value.slice none 0 0, Value.slice none 0 0, Value.slice a6 a3.length a8] :: aT 2 K d1 d2 c0 :: box a2 33 [i64 0, i64 0, Value.slice none 0 0, Value.slice none 0 0, Value.slice none 0 0] :: L) x0 := aN.rowsOne b61
         refine eN (Kt := K) (xs := bT ([(c3, c4)] : List (Dp.Hd (List Int))) ([d0] : List (List Int))) (cs := [Value.slice c3 d0.length c4]) (vs := [(0, Value.slice c3 d0.length c4)]) aBR ez_31 rfl rfl b62 rfl (by kernel_rfl) rfl rfl rfl ⟨rfl, trivial⟩ ?_
         intro b63 b64 (b65 : aN G K (aT 31 K b63 1 (bT ([(c3, c4)] : List (Dp.Hd (List Int))) ([d0] : List (List Int))) :: rows [2] ([(c3, c4)] : List (Dp.Hd (List Int))) ([d0] : List (List Int)) :: aT 31 K d4 d5 (bT b6 b5) :: rows [2] b6 b5 :: aT 4 K b3 b4 b0 :: aT 4 K b1 b2 a9 :: aT 2 K a6 a8 a3 :: aT 63 K c7 c9 b7 :: box a5 33 [i64 0, i64 0, Value.slice none 0 0, Value.slice none 0 0, Value.slice a6 a3.length a8] :: aT 2 K d1 d2 c0 :: box a2 33 [i64 0, i64 0, Value.slice none 0 0, Value.slice none 0 0, Value.slice none 0 0] :: L) b64)
         obtain ⟨i1, z6, a0⟩ := aI a0
         refine WO_appD (i := 0) (tys := [2]) (hds := b6) (hds2 := ([(c3, c4)] : List (Dp.Hd (List Int)))) aBR Tryz.underlying49 ez_31 rfl rfl b65 f7 rfl rfl rfl z6 rfl rfl rfl rfl ?_
         intro l2 l3 b66 (b67 : aN G K (aT 31 K l2 l3 (bT (b6 ++ ([(c3, c4)] : List (Dp.Hd (List Int)))) i1) :: rows [2] (b6 ++ ([(c3, c4)] : List (Dp.Hd (List Int)))) i1 :: aT 4 K b3 b4 b0 :: aT 4 K b1 b2 a9 :: aT 2 K a6 a8 a3 :: aT 63 K c7 c9 b7 :: box a5 33 [i64 0, i64 0, Value.slice none 0 0, Value.slice none 0 0, Value.slice a6 a3.length a8] :: aT 2 K d1 d2 c0 :: box a2 33 [i64 0, i64 0, Value.slice none 0 0, Value.slice none 0 0, Value.slice none 0 0] :: L) b66)
         refine aC (aG (v := Value.slice l2 i1.length l3) rfl) (aF (aA (aB (aC (aD x6) (aC (aD b33) (eN (Kt := K) (xs := ([f0] : List Int)) (cs := [i64 f0]) (vs := [(0, i64 f0)]) cT vJ rfl rfl b67 rfl (by kernel_rfl) rfl rfl rfl ⟨rfl, trivial⟩ ?_))))))
         intro b68 b69 (b70 : aN G K (aT 2 K b68 1 ([f0] : List Int) :: aT 31 K l2 l3 (bT (b6 ++ ([(c3, c4)] : List (Dp.Hd (List Int)))) i1) :: rows [2] (b6 ++ ([(c3, c4)] : List (Dp.Hd (List Int)))) i1 :: aT 4 K b3 b4 b0 :: aT 4 K b1 b2 a9 :: aT 2 K a6 a8 a3 :: aT 63 K c7 c9 b7 :: box a5 33 [i64 0, i64 0, Value.slice none 0 0, Value.slice none 0 0, Value.slice a6 a3.length a8] :: aT 2 K d1 d2 c0 :: box a2 33 [i64 0, i64 0, Value.slice none 0 0, Value.slice none 0 0, Value.slice none 0 0] :: L) b69)
         obtain ⟨r9, b71, a0⟩ := aI a0
         refine iZ (i := 7) cT Tryz.underlying31 vJ rfl rfl b70 rfl (Hp.le_refl _) (Hp.le_refl _) b71 rfl rfl rfl rfl (fun _ h => h) ?_
         intro s0 s1 b72 (b73 : aN G K (aT 31 K l2 l3 (bT (b6 ++ ([(c3, c4)] : List (Dp.Hd (List Int)))) i1) :: rows [2] (b6 ++ ([(c3, c4)] : List (Dp.Hd (List Int)))) i1 :: aT 4 K b3 b4 b0 :: aT 4 K b1 b2 a9 :: aT 2 K a6 a8 a3 :: aT 63 K c7 c9 b7 :: box a5 33 [i64 0, i64 0, Value.slice none 0 0, Value.slice none 0 0, Value.slice a6 a3.length a8] :: aT 2 K s0 s1 r9 :: box a2 33 [i64 0, i64 0, Value.slice none 0 0, Value.slice none 0 0, Value.slice none 0 0] :: L) b72)
         exact aC (aG (v := Value.slice s0 r9.length s1) rfl) (aF (aA ⟨i1, r9, (b5.length : Int), l2, l3, (b6 ++ ([(c3, c4)] : List (Dp.Hd (List Int)))), s0, s1, a0, x1, x2, x3, x4, x5, rfl, rfl, x7, x8, x9, y0, y1, rfl, (app_len f7 rfl z6), (aN.arr 8 [7, 0, 1, 2, 3, 4, 5, 6] b73 rfl)⟩))
        ·exact aM r8 rfl (aX (aA ⟨b5, c0, o5, d4, d5, b6, d1, d2, a0, x1, x2, x3, x4, x5, r1, x6, x7, x8, x9, y0, y1, y2, f7, (aN.arr 9 [8, 0, 1, 3, 4, 5, 6, 7] y3 rfl)⟩))
       obtain ⟨c41, b74, a0⟩ := aI a0
       refine cD b74 (fun (s : (Int × Int)) f w => match s with | (i2, g1) => f 0 = bZ a1 k2 ∧ f 1 = bZ a10 k11 ∧ f 4 = Value.pointer (some ⟨a2, 0, none⟩) ∧ f 6 = Value.slice b1 a9.length b2 ∧ f 7 = Value.slice b3 b0.length b4 ∧ f 8 = Value.slice d4 b5.length d5 ∧ f 9 = Value.slice d1 c0.length d2 ∧ f 10 = Value.pointer (some ⟨a5, 0, none⟩) ∧ f 11 = Value.slice c7 b7.length c9 ∧ f 12 = i64 b8 ∧ f 13 = i64 d9 ∧ f 14 = i64 c2 ∧ f 15 = Value.slice c3 d0.length c4 ∧ f 16 = i64 f0 ∧ f 17 = i64 i2 ∧ f 18 = i64 g1 ∧ aN G K (aT 31 K d4 d5 (bT b6 b5) :: rows [2] b6 b5 :: aT 2 K c3 c4 d0 :: aT 4 K b3 b4 b0 :: aT 4 K b1 b2 a9 :: aT 2 K a6 a8 a3 :: aT 63 K c7 c9 b7 :: box a5 33 [i64 0, i64 0, Value.slice none 0 0, Value.slice none 0 0, Value.slice a6 a3.length a8] :: aT 2 K d1 d2 c0 :: box a2 33 [i64 0, i64 0, Value.slice none 0 0, Value.slice none 0 0, Value.slice none 0 0] :: L) w) ?_ ?_
       ·exact ⟨k6, n4, q1, q2, q3, n5, n6, q4, q5, k7, w5, n7, rfl, rfl, rfl, rfl, b31⟩
       ·rintro ⟨i2, g1⟩ s2 f c42 c1 b75 ⟨s3, s4, s5, s6, s7, l4, o6, s8, s9, t0, t1, t2, o7, o8, t3, l5, l6⟩
        replace c1 : mM b5 c0 d0 f0 i2 g1 = some s2 := c1
        unfold mM at c1
        refine aH (aH (aB (aC (aD l5) (aC (aD l4) (aC (bU (len := b5.length) aBR rfl) (aC (cE rfl rfl) (aF (aA ?_))))))))
        rcases aJ c1 with ⟨t4, c1⟩ | ⟨t4, c1⟩
        ·refine aO t4 rfl (aX (aA (aH (bC (fun f w => ∃ (o9 : Int), uP g1 o9 = some s2 ∧ f 0 = bZ a1 k2 ∧ f 1 = bZ a10 k11 ∧ f 4 = Value.pointer (some ⟨a2, 0, none⟩) ∧ f 6 = Value.slice b1 a9.length b2 ∧ f 7 = Value.slice b3 b0.length b4 ∧ f 8 = Value.slice d4 b5.length d5 ∧ f 9 = Value.slice d1 c0.length d2 ∧ f 10 = Value.pointer (some ⟨a5, 0, none⟩) ∧ f 11 = Value.slice c7 b7.length c9 ∧ f 12 = i64 b8 ∧ f 13 = i64 d9 ∧ f 14 = i64 c2 ∧ f 15 = Value.slice c3 d0.length c4 ∧ f 16 = i64 f0 ∧ f 17 = i64 o9 ∧ f 18 = i64 g1 ∧ aN G K (aT 31 K d4 d5 (bT b6 b5) :: rows [2] b6 b5 :: aT 2 K c3 c4 d0 :: aT 4 K b3 b4 b0 :: aT 4 K b1 b2 a9 :: aT 2 K a6 a8 a3 :: aT 63 K c7 c9 b7 :: box a5 33 [i64 0, i64 0, Value.slice none 0 0, Value.slice none 0 0, Value.slice a6 a3.length a8] :: aT 2 K d1 d2 c0 :: box a2 33 [i64 0, i64 0, Value.slice none 0 0, Value.slice none 0 0, Value.slice none 0 0] :: L) w) ?_ ?_))))
         ·rintro f c43 ⟨o9, c1, b76, b77, b78, b79, b80, b81, b82, b83, b84, b85, b86, b87, b88, b89, b90, b91, b92⟩
          unfold uP at c1
          exact aA (aB (aC (aD b91) (aC (cI rfl rfl) (aC (aG (v := i64 (wr (g1 + 1))) rfl) (aF (aA ⟨(o9, wr (g1 + 1)), (Option.some.inj c1).symm, b76, b77, b78, b79, b80, b81, b82, b83, b84, b85, b86, b87, b88, b89, b90, rfl, b92⟩))))))
         refine aH (cH (fun f w => ∃ (t5 : Bool), uQ i2 g1 t5 = some s2 ∧ f 0 = bZ a1 k2 ∧ f 1 = bZ a10 k11 ∧ f 4 = Value.pointer (some ⟨a2, 0, none⟩) ∧ f 6 = Value.slice b1 a9.length b2 ∧ f 7 = Value.slice b3 b0.length b4 ∧ f 8 = Value.slice d4 b5.length d5 ∧ f 9 = Value.slice d1 c0.length d2 ∧ f 10 = Value.pointer (some ⟨a5, 0, none⟩) ∧ f 11 = Value.slice c7 b7.length c9 ∧ f 12 = i64 b8 ∧ f 13 = i64 d9 ∧ f 14 = i64 c2 ∧ f 15 = Value.slice c3 d0.length c4 ∧ f 16 = i64 f0 ∧ f 17 = i64 i2 ∧ f 18 = i64 g1 ∧ f 114 = Value.bool t5 ∧ aN G K (aT 31 K d4 d5 (bT b6 b5) :: rows [2] b6 b5 :: aT 2 K c3 c4 d0 :: aT 4 K b3 b4 b0 :: aT 4 K b1 b2 a9 :: aT 2 K a6 a8 a3 :: aT 63 K c7 c9 b7 :: box a5 33 [i64 0, i64 0, Value.slice none 0 0, Value.slice none 0 0, Value.slice a6 a3.length a8] :: aT 2 K d1 d2 c0 :: box a2 33 [i64 0, i64 0, Value.slice none 0 0, Value.slice none 0 0, Value.slice none 0 0] :: L) w) ?_ ?_)
         ·rintro f c44 ⟨t5, c1, z7, z8, z9, a00, a01, a02, a03, a04, a05, a06, a07, a08, a09, a11, b93, t6, a12, a14⟩
          unfold uQ at c1
          refine aA ?_
          rcases aJ c1 with ⟨t7, c1⟩ | ⟨t7, c1⟩
          ·exact aO t7 a12 (aB (aC (aD t6) (aC (aG (v := i64 g1) rfl) (aF (bG (aA ⟨g1, c1, z7, z8, z9, a00, a01, a02, a03, a04, a05, a06, a07, a08, a09, a11, rfl, t6, a14⟩))))))
          ·exact aM t7 a12 (aX (bG (aA ⟨i2, c1, z7, z8, z9, a00, a01, a02, a03, a04, a05, a06, a07, a08, a09, a11, b93, t6, a14⟩)))
         refine aB (aC (aD o6) (aC (aD l5) ?_))
         obtain ⟨b94, a15, c1⟩ := aI c1
         refine aC (eT cT rfl w8 rfl rfl rfl a15) (aC (kD (t := 0) cM l6 (i := 8) rfl a15 rfl rfl rfl) (aC (aD o8) (aC (kC rfl rfl) (aC (aD (v := Value.bool (b94 == f0)) rfl) ?_))))
         rcases aJ c1 with ⟨e8, c1⟩ | ⟨e8, c1⟩
         ·refine bH (g := 107) e8 (by kernel_rfl) rfl (aC (aD l4) (bH (g := 107) e8 (by kernel_rfl) rfl (aC (aD l5) (bH (g := 107) e8 (by kernel_rfl) rfl ?_))))
          obtain ⟨b95, p0, c1⟩ := aI c1
          refine aC (eT aBR rfl w7 rfl rfl rfl p0) (bH (g := 107) e8 (by kernel_rfl) rfl ?_)
          obtain ⟨⟨b96, b97⟩, a17⟩ := aAh f7 p0
          refine aC (kD (t := 0) aAu l6 (i := 0) rfl (lU f7 p0 a17) rfl rfl rfl) (bH (g := 107) e8 (by kernel_rfl) rfl (aC (aD o7) (bH (g := 107) e8 (by kernel_rfl) rfl ?_)))
          obtain ⟨c45, b98, c46, b99, c00, c01⟩ := aN.lendD' (i := 0) l6 f7 rfl rfl
          obtain ⟨c47, c02, c03, c04, c05⟩ := aN.lendS (i := 0) c00 b98 rfl
          obtain ⟨a18, c06, c1⟩ := aI c1
          refine aW (vs := [Value.slice b96 b95.length b97, Value.slice c3 d0.length c4]) Tryz.call71 rfl (aFi c04 ((rd_row (b99 _ _ _ a17 (aDk p0))).mono c02) c03 c06) ?_
          rintro _ c48 ⟨rfl, c07⟩
          have c08 := c05 _ _ c07
          have c09 := c01 _ _ c08
          exact aC (bK (v := Value.bool a18) e8 rfl rfl) (aF (aA ⟨a18, c1, s3, s4, s5, s6, s7, l4, o6, s8, s9, t0, t1, t2, o7, o8, t3, l5, rfl, c09⟩))
         ·exact bA (g := 107) e8 (by kernel_rfl) rfl (bA (g := 107) e8 (by kernel_rfl) rfl (bA (g := 107) e8 (by kernel_rfl) rfl (bA (g := 107) e8 (by kernel_rfl) rfl (bA (g := 107) e8 (by kernel_rfl) rfl (bA (g := 107) e8 (by kernel_rfl) rfl (aC (bM (v := Value.bool false) e8 rfl rfl) (aF (aA ⟨false, c1, s3, s4, s5, s6, s7, l4, o6, s8, s9, t0, t1, t2, o7, o8, t3, l5, rfl, l6⟩))))))))
        ·refine aM t4 rfl (bY (aY (aY ?_)))
         have c10 := b75 _ (Option.some.inj c1).symm
         subst c10
         have a0 : (rI b8 b5 c0 b7 c2 d0 f0 i2) = some i7 := a0
         exact bO (aA ⟨i2, a0, s3, s4, s5, s6, s7, l4, o6, s8, s9, t0, t1, t2, o7, o8, t3, l6⟩)
     ·refine aM q6 w6 (bY (aY (aY ?_)))
      have c11 := v5 _ (Option.some.inj a0).symm
      subst c11
      have b9 : (xT b8 a3 b5 c0 b7) = some j6 := b9
      exact bO (aA ⟨b5, c0, b7, d4, d5, b6, d1, d2, c7, c9, b9, k6, n4, q1, q2, q3, n5, n6, q4, q5, k7, f7, (aN.arr 8 [5, 7, 0, 1, 2, 3, 4, 6] n8 rfl)⟩)
    refine aB (aC (aD p8) (aC (aD p6) (aC (cS rfl h3) (aC (bW (k' := k2 + 2) gS rfl h3 rfl) (aC (bL (t := 2) nY p9 h3 rfl rfl) (aC (bU (len := t.Labels.length) cQ rfl) (aC (cE rfl rfl) (aC (aD (v := Value.bool (decide (c2 < (t.Labels.length : Int)))) rfl) ?_))))))))
    rcases aJ a0 with ⟨j1, a0⟩ | ⟨j1, a0⟩
    ·exact bH (g := 66) j1 (by kernel_rfl) rfl (aC (aD p7) (bH (g := 66) j1 (by kernel_rfl) rfl (aC (kC rfl rfl) (aC (bK (v := Value.bool (d9 == 0)) j1 rfl rfl) (aF (aA ⟨d9 == 0, a0, p6, v6, v7, v8, v9, w0, w1, w2, w3, w4, p7, p8, rfl, p9⟩))))))
    ·exact bA (g := 66) j1 (by kernel_rfl) rfl (bA (g := 66) j1 (by kernel_rfl) rfl (aC (bM (v := Value.bool false) j1 rfl rfl) (aF (aA ⟨false, a0, p6, v6, v7, v8, v9, w0, w1, w2, w3, w4, p7, p8, rfl, p9⟩))))
  ·refine aM p3 rfl (bY (aY (aY ?_)))
   have c12 := u4 _ (Option.some.inj b9).symm
   subst c12
   have hm : (uM t e7 f8 g2) = some R := hm
   exact bO (aA ⟨e7, f8, g2, h5, h7, f6, g3, g4, g5, g6, hm, u5, u7, l7, l8, v1, p2, (aN.arr 8 [1, 0, 4, 5, 2] v2 rfl)⟩)
theorem aCy {p : dC} {labels : (List bF)} {R : (dS × Int)} (hs : aN G K (L) w) (h3 : bX K a1 c2 p.Labels) (h6 : bX K a4 c5 p.Edges) (h9 : bX K a7 c8 labels) (hm : qM p labels = some R) :
  Calls Tryz.prog 7 ([Value.agg #[i64 p.States, i64 p.Initial, Value.slice a1 p.Labels.length c2, Value.slice a4 p.Edges.length c5], Value.slice a7 labels.length c8] : List Value).toArray w (fW fun v w' => ∃ (ra0 : Option Addr) (rc0 : Nat) (ra1 : Option Addr) (rc1 : Nat) (ra2 : Option Addr) (rc2 : Nat), v = Value.tuple #[Value.agg #[i64 R.1.System.States, i64 R.1.System.Initial, Value.slice ra0 R.1.System.Labels.length rc0, Value.slice ra1 R.1.System.Edges.length rc1, Value.slice ra2 R.1.Verdicts.length rc2], i64 R.2] ∧ aN G K (aT 9 K ra0 rc0 R.1.System.Labels :: aT 63 K ra1 rc1 R.1.System.Edges :: aT 2 K ra2 rc2 R.1.Verdicts :: L) w') := by
 refine aU Tryz.func7 rfl (by kernel_rfl) (by show (2 : Nat) ≤ 50; decide) ?_
 unfold qM at hm
 refine aH (aB (dU (v := Value.agg #[i64 p.States, i64 p.Initial, Value.slice a1 p.Labels.length c2, Value.slice a4 p.Edges.length c5]) (vs := [i64 p.States, i64 p.Initial, Value.slice a1 p.Labels.length c2, Value.slice a4 p.Edges.length c5]) hs rfl rfl (fun a6 n5 f8 => (cG (vs := [i64 0, i64 0, Value.slice none 0 0, Value.slice none 0 0, Value.slice none 0 0]) Tryz.zeroValue33 f8 rfl (fun a8 n6 f9 => (aC (aG (v := i64 0) rfl) (aF (aA (aH (aB ?_))))))))))
 obtain ⟨n7, d1, e8, g0, g1⟩ := aN.lendB (i := 1) f9 rfl
 obtain ⟨d2, g2, hm⟩ := aI hm
 refine aW (vs := [bZ (some ⟨a6, 0, none⟩) 0, bZ (some ⟨a6, 0, none⟩) 0]) Tryz.call29 rfl (aFQ g0 e8 (h3.mono d1) (h6.mono d1) e8 (h3.mono d1) (h6.mono d1) g2) ?_
 rintro _ n8 ⟨rfl, g3⟩
 have e9 := g1 _ _ g3
 refine aC (aG (v := i64 d2) rfl) (aF (aA (aH (aH (aB (aC (aD (v := i64 d2) rfl) (aC (lS rfl rfl) (aF (aA ?_)))))))))
 rcases aJ hm with ⟨d6, hm⟩ | ⟨d6, hm⟩
 ·refine aO d6 rfl (aH (aB (aC (eR (vs := []) (cs := [i64 0, i64 0, Value.slice none 0 0, Value.slice none 0 0, Value.slice none 0 0]) xE rfl (by kernel_rfl)) (aC (aD (v := i64 d2) rfl) (cC (i := 1) (ns := [i64 0, i64 0, Value.slice none 0 0, Value.slice none 0 0, Value.slice none 0 0]) (us := [i64 0, i64 0, Value.slice none 0 0, Value.slice none 0 0, Value.slice none 0 0]) Tryz.sizeOf33 e9 rfl rfl rfl rfl rfl (dT rfl) rfl rfl (fun g4 (g5 : aN G K (box a6 30 [i64 p.States, i64 p.Initial, Value.slice a1 p.Labels.length c2, Value.slice a4 p.Edges.length c5] :: box a8 33 [i64 0, i64 0, Value.slice none 0 0, Value.slice none 0 0, Value.slice none 0 0] :: L) g4) => (aC (aG (v := i64 d2) rfl) (aF (aA ?_)))))))))
  have g6 := aN.nil (α := bF) g5 9 K
  have g7 := aN.nil (α := Edge) g6 63 K
  have f0 := aN.nil (α := Int) g7 2 K
  have g8 := Option.some.inj hm
  subst g8
  exact bB (aQ (lT Tryz.results7 (gL (vs := [i64 0, i64 0, Value.slice none 0 0, Value.slice none 0 0, Value.slice none 0 0]) rfl lI f0 (i := 4) rfl rfl rfl) (mH rfl rfl) ⟨none, 0, none, 0, none, 0, rfl, (aN.arr 5 [2, 1, 0] f0 rfl)⟩))
 ·refine aM d6 rfl (aX (aA (aH (aH (aB (aC (aD (v := Value.slice a7 labels.length c8) rfl) ?_))))))
  obtain ⟨n9, g9, hm⟩ := aI hm
  refine aW (vs := [Value.slice a7 labels.length c8]) Tryz.call30 rfl (aFR e9 h9 g9) ?_
  rintro _ o0 ⟨rfl, d7⟩
  refine aC (dN rfl) (aF (aA ?_))
  rcases aJ hm with ⟨d8, hm⟩ | ⟨d8, hm⟩
  ·refine aO d8 rfl (aH (aB (aC (eR (vs := []) (cs := [i64 0, i64 0, Value.slice none 0 0, Value.slice none 0 0, Value.slice none 0 0]) xE rfl (by kernel_rfl)) (cC (i := 1) (ns := [i64 0, i64 0, Value.slice none 0 0, Value.slice none 0 0, Value.slice none 0 0]) (us := [i64 0, i64 0, Value.slice none 0 0, Value.slice none 0 0, Value.slice none 0 0]) Tryz.sizeOf33 d7 rfl rfl rfl rfl rfl (dT rfl) rfl rfl (fun h0 (h1 : aN G K (box a6 30 [i64 p.States, i64 p.Initial, Value.slice a1 p.Labels.length c2, Value.slice a4 p.Edges.length c5] :: box a8 33 [i64 0, i64 0, Value.slice none 0 0, Value.slice none 0 0, Value.slice none 0 0] :: L) h0) => (aC (aG (v := i64 2) rfl) (aF (aA ?_))))))))
   have h2 := aN.nil (α := bF) h1 9 K
   have h4 := aN.nil (α := Edge) h2 63 K
   have f1 := aN.nil (α := Int) h4 2 K
   have h5 := Option.some.inj hm
   subst h5
   exact bB (aQ (lT Tryz.results7 (gL (vs := [i64 0, i64 0, Value.slice none 0 0, Value.slice none 0 0, Value.slice none 0 0]) rfl lI f1 (i := 4) rfl rfl rfl) (mH rfl rfl) ⟨none, 0, none, 0, none, 0, rfl, (aN.arr 5 [2, 1, 0] f1 rfl)⟩))
  ·refine aM d8 rfl (aX (aA (aH (aH (aB (aC (aD (v := Value.slice a7 labels.length c8) rfl) (aC (bU (len := labels.length) cQ rfl) (aC (tX rfl rfl) (aF (aA ?_))))))))))
   rcases aJ hm with ⟨d9, hm⟩ | ⟨d9, hm⟩
   ·refine aO d9 rfl (aH (aB (aC (eR (vs := []) (cs := [i64 0, i64 0, Value.slice none 0 0, Value.slice none 0 0, Value.slice none 0 0]) xE rfl (by kernel_rfl)) (cC (i := 1) (ns := [i64 0, i64 0, Value.slice none 0 0, Value.slice none 0 0, Value.slice none 0 0]) (us := [i64 0, i64 0, Value.slice none 0 0, Value.slice none 0 0, Value.slice none 0 0]) Tryz.sizeOf33 d7 rfl rfl rfl rfl rfl (dT rfl) rfl rfl (fun h7 (h8 : aN G K (box a6 30 [i64 p.States, i64 p.Initial, Value.slice a1 p.Labels.length c2, Value.slice a4 p.Edges.length c5] :: box a8 33 [i64 0, i64 0, Value.slice none 0 0, Value.slice none 0 0, Value.slice none 0 0] :: L) h7) => (aC (aG (v := i64 5) rfl) (aF (aA ?_))))))))
    have i0 := aN.nil (α := bF) h8 9 K
    have i1 := aN.nil (α := Edge) i0 63 K
    have f2 := aN.nil (α := Int) i1 2 K
    have i2 := Option.some.inj hm
    subst i2
    exact bB (aQ (lT Tryz.results7 (gL (vs := [i64 0, i64 0, Value.slice none 0 0, Value.slice none 0 0, Value.slice none 0 0]) rfl lI f2 (i := 4) rfl rfl rfl) (mH rfl rfl) ⟨none, 0, none, 0, none, 0, rfl, (aN.arr 5 [2, 1, 0] f2 rfl)⟩))
   ·refine aM d9 rfl (aX (aA (aH (aB (eN (Kt := K) (xs := ([([116, 97, 117] : bF)] : List bF)) (cs := [cF ([116, 97, 117] : bF)]) (vs := [(0, cF ([116, 97, 117] : bF))]) cQ aCx rfl rfl d7 rfl (by kernel_rfl) rfl rfl rfl ⟨rfl, trivial⟩ (fun i3 i4 (i5 : aN G K (aT 9 K i3 1 ([([116, 97, 117] : bF)] : List bF) :: box a6 30 [i64 p.States, i64 p.Initial, Value.slice a1 p.Labels.length c2, Value.slice a4 p.Edges.length c5] :: box a8 33 [i64 0, i64 0, Value.slice none 0 0, Value.slice none 0 0, Value.slice none 0 0] :: L) i4) => (aC (aD (v := Value.slice a7 labels.length c8) rfl) ?_)))))))
    obtain ⟨a2, i6, hm⟩ := aI hm
    refine aEX (i := 0) cQ Tryz.underlying22 aCx rfl rfl i5 rfl (Hp.le_refl _) h9 i6 rfl rfl rfl rfl (fun a3 a5 i7 (i8 : aN G K (aT 9 K a3 a5 a2 :: box a6 30 [i64 p.States, i64 p.Initial, Value.slice a1 p.Labels.length c2, Value.slice a4 p.Edges.length c5] :: box a8 33 [i64 0, i64 0, Value.slice none 0 0, Value.slice none 0 0, Value.slice none 0 0] :: L) i7) => (aC (eR (vs := [(0, i64 1), (2, Value.slice a3 a2.length a5)]) (cs := [i64 1, i64 0, Value.slice a3 a2.length a5, Value.slice none 0 0]) bs_30 rfl (by kernel_rfl)) (cG (vs := [i64 0, i64 0, Value.slice none 0 0, Value.slice none 0 0]) Tryz.zeroValue30 i8 rfl (fun b5 o1 i9 => (cC (i := 0) (ns := [i64 1, i64 0, Value.slice a3 a2.length a5, Value.slice none 0 0]) (us := [i64 1, i64 0, Value.slice a3 a2.length a5, Value.slice none 0 0]) Tryz.sizeOf30 i9 rfl rfl rfl rfl rfl (dT rfl) rfl rfl (fun j0 (j1 : aN G K (box b5 30 [i64 1, i64 0, Value.slice a3 a2.length a5, Value.slice none 0 0] :: aT 9 K a3 a5 a2 :: box a6 30 [i64 p.States, i64 p.Initial, Value.slice a1 p.Labels.length c2, Value.slice a4 p.Edges.length c5] :: box a8 33 [i64 0, i64 0, Value.slice none 0 0, Value.slice none 0 0, Value.slice none 0 0] :: L) j0) => (aF (aA (aH (aH (aB (aC (aG (v := i64 0) rfl) (aF (aA (bC (fun f w => ∃ (b6 : List Edge) (b9 : Option Addr) (c0 : Nat), lV p a2 b6 = some R ∧ f 2 = Value.pointer (some ⟨a6, 0, none⟩) ∧ f 4 = Value.pointer (some ⟨a8, 0, none⟩) ∧ f 7 = Value.pointer (some ⟨b5, 0, none⟩) ∧ aN G K (aT 63 K b9 c0 b6 :: box b5 30 [i64 1, i64 0, Value.slice a3 a2.length a5, Value.slice b9 b6.length c0] :: aT 9 K a3 a5 a2 :: box a6 30 [i64 p.States, i64 p.Initial, Value.slice a1 p.Labels.length c2, Value.slice a4 p.Edges.length c5] :: box a8 33 [i64 0, i64 0, Value.slice none 0 0, Value.slice none 0 0, Value.slice none 0 0] :: L) w) ?_ ?_)))))))))))))))
    ·rintro f o2 ⟨b6, b9, c0, hm, j2, d3, j3, j4⟩
     unfold lV at hm
     refine aA (aH (aB ?_))
     obtain ⟨o3, e0, j5, j6, j7⟩ := aN.lendS (i := 2) j4 (Hp.le_refl _) rfl
     obtain ⟨o4, e1, j8, j9, k0⟩ := aN.lendS (i := 0) j6 e0 rfl
     obtain ⟨o5, d4, k1, k2, k3⟩ := aN.lendB (i := 0) j9 rfl
     obtain ⟨o6, d0, k4, k5, k6⟩ := aN.lendB (i := 0) k2 rfl
     obtain ⟨a0, k7, hm⟩ := aI hm
     refine aW (vs := [bZ (some ⟨b5, 0, none⟩) 0, bZ (some ⟨a6, 0, none⟩) 0]) Tryz.call31 (lst2 j3 j2) (aFj (t := ⟨1, 0, a2, b6⟩) k5 (k1.mono d0) (j5.mono (Hp.le_trans (Hp.le_trans e1 d4) d0)) (j8.mono (Hp.le_trans d4 d0)) k4 (h3.mono (Hp.le_trans (Hp.le_trans (Hp.le_trans e0 e1) d4) d0)) (h6.mono (Hp.le_trans (Hp.le_trans (Hp.le_trans e0 e1) d4) d0)) k7) ?_
     rintro _ o7 ⟨a9, b0, b1, b2, b3, b4, rfl, k8⟩
     have k9 := k6 _ _ k8
     have l0 := k3 _ _ k9
     have l1 := k0 _ _ l0
     have l2 := j7 _ _ l1
     refine aC (aD (v := Value.tuple #[Value.agg #[i64 a0.1.System.States, i64 a0.1.System.Initial, Value.slice a9 a0.1.System.Labels.length b0, Value.slice b1 a0.1.System.Edges.length b2, Value.slice b3 a0.1.Verdicts.length b4], Value.bool a0.2]) rfl) (aC (cZ rfl rfl) (aC (cZ rfl rfl) (cG (vs := [i64 0, i64 0, Value.slice none 0 0, Value.slice none 0 0, Value.slice none 0 0]) Tryz.zeroValue33 l2 rfl (fun e2 o8 l3 => (cC (i := 0) (ns := [i64 a0.1.System.States, i64 a0.1.System.Initial, Value.slice a9 a0.1.System.Labels.length b0, Value.slice b1 a0.1.System.Edges.length b2, Value.slice b3 a0.1.Verdicts.length b4]) (us := [i64 a0.1.System.States, i64 a0.1.System.Initial, Value.slice a9 a0.1.System.Labels.length b0, Value.slice b1 a0.1.System.Edges.length b2, Value.slice b3 a0.1.Verdicts.length b4]) Tryz.sizeOf33 l3 rfl rfl rfl rfl rfl (dT rfl) rfl rfl (fun l4 (e3 : aN G K (box e2 33 [i64 a0.1.System.States, i64 a0.1.System.Initial, Value.slice a9 a0.1.System.Labels.length b0, Value.slice b1 a0.1.System.Edges.length b2, Value.slice b3 a0.1.Verdicts.length b4] :: aT 9 K a3 a5 a2 :: aT 63 K b9 c0 b6 :: box b5 30 [i64 1, i64 0, Value.slice a3 a2.length a5, Value.slice b9 b6.length c0] :: box a6 30 [i64 p.States, i64 p.Initial, Value.slice a1 p.Labels.length c2, Value.slice a4 p.Edges.length c5] :: aT 9 K a9 b0 a0.1.System.Labels :: aT 63 K b1 b2 a0.1.System.Edges :: aT 2 K b3 b4 a0.1.Verdicts :: box a8 33 [i64 0, i64 0, Value.slice none 0 0, Value.slice none 0 0, Value.slice none 0 0] :: L) l4) => (aC (aG (v := Value.bool a0.2) rfl) (aF (aA (aH (aH (aB (aC (aD (v := Value.bool a0.2) rfl) (aC (dN rfl) (aF (aA ?_))))))))))))))))
     rcases aJ hm with ⟨e4, hm⟩ | ⟨e4, hm⟩
     ·refine aO e4 rfl (aH (aB (aC (eR (vs := []) (cs := [i64 0, i64 0, Value.slice none 0 0, Value.slice none 0 0, Value.slice none 0 0]) xE rfl (by kernel_rfl)) (cC (i := 8) (ns := [i64 0, i64 0, Value.slice none 0 0, Value.slice none 0 0, Value.slice none 0 0]) (us := [i64 0, i64 0, Value.slice none 0 0, Value.slice none 0 0, Value.slice none 0 0]) Tryz.sizeOf33 e3 rfl d3 rfl rfl rfl (dT rfl) rfl rfl (fun l5 (l6 : aN G K (box e2 33 [i64 a0.1.System.States, i64 a0.1.System.Initial, Value.slice a9 a0.1.System.Labels.length b0, Value.slice b1 a0.1.System.Edges.length b2, Value.slice b3 a0.1.Verdicts.length b4] :: aT 9 K a3 a5 a2 :: aT 63 K b9 c0 b6 :: box b5 30 [i64 1, i64 0, Value.slice a3 a2.length a5, Value.slice b9 b6.length c0] :: box a6 30 [i64 p.States, i64 p.Initial, Value.slice a1 p.Labels.length c2, Value.slice a4 p.Edges.length c5] :: aT 9 K a9 b0 a0.1.System.Labels :: aT 63 K b1 b2 a0.1.System.Edges :: aT 2 K b3 b4 a0.1.Verdicts :: box a8 33 [i64 0, i64 0, Value.slice none 0 0, Value.slice none 0 0, Value.slice none 0 0] :: L) l5) => (aC (aG (v := i64 5) rfl) (aF (aA ?_))))))))
      have l7 := aN.nil (α := bF) l6 9 K
      have l8 := aN.nil (α := Edge) l7 63 K
      have f3 := aN.nil (α := Int) l8 2 K
      have l9 := Option.some.inj hm
      subst l9
      exact bB (aQ (lT Tryz.results7 (gL (vs := [i64 0, i64 0, Value.slice none 0 0, Value.slice none 0 0, Value.slice none 0 0]) rfl lI f3 (i := 11) rfl d3 rfl) (mH rfl rfl) ⟨none, 0, none, 0, none, 0, rfl, (aN.arr 12 [2, 1, 0] f3 rfl)⟩))
     ·refine aM e4 rfl (aX (aA (aH (aB (aC (dR (us := [i64 a0.1.System.States, i64 a0.1.System.Initial, Value.slice a9 a0.1.System.Labels.length b0, Value.slice b1 a0.1.System.Edges.length b2, Value.slice b3 a0.1.Verdicts.length b4]) lI e3 (i := 0) rfl rfl rfl rfl) (cC (i := 8) (ns := [i64 a0.1.System.States, i64 a0.1.System.Initial, Value.slice a9 a0.1.System.Labels.length b0, Value.slice b1 a0.1.System.Edges.length b2, Value.slice b3 a0.1.Verdicts.length b4]) (us := [i64 a0.1.System.States, i64 a0.1.System.Initial, Value.slice a9 a0.1.System.Labels.length b0, Value.slice b1 a0.1.System.Edges.length b2, Value.slice b3 a0.1.Verdicts.length b4]) Tryz.sizeOf33 e3 rfl d3 rfl rfl rfl (dT rfl) rfl rfl (fun m0 (f4 : aN G K (box e2 33 [i64 a0.1.System.States, i64 a0.1.System.Initial, Value.slice a9 a0.1.System.Labels.length b0, Value.slice b1 a0.1.System.Edges.length b2, Value.slice b3 a0.1.Verdicts.length b4] :: aT 9 K a3 a5 a2 :: aT 63 K b9 c0 b6 :: box b5 30 [i64 1, i64 0, Value.slice a3 a2.length a5, Value.slice b9 b6.length c0] :: box a6 30 [i64 p.States, i64 p.Initial, Value.slice a1 p.Labels.length c2, Value.slice a4 p.Edges.length c5] :: aT 9 K a9 b0 a0.1.System.Labels :: aT 63 K b1 b2 a0.1.System.Edges :: aT 2 K b3 b4 a0.1.Verdicts :: box a8 33 [i64 a0.1.System.States, i64 a0.1.System.Initial, Value.slice a9 a0.1.System.Labels.length b0, Value.slice b1 a0.1.System.Edges.length b2, Value.slice b3 a0.1.Verdicts.length b4] :: L) m0) => (aC (aG (v := i64 0) rfl) (aF (aA ?_))))))))))
      have m1 := Option.some.inj hm
      subst m1
      exact bB (lT Tryz.results7 (gL (vs := [i64 a0.1.System.States, i64 a0.1.System.Initial, Value.slice a9 a0.1.System.Labels.length b0, Value.slice b1 a0.1.System.Edges.length b2, Value.slice b3 a0.1.Verdicts.length b4]) rfl lI f4 (i := 8) rfl d3 rfl) (mH rfl rfl) ⟨a9, b0, b1, b2, b3, b4, rfl, (aN.arr 9 [5, 6, 7] f4 rfl)⟩)
    have m2 := aN.nil (α := Edge) j1 63 K
    obtain ⟨o9, m3, hm⟩ := aI hm
    refine cD m3 (fun (s : (List Edge × Int)) f w => match s with | (c1, b7) => ∃ (c3 : Option Addr) (c4 : Nat), f 1 = Value.slice a7 labels.length c8 ∧ f 2 = Value.pointer (some ⟨a6, 0, none⟩) ∧ f 4 = Value.pointer (some ⟨a8, 0, none⟩) ∧ f 7 = Value.pointer (some ⟨b5, 0, none⟩) ∧ f 8 = i64 b7 ∧ aN G K (aT 63 K c3 c4 c1 :: box b5 30 [i64 1, i64 0, Value.slice a3 a2.length a5, Value.slice c3 c1.length c4] :: aT 9 K a3 a5 a2 :: box a6 30 [i64 p.States, i64 p.Initial, Value.slice a1 p.Labels.length c2, Value.slice a4 p.Edges.length c5] :: box a8 33 [i64 0, i64 0, Value.slice none 0 0, Value.slice none 0 0, Value.slice none 0 0] :: L) w) ?_ ?_
    ·exact ⟨none, 0, rfl, rfl, rfl, rfl, rfl, m2⟩
    ·rintro ⟨c1, b7⟩ m4 f p0 b8 m5 ⟨c3, c4, f5, f6, f7, d5, e5, e6⟩
     replace b8 : jR labels c1 b7 = some m4 := b8
     unfold jR at b8
     refine aH (aH (aB (aC (aD e5) (aC (aD f5) (aC (bU (len := labels.length) cQ rfl) (aC (cE rfl rfl) (aF (aA ?_))))))))
     rcases aJ b8 with ⟨e7, b8⟩ | ⟨e7, b8⟩
     ·refine aO e7 rfl (aX (aA (aH (cK (aB (aC (bI (t' := 3) dI d5 rfl) (aC (cA iC e6 (i := 1) rfl rfl rfl) (aC (aD e5) (aC (cI rfl rfl) (aC (eR (vs := [(1, i64 (wr (b7 + 1)))]) (cs := [i64 0, i64 (wr (b7 + 1)), i64 0]) bs_63 rfl (by kernel_rfl)) (eN (Kt := K) (xs := ([⟨0, wr (b7 + 1), 0⟩] : List Edge)) (cs := [i64 0, i64 (wr (b7 + 1)), i64 0]) (vs := [(0, Value.agg #[i64 0, i64 (wr (b7 + 1)), i64 0])]) cR zS rfl rfl e6 rfl (by kernel_rfl) rfl rfl rfl ⟨rfl, trivial⟩ (fun m6 m7 (m8 : aN G K (aT 63 K m6 1 ([⟨0, wr (b7 + 1), 0⟩] : List Edge) :: aT 63 K c3 c4 c1 :: box b5 30 [i64 1, i64 0, Value.slice a3 a2.length a5, Value.slice c3 c1.length c4] :: aT 9 K a3 a5 a2 :: box a6 30 [i64 p.States, i64 p.Initial, Value.slice a1 p.Labels.length c2, Value.slice a4 p.Edges.length c5] :: box a8 33 [i64 0, i64 0, Value.slice none 0 0, Value.slice none 0 0, Value.slice none 0 0] :: L) m7) => ?_))))))))))))
      obtain ⟨c6, m9, b8⟩ := aI b8
      exact iZ (i := 0) cR Tryz.underlying28 zS rfl rfl m8 rfl (Hp.le_refl _) (Hp.le_refl _) m9 rfl rfl rfl rfl (fun _ h => h) (fun c7 c9 n0 (n1 : aN G K (aT 63 K c7 c9 c6 :: box b5 30 [i64 1, i64 0, Value.slice a3 a2.length a5, Value.slice c3 c1.length c4] :: aT 9 K a3 a5 a2 :: box a6 30 [i64 p.States, i64 p.Initial, Value.slice a1 p.Labels.length c2, Value.slice a4 p.Edges.length c5] :: box a8 33 [i64 0, i64 0, Value.slice none 0 0, Value.slice none 0 0, Value.slice none 0 0] :: L) n0) => (aC (bI (t' := 3) dI d5 rfl) (cC (i := 1) (ns := [Value.slice c7 c6.length c9]) (us := [i64 1, i64 0, Value.slice a3 a2.length a5, Value.slice c7 c6.length c9]) Tryz.sizeOf28 n1 rfl rfl rfl rfl rfl (dT rfl) rfl rfl (fun n2 (n3 : aN G K (aT 63 K c7 c9 c6 :: box b5 30 [i64 1, i64 0, Value.slice a3 a2.length a5, Value.slice c7 c6.length c9] :: aT 9 K a3 a5 a2 :: box a6 30 [i64 p.States, i64 p.Initial, Value.slice a1 p.Labels.length c2, Value.slice a4 p.Edges.length c5] :: box a8 33 [i64 0, i64 0, Value.slice none 0 0, Value.slice none 0 0, Value.slice none 0 0] :: L) n2) => (aF (bG (aA (aB (aC (aD e5) (aC (cI rfl rfl) (aC (aG (v := i64 (wr (b7 + 1))) rfl) (aF (aA ⟨(c6, wr (b7 + 1)), (Option.some.inj b8).symm, c7, c9, f5, f6, f7, d5, rfl, n3⟩)))))))))))))
     ·refine aM e7 rfl (bY (aY (aY ?_)))
      have n4 := m5 _ (Option.some.inj b8).symm
      subst n4
      have hm : (lV p a2 c1) = some R := hm
      exact bO (aA ⟨c1, c3, c4, hm, f6, f7, d5, e6⟩)
theorem nP {a : (List bF)} {R : (List bF)} (hs : aN G K (L) w) (h3 : bX K a1 c2 a) (hm : kP a = some R) :
  Calls Tryz.prog 9 ([Value.slice a1 a.length c2] : List Value).toArray w (fW fun v w' => ∃ (ra0 : Option Addr) (rc0 : Nat), v = Value.slice ra0 R.length rc0 ∧ aN G K (aT 9 K ra0 rc0 R :: L) w') := by
 refine aU Tryz.func9 rfl (by kernel_rfl) (by show (1 : Nat) ≤ 22; decide) ?_
 unfold kP at hm
 refine aH (aB (aC (aG (v := Value.slice none 0 0) rfl) (aF (aA (aH (aB (aC (aD (v := Value.slice a1 a.length c2) rfl) (aC (bU (len := a.length) cQ rfl) ?_))))))))
 obtain ⟨a2, q5, hm⟩ := aI hm
 refine aDg (e := ([] : bF)) cQ aCx rfl rfl hs rfl rfl rfl q5 rfl (fun a6 w7 (b9 : aN G K (aT 9 K a6 a2.length a2 :: L) w7) => (aC (aG (v := Value.slice a6 a2.length a2.length) rfl) (aF (aA (aH (aH (aB (aC (aG (v := i64 0) rfl) (aF (aA (bC (fun f w => ∃ (a5 : List bF), uR a5 = some R ∧ f 3 = Value.slice a6 a5.length a2.length ∧ aN G K (aT 9 K a6 a2.length a5 :: L) w) ?_ ?_)))))))))))
 ·rintro f d3 ⟨a5, hm, c0, c1⟩
  unfold uR at hm
  refine aA (aH (aB (aC (aD c0) (aC (aG (v := Value.slice a6 a5.length a2.length) rfl) (aF (aA ?_))))))
  have c3 := Option.some.inj hm
  subst c3
  exact bB (aZ Tryz.results9 rfl ⟨a6, a2.length, rfl, c1⟩)
 obtain ⟨d4, c4, hm⟩ := aI hm
 refine cD c4 (fun (s : (List bF × Int)) f w => match s with | (a4, i27) => f 0 = Value.slice a1 a.length c2 ∧ f 3 = Value.slice a6 a4.length a2.length ∧ f 4 = i64 i27 ∧ aN G K (aT 9 K a6 a2.length a4 :: L) w) ?_ ?_
 ·exact ⟨rfl, rfl, rfl, b9⟩
 ·rintro ⟨a4, i27⟩ c5 f d5 a0 c6 ⟨a9, b0, a7, a8⟩
  replace a0 : qN a a4 i27 = some c5 := a0
  unfold qN at a0
  refine aH (aH (aB (aC (aD a7) (aC (aD a9) (aC (bU (len := a.length) cQ rfl) (aC (cE rfl rfl) (aF (aA ?_))))))))
  rcases aJ a0 with ⟨b1, a0⟩ | ⟨b1, a0⟩
  ·refine aO b1 rfl (aX (aA (aH (cK (aB (aC (aD b0) (aC (aD a7) (aC (aD a9) (aC (aD a7) ?_)))))))))
   obtain ⟨b3, b4, a0⟩ := aI a0
   refine aC (cU cQ rfl h3 rfl rfl rfl b4) ?_
   obtain ⟨d6, c7, c8⟩ := bX.el (sz := 1) rfl h3 b4
   cases c8
   refine aC (bL (t := 0) oI a8 c7 rfl rfl) ?_
   obtain ⟨d7, b2, a0⟩ := aI a0
   have c9 := dL a8 (i := 0) rfl b2
   refine aC (eT cQ rfl c9 rfl rfl rfl b2) ?_
   obtain ⟨b5, b6, a0⟩ := aI a0
   exact oA (i := 0) (t := 0) (ns := [cF b3]) (e' := (b3 : bF)) Tryz.sizeOf9 a8 rfl (Hp.le_refl _) rfl rfl rfl b2 b6 rfl rfl (dT rfl) rfl (fun cs h => by cases h; rfl) (fun d0 (d1 : aN G K (aT 9 K a6 a2.length b5 :: L) d0) => (aF (bG (aA (aB (aC (aD a7) (aC (cI rfl rfl) (aC (aG (v := i64 (wr (i27 + 1))) rfl) (aF (aA ⟨(b5, wr (i27 + 1)), (Option.some.inj a0).symm, a9, (Eq.trans b0 (congrArg (fun n => Value.slice a6 n a2.length) (gQ b6))), rfl, d1⟩))))))))))
  ·refine aM b1 rfl (bY (aY (aY ?_)))
   have d2 := c6 _ (Option.some.inj a0).symm
   subst d2
   have hm : (uR a4) = some R := hm
   exact bO (aA ⟨a4, hm, b0, a8⟩)
theorem aFU {a : Edge} {R : Edge} (hs : aN G K (L) w)  (hm : aDt a = some R) :
  Calls Tryz.prog 72 ([Value.agg #[i64 a.From, i64 a.Label, i64 a.To]] : List Value).toArray w (fW fun v w' => v = Value.agg #[i64 R.From, i64 R.Label, i64 R.To] ∧ aN G K (L) w') := by
 refine aU Tryz.func72 rfl (by kernel_rfl) (by show (1 : Nat) ≤ 14; decide) ?_
 unfold aDt at hm
 refine aH (aB (dU (v := Value.agg #[i64 a.From, i64 a.Label, i64 a.To]) (vs := [i64 a.From, i64 a.Label, i64 a.To]) hs rfl rfl (fun b1 w2 a8 => (cG (vs := [i64 0, i64 0, i64 0]) Tryz.zeroValue63 a8 rfl (fun b4 w5 a9 => (aF (aA (aH (aB (cG (vs := [i64 0, i64 0, i64 0]) Tryz.zeroValue63 a9 rfl (fun b7 w8 a3 => (aF (aA (aH (aB (aC (bI (t' := 0) fa_107_0 rfl rfl) (aC (cA cM a3 (i := 2) rfl rfl rfl) (aC (bI (t' := 0) iB rfl rfl) (cC (i := 0) (ns := [i64 a.From]) (us := [i64 a.From, i64 0, i64 0]) Tryz.sizeOf2 a3 rfl rfl rfl rfl rfl (dT rfl) rfl rfl (fun b0 (a4 : aN G K (box b7 63 [i64 a.From, i64 0, i64 0] :: box b4 63 [i64 0, i64 0, i64 0] :: box b1 107 [i64 a.From, i64 a.Label, i64 a.To] :: L) b0) => (aF (aA (aH (aB (aC (bI (t' := 1) fa_107_1 rfl rfl) (aC (cA cM a4 (i := 2) rfl rfl rfl) ?_))))))))))))))))))))))))))
 refine aC (bI (t' := 1) fP rfl rfl) (cC (i := 0) (ns := [i64 a.Label]) (us := [i64 a.From, i64 a.Label, i64 0]) Tryz.sizeOf2 a4 rfl rfl rfl rfl rfl (dT rfl) rfl rfl (fun w12 (a5 : aN G K (box b7 63 [i64 a.From, i64 a.Label, i64 0] :: box b4 63 [i64 0, i64 0, i64 0] :: box b1 107 [i64 a.From, i64 a.Label, i64 a.To] :: L) w12) => (aF (aA (aH (aB (aC (bI (t' := 2) fa_107_2 rfl rfl) (aC (cA cM a5 (i := 2) rfl rfl rfl) (aC (bI (t' := 2) iU rfl rfl) (cC (i := 0) (ns := [i64 a.To]) (us := [i64 a.From, i64 a.Label, i64 a.To]) Tryz.sizeOf2 a5 rfl rfl rfl rfl rfl (dT rfl) rfl rfl (fun b2 (a6 : aN G K (box b7 63 [i64 a.From, i64 a.Label, i64 a.To] :: box b4 63 [i64 0, i64 0, i64 0] :: box b1 107 [i64 a.From, i64 a.Label, i64 a.To] :: L) b2) => (aF (aA (aH (aB (aC (dR (us := [i64 a.From, i64 a.Label, i64 a.To]) qC a6 (i := 0) rfl rfl rfl rfl) (cC (i := 1) (ns := [i64 a.From, i64 a.Label, i64 a.To]) (us := [i64 a.From, i64 a.Label, i64 a.To]) Tryz.sizeOf63 a6 rfl rfl rfl rfl rfl (dT rfl) rfl rfl (fun b3 (a7 : aN G K (box b7 63 [i64 a.From, i64 a.Label, i64 a.To] :: box b4 63 [i64 a.From, i64 a.Label, i64 a.To] :: box b1 107 [i64 a.From, i64 a.Label, i64 a.To] :: L) b3) => (aF (aA ?_))))))))))))))))))))
 have hR18 := Option.some.inj hm
 subst hR18
 exact bB (aEP Tryz.results72 (gL (vs := [i64 a.From, i64 a.Label, i64 a.To]) rfl qC a7 (i := 1) rfl rfl rfl) ⟨rfl, (aN.arr 3 [] a7 rfl)⟩)
theorem aFk {a : (List Edge)} {R : (List Edge)} (hs : aN G K (L) w) (h3 : bX K a1 c2 a) (hm : aAD a = some R) :
  Calls Tryz.prog 32 ([Value.slice a1 a.length c2] : List Value).toArray w (fW fun v w' => ∃ (ra0 : Option Addr) (rc0 : Nat), v = Value.slice ra0 R.length rc0 ∧ aN G K (aT 63 K ra0 rc0 R :: L) w') := by
 refine aU Tryz.func32 rfl (by kernel_rfl) (by show (1 : Nat) ≤ 23; decide) ?_
 unfold aAD at hm
 refine aH (aB (aC (aG (v := Value.slice none 0 0) rfl) (aF (aA (aH (aB (aC (aD (v := Value.slice a1 a.length c2) rfl) (aC (bU (len := a.length) sl_23 rfl) ?_))))))))
 obtain ⟨a2, q5, hm⟩ := aI hm
 refine aDg (e := (⟨0, 0, 0⟩ : Edge)) cR zS rfl rfl hs rfl rfl rfl q5 rfl (fun a6 w7 (c1 : aN G K (aT 63 K a6 a2.length a2 :: L) w7) => (aC (aG (v := Value.slice a6 a2.length a2.length) rfl) (aF (aA (aH (aH (aB (aC (aG (v := i64 0) rfl) (aF (aA (bC (fun f w => ∃ (a7 : List Edge), xU a7 = some R ∧ f 3 = Value.slice a6 a7.length a2.length ∧ aN G K (aT 63 K a6 a2.length a7 :: L) w) ?_ ?_)))))))))))
 ·rintro f d6 ⟨a7, hm, c3, c4⟩
  unfold xU at hm
  refine aA (aH (aB (aC (aD c3) (aC (aG (v := Value.slice a6 a7.length a2.length) rfl) (aF (aA ?_))))))
  have c5 := Option.some.inj hm
  subst c5
  exact bB (aZ Tryz.results32 rfl ⟨a6, a2.length, rfl, c4⟩)
 obtain ⟨d7, c6, hm⟩ := aI hm
 refine cD c6 (fun (s : (List Edge × Int)) f w => match s with | (a4, a8) => f 0 = Value.slice a1 a.length c2 ∧ f 3 = Value.slice a6 a4.length a2.length ∧ f 4 = i64 a8 ∧ aN G K (aT 63 K a6 a2.length a4 :: L) w) ?_ ?_
 ·exact ⟨rfl, rfl, rfl, c1⟩
 ·rintro ⟨a4, a8⟩ c7 f d8 a0 c8 ⟨b0, b1, a9, b2⟩
  replace a0 : uS a a4 a8 = some c7 := a0
  unfold uS at a0
  refine aH (aH (aB (aC (aD a9) (aC (aD b0) (aC (bU (len := a.length) sl_23 rfl) (aC (cE rfl rfl) (aF (aA ?_))))))))
  rcases aJ a0 with ⟨b3, a0⟩ | ⟨b3, a0⟩
  ·refine aO b3 rfl (aX (aA (aH (cK (aB (aC (aD b1) (aC (aD a9) (aC (aD b0) (aC (aD a9) ?_)))))))))
   obtain ⟨a5, b5, a0⟩ := aI a0
   refine aC (cU sl_23 rfl h3 rfl rfl rfl b5) ?_
   obtain ⟨d9, c9, d0⟩ := bX.el (sz := 3) rfl h3 b5
   cases d0
   refine aC (fO (t := 0) (vs := [i64 a5.From, i64 a5.Label, i64 a5.To]) ag_107 b2 c9 rfl rfl rfl) ?_
   obtain ⟨r49, d1, a0⟩ := aI a0
   refine aW (vs := [Value.agg #[i64 a5.From, i64 a5.Label, i64 a5.To]]) Tryz.call72 rfl (aFU b2 d1) ?_
   rintro _ e0 ⟨rfl, b6⟩
   obtain ⟨e1, b4, a0⟩ := aI a0
   have d2 := dL b6 (i := 0) rfl b4
   refine aC (eT cR rfl d2 rfl rfl rfl b4) ?_
   obtain ⟨b7, b8, a0⟩ := aI a0
   exact oA (i := 0) (t := 0) (ns := [i64 r49.From, i64 r49.Label, i64 r49.To]) (e' := (⟨r49.From, r49.Label, r49.To⟩ : Edge)) Tryz.sizeOf63 b6 rfl (Hp.le_refl _) rfl rfl rfl b4 b8 rfl rfl (dT rfl) rfl (fun cs h => by cases h; rfl) (fun d3 (d4 : aN G K (aT 63 K a6 a2.length b7 :: L) d3) => (aF (bG (aA (aB (aC (aD a9) (aC (cI rfl rfl) (aC (aG (v := i64 (wr (a8 + 1))) rfl) (aF (aA ⟨(b7, wr (a8 + 1)), (Option.some.inj a0).symm, b0, (Eq.trans b1 (congrArg (fun n => Value.slice a6 n a2.length) (gQ b8))), rfl, d4⟩))))))))))
  ·refine aM b3 rfl (bY (aY (aY ?_)))
   have d5 := c8 _ (Option.some.inj a0).symm
   subst d5
   have hm : (xU a4) = some R := hm
   exact bO (aA ⟨a4, hm, b1, b2⟩)
theorem xX {a : dC} {R : dC} (hs : aN G K (L) w) (h3 : bX K a1 c2 a.Labels) (h6 : bX K a4 c5 a.Edges) (hm : zY a = some R) :
  Calls Tryz.prog 8 ([Value.agg #[i64 a.States, i64 a.Initial, Value.slice a1 a.Labels.length c2, Value.slice a4 a.Edges.length c5]] : List Value).toArray w (fW fun v w' => ∃ (ra0 : Option Addr) (rc0 : Nat) (ra1 : Option Addr) (rc1 : Nat), v = Value.agg #[i64 R.States, i64 R.Initial, Value.slice ra0 R.Labels.length rc0, Value.slice ra1 R.Edges.length rc1] ∧ aN G K (aT 9 K ra0 rc0 R.Labels :: aT 63 K ra1 rc1 R.Edges :: L) w') := by
 refine aU Tryz.func8 rfl (by kernel_rfl) (by show (1 : Nat) ≤ 19; decide) ?_
 unfold zY at hm
 refine aH (aB (dU (v := Value.agg #[i64 a.States, i64 a.Initial, Value.slice a1 a.Labels.length c2, Value.slice a4 a.Edges.length c5]) (vs := [i64 a.States, i64 a.Initial, Value.slice a1 a.Labels.length c2, Value.slice a4 a.Edges.length c5]) hs rfl rfl (fun b7 w8 hs9 => (cG (vs := [i64 0, i64 0, Value.slice none 0 0, Value.slice none 0 0]) Tryz.zeroValue30 hs9 rfl (fun a9 d2 b8 => (aF (aA (aH (aB (cG (vs := [i64 0, i64 0, Value.slice none 0 0, Value.slice none 0 0]) Tryz.zeroValue30 b8 rfl (fun b0 d3 b1 => (aF (aA (aH (aB (aC (bI (t' := 0) fa_25_0 rfl rfl) (aC (cA cM b1 (i := 2) rfl rfl rfl) (aC (bI (t' := 0) fX rfl rfl) (cC (i := 0) (ns := [i64 a.States]) (us := [i64 a.States, i64 0, Value.slice none 0 0, Value.slice none 0 0]) Tryz.sizeOf2 b1 rfl rfl rfl rfl rfl (dT rfl) rfl rfl (fun b9 (b2 : aN G K (box b0 30 [i64 a.States, i64 0, Value.slice none 0 0, Value.slice none 0 0] :: box a9 30 [i64 0, i64 0, Value.slice none 0 0, Value.slice none 0 0] :: box b7 25 [i64 a.States, i64 a.Initial, Value.slice a1 a.Labels.length c2, Value.slice a4 a.Edges.length c5] :: L) b9) => (aF (aA (aH (aB (aC (bI (t' := 1) fa_25_1 rfl rfl) (aC (cA cM b2 (i := 2) rfl rfl rfl) ?_))))))))))))))))))))))))))
 refine aC (bI (t' := 1) xM rfl rfl) (cC (i := 0) (ns := [i64 a.Initial]) (us := [i64 a.States, i64 a.Initial, Value.slice none 0 0, Value.slice none 0 0]) Tryz.sizeOf2 b2 rfl rfl rfl rfl rfl (dT rfl) rfl rfl (fun c0 (b3 : aN G K (box b0 30 [i64 a.States, i64 a.Initial, Value.slice none 0 0, Value.slice none 0 0] :: box a9 30 [i64 0, i64 0, Value.slice none 0 0, Value.slice none 0 0] :: box b7 25 [i64 a.States, i64 a.Initial, Value.slice a1 a.Labels.length c2, Value.slice a4 a.Edges.length c5] :: L) c0) => (aF (aA (aH (aB (aC (bI (t' := 2) fa_25_2 rfl rfl) (aC (cA nY b3 (i := 2) rfl rfl rfl) ?_))))))))
 obtain ⟨a3, c1, hm⟩ := aI hm
 refine aW (vs := [Value.slice a1 a.Labels.length c2]) Tryz.call9 rfl (nP b3 h3 c1) ?_
 rintro _ d4 ⟨a0, a2, rfl, c3⟩
 refine aC (bI (t' := 2) gS rfl rfl) (cC (i := 1) (ns := [Value.slice a0 a3.length a2]) (us := [i64 a.States, i64 a.Initial, Value.slice a0 a3.length a2, Value.slice none 0 0]) Tryz.sizeOf22 c3 rfl rfl rfl rfl rfl (dT rfl) rfl rfl (fun c4 (b4 : aN G K (aT 9 K a0 a2 a3 :: box b0 30 [i64 a.States, i64 a.Initial, Value.slice a0 a3.length a2, Value.slice none 0 0] :: box a9 30 [i64 0, i64 0, Value.slice none 0 0, Value.slice none 0 0] :: box b7 25 [i64 a.States, i64 a.Initial, Value.slice a1 a.Labels.length c2, Value.slice a4 a.Edges.length c5] :: L) c4) => (aF (aA (aH (aB (aC (bI (t' := 3) fa_25_3 rfl rfl) (aC (cA sc_23 b4 (i := 3) rfl rfl rfl) ?_))))))))
 obtain ⟨a7, c6, hm⟩ := aI hm
 refine aW (vs := [Value.slice a4 a.Edges.length c5]) Tryz.call32 rfl (aFk b4 h6 c6) ?_
 rintro _ d5 ⟨a5, a6, rfl, c7⟩
 refine aC (bI (t' := 3) dI rfl rfl) (cC (i := 2) (ns := [Value.slice a5 a7.length a6]) (us := [i64 a.States, i64 a.Initial, Value.slice a0 a3.length a2, Value.slice a5 a7.length a6]) Tryz.sizeOf28 c7 rfl rfl rfl rfl rfl (dT rfl) rfl rfl (fun c8 (b5 : aN G K (aT 63 K a5 a6 a7 :: aT 9 K a0 a2 a3 :: box b0 30 [i64 a.States, i64 a.Initial, Value.slice a0 a3.length a2, Value.slice a5 a7.length a6] :: box a9 30 [i64 0, i64 0, Value.slice none 0 0, Value.slice none 0 0] :: box b7 25 [i64 a.States, i64 a.Initial, Value.slice a1 a.Labels.length c2, Value.slice a4 a.Edges.length c5] :: L) c8) => (aF (aA (aH (aB (aC (dR (us := [i64 a.States, i64 a.Initial, Value.slice a0 a3.length a2, Value.slice a5 a7.length a6]) gT b5 (i := 2) rfl rfl rfl rfl) (cC (i := 3) (ns := [i64 a.States, i64 a.Initial, Value.slice a0 a3.length a2, Value.slice a5 a7.length a6]) (us := [i64 a.States, i64 a.Initial, Value.slice a0 a3.length a2, Value.slice a5 a7.length a6]) Tryz.sizeOf30 b5 rfl rfl rfl rfl rfl (dT rfl) rfl rfl (fun c9 (b6 : aN G K (aT 63 K a5 a6 a7 :: aT 9 K a0 a2 a3 :: box b0 30 [i64 a.States, i64 a.Initial, Value.slice a0 a3.length a2, Value.slice a5 a7.length a6] :: box a9 30 [i64 a.States, i64 a.Initial, Value.slice a0 a3.length a2, Value.slice a5 a7.length a6] :: box b7 25 [i64 a.States, i64 a.Initial, Value.slice a1 a.Labels.length c2, Value.slice a4 a.Edges.length c5] :: L) c9) => (aF (aA ?_)))))))))))
 have d0 := Option.some.inj hm
 subst d0
 exact bB (aEP Tryz.results8 (gL (vs := [i64 a.States, i64 a.Initial, Value.slice a0 a3.length a2, Value.slice a5 a7.length a6]) rfl gT b6 (i := 3) rfl rfl rfl) ⟨a0, a2, a5, a6, rfl, (aN.arr 5 [1, 0] b6 rfl)⟩)
theorem sS {n : Int} {low : Int} {high : Int} {R : Bool} (hs : aN G K (L) w)  (hm : uT n low high = some R) :
  Calls Tryz.prog 73 ([i64 n, i64 low, i64 high] : List Value).toArray w (fW fun v w' => v = Value.bool R ∧ aN G K (L) w') := by
 refine aU Tryz.func73 rfl (by kernel_rfl) (by show (3 : Nat) ≤ 15; decide) ?_
 unfold uT at hm
 refine aH (aB (aC (aG (v := Value.bool false) rfl) (aF (aA (aH (cH (fun f w => ∃ (v1 : Bool), zZ v1 = some R ∧ f 6 = Value.bool v1 ∧ aN G K (L) w) ?_ ?_))))))
 ·rintro f w3 ⟨v1, hm, e2, a3⟩
  unfold zZ at hm
  refine aA ?_
  have a4 := Option.some.inj hm
  subst a4
  exact bB (aZ Tryz.results73 rfl ⟨e2, a3⟩)
 refine aB (aC (aD (v := i64 n) rfl) (aC (aD (v := i64 low) rfl) (aC (tX rfl rfl) (aC (aD (v := Value.bool (decide (low ≤ n))) rfl) ?_))))
 rcases aJ hm with ⟨c6, hm⟩ | ⟨c6, hm⟩
 ·exact bH (g := 10) c6 (by kernel_rfl) rfl (aC (aD (v := i64 n) rfl) (bH (g := 10) c6 (by kernel_rfl) rfl (aC (aD (v := i64 high) rfl) (bH (g := 10) c6 (by kernel_rfl) rfl (aC (aDf rfl rfl) (aC (bK (v := Value.bool (decide (n ≤ high))) c6 rfl rfl) (aC (aG (v := Value.bool (decide (n ≤ high))) rfl) (aF (aA ⟨decide (n ≤ high), hm, rfl, hs⟩)))))))))
 ·exact bA (g := 10) c6 (by kernel_rfl) rfl (bA (g := 10) c6 (by kernel_rfl) rfl (bA (g := 10) c6 (by kernel_rfl) rfl (aC (bM (v := Value.bool false) c6 rfl rfl) (aC (aG (v := Value.bool false) rfl) (aF (aA ⟨false, hm, rfl, hs⟩))))))
theorem tD {t : dC} {k : Int} {R : Bool} (hs : aN G K (L) w) (h3 : bX K a1 c2 t.Labels) (h6 : bX K a4 c5 t.Edges) (hm : mN t k = some R) :
  Calls Tryz.prog 74 ([Value.agg #[i64 t.States, i64 t.Initial, Value.slice a1 t.Labels.length c2, Value.slice a4 t.Edges.length c5], i64 k] : List Value).toArray w (fW fun v w' => v = Value.bool R ∧ aN G K (L) w') := by
 refine aU Tryz.func74 rfl (by kernel_rfl) (by show (2 : Nat) ≤ 10; decide) ?_
 unfold mN at hm
 refine aH (aB (dU (v := Value.agg #[i64 t.States, i64 t.Initial, Value.slice a1 t.Labels.length c2, Value.slice a4 t.Edges.length c5]) (vs := [i64 t.States, i64 t.Initial, Value.slice a1 t.Labels.length c2, Value.slice a4 t.Edges.length c5]) hs rfl rfl (fun b7 w8 a0 => (aC (aG (v := Value.bool false) rfl) (aF (aA (aH (aB (aC (aD (v := i64 k) rfl) (aC (bI (t' := 0) fX rfl rfl) (aC (cA cM a0 (i := 0) rfl rfl rfl) (aC (lH rfl rfl) ?_))))))))))))
 obtain ⟨a2, a3, hm⟩ := aI hm
 refine aW (vs := [i64 k, i64 0, i64 (wr (t.States - 1))]) Tryz.call73 rfl (sS a0 a3) ?_
 rintro _ a9 ⟨rfl, a5⟩
 refine aC (aG (v := Value.bool a2) rfl) (aF (aA ?_))
 have a6 := Option.some.inj hm
 subst a6
 exact bB (aZ Tryz.results74 rfl ⟨rfl, (aN.arr 1 [] a5 rfl)⟩)
theorem aCU {words : (List bF)} {R : ((List Int) × Bool)} (hs : aN G K (L) w) (hG : G.lo = 0) (h3 : bX K a1 c2 words) (hm : sK words = some R) :
  Calls Tryz.prog 153 ([Value.slice a1 words.length c2] : List Value).toArray w (fW fun v w' => ∃ (ra0 : Option Addr) (rc0 : Nat), v = Value.tuple #[Value.slice ra0 R.1.length rc0, Value.bool R.2] ∧ aN G K (aT 2 K ra0 rc0 R.1 :: L) w') := by
 refine aU Tryz.func153 rfl (by kernel_rfl) (by show (1 : Nat) ≤ 28; decide) ?_
 unfold sK at hm
 refine aH (aB (aC (aG (v := Value.slice none 0 0) rfl) (aC (aG (v := Value.bool false) rfl) (aF (aA (aH (aB (aC (aG (v := Value.slice none 0 0) rfl) (aF (aA (aH (aH (aB (aC (aD (v := Value.slice a1 words.length c2) rfl) (aC (bU (len := words.length) cQ rfl) (aC (aD (v := i64 0) rfl) (aF (aA (bC (fun f w => ∃ (a4 : List Int) (a5 : Option Addr) (c6 : Nat), rJ a4 = some R ∧ f 4 = Value.slice a5 a4.length c6 ∧ aN G K (aT 2 K a5 c6 a4 :: L) w) ?_ ?_)))))))))))))))))))
 ·rintro f w8 ⟨a4, a5, c6, hm, e7, hs9⟩
  unfold rJ at hm
  refine aA (aH (aB (aC (aD e7) (aC (aG (v := Value.slice a5 a4.length c6) rfl) (aC (aG (v := Value.bool true) rfl) (aF (aA ?_)))))))
  have c7 := Option.some.inj hm
  subst c7
  exact bB (vM Tryz.results153 rfl rfl ⟨a5, c6, rfl, hs9⟩)
 have c8 := aN.nil (α := Int) hs 2 K
 obtain ⟨e5, c9, hm⟩ := aI hm
 refine cD c9 (fun (s : (List Int × Int)) f w => match s with | (a3, a7) => ∃ (a8 : Option Addr) (a9 : Nat), f 4 = Value.slice a8 a3.length a9 ∧ f 9 = Value.slice a1 words.length c2 ∧ f 10 = i64 (words.length : Int) ∧ f 11 = i64 a7 ∧ aN G K (aT 2 K a8 a9 a3 :: L) w) ?_ ?_
 ·exact ⟨none, 0, rfl, rfl, rfl, rfl, c8⟩
 ·rintro ⟨a3, a7⟩ d0 f e6 a0 b8 ⟨a8, a9, b9, c0, c1, b0, b1⟩
  replace a0 : kR words a3 a7 = some d0 := a0
  unfold kR at a0
  refine aH (aB (aC (cE b0 c1) (aF (aA (aH ?_)))))
  rcases aJ a0 with ⟨b2, a0⟩ | ⟨b2, a0⟩
  ·refine aO b2 rfl (aX (aA (aH (cK (aH (aB ?_))))))
   obtain ⟨b3, c3, a0⟩ := aI a0
   refine aC (cU cQ rfl h3 c0 rfl b0 c3) ?_
   obtain ⟨cs54, d1, d2⟩ := bX.el (sz := 1) rfl h3 c3
   cases d2
   refine aC (bL (t := 0) oI b1 d1 rfl rfl) (aC (aG (v := cF b3) rfl) (aF (aA (aH (aB (aC (aD (v := cF b3) rfl) ?_))))))
   obtain ⟨a2, d3, a0⟩ := aI a0
   refine aW (vs := [cF b3]) Tryz.call206 rfl (aEH b1 hG d3) ?_
   rintro _ e8 ⟨rfl, c4⟩
   refine aC (aD (v := Value.tuple #[i64 a2.1, Value.bool a2.2]) rfl) (aC (cZ rfl rfl) (aC (cZ rfl rfl) (aC (aG (v := i64 a2.1) rfl) (aC (aG (v := Value.bool a2.2) rfl) (aF (aA (aH (aH (aB (aC (aD (v := Value.bool a2.2) rfl) (aC (dN rfl) (aF (aA ?_)))))))))))))
   rcases aJ a0 with ⟨b4, a0⟩ | ⟨b4, a0⟩
   ·refine aO b4 rfl (aH (aB (aC (aG (v := Value.slice none 0 0) rfl) (aC (aG (v := Value.bool false) rfl) (aF (aA (bB (aQ (bN (aQ (aQ ?_)))))))))))
    have d4 := b8 _ (Option.some.inj a0).symm
    subst d4
    have hm : (some ([], false)) = some R := hm
    have d5 := aN.nil (α := Int) c4 2 K
    have d6 := Option.some.inj hm
    subst d6
    exact bN (aQ (aQ (vM Tryz.results153 rfl rfl ⟨none, 0, rfl, (aN.arr 2 [0] d5 rfl)⟩)))
   ·refine aM b4 rfl (aX (aA (aB (aC (aD b9) (aC (aD (v := i64 a2.1) rfl) (eN (Kt := K) (xs := ([a2.1] : List Int)) (cs := [i64 a2.1]) (vs := [(0, i64 a2.1)]) cT vJ rfl rfl c4 rfl (by kernel_rfl) rfl rfl rfl ⟨rfl, trivial⟩ (fun d7 d8 (d9 : aN G K (aT 2 K d7 1 ([a2.1] : List Int) :: aT 2 K a8 a9 a3 :: L) d8) => ?_)))))))
    obtain ⟨b5, e0, a0⟩ := aI a0
    exact iZ (i := 0) cT Tryz.underlying31 vJ rfl rfl d9 rfl (Hp.le_refl _) (Hp.le_refl _) e0 rfl rfl rfl rfl (fun _ h => h) (fun b6 b7 e1 (e2 : aN G K (aT 2 K b6 b7 b5 :: L) e1) => (aC (aG (v := Value.slice b6 b5.length b7) rfl) (aF (bG (aA (aB (aC (cI b0 rfl) (aC (aD (v := i64 (wr (a7 + 1))) rfl) (aF (aA ⟨(b5, wr (a7 + 1)), (Option.some.inj a0).symm, b6, b7, rfl, c0, c1, rfl, e2⟩))))))))))
  ·refine aM b2 rfl (bY (aY (aY ?_)))
   have e3 := b8 _ (Option.some.inj a0).symm
   subst e3
   have hm : (rJ a3) = some R := hm
   exact bO (aA ⟨a3, a8, a9, hm, b9, b1⟩)
theorem aCG {list : (List Int)} {sep : bF} {R : bF} (hs : aN G K (L) w) (hG : G.lo = 0) (h3 : bX K a1 c2 list) (hm : yV list sep = some R) :
  Calls Tryz.prog 129 ([Value.slice a1 list.length c2, cF sep] : List Value).toArray w (fW fun v w' => v = cF R ∧ aN G K (L) w') := by
 refine aU Tryz.func129 rfl (by kernel_rfl) (by show (2 : Nat) ≤ 27; decide) ?_
 unfold yV at hm
 refine aH (aB (aC (aG (v := cF ([] : bF)) rfl) (aF (aA (aH (aB (aC (aD (v := Value.slice a1 list.length c2) rfl) (aC (bU (len := list.length) cT rfl) ?_))))))))
 obtain ⟨a2, q5, hm⟩ := aI hm
 refine aDg (e := ([] : bF)) cQ aCx rfl rfl hs rfl rfl rfl q5 rfl (fun a6 w7 (c4 : aN G K (aT 9 K a6 a2.length a2 :: L) w7) => (aC (aG (v := Value.slice a6 a2.length a2.length) rfl) (aF (aA (aH (aH (aB (aC (aD (v := Value.slice a1 list.length c2) rfl) (aC (bU (len := list.length) cT rfl) (aC (aD (v := i64 0) rfl) (aF (aA (bC (fun f w => ∃ (words9 : List bF), wT sep words9 = some R ∧ f 1 = cF sep ∧ f 5 = Value.slice a6 words9.length a2.length ∧ aN G K (aT 9 K a6 a2.length words9 :: L) w) ?_ ?_)))))))))))))
 ·rintro f e6 ⟨words9, hm, c5, c6, c7⟩
  unfold wT at hm
  refine aA (aH (aB (aC (aD c6) (aC (aD c5) ?_))))
  obtain ⟨e7, e8, c8, c9, d0⟩ := aN.lendS (i := 0) c7 (Hp.le_refl _) rfl
  obtain ⟨d1, d2, hm⟩ := aI hm
  refine aW (vs := [Value.slice a6 words9.length a2.length, cF sep]) Tryz.call183 rfl (lib_Join c9 hG c8 d2) ?_
  rintro _ e9 ⟨rfl, d3⟩
  have d4 := d0 _ _ d3
  refine aC (aG (v := cF d1) rfl) (aF (aA ?_))
  have d5 := Option.some.inj hm
  subst d5
  exact bB (aZ Tryz.results129 rfl ⟨rfl, (aN.arr 1 [] d4 rfl)⟩)
 obtain ⟨f0, d6, hm⟩ := aI hm
 refine cD d6 (fun (s : (List bF × Int)) f w => match s with | (a5, a4) => f 1 = cF sep ∧ f 5 = Value.slice a6 a5.length a2.length ∧ f 11 = Value.slice a1 list.length c2 ∧ f 12 = i64 (list.length : Int) ∧ f 13 = i64 a4 ∧ aN G K (aT 9 K a6 a2.length a5 :: L) w) ?_ ?_
 ·exact ⟨rfl, rfl, rfl, rfl, rfl, c4⟩
 ·rintro ⟨a5, a4⟩ d7 f f1 a0 d8 ⟨b3, a8, b4, b5, a7, a9⟩
  replace a0 : tO list a5 a4 = some d7 := a0
  unfold tO at a0
  refine aH (aB (aC (cE a7 b5) (aF (aA (aH ?_)))))
  rcases aJ a0 with ⟨b0, a0⟩ | ⟨b0, a0⟩
  ·refine aO b0 rfl (aX (aA (aH (cK (aH (aB (aC (aD a7) ?_)))))))
   obtain ⟨b1, b6, a0⟩ := aI a0
   refine aC (cU cT rfl h3 b4 rfl a7 b6) ?_
   obtain ⟨f2, d9, e0⟩ := bX.el (sz := 1) rfl h3 b6
   cases e0
   refine aC (bL (t := 0) cM a9 d9 rfl rfl) (aC (aG (v := i64 a4) rfl) (aC (aG (v := i64 b1) rfl) (aF (aA (aB (aC (aD a8) (aC (aD (v := i64 a4) rfl) (aC (aD (v := i64 b1) rfl) ?_))))))))
   obtain ⟨b7, e1, a0⟩ := aI a0
   refine aW (vs := [i64 b1]) Tryz.call130 rfl (aEw a9 e1) ?_
   rintro _ f3 ⟨rfl, b8⟩
   obtain ⟨f4, b2, a0⟩ := aI a0
   have e2 := dL b8 (i := 0) rfl b2
   refine aC (eT cQ rfl e2 rfl rfl rfl b2) ?_
   obtain ⟨b9, c0, a0⟩ := aI a0
   exact oA (i := 0) (t := 0) (ns := [cF b7]) (e' := (b7 : bF)) Tryz.sizeOf9 b8 rfl (Hp.le_refl _) rfl rfl rfl b2 c0 rfl rfl (dT rfl) rfl (fun cs h => by cases h; rfl) (fun e3 (e4 : aN G K (aT 9 K a6 a2.length b9 :: L) e3) => (aF (bG (aA (aB (aC (cI a7 rfl) (aC (aD (v := i64 (wr (a4 + 1))) rfl) (aF (aA ⟨(b9, wr (a4 + 1)), (Option.some.inj a0).symm, b3, (Eq.trans a8 (congrArg (fun n => Value.slice a6 n a2.length) (gQ c0))), b4, b5, rfl, e4⟩)))))))))
  ·refine aM b0 rfl (bY (aY (aY ?_)))
   have e5 := d8 _ (Option.some.inj a0).symm
   subst e5
   have hm : (wT sep a5) = some R := hm
   exact bO (aA ⟨a5, hm, b3, a8, a9⟩)
theorem aFl {c : UInt8} {R : Bool} (hs : aN G K (L) w)  (hm : aCn c = some R) :
  Calls Tryz.prog 235 ([Value.int .u8 (c.toNat : Int)] : List Value).toArray w (fW fun v w' => v = Value.bool R ∧ aN G K (L) w') := by
 refine aU Tryz.func235 rfl (by kernel_rfl) (by show (1 : Nat) ≤ 9; decide) ?_
 unfold aCn at hm
 refine aH (aB (aC (aG (v := Value.bool false) rfl) (aF (aA (aH (cH (fun f w => ∃ (v1 : Bool), xV v1 = some R ∧ f 2 = Value.bool v1 ∧ aN G K (L) w) ?_ ?_))))))
 ·rintro f w3 ⟨v1, hm, e2, a3⟩
  unfold xV at hm
  refine aA ?_
  have a4 := Option.some.inj hm
  subst a4
  exact bB (aZ Tryz.results235 rfl ⟨e2, a3⟩)
 refine aB (aC (aD (v := Value.int .u8 (c.toNat : Int)) rfl) (aC (tX rfl rfl) (aC (aD (v := Value.bool (decide (48 ≤ (c.toNat : Int)))) rfl) ?_)))
 rcases aJ hm with ⟨c6, hm⟩ | ⟨c6, hm⟩
 ·exact bH (g := 5) c6 (by kernel_rfl) rfl (aC (aD (v := Value.int .u8 (c.toNat : Int)) rfl) (bH (g := 5) c6 (by kernel_rfl) rfl (aC (aDf rfl rfl) (aC (bK (v := Value.bool (decide ((c.toNat : Int) ≤ 57))) c6 rfl rfl) (aC (aG (v := Value.bool (decide ((c.toNat : Int) ≤ 57))) rfl) (aF (aA ⟨decide ((c.toNat : Int) ≤ 57), hm, rfl, hs⟩)))))))
 ·exact bA (g := 5) c6 (by kernel_rfl) rfl (bA (g := 5) c6 (by kernel_rfl) rfl (aC (bM (v := Value.bool false) c6 rfl rfl) (aC (aG (v := Value.bool false) rfl) (aF (aA ⟨false, hm, rfl, hs⟩)))))
theorem aFV {s_ : bF} {R : Bool} (hs : aN G K (L) w)  (hm : aBV s_ = some R) :
  Calls Tryz.prog 200 ([cF s_] : List Value).toArray w (fW fun v w' => v = Value.bool R ∧ aN G K (L) w') := by
 refine aU Tryz.func200 rfl (by kernel_rfl) (by show (1 : Nat) ≤ 42; decide) ?_
 unfold aBV at hm
 refine aH (aB (aC (aG (v := Value.bool false) rfl) (aF (aA (aH (aH (aB (aC (aD (v := cF s_) rfl) (aC (gK Tryz.runUnderlying9 rfl) (aC (aD (v := i64 0) rfl) (aF (aA (bC (fun f w => wU s_ = some R ∧ f 0 = cF s_ ∧ aN G K (L) w) ?_ ?_)))))))))))))
 ·rintro f w2 ⟨hm, e1, c3⟩
  unfold wU at hm
  refine aA (aH (cH (fun f w => ∃ (v4 : Bool), aAa v4 = some R ∧ f 2 = Value.bool v4 ∧ aN G K (L) w) ?_ ?_))
  ·rintro f w6 ⟨v4, hm, e5, d0⟩
   unfold aAa at hm
   refine aA ?_
   have d1 := Option.some.inj hm
   subst d1
   exact bB (aZ Tryz.results200 rfl ⟨e5, d0⟩)
  refine aB (aC (aD e1) (aC (gK Tryz.runUnderlying9 rfl) (aC (tX rfl rfl) (aC (aD (v := Value.bool (decide (1 ≤ (s_.length : Int)))) rfl) ?_))))
  rcases aJ hm with ⟨c9, hm⟩ | ⟨c9, hm⟩
  ·exact bH (g := 37) c9 (by kernel_rfl) rfl (aC (aD e1) (bH (g := 37) c9 (by kernel_rfl) rfl (aC (gK Tryz.runUnderlying9 rfl) (bH (g := 37) c9 (by kernel_rfl) rfl (aC (aDf rfl rfl) (aC (bK (v := Value.bool (decide ((s_.length : Int) ≤ 10))) c9 rfl rfl) (aC (aG (v := Value.bool (decide ((s_.length : Int) ≤ 10))) rfl) (aF (aA ⟨decide ((s_.length : Int) ≤ 10), hm, rfl, c3⟩)))))))))
  ·exact bA (g := 37) c9 (by kernel_rfl) rfl (bA (g := 37) c9 (by kernel_rfl) rfl (bA (g := 37) c9 (by kernel_rfl) rfl (aC (bM (v := Value.bool false) c9 rfl rfl) (aC (aG (v := Value.bool false) rfl) (aF (aA ⟨false, hm, rfl, c3⟩))))))
 obtain ⟨e6, d2, hm⟩ := aI hm
 refine cD d2 (fun (a1 : Int) f w => f 0 = cF s_ ∧ f 6 = i64 (s_.length : Int) ∧ f 7 = i64 a1 ∧ aN G K (L) w) ?_ ?_
 ·exact ⟨rfl, rfl, rfl, hs⟩
 ·rintro a1 b2 f e7 a0 c4 ⟨a6, b3, a7, b4⟩
  replace a0 : qO s_ a1 = some b2 := a0
  unfold qO at a0
  refine aH (aB (aC (cE a7 b3) (aF (aA (aH ?_)))))
  rcases aJ a0 with ⟨b5, a0⟩ | ⟨b5, a0⟩
  ·refine aO b5 rfl (aX (aA (aH (cK (aH (aB (aC (aD a7) (aC (aG (v := i64 a1) rfl) (aF (aA (aH (cH (fun f w => ∃ (a8 : Bool), nZ s_ a1 a8 = some b2 ∧ f 0 = cF s_ ∧ f 3 = i64 a1 ∧ f 4 = Value.bool a8 ∧ f 6 = i64 (s_.length : Int) ∧ f 7 = i64 a1 ∧ aN G K (L) w) ?_ ?_))))))))))))
   ·rintro f e8 ⟨a8, a0, a9, c5, d3, b6, b7, b8⟩
    unfold nZ at a0
    refine aA (aH (cH (fun f w => ∃ (b9 : Bool), tP a1 b9 = some b2 ∧ f 0 = cF s_ ∧ f 6 = i64 (s_.length : Int) ∧ f 7 = i64 a1 ∧ f 32 = Value.bool b9 ∧ aN G K (L) w) ?_ ?_))
    ·rintro f e9 ⟨b9, a0, d4, d5, d6, c6, c7⟩
     unfold tP at a0
     refine aA ?_
     rcases aJ a0 with ⟨c0, a0⟩ | ⟨c0, a0⟩
     ·refine aO c0 c6 (aH (aB (aC (aG (v := Value.bool false) rfl) (aF (aA (bB (bN (aQ (aQ ?_)))))))))
      have d7 := c4 _ (Option.some.inj a0).symm
      subst d7
      have hm : (some false) = some R := hm
      have d8 := Option.some.inj hm
      subst d8
      exact bN (aQ (aQ (aZ Tryz.results200 rfl ⟨rfl, c7⟩)))
     ·exact aM c0 c6 (aX (bG (aA (aB (aC (cI d6 rfl) (aC (aD (v := i64 (wr (a1 + 1))) rfl) (aF (aA ⟨wr (a1 + 1), (Option.some.inj a0).symm, d4, d5, rfl, c7⟩))))))))
    refine aB (aC (aD d3) (aC (dN rfl) (aC (aD (v := Value.bool (!a8)) rfl) ?_)))
    rcases aJ a0 with ⟨a2, a0⟩ | ⟨a2, a0⟩
    ·refine bH (g := 22) a2 (by kernel_rfl) rfl (aC (aD c5) (bH (g := 22) a2 (by kernel_rfl) rfl (aC (kC rfl rfl) (bH (g := 22) a2 (by kernel_rfl) rfl (aC (aD (v := Value.bool (a1 == 0)) rfl) ?_)))))
     rcases aJ a0 with ⟨a3, a0⟩ | ⟨a3, a0⟩
     ·exact aV (g := 25) a3 (by kernel_rfl) rfl (aV (g := 25) a3 (by kernel_rfl) rfl (aV (g := 25) a3 (by kernel_rfl) rfl (aV (g := 25) a3 (by kernel_rfl) rfl (aV (g := 25) a3 (by kernel_rfl) rfl (bH (g := 22) a2 (by kernel_rfl) rfl (aC (bK (v := Value.bool true) a3 rfl rfl) (aC (bK (v := Value.bool true) a2 rfl rfl) (aF (aA ⟨true, a0, a9, b6, b7, rfl, b8⟩)))))))))
     ·refine bJ (g := 25) a3 (by kernel_rfl) rfl (aC (aD a9) (bJ (g := 25) a3 (by kernel_rfl) rfl (aC (aD c5) (bJ (g := 25) a3 (by kernel_rfl) rfl ?_))))
      obtain ⟨d9, e0, a0⟩ := aI a0
      refine aC (aAq Tryz.runUnderlying9 rfl rfl e0) (bJ (g := 25) a3 (by kernel_rfl) rfl ?_)
      obtain ⟨c1, q60, a0⟩ := aI a0
      refine aW (vs := [Value.int .u8 (d9.toNat : Int)]) Tryz.call235 rfl (aFl b8 q60) ?_
      rintro _ f0 ⟨rfl, e2⟩
      exact bJ (g := 25) a3 (by kernel_rfl) rfl (aC (dN rfl) (bH (g := 22) a2 (by kernel_rfl) rfl (aC (bM (v := Value.bool (!c1)) a3 rfl rfl) (aC (bK (v := Value.bool (!c1)) a2 rfl rfl) (aF (aA ⟨!c1, a0, a9, b6, b7, rfl, e2⟩))))))
    ·exact bA (g := 22) a2 (by kernel_rfl) rfl (bA (g := 22) a2 (by kernel_rfl) rfl (bA (g := 22) a2 (by kernel_rfl) rfl (fD (g := 25) rfl rfl (fD (g := 25) rfl rfl (fD (g := 25) rfl rfl (fD (g := 25) rfl rfl (fD (g := 25) rfl rfl (bA (g := 22) a2 (by kernel_rfl) rfl (aC (bM (v := Value.bool false) a2 rfl rfl) (aF (aA ⟨false, a0, a9, b6, b7, rfl, b8⟩)))))))))))
   refine aB (aC (aD a6) (aC (aD (v := i64 a1) rfl) ?_))
   obtain ⟨b0, c8, a0⟩ := aI a0
   refine aC (aAq Tryz.runUnderlying9 rfl rfl c8) (aC (tX rfl rfl) (aC (aD (v := Value.bool (decide (97 ≤ (b0.toNat : Int)))) rfl) ?_))
   rcases aJ a0 with ⟨a4, a0⟩ | ⟨a4, a0⟩
   ·exact bH (g := 14) a4 (by kernel_rfl) rfl (aC (aD a6) (bH (g := 14) a4 (by kernel_rfl) rfl (aC (aD (v := i64 a1) rfl) (bH (g := 14) a4 (by kernel_rfl) rfl (aC (aAq Tryz.runUnderlying9 rfl rfl c8) (bH (g := 14) a4 (by kernel_rfl) rfl (aC (aDf rfl rfl) (aC (bK (v := Value.bool (decide ((b0.toNat : Int) ≤ 122))) a4 rfl rfl) (aC (aG (v := Value.bool (decide ((b0.toNat : Int) ≤ 122))) rfl) (aF (aA ⟨decide ((b0.toNat : Int) ≤ 122), a0, a6, rfl, rfl, b3, a7, b4⟩)))))))))))
   ·exact bA (g := 14) a4 (by kernel_rfl) rfl (bA (g := 14) a4 (by kernel_rfl) rfl (bA (g := 14) a4 (by kernel_rfl) rfl (bA (g := 14) a4 (by kernel_rfl) rfl (aC (bM (v := Value.bool false) a4 rfl rfl) (aC (aG (v := Value.bool false) rfl) (aF (aA ⟨false, a0, a6, rfl, rfl, b3, a7, b4⟩)))))))
  ·refine aM b5 rfl (bY (aY (aY ?_)))
   have e3 := c4 _ (Option.some.inj a0).symm
   subst e3
   have hm : (wU s_) = some R := hm
   exact bO (aA ⟨hm, a6, b4⟩)
theorem aEN {s_ : bF} {R : Bool} (hs : aN G K (L) w)  (hm : yW s_ = some R) :
  Calls Tryz.prog 150 ([cF s_] : List Value).toArray w (fW fun v w' => v = Value.bool R ∧ aN G K (L) w') := by
 refine aU Tryz.func150 rfl (by kernel_rfl) (by show (1 : Nat) ≤ 9; decide) ?_
 unfold yW at hm
 refine aH (aB (aC (aG (v := Value.bool false) rfl) (aF (aA (aH (cH (fun f w => ∃ (v1 : Bool), sL v1 = some R ∧ f 2 = Value.bool v1 ∧ aN G K (L) w) ?_ ?_))))))
 ·rintro f w3 ⟨v1, hm, e2, a4⟩
  unfold sL at hm
  refine aA ?_
  have a5 := Option.some.inj hm
  subst a5
  exact bB (aZ Tryz.results150 rfl ⟨e2, a4⟩)
 refine aB (aC (aD (v := cF s_) rfl) ?_)
 obtain ⟨r6, q7, hm⟩ := aI hm
 refine aW (vs := [cF s_]) Tryz.call200 rfl (aFV hs q7) ?_
 rintro _ w8 ⟨rfl, a2⟩
 refine aC (aD (v := Value.bool r6) rfl) ?_
 rcases aJ hm with ⟨a0, hm⟩ | ⟨a0, hm⟩
 ·exact bH (g := 5) a0 (by kernel_rfl) rfl (aC (aD (v := cF s_) rfl) (bH (g := 5) a0 (by kernel_rfl) rfl (aC (aCL rfl rfl) (aC (bK (v := Value.bool (!(s_ == ([116, 97, 117] : bF)))) a0 rfl rfl) (aC (aG (v := Value.bool (!(s_ == ([116, 97, 117] : bF)))) rfl) (aF (aA ⟨!(s_ == ([116, 97, 117] : bF)), hm, rfl, a2⟩)))))))
 ·exact bA (g := 5) a0 (by kernel_rfl) rfl (bA (g := 5) a0 (by kernel_rfl) rfl (aC (bM (v := Value.bool false) a0 rfl rfl) (aC (aG (v := Value.bool false) rfl) (aF (aA ⟨false, hm, rfl, a2⟩)))))
theorem aFm {n : Int} {R : Bool} (hs : aN G K (L) w)  (hm : aCo n = some R) :
  Calls Tryz.prog 246 ([i64 n] : List Value).toArray w (fW fun v w' => v = Value.bool R ∧ aN G K (L) w') := by
 refine aU Tryz.func246 rfl (by kernel_rfl) (by show (1 : Nat) ≤ 5; decide) ?_
 unfold aCo at hm
 refine aH (aB (aC (aG (v := Value.bool false) rfl) (aF (aA (aH (aB (aC (aD (v := i64 n) rfl) ?_)))))))
 obtain ⟨r1, q2, hm⟩ := aI hm
 refine aW (vs := [i64 n, i64 0, i64 63]) Tryz.call73 rfl (sS hs q2) ?_
 rintro _ w3 ⟨rfl, a2⟩
 refine aC (aG (v := Value.bool r1) rfl) (aF (aA ?_))
 have a3 := Option.some.inj hm
 subst a3
 exact bB (aZ Tryz.results246 rfl ⟨rfl, a2⟩)
theorem aCz {n : Int} {R : Bool} (hs : aN G K (L) w)  (hm : uU n = some R) :
  Calls Tryz.prog 245 ([i64 n] : List Value).toArray w (fW fun v w' => v = Value.bool R ∧ aN G K (L) w') := by
 refine aU Tryz.func245 rfl (by kernel_rfl) (by show (1 : Nat) ≤ 6; decide) ?_
 unfold uU at hm
 refine aH (aB (aC (aG (v := Value.bool false) rfl) (aF (aA (aH (aB (aC (aD (v := i64 n) rfl) ?_)))))))
 obtain ⟨r1, q2, hm⟩ := aI hm
 refine aW (vs := [i64 n]) Tryz.call246 rfl (aFm hs q2) ?_
 rintro _ w3 ⟨rfl, a2⟩
 refine aC (dN rfl) (aC (aG (v := Value.bool (!r1)) rfl) (aF (aA ?_)))
 have a3 := Option.some.inj hm
 subst a3
 exact bB (aZ Tryz.results245 rfl ⟨rfl, a2⟩)
theorem qW {s_ : (List Int)} {R : Int} (hs : aN G K (L) w) (h3 : bX K a1 c2 s_) (hm : fQ s_ = some R) :
  Calls Tryz.prog 231 ([Value.slice a1 s_.length c2, Value.func (.func 245) #[] #[]] : List Value).toArray w (fW fun v w' => v = i64 R ∧ aN G K (L) w') := by
 refine aU Tryz.func231 rfl (by kernel_rfl) (by show (2 : Nat) ≤ 19; decide) ?_
 unfold fQ at hm
 refine aH (aB (aC (aG (v := i64 0) rfl) (aF (aA (aH (aH (aB (aC (aD (v := Value.slice a1 s_.length c2) rfl) (aC (bU (len := s_.length) cT rfl) (aC (aD (v := i64 0) rfl) (aF (aA (bC (fun f w => eX = some R ∧ aN G K (L) w) ?_ ?_)))))))))))))
 ·rintro f w4 ⟨hm, b4⟩
  unfold eX at hm
  refine aA (aH (aB (aC (aG (v := i64 (-1)) rfl) (aF (aA ?_)))))
  have b5 := Option.some.inj hm
  subst b5
  exact bB (aZ Tryz.results231 rfl ⟨rfl, b4⟩)
 obtain ⟨c6, b6, hm⟩ := aI hm
 refine cD b6 (fun (a2 : Int) f w => f 0 = Value.slice a1 s_.length c2 ∧ f 1 = Value.func (.func 245) #[] #[] ∧ f 7 = i64 (s_.length : Int) ∧ f 8 = i64 a2 ∧ aN G K (L) w) ?_ ?_
 ·exact ⟨rfl, rfl, rfl, rfl, hs⟩
 ·rintro a2 b7 f c7 a0 a7 ⟨a8, a9, b0, a3, a4⟩
  replace a0 : dF s_ a2 = some b7 := a0
  unfold dF at a0
  refine aH (aB (aC (cE a3 b0) (aF (aA (aH ?_)))))
  rcases aJ a0 with ⟨a5, a0⟩ | ⟨a5, a0⟩
  ·refine aO a5 rfl (aX (aA (aH (cK (aH (aB (aC (aD a3) (aC (aG (v := i64 a2) rfl) (aF (aA (aH (aB (aC (aD a9) (aC (aD a8) (aC (aD (v := i64 a2) rfl) ?_)))))))))))))))
   obtain ⟨b1, b2, a0⟩ := aI a0
   refine aC (cU cT rfl h3 rfl rfl rfl b2) ?_
   obtain ⟨c8, b8, b9⟩ := bX.el (sz := 1) rfl h3 b2
   cases b9
   refine aC (bL (t := 0) cM a4 b8 rfl rfl) ?_
   obtain ⟨c9, c0, a0⟩ := aI a0
   refine kE (vs := [i64 b1]) (caps := []) (us := [i64 b1]) rfl Tryz.call245 rfl rfl (aCz a4 c0) ?_
   rintro _ d0 ⟨rfl, b3⟩
   refine aF (aA ?_)
   rcases aJ a0 with ⟨a6, a0⟩ | ⟨a6, a0⟩
   ·refine aO a6 rfl (aH (aB (aC (aD (v := i64 a2) rfl) (aC (aG (v := i64 a2) rfl) (aF (aA (bB (bN (aQ (aQ ?_))))))))))
    have c1 := a7 _ (Option.some.inj a0).symm
    subst c1
    have hm : (some a2) = some R := hm
    have c3 := Option.some.inj hm
    subst c3
    exact bN (aQ (aQ (aZ Tryz.results231 rfl ⟨rfl, b3⟩)))
   ·exact aM a6 rfl (aX (bG (aA (aB (aC (cI a3 rfl) (aC (aD (v := i64 (wr (a2 + 1))) rfl) (aF (aA ⟨wr (a2 + 1), (Option.some.inj a0).symm, a8, a9, b0, rfl, b3⟩))))))))
  ·refine aM a5 rfl (bY (aY (aY ?_)))
   have c4 := a7 _ (Option.some.inj a0).symm
   subst c4
   have hm : (eX) = some R := hm
   exact bO (aA ⟨hm, a4⟩)
theorem oT {s_ : (List Int)} {R : Bool} (hs : aN G K (L) w) (h3 : bX K a1 c2 s_) (hm : eY s_ = some R) :
  Calls Tryz.prog 188 ([Value.slice a1 s_.length c2, Value.func (.func 245) #[] #[]] : List Value).toArray w (fW fun v w' => v = Value.bool R ∧ aN G K (L) w') := by
 refine aU Tryz.func188 rfl (by kernel_rfl) (by show (2 : Nat) ≤ 9; decide) ?_
 unfold eY at hm
 refine aH (aB (aC (aG (v := Value.bool false) rfl) (aF (aA (aH (aB (aC (aD (v := Value.slice a1 s_.length c2) rfl) (aC (aD (v := Value.func (.func 245) #[] #[]) rfl) ?_))))))))
 obtain ⟨r4, q5, hm⟩ := aI hm
 refine aW (vs := [Value.slice a1 s_.length c2, Value.func (.func 245) #[] #[]]) Tryz.call231 rfl (qW hs h3 q5) ?_
 rintro _ w6 ⟨rfl, a3⟩
 refine aC (tX rfl rfl) (aC (aG (v := Value.bool (decide (0 ≤ r4))) rfl) (aF (aA ?_)))
 have a4 := Option.some.inj hm
 subst a4
 exact bB (aZ Tryz.results188 rfl ⟨rfl, a3⟩)
theorem aEb {list : (List Int)} {R : Bool} (hs : aN G K (L) w) (h3 : bX K a1 c2 list) (hm : wV list = some R) :
  Calls Tryz.prog 209 ([Value.slice a1 list.length c2] : List Value).toArray w (fW fun v w' => v = Value.bool R ∧ aN G K (L) w') := by
 refine aU Tryz.func209 rfl (by kernel_rfl) (by show (1 : Nat) ≤ 6; decide) ?_
 unfold wV at hm
 refine aH (aB (aC (aG (v := Value.bool false) rfl) (aF (aA (aH (aB (aC (aD (v := Value.slice a1 list.length c2) rfl) ?_)))))))
 obtain ⟨r4, q5, hm⟩ := aI hm
 refine aW (vs := [Value.slice a1 list.length c2, Value.func (.func 245) #[] #[]]) Tryz.call188 rfl (oT hs h3 q5) ?_
 rintro _ w6 ⟨rfl, a3⟩
 refine aC (dN rfl) (aC (aG (v := Value.bool (!r4)) rfl) (aF (aA ?_)))
 have a4 := Option.some.inj hm
 subst a4
 exact bB (aZ Tryz.results209 rfl ⟨rfl, a3⟩)
theorem aFn {name : bF} {values : (List Int)} {R : (bF × Bool)} (hs : aN G K (L) w) (hG : G.lo = 0) (h3 : bX K a1 c2 values) (hm : aAE name values = some R) :
  Calls Tryz.prog 156 ([cF name, Value.slice a1 values.length c2] : List Value).toArray w (fW fun v w' => v = Value.tuple #[cF R.1, Value.bool R.2] ∧ aN G K (L) w') := by
 refine aU Tryz.func156 rfl (by kernel_rfl) (by show (2 : Nat) ≤ 37; decide) ?_
 unfold aAE at hm
 refine aH (aB (aC (aG (v := cF ([] : bF)) rfl) (aC (aG (v := Value.bool false) rfl) (aF (aA (aH (cK (aH (aB (aC (aD (v := cF name) rfl) (aC (vN rfl rfl) (aC (aG (v := Value.bool (name == ([116, 97, 117] : bF))) rfl) (aF (aA ?_))))))))))))))
 rcases aJ hm with ⟨c4, hm⟩ | ⟨c4, hm⟩
 ·refine aO c4 rfl (aH (aB (aC (aD (v := Value.slice a1 values.length c2) rfl) (aC (bU (len := values.length) cT rfl) (aC (kC rfl rfl) (aC (aG (v := cF ([116, 97, 117] : bF)) rfl) (aC (aG (v := Value.bool ((values.length : Int) == 0)) rfl) (aF (aA ?_)))))))))
  have b3 := Option.some.inj hm
  subst b3
  exact bB (bN (aQ (vM Tryz.results156 rfl rfl ⟨rfl, hs⟩)))
 ·refine aM c4 rfl (aH (cH (fun f w => ∃ (v6 : Bool), rK name values v6 = some R ∧ f 0 = cF name ∧ f 1 = Value.slice a1 values.length c2 ∧ f 12 = Value.bool v6 ∧ aN G K (L) w) ?_ ?_))
  ·rintro f c8 ⟨v6, hm, e7, e8, e9, a5⟩
   unfold rK at hm
   refine aA ?_
   rcases aJ hm with ⟨a6, hm⟩ | ⟨a6, hm⟩
   ·refine aO a6 e9 (aH (aB (aC (aG (v := cF ([] : bF)) rfl) (aC (aG (v := Value.bool false) rfl) (aF (aA ?_))))))
    have b4 := Option.some.inj hm
    subst b4
    exact bB (bN (aQ (vM Tryz.results156 rfl rfl ⟨rfl, a5⟩)))
   ·refine aM a6 e9 (aH (aB (aC (aD e8) (aC (bU (len := values.length) cT rfl) (aC (kC rfl rfl) (aC (aG (v := Value.bool ((values.length : Int) == 0)) rfl) (aF (aA ?_))))))))
    rcases aJ hm with ⟨a7, hm⟩ | ⟨a7, hm⟩
    ·refine aO a7 rfl (aH (aB (aC (aD e7) (aC (aG (v := cF name) rfl) (aC (aG (v := Value.bool true) rfl) (aF (aA ?_)))))))
     have b5 := Option.some.inj hm
     subst b5
     exact bB (bN (aQ (vM Tryz.results156 rfl rfl ⟨rfl, a5⟩)))
    ·refine aM a7 rfl (aX (bG (aA (aH (aB (aC (aD e7) ?_))))))
     obtain ⟨c9, b6, hm⟩ := aI hm
     refine aC (aEU rfl rfl b6) (aC (aD e8) ?_)
     obtain ⟨d0, b7, hm⟩ := aI hm
     refine aW (vs := [Value.slice a1 values.length c2, cF ([44] : bF)]) Tryz.call129 rfl (aCG a5 hG h3 b7) ?_
     rintro _ d1 ⟨rfl, b8⟩
     obtain ⟨d2, b9, hm⟩ := aI hm
     refine aC (aEU rfl rfl b9) ?_
     obtain ⟨c0, c1, hm⟩ := aI hm
     refine aC (aEU rfl rfl c1) (aC (aG (v := cF c0) rfl) (aC (aG (v := Value.bool true) rfl) (aF (aA ?_))))
     have c3 := Option.some.inj hm
     subst c3
     exact bB (vM Tryz.results156 rfl rfl ⟨rfl, b8⟩)
  refine aB (aC (aD (v := cF name) rfl) ?_)
  obtain ⟨r27, c5, hm⟩ := aI hm
  refine aW (vs := [cF name]) Tryz.call150 rfl (aEN hs c5) ?_
  rintro _ d3 ⟨rfl, a8⟩
  refine aC (dN rfl) (aC (aD (v := Value.bool (!r27)) rfl) ?_)
  rcases aJ hm with ⟨a0, hm⟩ | ⟨a0, hm⟩
  ·exact aV (g := 16) a0 (by kernel_rfl) rfl (aV (g := 16) a0 (by kernel_rfl) rfl (aV (g := 16) a0 (by kernel_rfl) rfl (aC (bK (v := Value.bool true) a0 rfl rfl) (aC (aD (v := Value.bool true) rfl) (aV (g := 21) (rfl : true = true) (by kernel_rfl) rfl (aV (g := 21) (rfl : true = true) (by kernel_rfl) rfl (aV (g := 21) (rfl : true = true) (by kernel_rfl) rfl (aC (bK (v := Value.bool true) (rfl : true = true) rfl rfl) (aC (aG (v := Value.bool true) rfl) (aF (aA ⟨true, hm, rfl, rfl, rfl, a8⟩)))))))))))
  ·refine bJ (g := 16) a0 (by kernel_rfl) rfl (aC (aD (v := Value.slice a1 values.length c2) rfl) (bJ (g := 16) a0 (by kernel_rfl) rfl (aC (bU (len := values.length) cT rfl) (bJ (g := 16) a0 (by kernel_rfl) rfl (aC (oH rfl rfl) (aC (bM (v := Value.bool (decide (2 < (values.length : Int)))) a0 rfl rfl) (aC (aD (v := Value.bool (decide (2 < (values.length : Int)))) rfl) ?_)))))))
   rcases aJ hm with ⟨a2, hm⟩ | ⟨a2, hm⟩
   ·exact aV (g := 21) a2 (by kernel_rfl) rfl (aV (g := 21) a2 (by kernel_rfl) rfl (aV (g := 21) a2 (by kernel_rfl) rfl (aC (bK (v := Value.bool true) a2 rfl rfl) (aC (aG (v := Value.bool true) rfl) (aF (aA ⟨true, hm, rfl, rfl, rfl, a8⟩))))))
   ·refine bJ (g := 21) a2 (by kernel_rfl) rfl (aC (aD (v := Value.slice a1 values.length c2) rfl) (bJ (g := 21) a2 (by kernel_rfl) rfl ?_))
    obtain ⟨a9, c6, hm⟩ := aI hm
    refine aW (vs := [Value.slice a1 values.length c2]) Tryz.call209 rfl (aEb a8 h3 c6) ?_
    rintro _ d4 ⟨rfl, c7⟩
    exact bJ (g := 21) a2 (by kernel_rfl) rfl (aC (dN rfl) (aC (bM (v := Value.bool (!a9)) a2 rfl rfl) (aC (aG (v := Value.bool (!a9)) rfl) (aF (aA ⟨!a9, hm, rfl, rfl, rfl, c7⟩)))))
end Gv
