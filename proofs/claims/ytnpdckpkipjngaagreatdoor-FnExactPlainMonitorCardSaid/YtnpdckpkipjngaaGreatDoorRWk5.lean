/- Walks, printed by program. -/
import Derived.Test.YtnpdckpkipjngaaGreatDoorRWk4
set_option linter.all false
namespace Gv
open Go Go.Proofs
set_option maxRecDepth 20000
set_option maxHeartbeats 1000000
variable {G : Env} {K : Hp} {L : List nV} {w : World} {a1 a4 a7 a2 a5 a8 a11 a10 a14 a17 a20 a23 a13 a16 a19 a22 a25 : Option Addr} {c2 c5 c8 b1 c12 c11 b13 c24 c20 c14 c17 c23 c26 c9 c21 : Nat}
theorem rX {s_ : (List Int)} {R : (List Int)} (hs : aN G K (aT 2 K a1 c2 s_ :: L) w)  (hm : eU s_ = some R) :
  Calls Tryz.prog 225 ([Value.slice a1 s_.length c2] : List Value).toArray w (fW fun v w' => ∃ (ra0 : Option Addr) (rc0 : Nat), v = Value.slice ra0 R.length rc0 ∧ aN G K (aT 2 K ra0 rc0 R :: L) w') := by
 refine aU Tryz.func225 rfl (by kernel_rfl) (by show (1 : Nat) ≤ 61; decide) ?_
 unfold eU at hm
 refine aH (aB (aC (aG (v := Value.slice none 0 0) rfl) (aF (aA (aH (aH (aB (aC (aD (v := Value.slice a1 s_.length c2) rfl) (aC (bU (len := s_.length) cT rfl) (aC (cE rfl rfl) (aF (aA ?_))))))))))))
 rcases aJ hm with ⟨c3, hm⟩ | ⟨c3, hm⟩
 ·refine aO c3 rfl (aH (aB (aC (aD (v := Value.slice a1 s_.length c2) rfl) (aC (aG (v := Value.slice a1 s_.length c2) rfl) (aF (aA ?_))))))
  have f7 := Option.some.inj hm
  subst f7
  exact bB (aQ (aZ Tryz.results225 rfl ⟨a1, c2, rfl, hs⟩))
 ·refine aM c3 rfl (aX (aA (aH (aH (aB (aC (aG (v := i64 1) rfl) (aF (aA (bC (fun f w => fK s_ = some R ∧ f 0 = Value.slice a1 s_.length c2 ∧ aN G K (aT 2 K a1 c2 s_ :: L) w) ?_ ?_)))))))))
  ·rintro f w6 ⟨hm, e5, f9⟩
   unfold fK at hm
   refine aA (aH (aB (aC (aD e5) (aC (aG (v := Value.slice a1 s_.length c2) rfl) (aF (aA ?_))))))
   have g0 := Option.some.inj hm
   subst g0
   exact bB (aZ Tryz.results225 rfl ⟨a1, c2, rfl, f9⟩)
  obtain ⟨i5, g1, hm⟩ := aI hm
  refine cD g1 (fun (a5 : Int) f w => f 0 = Value.slice a1 s_.length c2 ∧ f 3 = i64 a5 ∧ aN G K (aT 2 K a1 c2 s_ :: L) w) ?_ ?_
  ·exact ⟨rfl, rfl, hs⟩
  ·rintro a5 b6 f i6 a0 d8 ⟨a8, b0, a3⟩
   replace a0 : iG s_ a5 = some b6 := a0
   unfold iG at a0
   refine aH (aH (aB (aC (aD b0) (aC (aD a8) (aC (bU (len := s_.length) cT rfl) (aC (cE rfl rfl) (aF (aA ?_))))))))
   rcases aJ a0 with ⟨c7, a0⟩ | ⟨c7, a0⟩
   ·refine aO c7 rfl (aX (aA (aH (bC (fun f w => iE a5 = some b6 ∧ f 0 = Value.slice a1 s_.length c2 ∧ f 3 = i64 a5 ∧ aN G K (aT 2 K a1 c2 s_ :: L) w) ?_ ?_))))
    ·rintro f i7 ⟨a0, g2, g3, g4⟩
     unfold iE at a0
     exact aA (aB (aC (aD g3) (aC (cI rfl rfl) (aC (aG (v := i64 (wr (a5 + 1))) rfl) (aF (aA ⟨wr (a5 + 1), (Option.some.inj a0).symm, g2, rfl, g4⟩))))))
    refine aH (cW (C := fun w' => aN G K (aT 2 K a1 c2 s_ :: L) w') bR (by kernel_rfl) (aN.mono a3 (dB.drew _)) (aS (fun _ a3 => aD a8) (aS (fun _ a3 => aD b0) ?_)))
    obtain ⟨i8, c8, a0⟩ := aI a0
    have b1 := dL a3 (i := 0) rfl c8
    refine aS (fun _ a3 => eT cT rfl b1 rfl rfl rfl c8) (aS (fun _ a3 => kD (t := 0) cM a3 (i := 0) rfl c8 rfl rfl rfl) (aS (fun _ a3 => aD a8) (aS (fun _ a3 => aD b0) (aS (fun _ a3 => lH rfl rfl) ?_))))
    obtain ⟨i9, d9, a0⟩ := aI a0
    refine aS (fun _ a3 => eT cT rfl b1 rfl rfl rfl d9) (aS (fun _ a3 => kD (t := 0) cM a3 (i := 0) rfl d9 rfl rfl rfl) (aS (fun _ a3 => kC rfl rfl) (dD (fun j0 c9 => (aA ?_)))))
    rcases aJ a0 with ⟨c45, a0⟩ | ⟨c45, a0⟩
    ·refine aO c45 rfl (aH (aB (aC (aD a8) (aC (aD b0) ?_))))
     obtain ⟨b4, b7, a0⟩ := aI a0
     have b8 := sU c9 (i := 0) rfl
     obtain ⟨d0, d1, b9⟩ := Cut.ex 1 a1 c2 a5
     refine aC (aBP cT b8 b9 rfl rfl rfl b7) (aC (aG (v := Value.slice d0 b4.length d1) rfl) (aF (aA (aH (aH (aB (aC (aG (v := i64 1) rfl) (aF (aA (bC (fun f w => ∃ (c0 : List Int) (c1 : Int), fL c0 c1 = some b6 ∧ f 0 = Value.slice a1 c0.length c2 ∧ f 3 = i64 c1 ∧ aN G K (aT 2 K a1 c2 c0 :: L) w) ?_ ?_))))))))))
     ·rintro f j1 ⟨c0, c1, a0, e0, e1, e2⟩
      unfold fL at a0
      refine aA (aH (aB (aC (aD e0) (aC (aD e1) ?_))))
      obtain ⟨j2, g5, a0⟩ := aI a0
      have g6 := sU e2 (i := 0) rfl
      obtain ⟨j3, j4, e3⟩ := Cut.ex 1 a1 c2 c1
      refine aC (aBP cT g6 e3 rfl rfl rfl g5) ?_
      obtain ⟨e4, q65, a0⟩ := aI a0
      refine aDV cT vJ rfl e2 (i := 0) rfl e3 rfl rfl q65 (fun e6 (e7 : aN G K (aT 2 K a1 c2 e4 :: L) e6) => (aF (aA (aH (aB (aC (aD (v := Value.slice a1 e4.length c2) (Eq.trans e0 (congrArg (fun n => Value.slice a1 n c2) (aDd q65)))) (aC (aD e1) ?_)))))))
      obtain ⟨d2, e8, a0⟩ := aI a0
      have g7 := sU e7 (i := 0) rfl
      obtain ⟨d3, d4, e9⟩ := Cut.ex 1 a1 c2 0
      refine aC (aGL cT g7 e9 rfl rfl rfl e8) (aC (aG (v := Value.slice d3 d2.length d4) rfl) (aF (aA (bB (bN (aQ (aQ (aQ ?_))))))))
      have g8 := d8 _ (Option.some.inj a0).symm
      subst g8
      have hm : (some d2) = some R := hm
      have g9 : aN G K (aT 2 K d3 d4 d2 :: L) e6 := aN.cutP e7 (i := 0) rfl e8 e9
      have h0 := Option.some.inj hm
      subst h0
      exact bN (aQ (aQ (aZ Tryz.results225 rfl ⟨d3, d4, rfl, g9⟩)))
     obtain ⟨j5, h1, a0⟩ := aI a0
     refine cD h1 (fun (s : (List Int × Int × Int)) f w => match s with | (a6, a7, a9) => f 0 = Value.slice a1 a6.length c2 ∧ f 3 = i64 a7 ∧ f 4 = Value.slice d0 b4.length d1 ∧ f 5 = i64 a9 ∧ aN G K (aT 2 K a1 c2 a6 :: L) w) ?_ ?_
     ·exact ⟨a8, b0, rfl, rfl, c9⟩
     ·rintro ⟨a6, a7, a9⟩ f0 f j6 a2 h2 ⟨e95, c4, b2, b3, a4⟩
      replace a2 : iF a5 b4 a6 a7 a9 = some f0 := a2
      unfold iF at a2
      refine aH (aH (aB (aC (aD b3) (aC (aD b2) (aC (bU (len := b4.length) cT rfl) (aC (cE rfl rfl) (aF (aA ?_))))))))
      rcases aJ a2 with ⟨d5, a2⟩ | ⟨d5, a2⟩
      ·refine aO d5 rfl (aX (aA (aH (bC (fun f w => ∃ (b5 : List Int) (c5 : Int), fM a9 b5 c5 = some f0 ∧ f 0 = Value.slice a1 b5.length c2 ∧ f 3 = i64 c5 ∧ f 4 = Value.slice d0 b4.length d1 ∧ f 5 = i64 a9 ∧ aN G K (aT 2 K a1 c2 b5 :: L) w) ?_ ?_))))
       ·rintro f j7 ⟨b5, c5, a2, h3, h4, h5, h6, h7⟩
        unfold fM at a2
        exact aA (aB (aC (aD h6) (aC (cI rfl rfl) (aC (aG (v := i64 (wr (a9 + 1))) rfl) (aF (aA ⟨(b5, c5, wr (a9 + 1)), (Option.some.inj a2).symm, h3, h4, h5, rfl, h7⟩))))))
       refine aH (cW (C := fun w' => aN G K (aT 2 K a1 c2 a6 :: L) w') bR (by kernel_rfl) (aN.mono a4 (dB.drew _)) (aS (fun _ a4 => aD b2) (aS (fun _ a4 => aD b3) ?_)))
       obtain ⟨j8, f1, a2⟩ := aI a2
       obtain ⟨f2, f3, a2⟩ := aI a2
       refine aS (fun _ a4 => aDl cT b1 b9 b7 b8 rfl rfl rfl f1 rfl) (aS (fun _ a4 => kD (t := 0) cM a4 (i := 0) rfl f3 rfl rfl rfl) (aS (fun _ a4 => aD b2) (aS (fun _ a4 => aD b3) (aS (fun _ a4 => lH rfl rfl) ?_))))
       obtain ⟨j9, h8, a2⟩ := aI a2
       obtain ⟨k0, h9, a2⟩ := aI a2
       refine aS (fun _ a4 => aDl cT b1 b9 b7 b8 rfl rfl rfl h8 rfl) (aS (fun _ a4 => kD (t := 0) cM a4 (i := 0) rfl h9 rfl rfl rfl) (aS (fun _ a4 => lS rfl rfl) (dD (fun k1 d6 => (aA ?_)))))
       rcases aJ a2 with ⟨d7, a2⟩ | ⟨d7, a2⟩
       ·refine aO d7 rfl (aH (aB (aC (aD e95) (aC (aD c4) (aC (aD b2) (aC (aD b3) (aC (aDl cT b1 b9 b7 b8 rfl rfl rfl f1 rfl) (aC (kD (t := 0) cM d6 (i := 0) rfl f3 rfl rfl rfl) ?_))))))))
        obtain ⟨k2, f4, a2⟩ := aI a2
        refine aC (eT cT rfl b1 rfl rfl rfl f4) ?_
        obtain ⟨f5, f6, a2⟩ := aI a2
        exact oA (i := 0) (t := 0) (ns := [i64 f2]) (e' := (f2 : Int)) Tryz.sizeOf2 d6 rfl (Hp.le_refl _) rfl rfl rfl f4 f6 rfl rfl (dT rfl) rfl (fun cs h => by cases h; rfl) (fun i0 (i1 : aN G K (aT 2 K a1 c2 f5 :: L) i0) => (aF (aA (aB (aC (aD c4) (aC (cI rfl rfl) (aC (aG (v := i64 (wr (a7 + 1))) rfl) (aF (bG (aA ⟨f5, wr (a7 + 1), a2, (Eq.trans e95 (congrArg (fun n => Value.slice a1 n c2) (gQ f6))), rfl, b2, b3, i1⟩))))))))))
       ·exact aM d7 rfl (aX (bG (aA ⟨a6, a7, a2, e95, c4, b2, b3, d6⟩)))
      ·refine aM d5 rfl (bY (aY (aY ?_)))
       have i2 := h2 _ (Option.some.inj a2).symm
       subst i2
       have a0 : (fL a6 a7) = some b6 := a0
       exact bO (aA ⟨a6, a7, a0, e95, c4, a4⟩)
    ·exact aM c45 rfl (aX (bG (aA ⟨a0, a8, b0, c9⟩)))
   ·refine aM c7 rfl (bY (aY (aY ?_)))
    have i3 := d8 _ (Option.some.inj a0).symm
    subst i3
    have hm : (fK s_) = some R := hm
    exact bO (aA ⟨hm, a8, a3⟩)
theorem vF {t : dC} {states : (List Int)} {label : bF} {R : (List Int)} (hs : aN G K (L) w) (h3 : bX K a1 c2 t.Labels) (h6 : bX K a4 c5 t.Edges) (h9 : bX K a7 c8 states) (hm : lX t states label = some R) :
  Calls Tryz.prog 181 ([Value.agg #[i64 t.States, i64 t.Initial, Value.slice a1 t.Labels.length c2, Value.slice a4 t.Edges.length c5], Value.slice a7 states.length c8, cF label] : List Value).toArray w (fW fun v w' => ∃ (ra0 : Option Addr) (rc0 : Nat), v = Value.slice ra0 R.length rc0 ∧ aN G K (aT 2 K ra0 rc0 R :: L) w') := by
 refine aU Tryz.func181 rfl (by kernel_rfl) (by show (3 : Nat) ≤ 41; decide) ?_
 unfold lX at hm
 refine aH (aB (dU (v := Value.agg #[i64 t.States, i64 t.Initial, Value.slice a1 t.Labels.length c2, Value.slice a4 t.Edges.length c5]) (vs := [i64 t.States, i64 t.Initial, Value.slice a1 t.Labels.length c2, Value.slice a4 t.Edges.length c5]) hs rfl rfl (fun a6 j3 d8 => (aC (aG (v := Value.slice none 0 0) rfl) (aF (aA (aH (aB (aC (aG (v := Value.slice none 0 0) rfl) (aF (aA (aH (aH (aB (aC (bI (t' := 3) dI rfl rfl) (aC (cA iC d8 (i := 0) rfl rfl rfl) (aC (bU (len := t.Edges.length) cR rfl) (aC (aD (v := i64 0) rfl) (aF (aA (bC (fun f w => ∃ (b4 : List Int) (b1 : Option Addr) (b2 : Nat), oN b4 = some R ∧ f 7 = Value.slice b1 b4.length b2 ∧ aN G K (aT 2 K b1 b2 b4 :: L) w) ?_ ?_)))))))))))))))))))))
 ·rintro f j4 ⟨b4, b1, b2, hm, d9, f4⟩
  unfold oN at hm
  refine aA (aH (aB (aC (aD d9) ?_)))
  obtain ⟨e0, f5, hm⟩ := aI hm
  refine aW (vs := [Value.slice b1 b4.length b2]) Tryz.call182 rfl (aEv f4 f5) ?_
  rintro _ j5 ⟨rfl, f6, f7⟩
  refine aF (aA (aH (aB (aC (aD (v := Value.slice b1 e0.length b2) (Eq.trans d9 (congrArg (fun n => Value.slice b1 n b2) f6))) ?_))))
  obtain ⟨f8, f9, hm⟩ := aI hm
  refine aW (vs := [Value.slice b1 e0.length b2]) Tryz.call225 rfl (rX f7 f9) ?_
  rintro _ j6 ⟨e1, e2, rfl, g0⟩
  refine aC (aG (v := Value.slice e1 f8.length e2) rfl) (aF (aA ?_))
  have g1 := Option.some.inj hm
  subst g1
  exact bB (aZ Tryz.results181 rfl ⟨e1, e2, rfl, g0⟩)
 have g2 := aN.nil (α := Int) d8 2 K
 obtain ⟨j7, g3, hm⟩ := aI hm
 refine cD g3 (fun (s : (List Int × Int)) f w => match s with | (a3, a8) => ∃ (a9 : Option Addr) (b0 : Nat), f 1 = Value.slice a7 states.length c8 ∧ f 2 = cF label ∧ f 3 = Value.pointer (some ⟨a6, 0, none⟩) ∧ f 7 = Value.slice a9 a3.length b0 ∧ f 11 = Value.slice a4 t.Edges.length c5 ∧ f 12 = i64 (t.Edges.length : Int) ∧ f 13 = i64 a8 ∧ aN G K (aT 2 K a9 b0 a3 :: box a6 30 [i64 t.States, i64 t.Initial, Value.slice a1 t.Labels.length c2, Value.slice a4 t.Edges.length c5] :: L) w) ?_ ?_
 ·exact ⟨none, 0, rfl, rfl, rfl, rfl, rfl, rfl, rfl, g2⟩
 ·rintro ⟨a3, a8⟩ c0 f j8 a0 g4 ⟨a9, b0, c1, c3, c4, c6, c7, c9, b7, d0⟩
  replace a0 : lO t states label a3 a8 = some c0 := a0
  unfold lO at a0
  refine aH (aB (aC (cE b7 c9) (aF (aA (aH ?_)))))
  rcases aJ a0 with ⟨d1, a0⟩ | ⟨d1, a0⟩
  ·refine aO d1 rfl (aX (aA (aH (bC (fun f w => ∃ (b5 : List Int) (b8 : Option Addr) (b9 : Nat), oO a8 b5 = some c0 ∧ f 1 = Value.slice a7 states.length c8 ∧ f 2 = cF label ∧ f 3 = Value.pointer (some ⟨a6, 0, none⟩) ∧ f 7 = Value.slice b8 b5.length b9 ∧ f 11 = Value.slice a4 t.Edges.length c5 ∧ f 12 = i64 (t.Edges.length : Int) ∧ f 13 = i64 a8 ∧ aN G K (aT 2 K b8 b9 b5 :: box a6 30 [i64 t.States, i64 t.Initial, Value.slice a1 t.Labels.length c2, Value.slice a4 t.Edges.length c5] :: L) w) ?_ ?_))))
   ·rintro f j9 ⟨b5, b8, b9, a0, g5, g6, g7, g8, g9, h0, h1, h2⟩
    unfold oO at a0
    exact aA (aB (aC (cI h1 rfl) (aC (aD (v := i64 (wr (a8 + 1))) rfl) (aF (aA ⟨(b5, wr (a8 + 1)), (Option.some.inj a0).symm, b8, b9, g5, g6, g7, g8, g9, h0, rfl, h2⟩)))))
   refine aH (aB ?_)
   obtain ⟨a2, e3, a0⟩ := aI a0
   refine aC (cU cR rfl h6 c7 rfl b7 e3) ?_
   obtain ⟨k0, h4, h5⟩ := bX.el (sz := 3) rfl h6 e3
   cases h5
   refine aC (fO (t := 0) (vs := [i64 a2.From, i64 a2.Label, i64 a2.To]) qC d0 h4 rfl rfl rfl) (cG (vs := [i64 0, i64 0, i64 0]) Tryz.zeroValue63 d0 rfl (fun b6 k1 h7 => (cC (i := 0) (ns := [i64 a2.From, i64 a2.Label, i64 a2.To]) (us := [i64 a2.From, i64 a2.Label, i64 a2.To]) Tryz.sizeOf63 h7 rfl rfl rfl rfl rfl (dT rfl) rfl rfl (fun h8 (b3 : aN G K (box b6 63 [i64 a2.From, i64 a2.Label, i64 a2.To] :: aT 2 K a9 b0 a3 :: box a6 30 [i64 t.States, i64 t.Initial, Value.slice a1 t.Labels.length c2, Value.slice a4 t.Edges.length c5] :: L) h8) => (aF (aA (aH (cH (fun f w => ∃ (d2 : Bool), oP a3 a8 a2 d2 = some c0 ∧ f 1 = Value.slice a7 states.length c8 ∧ f 2 = cF label ∧ f 3 = Value.pointer (some ⟨a6, 0, none⟩) ∧ f 7 = Value.slice a9 a3.length b0 ∧ f 9 = Value.pointer (some ⟨b6, 0, none⟩) ∧ f 11 = Value.slice a4 t.Edges.length c5 ∧ f 12 = i64 (t.Edges.length : Int) ∧ f 13 = i64 a8 ∧ f 30 = Value.bool d2 ∧ aN G K (box b6 63 [i64 a2.From, i64 a2.Label, i64 a2.To] :: aT 2 K a9 b0 a3 :: box a6 30 [i64 t.States, i64 t.Initial, Value.slice a1 t.Labels.length c2, Value.slice a4 t.Edges.length c5] :: L) w) ?_ ?_))))))))
   ·rintro f k2 ⟨d2, a0, e4, e5, e6, e7, i0, e8, e9, f0, f1, d3⟩
    unfold oP at a0
    refine aA ?_
    rcases aJ a0 with ⟨d4, a0⟩ | ⟨d4, a0⟩
    ·refine aO d4 f1 (aB (aC (aD e7) (aC (bI (t' := 2) iU i0 rfl) (aC (cA cM d3 (i := 0) rfl rfl rfl) (eN (Kt := K) (xs := ([a2.To] : List Int)) (cs := [i64 a2.To]) (vs := [(0, i64 a2.To)]) cT vJ rfl rfl d3 rfl (by kernel_rfl) rfl rfl rfl ⟨rfl, trivial⟩ (fun i1 i2 (i3 : aN G K (aT 2 K i1 1 ([a2.To] : List Int) :: box b6 63 [i64 a2.From, i64 a2.Label, i64 a2.To] :: aT 2 K a9 b0 a3 :: box a6 30 [i64 t.States, i64 t.Initial, Value.slice a1 t.Labels.length c2, Value.slice a4 t.Edges.length c5] :: L) i2) => ?_))))))
     obtain ⟨d5, i4, a0⟩ := aI a0
     exact iZ (i := 1) cT Tryz.underlying31 vJ rfl rfl i3 rfl (Hp.le_refl _) (Hp.le_refl _) i4 rfl rfl rfl rfl (fun _ h => h) (fun d6 d7 i5 (i6 : aN G K (box b6 63 [i64 a2.From, i64 a2.Label, i64 a2.To] :: aT 2 K d6 d7 d5 :: box a6 30 [i64 t.States, i64 t.Initial, Value.slice a1 t.Labels.length c2, Value.slice a4 t.Edges.length c5] :: L) i5) => (aC (aG (v := Value.slice d6 d5.length d7) rfl) (aF (bG (aA ⟨d5, d6, d7, a0, e4, e5, e6, rfl, e8, e9, f0, (aN.arr 1 [] i6 rfl)⟩)))))
    ·exact aM d4 f1 (aX (bG (aA ⟨a3, a9, b0, a0, e4, e5, e6, e7, e8, e9, f0, (aN.arr 1 [] d3 rfl)⟩)))
   refine aB (aC (bI (t' := 2) gS c4 rfl) (aC (cA nY b3 (i := 2) rfl rfl rfl) (aC (bI (t' := 1) fP rfl rfl) (aC (cA cM b3 (i := 0) rfl rfl rfl) ?_))))
   obtain ⟨i7, f2, a0⟩ := aI a0
   refine aC (cU cQ rfl h3 rfl rfl rfl f2) ?_
   obtain ⟨k3, i8, i9⟩ := bX.el (sz := 1) rfl h3 f2
   cases i9
   refine aC (bL (t := 0) oI b3 i8 rfl rfl) (aC (aD c3) (aC (vN rfl rfl) (aC (aD (v := Value.bool (i7 == label)) rfl) ?_)))
   rcases aJ a0 with ⟨a5, a0⟩ | ⟨a5, a0⟩
   ·refine bH (g := 25) a5 (by kernel_rfl) rfl (aC (aD c1) (bH (g := 25) a5 (by kernel_rfl) rfl (aC (bI (t' := 0) iB rfl rfl) (bH (g := 25) a5 (by kernel_rfl) rfl (aC (cA cM b3 (i := 0) rfl rfl rfl) (bH (g := 25) a5 (by kernel_rfl) rfl ?_))))))
    obtain ⟨f3, j0, a0⟩ := aI a0
    refine aW (vs := [Value.slice a7 states.length c8, i64 a2.From]) Tryz.call106 rfl (kA b3 h9 j0) ?_
    rintro _ k4 ⟨rfl, j1⟩
    exact aC (bK (v := Value.bool f3) a5 rfl rfl) (aF (aA ⟨f3, a0, c1, c3, c4, c6, rfl, c7, c9, b7, rfl, j1⟩))
   ·exact bA (g := 25) a5 (by kernel_rfl) rfl (bA (g := 25) a5 (by kernel_rfl) rfl (bA (g := 25) a5 (by kernel_rfl) rfl (bA (g := 25) a5 (by kernel_rfl) rfl (aC (bM (v := Value.bool false) a5 rfl rfl) (aF (aA ⟨false, a0, c1, c3, c4, c6, rfl, c7, c9, b7, rfl, b3⟩))))))
  ·refine aM d1 rfl (bY (aY (aY ?_)))
   have j2 := g4 _ (Option.some.inj a0).symm
   subst j2
   have hm : (oN a3) = some R := hm
   exact bO (aA ⟨a3, a9, b0, hm, c6, (aN.arr 2 [0] d0 rfl)⟩)
theorem xC {t : dC} {k : Int} {label : bF} {R : Int} (hs : aN G K (L) w) (h3 : bX K a1 c2 t.Labels) (h6 : bX K a4 c5 t.Edges) (hm : tC t k label = some R) :
  Calls Tryz.prog 135 ([Value.agg #[i64 t.States, i64 t.Initial, Value.slice a1 t.Labels.length c2, Value.slice a4 t.Edges.length c5], i64 k, cF label] : List Value).toArray w (fW fun v w' => v = i64 R ∧ aN G K (L) w') := by
 refine aU Tryz.func135 rfl (by kernel_rfl) (by show (3 : Nat) ≤ 21; decide) ?_
 unfold tC at hm
 refine aH (aB (dU (v := Value.agg #[i64 t.States, i64 t.Initial, Value.slice a1 t.Labels.length c2, Value.slice a4 t.Edges.length c5]) (vs := [i64 t.States, i64 t.Initial, Value.slice a1 t.Labels.length c2, Value.slice a4 t.Edges.length c5]) hs rfl rfl (fun b7 w8 a3 => (aC (aG (v := i64 0) rfl) (aF (aA (aH (aH (aB (aC (aD (v := i64 k) rfl) (aC (cE rfl rfl) (aF (aA ?_)))))))))))))
 rcases aJ hm with ⟨a5, hm⟩ | ⟨a5, hm⟩
 ·refine aO a5 rfl (aH (aB (aC (aG (v := i64 (-1)) rfl) (aF (aA ?_)))))
  have b3 := Option.some.inj hm
  subst b3
  exact bB (aQ (aZ Tryz.results135 rfl ⟨rfl, (aN.arr 1 [] a3 rfl)⟩))
 ·refine aM a5 rfl (aX (aA (aH (aH (aB (aC (dR (us := [i64 t.States, i64 t.Initial, Value.slice a1 t.Labels.length c2, Value.slice a4 t.Edges.length c5]) gT a3 (i := 0) rfl rfl rfl rfl) (aC (aD (v := i64 k) rfl) (eN (Kt := K) (xs := ([k] : List Int)) (cs := [i64 k]) (vs := [(0, i64 k)]) cT vJ rfl rfl a3 rfl (by kernel_rfl) rfl rfl rfl ⟨rfl, trivial⟩ (fun b0 b4 (b5 : aN G K (aT 2 K b0 1 ([k] : List Int) :: box b7 30 [i64 t.States, i64 t.Initial, Value.slice a1 t.Labels.length c2, Value.slice a4 t.Edges.length c5] :: L) b4) => (aC (aD (v := cF label) rfl) ?_))))))))))
  obtain ⟨c8, b1, b6, hs18, b8⟩ := aN.lendS (i := 0) b5 (Hp.le_refl _) rfl
  obtain ⟨a0, b9, hm⟩ := aI hm
  refine aW (vs := [Value.agg #[i64 t.States, i64 t.Initial, Value.slice a1 t.Labels.length c2, Value.slice a4 t.Edges.length c5], Value.slice b0 ([k] : List Int).length 1, cF label]) Tryz.call181 rfl (vF hs18 (h3.mono b1) (h6.mono b1) b6 b9) ?_
  rintro _ c9 ⟨a6, a7, rfl, c0⟩
  have a2 := b8 _ _ c0
  refine aC (aG (v := Value.slice a6 a0.length a7) rfl) (aF (aA (aH (aB (aC (aD (v := Value.slice a6 a0.length a7) rfl) (aC (bU (len := a0.length) cT rfl) (aC (oH rfl rfl) (aF (aA ?_)))))))))
  rcases aJ hm with ⟨a8, hm⟩ | ⟨a8, hm⟩
  ·refine aO a8 rfl (aH (aB (aC (aD (v := Value.slice a6 a0.length a7) rfl) ?_)))
   obtain ⟨c1, a9, hm⟩ := aI hm
   have c3 := dL a2 (i := 1) rfl a9
   refine aC (eT cT rfl c3 rfl rfl rfl a9) (aC (kD (t := 0) cM a2 (i := 1) rfl a9 rfl rfl rfl) (aC (aG (v := i64 c1) rfl) (aF (aA ?_))))
   have c4 := Option.some.inj hm
   subst c4
   exact bB (aQ (aZ Tryz.results135 rfl ⟨rfl, (aN.arr 3 [] a2 rfl)⟩))
  ·refine aM a8 rfl (aX (aA (aH (aB (aC (aG (v := i64 (-1)) rfl) (aF (aA ?_)))))))
   have c6 := Option.some.inj hm
   subst c6
   exact bB (aZ Tryz.results135 rfl ⟨rfl, (aN.arr 3 [] a2 rfl)⟩)
theorem zB {t : dC} {k : Int} {R : (List Edge)} (hs : aN G K (L) w) (h3 : bX K a1 c2 t.Labels) (h6 : bX K a4 c5 t.Edges) (hm : vU t k = some R) :
  Calls Tryz.prog 144 ([Value.agg #[i64 t.States, i64 t.Initial, Value.slice a1 t.Labels.length c2, Value.slice a4 t.Edges.length c5], i64 k] : List Value).toArray w (fW fun v w' => ∃ (ra0 : Option Addr) (rc0 : Nat), v = Value.slice ra0 R.length rc0 ∧ aN G K (aT 63 K ra0 rc0 R :: L) w') := by
 refine aU Tryz.func144 rfl (by kernel_rfl) (by show (2 : Nat) ≤ 25; decide) ?_
 unfold vU at hm
 refine aH (aB (dU (v := Value.agg #[i64 t.States, i64 t.Initial, Value.slice a1 t.Labels.length c2, Value.slice a4 t.Edges.length c5]) (vs := [i64 t.States, i64 t.Initial, Value.slice a1 t.Labels.length c2, Value.slice a4 t.Edges.length c5]) hs rfl rfl (fun b7 w8 c9 => (aC (aG (v := Value.slice none 0 0) rfl) (aF (aA (aH (aB (aC (aG (v := Value.slice none 0 0) rfl) (aF (aA (aH (aH (aB (aC (bI (t' := 3) dI rfl rfl) (aC (cA iC c9 (i := 0) rfl rfl rfl) (aC (bU (len := t.Edges.length) cR rfl) (aC (aD (v := i64 0) rfl) (aF (aA (bC (fun f w => ∃ (a8 : List Edge) (a9 : Option Addr) (b0 : Nat), uY a8 = some R ∧ f 5 = Value.slice a9 a8.length b0 ∧ aN G K (aT 63 K a9 b0 a8 :: L) w) ?_ ?_)))))))))))))))))))))
 ·rintro f f7 ⟨a8, a9, b0, hm, d2, d3⟩
  unfold uY at hm
  refine aA (aH (aB (aC (aD d2) (aC (aG (v := Value.slice a9 a8.length b0) rfl) (aF (aA ?_))))))
  have d4 := Option.some.inj hm
  subst d4
  exact bB (aZ Tryz.results144 rfl ⟨a9, b0, rfl, d3⟩)
 have d5 := aN.nil (α := Edge) c9 63 K
 obtain ⟨f8, d6, hm⟩ := aI hm
 refine cD d6 (fun (s : (List Edge × Int)) f w => match s with | (a3, a5) => ∃ (a6 : Option Addr) (a7 : Nat), f 1 = i64 k ∧ f 5 = Value.slice a6 a3.length a7 ∧ f 9 = Value.slice a4 t.Edges.length c5 ∧ f 10 = i64 (t.Edges.length : Int) ∧ f 11 = i64 a5 ∧ aN G K (aT 63 K a6 a7 a3 :: L) w) ?_ ?_
 ·exact ⟨none, 0, rfl, rfl, rfl, rfl, rfl, (aN.arr 2 [0] d5 rfl)⟩
 ·rintro ⟨a3, a5⟩ d0 f f9 a2 d7 ⟨a6, a7, b6, e40, b8, b9, b2, c0⟩
  replace a2 : rL t k a3 a5 = some d0 := a2
  unfold rL at a2
  refine aH (aB (aC (cE b2 b9) (aF (aA (aH ?_)))))
  rcases aJ a2 with ⟨c1, a2⟩ | ⟨c1, a2⟩
  ·refine aO c1 rfl (aX (aA (aH (bC (fun f w => ∃ (b1 : List Edge) (b3 : Option Addr) (b4 : Nat), uZ a5 b1 = some d0 ∧ f 1 = i64 k ∧ f 5 = Value.slice b3 b1.length b4 ∧ f 9 = Value.slice a4 t.Edges.length c5 ∧ f 10 = i64 (t.Edges.length : Int) ∧ f 11 = i64 a5 ∧ aN G K (aT 63 K b3 b4 b1 :: L) w) ?_ ?_))))
   ·rintro f g0 ⟨b1, b3, b4, a2, d8, d9, e0, e1, e2, e3⟩
    unfold uZ at a2
    exact aA (aB (aC (cI e2 rfl) (aC (aD (v := i64 (wr (a5 + 1))) rfl) (aF (aA ⟨(b1, wr (a5 + 1)), (Option.some.inj a2).symm, b3, b4, d8, d9, e0, e1, rfl, e3⟩)))))
   refine aH (aB ?_)
   obtain ⟨a0, d1, a2⟩ := aI a2
   refine aC (cU cR rfl h6 b8 rfl b2 d1) ?_
   obtain ⟨g1, e4, e5⟩ := bX.el (sz := 3) rfl h6 d1
   cases e5
   refine aC (fO (t := 0) (vs := [i64 a0.From, i64 a0.Label, i64 a0.To]) qC c0 e4 rfl rfl rfl) (cG (vs := [i64 0, i64 0, i64 0]) Tryz.zeroValue63 c0 rfl (fun c3 g2 e6 => (cC (i := 0) (ns := [i64 a0.From, i64 a0.Label, i64 a0.To]) (us := [i64 a0.From, i64 a0.Label, i64 a0.To]) Tryz.sizeOf63 e6 rfl rfl rfl rfl rfl (dT rfl) rfl rfl (fun e7 (b5 : aN G K (box c3 63 [i64 a0.From, i64 a0.Label, i64 a0.To] :: aT 63 K a6 a7 a3 :: L) e7) => (aF (aA (aH (aB (aC (bI (t' := 0) iB rfl rfl) (aC (cA cM b5 (i := 0) rfl rfl rfl) (aC (aD b6) (aC (kC rfl rfl) (aF (aA ?_))))))))))))))
   rcases aJ a2 with ⟨c4, a2⟩ | ⟨c4, a2⟩
   ·refine aO c4 rfl (aB (aC (aD e40) (aC (dR (us := [i64 a0.From, i64 a0.Label, i64 a0.To]) qC b5 (i := 0) rfl rfl rfl rfl) (eN (Kt := K) (xs := ([a0] : List Edge)) (cs := [i64 a0.From, i64 a0.Label, i64 a0.To]) (vs := [(0, Value.agg #[i64 a0.From, i64 a0.Label, i64 a0.To])]) cR zS rfl rfl b5 rfl (by kernel_rfl) rfl rfl rfl ⟨rfl, trivial⟩ (fun e8 e9 (f0 : aN G K (aT 63 K e8 1 ([a0] : List Edge) :: box c3 63 [i64 a0.From, i64 a0.Label, i64 a0.To] :: aT 63 K a6 a7 a3 :: L) e9) => ?_)))))
    obtain ⟨c6, f1, a2⟩ := aI a2
    exact iZ (i := 1) cR Tryz.underlying28 zS rfl rfl f0 rfl (Hp.le_refl _) (Hp.le_refl _) f1 rfl rfl rfl rfl (fun _ h => h) (fun c7 c8 f2 (f3 : aN G K (box c3 63 [i64 a0.From, i64 a0.Label, i64 a0.To] :: aT 63 K c7 c8 c6 :: L) f2) => (aC (aG (v := Value.slice c7 c6.length c8) rfl) (aF (bG (aA ⟨c6, c7, c8, a2, b6, rfl, b8, b9, b2, (aN.arr 1 [] f3 rfl)⟩)))))
   ·exact aM c4 rfl (aX (bG (aA ⟨a3, a6, a7, a2, b6, e40, b8, b9, b2, (aN.arr 1 [] b5 rfl)⟩)))
  ·refine aM c1 rfl (bY (aY (aY ?_)))
   have f4 := d7 _ (Option.some.inj a2).symm
   subst f4
   have hm : (uY a3) = some R := hm
   exact bO (aA ⟨a3, a6, a7, hm, e40, c0⟩)
theorem lJ {x_ : (List Bool)} {count : Int} {R : (List Bool)} (hs : aN G K (L) w) (h3 : bX K a1 c2 x_) (hm : eM x_ count = some R) :
  Calls Tryz.prog 57 ([Value.slice a1 x_.length c2, i64 count] : List Value).toArray w (fW fun v w' => ∃ (ra0 : Option Addr) (rc0 : Nat), v = Value.slice ra0 R.length rc0 ∧ aN G K (aT 4 K ra0 rc0 R :: L) w') := by
 refine aU Tryz.func57 rfl (by kernel_rfl) (by show (2 : Nat) ≤ 48; decide) ?_
 unfold eM at hm
 refine aH (aB (aC (aG (v := Value.slice none 0 0) rfl) (aF (aA (aCK (fun f w => gI x_ count = some R ∧ f 0 = Value.slice a1 x_.length c2 ∧ f 1 = i64 count ∧ aN G K (L) w) ?_ ?_)))))
 ·rintro f w6 ⟨hm, e4, e5, d2⟩
  unfold gI at hm
  refine aH (aB (aC (aD e4) (aC (bU (len := x_.length) iV rfl) (aC (aGl Tryz.runUnderlying138 rfl ⟨_, Tryz.runUnderlying3⟩) (aC (aD e5) (aC (aGl Tryz.runUnderlying138 rfl ⟨_, Tryz.runUnderlying3⟩) ?_))))))
  obtain ⟨r8, q9, hm⟩ := aI hm
  refine aW (vs := [Value.int .u64 (aDO (x_.length : Int)), Value.int .u64 (aDO count)]) Tryz.call105 rfl (lib_Mul d2 q9) ?_
  rintro _ f8 ⟨rfl, b8⟩
  refine aC (aD (v := Value.tuple #[Value.int .u64 r8.1, Value.int .u64 r8.2]) rfl) (aC (cZ rfl rfl) (aC (cZ rfl rfl) (aC (aG (v := Value.int .u64 r8.1) rfl) (aC (aG (v := Value.int .u64 r8.2) rfl) (aF (aA (aCK (fun f w => gH x_ r8 = some R ∧ f 0 = Value.slice a1 x_.length c2 ∧ f 6 = Value.int .u64 r8.2 ∧ aN G K (L) w) ?_ ?_)))))))
  ·rintro f f9 ⟨hm, d4, d5, d6⟩
   unfold gH at hm
   refine aH (aB (aC (aD d5) (aC (aHr Tryz.runUnderlying3 rfl ⟨_, Tryz.runUnderlying138⟩) ?_)))
   obtain ⟨a0, d7, hm⟩ := aI hm
   refine aDg (e := (false : Bool)) iV ez_4 rfl rfl d6 rfl rfl rfl d7 rfl (fun a2 d8 (b9 : aN G K (aT 4 K a2 a0.length a0 :: L) d8) => (aC (aG (v := Value.slice a2 a0.length a0.length) rfl) (aF (aA (aH (aB (aC (aD (v := Value.slice a2 a0.length a0.length) rfl) (aC (aD d4) ?_))))))))
   obtain ⟨d9, c0, hm⟩ := aI hm
   refine aHA iV rfl b9 (i := 0) rfl Cut.whole rfl rfl rfl (aGq _ _ _) aFa (aHB rfl b9 h3) c0 (fun e0 (e1 : aN G K (aT 4 K a2 a0.length d9 :: L) e0) => (aC (aG (v := i64 ((Nat.min x_.length a0.length) : Int)) rfl) (aF (aA (aH (bC (fun f w => ∃ (a8 : List Bool), gG a8 = some R ∧ f 7 = Value.slice a2 a8.length a0.length ∧ aN G K (aT 4 K a2 a0.length a8 :: L) w) ?_ ?_))))))
   ·rintro f g0 ⟨a8, hm, e2, e3⟩
    unfold gG at hm
    refine aA (aH (aB (aC (aD e2) (aC (aG (v := Value.slice a2 a8.length a0.length) rfl) (aF (aA ?_))))))
    have hR29 := Option.some.inj hm
    subst hR29
    exact bB (aZ Tryz.results57 rfl ⟨a2, a0.length, rfl, e3⟩)
   obtain ⟨g1, hl79, hm⟩ := aI hm
   refine cD hl79 (fun (s : (List Bool × Int)) f w => match s with | (a5, a7) => f 7 = Value.slice a2 a5.length a0.length ∧ f 8 = i64 a7 ∧ aN G K (aT 4 K a2 a0.length a5 :: L) w) ?_ ?_
   ·exact ⟨(Eq.trans rfl (congrArg (fun n => Value.slice a2 n a0.length) (aDd c0))), rfl, e1⟩
   ·rintro ⟨a5, a7⟩ e6 f g2 a3 e7 ⟨a9, b0, b3⟩
    replace a3 : eV a5 a7 = some e6 := a3
    unfold eV at a3
    refine aH (aH (aB (aC (aD b0) (aC (aD a9) (aC (bU (len := a5.length) iV rfl) (aC (cE rfl rfl) (aF (aA ?_))))))))
    rcases aJ a3 with ⟨b4, a3⟩ | ⟨b4, a3⟩
    ·refine aO b4 rfl (aX (aA (cK (gV (C := fun w' => ∃ L', aN G K L' w') [(0, 0), (1, 0), (2, 0), (3, 0), (4, 0), (5, 0), (6, 0), (7, 1), (8, 0), (9, 0)] bR (by kernel_rfl) (fun _ hg => ⟨_, aN.mono b3 hg⟩) (fun g3 e8 => ?_)))))
     have b1 := aN.mono b3 e8
     refine cL rfl (fun _ _ => aD b0) (cL rfl (fun _ _ => aD a9) (cL rfl (fun _ _ => aD b0) ?_))
     obtain ⟨c1, e9, a3⟩ := aI a3
     have f0 := sU b1 (i := 0) rfl
     obtain ⟨g4, g5, c3⟩ := Cut.ex 1 a2 a0.length a7
     refine cL rfl (fun _ _ => aBP iV f0 c3 rfl rfl rfl e9) (cL rfl (fun _ _ => aD a9) (cL rfl (fun _ _ => aD b0) ?_))
     obtain ⟨c4, c5, a3⟩ := aI a3
     have f1 := sU b1 (i := 0) rfl
     obtain ⟨g6, g7, c6⟩ := Cut.ex 1 a2 a0.length 0
     refine cL rfl (fun _ _ => aGL iV f1 c6 rfl rfl rfl c5) (oB rfl ?_)
     obtain ⟨c7, c8, a3⟩ := aI a3
     refine aHA iV rfl b1 (i := 0) rfl c3 rfl rfl rfl (aGq _ _ _) aFa (aIy rfl b1 (i := 0) rfl c5 c6) c8 (fun f2 (c9 : aN G K (aT 4 K a2 a0.length c7 :: L) f2) => (aF (aA ⟨⟨_, c9⟩, ?_⟩)))
     exact cL rfl (fun _ _ => cI rfl rfl) (cL rfl (fun _ _ => aG (v := i64 (wr (a7 + ((Nat.min c4.length c1.length) : Int)))) rfl) (pS (bG (aA ⟨(c7, wr (a7 + ((Nat.min c4.length c1.length) : Int))), (Option.some.inj a3).symm, (Eq.trans a9 (congrArg (fun n => Value.slice a2 n a0.length) (aDd c8))), rfl, c9⟩))))
    ·refine aM b4 rfl (bY (aY (aY ?_)))
     have f3 := e7 _ (Option.some.inj a3).symm
     subst f3
     have hm : (gG a5) = some R := hm
     exact bO (aA ⟨a5, hm, a9, b3⟩)
  refine aH (cH (fun f w => ∃ (b5 : Bool), eW x_ r8 b5 = some R ∧ f 0 = Value.slice a1 x_.length c2 ∧ f 6 = Value.int .u64 r8.2 ∧ f 26 = Value.bool b5 ∧ aN G K (L) w) ?_ ?_)
  ·rintro f g8 ⟨b5, hm, f4, f5, d0, f6⟩
   unfold eW at hm
   refine aA ?_
   rcases aJ hm with ⟨b6, hm⟩ | ⟨b6, hm⟩
   ·refine aO b6 d0 (aB ?_)
    cases hm
   ·exact aM b6 d0 (aX (aA ⟨hm, f4, f5, f6⟩))
  refine aB (aC (aD (v := Value.int .u64 r8.1) rfl) (aC (oH rfl rfl) (aC (aD (v := Value.bool (decide (0 < r8.1))) rfl) ?_)))
  rcases aJ hm with ⟨a6, hm⟩ | ⟨a6, hm⟩
  ·exact aV (g := 23) a6 (by kernel_rfl) rfl (aV (g := 23) a6 (by kernel_rfl) rfl (aC (bK (v := Value.bool true) a6 rfl rfl) (aF (aA ⟨true, hm, e4, rfl, rfl, b8⟩))))
  ·exact bJ (g := 23) a6 (by kernel_rfl) rfl (aC (aD (v := Value.int .u64 r8.2) rfl) (bJ (g := 23) a6 (by kernel_rfl) rfl (aC (oH rfl rfl) (aC (bM (v := Value.bool (decide (9223372036854775807 < r8.2))) a6 rfl rfl) (aF (aA ⟨decide (9223372036854775807 < r8.2), hm, e4, rfl, rfl, b8⟩))))))
 refine aH (aB (aC (aD (v := i64 count) rfl) (aC (cE rfl rfl) (aF (aA ?_)))))
 rcases aJ hm with ⟨b7, hm⟩ | ⟨b7, hm⟩
 ·refine aO b7 rfl (aB ?_)
  cases hm
 ·exact aM b7 rfl (aX (aA ⟨hm, rfl, rfl, hs⟩))
theorem rV {v_ : Int} {w_ : Int} {p : (List (List Bool))} {k2 : Nat} {R : Bool} (hs : aN G K (L) w) (h3 : fN K a1 k2 [Value.slice a4 p.length c5]) (h6 : bX K a4 c5 p) (hm : iI v_ w_ p = some R) :
  Calls Tryz.prog 249 ([i64 v_, i64 w_, bZ a1 k2] : List Value).toArray w (fW fun v w' => v = Value.bool R ∧ aN G K (L) w') := by
 refine aU Tryz.func249 rfl (by kernel_rfl) (by show (3 : Nat) ≤ 17; decide) ?_
 unfold iI at hm
 refine aH (aB (aC (aG (v := Value.bool false) rfl) (aF (aA (aH (cH (fun f w => ∃ (v7 : Bool), jT v7 = some R ∧ f 5 = Value.bool v7 ∧ aN G K (L) w) ?_ ?_))))))
 ·rintro f w9 ⟨v7, hm, e8, a9⟩
  unfold jT at hm
  refine aA ?_
  have b0 := Option.some.inj hm
  subst b0
  exact bB (aZ Tryz.results249 rfl ⟨e8, a9⟩)
 refine aB (aC (aD (v := i64 w_) rfl) (aC (tX rfl rfl) (aC (aD (v := Value.bool (decide (0 ≤ w_))) rfl) ?_)))
 rcases aJ hm with ⟨a0, hm⟩ | ⟨a0, hm⟩
 ·refine bH (g := 8) a0 (by kernel_rfl) rfl (aC (bL (t := 0) qE hs h3 rfl rfl) (bH (g := 8) a0 (by kernel_rfl) rfl (aC (aD (v := i64 v_) rfl) (bH (g := 8) a0 (by kernel_rfl) rfl ?_))))
  obtain ⟨b6, a5, hm⟩ := aI hm
  refine aC (cU qD rfl h6 rfl rfl rfl a5) ?_
  obtain ⟨b7, b1, b2⟩ := bX.el (sz := 1) rfl h6 a5
  obtain ⟨b8, b9, rfl, a6⟩ := b2
  refine bH (g := 8) a0 (by kernel_rfl) rfl (aC (bL (t := 0) aDo hs b1 rfl rfl) (bH (g := 8) a0 (by kernel_rfl) rfl (aC (aD (v := i64 w_) rfl) (bH (g := 8) a0 (by kernel_rfl) rfl ?_))))
  obtain ⟨a3, a7, hm⟩ := aI hm
  refine aC (cU iV rfl a6 rfl rfl rfl a7) ?_
  obtain ⟨c0, b3, b4⟩ := bX.el (sz := 1) rfl a6 a7
  cases b4
  exact bH (g := 8) a0 (by kernel_rfl) rfl (aC (bL (t := 0) aBA hs b3 rfl rfl) (aC (bK (v := Value.bool a3) a0 rfl rfl) (aC (aG (v := Value.bool a3) rfl) (aF (aA ⟨a3, hm, rfl, hs⟩)))))
 ·exact bA (g := 8) a0 (by kernel_rfl) rfl (bA (g := 8) a0 (by kernel_rfl) rfl (bA (g := 8) a0 (by kernel_rfl) rfl (bA (g := 8) a0 (by kernel_rfl) rfl (bA (g := 8) a0 (by kernel_rfl) rfl (bA (g := 8) a0 (by kernel_rfl) rfl (bA (g := 8) a0 (by kernel_rfl) rfl (aC (bM (v := Value.bool false) a0 rfl rfl) (aC (aG (v := Value.bool false) rfl) (aF (aA ⟨false, hm, rfl, hs⟩))))))))))
theorem xY {v_ : Int} {w_ : Int} {k2 : Nat} {p_c0_ : (List (List Bool))} {k5 : Nat} {R : Bool} (hs : aN G K (L) w) (h3 : fN K a1 k2 [Value.func (.func 249) #[] #[bZ a4 k5]]) (h6 : fN K a4 k5 [Value.slice a7 p_c0_.length c8]) (h9 : bX K a7 c8 p_c0_) (hm : kK v_ w_ p_c0_ = some R) :
  Calls Tryz.prog 223 ([i64 v_, i64 w_, bZ a1 k2] : List Value).toArray w (fW fun v w' => v = Value.bool R ∧ aN G K (L) w') := by
 refine aU Tryz.func223 rfl (by kernel_rfl) (by show (3 : Nat) ≤ 14; decide) ?_
 unfold kK at hm
 refine aH (aB (aC (aG (v := Value.bool false) rfl) (aF (aA (aH (cH (fun f w => ∃ (a2 : Bool), jA a2 = some R ∧ f 5 = Value.bool a2 ∧ aN G K (L) w) ?_ ?_))))))
 ·rintro f b1 ⟨a2, hm, a5, a6⟩
  unfold jA at hm
  refine aA ?_
  have a8 := Option.some.inj hm
  subst a8
  exact bB (aZ Tryz.results223 rfl ⟨a5, a6⟩)
 refine aB (aC (aD (v := i64 w_) rfl) (aC (cE rfl rfl) (aC (aD (v := Value.bool (decide (w_ < 0))) rfl) ?_)))
 rcases aJ hm with ⟨a0, hm⟩ | ⟨a0, hm⟩
 ·exact aV (g := 8) a0 (by kernel_rfl) rfl (aV (g := 8) a0 (by kernel_rfl) rfl (aV (g := 8) a0 (by kernel_rfl) rfl (aV (g := 8) a0 (by kernel_rfl) rfl (aC (bK (v := Value.bool true) a0 rfl rfl) (aC (aG (v := Value.bool true) rfl) (aF (aA ⟨true, hm, rfl, hs⟩)))))))
 ·refine bJ (g := 8) a0 (by kernel_rfl) rfl (aC (bL (t := 0) sc_246 hs h3 rfl rfl) (bJ (g := 8) a0 (by kernel_rfl) rfl (aC (aD (v := i64 v_) rfl) (bJ (g := 8) a0 (by kernel_rfl) rfl (aC (aD (v := i64 w_) rfl) (bJ (g := 8) a0 (by kernel_rfl) rfl ?_))))))
  obtain ⟨a3, a9, hm⟩ := aI hm
  refine kE (vs := [i64 v_, i64 w_]) (caps := [bZ a4 k5]) (us := [i64 v_, i64 w_, bZ a4 k5]) rfl Tryz.call249 rfl rfl (rV hs h6 h9 a9) ?_
  rintro _ b2 ⟨rfl, b0⟩
  exact aC (bM (v := Value.bool a3) a0 rfl rfl) (aC (aG (v := Value.bool a3) rfl) (aF (aA ⟨a3, hm, rfl, b0⟩)))
theorem vG {v_ : Int} {w_ : Int} {p : Bool} {k3 : Nat} {k6 : Nat} {p_c0_c0_ : (List (List Bool))} {k9 : Nat} {R : Bool} (hs : aN G K (box b1 4 [Value.bool p] :: L) w) (h4 : fN K a2 k3 [Value.func (.func 223) #[] #[bZ a5 k6]]) (h7 : fN K a5 k6 [Value.func (.func 249) #[] #[bZ a8 k9]]) (h10 : fN K a8 k9 [Value.slice a11 p_c0_c0_.length c12]) (h13 : bX K a11 c12 p_c0_c0_) (hm : jU v_ w_ p p_c0_c0_ = some R) :
  Calls Tryz.prog 251 ([i64 v_, i64 w_, Value.pointer (some ⟨b1, 0, none⟩), bZ a2 k3] : List Value).toArray w (fW fun v w' => v = Value.tuple #[] ∧ aN G K (box b1 4 [Value.bool R] :: L) w') := by
 refine aU Tryz.func251 rfl (by kernel_rfl) (by show (4 : Nat) ≤ 13; decide) ?_
 unfold jU at hm
 refine cH (fun f w => ∃ (a3 : Bool), lY a3 = some R ∧ aN G K (box b1 4 [Value.bool a3] :: L) w) ?_ ?_
 ·rintro f b5 ⟨a3, hm, a4⟩
  unfold lY at hm
  have a6 := Option.some.inj hm
  subst a6
  exact aCj Tryz.results251 ⟨rfl, a4⟩
 refine aB (aC (cA aBA hs (i := 0) rfl rfl rfl) (aC (aD (v := Value.bool p) rfl) ?_))
 rcases aJ hm with ⟨a0, hm⟩ | ⟨a0, hm⟩
 ·exact aV (g := 7) a0 (by kernel_rfl) rfl (aV (g := 7) a0 (by kernel_rfl) rfl (aV (g := 7) a0 (by kernel_rfl) rfl (aV (g := 7) a0 (by kernel_rfl) rfl (aC (bK (v := Value.bool true) a0 rfl rfl) (cC (i := 0) (ns := [Value.bool true]) (us := [Value.bool true]) Tryz.sizeOf4 hs rfl rfl rfl rfl rfl (dT rfl) rfl rfl (fun a7 (a9 : aN G K (box b1 4 [Value.bool true] :: L) a7) => (aF (aA ⟨true, hm, a9⟩))))))))
 ·refine bJ (g := 7) a0 (by kernel_rfl) rfl (aC (bL (t := 0) sc_246 hs h4 rfl rfl) (bJ (g := 7) a0 (by kernel_rfl) rfl (aC (aD (v := i64 v_) rfl) (bJ (g := 7) a0 (by kernel_rfl) rfl (aC (aD (v := i64 w_) rfl) (bJ (g := 7) a0 (by kernel_rfl) rfl ?_))))))
  obtain ⟨a1, b0, hm⟩ := aI hm
  refine kE (vs := [i64 v_, i64 w_]) (caps := [bZ a5 k6]) (us := [i64 v_, i64 w_, bZ a5 k6]) rfl Tryz.call223 rfl rfl (xY hs h7 h10 h13 b0) ?_
  rintro _ b6 ⟨rfl, b2⟩
  exact aC (bM (v := Value.bool a1) a0 rfl rfl) (cC (i := 0) (ns := [Value.bool a1]) (us := [Value.bool a1]) Tryz.sizeOf4 b2 rfl rfl rfl rfl rfl (dT rfl) rfl rfl (fun b3 (b4 : aN G K (box b1 4 [Value.bool a1] :: L) b3) => (aF (aA ⟨a1, hm, b4⟩))))
theorem aBB {o : cO} {x_ : Int} {y : Int} {do_c0_ : Bool} {k15 : Nat} {k18 : Nat} {do_c1_c0_c0_ : (List (List Bool))} {k21 : Nat} {R : Bool} (hs : aN G K (box b13 4 [Value.bool do_c0_] :: L) w) (h3 : bX K a1 c2 o.t.Labels) (h6 : bX K a4 c5 o.t.Edges) (h9 : bX K a7 c8 o.p.Labels) (h12 : bX K a10 c11 o.p.Edges) (h16 : fN K a14 k15 [Value.func (.func 223) #[] #[bZ a17 k18]]) (h19 : fN K a17 k18 [Value.func (.func 249) #[] #[bZ a20 k21]]) (h22 : fN K a20 k21 [Value.slice a23 do_c1_c0_c0_.length c24]) (h25 : bX K a23 c24 do_c1_c0_c0_) (hm : nF o x_ y do_c0_ do_c1_c0_c0_ = some R) :
  Calls Tryz.prog 250 ([Value.agg #[i64 o.t.States, i64 o.t.Initial, Value.slice a1 o.t.Labels.length c2, Value.slice a4 o.t.Edges.length c5, i64 o.p.States, i64 o.p.Initial, Value.slice a7 o.p.Labels.length c8, Value.slice a10 o.p.Edges.length c11], i64 x_, i64 y, Value.func (.func 251) #[] #[Value.pointer (some ⟨b13, 0, none⟩), bZ a14 k15]] : List Value).toArray w (fW fun v w' => v = Value.tuple #[] ∧ aN G K (box b13 4 [Value.bool R] :: L) w') := by
 refine aU Tryz.func250 rfl (by kernel_rfl) (by show (4 : Nat) ≤ 43; decide) ?_
 unfold nF at hm
 refine aH (aB (dU (v := Value.agg #[i64 o.t.States, i64 o.t.Initial, Value.slice a1 o.t.Labels.length c2, Value.slice a4 o.t.Edges.length c5, i64 o.p.States, i64 o.p.Initial, Value.slice a7 o.p.Labels.length c8, Value.slice a10 o.p.Edges.length c11]) (vs := [i64 o.t.States, i64 o.t.Initial, Value.slice a1 o.t.Labels.length c2, Value.slice a4 o.t.Edges.length c5, i64 o.p.States, i64 o.p.Initial, Value.slice a7 o.p.Labels.length c8, Value.slice a10 o.p.Edges.length c11]) hs rfl rfl (fun b3 h8 d0 => (aF (aA (aH (aB (aC (bI (t' := 0) oJ rfl rfl) (aC (dR (us := [i64 o.t.States, i64 o.t.Initial, Value.slice a1 o.t.Labels.length c2, Value.slice a4 o.t.Edges.length c5]) gT d0 (i := 0) rfl rfl rfl rfl) (aC (aD (v := i64 x_) rfl) ?_))))))))))
 obtain ⟨a3, e2, hm⟩ := aI hm
 refine aW (vs := [Value.agg #[i64 o.t.States, i64 o.t.Initial, Value.slice a1 o.t.Labels.length c2, Value.slice a4 o.t.Edges.length c5], i64 x_]) Tryz.call144 rfl (zB d0 h3 h6 e2) ?_
 rintro _ i0 ⟨b0, b1, rfl, e3⟩
 refine aC (bU (len := a3.length) cR rfl) (aC (aD (v := i64 0) rfl) (aF (aA (bC (fun f w => ∃ (c1 : Bool), mV c1 = some R ∧ aN G K (box b13 4 [Value.bool c1] :: L) w) ?_ ?_))))
 ·rintro f i1 ⟨c1, hm, e4⟩
  unfold mV at hm
  have e5 := Option.some.inj hm
  subst e5
  exact aCj Tryz.results250 ⟨rfl, e4⟩
 obtain ⟨i2, e6, hm⟩ := aI hm
 refine cD e6 (fun (s : (Bool × Int)) f w => match s with | (a8, b2) => f 2 = i64 y ∧ f 3 = Value.func (.func 251) #[] #[Value.pointer (some ⟨b13, 0, none⟩), bZ a14 k15] ∧ f 4 = Value.pointer (some ⟨b3, 0, none⟩) ∧ f 13 = Value.slice b0 a3.length b1 ∧ f 14 = i64 (a3.length : Int) ∧ f 15 = i64 b2 ∧ aN G K (aT 63 K b0 b1 a3 :: box b3 119 [i64 o.t.States, i64 o.t.Initial, Value.slice a1 o.t.Labels.length c2, Value.slice a4 o.t.Edges.length c5, i64 o.p.States, i64 o.p.Initial, Value.slice a7 o.p.Labels.length c8, Value.slice a10 o.p.Edges.length c11] :: box b13 4 [Value.bool a8] :: L) w) ?_ ?_
 ·exact ⟨rfl, rfl, rfl, rfl, rfl, rfl, e3⟩
 ·rintro ⟨a8, b2⟩ d1 f i3 a0 e7 ⟨b4, b5, b6, c3, c4, b7, b8⟩
  replace a0 : iY o y do_c1_c0_c0_ a3 a8 b2 = some d1 := a0
  unfold iY at a0
  refine aH (aB (aC (cE b7 c4) (aF (aA (aH ?_)))))
  rcases aJ a0 with ⟨c6, a0⟩ | ⟨c6, a0⟩
  ·refine aO c6 rfl (aX (aA (aH (bC (fun f w => ∃ (b9 : Bool), kF b2 b9 = some d1 ∧ f 2 = i64 y ∧ f 3 = Value.func (.func 251) #[] #[Value.pointer (some ⟨b13, 0, none⟩), bZ a14 k15] ∧ f 4 = Value.pointer (some ⟨b3, 0, none⟩) ∧ f 13 = Value.slice b0 a3.length b1 ∧ f 14 = i64 (a3.length : Int) ∧ f 15 = i64 b2 ∧ aN G K (aT 63 K b0 b1 a3 :: box b3 119 [i64 o.t.States, i64 o.t.Initial, Value.slice a1 o.t.Labels.length c2, Value.slice a4 o.t.Edges.length c5, i64 o.p.States, i64 o.p.Initial, Value.slice a7 o.p.Labels.length c8, Value.slice a10 o.p.Edges.length c11] :: box b13 4 [Value.bool b9] :: L) w) ?_ ?_))))
   ·rintro f i4 ⟨b9, a0, e8, e9, f0, f1, f2, f3, f4⟩
    unfold kF at a0
    exact aA (aB (aC (cI f3 rfl) (aC (aD (v := i64 (wr (b2 + 1))) rfl) (aF (aA ⟨(b9, wr (b2 + 1)), (Option.some.inj a0).symm, e8, e9, f0, f1, f2, rfl, f4⟩)))))
   refine aH (aB ?_)
   obtain ⟨a2, c7, a0⟩ := aI a0
   have f5 := dL b8 (i := 0) rfl c7
   refine aC (eT cR rfl f5 c3 rfl b7 c7) (aC (aCN (t := 0) (vs := [i64 a2.From, i64 a2.Label, i64 a2.To]) qC b8 (i := 0) rfl c7 rfl rfl rfl rfl) (cG (vs := [i64 0, i64 0, i64 0]) Tryz.zeroValue63 b8 rfl (fun d2 i5 f6 => (cC (i := 0) (ns := [i64 a2.From, i64 a2.Label, i64 a2.To]) (us := [i64 a2.From, i64 a2.Label, i64 a2.To]) Tryz.sizeOf63 f6 rfl rfl rfl rfl rfl (dT rfl) rfl rfl (fun d3 (c0 : aN G K (box d2 63 [i64 a2.From, i64 a2.Label, i64 a2.To] :: aT 63 K b0 b1 a3 :: box b3 119 [i64 o.t.States, i64 o.t.Initial, Value.slice a1 o.t.Labels.length c2, Value.slice a4 o.t.Edges.length c5, i64 o.p.States, i64 o.p.Initial, Value.slice a7 o.p.Labels.length c8, Value.slice a10 o.p.Edges.length c11] :: box b13 4 [Value.bool a8] :: L) d3) => (aF (aA (aH (aB (aC (bI (t' := 1) fP rfl rfl) (aC (cA cM c0 (i := 0) rfl rfl rfl) (aC (kC rfl rfl) (aF (aA ?_))))))))))))))
   rcases aJ a0 with ⟨c9, a0⟩ | ⟨c9, a0⟩
   ·refine aO c9 rfl (aB (aC (aD b5) (aC (bI (t' := 2) iU rfl rfl) (aC (cA cM c0 (i := 0) rfl rfl rfl) (aC (aD b4) ?_)))))
    have f7 : aN G K (box b13 4 [Value.bool a8] :: box d2 63 [i64 a2.From, i64 a2.Label, i64 a2.To] :: aT 63 K b0 b1 a3 :: box b3 119 [i64 o.t.States, i64 o.t.Initial, Value.slice a1 o.t.Labels.length c2, Value.slice a4 o.t.Edges.length c5, i64 o.p.States, i64 o.p.Initial, Value.slice a7 o.p.Labels.length c8, Value.slice a10 o.p.Edges.length c11] :: L) d3 := (aN.arr 4 [3, 0, 1, 2] c0 rfl)
    obtain ⟨f8, f9, a0⟩ := aI a0
    refine kE (vs := [i64 a2.To, i64 y]) (caps := [Value.pointer (some ⟨b13, 0, none⟩), bZ a14 k15]) (us := [i64 a2.To, i64 y, Value.pointer (some ⟨b13, 0, none⟩), bZ a14 k15]) rfl Tryz.call251 rfl rfl (vG f7 h16 h19 h22 h25 f9) ?_
    rintro _ i6 ⟨rfl, g0⟩
    exact aF (bG (aA ⟨f8, a0, b4, b5, b6, c3, c4, b7, (aN.arr 4 [2, 3, 0] g0 rfl)⟩))
   ·refine aM c9 rfl ?_
    obtain ⟨i7, a9, d4, g1, g2⟩ := aN.lendB (i := 0) c0 rfl
    obtain ⟨d5, a6, d6, d7, g3⟩ := aN.lendB (i := 1) g1 rfl
    refine gV (C := fun w' => ∃ L', aN G d5 L' w') [(0, 0), (1, 0), (2, 0), (3, 0), (4, 0), (5, 0), (6, 0), (7, 0), (8, 0), (9, 0), (10, 0), (11, 0), (12, 0), (13, 1), (14, 1)] bR (by kernel_rfl) (fun _ hg => ⟨_, aN.mono d7 hg⟩) (fun i8 g4 => ?_)
    have a5 := aN.mono d7 g4
    refine cL rfl (fun _ _ => aD b5) (cL rfl (fun _ _ => bI (t' := 2) iU rfl rfl) (cL rfl (fun _ ⟨_, a5⟩ => bL (t := 2) cM a5 (d4.mono a6) rfl rfl) (cL rfl (fun _ _ => bI (t' := 4) aAv b6 rfl) (cL rfl (fun _ ⟨_, a5⟩ => fO (t := 4) (vs := [i64 o.p.States, i64 o.p.Initial, Value.slice a7 o.p.Labels.length c8, Value.slice a10 o.p.Edges.length c11]) gT a5 d6 rfl rfl rfl) (cL rfl (fun _ _ => aD b4) (cL rfl (fun _ _ => bI (t' := 0) oJ b6 rfl) (cL rfl (fun _ _ => bI (t' := 2) gS rfl rfl) (cL rfl (fun _ ⟨_, a5⟩ => bL (t := 2) nY a5 d6 rfl rfl) (cL rfl (fun _ _ => bI (t' := 1) fP rfl rfl) (cL rfl (fun _ ⟨_, a5⟩ => bL (t := 1) cM a5 (d4.mono a6) rfl rfl) ?_))))))))))
    obtain ⟨g5, d8, a0⟩ := aI a0
    refine cL rfl (fun _ _ => cU cQ rfl (h3.mono (Hp.le_trans a9 a6)) rfl rfl rfl d8) ?_
    obtain ⟨i9, g6, g7⟩ := bX.el (sz := 1) rfl h3 d8
    cases g7
    refine cL rfl (fun _ ⟨_, a5⟩ => bL (t := 0) oI a5 (g6.mono (Hp.le_trans a9 a6)) rfl rfl) (oB rfl ?_)
    obtain ⟨d9, g8, a0⟩ := aI a0
    refine aW (vs := [Value.agg #[i64 o.p.States, i64 o.p.Initial, Value.slice a7 o.p.Labels.length c8, Value.slice a10 o.p.Edges.length c11], i64 y, cF g5]) Tryz.call135 rfl (xC a5 (h9.mono (Hp.le_trans a9 a6)) (h12.mono (Hp.le_trans a9 a6)) g8) ?_
    rintro _ g9 ⟨rfl, e0⟩
    refine aF (aA ⟨⟨_, e0⟩, ?_⟩)
    refine oB rfl ?_
    have h0 : aN G d5 (box b13 4 [Value.bool a8] :: aT 63 K b0 b1 a3 :: L) g9 := (aN.arr 2 [1, 0] e0 rfl)
    obtain ⟨h1, h2, a0⟩ := aI a0
    refine kE (vs := [i64 a2.To, i64 d9]) (caps := [Value.pointer (some ⟨b13, 0, none⟩), bZ a14 k15]) (us := [i64 a2.To, i64 d9, Value.pointer (some ⟨b13, 0, none⟩), bZ a14 k15]) rfl Tryz.call251 rfl rfl (vG h0 (h16.mono (Hp.le_trans a9 a6)) (h19.mono (Hp.le_trans a9 a6)) (h22.mono (Hp.le_trans a9 a6)) (h25.mono (Hp.le_trans a9 a6)) h2) ?_
    rintro _ j0 ⟨rfl, e1⟩
    refine aF (aA ⟨⟨_, e1⟩, ?_⟩)
    refine pS ?_
    have h4 := g3 _ _ e1
    have h5 := g2 _ _ h4
    exact bG (aA ⟨h1, a0, b4, b5, b6, c3, c4, b7, (aN.arr 4 [3, 1, 2] h5 rfl)⟩)
  ·refine aM c6 rfl (bY (aY (aY ?_)))
   have h7 := e7 _ (Option.some.inj a0).symm
   subst h7
   have hm : (mV a8) = some R := hm
   exact bO (aA ⟨a8, hm, (aN.arr 2 [] b8 rfl)⟩)
theorem aCC {o : cO} {x_ : Int} {y : Int} {k14 : Nat} {is_c0_c0_ : (List (List Bool))} {k17 : Nat} {R : Bool} (hs : aN G K (L) w) (h3 : bX K a1 c2 o.t.Labels) (h6 : bX K a4 c5 o.t.Edges) (h9 : bX K a7 c8 o.p.Labels) (h12 : bX K a10 c11 o.p.Edges) (h15 : fN K a13 k14 [Value.func (.func 249) #[] #[bZ a16 k17]]) (h18 : fN K a16 k17 [Value.slice a19 is_c0_c0_.length c20]) (h21 : bX K a19 c20 is_c0_c0_) (hm : vA o x_ y is_c0_c0_ = some R) :
  Calls Tryz.prog 222 ([Value.agg #[i64 o.t.States, i64 o.t.Initial, Value.slice a1 o.t.Labels.length c2, Value.slice a4 o.t.Edges.length c5, i64 o.p.States, i64 o.p.Initial, Value.slice a7 o.p.Labels.length c8, Value.slice a10 o.p.Edges.length c11], i64 x_, i64 y, Value.func (.func 223) #[] #[bZ a13 k14]] : List Value).toArray w (fW fun v w' => v = Value.bool R ∧ aN G K (L) w') := by
 refine aU Tryz.func222 rfl (by kernel_rfl) (by show (4 : Nat) ≤ 16; decide) ?_
 unfold vA at hm
 refine aH (aB (dU (v := Value.agg #[i64 o.t.States, i64 o.t.Initial, Value.slice a1 o.t.Labels.length c2, Value.slice a4 o.t.Edges.length c5, i64 o.p.States, i64 o.p.Initial, Value.slice a7 o.p.Labels.length c8, Value.slice a10 o.p.Edges.length c11]) (vs := [i64 o.t.States, i64 o.t.Initial, Value.slice a1 o.t.Labels.length c2, Value.slice a4 o.t.Edges.length c5, i64 o.p.States, i64 o.p.Initial, Value.slice a7 o.p.Labels.length c8, Value.slice a10 o.p.Edges.length c11]) hs rfl rfl (fun a8 c0 a9 => (dU (v := Value.func (.func 223) #[] #[bZ a13 k14]) (vs := [Value.func (.func 223) #[] #[bZ a13 k14]]) a9 rfl rfl (fun a2 c1 b0 => (aC (aG (v := Value.bool false) rfl) (aF (aA (aH (aB (cG (vs := [Value.bool false]) Tryz.zeroValue4 b0 rfl (fun a3 c3 b1 => (cC (i := 0) (ns := [Value.bool false]) (us := [Value.bool false]) Tryz.sizeOf4 b1 rfl rfl rfl rfl rfl (dT rfl) rfl rfl (fun b2 (a5 : aN G K (box a3 4 [Value.bool false] :: box a2 246 [Value.func (.func 223) #[] #[bZ a13 k14]] :: box a8 119 [i64 o.t.States, i64 o.t.Initial, Value.slice a1 o.t.Labels.length c2, Value.slice a4 o.t.Edges.length c5, i64 o.p.States, i64 o.p.Initial, Value.slice a7 o.p.Labels.length c8, Value.slice a10 o.p.Edges.length c11] :: L) b2) => (aF (aA (aH (aB (aC (dR (us := [i64 o.t.States, i64 o.t.Initial, Value.slice a1 o.t.Labels.length c2, Value.slice a4 o.t.Edges.length c5, i64 o.p.States, i64 o.p.Initial, Value.slice a7 o.p.Labels.length c8, Value.slice a10 o.p.Edges.length c11]) aAX a5 (i := 2) rfl rfl rfl rfl) (aC (aD (v := i64 x_) rfl) (aC (aD (v := i64 y) rfl) (aC (kU (vs := [Value.pointer (some ⟨a3, 0, none⟩), Value.pointer (some ⟨a2, 0, none⟩)]) rfl) ?_))))))))))))))))))))))
 obtain ⟨c4, a0, b3, b4, b5⟩ := aN.lendB (i := 1) a5 rfl
 obtain ⟨b6, b7, hm⟩ := aI hm
 refine aW (vs := [Value.agg #[i64 o.t.States, i64 o.t.Initial, Value.slice a1 o.t.Labels.length c2, Value.slice a4 o.t.Edges.length c5, i64 o.p.States, i64 o.p.Initial, Value.slice a7 o.p.Labels.length c8, Value.slice a10 o.p.Edges.length c11], i64 x_, i64 y, Value.func (.func 251) #[] #[Value.pointer (some ⟨a3, 0, none⟩), bZ (some ⟨a2, 0, none⟩) 0]]) Tryz.call250 rfl (aBB b4 (h3.mono a0) (h6.mono a0) (h9.mono a0) (h12.mono a0) b3 (h15.mono a0) (h18.mono a0) (h21.mono a0) b7) ?_
 rintro _ c6 ⟨rfl, b8⟩
 have a6 := b5 _ _ b8
 refine aF (aA (aH (aB (aC (cA aBA a6 (i := 1) rfl rfl rfl) (aC (aG (v := Value.bool b6) rfl) (aF (aA ?_)))))))
 have b9 := Option.some.inj hm
 subst b9
 exact bB (aZ Tryz.results222 rfl ⟨rfl, (aN.arr 3 [] a6 rfl)⟩)
theorem aAl {x_ : Int} {y : Int} {has_c0_ : (List (List Bool))} {k2 : Nat} {p : cO} {k8 : Nat} {R : Bool} (hs : aN G K (L) w) (h3 : fN K a1 k2 [Value.slice a4 has_c0_.length c5]) (h6 : bX K a4 c5 has_c0_) (h9 : fN K a7 k8 [i64 p.t.States, i64 p.t.Initial, Value.slice a10 p.t.Labels.length c11, Value.slice a13 p.t.Edges.length c14, i64 p.p.States, i64 p.p.Initial, Value.slice a16 p.p.Labels.length c17, Value.slice a19 p.p.Edges.length c20]) (h12 : bX K a10 c11 p.t.Labels) (h15 : bX K a13 c14 p.t.Edges) (h18 : bX K a16 c17 p.p.Labels) (h21 : bX K a19 c20 p.p.Edges) (hm : kG x_ y has_c0_ p = some R) :
  Calls Tryz.prog 221 ([i64 x_, i64 y, Value.func (.func 249) #[] #[bZ a1 k2], bZ a7 k8] : List Value).toArray w (fW fun v w' => v = Value.bool R ∧ aN G K (L) w') := by
 refine aU Tryz.func221 rfl (by kernel_rfl) (by show (4 : Nat) ≤ 13; decide) ?_
 unfold kG at hm
 refine aH (aB (dU (v := Value.func (.func 249) #[] #[bZ a1 k2]) (vs := [Value.func (.func 249) #[] #[bZ a1 k2]]) hs rfl rfl (fun a2 b4 a3 => (aC (aG (v := Value.bool false) rfl) (aF (aA (aH (aB (aC (fO (t := 0) (vs := [i64 p.t.States, i64 p.t.Initial, Value.slice a10 p.t.Labels.length c11, Value.slice a13 p.t.Edges.length c14, i64 p.p.States, i64 p.p.Initial, Value.slice a16 p.p.Labels.length c17, Value.slice a19 p.p.Edges.length c20]) aAX a3 h9 rfl rfl rfl) (aC (aD (v := i64 x_) rfl) (aC (aD (v := i64 y) rfl) (aC (kU (vs := [Value.pointer (some ⟨a2, 0, none⟩)]) rfl) ?_))))))))))))
 obtain ⟨b5, a0, a5, a6, a8⟩ := aN.lendB (i := 0) a3 rfl
 obtain ⟨a9, b0, hm⟩ := aI hm
 refine aW (vs := [Value.agg #[i64 p.t.States, i64 p.t.Initial, Value.slice a10 p.t.Labels.length c11, Value.slice a13 p.t.Edges.length c14, i64 p.p.States, i64 p.p.Initial, Value.slice a16 p.p.Labels.length c17, Value.slice a19 p.p.Edges.length c20], i64 x_, i64 y, Value.func (.func 223) #[] #[bZ (some ⟨a2, 0, none⟩) 0]]) Tryz.call222 rfl (aCC a6 (h12.mono a0) (h15.mono a0) (h18.mono a0) (h21.mono a0) a5 (h3.mono a0) (h6.mono a0) b0) ?_
 rintro _ b6 ⟨rfl, b1⟩
 have b2 := a8 _ _ b1
 refine aC (aG (v := Value.bool a9) rfl) (aF (aA ?_))
 have b3 := Option.some.inj hm
 subst b3
 exact bB (aZ Tryz.results221 rfl ⟨rfl, (aN.arr 1 [] b2 rfl)⟩)
theorem aBf {o : cO} {begin : Bool} {change_c0_ : cO} {k14 : Nat} {R : (List (List Bool))} (hs : aN G K (L) w) (h3 : bX K a1 c2 o.t.Labels) (h6 : bX K a4 c5 o.t.Edges) (h9 : bX K a7 c8 o.p.Labels) (h12 : bX K a10 c11 o.p.Edges) (h15 : fN K a13 k14 [i64 change_c0_.t.States, i64 change_c0_.t.Initial, Value.slice a16 change_c0_.t.Labels.length c17, Value.slice a19 change_c0_.t.Edges.length c20, i64 change_c0_.p.States, i64 change_c0_.p.Initial, Value.slice a22 change_c0_.p.Labels.length c23, Value.slice a25 change_c0_.p.Edges.length c26]) (h18 : bX K a16 c17 change_c0_.t.Labels) (h21 : bX K a19 c20 change_c0_.t.Edges) (h24 : bX K a22 c23 change_c0_.p.Labels) (h27 : bX K a25 c26 change_c0_.p.Edges) (hm : pV o begin change_c0_ = some R) :
  Calls Tryz.prog 220 ([Value.agg #[i64 o.t.States, i64 o.t.Initial, Value.slice a1 o.t.Labels.length c2, Value.slice a4 o.t.Edges.length c5, i64 o.p.States, i64 o.p.Initial, Value.slice a7 o.p.Labels.length c8, Value.slice a10 o.p.Edges.length c11], Value.bool begin, Value.func (.func 221) #[] #[bZ a13 k14]] : List Value).toArray w (fW fun v w' => ∃ (ra0 : Option Addr) (rc0 : Nat) (rh1 : List (Dp.Hd (List Bool))), v = Value.slice ra0 R.length rc0 ∧ List.length rh1 = List.length R ∧ aN G K (aT 87 K ra0 rc0 (bT rh1 R) :: rows [4] rh1 R :: L) w') := by
 refine aU Tryz.func220 rfl (by kernel_rfl) (by show (3 : Nat) ≤ 74; decide) ?_
 unfold pV at hm
 refine aH (aB (dU (v := Value.agg #[i64 o.t.States, i64 o.t.Initial, Value.slice a1 o.t.Labels.length c2, Value.slice a4 o.t.Edges.length c5, i64 o.p.States, i64 o.p.Initial, Value.slice a7 o.p.Labels.length c8, Value.slice a10 o.p.Edges.length c11]) (vs := [i64 o.t.States, i64 o.t.Initial, Value.slice a1 o.t.Labels.length c2, Value.slice a4 o.t.Edges.length c5, i64 o.p.States, i64 o.p.Initial, Value.slice a7 o.p.Labels.length c8, Value.slice a10 o.p.Edges.length c11]) hs rfl rfl (fun c3 y9 k9 => (aC (aG (v := Value.slice none 0 0) rfl) (aF (aA (aH (aB (aC (bI (t' := 0) oJ rfl rfl) (aC (bI (t' := 0) fX rfl rfl) (aC (cA cM k9 (i := 0) rfl rfl rfl) ?_)))))))))))
 obtain ⟨a0, l0, hm⟩ := aI hm
 refine WO_mkD (tys := [4]) (hd := ((none, 0) : Dp.Hd (List Bool))) qD ez_87 rfl rfl k9 rfl rfl rfl l0 rfl (pcs_nil _) ?_
 intro a2 n9 (o0 : aN G K (aT 87 K a2 a0.length (bT (List.replicate o.t.States.toNat ((none, 0) : Dp.Hd (List Bool))) a0) :: rows [4] (List.replicate o.t.States.toNat ((none, 0) : Dp.Hd (List Bool))) a0 :: box c3 119 [i64 o.t.States, i64 o.t.Initial, Value.slice a1 o.t.Labels.length c2, Value.slice a4 o.t.Edges.length c5, i64 o.p.States, i64 o.p.Initial, Value.slice a7 o.p.Labels.length c8, Value.slice a10 o.p.Edges.length c11] :: L) n9)
 refine cG (vs := [Value.slice none 0 0]) Tryz.zeroValue157 o0 rfl (fun a3 z0 o1 => (cC (i := 0) (ns := [Value.slice a2 a0.length a0.length]) (us := [Value.slice a2 a0.length a0.length]) Tryz.sizeOf157 o1 rfl rfl rfl rfl rfl (dT rfl) rfl rfl ?_))
 intro o2 (l1 : aN G K (box a3 157 [Value.slice a2 a0.length a0.length] :: aT 87 K a2 a0.length (bT (List.replicate o.t.States.toNat ((none, 0) : Dp.Hd (List Bool))) a0) :: rows [4] (List.replicate o.t.States.toNat ((none, 0) : Dp.Hd (List Bool))) a0 :: box c3 119 [i64 o.t.States, i64 o.t.Initial, Value.slice a1 o.t.Labels.length c2, Value.slice a4 o.t.Edges.length c5, i64 o.p.States, i64 o.p.Initial, Value.slice a7 o.p.Labels.length c8, Value.slice a10 o.p.Edges.length c11] :: L) o2)
 refine aF (aA (aH (aH (aB (aC (cA qE l1 (i := 0) rfl rfl rfl) (aC (bU (len := a0.length) qD rfl) (aC (aD (v := i64 0) rfl) (aF (aA (bC (fun f w => ∃ (d7 : List (List Bool)) (e2 : List (Dp.Hd (List Bool))), jD begin change_c0_ d7 = some R ∧ f 1 = Value.bool begin ∧ f 2 = Value.func (.func 221) #[] #[bZ a13 k14] ∧ f 7 = Value.pointer (some ⟨a3, 0, none⟩) ∧ List.length e2 = List.length d7 ∧ aN G K (box a3 157 [Value.slice a2 d7.length a0.length] :: aT 87 K a2 a0.length (bT e2 d7) :: rows [4] e2 d7 :: L) w) ?_ ?_))))))))))
 ·rintro f z1 ⟨d7, e2, hm, o3, o4, l2, o5, o6⟩
  unfold jD at hm
  refine aA (aH (aB (aC (kU (vs := [Value.pointer (some ⟨a3, 0, none⟩)]) (lst1 l2)) (aC (aG (v := Value.func (.func 249) #[] #[Value.pointer (some ⟨a3, 0, none⟩)]) rfl) (aF (aA (aH (aH (aB (aC (aG (v := Value.bool true) rfl) (aF (aA (bC (fun f w => ∃ (d0 : List (List Bool)) (e3 : List (Dp.Hd (List Bool))), jO d0 = some R ∧ f 7 = Value.pointer (some ⟨a3, 0, none⟩) ∧ List.length e3 = List.length d0 ∧ aN G K (box a3 157 [Value.slice a2 d0.length a0.length] :: aT 87 K a2 a0.length (bT e3 d0) :: rows [4] e3 d0 :: L) w) ?_ ?_)))))))))))))
  ·rintro f z2 ⟨d0, e3, hm, o7, o8, l3⟩
   unfold jO at hm
   refine aA (aH (aB (aC (cA qE l3 (i := 0) rfl o7 rfl) (aC (aG (v := Value.slice a2 d0.length a0.length) rfl) (aF (aA ?_))))))
   have o9 := Option.some.inj hm
   subst o9
   exact bB (aZ Tryz.results220 rfl ⟨a2, a0.length, e3, rfl, o8, (aN.arr 1 [] l3 rfl)⟩)
  obtain ⟨z3, p0, hm⟩ := aI hm
  refine cD p0 (fun (s : (List (List Bool) × Bool)) f w => match s with | (b1, h5) => ∃ (d8 : List (Dp.Hd (List Bool))), f 1 = Value.bool begin ∧ f 2 = Value.func (.func 221) #[] #[bZ a13 k14] ∧ f 7 = Value.pointer (some ⟨a3, 0, none⟩) ∧ f 9 = Value.func (.func 249) #[] #[Value.pointer (some ⟨a3, 0, none⟩)] ∧ f 10 = Value.bool h5 ∧ List.length d8 = List.length b1 ∧ aN G K (box a3 157 [Value.slice a2 b1.length a0.length] :: aT 87 K a2 a0.length (bT d8 b1) :: rows [4] d8 b1 :: L) w) ?_ ?_
  ·exact ⟨e2, o3, o4, l2, rfl, rfl, o5, o6⟩
  ·rintro ⟨b1, h5⟩ f9 f z4 a9 p1 ⟨d8, p2, p3, h7, p4, p5, l4, h8⟩
   replace a9 : jC begin change_c0_ b1 h5 = some f9 := a9
   unfold jC at a9
   refine aH (aH (aB (aC (aD p5) (aF (aA ?_)))))
   rcases aJ a9 with ⟨i0, a9⟩ | ⟨i0, a9⟩
   ·refine aO i0 rfl (aX (aA (bC (fun f w => ∃ (d1 : List (List Bool)) (g0 : Bool) (e4 : List (Dp.Hd (List Bool))), qQ d1 g0 = some f9 ∧ f 1 = Value.bool begin ∧ f 2 = Value.func (.func 221) #[] #[bZ a13 k14] ∧ f 7 = Value.pointer (some ⟨a3, 0, none⟩) ∧ f 9 = Value.func (.func 249) #[] #[Value.pointer (some ⟨a3, 0, none⟩)] ∧ f 10 = Value.bool g0 ∧ List.length e4 = List.length d1 ∧ aN G K (box a3 157 [Value.slice a2 d1.length a0.length] :: aT 87 K a2 a0.length (bT e4 d1) :: rows [4] e4 d1 :: L) w) ?_ ?_)))
    ·rintro f z5 ⟨d1, g0, e4, a9, p6, p7, p8, p9, q0, q1, q2⟩
     unfold qQ at a9
     exact aA ⟨(d1, g0), (Option.some.inj a9).symm, e4, p6, p7, p8, p9, q0, q1, q2⟩
    refine aH (aB (aC (aG (v := Value.bool false) rfl) (aF (aA (aH (aB (aC (cA qE h8 (i := 0) rfl h7 rfl) (aC (bU (len := b1.length) qD rfl) (aC (aD (v := i64 0) rfl) (aF (aA (bC (fun f w => ∃ (d2 : List (List Bool)) (g1 : Bool) (e5 : List (Dp.Hd (List Bool))), lZ d2 g1 = some f9 ∧ f 1 = Value.bool begin ∧ f 2 = Value.func (.func 221) #[] #[bZ a13 k14] ∧ f 7 = Value.pointer (some ⟨a3, 0, none⟩) ∧ f 9 = Value.func (.func 249) #[] #[Value.pointer (some ⟨a3, 0, none⟩)] ∧ f 10 = Value.bool g1 ∧ List.length e5 = List.length d2 ∧ aN G K (box a3 157 [Value.slice a2 d2.length a0.length] :: aT 87 K a2 a0.length (bT e5 d2) :: rows [4] e5 d2 :: L) w) ?_ ?_))))))))))))
    ·rintro f z6 ⟨d2, g1, e5, a9, q3, q4, q5, q6, q7, q8, q9⟩
     unfold lZ at a9
     exact bG (aA ⟨d2, g1, e5, a9, q3, q4, q5, q6, q7, q8, q9⟩)
    obtain ⟨z7, r0, a9⟩ := aI a9
    refine cD r0 (fun (s : (List (List Bool) × Bool × Int)) f w => match s with | (c4, e6, a6) => ∃ (d9 : List (Dp.Hd (List Bool))), f 1 = Value.bool begin ∧ f 2 = Value.func (.func 221) #[] #[bZ a13 k14] ∧ f 7 = Value.pointer (some ⟨a3, 0, none⟩) ∧ f 9 = Value.func (.func 249) #[] #[Value.pointer (some ⟨a3, 0, none⟩)] ∧ f 10 = Value.bool e6 ∧ f 35 = i64 (b1.length : Int) ∧ f 36 = i64 a6 ∧ List.length d9 = List.length c4 ∧ aN G K (box a3 157 [Value.slice a2 c4.length a0.length] :: aT 87 K a2 a0.length (bT d9 c4) :: rows [4] d9 c4 :: L) w) ?_ ?_
    ·exact ⟨d8, p2, p3, h7, p4, rfl, rfl, rfl, l4, h8⟩
    ·rintro ⟨c4, e6, a6⟩ g2 f z8 a8 r1 ⟨d9, l5, l6, i1, l7, l8, l9, i2, e7, e8⟩
     replace a8 : iK begin change_c0_ b1 c4 e6 a6 = some g2 := a8
     unfold iK at a8
     refine aH (aB (aC (cE i2 l9) (aF (aA (aH ?_)))))
     rcases aJ a8 with ⟨i3, a8⟩ | ⟨i3, a8⟩
     ·refine aO i3 rfl (aX (aA (aH (bC (fun f w => ∃ (d3 : List (List Bool)) (g3 : Bool) (e9 : List (Dp.Hd (List Bool))), qR a6 d3 g3 = some g2 ∧ f 1 = Value.bool begin ∧ f 2 = Value.func (.func 221) #[] #[bZ a13 k14] ∧ f 7 = Value.pointer (some ⟨a3, 0, none⟩) ∧ f 9 = Value.func (.func 249) #[] #[Value.pointer (some ⟨a3, 0, none⟩)] ∧ f 10 = Value.bool g3 ∧ f 35 = i64 (b1.length : Int) ∧ f 36 = i64 a6 ∧ List.length e9 = List.length d3 ∧ aN G K (box a3 157 [Value.slice a2 d3.length a0.length] :: aT 87 K a2 a0.length (bT e9 d3) :: rows [4] e9 d3 :: L) w) ?_ ?_))))
      ·rintro f z9 ⟨d3, g3, e9, a8, r2, r3, r4, r5, r6, r7, r8, r9, s0⟩
       unfold qR at a8
       exact aA (aB (aC (cI r8 rfl) (aC (aD (v := i64 (wr (a6 + 1))) rfl) (aF (aA ⟨(d3, g3, wr (a6 + 1)), (Option.some.inj a8).symm, e9, r2, r3, r4, r5, r6, r7, rfl, r9, s0⟩)))))
      refine aH (aB (aC (aD i2) (aC (aG (v := i64 a6) rfl) (aF (aA (aH (aB (aC (cA qE e8 (i := 0) rfl i1 rfl) (aC (aD (v := i64 a6) rfl) ?_)))))))))
      obtain ⟨f0, g4, a8⟩ := aI a8
      obtain ⟨⟨a00, a01⟩, m0⟩ := aAh e7 g4
      have i4 := dL e8 (i := 1) rfl (lU e7 g4 m0)
      refine aC (eT qD rfl i4 rfl rfl rfl g4) (aC (kD (t := 0) aDo e8 (i := 1) rfl (lU e7 g4 m0) rfl rfl rfl) (aC (bU (len := f0.length) iV rfl) (aC (aD (v := i64 0) rfl) (aF (aA (bC (fun f w => ∃ (d4 : List (List Bool)) (g5 : Bool) (f1 : List (Dp.Hd (List Bool))), mA a6 d4 g5 = some g2 ∧ f 1 = Value.bool begin ∧ f 2 = Value.func (.func 221) #[] #[bZ a13 k14] ∧ f 7 = Value.pointer (some ⟨a3, 0, none⟩) ∧ f 9 = Value.func (.func 249) #[] #[Value.pointer (some ⟨a3, 0, none⟩)] ∧ f 10 = Value.bool g5 ∧ f 35 = i64 (b1.length : Int) ∧ f 36 = i64 a6 ∧ List.length f1 = List.length d4 ∧ aN G K (box a3 157 [Value.slice a2 d4.length a0.length] :: aT 87 K a2 a0.length (bT f1 d4) :: rows [4] f1 d4 :: L) w) ?_ ?_))))))
      ·rintro f a02 ⟨d4, g5, f1, a8, s1, s2, s3, s4, s5, s6, s7, s8, s9⟩
       unfold mA at a8
       exact bG (aA ⟨d4, g5, f1, a8, s1, s2, s3, s4, s5, s6, s7, s8, s9⟩)
      obtain ⟨a03, t0, a8⟩ := aI a8
      refine cD t0 (fun (s : (List (List Bool) × Bool × Int)) f w => match s with | (b4, c6, b2) => ∃ (b3 : List (Dp.Hd (List Bool))), f 1 = Value.bool begin ∧ f 2 = Value.func (.func 221) #[] #[bZ a13 k14] ∧ f 7 = Value.pointer (some ⟨a3, 0, none⟩) ∧ f 9 = Value.func (.func 249) #[] #[Value.pointer (some ⟨a3, 0, none⟩)] ∧ f 10 = Value.bool c6 ∧ f 11 = i64 a6 ∧ f 35 = i64 (b1.length : Int) ∧ f 36 = i64 a6 ∧ f 43 = i64 (f0.length : Int) ∧ f 44 = i64 b2 ∧ List.length b3 = List.length b4 ∧ aN G K (box a3 157 [Value.slice a2 b4.length a0.length] :: aT 87 K a2 a0.length (bT b3 b4) :: rows [4] b3 b4 :: L) w) ?_ ?_
      ·exact ⟨d9, l5, l6, i1, l7, l8, rfl, l9, i2, rfl, rfl, e7, e8⟩
      ·rintro ⟨b4, c6, b2⟩ i5 f a04 a5 t1 ⟨b3, g6, g7, g8, g9, i6, h0, i7, i8, i9, h1, c1, d5⟩
       replace a5 : iJ begin change_c0_ a6 f0 b4 c6 b2 = some i5 := a5
       unfold iJ at a5
       refine aH (aB (aC (cE h1 i9) (aF (aA (aH ?_)))))
       rcases aJ a5 with ⟨j0, a5⟩ | ⟨j0, a5⟩
       ·refine aO j0 rfl (aX (aA (aH (bC (fun f w => ∃ (d6 : List (List Bool)) (h2 : Bool) (f2 : List (Dp.Hd (List Bool))), jP b2 d6 h2 = some i5 ∧ f 1 = Value.bool begin ∧ f 2 = Value.func (.func 221) #[] #[bZ a13 k14] ∧ f 7 = Value.pointer (some ⟨a3, 0, none⟩) ∧ f 9 = Value.func (.func 249) #[] #[Value.pointer (some ⟨a3, 0, none⟩)] ∧ f 10 = Value.bool h2 ∧ f 11 = i64 a6 ∧ f 35 = i64 (b1.length : Int) ∧ f 36 = i64 a6 ∧ f 43 = i64 (f0.length : Int) ∧ f 44 = i64 b2 ∧ List.length f2 = List.length d6 ∧ aN G K (box a3 157 [Value.slice a2 d6.length a0.length] :: aT 87 K a2 a0.length (bT f2 d6) :: rows [4] f2 d6 :: L) w) ?_ ?_))))
        ·rintro f a05 ⟨d6, h2, f2, a5, t2, t3, t4, t5, t6, t7, t8, t9, u0, u1, u2, u3⟩
         unfold jP at a5
         exact aA (aB (aC (cI u1 rfl) (aC (aD (v := i64 (wr (b2 + 1))) rfl) (aF (aA ⟨(d6, h2, wr (b2 + 1)), (Option.some.inj a5).symm, f2, t2, t3, t4, t5, t6, t7, t8, t9, u0, rfl, u2, u3⟩)))))
        refine aH (aB (aC (aD h1) (aC (aG (v := i64 b2) rfl) (aF (aA (aH (cH (fun f w => ∃ (j1 : Bool), jQ begin a6 b4 c6 b2 j1 = some i5 ∧ f 1 = Value.bool begin ∧ f 2 = Value.func (.func 221) #[] #[bZ a13 k14] ∧ f 7 = Value.pointer (some ⟨a3, 0, none⟩) ∧ f 9 = Value.func (.func 249) #[] #[Value.pointer (some ⟨a3, 0, none⟩)] ∧ f 10 = Value.bool c6 ∧ f 11 = i64 a6 ∧ f 12 = i64 b2 ∧ f 35 = i64 (b1.length : Int) ∧ f 36 = i64 a6 ∧ f 43 = i64 (f0.length : Int) ∧ f 44 = i64 b2 ∧ f 62 = Value.bool j1 ∧ aN G K (box a3 157 [Value.slice a2 b4.length a0.length] :: aT 87 K a2 a0.length (bT b3 b4) :: rows [4] b3 b4 :: L) w) ?_ ?_)))))))
        ·rintro f a06 ⟨j1, a5, j2, m1, j3, m2, u4, j4, u5, m3, m4, m5, m6, m7, f3⟩
         unfold jQ at a5
         refine aA ?_
         rcases aJ a5 with ⟨j5, a5⟩ | ⟨j5, a5⟩
         ·refine aO j5 m7 (aH (aB (aC (cA qE f3 (i := 0) rfl j3 rfl) (aC (aD j4) ?_))))
          obtain ⟨a07, f4, a5⟩ := aI a5
          refine aC (eT qD rfl i4 rfl rfl rfl f4) ?_
          obtain ⟨⟨a08, a09⟩, j6⟩ := aAh c1 f4
          refine aC (kD (t := 0) aDo f3 (i := 1) rfl (lU c1 f4 j6) rfl rfl rfl) (aC (aD u5) (aC (aD j2) (aC (dN rfl) ?_)))
          obtain ⟨a11, j7, a5⟩ := aI a5
          have u6 := dL (aN.rowOut (i := 2) f3 rfl j6 (aDk f4)) (i := 0) rfl j7
          refine aC (eT iV rfl u6 rfl rfl rfl j7) ?_
          obtain ⟨a12, u7, a5⟩ := aI a5
          obtain ⟨c7, j8, a5⟩ := aI a5
          refine WO_stR (i := 1) (t := 0) (ns := [Value.bool (!begin)]) (e' := (!begin : Bool)) Tryz.sizeOf4 f3 c1 rfl rfl j6 f4 rfl rfl rfl j7 u7 j8 rfl rfl (dT rfl) rfl rfl (fun j9 (u8 : aN G K (aT 87 K a2 a0.length (bT b3 c7) :: rows [4] b3 c7 :: box a3 157 [Value.slice a2 b4.length a0.length] :: L) j9) => ?_)
          have u9 : aN G K (aT 87 K a2 a0.length (bT b3 c7) :: rows [4] b3 c7 :: box a3 157 [Value.slice a2 c7.length a0.length] :: L) j9 := Eq.mp (congrArg (fun n => aN G K (aT 87 K a2 a0.length (bT b3 c7) :: rows [4] b3 c7 :: box a3 157 [Value.slice a2 n a0.length] :: L) j9) (gQ j8)) u8
          exact aF (aA (aB (aC (aG (v := Value.bool true) rfl) (aF (bG (aA ⟨c7, true, b3, a5, j2, m1, j3, m2, rfl, j4, m3, m4, m5, m6, (c1.trans (gQ j8)), (aN.arr 3 [2, 0, 1] u9 rfl)⟩))))))
         ·exact aM j5 m7 (aX (bG (aA ⟨b4, c6, b3, a5, j2, m1, j3, m2, u4, j4, m3, m4, m5, m6, c1, f3⟩)))
        refine aB (aC (cA qE d5 (i := 0) rfl g8 rfl) (aC (aD h0) ?_))
        obtain ⟨a14, f5, a5⟩ := aI a5
        refine aC (eT qD rfl i4 rfl rfl rfl f5) ?_
        obtain ⟨⟨a15, a17⟩, k0⟩ := aAh c1 f5
        refine aC (kD (t := 0) aDo d5 (i := 1) rfl (lU c1 f5 k0) rfl rfl rfl) (aC (aD (v := i64 b2) rfl) ?_)
        obtain ⟨v0, k1, a5⟩ := aI a5
        have v1 := dL (aN.rowOut (i := 2) d5 rfl k0 (aDk f5)) (i := 0) rfl k1
        refine aC (eT iV rfl v1 rfl rfl rfl k1) (aC (kD (t := 0) aBA (aN.rowOut (i := 2) d5 rfl k0 (aDk f5)) (i := 0) rfl k1 rfl rfl rfl) (aC (aD g6) (aC (R_eqlB Tryz.runUnderlying4 rfl rfl) (aC (aD (v := Value.bool (v0 == begin)) rfl) ?_))))
        rcases aJ a5 with ⟨b8, a5⟩ | ⟨b8, a5⟩
        ·refine bH (g := 56) b8 (by kernel_rfl) rfl (aC (aD g7) (bH (g := 56) b8 (by kernel_rfl) rfl (aC (aD h0) (bH (g := 56) b8 (by kernel_rfl) rfl (aC (aD (v := i64 b2) rfl) (bH (g := 56) b8 (by kernel_rfl) rfl (aC (aD g9) (bH (g := 56) b8 (by kernel_rfl) rfl ?_))))))))
         obtain ⟨a18, f6, v2, a20, v3, v4⟩ := aN.lendD' (i := 1) d5 c1 rfl rfl
         obtain ⟨a21, e0, v5, v6, v7⟩ := aN.lendB (i := 0) v3 rfl
         obtain ⟨m8, v8, a5⟩ := aI a5
         refine kE (vs := [i64 a6, i64 b2, Value.func (.func 249) #[] #[bZ (some ⟨a3, 0, none⟩) 0]]) (caps := [bZ a13 k14]) (us := [i64 a6, i64 b2, Value.func (.func 249) #[] #[bZ (some ⟨a3, 0, none⟩) 0], bZ a13 k14]) rfl Tryz.call221 rfl rfl (aAl v6 v5 (v2.mono e0) (h15.mono (Hp.le_trans f6 e0)) (h18.mono (Hp.le_trans f6 e0)) (h21.mono (Hp.le_trans f6 e0)) (h24.mono (Hp.le_trans f6 e0)) (h27.mono (Hp.le_trans f6 e0)) v8) ?_
         rintro _ a23 ⟨rfl, v9⟩
         have w0 := v7 _ _ v9
         have w1 := v4 _ _ w0
         exact aC (bK (v := Value.bool m8) b8 rfl rfl) (aF (aA ⟨m8, a5, g6, g7, g8, g9, i6, h0, rfl, i7, i8, i9, h1, rfl, (aN.arr 3 [2, 0, 1] w1 rfl)⟩))
        ·exact bA (g := 56) b8 (by kernel_rfl) rfl (bA (g := 56) b8 (by kernel_rfl) rfl (bA (g := 56) b8 (by kernel_rfl) rfl (bA (g := 56) b8 (by kernel_rfl) rfl (bA (g := 56) b8 (by kernel_rfl) rfl (aC (bM (v := Value.bool false) b8 rfl rfl) (aF (aA ⟨false, a5, g6, g7, g8, g9, i6, h0, rfl, i7, i8, i9, h1, rfl, d5⟩)))))))
       ·refine aM j0 rfl (bY (aY (aY ?_)))
        have w2 := t1 _ (Option.some.inj a5).symm
        subst w2
        have a8 : (mA a6 b4 c6) = some g2 := a8
        exact bO (aA ⟨b4, c6, b3, a8, g6, g7, g8, g9, i6, i7, i8, c1, d5⟩)
     ·refine aM i3 rfl (bY (aY (aY ?_)))
      have w3 := r1 _ (Option.some.inj a8).symm
      subst w3
      have a9 : (lZ c4 e6) = some f9 := a9
      exact bO (aA ⟨c4, e6, d9, a9, l5, l6, i1, l7, l8, e7, e8⟩)
   ·refine aM i0 rfl (bY (aY (aY ?_)))
    have w4 := p1 _ (Option.some.inj a9).symm
    subst w4
    have hm : (jO b1) = some R := hm
    exact bO (aA ⟨b1, d8, hm, h7, l4, h8⟩)
 obtain ⟨a24, w5, hm⟩ := aI hm
 refine cD w5 (fun (s : (List (List Bool) × Int)) f w => match s with | (b5, b6) => ∃ (b0 : List (Dp.Hd (List Bool))), f 1 = Value.bool begin ∧ f 2 = Value.func (.func 221) #[] #[bZ a13 k14] ∧ f 3 = Value.pointer (some ⟨c3, 0, none⟩) ∧ f 7 = Value.pointer (some ⟨a3, 0, none⟩) ∧ f 18 = i64 (a0.length : Int) ∧ f 19 = i64 b6 ∧ List.length b0 = List.length b5 ∧ aN G K (box a3 157 [Value.slice a2 b5.length a0.length] :: aT 87 K a2 a0.length (bT b0 b5) :: rows [4] b0 b5 :: box c3 119 [i64 o.t.States, i64 o.t.Initial, Value.slice a1 o.t.Labels.length c2, Value.slice a4 o.t.Edges.length c5, i64 o.p.States, i64 o.p.Initial, Value.slice a7 o.p.Labels.length c8, Value.slice a10 o.p.Edges.length c11] :: L) w) ?_ ?_
 ·exact ⟨(List.replicate o.t.States.toNat ((none, 0) : Dp.Hd (List Bool))), rfl, rfl, rfl, rfl, rfl, rfl, (aDR (hd := ((none, 0) : Dp.Hd (List Bool))) l0).2.1, l1⟩
 ·rintro ⟨b5, b6⟩ w6 f a26 b7 w7 ⟨b0, k2, m9, n0, k3, n1, k4, f7, n2⟩
  replace b7 : gW o begin a0 b5 b6 = some w6 := b7
  unfold gW at b7
  refine aH (aB (aC (cE k4 n1) (aF (aA (aH ?_)))))
  rcases aJ b7 with ⟨k5, b7⟩ | ⟨k5, b7⟩
  ·refine aO k5 rfl (aX (aA (aH (cK (aH (aB (aC (aD k4) (aC (aG (v := i64 b6) rfl) (aF (aA ?_))))))))))
   obtain ⟨a27, w8, w9, x0, x1⟩ := aN.lendB (i := 0) n2 rfl
   obtain ⟨n3, n4, x2, n5, x3⟩ := aN.lendB (i := 2) x0 rfl
   refine gV (C := fun w' => ∃ L', aN G n3 L' w') [(0, 0), (1, 0), (2, 0), (4, 0), (5, 0), (6, 0), (3, 1), (7, 1), (8, 0), (9, 2)] bR (by kernel_rfl) (fun _ hg => ⟨_, aN.mono n5 hg⟩) (fun a28 x4 => ?_)
   have f8 := aN.mono n5 x4
   refine cL rfl (fun _ ⟨_, f8⟩ => bL (t := 0) qE f8 (w9.mono n4) k3 rfl) (cL rfl (fun _ _ => aD (v := i64 b6) rfl) (cL rfl (fun _ _ => aD k2) (cL rfl (fun _ _ => bI (t' := 4) aAv n0 rfl) (cL rfl (fun _ _ => bI (t' := 4) fX rfl rfl) (cL rfl (fun _ ⟨_, f8⟩ => bL (t := 4) cM f8 x2 rfl rfl) (oB rfl (eN (Kt := K) (xs := ([begin] : List Bool)) (cs := [Value.bool begin]) (vs := [(0, Value.bool begin)]) iV ez_4 rfl rfl f8 rfl (by kernel_rfl) rfl rfl rfl ⟨rfl, trivial⟩ (fun e1 x5 (n6 : aN G n3 (aT 4 K e1 1 ([begin] : List Bool) :: aT 87 K a2 a0.length (bT b0 b5) :: rows [4] b0 b5 :: L) x5) => (aF (aA ⟨⟨_, n6⟩, ?_⟩))))))))))
   refine oB rfl ?_
   obtain ⟨a29, a30, x6, x7, x8⟩ := aN.lendS (i := 0) n6 (Hp.le_trans w8 n4) rfl
   obtain ⟨n7, x9, b7⟩ := aI b7
   refine aW (vs := [Value.slice e1 ([begin] : List Bool).length 1, i64 o.p.States]) Tryz.call57 rfl (lJ x7 x6 x9) ?_
   rintro _ y0 ⟨b9, c0, rfl, y1⟩
   have k6 := x8 _ _ y1
   refine aF (aA ⟨⟨_, k6⟩, ?_⟩)
   obtain ⟨a31, h4, b7⟩ := aI b7
   obtain ⟨⟨a32, a33⟩, n8⟩ := aAh f7 h4
   have y2 := dL k6 (i := 2) rfl (lU f7 h4 n8)
   refine cL rfl (fun _ _ => eT qD rfl y2 rfl rfl rfl h4) ?_
   have y3 := x3 _ _ k6
   have y4 := x1 _ _ y3
   refine WE_s rfl ?_
   have y5 : aN G K (aT 4 K b9 c0 n7 :: box a3 157 [Value.slice a2 b5.length a0.length] :: box c3 119 [i64 o.t.States, i64 o.t.Initial, Value.slice a1 o.t.Labels.length c2, Value.slice a4 o.t.Edges.length c5, i64 o.p.States, i64 o.p.Initial, Value.slice a7 o.p.Labels.length c8, Value.slice a10 o.p.Edges.length c11] :: aT 4 K e1 1 ([begin] : List Bool) :: aT 87 K a2 a0.length (bT b0 b5) :: rows [4] b0 b5 :: L) y0 := (aN.arr 4 [3, 0, 1, 2] y4 rfl)
   obtain ⟨c9, k7, b7⟩ := aI b7
   refine WO_stD (i := 3) (tys := [4]) (hd' := (b9, c0)) (e' := n7) (hds := b0) Tryz.sizeOf87 y5 f7 rfl rfl rfl rfl rfl h4 n8 k7 rfl ?_
   intro k8 (y6 : aN G K (aT 87 K a2 a0.length (bT (List.set b0 b6.toNat (b9, c0)) c9) :: rows [4] (List.set b0 b6.toNat (b9, c0)) c9 :: box a3 157 [Value.slice a2 b5.length a0.length] :: box c3 119 [i64 o.t.States, i64 o.t.Initial, Value.slice a1 o.t.Labels.length c2, Value.slice a4 o.t.Edges.length c5, i64 o.p.States, i64 o.p.Initial, Value.slice a7 o.p.Labels.length c8, Value.slice a10 o.p.Edges.length c11] :: aT 4 K e1 1 ([begin] : List Bool) :: L) k8)
   have y7 : aN G K (aT 87 K a2 a0.length (bT (List.set b0 b6.toNat (b9, c0)) c9) :: rows [4] (List.set b0 b6.toNat (b9, c0)) c9 :: box a3 157 [Value.slice a2 c9.length a0.length] :: box c3 119 [i64 o.t.States, i64 o.t.Initial, Value.slice a1 o.t.Labels.length c2, Value.slice a4 o.t.Edges.length c5, i64 o.p.States, i64 o.p.Initial, Value.slice a7 o.p.Labels.length c8, Value.slice a10 o.p.Edges.length c11] :: aT 4 K e1 1 ([begin] : List Bool) :: L) k8 := Eq.mp (congrArg (fun n => aN G K (aT 87 K a2 a0.length (bT (List.set b0 b6.toNat (b9, c0)) c9) :: rows [4] (List.set b0 b6.toNat (b9, c0)) c9 :: box a3 157 [Value.slice a2 n a0.length] :: box c3 119 [i64 o.t.States, i64 o.t.Initial, Value.slice a1 o.t.Labels.length c2, Value.slice a4 o.t.Edges.length c5, i64 o.p.States, i64 o.p.Initial, Value.slice a7 o.p.Labels.length c8, Value.slice a10 o.p.Edges.length c11] :: aT 4 K e1 1 ([begin] : List Bool) :: L) k8) (gQ k7)) y6
   exact aF (aA (pS (bG (aA (aB (aC (cI k4 rfl) (aC (aD (v := i64 (wr (b6 + 1))) rfl) (aF (aA ⟨(c9, wr (b6 + 1)), (Option.some.inj b7).symm, (List.set b0 b6.toNat (b9, c0)), k2, m9, n0, k3, n1, rfl, (set_len (hd := ((b9, c0) : Dp.Hd (List Bool))) f7 k7), (aN.arr 5 [2, 0, 1, 3] y7 rfl)⟩)))))))))
  ·refine aM k5 rfl (bY (aY (aY ?_)))
   have y8 := w7 _ (Option.some.inj b7).symm
   subst y8
   have hm : (jD begin change_c0_ b5) = some R := hm
   exact bO (aA ⟨b5, b0, hm, k2, m9, k3, f7, (aN.arr 4 [0, 1, 2] n2 rfl)⟩)
theorem aBC {o : cO} {R : (List (List Bool))} (hs : aN G K (L) w) (h3 : bX K a1 c2 o.t.Labels) (h6 : bX K a4 c5 o.t.Edges) (h9 : bX K a7 c8 o.p.Labels) (h12 : bX K a10 c11 o.p.Edges) (hm : nG o = some R) :
  Calls Tryz.prog 179 ([Value.agg #[i64 o.t.States, i64 o.t.Initial, Value.slice a1 o.t.Labels.length c2, Value.slice a4 o.t.Edges.length c5, i64 o.p.States, i64 o.p.Initial, Value.slice a7 o.p.Labels.length c8, Value.slice a10 o.p.Edges.length c11]] : List Value).toArray w (fW fun v w' => ∃ (ra0 : Option Addr) (rc0 : Nat) (rh1 : List (Dp.Hd (List Bool))), v = Value.slice ra0 R.length rc0 ∧ List.length rh1 = List.length R ∧ aN G K (aT 87 K ra0 rc0 (bT rh1 R) :: rows [4] rh1 R :: L) w') := by
 refine aU Tryz.func179 rfl (by kernel_rfl) (by show (1 : Nat) ≤ 6; decide) ?_
 unfold nG at hm
 refine aH (aB (dU (v := Value.agg #[i64 o.t.States, i64 o.t.Initial, Value.slice a1 o.t.Labels.length c2, Value.slice a4 o.t.Edges.length c5, i64 o.p.States, i64 o.p.Initial, Value.slice a7 o.p.Labels.length c8, Value.slice a10 o.p.Edges.length c11]) (vs := [i64 o.t.States, i64 o.t.Initial, Value.slice a1 o.t.Labels.length c2, Value.slice a4 o.t.Edges.length c5, i64 o.p.States, i64 o.p.Initial, Value.slice a7 o.p.Labels.length c8, Value.slice a10 o.p.Edges.length c11]) hs rfl rfl (fun a2 b8 a3 => (aC (aG (v := Value.slice none 0 0) rfl) (aF (aA (aH (aB (aC (dR (us := [i64 o.t.States, i64 o.t.Initial, Value.slice a1 o.t.Labels.length c2, Value.slice a4 o.t.Edges.length c5, i64 o.p.States, i64 o.p.Initial, Value.slice a7 o.p.Labels.length c8, Value.slice a10 o.p.Edges.length c11]) aAX a3 (i := 0) rfl rfl rfl rfl) (aC (kU (vs := [Value.pointer (some ⟨a2, 0, none⟩)]) rfl) ?_))))))))))
 obtain ⟨b9, a0, a8, a9, b0⟩ := aN.lendB (i := 0) a3 rfl
 obtain ⟨b1, b2, hm⟩ := aI hm
 refine aW (vs := [Value.agg #[i64 o.t.States, i64 o.t.Initial, Value.slice a1 o.t.Labels.length c2, Value.slice a4 o.t.Edges.length c5, i64 o.p.States, i64 o.p.Initial, Value.slice a7 o.p.Labels.length c8, Value.slice a10 o.p.Edges.length c11], Value.bool false, Value.func (.func 221) #[] #[bZ (some ⟨a2, 0, none⟩) 0]]) Tryz.call220 rfl (aBf a9 (h3.mono a0) (h6.mono a0) (h9.mono a0) (h12.mono a0) a8 (h3.mono a0) (h6.mono a0) (h9.mono a0) (h12.mono a0) b2) ?_
 rintro _ c0 ⟨a5, a6, b3, rfl, b4, b5⟩
 have b6 := b0 _ _ b5
 refine aC (aG (v := Value.slice a5 b1.length a6) rfl) (aF (aA ?_))
 have b7 := Option.some.inj hm
 subst b7
 exact bB (aZ Tryz.results179 rfl ⟨a5, a6, b3, rfl, b4, (aN.arr 1 [] b6 rfl)⟩)
theorem rW {v_ : Int} {w_ : Int} {p : Bool} {k3 : Nat} {p_c0_ : (List (List Bool))} {k6 : Nat} {R : Bool} (hs : aN G K (box b1 4 [Value.bool p] :: L) w) (h4 : fN K a2 k3 [Value.func (.func 249) #[] #[bZ a5 k6]]) (h7 : fN K a5 k6 [Value.slice a8 p_c0_.length c9]) (h10 : bX K a8 c9 p_c0_) (hm : iL v_ w_ p p_c0_ = some R) :
  Calls Tryz.prog 251 ([i64 v_, i64 w_, Value.pointer (some ⟨b1, 0, none⟩), bZ a2 k3] : List Value).toArray w (fW fun v w' => v = Value.tuple #[] ∧ aN G K (box b1 4 [Value.bool R] :: L) w') := by
 refine aU Tryz.func251 rfl (by kernel_rfl) (by show (4 : Nat) ≤ 13; decide) ?_
 unfold iL at hm
 refine cH (fun f w => ∃ (a3 : Bool), jV a3 = some R ∧ aN G K (box b1 4 [Value.bool a3] :: L) w) ?_ ?_
 ·rintro f b5 ⟨a3, hm, a4⟩
  unfold jV at hm
  have a6 := Option.some.inj hm
  subst a6
  exact aCj Tryz.results251 ⟨rfl, a4⟩
 refine aB (aC (cA aBA hs (i := 0) rfl rfl rfl) (aC (aD (v := Value.bool p) rfl) ?_))
 rcases aJ hm with ⟨a0, hm⟩ | ⟨a0, hm⟩
 ·exact aV (g := 7) a0 (by kernel_rfl) rfl (aV (g := 7) a0 (by kernel_rfl) rfl (aV (g := 7) a0 (by kernel_rfl) rfl (aV (g := 7) a0 (by kernel_rfl) rfl (aC (bK (v := Value.bool true) a0 rfl rfl) (cC (i := 0) (ns := [Value.bool true]) (us := [Value.bool true]) Tryz.sizeOf4 hs rfl rfl rfl rfl rfl (dT rfl) rfl rfl (fun a7 (a9 : aN G K (box b1 4 [Value.bool true] :: L) a7) => (aF (aA ⟨true, hm, a9⟩))))))))
 ·refine bJ (g := 7) a0 (by kernel_rfl) rfl (aC (bL (t := 0) sc_246 hs h4 rfl rfl) (bJ (g := 7) a0 (by kernel_rfl) rfl (aC (aD (v := i64 v_) rfl) (bJ (g := 7) a0 (by kernel_rfl) rfl (aC (aD (v := i64 w_) rfl) (bJ (g := 7) a0 (by kernel_rfl) rfl ?_))))))
  obtain ⟨a1, b0, hm⟩ := aI hm
  refine kE (vs := [i64 v_, i64 w_]) (caps := [bZ a5 k6]) (us := [i64 v_, i64 w_, bZ a5 k6]) rfl Tryz.call249 rfl rfl (rV hs h7 h10 b0) ?_
  rintro _ b6 ⟨rfl, b2⟩
  exact aC (bM (v := Value.bool a1) a0 rfl rfl) (cC (i := 0) (ns := [Value.bool a1]) (us := [Value.bool a1]) Tryz.sizeOf4 b2 rfl rfl rfl rfl rfl (dT rfl) rfl rfl (fun b3 (b4 : aN G K (box b1 4 [Value.bool a1] :: L) b3) => (aF (aA ⟨a1, hm, b4⟩))))
theorem aAm {o : cO} {x_ : Int} {y : Int} {do_c0_ : Bool} {k15 : Nat} {do_c1_c0_ : (List (List Bool))} {k18 : Nat} {R : Bool} (hs : aN G K (box b13 4 [Value.bool do_c0_] :: L) w) (h3 : bX K a1 c2 o.t.Labels) (h6 : bX K a4 c5 o.t.Edges) (h9 : bX K a7 c8 o.p.Labels) (h12 : bX K a10 c11 o.p.Edges) (h16 : fN K a14 k15 [Value.func (.func 249) #[] #[bZ a17 k18]]) (h19 : fN K a17 k18 [Value.slice a20 do_c1_c0_.length c21]) (h22 : bX K a20 c21 do_c1_c0_) (hm : kH o x_ y do_c0_ do_c1_c0_ = some R) :
  Calls Tryz.prog 250 ([Value.agg #[i64 o.t.States, i64 o.t.Initial, Value.slice a1 o.t.Labels.length c2, Value.slice a4 o.t.Edges.length c5, i64 o.p.States, i64 o.p.Initial, Value.slice a7 o.p.Labels.length c8, Value.slice a10 o.p.Edges.length c11], i64 x_, i64 y, Value.func (.func 251) #[] #[Value.pointer (some ⟨b13, 0, none⟩), bZ a14 k15]] : List Value).toArray w (fW fun v w' => v = Value.tuple #[] ∧ aN G K (box b13 4 [Value.bool R] :: L) w') := by
 refine aU Tryz.func250 rfl (by kernel_rfl) (by show (4 : Nat) ≤ 43; decide) ?_
 unfold kH at hm
 refine aH (aB (dU (v := Value.agg #[i64 o.t.States, i64 o.t.Initial, Value.slice a1 o.t.Labels.length c2, Value.slice a4 o.t.Edges.length c5, i64 o.p.States, i64 o.p.Initial, Value.slice a7 o.p.Labels.length c8, Value.slice a10 o.p.Edges.length c11]) (vs := [i64 o.t.States, i64 o.t.Initial, Value.slice a1 o.t.Labels.length c2, Value.slice a4 o.t.Edges.length c5, i64 o.p.States, i64 o.p.Initial, Value.slice a7 o.p.Labels.length c8, Value.slice a10 o.p.Edges.length c11]) hs rfl rfl (fun b3 h8 d0 => (aF (aA (aH (aB (aC (bI (t' := 0) oJ rfl rfl) (aC (dR (us := [i64 o.t.States, i64 o.t.Initial, Value.slice a1 o.t.Labels.length c2, Value.slice a4 o.t.Edges.length c5]) gT d0 (i := 0) rfl rfl rfl rfl) (aC (aD (v := i64 x_) rfl) ?_))))))))))
 obtain ⟨a3, e2, hm⟩ := aI hm
 refine aW (vs := [Value.agg #[i64 o.t.States, i64 o.t.Initial, Value.slice a1 o.t.Labels.length c2, Value.slice a4 o.t.Edges.length c5], i64 x_]) Tryz.call144 rfl (zB d0 h3 h6 e2) ?_
 rintro _ i0 ⟨a9, b0, rfl, e3⟩
 refine aC (bU (len := a3.length) cR rfl) (aC (aD (v := i64 0) rfl) (aF (aA (bC (fun f w => ∃ (c1 : Bool), kL c1 = some R ∧ aN G K (box b13 4 [Value.bool c1] :: L) w) ?_ ?_))))
 ·rintro f i1 ⟨c1, hm, e4⟩
  unfold kL at hm
  have e5 := Option.some.inj hm
  subst e5
  exact aCj Tryz.results250 ⟨rfl, e4⟩
 obtain ⟨i2, e6, hm⟩ := aI hm
 refine cD e6 (fun (s : (Bool × Int)) f w => match s with | (a8, b1) => f 2 = i64 y ∧ f 3 = Value.func (.func 251) #[] #[Value.pointer (some ⟨b13, 0, none⟩), bZ a14 k15] ∧ f 4 = Value.pointer (some ⟨b3, 0, none⟩) ∧ f 13 = Value.slice a9 a3.length b0 ∧ f 14 = i64 (a3.length : Int) ∧ f 15 = i64 b1 ∧ aN G K (aT 63 K a9 b0 a3 :: box b3 119 [i64 o.t.States, i64 o.t.Initial, Value.slice a1 o.t.Labels.length c2, Value.slice a4 o.t.Edges.length c5, i64 o.p.States, i64 o.p.Initial, Value.slice a7 o.p.Labels.length c8, Value.slice a10 o.p.Edges.length c11] :: box b13 4 [Value.bool a8] :: L) w) ?_ ?_
 ·exact ⟨rfl, rfl, rfl, rfl, rfl, rfl, e3⟩
 ·rintro ⟨a8, b1⟩ d1 f i3 a0 e7 ⟨b4, b5, b6, c3, c4, b7, b8⟩
  replace a0 : gN o y do_c1_c0_ a3 a8 b1 = some d1 := a0
  unfold gN at a0
  refine aH (aB (aC (cE b7 c4) (aF (aA (aH ?_)))))
  rcases aJ a0 with ⟨c6, a0⟩ | ⟨c6, a0⟩
  ·refine aO c6 rfl (aX (aA (aH (bC (fun f w => ∃ (b9 : Bool), iW b1 b9 = some d1 ∧ f 2 = i64 y ∧ f 3 = Value.func (.func 251) #[] #[Value.pointer (some ⟨b13, 0, none⟩), bZ a14 k15] ∧ f 4 = Value.pointer (some ⟨b3, 0, none⟩) ∧ f 13 = Value.slice a9 a3.length b0 ∧ f 14 = i64 (a3.length : Int) ∧ f 15 = i64 b1 ∧ aN G K (aT 63 K a9 b0 a3 :: box b3 119 [i64 o.t.States, i64 o.t.Initial, Value.slice a1 o.t.Labels.length c2, Value.slice a4 o.t.Edges.length c5, i64 o.p.States, i64 o.p.Initial, Value.slice a7 o.p.Labels.length c8, Value.slice a10 o.p.Edges.length c11] :: box b13 4 [Value.bool b9] :: L) w) ?_ ?_))))
   ·rintro f i4 ⟨b9, a0, e8, e9, f0, f1, f2, f3, f4⟩
    unfold iW at a0
    exact aA (aB (aC (cI f3 rfl) (aC (aD (v := i64 (wr (b1 + 1))) rfl) (aF (aA ⟨(b9, wr (b1 + 1)), (Option.some.inj a0).symm, e8, e9, f0, f1, f2, rfl, f4⟩)))))
   refine aH (aB ?_)
   obtain ⟨a2, c7, a0⟩ := aI a0
   have f5 := dL b8 (i := 0) rfl c7
   refine aC (eT cR rfl f5 c3 rfl b7 c7) (aC (aCN (t := 0) (vs := [i64 a2.From, i64 a2.Label, i64 a2.To]) qC b8 (i := 0) rfl c7 rfl rfl rfl rfl) (cG (vs := [i64 0, i64 0, i64 0]) Tryz.zeroValue63 b8 rfl (fun d2 i5 f6 => (cC (i := 0) (ns := [i64 a2.From, i64 a2.Label, i64 a2.To]) (us := [i64 a2.From, i64 a2.Label, i64 a2.To]) Tryz.sizeOf63 f6 rfl rfl rfl rfl rfl (dT rfl) rfl rfl (fun d3 (c0 : aN G K (box d2 63 [i64 a2.From, i64 a2.Label, i64 a2.To] :: aT 63 K a9 b0 a3 :: box b3 119 [i64 o.t.States, i64 o.t.Initial, Value.slice a1 o.t.Labels.length c2, Value.slice a4 o.t.Edges.length c5, i64 o.p.States, i64 o.p.Initial, Value.slice a7 o.p.Labels.length c8, Value.slice a10 o.p.Edges.length c11] :: box b13 4 [Value.bool a8] :: L) d3) => (aF (aA (aH (aB (aC (bI (t' := 1) fP rfl rfl) (aC (cA cM c0 (i := 0) rfl rfl rfl) (aC (kC rfl rfl) (aF (aA ?_))))))))))))))
   rcases aJ a0 with ⟨c9, a0⟩ | ⟨c9, a0⟩
   ·refine aO c9 rfl (aB (aC (aD b5) (aC (bI (t' := 2) iU rfl rfl) (aC (cA cM c0 (i := 0) rfl rfl rfl) (aC (aD b4) ?_)))))
    have f7 : aN G K (box b13 4 [Value.bool a8] :: box d2 63 [i64 a2.From, i64 a2.Label, i64 a2.To] :: aT 63 K a9 b0 a3 :: box b3 119 [i64 o.t.States, i64 o.t.Initial, Value.slice a1 o.t.Labels.length c2, Value.slice a4 o.t.Edges.length c5, i64 o.p.States, i64 o.p.Initial, Value.slice a7 o.p.Labels.length c8, Value.slice a10 o.p.Edges.length c11] :: L) d3 := (aN.arr 4 [3, 0, 1, 2] c0 rfl)
    obtain ⟨f8, f9, a0⟩ := aI a0
    refine kE (vs := [i64 a2.To, i64 y]) (caps := [Value.pointer (some ⟨b13, 0, none⟩), bZ a14 k15]) (us := [i64 a2.To, i64 y, Value.pointer (some ⟨b13, 0, none⟩), bZ a14 k15]) rfl Tryz.call251 rfl rfl (rW f7 h16 h19 h22 f9) ?_
    rintro _ i6 ⟨rfl, g0⟩
    exact aF (bG (aA ⟨f8, a0, b4, b5, b6, c3, c4, b7, (aN.arr 4 [2, 3, 0] g0 rfl)⟩))
   ·refine aM c9 rfl ?_
    obtain ⟨i7, b2, d4, g1, g2⟩ := aN.lendB (i := 0) c0 rfl
    obtain ⟨d5, a6, d6, d7, g3⟩ := aN.lendB (i := 1) g1 rfl
    refine gV (C := fun w' => ∃ L', aN G d5 L' w') [(0, 0), (1, 0), (2, 0), (3, 0), (4, 0), (5, 0), (6, 0), (7, 0), (8, 0), (9, 0), (10, 0), (11, 0), (12, 0), (13, 1), (14, 1)] bR (by kernel_rfl) (fun _ hg => ⟨_, aN.mono d7 hg⟩) (fun i8 g4 => ?_)
    have a5 := aN.mono d7 g4
    refine cL rfl (fun _ _ => aD b5) (cL rfl (fun _ _ => bI (t' := 2) iU rfl rfl) (cL rfl (fun _ ⟨_, a5⟩ => bL (t := 2) cM a5 (d4.mono a6) rfl rfl) (cL rfl (fun _ _ => bI (t' := 4) aAv b6 rfl) (cL rfl (fun _ ⟨_, a5⟩ => fO (t := 4) (vs := [i64 o.p.States, i64 o.p.Initial, Value.slice a7 o.p.Labels.length c8, Value.slice a10 o.p.Edges.length c11]) gT a5 d6 rfl rfl rfl) (cL rfl (fun _ _ => aD b4) (cL rfl (fun _ _ => bI (t' := 0) oJ b6 rfl) (cL rfl (fun _ _ => bI (t' := 2) gS rfl rfl) (cL rfl (fun _ ⟨_, a5⟩ => bL (t := 2) nY a5 d6 rfl rfl) (cL rfl (fun _ _ => bI (t' := 1) fP rfl rfl) (cL rfl (fun _ ⟨_, a5⟩ => bL (t := 1) cM a5 (d4.mono a6) rfl rfl) ?_))))))))))
    obtain ⟨g5, d8, a0⟩ := aI a0
    refine cL rfl (fun _ _ => cU cQ rfl (h3.mono (Hp.le_trans b2 a6)) rfl rfl rfl d8) ?_
    obtain ⟨i9, g6, g7⟩ := bX.el (sz := 1) rfl h3 d8
    cases g7
    refine cL rfl (fun _ ⟨_, a5⟩ => bL (t := 0) oI a5 (g6.mono (Hp.le_trans b2 a6)) rfl rfl) (oB rfl ?_)
    obtain ⟨d9, g8, a0⟩ := aI a0
    refine aW (vs := [Value.agg #[i64 o.p.States, i64 o.p.Initial, Value.slice a7 o.p.Labels.length c8, Value.slice a10 o.p.Edges.length c11], i64 y, cF g5]) Tryz.call135 rfl (xC a5 (h9.mono (Hp.le_trans b2 a6)) (h12.mono (Hp.le_trans b2 a6)) g8) ?_
    rintro _ g9 ⟨rfl, e0⟩
    refine aF (aA ⟨⟨_, e0⟩, ?_⟩)
    refine oB rfl ?_
    have h0 : aN G d5 (box b13 4 [Value.bool a8] :: aT 63 K a9 b0 a3 :: L) g9 := (aN.arr 2 [1, 0] e0 rfl)
    obtain ⟨h1, h2, a0⟩ := aI a0
    refine kE (vs := [i64 a2.To, i64 d9]) (caps := [Value.pointer (some ⟨b13, 0, none⟩), bZ a14 k15]) (us := [i64 a2.To, i64 d9, Value.pointer (some ⟨b13, 0, none⟩), bZ a14 k15]) rfl Tryz.call251 rfl rfl (rW h0 (h16.mono (Hp.le_trans b2 a6)) (h19.mono (Hp.le_trans b2 a6)) (h22.mono (Hp.le_trans b2 a6)) h2) ?_
    rintro _ j0 ⟨rfl, e1⟩
    refine aF (aA ⟨⟨_, e1⟩, ?_⟩)
    refine pS ?_
    have h4 := g3 _ _ e1
    have h5 := g2 _ _ h4
    exact bG (aA ⟨h1, a0, b4, b5, b6, c3, c4, b7, (aN.arr 4 [3, 1, 2] h5 rfl)⟩)
  ·refine aM c6 rfl (bY (aY (aY ?_)))
   have h7 := e7 _ (Option.some.inj a0).symm
   subst h7
   have hm : (kL a8) = some R := hm
   exact bO (aA ⟨a8, hm, (aN.arr 2 [] b8 rfl)⟩)
theorem aBg {o : cO} {x_ : Int} {y : Int} {is_c0_ : (List (List Bool))} {k14 : Nat} {R : Bool} (hs : aN G K (L) w) (h3 : bX K a1 c2 o.t.Labels) (h6 : bX K a4 c5 o.t.Edges) (h9 : bX K a7 c8 o.p.Labels) (h12 : bX K a10 c11 o.p.Edges) (h15 : fN K a13 k14 [Value.slice a16 is_c0_.length c17]) (h18 : bX K a16 c17 is_c0_) (hm : pW o x_ y is_c0_ = some R) :
  Calls Tryz.prog 222 ([Value.agg #[i64 o.t.States, i64 o.t.Initial, Value.slice a1 o.t.Labels.length c2, Value.slice a4 o.t.Edges.length c5, i64 o.p.States, i64 o.p.Initial, Value.slice a7 o.p.Labels.length c8, Value.slice a10 o.p.Edges.length c11], i64 x_, i64 y, Value.func (.func 249) #[] #[bZ a13 k14]] : List Value).toArray w (fW fun v w' => v = Value.bool R ∧ aN G K (L) w') := by
 refine aU Tryz.func222 rfl (by kernel_rfl) (by show (4 : Nat) ≤ 16; decide) ?_
 unfold pW at hm
 refine aH (aB (dU (v := Value.agg #[i64 o.t.States, i64 o.t.Initial, Value.slice a1 o.t.Labels.length c2, Value.slice a4 o.t.Edges.length c5, i64 o.p.States, i64 o.p.Initial, Value.slice a7 o.p.Labels.length c8, Value.slice a10 o.p.Edges.length c11]) (vs := [i64 o.t.States, i64 o.t.Initial, Value.slice a1 o.t.Labels.length c2, Value.slice a4 o.t.Edges.length c5, i64 o.p.States, i64 o.p.Initial, Value.slice a7 o.p.Labels.length c8, Value.slice a10 o.p.Edges.length c11]) hs rfl rfl (fun a8 c0 a9 => (dU (v := Value.func (.func 249) #[] #[bZ a13 k14]) (vs := [Value.func (.func 249) #[] #[bZ a13 k14]]) a9 rfl rfl (fun a2 c1 b0 => (aC (aG (v := Value.bool false) rfl) (aF (aA (aH (aB (cG (vs := [Value.bool false]) Tryz.zeroValue4 b0 rfl (fun a3 c3 b1 => (cC (i := 0) (ns := [Value.bool false]) (us := [Value.bool false]) Tryz.sizeOf4 b1 rfl rfl rfl rfl rfl (dT rfl) rfl rfl (fun b2 (a5 : aN G K (box a3 4 [Value.bool false] :: box a2 246 [Value.func (.func 249) #[] #[bZ a13 k14]] :: box a8 119 [i64 o.t.States, i64 o.t.Initial, Value.slice a1 o.t.Labels.length c2, Value.slice a4 o.t.Edges.length c5, i64 o.p.States, i64 o.p.Initial, Value.slice a7 o.p.Labels.length c8, Value.slice a10 o.p.Edges.length c11] :: L) b2) => (aF (aA (aH (aB (aC (dR (us := [i64 o.t.States, i64 o.t.Initial, Value.slice a1 o.t.Labels.length c2, Value.slice a4 o.t.Edges.length c5, i64 o.p.States, i64 o.p.Initial, Value.slice a7 o.p.Labels.length c8, Value.slice a10 o.p.Edges.length c11]) aAX a5 (i := 2) rfl rfl rfl rfl) (aC (aD (v := i64 x_) rfl) (aC (aD (v := i64 y) rfl) (aC (kU (vs := [Value.pointer (some ⟨a3, 0, none⟩), Value.pointer (some ⟨a2, 0, none⟩)]) rfl) ?_))))))))))))))))))))))
 obtain ⟨c4, a0, b3, b4, b5⟩ := aN.lendB (i := 1) a5 rfl
 obtain ⟨b6, b7, hm⟩ := aI hm
 refine aW (vs := [Value.agg #[i64 o.t.States, i64 o.t.Initial, Value.slice a1 o.t.Labels.length c2, Value.slice a4 o.t.Edges.length c5, i64 o.p.States, i64 o.p.Initial, Value.slice a7 o.p.Labels.length c8, Value.slice a10 o.p.Edges.length c11], i64 x_, i64 y, Value.func (.func 251) #[] #[Value.pointer (some ⟨a3, 0, none⟩), bZ (some ⟨a2, 0, none⟩) 0]]) Tryz.call250 rfl (aAm b4 (h3.mono a0) (h6.mono a0) (h9.mono a0) (h12.mono a0) b3 (h15.mono a0) (h18.mono a0) b7) ?_
 rintro _ c6 ⟨rfl, b8⟩
 have a6 := b5 _ _ b8
 refine aF (aA (aH (aB (aC (cA aBA a6 (i := 1) rfl rfl rfl) (aC (aG (v := Value.bool b6) rfl) (aF (aA ?_)))))))
 have b9 := Option.some.inj hm
 subst b9
 exact bB (aZ Tryz.results222 rfl ⟨rfl, (aN.arr 3 [] a6 rfl)⟩)
theorem aAI {x_ : Int} {y : Int} {has_c0_ : (List (List Bool))} {k2 : Nat} {p : cO} {k8 : Nat} {R : Bool} (hs : aN G K (L) w) (h3 : fN K a1 k2 [Value.slice a4 has_c0_.length c5]) (h6 : bX K a4 c5 has_c0_) (h9 : fN K a7 k8 [i64 p.t.States, i64 p.t.Initial, Value.slice a10 p.t.Labels.length c11, Value.slice a13 p.t.Edges.length c14, i64 p.p.States, i64 p.p.Initial, Value.slice a16 p.p.Labels.length c17, Value.slice a19 p.p.Edges.length c20]) (h12 : bX K a10 c11 p.t.Labels) (h15 : bX K a13 c14 p.t.Edges) (h18 : bX K a16 c17 p.p.Labels) (h21 : bX K a19 c20 p.p.Edges) (hm : kY x_ y has_c0_ p = some R) :
  Calls Tryz.prog 224 ([i64 x_, i64 y, Value.func (.func 249) #[] #[bZ a1 k2], bZ a7 k8] : List Value).toArray w (fW fun v w' => v = Value.bool R ∧ aN G K (L) w') := by
 refine aU Tryz.func224 rfl (by kernel_rfl) (by show (4 : Nat) ≤ 22; decide) ?_
 unfold kY at hm
 refine aH (aB (aC (aG (v := Value.bool false) rfl) (aF (aA (aH (cH (fun f w => ∃ (a2 : Bool), lD a2 = some R ∧ f 7 = Value.bool a2 ∧ aN G K (L) w) ?_ ?_))))))
 ·rintro f b4 ⟨a2, hm, a8, a9⟩
  unfold lD at hm
  refine aA ?_
  have b0 := Option.some.inj hm
  subst b0
  exact bB (aZ Tryz.results224 rfl ⟨a8, a9⟩)
 refine aB (aC (bW (k' := k8 + 0) oJ rfl h9 rfl) (aC (fO (t := 0) (vs := [i64 p.t.States, i64 p.t.Initial, Value.slice a10 p.t.Labels.length c11, Value.slice a13 p.t.Edges.length c14]) gT hs h9 rfl rfl rfl) (aC (aD (v := i64 x_) rfl) ?_)))
 obtain ⟨a6, b1, hm⟩ := aI hm
 refine aW (vs := [Value.agg #[i64 p.t.States, i64 p.t.Initial, Value.slice a10 p.t.Labels.length c11, Value.slice a13 p.t.Edges.length c14], i64 x_]) Tryz.call144 rfl (zB hs h12 h15 b1) ?_
 rintro _ b5 ⟨b6, b7, rfl, a3⟩
 refine aC (bU (len := a6.length) cR rfl) (aC (oH rfl rfl) (aC (aD (v := Value.bool (decide (0 < (a6.length : Int)))) rfl) ?_))
 rcases aJ hm with ⟨a0, hm⟩ | ⟨a0, hm⟩
 ·refine bH (g := 14) a0 (by kernel_rfl) rfl (aC (fO (t := 0) (vs := [i64 p.t.States, i64 p.t.Initial, Value.slice a10 p.t.Labels.length c11, Value.slice a13 p.t.Edges.length c14, i64 p.p.States, i64 p.p.Initial, Value.slice a16 p.p.Labels.length c17, Value.slice a19 p.p.Edges.length c20]) aAX a3 h9 rfl rfl rfl) (bH (g := 14) a0 (by kernel_rfl) rfl (aC (aD (v := i64 x_) rfl) (bH (g := 14) a0 (by kernel_rfl) rfl (aC (aD (v := i64 y) rfl) (bH (g := 14) a0 (by kernel_rfl) rfl (aC (aD (v := Value.func (.func 249) #[] #[bZ a1 k2]) rfl) (bH (g := 14) a0 (by kernel_rfl) rfl ?_))))))))
  obtain ⟨a5, b2, hm⟩ := aI hm
  refine aW (vs := [Value.agg #[i64 p.t.States, i64 p.t.Initial, Value.slice a10 p.t.Labels.length c11, Value.slice a13 p.t.Edges.length c14, i64 p.p.States, i64 p.p.Initial, Value.slice a16 p.p.Labels.length c17, Value.slice a19 p.p.Edges.length c20], i64 x_, i64 y, Value.func (.func 249) #[] #[bZ a1 k2]]) Tryz.call222 rfl (aBg a3 h12 h15 h18 h21 h3 h6 b2) ?_
  rintro _ b8 ⟨rfl, b3⟩
  exact bH (g := 14) a0 (by kernel_rfl) rfl (aC (dN rfl) (aC (bK (v := Value.bool (!a5)) a0 rfl rfl) (aC (aG (v := Value.bool (!a5)) rfl) (aF (aA ⟨!a5, hm, rfl, (aN.arr 1 [] b3 rfl)⟩)))))
 ·exact bA (g := 14) a0 (by kernel_rfl) rfl (bA (g := 14) a0 (by kernel_rfl) rfl (bA (g := 14) a0 (by kernel_rfl) rfl (bA (g := 14) a0 (by kernel_rfl) rfl (bA (g := 14) a0 (by kernel_rfl) rfl (bA (g := 14) a0 (by kernel_rfl) rfl (aC (bM (v := Value.bool false) a0 rfl rfl) (aC (aG (v := Value.bool false) rfl) (aF (aA ⟨false, hm, rfl, (aN.arr 1 [] a3 rfl)⟩)))))))))
end Gv
