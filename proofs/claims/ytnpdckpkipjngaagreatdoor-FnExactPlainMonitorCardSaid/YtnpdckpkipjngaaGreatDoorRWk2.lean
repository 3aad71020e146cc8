/- Walks, printed by program. -/
import Derived.Test.YtnpdckpkipjngaaGreatDoorRLW
import Derived.Test.YtnpdckpkipjngaaGreatDoorRMd
set_option linter.all false
namespace Gv
open Go Go.Proofs
set_option maxRecDepth 20000
set_option maxHeartbeats 1000000
variable {G : Env} {K : Hp} {L : List nV} {w : World} {a1 a4 a7 a10 a13 a16 a19 : Option Addr} {c5 c8 c14 c17 c11 c2 : Nat}
theorem aDy {d : dC} {k2 : Nat} {state : Int} {label : bF} {R : Int} (hs : aN G K (L) w) (h3 : fN K a1 k2 [i64 d.States, i64 d.Initial, Value.slice a4 d.Labels.length c5, Value.slice a7 d.Edges.length c8]) (h6 : bX K a4 c5 d.Labels) (h9 : bX K a7 c8 d.Edges) (hm : aCl d state label = some R) :
  Calls Tryz.prog 70 ([bZ a1 k2, i64 state, cF label] : List Value).toArray w (fW fun v w' => v = i64 R ∧ aN G K (L) w') := by
 refine aU Tryz.func70 rfl (by kernel_rfl) (by show (3 : Nat) ≤ 57; decide) ?_
 unfold aCl at hm
 refine aH (aB (aC (aG (v := i64 0) rfl) (aF (aA (aH (aH (aB (aC (aG (v := i64 0) rfl) (aF (aA (bC (fun f w => aBb = some R ∧ aN G K (L) w) ?_ ?_)))))))))))
 ·rintro f f2 ⟨hm, d7⟩
  unfold aBb at hm
  refine aA (aH (aB (aC (aG (v := i64 (-1)) rfl) (aF (aA ?_)))))
  have d8 := Option.some.inj hm
  subst d8
  exact bB (aZ Tryz.results70 rfl ⟨rfl, d7⟩)
 obtain ⟨f3, d9, hm⟩ := aI hm
 refine cD d9 (fun (a5 : Int) f w => f 0 = bZ a1 k2 ∧ f 1 = i64 state ∧ f 2 = cF label ∧ f 7 = i64 a5 ∧ aN G K (L) w) ?_ ?_
 ·exact ⟨rfl, rfl, rfl, rfl, hs⟩
 ·rintro a5 b2 f f4 a3 c4 ⟨b3, b4, c6, b5, b6⟩
  replace a3 : oD d state label a5 = some b2 := a3
  unfold oD at a3
  refine aH (aH (cH (fun f w => ∃ (b7 : Bool), yR d state label a5 b7 = some b2 ∧ f 0 = bZ a1 k2 ∧ f 1 = i64 state ∧ f 2 = cF label ∧ f 7 = i64 a5 ∧ f 18 = Value.bool b7 ∧ aN G K (L) w) ?_ ?_))
  ·rintro f f5 ⟨b7, a3, a8, b8, b9, a9, c7, a0⟩
   unfold yR at a3
   refine aA ?_
   rcases aJ a3 with ⟨c0, a3⟩ | ⟨c0, a3⟩
   ·refine aO c0 c7 (aX (aA (aH (cK (aH (cH (fun f w => ∃ (c1 : Bool), yQ d a5 c1 = some b2 ∧ f 0 = bZ a1 k2 ∧ f 1 = i64 state ∧ f 2 = cF label ∧ f 7 = i64 a5 ∧ f 48 = Value.bool c1 ∧ aN G K (L) w) ?_ ?_))))))
    ·rintro f f6 ⟨c1, a3, c9, e0, e1, d0, d1, b0⟩
     unfold yQ at a3
     refine aA ?_
     rcases aJ a3 with ⟨c2, a3⟩ | ⟨c2, a3⟩
     ·refine aO c2 d1 (aH (aB (aC (aD c9) (aC (cS rfl h3) (aC (bW (k' := k2 + 3) dI rfl h3 rfl) (aC (bL (t := 3) iC b0 h3 rfl rfl) (aC (aD d0) ?_)))))))
      obtain ⟨d2, d3, a3⟩ := aI a3
      refine aC (cU cR rfl h9 rfl rfl rfl d3) ?_
      obtain ⟨f7, d4, e2⟩ := bX.el (sz := 3) rfl h9 d3
      cases e2
      refine aC (bW (k' := a5.toNat * 3 + 2) iU rfl d4 rfl) (aC (bL (t := 2) cM b0 d4 rfl rfl) (aC (aG (v := i64 d2.To) rfl) (aF (aA (bB (bN (aQ (aQ ?_))))))))
      have e3 := c4 _ (Option.some.inj a3).symm
      subst e3
      have hm : (some d2.To) = some R := hm
      have e4 := Option.some.inj hm
      subst e4
      exact bN (aQ (aQ (aZ Tryz.results70 rfl ⟨rfl, b0⟩)))
     ·exact aM c2 d1 (aX (bG (aA (aB (aC (aD d0) (aC (cI rfl rfl) (aC (aG (v := i64 (wr (a5 + 1))) rfl) (aF (aA ⟨wr (a5 + 1), (Option.some.inj a3).symm, c9, e0, e1, rfl, b0⟩)))))))))
    refine cW (C := fun w' => aN G K (L) w') bR (by kernel_rfl) (aN.mono a0 (dB.drew _)) (aS (fun _ a0 => aD a8) (aS (fun _ a0 => cS rfl h3) (aS (fun _ a0 => bW (k' := k2 + 3) dI rfl h3 rfl) (aS (fun _ a0 => bL (t := 3) iC a0 h3 rfl rfl) (aS (fun _ a0 => aD a9) ?_)))))
    obtain ⟨e5, c3, a3⟩ := aI a3
    refine aS (fun _ a0 => cU cR rfl h9 rfl rfl rfl c3) ?_
    obtain ⟨f8, b1, e6⟩ := bX.el (sz := 3) rfl h9 c3
    cases e6
    refine aS (fun _ a0 => bW (k' := a5.toNat * 3 + 0) iB rfl b1 rfl) (aS (fun _ a0 => bL (t := 0) cM a0 b1 rfl rfl) (aS (fun _ a0 => aD b8) (aS (fun _ a0 => kC rfl rfl) (aS (fun _ a0 => aD (v := Value.bool (e5.From == state)) rfl) ?_))))
    rcases aJ a3 with ⟨a2, a3⟩ | ⟨a2, a3⟩
    ·refine bD (g := 31) rfl rfl a2 (aS (fun _ a0 => aD a8) (bD (g := 31) rfl rfl a2 (aS (fun _ a0 => cS rfl h3) (bD (g := 31) rfl rfl a2 (aS (fun _ a0 => bW (k' := k2 + 2) gS rfl h3 rfl) (bD (g := 31) rfl rfl a2 (aS (fun _ a0 => bL (t := 2) nY a0 h3 rfl rfl) (bD (g := 31) rfl rfl a2 (aS (fun _ a0 => aD a8) (bD (g := 31) rfl rfl a2 (aS (fun _ a0 => cS rfl h3) (bD (g := 31) rfl rfl a2 (aS (fun _ a0 => bW (k' := k2 + 3) dI rfl h3 rfl) (bD (g := 31) rfl rfl a2 (aS (fun _ a0 => bL (t := 3) iC a0 h3 rfl rfl) (bD (g := 31) rfl rfl a2 (aS (fun _ a0 => aD a9) (bD (g := 31) rfl rfl a2 (aS (fun _ a0 => cU cR rfl h9 rfl rfl rfl c3) (bD (g := 31) rfl rfl a2 (aS (fun _ a0 => bW (k' := a5.toNat * 3 + 1) fP rfl b1 rfl) (bD (g := 31) rfl rfl a2 (aS (fun _ a0 => bL (t := 1) cM a0 b1 rfl rfl) ?_)))))))))))))))))))))))
     refine bD (g := 31) rfl rfl a2 ?_
     obtain ⟨d5, d6, a3⟩ := aI a3
     refine aS (fun _ a0 => cU cQ rfl h6 rfl rfl rfl d6) ?_
     obtain ⟨f9, e7, e8⟩ := bX.el (sz := 1) rfl h6 d6
     cases e8
     exact bD (g := 31) rfl rfl a2 (aS (fun _ a0 => bL (t := 0) oI a0 e7 rfl rfl) (bD (g := 31) rfl rfl a2 (aS (fun _ a0 => aD b9) (bD (g := 31) rfl rfl a2 (aS (fun _ a0 => vN rfl rfl) (aS (fun _ a0 => bK (v := Value.bool (d5 == label)) a2 rfl rfl) (dD (fun g0 e9 => (aA ⟨d5 == label, a3, a8, b8, b9, a9, rfl, e9⟩)))))))))
    ·exact aR (g := 31) rfl rfl (bV a2) (aR (g := 31) rfl rfl (bV a2) (aR (g := 31) rfl rfl (bV a2) (aR (g := 31) rfl rfl (bV a2) (aR (g := 31) rfl rfl (bV a2) (aR (g := 31) rfl rfl (bV a2) (aR (g := 31) rfl rfl (bV a2) (aR (g := 31) rfl rfl (bV a2) (aR (g := 31) rfl rfl (bV a2) (aR (g := 31) rfl rfl (bV a2) (aR (g := 31) rfl rfl (bV a2) (aR (g := 31) rfl rfl (bV a2) (aR (g := 31) rfl rfl (bV a2) (aR (g := 31) rfl rfl (bV a2) (aR (g := 31) rfl rfl (bV a2) (aR (g := 31) rfl rfl (bV a2) (aS (fun _ a0 => bM (v := Value.bool false) a2 rfl rfl) (dD (fun g1 f0 => (aA ⟨false, a3, a8, b8, b9, a9, rfl, f0⟩)))))))))))))))))))
   ·refine aM c0 c7 (bY (aY (aY ?_)))
    have f1 := c4 _ (Option.some.inj a3).symm
    subst f1
    have hm : (aBb) = some R := hm
    exact bO (aA ⟨hm, a0⟩)
  refine aB (aC (aD b5) (aC (aD b3) (aC (cS rfl h3) (aC (bW (k' := k2 + 3) dI rfl h3 rfl) (aC (bL (t := 3) iC b6 h3 rfl rfl) (aC (bU (len := d.Edges.length) cR rfl) (aC (cE rfl rfl) (aC (aD (v := Value.bool (decide (a5 < (d.Edges.length : Int)))) rfl) ?_))))))))
  rcases aJ a3 with ⟨a6, a3⟩ | ⟨a6, a3⟩
  ·exact bH (g := 15) a6 (by kernel_rfl) rfl (aC (aD b4) (bH (g := 15) a6 (by kernel_rfl) rfl (aC (tX rfl rfl) (aC (bK (v := Value.bool (decide (0 ≤ state))) a6 rfl rfl) (aF (aA ⟨decide (0 ≤ state), a3, b3, b4, c6, b5, rfl, b6⟩))))))
  ·exact bA (g := 15) a6 (by kernel_rfl) rfl (bA (g := 15) a6 (by kernel_rfl) rfl (aC (bM (v := Value.bool false) a6 rfl rfl) (aF (aA ⟨false, a3, b3, b4, c6, b5, rfl, b6⟩))))
theorem aDz {t : dC} {k2 : Nat} {p : dC} {k11 : Nat} {e : Edge} {k20 : Nat} {q : Int} {R : Int} (hs : aN G K (L) w) (h3 : fN K a1 k2 [i64 t.States, i64 t.Initial, Value.slice a4 t.Labels.length c5, Value.slice a7 t.Edges.length c8]) (h6 : bX K a4 c5 t.Labels) (h9 : bX K a7 c8 t.Edges) (h12 : fN K a10 k11 [i64 p.States, i64 p.Initial, Value.slice a13 p.Labels.length c14, Value.slice a16 p.Edges.length c17]) (h15 : bX K a13 c14 p.Labels) (h18 : bX K a16 c17 p.Edges) (h21 : fN K a19 k20 [i64 e.From, i64 e.Label, i64 e.To]) (hm : aCm t p e q = some R) :
  Calls Tryz.prog 113 ([bZ a1 k2, bZ a10 k11, bZ a19 k20, i64 q] : List Value).toArray w (fW fun v w' => v = i64 R ∧ aN G K (L) w') := by
 refine aU Tryz.func113 rfl (by kernel_rfl) (by show (4 : Nat) ≤ 28; decide) ?_
 unfold aCm at hm
 refine aH (aB (aC (aG (v := i64 0) rfl) (aF (aA (aH (aH (aB (aC (aD (v := bZ a19 k20) rfl) (aC (cS rfl h21) (aC (bW (k' := k20 + 1) fP rfl h21 rfl) (aC (bL (t := 1) cM hs h21 rfl rfl) (aC (kC rfl rfl) (aF (aA ?_))))))))))))))
 rcases aJ hm with ⟨a0, hm⟩ | ⟨a0, hm⟩
 ·refine aO a0 rfl (aH (aB (aC (aD (v := i64 q) rfl) (aC (aG (v := i64 q) rfl) (aF (aA ?_))))))
  have a5 := Option.some.inj hm
  subst a5
  exact bB (aQ (aZ Tryz.results113 rfl ⟨rfl, hs⟩))
 ·refine aM a0 rfl (aX (aA (aH (cW (C := fun w' => aN G K (L) w') bR (by kernel_rfl) (aN.mono hs (dB.drew _)) (aS (fun _ hs => aD (v := bZ a10 k11) rfl) (aS (fun _ hs => aD (v := i64 q) rfl) (aS (fun _ hs => aD (v := bZ a1 k2) rfl) (aS (fun _ hs => cS rfl h3) (aS (fun _ hs => bW (k' := k2 + 2) gS rfl h3 rfl) (aS (fun _ hs => bL (t := 2) nY hs h3 rfl rfl) (aS (fun _ hs => aD (v := bZ a19 k20) rfl) (aS (fun _ hs => cS rfl h21) (aS (fun _ hs => bW (k' := k20 + 1) fP rfl h21 rfl) (aS (fun _ hs => bL (t := 1) cM hs h21 rfl rfl) ?_))))))))))))))
  obtain ⟨a6, a2, hm⟩ := aI hm
  refine aS (fun _ hs => cU cQ rfl h6 rfl rfl rfl a2) ?_
  obtain ⟨b3, a8, a9⟩ := bX.el (sz := 1) rfl h6 a2
  cases a9
  refine aS (fun _ hs => bL (t := 0) oI hs a8 rfl rfl) ?_
  obtain ⟨a3, b0, hm⟩ := aI hm
  refine lC (vs := [bZ a10 k11, i64 q, cF a6]) (v := i64 a3) Tryz.call70 rfl (fun _ hs => (aDy hs h12 h15 h18 b0)) (aS (fun _ hs => aG (v := i64 a3) rfl) (dD (fun b4 b1 => (aA ?_))))
  have b2 := Option.some.inj hm
  subst b2
  exact bB (aZ Tryz.results113 rfl ⟨rfl, b1⟩)
theorem aEK {t : dC} {k2 : Nat} {p : dC} {k11 : Nat} {R : (List Bool)} (hs : aN G K (L) w) (h3 : fN K a1 k2 [i64 t.States, i64 t.Initial, Value.slice a4 t.Labels.length c5, Value.slice a7 t.Edges.length c8]) (h6 : bX K a4 c5 t.Labels) (h9 : bX K a7 c8 t.Edges) (h12 : fN K a10 k11 [i64 p.States, i64 p.Initial, Value.slice a13 p.Labels.length c14, Value.slice a16 p.Edges.length c17]) (h15 : bX K a13 c14 p.Labels) (h18 : bX K a16 c17 p.Edges) (hm : yS t p = some R) :
  Calls Tryz.prog 65 ([bZ a1 k2, bZ a10 k11] : List Value).toArray w (fW fun v w' => ∃ (ra0 : Option Addr) (rc0 : Nat), v = Value.slice ra0 R.length rc0 ∧ aN G K (aT 4 K ra0 rc0 R :: L) w') := by
 refine aU Tryz.func65 rfl (by kernel_rfl) (by show (2 : Nat) ≤ 84; decide) ?_
 unfold yS at hm
 refine aH (aB (aC (aG (v := Value.slice none 0 0) rfl) (aF (aA (aH (gV (C := fun w' => ∃ L', aN G K L' w') [(0, 0), (1, 0), (2, 0), (3, 0), (4, 0), (5, 0), (6, 0), (7, 0), (8, 0), (9, 1), (10, 0)] bR (by kernel_rfl) (fun _ hg => ⟨_, aN.mono hs hg⟩) (fun o6 i1 => ?_)))))))
 have c4 := aN.mono hs i1
 refine cL rfl (fun _ _ => aD (v := bZ a1 k2) rfl) (cL rfl (fun _ _ => cS rfl h3) (cL rfl (fun _ _ => bW (k' := k2 + 0) fX rfl h3 rfl) (cL rfl (fun _ ⟨_, c4⟩ => bL (t := 0) cM c4 h3 rfl rfl) (cL rfl (fun _ _ => aD (v := bZ a10 k11) rfl) (cL rfl (fun _ _ => cS rfl h12) (cL rfl (fun _ _ => bW (k' := k11 + 0) fX rfl h12 rfl) (cL rfl (fun _ ⟨_, c4⟩ => bL (t := 0) cM c4 h12 rfl rfl) (cL rfl (fun _ _ => aDe rfl rfl) (oB rfl ?_)))))))))
 obtain ⟨a3, i2, hm⟩ := aI hm
 refine aDg (e := (false : Bool)) iV ez_4 rfl rfl c4 rfl rfl rfl i2 rfl (fun a5 i3 (g0 : aN G K (aT 4 K a5 a3.length a3 :: L) i3) => (aF (aA ⟨⟨_, g0⟩, ?_⟩)))
 refine cL rfl (fun _ _ => aG (v := Value.slice a5 a3.length a3.length) rfl) (pS (aA (aH (aH (aB (aC (aG (v := Value.bool true) rfl) (aF (aA (bC (fun f w => ∃ (c6 : List Bool), sF c6 = some R ∧ f 5 = Value.slice a5 c6.length a3.length ∧ aN G K (aT 4 K a5 a3.length c6 :: L) w) ?_ ?_)))))))))
 ·rintro f o7 ⟨c6, hm, i4, i5⟩
  unfold sF at hm
  refine aA (aH (aB (aC (aD i4) (aC (aG (v := Value.slice a5 c6.length a3.length) rfl) (aF (aA ?_))))))
  have i6 := Option.some.inj hm
  subst i6
  exact bB (aZ Tryz.results65 rfl ⟨a5, a3.length, rfl, i5⟩)
 obtain ⟨o8, i7, hm⟩ := aI hm
 refine cD i7 (fun (s : (List Bool × Bool)) f w => match s with | (b9, e9) => f 0 = bZ a1 k2 ∧ f 1 = bZ a10 k11 ∧ f 5 = Value.slice a5 b9.length a3.length ∧ f 6 = Value.bool e9 ∧ aN G K (aT 4 K a5 a3.length b9 :: L) w) ?_ ?_
 ·exact ⟨rfl, rfl, rfl, rfl, g0⟩
 ·rintro ⟨b9, e9⟩ d7 f o9 b0 i8 ⟨i9, j0, g1, j1, g2⟩
  replace b0 : qL t p b9 e9 = some d7 := b0
  unfold qL at b0
  refine aH (aH (aB (aC (aD j1) (aF (aA ?_)))))
  rcases aJ b0 with ⟨f0, b0⟩ | ⟨f0, b0⟩
  ·refine aO f0 rfl (aX (aA (bC (fun f w => ∃ (c7 : List Bool) (d8 : Bool), aAi c7 d8 = some d7 ∧ f 0 = bZ a1 k2 ∧ f 1 = bZ a10 k11 ∧ f 5 = Value.slice a5 c7.length a3.length ∧ f 6 = Value.bool d8 ∧ aN G K (aT 4 K a5 a3.length c7 :: L) w) ?_ ?_)))
   ·rintro f p0 ⟨c7, d8, b0, j2, j3, j4, j5, j6⟩
    unfold aAi at b0
    exact aA ⟨(c7, d8), (Option.some.inj b0).symm, j2, j3, j4, j5, j6⟩
   refine aH (aB (aC (aG (v := Value.bool false) rfl) (aF (aA (aH (aB (aC (aG (v := i64 0) rfl) (aF (aA (bC (fun f w => ∃ (c9 : List Bool) (d9 : Bool), wD c9 d9 = some d7 ∧ f 0 = bZ a1 k2 ∧ f 1 = bZ a10 k11 ∧ f 5 = Value.slice a5 c9.length a3.length ∧ f 6 = Value.bool d9 ∧ aN G K (aT 4 K a5 a3.length c9 :: L) w) ?_ ?_))))))))))
   ·rintro f p1 ⟨c9, d9, b0, j7, j8, j9, k0, k1⟩
    unfold wD at b0
    exact bG (aA ⟨c9, d9, b0, j7, j8, j9, k0, k1⟩)
   obtain ⟨p2, k3, b0⟩ := aI b0
   refine cD k3 (fun (s : (List Bool × Bool × Int)) f w => match s with | (b8, d0, b2) => f 0 = bZ a1 k2 ∧ f 1 = bZ a10 k11 ∧ f 5 = Value.slice a5 b8.length a3.length ∧ f 6 = Value.bool d0 ∧ f 7 = i64 b2 ∧ aN G K (aT 4 K a5 a3.length b8 :: L) w) ?_ ?_
   ·exact ⟨i9, j0, g1, rfl, rfl, g2⟩
   ·rintro ⟨b8, d0, b2⟩ e0 f p3 a9 k4 ⟨e1, g3, g4, g5, f1, d1⟩
    replace a9 : pB t p b8 d0 b2 = some e0 := a9
    unfold pB at a9
    refine aH (aH (aB (aC (aD f1) (aC (aD e1) (aC (cS rfl h3) (aC (bW (k' := k2 + 3) dI rfl h3 rfl) (aC (bL (t := 3) iC d1 h3 rfl rfl) (aC (bU (len := t.Edges.length) cR rfl) (aC (cE rfl rfl) (aF (aA ?_)))))))))))
    rcases aJ a9 with ⟨f2, a9⟩ | ⟨f2, a9⟩
    ·refine aO f2 rfl (aX (aA (aH (bC (fun f w => ∃ (d2 : List Bool) (e2 : Bool), aAj b2 d2 e2 = some e0 ∧ f 0 = bZ a1 k2 ∧ f 1 = bZ a10 k11 ∧ f 5 = Value.slice a5 d2.length a3.length ∧ f 6 = Value.bool e2 ∧ f 7 = i64 b2 ∧ aN G K (aT 4 K a5 a3.length d2 :: L) w) ?_ ?_))))
     ·rintro f p4 ⟨d2, e2, a9, k5, k6, k7, k8, k9, l0⟩
      unfold aAj at a9
      exact aA (aB (aC (aD k9) (aC (cI rfl rfl) (aC (aG (v := i64 (wr (b2 + 1))) rfl) (aF (aA ⟨(d2, e2, wr (b2 + 1)), (Option.some.inj a9).symm, k5, k6, k7, k8, rfl, l0⟩))))))
     refine aH (aB (aC (aD e1) (aC (cS rfl h3) (aC (bW (k' := k2 + 3) dI rfl h3 rfl) (aC (bL (t := 3) iC d1 h3 rfl rfl) (aC (aD f1) ?_))))))
     obtain ⟨a0, g6, a9⟩ := aI a9
     refine aC (cU cR rfl h9 rfl rfl rfl g6) ?_
     obtain ⟨p5, l1, l2⟩ := bX.el (sz := 3) rfl h9 g6
     cases l2
     refine aC (fO (t := 0) (vs := [i64 a0.From, i64 a0.Label, i64 a0.To]) qC d1 l1 rfl rfl rfl) (cG (vs := [i64 0, i64 0, i64 0]) Tryz.zeroValue63 d1 rfl (fun b5 p6 l3 => (cC (i := 0) (ns := [i64 a0.From, i64 a0.Label, i64 a0.To]) (us := [i64 a0.From, i64 a0.Label, i64 a0.To]) Tryz.sizeOf63 l3 rfl rfl rfl rfl rfl (dT rfl) rfl rfl (fun l4 (l5 : aN G K (box b5 63 [i64 a0.From, i64 a0.Label, i64 a0.To] :: aT 4 K a5 a3.length b8 :: L) l4) => (aF (aA (aH (aB (aC (aG (v := i64 0) rfl) (aF (aA (bC (fun f w => ∃ (d3 : List Bool) (e3 : Bool), wE b2 d3 e3 = some e0 ∧ f 0 = bZ a1 k2 ∧ f 1 = bZ a10 k11 ∧ f 5 = Value.slice a5 d3.length a3.length ∧ f 6 = Value.bool e3 ∧ f 7 = i64 b2 ∧ aN G K (aT 4 K a5 a3.length d3 :: L) w) ?_ ?_))))))))))))
     ·rintro f p7 ⟨d3, e3, a9, l6, l7, l8, l9, m0, m1⟩
      unfold wE at a9
      exact bG (aA ⟨d3, e3, a9, l6, l7, l8, l9, m0, m1⟩)
     obtain ⟨p8, m2, a9⟩ := aI a9
     refine cD m2 (fun (s : (List Bool × Bool × Int)) f w => match s with | (b3, b6, b4) => f 0 = bZ a1 k2 ∧ f 1 = bZ a10 k11 ∧ f 5 = Value.slice a5 b3.length a3.length ∧ f 6 = Value.bool b6 ∧ f 7 = i64 b2 ∧ f 8 = Value.pointer (some ⟨b5, 0, none⟩) ∧ f 9 = i64 b4 ∧ aN G K (box b5 63 [i64 a0.From, i64 a0.Label, i64 a0.To] :: aT 4 K a5 a3.length b3 :: L) w) ?_ ?_
     ·exact ⟨e1, g3, g4, g5, f1, rfl, rfl, l5⟩
     ·rintro ⟨b3, b6, b4⟩ f3 f p9 a2 m3 ⟨d4, b7, c0, e4, e5, c1, c2, b1⟩
      replace a2 : mK t p a0 b3 b6 b4 = some f3 := a2
      unfold mK at a2
      refine aH (aH (aB (aC (aD c2) (aC (aD b7) (aC (cS rfl h12) (aC (bW (k' := k11 + 0) fX rfl h12 rfl) (aC (bL (t := 0) cM b1 h12 rfl rfl) (aC (cE rfl rfl) (aF (aA ?_))))))))))
      rcases aJ a2 with ⟨f4, a2⟩ | ⟨f4, a2⟩
      ·refine aO f4 rfl (aX (aA (aH (bC (fun f w => ∃ (d5 : List Bool) (e6 : Bool), kO b4 d5 e6 = some f3 ∧ f 0 = bZ a1 k2 ∧ f 1 = bZ a10 k11 ∧ f 5 = Value.slice a5 d5.length a3.length ∧ f 6 = Value.bool e6 ∧ f 7 = i64 b2 ∧ f 8 = Value.pointer (some ⟨b5, 0, none⟩) ∧ f 9 = i64 b4 ∧ aN G K (box b5 63 [i64 a0.From, i64 a0.Label, i64 a0.To] :: aT 4 K a5 a3.length d5 :: L) w) ?_ ?_))))
       ·rintro f q0 ⟨d5, e6, a2, m4, m5, m6, m7, m8, m9, n0, n1⟩
        unfold kO at a2
        exact aA (aB (aC (aD n0) (aC (cI rfl rfl) (aC (aG (v := i64 (wr (b4 + 1))) rfl) (aF (aA ⟨(d5, e6, wr (b4 + 1)), (Option.some.inj a2).symm, m4, m5, m6, m7, m8, m9, rfl, n1⟩))))))
       refine aH (cW (C := fun w' => aN G K (box b5 63 [i64 a0.From, i64 a0.Label, i64 a0.To] :: aT 4 K a5 a3.length b3 :: L) w') bR (by kernel_rfl) (aN.mono b1 (dB.drew _)) (aS (fun _ b1 => bI (t' := 0) iB c1 rfl) (aS (fun _ b1 => cA cM b1 (i := 0) rfl rfl rfl) (aS (fun _ b1 => aD b7) (aS (fun _ b1 => cS rfl h12) (aS (fun _ b1 => bW (k' := k11 + 0) fX rfl h12 rfl) (aS (fun _ b1 => bL (t := 0) cM b1 h12 rfl rfl) (aS (fun _ b1 => aDe rfl rfl) (aS (fun _ b1 => aD c2) (aS (fun _ b1 => cI rfl rfl) (aS (fun _ b1 => aG (v := i64 (wr ((wr (a0.From * p.States)) + b4))) rfl) (dD (fun q1 e7 => (aA (aH (aH (aB (aC (aD c0) (aC (aD (v := i64 (wr ((wr (a0.From * p.States)) + b4))) rfl) ?_)))))))))))))))))))
       obtain ⟨q2, d6, a2⟩ := aI a2
       have f5 := dL e7 (i := 1) rfl d6
       refine aC (eT iV rfl f5 rfl rfl rfl d6) (aC (kD (t := 0) aBA e7 (i := 1) rfl d6 rfl rfl rfl) (aF (aA ?_)))
       rcases aJ a2 with ⟨f6, a2⟩ | ⟨f6, a2⟩
       ·exact aO f6 rfl (bY (aY (bO (aA ⟨b3, b6, a2, d4, b7, c0, e4, e5, c1, c2, e7⟩))))
       ·refine aM f6 rfl (aX (aA (aH (aB (aC (aD d4) (aC (aD b7) (aC (aD c2) ?_)))))))
        obtain ⟨q3, c3, n2, n3, n4⟩ := aN.lendB (i := 0) e7 rfl
        obtain ⟨e8, n5, a2⟩ := aI a2
        refine aW (vs := [bZ a1 k2, bZ a10 k11, bZ (some ⟨b5, 0, none⟩) 0, i64 b4]) Tryz.call113 (lst4 rfl rfl c1 rfl) (aDz n3 (h3.mono c3) (h6.mono c3) (h9.mono c3) (h12.mono c3) (h15.mono c3) (h18.mono c3) n2 n5) ?_
        rintro _ q4 ⟨rfl, n6⟩
        have a8 := n4 _ _ n6
        refine aC (aG (v := i64 e8) rfl) (aF (aA (aH (cH (fun f w => ∃ (f7 : Bool), pA p a0 b3 b6 b4 f7 = some f3 ∧ f 0 = bZ a1 k2 ∧ f 1 = bZ a10 k11 ∧ f 5 = Value.slice a5 b3.length a3.length ∧ f 6 = Value.bool b6 ∧ f 7 = i64 b2 ∧ f 8 = Value.pointer (some ⟨b5, 0, none⟩) ∧ f 9 = i64 b4 ∧ f 10 = i64 (wr ((wr (a0.From * p.States)) + b4)) ∧ f 79 = Value.bool f7 ∧ aN G K (box b5 63 [i64 a0.From, i64 a0.Label, i64 a0.To] :: aT 4 K a5 a3.length b3 :: L) w) ?_ ?_))))
        ·rintro f q5 ⟨f7, a2, g7, g8, f8, n7, g9, h0, h1, n8, h2, h4⟩
         unfold pA at a2
         refine aA ?_
         rcases aJ a2 with ⟨f9, a2⟩ | ⟨f9, a2⟩
         ·refine aO f9 h2 (aH (aB (aC (aD f8) (aC (aD n8) (aC (eT iV rfl f5 rfl rfl rfl d6) ?_)))))
          obtain ⟨h5, h7, a2⟩ := aI a2
          exact oA (i := 1) (t := 0) (ns := [Value.bool true]) (e' := (true : Bool)) Tryz.sizeOf4 h4 rfl (Hp.le_refl _) rfl rfl rfl d6 h7 rfl rfl (dT rfl) rfl (fun cs h => by cases h; rfl) (fun n9 (o0 : aN G K (box b5 63 [i64 a0.From, i64 a0.Label, i64 a0.To] :: aT 4 K a5 a3.length h5 :: L) n9) => (aF (aA (aB (aC (aG (v := Value.bool true) rfl) (aF (bG (aA ⟨h5, true, a2, g7, g8, (Eq.trans f8 (congrArg (fun n => Value.slice a5 n a3.length) (gQ h7))), rfl, g9, h0, h1, o0⟩))))))))
         ·exact aM f9 h2 (aX (bG (aA ⟨b3, b6, a2, g7, g8, f8, n7, g9, h0, h1, h4⟩)))
        refine cW (C := fun w' => aN G K (box b5 63 [i64 a0.From, i64 a0.Label, i64 a0.To] :: aT 4 K a5 a3.length b3 :: L) w') bR (by kernel_rfl) (aN.mono a8 (dB.drew _)) (aS (fun _ a8 => aD (v := i64 e8) rfl) (aS (fun _ a8 => cE rfl rfl) (aS (fun _ a8 => aD (v := Value.bool (decide (e8 < 0))) rfl) ?_)))
        rcases aJ a2 with ⟨a6, a2⟩ | ⟨a6, a2⟩
        ·exact aR (g := 66) rfl rfl (bQ a6) (aR (g := 66) rfl rfl (bQ a6) (aR (g := 66) rfl rfl (bQ a6) (aR (g := 66) rfl rfl (bQ a6) (aR (g := 66) rfl rfl (bQ a6) (aR (g := 66) rfl rfl (bQ a6) (aR (g := 66) rfl rfl (bQ a6) (aR (g := 66) rfl rfl (bQ a6) (aR (g := 66) rfl rfl (bQ a6) (aR (g := 66) rfl rfl (bQ a6) (aR (g := 66) rfl rfl (bQ a6) (aR (g := 66) rfl rfl (bQ a6) (aS (fun _ a8 => bK (v := Value.bool true) a6 rfl rfl) (dD (fun q6 o1 => (aA ⟨true, a2, d4, b7, c0, e4, e5, c1, c2, rfl, rfl, o1⟩)))))))))))))))
        ·refine bD (g := 66) rfl rfl (bP a6) (aS (fun _ a8 => aD c0) (bD (g := 66) rfl rfl (bP a6) (aS (fun _ a8 => bI (t' := 2) iU c1 rfl) (bD (g := 66) rfl rfl (bP a6) (aS (fun _ a8 => cA cM a8 (i := 0) rfl rfl rfl) (bD (g := 66) rfl rfl (bP a6) (aS (fun _ a8 => aD b7) (bD (g := 66) rfl rfl (bP a6) (aS (fun _ a8 => cS rfl h12) (bD (g := 66) rfl rfl (bP a6) (aS (fun _ a8 => bW (k' := k11 + 0) fX rfl h12 rfl) (bD (g := 66) rfl rfl (bP a6) (aS (fun _ a8 => bL (t := 0) cM a8 h12 rfl rfl) (bD (g := 66) rfl rfl (bP a6) (aS (fun _ a8 => aDe rfl rfl) (bD (g := 66) rfl rfl (bP a6) (aS (fun _ a8 => aD (v := i64 e8) rfl) (bD (g := 66) rfl rfl (bP a6) (aS (fun _ a8 => cI rfl rfl) (bD (g := 66) rfl rfl (bP a6) ?_))))))))))))))))))))
         obtain ⟨h8, i0, a2⟩ := aI a2
         exact aS (fun _ a8 => eT iV rfl f5 rfl rfl rfl i0) (bD (g := 66) rfl rfl (bP a6) (aS (fun _ a8 => kD (t := 0) aBA a8 (i := 1) rfl i0 rfl rfl rfl) (aS (fun _ a8 => bM (v := Value.bool h8) a6 rfl rfl) (dD (fun q7 o2 => (aA ⟨h8, a2, d4, b7, c0, e4, e5, c1, c2, rfl, rfl, o2⟩))))))
      ·refine aM f4 rfl (bY (aY (aY ?_)))
       have o3 := m3 _ (Option.some.inj a2).symm
       subst o3
       have a9 : (wE b2 b3 b6) = some e0 := a9
       exact bO (aA ⟨b3, b6, a9, d4, b7, c0, e4, e5, (aN.arr 1 [] b1 rfl)⟩)
    ·refine aM f2 rfl (bY (aY (aY ?_)))
     have o4 := k4 _ (Option.some.inj a9).symm
     subst o4
     have b0 : (wD b8 d0) = some d7 := b0
     exact bO (aA ⟨b8, d0, b0, e1, g3, g4, g5, d1⟩)
  ·refine aM f0 rfl (bY (aY (aY ?_)))
   have o5 := i8 _ (Option.some.inj b0).symm
   subst o5
   have hm : (sF b9) = some R := hm
   exact bO (aA ⟨b9, hm, g1, g2⟩)
theorem aFS {t : dC} {k2 : Nat} {k : Int} {R : (List Edge)} (hs : aN G K (L) w) (h3 : fN K a1 k2 [i64 t.States, i64 t.Initial, Value.slice a4 t.Labels.length c5, Value.slice a7 t.Edges.length c8]) (h6 : bX K a4 c5 t.Labels) (h9 : bX K a7 c8 t.Edges) (hm : aBT t k = some R) :
  Calls Tryz.prog 91 ([bZ a1 k2, i64 k] : List Value).toArray w (fW fun v w' => ∃ (ra0 : Option Addr) (rc0 : Nat), v = Value.slice ra0 R.length rc0 ∧ aN G K (aT 63 K ra0 rc0 R :: L) w') := by
 refine aU Tryz.func91 rfl (by kernel_rfl) (by show (2 : Nat) ≤ 38; decide) ?_
 unfold aBT at hm
 refine aH (aB (aC (aG (v := Value.slice none 0 0) rfl) (aF (aA (aH (aB (eN (Kt := K) (xs := ([] : List Edge)) (cs := []) (vs := []) cR zS rfl rfl hs rfl (by kernel_rfl) rfl rfl rfl trivial (fun b8 d1 (d2 : aN G K (aT 63 K b8 0 ([] : List Edge) :: L) d1) => (aC (aG (v := Value.slice b8 ([] : List Edge).length 0) rfl) (aF (aA (aH (aH (aB (aC (aG (v := i64 0) rfl) (aF (aA (bC (fun f w => ∃ (b0 : List Edge) (b1 : Option Addr) (b2 : Nat), wR b0 = some R ∧ f 5 = Value.slice b1 b0.length b2 ∧ aN G K (aT 63 K b1 b2 b0 :: L) w) ?_ ?_))))))))))))))))))
 ·rintro f f1 ⟨b0, b1, b2, hm, d3, d4⟩
  unfold wR at hm
  refine aA (aH (aB (aC (aD d3) (aC (aG (v := Value.slice b1 b0.length b2) rfl) (aF (aA ?_))))))
  have d5 := Option.some.inj hm
  subst d5
  exact bB (aZ Tryz.results91 rfl ⟨b1, b2, rfl, d4⟩)
 obtain ⟨f2, d6, hm⟩ := aI hm
 refine cD d6 (fun (s : (List Edge × Int)) f w => match s with | (a3, a5) => ∃ (a8 : Option Addr) (a9 : Nat), f 0 = bZ a1 k2 ∧ f 1 = i64 k ∧ f 5 = Value.slice a8 a3.length a9 ∧ f 6 = i64 a5 ∧ aN G K (aT 63 K a8 a9 a3 :: L) w) ?_ ?_
 ·exact ⟨b8, 0, rfl, rfl, rfl, rfl, d2⟩
 ·rintro ⟨a3, a5⟩ d0 f f3 a0 d7 ⟨a8, a9, b3, b9, c0, b4, a6⟩
  replace a0 : tN t k a3 a5 = some d0 := a0
  unfold tN at a0
  refine aH (aH (aB (aC (aD b4) (aC (aD b3) (aC (cS rfl h3) (aC (bW (k' := k2 + 3) dI rfl h3 rfl) (aC (bL (t := 3) iC a6 h3 rfl rfl) (aC (bU (len := t.Edges.length) cR rfl) (aC (cE rfl rfl) (aF (aA ?_)))))))))))
  rcases aJ a0 with ⟨c1, a0⟩ | ⟨c1, a0⟩
  ·refine aO c1 rfl (aX (aA (aH (bC (fun f w => ∃ (b5 : List Edge) (b6 : Option Addr) (b7 : Nat), wS a5 b5 = some d0 ∧ f 0 = bZ a1 k2 ∧ f 1 = i64 k ∧ f 5 = Value.slice b6 b5.length b7 ∧ f 6 = i64 a5 ∧ aN G K (aT 63 K b6 b7 b5 :: L) w) ?_ ?_))))
   ·rintro f f4 ⟨b5, b6, b7, a0, d8, d9, e0, e1, e2⟩
    unfold wS at a0
    exact aA (aB (aC (aD e1) (aC (cI rfl rfl) (aC (aG (v := i64 (wr (a5 + 1))) rfl) (aF (aA ⟨(b5, wr (a5 + 1)), (Option.some.inj a0).symm, b6, b7, d8, d9, e0, rfl, e2⟩))))))
   refine aH (aB (aC (aD b3) (aC (cS rfl h3) (aC (bW (k' := k2 + 3) dI rfl h3 rfl) (aC (bL (t := 3) iC a6 h3 rfl rfl) (aC (aD b4) ?_))))))
   obtain ⟨a2, c2, a0⟩ := aI a0
   refine aC (cU cR rfl h9 rfl rfl rfl c2) ?_
   obtain ⟨f5, c3, e3⟩ := bX.el (sz := 3) rfl h9 c2
   cases e3
   refine aC (bW (k' := a5.toNat * 3 + 0) iB rfl c3 rfl) (aC (bL (t := 0) cM a6 c3 rfl rfl) (aC (aD b9) (aC (kC rfl rfl) (aF (aA ?_)))))
   rcases aJ a0 with ⟨c4, a0⟩ | ⟨c4, a0⟩
   ·refine aO c4 rfl (aB (aC (aD c0) (aC (aD b3) (aC (cS rfl h3) (aC (bW (k' := k2 + 3) dI rfl h3 rfl) (aC (bL (t := 3) iC a6 h3 rfl rfl) (aC (aD b4) (aC (cU cR rfl h9 rfl rfl rfl c2) (aC (fO (t := 0) (vs := [i64 a2.From, i64 a2.Label, i64 a2.To]) qC a6 c3 rfl rfl rfl) (eN (Kt := K) (xs := ([a2] : List Edge)) (cs := [i64 a2.From, i64 a2.Label, i64 a2.To]) (vs := [(0, Value.agg #[i64 a2.From, i64 a2.Label, i64 a2.To])]) cR zS rfl rfl a6 rfl (by kernel_rfl) rfl rfl rfl ⟨rfl, trivial⟩ (fun e4 e5 (e6 : aN G K (aT 63 K e4 1 ([a2] : List Edge) :: aT 63 K a8 a9 a3 :: L) e5) => ?_)))))))))))
    obtain ⟨c6, e7, a0⟩ := aI a0
    exact iZ (i := 0) cR Tryz.underlying28 zS rfl rfl e6 rfl (Hp.le_refl _) (Hp.le_refl _) e7 rfl rfl rfl rfl (fun _ h => h) (fun c7 c9 e8 (e9 : aN G K (aT 63 K c7 c9 c6 :: L) e8) => (aC (aG (v := Value.slice c7 c6.length c9) rfl) (aF (bG (aA ⟨c6, c7, c9, a0, b3, b9, rfl, b4, e9⟩)))))
   ·exact aM c4 rfl (aX (bG (aA ⟨a3, a8, a9, a0, b3, b9, c0, b4, a6⟩)))
  ·refine aM c1 rfl (bY (aY (aY ?_)))
   have f0 := d7 _ (Option.some.inj a0).symm
   subst f0
   have hm : (wR a3) = some R := hm
   exact bO (aA ⟨a3, a8, a9, hm, c0, a6⟩)
theorem aFg {t : dC} {k2 : Nat} {p : dC} {k11 : Nat} {R : (List Bool)} (hs : aN G K (L) w) (h3 : fN K a1 k2 [i64 t.States, i64 t.Initial, Value.slice a4 t.Labels.length c5, Value.slice a7 t.Edges.length c8]) (h6 : bX K a4 c5 t.Labels) (h9 : bX K a7 c8 t.Edges) (h12 : fN K a10 k11 [i64 p.States, i64 p.Initial, Value.slice a13 p.Labels.length c14, Value.slice a16 p.Edges.length c17]) (h15 : bX K a13 c14 p.Labels) (h18 : bX K a16 c17 p.Edges) (hm : aAA t p = some R) :
  Calls Tryz.prog 66 ([bZ a1 k2, bZ a10 k11] : List Value).toArray w (fW fun v w' => ∃ (ra0 : Option Addr) (rc0 : Nat), v = Value.slice ra0 R.length rc0 ∧ aN G K (aT 4 K ra0 rc0 R :: L) w') := by
 refine aU Tryz.func66 rfl (by kernel_rfl) (by show (2 : Nat) ≤ 113; decide) ?_
 unfold aAA at hm
 refine aH (aB (aC (aG (v := Value.slice none 0 0) rfl) (aF (aA (aH (gV (C := fun w' => ∃ L', aN G K L' w') [(0, 0), (1, 0), (2, 0), (3, 0), (4, 0), (5, 0), (6, 0), (7, 0), (8, 0), (9, 1), (10, 0)] bR (by kernel_rfl) (fun _ hg => ⟨_, aN.mono hs hg⟩) (fun v9 m4 => ?_)))))))
 have d3 := aN.mono hs m4
 refine cL rfl (fun _ _ => aD (v := bZ a1 k2) rfl) (cL rfl (fun _ _ => cS rfl h3) (cL rfl (fun _ _ => bW (k' := k2 + 0) fX rfl h3 rfl) (cL rfl (fun _ ⟨_, d3⟩ => bL (t := 0) cM d3 h3 rfl rfl) (cL rfl (fun _ _ => aD (v := bZ a10 k11) rfl) (cL rfl (fun _ _ => cS rfl h12) (cL rfl (fun _ _ => bW (k' := k11 + 0) fX rfl h12 rfl) (cL rfl (fun _ ⟨_, d3⟩ => bL (t := 0) cM d3 h12 rfl rfl) (cL rfl (fun _ _ => aDe rfl rfl) (oB rfl ?_)))))))))
 obtain ⟨a0, m5, hm⟩ := aI hm
 refine aDg (e := (false : Bool)) iV ez_4 rfl rfl d3 rfl rfl rfl m5 rfl (fun a2 m6 (j5 : aN G K (aT 4 K a2 a0.length a0 :: L) m6) => (aF (aA ⟨⟨_, j5⟩, ?_⟩)))
 refine cL rfl (fun _ _ => aG (v := Value.slice a2 a0.length a0.length) rfl) (pS (aA (aH (aH (aB (aC (aG (v := i64 0) rfl) (aF (aA (bC (fun f w => ∃ (e8 : List Bool), sH t p e8 = some R ∧ f 0 = bZ a1 k2 ∧ f 1 = bZ a10 k11 ∧ f 5 = Value.slice a2 e8.length a0.length ∧ aN G K (aT 4 K a2 a0.length e8 :: L) w) ?_ ?_)))))))))
 ·rintro f w0 ⟨e8, hm, m7, m8, m9, n0⟩
  unfold sH at hm
  refine aA (aH (aH (aB (aC (aG (v := Value.bool true) rfl) (aF (aA (bC (fun f w => ∃ (d4 : List Bool), uE d4 = some R ∧ f 5 = Value.slice a2 d4.length a0.length ∧ aN G K (aT 4 K a2 a0.length d4 :: L) w) ?_ ?_)))))))
  ·rintro f w1 ⟨d4, hm, n1, n2⟩
   unfold uE at hm
   refine aA (aH (aB (aC (aD n1) (aC (aG (v := Value.slice a2 d4.length a0.length) rfl) (aF (aA ?_))))))
   have n3 := Option.some.inj hm
   subst n3
   exact bB (aZ Tryz.results66 rfl ⟨a2, a0.length, rfl, n2⟩)
  obtain ⟨w2, n4, hm⟩ := aI hm
  refine cD n4 (fun (s : (List Bool × Bool)) f w => match s with | (c6, g7) => f 0 = bZ a1 k2 ∧ f 1 = bZ a10 k11 ∧ f 5 = Value.slice a2 c6.length a0.length ∧ f 7 = Value.bool g7 ∧ aN G K (aT 4 K a2 a0.length c6 :: L) w) ?_ ?_
  ·exact ⟨m7, m8, m9, rfl, n0⟩
  ·rintro ⟨c6, g7⟩ e9 f w3 b4 n5 ⟨n6, n7, j6, n8, j7⟩
   replace b4 : sG t p c6 g7 = some e9 := b4
   unfold sG at b4
   refine aH (aH (aB (aC (aD n8) (aF (aA ?_)))))
   rcases aJ b4 with ⟨g8, b4⟩ | ⟨g8, b4⟩
   ·refine aO g8 rfl (aX (aA (bC (fun f w => ∃ (d5 : List Bool) (f0 : Bool), aBc d5 f0 = some e9 ∧ f 0 = bZ a1 k2 ∧ f 1 = bZ a10 k11 ∧ f 5 = Value.slice a2 d5.length a0.length ∧ f 7 = Value.bool f0 ∧ aN G K (aT 4 K a2 a0.length d5 :: L) w) ?_ ?_)))
    ·rintro f w4 ⟨d5, f0, b4, n9, o0, o1, o2, o3⟩
     unfold aBc at b4
     exact aA ⟨(d5, f0), (Option.some.inj b4).symm, n9, o0, o1, o2, o3⟩
    refine aH (aB (aC (aG (v := Value.bool false) rfl) (aF (aA (aH (aB (aC (aG (v := i64 0) rfl) (aF (aA (bC (fun f w => ∃ (d6 : List Bool) (f1 : Bool), xO d6 f1 = some e9 ∧ f 0 = bZ a1 k2 ∧ f 1 = bZ a10 k11 ∧ f 5 = Value.slice a2 d6.length a0.length ∧ f 7 = Value.bool f1 ∧ aN G K (aT 4 K a2 a0.length d6 :: L) w) ?_ ?_))))))))))
    ·rintro f w5 ⟨d6, f1, b4, o4, o5, o6, o7, o8⟩
     unfold xO at b4
     exact bG (aA ⟨d6, f1, b4, o4, o5, o6, o7, o8⟩)
    obtain ⟨w6, o9, b4⟩ := aI b4
    refine cD o9 (fun (s : (List Bool × Bool × Int)) f w => match s with | (c7, d7, a8) => f 0 = bZ a1 k2 ∧ f 1 = bZ a10 k11 ∧ f 5 = Value.slice a2 c7.length a0.length ∧ f 7 = Value.bool d7 ∧ f 8 = i64 a8 ∧ aN G K (aT 4 K a2 a0.length c7 :: L) w) ?_ ?_
    ·exact ⟨n6, n7, j6, rfl, rfl, j7⟩
    ·rintro ⟨c7, d7, a8⟩ f2 f w7 b3 p0 ⟨f3, j8, j9, k0, g9, h0⟩
     replace b3 : mL t p c7 d7 a8 = some f2 := b3
     unfold mL at b3
     refine aH (aH (aB (aC (aD g9) (aC (aD f3) (aC (cS rfl h3) (aC (bW (k' := k2 + 0) fX rfl h3 rfl) (aC (bL (t := 0) cM h0 h3 rfl rfl) (aC (cE rfl rfl) (aF (aA ?_))))))))))
     rcases aJ b3 with ⟨h1, b3⟩ | ⟨h1, b3⟩
     ·refine aO h1 rfl (aX (aA (aH (bC (fun f w => ∃ (d8 : List Bool) (f4 : Bool), aBd a8 d8 f4 = some f2 ∧ f 0 = bZ a1 k2 ∧ f 1 = bZ a10 k11 ∧ f 5 = Value.slice a2 d8.length a0.length ∧ f 7 = Value.bool f4 ∧ f 8 = i64 a8 ∧ aN G K (aT 4 K a2 a0.length d8 :: L) w) ?_ ?_))))
      ·rintro f w8 ⟨d8, f4, b3, p1, p2, p3, p4, p5, p6⟩
       unfold aBd at b3
       exact aA (aB (aC (aD p5) (aC (cI rfl rfl) (aC (aG (v := i64 (wr (a8 + 1))) rfl) (aF (aA ⟨(d8, f4, wr (a8 + 1)), (Option.some.inj b3).symm, p1, p2, p3, p4, rfl, p6⟩))))))
      refine aH (aB (aC (aD f3) (aC (aD g9) ?_)))
      obtain ⟨b0, p7, b3⟩ := aI b3
      refine aW (vs := [bZ a1 k2, i64 a8]) Tryz.call91 rfl (aFS h0 h3 h6 h9 p7) ?_
      rintro _ w9 ⟨b5, b6, rfl, p8⟩
      refine aC (aG (v := Value.slice b5 b0.length b6) rfl) (aF (aA (aH (aB (aC (aG (v := i64 0) rfl) (aF (aA (bC (fun f w => ∃ (d9 : List Bool) (f5 : Bool), xP a8 d9 f5 = some f2 ∧ f 0 = bZ a1 k2 ∧ f 1 = bZ a10 k11 ∧ f 5 = Value.slice a2 d9.length a0.length ∧ f 7 = Value.bool f5 ∧ f 8 = i64 a8 ∧ aN G K (aT 4 K a2 a0.length d9 :: L) w) ?_ ?_))))))))
      ·rintro f x0 ⟨d9, f5, b3, p9, q0, q1, q2, q3, q4⟩
       unfold xP at b3
       exact bG (aA ⟨d9, f5, b3, p9, q0, q1, q2, q3, q4⟩)
      obtain ⟨x1, q5, b3⟩ := aI b3
      refine cD q5 (fun (s : (List Bool × Bool × Int)) f w => match s with | (b2, b7, b1) => f 0 = bZ a1 k2 ∧ f 1 = bZ a10 k11 ∧ f 5 = Value.slice a2 b2.length a0.length ∧ f 7 = Value.bool b7 ∧ f 8 = i64 a8 ∧ f 9 = Value.slice b5 b0.length b6 ∧ f 10 = i64 b1 ∧ aN G K (aT 63 K b5 b6 b0 :: aT 4 K a2 a0.length b2 :: L) w) ?_ ?_
      ·exact ⟨f3, j8, j9, k0, g9, rfl, rfl, p8⟩
      ·rintro ⟨b2, b7, b1⟩ e0 f x2 a3 q6 ⟨h2, e1, f6, h4, f7, h5, f8, c2⟩
       replace a3 : pD t p a8 b0 b2 b7 b1 = some e0 := a3
       unfold pD at a3
       refine aH (aH (aB (aC (aD f8) (aC (aD e1) (aC (cS rfl h12) (aC (bW (k' := k11 + 0) fX rfl h12 rfl) (aC (bL (t := 0) cM c2 h12 rfl rfl) (aC (cE rfl rfl) (aF (aA ?_))))))))))
       rcases aJ a3 with ⟨h7, a3⟩ | ⟨h7, a3⟩
       ·refine aO h7 rfl (aX (aA (aH (bC (fun f w => ∃ (e2 : List Bool) (f9 : Bool), kJ b1 e2 f9 = some e0 ∧ f 0 = bZ a1 k2 ∧ f 1 = bZ a10 k11 ∧ f 5 = Value.slice a2 e2.length a0.length ∧ f 7 = Value.bool f9 ∧ f 8 = i64 a8 ∧ f 9 = Value.slice b5 b0.length b6 ∧ f 10 = i64 b1 ∧ aN G K (aT 63 K b5 b6 b0 :: aT 4 K a2 a0.length e2 :: L) w) ?_ ?_))))
        ·rintro f x3 ⟨e2, f9, a3, q7, q8, q9, r0, r1, r2, r3, r4⟩
         unfold kJ at a3
         exact aA (aB (aC (aD r3) (aC (cI rfl rfl) (aC (aG (v := i64 (wr (b1 + 1))) rfl) (aF (aA ⟨(e2, f9, wr (b1 + 1)), (Option.some.inj a3).symm, q7, q8, q9, r0, r1, r2, rfl, r4⟩))))))
        refine aH (aB (aC (aD f7) (aC (aD e1) (aC (cS rfl h12) (aC (bW (k' := k11 + 0) fX rfl h12 rfl) (aC (bL (t := 0) cM c2 h12 rfl rfl) (aC (aDe rfl rfl) (aC (aD f8) (aC (cI rfl rfl) (aC (aG (v := i64 (wr ((wr (a8 * p.States)) + b1))) rfl) (aF (aA (aH (aH (cH (fun f w => ∃ (h8 : Bool), pC t p a8 b0 b2 b7 b1 h8 = some e0 ∧ f 0 = bZ a1 k2 ∧ f 1 = bZ a10 k11 ∧ f 5 = Value.slice a2 b2.length a0.length ∧ f 7 = Value.bool b7 ∧ f 8 = i64 a8 ∧ f 9 = Value.slice b5 b0.length b6 ∧ f 10 = i64 b1 ∧ f 11 = i64 (wr ((wr (a8 * p.States)) + b1)) ∧ f 71 = Value.bool h8 ∧ aN G K (aT 63 K b5 b6 b0 :: aT 4 K a2 a0.length b2 :: L) w) ?_ ?_)))))))))))))))
        ·rintro f x4 ⟨h8, a3, k1, k3, k4, k5, k6, k7, k8, r5, k9, l0⟩
         unfold pC at a3
         refine aA ?_
         rcases aJ a3 with ⟨i0, a3⟩ | ⟨i0, a3⟩
         ·exact aO i0 k9 (bY (aY (bO (aA ⟨b2, b7, a3, k1, k3, k4, k5, k6, k7, k8, l0⟩))))
         ·refine aM i0 k9 (aX (aA (aH (aB (aC (aG (v := Value.bool false) rfl) (aF (aA (aH (aH (aB (aC (aG (v := i64 0) rfl) (aF (aA (bC (fun f w => ∃ (i1 : Bool), uF p a8 b2 b7 b1 i1 = some e0 ∧ f 0 = bZ a1 k2 ∧ f 1 = bZ a10 k11 ∧ f 5 = Value.slice a2 b2.length a0.length ∧ f 7 = Value.bool b7 ∧ f 8 = i64 a8 ∧ f 9 = Value.slice b5 b0.length b6 ∧ f 10 = i64 b1 ∧ f 11 = i64 (wr ((wr (a8 * p.States)) + b1)) ∧ f 12 = Value.bool i1 ∧ aN G K (aT 63 K b5 b6 b0 :: aT 4 K a2 a0.length b2 :: L) w) ?_ ?_))))))))))))))
          ·rintro f x5 ⟨i1, a3, l1, l2, i2, r6, l3, l4, l5, r7, r8, i3⟩
           unfold uF at a3
           refine aA (aH (aB (aC (aD r8) (aC (dN rfl) (aF (aA ?_))))))
           rcases aJ a3 with ⟨i4, a3⟩ | ⟨i4, a3⟩
           ·refine aO i4 rfl (aH (aB (aC (aD i2) (aC (aD r7) ?_))))
            obtain ⟨x6, i5, a3⟩ := aI a3
            have r9 := dL i3 (i := 1) rfl i5
            refine aC (eT iV rfl r9 rfl rfl rfl i5) ?_
            obtain ⟨l6, l7, a3⟩ := aI a3
            exact oA (i := 1) (t := 0) (ns := [Value.bool false]) (e' := (false : Bool)) Tryz.sizeOf4 i3 rfl (Hp.le_refl _) rfl rfl rfl i5 l7 rfl rfl (dT rfl) rfl (fun cs h => by cases h; rfl) (fun s0 (s1 : aN G K (aT 63 K b5 b6 b0 :: aT 4 K a2 a0.length l6 :: L) s0) => (aF (aA (aB (aC (aG (v := Value.bool true) rfl) (aF (bG (aA ⟨l6, true, a3, l1, l2, (Eq.trans i2 (congrArg (fun n => Value.slice a2 n a0.length) (gQ l7))), rfl, l3, l4, l5, s1⟩))))))))
           ·exact aM i4 rfl (aX (bG (aA ⟨b2, b7, a3, l1, l2, i2, r6, l3, l4, l5, i3⟩)))
          obtain ⟨x7, s2, a3⟩ := aI a3
          refine cD s2 (fun (s : (Bool × Int)) f w => match s with | (c9, c0) => f 0 = bZ a1 k2 ∧ f 1 = bZ a10 k11 ∧ f 5 = Value.slice a2 b2.length a0.length ∧ f 7 = Value.bool b7 ∧ f 8 = i64 a8 ∧ f 9 = Value.slice b5 b0.length b6 ∧ f 10 = i64 b1 ∧ f 11 = i64 (wr ((wr (a8 * p.States)) + b1)) ∧ f 12 = Value.bool c9 ∧ f 13 = i64 c0 ∧ aN G K (aT 63 K b5 b6 b0 :: aT 4 K a2 a0.length b2 :: L) w) ?_ ?_
          ·exact ⟨k1, k3, k4, k5, k6, k7, k8, r5, rfl, rfl, l0⟩
          ·rintro ⟨c9, c0⟩ l8 f x8 a9 s3 ⟨e3, d0, e4, g0, g1, c3, e5, g2, l9, d1, i6⟩
           replace a9 : oE t p b0 b2 b1 c9 c0 = some l8 := a9
           unfold oE at a9
           refine aH (aH (aB (aC (aD d1) (aC (aD c3) (aC (bU (len := b0.length) cR rfl) (aC (cE rfl rfl) (aF (aA ?_))))))))
           rcases aJ a9 with ⟨i7, a9⟩ | ⟨i7, a9⟩
           ·refine aO i7 rfl (aX (aA (aH (cK (aH (aB (aC (aD e3) (aC (aD d0) (aC (aD c3) (aC (aD d1) ?_))))))))))
            obtain ⟨x9, e6, a9⟩ := aI a9
            have i8 := dL i6 (i := 0) rfl e6
            refine aC (eT cR rfl i8 rfl rfl rfl e6) (aC (aD e5) ?_)
            obtain ⟨y0, d2, s4, s5, s6⟩ := aN.lendS (i := 0) i6 (Hp.le_refl _) rfl
            obtain ⟨y1, s7, s8⟩ := bX.el (sz := 3) rfl s4 e6
            cases s8
            obtain ⟨g3, s9, a9⟩ := aI a9
            refine aW (vs := [bZ a1 k2, bZ a10 k11, bZ b5 (c0.toNat * 3 + 0), i64 b1]) Tryz.call113 rfl (aDz s5 (h3.mono d2) (h6.mono d2) (h9.mono d2) (h12.mono d2) (h15.mono d2) (h18.mono d2) s7 s9) ?_
            rintro _ y2 ⟨rfl, t0⟩
            have a5 := s6 _ _ t0
            refine aC (aG (v := i64 g3) rfl) (aF (aA (cH (fun f w => ∃ (g4 : Bool), rF c0 g4 = some l8 ∧ f 0 = bZ a1 k2 ∧ f 1 = bZ a10 k11 ∧ f 5 = Value.slice a2 b2.length a0.length ∧ f 7 = Value.bool b7 ∧ f 8 = i64 a8 ∧ f 9 = Value.slice b5 b0.length b6 ∧ f 10 = i64 b1 ∧ f 11 = i64 (wr ((wr (a8 * p.States)) + b1)) ∧ f 12 = Value.bool g4 ∧ f 13 = i64 c0 ∧ aN G K (aT 63 K b5 b6 b0 :: aT 4 K a2 a0.length b2 :: L) w) ?_ ?_)))
            ·rintro f y3 ⟨g4, a9, t1, t2, t3, t4, t5, t6, t7, t8, t9, u0, u1⟩
             unfold rF at a9
             exact bG (aA (aB (aC (aD u0) (aC (cI rfl rfl) (aC (aG (v := i64 (wr (c0 + 1))) rfl) (aF (aA ⟨(g4, wr (c0 + 1)), (Option.some.inj a9).symm, t1, t2, t3, t4, t5, t6, t7, t8, t9, rfl, u1⟩)))))))
            refine cW (C := fun w' => aN G K (aT 63 K b5 b6 b0 :: aT 4 K a2 a0.length b2 :: L) w') bR (by kernel_rfl) (aN.mono a5 (dB.drew _)) (aS (fun _ a5 => aD l9) (aS (fun _ a5 => aD (v := Value.bool c9) rfl) ?_))
            rcases aJ a9 with ⟨b8, a9⟩ | ⟨b8, a9⟩
            ·refine aR (g := 86) rfl rfl (bQ b8) (aR (g := 86) rfl rfl (bQ b8) (aR (g := 86) rfl rfl (bQ b8) (bE (g := 89) rfl rfl (bE (g := 89) rfl rfl (bE (g := 89) rfl rfl (bE (g := 89) rfl rfl (bE (g := 89) rfl rfl (bE (g := 89) rfl rfl (bE (g := 89) rfl rfl (bE (g := 89) rfl rfl (bE (g := 89) rfl rfl (bE (g := 89) rfl rfl (bE (g := 89) rfl rfl (bE (g := 89) rfl rfl (bE (g := 89) rfl rfl (bE (g := 89) rfl rfl (bE (g := 89) rfl rfl (aR (g := 86) rfl rfl (bQ b8) (aS (fun _ a5 => bK (v := Value.bool true) b8 rfl rfl) (aS (fun _ a5 => aG (v := Value.bool true) rfl) (dD (fun y4 u2 => (aA ?_)))))))))))))))))))))))
             exact ⟨true, a9, e3, d0, e4, g0, g1, c3, e5, g2, rfl, d1, u2⟩
            ·refine bD (g := 86) rfl rfl (bP b8) (aS (fun _ a5 => aD (v := i64 g3) rfl) (bD (g := 86) rfl rfl (bP b8) (aS (fun _ a5 => tX rfl rfl) (bD (g := 86) rfl rfl (bP b8) (aS (fun _ a5 => aD (v := Value.bool (decide (0 ≤ g3))) rfl) ?_)))))
             rcases aJ a9 with ⟨a6, a9⟩ | ⟨a6, a9⟩
             ·refine bD (g := 89) rfl rfl a6 (aS (fun _ a5 => aD e4) (bD (g := 89) rfl rfl a6 (aS (fun _ a5 => aD c3) (bD (g := 89) rfl rfl a6 (aS (fun _ a5 => aD d1) (bD (g := 89) rfl rfl a6 (aS (fun _ a5 => eT cR rfl i8 rfl rfl rfl e6) (bD (g := 89) rfl rfl a6 (aS (fun _ a5 => aGJ (k' := c0.toNat * 3 + 2) iU i8 rfl rfl) (bD (g := 89) rfl rfl a6 (aS (fun _ a5 => kD (t := 2) cM a5 (i := 0) rfl e6 rfl rfl rfl) (bD (g := 89) rfl rfl a6 (aS (fun _ a5 => aD d0) (bD (g := 89) rfl rfl a6 (aS (fun _ a5 => cS rfl h12) (bD (g := 89) rfl rfl a6 (aS (fun _ a5 => bW (k' := k11 + 0) fX rfl h12 rfl) (bD (g := 89) rfl rfl a6 (aS (fun _ a5 => bL (t := 0) cM a5 h12 rfl rfl) (bD (g := 89) rfl rfl a6 (aS (fun _ a5 => aDe rfl rfl) (bD (g := 89) rfl rfl a6 (aS (fun _ a5 => aD (v := i64 g3) rfl) ?_)))))))))))))))))))))))
              refine bD (g := 89) rfl rfl a6 (aS (fun _ a5 => cI rfl rfl) (bD (g := 89) rfl rfl a6 ?_))
              obtain ⟨g5, i9, a9⟩ := aI a9
              have u3 := dL a5 (i := 1) rfl i9
              exact aS (fun _ a5 => eT iV rfl u3 rfl rfl rfl i9) (bD (g := 89) rfl rfl a6 (aS (fun _ a5 => kD (t := 0) aBA a5 (i := 1) rfl i9 rfl rfl rfl) (bD (g := 86) rfl rfl (bP b8) (aS (fun _ a5 => bK (v := Value.bool g5) a6 rfl rfl) (aS (fun _ a5 => bM (v := Value.bool g5) b8 rfl rfl) (aS (fun _ a5 => aG (v := Value.bool g5) rfl) (dD (fun y5 u4 => (aA ⟨g5, a9, e3, d0, e4, g0, g1, c3, e5, g2, rfl, d1, u4⟩)))))))))
             ·exact aR (g := 89) rfl rfl (bV a6) (aR (g := 89) rfl rfl (bV a6) (aR (g := 89) rfl rfl (bV a6) (aR (g := 89) rfl rfl (bV a6) (aR (g := 89) rfl rfl (bV a6) (aR (g := 89) rfl rfl (bV a6) (aR (g := 89) rfl rfl (bV a6) (aR (g := 89) rfl rfl (bV a6) (aR (g := 89) rfl rfl (bV a6) (aR (g := 89) rfl rfl (bV a6) (aR (g := 89) rfl rfl (bV a6) (aR (g := 89) rfl rfl (bV a6) (aR (g := 89) rfl rfl (bV a6) (aR (g := 89) rfl rfl (bV a6) (aR (g := 89) rfl rfl (bV a6) (bD (g := 86) rfl rfl (bP b8) (aS (fun _ a5 => bM (v := Value.bool false) a6 rfl rfl) (aS (fun _ a5 => bM (v := Value.bool false) b8 rfl rfl) (aS (fun _ a5 => aG (v := Value.bool false) rfl) (dD (fun y6 u5 => (aA ⟨false, a9, e3, d0, e4, g0, g1, c3, e5, g2, rfl, d1, u5⟩)))))))))))))))))))))
           ·refine aM i7 rfl (bY (aY (aY ?_)))
            have u6 := s3 _ (Option.some.inj a9).symm
            subst u6
            have a3 : (uF p a8 b2 b7 b1 c9) = some e0 := a3
            exact bO (aA ⟨c9, a3, e3, d0, e4, g0, g1, c3, e5, g2, l9, i6⟩)
        refine aB (aC (aD f6) (aC (aD (v := i64 (wr ((wr (a8 * p.States)) + b1))) rfl) ?_))
        obtain ⟨u7, j0, a3⟩ := aI a3
        have u8 := dL c2 (i := 1) rfl j0
        refine aC (eT iV rfl u8 rfl rfl rfl j0) (aC (kD (t := 0) aBA c2 (i := 1) rfl j0 rfl rfl rfl) (aC (dN rfl) (aC (aD (v := Value.bool (!u7)) rfl) ?_)))
        rcases aJ a3 with ⟨c1, a3⟩ | ⟨c1, a3⟩
        ·exact aV (g := 67) c1 (by kernel_rfl) rfl (aV (g := 67) c1 (by kernel_rfl) rfl (aV (g := 67) c1 (by kernel_rfl) rfl (aC (bK (v := Value.bool true) c1 rfl rfl) (aF (aA ⟨true, a3, h2, e1, f6, h4, f7, h5, f8, rfl, rfl, c2⟩)))))
        ·exact bJ (g := 67) c1 (by kernel_rfl) rfl (aC (aD h5) (bJ (g := 67) c1 (by kernel_rfl) rfl (aC (bU (len := b0.length) cR rfl) (bJ (g := 67) c1 (by kernel_rfl) rfl (aC (kC rfl rfl) (aC (bM (v := Value.bool ((b0.length : Int) == 0)) c1 rfl rfl) (aF (aA ⟨(b0.length : Int) == 0, a3, h2, e1, f6, h4, f7, h5, f8, rfl, rfl, c2⟩))))))))
       ·refine aM h7 rfl (bY (aY (aY ?_)))
        have u9 := q6 _ (Option.some.inj a3).symm
        subst u9
        have b3 : (xP a8 b2 b7) = some f2 := b3
        exact bO (aA ⟨b2, b7, b3, h2, e1, f6, h4, f7, (aN.arr 1 [] c2 rfl)⟩)
     ·refine aM h1 rfl (bY (aY (aY ?_)))
      have v0 := p0 _ (Option.some.inj b3).symm
      subst v0
      have b4 : (xO c7 d7) = some e9 := b4
      exact bO (aA ⟨c7, d7, b4, f3, j8, j9, k0, h0⟩)
   ·refine aM g8 rfl (bY (aY (aY ?_)))
    have v1 := n5 _ (Option.some.inj b4).symm
    subst v1
    have hm : (uE c6) = some R := hm
    exact bO (aA ⟨c6, hm, j6, j7⟩)
 obtain ⟨y7, v2, hm⟩ := aI hm
 refine cD v2 (fun (s : (List Bool × Int)) f w => match s with | (c4, e7) => f 0 = bZ a1 k2 ∧ f 1 = bZ a10 k11 ∧ f 5 = Value.slice a2 c4.length a0.length ∧ f 6 = i64 e7 ∧ aN G K (aT 4 K a2 a0.length c4 :: L) w) ?_ ?_
 ·exact ⟨rfl, rfl, rfl, rfl, j5⟩
 ·rintro ⟨c4, e7⟩ v3 f y8 b9 v4 ⟨m0, m1, g6, j1, j2⟩
  replace b9 : pE c4 e7 = some v3 := b9
  unfold pE at b9
  refine aH (aH (aB (aC (aD j1) (aC (aD g6) (aC (bU (len := c4.length) iV rfl) (aC (cE rfl rfl) (aF (aA ?_))))))))
  rcases aJ b9 with ⟨j3, b9⟩ | ⟨j3, b9⟩
  ·refine aO j3 rfl (aX (aA (aH (cK (aB (aC (aD g6) (aC (aD j1) ?_)))))))
   obtain ⟨y9, j4, b9⟩ := aI b9
   have v5 := dL j2 (i := 0) rfl j4
   refine aC (eT iV rfl v5 rfl rfl rfl j4) ?_
   obtain ⟨m2, m3, b9⟩ := aI b9
   exact oA (i := 0) (t := 0) (ns := [Value.bool true]) (e' := (true : Bool)) Tryz.sizeOf4 j2 rfl (Hp.le_refl _) rfl rfl rfl j4 m3 rfl rfl (dT rfl) rfl (fun cs h => by cases h; rfl) (fun v6 (v7 : aN G K (aT 4 K a2 a0.length m2 :: L) v6) => (aF (bG (aA (aB (aC (aD j1) (aC (cI rfl rfl) (aC (aG (v := i64 (wr (e7 + 1))) rfl) (aF (aA ⟨(m2, wr (e7 + 1)), (Option.some.inj b9).symm, m0, m1, (Eq.trans g6 (congrArg (fun n => Value.slice a2 n a0.length) (gQ m3))), rfl, v7⟩))))))))))
  ·refine aM j3 rfl (bY (aY (aY ?_)))
   have v8 := v4 _ (Option.some.inj b9).symm
   subst v8
   have hm : (sH t p c4) = some R := hm
   exact bO (aA ⟨c4, hm, m0, m1, g6, j2⟩)
theorem aEL {t : dC} {k2 : Nat} {states : (List Int)} {R : (List Bool)} (hs : aN G K (L) w) (h3 : fN K a1 k2 [i64 t.States, i64 t.Initial, Value.slice a4 t.Labels.length c5, Value.slice a7 t.Edges.length c8]) (h6 : bX K a4 c5 t.Labels) (h9 : bX K a7 c8 t.Edges) (h12 : bX K a10 c11 states) (hm : yT t states = some R) :
  Calls Tryz.prog 114 ([bZ a1 k2, Value.slice a10 states.length c11] : List Value).toArray w (fW fun v w' => ∃ (ra0 : Option Addr) (rc0 : Nat), v = Value.slice ra0 R.length rc0 ∧ aN G K (aT 4 K ra0 rc0 R :: L) w') := by
 refine aU Tryz.func114 rfl (by kernel_rfl) (by show (2 : Nat) ≤ 25; decide) ?_
 unfold yT at hm
 refine aH (aB (aC (aG (v := Value.slice none 0 0) rfl) (aF (aA (aH (aB (aC (aD (v := bZ a1 k2) rfl) (aC (cS rfl h3) (aC (bW (k' := k2 + 0) fX rfl h3 rfl) (aC (bL (t := 0) cM hs h3 rfl rfl) ?_))))))))))
 obtain ⟨a2, b8, hm⟩ := aI hm
 refine aDg (e := (false : Bool)) iV ez_4 rfl rfl hs rfl rfl rfl b8 rfl (fun a3 b9 (c0 : aN G K (aT 4 K a3 a2.length a2 :: L) b9) => (aC (aG (v := Value.slice a3 a2.length a2.length) rfl) (aF (aA (aH (aH (aB (aC (aG (v := i64 0) rfl) (aF (aA (bC (fun f w => ∃ (a6 : List Bool), wF a6 = some R ∧ f 5 = Value.slice a3 a6.length a2.length ∧ aN G K (aT 4 K a3 a2.length a6 :: L) w) ?_ ?_)))))))))))
 ·rintro f d5 ⟨a6, hm, c1, c2⟩
  unfold wF at hm
  refine aA (aH (aB (aC (aD c1) (aC (aG (v := Value.slice a3 a6.length a2.length) rfl) (aF (aA ?_))))))
  have c3 := Option.some.inj hm
  subst c3
  exact bB (aZ Tryz.results114 rfl ⟨a3, a2.length, rfl, c2⟩)
 obtain ⟨d6, c4, hm⟩ := aI hm
 refine cD c4 (fun (s : (List Bool × Int)) f w => match s with | (a5, a8) => f 1 = Value.slice a10 states.length c11 ∧ f 5 = Value.slice a3 a5.length a2.length ∧ f 6 = i64 a8 ∧ aN G K (aT 4 K a3 a2.length a5 :: L) w) ?_ ?_
 ·exact ⟨rfl, rfl, rfl, c0⟩
 ·rintro ⟨a5, a8⟩ c6 f d7 a0 c7 ⟨b0, b1, b2, a9⟩
  replace a0 : sI states a5 a8 = some c6 := a0
  unfold sI at a0
  refine aH (aH (aB (aC (aD b2) (aC (aD b0) (aC (bU (len := states.length) cT rfl) (aC (cE rfl rfl) (aF (aA ?_))))))))
  rcases aJ a0 with ⟨b3, a0⟩ | ⟨b3, a0⟩
  ·refine aO b3 rfl (aX (aA (aH (cK (aB (aC (aD b1) (aC (aD b0) (aC (aD b2) ?_))))))))
   obtain ⟨d8, b5, a0⟩ := aI a0
   refine aC (cU cT rfl h12 rfl rfl rfl b5) ?_
   obtain ⟨d9, c9, d0⟩ := bX.el (sz := 1) rfl h12 b5
   cases d0
   refine aC (bL (t := 0) cM a9 c9 rfl rfl) ?_
   obtain ⟨e0, b4, a0⟩ := aI a0
   have d1 := dL a9 (i := 0) rfl b4
   refine aC (eT iV rfl d1 rfl rfl rfl b4) ?_
   obtain ⟨b6, b7, a0⟩ := aI a0
   exact oA (i := 0) (t := 0) (ns := [Value.bool true]) (e' := (true : Bool)) Tryz.sizeOf4 a9 rfl (Hp.le_refl _) rfl rfl rfl b4 b7 rfl rfl (dT rfl) rfl (fun cs h => by cases h; rfl) (fun d2 (d3 : aN G K (aT 4 K a3 a2.length b6 :: L) d2) => (aF (bG (aA (aB (aC (aD b2) (aC (cI rfl rfl) (aC (aG (v := i64 (wr (a8 + 1))) rfl) (aF (aA ⟨(b6, wr (a8 + 1)), (Option.some.inj a0).symm, b0, (Eq.trans b1 (congrArg (fun n => Value.slice a3 n a2.length) (gQ b7))), rfl, d3⟩))))))))))
  ·refine aM b3 rfl (bY (aY (aY ?_)))
   have d4 := c7 _ (Option.some.inj a0).symm
   subst d4
   have hm : (wF a5) = some R := hm
   exact bO (aA ⟨a5, hm, b1, a9⟩)
theorem aBs {t : dC} {k2 : Nat} {set : (List Bool)} {R : (List Bool)} (hs : aN G K (aT 4 K a10 c11 set :: L) w) (h3 : fN K a1 k2 [i64 t.States, i64 t.Initial, Value.slice a4 t.Labels.length c5, Value.slice a7 t.Edges.length c8]) (h6 : bX K a4 c5 t.Labels) (h9 : bX K a7 c8 t.Edges) (hm : vS t set = some R) :
  Calls Tryz.prog 115 ([bZ a1 k2, Value.slice a10 set.length c11] : List Value).toArray w (fW fun v w' => v = Value.tuple #[] ∧ set.length = R.length ∧ aN G K (aT 4 K a10 c11 R :: L) w') := by
 refine aU Tryz.func115 rfl (by kernel_rfl) (by show (2 : Nat) ≤ 46; decide) ?_
 unfold vS at hm
 refine aH (aB (aC (aG (v := Value.bool true) rfl) (aF (aA (bC (fun f w => ∃ (c0 : List Bool), wG c0 = some R ∧ set.length = c0.length ∧ aN G K (aT 4 K a10 c11 c0 :: L) w) ?_ ?_)))))
 ·rintro f j3 ⟨c0, hm, f3, f4⟩
  unfold wG at hm
  have f5 := Option.some.inj hm
  subst f5
  exact aCj Tryz.results115 ⟨rfl, f3, f4⟩
 obtain ⟨j4, f6, hm⟩ := aI hm
 refine cD f6 (fun (s : (List Bool × Bool)) f w => match s with | (b2, d1) => f 0 = bZ a1 k2 ∧ f 1 = Value.slice a10 b2.length c11 ∧ f 4 = Value.bool d1 ∧ set.length = b2.length ∧ aN G K (aT 4 K a10 c11 b2 :: L) w) ?_ ?_
 ·exact ⟨rfl, rfl, rfl, rfl, hs⟩
 ·rintro ⟨b2, d1⟩ c1 f j5 a3 f7 ⟨f8, f9, g0, e1, e2⟩
  replace a3 : pH t b2 d1 = some c1 := a3
  unfold pH at a3
  refine aH (aH (aB (aC (aD g0) (aF (aA ?_)))))
  rcases aJ a3 with ⟨d2, a3⟩ | ⟨d2, a3⟩
  ·refine aO d2 rfl (aX (aA (bC (fun f w => ∃ (b3 : List Bool) (c2 : Bool), aAk b3 c2 = some c1 ∧ f 0 = bZ a1 k2 ∧ f 1 = Value.slice a10 b3.length c11 ∧ f 4 = Value.bool c2 ∧ set.length = b3.length ∧ aN G K (aT 4 K a10 c11 b3 :: L) w) ?_ ?_)))
   ·rintro f j6 ⟨b3, c2, a3, g1, g2, g3, g4, g5⟩
    unfold aAk at a3
    exact aA ⟨(b3, c2), (Option.some.inj a3).symm, g1, g2, g3, g4, g5⟩
   refine aH (aB (aC (aG (v := Value.bool false) rfl) (aF (aA (aH (aB (aC (aG (v := i64 0) rfl) (aF (aA (bC (fun f w => ∃ (b4 : List Bool) (c3 : Bool), wH b4 c3 = some c1 ∧ f 0 = bZ a1 k2 ∧ f 1 = Value.slice a10 b4.length c11 ∧ f 4 = Value.bool c3 ∧ set.length = b4.length ∧ aN G K (aT 4 K a10 c11 b4 :: L) w) ?_ ?_))))))))))
   ·rintro f j7 ⟨b4, c3, a3, g6, g7, g8, g9, h0⟩
    unfold wH at a3
    exact bG (aA ⟨b4, c3, a3, g6, g7, g8, g9, h0⟩)
   obtain ⟨j8, h1, a3⟩ := aI a3
   refine cD h1 (fun (s : (List Bool × Bool × Int)) f w => match s with | (a6, b1, a9) => f 0 = bZ a1 k2 ∧ f 1 = Value.slice a10 a6.length c11 ∧ f 4 = Value.bool b1 ∧ f 5 = i64 a9 ∧ set.length = a6.length ∧ aN G K (aT 4 K a10 c11 a6 :: L) w) ?_ ?_
   ·exact ⟨f8, f9, rfl, rfl, e1, e2⟩
   ·rintro ⟨a6, b1, a9⟩ d3 f j9 a0 h2 ⟨b5, b6, c4, b8, c6, b9⟩
    replace a0 : pG t a6 b1 a9 = some d3 := a0
    unfold pG at a0
    refine aH (aH (aB (aC (aD b8) (aC (aD b5) (aC (cS rfl h3) (aC (bW (k' := k2 + 3) dI rfl h3 rfl) (aC (bL (t := 3) iC b9 h3 rfl rfl) (aC (bU (len := t.Edges.length) cR rfl) (aC (cE rfl rfl) (aF (aA ?_)))))))))))
    rcases aJ a0 with ⟨d4, a0⟩ | ⟨d4, a0⟩
    ·refine aO d4 rfl (aX (aA (aH (bC (fun f w => ∃ (b7 : List Bool) (c7 : Bool), sJ a9 b7 c7 = some d3 ∧ f 0 = bZ a1 k2 ∧ f 1 = Value.slice a10 b7.length c11 ∧ f 4 = Value.bool c7 ∧ f 5 = i64 a9 ∧ set.length = b7.length ∧ aN G K (aT 4 K a10 c11 b7 :: L) w) ?_ ?_))))
     ·rintro f k0 ⟨b7, c7, a0, h4, h5, h7, h8, i0, i1⟩
      unfold sJ at a0
      exact aA (aB (aC (aD h8) (aC (cI rfl rfl) (aC (aG (v := i64 (wr (a9 + 1))) rfl) (aF (aA ⟨(b7, c7, wr (a9 + 1)), (Option.some.inj a0).symm, h4, h5, h7, rfl, i0, i1⟩))))))
     refine aH (aB (aC (aD b5) (aC (cS rfl h3) (aC (bW (k' := k2 + 3) dI rfl h3 rfl) (aC (bL (t := 3) iC b9 h3 rfl rfl) (aC (aD b8) ?_))))))
     obtain ⟨a2, e3, a0⟩ := aI a0
     refine aC (cU cR rfl h9 rfl rfl rfl e3) ?_
     obtain ⟨k1, i2, i3⟩ := bX.el (sz := 3) rfl h9 e3
     cases i3
     refine aC (fO (t := 0) (vs := [i64 a2.From, i64 a2.Label, i64 a2.To]) qC b9 i2 rfl rfl rfl) (cG (vs := [i64 0, i64 0, i64 0]) Tryz.zeroValue63 b9 rfl (fun c9 k3 i4 => (cC (i := 0) (ns := [i64 a2.From, i64 a2.Label, i64 a2.To]) (us := [i64 a2.From, i64 a2.Label, i64 a2.To]) Tryz.sizeOf63 i4 rfl rfl rfl rfl rfl (dT rfl) rfl rfl (fun i5 (b0 : aN G K (box c9 63 [i64 a2.From, i64 a2.Label, i64 a2.To] :: aT 4 K a10 c11 a6 :: L) i5) => (aF (aA (aH (cH (fun f w => ∃ (d5 : Bool), pF a6 b1 a9 a2 d5 = some d3 ∧ f 0 = bZ a1 k2 ∧ f 1 = Value.slice a10 a6.length c11 ∧ f 4 = Value.bool b1 ∧ f 5 = i64 a9 ∧ f 6 = Value.pointer (some ⟨c9, 0, none⟩) ∧ f 41 = Value.bool d5 ∧ set.length = a6.length ∧ aN G K (box c9 63 [i64 a2.From, i64 a2.Label, i64 a2.To] :: aT 4 K a10 c11 a6 :: L) w) ?_ ?_))))))))
     ·rintro f k4 ⟨d5, a0, e4, d6, i6, e5, i7, e6, e7, d0⟩
      unfold pF at a0
      refine aA ?_
      rcases aJ a0 with ⟨d7, a0⟩ | ⟨d7, a0⟩
      ·refine aO d7 e6 (aH (aB (aC (aD d6) (aC (bI (t' := 2) iU i7 rfl) (aC (cA cM d0 (i := 0) rfl rfl rfl) ?_)))))
       obtain ⟨k5, d8, a0⟩ := aI a0
       have i8 := dL d0 (i := 1) rfl d8
       refine aC (eT iV rfl i8 rfl rfl rfl d8) ?_
       obtain ⟨e8, d9, a0⟩ := aI a0
       exact oA (i := 1) (t := 0) (ns := [Value.bool true]) (e' := (true : Bool)) Tryz.sizeOf4 d0 rfl (Hp.le_refl _) rfl rfl rfl d8 d9 rfl rfl (dT rfl) rfl (fun cs h => by cases h; rfl) (fun i9 (j0 : aN G K (box c9 63 [i64 a2.From, i64 a2.Label, i64 a2.To] :: aT 4 K a10 c11 e8 :: L) i9) => (aF (aA (aB (aC (aG (v := Value.bool true) rfl) (aF (bG (aA ⟨e8, true, a0, e4, (Eq.trans d6 (congrArg (fun n => Value.slice a10 n c11) (gQ d9))), rfl, e5, (e7.trans (gQ d9)), (aN.arr 1 [] j0 rfl)⟩))))))))
      ·exact aM d7 e6 (aX (bG (aA ⟨a6, b1, a0, e4, d6, i6, e5, e7, (aN.arr 1 [] d0 rfl)⟩)))
     refine aB (aC (bI (t' := 1) fP rfl rfl) (aC (cA cM b0 (i := 0) rfl rfl rfl) (aC (kC rfl rfl) (aC (aD (v := Value.bool (a2.Label == 0)) rfl) ?_))))
     rcases aJ a0 with ⟨a8, a0⟩ | ⟨a8, a0⟩
     ·refine bH (g := 27) a8 (by kernel_rfl) rfl (aC (aD b6) (bH (g := 27) a8 (by kernel_rfl) rfl (aC (bI (t' := 0) iB rfl rfl) (bH (g := 27) a8 (by kernel_rfl) rfl (aC (cA cM b0 (i := 0) rfl rfl rfl) (bH (g := 27) a8 (by kernel_rfl) rfl ?_))))))
      obtain ⟨e9, e0, a0⟩ := aI a0
      have f0 := dL b0 (i := 1) rfl e0
      refine aC (eT iV rfl f0 rfl rfl rfl e0) (bH (g := 27) a8 (by kernel_rfl) rfl (aC (kD (t := 0) aBA b0 (i := 1) rfl e0 rfl rfl rfl) (aC (bK (v := Value.bool e9) a8 rfl rfl) (aC (aD (v := Value.bool e9) rfl) ?_))))
      rcases aJ a0 with ⟨a5, a0⟩ | ⟨a5, a0⟩
      ·refine bH (g := 34) a5 (by kernel_rfl) rfl (aC (aD b6) (bH (g := 34) a5 (by kernel_rfl) rfl (aC (bI (t' := 2) iU rfl rfl) (bH (g := 34) a5 (by kernel_rfl) rfl (aC (cA cM b0 (i := 0) rfl rfl rfl) (bH (g := 34) a5 (by kernel_rfl) rfl ?_))))))
       obtain ⟨f1, f2, a0⟩ := aI a0
       exact aC (eT iV rfl f0 rfl rfl rfl f2) (bH (g := 34) a5 (by kernel_rfl) rfl (aC (kD (t := 0) aBA b0 (i := 1) rfl f2 rfl rfl rfl) (bH (g := 34) a5 (by kernel_rfl) rfl (aC (dN rfl) (aC (bK (v := Value.bool (!f1)) a5 rfl rfl) (aF (aA ⟨!f1, a0, b5, b6, c4, b8, rfl, rfl, c6, b0⟩)))))))
      ·exact bA (g := 34) a5 (by kernel_rfl) rfl (bA (g := 34) a5 (by kernel_rfl) rfl (bA (g := 34) a5 (by kernel_rfl) rfl (bA (g := 34) a5 (by kernel_rfl) rfl (bA (g := 34) a5 (by kernel_rfl) rfl (bA (g := 34) a5 (by kernel_rfl) rfl (aC (bM (v := Value.bool false) a5 rfl rfl) (aF (aA ⟨false, a0, b5, b6, c4, b8, rfl, rfl, c6, b0⟩))))))))
     ·exact bA (g := 27) a8 (by kernel_rfl) rfl (bA (g := 27) a8 (by kernel_rfl) rfl (bA (g := 27) a8 (by kernel_rfl) rfl (bA (g := 27) a8 (by kernel_rfl) rfl (bA (g := 27) a8 (by kernel_rfl) rfl (aC (bM (v := Value.bool false) a8 rfl rfl) (aC (aD (v := Value.bool false) rfl) (bA (g := 34) (by decide : ¬ false = true) (by kernel_rfl) rfl (bA (g := 34) (by decide : ¬ false = true) (by kernel_rfl) rfl (bA (g := 34) (by decide : ¬ false = true) (by kernel_rfl) rfl (bA (g := 34) (by decide : ¬ false = true) (by kernel_rfl) rfl (bA (g := 34) (by decide : ¬ false = true) (by kernel_rfl) rfl (bA (g := 34) (by decide : ¬ false = true) (by kernel_rfl) rfl (aC (bM (v := Value.bool false) (by decide : ¬ false = true) rfl rfl) (aF (aA ⟨false, a0, b5, b6, c4, b8, rfl, rfl, c6, b0⟩)))))))))))))))
    ·refine aM d4 rfl (bY (aY (aY ?_)))
     have j1 := h2 _ (Option.some.inj a0).symm
     subst j1
     have a3 : (wH a6 b1) = some c1 := a3
     exact bO (aA ⟨a6, b1, a3, b5, b6, c4, c6, b9⟩)
  ·refine aM d2 rfl (bY (aY (aY ?_)))
   have j2 := f7 _ (Option.some.inj a3).symm
   subst j2
   have hm : (wG b2) = some R := hm
   exact bO (aA ⟨b2, hm, e1, e2⟩)
theorem aCa {row : (List Bool)} {R : (List Int)} (hs : aN G K (L) w) (h3 : bX K a1 c2 row) (hm : yB row = some R) :
  Calls Tryz.prog 116 ([Value.slice a1 row.length c2] : List Value).toArray w (fW fun v w' => ∃ (ra0 : Option Addr) (rc0 : Nat), v = Value.slice ra0 R.length rc0 ∧ aN G K (aT 2 K ra0 rc0 R :: L) w') := by
 refine aU Tryz.func116 rfl (by kernel_rfl) (by show (1 : Nat) ≤ 21; decide) ?_
 unfold yB at hm
 refine aH (aB (aC (aG (v := Value.slice none 0 0) rfl) (aF (aA (aH (aB (eN (Kt := K) (xs := ([] : List Int)) (cs := []) (vs := []) cT vJ rfl rfl hs rfl (by kernel_rfl) rfl rfl rfl trivial (fun a4 w5 (c6 : aN G K (aT 2 K a4 0 ([] : List Int) :: L) w5) => (aC (aG (v := Value.slice a4 ([] : List Int).length 0) rfl) (aF (aA (aH (aH (aB (aC (aG (v := i64 0) rfl) (aF (aA (bC (fun f w => ∃ (a6 : List Int) (a8 : Option Addr) (c9 : Nat), xQ a6 = some R ∧ f 3 = Value.slice a8 a6.length c9 ∧ aN G K (aT 2 K a8 c9 a6 :: L) w) ?_ ?_))))))))))))))))))
 ·rintro f e5 ⟨a6, a8, c9, hm, c7, c8⟩
  unfold xQ at hm
  refine aA (aH (aB (aC (aD c7) (aC (aG (v := Value.slice a8 a6.length c9) rfl) (aF (aA ?_))))))
  have hR13 := Option.some.inj hm
  subst hR13
  exact bB (aZ Tryz.results116 rfl ⟨a8, c9, rfl, c8⟩)
 obtain ⟨e6, d0, hm⟩ := aI hm
 refine cD d0 (fun (s : (List Int × Int)) f w => match s with | (a3, a2) => ∃ (a29 : Option Addr) (a5 : Nat), f 0 = Value.slice a1 row.length c2 ∧ f 3 = Value.slice a29 a3.length a5 ∧ f 4 = i64 a2 ∧ aN G K (aT 2 K a29 a5 a3 :: L) w) ?_ ?_
 ·exact ⟨a4, 0, rfl, rfl, rfl, c6⟩
 ·rintro ⟨a3, a2⟩ c3 f e7 a0 d1 ⟨a29, a5, b1, b6, a9, b2⟩
  replace a0 : uG row a3 a2 = some c3 := a0
  unfold uG at a0
  refine aH (aH (aB (aC (aD a9) (aC (aD b1) (aC (bU (len := row.length) iV rfl) (aC (cE rfl rfl) (aF (aA ?_))))))))
  rcases aJ a0 with ⟨b7, a0⟩ | ⟨b7, a0⟩
  ·refine aO b7 rfl (aX (aA (aH (bC (fun f w => ∃ (b0 : List Int) (b3 : Option Addr) (b4 : Nat), xR a2 b0 = some c3 ∧ f 0 = Value.slice a1 row.length c2 ∧ f 3 = Value.slice b3 b0.length b4 ∧ f 4 = i64 a2 ∧ aN G K (aT 2 K b3 b4 b0 :: L) w) ?_ ?_))))
   ·rintro f e8 ⟨b0, b3, b4, a0, d2, d3, d4, d5⟩
    unfold xR at a0
    exact aA (aB (aC (aD d4) (aC (cI rfl rfl) (aC (aG (v := i64 (wr (a2 + 1))) rfl) (aF (aA ⟨(b0, wr (a2 + 1)), (Option.some.inj a0).symm, b3, b4, d2, d3, rfl, d5⟩))))))
   refine aH (aB (aC (aD b1) (aC (aD a9) ?_)))
   obtain ⟨e9, c4, a0⟩ := aI a0
   refine aC (cU iV rfl h3 rfl rfl rfl c4) ?_
   obtain ⟨f0, d6, d7⟩ := bX.el (sz := 1) rfl h3 c4
   cases d7
   refine aC (bL (t := 0) aBA b2 d6 rfl rfl) (aF (aA ?_))
   rcases aJ a0 with ⟨b8, a0⟩ | ⟨b8, a0⟩
   ·refine aO b8 rfl (aB (aC (aD b6) (aC (aD a9) (eN (Kt := K) (xs := ([a2] : List Int)) (cs := [i64 a2]) (vs := [(0, i64 a2)]) cT vJ rfl rfl b2 rfl (by kernel_rfl) rfl rfl rfl ⟨rfl, trivial⟩ (fun d8 d9 (e0 : aN G K (aT 2 K d8 1 ([a2] : List Int) :: aT 2 K a29 a5 a3 :: L) d9) => ?_)))))
    obtain ⟨b9, e1, a0⟩ := aI a0
    exact iZ (i := 0) cT Tryz.underlying31 vJ rfl rfl e0 rfl (Hp.le_refl _) (Hp.le_refl _) e1 rfl rfl rfl rfl (fun _ h => h) (fun c0 c1 e2 (e3 : aN G K (aT 2 K c0 c1 b9 :: L) e2) => (aC (aG (v := Value.slice c0 b9.length c1) rfl) (aF (bG (aA ⟨b9, c0, c1, a0, b1, rfl, a9, e3⟩)))))
   ·exact aM b8 rfl (aX (bG (aA ⟨a3, a29, a5, a0, b1, b6, a9, b2⟩)))
  ·refine aM b7 rfl (bY (aY (aY ?_)))
   have e4 := d1 _ (Option.some.inj a0).symm
   subst e4
   have hm : (xQ a3) = some R := hm
   exact bO (aA ⟨a3, a29, a5, hm, b6, b2⟩)
theorem aEM {t : dC} {k2 : Nat} {R : (List Int)} (hs : aN G K (L) w) (h3 : fN K a1 k2 [i64 t.States, i64 t.Initial, Value.slice a4 t.Labels.length c5, Value.slice a7 t.Edges.length c8]) (h6 : bX K a4 c5 t.Labels) (h9 : bX K a7 c8 t.Edges) (hm : yU t = some R) :
  Calls Tryz.prog 67 ([bZ a1 k2] : List Value).toArray w (fW fun v w' => ∃ (ra0 : Option Addr) (rc0 : Nat), v = Value.slice ra0 R.length rc0 ∧ aN G K (aT 2 K ra0 rc0 R :: L) w') := by
 refine aU Tryz.func67 rfl (by kernel_rfl) (by show (1 : Nat) ≤ 16; decide) ?_
 unfold yU at hm
 refine aH (aB (aC (aG (v := Value.slice none 0 0) rfl) (aF (aA (aH (aB (aC (aD (v := bZ a1 k2) rfl) (aC (aD (v := bZ a1 k2) rfl) (aC (cS rfl h3) (aC (bW (k' := k2 + 1) xM rfl h3 rfl) (aC (bL (t := 1) cM hs h3 rfl rfl) (eN (Kt := K) (xs := ([t.Initial] : List Int)) (cs := [i64 t.Initial]) (vs := [(0, i64 t.Initial)]) cT vJ rfl rfl hs rfl (by kernel_rfl) rfl rfl rfl ⟨rfl, trivial⟩ (fun a5 b1 (b2 : aN G K (aT 2 K a5 1 ([t.Initial] : List Int) :: L) b1) => ?_)))))))))))))
 obtain ⟨d4, a6, b3, b4, b5⟩ := aN.lendS (i := 0) b2 (Hp.le_refl _) rfl
 obtain ⟨a3, b6, hm⟩ := aI hm
 refine aW (vs := [bZ a1 k2, Value.slice a5 ([t.Initial] : List Int).length 1]) Tryz.call114 rfl (aEL b4 (h3.mono a6) (h6.mono a6) (h9.mono a6) b3 b6) ?_
 rintro _ b7 ⟨a0, a2, rfl, b8⟩
 have b9 := b5 _ _ b8
 refine aC (aG (v := Value.slice a0 a3.length a2) rfl) (aF (aA (aH (aB (aC (aD (v := bZ a1 k2) rfl) (aC (aD (v := Value.slice a0 a3.length a2) rfl) ?_))))))
 have c0 : aN G K (aT 4 K a0 a2 a3 :: aT 2 K a5 1 ([t.Initial] : List Int) :: L) b7 := (aN.arr 2 [1, 0] b9 rfl)
 obtain ⟨a8, c1, hm⟩ := aI hm
 refine aW (vs := [bZ a1 k2, Value.slice a0 a3.length a2]) Tryz.call115 rfl (aBs c0 h3 h6 h9 c1) ?_
 rintro _ d5 ⟨rfl, c2, c3⟩
 refine aF (aA (aH (aB (aC (aD (v := Value.slice a0 a8.length a2) (Eq.trans rfl (congrArg (fun n => Value.slice a0 n a2) c2))) ?_))))
 obtain ⟨d6, d7, c4, c6, c7⟩ := aN.lendS (i := 0) c3 (Hp.le_refl _) rfl
 obtain ⟨c9, d0, hm⟩ := aI hm
 refine aW (vs := [Value.slice a0 a8.length a2]) Tryz.call116 rfl (aCa c6 c4 d0) ?_
 rintro _ d8 ⟨a9, b0, rfl, d1⟩
 have d2 := c7 _ _ d1
 refine aC (aG (v := Value.slice a9 c9.length b0) rfl) (aF (aA ?_))
 have d3 := Option.some.inj hm
 subst d3
 exact bB (aZ Tryz.results67 rfl ⟨a9, b0, rfl, (aN.arr 3 [1] d2 rfl)⟩)
theorem aDA {p : dC} {k2 : Nat} {leave : (List Bool)} {stay : (List Bool)} {states : (List Int)} {q : Int} {R : Int} (hs : aN G K (L) w) (h3 : fN K a1 k2 [i64 p.States, i64 p.Initial, Value.slice a4 p.Labels.length c5, Value.slice a7 p.Edges.length c8]) (h6 : bX K a4 c5 p.Labels) (h9 : bX K a7 c8 p.Edges) (h12 : bX K a10 c11 leave) (h15 : bX K a13 c14 stay) (h18 : bX K a16 c17 states) (hm : uH p leave stay states q = some R) :
  Calls Tryz.prog 68 ([bZ a1 k2, Value.slice a10 leave.length c11, Value.slice a13 stay.length c14, Value.slice a16 states.length c17, i64 q] : List Value).toArray w (fW fun v w' => v = i64 R ∧ aN G K (L) w') := by
 refine aU Tryz.func68 rfl (by kernel_rfl) (by show (5 : Nat) ≤ 60; decide) ?_
 unfold uH at hm
 refine aH (aB (aC (aG (v := i64 0) rfl) (aF (aA (aH (aH (aB (aC (aD (v := i64 q) rfl) (aC (cE rfl rfl) (aF (aA ?_)))))))))))
 rcases aJ hm with ⟨b5, hm⟩ | ⟨b5, hm⟩
 ·refine aO b5 rfl (aH (aB (aC (aG (v := i64 2) rfl) (aF (aA ?_)))))
  have e4 := Option.some.inj hm
  subst e4
  exact bB (aQ (aZ Tryz.results68 rfl ⟨rfl, hs⟩))
 ·refine aM b5 rfl (aX (aA (aH (aB (aC (aG (v := Value.bool false) rfl) (aF (aA (aH (aB (aC (aG (v := Value.bool false) rfl) (aF (aA (aH (aH (aB (aC (aG (v := i64 0) rfl) (aF (aA (bC (fun f w => ∃ (b6 : Bool) (b7 : Bool), oL b6 b7 = some R ∧ f 11 = Value.bool b6 ∧ f 12 = Value.bool b7 ∧ aN G K (L) w) ?_ ?_)))))))))))))))))))
  ·rintro f h7 ⟨b6, b7, hm, e5, e6, b8⟩
   unfold oL at hm
   refine aA (aH (aH (aB (aC (aD e5) (aC (dN rfl) (aF (aA ?_)))))))
   rcases aJ hm with ⟨b9, hm⟩ | ⟨b9, hm⟩
   ·refine aO b9 rfl (aH (aB (aC (aG (v := i64 1) rfl) (aF (aA ?_)))))
    have e7 := Option.some.inj hm
    subst e7
    exact bB (aQ (aZ Tryz.results68 rfl ⟨rfl, b8⟩))
   ·refine aM b9 rfl (aX (aA (aH (aH (aB (aC (aD e6) (aC (dN rfl) (aF (aA ?_)))))))))
    rcases aJ hm with ⟨c0, hm⟩ | ⟨c0, hm⟩
    ·refine aO c0 rfl (aH (aB (aC (aG (v := i64 2) rfl) (aF (aA ?_)))))
     have e8 := Option.some.inj hm
     subst e8
     exact bB (aQ (aZ Tryz.results68 rfl ⟨rfl, b8⟩))
    ·refine aM c0 rfl (aX (aA (aH (aB (aC (aG (v := i64 0) rfl) (aF (aA ?_)))))))
     have e9 := Option.some.inj hm
     subst e9
     exact bB (aZ Tryz.results68 rfl ⟨rfl, b8⟩)
  obtain ⟨h8, f0, hm⟩ := aI hm
  refine cD f0 (fun (s : (Bool × Bool × Int)) f w => match s with | (b0, a9, a8) => f 0 = bZ a1 k2 ∧ f 1 = Value.slice a10 leave.length c11 ∧ f 2 = Value.slice a13 stay.length c14 ∧ f 3 = Value.slice a16 states.length c17 ∧ f 4 = i64 q ∧ f 11 = Value.bool b0 ∧ f 12 = Value.bool a9 ∧ f 13 = i64 a8 ∧ aN G K (L) w) ?_ ?_
  ·exact ⟨rfl, rfl, rfl, rfl, rfl, rfl, rfl, rfl, hs⟩
  ·rintro ⟨b0, a9, a8⟩ c1 f i0 a3 f1 ⟨c2, c3, d6, b2, c4, d7, c6, b3, a5⟩
   replace a3 : lN p leave stay states q b0 a9 a8 = some c1 := a3
   unfold lN at a3
   refine aH (aH (aB (aC (aD b3) (aC (aD b2) (aC (bU (len := states.length) cT rfl) (aC (cE rfl rfl) (aF (aA ?_))))))))
   rcases aJ a3 with ⟨c7, a3⟩ | ⟨c7, a3⟩
   ·refine aO c7 rfl (aX (aA (aH (cK (aH (cH (fun f w => ∃ (b1 : Bool), oM p stay states q a9 a8 b1 = some c1 ∧ f 0 = bZ a1 k2 ∧ f 1 = Value.slice a10 leave.length c11 ∧ f 2 = Value.slice a13 stay.length c14 ∧ f 3 = Value.slice a16 states.length c17 ∧ f 4 = i64 q ∧ f 11 = Value.bool b1 ∧ f 12 = Value.bool a9 ∧ f 13 = i64 a8 ∧ aN G K (L) w) ?_ ?_))))))
    ·rintro f i1 ⟨b1, a3, c9, d8, d0, d1, d2, d9, f2, d3, a6⟩
     unfold oM at a3
     refine aA (cH (fun f w => ∃ (b4 : Bool), sW a8 b1 b4 = some c1 ∧ f 0 = bZ a1 k2 ∧ f 1 = Value.slice a10 leave.length c11 ∧ f 2 = Value.slice a13 stay.length c14 ∧ f 3 = Value.slice a16 states.length c17 ∧ f 4 = i64 q ∧ f 11 = Value.bool b1 ∧ f 12 = Value.bool b4 ∧ f 13 = i64 a8 ∧ aN G K (L) w) ?_ ?_)
     ·rintro f i2 ⟨b4, a3, f3, f4, f5, f6, f7, f8, f9, g0, g1⟩
      unfold sW at a3
      exact bG (aA (aB (aC (aD g0) (aC (cI rfl rfl) (aC (aG (v := i64 (wr (a8 + 1))) rfl) (aF (aA ⟨(b1, b4, wr (a8 + 1)), (Option.some.inj a3).symm, f3, f4, f5, f6, f7, f8, f9, rfl, g1⟩)))))))
     refine cW (C := fun w' => aN G K (L) w') bR (by kernel_rfl) (aN.mono a6 (dB.drew _)) (aS (fun _ a6 => aD f2) (aS (fun _ a6 => aD (v := Value.bool a9) rfl) ?_))
     rcases aJ a3 with ⟨a0, a3⟩ | ⟨a0, a3⟩
     ·exact aR (g := 40) rfl rfl (bQ a0) (aR (g := 40) rfl rfl (bQ a0) (aR (g := 40) rfl rfl (bQ a0) (aR (g := 40) rfl rfl (bQ a0) (aR (g := 40) rfl rfl (bQ a0) (aR (g := 40) rfl rfl (bQ a0) (aR (g := 40) rfl rfl (bQ a0) (aR (g := 40) rfl rfl (bQ a0) (aR (g := 40) rfl rfl (bQ a0) (aR (g := 40) rfl rfl (bQ a0) (aR (g := 40) rfl rfl (bQ a0) (aR (g := 40) rfl rfl (bQ a0) (aR (g := 40) rfl rfl (bQ a0) (aR (g := 40) rfl rfl (bQ a0) (aS (fun _ a6 => bK (v := Value.bool true) a0 rfl rfl) (aS (fun _ a6 => aG (v := Value.bool true) rfl) (dD (fun i3 g2 => (aA ⟨true, a3, c9, d8, d0, d1, d2, d9, rfl, d3, g2⟩))))))))))))))))))
     ·refine bD (g := 40) rfl rfl (bP a0) (aS (fun _ a6 => aD d0) (bD (g := 40) rfl rfl (bP a0) (aS (fun _ a6 => aD d1) (bD (g := 40) rfl rfl (bP a0) (aS (fun _ a6 => aD d3) (bD (g := 40) rfl rfl (bP a0) ?_))))))
      obtain ⟨i4, e0, a3⟩ := aI a3
      refine aS (fun _ a6 => cU cT rfl h18 rfl rfl rfl e0) ?_
      obtain ⟨i5, g3, g4⟩ := bX.el (sz := 1) rfl h18 e0
      cases g4
      refine bD (g := 40) rfl rfl (bP a0) (aS (fun _ a6 => bL (t := 0) cM a6 g3 rfl rfl) (bD (g := 40) rfl rfl (bP a0) (aS (fun _ a6 => aD c9) (bD (g := 40) rfl rfl (bP a0) (aS (fun _ a6 => cS rfl h3) (bD (g := 40) rfl rfl (bP a0) (aS (fun _ a6 => bW (k' := k2 + 0) fX rfl h3 rfl) (bD (g := 40) rfl rfl (bP a0) (aS (fun _ a6 => bL (t := 0) cM a6 h3 rfl rfl) (bD (g := 40) rfl rfl (bP a0) (aS (fun _ a6 => aDe rfl rfl) (bD (g := 40) rfl rfl (bP a0) (aS (fun _ a6 => aD d2) (bD (g := 40) rfl rfl (bP a0) (aS (fun _ a6 => cI rfl rfl) (bD (g := 40) rfl rfl (bP a0) ?_))))))))))))))))
      obtain ⟨d4, e1, a3⟩ := aI a3
      refine aS (fun _ a6 => cU iV rfl h15 rfl rfl rfl e1) ?_
      obtain ⟨i6, g5, g6⟩ := bX.el (sz := 1) rfl h15 e1
      cases g6
      exact bD (g := 40) rfl rfl (bP a0) (aS (fun _ a6 => bL (t := 0) aBA a6 g5 rfl rfl) (aS (fun _ a6 => bM (v := Value.bool d4) a0 rfl rfl) (aS (fun _ a6 => aG (v := Value.bool d4) rfl) (dD (fun i7 g7 => (aA ⟨d4, a3, c9, d8, d0, d1, d2, d9, rfl, d3, g7⟩))))))
    refine cW (C := fun w' => aN G K (L) w') bR (by kernel_rfl) (aN.mono a5 (dB.drew _)) (aS (fun _ a5 => aD d7) (aS (fun _ a5 => aD (v := Value.bool b0) rfl) ?_))
    rcases aJ a3 with ⟨a2, a3⟩ | ⟨a2, a3⟩
    ·exact aR (g := 23) rfl rfl (bQ a2) (aR (g := 23) rfl rfl (bQ a2) (aR (g := 23) rfl rfl (bQ a2) (aR (g := 23) rfl rfl (bQ a2) (aR (g := 23) rfl rfl (bQ a2) (aR (g := 23) rfl rfl (bQ a2) (aR (g := 23) rfl rfl (bQ a2) (aR (g := 23) rfl rfl (bQ a2) (aR (g := 23) rfl rfl (bQ a2) (aR (g := 23) rfl rfl (bQ a2) (aR (g := 23) rfl rfl (bQ a2) (aR (g := 23) rfl rfl (bQ a2) (aR (g := 23) rfl rfl (bQ a2) (aR (g := 23) rfl rfl (bQ a2) (aS (fun _ a5 => bK (v := Value.bool true) a2 rfl rfl) (aS (fun _ a5 => aG (v := Value.bool true) rfl) (dD (fun i8 g8 => (aA ⟨true, a3, c2, c3, d6, b2, c4, rfl, c6, b3, g8⟩))))))))))))))))))
    ·refine bD (g := 23) rfl rfl (bP a2) (aS (fun _ a5 => aD c3) (bD (g := 23) rfl rfl (bP a2) (aS (fun _ a5 => aD b2) (bD (g := 23) rfl rfl (bP a2) (aS (fun _ a5 => aD b3) (bD (g := 23) rfl rfl (bP a2) ?_))))))
     obtain ⟨i9, e2, a3⟩ := aI a3
     refine aS (fun _ a5 => cU cT rfl h18 rfl rfl rfl e2) ?_
     obtain ⟨j0, g9, h0⟩ := bX.el (sz := 1) rfl h18 e2
     cases h0
     refine bD (g := 23) rfl rfl (bP a2) (aS (fun _ a5 => bL (t := 0) cM a5 g9 rfl rfl) (bD (g := 23) rfl rfl (bP a2) (aS (fun _ a5 => aD c2) (bD (g := 23) rfl rfl (bP a2) (aS (fun _ a5 => cS rfl h3) (bD (g := 23) rfl rfl (bP a2) (aS (fun _ a5 => bW (k' := k2 + 0) fX rfl h3 rfl) (bD (g := 23) rfl rfl (bP a2) (aS (fun _ a5 => bL (t := 0) cM a5 h3 rfl rfl) (bD (g := 23) rfl rfl (bP a2) (aS (fun _ a5 => aDe rfl rfl) (bD (g := 23) rfl rfl (bP a2) (aS (fun _ a5 => aD c4) (bD (g := 23) rfl rfl (bP a2) (aS (fun _ a5 => cI rfl rfl) (bD (g := 23) rfl rfl (bP a2) ?_))))))))))))))))
     obtain ⟨d5, e3, a3⟩ := aI a3
     refine aS (fun _ a5 => cU iV rfl h12 rfl rfl rfl e3) ?_
     obtain ⟨j1, h1, h2⟩ := bX.el (sz := 1) rfl h12 e3
     cases h2
     exact bD (g := 23) rfl rfl (bP a2) (aS (fun _ a5 => bL (t := 0) aBA a5 h1 rfl rfl) (aS (fun _ a5 => bM (v := Value.bool d5) a2 rfl rfl) (aS (fun _ a5 => aG (v := Value.bool d5) rfl) (dD (fun j2 h4 => (aA ⟨d5, a3, c2, c3, d6, b2, c4, rfl, c6, b3, h4⟩))))))
   ·refine aM c7 rfl (bY (aY (aY ?_)))
    have h5 := f1 _ (Option.some.inj a3).symm
    subst h5
    have hm : (oL b0 a9) = some R := hm
    exact bO (aA ⟨b0, a9, hm, d7, c6, a5⟩)
theorem aFT {list : (List Int)} {n : Int} {R : Bool} (hs : aN G K (L) w) (h3 : bX K a1 c2 list) (hm : aBU list n = some R) :
  Calls Tryz.prog 51 ([Value.slice a1 list.length c2, i64 n] : List Value).toArray w (fW fun v w' => v = Value.bool R ∧ aN G K (L) w') := by
 refine aU Tryz.func51 rfl (by kernel_rfl) (by show (2 : Nat) ≤ 18; decide) ?_
 unfold aBU at hm
 refine aH (aB (aC (aG (v := Value.bool false) rfl) (aF (aA (aH (aH (aB (aC (aG (v := i64 0) rfl) (aF (aA (bC (fun f w => zW = some R ∧ aN G K (L) w) ?_ ?_)))))))))))
 ·rintro f w4 ⟨hm, b1⟩
  unfold zW at hm
  refine aA (aH (aB (aC (aG (v := Value.bool false) rfl) (aF (aA ?_)))))
  have b2 := Option.some.inj hm
  subst b2
  exact bB (aZ Tryz.results51 rfl ⟨rfl, b1⟩)
 obtain ⟨c1, b3, hm⟩ := aI hm
 refine cD b3 (fun (a2 : Int) f w => f 0 = Value.slice a1 list.length c2 ∧ f 1 = i64 n ∧ f 5 = i64 a2 ∧ aN G K (L) w) ?_ ?_
 ·exact ⟨rfl, rfl, rfl, hs⟩
 ·rintro a2 b4 f c3 a0 a8 ⟨a4, a9, a5, a3⟩
  replace a0 : zX list n a2 = some b4 := a0
  unfold zX at a0
  refine aH (aH (aB (aC (aD a5) (aC (aD a4) (aC (bU (len := list.length) cT rfl) (aC (cE rfl rfl) (aF (aA ?_))))))))
  rcases aJ a0 with ⟨a6, a0⟩ | ⟨a6, a0⟩
  ·refine aO a6 rfl (aX (aA (aH (cK (aH (aB (aC (aD a4) (aC (aD a5) ?_))))))))
   obtain ⟨c4, b0, a0⟩ := aI a0
   refine aC (cU cT rfl h3 rfl rfl rfl b0) ?_
   obtain ⟨c5, b5, b6⟩ := bX.el (sz := 1) rfl h3 b0
   cases b6
   refine aC (bL (t := 0) cM a3 b5 rfl rfl) (aC (aD a9) (aC (kC rfl rfl) (aF (aA ?_))))
   rcases aJ a0 with ⟨a7, a0⟩ | ⟨a7, a0⟩
   ·refine aO a7 rfl (aH (aB (aC (aG (v := Value.bool true) rfl) (aF (aA (bB (bN (aQ (aQ ?_)))))))))
    have b7 := a8 _ (Option.some.inj a0).symm
    subst b7
    have hm : (some true) = some R := hm
    have b8 := Option.some.inj hm
    subst b8
    exact bN (aQ (aQ (aZ Tryz.results51 rfl ⟨rfl, a3⟩)))
   ·exact aM a7 rfl (aX (bG (aA (aB (aC (aD a5) (aC (cI rfl rfl) (aC (aG (v := i64 (wr (a2 + 1))) rfl) (aF (aA ⟨wr (a2 + 1), (Option.some.inj a0).symm, a4, a9, rfl, a3⟩)))))))))
  ·refine aM a6 rfl (bY (aY (aY ?_)))
   have b9 := a8 _ (Option.some.inj a0).symm
   subst b9
   have hm : (zW) = some R := hm
   exact bO (aA ⟨hm, a3⟩)
theorem aFh {t : dC} {k2 : Nat} {states : (List Int)} {label : Int} {R : (List Int)} (hs : aN G K (L) w) (h3 : fN K a1 k2 [i64 t.States, i64 t.Initial, Value.slice a4 t.Labels.length c5, Value.slice a7 t.Edges.length c8]) (h6 : bX K a4 c5 t.Labels) (h9 : bX K a7 c8 t.Edges) (h12 : bX K a10 c11 states) (hm : yC t states label = some R) :
  Calls Tryz.prog 69 ([bZ a1 k2, Value.slice a10 states.length c11, i64 label] : List Value).toArray w (fW fun v w' => ∃ (ra0 : Option Addr) (rc0 : Nat), v = Value.slice ra0 R.length rc0 ∧ aN G K (aT 2 K ra0 rc0 R :: L) w') := by
 refine aU Tryz.func69 rfl (by kernel_rfl) (by show (3 : Nat) ≤ 60; decide) ?_
 unfold yC at hm
 refine aH (aB (aC (aG (v := Value.slice none 0 0) rfl) (aF (aA (aH (aB (aC (aD (v := bZ a1 k2) rfl) (aC (cS rfl h3) (aC (bW (k' := k2 + 0) fX rfl h3 rfl) (aC (bL (t := 0) cM hs h3 rfl rfl) ?_))))))))))
 obtain ⟨a3, e3, hm⟩ := aI hm
 refine aDg (e := (false : Bool)) iV ez_4 rfl rfl hs rfl rfl rfl e3 rfl (fun a5 e4 (e5 : aN G K (aT 4 K a5 a3.length a3 :: L) e4) => (aC (aG (v := Value.slice a5 a3.length a3.length) rfl) (aF (aA (aH (aH (aB (aC (aG (v := i64 0) rfl) (aF (aA (bC (fun f w => ∃ (b1 : List Bool), uI t b1 = some R ∧ f 0 = bZ a1 k2 ∧ f 7 = Value.slice a5 b1.length a3.length ∧ aN G K (aT 4 K a5 a3.length b1 :: L) w) ?_ ?_)))))))))))
 ·rintro f h7 ⟨b1, hm, e6, d0, e7⟩
  unfold uI at hm
  refine aA (aH (aB (aC (aD e6) (aC (aD d0) ?_))))
  obtain ⟨d1, e8, hm⟩ := aI hm
  refine aW (vs := [bZ a1 k2, Value.slice a5 b1.length a3.length]) Tryz.call115 rfl (aBs e7 h3 h6 h9 e8) ?_
  rintro _ h8 ⟨rfl, e9, f0⟩
  refine aF (aA (aH (aB (aC (aD (v := Value.slice a5 d1.length a3.length) (Eq.trans d0 (congrArg (fun n => Value.slice a5 n a3.length) e9))) ?_))))
  obtain ⟨i0, i1, f1, f2, f3⟩ := aN.lendS (i := 0) f0 (Hp.le_refl _) rfl
  obtain ⟨f4, f5, hm⟩ := aI hm
  refine aW (vs := [Value.slice a5 d1.length a3.length]) Tryz.call116 rfl (aCa f2 f1 f5) ?_
  rintro _ i2 ⟨d2, d3, rfl, f6⟩
  have f7 := f3 _ _ f6
  refine aC (aG (v := Value.slice d2 f4.length d3) rfl) (aF (aA ?_))
  have f8 := Option.some.inj hm
  subst f8
  exact bB (aZ Tryz.results69 rfl ⟨d2, d3, rfl, (aN.arr 1 [] f7 rfl)⟩)
 obtain ⟨i3, f9, hm⟩ := aI hm
 refine cD f9 (fun (s : (List Bool × Int)) f w => match s with | (a8, a6) => f 0 = bZ a1 k2 ∧ f 1 = Value.slice a10 states.length c11 ∧ f 2 = i64 label ∧ f 7 = Value.slice a5 a8.length a3.length ∧ f 8 = i64 a6 ∧ aN G K (aT 4 K a5 a3.length a8 :: L) w) ?_ ?_
 ·exact ⟨rfl, rfl, rfl, rfl, rfl, e5⟩
 ·rintro ⟨a8, a6⟩ b6 f i4 a0 g0 ⟨b0, b7, b8, b9, b2, a9⟩
  replace a0 : rG t states label a8 a6 = some b6 := a0
  unfold rG at a0
  refine aH (aH (aB (aC (aD b2) (aC (aD b0) (aC (cS rfl h3) (aC (bW (k' := k2 + 3) dI rfl h3 rfl) (aC (bL (t := 3) iC a9 h3 rfl rfl) (aC (bU (len := t.Edges.length) cR rfl) (aC (cE rfl rfl) (aF (aA ?_)))))))))))
  rcases aJ a0 with ⟨c0, a0⟩ | ⟨c0, a0⟩
  ·refine aO c0 rfl (aX (aA (aH (bC (fun f w => ∃ (b3 : List Bool), uJ a6 b3 = some b6 ∧ f 0 = bZ a1 k2 ∧ f 1 = Value.slice a10 states.length c11 ∧ f 2 = i64 label ∧ f 7 = Value.slice a5 b3.length a3.length ∧ f 8 = i64 a6 ∧ aN G K (aT 4 K a5 a3.length b3 :: L) w) ?_ ?_))))
   ·rintro f i5 ⟨b3, a0, g1, g2, g3, g4, g5, g6⟩
    unfold uJ at a0
    exact aA (aB (aC (aD g5) (aC (cI rfl rfl) (aC (aG (v := i64 (wr (a6 + 1))) rfl) (aF (aA ⟨(b3, wr (a6 + 1)), (Option.some.inj a0).symm, g1, g2, g3, g4, rfl, g6⟩))))))
   refine aH (cH (fun f w => ∃ (c1 : Bool), uK t a8 a6 c1 = some b6 ∧ f 0 = bZ a1 k2 ∧ f 1 = Value.slice a10 states.length c11 ∧ f 2 = i64 label ∧ f 7 = Value.slice a5 a8.length a3.length ∧ f 8 = i64 a6 ∧ f 44 = Value.bool c1 ∧ aN G K (aT 4 K a5 a3.length a8 :: L) w) ?_ ?_)
   ·rintro f i6 ⟨c1, a0, c2, d4, d5, c3, c4, d6, b4⟩
    unfold uK at a0
    refine aA ?_
    rcases aJ a0 with ⟨c6, a0⟩ | ⟨c6, a0⟩
    ·refine aO c6 d6 (aB (aC (aD c3) (aC (aD c2) (aC (cS rfl h3) (aC (bW (k' := k2 + 3) dI rfl h3 rfl) (aC (bL (t := 3) iC b4 h3 rfl rfl) (aC (aD c4) ?_)))))))
     obtain ⟨i7, d7, a0⟩ := aI a0
     refine aC (cU cR rfl h9 rfl rfl rfl d7) ?_
     obtain ⟨i8, d8, g7⟩ := bX.el (sz := 3) rfl h9 d7
     cases g7
     refine aC (bW (k' := a6.toNat * 3 + 2) iU rfl d8 rfl) (aC (bL (t := 2) cM b4 d8 rfl rfl) ?_)
     obtain ⟨i9, c7, a0⟩ := aI a0
     have g8 := dL b4 (i := 0) rfl c7
     refine aC (eT iV rfl g8 rfl rfl rfl c7) ?_
     obtain ⟨d9, e0, a0⟩ := aI a0
     exact oA (i := 0) (t := 0) (ns := [Value.bool true]) (e' := (true : Bool)) Tryz.sizeOf4 b4 rfl (Hp.le_refl _) rfl rfl rfl c7 e0 rfl rfl (dT rfl) rfl (fun cs h => by cases h; rfl) (fun g9 (h0 : aN G K (aT 4 K a5 a3.length d9 :: L) g9) => (aF (bG (aA ⟨d9, a0, c2, d4, d5, (Eq.trans c3 (congrArg (fun n => Value.slice a5 n a3.length) (gQ e0))), c4, h0⟩))))
    ·exact aM c6 d6 (aX (bG (aA ⟨a8, a0, c2, d4, d5, c3, c4, b4⟩)))
   refine aB (aC (aD b0) (aC (cS rfl h3) (aC (bW (k' := k2 + 3) dI rfl h3 rfl) (aC (bL (t := 3) iC a9 h3 rfl rfl) (aC (aD b2) ?_)))))
   obtain ⟨e1, c9, a0⟩ := aI a0
   refine aC (cU cR rfl h9 rfl rfl rfl c9) ?_
   obtain ⟨j0, b5, h1⟩ := bX.el (sz := 3) rfl h9 c9
   cases h1
   refine aC (bW (k' := a6.toNat * 3 + 1) fP rfl b5 rfl) (aC (bL (t := 1) cM a9 b5 rfl rfl) (aC (aD b8) (aC (kC rfl rfl) (aC (aD (v := Value.bool (e1.Label == label)) rfl) ?_))))
   rcases aJ a0 with ⟨a2, a0⟩ | ⟨a2, a0⟩
   ·refine bH (g := 33) a2 (by kernel_rfl) rfl (aC (aD b7) (bH (g := 33) a2 (by kernel_rfl) rfl (aC (aD b0) (bH (g := 33) a2 (by kernel_rfl) rfl (aC (cS rfl h3) (bH (g := 33) a2 (by kernel_rfl) rfl (aC (bW (k' := k2 + 3) dI rfl h3 rfl) (bH (g := 33) a2 (by kernel_rfl) rfl (aC (bL (t := 3) iC a9 h3 rfl rfl) (bH (g := 33) a2 (by kernel_rfl) rfl (aC (aD b2) (bH (g := 33) a2 (by kernel_rfl) rfl (aC (cU cR rfl h9 rfl rfl rfl c9) (bH (g := 33) a2 (by kernel_rfl) rfl (aC (bW (k' := a6.toNat * 3 + 0) iB rfl b5 rfl) (bH (g := 33) a2 (by kernel_rfl) rfl (aC (bL (t := 0) cM a9 b5 rfl rfl) (bH (g := 33) a2 (by kernel_rfl) rfl ?_))))))))))))))))))
    obtain ⟨e2, h2, a0⟩ := aI a0
    refine aW (vs := [Value.slice a10 states.length c11, i64 e1.From]) Tryz.call51 rfl (aFT a9 h12 h2) ?_
    rintro _ j1 ⟨rfl, h4⟩
    exact aC (bK (v := Value.bool e2) a2 rfl rfl) (aF (aA ⟨e2, a0, b0, b7, b8, b9, b2, rfl, h4⟩))
   ·exact bA (g := 33) a2 (by kernel_rfl) rfl (bA (g := 33) a2 (by kernel_rfl) rfl (bA (g := 33) a2 (by kernel_rfl) rfl (bA (g := 33) a2 (by kernel_rfl) rfl (bA (g := 33) a2 (by kernel_rfl) rfl (bA (g := 33) a2 (by kernel_rfl) rfl (bA (g := 33) a2 (by kernel_rfl) rfl (bA (g := 33) a2 (by kernel_rfl) rfl (bA (g := 33) a2 (by kernel_rfl) rfl (bA (g := 33) a2 (by kernel_rfl) rfl (aC (bM (v := Value.bool false) a2 rfl rfl) (aF (aA ⟨false, a0, b0, b7, b8, b9, b2, rfl, a9⟩))))))))))))
  ·refine aM c0 rfl (bY (aY (aY ?_)))
   have h5 := g0 _ (Option.some.inj a0).symm
   subst h5
   have hm : (uI t a8) = some R := hm
   exact bO (aA ⟨a8, hm, b0, b9, a9⟩)
theorem aFi {a : (List Int)} {b : (List Int)} {R : Bool} (hs : aN G K (L) w) (h3 : bX K a1 c2 a) (h6 : bX K a4 c5 b) (hm : aAB a b = some R) :
  Calls Tryz.prog 71 ([Value.slice a1 a.length c2, Value.slice a4 b.length c5] : List Value).toArray w (fW fun v w' => v = Value.bool R ∧ aN G K (L) w') := by
 refine aU Tryz.func71 rfl (by kernel_rfl) (by show (2 : Nat) ≤ 26; decide) ?_
 unfold aAB at hm
 refine aH (aB (aC (aG (v := Value.bool false) rfl) (aF (aA (aH (aH (aB (aC (aD (v := Value.slice a1 a.length c2) rfl) (aC (bU (len := a.length) cT rfl) (aC (aD (v := Value.slice a4 b.length c5) rfl) (aC (bU (len := b.length) cT rfl) (aC (lS rfl rfl) (aF (aA ?_))))))))))))))
 rcases aJ hm with ⟨c7, hm⟩ | ⟨c7, hm⟩
 ·refine aO c7 rfl (aH (aB (aC (aG (v := Value.bool false) rfl) (aF (aA ?_)))))
  have b5 := Option.some.inj hm
  subst b5
  exact bB (aQ (aZ Tryz.results71 rfl ⟨rfl, hs⟩))
 ·refine aM c7 rfl (aX (aA (aH (aH (aB (aC (aG (v := i64 0) rfl) (aF (aA (bC (fun f w => xS = some R ∧ aN G K (L) w) ?_ ?_)))))))))
  ·rintro f w9 ⟨hm, b6⟩
   unfold xS at hm
   refine aA (aH (aB (aC (aG (v := Value.bool true) rfl) (aF (aA ?_)))))
   have b7 := Option.some.inj hm
   subst b7
   exact bB (aZ Tryz.results71 rfl ⟨rfl, b6⟩)
  obtain ⟨d0, b8, hm⟩ := aI hm
  refine cD b8 (fun (a3 : Int) f w => f 0 = Value.slice a1 a.length c2 ∧ f 1 = Value.slice a4 b.length c5 ∧ f 5 = i64 a3 ∧ aN G K (L) w) ?_ ?_
  ·exact ⟨rfl, rfl, rfl, hs⟩
  ·rintro a3 b9 f d1 a0 b0 ⟨a7, b1, a5, a2⟩
   replace a0 : uL a b a3 = some b9 := a0
   unfold uL at a0
   refine aH (aH (aB (aC (aD a5) (aC (aD a7) (aC (bU (len := a.length) cT rfl) (aC (cE rfl rfl) (aF (aA ?_))))))))
   rcases aJ a0 with ⟨a8, a0⟩ | ⟨a8, a0⟩
   ·refine aO a8 rfl (aX (aA (aH (cK (aH (cW (C := fun w' => aN G K (L) w') bR (by kernel_rfl) (aN.mono a2 (dB.drew _)) (aS (fun _ a2 => aD a7) (aS (fun _ a2 => aD a5) ?_))))))))
    obtain ⟨d2, b2, a0⟩ := aI a0
    refine aS (fun _ a2 => cU cT rfl h3 rfl rfl rfl b2) ?_
    obtain ⟨d3, c0, c1⟩ := bX.el (sz := 1) rfl h3 b2
    cases c1
    refine aS (fun _ a2 => bL (t := 0) cM a2 c0 rfl rfl) (aS (fun _ a2 => aD b1) (aS (fun _ a2 => aD a5) ?_))
    obtain ⟨d4, b3, a0⟩ := aI a0
    refine aS (fun _ a2 => cU cT rfl h6 rfl rfl rfl b3) ?_
    obtain ⟨d5, c3, c4⟩ := bX.el (sz := 1) rfl h6 b3
    cases c4
    refine aS (fun _ a2 => bL (t := 0) cM a2 c3 rfl rfl) (aS (fun _ a2 => lS rfl rfl) (dD (fun d6 b4 => (aA ?_))))
    rcases aJ a0 with ⟨a9, a0⟩ | ⟨a9, a0⟩
    ·refine aO a9 rfl (aH (aB (aC (aG (v := Value.bool false) rfl) (aF (aA (bB (bN (aQ (aQ ?_)))))))))
     have c6 := b0 _ (Option.some.inj a0).symm
     subst c6
     have hm : (some false) = some R := hm
     have hR55 := Option.some.inj hm
     subst hR55
     exact bN (aQ (aQ (aZ Tryz.results71 rfl ⟨rfl, b4⟩)))
    ·exact aM a9 rfl (aX (bG (aA (aB (aC (aD a5) (aC (cI rfl rfl) (aC (aG (v := i64 (wr (a3 + 1))) rfl) (aF (aA ⟨wr (a3 + 1), (Option.some.inj a0).symm, a7, b1, rfl, b4⟩)))))))))
   ·refine aM a8 rfl (bY (aY (aY ?_)))
    have c8 := b0 _ (Option.some.inj a0).symm
    subst c8
    have hm : (xS) = some R := hm
    exact bO (aA ⟨hm, a2⟩)
end Gv
