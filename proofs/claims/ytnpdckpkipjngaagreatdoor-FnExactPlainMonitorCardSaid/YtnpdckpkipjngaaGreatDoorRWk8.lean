/- Walks, printed by program. -/
import Derived.Test.YtnpdckpkipjngaaGreatDoorRWk1
import Derived.Test.YtnpdckpkipjngaaGreatDoorRWk3
import Derived.Test.YtnpdckpkipjngaaGreatDoorRWk7
set_option linter.all false
namespace Gv
open Go Go.Proofs
set_option maxRecDepth 20000
set_option maxHeartbeats 1000000
variable {G : Env} {K : Hp} {L : List nV} {w : World} {a1 a3 a5 a4 a7 : Option Addr} {c2 c4 c6 c5 c8 : Nat}
theorem zF {a : (List bF)} {k : Int} {R : (Int × (List bF))} (hs : aN G K (aT 9 K a1 c2 a :: L) w)  (hm : pQ a k = some R) :
  Calls Tryz.prog 15 ([Value.slice a1 a.length c2, i64 k] : List Value).toArray w (fW fun v w' => v = i64 R.1 ∧ a.length = R.2.length ∧ aN G K (aT 9 K a1 c2 R.2 :: L) w') := by
 refine aU Tryz.func15 rfl (by kernel_rfl) (by show (2 : Nat) ≤ 20; decide) ?_
 unfold pQ at hm
 refine aH (aB (aC (aG (v := i64 0) rfl) (aF (aA (aH (aH (aB (aC (aG (v := i64 0) rfl) (aF (aA (bC (fun f w => ∃ (k3 : Int) (a4 : List bF), nM k3 a4 = some R ∧ f 1 = i64 k3 ∧ a.length = a4.length ∧ aN G K (aT 9 K a1 c2 a4 :: L) w) ?_ ?_)))))))))))
 ·rintro f w7 ⟨k3, a4, hm, e6, b8, b9⟩
  unfold nM at hm
  refine aA (aH (aB (aC (aD e6) (aC (aG (v := i64 k3) rfl) (aF (aA ?_))))))
  have c0 := Option.some.inj hm
  subst c0
  exact bB (aZ Tryz.results15 rfl ⟨rfl, b8, b9⟩)
 obtain ⟨d1, c1, hm⟩ := aI hm
 refine cD c1 (fun (s : (List bF × Int × Int)) f w => match s with | (a2, a3, i27) => f 0 = Value.slice a1 a2.length c2 ∧ f 1 = i64 a3 ∧ f 5 = i64 i27 ∧ a.length = a2.length ∧ aN G K (aT 9 K a1 c2 a2 :: L) w) ?_ ?_
 ·exact ⟨rfl, rfl, rfl, rfl, hs⟩
 ·rintro ⟨a2, a3, i27⟩ c3 f d2 a0 c4 ⟨a7, a8, a9, b2, b3⟩
  replace a0 : nN a2 a3 i27 = some c3 := a0
  unfold nN at a0
  refine aH (aH (aB (aC (aD a9) (aC (aD a7) (aC (bU (len := a2.length) cQ rfl) (aC (cE rfl rfl) (aF (aA ?_))))))))
  rcases aJ a0 with ⟨c45, a0⟩ | ⟨c45, a0⟩
  ·refine aO c45 rfl (aX (aA (aH (cK (aH (aB (aC (aD a7) (aC (aD a9) (aC (aD a8) ?_)))))))))
   obtain ⟨b4, c5, a0⟩ := aI a0
   refine aW (vs := [i64 a3]) Tryz.call41 rfl (aBv b3 c5) ?_
   rintro _ d3 ⟨rfl, b5⟩
   obtain ⟨d4, b0, a0⟩ := aI a0
   have c6 := dL b5 (i := 0) rfl b0
   refine aC (eT cQ rfl c6 rfl rfl rfl b0) ?_
   obtain ⟨b6, b1, a0⟩ := aI a0
   exact oA (i := 0) (t := 0) (ns := [cF b4]) (e' := (b4 : bF)) Tryz.sizeOf9 b5 rfl (Hp.le_refl _) rfl rfl rfl b0 b1 rfl rfl (dT rfl) rfl (fun cs h => by cases h; rfl) (fun c7 (c8 : aN G K (aT 9 K a1 c2 b6 :: L) c7) => (aF (aA (aB (aC (aD a8) (aC (cI rfl rfl) (aC (aG (v := i64 (wr (a3 + 1))) rfl) (aF (bG (aA (aB (aC (aD a9) (aC (cI rfl rfl) (aC (aG (v := i64 (wr (i27 + 1))) rfl) (aF (aA ⟨(b6, wr (a3 + 1), wr (i27 + 1)), (Option.some.inj a0).symm, (Eq.trans a7 (congrArg (fun n => Value.slice a1 n c2) (gQ b1))), rfl, rfl, (b2.trans (gQ b1)), c8⟩))))))))))))))))
  ·refine aM c45 rfl (bY (aY (aY ?_)))
   have c9 := c4 _ (Option.some.inj a0).symm
   subst c9
   have hm : (nM a3 a2) = some R := hm
   exact bO (aA ⟨a3, a2, hm, a8, b2, b3⟩)
theorem aEe {a : (List Edge)} {k : Int} {R : (Int × (List Edge))} (hs : aN G K (aT 63 K a1 c2 a :: L) w)  (hm : wX a k = some R) :
  Calls Tryz.prog 40 ([Value.slice a1 a.length c2, i64 k] : List Value).toArray w (fW fun v w' => v = i64 R.1 ∧ a.length = R.2.length ∧ aN G K (aT 63 K a1 c2 R.2 :: L) w') := by
 refine aU Tryz.func40 rfl (by kernel_rfl) (by show (2 : Nat) ≤ 34; decide) ?_
 unfold wX at hm
 refine aH (aB (aC (aG (v := i64 0) rfl) (aF (aA (aH (aH (aB (aC (aG (v := i64 0) rfl) (aF (aA (bC (fun f w => ∃ (k3 : Int) (a4 : List Edge), qU k3 a4 = some R ∧ f 1 = i64 k3 ∧ a.length = a4.length ∧ aN G K (aT 63 K a1 c2 a4 :: L) w) ?_ ?_)))))))))))
 ·rintro f w7 ⟨k3, a4, hm, e6, c7, c8⟩
  unfold qU at hm
  refine aA (aH (aB (aC (aD e6) (aC (aG (v := i64 k3) rfl) (aF (aA ?_))))))
  have c9 := Option.some.inj hm
  subst c9
  exact bB (aZ Tryz.results40 rfl ⟨rfl, c7, c8⟩)
 obtain ⟨e1, d0, hm⟩ := aI hm
 refine cD d0 (fun (s : (List Edge × Int × Int)) f w => match s with | (a3, a2, i27) => f 0 = Value.slice a1 a3.length c2 ∧ f 1 = i64 a2 ∧ f 5 = i64 i27 ∧ a.length = a3.length ∧ aN G K (aT 63 K a1 c2 a3 :: L) w) ?_ ?_
 ·exact ⟨rfl, rfl, rfl, rfl, hs⟩
 ·rintro ⟨a3, a2, i27⟩ d1 f e2 a0 d2 ⟨a6, b2, a7, b6, b3⟩
  replace a0 : qV a3 a2 i27 = some d1 := a0
  unfold qV at a0
  refine aH (aH (aB (aC (aD a7) (aC (aD a6) (aC (bU (len := a3.length) cR rfl) (aC (cE rfl rfl) (aF (aA ?_))))))))
  rcases aJ a0 with ⟨c45, a0⟩ | ⟨c45, a0⟩
  ·refine aO c45 rfl (aX (aA (aH (cK (aH (aB (aC (aD a6) (aC (aD a7) (aC (aD b2) ?_)))))))))
   obtain ⟨b7, b4, a0⟩ := aI a0
   have a5 := dL b3 (i := 0) rfl b4
   refine aC (eT cR rfl a5 rfl rfl rfl b4) (aC (aGJ (k' := i27.toNat * 3 + 0) iB a5 rfl rfl) ?_)
   obtain ⟨b8, a8, a0⟩ := aI a0
   refine oA (i := 0) (t := 0) (ns := [i64 a2]) (e' := (⟨a2, b7.Label, b7.To⟩ : Edge)) Tryz.sizeOf2 b3 rfl (Hp.le_refl _) rfl rfl rfl b4 a8 rfl rfl (dT rfl) rfl (fun cs h => by cases h; rfl) (fun d3 (d4 : aN G K (aT 63 K a1 c2 b8 :: L) d3) => (aF (aA (aH (aB (aC (aD b2) (aC (cI rfl rfl) (aC (aG (v := i64 (wr (a2 + 1))) rfl) (aF (aA (aH (aB (aC (aD (v := Value.slice a1 b8.length c2) (Eq.trans a6 (congrArg (fun n => Value.slice a1 n c2) (gQ a8)))) (aC (aD a7) (aC (aD (v := i64 (wr (a2 + 1))) rfl) ?_)))))))))))))))
   obtain ⟨b9, c0, a0⟩ := aI a0
   refine aC (eT cR rfl a5 rfl rfl rfl c0) (aC (aGJ (k' := i27.toNat * 3 + 1) fP a5 rfl rfl) ?_)
   obtain ⟨c1, b1, a0⟩ := aI a0
   refine oA (i := 0) (t := 1) (ns := [i64 (wr (a2 + 1))]) (e' := (⟨b9.From, wr (a2 + 1), b9.To⟩ : Edge)) Tryz.sizeOf2 d4 rfl (Hp.le_refl _) rfl rfl rfl c0 b1 rfl rfl (dT rfl) rfl (fun cs h => by cases h; rfl) (fun d5 (d6 : aN G K (aT 63 K a1 c2 c1 :: L) d5) => (aF (aA (aH (aB (aC (aD (v := i64 (wr (a2 + 1))) rfl) (aC (cI rfl rfl) (aC (aG (v := i64 (wr ((wr (a2 + 1)) + 1))) rfl) (aF (aA (aH (aB (aC (aD (v := Value.slice a1 c1.length c2) (Eq.trans (Eq.trans a6 (congrArg (fun n => Value.slice a1 n c2) (gQ a8))) (congrArg (fun n => Value.slice a1 n c2) (gQ b1)))) (aC (aD a7) (aC (aD (v := i64 (wr ((wr (a2 + 1)) + 1))) rfl) ?_)))))))))))))))
   obtain ⟨c3, c4, a0⟩ := aI a0
   refine aC (eT cR rfl a5 rfl rfl rfl c4) (aC (aGJ (k' := i27.toNat * 3 + 2) iU a5 rfl rfl) ?_)
   obtain ⟨c5, b5, a0⟩ := aI a0
   exact oA (i := 0) (t := 2) (ns := [i64 (wr ((wr (a2 + 1)) + 1))]) (e' := (⟨c3.From, c3.Label, wr ((wr (a2 + 1)) + 1)⟩ : Edge)) Tryz.sizeOf2 d6 rfl (Hp.le_refl _) rfl rfl rfl c4 b5 rfl rfl (dT rfl) rfl (fun cs h => by cases h; rfl) (fun d7 (d8 : aN G K (aT 63 K a1 c2 c5 :: L) d7) => (aF (aA (aB (aC (aD (v := i64 (wr ((wr (a2 + 1)) + 1))) rfl) (aC (cI rfl rfl) (aC (aG (v := i64 (wr ((wr ((wr (a2 + 1)) + 1)) + 1))) rfl) (aF (bG (aA (aB (aC (aD a7) (aC (cI rfl rfl) (aC (aG (v := i64 (wr (i27 + 1))) rfl) (aF (aA ⟨(c5, wr ((wr ((wr (a2 + 1)) + 1)) + 1), wr (i27 + 1)), (Option.some.inj a0).symm, (Eq.trans (Eq.trans (Eq.trans a6 (congrArg (fun n => Value.slice a1 n c2) (gQ a8))) (congrArg (fun n => Value.slice a1 n c2) (gQ b1))) (congrArg (fun n => Value.slice a1 n c2) (gQ b5))), rfl, rfl, (((b6.trans (gQ a8)).trans (gQ b1)).trans (gQ b5)), d8⟩))))))))))))))))
  ·refine aM c45 rfl (bY (aY (aY ?_)))
   have d9 := d2 _ (Option.some.inj a0).symm
   subst d9
   have hm : (qU a2 a3) = some R := hm
   exact bO (aA ⟨a2, a3, hm, b2, b6, b3⟩)
theorem aCd {a_States : Int} {a_Initial : Int} {a_Labels : (List bF)} {a_Edges : (List Edge)} {k : Int} {R : (Int × (List bF) × (List Edge))} (hs : aN G K (aT 9 K a1 c2 a_Labels :: aT 63 K a3 c4 a_Edges :: L) w)  (hm : yE a_States a_Initial a_Labels a_Edges k = some R) :
  Calls Tryz.prog 14 ([Value.agg #[i64 a_States, i64 a_Initial, Value.slice a1 a_Labels.length c2, Value.slice a3 a_Edges.length c4], i64 k] : List Value).toArray w (fW fun v w' => v = i64 R.1 ∧ a_Labels.length = R.2.1.length ∧ a_Edges.length = R.2.2.length ∧ aN G K (aT 9 K a1 c2 R.2.1 :: aT 63 K a3 c4 R.2.2 :: L) w') := by
 refine aU Tryz.func14 rfl (by kernel_rfl) (by show (2 : Nat) ≤ 14; decide) ?_
 unfold yE at hm
 refine aH (aB (dU (v := Value.agg #[i64 a_States, i64 a_Initial, Value.slice a1 a_Labels.length c2, Value.slice a3 a_Edges.length c4]) (vs := [i64 a_States, i64 a_Initial, Value.slice a1 a_Labels.length c2, Value.slice a3 a_Edges.length c4]) hs rfl rfl (fun b5 w6 a6 => (aC (aG (v := i64 0) rfl) (aF (aA (aH (aB (aC (bI (t' := 2) gS rfl rfl) (aC (cA nY a6 (i := 0) rfl rfl rfl) (aC (aD (v := i64 k) rfl) ?_)))))))))))
 have b2 : aN G K (aT 9 K a1 c2 a_Labels :: box b5 30 [i64 a_States, i64 a_Initial, Value.slice a1 a_Labels.length c2, Value.slice a3 a_Edges.length c4] :: aT 63 K a3 c4 a_Edges :: L) w6 := (aN.arr 2 [1, 0] a6 rfl)
 obtain ⟨r9, b3, hm⟩ := aI hm
 refine aW (vs := [Value.slice a1 a_Labels.length c2, i64 k]) Tryz.call15 rfl (zF b2 b3) ?_
 rintro _ a5 ⟨rfl, a7, b4⟩
 have a8 : aN G K (aT 9 K a1 c2 r9.2 :: box b5 30 [i64 a_States, i64 a_Initial, Value.slice a1 r9.2.length c2, Value.slice a3 a_Edges.length c4] :: aT 63 K a3 c4 a_Edges :: L) a5 := Eq.mp (congrArg (fun n => aN G K (aT 9 K a1 c2 r9.2 :: box b5 30 [i64 a_States, i64 a_Initial, Value.slice a1 n c2, Value.slice a3 a_Edges.length c4] :: aT 63 K a3 c4 a_Edges :: L) a5) a7) b4
 refine aC (aG (v := i64 r9.1) rfl) (aF (aA (aH (aB (aC (bI (t' := 3) dI rfl rfl) (aC (cA iC a8 (i := 1) rfl rfl rfl) (aC (aD (v := i64 r9.1) rfl) ?_)))))))
 have hs15 : aN G K (aT 63 K a3 c4 a_Edges :: aT 9 K a1 c2 r9.2 :: box b5 30 [i64 a_States, i64 a_Initial, Value.slice a1 r9.2.length c2, Value.slice a3 a_Edges.length c4] :: L) a5 := (aN.arr 3 [2, 0, 1] a8 rfl)
 obtain ⟨a4, b6, hm⟩ := aI hm
 refine aW (vs := [Value.slice a3 a_Edges.length c4, i64 r9.1]) Tryz.call40 rfl (aEe hs15 b6) ?_
 rintro _ a9 ⟨rfl, b0, b7⟩
 have b8 : aN G K (aT 63 K a3 c4 a4.2 :: aT 9 K a1 c2 r9.2 :: box b5 30 [i64 a_States, i64 a_Initial, Value.slice a1 r9.2.length c2, Value.slice a3 a4.2.length c4] :: L) a9 := Eq.mp (congrArg (fun n => aN G K (aT 63 K a3 c4 a4.2 :: aT 9 K a1 c2 r9.2 :: box b5 30 [i64 a_States, i64 a_Initial, Value.slice a1 r9.2.length c2, Value.slice a3 n c4] :: L) a9) b0) b7
 refine aC (aG (v := i64 a4.1) rfl) (aF (aA (aH (aB (aC (aD (v := i64 a4.1) rfl) (aC (aG (v := i64 a4.1) rfl) (aF (aA ?_))))))))
 have b9 := Option.some.inj hm
 subst b9
 exact bB (aZ Tryz.results14 rfl ⟨rfl, a7, b0, (aN.arr 3 [1, 0] b8 rfl)⟩)
theorem aDD {a : (List Int)} {k : Int} {R : (Int × (List Int))} (hs : aN G K (aT 2 K a1 c2 a :: L) w)  (hm : vC a k = some R) :
  Calls Tryz.prog 42 ([Value.slice a1 a.length c2, i64 k] : List Value).toArray w (fW fun v w' => v = i64 R.1 ∧ a.length = R.2.length ∧ aN G K (aT 2 K a1 c2 R.2 :: L) w') := by
 refine aU Tryz.func42 rfl (by kernel_rfl) (by show (2 : Nat) ≤ 19; decide) ?_
 unfold vC at hm
 refine aH (aB (aC (aG (v := i64 0) rfl) (aF (aA (aH (aH (aB (aC (aG (v := i64 0) rfl) (aF (aA (bC (fun f w => ∃ (k3 : Int) (a4 : List Int), oR k3 a4 = some R ∧ f 1 = i64 k3 ∧ a.length = a4.length ∧ aN G K (aT 2 K a1 c2 a4 :: L) w) ?_ ?_)))))))))))
 ·rintro f w7 ⟨k3, a4, hm, e6, b6, b7⟩
  unfold oR at hm
  refine aA (aH (aB (aC (aD e6) (aC (aG (v := i64 k3) rfl) (aF (aA ?_))))))
  have b8 := Option.some.inj hm
  subst b8
  exact bB (aZ Tryz.results42 rfl ⟨rfl, b6, b7⟩)
 obtain ⟨c8, b9, hm⟩ := aI hm
 refine cD b9 (fun (s : (List Int × Int × Int)) f w => match s with | (a3, a2, i27) => f 0 = Value.slice a1 a3.length c2 ∧ f 1 = i64 a2 ∧ f 5 = i64 i27 ∧ a.length = a3.length ∧ aN G K (aT 2 K a1 c2 a3 :: L) w) ?_ ?_
 ·exact ⟨rfl, rfl, rfl, rfl, hs⟩
 ·rintro ⟨a3, a2, i27⟩ c0 f c9 a0 c1 ⟨a7, a8, a9, b3, b0⟩
  replace a0 : oS a3 a2 i27 = some c0 := a0
  unfold oS at a0
  refine aH (aH (aB (aC (aD a9) (aC (aD a7) (aC (bU (len := a3.length) cT rfl) (aC (cE rfl rfl) (aF (aA ?_))))))))
  rcases aJ a0 with ⟨c45, a0⟩ | ⟨c45, a0⟩
  ·refine aO c45 rfl (aX (aA (aH (cK (aH (aB (aC (aD a7) (aC (aD a9) (aC (aD a8) ?_)))))))))
   obtain ⟨d0, b1, a0⟩ := aI a0
   have c3 := dL b0 (i := 0) rfl b1
   refine aC (eT cT rfl c3 rfl rfl rfl b1) ?_
   obtain ⟨b4, b2, a0⟩ := aI a0
   exact oA (i := 0) (t := 0) (ns := [i64 a2]) (e' := (a2 : Int)) Tryz.sizeOf2 b0 rfl (Hp.le_refl _) rfl rfl rfl b1 b2 rfl rfl (dT rfl) rfl (fun cs h => by cases h; rfl) (fun c4 (c5 : aN G K (aT 2 K a1 c2 b4 :: L) c4) => (aF (aA (aB (aC (aD a8) (aC (cI rfl rfl) (aC (aG (v := i64 (wr (a2 + 1))) rfl) (aF (bG (aA (aB (aC (aD a9) (aC (cI rfl rfl) (aC (aG (v := i64 (wr (i27 + 1))) rfl) (aF (aA ⟨(b4, wr (a2 + 1), wr (i27 + 1)), (Option.some.inj a0).symm, (Eq.trans a7 (congrArg (fun n => Value.slice a1 n c2) (gQ b2))), rfl, rfl, (b3.trans (gQ b2)), c5⟩))))))))))))))))
  ·refine aM c45 rfl (bY (aY (aY ?_)))
   have c6 := c1 _ (Option.some.inj a0).symm
   subst c6
   have hm : (oR a2 a3) = some R := hm
   exact bO (aA ⟨a2, a3, hm, a8, b3, b0⟩)
theorem aCX {a_System_States : Int} {a_System_Initial : Int} {a_System_Labels : (List bF)} {a_System_Edges : (List Edge)} {a_Verdicts : (List Int)} {k : Int} {R : (Int × (List bF) × (List Edge) × (List Int))} (hs : aN G K (aT 9 K a1 c2 a_System_Labels :: aT 63 K a3 c4 a_System_Edges :: aT 2 K a5 c6 a_Verdicts :: L) w)  (hm : sQ a_System_States a_System_Initial a_System_Labels a_System_Edges a_Verdicts k = some R) :
  Calls Tryz.prog 16 ([Value.agg #[i64 a_System_States, i64 a_System_Initial, Value.slice a1 a_System_Labels.length c2, Value.slice a3 a_System_Edges.length c4, Value.slice a5 a_Verdicts.length c6], i64 k] : List Value).toArray w (fW fun v w' => v = i64 R.1 ∧ a_System_Labels.length = R.2.1.length ∧ a_System_Edges.length = R.2.2.1.length ∧ a_Verdicts.length = R.2.2.2.length ∧ aN G K (aT 9 K a1 c2 R.2.1 :: aT 63 K a3 c4 R.2.2.1 :: aT 2 K a5 c6 R.2.2.2 :: L) w') := by
 refine aU Tryz.func16 rfl (by kernel_rfl) (by show (2 : Nat) ≤ 14; decide) ?_
 unfold sQ at hm
 refine aH (aB (dU (v := Value.agg #[i64 a_System_States, i64 a_System_Initial, Value.slice a1 a_System_Labels.length c2, Value.slice a3 a_System_Edges.length c4, Value.slice a5 a_Verdicts.length c6]) (vs := [i64 a_System_States, i64 a_System_Initial, Value.slice a1 a_System_Labels.length c2, Value.slice a3 a_System_Edges.length c4, Value.slice a5 a_Verdicts.length c6]) hs rfl rfl (fun b7 w8 a7 => (aC (aG (v := i64 0) rfl) (aF (aA (aH (aB (aC (bI (t' := 0) aDn rfl rfl) (aC (dR (us := [i64 a_System_States, i64 a_System_Initial, Value.slice a1 a_System_Labels.length c2, Value.slice a3 a_System_Edges.length c4]) gT a7 (i := 0) rfl rfl rfl rfl) (aC (aD (v := i64 k) rfl) ?_)))))))))))
 have b4 : aN G K (aT 9 K a1 c2 a_System_Labels :: aT 63 K a3 c4 a_System_Edges :: box b7 33 [i64 a_System_States, i64 a_System_Initial, Value.slice a1 a_System_Labels.length c2, Value.slice a3 a_System_Edges.length c4, Value.slice a5 a_Verdicts.length c6] :: aT 2 K a5 c6 a_Verdicts :: L) w8 := (aN.arr 3 [1, 2, 0] a7 rfl)
 obtain ⟨a0, b5, hm⟩ := aI hm
 refine aW (vs := [Value.agg #[i64 a_System_States, i64 a_System_Initial, Value.slice a1 a_System_Labels.length c2, Value.slice a3 a_System_Edges.length c4], i64 k]) Tryz.call14 rfl (aCd b4 b5) ?_
 rintro _ a6 ⟨rfl, a8, a9, b6⟩
 have hs17 : aN G K (aT 9 K a1 c2 a0.2.1 :: aT 63 K a3 c4 a0.2.2 :: box b7 33 [i64 a_System_States, i64 a_System_Initial, Value.slice a1 a0.2.1.length c2, Value.slice a3 a_System_Edges.length c4, Value.slice a5 a_Verdicts.length c6] :: aT 2 K a5 c6 a_Verdicts :: L) a6 := Eq.mp (congrArg (fun n => aN G K (aT 9 K a1 c2 a0.2.1 :: aT 63 K a3 c4 a0.2.2 :: box b7 33 [i64 a_System_States, i64 a_System_Initial, Value.slice a1 n c2, Value.slice a3 a_System_Edges.length c4, Value.slice a5 a_Verdicts.length c6] :: aT 2 K a5 c6 a_Verdicts :: L) a6) a8) b6
 have b0 : aN G K (aT 9 K a1 c2 a0.2.1 :: aT 63 K a3 c4 a0.2.2 :: box b7 33 [i64 a_System_States, i64 a_System_Initial, Value.slice a1 a0.2.1.length c2, Value.slice a3 a0.2.2.length c4, Value.slice a5 a_Verdicts.length c6] :: aT 2 K a5 c6 a_Verdicts :: L) a6 := Eq.mp (congrArg (fun n => aN G K (aT 9 K a1 c2 a0.2.1 :: aT 63 K a3 c4 a0.2.2 :: box b7 33 [i64 a_System_States, i64 a_System_Initial, Value.slice a1 a0.2.1.length c2, Value.slice a3 n c4, Value.slice a5 a_Verdicts.length c6] :: aT 2 K a5 c6 a_Verdicts :: L) a6) a9) hs17
 refine aC (aG (v := i64 a0.1) rfl) (aF (aA (aH (aB (aC (bI (t' := 4) zT rfl rfl) (aC (cA aAu b0 (i := 2) rfl rfl rfl) (aC (aD (v := i64 a0.1) rfl) ?_)))))))
 have b8 : aN G K (aT 2 K a5 c6 a_Verdicts :: aT 9 K a1 c2 a0.2.1 :: aT 63 K a3 c4 a0.2.2 :: box b7 33 [i64 a_System_States, i64 a_System_Initial, Value.slice a1 a0.2.1.length c2, Value.slice a3 a0.2.2.length c4, Value.slice a5 a_Verdicts.length c6] :: L) a6 := (aN.arr 4 [3, 0, 1, 2] b0 rfl)
 obtain ⟨a4, b9, hm⟩ := aI hm
 refine aW (vs := [Value.slice a5 a_Verdicts.length c6, i64 a0.1]) Tryz.call42 rfl (aDD b8 b9) ?_
 rintro _ b1 ⟨rfl, b2, c0⟩
 have c1 : aN G K (aT 2 K a5 c6 a4.2 :: aT 9 K a1 c2 a0.2.1 :: aT 63 K a3 c4 a0.2.2 :: box b7 33 [i64 a_System_States, i64 a_System_Initial, Value.slice a1 a0.2.1.length c2, Value.slice a3 a0.2.2.length c4, Value.slice a5 a4.2.length c6] :: L) b1 := Eq.mp (congrArg (fun n => aN G K (aT 2 K a5 c6 a4.2 :: aT 9 K a1 c2 a0.2.1 :: aT 63 K a3 c4 a0.2.2 :: box b7 33 [i64 a_System_States, i64 a_System_Initial, Value.slice a1 a0.2.1.length c2, Value.slice a3 a0.2.2.length c4, Value.slice a5 n c6] :: L) b1) b2) c0
 refine aC (aG (v := i64 a4.1) rfl) (aF (aA (aH (aB (aC (aD (v := i64 a4.1) rfl) (aC (aG (v := i64 a4.1) rfl) (aF (aA ?_))))))))
 have c3 := Option.some.inj hm
 subst c3
 exact bB (aZ Tryz.results16 rfl ⟨rfl, a8, a9, b2, (aN.arr 4 [1, 2, 0] c1 rfl)⟩)
theorem aCY {a : (List bF)} {k : Int} {R : Int} (hs : aN G K (L) w) (h3 : bX K a1 c2 a) (hm : sR a k = some R) :
  Calls Tryz.prog 61 ([Value.slice a1 a.length c2, i64 k] : List Value).toArray w (fW fun v w' => v = i64 R ∧ aN G K (L) w') := by
 refine aU Tryz.func61 rfl (by kernel_rfl) (by show (2 : Nat) ≤ 22; decide) ?_
 unfold sR at hm
 refine aH (aB (aC (aG (v := i64 0) rfl) (aF (aA (aH (aH (aB (aC (aG (v := i64 0) rfl) (aF (aA (bC (fun f w => ∃ (k4 : Int), rO k4 = some R ∧ f 1 = i64 k4 ∧ aN G K (L) w) ?_ ?_)))))))))))
 ·rintro f w6 ⟨k4, hm, e5, b5⟩
  unfold rO at hm
  refine aA (aH (aB (aC (aD e5) (aC (aG (v := i64 k4) rfl) (aF (aA ?_))))))
  have b6 := Option.some.inj hm
  subst b6
  exact bB (aZ Tryz.results61 rfl ⟨rfl, b5⟩)
 obtain ⟨c8, b7, hm⟩ := aI hm
 refine cD b7 (fun (s : (Int × Int)) f w => match s with | (a3, a4) => f 0 = Value.slice a1 a.length c2 ∧ f 1 = i64 a3 ∧ f 5 = i64 a4 ∧ aN G K (L) w) ?_ ?_
 ·exact ⟨rfl, rfl, rfl, hs⟩
 ·rintro ⟨a3, a4⟩ b8 f c9 a0 b1 ⟨a6, a7, a8, a2⟩
  replace a0 : kS a a3 a4 = some b8 := a0
  unfold kS at a0
  refine aH (aH (aB (aC (aD a8) (aC (aD a6) (aC (bU (len := a.length) cQ rfl) (aC (cE rfl rfl) (aF (aA ?_))))))))
  rcases aJ a0 with ⟨a9, a0⟩ | ⟨a9, a0⟩
  ·refine aO a9 rfl (aX (aA (aH (cK (aH (aH (cW (C := fun w' => aN G K (L) w') bR (by kernel_rfl) (aN.mono a2 (dB.drew _)) (aS (fun _ a2 => aD a6) (aS (fun _ a2 => aD a8) ?_)))))))))
   obtain ⟨d0, b2, a0⟩ := aI a0
   refine aS (fun _ a2 => cU cQ rfl h3 rfl rfl rfl b2) ?_
   obtain ⟨d1, b9, c0⟩ := bX.el (sz := 1) rfl h3 b2
   cases c0
   refine aS (fun _ a2 => bL (t := 0) oI a2 b9 rfl rfl) (aS (fun _ a2 => aD a7) ?_)
   obtain ⟨c1, c3, a0⟩ := aI a0
   refine lC (vs := [i64 a3]) (v := cF c1) Tryz.call41 rfl (fun _ a2 => (aBv a2 c3)) (aS (fun _ a2 => aCL rfl rfl) (dD (fun d2 b3 => (aA ?_))))
   rcases aJ a0 with ⟨b0, a0⟩ | ⟨b0, a0⟩
   ·refine aO b0 rfl (aH (aB (aC (aG (v := i64 (-1)) rfl) (aF (aA (bB (aQ (bN (aQ (aQ ?_))))))))))
    have c4 := b1 _ (Option.some.inj a0).symm
    subst c4
    have hm : (some (-1)) = some R := hm
    have c5 := Option.some.inj hm
    subst c5
    exact bN (aQ (aQ (aZ Tryz.results61 rfl ⟨rfl, b3⟩)))
   ·exact aM b0 rfl (aX (aA (aB (aC (aD a7) (aC (cI rfl rfl) (aC (aG (v := i64 (wr (a3 + 1))) rfl) (aF (bG (aA (aB (aC (aD a8) (aC (cI rfl rfl) (aC (aG (v := i64 (wr (a4 + 1))) rfl) (aF (aA ⟨(wr (a3 + 1), wr (a4 + 1)), (Option.some.inj a0).symm, a6, rfl, rfl, b3⟩)))))))))))))))
  ·refine aM a9 rfl (bY (aY (aY ?_)))
   have c6 := b1 _ (Option.some.inj a0).symm
   subst c6
   have hm : (rO a3) = some R := hm
   exact bO (aA ⟨a3, hm, a7, a2⟩)
theorem aEf {a : (List Edge)} {k : Int} {R : Int} (hs : aN G K (L) w) (h3 : bX K a1 c2 a) (hm : wY a k = some R) :
  Calls Tryz.prog 88 ([Value.slice a1 a.length c2, i64 k] : List Value).toArray w (fW fun v w' => v = i64 R ∧ aN G K (L) w') := by
 refine aU Tryz.func88 rfl (by kernel_rfl) (by show (2 : Nat) ≤ 40; decide) ?_
 unfold wY at hm
 refine aH (aB (aC (aG (v := i64 0) rfl) (aF (aA (aH (aH (aB (aC (aG (v := i64 0) rfl) (aF (aA (bC (fun f w => ∃ (k4 : Int), vD k4 = some R ∧ f 1 = i64 k4 ∧ aN G K (L) w) ?_ ?_)))))))))))
 ·rintro f w6 ⟨k4, hm, e5, b7⟩
  unfold vD at hm
  refine aA (aH (aB (aC (aD e5) (aC (aG (v := i64 k4) rfl) (aF (aA ?_))))))
  have b8 := Option.some.inj hm
  subst b8
  exact bB (aZ Tryz.results88 rfl ⟨rfl, b7⟩)
 obtain ⟨d1, b9, hm⟩ := aI hm
 refine cD b9 (fun (s : (Int × Int)) f w => match s with | (a2, a3) => f 0 = Value.slice a1 a.length c2 ∧ f 1 = i64 a2 ∧ f 5 = i64 a3 ∧ aN G K (L) w) ?_ ?_
 ·exact ⟨rfl, rfl, rfl, hs⟩
 ·rintro ⟨a2, a3⟩ c0 f d2 a0 a9 ⟨a6, b1, a7, a4⟩
  replace a0 : nO a a2 a3 = some c0 := a0
  unfold nO at a0
  refine aH (aH (aB (aC (aD a7) (aC (aD a6) (aC (bU (len := a.length) cR rfl) (aC (cE rfl rfl) (aF (aA ?_))))))))
  rcases aJ a0 with ⟨b2, a0⟩ | ⟨b2, a0⟩
  ·refine aO b2 rfl (aX (aA (aH (cK (aH (aH (aB (aC (aD a6) (aC (aD a7) ?_)))))))))
   obtain ⟨d3, b0, a0⟩ := aI a0
   refine aC (cU cR rfl h3 rfl rfl rfl b0) ?_
   obtain ⟨d4, a5, c1⟩ := bX.el (sz := 3) rfl h3 b0
   cases c1
   refine aC (bW (k' := a3.toNat * 3 + 0) iB rfl a5 rfl) (aC (bL (t := 0) cM a4 a5 rfl rfl) (aC (aD b1) (aC (lS rfl rfl) (aF (aA ?_)))))
   rcases aJ a0 with ⟨b3, a0⟩ | ⟨b3, a0⟩
   ·refine aO b3 rfl (aH (aB (aC (aG (v := i64 (-1)) rfl) (aF (aA (bB (aQ (bN (aQ (aQ ?_))))))))))
    have c3 := a9 _ (Option.some.inj a0).symm
    subst c3
    have hm : (some (-1)) = some R := hm
    have c4 := Option.some.inj hm
    subst c4
    exact bN (aQ (aQ (aZ Tryz.results88 rfl ⟨rfl, a4⟩)))
   ·refine aM b3 rfl (aX (aA (aH (aB (aC (aD b1) (aC (cI rfl rfl) (aC (aG (v := i64 (wr (a2 + 1))) rfl) (aF (aA (aH (aH (aB (aC (aD a6) (aC (aD a7) (aC (cU cR rfl h3 rfl rfl rfl b0) (aC (bW (k' := a3.toNat * 3 + 1) fP rfl a5 rfl) (aC (bL (t := 1) cM a4 a5 rfl rfl) (aC (aD (v := i64 (wr (a2 + 1))) rfl) (aC (lS rfl rfl) (aF (aA ?_)))))))))))))))))))))
    rcases aJ a0 with ⟨b4, a0⟩ | ⟨b4, a0⟩
    ·refine aO b4 rfl (aH (aB (aC (aG (v := i64 (-1)) rfl) (aF (aA (bB (aQ (bN (aQ (aQ ?_))))))))))
     have c5 := a9 _ (Option.some.inj a0).symm
     subst c5
     have hm : (some (-1)) = some R := hm
     have c6 := Option.some.inj hm
     subst c6
     exact bN (aQ (aQ (aZ Tryz.results88 rfl ⟨rfl, a4⟩)))
    ·refine aM b4 rfl (aX (aA (aH (aB (aC (aD (v := i64 (wr (a2 + 1))) rfl) (aC (cI rfl rfl) (aC (aG (v := i64 (wr ((wr (a2 + 1)) + 1))) rfl) (aF (aA (aH (aH (aB (aC (aD a6) (aC (aD a7) (aC (cU cR rfl h3 rfl rfl rfl b0) (aC (bW (k' := a3.toNat * 3 + 2) iU rfl a5 rfl) (aC (bL (t := 2) cM a4 a5 rfl rfl) (aC (aD (v := i64 (wr ((wr (a2 + 1)) + 1))) rfl) (aC (lS rfl rfl) (aF (aA ?_)))))))))))))))))))))
     rcases aJ a0 with ⟨b5, a0⟩ | ⟨b5, a0⟩
     ·refine aO b5 rfl (aH (aB (aC (aG (v := i64 (-1)) rfl) (aF (aA (bB (aQ (bN (aQ (aQ ?_))))))))))
      have c7 := a9 _ (Option.some.inj a0).symm
      subst c7
      have hm : (some (-1)) = some R := hm
      have c8 := Option.some.inj hm
      subst c8
      exact bN (aQ (aQ (aZ Tryz.results88 rfl ⟨rfl, a4⟩)))
     ·exact aM b5 rfl (aX (aA (aB (aC (aD (v := i64 (wr ((wr (a2 + 1)) + 1))) rfl) (aC (cI rfl rfl) (aC (aG (v := i64 (wr ((wr ((wr (a2 + 1)) + 1)) + 1))) rfl) (aF (bG (aA (aB (aC (aD a7) (aC (cI rfl rfl) (aC (aG (v := i64 (wr (a3 + 1))) rfl) (aF (aA ⟨(wr ((wr ((wr (a2 + 1)) + 1)) + 1), wr (a3 + 1)), (Option.some.inj a0).symm, a6, rfl, rfl, a4⟩)))))))))))))))
  ·refine aM b2 rfl (bY (aY (aY ?_)))
   have c9 := a9 _ (Option.some.inj a0).symm
   subst c9
   have hm : (vD a2) = some R := hm
   exact bO (aA ⟨a2, hm, b1, a4⟩)
theorem aFp {a : dC} {k : Int} {R : Int} (hs : aN G K (L) w) (h3 : bX K a1 c2 a.Labels) (h6 : bX K a4 c5 a.Edges) (hm : aCq a k = some R) :
  Calls Tryz.prog 43 ([Value.agg #[i64 a.States, i64 a.Initial, Value.slice a1 a.Labels.length c2, Value.slice a4 a.Edges.length c5], i64 k] : List Value).toArray w (fW fun v w' => v = i64 R ∧ aN G K (L) w') := by
 refine aU Tryz.func43 rfl (by kernel_rfl) (by show (2 : Nat) ≤ 18; decide) ?_
 unfold aCq at hm
 refine aH (aB (dU (v := Value.agg #[i64 a.States, i64 a.Initial, Value.slice a1 a.Labels.length c2, Value.slice a4 a.Edges.length c5]) (vs := [i64 a.States, i64 a.Initial, Value.slice a1 a.Labels.length c2, Value.slice a4 a.Edges.length c5]) hs rfl rfl (fun b7 w8 a7 => (aC (aG (v := i64 0) rfl) (aF (aA (aH (aB (aC (bI (t' := 2) gS rfl rfl) (aC (cA nY a7 (i := 0) rfl rfl rfl) (aC (aD (v := i64 k) rfl) ?_)))))))))))
 obtain ⟨a0, a9, hm⟩ := aI hm
 refine aW (vs := [Value.slice a1 a.Labels.length c2, i64 k]) Tryz.call61 rfl (aCY a7 h3 a9) ?_
 rintro _ b6 ⟨rfl, a3⟩
 refine aC (aG (v := i64 a0) rfl) (aF (aA (aH (aH (aB (aC (aD (v := i64 a0) rfl) (aC (cE rfl rfl) (aF (aA ?_)))))))))
 rcases aJ hm with ⟨a5, hm⟩ | ⟨a5, hm⟩
 ·refine aO a5 rfl (aH (aB (aC (aG (v := i64 (-1)) rfl) (aF (aA ?_)))))
  have b0 := Option.some.inj hm
  subst b0
  exact bB (aQ (aZ Tryz.results43 rfl ⟨rfl, (aN.arr 1 [] a3 rfl)⟩))
 ·refine aM a5 rfl (aX (aA (aH (aB (aC (bI (t' := 3) dI rfl rfl) (aC (cA iC a3 (i := 0) rfl rfl rfl) (aC (aD (v := i64 a0) rfl) ?_)))))))
  obtain ⟨a2, b1, hm⟩ := aI hm
  refine aW (vs := [Value.slice a4 a.Edges.length c5, i64 a0]) Tryz.call88 rfl (aEf a3 h6 b1) ?_
  rintro _ w18 ⟨rfl, a8⟩
  refine aC (aG (v := i64 a2) rfl) (aF (aA (aH (aH (aB (aC (aD (v := i64 a2) rfl) (aC (cE rfl rfl) (aF (aA ?_)))))))))
  rcases aJ hm with ⟨a6, hm⟩ | ⟨a6, hm⟩
  ·refine aO a6 rfl (aH (aB (aC (aG (v := i64 (-1)) rfl) (aF (aA ?_)))))
   have b2 := Option.some.inj hm
   subst b2
   exact bB (aQ (aZ Tryz.results43 rfl ⟨rfl, (aN.arr 1 [] a8 rfl)⟩))
  ·refine aM a6 rfl (aX (aA (aH (aB (aC (aD (v := i64 a2) rfl) (aC (aG (v := i64 a2) rfl) (aF (aA ?_))))))))
   have b3 := Option.some.inj hm
   subst b3
   exact bB (aZ Tryz.results43 rfl ⟨rfl, (aN.arr 1 [] a8 rfl)⟩)
theorem aDE {a : (List Int)} {k : Int} {R : Int} (hs : aN G K (L) w) (h3 : bX K a1 c2 a) (hm : vE a k = some R) :
  Calls Tryz.prog 44 ([Value.slice a1 a.length c2, i64 k] : List Value).toArray w (fW fun v w' => v = i64 R ∧ aN G K (L) w') := by
 refine aU Tryz.func44 rfl (by kernel_rfl) (by show (2 : Nat) ≤ 21; decide) ?_
 unfold vE at hm
 refine aH (aB (aC (aG (v := i64 0) rfl) (aF (aA (aH (aH (aB (aC (aG (v := i64 0) rfl) (aF (aA (bC (fun f w => ∃ (k4 : Int), sZ k4 = some R ∧ f 1 = i64 k4 ∧ aN G K (L) w) ?_ ?_)))))))))))
 ·rintro f w6 ⟨k4, hm, e5, b4⟩
  unfold sZ at hm
  refine aA (aH (aB (aC (aD e5) (aC (aG (v := i64 k4) rfl) (aF (aA ?_))))))
  have b5 := Option.some.inj hm
  subst b5
  exact bB (aZ Tryz.results44 rfl ⟨rfl, b4⟩)
 obtain ⟨c5, b6, hm⟩ := aI hm
 refine cD b6 (fun (s : (Int × Int)) f w => match s with | (a2, a3) => f 0 = Value.slice a1 a.length c2 ∧ f 1 = i64 a2 ∧ f 5 = i64 a3 ∧ aN G K (L) w) ?_ ?_
 ·exact ⟨rfl, rfl, rfl, hs⟩
 ·rintro ⟨a2, a3⟩ b7 f c6 a0 b1 ⟨a6, a7, a8, a5⟩
  replace a0 : lQ a a2 a3 = some b7 := a0
  unfold lQ at a0
  refine aH (aH (aB (aC (aD a8) (aC (aD a6) (aC (bU (len := a.length) cT rfl) (aC (cE rfl rfl) (aF (aA ?_))))))))
  rcases aJ a0 with ⟨a9, a0⟩ | ⟨a9, a0⟩
  ·refine aO a9 rfl (aX (aA (aH (cK (aH (aH (aB (aC (aD a6) (aC (aD a8) ?_)))))))))
   obtain ⟨c7, b2, a0⟩ := aI a0
   refine aC (cU cT rfl h3 rfl rfl rfl b2) ?_
   obtain ⟨c8, b8, b9⟩ := bX.el (sz := 1) rfl h3 b2
   cases b9
   refine aC (bL (t := 0) cM a5 b8 rfl rfl) (aC (aD a7) (aC (lS rfl rfl) (aF (aA ?_))))
   rcases aJ a0 with ⟨b0, a0⟩ | ⟨b0, a0⟩
   ·refine aO b0 rfl (aH (aB (aC (aG (v := i64 (-1)) rfl) (aF (aA (bB (aQ (bN (aQ (aQ ?_))))))))))
    have c0 := b1 _ (Option.some.inj a0).symm
    subst c0
    have hm : (some (-1)) = some R := hm
    have c1 := Option.some.inj hm
    subst c1
    exact bN (aQ (aQ (aZ Tryz.results44 rfl ⟨rfl, a5⟩)))
   ·exact aM b0 rfl (aX (aA (aB (aC (aD a7) (aC (cI rfl rfl) (aC (aG (v := i64 (wr (a2 + 1))) rfl) (aF (bG (aA (aB (aC (aD a8) (aC (cI rfl rfl) (aC (aG (v := i64 (wr (a3 + 1))) rfl) (aF (aA ⟨(wr (a2 + 1), wr (a3 + 1)), (Option.some.inj a0).symm, a6, rfl, rfl, a5⟩)))))))))))))))
  ·refine aM a9 rfl (bY (aY (aY ?_)))
   have c3 := b1 _ (Option.some.inj a0).symm
   subst c3
   have hm : (sZ a2) = some R := hm
   exact bO (aA ⟨a2, hm, a7, a5⟩)
theorem zG {a : dS} {k : Int} {R : Int} (hs : aN G K (L) w) (h3 : bX K a1 c2 a.System.Labels) (h6 : bX K a4 c5 a.System.Edges) (h9 : bX K a7 c8 a.Verdicts) (hm : pR a k = some R) :
  Calls Tryz.prog 17 ([Value.agg #[i64 a.System.States, i64 a.System.Initial, Value.slice a1 a.System.Labels.length c2, Value.slice a4 a.System.Edges.length c5, Value.slice a7 a.Verdicts.length c8], i64 k] : List Value).toArray w (fW fun v w' => v = i64 R ∧ aN G K (L) w') := by
 refine aU Tryz.func17 rfl (by kernel_rfl) (by show (2 : Nat) ≤ 18; decide) ?_
 unfold pR at hm
 refine aH (aB (dU (v := Value.agg #[i64 a.System.States, i64 a.System.Initial, Value.slice a1 a.System.Labels.length c2, Value.slice a4 a.System.Edges.length c5, Value.slice a7 a.Verdicts.length c8]) (vs := [i64 a.System.States, i64 a.System.Initial, Value.slice a1 a.System.Labels.length c2, Value.slice a4 a.System.Edges.length c5, Value.slice a7 a.Verdicts.length c8]) hs rfl rfl (fun b5 b6 a8 => (aC (aG (v := i64 0) rfl) (aF (aA (aH (aB (aC (bI (t' := 0) aDn rfl rfl) (aC (dR (us := [i64 a.System.States, i64 a.System.Initial, Value.slice a1 a.System.Labels.length c2, Value.slice a4 a.System.Edges.length c5]) gT a8 (i := 0) rfl rfl rfl rfl) (aC (aD (v := i64 k) rfl) ?_)))))))))))
 obtain ⟨a0, b0, hm⟩ := aI hm
 refine aW (vs := [Value.agg #[i64 a.System.States, i64 a.System.Initial, Value.slice a1 a.System.Labels.length c2, Value.slice a4 a.System.Edges.length c5], i64 k]) Tryz.call43 rfl (aFp a8 h3 h6 b0) ?_
 rintro _ b7 ⟨rfl, a3⟩
 refine aC (aG (v := i64 a0) rfl) (aF (aA (aH (aH (aB (aC (aD (v := i64 a0) rfl) (aC (cE rfl rfl) (aF (aA ?_)))))))))
 rcases aJ hm with ⟨a5, hm⟩ | ⟨a5, hm⟩
 ·refine aO a5 rfl (aH (aB (aC (aG (v := i64 (-1)) rfl) (aF (aA ?_)))))
  have b1 := Option.some.inj hm
  subst b1
  exact bB (aQ (aZ Tryz.results17 rfl ⟨rfl, (aN.arr 1 [] a3 rfl)⟩))
 ·refine aM a5 rfl (aX (aA (aH (aB (aC (bI (t' := 4) zT rfl rfl) (aC (cA aAu a3 (i := 0) rfl rfl rfl) (aC (aD (v := i64 a0) rfl) ?_)))))))
  obtain ⟨a2, b2, hm⟩ := aI hm
  refine aW (vs := [Value.slice a7 a.Verdicts.length c8, i64 a0]) Tryz.call44 rfl (aDE a3 h9 b2) ?_
  rintro _ b8 ⟨rfl, a9⟩
  refine aC (aG (v := i64 a2) rfl) (aF (aA (aH (aH (aB (aC (aD (v := i64 a2) rfl) (aC (cE rfl rfl) (aF (aA ?_)))))))))
  rcases aJ hm with ⟨a6, hm⟩ | ⟨a6, hm⟩
  ·refine aO a6 rfl (aH (aB (aC (aG (v := i64 (-1)) rfl) (aF (aA ?_)))))
   have b3 := Option.some.inj hm
   subst b3
   exact bB (aQ (aZ Tryz.results17 rfl ⟨rfl, (aN.arr 1 [] a9 rfl)⟩))
  ·refine aM a6 rfl (aX (aA (aH (aB (aC (aD (v := i64 a2) rfl) (aC (aG (v := i64 a2) rfl) (aF (aA ?_))))))))
   have b4 := Option.some.inj hm
   subst b4
   exact bB (aZ Tryz.results17 rfl ⟨rfl, (aN.arr 1 [] a9 rfl)⟩)
theorem zH {aP : dC} {aLabels : (List bF)} {R : Bool} (hs : aN G K (L) w) (hG : G.lo = 0) (h3 : bX K a1 c2 aP.Labels) (h6 : bX K a4 c5 aP.Edges) (h9 : bX K a7 c8 aLabels) (hm : lG aP aLabels = some R) :
  Calls Tryz.prog 3 ([Value.agg #[i64 aP.States, i64 aP.Initial, Value.slice a1 aP.Labels.length c2, Value.slice a4 aP.Edges.length c5], Value.slice a7 aLabels.length c8] : List Value).toArray w (fW fun v w' => v = Value.bool R ∧ aN G K (L) w') := by
 refine aU Tryz.func3 rfl (by kernel_rfl) (by show (2 : Nat) ≤ 119; decide) ?_
 unfold lG at hm
 refine aH (aB (dU (v := Value.agg #[i64 aP.States, i64 aP.Initial, Value.slice a1 aP.Labels.length c2, Value.slice a4 aP.Edges.length c5]) (vs := [i64 aP.States, i64 aP.Initial, Value.slice a1 aP.Labels.length c2, Value.slice a4 aP.Edges.length c5]) hs rfl rfl (fun c6 w11 m5 => (aC (aG (v := Value.bool false) rfl) (aF (aA (aH (aB (aC (aG (v := i64 1048576) rfl) (aF (aA (aH (aB (aC (dR (us := [i64 aP.States, i64 aP.Initial, Value.slice a1 aP.Labels.length c2, Value.slice a4 aP.Edges.length c5]) ag_25 m5 (i := 0) rfl rfl rfl rfl) (aC (aD (v := i64 1048576) rfl) ?_)))))))))))))))
 obtain ⟨i1, q7, hm⟩ := aI hm
 refine aW (vs := [Value.agg #[i64 aP.States, i64 aP.Initial, Value.slice a1 aP.Labels.length c2, Value.slice a4 aP.Edges.length c5], i64 1048576]) Tryz.call5 rfl (aGR m5 h3 h6 q7) ?_
 rintro _ w15 ⟨rfl, m6⟩
 refine aC (aG (v := i64 i1) rfl) (aF (aA (aH (aH (aB (aC (aD (v := i64 i1) rfl) (aC (cE rfl rfl) (aF (aA ?_)))))))))
 rcases aJ hm with ⟨j7, hm⟩ | ⟨j7, hm⟩
 ·refine aO j7 rfl (aH (aB (aC (aG (v := Value.bool true) rfl) (aF (aA ?_)))))
  have q8 := Option.some.inj hm
  subst q8
  exact bB (aQ (aZ Tryz.results3 rfl ⟨rfl, (aN.arr 1 [] m6 rfl)⟩))
 ·refine aM j7 rfl (aX (aA (aH (aB (aC (aD (v := Value.slice a7 aLabels.length c8) rfl) (aC (aD (v := i64 i1) rfl) ?_))))))
  obtain ⟨m7, q9, hm⟩ := aI hm
  refine aW (vs := [Value.slice a7 aLabels.length c8, i64 i1]) Tryz.call6 rfl (aAH m6 h9 q9) ?_
  rintro _ w21 ⟨rfl, j8⟩
  refine aC (aG (v := i64 m7) rfl) (aF (aA (aH (aH (aB (aC (aD (v := i64 m7) rfl) (aC (cE rfl rfl) (aF (aA ?_)))))))))
  rcases aJ hm with ⟨j9, hm⟩ | ⟨j9, hm⟩
  ·refine aO j9 rfl (aH (aB (aC (aG (v := Value.bool true) rfl) (aF (aA ?_)))))
   have r0 := Option.some.inj hm
   subst r0
   exact bB (aQ (aZ Tryz.results3 rfl ⟨rfl, (aN.arr 1 [] j8 rfl)⟩))
  ·refine aM j9 rfl (aX (aA (aH (aB (aC (dR (us := [i64 aP.States, i64 aP.Initial, Value.slice a1 aP.Labels.length c2, Value.slice a4 aP.Edges.length c5]) ag_25 j8 (i := 0) rfl rfl rfl rfl) ?_)))))
   obtain ⟨d6, r1, hm⟩ := aI hm
   refine aW (vs := [Value.agg #[i64 aP.States, i64 aP.Initial, Value.slice a1 aP.Labels.length c2, Value.slice a4 aP.Edges.length c5]]) Tryz.call8 rfl (xX j8 h3 h6 r1) ?_
   rintro _ w31 ⟨i2, i3, i4, i5, rfl, r2⟩
   refine aC (aD (v := Value.slice a7 aLabels.length c8) rfl) ?_
   obtain ⟨i6, r3, hm⟩ := aI hm
   refine aW (vs := [Value.slice a7 aLabels.length c8]) Tryz.call9 rfl (nP r2 h9 r3) ?_
   rintro _ w37 ⟨i7, i8, rfl, r4⟩
   obtain ⟨K39, m8, r5, r6, r7⟩ := aN.lendS (i := 1) r4 (Hp.le_refl _) rfl
   obtain ⟨K44, m9, r8, r9, s0⟩ := aN.lendS (i := 1) r6 m8 rfl
   obtain ⟨K49, n0, s1, s2, s3⟩ := aN.lendS (i := 0) r9 (Hp.le_trans m8 m9) rfl
   obtain ⟨a0, s4, hm⟩ := aI hm
   refine aW (vs := [Value.agg #[i64 d6.States, i64 d6.Initial, Value.slice i2 d6.Labels.length i3, Value.slice i4 d6.Edges.length i5], Value.slice i7 i6.length i8]) Tryz.call7 rfl (aCy s2 (r5.mono (Hp.le_trans m9 n0)) (r8.mono n0) s1 s4) ?_
   rintro _ w62 ⟨b3, b4, b5, b6, b7, b8, rfl, s5⟩
   have s6 := s3 _ _ s5
   have s7 := s0 _ _ s6
   have s8 := r7 _ _ s7
   refine aC (aD (v := Value.tuple #[Value.agg #[i64 a0.1.System.States, i64 a0.1.System.Initial, Value.slice b3 a0.1.System.Labels.length b4, Value.slice b5 a0.1.System.Edges.length b6, Value.slice b7 a0.1.Verdicts.length b8], i64 a0.2]) rfl) (aC (cZ rfl rfl) (aC (cZ rfl rfl) (cG (vs := [i64 0, i64 0, Value.slice none 0 0, Value.slice none 0 0, Value.slice none 0 0]) Tryz.zeroValue33 s8 rfl (fun c7 w68 s9 => (cC (i := 0) (ns := [i64 a0.1.System.States, i64 a0.1.System.Initial, Value.slice b3 a0.1.System.Labels.length b4, Value.slice b5 a0.1.System.Edges.length b6, Value.slice b7 a0.1.Verdicts.length b8]) (us := [i64 a0.1.System.States, i64 a0.1.System.Initial, Value.slice b3 a0.1.System.Labels.length b4, Value.slice b5 a0.1.System.Edges.length b6, Value.slice b7 a0.1.Verdicts.length b8]) Tryz.sizeOf33 s9 rfl rfl rfl rfl rfl (dT rfl) rfl rfl (fun t0 (n1 : aN G K (box c7 33 [i64 a0.1.System.States, i64 a0.1.System.Initial, Value.slice b3 a0.1.System.Labels.length b4, Value.slice b5 a0.1.System.Edges.length b6, Value.slice b7 a0.1.Verdicts.length b8] :: aT 9 K i2 i3 d6.Labels :: aT 63 K i4 i5 d6.Edges :: aT 9 K i7 i8 i6 :: aT 9 K b3 b4 a0.1.System.Labels :: aT 63 K b5 b6 a0.1.System.Edges :: aT 2 K b7 b8 a0.1.Verdicts :: box c6 25 [i64 aP.States, i64 aP.Initial, Value.slice a1 aP.Labels.length c2, Value.slice a4 aP.Edges.length c5] :: L) t0) => (aC (aG (v := i64 a0.2) rfl) (aF (aA (aH (aB (aC (dR (us := [i64 aP.States, i64 aP.Initial, Value.slice a1 aP.Labels.length c2, Value.slice a4 aP.Edges.length c5]) ag_25 n1 (i := 7) rfl rfl rfl rfl) ?_))))))))))))
   obtain ⟨a3, t1, hm⟩ := aI hm
   refine aW (vs := [Value.agg #[i64 aP.States, i64 aP.Initial, Value.slice a1 aP.Labels.length c2, Value.slice a4 aP.Edges.length c5]]) Tryz.call8 rfl (xX n1 h3 h6 t1) ?_
   rintro _ w78 ⟨c0, c1, c3, c4, rfl, t2⟩
   refine cG (vs := [i64 0, i64 0, Value.slice none 0 0, Value.slice none 0 0]) Tryz.zeroValue30 t2 rfl (fun d7 w81 t3 => (cC (i := 0) (ns := [i64 a3.States, i64 a3.Initial, Value.slice c0 a3.Labels.length c1, Value.slice c3 a3.Edges.length c4]) (us := [i64 a3.States, i64 a3.Initial, Value.slice c0 a3.Labels.length c1, Value.slice c3 a3.Edges.length c4]) Tryz.sizeOf30 t3 rfl rfl rfl rfl rfl (dT rfl) rfl rfl (fun t4 (t5 : aN G K (box d7 30 [i64 a3.States, i64 a3.Initial, Value.slice c0 a3.Labels.length c1, Value.slice c3 a3.Edges.length c4] :: aT 9 K c0 c1 a3.Labels :: aT 63 K c3 c4 a3.Edges :: box c7 33 [i64 a0.1.System.States, i64 a0.1.System.Initial, Value.slice b3 a0.1.System.Labels.length b4, Value.slice b5 a0.1.System.Edges.length b6, Value.slice b7 a0.1.Verdicts.length b8] :: aT 9 K i2 i3 d6.Labels :: aT 63 K i4 i5 d6.Edges :: aT 9 K i7 i8 i6 :: aT 9 K b3 b4 a0.1.System.Labels :: aT 63 K b5 b6 a0.1.System.Edges :: aT 2 K b7 b8 a0.1.Verdicts :: box c6 25 [i64 aP.States, i64 aP.Initial, Value.slice a1 aP.Labels.length c2, Value.slice a4 aP.Edges.length c5] :: L) t4) => (aF (aA (aH (aB (aC (aD (v := Value.slice a7 aLabels.length c8) rfl) ?_))))))))
   obtain ⟨d2, t6, hm⟩ := aI hm
   refine aW (vs := [Value.slice a7 aLabels.length c8]) Tryz.call9 rfl (nP t5 h9 t6) ?_
   rintro _ w89 ⟨d3, d4, rfl, n2⟩
   refine aC (aG (v := Value.slice d3 d2.length d4) rfl) (aF (aA (aH (aB (aC (dR (us := [i64 a3.States, i64 a3.Initial, Value.slice c0 a3.Labels.length c1, Value.slice c3 a3.Edges.length c4]) gT n2 (i := 1) rfl rfl rfl rfl) (aC (aD (v := Value.slice d3 d2.length d4) rfl) ?_))))))
   obtain ⟨K91, n3, t7, t8, t9⟩ := aN.lendS (i := 2) n2 (Hp.le_refl _) rfl
   obtain ⟨K96, n4, u0, u1, u2⟩ := aN.lendS (i := 2) t8 n3 rfl
   obtain ⟨b67, n5, u3, u4, u5⟩ := aN.lendS (i := 0) u1 (Hp.le_trans n3 n4) rfl
   obtain ⟨a2, u6, hm⟩ := aI hm
   refine aW (vs := [Value.agg #[i64 a3.States, i64 a3.Initial, Value.slice c0 a3.Labels.length c1, Value.slice c3 a3.Edges.length c4], Value.slice d3 d2.length d4]) Tryz.call10 rfl (xG u4 hG (t7.mono (Hp.le_trans n4 n5)) (u0.mono n5) u3 u6) ?_
   rintro _ b68 ⟨a6, a8, a9, b0, b1, b2, rfl, u7⟩
   have u8 := u5 _ _ u7
   have u9 := u2 _ _ u8
   have v0 := t9 _ _ u9
   refine aC (aD (v := Value.tuple #[Value.agg #[i64 a2.1.System.States, i64 a2.1.System.Initial, Value.slice a6 a2.1.System.Labels.length a8, Value.slice a9 a2.1.System.Edges.length b0, Value.slice b1 a2.1.Verdicts.length b2], i64 a2.2]) rfl) (aC (cZ rfl rfl) (aC (cZ rfl rfl) (cG (vs := [i64 0, i64 0, Value.slice none 0 0, Value.slice none 0 0, Value.slice none 0 0]) Tryz.zeroValue33 v0 rfl (fun c9 b69 v1 => (cC (i := 0) (ns := [i64 a2.1.System.States, i64 a2.1.System.Initial, Value.slice a6 a2.1.System.Labels.length a8, Value.slice a9 a2.1.System.Edges.length b0, Value.slice b1 a2.1.Verdicts.length b2]) (us := [i64 a2.1.System.States, i64 a2.1.System.Initial, Value.slice a6 a2.1.System.Labels.length a8, Value.slice a9 a2.1.System.Edges.length b0, Value.slice b1 a2.1.Verdicts.length b2]) Tryz.sizeOf33 v1 rfl rfl rfl rfl rfl (dT rfl) rfl rfl (fun v2 (k0 : aN G K (box c9 33 [i64 a2.1.System.States, i64 a2.1.System.Initial, Value.slice a6 a2.1.System.Labels.length a8, Value.slice a9 a2.1.System.Edges.length b0, Value.slice b1 a2.1.Verdicts.length b2] :: aT 9 K c0 c1 a3.Labels :: aT 63 K c3 c4 a3.Edges :: aT 9 K d3 d4 d2 :: aT 9 K a6 a8 a2.1.System.Labels :: aT 63 K a9 b0 a2.1.System.Edges :: aT 2 K b1 b2 a2.1.Verdicts :: box d7 30 [i64 a3.States, i64 a3.Initial, Value.slice c0 a3.Labels.length c1, Value.slice c3 a3.Edges.length c4] :: box c7 33 [i64 a0.1.System.States, i64 a0.1.System.Initial, Value.slice b3 a0.1.System.Labels.length b4, Value.slice b5 a0.1.System.Edges.length b6, Value.slice b7 a0.1.Verdicts.length b8] :: aT 9 K i2 i3 d6.Labels :: aT 63 K i4 i5 d6.Edges :: aT 9 K i7 i8 i6 :: aT 9 K b3 b4 a0.1.System.Labels :: aT 63 K b5 b6 a0.1.System.Edges :: aT 2 K b7 b8 a0.1.Verdicts :: box c6 25 [i64 aP.States, i64 aP.Initial, Value.slice a1 aP.Labels.length c2, Value.slice a4 aP.Edges.length c5] :: L) v2) => (aC (aG (v := i64 a2.2) rfl) (aF (aA (aH (aH (cH (fun f w => ∃ (k1 : Bool), iA aP aLabels a0 a3 d2 a2 k1 = some R ∧ f 1 = Value.slice a7 aLabels.length c8 ∧ f 2 = Value.pointer (some ⟨c6, 0, none⟩) ∧ f 6 = Value.pointer (some ⟨c7, 0, none⟩) ∧ f 7 = i64 a0.2 ∧ f 8 = Value.pointer (some ⟨d7, 0, none⟩) ∧ f 9 = Value.slice d3 d2.length d4 ∧ f 10 = Value.pointer (some ⟨c9, 0, none⟩) ∧ f 11 = i64 a2.2 ∧ f 53 = Value.bool k1 ∧ aN G K (box c9 33 [i64 a2.1.System.States, i64 a2.1.System.Initial, Value.slice a6 a2.1.System.Labels.length a8, Value.slice a9 a2.1.System.Edges.length b0, Value.slice b1 a2.1.Verdicts.length b2] :: aT 9 K c0 c1 a3.Labels :: aT 63 K c3 c4 a3.Edges :: aT 9 K d3 d4 d2 :: aT 9 K a6 a8 a2.1.System.Labels :: aT 63 K a9 b0 a2.1.System.Edges :: aT 2 K b1 b2 a2.1.Verdicts :: box d7 30 [i64 a3.States, i64 a3.Initial, Value.slice c0 a3.Labels.length c1, Value.slice c3 a3.Edges.length c4] :: box c7 33 [i64 a0.1.System.States, i64 a0.1.System.Initial, Value.slice b3 a0.1.System.Labels.length b4, Value.slice b5 a0.1.System.Edges.length b6, Value.slice b7 a0.1.Verdicts.length b8] :: aT 9 K b3 b4 a0.1.System.Labels :: aT 63 K b5 b6 a0.1.System.Edges :: aT 2 K b7 b8 a0.1.Verdicts :: box c6 25 [i64 aP.States, i64 aP.Initial, Value.slice a1 aP.Labels.length c2, Value.slice a4 aP.Edges.length c5] :: L) w) ?_ ?_))))))))))))
   ·rintro f b70 ⟨k1, hm, i9, j0, j1, j2, n6, n7, j3, v3, n8, n9⟩
    unfold iA at hm
    refine aA ?_
    rcases aJ hm with ⟨k2, hm⟩ | ⟨k2, hm⟩
    ·refine aO k2 n8 (aH (aB (aC (aG (v := Value.bool false) rfl) (aF (aA ?_)))))
     have v4 := Option.some.inj hm
     subst v4
     exact bB (aQ (aZ Tryz.results3 rfl ⟨rfl, (aN.arr 13 [] n9 rfl)⟩))
    ·refine aM k2 n8 (aX (aA (aH (aH ?_))))
     obtain ⟨b71, f5, v5, v6, v7⟩ := aN.lendB (i := 7) n9 rfl
     obtain ⟨v8, e1, v9, o0, w0⟩ := aN.lendB (i := 11) v6 rfl
     refine gV (C := fun w' => ∃ L', aN G v8 L' w') [(0, 0), (1, 0), (2, 1), (3, 1), (4, 0)] bR (by kernel_rfl) (fun _ hg => ⟨_, aN.mono o0 hg⟩) (fun b72 w1 => ?_)
     have f8 := aN.mono o0 w1
     refine cL rfl (fun _ ⟨_, f8⟩ => fO (t := 0) (vs := [i64 a3.States, i64 a3.Initial, Value.slice c0 a3.Labels.length c1, Value.slice c3 a3.Edges.length c4]) gT f8 (v5.mono e1) n6 rfl rfl) (cL rfl (fun _ ⟨_, f8⟩ => fO (t := 0) (vs := [i64 aP.States, i64 aP.Initial, Value.slice a1 aP.Labels.length c2, Value.slice a4 aP.Edges.length c5]) ag_25 f8 v9 j0 rfl rfl) (oB rfl ?_))
     obtain ⟨d1, w2, hm⟩ := aI hm
     refine aW (vs := [Value.agg #[i64 aP.States, i64 aP.Initial, Value.slice a1 aP.Labels.length c2, Value.slice a4 aP.Edges.length c5]]) Tryz.call8 rfl (xX f8 (h3.mono (Hp.le_trans f5 e1)) (h6.mono (Hp.le_trans f5 e1)) w2) ?_
     rintro _ b73 ⟨e2, e3, e4, e5, rfl, o1⟩
     refine aF (aA ⟨⟨_, o1⟩, ?_⟩)
     refine oB rfl ?_
     obtain ⟨b74, k3, w3, w4, w5⟩ := aN.lendS (i := 3) o1 (Hp.le_trans f5 e1) rfl
     obtain ⟨b75, k4, w6, w7, w8⟩ := aN.lendS (i := 3) w4 (Hp.le_trans (Hp.le_trans f5 e1) k3) rfl
     obtain ⟨b76, k5, w9, x0, x1⟩ := aN.lendS (i := 0) w7 (Hp.le_trans (Hp.le_trans (Hp.le_trans f5 e1) k3) k4) rfl
     obtain ⟨b77, k6, x2, x3, x4⟩ := aN.lendS (i := 0) x0 (Hp.le_trans (Hp.le_trans (Hp.le_trans (Hp.le_trans f5 e1) k3) k4) k5) rfl
     obtain ⟨b78, x5, hm⟩ := aI hm
     refine aW (vs := [Value.agg #[i64 a3.States, i64 a3.Initial, Value.slice c0 a3.Labels.length c1, Value.slice c3 a3.Edges.length c4], Value.agg #[i64 d1.States, i64 d1.Initial, Value.slice e2 d1.Labels.length e3, Value.slice e4 d1.Edges.length e5]]) Tryz.call12 rfl (aDC x3 (w3.mono (Hp.le_trans (Hp.le_trans k4 k5) k6)) (w6.mono (Hp.le_trans k5 k6)) (w9.mono k6) x2 x5) ?_
     rintro _ b79 ⟨rfl, x6⟩
     have x7 := x4 _ _ x6
     have x8 := x1 _ _ x7
     have x9 := w8 _ _ x8
     have o2 := w5 _ _ x9
     refine aF (aA ⟨⟨_, o2⟩, ?_⟩)
     refine cL rfl (fun _ _ => dN rfl) (pS ?_)
     have y0 := w0 _ _ o2
     have o3 := v7 _ _ y0
     refine aA ?_
     rcases aJ hm with ⟨k7, hm⟩ | ⟨k7, hm⟩
     ·refine aO k7 rfl (aH (aB (aC (aG (v := Value.bool false) rfl) (aF (aA ?_)))))
      have y1 := Option.some.inj hm
      subst y1
      exact bB (aQ (aZ Tryz.results3 rfl ⟨rfl, (aN.arr 15 [] o3 rfl)⟩))
     ·refine aM k7 rfl (aX (aA (aH (aH (aB (aC (aD n7) (aC (aD i9) ?_)))))))
      obtain ⟨e6, y2, hm⟩ := aI hm
      refine aW (vs := [Value.slice a7 aLabels.length c8]) Tryz.call9 rfl (nP o3 h9 y2) ?_
      rintro _ b80 ⟨e7, e8, rfl, y3⟩
      obtain ⟨b81, y4, y5, y6, y7⟩ := aN.lendS (i := 8) y3 (Hp.le_refl _) rfl
      obtain ⟨b82, y8, y9, z0, z1⟩ := aN.lendS (i := 0) y6 y4 rfl
      obtain ⟨b83, z2, hm⟩ := aI hm
      refine aW (vs := [Value.slice d3 d2.length d4, Value.slice e7 e6.length e8]) Tryz.call13 rfl (aAM z0 (y5.mono y8) y9 z2) ?_
      rintro _ z3 ⟨rfl, z4⟩
      have z5 := z1 _ _ z4
      have k8 := y7 _ _ z5
      refine aC (dN rfl) (aF (aA ?_))
      rcases aJ hm with ⟨k9, hm⟩ | ⟨k9, hm⟩
      ·refine aO k9 rfl (aH (aB (aC (aG (v := Value.bool false) rfl) (aF (aA ?_)))))
       have z6 := Option.some.inj hm
       subst z6
       exact bB (aQ (aZ Tryz.results3 rfl ⟨rfl, (aN.arr 16 [] k8 rfl)⟩))
      ·refine aM k9 rfl (aX (aA (aH (aB (aC (aG (v := i64 1) rfl) (aF (aA (aH (aB (aC (dR (us := [i64 a3.States, i64 a3.Initial, Value.slice c0 a3.Labels.length c1, Value.slice c3 a3.Edges.length c4]) gT k8 (i := 2) rfl n6 rfl rfl) (aC (aD (v := i64 1) rfl) ?_)))))))))))
       have z7 : aN G K (aT 9 K c0 c1 a3.Labels :: aT 63 K c3 c4 a3.Edges :: aT 9 K d3 d4 d2 :: aT 9 K e7 e8 e6 :: box d7 30 [i64 a3.States, i64 a3.Initial, Value.slice c0 a3.Labels.length c1, Value.slice c3 a3.Edges.length c4] :: box c6 25 [i64 aP.States, i64 aP.Initial, Value.slice a1 aP.Labels.length c2, Value.slice a4 aP.Edges.length c5] :: aT 9 K e2 e3 d1.Labels :: aT 63 K e4 e5 d1.Edges :: box c9 33 [i64 a2.1.System.States, i64 a2.1.System.Initial, Value.slice a6 a2.1.System.Labels.length a8, Value.slice a9 a2.1.System.Edges.length b0, Value.slice b1 a2.1.Verdicts.length b2] :: aT 9 K a6 a8 a2.1.System.Labels :: aT 63 K a9 b0 a2.1.System.Edges :: aT 2 K b1 b2 a2.1.Verdicts :: box c7 33 [i64 a0.1.System.States, i64 a0.1.System.Initial, Value.slice b3 a0.1.System.Labels.length b4, Value.slice b5 a0.1.System.Edges.length b6, Value.slice b7 a0.1.Verdicts.length b8] :: aT 9 K b3 b4 a0.1.System.Labels :: aT 63 K b5 b6 a0.1.System.Edges :: aT 2 K b7 b8 a0.1.Verdicts :: L) z3 := (aN.arr 6 [4, 5, 0, 1, 2, 3] k8 rfl)
       obtain ⟨d0, z8, hm⟩ := aI hm
       refine aW (vs := [Value.agg #[i64 a3.States, i64 a3.Initial, Value.slice c0 a3.Labels.length c1, Value.slice c3 a3.Edges.length c4], i64 1]) Tryz.call14 rfl (aCd z7 z8) ?_
       rintro _ f9 ⟨rfl, z9, a00, a01⟩
       have a02 : aN G K (aT 9 K c0 c1 d0.2.1 :: aT 63 K c3 c4 d0.2.2 :: aT 9 K d3 d4 d2 :: aT 9 K e7 e8 e6 :: box d7 30 [i64 a3.States, i64 a3.Initial, Value.slice c0 d0.2.1.length c1, Value.slice c3 a3.Edges.length c4] :: box c6 25 [i64 aP.States, i64 aP.Initial, Value.slice a1 aP.Labels.length c2, Value.slice a4 aP.Edges.length c5] :: aT 9 K e2 e3 d1.Labels :: aT 63 K e4 e5 d1.Edges :: box c9 33 [i64 a2.1.System.States, i64 a2.1.System.Initial, Value.slice a6 a2.1.System.Labels.length a8, Value.slice a9 a2.1.System.Edges.length b0, Value.slice b1 a2.1.Verdicts.length b2] :: aT 9 K a6 a8 a2.1.System.Labels :: aT 63 K a9 b0 a2.1.System.Edges :: aT 2 K b1 b2 a2.1.Verdicts :: box c7 33 [i64 a0.1.System.States, i64 a0.1.System.Initial, Value.slice b3 a0.1.System.Labels.length b4, Value.slice b5 a0.1.System.Edges.length b6, Value.slice b7 a0.1.Verdicts.length b8] :: aT 9 K b3 b4 a0.1.System.Labels :: aT 63 K b5 b6 a0.1.System.Edges :: aT 2 K b7 b8 a0.1.Verdicts :: L) f9 := Eq.mp (congrArg (fun n => aN G K (aT 9 K c0 c1 d0.2.1 :: aT 63 K c3 c4 d0.2.2 :: aT 9 K d3 d4 d2 :: aT 9 K e7 e8 e6 :: box d7 30 [i64 a3.States, i64 a3.Initial, Value.slice c0 n c1, Value.slice c3 a3.Edges.length c4] :: box c6 25 [i64 aP.States, i64 aP.Initial, Value.slice a1 aP.Labels.length c2, Value.slice a4 aP.Edges.length c5] :: aT 9 K e2 e3 d1.Labels :: aT 63 K e4 e5 d1.Edges :: box c9 33 [i64 a2.1.System.States, i64 a2.1.System.Initial, Value.slice a6 a2.1.System.Labels.length a8, Value.slice a9 a2.1.System.Edges.length b0, Value.slice b1 a2.1.Verdicts.length b2] :: aT 9 K a6 a8 a2.1.System.Labels :: aT 63 K a9 b0 a2.1.System.Edges :: aT 2 K b1 b2 a2.1.Verdicts :: box c7 33 [i64 a0.1.System.States, i64 a0.1.System.Initial, Value.slice b3 a0.1.System.Labels.length b4, Value.slice b5 a0.1.System.Edges.length b6, Value.slice b7 a0.1.Verdicts.length b8] :: aT 9 K b3 b4 a0.1.System.Labels :: aT 63 K b5 b6 a0.1.System.Edges :: aT 2 K b7 b8 a0.1.Verdicts :: L) f9) z9) a01
       have a03 : aN G K (aT 9 K c0 c1 d0.2.1 :: aT 63 K c3 c4 d0.2.2 :: aT 9 K d3 d4 d2 :: aT 9 K e7 e8 e6 :: box d7 30 [i64 a3.States, i64 a3.Initial, Value.slice c0 d0.2.1.length c1, Value.slice c3 d0.2.2.length c4] :: box c6 25 [i64 aP.States, i64 aP.Initial, Value.slice a1 aP.Labels.length c2, Value.slice a4 aP.Edges.length c5] :: aT 9 K e2 e3 d1.Labels :: aT 63 K e4 e5 d1.Edges :: box c9 33 [i64 a2.1.System.States, i64 a2.1.System.Initial, Value.slice a6 a2.1.System.Labels.length a8, Value.slice a9 a2.1.System.Edges.length b0, Value.slice b1 a2.1.Verdicts.length b2] :: aT 9 K a6 a8 a2.1.System.Labels :: aT 63 K a9 b0 a2.1.System.Edges :: aT 2 K b1 b2 a2.1.Verdicts :: box c7 33 [i64 a0.1.System.States, i64 a0.1.System.Initial, Value.slice b3 a0.1.System.Labels.length b4, Value.slice b5 a0.1.System.Edges.length b6, Value.slice b7 a0.1.Verdicts.length b8] :: aT 9 K b3 b4 a0.1.System.Labels :: aT 63 K b5 b6 a0.1.System.Edges :: aT 2 K b7 b8 a0.1.Verdicts :: L) f9 := Eq.mp (congrArg (fun n => aN G K (aT 9 K c0 c1 d0.2.1 :: aT 63 K c3 c4 d0.2.2 :: aT 9 K d3 d4 d2 :: aT 9 K e7 e8 e6 :: box d7 30 [i64 a3.States, i64 a3.Initial, Value.slice c0 d0.2.1.length c1, Value.slice c3 n c4] :: box c6 25 [i64 aP.States, i64 aP.Initial, Value.slice a1 aP.Labels.length c2, Value.slice a4 aP.Edges.length c5] :: aT 9 K e2 e3 d1.Labels :: aT 63 K e4 e5 d1.Edges :: box c9 33 [i64 a2.1.System.States, i64 a2.1.System.Initial, Value.slice a6 a2.1.System.Labels.length a8, Value.slice a9 a2.1.System.Edges.length b0, Value.slice b1 a2.1.Verdicts.length b2] :: aT 9 K a6 a8 a2.1.System.Labels :: aT 63 K a9 b0 a2.1.System.Edges :: aT 2 K b1 b2 a2.1.Verdicts :: box c7 33 [i64 a0.1.System.States, i64 a0.1.System.Initial, Value.slice b3 a0.1.System.Labels.length b4, Value.slice b5 a0.1.System.Edges.length b6, Value.slice b7 a0.1.Verdicts.length b8] :: aT 9 K b3 b4 a0.1.System.Labels :: aT 63 K b5 b6 a0.1.System.Edges :: aT 2 K b7 b8 a0.1.Verdicts :: L) f9) a00) a02
       refine aC (aG (v := i64 d0.1) rfl) (aF (aA (aH (aB (aC (aD n7) (aC (aD (v := i64 d0.1) rfl) ?_))))))
       have a04 : aN G K (aT 9 K d3 d4 d2 :: aT 9 K c0 c1 d0.2.1 :: aT 63 K c3 c4 d0.2.2 :: aT 9 K e7 e8 e6 :: box d7 30 [i64 a3.States, i64 a3.Initial, Value.slice c0 d0.2.1.length c1, Value.slice c3 d0.2.2.length c4] :: box c6 25 [i64 aP.States, i64 aP.Initial, Value.slice a1 aP.Labels.length c2, Value.slice a4 aP.Edges.length c5] :: aT 9 K e2 e3 d1.Labels :: aT 63 K e4 e5 d1.Edges :: box c9 33 [i64 a2.1.System.States, i64 a2.1.System.Initial, Value.slice a6 a2.1.System.Labels.length a8, Value.slice a9 a2.1.System.Edges.length b0, Value.slice b1 a2.1.Verdicts.length b2] :: aT 9 K a6 a8 a2.1.System.Labels :: aT 63 K a9 b0 a2.1.System.Edges :: aT 2 K b1 b2 a2.1.Verdicts :: box c7 33 [i64 a0.1.System.States, i64 a0.1.System.Initial, Value.slice b3 a0.1.System.Labels.length b4, Value.slice b5 a0.1.System.Edges.length b6, Value.slice b7 a0.1.Verdicts.length b8] :: aT 9 K b3 b4 a0.1.System.Labels :: aT 63 K b5 b6 a0.1.System.Edges :: aT 2 K b7 b8 a0.1.Verdicts :: L) f9 := (aN.arr 3 [2, 0, 1] a03 rfl)
       obtain ⟨l0, a05, hm⟩ := aI hm
       refine aW (vs := [Value.slice d3 d2.length d4, i64 d0.1]) Tryz.call15 rfl (zF a04 a05) ?_
       rintro _ b84 ⟨rfl, b85, j4⟩
       refine aC (aG (v := i64 l0.1) rfl) (aF (aA (aH (aH (cH (fun f w => ∃ (l1 : Bool), fV aP aLabels a0 a2 l1 = some R ∧ f 1 = Value.slice a7 aLabels.length c8 ∧ f 2 = Value.pointer (some ⟨c6, 0, none⟩) ∧ f 6 = Value.pointer (some ⟨c7, 0, none⟩) ∧ f 7 = i64 a0.2 ∧ f 10 = Value.pointer (some ⟨c9, 0, none⟩) ∧ f 82 = Value.bool l1 ∧ aN G K (box c6 25 [i64 aP.States, i64 aP.Initial, Value.slice a1 aP.Labels.length c2, Value.slice a4 aP.Edges.length c5] :: box c9 33 [i64 a2.1.System.States, i64 a2.1.System.Initial, Value.slice a6 a2.1.System.Labels.length a8, Value.slice a9 a2.1.System.Edges.length b0, Value.slice b1 a2.1.Verdicts.length b2] :: aT 9 K a6 a8 a2.1.System.Labels :: aT 63 K a9 b0 a2.1.System.Edges :: aT 2 K b1 b2 a2.1.Verdicts :: box c7 33 [i64 a0.1.System.States, i64 a0.1.System.Initial, Value.slice b3 a0.1.System.Labels.length b4, Value.slice b5 a0.1.System.Edges.length b6, Value.slice b7 a0.1.Verdicts.length b8] :: aT 9 K b3 b4 a0.1.System.Labels :: aT 63 K b5 b6 a0.1.System.Edges :: aT 2 K b7 b8 a0.1.Verdicts :: L) w) ?_ ?_)))))
       ·rintro f a06 ⟨l1, hm, a07, a08, a09, a10, j5, o4, l2⟩
        unfold fV at hm
        refine aA ?_
        rcases aJ hm with ⟨l3, hm⟩ | ⟨l3, hm⟩
        ·refine aO l3 o4 (aH (aB (aC (aG (v := Value.bool false) rfl) (aF (aA ?_)))))
         have a11 := Option.some.inj hm
         subst a11
         exact bB (aQ (aZ Tryz.results3 rfl ⟨rfl, (aN.arr 9 [] l2 rfl)⟩))
        ·refine aM l3 o4 (aX (aA (aH (aB (aC (aG (v := i64 1) rfl) (aF (aA (aH (aB (aC (dR (us := [i64 a2.1.System.States, i64 a2.1.System.Initial, Value.slice a6 a2.1.System.Labels.length a8, Value.slice a9 a2.1.System.Edges.length b0, Value.slice b1 a2.1.Verdicts.length b2]) lI l2 (i := 1) rfl j5 rfl rfl) (aC (aD (v := i64 1) rfl) ?_)))))))))))
         have a12 : aN G K (aT 9 K a6 a8 a2.1.System.Labels :: aT 63 K a9 b0 a2.1.System.Edges :: aT 2 K b1 b2 a2.1.Verdicts :: box c6 25 [i64 aP.States, i64 aP.Initial, Value.slice a1 aP.Labels.length c2, Value.slice a4 aP.Edges.length c5] :: box c9 33 [i64 a2.1.System.States, i64 a2.1.System.Initial, Value.slice a6 a2.1.System.Labels.length a8, Value.slice a9 a2.1.System.Edges.length b0, Value.slice b1 a2.1.Verdicts.length b2] :: box c7 33 [i64 a0.1.System.States, i64 a0.1.System.Initial, Value.slice b3 a0.1.System.Labels.length b4, Value.slice b5 a0.1.System.Edges.length b6, Value.slice b7 a0.1.Verdicts.length b8] :: aT 9 K b3 b4 a0.1.System.Labels :: aT 63 K b5 b6 a0.1.System.Edges :: aT 2 K b7 b8 a0.1.Verdicts :: L) a06 := (aN.arr 5 [2, 3, 4, 0, 1] l2 rfl)
         obtain ⟨a5, a13, hm⟩ := aI hm
         refine aW (vs := [Value.agg #[i64 a2.1.System.States, i64 a2.1.System.Initial, Value.slice a6 a2.1.System.Labels.length a8, Value.slice a9 a2.1.System.Edges.length b0, Value.slice b1 a2.1.Verdicts.length b2], i64 1]) Tryz.call16 rfl (aCX a12 a13) ?_
         rintro _ f6 ⟨rfl, a14, a15, a16, a17⟩
         have a18 : aN G K (aT 9 K a6 a8 a5.2.1 :: aT 63 K a9 b0 a5.2.2.1 :: aT 2 K b1 b2 a5.2.2.2 :: box c6 25 [i64 aP.States, i64 aP.Initial, Value.slice a1 aP.Labels.length c2, Value.slice a4 aP.Edges.length c5] :: box c9 33 [i64 a2.1.System.States, i64 a2.1.System.Initial, Value.slice a6 a5.2.1.length a8, Value.slice a9 a2.1.System.Edges.length b0, Value.slice b1 a2.1.Verdicts.length b2] :: box c7 33 [i64 a0.1.System.States, i64 a0.1.System.Initial, Value.slice b3 a0.1.System.Labels.length b4, Value.slice b5 a0.1.System.Edges.length b6, Value.slice b7 a0.1.Verdicts.length b8] :: aT 9 K b3 b4 a0.1.System.Labels :: aT 63 K b5 b6 a0.1.System.Edges :: aT 2 K b7 b8 a0.1.Verdicts :: L) f6 := Eq.mp (congrArg (fun n => aN G K (aT 9 K a6 a8 a5.2.1 :: aT 63 K a9 b0 a5.2.2.1 :: aT 2 K b1 b2 a5.2.2.2 :: box c6 25 [i64 aP.States, i64 aP.Initial, Value.slice a1 aP.Labels.length c2, Value.slice a4 aP.Edges.length c5] :: box c9 33 [i64 a2.1.System.States, i64 a2.1.System.Initial, Value.slice a6 n a8, Value.slice a9 a2.1.System.Edges.length b0, Value.slice b1 a2.1.Verdicts.length b2] :: box c7 33 [i64 a0.1.System.States, i64 a0.1.System.Initial, Value.slice b3 a0.1.System.Labels.length b4, Value.slice b5 a0.1.System.Edges.length b6, Value.slice b7 a0.1.Verdicts.length b8] :: aT 9 K b3 b4 a0.1.System.Labels :: aT 63 K b5 b6 a0.1.System.Edges :: aT 2 K b7 b8 a0.1.Verdicts :: L) f6) a14) a17
         have a19 : aN G K (aT 9 K a6 a8 a5.2.1 :: aT 63 K a9 b0 a5.2.2.1 :: aT 2 K b1 b2 a5.2.2.2 :: box c6 25 [i64 aP.States, i64 aP.Initial, Value.slice a1 aP.Labels.length c2, Value.slice a4 aP.Edges.length c5] :: box c9 33 [i64 a2.1.System.States, i64 a2.1.System.Initial, Value.slice a6 a5.2.1.length a8, Value.slice a9 a5.2.2.1.length b0, Value.slice b1 a2.1.Verdicts.length b2] :: box c7 33 [i64 a0.1.System.States, i64 a0.1.System.Initial, Value.slice b3 a0.1.System.Labels.length b4, Value.slice b5 a0.1.System.Edges.length b6, Value.slice b7 a0.1.Verdicts.length b8] :: aT 9 K b3 b4 a0.1.System.Labels :: aT 63 K b5 b6 a0.1.System.Edges :: aT 2 K b7 b8 a0.1.Verdicts :: L) f6 := Eq.mp (congrArg (fun n => aN G K (aT 9 K a6 a8 a5.2.1 :: aT 63 K a9 b0 a5.2.2.1 :: aT 2 K b1 b2 a5.2.2.2 :: box c6 25 [i64 aP.States, i64 aP.Initial, Value.slice a1 aP.Labels.length c2, Value.slice a4 aP.Edges.length c5] :: box c9 33 [i64 a2.1.System.States, i64 a2.1.System.Initial, Value.slice a6 a5.2.1.length a8, Value.slice a9 n b0, Value.slice b1 a2.1.Verdicts.length b2] :: box c7 33 [i64 a0.1.System.States, i64 a0.1.System.Initial, Value.slice b3 a0.1.System.Labels.length b4, Value.slice b5 a0.1.System.Edges.length b6, Value.slice b7 a0.1.Verdicts.length b8] :: aT 9 K b3 b4 a0.1.System.Labels :: aT 63 K b5 b6 a0.1.System.Edges :: aT 2 K b7 b8 a0.1.Verdicts :: L) f6) a15) a18
         have o5 : aN G K (aT 9 K a6 a8 a5.2.1 :: aT 63 K a9 b0 a5.2.2.1 :: aT 2 K b1 b2 a5.2.2.2 :: box c6 25 [i64 aP.States, i64 aP.Initial, Value.slice a1 aP.Labels.length c2, Value.slice a4 aP.Edges.length c5] :: box c9 33 [i64 a2.1.System.States, i64 a2.1.System.Initial, Value.slice a6 a5.2.1.length a8, Value.slice a9 a5.2.2.1.length b0, Value.slice b1 a5.2.2.2.length b2] :: box c7 33 [i64 a0.1.System.States, i64 a0.1.System.Initial, Value.slice b3 a0.1.System.Labels.length b4, Value.slice b5 a0.1.System.Edges.length b6, Value.slice b7 a0.1.Verdicts.length b8] :: aT 9 K b3 b4 a0.1.System.Labels :: aT 63 K b5 b6 a0.1.System.Edges :: aT 2 K b7 b8 a0.1.Verdicts :: L) f6 := Eq.mp (congrArg (fun n => aN G K (aT 9 K a6 a8 a5.2.1 :: aT 63 K a9 b0 a5.2.2.1 :: aT 2 K b1 b2 a5.2.2.2 :: box c6 25 [i64 aP.States, i64 aP.Initial, Value.slice a1 aP.Labels.length c2, Value.slice a4 aP.Edges.length c5] :: box c9 33 [i64 a2.1.System.States, i64 a2.1.System.Initial, Value.slice a6 a5.2.1.length a8, Value.slice a9 a5.2.2.1.length b0, Value.slice b1 n b2] :: box c7 33 [i64 a0.1.System.States, i64 a0.1.System.Initial, Value.slice b3 a0.1.System.Labels.length b4, Value.slice b5 a0.1.System.Edges.length b6, Value.slice b7 a0.1.Verdicts.length b8] :: aT 9 K b3 b4 a0.1.System.Labels :: aT 63 K b5 b6 a0.1.System.Edges :: aT 2 K b7 b8 a0.1.Verdicts :: L) f6) a16) a19
         refine aC (aG (v := i64 a5.1) rfl) (aF (aA (aH (aB (aC (aG (v := i64 1) rfl) (aF (aA (aH (aB (aC (dR (us := [i64 a2.1.System.States, i64 a2.1.System.Initial, Value.slice a6 a5.2.1.length a8, Value.slice a9 a5.2.2.1.length b0, Value.slice b1 a5.2.2.2.length b2]) lI o5 (i := 4) rfl j5 rfl rfl) (aC (aD (v := i64 1) rfl) ?_)))))))))))
         obtain ⟨b86, o6, a20, a21, a22⟩ := aN.lendS (i := 0) o5 (Hp.le_refl _) rfl
         obtain ⟨b87, o7, a23, a24, a25⟩ := aN.lendS (i := 0) a21 o6 rfl
         obtain ⟨b88, o8, a26, a27, a28⟩ := aN.lendS (i := 0) a24 (Hp.le_trans o6 o7) rfl
         obtain ⟨l4, a29, hm⟩ := aI hm
         refine aW (vs := [Value.agg #[i64 a2.1.System.States, i64 a2.1.System.Initial, Value.slice a6 a5.2.1.length a8, Value.slice a9 a5.2.2.1.length b0, Value.slice b1 a5.2.2.2.length b2], i64 1]) Tryz.call17 rfl (zG (a := ⟨⟨a2.1.System.States, a2.1.System.Initial, a5.2.1, a5.2.2.1⟩, a5.2.2.2⟩) a27 (a20.mono (Hp.le_trans o7 o8)) (a23.mono o8) a26 a29) ?_
         rintro _ b89 ⟨rfl, a30⟩
         have a31 := a28 _ _ a30
         have a32 := a25 _ _ a31
         have j6 := a22 _ _ a32
         refine aC (aG (v := i64 l4) rfl) (aF (aA (aH (aH (aB (aC (aD (v := i64 l4) rfl) (aC (cE rfl rfl) (aF (aA ?_)))))))))
         rcases aJ hm with ⟨l5, hm⟩ | ⟨l5, hm⟩
         ·refine aO l5 rfl (aH (aB (aC (aG (v := Value.bool false) rfl) (aF (aA ?_)))))
          have a33 := Option.some.inj hm
          subst a33
          exact bB (aQ (aZ Tryz.results3 rfl ⟨rfl, (aN.arr 9 [] j6 rfl)⟩))
         ·refine aM l5 rfl (aX (aA (aH (aH (aB (aC (aD (v := i64 l4) rfl) (aC (aD (v := i64 a5.1) rfl) (aC (lS rfl rfl) (aF (aA ?_))))))))))
          rcases aJ hm with ⟨l6, hm⟩ | ⟨l6, hm⟩
          ·refine aO l6 rfl (aH (aB (aC (aG (v := Value.bool false) rfl) (aF (aA ?_)))))
           have a34 := Option.some.inj hm
           subst a34
           exact bB (aQ (aZ Tryz.results3 rfl ⟨rfl, (aN.arr 9 [] j6 rfl)⟩))
          ·refine aM l6 rfl (aX (aA (aH (aB (aC (dR (us := [i64 aP.States, i64 aP.Initial, Value.slice a1 aP.Labels.length c2, Value.slice a4 aP.Edges.length c5]) ag_25 j6 (i := 3) rfl a08 rfl rfl) ?_)))))
           obtain ⟨f7, a35, hm⟩ := aI hm
           refine aW (vs := [Value.agg #[i64 aP.States, i64 aP.Initial, Value.slice a1 aP.Labels.length c2, Value.slice a4 aP.Edges.length c5]]) Tryz.call8 rfl (xX j6 h3 h6 a35) ?_
           rintro _ b90 ⟨o9, p0, p1, p2, rfl, a36⟩
           refine aC (aD a07) ?_
           obtain ⟨p3, a37, hm⟩ := aI hm
           refine aW (vs := [Value.slice a7 aLabels.length c8]) Tryz.call9 rfl (nP a36 h9 a37) ?_
           rintro _ b91 ⟨p4, p5, rfl, a38⟩
           obtain ⟨b92, p6, a39, a40, a41⟩ := aN.lendS (i := 1) a38 (Hp.le_refl _) rfl
           obtain ⟨b93, p7, a42, a43, a44⟩ := aN.lendS (i := 1) a40 p6 rfl
           obtain ⟨b94, p8, a45, a46, a47⟩ := aN.lendS (i := 0) a43 (Hp.le_trans p6 p7) rfl
           obtain ⟨b9, a48, hm⟩ := aI hm
           refine aW (vs := [Value.agg #[i64 f7.States, i64 f7.Initial, Value.slice o9 f7.Labels.length p0, Value.slice p1 f7.Edges.length p2], Value.slice p4 p3.length p5]) Tryz.call10 rfl (xG a46 hG (a39.mono (Hp.le_trans p7 p8)) (a42.mono p8) a45 a48) ?_
           rintro _ b95 ⟨e9, f0, f1, f2, f3, f4, rfl, a49⟩
           have a50 := a47 _ _ a49
           have a51 := a44 _ _ a50
           have a52 := a41 _ _ a51
           refine aC (aD (v := Value.tuple #[Value.agg #[i64 b9.1.System.States, i64 b9.1.System.Initial, Value.slice e9 b9.1.System.Labels.length f0, Value.slice f1 b9.1.System.Edges.length f2, Value.slice f3 b9.1.Verdicts.length f4], i64 b9.2]) rfl) (aC (cZ rfl rfl) (aC (cZ rfl rfl) (cG (vs := [i64 0, i64 0, Value.slice none 0 0, Value.slice none 0 0, Value.slice none 0 0]) Tryz.zeroValue33 a52 rfl (fun a53 b96 a54 => (cC (i := 0) (ns := [i64 b9.1.System.States, i64 b9.1.System.Initial, Value.slice e9 b9.1.System.Labels.length f0, Value.slice f1 b9.1.System.Edges.length f2, Value.slice f3 b9.1.Verdicts.length f4]) (us := [i64 b9.1.System.States, i64 b9.1.System.Initial, Value.slice e9 b9.1.System.Labels.length f0, Value.slice f1 b9.1.System.Edges.length f2, Value.slice f3 b9.1.Verdicts.length f4]) Tryz.sizeOf33 a54 rfl rfl rfl rfl rfl (dT rfl) rfl rfl (fun a55 (l7 : aN G K (box a53 33 [i64 b9.1.System.States, i64 b9.1.System.Initial, Value.slice e9 b9.1.System.Labels.length f0, Value.slice f1 b9.1.System.Edges.length f2, Value.slice f3 b9.1.Verdicts.length f4] :: aT 9 K o9 p0 f7.Labels :: aT 63 K p1 p2 f7.Edges :: aT 9 K p4 p5 p3 :: aT 9 K e9 f0 b9.1.System.Labels :: aT 63 K f1 f2 b9.1.System.Edges :: aT 2 K f3 f4 b9.1.Verdicts :: aT 9 K a6 a8 a5.2.1 :: aT 63 K a9 b0 a5.2.2.1 :: aT 2 K b1 b2 a5.2.2.2 :: box c6 25 [i64 aP.States, i64 aP.Initial, Value.slice a1 aP.Labels.length c2, Value.slice a4 aP.Edges.length c5] :: box c9 33 [i64 a2.1.System.States, i64 a2.1.System.Initial, Value.slice a6 a5.2.1.length a8, Value.slice a9 a5.2.2.1.length b0, Value.slice b1 a5.2.2.2.length b2] :: box c7 33 [i64 a0.1.System.States, i64 a0.1.System.Initial, Value.slice b3 a0.1.System.Labels.length b4, Value.slice b5 a0.1.System.Edges.length b6, Value.slice b7 a0.1.Verdicts.length b8] :: aT 9 K b3 b4 a0.1.System.Labels :: aT 63 K b5 b6 a0.1.System.Edges :: aT 2 K b7 b8 a0.1.Verdicts :: L) a55) => (aC (aG (v := i64 b9.2) rfl) (aF (aA (aH (aH (cH (fun f w => ∃ (l8 : Bool), hY a2 a5 l8 = some R ∧ f 10 = Value.pointer (some ⟨c9, 0, none⟩) ∧ f 13 = i64 a5.1 ∧ f 110 = Value.bool l8 ∧ aN G K (aT 9 K a6 a8 a5.2.1 :: aT 63 K a9 b0 a5.2.2.1 :: aT 2 K b1 b2 a5.2.2.2 :: box c9 33 [i64 a2.1.System.States, i64 a2.1.System.Initial, Value.slice a6 a5.2.1.length a8, Value.slice a9 a5.2.2.1.length b0, Value.slice b1 a5.2.2.2.length b2] :: L) w) ?_ ?_))))))))))))
           ·rintro f b97 ⟨l8, hm, a56, a57, p9, l9⟩
            unfold hY at hm
            refine aA ?_
            rcases aJ hm with ⟨m0, hm⟩ | ⟨m0, hm⟩
            ·refine aO m0 p9 (aH (aB (aC (aG (v := Value.bool false) rfl) (aF (aA ?_)))))
             have a58 := Option.some.inj hm
             subst a58
             exact bB (aQ (aZ Tryz.results3 rfl ⟨rfl, (aN.arr 4 [] l9 rfl)⟩))
            ·refine aM m0 p9 (aX (aA (aH (aB (aC (aG (v := i64 1) rfl) (aF (aA (aH (aB (aC (dR (us := [i64 a2.1.System.States, i64 a2.1.System.Initial, Value.slice a6 a5.2.1.length a8, Value.slice a9 a5.2.2.1.length b0, Value.slice b1 a5.2.2.2.length b2]) lI l9 (i := 3) rfl a56 rfl rfl) (aC (aD (v := i64 1) rfl) ?_)))))))))))
             obtain ⟨b98, q0, a59, a60, a61⟩ := aN.lendS (i := 0) l9 (Hp.le_refl _) rfl
             obtain ⟨b99, q1, a62, a63, a64⟩ := aN.lendS (i := 0) a60 q0 rfl
             obtain ⟨c00, q2, a65, a66, a67⟩ := aN.lendS (i := 0) a63 (Hp.le_trans q0 q1) rfl
             obtain ⟨m1, a68, hm⟩ := aI hm
             refine aW (vs := [Value.agg #[i64 a2.1.System.States, i64 a2.1.System.Initial, Value.slice a6 a5.2.1.length a8, Value.slice a9 a5.2.2.1.length b0, Value.slice b1 a5.2.2.2.length b2], i64 1]) Tryz.call17 rfl (zG (a := ⟨⟨a2.1.System.States, a2.1.System.Initial, a5.2.1, a5.2.2.1⟩, a5.2.2.2⟩) a66 (a59.mono (Hp.le_trans q1 q2)) (a62.mono q2) a65 a68) ?_
             rintro _ c01 ⟨rfl, a69⟩
             have a70 := a67 _ _ a69
             have a71 := a64 _ _ a70
             have m2 := a61 _ _ a71
             refine aC (aG (v := i64 m1) rfl) (aF (aA (aH (aH (aB (aC (aD (v := i64 m1) rfl) (aC (cE rfl rfl) (aF (aA ?_)))))))))
             rcases aJ hm with ⟨m3, hm⟩ | ⟨m3, hm⟩
             ·refine aO m3 rfl (aH (aB (aC (aG (v := Value.bool false) rfl) (aF (aA ?_)))))
              have a72 := Option.some.inj hm
              subst a72
              exact bB (aQ (aZ Tryz.results3 rfl ⟨rfl, (aN.arr 4 [] m2 rfl)⟩))
             ·refine aM m3 rfl (aX (aA (aH (aH (aB (aC (aD (v := i64 m1) rfl) (aC (aD a57) (aC (lS rfl rfl) (aF (aA ?_))))))))))
              rcases aJ hm with ⟨m4, hm⟩ | ⟨m4, hm⟩
              ·refine aO m4 rfl (aH (aB (aC (aG (v := Value.bool false) rfl) (aF (aA ?_)))))
               have a73 := Option.some.inj hm
               subst a73
               exact bB (aQ (aZ Tryz.results3 rfl ⟨rfl, (aN.arr 4 [] m2 rfl)⟩))
              ·refine aM m4 rfl (aX (aA (aH (aB (aC (aG (v := Value.bool true) rfl) (aF (aA ?_)))))))
               have a74 := Option.some.inj hm
               subst a74
               exact bB (aZ Tryz.results3 rfl ⟨rfl, (aN.arr 4 [] m2 rfl)⟩)
           refine aB (aC (dR (us := [i64 b9.1.System.States, i64 b9.1.System.Initial, Value.slice e9 b9.1.System.Labels.length f0, Value.slice f1 b9.1.System.Edges.length f2, Value.slice f3 b9.1.Verdicts.length f4]) lI l7 (i := 0) rfl rfl rfl rfl) (aC (dR (us := [i64 a0.1.System.States, i64 a0.1.System.Initial, Value.slice b3 a0.1.System.Labels.length b4, Value.slice b5 a0.1.System.Edges.length b6, Value.slice b7 a0.1.Verdicts.length b8]) lI l7 (i := 12) rfl a09 rfl rfl) ?_))
           obtain ⟨c02, g0, a75, a76, a77⟩ := aN.lendS (i := 4) l7 (Hp.le_refl _) rfl
           obtain ⟨c03, g1, a78, a79, a80⟩ := aN.lendS (i := 4) a76 g0 rfl
           obtain ⟨c04, g2, a81, a82, a83⟩ := aN.lendS (i := 4) a79 (Hp.le_trans g0 g1) rfl
           obtain ⟨c05, g3, a84, a85, a86⟩ := aN.lendS (i := 10) a82 (Hp.le_trans (Hp.le_trans g0 g1) g2) rfl
           obtain ⟨c06, g4, a87, a88, a89⟩ := aN.lendS (i := 10) a85 (Hp.le_trans (Hp.le_trans (Hp.le_trans g0 g1) g2) g3) rfl
           obtain ⟨c07, g5, a90, a91, a92⟩ := aN.lendS (i := 10) a88 (Hp.le_trans (Hp.le_trans (Hp.le_trans (Hp.le_trans g0 g1) g2) g3) g4) rfl
           obtain ⟨a93, a94, hm⟩ := aI hm
           refine aW (vs := [Value.agg #[i64 b9.1.System.States, i64 b9.1.System.Initial, Value.slice e9 b9.1.System.Labels.length f0, Value.slice f1 b9.1.System.Edges.length f2, Value.slice f3 b9.1.Verdicts.length f4], Value.agg #[i64 a0.1.System.States, i64 a0.1.System.Initial, Value.slice b3 a0.1.System.Labels.length b4, Value.slice b5 a0.1.System.Edges.length b6, Value.slice b7 a0.1.Verdicts.length b8]]) Tryz.call11 rfl (vW a91 (a75.mono (Hp.le_trans (Hp.le_trans (Hp.le_trans (Hp.le_trans g1 g2) g3) g4) g5)) (a78.mono (Hp.le_trans (Hp.le_trans (Hp.le_trans g2 g3) g4) g5)) (a81.mono (Hp.le_trans (Hp.le_trans g3 g4) g5)) (a84.mono (Hp.le_trans g4 g5)) (a87.mono g5) a90 a94) ?_
           rintro _ c08 ⟨rfl, a95⟩
           have a96 := a92 _ _ a95
           have a97 := a89 _ _ a96
           have a98 := a86 _ _ a97
           have a99 := a83 _ _ a98
           have b00 := a80 _ _ a99
           have q3 := a77 _ _ b00
           refine aC (dN rfl) (aC (aD (v := Value.bool (!a93)) rfl) ?_)
           rcases aJ hm with ⟨d8, hm⟩ | ⟨d8, hm⟩
           ·exact aV (g := 106) d8 (by kernel_rfl) rfl (aV (g := 106) d8 (by kernel_rfl) rfl (aV (g := 106) d8 (by kernel_rfl) rfl (aC (bK (v := Value.bool true) d8 rfl rfl) (aF (aA ⟨true, hm, j5, rfl, rfl, (aN.arr 16 [10, 11, 12, 14] q3 rfl)⟩)))))
           ·exact bJ (g := 106) d8 (by kernel_rfl) rfl (aC (aD (v := i64 b9.2) rfl) (bJ (g := 106) d8 (by kernel_rfl) rfl (aC (aD a10) (bJ (g := 106) d8 (by kernel_rfl) rfl (aC (lS rfl rfl) (aC (bM (v := Value.bool (b9.2 != a0.2)) d8 rfl rfl) (aF (aA ⟨b9.2 != a0.2, hm, j5, rfl, rfl, (aN.arr 16 [10, 11, 12, 14] q3 rfl)⟩))))))))
       refine aB (aC (aD (v := i64 l0.1) rfl) (aC (cE rfl rfl) (aC (aD (v := Value.bool (decide (l0.1 < 0))) rfl) ?_)))
       rcases aJ hm with ⟨d5, hm⟩ | ⟨d5, hm⟩
       ·exact aV (g := 72) d5 (by kernel_rfl) rfl (aV (g := 72) d5 (by kernel_rfl) rfl (aV (g := 72) d5 (by kernel_rfl) rfl (aV (g := 72) d5 (by kernel_rfl) rfl (aC (bK (v := Value.bool true) d5 rfl rfl) (aC (aD (v := Value.bool true) rfl) (aV (g := 78) (rfl : true = true) (by kernel_rfl) rfl (aV (g := 78) (rfl : true = true) (by kernel_rfl) rfl (aV (g := 78) (rfl : true = true) (by kernel_rfl) rfl (aC (bK (v := Value.bool true) (rfl : true = true) rfl rfl) (aF (aA ⟨true, hm, i9, j0, j1, j2, j3, rfl, (aN.arr 8 [5] j4 rfl)⟩)))))))))))
       ·refine bJ (g := 72) d5 (by kernel_rfl) rfl (aC (dR (us := [i64 a2.1.System.States, i64 a2.1.System.Initial, Value.slice a6 a2.1.System.Labels.length a8, Value.slice a9 a2.1.System.Edges.length b0, Value.slice b1 a2.1.Verdicts.length b2]) lI j4 (i := 8) rfl j3 rfl rfl) (bJ (g := 72) d5 (by kernel_rfl) rfl (aC (dR (us := [i64 a0.1.System.States, i64 a0.1.System.Initial, Value.slice b3 a0.1.System.Labels.length b4, Value.slice b5 a0.1.System.Edges.length b6, Value.slice b7 a0.1.Verdicts.length b8]) lI j4 (i := 12) rfl j1 rfl rfl) (bJ (g := 72) d5 (by kernel_rfl) rfl ?_))))
        obtain ⟨c09, g6, b01, b02, b03⟩ := aN.lendS (i := 9) j4 (Hp.le_refl _) rfl
        obtain ⟨c10, g7, b04, b05, b06⟩ := aN.lendS (i := 9) b02 g6 rfl
        obtain ⟨c11, g8, b07, b08, b09⟩ := aN.lendS (i := 9) b05 (Hp.le_trans g6 g7) rfl
        obtain ⟨c12, g9, b10, b11, b12⟩ := aN.lendS (i := 10) b08 (Hp.le_trans (Hp.le_trans g6 g7) g8) rfl
        obtain ⟨c13, h0, b13, b14, b15⟩ := aN.lendS (i := 10) b11 (Hp.le_trans (Hp.le_trans (Hp.le_trans g6 g7) g8) g9) rfl
        obtain ⟨c14, h1, b16, b17, b18⟩ := aN.lendS (i := 10) b14 (Hp.le_trans (Hp.le_trans (Hp.le_trans (Hp.le_trans g6 g7) g8) g9) h0) rfl
        obtain ⟨q4, b19, hm⟩ := aI hm
        refine aW (vs := [Value.agg #[i64 a2.1.System.States, i64 a2.1.System.Initial, Value.slice a6 a2.1.System.Labels.length a8, Value.slice a9 a2.1.System.Edges.length b0, Value.slice b1 a2.1.Verdicts.length b2], Value.agg #[i64 a0.1.System.States, i64 a0.1.System.Initial, Value.slice b3 a0.1.System.Labels.length b4, Value.slice b5 a0.1.System.Edges.length b6, Value.slice b7 a0.1.Verdicts.length b8]]) Tryz.call11 rfl (vW b17 (b01.mono (Hp.le_trans (Hp.le_trans (Hp.le_trans (Hp.le_trans g7 g8) g9) h0) h1)) (b04.mono (Hp.le_trans (Hp.le_trans (Hp.le_trans g8 g9) h0) h1)) (b07.mono (Hp.le_trans (Hp.le_trans g9 h0) h1)) (b10.mono (Hp.le_trans h0 h1)) (b13.mono h1) b16 b19) ?_
        rintro _ c15 ⟨rfl, b20⟩
        have b21 := b18 _ _ b20
        have b22 := b15 _ _ b21
        have b23 := b12 _ _ b22
        have b24 := b09 _ _ b23
        have b25 := b06 _ _ b24
        have q5 := b03 _ _ b25
        refine bJ (g := 72) d5 (by kernel_rfl) rfl (aC (dN rfl) (aC (bM (v := Value.bool (!q4)) d5 rfl rfl) (aC (aD (v := Value.bool (!q4)) rfl) ?_)))
        rcases aJ hm with ⟨d9, hm⟩ | ⟨d9, hm⟩
        ·exact aV (g := 78) d9 (by kernel_rfl) rfl (aV (g := 78) d9 (by kernel_rfl) rfl (aV (g := 78) d9 (by kernel_rfl) rfl (aC (bK (v := Value.bool true) d9 rfl rfl) (aF (aA ⟨true, hm, i9, j0, j1, j2, j3, rfl, (aN.arr 16 [11, 14, 0, 1, 2, 15, 3, 4, 5] q5 rfl)⟩)))))
        ·exact bJ (g := 78) d9 (by kernel_rfl) rfl (aC (aD v3) (bJ (g := 78) d9 (by kernel_rfl) rfl (aC (aD j2) (bJ (g := 78) d9 (by kernel_rfl) rfl (aC (lS rfl rfl) (aC (bM (v := Value.bool (a2.2 != a0.2)) d9 rfl rfl) (aF (aA ⟨a2.2 != a0.2, hm, i9, j0, j1, j2, j3, rfl, (aN.arr 16 [11, 14, 0, 1, 2, 15, 3, 4, 5] q5 rfl)⟩))))))))
   refine aB (aC (dR (us := [i64 a2.1.System.States, i64 a2.1.System.Initial, Value.slice a6 a2.1.System.Labels.length a8, Value.slice a9 a2.1.System.Edges.length b0, Value.slice b1 a2.1.Verdicts.length b2]) lI k0 (i := 0) rfl rfl rfl rfl) (aC (dR (us := [i64 a0.1.System.States, i64 a0.1.System.Initial, Value.slice b3 a0.1.System.Labels.length b4, Value.slice b5 a0.1.System.Edges.length b6, Value.slice b7 a0.1.Verdicts.length b8]) lI k0 (i := 8) rfl rfl rfl rfl) ?_))
   obtain ⟨c16, h2, b26, b27, b28⟩ := aN.lendS (i := 4) k0 (Hp.le_refl _) rfl
   obtain ⟨c17, h4, b29, b30, b31⟩ := aN.lendS (i := 4) b27 h2 rfl
   obtain ⟨c18, h5, b32, b33, b34⟩ := aN.lendS (i := 4) b30 (Hp.le_trans h2 h4) rfl
   obtain ⟨c19, h7, b35, b36, b37⟩ := aN.lendS (i := 9) b33 (Hp.le_trans (Hp.le_trans h2 h4) h5) rfl
   obtain ⟨c20, h8, b38, b39, b40⟩ := aN.lendS (i := 9) b36 (Hp.le_trans (Hp.le_trans (Hp.le_trans h2 h4) h5) h7) rfl
   obtain ⟨c21, i0, b41, b42, b43⟩ := aN.lendS (i := 9) b39 (Hp.le_trans (Hp.le_trans (Hp.le_trans (Hp.le_trans h2 h4) h5) h7) h8) rfl
   obtain ⟨b44, b45, hm⟩ := aI hm
   refine aW (vs := [Value.agg #[i64 a2.1.System.States, i64 a2.1.System.Initial, Value.slice a6 a2.1.System.Labels.length a8, Value.slice a9 a2.1.System.Edges.length b0, Value.slice b1 a2.1.Verdicts.length b2], Value.agg #[i64 a0.1.System.States, i64 a0.1.System.Initial, Value.slice b3 a0.1.System.Labels.length b4, Value.slice b5 a0.1.System.Edges.length b6, Value.slice b7 a0.1.Verdicts.length b8]]) Tryz.call11 rfl (vW b42 (b26.mono (Hp.le_trans (Hp.le_trans (Hp.le_trans (Hp.le_trans h4 h5) h7) h8) i0)) (b29.mono (Hp.le_trans (Hp.le_trans (Hp.le_trans h5 h7) h8) i0)) (b32.mono (Hp.le_trans (Hp.le_trans h7 h8) i0)) (b35.mono (Hp.le_trans h8 i0)) (b38.mono i0) b41 b45) ?_
   rintro _ c22 ⟨rfl, b46⟩
   have b47 := b43 _ _ b46
   have b48 := b40 _ _ b47
   have b49 := b37 _ _ b48
   have b50 := b34 _ _ b49
   have b51 := b31 _ _ b50
   have q6 := b28 _ _ b51
   refine aC (dN rfl) (aC (aD (v := Value.bool (!b44)) rfl) ?_)
   rcases aJ hm with ⟨e0, hm⟩ | ⟨e0, hm⟩
   ·exact aV (g := 49) e0 (by kernel_rfl) rfl (aV (g := 49) e0 (by kernel_rfl) rfl (aV (g := 49) e0 (by kernel_rfl) rfl (aC (bK (v := Value.bool true) e0 rfl rfl) (aF (aA ⟨true, hm, rfl, rfl, rfl, rfl, rfl, rfl, rfl, rfl, rfl, (aN.arr 15 [6, 7, 8, 9, 0, 1, 2, 10, 11, 3, 4, 5] q6 rfl)⟩)))))
   ·exact bJ (g := 49) e0 (by kernel_rfl) rfl (aC (aD (v := i64 a2.2) rfl) (bJ (g := 49) e0 (by kernel_rfl) rfl (aC (aD (v := i64 a0.2) rfl) (bJ (g := 49) e0 (by kernel_rfl) rfl (aC (lS rfl rfl) (aC (bM (v := Value.bool (a2.2 != a0.2)) e0 rfl rfl) (aF (aA ⟨a2.2 != a0.2, hm, rfl, rfl, rfl, rfl, rfl, rfl, rfl, rfl, rfl, (aN.arr 15 [6, 7, 8, 9, 0, 1, 2, 10, 11, 3, 4, 5] q6 rfl)⟩))))))))
end Gv
