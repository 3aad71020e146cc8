/- Walks, printed by program. -/
import Derived.Test.YtnpdckpkipjngaaGreatDoorRLW
import Derived.Test.YtnpdckpkipjngaaGreatDoorRMd
set_option linter.all false
namespace Gv
open Go Go.Proofs
set_option maxRecDepth 20000
set_option maxHeartbeats 1000000
variable {G : Env} {K : Hp} {L : List nV} {w : World} {a1 a4 a7 a10 a13 a16 : Option Addr} {c2 c5 c8 c14 c17 : Nat}
theorem aAH {a : (List bF)} {left : Int} {R : Int} (hs : aN G K (L) w) (h3 : bX K a1 c2 a) (hm : tJ a left = some R) :
  Calls Tryz.prog 6 ([Value.slice a1 a.length c2, i64 left] : List Value).toArray w (fW fun v w' => v = i64 R ∧ aN G K (L) w') := by
 refine aU Tryz.func6 rfl (by kernel_rfl) (by show (2 : Nat) ≤ 28; decide) ?_
 unfold tJ at hm
 refine aH (aB (aC (aG (v := i64 0) rfl) (aF (aA (aH (aB (aC (aD (v := i64 left) rfl) (aC (aD (v := Value.slice a1 a.length c2) rfl) (aC (bU (len := a.length) cQ rfl) (aC (lH rfl rfl) (aC (aG (v := i64 (wr (left - (a.length : Int)))) rfl) (aF (aA (aH (aH (aB (aC (aD (v := i64 (wr (left - (a.length : Int)))) rfl) (aC (cE rfl rfl) (aF (aA ?_))))))))))))))))))))
 rcases aJ hm with ⟨c4, hm⟩ | ⟨c4, hm⟩
 ·refine aO c4 rfl (aH (aB (aC (aG (v := i64 (-1)) rfl) (aF (aA ?_)))))
  have b5 := Option.some.inj hm
  subst b5
  exact bB (aQ (aZ Tryz.results6 rfl ⟨rfl, hs⟩))
 ·refine aM c4 rfl (aX (aA (aH (aH (aB (aC (aG (v := i64 0) rfl) (aF (aA (bC (fun f w => ∃ (a4 : Int), tY a4 = some R ∧ f 1 = i64 a4 ∧ aN G K (L) w) ?_ ?_)))))))))
  ·rintro f w8 ⟨a4, hm, e7, b7⟩
   unfold tY at hm
   refine aA (aH (aB (aC (aD e7) (aC (aG (v := i64 a4) rfl) (aF (aA ?_))))))
   have b8 := Option.some.inj hm
   subst b8
   exact bB (aZ Tryz.results6 rfl ⟨rfl, b7⟩)
  obtain ⟨c8, b9, hm⟩ := aI hm
  refine cD b9 (fun (s : (Int × Int)) f w => match s with | (a2, a3) => f 0 = Value.slice a1 a.length c2 ∧ f 1 = i64 a2 ∧ f 5 = i64 a3 ∧ aN G K (L) w) ?_ ?_
  ·exact ⟨rfl, rfl, rfl, hs⟩
  ·rintro ⟨a2, a3⟩ c0 f c9 a0 b2 ⟨a7, b3, a8, a5⟩
   replace a0 : qF a a2 a3 = some c0 := a0
   unfold qF at a0
   refine aH (aH (aB (aC (aD a8) (aC (aD a7) (aC (bU (len := a.length) cQ rfl) (aC (cE rfl rfl) (aF (aA ?_))))))))
   rcases aJ a0 with ⟨a9, a0⟩ | ⟨a9, a0⟩
   ·refine aO a9 rfl (aX (aA (aH (cK (aH (aB (aC (aD b3) (aC (aD a7) (aC (aD a8) ?_)))))))))
    obtain ⟨b0, b4, a0⟩ := aI a0
    refine aC (cU cQ rfl h3 rfl rfl rfl b4) ?_
    obtain ⟨d0, c1, c3⟩ := bX.el (sz := 1) rfl h3 b4
    cases c3
    refine aC (bL (t := 0) oI a5 c1 rfl rfl) (aC (gK Tryz.runUnderlying9 rfl) (aC (lH rfl rfl) (aC (aG (v := i64 (wr (a2 - (b0.length : Int)))) rfl) (aF (aA (aH (aB (aC (aD (v := i64 (wr (a2 - (b0.length : Int)))) rfl) (aC (cE rfl rfl) (aF (aA ?_)))))))))))
    rcases aJ a0 with ⟨b1, a0⟩ | ⟨b1, a0⟩
    ·refine aO b1 rfl (aH (aB (aC (aG (v := i64 (-1)) rfl) (aF (aA (bB (bN (aQ (aQ ?_)))))))))
     have hq47 := b2 _ (Option.some.inj a0).symm
     subst hq47
     have hm : (some (-1)) = some R := hm
     have c5 := Option.some.inj hm
     subst c5
     exact bN (aQ (aQ (aZ Tryz.results6 rfl ⟨rfl, a5⟩)))
    ·exact aM b1 rfl (aX (bG (aA (aB (aC (aD a8) (aC (cI rfl rfl) (aC (aG (v := i64 (wr (a3 + 1))) rfl) (aF (aA ⟨(wr (a2 - (b0.length : Int)), wr (a3 + 1)), (Option.some.inj a0).symm, a7, rfl, rfl, a5⟩)))))))))
   ·refine aM a9 rfl (bY (aY (aY ?_)))
    have c6 := b2 _ (Option.some.inj a0).symm
    subst c6
    have hm : (tY a2) = some R := hm
    exact bO (aA ⟨a2, hm, b3, a5⟩)
theorem aFd {a : (List Edge)} {left : Int} {R : Int} (hs : aN G K (L) w) (h3 : bX K a1 c2 a) (hm : aAx a left = some R) :
  Calls Tryz.prog 28 ([Value.slice a1 a.length c2, i64 left] : List Value).toArray w (fW fun v w' => v = i64 R ∧ aN G K (L) w') := by
 refine aU Tryz.func28 rfl (by kernel_rfl) (by show (2 : Nat) ≤ 12; decide) ?_
 unfold aAx at hm
 refine aH (aB (aC (aG (v := i64 0) rfl) (aF (aA (aH (aB (aC (aD (v := i64 left) rfl) (aC (aD (v := Value.slice a1 a.length c2) rfl) (aC (bU (len := a.length) sl_23 rfl) (aC (lH rfl rfl) (aC (aG (v := i64 (wr (left - (a.length : Int)))) rfl) (aF (aA (aH (aH (aB (aC (aD (v := i64 (wr (left - (a.length : Int)))) rfl) (aC (cE rfl rfl) (aF (aA ?_))))))))))))))))))))
 rcases aJ hm with ⟨c4, hm⟩ | ⟨c4, hm⟩
 ·refine aO c4 rfl (aH (aB (aC (aG (v := i64 (-1)) rfl) (aF (aA ?_)))))
  have a2 := Option.some.inj hm
  subst a2
  exact bB (aQ (aZ Tryz.results28 rfl ⟨rfl, hs⟩))
 ·refine aM c4 rfl (aX (aA (aH (aB (aC (aD (v := i64 (wr (left - (a.length : Int)))) rfl) (aC (aG (v := i64 (wr (left - (a.length : Int)))) rfl) (aF (aA ?_))))))))
  have a3 := Option.some.inj hm
  subst a3
  exact bB (aZ Tryz.results28 rfl ⟨rfl, hs⟩)
theorem aGR {a : dC} {left : Int} {R : Int} (hs : aN G K (L) w) (h3 : bX K a1 c2 a.Labels) (h6 : bX K a4 c5 a.Edges) (hm : aDr a left = some R) :
  Calls Tryz.prog 5 ([Value.agg #[i64 a.States, i64 a.Initial, Value.slice a1 a.Labels.length c2, Value.slice a4 a.Edges.length c5], i64 left] : List Value).toArray w (fW fun v w' => v = i64 R ∧ aN G K (L) w') := by
 refine aU Tryz.func5 rfl (by kernel_rfl) (by show (2 : Nat) ≤ 18; decide) ?_
 unfold aDr at hm
 refine aH (aB (dU (v := Value.agg #[i64 a.States, i64 a.Initial, Value.slice a1 a.Labels.length c2, Value.slice a4 a.Edges.length c5]) (vs := [i64 a.States, i64 a.Initial, Value.slice a1 a.Labels.length c2, Value.slice a4 a.Edges.length c5]) hs rfl rfl (fun b7 w8 a7 => (aC (aG (v := i64 0) rfl) (aF (aA (aH (aB (aC (bI (t' := 2) fa_25_2 rfl rfl) (aC (cA nY a7 (i := 0) rfl rfl rfl) (aC (aD (v := i64 left) rfl) ?_)))))))))))
 obtain ⟨a0, a9, hm⟩ := aI hm
 refine aW (vs := [Value.slice a1 a.Labels.length c2, i64 left]) Tryz.call6 rfl (aAH a7 h3 a9) ?_
 rintro _ b6 ⟨rfl, a3⟩
 refine aC (aG (v := i64 a0) rfl) (aF (aA (aH (aH (aB (aC (aD (v := i64 a0) rfl) (aC (cE rfl rfl) (aF (aA ?_)))))))))
 rcases aJ hm with ⟨a5, hm⟩ | ⟨a5, hm⟩
 ·refine aO a5 rfl (aH (aB (aC (aG (v := i64 (-1)) rfl) (aF (aA ?_)))))
  have b0 := Option.some.inj hm
  subst b0
  exact bB (aQ (aZ Tryz.results5 rfl ⟨rfl, (aN.arr 1 [] a3 rfl)⟩))
 ·refine aM a5 rfl (aX (aA (aH (aB (aC (bI (t' := 3) fa_25_3 rfl rfl) (aC (cA sc_23 a3 (i := 0) rfl rfl rfl) (aC (aD (v := i64 a0) rfl) ?_)))))))
  obtain ⟨a2, b1, hm⟩ := aI hm
  refine aW (vs := [Value.slice a4 a.Edges.length c5, i64 a0]) Tryz.call28 rfl (aFd a3 h6 b1) ?_
  rintro _ w18 ⟨rfl, a8⟩
  refine aC (aG (v := i64 a2) rfl) (aF (aA (aH (aH (aB (aC (aD (v := i64 a2) rfl) (aC (cE rfl rfl) (aF (aA ?_)))))))))
  rcases aJ hm with ⟨a6, hm⟩ | ⟨a6, hm⟩
  ·refine aO a6 rfl (aH (aB (aC (aG (v := i64 (-1)) rfl) (aF (aA ?_)))))
   have b2 := Option.some.inj hm
   subst b2
   exact bB (aQ (aZ Tryz.results5 rfl ⟨rfl, (aN.arr 1 [] a8 rfl)⟩))
  ·refine aM a6 rfl (aX (aA (aH (aB (aC (aD (v := i64 a2) rfl) (aC (aG (v := i64 a2) rfl) (aF (aA ?_))))))))
   have b3 := Option.some.inj hm
   subst b3
   exact bB (aZ Tryz.results5 rfl ⟨rfl, (aN.arr 1 [] a8 rfl)⟩)
theorem rP {n : Int} {low : Int} {high : Int} {R : Bool} (hs : aN G K (L) w)  (hm : vZ n low high = some R) :
  Calls Tryz.prog 109 ([i64 n, i64 low, i64 high] : List Value).toArray w (fW fun v w' => v = Value.bool R ∧ aN G K (L) w') := by
 refine aU Tryz.func109 rfl (by kernel_rfl) (by show (3 : Nat) ≤ 15; decide) ?_
 unfold vZ at hm
 refine aH (aB (aC (aG (v := Value.bool false) rfl) (aF (aA (aH (cH (fun f w => ∃ (v1 : Bool), aAZ v1 = some R ∧ f 6 = Value.bool v1 ∧ aN G K (L) w) ?_ ?_))))))
 ·rintro f w3 ⟨v1, hm, e2, a3⟩
  unfold aAZ at hm
  refine aA ?_
  have a4 := Option.some.inj hm
  subst a4
  exact bB (aZ Tryz.results109 rfl ⟨e2, a3⟩)
 refine aB (aC (aD (v := i64 n) rfl) (aC (aD (v := i64 low) rfl) (aC (tX rfl rfl) (aC (aD (v := Value.bool (decide (low ≤ n))) rfl) ?_))))
 rcases aJ hm with ⟨c6, hm⟩ | ⟨c6, hm⟩
 ·exact bH (g := 10) c6 (by kernel_rfl) rfl (aC (aD (v := i64 n) rfl) (bH (g := 10) c6 (by kernel_rfl) rfl (aC (aD (v := i64 high) rfl) (bH (g := 10) c6 (by kernel_rfl) rfl (aC (aDf rfl rfl) (aC (bK (v := Value.bool (decide (n ≤ high))) c6 rfl rfl) (aC (aG (v := Value.bool (decide (n ≤ high))) rfl) (aF (aA ⟨decide (n ≤ high), hm, rfl, hs⟩)))))))))
 ·exact bA (g := 10) c6 (by kernel_rfl) rfl (bA (g := 10) c6 (by kernel_rfl) rfl (bA (g := 10) c6 (by kernel_rfl) rfl (aC (bM (v := Value.bool false) c6 rfl rfl) (aC (aG (v := Value.bool false) rfl) (aF (aA ⟨false, hm, rfl, hs⟩))))))
theorem aBp {c : UInt8} {R : Bool} (hs : aN G K (L) w)  (hm : yL c = some R) :
  Calls Tryz.prog 236 ([Value.int .u8 (c.toNat : Int)] : List Value).toArray w (fW fun v w' => v = Value.bool R ∧ aN G K (L) w') := by
 refine aU Tryz.func236 rfl (by kernel_rfl) (by show (1 : Nat) ≤ 9; decide) ?_
 unfold yL at hm
 refine aH (aB (aC (aG (v := Value.bool false) rfl) (aF (aA (aH (cH (fun f w => ∃ (v1 : Bool), wA v1 = some R ∧ f 2 = Value.bool v1 ∧ aN G K (L) w) ?_ ?_))))))
 ·rintro f w3 ⟨v1, hm, e2, a3⟩
  unfold wA at hm
  refine aA ?_
  have a4 := Option.some.inj hm
  subst a4
  exact bB (aZ Tryz.results236 rfl ⟨e2, a3⟩)
 refine aB (aC (aD (v := Value.int .u8 (c.toNat : Int)) rfl) (aC (tX rfl rfl) (aC (aD (v := Value.bool (decide (97 ≤ (c.toNat : Int)))) rfl) ?_)))
 rcases aJ hm with ⟨c6, hm⟩ | ⟨c6, hm⟩
 ·exact bH (g := 5) c6 (by kernel_rfl) rfl (aC (aD (v := Value.int .u8 (c.toNat : Int)) rfl) (bH (g := 5) c6 (by kernel_rfl) rfl (aC (aDf rfl rfl) (aC (bK (v := Value.bool (decide ((c.toNat : Int) ≤ 122))) c6 rfl rfl) (aC (aG (v := Value.bool (decide ((c.toNat : Int) ≤ 122))) rfl) (aF (aA ⟨decide ((c.toNat : Int) ≤ 122), hm, rfl, hs⟩)))))))
 ·exact bA (g := 5) c6 (by kernel_rfl) rfl (bA (g := 5) c6 (by kernel_rfl) rfl (aC (bM (v := Value.bool false) c6 rfl rfl) (aC (aG (v := Value.bool false) rfl) (aF (aA ⟨false, hm, rfl, hs⟩)))))
theorem aBq {c : UInt8} {R : Bool} (hs : aN G K (L) w)  (hm : yM c = some R) :
  Calls Tryz.prog 237 ([Value.int .u8 (c.toNat : Int)] : List Value).toArray w (fW fun v w' => v = Value.bool R ∧ aN G K (L) w') := by
 refine aU Tryz.func237 rfl (by kernel_rfl) (by show (1 : Nat) ≤ 9; decide) ?_
 unfold yM at hm
 refine aH (aB (aC (aG (v := Value.bool false) rfl) (aF (aA (aH (cH (fun f w => ∃ (v1 : Bool), wB v1 = some R ∧ f 2 = Value.bool v1 ∧ aN G K (L) w) ?_ ?_))))))
 ·rintro f w3 ⟨v1, hm, e2, a3⟩
  unfold wB at hm
  refine aA ?_
  have a4 := Option.some.inj hm
  subst a4
  exact bB (aZ Tryz.results237 rfl ⟨e2, a3⟩)
 refine aB (aC (aD (v := Value.int .u8 (c.toNat : Int)) rfl) (aC (tX rfl rfl) (aC (aD (v := Value.bool (decide (48 ≤ (c.toNat : Int)))) rfl) ?_)))
 rcases aJ hm with ⟨c6, hm⟩ | ⟨c6, hm⟩
 ·exact bH (g := 5) c6 (by kernel_rfl) rfl (aC (aD (v := Value.int .u8 (c.toNat : Int)) rfl) (bH (g := 5) c6 (by kernel_rfl) rfl (aC (aDf rfl rfl) (aC (bK (v := Value.bool (decide ((c.toNat : Int) ≤ 57))) c6 rfl rfl) (aC (aG (v := Value.bool (decide ((c.toNat : Int) ≤ 57))) rfl) (aF (aA ⟨decide ((c.toNat : Int) ≤ 57), hm, rfl, hs⟩)))))))
 ·exact bA (g := 5) c6 (by kernel_rfl) rfl (bA (g := 5) c6 (by kernel_rfl) rfl (aC (bM (v := Value.bool false) c6 rfl rfl) (aC (aG (v := Value.bool false) rfl) (aF (aA ⟨false, hm, rfl, hs⟩)))))
theorem aBZ {s_ : bF} {R : Bool} (hs : aN G K (L) w)  (hm : yA s_ = some R) :
  Calls Tryz.prog 202 ([cF s_] : List Value).toArray w (fW fun v w' => v = Value.bool R ∧ aN G K (L) w') := by
 refine aU Tryz.func202 rfl (by kernel_rfl) (by show (1 : Nat) ≤ 35; decide) ?_
 unfold yA at hm
 refine aH (aB (aC (aG (v := Value.bool false) rfl) (aF (aA (aH (aH (cH (fun f w => ∃ (v1 : Bool), oC s_ v1 = some R ∧ f 0 = cF s_ ∧ f 16 = Value.bool v1 ∧ aN G K (L) w) ?_ ?_)))))))
 ·rintro f w4 ⟨v1, hm, e2, e3, b3⟩
  unfold oC at hm
  refine aA ?_
  rcases aJ hm with ⟨c6, hm⟩ | ⟨c6, hm⟩
  ·refine aO c6 e3 (aH (aB (aC (aG (v := Value.bool false) rfl) (aF (aA ?_)))))
   have c5 := Option.some.inj hm
   subst c5
   exact bB (aQ (aZ Tryz.results202 rfl ⟨rfl, b3⟩))
  ·refine aM c6 e3 (aX (aA (aH (aH (aB (aC (aG (v := i64 0) rfl) (aF (aA (bC (fun f w => tZ = some R ∧ aN G K (L) w) ?_ ?_)))))))))
   ·rintro f w8 ⟨hm, hs9⟩
    unfold tZ at hm
    refine aA (aH (aB (aC (aG (v := Value.bool true) rfl) (aF (aA ?_)))))
    have c7 := Option.some.inj hm
    subst c7
    exact bB (aZ Tryz.results202 rfl ⟨rfl, hs9⟩)
   obtain ⟨e4, c8, hm⟩ := aI hm
   refine cD c8 (fun (a4 : Int) f w => f 0 = cF s_ ∧ f 3 = i64 a4 ∧ aN G K (L) w) ?_ ?_
   ·exact ⟨e2, rfl, b3⟩
   ·rintro a4 b4 f e5 a0 b5 ⟨a5, a6, b6⟩
    replace a0 : rD s_ a4 = some b4 := a0
    unfold rD at a0
    refine aH (aH (aB (aC (aD a6) (aC (aD a5) (aC (gK Tryz.runUnderlying9 rfl) (aC (cE rfl rfl) (aF (aA ?_))))))))
    rcases aJ a0 with ⟨a9, a0⟩ | ⟨a9, a0⟩
    ·refine aO a9 rfl (aX (aA (aH (cK (aH (cH (fun f w => ∃ (b0 : Bool), uA a4 b0 = some b4 ∧ f 0 = cF s_ ∧ f 3 = i64 a4 ∧ f 34 = Value.bool b0 ∧ aN G K (L) w) ?_ ?_))))))
     ·rintro f e6 ⟨b0, a0, c9, d0, b7, b8⟩
      unfold uA at a0
      refine aA ?_
      rcases aJ a0 with ⟨b1, a0⟩ | ⟨b1, a0⟩
      ·refine aO b1 b7 (aH (aB (aC (aG (v := Value.bool false) rfl) (aF (aA (bB (bN (aQ (aQ ?_)))))))))
       have d1 := b5 _ (Option.some.inj a0).symm
       subst d1
       have hm : (some false) = some R := hm
       have d2 := Option.some.inj hm
       subst d2
       exact bN (aQ (aQ (aZ Tryz.results202 rfl ⟨rfl, b8⟩)))
      ·exact aM b1 b7 (aX (bG (aA (aB (aC (aD d0) (aC (cI rfl rfl) (aC (aG (v := i64 (wr (a4 + 1))) rfl) (aF (aA ⟨wr (a4 + 1), (Option.some.inj a0).symm, c9, rfl, b8⟩)))))))))
     refine aB (aC (aD a5) (aC (aD a6) ?_))
     obtain ⟨b9, c0, a0⟩ := aI a0
     refine aC (aAq Tryz.runUnderlying9 rfl rfl c0) ?_
     obtain ⟨d3, d4, a0⟩ := aI a0
     refine aW (vs := [Value.int .u8 (b9.toNat : Int)]) Tryz.call236 rfl (aBp b6 d4) ?_
     rintro _ e7 ⟨rfl, c1⟩
     refine aC (dN rfl) (aC (aD (v := Value.bool (!d3)) rfl) ?_)
     rcases aJ a0 with ⟨a1, a0⟩ | ⟨a1, a0⟩
     ·refine bH (g := 28) a1 (by kernel_rfl) rfl (aC (aD a5) (bH (g := 28) a1 (by kernel_rfl) rfl (aC (aD a6) (bH (g := 28) a1 (by kernel_rfl) rfl (aC (aAq Tryz.runUnderlying9 rfl rfl c0) (bH (g := 28) a1 (by kernel_rfl) rfl ?_))))))
      obtain ⟨c2, d5, a0⟩ := aI a0
      refine aW (vs := [Value.int .u8 (b9.toNat : Int)]) Tryz.call237 rfl (aBq c1 d5) ?_
      rintro _ e8 ⟨rfl, d6⟩
      exact bH (g := 28) a1 (by kernel_rfl) rfl (aC (dN rfl) (aC (bK (v := Value.bool (!c2)) a1 rfl rfl) (aF (aA ⟨!c2, a0, a5, a6, rfl, d6⟩))))
     ·exact bA (g := 28) a1 (by kernel_rfl) rfl (bA (g := 28) a1 (by kernel_rfl) rfl (bA (g := 28) a1 (by kernel_rfl) rfl (bA (g := 28) a1 (by kernel_rfl) rfl (bA (g := 28) a1 (by kernel_rfl) rfl (aC (bM (v := Value.bool false) a1 rfl rfl) (aF (aA ⟨false, a0, a5, a6, rfl, c1⟩)))))))
    ·refine aM a9 rfl (bY (aY (aY ?_)))
     have d7 := b5 _ (Option.some.inj a0).symm
     subst d7
     have hm : (tZ) = some R := hm
     exact bO (aA ⟨hm, b6⟩)
 refine aB (aC (aD (v := cF s_) rfl) (aC (vN rfl rfl) (aC (aD (v := Value.bool (s_ == ([] : bF))) rfl) ?_)))
 rcases aJ hm with ⟨a3, hm⟩ | ⟨a3, hm⟩
 ·exact aV (g := 6) a3 (by kernel_rfl) rfl (aV (g := 6) a3 (by kernel_rfl) rfl (aV (g := 6) a3 (by kernel_rfl) rfl (aC (bK (v := Value.bool true) a3 rfl rfl) (aC (aD (v := Value.bool true) rfl) (aV (g := 11) (rfl : true = true) (by kernel_rfl) rfl (aV (g := 11) (rfl : true = true) (by kernel_rfl) rfl (aV (g := 11) (rfl : true = true) (by kernel_rfl) rfl (aV (g := 11) (rfl : true = true) (by kernel_rfl) rfl (aC (bK (v := Value.bool true) (rfl : true = true) rfl rfl) (aF (aA ⟨true, hm, rfl, rfl, hs⟩)))))))))))
 ·refine bJ (g := 6) a3 (by kernel_rfl) rfl (aC (aD (v := cF s_) rfl) (bJ (g := 6) a3 (by kernel_rfl) rfl (aC (gK Tryz.runUnderlying9 rfl) (bJ (g := 6) a3 (by kernel_rfl) rfl (aC (oH rfl rfl) (aC (bM (v := Value.bool (decide (10 < (s_.length : Int)))) a3 rfl rfl) (aC (aD (v := Value.bool (decide (10 < (s_.length : Int)))) rfl) ?_)))))))
  rcases aJ hm with ⟨a2, hm⟩ | ⟨a2, hm⟩
  ·exact aV (g := 11) a2 (by kernel_rfl) rfl (aV (g := 11) a2 (by kernel_rfl) rfl (aV (g := 11) a2 (by kernel_rfl) rfl (aV (g := 11) a2 (by kernel_rfl) rfl (aC (bK (v := Value.bool true) a2 rfl rfl) (aF (aA ⟨true, hm, rfl, rfl, hs⟩))))))
  ·refine bJ (g := 11) a2 (by kernel_rfl) rfl (aC (aD (v := cF s_) rfl) (bJ (g := 11) a2 (by kernel_rfl) rfl ?_))
   obtain ⟨d8, d9, hm⟩ := aI hm
   refine aC (aAq Tryz.runUnderlying9 rfl rfl d9) (bJ (g := 11) a2 (by kernel_rfl) rfl ?_)
   obtain ⟨c3, e0, hm⟩ := aI hm
   refine aW (vs := [Value.int .u8 (d8.toNat : Int)]) Tryz.call236 rfl (aBp hs e0) ?_
   rintro _ e9 ⟨rfl, e1⟩
   exact bJ (g := 11) a2 (by kernel_rfl) rfl (aC (dN rfl) (aC (bM (v := Value.bool (!c3)) a2 rfl rfl) (aF (aA ⟨!c3, hm, rfl, rfl, e1⟩))))
theorem aDX {s_ : bF} {R : Bool} (hs : aN G K (L) w)  (hm : wP s_ = some R) :
  Calls Tryz.prog 191 ([cF s_] : List Value).toArray w (fW fun v w' => v = Value.bool R ∧ aN G K (L) w') := by
 refine aU Tryz.func191 rfl (by kernel_rfl) (by show (1 : Nat) ≤ 9; decide) ?_
 unfold wP at hm
 refine aH (aB (aC (aG (v := Value.bool false) rfl) (aF (aA (aH (cH (fun f w => ∃ (v1 : Bool), qG v1 = some R ∧ f 2 = Value.bool v1 ∧ aN G K (L) w) ?_ ?_))))))
 ·rintro f w3 ⟨v1, hm, e2, a4⟩
  unfold qG at hm
  refine aA ?_
  have a5 := Option.some.inj hm
  subst a5
  exact bB (aZ Tryz.results191 rfl ⟨e2, a4⟩)
 refine aB (aC (aD (v := cF s_) rfl) ?_)
 obtain ⟨r6, q7, hm⟩ := aI hm
 refine aW (vs := [cF s_]) Tryz.call202 rfl (aBZ hs q7) ?_
 rintro _ w8 ⟨rfl, a2⟩
 refine aC (aD (v := Value.bool r6) rfl) ?_
 rcases aJ hm with ⟨a0, hm⟩ | ⟨a0, hm⟩
 ·exact bH (g := 5) a0 (by kernel_rfl) rfl (aC (aD (v := cF s_) rfl) (bH (g := 5) a0 (by kernel_rfl) rfl (aC (aCL rfl rfl) (aC (bK (v := Value.bool (!(s_ == ([116, 97, 117] : bF)))) a0 rfl rfl) (aC (aG (v := Value.bool (!(s_ == ([116, 97, 117] : bF)))) rfl) (aF (aA ⟨!(s_ == ([116, 97, 117] : bF)), hm, rfl, a2⟩)))))))
 ·exact bA (g := 5) a0 (by kernel_rfl) rfl (bA (g := 5) a0 (by kernel_rfl) rfl (aC (bM (v := Value.bool false) a0 rfl rfl) (aC (aG (v := Value.bool false) rfl) (aF (aA ⟨false, hm, rfl, a2⟩)))))
theorem aFe {s_ : bF} {R : Int} (hs : aN G K (L) w)  (hm : aAy s_ = some R) :
  Calls Tryz.prog 201 ([cF s_] : List Value).toArray w (fW fun v w' => v = i64 R ∧ aN G K (L) w') := by
 refine aU Tryz.func201 rfl (by kernel_rfl) (by show (1 : Nat) ≤ 17; decide) ?_
 unfold aAy at hm
 refine aH (aB (aC (aG (v := i64 0) rfl) (aF (aA (aH (aH (aB (aC (aG (v := i64 0) rfl) (aF (aA (bC (fun f w => xN s_ = some R ∧ f 0 = cF s_ ∧ aN G K (L) w) ?_ ?_)))))))))))
 ·rintro f w2 ⟨hm, e1, a9⟩
  unfold xN at hm
  refine aA (aH (aB (aC (aD e1) (aC (gK Tryz.runUnderlying9 rfl) (aC (aG (v := i64 (s_.length : Int)) rfl) (aF (aA ?_)))))))
  have b0 := Option.some.inj hm
  subst b0
  exact bB (aZ Tryz.results201 rfl ⟨rfl, a9⟩)
 obtain ⟨b8, b1, hm⟩ := aI hm
 refine cD b1 (fun (a1 : Int) f w => f 0 = cF s_ ∧ f 3 = i64 a1 ∧ aN G K (L) w) ?_ ?_
 ·exact ⟨rfl, rfl, hs⟩
 ·rintro a1 b2 f b9 a0 a7 ⟨a2, a3, a4⟩
  replace a0 : rE s_ a1 = some b2 := a0
  unfold rE at a0
  refine aH (aH (aB (aC (aD a3) (aC (aD a2) (aC (gK Tryz.runUnderlying9 rfl) (aC (cE rfl rfl) (aF (aA ?_))))))))
  rcases aJ a0 with ⟨a5, a0⟩ | ⟨a5, a0⟩
  ·refine aO a5 rfl (aX (aA (aH (cK (aH (aB (aC (aD a2) (aC (aD a3) ?_))))))))
   obtain ⟨c0, b3, a0⟩ := aI a0
   refine aC (aAq Tryz.runUnderlying9 rfl rfl b3) (aC (kC rfl rfl) (aF (aA ?_)))
   rcases aJ a0 with ⟨a6, a0⟩ | ⟨a6, a0⟩
   ·refine aO a6 rfl (aH (aB (aC (aD a3) (aC (aG (v := i64 a1) rfl) (aF (aA (bB (bN (aQ (aQ ?_))))))))))
    have b4 := a7 _ (Option.some.inj a0).symm
    subst b4
    have hm : (some a1) = some R := hm
    have b5 := Option.some.inj hm
    subst b5
    exact bN (aQ (aQ (aZ Tryz.results201 rfl ⟨rfl, a4⟩)))
   ·exact aM a6 rfl (aX (bG (aA (aB (aC (aD a3) (aC (cI rfl rfl) (aC (aG (v := i64 (wr (a1 + 1))) rfl) (aF (aA ⟨wr (a1 + 1), (Option.some.inj a0).symm, a2, rfl, a4⟩)))))))))
  ·refine aM a5 rfl (bY (aY (aY ?_)))
   have b6 := a7 _ (Option.some.inj a0).symm
   subst b6
   have hm : (xN s_) = some R := hm
   exact bO (aA ⟨hm, a2, a4⟩)
theorem aEI {s_ : bF} {by_ : UInt8} {R : (List bF)} (hs : aN G K (L) w)  (hm : yN s_ by_ = some R) :
  Calls Tryz.prog 203 ([cF s_, Value.int .u8 (by_.toNat : Int)] : List Value).toArray w (fW fun v w' => ∃ (ra0 : Option Addr) (rc0 : Nat), v = Value.slice ra0 R.length rc0 ∧ aN G K (aT 9 K ra0 rc0 R :: L) w') := by
 refine aU Tryz.func203 rfl (by kernel_rfl) (by show (2 : Nat) ≤ 35; decide) ?_
 unfold yN at hm
 refine aH (aB (aC (aG (v := Value.slice none 0 0) rfl) (aF (aA (aH (aB (eN (Kt := K) (xs := ([] : List bF)) (cs := []) (vs := []) cQ aCx rfl rfl hs rfl (by kernel_rfl) rfl rfl rfl trivial (fun a1 w2 (d3 : aN G K (aT 9 K a1 0 ([] : List bF) :: L) w2) => (aC (aG (v := Value.slice a1 ([] : List bF).length 0) rfl) (aF (aA (aH (aB (aC (aG (v := i64 0) rfl) (aF (aA (aH (aH (aB (aC (aG (v := i64 0) rfl) (aF (aA (bC (fun f w => ∃ (a8 : List bF) (b8 : Int) (a5 : Option Addr) (c6 : Nat), sD s_ a8 b8 = some R ∧ f 0 = cF s_ ∧ f 5 = Value.slice a5 a8.length c6 ∧ f 6 = i64 b8 ∧ aN G K (aT 9 K a5 c6 a8 :: L) w) ?_ ?_)))))))))))))))))))))))
 ·rintro f g3 ⟨a8, b8, a5, c6, hm, e8, e9, d6, d7⟩
  unfold sD at hm
  refine aA (aH (aB (aC (aD e9) (aC (aD e8) (aC (aD d6) ?_)))))
  obtain ⟨b2, d8, hm⟩ := aI hm
  refine aC (R_slSL Tryz.runUnderlying9 rfl rfl d8) (eN (Kt := K) (xs := ([b2] : List bF)) (cs := [cF b2]) (vs := [(0, cF b2)]) cQ aCx rfl rfl d7 rfl (by kernel_rfl) rfl rfl rfl ⟨rfl, trivial⟩ (fun d9 e0 (e1 : aN G K (aT 9 K d9 1 ([b2] : List bF) :: aT 9 K a5 c6 a8 :: L) e0) => ?_))
  obtain ⟨d0, e2, hm⟩ := aI hm
  refine iZ (i := 0) cQ Tryz.underlying22 aCx rfl rfl e1 rfl (Hp.le_refl _) (Hp.le_refl _) e2 rfl rfl rfl rfl (fun _ h => h) (fun b9 c0 e3 (e4 : aN G K (aT 9 K b9 c0 d0 :: L) e3) => (aC (aG (v := Value.slice b9 d0.length c0) rfl) (aF (aA ?_))))
  have e5 := Option.some.inj hm
  subst e5
  exact bB (aZ Tryz.results203 rfl ⟨b9, c0, rfl, e4⟩)
 obtain ⟨g4, e6, hm⟩ := aI hm
 refine cD e6 (fun (s : (List bF × Int × Int)) f w => match s with | (a2, a3, i48) => ∃ (a4 : Option Addr) (c46 : Nat), f 0 = cF s_ ∧ f 1 = Value.int .u8 (by_.toNat : Int) ∧ f 5 = Value.slice a4 a2.length c46 ∧ f 6 = i64 a3 ∧ f 7 = i64 i48 ∧ aN G K (aT 9 K a4 c46 a2 :: L) w) ?_ ?_
 ·exact ⟨a1, 0, rfl, rfl, rfl, rfl, rfl, d3⟩
 ·rintro ⟨a2, a3, i48⟩ d1 f g5 a0 e7 ⟨a4, c46, a6, c1, c2, c3, a7, c4⟩
  replace a0 : sE s_ by_ a2 a3 i48 = some d1 := a0
  unfold sE at a0
  refine aH (aH (aB (aC (aD a7) (aC (aD a6) (aC (gK Tryz.runUnderlying9 rfl) (aC (cE rfl rfl) (aF (aA ?_))))))))
  rcases aJ a0 with ⟨c5, a0⟩ | ⟨c5, a0⟩
  ·refine aO c5 rfl (aX (aA (aH (bC (fun f w => ∃ (a9 : List bF) (b3 : Int) (b4 : Option Addr) (b5 : Nat), oX i48 a9 b3 = some d1 ∧ f 0 = cF s_ ∧ f 1 = Value.int .u8 (by_.toNat : Int) ∧ f 5 = Value.slice b4 a9.length b5 ∧ f 6 = i64 b3 ∧ f 7 = i64 i48 ∧ aN G K (aT 9 K b4 b5 a9 :: L) w) ?_ ?_))))
   ·rintro f g6 ⟨a9, b3, b4, b5, a0, e76, e77, f0, f1, f2, f3⟩
    unfold oX at a0
    exact aA (aB (aC (aD f2) (aC (cI rfl rfl) (aC (aG (v := i64 (wr (i48 + 1))) rfl) (aF (aA ⟨(a9, b3, wr (i48 + 1)), (Option.some.inj a0).symm, b4, b5, e76, e77, f0, f1, rfl, f3⟩))))))
   refine aH (aB (aC (aD a6) (aC (aD a7) ?_)))
   obtain ⟨g7, f4, a0⟩ := aI a0
   refine aC (aAq Tryz.runUnderlying9 rfl rfl f4) (aC (aD c1) (aC (kC rfl rfl) (aF (aA ?_))))
   rcases aJ a0 with ⟨c85, a0⟩ | ⟨c85, a0⟩
   ·refine aO c85 rfl (aH (aB (aC (aD c2) (aC (aD a6) (aC (aD c3) (aC (aD a7) ?_))))))
    obtain ⟨b6, f5, a0⟩ := aI a0
    refine aC (R_slSLH Tryz.runUnderlying9 rfl rfl rfl f5) (eN (Kt := K) (xs := ([b6] : List bF)) (cs := [cF b6]) (vs := [(0, cF b6)]) cQ aCx rfl rfl c4 rfl (by kernel_rfl) rfl rfl rfl ⟨rfl, trivial⟩ (fun f6 f7 (f8 : aN G K (aT 9 K f6 1 ([b6] : List bF) :: aT 9 K a4 c46 a2 :: L) f7) => ?_))
    obtain ⟨c7, f9, a0⟩ := aI a0
    exact iZ (i := 0) cQ Tryz.underlying22 aCx rfl rfl f8 rfl (Hp.le_refl _) (Hp.le_refl _) f9 rfl rfl rfl rfl (fun _ h => h) (fun c8 c9 g0 (g1 : aN G K (aT 9 K c8 c9 c7 :: L) g0) => (aC (aG (v := Value.slice c8 c7.length c9) rfl) (aF (aA (aB (aC (aD a7) (aC (cI rfl rfl) (aC (aG (v := i64 (wr (i48 + 1))) rfl) (aF (bG (aA ⟨c7, wr (i48 + 1), c8, c9, a0, a6, c1, rfl, rfl, a7, g1⟩)))))))))))
   ·exact aM c85 rfl (aX (bG (aA ⟨a2, a3, a4, c46, a0, a6, c1, c2, c3, a7, c4⟩)))
  ·refine aM c5 rfl (bY (aY (aY ?_)))
   have g2 := e7 _ (Option.some.inj a0).symm
   subst g2
   have hm : (sD s_ a2 a3) = some R := hm
   exact bO (aA ⟨a2, a3, a4, c46, hm, a6, c2, c3, c4⟩)
theorem aDY {s_ : bF} {R : (Int × Bool)} (hs : aN G K (L) w)  (hm : tK s_ = some R) :
  Calls Tryz.prog 204 ([cF s_] : List Value).toArray w (fW fun v w' => v = Value.tuple #[i64 R.1, Value.bool R.2] ∧ aN G K (L) w') := by
 refine aU Tryz.func204 rfl (by kernel_rfl) (by show (1 : Nat) ≤ 62; decide) ?_
 unfold tK at hm
 refine aH (aB (aC (aG (v := i64 0) rfl) (aC (aG (v := Value.bool false) rfl) (aF (aA (aH (aB (aC (aG (v := i64 0) rfl) (aF (aA (aCK (fun f w => ∃ (a2 : Int), mX s_ a2 = some R ∧ f 0 = cF s_ ∧ f 4 = i64 a2 ∧ aN G K (L) w) ?_ ?_)))))))))))
 ·rintro f w4 ⟨a2, hm, e2, e3, b1⟩
  unfold mX at hm
  refine aH (aH (cH (fun f w => ∃ (v6 : Bool), jM s_ a2 v6 = some R ∧ f 0 = cF s_ ∧ f 4 = i64 a2 ∧ f 36 = Value.bool v6 ∧ aN G K (L) w) ?_ ?_))
  ·rintro f f5 ⟨v6, hm, e7, e8, e9, c5⟩
   unfold jM at hm
   refine aA ?_
   rcases aJ hm with ⟨b7, hm⟩ | ⟨b7, hm⟩
   ·refine aO b7 e9 (aH (aB (aC (aG (v := i64 0) rfl) (aC (aG (v := Value.bool false) rfl) (aF (aA ?_))))))
    have d9 := Option.some.inj hm
    subst d9
    exact bB (aQ (vM Tryz.results204 rfl rfl ⟨rfl, c5⟩))
   ·refine aM b7 e9 (aX (aA (aH (aB (aC (aG (v := i64 0) rfl) (aF (aA (aH (aH (aB (aC (aD e8) (aC (aG (v := i64 a2) rfl) (aF (aA (bC (fun f w => ∃ (a9 : Int), qH a2 a9 = some R ∧ f 4 = i64 a2 ∧ f 5 = i64 a9 ∧ aN G K (L) w) ?_ ?_)))))))))))))))
    ·rintro f f6 ⟨a9, hm, e0, c6, c7⟩
     unfold qH at hm
     refine aA (aCK (fun f w => ∃ (b2 : Int), uB b2 = some R ∧ f 5 = i64 b2 ∧ aN G K (L) w) ?_ ?_)
     ·rintro f f7 ⟨b2, hm, e1, hs22⟩
      unfold uB at hm
      refine aH (aB (aC (aD e1) (aC (aG (v := i64 b2) rfl) (aC (aG (v := Value.bool true) rfl) (aF (aA ?_))))))
      have hR23 := Option.some.inj hm
      subst hR23
      exact bB (vM Tryz.results204 rfl rfl ⟨rfl, hs22⟩)
     refine aH (aB (aC (aD e0) (aC (kC rfl rfl) (aF (aA ?_)))))
     rcases aJ hm with ⟨b8, hm⟩ | ⟨b8, hm⟩
     ·exact aO b8 rfl (aB (aC (aD c6) (aC (R_neg rfl) (aC (aG (v := i64 (wr (0 - a9))) rfl) (aF (aA ⟨wr (0 - a9), hm, rfl, c7⟩))))))
     ·exact aM b8 rfl (aX (aA ⟨a9, hm, c6, c7⟩))
    obtain ⟨f8, e4, hm⟩ := aI hm
    refine cD e4 (fun (s : (Int × Int)) f w => match s with | (a8, b0) => f 0 = cF s_ ∧ f 4 = i64 a2 ∧ f 5 = i64 a8 ∧ f 6 = i64 b0 ∧ aN G K (L) w) ?_ ?_
    ·exact ⟨e7, e8, rfl, rfl, c5⟩
    ·rintro ⟨a8, b0⟩ e5 f f9 a1 c8 ⟨b3, c9, d0, b4, d1⟩
     replace a1 : kV s_ a8 b0 = some e5 := a1
     unfold kV at a1
     refine aH (aH (aB (aC (aD b4) (aC (aD b3) (aC (gK Tryz.runUnderlying9 rfl) (aC (cE rfl rfl) (aF (aA ?_))))))))
     rcases aJ a1 with ⟨b9, a1⟩ | ⟨b9, a1⟩
     ·refine aO b9 rfl (aX (aA (aH (cK (aH (aH (aB (aC (aD b3) (aC (aD b4) ?_)))))))))
      obtain ⟨b5, d2, a1⟩ := aI a1
      refine aC (aAq Tryz.runUnderlying9 rfl rfl d2) ?_
      obtain ⟨g0, e6, a1⟩ := aI a1
      refine aW (vs := [Value.int .u8 (b5.toNat : Int)]) Tryz.call237 rfl (aBq d1 e6) ?_
      rintro _ g1 ⟨rfl, d3⟩
      refine aC (dN rfl) (aF (aA ?_))
      rcases aJ a1 with ⟨c0, a1⟩ | ⟨c0, a1⟩
      ·refine aO c0 rfl (aH (aB (aC (aG (v := i64 0) rfl) (aC (aG (v := Value.bool false) rfl) (aF (aA (bB (aQ (bN (aQ (aQ ?_)))))))))))
       have hq66 := c8 _ (Option.some.inj a1).symm
       subst hq66
       have hm : (some (0, false)) = some R := hm
       have hR67 := Option.some.inj hm
       subst hR67
       exact bN (aQ (aQ (vM Tryz.results204 rfl rfl ⟨rfl, d3⟩)))
      ·exact aM c0 rfl (aX (aA (aB (aC (aD d0) (aC (aDe rfl rfl) (aC (aD b3) (aC (aD b4) (aC (aAq Tryz.runUnderlying9 rfl rfl d2) (aC (R_u8sub' (a := b5) (b := (48 : UInt8)) rfl rfl) (aC (aHr Tryz.runUnderlying2 rfl ⟨_, Tryz.runUnderlying5⟩) (aC (cI rfl rfl) (aC (aG (v := i64 (wr ((wr (10 * a8)) + (wr ((b5 - (48 : UInt8)).toNat : Int))))) rfl) (aF (bG (aA (aB (aC (aD b4) (aC (cI rfl rfl) (aC (aG (v := i64 (wr (b0 + 1))) rfl) (aF (aA ⟨(wr ((wr (10 * a8)) + (wr ((b5 - (48 : UInt8)).toNat : Int))), wr (b0 + 1)), (Option.some.inj a1).symm, b3, c9, rfl, rfl, d3⟩)))))))))))))))))))))
     ·refine aM b9 rfl (bY (aY (aY ?_)))
      have hq68 := c8 _ (Option.some.inj a1).symm
      subst hq68
      have hm : (qH a2 a8) = some R := hm
      exact bO (aA ⟨a8, hm, c9, d0, d1⟩)
  refine aB (aC (aD e2) (aC (gK Tryz.runUnderlying9 rfl) (aC (aD e3) (aC (kC rfl rfl) (aC (aD (v := Value.bool ((s_.length : Int) == a2)) rfl) ?_)))))
  rcases aJ hm with ⟨a3, hm⟩ | ⟨a3, hm⟩
  ·exact aV (g := 19) a3 (by kernel_rfl) rfl (aV (g := 19) a3 (by kernel_rfl) rfl (aV (g := 19) a3 (by kernel_rfl) rfl (aV (g := 19) a3 (by kernel_rfl) rfl (aV (g := 19) a3 (by kernel_rfl) rfl (aC (bK (v := Value.bool true) a3 rfl rfl) (aC (aD (v := Value.bool true) rfl) (aV (g := 26) (rfl : true = true) (by kernel_rfl) rfl (aV (g := 26) (rfl : true = true) (by kernel_rfl) rfl (aV (g := 26) (rfl : true = true) (by kernel_rfl) rfl (aV (g := 26) (rfl : true = true) (by kernel_rfl) rfl (aV (g := 26) (rfl : true = true) (by kernel_rfl) rfl (fD (g := 31) rfl rfl (fD (g := 31) rfl rfl (fD (g := 31) rfl rfl (aV (g := 26) (rfl : true = true) (by kernel_rfl) rfl (aC (bK (v := Value.bool true) (rfl : true = true) rfl rfl) (aF (aA ⟨true, hm, e2, e3, rfl, b1⟩))))))))))))))))))
  ·refine bJ (g := 19) a3 (by kernel_rfl) rfl (aC (aD e2) (bJ (g := 19) a3 (by kernel_rfl) rfl (aC (gK Tryz.runUnderlying9 rfl) (bJ (g := 19) a3 (by kernel_rfl) rfl (aC (aD e3) (bJ (g := 19) a3 (by kernel_rfl) rfl (aC (lH rfl rfl) (bJ (g := 19) a3 (by kernel_rfl) rfl (aC (oH rfl rfl) (aC (bM (v := Value.bool (decide (18 < wr ((s_.length : Int) - a2)))) a3 rfl rfl) (aC (aD (v := Value.bool (decide (18 < wr ((s_.length : Int) - a2)))) rfl) ?_)))))))))))
   rcases aJ hm with ⟨a0, hm⟩ | ⟨a0, hm⟩
   ·exact aV (g := 26) a0 (by kernel_rfl) rfl (aV (g := 26) a0 (by kernel_rfl) rfl (aV (g := 26) a0 (by kernel_rfl) rfl (aV (g := 26) a0 (by kernel_rfl) rfl (aV (g := 26) a0 (by kernel_rfl) rfl (fD (g := 31) rfl rfl (fD (g := 31) rfl rfl (fD (g := 31) rfl rfl (aV (g := 26) a0 (by kernel_rfl) rfl (aC (bK (v := Value.bool true) a0 rfl rfl) (aF (aA ⟨true, hm, e2, e3, rfl, b1⟩)))))))))))
   ·refine bJ (g := 26) a0 (by kernel_rfl) rfl (aC (aD e2) (bJ (g := 26) a0 (by kernel_rfl) rfl (aC (aD e3) (bJ (g := 26) a0 (by kernel_rfl) rfl ?_))))
    obtain ⟨f0, f1, hm⟩ := aI hm
    refine aC (aAq Tryz.runUnderlying9 rfl rfl f1) (bJ (g := 26) a0 (by kernel_rfl) rfl (aC (kC rfl rfl) (bJ (g := 26) a0 (by kernel_rfl) rfl (aC (aD (v := Value.bool ((f0.toNat : Int) == 48)) rfl) ?_))))
    rcases aJ hm with ⟨a4, hm⟩ | ⟨a4, hm⟩
    ·exact bH (g := 31) a4 (by kernel_rfl) rfl (aC (aD e2) (bH (g := 31) a4 (by kernel_rfl) rfl (aC (gK Tryz.runUnderlying9 rfl) (bH (g := 31) a4 (by kernel_rfl) rfl (aC (oH rfl rfl) (bJ (g := 26) a0 (by kernel_rfl) rfl (aC (bK (v := Value.bool (decide (1 < (s_.length : Int)))) a4 rfl rfl) (aC (bM (v := Value.bool (decide (1 < (s_.length : Int)))) a0 rfl rfl) (aF (aA ⟨decide (1 < (s_.length : Int)), hm, e2, e3, rfl, b1⟩))))))))))
    ·exact bA (g := 31) a4 (by kernel_rfl) rfl (bA (g := 31) a4 (by kernel_rfl) rfl (bA (g := 31) a4 (by kernel_rfl) rfl (bJ (g := 26) a0 (by kernel_rfl) rfl (aC (bM (v := Value.bool false) a4 rfl rfl) (aC (bM (v := Value.bool false) a0 rfl rfl) (aF (aA ⟨false, hm, e2, e3, rfl, b1⟩)))))))
 refine aH (cH (fun f w => ∃ (c1 : Bool), mY s_ c1 = some R ∧ f 0 = cF s_ ∧ f 4 = i64 0 ∧ f 14 = Value.bool c1 ∧ aN G K (L) w) ?_ ?_)
 ·rintro f g2 ⟨c1, hm, d4, f2, d5, d6⟩
  unfold mY at hm
  refine aA ?_
  rcases aJ hm with ⟨c2, hm⟩ | ⟨c2, hm⟩
  ·exact aO c2 d5 (aB (aC (aG (v := i64 1) rfl) (aF (aA ⟨1, hm, d4, rfl, d6⟩))))
  ·exact aM c2 d5 (aX (aA ⟨0, hm, d4, f2, d6⟩))
 refine aB (aC (aD (v := cF s_) rfl) (aC (gK Tryz.runUnderlying9 rfl) (aC (oH rfl rfl) (aC (aD (v := Value.bool (decide (0 < (s_.length : Int)))) rfl) ?_))))
 rcases aJ hm with ⟨a5, hm⟩ | ⟨a5, hm⟩
 ·refine bH (g := 10) a5 (by kernel_rfl) rfl (aC (aD (v := cF s_) rfl) (bH (g := 10) a5 (by kernel_rfl) rfl ?_))
  obtain ⟨d7, f3, hm⟩ := aI hm
  exact aC (aAq Tryz.runUnderlying9 rfl rfl f3) (bH (g := 10) a5 (by kernel_rfl) rfl (aC (kC rfl rfl) (aC (bK (v := Value.bool ((d7.toNat : Int) == 45)) a5 rfl rfl) (aF (aA ⟨(d7.toNat : Int) == 45, hm, rfl, rfl, rfl, hs⟩)))))
 ·exact bA (g := 10) a5 (by kernel_rfl) rfl (bA (g := 10) a5 (by kernel_rfl) rfl (bA (g := 10) a5 (by kernel_rfl) rfl (aC (bM (v := Value.bool false) a5 rfl rfl) (aF (aA ⟨false, hm, rfl, rfl, rfl, hs⟩)))))
theorem aDZ {s_ : bF} {R : ((List Int) × Bool)} (hs : aN G K (L) w)  (hm : zV s_ = some R) :
  Calls Tryz.prog 151 ([cF s_] : List Value).toArray w (fW fun v w' => ∃ (ra0 : Option Addr) (rc0 : Nat), v = Value.tuple #[Value.slice ra0 R.1.length rc0, Value.bool R.2] ∧ aN G K (aT 2 K ra0 rc0 R.1 :: L) w') := by
 refine aU Tryz.func151 rfl (by kernel_rfl) (by show (1 : Nat) ≤ 70; decide) ?_
 unfold zV at hm
 refine aH (aB (aC (aG (v := Value.slice none 0 0) rfl) (aC (aG (v := Value.bool false) rfl) (aF (aA (aH (aB (aC (aD (v := cF s_) rfl) ?_))))))))
 obtain ⟨r1, q2, hm⟩ := aI hm
 refine aW (vs := [cF s_]) Tryz.call201 rfl (aFe hs q2) ?_
 rintro _ w3 ⟨rfl, d1⟩
 refine aC (aG (v := i64 r1) rfl) (aF (aA (aH (aH (aB (aC (aD (v := i64 r1) rfl) (aC (aD (v := cF s_) rfl) (aC (gK Tryz.runUnderlying9 rfl) (aC (kC rfl rfl) (aF (aA ?_)))))))))))
 rcases aJ hm with ⟨c5, hm⟩ | ⟨c5, hm⟩
 ·refine aO c5 rfl (aH (aB (eN (Kt := K) (xs := ([] : List Int)) (cs := []) (vs := []) cT vJ rfl rfl d1 rfl (by kernel_rfl) rfl rfl rfl trivial (fun a6 w7 (e6 : aN G K (aT 2 K a6 0 ([] : List Int) :: L) w7) => (aC (aD (v := cF s_) rfl) ?_)))))
  obtain ⟨r9, e8, hm⟩ := aI hm
  refine aW (vs := [cF s_]) Tryz.call202 rfl (aBZ e6 e8) ?_
  rintro _ i8 ⟨rfl, e9⟩
  refine aC (aG (v := Value.slice a6 ([] : List Int).length 0) rfl) (aC (aG (v := Value.bool r9) rfl) (aF (aA ?_)))
  have f0 := Option.some.inj hm
  subst f0
  exact bB (aQ (vM Tryz.results151 rfl rfl ⟨a6, 0, rfl, e9⟩))
 ·refine aM c5 rfl (aX (aA (aH (aH (cH (fun f w => ∃ (c0 : Bool), nA s_ r1 c0 = some R ∧ f 0 = cF s_ ∧ f 4 = i64 r1 ∧ f 31 = Value.bool c0 ∧ aN G K (L) w) ?_ ?_)))))
  ·rintro f i9 ⟨c0, hm, d2, f1, d3, d4⟩
   unfold nA at hm
   refine aA ?_
   rcases aJ hm with ⟨c1, hm⟩ | ⟨c1, hm⟩
   ·refine aO c1 d3 (aH (aB (aC (aG (v := Value.slice none 0 0) rfl) (aC (aG (v := Value.bool false) rfl) (aF (aA ?_))))))
    have f2 := aN.nil (α := Int) d4 2 K
    have f3 := Option.some.inj hm
    subst f3
    exact bB (aQ (vM Tryz.results151 rfl rfl ⟨none, 0, rfl, f2⟩))
   ·refine aM c1 d3 (aX (aA (aH (aB (aC (aD d2) (aC (aD f1) (aC (cI rfl rfl) (aC (aD d2) (aC (gK Tryz.runUnderlying9 rfl) (aC (lH rfl rfl) ?_))))))))))
    obtain ⟨f4, f5, hm⟩ := aI hm
    refine aC (R_slSLH Tryz.runUnderlying9 rfl rfl rfl f5) ?_
    obtain ⟨a3, f6, hm⟩ := aI hm
    refine aW (vs := [cF f4, Value.int .u8 44]) Tryz.call203 rfl (aEI (by_ := (44 : UInt8)) d4 f6) ?_
    rintro _ j0 ⟨a27, a7, rfl, f7⟩
    refine aC (aG (v := Value.slice a27 a3.length a7) rfl) (aF (aA (aH (aB (eN (Kt := K) (xs := ([] : List Int)) (cs := []) (vs := []) cT vJ rfl rfl f7 rfl (by kernel_rfl) rfl rfl rfl trivial (fun c2 f8 (f9 : aN G K (aT 2 K c2 0 ([] : List Int) :: aT 9 K a27 a7 a3 :: L) f8) => (aC (aG (v := Value.slice c2 ([] : List Int).length 0) rfl) (aF (aA (aH (aH (aB (aC (aG (v := i64 0) rfl) (aF (aA (bC (fun f w => ∃ (a8 : List Int) (b3 : Option Addr) (b4 : Nat), qI a8 = some R ∧ f 6 = Value.slice b3 a8.length b4 ∧ aN G K (aT 2 K b3 b4 a8 :: L) w) ?_ ?_))))))))))))))))
    ·rintro f j1 ⟨a8, b3, b4, hm, d5, g0⟩
     unfold qI at hm
     refine aA (aH (aB (aC (aD d5) (aC (aD d5) (aC (bU (len := a8.length) cT rfl) (aC (aDf rfl rfl) (aC (aG (v := Value.slice b3 a8.length b4) rfl) (aC (aG (v := Value.bool (decide ((a8.length : Int) ≤ 2))) rfl) (aF (aA ?_))))))))))
     have g1 := Option.some.inj hm
     subst g1
     exact bB (vM Tryz.results151 rfl rfl ⟨b3, b4, rfl, g0⟩)
    obtain ⟨j2, g2, hm⟩ := aI hm
    refine cD g2 (fun (s : (List Int × Int)) f w => match s with | (a4, a9) => ∃ (b0 : Option Addr) (b1 : Nat), f 5 = Value.slice a27 a3.length a7 ∧ f 6 = Value.slice b0 a4.length b1 ∧ f 7 = i64 a9 ∧ aN G K (aT 2 K b0 b1 a4 :: aT 9 K a27 a7 a3 :: L) w) ?_ ?_
    ·exact ⟨c2, 0, rfl, rfl, rfl, f9⟩
    ·rintro ⟨a4, a9⟩ d6 f j3 a0 d7 ⟨b0, b1, b5, c3, b6, b7⟩
     replace a0 : mZ a3 a4 a9 = some d6 := a0
     unfold mZ at a0
     refine aH (aH (aB (aC (aD b6) (aC (aD b5) (aC (bU (len := a3.length) cQ rfl) (aC (cE rfl rfl) (aF (aA ?_))))))))
     rcases aJ a0 with ⟨c4, a0⟩ | ⟨c4, a0⟩
     ·refine aO c4 rfl (aX (aA (aH (cK (aH (aB (aC (aD b5) (aC (aD b6) ?_))))))))
      obtain ⟨g3, q78, a0⟩ := aI a0
      have g4 := dL b7 (i := 1) rfl q78
      refine aC (eT cQ rfl g4 rfl rfl rfl q78) (aC (kD (t := 0) oI b7 (i := 1) rfl q78 rfl rfl rfl) ?_)
      obtain ⟨a2, g5, a0⟩ := aI a0
      refine aW (vs := [cF g3]) Tryz.call204 rfl (aDY b7 g5) ?_
      rintro _ j4 ⟨rfl, d8⟩
      refine aC (aD (v := Value.tuple #[i64 a2.1, Value.bool a2.2]) rfl) (aC (cZ rfl rfl) (aC (cZ rfl rfl) (aC (aG (v := i64 a2.1) rfl) (aC (aG (v := Value.bool a2.2) rfl) (aF (aA (aH (aH (cH (fun f w => ∃ (c6 : Bool), qJ a4 a9 a2 c6 = some d6 ∧ f 5 = Value.slice a27 a3.length a7 ∧ f 6 = Value.slice b0 a4.length b1 ∧ f 7 = i64 a9 ∧ f 8 = i64 a2.1 ∧ f 61 = Value.bool c6 ∧ aN G K (aT 2 K b0 b1 a4 :: aT 9 K a27 a7 a3 :: L) w) ?_ ?_)))))))))
      ·rintro f j5 ⟨c6, a0, g6, g7, g8, g9, d9, e0⟩
       unfold qJ at a0
       refine aA ?_
       rcases aJ a0 with ⟨c7, a0⟩ | ⟨c7, a0⟩
       ·refine aO c7 d9 (aH (aB (aC (aG (v := Value.slice none 0 0) rfl) (aC (aG (v := Value.bool false) rfl) (aF (aA (bB (aQ (bN (aQ (aQ ?_)))))))))))
        have h0 := d7 _ (Option.some.inj a0).symm
        subst h0
        have hm : (some ([], false)) = some R := hm
        have h1 := aN.nil (α := Int) e0 2 K
        have h2 := Option.some.inj hm
        subst h2
        exact bN (aQ (aQ (vM Tryz.results151 rfl rfl ⟨none, 0, rfl, (aN.arr 3 [0] h1 rfl)⟩)))
       ·refine aM c7 d9 (aX (aA (aB (aC (aD g7) (aC (aD g9) (eN (Kt := K) (xs := ([a2.1] : List Int)) (cs := [i64 a2.1]) (vs := [(0, i64 a2.1)]) cT vJ rfl rfl e0 rfl (by kernel_rfl) rfl rfl rfl ⟨rfl, trivial⟩ (fun h3 h4 (h5 : aN G K (aT 2 K h3 1 ([a2.1] : List Int) :: aT 2 K b0 b1 a4 :: aT 9 K a27 a7 a3 :: L) h4) => ?_)))))))
        obtain ⟨c8, h6, a0⟩ := aI a0
        exact iZ (i := 0) cT Tryz.underlying31 vJ rfl rfl h5 rfl (Hp.le_refl _) (Hp.le_refl _) h6 rfl rfl rfl rfl (fun _ h => h) (fun c9 d0 h7 (h8 : aN G K (aT 2 K c9 d0 c8 :: aT 9 K a27 a7 a3 :: L) h7) => (aC (aG (v := Value.slice c9 c8.length d0) rfl) (aF (bG (aA (aB (aC (aD g8) (aC (cI rfl rfl) (aC (aG (v := i64 (wr (a9 + 1))) rfl) (aF (aA ⟨(c8, wr (a9 + 1)), (Option.some.inj a0).symm, c9, d0, g6, rfl, rfl, h8⟩)))))))))))
      refine aB (aC (aD (v := Value.bool a2.2) rfl) (aC (dN rfl) (aC (aD (v := Value.bool (!a2.2)) rfl) ?_)))
      rcases aJ a0 with ⟨a5, a0⟩ | ⟨a5, a0⟩
      ·exact aV (g := 57) a5 (by kernel_rfl) rfl (aV (g := 57) a5 (by kernel_rfl) rfl (aV (g := 57) a5 (by kernel_rfl) rfl (aC (bK (v := Value.bool true) a5 rfl rfl) (aF (aA ⟨true, a0, b5, c3, b6, rfl, rfl, d8⟩)))))
      ·refine bJ (g := 57) a5 (by kernel_rfl) rfl (aC (aD (v := i64 a2.1) rfl) (bJ (g := 57) a5 (by kernel_rfl) rfl ?_))
       obtain ⟨e1, h9, a0⟩ := aI a0
       refine aW (vs := [i64 a2.1, i64 0, i64 63]) Tryz.call109 rfl (rP d8 h9) ?_
       rintro _ j6 ⟨rfl, i0⟩
       exact bJ (g := 57) a5 (by kernel_rfl) rfl (aC (dN rfl) (aC (bM (v := Value.bool (!e1)) a5 rfl rfl) (aF (aA ⟨!e1, a0, b5, c3, b6, rfl, rfl, i0⟩))))
     ·refine aM c4 rfl (bY (aY (aY ?_)))
      have i1 := d7 _ (Option.some.inj a0).symm
      subst i1
      have hm : (qI a4) = some R := hm
      exact bO (aA ⟨a4, b0, b1, hm, c3, (aN.arr 2 [0] b7 rfl)⟩)
  refine aB (aC (aD (v := cF s_) rfl) (aC (aD (v := i64 r1) rfl) ?_))
  obtain ⟨i2, i3, hm⟩ := aI hm
  refine aC (R_slSH Tryz.runUnderlying9 rfl rfl i3) ?_
  obtain ⟨i4, i5, hm⟩ := aI hm
  refine aW (vs := [cF i2]) Tryz.call191 rfl (aDX d1 i5) ?_
  rintro _ j7 ⟨rfl, e2⟩
  refine aC (dN rfl) (aC (aD (v := Value.bool (!i4)) rfl) ?_)
  rcases aJ hm with ⟨a1, hm⟩ | ⟨a1, hm⟩
  ·exact aV (g := 24) a1 (by kernel_rfl) rfl (aV (g := 24) a1 (by kernel_rfl) rfl (aV (g := 24) a1 (by kernel_rfl) rfl (aV (g := 24) a1 (by kernel_rfl) rfl (aV (g := 24) a1 (by kernel_rfl) rfl (aV (g := 24) a1 (by kernel_rfl) rfl (aC (bK (v := Value.bool true) a1 rfl rfl) (aF (aA ⟨true, hm, rfl, rfl, rfl, e2⟩))))))))
  ·refine bJ (g := 24) a1 (by kernel_rfl) rfl (aC (aD (v := cF s_) rfl) (bJ (g := 24) a1 (by kernel_rfl) rfl (aC (aD (v := cF s_) rfl) (bJ (g := 24) a1 (by kernel_rfl) rfl (aC (gK Tryz.runUnderlying9 rfl) (bJ (g := 24) a1 (by kernel_rfl) rfl (aC (lH rfl rfl) (bJ (g := 24) a1 (by kernel_rfl) rfl ?_))))))))
   obtain ⟨e3, i6, hm⟩ := aI hm
   exact aC (aAq Tryz.runUnderlying9 rfl rfl i6) (bJ (g := 24) a1 (by kernel_rfl) rfl (aC (lS rfl rfl) (aC (bM (v := Value.bool ((e3.toNat : Int) != 41)) a1 rfl rfl) (aF (aA ⟨(e3.toNat : Int) != 41, hm, rfl, rfl, rfl, e2⟩)))))
theorem aBr {s_ : bF} {R : Bool} (hs : aN G K (L) w)  (hm : vP s_ = some R) :
  Calls Tryz.prog 112 ([cF s_] : List Value).toArray w (fW fun v w' => v = Value.bool R ∧ aN G K (L) w') := by
 refine aU Tryz.func112 rfl (by kernel_rfl) (by show (1 : Nat) ≤ 11; decide) ?_
 unfold vP at hm
 refine aH (aB (aC (aG (v := Value.bool false) rfl) (aF (aA (aH (aB (aC (aD (v := cF s_) rfl) ?_)))))))
 obtain ⟨r1, q2, hm⟩ := aI hm
 refine aW (vs := [cF s_]) Tryz.call151 rfl (aDZ hs q2) ?_
 rintro _ w5 ⟨a3, c4, rfl, a4⟩
 refine aC (aD (v := Value.tuple #[Value.slice a3 r1.1.length c4, Value.bool r1.2]) rfl) (aC (cZ rfl rfl) (aC (cZ rfl rfl) (aC (aG (v := Value.slice a3 r1.1.length c4) rfl) (aC (aG (v := Value.bool r1.2) rfl) (aF (aA (aH (aB (aC (aD (v := Value.bool r1.2) rfl) (aC (aG (v := Value.bool r1.2) rfl) (aF (aA ?_))))))))))))
 have a5 := Option.some.inj hm
 subst a5
 exact bB (aZ Tryz.results112 rfl ⟨rfl, (aN.arr 1 [] a4 rfl)⟩)
theorem aEJ {list : (List bF)} {R : Bool} (hs : aN G K (L) w) (h3 : bX K a1 c2 list) (hm : yO list = some R) :
  Calls Tryz.prog 110 ([Value.slice a1 list.length c2] : List Value).toArray w (fW fun v w' => v = Value.bool R ∧ aN G K (L) w') := by
 refine aU Tryz.func110 rfl (by kernel_rfl) (by show (1 : Nat) ≤ 53; decide) ?_
 unfold yO at hm
 refine aH (aB (aC (aG (v := Value.bool false) rfl) (aF (aA (aH (aH (cH (fun f w => ∃ (v4 : Bool), oZ list v4 = some R ∧ f 0 = Value.slice a1 list.length c2 ∧ f 17 = Value.bool v4 ∧ aN G K (L) w) ?_ ?_)))))))
 ·rintro f w7 ⟨v4, hm, e5, e6, c1⟩
  unfold oZ at hm
  refine aA ?_
  rcases aJ hm with ⟨c9, hm⟩ | ⟨c9, hm⟩
  ·refine aO c9 e6 (aH (aB (aC (aG (v := Value.bool false) rfl) (aF (aA ?_)))))
   have d2 := Option.some.inj hm
   subst d2
   exact bB (aQ (aZ Tryz.results110 rfl ⟨rfl, c1⟩))
  ·refine aM c9 e6 (aX (aA (aH (aH (aB (aC (aG (v := i64 1) rfl) (aF (aA (bC (fun f w => wC = some R ∧ aN G K (L) w) ?_ ?_)))))))))
   ·rintro f f2 ⟨hm, d3⟩
    unfold wC at hm
    refine aA (aH (aB (aC (aG (v := Value.bool true) rfl) (aF (aA ?_)))))
    have d4 := Option.some.inj hm
    subst d4
    exact bB (aZ Tryz.results110 rfl ⟨rfl, d3⟩)
   obtain ⟨f3, d5, hm⟩ := aI hm
   refine cD d5 (fun (b0 : Int) f w => f 0 = Value.slice a1 list.length c2 ∧ f 3 = i64 b0 ∧ aN G K (L) w) ?_ ?_
   ·exact ⟨e5, rfl, c1⟩
   ·rintro b0 c3 f f4 a2 c4 ⟨a8, a7, a0⟩
    replace a2 : oY list b0 = some c3 := a2
    unfold oY at a2
    refine aH (aH (aB (aC (aD a7) (aC (aD a8) (aC (bU (len := list.length) cQ rfl) (aC (cE rfl rfl) (aF (aA ?_))))))))
    rcases aJ a2 with ⟨b5, a2⟩ | ⟨b5, a2⟩
    ·refine aO b5 rfl (aX (aA (aH (cK (aH (cH (fun f w => ∃ (b6 : Bool), mJ b0 b6 = some c3 ∧ f 0 = Value.slice a1 list.length c2 ∧ f 3 = i64 b0 ∧ f 52 = Value.bool b6 ∧ aN G K (L) w) ?_ ?_))))))
     ·rintro f f5 ⟨b6, a2, d6, d7, c5, c6⟩
      unfold mJ at a2
      refine aA ?_
      rcases aJ a2 with ⟨b7, a2⟩ | ⟨b7, a2⟩
      ·refine aO b7 c5 (aH (aB (aC (aG (v := Value.bool false) rfl) (aF (aA (bB (bN (aQ (aQ ?_)))))))))
       have d8 := c4 _ (Option.some.inj a2).symm
       subst d8
       have hm : (some false) = some R := hm
       have d9 := Option.some.inj hm
       subst d9
       exact bN (aQ (aQ (aZ Tryz.results110 rfl ⟨rfl, c6⟩)))
      ·exact aM b7 c5 (aX (bG (aA (aB (aC (aD d7) (aC (cI rfl rfl) (aC (aG (v := i64 (wr (b0 + 1))) rfl) (aF (aA ⟨wr (b0 + 1), (Option.some.inj a2).symm, d6, rfl, c6⟩)))))))))
     refine cW (C := fun w' => aN G K (L) w') bR (by kernel_rfl) (aN.mono a0 (dB.drew _)) (aS (fun _ a0 => aD a8) (aS (fun _ a0 => aD a7) ?_))
     obtain ⟨b1, b2, a2⟩ := aI a2
     refine aS (fun _ a0 => cU cQ rfl h3 rfl rfl rfl b2) ?_
     obtain ⟨f6, b8, e0⟩ := bX.el (sz := 1) rfl h3 b2
     cases e0
     refine aS (fun _ a0 => bL (t := 0) oI a0 b8 rfl rfl) ?_
     obtain ⟨c7, e1, a2⟩ := aI a2
     refine lC (vs := [cF b1]) (v := Value.bool c7) Tryz.call112 rfl (fun _ a0 => (aBr a0 e1)) (aS (fun _ a0 => dN rfl) (aS (fun _ a0 => aD (v := Value.bool (!c7)) rfl) ?_))
     rcases aJ a2 with ⟨a4, a2⟩ | ⟨a4, a2⟩
     ·refine aR (g := 30) rfl rfl (bQ a4) (aR (g := 30) rfl rfl (bQ a4) (aR (g := 30) rfl rfl (bQ a4) (aR (g := 30) rfl rfl (bQ a4) (aR (g := 30) rfl rfl (bQ a4) (aS (fun _ a0 => bK (v := Value.bool true) a4 rfl rfl) (aS (fun _ a0 => aD (v := Value.bool true) rfl) (aR (g := 37) rfl rfl (bQ (rfl : true = true)) (aR (g := 37) rfl rfl (bQ (rfl : true = true)) (aR (g := 37) rfl rfl (bQ (rfl : true = true)) (bE (g := 40) rfl rfl (bE (g := 40) rfl rfl (bE (g := 40) rfl rfl (bE (g := 40) rfl rfl (bE (g := 40) rfl rfl (bE (g := 40) rfl rfl (bE (g := 40) rfl rfl (bE (g := 40) rfl rfl (bE (g := 40) rfl rfl (bE (g := 40) rfl rfl (aR (g := 37) rfl rfl (bQ (rfl : true = true)) (aS (fun _ a0 => bK (v := Value.bool true) (rfl : true = true) rfl rfl) (dD (fun f7 e2 => ?_)))))))))))))))))))))))
      exact aA ⟨true, a2, a8, a7, rfl, e2⟩
     ·refine bD (g := 30) rfl rfl (bP a4) (aS (fun _ a0 => aD a8) (bD (g := 30) rfl rfl (bP a4) (aS (fun _ a0 => aD a7) (bD (g := 30) rfl rfl (bP a4) (aS (fun _ a0 => cU cQ rfl h3 rfl rfl rfl b2) (bD (g := 30) rfl rfl (bP a4) (aS (fun _ a0 => bL (t := 0) oI a0 b8 rfl rfl) (bD (g := 30) rfl rfl (bP a4) (aS (fun _ a0 => vN rfl rfl) (aS (fun _ a0 => bM (v := Value.bool (b1 == ([116, 97, 117] : bF))) a4 rfl rfl) (aS (fun _ a0 => aD (v := Value.bool (b1 == ([116, 97, 117] : bF))) rfl) ?_)))))))))))
      rcases aJ a2 with ⟨a5, a2⟩ | ⟨a5, a2⟩
      ·exact aR (g := 37) rfl rfl (bQ a5) (aR (g := 37) rfl rfl (bQ a5) (aR (g := 37) rfl rfl (bQ a5) (bE (g := 40) rfl rfl (bE (g := 40) rfl rfl (bE (g := 40) rfl rfl (bE (g := 40) rfl rfl (bE (g := 40) rfl rfl (bE (g := 40) rfl rfl (bE (g := 40) rfl rfl (bE (g := 40) rfl rfl (bE (g := 40) rfl rfl (bE (g := 40) rfl rfl (aR (g := 37) rfl rfl (bQ a5) (aS (fun _ a0 => bK (v := Value.bool true) a5 rfl rfl) (dD (fun f8 e3 => (aA ⟨true, a2, a8, a7, rfl, e3⟩)))))))))))))))))
      ·refine bD (g := 37) rfl rfl (bP a5) (aS (fun _ a0 => aD a7) (bD (g := 37) rfl rfl (bP a5) (aS (fun _ a0 => oH rfl rfl) (bD (g := 37) rfl rfl (bP a5) (aS (fun _ a0 => aD (v := Value.bool (decide (1 < b0))) rfl) ?_)))))
       rcases aJ a2 with ⟨a3, a2⟩ | ⟨a3, a2⟩
       ·refine bD (g := 40) rfl rfl a3 (aS (fun _ a0 => aD a8) (bD (g := 40) rfl rfl a3 (aS (fun _ a0 => aD a7) (bD (g := 40) rfl rfl a3 (aS (fun _ a0 => lH rfl rfl) (bD (g := 40) rfl rfl a3 ?_))))))
        obtain ⟨b9, c8, a2⟩ := aI a2
        refine aS (fun _ a0 => cU cQ rfl h3 rfl rfl rfl c8) ?_
        obtain ⟨f9, e4, hr68⟩ := bX.el (sz := 1) rfl h3 c8
        cases hr68
        exact bD (g := 40) rfl rfl a3 (aS (fun _ a0 => bL (t := 0) oI a0 e4 rfl rfl) (bD (g := 40) rfl rfl a3 (aS (fun _ a0 => aD a8) (bD (g := 40) rfl rfl a3 (aS (fun _ a0 => aD a7) (bD (g := 40) rfl rfl a3 (aS (fun _ a0 => cU cQ rfl h3 rfl rfl rfl b2) (bD (g := 40) rfl rfl a3 (aS (fun _ a0 => bL (t := 0) oI a0 b8 rfl rfl) (bD (g := 40) rfl rfl a3 (aS (fun _ a0 => R_geqS rfl rfl) (bD (g := 37) rfl rfl (bP a5) (aS (fun _ a0 => bK (v := Value.bool (!vI b9 b1)) a3 rfl rfl) (aS (fun _ a0 => bM (v := Value.bool (!vI b9 b1)) a5 rfl rfl) (dD (fun g0 hs70 => (aA ⟨!vI b9 b1, a2, a8, a7, rfl, hs70⟩)))))))))))))))))
       ·exact aR (g := 40) rfl rfl (bV a3) (aR (g := 40) rfl rfl (bV a3) (aR (g := 40) rfl rfl (bV a3) (aR (g := 40) rfl rfl (bV a3) (aR (g := 40) rfl rfl (bV a3) (aR (g := 40) rfl rfl (bV a3) (aR (g := 40) rfl rfl (bV a3) (aR (g := 40) rfl rfl (bV a3) (aR (g := 40) rfl rfl (bV a3) (aR (g := 40) rfl rfl (bV a3) (bD (g := 37) rfl rfl (bP a5) (aS (fun _ a0 => bM (v := Value.bool false) a3 rfl rfl) (aS (fun _ a0 => bM (v := Value.bool false) a5 rfl rfl) (dD (fun g1 e7 => (aA ⟨false, a2, a8, a7, rfl, e7⟩)))))))))))))))
    ·refine aM b5 rfl (bY (aY (aY ?_)))
     have e8 := c4 _ (Option.some.inj a2).symm
     subst e8
     have hm : (wC) = some R := hm
     exact bO (aA ⟨hm, a0⟩)
 refine aB (aC (aD (v := Value.slice a1 list.length c2) rfl) (aC (bU (len := list.length) cQ rfl) (aC (kC rfl rfl) (aC (aD (v := Value.bool ((list.length : Int) == 0)) rfl) ?_))))
 rcases aJ hm with ⟨a9, hm⟩ | ⟨a9, hm⟩
 ·exact aV (g := 7) a9 (by kernel_rfl) rfl (aV (g := 7) a9 (by kernel_rfl) rfl (aV (g := 7) a9 (by kernel_rfl) rfl (aC (bK (v := Value.bool true) a9 rfl rfl) (aC (aD (v := Value.bool true) rfl) (aV (g := 12) (rfl : true = true) (by kernel_rfl) rfl (aV (g := 12) (rfl : true = true) (by kernel_rfl) rfl (aV (g := 12) (rfl : true = true) (by kernel_rfl) rfl (aV (g := 12) (rfl : true = true) (by kernel_rfl) rfl (aC (bK (v := Value.bool true) (rfl : true = true) rfl rfl) (aF (aA ⟨true, hm, rfl, rfl, hs⟩)))))))))))
 ·refine bJ (g := 7) a9 (by kernel_rfl) rfl (aC (aD (v := Value.slice a1 list.length c2) rfl) (bJ (g := 7) a9 (by kernel_rfl) rfl (aC (bU (len := list.length) cQ rfl) (bJ (g := 7) a9 (by kernel_rfl) rfl (aC (oH rfl rfl) (aC (bM (v := Value.bool (decide (12 < (list.length : Int)))) a9 rfl rfl) (aC (aD (v := Value.bool (decide (12 < (list.length : Int)))) rfl) ?_)))))))
  rcases aJ hm with ⟨a6, hm⟩ | ⟨a6, hm⟩
  ·exact aV (g := 12) a6 (by kernel_rfl) rfl (aV (g := 12) a6 (by kernel_rfl) rfl (aV (g := 12) a6 (by kernel_rfl) rfl (aV (g := 12) a6 (by kernel_rfl) rfl (aC (bK (v := Value.bool true) a6 rfl rfl) (aF (aA ⟨true, hm, rfl, rfl, hs⟩))))))
  ·refine bJ (g := 12) a6 (by kernel_rfl) rfl (aC (aD (v := Value.slice a1 list.length c2) rfl) (bJ (g := 12) a6 (by kernel_rfl) rfl ?_))
   obtain ⟨e79, d0, hm⟩ := aI hm
   refine aC (cU cQ rfl h3 rfl rfl rfl d0) ?_
   obtain ⟨g2, e9, f0⟩ := bX.el (sz := 1) rfl h3 d0
   cases f0
   exact bJ (g := 12) a6 (by kernel_rfl) rfl (aC (bL (t := 0) oI hs e9 rfl rfl) (bJ (g := 12) a6 (by kernel_rfl) rfl (aC (aCL rfl rfl) (aC (bM (v := Value.bool (!(e79 == ([116, 97, 117] : bF)))) a6 rfl rfl) (aF (aA ⟨!(e79 == ([116, 97, 117] : bF)), hm, rfl, rfl, hs⟩))))))
theorem aFf {a : Edge} {k2 : Nat} {b : Edge} {k5 : Nat} {R : Bool} (hs : aN G K (L) w) (h3 : fN K a1 k2 [i64 a.From, i64 a.Label, i64 a.To]) (h6 : fN K a4 k5 [i64 b.From, i64 b.Label, i64 b.To]) (hm : aAz a b = some R) :
  Calls Tryz.prog 111 ([bZ a1 k2, bZ a4 k5] : List Value).toArray w (fW fun v w' => v = Value.bool R ∧ aN G K (L) w') := by
 refine aU Tryz.func111 rfl (by kernel_rfl) (by show (2 : Nat) ≤ 50; decide) ?_
 unfold aAz at hm
 refine aH (aB (aC (aG (v := Value.bool false) rfl) (aF (aA (aH (aH (cW (C := fun w' => aN G K (L) w') bR (by kernel_rfl) (aN.mono hs (dB.drew _)) (aS (fun _ hs => aD (v := bZ a1 k2) rfl) (aS (fun _ hs => cS rfl h3) (aS (fun _ hs => bW (k' := k2 + 0) iB rfl h3 rfl) (aS (fun _ hs => bL (t := 0) cM hs h3 rfl rfl) (aS (fun _ hs => aD (v := bZ a4 k5) rfl) (aS (fun _ hs => cS rfl h6) (aS (fun _ hs => bW (k' := k5 + 0) iB rfl h6 rfl) (aS (fun _ hs => bL (t := 0) cM hs h6 rfl rfl) (aS (fun _ hs => lS rfl rfl) (dD (fun w9 a2 => (aA ?_)))))))))))))))))))
 rcases aJ hm with ⟨a3, hm⟩ | ⟨a3, hm⟩
 ·refine aO a3 rfl (aH (cW (C := fun w' => aN G K (L) w') bR (by kernel_rfl) (aN.mono a2 (dB.drew _)) (aS (fun _ a2 => aD (v := bZ a1 k2) rfl) (aS (fun _ a2 => cS rfl h3) (aS (fun _ a2 => bW (k' := k2 + 0) iB rfl h3 rfl) (aS (fun _ a2 => bL (t := 0) cM a2 h3 rfl rfl) (aS (fun _ a2 => aD (v := bZ a4 k5) rfl) (aS (fun _ a2 => cS rfl h6) (aS (fun _ a2 => bW (k' := k5 + 0) iB rfl h6 rfl) (aS (fun _ a2 => bL (t := 0) cM a2 h6 rfl rfl) (aS (fun _ a2 => cE rfl rfl) (aS (fun _ a2 => aG (v := Value.bool (decide (a.From < b.From))) rfl) (dD (fun b3 a6 => (aA ?_)))))))))))))))
  have a7 := Option.some.inj hm
  subst a7
  exact bB (aQ (aZ Tryz.results111 rfl ⟨rfl, a6⟩))
 ·refine aM a3 rfl (aX (aA (aH (aH (cW (C := fun w' => aN G K (L) w') bR (by kernel_rfl) (aN.mono a2 (dB.drew _)) (aS (fun _ a2 => aD (v := bZ a1 k2) rfl) (aS (fun _ a2 => cS rfl h3) (aS (fun _ a2 => bW (k' := k2 + 1) fP rfl h3 rfl) (aS (fun _ a2 => bL (t := 1) cM a2 h3 rfl rfl) (aS (fun _ a2 => aD (v := bZ a4 k5) rfl) (aS (fun _ a2 => cS rfl h6) (aS (fun _ a2 => bW (k' := k5 + 1) fP rfl h6 rfl) (aS (fun _ a2 => bL (t := 1) cM a2 h6 rfl rfl) (aS (fun _ a2 => lS rfl rfl) (dD (fun b4 a0 => (aA ?_)))))))))))))))))
  rcases aJ hm with ⟨a5, hm⟩ | ⟨a5, hm⟩
  ·refine aO a5 rfl (aH (cW (C := fun w' => aN G K (L) w') bR (by kernel_rfl) (aN.mono a0 (dB.drew _)) (aS (fun _ a0 => aD (v := bZ a1 k2) rfl) (aS (fun _ a0 => cS rfl h3) (aS (fun _ a0 => bW (k' := k2 + 1) fP rfl h3 rfl) (aS (fun _ a0 => bL (t := 1) cM a0 h3 rfl rfl) (aS (fun _ a0 => aD (v := bZ a4 k5) rfl) (aS (fun _ a0 => cS rfl h6) (aS (fun _ a0 => bW (k' := k5 + 1) fP rfl h6 rfl) (aS (fun _ a0 => bL (t := 1) cM a0 h6 rfl rfl) (aS (fun _ a0 => cE rfl rfl) (aS (fun _ a0 => aG (v := Value.bool (decide (a.Label < b.Label))) rfl) (dD (fun b5 a8 => (aA ?_)))))))))))))))
   have a9 := Option.some.inj hm
   subst a9
   exact bB (aQ (aZ Tryz.results111 rfl ⟨rfl, a8⟩))
  ·refine aM a5 rfl (aX (aA (aH (cW (C := fun w' => aN G K (L) w') bR (by kernel_rfl) (aN.mono a0 (dB.drew _)) (aS (fun _ a0 => aD (v := bZ a1 k2) rfl) (aS (fun _ a0 => cS rfl h3) (aS (fun _ a0 => bW (k' := k2 + 2) iU rfl h3 rfl) (aS (fun _ a0 => bL (t := 2) cM a0 h3 rfl rfl) (aS (fun _ a0 => aD (v := bZ a4 k5) rfl) (aS (fun _ a0 => cS rfl h6) (aS (fun _ a0 => bW (k' := k5 + 2) iU rfl h6 rfl) (aS (fun _ a0 => bL (t := 2) cM a0 h6 rfl rfl) (aS (fun _ a0 => cE rfl rfl) (aS (fun _ a0 => aG (v := Value.bool (decide (a.To < b.To))) rfl) (dD (fun b6 b0 => (aA ?_)))))))))))))))))
   have b1 := Option.some.inj hm
   subst b1
   exact bB (aZ Tryz.results111 rfl ⟨rfl, b0⟩)
theorem aDw {t : dC} {k2 : Nat} {R : Bool} (hs : aN G K (L) w) (h3 : fN K a1 k2 [i64 t.States, i64 t.Initial, Value.slice a4 t.Labels.length c5, Value.slice a7 t.Edges.length c8]) (h6 : bX K a4 c5 t.Labels) (h9 : bX K a7 c8 t.Edges) (hm : aCk t = some R) :
  Calls Tryz.prog 62 ([bZ a1 k2] : List Value).toArray w (fW fun v w' => v = Value.bool R ∧ aN G K (L) w') := by
 refine aU Tryz.func62 rfl (by kernel_rfl) (by show (1 : Nat) ≤ 101; decide) ?_
 unfold aCk at hm
 refine aH (aB (aC (aG (v := Value.bool false) rfl) (aF (aA (aH (aH (cH (fun f w => ∃ (b9 : Bool), tB t b9 = some R ∧ f 0 = bZ a1 k2 ∧ f 39 = Value.bool b9 ∧ aN G K (L) w) ?_ ?_)))))))
 ·rintro f i7 ⟨b9, hm, e5, d5, d6⟩
  unfold tB at hm
  refine aA ?_
  rcases aJ hm with ⟨c0, hm⟩ | ⟨c0, hm⟩
  ·refine aO c0 d5 (aH (aB (aC (aG (v := Value.bool false) rfl) (aF (aA ?_)))))
   have e6 := Option.some.inj hm
   subst e6
   exact bB (aQ (aZ Tryz.results62 rfl ⟨rfl, d6⟩))
  ·refine aM c0 d5 (aX (aA (aH (aH (aB (aC (aG (v := i64 0) rfl) (aF (aA (bC (fun f w => aBa = some R ∧ aN G K (L) w) ?_ ?_)))))))))
   ·rintro f i8 ⟨hm, e7⟩
    unfold aBa at hm
    refine aA (aH (aB (aC (aG (v := Value.bool true) rfl) (aF (aA ?_)))))
    have e8 := Option.some.inj hm
    subst e8
    exact bB (aZ Tryz.results62 rfl ⟨rfl, e7⟩)
   obtain ⟨i9, e9, hm⟩ := aI hm
   refine cD e9 (fun (b2 : Int) f w => f 0 = bZ a1 k2 ∧ f 3 = i64 b2 ∧ aN G K (L) w) ?_ ?_
   ·exact ⟨e5, rfl, d6⟩
   ·rintro b2 c1 f j0 a0 c2 ⟨b3, b4, b5⟩
    replace a0 : vR t b2 = some c1 := a0
    unfold vR at a0
    refine aH (aH (aB (aC (aD b4) (aC (aD b3) (aC (cS rfl h3) (aC (bW (k' := k2 + 3) dI rfl h3 rfl) (aC (bL (t := 3) iC b5 h3 rfl rfl) (aC (bU (len := t.Edges.length) cR rfl) (aC (cE rfl rfl) (aF (aA ?_)))))))))))
    rcases aJ a0 with ⟨c3, a0⟩ | ⟨c3, a0⟩
    ·refine aO c3 rfl (aX (aA (aH (cK (aH (aB (aC (aD b3) (aC (cS rfl h3) (aC (bW (k' := k2 + 3) dI rfl h3 rfl) (aC (bL (t := 3) iC b5 h3 rfl rfl) (aC (aD b4) ?_)))))))))))
     obtain ⟨a6, d7, a0⟩ := aI a0
     refine aC (cU cR rfl h9 rfl rfl rfl d7) ?_
     obtain ⟨j1, f0, f1⟩ := bX.el (sz := 3) rfl h9 d7
     cases f1
     refine aC (fO (t := 0) (vs := [i64 a6.From, i64 a6.Label, i64 a6.To]) qC b5 f0 rfl rfl rfl) (cG (vs := [i64 0, i64 0, i64 0]) Tryz.zeroValue63 b5 rfl (fun b6 j2 f2 => (cC (i := 0) (ns := [i64 a6.From, i64 a6.Label, i64 a6.To]) (us := [i64 a6.From, i64 a6.Label, i64 a6.To]) Tryz.sizeOf63 f2 rfl rfl rfl rfl rfl (dT rfl) rfl rfl (fun f3 (a2 : aN G K (box b6 63 [i64 a6.From, i64 a6.Label, i64 a6.To] :: L) f3) => (aF (aA (aH (aH (cH (fun f w => ∃ (c4 : Bool), vQ t b2 a6 c4 = some c1 ∧ f 0 = bZ a1 k2 ∧ f 3 = i64 b2 ∧ f 4 = Value.pointer (some ⟨b6, 0, none⟩) ∧ f 87 = Value.bool c4 ∧ aN G K (box b6 63 [i64 a6.From, i64 a6.Label, i64 a6.To] :: L) w) ?_ ?_)))))))))
     ·rintro f j3 ⟨c4, a0, c6, b7, f4, d8, b8⟩
      unfold vQ at a0
      refine aA ?_
      rcases aJ a0 with ⟨c7, a0⟩ | ⟨c7, a0⟩
      ·refine aO c7 d8 (aH (aB (aC (aG (v := Value.bool false) rfl) (aF (aA (bB (aQ (bN (aQ (aQ ?_))))))))))
       have f5 := c2 _ (Option.some.inj a0).symm
       subst f5
       have hm : (some false) = some R := hm
       have f6 := Option.some.inj hm
       subst f6
       exact bN (aQ (aQ (aZ Tryz.results62 rfl ⟨rfl, (aN.arr 1 [] b8 rfl)⟩)))
      ·refine aM c7 d8 (aX (aA (aH (cH (fun f w => ∃ (c9 : Bool), yP b2 c9 = some c1 ∧ f 0 = bZ a1 k2 ∧ f 3 = i64 b2 ∧ f 100 = Value.bool c9 ∧ aN G K (L) w) ?_ ?_))))
       ·rintro f j4 ⟨c9, a0, f7, f8, d9, e0⟩
        unfold yP at a0
        refine aA ?_
        rcases aJ a0 with ⟨d0, a0⟩ | ⟨d0, a0⟩
        ·refine aO d0 d9 (aH (aB (aC (aG (v := Value.bool false) rfl) (aF (aA (bB (bN (aQ (aQ ?_)))))))))
         have f9 := c2 _ (Option.some.inj a0).symm
         subst f9
         have hm : (some false) = some R := hm
         have g0 := Option.some.inj hm
         subst g0
         exact bN (aQ (aQ (aZ Tryz.results62 rfl ⟨rfl, e0⟩)))
        ·exact aM d0 d9 (aX (bG (aA (aB (aC (aD f8) (aC (cI rfl rfl) (aC (aG (v := i64 (wr (b2 + 1))) rfl) (aF (aA ⟨wr (b2 + 1), (Option.some.inj a0).symm, f7, rfl, e0⟩)))))))))
       refine aB (aC (aD b7) (aC (oH rfl rfl) (aC (aD (v := Value.bool (decide (0 < b2))) rfl) ?_)))
       rcases aJ a0 with ⟨a8, a0⟩ | ⟨a8, a0⟩
       ·refine bH (g := 90) a8 (by kernel_rfl) rfl (aC (aD c6) (bH (g := 90) a8 (by kernel_rfl) rfl (aC (cS rfl h3) (bH (g := 90) a8 (by kernel_rfl) rfl (aC (bW (k' := k2 + 3) dI rfl h3 rfl) (bH (g := 90) a8 (by kernel_rfl) rfl (aC (bL (t := 3) iC b8 h3 rfl rfl) (bH (g := 90) a8 (by kernel_rfl) rfl (aC (aD b7) (bH (g := 90) a8 (by kernel_rfl) rfl (aC (lH rfl rfl) (bH (g := 90) a8 (by kernel_rfl) rfl ?_))))))))))))
        obtain ⟨j5, e1, a0⟩ := aI a0
        refine aC (cU cR rfl h9 rfl rfl rfl e1) ?_
        obtain ⟨j6, g1, g2⟩ := bX.el (sz := 3) rfl h9 e1
        cases g2
        refine bH (g := 90) a8 (by kernel_rfl) rfl ?_
        obtain ⟨j7, g3, g4, g5, g6⟩ := aN.lendB (i := 0) b8 rfl
        obtain ⟨e2, g7, a0⟩ := aI a0
        refine aW (vs := [bZ a7 ((wr (b2 - 1)).toNat * 3 + 0), bZ (some ⟨b6, 0, none⟩) 0]) Tryz.call111 (lst2 rfl f4) (aFf g5 (g1.mono g3) g4 g7) ?_
        rintro _ j8 ⟨rfl, g8⟩
        have g9 := g6 _ _ g8
        exact bH (g := 90) a8 (by kernel_rfl) rfl (aC (dN rfl) (aC (bK (v := Value.bool (!e2)) a8 rfl rfl) (aF (aA ⟨!e2, a0, c6, b7, rfl, (aN.arr 1 [] g9 rfl)⟩))))
       ·exact bA (g := 90) a8 (by kernel_rfl) rfl (bA (g := 90) a8 (by kernel_rfl) rfl (bA (g := 90) a8 (by kernel_rfl) rfl (bA (g := 90) a8 (by kernel_rfl) rfl (bA (g := 90) a8 (by kernel_rfl) rfl (bA (g := 90) a8 (by kernel_rfl) rfl (bA (g := 90) a8 (by kernel_rfl) rfl (bA (g := 90) a8 (by kernel_rfl) rfl (bA (g := 90) a8 (by kernel_rfl) rfl (aC (bM (v := Value.bool false) a8 rfl rfl) (aF (aA ⟨false, a0, c6, b7, rfl, (aN.arr 1 [] b8 rfl)⟩)))))))))))
     refine cW (C := fun w' => aN G K (box b6 63 [i64 a6.From, i64 a6.Label, i64 a6.To] :: L) w') bR (by kernel_rfl) (aN.mono a2 (dB.drew _)) (aS (fun _ a2 => bI (t' := 0) iB rfl rfl) (aS (fun _ a2 => cA cM a2 (i := 0) rfl rfl rfl) (aS (fun _ a2 => aD b3) (aS (fun _ a2 => cS rfl h3) (aS (fun _ a2 => bW (k' := k2 + 0) fX rfl h3 rfl) (aS (fun _ a2 => bL (t := 0) cM a2 h3 rfl rfl) (aS (fun _ a2 => lH rfl rfl) ?_)))))))
     obtain ⟨e3, h0, a0⟩ := aI a0
     refine lC (vs := [i64 a6.From, i64 0, i64 (wr (t.States - 1))]) (v := Value.bool e3) Tryz.call109 rfl (fun _ a2 => (rP a2 h0)) (aS (fun _ a2 => dN rfl) (aS (fun _ a2 => aD (v := Value.bool (!e3)) rfl) ?_))
     rcases aJ a0 with ⟨a9, a0⟩ | ⟨a9, a0⟩
     ·refine aR (g := 65) rfl rfl (bQ a9) (aR (g := 65) rfl rfl (bQ a9) (aR (g := 65) rfl rfl (bQ a9) (aR (g := 65) rfl rfl (bQ a9) (aR (g := 65) rfl rfl (bQ a9) (aR (g := 65) rfl rfl (bQ a9) (aR (g := 65) rfl rfl (bQ a9) (aR (g := 65) rfl rfl (bQ a9) (aR (g := 65) rfl rfl (bQ a9) (aS (fun _ a2 => bK (v := Value.bool true) a9 rfl rfl) (aS (fun _ a2 => aD (v := Value.bool true) rfl) (aR (g := 76) rfl rfl (bQ (rfl : true = true)) (aR (g := 76) rfl rfl (bQ (rfl : true = true)) (aR (g := 76) rfl rfl (bQ (rfl : true = true)) (aR (g := 76) rfl rfl (bQ (rfl : true = true)) (aR (g := 76) rfl rfl (bQ (rfl : true = true)) (aR (g := 76) rfl rfl (bQ (rfl : true = true)) (aR (g := 76) rfl rfl (bQ (rfl : true = true)) (aR (g := 76) rfl rfl (bQ (rfl : true = true)) (aR (g := 76) rfl rfl (bQ (rfl : true = true)) (aR (g := 76) rfl rfl (bQ (rfl : true = true)) (aS (fun _ a2 => bK (v := Value.bool true) (rfl : true = true) rfl rfl) (dD (fun j9 h1 => ?_)))))))))))))))))))))))
      exact aA ⟨true, a0, b3, b4, rfl, rfl, h1⟩
     ·refine bD (g := 65) rfl rfl (bP a9) (aS (fun _ a2 => bI (t' := 2) iU rfl rfl) (bD (g := 65) rfl rfl (bP a9) (aS (fun _ a2 => cA cM a2 (i := 0) rfl rfl rfl) (bD (g := 65) rfl rfl (bP a9) (aS (fun _ a2 => aD b3) (bD (g := 65) rfl rfl (bP a9) (aS (fun _ a2 => cS rfl h3) (bD (g := 65) rfl rfl (bP a9) (aS (fun _ a2 => bW (k' := k2 + 0) fX rfl h3 rfl) (bD (g := 65) rfl rfl (bP a9) (aS (fun _ a2 => bL (t := 0) cM a2 h3 rfl rfl) (bD (g := 65) rfl rfl (bP a9) (aS (fun _ a2 => lH rfl rfl) (bD (g := 65) rfl rfl (bP a9) ?_))))))))))))))
      obtain ⟨d1, h2, a0⟩ := aI a0
      refine lC (vs := [i64 a6.To, i64 0, i64 (wr (t.States - 1))]) (v := Value.bool d1) Tryz.call109 rfl (fun _ a2 => (rP a2 h2)) (bD (g := 65) rfl rfl (bP a9) (aS (fun _ a2 => dN rfl) (aS (fun _ a2 => bM (v := Value.bool (!d1)) a9 rfl rfl) (aS (fun _ a2 => aD (v := Value.bool (!d1)) rfl) ?_))))
      rcases aJ a0 with ⟨a5, a0⟩ | ⟨a5, a0⟩
      ·exact aR (g := 76) rfl rfl (bQ a5) (aR (g := 76) rfl rfl (bQ a5) (aR (g := 76) rfl rfl (bQ a5) (aR (g := 76) rfl rfl (bQ a5) (aR (g := 76) rfl rfl (bQ a5) (aR (g := 76) rfl rfl (bQ a5) (aR (g := 76) rfl rfl (bQ a5) (aR (g := 76) rfl rfl (bQ a5) (aR (g := 76) rfl rfl (bQ a5) (aR (g := 76) rfl rfl (bQ a5) (aS (fun _ a2 => bK (v := Value.bool true) a5 rfl rfl) (dD (fun k0 h4 => (aA ⟨true, a0, b3, b4, rfl, rfl, h4⟩)))))))))))))
      ·refine bD (g := 76) rfl rfl (bP a5) (aS (fun _ a2 => bI (t' := 1) fP rfl rfl) (bD (g := 76) rfl rfl (bP a5) (aS (fun _ a2 => cA cM a2 (i := 0) rfl rfl rfl) (bD (g := 76) rfl rfl (bP a5) (aS (fun _ a2 => aD b3) (bD (g := 76) rfl rfl (bP a5) (aS (fun _ a2 => cS rfl h3) (bD (g := 76) rfl rfl (bP a5) (aS (fun _ a2 => bW (k' := k2 + 2) gS rfl h3 rfl) (bD (g := 76) rfl rfl (bP a5) (aS (fun _ a2 => bL (t := 2) nY a2 h3 rfl rfl) (bD (g := 76) rfl rfl (bP a5) (aS (fun _ a2 => bU (len := t.Labels.length) cQ rfl) (bD (g := 76) rfl rfl (bP a5) (aS (fun _ a2 => lH rfl rfl) (bD (g := 76) rfl rfl (bP a5) ?_))))))))))))))))
       obtain ⟨d2, h5, a0⟩ := aI a0
       exact lC (vs := [i64 a6.Label, i64 0, i64 (wr ((t.Labels.length : Int) - 1))]) (v := Value.bool d2) Tryz.call109 rfl (fun _ a2 => (rP a2 h5)) (bD (g := 76) rfl rfl (bP a5) (aS (fun _ a2 => dN rfl) (aS (fun _ a2 => bM (v := Value.bool (!d2)) a5 rfl rfl) (dD (fun k1 h7 => (aA ⟨!d2, a0, b3, b4, rfl, rfl, h7⟩))))))
    ·refine aM c3 rfl (bY (aY (aY ?_)))
     have h8 := c2 _ (Option.some.inj a0).symm
     subst h8
     have hm : (aBa) = some R := hm
     exact bO (aA ⟨hm, b5⟩)
 refine cW (C := fun w' => aN G K (L) w') bR (by kernel_rfl) (aN.mono hs (dB.drew _)) (aS (fun _ hs => aD (v := bZ a1 k2) rfl) (aS (fun _ hs => cS rfl h3) (aS (fun _ hs => bW (k' := k2 + 0) fX rfl h3 rfl) (aS (fun _ hs => bL (t := 0) cM hs h3 rfl rfl) ?_))))
 obtain ⟨e4, i0, hm⟩ := aI hm
 refine lC (vs := [i64 t.States, i64 1, i64 40]) (v := Value.bool e4) Tryz.call109 rfl (fun _ hs => (rP hs i0)) (aS (fun _ hs => dN rfl) (aS (fun _ hs => aD (v := Value.bool (!e4)) rfl) ?_))
 rcases aJ hm with ⟨a3, hm⟩ | ⟨a3, hm⟩
 ·refine aR (g := 11) rfl rfl (bQ a3) (aR (g := 11) rfl rfl (bQ a3) (aR (g := 11) rfl rfl (bQ a3) (aR (g := 11) rfl rfl (bQ a3) (aR (g := 11) rfl rfl (bQ a3) (aR (g := 11) rfl rfl (bQ a3) (aR (g := 11) rfl rfl (bQ a3) (aR (g := 11) rfl rfl (bQ a3) (aR (g := 11) rfl rfl (bQ a3) (aR (g := 11) rfl rfl (bQ a3) (aR (g := 11) rfl rfl (bQ a3) (aS (fun _ hs => bK (v := Value.bool true) a3 rfl rfl) (aS (fun _ hs => aD (v := Value.bool true) rfl) (aR (g := 24) rfl rfl (bQ (rfl : true = true)) (aR (g := 24) rfl rfl (bQ (rfl : true = true)) (aR (g := 24) rfl rfl (bQ (rfl : true = true)) (aR (g := 24) rfl rfl (bQ (rfl : true = true)) (aR (g := 24) rfl rfl (bQ (rfl : true = true)) (aR (g := 24) rfl rfl (bQ (rfl : true = true)) (aS (fun _ hs => bK (v := Value.bool true) (rfl : true = true) rfl rfl) (aS (fun _ hs => aD (v := Value.bool true) rfl) (aR (g := 32) rfl rfl (bQ (rfl : true = true)) (aR (g := 32) rfl rfl (bQ (rfl : true = true)) (aR (g := 32) rfl rfl (bQ (rfl : true = true)) ?_)))))))))))))))))))))))
  exact aR (g := 32) rfl rfl (bQ (rfl : true = true)) (aR (g := 32) rfl rfl (bQ (rfl : true = true)) (aR (g := 32) rfl rfl (bQ (rfl : true = true)) (aS (fun _ hs => bK (v := Value.bool true) (rfl : true = true) rfl rfl) (dD (fun k3 i1 => (aA ⟨true, hm, rfl, rfl, i1⟩))))))
 ·refine bD (g := 11) rfl rfl (bP a3) (aS (fun _ hs => aD (v := bZ a1 k2) rfl) (bD (g := 11) rfl rfl (bP a3) (aS (fun _ hs => cS rfl h3) (bD (g := 11) rfl rfl (bP a3) (aS (fun _ hs => bW (k' := k2 + 1) xM rfl h3 rfl) (bD (g := 11) rfl rfl (bP a3) (aS (fun _ hs => bL (t := 1) cM hs h3 rfl rfl) (bD (g := 11) rfl rfl (bP a3) (aS (fun _ hs => aD (v := bZ a1 k2) rfl) (bD (g := 11) rfl rfl (bP a3) (aS (fun _ hs => cS rfl h3) (bD (g := 11) rfl rfl (bP a3) (aS (fun _ hs => bW (k' := k2 + 0) fX rfl h3 rfl) (bD (g := 11) rfl rfl (bP a3) (aS (fun _ hs => bL (t := 0) cM hs h3 rfl rfl) (bD (g := 11) rfl rfl (bP a3) (aS (fun _ hs => lH rfl rfl) (bD (g := 11) rfl rfl (bP a3) ?_))))))))))))))))))
  obtain ⟨d3, i2, hm⟩ := aI hm
  refine lC (vs := [i64 t.Initial, i64 0, i64 (wr (t.States - 1))]) (v := Value.bool d3) Tryz.call109 rfl (fun _ hs => (rP hs i2)) (bD (g := 11) rfl rfl (bP a3) (aS (fun _ hs => dN rfl) (aS (fun _ hs => bM (v := Value.bool (!d3)) a3 rfl rfl) (aS (fun _ hs => aD (v := Value.bool (!d3)) rfl) ?_))))
  rcases aJ hm with ⟨b0, hm⟩ | ⟨b0, hm⟩
  ·exact aR (g := 24) rfl rfl (bQ b0) (aR (g := 24) rfl rfl (bQ b0) (aR (g := 24) rfl rfl (bQ b0) (aR (g := 24) rfl rfl (bQ b0) (aR (g := 24) rfl rfl (bQ b0) (aR (g := 24) rfl rfl (bQ b0) (aS (fun _ hs => bK (v := Value.bool true) b0 rfl rfl) (aS (fun _ hs => aD (v := Value.bool true) rfl) (aR (g := 32) rfl rfl (bQ (rfl : true = true)) (aR (g := 32) rfl rfl (bQ (rfl : true = true)) (aR (g := 32) rfl rfl (bQ (rfl : true = true)) (aR (g := 32) rfl rfl (bQ (rfl : true = true)) (aR (g := 32) rfl rfl (bQ (rfl : true = true)) (aR (g := 32) rfl rfl (bQ (rfl : true = true)) (aS (fun _ hs => bK (v := Value.bool true) (rfl : true = true) rfl rfl) (dD (fun k4 i3 => (aA ⟨true, hm, rfl, rfl, i3⟩)))))))))))))))))
  ·refine bD (g := 24) rfl rfl (bP b0) (aS (fun _ hs => aD (v := bZ a1 k2) rfl) (bD (g := 24) rfl rfl (bP b0) (aS (fun _ hs => cS rfl h3) (bD (g := 24) rfl rfl (bP b0) (aS (fun _ hs => bW (k' := k2 + 2) gS rfl h3 rfl) (bD (g := 24) rfl rfl (bP b0) (aS (fun _ hs => bL (t := 2) nY hs h3 rfl rfl) (bD (g := 24) rfl rfl (bP b0) ?_))))))))
   obtain ⟨d4, i4, hm⟩ := aI hm
   refine lC (vs := [Value.slice a4 t.Labels.length c5]) (v := Value.bool d4) Tryz.call110 rfl (fun _ hs => (aEJ hs h6 i4)) (bD (g := 24) rfl rfl (bP b0) (aS (fun _ hs => dN rfl) (aS (fun _ hs => bM (v := Value.bool (!d4)) b0 rfl rfl) (aS (fun _ hs => aD (v := Value.bool (!d4)) rfl) ?_))))
   rcases aJ hm with ⟨b1, hm⟩ | ⟨b1, hm⟩
   ·exact aR (g := 32) rfl rfl (bQ b1) (aR (g := 32) rfl rfl (bQ b1) (aR (g := 32) rfl rfl (bQ b1) (aR (g := 32) rfl rfl (bQ b1) (aR (g := 32) rfl rfl (bQ b1) (aR (g := 32) rfl rfl (bQ b1) (aS (fun _ hs => bK (v := Value.bool true) b1 rfl rfl) (dD (fun k5 i5 => (aA ⟨true, hm, rfl, rfl, i5⟩)))))))))
   ·exact bD (g := 32) rfl rfl (bP b1) (aS (fun _ hs => aD (v := bZ a1 k2) rfl) (bD (g := 32) rfl rfl (bP b1) (aS (fun _ hs => cS rfl h3) (bD (g := 32) rfl rfl (bP b1) (aS (fun _ hs => bW (k' := k2 + 3) dI rfl h3 rfl) (bD (g := 32) rfl rfl (bP b1) (aS (fun _ hs => bL (t := 3) iC hs h3 rfl rfl) (bD (g := 32) rfl rfl (bP b1) (aS (fun _ hs => bU (len := t.Edges.length) cR rfl) (bD (g := 32) rfl rfl (bP b1) (aS (fun _ hs => oH rfl rfl) (aS (fun _ hs => bM (v := Value.bool (decide (300 < (t.Edges.length : Int)))) b1 rfl rfl) (dD (fun k6 i6 => (aA ⟨decide (300 < (t.Edges.length : Int)), hm, rfl, rfl, i6⟩)))))))))))))))
theorem aEa {t : dC} {k2 : Nat} {R : Bool} (hs : aN G K (L) w) (h3 : fN K a1 k2 [i64 t.States, i64 t.Initial, Value.slice a4 t.Labels.length c5, Value.slice a7 t.Edges.length c8]) (h6 : bX K a4 c5 t.Labels) (h9 : bX K a7 c8 t.Edges) (hm : wQ t = some R) :
  Calls Tryz.prog 63 ([bZ a1 k2] : List Value).toArray w (fW fun v w' => v = Value.bool R ∧ aN G K (L) w') := by
 refine aU Tryz.func63 rfl (by kernel_rfl) (by show (1 : Nat) ≤ 66; decide) ?_
 unfold wQ at hm
 refine aH (aB (aC (aG (v := Value.bool false) rfl) (aF (aA (aH (aH (aB (aC (aG (v := i64 0) rfl) (aF (aA (bC (fun f w => uC = some R ∧ aN G K (L) w) ?_ ?_)))))))))))
 ·rintro f e0 ⟨hm, c4⟩
  unfold uC at hm
  refine aA (aH (aB (aC (aG (v := Value.bool true) rfl) (aF (aA ?_)))))
  have c6 := Option.some.inj hm
  subst c6
  exact bB (aZ Tryz.results63 rfl ⟨rfl, c4⟩)
 obtain ⟨e1, c7, hm⟩ := aI hm
 refine cD c7 (fun (a8 : Int) f w => f 0 = bZ a1 k2 ∧ f 3 = i64 a8 ∧ aN G K (L) w) ?_ ?_
 ·exact ⟨rfl, rfl, hs⟩
 ·rintro a8 c0 f e2 a5 c1 ⟨b0, a9, a0⟩
  replace a5 : nB t a8 = some c0 := a5
  unfold nB at a5
  refine aH (aH (aB (aC (aD a9) (aC (aD b0) (aC (cS rfl h3) (aC (bW (k' := k2 + 3) dI rfl h3 rfl) (aC (bL (t := 3) iC a0 h3 rfl rfl) (aC (bU (len := t.Edges.length) cR rfl) (aC (cE rfl rfl) (aF (aA ?_)))))))))))
  rcases aJ a5 with ⟨b6, a5⟩ | ⟨b6, a5⟩
  ·refine aO b6 rfl (aX (aA (aH (cK (aH (cH (fun f w => ∃ (b7 : Bool), kW a8 b7 = some c0 ∧ f 0 = bZ a1 k2 ∧ f 3 = i64 a8 ∧ f 65 = Value.bool b7 ∧ aN G K (L) w) ?_ ?_))))))
   ·rintro f e3 ⟨b7, a5, c9, d0, c2, c3⟩
    unfold kW at a5
    refine aA ?_
    rcases aJ a5 with ⟨b8, a5⟩ | ⟨b8, a5⟩
    ·refine aO b8 c2 (aH (aB (aC (aG (v := Value.bool false) rfl) (aF (aA (bB (bN (aQ (aQ ?_)))))))))
     have d1 := c1 _ (Option.some.inj a5).symm
     subst d1
     have hm : (some false) = some R := hm
     have d2 := Option.some.inj hm
     subst d2
     exact bN (aQ (aQ (aZ Tryz.results63 rfl ⟨rfl, c3⟩)))
    ·exact aM b8 c2 (aX (bG (aA (aB (aC (aD d0) (aC (cI rfl rfl) (aC (aG (v := i64 (wr (a8 + 1))) rfl) (aF (aA ⟨wr (a8 + 1), (Option.some.inj a5).symm, c9, rfl, c3⟩)))))))))
   refine cW (C := fun w' => aN G K (L) w') bR (by kernel_rfl) (aN.mono a0 (dB.drew _)) (aS (fun _ a0 => aD b0) (aS (fun _ a0 => cS rfl h3) (aS (fun _ a0 => bW (k' := k2 + 3) dI rfl h3 rfl) (aS (fun _ a0 => bL (t := 3) iC a0 h3 rfl rfl) (aS (fun _ a0 => aD a9) ?_)))))
   obtain ⟨b1, b4, a5⟩ := aI a5
   refine aS (fun _ a0 => cU cR rfl h9 rfl rfl rfl b4) ?_
   obtain ⟨e4, b2, d3⟩ := bX.el (sz := 3) rfl h9 b4
   cases d3
   refine aS (fun _ a0 => bW (k' := a8.toNat * 3 + 1) fP rfl b2 rfl) (aS (fun _ a0 => bL (t := 1) cM a0 b2 rfl rfl) (aS (fun _ a0 => kC rfl rfl) (aS (fun _ a0 => aD (v := Value.bool (b1.Label == 0)) rfl) ?_)))
   rcases aJ a5 with ⟨a6, a5⟩ | ⟨a6, a5⟩
   ·refine aR (g := 22) rfl rfl (bQ a6) (aR (g := 22) rfl rfl (bQ a6) (aR (g := 22) rfl rfl (bQ a6) (bE (g := 25) rfl rfl (bE (g := 25) rfl rfl (bE (g := 25) rfl rfl (bE (g := 25) rfl rfl (bE (g := 25) rfl rfl (bE (g := 25) rfl rfl (bE (g := 25) rfl rfl (bE (g := 25) rfl rfl (bE (g := 25) rfl rfl (bE (g := 25) rfl rfl (bE (g := 25) rfl rfl (bE (g := 25) rfl rfl (bE (g := 25) rfl rfl (bE (g := 25) rfl rfl (bE (g := 25) rfl rfl (bE (g := 25) rfl rfl (bE (g := 25) rfl rfl (bE (g := 25) rfl rfl (aR (g := 22) rfl rfl (bQ a6) (aR (g := 22) rfl rfl (bQ a6) (bE (g := 45) rfl rfl ?_)))))))))))))))))))))))
    exact bE (g := 45) rfl rfl (bE (g := 45) rfl rfl (bE (g := 45) rfl rfl (bE (g := 45) rfl rfl (bE (g := 45) rfl rfl (bE (g := 45) rfl rfl (bE (g := 45) rfl rfl (bE (g := 45) rfl rfl (bE (g := 45) rfl rfl (bE (g := 45) rfl rfl (bE (g := 45) rfl rfl (bE (g := 45) rfl rfl (bE (g := 45) rfl rfl (bE (g := 45) rfl rfl (bE (g := 45) rfl rfl (bE (g := 45) rfl rfl (bE (g := 45) rfl rfl (aR (g := 22) rfl rfl (bQ a6) (aS (fun _ a0 => bK (v := Value.bool true) a6 rfl rfl) (dD (fun e5 d4 => (aA ⟨true, a5, b0, a9, rfl, d4⟩)))))))))))))))))))))
   ·refine bD (g := 22) rfl rfl (bP a6) (aS (fun _ a0 => aD a9) (bD (g := 22) rfl rfl (bP a6) (aS (fun _ a0 => oH rfl rfl) (bD (g := 22) rfl rfl (bP a6) (aS (fun _ a0 => aD (v := Value.bool (decide (0 < a8))) rfl) ?_)))))
    rcases aJ a5 with ⟨a2, a5⟩ | ⟨a2, a5⟩
    ·refine bD (g := 25) rfl rfl a2 (aS (fun _ a0 => aD b0) (bD (g := 25) rfl rfl a2 (aS (fun _ a0 => cS rfl h3) (bD (g := 25) rfl rfl a2 (aS (fun _ a0 => bW (k' := k2 + 3) dI rfl h3 rfl) (bD (g := 25) rfl rfl a2 (aS (fun _ a0 => bL (t := 3) iC a0 h3 rfl rfl) (bD (g := 25) rfl rfl a2 (aS (fun _ a0 => aD a9) (bD (g := 25) rfl rfl a2 (aS (fun _ a0 => cU cR rfl h9 rfl rfl rfl b4) (bD (g := 25) rfl rfl a2 (aS (fun _ a0 => bW (k' := a8.toNat * 3 + 0) iB rfl b2 rfl) (bD (g := 25) rfl rfl a2 (aS (fun _ a0 => bL (t := 0) cM a0 b2 rfl rfl) (bD (g := 25) rfl rfl a2 (aS (fun _ a0 => aD b0) (bD (g := 25) rfl rfl a2 (aS (fun _ a0 => cS rfl h3) (bD (g := 25) rfl rfl a2 (aS (fun _ a0 => bW (k' := k2 + 3) dI rfl h3 rfl) (bD (g := 25) rfl rfl a2 (aS (fun _ a0 => bL (t := 3) iC a0 h3 rfl rfl) ?_)))))))))))))))))))))))
     refine bD (g := 25) rfl rfl a2 (aS (fun _ a0 => aD a9) (bD (g := 25) rfl rfl a2 (aS (fun _ a0 => lH rfl rfl) (bD (g := 25) rfl rfl a2 ?_))))
     obtain ⟨b3, b9, a5⟩ := aI a5
     refine aS (fun _ a0 => cU cR rfl h9 rfl rfl rfl b9) ?_
     obtain ⟨e6, b5, d5⟩ := bX.el (sz := 3) rfl h9 b9
     cases d5
     refine bD (g := 25) rfl rfl a2 (aS (fun _ a0 => bW (k' := (wr (a8 - 1)).toNat * 3 + 0) iB rfl b5 rfl) (bD (g := 25) rfl rfl a2 (aS (fun _ a0 => bL (t := 0) cM a0 b5 rfl rfl) (bD (g := 25) rfl rfl a2 (aS (fun _ a0 => kC rfl rfl) (bD (g := 22) rfl rfl (bP a6) (aS (fun _ a0 => bK (v := Value.bool (b1.From == b3.From)) a2 rfl rfl) (bD (g := 22) rfl rfl (bP a6) (aS (fun _ a0 => aD (v := Value.bool (b1.From == b3.From)) rfl) ?_)))))))))
     rcases aJ a5 with ⟨a3, a5⟩ | ⟨a3, a5⟩
     ·refine bD (g := 45) rfl rfl a3 (aS (fun _ a0 => aD b0) (bD (g := 45) rfl rfl a3 (aS (fun _ a0 => cS rfl h3) (bD (g := 45) rfl rfl a3 (aS (fun _ a0 => bW (k' := k2 + 3) dI rfl h3 rfl) (bD (g := 45) rfl rfl a3 (aS (fun _ a0 => bL (t := 3) iC a0 h3 rfl rfl) (bD (g := 45) rfl rfl a3 (aS (fun _ a0 => aD a9) (bD (g := 45) rfl rfl a3 (aS (fun _ a0 => cU cR rfl h9 rfl rfl rfl b4) (bD (g := 45) rfl rfl a3 (aS (fun _ a0 => bW (k' := a8.toNat * 3 + 1) fP rfl b2 rfl) (bD (g := 45) rfl rfl a3 (aS (fun _ a0 => bL (t := 1) cM a0 b2 rfl rfl) (bD (g := 45) rfl rfl a3 (aS (fun _ a0 => aD b0) (bD (g := 45) rfl rfl a3 (aS (fun _ a0 => cS rfl h3) (bD (g := 45) rfl rfl a3 (aS (fun _ a0 => bW (k' := k2 + 3) dI rfl h3 rfl) (bD (g := 45) rfl rfl a3 (aS (fun _ a0 => bL (t := 3) iC a0 h3 rfl rfl) ?_)))))))))))))))))))))))
      exact bD (g := 45) rfl rfl a3 (aS (fun _ a0 => aD a9) (bD (g := 45) rfl rfl a3 (aS (fun _ a0 => lH rfl rfl) (bD (g := 45) rfl rfl a3 (aS (fun _ a0 => cU cR rfl h9 rfl rfl rfl b9) (bD (g := 45) rfl rfl a3 (aS (fun _ a0 => bW (k' := (wr (a8 - 1)).toNat * 3 + 1) fP rfl b5 rfl) (bD (g := 45) rfl rfl a3 (aS (fun _ a0 => bL (t := 1) cM a0 b5 rfl rfl) (bD (g := 45) rfl rfl a3 (aS (fun _ a0 => kC rfl rfl) (bD (g := 22) rfl rfl (bP a6) (aS (fun _ a0 => bK (v := Value.bool (b1.Label == b3.Label)) a3 rfl rfl) (aS (fun _ a0 => bM (v := Value.bool (b1.Label == b3.Label)) a6 rfl rfl) (dD (fun e7 d6 => (aA ⟨b1.Label == b3.Label, a5, b0, a9, rfl, d6⟩)))))))))))))))))
     ·refine aR (g := 45) rfl rfl (bV a3) (aR (g := 45) rfl rfl (bV a3) (aR (g := 45) rfl rfl (bV a3) (aR (g := 45) rfl rfl (bV a3) (aR (g := 45) rfl rfl (bV a3) (aR (g := 45) rfl rfl (bV a3) (aR (g := 45) rfl rfl (bV a3) (aR (g := 45) rfl rfl (bV a3) (aR (g := 45) rfl rfl (bV a3) (aR (g := 45) rfl rfl (bV a3) (aR (g := 45) rfl rfl (bV a3) (aR (g := 45) rfl rfl (bV a3) (aR (g := 45) rfl rfl (bV a3) (aR (g := 45) rfl rfl (bV a3) (aR (g := 45) rfl rfl (bV a3) (aR (g := 45) rfl rfl (bV a3) (aR (g := 45) rfl rfl (bV a3) (aR (g := 45) rfl rfl (bV a3) (bD (g := 22) rfl rfl (bP a6) (aS (fun _ a0 => bM (v := Value.bool false) a3 rfl rfl) (aS (fun _ a0 => bM (v := Value.bool false) a6 rfl rfl) (dD (fun e8 d7 => (aA ?_)))))))))))))))))))))))
      exact ⟨false, a5, b0, a9, rfl, d7⟩
    ·refine aR (g := 25) rfl rfl (bV a2) (aR (g := 25) rfl rfl (bV a2) (aR (g := 25) rfl rfl (bV a2) (aR (g := 25) rfl rfl (bV a2) (aR (g := 25) rfl rfl (bV a2) (aR (g := 25) rfl rfl (bV a2) (aR (g := 25) rfl rfl (bV a2) (aR (g := 25) rfl rfl (bV a2) (aR (g := 25) rfl rfl (bV a2) (aR (g := 25) rfl rfl (bV a2) (aR (g := 25) rfl rfl (bV a2) (aR (g := 25) rfl rfl (bV a2) (aR (g := 25) rfl rfl (bV a2) (aR (g := 25) rfl rfl (bV a2) (aR (g := 25) rfl rfl (bV a2) (aR (g := 25) rfl rfl (bV a2) (aR (g := 25) rfl rfl (bV a2) (aR (g := 25) rfl rfl (bV a2) (bD (g := 22) rfl rfl (bP a6) (aS (fun _ a0 => bM (v := Value.bool false) a2 rfl rfl) (bD (g := 22) rfl rfl (bP a6) (aS (fun _ a0 => aD (v := Value.bool false) rfl) (aR (g := 45) rfl rfl (bV (by decide : ¬ false = true)) (aR (g := 45) rfl rfl (bV (by decide : ¬ false = true)) ?_)))))))))))))))))))))))
     exact aR (g := 45) rfl rfl (bV (by decide : ¬ false = true)) (aR (g := 45) rfl rfl (bV (by decide : ¬ false = true)) (aR (g := 45) rfl rfl (bV (by decide : ¬ false = true)) (aR (g := 45) rfl rfl (bV (by decide : ¬ false = true)) (aR (g := 45) rfl rfl (bV (by decide : ¬ false = true)) (aR (g := 45) rfl rfl (bV (by decide : ¬ false = true)) (aR (g := 45) rfl rfl (bV (by decide : ¬ false = true)) (aR (g := 45) rfl rfl (bV (by decide : ¬ false = true)) (aR (g := 45) rfl rfl (bV (by decide : ¬ false = true)) (aR (g := 45) rfl rfl (bV (by decide : ¬ false = true)) (aR (g := 45) rfl rfl (bV (by decide : ¬ false = true)) (aR (g := 45) rfl rfl (bV (by decide : ¬ false = true)) (aR (g := 45) rfl rfl (bV (by decide : ¬ false = true)) (aR (g := 45) rfl rfl (bV (by decide : ¬ false = true)) (aR (g := 45) rfl rfl (bV (by decide : ¬ false = true)) (aR (g := 45) rfl rfl (bV (by decide : ¬ false = true)) (bD (g := 22) rfl rfl (bP a6) (aS (fun _ a0 => bM (v := Value.bool false) (by decide : ¬ false = true) rfl rfl) (aS (fun _ a0 => bM (v := Value.bool false) a6 rfl rfl) (dD (fun e9 d8 => (aA ⟨false, a5, b0, a9, rfl, d8⟩)))))))))))))))))))))
  ·refine aM b6 rfl (bY (aY (aY ?_)))
   have d9 := c1 _ (Option.some.inj a5).symm
   subst d9
   have hm : (uC) = some R := hm
   exact bO (aA ⟨hm, a0⟩)
theorem aFQ {t : dC} {k2 : Nat} {p : dC} {k11 : Nat} {R : Int} (hs : aN G K (L) w) (h3 : fN K a1 k2 [i64 t.States, i64 t.Initial, Value.slice a4 t.Labels.length c5, Value.slice a7 t.Edges.length c8]) (h6 : bX K a4 c5 t.Labels) (h9 : bX K a7 c8 t.Edges) (h12 : fN K a10 k11 [i64 p.States, i64 p.Initial, Value.slice a13 p.Labels.length c14, Value.slice a16 p.Edges.length c17]) (h15 : bX K a13 c14 p.Labels) (h18 : bX K a16 c17 p.Edges) (hm : aDs t p = some R) :
  Calls Tryz.prog 29 ([bZ a1 k2, bZ a10 k11] : List Value).toArray w (fW fun v w' => v = i64 R ∧ aN G K (L) w') := by
 refine aU Tryz.func29 rfl (by kernel_rfl) (by show (2 : Nat) ≤ 16; decide) ?_
 unfold aDs at hm
 refine aH (aB (aC (aG (v := i64 0) rfl) (aF (aA (aH (aH (cH (fun f w => ∃ (a2 : Bool), tL p a2 = some R ∧ f 1 = bZ a10 k11 ∧ f 12 = Value.bool a2 ∧ aN G K (L) w) ?_ ?_)))))))
 ·rintro f c1 ⟨a2, hm, b2, a6, a8⟩
  unfold tL at hm
  refine aA ?_
  rcases aJ hm with ⟨a3, hm⟩ | ⟨a3, hm⟩
  ·refine aO a3 a6 (aH (aB (aC (aG (v := i64 1) rfl) (aF (aA ?_)))))
   have b3 := Option.some.inj hm
   subst b3
   exact bB (aQ (aZ Tryz.results29 rfl ⟨rfl, a8⟩))
  ·refine aM a3 a6 (aX (aA (aH (aH (aB (aC (aD b2) ?_))))))
   obtain ⟨c2, b4, hm⟩ := aI hm
   refine aW (vs := [bZ a10 k11]) Tryz.call63 rfl (aEa a8 h12 h15 h18 b4) ?_
   rintro _ c3 ⟨rfl, a9⟩
   refine aC (dN rfl) (aF (aA ?_))
   rcases aJ hm with ⟨a5, hm⟩ | ⟨a5, hm⟩
   ·refine aO a5 rfl (aH (aB (aC (aG (v := i64 6) rfl) (aF (aA ?_)))))
    have b5 := Option.some.inj hm
    subst b5
    exact bB (aQ (aZ Tryz.results29 rfl ⟨rfl, a9⟩))
   ·refine aM a5 rfl (aX (aA (aH (aB (aC (aG (v := i64 0) rfl) (aF (aA ?_)))))))
    have b6 := Option.some.inj hm
    subst b6
    exact bB (aZ Tryz.results29 rfl ⟨rfl, a9⟩)
 refine aB (aC (aD (v := bZ a1 k2) rfl) ?_)
 obtain ⟨b7, b8, hm⟩ := aI hm
 refine aW (vs := [bZ a1 k2]) Tryz.call62 rfl (aDw hs h3 h6 h9 b8) ?_
 rintro _ c4 ⟨rfl, b0⟩
 refine aC (dN rfl) (aC (aD (v := Value.bool (!b7)) rfl) ?_)
 rcases aJ hm with ⟨a0, hm⟩ | ⟨a0, hm⟩
 ·exact aV (g := 8) a0 (by kernel_rfl) rfl (aV (g := 8) a0 (by kernel_rfl) rfl (aV (g := 8) a0 (by kernel_rfl) rfl (aC (bK (v := Value.bool true) a0 rfl rfl) (aF (aA ⟨true, hm, rfl, rfl, b0⟩)))))
 ·refine bJ (g := 8) a0 (by kernel_rfl) rfl (aC (aD (v := bZ a10 k11) rfl) (bJ (g := 8) a0 (by kernel_rfl) rfl ?_))
  obtain ⟨b1, b9, hm⟩ := aI hm
  refine aW (vs := [bZ a10 k11]) Tryz.call62 rfl (aDw b0 h12 h15 h18 b9) ?_
  rintro _ c6 ⟨rfl, c0⟩
  exact bJ (g := 8) a0 (by kernel_rfl) rfl (aC (dN rfl) (aC (bM (v := Value.bool (!b1)) a0 rfl rfl) (aF (aA ⟨!b1, hm, rfl, rfl, c0⟩))))
theorem aDx {trace : (List bF)} {R : Bool} (hs : aN G K (L) w) (h3 : bX K a1 c2 trace) (hm : uD trace = some R) :
  Calls Tryz.prog 64 ([Value.slice a1 trace.length c2] : List Value).toArray w (fW fun v w' => v = Value.bool R ∧ aN G K (L) w') := by
 refine aU Tryz.func64 rfl (by kernel_rfl) (by show (1 : Nat) ≤ 23; decide) ?_
 unfold uD at hm
 refine aH (aB (aC (aG (v := Value.bool false) rfl) (aF (aA (aH (aH (aB (aC (aG (v := i64 0) rfl) (aF (aA (bC (fun f w => sV = some R ∧ aN G K (L) w) ?_ ?_)))))))))))
 ·rintro f w4 ⟨hm, b7⟩
  unfold sV at hm
  refine aA (aH (aB (aC (aG (v := Value.bool true) rfl) (aF (aA ?_)))))
  have b8 := Option.some.inj hm
  subst b8
  exact bB (aZ Tryz.results64 rfl ⟨rfl, b7⟩)
 obtain ⟨d0, b9, hm⟩ := aI hm
 refine cD b9 (fun (a2 : Int) f w => f 0 = Value.slice a1 trace.length c2 ∧ f 3 = i64 a2 ∧ aN G K (L) w) ?_ ?_
 ·exact ⟨rfl, rfl, hs⟩
 ·rintro a2 b2 f d1 a0 b3 ⟨a3, a4, a5⟩
  replace a0 : lM trace a2 = some b2 := a0
  unfold lM at a0
  refine aH (aH (aB (aC (aD a4) (aC (aD a3) (aC (bU (len := trace.length) cQ rfl) (aC (cE rfl rfl) (aF (aA ?_))))))))
  rcases aJ a0 with ⟨a6, a0⟩ | ⟨a6, a0⟩
  ·refine aO a6 rfl (aX (aA (aH (cK (aH (cH (fun f w => ∃ (a7 : Bool), oK a2 a7 = some b2 ∧ f 0 = Value.slice a1 trace.length c2 ∧ f 3 = i64 a2 ∧ f 22 = Value.bool a7 ∧ aN G K (L) w) ?_ ?_))))))
   ·rintro f d2 ⟨a7, a0, c0, c1, b4, b5⟩
    unfold oK at a0
    refine aA ?_
    rcases aJ a0 with ⟨a8, a0⟩ | ⟨a8, a0⟩
    ·refine aO a8 b4 (aH (aB (aC (aG (v := Value.bool false) rfl) (aF (aA (bB (bN (aQ (aQ ?_)))))))))
     have c3 := b3 _ (Option.some.inj a0).symm
     subst c3
     have hm : (some false) = some R := hm
     have c4 := Option.some.inj hm
     subst c4
     exact bN (aQ (aQ (aZ Tryz.results64 rfl ⟨rfl, b5⟩)))
    ·exact aM a8 b4 (aX (bG (aA (aB (aC (aD c1) (aC (cI rfl rfl) (aC (aG (v := i64 (wr (a2 + 1))) rfl) (aF (aA ⟨wr (a2 + 1), (Option.some.inj a0).symm, c0, rfl, b5⟩)))))))))
   refine aB (aC (aD a3) (aC (aD a4) ?_))
   obtain ⟨a9, b0, a0⟩ := aI a0
   refine aC (cU cQ rfl h3 rfl rfl rfl b0) ?_
   obtain ⟨d3, b6, c5⟩ := bX.el (sz := 1) rfl h3 b0
   cases c5
   refine aC (bL (t := 0) oI a5 b6 rfl rfl) ?_
   obtain ⟨c6, c7, a0⟩ := aI a0
   refine aW (vs := [cF a9]) Tryz.call112 rfl (aBr a5 c7) ?_
   rintro _ d4 ⟨rfl, b1⟩
   refine aC (dN rfl) (aC (aD (v := Value.bool (!c6)) rfl) ?_)
   rcases aJ a0 with ⟨c48, a0⟩ | ⟨c48, a0⟩
   ·exact aV (g := 16) c48 (by kernel_rfl) rfl (aV (g := 16) c48 (by kernel_rfl) rfl (aV (g := 16) c48 (by kernel_rfl) rfl (aV (g := 16) c48 (by kernel_rfl) rfl (aV (g := 16) c48 (by kernel_rfl) rfl (aC (bK (v := Value.bool true) c48 rfl rfl) (aF (aA ⟨true, a0, a3, a4, rfl, b1⟩)))))))
   ·exact bJ (g := 16) c48 (by kernel_rfl) rfl (aC (aD a3) (bJ (g := 16) c48 (by kernel_rfl) rfl (aC (aD a4) (bJ (g := 16) c48 (by kernel_rfl) rfl (aC (cU cQ rfl h3 rfl rfl rfl b0) (bJ (g := 16) c48 (by kernel_rfl) rfl (aC (bL (t := 0) oI b1 b6 rfl rfl) (bJ (g := 16) c48 (by kernel_rfl) rfl (aC (vN rfl rfl) (aC (bM (v := Value.bool (a9 == ([116, 97, 117] : bF))) c48 rfl rfl) (aF (aA ⟨a9 == ([116, 97, 117] : bF), a0, a3, a4, rfl, b1⟩))))))))))))
  ·refine aM a6 rfl (bY (aY (aY ?_)))
   have c8 := b3 _ (Option.some.inj a0).symm
   subst c8
   have hm : (sV) = some R := hm
   exact bO (aA ⟨hm, a5⟩)
theorem aFR {set : (List bF)} {R : Bool} (hs : aN G K (L) w) (h3 : bX K a1 c2 set) (hm : aBS set = some R) :
  Calls Tryz.prog 30 ([Value.slice a1 set.length c2] : List Value).toArray w (fW fun v w' => v = Value.bool R ∧ aN G K (L) w') := by
 refine aU Tryz.func30 rfl (by kernel_rfl) (by show (1 : Nat) ≤ 22; decide) ?_
 unfold aBS at hm
 refine aH (aB (aC (aG (v := Value.bool false) rfl) (aF (aA (aH (aH (aB (aC (aG (v := i64 1) rfl) (aF (aA (bC (fun f w => tM set = some R ∧ f 0 = Value.slice a1 set.length c2 ∧ aN G K (L) w) ?_ ?_)))))))))))
 ·rintro f w5 ⟨hm, e4, b3⟩
  unfold tM at hm
  refine aA (aH (aB (aC (aD e4) ?_)))
  obtain ⟨r7, q8, hm⟩ := aI hm
  refine aW (vs := [Value.slice a1 set.length c2]) Tryz.call64 rfl (aDx b3 h3 q8) ?_
  rintro _ w9 ⟨rfl, b6⟩
  refine aC (aG (v := Value.bool r7) rfl) (aF (aA ?_))
  have b7 := Option.some.inj hm
  subst b7
  exact bB (aZ Tryz.results30 rfl ⟨rfl, b6⟩)
 obtain ⟨d0, b8, hm⟩ := aI hm
 refine cD b8 (fun (a3 : Int) f w => f 0 = Value.slice a1 set.length c2 ∧ f 3 = i64 a3 ∧ aN G K (L) w) ?_ ?_
 ·exact ⟨rfl, rfl, hs⟩
 ·rintro a3 b9 f d1 a0 a8 ⟨a4, a5, a2⟩
  replace a0 : qK set a3 = some b9 := a0
  unfold qK at a0
  refine aH (aH (aB (aC (aD a5) (aC (aD a4) (aC (bU (len := set.length) cQ rfl) (aC (cE rfl rfl) (aF (aA ?_))))))))
  rcases aJ a0 with ⟨a6, a0⟩ | ⟨a6, a0⟩
  ·refine aO a6 rfl (aX (aA (aH (cK (aH (cW (C := fun w' => aN G K (L) w') bR (by kernel_rfl) (aN.mono a2 (dB.drew _)) (aS (fun _ a2 => aD a4) (aS (fun _ a2 => aD a5) (aS (fun _ a2 => lH rfl rfl) ?_)))))))))
   obtain ⟨d2, a9, a0⟩ := aI a0
   refine aS (fun _ a2 => cU cQ rfl h3 rfl rfl rfl a9) ?_
   obtain ⟨d3, c0, c1⟩ := bX.el (sz := 1) rfl h3 a9
   cases c1
   refine aS (fun _ a2 => bL (t := 0) oI a2 c0 rfl rfl) (aS (fun _ a2 => aD a4) (aS (fun _ a2 => aD a5) ?_))
   obtain ⟨d4, b0, a0⟩ := aI a0
   refine aS (fun _ a2 => cU cQ rfl h3 rfl rfl rfl b0) ?_
   obtain ⟨d5, c3, c4⟩ := bX.el (sz := 1) rfl h3 b0
   cases c4
   refine aS (fun _ a2 => bL (t := 0) oI a2 c3 rfl rfl) (aS (fun _ a2 => R_geqS rfl rfl) (dD (fun d6 b1 => (aA ?_))))
   rcases aJ a0 with ⟨a7, a0⟩ | ⟨a7, a0⟩
   ·refine aO a7 rfl (aH (aB (aC (aG (v := Value.bool false) rfl) (aF (aA (bB (bN (aQ (aQ ?_)))))))))
    have c5 := a8 _ (Option.some.inj a0).symm
    subst c5
    have hm : (some false) = some R := hm
    have c6 := Option.some.inj hm
    subst c6
    exact bN (aQ (aQ (aZ Tryz.results30 rfl ⟨rfl, b1⟩)))
   ·exact aM a7 rfl (aX (bG (aA (aB (aC (aD a5) (aC (cI rfl rfl) (aC (aG (v := i64 (wr (a3 + 1))) rfl) (aF (aA ⟨wr (a3 + 1), (Option.some.inj a0).symm, a4, rfl, b1⟩)))))))))
  ·refine aM a6 rfl (bY (aY (aY ?_)))
   have c7 := a8 _ (Option.some.inj a0).symm
   subst c7
   have hm : (tM set) = some R := hm
   exact bO (aA ⟨hm, a4, a2⟩)
end Gv
