/- Walks, printed by program. -/
import Derived.Test.YtnpdckpkipjngaaGreatDoorRLWa
import Derived.Test.YtnpdckpkipjngaaGreatDoorRMd
set_option linter.all false
namespace Gv
open Go Go.Proofs
set_option maxRecDepth 20000
set_option maxHeartbeats 1000000
variable {G : Env} {K : Hp} {L : List nV} {w : World} {a1 : Option Addr} {c2 : Nat}
theorem aBY {a : bF} {b : bF} {R : Int} (hs : aN G K (L) w)  (hm : sY a b = some R) :
  Calls Tryz.prog 80 ([cF a, cF b] : List Value).toArray w (fW fun v w' => v = i64 R ∧ aN G K (L) w') := by
 refine aU Tryz.func80 rfl (by kernel_rfl) (by show (2 : Nat) ≤ 18; decide) ?_
 unfold sY at hm
 refine aH (aB (aC (aG (v := i64 0) rfl) (aF (aA (aH (cK (aH (aB (aC (aD (v := cF a) rfl) (aC (aD (v := cF b) rfl) (aC (vN rfl rfl) (aC (aG (v := Value.bool (a == b)) rfl) (aF (aA ?_))))))))))))))
 rcases aJ hm with ⟨c1, hm⟩ | ⟨c1, hm⟩
 ·refine aO c1 rfl (aH (aB (aC (aG (v := i64 0) rfl) (aF (aA ?_)))))
  have a3 := Option.some.inj hm
  subst a3
  exact bB (bN (aQ (aZ Tryz.results80 rfl ⟨rfl, hs⟩)))
 ·refine aM c1 rfl (aH (aB (aC (aD (v := cF a) rfl) (aC (vN rfl rfl) (aC (aG (v := Value.bool (a == ([116, 97, 117] : bF))) rfl) (aF (aA ?_)))))))
  rcases aJ hm with ⟨c3, hm⟩ | ⟨c3, hm⟩
  ·refine aO c3 rfl (aH (aB (aC (aG (v := i64 (-1)) rfl) (aF (aA ?_)))))
   have a4 := Option.some.inj hm
   subst a4
   exact bB (bN (aQ (aZ Tryz.results80 rfl ⟨rfl, hs⟩)))
  ·refine aM c3 rfl (aH (aB (aC (aD (v := cF b) rfl) (aC (vN rfl rfl) (aC (aG (v := Value.bool (b == ([116, 97, 117] : bF))) rfl) (aF (aA ?_)))))))
   rcases aJ hm with ⟨c5, hm⟩ | ⟨c5, hm⟩
   ·refine aO c5 rfl (aH (aB (aC (aG (v := i64 1) rfl) (aF (aA ?_)))))
    have a5 := Option.some.inj hm
    subst a5
    exact bB (bN (aQ (aZ Tryz.results80 rfl ⟨rfl, hs⟩)))
   ·refine aM c5 rfl (aX (bG (aA (aH (aB (aC (aD (v := cF a) rfl) (aC (aD (v := cF b) rfl) ?_)))))))
    obtain ⟨r7, q8, hm⟩ := aI hm
    refine aW (vs := [cF a, cF b]) Tryz.call124 rfl (aHH hs q8) ?_
    rintro _ w9 ⟨rfl, a8⟩
    refine aC (aG (v := i64 r7) rfl) (aF (aA ?_))
    have a9 := Option.some.inj hm
    subst a9
    exact bB (aZ Tryz.results80 rfl ⟨rfl, a8⟩)
theorem tR {x_ : Int} {R : Bool} (hs : aN G K (L) w)  (hm : kX x_ = some R) :
  Calls Tryz.prog 157 ([i64 x_] : List Value).toArray w (fW fun v w' => v = Value.bool R ∧ aN G K (L) w') := by
 refine aU Tryz.func157 rfl (by kernel_rfl) (by show (1 : Nat) ≤ 6; decide) ?_
 unfold kX at hm
 refine aH (aB (aC (aG (v := Value.bool false) rfl) (aF (aA (aH (aB (aC (aD (v := i64 x_) rfl) (aC (aD (v := i64 x_) rfl) (aC (lS rfl rfl) (aC (aG (v := Value.bool (x_ != x_)) rfl) (aF (aA ?_))))))))))))
 have a0 := Option.some.inj hm
 subst a0
 exact bB (aZ Tryz.results157 rfl ⟨rfl, hs⟩)
theorem lK {x_ : Int} {y : Int} {R : Int} (hs : aN G K (L) w)  (hm : gM x_ y = some R) :
  Calls Tryz.prog 119 ([i64 x_, i64 y] : List Value).toArray w (fW fun v w' => v = i64 R ∧ aN G K (L) w') := by
 refine aU Tryz.func119 rfl (by kernel_rfl) (by show (2 : Nat) ≤ 20; decide) ?_
 unfold gM at hm
 refine aH (aB (aC (aG (v := i64 0) rfl) (aF (aA (aH (aB (aC (aD (v := i64 x_) rfl) ?_)))))))
 obtain ⟨r1, q2, hm⟩ := aI hm
 refine aW (vs := [i64 x_]) Tryz.call157 rfl (tR hs q2) ?_
 rintro _ w3 ⟨rfl, a9⟩
 refine aC (aG (v := Value.bool r1) rfl) (aF (aA (aH (aB (aC (aD (v := i64 y) rfl) ?_)))))
 obtain ⟨r5, q6, hm⟩ := aI hm
 refine aW (vs := [i64 y]) Tryz.call157 rfl (tR a9 q6) ?_
 rintro _ w7 ⟨rfl, a0⟩
 refine aC (aG (v := Value.bool r5) rfl) (aF (aA (aH (aH (aB (aC (aD (v := Value.bool r1) rfl) (aF (aA ?_))))))))
 rcases aJ hm with ⟨c9, hm⟩ | ⟨c9, hm⟩
 ·refine aO c9 rfl (aH (aH (aB (aC (aD (v := Value.bool r5) rfl) (aF (aA ?_))))))
  rcases aJ hm with ⟨a3, hm⟩ | ⟨a3, hm⟩
  ·refine aO a3 rfl (aH (aB (aC (aG (v := i64 0) rfl) (aF (aA ?_)))))
   have b1 := Option.some.inj hm
   subst b1
   exact bB (aQ (aQ (aZ Tryz.results119 rfl ⟨rfl, a0⟩)))
  ·refine aM a3 rfl (aX (aA (aH (aB (aC (aG (v := i64 (-1)) rfl) (aF (aA ?_)))))))
   have b2 := Option.some.inj hm
   subst b2
   exact bB (aQ (aZ Tryz.results119 rfl ⟨rfl, a0⟩))
 ·refine aM c9 rfl (aX (aA (aH (aH (aB (aC (aD (v := Value.bool r5) rfl) (aF (aA ?_))))))))
  rcases aJ hm with ⟨a4, hm⟩ | ⟨a4, hm⟩
  ·refine aO a4 rfl (aH (aB (aC (aG (v := i64 1) rfl) (aF (aA ?_)))))
   have b3 := Option.some.inj hm
   subst b3
   exact bB (aQ (aZ Tryz.results119 rfl ⟨rfl, a0⟩))
  ·refine aM a4 rfl (aX (aA (aH (aH (aB (aC (aD (v := i64 x_) rfl) (aC (aD (v := i64 y) rfl) (aC (cE rfl rfl) (aF (aA ?_))))))))))
   rcases aJ hm with ⟨a5, hm⟩ | ⟨a5, hm⟩
   ·refine aO a5 rfl (aH (aB (aC (aG (v := i64 (-1)) rfl) (aF (aA ?_)))))
    have b4 := Option.some.inj hm
    subst b4
    exact bB (aQ (aZ Tryz.results119 rfl ⟨rfl, a0⟩))
   ·refine aM a5 rfl (aX (aA (aH (aH (aB (aC (aD (v := i64 x_) rfl) (aC (aD (v := i64 y) rfl) (aC (oH rfl rfl) (aF (aA ?_))))))))))
    rcases aJ hm with ⟨a6, hm⟩ | ⟨a6, hm⟩
    ·refine aO a6 rfl (aH (aB (aC (aG (v := i64 1) rfl) (aF (aA ?_)))))
     have b5 := Option.some.inj hm
     subst b5
     exact bB (aQ (aZ Tryz.results119 rfl ⟨rfl, a0⟩))
    ·refine aM a6 rfl (aX (aA (aH (aB (aC (aG (v := i64 0) rfl) (aF (aA ?_)))))))
     have b6 := Option.some.inj hm
     subst b6
     exact bB (aZ Tryz.results119 rfl ⟨rfl, a0⟩)
theorem aCT {vals : (List Int)} {R : Int} (hs : aN G K (L) w) (h3 : bX K a1 c2 vals) (hm : sM vals = some R) :
  Calls Tryz.prog 118 ([Value.slice a1 vals.length c2] : List Value).toArray w (fW fun v w' => v = i64 R ∧ aN G K (L) w') := by
 refine aU Tryz.func118 rfl (by kernel_rfl) (by show (1 : Nat) ≤ 18; decide) ?_
 unfold sM at hm
 refine aH (aB (aC (aG (v := i64 0) rfl) (aF (aA (aH (aB (aC (aG (v := i64 0) rfl) (aF (aA (aH (aH (aB (aC (aD (v := Value.slice a1 vals.length c2) rfl) (aC (bU (len := vals.length) sl_199 rfl) (aC (aD (v := i64 0) rfl) (aF (aA (bC (fun f w => nE = some R ∧ f 3 = i64 0 ∧ aN G K (L) w) ?_ ?_))))))))))))))))))
 ·rintro f w5 ⟨hm, e4, b4⟩
  unfold nE at hm
  refine aA (aH (aB (aC (aD e4) (aC (aG (v := i64 0) rfl) (aF (aA ?_))))))
  have b5 := Option.some.inj hm
  subst b5
  exact bB (aZ Tryz.results118 rfl ⟨rfl, b4⟩)
 obtain ⟨c5, b6, hm⟩ := aI hm
 refine cD b6 (fun (a2 : Int) f w => f 3 = i64 0 ∧ f 6 = Value.slice a1 vals.length c2 ∧ f 7 = i64 (vals.length : Int) ∧ f 8 = i64 a2 ∧ aN G K (L) w) ?_ ?_
 ·exact ⟨rfl, rfl, rfl, rfl, hs⟩
 ·rintro a2 b7 f c6 a0 a9 ⟨a5, b0, b1, a6, a4⟩
  replace a0 : fS vals a2 = some b7 := a0
  unfold fS at a0
  refine aH (aB (aC (cE a6 b1) (aF (aA (aH ?_)))))
  rcases aJ a0 with ⟨a7, a0⟩ | ⟨a7, a0⟩
  ·refine aO a7 rfl (aX (aA (aH (cK (aH (aB ?_))))))
   obtain ⟨a3, b2, a0⟩ := aI a0
   refine aC (cU sl_199 rfl h3 b0 rfl a6 b2) ?_
   obtain ⟨c7, b8, b9⟩ := bX.el (sz := 1) rfl h3 b2
   cases b9
   refine aC (bL (t := 0) sc_3 a4 b8 rfl rfl) (aC (aG (v := i64 a3) rfl) (aF (aA (aH (aB (aC (aD (v := i64 a3) rfl) (aC (aD a5) (aC (lS rfl rfl) (aF (aA ?_))))))))))
   rcases aJ a0 with ⟨a8, a0⟩ | ⟨a8, a0⟩
   ·refine aO a8 rfl (aH (aB (aC (aD (v := i64 a3) rfl) (aC (aG (v := i64 a3) rfl) (aF (aA (bB (bN (aQ (aQ ?_))))))))))
    have c0 := a9 _ (Option.some.inj a0).symm
    subst c0
    have hm : (some a3) = some R := hm
    have c1 := Option.some.inj hm
    subst c1
    exact bN (aQ (aQ (aZ Tryz.results118 rfl ⟨rfl, a4⟩)))
   ·exact aM a8 rfl (aX (bG (aA (aB (aC (cI a6 rfl) (aC (aD (v := i64 (wr (a2 + 1))) rfl) (aF (aA ⟨wr (a2 + 1), (Option.some.inj a0).symm, a5, b0, b1, rfl, a4⟩))))))))
  ·refine aM a7 rfl (bY (aY (aY ?_)))
   have c3 := a9 _ (Option.some.inj a0).symm
   subst c3
   have hm : (nE) = some R := hm
   exact bO (aA ⟨hm, a5, a4⟩)
theorem xF {a : Edge} {b : Edge} {R : Int} (hs : aN G K (L) w)  (hm : qP a b = some R) :
  Calls Tryz.prog 77 ([Value.agg #[i64 a.From, i64 a.Label, i64 a.To], Value.agg #[i64 b.From, i64 b.Label, i64 b.To]] : List Value).toArray w (fW fun v w' => v = i64 R ∧ aN G K (L) w') := by
 refine aU Tryz.func77 rfl (by kernel_rfl) (by show (2 : Nat) ≤ 22; decide) ?_
 unfold qP at hm
 refine aH (aB (dU (v := Value.agg #[i64 a.From, i64 a.Label, i64 a.To]) (vs := [i64 a.From, i64 a.Label, i64 a.To]) hs rfl rfl (fun b1 w2 b5 => (dU (v := Value.agg #[i64 b.From, i64 b.Label, i64 b.To]) (vs := [i64 b.From, i64 b.Label, i64 b.To]) b5 rfl rfl (fun b4 w5 b6 => (aC (aG (v := i64 0) rfl) (aF (aA (aH ?_)))))))))
 obtain ⟨K7, b7, a5, b8, b9⟩ := aN.lendB (i := 0) b6 rfl
 obtain ⟨a7, a4, a6, a8, c0⟩ := aN.lendB (i := 0) b8 rfl
 refine gV (C := fun w' => ∃ L', aN G a7 L' w') [(0, 0), (1, 0), (2, 0), (3, 0), (5, 0), (6, 0), (7, 0), (8, 0), (10, 0), (11, 0), (12, 0), (13, 0), (4, 1), (9, 1), (14, 1), (15, 1), (16, 1), (17, 0)] bR (by kernel_rfl) (fun _ hg => ⟨_, aN.mono a8 hg⟩) (fun e0 c1 => ?_)
 have a0 := aN.mono a8 c1
 refine cL rfl (fun _ _ => bI (t' := 0) iB rfl rfl) (cL rfl (fun _ ⟨_, a0⟩ => bL (t := 0) cM a0 a6 rfl rfl) (cL rfl (fun _ _ => bI (t' := 0) iB rfl rfl) (cL rfl (fun _ ⟨_, a0⟩ => bL (t := 0) cM a0 (a5.mono a4) rfl rfl) (cL rfl (fun _ _ => bI (t' := 1) fP rfl rfl) (cL rfl (fun _ ⟨_, a0⟩ => bL (t := 1) cM a0 a6 rfl rfl) (cL rfl (fun _ _ => bI (t' := 1) fP rfl rfl) (cL rfl (fun _ ⟨_, a0⟩ => bL (t := 1) cM a0 (a5.mono a4) rfl rfl) (cL rfl (fun _ _ => bI (t' := 2) iU rfl rfl) (cL rfl (fun _ ⟨_, a0⟩ => bL (t := 2) cM a0 a6 rfl rfl) (cL rfl (fun _ _ => bI (t' := 2) iU rfl rfl) (cL rfl (fun _ ⟨_, a0⟩ => bL (t := 2) cM a0 (a5.mono a4) rfl rfl) (oB rfl ?_))))))))))))
 obtain ⟨a1, c2, hm⟩ := aI hm
 refine aW (vs := [i64 a.From, i64 b.From]) Tryz.call119 rfl (lK a0 c2) ?_
 rintro _ e1 ⟨rfl, a9⟩
 refine aF (aA ⟨⟨_, a9⟩, ?_⟩)
 refine oB rfl ?_
 obtain ⟨a2, c3, hm⟩ := aI hm
 refine aW (vs := [i64 a.Label, i64 b.Label]) Tryz.call119 rfl (lK a9 c3) ?_
 rintro _ e2 ⟨rfl, b0⟩
 refine aF (aA ⟨⟨_, b0⟩, ?_⟩)
 refine oB rfl ?_
 obtain ⟨a3, c4, hm⟩ := aI hm
 refine aW (vs := [i64 a.To, i64 b.To]) Tryz.call119 rfl (lK b0 c4) ?_
 rintro _ e3 ⟨rfl, hs32⟩
 refine aF (aA ⟨⟨_, hs32⟩, ?_⟩)
 refine oB rfl (eN (Kt := K) (xs := ([a1, a2, a3] : List Int)) (cs := [i64 a1, i64 a2, i64 a3]) (vs := [(0, i64 a1), (1, i64 a2), (2, i64 a3)]) sl_199 ez_3 rfl rfl hs32 rfl (by kernel_rfl) rfl rfl rfl ⟨rfl, rfl, rfl, trivial⟩ (fun b2 c5 (b3 : aN G a7 (aT 3 K b2 3 ([a1, a2, a3] : List Int) :: L) c5) => (aF (aA ⟨⟨_, b3⟩, ?_⟩))))
 refine oB rfl ?_
 obtain ⟨e4, e5, c6, c7, c8⟩ := aN.lendS (i := 0) b3 (Hp.le_trans b7 a4) rfl
 obtain ⟨c9, d0, hm⟩ := aI hm
 refine aW (vs := [Value.slice b2 ([a1, a2, a3] : List Int).length 3]) Tryz.call118 rfl (aCT c7 c6 d0) ?_
 rintro _ e6 ⟨rfl, d1⟩
 have hs45 := c8 _ _ d1
 refine aF (aA ⟨⟨_, hs45⟩, ?_⟩)
 refine cL rfl (fun _ _ => aG (v := i64 c9) rfl) (pS ?_)
 have d2 := c0 _ _ hs45
 have d3 := b9 _ _ d2
 refine aA ?_
 have d4 := Option.some.inj hm
 subst d4
 exact bB (aZ Tryz.results77 rfl ⟨rfl, (aN.arr 3 [] d3 rfl)⟩)
end Gv
