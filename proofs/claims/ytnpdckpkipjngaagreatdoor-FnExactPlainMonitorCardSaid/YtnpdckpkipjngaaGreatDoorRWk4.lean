/- Walks, printed by program. -/
import Derived.Test.YtnpdckpkipjngaaGreatDoorRWk3
set_option linter.all false
namespace Gv
open Go Go.Proofs
set_option maxRecDepth 20000
set_option maxHeartbeats 1000000
variable {G : Env} {K : Hp} {L : List nV} {w : World} {a1 a4 a7 a10 : Option Addr} {c2 c5 c8 c11 : Nat}
theorem rQ {s_ : bF} {suffix : bF} {R : Bool} (hs : aN G K (L) w)  (hm : fY s_ suffix = some R) :
  Calls Tryz.prog 244 ([cF s_, cF suffix] : List Value).toArray w (fW fun v w' => v = Value.bool R ∧ aN G K (L) w') := by
 refine aU Tryz.func244 rfl (by kernel_rfl) (by show (2 : Nat) ≤ 21; decide) ?_
 unfold fY at hm
 refine aH (aB (aC (aG (v := Value.bool false) rfl) (aF (aA (aH (cH (fun f w => ∃ (v1 : Bool), eF v1 = some R ∧ f 4 = Value.bool v1 ∧ aN G K (L) w) ?_ ?_))))))
 ·rintro f w3 ⟨v1, hm, e2, a4⟩
  unfold eF at hm
  refine aA ?_
  have a5 := Option.some.inj hm
  subst a5
  exact bB (aZ Tryz.results244 rfl ⟨e2, a4⟩)
 refine aB (aC (aD (v := cF s_) rfl) (aC (gK Tryz.runUnderlying9 rfl) (aC (aD (v := cF suffix) rfl) (aC (gK Tryz.runUnderlying9 rfl) (aC (tX rfl rfl) (aC (aD (v := Value.bool (decide ((suffix.length : Int) ≤ (s_.length : Int)))) rfl) ?_))))))
 rcases aJ hm with ⟨c6, hm⟩ | ⟨c6, hm⟩
 ·refine bH (g := 10) c6 (by kernel_rfl) rfl (aC (aD (v := cF s_) rfl) (bH (g := 10) c6 (by kernel_rfl) rfl (aC (aD (v := cF s_) rfl) (bH (g := 10) c6 (by kernel_rfl) rfl (aC (gK Tryz.runUnderlying9 rfl) (bH (g := 10) c6 (by kernel_rfl) rfl (aC (aD (v := cF suffix) rfl) (bH (g := 10) c6 (by kernel_rfl) rfl (aC (gK Tryz.runUnderlying9 rfl) (bH (g := 10) c6 (by kernel_rfl) rfl (aC (lH rfl rfl) (bH (g := 10) c6 (by kernel_rfl) rfl ?_))))))))))))
  obtain ⟨r7, q8, hm⟩ := aI hm
  exact aC (R_slSL Tryz.runUnderlying9 rfl rfl q8) (bH (g := 10) c6 (by kernel_rfl) rfl (aC (aD (v := cF suffix) rfl) (bH (g := 10) c6 (by kernel_rfl) rfl (aC (vN rfl rfl) (aC (bK (v := Value.bool (r7 == suffix)) c6 rfl rfl) (aC (aG (v := Value.bool (r7 == suffix)) rfl) (aF (aA ⟨r7 == suffix, hm, rfl, hs⟩))))))))
 ·exact bA (g := 10) c6 (by kernel_rfl) rfl (bA (g := 10) c6 (by kernel_rfl) rfl (bA (g := 10) c6 (by kernel_rfl) rfl (bA (g := 10) c6 (by kernel_rfl) rfl (bA (g := 10) c6 (by kernel_rfl) rfl (bA (g := 10) c6 (by kernel_rfl) rfl (bA (g := 10) c6 (by kernel_rfl) rfl (bA (g := 10) c6 (by kernel_rfl) rfl (bA (g := 10) c6 (by kernel_rfl) rfl (aC (bM (v := Value.bool false) c6 rfl rfl) (aC (aG (v := Value.bool false) rfl) (aF (aA ⟨false, hm, rfl, hs⟩))))))))))))
theorem qX {s_ : bF} {suffix : bF} {R : bF} (hs : aN G K (L) w)  (hm : fR s_ suffix = some R) :
  Calls Tryz.prog 208 ([cF s_, cF suffix] : List Value).toArray w (fW fun v w' => v = cF R ∧ aN G K (L) w') := by
 refine aU Tryz.func208 rfl (by kernel_rfl) (by show (2 : Nat) ≤ 16; decide) ?_
 unfold fR at hm
 refine aH (aB (aC (aG (v := cF ([] : bF)) rfl) (aF (aA (aH (aH (aB (aC (aD (v := cF s_) rfl) (aC (aD (v := cF suffix) rfl) ?_)))))))))
 obtain ⟨r1, q2, hm⟩ := aI hm
 refine aW (vs := [cF s_, cF suffix]) Tryz.call244 rfl (rQ hs q2) ?_
 rintro _ w3 ⟨rfl, a1⟩
 refine aF (aA ?_)
 rcases aJ hm with ⟨c5, hm⟩ | ⟨c5, hm⟩
 ·refine aO c5 rfl (aH (aB (aC (aD (v := cF s_) rfl) (aC (aD (v := cF s_) rfl) (aC (gK Tryz.runUnderlying9 rfl) (aC (aD (v := cF suffix) rfl) (aC (gK Tryz.runUnderlying9 rfl) (aC (lH rfl rfl) ?_))))))))
  obtain ⟨r6, q7, hm⟩ := aI hm
  refine aC (R_slSH Tryz.runUnderlying9 rfl rfl q7) (aC (aG (v := cF r6) rfl) (aF (aA ?_)))
  have a5 := Option.some.inj hm
  subst a5
  exact bB (aQ (aZ Tryz.results208 rfl ⟨rfl, a1⟩))
 ·refine aM c5 rfl (aX (aA (aH (aB (aC (aD (v := cF s_) rfl) (aC (aG (v := cF s_) rfl) (aF (aA ?_))))))))
  have a6 := Option.some.inj hm
  subst a6
  exact bB (aZ Tryz.results208 rfl ⟨rfl, a1⟩)
theorem zL {s_ : bF} {suffix : bF} {R : bF} (hs : aN G K (L) w)  (hm : jN s_ suffix = some R) :
  Calls Tryz.prog 155 ([cF s_, cF suffix] : List Value).toArray w (fW fun v w' => v = cF R ∧ aN G K (L) w') := by
 refine aU Tryz.func155 rfl (by kernel_rfl) (by show (2 : Nat) ≤ 8; decide) ?_
 unfold jN at hm
 refine aH (aB (aC (aG (v := cF ([] : bF)) rfl) (aF (aA (aH (aB (aC (aD (v := cF s_) rfl) (aC (aD (v := cF suffix) rfl) ?_))))))))
 obtain ⟨r1, q2, hm⟩ := aI hm
 refine aW (vs := [cF s_, cF suffix]) Tryz.call208 rfl (qX hs q2) ?_
 rintro _ w3 ⟨rfl, a2⟩
 refine aC (aG (v := cF r1) rfl) (aF (aA ?_))
 have a3 := Option.some.inj hm
 subst a3
 exact bB (aZ Tryz.results155 rfl ⟨rfl, a2⟩)
theorem aEc {s_ : bF} {R : (bF × (List Int) × Bool)} (hs : aN G K (L) w) (hG : G.lo = 0) (hm : aAb s_ = some R) :
  Calls Tryz.prog 117 ([cF s_] : List Value).toArray w (fW fun v w' => ∃ (ra0 : Option Addr) (rc0 : Nat), v = Value.tuple #[cF R.1, Value.slice ra0 R.2.1.length rc0, Value.bool R.2.2] ∧ aN G K (aT 2 K ra0 rc0 R.2.1 :: L) w') := by
 refine aU Tryz.func117 rfl (by kernel_rfl) (by show (1 : Nat) ≤ 43; decide) ?_
 unfold aAb at hm
 refine aH (aB (aC (aG (v := cF ([] : bF)) rfl) (aC (aG (v := Value.slice none 0 0) rfl) (aC (aG (v := Value.bool false) rfl) (aF (aA (aH (aB (aC (aD (v := cF s_) rfl) ?_)))))))))
 obtain ⟨r1, q2, hm⟩ := aI hm
 refine aW (vs := [cF s_, cF ([40] : bF)]) Tryz.call152 rfl (lib_Cut hs q2) ?_
 rintro _ w3 ⟨rfl, b5⟩
 refine aC (aD (v := Value.tuple #[cF r1.1, cF r1.2.1, Value.bool r1.2.2]) rfl) (aC (cZ rfl rfl) (aC (cZ rfl rfl) (aC (cZ rfl rfl) (aC (aG (v := cF r1.1) rfl) (aC (aG (v := cF r1.2.1) rfl) (aC (aG (v := Value.bool r1.2.2) rfl) (aF (aA (aH (aB (aC (aG (v := Value.slice none 0 0) rfl) (aF (aA (aCK (fun f w => ∃ (a1 : List Int) (a6 : Option Addr) (c7 : Nat), nD s_ r1 a1 = some R ∧ f 0 = cF s_ ∧ f 5 = cF r1.1 ∧ f 8 = Value.slice a6 a1.length c7 ∧ aN G K (aT 2 K a6 c7 a1 :: L) w) ?_ ?_))))))))))))))
 ·rintro f f0 ⟨a1, a6, c7, hm, e8, e9, a8, c2⟩
  unfold nD at hm
  refine aH (aH (aB (aC (aD e9) (aC (aD a8) ?_))))
  obtain ⟨f1, f2, c3, c4, c5⟩ := aN.lendS (i := 0) c2 (Hp.le_refl _) rfl
  obtain ⟨a2, c6, hm⟩ := aI hm
  refine aW (vs := [cF r1.1, Value.slice a6 a1.length c7]) Tryz.call156 rfl (aFn c4 hG c3 c6) ?_
  rintro _ f3 ⟨rfl, hs21⟩
  have b6 := c5 _ _ hs21
  refine aC (aD (v := Value.tuple #[cF a2.1, Value.bool a2.2]) rfl) (aC (cZ rfl rfl) (aC (cZ rfl rfl) (aC (aG (v := cF a2.1) rfl) (aC (aG (v := Value.bool a2.2) rfl) (aF (aA (aH (cH (fun f w => ∃ (a9 : Bool), nC r1 a1 a9 = some R ∧ f 5 = cF r1.1 ∧ f 8 = Value.slice a6 a1.length c7 ∧ f 40 = Value.bool a9 ∧ aN G K (aT 2 K a6 c7 a1 :: L) w) ?_ ?_))))))))
  ·rintro f f4 ⟨a9, hm, c8, c9, b7, b8⟩
   unfold nC at hm
   refine aA ?_
   rcases aJ hm with ⟨b0, hm⟩ | ⟨b0, hm⟩
   ·refine aO b0 b7 (aH (aB (aC (aG (v := cF ([] : bF)) rfl) (aC (aG (v := Value.slice none 0 0) rfl) (aC (aG (v := Value.bool false) rfl) (aF (aA ?_)))))))
    have d0 := aN.nil (α := Int) b8 2 K
    have d1 := Option.some.inj hm
    subst d1
    exact bB (aQ (retQ_3 Tryz.results117 rfl rfl rfl ⟨none, 0, rfl, (aN.arr 2 [0] d0 rfl)⟩))
   ·refine aM b0 b7 (aX (aA (aH (aB (aC (aD c8) (aC (aD c9) (aC (aG (v := cF r1.1) rfl) (aC (aG (v := Value.slice a6 a1.length c7) rfl) (aC (aG (v := Value.bool true) rfl) (aF (aA ?_)))))))))))
    have d2 := Option.some.inj hm
    subst d2
    exact bB (retQ_3 Tryz.results117 rfl rfl rfl ⟨a6, c7, rfl, b8⟩)
  refine aB (aC (aD (v := Value.bool a2.2) rfl) (aC (dN rfl) (aC (aD (v := Value.bool (!a2.2)) rfl) ?_)))
  rcases aJ hm with ⟨a3, hm⟩ | ⟨a3, hm⟩
  ·exact aV (g := 36) a3 (by kernel_rfl) rfl (aV (g := 36) a3 (by kernel_rfl) rfl (aV (g := 36) a3 (by kernel_rfl) rfl (aC (bK (v := Value.bool true) a3 rfl rfl) (aF (aA ⟨true, hm, e9, a8, rfl, b6⟩)))))
  ·exact bJ (g := 36) a3 (by kernel_rfl) rfl (aC (aD (v := cF a2.1) rfl) (bJ (g := 36) a3 (by kernel_rfl) rfl (aC (aD e8) (bJ (g := 36) a3 (by kernel_rfl) rfl (aC (aCL rfl rfl) (aC (bM (v := Value.bool (!(a2.1 == s_))) a3 rfl rfl) (aF (aA ⟨!(a2.1 == s_), hm, e9, a8, rfl, b6⟩))))))))
 refine aH (aB (aC (aD (v := Value.bool r1.2.2) rfl) (aF (aA ?_))))
 rcases aJ hm with ⟨b1, hm⟩ | ⟨b1, hm⟩
 ·refine aO b1 rfl (aH (aB (aC (aG (v := Value.bool false) rfl) (aF (aA (aH (aB (aC (aD (v := cF r1.2.1) rfl) ?_))))))))
  obtain ⟨d3, d4, hm⟩ := aI hm
  refine aW (vs := [cF r1.2.1, cF ([41] : bF)]) Tryz.call155 rfl (zL b5 d4) ?_
  rintro _ f5 ⟨rfl, d5⟩
  obtain ⟨d6, d7, hm⟩ := aI hm
  refine aW (vs := [cF d3, cF ([44] : bF)]) Tryz.call154 rfl (lib_Split d5 d7) ?_
  rintro _ f6 ⟨d8, d9, rfl, e0⟩
  obtain ⟨f7, f8, e1, e2, e3⟩ := aN.lendS (i := 0) e0 (Hp.le_refl _) rfl
  obtain ⟨r50, e4, hm⟩ := aI hm
  refine aW (vs := [Value.slice d8 d6.length d9]) Tryz.call153 rfl (aCU e2 hG e1 e4) ?_
  rintro _ f9 ⟨b2, b3, rfl, e5⟩
  have b9 := e3 _ _ e5
  refine aC (aD (v := Value.tuple #[Value.slice b2 r50.1.length b3, Value.bool r50.2]) rfl) (aC (cZ rfl rfl) (aC (cZ rfl rfl) (aC (aG (v := Value.slice b2 r50.1.length b3) rfl) (aC (aG (v := Value.bool r50.2) rfl) (aF (aA (aH (aB (aC (aD (v := Value.bool r50.2) rfl) (aC (dN rfl) (aF (aA ?_))))))))))))
  rcases aJ hm with ⟨b4, hm⟩ | ⟨b4, hm⟩
  ·refine aO b4 rfl (aH (aB (aC (aG (v := cF ([] : bF)) rfl) (aC (aG (v := Value.slice none 0 0) rfl) (aC (aG (v := Value.bool false) rfl) (aF (aA ?_)))))))
   have e6 := aN.nil (α := Int) b9 2 K
   have e7 := Option.some.inj hm
   subst e7
   exact bB (aQ (retQ_3 Tryz.results117 rfl rfl rfl ⟨none, 0, rfl, (aN.arr 3 [0] e6 rfl)⟩))
  ·exact aM b4 rfl (aX (aA ⟨r50.1, b2, b3, hm, rfl, rfl, rfl, (aN.arr 1 [] b9 rfl)⟩))
 ·refine aM b1 rfl ?_
  have hs60 := aN.nil (α := Int) b5 2 K
  exact aX (aA ⟨[], none, 0, hm, rfl, rfl, rfl, hs60⟩)
theorem aCb {s_ : bF} {R : Bool} (hs : aN G K (L) w) (hG : G.lo = 0) (hm : yD s_ = some R) :
  Calls Tryz.prog 75 ([cF s_] : List Value).toArray w (fW fun v w' => v = Value.bool R ∧ aN G K (L) w') := by
 refine aU Tryz.func75 rfl (by kernel_rfl) (by show (1 : Nat) ≤ 13; decide) ?_
 unfold yD at hm
 refine aH (aB (aC (aG (v := Value.bool false) rfl) (aF (aA (aH (aB (aC (aD (v := cF s_) rfl) ?_)))))))
 obtain ⟨r1, q2, hm⟩ := aI hm
 refine aW (vs := [cF s_]) Tryz.call117 rfl (aEc hs hG q2) ?_
 rintro _ w5 ⟨a3, c4, rfl, a4⟩
 refine aC (aD (v := Value.tuple #[cF r1.1, Value.slice a3 r1.2.1.length c4, Value.bool r1.2.2]) rfl) (aC (cZ rfl rfl) (aC (cZ rfl rfl) (aC (cZ rfl rfl) (aC (aG (v := cF r1.1) rfl) (aC (aG (v := Value.slice a3 r1.2.1.length c4) rfl) (aC (aG (v := Value.bool r1.2.2) rfl) (aF (aA (aH (aB (aC (aD (v := Value.bool r1.2.2) rfl) (aC (aG (v := Value.bool r1.2.2) rfl) (aF (aA ?_))))))))))))))
 have a5 := Option.some.inj hm
 subst a5
 exact bB (aZ Tryz.results75 rfl ⟨rfl, (aN.arr 1 [] a4 rfl)⟩)
theorem aGS {i : Int} {many : Int} {R : Bool} (hs : aN G K (L) w)  (hm : aDu i many = some R) :
  Calls Tryz.prog 76 ([i64 i, i64 many] : List Value).toArray w (fW fun v w' => v = Value.bool R ∧ aN G K (L) w') := by
 refine aU Tryz.func76 rfl (by kernel_rfl) (by show (2 : Nat) ≤ 9; decide) ?_
 unfold aDu at hm
 refine aH (aB (aC (aG (v := Value.bool false) rfl) (aF (aA (aH (aB (aC (aD (v := i64 i) rfl) (aC (aD (v := i64 many) rfl) (aC (lH rfl rfl) ?_)))))))))
 obtain ⟨r1, q2, hm⟩ := aI hm
 refine aW (vs := [i64 i, i64 0, i64 (wr (many - 1))]) Tryz.call73 rfl (sS hs q2) ?_
 rintro _ w3 ⟨rfl, a2⟩
 refine aC (aG (v := Value.bool r1) rfl) (aF (aA ?_))
 have a3 := Option.some.inj hm
 subst a3
 exact bB (aZ Tryz.results76 rfl ⟨rfl, a2⟩)
theorem lR {t : dC} {R : Bool} (hs : aN G K (L) w) (hG : G.lo = 0) (h3 : bX K a1 c2 t.Labels) (h6 : bX K a4 c5 t.Edges) (hm : mQ t = some R) :
  Calls Tryz.prog 33 ([Value.agg #[i64 t.States, i64 t.Initial, Value.slice a1 t.Labels.length c2, Value.slice a4 t.Edges.length c5]] : List Value).toArray w (fW fun v w' => v = Value.bool R ∧ aN G K (L) w') := by
 refine aU Tryz.func33 rfl (by kernel_rfl) (by show (1 : Nat) ≤ 109; decide) ?_
 unfold mQ at hm
 refine aH (aB (dU (v := Value.agg #[i64 t.States, i64 t.Initial, Value.slice a1 t.Labels.length c2, Value.slice a4 t.Edges.length c5]) (vs := [i64 t.States, i64 t.Initial, Value.slice a1 t.Labels.length c2, Value.slice a4 t.Edges.length c5]) hs rfl rfl (fun b7 w8 f0 => (aC (aG (v := Value.bool false) rfl) (aF (aA (aH (aH (cH (fun f w => ∃ (d5 : Bool), mP t d5 = some R ∧ f 1 = Value.pointer (some ⟨b7, 0, none⟩) ∧ f 30 = Value.bool d5 ∧ aN G K (box b7 30 [i64 t.States, i64 t.Initial, Value.slice a1 t.Labels.length c2, Value.slice a4 t.Edges.length c5] :: L) w) ?_ ?_)))))))))
 ·rintro f l8 ⟨d5, hm, f1, f2, d6⟩
  unfold mP at hm
  refine aA ?_
  rcases aJ hm with ⟨d7, hm⟩ | ⟨d7, hm⟩
  ·refine aO d7 f2 (aH (aB (aC (aG (v := Value.bool false) rfl) (aF (aA ?_)))))
   have h1 := Option.some.inj hm
   subst h1
   exact bB (aQ (aZ Tryz.results33 rfl ⟨rfl, (aN.arr 1 [] d6 rfl)⟩))
  ·refine aM d7 f2 (aX (aA (aH (aH (aB (aC (bI (t' := 2) gS f1 rfl) (aC (cA nY d6 (i := 0) rfl rfl rfl) (aC (bU (len := t.Labels.length) cQ rfl) (aC (aD (v := i64 0) rfl) (aF (aA (bC (fun f w => sN t = some R ∧ f 1 = Value.pointer (some ⟨b7, 0, none⟩) ∧ aN G K (box b7 30 [i64 t.States, i64 t.Initial, Value.slice a1 t.Labels.length c2, Value.slice a4 t.Edges.length c5] :: L) w) ?_ ?_))))))))))))
   ·rintro f l9 ⟨hm, f3, f4⟩
    unfold sN at hm
    refine aA (aH (aH (aB (aC (bI (t' := 3) dI f3 rfl) (aC (cA iC f4 (i := 0) rfl rfl rfl) (aC (bU (len := t.Edges.length) cR rfl) (aC (aD (v := i64 0) rfl) (aF (aA (bC (fun f w => wI = some R ∧ aN G K (L) w) ?_ ?_))))))))))
    ·rintro f m0 ⟨hm, h2⟩
     unfold wI at hm
     refine aA (aH (aB (aC (aG (v := Value.bool true) rfl) (aF (aA ?_)))))
     have h4 := Option.some.inj hm
     subst h4
     exact bB (aZ Tryz.results33 rfl ⟨rfl, h2⟩)
    obtain ⟨m1, h5, hm⟩ := aI hm
    refine cD h5 (fun (b8 : Int) f w => f 1 = Value.pointer (some ⟨b7, 0, none⟩) ∧ f 65 = Value.slice a4 t.Edges.length c5 ∧ f 66 = i64 (t.Edges.length : Int) ∧ f 67 = i64 b8 ∧ aN G K (box b7 30 [i64 t.States, i64 t.Initial, Value.slice a1 t.Labels.length c2, Value.slice a4 t.Edges.length c5] :: L) w) ?_ ?_
    ·exact ⟨f3, rfl, rfl, rfl, f4⟩
    ·rintro b8 f5 f m2 a2 f6 ⟨c0, c4, c6, c1, d8⟩
     replace a2 : pK t b8 = some f5 := a2
     unfold pK at a2
     refine aH (aB (aC (cE c1 c6) (aF (aA (aH ?_)))))
     rcases aJ a2 with ⟨d9, a2⟩ | ⟨d9, a2⟩
     ·refine aO d9 rfl (aX (aA (aH (cK (aH (aB (aC (aD c1) ?_)))))))
      obtain ⟨a5, f7, a2⟩ := aI a2
      refine aC (cU cR rfl h6 c4 rfl c1 f7) ?_
      obtain ⟨m3, h7, h8⟩ := bX.el (sz := 3) rfl h6 f7
      cases h8
      refine aC (fO (t := 0) (vs := [i64 a5.From, i64 a5.Label, i64 a5.To]) qC d8 h7 rfl rfl rfl) (cG (vs := [i64 0, i64 0, i64 0]) Tryz.zeroValue63 d8 rfl (fun f8 m4 h9 => (aC (aG (v := i64 b8) rfl) (cC (i := 0) (ns := [i64 a5.From, i64 a5.Label, i64 a5.To]) (us := [i64 a5.From, i64 a5.Label, i64 a5.To]) Tryz.sizeOf63 h9 rfl rfl rfl rfl rfl (dT rfl) rfl rfl (fun i0 (a0 : aN G K (box f8 63 [i64 a5.From, i64 a5.Label, i64 a5.To] :: box b7 30 [i64 t.States, i64 t.Initial, Value.slice a1 t.Labels.length c2, Value.slice a4 t.Edges.length c5] :: L) i0) => (aF (aA (aH (cH (fun f w => ∃ (e0 : Bool), kQ b8 e0 = some f5 ∧ f 1 = Value.pointer (some ⟨b7, 0, none⟩) ∧ f 65 = Value.slice a4 t.Edges.length c5 ∧ f 66 = i64 (t.Edges.length : Int) ∧ f 67 = i64 b8 ∧ f 107 = Value.bool e0 ∧ aN G K (box b7 30 [i64 t.States, i64 t.Initial, Value.slice a1 t.Labels.length c2, Value.slice a4 t.Edges.length c5] :: L) w) ?_ ?_)))))))))
      ·rintro f m5 ⟨e0, a2, i1, i2, i3, i4, f9, g0⟩
       unfold kQ at a2
       refine aA ?_
       rcases aJ a2 with ⟨e1, a2⟩ | ⟨e1, a2⟩
       ·refine aO e1 f9 (aH (aB (aC (aG (v := Value.bool false) rfl) (aF (aA (bB (bN (aQ (aQ ?_)))))))))
        have i5 := f6 _ (Option.some.inj a2).symm
        subst i5
        have hm : (some false) = some R := hm
        have i6 := Option.some.inj hm
        subst i6
        exact bN (aQ (aQ (aZ Tryz.results33 rfl ⟨rfl, (aN.arr 1 [] g0 rfl)⟩)))
       ·exact aM e1 f9 (aX (bG (aA (aB (aC (cI i4 rfl) (aC (aD (v := i64 (wr (b8 + 1))) rfl) (aF (aA ⟨wr (b8 + 1), (Option.some.inj a2).symm, i1, i2, i3, rfl, g0⟩))))))))
      refine cW (C := fun w' => aN G K (box f8 63 [i64 a5.From, i64 a5.Label, i64 a5.To] :: box b7 30 [i64 t.States, i64 t.Initial, Value.slice a1 t.Labels.length c2, Value.slice a4 t.Edges.length c5] :: L) w') bR (by kernel_rfl) (aN.mono a0 (dB.drew _)) (aS (fun _ a0 => dR (us := [i64 t.States, i64 t.Initial, Value.slice a1 t.Labels.length c2, Value.slice a4 t.Edges.length c5]) gT a0 (i := 1) rfl c0 rfl rfl) (aS (fun _ a0 => bI (t' := 0) iB rfl rfl) (aS (fun _ a0 => cA cM a0 (i := 0) rfl rfl rfl) ?_)))
      obtain ⟨g1, i7, a2⟩ := aI a2
      refine lC (vs := [Value.agg #[i64 t.States, i64 t.Initial, Value.slice a1 t.Labels.length c2, Value.slice a4 t.Edges.length c5], i64 a5.From]) (v := Value.bool g1) Tryz.call74 rfl (fun _ a0 => (tD a0 h3 h6 i7)) (aS (fun _ a0 => dN rfl) (aS (fun _ a0 => aD (v := Value.bool (!g1)) rfl) ?_))
      rcases aJ a2 with ⟨b1, a2⟩ | ⟨b1, a2⟩
      ·refine aR (g := 77) rfl rfl (bQ b1) (aR (g := 77) rfl rfl (bQ b1) (aR (g := 77) rfl rfl (bQ b1) (aR (g := 77) rfl rfl (bQ b1) (aR (g := 77) rfl rfl (bQ b1) (aS (fun _ a0 => bK (v := Value.bool true) b1 rfl rfl) (aS (fun _ a0 => aD (v := Value.bool true) rfl) (aR (g := 84) rfl rfl (bQ (rfl : true = true)) (aR (g := 84) rfl rfl (bQ (rfl : true = true)) (aR (g := 84) rfl rfl (bQ (rfl : true = true)) (aR (g := 84) rfl rfl (bQ (rfl : true = true)) (aR (g := 84) rfl rfl (bQ (rfl : true = true)) (aR (g := 84) rfl rfl (bQ (rfl : true = true)) (aR (g := 84) rfl rfl (bQ (rfl : true = true)) (aS (fun _ a0 => bK (v := Value.bool true) (rfl : true = true) rfl rfl) (aS (fun _ a0 => aD (v := Value.bool true) rfl) (aR (g := 93) rfl rfl (bQ (rfl : true = true)) (aR (g := 93) rfl rfl (bQ (rfl : true = true)) (aR (g := 93) rfl rfl (bQ (rfl : true = true)) (bE (g := 96) rfl rfl (bE (g := 96) rfl rfl (bE (g := 96) rfl rfl (bE (g := 96) rfl rfl (bE (g := 96) rfl rfl ?_)))))))))))))))))))))))
       exact bE (g := 96) rfl rfl (bE (g := 96) rfl rfl (bE (g := 96) rfl rfl (bE (g := 96) rfl rfl (aR (g := 93) rfl rfl (bQ (rfl : true = true)) (aS (fun _ a0 => bK (v := Value.bool true) (rfl : true = true) rfl rfl) (dD (fun m6 i8 => (aA ⟨true, a2, c0, c4, c6, c1, rfl, (aN.arr 1 [] i8 rfl)⟩))))))))
      ·refine bD (g := 77) rfl rfl (bP b1) (aS (fun _ a0 => dR (us := [i64 t.States, i64 t.Initial, Value.slice a1 t.Labels.length c2, Value.slice a4 t.Edges.length c5]) gT a0 (i := 1) rfl c0 rfl rfl) (bD (g := 77) rfl rfl (bP b1) (aS (fun _ a0 => bI (t' := 2) iU rfl rfl) (bD (g := 77) rfl rfl (bP b1) (aS (fun _ a0 => cA cM a0 (i := 0) rfl rfl rfl) (bD (g := 77) rfl rfl (bP b1) ?_))))))
       obtain ⟨e2, i9, a2⟩ := aI a2
       refine lC (vs := [Value.agg #[i64 t.States, i64 t.Initial, Value.slice a1 t.Labels.length c2, Value.slice a4 t.Edges.length c5], i64 a5.To]) (v := Value.bool e2) Tryz.call74 rfl (fun _ a0 => (tD a0 h3 h6 i9)) (bD (g := 77) rfl rfl (bP b1) (aS (fun _ a0 => dN rfl) (aS (fun _ a0 => bM (v := Value.bool (!e2)) b1 rfl rfl) (aS (fun _ a0 => aD (v := Value.bool (!e2)) rfl) ?_))))
       rcases aJ a2 with ⟨a8, a2⟩ | ⟨a8, a2⟩
       ·refine aR (g := 84) rfl rfl (bQ a8) (aR (g := 84) rfl rfl (bQ a8) (aR (g := 84) rfl rfl (bQ a8) (aR (g := 84) rfl rfl (bQ a8) (aR (g := 84) rfl rfl (bQ a8) (aR (g := 84) rfl rfl (bQ a8) (aR (g := 84) rfl rfl (bQ a8) (aS (fun _ a0 => bK (v := Value.bool true) a8 rfl rfl) (aS (fun _ a0 => aD (v := Value.bool true) rfl) (aR (g := 93) rfl rfl (bQ (rfl : true = true)) (aR (g := 93) rfl rfl (bQ (rfl : true = true)) (aR (g := 93) rfl rfl (bQ (rfl : true = true)) (bE (g := 96) rfl rfl (bE (g := 96) rfl rfl (bE (g := 96) rfl rfl (bE (g := 96) rfl rfl (bE (g := 96) rfl rfl (bE (g := 96) rfl rfl (bE (g := 96) rfl rfl (bE (g := 96) rfl rfl (bE (g := 96) rfl rfl (aR (g := 93) rfl rfl (bQ (rfl : true = true)) (aS (fun _ a0 => bK (v := Value.bool true) (rfl : true = true) rfl rfl) (dD ?_)))))))))))))))))))))))
        intro m7 j0
        exact aA ⟨true, a2, c0, c4, c6, c1, rfl, (aN.arr 1 [] j0 rfl)⟩
       ·refine bD (g := 84) rfl rfl (bP a8) (aS (fun _ a0 => bI (t' := 1) fP rfl rfl) (bD (g := 84) rfl rfl (bP a8) (aS (fun _ a0 => cA cM a0 (i := 0) rfl rfl rfl) (bD (g := 84) rfl rfl (bP a8) (aS (fun _ a0 => bI (t' := 2) gS c0 rfl) (bD (g := 84) rfl rfl (bP a8) (aS (fun _ a0 => cA nY a0 (i := 1) rfl rfl rfl) (bD (g := 84) rfl rfl (bP a8) (aS (fun _ a0 => bU (len := t.Labels.length) cQ rfl) (bD (g := 84) rfl rfl (bP a8) ?_))))))))))
        obtain ⟨e3, j1, a2⟩ := aI a2
        refine lC (vs := [i64 a5.Label, i64 (t.Labels.length : Int)]) (v := Value.bool e3) Tryz.call76 rfl (fun _ a0 => (aGS a0 j1)) (bD (g := 84) rfl rfl (bP a8) (aS (fun _ a0 => dN rfl) (aS (fun _ a0 => bM (v := Value.bool (!e3)) a8 rfl rfl) (aS (fun _ a0 => aD (v := Value.bool (!e3)) rfl) ?_))))
        rcases aJ a2 with ⟨b2, a2⟩ | ⟨b2, a2⟩
        ·exact aR (g := 93) rfl rfl (bQ b2) (aR (g := 93) rfl rfl (bQ b2) (aR (g := 93) rfl rfl (bQ b2) (bE (g := 96) rfl rfl (bE (g := 96) rfl rfl (bE (g := 96) rfl rfl (bE (g := 96) rfl rfl (bE (g := 96) rfl rfl (bE (g := 96) rfl rfl (bE (g := 96) rfl rfl (bE (g := 96) rfl rfl (bE (g := 96) rfl rfl (aR (g := 93) rfl rfl (bQ b2) (aS (fun _ a0 => bK (v := Value.bool true) b2 rfl rfl) (dD (fun m8 j2 => (aA ⟨true, a2, c0, c4, c6, c1, rfl, (aN.arr 1 [] j2 rfl)⟩))))))))))))))))
        ·refine bD (g := 93) rfl rfl (bP b2) (aS (fun _ a0 => aD (v := i64 b8) rfl) (bD (g := 93) rfl rfl (bP b2) (aS (fun _ a0 => oH rfl rfl) (bD (g := 93) rfl rfl (bP b2) (aS (fun _ a0 => aD (v := Value.bool (decide (0 < b8))) rfl) ?_)))))
         rcases aJ a2 with ⟨a6, a2⟩ | ⟨a6, a2⟩
         ·refine bD (g := 96) rfl rfl a6 (aS (fun _ a0 => bI (t' := 3) dI c0 rfl) (bD (g := 96) rfl rfl a6 (aS (fun _ a0 => cA iC a0 (i := 1) rfl rfl rfl) (bD (g := 96) rfl rfl a6 (aS (fun _ a0 => aD (v := i64 b8) rfl) (bD (g := 96) rfl rfl a6 (aS (fun _ a0 => lH rfl rfl) (bD (g := 96) rfl rfl a6 ?_))))))))
          obtain ⟨c7, g2, a2⟩ := aI a2
          refine aS (fun _ a0 => cU cR rfl h6 rfl rfl rfl g2) ?_
          obtain ⟨m9, j3, j4⟩ := bX.el (sz := 3) rfl h6 g2
          cases j4
          refine bD (g := 96) rfl rfl a6 (aS (fun _ a0 => fO (t := 0) (vs := [i64 c7.From, i64 c7.Label, i64 c7.To]) qC a0 j3 rfl rfl rfl) (bD (g := 96) rfl rfl a6 (aS (fun _ a0 => dR (us := [i64 a5.From, i64 a5.Label, i64 a5.To]) qC a0 (i := 0) rfl rfl rfl rfl) (bD (g := 96) rfl rfl a6 ?_))))
          obtain ⟨d3, j5, a2⟩ := aI a2
          exact lC (vs := [Value.agg #[i64 c7.From, i64 c7.Label, i64 c7.To], Value.agg #[i64 a5.From, i64 a5.Label, i64 a5.To]]) (v := i64 d3) Tryz.call77 rfl (fun _ a0 => (xF a0 j5)) (bD (g := 96) rfl rfl a6 (aS (fun _ a0 => tX rfl rfl) (bD (g := 93) rfl rfl (bP b2) (aS (fun _ a0 => bK (v := Value.bool (decide (0 ≤ d3))) a6 rfl rfl) (aS (fun _ a0 => bM (v := Value.bool (decide (0 ≤ d3))) b2 rfl rfl) (dD (fun n0 j6 => (aA ⟨decide (0 ≤ d3), a2, c0, c4, c6, c1, rfl, (aN.arr 1 [] j6 rfl)⟩))))))))
         ·exact aR (g := 96) rfl rfl (bV a6) (aR (g := 96) rfl rfl (bV a6) (aR (g := 96) rfl rfl (bV a6) (aR (g := 96) rfl rfl (bV a6) (aR (g := 96) rfl rfl (bV a6) (aR (g := 96) rfl rfl (bV a6) (aR (g := 96) rfl rfl (bV a6) (aR (g := 96) rfl rfl (bV a6) (aR (g := 96) rfl rfl (bV a6) (bD (g := 93) rfl rfl (bP b2) (aS (fun _ a0 => bM (v := Value.bool false) a6 rfl rfl) (aS (fun _ a0 => bM (v := Value.bool false) b2 rfl rfl) (dD (fun n1 j7 => (aA ⟨false, a2, c0, c4, c6, c1, rfl, (aN.arr 1 [] j7 rfl)⟩))))))))))))))
     ·refine aM d9 rfl (bY (aY (aY ?_)))
      have j8 := f6 _ (Option.some.inj a2).symm
      subst j8
      have hm : (wI) = some R := hm
      exact bO (aA ⟨hm, (aN.arr 1 [] d8 rfl)⟩)
   obtain ⟨n2, j9, hm⟩ := aI hm
   refine cD j9 (fun (b0 : Int) f w => f 1 = Value.pointer (some ⟨b7, 0, none⟩) ∧ f 32 = Value.slice a1 t.Labels.length c2 ∧ f 33 = i64 (t.Labels.length : Int) ∧ f 34 = i64 b0 ∧ aN G K (box b7 30 [i64 t.States, i64 t.Initial, Value.slice a1 t.Labels.length c2, Value.slice a4 t.Edges.length c5] :: L) w) ?_ ?_
   ·exact ⟨f1, rfl, rfl, rfl, d6⟩
   ·rintro b0 g3 f n3 a3 g4 ⟨c8, d1, d2, c3, e4⟩
    replace a3 : pL t b0 = some g3 := a3
    unfold pL at a3
    refine aH (aB (aC (cE c3 d2) (aF (aA (aH ?_)))))
    rcases aJ a3 with ⟨e5, a3⟩ | ⟨e5, a3⟩
    ·refine aO e5 rfl (aX (aA (aH (cK (aH (aB (aC (aD c3) ?_)))))))
     obtain ⟨b3, g5, a3⟩ := aI a3
     refine aC (cU cQ rfl h3 d1 rfl c3 g5) ?_
     obtain ⟨n4, k0, k1⟩ := bX.el (sz := 1) rfl h3 g5
     cases k1
     refine aC (bL (t := 0) oI e4 k0 rfl rfl) (aC (aG (v := i64 b0) rfl) (aC (aG (v := cF b3) rfl) (aF (aA (aH (cH (fun f w => ∃ (e6 : Bool), mO b0 e6 = some g3 ∧ f 1 = Value.pointer (some ⟨b7, 0, none⟩) ∧ f 32 = Value.slice a1 t.Labels.length c2 ∧ f 33 = i64 (t.Labels.length : Int) ∧ f 34 = i64 b0 ∧ f 62 = Value.bool e6 ∧ aN G K (box b7 30 [i64 t.States, i64 t.Initial, Value.slice a1 t.Labels.length c2, Value.slice a4 t.Edges.length c5] :: L) w) ?_ ?_))))))
     ·rintro f n5 ⟨e6, a3, k2, k3, k4, k5, g6, g7⟩
      unfold mO at a3
      refine aA ?_
      rcases aJ a3 with ⟨e7, a3⟩ | ⟨e7, a3⟩
      ·refine aO e7 g6 (aH (aB (aC (aG (v := Value.bool false) rfl) (aF (aA (bB (bN (aQ (aQ ?_)))))))))
       have k6 := g4 _ (Option.some.inj a3).symm
       subst k6
       have hm : (some false) = some R := hm
       have k7 := Option.some.inj hm
       subst k7
       exact bN (aQ (aQ (aZ Tryz.results33 rfl ⟨rfl, (aN.arr 1 [] g7 rfl)⟩)))
      ·exact aM e7 g6 (aX (bG (aA (aB (aC (cI k5 rfl) (aC (aD (v := i64 (wr (b0 + 1))) rfl) (aF (aA ⟨wr (b0 + 1), (Option.some.inj a3).symm, k2, k3, k4, rfl, g7⟩))))))))
     refine aB (aC (aD (v := cF b3) rfl) ?_)
     obtain ⟨k8, k9, a3⟩ := aI a3
     refine aW (vs := [cF b3]) Tryz.call75 rfl (aCb e4 hG k9) ?_
     rintro _ n6 ⟨rfl, c9⟩
     refine aC (dN rfl) (aC (aD (v := Value.bool (!k8)) rfl) ?_)
     rcases aJ a3 with ⟨b4, a3⟩ | ⟨b4, a3⟩
     ·exact aV (g := 42) b4 (by kernel_rfl) rfl (aV (g := 42) b4 (by kernel_rfl) rfl (aV (g := 42) b4 (by kernel_rfl) rfl (aV (g := 42) b4 (by kernel_rfl) rfl (aV (g := 42) b4 (by kernel_rfl) rfl (aC (bK (v := Value.bool true) b4 rfl rfl) (aC (aD (v := Value.bool true) rfl) (aV (g := 49) (rfl : true = true) (by kernel_rfl) rfl (aV (g := 49) (rfl : true = true) (by kernel_rfl) rfl (aV (g := 49) (rfl : true = true) (by kernel_rfl) rfl (fD (g := 52) rfl rfl (fD (g := 52) rfl rfl (fD (g := 52) rfl rfl (fD (g := 52) rfl rfl (fD (g := 52) rfl rfl (fD (g := 52) rfl rfl (fD (g := 52) rfl rfl (fD (g := 52) rfl rfl (aV (g := 49) (rfl : true = true) (by kernel_rfl) rfl (aC (bK (v := Value.bool true) (rfl : true = true) rfl rfl) (aF (aA ⟨true, a3, c8, d1, d2, c3, rfl, c9⟩)))))))))))))))))))))
     ·refine bJ (g := 42) b4 (by kernel_rfl) rfl (aC (aD (v := cF b3) rfl) (bJ (g := 42) b4 (by kernel_rfl) rfl (aC (vN rfl rfl) (bJ (g := 42) b4 (by kernel_rfl) rfl (aC (aD (v := i64 b0) rfl) (bJ (g := 42) b4 (by kernel_rfl) rfl (aC (kC rfl rfl) (bJ (g := 42) b4 (by kernel_rfl) rfl (aC (R_neqB Tryz.runUnderlying4 rfl rfl) (aC (bM (v := Value.bool ((b3 == ([116, 97, 117] : bF)) != (b0 == 0))) b4 rfl rfl) (aC (aD (v := Value.bool ((b3 == ([116, 97, 117] : bF)) != (b0 == 0))) rfl) ?_)))))))))))
      rcases aJ a3 with ⟨b5, a3⟩ | ⟨b5, a3⟩
      ·exact aV (g := 49) b5 (by kernel_rfl) rfl (aV (g := 49) b5 (by kernel_rfl) rfl (aV (g := 49) b5 (by kernel_rfl) rfl (fD (g := 52) rfl rfl (fD (g := 52) rfl rfl (fD (g := 52) rfl rfl (fD (g := 52) rfl rfl (fD (g := 52) rfl rfl (fD (g := 52) rfl rfl (fD (g := 52) rfl rfl (fD (g := 52) rfl rfl (aV (g := 49) b5 (by kernel_rfl) rfl (aC (bK (v := Value.bool true) b5 rfl rfl) (aF (aA ⟨true, a3, c8, d1, d2, c3, rfl, c9⟩))))))))))))))
      ·refine bJ (g := 49) b5 (by kernel_rfl) rfl (aC (aD (v := i64 b0) rfl) (bJ (g := 49) b5 (by kernel_rfl) rfl (aC (oH rfl rfl) (bJ (g := 49) b5 (by kernel_rfl) rfl (aC (aD (v := Value.bool (decide (1 < b0))) rfl) ?_)))))
       rcases aJ a3 with ⟨a7, a3⟩ | ⟨a7, a3⟩
       ·refine bH (g := 52) a7 (by kernel_rfl) rfl (aC (aD (v := cF b3) rfl) (bH (g := 52) a7 (by kernel_rfl) rfl (aC (bI (t' := 2) gS c8 rfl) (bH (g := 52) a7 (by kernel_rfl) rfl (aC (cA nY c9 (i := 0) rfl rfl rfl) (bH (g := 52) a7 (by kernel_rfl) rfl (aC (aD (v := i64 b0) rfl) (bH (g := 52) a7 (by kernel_rfl) rfl (aC (lH rfl rfl) (bH (g := 52) a7 (by kernel_rfl) rfl ?_))))))))))
        obtain ⟨d0, g8, a3⟩ := aI a3
        refine aC (cU cQ rfl h3 rfl rfl rfl g8) ?_
        obtain ⟨n7, l0, l1⟩ := bX.el (sz := 1) rfl h3 g8
        cases l1
        exact bH (g := 52) a7 (by kernel_rfl) rfl (aC (bL (t := 0) oI c9 l0 rfl rfl) (bH (g := 52) a7 (by kernel_rfl) rfl (aC (R_leqS rfl rfl) (bJ (g := 49) b5 (by kernel_rfl) rfl (aC (bK (v := Value.bool (vI b3 d0 || b3 == d0)) a7 rfl rfl) (aC (bM (v := Value.bool (vI b3 d0 || b3 == d0)) b5 rfl rfl) (aF (aA ⟨(vI b3 d0 || b3 == d0), a3, c8, d1, d2, c3, rfl, c9⟩))))))))
       ·exact bA (g := 52) a7 (by kernel_rfl) rfl (bA (g := 52) a7 (by kernel_rfl) rfl (bA (g := 52) a7 (by kernel_rfl) rfl (bA (g := 52) a7 (by kernel_rfl) rfl (bA (g := 52) a7 (by kernel_rfl) rfl (bA (g := 52) a7 (by kernel_rfl) rfl (bA (g := 52) a7 (by kernel_rfl) rfl (bA (g := 52) a7 (by kernel_rfl) rfl (bJ (g := 49) b5 (by kernel_rfl) rfl (aC (bM (v := Value.bool false) a7 rfl rfl) (aC (bM (v := Value.bool false) b5 rfl rfl) (aF (aA ⟨false, a3, c8, d1, d2, c3, rfl, c9⟩))))))))))))
    ·refine aM e5 rfl (bY (aY (aY ?_)))
     have l2 := g4 _ (Option.some.inj a3).symm
     subst l2
     have hm : (sN t) = some R := hm
     exact bO (aA ⟨hm, c8, e4⟩)
 refine aB (aC (bI (t' := 0) fX rfl rfl) (aC (cA cM f0 (i := 0) rfl rfl rfl) ?_))
 obtain ⟨l3, l4, hm⟩ := aI hm
 refine aW (vs := [i64 t.States, i64 1, i64 40]) Tryz.call73 rfl (sS f0 l4) ?_
 rintro _ n8 ⟨rfl, d4⟩
 refine aC (dN rfl) (aC (aD (v := Value.bool (!l3)) rfl) ?_)
 rcases aJ hm with ⟨b6, hm⟩ | ⟨b6, hm⟩
 ·exact aV (g := 11) b6 (by kernel_rfl) rfl (aV (g := 11) b6 (by kernel_rfl) rfl (aV (g := 11) b6 (by kernel_rfl) rfl (aV (g := 11) b6 (by kernel_rfl) rfl (aV (g := 11) b6 (by kernel_rfl) rfl (aC (bK (v := Value.bool true) b6 rfl rfl) (aC (aD (v := Value.bool true) rfl) (aV (g := 18) (rfl : true = true) (by kernel_rfl) rfl (aV (g := 18) (rfl : true = true) (by kernel_rfl) rfl (aV (g := 18) (rfl : true = true) (by kernel_rfl) rfl (aV (g := 18) (rfl : true = true) (by kernel_rfl) rfl (aV (g := 18) (rfl : true = true) (by kernel_rfl) rfl (aC (bK (v := Value.bool true) (rfl : true = true) rfl rfl) (aC (aD (v := Value.bool true) rfl) (aV (g := 25) (rfl : true = true) (by kernel_rfl) rfl (aV (g := 25) (rfl : true = true) (by kernel_rfl) rfl (aV (g := 25) (rfl : true = true) (by kernel_rfl) rfl (aV (g := 25) (rfl : true = true) (by kernel_rfl) rfl (aC (bK (v := Value.bool true) (rfl : true = true) rfl rfl) (aF (aA ⟨true, hm, rfl, rfl, d4⟩))))))))))))))))))))
 ·refine bJ (g := 11) b6 (by kernel_rfl) rfl (aC (dR (us := [i64 t.States, i64 t.Initial, Value.slice a1 t.Labels.length c2, Value.slice a4 t.Edges.length c5]) gT d4 (i := 0) rfl rfl rfl rfl) (bJ (g := 11) b6 (by kernel_rfl) rfl (aC (bI (t' := 1) xM rfl rfl) (bJ (g := 11) b6 (by kernel_rfl) rfl (aC (cA cM d4 (i := 0) rfl rfl rfl) (bJ (g := 11) b6 (by kernel_rfl) rfl ?_))))))
  obtain ⟨g9, l5, hm⟩ := aI hm
  refine aW (vs := [Value.agg #[i64 t.States, i64 t.Initial, Value.slice a1 t.Labels.length c2, Value.slice a4 t.Edges.length c5], i64 t.Initial]) Tryz.call74 rfl (tD d4 h3 h6 l5) ?_
  rintro _ n9 ⟨rfl, e8⟩
  refine bJ (g := 11) b6 (by kernel_rfl) rfl (aC (dN rfl) (aC (bM (v := Value.bool (!g9)) b6 rfl rfl) (aC (aD (v := Value.bool (!g9)) rfl) ?_)))
  rcases aJ hm with ⟨c188, hm⟩ | ⟨c188, hm⟩
  ·exact aV (g := 18) c188 (by kernel_rfl) rfl (aV (g := 18) c188 (by kernel_rfl) rfl (aV (g := 18) c188 (by kernel_rfl) rfl (aV (g := 18) c188 (by kernel_rfl) rfl (aV (g := 18) c188 (by kernel_rfl) rfl (aC (bK (v := Value.bool true) c188 rfl rfl) (aC (aD (v := Value.bool true) rfl) (aV (g := 25) (rfl : true = true) (by kernel_rfl) rfl (aV (g := 25) (rfl : true = true) (by kernel_rfl) rfl (aV (g := 25) (rfl : true = true) (by kernel_rfl) rfl (aV (g := 25) (rfl : true = true) (by kernel_rfl) rfl (aC (bK (v := Value.bool true) (rfl : true = true) rfl rfl) (aF (aA ⟨true, hm, rfl, rfl, e8⟩)))))))))))))
  ·refine bJ (g := 18) c188 (by kernel_rfl) rfl (aC (bI (t' := 2) gS rfl rfl) (bJ (g := 18) c188 (by kernel_rfl) rfl (aC (cA nY e8 (i := 0) rfl rfl rfl) (bJ (g := 18) c188 (by kernel_rfl) rfl (aC (bU (len := t.Labels.length) cQ rfl) (bJ (g := 18) c188 (by kernel_rfl) rfl ?_))))))
   obtain ⟨h0, l6, hm⟩ := aI hm
   refine aW (vs := [i64 (t.Labels.length : Int), i64 1, i64 12]) Tryz.call73 rfl (sS e8 l6) ?_
   rintro _ o0 ⟨rfl, e9⟩
   refine bJ (g := 18) c188 (by kernel_rfl) rfl (aC (dN rfl) (aC (bM (v := Value.bool (!h0)) c188 rfl rfl) (aC (aD (v := Value.bool (!h0)) rfl) ?_)))
   rcases aJ hm with ⟨b9, hm⟩ | ⟨b9, hm⟩
   ·exact aV (g := 25) b9 (by kernel_rfl) rfl (aV (g := 25) b9 (by kernel_rfl) rfl (aV (g := 25) b9 (by kernel_rfl) rfl (aV (g := 25) b9 (by kernel_rfl) rfl (aC (bK (v := Value.bool true) b9 rfl rfl) (aF (aA ⟨true, hm, rfl, rfl, e9⟩))))))
   ·exact bJ (g := 25) b9 (by kernel_rfl) rfl (aC (bI (t' := 3) dI rfl rfl) (bJ (g := 25) b9 (by kernel_rfl) rfl (aC (cA iC e9 (i := 0) rfl rfl rfl) (bJ (g := 25) b9 (by kernel_rfl) rfl (aC (bU (len := t.Edges.length) cR rfl) (bJ (g := 25) b9 (by kernel_rfl) rfl (aC (oH rfl rfl) (aC (bM (v := Value.bool (decide (300 < (t.Edges.length : Int)))) b9 rfl rfl) (aF (aA ⟨decide (300 < (t.Edges.length : Int)), hm, rfl, rfl, e9⟩))))))))))
theorem rU {t : dC} {R : Bool} (hs : aN G K (L) w) (hG : G.lo = 0) (h3 : bX K a1 c2 t.Labels) (h6 : bX K a4 c5 t.Edges) (hm : iH t = some R) :
  Calls Tryz.prog 34 ([Value.agg #[i64 t.States, i64 t.Initial, Value.slice a1 t.Labels.length c2, Value.slice a4 t.Edges.length c5]] : List Value).toArray w (fW fun v w' => v = Value.bool R ∧ aN G K (L) w') := by
 refine aU Tryz.func34 rfl (by kernel_rfl) (by show (1 : Nat) ≤ 48; decide) ?_
 unfold iH at hm
 refine aH (aB (dU (v := Value.agg #[i64 t.States, i64 t.Initial, Value.slice a1 t.Labels.length c2, Value.slice a4 t.Edges.length c5]) (vs := [i64 t.States, i64 t.Initial, Value.slice a1 t.Labels.length c2, Value.slice a4 t.Edges.length c5]) hs rfl rfl (fun b7 w8 c4 => (aC (aG (v := Value.bool false) rfl) (aF (aA (aH (aH (aB (aC (dR (us := [i64 t.States, i64 t.Initial, Value.slice a1 t.Labels.length c2, Value.slice a4 t.Edges.length c5]) gT c4 (i := 0) rfl rfl rfl rfl) ?_))))))))))
 obtain ⟨f4, d2, hm⟩ := aI hm
 refine aW (vs := [Value.agg #[i64 t.States, i64 t.Initial, Value.slice a1 t.Labels.length c2, Value.slice a4 t.Edges.length c5]]) Tryz.call33 rfl (lR c4 hG h3 h6 d2) ?_
 rintro _ f5 ⟨rfl, b6⟩
 refine aC (dN rfl) (aF (aA ?_))
 rcases aJ hm with ⟨c14, hm⟩ | ⟨c14, hm⟩
 ·refine aO c14 rfl (aH (aB (aC (aG (v := Value.bool false) rfl) (aF (aA ?_)))))
  have d3 := Option.some.inj hm
  subst d3
  exact bB (aQ (aZ Tryz.results34 rfl ⟨rfl, (aN.arr 1 [] b6 rfl)⟩))
 ·refine aM c14 rfl (aX (aA (aH (aH (aB (aC (bI (t' := 3) dI rfl rfl) (aC (cA iC b6 (i := 0) rfl rfl rfl) (aC (bU (len := t.Edges.length) cR rfl) (aC (aD (v := i64 0) rfl) (aF (aA (bC (fun f w => jS = some R ∧ aN G K (L) w) ?_ ?_))))))))))))
  ·rintro f f6 ⟨hm, d4⟩
   unfold jS at hm
   refine aA (aH (aB (aC (aG (v := Value.bool true) rfl) (aF (aA ?_)))))
   have d5 := Option.some.inj hm
   subst d5
   exact bB (aZ Tryz.results34 rfl ⟨rfl, d4⟩)
  obtain ⟨f7, d6, hm⟩ := aI hm
  refine cD d6 (fun (a8 : Int) f w => f 1 = Value.pointer (some ⟨b7, 0, none⟩) ∧ f 9 = Value.slice a4 t.Edges.length c5 ∧ f 10 = i64 (t.Edges.length : Int) ∧ f 11 = i64 a8 ∧ aN G K (box b7 30 [i64 t.States, i64 t.Initial, Value.slice a1 t.Labels.length c2, Value.slice a4 t.Edges.length c5] :: L) w) ?_ ?_
  ·exact ⟨rfl, rfl, rfl, rfl, b6⟩
  ·rintro a8 c6 f f8 a2 c7 ⟨b1, b2, b3, a9, b8⟩
   replace a2 : gD t a8 = some c6 := a2
   unfold gD at a2
   refine aH (aB (aC (cE a9 b3) (aF (aA (aH ?_)))))
   rcases aJ a2 with ⟨b9, a2⟩ | ⟨b9, a2⟩
   ·refine aO b9 rfl (aX (aA (aH (cK (aH (aB (aC (aD a9) ?_)))))))
    obtain ⟨a6, c8, a2⟩ := aI a2
    refine aC (cU cR rfl h6 b2 rfl a9 c8) ?_
    obtain ⟨f9, d7, d8⟩ := bX.el (sz := 3) rfl h6 c8
    cases d8
    refine aC (fO (t := 0) (vs := [i64 a6.From, i64 a6.Label, i64 a6.To]) qC b8 d7 rfl rfl rfl) (cG (vs := [i64 0, i64 0, i64 0]) Tryz.zeroValue63 b8 rfl (fun c9 g0 d9 => (aC (aG (v := i64 a8) rfl) (cC (i := 0) (ns := [i64 a6.From, i64 a6.Label, i64 a6.To]) (us := [i64 a6.From, i64 a6.Label, i64 a6.To]) Tryz.sizeOf63 d9 rfl rfl rfl rfl rfl (dT rfl) rfl rfl (fun e0 (a0 : aN G K (box c9 63 [i64 a6.From, i64 a6.Label, i64 a6.To] :: box b7 30 [i64 t.States, i64 t.Initial, Value.slice a1 t.Labels.length c2, Value.slice a4 t.Edges.length c5] :: L) e0) => (aF (aA (aH (cH (fun f w => ∃ (c0 : Bool), fE a8 c0 = some c6 ∧ f 1 = Value.pointer (some ⟨b7, 0, none⟩) ∧ f 9 = Value.slice a4 t.Edges.length c5 ∧ f 10 = i64 (t.Edges.length : Int) ∧ f 11 = i64 a8 ∧ f 46 = Value.bool c0 ∧ aN G K (box b7 30 [i64 t.States, i64 t.Initial, Value.slice a1 t.Labels.length c2, Value.slice a4 t.Edges.length c5] :: L) w) ?_ ?_)))))))))
    ·rintro f g1 ⟨c0, a2, e1, e2, e3, e4, d0, d1⟩
     unfold fE at a2
     refine aA ?_
     rcases aJ a2 with ⟨c1, a2⟩ | ⟨c1, a2⟩
     ·refine aO c1 d0 (aH (aB (aC (aG (v := Value.bool false) rfl) (aF (aA (bB (bN (aQ (aQ ?_)))))))))
      have e5 := c7 _ (Option.some.inj a2).symm
      subst e5
      have hm : (some false) = some R := hm
      have e6 := Option.some.inj hm
      subst e6
      exact bN (aQ (aQ (aZ Tryz.results34 rfl ⟨rfl, (aN.arr 1 [] d1 rfl)⟩)))
     ·exact aM c1 d0 (aX (bG (aA (aB (aC (cI e4 rfl) (aC (aD (v := i64 (wr (a8 + 1))) rfl) (aF (aA ⟨wr (a8 + 1), (Option.some.inj a2).symm, e1, e2, e3, rfl, d1⟩))))))))
    refine cW (C := fun w' => aN G K (box c9 63 [i64 a6.From, i64 a6.Label, i64 a6.To] :: box b7 30 [i64 t.States, i64 t.Initial, Value.slice a1 t.Labels.length c2, Value.slice a4 t.Edges.length c5] :: L) w') bR (by kernel_rfl) (aN.mono a0 (dB.drew _)) (aS (fun _ a0 => bI (t' := 1) fP rfl rfl) (aS (fun _ a0 => cA cM a0 (i := 0) rfl rfl rfl) (aS (fun _ a0 => kC rfl rfl) (aS (fun _ a0 => aD (v := Value.bool (a6.Label == 0)) rfl) ?_))))
    rcases aJ a2 with ⟨a7, a2⟩ | ⟨a7, a2⟩
    ·refine aR (g := 19) rfl rfl (bQ a7) (aR (g := 19) rfl rfl (bQ a7) (aR (g := 19) rfl rfl (bQ a7) (bE (g := 22) rfl rfl (bE (g := 22) rfl rfl (bE (g := 22) rfl rfl (bE (g := 22) rfl rfl (bE (g := 22) rfl rfl (bE (g := 22) rfl rfl (bE (g := 22) rfl rfl (bE (g := 22) rfl rfl (bE (g := 22) rfl rfl (bE (g := 22) rfl rfl (aR (g := 19) rfl rfl (bQ a7) (aR (g := 19) rfl rfl (bQ a7) (bE (g := 34) rfl rfl (bE (g := 34) rfl rfl (bE (g := 34) rfl rfl (bE (g := 34) rfl rfl (bE (g := 34) rfl rfl (bE (g := 34) rfl rfl (bE (g := 34) rfl rfl (bE (g := 34) rfl rfl (bE (g := 34) rfl rfl ?_)))))))))))))))))))))))
     exact bE (g := 34) rfl rfl (aR (g := 19) rfl rfl (bQ a7) (aS (fun _ a0 => bK (v := Value.bool true) a7 rfl rfl) (dD (fun g2 e7 => (aA ⟨true, a2, b1, b2, b3, a9, rfl, (aN.arr 1 [] e7 rfl)⟩)))))
    ·refine bD (g := 19) rfl rfl (bP a7) (aS (fun _ a0 => aD (v := i64 a8) rfl) (bD (g := 19) rfl rfl (bP a7) (aS (fun _ a0 => oH rfl rfl) (bD (g := 19) rfl rfl (bP a7) (aS (fun _ a0 => aD (v := Value.bool (decide (0 < a8))) rfl) ?_)))))
     rcases aJ a2 with ⟨a3, a2⟩ | ⟨a3, a2⟩
     ·refine bD (g := 22) rfl rfl a3 (aS (fun _ a0 => bI (t' := 3) dI b1 rfl) (bD (g := 22) rfl rfl a3 (aS (fun _ a0 => cA iC a0 (i := 1) rfl rfl rfl) (bD (g := 22) rfl rfl a3 (aS (fun _ a0 => aD (v := i64 a8) rfl) (bD (g := 22) rfl rfl a3 (aS (fun _ a0 => lH rfl rfl) (bD (g := 22) rfl rfl a3 ?_))))))))
      obtain ⟨b4, c3, a2⟩ := aI a2
      refine aS (fun _ a0 => cU cR rfl h6 rfl rfl rfl c3) ?_
      obtain ⟨g3, b5, e8⟩ := bX.el (sz := 3) rfl h6 c3
      cases e8
      refine bD (g := 22) rfl rfl a3 (aS (fun _ a0 => bW (k' := (wr (a8 - 1)).toNat * 3 + 0) iB rfl b5 rfl) (bD (g := 22) rfl rfl a3 (aS (fun _ a0 => bL (t := 0) cM a0 b5 rfl rfl) (bD (g := 22) rfl rfl a3 (aS (fun _ a0 => bI (t' := 0) iB rfl rfl) (bD (g := 22) rfl rfl a3 (aS (fun _ a0 => cA cM a0 (i := 0) rfl rfl rfl) (bD (g := 22) rfl rfl a3 (aS (fun _ a0 => kC rfl rfl) (bD (g := 19) rfl rfl (bP a7) (aS (fun _ a0 => bK (v := Value.bool (b4.From == a6.From)) a3 rfl rfl) (bD (g := 19) rfl rfl (bP a7) (aS (fun _ a0 => aD (v := Value.bool (b4.From == a6.From)) rfl) ?_)))))))))))))
      rcases aJ a2 with ⟨a5, a2⟩ | ⟨a5, a2⟩
      ·refine bD (g := 34) rfl rfl a5 (aS (fun _ a0 => bI (t' := 3) dI b1 rfl) (bD (g := 34) rfl rfl a5 (aS (fun _ a0 => cA iC a0 (i := 1) rfl rfl rfl) (bD (g := 34) rfl rfl a5 (aS (fun _ a0 => aD (v := i64 a8) rfl) (bD (g := 34) rfl rfl a5 (aS (fun _ a0 => lH rfl rfl) (bD (g := 34) rfl rfl a5 (aS (fun _ a0 => cU cR rfl h6 rfl rfl rfl c3) (bD (g := 34) rfl rfl a5 (aS (fun _ a0 => bW (k' := (wr (a8 - 1)).toNat * 3 + 1) fP rfl b5 rfl) (bD (g := 34) rfl rfl a5 (aS (fun _ a0 => bL (t := 1) cM a0 b5 rfl rfl) (bD (g := 34) rfl rfl a5 (aS (fun _ a0 => bI (t' := 1) fP rfl rfl) (bD (g := 34) rfl rfl a5 (aS (fun _ a0 => cA cM a0 (i := 0) rfl rfl rfl) (bD (g := 34) rfl rfl a5 (aS (fun _ a0 => kC rfl rfl) (bD (g := 19) rfl rfl (bP a7) (aS (fun _ a0 => bK (v := Value.bool (b4.Label == a6.Label)) a5 rfl rfl) (aS (fun _ a0 => bM (v := Value.bool (b4.Label == a6.Label)) a7 rfl rfl) (dD ?_)))))))))))))))))))))))
       intro g4 e9
       exact aA ⟨b4.Label == a6.Label, a2, b1, b2, b3, a9, rfl, (aN.arr 1 [] e9 rfl)⟩
      ·exact aR (g := 34) rfl rfl (bV a5) (aR (g := 34) rfl rfl (bV a5) (aR (g := 34) rfl rfl (bV a5) (aR (g := 34) rfl rfl (bV a5) (aR (g := 34) rfl rfl (bV a5) (aR (g := 34) rfl rfl (bV a5) (aR (g := 34) rfl rfl (bV a5) (aR (g := 34) rfl rfl (bV a5) (aR (g := 34) rfl rfl (bV a5) (aR (g := 34) rfl rfl (bV a5) (bD (g := 19) rfl rfl (bP a7) (aS (fun _ a0 => bM (v := Value.bool false) a5 rfl rfl) (aS (fun _ a0 => bM (v := Value.bool false) a7 rfl rfl) (dD (fun g5 f0 => (aA ⟨false, a2, b1, b2, b3, a9, rfl, (aN.arr 1 [] f0 rfl)⟩)))))))))))))))
     ·refine aR (g := 22) rfl rfl (bV a3) (aR (g := 22) rfl rfl (bV a3) (aR (g := 22) rfl rfl (bV a3) (aR (g := 22) rfl rfl (bV a3) (aR (g := 22) rfl rfl (bV a3) (aR (g := 22) rfl rfl (bV a3) (aR (g := 22) rfl rfl (bV a3) (aR (g := 22) rfl rfl (bV a3) (aR (g := 22) rfl rfl (bV a3) (aR (g := 22) rfl rfl (bV a3) (bD (g := 19) rfl rfl (bP a7) (aS (fun _ a0 => bM (v := Value.bool false) a3 rfl rfl) (bD (g := 19) rfl rfl (bP a7) (aS (fun _ a0 => aD (v := Value.bool false) rfl) (aR (g := 34) rfl rfl (bV (by decide : ¬ false = true)) (aR (g := 34) rfl rfl (bV (by decide : ¬ false = true)) (aR (g := 34) rfl rfl (bV (by decide : ¬ false = true)) (aR (g := 34) rfl rfl (bV (by decide : ¬ false = true)) (aR (g := 34) rfl rfl (bV (by decide : ¬ false = true)) (aR (g := 34) rfl rfl (bV (by decide : ¬ false = true)) (aR (g := 34) rfl rfl (bV (by decide : ¬ false = true)) (aR (g := 34) rfl rfl (bV (by decide : ¬ false = true)) (aR (g := 34) rfl rfl (bV (by decide : ¬ false = true)) (aR (g := 34) rfl rfl (bV (by decide : ¬ false = true)) ?_)))))))))))))))))))))))
      exact bD (g := 19) rfl rfl (bP a7) (aS (fun _ a0 => bM (v := Value.bool false) (by decide : ¬ false = true) rfl rfl) (aS (fun _ a0 => bM (v := Value.bool false) a7 rfl rfl) (dD (fun g6 f1 => (aA ⟨false, a2, b1, b2, b3, a9, rfl, (aN.arr 1 [] f1 rfl)⟩)))))
   ·refine aM b9 rfl (bY (aY (aY ?_)))
    have f2 := c7 _ (Option.some.inj a2).symm
    subst f2
    have hm : (jS) = some R := hm
    exact bO (aA ⟨hm, (aN.arr 1 [] b8 rfl)⟩)
theorem aCA {s_ : bF} {R : Bool} (hs : aN G K (L) w) (hG : G.lo = 0) (hm : uV s_ = some R) :
  Calls Tryz.prog 159 ([cF s_] : List Value).toArray w (fW fun v w' => v = Value.bool R ∧ aN G K (L) w') := by
 refine aU Tryz.func159 rfl (by kernel_rfl) (by show (1 : Nat) ≤ 6; decide) ?_
 unfold uV at hm
 refine aH (aB (aC (aG (v := Value.bool false) rfl) (aF (aA (aH (aB (aC (aD (v := cF s_) rfl) ?_)))))))
 obtain ⟨r1, q2, hm⟩ := aI hm
 refine aW (vs := [cF s_]) Tryz.call75 rfl (aCb hs hG q2) ?_
 rintro _ w3 ⟨rfl, a2⟩
 refine aC (dN rfl) (aC (aG (v := Value.bool (!r1)) rfl) (aF (aA ?_)))
 have a3 := Option.some.inj hm
 subst a3
 exact bB (aZ Tryz.results159 rfl ⟨rfl, a2⟩)
theorem pT {s_ : (List bF)} {R : Int} (hs : aN G K (L) w) (hG : G.lo = 0) (h3 : bX K a1 c2 s_) (hm : fG s_ = some R) :
  Calls Tryz.prog 210 ([Value.slice a1 s_.length c2, Value.func (.func 159) #[] #[]] : List Value).toArray w (fW fun v w' => v = i64 R ∧ aN G K (L) w') := by
 refine aU Tryz.func210 rfl (by kernel_rfl) (by show (2 : Nat) ≤ 19; decide) ?_
 unfold fG at hm
 refine aH (aB (aC (aG (v := i64 0) rfl) (aF (aA (aH (aH (aB (aC (aD (v := Value.slice a1 s_.length c2) rfl) (aC (bU (len := s_.length) cQ rfl) (aC (aD (v := i64 0) rfl) (aF (aA (bC (fun f w => eP = some R ∧ aN G K (L) w) ?_ ?_)))))))))))))
 ·rintro f w4 ⟨hm, b4⟩
  unfold eP at hm
  refine aA (aH (aB (aC (aG (v := i64 (-1)) rfl) (aF (aA ?_)))))
  have b5 := Option.some.inj hm
  subst b5
  exact bB (aZ Tryz.results210 rfl ⟨rfl, b4⟩)
 obtain ⟨c6, b6, hm⟩ := aI hm
 refine cD b6 (fun (a2 : Int) f w => f 0 = Value.slice a1 s_.length c2 ∧ f 1 = Value.func (.func 159) #[] #[] ∧ f 7 = i64 (s_.length : Int) ∧ f 8 = i64 a2 ∧ aN G K (L) w) ?_ ?_
 ·exact ⟨rfl, rfl, rfl, rfl, hs⟩
 ·rintro a2 b7 f c7 a0 a7 ⟨a8, a9, b0, a3, a4⟩
  replace a0 : dA s_ a2 = some b7 := a0
  unfold dA at a0
  refine aH (aB (aC (cE a3 b0) (aF (aA (aH ?_)))))
  rcases aJ a0 with ⟨a5, a0⟩ | ⟨a5, a0⟩
  ·refine aO a5 rfl (aX (aA (aH (cK (aH (aB (aC (aD a3) (aC (aG (v := i64 a2) rfl) (aF (aA (aH (aB (aC (aD a9) (aC (aD a8) (aC (aD (v := i64 a2) rfl) ?_)))))))))))))))
   obtain ⟨b1, b2, a0⟩ := aI a0
   refine aC (cU cQ rfl h3 rfl rfl rfl b2) ?_
   obtain ⟨c8, b8, b9⟩ := bX.el (sz := 1) rfl h3 b2
   cases b9
   refine aC (bL (t := 0) oI a4 b8 rfl rfl) ?_
   obtain ⟨c9, c0, a0⟩ := aI a0
   refine kE (vs := [cF b1]) (caps := []) (us := [cF b1]) rfl Tryz.call159 rfl rfl (aCA a4 hG c0) ?_
   rintro _ d0 ⟨rfl, b3⟩
   refine aF (aA ?_)
   rcases aJ a0 with ⟨a6, a0⟩ | ⟨a6, a0⟩
   ·refine aO a6 rfl (aH (aB (aC (aD (v := i64 a2) rfl) (aC (aG (v := i64 a2) rfl) (aF (aA (bB (bN (aQ (aQ ?_))))))))))
    have c1 := a7 _ (Option.some.inj a0).symm
    subst c1
    have hm : (some a2) = some R := hm
    have c3 := Option.some.inj hm
    subst c3
    exact bN (aQ (aQ (aZ Tryz.results210 rfl ⟨rfl, b3⟩)))
   ·exact aM a6 rfl (aX (bG (aA (aB (aC (cI a3 rfl) (aC (aD (v := i64 (wr (a2 + 1))) rfl) (aF (aA ⟨wr (a2 + 1), (Option.some.inj a0).symm, a8, a9, b0, rfl, b3⟩))))))))
  ·refine aM a5 rfl (bY (aY (aY ?_)))
   have c4 := a7 _ (Option.some.inj a0).symm
   subst c4
   have hm : (eP) = some R := hm
   exact bO (aA ⟨hm, a4⟩)
theorem nW {s_ : (List bF)} {R : Bool} (hs : aN G K (L) w) (hG : G.lo = 0) (h3 : bX K a1 c2 s_) (hm : eQ s_ = some R) :
  Calls Tryz.prog 158 ([Value.slice a1 s_.length c2, Value.func (.func 159) #[] #[]] : List Value).toArray w (fW fun v w' => v = Value.bool R ∧ aN G K (L) w') := by
 refine aU Tryz.func158 rfl (by kernel_rfl) (by show (2 : Nat) ≤ 9; decide) ?_
 unfold eQ at hm
 refine aH (aB (aC (aG (v := Value.bool false) rfl) (aF (aA (aH (aB (aC (aD (v := Value.slice a1 s_.length c2) rfl) (aC (aD (v := Value.func (.func 159) #[] #[]) rfl) ?_))))))))
 obtain ⟨r4, q5, hm⟩ := aI hm
 refine aW (vs := [Value.slice a1 s_.length c2, Value.func (.func 159) #[] #[]]) Tryz.call210 rfl (pT hs hG h3 q5) ?_
 rintro _ w6 ⟨rfl, a3⟩
 refine aC (tX rfl rfl) (aC (aG (v := Value.bool (decide (0 ≤ r4))) rfl) (aF (aA ?_)))
 have a4 := Option.some.inj hm
 subst a4
 exact bB (aZ Tryz.results158 rfl ⟨rfl, a3⟩)
theorem aEd {labels : (List bF)} {R : Bool} (hs : aN G K (L) w) (hG : G.lo = 0) (h3 : bX K a1 c2 labels) (hm : wW labels = some R) :
  Calls Tryz.prog 120 ([Value.slice a1 labels.length c2] : List Value).toArray w (fW fun v w' => v = Value.bool R ∧ aN G K (L) w') := by
 refine aU Tryz.func120 rfl (by kernel_rfl) (by show (1 : Nat) ≤ 6; decide) ?_
 unfold wW at hm
 refine aH (aB (aC (aG (v := Value.bool false) rfl) (aF (aA (aH (aB (aC (aD (v := Value.slice a1 labels.length c2) rfl) ?_)))))))
 obtain ⟨r4, q5, hm⟩ := aI hm
 refine aW (vs := [Value.slice a1 labels.length c2, Value.func (.func 159) #[] #[]]) Tryz.call158 rfl (nW hs hG h3 q5) ?_
 rintro _ w6 ⟨rfl, a3⟩
 refine aC (dN rfl) (aC (aG (v := Value.bool (!r4)) rfl) (aF (aA ?_)))
 have a4 := Option.some.inj hm
 subst a4
 exact bB (aZ Tryz.results120 rfl ⟨rfl, a3⟩)
theorem kI {s_ : (List bF)} {v_ : bF} {R : Int} (hs : aN G K (L) w) (h3 : bX K a1 c2 s_) (hm : dZ s_ v_ = some R) :
  Calls Tryz.prog 82 ([Value.slice a1 s_.length c2, cF v_] : List Value).toArray w (fW fun v w' => v = i64 R ∧ aN G K (L) w') := by
 refine aU Tryz.func82 rfl (by kernel_rfl) (by show (2 : Nat) ≤ 19; decide) ?_
 unfold dZ at hm
 refine aH (aB (aC (aG (v := i64 0) rfl) (aF (aA (aH (aH (aB (aC (aD (v := Value.slice a1 s_.length c2) rfl) (aC (bU (len := s_.length) cQ rfl) (aC (aD (v := i64 0) rfl) (aF (aA (bC (fun f w => fI = some R ∧ aN G K (L) w) ?_ ?_)))))))))))))
 ·rintro f w4 ⟨hm, b2⟩
  unfold fI at hm
  refine aA (aH (aB (aC (aG (v := i64 (-1)) rfl) (aF (aA ?_)))))
  have b3 := Option.some.inj hm
  subst b3
  exact bB (aZ Tryz.results82 rfl ⟨rfl, b2⟩)
 obtain ⟨c3, b4, hm⟩ := aI hm
 refine cD b4 (fun (a2 : Int) f w => f 0 = Value.slice a1 s_.length c2 ∧ f 1 = cF v_ ∧ f 7 = i64 (s_.length : Int) ∧ f 8 = i64 a2 ∧ aN G K (L) w) ?_ ?_
 ·exact ⟨rfl, rfl, rfl, rfl, hs⟩
 ·rintro a2 b5 f c4 a0 a7 ⟨a8, a9, b0, a4, a3⟩
  replace a0 : dM s_ v_ a2 = some b5 := a0
  unfold dM at a0
  refine aH (aB (aC (cE a4 b0) (aF (aA (aH ?_)))))
  rcases aJ a0 with ⟨a5, a0⟩ | ⟨a5, a0⟩
  ·refine aO a5 rfl (aX (aA (aH (cK (aH (aB (aC (aD a4) (aC (aG (v := i64 a2) rfl) (aF (aA (aH (aB (aC (aD a9) (aC (aD a8) (aC (aD (v := i64 a2) rfl) ?_)))))))))))))))
   obtain ⟨c5, b1, a0⟩ := aI a0
   refine aC (cU cQ rfl h3 rfl rfl rfl b1) ?_
   obtain ⟨c6, b6, b7⟩ := bX.el (sz := 1) rfl h3 b1
   cases b7
   refine aC (bL (t := 0) oI a3 b6 rfl rfl) (aC (vN rfl rfl) (aF (aA ?_)))
   rcases aJ a0 with ⟨a6, a0⟩ | ⟨a6, a0⟩
   ·refine aO a6 rfl (aH (aB (aC (aD (v := i64 a2) rfl) (aC (aG (v := i64 a2) rfl) (aF (aA (bB (bN (aQ (aQ ?_))))))))))
    have b8 := a7 _ (Option.some.inj a0).symm
    subst b8
    have hm : (some a2) = some R := hm
    have b9 := Option.some.inj hm
    subst b9
    exact bN (aQ (aQ (aZ Tryz.results82 rfl ⟨rfl, a3⟩)))
   ·exact aM a6 rfl (aX (bG (aA (aB (aC (cI a4 rfl) (aC (aD (v := i64 (wr (a2 + 1))) rfl) (aF (aA ⟨wr (a2 + 1), (Option.some.inj a0).symm, a8, a9, b0, rfl, a3⟩))))))))
  ·refine aM a5 rfl (bY (aY (aY ?_)))
   have c0 := a7 _ (Option.some.inj a0).symm
   subst c0
   have hm : (fI) = some R := hm
   exact bO (aA ⟨hm, a3⟩)
theorem qA {s_ : (List bF)} {v_ : bF} {R : Bool} (hs : aN G K (L) w) (h3 : bX K a1 c2 s_) (hm : eH s_ v_ = some R) :
  Calls Tryz.prog 121 ([Value.slice a1 s_.length c2, cF v_] : List Value).toArray w (fW fun v w' => v = Value.bool R ∧ aN G K (L) w') := by
 refine aU Tryz.func121 rfl (by kernel_rfl) (by show (2 : Nat) ≤ 9; decide) ?_
 unfold eH at hm
 refine aH (aB (aC (aG (v := Value.bool false) rfl) (aF (aA (aH (aB (aC (aD (v := Value.slice a1 s_.length c2) rfl) (aC (aD (v := cF v_) rfl) ?_))))))))
 obtain ⟨r4, q5, hm⟩ := aI hm
 refine aW (vs := [Value.slice a1 s_.length c2, cF v_]) Tryz.call82 rfl (kI hs h3 q5) ?_
 rintro _ w6 ⟨rfl, a3⟩
 refine aC (tX rfl rfl) (aC (aG (v := Value.bool (decide (0 ≤ r4))) rfl) (aF (aA ?_)))
 have a4 := Option.some.inj hm
 subst a4
 exact bB (aZ Tryz.results121 rfl ⟨rfl, a3⟩)
theorem aDB {trace : (List bF)} {R : Bool} (hs : aN G K (L) w) (hG : G.lo = 0) (h3 : bX K a1 c2 trace) (hm : uW trace = some R) :
  Calls Tryz.prog 78 ([Value.slice a1 trace.length c2] : List Value).toArray w (fW fun v w' => v = Value.bool R ∧ aN G K (L) w') := by
 refine aU Tryz.func78 rfl (by kernel_rfl) (by show (1 : Nat) ≤ 10; decide) ?_
 unfold uW at hm
 refine aH (aB (aC (aG (v := Value.bool false) rfl) (aF (aA (aH (cH (fun f w => ∃ (v4 : Bool), sX v4 = some R ∧ f 2 = Value.bool v4 ∧ aN G K (L) w) ?_ ?_))))))
 ·rintro f w6 ⟨v4, hm, e5, a6⟩
  unfold sX at hm
  refine aA ?_
  have a7 := Option.some.inj hm
  subst a7
  exact bB (aZ Tryz.results78 rfl ⟨e5, a6⟩)
 refine aB (aC (aD (v := Value.slice a1 trace.length c2) rfl) ?_)
 obtain ⟨r9, a9, hm⟩ := aI hm
 refine aW (vs := [Value.slice a1 trace.length c2]) Tryz.call120 rfl (aEd hs hG h3 a9) ?_
 rintro _ b3 ⟨rfl, a4⟩
 refine aC (aD (v := Value.bool r9) rfl) ?_
 rcases aJ hm with ⟨a0, hm⟩ | ⟨a0, hm⟩
 ·refine bH (g := 5) a0 (by kernel_rfl) rfl (aC (aD (v := Value.slice a1 trace.length c2) rfl) (bH (g := 5) a0 (by kernel_rfl) rfl ?_))
  obtain ⟨a3, b0, hm⟩ := aI hm
  refine aW (vs := [Value.slice a1 trace.length c2, cF ([116, 97, 117] : bF)]) Tryz.call121 rfl (qA a4 h3 b0) ?_
  rintro _ b4 ⟨rfl, b1⟩
  exact bH (g := 5) a0 (by kernel_rfl) rfl (aC (dN rfl) (aC (bK (v := Value.bool (!a3)) a0 rfl rfl) (aC (aG (v := Value.bool (!a3)) rfl) (aF (aA ⟨!a3, hm, rfl, b1⟩)))))
 ·exact bA (g := 5) a0 (by kernel_rfl) rfl (bA (g := 5) a0 (by kernel_rfl) rfl (bA (g := 5) a0 (by kernel_rfl) rfl (aC (bM (v := Value.bool false) a0 rfl rfl) (aC (aG (v := Value.bool false) rfl) (aF (aA ⟨false, hm, rfl, a4⟩))))))
theorem aGT {set : (List bF)} {R : Bool} (hs : aN G K (L) w) (hG : G.lo = 0) (h3 : bX K a1 c2 set) (hm : aDv set = some R) :
  Calls Tryz.prog 35 ([Value.slice a1 set.length c2] : List Value).toArray w (fW fun v w' => v = Value.bool R ∧ aN G K (L) w') := by
 refine aU Tryz.func35 rfl (by kernel_rfl) (by show (1 : Nat) ≤ 26; decide) ?_
 unfold aDv at hm
 refine aH (aB (aC (aG (v := Value.bool false) rfl) (aF (aA (aH (aH (aB (aC (aD (v := Value.slice a1 set.length c2) rfl) (aC (bU (len := set.length) cQ rfl) (aC (aD (v := i64 0) rfl) (aF (aA (bC (fun f w => yX set = some R ∧ f 0 = Value.slice a1 set.length c2 ∧ aN G K (L) w) ?_ ?_)))))))))))))
 ·rintro f w5 ⟨hm, e4, c1⟩
  unfold yX at hm
  refine aA (aH (aB (aC (aD e4) ?_)))
  obtain ⟨r7, q8, hm⟩ := aI hm
  refine aW (vs := [Value.slice a1 set.length c2]) Tryz.call78 rfl (aDB c1 hG h3 q8) ?_
  rintro _ w9 ⟨rfl, c5⟩
  refine aC (aG (v := Value.bool r7) rfl) (aF (aA ?_))
  have c6 := Option.some.inj hm
  subst c6
  exact bB (aZ Tryz.results35 rfl ⟨rfl, c5⟩)
 obtain ⟨e1, c7, hm⟩ := aI hm
 refine cD c7 (fun (a3 : Int) f w => f 0 = Value.slice a1 set.length c2 ∧ f 5 = Value.slice a1 set.length c2 ∧ f 6 = i64 (set.length : Int) ∧ f 7 = i64 a3 ∧ aN G K (L) w) ?_ ?_
 ·exact ⟨rfl, rfl, rfl, rfl, hs⟩
 ·rintro a3 b4 f e2 a0 b5 ⟨a7, a9, b0, a5, a6⟩
  replace a0 : vT set a3 = some b4 := a0
  unfold vT at a0
  refine aH (aB (aC (cE a5 b0) (aF (aA (aH ?_)))))
  rcases aJ a0 with ⟨b1, a0⟩ | ⟨b1, a0⟩
  ·refine aO b1 rfl (aX (aA (aH (cK (aH (aB (aC (aD a5) ?_)))))))
   obtain ⟨a4, b6, a0⟩ := aI a0
   refine aC (cU cQ rfl h3 a9 rfl a5 b6) ?_
   obtain ⟨e3, c8, c9⟩ := bX.el (sz := 1) rfl h3 b6
   cases c9
   refine aC (bL (t := 0) oI a6 c8 rfl rfl) (aC (aG (v := i64 a3) rfl) (aC (aG (v := cF a4) rfl) (aF (aA (aH (cH (fun f w => ∃ (b2 : Bool), yY a3 b2 = some b4 ∧ f 0 = Value.slice a1 set.length c2 ∧ f 5 = Value.slice a1 set.length c2 ∧ f 6 = i64 (set.length : Int) ∧ f 7 = i64 a3 ∧ f 22 = Value.bool b2 ∧ aN G K (L) w) ?_ ?_))))))
   ·rintro f w54 ⟨b2, a0, d0, d1, d2, d3, b7, b8⟩
    unfold yY at a0
    refine aA ?_
    rcases aJ a0 with ⟨b3, a0⟩ | ⟨b3, a0⟩
    ·refine aO b3 b7 (aH (aB (aC (aG (v := Value.bool false) rfl) (aF (aA (bB (bN (aQ (aQ ?_)))))))))
     have d4 := b5 _ (Option.some.inj a0).symm
     subst d4
     have hm : (some false) = some R := hm
     have d5 := Option.some.inj hm
     subst d5
     exact bN (aQ (aQ (aZ Tryz.results35 rfl ⟨rfl, b8⟩)))
    ·exact aM b3 b7 (aX (bG (aA (aB (aC (cI d3 rfl) (aC (aD (v := i64 (wr (a3 + 1))) rfl) (aF (aA ⟨wr (a3 + 1), (Option.some.inj a0).symm, d0, d1, d2, rfl, b8⟩))))))))
   refine aB (aC (aD (v := i64 a3) rfl) (aC (oH rfl rfl) (aC (aD (v := Value.bool (decide (0 < a3))) rfl) ?_)))
   rcases aJ a0 with ⟨a2, a0⟩ | ⟨a2, a0⟩
   ·refine bH (g := 14) a2 (by kernel_rfl) rfl (aC (aD (v := cF a4) rfl) (bH (g := 14) a2 (by kernel_rfl) rfl (aC (aD a7) (bH (g := 14) a2 (by kernel_rfl) rfl (aC (aD (v := i64 a3) rfl) (bH (g := 14) a2 (by kernel_rfl) rfl (aC (lH rfl rfl) (bH (g := 14) a2 (by kernel_rfl) rfl ?_))))))))
    obtain ⟨a8, b9, a0⟩ := aI a0
    refine aC (cU cQ rfl h3 rfl rfl rfl b9) ?_
    obtain ⟨e5, d6, d7⟩ := bX.el (sz := 1) rfl h3 b9
    cases d7
    exact bH (g := 14) a2 (by kernel_rfl) rfl (aC (bL (t := 0) oI a6 d6 rfl rfl) (bH (g := 14) a2 (by kernel_rfl) rfl (aC (R_leqS rfl rfl) (aC (bK (v := Value.bool (vI a4 a8 || a4 == a8)) a2 rfl rfl) (aF (aA ⟨(vI a4 a8 || a4 == a8), a0, a7, a9, b0, a5, rfl, a6⟩))))))
   ·exact bA (g := 14) a2 (by kernel_rfl) rfl (bA (g := 14) a2 (by kernel_rfl) rfl (bA (g := 14) a2 (by kernel_rfl) rfl (bA (g := 14) a2 (by kernel_rfl) rfl (bA (g := 14) a2 (by kernel_rfl) rfl (bA (g := 14) a2 (by kernel_rfl) rfl (bA (g := 14) a2 (by kernel_rfl) rfl (aC (bM (v := Value.bool false) a2 rfl rfl) (aF (aA ⟨false, a0, a7, a9, b0, a5, rfl, a6⟩)))))))))
  ·refine aM b1 rfl (bY (aY (aY ?_)))
   have d8 := b5 _ (Option.some.inj a0).symm
   subst d8
   have hm : (yX set) = some R := hm
   exact bO (aA ⟨hm, a7, a6⟩)
theorem nR {s_ : (List Edge)} {R : (List Edge)} (hs : aN G K (aT 63 K a1 c2 s_ :: L) w)  (hm : dO s_ = some R) :
  Calls Tryz.prog 84 ([Value.slice a1 s_.length c2] : List Value).toArray w (fW fun v w' => ∃ (ra0 : Option Addr) (rc0 : Nat), v = Value.slice ra0 R.length rc0 ∧ aN G K (aT 63 K ra0 rc0 R :: L) w') := by
 refine aU Tryz.func84 rfl (by kernel_rfl) (by show (1 : Nat) ≤ 61; decide) ?_
 unfold dO at hm
 refine aH (aB (aC (aG (v := Value.slice none 0 0) rfl) (aF (aA (aH (aH (aB (aC (aD (v := Value.slice a1 s_.length c2) rfl) (aC (bU (len := s_.length) cR rfl) (aC (cE rfl rfl) (aF (aA ?_))))))))))))
 rcases aJ hm with ⟨c3, hm⟩ | ⟨c3, hm⟩
 ·refine aO c3 rfl (aH (aB (aC (aD (v := Value.slice a1 s_.length c2) rfl) (aC (aG (v := Value.slice a1 s_.length c2) rfl) (aF (aA ?_))))))
  have g0 := Option.some.inj hm
  subst g0
  exact bB (aQ (aZ Tryz.results84 rfl ⟨a1, c2, rfl, hs⟩))
 ·refine aM c3 rfl (aX (aA (aH (aH (aB (aC (aG (v := i64 1) rfl) (aF (aA (bC (fun f w => eB s_ = some R ∧ f 0 = Value.slice a1 s_.length c2 ∧ aN G K (aT 63 K a1 c2 s_ :: L) w) ?_ ?_)))))))))
  ·rintro f w6 ⟨hm, e5, g2⟩
   unfold eB at hm
   refine aA (aH (aB (aC (aD e5) (aC (aG (v := Value.slice a1 s_.length c2) rfl) (aF (aA ?_))))))
   have g3 := Option.some.inj hm
   subst g3
   exact bB (aZ Tryz.results84 rfl ⟨a1, c2, rfl, g2⟩)
  obtain ⟨i8, g4, hm⟩ := aI hm
  refine cD g4 (fun (a6 : Int) f w => f 0 = Value.slice a1 s_.length c2 ∧ f 3 = i64 a6 ∧ aN G K (aT 63 K a1 c2 s_ :: L) w) ?_ ?_
  ·exact ⟨rfl, rfl, hs⟩
  ·rintro a6 b7 f i9 a0 e2 ⟨a9, b1, a3⟩
   replace a0 : cP s_ a6 = some b7 := a0
   unfold cP at a0
   refine aH (aH (aB (aC (aD b1) (aC (aD a9) (aC (bU (len := s_.length) cR rfl) (aC (cE rfl rfl) (aF (aA ?_))))))))
   rcases aJ a0 with ⟨d1, a0⟩ | ⟨d1, a0⟩
   ·refine aO d1 rfl (aX (aA (aH (bC (fun f w => eC a6 = some b7 ∧ f 0 = Value.slice a1 s_.length c2 ∧ f 3 = i64 a6 ∧ aN G K (aT 63 K a1 c2 s_ :: L) w) ?_ ?_))))
    ·rintro f j0 ⟨a0, g5, g6, g7⟩
     unfold eC at a0
     exact aA (aB (aC (aD g6) (aC (cI rfl rfl) (aC (aG (v := i64 (wr (a6 + 1))) rfl) (aF (aA ⟨wr (a6 + 1), (Option.some.inj a0).symm, g5, rfl, g7⟩))))))
    refine aH (cW (C := fun w' => aN G K (aT 63 K a1 c2 s_ :: L) w') bR (by kernel_rfl) (aN.mono a3 (dB.drew _)) (aS (fun _ a3 => aD a9) (aS (fun _ a3 => aD b1) ?_)))
    obtain ⟨b8, d2, a0⟩ := aI a0
    have b2 := dL a3 (i := 0) rfl d2
    refine aS (fun _ a3 => eT cR rfl b2 rfl rfl rfl d2) (aS (fun _ a3 => aCN (t := 0) (vs := [i64 b8.From, i64 b8.Label, i64 b8.To]) qC a3 (i := 0) rfl d2 rfl rfl rfl rfl) (aS (fun _ a3 => aD a9) (aS (fun _ a3 => aD b1) (aS (fun _ a3 => lH rfl rfl) ?_))))
    obtain ⟨b9, e3, a0⟩ := aI a0
    refine aS (fun _ a3 => eT cR rfl b2 rfl rfl rfl e3) (aS (fun _ a3 => aCN (t := 0) (vs := [i64 b9.From, i64 b9.Label, i64 b9.To]) qC a3 (i := 0) rfl e3 rfl rfl rfl rfl) (aS (fun _ a3 => R_eqlG (eq_63 (x := b8) (y := b9)) rfl rfl) (dD (fun j1 d3 => (aA ?_)))))
    rcases aJ a0 with ⟨c45, a0⟩ | ⟨c45, a0⟩
    ·refine aO c45 rfl (aH (aB (aC (aD a9) (aC (aD b1) ?_))))
     obtain ⟨b5, c0, a0⟩ := aI a0
     have c1 := sU d3 (i := 0) rfl
     obtain ⟨d4, d5, hx50⟩ := Cut.ex 3 a1 c2 a6
     refine aC (aBP cR c1 hx50 rfl rfl rfl c0) (aC (aG (v := Value.slice d4 b5.length d5) rfl) (aF (aA (aH (aH (aB (aC (aG (v := i64 1) rfl) (aF (aA (bC (fun f w => ∃ (c4 : List Edge) (c5 : Int), eD c4 c5 = some b7 ∧ f 0 = Value.slice a1 c4.length c2 ∧ f 3 = i64 c5 ∧ aN G K (aT 63 K a1 c2 c4 :: L) w) ?_ ?_))))))))))
     ·rintro f j2 ⟨c4, c5, a0, e4, e55, e6⟩
      unfold eD at a0
      refine aA (aH (aB (aC (aD e4) (aC (aD e55) ?_))))
      obtain ⟨j3, g8, a0⟩ := aI a0
      have g9 := sU e6 (i := 0) rfl
      obtain ⟨j4, j5, e7⟩ := Cut.ex 3 a1 c2 c5
      refine aC (aBP cR g9 e7 rfl rfl rfl g8) ?_
      obtain ⟨e8, e9, a0⟩ := aI a0
      refine aDV cR zS rfl e6 (i := 0) rfl e7 rfl rfl e9 (fun f0 (f1 : aN G K (aT 63 K a1 c2 e8 :: L) f0) => (aF (aA (aH (aB (aC (aD (v := Value.slice a1 e8.length c2) (Eq.trans e4 (congrArg (fun n => Value.slice a1 n c2) (aDd e9)))) (aC (aD e55) ?_)))))))
      obtain ⟨d6, f2, a0⟩ := aI a0
      have h0 := sU f1 (i := 0) rfl
      obtain ⟨d7, d8, f3⟩ := Cut.ex 3 a1 c2 0
      refine aC (aGL cR h0 f3 rfl rfl rfl f2) (aC (aG (v := Value.slice d7 d6.length d8) rfl) (aF (aA (bB (bN (aQ (aQ (aQ ?_))))))))
      have h1 := e2 _ (Option.some.inj a0).symm
      subst h1
      have hm : (some d6) = some R := hm
      have h2 : aN G K (aT 63 K d7 d8 d6 :: L) f0 := aN.cutP f1 (i := 0) rfl f2 f3
      have h3 := Option.some.inj hm
      subst h3
      exact bN (aQ (aQ (aZ Tryz.results84 rfl ⟨d7, d8, rfl, h2⟩)))
     obtain ⟨j6, h4, a0⟩ := aI a0
     refine cD h4 (fun (s : (List Edge × Int × Int)) f w => match s with | (a7, a8, b0) => f 0 = Value.slice a1 a7.length c2 ∧ f 3 = i64 a8 ∧ f 4 = Value.slice d4 b5.length d5 ∧ f 5 = i64 b0 ∧ aN G K (aT 63 K a1 c2 a7 :: L) w) ?_ ?_
     ·exact ⟨a9, b1, rfl, rfl, d3⟩
     ·rintro ⟨a7, a8, b0⟩ f4 f j7 a2 h5 ⟨c6, c7, b3, b4, a4⟩
      replace a2 : fJ a6 b5 a7 a8 b0 = some f4 := a2
      unfold fJ at a2
      refine aH (aH (aB (aC (aD b4) (aC (aD b3) (aC (bU (len := b5.length) cR rfl) (aC (cE rfl rfl) (aF (aA ?_))))))))
      rcases aJ a2 with ⟨d9, a2⟩ | ⟨d9, a2⟩
      ·refine aO d9 rfl (aX (aA (aH (bC (fun f w => ∃ (b6 : List Edge) (c8 : Int), eE b0 b6 c8 = some f4 ∧ f 0 = Value.slice a1 b6.length c2 ∧ f 3 = i64 c8 ∧ f 4 = Value.slice d4 b5.length d5 ∧ f 5 = i64 b0 ∧ aN G K (aT 63 K a1 c2 b6 :: L) w) ?_ ?_))))
       ·rintro f j8 ⟨b6, c8, a2, h6, h7, h8, h9, i0⟩
        unfold eE at a2
        exact aA (aB (aC (aD h9) (aC (cI rfl rfl) (aC (aG (v := i64 (wr (b0 + 1))) rfl) (aF (aA ⟨(b6, c8, wr (b0 + 1)), (Option.some.inj a2).symm, h6, h7, h8, rfl, i0⟩))))))
       refine aH (cW (C := fun w' => aN G K (aT 63 K a1 c2 a7 :: L) w') bR (by kernel_rfl) (aN.mono a4 (dB.drew _)) (aS (fun _ a4 => aD b3) (aS (fun _ a4 => aD b4) ?_)))
       obtain ⟨j9, f5, a2⟩ := aI a2
       obtain ⟨a5, f6, a2⟩ := aI a2
       refine aS (fun _ a4 => aDl cR b2 hx50 c0 c1 rfl rfl rfl f5 rfl) (aS (fun _ a4 => aCN (t := 0) (vs := [i64 a5.From, i64 a5.Label, i64 a5.To]) qC a4 (i := 0) rfl f6 rfl rfl rfl rfl) (aS (fun _ a4 => aD b3) (aS (fun _ a4 => aD b4) (aS (fun _ a4 => lH rfl rfl) ?_))))
       obtain ⟨k0, i1, a2⟩ := aI a2
       obtain ⟨c9, i2, a2⟩ := aI a2
       refine aS (fun _ a4 => aDl cR b2 hx50 c0 c1 rfl rfl rfl i1 rfl) (aS (fun _ a4 => aCN (t := 0) (vs := [i64 c9.From, i64 c9.Label, i64 c9.To]) qC a4 (i := 0) rfl i2 rfl rfl rfl rfl) (aS (fun _ a4 => R_neqG (eq_63 (x := a5) (y := c9)) rfl rfl) (dD (fun k1 e0 => (aA ?_)))))
       rcases aJ a2 with ⟨e1, a2⟩ | ⟨e1, a2⟩
       ·refine aO e1 rfl (aH (aB (aC (aD c6) (aC (aD c7) (aC (aD b3) (aC (aD b4) (aC (aDl cR b2 hx50 c0 c1 rfl rfl rfl f5 rfl) (aC (aCN (t := 0) (vs := [i64 a5.From, i64 a5.Label, i64 a5.To]) qC e0 (i := 0) rfl f6 rfl rfl rfl rfl) ?_))))))))
        obtain ⟨k2, f7, a2⟩ := aI a2
        refine aC (eT cR rfl b2 rfl rfl rfl f7) ?_
        obtain ⟨f8, f9, a2⟩ := aI a2
        exact oA (i := 0) (t := 0) (ns := [i64 a5.From, i64 a5.Label, i64 a5.To]) (e' := (⟨a5.From, a5.Label, a5.To⟩ : Edge)) Tryz.sizeOf63 e0 rfl (Hp.le_refl _) rfl rfl rfl f7 f9 rfl rfl (dT rfl) rfl (fun cs h => by cases h; rfl) (fun i3 (i4 : aN G K (aT 63 K a1 c2 f8 :: L) i3) => (aF (aA (aB (aC (aD c7) (aC (cI rfl rfl) (aC (aG (v := i64 (wr (a8 + 1))) rfl) (aF (bG (aA ⟨f8, wr (a8 + 1), a2, (Eq.trans c6 (congrArg (fun n => Value.slice a1 n c2) (gQ f9))), rfl, b3, b4, i4⟩))))))))))
       ·exact aM e1 rfl (aX (bG (aA ⟨a7, a8, a2, c6, c7, b3, b4, e0⟩)))
      ·refine aM d9 rfl (bY (aY (aY ?_)))
       have i5 := h5 _ (Option.some.inj a2).symm
       subst i5
       have a0 : (eD a7 a8) = some b7 := a0
       exact bO (aA ⟨a7, a8, a0, c6, c7, a4⟩)
    ·exact aM c45 rfl (aX (bG (aA ⟨a0, a9, b1, d3⟩)))
   ·refine aM d1 rfl (bY (aY (aY ?_)))
    have i6 := e2 _ (Option.some.inj a0).symm
    subst i6
    have hm : (eB s_) = some R := hm
    exact bO (aA ⟨hm, a9, a3⟩)
theorem qY {s_ : (List bF)} {R : (List bF)} (hs : aN G K (aT 9 K a1 c2 s_ :: L) w)  (hm : eI s_ = some R) :
  Calls Tryz.prog 81 ([Value.slice a1 s_.length c2] : List Value).toArray w (fW fun v w' => ∃ (ra0 : Option Addr) (rc0 : Nat), v = Value.slice ra0 R.length rc0 ∧ aN G K (aT 9 K ra0 rc0 R :: L) w') := by
 refine aU Tryz.func81 rfl (by kernel_rfl) (by show (1 : Nat) ≤ 61; decide) ?_
 unfold eI at hm
 refine aH (aB (aC (aG (v := Value.slice none 0 0) rfl) (aF (aA (aH (aH (aB (aC (aD (v := Value.slice a1 s_.length c2) rfl) (aC (bU (len := s_.length) cQ rfl) (aC (cE rfl rfl) (aF (aA ?_))))))))))))
 rcases aJ hm with ⟨c3, hm⟩ | ⟨c3, hm⟩
 ·refine aO c3 rfl (aH (aB (aC (aD (v := Value.slice a1 s_.length c2) rfl) (aC (aG (v := Value.slice a1 s_.length c2) rfl) (aF (aA ?_))))))
  have f7 := Option.some.inj hm
  subst f7
  exact bB (aQ (aZ Tryz.results81 rfl ⟨a1, c2, rfl, hs⟩))
 ·refine aM c3 rfl (aX (aA (aH (aH (aB (aC (aG (v := i64 1) rfl) (aF (aA (bC (fun f w => eZ s_ = some R ∧ f 0 = Value.slice a1 s_.length c2 ∧ aN G K (aT 9 K a1 c2 s_ :: L) w) ?_ ?_)))))))))
  ·rintro f w6 ⟨hm, e5, f9⟩
   unfold eZ at hm
   refine aA (aH (aB (aC (aD e5) (aC (aG (v := Value.slice a1 s_.length c2) rfl) (aF (aA ?_))))))
   have g0 := Option.some.inj hm
   subst g0
   exact bB (aZ Tryz.results81 rfl ⟨a1, c2, rfl, f9⟩)
  obtain ⟨i5, g1, hm⟩ := aI hm
  refine cD g1 (fun (a5 : Int) f w => f 0 = Value.slice a1 s_.length c2 ∧ f 3 = i64 a5 ∧ aN G K (aT 9 K a1 c2 s_ :: L) w) ?_ ?_
  ·exact ⟨rfl, rfl, hs⟩
  ·rintro a5 b6 f i6 a0 d8 ⟨a8, b0, a3⟩
   replace a0 : dH s_ a5 = some b6 := a0
   unfold dH at a0
   refine aH (aH (aB (aC (aD b0) (aC (aD a8) (aC (bU (len := s_.length) cQ rfl) (aC (cE rfl rfl) (aF (aA ?_))))))))
   rcases aJ a0 with ⟨c7, a0⟩ | ⟨c7, a0⟩
   ·refine aO c7 rfl (aX (aA (aH (bC (fun f w => fA a5 = some b6 ∧ f 0 = Value.slice a1 s_.length c2 ∧ f 3 = i64 a5 ∧ aN G K (aT 9 K a1 c2 s_ :: L) w) ?_ ?_))))
    ·rintro f i7 ⟨a0, g2, g3, g4⟩
     unfold fA at a0
     exact aA (aB (aC (aD g3) (aC (cI rfl rfl) (aC (aG (v := i64 (wr (a5 + 1))) rfl) (aF (aA ⟨wr (a5 + 1), (Option.some.inj a0).symm, g2, rfl, g4⟩))))))
    refine aH (cW (C := fun w' => aN G K (aT 9 K a1 c2 s_ :: L) w') bR (by kernel_rfl) (aN.mono a3 (dB.drew _)) (aS (fun _ a3 => aD a8) (aS (fun _ a3 => aD b0) ?_)))
    obtain ⟨i8, c8, a0⟩ := aI a0
    have b1 := dL a3 (i := 0) rfl c8
    refine aS (fun _ a3 => eT cQ rfl b1 rfl rfl rfl c8) (aS (fun _ a3 => kD (t := 0) oI a3 (i := 0) rfl c8 rfl rfl rfl) (aS (fun _ a3 => aD a8) (aS (fun _ a3 => aD b0) (aS (fun _ a3 => lH rfl rfl) ?_))))
    obtain ⟨i9, d9, a0⟩ := aI a0
    refine aS (fun _ a3 => eT cQ rfl b1 rfl rfl rfl d9) (aS (fun _ a3 => kD (t := 0) oI a3 (i := 0) rfl d9 rfl rfl rfl) (aS (fun _ a3 => vN rfl rfl) (dD (fun j0 c9 => (aA ?_)))))
    rcases aJ a0 with ⟨c45, a0⟩ | ⟨c45, a0⟩
    ·refine aO c45 rfl (aH (aB (aC (aD a8) (aC (aD b0) ?_))))
     obtain ⟨b4, b7, a0⟩ := aI a0
     have b8 := sU c9 (i := 0) rfl
     obtain ⟨d0, d1, b9⟩ := Cut.ex 1 a1 c2 a5
     refine aC (aBP cQ b8 b9 rfl rfl rfl b7) (aC (aG (v := Value.slice d0 b4.length d1) rfl) (aF (aA (aH (aH (aB (aC (aG (v := i64 1) rfl) (aF (aA (bC (fun f w => ∃ (c0 : List bF) (c1 : Int), dX c0 c1 = some b6 ∧ f 0 = Value.slice a1 c0.length c2 ∧ f 3 = i64 c1 ∧ aN G K (aT 9 K a1 c2 c0 :: L) w) ?_ ?_))))))))))
     ·rintro f j1 ⟨c0, c1, a0, e0, e1, e2⟩
      unfold dX at a0
      refine aA (aH (aB (aC (aD e0) (aC (aD e1) ?_))))
      obtain ⟨j2, g5, a0⟩ := aI a0
      have g6 := sU e2 (i := 0) rfl
      obtain ⟨j3, j4, e3⟩ := Cut.ex 1 a1 c2 c1
      refine aC (aBP cQ g6 e3 rfl rfl rfl g5) ?_
      obtain ⟨e4, q65, a0⟩ := aI a0
      refine aDV cQ aCx rfl e2 (i := 0) rfl e3 rfl rfl q65 (fun e6 (e7 : aN G K (aT 9 K a1 c2 e4 :: L) e6) => (aF (aA (aH (aB (aC (aD (v := Value.slice a1 e4.length c2) (Eq.trans e0 (congrArg (fun n => Value.slice a1 n c2) (aDd q65)))) (aC (aD e1) ?_)))))))
      obtain ⟨d2, e8, a0⟩ := aI a0
      have g7 := sU e7 (i := 0) rfl
      obtain ⟨d3, d4, e9⟩ := Cut.ex 1 a1 c2 0
      refine aC (aGL cQ g7 e9 rfl rfl rfl e8) (aC (aG (v := Value.slice d3 d2.length d4) rfl) (aF (aA (bB (bN (aQ (aQ (aQ ?_))))))))
      have g8 := d8 _ (Option.some.inj a0).symm
      subst g8
      have hm : (some d2) = some R := hm
      have g9 : aN G K (aT 9 K d3 d4 d2 :: L) e6 := aN.cutP e7 (i := 0) rfl e8 e9
      have h0 := Option.some.inj hm
      subst h0
      exact bN (aQ (aQ (aZ Tryz.results81 rfl ⟨d3, d4, rfl, g9⟩)))
     obtain ⟨j5, h1, a0⟩ := aI a0
     refine cD h1 (fun (s : (List bF × Int × Int)) f w => match s with | (a6, a7, a9) => f 0 = Value.slice a1 a6.length c2 ∧ f 3 = i64 a7 ∧ f 4 = Value.slice d0 b4.length d1 ∧ f 5 = i64 a9 ∧ aN G K (aT 9 K a1 c2 a6 :: L) w) ?_ ?_
     ·exact ⟨a8, b0, rfl, rfl, c9⟩
     ·rintro ⟨a6, a7, a9⟩ f0 f j6 a2 h2 ⟨e95, c4, b2, b3, a4⟩
      replace a2 : dG a5 b4 a6 a7 a9 = some f0 := a2
      unfold dG at a2
      refine aH (aH (aB (aC (aD b3) (aC (aD b2) (aC (bU (len := b4.length) cQ rfl) (aC (cE rfl rfl) (aF (aA ?_))))))))
      rcases aJ a2 with ⟨d5, a2⟩ | ⟨d5, a2⟩
      ·refine aO d5 rfl (aX (aA (aH (bC (fun f w => ∃ (b5 : List bF) (c5 : Int), dY a9 b5 c5 = some f0 ∧ f 0 = Value.slice a1 b5.length c2 ∧ f 3 = i64 c5 ∧ f 4 = Value.slice d0 b4.length d1 ∧ f 5 = i64 a9 ∧ aN G K (aT 9 K a1 c2 b5 :: L) w) ?_ ?_))))
       ·rintro f j7 ⟨b5, c5, a2, h3, h4, h5, h6, h7⟩
        unfold dY at a2
        exact aA (aB (aC (aD h6) (aC (cI rfl rfl) (aC (aG (v := i64 (wr (a9 + 1))) rfl) (aF (aA ⟨(b5, c5, wr (a9 + 1)), (Option.some.inj a2).symm, h3, h4, h5, rfl, h7⟩))))))
       refine aH (cW (C := fun w' => aN G K (aT 9 K a1 c2 a6 :: L) w') bR (by kernel_rfl) (aN.mono a4 (dB.drew _)) (aS (fun _ a4 => aD b2) (aS (fun _ a4 => aD b3) ?_)))
       obtain ⟨j8, f1, a2⟩ := aI a2
       obtain ⟨f2, f3, a2⟩ := aI a2
       refine aS (fun _ a4 => aDl cQ b1 b9 b7 b8 rfl rfl rfl f1 rfl) (aS (fun _ a4 => kD (t := 0) oI a4 (i := 0) rfl f3 rfl rfl rfl) (aS (fun _ a4 => aD b2) (aS (fun _ a4 => aD b3) (aS (fun _ a4 => lH rfl rfl) ?_))))
       obtain ⟨j9, h8, a2⟩ := aI a2
       obtain ⟨k0, h9, a2⟩ := aI a2
       refine aS (fun _ a4 => aDl cQ b1 b9 b7 b8 rfl rfl rfl h8 rfl) (aS (fun _ a4 => kD (t := 0) oI a4 (i := 0) rfl h9 rfl rfl rfl) (aS (fun _ a4 => aCL rfl rfl) (dD (fun k1 d6 => (aA ?_)))))
       rcases aJ a2 with ⟨d7, a2⟩ | ⟨d7, a2⟩
       ·refine aO d7 rfl (aH (aB (aC (aD e95) (aC (aD c4) (aC (aD b2) (aC (aD b3) (aC (aDl cQ b1 b9 b7 b8 rfl rfl rfl f1 rfl) (aC (kD (t := 0) oI d6 (i := 0) rfl f3 rfl rfl rfl) ?_))))))))
        obtain ⟨k2, f4, a2⟩ := aI a2
        refine aC (eT cQ rfl b1 rfl rfl rfl f4) ?_
        obtain ⟨f5, f6, a2⟩ := aI a2
        exact oA (i := 0) (t := 0) (ns := [cF f2]) (e' := (f2 : bF)) Tryz.sizeOf9 d6 rfl (Hp.le_refl _) rfl rfl rfl f4 f6 rfl rfl (dT rfl) rfl (fun cs h => by cases h; rfl) (fun i0 (i1 : aN G K (aT 9 K a1 c2 f5 :: L) i0) => (aF (aA (aB (aC (aD c4) (aC (cI rfl rfl) (aC (aG (v := i64 (wr (a7 + 1))) rfl) (aF (bG (aA ⟨f5, wr (a7 + 1), a2, (Eq.trans e95 (congrArg (fun n => Value.slice a1 n c2) (gQ f6))), rfl, b2, b3, i1⟩))))))))))
       ·exact aM d7 rfl (aX (bG (aA ⟨a6, a7, a2, e95, c4, b2, b3, d6⟩)))
      ·refine aM d5 rfl (bY (aY (aY ?_)))
       have i2 := h2 _ (Option.some.inj a2).symm
       subst i2
       have a0 : (dX a6 a7) = some b6 := a0
       exact bO (aA ⟨a6, a7, a0, e95, c4, a4⟩)
    ·exact aM c45 rfl (aX (bG (aA ⟨a0, a8, b0, c9⟩)))
   ·refine aM c7 rfl (bY (aY (aY ?_)))
    have i3 := d8 _ (Option.some.inj a0).symm
    subst i3
    have hm : (eZ s_) = some R := hm
    exact bO (aA ⟨hm, a8, a3⟩)
theorem tE {states : Int} {initial : Int} {labels : (List bF)} {arcs : (List lL)} {R : dC} (hs : aN G K (L) w) (h3 : bX K a1 c2 labels) (h6 : bX K a4 c5 arcs) (hm : aEt states initial labels arcs = some R) :
  Calls Tryz.prog 36 ([i64 states, i64 initial, Value.slice a1 labels.length c2, Value.slice a4 arcs.length c5] : List Value).toArray w (fW fun v w' => ∃ (ra0 : Option Addr) (rc0 : Nat) (ra1 : Option Addr) (rc1 : Nat), v = Value.agg #[i64 R.States, i64 R.Initial, Value.slice ra0 R.Labels.length rc0, Value.slice ra1 R.Edges.length rc1] ∧ aN G K (aT 9 K ra0 rc0 R.Labels :: aT 63 K ra1 rc1 R.Edges :: L) w') := by
 refine aU Tryz.func36 rfl (by kernel_rfl) (by show (4 : Nat) ≤ 55; decide) ?_
 unfold aEt at hm
 refine aH (aB (cG (vs := [i64 0, i64 0, Value.slice none 0 0, Value.slice none 0 0]) Tryz.zeroValue30 hs rfl (fun b7 w8 g0 => (aF (aA (aH (aB (aC (aD (v := i64 states) rfl) (aC (aD (v := i64 initial) rfl) (eN (Kt := K) (xs := ([([116, 97, 117] : bF)] : List bF)) (cs := [cF ([116, 97, 117] : bF)]) (vs := [(0, cF ([116, 97, 117] : bF))]) cQ aCx rfl rfl g0 rfl (by kernel_rfl) rfl rfl rfl ⟨rfl, trivial⟩ (fun g1 g2 (g3 : aN G K (aT 9 K g1 1 ([([116, 97, 117] : bF)] : List bF) :: box b7 30 [i64 0, i64 0, Value.slice none 0 0, Value.slice none 0 0] :: L) g2) => (aC (aD (v := Value.slice a1 labels.length c2) rfl) ?_))))))))))))
 obtain ⟨b5, g4, hm⟩ := aI hm
 refine aEX (i := 0) cQ Tryz.underlying22 aCx rfl rfl g3 rfl (Hp.le_refl _) h3 g4 rfl rfl rfl rfl (fun a7 a8 g5 (g6 : aN G K (aT 9 K a7 a8 b5 :: box b7 30 [i64 0, i64 0, Value.slice none 0 0, Value.slice none 0 0] :: L) g5) => (aC (eR (vs := [(0, i64 states), (1, i64 initial), (2, Value.slice a7 b5.length a8)]) (cs := [i64 states, i64 initial, Value.slice a7 b5.length a8, Value.slice none 0 0]) bs_30 rfl (by kernel_rfl)) (cG (vs := [i64 0, i64 0, Value.slice none 0 0, Value.slice none 0 0]) Tryz.zeroValue30 g6 rfl (fun a9 l4 g7 => (cC (i := 0) (ns := [i64 states, i64 initial, Value.slice a7 b5.length a8, Value.slice none 0 0]) (us := [i64 states, i64 initial, Value.slice a7 b5.length a8, Value.slice none 0 0]) Tryz.sizeOf30 g7 rfl rfl rfl rfl rfl (dT rfl) rfl rfl (fun e0 (e1 : aN G K (box a9 30 [i64 states, i64 initial, Value.slice a7 b5.length a8, Value.slice none 0 0] :: aT 9 K a7 a8 b5 :: box b7 30 [i64 0, i64 0, Value.slice none 0 0, Value.slice none 0 0] :: L) e0) => (aF (aA (aH (aB (aC (bI (t' := 2) gS rfl rfl) (aC (cA nY e1 (i := 0) rfl rfl rfl) ?_))))))))))))
 have g8 : aN G K (aT 9 K a7 a8 b5 :: box a9 30 [i64 states, i64 initial, Value.slice a7 b5.length a8, Value.slice none 0 0] :: box b7 30 [i64 0, i64 0, Value.slice none 0 0, Value.slice none 0 0] :: L) e0 := (aN.arr 2 [1, 0] e1 rfl)
 obtain ⟨d1, g9, hm⟩ := aI hm
 refine aW (vs := [Value.slice a7 b5.length a8, Value.func (.func 80) #[] #[]]) Tryz.call79 rfl (aHM g8 g9) ?_
 rintro _ e2 ⟨rfl, h0, h1⟩
 have e3 : aN G K (aT 9 K a7 a8 d1 :: box a9 30 [i64 states, i64 initial, Value.slice a7 d1.length a8, Value.slice none 0 0] :: box b7 30 [i64 0, i64 0, Value.slice none 0 0, Value.slice none 0 0] :: L) e2 := Eq.mp (congrArg (fun n => aN G K (aT 9 K a7 a8 d1 :: box a9 30 [i64 states, i64 initial, Value.slice a7 n a8, Value.slice none 0 0] :: box b7 30 [i64 0, i64 0, Value.slice none 0 0, Value.slice none 0 0] :: L) e2) h0) h1
 refine aF (aA (aH (aB (aC (bI (t' := 2) gS rfl rfl) (aC (cA nY e3 (i := 1) rfl rfl rfl) ?_)))))
 obtain ⟨a0, h2, hm⟩ := aI hm
 refine aW (vs := [Value.slice a7 d1.length a8]) Tryz.call81 rfl (qY e3 h2) ?_
 rintro _ l5 ⟨a2, a3, rfl, h4⟩
 refine aC (bI (t' := 2) gS rfl rfl) (cC (i := 1) (ns := [Value.slice a2 a0.length a3]) (us := [i64 states, i64 initial, Value.slice a2 a0.length a3, Value.slice none 0 0]) Tryz.sizeOf22 h4 rfl rfl rfl rfl rfl (dT rfl) rfl rfl (fun h5 (h7 : aN G K (aT 9 K a2 a3 a0 :: box a9 30 [i64 states, i64 initial, Value.slice a2 a0.length a3, Value.slice none 0 0] :: box b7 30 [i64 0, i64 0, Value.slice none 0 0, Value.slice none 0 0] :: L) h5) => (aF (aA (aH (aH (aB (aC (aD (v := Value.slice a4 arcs.length c5) rfl) (aC (bU (len := arcs.length) zU rfl) (aC (aD (v := i64 0) rfl) (aF (aA (bC (fun f w => ∃ (c8 : List Edge) (b6 : Option Addr) (c42 : Nat), aBW states initial a0 c8 = some R ∧ f 8 = Value.pointer (some ⟨b7, 0, none⟩) ∧ f 9 = Value.pointer (some ⟨a9, 0, none⟩) ∧ aN G K (aT 63 K b6 c42 c8 :: aT 9 K a2 a3 a0 :: box a9 30 [i64 states, i64 initial, Value.slice a2 a0.length a3, Value.slice b6 c8.length c42] :: box b7 30 [i64 0, i64 0, Value.slice none 0 0, Value.slice none 0 0] :: L) w) ?_ ?_)))))))))))))
 ·rintro f l6 ⟨c8, b6, c42, hm, e4, d2, e5⟩
  unfold aBW at hm
  refine aA (aH (aB (aC (bI (t' := 3) dI d2 rfl) (aC (cA iC e5 (i := 2) rfl rfl rfl) ?_))))
  obtain ⟨d3, h8, hm⟩ := aI hm
  refine aW (vs := [Value.slice b6 c8.length c42, Value.func (.func 77) #[] #[]]) Tryz.call83 rfl (aGQ e5 h8) ?_
  rintro _ e6 ⟨rfl, h9, i0⟩
  have e7 : aN G K (aT 63 K b6 c42 d3 :: aT 9 K a2 a3 a0 :: box a9 30 [i64 states, i64 initial, Value.slice a2 a0.length a3, Value.slice b6 d3.length c42] :: box b7 30 [i64 0, i64 0, Value.slice none 0 0, Value.slice none 0 0] :: L) e6 := Eq.mp (congrArg (fun n => aN G K (aT 63 K b6 c42 d3 :: aT 9 K a2 a3 a0 :: box a9 30 [i64 states, i64 initial, Value.slice a2 a0.length a3, Value.slice b6 n c42] :: box b7 30 [i64 0, i64 0, Value.slice none 0 0, Value.slice none 0 0] :: L) e6) h9) i0
  refine aF (aA (aH (aB (aC (bI (t' := 3) dI d2 rfl) (aC (cA iC e7 (i := 2) rfl rfl rfl) ?_)))))
  obtain ⟨b3, i1, hm⟩ := aI hm
  refine aW (vs := [Value.slice b6 d3.length c42]) Tryz.call84 rfl (nR e7 i1) ?_
  rintro _ l7 ⟨b1, b2, rfl, i2⟩
  refine aC (bI (t' := 3) dI d2 rfl) (cC (i := 2) (ns := [Value.slice b1 b3.length b2]) (us := [i64 states, i64 initial, Value.slice a2 a0.length a3, Value.slice b1 b3.length b2]) Tryz.sizeOf28 i2 rfl rfl rfl rfl rfl (dT rfl) rfl rfl (fun i3 (e8 : aN G K (aT 63 K b1 b2 b3 :: aT 9 K a2 a3 a0 :: box a9 30 [i64 states, i64 initial, Value.slice a2 a0.length a3, Value.slice b1 b3.length b2] :: box b7 30 [i64 0, i64 0, Value.slice none 0 0, Value.slice none 0 0] :: L) i3) => (aF (aA (aH (aB (aC (dR (us := [i64 states, i64 initial, Value.slice a2 a0.length a3, Value.slice b1 b3.length b2]) gT e8 (i := 2) rfl d2 rfl rfl) (cC (i := 3) (ns := [i64 states, i64 initial, Value.slice a2 a0.length a3, Value.slice b1 b3.length b2]) (us := [i64 states, i64 initial, Value.slice a2 a0.length a3, Value.slice b1 b3.length b2]) Tryz.sizeOf30 e8 rfl e4 rfl rfl rfl (dT rfl) rfl rfl (fun i4 (e9 : aN G K (aT 63 K b1 b2 b3 :: aT 9 K a2 a3 a0 :: box a9 30 [i64 states, i64 initial, Value.slice a2 a0.length a3, Value.slice b1 b3.length b2] :: box b7 30 [i64 states, i64 initial, Value.slice a2 a0.length a3, Value.slice b1 b3.length b2] :: L) i4) => (aF (aA ?_)))))))))))
  have i5 := Option.some.inj hm
  subst i5
  exact bB (aEP Tryz.results36 (gL (vs := [i64 states, i64 initial, Value.slice a2 a0.length a3, Value.slice b1 b3.length b2]) rfl gT e9 (i := 3) rfl e4 rfl) ⟨a2, a3, b1, b2, rfl, (aN.arr 4 [1, 0] e9 rfl)⟩)
 have i6 := aN.nil (α := Edge) h7 63 K
 obtain ⟨l8, i7, hm⟩ := aI hm
 refine cD i7 (fun (s : (List Edge × Int)) f w => match s with | (b8, c9) => ∃ (b9 : Option Addr) (c0 : Nat), f 8 = Value.pointer (some ⟨b7, 0, none⟩) ∧ f 9 = Value.pointer (some ⟨a9, 0, none⟩) ∧ f 25 = Value.slice a4 arcs.length c5 ∧ f 26 = i64 (arcs.length : Int) ∧ f 27 = i64 c9 ∧ aN G K (aT 63 K b9 c0 b8 :: aT 9 K a2 a3 a0 :: box a9 30 [i64 states, i64 initial, Value.slice a2 a0.length a3, Value.slice b9 b8.length c0] :: box b7 30 [i64 0, i64 0, Value.slice none 0 0, Value.slice none 0 0] :: L) w) ?_ ?_
 ·exact ⟨none, 0, rfl, rfl, rfl, rfl, rfl, i6⟩
 ·rintro ⟨b8, c9⟩ i8 f l9 b0 i9 ⟨b9, c0, f0, d0, f1, f2, d4, d5⟩
  replace b0 : aAF arcs a0 b8 c9 = some i8 := b0
  unfold aAF at b0
  refine aH (aB (aC (cE d4 f2) (aF (aA (aH ?_)))))
  rcases aJ b0 with ⟨d6, b0⟩ | ⟨d6, b0⟩
  ·refine aO d6 rfl (aX (aA (aH (cK (aH (aB ?_))))))
   obtain ⟨a5, f3, b0⟩ := aI b0
   refine aC (cU zU rfl h6 f1 rfl d4 f3) ?_
   obtain ⟨m0, j0, j1⟩ := bX.el (sz := 3) rfl h6 f3
   cases j1
   refine aC (fO (t := 0) (vs := [i64 a5.from_, cF a5.label, i64 a5.to_]) ag_70 d5 j0 rfl rfl rfl) (cG (vs := [i64 0, cF ([] : bF), i64 0]) Tryz.zeroValue70 d5 rfl (fun f4 m1 j2 => (cC (i := 0) (ns := [i64 a5.from_, cF a5.label, i64 a5.to_]) (us := [i64 a5.from_, cF a5.label, i64 a5.to_]) Tryz.sizeOf70 j2 rfl rfl rfl rfl rfl (dT rfl) rfl rfl (fun j3 (j4 : aN G K (box f4 70 [i64 a5.from_, cF a5.label, i64 a5.to_] :: aT 63 K b9 c0 b8 :: aT 9 K a2 a3 a0 :: box a9 30 [i64 states, i64 initial, Value.slice a2 a0.length a3, Value.slice b9 b8.length c0] :: box b7 30 [i64 0, i64 0, Value.slice none 0 0, Value.slice none 0 0] :: L) j3) => (aF (aA ?_))))))
   obtain ⟨m2, d7, d8, j5, j6⟩ := aN.lendB (i := 0) j4 rfl
   obtain ⟨d9, c1, f5, f6, j7⟩ := aN.lendB (i := 2) j5 rfl
   refine gV (C := fun w' => ∃ L', aN G d9 L' w') [(0, 0), (1, 0), (2, 0), (3, 0), (4, 0), (5, 0), (6, 0), (7, 0), (9, 0), (10, 0), (8, 1), (11, 0), (12, 1), (13, 1), (14, 0), (15, 2)] bR (by kernel_rfl) (fun _ hg => ⟨_, aN.mono f6 hg⟩) (fun m3 j8 => ?_)
   have b4 := aN.mono f6 j8
   refine cL rfl (fun _ _ => bI (t' := 3) dI d0 rfl) (cL rfl (fun _ ⟨_, b4⟩ => bL (t := 3) iC b4 f5 rfl rfl) (cL rfl (fun _ _ => bI (t' := 0) fa_70_0 rfl rfl) (cL rfl (fun _ ⟨_, b4⟩ => bL (t := 0) cM b4 (d8.mono c1) rfl rfl) (cL rfl (fun _ _ => bI (t' := 2) gS d0 rfl) (cL rfl (fun _ ⟨_, b4⟩ => bL (t := 2) nY b4 f5 rfl rfl) (cL rfl (fun _ _ => bI (t' := 1) fa_70_1 rfl rfl) (cL rfl (fun _ ⟨_, b4⟩ => bL (t := 1) oI b4 (d8.mono c1) rfl rfl) (cL rfl (fun _ _ => bI (t' := 2) fa_70_2 rfl rfl) (cL rfl (fun _ ⟨_, b4⟩ => bL (t := 2) cM b4 (d8.mono c1) rfl rfl) (oB rfl ?_))))))))))
   obtain ⟨m4, m5, j9, k0, k1⟩ := aN.lendS (i := 1) b4 (Hp.le_trans d7 c1) rfl
   obtain ⟨c3, k2, b0⟩ := aI b0
   refine aW (vs := [Value.slice a2 a0.length a3, cF a5.label]) Tryz.call82 rfl (kI k0 j9 k2) ?_
   rintro _ m6 ⟨rfl, k3⟩
   have f7 := k1 _ _ k3
   refine aF (aA ⟨⟨_, f7⟩, ?_⟩)
   refine cL rfl (fun _ _ => eR (vs := [(0, i64 a5.from_), (1, i64 c3), (2, i64 a5.to_)]) (cs := [i64 a5.from_, i64 c3, i64 a5.to_]) bs_63 rfl (by kernel_rfl)) (oB rfl (eN (Kt := K) (xs := ([⟨a5.from_, c3, a5.to_⟩] : List Edge)) (cs := [i64 a5.from_, i64 c3, i64 a5.to_]) (vs := [(0, Value.agg #[i64 a5.from_, i64 c3, i64 a5.to_])]) cR zS rfl rfl f7 rfl (by kernel_rfl) rfl rfl rfl ⟨rfl, trivial⟩ (fun k4 k5 (f8 : aN G d9 (aT 63 K k4 1 ([⟨a5.from_, c3, a5.to_⟩] : List Edge) :: aT 9 K a2 a3 a0 :: aT 63 K b9 c0 b8 :: box b7 30 [i64 0, i64 0, Value.slice none 0 0, Value.slice none 0 0] :: L) k5) => (aF (aA ⟨⟨_, f8⟩, ?_⟩)))))
   refine oB rfl ?_
   obtain ⟨c4, k6, b0⟩ := aI b0
   refine iZ (i := 1) cR Tryz.underlying28 zS rfl rfl f8 rfl (Hp.le_trans d7 c1) (Hp.le_trans d7 c1) k6 rfl rfl rfl rfl (fun _ h => h) (fun c6 c7 k7 (f9 : aN G d9 (aT 9 K a2 a3 a0 :: aT 63 K c6 c7 c4 :: box b7 30 [i64 0, i64 0, Value.slice none 0 0, Value.slice none 0 0] :: L) k7) => (aF (aA ⟨⟨_, f9⟩, ?_⟩)))
   refine cL rfl (fun _ _ => bI (t' := 3) dI d0 rfl) ?_
   have k8 := j7 _ _ f9
   have k9 := j6 _ _ k8
   exact WE_s rfl (cC (i := 1) (ns := [Value.slice c6 c4.length c7]) (us := [i64 states, i64 initial, Value.slice a2 a0.length a3, Value.slice c6 c4.length c7]) Tryz.sizeOf28 k9 rfl rfl rfl rfl rfl (dT rfl) rfl rfl (fun l0 (l1 : aN G K (box f4 70 [i64 a5.from_, cF a5.label, i64 a5.to_] :: box a9 30 [i64 states, i64 initial, Value.slice a2 a0.length a3, Value.slice c6 c4.length c7] :: aT 9 K a2 a3 a0 :: aT 63 K c6 c7 c4 :: box b7 30 [i64 0, i64 0, Value.slice none 0 0, Value.slice none 0 0] :: L) l0) => (aF (aA (pS (bG (aA (aB (aC (cI d4 rfl) (aC (aD (v := i64 (wr (c9 + 1))) rfl) (aF (aA ⟨(c4, wr (c9 + 1)), (Option.some.inj b0).symm, c6, c7, f0, d0, f1, f2, rfl, (aN.arr 4 [3, 2, 1] l1 rfl)⟩))))))))))))
  ·refine aM d6 rfl (bY (aY (aY ?_)))
   have l2 := i9 _ (Option.some.inj b0).symm
   subst l2
   have hm : (aBW states initial a0 b8) = some R := hm
   exact bO (aA ⟨b8, b9, c0, hm, f0, d0, d5⟩)
theorem aCB {t : dC} {p : dC} {R : Int} (hs : aN G K (L) w) (hG : G.lo = 0) (h3 : bX K a1 c2 t.Labels) (h6 : bX K a4 c5 t.Edges) (h9 : bX K a7 c8 p.Labels) (h12 : bX K a10 c11 p.Edges) (hm : uX t p = some R) :
  Calls Tryz.prog 85 ([Value.agg #[i64 t.States, i64 t.Initial, Value.slice a1 t.Labels.length c2, Value.slice a4 t.Edges.length c5], Value.agg #[i64 p.States, i64 p.Initial, Value.slice a7 p.Labels.length c8, Value.slice a10 p.Edges.length c11]] : List Value).toArray w (fW fun v w' => v = i64 R ∧ aN G K (L) w') := by
 refine aU Tryz.func85 rfl (by kernel_rfl) (by show (2 : Nat) ≤ 18; decide) ?_
 unfold uX at hm
 refine aH (aB (dU (v := Value.agg #[i64 t.States, i64 t.Initial, Value.slice a1 t.Labels.length c2, Value.slice a4 t.Edges.length c5]) (vs := [i64 t.States, i64 t.Initial, Value.slice a1 t.Labels.length c2, Value.slice a4 t.Edges.length c5]) hs rfl rfl (fun c7 c9 b4 => (dU (v := Value.agg #[i64 p.States, i64 p.Initial, Value.slice a7 p.Labels.length c8, Value.slice a10 p.Edges.length c11]) (vs := [i64 p.States, i64 p.Initial, Value.slice a7 p.Labels.length c8, Value.slice a10 p.Edges.length c11]) b4 rfl rfl (fun b0 d0 b1 => (aC (aG (v := i64 0) rfl) (aF (aA (aH (cK (aH (cH (fun f w => ∃ (a2 : Bool), lW p a2 = some R ∧ f 3 = Value.pointer (some ⟨b0, 0, none⟩) ∧ f 5 = Value.bool a2 ∧ aN G K (box b0 30 [i64 p.States, i64 p.Initial, Value.slice a7 p.Labels.length c8, Value.slice a10 p.Edges.length c11] :: L) w) ?_ ?_))))))))))))
 ·rintro f d1 ⟨a2, hm, b5, b2, a3⟩
  unfold lW at hm
  refine aA ?_
  rcases aJ hm with ⟨a5, hm⟩ | ⟨a5, hm⟩
  ·refine aO a5 b2 (aH (aB (aC (aG (v := i64 1) rfl) (aF (aA ?_)))))
   have b6 := Option.some.inj hm
   subst b6
   exact bB (bN (aQ (aZ Tryz.results85 rfl ⟨rfl, (aN.arr 1 [] a3 rfl)⟩)))
  ·refine aM a5 b2 (aH (aB (aC (dR (us := [i64 p.States, i64 p.Initial, Value.slice a7 p.Labels.length c8, Value.slice a10 p.Edges.length c11]) gT a3 (i := 0) rfl b5 rfl rfl) ?_)))
   obtain ⟨b7, b8, hm⟩ := aI hm
   refine aW (vs := [Value.agg #[i64 p.States, i64 p.Initial, Value.slice a7 p.Labels.length c8, Value.slice a10 p.Edges.length c11]]) Tryz.call34 rfl (rU a3 hG h9 h12 b8) ?_
   rintro _ d2 ⟨rfl, b3⟩
   refine aC (dN rfl) (aC (aG (v := Value.bool (!b7)) rfl) (aF (aA ?_)))
   rcases aJ hm with ⟨a6, hm⟩ | ⟨a6, hm⟩
   ·refine aO a6 rfl (aH (aB (aC (aG (v := i64 6) rfl) (aF (aA ?_)))))
    have b9 := Option.some.inj hm
    subst b9
    exact bB (bN (aQ (aZ Tryz.results85 rfl ⟨rfl, (aN.arr 1 [] b3 rfl)⟩)))
   ·refine aM a6 rfl (aX (bG (aA (aH (aB (aC (aG (v := i64 0) rfl) (aF (aA ?_))))))))
    have c0 := Option.some.inj hm
    subst c0
    exact bB (aZ Tryz.results85 rfl ⟨rfl, (aN.arr 1 [] b3 rfl)⟩)
 refine aB (aC (dR (us := [i64 t.States, i64 t.Initial, Value.slice a1 t.Labels.length c2, Value.slice a4 t.Edges.length c5]) gT b1 (i := 1) rfl rfl rfl rfl) ?_)
 obtain ⟨c1, c3, hm⟩ := aI hm
 refine aW (vs := [Value.agg #[i64 t.States, i64 t.Initial, Value.slice a1 t.Labels.length c2, Value.slice a4 t.Edges.length c5]]) Tryz.call33 rfl (lR b1 hG h3 h6 c3) ?_
 rintro _ d3 ⟨rfl, a8⟩
 refine aC (dN rfl) (aC (aD (v := Value.bool (!c1)) rfl) ?_)
 rcases aJ hm with ⟨a0, hm⟩ | ⟨a0, hm⟩
 ·exact aV (g := 9) a0 (by kernel_rfl) rfl (aV (g := 9) a0 (by kernel_rfl) rfl (aV (g := 9) a0 (by kernel_rfl) rfl (aC (bK (v := Value.bool true) a0 rfl rfl) (aC (aG (v := Value.bool true) rfl) (aF (aA ⟨true, hm, rfl, rfl, (aN.arr 2 [0] a8 rfl)⟩))))))
 ·refine bJ (g := 9) a0 (by kernel_rfl) rfl (aC (dR (us := [i64 p.States, i64 p.Initial, Value.slice a7 p.Labels.length c8, Value.slice a10 p.Edges.length c11]) gT a8 (i := 0) rfl rfl rfl rfl) (bJ (g := 9) a0 (by kernel_rfl) rfl ?_))
  obtain ⟨a9, c4, hm⟩ := aI hm
  refine aW (vs := [Value.agg #[i64 p.States, i64 p.Initial, Value.slice a7 p.Labels.length c8, Value.slice a10 p.Edges.length c11]]) Tryz.call33 rfl (lR a8 hG h9 h12 c4) ?_
  rintro _ d4 ⟨rfl, c6⟩
  exact bJ (g := 9) a0 (by kernel_rfl) rfl (aC (dN rfl) (aC (bM (v := Value.bool (!a9)) a0 rfl rfl) (aC (aG (v := Value.bool (!a9)) rfl) (aF (aA ⟨!a9, hm, rfl, rfl, (aN.arr 2 [0] c6 rfl)⟩)))))
theorem tF {s_ : (List Int)} {v_ : Int} {R : Int} (hs : aN G K (L) w) (h3 : bX K a1 c2 s_) (hm : fH s_ v_ = some R) :
  Calls Tryz.prog 149 ([Value.slice a1 s_.length c2, i64 v_] : List Value).toArray w (fW fun v w' => v = i64 R ∧ aN G K (L) w') := by
 refine aU Tryz.func149 rfl (by kernel_rfl) (by show (2 : Nat) ≤ 19; decide) ?_
 unfold fH at hm
 refine aH (aB (aC (aG (v := i64 0) rfl) (aF (aA (aH (aH (aB (aC (aD (v := Value.slice a1 s_.length c2) rfl) (aC (bU (len := s_.length) cT rfl) (aC (aD (v := i64 0) rfl) (aF (aA (bC (fun f w => fZ = some R ∧ aN G K (L) w) ?_ ?_)))))))))))))
 ·rintro f w4 ⟨hm, b2⟩
  unfold fZ at hm
  refine aA (aH (aB (aC (aG (v := i64 (-1)) rfl) (aF (aA ?_)))))
  have b3 := Option.some.inj hm
  subst b3
  exact bB (aZ Tryz.results149 rfl ⟨rfl, b2⟩)
 obtain ⟨c3, b4, hm⟩ := aI hm
 refine cD b4 (fun (a2 : Int) f w => f 0 = Value.slice a1 s_.length c2 ∧ f 1 = i64 v_ ∧ f 7 = i64 (s_.length : Int) ∧ f 8 = i64 a2 ∧ aN G K (L) w) ?_ ?_
 ·exact ⟨rfl, rfl, rfl, rfl, hs⟩
 ·rintro a2 b5 f c4 a0 a7 ⟨a8, a9, b0, a4, a3⟩
  replace a0 : dV s_ v_ a2 = some b5 := a0
  unfold dV at a0
  refine aH (aB (aC (cE a4 b0) (aF (aA (aH ?_)))))
  rcases aJ a0 with ⟨a5, a0⟩ | ⟨a5, a0⟩
  ·refine aO a5 rfl (aX (aA (aH (cK (aH (aB (aC (aD a4) (aC (aG (v := i64 a2) rfl) (aF (aA (aH (aB (aC (aD a9) (aC (aD a8) (aC (aD (v := i64 a2) rfl) ?_)))))))))))))))
   obtain ⟨c5, b1, a0⟩ := aI a0
   refine aC (cU cT rfl h3 rfl rfl rfl b1) ?_
   obtain ⟨c6, b6, b7⟩ := bX.el (sz := 1) rfl h3 b1
   cases b7
   refine aC (bL (t := 0) cM a3 b6 rfl rfl) (aC (kC rfl rfl) (aF (aA ?_)))
   rcases aJ a0 with ⟨a6, a0⟩ | ⟨a6, a0⟩
   ·refine aO a6 rfl (aH (aB (aC (aD (v := i64 a2) rfl) (aC (aG (v := i64 a2) rfl) (aF (aA (bB (bN (aQ (aQ ?_))))))))))
    have b8 := a7 _ (Option.some.inj a0).symm
    subst b8
    have hm : (some a2) = some R := hm
    have b9 := Option.some.inj hm
    subst b9
    exact bN (aQ (aQ (aZ Tryz.results149 rfl ⟨rfl, a3⟩)))
   ·exact aM a6 rfl (aX (bG (aA (aB (aC (cI a4 rfl) (aC (aD (v := i64 (wr (a2 + 1))) rfl) (aF (aA ⟨wr (a2 + 1), (Option.some.inj a0).symm, a8, a9, b0, rfl, a3⟩))))))))
  ·refine aM a5 rfl (bY (aY (aY ?_)))
   have c0 := a7 _ (Option.some.inj a0).symm
   subst c0
   have hm : (fZ) = some R := hm
   exact bO (aA ⟨hm, a3⟩)
theorem kA {s_ : (List Int)} {v_ : Int} {R : Bool} (hs : aN G K (L) w) (h3 : bX K a1 c2 s_) (hm : dW s_ v_ = some R) :
  Calls Tryz.prog 106 ([Value.slice a1 s_.length c2, i64 v_] : List Value).toArray w (fW fun v w' => v = Value.bool R ∧ aN G K (L) w') := by
 refine aU Tryz.func106 rfl (by kernel_rfl) (by show (2 : Nat) ≤ 9; decide) ?_
 unfold dW at hm
 refine aH (aB (aC (aG (v := Value.bool false) rfl) (aF (aA (aH (aB (aC (aD (v := Value.slice a1 s_.length c2) rfl) (aC (aD (v := i64 v_) rfl) ?_))))))))
 obtain ⟨r4, q5, hm⟩ := aI hm
 refine aW (vs := [Value.slice a1 s_.length c2, i64 v_]) Tryz.call149 rfl (tF hs h3 q5) ?_
 rintro _ w6 ⟨rfl, a3⟩
 refine aC (tX rfl rfl) (aC (aG (v := Value.bool (decide (0 ≤ r4))) rfl) (aF (aA ?_)))
 have a4 := Option.some.inj hm
 subst a4
 exact bB (aZ Tryz.results106 rfl ⟨rfl, a3⟩)
end Gv
