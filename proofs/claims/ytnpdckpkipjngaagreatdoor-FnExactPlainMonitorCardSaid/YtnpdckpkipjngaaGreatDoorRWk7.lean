/- Walks, printed by program. -/
import Derived.Test.YtnpdckpkipjngaaGreatDoorRWk4
import Derived.Test.YtnpdckpkipjngaaGreatDoorRWk6
set_option linter.all false
namespace Gv
open Go Go.Proofs
set_option maxRecDepth 20000
set_option maxHeartbeats 1000000
variable {G : Env} {K : Hp} {L : List nV} {w : World} {a1 a4 a7 a10 a13 a16 a19 a22 a25 : Option Addr} {c2 c8 c11 c17 c20 c23 c26 c5 c14 : Nat}
theorem xA {first : cB} {moves_c0_ : mR} {k5 : Nat} {moves_c1_ : cO} {k14 : Nat} {R : (dC × (List cB) × Bool)} (hs : aN G K (L) w) (hG : G.lo = 0) (h3 : bX K a1 c2 first.states) (h6 : fN K a4 k5 [Value.slice a7 moves_c0_.leave.length c8, Value.slice a10 moves_c0_.stay.length c11]) (h9 : bX K a7 c8 moves_c0_.leave) (h12 : bX K a10 c11 moves_c0_.stay) (h15 : fN K a13 k14 [i64 moves_c1_.t.States, i64 moves_c1_.t.Initial, Value.slice a16 moves_c1_.t.Labels.length c17, Value.slice a19 moves_c1_.t.Edges.length c20, i64 moves_c1_.p.States, i64 moves_c1_.p.Initial, Value.slice a22 moves_c1_.p.Labels.length c23, Value.slice a25 moves_c1_.p.Edges.length c26]) (h18 : bX K a16 c17 moves_c1_.t.Labels) (h21 : bX K a19 c20 moves_c1_.t.Edges) (h24 : bX K a22 c23 moves_c1_.p.Labels) (h27 : bX K a25 c26 moves_c1_.p.Edges) (hm : hX first moves_c0_ moves_c1_ = some R) :
  Calls Tryz.prog 131 ([Value.agg #[Value.slice a1 first.states.length c2, i64 first.y], Value.func (.func 128) #[] #[], Value.func (.func 132) #[] #[bZ a4 k5, bZ a13 k14]] : List Value).toArray w (fW fun v w' => ∃ (K' : Hp) (ra1 : Option Addr) (rc1 : Nat) (ra2 : Option Addr) (rc2 : Nat) (ra3 : Option Addr) (rc3 : Nat), v = Value.tuple #[Value.agg #[i64 R.1.States, i64 R.1.Initial, Value.slice ra1 R.1.Labels.length rc1, Value.slice ra2 R.1.Edges.length rc2], Value.slice ra3 R.2.1.length rc3, Value.bool R.2.2] ∧ Hp.le K K' ∧ aN G K' (aT 9 K ra1 rc1 R.1.Labels :: aT 63 K ra2 rc2 R.1.Edges :: aT 162 K' ra3 rc3 R.2.1 :: L) w') := by
 refine aU Tryz.func131 rfl (by kernel_rfl) (by show (3 : Nat) ≤ 73; decide) ?_
 unfold hX at hm
 refine aH (aB (dU (v := Value.agg #[Value.slice a1 first.states.length c2, i64 first.y]) (vs := [Value.slice a1 first.states.length c2, i64 first.y]) hs rfl rfl (fun h7 w29 n9 => (cG (vs := [i64 0, i64 0, Value.slice none 0 0, Value.slice none 0 0]) Tryz.zeroValue30 n9 rfl (fun a8 w32 o0 => (aC (aG (v := Value.slice none 0 0) rfl) (aC (aG (v := Value.bool false) rfl) (aF (aA (aH (aB (WO_mkMap bF Int o0 ?_))))))))))))
 intro a0 o1 (o2 : aN G K (vO a0 ([] : (List (bF × Int))) :: box a8 30 [i64 0, i64 0, Value.slice none 0 0, Value.slice none 0 0] :: box h7 162 [Value.slice a1 first.states.length c2, i64 first.y] :: L) o1)
 refine aC (aD (v := Value.func (.func 128) #[] #[]) rfl) (aC (eR (vs := [(1, Value.map (some a0)), (3, Value.func (.func 128) #[] #[])]) (cs := [Value.slice none 0 0, Value.map (some a0), Value.slice none 0 0, Value.func (.func 128) #[] #[]]) bs_223 rfl (by kernel_rfl)) (dU (v := Value.agg #[Value.slice none 0 0, Value.map (some a0), Value.slice none 0 0, Value.func (.func 128) #[] #[]]) (vs := [Value.slice none 0 0, Value.map (some a0), Value.slice none 0 0, Value.func (.func 128) #[] #[]]) o2 rfl rfl (fun a2 w38 o3 => (cG (vs := [Value.pointer none]) Tryz.zeroValue220 o3 rfl (fun a6 w41 o4 => (cC (i := 0) (ns := [Value.pointer (some ⟨a2, 0, none⟩)]) (us := [Value.pointer (some ⟨a2, 0, none⟩)]) Tryz.sizeOf220 o4 rfl rfl rfl rfl rfl (dT rfl) rfl rfl ?_))))))
 intro k8 (i3 : aN G K (box a6 220 [Value.pointer (some ⟨a2, 0, none⟩)] :: box a2 223 [Value.slice none 0 0, Value.map (some a0), Value.slice none 0 0, Value.func (.func 128) #[] #[]] :: vO a0 ([] : (List (bF × Int))) :: box a8 30 [i64 0, i64 0, Value.slice none 0 0, Value.slice none 0 0] :: box h7 162 [Value.slice a1 first.states.length c2, i64 first.y] :: L) k8)
 refine aF (aA (aH (aB (aC (cA yK i3 (i := 0) rfl rfl rfl) (aC (dR (us := [Value.slice a1 first.states.length c2, i64 first.y]) aCR i3 (i := 4) rfl rfl rfl rfl) ?_)))))
 have o5 := aN.nil (α := cB) i3 162 K
 have o6 := aN.nil (α := lL) o5 70 K
 have o7 : aN G K (aT 162 K none 0 ([] : List cB) :: vO a0 ([] : (List (bF × Int))) :: aT 70 K none 0 ([] : List lL) :: box a2 223 [Value.slice none 0 0, Value.map (some a0), Value.slice none 0 0, Value.func (.func 128) #[] #[]] :: box a6 220 [Value.pointer (some ⟨a2, 0, none⟩)] :: box a8 30 [i64 0, i64 0, Value.slice none 0 0, Value.slice none 0 0] :: box h7 162 [Value.slice a1 first.states.length c2, i64 first.y] :: L) k8 := (aN.arr 5 [1, 4, 0, 3, 2] o6 rfl)
 obtain ⟨i4, o8, hm⟩ := aI hm
 refine aW (vs := [Value.pointer (some ⟨a2, 0, none⟩), Value.agg #[Value.slice a1 first.states.length c2, i64 first.y]]) Tryz.call185 rfl (gP (Kf := K) o7 hG (Hp.le_refl _) h3 o8) ?_
 rintro _ w52 ⟨i5, i6, rfl, o9⟩
 refine aF (aA (aH (aH (aB (cG (vs := [i64 0]) Tryz.zeroValue3 o9 rfl (fun k9 w55 p0 => (cC (i := 0) (ns := [i64 0]) (us := [i64 0]) Tryz.sizeOf3 p0 rfl rfl rfl rfl rfl (dT rfl) rfl rfl (fun p1 (p2 : aN G K (box k9 3 [i64 0] :: aT 162 K i5 i6 i4.2.1 :: vO a0 i4.2.2 :: aT 70 K none 0 ([] : List lL) :: box a2 223 [Value.slice i5 i4.2.1.length i6, Value.map (some a0), Value.slice none 0 0, Value.func (.func 128) #[] #[]] :: box a6 220 [Value.pointer (some ⟨a2, 0, none⟩)] :: box a8 30 [i64 0, i64 0, Value.slice none 0 0, Value.slice none 0 0] :: box h7 162 [Value.slice a1 first.states.length c2, i64 first.y] :: L) p1) => (aF (aA (bC (fun f w => ∃ (c0 : Hp) (b0 : List cB) (f1 : (List (bF × Int))) (b1 : List lL) (c1 : Option Addr) (c3 : Nat) (b5 : Option Addr) (b6 : Nat), Hp.le K c0 ∧ gA b0 f1 b1 = some R ∧ f 6 = Value.pointer (some ⟨a8, 0, none⟩) ∧ f 9 = Value.pointer (some ⟨a6, 0, none⟩) ∧ aN G c0 (aT 70 K b5 b6 b1 :: aT 162 c0 c1 c3 b0 :: vO a0 f1 :: box a2 223 [Value.slice c1 b0.length c3, Value.map (some a0), Value.slice b5 b1.length b6, Value.func (.func 128) #[] #[]] :: box a6 220 [Value.pointer (some ⟨a2, 0, none⟩)] :: box a8 30 [i64 0, i64 0, Value.slice none 0 0, Value.slice none 0 0] :: L) w) ?_ ?_)))))))))))
 ·rintro f w70 ⟨c0, b0, f1, b1, c1, c3, b5, b6, d8, hm, i7, f7, p3⟩
  unfold gA at hm
  refine aA (aH (cH (fun f w => ∃ (d9 : Int) (e0 : Int) (c5 : List bF) (c6 : List Edge) (i8 : Nat) (c7 : Option Addr) (c9 : Nat) (d0 : Option Addr) (d1 : Nat), iR b0 d9 e0 c5 c6 = some R ∧ f 6 = Value.pointer (some ⟨a8, 0, none⟩) ∧ f 9 = Value.pointer (some ⟨a6, 0, none⟩) ∧ f 12 = Value.pointer (some ⟨i8, 0, none⟩) ∧ aN G c0 (aT 63 K d0 d1 c6 :: aT 9 K c7 c9 c5 :: box i8 30 [i64 d9, i64 e0, Value.slice c7 c5.length c9, Value.slice d0 c6.length d1] :: aT 70 K b5 b6 b1 :: aT 162 c0 c1 c3 b0 :: vO a0 f1 :: box a2 223 [Value.slice c1 b0.length c3, Value.map (some a0), Value.slice b5 b1.length b6, Value.func (.func 128) #[] #[]] :: box a6 220 [Value.pointer (some ⟨a2, 0, none⟩)] :: box a8 30 [i64 0, i64 0, Value.slice none 0 0, Value.slice none 0 0] :: L) w) ?_ ?_))
  ·rintro f w84 ⟨d9, e0, c5, c6, i8, c7, c9, d0, d1, hm, l0, p4, l1, p5⟩
   unfold iR at hm
   refine aA (aH ?_)
   obtain ⟨K86, l2, l3, p6, p7⟩ := aN.lendB (i := 2) p5 rfl
   obtain ⟨K91, h8, p8, p9, q0⟩ := aN.lendB (i := 5) p6 rfl
   obtain ⟨l4, g0, q1, l5, q2⟩ := aN.lendB (i := 5) p9 rfl
   refine gV (C := fun w' => ∃ L', aN G l4 L' w') [(0, 0), (1, 0), (2, 0), (3, 0), (4, 0), (5, 1), (6, 1), (7, 1), (8, 2), (9, 2)] bR (by kernel_rfl) (fun _ hg => ⟨_, aN.mono l5 hg⟩) (fun a17 q3 => ?_)
   have e5 := aN.mono l5 q3
   refine cL rfl (fun _ ⟨_, e5⟩ => fO (t := 0) (vs := [i64 d9, i64 e0, Value.slice c7 c5.length c9, Value.slice d0 c6.length d1]) gT e5 (l3.mono (Hp.le_trans h8 g0)) l1 rfl rfl) (cL rfl (fun _ ⟨_, e5⟩ => bL (t := 0) yK e5 q1 p4 rfl) (cL rfl (fun _ _ => qB rfl) (cL rfl (fun _ _ => bI (t' := 0) wO rfl rfl) (cL rfl (fun _ ⟨_, e5⟩ => bL (t := 0) aCS e5 (p8.mono g0) rfl rfl) (oB rfl (aC (fO (t := 0) (vs := [i64 d9, i64 e0, Value.slice c7 c5.length c9, Value.slice d0 c6.length d1]) gT e5 (l3.mono (Hp.le_trans h8 g0)) l1 rfl rfl) (aF (aA ⟨⟨_, e5⟩, ?_⟩))))))))
   refine oB rfl ?_
   obtain ⟨a18, q4, q5, q6, q7⟩ := aN.lendS (i := 1) e5 (Hp.le_trans (Hp.le_trans (Hp.le_trans d8 l2) h8) g0) rfl
   obtain ⟨a20, q8, q9, r0, r1⟩ := aN.lendS (i := 0) q6 (Hp.le_trans (Hp.le_trans (Hp.le_trans (Hp.le_trans d8 l2) h8) g0) q4) rfl
   obtain ⟨r2, r3, hm⟩ := aI hm
   refine aW (vs := [Value.agg #[i64 d9, i64 e0, Value.slice c7 c5.length c9, Value.slice d0 c6.length d1]]) Tryz.call33 rfl (lR (t := ⟨d9, e0, c5, c6⟩) r0 hG (q5.mono q8) q9 r3) ?_
   rintro _ a21 ⟨rfl, r4⟩
   have r5 := r1 _ _ r4
   have l6 := q7 _ _ r5
   refine aF (aA ⟨⟨_, l6⟩, ?_⟩)
   refine oB rfl (cC (i := 5) (ns := [i64 d9, i64 e0, Value.slice c7 c5.length c9, Value.slice d0 c6.length d1]) (us := [i64 d9, i64 e0, Value.slice c7 c5.length c9, Value.slice d0 c6.length d1]) Tryz.sizeOf30 l6 rfl l0 rfl rfl rfl (dT rfl) rfl rfl (fun r6 (l7 : aN G l4 (aT 9 K c7 c9 c5 :: aT 63 K d0 d1 c6 :: aT 70 K b5 b6 b1 :: aT 162 c0 c1 c3 b0 :: vO a0 f1 :: box a8 30 [i64 d9, i64 e0, Value.slice c7 c5.length c9, Value.slice d0 c6.length d1] :: L) r6) => (aF (aA ⟨⟨_, l7⟩, ?_⟩))))
   have r7 := q2 _ _ l7
   have r8 := q0 _ _ r7
   have l8 := p7 _ _ r8
   refine WE_s rfl (aC (aG (v := Value.slice c1 b0.length c3) rfl) (aF (aA (WE_s rfl (aC (aG (v := Value.bool r2) rfl) (aF (aA (pS (aA ?_)))))))))
   have r9 := Option.some.inj hm
   subst r9
   exact bB (retQ_m3 Tryz.results131 (gL (vs := [i64 d9, i64 e0, Value.slice c7 c5.length c9, Value.slice d0 c6.length d1]) rfl gT l8 (i := 8) rfl l0 rfl) (mH rfl rfl) (mH rfl rfl) ⟨c0, c7, c9, d0, d1, c1, c3, rfl, d8, (aN.arr 9 [3, 4, 6] l8 rfl)⟩)
  obtain ⟨a23, f2, i9, s0, j0⟩ := aN.lendB (i := 3) p3 rfl
  obtain ⟨s1, e1, j1, s2, j2⟩ := aN.lendB (i := 3) s0 rfl
  refine aAs (C := fun w' => ∃ L', aN G s1 L' w') [16] bR (by kernel_rfl) (fun a24 s3 => ?_)
  have a5 := aN.mono s2 s3
  refine jB (i := 0) rfl (by kernel_rfl) ⟨_, a5⟩ (fun _ ⟨_, a5⟩ => bL (t := 0) yK a5 j1 f7 rfl) (jB (i := 1) rfl (by kernel_rfl) ⟨_, a5⟩ (fun _ _ => qB rfl) (jB (i := 2) rfl (by kernel_rfl) ⟨_, a5⟩ (fun _ _ => bI (t' := 0) wO rfl rfl) (jB (i := 3) rfl (by kernel_rfl) ⟨_, a5⟩ (fun _ ⟨_, a5⟩ => bL (t := 0) aCS a5 (i9.mono e1) rfl rfl) (jB (i := 4) rfl (by kernel_rfl) ⟨_, a5⟩ (fun _ _ => bU (len := b0.length) aAY rfl) (jB (i := 5) rfl (by kernel_rfl) ⟨_, a5⟩ (fun _ ⟨_, a5⟩ => bL (t := 0) yK a5 j1 f7 rfl) (jB (i := 6) rfl (by kernel_rfl) ⟨_, a5⟩ (fun _ _ => qB rfl) (jB (i := 7) rfl (by kernel_rfl) ⟨_, a5⟩ (fun _ _ => bI (t' := 2) aAw rfl rfl) (jB (i := 8) rfl (by kernel_rfl) ⟨_, a5⟩ (fun _ ⟨_, a5⟩ => bL (t := 2) sc_68 a5 (i9.mono e1) rfl rfl) (jB (i := 10) rfl (by kernel_rfl) ⟨_, a5⟩ (fun _ ⟨_, a5⟩ => bL (t := 0) yK a5 j1 f7 rfl) (jB (i := 11) rfl (by kernel_rfl) ⟨_, a5⟩ (fun _ _ => qB rfl) (jB (i := 12) rfl (by kernel_rfl) ⟨_, a5⟩ (fun _ _ => bI (t' := 2) aAw rfl rfl) (jB (i := 13) rfl (by kernel_rfl) ⟨_, a5⟩ (fun _ ⟨_, a5⟩ => bL (t := 2) sc_68 a5 (i9.mono e1) rfl rfl) (zR (i := 9) (j := 15) (by kernel_rfl) rfl rfl ?_ ?_)))))))))))))
  ·obtain ⟨a26, a27, s4, s5, s6⟩ := aN.lendS (i := 0) a5 (Hp.le_trans (Hp.le_trans d8 f2) e1) rfl
   obtain ⟨i0, s7, hm⟩ := aI hm
   refine aW (vs := [Value.slice b5 b1.length b6]) Tryz.call187 rfl (aBt s5 s4 s7) ?_
   rintro _ a28 ⟨i1, i2, rfl, s8⟩
   have j3 := s6 _ _ s8
   refine aF (aA ⟨fun _ => ⟨_, j3⟩, ?_⟩)
   refine zR (i := 14) (j := 15) (by kernel_rfl) rfl rfl ?_ ?_
   ·obtain ⟨a29, s9, t0, t1, t2⟩ := aN.lendS (i := 1) j3 (Hp.le_trans (Hp.le_trans d8 f2) e1) rfl
    obtain ⟨a30, t3, t4, t5, t6⟩ := aN.lendS (i := 0) t1 (Hp.le_trans (Hp.le_trans (Hp.le_trans d8 f2) e1) s9) rfl
    obtain ⟨b2, t7, hm⟩ := aI hm
    refine aW (vs := [i64 (b0.length : Int), i64 0, Value.slice i1 i0.length i2, Value.slice b5 b1.length b6]) Tryz.call36 rfl (tE t5 (t0.mono t3) t4 t7) ?_
    rintro _ a31 ⟨g1, g2, g3, g4, rfl, t8⟩
    have t9 := t6 _ _ t8
    have l9 := t2 _ _ t9
    refine aF (aA ⟨fun _ => ⟨_, l9⟩, ?_⟩)
    refine eO (i := 15) (by kernel_rfl) rfl (cG (vs := [i64 0, i64 0, Value.slice none 0 0, Value.slice none 0 0]) Tryz.zeroValue30 l9 rfl (fun m0 a32 m1 => (aF (aA ⟨fun _ => ⟨_, m1⟩, ?_⟩))))
    refine eO (i := 16) (by kernel_rfl) rfl ?_
    have u0 := j2 _ _ m1
    have u1 := j0 _ _ u0
    refine cC (i := 2) (ns := [i64 b2.States, i64 b2.Initial, Value.slice g1 b2.Labels.length g2, Value.slice g3 b2.Edges.length g4]) (us := [i64 b2.States, i64 b2.Initial, Value.slice g1 b2.Labels.length g2, Value.slice g3 b2.Edges.length g4]) Tryz.sizeOf30 u1 rfl rfl rfl rfl rfl (dT rfl) rfl rfl (fun u2 (u3 : aN G c0 (box a2 223 [Value.slice c1 b0.length c3, Value.map (some a0), Value.slice b5 b1.length b6, Value.func (.func 128) #[] #[]] :: box a6 220 [Value.pointer (some ⟨a2, 0, none⟩)] :: box m0 30 [i64 b2.States, i64 b2.Initial, Value.slice g1 b2.Labels.length g2, Value.slice g3 b2.Edges.length g4] :: aT 9 K i1 i2 i0 :: aT 70 K b5 b6 b1 :: aT 9 K g1 g2 b2.Labels :: aT 63 K g3 g4 b2.Edges :: aT 162 c0 c1 c3 b0 :: vO a0 f1 :: box a8 30 [i64 0, i64 0, Value.slice none 0 0, Value.slice none 0 0] :: L) u2) => (aF (aA ⟨no_c rfl, ?_⟩)))
    exact rC (by kernel_rfl) (aA ⟨b2.States, b2.Initial, b2.Labels, b2.Edges, m0, g1, g2, g3, g4, hm, i7, f7, rfl, (aN.arr 9 [6, 5, 2, 4, 7, 8, 0, 1] u3 rfl)⟩)
   ·refine cG (vs := [i64 0, i64 0, Value.slice none 0 0, Value.slice none 0 0]) Tryz.zeroValue30 j3 rfl (fun m2 a33 m3 => (aF (aA ⟨fun _ => ⟨_, m3⟩, ?_⟩)))
    refine eO (i := 14) (by kernel_rfl) rfl ?_
    obtain ⟨a34, u4, u5, u6, u7⟩ := aN.lendS (i := 2) m3 (Hp.le_trans (Hp.le_trans d8 f2) e1) rfl
    obtain ⟨a35, u8, u9, v0, v1⟩ := aN.lendS (i := 1) u6 (Hp.le_trans (Hp.le_trans (Hp.le_trans d8 f2) e1) u4) rfl
    obtain ⟨b3, v2, hm⟩ := aI hm
    refine aW (vs := [i64 (b0.length : Int), i64 0, Value.slice i1 i0.length i2, Value.slice b5 b1.length b6]) Tryz.call36 rfl (tE v0 (u5.mono u8) u9 v2) ?_
    rintro _ a36 ⟨g5, g6, g7, g8, rfl, v3⟩
    have v4 := v1 _ _ v3
    have m4 := u7 _ _ v4
    refine aF (aA ⟨fun _ => ⟨_, m4⟩, ?_⟩)
    refine eO (i := 16) (by kernel_rfl) rfl ?_
    have v5 := j2 _ _ m4
    have v6 := j0 _ _ v5
    refine cC (i := 6) (ns := [i64 b3.States, i64 b3.Initial, Value.slice g5 b3.Labels.length g6, Value.slice g7 b3.Edges.length g8]) (us := [i64 b3.States, i64 b3.Initial, Value.slice g5 b3.Labels.length g6, Value.slice g7 b3.Edges.length g8]) Tryz.sizeOf30 v6 rfl rfl rfl rfl rfl (dT rfl) rfl rfl (fun v7 (v8 : aN G c0 (box a2 223 [Value.slice c1 b0.length c3, Value.map (some a0), Value.slice b5 b1.length b6, Value.func (.func 128) #[] #[]] :: box a6 220 [Value.pointer (some ⟨a2, 0, none⟩)] :: aT 9 K i1 i2 i0 :: aT 70 K b5 b6 b1 :: aT 9 K g5 g6 b3.Labels :: aT 63 K g7 g8 b3.Edges :: box m2 30 [i64 b3.States, i64 b3.Initial, Value.slice g5 b3.Labels.length g6, Value.slice g7 b3.Edges.length g8] :: aT 162 c0 c1 c3 b0 :: vO a0 f1 :: box a8 30 [i64 0, i64 0, Value.slice none 0 0, Value.slice none 0 0] :: L) v7) => (aF (aA ⟨no_c rfl, ?_⟩)))
    exact rC (by kernel_rfl) (aA ⟨b3.States, b3.Initial, b3.Labels, b3.Edges, m2, g5, g6, g7, g8, hm, i7, f7, rfl, (aN.arr 9 [5, 4, 6, 3, 7, 8, 0, 1] v8 rfl)⟩)
  ·refine cG (vs := [i64 0, i64 0, Value.slice none 0 0, Value.slice none 0 0]) Tryz.zeroValue30 a5 rfl (fun m5 a37 m6 => (aF (aA ⟨fun _ => ⟨_, m6⟩, ?_⟩)))
   refine eO (i := 9) (by kernel_rfl) rfl ?_
   obtain ⟨a38, a39, v9, w0, w1⟩ := aN.lendS (i := 1) m6 (Hp.le_trans (Hp.le_trans d8 f2) e1) rfl
   obtain ⟨m7, w2, hm⟩ := aI hm
   refine aW (vs := [Value.slice b5 b1.length b6]) Tryz.call187 rfl (aBt w0 v9 w2) ?_
   rintro _ a40 ⟨m8, m9, rfl, w3⟩
   have n0 := w1 _ _ w3
   refine aF (aA ⟨fun _ => ⟨_, n0⟩, ?_⟩)
   refine eO (i := 14) (by kernel_rfl) rfl ?_
   obtain ⟨a41, w4, w5, w6, w7⟩ := aN.lendS (i := 1) n0 (Hp.le_trans (Hp.le_trans d8 f2) e1) rfl
   obtain ⟨a42, w8, w9, x0, x1⟩ := aN.lendS (i := 0) w6 (Hp.le_trans (Hp.le_trans (Hp.le_trans d8 f2) e1) w4) rfl
   obtain ⟨b4, x2, hm⟩ := aI hm
   refine aW (vs := [i64 (b0.length : Int), i64 0, Value.slice m8 m7.length m9, Value.slice b5 b1.length b6]) Tryz.call36 rfl (tE x0 (w5.mono w8) w9 x2) ?_
   rintro _ a43 ⟨g9, h0, h1, h2, rfl, x3⟩
   have x4 := x1 _ _ x3
   have n1 := w7 _ _ x4
   refine aF (aA ⟨fun _ => ⟨_, n1⟩, ?_⟩)
   refine eO (i := 16) (by kernel_rfl) rfl ?_
   have x5 := j2 _ _ n1
   have x6 := j0 _ _ x5
   refine cC (i := 6) (ns := [i64 b4.States, i64 b4.Initial, Value.slice g9 b4.Labels.length h0, Value.slice h1 b4.Edges.length h2]) (us := [i64 b4.States, i64 b4.Initial, Value.slice g9 b4.Labels.length h0, Value.slice h1 b4.Edges.length h2]) Tryz.sizeOf30 x6 rfl rfl rfl rfl rfl (dT rfl) rfl rfl (fun x7 (x8 : aN G c0 (box a2 223 [Value.slice c1 b0.length c3, Value.map (some a0), Value.slice b5 b1.length b6, Value.func (.func 128) #[] #[]] :: box a6 220 [Value.pointer (some ⟨a2, 0, none⟩)] :: aT 9 K m8 m9 m7 :: aT 70 K b5 b6 b1 :: aT 9 K g9 h0 b4.Labels :: aT 63 K h1 h2 b4.Edges :: box m5 30 [i64 b4.States, i64 b4.Initial, Value.slice g9 b4.Labels.length h0, Value.slice h1 b4.Edges.length h2] :: aT 162 c0 c1 c3 b0 :: vO a0 f1 :: box a8 30 [i64 0, i64 0, Value.slice none 0 0, Value.slice none 0 0] :: L) x7) => (aF (aA ⟨no_c rfl, ?_⟩)))
   exact rC (by kernel_rfl) (aA ⟨b4.States, b4.Initial, b4.Labels, b4.Edges, m5, g9, h0, h1, h2, hm, i7, f7, rfl, (aN.arr 9 [5, 4, 6, 3, 7, 8, 0, 1] x8 rfl)⟩)
 have x9 := aN.nil (α := lL) p2 70 K
 obtain ⟨a44, y0, hm⟩ := aI hm
 refine cD y0 (fun (s : (List cB × (List (bF × Int)) × List lL × Int)) f w => match s with | (b8, e6, c4, d2) => ∃ (f3 : Hp) (d3 : Option Addr) (d4 : Nat) (d5 : Option Addr) (d6 : Nat) (f4 : Nat), Hp.le K f3 ∧ f 2 = Value.func (.func 132) #[] #[bZ a4 k5, bZ a13 k14] ∧ f 6 = Value.pointer (some ⟨a8, 0, none⟩) ∧ f 9 = Value.pointer (some ⟨a6, 0, none⟩) ∧ f 10 = Value.pointer (some ⟨f4, 0, none⟩) ∧ aN G f3 (aT 70 K d5 d6 c4 :: box f4 3 [i64 d2] :: aT 162 f3 d3 d4 b8 :: vO a0 e6 :: box a2 223 [Value.slice d3 b8.length d4, Value.map (some a0), Value.slice d5 c4.length d6, Value.func (.func 128) #[] #[]] :: box a6 220 [Value.pointer (some ⟨a2, 0, none⟩)] :: box a8 30 [i64 0, i64 0, Value.slice none 0 0, Value.slice none 0 0] :: L) w) ?_ ?_
 ·exact ⟨K, i5, i6, none, 0, k9, (Hp.le_refl _), rfl, rfl, rfl, rfl, (aN.arr 9 [0, 1, 2, 3, 5, 6, 7] x9 rfl)⟩
 ·rintro ⟨b8, e6, c4, d2⟩ n2 f a45 a9 n3 ⟨f3, d3, d4, d5, d6, f4, e2, j4, j5, f5, h4, e3⟩
  replace a9 : eS moves_c0_ moves_c1_ b8 e6 c4 d2 = some n2 := a9
  unfold eS at a9
  refine aH (aH (cW (C := fun w' => aN G f3 (aT 70 K d5 d6 c4 :: box f4 3 [i64 d2] :: aT 162 f3 d3 d4 b8 :: vO a0 e6 :: box a2 223 [Value.slice d3 b8.length d4, Value.map (some a0), Value.slice d5 c4.length d6, Value.func (.func 128) #[] #[]] :: box a6 220 [Value.pointer (some ⟨a2, 0, none⟩)] :: box a8 30 [i64 0, i64 0, Value.slice none 0 0, Value.slice none 0 0] :: L) w') bR (by kernel_rfl) (aN.mono e3 (dB.drew _)) (aS (fun _ e3 => cA sc_3 e3 (i := 1) rfl h4 rfl) (aS (fun _ e3 => cA yK e3 (i := 5) rfl f5 rfl) (aS (fun _ e3 => qB rfl) (aS (fun _ e3 => bI (t' := 0) wO rfl rfl) (aS (fun _ e3 => cA aCS e3 (i := 4) rfl rfl rfl) (aS (fun _ e3 => bU (len := b8.length) aAY rfl) (aS (fun _ e3 => cE rfl rfl) (dD (fun y1 n4 => (aA ?_))))))))))))
  rcases aJ a9 with ⟨j6, a9⟩ | ⟨j6, a9⟩
  ·refine aO j6 rfl (aX (aA (aH (cK (aH ?_)))))
   obtain ⟨f6, d7, j7, j8, _⟩ := aN.lendB (i := 1) n4 rfl
   replace j8 : aN G f6 (aT 70 K d5 d6 c4 :: aT 162 f3 d3 d4 b8 :: vO a0 e6 :: box a2 223 [Value.slice d3 b8.length d4, Value.map (some a0), Value.slice d5 c4.length d6, Value.func (.func 128) #[] #[]] :: box a6 220 [Value.pointer (some ⟨a2, 0, none⟩)] :: box a8 30 [i64 0, i64 0, Value.slice none 0 0, Value.slice none 0 0] :: L) y1 := j8
   refine aAs (C := fun w' => ∃ L', aN G f6 L' w') [] bR (by kernel_rfl) (fun n5 y2 => ?_)
   have b7 := aN.mono j8 y2
   refine jB (i := 0) rfl (by kernel_rfl) ⟨_, b7⟩ (fun _ _ => aD j4) (jB (i := 5) rfl (by kernel_rfl) ⟨_, b7⟩ (fun _ ⟨_, b7⟩ => bL (t := 0) sc_3 b7 j7 (aEr h4) rfl) (jB (i := 8) rfl (by kernel_rfl) ⟨_, b7⟩ (fun _ _ => kU (vs := [Value.pointer (some ⟨a6, 0, none⟩), bZ (some ⟨f4, 0, none⟩) 0]) (lst2 f5 (aEr h4))) (eO (i := 1) (by kernel_rfl) rfl (aC (cA yK b7 (i := 4) rfl f5 rfl) (aF (aA ⟨fun _ => ⟨_, b7⟩, ?_⟩))))))
   refine jB (i := 2) rfl (by kernel_rfl) ⟨_, b7⟩ (fun _ _ => qB rfl) (jB (i := 3) rfl (by kernel_rfl) ⟨_, b7⟩ (fun _ _ => bI (t' := 0) wO rfl rfl) (eO (i := 4) (by kernel_rfl) rfl (aC (cA aCS b7 (i := 3) rfl rfl rfl) (aF (aA ⟨fun _ => ⟨_, b7⟩, ?_⟩)))))
   obtain ⟨f8, j9, a9⟩ := aI a9
   have y3 := dL b7 (i := 1) rfl j9
   refine jB (i := 6) rfl (by kernel_rfl) ⟨_, b7⟩ (fun _ _ => eT aAY rfl y3 rfl rfl rfl j9) (eO (i := 7) (by kernel_rfl) rfl ?_)
   obtain ⟨a46, y4, y5⟩ := own_el (sz := 2) rfl b7 (i := 1) rfl j9
   obtain ⟨k0, k1, rfl, y6⟩ := y5
   refine aC (R_ldCG (t := 0) (vs := [Value.slice k0 f8.states.length k1, i64 f8.y]) aCR y4 rfl rfl rfl) (aF (aA ⟨fun _ => ⟨_, b7⟩, ?_⟩))
   refine eO (i := 9) (by kernel_rfl) rfl ?_
   have y7 : aN G f6 (aT 70 K d5 d6 c4 :: aT 162 f6 d3 d4 b8 :: vO a0 e6 :: box a2 223 [Value.slice d3 b8.length d4, Value.map (some a0), Value.slice d5 c4.length d6, Value.func (.func 128) #[] #[]] :: box a6 220 [Value.pointer (some ⟨a2, 0, none⟩)] :: box a8 30 [i64 0, i64 0, Value.slice none 0 0, Value.slice none 0 0] :: L) n5 := aN.weak (i := 1) b7 rfl (fun _ h => aT.mono d7 h)
   have y8 : aN G f6 (aT 162 f6 d3 d4 b8 :: vO a0 e6 :: aT 70 K d5 d6 c4 :: box a2 223 [Value.slice d3 b8.length d4, Value.map (some a0), Value.slice d5 c4.length d6, Value.func (.func 128) #[] #[]] :: box a6 220 [Value.pointer (some ⟨a2, 0, none⟩)] :: box a8 30 [i64 0, i64 0, Value.slice none 0 0, Value.slice none 0 0] :: L) n5 := (aN.arr 3 [1, 2, 0] y7 rfl)
   obtain ⟨a3, y9, a9⟩ := aI a9
   refine kE (vs := [Value.agg #[Value.slice k0 f8.states.length k1, i64 f8.y], Value.func (.func 186) #[] #[Value.pointer (some ⟨a6, 0, none⟩), bZ (some ⟨f4, 0, none⟩) 0]]) (caps := [bZ a4 k5, bZ a13 k14]) (us := [Value.agg #[Value.slice k0 f8.states.length k1, i64 f8.y], Value.func (.func 186) #[] #[Value.pointer (some ⟨a6, 0, none⟩), bZ (some ⟨f4, 0, none⟩) 0], bZ a4 k5, bZ a13 k14]) rfl Tryz.call132 rfl rfl (zD (Kf := f6) y8 hG (Hp.le_refl _) (y6.mono d7) j7 (h6.mono (Hp.le_trans e2 d7)) (h9.mono (Hp.le_trans e2 d7)) (h12.mono (Hp.le_trans e2 d7)) (h15.mono (Hp.le_trans e2 d7)) (h18.mono (Hp.le_trans e2 d7)) (h21.mono (Hp.le_trans e2 d7)) (h24.mono (Hp.le_trans e2 d7)) (h27.mono (Hp.le_trans e2 d7)) y9) ?_
   rintro _ a47 ⟨e4, e7, e8, e9, f0, rfl, h5, f9⟩
   refine aF (aA ⟨fun _ => ⟨_, (aN.weakK f9 h5)⟩, ?_⟩)
   refine jB (i := 10) rfl (by kernel_rfl) ⟨_, (aN.weakK f9 h5)⟩ (fun _ _ => aG (v := Value.bool a3.1) rfl) (rC (by kernel_rfl) (aA (aH (cH (fun f w => ∃ (k2 : Bool), gB d2 a3 k2 = some n2 ∧ f 2 = Value.func (.func 132) #[] #[bZ a4 k5, bZ a13 k14] ∧ f 6 = Value.pointer (some ⟨a8, 0, none⟩) ∧ f 9 = Value.pointer (some ⟨a6, 0, none⟩) ∧ f 10 = bZ (some ⟨f4, 0, none⟩) 0 ∧ f 48 = Value.bool k2 ∧ aN G e4 (aT 162 e4 e7 e8 a3.2.1 :: vO a0 a3.2.2.1 :: aT 70 K e9 f0 a3.2.2.2 :: box a2 223 [Value.slice e7 a3.2.1.length e8, Value.map (some a0), Value.slice e9 a3.2.2.2.length f0, Value.func (.func 128) #[] #[]] :: box a6 220 [Value.pointer (some ⟨a2, 0, none⟩)] :: box a8 30 [i64 0, i64 0, Value.slice none 0 0, Value.slice none 0 0] :: L) w) ?_ ?_))))
   ·rintro f a48 ⟨k2, a9, z0, k3, z1, z2, n6, k4⟩
    unfold gB at a9
    refine aA ?_
    rcases aJ a9 with ⟨k6, a9⟩ | ⟨k6, a9⟩
    ·refine aO k6 n6 (aH (aB (aC (eR (vs := []) (cs := [i64 0, i64 0, Value.slice none 0 0, Value.slice none 0 0]) bs_30 rfl (by kernel_rfl)) (cC (i := 5) (ns := [i64 0, i64 0, Value.slice none 0 0, Value.slice none 0 0]) (us := [i64 0, i64 0, Value.slice none 0 0, Value.slice none 0 0]) Tryz.sizeOf30 k4 rfl k3 rfl rfl rfl (dT rfl) rfl rfl (fun z3 (z4 : aN G e4 (aT 162 e4 e7 e8 a3.2.1 :: vO a0 a3.2.2.1 :: aT 70 K e9 f0 a3.2.2.2 :: box a2 223 [Value.slice e7 a3.2.1.length e8, Value.map (some a0), Value.slice e9 a3.2.2.2.length f0, Value.func (.func 128) #[] #[]] :: box a6 220 [Value.pointer (some ⟨a2, 0, none⟩)] :: box a8 30 [i64 0, i64 0, Value.slice none 0 0, Value.slice none 0 0] :: L) z3) => (aC (aG (v := Value.slice none 0 0) rfl) (aC (aG (v := Value.bool false) rfl) (aF (aA (bB (bN (aQ (aQ ?_)))))))))))))
     have z5 := n3 _ (Option.some.inj a9).symm
     subst z5
     have hm : (some (⟨0, 0, [], []⟩, [], false)) = some R := hm
     have z6 := aN.nil (α := bF) z4 9 K
     have z7 := aN.nil (α := Edge) z6 63 K
     have n7 := aN.nil (α := cB) z7 162 e4
     have z8 := Option.some.inj hm
     subst z8
     exact bN (aQ (aQ (retQ_m3 Tryz.results131 (gL (vs := [i64 0, i64 0, Value.slice none 0 0, Value.slice none 0 0]) rfl gT n7 (i := 8) rfl k3 rfl) (mH rfl rfl) (mH rfl rfl) ⟨e4, none, 0, none, 0, none, 0, rfl, (Hp.le_trans (Hp.le_trans e2 d7) h5), (aN.arr 9 [2, 1, 0] n7 rfl)⟩)))
    ·exact aM k6 n6 (aX (bG (aA (aH (aH (aB (aC (bL (t := 0) sc_3 k4 (j7.mono h5) z2 rfl) (aF (aA (aB (cG (vs := [i64 0]) Tryz.zeroValue3 k4 rfl (fun k7 a49 z9 => (cC (i := 0) (ns := [i64 d2]) (us := [i64 d2]) Tryz.sizeOf3 z9 rfl rfl rfl rfl rfl (dT rfl) rfl rfl (fun a00 (n8 : aN G e4 (box k7 3 [i64 d2] :: aT 162 e4 e7 e8 a3.2.1 :: vO a0 a3.2.2.1 :: aT 70 K e9 f0 a3.2.2.2 :: box a2 223 [Value.slice e7 a3.2.1.length e8, Value.map (some a0), Value.slice e9 a3.2.2.2.length f0, Value.func (.func 128) #[] #[]] :: box a6 220 [Value.pointer (some ⟨a2, 0, none⟩)] :: box a8 30 [i64 0, i64 0, Value.slice none 0 0, Value.slice none 0 0] :: L) a00) => (aF (aA (aB (aC (cA sc_3 n8 (i := 0) rfl rfl rfl) (aC (cI rfl rfl) (cC (i := 0) (ns := [i64 (wr (d2 + 1))]) (us := [i64 (wr (d2 + 1))]) Tryz.sizeOf3 n8 rfl rfl rfl rfl rfl (dT rfl) rfl rfl (fun a01 (a02 : aN G e4 (box k7 3 [i64 (wr (d2 + 1))] :: aT 162 e4 e7 e8 a3.2.1 :: vO a0 a3.2.2.1 :: aT 70 K e9 f0 a3.2.2.2 :: box a2 223 [Value.slice e7 a3.2.1.length e8, Value.map (some a0), Value.slice e9 a3.2.2.2.length f0, Value.func (.func 128) #[] #[]] :: box a6 220 [Value.pointer (some ⟨a2, 0, none⟩)] :: box a8 30 [i64 0, i64 0, Value.slice none 0 0, Value.slice none 0 0] :: L) a01) => (aF (aA ⟨(a3.2.1, a3.2.2.1, a3.2.2.2, wr (d2 + 1)), (Option.some.inj a9).symm, e4, e7, e8, e9, f0, k7, (Hp.le_trans (Hp.le_trans e2 d7) h5), z0, k3, z1, rfl, (aN.arr 4 [3, 0, 1, 2] a02 rfl)⟩)))))))))))))))))))))))
   refine aB (aC (aD (v := Value.bool a3.1) rfl) (aC (dN rfl) (aC (aD (v := Value.bool (!a3.1)) rfl) ?_)))
   rcases aJ a9 with ⟨b9, a9⟩ | ⟨b9, a9⟩
   ·exact aV (g := 41) b9 (by kernel_rfl) rfl (aV (g := 41) b9 (by kernel_rfl) rfl (aV (g := 41) b9 (by kernel_rfl) rfl (aV (g := 41) b9 (by kernel_rfl) rfl (aV (g := 41) b9 (by kernel_rfl) rfl (aV (g := 41) b9 (by kernel_rfl) rfl (aC (bK (v := Value.bool true) b9 rfl rfl) (aF (aA ⟨true, a9, j4, j5, f5, (aEr h4), rfl, f9⟩))))))))
   ·exact bJ (g := 41) b9 (by kernel_rfl) rfl (aC (cA yK f9 (i := 4) rfl f5 rfl) (bJ (g := 41) b9 (by kernel_rfl) rfl (aC (qB rfl) (bJ (g := 41) b9 (by kernel_rfl) rfl (aC (bI (t' := 0) wO rfl rfl) (bJ (g := 41) b9 (by kernel_rfl) rfl (aC (cA aCS f9 (i := 3) rfl rfl rfl) (bJ (g := 41) b9 (by kernel_rfl) rfl (aC (bU (len := a3.2.1.length) aAY rfl) (bJ (g := 41) b9 (by kernel_rfl) rfl (aC (oH rfl rfl) (aC (bM (v := Value.bool (decide (40 < (a3.2.1.length : Int)))) b9 rfl rfl) (aF (aA ⟨decide (40 < (a3.2.1.length : Int)), a9, j4, j5, f5, (aEr h4), rfl, f9⟩))))))))))))))
  ·refine aM j6 rfl (bY (aY (aY ?_)))
   have a03 := n3 _ (Option.some.inj a9).symm
   subst a03
   have hm : (gA b8 e6 c4) = some R := hm
   exact bO (aA ⟨f3, b8, e6, c4, d3, d4, d5, d6, e2, hm, j5, f5, (aN.arr 2 [0] n4 rfl)⟩)
theorem aAL {o : cO} {R : (dS × Bool)} (hs : aN G K (L) w) (hG : G.lo = 0) (h3 : bX K a1 c2 o.t.Labels) (h6 : bX K a4 c5 o.t.Edges) (h9 : bX K a7 c8 o.p.Labels) (h12 : bX K a10 c11 o.p.Edges) (hm : kZ o = some R) :
  Calls Tryz.prog 86 ([Value.agg #[i64 o.t.States, i64 o.t.Initial, Value.slice a1 o.t.Labels.length c2, Value.slice a4 o.t.Edges.length c5, i64 o.p.States, i64 o.p.Initial, Value.slice a7 o.p.Labels.length c8, Value.slice a10 o.p.Edges.length c11]] : List Value).toArray w (fW fun v w' => ∃ (ra0 : Option Addr) (rc0 : Nat) (ra1 : Option Addr) (rc1 : Nat) (ra2 : Option Addr) (rc2 : Nat), v = Value.tuple #[Value.agg #[i64 R.1.System.States, i64 R.1.System.Initial, Value.slice ra0 R.1.System.Labels.length rc0, Value.slice ra1 R.1.System.Edges.length rc1, Value.slice ra2 R.1.Verdicts.length rc2], Value.bool R.2] ∧ aN G K (aT 9 K ra0 rc0 R.1.System.Labels :: aT 63 K ra1 rc1 R.1.System.Edges :: aT 2 K ra2 rc2 R.1.Verdicts :: L) w') := by
 refine aU Tryz.func86 rfl (by kernel_rfl) (by show (1 : Nat) ≤ 65; decide) ?_
 unfold kZ at hm
 refine aH (aB (dU (v := Value.agg #[i64 o.t.States, i64 o.t.Initial, Value.slice a1 o.t.Labels.length c2, Value.slice a4 o.t.Edges.length c5, i64 o.p.States, i64 o.p.Initial, Value.slice a7 o.p.Labels.length c8, Value.slice a10 o.p.Edges.length c11]) (vs := [i64 o.t.States, i64 o.t.Initial, Value.slice a1 o.t.Labels.length c2, Value.slice a4 o.t.Edges.length c5, i64 o.p.States, i64 o.p.Initial, Value.slice a7 o.p.Labels.length c8, Value.slice a10 o.p.Edges.length c11]) hs rfl rfl (fun e8 w14 q8 => (cG (vs := [i64 0, i64 0, Value.slice none 0 0, Value.slice none 0 0, Value.slice none 0 0]) Tryz.zeroValue33 q8 rfl (fun a3 w17 m7 => (aC (aG (v := Value.bool false) rfl) (aF (aA (aH (aB (aC (dR (us := [i64 o.t.States, i64 o.t.Initial, Value.slice a1 o.t.Labels.length c2, Value.slice a4 o.t.Edges.length c5, i64 o.p.States, i64 o.p.Initial, Value.slice a7 o.p.Labels.length c8, Value.slice a10 o.p.Edges.length c11]) aAX m7 (i := 1) rfl rfl rfl rfl) ?_)))))))))))
 obtain ⟨a2, q9, hm⟩ := aI hm
 refine aW (vs := [Value.agg #[i64 o.t.States, i64 o.t.Initial, Value.slice a1 o.t.Labels.length c2, Value.slice a4 o.t.Edges.length c5, i64 o.p.States, i64 o.p.Initial, Value.slice a7 o.p.Labels.length c8, Value.slice a10 o.p.Edges.length c11]]) Tryz.call126 rfl (aBD m7 h3 h6 h9 h12 q9) ?_
 rintro _ w29 ⟨b5, b6, d1, b2, b3, c7, rfl, r0, r1, r2⟩
 refine cG (vs := [Value.slice none 0 0, Value.slice none 0 0]) Tryz.zeroValue159 r2 rfl (fun d9 w32 r3 => (cC (i := 0) (ns := [Value.slice b5 a2.leave.length b6, Value.slice b2 a2.stay.length b3]) (us := [Value.slice b5 a2.leave.length b6, Value.slice b2 a2.stay.length b3]) Tryz.sizeOf159 r3 rfl rfl rfl rfl rfl (dT rfl) rfl rfl (fun r4 (r5 : aN G K (box d9 159 [Value.slice b5 a2.leave.length b6, Value.slice b2 a2.stay.length b3] :: aT 87 K b5 b6 (bT d1 a2.leave) :: rows [4] d1 a2.leave :: aT 87 K b2 b3 (bT c7 a2.stay) :: rows [4] c7 a2.stay :: box a3 33 [i64 0, i64 0, Value.slice none 0 0, Value.slice none 0 0, Value.slice none 0 0] :: box e8 119 [i64 o.t.States, i64 o.t.Initial, Value.slice a1 o.t.Labels.length c2, Value.slice a4 o.t.Edges.length c5, i64 o.p.States, i64 o.p.Initial, Value.slice a7 o.p.Labels.length c8, Value.slice a10 o.p.Edges.length c11] :: L) r4) => (aF (aA (aH (cH (fun f w => ∃ (d0 : List Int) (e6 : Nat) (e0 : Option Addr) (e1 : Nat), lF o a2 d0 = some R ∧ f 1 = Value.pointer (some ⟨e8, 0, none⟩) ∧ f 2 = Value.pointer (some ⟨a3, 0, none⟩) ∧ f 4 = Value.pointer (some ⟨d9, 0, none⟩) ∧ f 5 = Value.pointer (some ⟨e6, 0, none⟩) ∧ aN G K (aT 2 K e0 e1 d0 :: box e6 162 [Value.slice e0 d0.length e1, i64 o.p.Initial] :: box d9 159 [Value.slice b5 a2.leave.length b6, Value.slice b2 a2.stay.length b3] :: aT 87 K b5 b6 (bT d1 a2.leave) :: rows [4] d1 a2.leave :: aT 87 K b2 b3 (bT c7 a2.stay) :: rows [4] c7 a2.stay :: box a3 33 [i64 0, i64 0, Value.slice none 0 0, Value.slice none 0 0, Value.slice none 0 0] :: box e8 119 [i64 o.t.States, i64 o.t.Initial, Value.slice a1 o.t.Labels.length c2, Value.slice a4 o.t.Edges.length c5, i64 o.p.States, i64 o.p.Initial, Value.slice a7 o.p.Labels.length c8, Value.slice a10 o.p.Edges.length c11] :: L) w) ?_ ?_)))))))
 ·rintro f j0 ⟨d0, e6, e0, e1, hm, m8, j1, j5, r6, m9⟩
  unfold lF at hm
  refine aA (aH (aB (aC (aG (v := Value.func (.func 128) #[] #[]) rfl) (aF (aA (aH (aB (aC (dR (us := [Value.slice e0 d0.length e1, i64 o.p.Initial]) aCR m9 (i := 1) rfl r6 rfl rfl) (aC (aD (v := Value.func (.func 128) #[] #[]) rfl) (aC (kU (vs := [Value.pointer (some ⟨d9, 0, none⟩), Value.pointer (some ⟨e8, 0, none⟩)]) (lst2 j5 m8)) ?_))))))))))
  obtain ⟨r7, c9, r8, k3⟩ := aN.giveS (i := 0) m9 (Hp.le_refl _) rfl
  replace k3 : aN G r7 (box e6 162 [Value.slice e0 d0.length e1, i64 o.p.Initial] :: box d9 159 [Value.slice b5 a2.leave.length b6, Value.slice b2 a2.stay.length b3] :: aT 87 K b5 b6 (bT d1 a2.leave) :: rows [4] d1 a2.leave :: aT 87 K b2 b3 (bT c7 a2.stay) :: rows [4] c7 a2.stay :: box a3 33 [i64 0, i64 0, Value.slice none 0 0, Value.slice none 0 0, Value.slice none 0 0] :: box e8 119 [i64 o.t.States, i64 o.t.Initial, Value.slice a1 o.t.Labels.length c2, Value.slice a4 o.t.Edges.length c5, i64 o.p.States, i64 o.p.Initial, Value.slice a7 o.p.Labels.length c8, Value.slice a10 o.p.Edges.length c11] :: L) j0 := k3
  obtain ⟨r9, c6, n0, _, k4, _⟩ := aN.lendD' (i := 2) k3 r0 rfl rfl
  replace k4 : aN G r9 (box e6 162 [Value.slice e0 d0.length e1, i64 o.p.Initial] :: box d9 159 [Value.slice b5 a2.leave.length b6, Value.slice b2 a2.stay.length b3] :: aT 87 K b2 b3 (bT c7 a2.stay) :: rows [4] c7 a2.stay :: box a3 33 [i64 0, i64 0, Value.slice none 0 0, Value.slice none 0 0, Value.slice none 0 0] :: box e8 119 [i64 o.t.States, i64 o.t.Initial, Value.slice a1 o.t.Labels.length c2, Value.slice a4 o.t.Edges.length c5, i64 o.p.States, i64 o.p.Initial, Value.slice a7 o.p.Labels.length c8, Value.slice a10 o.p.Edges.length c11] :: L) j0 := k4
  obtain ⟨s0, c3, n1, _, k5, _⟩ := aN.lendD' (i := 2) k4 r1 rfl rfl
  replace k5 : aN G s0 (box e6 162 [Value.slice e0 d0.length e1, i64 o.p.Initial] :: box d9 159 [Value.slice b5 a2.leave.length b6, Value.slice b2 a2.stay.length b3] :: box a3 33 [i64 0, i64 0, Value.slice none 0 0, Value.slice none 0 0, Value.slice none 0 0] :: box e8 119 [i64 o.t.States, i64 o.t.Initial, Value.slice a1 o.t.Labels.length c2, Value.slice a4 o.t.Edges.length c5, i64 o.p.States, i64 o.p.Initial, Value.slice a7 o.p.Labels.length c8, Value.slice a10 o.p.Edges.length c11] :: L) j0 := k5
  obtain ⟨s1, b4, n2, k6, _⟩ := aN.lendB (i := 1) k5 rfl
  replace k6 : aN G s1 (box e6 162 [Value.slice e0 d0.length e1, i64 o.p.Initial] :: box a3 33 [i64 0, i64 0, Value.slice none 0 0, Value.slice none 0 0, Value.slice none 0 0] :: box e8 119 [i64 o.t.States, i64 o.t.Initial, Value.slice a1 o.t.Labels.length c2, Value.slice a4 o.t.Edges.length c5, i64 o.p.States, i64 o.p.Initial, Value.slice a7 o.p.Labels.length c8, Value.slice a10 o.p.Edges.length c11] :: L) j0 := k6
  obtain ⟨s2, a9, j6, k7, _⟩ := aN.lendB (i := 2) k6 rfl
  replace k7 : aN G s2 (box e6 162 [Value.slice e0 d0.length e1, i64 o.p.Initial] :: box a3 33 [i64 0, i64 0, Value.slice none 0 0, Value.slice none 0 0, Value.slice none 0 0] :: L) j0 := k7
  obtain ⟨a0, s3, hm⟩ := aI hm
  refine aW (vs := [Value.agg #[Value.slice e0 d0.length e1, i64 o.p.Initial], Value.func (.func 128) #[] #[], Value.func (.func 132) #[] #[bZ (some ⟨d9, 0, none⟩) 0, bZ (some ⟨e8, 0, none⟩) 0]]) Tryz.call131 rfl (xA (first := ⟨d0, o.p.Initial⟩) k7 hG (r8.mono (Hp.le_trans (Hp.le_trans (Hp.le_trans c6 c3) b4) a9)) (n2.mono a9) (n0.mono (Hp.le_trans (Hp.le_trans c3 b4) a9)) (n1.mono (Hp.le_trans b4 a9)) j6 (h3.mono (Hp.le_trans (Hp.le_trans (Hp.le_trans (Hp.le_trans c9 c6) c3) b4) a9)) (h6.mono (Hp.le_trans (Hp.le_trans (Hp.le_trans (Hp.le_trans c9 c6) c3) b4) a9)) (h9.mono (Hp.le_trans (Hp.le_trans (Hp.le_trans (Hp.le_trans c9 c6) c3) b4) a9)) (h12.mono (Hp.le_trans (Hp.le_trans (Hp.le_trans (Hp.le_trans c9 c6) c3) b4) a9)) s3) ?_
  rintro _ w76 ⟨b7, d2, d3, d4, d5, e2, e3, rfl, c4, s4⟩
  refine aC (aD (v := Value.tuple #[Value.agg #[i64 a0.1.States, i64 a0.1.Initial, Value.slice d2 a0.1.Labels.length d3, Value.slice d4 a0.1.Edges.length d5], Value.slice e2 a0.2.1.length e3, Value.bool a0.2.2]) rfl) (aC (cZ rfl rfl) (aC (cZ rfl rfl) (aC (cZ rfl rfl) (cG (vs := [i64 0, i64 0, Value.slice none 0 0, Value.slice none 0 0]) Tryz.zeroValue30 s4 rfl (fun j2 w79 s5 => (cC (i := 0) (ns := [i64 a0.1.States, i64 a0.1.Initial, Value.slice d2 a0.1.Labels.length d3, Value.slice d4 a0.1.Edges.length d5]) (us := [i64 a0.1.States, i64 a0.1.Initial, Value.slice d2 a0.1.Labels.length d3, Value.slice d4 a0.1.Edges.length d5]) Tryz.sizeOf30 s5 rfl rfl rfl rfl rfl (dT rfl) rfl rfl (fun s6 (n3 : aN G b7 (box j2 30 [i64 a0.1.States, i64 a0.1.Initial, Value.slice d2 a0.1.Labels.length d3, Value.slice d4 a0.1.Edges.length d5] :: aT 9 K d2 d3 a0.1.Labels :: aT 63 K d4 d5 a0.1.Edges :: aT 162 b7 e2 e3 a0.2.1 :: box e6 162 [Value.slice e0 d0.length e1, i64 o.p.Initial] :: box a3 33 [i64 0, i64 0, Value.slice none 0 0, Value.slice none 0 0, Value.slice none 0 0] :: L) s6) => (aC (aG (v := Value.slice e2 a0.2.1.length e3) rfl) (aC (aG (v := Value.bool a0.2.2) rfl) (aF (aA (aH (aH (aB (aC (aD (v := Value.bool a0.2.2) rfl) (aC (dN rfl) (aF (aA ?_))))))))))))))))))
  rcases aJ hm with ⟨k8, hm⟩ | ⟨k8, hm⟩
  ·refine aO k8 rfl (aH (aB (aC (eR (vs := []) (cs := [i64 0, i64 0, Value.slice none 0 0, Value.slice none 0 0, Value.slice none 0 0]) xE rfl (by kernel_rfl)) (cC (i := 5) (ns := [i64 0, i64 0, Value.slice none 0 0, Value.slice none 0 0, Value.slice none 0 0]) (us := [i64 0, i64 0, Value.slice none 0 0, Value.slice none 0 0, Value.slice none 0 0]) Tryz.sizeOf33 n3 rfl j1 rfl rfl rfl (dT rfl) rfl rfl (fun s7 (s8 : aN G b7 (box j2 30 [i64 a0.1.States, i64 a0.1.Initial, Value.slice d2 a0.1.Labels.length d3, Value.slice d4 a0.1.Edges.length d5] :: aT 9 K d2 d3 a0.1.Labels :: aT 63 K d4 d5 a0.1.Edges :: aT 162 b7 e2 e3 a0.2.1 :: box e6 162 [Value.slice e0 d0.length e1, i64 o.p.Initial] :: box a3 33 [i64 0, i64 0, Value.slice none 0 0, Value.slice none 0 0, Value.slice none 0 0] :: L) s7) => (aC (aG (v := Value.bool false) rfl) (aF (aA ?_))))))))
   have s9 := aN.nil (α := bF) s8 9 K
   have t0 := aN.nil (α := Edge) s9 63 K
   have n4 := aN.nil (α := Int) t0 2 K
   have t1 := Option.some.inj hm
   subst t1
   exact bB (aQ (lT Tryz.results86 (gL (vs := [i64 0, i64 0, Value.slice none 0 0, Value.slice none 0 0, Value.slice none 0 0]) rfl lI n4 (i := 8) rfl j1 rfl) (mH rfl rfl) ⟨none, 0, none, 0, none, 0, rfl, (aN.weakK (aN.arr 9 [2, 1, 0] n4 rfl) (Hp.le_trans (Hp.le_trans (Hp.le_trans (Hp.le_trans (Hp.le_trans c9 c6) c3) b4) a9) c4))⟩))
  ·refine aM k8 rfl (aX (aA (aH (cH (fun f w => ∃ (d6 : Int) (d7 : Int) (b0 : List bF) (b1 : List Edge) (f3 : Nat) (b8 : Option Addr) (b9 : Nat) (c0 : Option Addr) (c1 : Nat), lE a2 a0 d6 d7 b0 b1 = some R ∧ f 2 = Value.pointer (some ⟨a3, 0, none⟩) ∧ f 4 = bZ (some ⟨d9, 0, none⟩) 0 ∧ f 8 = Value.slice e2 a0.2.1.length e3 ∧ f 10 = Value.pointer (some ⟨f3, 0, none⟩) ∧ aN G b7 (aT 63 K c0 c1 b1 :: aT 9 K b8 b9 b0 :: box f3 33 [i64 d6, i64 d7, Value.slice b8 b0.length b9, Value.slice c0 b1.length c1, Value.slice none 0 0] :: aT 162 b7 e2 e3 a0.2.1 :: box a3 33 [i64 0, i64 0, Value.slice none 0 0, Value.slice none 0 0, Value.slice none 0 0] :: L) w) ?_ ?_))))
   ·rintro f a53 ⟨d6, d7, b0, b1, f3, b8, b9, c0, c1, hm, t2, t3, t4, t5, t6⟩
    unfold lE at hm
    refine aA (aH (aH (aB (aC (aD t4) (aC (bU (len := a0.2.1.length) aAY rfl) (aC (aD (v := i64 0) rfl) (aF (aA (bC (fun f w => ∃ (f0 : List Int) (f1 : Option Addr) (f2 : Nat), jG d6 d7 b0 b1 f0 = some R ∧ f 2 = Value.pointer (some ⟨a3, 0, none⟩) ∧ f 10 = Value.pointer (some ⟨f3, 0, none⟩) ∧ aN G b7 (aT 2 K f1 f2 f0 :: aT 63 K c0 c1 b1 :: aT 9 K b8 b9 b0 :: box f3 33 [i64 d6, i64 d7, Value.slice b8 b0.length b9, Value.slice c0 b1.length c1, Value.slice f1 f0.length f2] :: box a3 33 [i64 0, i64 0, Value.slice none 0 0, Value.slice none 0 0, Value.slice none 0 0] :: L) w) ?_ ?_)))))))))
    ·rintro f a54 ⟨f0, f1, f2, hm, n5, t7, n6⟩
     unfold jG at hm
     refine aA (aH (aB (aC (dR (us := [i64 d6, i64 d7, Value.slice b8 b0.length b9, Value.slice c0 b1.length c1, Value.slice f1 f0.length f2]) lI n6 (i := 3) rfl t7 rfl rfl) (cC (i := 4) (ns := [i64 d6, i64 d7, Value.slice b8 b0.length b9, Value.slice c0 b1.length c1, Value.slice f1 f0.length f2]) (us := [i64 d6, i64 d7, Value.slice b8 b0.length b9, Value.slice c0 b1.length c1, Value.slice f1 f0.length f2]) Tryz.sizeOf33 n6 rfl n5 rfl rfl rfl (dT rfl) rfl rfl (fun t8 (n7 : aN G b7 (aT 2 K f1 f2 f0 :: aT 63 K c0 c1 b1 :: aT 9 K b8 b9 b0 :: box f3 33 [i64 d6, i64 d7, Value.slice b8 b0.length b9, Value.slice c0 b1.length c1, Value.slice f1 f0.length f2] :: box a3 33 [i64 d6, i64 d7, Value.slice b8 b0.length b9, Value.slice c0 b1.length c1, Value.slice f1 f0.length f2] :: L) t8) => (aC (aG (v := Value.bool true) rfl) (aF (aA ?_))))))))
     have t9 := Option.some.inj hm
     subst t9
     exact bB (lT Tryz.results86 (gL (vs := [i64 d6, i64 d7, Value.slice b8 b0.length b9, Value.slice c0 b1.length c1, Value.slice f1 f0.length f2]) rfl lI n7 (i := 4) rfl n5 rfl) (mH rfl rfl) ⟨b8, b9, c0, c1, f1, f2, rfl, (aN.weakK (aN.arr 5 [2, 1, 0] n7 rfl) (Hp.le_trans (Hp.le_trans (Hp.le_trans (Hp.le_trans (Hp.le_trans c9 c6) c3) b4) a9) c4))⟩)
    have u0 := aN.nil (α := Int) t6 2 K
    obtain ⟨a55, u1, hm⟩ := aI hm
    refine cD u1 (fun (s : (List Int × Int)) f w => match s with | (f4, j3) => ∃ (f8 : Option Addr) (f9 : Nat), f 2 = Value.pointer (some ⟨a3, 0, none⟩) ∧ f 4 = bZ (some ⟨d9, 0, none⟩) 0 ∧ f 10 = Value.pointer (some ⟨f3, 0, none⟩) ∧ f 46 = Value.slice e2 a0.2.1.length e3 ∧ f 47 = i64 (a0.2.1.length : Int) ∧ f 48 = i64 j3 ∧ aN G b7 (aT 2 K f8 f9 f4 :: aT 63 K c0 c1 b1 :: aT 9 K b8 b9 b0 :: box f3 33 [i64 d6, i64 d7, Value.slice b8 b0.length b9, Value.slice c0 b1.length c1, Value.slice f8 f4.length f9] :: aT 162 b7 e2 e3 a0.2.1 :: box a3 33 [i64 0, i64 0, Value.slice none 0 0, Value.slice none 0 0, Value.slice none 0 0] :: L) w) ?_ ?_
    ·exact ⟨none, 0, t2, t3, t5, rfl, rfl, rfl, u0⟩
    ·rintro ⟨f4, j3⟩ u2 f a56 e4 u3 ⟨f8, f9, n8, n9, j7, o0, o1, k9, j8⟩
     replace e4 : gX a2 a0 f4 j3 = some u2 := e4
     unfold gX at e4
     refine aH (aB (aC (cE k9 o1) (aF (aA (aH ?_)))))
     rcases aJ e4 with ⟨l0, e4⟩ | ⟨l0, e4⟩
     ·refine aO l0 rfl (aX (aA (aH (cK (aH (aB ?_))))))
      obtain ⟨e9, l1, e4⟩ := aI e4
      have u4 := dL j8 (i := 4) rfl l1
      refine aC (eT aAY rfl u4 o0 rfl k9 l1) ?_
      obtain ⟨a57, u5, u6⟩ := own_el (sz := 2) rfl j8 (i := 4) rfl l1
      obtain ⟨i4, i5, rfl, u7⟩ := u6
      refine aC (R_ldCG (t := 0) (vs := [Value.slice i4 e9.states.length i5, i64 e9.y]) aCR u5 rfl rfl rfl) (cG (vs := [Value.slice none 0 0, i64 0]) Tryz.zeroValue162 j8 rfl (fun o2 a58 u8 => (cC (i := 0) (ns := [Value.slice i4 e9.states.length i5, i64 e9.y]) (us := [Value.slice i4 e9.states.length i5, i64 e9.y]) Tryz.sizeOf162 u8 rfl rfl rfl rfl rfl (dT rfl) rfl rfl (fun u9 (v0 : aN G b7 (box o2 162 [Value.slice i4 e9.states.length i5, i64 e9.y] :: aT 2 K f8 f9 f4 :: aT 63 K c0 c1 b1 :: aT 9 K b8 b9 b0 :: box f3 33 [i64 d6, i64 d7, Value.slice b8 b0.length b9, Value.slice c0 b1.length c1, Value.slice f8 f4.length f9] :: aT 162 b7 e2 e3 a0.2.1 :: box a3 33 [i64 0, i64 0, Value.slice none 0 0, Value.slice none 0 0, Value.slice none 0 0] :: L) u9) => (aF (aA ?_))))))
      obtain ⟨a59, i6, o3, v1, v2⟩ := aN.lendB (i := 0) v0 rfl
      obtain ⟨l2, f7, v3, o4, v4⟩ := aN.lendB (i := 3) v1 rfl
      refine gV (C := fun w' => ∃ L', aN G l2 L' w') [(0, 0), (1, 0), (2, 0), (3, 0), (4, 0), (5, 0), (6, 0), (7, 1), (8, 1), (9, 1), (10, 0), (11, 2)] bR (by kernel_rfl) (fun _ hg => ⟨_, aN.mono o4 hg⟩) (fun a60 v5 => ?_)
      have f5 := aN.mono o4 v5
      refine cL rfl (fun _ _ => bI (t' := 4) zT j7 rfl) (cL rfl (fun _ ⟨_, f5⟩ => bL (t := 4) aAu f5 v3 rfl rfl) (cL rfl (fun _ ⟨_, f5⟩ => fO (t := 0) (vs := [Value.slice b5 a2.leave.length b6, Value.slice b2 a2.stay.length b3]) ag_159 f5 (n2.mono (Hp.le_trans (Hp.le_trans (Hp.le_trans a9 c4) i6) f7)) n9 rfl rfl) (cL rfl (fun _ _ => bI (t' := 0) aDp rfl rfl) (cL rfl (fun _ ⟨_, f5⟩ => bL (t := 0) aAu f5 (o3.mono f7) rfl rfl) (cL rfl (fun _ _ => bI (t' := 1) aDq rfl rfl) (cL rfl (fun _ ⟨_, f5⟩ => bL (t := 1) cM f5 (o3.mono f7) rfl rfl) (oB rfl ?_)))))))
      obtain ⟨j9, v6, e4⟩ := aI e4
      refine aW (vs := [Value.agg #[Value.slice b5 a2.leave.length b6, Value.slice b2 a2.stay.length b3], Value.slice i4 e9.states.length i5, i64 e9.y]) Tryz.call133 rfl (wZ f5 (n0.mono (Hp.le_trans (Hp.le_trans (Hp.le_trans (Hp.le_trans (Hp.le_trans c3 b4) a9) c4) i6) f7)) (n1.mono (Hp.le_trans (Hp.le_trans (Hp.le_trans (Hp.le_trans b4 a9) c4) i6) f7)) (u7.mono (Hp.le_trans i6 f7)) v6) ?_
      rintro _ a61 ⟨rfl, o5⟩
      refine aF (aA ⟨⟨_, o5⟩, ?_⟩)
      refine oB rfl (eN (Kt := K) (xs := ([j9] : List Int)) (cs := [i64 j9]) (vs := [(0, i64 j9)]) cT vJ rfl rfl o5 rfl (by kernel_rfl) rfl rfl rfl ⟨rfl, trivial⟩ (fun v7 v8 (o6 : aN G l2 (aT 2 K v7 1 ([j9] : List Int) :: aT 2 K f8 f9 f4 :: aT 63 K c0 c1 b1 :: aT 9 K b8 b9 b0 :: aT 162 b7 e2 e3 a0.2.1 :: box a3 33 [i64 0, i64 0, Value.slice none 0 0, Value.slice none 0 0, Value.slice none 0 0] :: L) v8) => (aF (aA ⟨⟨_, o6⟩, ?_⟩))))
      refine oB rfl ?_
      obtain ⟨i7, v9, e4⟩ := aI e4
      refine iZ (i := 0) cT Tryz.underlying31 vJ rfl rfl o6 rfl (Hp.le_trans (Hp.le_trans (Hp.le_trans (Hp.le_trans (Hp.le_trans (Hp.le_trans (Hp.le_trans c9 c6) c3) b4) a9) c4) i6) f7) (Hp.le_trans (Hp.le_trans (Hp.le_trans (Hp.le_trans (Hp.le_trans (Hp.le_trans (Hp.le_trans c9 c6) c3) b4) a9) c4) i6) f7) v9 rfl rfl rfl rfl (fun _ h => h) (fun i8 i9 w0 (o7 : aN G l2 (aT 2 K i8 i9 i7 :: aT 63 K c0 c1 b1 :: aT 9 K b8 b9 b0 :: aT 162 b7 e2 e3 a0.2.1 :: box a3 33 [i64 0, i64 0, Value.slice none 0 0, Value.slice none 0 0, Value.slice none 0 0] :: L) w0) => (aF (aA ⟨⟨_, o7⟩, ?_⟩)))
      refine cL rfl (fun _ _ => bI (t' := 4) zT j7 rfl) ?_
      have w1 := v4 _ _ o7
      have w2 := v2 _ _ w1
      exact WE_s rfl (cC (i := 1) (ns := [Value.slice i8 i7.length i9]) (us := [i64 d6, i64 d7, Value.slice b8 b0.length b9, Value.slice c0 b1.length c1, Value.slice i8 i7.length i9]) Tryz.sizeOf31 w2 rfl rfl rfl rfl rfl (dT rfl) rfl rfl (fun w3 (w4 : aN G b7 (box o2 162 [Value.slice i4 e9.states.length i5, i64 e9.y] :: box f3 33 [i64 d6, i64 d7, Value.slice b8 b0.length b9, Value.slice c0 b1.length c1, Value.slice i8 i7.length i9] :: aT 2 K i8 i9 i7 :: aT 63 K c0 c1 b1 :: aT 9 K b8 b9 b0 :: aT 162 b7 e2 e3 a0.2.1 :: box a3 33 [i64 0, i64 0, Value.slice none 0 0, Value.slice none 0 0, Value.slice none 0 0] :: L) w3) => (aF (aA (pS (bG (aA (aB (aC (cI k9 rfl) (aC (aD (v := i64 (wr (j3 + 1))) rfl) (aF (aA ⟨(i7, wr (j3 + 1)), (Option.some.inj e4).symm, i8, i9, n8, n9, j7, o0, o1, rfl, (aN.arr 5 [2, 3, 4, 1] w4 rfl)⟩))))))))))))
     ·refine aM l0 rfl (bY (aY (aY ?_)))
      have w5 := u3 _ (Option.some.inj e4).symm
      subst w5
      have hm : (jG d6 d7 b0 b1 f4) = some R := hm
      exact bO (aA ⟨f4, f8, f9, hm, n8, j7, (aN.arr 5 [0, 1, 2, 3] j8 rfl)⟩)
   obtain ⟨w6, e7, o8, w7, l3⟩ := aN.lendB (i := 0) n3 rfl
   refine aAs (C := fun w' => ∃ L', aN G w6 L' w') [10] bR (by kernel_rfl) (fun a62 w8 => ?_)
   have e5 := aN.mono w7 w8
   refine jB (i := 0) rfl (by kernel_rfl) ⟨_, e5⟩ (fun _ _ => bI (t' := 0) fX rfl rfl) (jB (i := 1) rfl (by kernel_rfl) ⟨_, e5⟩ (fun _ ⟨_, e5⟩ => bL (t := 0) cM e5 o8 rfl rfl) (jB (i := 2) rfl (by kernel_rfl) ⟨_, e5⟩ (fun _ _ => bW (k' := 0 + 0) oJ (aEr m8) (j6.mono (Hp.le_trans c4 e7)) rfl) (jB (i := 3) rfl (by kernel_rfl) ⟨_, e5⟩ (fun _ _ => bW (k' := 0 + 2) gS rfl (j6.mono (Hp.le_trans c4 e7)) rfl) (jB (i := 4) rfl (by kernel_rfl) ⟨_, e5⟩ (fun _ ⟨_, e5⟩ => bL (t := 2) nY e5 (j6.mono (Hp.le_trans c4 e7)) rfl rfl) (jB (i := 5) rfl (by kernel_rfl) ⟨_, e5⟩ (fun _ ⟨_, e5⟩ => fO (t := 0) (vs := [i64 a0.1.States, i64 a0.1.Initial, Value.slice d2 a0.1.Labels.length d3, Value.slice d4 a0.1.Edges.length d5]) gT e5 o8 rfl rfl rfl) (zR (i := 6) (j := 9) (by kernel_rfl) rfl rfl ?_ ?_))))))
   ·obtain ⟨a63, w9, x0, x1, x2⟩ := aN.lendS (i := 0) e5 (Hp.le_trans (Hp.le_trans (Hp.le_trans (Hp.le_trans (Hp.le_trans (Hp.le_trans c9 c6) c3) b4) a9) c4) e7) rfl
    obtain ⟨a64, x3, x4, x5, x6⟩ := aN.lendS (i := 0) x1 (Hp.le_trans (Hp.le_trans (Hp.le_trans (Hp.le_trans (Hp.le_trans (Hp.le_trans (Hp.le_trans c9 c6) c3) b4) a9) c4) e7) w9) rfl
    obtain ⟨k0, x7, hm⟩ := aI hm
    refine aW (vs := [Value.agg #[i64 a0.1.States, i64 a0.1.Initial, Value.slice d2 a0.1.Labels.length d3, Value.slice d4 a0.1.Edges.length d5]]) Tryz.call136 rfl (aBu x5 (x0.mono x3) x4 x7) ?_
    rintro _ a65 ⟨k1, k2, rfl, x8⟩
    have x9 := x6 _ _ x8
    have l4 := x2 _ _ x9
    refine aF (aA ⟨fun _ => ⟨_, l4⟩, ?_⟩)
    refine zR (i := 7) (j := 9) (by kernel_rfl) rfl rfl ?_ ?_
    ·obtain ⟨a66, y0, y1, y2, y3⟩ := aN.lendS (i := 2) l4 (Hp.le_trans (Hp.le_trans (Hp.le_trans (Hp.le_trans (Hp.le_trans (Hp.le_trans c9 c6) c3) b4) a9) c4) e7) rfl
     obtain ⟨a5, y4, hm⟩ := aI hm
     refine aW (vs := [i64 a0.1.States, i64 0, Value.slice a1 o.t.Labels.length c2, Value.slice k1 k0.length k2]) Tryz.call36 rfl (tE y2 (h3.mono (Hp.le_trans (Hp.le_trans (Hp.le_trans (Hp.le_trans (Hp.le_trans (Hp.le_trans (Hp.le_trans c9 c6) c3) b4) a9) c4) e7) y0)) y1 y4) ?_
     rintro _ a67 ⟨g0, g1, g2, g3, rfl, y5⟩
     have l5 := y3 _ _ y5
     refine aF (aA ⟨fun _ => ⟨_, l5⟩, ?_⟩)
     refine jB (i := 8) rfl (by kernel_rfl) ⟨_, l5⟩ (fun _ _ => eR (vs := [(0, Value.agg #[i64 a5.States, i64 a5.Initial, Value.slice g0 a5.Labels.length g1, Value.slice g2 a5.Edges.length g3])]) (cs := [i64 a5.States, i64 a5.Initial, Value.slice g0 a5.Labels.length g1, Value.slice g2 a5.Edges.length g3, Value.slice none 0 0]) xE rfl (by kernel_rfl)) (eO (i := 9) (by kernel_rfl) rfl (cG (vs := [i64 0, i64 0, Value.slice none 0 0, Value.slice none 0 0, Value.slice none 0 0]) Tryz.zeroValue33 l5 rfl (fun o9 a68 p0 => (aF (aA ⟨fun _ => ⟨_, p0⟩, ?_⟩)))))
     refine eO (i := 10) (by kernel_rfl) rfl ?_
     have y6 := l3 _ _ p0
     refine cC (i := 1) (ns := [i64 a5.States, i64 a5.Initial, Value.slice g0 a5.Labels.length g1, Value.slice g2 a5.Edges.length g3, Value.slice none 0 0]) (us := [i64 a5.States, i64 a5.Initial, Value.slice g0 a5.Labels.length g1, Value.slice g2 a5.Edges.length g3, Value.slice none 0 0]) Tryz.sizeOf33 y6 rfl rfl rfl rfl rfl (dT rfl) rfl rfl (fun y7 (y8 : aN G b7 (box j2 30 [i64 a0.1.States, i64 a0.1.Initial, Value.slice d2 a0.1.Labels.length d3, Value.slice d4 a0.1.Edges.length d5] :: box o9 33 [i64 a5.States, i64 a5.Initial, Value.slice g0 a5.Labels.length g1, Value.slice g2 a5.Edges.length g3, Value.slice none 0 0] :: aT 70 K k1 k2 k0 :: aT 9 K g0 g1 a5.Labels :: aT 63 K g2 g3 a5.Edges :: aT 9 K d2 d3 a0.1.Labels :: aT 63 K d4 d5 a0.1.Edges :: aT 162 b7 e2 e3 a0.2.1 :: box e6 162 [Value.slice e0 d0.length e1, i64 o.p.Initial] :: box a3 33 [i64 0, i64 0, Value.slice none 0 0, Value.slice none 0 0, Value.slice none 0 0] :: L) y7) => (aF (aA ⟨no_c rfl, ?_⟩)))
     exact rC (by kernel_rfl) (aA ⟨a5.States, a5.Initial, a5.Labels, a5.Edges, o9, g0, g1, g2, g3, hm, j1, (aEr j5), rfl, rfl, (aN.arr 9 [4, 3, 1, 7] y8 rfl)⟩)
    ·refine cG (vs := [i64 0, i64 0, Value.slice none 0 0, Value.slice none 0 0, Value.slice none 0 0]) Tryz.zeroValue33 l4 rfl (fun p1 a69 p2 => (aF (aA ⟨fun _ => ⟨_, p2⟩, ?_⟩)))
     refine eO (i := 7) (by kernel_rfl) rfl ?_
     obtain ⟨a70, y9, z0, z1, z2⟩ := aN.lendS (i := 3) p2 (Hp.le_trans (Hp.le_trans (Hp.le_trans (Hp.le_trans (Hp.le_trans (Hp.le_trans c9 c6) c3) b4) a9) c4) e7) rfl
     obtain ⟨a6, z3, hm⟩ := aI hm
     refine aW (vs := [i64 a0.1.States, i64 0, Value.slice a1 o.t.Labels.length c2, Value.slice k1 k0.length k2]) Tryz.call36 rfl (tE z1 (h3.mono (Hp.le_trans (Hp.le_trans (Hp.le_trans (Hp.le_trans (Hp.le_trans (Hp.le_trans (Hp.le_trans c9 c6) c3) b4) a9) c4) e7) y9)) z0 z3) ?_
     rintro _ a71 ⟨g4, g5, g6, g7, rfl, z4⟩
     have l6 := z2 _ _ z4
     refine aF (aA ⟨fun _ => ⟨_, l6⟩, ?_⟩)
     refine jB (i := 8) rfl (by kernel_rfl) ⟨_, l6⟩ (fun _ _ => eR (vs := [(0, Value.agg #[i64 a6.States, i64 a6.Initial, Value.slice g4 a6.Labels.length g5, Value.slice g6 a6.Edges.length g7])]) (cs := [i64 a6.States, i64 a6.Initial, Value.slice g4 a6.Labels.length g5, Value.slice g6 a6.Edges.length g7, Value.slice none 0 0]) xE rfl (by kernel_rfl)) (eO (i := 10) (by kernel_rfl) rfl ?_)
     have z5 := l3 _ _ l6
     refine cC (i := 4) (ns := [i64 a6.States, i64 a6.Initial, Value.slice g4 a6.Labels.length g5, Value.slice g6 a6.Edges.length g7, Value.slice none 0 0]) (us := [i64 a6.States, i64 a6.Initial, Value.slice g4 a6.Labels.length g5, Value.slice g6 a6.Edges.length g7, Value.slice none 0 0]) Tryz.sizeOf33 z5 rfl rfl rfl rfl rfl (dT rfl) rfl rfl (fun z6 (z7 : aN G b7 (box j2 30 [i64 a0.1.States, i64 a0.1.Initial, Value.slice d2 a0.1.Labels.length d3, Value.slice d4 a0.1.Edges.length d5] :: aT 70 K k1 k2 k0 :: aT 9 K g4 g5 a6.Labels :: aT 63 K g6 g7 a6.Edges :: box p1 33 [i64 a6.States, i64 a6.Initial, Value.slice g4 a6.Labels.length g5, Value.slice g6 a6.Edges.length g7, Value.slice none 0 0] :: aT 9 K d2 d3 a0.1.Labels :: aT 63 K d4 d5 a0.1.Edges :: aT 162 b7 e2 e3 a0.2.1 :: box e6 162 [Value.slice e0 d0.length e1, i64 o.p.Initial] :: box a3 33 [i64 0, i64 0, Value.slice none 0 0, Value.slice none 0 0, Value.slice none 0 0] :: L) z6) => (aF (aA ⟨no_c rfl, ?_⟩)))
     exact rC (by kernel_rfl) (aA ⟨a6.States, a6.Initial, a6.Labels, a6.Edges, p1, g4, g5, g6, g7, hm, j1, (aEr j5), rfl, rfl, (aN.arr 9 [3, 2, 4, 7] z7 rfl)⟩)
   ·refine cG (vs := [i64 0, i64 0, Value.slice none 0 0, Value.slice none 0 0, Value.slice none 0 0]) Tryz.zeroValue33 e5 rfl (fun p3 a72 p4 => (aF (aA ⟨fun _ => ⟨_, p4⟩, ?_⟩)))
    refine eO (i := 6) (by kernel_rfl) rfl ?_
    obtain ⟨a73, z8, z9, a00, a01⟩ := aN.lendS (i := 1) p4 (Hp.le_trans (Hp.le_trans (Hp.le_trans (Hp.le_trans (Hp.le_trans (Hp.le_trans c9 c6) c3) b4) a9) c4) e7) rfl
    obtain ⟨a74, a02, a03, a04, a05⟩ := aN.lendS (i := 1) a00 (Hp.le_trans (Hp.le_trans (Hp.le_trans (Hp.le_trans (Hp.le_trans (Hp.le_trans (Hp.le_trans c9 c6) c3) b4) a9) c4) e7) z8) rfl
    obtain ⟨p5, a06, hm⟩ := aI hm
    refine aW (vs := [Value.agg #[i64 a0.1.States, i64 a0.1.Initial, Value.slice d2 a0.1.Labels.length d3, Value.slice d4 a0.1.Edges.length d5]]) Tryz.call136 rfl (aBu a04 (z9.mono a02) a03 a06) ?_
    rintro _ a75 ⟨p6, p7, rfl, a07⟩
    have a08 := a05 _ _ a07
    have p8 := a01 _ _ a08
    refine aF (aA ⟨fun _ => ⟨_, p8⟩, ?_⟩)
    refine eO (i := 7) (by kernel_rfl) rfl ?_
    obtain ⟨a76, a09, a11, a12, a13⟩ := aN.lendS (i := 2) p8 (Hp.le_trans (Hp.le_trans (Hp.le_trans (Hp.le_trans (Hp.le_trans (Hp.le_trans c9 c6) c3) b4) a9) c4) e7) rfl
    obtain ⟨a8, a14, hm⟩ := aI hm
    refine aW (vs := [i64 a0.1.States, i64 0, Value.slice a1 o.t.Labels.length c2, Value.slice p6 p5.length p7]) Tryz.call36 rfl (tE a12 (h3.mono (Hp.le_trans (Hp.le_trans (Hp.le_trans (Hp.le_trans (Hp.le_trans (Hp.le_trans (Hp.le_trans c9 c6) c3) b4) a9) c4) e7) a09)) a11 a14) ?_
    rintro _ a77 ⟨g8, g9, h0, h1, rfl, a15⟩
    have l7 := a13 _ _ a15
    refine aF (aA ⟨fun _ => ⟨_, l7⟩, ?_⟩)
    refine jB (i := 8) rfl (by kernel_rfl) ⟨_, l7⟩ (fun _ _ => eR (vs := [(0, Value.agg #[i64 a8.States, i64 a8.Initial, Value.slice g8 a8.Labels.length g9, Value.slice h0 a8.Edges.length h1])]) (cs := [i64 a8.States, i64 a8.Initial, Value.slice g8 a8.Labels.length g9, Value.slice h0 a8.Edges.length h1, Value.slice none 0 0]) xE rfl (by kernel_rfl)) (eO (i := 10) (by kernel_rfl) rfl ?_)
    have a16 := l3 _ _ l7
    refine cC (i := 6) (ns := [i64 a8.States, i64 a8.Initial, Value.slice g8 a8.Labels.length g9, Value.slice h0 a8.Edges.length h1, Value.slice none 0 0]) (us := [i64 a8.States, i64 a8.Initial, Value.slice g8 a8.Labels.length g9, Value.slice h0 a8.Edges.length h1, Value.slice none 0 0]) Tryz.sizeOf33 a16 rfl rfl rfl rfl rfl (dT rfl) rfl rfl (fun a17 (a18 : aN G b7 (box j2 30 [i64 a0.1.States, i64 a0.1.Initial, Value.slice d2 a0.1.Labels.length d3, Value.slice d4 a0.1.Edges.length d5] :: aT 70 K p6 p7 p5 :: aT 9 K g8 g9 a8.Labels :: aT 63 K h0 h1 a8.Edges :: aT 9 K d2 d3 a0.1.Labels :: aT 63 K d4 d5 a0.1.Edges :: box p3 33 [i64 a8.States, i64 a8.Initial, Value.slice g8 a8.Labels.length g9, Value.slice h0 a8.Edges.length h1, Value.slice none 0 0] :: aT 162 b7 e2 e3 a0.2.1 :: box e6 162 [Value.slice e0 d0.length e1, i64 o.p.Initial] :: box a3 33 [i64 0, i64 0, Value.slice none 0 0, Value.slice none 0 0, Value.slice none 0 0] :: L) a17) => (aF (aA ⟨no_c rfl, ?_⟩)))
    exact rC (by kernel_rfl) (aA ⟨a8.States, a8.Initial, a8.Labels, a8.Edges, p3, g8, g9, h0, h1, hm, j1, (aEr j5), rfl, rfl, (aN.arr 9 [3, 2, 6, 7] a18 rfl)⟩)
 obtain ⟨l8, f6, l9, a19, m0⟩ := aN.lendB (i := 6) r5 rfl
 refine aAs (C := fun w' => ∃ L', aN G l8 L' w') [12] bR (by kernel_rfl) (fun a78 a20 => ?_)
 have d8 := aN.mono a19 a20
 refine jB (i := 0) rfl (by kernel_rfl) ⟨_, d8⟩ (fun _ _ => bI (t' := 0) oJ rfl rfl) (jB (i := 1) rfl (by kernel_rfl) ⟨_, d8⟩ (fun _ ⟨_, d8⟩ => fO (t := 0) (vs := [i64 o.t.States, i64 o.t.Initial, Value.slice a1 o.t.Labels.length c2, Value.slice a4 o.t.Edges.length c5]) gT d8 l9 rfl rfl rfl) (jB (i := 2) rfl (by kernel_rfl) ⟨_, d8⟩ (fun _ _ => bI (t' := 0) oJ rfl rfl) (jB (i := 3) rfl (by kernel_rfl) ⟨_, d8⟩ (fun _ _ => bI (t' := 1) xM rfl rfl) (jB (i := 4) rfl (by kernel_rfl) ⟨_, d8⟩ (fun _ ⟨_, d8⟩ => bL (t := 1) cM d8 l9 rfl rfl) (jB (i := 7) rfl (by kernel_rfl) ⟨_, d8⟩ (fun _ _ => bI (t' := 4) aAv rfl rfl) (jB (i := 8) rfl (by kernel_rfl) ⟨_, d8⟩ (fun _ _ => bI (t' := 5) xM rfl rfl) (jB (i := 9) rfl (by kernel_rfl) ⟨_, d8⟩ (fun _ ⟨_, d8⟩ => bL (t := 5) cM d8 l9 rfl rfl) (zR (i := 5) (j := 11) (by kernel_rfl) rfl rfl ?_ ?_))))))))
 ·refine eN (Kt := K) (xs := ([o.t.Initial] : List Int)) (cs := [i64 o.t.Initial]) (vs := [(0, i64 o.t.Initial)]) cT vJ rfl rfl d8 rfl (by kernel_rfl) rfl rfl rfl ⟨rfl, trivial⟩ (fun j4 a21 (m1 : aN G l8 (aT 2 K j4 1 ([o.t.Initial] : List Int) :: box d9 159 [Value.slice b5 a2.leave.length b6, Value.slice b2 a2.stay.length b3] :: aT 87 K b5 b6 (bT d1 a2.leave) :: rows [4] d1 a2.leave :: aT 87 K b2 b3 (bT c7 a2.stay) :: rows [4] c7 a2.stay :: box a3 33 [i64 0, i64 0, Value.slice none 0 0, Value.slice none 0 0, Value.slice none 0 0] :: L) a21) => (aF (aA ⟨fun _ => ⟨_, m1⟩, ?_⟩)))
  refine zR (i := 6) (j := 11) (by kernel_rfl) rfl rfl ?_ ?_
  ·obtain ⟨a79, p9, a22, a23, a24⟩ := aN.lendS (i := 0) m1 f6 rfl
   obtain ⟨h2, a25, hm⟩ := aI hm
   refine aW (vs := [Value.agg #[i64 o.t.States, i64 o.t.Initial, Value.slice a1 o.t.Labels.length c2, Value.slice a4 o.t.Edges.length c5], Value.slice j4 ([o.t.Initial] : List Int).length 1]) Tryz.call127 rfl (mW a23 (h3.mono (Hp.le_trans f6 p9)) (h6.mono (Hp.le_trans f6 p9)) a22 a25) ?_
   rintro _ a80 ⟨h4, h5, rfl, a26⟩
   have m2 := a24 _ _ a26
   refine aF (aA ⟨fun _ => ⟨_, m2⟩, ?_⟩)
   refine jB (i := 10) rfl (by kernel_rfl) ⟨_, m2⟩ (fun _ _ => eR (vs := [(0, Value.slice h4 h2.length h5), (1, i64 o.p.Initial)]) (cs := [Value.slice h4 h2.length h5, i64 o.p.Initial]) aGN rfl (by kernel_rfl)) (eO (i := 11) (by kernel_rfl) rfl (cG (vs := [Value.slice none 0 0, i64 0]) Tryz.zeroValue162 m2 rfl (fun q0 a81 q1 => (aF (aA ⟨fun _ => ⟨_, q1⟩, ?_⟩)))))
   refine eO (i := 12) (by kernel_rfl) rfl ?_
   have a27 := m0 _ _ q1
   refine cC (i := 1) (ns := [Value.slice h4 h2.length h5, i64 o.p.Initial]) (us := [Value.slice h4 h2.length h5, i64 o.p.Initial]) Tryz.sizeOf162 a27 rfl rfl rfl rfl rfl (dT rfl) rfl rfl (fun a28 (a29 : aN G K (box e8 119 [i64 o.t.States, i64 o.t.Initial, Value.slice a1 o.t.Labels.length c2, Value.slice a4 o.t.Edges.length c5, i64 o.p.States, i64 o.p.Initial, Value.slice a7 o.p.Labels.length c8, Value.slice a10 o.p.Edges.length c11] :: box q0 162 [Value.slice h4 h2.length h5, i64 o.p.Initial] :: aT 2 K j4 1 ([o.t.Initial] : List Int) :: aT 2 K h4 h5 h2 :: box d9 159 [Value.slice b5 a2.leave.length b6, Value.slice b2 a2.stay.length b3] :: aT 87 K b5 b6 (bT d1 a2.leave) :: rows [4] d1 a2.leave :: aT 87 K b2 b3 (bT c7 a2.stay) :: rows [4] c7 a2.stay :: box a3 33 [i64 0, i64 0, Value.slice none 0 0, Value.slice none 0 0, Value.slice none 0 0] :: L) a28) => (aF (aA ⟨no_c rfl, ?_⟩)))
   exact rC (by kernel_rfl) (aA ⟨h2, q0, h4, h5, hm, rfl, rfl, rfl, rfl, (aN.arr 10 [3, 1, 4, 5, 6, 7, 8, 9, 0] a29 rfl)⟩)
  ·refine cG (vs := [Value.slice none 0 0, i64 0]) Tryz.zeroValue162 m1 rfl (fun q2 a82 q3 => (aF (aA ⟨fun _ => ⟨_, q3⟩, ?_⟩)))
   refine eO (i := 6) (by kernel_rfl) rfl ?_
   obtain ⟨a83, q4, a30, a31, a32⟩ := aN.lendS (i := 1) q3 f6 rfl
   obtain ⟨h7, a33, hm⟩ := aI hm
   refine aW (vs := [Value.agg #[i64 o.t.States, i64 o.t.Initial, Value.slice a1 o.t.Labels.length c2, Value.slice a4 o.t.Edges.length c5], Value.slice j4 ([o.t.Initial] : List Int).length 1]) Tryz.call127 rfl (mW a31 (h3.mono (Hp.le_trans f6 q4)) (h6.mono (Hp.le_trans f6 q4)) a30 a33) ?_
   rintro _ a84 ⟨h8, i0, rfl, a34⟩
   have m3 := a32 _ _ a34
   refine aF (aA ⟨fun _ => ⟨_, m3⟩, ?_⟩)
   refine jB (i := 10) rfl (by kernel_rfl) ⟨_, m3⟩ (fun _ _ => eR (vs := [(0, Value.slice h8 h7.length i0), (1, i64 o.p.Initial)]) (cs := [Value.slice h8 h7.length i0, i64 o.p.Initial]) aGN rfl (by kernel_rfl)) (eO (i := 12) (by kernel_rfl) rfl ?_)
   have a35 := m0 _ _ m3
   refine cC (i := 3) (ns := [Value.slice h8 h7.length i0, i64 o.p.Initial]) (us := [Value.slice h8 h7.length i0, i64 o.p.Initial]) Tryz.sizeOf162 a35 rfl rfl rfl rfl rfl (dT rfl) rfl rfl (fun a36 (a37 : aN G K (box e8 119 [i64 o.t.States, i64 o.t.Initial, Value.slice a1 o.t.Labels.length c2, Value.slice a4 o.t.Edges.length c5, i64 o.p.States, i64 o.p.Initial, Value.slice a7 o.p.Labels.length c8, Value.slice a10 o.p.Edges.length c11] :: aT 2 K j4 1 ([o.t.Initial] : List Int) :: aT 2 K h8 i0 h7 :: box q2 162 [Value.slice h8 h7.length i0, i64 o.p.Initial] :: box d9 159 [Value.slice b5 a2.leave.length b6, Value.slice b2 a2.stay.length b3] :: aT 87 K b5 b6 (bT d1 a2.leave) :: rows [4] d1 a2.leave :: aT 87 K b2 b3 (bT c7 a2.stay) :: rows [4] c7 a2.stay :: box a3 33 [i64 0, i64 0, Value.slice none 0 0, Value.slice none 0 0, Value.slice none 0 0] :: L) a36) => (aF (aA ⟨no_c rfl, ?_⟩)))
   exact rC (by kernel_rfl) (aA ⟨h7, q2, h8, i0, hm, rfl, rfl, rfl, rfl, (aN.arr 10 [2, 3, 4, 5, 6, 7, 8, 9, 0] a37 rfl)⟩)
 ·refine cG (vs := [Value.slice none 0 0, i64 0]) Tryz.zeroValue162 d8 rfl (fun m4 a85 q5 => (aF (aA ⟨fun _ => ⟨_, q5⟩, ?_⟩)))
  refine eO (i := 5) (by kernel_rfl) rfl (eN (Kt := K) (xs := ([o.t.Initial] : List Int)) (cs := [i64 o.t.Initial]) (vs := [(0, i64 o.t.Initial)]) cT vJ rfl rfl q5 rfl (by kernel_rfl) rfl rfl rfl ⟨rfl, trivial⟩ (fun m5 a38 (q6 : aN G l8 (aT 2 K m5 1 ([o.t.Initial] : List Int) :: box m4 162 [Value.slice none 0 0, i64 0] :: box d9 159 [Value.slice b5 a2.leave.length b6, Value.slice b2 a2.stay.length b3] :: aT 87 K b5 b6 (bT d1 a2.leave) :: rows [4] d1 a2.leave :: aT 87 K b2 b3 (bT c7 a2.stay) :: rows [4] c7 a2.stay :: box a3 33 [i64 0, i64 0, Value.slice none 0 0, Value.slice none 0 0, Value.slice none 0 0] :: L) a38) => (aF (aA ⟨fun _ => ⟨_, q6⟩, ?_⟩))))
  refine eO (i := 6) (by kernel_rfl) rfl ?_
  obtain ⟨a86, q7, a39, a40, a41⟩ := aN.lendS (i := 0) q6 f6 rfl
  obtain ⟨i1, a42, hm⟩ := aI hm
  refine aW (vs := [Value.agg #[i64 o.t.States, i64 o.t.Initial, Value.slice a1 o.t.Labels.length c2, Value.slice a4 o.t.Edges.length c5], Value.slice m5 ([o.t.Initial] : List Int).length 1]) Tryz.call127 rfl (mW a40 (h3.mono (Hp.le_trans f6 q7)) (h6.mono (Hp.le_trans f6 q7)) a39 a42) ?_
  rintro _ a87 ⟨i2, i3, rfl, a43⟩
  have m6 := a41 _ _ a43
  refine aF (aA ⟨fun _ => ⟨_, m6⟩, ?_⟩)
  refine jB (i := 10) rfl (by kernel_rfl) ⟨_, m6⟩ (fun _ _ => eR (vs := [(0, Value.slice i2 i1.length i3), (1, i64 o.p.Initial)]) (cs := [Value.slice i2 i1.length i3, i64 o.p.Initial]) aGN rfl (by kernel_rfl)) (eO (i := 12) (by kernel_rfl) rfl ?_)
  have a44 := m0 _ _ m6
  refine cC (i := 3) (ns := [Value.slice i2 i1.length i3, i64 o.p.Initial]) (us := [Value.slice i2 i1.length i3, i64 o.p.Initial]) Tryz.sizeOf162 a44 rfl rfl rfl rfl rfl (dT rfl) rfl rfl (fun a45 (a46 : aN G K (box e8 119 [i64 o.t.States, i64 o.t.Initial, Value.slice a1 o.t.Labels.length c2, Value.slice a4 o.t.Edges.length c5, i64 o.p.States, i64 o.p.Initial, Value.slice a7 o.p.Labels.length c8, Value.slice a10 o.p.Edges.length c11] :: aT 2 K m5 1 ([o.t.Initial] : List Int) :: aT 2 K i2 i3 i1 :: box m4 162 [Value.slice i2 i1.length i3, i64 o.p.Initial] :: box d9 159 [Value.slice b5 a2.leave.length b6, Value.slice b2 a2.stay.length b3] :: aT 87 K b5 b6 (bT d1 a2.leave) :: rows [4] d1 a2.leave :: aT 87 K b2 b3 (bT c7 a2.stay) :: rows [4] c7 a2.stay :: box a3 33 [i64 0, i64 0, Value.slice none 0 0, Value.slice none 0 0, Value.slice none 0 0] :: L) a45) => (aF (aA ⟨no_c rfl, ?_⟩)))
  exact rC (by kernel_rfl) (aA ⟨i1, m4, i2, i3, hm, rfl, rfl, rfl, rfl, (aN.arr 10 [2, 3, 4, 5, 6, 7, 8, 9, 0] a46 rfl)⟩)
theorem aCW {t : dC} {p : dC} {R : (dS × Int)} (hs : aN G K (L) w) (hG : G.lo = 0) (h3 : bX K a1 c2 t.Labels) (h6 : bX K a4 c5 t.Edges) (h9 : bX K a7 c8 p.Labels) (h12 : bX K a10 c11 p.Edges) (hm : wL t p = some R) :
  Calls Tryz.prog 37 ([Value.agg #[i64 t.States, i64 t.Initial, Value.slice a1 t.Labels.length c2, Value.slice a4 t.Edges.length c5], Value.agg #[i64 p.States, i64 p.Initial, Value.slice a7 p.Labels.length c8, Value.slice a10 p.Edges.length c11]] : List Value).toArray w (fW fun v w' => ∃ (ra0 : Option Addr) (rc0 : Nat) (ra1 : Option Addr) (rc1 : Nat) (ra2 : Option Addr) (rc2 : Nat), v = Value.tuple #[Value.agg #[i64 R.1.System.States, i64 R.1.System.Initial, Value.slice ra0 R.1.System.Labels.length rc0, Value.slice ra1 R.1.System.Edges.length rc1, Value.slice ra2 R.1.Verdicts.length rc2], i64 R.2] ∧ aN G K (aT 9 K ra0 rc0 R.1.System.Labels :: aT 63 K ra1 rc1 R.1.System.Edges :: aT 2 K ra2 rc2 R.1.Verdicts :: L) w') := by
 refine aU Tryz.func37 rfl (by kernel_rfl) (by show (2 : Nat) ≤ 27; decide) ?_
 unfold wL at hm
 refine aH (aB (dU (v := Value.agg #[i64 t.States, i64 t.Initial, Value.slice a1 t.Labels.length c2, Value.slice a4 t.Edges.length c5]) (vs := [i64 t.States, i64 t.Initial, Value.slice a1 t.Labels.length c2, Value.slice a4 t.Edges.length c5]) hs rfl rfl (fun b0 e4 c3 => (dU (v := Value.agg #[i64 p.States, i64 p.Initial, Value.slice a7 p.Labels.length c8, Value.slice a10 p.Edges.length c11]) (vs := [i64 p.States, i64 p.Initial, Value.slice a7 p.Labels.length c8, Value.slice a10 p.Edges.length c11]) c3 rfl rfl (fun b1 e5 c4 => (cG (vs := [i64 0, i64 0, Value.slice none 0 0, Value.slice none 0 0, Value.slice none 0 0]) Tryz.zeroValue33 c4 rfl (fun b2 e6 b5 => (aC (aG (v := i64 0) rfl) (aF (aA (aH (aH (aB (aC (dR (us := [i64 t.States, i64 t.Initial, Value.slice a1 t.Labels.length c2, Value.slice a4 t.Edges.length c5]) gT b5 (i := 2) rfl rfl rfl rfl) (aC (dR (us := [i64 p.States, i64 p.Initial, Value.slice a7 p.Labels.length c8, Value.slice a10 p.Edges.length c11]) gT b5 (i := 1) rfl rfl rfl rfl) ?_)))))))))))))))
 obtain ⟨b3, c6, hm⟩ := aI hm
 refine aW (vs := [Value.agg #[i64 t.States, i64 t.Initial, Value.slice a1 t.Labels.length c2, Value.slice a4 t.Edges.length c5], Value.agg #[i64 p.States, i64 p.Initial, Value.slice a7 p.Labels.length c8, Value.slice a10 p.Edges.length c11]]) Tryz.call85 rfl (aCB b5 hG h3 h6 h9 h12 c6) ?_
 rintro _ e7 ⟨rfl, b4⟩
 refine aC (aG (v := i64 b3) rfl) (aF (aA (aH (aB (aC (aD (v := i64 b3) rfl) (aC (lS rfl rfl) (aF (aA ?_))))))))
 rcases aJ hm with ⟨b6, hm⟩ | ⟨b6, hm⟩
 ·refine aO b6 rfl (aH (aB (aC (eR (vs := []) (cs := [i64 0, i64 0, Value.slice none 0 0, Value.slice none 0 0, Value.slice none 0 0]) xE rfl (by kernel_rfl)) (aC (aD (v := i64 b3) rfl) (cC (i := 0) (ns := [i64 0, i64 0, Value.slice none 0 0, Value.slice none 0 0, Value.slice none 0 0]) (us := [i64 0, i64 0, Value.slice none 0 0, Value.slice none 0 0, Value.slice none 0 0]) Tryz.sizeOf33 b4 rfl rfl rfl rfl rfl (dT rfl) rfl rfl (fun c7 (c9 : aN G K (box b2 33 [i64 0, i64 0, Value.slice none 0 0, Value.slice none 0 0, Value.slice none 0 0] :: box b1 30 [i64 p.States, i64 p.Initial, Value.slice a7 p.Labels.length c8, Value.slice a10 p.Edges.length c11] :: box b0 30 [i64 t.States, i64 t.Initial, Value.slice a1 t.Labels.length c2, Value.slice a4 t.Edges.length c5] :: L) c7) => (aC (aG (v := i64 b3) rfl) (aF (aA ?_)))))))))
  have d0 := aN.nil (α := bF) c9 9 K
  have d1 := aN.nil (α := Edge) d0 63 K
  have b9 := aN.nil (α := Int) d1 2 K
  have d2 := Option.some.inj hm
  subst d2
  exact bB (aQ (lT Tryz.results37 (gL (vs := [i64 0, i64 0, Value.slice none 0 0, Value.slice none 0 0, Value.slice none 0 0]) rfl lI b9 (i := 3) rfl rfl rfl) (mH rfl rfl) ⟨none, 0, none, 0, none, 0, rfl, (aN.arr 6 [2, 1, 0] b9 rfl)⟩))
 ·refine aM b6 rfl (aX (aA (aH (aB (aC (dR (us := [i64 t.States, i64 t.Initial, Value.slice a1 t.Labels.length c2, Value.slice a4 t.Edges.length c5]) gT b4 (i := 2) rfl rfl rfl rfl) (aC (dR (us := [i64 p.States, i64 p.Initial, Value.slice a7 p.Labels.length c8, Value.slice a10 p.Edges.length c11]) gT b4 (i := 1) rfl rfl rfl rfl) (aC (eR (vs := [(0, Value.agg #[i64 t.States, i64 t.Initial, Value.slice a1 t.Labels.length c2, Value.slice a4 t.Edges.length c5]), (1, Value.agg #[i64 p.States, i64 p.Initial, Value.slice a7 p.Labels.length c8, Value.slice a10 p.Edges.length c11])]) (cs := [i64 t.States, i64 t.Initial, Value.slice a1 t.Labels.length c2, Value.slice a4 t.Edges.length c5, i64 p.States, i64 p.Initial, Value.slice a7 p.Labels.length c8, Value.slice a10 p.Edges.length c11]) bs_119 rfl (by kernel_rfl)) ?_)))))))
  obtain ⟨a0, d3, hm⟩ := aI hm
  refine aW (vs := [Value.agg #[i64 t.States, i64 t.Initial, Value.slice a1 t.Labels.length c2, Value.slice a4 t.Edges.length c5, i64 p.States, i64 p.Initial, Value.slice a7 p.Labels.length c8, Value.slice a10 p.Edges.length c11]]) Tryz.call86 rfl (aAL (o := ⟨t, p⟩) b4 hG h3 h6 h9 h12 d3) ?_
  rintro _ e8 ⟨a2, a3, a5, a6, a8, a9, rfl, d4⟩
  refine aC (aD (v := Value.tuple #[Value.agg #[i64 a0.1.System.States, i64 a0.1.System.Initial, Value.slice a2 a0.1.System.Labels.length a3, Value.slice a5 a0.1.System.Edges.length a6, Value.slice a8 a0.1.Verdicts.length a9], Value.bool a0.2]) rfl) (aC (cZ rfl rfl) (aC (cZ rfl rfl) (cG (vs := [i64 0, i64 0, Value.slice none 0 0, Value.slice none 0 0, Value.slice none 0 0]) Tryz.zeroValue33 d4 rfl (fun b7 e9 d5 => (cC (i := 0) (ns := [i64 a0.1.System.States, i64 a0.1.System.Initial, Value.slice a2 a0.1.System.Labels.length a3, Value.slice a5 a0.1.System.Edges.length a6, Value.slice a8 a0.1.Verdicts.length a9]) (us := [i64 a0.1.System.States, i64 a0.1.System.Initial, Value.slice a2 a0.1.System.Labels.length a3, Value.slice a5 a0.1.System.Edges.length a6, Value.slice a8 a0.1.Verdicts.length a9]) Tryz.sizeOf33 d5 rfl rfl rfl rfl rfl (dT rfl) rfl rfl (fun d6 (b8 : aN G K (box b7 33 [i64 a0.1.System.States, i64 a0.1.System.Initial, Value.slice a2 a0.1.System.Labels.length a3, Value.slice a5 a0.1.System.Edges.length a6, Value.slice a8 a0.1.Verdicts.length a9] :: aT 9 K a2 a3 a0.1.System.Labels :: aT 63 K a5 a6 a0.1.System.Edges :: aT 2 K a8 a9 a0.1.Verdicts :: box b2 33 [i64 0, i64 0, Value.slice none 0 0, Value.slice none 0 0, Value.slice none 0 0] :: box b1 30 [i64 p.States, i64 p.Initial, Value.slice a7 p.Labels.length c8, Value.slice a10 p.Edges.length c11] :: box b0 30 [i64 t.States, i64 t.Initial, Value.slice a1 t.Labels.length c2, Value.slice a4 t.Edges.length c5] :: L) d6) => (aC (aG (v := Value.bool a0.2) rfl) (aF (aA (aH (aH (aB (aC (aD (v := Value.bool a0.2) rfl) (aC (dN rfl) (aF (aA ?_))))))))))))))))
  rcases aJ hm with ⟨c48, hm⟩ | ⟨c48, hm⟩
  ·refine aO c48 rfl (aH (aB (aC (eR (vs := []) (cs := [i64 0, i64 0, Value.slice none 0 0, Value.slice none 0 0, Value.slice none 0 0]) xE rfl (by kernel_rfl)) (cC (i := 4) (ns := [i64 0, i64 0, Value.slice none 0 0, Value.slice none 0 0, Value.slice none 0 0]) (us := [i64 0, i64 0, Value.slice none 0 0, Value.slice none 0 0, Value.slice none 0 0]) Tryz.sizeOf33 b8 rfl rfl rfl rfl rfl (dT rfl) rfl rfl (fun d7 (d8 : aN G K (box b7 33 [i64 a0.1.System.States, i64 a0.1.System.Initial, Value.slice a2 a0.1.System.Labels.length a3, Value.slice a5 a0.1.System.Edges.length a6, Value.slice a8 a0.1.Verdicts.length a9] :: aT 9 K a2 a3 a0.1.System.Labels :: aT 63 K a5 a6 a0.1.System.Edges :: aT 2 K a8 a9 a0.1.Verdicts :: box b2 33 [i64 0, i64 0, Value.slice none 0 0, Value.slice none 0 0, Value.slice none 0 0] :: box b1 30 [i64 p.States, i64 p.Initial, Value.slice a7 p.Labels.length c8, Value.slice a10 p.Edges.length c11] :: box b0 30 [i64 t.States, i64 t.Initial, Value.slice a1 t.Labels.length c2, Value.slice a4 t.Edges.length c5] :: L) d7) => (aC (aG (v := i64 5) rfl) (aF (aA ?_))))))))
   have d9 := aN.nil (α := bF) d8 9 K
   have e0 := aN.nil (α := Edge) d9 63 K
   have c0 := aN.nil (α := Int) e0 2 K
   have e1 := Option.some.inj hm
   subst e1
   exact bB (aQ (lT Tryz.results37 (gL (vs := [i64 0, i64 0, Value.slice none 0 0, Value.slice none 0 0, Value.slice none 0 0]) rfl lI c0 (i := 7) rfl rfl rfl) (mH rfl rfl) ⟨none, 0, none, 0, none, 0, rfl, (aN.arr 10 [2, 1, 0] c0 rfl)⟩))
  ·refine aM c48 rfl (aX (aA (aH (aB (aC (dR (us := [i64 a0.1.System.States, i64 a0.1.System.Initial, Value.slice a2 a0.1.System.Labels.length a3, Value.slice a5 a0.1.System.Edges.length a6, Value.slice a8 a0.1.Verdicts.length a9]) lI b8 (i := 0) rfl rfl rfl rfl) (cC (i := 4) (ns := [i64 a0.1.System.States, i64 a0.1.System.Initial, Value.slice a2 a0.1.System.Labels.length a3, Value.slice a5 a0.1.System.Edges.length a6, Value.slice a8 a0.1.Verdicts.length a9]) (us := [i64 a0.1.System.States, i64 a0.1.System.Initial, Value.slice a2 a0.1.System.Labels.length a3, Value.slice a5 a0.1.System.Edges.length a6, Value.slice a8 a0.1.Verdicts.length a9]) Tryz.sizeOf33 b8 rfl rfl rfl rfl rfl (dT rfl) rfl rfl (fun e2 (c1 : aN G K (box b7 33 [i64 a0.1.System.States, i64 a0.1.System.Initial, Value.slice a2 a0.1.System.Labels.length a3, Value.slice a5 a0.1.System.Edges.length a6, Value.slice a8 a0.1.Verdicts.length a9] :: aT 9 K a2 a3 a0.1.System.Labels :: aT 63 K a5 a6 a0.1.System.Edges :: aT 2 K a8 a9 a0.1.Verdicts :: box b2 33 [i64 a0.1.System.States, i64 a0.1.System.Initial, Value.slice a2 a0.1.System.Labels.length a3, Value.slice a5 a0.1.System.Edges.length a6, Value.slice a8 a0.1.Verdicts.length a9] :: box b1 30 [i64 p.States, i64 p.Initial, Value.slice a7 p.Labels.length c8, Value.slice a10 p.Edges.length c11] :: box b0 30 [i64 t.States, i64 t.Initial, Value.slice a1 t.Labels.length c2, Value.slice a4 t.Edges.length c5] :: L) e2) => (aC (aG (v := i64 0) rfl) (aF (aA ?_))))))))))
   have e3 := Option.some.inj hm
   subst e3
   exact bB (lT Tryz.results37 (gL (vs := [i64 a0.1.System.States, i64 a0.1.System.Initial, Value.slice a2 a0.1.System.Labels.length a3, Value.slice a5 a0.1.System.Edges.length a6, Value.slice a8 a0.1.Verdicts.length a9]) rfl lI c1 (i := 4) rfl rfl rfl) (mH rfl rfl) ⟨a2, a3, a5, a6, a8, a9, rfl, (aN.arr 7 [1, 2, 3] c1 rfl)⟩)
theorem xG {p : dC} {labels : (List bF)} {R : (dS × Int)} (hs : aN G K (L) w) (hG : G.lo = 0) (h3 : bX K a1 c2 p.Labels) (h6 : bX K a4 c5 p.Edges) (h9 : bX K a7 c8 labels) (hm : nK p labels = some R) :
  Calls Tryz.prog 10 ([Value.agg #[i64 p.States, i64 p.Initial, Value.slice a1 p.Labels.length c2, Value.slice a4 p.Edges.length c5], Value.slice a7 labels.length c8] : List Value).toArray w (fW fun v w' => ∃ (ra0 : Option Addr) (rc0 : Nat) (ra1 : Option Addr) (rc1 : Nat) (ra2 : Option Addr) (rc2 : Nat), v = Value.tuple #[Value.agg #[i64 R.1.System.States, i64 R.1.System.Initial, Value.slice ra0 R.1.System.Labels.length rc0, Value.slice ra1 R.1.System.Edges.length rc1, Value.slice ra2 R.1.Verdicts.length rc2], i64 R.2] ∧ aN G K (aT 9 K ra0 rc0 R.1.System.Labels :: aT 63 K ra1 rc1 R.1.System.Edges :: aT 2 K ra2 rc2 R.1.Verdicts :: L) w') := by
 refine aU Tryz.func10 rfl (by kernel_rfl) (by show (2 : Nat) ≤ 49; decide) ?_
 unfold nK at hm
 refine aH (aB (dU (v := Value.agg #[i64 p.States, i64 p.Initial, Value.slice a1 p.Labels.length c2, Value.slice a4 p.Edges.length c5]) (vs := [i64 p.States, i64 p.Initial, Value.slice a1 p.Labels.length c2, Value.slice a4 p.Edges.length c5]) hs rfl rfl (fun a3 o0 g1 => (cG (vs := [i64 0, i64 0, Value.slice none 0 0, Value.slice none 0 0, Value.slice none 0 0]) Tryz.zeroValue33 g1 rfl (fun a5 o1 e5 => (aC (aG (v := i64 0) rfl) (aF (aA (aH (cK (aH (aB (aC (dR (us := [i64 p.States, i64 p.Initial, Value.slice a1 p.Labels.length c2, Value.slice a4 p.Edges.length c5]) gT e5 (i := 1) rfl rfl rfl rfl) ?_)))))))))))))
 obtain ⟨g2, g3, hm⟩ := aI hm
 refine aW (vs := [Value.agg #[i64 p.States, i64 p.Initial, Value.slice a1 p.Labels.length c2, Value.slice a4 p.Edges.length c5]]) Tryz.call33 rfl (lR e5 hG h3 h6 g3) ?_
 rintro _ o2 ⟨rfl, d1⟩
 refine aC (dN rfl) (aC (aG (v := Value.bool (!g2)) rfl) (aF (aA ?_)))
 rcases aJ hm with ⟨d2, hm⟩ | ⟨d2, hm⟩
 ·refine aO d2 rfl (aH (aB (aC (eR (vs := []) (cs := [i64 0, i64 0, Value.slice none 0 0, Value.slice none 0 0, Value.slice none 0 0]) xE rfl (by kernel_rfl)) (cC (i := 0) (ns := [i64 0, i64 0, Value.slice none 0 0, Value.slice none 0 0, Value.slice none 0 0]) (us := [i64 0, i64 0, Value.slice none 0 0, Value.slice none 0 0, Value.slice none 0 0]) Tryz.sizeOf33 d1 rfl rfl rfl rfl rfl (dT rfl) rfl rfl (fun g4 (g5 : aN G K (box a5 33 [i64 0, i64 0, Value.slice none 0 0, Value.slice none 0 0, Value.slice none 0 0] :: box a3 30 [i64 p.States, i64 p.Initial, Value.slice a1 p.Labels.length c2, Value.slice a4 p.Edges.length c5] :: L) g4) => (aC (aG (v := i64 1) rfl) (aF (aA ?_))))))))
  have g6 := aN.nil (α := bF) g5 9 K
  have g7 := aN.nil (α := Edge) g6 63 K
  have e6 := aN.nil (α := Int) g7 2 K
  have g8 := Option.some.inj hm
  subst g8
  exact bB (bN (aQ (lT Tryz.results10 (gL (vs := [i64 0, i64 0, Value.slice none 0 0, Value.slice none 0 0, Value.slice none 0 0]) rfl lI e6 (i := 3) rfl rfl rfl) (mH rfl rfl) ⟨none, 0, none, 0, none, 0, rfl, (aN.arr 5 [2, 1, 0] e6 rfl)⟩)))
 ·refine aM d2 rfl (aH (aB (aC (dR (us := [i64 p.States, i64 p.Initial, Value.slice a1 p.Labels.length c2, Value.slice a4 p.Edges.length c5]) gT d1 (i := 1) rfl rfl rfl rfl) ?_)))
  obtain ⟨g9, h0, hm⟩ := aI hm
  refine aW (vs := [Value.agg #[i64 p.States, i64 p.Initial, Value.slice a1 p.Labels.length c2, Value.slice a4 p.Edges.length c5]]) Tryz.call34 rfl (rU d1 hG h3 h6 h0) ?_
  rintro _ o3 ⟨rfl, e7⟩
  refine aC (dN rfl) (aC (aG (v := Value.bool (!g9)) rfl) (aF (aA ?_)))
  rcases aJ hm with ⟨d3, hm⟩ | ⟨d3, hm⟩
  ·refine aO d3 rfl (aH (aB (aC (eR (vs := []) (cs := [i64 0, i64 0, Value.slice none 0 0, Value.slice none 0 0, Value.slice none 0 0]) xE rfl (by kernel_rfl)) (cC (i := 0) (ns := [i64 0, i64 0, Value.slice none 0 0, Value.slice none 0 0, Value.slice none 0 0]) (us := [i64 0, i64 0, Value.slice none 0 0, Value.slice none 0 0, Value.slice none 0 0]) Tryz.sizeOf33 e7 rfl rfl rfl rfl rfl (dT rfl) rfl rfl (fun h1 (h2 : aN G K (box a5 33 [i64 0, i64 0, Value.slice none 0 0, Value.slice none 0 0, Value.slice none 0 0] :: box a3 30 [i64 p.States, i64 p.Initial, Value.slice a1 p.Labels.length c2, Value.slice a4 p.Edges.length c5] :: L) h1) => (aC (aG (v := i64 6) rfl) (aF (aA ?_))))))))
   have h4 := aN.nil (α := bF) h2 9 K
   have h5 := aN.nil (α := Edge) h4 63 K
   have e8 := aN.nil (α := Int) h5 2 K
   have h7 := Option.some.inj hm
   subst h7
   exact bB (bN (aQ (lT Tryz.results10 (gL (vs := [i64 0, i64 0, Value.slice none 0 0, Value.slice none 0 0, Value.slice none 0 0]) rfl lI e8 (i := 3) rfl rfl rfl) (mH rfl rfl) ⟨none, 0, none, 0, none, 0, rfl, (aN.arr 5 [2, 1, 0] e8 rfl)⟩)))
  ·refine aM d3 rfl (aH (aB (aC (aD (v := Value.slice a7 labels.length c8) rfl) ?_)))
   obtain ⟨h8, i0, hm⟩ := aI hm
   refine aW (vs := [Value.slice a7 labels.length c8]) Tryz.call35 rfl (aGT e7 hG h9 i0) ?_
   rintro _ o4 ⟨rfl, e9⟩
   refine aC (dN rfl) (aC (aG (v := Value.bool (!h8)) rfl) (aF (aA ?_)))
   rcases aJ hm with ⟨d4, hm⟩ | ⟨d4, hm⟩
   ·refine aO d4 rfl (aH (aB (aC (eR (vs := []) (cs := [i64 0, i64 0, Value.slice none 0 0, Value.slice none 0 0, Value.slice none 0 0]) xE rfl (by kernel_rfl)) (cC (i := 0) (ns := [i64 0, i64 0, Value.slice none 0 0, Value.slice none 0 0, Value.slice none 0 0]) (us := [i64 0, i64 0, Value.slice none 0 0, Value.slice none 0 0, Value.slice none 0 0]) Tryz.sizeOf33 e9 rfl rfl rfl rfl rfl (dT rfl) rfl rfl (fun i1 (i2 : aN G K (box a5 33 [i64 0, i64 0, Value.slice none 0 0, Value.slice none 0 0, Value.slice none 0 0] :: box a3 30 [i64 p.States, i64 p.Initial, Value.slice a1 p.Labels.length c2, Value.slice a4 p.Edges.length c5] :: L) i1) => (aC (aG (v := i64 2) rfl) (aF (aA ?_))))))))
    have i3 := aN.nil (α := bF) i2 9 K
    have i4 := aN.nil (α := Edge) i3 63 K
    have f0 := aN.nil (α := Int) i4 2 K
    have i5 := Option.some.inj hm
    subst i5
    exact bB (bN (aQ (lT Tryz.results10 (gL (vs := [i64 0, i64 0, Value.slice none 0 0, Value.slice none 0 0, Value.slice none 0 0]) rfl lI f0 (i := 3) rfl rfl rfl) (mH rfl rfl) ⟨none, 0, none, 0, none, 0, rfl, (aN.arr 5 [2, 1, 0] f0 rfl)⟩)))
   ·refine aM d4 rfl (aX (bG (aA (aH (aB (aC (aG (v := Value.slice none 0 0) rfl) (aF (aA (aH (aH (aB (aC (aD (v := Value.slice a7 labels.length c8) rfl) (aC (bU (len := labels.length) cQ rfl) (aC (aD (v := i64 0) rfl) (aF (aA (bC (fun f w => ∃ (b2 : List lL) (b4 : Option Addr) (b5 : Nat), mF p labels b2 = some R ∧ f 1 = Value.slice a7 labels.length c8 ∧ f 2 = Value.pointer (some ⟨a3, 0, none⟩) ∧ f 4 = Value.pointer (some ⟨a5, 0, none⟩) ∧ f 6 = Value.slice b4 b2.length b5 ∧ aN G K (aT 70 K b4 b5 b2 :: box a5 33 [i64 0, i64 0, Value.slice none 0 0, Value.slice none 0 0, Value.slice none 0 0] :: box a3 30 [i64 p.States, i64 p.Initial, Value.slice a1 p.Labels.length c2, Value.slice a4 p.Edges.length c5] :: L) w) ?_ ?_)))))))))))))))))
    ·rintro f o5 ⟨b2, b4, b5, hm, i6, i7, c9, i8, i9⟩
     unfold mF at hm
     refine aA (aH (aB (aC (aD i6) (aC (aD i8) ?_))))
     obtain ⟨o6, j0, j1, j2, j3⟩ := aN.lendS (i := 0) i9 (Hp.le_refl _) rfl
     obtain ⟨a0, j4, hm⟩ := aI hm
     refine aW (vs := [i64 1, i64 0, Value.slice a7 labels.length c8, Value.slice b4 b2.length b5]) Tryz.call36 rfl (tE j2 (h9.mono j0) j1 j4) ?_
     rintro _ o7 ⟨a6, a8, a9, b0, rfl, j5⟩
     have j6 := j3 _ _ j5
     refine cG (vs := [i64 0, i64 0, Value.slice none 0 0, Value.slice none 0 0]) Tryz.zeroValue30 j6 rfl (fun d5 o8 j7 => (cC (i := 0) (ns := [i64 a0.States, i64 a0.Initial, Value.slice a6 a0.Labels.length a8, Value.slice a9 a0.Edges.length b0]) (us := [i64 a0.States, i64 a0.Initial, Value.slice a6 a0.Labels.length a8, Value.slice a9 a0.Edges.length b0]) Tryz.sizeOf30 j7 rfl rfl rfl rfl rfl (dT rfl) rfl rfl (fun j8 (f1 : aN G K (box d5 30 [i64 a0.States, i64 a0.Initial, Value.slice a6 a0.Labels.length a8, Value.slice a9 a0.Edges.length b0] :: aT 70 K b4 b5 b2 :: aT 9 K a6 a8 a0.Labels :: aT 63 K a9 b0 a0.Edges :: box a5 33 [i64 0, i64 0, Value.slice none 0 0, Value.slice none 0 0, Value.slice none 0 0] :: box a3 30 [i64 p.States, i64 p.Initial, Value.slice a1 p.Labels.length c2, Value.slice a4 p.Edges.length c5] :: L) j8) => (aF (aA (aH (aH (aB (aC (dR (us := [i64 a0.States, i64 a0.Initial, Value.slice a6 a0.Labels.length a8, Value.slice a9 a0.Edges.length b0]) gT f1 (i := 0) rfl rfl rfl rfl) ?_)))))))))
     obtain ⟨o9, j9, k0, k1, k2⟩ := aN.lendS (i := 2) f1 (Hp.le_refl _) rfl
     obtain ⟨p0, k3, k4, k5, k6⟩ := aN.lendS (i := 2) k1 j9 rfl
     obtain ⟨p1, k7, hm⟩ := aI hm
     refine aW (vs := [Value.agg #[i64 a0.States, i64 a0.Initial, Value.slice a6 a0.Labels.length a8, Value.slice a9 a0.Edges.length b0]]) Tryz.call33 rfl (lR k5 hG (k0.mono k3) k4 k7) ?_
     rintro _ p2 ⟨rfl, k8⟩
     have k9 := k6 _ _ k8
     have d0 := k2 _ _ k9
     refine aC (dN rfl) (aF (aA ?_))
     rcases aJ hm with ⟨d6, hm⟩ | ⟨d6, hm⟩
     ·refine aO d6 rfl (aH (aB (aC (eR (vs := []) (cs := [i64 0, i64 0, Value.slice none 0 0, Value.slice none 0 0, Value.slice none 0 0]) xE rfl (by kernel_rfl)) (cC (i := 4) (ns := [i64 0, i64 0, Value.slice none 0 0, Value.slice none 0 0, Value.slice none 0 0]) (us := [i64 0, i64 0, Value.slice none 0 0, Value.slice none 0 0, Value.slice none 0 0]) Tryz.sizeOf33 d0 rfl c9 rfl rfl rfl (dT rfl) rfl rfl (fun l0 (l1 : aN G K (aT 9 K a6 a8 a0.Labels :: aT 63 K a9 b0 a0.Edges :: box d5 30 [i64 a0.States, i64 a0.Initial, Value.slice a6 a0.Labels.length a8, Value.slice a9 a0.Edges.length b0] :: aT 70 K b4 b5 b2 :: box a5 33 [i64 0, i64 0, Value.slice none 0 0, Value.slice none 0 0, Value.slice none 0 0] :: box a3 30 [i64 p.States, i64 p.Initial, Value.slice a1 p.Labels.length c2, Value.slice a4 p.Edges.length c5] :: L) l0) => (aC (aG (v := i64 5) rfl) (aF (aA ?_))))))))
      have l2 := aN.nil (α := bF) l1 9 K
      have l3 := aN.nil (α := Edge) l2 63 K
      have f2 := aN.nil (α := Int) l3 2 K
      have l4 := Option.some.inj hm
      subst l4
      exact bB (aQ (lT Tryz.results10 (gL (vs := [i64 0, i64 0, Value.slice none 0 0, Value.slice none 0 0, Value.slice none 0 0]) rfl lI f2 (i := 7) rfl c9 rfl) (mH rfl rfl) ⟨none, 0, none, 0, none, 0, rfl, (aN.arr 9 [2, 1, 0] f2 rfl)⟩))
     ·refine aM d6 rfl (aX (aA (aH (aB (aC (dR (us := [i64 a0.States, i64 a0.Initial, Value.slice a6 a0.Labels.length a8, Value.slice a9 a0.Edges.length b0]) gT d0 (i := 2) rfl rfl rfl rfl) (aC (dR (us := [i64 p.States, i64 p.Initial, Value.slice a1 p.Labels.length c2, Value.slice a4 p.Edges.length c5]) gT d0 (i := 5) rfl i7 rfl rfl) ?_))))))
      obtain ⟨p3, d7, l5, l6, l7⟩ := aN.lendS (i := 0) d0 (Hp.le_refl _) rfl
      obtain ⟨p4, d8, l8, l9, m0⟩ := aN.lendS (i := 0) l6 d7 rfl
      obtain ⟨a2, m1, hm⟩ := aI hm
      refine aW (vs := [Value.agg #[i64 a0.States, i64 a0.Initial, Value.slice a6 a0.Labels.length a8, Value.slice a9 a0.Edges.length b0], Value.agg #[i64 p.States, i64 p.Initial, Value.slice a1 p.Labels.length c2, Value.slice a4 p.Edges.length c5]]) Tryz.call37 rfl (aCW l9 hG (l5.mono d8) l8 (h3.mono (Hp.le_trans d7 d8)) (h6.mono (Hp.le_trans d7 d8)) m1) ?_
      rintro _ p5 ⟨b7, b8, b9, c0, c1, c3, rfl, m2⟩
      have m3 := m0 _ _ m2
      have m4 := l7 _ _ m3
      refine aC (cZ rfl rfl) (aC (cZ rfl rfl) (cC (i := 7) (ns := [i64 a2.1.System.States, i64 a2.1.System.Initial, Value.slice b7 a2.1.System.Labels.length b8, Value.slice b9 a2.1.System.Edges.length c0, Value.slice c1 a2.1.Verdicts.length c3]) (us := [i64 a2.1.System.States, i64 a2.1.System.Initial, Value.slice b7 a2.1.System.Labels.length b8, Value.slice b9 a2.1.System.Edges.length c0, Value.slice c1 a2.1.Verdicts.length c3]) Tryz.sizeOf33 m4 rfl c9 rfl rfl rfl (dT rfl) rfl rfl (fun m5 (f3 : aN G K (aT 9 K a6 a8 a0.Labels :: aT 63 K a9 b0 a0.Edges :: aT 9 K b7 b8 a2.1.System.Labels :: aT 63 K b9 c0 a2.1.System.Edges :: aT 2 K c1 c3 a2.1.Verdicts :: box d5 30 [i64 a0.States, i64 a0.Initial, Value.slice a6 a0.Labels.length a8, Value.slice a9 a0.Edges.length b0] :: aT 70 K b4 b5 b2 :: box a5 33 [i64 a2.1.System.States, i64 a2.1.System.Initial, Value.slice b7 a2.1.System.Labels.length b8, Value.slice b9 a2.1.System.Edges.length c0, Value.slice c1 a2.1.Verdicts.length c3] :: box a3 30 [i64 p.States, i64 p.Initial, Value.slice a1 p.Labels.length c2, Value.slice a4 p.Edges.length c5] :: L) m5) => (aC (aG (v := i64 a2.2) rfl) (aF (aA ?_))))))
      have m6 := Option.some.inj hm
      subst m6
      exact bB (lT Tryz.results10 (gL (vs := [i64 a2.1.System.States, i64 a2.1.System.Initial, Value.slice b7 a2.1.System.Labels.length b8, Value.slice b9 a2.1.System.Edges.length c0, Value.slice c1 a2.1.Verdicts.length c3]) rfl lI f3 (i := 7) rfl c9 rfl) (mH rfl rfl) ⟨b7, b8, b9, c0, c1, c3, rfl, (aN.arr 9 [2, 3, 4] f3 rfl)⟩)
    have m7 := aN.nil (α := lL) e9 70 K
    obtain ⟨p6, m8, hm⟩ := aI hm
    refine cD m8 (fun (s : (List lL × Int)) f w => match s with | (b6, c4) => ∃ (c6 : Option Addr) (c7 : Nat), f 1 = Value.slice a7 labels.length c8 ∧ f 2 = Value.pointer (some ⟨a3, 0, none⟩) ∧ f 4 = Value.pointer (some ⟨a5, 0, none⟩) ∧ f 6 = Value.slice c6 b6.length c7 ∧ f 25 = Value.slice a7 labels.length c8 ∧ f 26 = i64 (labels.length : Int) ∧ f 27 = i64 c4 ∧ aN G K (aT 70 K c6 c7 b6 :: box a5 33 [i64 0, i64 0, Value.slice none 0 0, Value.slice none 0 0, Value.slice none 0 0] :: box a3 30 [i64 p.States, i64 p.Initial, Value.slice a1 p.Labels.length c2, Value.slice a4 p.Edges.length c5] :: L) w) ?_ ?_
    ·exact ⟨none, 0, rfl, rfl, rfl, rfl, rfl, rfl, rfl, m7⟩
    ·rintro ⟨b6, c4⟩ m9 f p7 b1 n0 ⟨c6, c7, f4, f5, f6, f7, f8, f9, d9, e0⟩
     replace b1 : jZ labels b6 c4 = some m9 := b1
     unfold jZ at b1
     refine aH (aB (aC (cE d9 f9) (aF (aA (aH ?_)))))
     rcases aJ b1 with ⟨e1, b1⟩ | ⟨e1, b1⟩
     ·refine aO e1 rfl (aX (aA (aH (cK (aH (aB ?_))))))
      obtain ⟨b3, g0, b1⟩ := aI b1
      refine aC (cU cQ rfl h9 f8 rfl d9 g0) ?_
      obtain ⟨p8, n1, n2⟩ := bX.el (sz := 1) rfl h9 g0
      cases n2
      refine aC (bL (t := 0) oI e0 n1 rfl rfl) (aC (aG (v := cF b3) rfl) (aF (aA (aB (aC (aD f7) (aC (aD (v := cF b3) rfl) (aC (eR (vs := [(0, i64 0), (1, cF b3), (2, i64 0)]) (cs := [i64 0, cF b3, i64 0]) bs_70 rfl (by kernel_rfl)) (eN (Kt := K) (xs := ([⟨0, b3, 0⟩] : List lL)) (cs := [i64 0, cF b3, i64 0]) (vs := [(0, Value.agg #[i64 0, cF b3, i64 0])]) zU aCF rfl rfl e0 rfl (by kernel_rfl) rfl rfl rfl ⟨rfl, trivial⟩ (fun n3 n4 (n5 : aN G K (aT 70 K n3 1 ([⟨0, b3, 0⟩] : List lL) :: aT 70 K c6 c7 b6 :: box a5 33 [i64 0, i64 0, Value.slice none 0 0, Value.slice none 0 0, Value.slice none 0 0] :: box a3 30 [i64 p.States, i64 p.Initial, Value.slice a1 p.Labels.length c2, Value.slice a4 p.Edges.length c5] :: L) n4) => ?_)))))))))
      obtain ⟨e2, n6, b1⟩ := aI b1
      exact iZ (i := 0) zU Tryz.underlying68 aCF rfl rfl n5 rfl (Hp.le_refl _) (Hp.le_refl _) n6 rfl rfl rfl rfl (fun _ h => h) (fun e3 e4 n7 (n8 : aN G K (aT 70 K e3 e4 e2 :: box a5 33 [i64 0, i64 0, Value.slice none 0 0, Value.slice none 0 0, Value.slice none 0 0] :: box a3 30 [i64 p.States, i64 p.Initial, Value.slice a1 p.Labels.length c2, Value.slice a4 p.Edges.length c5] :: L) n7) => (aC (aG (v := Value.slice e3 e2.length e4) rfl) (aF (bG (aA (aB (aC (cI d9 rfl) (aC (aD (v := i64 (wr (c4 + 1))) rfl) (aF (aA ⟨(e2, wr (c4 + 1)), (Option.some.inj b1).symm, e3, e4, f4, f5, f6, rfl, f8, f9, rfl, n8⟩))))))))))
     ·refine aM e1 rfl (bY (aY (aY ?_)))
      have n9 := n0 _ (Option.some.inj b1).symm
      subst n9
      have hm : (mF p labels b6) = some R := hm
      exact bO (aA ⟨b6, c6, c7, hm, f4, f5, f6, f7, e0⟩)
theorem aAM {a : (List bF)} {b : (List bF)} {R : Bool} (hs : aN G K (L) w) (h3 : bX K a1 c2 a) (h6 : bX K a4 c5 b) (hm : tQ a b = some R) :
  Calls Tryz.prog 13 ([Value.slice a1 a.length c2, Value.slice a4 b.length c5] : List Value).toArray w (fW fun v w' => v = Value.bool R ∧ aN G K (L) w') := by
 refine aU Tryz.func13 rfl (by kernel_rfl) (by show (2 : Nat) ≤ 26; decide) ?_
 unfold tQ at hm
 refine aH (aB (aC (aG (v := Value.bool false) rfl) (aF (aA (aH (aH (aB (aC (aD (v := Value.slice a1 a.length c2) rfl) (aC (bU (len := a.length) cQ rfl) (aC (aD (v := Value.slice a4 b.length c5) rfl) (aC (bU (len := b.length) cQ rfl) (aC (lS rfl rfl) (aF (aA ?_))))))))))))))
 rcases aJ hm with ⟨c7, hm⟩ | ⟨c7, hm⟩
 ·refine aO c7 rfl (aH (aB (aC (aG (v := Value.bool false) rfl) (aF (aA ?_)))))
  have b5 := Option.some.inj hm
  subst b5
  exact bB (aQ (aZ Tryz.results13 rfl ⟨rfl, hs⟩))
 ·refine aM c7 rfl (aX (aA (aH (aH (aB (aC (aG (v := i64 0) rfl) (aF (aA (bC (fun f w => vB = some R ∧ aN G K (L) w) ?_ ?_)))))))))
  ·rintro f w9 ⟨hm, b6⟩
   unfold vB at hm
   refine aA (aH (aB (aC (aG (v := Value.bool true) rfl) (aF (aA ?_)))))
   have b7 := Option.some.inj hm
   subst b7
   exact bB (aZ Tryz.results13 rfl ⟨rfl, b6⟩)
  obtain ⟨d0, b8, hm⟩ := aI hm
  refine cD b8 (fun (a3 : Int) f w => f 0 = Value.slice a1 a.length c2 ∧ f 1 = Value.slice a4 b.length c5 ∧ f 5 = i64 a3 ∧ aN G K (L) w) ?_ ?_
  ·exact ⟨rfl, rfl, rfl, hs⟩
  ·rintro a3 b9 f d1 a0 b0 ⟨a7, b1, a5, a2⟩
   replace a0 : nL a b a3 = some b9 := a0
   unfold nL at a0
   refine aH (aH (aB (aC (aD a5) (aC (aD a7) (aC (bU (len := a.length) cQ rfl) (aC (cE rfl rfl) (aF (aA ?_))))))))
   rcases aJ a0 with ⟨a8, a0⟩ | ⟨a8, a0⟩
   ·refine aO a8 rfl (aX (aA (aH (cK (aH (cW (C := fun w' => aN G K (L) w') bR (by kernel_rfl) (aN.mono a2 (dB.drew _)) (aS (fun _ a2 => aD a7) (aS (fun _ a2 => aD a5) ?_))))))))
    obtain ⟨d2, b2, a0⟩ := aI a0
    refine aS (fun _ a2 => cU cQ rfl h3 rfl rfl rfl b2) ?_
    obtain ⟨d3, c0, c1⟩ := bX.el (sz := 1) rfl h3 b2
    cases c1
    refine aS (fun _ a2 => bL (t := 0) oI a2 c0 rfl rfl) (aS (fun _ a2 => aD b1) (aS (fun _ a2 => aD a5) ?_))
    obtain ⟨d4, b3, a0⟩ := aI a0
    refine aS (fun _ a2 => cU cQ rfl h6 rfl rfl rfl b3) ?_
    obtain ⟨d5, c3, c4⟩ := bX.el (sz := 1) rfl h6 b3
    cases c4
    refine aS (fun _ a2 => bL (t := 0) oI a2 c3 rfl rfl) (aS (fun _ a2 => aCL rfl rfl) (dD (fun d6 b4 => (aA ?_))))
    rcases aJ a0 with ⟨a9, a0⟩ | ⟨a9, a0⟩
    ·refine aO a9 rfl (aH (aB (aC (aG (v := Value.bool false) rfl) (aF (aA (bB (bN (aQ (aQ ?_)))))))))
     have c6 := b0 _ (Option.some.inj a0).symm
     subst c6
     have hm : (some false) = some R := hm
     have hR55 := Option.some.inj hm
     subst hR55
     exact bN (aQ (aQ (aZ Tryz.results13 rfl ⟨rfl, b4⟩)))
    ·exact aM a9 rfl (aX (bG (aA (aB (aC (aD a5) (aC (cI rfl rfl) (aC (aG (v := i64 (wr (a3 + 1))) rfl) (aF (aA ⟨wr (a3 + 1), (Option.some.inj a0).symm, a7, b1, rfl, b4⟩)))))))))
   ·refine aM a8 rfl (bY (aY (aY ?_)))
    have c8 := b0 _ (Option.some.inj a0).symm
    subst c8
    have hm : (vB) = some R := hm
    exact bO (aA ⟨hm, a2⟩)
theorem aFW {a : Edge} {b : Edge} {R : Bool} (hs : aN G K (L) w)  (hm : aBX a b = some R) :
  Calls Tryz.prog 87 ([Value.agg #[i64 a.From, i64 a.Label, i64 a.To], Value.agg #[i64 b.From, i64 b.Label, i64 b.To]] : List Value).toArray w (fW fun v w' => v = Value.bool R ∧ aN G K (L) w') := by
 refine aU Tryz.func87 rfl (by kernel_rfl) (by show (2 : Nat) ≤ 20; decide) ?_
 unfold aBX at hm
 refine aH (aB (dU (v := Value.agg #[i64 a.From, i64 a.Label, i64 a.To]) (vs := [i64 a.From, i64 a.Label, i64 a.To]) hs rfl rfl (fun b1 w2 a4 => (dU (v := Value.agg #[i64 b.From, i64 b.Label, i64 b.To]) (vs := [i64 b.From, i64 b.Label, i64 b.To]) a4 rfl rfl (fun b4 w5 a0 => (aC (aG (v := Value.bool false) rfl) (aF (aA (aH (aH (aB (aC (bI (t' := 0) iB rfl rfl) (aC (cA cM a0 (i := 1) rfl rfl rfl) (aC (bI (t' := 0) iB rfl rfl) (aC (cA cM a0 (i := 0) rfl rfl rfl) (aC (lS rfl rfl) (aF (aA ?_))))))))))))))))))
 rcases aJ hm with ⟨c7, hm⟩ | ⟨c7, hm⟩
 ·refine aO c7 rfl (aH (aB (aC (aG (v := Value.bool false) rfl) (aF (aA ?_)))))
  have a5 := Option.some.inj hm
  subst a5
  exact bB (aQ (aZ Tryz.results87 rfl ⟨rfl, (aN.arr 2 [] a0 rfl)⟩))
 ·refine aM c7 rfl (aX (aA (aH (aH (aB (aC (bI (t' := 1) fP rfl rfl) (aC (cA cM a0 (i := 1) rfl rfl rfl) (aC (bI (t' := 1) fP rfl rfl) (aC (cA cM a0 (i := 0) rfl rfl rfl) (aC (lS rfl rfl) (aF (aA ?_))))))))))))
  rcases aJ hm with ⟨c9, hm⟩ | ⟨c9, hm⟩
  ·refine aO c9 rfl (aH (aB (aC (aG (v := Value.bool false) rfl) (aF (aA ?_)))))
   have a6 := Option.some.inj hm
   subst a6
   exact bB (aQ (aZ Tryz.results87 rfl ⟨rfl, (aN.arr 2 [] a0 rfl)⟩))
  ·refine aM c9 rfl (aX (aA (aH (aH (aB (aC (bI (t' := 2) iU rfl rfl) (aC (cA cM a0 (i := 1) rfl rfl rfl) (aC (bI (t' := 2) iU rfl rfl) (aC (cA cM a0 (i := 0) rfl rfl rfl) (aC (lS rfl rfl) (aF (aA ?_))))))))))))
   rcases aJ hm with ⟨a3, hm⟩ | ⟨a3, hm⟩
   ·refine aO a3 rfl (aH (aB (aC (aG (v := Value.bool false) rfl) (aF (aA ?_)))))
    have a7 := Option.some.inj hm
    subst a7
    exact bB (aQ (aZ Tryz.results87 rfl ⟨rfl, (aN.arr 2 [] a0 rfl)⟩))
   ·refine aM a3 rfl (aX (aA (aH (aB (aC (aG (v := Value.bool true) rfl) (aF (aA ?_)))))))
    have a8 := Option.some.inj hm
    subst a8
    exact bB (aZ Tryz.results87 rfl ⟨rfl, (aN.arr 2 [] a0 rfl)⟩)
theorem aFo {a : (List Edge)} {b : (List Edge)} {R : Bool} (hs : aN G K (L) w) (h3 : bX K a1 c2 a) (h6 : bX K a4 c5 b) (hm : aAG a b = some R) :
  Calls Tryz.prog 39 ([Value.slice a1 a.length c2, Value.slice a4 b.length c5] : List Value).toArray w (fW fun v w' => v = Value.bool R ∧ aN G K (L) w') := by
 refine aU Tryz.func39 rfl (by kernel_rfl) (by show (2 : Nat) ≤ 27; decide) ?_
 unfold aAG at hm
 refine aH (aB (aC (aG (v := Value.bool false) rfl) (aF (aA (aH (aH (aB (aC (aD (v := Value.slice a1 a.length c2) rfl) (aC (bU (len := a.length) cR rfl) (aC (aD (v := Value.slice a4 b.length c5) rfl) (aC (bU (len := b.length) cR rfl) (aC (lS rfl rfl) (aF (aA ?_))))))))))))))
 rcases aJ hm with ⟨c7, hm⟩ | ⟨c7, hm⟩
 ·refine aO c7 rfl (aH (aB (aC (aG (v := Value.bool false) rfl) (aF (aA ?_)))))
  have b7 := Option.some.inj hm
  subst b7
  exact bB (aQ (aZ Tryz.results39 rfl ⟨rfl, hs⟩))
 ·refine aM c7 rfl (aX (aA (aH (aH (aB (aC (aG (v := i64 0) rfl) (aF (aA (bC (fun f w => xW = some R ∧ aN G K (L) w) ?_ ?_)))))))))
  ·rintro f w9 ⟨hm, b8⟩
   unfold xW at hm
   refine aA (aH (aB (aC (aG (v := Value.bool true) rfl) (aF (aA ?_)))))
   have b9 := Option.some.inj hm
   subst b9
   exact bB (aZ Tryz.results39 rfl ⟨rfl, b8⟩)
  obtain ⟨d4, c0, hm⟩ := aI hm
  refine cD c0 (fun (a6 : Int) f w => f 0 = Value.slice a1 a.length c2 ∧ f 1 = Value.slice a4 b.length c5 ∧ f 5 = i64 a6 ∧ aN G K (L) w) ?_ ?_
  ·exact ⟨rfl, rfl, rfl, hs⟩
  ·rintro a6 c1 f d5 a0 b2 ⟨a9, b3, a7, a2⟩
   replace a0 : rN a b a6 = some c1 := a0
   unfold rN at a0
   refine aH (aH (aB (aC (aD a7) (aC (aD a9) (aC (bU (len := a.length) cR rfl) (aC (cE rfl rfl) (aF (aA ?_))))))))
   rcases aJ a0 with ⟨b0, a0⟩ | ⟨b0, a0⟩
   ·refine aO b0 rfl (aX (aA (aH (cK (aH (cW (C := fun w' => aN G K (L) w') bR (by kernel_rfl) (aN.mono a2 (dB.drew _)) (aS (fun _ a2 => aD a9) (aS (fun _ a2 => aD a7) ?_))))))))
    obtain ⟨a3, b4, a0⟩ := aI a0
    refine aS (fun _ a2 => cU cR rfl h3 rfl rfl rfl b4) ?_
    obtain ⟨d6, c3, c4⟩ := bX.el (sz := 3) rfl h3 b4
    cases c4
    refine aS (fun _ a2 => fO (t := 0) (vs := [i64 a3.From, i64 a3.Label, i64 a3.To]) qC a2 c3 rfl rfl rfl) (aS (fun _ a2 => aD b3) (aS (fun _ a2 => aD a7) ?_))
    obtain ⟨a5, b5, a0⟩ := aI a0
    refine aS (fun _ a2 => cU cR rfl h6 rfl rfl rfl b5) ?_
    obtain ⟨d7, c6, hr50⟩ := bX.el (sz := 3) rfl h6 b5
    cases hr50
    refine aS (fun _ a2 => fO (t := 0) (vs := [i64 a5.From, i64 a5.Label, i64 a5.To]) qC a2 c6 rfl rfl rfl) ?_
    obtain ⟨c8, c9, a0⟩ := aI a0
    refine lC (vs := [Value.agg #[i64 a3.From, i64 a3.Label, i64 a3.To], Value.agg #[i64 a5.From, i64 a5.Label, i64 a5.To]]) (v := Value.bool c8) Tryz.call87 rfl (fun _ a2 => (aFW a2 c9)) (aS (fun _ a2 => dN rfl) (dD (fun d8 b6 => (aA ?_))))
    rcases aJ a0 with ⟨b1, a0⟩ | ⟨b1, a0⟩
    ·refine aO b1 rfl (aH (aB (aC (aG (v := Value.bool false) rfl) (aF (aA (bB (bN (aQ (aQ ?_)))))))))
     have d0 := b2 _ (Option.some.inj a0).symm
     subst d0
     have hm : (some false) = some R := hm
     have d1 := Option.some.inj hm
     subst d1
     exact bN (aQ (aQ (aZ Tryz.results39 rfl ⟨rfl, b6⟩)))
    ·exact aM b1 rfl (aX (bG (aA (aB (aC (aD a7) (aC (cI rfl rfl) (aC (aG (v := i64 (wr (a6 + 1))) rfl) (aF (aA ⟨wr (a6 + 1), (Option.some.inj a0).symm, a9, b3, rfl, b6⟩)))))))))
   ·refine aM b0 rfl (bY (aY (aY ?_)))
    have d2 := b2 _ (Option.some.inj a0).symm
    subst d2
    have hm : (xW) = some R := hm
    exact bO (aA ⟨hm, a2⟩)
theorem aDC {a : dC} {b : dC} {R : Bool} (hs : aN G K (L) w) (h3 : bX K a1 c2 a.Labels) (h6 : bX K a4 c5 a.Edges) (h9 : bX K a7 c8 b.Labels) (h12 : bX K a10 c11 b.Edges) (hm : aCp a b = some R) :
  Calls Tryz.prog 12 ([Value.agg #[i64 a.States, i64 a.Initial, Value.slice a1 a.Labels.length c2, Value.slice a4 a.Edges.length c5], Value.agg #[i64 b.States, i64 b.Initial, Value.slice a7 b.Labels.length c8, Value.slice a10 b.Edges.length c11]] : List Value).toArray w (fW fun v w' => v = Value.bool R ∧ aN G K (L) w') := by
 refine aU Tryz.func12 rfl (by kernel_rfl) (by show (2 : Nat) ≤ 27; decide) ?_
 unfold aCp at hm
 refine aH (aB (dU (v := Value.agg #[i64 a.States, i64 a.Initial, Value.slice a1 a.Labels.length c2, Value.slice a4 a.Edges.length c5]) (vs := [i64 a.States, i64 a.Initial, Value.slice a1 a.Labels.length c2, Value.slice a4 a.Edges.length c5]) hs rfl rfl (fun b8 b9 b0 => (dU (v := Value.agg #[i64 b.States, i64 b.Initial, Value.slice a7 b.Labels.length c8, Value.slice a10 b.Edges.length c11]) (vs := [i64 b.States, i64 b.Initial, Value.slice a7 b.Labels.length c8, Value.slice a10 b.Edges.length c11]) b0 rfl rfl (fun c0 c1 a0 => (aC (aG (v := Value.bool false) rfl) (aF (aA (aH (aH (aB (aC (bI (t' := 0) fX rfl rfl) (aC (cA cM a0 (i := 1) rfl rfl rfl) (aC (bI (t' := 0) fX rfl rfl) (aC (cA cM a0 (i := 0) rfl rfl rfl) (aC (lS rfl rfl) (aF (aA ?_))))))))))))))))))
 rcases aJ hm with ⟨a3, hm⟩ | ⟨a3, hm⟩
 ·refine aO a3 rfl (aH (aB (aC (aG (v := Value.bool false) rfl) (aF (aA ?_)))))
  have b1 := Option.some.inj hm
  subst b1
  exact bB (aQ (aZ Tryz.results12 rfl ⟨rfl, (aN.arr 2 [] a0 rfl)⟩))
 ·refine aM a3 rfl (aX (aA (aH (aH (aB (aC (bI (t' := 1) xM rfl rfl) (aC (cA cM a0 (i := 1) rfl rfl rfl) (aC (bI (t' := 1) xM rfl rfl) (aC (cA cM a0 (i := 0) rfl rfl rfl) (aC (lS rfl rfl) (aF (aA ?_))))))))))))
  rcases aJ hm with ⟨a5, hm⟩ | ⟨a5, hm⟩
  ·refine aO a5 rfl (aH (aB (aC (aG (v := Value.bool false) rfl) (aF (aA ?_)))))
   have b2 := Option.some.inj hm
   subst b2
   exact bB (aQ (aZ Tryz.results12 rfl ⟨rfl, (aN.arr 2 [] a0 rfl)⟩))
  ·refine aM a5 rfl (aX (aA (aH (aH (aB (aC (bI (t' := 2) gS rfl rfl) (aC (cA nY a0 (i := 1) rfl rfl rfl) (aC (bI (t' := 2) gS rfl rfl) (aC (cA nY a0 (i := 0) rfl rfl rfl) ?_)))))))))
   obtain ⟨c3, b3, hm⟩ := aI hm
   refine aW (vs := [Value.slice a1 a.Labels.length c2, Value.slice a7 b.Labels.length c8]) Tryz.call13 rfl (aAM a0 h3 h9 b3) ?_
   rintro _ c4 ⟨rfl, a2⟩
   refine aC (dN rfl) (aF (aA ?_))
   rcases aJ hm with ⟨a6, hm⟩ | ⟨a6, hm⟩
   ·refine aO a6 rfl (aH (aB (aC (aG (v := Value.bool false) rfl) (aF (aA ?_)))))
    have b4 := Option.some.inj hm
    subst b4
    exact bB (aQ (aZ Tryz.results12 rfl ⟨rfl, (aN.arr 2 [] a2 rfl)⟩))
   ·refine aM a6 rfl (aX (aA (aH (aH (aB (aC (bI (t' := 3) dI rfl rfl) (aC (cA iC a2 (i := 1) rfl rfl rfl) (aC (bI (t' := 3) dI rfl rfl) (aC (cA iC a2 (i := 0) rfl rfl rfl) ?_)))))))))
    obtain ⟨c6, b5, hm⟩ := aI hm
    refine aW (vs := [Value.slice a4 a.Edges.length c5, Value.slice a10 b.Edges.length c11]) Tryz.call39 rfl (aFo a2 h6 h12 b5) ?_
    rintro _ c7 ⟨rfl, a9⟩
    refine aC (dN rfl) (aF (aA ?_))
    rcases aJ hm with ⟨a8, hm⟩ | ⟨a8, hm⟩
    ·refine aO a8 rfl (aH (aB (aC (aG (v := Value.bool false) rfl) (aF (aA ?_)))))
     have b6 := Option.some.inj hm
     subst b6
     exact bB (aQ (aZ Tryz.results12 rfl ⟨rfl, (aN.arr 2 [] a9 rfl)⟩))
    ·refine aM a8 rfl (aX (aA (aH (aB (aC (aG (v := Value.bool true) rfl) (aF (aA ?_)))))))
     have b7 := Option.some.inj hm
     subst b7
     exact bB (aZ Tryz.results12 rfl ⟨rfl, (aN.arr 2 [] a9 rfl)⟩)
theorem aEO {a : (List Int)} {b : (List Int)} {R : Bool} (hs : aN G K (L) w) (h3 : bX K a1 c2 a) (h6 : bX K a4 c5 b) (hm : zA a b = some R) :
  Calls Tryz.prog 38 ([Value.slice a1 a.length c2, Value.slice a4 b.length c5] : List Value).toArray w (fW fun v w' => v = Value.bool R ∧ aN G K (L) w') := by
 refine aU Tryz.func38 rfl (by kernel_rfl) (by show (2 : Nat) ≤ 26; decide) ?_
 unfold zA at hm
 refine aH (aB (aC (aG (v := Value.bool false) rfl) (aF (aA (aH (aH (aB (aC (aD (v := Value.slice a1 a.length c2) rfl) (aC (bU (len := a.length) cT rfl) (aC (aD (v := Value.slice a4 b.length c5) rfl) (aC (bU (len := b.length) cT rfl) (aC (lS rfl rfl) (aF (aA ?_))))))))))))))
 rcases aJ hm with ⟨c7, hm⟩ | ⟨c7, hm⟩
 ·refine aO c7 rfl (aH (aB (aC (aG (v := Value.bool false) rfl) (aF (aA ?_)))))
  have b5 := Option.some.inj hm
  subst b5
  exact bB (aQ (aZ Tryz.results38 rfl ⟨rfl, hs⟩))
 ·refine aM c7 rfl (aX (aA (aH (aH (aB (aC (aG (v := i64 0) rfl) (aF (aA (bC (fun f w => wM = some R ∧ aN G K (L) w) ?_ ?_)))))))))
  ·rintro f w9 ⟨hm, b6⟩
   unfold wM at hm
   refine aA (aH (aB (aC (aG (v := Value.bool true) rfl) (aF (aA ?_)))))
   have b7 := Option.some.inj hm
   subst b7
   exact bB (aZ Tryz.results38 rfl ⟨rfl, b6⟩)
  obtain ⟨d0, b8, hm⟩ := aI hm
  refine cD b8 (fun (a3 : Int) f w => f 0 = Value.slice a1 a.length c2 ∧ f 1 = Value.slice a4 b.length c5 ∧ f 5 = i64 a3 ∧ aN G K (L) w) ?_ ?_
  ·exact ⟨rfl, rfl, rfl, hs⟩
  ·rintro a3 b9 f d1 a0 b0 ⟨a7, b1, a5, a2⟩
   replace a0 : pP a b a3 = some b9 := a0
   unfold pP at a0
   refine aH (aH (aB (aC (aD a5) (aC (aD a7) (aC (bU (len := a.length) cT rfl) (aC (cE rfl rfl) (aF (aA ?_))))))))
   rcases aJ a0 with ⟨a8, a0⟩ | ⟨a8, a0⟩
   ·refine aO a8 rfl (aX (aA (aH (cK (aH (cW (C := fun w' => aN G K (L) w') bR (by kernel_rfl) (aN.mono a2 (dB.drew _)) (aS (fun _ a2 => aD a7) (aS (fun _ a2 => aD a5) ?_))))))))
    obtain ⟨d2, b2, a0⟩ := aI a0
    refine aS (fun _ a2 => cU cT rfl h3 rfl rfl rfl b2) ?_
    obtain ⟨d3, c0, c1⟩ := bX.el (sz := 1) rfl h3 b2
    cases c1
    refine aS (fun _ a2 => bL (t := 0) cM a2 c0 rfl rfl) (aS (fun _ a2 => aD b1) (aS (fun _ a2 => aD a5) ?_))
    obtain ⟨d4, b3, a0⟩ := aI a0
    refine aS (fun _ a2 => cU cT rfl h6 rfl rfl rfl b3) ?_
    obtain ⟨d5, c3, c4⟩ := bX.el (sz := 1) rfl h6 b3
    cases c4
    refine aS (fun _ a2 => bL (t := 0) cM a2 c3 rfl rfl) (aS (fun _ a2 => lS rfl rfl) (dD (fun d6 b4 => (aA ?_))))
    rcases aJ a0 with ⟨a9, a0⟩ | ⟨a9, a0⟩
    ·refine aO a9 rfl (aH (aB (aC (aG (v := Value.bool false) rfl) (aF (aA (bB (bN (aQ (aQ ?_)))))))))
     have c6 := b0 _ (Option.some.inj a0).symm
     subst c6
     have hm : (some false) = some R := hm
     have hR55 := Option.some.inj hm
     subst hR55
     exact bN (aQ (aQ (aZ Tryz.results38 rfl ⟨rfl, b4⟩)))
    ·exact aM a9 rfl (aX (bG (aA (aB (aC (aD a5) (aC (cI rfl rfl) (aC (aG (v := i64 (wr (a3 + 1))) rfl) (aF (aA ⟨wr (a3 + 1), (Option.some.inj a0).symm, a7, b1, rfl, b4⟩)))))))))
   ·refine aM a8 rfl (bY (aY (aY ?_)))
    have c8 := b0 _ (Option.some.inj a0).symm
    subst c8
    have hm : (wM) = some R := hm
    exact bO (aA ⟨hm, a2⟩)
theorem vW {a : dS} {b : dS} {R : Bool} (hs : aN G K (L) w) (h3 : bX K a1 c2 a.System.Labels) (h6 : bX K a4 c5 a.System.Edges) (h9 : bX K a7 c8 a.Verdicts) (h12 : bX K a10 c11 b.System.Labels) (h15 : bX K a13 c14 b.System.Edges) (h18 : bX K a16 c17 b.Verdicts) (hm : qS a b = some R) :
  Calls Tryz.prog 11 ([Value.agg #[i64 a.System.States, i64 a.System.Initial, Value.slice a1 a.System.Labels.length c2, Value.slice a4 a.System.Edges.length c5, Value.slice a7 a.Verdicts.length c8], Value.agg #[i64 b.System.States, i64 b.System.Initial, Value.slice a10 b.System.Labels.length c11, Value.slice a13 b.System.Edges.length c14, Value.slice a16 b.Verdicts.length c17]] : List Value).toArray w (fW fun v w' => v = Value.bool R ∧ aN G K (L) w') := by
 refine aU Tryz.func11 rfl (by kernel_rfl) (by show (2 : Nat) ≤ 17; decide) ?_
 unfold qS at hm
 refine aH (aB (dU (v := Value.agg #[i64 a.System.States, i64 a.System.Initial, Value.slice a1 a.System.Labels.length c2, Value.slice a4 a.System.Edges.length c5, Value.slice a7 a.Verdicts.length c8]) (vs := [i64 a.System.States, i64 a.System.Initial, Value.slice a1 a.System.Labels.length c2, Value.slice a4 a.System.Edges.length c5, Value.slice a7 a.Verdicts.length c8]) hs rfl rfl (fun b4 b5 a8 => (dU (v := Value.agg #[i64 b.System.States, i64 b.System.Initial, Value.slice a10 b.System.Labels.length c11, Value.slice a13 b.System.Edges.length c14, Value.slice a16 b.Verdicts.length c17]) (vs := [i64 b.System.States, i64 b.System.Initial, Value.slice a10 b.System.Labels.length c11, Value.slice a13 b.System.Edges.length c14, Value.slice a16 b.Verdicts.length c17]) a8 rfl rfl (fun b6 b7 a2 => (aC (aG (v := Value.bool false) rfl) (aF (aA (aH (aH (aB (aC (bI (t' := 0) aDn rfl rfl) (aC (dR (us := [i64 a.System.States, i64 a.System.Initial, Value.slice a1 a.System.Labels.length c2, Value.slice a4 a.System.Edges.length c5]) gT a2 (i := 1) rfl rfl rfl rfl) (aC (bI (t' := 0) aDn rfl rfl) (aC (dR (us := [i64 b.System.States, i64 b.System.Initial, Value.slice a10 b.System.Labels.length c11, Value.slice a13 b.System.Edges.length c14]) gT a2 (i := 0) rfl rfl rfl rfl) ?_)))))))))))))))
 obtain ⟨b8, a9, hm⟩ := aI hm
 refine aW (vs := [Value.agg #[i64 a.System.States, i64 a.System.Initial, Value.slice a1 a.System.Labels.length c2, Value.slice a4 a.System.Edges.length c5], Value.agg #[i64 b.System.States, i64 b.System.Initial, Value.slice a10 b.System.Labels.length c11, Value.slice a13 b.System.Edges.length c14]]) Tryz.call12 rfl (aDC a2 h3 h6 h12 h15 a9) ?_
 rintro _ b9 ⟨rfl, a0⟩
 refine aC (dN rfl) (aF (aA ?_))
 rcases aJ hm with ⟨a3, hm⟩ | ⟨a3, hm⟩
 ·refine aO a3 rfl (aH (aB (aC (aG (v := Value.bool false) rfl) (aF (aA ?_)))))
  have b0 := Option.some.inj hm
  subst b0
  exact bB (aQ (aZ Tryz.results11 rfl ⟨rfl, (aN.arr 2 [] a0 rfl)⟩))
 ·refine aM a3 rfl (aX (aA (aH (aH (aB (aC (bI (t' := 4) zT rfl rfl) (aC (cA aAu a0 (i := 1) rfl rfl rfl) (aC (bI (t' := 4) zT rfl rfl) (aC (cA aAu a0 (i := 0) rfl rfl rfl) ?_)))))))))
  obtain ⟨c0, b1, hm⟩ := aI hm
  refine aW (vs := [Value.slice a7 a.Verdicts.length c8, Value.slice a16 b.Verdicts.length c17]) Tryz.call38 rfl (aEO a0 h9 h18 b1) ?_
  rintro _ c1 ⟨rfl, a6⟩
  refine aC (dN rfl) (aF (aA ?_))
  rcases aJ hm with ⟨a5, hm⟩ | ⟨a5, hm⟩
  ·refine aO a5 rfl (aH (aB (aC (aG (v := Value.bool false) rfl) (aF (aA ?_)))))
   have b2 := Option.some.inj hm
   subst b2
   exact bB (aQ (aZ Tryz.results11 rfl ⟨rfl, (aN.arr 2 [] a6 rfl)⟩))
  ·refine aM a5 rfl (aX (aA (aH (aB (aC (aG (v := Value.bool true) rfl) (aF (aA ?_)))))))
   have b3 := Option.some.inj hm
   subst b3
   exact bB (aZ Tryz.results11 rfl ⟨rfl, (aN.arr 2 [] a6 rfl)⟩)
theorem aBv {k : Int} {R : bF} (hs : aN G K (L) w)  (hm : qT k = some R) :
  Calls Tryz.prog 41 ([i64 k] : List Value).toArray w (fW fun v w' => v = cF R ∧ aN G K (L) w') := by
 refine aU Tryz.func41 rfl (by kernel_rfl) (by show (1 : Nat) ≤ 20; decide) ?_
 unfold qT at hm
 refine aH (aB (aC (aG (v := cF ([] : bF)) rfl) (aF (aA (aH (aH (aB (aC (aD (v := i64 k) rfl) (aC (aDf rfl rfl) (aF (aA ?_)))))))))))
 rcases aJ hm with ⟨c1, hm⟩ | ⟨c1, hm⟩
 ·refine aO c1 rfl (aH (aB (aC (aG (v := cF ([109, 48] : bF)) rfl) (aF (aA ?_)))))
  have b3 := Option.some.inj hm
  subst b3
  exact bB (aQ (aZ Tryz.results41 rfl ⟨rfl, hs⟩))
 ·refine aM c1 rfl (aX (aA (aH (aB (aC (aG (v := cF ([] : bF)) rfl) (aF (aA (aH (bC (fun f w => ∃ (a4 : bF), sO a4 = some R ∧ f 3 = cF a4 ∧ aN G K (L) w) ?_ ?_)))))))))
  ·rintro f w5 ⟨a4, hm, e4, b5⟩
   unfold sO at hm
   refine aA (aH (aB (aC (aD e4) ?_)))
   obtain ⟨s7, q8, hm⟩ := aI hm
   refine aC (aEU rfl rfl q8) (aC (aG (v := cF s7) rfl) (aF (aA ?_)))
   have b8 := Option.some.inj hm
   subst b8
   exact bB (aZ Tryz.results41 rfl ⟨rfl, b5⟩)
  obtain ⟨c9, b9, hm⟩ := aI hm
  refine cD b9 (fun (s : (Int × bF)) f w => match s with | (a5, a1) => f 0 = i64 a5 ∧ f 3 = cF a1 ∧ aN G K (L) w) ?_ ?_
  ·exact ⟨rfl, rfl, hs⟩
  ·rintro ⟨a5, a1⟩ c0 f d0 a0 hr33 ⟨a6, a8, a9⟩
   replace a0 : sP a5 a1 = some c0 := a0
   unfold sP at a0
   refine aH (aH (aB (aC (aD a6) (aC (oH rfl rfl) (aF (aA ?_))))))
   rcases aJ a0 with ⟨a7, a0⟩ | ⟨a7, a0⟩
   ·refine aO a7 rfl (aX (aA (cK (aH (aB (aC (aD a6) ?_))))))
    obtain ⟨a2, c2, a0⟩ := aI a0
    refine aC (R_rem rfl rfl c2) (aC (cI rfl rfl) (aC (R_convu8' Tryz.runUnderlying5 rfl ⟨_, Tryz.runUnderlying3⟩) (eN (Kt := K) (xs := ([(UInt8.ofInt (wr (48 + a2)))] : List UInt8)) (cs := [Value.int .u8 ((UInt8.ofInt (wr (48 + a2))).toNat : Int)]) (vs := [(0, Value.int .u8 ((UInt8.ofInt (wr (48 + a2))).toNat : Int))]) sl_122 ez_5 rfl rfl a9 rfl (by kernel_rfl) rfl rfl rfl ⟨rfl, trivial⟩ ?_)))
    intro c3 c4 (b0 : aN G K (aT 5 K c3 1 ([(UInt8.ofInt (wr (48 + a2)))] : List UInt8) :: L) c4)
    refine aC (R_convBSO Tryz.underlying122 Tryz.underlying5 Tryz.underlying9 b0 (i := 0) rfl rfl rfl) (aC (aD a8) ?_)
    obtain ⟨b1, c5, a0⟩ := aI a0
    refine aC (aEU rfl rfl c5) (aC (aG (v := cF b1) rfl) (aF (aA (aB (aC (aD a6) ?_)))))
    obtain ⟨b2, c6, a0⟩ := aI a0
    exact aC (R_quo rfl rfl c6) (aC (aG (v := i64 b2) rfl) (aF (bG (aA ⟨(b2, b1), (Option.some.inj a0).symm, rfl, rfl, (aN.arr 1 [] b0 rfl)⟩))))
   ·refine aM a7 rfl (bY (aY (aY ?_)))
    have c7 := hr33 _ (Option.some.inj a0).symm
    subst c7
    have hm : (sO a1) = some R := hm
    exact bO (aA ⟨a1, hm, a8, a9⟩)
end Gv
