/- Walks, printed by program. -/
import Derived.Test.YtnpdckpkipjngaaGreatDoorRWk3
import Derived.Test.YtnpdckpkipjngaaGreatDoorRWk4
import Derived.Test.YtnpdckpkipjngaaGreatDoorRWk5
set_option linter.all false
namespace Gv
open Go Go.Proofs
set_option maxRecDepth 20000
set_option maxHeartbeats 1000000
variable {G : Env} {K Kf : Hp} {L : List nV} {w : World} {a1 a4 a7 a10 a13 a16 a19 a22 a25 a2 a5 a6 a9 a11 a14 a17 a20 a23 a26 a29 a32 a35 : Option Addr} {c2 c5 c8 c11 c17 c20 c23 c26 b1 c3 c6 b4 b5 c7 c10 c18 c21 c27 c30 c33 c36 : Nat}
theorem zM {o : cO} {begin : Bool} {change_c0_ : cO} {k14 : Nat} {R : (List (List Bool))} (hs : aN G K (L) w) (h3 : bX K a1 c2 o.t.Labels) (h6 : bX K a4 c5 o.t.Edges) (h9 : bX K a7 c8 o.p.Labels) (h12 : bX K a10 c11 o.p.Edges) (h15 : fN K a13 k14 [i64 change_c0_.t.States, i64 change_c0_.t.Initial, Value.slice a16 change_c0_.t.Labels.length c17, Value.slice a19 change_c0_.t.Edges.length c20, i64 change_c0_.p.States, i64 change_c0_.p.Initial, Value.slice a22 change_c0_.p.Labels.length c23, Value.slice a25 change_c0_.p.Edges.length c26]) (h18 : bX K a16 c17 change_c0_.t.Labels) (h21 : bX K a19 c20 change_c0_.t.Edges) (h24 : bX K a22 c23 change_c0_.p.Labels) (h27 : bX K a25 c26 change_c0_.p.Edges) (hm : mB o begin change_c0_ = some R) :
  Calls Tryz.prog 220 ([Value.agg #[i64 o.t.States, i64 o.t.Initial, Value.slice a1 o.t.Labels.length c2, Value.slice a4 o.t.Edges.length c5, i64 o.p.States, i64 o.p.Initial, Value.slice a7 o.p.Labels.length c8, Value.slice a10 o.p.Edges.length c11], Value.bool begin, Value.func (.func 224) #[] #[bZ a13 k14]] : List Value).toArray w (fW fun v w' => ∃ (ra0 : Option Addr) (rc0 : Nat) (rh1 : List (Dp.Hd (List Bool))), v = Value.slice ra0 R.length rc0 ∧ List.length rh1 = List.length R ∧ aN G K (aT 87 K ra0 rc0 (bT rh1 R) :: rows [4] rh1 R :: L) w') := by
 refine aU Tryz.func220 rfl (by kernel_rfl) (by show (3 : Nat) ≤ 74; decide) ?_
 unfold mB at hm
 refine aH (aB (dU (v := Value.agg #[i64 o.t.States, i64 o.t.Initial, Value.slice a1 o.t.Labels.length c2, Value.slice a4 o.t.Edges.length c5, i64 o.p.States, i64 o.p.Initial, Value.slice a7 o.p.Labels.length c8, Value.slice a10 o.p.Edges.length c11]) (vs := [i64 o.t.States, i64 o.t.Initial, Value.slice a1 o.t.Labels.length c2, Value.slice a4 o.t.Edges.length c5, i64 o.p.States, i64 o.p.Initial, Value.slice a7 o.p.Labels.length c8, Value.slice a10 o.p.Edges.length c11]) hs rfl rfl (fun c3 y9 k9 => (aC (aG (v := Value.slice none 0 0) rfl) (aF (aA (aH (aB (aC (bI (t' := 0) oJ rfl rfl) (aC (bI (t' := 0) fX rfl rfl) (aC (cA cM k9 (i := 0) rfl rfl rfl) ?_)))))))))))
 obtain ⟨a0, l0, hm⟩ := aI hm
 refine WO_mkD (tys := [4]) (hd := ((none, 0) : Dp.Hd (List Bool))) qD ez_87 rfl rfl k9 rfl rfl rfl l0 rfl (pcs_nil _) ?_
 intro a2 n9 (o0 : aN G K (aT 87 K a2 a0.length (bT (List.replicate o.t.States.toNat ((none, 0) : Dp.Hd (List Bool))) a0) :: rows [4] (List.replicate o.t.States.toNat ((none, 0) : Dp.Hd (List Bool))) a0 :: box c3 119 [i64 o.t.States, i64 o.t.Initial, Value.slice a1 o.t.Labels.length c2, Value.slice a4 o.t.Edges.length c5, i64 o.p.States, i64 o.p.Initial, Value.slice a7 o.p.Labels.length c8, Value.slice a10 o.p.Edges.length c11] :: L) n9)
 refine cG (vs := [Value.slice none 0 0]) Tryz.zeroValue157 o0 rfl (fun a3 z0 o1 => (cC (i := 0) (ns := [Value.slice a2 a0.length a0.length]) (us := [Value.slice a2 a0.length a0.length]) Tryz.sizeOf157 o1 rfl rfl rfl rfl rfl (dT rfl) rfl rfl ?_))
 intro o2 (l1 : aN G K (box a3 157 [Value.slice a2 a0.length a0.length] :: aT 87 K a2 a0.length (bT (List.replicate o.t.States.toNat ((none, 0) : Dp.Hd (List Bool))) a0) :: rows [4] (List.replicate o.t.States.toNat ((none, 0) : Dp.Hd (List Bool))) a0 :: box c3 119 [i64 o.t.States, i64 o.t.Initial, Value.slice a1 o.t.Labels.length c2, Value.slice a4 o.t.Edges.length c5, i64 o.p.States, i64 o.p.Initial, Value.slice a7 o.p.Labels.length c8, Value.slice a10 o.p.Edges.length c11] :: L) o2)
 refine aF (aA (aH (aH (aB (aC (cA qE l1 (i := 0) rfl rfl rfl) (aC (bU (len := a0.length) qD rfl) (aC (aD (v := i64 0) rfl) (aF (aA (bC (fun f w => ∃ (d7 : List (List Bool)) (e2 : List (Dp.Hd (List Bool))), gZ begin change_c0_ d7 = some R ∧ f 1 = Value.bool begin ∧ f 2 = Value.func (.func 224) #[] #[bZ a13 k14] ∧ f 7 = Value.pointer (some ⟨a3, 0, none⟩) ∧ List.length e2 = List.length d7 ∧ aN G K (box a3 157 [Value.slice a2 d7.length a0.length] :: aT 87 K a2 a0.length (bT e2 d7) :: rows [4] e2 d7 :: L) w) ?_ ?_))))))))))
 ·rintro f z1 ⟨d7, e2, hm, o3, o4, l2, o5, o6⟩
  unfold gZ at hm
  refine aA (aH (aB (aC (kU (vs := [Value.pointer (some ⟨a3, 0, none⟩)]) (lst1 l2)) (aC (aG (v := Value.func (.func 249) #[] #[Value.pointer (some ⟨a3, 0, none⟩)]) rfl) (aF (aA (aH (aH (aB (aC (aG (v := Value.bool true) rfl) (aF (aA (bC (fun f w => ∃ (d0 : List (List Bool)) (e3 : List (Dp.Hd (List Bool))), iM d0 = some R ∧ f 7 = Value.pointer (some ⟨a3, 0, none⟩) ∧ List.length e3 = List.length d0 ∧ aN G K (box a3 157 [Value.slice a2 d0.length a0.length] :: aT 87 K a2 a0.length (bT e3 d0) :: rows [4] e3 d0 :: L) w) ?_ ?_)))))))))))))
  ·rintro f z2 ⟨d0, e3, hm, o7, o8, l3⟩
   unfold iM at hm
   refine aA (aH (aB (aC (cA qE l3 (i := 0) rfl o7 rfl) (aC (aG (v := Value.slice a2 d0.length a0.length) rfl) (aF (aA ?_))))))
   have o9 := Option.some.inj hm
   subst o9
   exact bB (aZ Tryz.results220 rfl ⟨a2, a0.length, e3, rfl, o8, (aN.arr 1 [] l3 rfl)⟩)
  obtain ⟨z3, p0, hm⟩ := aI hm
  refine cD p0 (fun (s : (List (List Bool) × Bool)) f w => match s with | (b1, h5) => ∃ (d8 : List (Dp.Hd (List Bool))), f 1 = Value.bool begin ∧ f 2 = Value.func (.func 224) #[] #[bZ a13 k14] ∧ f 7 = Value.pointer (some ⟨a3, 0, none⟩) ∧ f 9 = Value.func (.func 249) #[] #[Value.pointer (some ⟨a3, 0, none⟩)] ∧ f 10 = Value.bool h5 ∧ List.length d8 = List.length b1 ∧ aN G K (box a3 157 [Value.slice a2 b1.length a0.length] :: aT 87 K a2 a0.length (bT d8 b1) :: rows [4] d8 b1 :: L) w) ?_ ?_
  ·exact ⟨e2, o3, o4, l2, rfl, rfl, o5, o6⟩
  ·rintro ⟨b1, h5⟩ f9 f z4 a9 p1 ⟨d8, p2, p3, h7, p4, p5, l4, h8⟩
   replace a9 : gY begin change_c0_ b1 h5 = some f9 := a9
   unfold gY at a9
   refine aH (aH (aB (aC (aD p5) (aF (aA ?_)))))
   rcases aJ a9 with ⟨i0, a9⟩ | ⟨i0, a9⟩
   ·refine aO i0 rfl (aX (aA (bC (fun f w => ∃ (d1 : List (List Bool)) (g0 : Bool) (e4 : List (Dp.Hd (List Bool))), nH d1 g0 = some f9 ∧ f 1 = Value.bool begin ∧ f 2 = Value.func (.func 224) #[] #[bZ a13 k14] ∧ f 7 = Value.pointer (some ⟨a3, 0, none⟩) ∧ f 9 = Value.func (.func 249) #[] #[Value.pointer (some ⟨a3, 0, none⟩)] ∧ f 10 = Value.bool g0 ∧ List.length e4 = List.length d1 ∧ aN G K (box a3 157 [Value.slice a2 d1.length a0.length] :: aT 87 K a2 a0.length (bT e4 d1) :: rows [4] e4 d1 :: L) w) ?_ ?_)))
    ·rintro f z5 ⟨d1, g0, e4, a9, p6, p7, p8, p9, q0, q1, q2⟩
     unfold nH at a9
     exact aA ⟨(d1, g0), (Option.some.inj a9).symm, e4, p6, p7, p8, p9, q0, q1, q2⟩
    refine aH (aB (aC (aG (v := Value.bool false) rfl) (aF (aA (aH (aB (aC (cA qE h8 (i := 0) rfl h7 rfl) (aC (bU (len := b1.length) qD rfl) (aC (aD (v := i64 0) rfl) (aF (aA (bC (fun f w => ∃ (d2 : List (List Bool)) (g1 : Bool) (e5 : List (Dp.Hd (List Bool))), jW d2 g1 = some f9 ∧ f 1 = Value.bool begin ∧ f 2 = Value.func (.func 224) #[] #[bZ a13 k14] ∧ f 7 = Value.pointer (some ⟨a3, 0, none⟩) ∧ f 9 = Value.func (.func 249) #[] #[Value.pointer (some ⟨a3, 0, none⟩)] ∧ f 10 = Value.bool g1 ∧ List.length e5 = List.length d2 ∧ aN G K (box a3 157 [Value.slice a2 d2.length a0.length] :: aT 87 K a2 a0.length (bT e5 d2) :: rows [4] e5 d2 :: L) w) ?_ ?_))))))))))))
    ·rintro f z6 ⟨d2, g1, e5, a9, q3, q4, q5, q6, q7, q8, q9⟩
     unfold jW at a9
     exact bG (aA ⟨d2, g1, e5, a9, q3, q4, q5, q6, q7, q8, q9⟩)
    obtain ⟨z7, r0, a9⟩ := aI a9
    refine cD r0 (fun (s : (List (List Bool) × Bool × Int)) f w => match s with | (c4, e6, a6) => ∃ (d9 : List (Dp.Hd (List Bool))), f 1 = Value.bool begin ∧ f 2 = Value.func (.func 224) #[] #[bZ a13 k14] ∧ f 7 = Value.pointer (some ⟨a3, 0, none⟩) ∧ f 9 = Value.func (.func 249) #[] #[Value.pointer (some ⟨a3, 0, none⟩)] ∧ f 10 = Value.bool e6 ∧ f 35 = i64 (b1.length : Int) ∧ f 36 = i64 a6 ∧ List.length d9 = List.length c4 ∧ aN G K (box a3 157 [Value.slice a2 c4.length a0.length] :: aT 87 K a2 a0.length (bT d9 c4) :: rows [4] d9 c4 :: L) w) ?_ ?_
    ·exact ⟨d8, p2, p3, h7, p4, rfl, rfl, rfl, l4, h8⟩
    ·rintro ⟨c4, e6, a6⟩ g2 f z8 a8 r1 ⟨d9, l5, l6, i1, l7, l8, l9, i2, e7, e8⟩
     replace a8 : gF begin change_c0_ b1 c4 e6 a6 = some g2 := a8
     unfold gF at a8
     refine aH (aB (aC (cE i2 l9) (aF (aA (aH ?_)))))
     rcases aJ a8 with ⟨i3, a8⟩ | ⟨i3, a8⟩
     ·refine aO i3 rfl (aX (aA (aH (bC (fun f w => ∃ (d3 : List (List Bool)) (g3 : Bool) (e9 : List (Dp.Hd (List Bool))), nI a6 d3 g3 = some g2 ∧ f 1 = Value.bool begin ∧ f 2 = Value.func (.func 224) #[] #[bZ a13 k14] ∧ f 7 = Value.pointer (some ⟨a3, 0, none⟩) ∧ f 9 = Value.func (.func 249) #[] #[Value.pointer (some ⟨a3, 0, none⟩)] ∧ f 10 = Value.bool g3 ∧ f 35 = i64 (b1.length : Int) ∧ f 36 = i64 a6 ∧ List.length e9 = List.length d3 ∧ aN G K (box a3 157 [Value.slice a2 d3.length a0.length] :: aT 87 K a2 a0.length (bT e9 d3) :: rows [4] e9 d3 :: L) w) ?_ ?_))))
      ·rintro f z9 ⟨d3, g3, e9, a8, r2, r3, r4, r5, r6, r7, r8, r9, s0⟩
       unfold nI at a8
       exact aA (aB (aC (cI r8 rfl) (aC (aD (v := i64 (wr (a6 + 1))) rfl) (aF (aA ⟨(d3, g3, wr (a6 + 1)), (Option.some.inj a8).symm, e9, r2, r3, r4, r5, r6, r7, rfl, r9, s0⟩)))))
      refine aH (aB (aC (aD i2) (aC (aG (v := i64 a6) rfl) (aF (aA (aH (aB (aC (cA qE e8 (i := 0) rfl i1 rfl) (aC (aD (v := i64 a6) rfl) ?_)))))))))
      obtain ⟨f0, g4, a8⟩ := aI a8
      obtain ⟨⟨a00, a01⟩, m0⟩ := aAh e7 g4
      have i4 := dL e8 (i := 1) rfl (lU e7 g4 m0)
      refine aC (eT qD rfl i4 rfl rfl rfl g4) (aC (kD (t := 0) aDo e8 (i := 1) rfl (lU e7 g4 m0) rfl rfl rfl) (aC (bU (len := f0.length) iV rfl) (aC (aD (v := i64 0) rfl) (aF (aA (bC (fun f w => ∃ (d4 : List (List Bool)) (g5 : Bool) (f1 : List (Dp.Hd (List Bool))), jX a6 d4 g5 = some g2 ∧ f 1 = Value.bool begin ∧ f 2 = Value.func (.func 224) #[] #[bZ a13 k14] ∧ f 7 = Value.pointer (some ⟨a3, 0, none⟩) ∧ f 9 = Value.func (.func 249) #[] #[Value.pointer (some ⟨a3, 0, none⟩)] ∧ f 10 = Value.bool g5 ∧ f 35 = i64 (b1.length : Int) ∧ f 36 = i64 a6 ∧ List.length f1 = List.length d4 ∧ aN G K (box a3 157 [Value.slice a2 d4.length a0.length] :: aT 87 K a2 a0.length (bT f1 d4) :: rows [4] f1 d4 :: L) w) ?_ ?_))))))
      ·rintro f a02 ⟨d4, g5, f1, a8, s1, s2, s3, s4, s5, s6, s7, s8, s9⟩
       unfold jX at a8
       exact bG (aA ⟨d4, g5, f1, a8, s1, s2, s3, s4, s5, s6, s7, s8, s9⟩)
      obtain ⟨a03, t0, a8⟩ := aI a8
      refine cD t0 (fun (s : (List (List Bool) × Bool × Int)) f w => match s with | (b4, c6, b2) => ∃ (b3 : List (Dp.Hd (List Bool))), f 1 = Value.bool begin ∧ f 2 = Value.func (.func 224) #[] #[bZ a13 k14] ∧ f 7 = Value.pointer (some ⟨a3, 0, none⟩) ∧ f 9 = Value.func (.func 249) #[] #[Value.pointer (some ⟨a3, 0, none⟩)] ∧ f 10 = Value.bool c6 ∧ f 11 = i64 a6 ∧ f 35 = i64 (b1.length : Int) ∧ f 36 = i64 a6 ∧ f 43 = i64 (f0.length : Int) ∧ f 44 = i64 b2 ∧ List.length b3 = List.length b4 ∧ aN G K (box a3 157 [Value.slice a2 b4.length a0.length] :: aT 87 K a2 a0.length (bT b3 b4) :: rows [4] b3 b4 :: L) w) ?_ ?_
      ·exact ⟨d9, l5, l6, i1, l7, l8, rfl, l9, i2, rfl, rfl, e7, e8⟩
      ·rintro ⟨b4, c6, b2⟩ i5 f a04 a5 t1 ⟨b3, g6, g7, g8, g9, i6, h0, i7, i8, i9, h1, c1, d5⟩
       replace a5 : gE begin change_c0_ a6 f0 b4 c6 b2 = some i5 := a5
       unfold gE at a5
       refine aH (aB (aC (cE h1 i9) (aF (aA (aH ?_)))))
       rcases aJ a5 with ⟨j0, a5⟩ | ⟨j0, a5⟩
       ·refine aO j0 rfl (aX (aA (aH (bC (fun f w => ∃ (d6 : List (List Bool)) (h2 : Bool) (f2 : List (Dp.Hd (List Bool))), iN b2 d6 h2 = some i5 ∧ f 1 = Value.bool begin ∧ f 2 = Value.func (.func 224) #[] #[bZ a13 k14] ∧ f 7 = Value.pointer (some ⟨a3, 0, none⟩) ∧ f 9 = Value.func (.func 249) #[] #[Value.pointer (some ⟨a3, 0, none⟩)] ∧ f 10 = Value.bool h2 ∧ f 11 = i64 a6 ∧ f 35 = i64 (b1.length : Int) ∧ f 36 = i64 a6 ∧ f 43 = i64 (f0.length : Int) ∧ f 44 = i64 b2 ∧ List.length f2 = List.length d6 ∧ aN G K (box a3 157 [Value.slice a2 d6.length a0.length] :: aT 87 K a2 a0.length (bT f2 d6) :: rows [4] f2 d6 :: L) w) ?_ ?_))))
        ·rintro f a05 ⟨d6, h2, f2, a5, t2, t3, t4, t5, t6, t7, t8, t9, u0, u1, u2, u3⟩
         unfold iN at a5
         exact aA (aB (aC (cI u1 rfl) (aC (aD (v := i64 (wr (b2 + 1))) rfl) (aF (aA ⟨(d6, h2, wr (b2 + 1)), (Option.some.inj a5).symm, f2, t2, t3, t4, t5, t6, t7, t8, t9, u0, rfl, u2, u3⟩)))))
        refine aH (aB (aC (aD h1) (aC (aG (v := i64 b2) rfl) (aF (aA (aH (cH (fun f w => ∃ (j1 : Bool), iO begin a6 b4 c6 b2 j1 = some i5 ∧ f 1 = Value.bool begin ∧ f 2 = Value.func (.func 224) #[] #[bZ a13 k14] ∧ f 7 = Value.pointer (some ⟨a3, 0, none⟩) ∧ f 9 = Value.func (.func 249) #[] #[Value.pointer (some ⟨a3, 0, none⟩)] ∧ f 10 = Value.bool c6 ∧ f 11 = i64 a6 ∧ f 12 = i64 b2 ∧ f 35 = i64 (b1.length : Int) ∧ f 36 = i64 a6 ∧ f 43 = i64 (f0.length : Int) ∧ f 44 = i64 b2 ∧ f 62 = Value.bool j1 ∧ aN G K (box a3 157 [Value.slice a2 b4.length a0.length] :: aT 87 K a2 a0.length (bT b3 b4) :: rows [4] b3 b4 :: L) w) ?_ ?_)))))))
        ·rintro f a06 ⟨j1, a5, j2, m1, j3, m2, u4, j4, u5, m3, m4, m5, m6, m7, f3⟩
         unfold iO at a5
         refine aA ?_
         rcases aJ a5 with ⟨j5, a5⟩ | ⟨j5, a5⟩
         ·refine aO j5 m7 (aH (aB (aC (cA qE f3 (i := 0) rfl j3 rfl) (aC (aD j4) ?_))))
          obtain ⟨a07, f4, a5⟩ := aI a5
          refine aC (eT qD rfl i4 rfl rfl rfl f4) ?_
          obtain ⟨⟨a08, a09⟩, j6⟩ := aAh c1 f4
          refine aC (kD (t := 0) aDo f3 (i := 1) rfl (lU c1 f4 j6) rfl rfl rfl) (aC (aD u5) (aC (aD j2) (aC (dN rfl) ?_)))
          obtain ⟨a11, j7, a5⟩ := aI a5
          have u6 := dL (aN.rowOut (i := 2) f3 rfl j6 (aDk f4)) (i := 0) rfl j7
          refine aC (eT iV rfl u6 rfl rfl rfl j7) ?_
          obtain ⟨a12, u7, a5⟩ := aI a5
          obtain ⟨c7, j8, a5⟩ := aI a5
          refine WO_stR (i := 1) (t := 0) (ns := [Value.bool (!begin)]) (e' := (!begin : Bool)) Tryz.sizeOf4 f3 c1 rfl rfl j6 f4 rfl rfl rfl j7 u7 j8 rfl rfl (dT rfl) rfl rfl (fun j9 (u8 : aN G K (aT 87 K a2 a0.length (bT b3 c7) :: rows [4] b3 c7 :: box a3 157 [Value.slice a2 b4.length a0.length] :: L) j9) => ?_)
          have u9 : aN G K (aT 87 K a2 a0.length (bT b3 c7) :: rows [4] b3 c7 :: box a3 157 [Value.slice a2 c7.length a0.length] :: L) j9 := Eq.mp (congrArg (fun n => aN G K (aT 87 K a2 a0.length (bT b3 c7) :: rows [4] b3 c7 :: box a3 157 [Value.slice a2 n a0.length] :: L) j9) (gQ j8)) u8
          exact aF (aA (aB (aC (aG (v := Value.bool true) rfl) (aF (bG (aA ⟨c7, true, b3, a5, j2, m1, j3, m2, rfl, j4, m3, m4, m5, m6, (c1.trans (gQ j8)), (aN.arr 3 [2, 0, 1] u9 rfl)⟩))))))
         ·exact aM j5 m7 (aX (bG (aA ⟨b4, c6, b3, a5, j2, m1, j3, m2, u4, j4, m3, m4, m5, m6, c1, f3⟩)))
        refine aB (aC (cA qE d5 (i := 0) rfl g8 rfl) (aC (aD h0) ?_))
        obtain ⟨a14, f5, a5⟩ := aI a5
        refine aC (eT qD rfl i4 rfl rfl rfl f5) ?_
        obtain ⟨⟨a15, a17⟩, k0⟩ := aAh c1 f5
        refine aC (kD (t := 0) aDo d5 (i := 1) rfl (lU c1 f5 k0) rfl rfl rfl) (aC (aD (v := i64 b2) rfl) ?_)
        obtain ⟨v0, k1, a5⟩ := aI a5
        have v1 := dL (aN.rowOut (i := 2) d5 rfl k0 (aDk f5)) (i := 0) rfl k1
        refine aC (eT iV rfl v1 rfl rfl rfl k1) (aC (kD (t := 0) aBA (aN.rowOut (i := 2) d5 rfl k0 (aDk f5)) (i := 0) rfl k1 rfl rfl rfl) (aC (aD g6) (aC (R_eqlB Tryz.runUnderlying4 rfl rfl) (aC (aD (v := Value.bool (v0 == begin)) rfl) ?_))))
        rcases aJ a5 with ⟨b8, a5⟩ | ⟨b8, a5⟩
        ·refine bH (g := 56) b8 (by kernel_rfl) rfl (aC (aD g7) (bH (g := 56) b8 (by kernel_rfl) rfl (aC (aD h0) (bH (g := 56) b8 (by kernel_rfl) rfl (aC (aD (v := i64 b2) rfl) (bH (g := 56) b8 (by kernel_rfl) rfl (aC (aD g9) (bH (g := 56) b8 (by kernel_rfl) rfl ?_))))))))
         obtain ⟨a18, f6, v2, a20, v3, v4⟩ := aN.lendD' (i := 1) d5 c1 rfl rfl
         obtain ⟨a21, e0, v5, v6, v7⟩ := aN.lendB (i := 0) v3 rfl
         obtain ⟨m8, v8, a5⟩ := aI a5
         refine kE (vs := [i64 a6, i64 b2, Value.func (.func 249) #[] #[bZ (some ⟨a3, 0, none⟩) 0]]) (caps := [bZ a13 k14]) (us := [i64 a6, i64 b2, Value.func (.func 249) #[] #[bZ (some ⟨a3, 0, none⟩) 0], bZ a13 k14]) rfl Tryz.call224 rfl rfl (aAI v6 v5 (v2.mono e0) (h15.mono (Hp.le_trans f6 e0)) (h18.mono (Hp.le_trans f6 e0)) (h21.mono (Hp.le_trans f6 e0)) (h24.mono (Hp.le_trans f6 e0)) (h27.mono (Hp.le_trans f6 e0)) v8) ?_
         rintro _ a23 ⟨rfl, v9⟩
         have w0 := v7 _ _ v9
         have w1 := v4 _ _ w0
         exact aC (bK (v := Value.bool m8) b8 rfl rfl) (aF (aA ⟨m8, a5, g6, g7, g8, g9, i6, h0, rfl, i7, i8, i9, h1, rfl, (aN.arr 3 [2, 0, 1] w1 rfl)⟩))
        ·exact bA (g := 56) b8 (by kernel_rfl) rfl (bA (g := 56) b8 (by kernel_rfl) rfl (bA (g := 56) b8 (by kernel_rfl) rfl (bA (g := 56) b8 (by kernel_rfl) rfl (bA (g := 56) b8 (by kernel_rfl) rfl (aC (bM (v := Value.bool false) b8 rfl rfl) (aF (aA ⟨false, a5, g6, g7, g8, g9, i6, h0, rfl, i7, i8, i9, h1, rfl, d5⟩)))))))
       ·refine aM j0 rfl (bY (aY (aY ?_)))
        have w2 := t1 _ (Option.some.inj a5).symm
        subst w2
        have a8 : (jX a6 b4 c6) = some g2 := a8
        exact bO (aA ⟨b4, c6, b3, a8, g6, g7, g8, g9, i6, i7, i8, c1, d5⟩)
     ·refine aM i3 rfl (bY (aY (aY ?_)))
      have w3 := r1 _ (Option.some.inj a8).symm
      subst w3
      have a9 : (jW c4 e6) = some f9 := a9
      exact bO (aA ⟨c4, e6, d9, a9, l5, l6, i1, l7, l8, e7, e8⟩)
   ·refine aM i0 rfl (bY (aY (aY ?_)))
    have w4 := p1 _ (Option.some.inj a9).symm
    subst w4
    have hm : (iM b1) = some R := hm
    exact bO (aA ⟨b1, d8, hm, h7, l4, h8⟩)
 obtain ⟨a24, w5, hm⟩ := aI hm
 refine cD w5 (fun (s : (List (List Bool) × Int)) f w => match s with | (b5, b6) => ∃ (b0 : List (Dp.Hd (List Bool))), f 1 = Value.bool begin ∧ f 2 = Value.func (.func 224) #[] #[bZ a13 k14] ∧ f 3 = Value.pointer (some ⟨c3, 0, none⟩) ∧ f 7 = Value.pointer (some ⟨a3, 0, none⟩) ∧ f 18 = i64 (a0.length : Int) ∧ f 19 = i64 b6 ∧ List.length b0 = List.length b5 ∧ aN G K (box a3 157 [Value.slice a2 b5.length a0.length] :: aT 87 K a2 a0.length (bT b0 b5) :: rows [4] b0 b5 :: box c3 119 [i64 o.t.States, i64 o.t.Initial, Value.slice a1 o.t.Labels.length c2, Value.slice a4 o.t.Edges.length c5, i64 o.p.States, i64 o.p.Initial, Value.slice a7 o.p.Labels.length c8, Value.slice a10 o.p.Edges.length c11] :: L) w) ?_ ?_
 ·exact ⟨(List.replicate o.t.States.toNat ((none, 0) : Dp.Hd (List Bool))), rfl, rfl, rfl, rfl, rfl, rfl, (aDR (hd := ((none, 0) : Dp.Hd (List Bool))) l0).2.1, l1⟩
 ·rintro ⟨b5, b6⟩ w6 f a26 b7 w7 ⟨b0, k2, m9, n0, k3, n1, k4, f7, n2⟩
  replace b7 : fT o begin a0 b5 b6 = some w6 := b7
  unfold fT at b7
  refine aH (aB (aC (cE k4 n1) (aF (aA (aH ?_)))))
  rcases aJ b7 with ⟨k5, b7⟩ | ⟨k5, b7⟩
  ·refine aO k5 rfl (aX (aA (aH (cK (aH (aB (aC (aD k4) (aC (aG (v := i64 b6) rfl) (aF (aA ?_))))))))))
   obtain ⟨a27, w8, w9, x0, x1⟩ := aN.lendB (i := 0) n2 rfl
   obtain ⟨n3, n4, x2, n5, x3⟩ := aN.lendB (i := 2) x0 rfl
   refine gV (C := fun w' => ∃ L', aN G n3 L' w') [(0, 0), (1, 0), (2, 0), (4, 0), (5, 0), (6, 0), (3, 1), (7, 1), (8, 0), (9, 2)] bR (by kernel_rfl) (fun _ hg => ⟨_, aN.mono n5 hg⟩) (fun a28 x4 => ?_)
   have f8 := aN.mono n5 x4
   refine cL rfl (fun _ ⟨_, f8⟩ => bL (t := 0) qE f8 (w9.mono n4) k3 rfl) (cL rfl (fun _ _ => aD (v := i64 b6) rfl) (cL rfl (fun _ _ => aD k2) (cL rfl (fun _ _ => bI (t' := 4) aAv n0 rfl) (cL rfl (fun _ _ => bI (t' := 4) fX rfl rfl) (cL rfl (fun _ ⟨_, f8⟩ => bL (t := 4) cM f8 x2 rfl rfl) (oB rfl (eN (Kt := K) (xs := ([begin] : List Bool)) (cs := [Value.bool begin]) (vs := [(0, Value.bool begin)]) iV ez_4 rfl rfl f8 rfl (by kernel_rfl) rfl rfl rfl ⟨rfl, trivial⟩ (fun e1 x5 (n6 : aN G n3 (aT 4 K e1 1 ([begin] : List Bool) :: aT 87 K a2 a0.length (bT b0 b5) :: rows [4] b0 b5 :: L) x5) => (aF (aA ⟨⟨_, n6⟩, ?_⟩))))))))))
   refine oB rfl ?_
   obtain ⟨a29, a30, x6, x7, x8⟩ := aN.lendS (i := 0) n6 (Hp.le_trans w8 n4) rfl
   obtain ⟨n7, x9, b7⟩ := aI b7
   refine aW (vs := [Value.slice e1 ([begin] : List Bool).length 1, i64 o.p.States]) Tryz.call57 rfl (lJ x7 x6 x9) ?_
   rintro _ y0 ⟨b9, c0, rfl, y1⟩
   have k6 := x8 _ _ y1
   refine aF (aA ⟨⟨_, k6⟩, ?_⟩)
   obtain ⟨a31, h4, b7⟩ := aI b7
   obtain ⟨⟨a32, a33⟩, n8⟩ := aAh f7 h4
   have y2 := dL k6 (i := 2) rfl (lU f7 h4 n8)
   refine cL rfl (fun _ _ => eT qD rfl y2 rfl rfl rfl h4) ?_
   have y3 := x3 _ _ k6
   have y4 := x1 _ _ y3
   refine WE_s rfl ?_
   have y5 : aN G K (aT 4 K b9 c0 n7 :: box a3 157 [Value.slice a2 b5.length a0.length] :: box c3 119 [i64 o.t.States, i64 o.t.Initial, Value.slice a1 o.t.Labels.length c2, Value.slice a4 o.t.Edges.length c5, i64 o.p.States, i64 o.p.Initial, Value.slice a7 o.p.Labels.length c8, Value.slice a10 o.p.Edges.length c11] :: aT 4 K e1 1 ([begin] : List Bool) :: aT 87 K a2 a0.length (bT b0 b5) :: rows [4] b0 b5 :: L) y0 := (aN.arr 4 [3, 0, 1, 2] y4 rfl)
   obtain ⟨c9, k7, b7⟩ := aI b7
   refine WO_stD (i := 3) (tys := [4]) (hd' := (b9, c0)) (e' := n7) (hds := b0) Tryz.sizeOf87 y5 f7 rfl rfl rfl rfl rfl h4 n8 k7 rfl ?_
   intro k8 (y6 : aN G K (aT 87 K a2 a0.length (bT (List.set b0 b6.toNat (b9, c0)) c9) :: rows [4] (List.set b0 b6.toNat (b9, c0)) c9 :: box a3 157 [Value.slice a2 b5.length a0.length] :: box c3 119 [i64 o.t.States, i64 o.t.Initial, Value.slice a1 o.t.Labels.length c2, Value.slice a4 o.t.Edges.length c5, i64 o.p.States, i64 o.p.Initial, Value.slice a7 o.p.Labels.length c8, Value.slice a10 o.p.Edges.length c11] :: aT 4 K e1 1 ([begin] : List Bool) :: L) k8)
   have y7 : aN G K (aT 87 K a2 a0.length (bT (List.set b0 b6.toNat (b9, c0)) c9) :: rows [4] (List.set b0 b6.toNat (b9, c0)) c9 :: box a3 157 [Value.slice a2 c9.length a0.length] :: box c3 119 [i64 o.t.States, i64 o.t.Initial, Value.slice a1 o.t.Labels.length c2, Value.slice a4 o.t.Edges.length c5, i64 o.p.States, i64 o.p.Initial, Value.slice a7 o.p.Labels.length c8, Value.slice a10 o.p.Edges.length c11] :: aT 4 K e1 1 ([begin] : List Bool) :: L) k8 := Eq.mp (congrArg (fun n => aN G K (aT 87 K a2 a0.length (bT (List.set b0 b6.toNat (b9, c0)) c9) :: rows [4] (List.set b0 b6.toNat (b9, c0)) c9 :: box a3 157 [Value.slice a2 n a0.length] :: box c3 119 [i64 o.t.States, i64 o.t.Initial, Value.slice a1 o.t.Labels.length c2, Value.slice a4 o.t.Edges.length c5, i64 o.p.States, i64 o.p.Initial, Value.slice a7 o.p.Labels.length c8, Value.slice a10 o.p.Edges.length c11] :: aT 4 K e1 1 ([begin] : List Bool) :: L) k8) (gQ k7)) y6
   exact aF (aA (pS (bG (aA (aB (aC (cI k4 rfl) (aC (aD (v := i64 (wr (b6 + 1))) rfl) (aF (aA ⟨(c9, wr (b6 + 1)), (Option.some.inj b7).symm, (List.set b0 b6.toNat (b9, c0)), k2, m9, n0, k3, n1, rfl, (set_len (hd := ((b9, c0) : Dp.Hd (List Bool))) f7 k7), (aN.arr 5 [2, 0, 1, 3] y7 rfl)⟩)))))))))
  ·refine aM k5 rfl (bY (aY (aY ?_)))
   have y8 := w7 _ (Option.some.inj b7).symm
   subst y8
   have hm : (gZ begin change_c0_ b5) = some R := hm
   exact bO (aA ⟨b5, b0, hm, k2, m9, k3, f7, (aN.arr 4 [0, 1, 2] n2 rfl)⟩)
theorem aCc {o : cO} {R : (List (List Bool))} (hs : aN G K (L) w) (h3 : bX K a1 c2 o.t.Labels) (h6 : bX K a4 c5 o.t.Edges) (h9 : bX K a7 c8 o.p.Labels) (h12 : bX K a10 c11 o.p.Edges) (hm : oQ o = some R) :
  Calls Tryz.prog 180 ([Value.agg #[i64 o.t.States, i64 o.t.Initial, Value.slice a1 o.t.Labels.length c2, Value.slice a4 o.t.Edges.length c5, i64 o.p.States, i64 o.p.Initial, Value.slice a7 o.p.Labels.length c8, Value.slice a10 o.p.Edges.length c11]] : List Value).toArray w (fW fun v w' => ∃ (ra0 : Option Addr) (rc0 : Nat) (rh1 : List (Dp.Hd (List Bool))), v = Value.slice ra0 R.length rc0 ∧ List.length rh1 = List.length R ∧ aN G K (aT 87 K ra0 rc0 (bT rh1 R) :: rows [4] rh1 R :: L) w') := by
 refine aU Tryz.func180 rfl (by kernel_rfl) (by show (1 : Nat) ≤ 6; decide) ?_
 unfold oQ at hm
 refine aH (aB (dU (v := Value.agg #[i64 o.t.States, i64 o.t.Initial, Value.slice a1 o.t.Labels.length c2, Value.slice a4 o.t.Edges.length c5, i64 o.p.States, i64 o.p.Initial, Value.slice a7 o.p.Labels.length c8, Value.slice a10 o.p.Edges.length c11]) (vs := [i64 o.t.States, i64 o.t.Initial, Value.slice a1 o.t.Labels.length c2, Value.slice a4 o.t.Edges.length c5, i64 o.p.States, i64 o.p.Initial, Value.slice a7 o.p.Labels.length c8, Value.slice a10 o.p.Edges.length c11]) hs rfl rfl (fun a2 b8 a3 => (aC (aG (v := Value.slice none 0 0) rfl) (aF (aA (aH (aB (aC (dR (us := [i64 o.t.States, i64 o.t.Initial, Value.slice a1 o.t.Labels.length c2, Value.slice a4 o.t.Edges.length c5, i64 o.p.States, i64 o.p.Initial, Value.slice a7 o.p.Labels.length c8, Value.slice a10 o.p.Edges.length c11]) aAX a3 (i := 0) rfl rfl rfl rfl) (aC (kU (vs := [Value.pointer (some ⟨a2, 0, none⟩)]) rfl) ?_))))))))))
 obtain ⟨b9, a0, a8, a9, b0⟩ := aN.lendB (i := 0) a3 rfl
 obtain ⟨b1, b2, hm⟩ := aI hm
 refine aW (vs := [Value.agg #[i64 o.t.States, i64 o.t.Initial, Value.slice a1 o.t.Labels.length c2, Value.slice a4 o.t.Edges.length c5, i64 o.p.States, i64 o.p.Initial, Value.slice a7 o.p.Labels.length c8, Value.slice a10 o.p.Edges.length c11], Value.bool true, Value.func (.func 224) #[] #[bZ (some ⟨a2, 0, none⟩) 0]]) Tryz.call220 rfl (zM a9 (h3.mono a0) (h6.mono a0) (h9.mono a0) (h12.mono a0) a8 (h3.mono a0) (h6.mono a0) (h9.mono a0) (h12.mono a0) b2) ?_
 rintro _ c0 ⟨a5, a6, b3, rfl, b4, b5⟩
 have b6 := b0 _ _ b5
 refine aC (aG (v := Value.slice a5 b1.length a6) rfl) (aF (aA ?_))
 have b7 := Option.some.inj hm
 subst b7
 exact bB (aZ Tryz.results180 rfl ⟨a5, a6, b3, rfl, b4, (aN.arr 1 [] b6 rfl)⟩)
theorem aBD {o : cO} {R : mR} (hs : aN G K (L) w) (h3 : bX K a1 c2 o.t.Labels) (h6 : bX K a4 c5 o.t.Edges) (h9 : bX K a7 c8 o.p.Labels) (h12 : bX K a10 c11 o.p.Edges) (hm : rM o = some R) :
  Calls Tryz.prog 126 ([Value.agg #[i64 o.t.States, i64 o.t.Initial, Value.slice a1 o.t.Labels.length c2, Value.slice a4 o.t.Edges.length c5, i64 o.p.States, i64 o.p.Initial, Value.slice a7 o.p.Labels.length c8, Value.slice a10 o.p.Edges.length c11]] : List Value).toArray w (fW fun v w' => ∃ (ra0 : Option Addr) (rc0 : Nat) (rh1 : List (Dp.Hd (List Bool))) (ra2 : Option Addr) (rc2 : Nat) (rh3 : List (Dp.Hd (List Bool))), v = Value.agg #[Value.slice ra0 R.leave.length rc0, Value.slice ra2 R.stay.length rc2] ∧ List.length rh1 = List.length R.leave ∧ List.length rh3 = List.length R.stay ∧ aN G K (aT 87 K ra0 rc0 (bT rh1 R.leave) :: rows [4] rh1 R.leave :: aT 87 K ra2 rc2 (bT rh3 R.stay) :: rows [4] rh3 R.stay :: L) w') := by
 refine aU Tryz.func126 rfl (by kernel_rfl) (by show (1 : Nat) ≤ 8; decide) ?_
 unfold rM at hm
 refine aH (aB (dU (v := Value.agg #[i64 o.t.States, i64 o.t.Initial, Value.slice a1 o.t.Labels.length c2, Value.slice a4 o.t.Edges.length c5, i64 o.p.States, i64 o.p.Initial, Value.slice a7 o.p.Labels.length c8, Value.slice a10 o.p.Edges.length c11]) (vs := [i64 o.t.States, i64 o.t.Initial, Value.slice a1 o.t.Labels.length c2, Value.slice a4 o.t.Edges.length c5, i64 o.p.States, i64 o.p.Initial, Value.slice a7 o.p.Labels.length c8, Value.slice a10 o.p.Edges.length c11]) hs rfl rfl (fun b8 d5 b9 => (cG (vs := [Value.slice none 0 0, Value.slice none 0 0]) Tryz.zeroValue159 b9 rfl (fun c0 d6 c1 => (aF (aA (aH ?_))))))))
 obtain ⟨c3, a0, b3, b4, c4⟩ := aN.lendB (i := 1) c1 rfl
 refine gV (C := fun w' => ∃ L', aN G c3 L' w') [(0, 0), (2, 0), (1, 1), (3, 1), (4, 0), (5, 2)] bR (by kernel_rfl) (fun _ hg => ⟨_, aN.mono b4 hg⟩) (fun d7 c6 => ?_)
 have b0 := aN.mono b4 c6
 refine cL rfl (fun _ ⟨_, b0⟩ => fO (t := 0) (vs := [i64 o.t.States, i64 o.t.Initial, Value.slice a1 o.t.Labels.length c2, Value.slice a4 o.t.Edges.length c5, i64 o.p.States, i64 o.p.Initial, Value.slice a7 o.p.Labels.length c8, Value.slice a10 o.p.Edges.length c11]) aAX b0 b3 rfl rfl rfl) (cL rfl (fun _ ⟨_, b0⟩ => fO (t := 0) (vs := [i64 o.t.States, i64 o.t.Initial, Value.slice a1 o.t.Labels.length c2, Value.slice a4 o.t.Edges.length c5, i64 o.p.States, i64 o.p.Initial, Value.slice a7 o.p.Labels.length c8, Value.slice a10 o.p.Edges.length c11]) aAX b0 b3 rfl rfl rfl) (oB rfl ?_))
 obtain ⟨a2, c7, hm⟩ := aI hm
 refine aW (vs := [Value.agg #[i64 o.t.States, i64 o.t.Initial, Value.slice a1 o.t.Labels.length c2, Value.slice a4 o.t.Edges.length c5, i64 o.p.States, i64 o.p.Initial, Value.slice a7 o.p.Labels.length c8, Value.slice a10 o.p.Edges.length c11]]) Tryz.call179 rfl (aBC b0 (h3.mono a0) (h6.mono a0) (h9.mono a0) (h12.mono a0) c7) ?_
 rintro _ d8 ⟨a3, a5, b1, rfl, c9, b5⟩
 refine aF (aA ⟨⟨_, b5⟩, ?_⟩)
 refine oB rfl ?_
 obtain ⟨a6, d0, hm⟩ := aI hm
 refine aW (vs := [Value.agg #[i64 o.t.States, i64 o.t.Initial, Value.slice a1 o.t.Labels.length c2, Value.slice a4 o.t.Edges.length c5, i64 o.p.States, i64 o.p.Initial, Value.slice a7 o.p.Labels.length c8, Value.slice a10 o.p.Edges.length c11]]) Tryz.call180 rfl (aCc b5 (h3.mono a0) (h6.mono a0) (h9.mono a0) (h12.mono a0) d0) ?_
 rintro _ d9 ⟨a8, a9, b2, rfl, d1, b6⟩
 refine aF (aA ⟨⟨_, b6⟩, ?_⟩)
 refine cL rfl (fun _ _ => eR (vs := [(0, Value.slice a3 a2.length a5), (1, Value.slice a8 a6.length a9)]) (cs := [Value.slice a3 a2.length a5, Value.slice a8 a6.length a9]) bs_159 rfl (by kernel_rfl)) ?_
 have d2 := c4 _ _ b6
 refine WE_s rfl (cC (i := 5) (ns := [Value.slice a3 a2.length a5, Value.slice a8 a6.length a9]) (us := [Value.slice a3 a2.length a5, Value.slice a8 a6.length a9]) Tryz.sizeOf159 d2 rfl rfl rfl rfl rfl (dT rfl) rfl rfl (fun d3 (b7 : aN G K (box b8 119 [i64 o.t.States, i64 o.t.Initial, Value.slice a1 o.t.Labels.length c2, Value.slice a4 o.t.Edges.length c5, i64 o.p.States, i64 o.p.Initial, Value.slice a7 o.p.Labels.length c8, Value.slice a10 o.p.Edges.length c11] :: aT 87 K a8 a9 (bT b2 a6) :: rows [4] b2 a6 :: aT 87 K a3 a5 (bT b1 a2) :: rows [4] b1 a2 :: box c0 159 [Value.slice a3 a2.length a5, Value.slice a8 a6.length a9] :: L) d3) => (aF (aA (pS (aA ?_))))))
 have d4 := Option.some.inj hm
 subst d4
 exact bB (aEP Tryz.results126 (gL (vs := [Value.slice a3 a2.length a5, Value.slice a8 a6.length a9]) rfl ag_159 b7 (i := 5) rfl rfl rfl) ⟨a3, a5, b1, a8, a9, b2, rfl, c9, d1, (aN.arr 6 [3, 4, 1, 2] b7 rfl)⟩)
theorem tG {s_ : (List Int)} {R : (List Int)} (hs : aN G K (L) w) (h3 : bX K a1 c2 s_) (hm : gU s_ = some R) :
  Calls Tryz.prog 101 ([Value.slice a1 s_.length c2] : List Value).toArray w (fW fun v w' => ∃ (ra0 : Option Addr) (rc0 : Nat), v = Value.slice ra0 R.length rc0 ∧ aN G K (aT 2 K ra0 rc0 R :: L) w') := by
 refine aU Tryz.func101 rfl (by kernel_rfl) (by show (1 : Nat) ≤ 8; decide) ?_
 unfold gU at hm
 refine aH (aB (aC (aG (v := Value.slice none 0 0) rfl) (aF (aA (aH (aH (aB (aC (aD (v := Value.slice a1 s_.length c2) rfl) (aC (R_isNil cT rfl rfl) (aF (aA ?_)))))))))))
 rcases nil_cases h3 with ⟨a4, a5, a6⟩ | h7
 ·subst a4; subst a5; subst a6
  refine W_cond_t rfl ?_
  replace hm : (some []) = some R := hm
  refine aH (aB (aC (aG (v := Value.slice none 0 0) rfl) (aF (aA ?_))))
  have hs18 := aN.nil (α := Int) hs 2 K
  have a9 := Option.some.inj hm
  subst a9
  exact bB (aQ (aZ Tryz.results101 rfl ⟨none, 0, rfl, hs18⟩))
 ·refine W_cond_f (Eq.trans rfl (congrArg Value.bool h7)) (aX (aA (aH (aB (eN (Kt := K) (xs := ([] : List Int)) (cs := []) (vs := []) cT vJ rfl rfl hs rfl (by kernel_rfl) rfl rfl rfl trivial (fun a8 w9 (b2 : aN G K (aT 2 K a8 0 ([] : List Int) :: L) w9) => (aC (aD (v := Value.slice a1 s_.length c2) rfl) ?_)))))))
  obtain ⟨a3, b3, hm⟩ := aI hm
  refine aEX (i := 0) cT Tryz.underlying31 vJ rfl rfl b2 rfl (Hp.le_refl _) h3 b3 rfl rfl rfl rfl (fun a0 a2 b4 (b5 : aN G K (aT 2 K a0 a2 a3 :: L) b4) => (aC (aG (v := Value.slice a0 a3.length a2) rfl) (aF (aA ?_))))
  have b6 := Option.some.inj hm
  subst b6
  exact bB (aZ Tryz.results101 rfl ⟨a0, a2, rfl, b5⟩)
theorem mW {t : dC} {states : (List Int)} {R : (List Int)} (hs : aN G K (L) w) (h3 : bX K a1 c2 t.Labels) (h6 : bX K a4 c5 t.Edges) (h9 : bX K a7 c8 states) (hm : nJ t states = some R) :
  Calls Tryz.prog 127 ([Value.agg #[i64 t.States, i64 t.Initial, Value.slice a1 t.Labels.length c2, Value.slice a4 t.Edges.length c5], Value.slice a7 states.length c8] : List Value).toArray w (fW fun v w' => ∃ (ra0 : Option Addr) (rc0 : Nat), v = Value.slice ra0 R.length rc0 ∧ aN G K (aT 2 K ra0 rc0 R :: L) w') := by
 refine aU Tryz.func127 rfl (by kernel_rfl) (by show (2 : Nat) ≤ 41; decide) ?_
 unfold nJ at hm
 refine aH (aB (dU (v := Value.agg #[i64 t.States, i64 t.Initial, Value.slice a1 t.Labels.length c2, Value.slice a4 t.Edges.length c5]) (vs := [i64 t.States, i64 t.Initial, Value.slice a1 t.Labels.length c2, Value.slice a4 t.Edges.length c5]) hs rfl rfl (fun a3 n0 g9 => (aC (aG (v := Value.slice none 0 0) rfl) (aF (aA (aH (aB (aC (aD (v := Value.slice a7 states.length c8) rfl) ?_)))))))))
 obtain ⟨h0, h1, hm⟩ := aI hm
 refine aW (vs := [Value.slice a7 states.length c8]) Tryz.call101 rfl (tG g9 h9 h1) ?_
 rintro _ n1 ⟨f4, f5, rfl, h2⟩
 refine aC (aG (v := Value.slice f4 h0.length f5) rfl) (aF (aA (aH (aH (aB (aC (aG (v := i64 0) rfl) (aF (aA (bC (fun f w => ∃ (b8 : List Int) (a9 : Option Addr) (b0 : Nat), mC b8 = some R ∧ f 5 = Value.slice a9 b8.length b0 ∧ aN G K (aT 2 K a9 b0 b8 :: L) w) ?_ ?_)))))))))
 ·rintro f n2 ⟨b8, a9, b0, hm, f6, h4⟩
  unfold mC at hm
  refine aA (aH (aB (aC (aD f6) ?_)))
  obtain ⟨f7, h5, hm⟩ := aI hm
  refine aW (vs := [Value.slice a9 b8.length b0]) Tryz.call182 rfl (aEv h4 h5) ?_
  rintro _ n3 ⟨rfl, h7, h8⟩
  refine aF (aA (aH (aB (aC (aD (v := Value.slice a9 f7.length b0) (Eq.trans f6 (congrArg (fun n => Value.slice a9 n b0) h7))) (aC (aG (v := Value.slice a9 f7.length b0) rfl) (aF (aA ?_)))))))
  have i0 := Option.some.inj hm
  subst i0
  exact bB (aZ Tryz.results127 rfl ⟨a9, b0, rfl, h8⟩)
 obtain ⟨n4, i1, hm⟩ := aI hm
 refine cD i1 (fun (s : (List Int × Int)) f w => match s with | (b2, a5) => ∃ (b9 : Option Addr) (c48 : Nat), f 2 = Value.pointer (some ⟨a3, 0, none⟩) ∧ f 5 = Value.slice b9 b2.length c48 ∧ f 6 = i64 a5 ∧ aN G K (aT 2 K b9 c48 b2 :: box a3 30 [i64 t.States, i64 t.Initial, Value.slice a1 t.Labels.length c2, Value.slice a4 t.Edges.length c5] :: L) w) ?_ ?_
 ·exact ⟨f4, f5, rfl, rfl, rfl, h2⟩
 ·rintro ⟨b2, a5⟩ c9 f n5 a0 i2 ⟨b9, c48, f8, d0, e0, f9⟩
  replace a0 : jY t b2 a5 = some c9 := a0
  unfold jY at a0
  refine aH (aH (aB (aC (aD e0) (aC (aD d0) (aC (bU (len := b2.length) cT rfl) (aC (cE rfl rfl) (aF (aA ?_))))))))
  rcases aJ a0 with ⟨e1, a0⟩ | ⟨e1, a0⟩
  ·refine aO e1 rfl (aX (aA (aH (bC (fun f w => ∃ (c0 : List Int) (d1 : Option Addr) (d2 : Nat), pX a5 c0 = some c9 ∧ f 2 = Value.pointer (some ⟨a3, 0, none⟩) ∧ f 5 = Value.slice d1 c0.length d2 ∧ f 6 = i64 a5 ∧ aN G K (aT 2 K d1 d2 c0 :: box a3 30 [i64 t.States, i64 t.Initial, Value.slice a1 t.Labels.length c2, Value.slice a4 t.Edges.length c5] :: L) w) ?_ ?_))))
   ·rintro f n6 ⟨c0, d1, d2, a0, i3, i4, i5, i6⟩
    unfold pX at a0
    exact aA (aB (aC (aD i5) (aC (cI rfl rfl) (aC (aG (v := i64 (wr (a5 + 1))) rfl) (aF (aA ⟨(c0, wr (a5 + 1)), (Option.some.inj a0).symm, d1, d2, i3, i4, rfl, i6⟩))))))
   refine aH ?_
   obtain ⟨n7, e2, g0, i7, i8⟩ := aN.lendS (i := 0) f9 (Hp.le_refl _) rfl
   obtain ⟨g1, c1, i9, g2, j0⟩ := aN.lendB (i := 0) i7 rfl
   refine gV (C := fun w' => ∃ L', aN G g1 L' w') [(0, 0), (1, 0), (2, 0), (3, 0), (4, 0), (8, 0), (5, 1), (6, 1), (7, 0)] bR (by kernel_rfl) (fun _ hg => ⟨_, aN.mono g2 hg⟩) (fun n8 j1 => ?_)
   have c3 := aN.mono g2 j1
   refine cL rfl (fun _ ⟨_, c3⟩ => fO (t := 0) (vs := [i64 t.States, i64 t.Initial, Value.slice a1 t.Labels.length c2, Value.slice a4 t.Edges.length c5]) gT c3 i9 f8 rfl rfl) (cL rfl (fun _ _ => aD d0) (cL rfl (fun _ _ => aD e0) ?_))
   obtain ⟨c4, e3, a0⟩ := aI a0
   have j2 := rd_lies (g0.mono c1) e3
   refine cL rfl (fun _ _ => eT cT rfl j2 rfl rfl rfl e3) ?_
   obtain ⟨n9, j3, j4⟩ := bX.el (sz := 1) rfl (g0.mono c1) e3
   cases j4
   refine cL rfl (fun _ ⟨_, c3⟩ => bL (t := 0) cM c3 j3 rfl rfl) (cL rfl (fun _ _ => aD (v := i64 0) rfl) (oB rfl (eN (Kt := K) (xs := ([c4] : List Int)) (cs := [i64 c4]) (vs := [(0, i64 c4)]) cT vJ rfl rfl c3 rfl (by kernel_rfl) rfl rfl rfl ⟨rfl, trivial⟩ (fun g3 j5 (g4 : aN G g1 (aT 2 K g3 1 ([c4] : List Int) :: L) j5) => (aF (aA ⟨⟨_, g4⟩, ?_⟩))))))
   refine oB rfl ?_
   obtain ⟨o0, g5, j6, j7, j8⟩ := aN.lendS (i := 0) g4 (Hp.le_trans e2 c1) rfl
   obtain ⟨a6, j9, a0⟩ := aI a0
   refine aW (vs := [Value.agg #[i64 t.States, i64 t.Initial, Value.slice a1 t.Labels.length c2, Value.slice a4 t.Edges.length c5], Value.slice g3 ([c4] : List Int).length 1, cF ([116, 97, 117] : bF)]) Tryz.call181 rfl (vF j7 (h3.mono (Hp.le_trans (Hp.le_trans e2 c1) g5)) (h6.mono (Hp.le_trans (Hp.le_trans e2 c1) g5)) j6 j9) ?_
   rintro _ o1 ⟨b6, b7, rfl, k0⟩
   have g6 := j8 _ _ k0
   refine aF (aA ⟨⟨_, g6⟩, ?_⟩)
   refine cL rfl (fun _ _ => bU (len := a6.length) cT rfl) (pS ?_)
   have k1 := j0 _ _ g6
   have k2 := i8 _ _ k1
   refine aA (bC (fun f w => ∃ (c6 : List Int) (d3 : Option Addr) (d4 : Nat), mD a5 c6 = some c9 ∧ f 2 = Value.pointer (some ⟨a3, 0, none⟩) ∧ f 5 = Value.slice d3 c6.length d4 ∧ f 6 = i64 a5 ∧ aN G K (aT 2 K d3 d4 c6 :: box a3 30 [i64 t.States, i64 t.Initial, Value.slice a1 t.Labels.length c2, Value.slice a4 t.Edges.length c5] :: L) w) ?_ ?_)
   ·rintro f o2 ⟨c6, d3, d4, a0, k3, k4, k5, k6⟩
    unfold mD at a0
    exact bG (aA ⟨c6, d3, d4, a0, k3, k4, k5, k6⟩)
   obtain ⟨o3, k7, a0⟩ := aI a0
   refine cD k7 (fun (s : (List Int × Int)) f w => match s with | (a8, b3) => ∃ (b4 : Option Addr) (b5 : Nat), f 2 = Value.pointer (some ⟨a3, 0, none⟩) ∧ f 5 = Value.slice b4 a8.length b5 ∧ f 6 = i64 a5 ∧ f 23 = Value.slice b6 a6.length b7 ∧ f 24 = i64 (a6.length : Int) ∧ f 25 = i64 b3 ∧ aN G K (aT 2 K b4 b5 a8 :: box a3 30 [i64 t.States, i64 t.Initial, Value.slice a1 t.Labels.length c2, Value.slice a4 t.Edges.length c5] :: aT 2 K b6 b7 a6 :: L) w) ?_ ?_
   ·exact ⟨b9, c48, f8, d0, e0, rfl, rfl, rfl, (aN.arr 3 [0, 1] k2 rfl)⟩
   ·rintro ⟨a8, b3⟩ g7 f o4 a2 k8 ⟨b4, b5, e4, d5, e5, e6, e7, d6, d7⟩
    replace a2 : pZ a6 a8 b3 = some g7 := a2
    unfold pZ at a2
    refine aH (aB (aC (cE d6 e7) (aF (aA (aH ?_)))))
    rcases aJ a2 with ⟨e8, a2⟩ | ⟨e8, a2⟩
    ·refine aO e8 rfl (aX (aA (aH (bC (fun f w => ∃ (c7 : List Int) (d8 : Option Addr) (d9 : Nat), pY b3 c7 = some g7 ∧ f 2 = Value.pointer (some ⟨a3, 0, none⟩) ∧ f 5 = Value.slice d8 c7.length d9 ∧ f 6 = i64 a5 ∧ f 23 = Value.slice b6 a6.length b7 ∧ f 24 = i64 (a6.length : Int) ∧ f 25 = i64 b3 ∧ aN G K (aT 2 K d8 d9 c7 :: box a3 30 [i64 t.States, i64 t.Initial, Value.slice a1 t.Labels.length c2, Value.slice a4 t.Edges.length c5] :: aT 2 K b6 b7 a6 :: L) w) ?_ ?_))))
     ·rintro f o5 ⟨c7, d8, d9, a2, k9, l0, l1, l2, l3, l4, l5⟩
      unfold pY at a2
      exact aA (aB (aC (cI l4 rfl) (aC (aD (v := i64 (wr (b3 + 1))) rfl) (aF (aA ⟨(c7, wr (b3 + 1)), (Option.some.inj a2).symm, d8, d9, k9, l0, l1, l2, l3, rfl, l5⟩)))))
     refine aH (aB ?_)
     obtain ⟨b1, e9, a2⟩ := aI a2
     have l6 := dL d7 (i := 2) rfl e9
     refine aC (eT cT rfl l6 e6 rfl d6 e9) (aC (kD (t := 0) cM d7 (i := 2) rfl e9 rfl rfl rfl) (aC (aG (v := i64 b1) rfl) (aF (aA (aH (aB (aC (aD d5) (aC (aD (v := i64 b1) rfl) ?_))))))))
     obtain ⟨o6, o7, l7, l8, l9⟩ := aN.lendS (i := 0) d7 (Hp.le_refl _) rfl
     obtain ⟨o8, m0, a2⟩ := aI a2
     refine aW (vs := [Value.slice b4 a8.length b5, i64 b1]) Tryz.call106 rfl (kA l8 l7 m0) ?_
     rintro _ o9 ⟨rfl, m1⟩
     have g8 := l9 _ _ m1
     refine aC (dN rfl) (aF (aA ?_))
     rcases aJ a2 with ⟨f0, a2⟩ | ⟨f0, a2⟩
     ·refine aO f0 rfl (aB (aC (aD d5) (aC (aD (v := i64 b1) rfl) (eN (Kt := K) (xs := ([b1] : List Int)) (cs := [i64 b1]) (vs := [(0, i64 b1)]) cT vJ rfl rfl g8 rfl (by kernel_rfl) rfl rfl rfl ⟨rfl, trivial⟩ (fun m2 m3 (m4 : aN G K (aT 2 K m2 1 ([b1] : List Int) :: aT 2 K b4 b5 a8 :: box a3 30 [i64 t.States, i64 t.Initial, Value.slice a1 t.Labels.length c2, Value.slice a4 t.Edges.length c5] :: aT 2 K b6 b7 a6 :: L) m3) => ?_)))))
      obtain ⟨f1, m5, a2⟩ := aI a2
      exact iZ (i := 0) cT Tryz.underlying31 vJ rfl rfl m4 rfl (Hp.le_refl _) (Hp.le_refl _) m5 rfl rfl rfl rfl (fun _ h => h) (fun f2 f3 m6 (m7 : aN G K (aT 2 K f2 f3 f1 :: box a3 30 [i64 t.States, i64 t.Initial, Value.slice a1 t.Labels.length c2, Value.slice a4 t.Edges.length c5] :: aT 2 K b6 b7 a6 :: L) m6) => (aC (aG (v := Value.slice f2 f1.length f3) rfl) (aF (bG (aA ⟨f1, f2, f3, a2, e4, rfl, e5, e6, e7, d6, m7⟩)))))
     ·exact aM f0 rfl (aX (bG (aA ⟨a8, b4, b5, a2, e4, d5, e5, e6, e7, d6, g8⟩)))
    ·refine aM e8 rfl (bY (aY (aY ?_)))
     have m8 := k8 _ (Option.some.inj a2).symm
     subst m8
     have a0 : (mD a5 a8) = some c9 := a0
     exact bO (aA ⟨a8, b4, b5, a0, e4, d5, e5, (aN.arr 3 [0, 1] d7 rfl)⟩)
  ·refine aM e1 rfl (bY (aY (aY ?_)))
   have m9 := i2 _ (Option.some.inj a0).symm
   subst m9
   have hm : (mC b2) = some R := hm
   exact bO (aA ⟨b2, b9, c48, hm, d0, (aN.arr 2 [0] f9 rfl)⟩)
theorem zC {w_ : cB} {R : bF} (hs : aN G K (L) w) (hG : G.lo = 0) (h3 : bX K a1 c2 w_.states) (hm : jE w_ = some R) :
  Calls Tryz.prog 128 ([Value.agg #[Value.slice a1 w_.states.length c2, i64 w_.y]] : List Value).toArray w (fW fun v w' => v = cF R ∧ aN G K (L) w') := by
 refine aU Tryz.func128 rfl (by kernel_rfl) (by show (1 : Nat) ≤ 11; decide) ?_
 unfold jE at hm
 refine aH (aB (dU (v := Value.agg #[Value.slice a1 w_.states.length c2, i64 w_.y]) (vs := [Value.slice a1 w_.states.length c2, i64 w_.y]) hs rfl rfl (fun b4 w5 a0 => (aC (aG (v := cF ([] : bF)) rfl) (aF (aA (aH (cW (C := fun w' => aN G K (box b4 162 [Value.slice a1 w_.states.length c2, i64 w_.y] :: L) w') bR (by kernel_rfl) (aN.mono a0 (dB.drew _)) (aS (fun _ a0 => bI (t' := 0) aDp rfl rfl) (aS (fun _ a0 => cA aAu a0 (i := 0) rfl rfl rfl) ?_))))))))))
 obtain ⟨r9, a4, hm⟩ := aI hm
 refine lC (vs := [Value.slice a1 w_.states.length c2, cF ([44] : bF)]) (v := cF r9) Tryz.call129 rfl (fun _ a0 => (aCG a0 hG h3 a4)) ?_
 obtain ⟨b3, a5, hm⟩ := aI hm
 refine aS (fun _ a0 => aEU rfl rfl a5) (aS (fun _ a0 => bI (t' := 1) aDq rfl rfl) (aS (fun _ a0 => cA cM a0 (i := 0) rfl rfl rfl) ?_))
 obtain ⟨a6, a7, hm⟩ := aI hm
 refine lC (vs := [i64 w_.y]) (v := cF a6) Tryz.call130 rfl (fun _ a0 => (aEw a0 a7)) ?_
 obtain ⟨a8, a9, hm⟩ := aI hm
 refine aS (fun _ a0 => aEU rfl rfl a9) (aS (fun _ a0 => aG (v := cF a8) rfl) (dD (fun w21 b0 => (aA ?_))))
 have b1 := Option.some.inj hm
 subst b1
 exact bB (aZ Tryz.results128 rfl ⟨rfl, (aN.arr 1 [] b0 rfl)⟩)
theorem aBt {arcs : (List lL)} {R : (List bF)} (hs : aN G K (L) w) (h3 : bX K a1 c2 arcs) (hm : yZ arcs = some R) :
  Calls Tryz.prog 187 ([Value.slice a1 arcs.length c2] : List Value).toArray w (fW fun v w' => ∃ (ra0 : Option Addr) (rc0 : Nat), v = Value.slice ra0 R.length rc0 ∧ aN G K (aT 9 K ra0 rc0 R :: L) w') := by
 refine aU Tryz.func187 rfl (by kernel_rfl) (by show (1 : Nat) ≤ 19; decide) ?_
 unfold yZ at hm
 refine aH (aB (aC (aG (v := Value.slice none 0 0) rfl) (aF (aA (aH (aB (aC (aG (v := Value.slice none 0 0) rfl) (aF (aA (aH (aH (aB (aC (aD (v := Value.slice a1 arcs.length c2) rfl) (aC (bU (len := arcs.length) zU rfl) (aC (aD (v := i64 0) rfl) (aF (aA (bC (fun f w => ∃ (a6 : List bF) (a5 : Option Addr) (c6 : Nat), wJ a6 = some R ∧ f 3 = Value.slice a5 a6.length c6 ∧ aN G K (aT 9 K a5 c6 a6 :: L) w) ?_ ?_))))))))))))))))))
 ·rintro f w8 ⟨a6, a5, c6, hm, e7, c4⟩
  unfold wJ at hm
  refine aA (aH (aB (aC (aD e7) (aC (aG (v := Value.slice a5 a6.length c6) rfl) (aF (aA ?_))))))
  have c5 := Option.some.inj hm
  subst c5
  exact bB (aZ Tryz.results187 rfl ⟨a5, c6, rfl, c4⟩)
 have hs71 := aN.nil (α := bF) hs 9 K
 obtain ⟨e2, c7, hm⟩ := aI hm
 refine cD c7 (fun (s : (List bF × Int)) f w => match s with | (a3, a9) => ∃ (a4 : Option Addr) (c29 : Nat), f 3 = Value.slice a4 a3.length c29 ∧ f 6 = Value.slice a1 arcs.length c2 ∧ f 7 = i64 (arcs.length : Int) ∧ f 8 = i64 a9 ∧ aN G K (aT 9 K a4 c29 a3 :: L) w) ?_ ?_
 ·exact ⟨none, 0, rfl, rfl, rfl, rfl, hs71⟩
 ·rintro ⟨a3, a9⟩ c8 f e3 a2 c9 ⟨a4, c29, b7, b8, b9, b0, b1⟩
  replace a2 : pM arcs a3 a9 = some c8 := a2
  unfold pM at a2
  refine aH (aB (aC (cE b0 b9) (aF (aA (aH ?_)))))
  rcases aJ a2 with ⟨b2, a2⟩ | ⟨b2, a2⟩
  ·refine aO b2 rfl (aX (aA (aH (cK (aH (aB ?_))))))
   obtain ⟨a0, c0, a2⟩ := aI a2
   refine aC (cU zU rfl h3 b8 rfl b0 c0) ?_
   obtain ⟨e4, d0, d1⟩ := bX.el (sz := 3) rfl h3 c0
   cases d1
   refine aC (fO (t := 0) (vs := [i64 a0.from_, cF a0.label, i64 a0.to_]) ag_70 b1 d0 rfl rfl rfl) (cG (vs := [i64 0, cF ([] : bF), i64 0]) Tryz.zeroValue70 b1 rfl (fun b3 e5 d2 => (cC (i := 0) (ns := [i64 a0.from_, cF a0.label, i64 a0.to_]) (us := [i64 a0.from_, cF a0.label, i64 a0.to_]) Tryz.sizeOf70 d2 rfl rfl rfl rfl rfl (dT rfl) rfl rfl (fun d3 (c1 : aN G K (box b3 70 [i64 a0.from_, cF a0.label, i64 a0.to_] :: aT 9 K a4 c29 a3 :: L) d3) => (aF (aA (aB (aC (aD b7) (aC (bI (t' := 1) fa_70_1 rfl rfl) (aC (cA oI c1 (i := 0) rfl rfl rfl) (eN (Kt := K) (xs := ([a0.label] : List bF)) (cs := [cF a0.label]) (vs := [(0, cF a0.label)]) cQ aCx rfl rfl c1 rfl (by kernel_rfl) rfl rfl rfl ⟨rfl, trivial⟩ (fun d4 d5 (d6 : aN G K (aT 9 K d4 1 ([a0.label] : List bF) :: box b3 70 [i64 a0.from_, cF a0.label, i64 a0.to_] :: aT 9 K a4 c29 a3 :: L) d5) => ?_))))))))))))
   obtain ⟨b4, d7, a2⟩ := aI a2
   exact iZ (i := 1) cQ Tryz.underlying22 aCx rfl rfl d6 rfl (Hp.le_refl _) (Hp.le_refl _) d7 rfl rfl rfl rfl (fun _ h => h) (fun b5 b6 d8 (d9 : aN G K (box b3 70 [i64 a0.from_, cF a0.label, i64 a0.to_] :: aT 9 K b5 b6 b4 :: L) d8) => (aC (aG (v := Value.slice b5 b4.length b6) rfl) (aF (bG (aA (aB (aC (cI b0 rfl) (aC (aD (v := i64 (wr (a9 + 1))) rfl) (aF (aA ⟨(b4, wr (a9 + 1)), (Option.some.inj a2).symm, b5, b6, rfl, b8, b9, rfl, (aN.arr 1 [] d9 rfl)⟩))))))))))
  ·refine aM b2 rfl (bY (aY (aY ?_)))
   have e0 := c9 _ (Option.some.inj a2).symm
   subst e0
   have hm : (wJ a3) = some R := hm
   exact bO (aA ⟨a3, a4, c29, hm, b7, b1⟩)
theorem aAJ {x_ : Int} {p : mR} {k2 : Nat} {p' : Int} {k11 : Nat} {R : Bool} (hs : aN G K (L) w) (h3 : fN K a1 k2 [Value.slice a4 p.leave.length c5, Value.slice a7 p.stay.length c8]) (h6 : bX K a4 c5 p.leave) (h9 : bX K a7 c8 p.stay) (h12 : fN K a10 k11 [i64 p']) (hm : oF x_ p p' = some R) :
  Calls Tryz.prog 189 ([i64 x_, bZ a1 k2, bZ a10 k11] : List Value).toArray w (fW fun v w' => v = Value.bool R ∧ aN G K (L) w') := by
 refine aU Tryz.func189 rfl (by kernel_rfl) (by show (3 : Nat) ≤ 13; decide) ?_
 unfold oF at hm
 refine aH (aB (aC (aG (v := Value.bool false) rfl) (aF (aA (aH (cW (C := fun w' => aN G K (L) w') bR (by kernel_rfl) (aN.mono hs (dB.drew _)) (aS (fun _ hs => bW (k' := k2 + 0) fa_159_0 rfl h3 rfl) (aS (fun _ hs => bL (t := 0) qE hs h3 rfl rfl) (aS (fun _ hs => aD (v := i64 x_) rfl) ?_)))))))))
 obtain ⟨b3, a0, hm⟩ := aI hm
 refine aS (fun _ hs => cU qD rfl h6 rfl rfl rfl a0) ?_
 obtain ⟨b4, a5, a6⟩ := bX.el (sz := 1) rfl h6 a0
 obtain ⟨b5, b6, rfl, a2⟩ := a6
 refine aS (fun _ hs => bL (t := 0) aDo hs a5 rfl rfl) (aS (fun _ hs => bL (t := 0) cM hs h12 rfl rfl) ?_)
 obtain ⟨a8, a3, hm⟩ := aI hm
 refine aS (fun _ hs => cU iV rfl a2 rfl rfl rfl a3) ?_
 obtain ⟨b7, a9, b0⟩ := bX.el (sz := 1) rfl a2 a3
 cases b0
 refine aS (fun _ hs => bL (t := 0) aBA hs a9 rfl rfl) (aS (fun _ hs => aG (v := Value.bool a8) rfl) (dD (fun b8 b1 => (aA ?_))))
 have b2 := Option.some.inj hm
 subst b2
 exact bB (aZ Tryz.results189 rfl ⟨rfl, b1⟩)
theorem oU {s_ : (List Int)} {f_c0_ : mR} {k5 : Nat} {f_c1_ : Int} {k14 : Nat} {R : Int} (hs : aN G K (L) w) (h3 : bX K a1 c2 s_) (h6 : fN K a4 k5 [Value.slice a7 f_c0_.leave.length c8, Value.slice a10 f_c0_.stay.length c11]) (h9 : bX K a7 c8 f_c0_.leave) (h12 : bX K a10 c11 f_c0_.stay) (h15 : fN K a13 k14 [i64 f_c1_]) (hm : fB s_ f_c0_ f_c1_ = some R) :
  Calls Tryz.prog 231 ([Value.slice a1 s_.length c2, Value.func (.func 189) #[] #[bZ a4 k5, bZ a13 k14]] : List Value).toArray w (fW fun v w' => v = i64 R ∧ aN G K (L) w') := by
 refine aU Tryz.func231 rfl (by kernel_rfl) (by show (2 : Nat) ≤ 19; decide) ?_
 unfold fB at hm
 refine aH (aB (aC (aG (v := i64 0) rfl) (aF (aA (aH (aH (aB (aC (aD (v := Value.slice a1 s_.length c2) rfl) (aC (bU (len := s_.length) cT rfl) (aC (aD (v := i64 0) rfl) (aF (aA (bC (fun f w => eJ = some R ∧ aN G K (L) w) ?_ ?_)))))))))))))
 ·rintro f c7 ⟨hm, b6⟩
  unfold eJ at hm
  refine aA (aH (aB (aC (aG (v := i64 (-1)) rfl) (aF (aA ?_)))))
  have b7 := Option.some.inj hm
  subst b7
  exact bB (aZ Tryz.results231 rfl ⟨rfl, b6⟩)
 obtain ⟨c9, b8, hm⟩ := aI hm
 refine cD b8 (fun (a2 : Int) f w => f 0 = Value.slice a1 s_.length c2 ∧ f 1 = Value.func (.func 189) #[] #[bZ a4 k5, bZ a13 k14] ∧ f 7 = i64 (s_.length : Int) ∧ f 8 = i64 a2 ∧ aN G K (L) w) ?_ ?_
 ·exact ⟨rfl, rfl, rfl, rfl, hs⟩
 ·rintro a2 b9 f d0 a0 a9 ⟨b0, b1, b2, a3, a5⟩
  replace a0 : cX s_ f_c0_ f_c1_ a2 = some b9 := a0
  unfold cX at a0
  refine aH (aB (aC (cE a3 b2) (aF (aA (aH ?_)))))
  rcases aJ a0 with ⟨a6, a0⟩ | ⟨a6, a0⟩
  ·refine aO a6 rfl (aX (aA (aH (cK (aH (aB (aC (aD a3) (aC (aG (v := i64 a2) rfl) (aF (aA (aH (aB (aC (aD b1) (aC (aD b0) (aC (aD (v := i64 a2) rfl) ?_)))))))))))))))
   obtain ⟨b3, b4, a0⟩ := aI a0
   refine aC (cU cT rfl h3 rfl rfl rfl b4) ?_
   obtain ⟨d1, c0, c1⟩ := bX.el (sz := 1) rfl h3 b4
   cases c1
   refine aC (bL (t := 0) cM a5 c0 rfl rfl) ?_
   obtain ⟨d2, c3, a0⟩ := aI a0
   refine kE (vs := [i64 b3]) (caps := [bZ a4 k5, bZ a13 k14]) (us := [i64 b3, bZ a4 k5, bZ a13 k14]) rfl Tryz.call189 rfl rfl (aAJ a5 h6 h9 h12 h15 c3) ?_
   rintro _ d3 ⟨rfl, b5⟩
   refine aF (aA ?_)
   rcases aJ a0 with ⟨a8, a0⟩ | ⟨a8, a0⟩
   ·refine aO a8 rfl (aH (aB (aC (aD (v := i64 a2) rfl) (aC (aG (v := i64 a2) rfl) (aF (aA (bB (bN (aQ (aQ ?_))))))))))
    have c4 := a9 _ (Option.some.inj a0).symm
    subst c4
    have hm : (some a2) = some R := hm
    have c5 := Option.some.inj hm
    subst c5
    exact bN (aQ (aQ (aZ Tryz.results231 rfl ⟨rfl, b5⟩)))
   ·exact aM a8 rfl (aX (bG (aA (aB (aC (cI a3 rfl) (aC (aD (v := i64 (wr (a2 + 1))) rfl) (aF (aA ⟨wr (a2 + 1), (Option.some.inj a0).symm, b0, b1, b2, rfl, b5⟩))))))))
  ·refine aM a6 rfl (bY (aY (aY ?_)))
   have c6 := a9 _ (Option.some.inj a0).symm
   subst c6
   have hm : (eJ) = some R := hm
   exact bO (aA ⟨hm, a5⟩)
theorem nS {s_ : (List Int)} {f_c0_ : mR} {k5 : Nat} {f_c1_ : Int} {k14 : Nat} {R : Bool} (hs : aN G K (L) w) (h3 : bX K a1 c2 s_) (h6 : fN K a4 k5 [Value.slice a7 f_c0_.leave.length c8, Value.slice a10 f_c0_.stay.length c11]) (h9 : bX K a7 c8 f_c0_.leave) (h12 : bX K a10 c11 f_c0_.stay) (h15 : fN K a13 k14 [i64 f_c1_]) (hm : dP s_ f_c0_ f_c1_ = some R) :
  Calls Tryz.prog 188 ([Value.slice a1 s_.length c2, Value.func (.func 189) #[] #[bZ a4 k5, bZ a13 k14]] : List Value).toArray w (fW fun v w' => v = Value.bool R ∧ aN G K (L) w') := by
 refine aU Tryz.func188 rfl (by kernel_rfl) (by show (2 : Nat) ≤ 9; decide) ?_
 unfold dP at hm
 refine aH (aB (aC (aG (v := Value.bool false) rfl) (aF (aA (aH (aB (aC (aD (v := Value.slice a1 s_.length c2) rfl) (aC (aD (v := Value.func (.func 189) #[] #[bZ a4 k5, bZ a13 k14]) rfl) ?_))))))))
 obtain ⟨a0, a2, hm⟩ := aI hm
 refine aW (vs := [Value.slice a1 s_.length c2, Value.func (.func 189) #[] #[bZ a4 k5, bZ a13 k14]]) Tryz.call231 rfl (oU hs h3 h6 h9 h12 h15 a2) ?_
 rintro _ a6 ⟨rfl, a3⟩
 refine aC (tX rfl rfl) (aC (aG (v := Value.bool (decide (0 ≤ a0))) rfl) (aF (aA ?_)))
 have a5 := Option.some.inj hm
 subst a5
 exact bB (aZ Tryz.results188 rfl ⟨rfl, a3⟩)
theorem aAK {x_ : Int} {p : mR} {k2 : Nat} {p' : Int} {k11 : Nat} {R : Bool} (hs : aN G K (L) w) (h3 : fN K a1 k2 [Value.slice a4 p.leave.length c5, Value.slice a7 p.stay.length c8]) (h6 : bX K a4 c5 p.leave) (h9 : bX K a7 c8 p.stay) (h12 : fN K a10 k11 [i64 p']) (hm : oG x_ p p' = some R) :
  Calls Tryz.prog 190 ([i64 x_, bZ a1 k2, bZ a10 k11] : List Value).toArray w (fW fun v w' => v = Value.bool R ∧ aN G K (L) w') := by
 refine aU Tryz.func190 rfl (by kernel_rfl) (by show (3 : Nat) ≤ 13; decide) ?_
 unfold oG at hm
 refine aH (aB (aC (aG (v := Value.bool false) rfl) (aF (aA (aH (cW (C := fun w' => aN G K (L) w') bR (by kernel_rfl) (aN.mono hs (dB.drew _)) (aS (fun _ hs => bW (k' := k2 + 1) fa_159_1 rfl h3 rfl) (aS (fun _ hs => bL (t := 1) qE hs h3 rfl rfl) (aS (fun _ hs => aD (v := i64 x_) rfl) ?_)))))))))
 obtain ⟨b3, a0, hm⟩ := aI hm
 refine aS (fun _ hs => cU qD rfl h9 rfl rfl rfl a0) ?_
 obtain ⟨b4, a5, a6⟩ := bX.el (sz := 1) rfl h9 a0
 obtain ⟨b5, b6, rfl, a2⟩ := a6
 refine aS (fun _ hs => bL (t := 0) aDo hs a5 rfl rfl) (aS (fun _ hs => bL (t := 0) cM hs h12 rfl rfl) ?_)
 obtain ⟨a8, a3, hm⟩ := aI hm
 refine aS (fun _ hs => cU iV rfl a2 rfl rfl rfl a3) ?_
 obtain ⟨b7, a9, b0⟩ := bX.el (sz := 1) rfl a2 a3
 cases b0
 refine aS (fun _ hs => bL (t := 0) aBA hs a9 rfl rfl) (aS (fun _ hs => aG (v := Value.bool a8) rfl) (dD (fun b8 b1 => (aA ?_))))
 have b2 := Option.some.inj hm
 subst b2
 exact bB (aZ Tryz.results190 rfl ⟨rfl, b1⟩)
theorem oV {s_ : (List Int)} {f_c0_ : mR} {k5 : Nat} {f_c1_ : Int} {k14 : Nat} {R : Int} (hs : aN G K (L) w) (h3 : bX K a1 c2 s_) (h6 : fN K a4 k5 [Value.slice a7 f_c0_.leave.length c8, Value.slice a10 f_c0_.stay.length c11]) (h9 : bX K a7 c8 f_c0_.leave) (h12 : bX K a10 c11 f_c0_.stay) (h15 : fN K a13 k14 [i64 f_c1_]) (hm : fC s_ f_c0_ f_c1_ = some R) :
  Calls Tryz.prog 231 ([Value.slice a1 s_.length c2, Value.func (.func 190) #[] #[bZ a4 k5, bZ a13 k14]] : List Value).toArray w (fW fun v w' => v = i64 R ∧ aN G K (L) w') := by
 refine aU Tryz.func231 rfl (by kernel_rfl) (by show (2 : Nat) ≤ 19; decide) ?_
 unfold fC at hm
 refine aH (aB (aC (aG (v := i64 0) rfl) (aF (aA (aH (aH (aB (aC (aD (v := Value.slice a1 s_.length c2) rfl) (aC (bU (len := s_.length) cT rfl) (aC (aD (v := i64 0) rfl) (aF (aA (bC (fun f w => eK = some R ∧ aN G K (L) w) ?_ ?_)))))))))))))
 ·rintro f c7 ⟨hm, b6⟩
  unfold eK at hm
  refine aA (aH (aB (aC (aG (v := i64 (-1)) rfl) (aF (aA ?_)))))
  have b7 := Option.some.inj hm
  subst b7
  exact bB (aZ Tryz.results231 rfl ⟨rfl, b6⟩)
 obtain ⟨c9, b8, hm⟩ := aI hm
 refine cD b8 (fun (a2 : Int) f w => f 0 = Value.slice a1 s_.length c2 ∧ f 1 = Value.func (.func 190) #[] #[bZ a4 k5, bZ a13 k14] ∧ f 7 = i64 (s_.length : Int) ∧ f 8 = i64 a2 ∧ aN G K (L) w) ?_ ?_
 ·exact ⟨rfl, rfl, rfl, rfl, hs⟩
 ·rintro a2 b9 f d0 a0 a9 ⟨b0, b1, b2, a3, a5⟩
  replace a0 : cY s_ f_c0_ f_c1_ a2 = some b9 := a0
  unfold cY at a0
  refine aH (aB (aC (cE a3 b2) (aF (aA (aH ?_)))))
  rcases aJ a0 with ⟨a6, a0⟩ | ⟨a6, a0⟩
  ·refine aO a6 rfl (aX (aA (aH (cK (aH (aB (aC (aD a3) (aC (aG (v := i64 a2) rfl) (aF (aA (aH (aB (aC (aD b1) (aC (aD b0) (aC (aD (v := i64 a2) rfl) ?_)))))))))))))))
   obtain ⟨b3, b4, a0⟩ := aI a0
   refine aC (cU cT rfl h3 rfl rfl rfl b4) ?_
   obtain ⟨d1, c0, c1⟩ := bX.el (sz := 1) rfl h3 b4
   cases c1
   refine aC (bL (t := 0) cM a5 c0 rfl rfl) ?_
   obtain ⟨d2, c3, a0⟩ := aI a0
   refine kE (vs := [i64 b3]) (caps := [bZ a4 k5, bZ a13 k14]) (us := [i64 b3, bZ a4 k5, bZ a13 k14]) rfl Tryz.call190 rfl rfl (aAK a5 h6 h9 h12 h15 c3) ?_
   rintro _ d3 ⟨rfl, b5⟩
   refine aF (aA ?_)
   rcases aJ a0 with ⟨a8, a0⟩ | ⟨a8, a0⟩
   ·refine aO a8 rfl (aH (aB (aC (aD (v := i64 a2) rfl) (aC (aG (v := i64 a2) rfl) (aF (aA (bB (bN (aQ (aQ ?_))))))))))
    have c4 := a9 _ (Option.some.inj a0).symm
    subst c4
    have hm : (some a2) = some R := hm
    have c5 := Option.some.inj hm
    subst c5
    exact bN (aQ (aQ (aZ Tryz.results231 rfl ⟨rfl, b5⟩)))
   ·exact aM a8 rfl (aX (bG (aA (aB (aC (cI a3 rfl) (aC (aD (v := i64 (wr (a2 + 1))) rfl) (aF (aA ⟨wr (a2 + 1), (Option.some.inj a0).symm, b0, b1, b2, rfl, b5⟩))))))))
  ·refine aM a6 rfl (bY (aY (aY ?_)))
   have c6 := a9 _ (Option.some.inj a0).symm
   subst c6
   have hm : (eK) = some R := hm
   exact bO (aA ⟨hm, a5⟩)
theorem nT {s_ : (List Int)} {f_c0_ : mR} {k5 : Nat} {f_c1_ : Int} {k14 : Nat} {R : Bool} (hs : aN G K (L) w) (h3 : bX K a1 c2 s_) (h6 : fN K a4 k5 [Value.slice a7 f_c0_.leave.length c8, Value.slice a10 f_c0_.stay.length c11]) (h9 : bX K a7 c8 f_c0_.leave) (h12 : bX K a10 c11 f_c0_.stay) (h15 : fN K a13 k14 [i64 f_c1_]) (hm : dQ s_ f_c0_ f_c1_ = some R) :
  Calls Tryz.prog 188 ([Value.slice a1 s_.length c2, Value.func (.func 190) #[] #[bZ a4 k5, bZ a13 k14]] : List Value).toArray w (fW fun v w' => v = Value.bool R ∧ aN G K (L) w') := by
 refine aU Tryz.func188 rfl (by kernel_rfl) (by show (2 : Nat) ≤ 9; decide) ?_
 unfold dQ at hm
 refine aH (aB (aC (aG (v := Value.bool false) rfl) (aF (aA (aH (aB (aC (aD (v := Value.slice a1 s_.length c2) rfl) (aC (aD (v := Value.func (.func 190) #[] #[bZ a4 k5, bZ a13 k14]) rfl) ?_))))))))
 obtain ⟨a0, a2, hm⟩ := aI hm
 refine aW (vs := [Value.slice a1 s_.length c2, Value.func (.func 190) #[] #[bZ a4 k5, bZ a13 k14]]) Tryz.call231 rfl (oV hs h3 h6 h9 h12 h15 a2) ?_
 rintro _ a6 ⟨rfl, a3⟩
 refine aC (tX rfl rfl) (aC (aG (v := Value.bool (decide (0 ≤ a0))) rfl) (aF (aA ?_)))
 have a5 := Option.some.inj hm
 subst a5
 exact bB (aZ Tryz.results188 rfl ⟨rfl, a3⟩)
theorem wZ {j : mR} {states : (List Int)} {y : Int} {R : Int} (hs : aN G K (L) w) (h3 : bX K a1 c2 j.leave) (h6 : bX K a4 c5 j.stay) (h9 : bX K a7 c8 states) (hm : lP j states y = some R) :
  Calls Tryz.prog 133 ([Value.agg #[Value.slice a1 j.leave.length c2, Value.slice a4 j.stay.length c5], Value.slice a7 states.length c8, i64 y] : List Value).toArray w (fW fun v w' => v = i64 R ∧ aN G K (L) w') := by
 refine aU Tryz.func133 rfl (by kernel_rfl) (by show (3 : Nat) ≤ 19; decide) ?_
 unfold lP at hm
 refine aH (aB (dU (v := Value.agg #[Value.slice a1 j.leave.length c2, Value.slice a4 j.stay.length c5]) (vs := [Value.slice a1 j.leave.length c2, Value.slice a4 j.stay.length c5]) hs rfl rfl (fun a0 e3 b5 => (dU (v := i64 y) (vs := [i64 y]) b5 rfl rfl (fun a2 e4 a6 => (aC (aG (v := i64 0) rfl) (aF (aA (aH (aH (aB (aC (cA cM a6 (i := 0) rfl rfl rfl) (aC (cE rfl rfl) (aF (aA ?_)))))))))))))))
 rcases aJ hm with ⟨a8, hm⟩ | ⟨a8, hm⟩
 ·refine aO a8 rfl (aH (aB (aC (aG (v := i64 2) rfl) (aF (aA ?_)))))
  have b6 := Option.some.inj hm
  subst b6
  exact bB (aQ (aZ Tryz.results133 rfl ⟨rfl, (aN.arr 2 [] a6 rfl)⟩))
 ·refine aM a8 rfl (aX (aA (aH (cK (aH (aB (aC (aD (v := Value.slice a7 states.length c8) rfl) (aC (kU (vs := [Value.pointer (some ⟨a0, 0, none⟩), Value.pointer (some ⟨a2, 0, none⟩)]) rfl) ?_))))))))
  obtain ⟨e5, a9, b7, b8, b9⟩ := aN.lendB (i := 1) a6 rfl
  obtain ⟨e6, a3, c0, c1, c3⟩ := aN.lendB (i := 0) b8 rfl
  obtain ⟨c4, c6, hm⟩ := aI hm
  refine aW (vs := [Value.slice a7 states.length c8, Value.func (.func 189) #[] #[bZ (some ⟨a0, 0, none⟩) 0, bZ (some ⟨a2, 0, none⟩) 0]]) Tryz.call188 rfl (nS c1 (h9.mono (Hp.le_trans a9 a3)) (b7.mono a3) (h3.mono (Hp.le_trans a9 a3)) (h6.mono (Hp.le_trans a9 a3)) c0 c6) ?_
  rintro _ e7 ⟨rfl, c7⟩
  have c9 := c3 _ _ c7
  have b3 := b9 _ _ c9
  refine aC (dN rfl) (aC (aG (v := Value.bool (!c4)) rfl) (aF (aA ?_)))
  rcases aJ hm with ⟨b0, hm⟩ | ⟨b0, hm⟩
  ·refine aO b0 rfl (aH (aB (aC (aG (v := i64 1) rfl) (aF (aA ?_)))))
   have d0 := Option.some.inj hm
   subst d0
   exact bB (bN (aQ (aZ Tryz.results133 rfl ⟨rfl, (aN.arr 2 [] b3 rfl)⟩)))
  ·refine aM b0 rfl (aH (aB (aC (aD (v := Value.slice a7 states.length c8) rfl) (aC (kU (vs := [Value.pointer (some ⟨a0, 0, none⟩), Value.pointer (some ⟨a2, 0, none⟩)]) rfl) ?_))))
   obtain ⟨e8, b1, d1, d2, d3⟩ := aN.lendB (i := 0) b3 rfl
   obtain ⟨e9, a5, d4, d5, d6⟩ := aN.lendB (i := 0) d2 rfl
   obtain ⟨d7, d8, hm⟩ := aI hm
   refine aW (vs := [Value.slice a7 states.length c8, Value.func (.func 190) #[] #[bZ (some ⟨a0, 0, none⟩) 0, bZ (some ⟨a2, 0, none⟩) 0]]) Tryz.call188 rfl (nT d5 (h9.mono (Hp.le_trans b1 a5)) (d1.mono a5) (h3.mono (Hp.le_trans b1 a5)) (h6.mono (Hp.le_trans b1 a5)) d4 d8) ?_
   rintro _ f0 ⟨rfl, d9⟩
   have e0 := d6 _ _ d9
   have b4 := d3 _ _ e0
   refine aC (dN rfl) (aC (aG (v := Value.bool (!d7)) rfl) (aF (aA ?_)))
   rcases aJ hm with ⟨b2, hm⟩ | ⟨b2, hm⟩
   ·refine aO b2 rfl (aH (aB (aC (aG (v := i64 2) rfl) (aF (aA ?_)))))
    have e1 := Option.some.inj hm
    subst e1
    exact bB (bN (aQ (aZ Tryz.results133 rfl ⟨rfl, (aN.arr 2 [] b4 rfl)⟩)))
   ·refine aM b2 rfl (aX (bG (aA (aH (aB (aC (aG (v := i64 0) rfl) (aF (aA ?_))))))))
    have e2 := Option.some.inj hm
    subst e2
    exact bB (aZ Tryz.results133 rfl ⟨rfl, (aN.arr 2 [] b4 rfl)⟩)
theorem aCV {t : dC} {states : (List Int)} {label : bF} {R : (List Int)} (hs : aN G K (L) w) (h3 : bX K a1 c2 t.Labels) (h6 : bX K a4 c5 t.Edges) (h9 : bX K a7 c8 states) (hm : pN t states label = some R) :
  Calls Tryz.prog 134 ([Value.agg #[i64 t.States, i64 t.Initial, Value.slice a1 t.Labels.length c2, Value.slice a4 t.Edges.length c5], Value.slice a7 states.length c8, cF label] : List Value).toArray w (fW fun v w' => ∃ (ra0 : Option Addr) (rc0 : Nat), v = Value.slice ra0 R.length rc0 ∧ aN G K (aT 2 K ra0 rc0 R :: L) w') := by
 refine aU Tryz.func134 rfl (by kernel_rfl) (by show (3 : Nat) ≤ 13; decide) ?_
 unfold pN at hm
 refine aH (aB (dU (v := Value.agg #[i64 t.States, i64 t.Initial, Value.slice a1 t.Labels.length c2, Value.slice a4 t.Edges.length c5]) (vs := [i64 t.States, i64 t.Initial, Value.slice a1 t.Labels.length c2, Value.slice a4 t.Edges.length c5]) hs rfl rfl (fun d1 d2 b2 => (aC (aG (v := Value.slice none 0 0) rfl) (aF (aA (aH ?_)))))))
 obtain ⟨b3, a0, a3, a5, b4⟩ := aN.lendB (i := 0) b2 rfl
 refine gV (C := fun w' => ∃ L', aN G b3 L' w') [(0, 0), (1, 0), (2, 0), (3, 0), (4, 1), (5, 1), (6, 0)] bR (by kernel_rfl) (fun _ hg => ⟨_, aN.mono a5 hg⟩) (fun d3 b5 => ?_)
 have a2 := aN.mono a5 b5
 refine cL rfl (fun _ ⟨_, a2⟩ => fO (t := 0) (vs := [i64 t.States, i64 t.Initial, Value.slice a1 t.Labels.length c2, Value.slice a4 t.Edges.length c5]) gT a2 a3 rfl rfl rfl) (cL rfl (fun _ ⟨_, a2⟩ => fO (t := 0) (vs := [i64 t.States, i64 t.Initial, Value.slice a1 t.Labels.length c2, Value.slice a4 t.Edges.length c5]) gT a2 a3 rfl rfl rfl) (cL rfl (fun _ _ => aD (v := Value.slice a7 states.length c8) rfl) (cL rfl (fun _ _ => aD (v := cF label) rfl) (oB rfl ?_))))
 obtain ⟨b6, b7, hm⟩ := aI hm
 refine aW (vs := [Value.agg #[i64 t.States, i64 t.Initial, Value.slice a1 t.Labels.length c2, Value.slice a4 t.Edges.length c5], Value.slice a7 states.length c8, cF label]) Tryz.call181 rfl (vF a2 (h3.mono a0) (h6.mono a0) (h9.mono a0) b7) ?_
 rintro _ d4 ⟨b8, b9, rfl, a6⟩
 refine aF (aA ⟨⟨_, a6⟩, ?_⟩)
 refine oB rfl ?_
 obtain ⟨d5, a8, c0, c1, c3⟩ := aN.lendS (i := 0) a6 a0 rfl
 obtain ⟨c4, c6, hm⟩ := aI hm
 refine aW (vs := [Value.agg #[i64 t.States, i64 t.Initial, Value.slice a1 t.Labels.length c2, Value.slice a4 t.Edges.length c5], Value.slice b8 b6.length b9]) Tryz.call127 rfl (mW c1 (h3.mono (Hp.le_trans a0 a8)) (h6.mono (Hp.le_trans a0 a8)) c0 c6) ?_
 rintro _ d6 ⟨a9, b0, rfl, c7⟩
 have b1 := c3 _ _ c7
 refine aF (aA ⟨⟨_, b1⟩, ?_⟩)
 refine cL rfl (fun _ _ => aG (v := Value.slice a9 c4.length b0) rfl) (pS ?_)
 have c9 := b4 _ _ b1
 refine aA ?_
 have d0 := Option.some.inj hm
 subst d0
 exact bB (aZ Tryz.results134 rfl ⟨a9, b0, rfl, (aN.arr 2 [] c9 rfl)⟩)
theorem aBu {t : dC} {R : (List lL)} (hs : aN G K (L) w) (h3 : bX K a1 c2 t.Labels) (h6 : bX K a4 c5 t.Edges) (hm : vV t = some R) :
  Calls Tryz.prog 136 ([Value.agg #[i64 t.States, i64 t.Initial, Value.slice a1 t.Labels.length c2, Value.slice a4 t.Edges.length c5]] : List Value).toArray w (fW fun v w' => ∃ (ra0 : Option Addr) (rc0 : Nat), v = Value.slice ra0 R.length rc0 ∧ aN G K (aT 70 K ra0 rc0 R :: L) w') := by
 refine aU Tryz.func136 rfl (by kernel_rfl) (by show (1 : Nat) ≤ 29; decide) ?_
 unfold vV at hm
 refine aH (aB (dU (v := Value.agg #[i64 t.States, i64 t.Initial, Value.slice a1 t.Labels.length c2, Value.slice a4 t.Edges.length c5]) (vs := [i64 t.States, i64 t.Initial, Value.slice a1 t.Labels.length c2, Value.slice a4 t.Edges.length c5]) hs rfl rfl (fun b7 w8 c6 => (aC (aG (v := Value.slice none 0 0) rfl) (aF (aA (aH (aB (aC (aG (v := Value.slice none 0 0) rfl) (aF (aA (aH (aH (aB (aC (bI (t' := 3) dI rfl rfl) (aC (cA iC c6 (i := 0) rfl rfl rfl) (aC (bU (len := t.Edges.length) cR rfl) (aC (aD (v := i64 0) rfl) (aF (aA (bC (fun f w => ∃ (b0 : List lL) (b1 : Option Addr) (b2 : Nat), wK b0 = some R ∧ f 3 = Value.slice b1 b0.length b2 ∧ aN G K (aT 70 K b1 b2 b0 :: L) w) ?_ ?_)))))))))))))))))))))
 ·rintro f g4 ⟨b0, b1, b2, hm, d6, d7⟩
  unfold wK at hm
  refine aA (aH (aB (aC (aD d6) (aC (aG (v := Value.slice b1 b0.length b2) rfl) (aF (aA ?_))))))
  have d8 := Option.some.inj hm
  subst d8
  exact bB (aZ Tryz.results136 rfl ⟨b1, b2, rfl, d7⟩)
 have d9 := aN.nil (α := lL) c6 70 K
 obtain ⟨g5, e0, hm⟩ := aI hm
 refine cD e0 (fun (s : (List lL × Int)) f w => match s with | (a5, b3) => ∃ (a7 : Option Addr) (a8 : Nat), f 1 = Value.pointer (some ⟨b7, 0, none⟩) ∧ f 3 = Value.slice a7 a5.length a8 ∧ f 7 = Value.slice a4 t.Edges.length c5 ∧ f 8 = i64 (t.Edges.length : Int) ∧ f 9 = i64 b3 ∧ aN G K (aT 70 K a7 a8 a5 :: box b7 30 [i64 t.States, i64 t.Initial, Value.slice a1 t.Labels.length c2, Value.slice a4 t.Edges.length c5] :: L) w) ?_ ?_
 ·exact ⟨none, 0, rfl, rfl, rfl, rfl, rfl, d9⟩
 ·rintro ⟨a5, b3⟩ e1 f g6 a2 e2 ⟨a7, a8, c7, c8, c9, d0, b6, hs45⟩
  replace a2 : pO t a5 b3 = some e1 := a2
  unfold pO at a2
  refine aH (aB (aC (cE b6 d0) (aF (aA (aH ?_)))))
  rcases aJ a2 with ⟨b8, a2⟩ | ⟨b8, a2⟩
  ·refine aO b8 rfl (aX (aA (aH (cK (aH (aB ?_))))))
   obtain ⟨a0, d1, a2⟩ := aI a2
   refine aC (cU cR rfl h6 c9 rfl b6 d1) ?_
   obtain ⟨g7, e3, e4⟩ := bX.el (sz := 3) rfl h6 d1
   cases e4
   refine aC (fO (t := 0) (vs := [i64 a0.From, i64 a0.Label, i64 a0.To]) qC hs45 e3 rfl rfl rfl) (cG (vs := [i64 0, i64 0, i64 0]) Tryz.zeroValue63 hs45 rfl (fun e5 g8 e6 => (cC (i := 0) (ns := [i64 a0.From, i64 a0.Label, i64 a0.To]) (us := [i64 a0.From, i64 a0.Label, i64 a0.To]) Tryz.sizeOf63 e6 rfl rfl rfl rfl rfl (dT rfl) rfl rfl (fun e7 (e8 : aN G K (box e5 63 [i64 a0.From, i64 a0.Label, i64 a0.To] :: aT 70 K a7 a8 a5 :: box b7 30 [i64 t.States, i64 t.Initial, Value.slice a1 t.Labels.length c2, Value.slice a4 t.Edges.length c5] :: L) e7) => (aF (aA ?_))))))
   obtain ⟨g9, b4, b9, e9, f0⟩ := aN.lendB (i := 0) e8 rfl
   obtain ⟨c0, a6, f1, d2, f2⟩ := aN.lendB (i := 1) e9 rfl
   refine gV (C := fun w' => ∃ L', aN G c0 L' w') [(0, 0), (1, 0), (2, 0), (3, 0), (4, 0), (5, 0), (6, 0), (7, 0), (8, 0), (9, 0), (10, 0), (11, 0), (12, 1), (13, 1), (14, 0)] bR (by kernel_rfl) (fun _ hg => ⟨_, aN.mono d2 hg⟩) (fun h0 f3 => ?_)
   have a3 := aN.mono d2 f3
   refine cL rfl (fun _ _ => aD c8) (cL rfl (fun _ _ => bI (t' := 0) iB rfl rfl) (cL rfl (fun _ ⟨_, a3⟩ => bL (t := 0) cM a3 (b9.mono a6) rfl rfl) (cL rfl (fun _ _ => bI (t' := 2) gS c7 rfl) (cL rfl (fun _ ⟨_, a3⟩ => bL (t := 2) nY a3 f1 rfl rfl) (cL rfl (fun _ _ => bI (t' := 1) fP rfl rfl) (cL rfl (fun _ ⟨_, a3⟩ => bL (t := 1) cM a3 (b9.mono a6) rfl rfl) ?_))))))
   obtain ⟨a9, d3, a2⟩ := aI a2
   refine cL rfl (fun _ _ => cU cQ rfl (h3.mono (Hp.le_trans b4 a6)) rfl rfl rfl d3) ?_
   obtain ⟨h1, f4, f5⟩ := bX.el (sz := 1) rfl h3 d3
   cases f5
   refine cL rfl (fun _ ⟨_, a3⟩ => bL (t := 0) oI a3 (f4.mono (Hp.le_trans b4 a6)) rfl rfl) (cL rfl (fun _ _ => bI (t' := 2) iU rfl rfl) (cL rfl (fun _ ⟨_, a3⟩ => bL (t := 2) cM a3 (b9.mono a6) rfl rfl) (cL rfl (fun _ _ => eR (vs := [(0, i64 a0.From), (1, cF a9), (2, i64 a0.To)]) (cs := [i64 a0.From, cF a9, i64 a0.To]) bs_70 rfl (by kernel_rfl)) (oB rfl (eN (Kt := K) (xs := ([⟨a0.From, a9, a0.To⟩] : List lL)) (cs := [i64 a0.From, cF a9, i64 a0.To]) (vs := [(0, Value.agg #[i64 a0.From, cF a9, i64 a0.To])]) zU aCF rfl rfl a3 rfl (by kernel_rfl) rfl rfl rfl ⟨rfl, trivial⟩ (fun f6 f7 (d4 : aN G c0 (aT 70 K f6 1 ([⟨a0.From, a9, a0.To⟩] : List lL) :: aT 70 K a7 a8 a5 :: L) f7) => (aF (aA ⟨⟨_, d4⟩, ?_⟩))))))))
   refine oB rfl ?_
   obtain ⟨c1, f8, a2⟩ := aI a2
   refine iZ (i := 0) zU Tryz.underlying68 aCF rfl rfl d4 rfl (Hp.le_trans b4 a6) (Hp.le_trans b4 a6) f8 rfl rfl rfl rfl (fun _ h => h) (fun c3 c4 f9 (d5 : aN G c0 (aT 70 K c3 c4 c1 :: L) f9) => (aF (aA ⟨⟨_, d5⟩, ?_⟩)))
   refine cL rfl (fun _ _ => aG (v := Value.slice c3 c1.length c4) rfl) (pS ?_)
   have g0 := f2 _ _ d5
   have g1 := f0 _ _ g0
   exact bG (aA (aB (aC (cI b6 rfl) (aC (aD (v := i64 (wr (b3 + 1))) rfl) (aF (aA ⟨(c1, wr (b3 + 1)), (Option.some.inj a2).symm, c3, c4, c7, rfl, c9, d0, rfl, (aN.arr 3 [2, 1] g1 rfl)⟩))))))
  ·refine aM b8 rfl (bY (aY (aY ?_)))
   have g2 := e2 _ (Option.some.inj a2).symm
   subst g2
   have hm : (wK a5) = some R := hm
   exact bO (aA ⟨a5, a7, a8, hm, c8, (aN.arr 2 [0] hs45 rfl)⟩)
theorem gP {x0_ : (List cB)} {x1_M : (List (bF × Int))} {r4 : Nat} {x2_ : (List lL)} {s_ : cB} {R : (Int × (List cB) × (List (bF × Int)))} (hs : aN G K (aT 162 Kf a2 c3 x0_ :: vO r4 x1_M :: aT 70 K a5 c6 x2_ :: box b1 223 [Value.slice a2 x0_.length c3, Value.map (some r4), Value.slice a5 x2_.length c6, Value.func (.func 128) #[] #[]] :: L) w) (hG : G.lo = 0) (hKf : Hp.le Kf K) (h9 : bX Kf a7 c8 s_.states) (hm : dE x0_ x1_M x2_ s_ = some R) :
  Calls Tryz.prog 185 ([Value.pointer (some ⟨b1, 0, none⟩), Value.agg #[Value.slice a7 s_.states.length c8, i64 s_.y]] : List Value).toArray w (fW fun v w' => ∃ (ra0 : Option Addr) (rc0 : Nat), v = i64 R.1 ∧ aN G K (aT 162 Kf ra0 rc0 R.2.1 :: vO r4 R.2.2 :: aT 70 K a5 c6 x2_ :: box b1 223 [Value.slice ra0 R.2.1.length rc0, Value.map (some r4), Value.slice a5 x2_.length c6, Value.func (.func 128) #[] #[]] :: L) w') := by
 refine aU Tryz.func185 rfl (by kernel_rfl) (by show (2 : Nat) ≤ 47; decide) ?_
 unfold dE at hm
 refine aH (aB (dU (v := Value.agg #[Value.slice a7 s_.states.length c8, i64 s_.y]) (vs := [Value.slice a7 s_.states.length c8, i64 s_.y]) hs rfl rfl (fun b9 g1 c9 => (aC (aG (v := i64 0) rfl) (aF (aA (aH ?_)))))))
 obtain ⟨g2, d0, d1, d2, d3⟩ := aN.lendB (i := 0) c9 rfl
 obtain ⟨d4, c0, d5, c1, d6⟩ := aN.lendB (i := 3) d2 rfl
 refine gV (C := fun w' => ∃ L', aN G d4 L' w') [(0, 0), (1, 0), (2, 0), (3, 0), (4, 0), (5, 1), (6, 0)] bR (by kernel_rfl) (fun _ hg => ⟨_, aN.mono c1 hg⟩) (fun g3 d7 => ?_)
 have a8 := aN.mono c1 d7
 refine cL rfl (fun _ _ => aD (v := Value.pointer (some ⟨b1, 0, none⟩)) rfl) (cL rfl (fun _ _ => qB rfl) (cL rfl (fun _ _ => bI (t' := 3) fa_223_3 rfl rfl) (cL rfl (fun _ ⟨_, a8⟩ => bL (t := 3) sc_165 a8 d5 rfl rfl) (cL rfl (fun _ ⟨_, a8⟩ => fO (t := 0) (vs := [Value.slice a7 s_.states.length c8, i64 s_.y]) aCR a8 (d1.mono c0) rfl rfl rfl) (oB rfl ?_)))))
 obtain ⟨a0, d8, hm⟩ := aI hm
 refine kE (vs := [Value.agg #[Value.slice a7 s_.states.length c8, i64 s_.y]]) (caps := []) (us := [Value.agg #[Value.slice a7 s_.states.length c8, i64 s_.y]]) rfl Tryz.call128 rfl rfl (zC a8 hG (h9.mono (Hp.le_trans (Hp.le_trans hKf d0) c0)) d8) ?_
 rintro _ g4 ⟨rfl, c2⟩
 refine aF (aA ⟨⟨_, c2⟩, ?_⟩)
 refine cL rfl (fun _ _ => aG (v := cF a0) rfl) (pS ?_)
 have d9 := d6 _ _ c2
 have a1 := d3 _ _ d9
 refine aA (aH (aB (aC (aD (v := Value.pointer (some ⟨b1, 0, none⟩)) rfl) (aC (qB rfl) (aC (bI (t' := 1) aHE rfl rfl) (aC (cA sc_221 a1 (i := 1) rfl rfl rfl) (aC (aD (v := cF a0) rfl) (aC (R_look (kv := x1_M) (k := a0) (z := (0 : Int)) Tryz.runUnderlying221 ko_9 Tryz.zeroValue2 a1 (i := 3) rfl rfl rfl) (aC (aD (v := Value.tuple #[i64 ((aAo x1_M a0).getD 0), Value.bool ((aAo x1_M a0).isSome)]) rfl) (aC (cZ rfl rfl) (aC (cZ rfl rfl) (aC (aG (v := i64 ((aAo x1_M a0).getD 0)) rfl) (aC (aG (v := Value.bool ((aAo x1_M a0).isSome)) rfl) (aF (aA (aCK (fun f w => ∃ (b2 : Int) (b3 : List cB) (b6 : (List (bF × Int))) (b4 : Option Addr) (b5 : Nat), eG b2 b3 b6 = some R ∧ f 6 = i64 b2 ∧ aN G K (aT 162 Kf b4 b5 b3 :: box b1 223 [Value.slice b4 b3.length b5, Value.map (some r4), Value.slice a5 x2_.length c6, Value.func (.func 128) #[] #[]] :: vO r4 b6 :: aT 70 K a5 c6 x2_ :: L) w) ?_ ?_))))))))))))))))
 ·rintro f g5 ⟨b2, b3, b6, b4, b5, hm, e0, e1⟩
  unfold eG at hm
  refine aH (aB (aC (aD e0) (aC (aG (v := i64 b2) rfl) (aF (aA ?_)))))
  have e2 := Option.some.inj hm
  subst e2
  exact bB (aZ Tryz.results185 rfl ⟨b4, b5, rfl, (aN.arr 4 [0, 2, 3, 1] e1 rfl)⟩)
 refine aH (aB (aC (aD (v := Value.bool ((aAo x1_M a0).isSome)) rfl) (aC (dN rfl) (aF (aA ?_)))))
 rcases aJ hm with ⟨b7, hm⟩ | ⟨b7, hm⟩
 ·refine aO b7 rfl (aH (aB (aC (aD (v := Value.pointer (some ⟨b1, 0, none⟩)) rfl) (aC (qB rfl) (aC (bI (t' := 0) wO rfl rfl) (aC (cA aCS a1 (i := 1) rfl rfl rfl) (aC (bU (len := x0_.length) aAY rfl) (aC (aG (v := i64 (x0_.length : Int)) rfl) (aF (aA (aH (aB (aC (aD (v := Value.pointer (some ⟨b1, 0, none⟩)) rfl) (aC (qB rfl) (aC (bI (t' := 1) aHE rfl rfl) (aC (cA sc_221 a1 (i := 1) rfl rfl rfl) (aC (aD (v := cF a0) rfl) (aC (aD (v := i64 (x0_.length : Int)) rfl) ?_))))))))))))))))))
  obtain ⟨a9, e3, hm⟩ := aI hm
  refine WO_mapUp (i := 3) (k := a0) (v := (x0_.length : Int)) Tryz.runUnderlying221 ko_9 a1 rfl rfl rfl rfl e3 (fun e4 (e5 : aN G K (box b9 162 [Value.slice a7 s_.states.length c8, i64 s_.y] :: box b1 223 [Value.slice a2 x0_.length c3, Value.map (some r4), Value.slice a5 x2_.length c6, Value.func (.func 128) #[] #[]] :: aT 162 Kf a2 c3 x0_ :: vO r4 a9 :: aT 70 K a5 c6 x2_ :: L) e4) => (aF (aA ?_)))
  obtain ⟨g6, g7, e6, e7, e8⟩ := aN.lendB (i := 0) e5 rfl
  obtain ⟨b8, e9, f0, c4, f1⟩ := aN.lendB (i := 0) e7 rfl
  refine gV (C := fun w' => ∃ L', aN G b8 L' w') [(0, 0), (1, 0), (2, 0), (3, 0), (4, 0), (5, 1), (6, 1), (7, 1), (8, 2), (9, 2), (10, 2)] bR (by kernel_rfl) (fun _ hg => ⟨_, aN.mono c4 hg⟩) (fun g8 f2 => ?_)
  have b0 := aN.mono c4 f2
  refine cL rfl (fun _ _ => aD (v := Value.pointer (some ⟨b1, 0, none⟩)) rfl) (cL rfl (fun _ _ => aD (v := Value.pointer (some ⟨b1, 0, none⟩)) rfl) (cL rfl (fun _ _ => qB rfl) (cL rfl (fun _ _ => bI (t' := 0) wO rfl rfl) (cL rfl (fun _ ⟨_, b0⟩ => bL (t := 0) aCS b0 f0 rfl rfl) (oB rfl (aC (fO (t := 0) (vs := [Value.slice a7 s_.states.length c8, i64 s_.y]) aCR b0 (e6.mono e9) rfl rfl rfl) (aF (aA ⟨⟨_, b0⟩, ?_⟩))))))))
  refine oB rfl (eN (Kt := Kf) (xs := ([s_] : List cB)) (cs := [Value.slice a7 s_.states.length c8, i64 s_.y]) (vs := [(0, Value.agg #[Value.slice a7 s_.states.length c8, i64 s_.y])]) aAY ez_162 rfl rfl b0 rfl (by kernel_rfl) rfl rfl rfl ⟨⟨a7, c8, rfl, h9⟩, trivial⟩ (fun f3 f4 (c5 : aN G b8 (aT 162 Kf f3 1 ([s_] : List cB) :: aT 162 Kf a2 c3 x0_ :: vO r4 a9 :: aT 70 K a5 c6 x2_ :: L) f4) => (aF (aA ⟨⟨_, c5⟩, ?_⟩))))
  refine oB rfl ?_
  obtain ⟨a3, f5, hm⟩ := aI hm
  refine WO_appO (i := 0) Kf aAY Tryz.underlying166 ez_162 rfl rfl c5 rfl (Hp.le_refl _) (Hp.le_refl _) f5 rfl rfl rfl rfl (fun _ _ _ h => El.one h) (fun a4 a6 f6 (c7 : aN G b8 (aT 162 Kf a4 a6 a3 :: vO r4 a9 :: aT 70 K a5 c6 x2_ :: L) f6) => (aF (aA ⟨⟨_, c7⟩, ?_⟩)))
  have f7 := f1 _ _ c7
  have f8 := e8 _ _ f7
  exact WE_s rfl (aC (qB rfl) (aF (aA (WE_s rfl (aC (bI (t' := 0) wO rfl rfl) (aF (aA (WE_s rfl (cC (i := 1) (ns := [Value.slice a4 a3.length a6]) (us := [Value.slice a4 a3.length a6, Value.map (some r4), Value.slice a5 x2_.length c6, Value.func (.func 128) #[] #[]]) Tryz.sizeOf166 f8 rfl rfl rfl rfl rfl (dT rfl) rfl rfl (fun f9 (g0 : aN G K (box b9 162 [Value.slice a7 s_.states.length c8, i64 s_.y] :: box b1 223 [Value.slice a4 a3.length a6, Value.map (some r4), Value.slice a5 x2_.length c6, Value.func (.func 128) #[] #[]] :: aT 162 Kf a4 a6 a3 :: vO r4 a9 :: aT 70 K a5 c6 x2_ :: L) f9) => (aF (aA (pS (aA ⟨(x0_.length : Int), a3, a9, a4, a6, hm, rfl, (aN.arr 3 [2, 1] g0 rfl)⟩))))))))))))))
 ·exact aM b7 rfl (aX (aA ⟨((aAo x1_M a0).getD 0), x0_, x1_M, a2, c3, hm, rfl, (aN.arr 3 [2, 1] a1 rfl)⟩))
theorem vH {label : bF} {next : cB} {p0_ : (List cB)} {p1_M : (List (bF × Int))} {r8 : Nat} {p2_ : (List lL)} {p : Int} {k12 : Nat} {R : ((List cB) × (List (bF × Int)) × (List lL))} (hs : aN G K (aT 162 Kf a6 c7 p0_ :: vO r8 p1_M :: aT 70 K a9 c10 p2_ :: box b5 223 [Value.slice a6 p0_.length c7, Value.map (some r8), Value.slice a9 p2_.length c10, Value.func (.func 128) #[] #[]] :: box b4 220 [Value.pointer (some ⟨b5, 0, none⟩)] :: L) w) (hG : G.lo = 0) (hKf : Hp.le Kf K) (h3 : bX Kf a1 c2 next.states) (h13 : fN K a11 k12 [i64 p]) (hm : iQ label next p0_ p1_M p2_ p = some R) :
  Calls Tryz.prog 186 ([cF label, Value.agg #[Value.slice a1 next.states.length c2, i64 next.y], Value.pointer (some ⟨b4, 0, none⟩), bZ a11 k12] : List Value).toArray w (fW fun v w' => ∃ (ra0 : Option Addr) (rc0 : Nat) (ra1 : Option Addr) (rc1 : Nat), v = Value.tuple #[] ∧ aN G K (aT 162 Kf ra0 rc0 R.1 :: vO r8 R.2.1 :: aT 70 K ra1 rc1 R.2.2 :: box b5 223 [Value.slice ra0 R.1.length rc0, Value.map (some r8), Value.slice ra1 R.2.2.length rc1, Value.func (.func 128) #[] #[]] :: box b4 220 [Value.pointer (some ⟨b5, 0, none⟩)] :: L) w') := by
 refine aU Tryz.func186 rfl (by kernel_rfl) (by show (4 : Nat) ≤ 21; decide) ?_
 unfold iQ at hm
 refine aH (aB (dU (v := Value.agg #[Value.slice a1 next.states.length c2, i64 next.y]) (vs := [Value.slice a1 next.states.length c2, i64 next.y]) hs rfl rfl (fun h8 h9 e7 => (aF (aA (cH (fun f w => ∃ (c6 : List cB) (d7 : (List (bF × Int))) (c8 : List lL) (c9 : Option Addr) (d0 : Nat) (d1 : Option Addr) (d2 : Nat), gO c6 d7 c8 = some R ∧ aN G K (aT 70 K d1 d2 c8 :: aT 162 Kf c9 d0 c6 :: vO r8 d7 :: box b5 223 [Value.slice c9 c6.length d0, Value.map (some r8), Value.slice d1 c8.length d2, Value.func (.func 128) #[] #[]] :: box b4 220 [Value.pointer (some ⟨b5, 0, none⟩)] :: L) w) ?_ ?_))))))
 ·rintro f i0 ⟨c6, d7, c8, c9, d0, d1, d2, hm, e8⟩
  unfold gO at hm
  have e9 := Option.some.inj hm
  subst e9
  exact aCj Tryz.results186 ⟨c9, d0, d1, d2, rfl, (aN.arr 3 [1, 2, 0] e8 rfl)⟩
 obtain ⟨i1, b0, f0, f1, d8⟩ := aN.lendB (i := 0) e7 rfl
 obtain ⟨a7, a8, d9, f2, e0⟩ := aN.lendB (i := 4) f1 rfl
 refine aAs (C := fun w' => ∃ L', aN G a7 L' w') [] bR (by kernel_rfl) (fun i2 f3 => ?_)
 have a2 := aN.mono f2 f3
 refine jB (i := 0) rfl (by kernel_rfl) ⟨_, a2⟩ (fun _ ⟨_, a2⟩ => bL (t := 0) yK a2 d9 rfl rfl) (jB (i := 1) rfl (by kernel_rfl) ⟨_, a2⟩ (fun _ ⟨_, a2⟩ => bL (t := 0) yK a2 d9 rfl rfl) (jB (i := 2) rfl (by kernel_rfl) ⟨_, a2⟩ (fun _ _ => qB rfl) (jB (i := 3) rfl (by kernel_rfl) ⟨_, a2⟩ (fun _ _ => bI (t' := 2) aAw rfl rfl) (jB (i := 5) rfl (by kernel_rfl) ⟨_, a2⟩ (fun _ ⟨_, a2⟩ => bL (t := 0) sc_3 a2 (h13.mono (Hp.le_trans b0 a8)) rfl rfl) (jB (i := 6) rfl (by kernel_rfl) ⟨_, a2⟩ (fun _ _ => aD (v := cF label) rfl) (jB (i := 7) rfl (by kernel_rfl) ⟨_, a2⟩ (fun _ ⟨_, a2⟩ => bL (t := 0) yK a2 d9 rfl rfl) (jB (i := 8) rfl (by kernel_rfl) ⟨_, a2⟩ (fun _ ⟨_, a2⟩ => fO (t := 0) (vs := [Value.slice a1 next.states.length c2, i64 next.y]) aCR a2 (f0.mono a8) rfl rfl rfl) (zR (i := 4) (j := 9) (by kernel_rfl) rfl rfl ?_ ?_))))))))
 ·refine aC (cA sc_68 a2 (i := 3) rfl rfl rfl) (aF (aA ⟨fun _ => ⟨_, a2⟩, ?_⟩))
  refine eO (i := 9) (by kernel_rfl) rfl ?_
  obtain ⟨a3, f4, hm⟩ := aI hm
  refine aW (vs := [Value.pointer (some ⟨b5, 0, none⟩), Value.agg #[Value.slice a1 next.states.length c2, i64 next.y]]) Tryz.call185 rfl (gP (Kf := Kf) a2 hG (Hp.le_trans (Hp.le_trans hKf b0) a8) h3 f4) ?_
  rintro _ i3 ⟨b1, b2, rfl, e1⟩
  refine aF (aA ⟨fun _ => ⟨_, e1⟩, ?_⟩)
  refine jB (i := 10) rfl (by kernel_rfl) ⟨_, e1⟩ (fun _ _ => eR (vs := [(0, i64 p), (1, cF label), (2, i64 a3.1)]) (cs := [i64 p, cF label, i64 a3.1]) bs_70 rfl (by kernel_rfl)) (eO (i := 11) (by kernel_rfl) rfl (eN (Kt := K) (xs := ([⟨p, label, a3.1⟩] : List lL)) (cs := [i64 p, cF label, i64 a3.1]) (vs := [(0, Value.agg #[i64 p, cF label, i64 a3.1])]) zU aCF rfl rfl e1 rfl (by kernel_rfl) rfl rfl rfl ⟨rfl, trivial⟩ (fun f5 f6 (e2 : aN G a7 (aT 70 K f5 1 ([⟨p, label, a3.1⟩] : List lL) :: aT 162 Kf b1 b2 a3.2.1 :: vO r8 a3.2.2 :: aT 70 K a9 c10 p2_ :: box b5 223 [Value.slice b1 a3.2.1.length b2, Value.map (some r8), Value.slice a9 p2_.length c10, Value.func (.func 128) #[] #[]] :: L) f6) => (aF (aA ⟨fun _ => ⟨_, e2⟩, ?_⟩)))))
  refine eO (i := 12) (by kernel_rfl) rfl ?_
  obtain ⟨b3, f7, hm⟩ := aI hm
  refine iZ (i := 2) zU Tryz.underlying68 aCF rfl rfl e2 rfl (Hp.le_trans b0 a8) (Hp.le_trans b0 a8) f7 rfl rfl rfl rfl (fun _ h => h) (fun b6 b7 f8 (d3 : aN G a7 (aT 162 Kf b1 b2 a3.2.1 :: vO r8 a3.2.2 :: aT 70 K b6 b7 b3 :: box b5 223 [Value.slice b1 a3.2.1.length b2, Value.map (some r8), Value.slice a9 p2_.length c10, Value.func (.func 128) #[] #[]] :: L) f8) => (aF (aA ⟨fun _ => ⟨_, d3⟩, ?_⟩)))
  refine jB (i := 13) rfl (by kernel_rfl) ⟨_, d3⟩ (fun _ _ => qB rfl) (jB (i := 14) rfl (by kernel_rfl) ⟨_, d3⟩ (fun _ _ => bI (t' := 2) aAw rfl rfl) (eO (i := 15) (by kernel_rfl) rfl (cC (i := 3) (ns := [Value.slice b6 b3.length b7]) (us := [Value.slice b1 a3.2.1.length b2, Value.map (some r8), Value.slice b6 b3.length b7, Value.func (.func 128) #[] #[]]) Tryz.sizeOf68 d3 rfl rfl rfl rfl rfl (dT rfl) rfl rfl (fun f9 (e3 : aN G a7 (aT 162 Kf b1 b2 a3.2.1 :: vO r8 a3.2.2 :: aT 70 K b6 b7 b3 :: box b5 223 [Value.slice b1 a3.2.1.length b2, Value.map (some r8), Value.slice b6 b3.length b7, Value.func (.func 128) #[] #[]] :: L) f9) => (aF (aA ⟨fun _ => ⟨_, e3⟩, ?_⟩))))))
  refine rC (by kernel_rfl) ?_
  have g0 := e0 _ _ e3
  have g1 := d8 _ _ g0
  exact aA ⟨a3.2.1, a3.2.2, b3, b1, b2, b6, b7, hm, (aN.arr 6 [4, 2, 3, 5, 1] g1 rfl)⟩
 ·obtain ⟨a0, g2, hm⟩ := aI hm
  refine aW (vs := [Value.pointer (some ⟨b5, 0, none⟩), Value.agg #[Value.slice a1 next.states.length c2, i64 next.y]]) Tryz.call185 rfl (gP (Kf := Kf) a2 hG (Hp.le_trans (Hp.le_trans hKf b0) a8) h3 g2) ?_
  rintro _ i4 ⟨a4, a5, rfl, b8⟩
  refine aF (aA ⟨fun _ => ⟨_, b8⟩, ?_⟩)
  refine jB (i := 10) rfl (by kernel_rfl) ⟨_, b8⟩ (fun _ _ => eR (vs := [(0, i64 p), (1, cF label), (2, i64 a0.1)]) (cs := [i64 p, cF label, i64 a0.1]) bs_70 rfl (by kernel_rfl)) (zR (i := 4) (j := 11) (by kernel_rfl) rfl rfl ?_ ?_)
  ·refine aC (cA sc_68 b8 (i := 3) rfl rfl rfl) (aF (aA ⟨fun _ => ⟨_, b8⟩, ?_⟩))
   refine eO (i := 11) (by kernel_rfl) rfl (eN (Kt := K) (xs := ([⟨p, label, a0.1⟩] : List lL)) (cs := [i64 p, cF label, i64 a0.1]) (vs := [(0, Value.agg #[i64 p, cF label, i64 a0.1])]) zU aCF rfl rfl b8 rfl (by kernel_rfl) rfl rfl rfl ⟨rfl, trivial⟩ (fun g3 g4 (e4 : aN G a7 (aT 70 K g3 1 ([⟨p, label, a0.1⟩] : List lL) :: aT 162 Kf a4 a5 a0.2.1 :: vO r8 a0.2.2 :: aT 70 K a9 c10 p2_ :: box b5 223 [Value.slice a4 a0.2.1.length a5, Value.map (some r8), Value.slice a9 p2_.length c10, Value.func (.func 128) #[] #[]] :: L) g4) => (aF (aA ⟨fun _ => ⟨_, e4⟩, ?_⟩))))
   refine eO (i := 12) (by kernel_rfl) rfl ?_
   obtain ⟨b9, g5, hm⟩ := aI hm
   refine iZ (i := 2) zU Tryz.underlying68 aCF rfl rfl e4 rfl (Hp.le_trans b0 a8) (Hp.le_trans b0 a8) g5 rfl rfl rfl rfl (fun _ h => h) (fun c0 c1 g6 (d4 : aN G a7 (aT 162 Kf a4 a5 a0.2.1 :: vO r8 a0.2.2 :: aT 70 K c0 c1 b9 :: box b5 223 [Value.slice a4 a0.2.1.length a5, Value.map (some r8), Value.slice a9 p2_.length c10, Value.func (.func 128) #[] #[]] :: L) g6) => (aF (aA ⟨fun _ => ⟨_, d4⟩, ?_⟩)))
   refine jB (i := 13) rfl (by kernel_rfl) ⟨_, d4⟩ (fun _ _ => qB rfl) (jB (i := 14) rfl (by kernel_rfl) ⟨_, d4⟩ (fun _ _ => bI (t' := 2) aAw rfl rfl) (eO (i := 15) (by kernel_rfl) rfl (cC (i := 3) (ns := [Value.slice c0 b9.length c1]) (us := [Value.slice a4 a0.2.1.length a5, Value.map (some r8), Value.slice c0 b9.length c1, Value.func (.func 128) #[] #[]]) Tryz.sizeOf68 d4 rfl rfl rfl rfl rfl (dT rfl) rfl rfl (fun g7 (e5 : aN G a7 (aT 162 Kf a4 a5 a0.2.1 :: vO r8 a0.2.2 :: aT 70 K c0 c1 b9 :: box b5 223 [Value.slice a4 a0.2.1.length a5, Value.map (some r8), Value.slice c0 b9.length c1, Value.func (.func 128) #[] #[]] :: L) g7) => (aF (aA ⟨fun _ => ⟨_, e5⟩, ?_⟩))))))
   refine rC (by kernel_rfl) ?_
   have g8 := e0 _ _ e5
   have g9 := d8 _ _ g8
   exact aA ⟨a0.2.1, a0.2.2, b9, a4, a5, c0, c1, hm, (aN.arr 6 [4, 2, 3, 5, 1] g9 rfl)⟩
  ·refine eN (Kt := K) (xs := ([⟨p, label, a0.1⟩] : List lL)) (cs := [i64 p, cF label, i64 a0.1]) (vs := [(0, Value.agg #[i64 p, cF label, i64 a0.1])]) zU aCF rfl rfl b8 rfl (by kernel_rfl) rfl rfl rfl ⟨rfl, trivial⟩ (fun h0 h1 (d5 : aN G a7 (aT 70 K h0 1 ([⟨p, label, a0.1⟩] : List lL) :: aT 162 Kf a4 a5 a0.2.1 :: vO r8 a0.2.2 :: aT 70 K a9 c10 p2_ :: box b5 223 [Value.slice a4 a0.2.1.length a5, Value.map (some r8), Value.slice a9 p2_.length c10, Value.func (.func 128) #[] #[]] :: L) h1) => (aF (aA ⟨fun _ => ⟨_, d5⟩, ?_⟩)))
   refine eO (i := 4) (by kernel_rfl) rfl (aC (cA sc_68 d5 (i := 4) rfl rfl rfl) (aF (aA ⟨fun _ => ⟨_, d5⟩, ?_⟩)))
   refine eO (i := 12) (by kernel_rfl) rfl ?_
   obtain ⟨c3, h2, hm⟩ := aI hm
   refine iZ (i := 2) zU Tryz.underlying68 aCF rfl rfl d5 rfl (Hp.le_trans b0 a8) (Hp.le_trans b0 a8) h2 rfl rfl rfl rfl (fun _ h => h) (fun c4 c5 h4 (d6 : aN G a7 (aT 162 Kf a4 a5 a0.2.1 :: vO r8 a0.2.2 :: aT 70 K c4 c5 c3 :: box b5 223 [Value.slice a4 a0.2.1.length a5, Value.map (some r8), Value.slice a9 p2_.length c10, Value.func (.func 128) #[] #[]] :: L) h4) => (aF (aA ⟨fun _ => ⟨_, d6⟩, ?_⟩)))
   refine jB (i := 13) rfl (by kernel_rfl) ⟨_, d6⟩ (fun _ _ => qB rfl) (jB (i := 14) rfl (by kernel_rfl) ⟨_, d6⟩ (fun _ _ => bI (t' := 2) aAw rfl rfl) (eO (i := 15) (by kernel_rfl) rfl (cC (i := 3) (ns := [Value.slice c4 c3.length c5]) (us := [Value.slice a4 a0.2.1.length a5, Value.map (some r8), Value.slice c4 c3.length c5, Value.func (.func 128) #[] #[]]) Tryz.sizeOf68 d6 rfl rfl rfl rfl rfl (dT rfl) rfl rfl (fun h5 (e6 : aN G a7 (aT 162 Kf a4 a5 a0.2.1 :: vO r8 a0.2.2 :: aT 70 K c4 c5 c3 :: box b5 223 [Value.slice a4 a0.2.1.length a5, Value.map (some r8), Value.slice c4 c3.length c5, Value.func (.func 128) #[] #[]] :: L) h5) => (aF (aA ⟨fun _ => ⟨_, e6⟩, ?_⟩))))))
   refine rC (by kernel_rfl) ?_
   have h6 := e0 _ _ e6
   have h7 := d8 _ _ h6
   exact aA ⟨a0.2.1, a0.2.2, c3, a4, a5, c4, c5, hm, (aN.arr 6 [4, 2, 3, 5, 1] h7 rfl)⟩
theorem zD {w_ : cB} {to_c00_ : (List cB)} {to_c01_M : (List (bF × Int))} {r8 : Nat} {to_c02_ : (List lL)} {to_c1_ : Int} {k12 : Nat} {p : mR} {k15 : Nat} {p' : cO} {k24 : Nat} {R : (Bool × (List cB) × (List (bF × Int)) × (List lL))} (hs : aN G K (aT 162 Kf a6 c7 to_c00_ :: vO r8 to_c01_M :: aT 70 K a9 c10 to_c02_ :: box b5 223 [Value.slice a6 to_c00_.length c7, Value.map (some r8), Value.slice a9 to_c02_.length c10, Value.func (.func 128) #[] #[]] :: box b4 220 [Value.pointer (some ⟨b5, 0, none⟩)] :: L) w) (hG : G.lo = 0) (hKf : Hp.le Kf K) (h3 : bX K a1 c2 w_.states) (h13 : fN K a11 k12 [i64 to_c1_]) (h16 : fN K a14 k15 [Value.slice a17 p.leave.length c18, Value.slice a20 p.stay.length c21]) (h19 : bX K a17 c18 p.leave) (h22 : bX K a20 c21 p.stay) (h25 : fN K a23 k24 [i64 p'.t.States, i64 p'.t.Initial, Value.slice a26 p'.t.Labels.length c27, Value.slice a29 p'.t.Edges.length c30, i64 p'.p.States, i64 p'.p.Initial, Value.slice a32 p'.p.Labels.length c33, Value.slice a35 p'.p.Edges.length c36]) (h28 : bX K a26 c27 p'.t.Labels) (h31 : bX K a29 c30 p'.t.Edges) (h34 : bX K a32 c33 p'.p.Labels) (h37 : bX K a35 c36 p'.p.Edges) (hm : jF w_ to_c00_ to_c01_M to_c02_ to_c1_ p p' = some R) :
  Calls Tryz.prog 132 ([Value.agg #[Value.slice a1 w_.states.length c2, i64 w_.y], Value.func (.func 186) #[] #[Value.pointer (some ⟨b4, 0, none⟩), bZ a11 k12], bZ a14 k15, bZ a23 k24] : List Value).toArray w (fW fun v w' => ∃ (K' : Hp) (ra1 : Option Addr) (rc1 : Nat) (ra2 : Option Addr) (rc2 : Nat), v = Value.bool R.1 ∧ Hp.le K K' ∧ aN G K' (aT 162 K' ra1 rc1 R.2.1 :: vO r8 R.2.2.1 :: aT 70 K ra2 rc2 R.2.2.2 :: box b5 223 [Value.slice ra1 R.2.1.length rc1, Value.map (some r8), Value.slice ra2 R.2.2.2.length rc2, Value.func (.func 128) #[] #[]] :: box b4 220 [Value.pointer (some ⟨b5, 0, none⟩)] :: L) w') := by
 refine aU Tryz.func132 rfl (by kernel_rfl) (by show (4 : Nat) ≤ 47; decide) ?_
 unfold jF at hm
 refine aH (aB (dU (v := Value.agg #[Value.slice a1 w_.states.length c2, i64 w_.y]) (vs := [Value.slice a1 w_.states.length c2, i64 w_.y]) hs rfl rfl (fun b1 j9 d1 => (aC (aG (v := Value.bool false) rfl) (aF (aA (aH (aH (aB (aC (fO (t := 0) (vs := [Value.slice a17 p.leave.length c18, Value.slice a20 p.stay.length c21]) ag_159 d1 h16 rfl rfl rfl) (aC (bI (t' := 0) aDp rfl rfl) (aC (cA aAu d1 (i := 0) rfl rfl rfl) (aC (bI (t' := 1) aDq rfl rfl) (aC (cA cM d1 (i := 0) rfl rfl rfl) ?_))))))))))))))
 obtain ⟨k0, g6, hm⟩ := aI hm
 refine aW (vs := [Value.agg #[Value.slice a17 p.leave.length c18, Value.slice a20 p.stay.length c21], Value.slice a1 w_.states.length c2, i64 w_.y]) Tryz.call133 rfl (wZ d1 h19 h22 h3 g6) ?_
 rintro _ f8 ⟨rfl, e7⟩
 refine aC (lS rfl rfl) (aF (aA ?_))
 rcases aJ hm with ⟨c45, hm⟩ | ⟨c45, hm⟩
 ·refine aO c45 rfl (aH (aB (aC (aG (v := Value.bool true) rfl) (aF (aA ?_)))))
  have g7 : aN G K (box b1 162 [Value.slice a1 w_.states.length c2, i64 w_.y] :: aT 162 K a6 c7 to_c00_ :: vO r8 to_c01_M :: aT 70 K a9 c10 to_c02_ :: box b5 223 [Value.slice a6 to_c00_.length c7, Value.map (some r8), Value.slice a9 to_c02_.length c10, Value.func (.func 128) #[] #[]] :: box b4 220 [Value.pointer (some ⟨b5, 0, none⟩)] :: L) f8 := aN.weak (i := 1) e7 rfl (fun _ h => aT.mono hKf h)
  have g8 := Option.some.inj hm
  subst g8
  exact bB (aQ (aZ Tryz.results132 rfl ⟨K, a6, c7, a9, c10, rfl, (Hp.le_refl _), (aN.arr 1 [] g7 rfl)⟩))
 ·refine aM c45 rfl (aX (aA (aH (aH (aB (aC (bW (k' := k24 + 0) oJ rfl h25 rfl) (aC (bW (k' := k24 + 2) gS rfl h25 rfl) (aC (bL (t := 2) nY e7 h25 rfl rfl) ?_))))))))
  obtain ⟨c3, f9, hm⟩ := aI hm
  obtain ⟨g0, g1, g2⟩ := Cut.ex 1 a26 c27 1
  have g3 := bX.cut' h28 f9 g2
  refine aC (aBP cQ h28.room g2 rfl rfl rfl f9) (aC (bU (len := c3.length) cQ rfl) (aC (aD (v := i64 0) rfl) (aF (aA (bC (fun f w => ∃ (c4 : Hp) (d2 : List cB) (e8 : (List (bF × Int))) (d3 : List lL) (d4 : Option Addr) (d5 : Nat) (d6 : Option Addr) (d7 : Nat), Hp.le K c4 ∧ jK d2 e8 d3 = some R ∧ aN G c4 (aT 70 K d6 d7 d3 :: aT 162 c4 d4 d5 d2 :: vO r8 e8 :: box b5 223 [Value.slice d4 d2.length d5, Value.map (some r8), Value.slice d6 d3.length d7, Value.func (.func 128) #[] #[]] :: box b4 220 [Value.pointer (some ⟨b5, 0, none⟩)] :: L) w) ?_ ?_)))))
  ·rintro f k1 ⟨c4, d2, e8, d3, d4, d5, d6, d7, g9, hm, h0⟩
   unfold jK at hm
   refine aA (aH (aB (aC (aG (v := Value.bool true) rfl) (aF (aA ?_)))))
   have h1 := Option.some.inj hm
   subst h1
   exact bB (aZ Tryz.results132 rfl ⟨c4, d4, d5, d6, d7, rfl, g9, (aN.arr 3 [1, 2, 0] h0 rfl)⟩)
  have h2 : aN G K (box b1 162 [Value.slice a1 w_.states.length c2, i64 w_.y] :: aT 162 K a6 c7 to_c00_ :: vO r8 to_c01_M :: aT 70 K a9 c10 to_c02_ :: box b5 223 [Value.slice a6 to_c00_.length c7, Value.map (some r8), Value.slice a9 to_c02_.length c10, Value.func (.func 128) #[] #[]] :: box b4 220 [Value.pointer (some ⟨b5, 0, none⟩)] :: L) f8 := aN.weak (i := 1) e7 rfl (fun _ h => aT.mono hKf h)
  obtain ⟨k2, h4, hm⟩ := aI hm
  refine cD h4 (fun (s : (List cB × (List (bF × Int)) × List lL × Int)) f w => match s with | (a3, b2, a4, b8) => ∃ (b6 : Hp) (a5 : Option Addr) (a7 : Nat) (a8 : Option Addr) (b0 : Nat), Hp.le K b6 ∧ f 1 = Value.func (.func 186) #[] #[Value.pointer (some ⟨b4, 0, none⟩), bZ a11 k12] ∧ f 3 = bZ a23 k24 ∧ f 4 = Value.pointer (some ⟨b1, 0, none⟩) ∧ f 20 = Value.slice g0 c3.length g1 ∧ f 21 = i64 (c3.length : Int) ∧ f 22 = i64 b8 ∧ aN G b6 (box b1 162 [Value.slice a1 w_.states.length c2, i64 w_.y] :: aT 162 b6 a5 a7 a3 :: vO r8 b2 :: aT 70 K a8 b0 a4 :: box b5 223 [Value.slice a5 a3.length a7, Value.map (some r8), Value.slice a8 a4.length b0, Value.func (.func 128) #[] #[]] :: box b4 220 [Value.pointer (some ⟨b5, 0, none⟩)] :: L) w) ?_ ?_
  ·exact ⟨K, a6, c7, a9, c10, (Hp.le_refl _), rfl, rfl, rfl, rfl, rfl, rfl, h2⟩
  ·rintro ⟨a3, b2, a4, b8⟩ g4 f k3 a0 h5 ⟨b6, a5, a7, a8, b0, a2, e9, d8, d9, f0, f1, e0, c5⟩
   replace a0 : fU w_ to_c1_ p p' c3 a3 b2 a4 b8 = some g4 := a0
   unfold fU at a0
   refine aH (aB (aC (cE e0 f1) (aF (aA (aH ?_)))))
   rcases aJ a0 with ⟨f2, a0⟩ | ⟨f2, a0⟩
   ·refine aO f2 rfl (aX (aA (aH (bC (fun f w => ∃ (c6 : Hp) (c8 : List cB) (e1 : (List (bF × Int))) (c9 : List lL) (e2 : Option Addr) (e3 : Nat) (e4 : Option Addr) (e5 : Nat), Hp.le b6 c6 ∧ hJ b8 c8 e1 c9 = some g4 ∧ f 1 = Value.func (.func 186) #[] #[Value.pointer (some ⟨b4, 0, none⟩), bZ a11 k12] ∧ f 3 = bZ a23 k24 ∧ f 4 = Value.pointer (some ⟨b1, 0, none⟩) ∧ f 20 = Value.slice g0 c3.length g1 ∧ f 21 = i64 (c3.length : Int) ∧ f 22 = i64 b8 ∧ aN G c6 (aT 70 K e4 e5 c9 :: aT 162 c6 e2 e3 c8 :: box b1 162 [Value.slice a1 w_.states.length c2, i64 w_.y] :: vO r8 e1 :: box b5 223 [Value.slice e2 c8.length e3, Value.map (some r8), Value.slice e4 c9.length e5, Value.func (.func 128) #[] #[]] :: box b4 220 [Value.pointer (some ⟨b5, 0, none⟩)] :: L) w) ?_ ?_))))
    ·rintro f k4 ⟨c6, c8, e1, c9, e2, e3, e4, e5, h6, a0, h7, h8, h9, i0, i1, i2, i3⟩
     unfold hJ at a0
     exact aA (aB (aC (cI i2 rfl) (aC (aD (v := i64 (wr (b8 + 1))) rfl) (aF (aA ⟨(c8, e1, c9, wr (b8 + 1)), (Option.some.inj a0).symm, c6, e2, e3, e4, e5, (Hp.le_trans a2 h6), h7, h8, h9, i0, i1, rfl, (aN.arr 4 [2, 1, 3, 0] i3 rfl)⟩)))))
    refine aH (aB ?_)
    obtain ⟨b7, g5, a0⟩ := aI a0
    refine aC (cU cQ rfl (g3.mono a2) f0 rfl e0 g5) ?_
    obtain ⟨k5, i4, i5⟩ := bX.el (sz := 1) rfl g3 g5
    cases i5
    refine aC (bL (t := 0) oI c5 (i4.mono a2) rfl rfl) (aC (aG (v := cF b7) rfl) (aF (aA (aH (aB (aC (bW (k' := k24 + 0) oJ d8 (h25.mono a2) rfl) (aC (fO (t := 0) (vs := [i64 p'.t.States, i64 p'.t.Initial, Value.slice a26 p'.t.Labels.length c27, Value.slice a29 p'.t.Edges.length c30]) gT c5 (h25.mono a2) rfl rfl rfl) (aC (bI (t' := 0) aDp d9 rfl) (aC (cA aAu c5 (i := 0) rfl rfl rfl) (aC (aD (v := cF b7) rfl) ?_))))))))))
    obtain ⟨b3, i6, a0⟩ := aI a0
    refine aW (vs := [Value.agg #[i64 p'.t.States, i64 p'.t.Initial, Value.slice a26 p'.t.Labels.length c27, Value.slice a29 p'.t.Edges.length c30], Value.slice a1 w_.states.length c2, cF b7]) Tryz.call134 rfl (aCV c5 (h28.mono a2) (h31.mono a2) (h3.mono a2) i6) ?_
    rintro _ k6 ⟨b9, c0, rfl, e6⟩
    refine aC (aG (v := Value.slice b9 b3.length c0) rfl) (aF (aA (aH (aB (aC (aD (v := Value.slice b9 b3.length c0) rfl) (aC (bU (len := b3.length) cT rfl) (aC (oH rfl rfl) (aF (aA ?_)))))))))
    rcases aJ a0 with ⟨f3, a0⟩ | ⟨f3, a0⟩
    ·refine aO f3 rfl (aB (aC (aD e9) (aC (aD (v := cF b7) rfl) (aC (aD (v := Value.slice b9 b3.length c0) rfl) (aC (bW (k' := k24 + 4) aAv d8 (h25.mono a2) rfl) (aC (fO (t := 4) (vs := [i64 p'.p.States, i64 p'.p.Initial, Value.slice a32 p'.p.Labels.length c33, Value.slice a35 p'.p.Edges.length c36]) gT e6 (h25.mono a2) rfl rfl rfl) (aC (bI (t' := 1) aDq d9 rfl) (aC (cA cM e6 (i := 1) rfl rfl rfl) (aC (aD (v := cF b7) rfl) ?_)))))))))
     obtain ⟨d0, i7, a0⟩ := aI a0
     refine aW (vs := [Value.agg #[i64 p'.p.States, i64 p'.p.Initial, Value.slice a32 p'.p.Labels.length c33, Value.slice a35 p'.p.Edges.length c36], i64 w_.y, cF b7]) Tryz.call135 rfl (xC e6 (h34.mono a2) (h37.mono a2) i7) ?_
     rintro _ f4 ⟨rfl, i8⟩
     refine aC (eR (vs := [(0, Value.slice b9 b3.length c0), (1, i64 d0)]) (cs := [Value.slice b9 b3.length c0, i64 d0]) aGN rfl (by kernel_rfl)) ?_
     obtain ⟨c1, f5, i9, f6⟩ := aN.giveS (i := 0) i8 a2 rfl
     replace f6 : aN G c1 (box b1 162 [Value.slice a1 w_.states.length c2, i64 w_.y] :: aT 162 b6 a5 a7 a3 :: vO r8 b2 :: aT 70 K a8 b0 a4 :: box b5 223 [Value.slice a5 a3.length a7, Value.map (some r8), Value.slice a8 a4.length b0, Value.func (.func 128) #[] #[]] :: box b4 220 [Value.pointer (some ⟨b5, 0, none⟩)] :: L) f4 := f6
     have j0 : aN G c1 (box b1 162 [Value.slice a1 w_.states.length c2, i64 w_.y] :: aT 162 c1 a5 a7 a3 :: vO r8 b2 :: aT 70 K a8 b0 a4 :: box b5 223 [Value.slice a5 a3.length a7, Value.map (some r8), Value.slice a8 a4.length b0, Value.func (.func 128) #[] #[]] :: box b4 220 [Value.pointer (some ⟨b5, 0, none⟩)] :: L) f4 := aN.weak (i := 1) f6 rfl (fun _ h => aT.mono f5 h)
     have j1 : aN G c1 (aT 162 c1 a5 a7 a3 :: vO r8 b2 :: aT 70 K a8 b0 a4 :: box b5 223 [Value.slice a5 a3.length a7, Value.map (some r8), Value.slice a8 a4.length b0, Value.func (.func 128) #[] #[]] :: box b4 220 [Value.pointer (some ⟨b5, 0, none⟩)] :: box b1 162 [Value.slice a1 w_.states.length c2, i64 w_.y] :: L) f4 := (aN.arr 6 [1, 2, 3, 4, 5, 0] j0 rfl)
     obtain ⟨f7, j2, a0⟩ := aI a0
     refine kE (vs := [cF b7, Value.agg #[Value.slice b9 b3.length c0, i64 d0]]) (caps := [Value.pointer (some ⟨b4, 0, none⟩), bZ a11 k12]) (us := [cF b7, Value.agg #[Value.slice b9 b3.length c0, i64 d0], Value.pointer (some ⟨b4, 0, none⟩), bZ a11 k12]) rfl Tryz.call186 rfl rfl (vH (Kf := c1) (next := ⟨b3, d0⟩) j1 hG (Hp.le_refl _) i9 (h13.mono (Hp.le_trans a2 f5)) j2) ?_
     rintro _ k7 ⟨j3, j4, j5, j6, rfl, j7⟩
     exact aF (bG (aA ⟨c1, f7.1, f7.2.1, f7.2.2, j3, j4, j5, j6, f5, a0, e9, d8, d9, f0, f1, e0, (aN.arr 6 [2, 0, 5, 1, 3, 4] j7 rfl)⟩))
    ·exact aM f3 rfl (aX (bG (aA ⟨b6, a3, b2, a4, a5, a7, a8, b0, (Hp.le_refl _), a0, e9, d8, d9, f0, f1, e0, (aN.arr 5 [4, 2, 1, 3] e6 rfl)⟩)))
   ·refine aM f2 rfl (bY (aY (aY ?_)))
    have j8 := h5 _ (Option.some.inj a0).symm
    subst j8
    have hm : (jK a3 b2 a4) = some R := hm
    exact bO (aA ⟨b6, a3, b2, a4, a5, a7, a8, b0, a2, hm, (aN.arr 4 [3, 1, 2] c5 rfl)⟩)
end Gv
