-- walks of this claim, written by a program of mine
import Derived.Test.YthlpfghlildllaaOFnKnownx0
import Derived.Test.YthlpfghlildllaaOFnKnownx10
namespace Go.Proofs.Ythlpfghlildllaa.OFnKnown
open Go.RowKit Go.Proofs.Ythlpfghlildllaa.OWord Go.Proofs.YthlpfghlildllaaW.PrintWords Go.Proofs.YthlpfghlildllaaW.PrintLast Go.Proofs.YthlpfghlildllaaW.PrintMore
attribute [local go_sem] max2_int min2_int max_two min_two max_three min_three max_four min_four   -- for this text's walks alone
set_option linter.unusedVariables false
set_option linter.unusedSimpArgs false

/-! ### impl_termAt: function 78 -/
mutual
def impl_termAt.j0 : Nat → ByteArray → Int → Int → Bool → Option (Int)
 | 0, _, _, _, _ => none
 | k + 1, x0, x1, x2, x17 => if x17 = true then (some (-1)) else ((impl_varAt.f k x0 (wrap64 (x1 + 1))).bind fun bt392 => (if 0 ≤ x1 then (if x1 < (x0.size : Int) then (if (bt x0 x1) = 97 then ((impl_within.f bt392.1 0 40).bind fun t394 => (if t394 = true then (if bt392.1 > (wrap64 ((x0.size : Int) - bt392.2)) then (some (-1)) else (some (wrap64 (bt392.2 + bt392.1)))) else (some (-1)))) else (if (bt x0 x1) = 107 then ((impl_isKey.f bt392.1).bind fun t395 => (if t395 = true then (some bt392.2) else (some (-1)))) else (if (bt x0 x1) = 108 then ((impl_within.f bt392.1 0 12).bind fun t396 => (if t396 = true then (impl_termAt.l0 k x0 x2 bt392.1 bt392.2 0) else (some (-1)))) else (if (bt x0 x1) = 115 then ((impl_isKey.f bt392.1).bind fun t398 => (if t398 = true then ((impl_termAt.f k x0 bt392.2 (wrap64 (x2 - 1))).bind fun t399 => (some t399)) else (some (-1)))) else (some (-1)))))) else (none)) else (none)))
def impl_termAt.l0 : Nat → ByteArray → Int → Int → Int → Int → Option (Int)
 | 0, _, _, _, _, _ => none
 | k + 1, x0, x2, x7, x8, x9 => if x9 < x7 then (if x8 ≥ 0 then ((impl_termAt.f k x0 x8 (wrap64 (x2 - 1))).bind fun t397 => (impl_termAt.l0 k x0 x2 x7 t397 (wrap64 (x9 + 1)))) else (some x8)) else (some x8)
def impl_termAt.f : Nat → ByteArray → Int → Int → Option (Int)
 | 0, _, _, _ => none
 | k + 1, a0, a1, a2 => if a1 ≥ (a0.size : Int) then (impl_termAt.j0 k a0 a1 a2 true) else (impl_termAt.j0 k a0 a1 a2 (decide (a2 < 1)))
end
set_option maxHeartbeats 8000000 in
set_option maxRecDepth 100000 in
theorem impl_termAt.calls (k : Nat) : ∀ (a0 : ByteArray) (a1 : Int) (a2 : Int) (r : Int) (w : World) (h : impl_termAt.f k a0 a1 a2 = some r),
  Calls Try.prog 78 #[.string a0, .int .i64 a1, .int .i64 a2] w fun e w' => e = .returned (.int .i64 r) ∧ Below w.heap.size w w' := by
 induction k using Nat.strongRecOn with
 | _ k ih =>
 intro a0 a1 a2 r w h
 cases k with
 | zero => exact absurd h (by simp [impl_termAt.f])
 | succ k =>
 simp only [impl_termAt.f] at h
 have HB := Aside0.mk (Below.refl w.heap.size w)
 have H : (if a1 ≥ (a0.size : Int) then (impl_termAt.j0 k a0 a1 a2 true) else (impl_termAt.j0 k a0 a1 a2 (decide (a2 < 1)))) = some r := h
 clear h
 have HC4 := Aside0.mk H
 clear H
 go_enter Try.func78, Try.ntmps78
 go_upto_region 1 with (fail)
 go_cut [17] (fun v17 wc => ∃ (kq : Nat) (x17_3 : Bool), v17 = .bool x17_3 ∧ Aside0 (impl_termAt.j0 kq a0 a1 a2 x17_3 = some r) ∧ Aside0 (kq ≤ k) ∧ Aside0 (Below w.heap.size w wc))
 case first =>
  have H := HC4.out
  clear HC4
  by_cases c5 : a1 ≥ (a0.size : Int)
  ·rw [if_pos c5] at H
   have c5b0 : decide ((a0.size : Int) ≤ a1) = true := decide_eq_true c5
   clear c5
   (first | rw [c5b0] | (simp only [i64_w, i32_w]; rw [c5b0]) | skip)
   have H' := Aside0.mk H
   clear H
   go_wp2
   go_meet
   case rel => exact ⟨_, (true), eX, H', ⟨(by first | omega | exact Nat.le_refl _)⟩, ⟨bH⟩⟩
  rw [if_neg c5] at H
  have c5b0 : decide ((a0.size : Int) ≤ a1) = false := decide_eq_false c5
  clear c5
  (first | rw [c5b0] | (simp only [i64_w, i32_w]; rw [c5b0]) | skip)
  have H' := Aside0.mk H
  clear H
  go_wp2
  go_meet
  case rel => exact ⟨_, (decide (a2 < 1)), eX, H', ⟨(by first | omega | exact Nat.le_refl _)⟩, ⟨bH⟩⟩
 case rest =>
  clear HC4
  obtain ⟨kq, x17_3, rfl, HA, HJ3, HB⟩ := hcut
  cases kq with
  | zero => exact absurd HA.out (by simp [impl_termAt.j0])
  | succ kj3 =>
   have H := HA.out
   clear HA
   simp only [impl_termAt.j0] at H
   by_cases c6 : x17_3 = true
   ·subst c6
    rw [if_pos rfl] at H
    obtain rfl := Option.some.inj H
    go_wp2
    go_ret
    exact ⟨eE, bH⟩
   replace c6 := Bool.eq_false_iff.mpr c6
   subst c6
   rw [if_neg nF] at H
   obtain ⟨⟨t392, t393⟩, A7, H⟩ := oB H
   dsimp only at H
   by_cases c8 : 0 ≤ a1
   ·rw [if_pos c8] at H
    have c8b0 := decide_eq_true c8
    clear c8
    by_cases c9 : a1 < (a0.size : Int)
    ·rw [if_pos c9] at H
     have c9b0 := decide_eq_true c9
     clear c9
     by_cases c11 : (bt a0 a1) = 97
     ·rw [if_pos c11] at H
      have c11b0 : ((bt a0 a1) == 97) = true := beq_iff_eq.mpr c11
      have c11b1 : ((bt a0 a1) != 97) = false := bne_eq_false_iff_eq.mpr c11
      clear c11
      obtain ⟨t394, A12, H⟩ := oB H
      by_cases c13 : t394 = true
      ·subst c13
       rw [if_pos rfl] at H
       by_cases c14 : t392 > (wrap64 ((a0.size : Int) - t393))
       ·rw [if_pos c14] at H
        have c14b0 : decide ((wrap64 ((a0.size : Int) - t393)) < t392) = true := decide_eq_true c14
        clear c14
        obtain rfl := Option.some.inj H
        go_wp2_with (first | (refine gL 93 (some 22) Try.func93 #[.string a0, .int .i64 (wrap64 (a1 + 1))] ?_; (with_reducible refine (impl_varAt.calls kj3 a0 (wrap64 (a1 + 1)) t392 t393 _ A7.out).mono ?_); rintro e w15 ⟨rfl, hb⟩; refine ⟨_, rfl, ?_⟩; have n_ := aM (below_step bH hb); clear HB; have HB := n_; clear n_; (try clear hb); have p10 : 0 ≤ (a1 : Int) := of_decide_eq_true aA; have q10 : a1 < (a0.size : Int) := of_decide_eq_true aA; have hx10 := bt_at a0 a1; replace p10 := eq_true p10; replace q10 := eq_true q10) | (refine gL 77 (some 31) Try.func77 #[.int .i64 t392, .int .i64 0, .int .i64 40] ?_; (with_reducible refine (impl_within.calls t392 0 40 true _ A12.out).mono ?_); rintro e w' ⟨rfl, ⟨nd, rfl⟩⟩; refine ⟨_, rfl, ?_⟩))
        go_ret
        exact ⟨eE, bH⟩
       rw [if_neg c14] at H
       have c14b0 : decide ((wrap64 ((a0.size : Int) - t393)) < t392) = false := decide_eq_false c14
       clear c14
       obtain rfl := Option.some.inj H
       go_wp2_with (first | (refine gL 93 (some 22) Try.func93 #[.string a0, .int .i64 (wrap64 (a1 + 1))] ?_; (with_reducible refine (impl_varAt.calls kj3 a0 (wrap64 (a1 + 1)) t392 t393 _ A7.out).mono ?_); rintro e w16 ⟨rfl, hb⟩; refine ⟨_, rfl, ?_⟩; have n_ := aM (below_step bH hb); clear HB; have HB := n_; clear n_; (try clear hb); have p10 : 0 ≤ (a1 : Int) := of_decide_eq_true aA; have q10 : a1 < (a0.size : Int) := of_decide_eq_true aA; have hx10 := bt_at a0 a1; replace p10 := eq_true p10; replace q10 := eq_true q10) | (refine gL 77 (some 31) Try.func77 #[.int .i64 t392, .int .i64 0, .int .i64 40] ?_; (with_reducible refine (impl_within.calls t392 0 40 true _ A12.out).mono ?_); rintro e w' ⟨rfl, ⟨nd, rfl⟩⟩; refine ⟨_, rfl, ?_⟩))
       go_ret
       exact ⟨eE, bH⟩
      replace c13 := Bool.eq_false_iff.mpr c13
      subst c13
      rw [if_neg nF] at H
      obtain rfl := Option.some.inj H
      go_wp2_with (first | (refine gL 93 (some 22) Try.func93 #[.string a0, .int .i64 (wrap64 (a1 + 1))] ?_; (with_reducible refine (impl_varAt.calls kj3 a0 (wrap64 (a1 + 1)) t392 t393 _ A7.out).mono ?_); rintro e w17 ⟨rfl, hb⟩; refine ⟨_, rfl, ?_⟩; have n_ := aM (below_step bH hb); clear HB; have HB := n_; clear n_; (try clear hb); have p10 : 0 ≤ (a1 : Int) := of_decide_eq_true aA; have q10 : a1 < (a0.size : Int) := of_decide_eq_true aA; have hx10 := bt_at a0 a1; replace p10 := eq_true p10; replace q10 := eq_true q10) | (refine gL 77 (some 31) Try.func77 #[.int .i64 t392, .int .i64 0, .int .i64 40] ?_; (with_reducible refine (impl_within.calls t392 0 40 false _ A12.out).mono ?_); rintro e w' ⟨rfl, ⟨nd, rfl⟩⟩; refine ⟨_, rfl, ?_⟩))
      go_ret
      exact ⟨eE, bH⟩
     rw [if_neg c11] at H
     have c11b0 : ((bt a0 a1) == 97) = false := beq_eq_false_iff_ne.mpr c11
     have c11b1 : ((bt a0 a1) != 97) = true := bne_iff_ne.mpr c11
     by_cases c18 : (bt a0 a1) = 107
     ·rw [if_pos c18] at H
      have c18b0 : ((bt a0 a1) == 107) = true := beq_iff_eq.mpr c18
      have c18b1 : ((bt a0 a1) != 107) = false := bne_eq_false_iff_eq.mpr c18
      clear c18
      obtain ⟨t395, A19, H⟩ := oB H
      by_cases c20 : t395 = true
      ·subst c20
       rw [if_pos rfl] at H
       obtain rfl := Option.some.inj H
       go_wp2_with (first | (refine gL 93 (some 22) Try.func93 #[.string a0, .int .i64 (wrap64 (a1 + 1))] ?_; (with_reducible refine (impl_varAt.calls kj3 a0 (wrap64 (a1 + 1)) t392 t393 _ A7.out).mono ?_); rintro e w21 ⟨rfl, hb⟩; refine ⟨_, rfl, ?_⟩; have n_ := aM (below_step bH hb); clear HB; have HB := n_; clear n_; (try clear hb); have p10 : 0 ≤ (a1 : Int) := of_decide_eq_true aA; have q10 : a1 < (a0.size : Int) := of_decide_eq_true aA; have hx10 := bt_at a0 a1; replace p10 := eq_true p10; replace q10 := eq_true q10) | (refine gL 57 (some 47) Try.func57 #[.int .i64 t392] ?_; (with_reducible refine (impl_isKey.calls t392 true _ A19.out).mono ?_); rintro e w' ⟨rfl, ⟨nd, rfl⟩⟩; refine ⟨_, rfl, ?_⟩))
       go_ret
       exact ⟨eE, bH⟩
      replace c20 := Bool.eq_false_iff.mpr c20
      subst c20
      rw [if_neg nF] at H
      obtain rfl := Option.some.inj H
      go_wp2_with (first | (refine gL 93 (some 22) Try.func93 #[.string a0, .int .i64 (wrap64 (a1 + 1))] ?_; (with_reducible refine (impl_varAt.calls kj3 a0 (wrap64 (a1 + 1)) t392 t393 _ A7.out).mono ?_); rintro e w22 ⟨rfl, hb⟩; refine ⟨_, rfl, ?_⟩; have n_ := aM (below_step bH hb); clear HB; have HB := n_; clear n_; (try clear hb); have p10 : 0 ≤ (a1 : Int) := of_decide_eq_true aA; have q10 : a1 < (a0.size : Int) := of_decide_eq_true aA; have hx10 := bt_at a0 a1; replace p10 := eq_true p10; replace q10 := eq_true q10) | (refine gL 57 (some 47) Try.func57 #[.int .i64 t392] ?_; (with_reducible refine (impl_isKey.calls t392 false _ A19.out).mono ?_); rintro e w' ⟨rfl, ⟨nd, rfl⟩⟩; refine ⟨_, rfl, ?_⟩))
      go_ret
      exact ⟨eE, bH⟩
     rw [if_neg c18] at H
     have c18b0 : ((bt a0 a1) == 107) = false := beq_eq_false_iff_ne.mpr c18
     have c18b1 : ((bt a0 a1) != 107) = true := bne_iff_ne.mpr c18
     by_cases c23 : (bt a0 a1) = 108
     ·rw [if_pos c23] at H
      have c23b0 : ((bt a0 a1) == 108) = true := beq_iff_eq.mpr c23
      have c23b1 : ((bt a0 a1) != 108) = false := bne_eq_false_iff_eq.mpr c23
      clear c23
      obtain ⟨t396, A24, H⟩ := oB H
      by_cases c25 : t396 = true
      ·subst c25
       rw [if_pos rfl] at H
       have H' := Aside0.mk H
       clear H
       go_wp2_with (first | (refine gL 93 (some 22) Try.func93 #[.string a0, .int .i64 (wrap64 (a1 + 1))] ?_; (with_reducible refine (impl_varAt.calls kj3 a0 (wrap64 (a1 + 1)) t392 t393 _ A7.out).mono ?_); rintro e w26 ⟨rfl, hb⟩; refine ⟨_, rfl, ?_⟩; have n_ := aM (below_step bH hb); clear HB; have HB := n_; clear n_; (try clear hb); have p10 : 0 ≤ (a1 : Int) := of_decide_eq_true aA; have q10 : a1 < (a0.size : Int) := of_decide_eq_true aA; have hx10 := bt_at a0 a1; replace p10 := eq_true p10; replace q10 := eq_true q10) | (refine gL 77 (some 53) Try.func77 #[.int .i64 t392, .int .i64 0, .int .i64 12] ?_; (with_reducible refine (impl_within.calls t392 0 12 true _ A24.out).mono ?_); rintro e w' ⟨rfl, ⟨nd, rfl⟩⟩; refine ⟨_, rfl, ?_⟩))
       go_loopg [8, 9] kj3 (fun kq v8 v9 w' => ∃ (x8_2 : Int) (x9_2 : Int), v8 = .int .i64 x8_2 ∧ v9 = .int .i64 x9_2 ∧ Aside0 (impl_termAt.l0 kq a0 a2 t392 x8_2 x9_2 = some r) ∧ Aside0 (kq ≤ kj3) ∧ Aside0 (Below w.heap.size w w'))
       case atStart => exact ⟨(t393), (0), eX, eX, H', ⟨Nat.le_refl _⟩, ⟨bH⟩⟩
       case round =>
        clear H'
        try clear c6
        try clear c8
        try clear c8b0
        try clear c9
        try clear c9b0
        try clear p10
        try clear q10
        try clear hx10
        try clear c11
        try clear c11b0
        try clear c11b1
        try clear c18
        try clear c18b0
        try clear c18b1
        try clear c23
        try clear c23b0
        try clear c23b1
        try clear c25
        try clear p10
        try clear q10
        obtain ⟨x8_2, x9_2, rfl, rfl, HA, HK2, HB⟩ := hrel
        cases gk with
        | zero => exact absurd HA.out (by simp [impl_termAt.l0])
        | succ k2 =>
         have H := HA.out
         clear HA
         simp only [impl_termAt.l0] at H
         by_cases c27 : x9_2 < t392
         ·rw [if_pos c27] at H
          have c27b0 := decide_eq_true c27
          clear c27
          by_cases c28 : x8_2 ≥ 0
          ·rw [if_pos c28] at H
           have c28b0 : decide (0 ≤ x8_2) = true := decide_eq_true c28
           clear c28
           obtain ⟨t397, A29, H⟩ := oB H
           have H' := Aside0.mk H
           clear H
           go_wp2_with (first | (refine gL 78 (some 68) Try.func78 #[.string a0, .int .i64 x8_2, .int .i64 (wrap64 (a2 - 1))] ?_; (with_reducible refine (ih k2 (by have := HJ3.out; have := HK2.out; omega) a0 x8_2 (wrap64 (a2 - 1)) t397 _ A29.out).mono ?_); rintro e w30 ⟨rfl, hb⟩; refine ⟨_, rfl, ?_⟩; have n_ := aM (below_step bH hb); clear HB; have HB := n_; clear n_; (try clear hb)))
           go_roundg k2
           case measure => have := HJ3.out; have := HK2.out; omega
           case rel => exact ⟨(t397), (wrap64 (x9_2 + 1)), eX, eX, H', ⟨(by have := HJ3.out; have := HK2.out; omega)⟩, ⟨bH⟩⟩
          rw [if_neg c28] at H
          have c28b0 : decide (0 ≤ x8_2) = false := decide_eq_false c28
          clear c28
          obtain rfl := Option.some.inj H
          go_wp2
          go_ret
          exact ⟨eE, bH⟩
         rw [if_neg c27] at H
         have c27b0 := decide_eq_false c27
         clear c27
         obtain rfl := Option.some.inj H
         go_wp2
         go_ret
         exact ⟨eE, bH⟩
      replace c25 := Bool.eq_false_iff.mpr c25
      subst c25
      rw [if_neg nF] at H
      obtain rfl := Option.some.inj H
      go_wp2_with (first | (refine gL 93 (some 22) Try.func93 #[.string a0, .int .i64 (wrap64 (a1 + 1))] ?_; (with_reducible refine (impl_varAt.calls kj3 a0 (wrap64 (a1 + 1)) t392 t393 _ A7.out).mono ?_); rintro e w31 ⟨rfl, hb⟩; refine ⟨_, rfl, ?_⟩; have n_ := aM (below_step bH hb); clear HB; have HB := n_; clear n_; (try clear hb); have p10 : 0 ≤ (a1 : Int) := of_decide_eq_true aA; have q10 : a1 < (a0.size : Int) := of_decide_eq_true aA; have hx10 := bt_at a0 a1; replace p10 := eq_true p10; replace q10 := eq_true q10) | (refine gL 77 (some 53) Try.func77 #[.int .i64 t392, .int .i64 0, .int .i64 12] ?_; (with_reducible refine (impl_within.calls t392 0 12 false _ A24.out).mono ?_); rintro e w' ⟨rfl, ⟨nd, rfl⟩⟩; refine ⟨_, rfl, ?_⟩))
      go_ret
      exact ⟨eE, bH⟩
     rw [if_neg c23] at H
     have c23b0 : ((bt a0 a1) == 108) = false := beq_eq_false_iff_ne.mpr c23
     have c23b1 : ((bt a0 a1) != 108) = true := bne_iff_ne.mpr c23
     by_cases c32 : (bt a0 a1) = 115
     ·rw [if_pos c32] at H
      have c32b0 : ((bt a0 a1) == 115) = true := beq_iff_eq.mpr c32
      have c32b1 : ((bt a0 a1) != 115) = false := bne_eq_false_iff_eq.mpr c32
      clear c32
      obtain ⟨t398, A33, H⟩ := oB H
      by_cases c34 : t398 = true
      ·subst c34
       rw [if_pos rfl] at H
       obtain ⟨t399, A35, H⟩ := oB H
       obtain rfl := Option.some.inj H
       go_wp2_with (first | (refine gL 93 (some 22) Try.func93 #[.string a0, .int .i64 (wrap64 (a1 + 1))] ?_; (with_reducible refine (impl_varAt.calls kj3 a0 (wrap64 (a1 + 1)) t392 t393 _ A7.out).mono ?_); rintro e w36 ⟨rfl, hb⟩; refine ⟨_, rfl, ?_⟩; have n_ := aM (below_step bH hb); clear HB; have HB := n_; clear n_; (try clear hb); have p10 : 0 ≤ (a1 : Int) := of_decide_eq_true aA; have q10 : a1 < (a0.size : Int) := of_decide_eq_true aA; have hx10 := bt_at a0 a1; replace p10 := eq_true p10; replace q10 := eq_true q10) | (refine gL 57 (some 73) Try.func57 #[.int .i64 t392] ?_; (with_reducible refine (impl_isKey.calls t392 true _ A33.out).mono ?_); rintro e w' ⟨rfl, ⟨nd, rfl⟩⟩; refine ⟨_, rfl, ?_⟩) | (refine gL 78 (some 79) Try.func78 #[.string a0, .int .i64 t393, .int .i64 (wrap64 (a2 - 1))] ?_; (with_reducible refine (ih kj3 (by have := HJ3.out; omega) a0 t393 (wrap64 (a2 - 1)) t399 _ A35.out).mono ?_); rintro e w37 ⟨rfl, hb⟩; refine ⟨_, rfl, ?_⟩; have n_ := aM (below_step bH hb); clear HB; have HB := n_; clear n_; (try clear hb)))
       go_ret
       exact ⟨eE, bH⟩
      replace c34 := Bool.eq_false_iff.mpr c34
      subst c34
      rw [if_neg nF] at H
      obtain rfl := Option.some.inj H
      go_wp2_with (first | (refine gL 93 (some 22) Try.func93 #[.string a0, .int .i64 (wrap64 (a1 + 1))] ?_; (with_reducible refine (impl_varAt.calls kj3 a0 (wrap64 (a1 + 1)) t392 t393 _ A7.out).mono ?_); rintro e w38 ⟨rfl, hb⟩; refine ⟨_, rfl, ?_⟩; have n_ := aM (below_step bH hb); clear HB; have HB := n_; clear n_; (try clear hb); have p10 : 0 ≤ (a1 : Int) := of_decide_eq_true aA; have q10 : a1 < (a0.size : Int) := of_decide_eq_true aA; have hx10 := bt_at a0 a1; replace p10 := eq_true p10; replace q10 := eq_true q10) | (refine gL 57 (some 73) Try.func57 #[.int .i64 t392] ?_; (with_reducible refine (impl_isKey.calls t392 false _ A33.out).mono ?_); rintro e w' ⟨rfl, ⟨nd, rfl⟩⟩; refine ⟨_, rfl, ?_⟩))
      go_ret
      exact ⟨eE, bH⟩
     rw [if_neg c32] at H
     have c32b0 : ((bt a0 a1) == 115) = false := beq_eq_false_iff_ne.mpr c32
     have c32b1 : ((bt a0 a1) != 115) = true := bne_iff_ne.mpr c32
     obtain rfl := Option.some.inj H
     go_wp2_with (first | (refine gL 93 (some 22) Try.func93 #[.string a0, .int .i64 (wrap64 (a1 + 1))] ?_; (with_reducible refine (impl_varAt.calls kj3 a0 (wrap64 (a1 + 1)) t392 t393 _ A7.out).mono ?_); rintro e w39 ⟨rfl, hb⟩; refine ⟨_, rfl, ?_⟩; have n_ := aM (below_step bH hb); clear HB; have HB := n_; clear n_; (try clear hb); have p10 : 0 ≤ (a1 : Int) := of_decide_eq_true aA; have q10 : a1 < (a0.size : Int) := of_decide_eq_true aA; have hx10 := bt_at a0 a1; replace p10 := eq_true p10; replace q10 := eq_true q10))
     go_ret
     exact ⟨eE, bH⟩
    rw [if_neg c9] at H
    exact absurd H (by simp)
   rw [if_neg c8] at H
   exact absurd H (by simp)

/-! ### impl_TermOk: function 47 -/
def impl_TermOk.f (k : Nat) (a0 : ByteArray) : Option (Bool) := (impl_within.f (a0.size : Int) 1 900).bind fun t400 => (if t400 = true then ((impl_termAt.f k a0 0 8).bind fun t401 => (some (t401 == (a0.size : Int)))) else (some false))
set_option maxHeartbeats 8000000 in
set_option maxRecDepth 100000 in
theorem impl_TermOk.calls (k : Nat) (a0 : ByteArray) (r : Bool) (w : World) (h : impl_TermOk.f k a0 = some r) :
  Calls Try.prog 47 #[.string a0] w fun e w' => e = .returned (.bool r) ∧ Below w.heap.size w w' := by
 have HB := Aside0.mk (Below.refl w.heap.size w)
 have H := h
 clear h
 unfold impl_TermOk.f at H
 obtain ⟨t400, A2, H⟩ := oB H
 by_cases c3 : t400 = true
 ·subst c3
  rw [if_pos rfl] at H
  obtain ⟨t401, A4, H⟩ := oB H
  obtain rfl := Option.some.inj H
  go_enter Try.func47, Try.ntmps47
  go_wp2_with (first | (refine gL 77 (some 5) Try.func77 #[.int .i64 (a0.size : Int), .int .i64 1, .int .i64 900] ?_; (with_reducible refine (impl_within.calls (a0.size : Int) 1 900 true _ A2.out).mono ?_); rintro e w' ⟨rfl, ⟨nd, rfl⟩⟩; refine ⟨_, rfl, ?_⟩) | (go_at_call 78; (with_reducible refine (impl_termAt.calls k a0 0 8 t401 _ A4.out).mono ?_); rintro e w5 ⟨rfl, hb⟩; have n_ := aM (below_step bH hb); clear HB; have HB := n_; clear n_; (try clear hb)))
  go_ret
  exact ⟨eE, bH⟩
 replace c3 := Bool.eq_false_iff.mpr c3
 subst c3
 rw [if_neg nF] at H
 obtain rfl := Option.some.inj H
 go_enter Try.func47, Try.ntmps47
 go_wp2_with (first | (refine gL 77 (some 5) Try.func77 #[.int .i64 (a0.size : Int), .int .i64 1, .int .i64 900] ?_; (with_reducible refine (impl_within.calls (a0.size : Int) 1 900 false _ A2.out).mono ?_); rintro e w' ⟨rfl, ⟨nd, rfl⟩⟩; refine ⟨_, rfl, ?_⟩))
 go_ret
 exact ⟨eE, bH⟩

/-! ### slices_Index_string_string: function 90 -/
def slices_Index_string_string.l0 : Nat → List ByteArray → ByteArray → Int → Int → Option (Int)
 | 0, _, _, _, _ => none
 | k + 1, x0, x1, x7, x8 => if x8 < x7 then (if 0 ≤ x8 then (if x8 < (x0.length : Int) then (if x1.toList = (rdOf ByteArray.empty x0 x8).toList then (some x8) else (slices_Index_string_string.l0 k x0 x1 x7 (wrap64 (x8 + 1)))) else (none)) else (none)) else (some (-1))
def slices_Index_string_string.f (k : Nat) (l0 : List ByteArray) (a1 : ByteArray) : Option (Int) := slices_Index_string_string.l0 k l0 a1 (l0.length : Int) 0
set_option maxHeartbeats 8000000 in
set_option maxRecDepth 100000 in
theorem slices_Index_string_string.calls (k : Nat) (A0 : Option Addr) (c0 : Nat) (l0 : List ByteArray) (a1 : ByteArray) (r : Int) (w : World) (hr0 : Kd.C Kd.string w A0 l0.length l0) (hc0 : l0.length ≤ c0) (h : slices_Index_string_string.f k l0 a1 = some r) :
  Calls Try.prog 90 #[.slice A0 l0.length c0, .string a1] w fun e w' => e = .returned (.int .i64 r) ∧ Drawn0 w w' := by
 have HR0 := Aside0.mk hr0
 have HC0 := Aside0.mk hc0
 clear hr0 hc0
 have H := h
 clear h
 unfold slices_Index_string_string.f at H
 have H' := Aside0.mk H
 clear H
 go_enter Try.func90, Try.ntmps90
 go_wp2
 go_loopg [8] k (fun kq v8 w' => ∃ (x8_1 : Int), v8 = .int .i64 x8_1 ∧ Aside0 (slices_Index_string_string.l0 kq l0 a1 (l0.length : Int) x8_1 = some r) ∧ Aside0 (kq ≤ k) ∧ Drawn0 w w')
 case atStart => exact ⟨(0), eX, H', ⟨Nat.le_refl _⟩, (by repeat (first | exact Drawn0.refl _ | apply Drawn0.step))⟩
 case round =>
  clear H'
  obtain ⟨x8_1, rfl, HA, HK1, ⟨m1, rfl⟩⟩ := hrel
  cases gk with
  | zero => exact absurd HA.out (by simp [slices_Index_string_string.l0])
  | succ k1 =>
   have H := HA.out
   clear HA
   simp only [slices_Index_string_string.l0] at H
   by_cases c3 : x8_1 < (l0.length : Int)
   ·rw [if_pos c3] at H
    have c3b0 := decide_eq_true c3
    clear c3
    by_cases c4 : 0 ≤ x8_1
    ·rw [if_pos c4] at H
     have c4b0 := decide_eq_true c4
     clear c4
     by_cases c5 : x8_1 < (l0.length : Int)
     ·rw [if_pos c5] at H
      have c5b0 := decide_eq_true c5
      clear c5
      by_cases c6 : a1.toList = (rdOf ByteArray.empty l0 x8_1).toList
      ·rw [if_pos c6] at H
       have c6b0 : (a1.toList == (rdOf ByteArray.empty l0 x8_1).toList) = true := beq_iff_eq.mpr c6
       have c6b1 : (a1.toList != (rdOf ByteArray.empty l0 x8_1).toList) = false := bne_eq_false_iff_eq.mpr c6
       clear c6
       obtain rfl := Option.some.inj H
       have p402 : 0 ≤ (x8_1 : Int) := of_decide_eq_true aA
       have q402 : x8_1 < (l0.length : Int) := of_decide_eq_true aA
       obtain ⟨ad402, e402, hx402_0⟩ := Kd.at_string HR0.out x8_1 p402 q402
       cases e402
       replace p402 := eq_true p402
       replace q402 := eq_true q402
       go_wp2
       go_ret
       exact ⟨eX, (by repeat (first | exact Drawn0.refl _ | apply Drawn0.step))⟩
      rw [if_neg c6] at H
      have c6b0 : (a1.toList == (rdOf ByteArray.empty l0 x8_1).toList) = false := beq_eq_false_iff_ne.mpr c6
      have c6b1 : (a1.toList != (rdOf ByteArray.empty l0 x8_1).toList) = true := bne_iff_ne.mpr c6
      have H' := Aside0.mk H
      clear H
      have p402 : 0 ≤ (x8_1 : Int) := of_decide_eq_true aA
      have q402 : x8_1 < (l0.length : Int) := of_decide_eq_true aA
      obtain ⟨ad402, e402, hx402_0⟩ := Kd.at_string HR0.out x8_1 p402 q402
      cases e402
      replace p402 := eq_true p402
      replace q402 := eq_true q402
      go_wp2
      go_roundg k1
      case measure => have := HK1.out; omega
      case rel => exact ⟨(wrap64 (x8_1 + 1)), eX, H', ⟨(by have := HK1.out; omega)⟩, (by repeat (first | exact Drawn0.refl _ | apply Drawn0.step))⟩
     rw [if_neg c5] at H
     exact absurd H (by simp)
    rw [if_neg c4] at H
    exact absurd H (by simp)
   rw [if_neg c3] at H
   have c3b0 := decide_eq_false c3
   clear c3
   obtain rfl := Option.some.inj H
   go_wp2
   go_ret
   exact ⟨eX, (by repeat (first | exact Drawn0.refl _ | apply Drawn0.step))⟩

/-! ### slices_Contains_string_string: function 56 -/
def slices_Contains_string_string.f (k : Nat) (l0 : List ByteArray) (a1 : ByteArray) : Option (Bool) := (slices_Index_string_string.f k l0 a1).bind fun t403 => (some (decide (t403 ≥ 0)))
set_option maxHeartbeats 8000000 in
set_option maxRecDepth 100000 in
theorem slices_Contains_string_string.calls (k : Nat) (A0 : Option Addr) (c0 : Nat) (l0 : List ByteArray) (a1 : ByteArray) (r : Bool) (w : World) (hr0 : Kd.C Kd.string w A0 l0.length l0) (hc0 : l0.length ≤ c0) (h : slices_Contains_string_string.f k l0 a1 = some r) :
  Calls Try.prog 56 #[.slice A0 l0.length c0, .string a1] w fun e w' => e = .returned (.bool r) ∧ Drawn0 w w' := by
 have HR0 := Aside0.mk hr0
 have HC0 := Aside0.mk hc0
 clear hr0 hc0
 have H := h
 clear h
 unfold slices_Contains_string_string.f at H
 obtain ⟨t403, A3, H⟩ := oB H
 obtain rfl := Option.some.inj H
 go_enter Try.func56, Try.ntmps56
 go_wp2_with (first | (refine gL 90 (some 7) Try.func90 #[.slice A0 l0.length c0, .string a1] ?_; (with_reducible refine (slices_Index_string_string.calls k _ _ l0 a1 t403 _ ?side1 ?side2 A3.out).mono ?_); (case side1 => exact cA HR0.out); (case side2 => exact HC0.out); rintro e w' ⟨rfl, ⟨nd, rfl⟩⟩; refine ⟨_, rfl, ?_⟩))
 go_ret
 exact ⟨eX, (by repeat (first | exact Drawn0.refl _ | apply Drawn0.step))⟩

/-! ### impl_rises: function 76 -/
def impl_rises.l0 : Nat → List Int → Int → Option (Bool)
 | 0, _, _ => none
 | k + 1, x0, x3 => if x3 < (x0.length : Int) then (if 0 ≤ (wrap64 (x3 - 1)) then (if (wrap64 (x3 - 1)) < (x0.length : Int) then (if 0 ≤ x3 then (if (rd x0 (wrap64 (x3 - 1))) ≥ (rd x0 x3) then (some false) else (impl_rises.l0 k x0 (wrap64 (x3 + 1)))) else (none)) else (none)) else (none)) else (some true)
def impl_rises.f (k : Nat) (l0 : List Int) : Option (Bool) := impl_rises.l0 k l0 1
set_option maxHeartbeats 8000000 in
set_option maxRecDepth 100000 in
theorem impl_rises.calls (k : Nat) (A0 : Option Addr) (c0 : Nat) (l0 : List Int) (r : Bool) (w : World) (hr0 : Kd.C (Kd.int .i64) w A0 l0.length l0) (hc0 : l0.length ≤ c0) (h : impl_rises.f k l0 = some r) :
  Calls Try.prog 76 #[.slice A0 l0.length c0] w fun e w' => e = .returned (.bool r) ∧ Drawn0 w w' := by
 have HR0 := Aside0.mk hr0
 have HC0 := Aside0.mk hc0
 clear hr0 hc0
 have H := h
 clear h
 unfold impl_rises.f at H
 have H' := Aside0.mk H
 clear H
 go_enter Try.func76, Try.ntmps76
 go_wp2
 repeat (go_quiet (fail); try go_wp2)
 go_loopg [3] k (fun kq v3 w' => ∃ (x3_1 : Int), v3 = .int .i64 x3_1 ∧ Aside0 (impl_rises.l0 kq l0 x3_1 = some r) ∧ Aside0 (kq ≤ k) ∧ Drawn0 w w')
 case atStart => exact ⟨(1), eX, H', ⟨Nat.le_refl _⟩, (by repeat (first | exact Drawn0.refl _ | apply Drawn0.step))⟩
 case round =>
  clear H'
  obtain ⟨x3_1, rfl, HA, HK1, ⟨m1, rfl⟩⟩ := hrel
  cases gk with
  | zero => exact absurd HA.out (by simp [impl_rises.l0])
  | succ k1 =>
   have H := HA.out
   clear HA
   simp only [impl_rises.l0] at H
   by_cases c2 : x3_1 < (l0.length : Int)
   ·rw [if_pos c2] at H
    have c2b0 := decide_eq_true c2
    clear c2
    obtain ⟨ji3, hji3⟩ : ∃ j_ : Int, (wrap64 (x3_1 - 1)) = j_ := ⟨_, rfl⟩
    replace H : (if 0 ≤ (ji3) then (if (ji3) < (l0.length : Int) then (if 0 ≤ x3_1 then (if (rd l0 (ji3)) ≥ (rd l0 x3_1) then (some false) else (impl_rises.l0 k1 l0 (wrap64 (x3_1 + 1)))) else (none)) else (none)) else (none)) = some r := by first | (rw [hji3] at H; exact H) | (simp only [hji3] at H ⊢; exact H)
    have hji3w : (IntKind.i64.wrap (x3_1 - 1)) = ji3 := (i64_w _).trans hji3
    by_cases c4 : 0 ≤ (ji3)
    ·rw [if_pos c4] at H
     have c4b0 := decide_eq_true c4
     clear c4
     by_cases c5 : (ji3) < (l0.length : Int)
     ·rw [if_pos c5] at H
      have c5b0 := decide_eq_true c5
      clear c5
      by_cases c6 : 0 ≤ x3_1
      ·rw [if_pos c6] at H
       have c6b0 := decide_eq_true c6
       clear c6
       by_cases c7 : (rd l0 (ji3)) ≥ (rd l0 x3_1)
       ·rw [if_pos c7] at H
        have c7b0 : decide ((rd l0 x3_1) ≤ (rd l0 (ji3))) = true := decide_eq_true c7
        clear c7
        obtain rfl := Option.some.inj H
        have p404 : 0 ≤ ((ji3) : Int) := of_decide_eq_true aA
        have q404 : (ji3) < (l0.length : Int) := of_decide_eq_true aA
        obtain ⟨ad404, e404, hx404_0⟩ := Kd.at_int HR0.out (ji3) p404 q404
        cases e404
        replace p404 := eq_true p404
        replace q404 := eq_true q404
        have p405 : 0 ≤ (x3_1 : Int) := of_decide_eq_true aA
        have q405 : x3_1 < (l0.length : Int) := of_decide_eq_true aA
        obtain ⟨ad405, e405, hx405_0⟩ := Kd.at_int HR0.out x3_1 p405 q405
        obtain rfl : ad404 = ad405 := (by injection e405)
        replace p405 := eq_true p405
        replace q405 := eq_true q405
        go_wp2
        repeat (go_quiet (fail); try go_wp2)
        go_ret
        exact ⟨(by first | rfl | (simp; done) | (simp only [← hji3] <;> (first | rfl | simp)) | (simp [*]; done)), (by repeat (first | exact Drawn0.refl _ | apply Drawn0.step))⟩
       rw [if_neg c7] at H
       have c7b0 : decide ((rd l0 x3_1) ≤ (rd l0 (ji3))) = false := decide_eq_false c7
       clear c7
       have H' := Aside0.mk H
       clear H
       have p404 : 0 ≤ ((ji3) : Int) := of_decide_eq_true aA
       have q404 : (ji3) < (l0.length : Int) := of_decide_eq_true aA
       obtain ⟨ad404, e404, hx404_0⟩ := Kd.at_int HR0.out (ji3) p404 q404
       cases e404
       replace p404 := eq_true p404
       replace q404 := eq_true q404
       have p405 : 0 ≤ (x3_1 : Int) := of_decide_eq_true aA
       have q405 : x3_1 < (l0.length : Int) := of_decide_eq_true aA
       obtain ⟨ad405, e405, hx405_0⟩ := Kd.at_int HR0.out x3_1 p405 q405
       obtain rfl : ad404 = ad405 := (by injection e405)
       replace p405 := eq_true p405
       replace q405 := eq_true q405
       go_wp2
       repeat (go_quiet (fail); try go_wp2)
       go_roundg k1
       case measure => have := HK1.out; omega
       case rel => exact ⟨(wrap64 (x3_1 + 1)), eX, H', ⟨(by have := HK1.out; omega)⟩, (by repeat (first | exact Drawn0.refl _ | apply Drawn0.step))⟩
      rw [if_neg c6] at H
      exact absurd H (by simp)
     rw [if_neg c5] at H
     exact absurd H (by simp)
    rw [if_neg c4] at H
    exact absurd H (by simp)
   rw [if_neg c2] at H
   have c2b0 := decide_eq_false c2
   clear c2
   obtain rfl := Option.some.inj H
   go_wp2
   repeat (go_quiet (fail); try go_wp2)
   go_ret
   exact ⟨eX, (by repeat (first | exact Drawn0.refl _ | apply Drawn0.step))⟩

end Go.Proofs.Ythlpfghlildllaa.OFnKnown
-- wrapped
-- halved
-- squeezed
-- squeezed2
-- squeezed3
