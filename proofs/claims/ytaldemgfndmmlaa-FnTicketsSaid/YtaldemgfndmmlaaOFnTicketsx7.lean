-- walks of this claim, written by a program of mine
import Derived.Test.YtaldemgfndmmlaaOFnTicketsx0
import Derived.Test.YtaldemgfndmmlaaOFnTicketsx5
import Derived.Test.YtaldemgfndmmlaaOFnTicketsx6
namespace Go.Proofs.Ytaldemgfndmmlaa.OFnTickets
open Go.RowKit Go.Proofs.Ytaldemgfndmmlaa.OWord Go.Proofs.YtaldemgfndmmlaaW.PrintWords Go.Proofs.YtaldemgfndmmlaaW.PrintLast Go.Proofs.YtaldemgfndmmlaaW.PrintMore
attribute [local go_sem] max2_int min2_int max_two min_two max_three min_three max_four min_four   -- for this text's walks alone
set_option linter.unusedVariables false
set_option linter.unusedSimpArgs false

/-! ### impl_termAt: function 66 -/
mutual
def impl_termAt.j0 : Nat → ByteArray → Int → Int → Bool → Option (Int)
 | 0, _, _, _, _ => none
 | k + 1, x0, x1, x2, x17 => if x17 = true then (some (-1)) else ((impl_varAt.f k x0 (wrap64 (x1 + 1))).bind fun bt298 => (if 0 ≤ x1 then (if x1 < (x0.size : Int) then (if (bt x0 x1) = 97 then ((impl_within.f bt298.1 0 40).bind fun t300 => (if t300 = true then (if bt298.1 > (wrap64 ((x0.size : Int) - bt298.2)) then (some (-1)) else (some (wrap64 (bt298.2 + bt298.1)))) else (some (-1)))) else (if (bt x0 x1) = 107 then ((impl_isKey.f bt298.1).bind fun t301 => (if t301 = true then (some bt298.2) else (some (-1)))) else (if (bt x0 x1) = 108 then ((impl_within.f bt298.1 0 12).bind fun t302 => (if t302 = true then (impl_termAt.l0 k x0 x2 bt298.1 bt298.2 0) else (some (-1)))) else (if (bt x0 x1) = 115 then ((impl_isKey.f bt298.1).bind fun t304 => (if t304 = true then ((impl_termAt.f k x0 bt298.2 (wrap64 (x2 - 1))).bind fun t305 => (some t305)) else (some (-1)))) else (some (-1)))))) else (none)) else (none)))
def impl_termAt.l0 : Nat → ByteArray → Int → Int → Int → Int → Option (Int)
 | 0, _, _, _, _, _ => none
 | k + 1, x0, x2, x7, x8, x9 => if x9 < x7 then (if x8 ≥ 0 then ((impl_termAt.f k x0 x8 (wrap64 (x2 - 1))).bind fun t303 => (impl_termAt.l0 k x0 x2 x7 t303 (wrap64 (x9 + 1)))) else (some x8)) else (some x8)
def impl_termAt.f : Nat → ByteArray → Int → Int → Option (Int)
 | 0, _, _, _ => none
 | k + 1, a0, a1, a2 => if a1 ≥ (a0.size : Int) then (impl_termAt.j0 k a0 a1 a2 true) else (impl_termAt.j0 k a0 a1 a2 (decide (a2 < 1)))
end
set_option maxHeartbeats 8000000 in
set_option maxRecDepth 100000 in
theorem impl_termAt.calls (k : Nat) : ∀ (a0 : ByteArray) (a1 : Int) (a2 : Int) (r : Int) (w : World) (h : impl_termAt.f k a0 a1 a2 = some r),
  Calls Try.prog 66 #[.string a0, .int .i64 a1, .int .i64 a2] w fun e w' => e = .returned (.int .i64 r) ∧ Below w.heap.size w w' := by
 induction k using Nat.strongRecOn with
 | _ k ih =>
 intro a0 a1 a2 r w h
 cases k with
 | zero => exact absurd h (by simp [impl_termAt.f])
 | succ k =>
 simp only [impl_termAt.f] at h
 have HB := Aside0.mk (Below.refl w.heap.size w)
 have H : (if a1 ≥ (a0.size : Int) then (impl_termAt.j0 k a0 a1 a2 true) else (impl_termAt.j0 k a0 a1 a2 (decide (a2 < 1)))) = some r := h
 clear h
 have HC4 := Aside0.mk H
 clear H
 go_enter Try.func66, Try.ntmps66
 go_upto_region 1 with (fail)
 go_cut [17] (fun v17 wc => ∃ (kq : Nat) (x17_3 : Bool), v17 = .bool x17_3 ∧ Aside0 (impl_termAt.j0 kq a0 a1 a2 x17_3 = some r) ∧ Aside0 (kq ≤ k) ∧ Aside0 (Below w.heap.size w wc))
 case first =>
  have H := HC4.out
  clear HC4
  by_cases c5 : a1 ≥ (a0.size : Int)
  ·rw [if_pos c5] at H
   have c5b0 : decide ((a0.size : Int) ≤ a1) = true := decide_eq_true c5
   clear c5
   (first | rw [c5b0] | (simp only [i64_w, i32_w]; rw [c5b0]) | skip)
   have H' := Aside0.mk H
   clear H
   go_wp2
   go_meet
   case rel => exact ⟨_, (true), eX, H', ⟨(by first | omega | exact Nat.le_refl _)⟩, ⟨bH⟩⟩
  rw [if_neg c5] at H
  have c5b0 : decide ((a0.size : Int) ≤ a1) = false := decide_eq_false c5
  clear c5
  (first | rw [c5b0] | (simp only [i64_w, i32_w]; rw [c5b0]) | skip)
  have H' := Aside0.mk H
  clear H
  go_wp2
  go_meet
  case rel => exact ⟨_, (decide (a2 < 1)), eX, H', ⟨(by first | omega | exact Nat.le_refl _)⟩, ⟨bH⟩⟩
 clear HC4
 obtain ⟨kq, x17_3, rfl, HA, HJ3, HB⟩ := hcut
 obtain _ | kj3 := kq
 ·exact absurd HA.out (by simp [impl_termAt.j0])
 have H := HA.out
 clear HA
 simp only [impl_termAt.j0] at H
 by_cases c6 : x17_3 = true
 ·subst c6
  rw [if_pos rfl] at H
  obtain rfl := Option.some.inj H
  go_wp2
  go_ret
  exact ⟨eE, bH⟩
 replace c6 := Bool.eq_false_iff.mpr c6
 subst c6
 rw [if_neg nF] at H
 obtain ⟨⟨t298, t299⟩, A7, H⟩ := oB H
 dsimp only at H
 by_cases c8 : 0 ≤ a1
 ·rw [if_pos c8] at H
  have c8b0 := decide_eq_true c8
  clear c8
  by_cases c9 : a1 < (a0.size : Int)
  ·rw [if_pos c9] at H
   have c9b0 := decide_eq_true c9
   clear c9
   by_cases c11 : (bt a0 a1) = 97
   ·rw [if_pos c11] at H
    have c11b0 : ((bt a0 a1) == 97) = true := beq_iff_eq.mpr c11
    have c11b1 : ((bt a0 a1) != 97) = false := bne_eq_false_iff_eq.mpr c11
    clear c11
    obtain ⟨t300, A12, H⟩ := oB H
    by_cases c13 : t300 = true
    ·subst c13
     rw [if_pos rfl] at H
     by_cases c14 : t298 > (wrap64 ((a0.size : Int) - t299))
     ·rw [if_pos c14] at H
      have c14b0 : decide ((wrap64 ((a0.size : Int) - t299)) < t298) = true := decide_eq_true c14
      clear c14
      obtain rfl := Option.some.inj H
      go_wp2_with (first | ((with_reducible refine gC 65 rfl ?_); refine gL (some 22) Try.func65 #[.string a0, .int .i64 (wrap64 (a1 + 1))] ?_; (with_reducible refine (impl_varAt.calls kj3 a0 (wrap64 (a1 + 1)) t298 t299 _ A7.out).mono ?_); rintro e w15 ⟨rfl, hb⟩; refine ⟨_, rfl, ?_⟩; have n_ := aM (below_step bH hb); clear HB; have HB := n_; clear n_; (try clear hb); have p10 : 0 ≤ (a1 : Int) := of_decide_eq_true aA; have q10 : a1 < (a0.size : Int) := of_decide_eq_true aA; have hx10 := bt_at a0 a1; replace p10 := eq_true p10; replace q10 := eq_true q10) | ((with_reducible refine gC 76 rfl ?_); refine gL (some 31) Try.func76 #[.int .i64 t298, .int .i64 0, .int .i64 40] ?_; (with_reducible refine (impl_within.calls t298 0 40 true _ A12.out).mono ?_); rintro e w' ⟨rfl, ⟨nd, rfl⟩⟩; refine ⟨_, rfl, ?_⟩))
      go_ret
      exact ⟨eE, bH⟩
     rw [if_neg c14] at H
     have c14b0 : decide ((wrap64 ((a0.size : Int) - t299)) < t298) = false := decide_eq_false c14
     clear c14
     obtain rfl := Option.some.inj H
     go_wp2_with (first | ((with_reducible refine gC 65 rfl ?_); refine gL (some 22) Try.func65 #[.string a0, .int .i64 (wrap64 (a1 + 1))] ?_; (with_reducible refine (impl_varAt.calls kj3 a0 (wrap64 (a1 + 1)) t298 t299 _ A7.out).mono ?_); rintro e w16 ⟨rfl, hb⟩; refine ⟨_, rfl, ?_⟩; have n_ := aM (below_step bH hb); clear HB; have HB := n_; clear n_; (try clear hb); have p10 : 0 ≤ (a1 : Int) := of_decide_eq_true aA; have q10 : a1 < (a0.size : Int) := of_decide_eq_true aA; have hx10 := bt_at a0 a1; replace p10 := eq_true p10; replace q10 := eq_true q10) | ((with_reducible refine gC 76 rfl ?_); refine gL (some 31) Try.func76 #[.int .i64 t298, .int .i64 0, .int .i64 40] ?_; (with_reducible refine (impl_within.calls t298 0 40 true _ A12.out).mono ?_); rintro e w' ⟨rfl, ⟨nd, rfl⟩⟩; refine ⟨_, rfl, ?_⟩))
     go_ret
     exact ⟨eE, bH⟩
    replace c13 := Bool.eq_false_iff.mpr c13
    subst c13
    rw [if_neg nF] at H
    obtain rfl := Option.some.inj H
    go_wp2_with (first | ((with_reducible refine gC 65 rfl ?_); refine gL (some 22) Try.func65 #[.string a0, .int .i64 (wrap64 (a1 + 1))] ?_; (with_reducible refine (impl_varAt.calls kj3 a0 (wrap64 (a1 + 1)) t298 t299 _ A7.out).mono ?_); rintro e w17 ⟨rfl, hb⟩; refine ⟨_, rfl, ?_⟩; have n_ := aM (below_step bH hb); clear HB; have HB := n_; clear n_; (try clear hb); have p10 : 0 ≤ (a1 : Int) := of_decide_eq_true aA; have q10 : a1 < (a0.size : Int) := of_decide_eq_true aA; have hx10 := bt_at a0 a1; replace p10 := eq_true p10; replace q10 := eq_true q10) | ((with_reducible refine gC 76 rfl ?_); refine gL (some 31) Try.func76 #[.int .i64 t298, .int .i64 0, .int .i64 40] ?_; (with_reducible refine (impl_within.calls t298 0 40 false _ A12.out).mono ?_); rintro e w' ⟨rfl, ⟨nd, rfl⟩⟩; refine ⟨_, rfl, ?_⟩))
    go_ret
    exact ⟨eE, bH⟩
   rw [if_neg c11] at H
   have c11b0 : ((bt a0 a1) == 97) = false := beq_eq_false_iff_ne.mpr c11
   have c11b1 : ((bt a0 a1) != 97) = true := bne_iff_ne.mpr c11
   by_cases c18 : (bt a0 a1) = 107
   ·rw [if_pos c18] at H
    have c18b0 : ((bt a0 a1) == 107) = true := beq_iff_eq.mpr c18
    have c18b1 : ((bt a0 a1) != 107) = false := bne_eq_false_iff_eq.mpr c18
    clear c18
    obtain ⟨t301, A19, H⟩ := oB H
    by_cases c20 : t301 = true
    ·subst c20
     rw [if_pos rfl] at H
     obtain rfl := Option.some.inj H
     go_wp2_with (first | ((with_reducible refine gC 65 rfl ?_); refine gL (some 22) Try.func65 #[.string a0, .int .i64 (wrap64 (a1 + 1))] ?_; (with_reducible refine (impl_varAt.calls kj3 a0 (wrap64 (a1 + 1)) t298 t299 _ A7.out).mono ?_); rintro e w21 ⟨rfl, hb⟩; refine ⟨_, rfl, ?_⟩; have n_ := aM (below_step bH hb); clear HB; have HB := n_; clear n_; (try clear hb); have p10 : 0 ≤ (a1 : Int) := of_decide_eq_true aA; have q10 : a1 < (a0.size : Int) := of_decide_eq_true aA; have hx10 := bt_at a0 a1; replace p10 := eq_true p10; replace q10 := eq_true q10) | ((with_reducible refine gC 55 rfl ?_); refine gL (some 47) Try.func55 #[.int .i64 t298] ?_; (with_reducible refine (impl_isKey.calls t298 true _ A19.out).mono ?_); rintro e w' ⟨rfl, ⟨nd, rfl⟩⟩; refine ⟨_, rfl, ?_⟩))
     go_ret
     exact ⟨eE, bH⟩
    replace c20 := Bool.eq_false_iff.mpr c20
    subst c20
    rw [if_neg nF] at H
    obtain rfl := Option.some.inj H
    go_wp2_with (first | ((with_reducible refine gC 65 rfl ?_); refine gL (some 22) Try.func65 #[.string a0, .int .i64 (wrap64 (a1 + 1))] ?_; (with_reducible refine (impl_varAt.calls kj3 a0 (wrap64 (a1 + 1)) t298 t299 _ A7.out).mono ?_); rintro e w22 ⟨rfl, hb⟩; refine ⟨_, rfl, ?_⟩; have n_ := aM (below_step bH hb); clear HB; have HB := n_; clear n_; (try clear hb); have p10 : 0 ≤ (a1 : Int) := of_decide_eq_true aA; have q10 : a1 < (a0.size : Int) := of_decide_eq_true aA; have hx10 := bt_at a0 a1; replace p10 := eq_true p10; replace q10 := eq_true q10) | ((with_reducible refine gC 55 rfl ?_); refine gL (some 47) Try.func55 #[.int .i64 t298] ?_; (with_reducible refine (impl_isKey.calls t298 false _ A19.out).mono ?_); rintro e w' ⟨rfl, ⟨nd, rfl⟩⟩; refine ⟨_, rfl, ?_⟩))
    go_ret
    exact ⟨eE, bH⟩
   rw [if_neg c18] at H
   have c18b0 : ((bt a0 a1) == 107) = false := beq_eq_false_iff_ne.mpr c18
   have c18b1 : ((bt a0 a1) != 107) = true := bne_iff_ne.mpr c18
   by_cases c23 : (bt a0 a1) = 108
   ·rw [if_pos c23] at H
    have c23b0 : ((bt a0 a1) == 108) = true := beq_iff_eq.mpr c23
    have c23b1 : ((bt a0 a1) != 108) = false := bne_eq_false_iff_eq.mpr c23
    clear c23
    obtain ⟨t302, A24, H⟩ := oB H
    by_cases c25 : t302 = true
    ·subst c25
     rw [if_pos rfl] at H
     have H' := Aside0.mk H
     clear H
     go_wp2_with (first | ((with_reducible refine gC 65 rfl ?_); refine gL (some 22) Try.func65 #[.string a0, .int .i64 (wrap64 (a1 + 1))] ?_; (with_reducible refine (impl_varAt.calls kj3 a0 (wrap64 (a1 + 1)) t298 t299 _ A7.out).mono ?_); rintro e w26 ⟨rfl, hb⟩; refine ⟨_, rfl, ?_⟩; have n_ := aM (below_step bH hb); clear HB; have HB := n_; clear n_; (try clear hb); have p10 : 0 ≤ (a1 : Int) := of_decide_eq_true aA; have q10 : a1 < (a0.size : Int) := of_decide_eq_true aA; have hx10 := bt_at a0 a1; replace p10 := eq_true p10; replace q10 := eq_true q10) | ((with_reducible refine gC 76 rfl ?_); refine gL (some 53) Try.func76 #[.int .i64 t298, .int .i64 0, .int .i64 12] ?_; (with_reducible refine (impl_within.calls t298 0 12 true _ A24.out).mono ?_); rintro e w' ⟨rfl, ⟨nd, rfl⟩⟩; refine ⟨_, rfl, ?_⟩))
     go_loopg [8, 9] kj3 (fun kq v8 v9 w' => ∃ (x8_2 : Int) (x9_2 : Int), v8 = .int .i64 x8_2 ∧ v9 = .int .i64 x9_2 ∧ Aside0 (impl_termAt.l0 kq a0 a2 t298 x8_2 x9_2 = some r) ∧ Aside0 (kq ≤ kj3) ∧ Aside0 (Below w.heap.size w w'))
     case atStart => exact ⟨(t299), (0), eX, eX, H', ⟨Nat.le_refl _⟩, ⟨bH⟩⟩
     clear H'
     try clear c6
     try clear c8
     try clear c8b0
     try clear c9
     try clear c9b0
     try clear p10
     try clear q10
     try clear hx10
     try clear c11
     try clear c11b0
     try clear c11b1
     try clear c18
     try clear c18b0
     try clear c18b1
     try clear c23
     try clear c23b0
     try clear c23b1
     try clear c25
     try clear p10
     try clear q10
     obtain ⟨x8_2, x9_2, rfl, rfl, HA, HK2, HB⟩ := hrel
     obtain _ | k2 := gk
     ·exact absurd HA.out (by simp [impl_termAt.l0])
     have H := HA.out
     clear HA
     simp only [impl_termAt.l0] at H
     by_cases c27 : x9_2 < t298
     ·rw [if_pos c27] at H
      have c27b0 := decide_eq_true c27
      clear c27
      by_cases c28 : x8_2 ≥ 0
      ·rw [if_pos c28] at H
       have c28b0 : decide (0 ≤ x8_2) = true := decide_eq_true c28
       clear c28
       obtain ⟨t303, A29, H⟩ := oB H
       have H' := Aside0.mk H
       clear H
       go_wp2_with (first | ((with_reducible refine gC 66 rfl ?_); refine gL (some 68) Try.func66 #[.string a0, .int .i64 x8_2, .int .i64 (wrap64 (a2 - 1))] ?_; (with_reducible refine (ih k2 (by have := HJ3.out; have := HK2.out; omega) a0 x8_2 (wrap64 (a2 - 1)) t303 _ A29.out).mono ?_); rintro e w30 ⟨rfl, hb⟩; refine ⟨_, rfl, ?_⟩; have n_ := aM (below_step bH hb); clear HB; have HB := n_; clear n_; (try clear hb)))
       go_roundg k2
       case measure => have := HJ3.out; have := HK2.out; omega
       case rel => exact ⟨(t303), (wrap64 (x9_2 + 1)), eX, eX, H', ⟨(by have := HJ3.out; have := HK2.out; omega)⟩, ⟨bH⟩⟩
      rw [if_neg c28] at H
      have c28b0 : decide (0 ≤ x8_2) = false := decide_eq_false c28
      clear c28
      obtain rfl := Option.some.inj H
      go_wp2
      go_ret
      exact ⟨eE, bH⟩
     rw [if_neg c27] at H
     have c27b0 := decide_eq_false c27
     clear c27
     obtain rfl := Option.some.inj H
     go_wp2
     go_ret
     exact ⟨eE, bH⟩
    replace c25 := Bool.eq_false_iff.mpr c25
    subst c25
    rw [if_neg nF] at H
    obtain rfl := Option.some.inj H
    go_wp2_with (first | ((with_reducible refine gC 65 rfl ?_); refine gL (some 22) Try.func65 #[.string a0, .int .i64 (wrap64 (a1 + 1))] ?_; (with_reducible refine (impl_varAt.calls kj3 a0 (wrap64 (a1 + 1)) t298 t299 _ A7.out).mono ?_); rintro e w31 ⟨rfl, hb⟩; refine ⟨_, rfl, ?_⟩; have n_ := aM (below_step bH hb); clear HB; have HB := n_; clear n_; (try clear hb); have p10 : 0 ≤ (a1 : Int) := of_decide_eq_true aA; have q10 : a1 < (a0.size : Int) := of_decide_eq_true aA; have hx10 := bt_at a0 a1; replace p10 := eq_true p10; replace q10 := eq_true q10) | ((with_reducible refine gC 76 rfl ?_); refine gL (some 53) Try.func76 #[.int .i64 t298, .int .i64 0, .int .i64 12] ?_; (with_reducible refine (impl_within.calls t298 0 12 false _ A24.out).mono ?_); rintro e w' ⟨rfl, ⟨nd, rfl⟩⟩; refine ⟨_, rfl, ?_⟩))
    go_ret
    exact ⟨eE, bH⟩
   rw [if_neg c23] at H
   have c23b0 : ((bt a0 a1) == 108) = false := beq_eq_false_iff_ne.mpr c23
   have c23b1 : ((bt a0 a1) != 108) = true := bne_iff_ne.mpr c23
   by_cases c32 : (bt a0 a1) = 115
   ·rw [if_pos c32] at H
    have c32b0 : ((bt a0 a1) == 115) = true := beq_iff_eq.mpr c32
    have c32b1 : ((bt a0 a1) != 115) = false := bne_eq_false_iff_eq.mpr c32
    clear c32
    obtain ⟨t304, A33, H⟩ := oB H
    by_cases c34 : t304 = true
    ·subst c34
     rw [if_pos rfl] at H
     obtain ⟨t305, A35, H⟩ := oB H
     obtain rfl := Option.some.inj H
     go_wp2_with (first | ((with_reducible refine gC 65 rfl ?_); refine gL (some 22) Try.func65 #[.string a0, .int .i64 (wrap64 (a1 + 1))] ?_; (with_reducible refine (impl_varAt.calls kj3 a0 (wrap64 (a1 + 1)) t298 t299 _ A7.out).mono ?_); rintro e w36 ⟨rfl, hb⟩; refine ⟨_, rfl, ?_⟩; have n_ := aM (below_step bH hb); clear HB; have HB := n_; clear n_; (try clear hb); have p10 : 0 ≤ (a1 : Int) := of_decide_eq_true aA; have q10 : a1 < (a0.size : Int) := of_decide_eq_true aA; have hx10 := bt_at a0 a1; replace p10 := eq_true p10; replace q10 := eq_true q10) | ((with_reducible refine gC 55 rfl ?_); refine gL (some 73) Try.func55 #[.int .i64 t298] ?_; (with_reducible refine (impl_isKey.calls t298 true _ A33.out).mono ?_); rintro e w' ⟨rfl, ⟨nd, rfl⟩⟩; refine ⟨_, rfl, ?_⟩) | ((with_reducible refine gC 66 rfl ?_); refine gL (some 79) Try.func66 #[.string a0, .int .i64 t299, .int .i64 (wrap64 (a2 - 1))] ?_; (with_reducible refine (ih kj3 (by have := HJ3.out; omega) a0 t299 (wrap64 (a2 - 1)) t305 _ A35.out).mono ?_); rintro e w37 ⟨rfl, hb⟩; refine ⟨_, rfl, ?_⟩; have n_ := aM (below_step bH hb); clear HB; have HB := n_; clear n_; (try clear hb)))
     go_ret
     exact ⟨eE, bH⟩
    replace c34 := Bool.eq_false_iff.mpr c34
    subst c34
    rw [if_neg nF] at H
    obtain rfl := Option.some.inj H
    go_wp2_with (first | ((with_reducible refine gC 65 rfl ?_); refine gL (some 22) Try.func65 #[.string a0, .int .i64 (wrap64 (a1 + 1))] ?_; (with_reducible refine (impl_varAt.calls kj3 a0 (wrap64 (a1 + 1)) t298 t299 _ A7.out).mono ?_); rintro e w38 ⟨rfl, hb⟩; refine ⟨_, rfl, ?_⟩; have n_ := aM (below_step bH hb); clear HB; have HB := n_; clear n_; (try clear hb); have p10 : 0 ≤ (a1 : Int) := of_decide_eq_true aA; have q10 : a1 < (a0.size : Int) := of_decide_eq_true aA; have hx10 := bt_at a0 a1; replace p10 := eq_true p10; replace q10 := eq_true q10) | ((with_reducible refine gC 55 rfl ?_); refine gL (some 73) Try.func55 #[.int .i64 t298] ?_; (with_reducible refine (impl_isKey.calls t298 false _ A33.out).mono ?_); rintro e w' ⟨rfl, ⟨nd, rfl⟩⟩; refine ⟨_, rfl, ?_⟩))
    go_ret
    exact ⟨eE, bH⟩
   rw [if_neg c32] at H
   have c32b0 : ((bt a0 a1) == 115) = false := beq_eq_false_iff_ne.mpr c32
   have c32b1 : ((bt a0 a1) != 115) = true := bne_iff_ne.mpr c32
   obtain rfl := Option.some.inj H
   go_wp2_with (first | ((with_reducible refine gC 65 rfl ?_); refine gL (some 22) Try.func65 #[.string a0, .int .i64 (wrap64 (a1 + 1))] ?_; (with_reducible refine (impl_varAt.calls kj3 a0 (wrap64 (a1 + 1)) t298 t299 _ A7.out).mono ?_); rintro e w39 ⟨rfl, hb⟩; refine ⟨_, rfl, ?_⟩; have n_ := aM (below_step bH hb); clear HB; have HB := n_; clear n_; (try clear hb); have p10 : 0 ≤ (a1 : Int) := of_decide_eq_true aA; have q10 : a1 < (a0.size : Int) := of_decide_eq_true aA; have hx10 := bt_at a0 a1; replace p10 := eq_true p10; replace q10 := eq_true q10))
   go_ret
   exact ⟨eE, bH⟩
  rw [if_neg c9] at H
  exact absurd H (by simp)
 rw [if_neg c8] at H
 exact absurd H (by simp)

/-! ### impl_TermOk: function 59 -/
def impl_TermOk.f (k : Nat) (a0 : ByteArray) : Option (Bool) := (impl_within.f (a0.size : Int) 1 900).bind fun t306 => (if t306 = true then ((impl_termAt.f k a0 0 8).bind fun t307 => (some (t307 == (a0.size : Int)))) else (some false))
set_option maxHeartbeats 8000000 in
set_option maxRecDepth 100000 in
theorem impl_TermOk.calls (k : Nat) (a0 : ByteArray) (r : Bool) (w : World) (h : impl_TermOk.f k a0 = some r) :
  Calls Try.prog 59 #[.string a0] w fun e w' => e = .returned (.bool r) ∧ Below w.heap.size w w' := by
 have HB := Aside0.mk (Below.refl w.heap.size w)
 have H := h
 clear h
 unfold impl_TermOk.f at H
 obtain ⟨t306, A2, H⟩ := oB H
 by_cases c3 : t306 = true
 ·subst c3
  rw [if_pos rfl] at H
  obtain ⟨t307, A4, H⟩ := oB H
  obtain rfl := Option.some.inj H
  go_enter Try.func59, Try.ntmps59
  go_wp2_with (first | ((with_reducible refine gC 76 rfl ?_); refine gL (some 5) Try.func76 #[.int .i64 (a0.size : Int), .int .i64 1, .int .i64 900] ?_; (with_reducible refine (impl_within.calls (a0.size : Int) 1 900 true _ A2.out).mono ?_); rintro e w' ⟨rfl, ⟨nd, rfl⟩⟩; refine ⟨_, rfl, ?_⟩) | (go_at_call 66; (with_reducible refine (impl_termAt.calls k a0 0 8 t307 _ A4.out).mono ?_); rintro e w5 ⟨rfl, hb⟩; have n_ := aM (below_step bH hb); clear HB; have HB := n_; clear n_; (try clear hb)))
  go_ret
  exact ⟨eE, bH⟩
 replace c3 := Bool.eq_false_iff.mpr c3
 subst c3
 rw [if_neg nF] at H
 obtain rfl := Option.some.inj H
 go_enter Try.func59, Try.ntmps59
 go_wp2_with (first | ((with_reducible refine gC 76 rfl ?_); refine gL (some 5) Try.func76 #[.int .i64 (a0.size : Int), .int .i64 1, .int .i64 900] ?_; (with_reducible refine (impl_within.calls (a0.size : Int) 1 900 false _ A2.out).mono ?_); rintro e w' ⟨rfl, ⟨nd, rfl⟩⟩; refine ⟨_, rfl, ?_⟩))
 go_ret
 exact ⟨eE, bH⟩

/-! ### impl_term: function 60 -/
def impl_term.f (k : Nat) (a0 : ByteArray) : Option (ByteArray) := (impl_TermOk.f k a0).bind fun t308 => (if t308 = true then (some a0) else (some (⟨#[]⟩ : ByteArray)))
set_option maxHeartbeats 8000000 in
set_option maxRecDepth 100000 in
theorem impl_term.calls (k : Nat) (a0 : ByteArray) (r : ByteArray) (w : World) (h : impl_term.f k a0 = some r) :
  Calls Try.prog 60 #[.string a0] w fun e w' => e = .returned (.string r) ∧ Below w.heap.size w w' := by
 have HB := Aside0.mk (Below.refl w.heap.size w)
 have H := h
 clear h
 unfold impl_term.f at H
 obtain ⟨t308, A2, H⟩ := oB H
 by_cases c3 : t308 = true
 ·subst c3
  rw [if_pos rfl] at H
  obtain rfl := Option.some.inj H
  go_enter Try.func60, Try.ntmps60
  go_wp2_with (first | ((with_reducible refine gC 59 rfl ?_); refine gL (some 4) Try.func59 #[.string a0] ?_; (with_reducible refine (impl_TermOk.calls k a0 true _ A2.out).mono ?_); rintro e w4 ⟨rfl, hb⟩; refine ⟨_, rfl, ?_⟩; have n_ := aM (below_step bH hb); clear HB; have HB := n_; clear n_; (try clear hb)))
  go_ret
  exact ⟨eE, bH⟩
 replace c3 := Bool.eq_false_iff.mpr c3
 subst c3
 rw [if_neg nF] at H
 obtain rfl := Option.some.inj H
 go_enter Try.func60, Try.ntmps60
 go_wp2_with (first | ((with_reducible refine gC 59 rfl ?_); refine gL (some 4) Try.func59 #[.string a0] ?_; (with_reducible refine (impl_TermOk.calls k a0 false _ A2.out).mono ?_); rintro e w5 ⟨rfl, hb⟩; refine ⟨_, rfl, ?_⟩; have n_ := aM (below_step bH hb); clear HB; have HB := n_; clear n_; (try clear hb)))
 go_ret
 exact ⟨eE, bH⟩

/-! ### impl_List: function 27 -/
def impl_List.l0 : Nat → ByteArray → List ByteArray → Int → Int → Option (ByteArray)
 | 0, _, _, _, _ => none
 | k + 1, x3, x10, x11, x12 => if x12 < x11 then (if 0 ≤ x12 then (if x12 < (x10.length : Int) then ((impl_TermOk.f k (rdOf ByteArray.empty x10 x12)).bind fun t311 => (if t311 = true then (if x3.size + (rdOf ByteArray.empty x10 x12).size ≤ 9223372036854775807 then (impl_List.l0 k (x3 ++ (rdOf ByteArray.empty x10 x12)) x10 x11 (wrap64 (x12 + 1))) else (none)) else (some (⟨#[]⟩ : ByteArray)))) else (none)) else (none)) else ((impl_term.f k x3).bind fun t312 => (some t312))
def impl_List.f (k : Nat) (l0 : List ByteArray) : Option (ByteArray) := (impl_Var.f k (l0.length : Int)).bind fun t309 => (if 1 + t309.size ≤ 9223372036854775807 then (impl_List.l0 k ((⟨#[108]⟩ : ByteArray) ++ t309) l0 (l0.length : Int) 0) else (none))
set_option maxHeartbeats 8000000 in
set_option maxRecDepth 100000 in
theorem impl_List.calls (k : Nat) (A0 : Option Addr) (c0 : Nat) (l0 : List ByteArray) (r : ByteArray) (w : World) (hr0 : Kd.C Kd.string w A0 l0.length l0) (hc0 : l0.length ≤ c0) (h : impl_List.f k l0 = some r) :
  Calls Try.prog 27 #[.slice A0 l0.length c0] w fun e w' => e = .returned (.string r) ∧ Below w.heap.size w w' := by
 have HR0 := Aside0.mk hr0
 have HC0 := Aside0.mk hc0
 clear hr0 hc0
 have HB := Aside0.mk (Below.refl w.heap.size w)
 have H := h
 clear h
 unfold impl_List.f at H
 obtain ⟨t309, A2, H⟩ := oB H
 by_cases c3 : 1 + t309.size ≤ 9223372036854775807
 ·rw [if_pos c3] at H
  have c3b0 := eq_true c3
  have c3b1 := decide_eq_true c3
  try have c3b2 : (9223372036854775807 < 1 + t309.size) = False := eq_false (Nat.not_lt.2 c3)
  have H' := Aside0.mk H
  clear H
  go_enter Try.func27, Try.ntmps27
  go_wp2_with (first | ((with_reducible refine gC 61 rfl ?_); refine gL (some 8) Try.func61 #[.int .i64 (l0.length : Int)] ?_; (with_reducible refine (impl_Var.calls k (l0.length : Int) t309 _ A2.out).mono ?_); rintro e w4 ⟨rfl, hb⟩; refine ⟨_, rfl, ?_⟩; have n_ := aM (below_step bH hb); clear HB; have HB := n_; clear n_; (try clear hb)))
  go_loopg [3, 12] k (fun kq v3 v12 w' => ∃ (x3_1 : ByteArray) (x12_1 : Int), v3 = .string x3_1 ∧ v12 = .int .i64 x12_1 ∧ Aside0 (impl_List.l0 kq x3_1 l0 (l0.length : Int) x12_1 = some r) ∧ Aside0 (kq ≤ k) ∧ Aside0 (Below w.heap.size w w'))
  case atStart => exact ⟨((⟨#[108]⟩ : ByteArray) ++ t309), (0), eX, eX, H', ⟨Nat.le_refl _⟩, ⟨bH⟩⟩
  clear H'
  try clear c3
  try clear c3b0
  try clear c3b1
  try clear c3b2
  obtain ⟨x3_1, x12_1, rfl, rfl, HA, HK1, HB⟩ := hrel
  obtain _ | k1 := gk
  ·exact absurd HA.out (by simp [impl_List.l0])
  have H := HA.out
  clear HA
  simp only [impl_List.l0] at H
  by_cases c5 : x12_1 < (l0.length : Int)
  ·rw [if_pos c5] at H
   have c5b0 := decide_eq_true c5
   clear c5
   by_cases c6 : 0 ≤ x12_1
   ·rw [if_pos c6] at H
    have c6b0 := decide_eq_true c6
    clear c6
    by_cases c7 : x12_1 < (l0.length : Int)
    ·rw [if_pos c7] at H
     have c7b0 := decide_eq_true c7
     clear c7
     obtain ⟨t311, A8, H⟩ := oB H
     by_cases c9 : t311 = true
     ·subst c9
      rw [if_pos rfl] at H
      by_cases c10 : x3_1.size + (rdOf ByteArray.empty l0 x12_1).size ≤ 9223372036854775807
      ·rw [if_pos c10] at H
       have c10b0 := eq_true c10
       have c10b1 := decide_eq_true c10
       try have c10b2 : (9223372036854775807 < x3_1.size + (rdOf ByteArray.empty l0 x12_1).size) = False := eq_false (Nat.not_lt.2 c10)
       have H' := Aside0.mk H
       clear H
       have p310 : 0 ≤ (x12_1 : Int) := of_decide_eq_true aA
       have q310 : x12_1 < (l0.length : Int) := of_decide_eq_true aA
       obtain ⟨ad310, e310, hx310_0⟩ := Kd.at_string HR0.out x12_1 p310 q310
       cases e310
       replace hx310_0 := (HB.out.cell (World.block_lt_of_cell? w _ hx310_0)).trans hx310_0
       replace p310 := eq_true p310
       replace q310 := eq_true q310
       go_wp2_with (first | ((with_reducible refine gC 59 rfl ?_); refine gL (some 17) Try.func59 #[.string (rdOf ByteArray.empty l0 x12_1)] ?_; (with_reducible refine (impl_TermOk.calls k1 (rdOf ByteArray.empty l0 x12_1) true _ A8.out).mono ?_); rintro e w11 ⟨rfl, hb⟩; refine ⟨_, rfl, ?_⟩; have n_ := aM (below_step bH hb); clear HB; have HB := n_; clear n_; (try clear hb)))
       go_roundg k1
       case measure => have := HK1.out; omega
       case rel => exact ⟨(x3_1 ++ (rdOf ByteArray.empty l0 x12_1)), (wrap64 (x12_1 + 1)), eX, eX, H', ⟨(by have := HK1.out; omega)⟩, ⟨bH⟩⟩
      rw [if_neg c10] at H
      exact absurd H (by simp)
     replace c9 := Bool.eq_false_iff.mpr c9
     subst c9
     rw [if_neg nF] at H
     obtain rfl := Option.some.inj H
     have p310 : 0 ≤ (x12_1 : Int) := of_decide_eq_true aA
     have q310 : x12_1 < (l0.length : Int) := of_decide_eq_true aA
     obtain ⟨ad310, e310, hx310_0⟩ := Kd.at_string HR0.out x12_1 p310 q310
     cases e310
     replace hx310_0 := (HB.out.cell (World.block_lt_of_cell? w _ hx310_0)).trans hx310_0
     replace p310 := eq_true p310
     replace q310 := eq_true q310
     go_wp2_with (first | ((with_reducible refine gC 59 rfl ?_); refine gL (some 17) Try.func59 #[.string (rdOf ByteArray.empty l0 x12_1)] ?_; (with_reducible refine (impl_TermOk.calls k1 (rdOf ByteArray.empty l0 x12_1) false _ A8.out).mono ?_); rintro e w12 ⟨rfl, hb⟩; refine ⟨_, rfl, ?_⟩; have n_ := aM (below_step bH hb); clear HB; have HB := n_; clear n_; (try clear hb)))
     go_ret
     exact ⟨eE, bH⟩
    rw [if_neg c7] at H
    exact absurd H (by simp)
   rw [if_neg c6] at H
   exact absurd H (by simp)
  rw [if_neg c5] at H
  have c5b0 := decide_eq_false c5
  clear c5
  obtain ⟨t312, A13, H⟩ := oB H
  obtain rfl := Option.some.inj H
  go_wp2_with (first | ((with_reducible refine gC 60 rfl ?_); refine gL (some 24) Try.func60 #[.string x3_1] ?_; (with_reducible refine (impl_term.calls k1 x3_1 t312 _ A13.out).mono ?_); rintro e w14 ⟨rfl, hb⟩; refine ⟨_, rfl, ?_⟩; have n_ := aM (below_step bH hb); clear HB; have HB := n_; clear n_; (try clear hb)))
  go_ret
  exact ⟨eE, bH⟩
 rw [if_neg c3] at H
 exact absurd H (by simp)

/-! ### impl_Atom: function 78 -/
def impl_Atom.f (k : Nat) (a0 : ByteArray) : Option (ByteArray) := (impl_Var.f k (a0.size : Int)).bind fun t313 => (if 1 + t313.size ≤ 9223372036854775807 then (if ((⟨#[97]⟩ : ByteArray) ++ t313).size + a0.size ≤ 9223372036854775807 then ((impl_term.f k (((⟨#[97]⟩ : ByteArray) ++ t313) ++ a0)).bind fun t314 => (some t314)) else (none)) else (none))
set_option maxHeartbeats 8000000 in
set_option maxRecDepth 100000 in
theorem impl_Atom.calls (k : Nat) (a0 : ByteArray) (r : ByteArray) (w : World) (h : impl_Atom.f k a0 = some r) :
  Calls Try.prog 78 #[.string a0] w fun e w' => e = .returned (.string r) ∧ Below w.heap.size w w' := by
 have HB := Aside0.mk (Below.refl w.heap.size w)
 have H := h
 clear h
 unfold impl_Atom.f at H
 obtain ⟨t313, A2, H⟩ := oB H
 by_cases c3 : 1 + t313.size ≤ 9223372036854775807
 ·rw [if_pos c3] at H
  have c3b0 := eq_true c3
  have c3b1 := decide_eq_true c3
  try have c3b2 : (9223372036854775807 < 1 + t313.size) = False := eq_false (Nat.not_lt.2 c3)
  by_cases c4 : ((⟨#[97]⟩ : ByteArray) ++ t313).size + a0.size ≤ 9223372036854775807
  ·rw [if_pos c4] at H
   have c4b0 := eq_true c4
   have c4b1 := decide_eq_true c4
   try have c4b2 : (9223372036854775807 < ((⟨#[97]⟩ : ByteArray) ++ t313).size + a0.size) = False := eq_false (Nat.not_lt.2 c4)
   obtain ⟨t314, A5, H⟩ := oB H
   obtain rfl := Option.some.inj H
   go_enter Try.func78, Try.ntmps78
   go_wp2_with (first | ((with_reducible refine gC 61 rfl ?_); refine gL (some 5) Try.func61 #[.int .i64 (a0.size : Int)] ?_; (with_reducible refine (impl_Var.calls k (a0.size : Int) t313 _ A2.out).mono ?_); rintro e w6 ⟨rfl, hb⟩; refine ⟨_, rfl, ?_⟩; have n_ := aM (below_step bH hb); clear HB; have HB := n_; clear n_; (try clear hb)) | ((with_reducible refine gC 60 rfl ?_); refine gL (some 9) Try.func60 #[.string (((⟨#[97]⟩ : ByteArray) ++ t313) ++ a0)] ?_; (with_reducible refine (impl_term.calls k (((⟨#[97]⟩ : ByteArray) ++ t313) ++ a0) t314 _ A5.out).mono ?_); rintro e w7 ⟨rfl, hb⟩; refine ⟨_, rfl, ?_⟩; have n_ := aM (below_step bH hb); clear HB; have HB := n_; clear n_; (try clear hb)))
   go_ret
   exact ⟨eE, bH⟩
  rw [if_neg c4] at H
  exact absurd H (by simp)
 rw [if_neg c3] at H
 exact absurd H (by simp)

/-! ### impl_Num: function 62 -/
def impl_Num.f (k : Nat) (a0 : Int) : Option (ByteArray) := (impl_Var.f k a0).bind fun t315 => (if t315.toList = ([] : List UInt8) then (some (⟨#[]⟩ : ByteArray)) else ((impl_Atom.f k t315).bind fun t316 => (some t316)))
set_option maxHeartbeats 8000000 in
set_option maxRecDepth 100000 in
theorem impl_Num.calls (k : Nat) (a0 : Int) (r : ByteArray) (w : World) (h : impl_Num.f k a0 = some r) :
  Calls Try.prog 62 #[.int .i64 a0] w fun e w' => e = .returned (.string r) ∧ Below w.heap.size w w' := by
 have HB := Aside0.mk (Below.refl w.heap.size w)
 have H := h
 clear h
 unfold impl_Num.f at H
 obtain ⟨t315, A2, H⟩ := oB H
 by_cases c3 : t315.toList = ([] : List UInt8)
 ·rw [if_pos c3] at H
  have c3b0 : (t315.toList == ([] : List UInt8)) = true := beq_iff_eq.mpr c3
  have c3e : t315.toList.isEmpty = true := List.isEmpty_iff.mpr c3
  have c3b1 : (t315.toList != ([] : List UInt8)) = false := bne_eq_false_iff_eq.mpr c3
  clear c3
  obtain rfl := Option.some.inj H
  go_enter Try.func62, Try.ntmps62
  go_wp2_with (first | ((with_reducible refine gC 61 rfl ?_); refine gL (some 5) Try.func61 #[.int .i64 a0] ?_; (with_reducible refine (impl_Var.calls k a0 t315 _ A2.out).mono ?_); rintro e w4 ⟨rfl, hb⟩; refine ⟨_, rfl, ?_⟩; have n_ := aM (below_step bH hb); clear HB; have HB := n_; clear n_; (try clear hb)))
  go_ret
  exact ⟨eE, bH⟩
 rw [if_neg c3] at H
 have c3b0 : (t315.toList == ([] : List UInt8)) = false := beq_eq_false_iff_ne.mpr c3
 have c3e : t315.toList.isEmpty = false := by cases h_ : t315.toList.isEmpty with | false => rfl | true => exact absurd (List.isEmpty_iff.mp h_) c3
 have c3b1 : (t315.toList != ([] : List UInt8)) = true := bne_iff_ne.mpr c3
 obtain ⟨t316, A5, H⟩ := oB H
 obtain rfl := Option.some.inj H
 go_enter Try.func62, Try.ntmps62
 go_wp2_with (first | ((with_reducible refine gC 61 rfl ?_); refine gL (some 5) Try.func61 #[.int .i64 a0] ?_; (with_reducible refine (impl_Var.calls k a0 t315 _ A2.out).mono ?_); rintro e w6 ⟨rfl, hb⟩; refine ⟨_, rfl, ?_⟩; have n_ := aM (below_step bH hb); clear HB; have HB := n_; clear n_; (try clear hb)) | ((with_reducible refine gC 78 rfl ?_); refine gL (some 9) Try.func78 #[.string t315] ?_; (with_reducible refine (impl_Atom.calls k t315 t316 _ A5.out).mono ?_); rintro e w7 ⟨rfl, hb⟩; refine ⟨_, rfl, ?_⟩; have n_ := aM (below_step bH hb); clear HB; have HB := n_; clear n_; (try clear hb)))
 go_ret
 exact ⟨eE, bH⟩

end Go.Proofs.Ytaldemgfndmmlaa.OFnTickets
-- wrapped
-- halved
-- squeezed
-- squeezed2
-- squeezed3
