-- walks of this claim, written by a program of mine
import Derived.Test.YtmhjpnjolgigmaaOFnExactReadTicketx0
import Derived.Test.YtmhjpnjolgigmaaOFnExactReadTicketx7
namespace Go.Proofs.Ytmhjpnjolgigmaa.OFnExactReadTicket
open Go.RowKit Go.Proofs.Ytmhjpnjolgigmaa.OWord Go.Proofs.YtmhjpnjolgigmaaW.PrintWords Go.Proofs.YtmhjpnjolgigmaaW.PrintLast Go.Proofs.YtmhjpnjolgigmaaW.PrintMore
attribute [local go_sem] max2_int min2_int max_two min_two max_three min_three max_four min_four   -- for this text's walks alone
set_option linter.unusedVariables false
set_option linter.unusedSimpArgs false

/-! ### impl_termAt: function 128 -/
mutual
def impl_termAt.j0 : Nat → ByteArray → Int → Int → Bool → Option (Int)
 | 0, _, _, _, _ => none
 | k + 1, x0, x1, x2, x17 => if x17 = true then (some (-1)) else ((impl_varAt.f k x0 (wrap64 (x1 + 1))).bind fun bt248 => (if 0 ≤ x1 then (if x1 < (x0.size : Int) then (if (bt x0 x1) = 97 then ((impl_within.f bt248.1 0 40).bind fun t250 => (if t250 = true then (if bt248.1 > (wrap64 ((x0.size : Int) - bt248.2)) then (some (-1)) else (some (wrap64 (bt248.2 + bt248.1)))) else (some (-1)))) else (if (bt x0 x1) = 107 then ((impl_isKey.f bt248.1).bind fun t251 => (if t251 = true then (some bt248.2) else (some (-1)))) else (if (bt x0 x1) = 108 then ((impl_within.f bt248.1 0 12).bind fun t252 => (if t252 = true then (impl_termAt.l0 k x0 x2 bt248.1 bt248.2 0) else (some (-1)))) else (if (bt x0 x1) = 115 then ((impl_isKey.f bt248.1).bind fun t254 => (if t254 = true then ((impl_termAt.f k x0 bt248.2 (wrap64 (x2 - 1))).bind fun t255 => (some t255)) else (some (-1)))) else (some (-1)))))) else (none)) else (none)))
def impl_termAt.l0 : Nat → ByteArray → Int → Int → Int → Int → Option (Int)
 | 0, _, _, _, _, _ => none
 | k + 1, x0, x2, x7, x8, x9 => if x9 < x7 then (if x8 ≥ 0 then ((impl_termAt.f k x0 x8 (wrap64 (x2 - 1))).bind fun t253 => (impl_termAt.l0 k x0 x2 x7 t253 (wrap64 (x9 + 1)))) else (some x8)) else (some x8)
def impl_termAt.f : Nat → ByteArray → Int → Int → Option (Int)
 | 0, _, _, _ => none
 | k + 1, a0, a1, a2 => if a1 ≥ (a0.size : Int) then (impl_termAt.j0 k a0 a1 a2 true) else (impl_termAt.j0 k a0 a1 a2 (decide (a2 < 1)))
end
theorem impl_termAt.mono_l : ∀ k, (∀ y0 y1 y2, LeO (impl_termAt.f k y0 y1 y2) (impl_termAt.f (k + 1) y0 y1 y2)) ∧ (∀ y0 y1 y2 y3, LeO (impl_termAt.j0 k y0 y1 y2 y3) (impl_termAt.j0 (k + 1) y0 y1 y2 y3)) ∧ (∀ y0 y1 y2 y3 y4, LeO (impl_termAt.l0 k y0 y1 y2 y3 y4) (impl_termAt.l0 (k + 1) y0 y1 y2 y3 y4))
 | 0 => ⟨fun _ _ _ r h => by simp [impl_termAt.f] at h, fun _ _ _ _ r h => by simp [impl_termAt.j0] at h, fun _ _ _ _ _ r h => by simp [impl_termAt.l0] at h⟩
 | k + 1 => by
  obtain ⟨ih0, ih1, ih2⟩ := impl_termAt.mono_l k
  refine ⟨?_, ?_, ?_⟩
  ·intro y0 y1 y2
   unfold impl_termAt.f
   repeat' first
   | (with_reducible exact ih0 _ _ _)
   | (with_reducible exact ih1 _ _ _ _)
   | (with_reducible exact ih2 _ _ _ _ _)
   | (with_reducible exact impl_varAt.mono _ _ _)
   | (with_reducible exact LeO.refl _)
   | (with_reducible exact LeO.none _)
   | (with_reducible refine LeO.ite ?_ ?_)
   | (with_reducible refine LeO.bind ?_ (fun _ => ?_))
   | exact ih0 _ _ _
   | exact ih1 _ _ _ _
   | exact ih2 _ _ _ _ _
   | exact impl_varAt.mono _ _ _
   | exact LeO.none _
   | refine LeO.ite ?_ ?_
   | refine LeO.bind ?_ (fun _ => ?_)
  ·intro y0 y1 y2 y3
   unfold impl_termAt.j0
   repeat' first
   | (with_reducible exact ih0 _ _ _)
   | (with_reducible exact ih1 _ _ _ _)
   | (with_reducible exact ih2 _ _ _ _ _)
   | (with_reducible exact impl_varAt.mono _ _ _)
   | (with_reducible exact LeO.refl _)
   | (with_reducible exact LeO.none _)
   | (with_reducible refine LeO.ite ?_ ?_)
   | (with_reducible refine LeO.bind ?_ (fun _ => ?_))
   | exact ih0 _ _ _
   | exact ih1 _ _ _ _
   | exact ih2 _ _ _ _ _
   | exact impl_varAt.mono _ _ _
   | exact LeO.none _
   | refine LeO.ite ?_ ?_
   | refine LeO.bind ?_ (fun _ => ?_)
  ·intro y0 y1 y2 y3 y4
   unfold impl_termAt.l0
   repeat' first
   | (with_reducible exact ih0 _ _ _)
   | (with_reducible exact ih1 _ _ _ _)
   | (with_reducible exact ih2 _ _ _ _ _)
   | (with_reducible exact impl_varAt.mono _ _ _)
   | (with_reducible exact LeO.refl _)
   | (with_reducible exact LeO.none _)
   | (with_reducible refine LeO.ite ?_ ?_)
   | (with_reducible refine LeO.bind ?_ (fun _ => ?_))
   | exact ih0 _ _ _
   | exact ih1 _ _ _ _
   | exact ih2 _ _ _ _ _
   | exact impl_varAt.mono _ _ _
   | exact LeO.none _
   | refine LeO.ite ?_ ?_
   | refine LeO.bind ?_ (fun _ => ?_)
theorem impl_termAt.mono : ∀ a0 a1 a2 k, LeO (impl_termAt.f k a0 a1 a2) (impl_termAt.f (k + 1) a0 a1 a2) := by
 intro a0 a1 a2 k
 obtain ⟨ih0, ih1, ih2⟩ := impl_termAt.mono_l k
 exact ih0 a0 a1 a2
set_option maxHeartbeats 8000000 in
set_option maxRecDepth 100000 in
theorem impl_termAt.calls (k : Nat) : ∀ (a0 : ByteArray) (a1 : Int) (a2 : Int) (r : Int) (w : World) (h : impl_termAt.f k a0 a1 a2 = some r),
  Calls Try.prog 128 #[.string a0, .int .i64 a1, .int .i64 a2] w fun e w' => e = .returned (.int .i64 r) ∧ Below w.heap.size w w' := by
 induction k using Nat.strongRecOn with
 | _ k ih =>
 intro a0 a1 a2 r w h
 cases k with
 | zero => exact absurd h (by simp [impl_termAt.f])
 | succ k =>
 simp only [impl_termAt.f] at h
 have HB := Aside0.mk (Below.refl w.heap.size w)
 have H : (if a1 ≥ (a0.size : Int) then (impl_termAt.j0 k a0 a1 a2 true) else (impl_termAt.j0 k a0 a1 a2 (decide (a2 < 1)))) = some r := h
 clear h
 have HC4 := Aside0.mk H
 clear H
 go_enter Try.func128, Try.ntmps128
 go_upto_region 1 with (fail)
 go_cut [17] (fun v17 wc => ∃ (kq : Nat) (x17_3 : Bool), v17 = .bool x17_3 ∧ Aside0 (impl_termAt.j0 kq a0 a1 a2 x17_3 = some r) ∧ Aside0 (kq ≤ k) ∧ Aside0 (Below w.heap.size w wc))
 case first =>
  have H := HC4.out
  clear HC4
  by_cases c5 : a1 ≥ (a0.size : Int)
  ·rw [if_pos c5] at H
   have c5b0 : decide ((a0.size : Int) ≤ a1) = true := decide_eq_true c5
   clear c5
   (first | rw [c5b0] | (simp only [i64_w, i32_w]; rw [c5b0]) | skip)
   have H' := Aside0.mk H
   clear H
   go_wp2
   go_meet
   case rel => exact ⟨_, (true), eX, H', ⟨by first | omega | exact Nat.le_refl _⟩, ⟨by repeat (first | (with_reducible first | exact HB.out | apply below_alloc | apply pw_below_drewN | apply below_drew1) | exact HB.out)⟩⟩
  ·rw [if_neg c5] at H
   have c5b0 : decide ((a0.size : Int) ≤ a1) = false := decide_eq_false c5
   clear c5
   (first | rw [c5b0] | (simp only [i64_w, i32_w]; rw [c5b0]) | skip)
   have H' := Aside0.mk H
   clear H
   go_wp2
   go_meet
   case rel => exact ⟨_, (decide (a2 < 1)), eX, H', ⟨by first | omega | exact Nat.le_refl _⟩, ⟨by repeat (first | (with_reducible first | exact HB.out | apply below_alloc | apply pw_below_drewN | apply below_drew1) | exact HB.out)⟩⟩
 case rest =>
  clear HC4
  try clear c1
  try clear p2
  try clear c5
  try clear c5b0
  obtain ⟨kq, x17_3, rfl, HA, HJ3, HB⟩ := hcut
  cases kq with
  | zero => exact absurd HA.out (by simp [impl_termAt.j0])
  | succ kj3 =>
   have H := HA.out
   clear HA
   simp only [impl_termAt.j0] at H
   by_cases c6 : x17_3 = true
   ·subst c6
    have H1 : (some (-1)) = some r := by rw [if_pos rfl] at H; exact H
    clear H
    have H := H1
    clear H1
    obtain rfl := Option.some.inj H
    go_wp2
    go_ret
    exact ⟨eE, bH⟩
   ·replace c6 := Bool.eq_false_iff.mpr c6
    subst c6
    have H1 : ((impl_varAt.f kj3 a0 (wrap64 (a1 + 1))).bind fun bt248 => (if 0 ≤ a1 then (if a1 < (a0.size : Int) then (if (bt a0 a1) = 97 then ((impl_within.f bt248.1 0 40).bind fun t250 => (if t250 = true then (if bt248.1 > (wrap64 ((a0.size : Int) - bt248.2)) then (some (-1)) else (some (wrap64 (bt248.2 + bt248.1)))) else (some (-1)))) else (if (bt a0 a1) = 107 then ((impl_isKey.f bt248.1).bind fun t251 => (if t251 = true then (some bt248.2) else (some (-1)))) else (if (bt a0 a1) = 108 then ((impl_within.f bt248.1 0 12).bind fun t252 => (if t252 = true then (impl_termAt.l0 kj3 a0 a2 bt248.1 bt248.2 0) else (some (-1)))) else (if (bt a0 a1) = 115 then ((impl_isKey.f bt248.1).bind fun t254 => (if t254 = true then ((impl_termAt.f kj3 a0 bt248.2 (wrap64 (a2 - 1))).bind fun t255 => (some t255)) else (some (-1)))) else (some (-1)))))) else (none)) else (none))) = some r := by rw [if_neg (show ¬ (false = true) by decide)] at H; exact H
    clear H
    have H := H1
    clear H1
    replace H := Option.bind_eq_some_iff.mp H
    obtain ⟨⟨t248, t249⟩, A70, H⟩ := H
    replace H : (if 0 ≤ a1 then (if a1 < (a0.size : Int) then (if (bt a0 a1) = 97 then ((impl_within.f t248 0 40).bind fun t250 => (if t250 = true then (if t248 > (wrap64 ((a0.size : Int) - t249)) then (some (-1)) else (some (wrap64 (t249 + t248)))) else (some (-1)))) else (if (bt a0 a1) = 107 then ((impl_isKey.f t248).bind fun t251 => (if t251 = true then (some t249) else (some (-1)))) else (if (bt a0 a1) = 108 then ((impl_within.f t248 0 12).bind fun t252 => (if t252 = true then (impl_termAt.l0 kj3 a0 a2 t248 t249 0) else (some (-1)))) else (if (bt a0 a1) = 115 then ((impl_isKey.f t248).bind fun t254 => (if t254 = true then ((impl_termAt.f kj3 a0 t249 (wrap64 (a2 - 1))).bind fun t255 => (some t255)) else (some (-1)))) else (some (-1)))))) else (none)) else (none)) = some r := H
    have A7 := Aside0.mk A70
    clear A70
    by_cases c8 : 0 ≤ a1
    ·rw [if_pos c8] at H
     have c8b0 : decide (0 ≤ a1) = true := decide_eq_true c8
     clear c8
     by_cases c9 : a1 < (a0.size : Int)
     ·rw [if_pos c9] at H
      have c9b0 : decide (a1 < (a0.size : Int)) = true := decide_eq_true c9
      clear c9
      by_cases c11 : (bt a0 a1) = 97
      ·rw [if_pos c11] at H
       have c11b0 : ((bt a0 a1) == 97) = true := beq_iff_eq.mpr c11
       have c11b1 : ((bt a0 a1) != 97) = false := bne_eq_false_iff_eq.mpr c11
       clear c11
       replace H := Option.bind_eq_some_iff.mp H
       obtain ⟨t250, A120, H⟩ := H
       replace H : (if t250 = true then (if t248 > (wrap64 ((a0.size : Int) - t249)) then (some (-1)) else (some (wrap64 (t249 + t248)))) else (some (-1))) = some r := H
       have A12 := Aside0.mk A120
       clear A120
       by_cases c13 : t250 = true
       ·subst c13
        have H1 : (if t248 > (wrap64 ((a0.size : Int) - t249)) then (some (-1)) else (some (wrap64 (t249 + t248)))) = some r := by rw [if_pos rfl] at H; exact H
        clear H
        have H := H1
        clear H1
        by_cases c14 : t248 > (wrap64 ((a0.size : Int) - t249))
        ·rw [if_pos c14] at H
         have c14b0 : decide ((wrap64 ((a0.size : Int) - t249)) < t248) = true := decide_eq_true c14
         clear c14
         obtain rfl := Option.some.inj H
         go_wp2_with (first | ((with_reducible refine gate_callee (f := 127) rfl ?_); refine goesL_ (some 22) rfl rfl Try.func127 (by kernel_rfl) rfl #[.string a0, .int .i64 (wrap64 (a1 + 1))] rfl eA ?_; (with_reducible refine (impl_varAt.calls kj3 a0 (wrap64 (a1 + 1)) t248 t249 _ A7.out).mono ?_); rintro e w15 ⟨rfl, hb⟩; refine ⟨_, rfl, ?_⟩; have n0_ := Aside0.mk (below_step bH hb); clear HB; have HB := n0_; clear n0_; (try clear hb); (try clear hb2); (try clear hk); (try clear hi); have p10 : 0 ≤ (a1 : Int) := of_decide_eq_true aA; have q10 : a1 < (a0.size : Int) := of_decide_eq_true aA; have hx10 := bt_at a0 a1; replace p10 := eq_true p10; replace q10 := eq_true q10) | ((with_reducible refine gate_callee (f := 57) rfl ?_); refine goesL_ (some 31) rfl rfl Try.func57 (by kernel_rfl) rfl #[.int .i64 t248, .int .i64 0, .int .i64 40] rfl eA ?_; (with_reducible refine (impl_within.calls t248 0 40 true _ A12.out).mono ?_); rintro e w' ⟨rfl, ⟨nd, rfl⟩⟩; refine ⟨_, rfl, ?_⟩))
         go_ret
         exact ⟨eE, bH⟩
        ·rw [if_neg c14] at H
         have c14b0 : decide ((wrap64 ((a0.size : Int) - t249)) < t248) = false := decide_eq_false c14
         clear c14
         obtain rfl := Option.some.inj H
         go_wp2_with (first | ((with_reducible refine gate_callee (f := 127) rfl ?_); refine goesL_ (some 22) rfl rfl Try.func127 (by kernel_rfl) rfl #[.string a0, .int .i64 (wrap64 (a1 + 1))] rfl eA ?_; (with_reducible refine (impl_varAt.calls kj3 a0 (wrap64 (a1 + 1)) t248 t249 _ A7.out).mono ?_); rintro e w16 ⟨rfl, hb⟩; refine ⟨_, rfl, ?_⟩; have n0_ := Aside0.mk (below_step bH hb); clear HB; have HB := n0_; clear n0_; (try clear hb); (try clear hb2); (try clear hk); (try clear hi); have p10 : 0 ≤ (a1 : Int) := of_decide_eq_true aA; have q10 : a1 < (a0.size : Int) := of_decide_eq_true aA; have hx10 := bt_at a0 a1; replace p10 := eq_true p10; replace q10 := eq_true q10) | ((with_reducible refine gate_callee (f := 57) rfl ?_); refine goesL_ (some 31) rfl rfl Try.func57 (by kernel_rfl) rfl #[.int .i64 t248, .int .i64 0, .int .i64 40] rfl eA ?_; (with_reducible refine (impl_within.calls t248 0 40 true _ A12.out).mono ?_); rintro e w' ⟨rfl, ⟨nd, rfl⟩⟩; refine ⟨_, rfl, ?_⟩))
         go_ret
         exact ⟨eE, bH⟩
       ·replace c13 := Bool.eq_false_iff.mpr c13
        subst c13
        have H1 : (some (-1)) = some r := by rw [if_neg (show ¬ (false = true) by decide)] at H; exact H
        clear H
        have H := H1
        clear H1
        obtain rfl := Option.some.inj H
        go_wp2_with (first | ((with_reducible refine gate_callee (f := 127) rfl ?_); refine goesL_ (some 22) rfl rfl Try.func127 (by kernel_rfl) rfl #[.string a0, .int .i64 (wrap64 (a1 + 1))] rfl eA ?_; (with_reducible refine (impl_varAt.calls kj3 a0 (wrap64 (a1 + 1)) t248 t249 _ A7.out).mono ?_); rintro e w17 ⟨rfl, hb⟩; refine ⟨_, rfl, ?_⟩; have n0_ := Aside0.mk (below_step bH hb); clear HB; have HB := n0_; clear n0_; (try clear hb); (try clear hb2); (try clear hk); (try clear hi); have p10 : 0 ≤ (a1 : Int) := of_decide_eq_true aA; have q10 : a1 < (a0.size : Int) := of_decide_eq_true aA; have hx10 := bt_at a0 a1; replace p10 := eq_true p10; replace q10 := eq_true q10) | ((with_reducible refine gate_callee (f := 57) rfl ?_); refine goesL_ (some 31) rfl rfl Try.func57 (by kernel_rfl) rfl #[.int .i64 t248, .int .i64 0, .int .i64 40] rfl eA ?_; (with_reducible refine (impl_within.calls t248 0 40 false _ A12.out).mono ?_); rintro e w' ⟨rfl, ⟨nd, rfl⟩⟩; refine ⟨_, rfl, ?_⟩))
        go_ret
        exact ⟨eE, bH⟩
      ·rw [if_neg c11] at H
       have c11b0 : ((bt a0 a1) == 97) = false := beq_eq_false_iff_ne.mpr c11
       have c11b1 : ((bt a0 a1) != 97) = true := bne_iff_ne.mpr c11
       by_cases c18 : (bt a0 a1) = 107
       ·rw [if_pos c18] at H
        have c18b0 : ((bt a0 a1) == 107) = true := beq_iff_eq.mpr c18
        have c18b1 : ((bt a0 a1) != 107) = false := bne_eq_false_iff_eq.mpr c18
        clear c18
        replace H := Option.bind_eq_some_iff.mp H
        obtain ⟨t251, A190, H⟩ := H
        replace H : (if t251 = true then (some t249) else (some (-1))) = some r := H
        have A19 := Aside0.mk A190
        clear A190
        by_cases c20 : t251 = true
        ·subst c20
         have H1 : (some t249) = some r := by rw [if_pos rfl] at H; exact H
         clear H
         have H := H1
         clear H1
         obtain rfl := Option.some.inj H
         go_wp2_with (first | ((with_reducible refine gate_callee (f := 127) rfl ?_); refine goesL_ (some 22) rfl rfl Try.func127 (by kernel_rfl) rfl #[.string a0, .int .i64 (wrap64 (a1 + 1))] rfl eA ?_; (with_reducible refine (impl_varAt.calls kj3 a0 (wrap64 (a1 + 1)) t248 t249 _ A7.out).mono ?_); rintro e w21 ⟨rfl, hb⟩; refine ⟨_, rfl, ?_⟩; have n0_ := Aside0.mk (below_step bH hb); clear HB; have HB := n0_; clear n0_; (try clear hb); (try clear hb2); (try clear hk); (try clear hi); have p10 : 0 ≤ (a1 : Int) := of_decide_eq_true aA; have q10 : a1 < (a0.size : Int) := of_decide_eq_true aA; have hx10 := bt_at a0 a1; replace p10 := eq_true p10; replace q10 := eq_true q10) | ((with_reducible refine gate_callee (f := 117) rfl ?_); refine goesL_ (some 47) rfl rfl Try.func117 (by kernel_rfl) rfl #[.int .i64 t248] rfl eA ?_; (with_reducible refine (impl_isKey.calls t248 true _ A19.out).mono ?_); rintro e w' ⟨rfl, ⟨nd, rfl⟩⟩; refine ⟨_, rfl, ?_⟩))
         go_ret
         exact ⟨eE, bH⟩
        ·replace c20 := Bool.eq_false_iff.mpr c20
         subst c20
         have H1 : (some (-1)) = some r := by rw [if_neg (show ¬ (false = true) by decide)] at H; exact H
         clear H
         have H := H1
         clear H1
         obtain rfl := Option.some.inj H
         go_wp2_with (first | ((with_reducible refine gate_callee (f := 127) rfl ?_); refine goesL_ (some 22) rfl rfl Try.func127 (by kernel_rfl) rfl #[.string a0, .int .i64 (wrap64 (a1 + 1))] rfl eA ?_; (with_reducible refine (impl_varAt.calls kj3 a0 (wrap64 (a1 + 1)) t248 t249 _ A7.out).mono ?_); rintro e w22 ⟨rfl, hb⟩; refine ⟨_, rfl, ?_⟩; have n0_ := Aside0.mk (below_step bH hb); clear HB; have HB := n0_; clear n0_; (try clear hb); (try clear hb2); (try clear hk); (try clear hi); have p10 : 0 ≤ (a1 : Int) := of_decide_eq_true aA; have q10 : a1 < (a0.size : Int) := of_decide_eq_true aA; have hx10 := bt_at a0 a1; replace p10 := eq_true p10; replace q10 := eq_true q10) | ((with_reducible refine gate_callee (f := 117) rfl ?_); refine goesL_ (some 47) rfl rfl Try.func117 (by kernel_rfl) rfl #[.int .i64 t248] rfl eA ?_; (with_reducible refine (impl_isKey.calls t248 false _ A19.out).mono ?_); rintro e w' ⟨rfl, ⟨nd, rfl⟩⟩; refine ⟨_, rfl, ?_⟩))
         go_ret
         exact ⟨eE, bH⟩
       ·rw [if_neg c18] at H
        have c18b0 : ((bt a0 a1) == 107) = false := beq_eq_false_iff_ne.mpr c18
        have c18b1 : ((bt a0 a1) != 107) = true := bne_iff_ne.mpr c18
        by_cases c23 : (bt a0 a1) = 108
        ·rw [if_pos c23] at H
         have c23b0 : ((bt a0 a1) == 108) = true := beq_iff_eq.mpr c23
         have c23b1 : ((bt a0 a1) != 108) = false := bne_eq_false_iff_eq.mpr c23
         clear c23
         replace H := Option.bind_eq_some_iff.mp H
         obtain ⟨t252, A240, H⟩ := H
         replace H : (if t252 = true then (impl_termAt.l0 kj3 a0 a2 t248 t249 0) else (some (-1))) = some r := H
         have A24 := Aside0.mk A240
         clear A240
         by_cases c25 : t252 = true
         ·subst c25
          have H1 : (impl_termAt.l0 kj3 a0 a2 t248 t249 0) = some r := by rw [if_pos rfl] at H; exact H
          clear H
          have H := H1
          clear H1
          have H' := Aside0.mk H
          clear H
          go_wp2_with (first | ((with_reducible refine gate_callee (f := 127) rfl ?_); refine goesL_ (some 22) rfl rfl Try.func127 (by kernel_rfl) rfl #[.string a0, .int .i64 (wrap64 (a1 + 1))] rfl eA ?_; (with_reducible refine (impl_varAt.calls kj3 a0 (wrap64 (a1 + 1)) t248 t249 _ A7.out).mono ?_); rintro e w26 ⟨rfl, hb⟩; refine ⟨_, rfl, ?_⟩; have n0_ := Aside0.mk (below_step bH hb); clear HB; have HB := n0_; clear n0_; (try clear hb); (try clear hb2); (try clear hk); (try clear hi); have p10 : 0 ≤ (a1 : Int) := of_decide_eq_true aA; have q10 : a1 < (a0.size : Int) := of_decide_eq_true aA; have hx10 := bt_at a0 a1; replace p10 := eq_true p10; replace q10 := eq_true q10) | ((with_reducible refine gate_callee (f := 57) rfl ?_); refine goesL_ (some 53) rfl rfl Try.func57 (by kernel_rfl) rfl #[.int .i64 t248, .int .i64 0, .int .i64 12] rfl eA ?_; (with_reducible refine (impl_within.calls t248 0 12 true _ A24.out).mono ?_); rintro e w' ⟨rfl, ⟨nd, rfl⟩⟩; refine ⟨_, rfl, ?_⟩))
          go_loopg [8, 9] kj3 (fun kq v8 v9 w' => ∃ (x8_2 : Int) (x9_2 : Int), v8 = .int .i64 x8_2 ∧ v9 = .int .i64 x9_2 ∧ Aside0 (impl_termAt.l0 kq a0 a2 t248 x8_2 x9_2 = some r) ∧ Aside0 (kq ≤ kj3) ∧ Aside0 (Below w.heap.size w w'))
          case atStart => exact ⟨(t249), (0), eX, eX, H', ⟨Nat.le_refl _⟩, ⟨by repeat (first | (with_reducible first | exact HB.out | apply below_alloc | apply pw_below_drewN | apply below_drew1) | exact HB.out)⟩⟩
          case round =>
           clear H'
           try clear c1
           try clear p1
           try clear q1
           try clear hx1
           try clear c2
           try clear p2
           try clear c5
           try clear c5b0
           try clear c6
           try clear p6
           try clear c8
           try clear c8b0
           try clear c9
           try clear c9b0
           try clear p10
           try clear q10
           try clear hx10
           try clear c11
           try clear c11b0
           try clear c11b1
           try clear c12
           try clear c13
           try clear c14
           try clear c14b0
           try clear c18
           try clear c18b0
           try clear c18b1
           try clear c20
           try clear c23
           try clear c23b0
           try clear c23b1
           try clear c25
           try clear p10
           try clear p2
           try clear q10
           obtain ⟨x8_2, x9_2, rfl, rfl, HA, HK2, HB⟩ := hrel
           cases gk with
           | zero => exact absurd HA.out (by simp [impl_termAt.l0])
           | succ k2 =>
            have H := HA.out
            clear HA
            simp only [impl_termAt.l0] at H
            by_cases c27 : x9_2 < t248
            ·rw [if_pos c27] at H
             have c27b0 : decide (x9_2 < t248) = true := decide_eq_true c27
             clear c27
             by_cases c28 : x8_2 ≥ 0
             ·rw [if_pos c28] at H
              have c28b0 : decide (0 ≤ x8_2) = true := decide_eq_true c28
              clear c28
              replace H := Option.bind_eq_some_iff.mp H
              obtain ⟨t253, A290, H⟩ := H
              replace H : (impl_termAt.l0 k2 a0 a2 t248 t253 (wrap64 (x9_2 + 1))) = some r := H
              have A29 := Aside0.mk A290
              clear A290
              have H' := Aside0.mk H
              clear H
              go_wp2_with (first | ((with_reducible refine gate_callee (f := 128) rfl ?_); refine goesL_ (some 68) rfl rfl Try.func128 (by kernel_rfl) rfl #[.string a0, .int .i64 x8_2, .int .i64 (wrap64 (a2 - 1))] rfl eA ?_; (with_reducible refine (ih k2 (by have := HJ3.out; have := HK2.out; omega) a0 x8_2 (wrap64 (a2 - 1)) t253 _ A29.out).mono ?_); rintro e w30 ⟨rfl, hb⟩; refine ⟨_, rfl, ?_⟩; have n0_ := Aside0.mk (below_step bH hb); clear HB; have HB := n0_; clear n0_; (try clear hb); (try clear hb2); (try clear hk); (try clear hi)))
              go_roundg k2
              case measure => have := HJ3.out; have := HK2.out; omega
              case rel => exact ⟨(t253), (wrap64 (x9_2 + 1)), eX, eX, H', ⟨by have := HJ3.out; have := HK2.out; omega⟩, ⟨by repeat (first | (with_reducible first | exact HB.out | apply below_alloc | apply pw_below_drewN | apply below_drew1) | exact HB.out)⟩⟩
             ·rw [if_neg c28] at H
              have c28b0 : decide (0 ≤ x8_2) = false := decide_eq_false c28
              clear c28
              obtain rfl := Option.some.inj H
              go_wp2
              go_ret
              exact ⟨eE, bH⟩
            ·rw [if_neg c27] at H
             have c27b0 : decide (x9_2 < t248) = false := decide_eq_false c27
             clear c27
             obtain rfl := Option.some.inj H
             go_wp2
             go_ret
             exact ⟨eE, bH⟩
         ·replace c25 := Bool.eq_false_iff.mpr c25
          subst c25
          have H1 : (some (-1)) = some r := by rw [if_neg (show ¬ (false = true) by decide)] at H; exact H
          clear H
          have H := H1
          clear H1
          obtain rfl := Option.some.inj H
          go_wp2_with (first | ((with_reducible refine gate_callee (f := 127) rfl ?_); refine goesL_ (some 22) rfl rfl Try.func127 (by kernel_rfl) rfl #[.string a0, .int .i64 (wrap64 (a1 + 1))] rfl eA ?_; (with_reducible refine (impl_varAt.calls kj3 a0 (wrap64 (a1 + 1)) t248 t249 _ A7.out).mono ?_); rintro e w31 ⟨rfl, hb⟩; refine ⟨_, rfl, ?_⟩; have n0_ := Aside0.mk (below_step bH hb); clear HB; have HB := n0_; clear n0_; (try clear hb); (try clear hb2); (try clear hk); (try clear hi); have p10 : 0 ≤ (a1 : Int) := of_decide_eq_true aA; have q10 : a1 < (a0.size : Int) := of_decide_eq_true aA; have hx10 := bt_at a0 a1; replace p10 := eq_true p10; replace q10 := eq_true q10) | ((with_reducible refine gate_callee (f := 57) rfl ?_); refine goesL_ (some 53) rfl rfl Try.func57 (by kernel_rfl) rfl #[.int .i64 t248, .int .i64 0, .int .i64 12] rfl eA ?_; (with_reducible refine (impl_within.calls t248 0 12 false _ A24.out).mono ?_); rintro e w' ⟨rfl, ⟨nd, rfl⟩⟩; refine ⟨_, rfl, ?_⟩))
          go_ret
          exact ⟨eE, bH⟩
        ·rw [if_neg c23] at H
         have c23b0 : ((bt a0 a1) == 108) = false := beq_eq_false_iff_ne.mpr c23
         have c23b1 : ((bt a0 a1) != 108) = true := bne_iff_ne.mpr c23
         by_cases c32 : (bt a0 a1) = 115
         ·rw [if_pos c32] at H
          have c32b0 : ((bt a0 a1) == 115) = true := beq_iff_eq.mpr c32
          have c32b1 : ((bt a0 a1) != 115) = false := bne_eq_false_iff_eq.mpr c32
          clear c32
          replace H := Option.bind_eq_some_iff.mp H
          obtain ⟨t254, A330, H⟩ := H
          replace H : (if t254 = true then ((impl_termAt.f kj3 a0 t249 (wrap64 (a2 - 1))).bind fun t255 => (some t255)) else (some (-1))) = some r := H
          have A33 := Aside0.mk A330
          clear A330
          by_cases c34 : t254 = true
          ·subst c34
           have H1 : ((impl_termAt.f kj3 a0 t249 (wrap64 (a2 - 1))).bind fun t255 => (some t255)) = some r := by rw [if_pos rfl] at H; exact H
           clear H
           have H := H1
           clear H1
           replace H := Option.bind_eq_some_iff.mp H
           obtain ⟨t255, A350, H⟩ := H
           replace H : (some t255) = some r := H
           have A35 := Aside0.mk A350
           clear A350
           obtain rfl := Option.some.inj H
           go_wp2_with (first | ((with_reducible refine gate_callee (f := 127) rfl ?_); refine goesL_ (some 22) rfl rfl Try.func127 (by kernel_rfl) rfl #[.string a0, .int .i64 (wrap64 (a1 + 1))] rfl eA ?_; (with_reducible refine (impl_varAt.calls kj3 a0 (wrap64 (a1 + 1)) t248 t249 _ A7.out).mono ?_); rintro e w36 ⟨rfl, hb⟩; refine ⟨_, rfl, ?_⟩; have n0_ := Aside0.mk (below_step bH hb); clear HB; have HB := n0_; clear n0_; (try clear hb); (try clear hb2); (try clear hk); (try clear hi); have p10 : 0 ≤ (a1 : Int) := of_decide_eq_true aA; have q10 : a1 < (a0.size : Int) := of_decide_eq_true aA; have hx10 := bt_at a0 a1; replace p10 := eq_true p10; replace q10 := eq_true q10) | ((with_reducible refine gate_callee (f := 117) rfl ?_); refine goesL_ (some 73) rfl rfl Try.func117 (by kernel_rfl) rfl #[.int .i64 t248] rfl eA ?_; (with_reducible refine (impl_isKey.calls t248 true _ A33.out).mono ?_); rintro e w' ⟨rfl, ⟨nd, rfl⟩⟩; refine ⟨_, rfl, ?_⟩) | ((with_reducible refine gate_callee (f := 128) rfl ?_); refine goesL_ (some 79) rfl rfl Try.func128 (by kernel_rfl) rfl #[.string a0, .int .i64 t249, .int .i64 (wrap64 (a2 - 1))] rfl eA ?_; (with_reducible refine (ih kj3 (by have := HJ3.out; omega) a0 t249 (wrap64 (a2 - 1)) t255 _ A35.out).mono ?_); rintro e w37 ⟨rfl, hb⟩; refine ⟨_, rfl, ?_⟩; have n0_ := Aside0.mk (below_step bH hb); clear HB; have HB := n0_; clear n0_; (try clear hb); (try clear hb2); (try clear hk); (try clear hi)))
           go_ret
           exact ⟨eE, bH⟩
          ·replace c34 := Bool.eq_false_iff.mpr c34
           subst c34
           have H1 : (some (-1)) = some r := by rw [if_neg (show ¬ (false = true) by decide)] at H; exact H
           clear H
           have H := H1
           clear H1
           obtain rfl := Option.some.inj H
           go_wp2_with (first | ((with_reducible refine gate_callee (f := 127) rfl ?_); refine goesL_ (some 22) rfl rfl Try.func127 (by kernel_rfl) rfl #[.string a0, .int .i64 (wrap64 (a1 + 1))] rfl eA ?_; (with_reducible refine (impl_varAt.calls kj3 a0 (wrap64 (a1 + 1)) t248 t249 _ A7.out).mono ?_); rintro e w38 ⟨rfl, hb⟩; refine ⟨_, rfl, ?_⟩; have n0_ := Aside0.mk (below_step bH hb); clear HB; have HB := n0_; clear n0_; (try clear hb); (try clear hb2); (try clear hk); (try clear hi); have p10 : 0 ≤ (a1 : Int) := of_decide_eq_true aA; have q10 : a1 < (a0.size : Int) := of_decide_eq_true aA; have hx10 := bt_at a0 a1; replace p10 := eq_true p10; replace q10 := eq_true q10) | ((with_reducible refine gate_callee (f := 117) rfl ?_); refine goesL_ (some 73) rfl rfl Try.func117 (by kernel_rfl) rfl #[.int .i64 t248] rfl eA ?_; (with_reducible refine (impl_isKey.calls t248 false _ A33.out).mono ?_); rintro e w' ⟨rfl, ⟨nd, rfl⟩⟩; refine ⟨_, rfl, ?_⟩))
           go_ret
           exact ⟨eE, bH⟩
         ·rw [if_neg c32] at H
          have c32b0 : ((bt a0 a1) == 115) = false := beq_eq_false_iff_ne.mpr c32
          have c32b1 : ((bt a0 a1) != 115) = true := bne_iff_ne.mpr c32
          obtain rfl := Option.some.inj H
          go_wp2_with (first | ((with_reducible refine gate_callee (f := 127) rfl ?_); refine goesL_ (some 22) rfl rfl Try.func127 (by kernel_rfl) rfl #[.string a0, .int .i64 (wrap64 (a1 + 1))] rfl eA ?_; (with_reducible refine (impl_varAt.calls kj3 a0 (wrap64 (a1 + 1)) t248 t249 _ A7.out).mono ?_); rintro e w39 ⟨rfl, hb⟩; refine ⟨_, rfl, ?_⟩; have n0_ := Aside0.mk (below_step bH hb); clear HB; have HB := n0_; clear n0_; (try clear hb); (try clear hb2); (try clear hk); (try clear hi); have p10 : 0 ≤ (a1 : Int) := of_decide_eq_true aA; have q10 : a1 < (a0.size : Int) := of_decide_eq_true aA; have hx10 := bt_at a0 a1; replace p10 := eq_true p10; replace q10 := eq_true q10))
          go_ret
          exact ⟨eE, bH⟩
     ·rw [if_neg c9] at H
      exact absurd H (by simp)
    ·rw [if_neg c8] at H
     exact absurd H (by simp)

/-! ### impl_TermOk: function 118 -/
def impl_TermOk.f (k : Nat) (a0 : ByteArray) : Option (Bool) := (impl_within.f (a0.size : Int) 1 900).bind fun t256 => (if t256 = true then ((impl_termAt.f k a0 0 8).bind fun t257 => (some (t257 == (a0.size : Int)))) else (some false))
theorem impl_TermOk.mono : ∀ a0 k, LeO (impl_TermOk.f k a0) (impl_TermOk.f (k + 1) a0) := by
 intro a0 k
 unfold impl_TermOk.f
 repeat' first
   | (with_reducible exact impl_termAt.mono _ _ _ _)
   | (with_reducible exact LeO.refl _)
   | (with_reducible exact LeO.none _)
   | (with_reducible refine LeO.ite ?_ ?_)
   | (with_reducible refine LeO.bind ?_ (fun _ => ?_))
   | exact impl_termAt.mono _ _ _ _
   | exact LeO.none _
   | refine LeO.ite ?_ ?_
   | refine LeO.bind ?_ (fun _ => ?_)
set_option maxHeartbeats 8000000 in
set_option maxRecDepth 100000 in
theorem impl_TermOk.calls (k : Nat) (a0 : ByteArray) (r : Bool) (w : World) (h : impl_TermOk.f k a0 = some r) :
  Calls Try.prog 118 #[.string a0] w fun e w' => e = .returned (.bool r) ∧ Below w.heap.size w w' := by
 have HB := Aside0.mk (Below.refl w.heap.size w)
 have H : ((impl_within.f (a0.size : Int) 1 900).bind fun t256 => (if t256 = true then ((impl_termAt.f k a0 0 8).bind fun t257 => (some (t257 == (a0.size : Int)))) else (some false))) = some r := h
 clear h
 replace H := Option.bind_eq_some_iff.mp H
 obtain ⟨t256, A20, H⟩ := H
 replace H : (if t256 = true then ((impl_termAt.f k a0 0 8).bind fun t257 => (some (t257 == (a0.size : Int)))) else (some false)) = some r := H
 have A2 := Aside0.mk A20
 clear A20
 by_cases c3 : t256 = true
 ·subst c3
  have H1 : ((impl_termAt.f k a0 0 8).bind fun t257 => (some (t257 == (a0.size : Int)))) = some r := by rw [if_pos rfl] at H; exact H
  clear H
  have H := H1
  clear H1
  replace H := Option.bind_eq_some_iff.mp H
  obtain ⟨t257, A40, H⟩ := H
  replace H : (some (t257 == (a0.size : Int))) = some r := H
  have A4 := Aside0.mk A40
  clear A40
  obtain rfl := Option.some.inj H
  go_enter Try.func118, Try.ntmps118
  go_wp2_with (first | ((with_reducible refine gate_callee (f := 57) rfl ?_); refine goesL_ (some 5) rfl rfl Try.func57 (by kernel_rfl) rfl #[.int .i64 (a0.size : Int), .int .i64 1, .int .i64 900] rfl eA ?_; (with_reducible refine (impl_within.calls (a0.size : Int) 1 900 true _ A2.out).mono ?_); rintro e w' ⟨rfl, ⟨nd, rfl⟩⟩; refine ⟨_, rfl, ?_⟩) | (go_at_call 128; (with_reducible refine (impl_termAt.calls k a0 0 8 t257 _ A4.out).mono ?_); rintro e w5 ⟨rfl, hb⟩; have n0_ := Aside0.mk (below_step bH hb); clear HB; have HB := n0_; clear n0_; (try clear hb); (try clear hb2); (try clear hk); (try clear hi)))
  go_ret
  exact ⟨eE, bH⟩
 ·replace c3 := Bool.eq_false_iff.mpr c3
  subst c3
  have H1 : (some false) = some r := by rw [if_neg (show ¬ (false = true) by decide)] at H; exact H
  clear H
  have H := H1
  clear H1
  obtain rfl := Option.some.inj H
  go_enter Try.func118, Try.ntmps118
  go_wp2_with (first | ((with_reducible refine gate_callee (f := 57) rfl ?_); refine goesL_ (some 5) rfl rfl Try.func57 (by kernel_rfl) rfl #[.int .i64 (a0.size : Int), .int .i64 1, .int .i64 900] rfl eA ?_; (with_reducible refine (impl_within.calls (a0.size : Int) 1 900 false _ A2.out).mono ?_); rintro e w' ⟨rfl, ⟨nd, rfl⟩⟩; refine ⟨_, rfl, ?_⟩))
  go_ret
  exact ⟨eE, bH⟩

/-! ### impl_term: function 119 -/
def impl_term.f (k : Nat) (a0 : ByteArray) : Option (ByteArray) := (impl_TermOk.f k a0).bind fun t258 => (if t258 = true then (some a0) else (some (⟨#[]⟩ : ByteArray)))
theorem impl_term.mono : ∀ a0 k, LeO (impl_term.f k a0) (impl_term.f (k + 1) a0) := by
 intro a0 k
 unfold impl_term.f
 repeat' first
   | (with_reducible exact impl_TermOk.mono _ _)
   | (with_reducible exact LeO.refl _)
   | (with_reducible exact LeO.none _)
   | (with_reducible refine LeO.ite ?_ ?_)
   | (with_reducible refine LeO.bind ?_ (fun _ => ?_))
   | exact impl_TermOk.mono _ _
   | exact LeO.none _
   | refine LeO.ite ?_ ?_
   | refine LeO.bind ?_ (fun _ => ?_)
set_option maxHeartbeats 8000000 in
set_option maxRecDepth 100000 in
theorem impl_term.calls (k : Nat) (a0 : ByteArray) (r : ByteArray) (w : World) (h : impl_term.f k a0 = some r) :
  Calls Try.prog 119 #[.string a0] w fun e w' => e = .returned (.string r) ∧ Below w.heap.size w w' := by
 have HB := Aside0.mk (Below.refl w.heap.size w)
 have H : ((impl_TermOk.f k a0).bind fun t258 => (if t258 = true then (some a0) else (some (⟨#[]⟩ : ByteArray)))) = some r := h
 clear h
 replace H := Option.bind_eq_some_iff.mp H
 obtain ⟨t258, A20, H⟩ := H
 replace H : (if t258 = true then (some a0) else (some (⟨#[]⟩ : ByteArray))) = some r := H
 have A2 := Aside0.mk A20
 clear A20
 by_cases c3 : t258 = true
 ·subst c3
  have H1 : (some a0) = some r := by rw [if_pos rfl] at H; exact H
  clear H
  have H := H1
  clear H1
  obtain rfl := Option.some.inj H
  go_enter Try.func119, Try.ntmps119
  go_wp2_with (first | ((with_reducible refine gate_callee (f := 118) rfl ?_); refine goesL_ (some 4) rfl rfl Try.func118 (by kernel_rfl) rfl #[.string a0] rfl eA ?_; (with_reducible refine (impl_TermOk.calls k a0 true _ A2.out).mono ?_); rintro e w4 ⟨rfl, hb⟩; refine ⟨_, rfl, ?_⟩; have n0_ := Aside0.mk (below_step bH hb); clear HB; have HB := n0_; clear n0_; (try clear hb); (try clear hb2); (try clear hk); (try clear hi)))
  go_ret
  exact ⟨eE, bH⟩
 ·replace c3 := Bool.eq_false_iff.mpr c3
  subst c3
  have H1 : (some (⟨#[]⟩ : ByteArray)) = some r := by rw [if_neg (show ¬ (false = true) by decide)] at H; exact H
  clear H
  have H := H1
  clear H1
  obtain rfl := Option.some.inj H
  go_enter Try.func119, Try.ntmps119
  go_wp2_with (first | ((with_reducible refine gate_callee (f := 118) rfl ?_); refine goesL_ (some 4) rfl rfl Try.func118 (by kernel_rfl) rfl #[.string a0] rfl eA ?_; (with_reducible refine (impl_TermOk.calls k a0 false _ A2.out).mono ?_); rintro e w5 ⟨rfl, hb⟩; refine ⟨_, rfl, ?_⟩; have n0_ := Aside0.mk (below_step bH hb); clear HB; have HB := n0_; clear n0_; (try clear hb); (try clear hb2); (try clear hk); (try clear hi)))
  go_ret
  exact ⟨eE, bH⟩

/-! ### impl_List: function 81 -/
def impl_List.l0 : Nat → ByteArray → List ByteArray → Int → Int → Option (ByteArray)
 | 0, _, _, _, _ => none
 | k + 1, x3, x10, x11, x12 => if x12 < x11 then (if 0 ≤ x12 then (if x12 < (x10.length : Int) then ((impl_TermOk.f k (rdOf ByteArray.empty x10 x12)).bind fun t261 => (if t261 = true then (if x3.size + (rdOf ByteArray.empty x10 x12).size ≤ 9223372036854775807 then (impl_List.l0 k (x3 ++ (rdOf ByteArray.empty x10 x12)) x10 x11 (wrap64 (x12 + 1))) else (none)) else (some (⟨#[]⟩ : ByteArray)))) else (none)) else (none)) else ((impl_term.f k x3).bind fun t262 => (some t262))
def impl_List.f (k : Nat) (l0 : List ByteArray) : Option (ByteArray) := (impl_Var.f k (l0.length : Int)).bind fun t259 => (if 1 + t259.size ≤ 9223372036854775807 then (impl_List.l0 k ((⟨#[108]⟩ : ByteArray) ++ t259) l0 (l0.length : Int) 0) else (none))
theorem impl_List.mono_l : ∀ k, (∀ y0 y1 y2 y3, LeO (impl_List.l0 k y0 y1 y2 y3) (impl_List.l0 (k + 1) y0 y1 y2 y3))
 | 0 => fun _ _ _ _ r h => by simp [impl_List.l0] at h
 | k + 1 => by
  have ih0 := impl_List.mono_l k
  ·intro y0 y1 y2 y3
   unfold impl_List.l0
   repeat' first
   | (with_reducible exact ih0 _ _ _ _)
   | (with_reducible exact impl_TermOk.mono _ _)
   | (with_reducible exact impl_Var.mono _ _)
   | (with_reducible exact impl_term.mono _ _)
   | (with_reducible exact LeO.refl _)
   | (with_reducible exact LeO.none _)
   | (with_reducible refine LeO.ite ?_ ?_)
   | (with_reducible refine LeO.bind ?_ (fun _ => ?_))
   | exact ih0 _ _ _ _
   | exact impl_TermOk.mono _ _
   | exact impl_Var.mono _ _
   | exact impl_term.mono _ _
   | exact LeO.none _
   | refine LeO.ite ?_ ?_
   | refine LeO.bind ?_ (fun _ => ?_)
theorem impl_List.mono : ∀ a0 k, LeO (impl_List.f k a0) (impl_List.f (k + 1) a0) := by
 intro a0 k
 have ih0 := impl_List.mono_l k
 unfold impl_List.f
 repeat' first
   | (with_reducible exact ih0 _ _ _ _)
   | (with_reducible exact impl_TermOk.mono _ _)
   | (with_reducible exact impl_Var.mono _ _)
   | (with_reducible exact impl_term.mono _ _)
   | (with_reducible exact LeO.refl _)
   | (with_reducible exact LeO.none _)
   | (with_reducible refine LeO.ite ?_ ?_)
   | (with_reducible refine LeO.bind ?_ (fun _ => ?_))
   | exact ih0 _ _ _ _
   | exact impl_TermOk.mono _ _
   | exact impl_Var.mono _ _
   | exact impl_term.mono _ _
   | exact LeO.none _
   | refine LeO.ite ?_ ?_
   | refine LeO.bind ?_ (fun _ => ?_)
set_option maxHeartbeats 8000000 in
set_option maxRecDepth 100000 in
theorem impl_List.calls (k : Nat) (A0 : Option Addr) (c0 : Nat) (l0 : List ByteArray) (r : ByteArray) (w : World) (hr0 : Kd.C Kd.string w A0 l0.length l0) (hc0 : l0.length ≤ c0) (h : impl_List.f k l0 = some r) :
  Calls Try.prog 81 #[.slice A0 l0.length c0] w fun e w' => e = .returned (.string r) ∧ Below w.heap.size w w' := by
 have HR0 := Aside0.mk hr0
 have HC0 := Aside0.mk hc0
 clear hr0 hc0
 have HB := Aside0.mk (Below.refl w.heap.size w)
 have H : ((impl_Var.f k (l0.length : Int)).bind fun t259 => (if 1 + t259.size ≤ 9223372036854775807 then (impl_List.l0 k ((⟨#[108]⟩ : ByteArray) ++ t259) l0 (l0.length : Int) 0) else (none))) = some r := h
 clear h
 replace H := Option.bind_eq_some_iff.mp H
 obtain ⟨t259, A20, H⟩ := H
 replace H : (if 1 + t259.size ≤ 9223372036854775807 then (impl_List.l0 k ((⟨#[108]⟩ : ByteArray) ++ t259) l0 (l0.length : Int) 0) else (none)) = some r := H
 have A2 := Aside0.mk A20
 clear A20
 by_cases c3 : 1 + t259.size ≤ 9223372036854775807
 ·rw [if_pos c3] at H
  have c3b0 := eq_true c3
  have c3b1 : decide (1 + t259.size ≤ 9223372036854775807) = true := decide_eq_true c3
  try have c3b2 : (9223372036854775807 < 1 + t259.size) = False := eq_false (Nat.not_lt.2 c3)
  have H' := Aside0.mk H
  clear H
  go_enter Try.func81, Try.ntmps81
  go_wp2_with (first | ((with_reducible refine gate_callee (f := 120) rfl ?_); refine goesL_ (some 8) rfl rfl Try.func120 (by kernel_rfl) rfl #[.int .i64 (l0.length : Int)] rfl eA ?_; (with_reducible refine (impl_Var.calls k (l0.length : Int) t259 _ A2.out).mono ?_); rintro e w4 ⟨rfl, hb⟩; refine ⟨_, rfl, ?_⟩; have n0_ := Aside0.mk (below_step bH hb); clear HB; have HB := n0_; clear n0_; (try clear hb); (try clear hb2); (try clear hk); (try clear hi)))
  go_loopg [3, 12] k (fun kq v3 v12 w' => ∃ (x3_1 : ByteArray) (x12_1 : Int), v3 = .string x3_1 ∧ v12 = .int .i64 x12_1 ∧ Aside0 (impl_List.l0 kq x3_1 l0 (l0.length : Int) x12_1 = some r) ∧ Aside0 (kq ≤ k) ∧ Aside0 (Below w.heap.size w w'))
  case atStart => exact ⟨((⟨#[108]⟩ : ByteArray) ++ t259), (0), eX, eX, H', ⟨Nat.le_refl _⟩, ⟨by repeat (first | (with_reducible first | exact HB.out | apply below_alloc | apply pw_below_drewN | apply below_drew1) | exact HB.out)⟩⟩
  case round =>
   clear H'
   try clear c1
   try clear p2
   try clear c3
   try clear c3b0
   try clear c3b1
   try clear c3b2
   obtain ⟨x3_1, x12_1, rfl, rfl, HA, HK1, HB⟩ := hrel
   cases gk with
   | zero => exact absurd HA.out (by simp [impl_List.l0])
   | succ k1 =>
    have H := HA.out
    clear HA
    simp only [impl_List.l0] at H
    by_cases c5 : x12_1 < (l0.length : Int)
    ·rw [if_pos c5] at H
     have c5b0 : decide (x12_1 < (l0.length : Int)) = true := decide_eq_true c5
     clear c5
     by_cases c6 : 0 ≤ x12_1
     ·rw [if_pos c6] at H
      have c6b0 : decide (0 ≤ x12_1) = true := decide_eq_true c6
      clear c6
      by_cases c7 : x12_1 < (l0.length : Int)
      ·rw [if_pos c7] at H
       have c7b0 : decide (x12_1 < (l0.length : Int)) = true := decide_eq_true c7
       clear c7
       replace H := Option.bind_eq_some_iff.mp H
       obtain ⟨t261, A80, H⟩ := H
       replace H : (if t261 = true then (if x3_1.size + (rdOf ByteArray.empty l0 x12_1).size ≤ 9223372036854775807 then (impl_List.l0 k1 (x3_1 ++ (rdOf ByteArray.empty l0 x12_1)) l0 (l0.length : Int) (wrap64 (x12_1 + 1))) else (none)) else (some (⟨#[]⟩ : ByteArray))) = some r := H
       have A8 := Aside0.mk A80
       clear A80
       by_cases c9 : t261 = true
       ·subst c9
        have H1 : (if x3_1.size + (rdOf ByteArray.empty l0 x12_1).size ≤ 9223372036854775807 then (impl_List.l0 k1 (x3_1 ++ (rdOf ByteArray.empty l0 x12_1)) l0 (l0.length : Int) (wrap64 (x12_1 + 1))) else (none)) = some r := by rw [if_pos rfl] at H; exact H
        clear H
        have H := H1
        clear H1
        by_cases c10 : x3_1.size + (rdOf ByteArray.empty l0 x12_1).size ≤ 9223372036854775807
        ·rw [if_pos c10] at H
         have c10b0 := eq_true c10
         have c10b1 : decide (x3_1.size + (rdOf ByteArray.empty l0 x12_1).size ≤ 9223372036854775807) = true := decide_eq_true c10
         try have c10b2 : (9223372036854775807 < x3_1.size + (rdOf ByteArray.empty l0 x12_1).size) = False := eq_false (Nat.not_lt.2 c10)
         have H' := Aside0.mk H
         clear H
         have p260 : 0 ≤ (x12_1 : Int) := of_decide_eq_true aA
         have q260 : x12_1 < (l0.length : Int) := of_decide_eq_true aA
         obtain ⟨ad260, e260, hx260_0⟩ := Kd.at_string HR0.out x12_1 p260 q260
         cases e260
         replace hx260_0 := (HB.out.cell (World.block_lt_of_cell? w _ hx260_0)).trans hx260_0
         replace p260 := eq_true p260
         replace q260 := eq_true q260
         go_wp2_with (first | ((with_reducible refine gate_callee (f := 118) rfl ?_); refine goesL_ (some 17) rfl rfl Try.func118 (by kernel_rfl) rfl #[.string (rdOf ByteArray.empty l0 x12_1)] rfl eA ?_; (with_reducible refine (impl_TermOk.calls k1 (rdOf ByteArray.empty l0 x12_1) true _ A8.out).mono ?_); rintro e w11 ⟨rfl, hb⟩; refine ⟨_, rfl, ?_⟩; have n0_ := Aside0.mk (below_step bH hb); clear HB; have HB := n0_; clear n0_; (try clear hb); (try clear hb2); (try clear hk); (try clear hi)))
         go_roundg k1
         case measure => have := HK1.out; omega
         case rel => exact ⟨(x3_1 ++ (rdOf ByteArray.empty l0 x12_1)), (wrap64 (x12_1 + 1)), eX, eX, H', ⟨by have := HK1.out; omega⟩, ⟨by repeat (first | (with_reducible first | exact HB.out | apply below_alloc | apply pw_below_drewN | apply below_drew1) | exact HB.out)⟩⟩
        ·rw [if_neg c10] at H
         exact absurd H (by simp)
       ·replace c9 := Bool.eq_false_iff.mpr c9
        subst c9
        have H1 : (some (⟨#[]⟩ : ByteArray)) = some r := by rw [if_neg (show ¬ (false = true) by decide)] at H; exact H
        clear H
        have H := H1
        clear H1
        obtain rfl := Option.some.inj H
        have p260 : 0 ≤ (x12_1 : Int) := of_decide_eq_true aA
        have q260 : x12_1 < (l0.length : Int) := of_decide_eq_true aA
        obtain ⟨ad260, e260, hx260_0⟩ := Kd.at_string HR0.out x12_1 p260 q260
        cases e260
        replace hx260_0 := (HB.out.cell (World.block_lt_of_cell? w _ hx260_0)).trans hx260_0
        replace p260 := eq_true p260
        replace q260 := eq_true q260
        go_wp2_with (first | ((with_reducible refine gate_callee (f := 118) rfl ?_); refine goesL_ (some 17) rfl rfl Try.func118 (by kernel_rfl) rfl #[.string (rdOf ByteArray.empty l0 x12_1)] rfl eA ?_; (with_reducible refine (impl_TermOk.calls k1 (rdOf ByteArray.empty l0 x12_1) false _ A8.out).mono ?_); rintro e w12 ⟨rfl, hb⟩; refine ⟨_, rfl, ?_⟩; have n0_ := Aside0.mk (below_step bH hb); clear HB; have HB := n0_; clear n0_; (try clear hb); (try clear hb2); (try clear hk); (try clear hi)))
        go_ret
        exact ⟨eE, bH⟩
      ·rw [if_neg c7] at H
       exact absurd H (by simp)
     ·rw [if_neg c6] at H
      exact absurd H (by simp)
    ·rw [if_neg c5] at H
     have c5b0 : decide (x12_1 < (l0.length : Int)) = false := decide_eq_false c5
     clear c5
     replace H := Option.bind_eq_some_iff.mp H
     obtain ⟨t262, A130, H⟩ := H
     replace H : (some t262) = some r := H
     have A13 := Aside0.mk A130
     clear A130
     obtain rfl := Option.some.inj H
     go_wp2_with (first | ((with_reducible refine gate_callee (f := 119) rfl ?_); refine goesL_ (some 24) rfl rfl Try.func119 (by kernel_rfl) rfl #[.string x3_1] rfl eA ?_; (with_reducible refine (impl_term.calls k1 x3_1 t262 _ A13.out).mono ?_); rintro e w14 ⟨rfl, hb⟩; refine ⟨_, rfl, ?_⟩; have n0_ := Aside0.mk (below_step bH hb); clear HB; have HB := n0_; clear n0_; (try clear hb); (try clear hb2); (try clear hk); (try clear hi)))
     go_ret
     exact ⟨eE, bH⟩
 ·rw [if_neg c3] at H
  exact absurd H (by simp)

/-! ### impl_Atom: function 133 -/
def impl_Atom.f (k : Nat) (a0 : ByteArray) : Option (ByteArray) := (impl_Var.f k (a0.size : Int)).bind fun t263 => (if 1 + t263.size ≤ 9223372036854775807 then (if ((⟨#[97]⟩ : ByteArray) ++ t263).size + a0.size ≤ 9223372036854775807 then ((impl_term.f k (((⟨#[97]⟩ : ByteArray) ++ t263) ++ a0)).bind fun t264 => (some t264)) else (none)) else (none))
theorem impl_Atom.mono : ∀ a0 k, LeO (impl_Atom.f k a0) (impl_Atom.f (k + 1) a0) := by
 intro a0 k
 unfold impl_Atom.f
 repeat' first
   | (with_reducible exact impl_Var.mono _ _)
   | (with_reducible exact impl_term.mono _ _)
   | (with_reducible exact LeO.refl _)
   | (with_reducible exact LeO.none _)
   | (with_reducible refine LeO.ite ?_ ?_)
   | (with_reducible refine LeO.bind ?_ (fun _ => ?_))
   | exact impl_Var.mono _ _
   | exact impl_term.mono _ _
   | exact LeO.none _
   | refine LeO.ite ?_ ?_
   | refine LeO.bind ?_ (fun _ => ?_)
set_option maxHeartbeats 8000000 in
set_option maxRecDepth 100000 in
theorem impl_Atom.calls (k : Nat) (a0 : ByteArray) (r : ByteArray) (w : World) (h : impl_Atom.f k a0 = some r) :
  Calls Try.prog 133 #[.string a0] w fun e w' => e = .returned (.string r) ∧ Below w.heap.size w w' := by
 have HB := Aside0.mk (Below.refl w.heap.size w)
 have H : ((impl_Var.f k (a0.size : Int)).bind fun t263 => (if 1 + t263.size ≤ 9223372036854775807 then (if ((⟨#[97]⟩ : ByteArray) ++ t263).size + a0.size ≤ 9223372036854775807 then ((impl_term.f k (((⟨#[97]⟩ : ByteArray) ++ t263) ++ a0)).bind fun t264 => (some t264)) else (none)) else (none))) = some r := h
 clear h
 replace H := Option.bind_eq_some_iff.mp H
 obtain ⟨t263, A20, H⟩ := H
 replace H : (if 1 + t263.size ≤ 9223372036854775807 then (if ((⟨#[97]⟩ : ByteArray) ++ t263).size + a0.size ≤ 9223372036854775807 then ((impl_term.f k (((⟨#[97]⟩ : ByteArray) ++ t263) ++ a0)).bind fun t264 => (some t264)) else (none)) else (none)) = some r := H
 have A2 := Aside0.mk A20
 clear A20
 by_cases c3 : 1 + t263.size ≤ 9223372036854775807
 ·rw [if_pos c3] at H
  have c3b0 := eq_true c3
  have c3b1 : decide (1 + t263.size ≤ 9223372036854775807) = true := decide_eq_true c3
  try have c3b2 : (9223372036854775807 < 1 + t263.size) = False := eq_false (Nat.not_lt.2 c3)
  by_cases c4 : ((⟨#[97]⟩ : ByteArray) ++ t263).size + a0.size ≤ 9223372036854775807
  ·rw [if_pos c4] at H
   have c4b0 := eq_true c4
   have c4b1 : decide (((⟨#[97]⟩ : ByteArray) ++ t263).size + a0.size ≤ 9223372036854775807) = true := decide_eq_true c4
   try have c4b2 : (9223372036854775807 < ((⟨#[97]⟩ : ByteArray) ++ t263).size + a0.size) = False := eq_false (Nat.not_lt.2 c4)
   replace H := Option.bind_eq_some_iff.mp H
   obtain ⟨t264, A50, H⟩ := H
   replace H : (some t264) = some r := H
   have A5 := Aside0.mk A50
   clear A50
   obtain rfl := Option.some.inj H
   go_enter Try.func133, Try.ntmps133
   go_wp2_with (first | ((with_reducible refine gate_callee (f := 120) rfl ?_); refine goesL_ (some 5) rfl rfl Try.func120 (by kernel_rfl) rfl #[.int .i64 (a0.size : Int)] rfl eA ?_; (with_reducible refine (impl_Var.calls k (a0.size : Int) t263 _ A2.out).mono ?_); rintro e w6 ⟨rfl, hb⟩; refine ⟨_, rfl, ?_⟩; have n0_ := Aside0.mk (below_step bH hb); clear HB; have HB := n0_; clear n0_; (try clear hb); (try clear hb2); (try clear hk); (try clear hi)) | ((with_reducible refine gate_callee (f := 119) rfl ?_); refine goesL_ (some 9) rfl rfl Try.func119 (by kernel_rfl) rfl #[.string (((⟨#[97]⟩ : ByteArray) ++ t263) ++ a0)] rfl eA ?_; (with_reducible refine (impl_term.calls k (((⟨#[97]⟩ : ByteArray) ++ t263) ++ a0) t264 _ A5.out).mono ?_); rintro e w7 ⟨rfl, hb⟩; refine ⟨_, rfl, ?_⟩; have n0_ := Aside0.mk (below_step bH hb); clear HB; have HB := n0_; clear n0_; (try clear hb); (try clear hb2); (try clear hk); (try clear hi)))
   go_ret
   exact ⟨eE, bH⟩
  ·rw [if_neg c4] at H
   exact absurd H (by simp)
 ·rw [if_neg c3] at H
  exact absurd H (by simp)

/-! ### impl_Num: function 121 -/
def impl_Num.f (k : Nat) (a0 : Int) : Option (ByteArray) := (impl_Var.f k a0).bind fun t265 => (if t265.toList = ([] : List UInt8) then (some (⟨#[]⟩ : ByteArray)) else ((impl_Atom.f k t265).bind fun t266 => (some t266)))
theorem impl_Num.mono : ∀ a0 k, LeO (impl_Num.f k a0) (impl_Num.f (k + 1) a0) := by
 intro a0 k
 unfold impl_Num.f
 repeat' first
   | (with_reducible exact impl_Atom.mono _ _)
   | (with_reducible exact impl_Var.mono _ _)
   | (with_reducible exact LeO.refl _)
   | (with_reducible exact LeO.none _)
   | (with_reducible refine LeO.ite ?_ ?_)
   | (with_reducible refine LeO.bind ?_ (fun _ => ?_))
   | exact impl_Atom.mono _ _
   | exact impl_Var.mono _ _
   | exact LeO.none _
   | refine LeO.ite ?_ ?_
   | refine LeO.bind ?_ (fun _ => ?_)
set_option maxHeartbeats 8000000 in
set_option maxRecDepth 100000 in
theorem impl_Num.calls (k : Nat) (a0 : Int) (r : ByteArray) (w : World) (h : impl_Num.f k a0 = some r) :
  Calls Try.prog 121 #[.int .i64 a0] w fun e w' => e = .returned (.string r) ∧ Below w.heap.size w w' := by
 have HB := Aside0.mk (Below.refl w.heap.size w)
 have H : ((impl_Var.f k a0).bind fun t265 => (if t265.toList = ([] : List UInt8) then (some (⟨#[]⟩ : ByteArray)) else ((impl_Atom.f k t265).bind fun t266 => (some t266)))) = some r := h
 clear h
 replace H := Option.bind_eq_some_iff.mp H
 obtain ⟨t265, A20, H⟩ := H
 replace H : (if t265.toList = ([] : List UInt8) then (some (⟨#[]⟩ : ByteArray)) else ((impl_Atom.f k t265).bind fun t266 => (some t266))) = some r := H
 have A2 := Aside0.mk A20
 clear A20
 by_cases c3 : t265.toList = ([] : List UInt8)
 ·rw [if_pos c3] at H
  have c3b0 : (t265.toList == ([] : List UInt8)) = true := beq_iff_eq.mpr c3
  have c3e : t265.toList.isEmpty = true := List.isEmpty_iff.mpr c3
  have c3b1 : (t265.toList != ([] : List UInt8)) = false := bne_eq_false_iff_eq.mpr c3
  clear c3
  obtain rfl := Option.some.inj H
  go_enter Try.func121, Try.ntmps121
  go_wp2_with (first | ((with_reducible refine gate_callee (f := 120) rfl ?_); refine goesL_ (some 5) rfl rfl Try.func120 (by kernel_rfl) rfl #[.int .i64 a0] rfl eA ?_; (with_reducible refine (impl_Var.calls k a0 t265 _ A2.out).mono ?_); rintro e w4 ⟨rfl, hb⟩; refine ⟨_, rfl, ?_⟩; have n0_ := Aside0.mk (below_step bH hb); clear HB; have HB := n0_; clear n0_; (try clear hb); (try clear hb2); (try clear hk); (try clear hi)))
  go_ret
  exact ⟨eE, bH⟩
 ·rw [if_neg c3] at H
  have c3b0 : (t265.toList == ([] : List UInt8)) = false := beq_eq_false_iff_ne.mpr c3
  have c3e : t265.toList.isEmpty = false := by cases h_ : t265.toList.isEmpty with | false => rfl | true => exact absurd (List.isEmpty_iff.mp h_) c3
  have c3b1 : (t265.toList != ([] : List UInt8)) = true := bne_iff_ne.mpr c3
  replace H := Option.bind_eq_some_iff.mp H
  obtain ⟨t266, A50, H⟩ := H
  replace H : (some t266) = some r := H
  have A5 := Aside0.mk A50
  clear A50
  obtain rfl := Option.some.inj H
  go_enter Try.func121, Try.ntmps121
  go_wp2_with (first | ((with_reducible refine gate_callee (f := 120) rfl ?_); refine goesL_ (some 5) rfl rfl Try.func120 (by kernel_rfl) rfl #[.int .i64 a0] rfl eA ?_; (with_reducible refine (impl_Var.calls k a0 t265 _ A2.out).mono ?_); rintro e w6 ⟨rfl, hb⟩; refine ⟨_, rfl, ?_⟩; have n0_ := Aside0.mk (below_step bH hb); clear HB; have HB := n0_; clear n0_; (try clear hb); (try clear hb2); (try clear hk); (try clear hi)) | ((with_reducible refine gate_callee (f := 133) rfl ?_); refine goesL_ (some 9) rfl rfl Try.func133 (by kernel_rfl) rfl #[.string t265] rfl eA ?_; (with_reducible refine (impl_Atom.calls k t265 t266 _ A5.out).mono ?_); rintro e w7 ⟨rfl, hb⟩; refine ⟨_, rfl, ?_⟩; have n0_ := Aside0.mk (below_step bH hb); clear HB; have HB := n0_; clear n0_; (try clear hb); (try clear hb2); (try clear hk); (try clear hi)))
  go_ret
  exact ⟨eE, bH⟩

end Go.Proofs.Ytmhjpnjolgigmaa.OFnExactReadTicket
-- halved
-- squeezed
