-- walks of this claim, written by a program of mine
import Derived.Test.YtmhjpnjolgigmaaOFnExactReadTicketx0
import Derived.Test.YtmhjpnjolgigmaaOFnExactReadTicketx7
import Derived.Test.YtmhjpnjolgigmaaOFnExactReadTicketx10
import Derived.Test.YtmhjpnjolgigmaaOFnExactReadTicketx11
namespace Go.Proofs.Ytmhjpnjolgigmaa.OFnExactReadTicket
open Go.RowKit Go.Proofs.Ytmhjpnjolgigmaa.OWord Go.Proofs.YtmhjpnjolgigmaaW.PrintWords Go.Proofs.YtmhjpnjolgigmaaW.PrintLast Go.Proofs.YtmhjpnjolgigmaaW.PrintMore
attribute [local go_sem] max2_int min2_int max_two min_two max_three min_three max_four min_four   -- for this text's walks alone
set_option linter.unusedVariables false
set_option linter.unusedSimpArgs false

/-! ### impl_sealed: function 125 -/
def impl_sealed.f (k : Nat) (a0 : ByteArray) : Option (Int × ByteArray × Bool) := (impl_isOf.f k a0 115).bind fun t365 => (if t365 = true then ((impl_varAt.f k a0 1).bind fun bt366 => (if 0 ≤ bt366.2 then (if bt366.2 ≤ (a0.size : Int) then (some (bt366.1, a0.extract (bt366.2 : Int).toNat a0.size, true)) else (none)) else (none))) else (some (0, (⟨#[]⟩ : ByteArray), false)))
theorem impl_sealed.mono : ∀ a0 k, LeO (impl_sealed.f k a0) (impl_sealed.f (k + 1) a0) := by
 intro a0 k
 unfold impl_sealed.f
 repeat' first
   | (with_reducible exact impl_isOf.mono _ _ _)
   | (with_reducible exact impl_varAt.mono _ _ _)
   | (with_reducible exact LeO.refl _)
   | (with_reducible exact LeO.none _)
   | (with_reducible refine LeO.ite ?_ ?_)
   | (with_reducible refine LeO.bind ?_ (fun _ => ?_))
   | exact impl_isOf.mono _ _ _
   | exact impl_varAt.mono _ _ _
   | exact LeO.none _
   | refine LeO.ite ?_ ?_
   | refine LeO.bind ?_ (fun _ => ?_)
set_option maxHeartbeats 8000000 in
set_option maxRecDepth 100000 in
theorem impl_sealed.calls (k : Nat) (a0 : ByteArray) (r1 : Int) (r2 : ByteArray) (r3 : Bool) (w : World) (h : impl_sealed.f k a0 = some (r1, r2, r3)) :
  Calls Try.prog 125 #[.string a0] w fun e w' => e = .returned (.tuple #[.int .i64 r1, .string r2, .bool r3]) ∧ Below w.heap.size w w' := by
 have HB := Aside0.mk (Below.refl w.heap.size w)
 have H : ((impl_isOf.f k a0 115).bind fun t365 => (if t365 = true then ((impl_varAt.f k a0 1).bind fun bt366 => (if 0 ≤ bt366.2 then (if bt366.2 ≤ (a0.size : Int) then (some (bt366.1, a0.extract (bt366.2 : Int).toNat a0.size, true)) else (none)) else (none))) else (some (0, (⟨#[]⟩ : ByteArray), false)))) = some (r1, r2, r3) := h
 clear h
 replace H := Option.bind_eq_some_iff.mp H
 obtain ⟨t365, A20, H⟩ := H
 replace H : (if t365 = true then ((impl_varAt.f k a0 1).bind fun bt366 => (if 0 ≤ bt366.2 then (if bt366.2 ≤ (a0.size : Int) then (some (bt366.1, a0.extract (bt366.2 : Int).toNat a0.size, true)) else (none)) else (none))) else (some (0, (⟨#[]⟩ : ByteArray), false))) = some (r1, r2, r3) := H
 have A2 := Aside0.mk A20
 clear A20
 by_cases c3 : t365 = true
 ·subst c3
  have H1 : ((impl_varAt.f k a0 1).bind fun bt366 => (if 0 ≤ bt366.2 then (if bt366.2 ≤ (a0.size : Int) then (some (bt366.1, a0.extract (bt366.2 : Int).toNat a0.size, true)) else (none)) else (none))) = some (r1, r2, r3) := by rw [if_pos rfl] at H; exact H
  clear H
  have H := H1
  clear H1
  replace H := Option.bind_eq_some_iff.mp H
  obtain ⟨⟨t366, t367⟩, A40, H⟩ := H
  replace H : (if 0 ≤ t367 then (if t367 ≤ (a0.size : Int) then (some (t366, a0.extract (t367 : Int).toNat a0.size, true)) else (none)) else (none)) = some (r1, r2, r3) := H
  have A4 := Aside0.mk A40
  clear A40
  by_cases c5 : 0 ≤ t367
  ·rw [if_pos c5] at H
   have c5b0 := eq_true c5
   have c5b1 : decide (0 ≤ t367) = true := decide_eq_true c5
   clear c5
   by_cases c6 : t367 ≤ (a0.size : Int)
   ·rw [if_pos c6] at H
    have c6b0 := eq_true c6
    have c6b1 : decide (t367 ≤ (a0.size : Int)) = true := decide_eq_true c6
    clear c6
    simp only [Option.some.injEq, Prod.mk.injEq] at H
    obtain ⟨rfl, rfl, rfl⟩ := H
    go_enter Try.func125, Try.ntmps125
    go_wp2_with (first | (go_at_call 126; (with_reducible refine (impl_isOf.calls k a0 115 true _ A2.out).mono ?_); rintro e w7 ⟨rfl, hb⟩; have n0_ := Aside0.mk (below_step bH hb); clear HB; have HB := n0_; clear n0_; (try clear hb); (try clear hb2); (try clear hk); (try clear hi)) | (go_at_call 127; (with_reducible refine (impl_varAt.calls k a0 1 t366 t367 _ A4.out).mono ?_); rintro e w8 ⟨rfl, hb⟩; have n0_ := Aside0.mk (below_step bH hb); clear HB; have HB := n0_; clear n0_; (try clear hb); (try clear hb2); (try clear hk); (try clear hi)))
    repeat (go_quiet (first | (go_at_call 126; (with_reducible refine (impl_isOf.calls k a0 115 true _ A2.out).mono ?_); rintro e w7 ⟨rfl, hb⟩; have n0_ := Aside0.mk (below_step bH hb); clear HB; have HB := n0_; clear n0_; (try clear hb); (try clear hb2); (try clear hk); (try clear hi)) | (go_at_call 127; (with_reducible refine (impl_varAt.calls k a0 1 t366 t367 _ A4.out).mono ?_); rintro e w8 ⟨rfl, hb⟩; have n0_ := Aside0.mk (below_step bH hb); clear HB; have HB := n0_; clear n0_; (try clear hb); (try clear hb2); (try clear hk); (try clear hi))); try go_wp2_with (first | (go_at_call 126; (with_reducible refine (impl_isOf.calls k a0 115 true _ A2.out).mono ?_); rintro e w7 ⟨rfl, hb⟩; have n0_ := Aside0.mk (below_step bH hb); clear HB; have HB := n0_; clear n0_; (try clear hb); (try clear hb2); (try clear hk); (try clear hi)) | (go_at_call 127; (with_reducible refine (impl_varAt.calls k a0 1 t366 t367 _ A4.out).mono ?_); rintro e w8 ⟨rfl, hb⟩; have n0_ := Aside0.mk (below_step bH hb); clear HB; have HB := n0_; clear n0_; (try clear hb); (try clear hb2); (try clear hk); (try clear hi))))
    go_ret3
    exact ⟨eE, bH⟩
   ·rw [if_neg c6] at H
    exact absurd H (by simp)
  ·rw [if_neg c5] at H
   exact absurd H (by simp)
 ·replace c3 := Bool.eq_false_iff.mpr c3
  subst c3
  have H1 : (some (0, (⟨#[]⟩ : ByteArray), false)) = some (r1, r2, r3) := by rw [if_neg (show ¬ (false = true) by decide)] at H; exact H
  clear H
  have H := H1
  clear H1
  simp only [Option.some.injEq, Prod.mk.injEq] at H
  obtain ⟨rfl, rfl, rfl⟩ := H
  go_enter Try.func125, Try.ntmps125
  go_wp2_with (first | (go_at_call 126; (with_reducible refine (impl_isOf.calls k a0 115 false _ A2.out).mono ?_); rintro e w9 ⟨rfl, hb⟩; have n0_ := Aside0.mk (below_step bH hb); clear HB; have HB := n0_; clear n0_; (try clear hb); (try clear hb2); (try clear hk); (try clear hi)))
  repeat (go_quiet (first | (go_at_call 126; (with_reducible refine (impl_isOf.calls k a0 115 false _ A2.out).mono ?_); rintro e w9 ⟨rfl, hb⟩; have n0_ := Aside0.mk (below_step bH hb); clear HB; have HB := n0_; clear n0_; (try clear hb); (try clear hb2); (try clear hk); (try clear hi))); try go_wp2_with (first | (go_at_call 126; (with_reducible refine (impl_isOf.calls k a0 115 false _ A2.out).mono ?_); rintro e w9 ⟨rfl, hb⟩; have n0_ := Aside0.mk (below_step bH hb); clear HB; have HB := n0_; clear n0_; (try clear hb); (try clear hb2); (try clear hk); (try clear hi))))
  go_ret3
  exact ⟨eE, bH⟩

/-! ### impl_Open: function 90 -/
def impl_Open.f (k : Nat) (a0 : ByteArray) (a1 : Int) : Option (ByteArray × Bool) := (impl_sealed.f k a0).bind fun bt368 => (if bt368.2.2 = true then (if bt368.1 = a1 then (some (bt368.2.1, true)) else (some ((⟨#[]⟩ : ByteArray), false))) else (some ((⟨#[]⟩ : ByteArray), false)))
theorem impl_Open.mono : ∀ a0 a1 k, LeO (impl_Open.f k a0 a1) (impl_Open.f (k + 1) a0 a1) := by
 intro a0 a1 k
 unfold impl_Open.f
 repeat' first
   | (with_reducible exact impl_sealed.mono _ _)
   | (with_reducible exact LeO.refl _)
   | (with_reducible exact LeO.none _)
   | (with_reducible refine LeO.ite ?_ ?_)
   | (with_reducible refine LeO.bind ?_ (fun _ => ?_))
   | exact impl_sealed.mono _ _
   | exact LeO.none _
   | refine LeO.ite ?_ ?_
   | refine LeO.bind ?_ (fun _ => ?_)
set_option maxHeartbeats 8000000 in
set_option maxRecDepth 100000 in
theorem impl_Open.calls (k : Nat) (a0 : ByteArray) (a1 : Int) (r1 : ByteArray) (r2 : Bool) (w : World) (h : impl_Open.f k a0 a1 = some (r1, r2)) :
  Calls Try.prog 90 #[.string a0, .int .i64 a1] w fun e w' => e = .returned (.tuple #[.string r1, .bool r2]) ∧ Below w.heap.size w w' := by
 have HB := Aside0.mk (Below.refl w.heap.size w)
 have H : ((impl_sealed.f k a0).bind fun bt368 => (if bt368.2.2 = true then (if bt368.1 = a1 then (some (bt368.2.1, true)) else (some ((⟨#[]⟩ : ByteArray), false))) else (some ((⟨#[]⟩ : ByteArray), false)))) = some (r1, r2) := h
 clear h
 replace H := Option.bind_eq_some_iff.mp H
 obtain ⟨⟨t368, t369, t370⟩, A30, H⟩ := H
 replace H : (if t370 = true then (if t368 = a1 then (some (t369, true)) else (some ((⟨#[]⟩ : ByteArray), false))) else (some ((⟨#[]⟩ : ByteArray), false))) = some (r1, r2) := H
 have A3 := Aside0.mk A30
 clear A30
 by_cases c4 : t370 = true
 ·subst c4
  have H1 : (if t368 = a1 then (some (t369, true)) else (some ((⟨#[]⟩ : ByteArray), false))) = some (r1, r2) := by rw [if_pos rfl] at H; exact H
  clear H
  have H := H1
  clear H1
  by_cases c5 : t368 = a1
  ·rw [if_pos c5] at H
   have c5b0 : (t368 == a1) = true := beq_iff_eq.mpr c5
   have c5b1 : (t368 != a1) = false := bne_eq_false_iff_eq.mpr c5
   clear c5
   simp only [Option.some.injEq, Prod.mk.injEq] at H
   obtain ⟨rfl, rfl⟩ := H
   go_enter Try.func90, Try.ntmps90
   go_wp2_with (first | ((with_reducible refine gate_callee (f := 125) rfl ?_); refine goesL_ (some 11) rfl rfl Try.func125 (by kernel_rfl) rfl #[.string a0] rfl eA ?_; (with_reducible refine (impl_sealed.calls k a0 t368 t369 true _ A3.out).mono ?_); rintro e w6 ⟨rfl, hb⟩; refine ⟨_, rfl, ?_⟩; have n0_ := Aside0.mk (below_step bH hb); clear HB; have HB := n0_; clear n0_; (try clear hb); (try clear hb2); (try clear hk); (try clear hi)))
   go_ret2
   exact ⟨eE, bH⟩
  ·rw [if_neg c5] at H
   have c5b0 : (t368 == a1) = false := beq_eq_false_iff_ne.mpr c5
   have c5b1 : (t368 != a1) = true := bne_iff_ne.mpr c5
   simp only [Option.some.injEq, Prod.mk.injEq] at H
   obtain ⟨rfl, rfl⟩ := H
   go_enter Try.func90, Try.ntmps90
   go_wp2_with (first | ((with_reducible refine gate_callee (f := 125) rfl ?_); refine goesL_ (some 11) rfl rfl Try.func125 (by kernel_rfl) rfl #[.string a0] rfl eA ?_; (with_reducible refine (impl_sealed.calls k a0 t368 t369 true _ A3.out).mono ?_); rintro e w7 ⟨rfl, hb⟩; refine ⟨_, rfl, ?_⟩; have n0_ := Aside0.mk (below_step bH hb); clear HB; have HB := n0_; clear n0_; (try clear hb); (try clear hb2); (try clear hk); (try clear hi)))
   go_ret2
   exact ⟨eE, bH⟩
 ·replace c4 := Bool.eq_false_iff.mpr c4
  subst c4
  have H1 : (some ((⟨#[]⟩ : ByteArray), false)) = some (r1, r2) := by rw [if_neg (show ¬ (false = true) by decide)] at H; exact H
  clear H
  have H := H1
  clear H1
  simp only [Option.some.injEq, Prod.mk.injEq] at H
  obtain ⟨rfl, rfl⟩ := H
  go_enter Try.func90, Try.ntmps90
  go_wp2_with (first | ((with_reducible refine gate_callee (f := 125) rfl ?_); refine goesL_ (some 11) rfl rfl Try.func125 (by kernel_rfl) rfl #[.string a0] rfl eA ?_; (with_reducible refine (impl_sealed.calls k a0 t368 t369 false _ A3.out).mono ?_); rintro e w8 ⟨rfl, hb⟩; refine ⟨_, rfl, ?_⟩; have n0_ := Aside0.mk (below_step bH hb); clear HB; have HB := n0_; clear n0_; (try clear hb); (try clear hb2); (try clear hk); (try clear hi)))
  go_ret2
  exact ⟨eE, bH⟩

/-! ### impl_ReadKey: function 93 -/
def impl_ReadKey.f (k : Nat) (a0 : ByteArray) : Option (Int × Bool) := (impl_isOf.f k a0 107).bind fun t371 => (if t371 = true then ((impl_varAt.f k a0 1).bind fun bt372 => (some (bt372.1, true))) else (some (0, false)))
theorem impl_ReadKey.mono : ∀ a0 k, LeO (impl_ReadKey.f k a0) (impl_ReadKey.f (k + 1) a0) := by
 intro a0 k
 unfold impl_ReadKey.f
 repeat' first
   | (with_reducible exact impl_isOf.mono _ _ _)
   | (with_reducible exact impl_varAt.mono _ _ _)
   | (with_reducible exact LeO.refl _)
   | (with_reducible exact LeO.none _)
   | (with_reducible refine LeO.ite ?_ ?_)
   | (with_reducible refine LeO.bind ?_ (fun _ => ?_))
   | exact impl_isOf.mono _ _ _
   | exact impl_varAt.mono _ _ _
   | exact LeO.none _
   | refine LeO.ite ?_ ?_
   | refine LeO.bind ?_ (fun _ => ?_)
set_option maxHeartbeats 8000000 in
set_option maxRecDepth 100000 in
theorem impl_ReadKey.calls (k : Nat) (a0 : ByteArray) (r1 : Int) (r2 : Bool) (w : World) (h : impl_ReadKey.f k a0 = some (r1, r2)) :
  Calls Try.prog 93 #[.string a0] w fun e w' => e = .returned (.tuple #[.int .i64 r1, .bool r2]) ∧ Below w.heap.size w w' := by
 have HB := Aside0.mk (Below.refl w.heap.size w)
 have H : ((impl_isOf.f k a0 107).bind fun t371 => (if t371 = true then ((impl_varAt.f k a0 1).bind fun bt372 => (some (bt372.1, true))) else (some (0, false)))) = some (r1, r2) := h
 clear h
 replace H := Option.bind_eq_some_iff.mp H
 obtain ⟨t371, A20, H⟩ := H
 replace H : (if t371 = true then ((impl_varAt.f k a0 1).bind fun bt372 => (some (bt372.1, true))) else (some (0, false))) = some (r1, r2) := H
 have A2 := Aside0.mk A20
 clear A20
 by_cases c3 : t371 = true
 ·subst c3
  have H1 : ((impl_varAt.f k a0 1).bind fun bt372 => (some (bt372.1, true))) = some (r1, r2) := by rw [if_pos rfl] at H; exact H
  clear H
  have H := H1
  clear H1
  replace H := Option.bind_eq_some_iff.mp H
  obtain ⟨⟨t372, t373⟩, A40, H⟩ := H
  replace H : (some (t372, true)) = some (r1, r2) := H
  have A4 := Aside0.mk A40
  clear A40
  simp only [Option.some.injEq, Prod.mk.injEq] at H
  obtain ⟨rfl, rfl⟩ := H
  go_enter Try.func93, Try.ntmps93
  go_wp2_with (first | ((with_reducible refine gate_callee (f := 126) rfl ?_); refine goesL_ (some 7) rfl rfl Try.func126 (by kernel_rfl) rfl #[.string a0, .int .u8 107] rfl eA ?_; (with_reducible refine (impl_isOf.calls k a0 107 true _ A2.out).mono ?_); rintro e w5 ⟨rfl, hb⟩; refine ⟨_, rfl, ?_⟩; have n0_ := Aside0.mk (below_step bH hb); clear HB; have HB := n0_; clear n0_; (try clear hb); (try clear hb2); (try clear hk); (try clear hi)) | ((with_reducible refine gate_callee (f := 127) rfl ?_); refine goesL_ (some 11) rfl rfl Try.func127 (by kernel_rfl) rfl #[.string a0, .int .i64 1] rfl eA ?_; (with_reducible refine (impl_varAt.calls k a0 1 t372 t373 _ A4.out).mono ?_); rintro e w6 ⟨rfl, hb⟩; refine ⟨_, rfl, ?_⟩; have n0_ := Aside0.mk (below_step bH hb); clear HB; have HB := n0_; clear n0_; (try clear hb); (try clear hb2); (try clear hk); (try clear hi)))
  go_ret2
  exact ⟨eE, bH⟩
 ·replace c3 := Bool.eq_false_iff.mpr c3
  subst c3
  have H1 : (some (0, false)) = some (r1, r2) := by rw [if_neg (show ¬ (false = true) by decide)] at H; exact H
  clear H
  have H := H1
  clear H1
  simp only [Option.some.injEq, Prod.mk.injEq] at H
  obtain ⟨rfl, rfl⟩ := H
  go_enter Try.func93, Try.ntmps93
  go_wp2_with (first | ((with_reducible refine gate_callee (f := 126) rfl ?_); refine goesL_ (some 7) rfl rfl Try.func126 (by kernel_rfl) rfl #[.string a0, .int .u8 107] rfl eA ?_; (with_reducible refine (impl_isOf.calls k a0 107 false _ A2.out).mono ?_); rintro e w7 ⟨rfl, hb⟩; refine ⟨_, rfl, ?_⟩; have n0_ := Aside0.mk (below_step bH hb); clear HB; have HB := n0_; clear n0_; (try clear hb); (try clear hb2); (try clear hk); (try clear hi)))
  go_ret2
  exact ⟨eE, bH⟩

/-! ### impl_ReadTicket: function 27 -/
def impl_ReadTicket.f (k : Nat) (a0 : ByteArray) (a1 : Int) : Option (Int × Int × Int × Int × Int × Int × List Int × List Int × Bool) := (impl_Open.f k a0 a1).bind fun bt375 => ((impl_Parts.f k bt375.1).bind fun bt377 => (if (bt377.1.length : Int) = 5 then (if 0 < (bt377.1.length : Int) then ((impl_ReadNums.f k (rdOf ByteArray.empty bt377.1 0)).bind fun bt382 => (if (bt382.1.length : Int) = 2 then (if 0 < (bt382.1.length : Int) then (if 1 < (bt382.1.length : Int) then (if 1 < (bt377.1.length : Int) then ((impl_ReadKey.f k (rdOf ByteArray.empty bt377.1 1)).bind fun bt390 => (if 2 < (bt377.1.length : Int) then ((impl_ReadRest.f k (rdOf ByteArray.empty bt377.1 2)).bind fun bt393 => (if 3 < (bt377.1.length : Int) then ((impl_ReadNums.f k (rdOf ByteArray.empty bt377.1 3)).bind fun bt398 => (if 4 < (bt377.1.length : Int) then ((impl_ReadNums.f k (rdOf ByteArray.empty bt377.1 4)).bind fun bt403 => ((impl_ShowTicket.f k (rd bt382.1 0) (rd bt382.1 1) bt390.1 bt393.1 bt393.2.1 bt393.2.2.1 bt398.1 bt403.1 a1).bind fun t407 => (if t407.toList = a0.toList then (some (rd bt382.1 0, rd bt382.1 1, bt390.1, bt393.1, bt393.2.1, bt393.2.2.1, bt398.1, bt403.1, true)) else (some (0, 0, 0, 0, 0, 0, ([] : List Int), ([] : List Int), false))))) else (none))) else (none))) else (none))) else (none)) else (none)) else (none)) else (some (0, 0, 0, 0, 0, 0, ([] : List Int), ([] : List Int), false)))) else (none)) else (some (0, 0, 0, 0, 0, 0, ([] : List Int), ([] : List Int), false))))
theorem impl_ReadTicket.mono : ∀ a0 a1 k, LeO (impl_ReadTicket.f k a0 a1) (impl_ReadTicket.f (k + 1) a0 a1) := by
 intro a0 a1 k
 unfold impl_ReadTicket.f
 repeat' first
   | (with_reducible exact impl_Open.mono _ _ _)
   | (with_reducible exact impl_Parts.mono _ _)
   | (with_reducible exact impl_ReadKey.mono _ _)
   | (with_reducible exact impl_ReadNums.mono _ _)
   | (with_reducible exact impl_ReadRest.mono _ _)
   | (with_reducible exact impl_ShowTicket.mono _ _ _ _ _ _ _ _ _ _)
   | (with_reducible exact LeO.refl _)
   | (with_reducible exact LeO.none _)
   | (with_reducible refine LeO.ite ?_ ?_)
   | (with_reducible refine LeO.bind ?_ (fun _ => ?_))
   | exact impl_Open.mono _ _ _
   | exact impl_Parts.mono _ _
   | exact impl_ReadKey.mono _ _
   | exact impl_ReadNums.mono _ _
   | exact impl_ReadRest.mono _ _
   | exact impl_ShowTicket.mono _ _ _ _ _ _ _ _ _ _
   | exact LeO.none _
   | refine LeO.ite ?_ ?_
   | refine LeO.bind ?_ (fun _ => ?_)
def impl_ReadTicket.T8 : Bool × List (List Nat × List Nat) := (true, [([], []), ([0], [0]), ([1], [1]), ([], []), ([3], [3]), ([4], [4]), ([2, 5], [2, 5]), ([], []), ([7, 6, 0, 1, 2, 3, 4, 5, 6, 7], [6, 7])])
def impl_ReadTicket.B8 : List Nat := [0, 1, 3, 0, 8, 24, 63, 0, 255]
theorem impl_ReadTicket.tab8 : rtab .any (opsOf Try.f27 8) = impl_ReadTicket.T8 := by kernel_rfl
theorem impl_ReadTicket.bits8 : waitsOk impl_ReadTicket.T8.2 impl_ReadTicket.B8 = true := by kernel_rfl
set_option maxHeartbeats 8000000 in
set_option maxRecDepth 100000 in
theorem impl_ReadTicket.calls (k : Nat) (a0 : ByteArray) (a1 : Int) (r1 : Int) (r2 : Int) (r3 : Int) (r4 : Int) (r5 : Int) (r6 : Int) (r7 : List Int) (r8 : List Int) (r9 : Bool) (w : World) (h : impl_ReadTicket.f k a0 a1 = some (r1, r2, r3, r4, r5, r6, r7, r8, r9)) :
  Calls Try.prog 27 #[.string a0, .int .i64 a1] w fun e w' => ∃ v6_ v7_ : Value, e = .returned (.tuple #[.agg #[.int .i64 r1, .int .i64 r2, .int .i64 r3, .int .i64 r4, .int .i64 r5, .int .i64 r6, v6_, v7_], .bool r9]) ∧ Kd.R (Kd.int .i64) 3 w' w.heap.size (fun k_ => some k_ ≠ (v7_ : Value).ownBlock) v6_ r7 ∧ Kd.R (Kd.int .i64) 3 w' w.heap.size (fun k_ => some k_ ≠ (v6_ : Value).ownBlock) v7_ r8 ∧ Below w.heap.size w w' := by
 have hu52 := Try.underlying52
 have hu50 := Try.underlying50
 have HB := Aside0.mk (Below.refl w.heap.size w)
 have H : ((impl_Open.f k a0 a1).bind fun bt375 => ((impl_Parts.f k bt375.1).bind fun bt377 => (if (bt377.1.length : Int) = 5 then (if 0 < (bt377.1.length : Int) then ((impl_ReadNums.f k (rdOf ByteArray.empty bt377.1 0)).bind fun bt382 => (if (bt382.1.length : Int) = 2 then (if 0 < (bt382.1.length : Int) then (if 1 < (bt382.1.length : Int) then (if 1 < (bt377.1.length : Int) then ((impl_ReadKey.f k (rdOf ByteArray.empty bt377.1 1)).bind fun bt390 => (if 2 < (bt377.1.length : Int) then ((impl_ReadRest.f k (rdOf ByteArray.empty bt377.1 2)).bind fun bt393 => (if 3 < (bt377.1.length : Int) then ((impl_ReadNums.f k (rdOf ByteArray.empty bt377.1 3)).bind fun bt398 => (if 4 < (bt377.1.length : Int) then ((impl_ReadNums.f k (rdOf ByteArray.empty bt377.1 4)).bind fun bt403 => ((impl_ShowTicket.f k (rd bt382.1 0) (rd bt382.1 1) bt390.1 bt393.1 bt393.2.1 bt393.2.2.1 bt398.1 bt403.1 a1).bind fun t407 => (if t407.toList = a0.toList then (some (rd bt382.1 0, rd bt382.1 1, bt390.1, bt393.1, bt393.2.1, bt393.2.2.1, bt398.1, bt403.1, true)) else (some (0, 0, 0, 0, 0, 0, ([] : List Int), ([] : List Int), false))))) else (none))) else (none))) else (none))) else (none)) else (none)) else (none)) else (some (0, 0, 0, 0, 0, 0, ([] : List Int), ([] : List Int), false)))) else (none)) else (some (0, 0, 0, 0, 0, 0, ([] : List Int), ([] : List Int), false))))) = some (r1, r2, r3, r4, r5, r6, r7, r8, r9) := h
 clear h
 replace H := Option.bind_eq_some_iff.mp H
 obtain ⟨⟨t375, t376⟩, A30, H⟩ := H
 replace H : ((impl_Parts.f k t375).bind fun bt377 => (if (bt377.1.length : Int) = 5 then (if 0 < (bt377.1.length : Int) then ((impl_ReadNums.f k (rdOf ByteArray.empty bt377.1 0)).bind fun bt382 => (if (bt382.1.length : Int) = 2 then (if 0 < (bt382.1.length : Int) then (if 1 < (bt382.1.length : Int) then (if 1 < (bt377.1.length : Int) then ((impl_ReadKey.f k (rdOf ByteArray.empty bt377.1 1)).bind fun bt390 => (if 2 < (bt377.1.length : Int) then ((impl_ReadRest.f k (rdOf ByteArray.empty bt377.1 2)).bind fun bt393 => (if 3 < (bt377.1.length : Int) then ((impl_ReadNums.f k (rdOf ByteArray.empty bt377.1 3)).bind fun bt398 => (if 4 < (bt377.1.length : Int) then ((impl_ReadNums.f k (rdOf ByteArray.empty bt377.1 4)).bind fun bt403 => ((impl_ShowTicket.f k (rd bt382.1 0) (rd bt382.1 1) bt390.1 bt393.1 bt393.2.1 bt393.2.2.1 bt398.1 bt403.1 a1).bind fun t407 => (if t407.toList = a0.toList then (some (rd bt382.1 0, rd bt382.1 1, bt390.1, bt393.1, bt393.2.1, bt393.2.2.1, bt398.1, bt403.1, true)) else (some (0, 0, 0, 0, 0, 0, ([] : List Int), ([] : List Int), false))))) else (none))) else (none))) else (none))) else (none)) else (none)) else (none)) else (some (0, 0, 0, 0, 0, 0, ([] : List Int), ([] : List Int), false)))) else (none)) else (some (0, 0, 0, 0, 0, 0, ([] : List Int), ([] : List Int), false)))) = some (r1, r2, r3, r4, r5, r6, r7, r8, r9) := H
 have A3 := Aside0.mk A30
 clear A30
 replace H := Option.bind_eq_some_iff.mp H
 obtain ⟨⟨t377, t378⟩, A40, H⟩ := H
 replace H : (if (t377.length : Int) = 5 then (if 0 < (t377.length : Int) then ((impl_ReadNums.f k (rdOf ByteArray.empty t377 0)).bind fun bt382 => (if (bt382.1.length : Int) = 2 then (if 0 < (bt382.1.length : Int) then (if 1 < (bt382.1.length : Int) then (if 1 < (t377.length : Int) then ((impl_ReadKey.f k (rdOf ByteArray.empty t377 1)).bind fun bt390 => (if 2 < (t377.length : Int) then ((impl_ReadRest.f k (rdOf ByteArray.empty t377 2)).bind fun bt393 => (if 3 < (t377.length : Int) then ((impl_ReadNums.f k (rdOf ByteArray.empty t377 3)).bind fun bt398 => (if 4 < (t377.length : Int) then ((impl_ReadNums.f k (rdOf ByteArray.empty t377 4)).bind fun bt403 => ((impl_ShowTicket.f k (rd bt382.1 0) (rd bt382.1 1) bt390.1 bt393.1 bt393.2.1 bt393.2.2.1 bt398.1 bt403.1 a1).bind fun t407 => (if t407.toList = a0.toList then (some (rd bt382.1 0, rd bt382.1 1, bt390.1, bt393.1, bt393.2.1, bt393.2.2.1, bt398.1, bt403.1, true)) else (some (0, 0, 0, 0, 0, 0, ([] : List Int), ([] : List Int), false))))) else (none))) else (none))) else (none))) else (none)) else (none)) else (none)) else (some (0, 0, 0, 0, 0, 0, ([] : List Int), ([] : List Int), false)))) else (none)) else (some (0, 0, 0, 0, 0, 0, ([] : List Int), ([] : List Int), false))) = some (r1, r2, r3, r4, r5, r6, r7, r8, r9) := H
 have A4 := Aside0.mk A40
 clear A40
 by_cases c5 : (t377.length : Int) = 5
 ·rw [if_pos c5] at H
  have c5b0 : ((t377.length : Int) == 5) = true := beq_iff_eq.mpr c5
  have c5b1 : ((t377.length : Int) != 5) = false := bne_eq_false_iff_eq.mpr c5
  clear c5
  by_cases c6 : 0 < (t377.length : Int)
  ·rw [if_pos c6] at H
   have c6b0 : decide (0 < (t377.length : Int)) = true := decide_eq_true c6
   have c6b1 : decide (0 < t377.length) = true := decide_eq_true (by omega)
   clear c6
   replace H := Option.bind_eq_some_iff.mp H
   obtain ⟨⟨t382, t383⟩, A70, H⟩ := H
   replace H : (if (t382.length : Int) = 2 then (if 0 < (t382.length : Int) then (if 1 < (t382.length : Int) then (if 1 < (t377.length : Int) then ((impl_ReadKey.f k (rdOf ByteArray.empty t377 1)).bind fun bt390 => (if 2 < (t377.length : Int) then ((impl_ReadRest.f k (rdOf ByteArray.empty t377 2)).bind fun bt393 => (if 3 < (t377.length : Int) then ((impl_ReadNums.f k (rdOf ByteArray.empty t377 3)).bind fun bt398 => (if 4 < (t377.length : Int) then ((impl_ReadNums.f k (rdOf ByteArray.empty t377 4)).bind fun bt403 => ((impl_ShowTicket.f k (rd t382 0) (rd t382 1) bt390.1 bt393.1 bt393.2.1 bt393.2.2.1 bt398.1 bt403.1 a1).bind fun t407 => (if t407.toList = a0.toList then (some (rd t382 0, rd t382 1, bt390.1, bt393.1, bt393.2.1, bt393.2.2.1, bt398.1, bt403.1, true)) else (some (0, 0, 0, 0, 0, 0, ([] : List Int), ([] : List Int), false))))) else (none))) else (none))) else (none))) else (none)) else (none)) else (none)) else (some (0, 0, 0, 0, 0, 0, ([] : List Int), ([] : List Int), false))) = some (r1, r2, r3, r4, r5, r6, r7, r8, r9) := H
   have A7 := Aside0.mk A70
   clear A70
   by_cases c8 : (t382.length : Int) = 2
   ·rw [if_pos c8] at H
    have c8b0 : ((t382.length : Int) == 2) = true := beq_iff_eq.mpr c8
    have c8b1 : ((t382.length : Int) != 2) = false := bne_eq_false_iff_eq.mpr c8
    clear c8
    by_cases c9 : 0 < (t382.length : Int)
    ·rw [if_pos c9] at H
     have c9b0 : decide (0 < (t382.length : Int)) = true := decide_eq_true c9
     have c9b1 : decide (0 < t382.length) = true := decide_eq_true (by omega)
     clear c9
     by_cases c10 : 1 < (t382.length : Int)
     ·rw [if_pos c10] at H
      have c10b0 : decide (1 < (t382.length : Int)) = true := decide_eq_true c10
      have c10b1 : decide (1 < t382.length) = true := decide_eq_true (by omega)
      clear c10
      by_cases c11 : 1 < (t377.length : Int)
      ·rw [if_pos c11] at H
       have c11b0 : decide (1 < (t377.length : Int)) = true := decide_eq_true c11
       have c11b1 : decide (1 < t377.length) = true := decide_eq_true (by omega)
       clear c11
       replace H := Option.bind_eq_some_iff.mp H
       obtain ⟨⟨t390, t391⟩, A120, H⟩ := H
       replace H : (if 2 < (t377.length : Int) then ((impl_ReadRest.f k (rdOf ByteArray.empty t377 2)).bind fun bt393 => (if 3 < (t377.length : Int) then ((impl_ReadNums.f k (rdOf ByteArray.empty t377 3)).bind fun bt398 => (if 4 < (t377.length : Int) then ((impl_ReadNums.f k (rdOf ByteArray.empty t377 4)).bind fun bt403 => ((impl_ShowTicket.f k (rd t382 0) (rd t382 1) t390 bt393.1 bt393.2.1 bt393.2.2.1 bt398.1 bt403.1 a1).bind fun t407 => (if t407.toList = a0.toList then (some (rd t382 0, rd t382 1, t390, bt393.1, bt393.2.1, bt393.2.2.1, bt398.1, bt403.1, true)) else (some (0, 0, 0, 0, 0, 0, ([] : List Int), ([] : List Int), false))))) else (none))) else (none))) else (none)) = some (r1, r2, r3, r4, r5, r6, r7, r8, r9) := H
       have A12 := Aside0.mk A120
       clear A120
       by_cases c13 : 2 < (t377.length : Int)
       ·rw [if_pos c13] at H
        have c13b0 : decide (2 < (t377.length : Int)) = true := decide_eq_true c13
        have c13b1 : decide (2 < t377.length) = true := decide_eq_true (by omega)
        clear c13
        replace H := Option.bind_eq_some_iff.mp H
        obtain ⟨⟨t393, t394, t395, t396⟩, A140, H⟩ := H
        replace H : (if 3 < (t377.length : Int) then ((impl_ReadNums.f k (rdOf ByteArray.empty t377 3)).bind fun bt398 => (if 4 < (t377.length : Int) then ((impl_ReadNums.f k (rdOf ByteArray.empty t377 4)).bind fun bt403 => ((impl_ShowTicket.f k (rd t382 0) (rd t382 1) t390 t393 t394 t395 bt398.1 bt403.1 a1).bind fun t407 => (if t407.toList = a0.toList then (some (rd t382 0, rd t382 1, t390, t393, t394, t395, bt398.1, bt403.1, true)) else (some (0, 0, 0, 0, 0, 0, ([] : List Int), ([] : List Int), false))))) else (none))) else (none)) = some (r1, r2, r3, r4, r5, r6, r7, r8, r9) := H
        have A14 := Aside0.mk A140
        clear A140
        by_cases c15 : 3 < (t377.length : Int)
        ·rw [if_pos c15] at H
         have c15b0 : decide (3 < (t377.length : Int)) = true := decide_eq_true c15
         have c15b1 : decide (3 < t377.length) = true := decide_eq_true (by omega)
         clear c15
         replace H := Option.bind_eq_some_iff.mp H
         obtain ⟨⟨t398, t399⟩, A160, H⟩ := H
         replace H : (if 4 < (t377.length : Int) then ((impl_ReadNums.f k (rdOf ByteArray.empty t377 4)).bind fun bt403 => ((impl_ShowTicket.f k (rd t382 0) (rd t382 1) t390 t393 t394 t395 t398 bt403.1 a1).bind fun t407 => (if t407.toList = a0.toList then (some (rd t382 0, rd t382 1, t390, t393, t394, t395, t398, bt403.1, true)) else (some (0, 0, 0, 0, 0, 0, ([] : List Int), ([] : List Int), false))))) else (none)) = some (r1, r2, r3, r4, r5, r6, r7, r8, r9) := H
         have A16 := Aside0.mk A160
         clear A160
         by_cases c17 : 4 < (t377.length : Int)
         ·rw [if_pos c17] at H
          have c17b0 : decide (4 < (t377.length : Int)) = true := decide_eq_true c17
          have c17b1 : decide (4 < t377.length) = true := decide_eq_true (by omega)
          clear c17
          replace H := Option.bind_eq_some_iff.mp H
          obtain ⟨⟨t403, t404⟩, A180, H⟩ := H
          replace H : ((impl_ShowTicket.f k (rd t382 0) (rd t382 1) t390 t393 t394 t395 t398 t403 a1).bind fun t407 => (if t407.toList = a0.toList then (some (rd t382 0, rd t382 1, t390, t393, t394, t395, t398, t403, true)) else (some (0, 0, 0, 0, 0, 0, ([] : List Int), ([] : List Int), false)))) = some (r1, r2, r3, r4, r5, r6, r7, r8, r9) := H
          have A18 := Aside0.mk A180
          clear A180
          replace H := Option.bind_eq_some_iff.mp H
          obtain ⟨t407, A190, H⟩ := H
          replace H : (if t407.toList = a0.toList then (some (rd t382 0, rd t382 1, t390, t393, t394, t395, t398, t403, true)) else (some (0, 0, 0, 0, 0, 0, ([] : List Int), ([] : List Int), false))) = some (r1, r2, r3, r4, r5, r6, r7, r8, r9) := H
          have A19 := Aside0.mk A190
          clear A190
          by_cases c20 : t407.toList = a0.toList
          ·rw [if_pos c20] at H
           have c20b0 : (t407.toList == a0.toList) = true := beq_iff_eq.mpr c20
           have c20b1 : (t407.toList != a0.toList) = false := bne_eq_false_iff_eq.mpr c20
           clear c20
           simp only [Option.some.injEq, Prod.mk.injEq] at H
           obtain ⟨rfl, rfl, rfl, rfl, rfl, rfl, rfl, rfl, rfl⟩ := H
           go_enter Try.func27, Try.ntmps27
           try go_wp2_with (first | ((with_reducible refine gate_dst (N := 4) rfl ?_); refine box_event ?hg (N := 4) ?hd (cs := #[.int .i64 0, .int .i64 0, .int .i64 0, .int .i64 0, .int .i64 0, .int .i64 0, .slice none 0 0, .slice none 0 0]) (t := 52) ?hr ?_; (case hd => rfl); (case hg => rfl); (case hr => first | (go_simp; done) | (go_simp; rfl)); intro gb374 hg w21 hbox hb; have n0_ := Aside0.mk (below_step bH hb); have n1_ := Aside0.mk (hbox); have n2_ := Aside0.mk ((bZ hg : w.heap.size ≤ gb374)); have n3_ := Aside0.mk ((bZ hg : w.heap.size ≤ gb374)); clear HB; have HB := n0_; have BK374 := n1_; have GW374 := n2_; have GE374 := n3_; clear n0_ n1_ n2_ n3_; clear hb hbox hg) | ((with_reducible refine gate_callee (f := 90) rfl ?_); refine goesL_ (some 16) rfl rfl Try.func90 (by kernel_rfl) rfl #[.string a0, .int .i64 a1] rfl eA ?_; (with_reducible refine (impl_Open.calls k a0 a1 t375 t376 _ A3.out).mono ?_); rintro e w22 ⟨rfl, hb⟩; refine ⟨_, rfl, ?_⟩; have n0_ := Aside0.mk (blk_below (kB BK374.out) hb); have n1_ := Aside0.mk (below_step bS hb); clear BK374; clear HB; have BK374 := n0_; have HB := n1_; clear n0_ n1_; (try clear hb); (try clear hb2); (try clear hk); (try clear hi)) | ((with_reducible refine gate_callee (f := 91) rfl ?_); refine goesL_ (some 21) rfl rfl Try.func91 (by kernel_rfl) rfl #[.string t375] rfl eA ?_; (with_reducible refine (impl_Parts.calls k t375 t377 t378 _ A4.out).mono ?_); rintro e w23 ⟨v379, rfl, ho0, hb⟩; refine ⟨_, rfl, ?_⟩; have n0_ := Aside0.mk (Kd.R_lower ho0 (below_size bS)); have n1_ := Aside0.mk (blk_below (kB BK374.out) hb); have n2_ := Aside0.mk (below_step bS hb); clear BK374; clear HB; have HO380 := n0_; have BK374 := n1_; have HB := n2_; clear n0_ n1_ n2_; (try clear hb); (try clear hb2); (try clear hk); (try clear hi); (try clear ho0); obtain ⟨Ao24, co24, eo24⟩ := Kd.R_slice HO380.out; subst eo24; have p381 : 0 ≤ (0 : Int) := (by omega); have q381 : 0 < (t377.length : Int) := of_decide_eq_true aA; obtain ⟨ad381, e381, hx381_0⟩ := Kd.at_string (Kd.R_reads' HO380.out).2.2 0 p381 q381; cases e381; have qi381 : (0 < t377.length) = True := eq_true (by omega); (try rw [show ((0 : Int)).toNat = 0 from rfl] at hx381_0); (try rw [Addr.add_zero'] at hx381_0); replace p381 := eq_true p381; replace q381 := eq_true q381) | ((with_reducible refine gate_callee (f := 92) rfl ?_); refine goesL_ (some 32) rfl rfl Try.func92 (by kernel_rfl) rfl #[.string (rdOf ByteArray.empty t377 0)] rfl eA ?_; (with_reducible refine (impl_ReadNums.calls k (rdOf ByteArray.empty t377 0) t382 t383 _ A7.out).mono ?_); rintro e w25 ⟨v384, rfl, ho0, hb⟩; refine ⟨_, rfl, ?_⟩; have n0_ := Aside0.mk (Kd.R_below (kR HO380.out) hb); have n1_ := Aside0.mk (Kd.R_lower ho0 (below_size bS)); have n2_ := Aside0.mk (blk_below (kB BK374.out) hb); have n3_ := Aside0.mk (below_step bS hb); clear HO380; clear BK374; clear HB; have HO380 := n0_; have HO385 := n1_; have BK374 := n2_; have HB := n3_; clear n0_ n1_ n2_ n3_; (try clear hb); (try clear hb2); (try clear hk); (try clear hi); (try clear ho0); obtain ⟨Ao26, co26, eo26⟩ := Kd.R_slice HO385.out; subst eo26))
           have n0_ := Aside0.mk (Kd.R_drew HO380.out)
           have n1_ := Aside0.mk (Kd.R_drew HO385.out)
           have n2_ := Aside0.mk (blk_drew BK374.out)
           have n3_ := Aside0.mk (below_drew1 HB.out)
           clear HO380 HO385 BK374 HB
           have HO380 := n0_
           have HO385 := n1_
           have BK374 := n2_
           have HB := n3_
           clear n0_ n1_ n2_ n3_
           have p386 : 0 ≤ (0 : Int) := (by omega)
           have q386 : 0 < (t382.length : Int) := of_decide_eq_true aA
           obtain ⟨ad386, e386, hx386_0⟩ := Kd.at_int (Kd.R_reads' HO385.out).2.2 0 p386 q386
           cases e386
           have qi386 : (0 < t382.length) = True := eq_true (by omega)
           (try rw [show ((0 : Int)).toNat = 0 from rfl] at hx386_0)
           (try rw [Addr.add_zero'] at hx386_0)
           replace p386 := eq_true p386
           replace q386 := eq_true q386
           have p387 : 0 ≤ (1 : Int) := (by omega)
           have q387 : 1 < (t382.length : Int) := of_decide_eq_true aA
           obtain ⟨ad387, e387, hx387_0⟩ := Kd.at_int (Kd.R_reads' HO385.out).2.2 1 p387 q387
           obtain rfl : ad386 = ad387 := (by injection e387)
           (try simp only [show (1 : Int).toNat = 1 from rfl, Nat.reduceMul, Nat.reduceEqDiff, Go.Addr.add, ↓reduceIte] at hx387_0)
           have qi387 : (1 < t382.length) = True := eq_true (by omega)
           (try rw [show ((1 : Int)).toNat = 1 from rfl] at hx387_0)
           replace p387 := eq_true p387
           replace q387 := eq_true q387
           refine start_ (n := 9) (S := fun w' => w'.cell? ad386 = some (.int .i64 (rd t382 0)) ∧ w'.cell? ⟨ad386.block, ad386.off + 1, none⟩ = some (.int .i64 (rd t382 1))) (ds := []) #[false, false, false, false, false, false, false, false, false] (by kernel_rfl) rfl rfl ⟨hx386_0, hx387_0⟩ (fun hHeld => ?_); refine with_tabW impl_ReadTicket.tab8 impl_ReadTicket.bits8 (fun HT_ HW_ => ?_)
           generalize w25.drew = w27 at HO380 HO385 BK374 HB hx386_0 hx387_0 hHeld ⊢
           refine pure_ (i := 0) (N := some 39) (v := ?_) (a' := ?_) #[true, false, false, false, false, false, false, false, false] rfl rfl (any_of HT_.out (by kernel_rfl)) (fun _ _ _ h => h) (Or.inl ⟨by rfl, ?_⟩) ?_ ?_
           rotate_left
           ·intro w'
            go_simp
            with_reducible rfl
           rotate_left
           ·simp only [Act.put, List.setIfInBounds_toArray, List.set_cons_zero, List.set_cons_succ, i64_w, i32_w]
            rfl
           refine pure_ (i := 1) (N := some 40) (v := ?_) (a' := ?_) #[true, true, false, false, false, false, false, false, false] rfl rfl (any_of HT_.out (by kernel_rfl)) (fun _ _ _ h => h) (Or.inl ⟨by rfl, ?_⟩) ?_ ?_
           rotate_left
           ·intro w'
            go_simp
            with_reducible rfl
           rotate_left
           ·simp only [Act.put, List.setIfInBounds_toArray, List.set_cons_zero, List.set_cons_succ, i64_w, i32_w]
            rfl
           refine pure_ (i := 3) (N := some 42) (v := ?_) (a' := ?_) #[true, true, false, true, false, false, false, false, false] rfl rfl (any_of HT_.out (by kernel_rfl)) (fun _ _ _ h => h) (Or.inl ⟨by rfl, ?_⟩) ?_ ?_
           rotate_left
           ·intro w'
            go_simp
            with_reducible rfl
           rotate_left
           ·simp only [Act.put, List.setIfInBounds_toArray, List.set_cons_zero, List.set_cons_succ, i64_w, i32_w]
            rfl
           refine pure_ (i := 4) (N := some 43) (v := ?_) (a' := ?_) #[true, true, false, true, true, false, false, false, false] rfl rfl (any_of HT_.out (by kernel_rfl)) (fun _ _ _ h => h) (Or.inl ⟨by rfl, ?_⟩) ?_ ?_
           rotate_left
           ·intro w'
            go_simp
            with_reducible rfl
           rotate_left
           ·simp only [Act.put, List.setIfInBounds_toArray, List.set_cons_zero, List.set_cons_succ, i64_w, i32_w]
            rfl
           refine take_ (i := 2) (N := some 41) (v := ?_) (a' := ?_) #[true, true, true, true, true, false, false, false, false] rfl rfl (take_ofW HT_.out HW_.out (by kernel_rfl)) (fun _ _ _ h => h) (Or.inl ⟨by rfl, ?_⟩) hHeld ?_ ?_
           rotate_left
           ·rintro w' ⟨s0, s1⟩
            go_simp
            with_reducible rfl
           rotate_left
           ·simp only [Act.put, List.setIfInBounds_toArray, List.set_cons_zero, List.set_cons_succ, i64_w, i32_w]
            rfl
           refine take_ (i := 5) (N := some 44) (v := ?_) (a' := ?_) #[true, true, true, true, true, true, false, false, false] rfl rfl (take_ofW HT_.out HW_.out (by kernel_rfl)) (fun _ _ _ h => h) (Or.inl ⟨by rfl, ?_⟩) hHeld ?_ ?_
           rotate_left
           ·rintro w' ⟨s0, s1⟩
            go_simp
            with_reducible rfl
           rotate_left
           ·simp only [Act.put, List.setIfInBounds_toArray, List.set_cons_zero, List.set_cons_succ, i64_w, i32_w]
            rfl
           refine pure_ (i := 6) (N := some 45) (v := ?_) (a' := ?_) #[true, true, true, true, true, true, true, false, false] rfl rfl (any_of HT_.out (by kernel_rfl)) (fun _ _ _ h => h) (Or.inl ⟨by rfl, ?_⟩) ?_ ?_
           rotate_left
           ·intro w'
            go_simp
            with_reducible rfl
           rotate_left
           ·simp only [Act.put, List.setIfInBounds_toArray, List.set_cons_zero, List.set_cons_succ, i64_w, i32_w]
            rfl
           refine one_ (i := 7) (N := some 12) #[true, true, true, true, true, true, true, true, false] rfl rfl (one_of HT_.out (by kernel_rfl)) (by decide) (fun K hK => ?_)
           refine box_step ?hg (N := 12) ?hd (cs := #[.int .i64 0, .int .i64 0, .int .i64 0, .int .i64 0, .int .i64 0, .int .i64 0, .slice none 0 0, .slice none 0 0]) (t := 52) ?hr ?_; (case hd => rfl); (case hg => rfl); (case hr => first | (go_simp; done) | (go_simp; rfl))
           intro gb388 hg w28 hbox hb
           have HS0_ := (hb.cell (World.block_lt_of_cell? _ _ (hHeld.1))).trans (hHeld.1)
           have HS1_ := (hb.cell (World.block_lt_of_cell? _ _ (hHeld.2))).trans (hHeld.2)
           have n0_ := Aside0.mk (Kd.R_below (kR HO380.out) hb)
           have n1_ := Aside0.mk (Kd.R_below (kR HO385.out) hb)
           have n2_ := Aside0.mk (blk_below (kB BK374.out) hb)
           have n3_ := Aside0.mk (below_step bS hb)
           have n4_ := Aside0.mk (hbox)
           have n5_ := Aside0.mk ((bZ hg : w.heap.size ≤ gb388))
           have n6_ := Aside0.mk ((bZ hg : w.heap.size ≤ gb388))
           have n7_ := Aside0.mk ((nL hg BK374.out : gb374 ≠ gb388))
           have n8_ := Aside0.mk ((nG hg BK374.out : gb388 ≠ gb374))
           clear HO380 HO385 BK374 HB
           have HO380 := n0_
           have HO385 := n1_
           have BK374 := n2_
           have HB := n3_
           have BK388 := n4_
           have GW388 := n5_
           have GE388 := n6_
           have NB374_388 := n7_
           have NB388_374 := n8_
           clear n0_ n1_ n2_ n3_ n4_ n5_ n6_ n7_ n8_ hb hbox hg
           refine hK.out _ _ ⟨HS0_, HS1_⟩ (fun hHeld => ?_)
           clear hK K
           refine norm_ (a' := ?_) ?_ ?_
           rotate_left
           ·show Act.put _ (some 12) _ = _
            simp only [Act.put, List.setIfInBounds_toArray, List.set_cons_zero, List.set_cons_succ, i64_w, i32_w]
            rfl
           refine one_ (i := 8) (N := none) #[true, true, true, true, true, true, true, true, true] rfl rfl (one_of HT_.out (by kernel_rfl)) (by decide) (fun K hK => ?_)
           have hs29 : w28.cell? ⟨gb388, 0, none⟩ = some (.int .i64 0) := (blk_cell BK388.out 0).trans rfl
           have hfs29 := blk_frozen BK388.out 0
           have hns29_0 := NB374_388.out
           have hms29_0 := NB388_374.out
           have hs30 : w28.cell? ⟨gb388, 1, none⟩ = some (.int .i64 0) := (blk_cell BK388.out 1).trans rfl
           have hfs30 := blk_frozen BK388.out 1
           have hns30_0 := NB374_388.out
           have hms30_0 := NB388_374.out
           have hs31 : w28.cell? ⟨gb388, 2, none⟩ = some (.int .i64 0) := (blk_cell BK388.out 2).trans rfl
           have hfs31 := blk_frozen BK388.out 2
           have hns31_0 := NB374_388.out
           have hms31_0 := NB388_374.out
           have hs32 : w28.cell? ⟨gb388, 3, none⟩ = some (.int .i64 0) := (blk_cell BK388.out 3).trans rfl
           have hfs32 := blk_frozen BK388.out 3
           have hns32_0 := NB374_388.out
           have hms32_0 := NB388_374.out
           have hs33 : w28.cell? ⟨gb388, 4, none⟩ = some (.int .i64 0) := (blk_cell BK388.out 4).trans rfl
           have hfs33 := blk_frozen BK388.out 4
           have hns33_0 := NB374_388.out
           have hms33_0 := NB388_374.out
           have hs34 : w28.cell? ⟨gb388, 5, none⟩ = some (.int .i64 0) := (blk_cell BK388.out 5).trans rfl
           have hfs34 := blk_frozen BK388.out 5
           have hns34_0 := NB374_388.out
           have hms34_0 := NB388_374.out
           have hs35 : w28.cell? ⟨gb388, 6, none⟩ = some (.slice none 0 0) := (blk_cell BK388.out 6).trans rfl
           have hfs35 := blk_frozen BK388.out 6
           have hns35_0 := NB374_388.out
           have hms35_0 := NB388_374.out
           have hs36 : w28.cell? ⟨gb388, 7, none⟩ = some (.slice none 0 0) := (blk_cell BK388.out 7).trans rfl
           have hfs36 := blk_frozen BK388.out 7
           have hns36_0 := NB374_388.out
           have hms36_0 := NB388_374.out
           refine skip_ (w1 := ?_) (by rfl) rfl ?_ ?_
           rotate_left
           ·go_simp
            rfl
           refine hK.out _ _ ⟨((cell_far (p := ⟨gb388, _, none⟩) (by try dsimp only; first | exact Kd.own_blk (Kd.R_ne HO385.out BK388.out (by decide)) | (rw [add_block]; exact Kd.own_blk (Kd.R_ne HO385.out BK388.out (by decide)))) _).trans (((cell_far (p := ⟨gb388, _, none⟩) (by try dsimp only; first | exact Kd.own_blk (Kd.R_ne HO385.out BK388.out (by decide)) | (rw [add_block]; exact Kd.own_blk (Kd.R_ne HO385.out BK388.out (by decide)))) _).trans (((cell_far (p := ⟨gb388, _, none⟩) (by try dsimp only; first | exact Kd.own_blk (Kd.R_ne HO385.out BK388.out (by decide)) | (rw [add_block]; exact Kd.own_blk (Kd.R_ne HO385.out BK388.out (by decide)))) _).trans (((cell_far (p := ⟨gb388, _, none⟩) (by try dsimp only; first | exact Kd.own_blk (Kd.R_ne HO385.out BK388.out (by decide)) | (rw [add_block]; exact Kd.own_blk (Kd.R_ne HO385.out BK388.out (by decide)))) _).trans (((cell_far (p := ⟨gb388, _, none⟩) (by try dsimp only; first | exact Kd.own_blk (Kd.R_ne HO385.out BK388.out (by decide)) | (rw [add_block]; exact Kd.own_blk (Kd.R_ne HO385.out BK388.out (by decide)))) _).trans (((cell_far (p := ⟨gb388, _, none⟩) (by try dsimp only; first | exact Kd.own_blk (Kd.R_ne HO385.out BK388.out (by decide)) | (rw [add_block]; exact Kd.own_blk (Kd.R_ne HO385.out BK388.out (by decide)))) _).trans (((cell_far (p := ⟨gb388, _, none⟩) (by try dsimp only; first | exact Kd.own_blk (Kd.R_ne HO385.out BK388.out (by decide)) | (rw [add_block]; exact Kd.own_blk (Kd.R_ne HO385.out BK388.out (by decide)))) _).trans (((cell_far (p := ⟨gb388, _, none⟩) (by try dsimp only; first | exact Kd.own_blk (Kd.R_ne HO385.out BK388.out (by decide)) | (rw [add_block]; exact Kd.own_blk (Kd.R_ne HO385.out BK388.out (by decide)))) _).trans (hHeld.1)))))))))))))))), ((cell_far (p := ⟨gb388, _, none⟩) (by try dsimp only; first | exact Kd.own_blk (Kd.R_ne HO385.out BK388.out (by decide)) | (rw [add_block]; exact Kd.own_blk (Kd.R_ne HO385.out BK388.out (by decide)))) _).trans (((cell_far (p := ⟨gb388, _, none⟩) (by try dsimp only; first | exact Kd.own_blk (Kd.R_ne HO385.out BK388.out (by decide)) | (rw [add_block]; exact Kd.own_blk (Kd.R_ne HO385.out BK388.out (by decide)))) _).trans (((cell_far (p := ⟨gb388, _, none⟩) (by try dsimp only; first | exact Kd.own_blk (Kd.R_ne HO385.out BK388.out (by decide)) | (rw [add_block]; exact Kd.own_blk (Kd.R_ne HO385.out BK388.out (by decide)))) _).trans (((cell_far (p := ⟨gb388, _, none⟩) (by try dsimp only; first | exact Kd.own_blk (Kd.R_ne HO385.out BK388.out (by decide)) | (rw [add_block]; exact Kd.own_blk (Kd.R_ne HO385.out BK388.out (by decide)))) _).trans (((cell_far (p := ⟨gb388, _, none⟩) (by try dsimp only; first | exact Kd.own_blk (Kd.R_ne HO385.out BK388.out (by decide)) | (rw [add_block]; exact Kd.own_blk (Kd.R_ne HO385.out BK388.out (by decide)))) _).trans (((cell_far (p := ⟨gb388, _, none⟩) (by try dsimp only; first | exact Kd.own_blk (Kd.R_ne HO385.out BK388.out (by decide)) | (rw [add_block]; exact Kd.own_blk (Kd.R_ne HO385.out BK388.out (by decide)))) _).trans (((cell_far (p := ⟨gb388, _, none⟩) (by try dsimp only; first | exact Kd.own_blk (Kd.R_ne HO385.out BK388.out (by decide)) | (rw [add_block]; exact Kd.own_blk (Kd.R_ne HO385.out BK388.out (by decide)))) _).trans (((cell_far (p := ⟨gb388, _, none⟩) (by try dsimp only; first | exact Kd.own_blk (Kd.R_ne HO385.out BK388.out (by decide)) | (rw [add_block]; exact Kd.own_blk (Kd.R_ne HO385.out BK388.out (by decide)))) _).trans (hHeld.2))))))))))))))))⟩ (fun hHeld => ?_)
           clear hK K
           refine done_ (done_of HT_.out (by kernel_rfl)) ?_
           have p389 : 0 ≤ (1 : Int) := (by omega)
           have q389 : 1 < (t377.length : Int) := of_decide_eq_true aA
           obtain ⟨ad389, e389, hx389_0⟩ := Kd.at_string (Kd.R_reads' HO380.out).2.2 1 p389 q389
           obtain rfl : ad381 = ad389 := (by injection e389)
           (try simp only [show (1 : Int).toNat = 1 from rfl, Nat.reduceMul, Nat.reduceEqDiff, Go.Addr.add, ↓reduceIte] at hx389_0)
           have qi389 : (1 < t377.length) = True := eq_true (by omega)
           (try rw [show ((1 : Int)).toNat = 1 from rfl] at hx389_0)
           have hn389_0 : ad381.block ≠ gb388 := Kd.own_blk (Kd.R_ne HO380.out BK388.out (by decide))
           have hn389_1 : ad381.block ≠ gb388 := Kd.own_blk (Kd.R_ne HO380.out BK388.out (by decide))
           have hn389_2 : ad381.block ≠ gb388 := Kd.own_blk (Kd.R_ne HO380.out BK388.out (by decide))
           have hn389_3 : ad381.block ≠ gb388 := Kd.own_blk (Kd.R_ne HO380.out BK388.out (by decide))
           have hn389_4 : ad381.block ≠ gb388 := Kd.own_blk (Kd.R_ne HO380.out BK388.out (by decide))
           have hn389_5 : ad381.block ≠ gb388 := Kd.own_blk (Kd.R_ne HO380.out BK388.out (by decide))
           have hn389_6 : ad381.block ≠ gb388 := Kd.own_blk (Kd.R_ne HO380.out BK388.out (by decide))
           have hn389_7 : ad381.block ≠ gb388 := Kd.own_blk (Kd.R_ne HO380.out BK388.out (by decide))
           replace hx389_0 := (cell_far (p := ⟨gb388, 0, none⟩) (by first | (rw [add_block]; exact hn389_0) | (show (Addr.add _ _).block ≠ _; rw [add_block]; exact hn389_0) | exact hn389_0) (.int .i64 (rd t382 0))).trans hx389_0
           replace hx389_0 := (cell_far (p := ⟨gb388, 1, none⟩) (by first | (rw [add_block]; exact hn389_1) | (show (Addr.add _ _).block ≠ _; rw [add_block]; exact hn389_1) | exact hn389_1) (.int .i64 (rd t382 1))).trans hx389_0
           replace hx389_0 := (cell_far (p := ⟨gb388, 2, none⟩) (by first | (rw [add_block]; exact hn389_2) | (show (Addr.add _ _).block ≠ _; rw [add_block]; exact hn389_2) | exact hn389_2) (.int .i64 0)).trans hx389_0
           replace hx389_0 := (cell_far (p := ⟨gb388, 3, none⟩) (by first | (rw [add_block]; exact hn389_3) | (show (Addr.add _ _).block ≠ _; rw [add_block]; exact hn389_3) | exact hn389_3) (.int .i64 0)).trans hx389_0
           replace hx389_0 := (cell_far (p := ⟨gb388, 4, none⟩) (by first | (rw [add_block]; exact hn389_4) | (show (Addr.add _ _).block ≠ _; rw [add_block]; exact hn389_4) | exact hn389_4) (.int .i64 0)).trans hx389_0
           replace hx389_0 := (cell_far (p := ⟨gb388, 5, none⟩) (by first | (rw [add_block]; exact hn389_5) | (show (Addr.add _ _).block ≠ _; rw [add_block]; exact hn389_5) | exact hn389_5) (.int .i64 0)).trans hx389_0
           replace hx389_0 := (cell_far (p := ⟨gb388, 6, none⟩) (by first | (rw [add_block]; exact hn389_6) | (show (Addr.add _ _).block ≠ _; rw [add_block]; exact hn389_6) | exact hn389_6) (.slice none 0 0)).trans hx389_0
           replace hx389_0 := (cell_far (p := ⟨gb388, 7, none⟩) (by first | (rw [add_block]; exact hn389_7) | (show (Addr.add _ _).block ≠ _; rw [add_block]; exact hn389_7) | exact hn389_7) (.slice none 0 0)).trans hx389_0
           clear hn389_0 hn389_1 hn389_2 hn389_3 hn389_4 hn389_5 hn389_6 hn389_7
           replace p389 := eq_true p389
           replace q389 := eq_true q389
           try go_wp2_with (first | ((with_reducible refine gate_callee (f := 93) rfl ?_); refine goesL_ (some 50) rfl rfl Try.func93 (by kernel_rfl) rfl #[.string (rdOf ByteArray.empty t377 1)] rfl eA ?_; (with_reducible refine (impl_ReadKey.calls k (rdOf ByteArray.empty t377 1) t390 t391 _ A12.out).mono ?_); rintro e w37 ⟨rfl, hb⟩; refine ⟨_, rfl, ?_⟩; have n0_ := Aside0.mk (Kd.R_below (by (with_reducible repeat (first | apply Kd.R_alloc | apply Kd.R_drewN | apply Kd.R_drew)); exact (Kd.R_mono (Kd.R_far (p := ⟨gb388, 7, none⟩) (Kd.R_far (p := ⟨gb388, 6, none⟩) (Kd.R_far (p := ⟨gb388, 5, none⟩) (Kd.R_far (p := ⟨gb388, 4, none⟩) (Kd.R_far (p := ⟨gb388, 3, none⟩) (Kd.R_far (p := ⟨gb388, 2, none⟩) (Kd.R_far (p := ⟨gb388, 1, none⟩) (Kd.R_far (p := ⟨gb388, 0, none⟩) (Kd.R_types HO380.out BK388.out (by decide)) (fun _ hk => hk.2) (.int .i64 (rd t382 0))) (fun _ hk => hk.2) (.int .i64 (rd t382 1))) (fun _ hk => hk.2) (.int .i64 0)) (fun _ hk => hk.2) (.int .i64 0)) (fun _ hk => hk.2) (.int .i64 0)) (fun _ hk => hk.2) (.int .i64 0)) (fun _ hk => hk.2) (.slice none 0 0)) (fun _ hk => hk.2) (.slice none 0 0)) (fun _ h_ => h_.1))) hb); have n1_ := Aside0.mk (Kd.R_below (by (with_reducible repeat (first | apply Kd.R_alloc | apply Kd.R_drewN | apply Kd.R_drew)); exact (Kd.R_mono (Kd.R_far (p := ⟨gb388, 7, none⟩) (Kd.R_far (p := ⟨gb388, 6, none⟩) (Kd.R_far (p := ⟨gb388, 5, none⟩) (Kd.R_far (p := ⟨gb388, 4, none⟩) (Kd.R_far (p := ⟨gb388, 3, none⟩) (Kd.R_far (p := ⟨gb388, 2, none⟩) (Kd.R_far (p := ⟨gb388, 1, none⟩) (Kd.R_far (p := ⟨gb388, 0, none⟩) (Kd.R_types HO385.out BK388.out (by decide)) (fun _ hk => hk.2) (.int .i64 (rd t382 0))) (fun _ hk => hk.2) (.int .i64 (rd t382 1))) (fun _ hk => hk.2) (.int .i64 0)) (fun _ hk => hk.2) (.int .i64 0)) (fun _ hk => hk.2) (.int .i64 0)) (fun _ hk => hk.2) (.int .i64 0)) (fun _ hk => hk.2) (.slice none 0 0)) (fun _ hk => hk.2) (.slice none 0 0)) (fun _ h_ => h_.1))) hb); have n2_ := Aside0.mk (blk_below (g := gb374) (o := .cells #[.int .i64 0, .int .i64 0, .int .i64 0, .int .i64 0, .int .i64 0, .int .i64 0, .slice none 0 0, .slice none 0 0] 52 (0, 0)) (by (with_reducible repeat (first | refine blk_drewN ?_ _ | refine blk_drew ?_ | refine blk_alloc ?_ _)); refine blk_far ?_ NB374_388.out _; (with_reducible repeat (first | refine blk_drewN ?_ _ | refine blk_drew ?_ | refine blk_alloc ?_ _)); refine blk_far ?_ NB374_388.out _; (with_reducible repeat (first | refine blk_drewN ?_ _ | refine blk_drew ?_ | refine blk_alloc ?_ _)); refine blk_far ?_ NB374_388.out _; (with_reducible repeat (first | refine blk_drewN ?_ _ | refine blk_drew ?_ | refine blk_alloc ?_ _)); refine blk_far ?_ NB374_388.out _; (with_reducible repeat (first | refine blk_drewN ?_ _ | refine blk_drew ?_ | refine blk_alloc ?_ _)); refine blk_far ?_ NB374_388.out _; (with_reducible repeat (first | refine blk_drewN ?_ _ | refine blk_drew ?_ | refine blk_alloc ?_ _)); refine blk_far ?_ NB374_388.out _; (with_reducible repeat (first | refine blk_drewN ?_ _ | refine blk_drew ?_ | refine blk_alloc ?_ _)); refine blk_far ?_ NB374_388.out _; (with_reducible repeat (first | refine blk_drewN ?_ _ | refine blk_drew ?_ | refine blk_alloc ?_ _)); refine blk_far ?_ NB374_388.out _; (with_reducible repeat (first | refine blk_drewN ?_ _ | refine blk_drew ?_ | refine blk_alloc ?_ _)); exact BK374.out) hb); have n3_ := Aside0.mk (blk_below (g := gb388) (o := .cells #[.int .i64 (rd t382 0), .int .i64 (rd t382 1), .int .i64 0, .int .i64 0, .int .i64 0, .int .i64 0, .slice none 0 0, .slice none 0 0] 52 (0, 0)) (by (with_reducible repeat (first | refine blk_drewN ?_ _ | refine blk_drew ?_ | refine blk_alloc ?_ _)); refine blk_put (cs := #[.int .i64 (rd t382 0), .int .i64 (rd t382 1), .int .i64 0, .int .i64 0, .int .i64 0, .int .i64 0, .slice none 0 0, .slice none 0 0]) ?_ 7 _ rfl; (with_reducible repeat (first | refine blk_drewN ?_ _ | refine blk_drew ?_ | refine blk_alloc ?_ _)); refine blk_put (cs := #[.int .i64 (rd t382 0), .int .i64 (rd t382 1), .int .i64 0, .int .i64 0, .int .i64 0, .int .i64 0, .slice none 0 0, .slice none 0 0]) ?_ 6 _ rfl; (with_reducible repeat (first | refine blk_drewN ?_ _ | refine blk_drew ?_ | refine blk_alloc ?_ _)); refine blk_put (cs := #[.int .i64 (rd t382 0), .int .i64 (rd t382 1), .int .i64 0, .int .i64 0, .int .i64 0, .int .i64 0, .slice none 0 0, .slice none 0 0]) ?_ 5 _ rfl; (with_reducible repeat (first | refine blk_drewN ?_ _ | refine blk_drew ?_ | refine blk_alloc ?_ _)); refine blk_put (cs := #[.int .i64 (rd t382 0), .int .i64 (rd t382 1), .int .i64 0, .int .i64 0, .int .i64 0, .int .i64 0, .slice none 0 0, .slice none 0 0]) ?_ 4 _ rfl; (with_reducible repeat (first | refine blk_drewN ?_ _ | refine blk_drew ?_ | refine blk_alloc ?_ _)); refine blk_put (cs := #[.int .i64 (rd t382 0), .int .i64 (rd t382 1), .int .i64 0, .int .i64 0, .int .i64 0, .int .i64 0, .slice none 0 0, .slice none 0 0]) ?_ 3 _ rfl; (with_reducible repeat (first | refine blk_drewN ?_ _ | refine blk_drew ?_ | refine blk_alloc ?_ _)); refine blk_put (cs := #[.int .i64 (rd t382 0), .int .i64 (rd t382 1), .int .i64 0, .int .i64 0, .int .i64 0, .int .i64 0, .slice none 0 0, .slice none 0 0]) ?_ 2 _ rfl; (with_reducible repeat (first | refine blk_drewN ?_ _ | refine blk_drew ?_ | refine blk_alloc ?_ _)); refine blk_put (cs := #[.int .i64 (rd t382 0), .int .i64 0, .int .i64 0, .int .i64 0, .int .i64 0, .int .i64 0, .slice none 0 0, .slice none 0 0]) ?_ 1 _ rfl; (with_reducible repeat (first | refine blk_drewN ?_ _ | refine blk_drew ?_ | refine blk_alloc ?_ _)); refine blk_put (cs := #[.int .i64 0, .int .i64 0, .int .i64 0, .int .i64 0, .int .i64 0, .int .i64 0, .slice none 0 0, .slice none 0 0]) ?_ 0 _ rfl; (with_reducible repeat (first | refine blk_drewN ?_ _ | refine blk_drew ?_ | refine blk_alloc ?_ _)); exact BK388.out) hb); have n4_ := Aside0.mk (below_step bS hb); clear HO380; clear HO385; clear BK374; clear BK388; clear HB; have HO380 := n0_; have HO385 := n1_; have BK374 := n2_; have BK388 := n3_; have HB := n4_; clear n0_ n1_ n2_ n3_ n4_; (try clear hb); (try clear hb2); (try clear hk); (try clear hi); have hnb38 := NB388_374.out; have hnc38 := NB374_388.out; have hcz39_0 : w37.cell? ⟨gb388, 0, none⟩ = some (.int .i64 (rd t382 0)) := (blk_cell BK388.out 0).trans rfl; have hcz39_1 : w37.cell? ⟨gb388, 1, none⟩ = some (.int .i64 (rd t382 1)) := (blk_cell BK388.out 1).trans rfl; have hcz39_2 : w37.cell? ⟨gb388, 2, none⟩ = some (.int .i64 0) := (blk_cell BK388.out 2).trans rfl; have hcz39_3 : w37.cell? ⟨gb388, 3, none⟩ = some (.int .i64 0) := (blk_cell BK388.out 3).trans rfl; have hcz39_4 : w37.cell? ⟨gb388, 4, none⟩ = some (.int .i64 0) := (blk_cell BK388.out 4).trans rfl; have hcz39_5 : w37.cell? ⟨gb388, 5, none⟩ = some (.int .i64 0) := (blk_cell BK388.out 5).trans rfl; have hcz39_6 : w37.cell? ⟨gb388, 6, none⟩ = some (.slice none 0 0) := (blk_cell BK388.out 6).trans rfl; have hcz39_7 : w37.cell? ⟨gb388, 7, none⟩ = some (.slice none 0 0) := (blk_cell BK388.out 7).trans rfl; have hfz39_0 := blk_frozen BK388.out 0; have hfz39_1 := blk_frozen BK388.out 1; have hfz39_2 := blk_frozen BK388.out 2; have hfz39_3 := blk_frozen BK388.out 3; have hfz39_4 := blk_frozen BK388.out 4; have hfz39_5 := blk_frozen BK388.out 5; have hfz39_6 := blk_frozen BK388.out 6; have hfz39_7 := blk_frozen BK388.out 7; have p392 : 0 ≤ (2 : Int) := (by omega); have q392 : 2 < (t377.length : Int) := of_decide_eq_true aA; obtain ⟨ad392, e392, hx392_0⟩ := Kd.at_string (Kd.R_reads' HO380.out).2.2 2 p392 q392; obtain rfl : ad381 = ad392 := (by injection e392); (try simp only [show (2 : Int).toNat = 2 from rfl, Nat.reduceMul, Nat.reduceEqDiff, Go.Addr.add, ↓reduceIte] at hx392_0); have qi392 : (2 < t377.length) = True := eq_true (by omega); (try rw [show ((2 : Int)).toNat = 2 from rfl] at hx392_0); have hn392_0 : ad381.block ≠ gb388 := Kd.own_blk (Kd.R_ne HO380.out BK388.out (by decide)); replace hx392_0 := (cell_far (p := ⟨gb388, 2, none⟩) (by first | (rw [add_block]; exact hn392_0) | (show (Addr.add _ _).block ≠ _; rw [add_block]; exact hn392_0) | exact hn392_0) (.int .i64 t390)).trans hx392_0; clear hn392_0; replace p392 := eq_true p392; replace q392 := eq_true q392) | ((with_reducible refine gate_callee (f := 41) rfl ?_); refine goesL_ (some 58) rfl rfl Try.func41 (by kernel_rfl) rfl #[.string (rdOf ByteArray.empty t377 2)] rfl eA ?_; (with_reducible refine (impl_ReadRest.calls k (rdOf ByteArray.empty t377 2) t393 t394 t395 t396 _ A14.out).mono ?_); rintro e w40 ⟨rfl, hb⟩; refine ⟨_, rfl, ?_⟩; have n0_ := Aside0.mk (Kd.R_below (by (with_reducible repeat (first | apply Kd.R_alloc | apply Kd.R_drewN | apply Kd.R_drew)); exact (Kd.R_mono (Kd.R_far (p := ⟨gb388, 2, none⟩) (Kd.R_types HO380.out BK388.out (by decide)) (fun _ hk => hk.2) (.int .i64 t390)) (fun _ h_ => h_.1))) hb); have n1_ := Aside0.mk (Kd.R_below (by (with_reducible repeat (first | apply Kd.R_alloc | apply Kd.R_drewN | apply Kd.R_drew)); exact (Kd.R_mono (Kd.R_far (p := ⟨gb388, 2, none⟩) (Kd.R_types HO385.out BK388.out (by decide)) (fun _ hk => hk.2) (.int .i64 t390)) (fun _ h_ => h_.1))) hb); have n2_ := Aside0.mk (blk_below (g := gb374) (o := .cells #[.int .i64 0, .int .i64 0, .int .i64 0, .int .i64 0, .int .i64 0, .int .i64 0, .slice none 0 0, .slice none 0 0] 52 (0, 0)) (by (with_reducible repeat (first | refine blk_drewN ?_ _ | refine blk_drew ?_ | refine blk_alloc ?_ _)); refine blk_far ?_ NB374_388.out _; (with_reducible repeat (first | refine blk_drewN ?_ _ | refine blk_drew ?_ | refine blk_alloc ?_ _)); exact BK374.out) hb); have n3_ := Aside0.mk (blk_below (g := gb388) (o := .cells #[.int .i64 (rd t382 0), .int .i64 (rd t382 1), .int .i64 t390, .int .i64 0, .int .i64 0, .int .i64 0, .slice none 0 0, .slice none 0 0] 52 (0, 0)) (by (with_reducible repeat (first | refine blk_drewN ?_ _ | refine blk_drew ?_ | refine blk_alloc ?_ _)); refine blk_put (cs := #[.int .i64 (rd t382 0), .int .i64 (rd t382 1), .int .i64 0, .int .i64 0, .int .i64 0, .int .i64 0, .slice none 0 0, .slice none 0 0]) ?_ 2 _ rfl; (with_reducible repeat (first | refine blk_drewN ?_ _ | refine blk_drew ?_ | refine blk_alloc ?_ _)); exact BK388.out) hb); have n4_ := Aside0.mk (below_step bS hb); clear HO380; clear HO385; clear BK374; clear BK388; clear HB; have HO380 := n0_; have HO385 := n1_; have BK374 := n2_; have BK388 := n3_; have HB := n4_; clear n0_ n1_ n2_ n3_ n4_; (try clear hb); (try clear hb2); (try clear hk); (try clear hi); have hcz41_0 : w40.cell? ⟨gb388, 0, none⟩ = some (.int .i64 (rd t382 0)) := (blk_cell BK388.out 0).trans rfl; have hcz41_1 : w40.cell? ⟨gb388, 1, none⟩ = some (.int .i64 (rd t382 1)) := (blk_cell BK388.out 1).trans rfl; have hcz41_2 : w40.cell? ⟨gb388, 2, none⟩ = some (.int .i64 t390) := (blk_cell BK388.out 2).trans rfl; have hcz41_3 : w40.cell? ⟨gb388, 3, none⟩ = some (.int .i64 0) := (blk_cell BK388.out 3).trans rfl; have hcz41_4 : w40.cell? ⟨gb388, 4, none⟩ = some (.int .i64 0) := (blk_cell BK388.out 4).trans rfl; have hcz41_5 : w40.cell? ⟨gb388, 5, none⟩ = some (.int .i64 0) := (blk_cell BK388.out 5).trans rfl; have hcz41_6 : w40.cell? ⟨gb388, 6, none⟩ = some (.slice none 0 0) := (blk_cell BK388.out 6).trans rfl; have hcz41_7 : w40.cell? ⟨gb388, 7, none⟩ = some (.slice none 0 0) := (blk_cell BK388.out 7).trans rfl; have hfz41_0 := blk_frozen BK388.out 0; have hfz41_1 := blk_frozen BK388.out 1; have hfz41_2 := blk_frozen BK388.out 2; have hfz41_3 := blk_frozen BK388.out 3; have hfz41_4 := blk_frozen BK388.out 4; have hfz41_5 := blk_frozen BK388.out 5; have hfz41_6 := blk_frozen BK388.out 6; have hfz41_7 := blk_frozen BK388.out 7; have p397 : 0 ≤ (3 : Int) := (by omega); have q397 : 3 < (t377.length : Int) := of_decide_eq_true aA; obtain ⟨ad397, e397, hx397_0⟩ := Kd.at_string (Kd.R_reads' HO380.out).2.2 3 p397 q397; obtain rfl : ad381 = ad397 := (by injection e397); (try simp only [show (3 : Int).toNat = 3 from rfl, Nat.reduceMul, Nat.reduceEqDiff, Go.Addr.add, ↓reduceIte] at hx397_0); have qi397 : (3 < t377.length) = True := eq_true (by omega); (try rw [show ((3 : Int)).toNat = 3 from rfl] at hx397_0); have hn397_0 : ad381.block ≠ gb388 := Kd.own_blk (Kd.R_ne HO380.out BK388.out (by decide)); have hn397_1 : ad381.block ≠ gb388 := Kd.own_blk (Kd.R_ne HO380.out BK388.out (by decide)); have hn397_2 : ad381.block ≠ gb388 := Kd.own_blk (Kd.R_ne HO380.out BK388.out (by decide)); replace hx397_0 := (cell_far (p := ⟨gb388, 3, none⟩) (by first | (rw [add_block]; exact hn397_0) | (show (Addr.add _ _).block ≠ _; rw [add_block]; exact hn397_0) | exact hn397_0) (.int .i64 t393)).trans hx397_0; replace hx397_0 := (cell_far (p := ⟨gb388, 4, none⟩) (by first | (rw [add_block]; exact hn397_1) | (show (Addr.add _ _).block ≠ _; rw [add_block]; exact hn397_1) | exact hn397_1) (.int .i64 t394)).trans hx397_0; replace hx397_0 := (cell_far (p := ⟨gb388, 5, none⟩) (by first | (rw [add_block]; exact hn397_2) | (show (Addr.add _ _).block ≠ _; rw [add_block]; exact hn397_2) | exact hn397_2) (.int .i64 t395)).trans hx397_0; clear hn397_0; clear hn397_1; clear hn397_2; replace p397 := eq_true p397; replace q397 := eq_true q397) | ((with_reducible refine gate_callee (f := 92) rfl ?_); refine goesL_ (some 66) rfl rfl Try.func92 (by kernel_rfl) rfl #[.string (rdOf ByteArray.empty t377 3)] rfl eA ?_; (with_reducible refine (impl_ReadNums.calls k (rdOf ByteArray.empty t377 3) t398 t399 _ A16.out).mono ?_); rintro e w42 ⟨v400, rfl, ho0, hb⟩; refine ⟨_, rfl, ?_⟩; have n0_ := Aside0.mk (Kd.R_below (by (with_reducible repeat (first | apply Kd.R_alloc | apply Kd.R_drewN | apply Kd.R_drew)); exact (Kd.R_mono (Kd.R_far (p := ⟨gb388, 5, none⟩) (Kd.R_far (p := ⟨gb388, 4, none⟩) (Kd.R_far (p := ⟨gb388, 3, none⟩) (Kd.R_types HO380.out BK388.out (by decide)) (fun _ hk => hk.2) (.int .i64 t393)) (fun _ hk => hk.2) (.int .i64 t394)) (fun _ hk => hk.2) (.int .i64 t395)) (fun _ h_ => h_.1))) hb); have n1_ := Aside0.mk (Kd.R_elder' (by (with_reducible repeat (first | apply Kd.R_alloc | apply Kd.R_drewN | apply Kd.R_drew)); exact (Kd.R_mono (Kd.R_far (p := ⟨gb388, 5, none⟩) (Kd.R_far (p := ⟨gb388, 4, none⟩) (Kd.R_far (p := ⟨gb388, 3, none⟩) (Kd.R_types HO385.out BK388.out (by decide)) (fun _ hk => hk.2) (.int .i64 t393)) (fun _ hk => hk.2) (.int .i64 t394)) (fun _ hk => hk.2) (.int .i64 t395)) (fun _ h_ => h_.1))) (Kd.R_base ho0) hb); have n2_ := Aside0.mk (Kd.R_lower (Kd.R_new' ho0 (Kd.R_lt (by (with_reducible repeat (first | apply Kd.R_alloc | apply Kd.R_drewN | apply Kd.R_drew)); exact (Kd.R_mono (Kd.R_far (p := ⟨gb388, 5, none⟩) (Kd.R_far (p := ⟨gb388, 4, none⟩) (Kd.R_far (p := ⟨gb388, 3, none⟩) (Kd.R_types HO385.out BK388.out (by decide)) (fun _ hk => hk.2) (.int .i64 t393)) (fun _ hk => hk.2) (.int .i64 t394)) (fun _ hk => hk.2) (.int .i64 t395)) (fun _ h_ => h_.1))))) (below_size bS)); have n3_ := Aside0.mk (blk_below (g := gb374) (o := .cells #[.int .i64 0, .int .i64 0, .int .i64 0, .int .i64 0, .int .i64 0, .int .i64 0, .slice none 0 0, .slice none 0 0] 52 (0, 0)) (by (with_reducible repeat (first | refine blk_drewN ?_ _ | refine blk_drew ?_ | refine blk_alloc ?_ _)); refine blk_far ?_ NB374_388.out _; (with_reducible repeat (first | refine blk_drewN ?_ _ | refine blk_drew ?_ | refine blk_alloc ?_ _)); refine blk_far ?_ NB374_388.out _; (with_reducible repeat (first | refine blk_drewN ?_ _ | refine blk_drew ?_ | refine blk_alloc ?_ _)); refine blk_far ?_ NB374_388.out _; (with_reducible repeat (first | refine blk_drewN ?_ _ | refine blk_drew ?_ | refine blk_alloc ?_ _)); exact BK374.out) hb); have n4_ := Aside0.mk (blk_below (g := gb388) (o := .cells #[.int .i64 (rd t382 0), .int .i64 (rd t382 1), .int .i64 t390, .int .i64 t393, .int .i64 t394, .int .i64 t395, .slice none 0 0, .slice none 0 0] 52 (0, 0)) (by (with_reducible repeat (first | refine blk_drewN ?_ _ | refine blk_drew ?_ | refine blk_alloc ?_ _)); refine blk_put (cs := #[.int .i64 (rd t382 0), .int .i64 (rd t382 1), .int .i64 t390, .int .i64 t393, .int .i64 t394, .int .i64 0, .slice none 0 0, .slice none 0 0]) ?_ 5 _ rfl; (with_reducible repeat (first | refine blk_drewN ?_ _ | refine blk_drew ?_ | refine blk_alloc ?_ _)); refine blk_put (cs := #[.int .i64 (rd t382 0), .int .i64 (rd t382 1), .int .i64 t390, .int .i64 t393, .int .i64 0, .int .i64 0, .slice none 0 0, .slice none 0 0]) ?_ 4 _ rfl; (with_reducible repeat (first | refine blk_drewN ?_ _ | refine blk_drew ?_ | refine blk_alloc ?_ _)); refine blk_put (cs := #[.int .i64 (rd t382 0), .int .i64 (rd t382 1), .int .i64 t390, .int .i64 0, .int .i64 0, .int .i64 0, .slice none 0 0, .slice none 0 0]) ?_ 3 _ rfl; (with_reducible repeat (first | refine blk_drewN ?_ _ | refine blk_drew ?_ | refine blk_alloc ?_ _)); exact BK388.out) hb); have n5_ := Aside0.mk (below_step bS hb); clear HO380; clear HO385; clear BK374; clear BK388; clear HB; have HO380 := n0_; have HO385 := n1_; have HO401 := n2_; have BK374 := n3_; have BK388 := n4_; have HB := n5_; clear n0_ n1_ n2_ n3_ n4_ n5_; (try clear hb); (try clear hb2); (try clear hk); (try clear hi); (try clear ho0); obtain ⟨Ao43, co43, eo43⟩ := Kd.R_slice HO401.out; subst eo43; have hcz44_0 : w42.cell? ⟨gb388, 0, none⟩ = some (.int .i64 (rd t382 0)) := (blk_cell BK388.out 0).trans rfl; have hcz44_1 : w42.cell? ⟨gb388, 1, none⟩ = some (.int .i64 (rd t382 1)) := (blk_cell BK388.out 1).trans rfl; have hcz44_2 : w42.cell? ⟨gb388, 2, none⟩ = some (.int .i64 t390) := (blk_cell BK388.out 2).trans rfl; have hcz44_3 : w42.cell? ⟨gb388, 3, none⟩ = some (.int .i64 t393) := (blk_cell BK388.out 3).trans rfl; have hcz44_4 : w42.cell? ⟨gb388, 4, none⟩ = some (.int .i64 t394) := (blk_cell BK388.out 4).trans rfl; have hcz44_5 : w42.cell? ⟨gb388, 5, none⟩ = some (.int .i64 t395) := (blk_cell BK388.out 5).trans rfl; have hcz44_6 : w42.cell? ⟨gb388, 6, none⟩ = some (.slice none 0 0) := (blk_cell BK388.out 6).trans rfl; have hcz44_7 : w42.cell? ⟨gb388, 7, none⟩ = some (.slice none 0 0) := (blk_cell BK388.out 7).trans rfl; have hfz44_0 := blk_frozen BK388.out 0; have hfz44_1 := blk_frozen BK388.out 1; have hfz44_2 := blk_frozen BK388.out 2; have hfz44_3 := blk_frozen BK388.out 3; have hfz44_4 := blk_frozen BK388.out 4; have hfz44_5 := blk_frozen BK388.out 5; have hfz44_6 := blk_frozen BK388.out 6; have hfz44_7 := blk_frozen BK388.out 7; have p402 : 0 ≤ (4 : Int) := (by omega); have q402 : 4 < (t377.length : Int) := of_decide_eq_true aA; obtain ⟨ad402, e402, hx402_0⟩ := Kd.at_string (Kd.R_reads' HO380.out).2.2 4 p402 q402; obtain rfl : ad381 = ad402 := (by injection e402); (try simp only [show (4 : Int).toNat = 4 from rfl, Nat.reduceMul, Nat.reduceEqDiff, Go.Addr.add, ↓reduceIte] at hx402_0); have qi402 : (4 < t377.length) = True := eq_true (by omega); (try rw [show ((4 : Int)).toNat = 4 from rfl] at hx402_0); have hn402_0 : ad381.block ≠ gb388 := Kd.own_blk (Kd.R_ne HO380.out BK388.out (by decide)); replace hx402_0 := (cell_far (p := ⟨gb388, 6, none⟩) (by first | (rw [add_block]; exact hn402_0) | (show (Addr.add _ _).block ≠ _; rw [add_block]; exact hn402_0) | exact hn402_0) (.slice Ao43 t398.length co43)).trans hx402_0; clear hn402_0; replace p402 := eq_true p402; replace q402 := eq_true q402) | ((with_reducible refine gate_callee (f := 92) rfl ?_); refine goesL_ (some 74) rfl rfl Try.func92 (by kernel_rfl) rfl #[.string (rdOf ByteArray.empty t377 4)] rfl eA ?_; (with_reducible refine (impl_ReadNums.calls k (rdOf ByteArray.empty t377 4) t403 t404 _ A18.out).mono ?_); rintro e w45 ⟨v405, rfl, ho0, hb⟩; refine ⟨_, rfl, ?_⟩; have n0_ := Aside0.mk (Kd.R_below (by (with_reducible repeat (first | apply Kd.R_alloc | apply Kd.R_drewN | apply Kd.R_drew)); exact (Kd.R_mono (Kd.R_far (p := ⟨gb388, 6, none⟩) (Kd.R_types HO380.out BK388.out (by decide)) (fun _ hk => hk.2) (.slice Ao43 t398.length co43)) (fun _ h_ => h_.1))) hb); have n1_ := Aside0.mk (Kd.R_elder' (by (with_reducible repeat (first | apply Kd.R_alloc | apply Kd.R_drewN | apply Kd.R_drew)); exact (Kd.R_mono (Kd.R_far (p := ⟨gb388, 6, none⟩) (Kd.R_types HO385.out BK388.out (by decide)) (fun _ hk => hk.2) (.slice Ao43 t398.length co43)) (fun _ h_ => h_.1))) (Kd.R_base ho0) hb); have n2_ := Aside0.mk (Kd.R_elder' (by (with_reducible repeat (first | apply Kd.R_alloc | apply Kd.R_drewN | apply Kd.R_drew)); exact (Kd.R_mono (Kd.R_far (p := ⟨gb388, 6, none⟩) (Kd.R_types HO401.out BK388.out (by decide)) (fun _ hk => hk.2) (.slice Ao43 t398.length co43)) (fun _ h_ => h_.1))) (Kd.R_base ho0) hb); have n3_ := Aside0.mk (Kd.R_lower (Kd.R_new' (Kd.R_new' ho0 (Kd.R_lt (by (with_reducible repeat (first | apply Kd.R_alloc | apply Kd.R_drewN | apply Kd.R_drew)); exact (Kd.R_mono (Kd.R_far (p := ⟨gb388, 6, none⟩) (Kd.R_types HO385.out BK388.out (by decide)) (fun _ hk => hk.2) (.slice Ao43 t398.length co43)) (fun _ h_ => h_.1))))) (Kd.R_lt (by (with_reducible repeat (first | apply Kd.R_alloc | apply Kd.R_drewN | apply Kd.R_drew)); exact (Kd.R_mono (Kd.R_far (p := ⟨gb388, 6, none⟩) (Kd.R_types HO401.out BK388.out (by decide)) (fun _ hk => hk.2) (.slice Ao43 t398.length co43)) (fun _ h_ => h_.1))))) (below_size bS)); have n4_ := Aside0.mk (blk_below (g := gb374) (o := .cells #[.int .i64 0, .int .i64 0, .int .i64 0, .int .i64 0, .int .i64 0, .int .i64 0, .slice none 0 0, .slice none 0 0] 52 (0, 0)) (by (with_reducible repeat (first | refine blk_drewN ?_ _ | refine blk_drew ?_ | refine blk_alloc ?_ _)); refine blk_far ?_ NB374_388.out _; (with_reducible repeat (first | refine blk_drewN ?_ _ | refine blk_drew ?_ | refine blk_alloc ?_ _)); exact BK374.out) hb); have n5_ := Aside0.mk (blk_below (g := gb388) (o := .cells #[.int .i64 (rd t382 0), .int .i64 (rd t382 1), .int .i64 t390, .int .i64 t393, .int .i64 t394, .int .i64 t395, .slice Ao43 t398.length co43, .slice none 0 0] 52 (0, 0)) (by (with_reducible repeat (first | refine blk_drewN ?_ _ | refine blk_drew ?_ | refine blk_alloc ?_ _)); refine blk_put (cs := #[.int .i64 (rd t382 0), .int .i64 (rd t382 1), .int .i64 t390, .int .i64 t393, .int .i64 t394, .int .i64 t395, .slice none 0 0, .slice none 0 0]) ?_ 6 _ rfl; (with_reducible repeat (first | refine blk_drewN ?_ _ | refine blk_drew ?_ | refine blk_alloc ?_ _)); exact BK388.out) hb); have n6_ := Aside0.mk (below_step bS hb); clear HO380; clear HO385; clear HO401; clear BK374; clear BK388; clear HB; have HO380 := n0_; have HO385 := n1_; have HO401 := n2_; have HO406 := n3_; have BK374 := n4_; have BK388 := n5_; have HB := n6_; clear n0_ n1_ n2_ n3_ n4_ n5_ n6_; (try clear hb); (try clear hb2); (try clear hk); (try clear hi); (try clear ho0); obtain ⟨Ao46, co46, eo46⟩ := Kd.R_slice HO406.out; subst eo46; have hcz47_0 : w45.cell? ⟨gb388, 0, none⟩ = some (.int .i64 (rd t382 0)) := (blk_cell BK388.out 0).trans rfl; have hcz47_1 : w45.cell? ⟨gb388, 1, none⟩ = some (.int .i64 (rd t382 1)) := (blk_cell BK388.out 1).trans rfl; have hcz47_2 : w45.cell? ⟨gb388, 2, none⟩ = some (.int .i64 t390) := (blk_cell BK388.out 2).trans rfl; have hcz47_3 : w45.cell? ⟨gb388, 3, none⟩ = some (.int .i64 t393) := (blk_cell BK388.out 3).trans rfl; have hcz47_4 : w45.cell? ⟨gb388, 4, none⟩ = some (.int .i64 t394) := (blk_cell BK388.out 4).trans rfl; have hcz47_5 : w45.cell? ⟨gb388, 5, none⟩ = some (.int .i64 t395) := (blk_cell BK388.out 5).trans rfl; have hcz47_6 : w45.cell? ⟨gb388, 6, none⟩ = some (.slice Ao43 t398.length co43) := (blk_cell BK388.out 6).trans rfl; have hcz47_7 : w45.cell? ⟨gb388, 7, none⟩ = some (.slice none 0 0) := (blk_cell BK388.out 7).trans rfl; have hfz47_0 := blk_frozen BK388.out 0; have hfz47_1 := blk_frozen BK388.out 1; have hfz47_2 := blk_frozen BK388.out 2; have hfz47_3 := blk_frozen BK388.out 3; have hfz47_4 := blk_frozen BK388.out 4; have hfz47_5 := blk_frozen BK388.out 5; have hfz47_6 := blk_frozen BK388.out 6; have hfz47_7 := blk_frozen BK388.out 7) | ((with_reducible refine gate_callee (f := 24) rfl ?_); refine goesL_ (some 80) rfl rfl Try.func24 (by kernel_rfl) rfl #[.agg #[.int .i64 (rd t382 0), .int .i64 (rd t382 1), .int .i64 t390, .int .i64 t393, .int .i64 t394, .int .i64 t395, .slice Ao43 t398.length co43, .slice Ao46 t403.length co46], .int .i64 a1] rfl eA ?_; (with_reducible refine (impl_ShowTicket.calls k (rd t382 0) (rd t382 1) t390 t393 t394 t395 _ _ t398 _ _ t403 a1 t407 _ ?side1 ?side2 ?side3 ?side4 A19.out).mono ?_); (case side1 => refine (Kd.R_reads' (e := 3) (base := w.heap.size) (ok := fun k_ => ((True ∧ some k_ ≠ (.slice (some ad386) t382.length co26 : Value).ownBlock) ∧ some k_ ≠ (.slice Ao46 t403.length co46 : Value).ownBlock)) (n := t398.length) (c := co43) ?_).2.2; exact (by (with_reducible repeat (first | apply Kd.R_alloc | apply Kd.R_drewN | apply Kd.R_drew)); exact (Kd.R_mono (Kd.R_far (p := ⟨gb388, 7, none⟩) (Kd.R_types HO401.out BK388.out (by decide)) (fun _ hk => hk.2) (.slice Ao46 t403.length co46)) (fun _ h_ => h_.1)))); (case side2 => exact (Kd.R_reads' HO401.out).2.1); (case side3 => refine (Kd.R_reads' (e := 3) (base := w.heap.size) (ok := fun k_ => ((True ∧ some k_ ≠ (.slice (some ad386) t382.length co26 : Value).ownBlock) ∧ some k_ ≠ (.slice Ao43 t398.length co43 : Value).ownBlock)) (n := t403.length) (c := co46) ?_).2.2; exact (by (with_reducible repeat (first | apply Kd.R_alloc | apply Kd.R_drewN | apply Kd.R_drew)); exact (Kd.R_mono (Kd.R_far (p := ⟨gb388, 7, none⟩) (Kd.R_types HO406.out BK388.out (by decide)) (fun _ hk => hk.2) (.slice Ao46 t403.length co46)) (fun _ h_ => h_.1)))); (case side4 => exact (Kd.R_reads' HO406.out).2.1); rintro e w48 ⟨rfl, hb⟩; refine ⟨_, rfl, ?_⟩; have n0_ := Aside0.mk (Kd.R_below (by (with_reducible repeat (first | apply Kd.R_alloc | apply Kd.R_drewN | apply Kd.R_drew)); exact (Kd.R_mono (Kd.R_far (p := ⟨gb388, 7, none⟩) (Kd.R_types HO380.out BK388.out (by decide)) (fun _ hk => hk.2) (.slice Ao46 t403.length co46)) (fun _ h_ => h_.1))) hb); have n1_ := Aside0.mk (Kd.R_below (by (with_reducible repeat (first | apply Kd.R_alloc | apply Kd.R_drewN | apply Kd.R_drew)); exact (Kd.R_mono (Kd.R_far (p := ⟨gb388, 7, none⟩) (Kd.R_types HO385.out BK388.out (by decide)) (fun _ hk => hk.2) (.slice Ao46 t403.length co46)) (fun _ h_ => h_.1))) hb); have n2_ := Aside0.mk (Kd.R_below (by (with_reducible repeat (first | apply Kd.R_alloc | apply Kd.R_drewN | apply Kd.R_drew)); exact (Kd.R_mono (Kd.R_far (p := ⟨gb388, 7, none⟩) (Kd.R_types HO401.out BK388.out (by decide)) (fun _ hk => hk.2) (.slice Ao46 t403.length co46)) (fun _ h_ => h_.1))) hb); have n3_ := Aside0.mk (Kd.R_below (by (with_reducible repeat (first | apply Kd.R_alloc | apply Kd.R_drewN | apply Kd.R_drew)); exact (Kd.R_mono (Kd.R_far (p := ⟨gb388, 7, none⟩) (Kd.R_types HO406.out BK388.out (by decide)) (fun _ hk => hk.2) (.slice Ao46 t403.length co46)) (fun _ h_ => h_.1))) hb); have n4_ := Aside0.mk (blk_below (g := gb374) (o := .cells #[.int .i64 0, .int .i64 0, .int .i64 0, .int .i64 0, .int .i64 0, .int .i64 0, .slice none 0 0, .slice none 0 0] 52 (0, 0)) (by (with_reducible repeat (first | refine blk_drewN ?_ _ | refine blk_drew ?_ | refine blk_alloc ?_ _)); refine blk_far ?_ NB374_388.out _; (with_reducible repeat (first | refine blk_drewN ?_ _ | refine blk_drew ?_ | refine blk_alloc ?_ _)); exact BK374.out) hb); have n5_ := Aside0.mk (blk_below (g := gb388) (o := .cells #[.int .i64 (rd t382 0), .int .i64 (rd t382 1), .int .i64 t390, .int .i64 t393, .int .i64 t394, .int .i64 t395, .slice Ao43 t398.length co43, .slice Ao46 t403.length co46] 52 (0, 0)) (by (with_reducible repeat (first | refine blk_drewN ?_ _ | refine blk_drew ?_ | refine blk_alloc ?_ _)); refine blk_put (cs := #[.int .i64 (rd t382 0), .int .i64 (rd t382 1), .int .i64 t390, .int .i64 t393, .int .i64 t394, .int .i64 t395, .slice Ao43 t398.length co43, .slice none 0 0]) ?_ 7 _ rfl; (with_reducible repeat (first | refine blk_drewN ?_ _ | refine blk_drew ?_ | refine blk_alloc ?_ _)); exact BK388.out) hb); have n6_ := Aside0.mk (below_step bS hb); clear HO380; clear HO385; clear HO401; clear HO406; clear BK374; clear BK388; clear HB; have HO380 := n0_; have HO385 := n1_; have HO401 := n2_; have HO406 := n3_; have BK374 := n4_; have BK388 := n5_; have HB := n6_; clear n0_ n1_ n2_ n3_ n4_ n5_ n6_; (try clear hb); (try clear hb2); (try clear hk); (try clear hi); have hcz49_0 : w48.cell? ⟨gb388, 0, none⟩ = some (.int .i64 (rd t382 0)) := (blk_cell BK388.out 0).trans rfl; have hcz49_1 : w48.cell? ⟨gb388, 1, none⟩ = some (.int .i64 (rd t382 1)) := (blk_cell BK388.out 1).trans rfl; have hcz49_2 : w48.cell? ⟨gb388, 2, none⟩ = some (.int .i64 t390) := (blk_cell BK388.out 2).trans rfl; have hcz49_3 : w48.cell? ⟨gb388, 3, none⟩ = some (.int .i64 t393) := (blk_cell BK388.out 3).trans rfl; have hcz49_4 : w48.cell? ⟨gb388, 4, none⟩ = some (.int .i64 t394) := (blk_cell BK388.out 4).trans rfl; have hcz49_5 : w48.cell? ⟨gb388, 5, none⟩ = some (.int .i64 t395) := (blk_cell BK388.out 5).trans rfl; have hcz49_6 : w48.cell? ⟨gb388, 6, none⟩ = some (.slice Ao43 t398.length co43) := (blk_cell BK388.out 6).trans rfl; have hcz49_7 : w48.cell? ⟨gb388, 7, none⟩ = some (.slice Ao46 t403.length co46) := (blk_cell BK388.out 7).trans rfl; have hfz49_0 := blk_frozen BK388.out 0; have hfz49_1 := blk_frozen BK388.out 1; have hfz49_2 := blk_frozen BK388.out 2; have hfz49_3 := blk_frozen BK388.out 3; have hfz49_4 := blk_frozen BK388.out 4; have hfz49_5 := blk_frozen BK388.out 5; have hfz49_6 := blk_frozen BK388.out 6; have hfz49_7 := blk_frozen BK388.out 7; have hcz50_0 : w48.cell? ⟨gb374, 0, none⟩ = some (.int .i64 0) := (blk_cell BK374.out 0).trans rfl; have hcz50_1 : w48.cell? ⟨gb374, 1, none⟩ = some (.int .i64 0) := (blk_cell BK374.out 1).trans rfl; have hcz50_2 : w48.cell? ⟨gb374, 2, none⟩ = some (.int .i64 0) := (blk_cell BK374.out 2).trans rfl; have hcz50_3 : w48.cell? ⟨gb374, 3, none⟩ = some (.int .i64 0) := (blk_cell BK374.out 3).trans rfl; have hcz50_4 : w48.cell? ⟨gb374, 4, none⟩ = some (.int .i64 0) := (blk_cell BK374.out 4).trans rfl; have hcz50_5 : w48.cell? ⟨gb374, 5, none⟩ = some (.int .i64 0) := (blk_cell BK374.out 5).trans rfl; have hcz50_6 : w48.cell? ⟨gb374, 6, none⟩ = some (.slice none 0 0) := (blk_cell BK374.out 6).trans rfl; have hcz50_7 : w48.cell? ⟨gb374, 7, none⟩ = some (.slice none 0 0) := (blk_cell BK374.out 7).trans rfl; have hfz50_0 := blk_frozen BK374.out 0; have hfz50_1 := blk_frozen BK374.out 1; have hfz50_2 := blk_frozen BK374.out 2; have hfz50_3 := blk_frozen BK374.out 3; have hfz50_4 := blk_frozen BK374.out 4; have hfz50_5 := blk_frozen BK374.out 5; have hfz50_6 := blk_frozen BK374.out 6; have hfz50_7 := blk_frozen BK374.out 7))
           refine bodyPost_ret (results_ct rfl _ _ gb374 52 #[.int .i64 (rd t382 0), .int .i64 (rd t382 1), .int .i64 t390, .int .i64 t393, .int .i64 t394, .int .i64 t395, .slice Ao43 t398.length co43, .slice Ao46 t403.length co46] (0, 0) _ rfl (by (with_reducible repeat (first | refine blk_drewN ?_ _ | refine blk_drew ?_ | refine blk_alloc ?_ _)); refine blk_put (cs := #[.int .i64 (rd t382 0), .int .i64 (rd t382 1), .int .i64 t390, .int .i64 t393, .int .i64 t394, .int .i64 t395, .slice Ao43 t398.length co43, .slice none 0 0]) ?_ 7 _ rfl; (with_reducible repeat (first | refine blk_drewN ?_ _ | refine blk_drew ?_ | refine blk_alloc ?_ _)); refine blk_put (cs := #[.int .i64 (rd t382 0), .int .i64 (rd t382 1), .int .i64 t390, .int .i64 t393, .int .i64 t394, .int .i64 t395, .slice none 0 0, .slice none 0 0]) ?_ 6 _ rfl; (with_reducible repeat (first | refine blk_drewN ?_ _ | refine blk_drew ?_ | refine blk_alloc ?_ _)); refine blk_put (cs := #[.int .i64 (rd t382 0), .int .i64 (rd t382 1), .int .i64 t390, .int .i64 t393, .int .i64 t394, .int .i64 0, .slice none 0 0, .slice none 0 0]) ?_ 5 _ rfl; (with_reducible repeat (first | refine blk_drewN ?_ _ | refine blk_drew ?_ | refine blk_alloc ?_ _)); refine blk_put (cs := #[.int .i64 (rd t382 0), .int .i64 (rd t382 1), .int .i64 t390, .int .i64 t393, .int .i64 0, .int .i64 0, .slice none 0 0, .slice none 0 0]) ?_ 4 _ rfl; (with_reducible repeat (first | refine blk_drewN ?_ _ | refine blk_drew ?_ | refine blk_alloc ?_ _)); refine blk_put (cs := #[.int .i64 (rd t382 0), .int .i64 (rd t382 1), .int .i64 t390, .int .i64 0, .int .i64 0, .int .i64 0, .slice none 0 0, .slice none 0 0]) ?_ 3 _ rfl; (with_reducible repeat (first | refine blk_drewN ?_ _ | refine blk_drew ?_ | refine blk_alloc ?_ _)); refine blk_put (cs := #[.int .i64 (rd t382 0), .int .i64 (rd t382 1), .int .i64 0, .int .i64 0, .int .i64 0, .int .i64 0, .slice none 0 0, .slice none 0 0]) ?_ 2 _ rfl; (with_reducible repeat (first | refine blk_drewN ?_ _ | refine blk_drew ?_ | refine blk_alloc ?_ _)); refine blk_put (cs := #[.int .i64 (rd t382 0), .int .i64 0, .int .i64 0, .int .i64 0, .int .i64 0, .int .i64 0, .slice none 0 0, .slice none 0 0]) ?_ 1 _ rfl; (with_reducible repeat (first | refine blk_drewN ?_ _ | refine blk_drew ?_ | refine blk_alloc ?_ _)); refine blk_put (cs := #[.int .i64 0, .int .i64 0, .int .i64 0, .int .i64 0, .int .i64 0, .int .i64 0, .slice none 0 0, .slice none 0 0]) ?_ 0 _ rfl; (with_reducible repeat (first | refine blk_drewN ?_ _ | refine blk_drew ?_ | refine blk_alloc ?_ _)); exact BK374.out) Try.underlying52 rfl (by kernel_rfl)) rfl ?_
           exact ⟨_, _, by first | rfl | (simp [errW_none, errW_some] <;> rfl) | (simp [*, errW_none, errW_some] <;> rfl), by (with_reducible repeat (first | apply Kd.R_alloc | apply Kd.R_drewN | apply Kd.R_drew)); exact Kd.R_mono (Kd.R_far (p := ⟨gb374, 7, none⟩) (Kd.R_far (p := ⟨gb374, 6, none⟩) (Kd.R_far (p := ⟨gb374, 5, none⟩) (Kd.R_far (p := ⟨gb374, 4, none⟩) (Kd.R_far (p := ⟨gb374, 3, none⟩) (Kd.R_far (p := ⟨gb374, 2, none⟩) (Kd.R_far (p := ⟨gb374, 1, none⟩) (Kd.R_far (p := ⟨gb374, 0, none⟩) (Kd.R_types HO401.out BK374.out (by decide)) (fun _ hk => hk.2) (.int .i64 (rd t382 0))) (fun _ hk => hk.2) (.int .i64 (rd t382 1))) (fun _ hk => hk.2) (.int .i64 t390)) (fun _ hk => hk.2) (.int .i64 t393)) (fun _ hk => hk.2) (.int .i64 t394)) (fun _ hk => hk.2) (.int .i64 t395)) (fun _ hk => hk.2) (.slice Ao43 t398.length co43)) (fun _ hk => hk.2) (.slice Ao46 t403.length co46)) (fun _ hk => hk.1.2), by (with_reducible repeat (first | apply Kd.R_alloc | apply Kd.R_drewN | apply Kd.R_drew)); exact Kd.R_mono (Kd.R_far (p := ⟨gb374, 7, none⟩) (Kd.R_far (p := ⟨gb374, 6, none⟩) (Kd.R_far (p := ⟨gb374, 5, none⟩) (Kd.R_far (p := ⟨gb374, 4, none⟩) (Kd.R_far (p := ⟨gb374, 3, none⟩) (Kd.R_far (p := ⟨gb374, 2, none⟩) (Kd.R_far (p := ⟨gb374, 1, none⟩) (Kd.R_far (p := ⟨gb374, 0, none⟩) (Kd.R_types HO406.out BK374.out (by decide)) (fun _ hk => hk.2) (.int .i64 (rd t382 0))) (fun _ hk => hk.2) (.int .i64 (rd t382 1))) (fun _ hk => hk.2) (.int .i64 t390)) (fun _ hk => hk.2) (.int .i64 t393)) (fun _ hk => hk.2) (.int .i64 t394)) (fun _ hk => hk.2) (.int .i64 t395)) (fun _ hk => hk.2) (.slice Ao43 t398.length co43)) (fun _ hk => hk.2) (.slice Ao46 t403.length co46)) (fun _ hk => hk.1.2), bS⟩
          ·rw [if_neg c20] at H
           have c20b0 : (t407.toList == a0.toList) = false := beq_eq_false_iff_ne.mpr c20
           have c20b1 : (t407.toList != a0.toList) = true := bne_iff_ne.mpr c20
           simp only [Option.some.injEq, Prod.mk.injEq] at H
           obtain ⟨rfl, rfl, rfl, rfl, rfl, rfl, rfl, rfl, rfl⟩ := H
           go_enter Try.func27, Try.ntmps27
           try go_wp2_with (first | ((with_reducible refine gate_dst (N := 4) rfl ?_); refine box_event ?hg (N := 4) ?hd (cs := #[.int .i64 0, .int .i64 0, .int .i64 0, .int .i64 0, .int .i64 0, .int .i64 0, .slice none 0 0, .slice none 0 0]) (t := 52) ?hr ?_; (case hd => rfl); (case hg => rfl); (case hr => first | (go_simp; done) | (go_simp; rfl)); intro gb374 hg w51 hbox hb; have n0_ := Aside0.mk (below_step bH hb); have n1_ := Aside0.mk (hbox); have n2_ := Aside0.mk ((bZ hg : w.heap.size ≤ gb374)); have n3_ := Aside0.mk ((bZ hg : w.heap.size ≤ gb374)); clear HB; have HB := n0_; have BK374 := n1_; have GW374 := n2_; have GE374 := n3_; clear n0_ n1_ n2_ n3_; clear hb hbox hg) | ((with_reducible refine gate_callee (f := 90) rfl ?_); refine goesL_ (some 16) rfl rfl Try.func90 (by kernel_rfl) rfl #[.string a0, .int .i64 a1] rfl eA ?_; (with_reducible refine (impl_Open.calls k a0 a1 t375 t376 _ A3.out).mono ?_); rintro e w52 ⟨rfl, hb⟩; refine ⟨_, rfl, ?_⟩; have n0_ := Aside0.mk (blk_below (kB BK374.out) hb); have n1_ := Aside0.mk (below_step bS hb); clear BK374; clear HB; have BK374 := n0_; have HB := n1_; clear n0_ n1_; (try clear hb); (try clear hb2); (try clear hk); (try clear hi)) | ((with_reducible refine gate_callee (f := 91) rfl ?_); refine goesL_ (some 21) rfl rfl Try.func91 (by kernel_rfl) rfl #[.string t375] rfl eA ?_; (with_reducible refine (impl_Parts.calls k t375 t377 t378 _ A4.out).mono ?_); rintro e w53 ⟨v379, rfl, ho0, hb⟩; refine ⟨_, rfl, ?_⟩; have n0_ := Aside0.mk (Kd.R_lower ho0 (below_size bS)); have n1_ := Aside0.mk (blk_below (kB BK374.out) hb); have n2_ := Aside0.mk (below_step bS hb); clear BK374; clear HB; have HO380 := n0_; have BK374 := n1_; have HB := n2_; clear n0_ n1_ n2_; (try clear hb); (try clear hb2); (try clear hk); (try clear hi); (try clear ho0); obtain ⟨Ao54, co54, eo54⟩ := Kd.R_slice HO380.out; subst eo54; have p381 : 0 ≤ (0 : Int) := (by omega); have q381 : 0 < (t377.length : Int) := of_decide_eq_true aA; obtain ⟨ad381, e381, hx381_0⟩ := Kd.at_string (Kd.R_reads' HO380.out).2.2 0 p381 q381; cases e381; have qi381 : (0 < t377.length) = True := eq_true (by omega); (try rw [show ((0 : Int)).toNat = 0 from rfl] at hx381_0); (try rw [Addr.add_zero'] at hx381_0); replace p381 := eq_true p381; replace q381 := eq_true q381) | ((with_reducible refine gate_callee (f := 92) rfl ?_); refine goesL_ (some 32) rfl rfl Try.func92 (by kernel_rfl) rfl #[.string (rdOf ByteArray.empty t377 0)] rfl eA ?_; (with_reducible refine (impl_ReadNums.calls k (rdOf ByteArray.empty t377 0) t382 t383 _ A7.out).mono ?_); rintro e w55 ⟨v384, rfl, ho0, hb⟩; refine ⟨_, rfl, ?_⟩; have n0_ := Aside0.mk (Kd.R_below (kR HO380.out) hb); have n1_ := Aside0.mk (Kd.R_lower ho0 (below_size bS)); have n2_ := Aside0.mk (blk_below (kB BK374.out) hb); have n3_ := Aside0.mk (below_step bS hb); clear HO380; clear BK374; clear HB; have HO380 := n0_; have HO385 := n1_; have BK374 := n2_; have HB := n3_; clear n0_ n1_ n2_ n3_; (try clear hb); (try clear hb2); (try clear hk); (try clear hi); (try clear ho0); obtain ⟨Ao56, co56, eo56⟩ := Kd.R_slice HO385.out; subst eo56))
           have n0_ := Aside0.mk (Kd.R_drew HO380.out)
           have n1_ := Aside0.mk (Kd.R_drew HO385.out)
           have n2_ := Aside0.mk (blk_drew BK374.out)
           have n3_ := Aside0.mk (below_drew1 HB.out)
           clear HO380 HO385 BK374 HB
           have HO380 := n0_
           have HO385 := n1_
           have BK374 := n2_
           have HB := n3_
           clear n0_ n1_ n2_ n3_
           have p386 : 0 ≤ (0 : Int) := (by omega)
           have q386 : 0 < (t382.length : Int) := of_decide_eq_true aA
           obtain ⟨ad386, e386, hx386_0⟩ := Kd.at_int (Kd.R_reads' HO385.out).2.2 0 p386 q386
           cases e386
           have qi386 : (0 < t382.length) = True := eq_true (by omega)
           (try rw [show ((0 : Int)).toNat = 0 from rfl] at hx386_0)
           (try rw [Addr.add_zero'] at hx386_0)
           replace p386 := eq_true p386
           replace q386 := eq_true q386
           have p387 : 0 ≤ (1 : Int) := (by omega)
           have q387 : 1 < (t382.length : Int) := of_decide_eq_true aA
           obtain ⟨ad387, e387, hx387_0⟩ := Kd.at_int (Kd.R_reads' HO385.out).2.2 1 p387 q387
           obtain rfl : ad386 = ad387 := (by injection e387)
           (try simp only [show (1 : Int).toNat = 1 from rfl, Nat.reduceMul, Nat.reduceEqDiff, Go.Addr.add, ↓reduceIte] at hx387_0)
           have qi387 : (1 < t382.length) = True := eq_true (by omega)
           (try rw [show ((1 : Int)).toNat = 1 from rfl] at hx387_0)
           replace p387 := eq_true p387
           replace q387 := eq_true q387
           refine start_ (n := 9) (S := fun w' => w'.cell? ad386 = some (.int .i64 (rd t382 0)) ∧ w'.cell? ⟨ad386.block, ad386.off + 1, none⟩ = some (.int .i64 (rd t382 1))) (ds := []) #[false, false, false, false, false, false, false, false, false] (by kernel_rfl) rfl rfl ⟨hx386_0, hx387_0⟩ (fun hHeld => ?_); refine with_tabW impl_ReadTicket.tab8 impl_ReadTicket.bits8 (fun HT_ HW_ => ?_)
           generalize w55.drew = w57 at HO380 HO385 BK374 HB hx386_0 hx387_0 hHeld ⊢
           refine pure_ (i := 0) (N := some 39) (v := ?_) (a' := ?_) #[true, false, false, false, false, false, false, false, false] rfl rfl (any_of HT_.out (by kernel_rfl)) (fun _ _ _ h => h) (Or.inl ⟨by rfl, ?_⟩) ?_ ?_
           rotate_left
           ·intro w'
            go_simp
            with_reducible rfl
           rotate_left
           ·simp only [Act.put, List.setIfInBounds_toArray, List.set_cons_zero, List.set_cons_succ, i64_w, i32_w]
            rfl
           refine pure_ (i := 1) (N := some 40) (v := ?_) (a' := ?_) #[true, true, false, false, false, false, false, false, false] rfl rfl (any_of HT_.out (by kernel_rfl)) (fun _ _ _ h => h) (Or.inl ⟨by rfl, ?_⟩) ?_ ?_
           rotate_left
           ·intro w'
            go_simp
            with_reducible rfl
           rotate_left
           ·simp only [Act.put, List.setIfInBounds_toArray, List.set_cons_zero, List.set_cons_succ, i64_w, i32_w]
            rfl
           refine pure_ (i := 3) (N := some 42) (v := ?_) (a' := ?_) #[true, true, false, true, false, false, false, false, false] rfl rfl (any_of HT_.out (by kernel_rfl)) (fun _ _ _ h => h) (Or.inl ⟨by rfl, ?_⟩) ?_ ?_
           rotate_left
           ·intro w'
            go_simp
            with_reducible rfl
           rotate_left
           ·simp only [Act.put, List.setIfInBounds_toArray, List.set_cons_zero, List.set_cons_succ, i64_w, i32_w]
            rfl
           refine pure_ (i := 4) (N := some 43) (v := ?_) (a' := ?_) #[true, true, false, true, true, false, false, false, false] rfl rfl (any_of HT_.out (by kernel_rfl)) (fun _ _ _ h => h) (Or.inl ⟨by rfl, ?_⟩) ?_ ?_
           rotate_left
           ·intro w'
            go_simp
            with_reducible rfl
           rotate_left
           ·simp only [Act.put, List.setIfInBounds_toArray, List.set_cons_zero, List.set_cons_succ, i64_w, i32_w]
            rfl
           refine take_ (i := 2) (N := some 41) (v := ?_) (a' := ?_) #[true, true, true, true, true, false, false, false, false] rfl rfl (take_ofW HT_.out HW_.out (by kernel_rfl)) (fun _ _ _ h => h) (Or.inl ⟨by rfl, ?_⟩) hHeld ?_ ?_
           rotate_left
           ·rintro w' ⟨s0, s1⟩
            go_simp
            with_reducible rfl
           rotate_left
           ·simp only [Act.put, List.setIfInBounds_toArray, List.set_cons_zero, List.set_cons_succ, i64_w, i32_w]
            rfl
           refine take_ (i := 5) (N := some 44) (v := ?_) (a' := ?_) #[true, true, true, true, true, true, false, false, false] rfl rfl (take_ofW HT_.out HW_.out (by kernel_rfl)) (fun _ _ _ h => h) (Or.inl ⟨by rfl, ?_⟩) hHeld ?_ ?_
           rotate_left
           ·rintro w' ⟨s0, s1⟩
            go_simp
            with_reducible rfl
           rotate_left
           ·simp only [Act.put, List.setIfInBounds_toArray, List.set_cons_zero, List.set_cons_succ, i64_w, i32_w]
            rfl
           refine pure_ (i := 6) (N := some 45) (v := ?_) (a' := ?_) #[true, true, true, true, true, true, true, false, false] rfl rfl (any_of HT_.out (by kernel_rfl)) (fun _ _ _ h => h) (Or.inl ⟨by rfl, ?_⟩) ?_ ?_
           rotate_left
           ·intro w'
            go_simp
            with_reducible rfl
           rotate_left
           ·simp only [Act.put, List.setIfInBounds_toArray, List.set_cons_zero, List.set_cons_succ, i64_w, i32_w]
            rfl
           refine one_ (i := 7) (N := some 12) #[true, true, true, true, true, true, true, true, false] rfl rfl (one_of HT_.out (by kernel_rfl)) (by decide) (fun K hK => ?_)
           refine box_step ?hg (N := 12) ?hd (cs := #[.int .i64 0, .int .i64 0, .int .i64 0, .int .i64 0, .int .i64 0, .int .i64 0, .slice none 0 0, .slice none 0 0]) (t := 52) ?hr ?_; (case hd => rfl); (case hg => rfl); (case hr => first | (go_simp; done) | (go_simp; rfl))
           intro gb388 hg w58 hbox hb
           have HS0_ := (hb.cell (World.block_lt_of_cell? _ _ (hHeld.1))).trans (hHeld.1)
           have HS1_ := (hb.cell (World.block_lt_of_cell? _ _ (hHeld.2))).trans (hHeld.2)
           have n0_ := Aside0.mk (Kd.R_below (kR HO380.out) hb)
           have n1_ := Aside0.mk (Kd.R_below (kR HO385.out) hb)
           have n2_ := Aside0.mk (blk_below (kB BK374.out) hb)
           have n3_ := Aside0.mk (below_step bS hb)
           have n4_ := Aside0.mk (hbox)
           have n5_ := Aside0.mk ((bZ hg : w.heap.size ≤ gb388))
           have n6_ := Aside0.mk ((bZ hg : w.heap.size ≤ gb388))
           have n7_ := Aside0.mk ((nL hg BK374.out : gb374 ≠ gb388))
           have n8_ := Aside0.mk ((nG hg BK374.out : gb388 ≠ gb374))
           clear HO380 HO385 BK374 HB
           have HO380 := n0_
           have HO385 := n1_
           have BK374 := n2_
           have HB := n3_
           have BK388 := n4_
           have GW388 := n5_
           have GE388 := n6_
           have NB374_388 := n7_
           have NB388_374 := n8_
           clear n0_ n1_ n2_ n3_ n4_ n5_ n6_ n7_ n8_ hb hbox hg
           refine hK.out _ _ ⟨HS0_, HS1_⟩ (fun hHeld => ?_)
           clear hK K
           refine norm_ (a' := ?_) ?_ ?_
           rotate_left
           ·show Act.put _ (some 12) _ = _
            simp only [Act.put, List.setIfInBounds_toArray, List.set_cons_zero, List.set_cons_succ, i64_w, i32_w]
            rfl
           refine one_ (i := 8) (N := none) #[true, true, true, true, true, true, true, true, true] rfl rfl (one_of HT_.out (by kernel_rfl)) (by decide) (fun K hK => ?_)
           have hs59 : w58.cell? ⟨gb388, 0, none⟩ = some (.int .i64 0) := (blk_cell BK388.out 0).trans rfl
           have hfs59 := blk_frozen BK388.out 0
           have hns59_0 := NB374_388.out
           have hms59_0 := NB388_374.out
           have hs60 : w58.cell? ⟨gb388, 1, none⟩ = some (.int .i64 0) := (blk_cell BK388.out 1).trans rfl
           have hfs60 := blk_frozen BK388.out 1
           have hns60_0 := NB374_388.out
           have hms60_0 := NB388_374.out
           have hs61 : w58.cell? ⟨gb388, 2, none⟩ = some (.int .i64 0) := (blk_cell BK388.out 2).trans rfl
           have hfs61 := blk_frozen BK388.out 2
           have hns61_0 := NB374_388.out
           have hms61_0 := NB388_374.out
           have hs62 : w58.cell? ⟨gb388, 3, none⟩ = some (.int .i64 0) := (blk_cell BK388.out 3).trans rfl
           have hfs62 := blk_frozen BK388.out 3
           have hns62_0 := NB374_388.out
           have hms62_0 := NB388_374.out
           have hs63 : w58.cell? ⟨gb388, 4, none⟩ = some (.int .i64 0) := (blk_cell BK388.out 4).trans rfl
           have hfs63 := blk_frozen BK388.out 4
           have hns63_0 := NB374_388.out
           have hms63_0 := NB388_374.out
           have hs64 : w58.cell? ⟨gb388, 5, none⟩ = some (.int .i64 0) := (blk_cell BK388.out 5).trans rfl
           have hfs64 := blk_frozen BK388.out 5
           have hns64_0 := NB374_388.out
           have hms64_0 := NB388_374.out
           have hs65 : w58.cell? ⟨gb388, 6, none⟩ = some (.slice none 0 0) := (blk_cell BK388.out 6).trans rfl
           have hfs65 := blk_frozen BK388.out 6
           have hns65_0 := NB374_388.out
           have hms65_0 := NB388_374.out
           have hs66 : w58.cell? ⟨gb388, 7, none⟩ = some (.slice none 0 0) := (blk_cell BK388.out 7).trans rfl
           have hfs66 := blk_frozen BK388.out 7
           have hns66_0 := NB374_388.out
           have hms66_0 := NB388_374.out
           refine skip_ (w1 := ?_) (by rfl) rfl ?_ ?_
           rotate_left
           ·go_simp
            rfl
           refine hK.out _ _ ⟨((cell_far (p := ⟨gb388, _, none⟩) (by try dsimp only; first | exact Kd.own_blk (Kd.R_ne HO385.out BK388.out (by decide)) | (rw [add_block]; exact Kd.own_blk (Kd.R_ne HO385.out BK388.out (by decide)))) _).trans (((cell_far (p := ⟨gb388, _, none⟩) (by try dsimp only; first | exact Kd.own_blk (Kd.R_ne HO385.out BK388.out (by decide)) | (rw [add_block]; exact Kd.own_blk (Kd.R_ne HO385.out BK388.out (by decide)))) _).trans (((cell_far (p := ⟨gb388, _, none⟩) (by try dsimp only; first | exact Kd.own_blk (Kd.R_ne HO385.out BK388.out (by decide)) | (rw [add_block]; exact Kd.own_blk (Kd.R_ne HO385.out BK388.out (by decide)))) _).trans (((cell_far (p := ⟨gb388, _, none⟩) (by try dsimp only; first | exact Kd.own_blk (Kd.R_ne HO385.out BK388.out (by decide)) | (rw [add_block]; exact Kd.own_blk (Kd.R_ne HO385.out BK388.out (by decide)))) _).trans (((cell_far (p := ⟨gb388, _, none⟩) (by try dsimp only; first | exact Kd.own_blk (Kd.R_ne HO385.out BK388.out (by decide)) | (rw [add_block]; exact Kd.own_blk (Kd.R_ne HO385.out BK388.out (by decide)))) _).trans (((cell_far (p := ⟨gb388, _, none⟩) (by try dsimp only; first | exact Kd.own_blk (Kd.R_ne HO385.out BK388.out (by decide)) | (rw [add_block]; exact Kd.own_blk (Kd.R_ne HO385.out BK388.out (by decide)))) _).trans (((cell_far (p := ⟨gb388, _, none⟩) (by try dsimp only; first | exact Kd.own_blk (Kd.R_ne HO385.out BK388.out (by decide)) | (rw [add_block]; exact Kd.own_blk (Kd.R_ne HO385.out BK388.out (by decide)))) _).trans (((cell_far (p := ⟨gb388, _, none⟩) (by try dsimp only; first | exact Kd.own_blk (Kd.R_ne HO385.out BK388.out (by decide)) | (rw [add_block]; exact Kd.own_blk (Kd.R_ne HO385.out BK388.out (by decide)))) _).trans (hHeld.1)))))))))))))))), ((cell_far (p := ⟨gb388, _, none⟩) (by try dsimp only; first | exact Kd.own_blk (Kd.R_ne HO385.out BK388.out (by decide)) | (rw [add_block]; exact Kd.own_blk (Kd.R_ne HO385.out BK388.out (by decide)))) _).trans (((cell_far (p := ⟨gb388, _, none⟩) (by try dsimp only; first | exact Kd.own_blk (Kd.R_ne HO385.out BK388.out (by decide)) | (rw [add_block]; exact Kd.own_blk (Kd.R_ne HO385.out BK388.out (by decide)))) _).trans (((cell_far (p := ⟨gb388, _, none⟩) (by try dsimp only; first | exact Kd.own_blk (Kd.R_ne HO385.out BK388.out (by decide)) | (rw [add_block]; exact Kd.own_blk (Kd.R_ne HO385.out BK388.out (by decide)))) _).trans (((cell_far (p := ⟨gb388, _, none⟩) (by try dsimp only; first | exact Kd.own_blk (Kd.R_ne HO385.out BK388.out (by decide)) | (rw [add_block]; exact Kd.own_blk (Kd.R_ne HO385.out BK388.out (by decide)))) _).trans (((cell_far (p := ⟨gb388, _, none⟩) (by try dsimp only; first | exact Kd.own_blk (Kd.R_ne HO385.out BK388.out (by decide)) | (rw [add_block]; exact Kd.own_blk (Kd.R_ne HO385.out BK388.out (by decide)))) _).trans (((cell_far (p := ⟨gb388, _, none⟩) (by try dsimp only; first | exact Kd.own_blk (Kd.R_ne HO385.out BK388.out (by decide)) | (rw [add_block]; exact Kd.own_blk (Kd.R_ne HO385.out BK388.out (by decide)))) _).trans (((cell_far (p := ⟨gb388, _, none⟩) (by try dsimp only; first | exact Kd.own_blk (Kd.R_ne HO385.out BK388.out (by decide)) | (rw [add_block]; exact Kd.own_blk (Kd.R_ne HO385.out BK388.out (by decide)))) _).trans (((cell_far (p := ⟨gb388, _, none⟩) (by try dsimp only; first | exact Kd.own_blk (Kd.R_ne HO385.out BK388.out (by decide)) | (rw [add_block]; exact Kd.own_blk (Kd.R_ne HO385.out BK388.out (by decide)))) _).trans (hHeld.2))))))))))))))))⟩ (fun hHeld => ?_)
           clear hK K
           refine done_ (done_of HT_.out (by kernel_rfl)) ?_
           have p389 : 0 ≤ (1 : Int) := (by omega)
           have q389 : 1 < (t377.length : Int) := of_decide_eq_true aA
           obtain ⟨ad389, e389, hx389_0⟩ := Kd.at_string (Kd.R_reads' HO380.out).2.2 1 p389 q389
           obtain rfl : ad381 = ad389 := (by injection e389)
           (try simp only [show (1 : Int).toNat = 1 from rfl, Nat.reduceMul, Nat.reduceEqDiff, Go.Addr.add, ↓reduceIte] at hx389_0)
           have qi389 : (1 < t377.length) = True := eq_true (by omega)
           (try rw [show ((1 : Int)).toNat = 1 from rfl] at hx389_0)
           have hn389_0 : ad381.block ≠ gb388 := Kd.own_blk (Kd.R_ne HO380.out BK388.out (by decide))
           have hn389_1 : ad381.block ≠ gb388 := Kd.own_blk (Kd.R_ne HO380.out BK388.out (by decide))
           have hn389_2 : ad381.block ≠ gb388 := Kd.own_blk (Kd.R_ne HO380.out BK388.out (by decide))
           have hn389_3 : ad381.block ≠ gb388 := Kd.own_blk (Kd.R_ne HO380.out BK388.out (by decide))
           have hn389_4 : ad381.block ≠ gb388 := Kd.own_blk (Kd.R_ne HO380.out BK388.out (by decide))
           have hn389_5 : ad381.block ≠ gb388 := Kd.own_blk (Kd.R_ne HO380.out BK388.out (by decide))
           have hn389_6 : ad381.block ≠ gb388 := Kd.own_blk (Kd.R_ne HO380.out BK388.out (by decide))
           have hn389_7 : ad381.block ≠ gb388 := Kd.own_blk (Kd.R_ne HO380.out BK388.out (by decide))
           replace hx389_0 := (cell_far (p := ⟨gb388, 0, none⟩) (by first | (rw [add_block]; exact hn389_0) | (show (Addr.add _ _).block ≠ _; rw [add_block]; exact hn389_0) | exact hn389_0) (.int .i64 (rd t382 0))).trans hx389_0
           replace hx389_0 := (cell_far (p := ⟨gb388, 1, none⟩) (by first | (rw [add_block]; exact hn389_1) | (show (Addr.add _ _).block ≠ _; rw [add_block]; exact hn389_1) | exact hn389_1) (.int .i64 (rd t382 1))).trans hx389_0
           replace hx389_0 := (cell_far (p := ⟨gb388, 2, none⟩) (by first | (rw [add_block]; exact hn389_2) | (show (Addr.add _ _).block ≠ _; rw [add_block]; exact hn389_2) | exact hn389_2) (.int .i64 0)).trans hx389_0
           replace hx389_0 := (cell_far (p := ⟨gb388, 3, none⟩) (by first | (rw [add_block]; exact hn389_3) | (show (Addr.add _ _).block ≠ _; rw [add_block]; exact hn389_3) | exact hn389_3) (.int .i64 0)).trans hx389_0
           replace hx389_0 := (cell_far (p := ⟨gb388, 4, none⟩) (by first | (rw [add_block]; exact hn389_4) | (show (Addr.add _ _).block ≠ _; rw [add_block]; exact hn389_4) | exact hn389_4) (.int .i64 0)).trans hx389_0
           replace hx389_0 := (cell_far (p := ⟨gb388, 5, none⟩) (by first | (rw [add_block]; exact hn389_5) | (show (Addr.add _ _).block ≠ _; rw [add_block]; exact hn389_5) | exact hn389_5) (.int .i64 0)).trans hx389_0
           replace hx389_0 := (cell_far (p := ⟨gb388, 6, none⟩) (by first | (rw [add_block]; exact hn389_6) | (show (Addr.add _ _).block ≠ _; rw [add_block]; exact hn389_6) | exact hn389_6) (.slice none 0 0)).trans hx389_0
           replace hx389_0 := (cell_far (p := ⟨gb388, 7, none⟩) (by first | (rw [add_block]; exact hn389_7) | (show (Addr.add _ _).block ≠ _; rw [add_block]; exact hn389_7) | exact hn389_7) (.slice none 0 0)).trans hx389_0
           clear hn389_0 hn389_1 hn389_2 hn389_3 hn389_4 hn389_5 hn389_6 hn389_7
           replace p389 := eq_true p389
           replace q389 := eq_true q389
           try go_wp2_with (first | ((with_reducible refine gate_callee (f := 93) rfl ?_); refine goesL_ (some 50) rfl rfl Try.func93 (by kernel_rfl) rfl #[.string (rdOf ByteArray.empty t377 1)] rfl eA ?_; (with_reducible refine (impl_ReadKey.calls k (rdOf ByteArray.empty t377 1) t390 t391 _ A12.out).mono ?_); rintro e w67 ⟨rfl, hb⟩; refine ⟨_, rfl, ?_⟩; have n0_ := Aside0.mk (Kd.R_below (by (with_reducible repeat (first | apply Kd.R_alloc | apply Kd.R_drewN | apply Kd.R_drew)); exact (Kd.R_mono (Kd.R_far (p := ⟨gb388, 7, none⟩) (Kd.R_far (p := ⟨gb388, 6, none⟩) (Kd.R_far (p := ⟨gb388, 5, none⟩) (Kd.R_far (p := ⟨gb388, 4, none⟩) (Kd.R_far (p := ⟨gb388, 3, none⟩) (Kd.R_far (p := ⟨gb388, 2, none⟩) (Kd.R_far (p := ⟨gb388, 1, none⟩) (Kd.R_far (p := ⟨gb388, 0, none⟩) (Kd.R_types HO380.out BK388.out (by decide)) (fun _ hk => hk.2) (.int .i64 (rd t382 0))) (fun _ hk => hk.2) (.int .i64 (rd t382 1))) (fun _ hk => hk.2) (.int .i64 0)) (fun _ hk => hk.2) (.int .i64 0)) (fun _ hk => hk.2) (.int .i64 0)) (fun _ hk => hk.2) (.int .i64 0)) (fun _ hk => hk.2) (.slice none 0 0)) (fun _ hk => hk.2) (.slice none 0 0)) (fun _ h_ => h_.1))) hb); have n1_ := Aside0.mk (Kd.R_below (by (with_reducible repeat (first | apply Kd.R_alloc | apply Kd.R_drewN | apply Kd.R_drew)); exact (Kd.R_mono (Kd.R_far (p := ⟨gb388, 7, none⟩) (Kd.R_far (p := ⟨gb388, 6, none⟩) (Kd.R_far (p := ⟨gb388, 5, none⟩) (Kd.R_far (p := ⟨gb388, 4, none⟩) (Kd.R_far (p := ⟨gb388, 3, none⟩) (Kd.R_far (p := ⟨gb388, 2, none⟩) (Kd.R_far (p := ⟨gb388, 1, none⟩) (Kd.R_far (p := ⟨gb388, 0, none⟩) (Kd.R_types HO385.out BK388.out (by decide)) (fun _ hk => hk.2) (.int .i64 (rd t382 0))) (fun _ hk => hk.2) (.int .i64 (rd t382 1))) (fun _ hk => hk.2) (.int .i64 0)) (fun _ hk => hk.2) (.int .i64 0)) (fun _ hk => hk.2) (.int .i64 0)) (fun _ hk => hk.2) (.int .i64 0)) (fun _ hk => hk.2) (.slice none 0 0)) (fun _ hk => hk.2) (.slice none 0 0)) (fun _ h_ => h_.1))) hb); have n2_ := Aside0.mk (blk_below (g := gb374) (o := .cells #[.int .i64 0, .int .i64 0, .int .i64 0, .int .i64 0, .int .i64 0, .int .i64 0, .slice none 0 0, .slice none 0 0] 52 (0, 0)) (by (with_reducible repeat (first | refine blk_drewN ?_ _ | refine blk_drew ?_ | refine blk_alloc ?_ _)); refine blk_far ?_ NB374_388.out _; (with_reducible repeat (first | refine blk_drewN ?_ _ | refine blk_drew ?_ | refine blk_alloc ?_ _)); refine blk_far ?_ NB374_388.out _; (with_reducible repeat (first | refine blk_drewN ?_ _ | refine blk_drew ?_ | refine blk_alloc ?_ _)); refine blk_far ?_ NB374_388.out _; (with_reducible repeat (first | refine blk_drewN ?_ _ | refine blk_drew ?_ | refine blk_alloc ?_ _)); refine blk_far ?_ NB374_388.out _; (with_reducible repeat (first | refine blk_drewN ?_ _ | refine blk_drew ?_ | refine blk_alloc ?_ _)); refine blk_far ?_ NB374_388.out _; (with_reducible repeat (first | refine blk_drewN ?_ _ | refine blk_drew ?_ | refine blk_alloc ?_ _)); refine blk_far ?_ NB374_388.out _; (with_reducible repeat (first | refine blk_drewN ?_ _ | refine blk_drew ?_ | refine blk_alloc ?_ _)); refine blk_far ?_ NB374_388.out _; (with_reducible repeat (first | refine blk_drewN ?_ _ | refine blk_drew ?_ | refine blk_alloc ?_ _)); refine blk_far ?_ NB374_388.out _; (with_reducible repeat (first | refine blk_drewN ?_ _ | refine blk_drew ?_ | refine blk_alloc ?_ _)); exact BK374.out) hb); have n3_ := Aside0.mk (blk_below (g := gb388) (o := .cells #[.int .i64 (rd t382 0), .int .i64 (rd t382 1), .int .i64 0, .int .i64 0, .int .i64 0, .int .i64 0, .slice none 0 0, .slice none 0 0] 52 (0, 0)) (by (with_reducible repeat (first | refine blk_drewN ?_ _ | refine blk_drew ?_ | refine blk_alloc ?_ _)); refine blk_put (cs := #[.int .i64 (rd t382 0), .int .i64 (rd t382 1), .int .i64 0, .int .i64 0, .int .i64 0, .int .i64 0, .slice none 0 0, .slice none 0 0]) ?_ 7 _ rfl; (with_reducible repeat (first | refine blk_drewN ?_ _ | refine blk_drew ?_ | refine blk_alloc ?_ _)); refine blk_put (cs := #[.int .i64 (rd t382 0), .int .i64 (rd t382 1), .int .i64 0, .int .i64 0, .int .i64 0, .int .i64 0, .slice none 0 0, .slice none 0 0]) ?_ 6 _ rfl; (with_reducible repeat (first | refine blk_drewN ?_ _ | refine blk_drew ?_ | refine blk_alloc ?_ _)); refine blk_put (cs := #[.int .i64 (rd t382 0), .int .i64 (rd t382 1), .int .i64 0, .int .i64 0, .int .i64 0, .int .i64 0, .slice none 0 0, .slice none 0 0]) ?_ 5 _ rfl; (with_reducible repeat (first | refine blk_drewN ?_ _ | refine blk_drew ?_ | refine blk_alloc ?_ _)); refine blk_put (cs := #[.int .i64 (rd t382 0), .int .i64 (rd t382 1), .int .i64 0, .int .i64 0, .int .i64 0, .int .i64 0, .slice none 0 0, .slice none 0 0]) ?_ 4 _ rfl; (with_reducible repeat (first | refine blk_drewN ?_ _ | refine blk_drew ?_ | refine blk_alloc ?_ _)); refine blk_put (cs := #[.int .i64 (rd t382 0), .int .i64 (rd t382 1), .int .i64 0, .int .i64 0, .int .i64 0, .int .i64 0, .slice none 0 0, .slice none 0 0]) ?_ 3 _ rfl; (with_reducible repeat (first | refine blk_drewN ?_ _ | refine blk_drew ?_ | refine blk_alloc ?_ _)); refine blk_put (cs := #[.int .i64 (rd t382 0), .int .i64 (rd t382 1), .int .i64 0, .int .i64 0, .int .i64 0, .int .i64 0, .slice none 0 0, .slice none 0 0]) ?_ 2 _ rfl; (with_reducible repeat (first | refine blk_drewN ?_ _ | refine blk_drew ?_ | refine blk_alloc ?_ _)); refine blk_put (cs := #[.int .i64 (rd t382 0), .int .i64 0, .int .i64 0, .int .i64 0, .int .i64 0, .int .i64 0, .slice none 0 0, .slice none 0 0]) ?_ 1 _ rfl; (with_reducible repeat (first | refine blk_drewN ?_ _ | refine blk_drew ?_ | refine blk_alloc ?_ _)); refine blk_put (cs := #[.int .i64 0, .int .i64 0, .int .i64 0, .int .i64 0, .int .i64 0, .int .i64 0, .slice none 0 0, .slice none 0 0]) ?_ 0 _ rfl; (with_reducible repeat (first | refine blk_drewN ?_ _ | refine blk_drew ?_ | refine blk_alloc ?_ _)); exact BK388.out) hb); have n4_ := Aside0.mk (below_step bS hb); clear HO380; clear HO385; clear BK374; clear BK388; clear HB; have HO380 := n0_; have HO385 := n1_; have BK374 := n2_; have BK388 := n3_; have HB := n4_; clear n0_ n1_ n2_ n3_ n4_; (try clear hb); (try clear hb2); (try clear hk); (try clear hi); have hnb68 := NB388_374.out; have hnc68 := NB374_388.out; have hcz69_0 : w67.cell? ⟨gb388, 0, none⟩ = some (.int .i64 (rd t382 0)) := (blk_cell BK388.out 0).trans rfl; have hcz69_1 : w67.cell? ⟨gb388, 1, none⟩ = some (.int .i64 (rd t382 1)) := (blk_cell BK388.out 1).trans rfl; have hcz69_2 : w67.cell? ⟨gb388, 2, none⟩ = some (.int .i64 0) := (blk_cell BK388.out 2).trans rfl; have hcz69_3 : w67.cell? ⟨gb388, 3, none⟩ = some (.int .i64 0) := (blk_cell BK388.out 3).trans rfl; have hcz69_4 : w67.cell? ⟨gb388, 4, none⟩ = some (.int .i64 0) := (blk_cell BK388.out 4).trans rfl; have hcz69_5 : w67.cell? ⟨gb388, 5, none⟩ = some (.int .i64 0) := (blk_cell BK388.out 5).trans rfl; have hcz69_6 : w67.cell? ⟨gb388, 6, none⟩ = some (.slice none 0 0) := (blk_cell BK388.out 6).trans rfl; have hcz69_7 : w67.cell? ⟨gb388, 7, none⟩ = some (.slice none 0 0) := (blk_cell BK388.out 7).trans rfl; have hfz69_0 := blk_frozen BK388.out 0; have hfz69_1 := blk_frozen BK388.out 1; have hfz69_2 := blk_frozen BK388.out 2; have hfz69_3 := blk_frozen BK388.out 3; have hfz69_4 := blk_frozen BK388.out 4; have hfz69_5 := blk_frozen BK388.out 5; have hfz69_6 := blk_frozen BK388.out 6; have hfz69_7 := blk_frozen BK388.out 7; have p392 : 0 ≤ (2 : Int) := (by omega); have q392 : 2 < (t377.length : Int) := of_decide_eq_true aA; obtain ⟨ad392, e392, hx392_0⟩ := Kd.at_string (Kd.R_reads' HO380.out).2.2 2 p392 q392; obtain rfl : ad381 = ad392 := (by injection e392); (try simp only [show (2 : Int).toNat = 2 from rfl, Nat.reduceMul, Nat.reduceEqDiff, Go.Addr.add, ↓reduceIte] at hx392_0); have qi392 : (2 < t377.length) = True := eq_true (by omega); (try rw [show ((2 : Int)).toNat = 2 from rfl] at hx392_0); have hn392_0 : ad381.block ≠ gb388 := Kd.own_blk (Kd.R_ne HO380.out BK388.out (by decide)); replace hx392_0 := (cell_far (p := ⟨gb388, 2, none⟩) (by first | (rw [add_block]; exact hn392_0) | (show (Addr.add _ _).block ≠ _; rw [add_block]; exact hn392_0) | exact hn392_0) (.int .i64 t390)).trans hx392_0; clear hn392_0; replace p392 := eq_true p392; replace q392 := eq_true q392) | ((with_reducible refine gate_callee (f := 41) rfl ?_); refine goesL_ (some 58) rfl rfl Try.func41 (by kernel_rfl) rfl #[.string (rdOf ByteArray.empty t377 2)] rfl eA ?_; (with_reducible refine (impl_ReadRest.calls k (rdOf ByteArray.empty t377 2) t393 t394 t395 t396 _ A14.out).mono ?_); rintro e w70 ⟨rfl, hb⟩; refine ⟨_, rfl, ?_⟩; have n0_ := Aside0.mk (Kd.R_below (by (with_reducible repeat (first | apply Kd.R_alloc | apply Kd.R_drewN | apply Kd.R_drew)); exact (Kd.R_mono (Kd.R_far (p := ⟨gb388, 2, none⟩) (Kd.R_types HO380.out BK388.out (by decide)) (fun _ hk => hk.2) (.int .i64 t390)) (fun _ h_ => h_.1))) hb); have n1_ := Aside0.mk (Kd.R_below (by (with_reducible repeat (first | apply Kd.R_alloc | apply Kd.R_drewN | apply Kd.R_drew)); exact (Kd.R_mono (Kd.R_far (p := ⟨gb388, 2, none⟩) (Kd.R_types HO385.out BK388.out (by decide)) (fun _ hk => hk.2) (.int .i64 t390)) (fun _ h_ => h_.1))) hb); have n2_ := Aside0.mk (blk_below (g := gb374) (o := .cells #[.int .i64 0, .int .i64 0, .int .i64 0, .int .i64 0, .int .i64 0, .int .i64 0, .slice none 0 0, .slice none 0 0] 52 (0, 0)) (by (with_reducible repeat (first | refine blk_drewN ?_ _ | refine blk_drew ?_ | refine blk_alloc ?_ _)); refine blk_far ?_ NB374_388.out _; (with_reducible repeat (first | refine blk_drewN ?_ _ | refine blk_drew ?_ | refine blk_alloc ?_ _)); exact BK374.out) hb); have n3_ := Aside0.mk (blk_below (g := gb388) (o := .cells #[.int .i64 (rd t382 0), .int .i64 (rd t382 1), .int .i64 t390, .int .i64 0, .int .i64 0, .int .i64 0, .slice none 0 0, .slice none 0 0] 52 (0, 0)) (by (with_reducible repeat (first | refine blk_drewN ?_ _ | refine blk_drew ?_ | refine blk_alloc ?_ _)); refine blk_put (cs := #[.int .i64 (rd t382 0), .int .i64 (rd t382 1), .int .i64 0, .int .i64 0, .int .i64 0, .int .i64 0, .slice none 0 0, .slice none 0 0]) ?_ 2 _ rfl; (with_reducible repeat (first | refine blk_drewN ?_ _ | refine blk_drew ?_ | refine blk_alloc ?_ _)); exact BK388.out) hb); have n4_ := Aside0.mk (below_step bS hb); clear HO380; clear HO385; clear BK374; clear BK388; clear HB; have HO380 := n0_; have HO385 := n1_; have BK374 := n2_; have BK388 := n3_; have HB := n4_; clear n0_ n1_ n2_ n3_ n4_; (try clear hb); (try clear hb2); (try clear hk); (try clear hi); have hcz71_0 : w70.cell? ⟨gb388, 0, none⟩ = some (.int .i64 (rd t382 0)) := (blk_cell BK388.out 0).trans rfl; have hcz71_1 : w70.cell? ⟨gb388, 1, none⟩ = some (.int .i64 (rd t382 1)) := (blk_cell BK388.out 1).trans rfl; have hcz71_2 : w70.cell? ⟨gb388, 2, none⟩ = some (.int .i64 t390) := (blk_cell BK388.out 2).trans rfl; have hcz71_3 : w70.cell? ⟨gb388, 3, none⟩ = some (.int .i64 0) := (blk_cell BK388.out 3).trans rfl; have hcz71_4 : w70.cell? ⟨gb388, 4, none⟩ = some (.int .i64 0) := (blk_cell BK388.out 4).trans rfl; have hcz71_5 : w70.cell? ⟨gb388, 5, none⟩ = some (.int .i64 0) := (blk_cell BK388.out 5).trans rfl; have hcz71_6 : w70.cell? ⟨gb388, 6, none⟩ = some (.slice none 0 0) := (blk_cell BK388.out 6).trans rfl; have hcz71_7 : w70.cell? ⟨gb388, 7, none⟩ = some (.slice none 0 0) := (blk_cell BK388.out 7).trans rfl; have hfz71_0 := blk_frozen BK388.out 0; have hfz71_1 := blk_frozen BK388.out 1; have hfz71_2 := blk_frozen BK388.out 2; have hfz71_3 := blk_frozen BK388.out 3; have hfz71_4 := blk_frozen BK388.out 4; have hfz71_5 := blk_frozen BK388.out 5; have hfz71_6 := blk_frozen BK388.out 6; have hfz71_7 := blk_frozen BK388.out 7; have p397 : 0 ≤ (3 : Int) := (by omega); have q397 : 3 < (t377.length : Int) := of_decide_eq_true aA; obtain ⟨ad397, e397, hx397_0⟩ := Kd.at_string (Kd.R_reads' HO380.out).2.2 3 p397 q397; obtain rfl : ad381 = ad397 := (by injection e397); (try simp only [show (3 : Int).toNat = 3 from rfl, Nat.reduceMul, Nat.reduceEqDiff, Go.Addr.add, ↓reduceIte] at hx397_0); have qi397 : (3 < t377.length) = True := eq_true (by omega); (try rw [show ((3 : Int)).toNat = 3 from rfl] at hx397_0); have hn397_0 : ad381.block ≠ gb388 := Kd.own_blk (Kd.R_ne HO380.out BK388.out (by decide)); have hn397_1 : ad381.block ≠ gb388 := Kd.own_blk (Kd.R_ne HO380.out BK388.out (by decide)); have hn397_2 : ad381.block ≠ gb388 := Kd.own_blk (Kd.R_ne HO380.out BK388.out (by decide)); replace hx397_0 := (cell_far (p := ⟨gb388, 3, none⟩) (by first | (rw [add_block]; exact hn397_0) | (show (Addr.add _ _).block ≠ _; rw [add_block]; exact hn397_0) | exact hn397_0) (.int .i64 t393)).trans hx397_0; replace hx397_0 := (cell_far (p := ⟨gb388, 4, none⟩) (by first | (rw [add_block]; exact hn397_1) | (show (Addr.add _ _).block ≠ _; rw [add_block]; exact hn397_1) | exact hn397_1) (.int .i64 t394)).trans hx397_0; replace hx397_0 := (cell_far (p := ⟨gb388, 5, none⟩) (by first | (rw [add_block]; exact hn397_2) | (show (Addr.add _ _).block ≠ _; rw [add_block]; exact hn397_2) | exact hn397_2) (.int .i64 t395)).trans hx397_0; clear hn397_0; clear hn397_1; clear hn397_2; replace p397 := eq_true p397; replace q397 := eq_true q397) | ((with_reducible refine gate_callee (f := 92) rfl ?_); refine goesL_ (some 66) rfl rfl Try.func92 (by kernel_rfl) rfl #[.string (rdOf ByteArray.empty t377 3)] rfl eA ?_; (with_reducible refine (impl_ReadNums.calls k (rdOf ByteArray.empty t377 3) t398 t399 _ A16.out).mono ?_); rintro e w72 ⟨v400, rfl, ho0, hb⟩; refine ⟨_, rfl, ?_⟩; have n0_ := Aside0.mk (Kd.R_below (by (with_reducible repeat (first | apply Kd.R_alloc | apply Kd.R_drewN | apply Kd.R_drew)); exact (Kd.R_mono (Kd.R_far (p := ⟨gb388, 5, none⟩) (Kd.R_far (p := ⟨gb388, 4, none⟩) (Kd.R_far (p := ⟨gb388, 3, none⟩) (Kd.R_types HO380.out BK388.out (by decide)) (fun _ hk => hk.2) (.int .i64 t393)) (fun _ hk => hk.2) (.int .i64 t394)) (fun _ hk => hk.2) (.int .i64 t395)) (fun _ h_ => h_.1))) hb); have n1_ := Aside0.mk (Kd.R_elder' (by (with_reducible repeat (first | apply Kd.R_alloc | apply Kd.R_drewN | apply Kd.R_drew)); exact (Kd.R_mono (Kd.R_far (p := ⟨gb388, 5, none⟩) (Kd.R_far (p := ⟨gb388, 4, none⟩) (Kd.R_far (p := ⟨gb388, 3, none⟩) (Kd.R_types HO385.out BK388.out (by decide)) (fun _ hk => hk.2) (.int .i64 t393)) (fun _ hk => hk.2) (.int .i64 t394)) (fun _ hk => hk.2) (.int .i64 t395)) (fun _ h_ => h_.1))) (Kd.R_base ho0) hb); have n2_ := Aside0.mk (Kd.R_lower (Kd.R_new' ho0 (Kd.R_lt (by (with_reducible repeat (first | apply Kd.R_alloc | apply Kd.R_drewN | apply Kd.R_drew)); exact (Kd.R_mono (Kd.R_far (p := ⟨gb388, 5, none⟩) (Kd.R_far (p := ⟨gb388, 4, none⟩) (Kd.R_far (p := ⟨gb388, 3, none⟩) (Kd.R_types HO385.out BK388.out (by decide)) (fun _ hk => hk.2) (.int .i64 t393)) (fun _ hk => hk.2) (.int .i64 t394)) (fun _ hk => hk.2) (.int .i64 t395)) (fun _ h_ => h_.1))))) (below_size bS)); have n3_ := Aside0.mk (blk_below (g := gb374) (o := .cells #[.int .i64 0, .int .i64 0, .int .i64 0, .int .i64 0, .int .i64 0, .int .i64 0, .slice none 0 0, .slice none 0 0] 52 (0, 0)) (by (with_reducible repeat (first | refine blk_drewN ?_ _ | refine blk_drew ?_ | refine blk_alloc ?_ _)); refine blk_far ?_ NB374_388.out _; (with_reducible repeat (first | refine blk_drewN ?_ _ | refine blk_drew ?_ | refine blk_alloc ?_ _)); refine blk_far ?_ NB374_388.out _; (with_reducible repeat (first | refine blk_drewN ?_ _ | refine blk_drew ?_ | refine blk_alloc ?_ _)); refine blk_far ?_ NB374_388.out _; (with_reducible repeat (first | refine blk_drewN ?_ _ | refine blk_drew ?_ | refine blk_alloc ?_ _)); exact BK374.out) hb); have n4_ := Aside0.mk (blk_below (g := gb388) (o := .cells #[.int .i64 (rd t382 0), .int .i64 (rd t382 1), .int .i64 t390, .int .i64 t393, .int .i64 t394, .int .i64 t395, .slice none 0 0, .slice none 0 0] 52 (0, 0)) (by (with_reducible repeat (first | refine blk_drewN ?_ _ | refine blk_drew ?_ | refine blk_alloc ?_ _)); refine blk_put (cs := #[.int .i64 (rd t382 0), .int .i64 (rd t382 1), .int .i64 t390, .int .i64 t393, .int .i64 t394, .int .i64 0, .slice none 0 0, .slice none 0 0]) ?_ 5 _ rfl; (with_reducible repeat (first | refine blk_drewN ?_ _ | refine blk_drew ?_ | refine blk_alloc ?_ _)); refine blk_put (cs := #[.int .i64 (rd t382 0), .int .i64 (rd t382 1), .int .i64 t390, .int .i64 t393, .int .i64 0, .int .i64 0, .slice none 0 0, .slice none 0 0]) ?_ 4 _ rfl; (with_reducible repeat (first | refine blk_drewN ?_ _ | refine blk_drew ?_ | refine blk_alloc ?_ _)); refine blk_put (cs := #[.int .i64 (rd t382 0), .int .i64 (rd t382 1), .int .i64 t390, .int .i64 0, .int .i64 0, .int .i64 0, .slice none 0 0, .slice none 0 0]) ?_ 3 _ rfl; (with_reducible repeat (first | refine blk_drewN ?_ _ | refine blk_drew ?_ | refine blk_alloc ?_ _)); exact BK388.out) hb); have n5_ := Aside0.mk (below_step bS hb); clear HO380; clear HO385; clear BK374; clear BK388; clear HB; have HO380 := n0_; have HO385 := n1_; have HO401 := n2_; have BK374 := n3_; have BK388 := n4_; have HB := n5_; clear n0_ n1_ n2_ n3_ n4_ n5_; (try clear hb); (try clear hb2); (try clear hk); (try clear hi); (try clear ho0); obtain ⟨Ao73, co73, eo73⟩ := Kd.R_slice HO401.out; subst eo73; have hcz74_0 : w72.cell? ⟨gb388, 0, none⟩ = some (.int .i64 (rd t382 0)) := (blk_cell BK388.out 0).trans rfl; have hcz74_1 : w72.cell? ⟨gb388, 1, none⟩ = some (.int .i64 (rd t382 1)) := (blk_cell BK388.out 1).trans rfl; have hcz74_2 : w72.cell? ⟨gb388, 2, none⟩ = some (.int .i64 t390) := (blk_cell BK388.out 2).trans rfl; have hcz74_3 : w72.cell? ⟨gb388, 3, none⟩ = some (.int .i64 t393) := (blk_cell BK388.out 3).trans rfl; have hcz74_4 : w72.cell? ⟨gb388, 4, none⟩ = some (.int .i64 t394) := (blk_cell BK388.out 4).trans rfl; have hcz74_5 : w72.cell? ⟨gb388, 5, none⟩ = some (.int .i64 t395) := (blk_cell BK388.out 5).trans rfl; have hcz74_6 : w72.cell? ⟨gb388, 6, none⟩ = some (.slice none 0 0) := (blk_cell BK388.out 6).trans rfl; have hcz74_7 : w72.cell? ⟨gb388, 7, none⟩ = some (.slice none 0 0) := (blk_cell BK388.out 7).trans rfl; have hfz74_0 := blk_frozen BK388.out 0; have hfz74_1 := blk_frozen BK388.out 1; have hfz74_2 := blk_frozen BK388.out 2; have hfz74_3 := blk_frozen BK388.out 3; have hfz74_4 := blk_frozen BK388.out 4; have hfz74_5 := blk_frozen BK388.out 5; have hfz74_6 := blk_frozen BK388.out 6; have hfz74_7 := blk_frozen BK388.out 7; have p402 : 0 ≤ (4 : Int) := (by omega); have q402 : 4 < (t377.length : Int) := of_decide_eq_true aA; obtain ⟨ad402, e402, hx402_0⟩ := Kd.at_string (Kd.R_reads' HO380.out).2.2 4 p402 q402; obtain rfl : ad381 = ad402 := (by injection e402); (try simp only [show (4 : Int).toNat = 4 from rfl, Nat.reduceMul, Nat.reduceEqDiff, Go.Addr.add, ↓reduceIte] at hx402_0); have qi402 : (4 < t377.length) = True := eq_true (by omega); (try rw [show ((4 : Int)).toNat = 4 from rfl] at hx402_0); have hn402_0 : ad381.block ≠ gb388 := Kd.own_blk (Kd.R_ne HO380.out BK388.out (by decide)); replace hx402_0 := (cell_far (p := ⟨gb388, 6, none⟩) (by first | (rw [add_block]; exact hn402_0) | (show (Addr.add _ _).block ≠ _; rw [add_block]; exact hn402_0) | exact hn402_0) (.slice Ao73 t398.length co73)).trans hx402_0; clear hn402_0; replace p402 := eq_true p402; replace q402 := eq_true q402) | ((with_reducible refine gate_callee (f := 92) rfl ?_); refine goesL_ (some 74) rfl rfl Try.func92 (by kernel_rfl) rfl #[.string (rdOf ByteArray.empty t377 4)] rfl eA ?_; (with_reducible refine (impl_ReadNums.calls k (rdOf ByteArray.empty t377 4) t403 t404 _ A18.out).mono ?_); rintro e w75 ⟨v405, rfl, ho0, hb⟩; refine ⟨_, rfl, ?_⟩; have n0_ := Aside0.mk (Kd.R_below (by (with_reducible repeat (first | apply Kd.R_alloc | apply Kd.R_drewN | apply Kd.R_drew)); exact (Kd.R_mono (Kd.R_far (p := ⟨gb388, 6, none⟩) (Kd.R_types HO380.out BK388.out (by decide)) (fun _ hk => hk.2) (.slice Ao73 t398.length co73)) (fun _ h_ => h_.1))) hb); have n1_ := Aside0.mk (Kd.R_elder' (by (with_reducible repeat (first | apply Kd.R_alloc | apply Kd.R_drewN | apply Kd.R_drew)); exact (Kd.R_mono (Kd.R_far (p := ⟨gb388, 6, none⟩) (Kd.R_types HO385.out BK388.out (by decide)) (fun _ hk => hk.2) (.slice Ao73 t398.length co73)) (fun _ h_ => h_.1))) (Kd.R_base ho0) hb); have n2_ := Aside0.mk (Kd.R_elder' (by (with_reducible repeat (first | apply Kd.R_alloc | apply Kd.R_drewN | apply Kd.R_drew)); exact (Kd.R_mono (Kd.R_far (p := ⟨gb388, 6, none⟩) (Kd.R_types HO401.out BK388.out (by decide)) (fun _ hk => hk.2) (.slice Ao73 t398.length co73)) (fun _ h_ => h_.1))) (Kd.R_base ho0) hb); have n3_ := Aside0.mk (Kd.R_lower (Kd.R_new' (Kd.R_new' ho0 (Kd.R_lt (by (with_reducible repeat (first | apply Kd.R_alloc | apply Kd.R_drewN | apply Kd.R_drew)); exact (Kd.R_mono (Kd.R_far (p := ⟨gb388, 6, none⟩) (Kd.R_types HO385.out BK388.out (by decide)) (fun _ hk => hk.2) (.slice Ao73 t398.length co73)) (fun _ h_ => h_.1))))) (Kd.R_lt (by (with_reducible repeat (first | apply Kd.R_alloc | apply Kd.R_drewN | apply Kd.R_drew)); exact (Kd.R_mono (Kd.R_far (p := ⟨gb388, 6, none⟩) (Kd.R_types HO401.out BK388.out (by decide)) (fun _ hk => hk.2) (.slice Ao73 t398.length co73)) (fun _ h_ => h_.1))))) (below_size bS)); have n4_ := Aside0.mk (blk_below (g := gb374) (o := .cells #[.int .i64 0, .int .i64 0, .int .i64 0, .int .i64 0, .int .i64 0, .int .i64 0, .slice none 0 0, .slice none 0 0] 52 (0, 0)) (by (with_reducible repeat (first | refine blk_drewN ?_ _ | refine blk_drew ?_ | refine blk_alloc ?_ _)); refine blk_far ?_ NB374_388.out _; (with_reducible repeat (first | refine blk_drewN ?_ _ | refine blk_drew ?_ | refine blk_alloc ?_ _)); exact BK374.out) hb); have n5_ := Aside0.mk (blk_below (g := gb388) (o := .cells #[.int .i64 (rd t382 0), .int .i64 (rd t382 1), .int .i64 t390, .int .i64 t393, .int .i64 t394, .int .i64 t395, .slice Ao73 t398.length co73, .slice none 0 0] 52 (0, 0)) (by (with_reducible repeat (first | refine blk_drewN ?_ _ | refine blk_drew ?_ | refine blk_alloc ?_ _)); refine blk_put (cs := #[.int .i64 (rd t382 0), .int .i64 (rd t382 1), .int .i64 t390, .int .i64 t393, .int .i64 t394, .int .i64 t395, .slice none 0 0, .slice none 0 0]) ?_ 6 _ rfl; (with_reducible repeat (first | refine blk_drewN ?_ _ | refine blk_drew ?_ | refine blk_alloc ?_ _)); exact BK388.out) hb); have n6_ := Aside0.mk (below_step bS hb); clear HO380; clear HO385; clear HO401; clear BK374; clear BK388; clear HB; have HO380 := n0_; have HO385 := n1_; have HO401 := n2_; have HO406 := n3_; have BK374 := n4_; have BK388 := n5_; have HB := n6_; clear n0_ n1_ n2_ n3_ n4_ n5_ n6_; (try clear hb); (try clear hb2); (try clear hk); (try clear hi); (try clear ho0); obtain ⟨Ao76, co76, eo76⟩ := Kd.R_slice HO406.out; subst eo76; have hcz77_0 : w75.cell? ⟨gb388, 0, none⟩ = some (.int .i64 (rd t382 0)) := (blk_cell BK388.out 0).trans rfl; have hcz77_1 : w75.cell? ⟨gb388, 1, none⟩ = some (.int .i64 (rd t382 1)) := (blk_cell BK388.out 1).trans rfl; have hcz77_2 : w75.cell? ⟨gb388, 2, none⟩ = some (.int .i64 t390) := (blk_cell BK388.out 2).trans rfl; have hcz77_3 : w75.cell? ⟨gb388, 3, none⟩ = some (.int .i64 t393) := (blk_cell BK388.out 3).trans rfl; have hcz77_4 : w75.cell? ⟨gb388, 4, none⟩ = some (.int .i64 t394) := (blk_cell BK388.out 4).trans rfl; have hcz77_5 : w75.cell? ⟨gb388, 5, none⟩ = some (.int .i64 t395) := (blk_cell BK388.out 5).trans rfl; have hcz77_6 : w75.cell? ⟨gb388, 6, none⟩ = some (.slice Ao73 t398.length co73) := (blk_cell BK388.out 6).trans rfl; have hcz77_7 : w75.cell? ⟨gb388, 7, none⟩ = some (.slice none 0 0) := (blk_cell BK388.out 7).trans rfl; have hfz77_0 := blk_frozen BK388.out 0; have hfz77_1 := blk_frozen BK388.out 1; have hfz77_2 := blk_frozen BK388.out 2; have hfz77_3 := blk_frozen BK388.out 3; have hfz77_4 := blk_frozen BK388.out 4; have hfz77_5 := blk_frozen BK388.out 5; have hfz77_6 := blk_frozen BK388.out 6; have hfz77_7 := blk_frozen BK388.out 7) | ((with_reducible refine gate_callee (f := 24) rfl ?_); refine goesL_ (some 80) rfl rfl Try.func24 (by kernel_rfl) rfl #[.agg #[.int .i64 (rd t382 0), .int .i64 (rd t382 1), .int .i64 t390, .int .i64 t393, .int .i64 t394, .int .i64 t395, .slice Ao73 t398.length co73, .slice Ao76 t403.length co76], .int .i64 a1] rfl eA ?_; (with_reducible refine (impl_ShowTicket.calls k (rd t382 0) (rd t382 1) t390 t393 t394 t395 _ _ t398 _ _ t403 a1 t407 _ ?side1 ?side2 ?side3 ?side4 A19.out).mono ?_); (case side1 => refine (Kd.R_reads' (e := 3) (base := w.heap.size) (ok := fun k_ => ((True ∧ some k_ ≠ (.slice (some ad386) t382.length co56 : Value).ownBlock) ∧ some k_ ≠ (.slice Ao76 t403.length co76 : Value).ownBlock)) (n := t398.length) (c := co73) ?_).2.2; exact (by (with_reducible repeat (first | apply Kd.R_alloc | apply Kd.R_drewN | apply Kd.R_drew)); exact (Kd.R_mono (Kd.R_far (p := ⟨gb388, 7, none⟩) (Kd.R_types HO401.out BK388.out (by decide)) (fun _ hk => hk.2) (.slice Ao76 t403.length co76)) (fun _ h_ => h_.1)))); (case side2 => exact (Kd.R_reads' HO401.out).2.1); (case side3 => refine (Kd.R_reads' (e := 3) (base := w.heap.size) (ok := fun k_ => ((True ∧ some k_ ≠ (.slice (some ad386) t382.length co56 : Value).ownBlock) ∧ some k_ ≠ (.slice Ao73 t398.length co73 : Value).ownBlock)) (n := t403.length) (c := co76) ?_).2.2; exact (by (with_reducible repeat (first | apply Kd.R_alloc | apply Kd.R_drewN | apply Kd.R_drew)); exact (Kd.R_mono (Kd.R_far (p := ⟨gb388, 7, none⟩) (Kd.R_types HO406.out BK388.out (by decide)) (fun _ hk => hk.2) (.slice Ao76 t403.length co76)) (fun _ h_ => h_.1)))); (case side4 => exact (Kd.R_reads' HO406.out).2.1); rintro e w78 ⟨rfl, hb⟩; refine ⟨_, rfl, ?_⟩; have n0_ := Aside0.mk (Kd.R_below (by (with_reducible repeat (first | apply Kd.R_alloc | apply Kd.R_drewN | apply Kd.R_drew)); exact (Kd.R_mono (Kd.R_far (p := ⟨gb388, 7, none⟩) (Kd.R_types HO380.out BK388.out (by decide)) (fun _ hk => hk.2) (.slice Ao76 t403.length co76)) (fun _ h_ => h_.1))) hb); have n1_ := Aside0.mk (Kd.R_below (by (with_reducible repeat (first | apply Kd.R_alloc | apply Kd.R_drewN | apply Kd.R_drew)); exact (Kd.R_mono (Kd.R_far (p := ⟨gb388, 7, none⟩) (Kd.R_types HO385.out BK388.out (by decide)) (fun _ hk => hk.2) (.slice Ao76 t403.length co76)) (fun _ h_ => h_.1))) hb); have n2_ := Aside0.mk (Kd.R_below (by (with_reducible repeat (first | apply Kd.R_alloc | apply Kd.R_drewN | apply Kd.R_drew)); exact (Kd.R_mono (Kd.R_far (p := ⟨gb388, 7, none⟩) (Kd.R_types HO401.out BK388.out (by decide)) (fun _ hk => hk.2) (.slice Ao76 t403.length co76)) (fun _ h_ => h_.1))) hb); have n3_ := Aside0.mk (Kd.R_below (by (with_reducible repeat (first | apply Kd.R_alloc | apply Kd.R_drewN | apply Kd.R_drew)); exact (Kd.R_mono (Kd.R_far (p := ⟨gb388, 7, none⟩) (Kd.R_types HO406.out BK388.out (by decide)) (fun _ hk => hk.2) (.slice Ao76 t403.length co76)) (fun _ h_ => h_.1))) hb); have n4_ := Aside0.mk (blk_below (g := gb374) (o := .cells #[.int .i64 0, .int .i64 0, .int .i64 0, .int .i64 0, .int .i64 0, .int .i64 0, .slice none 0 0, .slice none 0 0] 52 (0, 0)) (by (with_reducible repeat (first | refine blk_drewN ?_ _ | refine blk_drew ?_ | refine blk_alloc ?_ _)); refine blk_far ?_ NB374_388.out _; (with_reducible repeat (first | refine blk_drewN ?_ _ | refine blk_drew ?_ | refine blk_alloc ?_ _)); exact BK374.out) hb); have n5_ := Aside0.mk (blk_below (g := gb388) (o := .cells #[.int .i64 (rd t382 0), .int .i64 (rd t382 1), .int .i64 t390, .int .i64 t393, .int .i64 t394, .int .i64 t395, .slice Ao73 t398.length co73, .slice Ao76 t403.length co76] 52 (0, 0)) (by (with_reducible repeat (first | refine blk_drewN ?_ _ | refine blk_drew ?_ | refine blk_alloc ?_ _)); refine blk_put (cs := #[.int .i64 (rd t382 0), .int .i64 (rd t382 1), .int .i64 t390, .int .i64 t393, .int .i64 t394, .int .i64 t395, .slice Ao73 t398.length co73, .slice none 0 0]) ?_ 7 _ rfl; (with_reducible repeat (first | refine blk_drewN ?_ _ | refine blk_drew ?_ | refine blk_alloc ?_ _)); exact BK388.out) hb); have n6_ := Aside0.mk (below_step bS hb); clear HO380; clear HO385; clear HO401; clear HO406; clear BK374; clear BK388; clear HB; have HO380 := n0_; have HO385 := n1_; have HO401 := n2_; have HO406 := n3_; have BK374 := n4_; have BK388 := n5_; have HB := n6_; clear n0_ n1_ n2_ n3_ n4_ n5_ n6_; (try clear hb); (try clear hb2); (try clear hk); (try clear hi); have hcz79_0 : w78.cell? ⟨gb374, 0, none⟩ = some (.int .i64 0) := (blk_cell BK374.out 0).trans rfl; have hcz79_1 : w78.cell? ⟨gb374, 1, none⟩ = some (.int .i64 0) := (blk_cell BK374.out 1).trans rfl; have hcz79_2 : w78.cell? ⟨gb374, 2, none⟩ = some (.int .i64 0) := (blk_cell BK374.out 2).trans rfl; have hcz79_3 : w78.cell? ⟨gb374, 3, none⟩ = some (.int .i64 0) := (blk_cell BK374.out 3).trans rfl; have hcz79_4 : w78.cell? ⟨gb374, 4, none⟩ = some (.int .i64 0) := (blk_cell BK374.out 4).trans rfl; have hcz79_5 : w78.cell? ⟨gb374, 5, none⟩ = some (.int .i64 0) := (blk_cell BK374.out 5).trans rfl; have hcz79_6 : w78.cell? ⟨gb374, 6, none⟩ = some (.slice none 0 0) := (blk_cell BK374.out 6).trans rfl; have hcz79_7 : w78.cell? ⟨gb374, 7, none⟩ = some (.slice none 0 0) := (blk_cell BK374.out 7).trans rfl; have hfz79_0 := blk_frozen BK374.out 0; have hfz79_1 := blk_frozen BK374.out 1; have hfz79_2 := blk_frozen BK374.out 2; have hfz79_3 := blk_frozen BK374.out 3; have hfz79_4 := blk_frozen BK374.out 4; have hfz79_5 := blk_frozen BK374.out 5; have hfz79_6 := blk_frozen BK374.out 6; have hfz79_7 := blk_frozen BK374.out 7))
           refine bodyPost_ret (results_ct rfl _ _ gb374 52 #[.int .i64 0, .int .i64 0, .int .i64 0, .int .i64 0, .int .i64 0, .int .i64 0, .slice none 0 0, .slice none 0 0] (0, 0) _ rfl (by (with_reducible repeat (first | refine blk_drewN ?_ _ | refine blk_drew ?_ | refine blk_alloc ?_ _)); refine blk_put (cs := #[.int .i64 0, .int .i64 0, .int .i64 0, .int .i64 0, .int .i64 0, .int .i64 0, .slice none 0 0, .slice none 0 0]) ?_ 7 _ rfl; (with_reducible repeat (first | refine blk_drewN ?_ _ | refine blk_drew ?_ | refine blk_alloc ?_ _)); refine blk_put (cs := #[.int .i64 0, .int .i64 0, .int .i64 0, .int .i64 0, .int .i64 0, .int .i64 0, .slice none 0 0, .slice none 0 0]) ?_ 6 _ rfl; (with_reducible repeat (first | refine blk_drewN ?_ _ | refine blk_drew ?_ | refine blk_alloc ?_ _)); refine blk_put (cs := #[.int .i64 0, .int .i64 0, .int .i64 0, .int .i64 0, .int .i64 0, .int .i64 0, .slice none 0 0, .slice none 0 0]) ?_ 5 _ rfl; (with_reducible repeat (first | refine blk_drewN ?_ _ | refine blk_drew ?_ | refine blk_alloc ?_ _)); refine blk_put (cs := #[.int .i64 0, .int .i64 0, .int .i64 0, .int .i64 0, .int .i64 0, .int .i64 0, .slice none 0 0, .slice none 0 0]) ?_ 4 _ rfl; (with_reducible repeat (first | refine blk_drewN ?_ _ | refine blk_drew ?_ | refine blk_alloc ?_ _)); refine blk_put (cs := #[.int .i64 0, .int .i64 0, .int .i64 0, .int .i64 0, .int .i64 0, .int .i64 0, .slice none 0 0, .slice none 0 0]) ?_ 3 _ rfl; (with_reducible repeat (first | refine blk_drewN ?_ _ | refine blk_drew ?_ | refine blk_alloc ?_ _)); refine blk_put (cs := #[.int .i64 0, .int .i64 0, .int .i64 0, .int .i64 0, .int .i64 0, .int .i64 0, .slice none 0 0, .slice none 0 0]) ?_ 2 _ rfl; (with_reducible repeat (first | refine blk_drewN ?_ _ | refine blk_drew ?_ | refine blk_alloc ?_ _)); refine blk_put (cs := #[.int .i64 0, .int .i64 0, .int .i64 0, .int .i64 0, .int .i64 0, .int .i64 0, .slice none 0 0, .slice none 0 0]) ?_ 1 _ rfl; (with_reducible repeat (first | refine blk_drewN ?_ _ | refine blk_drew ?_ | refine blk_alloc ?_ _)); refine blk_put (cs := #[.int .i64 0, .int .i64 0, .int .i64 0, .int .i64 0, .int .i64 0, .int .i64 0, .slice none 0 0, .slice none 0 0]) ?_ 0 _ rfl; (with_reducible repeat (first | refine blk_drewN ?_ _ | refine blk_drew ?_ | refine blk_alloc ?_ _)); exact BK374.out) Try.underlying52 rfl (by kernel_rfl)) rfl ?_
           exact ⟨_, _, by first | rfl | (simp [errW_none, errW_some] <;> rfl) | (simp [*, errW_none, errW_some] <;> rfl), by first | exact Kd.R_nil _ _ _ _ _ | exact Kd.N_nil _ _ _ _ _ | exact Kd.V_nil _ _ _ _ _ | exact Kd.Q_nil _ _ _ _ _ | exact Kd.S_nil _ _ _ _ _, by first | exact Kd.R_nil _ _ _ _ _ | exact Kd.N_nil _ _ _ _ _ | exact Kd.V_nil _ _ _ _ _ | exact Kd.Q_nil _ _ _ _ _ | exact Kd.S_nil _ _ _ _ _, bS⟩
         ·rw [if_neg c17] at H
          exact absurd H (by simp)
        ·rw [if_neg c15] at H
         exact absurd H (by simp)
       ·rw [if_neg c13] at H
        exact absurd H (by simp)
      ·rw [if_neg c11] at H
       exact absurd H (by simp)
     ·rw [if_neg c10] at H
      exact absurd H (by simp)
    ·rw [if_neg c9] at H
     exact absurd H (by simp)
   ·rw [if_neg c8] at H
    have c8b0 : ((t382.length : Int) == 2) = false := beq_eq_false_iff_ne.mpr c8
    have c8b1 : ((t382.length : Int) != 2) = true := bne_iff_ne.mpr c8
    simp only [Option.some.injEq, Prod.mk.injEq] at H
    obtain ⟨rfl, rfl, rfl, rfl, rfl, rfl, rfl, rfl, rfl⟩ := H
    go_enter Try.func27, Try.ntmps27
    go_wp2_with (first | ((with_reducible refine gate_dst (N := 4) rfl ?_); refine box_event ?hg (N := 4) ?hd (cs := #[.int .i64 0, .int .i64 0, .int .i64 0, .int .i64 0, .int .i64 0, .int .i64 0, .slice none 0 0, .slice none 0 0]) (t := 52) ?hr ?_; (case hd => rfl); (case hg => rfl); (case hr => first | (go_simp; done) | (go_simp; rfl)); intro gb374 hg w80 hbox hb; have n0_ := Aside0.mk (below_step bH hb); have n1_ := Aside0.mk (hbox); have n2_ := Aside0.mk ((bZ hg : w.heap.size ≤ gb374)); have n3_ := Aside0.mk ((bZ hg : w.heap.size ≤ gb374)); clear HB; have HB := n0_; have BK374 := n1_; have GW374 := n2_; have GE374 := n3_; clear n0_ n1_ n2_ n3_; clear hb hbox hg) | ((with_reducible refine gate_callee (f := 90) rfl ?_); refine goesL_ (some 16) rfl rfl Try.func90 (by kernel_rfl) rfl #[.string a0, .int .i64 a1] rfl eA ?_; (with_reducible refine (impl_Open.calls k a0 a1 t375 t376 _ A3.out).mono ?_); rintro e w81 ⟨rfl, hb⟩; refine ⟨_, rfl, ?_⟩; have n0_ := Aside0.mk (blk_below (kB BK374.out) hb); have n1_ := Aside0.mk (below_step bS hb); clear BK374; clear HB; have BK374 := n0_; have HB := n1_; clear n0_ n1_; (try clear hb); (try clear hb2); (try clear hk); (try clear hi)) | ((with_reducible refine gate_callee (f := 91) rfl ?_); refine goesL_ (some 21) rfl rfl Try.func91 (by kernel_rfl) rfl #[.string t375] rfl eA ?_; (with_reducible refine (impl_Parts.calls k t375 t377 t378 _ A4.out).mono ?_); rintro e w82 ⟨v379, rfl, ho0, hb⟩; refine ⟨_, rfl, ?_⟩; have n0_ := Aside0.mk (Kd.R_lower ho0 (below_size bS)); have n1_ := Aside0.mk (blk_below (kB BK374.out) hb); have n2_ := Aside0.mk (below_step bS hb); clear BK374; clear HB; have HO380 := n0_; have BK374 := n1_; have HB := n2_; clear n0_ n1_ n2_; (try clear hb); (try clear hb2); (try clear hk); (try clear hi); (try clear ho0); obtain ⟨Ao83, co83, eo83⟩ := Kd.R_slice HO380.out; subst eo83; have p381 : 0 ≤ (0 : Int) := (by omega); have q381 : 0 < (t377.length : Int) := of_decide_eq_true aA; obtain ⟨ad381, e381, hx381_0⟩ := Kd.at_string (Kd.R_reads' HO380.out).2.2 0 p381 q381; cases e381; have qi381 : (0 < t377.length) = True := eq_true (by omega); (try rw [show ((0 : Int)).toNat = 0 from rfl] at hx381_0); (try rw [Addr.add_zero'] at hx381_0); replace p381 := eq_true p381; replace q381 := eq_true q381) | ((with_reducible refine gate_callee (f := 92) rfl ?_); refine goesL_ (some 32) rfl rfl Try.func92 (by kernel_rfl) rfl #[.string (rdOf ByteArray.empty t377 0)] rfl eA ?_; (with_reducible refine (impl_ReadNums.calls k (rdOf ByteArray.empty t377 0) t382 t383 _ A7.out).mono ?_); rintro e w84 ⟨v384, rfl, ho0, hb⟩; refine ⟨_, rfl, ?_⟩; have n0_ := Aside0.mk (Kd.R_below (kR HO380.out) hb); have n1_ := Aside0.mk (Kd.R_lower ho0 (below_size bS)); have n2_ := Aside0.mk (blk_below (kB BK374.out) hb); have n3_ := Aside0.mk (below_step bS hb); clear HO380; clear BK374; clear HB; have HO380 := n0_; have HO385 := n1_; have BK374 := n2_; have HB := n3_; clear n0_ n1_ n2_ n3_; (try clear hb); (try clear hb2); (try clear hk); (try clear hi); (try clear ho0); obtain ⟨Ao85, co85, eo85⟩ := Kd.R_slice HO385.out; subst eo85; have hcz86_0 : w84.cell? ⟨gb374, 0, none⟩ = some (.int .i64 0) := (blk_cell BK374.out 0).trans rfl; have hcz86_1 : w84.cell? ⟨gb374, 1, none⟩ = some (.int .i64 0) := (blk_cell BK374.out 1).trans rfl; have hcz86_2 : w84.cell? ⟨gb374, 2, none⟩ = some (.int .i64 0) := (blk_cell BK374.out 2).trans rfl; have hcz86_3 : w84.cell? ⟨gb374, 3, none⟩ = some (.int .i64 0) := (blk_cell BK374.out 3).trans rfl; have hcz86_4 : w84.cell? ⟨gb374, 4, none⟩ = some (.int .i64 0) := (blk_cell BK374.out 4).trans rfl; have hcz86_5 : w84.cell? ⟨gb374, 5, none⟩ = some (.int .i64 0) := (blk_cell BK374.out 5).trans rfl; have hcz86_6 : w84.cell? ⟨gb374, 6, none⟩ = some (.slice none 0 0) := (blk_cell BK374.out 6).trans rfl; have hcz86_7 : w84.cell? ⟨gb374, 7, none⟩ = some (.slice none 0 0) := (blk_cell BK374.out 7).trans rfl; have hfz86_0 := blk_frozen BK374.out 0; have hfz86_1 := blk_frozen BK374.out 1; have hfz86_2 := blk_frozen BK374.out 2; have hfz86_3 := blk_frozen BK374.out 3; have hfz86_4 := blk_frozen BK374.out 4; have hfz86_5 := blk_frozen BK374.out 5; have hfz86_6 := blk_frozen BK374.out 6; have hfz86_7 := blk_frozen BK374.out 7))
    refine bodyPost_ret (results_ct rfl _ _ gb374 52 #[.int .i64 0, .int .i64 0, .int .i64 0, .int .i64 0, .int .i64 0, .int .i64 0, .slice none 0 0, .slice none 0 0] (0, 0) _ rfl (by (with_reducible repeat (first | refine blk_drewN ?_ _ | refine blk_drew ?_ | refine blk_alloc ?_ _)); refine blk_put (cs := #[.int .i64 0, .int .i64 0, .int .i64 0, .int .i64 0, .int .i64 0, .int .i64 0, .slice none 0 0, .slice none 0 0]) ?_ 7 _ rfl; (with_reducible repeat (first | refine blk_drewN ?_ _ | refine blk_drew ?_ | refine blk_alloc ?_ _)); refine blk_put (cs := #[.int .i64 0, .int .i64 0, .int .i64 0, .int .i64 0, .int .i64 0, .int .i64 0, .slice none 0 0, .slice none 0 0]) ?_ 6 _ rfl; (with_reducible repeat (first | refine blk_drewN ?_ _ | refine blk_drew ?_ | refine blk_alloc ?_ _)); refine blk_put (cs := #[.int .i64 0, .int .i64 0, .int .i64 0, .int .i64 0, .int .i64 0, .int .i64 0, .slice none 0 0, .slice none 0 0]) ?_ 5 _ rfl; (with_reducible repeat (first | refine blk_drewN ?_ _ | refine blk_drew ?_ | refine blk_alloc ?_ _)); refine blk_put (cs := #[.int .i64 0, .int .i64 0, .int .i64 0, .int .i64 0, .int .i64 0, .int .i64 0, .slice none 0 0, .slice none 0 0]) ?_ 4 _ rfl; (with_reducible repeat (first | refine blk_drewN ?_ _ | refine blk_drew ?_ | refine blk_alloc ?_ _)); refine blk_put (cs := #[.int .i64 0, .int .i64 0, .int .i64 0, .int .i64 0, .int .i64 0, .int .i64 0, .slice none 0 0, .slice none 0 0]) ?_ 3 _ rfl; (with_reducible repeat (first | refine blk_drewN ?_ _ | refine blk_drew ?_ | refine blk_alloc ?_ _)); refine blk_put (cs := #[.int .i64 0, .int .i64 0, .int .i64 0, .int .i64 0, .int .i64 0, .int .i64 0, .slice none 0 0, .slice none 0 0]) ?_ 2 _ rfl; (with_reducible repeat (first | refine blk_drewN ?_ _ | refine blk_drew ?_ | refine blk_alloc ?_ _)); refine blk_put (cs := #[.int .i64 0, .int .i64 0, .int .i64 0, .int .i64 0, .int .i64 0, .int .i64 0, .slice none 0 0, .slice none 0 0]) ?_ 1 _ rfl; (with_reducible repeat (first | refine blk_drewN ?_ _ | refine blk_drew ?_ | refine blk_alloc ?_ _)); refine blk_put (cs := #[.int .i64 0, .int .i64 0, .int .i64 0, .int .i64 0, .int .i64 0, .int .i64 0, .slice none 0 0, .slice none 0 0]) ?_ 0 _ rfl; (with_reducible repeat (first | refine blk_drewN ?_ _ | refine blk_drew ?_ | refine blk_alloc ?_ _)); exact BK374.out) Try.underlying52 rfl (by kernel_rfl)) rfl ?_
    exact ⟨_, _, by first | rfl | (simp [errW_none, errW_some] <;> rfl) | (simp [*, errW_none, errW_some] <;> rfl), by first | exact Kd.R_nil _ _ _ _ _ | exact Kd.N_nil _ _ _ _ _ | exact Kd.V_nil _ _ _ _ _ | exact Kd.Q_nil _ _ _ _ _ | exact Kd.S_nil _ _ _ _ _, by first | exact Kd.R_nil _ _ _ _ _ | exact Kd.N_nil _ _ _ _ _ | exact Kd.V_nil _ _ _ _ _ | exact Kd.Q_nil _ _ _ _ _ | exact Kd.S_nil _ _ _ _ _, bS⟩
  ·rw [if_neg c6] at H
   exact absurd H (by simp)
 ·rw [if_neg c5] at H
  have c5b0 : ((t377.length : Int) == 5) = false := beq_eq_false_iff_ne.mpr c5
  have c5b1 : ((t377.length : Int) != 5) = true := bne_iff_ne.mpr c5
  simp only [Option.some.injEq, Prod.mk.injEq] at H
  obtain ⟨rfl, rfl, rfl, rfl, rfl, rfl, rfl, rfl, rfl⟩ := H
  go_enter Try.func27, Try.ntmps27
  go_wp2_with (first | ((with_reducible refine gate_dst (N := 4) rfl ?_); refine box_event ?hg (N := 4) ?hd (cs := #[.int .i64 0, .int .i64 0, .int .i64 0, .int .i64 0, .int .i64 0, .int .i64 0, .slice none 0 0, .slice none 0 0]) (t := 52) ?hr ?_; (case hd => rfl); (case hg => rfl); (case hr => first | (go_simp; done) | (go_simp; rfl)); intro gb374 hg w87 hbox hb; have n0_ := Aside0.mk (below_step bH hb); have n1_ := Aside0.mk (hbox); have n2_ := Aside0.mk ((bZ hg : w.heap.size ≤ gb374)); have n3_ := Aside0.mk ((bZ hg : w.heap.size ≤ gb374)); clear HB; have HB := n0_; have BK374 := n1_; have GW374 := n2_; have GE374 := n3_; clear n0_ n1_ n2_ n3_; clear hb hbox hg) | ((with_reducible refine gate_callee (f := 90) rfl ?_); refine goesL_ (some 16) rfl rfl Try.func90 (by kernel_rfl) rfl #[.string a0, .int .i64 a1] rfl eA ?_; (with_reducible refine (impl_Open.calls k a0 a1 t375 t376 _ A3.out).mono ?_); rintro e w88 ⟨rfl, hb⟩; refine ⟨_, rfl, ?_⟩; have n0_ := Aside0.mk (blk_below (kB BK374.out) hb); have n1_ := Aside0.mk (below_step bS hb); clear BK374; clear HB; have BK374 := n0_; have HB := n1_; clear n0_ n1_; (try clear hb); (try clear hb2); (try clear hk); (try clear hi)) | ((with_reducible refine gate_callee (f := 91) rfl ?_); refine goesL_ (some 21) rfl rfl Try.func91 (by kernel_rfl) rfl #[.string t375] rfl eA ?_; (with_reducible refine (impl_Parts.calls k t375 t377 t378 _ A4.out).mono ?_); rintro e w89 ⟨v379, rfl, ho0, hb⟩; refine ⟨_, rfl, ?_⟩; have n0_ := Aside0.mk (Kd.R_lower ho0 (below_size bS)); have n1_ := Aside0.mk (blk_below (kB BK374.out) hb); have n2_ := Aside0.mk (below_step bS hb); clear BK374; clear HB; have HO380 := n0_; have BK374 := n1_; have HB := n2_; clear n0_ n1_ n2_; (try clear hb); (try clear hb2); (try clear hk); (try clear hi); (try clear ho0); obtain ⟨Ao90, co90, eo90⟩ := Kd.R_slice HO380.out; subst eo90; have hcz91_0 : w89.cell? ⟨gb374, 0, none⟩ = some (.int .i64 0) := (blk_cell BK374.out 0).trans rfl; have hcz91_1 : w89.cell? ⟨gb374, 1, none⟩ = some (.int .i64 0) := (blk_cell BK374.out 1).trans rfl; have hcz91_2 : w89.cell? ⟨gb374, 2, none⟩ = some (.int .i64 0) := (blk_cell BK374.out 2).trans rfl; have hcz91_3 : w89.cell? ⟨gb374, 3, none⟩ = some (.int .i64 0) := (blk_cell BK374.out 3).trans rfl; have hcz91_4 : w89.cell? ⟨gb374, 4, none⟩ = some (.int .i64 0) := (blk_cell BK374.out 4).trans rfl; have hcz91_5 : w89.cell? ⟨gb374, 5, none⟩ = some (.int .i64 0) := (blk_cell BK374.out 5).trans rfl; have hcz91_6 : w89.cell? ⟨gb374, 6, none⟩ = some (.slice none 0 0) := (blk_cell BK374.out 6).trans rfl; have hcz91_7 : w89.cell? ⟨gb374, 7, none⟩ = some (.slice none 0 0) := (blk_cell BK374.out 7).trans rfl; have hfz91_0 := blk_frozen BK374.out 0; have hfz91_1 := blk_frozen BK374.out 1; have hfz91_2 := blk_frozen BK374.out 2; have hfz91_3 := blk_frozen BK374.out 3; have hfz91_4 := blk_frozen BK374.out 4; have hfz91_5 := blk_frozen BK374.out 5; have hfz91_6 := blk_frozen BK374.out 6; have hfz91_7 := blk_frozen BK374.out 7))
  refine bodyPost_ret (results_ct rfl _ _ gb374 52 #[.int .i64 0, .int .i64 0, .int .i64 0, .int .i64 0, .int .i64 0, .int .i64 0, .slice none 0 0, .slice none 0 0] (0, 0) _ rfl (by (with_reducible repeat (first | refine blk_drewN ?_ _ | refine blk_drew ?_ | refine blk_alloc ?_ _)); refine blk_put (cs := #[.int .i64 0, .int .i64 0, .int .i64 0, .int .i64 0, .int .i64 0, .int .i64 0, .slice none 0 0, .slice none 0 0]) ?_ 7 _ rfl; (with_reducible repeat (first | refine blk_drewN ?_ _ | refine blk_drew ?_ | refine blk_alloc ?_ _)); refine blk_put (cs := #[.int .i64 0, .int .i64 0, .int .i64 0, .int .i64 0, .int .i64 0, .int .i64 0, .slice none 0 0, .slice none 0 0]) ?_ 6 _ rfl; (with_reducible repeat (first | refine blk_drewN ?_ _ | refine blk_drew ?_ | refine blk_alloc ?_ _)); refine blk_put (cs := #[.int .i64 0, .int .i64 0, .int .i64 0, .int .i64 0, .int .i64 0, .int .i64 0, .slice none 0 0, .slice none 0 0]) ?_ 5 _ rfl; (with_reducible repeat (first | refine blk_drewN ?_ _ | refine blk_drew ?_ | refine blk_alloc ?_ _)); refine blk_put (cs := #[.int .i64 0, .int .i64 0, .int .i64 0, .int .i64 0, .int .i64 0, .int .i64 0, .slice none 0 0, .slice none 0 0]) ?_ 4 _ rfl; (with_reducible repeat (first | refine blk_drewN ?_ _ | refine blk_drew ?_ | refine blk_alloc ?_ _)); refine blk_put (cs := #[.int .i64 0, .int .i64 0, .int .i64 0, .int .i64 0, .int .i64 0, .int .i64 0, .slice none 0 0, .slice none 0 0]) ?_ 3 _ rfl; (with_reducible repeat (first | refine blk_drewN ?_ _ | refine blk_drew ?_ | refine blk_alloc ?_ _)); refine blk_put (cs := #[.int .i64 0, .int .i64 0, .int .i64 0, .int .i64 0, .int .i64 0, .int .i64 0, .slice none 0 0, .slice none 0 0]) ?_ 2 _ rfl; (with_reducible repeat (first | refine blk_drewN ?_ _ | refine blk_drew ?_ | refine blk_alloc ?_ _)); refine blk_put (cs := #[.int .i64 0, .int .i64 0, .int .i64 0, .int .i64 0, .int .i64 0, .int .i64 0, .slice none 0 0, .slice none 0 0]) ?_ 1 _ rfl; (with_reducible repeat (first | refine blk_drewN ?_ _ | refine blk_drew ?_ | refine blk_alloc ?_ _)); refine blk_put (cs := #[.int .i64 0, .int .i64 0, .int .i64 0, .int .i64 0, .int .i64 0, .int .i64 0, .slice none 0 0, .slice none 0 0]) ?_ 0 _ rfl; (with_reducible repeat (first | refine blk_drewN ?_ _ | refine blk_drew ?_ | refine blk_alloc ?_ _)); exact BK374.out) Try.underlying52 rfl (by kernel_rfl)) rfl ?_
  exact ⟨_, _, by first | rfl | (simp [errW_none, errW_some] <;> rfl) | (simp [*, errW_none, errW_some] <;> rfl), by first | exact Kd.R_nil _ _ _ _ _ | exact Kd.N_nil _ _ _ _ _ | exact Kd.V_nil _ _ _ _ _ | exact Kd.Q_nil _ _ _ _ _ | exact Kd.S_nil _ _ _ _ _, by first | exact Kd.R_nil _ _ _ _ _ | exact Kd.N_nil _ _ _ _ _ | exact Kd.V_nil _ _ _ _ _ | exact Kd.Q_nil _ _ _ _ _ | exact Kd.S_nil _ _ _ _ _, bS⟩

/-! ### laws_markIntS: function 94 -/
def laws_markIntS.l0 : Nat → List Int → Int → Int → Option (Int × List Int)
 | 0, _, _, _ => none
 | k + 1, x0, x1, x5 => if x5 < (x0.length : Int) then (if 0 ≤ x5 then (laws_markIntS.l0 k (x0.set (x5 : Int).toNat x1) (wrap64 (x1 + 1)) (wrap64 (x5 + 1))) else (none)) else (some (x1, x0))
def laws_markIntS.f (k : Nat) (l0 : List Int) (a1 : Int) : Option (Int × List Int) := laws_markIntS.l0 k l0 a1 0
theorem laws_markIntS.mono_l : ∀ k, (∀ y0 y1 y2, LeO (laws_markIntS.l0 k y0 y1 y2) (laws_markIntS.l0 (k + 1) y0 y1 y2))
 | 0 => fun _ _ _ r h => by simp [laws_markIntS.l0] at h
 | k + 1 => by
  have ih0 := laws_markIntS.mono_l k
  ·intro y0 y1 y2
   unfold laws_markIntS.l0
   repeat' first
   | (with_reducible exact ih0 _ _ _)
   | (with_reducible exact LeO.refl _)
   | (with_reducible exact LeO.none _)
   | (with_reducible refine LeO.ite ?_ ?_)
   | (with_reducible refine LeO.bind ?_ (fun _ => ?_))
   | exact ih0 _ _ _
   | exact LeO.none _
   | refine LeO.ite ?_ ?_
   | refine LeO.bind ?_ (fun _ => ?_)
theorem laws_markIntS.mono : ∀ a0 a1 k, LeO (laws_markIntS.f k a0 a1) (laws_markIntS.f (k + 1) a0 a1) := by
 intro a0 a1 k
 have ih0 := laws_markIntS.mono_l k
 unfold laws_markIntS.f
 repeat' first
   | (with_reducible exact ih0 _ _ _)
   | (with_reducible exact LeO.refl _)
   | (with_reducible exact LeO.none _)
   | (with_reducible refine LeO.ite ?_ ?_)
   | (with_reducible refine LeO.bind ?_ (fun _ => ?_))
   | exact ih0 _ _ _
   | exact LeO.none _
   | refine LeO.ite ?_ ?_
   | refine LeO.bind ?_ (fun _ => ?_)
set_option maxHeartbeats 8000000 in
set_option maxRecDepth 100000 in
theorem laws_markIntS.calls (k : Nat) (P0_ : Nat → Prop) (u9000_ : Value) (l0 : List Int) (a1 : Int) (r1 : Int) (r2 : List Int) (w0 w : World) (hB : Below w0.heap.size w0 w) (ho0 : Kd.R (Kd.int .i64) 3 w w0.heap.size P0_ u9000_ l0) (h : laws_markIntS.f k l0 a1 = some (r1, r2)) :
  Calls Try.prog 94 #[u9000_, .int .i64 a1] w fun e w' => e = .returned (.int .i64 r1) ∧ Kd.R (Kd.int .i64) 3 w' w0.heap.size (fun k_ => (P0_ k_ ∨ w.heap.size ≤ k_)) u9000_ r2 ∧ Below w0.heap.size w0 w' ∧ Kept w w' (fun k_ => P0_ k_) := by
 have HO0 := Aside0.mk (show Kd.R (Kd.int .i64) 3 w w0.heap.size (fun k_ => (P0_ k_ ∨ w.heap.size ≤ k_)) u9000_ l0 from Kd.R_mono ho0 (fun k_ hk => (.inl hk)))
 have HK := Aside0.mk (Kept.refl w (fun k_ => P0_ k_))
 have HW0 := Aside0.mk hB.size
 have HB := Aside0.mk hB
 clear hB
 have H : (laws_markIntS.l0 k l0 a1 0) = some (r1, r2) := h
 clear h
 have H' := Aside0.mk H
 clear H
 go_enter Try.func94, Try.ntmps94
 go_wp2
 go_loopg [1, 5] k (fun kq v1 v5 w' => ∃ (x0_1 : List Int) (x1_1 : Int) (x5_1 : Int), v1 = .int .i64 x1_1 ∧ v5 = .int .i64 x5_1 ∧ Aside0 (laws_markIntS.l0 kq x0_1 x1_1 x5_1 = some (r1, r2)) ∧ Aside0 (kq ≤ k) ∧ Aside0 (Kd.R (Kd.int .i64) 3 w' w0.heap.size (fun k_ => (P0_ k_ ∨ w.heap.size ≤ k_)) u9000_ x0_1) ∧ Aside0 (Kept w w' (fun k_ => P0_ k_)) ∧ Aside0 (Below w0.heap.size w0 w'))
 case atStart => exact ⟨(l0), (a1), (0), eX, eX, H', ⟨Nat.le_refl _⟩, ⟨by (with_reducible repeat (first | apply Kd.R_alloc | apply Kd.R_drewN | apply Kd.R_drew)); exact HO0.out⟩, ⟨by repeat (first | (with_reducible first | exact HK.out | apply Kept.alloc | apply Kept.drewN | apply Kept.drew) | exact HK.out)⟩, ⟨by repeat (first | (with_reducible first | exact HB.out | apply below_alloc | apply pw_below_drewN | apply below_drew1) | exact HB.out)⟩⟩
 case round =>
  clear H'
  try clear p2
  obtain ⟨x0_1, x1_1, x5_1, rfl, rfl, HA, HK1, HO_0, HK, HB⟩ := hrel
  cases gk with
  | zero => exact absurd HA.out (by simp [laws_markIntS.l0])
  | succ k1 =>
   have H := HA.out
   clear HA
   simp only [laws_markIntS.l0] at H
   by_cases c3 : x5_1 < (x0_1.length : Int)
   ·rw [if_pos c3] at H
    have c3b0 : decide (x5_1 < (x0_1.length : Int)) = true := decide_eq_true c3
    clear c3
    by_cases c4 : 0 ≤ x5_1
    ·rw [if_pos c4] at H
     have c4b0 : decide (0 ≤ x5_1) = true := decide_eq_true c4
     clear c4
     obtain ⟨y408, hy408⟩ : ∃ y_ : List Int, y_ = (x0_1.set (x5_1 : Int).toNat x1_1) := ⟨_, rfl⟩
     replace H : (laws_markIntS.l0 k1 y408 (wrap64 (x1_1 + 1)) (wrap64 (x5_1 + 1))) = some (r1, r2) := by first | (rw [hy408]; with_reducible exact H) | (have H2_ := (Option.bind_some _ _).symm.trans H; rw [hy408]; with_reducible exact H2_) | (have H2_ := (Option.bind_some _ _).symm.trans H; with_reducible exact H2_) | with_reducible exact H | (rw [hy408]; exact H) | exact H
     have Ny408 := Aside0.mk hy408
     clear hy408
     have H' := Aside0.mk H
     clear H
     obtain ⟨Ao6, co6, eo6⟩ := Kd.R_slice HO_0.out
     subst eo6
     have p5 : 0 ≤ (x5_1 : Int) := of_decide_eq_true aA
     have q5 : (x5_1 : Int) < ((x0_1.length : Int) : Int) := of_decide_eq_true aA
     obtain ⟨go5, co5, eo5, gb5, gl5, cl5, HG5⟩ := Kd.R_form HO_0.out (by omega)
     (first | cases eo5 | (injection eo5 with ea_ en_ ec_; (first | subst ea_ | (injection ea_ with ea_; subst ea_)); subst ec_; clear en_))
     have GB5 := Aside0.mk gb5
     have GG5 := Aside0.mk HG5
     clear gb5 gl5 HG5
     have HMgo5 := Aside0.mk (show (P0_ go5 ∨ w.heap.size ≤ go5) from (HO_0.out.1 _ rfl))
     obtain ⟨hx5_0, hf5_0⟩ := Kd.R_celln 0 HO_0.out (x5_1 : Int) p5 q5
     replace p5 := eq_true p5
     replace q5 := eq_true q5
     have HP7 := Kd.R_putg HO_0.out (x5_1 : Int) x1_1
     go_wp2_with (first | ((with_reducible refine gate_store (t := 3) (p := 15) rfl ?_); refine store_event (t := 3) (p := 15) (v := ?vo_w8) (w1 := (wr.setCell ⟨go5, (x5_1 : Int).toNat, none⟩ (.int .i64 x1_1))) ?hg ?ho ?hn ?hr ?_; (case ho => rfl); (case hg => rfl); (case hn => rfl); (case hr => first | (go_simp; done) | (go_simp; rfl)); intro w8 hw; have hg : wr.grownBy w8 (some go5) := (by rw [hw]; exact HP7.2); have hp_ : Kd.R (Kd.int .i64) 3 w8 w0.heap.size (fun k_ => (P0_ k_ ∨ w.heap.size ≤ k_)) (.slice (some ⟨go5, 0, none⟩) x0_1.length co6) y408 := (by rw [hw, Ny408.out]; exact HP7.1); clear HP7; have n0_ := Aside0.mk (hp_); have n1_ := Aside0.mk ((by rw [hw]; exact below_set (HB.out) GB5.out : Below w0.heap.size w0 w8)); have n2_ := Aside0.mk (Kept.of_grown (S := (fun k_ => P0_ k_)) hg (by repeat (first | (with_reducible first | exact HK.out | apply Kept.alloc | apply Kept.drewN | apply Kept.drew) | exact HK.out)) (fun k_ e_ => (HO_0.out.1 k_ e_))); clear HO_0; clear HB; clear HK; have HO_0 := n0_; have HB := n1_; have HK := n2_; clear n0_ n1_ n2_; clear hg hw hp_))
     go_roundg k1
     case measure => have := HK1.out; omega
     case rel => exact ⟨(y408), (wrap64 (x1_1 + 1)), (wrap64 (x5_1 + 1)), eX, eX, H', ⟨by have := HK1.out; omega⟩, ⟨by (with_reducible repeat (first | apply Kd.R_alloc | apply Kd.R_drewN | apply Kd.R_drew)); exact HO_0.out⟩, ⟨by repeat (first | (with_reducible first | exact HK.out | apply Kept.alloc | apply Kept.drewN | apply Kept.drew) | exact HK.out)⟩, ⟨by repeat (first | (with_reducible first | exact HB.out | apply below_alloc | apply pw_below_drewN | apply below_drew1) | exact HB.out)⟩⟩
    ·rw [if_neg c4] at H
     exact absurd H (by simp)
   ·rw [if_neg c3] at H
    have c3b0 : decide (x5_1 < (x0_1.length : Int)) = false := decide_eq_false c3
    clear c3
    simp only [Option.some.injEq, Prod.mk.injEq] at H
    obtain ⟨rfl, rfl⟩ := H
    obtain ⟨Ao9, co9, eo9⟩ := Kd.R_slice HO_0.out
    subst eo9
    go_wp2
    go_ret
    exact ⟨eE, by (with_reducible repeat (first | apply Kd.R_alloc | apply Kd.R_drewN | apply Kd.R_drew)); exact HO_0.out, bH, by repeat (first | (with_reducible first | exact HK.out | apply Kept.alloc | apply Kept.drewN | apply Kept.drew) | exact HK.out)⟩

end Go.Proofs.Ytmhjpnjolgigmaa.OFnExactReadTicket
-- halved
-- squeezed
