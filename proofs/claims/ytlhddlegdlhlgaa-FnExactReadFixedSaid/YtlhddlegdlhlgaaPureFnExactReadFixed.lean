/- The program's ReadFixed returns what the reference's returns, for all texts and numbers. -/
import Derived.Test.YtlhddlegdlhlgaaPFnExactReadFixedx1
import Derived.Test.YtlhddlegdlhlgaaBase
namespace Go.Proofs.Ytlhddlegdlhlgaa.Pure
open Go.RowKit Go.Proofs.Ytlhddlegdlhlgaa.PFnExactReadFixed Go.Proofs.YtlhddlegdlhlgaaW.PrintWords Go.Proofs.YtlhddlegdlhlgaaW.PrintLast Go.Proofs.YtlhddlegdlhlgaaW.PrintMore Go.Proofs.Ytlhddlegdlhlgaa.Base
set_option linter.unusedVariables false
set_option linter.unusedSimpArgs false
theorem spec_l1In_eq (a lo hi : Int) : spec_l1In.f a lo hi = some (decide (lo ≤ a ∧ a ≤ hi)) := by
  unfold spec_l1In.f
  by_cases h : a ≥ lo
  · rw [if_pos h]; congr 1; simp [show lo ≤ a from h]
  · rw [if_neg h]; congr 1; simp [show ¬ lo ≤ a from h]

theorem spec_ReadFixed_loop (s : ByteArray) (hs : s.size ≤ 140737488355327) (w : Nat) (h7 : w ≤ 7) (hw : w ≤ (bl s).length) (d : Nat) : ∀ (i : Nat), i + d = w →
    Ev (fun k => spec_ReadFixed.l0 k s (w : Int) ((be ((bl s).take i) : Nat) : Int) (i : Int)) (((be ((bl s).take w) : Nat) : Int), true) := by
  have hl := bl_len s
  induction d with
  | zero =>
    intro i hi
    have : i = w := by omega
    subst this
    refine Ev.step (f := fun _ => some (((be ((bl s).take i) : Nat) : Int), true)) (fun k => ?_) (Ev.now _)
    simp only [spec_ReadFixed.l0]
    rw [if_neg (by omega)]
  | succ d ih =>
    intro i hi
    have hlt : i < (bl s).length := by omega
    have h1 : (i : Int) < (w : Int) := by omega
    have h2 : 0 ≤ (i : Int) := by omega
    have h3 : (i : Int) < (s.size : Int) := by omega
    have hw1 : Aside0 (wrap64 ((i : Int) + 1) = ((i + 1 : Nat) : Int)) := ⟨by rw [w64 (by omega) (by omega)]; omega⟩
    have hb256 : (bl s)[i] < 256 := bl_lt s _ (List.getElem_mem hlt)
    have hbe := be_lt ((bl s).take i) (fun x hx => bl_lt s x (List.mem_of_mem_take hx))
    rw [List.length_take, Nat.min_eq_left (by omega)] at hbe
    have hp : 256 ^ i ≤ 256 ^ 6 := Nat.pow_le_pow_right (by decide) (by omega)
    have hbe' : be ((bl s).take i) < 281474976710656 := Nat.lt_of_lt_of_le hbe hp
    clear hbe hp
    refine Ev.step (fun k => ?_) (ih (i + 1) (by omega))
    simp only [spec_ReadFixed.l0]
    rw [if_pos h1, if_pos h2, if_pos h3, bt_get s i hlt, hw1.out, be_take _ _ hlt, w64 (x := (((bl s)[i] : Nat) : Int)) (by omega) (by omega), w64 (x := _ * 256) (by omega) (by omega), w64 (x := _ + _) (by omega) (by omega)]
    rfl
theorem spec_ReadFixed_ev (s : ByteArray) (hs : s.size ≤ 140737488355327) (w : Int) : Ev (fun k => spec_ReadFixed.f k s w) (rfI s w) := by
  have hl := bl_len s
  unfold spec_ReadFixed.f rfI
  simp only [spec_l1In_eq, Option.bind_some]
  by_cases h : 1 ≤ w ∧ w ≤ 7
  · simp only [h, decide_true, if_true, true_and]
    by_cases hk : w ≤ (s.size : Int)
    · rw [if_pos hk, decide_eq_false (by omega)]
      obtain ⟨n, rfl⟩ := Int.eq_ofNat_of_zero_le (show 0 ≤ w by omega)
      refine Ev.step (fun k => ?_) (spec_ReadFixed_loop s hs n (by omega) (by omega) n 0 (by omega))
      simp [spec_ReadFixed.j0, be]
    · rw [if_neg hk, decide_eq_true (by omega)]
      refine Ev.step (f := fun _ => some (0, false)) (fun k => ?_) (Ev.now _)
      simp [spec_ReadFixed.j0]
  · rw [if_neg (fun e => h ⟨e.1, e.2.1⟩)]
    simp only [h, decide_false]
    refine Ev.step (f := fun _ => some (0, false)) (fun k => ?_) (Ev.now _)
    simp [spec_ReadFixed.j0]

theorem impl_within_eq (a lo hi : Int) : impl_within.f a lo hi = some (decide (lo ≤ a ∧ a ≤ hi)) := by
  unfold impl_within.f
  by_cases h : a ≥ lo
  · rw [if_pos h]; congr 1; simp [show lo ≤ a from h]
  · rw [if_neg h]; congr 1; simp [show ¬ lo ≤ a from h]

theorem impl_ReadFixed_loop (s : ByteArray) (hs : s.size ≤ 140737488355327) (w : Nat) (h7 : w ≤ 7) (hw : w ≤ (bl s).length) (d : Nat) : ∀ (i : Nat), i + d = w →
    Ev (fun k => impl_ReadFixed.l0 k s (w : Int) ((be ((bl s).take i) : Nat) : Int) (i : Int)) (((be ((bl s).take w) : Nat) : Int), true) := by
  have hl := bl_len s
  induction d with
  | zero =>
    intro i hi
    have : i = w := by omega
    subst this
    refine Ev.step (f := fun _ => some (((be ((bl s).take i) : Nat) : Int), true)) (fun k => ?_) (Ev.now _)
    simp only [impl_ReadFixed.l0]
    rw [if_neg (by omega)]
  | succ d ih =>
    intro i hi
    have hlt : i < (bl s).length := by omega
    have h1 : (i : Int) < (w : Int) := by omega
    have h2 : 0 ≤ (i : Int) := by omega
    have h3 : (i : Int) < (s.size : Int) := by omega
    have hw1 : Aside0 (wrap64 ((i : Int) + 1) = ((i + 1 : Nat) : Int)) := ⟨by rw [w64 (by omega) (by omega)]; omega⟩
    have hb256 : (bl s)[i] < 256 := bl_lt s _ (List.getElem_mem hlt)
    have hbe := be_lt ((bl s).take i) (fun x hx => bl_lt s x (List.mem_of_mem_take hx))
    rw [List.length_take, Nat.min_eq_left (by omega)] at hbe
    have hp : 256 ^ i ≤ 256 ^ 6 := Nat.pow_le_pow_right (by decide) (by omega)
    have hbe' : be ((bl s).take i) < 281474976710656 := Nat.lt_of_lt_of_le hbe hp
    clear hbe hp
    refine Ev.step (fun k => ?_) (ih (i + 1) (by omega))
    simp only [impl_ReadFixed.l0]
    rw [if_pos h1, if_pos h2, if_pos h3, bt_get s i hlt, hw1.out, be_take _ _ hlt, w64 (x := (((bl s)[i] : Nat) : Int)) (by omega) (by omega), w64 (x := _ * 256) (by omega) (by omega), bor_join 8 _ _ (by omega) (by omega) (by omega) (by omega) (by omega) (by omega)]
    rfl
theorem impl_ReadFixed_ev (s : ByteArray) (hs : s.size ≤ 140737488355327) (w : Int) : Ev (fun k => impl_ReadFixed.f k s w) (rfI s w) := by
  have hl := bl_len s
  unfold impl_ReadFixed.f rfI
  simp only [impl_within_eq, Option.bind_some]
  by_cases h : 1 ≤ w ∧ w ≤ 7
  · simp only [h, decide_true, if_true, true_and]
    by_cases hk : w ≤ (s.size : Int)
    · rw [if_pos hk, decide_eq_false (by omega)]
      obtain ⟨n, rfl⟩ := Int.eq_ofNat_of_zero_le (show 0 ≤ w by omega)
      refine Ev.step (fun k => ?_) (impl_ReadFixed_loop s hs n (by omega) (by omega) n 0 (by omega))
      simp [impl_ReadFixed.j0, be]
    · rw [if_neg hk, decide_eq_true (by omega)]
      refine Ev.step (f := fun _ => some (0, false)) (fun k => ?_) (Ev.now _)
      simp [impl_ReadFixed.j0]
  · rw [if_neg (fun e => h ⟨e.1, e.2.1⟩)]
    simp only [h, decide_false]
    refine Ev.step (f := fun _ => some (0, false)) (fun k => ?_) (Ev.now _)
    simp [impl_ReadFixed.j0]

theorem FnExactReadFixed : laws_FnExactReadFixed.Pure := by
  intro s w hs _
  by_cases h : (s.size : Int) > 1048576
  · exact ⟨0, by unfold laws_FnExactReadFixed.f; rw [if_pos h]⟩
  · apply Ev.rounds
    unfold laws_FnExactReadFixed.f
    simp only [h, if_false]
    refine Ev.bind (spec_ReadFixed_ev s (by omega) w) (Ev.bind (impl_ReadFixed_ev s (by omega) w) ?_)
    simp
    exact Ev.now _

end Go.Proofs.Ytlhddlegdlhlgaa.Pure
