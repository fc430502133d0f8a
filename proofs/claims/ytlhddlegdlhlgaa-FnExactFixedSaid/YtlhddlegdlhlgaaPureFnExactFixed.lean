/- The program's Fixed returns what the reference's returns, for all numbers. -/
import Derived.Test.YtlhddlegdlhlgaaPFnExactFixedx1
import Derived.Test.YtlhddlegdlhlgaaBase
namespace Go.Proofs.Ytlhddlegdlhlgaa.Pure
open Go.RowKit Go.Proofs.Ytlhddlegdlhlgaa.PFnExactFixed Go.Proofs.YtlhddlegdlhlgaaW.PrintWords Go.Proofs.YtlhddlegdlhlgaaW.PrintLast Go.Proofs.YtlhddlegdlhlgaaW.PrintMore Go.Proofs.Ytlhddlegdlhlgaa.Base
set_option linter.unusedVariables false
set_option linter.unusedSimpArgs false
theorem spec_l1In_eq (a lo hi : Int) : spec_l1In.f a lo hi = some (decide (lo ≤ a ∧ a ≤ hi)) := by
  unfold spec_l1In.f
  by_cases h : a ≥ lo
  · rw [if_pos h]; congr 1; simp [show lo ≤ a from h]
  · rw [if_neg h]; congr 1; simp [show ¬ lo ≤ a from h]

theorem spec_Fixed_loop (w : Nat) (h7 : w ≤ 7) (d : Nat) : ∀ (i n : Nat) (acc : ByteArray), i + d = w → n < 9223372036854775808 → acc.size ≤ i →
    Ev (fun k => spec_Fixed.l0 k (n : Int) (w : Int) acc (i : Int)) (if 0 < n / 256 ^ d then (⟨#[]⟩ : ByteArray) else ofB (fixB d n) ++ acc) := by
  have e256 : ((256 : Nat) : Int) = 256 := rfl
  induction d with
  | zero =>
    intro i n acc hi hn ha
    refine Ev.step (f := fun _ => some (if 0 < n / 256 ^ 0 then (⟨#[]⟩ : ByteArray) else ofB (fixB 0 n) ++ acc)) (fun k => ?_) (Ev.now _)
    simp only [spec_Fixed.l0]
    rw [if_neg (by omega), Nat.pow_zero, Nat.div_one]
    by_cases h : 0 < n
    · rw [if_pos (by omega), if_pos h]
    · rw [if_neg (by omega), if_neg h, fixB, ofB_nil, empty_append']
  | succ d ih =>
    intro i n acc hi hn ha
    have hw1 : Aside0 (wrap64 ((i : Int) + 1) = ((i + 1 : Nat) : Int)) := ⟨by rw [w64 (by omega) (by omega)]; omega⟩
    have hone : strOfNums [((n % 256 : Nat) : Int)] = ofB [n % 256] := rfl
    have hsz : (ofB [n % 256]).size = 1 := ofB_size _
    have hr := ih (i + 1) (n / 256) (ofB [n % 256] ++ acc) (by omega) (by omega) (by rw [ByteArray.size_append, hsz]; omega)
    refine Ev.step (fun k => ?_) (ev_eq hr ?_)
    · simp only [spec_Fixed.l0]
      rw [if_pos (by omega), Option.bind_some, ← e256, tmodN, tdivN]
      have e : ((n % 256 : Nat) : Int) % ((256 : Nat) : Int) = ((n % 256 : Nat) : Int) := by omega
      rw [e, hone, hw1.out, w64 (by omega) (by omega), if_pos (by rw [hsz]; omega)]
    · rw [Nat.div_div_eq_div_mul, ← Nat.pow_succ', fixB, ofB_append, ByteArray.append_assoc]
theorem spec_Fixed_ev (n w : Int) (hn : n ≤ 9223372036854775807) : Ev (fun k => spec_Fixed.f k n w) (fixS n w) := by
  unfold spec_Fixed.f fixS
  simp only [spec_l1In_eq, Option.bind_some]
  by_cases h : 1 ≤ w ∧ w ≤ 7
  · simp only [h, decide_true, if_true, true_and]
    by_cases hk : 0 ≤ n
    · rw [decide_eq_false (by omega)]
      obtain ⟨m, rfl⟩ := Int.eq_ofNat_of_zero_le (show 0 ≤ w by omega)
      obtain ⟨n, rfl⟩ := Int.eq_ofNat_of_zero_le hk
      refine Ev.step (fun k => ?_) (ev_eq (spec_Fixed_loop m (by omega) m 0 n (⟨#[]⟩ : ByteArray) (by omega) (by omega) (Nat.le_refl _)) ?_)
      · simp [spec_Fixed.j0]
      · simp only [Int.toNat_natCast]
        by_cases hlt : n < 256 ^ m
        · rw [Nat.div_eq_of_lt hlt, if_neg (by omega), if_pos ⟨hk, hlt⟩]; exact ByteArray.append_empty
        · rw [if_pos (Nat.div_pos (by omega) (Nat.pow_pos (by decide))), if_neg (fun e => hlt e.2)]
    · rw [decide_eq_true (by omega), if_neg (fun e => hk e.1)]
      refine Ev.step (f := fun _ => some (⟨#[]⟩ : ByteArray)) (fun k => ?_) (Ev.now _)
      simp [spec_Fixed.j0]
  · rw [if_neg (fun e => h ⟨e.1, e.2.1⟩)]
    simp only [h, decide_false]
    refine Ev.step (f := fun _ => some (⟨#[]⟩ : ByteArray)) (fun k => ?_) (Ev.now _)
    simp [spec_Fixed.j0]

theorem impl_within_eq (a lo hi : Int) : impl_within.f a lo hi = some (decide (lo ≤ a ∧ a ≤ hi)) := by
  unfold impl_within.f
  by_cases h : a ≥ lo
  · rw [if_pos h]; congr 1; simp [show lo ≤ a from h]
  · rw [if_neg h]; congr 1; simp [show ¬ lo ≤ a from h]

theorem impl_Fixed_loop (d : Nat) : ∀ (n : Nat) (x : Int) (xs : List Int), x = (d : Int) - 1 → d ≤ xs.length → d ≤ 7 → n < 9223372036854775808 →
    Ev (fun k => impl_Fixed.l0 k (n : Int) xs x) (strOfNums ((fixB d n).map (fun (m : Nat) => (m : Int)) ++ xs.drop d)) := by
  induction d with
  | zero =>
    intro n x xs hx hd h7 hn
    refine Ev.step (f := fun _ => some (strOfNums ((fixB 0 n).map (fun (m : Nat) => (m : Int)) ++ xs.drop 0))) (fun k => ?_) (Ev.now _)
    simp only [impl_Fixed.l0]
    rw [if_neg (by omega)]
    rfl
  | succ d ih =>
    intro n x xs hx hd h7 hn
    have hx' : x = (d : Int) := by omega
    subst hx'
    have e : Go.bits .and .i64 (n : Int) 255 % 256 = ((n % 256 : Nat) : Int) := by
      have := band_mask (n : Int) 8 (by decide) (by omega) (by omega)
      have e : ((2 : Int) ^ 8 - 1) = 255 := by decide
      rw [e] at this
      rw [this]; omega
    have e2 : (n : Int) / 256 = ((n / 256 : Nat) : Int) := by omega
    have hr := ih (n / 256) ((d : Int) - 1) (xs.set d ((n % 256 : Nat) : Int)) rfl (by rw [List.length_set]; omega) (by omega) (by omega)
    refine Ev.step (fun k => ?_) (ev_eq hr ?_)
    · simp only [impl_Fixed.l0]
      rw [if_pos (by omega), if_pos (by omega), if_pos (by omega), e, e2, w64 (by omega) (by omega), Int.toNat_natCast]
    · rw [fixB, List.map_append, List.append_assoc]
      congr 2
      rw [List.drop_eq_getElem_cons (by rw [List.length_set]; omega)]
      simp [List.drop_set]
theorem impl_Fixed_ev (n w : Int) (hn : n ≤ 9223372036854775807) : Ev (fun k => impl_Fixed.f k n w) (fixS n w) := by
  have dead : Ev (fun k => impl_Fixed.j0 k n w true) (⟨#[]⟩ : ByteArray) := by
    refine Ev.step (f := fun _ => some (⟨#[]⟩ : ByteArray)) (fun k => ?_) (Ev.now _)
    simp [impl_Fixed.j0]
  unfold impl_Fixed.f fixS
  simp only [impl_within_eq, Option.bind_some]
  by_cases h : 1 ≤ w ∧ w ≤ 7
  · simp only [h, decide_true, if_true, true_and]
    by_cases hk : 0 ≤ n
    · have hk' : ¬ n < 0 := by omega
      simp only [hk', if_false]
      obtain ⟨m, rfl⟩ := Int.eq_ofNat_of_zero_le (show 0 ≤ w by omega)
      obtain ⟨n, rfl⟩ := Int.eq_ofNat_of_zero_le hk
      have hs : 0 ≤ wrap64 (8 * (m : Int)) ∧ shl .i64 1 (wrap64 (8 * (m : Int))) = ((256 ^ m : Nat) : Int) := by
        have : m = 1 ∨ m = 2 ∨ m = 3 ∨ m = 4 ∨ m = 5 ∨ m = 6 ∨ m = 7 := by omega
        rcases this with rfl | rfl | rfl | rfl | rfl | rfl | rfl <;> exact ⟨by decide +kernel, by decide +kernel⟩
      simp only [hs.1, if_true, hs.2, Int.toNat_natCast]
      by_cases hlt : n < 256 ^ m
      · have hge : ¬ ((n : Int) ≥ ((256 ^ m : Nat) : Int)) := by omega
        rw [if_pos ⟨hk, hlt⟩, decide_eq_false hge]
        have hr := impl_Fixed_loop m n ((m : Int) - 1) (List.replicate m 0) rfl (by simp) (by omega) (by omega)
        refine Ev.step (fun k => ?_) (ev_eq hr ?_)
        · simp only [impl_Fixed.j0]
          rw [if_neg (by decide), if_pos (by omega), if_pos (by omega), w64 (by omega) (by omega)]
          rfl
        · rw [List.drop_of_length_le (by simp), List.append_nil]; rfl
      · have hge : ((n : Int) ≥ ((256 ^ m : Nat) : Int)) := by omega
        rw [if_neg (fun e => hlt e.2), decide_eq_true hge]
        exact dead
    · have hk' : n < 0 := by omega
      simp only [hk', if_true]
      rw [if_neg (fun e => hk e.1)]
      exact dead
  · rw [if_neg (fun e => h ⟨e.1, e.2.1⟩)]
    simp only [h, decide_false]
    exact dead

theorem FnExactFixed : laws_FnExactFixed.Pure := by
  intro n w hn _
  have h := lit_wf hn
  apply Ev.rounds
  unfold laws_FnExactFixed.f
  refine Ev.bind (spec_Fixed_ev n w h.2) (Ev.bind (impl_Fixed_ev n w h.2) ?_)
  simp
  exact Ev.now _

end Go.Proofs.Ytlhddlegdlhlgaa.Pure
