/- All keys that stand from the beginning are unlike, and below the first fresh one: for all codes. -/
import Derived.Test.YtheehldpcdfpmaaOFnKeysx2
import Derived.Test.YtheehldpcdfpmaaBase
namespace Go.Proofs.Ytheehldpcdfpmaa.Pure
open Go.RowKit Go.Proofs.Ytheehldpcdfpmaa.OFnKeys Go.Proofs.YtheehldpcdfpmaaW.PrintWords Go.Proofs.YtheehldpcdfpmaaW.PrintLast Go.Proofs.YtheehldpcdfpmaaW.PrintMore Go.Proofs.Ytheehldpcdfpmaa.Base
set_option linter.unusedVariables false
set_option linter.unusedSimpArgs false
theorem laws_big_eq (l : List Int) : laws_big.f l = some (decide ((l.length : Int) > 1048576)) := rfl

theorem impl_within_eq (a lo hi : Int) : impl_within.f a lo hi = some (decide (lo ≤ a ∧ a ≤ hi)) := by
  unfold impl_within.f
  by_cases h : a ≥ lo
  · rw [if_pos h]; congr 1; simp [show lo ≤ a from h]
  · rw [if_neg h]; congr 1; simp [show ¬ lo ≤ a from h]

theorem impl_isPrincipal_eq (a : Int) : impl_isPrincipal.f a = some (decide (0 ≤ a ∧ a < 6)) := by
  unfold impl_isPrincipal.f
  rw [impl_within_eq, Option.bind_some]
  congr 1
  exact decide_eq_decide.mpr (by omega)

def pkey (a : Int) : Int := if 0 ≤ a ∧ a < 3 then 1 + a else if 0 ≤ a ∧ a < 6 then 8 + a else 0

theorem impl_PrincipalKey_eq (a : Int) : impl_PrincipalKey.f a = some (pkey a) := by
  unfold impl_PrincipalKey.f pkey
  rw [impl_within_eq, Option.bind_some, impl_isPrincipal_eq, Option.bind_some]
  by_cases h3 : 0 ≤ a ∧ a < 3
  · rw [decide_eq_true (by omega), if_pos rfl, if_pos h3, w64 (by omega) (by omega)]
  · rw [decide_eq_false (by omega), if_neg (by decide), if_neg h3]
    by_cases h : 0 ≤ a ∧ a < 6
    · rw [decide_eq_true h, if_pos rfl, if_pos h, w64 (x := 11 + a) (by omega) (by omega), w64 (by omega) (by omega)]
      congr 1; omega
    · rw [decide_eq_false h, if_neg (by decide), if_neg h]

theorem impl_isRealm_eq (a : Int) : impl_isRealm.f a = some (decide (0 ≤ a ∧ a < 3)) := by
  unfold impl_isRealm.f
  rw [impl_within_eq, Option.bind_some]
  congr 1
  exact decide_eq_decide.mpr (by omega)

theorem impl_CentreKey_eq (a : Int) : impl_CentreKey.f a = some (if 0 ≤ a ∧ a < 3 then 21 + a else 0) := by
  unfold impl_CentreKey.f
  rw [impl_isRealm_eq, Option.bind_some]
  by_cases h : 0 ≤ a ∧ a < 3
  · rw [decide_eq_true h, if_pos rfl, if_pos h, w64 (by omega) (by omega)]
  · rw [decide_eq_false h, if_neg (by decide), if_neg h]

theorem impl_LinkKey_eq (a b : Int) : impl_LinkKey.f a b = some (if (0 ≤ a ∧ a < 3) ∧ (0 ≤ b ∧ b < 3) then 31 + 3 * a + b else 0) := by
  unfold impl_LinkKey.f
  rw [impl_isRealm_eq, Option.bind_some, impl_isRealm_eq, Option.bind_some]
  by_cases h : 0 ≤ a ∧ a < 3
  · by_cases h' : 0 ≤ b ∧ b < 3
    · rw [decide_eq_true h, decide_eq_true h', if_pos rfl, if_pos rfl, if_pos ⟨h, h'⟩, w64 (x := 3 * a) (by omega) (by omega), w64 (x := 31 + 3 * a) (by omega) (by omega), w64 (by omega) (by omega)]
    · rw [decide_eq_true h, decide_eq_false h', if_pos rfl, if_neg (by decide), if_neg (fun e => h' e.2)]
  · rw [decide_eq_false h, if_neg (by decide), if_neg (fun e => h e.1)]

theorem laws_at_ok (l : List Int) (i : Int) (hl : l.length ≤ 1048576) (hw : ∀ x ∈ l, (Lit.int .u8 x).wf = true) (h0 : 0 ≤ i) (h1 : i ≤ 1000000) : ∃ x : Int, laws_at.f l i = some x ∧ 0 ≤ x ∧ x ≤ 255 := by
  unfold laws_at.f
  by_cases h : i < (l.length : Int)
  · rw [if_pos h, if_pos h0]
    have hb : 0 ≤ rd l i ∧ rd l i ≤ 255 := by
      obtain ⟨j, rfl⟩ := Int.eq_ofNat_of_zero_le h0
      have hj : j < l.length := by omega
      have e : rd l (j : Int) = l[j] := by
        unfold rd
        rw [Int.toNat_natCast, List.getD_eq_getElem?_getD, List.getElem?_eq_getElem hj]; rfl
      rw [e]
      have := hw _ (List.getElem_mem hj)
      simp only [Lit.wf, Bool.and_eq_true, decide_eq_true_eq] at this
      exact this
    refine ⟨_, rfl, ?_, ?_⟩ <;> rw [w64 (by omega) (by omega)] <;> omega
  · rw [if_neg h, w64 (x := i * 37) (by omega) (by omega), w64 (x := (l.length : Int) * 11) (by omega) (by omega), w64 (by omega) (by omega)]
    refine ⟨_, rfl, Int.tmod_nonneg _ (by omega), ?_⟩
    have := Int.tmod_lt_of_pos (i * 37 + (l.length : Int) * 11) (show (0 : Int) < 256 by decide)
    omega

def KEYS : List Int := [1, 2, 3, 11, 12, 13, 21, 31, 32, 33, 22, 34, 35, 36, 23, 37, 38, 39]
theorem keys_far : ∀ i j : Fin 18, 0 < KEYS.getD i.val 0 ∧ KEYS.getD i.val 0 < 101 ∧ (i = j ∨ KEYS.getD i.val 0 ≠ KEYS.getD j.val 0) := by decide +kernel
theorem FnKeys_p (l : List Int) (n : Nat) (hn : n < 6) (acc : List Int) (ha : acc.length < 100) : ∀ k, laws_FnKeys.l0 (k + 1) l acc (n : Int) = laws_FnKeys.l0 k l (acc ++ [pkey (n : Int)]) ((n + 1 : Nat) : Int) := by
  intro k
  simp only [laws_FnKeys.l0]
  rw [if_pos (by omega), impl_PrincipalKey_eq, Option.bind_some, if_pos (by omega), w64 (by omega) (by omega)]
  rfl
theorem FnKeys_c (l : List Int) (n : Nat) (hn : n < 3) (acc : List Int) (ha : acc.length < 100) : ∀ k, laws_FnKeys.l1 (k + 1) l acc (n : Int) = laws_FnKeys.l2 k l (acc ++ [21 + (n : Int)]) (n : Int) ((0 : Nat) : Int) := by
  intro k
  simp only [laws_FnKeys.l1]
  rw [if_pos (by omega), impl_CentreKey_eq, if_pos (by omega), Option.bind_some, if_pos (by omega)]
  rfl
theorem FnKeys_l (l : List Int) (n m : Nat) (hn : n < 3) (hm : m < 3) (acc : List Int) (ha : acc.length < 100) : ∀ k, laws_FnKeys.l2 (k + 1) l acc (n : Int) (m : Int) = laws_FnKeys.l2 k l (acc ++ [31 + 3 * (n : Int) + (m : Int)]) (n : Int) ((m + 1 : Nat) : Int) := by
  intro k
  simp only [laws_FnKeys.l2]
  rw [if_pos (by omega), impl_LinkKey_eq, if_pos (by omega), Option.bind_some, if_pos (by omega), w64 (by omega) (by omega)]
  rfl
theorem FnKeys_e (l : List Int) (n : Nat) (hn : n < 3) (acc : List Int) : ∀ k, laws_FnKeys.l2 (k + 1) l acc (n : Int) ((3 : Nat) : Int) = laws_FnKeys.l1 k l acc ((n + 1 : Nat) : Int) := by
  intro k
  simp only [laws_FnKeys.l2]
  rw [if_neg (by decide), w64 (by omega) (by omega)]
  rfl
theorem FnKeys : ∀ (l0 : List Int), l0.length ≤ maxLen → l0.length * 1 ≤ 140737488351232 → (∀ a ∈ l0, (Lit.int .u8 a).wf = true) → ∃ k, laws_FnKeys.f k l0 = some true := by
  intro l hm hl hw
  apply Ev.rounds
  unfold laws_FnKeys.f
  simp only [laws_big_eq, Option.bind_some]
  by_cases hbig : (l.length : Int) > 1048576
  · simp only [hbig, decide_true, if_true]; exact Ev.now _
  · simp only [hbig, decide_false, Bool.false_eq_true, if_false]
    have fin : Ev (fun k => laws_FnKeys.l1 k l KEYS ((3 : Nat) : Int)) true := by
      obtain ⟨x, hx, x0, x1⟩ := laws_at_ok l 0 (by omega) hw (by decide) (by decide)
      obtain ⟨y, hy, y0, y1⟩ := laws_at_ok l 1 (by omega) hw (by decide) (by decide)
      have t : ∀ z : Int, 0 ≤ z → ∃ j : Fin 18, Int.tmod z (KEYS.length : Int) = (j.val : Int) := by
        intro z hz
        have e : (KEYS.length : Int) = 18 := rfl
        rw [e]
        have h1 := Int.tmod_nonneg (18 : Int) hz
        have h2 := Int.tmod_lt_of_pos z (show (0 : Int) < 18 by decide)
        exact ⟨⟨(Int.tmod z 18).toNat, by omega⟩, by simp; omega⟩
      obtain ⟨i, hi⟩ := t x x0
      obtain ⟨j, hj⟩ := t y y0
      have hlen : (KEYS.length : Int) = 18 := rfl
      have hij := keys_far i j
      have rdi : ∀ v : Fin 18, rd KEYS (v.val : Int) = KEYS.getD v.val 0 := fun v => by unfold rd; rw [Int.toNat_natCast]
      refine Ev.step (f := fun _ => some true) (fun k => ?_) (Ev.now _)
      simp only [laws_FnKeys.l1]
      rw [if_neg (by decide), hx, Option.bind_some, if_neg (by rw [hlen]; decide), hy, Option.bind_some, hi, hj, if_pos (by omega), if_pos (by rw [hlen]; omega), rdi, rdi, if_pos hij.1, if_pos hij.2.1]
      have tail : ((impl_PrincipalKey.f 6).bind fun t129 => (if t129 = 0 then ((impl_CentreKey.f (-1)).bind fun t130 => (if t130 = 0 then ((impl_LinkKey.f 0 3).bind fun t131 => (some (t131 == 0))) else (some false))) else (some false))) = some true := by
        rw [impl_PrincipalKey_eq, impl_CentreKey_eq, impl_LinkKey_eq]
        decide
      by_cases e : (i.val : Int) = (j.val : Int)
      · rw [if_pos e, tail]
      · have hne : i ≠ j := fun h => e (by rw [h])
        have hd : KEYS.getD i.val 0 ≠ KEYS.getD j.val 0 := by
          rcases hij.2.2 with h | h
          · exact absurd h hne
          · exact h
        rw [if_neg e, if_pos (by omega), if_pos (by rw [hlen]; omega), if_neg hd, tail]
    refine Ev.step (FnKeys_p l 0 (by decide) [] (by decide)) (Ev.step (FnKeys_p l 1 (by decide) _ (by decide)) (Ev.step (FnKeys_p l 2 (by decide) _ (by decide)) (Ev.step (FnKeys_p l 3 (by decide) _ (by decide)) (Ev.step (FnKeys_p l 4 (by decide) _ (by decide)) (Ev.step (FnKeys_p l 5 (by decide) _ (by decide)) ?_)))))
    refine Ev.step (f := fun k => laws_FnKeys.l1 k l [1, 2, 3, 11, 12, 13] ((0 : Nat) : Int)) (fun k => ?_) ?_
    · simp only [laws_FnKeys.l0]
      rw [if_neg (by decide)]
      rfl
    · refine Ev.step (FnKeys_c l 0 (by decide) _ (by decide)) (Ev.step (FnKeys_l l 0 0 (by decide) (by decide) _ (by decide)) (Ev.step (FnKeys_l l 0 1 (by decide) (by decide) _ (by decide)) (Ev.step (FnKeys_l l 0 2 (by decide) (by decide) _ (by decide)) (Ev.step (FnKeys_e l 0 (by decide) _) ?_))))
      refine Ev.step (FnKeys_c l 1 (by decide) _ (by decide)) (Ev.step (FnKeys_l l 1 0 (by decide) (by decide) _ (by decide)) (Ev.step (FnKeys_l l 1 1 (by decide) (by decide) _ (by decide)) (Ev.step (FnKeys_l l 1 2 (by decide) (by decide) _ (by decide)) (Ev.step (FnKeys_e l 1 (by decide) _) ?_))))
      refine Ev.step (FnKeys_c l 2 (by decide) _ (by decide)) (Ev.step (FnKeys_l l 2 0 (by decide) (by decide) _ (by decide)) (Ev.step (FnKeys_l l 2 1 (by decide) (by decide) _ (by decide)) (Ev.step (FnKeys_l l 2 2 (by decide) (by decide) _ (by decide)) (Ev.step (FnKeys_e l 2 (by decide) _) ?_))))
      exact fin

end Go.Proofs.Ytheehldpcdfpmaa.Pure
