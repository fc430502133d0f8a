/- The program's PrincipalKey returns what the reference's returns, for all numbers. -/
import Derived.Test.YtlhddlegdlhlgaaPFnExactPrincipalKeyx1
import Derived.Test.YtlhddlegdlhlgaaBase
namespace Go.Proofs.Ytlhddlegdlhlgaa.Pure
open Go.RowKit Go.Proofs.Ytlhddlegdlhlgaa.PFnExactPrincipalKey Go.Proofs.YtlhddlegdlhlgaaW.PrintWords Go.Proofs.YtlhddlegdlhlgaaW.PrintLast Go.Proofs.YtlhddlegdlhlgaaW.PrintMore Go.Proofs.Ytlhddlegdlhlgaa.Base
set_option linter.unusedVariables false
set_option linter.unusedSimpArgs false
theorem spec_l5Principal_eq (a : Int) : spec_l5Principal.f a = some (decide (0 ≤ a ∧ a < 6)) := by
  unfold spec_l5Principal.f
  by_cases h : a ≥ 0
  · rw [if_pos h]; congr 1; simp [show 0 ≤ a from h]
  · rw [if_neg h]; congr 1; simp [show ¬ 0 ≤ a from h]

def pkey (a : Int) : Int := if 0 ≤ a ∧ a < 3 then 1 + a else if 0 ≤ a ∧ a < 6 then 8 + a else 0

theorem spec_PrincipalKey_eq (a : Int) : spec_PrincipalKey.f a = some (pkey a) := by
  unfold spec_PrincipalKey.f pkey
  rw [spec_l5Principal_eq, Option.bind_some]
  by_cases h : 0 ≤ a ∧ a < 6
  · rw [decide_eq_true h, if_pos rfl]
    by_cases h3 : a < 3
    · rw [if_pos h3, if_pos ⟨h.1, h3⟩, w64 (by omega) (by omega)]
    · rw [if_neg h3, if_neg (fun e => h3 e.2), if_pos h, w64 (x := 11 + a) (by omega) (by omega), w64 (by omega) (by omega)]
      congr 1; omega
  · rw [decide_eq_false h, if_neg (by decide), if_neg (by omega), if_neg h]

theorem impl_within_eq (a lo hi : Int) : impl_within.f a lo hi = some (decide (lo ≤ a ∧ a ≤ hi)) := by
  unfold impl_within.f
  by_cases h : a ≥ lo
  · rw [if_pos h]; congr 1; simp [show lo ≤ a from h]
  · rw [if_neg h]; congr 1; simp [show ¬ lo ≤ a from h]

theorem impl_isPrincipal_eq (a : Int) : impl_isPrincipal.f a = some (decide (0 ≤ a ∧ a < 6)) := by
  unfold impl_isPrincipal.f
  rw [impl_within_eq, Option.bind_some]
  congr 1
  exact decide_eq_decide.mpr (by omega)

theorem impl_PrincipalKey_eq (a : Int) : impl_PrincipalKey.f a = some (pkey a) := by
  unfold impl_PrincipalKey.f pkey
  rw [impl_within_eq, Option.bind_some, impl_isPrincipal_eq, Option.bind_some]
  by_cases h3 : 0 ≤ a ∧ a < 3
  · rw [decide_eq_true (by omega), if_pos rfl, if_pos h3, w64 (by omega) (by omega)]
  · rw [decide_eq_false (by omega), if_neg (by decide), if_neg h3]
    by_cases h : 0 ≤ a ∧ a < 6
    · rw [decide_eq_true h, if_pos rfl, if_pos h, w64 (x := 11 + a) (by omega) (by omega), w64 (by omega) (by omega)]
      congr 1; omega
    · rw [decide_eq_false h, if_neg (by decide), if_neg h]

theorem FnExactPrincipalKey : laws_FnExactPrincipalKey.Pure := by
  intro a _
  unfold laws_FnExactPrincipalKey.f
  simp only [spec_PrincipalKey_eq, impl_PrincipalKey_eq, Option.bind_some, if_true]

end Go.Proofs.Ytlhddlegdlhlgaa.Pure
