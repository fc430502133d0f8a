/- The program's LinkKey returns what the reference's returns, for all numbers. -/
import Derived.Test.YtlhddlegdlhlgaaPFnExactLinkKeyx1
import Derived.Test.YtlhddlegdlhlgaaBase
namespace Go.Proofs.Ytlhddlegdlhlgaa.Pure
open Go.RowKit Go.Proofs.Ytlhddlegdlhlgaa.PFnExactLinkKey Go.Proofs.YtlhddlegdlhlgaaW.PrintWords Go.Proofs.YtlhddlegdlhlgaaW.PrintLast Go.Proofs.YtlhddlegdlhlgaaW.PrintMore Go.Proofs.Ytlhddlegdlhlgaa.Base
set_option linter.unusedVariables false
set_option linter.unusedSimpArgs false
theorem spec_l6Realm_eq (a : Int) : spec_l6Realm.f a = some (decide (0 ≤ a ∧ a < 3)) := by
  unfold spec_l6Realm.f
  by_cases h : a ≥ 0
  · rw [if_pos h]; congr 1; simp [show 0 ≤ a from h]
  · rw [if_neg h]; congr 1; simp [show ¬ 0 ≤ a from h]

theorem impl_within_eq (a lo hi : Int) : impl_within.f a lo hi = some (decide (lo ≤ a ∧ a ≤ hi)) := by
  unfold impl_within.f
  by_cases h : a ≥ lo
  · rw [if_pos h]; congr 1; simp [show lo ≤ a from h]
  · rw [if_neg h]; congr 1; simp [show ¬ lo ≤ a from h]

theorem impl_isRealm_eq (a : Int) : impl_isRealm.f a = some (decide (0 ≤ a ∧ a < 3)) := by
  unfold impl_isRealm.f
  rw [impl_within_eq, Option.bind_some]
  congr 1
  exact decide_eq_decide.mpr (by omega)

theorem FnExactLinkKey : laws_FnExactLinkKey.Pure := by
  intro a b _ _
  unfold laws_FnExactLinkKey.f spec_LinkKey.f impl_LinkKey.f
  simp only [spec_l6Realm_eq, impl_isRealm_eq, Option.bind_some]
  by_cases h : 0 ≤ a ∧ a < 3 <;> by_cases h' : 0 ≤ b ∧ b < 3 <;> simp [h, h']

end Go.Proofs.Ytlhddlegdlhlgaa.Pure
