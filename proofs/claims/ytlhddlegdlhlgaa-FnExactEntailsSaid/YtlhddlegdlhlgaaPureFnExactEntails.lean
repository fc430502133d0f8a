/- The program's Entails returns what the reference's returns, for all arguments. -/
import Derived.Test.YtlhddlegdlhlgaaPFnExactEntailsx2
import Derived.Test.YtlhddlegdlhlgaaBase
import Derived.Test.YtlhddlegdlhlgaaRests
namespace Go.Proofs.Ytlhddlegdlhlgaa.Pure
open Go.RowKit Go.Proofs.Ytlhddlegdlhlgaa.PFnExactEntails Go.Proofs.YtlhddlegdlhlgaaW.PrintWords Go.Proofs.YtlhddlegdlhlgaaW.PrintLast Go.Proofs.YtlhddlegdlhlgaaW.PrintMore Go.Proofs.Ytlhddlegdlhlgaa.Base
set_option linter.unusedVariables false
set_option linter.unusedSimpArgs false
theorem spec_l1In_eq (a lo hi : Int) : spec_l1In.f a lo hi = some (decide (lo ≤ a ∧ a ≤ hi)) := by
  unfold spec_l1In.f
  by_cases h : a ≥ lo
  · rw [if_pos h]; congr 1; simp [show lo ≤ a from h]
  · rw [if_neg h]; congr 1; simp [show ¬ lo ≤ a from h]

theorem spec_RestOk_eq (s o e : Int) : spec_RestOk.f s o e = some (restB s o e) := by
  unfold spec_RestOk.f restB
  simp only [spec_l1In_eq, Option.bind_some]
  by_cases h1 : 0 ≤ s ∧ s ≤ 7 <;> by_cases h2 : 0 ≤ o ∧ o ≤ 255 <;> simp [h1, h2]

theorem spec_Entails_eq (s o e s' o' e' : Int) : spec_Entails.f s o e s' o' e' = some (entB s o e s' o' e') := by
  unfold spec_Entails.f entB
  simp only [spec_RestOk_eq, Option.bind_some]
  by_cases h1 : restB s o e = true <;> by_cases h2 : restB s' o' e' = true
  · simp only [h1, h2, if_true]
    by_cases h3 : Go.bits .and .i64 s s' = s
    · by_cases h4 : Go.bits .and .i64 o o' = o
      · simp [h3, h4, andI]
      · simp [h3, h4, andI]
    · simp [h3, andI]
  · simp [h1, h2]
  · simp [h1, h2]
  · simp [h1, h2]

theorem impl_within_eq (a lo hi : Int) : impl_within.f a lo hi = some (decide (lo ≤ a ∧ a ≤ hi)) := by
  unfold impl_within.f
  by_cases h : a ≥ lo
  · rw [if_pos h]; congr 1; simp [show lo ≤ a from h]
  · rw [if_neg h]; congr 1; simp [show ¬ lo ≤ a from h]

theorem impl_isTime_eq (a : Int) : impl_isTime.f a = some (decide (0 ≤ a ∧ a ≤ 100000)) := by
  unfold impl_isTime.f; rw [impl_within_eq, Option.bind_some]

theorem impl_RestOk_eq (s o e : Int) : impl_RestOk.f s o e = some (restB s o e) := by
  unfold impl_RestOk.f restB
  simp only [impl_within_eq, impl_isTime_eq, Option.bind_some]
  by_cases h1 : 0 ≤ s ∧ s ≤ 7 <;> by_cases h2 : 0 ≤ o ∧ o ≤ 255 <;> simp [h1, h2]

theorem impl_Entails_eq (s o e s' o' e' : Int) : impl_Entails.f s o e s' o' e' = some (entB s o e s' o' e') := by
  unfold impl_Entails.f entB
  simp only [impl_RestOk_eq, Option.bind_some]
  by_cases h1 : restB s o e = true <;> by_cases h2 : restB s' o' e' = true
  · simp only [h1, h2, if_true]
    by_cases h3 : Go.bits .and .i64 s s' = s
    · by_cases h4 : Go.bits .and .i64 o o' = o
      · simp [h3, h4, andI]
      · simp [h3, h4, andI]
    · simp [h3, andI]
  · simp [h1, h2]
  · simp [h1, h2]
  · simp [h1, h2]

theorem FnExactEntails : ∀ (a0_0 : Int) (a0_1 : Int) (a0_2 : Int) (a1_0 : Int) (a1_1 : Int) (a1_2 : Int), (Lit.int .i64 a0_0).wf = true → (Lit.int .i64 a0_1).wf = true → (Lit.int .i64 a0_2).wf = true → (Lit.int .i64 a1_0).wf = true → (Lit.int .i64 a1_1).wf = true → (Lit.int .i64 a1_2).wf = true → laws_FnExactEntails.f a0_0 a0_1 a0_2 a1_0 a1_1 a1_2 = some true := by
  intro s o e s' o' e' _ _ _ _ _ _
  unfold laws_FnExactEntails.f laws_toRest.f
  simp only [Option.bind_some, spec_Entails_eq, impl_Entails_eq]
  simp

end Go.Proofs.Ytlhddlegdlhlgaa.Pure
