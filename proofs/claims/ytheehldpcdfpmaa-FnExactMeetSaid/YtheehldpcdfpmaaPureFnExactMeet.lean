/- The program's Meet returns what the reference's returns, for all arguments. -/
import Derived.Test.YtheehldpcdfpmaaOFnExactMeetx2
import Derived.Test.YtheehldpcdfpmaaBase
import Derived.Test.YtheehldpcdfpmaaRests
namespace Go.Proofs.Ytheehldpcdfpmaa.Pure
open Go.RowKit Go.Proofs.Ytheehldpcdfpmaa.OFnExactMeet Go.Proofs.YtheehldpcdfpmaaW.PrintWords Go.Proofs.YtheehldpcdfpmaaW.PrintLast Go.Proofs.YtheehldpcdfpmaaW.PrintMore Go.Proofs.Ytheehldpcdfpmaa.Base
set_option linter.unusedVariables false
set_option linter.unusedSimpArgs false
theorem spec_l1In_eq (a lo hi : Int) : spec_l1In.f a lo hi = some (decide (lo ≤ a ∧ a ≤ hi)) := by
  unfold spec_l1In.f
  by_cases h : a ≥ lo
  · rw [if_pos h]; congr 1; simp [show lo ≤ a from h]
  · rw [if_neg h]; congr 1; simp [show ¬ lo ≤ a from h]

theorem spec_RestOk_eq (s o e : Int) : spec_RestOk.f s o e = some (restB s o e) := by
  unfold spec_RestOk.f restB
  simp only [spec_l1In_eq, Option.bind_some]
  by_cases h1 : 0 ≤ s ∧ s ≤ 7 <;> by_cases h2 : 0 ≤ o ∧ o ≤ 255 <;> simp [h1, h2]

theorem spec_Meet_ev (s o e s' o' e' : Int) : Ev (fun k => spec_Meet.f k s o e s' o' e') (meetR s o e s' o' e') := by
  have dead : Ev (fun k => spec_Meet.j0 k true s o e s' o' e') (0, 0, 0) := by
    refine Ev.step (f := fun _ => some (0, 0, 0)) (fun k => ?_) (Ev.now _)
    simp [spec_Meet.j0]
  unfold spec_Meet.f meetR
  simp only [spec_RestOk_eq, Option.bind_some]
  by_cases h1 : restB s o e = true
  · by_cases h2 : restB s' o' e' = true
    · simp only [h1, h2, if_true, and_self, Bool.not_true]
      refine Ev.step (f := fun _ => some (andI s s', andI o o', mn e e')) (fun k => ?_) (Ev.now _)
      simp only [spec_Meet.j0]
      rw [if_neg (by decide)]
      unfold andI mn
      split <;> rfl
    · have h2' : restB s' o' e' = false := Bool.eq_false_iff.mpr h2
      simp only [h1, h2', if_true, Bool.not_false, Bool.false_eq_true, and_false, if_false]
      exact dead
  · have h1' : restB s o e = false := Bool.eq_false_iff.mpr h1
    simp only [h1', Bool.false_eq_true, false_and, if_false]
    exact dead

theorem impl_within_eq (a lo hi : Int) : impl_within.f a lo hi = some (decide (lo ≤ a ∧ a ≤ hi)) := by
  unfold impl_within.f
  by_cases h : a ≥ lo
  · rw [if_pos h]; congr 1; simp [show lo ≤ a from h]
  · rw [if_neg h]; congr 1; simp [show ¬ lo ≤ a from h]

theorem impl_isTime_eq (a : Int) : impl_isTime.f a = some (decide (0 ≤ a ∧ a ≤ 100000)) := by
  unfold impl_isTime.f; rw [impl_within_eq, Option.bind_some]

theorem impl_RestOk_eq (s o e : Int) : impl_RestOk.f s o e = some (restB s o e) := by
  unfold impl_RestOk.f restB
  simp only [impl_within_eq, impl_isTime_eq, Option.bind_some]
  by_cases h1 : 0 ≤ s ∧ s ≤ 7 <;> by_cases h2 : 0 ≤ o ∧ o ≤ 255 <;> simp [h1, h2]

theorem impl_Meet_eq (s o e s' o' e' : Int) : impl_Meet.f s o e s' o' e' = some (meetR s o e s' o' e') := by
  unfold impl_Meet.f meetR
  simp only [impl_RestOk_eq, Option.bind_some]
  by_cases h1 : restB s o e = true <;> by_cases h2 : restB s' o' e' = true <;> simp [h1, h2, andI]

theorem laws_eqRest_self (a b c : Int) : laws_eqRest.f a b c a b c = some true := by simp [laws_eqRest.f]

theorem FnExactMeet : ∀ (a0_0 : Int) (a0_1 : Int) (a0_2 : Int) (a1_0 : Int) (a1_1 : Int) (a1_2 : Int), (Lit.int .i64 a0_0).wf = true → (Lit.int .i64 a0_1).wf = true → (Lit.int .i64 a0_2).wf = true → (Lit.int .i64 a1_0).wf = true → (Lit.int .i64 a1_1).wf = true → (Lit.int .i64 a1_2).wf = true → ∃ k, laws_FnExactMeet.f k a0_0 a0_1 a0_2 a1_0 a1_1 a1_2 = some true := by
  intro s o e s' o' e' _ _ _ _ _ _
  apply Ev.rounds
  unfold laws_FnExactMeet.f laws_toRest.f
  simp only [Option.bind_some]
  refine Ev.bind (spec_Meet_ev s o e s' o' e') ?_
  simp only [impl_Meet_eq, laws_eqRest_self, Option.bind_some, if_true]
  exact Ev.now _

end Go.Proofs.Ytheehldpcdfpmaa.Pure
