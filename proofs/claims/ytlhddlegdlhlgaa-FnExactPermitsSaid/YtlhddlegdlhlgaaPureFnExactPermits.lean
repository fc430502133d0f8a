/- The program's Permits returns what the reference's returns, for all arguments. -/
import Derived.Test.YtlhddlegdlhlgaaPFnExactPermitsx1
import Derived.Test.YtlhddlegdlhlgaaBase
import Derived.Test.YtlhddlegdlhlgaaRests
namespace Go.Proofs.Ytlhddlegdlhlgaa.Pure
open Go.RowKit Go.Proofs.Ytlhddlegdlhlgaa.PFnExactPermits Go.Proofs.YtlhddlegdlhlgaaW.PrintWords Go.Proofs.YtlhddlegdlhlgaaW.PrintLast Go.Proofs.YtlhddlegdlhlgaaW.PrintMore Go.Proofs.Ytlhddlegdlhlgaa.Base
set_option linter.unusedVariables false
set_option linter.unusedSimpArgs false
theorem spec_l1In_eq (a lo hi : Int) : spec_l1In.f a lo hi = some (decide (lo ≤ a ∧ a ≤ hi)) := by
  unfold spec_l1In.f
  by_cases h : a ≥ lo
  · rw [if_pos h]; congr 1; simp [show lo ≤ a from h]
  · rw [if_neg h]; congr 1; simp [show ¬ lo ≤ a from h]

theorem spec_RestOk_eq (s o e : Int) : spec_RestOk.f s o e = some (restB s o e) := by
  unfold spec_RestOk.f restB
  simp only [spec_l1In_eq, Option.bind_some]
  by_cases h1 : 0 ≤ s ∧ s ≤ 7 <;> by_cases h2 : 0 ≤ o ∧ o ≤ 255 <;> simp [h1, h2]

theorem spec_l4Bit_eq (x i : Int) (h0 : 0 ≤ i) (h1 : i ≤ 63) : spec_l4Bit.f x i = some (bitI x i) := by
  unfold spec_l4Bit.f bitI
  have hw : IntKind.u64.wrap i = i := by
    simp [IntKind.wrap, IntKind.bits, IntKind.signed]; omega
  rw [hw, if_pos h0]
  congr 1

theorem spec_Permits_eq (s o e sv op now : Int) : spec_Permits.f s o e sv op now = some (perB s o e sv op now) := by
  unfold spec_Permits.f perB
  simp only [spec_RestOk_eq, spec_l1In_eq, Option.bind_some]
  by_cases h1 : restB s o e = true
  · by_cases h2 : 0 ≤ sv ∧ sv ≤ 2
    · by_cases h3 : 0 ≤ op ∧ op ≤ 7
      · rw [spec_l4Bit_eq _ _ h2.1 (by omega), spec_l4Bit_eq _ _ h3.1 (by omega)]
        simp only [h1, h2, h3, decide_true, if_true, and_self, Bool.true_and, Option.bind_some]
        cases bitI s sv <;> cases bitI o op <;> simp
      · rw [spec_l4Bit_eq _ _ h2.1 (by omega)]
        simp [h1, h2, h3]
    · simp [h1, h2]
  · simp [h1]

theorem impl_within_eq (a lo hi : Int) : impl_within.f a lo hi = some (decide (lo ≤ a ∧ a ≤ hi)) := by
  unfold impl_within.f
  by_cases h : a ≥ lo
  · rw [if_pos h]; congr 1; simp [show lo ≤ a from h]
  · rw [if_neg h]; congr 1; simp [show ¬ lo ≤ a from h]

theorem impl_isTime_eq (a : Int) : impl_isTime.f a = some (decide (0 ≤ a ∧ a ≤ 100000)) := by
  unfold impl_isTime.f; rw [impl_within_eq, Option.bind_some]

theorem impl_RestOk_eq (s o e : Int) : impl_RestOk.f s o e = some (restB s o e) := by
  unfold impl_RestOk.f restB
  simp only [impl_within_eq, impl_isTime_eq, Option.bind_some]
  by_cases h1 : 0 ≤ s ∧ s ≤ 7 <;> by_cases h2 : 0 ≤ o ∧ o ≤ 255 <;> simp [h1, h2]

theorem impl_Permits_eq (s o e sv op now : Int) : impl_Permits.f s o e sv op now = some (perB s o e sv op now) := by
  unfold impl_Permits.f perB
  simp only [impl_RestOk_eq, impl_within_eq, Option.bind_some]
  by_cases h1 : restB s o e = true
  · by_cases h2 : 0 ≤ sv ∧ sv ≤ 2
    · by_cases h3 : 0 ≤ op ∧ op ≤ 7
      · simp only [h1, h2, h3, decide_true, if_true, and_self, Bool.true_and]
        have e1 : (Go.bits .and .i64 (shr .i64 s sv) 1 = 1) ↔ bitI s sv = true := by unfold bitI; rw [decide_eq_true_iff]
        have e2 : (Go.bits .and .i64 (shr .i64 o op) 1 = 1) ↔ bitI o op = true := by unfold bitI; rw [decide_eq_true_iff]
        simp only [e1, e2]
        cases bitI s sv <;> cases bitI o op <;> simp
      · simp [h1, h2, h3]
    · simp [h1, h2]
  · simp [h1]

theorem FnExactPermits : ∀ (a0_0 : Int) (a0_1 : Int) (a0_2 : Int) (a1 : Int) (a2 : Int) (a3 : Int), (Lit.int .i64 a0_0).wf = true → (Lit.int .i64 a0_1).wf = true → (Lit.int .i64 a0_2).wf = true → (Lit.int .i64 a1).wf = true → (Lit.int .i64 a2).wf = true → (Lit.int .i64 a3).wf = true → laws_FnExactPermits.f a0_0 a0_1 a0_2 a1 a2 a3 = some true := by
  intro s o e a b c _ _ _ _ _ _
  unfold laws_FnExactPermits.f laws_toRest.f
  simp only [Option.bind_some, spec_Permits_eq, impl_Permits_eq]
  simp

end Go.Proofs.Ytlhddlegdlhlgaa.Pure
