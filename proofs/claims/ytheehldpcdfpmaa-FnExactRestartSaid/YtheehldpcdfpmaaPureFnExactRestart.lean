/- The program's Restart returns what the reference's returns, for all numbers. -/
import Derived.Test.YtheehldpcdfpmaaPFnExactRestartx2
import Derived.Test.YtheehldpcdfpmaaBase
namespace Go.Proofs.Ytheehldpcdfpmaa.Pure
open Go.RowKit Go.Proofs.Ytheehldpcdfpmaa.PFnExactRestart Go.Proofs.YtheehldpcdfpmaaW.PrintWords Go.Proofs.YtheehldpcdfpmaaW.PrintLast Go.Proofs.YtheehldpcdfpmaaW.PrintMore Go.Proofs.Ytheehldpcdfpmaa.Base
set_option linter.unusedVariables false
set_option linter.unusedSimpArgs false
theorem laws_eqAuth_self (a b c : Int) : laws_eqAuth.f a b c a b c = some true := by simp [laws_eqAuth.f]

theorem laws_eqAuthS_self (l : List S79) (hl : l.length ≤ 1073741824) : Ev (fun k => laws_eqAuthS.f k l l) true := by
  have loop : ∀ d i : Nat, i + d = l.length → Ev (fun k => laws_eqAuthS.l0 k l l (i : Int)) true := by
    intro d
    induction d with
    | zero =>
      intro i hi
      refine Ev.step (f := fun _ => some true) (fun k => ?_) (Ev.now _)
      simp only [laws_eqAuthS.l0]
      rw [if_neg (by omega)]
    | succ d ih =>
      intro i hi
      refine Ev.step (fun k => ?_) (ih (i + 1) (by omega))
      simp only [laws_eqAuthS.l0]
      rw [if_pos (by omega), if_pos (by omega), if_pos (by omega), laws_eqAuth_self, Option.bind_some, if_pos rfl, w64 (by omega) (by omega)]
      rfl
  unfold laws_eqAuthS.f
  simp only [if_true]
  exact loop l.length 0 (by omega)

theorem laws_eqCache_self (q : Int) (l : List S79) (hl : l.length ≤ 1073741824) : Ev (fun k => laws_eqCache.f k q l q l) true := by
  unfold laws_eqCache.f
  simp only [if_true]
  refine Ev.bind (laws_eqAuthS_self l hl) ?_
  simp only [if_true]
  exact Ev.now _

def marksA (n : Nat) : List S79 := (List.range n).map fun i => ⟨((1 + 3 * i : Nat) : Int), ((2 + 3 * i : Nat) : Int), ((3 + 3 * i : Nat) : Int)⟩
theorem marksA_len (n : Nat) : (marksA n).length = n := by simp [marksA]
theorem marksA_succ (n : Nat) : marksA (n + 1) = marksA n ++ [⟨((1 + 3 * n : Nat) : Int), ((2 + 3 * n : Nat) : Int), ((3 + 3 * n : Nat) : Int)⟩] := by
  simp [marksA, List.range_succ]
theorem rd_set_auth (l : List S79) (i : Nat) (v : S79) (h : i < l.length) : rd_T79 (l.set i v) (i : Int) = v := by
  unfold rd_T79
  rw [Int.toNat_natCast, List.getD_eq_getElem?_getD, List.getElem?_set_self h]; rfl
theorem laws_markAuthS_ev (l : List S79) (hl : l.length ≤ 1073741824) : Ev (fun k => laws_markAuthS.f k l 1) (((1 + 3 * l.length : Nat) : Int), marksA l.length) := by
  have loop : ∀ (d i : Nat) (rest : List S79), rest.length = d → i + d ≤ 1073741824 → Ev (fun k => laws_markAuthS.l0 k (marksA i ++ rest) ((1 + 3 * i : Nat) : Int) (i : Int)) (((1 + 3 * (i + d) : Nat) : Int), marksA (i + d)) := by
    intro d
    induction d with
    | zero =>
      intro i rest hr hi
      have : rest = [] := List.eq_nil_of_length_eq_zero hr
      subst this
      refine Ev.step (f := fun _ => some (((1 + 3 * i : Nat) : Int), marksA i)) (fun k => ?_) (Ev.now _)
      simp only [laws_markAuthS.l0, List.append_nil]
      rw [if_neg (by rw [marksA_len]; omega)]
    | succ d ih =>
      intro i rest hr hi
      match rest, hr with
      | x :: rest, hr =>
        simp only [List.length_cons] at hr
        have hlen : i < (marksA i ++ x :: rest).length := by rw [List.length_append, marksA_len, List.length_cons]; omega
        have hset : ∀ v, (marksA i ++ x :: rest).set i v = marksA i ++ v :: rest := by
          intro v
          rw [List.set_append_right _ _ (by rw [marksA_len]; omega), marksA_len]; simp
        have hr' := ih (i + 1) rest (by omega) (by omega)
        rw [marksA_succ, List.append_assoc] at hr'
        have e : i + 1 + d = i + (d + 1) := by omega
        rw [e] at hr'
        refine Ev.step (fun k => ?_) hr'
        simp only [laws_markAuthS.l0]
        have a1 : wrap64 (((1 + 3 * i : Nat) : Int) + 1) = ((2 + 3 * i : Nat) : Int) := by rw [w64 (by omega) (by omega)]; omega
        rw [if_pos (by omega), if_pos (by omega), a1]
        clear a1
        have a2 : wrap64 (((2 + 3 * i : Nat) : Int) + 1) = ((3 + 3 * i : Nat) : Int) := by rw [w64 (by omega) (by omega)]; omega
        rw [a2]
        clear a2
        have a3 : wrap64 (((3 + 3 * i : Nat) : Int) + 1) = ((1 + 3 * (i + 1) : Nat) : Int) := by rw [w64 (by omega) (by omega)]; omega
        rw [a3]
        clear a3
        have a4 : wrap64 ((i : Int) + 1) = ((i + 1 : Nat) : Int) := by rw [w64 (by omega) (by omega)]; omega
        rw [a4, Int.toNat_natCast]
        simp only [Option.bind_some, List.set_set]
        rw [rd_set_auth _ _ _ hlen, rd_set_auth _ _ _ hlen, hset]
        rfl
  unfold laws_markAuthS.f
  have := loop l.length 0 l rfl (by omega)
  simpa [marksA] using this
theorem laws_heldAuthS_ev (n : Nat) (hl : n ≤ 1073741824) : Ev (fun k => laws_heldAuthS.f k (marksA n) 1) ((1 + 3 * n : Nat) : Int) := by
  have loop : ∀ d i : Nat, i + d = n → Ev (fun k => laws_heldAuthS.l0 k (marksA n) ((1 + 3 * i : Nat) : Int) (i : Int)) ((1 + 3 * n : Nat) : Int) := by
    intro d
    induction d with
    | zero =>
      intro i hi
      have : i = n := by omega
      subst this
      refine Ev.step (f := fun _ => some ((1 + 3 * i : Nat) : Int)) (fun k => ?_) (Ev.now _)
      simp only [laws_heldAuthS.l0]
      rw [if_neg (by rw [marksA_len]; omega)]
    | succ d ih =>
      intro i hi
      refine Ev.step (fun k => ?_) (ih (i + 1) (by omega))
      have hrd : rd_T79 (marksA n) (i : Int) = ⟨((1 + 3 * i : Nat) : Int), ((2 + 3 * i : Nat) : Int), ((3 + 3 * i : Nat) : Int)⟩ := by
        unfold rd_T79 marksA
        rw [Int.toNat_natCast, List.getD_eq_getElem?_getD, List.getElem?_map, List.getElem?_range (by omega)]; rfl
      simp only [laws_heldAuthS.l0]
      rw [if_pos (by rw [marksA_len]; omega), if_pos (by omega), hrd]
      have a1 : wrap64 (((1 + 3 * i : Nat) : Int) + 1) = ((2 + 3 * i : Nat) : Int) := by rw [w64 (by omega) (by omega)]; omega
      rw [a1]
      clear a1
      have a2 : wrap64 (((2 + 3 * i : Nat) : Int) + 1) = ((3 + 3 * i : Nat) : Int) := by rw [w64 (by omega) (by omega)]; omega
      rw [a2]
      clear a2
      have a3 : wrap64 (((3 + 3 * i : Nat) : Int) + 1) = ((1 + 3 * (i + 1) : Nat) : Int) := by rw [w64 (by omega) (by omega)]; omega
      rw [a3]
      clear a3
      have a4 : wrap64 ((i : Int) + 1) = ((i + 1 : Nat) : Int) := by rw [w64 (by omega) (by omega)]; omega
      rw [a4]
      simp only [if_true]
  unfold laws_heldAuthS.f
  exact loop n 0 (by omega)

theorem laws_markCache_ev (q : Int) (l : List S79) (hl : l.length ≤ 1073741824) : Ev (fun k => laws_markCache.f k q l 1) (((1 + 3 * l.length : Nat) : Int), marksA l.length) := by
  unfold laws_markCache.f
  exact Ev.bind (laws_markAuthS_ev l hl) (Ev.now _)

theorem laws_heldCache_ev (q : Int) (n : Nat) (hl : n ≤ 1073741824) : Ev (fun k => laws_heldCache.f k q (marksA n) 1) ((1 + 3 * n : Nat) : Int) := by
  unfold laws_heldCache.f
  refine Ev.bind (laws_heldAuthS_ev n hl) ?_
  have : ¬ (((1 + 3 * n : Nat) : Int) < 0) := by omega
  simp only [this, if_false]
  exact Ev.now _

theorem spec_l1In_eq (a lo hi : Int) : spec_l1In.f a lo hi = some (decide (lo ≤ a ∧ a ≤ hi)) := by
  unfold spec_l1In.f
  by_cases h : a ≥ lo
  · rw [if_pos h]; congr 1; simp [show lo ≤ a from h]
  · rw [if_neg h]; congr 1; simp [show ¬ lo ≤ a from h]

def restartC (now skew : Int) : Int := if 0 ≤ now ∧ now ≤ 100000 ∧ 0 ≤ skew ∧ skew ≤ 20 then now + 2 * skew else -1

theorem spec_Restart_eq (now skew : Int) : spec_Restart.f now skew = some (restartC now skew, []) := by
  unfold spec_Restart.f restartC
  simp only [spec_l1In_eq, Option.bind_some]
  by_cases h1 : 0 ≤ now ∧ now ≤ 100000
  · by_cases h2 : 0 ≤ skew ∧ skew ≤ 20
    · rw [decide_eq_true h1, decide_eq_true h2, if_pos rfl, if_pos rfl, if_pos ⟨h1.1, h1.2, h2.1, h2.2⟩, w64 (x := 2 * skew) (by omega) (by omega), w64 (by omega) (by omega)]
    · rw [decide_eq_true h1, decide_eq_false h2, if_pos rfl, if_neg (by decide), if_neg (fun e => h2 ⟨e.2.2.1, e.2.2.2⟩)]; rfl
  · rw [decide_eq_false h1, if_neg (by decide), if_neg (fun e => h1 ⟨e.1, e.2.1⟩)]; rfl

theorem impl_within_eq (a lo hi : Int) : impl_within.f a lo hi = some (decide (lo ≤ a ∧ a ≤ hi)) := by
  unfold impl_within.f
  by_cases h : a ≥ lo
  · rw [if_pos h]; congr 1; simp [show lo ≤ a from h]
  · rw [if_neg h]; congr 1; simp [show ¬ lo ≤ a from h]

theorem impl_isTime_eq (a : Int) : impl_isTime.f a = some (decide (0 ≤ a ∧ a ≤ 100000)) := by
  unfold impl_isTime.f; rw [impl_within_eq, Option.bind_some]

theorem impl_isSkew_eq (a : Int) : impl_isSkew.f a = some (decide (0 ≤ a ∧ a ≤ 20)) := by
  unfold impl_isSkew.f; rw [impl_within_eq, Option.bind_some]

theorem impl_Restart_eq (now skew : Int) : impl_Restart.f now skew = some (restartC now skew, []) := by
  unfold impl_Restart.f restartC
  simp only [impl_isTime_eq, impl_isSkew_eq, Option.bind_some]
  by_cases h1 : 0 ≤ now ∧ now ≤ 100000
  · by_cases h2 : 0 ≤ skew ∧ skew ≤ 20
    · rw [decide_eq_true h1, decide_eq_true h2, if_pos rfl, if_pos rfl, if_pos ⟨h1.1, h1.2, h2.1, h2.2⟩, w64 (x := 2 * skew) (by omega) (by omega), w64 (by omega) (by omega)]
    · rw [decide_eq_true h1, decide_eq_false h2, if_pos rfl, if_neg (by decide), if_neg (fun e => h2 ⟨e.2.2.1, e.2.2.2⟩)]; rfl
  · rw [decide_eq_false h1, if_neg (by decide), if_neg (fun e => h1 ⟨e.1, e.2.1⟩)]; rfl

theorem FnExactRestart : laws_FnExactRestart.Pure := by
  intro now skew _ _
  apply Ev.rounds
  unfold laws_FnExactRestart.f
  simp only [spec_Restart_eq, impl_Restart_eq, Option.bind_some]
  have neg : ¬ (((1 + 3 * ([] : List S79).length : Nat) : Int) < 0) := by simp
  refine Ev.bind (laws_eqCache_self _ _ (by decide)) ?_
  simp only [if_true]
  refine Ev.bind (laws_markCache_ev _ _ (by decide)) (Ev.bind (laws_heldCache_ev _ _ (by decide)) ?_)
  simp only [neg, if_true, if_false]
  refine Ev.bind (laws_eqCache_self _ _ (by decide)) ?_
  simp only [if_true]
  refine Ev.bind (laws_heldCache_ev _ _ (by decide)) ?_
  simp only [neg, if_true, if_false]
  exact Ev.now _

end Go.Proofs.Ytheehldpcdfpmaa.Pure
