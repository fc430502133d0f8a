/- The program's Dec returns what the reference's returns, for all numbers. -/
import Derived.Test.YtheehldpcdfpmaaOFnExactDecx1
import Derived.Test.YtheehldpcdfpmaaBase
import Derived.Test.YtheehldpcdfpmaaDecs
namespace Go.Proofs.Ytheehldpcdfpmaa.Pure
open Go.RowKit Go.Proofs.Ytheehldpcdfpmaa.OFnExactDec Go.Proofs.YtheehldpcdfpmaaW.PrintWords Go.Proofs.YtheehldpcdfpmaaW.PrintLast Go.Proofs.YtheehldpcdfpmaaW.PrintMore Go.Proofs.Ytheehldpcdfpmaa.Base
set_option linter.unusedVariables false
set_option linter.unusedSimpArgs false
theorem spec_Dec_loop (neg : Bool) (m : Nat) : ∀ (x : Int) (acc : List Nat), x.natAbs = m → -9223372036854775808 ≤ x → x ≤ 9223372036854775807 → acc.length + (decB m).length ≤ 100 →
    Ev (fun k => spec_Dec.l0 k x (ofB acc) neg) (ofB ((if neg = true then [45] else []) ++ (decB m ++ acc))) := by
  induction m using Nat.strongRecOn with
  | ind m ih =>
    intro x acc hx h0 h1 hacc
    by_cases hz : m = 0
    · have hx0 : x = 0 := by omega
      subst hz
      refine Ev.step (f := fun _ => some (ofB ((if neg = true then [45] else []) ++ (decB 0 ++ acc)))) (fun k => ?_) (Ev.now _)
      simp only [spec_Dec.l0]
      rw [if_pos hx0, decB_zero, List.nil_append]
      cases neg with
      | true =>
        rw [if_pos rfl, if_pos rfl, if_pos (by rw [ofB_size]; omega), ofB_append]; rfl
      | false => rw [if_neg (by decide), if_neg (by decide), List.nil_append]
    · have hx0 : ¬ x = 0 := by omega
      have hn := next10 x h0 h1
      have hlen : (decB m).length = (decB (m / 10)).length + 1 := by rw [decB_pos hz, List.length_append]; rfl
      have hone : strOfNums [((48 + x.natAbs % 10 : Nat) : Int)] = ofB [48 + x.natAbs % 10] := rfl
      have hr := ih (m / 10) (by omega) (wrap64 (Int.tdiv x 10)) ([48 + m % 10] ++ acc) (by rw [hn.1, hx]) hn.2.1 hn.2.2.1 (by rw [List.length_append, List.length_singleton]; omega)
      have hd := dig10 x
      clear hn
      refine Ev.step (fun k => ?_) (ev_eq hr ?_)
      · simp only [spec_Dec.l0]
        rw [if_neg hx0, ofB_append]
        by_cases hneg : Int.tmod x 10 < 0
        · rw [if_pos hneg, hd.1 hneg, Option.bind_some, hone, hx, if_pos (by rw [ofB_size, ofB_size, List.length_singleton]; omega)]
        · rw [if_neg hneg, hd.2 hneg, Option.bind_some, hone, hx, if_pos (by rw [ofB_size, ofB_size, List.length_singleton]; omega)]
      · rw [decB_pos hz, List.append_assoc]
theorem spec_Dec_ev (n : Int) (h0 : -9223372036854775808 ≤ n) (h1 : n ≤ 9223372036854775807) : Ev (fun k => spec_Dec.f k n) (decS n) := by
  unfold spec_Dec.f decS decI
  by_cases hz : n = 0
  · simp only [hz, if_true]
    exact Ev.now _
  · simp only [hz, if_false]
    have hl : (decB n.natAbs).length ≤ 19 := decB_len 19 _ (by omega)
    refine ev_eq (spec_Dec_loop (decide (n < 0)) n.natAbs n [] rfl h0 h1 (by simp; omega)) ?_
    rw [List.append_nil]
    by_cases hn : n < 0
    · rw [if_pos hn, decide_eq_true hn, if_pos rfl]; rfl
    · rw [if_neg hn, decide_eq_false hn, if_neg (by decide)]; rfl

theorem impl_Dec_rev (n : Nat) : ∀ (a m b : List Int), m.length = n → a.length + m.length + b.length < 1000000 →
    Ev (fun k => impl_Dec.l1 k (a ++ m ++ b) (a.length : Int) ((a.length : Int) + (m.length : Int) - 1)) (strOfNums (a ++ m.reverse ++ b)) := by
  induction n using Nat.strongRecOn with
  | ind n ih =>
    intro a m b hm hlen
    match m, hm with
    | [], hm =>
      refine Ev.step (f := fun _ => some (strOfNums (a ++ [] ++ b))) (fun k => ?_) (Ev.now _)
      simp only [impl_Dec.l1]
      rw [if_neg (by simp; omega)]
    | [x], hm =>
      refine Ev.step (f := fun _ => some (strOfNums (a ++ [x] ++ b))) (fun k => ?_) (Ev.now _)
      simp only [impl_Dec.l1]
      rw [if_neg (by simp)]
    | x :: y :: t, hm =>
      obtain ⟨t', z, ht⟩ : ∃ t' z, y :: t = t' ++ [z] := ⟨(y :: t).dropLast, (y :: t).getLast (by simp), (List.dropLast_concat_getLast (by simp)).symm⟩
      rw [ht]
      have hl : t'.length + 1 = t.length + 1 := by have := congrArg List.length ht; simp at this; omega
      have hr := ih t'.length (by simp at hm; omega) (a ++ [z]) t' (x :: b) rfl (by simp at hlen hm ⊢; omega)
      have e1 : a ++ [z] ++ t' ++ x :: b = a ++ z :: (t' ++ x :: b) := by simp
      have e2 : a ++ [z] ++ t'.reverse ++ x :: b = a ++ (x :: (t' ++ [z])).reverse ++ b := by simp
      rw [e1, e2] at hr
      refine Ev.step (fun k => ?_) hr
      have e3 : a ++ x :: (t' ++ [z]) ++ b = a ++ x :: (t' ++ z :: b) := by simp
      rw [e3]
      simp only [impl_Dec.l1]
      have hj : ((a.length : Int) + ((x :: (t' ++ [z])).length : Int) - 1) = ((a.length + 1 + t'.length : Nat) : Int) := by simp; omega
      rw [hj]
      have hL : (a ++ x :: (t' ++ z :: b)).length = a.length + (t'.length + b.length + 2) := by simp; omega
      simp only [List.length_cons] at hlen
      have r1 : rd (a ++ x :: (t' ++ z :: b)) ((a.length + 1 + t'.length : Nat) : Int) = z := by
        unfold rd
        rw [Int.toNat_natCast, List.getD_eq_getElem?_getD, List.getElem?_append_right (by omega)]
        have : a.length + 1 + t'.length - a.length = t'.length + 1 := by omega
        rw [this, List.getElem?_cons_succ, List.getElem?_append_right (by omega)]
        simp
      have r2 : rd (a ++ x :: (t' ++ z :: b)) (a.length : Int) = x := by
        unfold rd
        rw [Int.toNat_natCast, List.getD_eq_getElem?_getD, List.getElem?_append_right (by omega)]
        simp
      rw [if_pos (by omega), if_pos (by omega), if_pos (by rw [hL]; omega), if_pos (by omega), if_pos (by rw [hL]; omega), r1, r2, w64 (by omega) (by omega), w64 (by omega) (by omega), Int.toNat_natCast, Int.toNat_natCast]
      have s1 : (a ++ x :: (t' ++ z :: b)).set a.length z = a ++ z :: (t' ++ z :: b) := by
        rw [List.set_append_right _ _ (by omega)]; simp
      have s2 : (a ++ z :: (t' ++ z :: b)).set (a.length + 1 + t'.length) x = a ++ z :: (t' ++ x :: b) := by
        rw [List.set_append_right _ _ (by omega)]
        have : a.length + 1 + t'.length - a.length = t'.length + 1 := by omega
        rw [this, List.set_cons_succ, List.set_append_right _ _ (by omega)]; simp
      rw [s1, s2]
      congr 1
      · simp
      · simp
theorem impl_Dec_loop (n : Int) (m : Nat) : ∀ (x : Int) (acc : List Nat), x.natAbs = m → -9223372036854775808 ≤ x → x ≤ 9223372036854775807 → acc.length + (decB m).length ≤ 100 →
    Ev (fun k => impl_Dec.l0 k n (acc.map fun (b : Nat) => (b : Int)) x) (ofB ((if n < 0 then [45] else []) ++ (decB m ++ acc.reverse))) := by
  induction m using Nat.strongRecOn with
  | ind m ih =>
    intro x acc hx h0 h1 hacc
    by_cases hz : m = 0
    · have hx0 : x = 0 := by omega
      subst hz
      have done : ∀ l : List Nat, l.length ≤ 200 → Ev (fun k => impl_Dec.j1 k (l.map fun (b : Nat) => (b : Int))) (ofB l.reverse) := by
        intro l hl
        have hr := impl_Dec_rev l.length [] (l.map fun (b : Nat) => (b : Int)) [] (by simp) (by simp; omega)
        refine Ev.step (fun k => ?_) (ev_eq hr ?_)
        · simp only [impl_Dec.j1]
          rw [w64 (by simp; omega) (by simp; omega)]
          simp
        · simp [ofB, List.map_reverse]
      rw [decB_zero] at hacc ⊢
      simp only [List.length_nil] at hacc
      by_cases hn : n < 0
      · have hd := done (acc ++ [45]) (by simp; omega)
        refine Ev.step (fun k => ?_) (ev_eq hd ?_)
        · simp only [impl_Dec.l0]
          rw [if_pos hx0, if_pos hn, if_pos (by simp; omega)]
          simp
        · rw [if_pos hn]; simp
      · have hd := done acc (by omega)
        refine Ev.step (fun k => ?_) (ev_eq hd ?_)
        · simp only [impl_Dec.l0]
          rw [if_pos hx0, if_neg hn]
        · rw [if_neg hn]; simp
    · have hx0 : ¬ x = 0 := by omega
      have hn := next10 x h0 h1
      have hlen : (decB m).length = (decB (m / 10)).length + 1 := by rw [decB_pos hz, List.length_append]; rfl
      have hr := ih (m / 10) (by omega) (wrap64 (Int.tdiv x 10)) (acc ++ [48 + m % 10]) (by rw [hn.1, hx]) hn.2.1 hn.2.2.1 (by simp; omega)
      have hd := dig10 x
      clear hn
      refine Ev.step (fun k => ?_) (ev_eq hr ?_)
      · simp only [impl_Dec.l0]
        rw [if_neg hx0]
        by_cases hneg : Int.tmod x 10 < 0
        · rw [if_pos hneg, hd.1 hneg, hx, if_pos (by simp; omega)]; simp
        · rw [if_neg hneg, hd.2 hneg, hx, if_pos (by simp; omega)]; simp
      · rw [decB_pos hz]; simp
theorem impl_Dec_ev (n : Int) (h0 : -9223372036854775808 ≤ n) (h1 : n ≤ 9223372036854775807) : Ev (fun k => impl_Dec.f k n) (decS n) := by
  unfold impl_Dec.f decS decI
  by_cases hz : n = 0
  · simp only [hz, if_true]
    exact Ev.now _
  · simp only [hz, if_false]
    have hl : (decB n.natAbs).length ≤ 19 := decB_len 19 _ (by omega)
    refine ev_eq (impl_Dec_loop n n.natAbs n [] rfl h0 h1 (by simp; omega)) ?_
    by_cases hn : n < 0
    · rw [if_pos hn, if_pos hn]; simp
    · rw [if_neg hn, if_neg hn]; simp

theorem FnExactDec : laws_FnExactDec.Pure := by
  intro n hn
  have h := lit_wf hn
  apply Ev.rounds
  unfold laws_FnExactDec.f
  refine Ev.bind (spec_Dec_ev n h.1 h.2) (Ev.bind (impl_Dec_ev n h.1 h.2) ?_)
  simp
  exact Ev.now _

end Go.Proofs.Ytheehldpcdfpmaa.Pure
