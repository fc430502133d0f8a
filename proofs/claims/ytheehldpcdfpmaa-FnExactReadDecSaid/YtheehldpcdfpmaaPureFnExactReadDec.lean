/- The program's ReadDec returns what the reference's returns, for all texts. -/
import Derived.Test.YtheehldpcdfpmaaOFnExactReadDecx3
import Derived.Test.YtheehldpcdfpmaaBase
import Derived.Test.YtheehldpcdfpmaaDecs
namespace Go.Proofs.Ytheehldpcdfpmaa.Pure
open Go.RowKit Go.Proofs.Ytheehldpcdfpmaa.OFnExactReadDec Go.Proofs.YtheehldpcdfpmaaW.PrintWords Go.Proofs.YtheehldpcdfpmaaW.PrintLast Go.Proofs.YtheehldpcdfpmaaW.PrintMore Go.Proofs.Ytheehldpcdfpmaa.Base
set_option linter.unusedVariables false
set_option linter.unusedSimpArgs false
theorem spec_Dec_loop (neg : Bool) (m : Nat) : ∀ (x : Int) (acc : List Nat), x.natAbs = m → -9223372036854775808 ≤ x → x ≤ 9223372036854775807 → acc.length + (decB m).length ≤ 100 →
    Ev (fun k => spec_Dec.l0 k x (ofB acc) neg) (ofB ((if neg = true then [45] else []) ++ (decB m ++ acc))) := by
  induction m using Nat.strongRecOn with
  | ind m ih =>
    intro x acc hx h0 h1 hacc
    by_cases hz : m = 0
    · have hx0 : x = 0 := by omega
      subst hz
      refine Ev.step (f := fun _ => some (ofB ((if neg = true then [45] else []) ++ (decB 0 ++ acc)))) (fun k => ?_) (Ev.now _)
      simp only [spec_Dec.l0]
      rw [if_pos hx0, decB_zero, List.nil_append]
      cases neg with
      | true =>
        rw [if_pos rfl, if_pos rfl, if_pos (by rw [ofB_size]; omega), ofB_append]; rfl
      | false => rw [if_neg (by decide), if_neg (by decide), List.nil_append]
    · have hx0 : ¬ x = 0 := by omega
      have hn := next10 x h0 h1
      have hlen : (decB m).length = (decB (m / 10)).length + 1 := by rw [decB_pos hz, List.length_append]; rfl
      have hone : strOfNums [((48 + x.natAbs % 10 : Nat) : Int)] = ofB [48 + x.natAbs % 10] := rfl
      have hr := ih (m / 10) (by omega) (wrap64 (Int.tdiv x 10)) ([48 + m % 10] ++ acc) (by rw [hn.1, hx]) hn.2.1 hn.2.2.1 (by rw [List.length_append, List.length_singleton]; omega)
      have hd := dig10 x
      clear hn
      refine Ev.step (fun k => ?_) (ev_eq hr ?_)
      · simp only [spec_Dec.l0]
        rw [if_neg hx0, ofB_append]
        by_cases hneg : Int.tmod x 10 < 0
        · rw [if_pos hneg, hd.1 hneg, Option.bind_some, hone, hx, if_pos (by rw [ofB_size, ofB_size, List.length_singleton]; omega)]
        · rw [if_neg hneg, hd.2 hneg, Option.bind_some, hone, hx, if_pos (by rw [ofB_size, ofB_size, List.length_singleton]; omega)]
      · rw [decB_pos hz, List.append_assoc]
theorem spec_Dec_ev (n : Int) (h0 : -9223372036854775808 ≤ n) (h1 : n ≤ 9223372036854775807) : Ev (fun k => spec_Dec.f k n) (decS n) := by
  unfold spec_Dec.f decS decI
  by_cases hz : n = 0
  · simp only [hz, if_true]
    exact Ev.now _
  · simp only [hz, if_false]
    have hl : (decB n.natAbs).length ≤ 19 := decB_len 19 _ (by omega)
    refine ev_eq (spec_Dec_loop (decide (n < 0)) n.natAbs n [] rfl h0 h1 (by simp; omega)) ?_
    rw [List.append_nil]
    by_cases hn : n < 0
    · rw [if_pos hn, decide_eq_true hn, if_pos rfl]; rfl
    · rw [if_neg hn, decide_eq_false hn, if_neg (by decide)]; rfl

theorem spec_ReadDec_loop (s : ByteArray) (hs : s.size ≤ 140737488355327) (m : Nat) (hm : m = min 11 s.size) {q : Int × Bool}
    (hq : Ev (fun k => spec_ReadDec.j1 k s ((dv (((bl s).take m).filter isDig) : Nat) : Int) (((((bl s).take m).filter isDig).length : Nat) : Int) (m : Int) false) q) (d : Nat) : ∀ i, i + d = m →
    Ev (fun k => spec_ReadDec.l0 k s ((dv (((bl s).take i).filter isDig) : Nat) : Int) (((((bl s).take i).filter isDig).length : Nat) : Int) (i : Int)) q := by
  have hl := bl_len s
  induction d with
  | zero =>
    intro i hi
    have : i = m := by omega
    subst this
    refine Ev.step (fun k => ?_) hq
    simp only [spec_ReadDec.l0]
    by_cases h : (i : Int) < (s.size : Int)
    · rw [if_pos h, decide_eq_false (by omega)]
    · rw [if_neg h]
  | succ d ih =>
    intro i hi
    have hlt : i < (bl s).length := by omega
    have i0 : 0 ≤ (i : Int) := by omega
    have is_ : (i : Int) < (s.size : Int) := by omega
    have i11 : (i : Int) < 11 := by omega
    have hi1 : Aside0 (wrap64 ((i : Int) + 1) = ((i + 1 : Nat) : Int)) := ⟨by rw [w64 (by omega) (by omega)]; omega⟩
    have hb := bt_get s i hlt
    have hr := ih (i + 1) (by omega)
    have hlen : (((bl s).take i).filter isDig).length ≤ i := Nat.le_trans (List.length_filter_le _ _) (by rw [List.length_take]; omega)
    have hdv : dv (((bl s).take i).filter isDig) < 10 ^ (((bl s).take i).filter isDig).length := dv_lt _ (fun x hx => by
      have := (List.mem_filter.mp hx).2
      unfold isDig at this
      exact (of_decide_eq_true this).2)
    have hpow : 10 ^ (((bl s).take i).filter isDig).length ≤ 10 ^ 10 := Nat.pow_le_pow_right (by decide) (by omega)
    have hdv' : dv (((bl s).take i).filter isDig) < 10000000000 := Nat.lt_of_lt_of_le hdv hpow
    clear hdv hpow
    rw [take_snoc _ _ hlt, List.filter_append] at hr
    refine Ev.step (f := fun k => spec_ReadDec.j1 k s ((dv (((bl s).take i).filter isDig) : Nat) : Int) (((((bl s).take i).filter isDig).length : Nat) : Int) (i : Int) true) (fun k => ?_) (Ev.step (fun k => ?_) hr)
    · simp only [spec_ReadDec.l0]; rw [if_pos is_, decide_eq_true i11]
    · simp only [spec_ReadDec.j1, if_true]
      rw [if_pos i0, if_pos is_, hb, hi1.out]
      generalize (bl s)[i] = c
      by_cases c1 : 48 ≤ c
      · rw [if_pos (by omega)]
        by_cases c2 : c ≤ 57
        · have e : [c].filter isDig = [c] := by simp [isDig, c1, c2]
          rw [if_pos (by omega), e, dv_snoc, List.length_append, List.length_singleton]
          rw [w64 (x := _ * 10) (by omega) (by omega), w64 (by omega) (by omega), w64 (by omega) (by omega)]
          congr 1
          omega
        · have e : [c].filter isDig = [] := by simp [isDig]; omega
          rw [if_neg (by omega), e, List.append_nil]
      · have e : [c].filter isDig = [] := by simp [isDig]; omega
        rw [if_neg (by omega), e, List.append_nil]
theorem spec_ReadDec_ev (s : ByteArray) (hs : s.size ≤ 140737488355327) : Ev (fun k => spec_ReadDec.f k s) (rdD s) := by
  have hl := bl_len s
  unfold spec_ReadDec.f
  refine spec_ReadDec_loop s hs (min 11 s.size) rfl ?_ (min 11 s.size) 0 (by omega)
  have hdl : dv (((bl s).take (min 11 s.size)).filter isDig) < 10 ^ (((bl s).take (min 11 s.size)).filter isDig).length := dv_lt _ (fun x hx => by
      have := (List.mem_filter.mp hx).2
      unfold isDig at this
      exact (of_decide_eq_true this).2)
  have hlen : (((bl s).take (min 11 s.size)).filter isDig).length ≤ 11 := Nat.le_trans (List.length_filter_le _ _) (by rw [List.length_take]; omega)
  have hpow : 10 ^ (((bl s).take (min 11 s.size)).filter isDig).length ≤ 10 ^ 11 := Nat.pow_le_pow_right (by decide) hlen
  have hin : ∀ n : Int, -1000000000 < n → n < 1000000000 → bl s = decI n → dv (((bl s).take (min 11 s.size)).filter isDig) = n.natAbs ∧ (((bl s).take (min 11 s.size)).filter isDig).length ≤ 9 ∧ s.size ≤ 10 := by
    intro n h0 h1 he
    have h2 := decI_len h0 h1
    have hsz : s.size ≤ 10 := by rw [← hl, he]; exact h2.2
    have : (bl s).take (min 11 s.size) = bl s := List.take_of_length_le (by omega)
    rw [this, he]
    exact ⟨decI_digs n, h2.1, hsz⟩
  generalize hD : dv (((bl s).take (min 11 s.size)).filter isDig) = D at *
  generalize hL : (((bl s).take (min 11 s.size)).filter isDig).length = L at *
  have hD11 : D < 100000000000 := Nat.lt_of_lt_of_le hdl hpow
  have fin : ∀ neg : Bool, (∀ n : Int, -1000000000 < n → n < 1000000000 → bl s = decI n → (neg = true ↔ n < 0)) → Ev (fun k => spec_ReadDec.j2 k s (D : Int) (L : Int) neg) (rdD s) := by
    intro neg hneg
    by_cases c1 : L ≤ 9
    · by_cases c2 : s.size ≤ 10
      · have hbig : D < 1000000000 := Nat.lt_of_lt_of_le hdl (Nat.pow_le_pow_right (by decide) c1)
        clear hdl hpow
        obtain ⟨v, hv⟩ : ∃ v : Int, v = if neg = true then -(D : Int) else (D : Int) := ⟨_, rfl⟩
        have hvb : -1000000000 < v ∧ v < 1000000000 := by split at hv <;> omega
        have hend : Ev (fun k => (spec_Dec.f k v).bind fun t => (if t.toList = s.toList then some (v, true) else some (0, false))) (rdD s) := by
          refine Ev.bind (spec_Dec_ev v (by omega) (by omega)) ?_
          simp only [toList_iff]
          by_cases he : decS v = s
          · simp only [he, if_true]
            rw [rdD_some hvb.1 hvb.2 ((decS_iff s v).1 he)]
            exact Ev.now _
          · simp only [he, if_false]
            rw [rdD_none (fun n h0 h1 hn => he ((decS_iff s v).2 (by
              have h2 := (hin n h0 h1 hn).1
              have h3 := hneg n h0 h1 hn
              have : v = n := by
                rw [hv]
                split
                · rename_i hh; have := h3.1 hh; omega
                · rename_i hh; have : ¬ n < 0 := fun e => hh (h3.2 e)
                  omega
              rw [this, hn])))]
            exact Ev.now _
        refine Ev.step (fun k => ?_) hend
        have hw : Aside0 (wrap64 (-(D : Int)) = -(D : Int)) := ⟨by rw [w64 (by omega) (by omega)]⟩
        simp only [spec_ReadDec.j2]
        cases neg with
        | true =>
          simp only [if_true] at hv
          rw [if_pos rfl, if_neg (by omega), if_neg (by omega), hw.out, hv]
        | false =>
          rw [if_neg (by decide)] at hv
          rw [if_neg (by decide), if_neg (by omega), if_neg (by omega), hv]
      · rw [rdD_none (fun n h0 h1 hn => c2 (hin n h0 h1 hn).2.2)]
        refine Ev.step (f := fun _ => some (0, false)) (fun k => ?_) (Ev.now _)
        simp only [spec_ReadDec.j2]
        cases neg with
        | true => rw [if_pos rfl, if_neg (by omega), if_pos (by omega)]
        | false => rw [if_neg (by decide), if_neg (by omega), if_pos (by omega)]
    · rw [rdD_none (fun n h0 h1 hn => c1 (hin n h0 h1 hn).2.1)]
      refine Ev.step (f := fun _ => some (0, false)) (fun k => ?_) (Ev.now _)
      simp only [spec_ReadDec.j2]
      cases neg with
      | true => rw [if_pos rfl, if_pos (by omega)]
      | false => rw [if_neg (by decide), if_pos (by omega)]
  by_cases hz : 0 < s.size
  · have h0 : 0 < (bl s).length := by omega
    have hb := bt_get s 0 h0
    refine Ev.step (fun k => ?_) (fin (decide ((bl s)[0] = 45)) (fun n h0' h1' hn => ?_))
    · simp only [spec_ReadDec.j1]
      rw [if_neg (by decide), if_pos (by omega), if_pos (by omega)]
      have : (bt s 0 == 45) = decide ((bl s)[0] = 45) := by
        have hb' : bt s 0 = (((bl s)[0] : Nat) : Int) := hb
        rw [hb', Bool.eq_iff_iff]; simp; omega
      rw [this]
    · rw [decide_eq_true_iff, ← (decI_head n).1, ← hn, List.getD_eq_getElem?_getD, List.getElem?_eq_getElem h0]
      rfl
  · refine Ev.step (fun k => ?_) (fin false (fun n h0' h1' hn => ?_))
    · simp only [spec_ReadDec.j1]
      rw [if_neg (by decide), if_neg (by omega)]
    · have := (decI_head n).2
      rw [← hn] at this
      omega

theorem impl_Dec_rev (n : Nat) : ∀ (a m b : List Int), m.length = n → a.length + m.length + b.length < 1000000 →
    Ev (fun k => impl_Dec.l1 k (a ++ m ++ b) (a.length : Int) ((a.length : Int) + (m.length : Int) - 1)) (strOfNums (a ++ m.reverse ++ b)) := by
  induction n using Nat.strongRecOn with
  | ind n ih =>
    intro a m b hm hlen
    match m, hm with
    | [], hm =>
      refine Ev.step (f := fun _ => some (strOfNums (a ++ [] ++ b))) (fun k => ?_) (Ev.now _)
      simp only [impl_Dec.l1]
      rw [if_neg (by simp; omega)]
    | [x], hm =>
      refine Ev.step (f := fun _ => some (strOfNums (a ++ [x] ++ b))) (fun k => ?_) (Ev.now _)
      simp only [impl_Dec.l1]
      rw [if_neg (by simp)]
    | x :: y :: t, hm =>
      obtain ⟨t', z, ht⟩ : ∃ t' z, y :: t = t' ++ [z] := ⟨(y :: t).dropLast, (y :: t).getLast (by simp), (List.dropLast_concat_getLast (by simp)).symm⟩
      rw [ht]
      have hl : t'.length + 1 = t.length + 1 := by have := congrArg List.length ht; simp at this; omega
      have hr := ih t'.length (by simp at hm; omega) (a ++ [z]) t' (x :: b) rfl (by simp at hlen hm ⊢; omega)
      have e1 : a ++ [z] ++ t' ++ x :: b = a ++ z :: (t' ++ x :: b) := by simp
      have e2 : a ++ [z] ++ t'.reverse ++ x :: b = a ++ (x :: (t' ++ [z])).reverse ++ b := by simp
      rw [e1, e2] at hr
      refine Ev.step (fun k => ?_) hr
      have e3 : a ++ x :: (t' ++ [z]) ++ b = a ++ x :: (t' ++ z :: b) := by simp
      rw [e3]
      simp only [impl_Dec.l1]
      have hj : ((a.length : Int) + ((x :: (t' ++ [z])).length : Int) - 1) = ((a.length + 1 + t'.length : Nat) : Int) := by simp; omega
      rw [hj]
      have hL : (a ++ x :: (t' ++ z :: b)).length = a.length + (t'.length + b.length + 2) := by simp; omega
      simp only [List.length_cons] at hlen
      have r1 : rd (a ++ x :: (t' ++ z :: b)) ((a.length + 1 + t'.length : Nat) : Int) = z := by
        unfold rd
        rw [Int.toNat_natCast, List.getD_eq_getElem?_getD, List.getElem?_append_right (by omega)]
        have : a.length + 1 + t'.length - a.length = t'.length + 1 := by omega
        rw [this, List.getElem?_cons_succ, List.getElem?_append_right (by omega)]
        simp
      have r2 : rd (a ++ x :: (t' ++ z :: b)) (a.length : Int) = x := by
        unfold rd
        rw [Int.toNat_natCast, List.getD_eq_getElem?_getD, List.getElem?_append_right (by omega)]
        simp
      rw [if_pos (by omega), if_pos (by omega), if_pos (by rw [hL]; omega), if_pos (by omega), if_pos (by rw [hL]; omega), r1, r2, w64 (by omega) (by omega), w64 (by omega) (by omega), Int.toNat_natCast, Int.toNat_natCast]
      have s1 : (a ++ x :: (t' ++ z :: b)).set a.length z = a ++ z :: (t' ++ z :: b) := by
        rw [List.set_append_right _ _ (by omega)]; simp
      have s2 : (a ++ z :: (t' ++ z :: b)).set (a.length + 1 + t'.length) x = a ++ z :: (t' ++ x :: b) := by
        rw [List.set_append_right _ _ (by omega)]
        have : a.length + 1 + t'.length - a.length = t'.length + 1 := by omega
        rw [this, List.set_cons_succ, List.set_append_right _ _ (by omega)]; simp
      rw [s1, s2]
      congr 1
      · simp
      · simp
theorem impl_Dec_loop (n : Int) (m : Nat) : ∀ (x : Int) (acc : List Nat), x.natAbs = m → -9223372036854775808 ≤ x → x ≤ 9223372036854775807 → acc.length + (decB m).length ≤ 100 →
    Ev (fun k => impl_Dec.l0 k n (acc.map fun (b : Nat) => (b : Int)) x) (ofB ((if n < 0 then [45] else []) ++ (decB m ++ acc.reverse))) := by
  induction m using Nat.strongRecOn with
  | ind m ih =>
    intro x acc hx h0 h1 hacc
    by_cases hz : m = 0
    · have hx0 : x = 0 := by omega
      subst hz
      have done : ∀ l : List Nat, l.length ≤ 200 → Ev (fun k => impl_Dec.j1 k (l.map fun (b : Nat) => (b : Int))) (ofB l.reverse) := by
        intro l hl
        have hr := impl_Dec_rev l.length [] (l.map fun (b : Nat) => (b : Int)) [] (by simp) (by simp; omega)
        refine Ev.step (fun k => ?_) (ev_eq hr ?_)
        · simp only [impl_Dec.j1]
          rw [w64 (by simp; omega) (by simp; omega)]
          simp
        · simp [ofB, List.map_reverse]
      rw [decB_zero] at hacc ⊢
      simp only [List.length_nil] at hacc
      by_cases hn : n < 0
      · have hd := done (acc ++ [45]) (by simp; omega)
        refine Ev.step (fun k => ?_) (ev_eq hd ?_)
        · simp only [impl_Dec.l0]
          rw [if_pos hx0, if_pos hn, if_pos (by simp; omega)]
          simp
        · rw [if_pos hn]; simp
      · have hd := done acc (by omega)
        refine Ev.step (fun k => ?_) (ev_eq hd ?_)
        · simp only [impl_Dec.l0]
          rw [if_pos hx0, if_neg hn]
        · rw [if_neg hn]; simp
    · have hx0 : ¬ x = 0 := by omega
      have hn := next10 x h0 h1
      have hlen : (decB m).length = (decB (m / 10)).length + 1 := by rw [decB_pos hz, List.length_append]; rfl
      have hr := ih (m / 10) (by omega) (wrap64 (Int.tdiv x 10)) (acc ++ [48 + m % 10]) (by rw [hn.1, hx]) hn.2.1 hn.2.2.1 (by simp; omega)
      have hd := dig10 x
      clear hn
      refine Ev.step (fun k => ?_) (ev_eq hr ?_)
      · simp only [impl_Dec.l0]
        rw [if_neg hx0]
        by_cases hneg : Int.tmod x 10 < 0
        · rw [if_pos hneg, hd.1 hneg, hx, if_pos (by simp; omega)]; simp
        · rw [if_neg hneg, hd.2 hneg, hx, if_pos (by simp; omega)]; simp
      · rw [decB_pos hz]; simp
theorem impl_Dec_ev (n : Int) (h0 : -9223372036854775808 ≤ n) (h1 : n ≤ 9223372036854775807) : Ev (fun k => impl_Dec.f k n) (decS n) := by
  unfold impl_Dec.f decS decI
  by_cases hz : n = 0
  · simp only [hz, if_true]
    exact Ev.now _
  · simp only [hz, if_false]
    have hl : (decB n.natAbs).length ≤ 19 := decB_len 19 _ (by omega)
    refine ev_eq (impl_Dec_loop n n.natAbs n [] rfl h0 h1 (by simp; omega)) ?_
    by_cases hn : n < 0
    · rw [if_pos hn, if_pos hn]; simp
    · rw [if_neg hn, if_neg hn]; simp

theorem impl_within_eq (a lo hi : Int) : impl_within.f a lo hi = some (decide (lo ≤ a ∧ a ≤ hi)) := by
  unfold impl_within.f
  by_cases h : a ≥ lo
  · rw [if_pos h]; congr 1; simp [show lo ≤ a from h]
  · rw [if_neg h]; congr 1; simp [show ¬ lo ≤ a from h]

noncomputable def finD (s : ByteArray) (v : Int) : Int × Bool := open Classical in if decS v = s then (v, true) else (0, false)
theorem impl_ReadDec_loop (s : ByteArray) (hs : s.size ≤ 140737488355327) (a : Nat) (ha : a ≤ 1) (h9 : s.size ≤ a + 9) (d : Nat) : ∀ (i x : Nat), i + d = s.size → a ≤ i → x < 10 ^ (i - a) →
    Ev (fun k => impl_ReadDec.l0 k s (a : Int) (x : Int) (i : Int)) (if ((bl s).drop i).all isDig = true then finD s (if a = 1 then -((((bl s).drop i).foldl (fun n b => n * 10 + (b - 48)) x : Nat) : Int) else ((((bl s).drop i).foldl (fun n b => n * 10 + (b - 48)) x : Nat) : Int)) else (0, false)) := by
  have hl := bl_len s
  induction d with
  | zero =>
    intro i x hi hai hx
    have hpow : 10 ^ (i - a) ≤ 10 ^ 9 := Nat.pow_le_pow_right (by decide) (by omega)
    have hx9 : x < 1000000000 := Nat.lt_of_lt_of_le hx hpow
    clear hx hpow
    rw [List.drop_of_length_le (by omega)]
    simp only [List.all_nil, if_true, List.foldl_nil]
    have hw : Aside0 (wrap64 (-(x : Int)) = -(x : Int)) := ⟨by rw [w64 (by omega) (by omega)]⟩
    have fin : ∀ v : Int, -1000000000 < v → v < 1000000000 → Ev (fun k => (impl_Dec.f k v).bind fun t => (if t.toList = s.toList then some (v, true) else some (0, false))) (finD s v) := by
      intro v h0 h1
      refine Ev.bind (impl_Dec_ev v (by omega) (by omega)) ?_
      simp only [toList_iff]
      unfold finD
      by_cases he : decS v = s
      · simp only [he, if_true]; exact Ev.now _
      · simp only [he, if_false]; exact Ev.now _
    by_cases h1 : a = 1
    · rw [if_pos h1]
      refine Ev.step (fun k => ?_) (fin _ (by omega) (by omega))
      simp only [impl_ReadDec.l0]
      rw [if_neg (by omega), if_pos (by omega), hw.out]
    · rw [if_neg h1]
      refine Ev.step (fun k => ?_) (fin _ (by omega) (by omega))
      simp only [impl_ReadDec.l0]
      rw [if_neg (by omega), if_neg (by omega)]
  | succ d ih =>
    intro i x hi hai hx
    have hlt : i < (bl s).length := by omega
    have i0 : 0 ≤ (i : Int) := by omega
    have is_ : (i : Int) < (s.size : Int) := by omega
    have hi1 : Aside0 (wrap64 ((i : Int) + 1) = ((i + 1 : Nat) : Int)) := ⟨by rw [w64 (by omega) (by omega)]; omega⟩
    have hb := bt_get s i hlt
    have hcons : (bl s).drop i = (bl s)[i] :: (bl s).drop (i + 1) := List.drop_eq_getElem_cons hlt
    have hpow : 10 ^ (i - a) ≤ 10 ^ 9 := Nat.pow_le_pow_right (by decide) (by omega)
    have hx9 : x < 1000000000 := Nat.lt_of_lt_of_le hx hpow
    have hx' : ∀ c, c ≤ 57 → x * 10 + (c - 48) < 10 ^ (i + 1 - a) := by
      intro c hc
      have : i + 1 - a = (i - a) + 1 := by omega
      rw [this, Nat.pow_succ]; omega
    clear hx hpow
    rw [hcons, List.all_cons, List.foldl_cons]
    generalize (bl s)[i] = c at hb
    by_cases c1 : 48 ≤ c
    · by_cases c2 : c ≤ 57
      · have e : isDig c = true := decide_eq_true ⟨c1, c2⟩
        rw [e, Bool.true_and]
        refine Ev.step (fun k => ?_) (ih (i + 1) (x * 10 + (c - 48)) (by omega) (by omega) (hx' c c2))
        simp only [impl_ReadDec.l0]
        rw [if_pos is_, if_pos i0, hb, if_neg (by omega), if_neg (by omega), hi1.out, w64 (x := 10 * _) (by omega) (by omega), w64 (by omega) (by omega)]
        congr 1
        omega
      · have e : isDig c = false := decide_eq_false (by omega)
        rw [e, Bool.false_and, if_neg (by decide)]
        refine Ev.step (f := fun _ => some (0, false)) (fun k => ?_) (Ev.now _)
        simp only [impl_ReadDec.l0]
        rw [if_pos is_, if_pos i0, hb, if_neg (by omega), if_pos (by omega)]
    · have e : isDig c = false := decide_eq_false (by omega)
      rw [e, Bool.false_and, if_neg (by decide)]
      refine Ev.step (f := fun _ => some (0, false)) (fun k => ?_) (Ev.now _)
      simp only [impl_ReadDec.l0]
      rw [if_pos is_, if_pos i0, hb, if_pos (by omega)]
theorem impl_ReadDec_ev (s : ByteArray) (hs : s.size ≤ 140737488355327) : Ev (fun k => impl_ReadDec.f k s) (rdD s) := by
  have hl := bl_len s
  have main : ∀ a : Nat, a ≤ 1 → a ≤ s.size → (∀ n : Int, -1000000000 < n → n < 1000000000 → bl s = decI n → (a = 1 ↔ n < 0)) → Ev (fun k => impl_ReadDec.j1 k s (a : Int)) (rdD s) := by
    intro a ha has hneg
    have hin : ∀ n : Int, -1000000000 < n → n < 1000000000 → bl s = decI n → 1 ≤ s.size - a ∧ s.size - a ≤ 9 ∧ ((bl s).drop a).all isDig = true ∧ dv ((bl s).drop a) = n.natAbs := by
      intro n h0 h1 he
      have hsz : s.size = (decI n).length := by rw [← he, hl]
      have hb := decB_len 9 n.natAbs (by omega)
      have hn := hneg n h0 h1 he
      rw [he]
      unfold decI at hsz ⊢
      split at hsz
      · rename_i hz
        subst hz
        have : a = 0 := by have : ¬ a = 1 := fun e => by have := hn.1 e; omega
                           omega
        subst this
        rw [if_pos rfl, hsz]
        exact ⟨by decide, by decide, by decide, by decide⟩
      · rename_i hz
        rw [if_neg hz]
        split at hsz
        · rename_i hlt
          have : a = 1 := hn.2 hlt
          subst this
          rw [if_pos hlt, hsz]
          have hpos : 0 < (decB n.natAbs).length := by
            rw [decB_pos (by omega)]; simp
          refine ⟨by simp; omega, by simp; omega, ?_, ?_⟩
          · rw [List.all_eq_true]
            intro x hx
            exact decide_eq_true (decB_digit _ x hx)
          · show dv (decB n.natAbs) = n.natAbs
            exact dv_decB _
        · rename_i hlt
          have : a = 0 := by have : ¬ a = 1 := fun e => hlt (hn.1 e)
                             omega
          subst this
          rw [if_neg hlt, hsz]
          have hpos : 0 < (decB n.natAbs).length := by
            rw [decB_pos (by omega)]; simp
          refine ⟨by omega, by omega, ?_, ?_⟩
          · rw [List.all_eq_true]
            intro x hx
            exact decide_eq_true (decB_digit _ x hx)
          · exact dv_decB _
    by_cases h9 : 1 ≤ s.size - a ∧ s.size - a ≤ 9
    · have hr := impl_ReadDec_loop s hs a ha (by omega) (s.size - a) a 0 (by omega) (Nat.le_refl _) (by rw [Nat.sub_self]; decide)
      refine Ev.step (fun k => ?_) (ev_eq hr ?_)
      · simp only [impl_ReadDec.j1]
        rw [impl_within_eq, Option.bind_some, w64 (by omega) (by omega), decide_eq_true (by omega), if_pos rfl]
        rfl
      · by_cases hex : ∃ n : Int, -1000000000 < n ∧ n < 1000000000 ∧ bl s = decI n
        · obtain ⟨n, h0, h1, he⟩ := hex
          have h2 := hin n h0 h1 he
          have hn := hneg n h0 h1 he
          rw [rdD_some h0 h1 he, if_pos h2.2.2.1]
          have hv : (if a = 1 then -((((bl s).drop a).foldl (fun n b => n * 10 + (b - 48)) 0 : Nat) : Int) else ((((bl s).drop a).foldl (fun n b => n * 10 + (b - 48)) 0 : Nat) : Int)) = n := by
            have : ((bl s).drop a).foldl (fun n b => n * 10 + (b - 48)) 0 = n.natAbs := h2.2.2.2
            rw [this]
            by_cases h : a = 1
            · rw [if_pos h]; have := hn.1 h; omega
            · rw [if_neg h]; have : ¬ n < 0 := fun e => h (hn.2 e)
              omega
          rw [hv]
          unfold finD
          rw [if_pos ((decS_iff s n).2 he)]
        · rw [rdD_none (fun n h0 h1 he => hex ⟨n, h0, h1, he⟩)]
          by_cases hall : ((bl s).drop a).all isDig = true
          · rw [if_pos hall]
            unfold finD
            rw [if_neg]
            intro he
            have hlt : dv ((bl s).drop a) < 10 ^ ((bl s).drop a).length := dv_lt _ (fun x hx => by
              have := List.all_eq_true.mp hall x hx
              exact (of_decide_eq_true this).2)
            have hp : 10 ^ ((bl s).drop a).length ≤ 10 ^ 9 := Nat.pow_le_pow_right (by decide) (by rw [List.length_drop]; omega)
            have hlt' : dv ((bl s).drop a) < 1000000000 := Nat.lt_of_lt_of_le hlt hp
            unfold dv at hlt'
            refine hex ⟨_, ?_, ?_, (decS_iff s _).1 he⟩
            · split <;> omega
            · split <;> omega
          · rw [if_neg hall]
    · rw [rdD_none (fun n h0 h1 he => h9 ⟨(hin n h0 h1 he).1, (hin n h0 h1 he).2.1⟩)]
      refine Ev.step (f := fun _ => some (0, false)) (fun k => ?_) (Ev.now _)
      simp only [impl_ReadDec.j1]
      rw [impl_within_eq, Option.bind_some, w64 (by omega) (by omega), decide_eq_false (by omega), if_neg (by decide)]
  have m1 : s.size ≥ 1 → (∀ n : Int, -1000000000 < n → n < 1000000000 → bl s = decI n → n < 0) → Ev (fun k => impl_ReadDec.j0 k s 0 true) (rdD s) := by
    intro h1 h2
    refine Ev.step (fun k => ?_) (main 1 (Nat.le_refl _) h1 (fun n a b c => ⟨fun _ => h2 n a b c, fun _ => rfl⟩))
    simp only [impl_ReadDec.j0, if_true]; rfl
  have m0 : (∀ n : Int, -1000000000 < n → n < 1000000000 → bl s = decI n → ¬ n < 0) → Ev (fun k => impl_ReadDec.j0 k s 0 false) (rdD s) := by
    intro h2
    refine Ev.step (fun k => ?_) (main 0 (by omega) (by omega) (fun n a b c => ⟨fun e => by omega, fun e => absurd e (h2 n a b c)⟩))
    simp only [impl_ReadDec.j0]; rfl
  unfold impl_ReadDec.f
  by_cases hz : 0 < s.size
  · have hz' : (s.size : Int) > 0 := by omega
    have hz2 : 0 < (s.size : Int) := by omega
    simp only [hz', hz2, if_true]
    have h0 : 0 < (bl s).length := by omega
    have hb : bt s 0 = (((bl s)[0] : Nat) : Int) := bt_get s 0 h0
    have hhead : ∀ n : Int, bl s = decI n → ((bl s)[0] = 45 ↔ n < 0) := by
      intro n hn
      rw [← (decI_head n).1, ← hn, List.getD_eq_getElem?_getD, List.getElem?_eq_getElem h0]; rfl
    rw [hb]
    by_cases h45 : (bl s)[0] = 45
    · have : ((((bl s)[0] : Nat) : Int) == 45) = true := by rw [beq_iff_eq]; omega
      rw [this]
      exact m1 hz (fun n _ _ hn => (hhead n hn).1 h45)
    · have : ((((bl s)[0] : Nat) : Int) == 45) = false := by rw [beq_eq_false_iff_ne]; omega
      rw [this]
      exact m0 (fun n _ _ hn e => h45 ((hhead n hn).2 e))
  · have hz' : ¬ ((s.size : Int) > 0) := by omega
    simp only [hz', if_false]
    refine m0 (fun n _ _ hn e => ?_)
    have := (decI_head n).2
    rw [← hn] at this
    omega

theorem FnExactReadDec : laws_FnExactReadDec.Pure := by
  intro s hs
  by_cases h : (s.size : Int) > 1048576
  · exact ⟨0, by unfold laws_FnExactReadDec.f; rw [if_pos h]⟩
  · apply Ev.rounds
    unfold laws_FnExactReadDec.f
    simp only [h, if_false]
    refine Ev.bind (spec_ReadDec_ev s (by omega)) (Ev.bind (impl_ReadDec_ev s (by omega)) ?_)
    simp
    exact Ev.now _

end Go.Proofs.Ytheehldpcdfpmaa.Pure
