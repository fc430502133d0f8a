/- The program's ReadVar returns what the reference's returns, for all texts. -/
import Derived.Test.YtheehldpcdfpmaaPFnExactReadVarx2
import Derived.Test.YtheehldpcdfpmaaBase
namespace Go.Proofs.Ytheehldpcdfpmaa.Pure
open Go.RowKit Go.Proofs.Ytheehldpcdfpmaa.PFnExactReadVar Go.Proofs.YtheehldpcdfpmaaW.PrintWords Go.Proofs.YtheehldpcdfpmaaW.PrintLast Go.Proofs.YtheehldpcdfpmaaW.PrintMore Go.Proofs.Ytheehldpcdfpmaa.Base
set_option linter.unusedVariables false
set_option linter.unusedSimpArgs false
theorem spec_l1In_eq (a lo hi : Int) : spec_l1In.f a lo hi = some (decide (lo ≤ a ∧ a ≤ hi)) := by
  unfold spec_l1In.f
  by_cases h : a ≥ lo
  · rw [if_pos h]; congr 1; simp [show lo ≤ a from h]
  · rw [if_neg h]; congr 1; simp [show ¬ lo ≤ a from h]

theorem spec_Var_loop (j : Nat) : ∀ (n : Nat) (acc : List Int), n < 128 ^ (j + 1) → n ≤ MAXV → acc.length + j < 1000 →
    Ev (fun k => spec_Var.l0 k (n : Int) acc) (strOfNums (acc ++ (var n).map fun (m : Nat) => (m : Int))) := by
  have e128 : ((128 : Nat) : Int) = 128 := rfl
  induction j with
  | zero =>
    intro n acc hn hm ha
    have hn' : n < 128 := by simpa using hn
    refine Ev.step (f := fun _ => some (strOfNums (acc ++ (var n).map fun (m : Nat) => (m : Int)))) (fun k => ?_) (Ev.now _)
    simp only [spec_Var.l0]
    rw [if_neg (by omega), if_pos (by omega), var_small hn', show (n : Int) % 256 = (n : Int) by omega]; rfl
  | succ j ih =>
    intro n acc hn hm ha
    unfold MAXV at hm
    by_cases h : n < 128
    · refine Ev.step (f := fun _ => some (strOfNums (acc ++ (var n).map fun (m : Nat) => (m : Int)))) (fun k => ?_) (Ev.now _)
      simp only [spec_Var.l0]
      rw [if_neg (by omega), if_pos (by omega), var_small h, show (n : Int) % 256 = (n : Int) by omega]; rfl
    · have hd : n / 128 < 128 ^ (j + 1) := Nat.div_lt_of_lt_mul (by rw [Nat.pow_succ] at hn; omega)
      have hr := ih (n / 128) (acc ++ [((n % 128 + 128 : Nat) : Int)]) hd (by unfold MAXV; omega) (by simp; omega)
      refine Ev.step (f := fun k => spec_Var.l0 k ((n / 128 : Nat) : Int) (acc ++ [((n % 128 + 128 : Nat) : Int)])) (fun k => ?_) (ev_eq hr ?_)
      · simp only [spec_Var.l0]
        rw [if_pos (by omega), if_pos (by omega), ← e128, tdivN, tmodN, w64 (by omega) (by omega), w64 (by omega) (by omega)]
        have e : (((128 : Nat) : Int) + ((n % 128 : Nat) : Int)) % 256 = ((n % 128 + 128 : Nat) : Int) := by omega
        rw [e]
      · rw [var_big h, List.map_cons, List.append_assoc]; rfl
theorem spec_Var_ev (n : Int) : Ev (fun k => spec_Var.f k n) (varS n) := by
  unfold spec_Var.f
  simp only [spec_l1In_eq, Option.bind_some]
  by_cases h : 0 ≤ n ∧ n ≤ 562949953421311
  · simp only [h, decide_true, if_true]
    obtain ⟨m, rfl⟩ := Int.eq_ofNat_of_zero_le h.1
    have hm : m ≤ MAXV := by unfold MAXV; omega
    refine ev_eq (spec_Var_loop 6 m [] (by unfold MAXV at hm; omega) hm (by simp)) ?_
    rw [varS_in hm]; rfl
  · simp only [h, decide_false]
    rw [varS_out h]
    exact Ev.now _

theorem spec_ReadVar_inner (s : ByteArray) (hs : s.size ≤ 140737488355327) (kk : Nat) (h1 : 1 ≤ kk) (h7 : kk ≤ 7) (hkl : kk ≤ (bl s).length) {q : Int × Int} (hq : Ev (fun k => (spec_Var.f k ((val ((bl s).take kk) : Nat) : Int)).bind fun t111 => (if 0 ≤ (kk : Int) then (if (kk : Int) ≤ (s.size : Int) then (if t111.toList = (s.extract 0 (kk : Int).toNat).toList then (some (((val ((bl s).take kk) : Nat) : Int), (kk : Int))) else (spec_ReadVar.l0 k s (wrap64 ((kk : Int) + 1)))) else (none)) else (none))) q) (d : Nat) : ∀ (x : Int), d ≤ kk → x = (d : Int) - 1 →
    Ev (fun k => spec_ReadVar.l1 k s (kk : Int) ((val (((bl s).take kk).drop d) : Nat) : Int) x) q := by
  have hl := bl_len s
  induction d with
  | zero =>
    intro x hd hx
    subst hx
    rw [List.drop_zero]
    refine Ev.step (fun k => ?_) hq
    simp only [spec_ReadVar.l1]
    rw [if_neg (by omega)]
  | succ d ih =>
    intro x hd hx
    have hd' : d < (bl s).length := by omega
    have hb : bt s (d : Int) = (((bl s)[d] : Nat) : Int) := bt_get s d hd'
    have hb256 : (bl s)[d] < 256 := bl_lt s _ (List.getElem_mem hd')
    have hx' : x = (d : Int) := by omega
    subst hx'
    have hlen : ((bl s).take kk).length = kk := by rw [List.length_take]; omega
    have hdrop : ((bl s).take kk).drop d = (bl s)[d] :: ((bl s).take kk).drop (d + 1) := by
      rw [List.drop_eq_getElem_cons (by omega), List.getElem_take]
    have hval : val (((bl s).take kk).drop d) = (bl s)[d] % 128 + 128 * val (((bl s).take kk).drop (d + 1)) := by rw [hdrop]; rfl
    have hlt := val_lt (((bl s).take kk).drop (d + 1))
    rw [List.length_drop, hlen] at hlt
    have hp := pow_le7 (kk - (d + 1)) (by omega)
    have e128 : ((128 : Nat) : Int) = 128 := rfl
    refine Ev.step (fun k => ?_) (ih ((d : Int) - 1) (by omega) rfl)
    simp only [spec_ReadVar.l1]
    rw [if_pos (by omega), if_pos (by omega), if_pos (by omega), hb, w64 (x := (((bl s)[d] : Nat) : Int)) (by omega) (by omega), ← e128, tmodN, w64 (x := _ * ((128 : Nat) : Int)) (by omega) (by omega), w64 (x := _ + _) (by omega) (by omega), w64 (x := _ - 1) (by omega) (by omega)]
    rw [hval]
    congr 1
    omega
theorem spec_ReadVar_loop (s : ByteArray) (hs : s.size ≤ 140737488355327) (d : Nat) : ∀ (kk : Nat), kk + d = 8 → 1 ≤ kk → (∀ n j, j < kk → ¬ R (bl s) n j) →
    Ev (fun k => spec_ReadVar.l0 k s (kk : Int)) (rvI (bl s)) := by
  have hl := bl_len s
  induction d with
  | zero =>
    intro kk hk h1 hno
    have e : rvI (bl s) = (0, 0) := rvI_none (fun n k hR => hno n k (by have := R_seven hR; omega) hR)
    rw [e]
    refine Ev.step (f := fun k => spec_ReadVar.j1 k s (kk : Int) false) (fun k => ?_) (Ev.step (f := fun _ => some (0, 0)) (fun k => ?_) (Ev.now _))
    · simp only [spec_ReadVar.l0]; rw [if_neg (by omega)]
    · simp [spec_ReadVar.j1]
  | succ d ih =>
    intro kk hk h1 hno
    by_cases h : kk ≤ (bl s).length
    · have hmax : val ((bl s).take kk) ≤ MAXV := by
        have := val_lt ((bl s).take kk)
        rw [List.length_take, Nat.min_eq_left h] at this
        have hp : 128 ^ kk ≤ 128 ^ 7 := Nat.pow_le_pow_right (by decide) (by omega)
        have : (128 : Nat) ^ 7 = 562949953421312 := by decide
        unfold MAXV; omega
      have hin : Ev (fun k => (spec_Var.f k ((val ((bl s).take kk) : Nat) : Int)).bind fun t111 => (if 0 ≤ (kk : Int) then (if (kk : Int) ≤ (s.size : Int) then (if t111.toList = (s.extract 0 (kk : Int).toNat).toList then (some (((val ((bl s).take kk) : Nat) : Int), (kk : Int))) else (spec_ReadVar.l0 k s (wrap64 ((kk : Int) + 1)))) else (none)) else (none))) (rvI (bl s)) := by
        refine Ev.bind (spec_Var_ev _) ?_
        simp only [show (0 : Int) ≤ (kk : Int) by omega, show (kk : Int) ≤ (s.size : Int) by omega, if_true, toList_iff, Int.toNat_natCast]
        by_cases hR : R (bl s) (val ((bl s).take kk)) kk
        · have := (R_iff s _ kk hmax (by omega)).2 hR
          simp only [this, if_true]
          rw [rvI_some hR]
          exact Ev.now _
        · have hne : ¬ varS ((val ((bl s).take kk) : Nat) : Int) = s.extract 0 kk := fun e => hR ((R_iff s _ kk hmax (by omega)).1 e)
          simp only [hne, if_false]
          have hw : Aside0 (wrap64 ((kk : Int) + 1) = ((kk + 1 : Nat) : Int)) := ⟨by rw [w64 (by omega) (by omega)]; omega⟩
          rw [hw.out]
          refine ih (kk + 1) (by omega) (by omega) (fun n j hj hRj => ?_)
          by_cases hjk : j < kk
          · exact hno n j hjk hRj
          · have : j = kk := by omega
            subst this
            rw [← R_val hRj] at hRj
            exact hR hRj
      have hout := spec_ReadVar_inner s hs kk h1 (by omega) h hin kk ((kk : Int) - 1) (Nat.le_refl _) rfl
      rw [List.drop_of_length_le (by rw [List.length_take]; omega)] at hout
      refine Ev.step (f := fun k => spec_ReadVar.j1 k s (kk : Int) true) (fun k => ?_) (Ev.step (fun k => ?_) hout)
      · simp only [spec_ReadVar.l0]; rw [if_pos (by omega), decide_eq_true (by omega)]
      · simp only [spec_ReadVar.j1, if_true]; rw [w64 (by omega) (by omega)]; rfl
    · have e : rvI (bl s) = (0, 0) := rvI_none (fun n k hR => hno n k (by have := R_le hR; omega) hR)
      rw [e]
      refine Ev.step (f := fun k => spec_ReadVar.j1 k s (kk : Int) false) (fun k => ?_) (Ev.step (f := fun _ => some (0, 0)) (fun k => ?_) (Ev.now _))
      · simp only [spec_ReadVar.l0]
        by_cases h7 : (kk : Int) ≤ 7
        · rw [if_pos h7, decide_eq_false (by omega)]
        · rw [if_neg h7]
      · simp [spec_ReadVar.j1]
theorem spec_ReadVar_ev (s : ByteArray) (hs : s.size ≤ 140737488355327) : Ev (fun k => spec_ReadVar.f k s) (rvI (bl s)) := by
  unfold spec_ReadVar.f
  exact spec_ReadVar_loop s hs 7 1 (by omega) (by omega) (fun n j hj hR => by have := R_pos hR; omega)

theorem impl_within_eq (a lo hi : Int) : impl_within.f a lo hi = some (decide (lo ≤ a ∧ a ≤ hi)) := by
  unfold impl_within.f
  by_cases h : a ≥ lo
  · rw [if_pos h]; congr 1; simp [show lo ≤ a from h]
  · rw [if_neg h]; congr 1; simp [show ¬ lo ≤ a from h]

theorem impl_Var_loop (j : Nat) : ∀ (n : Nat) (acc : List Int), n < 128 ^ (j + 1) → n ≤ MAXV → acc.length + j < 1000 →
    Ev (fun k => impl_Var.l0 k (n : Int) acc) (strOfNums (acc ++ (var n).map fun (m : Nat) => (m : Int))) := by
  induction j with
  | zero =>
    intro n acc hn hm ha
    have hn' : n < 128 := by simpa using hn
    refine Ev.step (f := fun _ => some (strOfNums (acc ++ (var n).map fun (m : Nat) => (m : Int)))) (fun k => ?_) (Ev.now _)
    simp only [impl_Var.l0]
    rw [if_neg (by omega), if_pos (by omega), var_small hn', show (n : Int) % 256 = (n : Int) by omega]; rfl
  | succ j ih =>
    intro n acc hn hm ha
    by_cases h : n < 128
    · refine Ev.step (f := fun _ => some (strOfNums (acc ++ (var n).map fun (m : Nat) => (m : Int)))) (fun k => ?_) (Ev.now _)
      simp only [impl_Var.l0]
      rw [if_neg (by omega), if_pos (by omega), var_small h, show (n : Int) % 256 = (n : Int) by omega]; rfl
    · have hd : n / 128 < 128 ^ (j + 1) := Nat.div_lt_of_lt_mul (by rw [Nat.pow_succ] at hn; omega)
      have hr := ih (n / 128) (acc ++ [((n % 128 + 128 : Nat) : Int)]) hd (by omega) (by simp; omega)
      refine Ev.step (f := fun k => impl_Var.l0 k ((n / 128 : Nat) : Int) (acc ++ [((n % 128 + 128 : Nat) : Int)])) (fun k => ?_) (ev_eq hr ?_)
      · simp only [impl_Var.l0]
        rw [if_pos (by omega), if_pos (by omega), or_and n (by unfold MAXV at hm; omega)]
        congr 1
      · rw [var_big h, List.map_cons, List.append_assoc]; rfl
theorem impl_Var_ev (n : Int) : Ev (fun k => impl_Var.f k n) (varS n) := by
  unfold impl_Var.f
  simp only [impl_within_eq, Option.bind_some]
  by_cases h : 0 ≤ n ∧ n ≤ 562949953421311
  · simp only [h, decide_true, if_true]
    obtain ⟨m, rfl⟩ := Int.eq_ofNat_of_zero_le h.1
    have hm : m ≤ MAXV := by unfold MAXV; omega
    refine ev_eq (impl_Var_loop 6 m [] (by unfold MAXV at hm; omega) hm (by simp)) ?_
    rw [varS_in hm]; rfl
  · simp only [h, decide_false]
    rw [varS_out h]
    exact Ev.now _

theorem impl_ReadVar_loop (s : ByteArray) (hs : s.size ≤ 140737488355327) (d : Nat) : ∀ (i n : Nat), i + d = 7 → i ≤ (bl s).length → (∀ j, j < i → 128 ≤ (bl s).getD j 0) → n = val ((bl s).take i) →
    Ev (fun k => impl_ReadVar.l0 k s (n : Int) (i : Int)) (rvI (bl s)) := by
  have hl := bl_len s
  induction d with
  | zero =>
    intro i n hi hle hc hn
    have e : rvI (bl s) = (0, 0) := rvI_none (fun n k hR => R_far (bl s) i hc (Or.inr (by omega)) hR)
    rw [e]
    refine Ev.step (f := fun k => impl_ReadVar.j1 k s (n : Int) (i : Int) false) (fun k => ?_) (Ev.step (f := fun _ => some (0, 0)) (fun k => ?_) (Ev.now _))
    · simp only [impl_ReadVar.l0]
      by_cases h : (i : Int) < (s.size : Int)
      · rw [if_pos h, decide_eq_false (by omega)]
      · rw [if_neg h]
    · simp [impl_ReadVar.j1]
  | succ d ih =>
    intro i n hi hle hc hn
    by_cases h : i < (bl s).length
    · have is_ : (i : Int) < (s.size : Int) := by omega
      have i7 : (i : Int) < 7 := by omega
      have i0 : 0 ≤ (i : Int) := by omega
      have i1s : ((i + 1 : Nat) : Int) ≤ (s.size : Int) := by omega
      have i10 : 0 ≤ ((i + 1 : Nat) : Int) := by omega
      have i1S : i + 1 ≤ s.size := by omega
      have hw1 : Aside0 (wrap64 ((i : Int) + 1) = ((i + 1 : Nat) : Int)) := ⟨by rw [w64 (by omega) (by omega)]; omega⟩
      have hw7 : Aside0 (0 ≤ wrap64 (7 * (i : Int))) := ⟨by rw [w64 (by omega) (by omega)]; omega⟩
      have hj : ∀ k, impl_ReadVar.l0 (k + 1) s (n : Int) (i : Int) = impl_ReadVar.j1 k s (n : Int) (i : Int) true := by
        intro k
        simp only [impl_ReadVar.l0]
        rw [if_pos is_, decide_eq_true i7]
      have hb : bt s (i : Int) = (((bl s)[i] : Nat) : Int) := bt_get s i h
      have hb256 : (bl s)[i] < 256 := bl_lt s _ (List.getElem_mem h)
      have hnlt : n < 128 ^ i := by
        have := val_lt ((bl s).take i)
        rw [List.length_take, Nat.min_eq_left hle] at this
        omega
      have ho := or_shl n i (bl s)[i] hnlt (by omega) hb256
      have hv := val_take (bl s) i h
      have hnn : n + 128 ^ i * ((bl s)[i] % 128) = val ((bl s).take (i + 1)) := by rw [hv, hn]
      have hsum := val_lt ((bl s).take (i + 1))
      rw [List.length_take, Nat.min_eq_left (by omega)] at hsum
      have hp : 128 ^ (i + 1) ≤ 128 ^ 7 := Nat.pow_le_pow_right (by decide) (by omega)
      have hmax : n + 128 ^ i * ((bl s)[i] % 128) ≤ MAXV := by
        have h7 : (128 : Nat) ^ 7 = 562949953421312 := by decide
        rw [hnn]; unfold MAXV; omega
      have hg : (bl s).getD i 0 = (bl s)[i] := by rw [List.getD_eq_getElem?_getD, List.getElem?_eq_getElem h]; rfl
      by_cases hlt : (bl s)[i] < 128
      · have hvar := impl_Var_ev ((n + 128 ^ i * ((bl s)[i] % 128) : Nat) : Int)
        refine Ev.step hj (Ev.step (f := fun k => (impl_Var.f k ((n + 128 ^ i * ((bl s)[i] % 128) : Nat) : Int)).bind fun t => (if t.toList = (s.extract 0 (i + 1)).toList then some (((n + 128 ^ i * ((bl s)[i] % 128) : Nat) : Int), ((i + 1 : Nat) : Int)) else some (0, 0))) (fun k => ?_) (Ev.bind hvar ?_))
        · simp only [impl_ReadVar.j1, if_true]
          rw [if_pos i0, if_pos is_, if_pos hw7.out, hb, if_pos (show (((bl s)[i] : Nat) : Int) < 128 from Int.ofNat_lt.mpr hlt), ho, hw1.out]
          congr 1
          funext t
          rw [if_pos i10, if_pos i1s]
          rfl
        · by_cases hR : R (bl s) (n + 128 ^ i * ((bl s)[i] % 128)) (i + 1)
          · rw [rvI_some hR]
            have := (R_iff s _ (i + 1) hmax i1S).2 hR
            simp only [this, if_true]
            exact Ev.now _
          · have hne : ¬ varS ((n + 128 ^ i * ((bl s)[i] % 128) : Nat) : Int) = s.extract 0 (i + 1) := fun e => hR ((R_iff s _ (i + 1) hmax i1S).1 e)
            have hnone : rvI (bl s) = (0, 0) := rvI_none (fun n' k' hR' => by
              have hk := R_upto (bl s) i h (by omega) hc hlt hR'
              subst hk
              have hv' := R_val hR'
              rw [← hnn] at hv'
              rw [← hv'] at hR'
              exact hR hR')
            rw [hnone]
            simp only [toList_iff, hne, if_false]
            exact Ev.now _
      · have hr := ih (i + 1) (n + 128 ^ i * ((bl s)[i] % 128)) (by omega) (by omega) (fun j hj => by
          by_cases he : j < i
          · exact hc j he
          · have : j = i := by omega
            rw [this, hg]; omega) hnn
        refine Ev.step hj (Ev.step (f := fun k => impl_ReadVar.l0 k s ((n + 128 ^ i * ((bl s)[i] % 128) : Nat) : Int) ((i + 1 : Nat) : Int)) (fun k => ?_) hr)
        simp only [impl_ReadVar.j1, if_true]
        rw [if_pos i0, if_pos is_, if_pos hw7.out, hb, if_neg (show ¬ (((bl s)[i] : Nat) : Int) < 128 from fun e => hlt (Int.ofNat_lt.mp e)), ho, hw1.out]
    · have e : rvI (bl s) = (0, 0) := rvI_none (fun n k hR => R_far (bl s) i hc (Or.inl (by omega)) hR)
      rw [e]
      refine Ev.step (f := fun k => impl_ReadVar.j1 k s (n : Int) (i : Int) false) (fun k => ?_) (Ev.step (f := fun _ => some (0, 0)) (fun k => ?_) (Ev.now _))
      · simp only [impl_ReadVar.l0]
        rw [if_neg (by omega)]
      · simp [impl_ReadVar.j1]
theorem impl_ReadVar_ev (s : ByteArray) (hs : s.size ≤ 140737488355327) : Ev (fun k => impl_ReadVar.f k s) (rvI (bl s)) := by
  unfold impl_ReadVar.f
  exact impl_ReadVar_loop s hs 7 0 0 (by omega) (by omega) (by intro j hj; omega) (by simp [val])

theorem FnExactReadVar : laws_FnExactReadVar.Pure := by
  intro s hs
  by_cases h : (s.size : Int) > 1048576
  · exact ⟨0, by unfold laws_FnExactReadVar.f; rw [if_pos h]⟩
  · apply Ev.rounds
    unfold laws_FnExactReadVar.f
    simp only [h, if_false]
    refine Ev.bind (spec_ReadVar_ev s (by omega)) (Ev.bind (impl_ReadVar_ev s (by omega)) ?_)
    simp
    exact Ev.now _

end Go.Proofs.Ytheehldpcdfpmaa.Pure
