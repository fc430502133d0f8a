/- The program's LearnKey returns what the reference's returns, for all arguments, in new memory. -/
import Derived.Test.YthlpfghlildllaaOFnExactLearnKeyx10
import Derived.Test.YthlpfghlildllaaBase
import Derived.Test.YthlpfghlildllaaTerms
import Derived.Test.YthlpfghlildllaaDecs
namespace Go.Proofs.Ythlpfghlildllaa.Pure
open Go.RowKit Go.Proofs.Ythlpfghlildllaa.OFnExactLearnKey Go.Proofs.YthlpfghlildllaaW.PrintWords Go.Proofs.YthlpfghlildllaaW.PrintLast Go.Proofs.YthlpfghlildllaaW.PrintMore Go.Proofs.Ythlpfghlildllaa.Base Go.Proofs.Ythlpfghlildllaa.OWord
set_option linter.unusedVariables false
set_option linter.unusedSimpArgs false
theorem impl_within_eq (a lo hi : Int) : impl_within.f a lo hi = some (decide (lo ≤ a ∧ a ≤ hi)) := by
  unfold impl_within.f
  by_cases h : a ≥ lo
  · rw [if_pos h]; congr 1; simp [show lo ≤ a from h]
  · rw [if_neg h]; congr 1; simp [show ¬ lo ≤ a from h]

theorem impl_isKey_eq (a : Int) : impl_isKey.f a = some (decide (1 ≤ a ∧ a ≤ 1000000)) := by
  unfold impl_isKey.f; rw [impl_within_eq, Option.bind_some]

theorem impl_Var_loop (j : Nat) : ∀ (n : Nat) (acc : List Int), n < 128 ^ (j + 1) → n ≤ MAXV → acc.length + j < 1000 →
    Ev (fun k => impl_Var.l0 k (n : Int) acc) (strOfNums (acc ++ (var n).map fun (m : Nat) => (m : Int))) := by
  induction j with
  | zero =>
    intro n acc hn hm ha
    have hn' : n < 128 := by simpa using hn
    refine Ev.step (f := fun _ => some (strOfNums (acc ++ (var n).map fun (m : Nat) => (m : Int)))) (fun k => ?_) (Ev.now _)
    simp only [impl_Var.l0]
    rw [if_neg (by omega), if_pos (by omega), var_small hn', show (n : Int) % 256 = (n : Int) by omega]; rfl
  | succ j ih =>
    intro n acc hn hm ha
    by_cases h : n < 128
    · refine Ev.step (f := fun _ => some (strOfNums (acc ++ (var n).map fun (m : Nat) => (m : Int)))) (fun k => ?_) (Ev.now _)
      simp only [impl_Var.l0]
      rw [if_neg (by omega), if_pos (by omega), var_small h, show (n : Int) % 256 = (n : Int) by omega]; rfl
    · have hd : n / 128 < 128 ^ (j + 1) := Nat.div_lt_of_lt_mul (by rw [Nat.pow_succ] at hn; omega)
      have hr := ih (n / 128) (acc ++ [((n % 128 + 128 : Nat) : Int)]) hd (by omega) (by simp; omega)
      refine Ev.step (f := fun k => impl_Var.l0 k ((n / 128 : Nat) : Int) (acc ++ [((n % 128 + 128 : Nat) : Int)])) (fun k => ?_) (ev_eq hr ?_)
      · simp only [impl_Var.l0]
        rw [if_pos (by omega), if_pos (by omega), or_and n (by unfold MAXV at hm; omega)]
        congr 1
      · rw [var_big h, List.map_cons, List.append_assoc]; rfl
theorem impl_Var_ev (n : Int) : Ev (fun k => impl_Var.f k n) (varS n) := by
  unfold impl_Var.f
  simp only [impl_within_eq, Option.bind_some]
  by_cases h : 0 ≤ n ∧ n ≤ 562949953421311
  · simp only [h, decide_true, if_true]
    obtain ⟨m, rfl⟩ := Int.eq_ofNat_of_zero_le h.1
    have hm : m ≤ MAXV := by unfold MAXV; omega
    refine ev_eq (impl_Var_loop 6 m [] (by unfold MAXV at hm; omega) hm (by simp)) ?_
    rw [varS_in hm]; rfl
  · simp only [h, decide_false]
    rw [varS_out h]
    exact Ev.now _

theorem impl_ReadVar_loop (s : ByteArray) (hs : s.size ≤ 140737488355327) (d : Nat) : ∀ (i n : Nat), i + d = 7 → i ≤ (bl s).length → (∀ j, j < i → 128 ≤ (bl s).getD j 0) → n = val ((bl s).take i) →
    Ev (fun k => impl_ReadVar.l0 k s (n : Int) (i : Int)) (rvI (bl s)) := by
  have hl := bl_len s
  induction d with
  | zero =>
    intro i n hi hle hc hn
    have e : rvI (bl s) = (0, 0) := rvI_none (fun n k hR => R_far (bl s) i hc (Or.inr (by omega)) hR)
    rw [e]
    refine Ev.step (f := fun k => impl_ReadVar.j1 k s (n : Int) (i : Int) false) (fun k => ?_) (Ev.step (f := fun _ => some (0, 0)) (fun k => ?_) (Ev.now _))
    · simp only [impl_ReadVar.l0]
      by_cases h : (i : Int) < (s.size : Int)
      · rw [if_pos h, decide_eq_false (by omega)]
      · rw [if_neg h]
    · simp [impl_ReadVar.j1]
  | succ d ih =>
    intro i n hi hle hc hn
    by_cases h : i < (bl s).length
    · have is_ : (i : Int) < (s.size : Int) := by omega
      have i7 : (i : Int) < 7 := by omega
      have i0 : 0 ≤ (i : Int) := by omega
      have i1s : ((i + 1 : Nat) : Int) ≤ (s.size : Int) := by omega
      have i10 : 0 ≤ ((i + 1 : Nat) : Int) := by omega
      have i1S : i + 1 ≤ s.size := by omega
      have hw1 : Aside0 (wrap64 ((i : Int) + 1) = ((i + 1 : Nat) : Int)) := ⟨by rw [w64 (by omega) (by omega)]; omega⟩
      have hw7 : Aside0 (0 ≤ wrap64 (7 * (i : Int))) := ⟨by rw [w64 (by omega) (by omega)]; omega⟩
      have hj : ∀ k, impl_ReadVar.l0 (k + 1) s (n : Int) (i : Int) = impl_ReadVar.j1 k s (n : Int) (i : Int) true := by
        intro k
        simp only [impl_ReadVar.l0]
        rw [if_pos is_, decide_eq_true i7]
      have hb : bt s (i : Int) = (((bl s)[i] : Nat) : Int) := bt_get s i h
      have hb256 : (bl s)[i] < 256 := bl_lt s _ (List.getElem_mem h)
      have hnlt : n < 128 ^ i := by
        have := val_lt ((bl s).take i)
        rw [List.length_take, Nat.min_eq_left hle] at this
        omega
      have ho := or_shl n i (bl s)[i] hnlt (by omega) hb256
      have hv := val_take (bl s) i h
      have hnn : n + 128 ^ i * ((bl s)[i] % 128) = val ((bl s).take (i + 1)) := by rw [hv, hn]
      have hsum := val_lt ((bl s).take (i + 1))
      rw [List.length_take, Nat.min_eq_left (by omega)] at hsum
      have hp : 128 ^ (i + 1) ≤ 128 ^ 7 := Nat.pow_le_pow_right (by decide) (by omega)
      have hmax : n + 128 ^ i * ((bl s)[i] % 128) ≤ MAXV := by
        have h7 : (128 : Nat) ^ 7 = 562949953421312 := by decide
        rw [hnn]; unfold MAXV; omega
      have hg : (bl s).getD i 0 = (bl s)[i] := by rw [List.getD_eq_getElem?_getD, List.getElem?_eq_getElem h]; rfl
      by_cases hlt : (bl s)[i] < 128
      · have hvar := impl_Var_ev ((n + 128 ^ i * ((bl s)[i] % 128) : Nat) : Int)
        refine Ev.step hj (Ev.step (f := fun k => (impl_Var.f k ((n + 128 ^ i * ((bl s)[i] % 128) : Nat) : Int)).bind fun t => (if t.toList = (s.extract 0 (i + 1)).toList then some (((n + 128 ^ i * ((bl s)[i] % 128) : Nat) : Int), ((i + 1 : Nat) : Int)) else some (0, 0))) (fun k => ?_) (Ev.bind hvar ?_))
        · simp only [impl_ReadVar.j1, if_true]
          rw [if_pos i0, if_pos is_, if_pos hw7.out, hb, if_pos (show (((bl s)[i] : Nat) : Int) < 128 from Int.ofNat_lt.mpr hlt), ho, hw1.out]
          congr 1
          funext t
          rw [if_pos i10, if_pos i1s]
          rfl
        · by_cases hR : R (bl s) (n + 128 ^ i * ((bl s)[i] % 128)) (i + 1)
          · rw [rvI_some hR]
            have := (R_iff s _ (i + 1) hmax i1S).2 hR
            simp only [this, if_true]
            exact Ev.now _
          · have hne : ¬ varS ((n + 128 ^ i * ((bl s)[i] % 128) : Nat) : Int) = s.extract 0 (i + 1) := fun e => hR ((R_iff s _ (i + 1) hmax i1S).1 e)
            have hnone : rvI (bl s) = (0, 0) := rvI_none (fun n' k' hR' => by
              have hk := R_upto (bl s) i h (by omega) hc hlt hR'
              subst hk
              have hv' := R_val hR'
              rw [← hnn] at hv'
              rw [← hv'] at hR'
              exact hR hR')
            rw [hnone]
            simp only [toList_iff, hne, if_false]
            exact Ev.now _
      · have hr := ih (i + 1) (n + 128 ^ i * ((bl s)[i] % 128)) (by omega) (by omega) (fun j hj => by
          by_cases he : j < i
          · exact hc j he
          · have : j = i := by omega
            rw [this, hg]; omega) hnn
        refine Ev.step hj (Ev.step (f := fun k => impl_ReadVar.l0 k s ((n + 128 ^ i * ((bl s)[i] % 128) : Nat) : Int) ((i + 1 : Nat) : Int)) (fun k => ?_) hr)
        simp only [impl_ReadVar.j1, if_true]
        rw [if_pos i0, if_pos is_, if_pos hw7.out, hb, if_neg (show ¬ (((bl s)[i] : Nat) : Int) < 128 from fun e => hlt (Int.ofNat_lt.mp e)), ho, hw1.out]
    · have e : rvI (bl s) = (0, 0) := rvI_none (fun n k hR => R_far (bl s) i hc (Or.inl (by omega)) hR)
      rw [e]
      refine Ev.step (f := fun k => impl_ReadVar.j1 k s (n : Int) (i : Int) false) (fun k => ?_) (Ev.step (f := fun _ => some (0, 0)) (fun k => ?_) (Ev.now _))
      · simp only [impl_ReadVar.l0]
        rw [if_neg (by omega)]
      · simp [impl_ReadVar.j1]
theorem impl_ReadVar_ev (s : ByteArray) (hs : s.size ≤ 140737488355327) : Ev (fun k => impl_ReadVar.f k s) (rvI (bl s)) := by
  unfold impl_ReadVar.f
  exact impl_ReadVar_loop s hs 7 0 0 (by omega) (by omega) (by intro j hj; omega) (by simp [val])

theorem impl_varAt_ev (s : ByteArray) (hs : s.size ≤ 140737488355327) (a : Nat) (ha : a ≤ s.size) : Ev (fun k => impl_varAt.f k s (a : Int)) (vA (bl s) a) := by
  unfold impl_varAt.f
  have h1 : 0 ≤ (a : Int) := by omega
  have h2 : (a : Int) ≤ (s.size : Int) := by omega
  simp only [h1, h2, if_true, Int.toNat_natCast]
  have hsz : (s.extract a s.size).size ≤ 140737488355327 := by rw [ByteArray.size_extract]; omega
  refine Ev.bind (impl_ReadVar_ev _ hsz) ?_
  rw [bl_from]
  unfold vA rvI
  cases hr : rv ((bl s).drop a) with
  | none => simp only [if_true]; exact Ev.now _
  | some p =>
    obtain ⟨n, k⟩ := p
    have hp := R_pos (rv_R hr)
    have hl := R_le (rv_R hr)
    simp only at hp hl
    rw [List.length_drop, bl_len] at hl
    have hne : ¬ ((k : Int) = 0) := by omega
    simp only [hne, if_false]
    rw [w64 (by omega) (by omega)]
    exact Ev.now _

theorem impl_termAt_list (s : ByteArray) (hs : s.size ≤ 140737488355327) (d : Nat) (hd : d ≤ 100) (n : Nat) (hn : n ≤ 12)
    (hf : ∀ a, a ≤ s.size → Ev (fun k => impl_termAt.f k s (a : Int) (d : Int)) (tA a (parse d ((bl s).drop a)))) (r : Nat) : ∀ (i a : Nat), i + r = n → a ≤ s.size →
    Ev (fun k => impl_termAt.l0 k s ((d + 1 : Nat) : Int) (n : Int) (a : Int) (i : Int)) (tA a (many (parse d) r ((bl s).drop a))) := by
  have hw : Aside0 (wrap64 (((d + 1 : Nat) : Int) - 1) = (d : Int)) := ⟨by rw [w64 (by omega) (by omega)]; omega⟩
  have bad : ∀ i : Int, Ev (fun k => impl_termAt.l0 k s ((d + 1 : Nat) : Int) (n : Int) (-1) i) (-1) := by
    intro i
    refine Ev.step (f := fun _ => some (-1)) (fun k => ?_) (Ev.now _)
    simp only [impl_termAt.l0]
    by_cases h : i < (n : Int)
    · rw [if_pos h, if_neg (by decide)]
    · rw [if_neg h]
  induction r with
  | zero =>
    intro i a hi ha
    refine Ev.step (f := fun _ => some ((a : Int))) (fun k => ?_) (ev_eq (Ev.now _) ?_)
    · simp only [impl_termAt.l0]; rw [if_neg (by omega)]
    · simp [many, tA]
  | succ r ih =>
    intro i a hi ha
    have hi1 : Aside0 (wrap64 ((i : Int) + 1) = ((i + 1 : Nat) : Int)) := ⟨by rw [w64 (by omega) (by omega)]; omega⟩
    refine Ev.step (f := fun k => (impl_termAt.f k s (a : Int) (d : Int)).bind fun t => impl_termAt.l0 k s ((d + 1 : Nat) : Int) (n : Int) t ((i + 1 : Nat) : Int)) (fun k => ?_) (Ev.bind (hf a ha) ?_)
    · simp only [impl_termAt.l0]; rw [if_pos (by omega), if_pos (by omega), hw.out, hi1.out]
    · rw [many_succ]
      cases hp : parse d ((bl s).drop a) with
      | none => exact bad _
      | some m =>
        have hle := (parse_le d _ _ hp).2
        rw [List.length_drop, bl_len] at hle
        have := ih (i + 1) (a + m) (by omega) (by omega)
        rw [← List.drop_drop, tA_add] at this
        exact this
theorem impl_termAt_ev (s : ByteArray) (hs : s.size ≤ 140737488355327) (d : Nat) : ∀ (a : Nat), d ≤ 100 → a ≤ s.size → Ev (fun k => impl_termAt.f k s (a : Int) (d : Int)) (tA a (parse d ((bl s).drop a))) := by
  have hl := bl_len s
  have dead : ∀ (a d : Int), Ev (fun k => impl_termAt.j0 k s a d true) (-1) := by
    intro a d
    refine Ev.step (f := fun _ => some (-1)) (fun k => ?_) (Ev.now _)
    simp [impl_termAt.j0]
  induction d with
  | zero =>
    intro a hd ha
    by_cases h : (a : Int) ≥ (s.size : Int)
    · refine Ev.step (fun k => ?_) (ev_eq (dead (a : Int) ((0 : Nat) : Int)) (by simp [parse, tA]))
      simp only [impl_termAt.f]; rw [if_pos h]
    · refine Ev.step (fun k => ?_) (ev_eq (dead (a : Int) ((0 : Nat) : Int)) (by simp [parse, tA]))
      simp only [impl_termAt.f]; rw [if_neg h, decide_eq_true (by decide)]
  | succ d ih =>
    intro a hd ha
    by_cases h : (a : Int) ≥ (s.size : Int)
    · refine Ev.step (fun k => ?_) (ev_eq (dead (a : Int) ((d + 1 : Nat) : Int)) ?_)
      · simp only [impl_termAt.f]; rw [if_pos h]
      · rw [List.drop_of_length_le (by omega), parse_nil]; rfl
    · have hlt : a < (bl s).length := by omega
      have hs1 : 0 ≤ (a : Int) := by omega
      have hs2 : (a : Int) < (s.size : Int) := by omega
      have ha1 : Aside0 (wrap64 ((a : Int) + 1) = ((a + 1 : Nat) : Int)) := ⟨by rw [w64 (by omega) (by omega)]; omega⟩
      have hd1 : Aside0 (wrap64 (((d + 1 : Nat) : Int) - 1) = (d : Int)) := ⟨by rw [w64 (by omega) (by omega)]; omega⟩
      have hv := impl_varAt_ev s hs (a + 1) (by omega)
      have hcons : (bl s).drop a = (bl s)[a] :: (bl s).drop (a + 1) := List.drop_eq_getElem_cons hlt
      have hstep : ∀ k, impl_termAt.f (k + 1) s (a : Int) ((d + 1 : Nat) : Int) = impl_termAt.j0 k s (a : Int) ((d + 1 : Nat) : Int) false := by
        intro k; simp only [impl_termAt.f]; rw [if_neg h, decide_eq_false (by omega)]
      refine Ev.step hstep ?_
      refine Ev.step (fun k => by simp only [impl_termAt.j0]; rw [if_neg (by decide), ha1.out]) (Ev.bind hv ?_)
      simp only [hs1, hs2, if_true, bt_get s a hlt, impl_within_eq, impl_isKey_eq, Option.bind_some]
      rw [hcons]
      generalize (bl s)[a] = c
      rw [parse]
      unfold vA
      cases hr : rv ((bl s).drop (a + 1)) with
      | none =>
        refine ev_of (fun k => ?_)
        simp [tA]
      | some p =>
        obtain ⟨n, k'⟩ := p
        have hR := rv_R hr
        have hk := R_le hR
        have hn9 := hR.1
        unfold MAXV at hn9
        simp only at hk hn9
        rw [List.length_drop, hl] at hk
        simp only []
        by_cases c1 : c = 97
        · subst c1
          simp only [if_true, List.length_drop, hl]
          by_cases c2 : n ≤ 40
          · have c2' : 0 ≤ (n : Int) ∧ (n : Int) ≤ 40 := by omega
            simp only [c2', decide_true, if_true, c2, true_and]
            rw [w64 (by omega) (by omega)]
            by_cases c3 : n ≤ s.size - (a + 1) - k'
            · rw [if_pos c3]
              have c3' : ¬ ((n : Int) > (s.size : Int) - ((a + 1 + k' : Nat) : Int)) := by omega
              simp only [c3', if_false]
              rw [w64 (by omega) (by omega)]
              refine ev_eq (Ev.now _) ?_
              simp [tA]; omega
            · rw [if_neg c3]
              have c3' : ((n : Int) > (s.size : Int) - ((a + 1 + k' : Nat) : Int)) := by omega
              simp only [c3', if_true]
              exact Ev.now _
          · have c2' : ¬ (0 ≤ (n : Int) ∧ (n : Int) ≤ 40) := by omega
            simp only [c2', decide_false, c2, false_and, if_false]
            exact Ev.now _
        · have c1' : ¬ ((c : Int) = 97) := by omega
          simp only [c1', c1, if_false]
          by_cases c4 : c = 107
          · subst c4
            simp only [if_true]
            by_cases c5 : 1 ≤ n ∧ n ≤ 1000000
            · have c5' : 1 ≤ (n : Int) ∧ (n : Int) ≤ 1000000 := by omega
              simp only [c5', c5, decide_true, if_true, and_self]
              refine ev_eq (Ev.now _) ?_
              simp [tA]; omega
            · have c5' : ¬ (1 ≤ (n : Int) ∧ (n : Int) ≤ 1000000) := by omega
              simp only [c5', c5, decide_false, if_false]
              exact Ev.now _
          · have c4' : ¬ ((c : Int) = 107) := by omega
            simp only [c4', c4, if_false]
            by_cases c6 : c = 108
            · subst c6
              simp only [if_true]
              by_cases c7 : n ≤ 12
              · have c7' : 0 ≤ (n : Int) ∧ (n : Int) ≤ 12 := by omega
                simp only [c7', decide_true, if_true, c7]
                have hL := impl_termAt_list s hs d (by omega) n c7 (fun a ha => ih a (by omega) ha) n 0 (a + 1 + k') (by omega) (by omega)
                rw [← List.drop_drop] at hL
                refine ev_eq hL ?_
                cases hq : many (parse d) n (((bl s).drop (a + 1)).drop k') with
                | none => rfl
                | some q => simp [tA]; omega
              · have c7' : ¬ (0 ≤ (n : Int) ∧ (n : Int) ≤ 12) := by omega
                simp only [c7', c7, decide_false, if_false]
                exact Ev.now _
            · have c6' : ¬ ((c : Int) = 108) := by omega
              simp only [c6', c6, if_false]
              by_cases c8 : c = 115
              · subst c8
                simp only [if_true]
                by_cases c5 : 1 ≤ n ∧ n ≤ 1000000
                · have c5' : 1 ≤ (n : Int) ∧ (n : Int) ≤ 1000000 := by omega
                  simp only [c5', c5, decide_true, if_true, and_self, hd1.out]
                  refine Ev.bind (ih (a + 1 + k') (by omega) (by omega)) ?_
                  rw [← List.drop_drop]
                  refine ev_eq (Ev.now _) ?_
                  cases hq : parse d (((bl s).drop (a + 1)).drop k') with
                  | none => rfl
                  | some q => simp [tA]; omega
                · have c5' : ¬ (1 ≤ (n : Int) ∧ (n : Int) ≤ 1000000) := by omega
                  simp only [c5', c5, decide_false, if_false]
                  exact Ev.now _
              · have c8' : ¬ ((c : Int) = 115) := by omega
                simp only [c8', c8, if_false]
                exact Ev.now _

theorem impl_TermOk_ev (s : ByteArray) (hs : s.size ≤ 140737488355327) : Ev (fun k => impl_TermOk.f k s) (termB (bl s)) := by
  have hl := bl_len s
  unfold impl_TermOk.f
  simp only [impl_within_eq, Option.bind_some]
  unfold termB
  by_cases h : 1 ≤ (s.size : Int) ∧ (s.size : Int) ≤ 900
  · simp only [h, decide_true, if_true, and_self]
    have ht := impl_termAt_ev s hs 8 0 (by decide) (by omega)
    refine Ev.bind ht (ev_eq (Ev.now _) ?_)
    rw [List.drop_zero, hl]
    have h1 : 1 ≤ s.size := by omega
    have h2 : s.size ≤ 900 := by omega
    cases hp : parse 8 (bl s) with
    | none => simp [tA]
    | some m => simp [tA, h1, h2]; rw [Bool.eq_iff_iff]; simp; omega
  · simp only [h, decide_false]
    refine ev_eq (Ev.now _) ?_
    rw [decide_eq_false]; rw [hl]; omega

theorem slices_Index_string_string_ev (l : List ByteArray) (s : ByteArray) (hl : l.length ≤ 1073741824) : ∃ r : Int, Ev (fun k => slices_Index_string_string.f k l s) r ∧ (r ≥ 0 ↔ s ∈ l) := by
  have loop : ∀ d i : Nat, i + d = l.length → ∃ r : Int, Ev (fun k => slices_Index_string_string.l0 k l s (l.length : Int) (i : Int)) r ∧ (r ≥ 0 ↔ s ∈ l.drop i) := by
    intro d
    induction d with
    | zero =>
      intro i hi
      refine ⟨-1, Ev.step (f := fun _ => some (-1)) (fun k => ?_) (Ev.now _), ?_⟩
      · simp only [slices_Index_string_string.l0]
        rw [if_neg (by omega)]
      · rw [List.drop_of_length_le (by omega)]; simp
    | succ d ih =>
      intro i hi
      have hlt : i < l.length := by omega
      have e2 : wrap64 ((i : Int) + 1) = ((i + 1 : Nat) : Int) := by rw [w64 (x := (i : Int) + 1) (by omega) (by omega)]; omega
      rw [List.drop_eq_getElem_cons hlt]
      by_cases h : s = l[i]
      · refine ⟨i, Ev.step (f := fun _ => some (i : Int)) (fun k => ?_) (Ev.now _), ?_⟩
        · simp only [slices_Index_string_string.l0]
          rw [if_pos (by omega), if_pos (by omega), if_pos (by omega), rdOf_get _ _ hlt, if_pos ((toList_iff _ _).2 h)]
        · exact ⟨fun _ => by rw [h]; exact List.mem_cons_self, fun _ => by omega⟩
      · obtain ⟨r, hr, hi2⟩ := ih (i + 1) (by omega)
        refine ⟨r, Ev.step (fun k => ?_) hr, ?_⟩
        · simp only [slices_Index_string_string.l0]
          rw [if_pos (by omega), if_pos (by omega), if_pos (by omega), rdOf_get _ _ hlt, if_neg (fun e => h ((toList_iff _ _).1 e)), e2]
        · rw [hi2, List.mem_cons]; exact ⟨Or.inr, fun e => e.resolve_left h⟩
  have := loop l.length 0 (by omega)
  unfold slices_Index_string_string.f
  simpa using this

noncomputable def inB (s : ByteArray) (l : List ByteArray) : Bool := @decide (s ∈ l) (Classical.propDecidable _)
theorem inB_t {s : ByteArray} {l : List ByteArray} (h : s ∈ l) : inB s l = true := @decide_eq_true _ (Classical.propDecidable _) h
theorem inB_f {s : ByteArray} {l : List ByteArray} (h : ¬ s ∈ l) : inB s l = false := @decide_eq_false _ (Classical.propDecidable _) h
theorem inB_nil (s : ByteArray) : inB s [] = false := inB_f (by simp)
theorem inB_eq {s x : ByteArray} {l : List ByteArray} (h : x = s) : inB s (x :: l) = true := inB_t (by simp [h])
theorem inB_ne {s x : ByteArray} {l : List ByteArray} (h : ¬ x = s) : inB s (x :: l) = inB s l := by
  have : ¬ s = x := fun e => h e.symm
  by_cases hs : s ∈ l
  · rw [inB_t hs, inB_t (List.mem_cons_of_mem _ hs)]
  · rw [inB_f hs, inB_f (by simp [hs, this])]
theorem inB_iff {s : ByteArray} {l : List ByteArray} {b : Bool} (h : b = true ↔ s ∈ l) : b = inB s l := by
  by_cases hs : s ∈ l
  · rw [inB_t hs, h.2 hs]
  · rw [inB_f hs]; cases b with
    | true => exact absurd (h.1 rfl) hs
    | false => rfl

theorem slices_Contains_string_string_ev (l : List ByteArray) (s : ByteArray) (hl : l.length ≤ 1073741824) : Ev (fun k => slices_Contains_string_string.f k l s) (inB s l) := by
  obtain ⟨r, hr, h⟩ := slices_Index_string_string_ev l s hl
  unfold slices_Contains_string_string.f
  refine Ev.bind hr (ev_eq (Ev.now _) ?_)
  exact inB_iff (by rw [decide_eq_true_eq]; exact h)

def knG (ts : List ByteArray) (i : Nat) : Prop := termB (bl (rdOf ByteArray.empty ts (i : Int))) = true ∧ ¬ (rdOf ByteArray.empty ts (i : Int) ∈ ts.take i)
def knR (ks : List Int) (i : Nat) : Prop := 1 ≤ rd ks (i : Int) ∧ rd ks (i : Int) ≤ 1000000
def knU (ks : List Int) (i : Nat) : Prop := 0 < i → rd ks ((i - 1 : Nat) : Int) < rd ks (i : Int)
def knownP (ts : List ByteArray) (ks : List Int) : Prop := (ts.length ≤ 60 ∧ ks.length ≤ 40) ∧ (∀ i, i < ts.length → knG ts i) ∧ (∀ i, i < ks.length → knR ks i ∧ knU ks i)
noncomputable def knownB (ts : List ByteArray) (ks : List Int) : Bool := @decide (knownP ts ks) (Classical.propDecidable _)
theorem knownB_t {ts : List ByteArray} {ks : List Int} (h : knownP ts ks) : knownB ts ks = true := @decide_eq_true _ (Classical.propDecidable _) h
theorem knownB_f {ts : List ByteArray} {ks : List Int} (h : ¬ knownP ts ks) : knownB ts ks = false := @decide_eq_false _ (Classical.propDecidable _) h

theorem impl_rises_ev (ks : List Int) (hk : ks.length ≤ 1048576) : ∃ b : Bool, Ev (fun k => impl_rises.f k ks) b ∧ (b = true ↔ ∀ i, i < ks.length → knU ks i) := by
  have lp : ∀ d i : Nat, i + d = ks.length ∨ ks.length ≤ i → 1 ≤ i → i ≤ 1048577 → (∀ j, j < i → j < ks.length → knU ks j) → ∃ b : Bool, Ev (fun k => impl_rises.l0 k ks (i : Int)) b ∧ (b = true ↔ ∀ i, i < ks.length → knU ks i) := by
    intro d
    induction d with
    | zero =>
      intro i hi h1 hb hj
      refine ⟨true, Ev.step (f := fun _ => some true) (fun k => ?_) (Ev.now _), ⟨fun _ j h => hj j (by omega) h, fun _ => rfl⟩⟩
      simp only [impl_rises.l0]
      rw [if_neg (by omega)]
    | succ d ih =>
      intro i hi h1 hb hj
      by_cases hlt : i < ks.length
      · have e2 : wrap64 ((i : Int) + 1) = ((i + 1 : Nat) : Int) := by rw [w64 (x := (i : Int) + 1) (by omega) (by omega)]; omega
        have e1 : wrap64 ((i : Int) - 1) = ((i - 1 : Nat) : Int) := by rw [w64 (x := (i : Int) - 1) (by omega) (by omega)]; omega
        by_cases hU : rd ks ((i - 1 : Nat) : Int) < rd ks (i : Int)
        · obtain ⟨b, hb1, hb2⟩ := ih (i + 1) (by omega) (by omega) (by omega) (fun j h h' => by
            by_cases hji : j = i
            · subst hji; exact fun _ => hU
            · exact hj j (by omega) h')
          refine ⟨b, Ev.step (fun k => ?_) hb1, hb2⟩
          simp only [impl_rises.l0]
          rw [if_pos (by omega), e1, if_pos (by omega), if_pos (by omega), if_pos (by omega), if_neg (by omega), e2]
        · refine ⟨false, Ev.step (f := fun _ => some false) (fun k => ?_) (Ev.now _), ⟨fun h => (Bool.false_ne_true h).elim, fun h => absurd (h i hlt (by omega)) hU⟩⟩
          simp only [impl_rises.l0]
          rw [if_pos (by omega), e1, if_pos (by omega), if_pos (by omega), if_pos (by omega), if_pos (by omega)]
      · refine ⟨true, Ev.step (f := fun _ => some true) (fun k => ?_) (Ev.now _), ⟨fun _ j h => hj j (by omega) h, fun _ => rfl⟩⟩
        simp only [impl_rises.l0]
        rw [if_neg (by omega)]
  unfold impl_rises.f
  exact lp (ks.length - 1) 1 (by omega) (by omega) (by omega) (fun j h _ h0 => by omega)

theorem impl_KnownOk_ev (ts : List ByteArray) (ks : List Int) (ht : ts.length ≤ 1048576) (hz : ∀ p ∈ ts, p.size ≤ 1048576) (hk : ks.length ≤ 1048576) : Ev (fun k => impl_KnownOk.f k ts ks) (knownB ts ks) := by
  have lp1 : (∀ i, i < ts.length → knG ts i) → ∀ d i : Nat, i + d = ks.length → (∀ j, j < i → knR ks j) → Ev (fun k => impl_KnownOk.l1 k ks (ks.length : Int) (i : Int) ts ks) (knownB ts ks) := by
    intro hG d
    induction d with
    | zero =>
      intro i hi hj
      obtain ⟨b, hb1, hb2⟩ := impl_rises_ev ks hk
      by_cases h1 : (ts.length : Int) ≤ 60
      · by_cases h2 : (ks.length : Int) ≤ 40
        · refine Ev.step (f := fun k => (impl_rises.f k ks).bind fun t => some t) (fun k => ?_) (Ev.bind hb1 (ev_eq (Ev.now _) ?_))
          · simp only [impl_KnownOk.l1]
            rw [if_neg (by omega), if_pos h1, if_pos h2]
          · cases hb : b with
            | true => exact (knownB_t ⟨⟨by omega, by omega⟩, hG, fun j h => ⟨hj j (by omega), hb2.1 hb j h⟩⟩).symm
            | false =>
              refine (knownB_f (fun hp => ?_)).symm
              rw [hb2.2 (fun j h => (hp.2.2 j h).2)] at hb
              cases hb
        · refine Ev.step (f := fun _ => some false) (fun k => ?_) (ev_eq (Ev.now _) (knownB_f (fun hp => h2 (by have := hp.1; omega))).symm)
          simp only [impl_KnownOk.l1]
          rw [if_neg (by omega), if_pos h1, if_neg h2]
      · refine Ev.step (f := fun _ => some false) (fun k => ?_) (ev_eq (Ev.now _) (knownB_f (fun hp => h1 (by have := hp.1; omega))).symm)
        simp only [impl_KnownOk.l1]
        rw [if_neg (by omega), if_neg h1]
    | succ d ih =>
      intro i hi hj
      have e2 : wrap64 ((i : Int) + 1) = ((i + 1 : Nat) : Int) := by rw [w64 (x := (i : Int) + 1) (by omega) (by omega)]; omega
      by_cases hR : knR ks i
      · refine Ev.step (fun k => ?_) (ih (i + 1) (by omega) (fun j h => by
          by_cases hji : j = i
          · subst hji; exact hR
          · exact hj j (by omega)))
        simp only [impl_KnownOk.l1]
        rw [if_pos (by omega), if_pos (by omega), if_pos (by omega), impl_isKey_eq, Option.bind_some, decide_eq_true (show 1 ≤ rd ks (i : Int) ∧ rd ks (i : Int) ≤ 1000000 from hR), if_pos rfl, e2]
      · refine Ev.step (f := fun _ => some false) (fun k => ?_) (ev_eq (Ev.now _) (knownB_f (fun hp => hR (hp.2.2 i (by omega)).1)).symm)
        simp only [impl_KnownOk.l1]
        rw [if_pos (by omega), if_pos (by omega), if_pos (by omega), impl_isKey_eq, Option.bind_some, decide_eq_false (show ¬ (1 ≤ rd ks (i : Int) ∧ rd ks (i : Int) ≤ 1000000) from hR), if_neg (by decide)]
  have lp0 : ∀ d i : Nat, i + d = ts.length → (∀ j, j < i → knG ts j) → Ev (fun k => impl_KnownOk.l0 k ts (ts.length : Int) (i : Int) ts ks) (knownB ts ks) := by
    intro d
    induction d with
    | zero =>
      intro i hi hj
      refine Ev.step (fun k => ?_) (lp1 (fun j h => hj j (by omega)) ks.length 0 (by omega) (fun j h => by omega))
      simp only [impl_KnownOk.l0]
      rw [if_neg (by omega)]
      rfl
    | succ d ih =>
      intro i hi hj
      have hlt : i < ts.length := by omega
      have hget : rdOf ByteArray.empty ts (i : Int) = ts[i] := rdOf_get _ _ hlt
      have hsz : (rdOf ByteArray.empty ts (i : Int)).size ≤ 1048576 := by rw [hget]; exact hz _ (List.getElem_mem hlt)
      have e2 : wrap64 ((i : Int) + 1) = ((i + 1 : Nat) : Int) := by rw [w64 (x := (i : Int) + 1) (by omega) (by omega)]; omega
      refine Ev.step (f := fun k => (impl_TermOk.f k (rdOf ByteArray.empty ts (i : Int))).bind fun t => (if t = true then (slices_Contains_string_string.f k (ts.take i) (rdOf ByteArray.empty ts (i : Int))).bind fun t => (if t = true then some false else impl_KnownOk.l0 k ts (ts.length : Int) ((i + 1 : Nat) : Int) ts ks) else some false)) (fun k => ?_) ?_
      · simp only [impl_KnownOk.l0]
        have c1 : (i : Int) < (ts.length : Int) := by omega
        have c2 : 0 ≤ (i : Int) := by omega
        have c3 : (i : Int) ≤ (ts.length : Int) := by omega
        simp only [c1, c2, c3, if_true, e2, Int.toNat_natCast]
      · refine Ev.bind (impl_TermOk_ev _ (by omega)) ?_
        by_cases h1 : termB (bl (rdOf ByteArray.empty ts (i : Int))) = true
        · simp only [h1, if_true]
          refine Ev.bind (slices_Contains_string_string_ev _ _ (by rw [List.length_take]; omega)) ?_
          by_cases h2 : rdOf ByteArray.empty ts (i : Int) ∈ ts.take i
          · simp only [inB_t h2, if_true]
            exact ev_eq (Ev.now _) (knownB_f (fun hp => (hp.2.1 i hlt).2 h2)).symm
          · simp only [inB_f h2, Bool.false_eq_true, if_false]
            refine ih (i + 1) (by omega) (fun j h => ?_)
            by_cases hji : j = i
            · subst hji; exact ⟨h1, h2⟩
            · exact hj j (by omega)
        · simp only [h1, if_false]
          exact ev_eq (Ev.now _) (knownB_f (fun hp => h1 (hp.2.1 i hlt).1)).symm
  unfold impl_KnownOk.f
  exact lp0 ts.length 0 (by omega) (fun j h => by omega)

theorem impl_copyTexts_eq (l : List ByteArray) (hl : l.length ≤ 1073741824) : impl_copyTexts.f l = some l := by
  unfold impl_copyTexts.f
  rw [if_pos (by simp only [List.length_nil]; omega), List.nil_append]

theorem impl_copyInts_eq (l : List Int) (hl : l.length ≤ 1073741824) : impl_copyInts.f l = some l := by
  unfold impl_copyInts.f
  rw [if_pos (by simp only [List.length_nil]; omega), List.nil_append]

theorem impl_copyKnown_eq (l : List ByteArray) (m : List Int) (hl : l.length ≤ 1073741824) (hm : m.length ≤ 1073741824) : impl_copyKnown.f l m = some (l, m) := by
  unfold impl_copyKnown.f
  simp only [impl_copyTexts_eq l hl, impl_copyInts_eq m hm, Option.bind_some]

noncomputable def inI (x : Int) (l : List Int) : Bool := decide (x ∈ l)
theorem inI_t {x : Int} {l : List Int} (h : x ∈ l) : inI x l = true := decide_eq_true h
theorem inI_f {x : Int} {l : List Int} (h : ¬ x ∈ l) : inI x l = false := decide_eq_false h
theorem inI_out {x : Int} {l : List Int} (h : inI x l = true) : x ∈ l := of_decide_eq_true h
theorem inI_out_f {x : Int} {l : List Int} (h : ¬ inI x l = true) : ¬ x ∈ l := fun hm => h (inI_t hm)

theorem slices_Index_int_int_ev (l : List Int) (x : Int) (hl : l.length ≤ 1073741824) : ∃ r : Int, Ev (fun k => slices_Index_int_int.f k l x) r ∧ (r ≥ 0 ↔ x ∈ l) := by
  have loop : ∀ d i : Nat, i + d = l.length → ∃ r : Int, Ev (fun k => slices_Index_int_int.l0 k l x (l.length : Int) (i : Int)) r ∧ (r ≥ 0 ↔ x ∈ l.drop i) := by
    intro d
    induction d with
    | zero =>
      intro i hi
      refine ⟨-1, Ev.step (f := fun _ => some (-1)) (fun k => ?_) (Ev.now _), ?_⟩
      · simp only [slices_Index_int_int.l0]
        rw [if_neg (by omega)]
      · rw [List.drop_of_length_le (by omega)]; simp
    | succ d ih =>
      intro i hi
      have hlt : i < l.length := by omega
      have e2 : wrap64 ((i : Int) + 1) = ((i + 1 : Nat) : Int) := by rw [w64 (x := (i : Int) + 1) (by omega) (by omega)]; omega
      rw [List.drop_eq_getElem_cons hlt]
      by_cases h : x = l[i]
      · refine ⟨i, Ev.step (f := fun _ => some (i : Int)) (fun k => ?_) (Ev.now _), ?_⟩
        · simp only [slices_Index_int_int.l0]
          rw [if_pos (by omega), if_pos (by omega), if_pos (by omega), rd_get _ _ hlt, if_pos h]
        · exact ⟨fun _ => by rw [h]; exact List.mem_cons_self, fun _ => by omega⟩
      · obtain ⟨r, hr, hi2⟩ := ih (i + 1) (by omega)
        refine ⟨r, Ev.step (fun k => ?_) hr, ?_⟩
        · simp only [slices_Index_int_int.l0]
          rw [if_pos (by omega), if_pos (by omega), if_pos (by omega), rd_get _ _ hlt, if_neg h, e2]
        · rw [hi2, List.mem_cons]; exact ⟨Or.inr, fun e => e.resolve_left h⟩
  have := loop l.length 0 (by omega)
  unfold slices_Index_int_int.f
  simpa using this

theorem slices_Contains_int_int_ev (l : List Int) (x : Int) (hl : l.length ≤ 1073741824) : Ev (fun k => slices_Contains_int_int.f k l x) (inI x l) := by
  obtain ⟨r, hr, h⟩ := slices_Index_int_int_ev l x hl
  unfold slices_Contains_int_int.f
  refine Ev.bind hr (ev_eq (Ev.now _) ?_)
  by_cases hx : x ∈ l
  · rw [inI_t hx, decide_eq_true (h.2 hx)]
  · rw [inI_f hx, decide_eq_false (fun e => hx (h.1 e))]

/-- Numbers that rise with one more. -/
def putL : List Int → Int → List Int
  | [], x => [x]
  | y :: t, x => if x < y then x :: y :: t else y :: putL t x
theorem putL_len (l : List Int) (x : Int) : (putL l x).length = l.length + 1 := by
  induction l with
  | nil => rfl
  | cons y t ih => unfold putL; split <;> simp [ih]
theorem putL_perm (l : List Int) (x : Int) : (putL l x).Perm (x :: l) := by
  induction l with
  | nil => exact List.Perm.refl _
  | cons y t ih =>
    unfold putL
    split
    · exact List.Perm.refl _
    · exact (List.Perm.cons y ih).trans (List.Perm.swap x y t)
theorem putL_mem (l : List Int) (x y : Int) : y ∈ putL l x ↔ y = x ∨ y ∈ l := by
  rw [(putL_perm l x).mem_iff, List.mem_cons]
theorem putL_rise {l : List Int} (x : Int) (h : l.Pairwise (· < ·)) (hx : ¬ x ∈ l) : (putL l x).Pairwise (· < ·) := by
  induction l with
  | nil => exact List.pairwise_singleton _ _
  | cons y t ih =>
    rw [List.pairwise_cons] at h
    have hy : x ≠ y := fun e => hx (by rw [e]; exact List.mem_cons_self)
    unfold putL
    split
    · rename_i hlt
      rw [List.pairwise_cons, List.pairwise_cons]
      refine ⟨fun z hz => ?_, h.1, h.2⟩
      rcases List.mem_cons.1 hz with e | hz
      · rw [e]; exact hlt
      · have := h.1 z hz; omega
    · rename_i hlt
      rw [List.pairwise_cons]
      refine ⟨fun z hz => ?_, ih h.2 (fun hm => hx (List.mem_cons_of_mem _ hm))⟩
      rcases (putL_mem t x z).1 hz with e | hz
      · rw [e]; omega
      · exact h.1 z hz
/-- Sorted lists of the same numbers are the same. -/
theorem sort_put {l : List Int} (x : Int) (h : l.Pairwise (· < ·)) (hx : ¬ x ∈ l) : (l ++ [x]).mergeSort (fun a b => decide (a ≤ b)) = putL l x := by
  have p1 : ((l ++ [x]).mergeSort (fun a b => decide (a ≤ b))).Perm (putL l x) :=
    (List.mergeSort_perm _ _).trans ((List.perm_append_comm (l₁ := l) (l₂ := [x])).trans (putL_perm l x).symm)
  have s1 := List.pairwise_mergeSort (le := fun a b : Int => decide (a ≤ b)) (fun a b c h1 h2 => by simp at *; omega) (fun a b => by simp; omega) (l ++ [x])
  have s2 : (putL l x).Pairwise (fun a b => decide (a ≤ b) = true) := (putL_rise x h hx).imp (fun hab => by simp; omega)
  exact List.Perm.eq_of_pairwise (le := fun a b : Int => decide (a ≤ b) = true) (fun a b _ _ h1 h2 => by simp at h1 h2; omega) s1 s2 p1
theorem rise_of {ks : List Int} (h : ∀ i, i < ks.length → 0 < i → rd ks ((i - 1 : Nat) : Int) < rd ks (i : Int)) : ks.Pairwise (· < ·) := by
  rw [List.pairwise_iff_getElem]
  have step : ∀ d i : Nat, (hd : i + 1 + d < ks.length) → ks[i]'(by omega) < ks[i + 1 + d]'hd := by
    intro d
    induction d with
    | zero =>
      intro i hd
      have := h (i + 1) (by omega) (by omega)
      rw [show ((i + 1 - 1 : Nat) : Int) = (i : Int) from rfl, rd_get ks i (by omega), rd_get ks (i + 1) (by omega)] at this
      exact this
    | succ d ih =>
      intro i hd
      have h1 := ih i (by omega)
      have := h (i + 1 + d + 1) (by omega) (by omega)
      rw [show ((i + 1 + d + 1 - 1 : Nat) : Int) = ((i + 1 + d : Nat) : Int) from rfl, rd_get ks (i + 1 + d) (by omega), rd_get ks (i + 1 + d + 1) (by omega)] at this
      exact Int.lt_trans h1 this
  intro i j hi hj hij
  obtain ⟨d, rfl⟩ : ∃ d, j = i + 1 + d := ⟨j - i - 1, by omega⟩
  exact step d i hj

noncomputable def lkeyS (ts : List ByteArray) (ks : List Int) (x : Int) : List ByteArray × List Int :=
  if knownB ts ks = true then (if decide (1 ≤ x ∧ x ≤ 1000000) = true then (if inI x ks = true then (ts, ks) else (if (ks.length : Int) < 40 then (ts, putL ks x) else (ts, ks))) else (ts, ks)) else ([], [])
theorem lkeyS_len (ts : List ByteArray) (ks : List Int) (x : Int) (ht : ts.length ≤ 1048576) (hk : ks.length ≤ 1048576) : (lkeyS ts ks x).1.length ≤ 1048577 ∧ (lkeyS ts ks x).2.length ≤ 1048577 := by
  unfold lkeyS
  have := putL_len ks x
  repeat' split
  all_goals first | (simp only []; omega) | (simp only [List.length_nil]; omega)
theorem knownB_out {ts : List ByteArray} {ks : List Int} (h : knownB ts ks = true) : knownP ts ks := by
  by_cases hp : knownP ts ks
  · exact hp
  · rw [knownB_f hp] at h; cases h

theorem impl_LearnKey_ev (ts : List ByteArray) (ks : List Int) (x : Int) (ht : ts.length ≤ 1048576) (hz : ∀ p ∈ ts, p.size ≤ 1048576) (hk : ks.length ≤ 1048576) : Ev (fun k => impl_LearnKey.f k ts ks x) (lkeyS ts ks x) := by
  unfold impl_LearnKey.f lkeyS
  refine Ev.bind (impl_KnownOk_ev ts ks ht hz hk) ?_
  by_cases h : knownB ts ks = true
  · simp only [h, if_true, impl_copyKnown_eq ts ks (by omega) (by omega), Option.bind_some, impl_isKey_eq]
    by_cases h1 : 1 ≤ x ∧ x ≤ 1000000
    · rw [decide_eq_true h1]
      simp only [if_true]
      refine Ev.bind (slices_Contains_int_int_ev ks x (by omega)) ?_
      by_cases h2 : inI x ks = true
      · simp only [h2, if_true]; exact Ev.now _
      · simp only [h2, if_false, Bool.false_eq_true]
        by_cases h3 : (ks.length : Int) < 40
        · have hr : ks.Pairwise (· < ·) := rise_of (fun i hi h0 => ((knownB_out h).2.2 i hi).2 h0)
          have e : slices_Sort.f (ks ++ [x]) = some (putL ks x) := by
            unfold slices_Sort.f
            rw [if_pos (by rw [List.length_append, List.length_singleton]; omega), sort_put x hr (inI_out_f h2)]
          have h4 : ks.length < 17592186044416 := by omega
          simp only [h3, h4, if_true, e, Option.bind_some]
          exact Ev.now _
        · simp only [h3, if_false]; exact Ev.now _
    · rw [decide_eq_false h1]
      simp only [if_false, Bool.false_eq_true]; exact Ev.now _
  · simp only [h, if_false, Bool.false_eq_true]; exact Ev.now _

theorem laws_szStringS_ev (l : List ByteArray) (a : Int) (ha0 : 0 ≤ a) (ha : a ≤ 1048576) (hl : l.length ≤ maxLen) (hz : ∀ p ∈ l, p.size ≤ maxLen) : ∃ r, Ev (fun k => laws_szStringS.f k l a) r ∧ r ≤ a ∧ (¬ r < 0 → (l.length : Int) ≤ a ∧ ∀ p ∈ l, p.size ≤ 1048576) := by
  have hl' : l.length ≤ 9223372036854775807 := hl
  by_cases h : a - (l.length : Int) < 0
  · have e : wrap64 (a - (l.length : Int)) = a - (l.length : Int) := w64 (by omega) (by omega)
    refine ⟨-1, ?_, by omega, fun hh => absurd (by decide) hh⟩
    unfold laws_szStringS.f
    simp only [e, h, if_true]
    exact Ev.now _
  · have loop : ∀ d i : Nat, i + d = l.length → ∀ b : Int, 0 ≤ b → b ≤ a → ∃ r, Ev (fun k => laws_szStringS.l0 k l b (i : Int)) r ∧ r ≤ b ∧ (¬ r < 0 → ∀ p ∈ l.drop i, p.size ≤ 1048576) := by
      intro d
      induction d with
      | zero =>
        intro i hi b hb0 hb
        refine ⟨b, Ev.step (f := fun _ => some b) (fun k => ?_) (Ev.now _), by omega, fun _ p hp => ?_⟩
        · simp only [laws_szStringS.l0]
          rw [if_neg (by omega)]
        · rw [List.drop_of_length_le (by omega)] at hp
          cases hp
      | succ d ih =>
        intro i hi b hb0 hb
        have hlt : i < l.length := by omega
        have hrd : rdOf ByteArray.empty l (i : Int) = l[i] := rdOf_get _ _ hlt
        have hsz : l[i].size ≤ 9223372036854775807 := hz _ (List.getElem_mem hlt)
        have e : wrap64 (b - (l[i].size : Int)) = b - (l[i].size : Int) := w64 (by omega) (by omega)
        have e2 : wrap64 ((i : Int) + 1) = ((i + 1 : Nat) : Int) := by rw [w64 (x := (i : Int) + 1) (by omega) (by omega)]; omega
        by_cases hn : b - (l[i].size : Int) < 0
        · refine ⟨-1, Ev.step (f := fun _ => some (-1)) (fun k => ?_) (Ev.now _), by omega, fun hh => absurd (by decide) hh⟩
          simp only [laws_szStringS.l0]
          rw [if_pos (by omega), if_pos (by omega), hrd, e, if_pos hn]
        · obtain ⟨r, hr, h1, h2⟩ := ih (i + 1) (by omega) (b - (l[i].size : Int)) (by omega) (by omega)
          refine ⟨r, Ev.step (fun k => ?_) hr, by omega, fun hh p hp => ?_⟩
          · simp only [laws_szStringS.l0]
            rw [if_pos (by omega), if_pos (by omega), hrd, e, if_neg hn, e2]
          · rw [List.drop_eq_getElem_cons hlt] at hp
            rcases List.mem_cons.mp hp with rfl | hp
            · omega
            · exact h2 hh p hp
    have e : wrap64 (a - (l.length : Int)) = a - (l.length : Int) := w64 (by omega) (by omega)
    obtain ⟨r, hr, h1, h2⟩ := loop l.length 0 (by omega) (a - (l.length : Int)) (by omega) (by omega)
    refine ⟨r, ?_, by omega, fun hh => ⟨by omega, fun p hp => h2 hh p (by simpa using hp)⟩⟩
    unfold laws_szStringS.f
    simp only [e, h, if_false]
    exact hr

theorem laws_szIntS_eq (l : List Int) (a : Int) (ha0 : 0 ≤ a) (ha : a ≤ 1048576) (hl : l.length ≤ maxLen) : ∃ r, laws_szIntS.f l a = some r ∧ r ≤ a ∧ (¬ r < 0 → (l.length : Int) ≤ a) := by
  have hl' : l.length ≤ 9223372036854775807 := hl
  have e : wrap64 (a - (l.length : Int)) = a - (l.length : Int) := w64 (by omega) (by omega)
  unfold laws_szIntS.f
  by_cases h : a - (l.length : Int) < 0
  · exact ⟨-1, by rw [e, if_pos h], by omega, fun hh => absurd (by decide) hh⟩
  · exact ⟨a - (l.length : Int), by rw [e, if_neg h], by omega, fun _ => by omega⟩

theorem laws_szKnown_ev (l : List ByteArray) (m : List Int) (hl : l.length ≤ maxLen) (hz : ∀ p ∈ l, p.size ≤ maxLen) (hm : m.length ≤ maxLen) : ∃ r, Ev (fun k => laws_szKnown.f k l m 1048576) r ∧ (¬ r < 0 → l.length ≤ 1048576 ∧ (∀ p ∈ l, p.size ≤ 1048576) ∧ m.length ≤ 1048576) := by
  obtain ⟨r, hr, h1, h2⟩ := laws_szStringS_ev l 1048576 (by omega) (by omega) hl hz
  unfold laws_szKnown.f
  by_cases h : r < 0
  · refine ⟨-1, Ev.bind hr ?_, fun hh => absurd (by decide) hh⟩
    simp only [h, if_true]
    exact Ev.now _
  · obtain ⟨g1, g2⟩ := h2 h
    obtain ⟨q, e, q1, q2⟩ := laws_szIntS_eq m r (by omega) (by omega) hm
    by_cases hq : q < 0
    · refine ⟨-1, Ev.bind hr ?_, fun hh => absurd (by decide) hh⟩
      simp only [h, if_false, e, Option.bind_some, hq, if_true]
      exact Ev.now _
    · refine ⟨q, Ev.bind hr ?_, fun _ => ⟨by omega, g2, by have := q2 hq; omega⟩⟩
      simp only [h, if_false, e, Option.bind_some, hq]
      exact Ev.now _

theorem laws_toStringS_ev (l : List ByteArray) (hl : l.length ≤ 1073741824) : Ev (fun k => laws_toStringS.f k l) l := by
  have loop : ∀ (d i : Nat) (rest : List ByteArray), i + d = l.length → rest.length = d → Ev (fun k => laws_toStringS.l0 k l (l.take i ++ rest) (i : Int)) l := by
    intro d
    induction d with
    | zero =>
      intro i rest hi hr
      have : rest = [] := List.eq_nil_of_length_eq_zero hr
      subst this
      refine Ev.step (f := fun _ => some l) (fun k => ?_) (Ev.now _)
      simp only [laws_toStringS.l0]
      rw [if_neg (by omega), List.take_of_length_le (by omega), List.append_nil]
    | succ d ih =>
      intro i rest hi hr
      match rest, hr with
      | x :: rest, hr =>
        have hlt : i < l.length := by omega
        have hti : (l.take i).length = i := by rw [List.length_take]; omega
        have hr' := ih (i + 1) rest (by omega) (by simpa using hr)
        rw [List.take_succ_eq_append_getElem hlt, List.append_assoc] at hr'
        refine Ev.step (fun k => ?_) hr'
        simp only [laws_toStringS.l0]
        rw [if_pos (by omega), if_pos (by omega), if_pos (by rw [List.length_append, hti, List.length_cons]; omega), w64 (by omega) (by omega), rdOf_get l i hlt, Int.toNat_natCast]
        rw [List.set_append_right _ _ (by omega), hti, Nat.sub_self, List.set_cons_zero]
        rfl
  unfold laws_toStringS.f
  have a1 : 0 ≤ (l.length : Int) := by omega
  have a2 : l.length ≤ 17592186044416 := by omega
  simp only [a1, a2, if_true, Int.toNat_natCast]
  exact loop l.length 0 (List.replicate l.length (⟨#[]⟩ : ByteArray)) (by omega) (by simp)

theorem laws_toIntS_ev (l : List Int) (hl : l.length ≤ 1073741824) : Ev (fun k => laws_toIntS.f k l) l := by
  have loop : ∀ (d i : Nat) (rest : List Int), i + d = l.length → rest.length = d → Ev (fun k => laws_toIntS.l0 k l (l.take i ++ rest) (i : Int)) l := by
    intro d
    induction d with
    | zero =>
      intro i rest hi hr
      have : rest = [] := List.eq_nil_of_length_eq_zero hr
      subst this
      refine Ev.step (f := fun _ => some l) (fun k => ?_) (Ev.now _)
      simp only [laws_toIntS.l0]
      rw [if_neg (by omega), List.take_of_length_le (by omega), List.append_nil]
    | succ d ih =>
      intro i rest hi hr
      match rest, hr with
      | x :: rest, hr =>
        have hlt : i < l.length := by omega
        have hti : (l.take i).length = i := by rw [List.length_take]; omega
        have hr' := ih (i + 1) rest (by omega) (by simpa using hr)
        rw [List.take_succ_eq_append_getElem hlt, List.append_assoc] at hr'
        refine Ev.step (fun k => ?_) hr'
        simp only [laws_toIntS.l0]
        rw [if_pos (by omega), if_pos (by omega), if_pos (by rw [List.length_append, hti, List.length_cons]; omega), w64 (by omega) (by omega), rd_get l i hlt, Int.toNat_natCast]
        rw [List.set_append_right _ _ (by omega), hti, Nat.sub_self, List.set_cons_zero]
        rfl
  unfold laws_toIntS.f
  have a1 : 0 ≤ (l.length : Int) := by omega
  have a2 : l.length ≤ 35184372088832 := by omega
  simp only [a1, a2, if_true, Int.toNat_natCast]
  exact loop l.length 0 (List.replicate l.length 0) (by omega) (by simp)

theorem laws_toKnown_ev (l : List ByteArray) (m : List Int) (hl : l.length ≤ 1048576) (hm : m.length ≤ 1048576) : Ev (fun k => laws_toKnown.f k l m) (l, m) := by
  unfold laws_toKnown.f
  exact Ev.bind (laws_toStringS_ev l (by omega)) (Ev.bind (laws_toIntS_ev m (by omega)) (Ev.now _))

theorem laws_eqIntS_self (l : List Int) (hl : l.length ≤ 1073741824) : Ev (fun k => laws_eqIntS.f k l l) true := by
  have loop : ∀ d i : Nat, i + d = l.length → Ev (fun k => laws_eqIntS.l0 k l l (i : Int)) true := by
    intro d
    induction d with
    | zero =>
      intro i hi
      refine Ev.step (f := fun _ => some true) (fun k => ?_) (Ev.now _)
      simp only [laws_eqIntS.l0]
      rw [if_neg (by omega)]
    | succ d ih =>
      intro i hi
      refine Ev.step (fun k => ?_) (ih (i + 1) (by omega))
      simp only [laws_eqIntS.l0]
      rw [if_pos (by omega), if_pos (by omega), if_pos (by omega), if_pos trivial, w64 (by omega) (by omega)]
      rfl
  unfold laws_eqIntS.f
  simp only [if_true]
  exact loop l.length 0 (by omega)

theorem laws_eqStringS_self (l : List ByteArray) (hl : l.length ≤ 1073741824) : Ev (fun k => laws_eqStringS.f k l l) true := by
  have loop : ∀ d i : Nat, i + d = l.length → Ev (fun k => laws_eqStringS.l0 k l l (i : Int)) true := by
    intro d
    induction d with
    | zero =>
      intro i hi
      refine Ev.step (f := fun _ => some true) (fun k => ?_) (Ev.now _)
      simp only [laws_eqStringS.l0]
      rw [if_neg (by omega)]
    | succ d ih =>
      intro i hi
      refine Ev.step (fun k => ?_) (ih (i + 1) (by omega))
      simp only [laws_eqStringS.l0]
      rw [if_pos (by omega), if_pos (by omega), if_pos (by omega), if_pos trivial, w64 (by omega) (by omega)]
      rfl
  unfold laws_eqStringS.f
  simp only [if_true]
  exact loop l.length 0 (by omega)

theorem laws_eqKnown_self (l : List ByteArray) (m : List Int) (hl : l.length ≤ 1048576) (hm : m.length ≤ 1048576) : Ev (fun k => laws_eqKnown.f k l m l m) true := by
  unfold laws_eqKnown.f
  refine Ev.bind (laws_eqStringS_self l (by omega)) ?_
  simp only [if_true]
  refine Ev.bind (laws_eqIntS_self m (by omega)) ?_
  simp only [if_true]
  exact Ev.now _
theorem laws_eqKnown_wide (l : List ByteArray) (m : List Int) (hl : l.length ≤ 1073741824) (hm : m.length ≤ 1073741824) : Ev (fun k => laws_eqKnown.f k l m l m) true := by
  unfold laws_eqKnown.f
  refine Ev.bind (laws_eqStringS_self l (by omega)) ?_
  simp only [if_true]
  refine Ev.bind (laws_eqIntS_self m (by omega)) ?_
  simp only [if_true]
  exact Ev.now _

theorem spec_l1In_eq (a lo hi : Int) : spec_l1In.f a lo hi = some (decide (lo ≤ a ∧ a ≤ hi)) := by
  unfold spec_l1In.f
  by_cases h : a ≥ lo
  · rw [if_pos h]; congr 1; simp [show lo ≤ a from h]
  · rw [if_neg h]; congr 1; simp [show ¬ lo ≤ a from h]

theorem spec_Var_loop (j : Nat) : ∀ (n : Nat) (acc : List Int), n < 128 ^ (j + 1) → n ≤ MAXV → acc.length + j < 1000 →
    Ev (fun k => spec_Var.l0 k (n : Int) acc) (strOfNums (acc ++ (var n).map fun (m : Nat) => (m : Int))) := by
  have e128 : ((128 : Nat) : Int) = 128 := rfl
  induction j with
  | zero =>
    intro n acc hn hm ha
    have hn' : n < 128 := by simpa using hn
    refine Ev.step (f := fun _ => some (strOfNums (acc ++ (var n).map fun (m : Nat) => (m : Int)))) (fun k => ?_) (Ev.now _)
    simp only [spec_Var.l0]
    rw [if_neg (by omega), if_pos (by omega), var_small hn', show (n : Int) % 256 = (n : Int) by omega]; rfl
  | succ j ih =>
    intro n acc hn hm ha
    unfold MAXV at hm
    by_cases h : n < 128
    · refine Ev.step (f := fun _ => some (strOfNums (acc ++ (var n).map fun (m : Nat) => (m : Int)))) (fun k => ?_) (Ev.now _)
      simp only [spec_Var.l0]
      rw [if_neg (by omega), if_pos (by omega), var_small h, show (n : Int) % 256 = (n : Int) by omega]; rfl
    · have hd : n / 128 < 128 ^ (j + 1) := Nat.div_lt_of_lt_mul (by rw [Nat.pow_succ] at hn; omega)
      have hr := ih (n / 128) (acc ++ [((n % 128 + 128 : Nat) : Int)]) hd (by unfold MAXV; omega) (by simp; omega)
      refine Ev.step (f := fun k => spec_Var.l0 k ((n / 128 : Nat) : Int) (acc ++ [((n % 128 + 128 : Nat) : Int)])) (fun k => ?_) (ev_eq hr ?_)
      · simp only [spec_Var.l0]
        rw [if_pos (by omega), if_pos (by omega), ← e128, tdivN, tmodN, w64 (by omega) (by omega), w64 (by omega) (by omega)]
        have e : (((128 : Nat) : Int) + ((n % 128 : Nat) : Int)) % 256 = ((n % 128 + 128 : Nat) : Int) := by omega
        rw [e]
      · rw [var_big h, List.map_cons, List.append_assoc]; rfl
theorem spec_Var_ev (n : Int) : Ev (fun k => spec_Var.f k n) (varS n) := by
  unfold spec_Var.f
  simp only [spec_l1In_eq, Option.bind_some]
  by_cases h : 0 ≤ n ∧ n ≤ 562949953421311
  · simp only [h, decide_true, if_true]
    obtain ⟨m, rfl⟩ := Int.eq_ofNat_of_zero_le h.1
    have hm : m ≤ MAXV := by unfold MAXV; omega
    refine ev_eq (spec_Var_loop 6 m [] (by unfold MAXV at hm; omega) hm (by simp)) ?_
    rw [varS_in hm]; rfl
  · simp only [h, decide_false]
    rw [varS_out h]
    exact Ev.now _

theorem spec_ReadVar_inner (s : ByteArray) (hs : s.size ≤ 140737488355327) (kk : Nat) (h1 : 1 ≤ kk) (h7 : kk ≤ 7) (hkl : kk ≤ (bl s).length) {q : Int × Int} (hq : Ev (fun k => (spec_Var.f k ((val ((bl s).take kk) : Nat) : Int)).bind fun t111 => (if 0 ≤ (kk : Int) then (if (kk : Int) ≤ (s.size : Int) then (if t111.toList = (s.extract 0 (kk : Int).toNat).toList then (some (((val ((bl s).take kk) : Nat) : Int), (kk : Int))) else (spec_ReadVar.l0 k s (wrap64 ((kk : Int) + 1)))) else (none)) else (none))) q) (d : Nat) : ∀ (x : Int), d ≤ kk → x = (d : Int) - 1 →
    Ev (fun k => spec_ReadVar.l1 k s (kk : Int) ((val (((bl s).take kk).drop d) : Nat) : Int) x) q := by
  have hl := bl_len s
  induction d with
  | zero =>
    intro x hd hx
    subst hx
    rw [List.drop_zero]
    refine Ev.step (fun k => ?_) hq
    simp only [spec_ReadVar.l1]
    rw [if_neg (by omega)]
  | succ d ih =>
    intro x hd hx
    have hd' : d < (bl s).length := by omega
    have hb : bt s (d : Int) = (((bl s)[d] : Nat) : Int) := bt_get s d hd'
    have hb256 : (bl s)[d] < 256 := bl_lt s _ (List.getElem_mem hd')
    have hx' : x = (d : Int) := by omega
    subst hx'
    have hlen : ((bl s).take kk).length = kk := by rw [List.length_take]; omega
    have hdrop : ((bl s).take kk).drop d = (bl s)[d] :: ((bl s).take kk).drop (d + 1) := by
      rw [List.drop_eq_getElem_cons (by omega), List.getElem_take]
    have hval : val (((bl s).take kk).drop d) = (bl s)[d] % 128 + 128 * val (((bl s).take kk).drop (d + 1)) := by rw [hdrop]; rfl
    have hlt := val_lt (((bl s).take kk).drop (d + 1))
    rw [List.length_drop, hlen] at hlt
    have hp := pow_le7 (kk - (d + 1)) (by omega)
    have e128 : ((128 : Nat) : Int) = 128 := rfl
    refine Ev.step (fun k => ?_) (ih ((d : Int) - 1) (by omega) rfl)
    simp only [spec_ReadVar.l1]
    rw [if_pos (by omega), if_pos (by omega), if_pos (by omega), hb, w64 (x := (((bl s)[d] : Nat) : Int)) (by omega) (by omega), ← e128, tmodN, w64 (x := _ * ((128 : Nat) : Int)) (by omega) (by omega), w64 (x := _ + _) (by omega) (by omega), w64 (x := _ - 1) (by omega) (by omega)]
    rw [hval]
    congr 1
    omega
theorem spec_ReadVar_loop (s : ByteArray) (hs : s.size ≤ 140737488355327) (d : Nat) : ∀ (kk : Nat), kk + d = 8 → 1 ≤ kk → (∀ n j, j < kk → ¬ R (bl s) n j) →
    Ev (fun k => spec_ReadVar.l0 k s (kk : Int)) (rvI (bl s)) := by
  have hl := bl_len s
  induction d with
  | zero =>
    intro kk hk h1 hno
    have e : rvI (bl s) = (0, 0) := rvI_none (fun n k hR => hno n k (by have := R_seven hR; omega) hR)
    rw [e]
    refine Ev.step (f := fun k => spec_ReadVar.j1 k s (kk : Int) false) (fun k => ?_) (Ev.step (f := fun _ => some (0, 0)) (fun k => ?_) (Ev.now _))
    · simp only [spec_ReadVar.l0]; rw [if_neg (by omega)]
    · simp [spec_ReadVar.j1]
  | succ d ih =>
    intro kk hk h1 hno
    by_cases h : kk ≤ (bl s).length
    · have hmax : val ((bl s).take kk) ≤ MAXV := by
        have := val_lt ((bl s).take kk)
        rw [List.length_take, Nat.min_eq_left h] at this
        have hp : 128 ^ kk ≤ 128 ^ 7 := Nat.pow_le_pow_right (by decide) (by omega)
        have : (128 : Nat) ^ 7 = 562949953421312 := by decide
        unfold MAXV; omega
      have hin : Ev (fun k => (spec_Var.f k ((val ((bl s).take kk) : Nat) : Int)).bind fun t111 => (if 0 ≤ (kk : Int) then (if (kk : Int) ≤ (s.size : Int) then (if t111.toList = (s.extract 0 (kk : Int).toNat).toList then (some (((val ((bl s).take kk) : Nat) : Int), (kk : Int))) else (spec_ReadVar.l0 k s (wrap64 ((kk : Int) + 1)))) else (none)) else (none))) (rvI (bl s)) := by
        refine Ev.bind (spec_Var_ev _) ?_
        simp only [show (0 : Int) ≤ (kk : Int) by omega, show (kk : Int) ≤ (s.size : Int) by omega, if_true, toList_iff, Int.toNat_natCast]
        by_cases hR : R (bl s) (val ((bl s).take kk)) kk
        · have := (R_iff s _ kk hmax (by omega)).2 hR
          simp only [this, if_true]
          rw [rvI_some hR]
          exact Ev.now _
        · have hne : ¬ varS ((val ((bl s).take kk) : Nat) : Int) = s.extract 0 kk := fun e => hR ((R_iff s _ kk hmax (by omega)).1 e)
          simp only [hne, if_false]
          have hw : Aside0 (wrap64 ((kk : Int) + 1) = ((kk + 1 : Nat) : Int)) := ⟨by rw [w64 (by omega) (by omega)]; omega⟩
          rw [hw.out]
          refine ih (kk + 1) (by omega) (by omega) (fun n j hj hRj => ?_)
          by_cases hjk : j < kk
          · exact hno n j hjk hRj
          · have : j = kk := by omega
            subst this
            rw [← R_val hRj] at hRj
            exact hR hRj
      have hout := spec_ReadVar_inner s hs kk h1 (by omega) h hin kk ((kk : Int) - 1) (Nat.le_refl _) rfl
      rw [List.drop_of_length_le (by rw [List.length_take]; omega)] at hout
      refine Ev.step (f := fun k => spec_ReadVar.j1 k s (kk : Int) true) (fun k => ?_) (Ev.step (fun k => ?_) hout)
      · simp only [spec_ReadVar.l0]; rw [if_pos (by omega), decide_eq_true (by omega)]
      · simp only [spec_ReadVar.j1, if_true]; rw [w64 (by omega) (by omega)]; rfl
    · have e : rvI (bl s) = (0, 0) := rvI_none (fun n k hR => hno n k (by have := R_le hR; omega) hR)
      rw [e]
      refine Ev.step (f := fun k => spec_ReadVar.j1 k s (kk : Int) false) (fun k => ?_) (Ev.step (f := fun _ => some (0, 0)) (fun k => ?_) (Ev.now _))
      · simp only [spec_ReadVar.l0]
        by_cases h7 : (kk : Int) ≤ 7
        · rw [if_pos h7, decide_eq_false (by omega)]
        · rw [if_neg h7]
      · simp [spec_ReadVar.j1]
theorem spec_ReadVar_ev (s : ByteArray) (hs : s.size ≤ 140737488355327) : Ev (fun k => spec_ReadVar.f k s) (rvI (bl s)) := by
  unfold spec_ReadVar.f
  exact spec_ReadVar_loop s hs 7 1 (by omega) (by omega) (fun n j hj hR => by have := R_pos hR; omega)

theorem spec_l2Term_list (s : ByteArray) (hs : s.size ≤ 140737488355327) (d : Nat) (hd : d ≤ 100) (n : Nat) (hn : n ≤ 12) (a0 : Nat) (ha0 : a0 ≤ s.size)
    (hf : ∀ a, a ≤ s.size → ∃ dp : Int, Ev (fun k => spec_l2Term.f k s (a : Int) (d : Int)) (pI (parse d ((bl s).drop a)), dp) ∧ 0 ≤ dp ∧ dp ≤ d) (r : Nat) : ∀ (i a : Nat) (deep : Int), i + r = n → a ≤ s.size → a0 ≤ a → 0 ≤ deep → deep ≤ d →
    ∃ dp : Int, Ev (fun k => spec_l2Term.l0 k s (a0 : Int) ((d + 1 : Nat) : Int) (n : Int) (a : Int) deep (i : Int)) (eI a0 a (many (parse d) r ((bl s).drop a)), dp) ∧ 0 ≤ dp ∧ dp ≤ d + 1 := by
  have hw : Aside0 (wrap64 (((d + 1 : Nat) : Int) - 1) = (d : Int)) := ⟨by rw [w64 (by omega) (by omega)]; omega⟩
  induction r with
  | zero =>
    intro i a deep hi ha haa h0 h1
    refine ⟨1 + deep, Ev.step (f := fun _ => some (((a - a0 : Nat) : Int), 1 + deep)) (fun k => ?_) (ev_eq (Ev.now _) ?_), by omega, by omega⟩
    · simp only [spec_l2Term.l0]
      rw [if_neg (by omega), w64 (x := _ - _) (by omega) (by omega), w64 (x := 1 + _) (by omega) (by omega)]
      congr 2; omega
    · rfl
  | succ r ih =>
    intro i a deep hi ha haa h0 h1
    have hi1 : Aside0 (wrap64 ((i : Int) + 1) = ((i + 1 : Nat) : Int)) := ⟨by rw [w64 (by omega) (by omega)]; omega⟩
    obtain ⟨dp, hdp, hd0, hd1⟩ := hf a ha
    have hstep : ∀ k, spec_l2Term.l0 (k + 1) s (a0 : Int) ((d + 1 : Nat) : Int) (n : Int) (a : Int) deep (i : Int) = (spec_l2Term.f k s (a : Int) (d : Int)).bind fun bt118 => (if bt118.1 = 0 then (some (0, 0)) else (if bt118.2 > deep then (spec_l2Term.l0 k s (a0 : Int) ((d + 1 : Nat) : Int) (n : Int) (wrap64 ((a : Int) + bt118.1)) bt118.2 ((i + 1 : Nat) : Int)) else (spec_l2Term.l0 k s (a0 : Int) ((d + 1 : Nat) : Int) (n : Int) (wrap64 ((a : Int) + bt118.1)) deep ((i + 1 : Nat) : Int)))) := by
      intro k
      simp only [spec_l2Term.l0]; rw [if_pos (by omega), hw.out, hi1.out]
    rw [many_succ]
    cases hp : parse d ((bl s).drop a) with
    | none =>
      rw [hp] at hdp
      refine ⟨0, Ev.step hstep (Ev.bind hdp ?_), by omega, by omega⟩
      simp only [pI, if_true]
      exact Ev.now _
    | some m =>
      rw [hp] at hdp
      have hle := parse_le d _ _ hp
      rw [List.length_drop, bl_len] at hle
      have hm : ¬ ((m : Int) = 0) := by omega
      have hw2 : Aside0 (wrap64 ((a : Int) + (m : Int)) = ((a + m : Nat) : Int)) := ⟨by rw [w64 (by omega) (by omega)]; omega⟩
      have tail : ∀ deep', 0 ≤ deep' → deep' ≤ (d : Int) → ∃ dp : Int, Ev (fun k => spec_l2Term.l0 k s (a0 : Int) ((d + 1 : Nat) : Int) (n : Int) ((a + m : Nat) : Int) deep' ((i + 1 : Nat) : Int)) (eI a0 a (addO m (many (parse d) r (((bl s).drop a).drop m))), dp) ∧ 0 ≤ dp ∧ dp ≤ d + 1 := by
        intro deep' h0' h1'
        obtain ⟨dp', he, h⟩ := ih (i + 1) (a + m) deep' (by omega) (by omega) (by omega) h0' h1'
        rw [← List.drop_drop, eI_add] at he
        exact ⟨dp', he, h⟩
      by_cases hc : dp > deep
      · obtain ⟨dp', he, h⟩ := tail dp hd0 hd1
        refine ⟨dp', Ev.step hstep (Ev.bind hdp ?_), h⟩
        simp only [pI, hm, if_false, hc, if_true, hw2.out]
        exact he
      · obtain ⟨dp', he, h⟩ := tail deep h0 h1
        refine ⟨dp', Ev.step hstep (Ev.bind hdp ?_), h⟩
        simp only [pI, hm, if_false, hc, hw2.out]
        exact he
theorem spec_l2Term_ev (s : ByteArray) (hs : s.size ≤ 140737488355327) (d : Nat) : ∀ (a : Nat), d ≤ 100 → a ≤ s.size → ∃ dp : Int, Ev (fun k => spec_l2Term.f k s (a : Int) (d : Int)) (pI (parse d ((bl s).drop a)), dp) ∧ 0 ≤ dp ∧ dp ≤ d := by
  have hl := bl_len s
  have dead : ∀ (a d : Int), Ev (fun k => spec_l2Term.j0 k s a d true) (0, 0) := by
    intro a d
    refine Ev.step (f := fun _ => some (0, 0)) (fun k => ?_) (Ev.now _)
    simp [spec_l2Term.j0]
  induction d with
  | zero =>
    intro a hd ha
    by_cases h : (a : Int) ≥ (s.size : Int)
    · refine ⟨0, Ev.step (fun k => ?_) (ev_eq (dead (a : Int) ((0 : Nat) : Int)) (by simp [parse, pI])), by omega, by omega⟩
      simp only [spec_l2Term.f]; rw [if_pos h]
    · refine ⟨0, Ev.step (fun k => ?_) (ev_eq (dead (a : Int) ((0 : Nat) : Int)) (by simp [parse, pI])), by omega, by omega⟩
      simp only [spec_l2Term.f]; rw [if_neg h, decide_eq_true (by decide)]
  | succ d ih =>
    intro a hd ha
    by_cases h : (a : Int) ≥ (s.size : Int)
    · refine ⟨0, Ev.step (fun k => ?_) (ev_eq (dead (a : Int) ((d + 1 : Nat) : Int)) ?_), by omega, by omega⟩
      · simp only [spec_l2Term.f]; rw [if_pos h]
      · rw [List.drop_of_length_le (by omega), parse_nil]; rfl
    · have hlt : a < (bl s).length := by omega
      have hs1 : 0 ≤ (a : Int) := by omega
      have hs2 : (a : Int) < (s.size : Int) := by omega
      have ha1 : Aside0 (wrap64 ((a : Int) + 1) = ((a + 1 : Nat) : Int)) := ⟨by rw [w64 (by omega) (by omega)]; omega⟩
      have ha0 : 0 ≤ ((a + 1 : Nat) : Int) := by omega
      have ha2 : ((a + 1 : Nat) : Int) ≤ (s.size : Int) := by omega
      have hd1 : Aside0 (wrap64 (((d + 1 : Nat) : Int) - 1) = (d : Int)) := ⟨by rw [w64 (by omega) (by omega)]; omega⟩
      have hsz : (s.extract (a + 1) s.size).size ≤ 140737488355327 := by rw [ByteArray.size_extract]; omega
      have hv := spec_ReadVar_ev (s.extract (a + 1) s.size) hsz
      rw [bl_from] at hv
      have hcons : (bl s).drop a = (bl s)[a] :: (bl s).drop (a + 1) := List.drop_eq_getElem_cons hlt
      have hstep : ∀ k, spec_l2Term.f (k + 1) s (a : Int) ((d + 1 : Nat) : Int) = spec_l2Term.j0 k s (a : Int) ((d + 1 : Nat) : Int) false := by
        intro k; simp only [spec_l2Term.f]; rw [if_neg h, decide_eq_false (by omega)]
      suffices hh : ∃ dp : Int, Ev (fun k => spec_l2Term.j0 k s (a : Int) ((d + 1 : Nat) : Int) false) (pI (parse (d + 1) ((bl s).drop a)), dp) ∧ 0 ≤ dp ∧ dp ≤ ((d + 1 : Nat) : Int) by
        obtain ⟨dp, he, h⟩ := hh
        exact ⟨dp, Ev.step hstep he, h⟩
      have hbind : ∀ (q : Int × Int) (F : Nat → Int × Int → Option (Int × Int)), (∀ k, spec_l2Term.j0 (k + 1) s (a : Int) ((d + 1 : Nat) : Int) false = (spec_ReadVar.f k (s.extract (a + 1) s.size)).bind (F k)) → Ev (fun k => F k (rvI ((bl s).drop (a + 1)))) q → Ev (fun k => spec_l2Term.j0 k s (a : Int) ((d + 1 : Nat) : Int) false) q :=
        fun q F h1 h2 => Ev.step h1 (Ev.bind hv h2)
      rw [hcons]
      have hbt := bt_get s a hlt
      generalize hcc : (bl s)[a] = c at hbt
      rw [parse]
      cases hr : rv ((bl s).drop (a + 1)) with
      | none =>
        refine ⟨0, hbind _ _ (fun k => by simp only [spec_l2Term.j0]; rw [if_neg (by decide), ha1.out, if_pos ha0, if_pos ha2]; rfl) ?_, by omega, by omega⟩
        unfold rvI; rw [hr]
        simp only [if_true]
        exact Ev.now _
      | some p =>
        obtain ⟨n, k'⟩ := p
        have hR := rv_R hr
        have hk := R_le hR
        have hk0 := R_pos hR
        have hn9 := hR.1
        unfold MAXV at hn9
        simp only at hk hn9 hk0
        rw [List.length_drop, hl] at hk
        have hk0' : ¬ ((k' : Int) = 0) := by omega
        simp only []
        have hwk : Aside0 (wrap64 (((a + 1 : Nat) : Int) + (k' : Int)) = ((a + 1 + k' : Nat) : Int)) := ⟨by rw [w64 (by omega) (by omega)]; omega⟩
        by_cases c1 : c = 97
        · subst c1
          rw [if_pos rfl, List.length_drop, hl]
          by_cases c2 : n ≤ 40
          · by_cases c3 : n ≤ s.size - (a + 1) - k'
            · rw [if_pos ⟨c2, c3⟩]
              refine ⟨1, hbind _ _ (fun k => by simp only [spec_l2Term.j0]; rw [if_neg (by decide), ha1.out, if_pos ha0, if_pos ha2]; rfl) ?_, by omega, by omega⟩
              unfold rvI; rw [hr]
              simp only [hk0', hs1, hs2, hbt, if_true, if_false, hwk.out]
              have c2' : ¬ ((n : Int) > 40) := by omega
              have c3' : ¬ ((n : Int) > wrap64 ((s.size : Int) - ((a + 1 + k' : Nat) : Int))) := by rw [w64 (by omega) (by omega)]; omega
              have e : Aside0 (wrap64 (wrap64 (1 + (k' : Int)) + (n : Int)) = ((1 + k' + n : Nat) : Int)) := ⟨by rw [w64 (x := 1 + (k' : Int)) (by omega) (by omega), w64 (by omega) (by omega)]; omega⟩
              simp only [c2', c3', if_false, e.out, show (((97 : Nat) : Int) = 97) from rfl, if_true]
              exact Ev.now _
            · rw [if_neg (fun e => c3 e.2)]
              refine ⟨0, hbind _ _ (fun k => by simp only [spec_l2Term.j0]; rw [if_neg (by decide), ha1.out, if_pos ha0, if_pos ha2]; rfl) ?_, by omega, by omega⟩
              unfold rvI; rw [hr]
              simp only [hk0', hs1, hs2, hbt, if_true, if_false, hwk.out]
              have c2' : ¬ ((n : Int) > 40) := by omega
              have c3' : ((n : Int) > wrap64 ((s.size : Int) - ((a + 1 + k' : Nat) : Int))) := by rw [w64 (by omega) (by omega)]; omega
              simp only [c2', c3', if_false, show (((97 : Nat) : Int) = 97) from rfl, if_true]
              exact Ev.now _
          · rw [if_neg (fun e => c2 e.1)]
            refine ⟨0, hbind _ _ (fun k => by simp only [spec_l2Term.j0]; rw [if_neg (by decide), ha1.out, if_pos ha0, if_pos ha2]; rfl) ?_, by omega, by omega⟩
            unfold rvI; rw [hr]
            simp only [hk0', hs1, hs2, hbt, if_true, if_false]
            have c2' : ((n : Int) > 40) := by omega
            simp only [c2', show (((97 : Nat) : Int) = 97) from rfl, if_true]
            exact Ev.now _
        · have c1' : ¬ ((c : Int) = 97) := by omega
          rw [if_neg c1]
          by_cases c4 : c = 107
          · subst c4
            rw [if_pos rfl]
            by_cases c5 : 1 ≤ n ∧ n ≤ 1000000
            · have c5' : 1 ≤ (n : Int) ∧ (n : Int) ≤ 1000000 := by omega
              refine ⟨1, hbind _ _ (fun k => by simp only [spec_l2Term.j0]; rw [if_neg (by decide), ha1.out, if_pos ha0, if_pos ha2]; rfl) ?_, by omega, by omega⟩
              unfold rvI; rw [hr, if_pos c5]
              have e : Aside0 (wrap64 (1 + (k' : Int)) = ((1 + k' : Nat) : Int)) := ⟨by rw [w64 (by omega) (by omega)]; omega⟩
              simp only [hk0', hs1, hs2, hbt, if_true, if_false, c1', show (((107 : Nat) : Int) = 107) from rfl, spec_l1In_eq, Option.bind_some, c5', decide_true, e.out, and_self]
              exact Ev.now _
            · have c5' : ¬ (1 ≤ (n : Int) ∧ (n : Int) ≤ 1000000) := by omega
              refine ⟨0, hbind _ _ (fun k => by simp only [spec_l2Term.j0]; rw [if_neg (by decide), ha1.out, if_pos ha0, if_pos ha2]; rfl) ?_, by omega, by omega⟩
              unfold rvI; rw [hr, if_neg c5]
              simp only [hk0', hs1, hs2, hbt, if_true, if_false, c1', show (((107 : Nat) : Int) = 107) from rfl, spec_l1In_eq, Option.bind_some, c5', decide_false]
              exact Ev.now _
          · have c4' : ¬ ((c : Int) = 107) := by omega
            rw [if_neg c4]
            by_cases c6 : c = 108
            · subst c6
              rw [if_pos rfl]
              by_cases c7 : n ≤ 12
              · have c7' : ¬ ((n : Int) > 12) := by omega
                obtain ⟨dp, hL, h0, h1⟩ := spec_l2Term_list s hs d (by omega) n c7 a ha (fun a ha => ih a (by omega) ha) n 0 (a + 1 + k') 0 (by omega) (by omega) (by omega) (by omega) (by omega)
                rw [← List.drop_drop] at hL
                refine ⟨dp, hbind _ _ (fun k => by simp only [spec_l2Term.j0]; rw [if_neg (by decide), ha1.out, if_pos ha0, if_pos ha2]; rfl) ?_, h0, by omega⟩
                unfold rvI; rw [hr, if_pos c7]
                simp only [hk0', hs1, hs2, hbt, if_true, if_false, c1', c4', c7', show (((108 : Nat) : Int) = 108) from rfl, show ¬ (((108 : Nat) : Int) = 115) by omega, hwk.out]
                refine ev_eq hL ?_
                cases hq : many (parse d) n (((bl s).drop (a + 1)).drop k') with
                | none => rfl
                | some q =>
                  simp only [eI, pI]
                  rw [show a + 1 + k' + q - a = 1 + k' + q by omega]
              · have c7' : ((n : Int) > 12) := by omega
                refine ⟨0, hbind _ _ (fun k => by simp only [spec_l2Term.j0]; rw [if_neg (by decide), ha1.out, if_pos ha0, if_pos ha2]; rfl) ?_, by omega, by omega⟩
                unfold rvI; rw [hr, if_neg c7]
                simp only [hk0', hs1, hs2, hbt, if_true, if_false, c1', c4', c7', show (((108 : Nat) : Int) = 108) from rfl, show ¬ (((108 : Nat) : Int) = 115) by omega]
                exact Ev.now _
            · have c6' : ¬ ((c : Int) = 108) := by omega
              rw [if_neg c6]
              by_cases c8 : c = 115
              · subst c8
                rw [if_pos rfl]
                obtain ⟨dp, hL, h0, h1⟩ := ih (a + 1 + k') (by omega) (by omega)
                rw [← List.drop_drop] at hL
                have hk1 : ∀ F : Nat → Int × Int → Option (Int × Int), True := fun _ => trivial
                cases hq : parse d (((bl s).drop (a + 1)).drop k') with
                | none =>
                  rw [hq] at hL
                  refine ⟨0, hbind _ _ (fun k => by simp only [spec_l2Term.j0]; rw [if_neg (by decide), ha1.out, if_pos ha0, if_pos ha2]; rfl) ?_, by omega, by omega⟩
                  unfold rvI; rw [hr]
                  simp only [hk0', hs1, hs2, hbt, if_true, if_false, c1', c4', show (((115 : Nat) : Int) = 115) from rfl, hwk.out, hd1.out]
                  refine Ev.bind hL ?_
                  simp only [pI, if_true]
                  refine ev_eq (Ev.now _) ?_
                  simp [pI]
                | some q =>
                  rw [hq] at hL
                  have hle := parse_le d _ _ hq
                  rw [List.length_drop, List.length_drop, hl] at hle
                  have hq0 : ¬ ((q : Int) = 0) := by omega
                  by_cases c5 : 1 ≤ n ∧ n ≤ 1000000
                  · have c5' : 1 ≤ (n : Int) ∧ (n : Int) ≤ 1000000 := by omega
                    refine ⟨1 + dp, hbind _ _ (fun k => by simp only [spec_l2Term.j0]; rw [if_neg (by decide), ha1.out, if_pos ha0, if_pos ha2]; rfl) ?_, by omega, by omega⟩
                    unfold rvI; rw [hr, if_pos c5]
                    simp only [hk0', hs1, hs2, hbt, if_true, if_false, c1', c4', show (((115 : Nat) : Int) = 115) from rfl, hwk.out, hd1.out]
                    refine Ev.bind hL ?_
                    have e : Aside0 (wrap64 (wrap64 (1 + (k' : Int)) + (q : Int)) = ((1 + k' + q : Nat) : Int)) := ⟨by rw [w64 (x := 1 + (k' : Int)) (by omega) (by omega), w64 (by omega) (by omega)]; omega⟩
                    have e2 : wrap64 (1 + dp) = 1 + dp := w64 (by omega) (by omega)
                    simp only [pI, hq0, if_false, spec_l1In_eq, Option.bind_some, c5', decide_true, and_self, if_true, e.out, e2]
                    exact Ev.now _
                  · have c5' : ¬ (1 ≤ (n : Int) ∧ (n : Int) ≤ 1000000) := by omega
                    refine ⟨0, hbind _ _ (fun k => by simp only [spec_l2Term.j0]; rw [if_neg (by decide), ha1.out, if_pos ha0, if_pos ha2]; rfl) ?_, by omega, by omega⟩
                    unfold rvI; rw [hr, if_neg c5]
                    simp only [hk0', hs1, hs2, hbt, if_true, if_false, c1', c4', show (((115 : Nat) : Int) = 115) from rfl, hwk.out, hd1.out]
                    refine Ev.bind hL ?_
                    simp only [pI, hq0, if_false, spec_l1In_eq, Option.bind_some, c5', decide_false]
                    exact Ev.now _
              · have c8' : ¬ ((c : Int) = 115) := by omega
                rw [if_neg c8]
                refine ⟨0, hbind _ _ (fun k => by simp only [spec_l2Term.j0]; rw [if_neg (by decide), ha1.out, if_pos ha0, if_pos ha2]; rfl) ?_, by omega, by omega⟩
                unfold rvI; rw [hr]
                simp only [hk0', hs1, hs2, hbt, if_true, if_false, c1', c4', c6', c8']
                exact Ev.now _

theorem spec_TermOk_ev (s : ByteArray) (hs : s.size ≤ 140737488355327) : Ev (fun k => spec_TermOk.f k s) (termB (bl s)) := by
  have hl := bl_len s
  unfold spec_TermOk.f
  obtain ⟨dp, ht, _, _⟩ := spec_l2Term_ev s hs 8 0 (by decide) (by omega)
  refine Ev.bind ht ?_
  rw [List.drop_zero]
  unfold termB
  rw [hl]
  cases hp : parse 8 (bl s) with
  | none =>
    refine ev_eq (Ev.now _) ?_
    simp
  | some m =>
    have hle := parse_le 8 _ _ hp
    rw [hl] at hle
    have h1 : ((m : Int) > 0) := by omega
    simp only [pI, h1, if_true]
    by_cases hm : m = s.size
    · subst hm
      simp only [if_true]
      refine ev_eq (Ev.now _) ?_
      exact decide_eq_decide.mpr ⟨fun h => ⟨by omega, by omega, trivial⟩, fun h => by omega⟩
    · have hm' : ¬ ((m : Int) = (s.size : Int)) := by omega
      simp only [hm', if_false]
      refine ev_eq (Ev.now _) ?_
      rw [decide_eq_false]
      intro h
      exact hm (Option.some.inj h.2.2)

theorem spec_l3In_ev (l : List ByteArray) (s : ByteArray) (hl : l.length ≤ 1073741824) : Ev (fun k => spec_l3In.f k l s) (inB s l) := by
  have loop : ∀ d i : Nat, i + d = l.length → Ev (fun k => spec_l3In.l0 k l s (i : Int)) (inB s (l.drop i)) := by
    intro d
    induction d with
    | zero =>
      intro i hi
      refine Ev.step (f := fun _ => some false) (fun k => ?_) (ev_eq (Ev.now _) ?_)
      · simp only [spec_l3In.l0]
        rw [if_neg (by omega)]
      · rw [List.drop_of_length_le (by omega), inB_nil]
    | succ d ih =>
      intro i hi
      have hlt : i < l.length := by omega
      have e2 : wrap64 ((i : Int) + 1) = ((i + 1 : Nat) : Int) := by rw [w64 (x := (i : Int) + 1) (by omega) (by omega)]; omega
      rw [List.drop_eq_getElem_cons hlt]
      by_cases h : l[i] = s
      · refine Ev.step (f := fun _ => some true) (fun k => ?_) (ev_eq (Ev.now _) (inB_eq h).symm)
        simp only [spec_l3In.l0]
        rw [if_pos (by omega), if_pos (by omega), rdOf_get _ _ hlt, if_pos ((toList_iff _ _).2 h)]
      · refine Ev.step (fun k => ?_) (ev_eq (ih (i + 1) (by omega)) ?_)
        · simp only [spec_l3In.l0]
          rw [if_pos (by omega), if_pos (by omega), rdOf_get _ _ hlt, if_neg (fun e => h ((toList_iff _ _).1 e)), e2]
        · exact (inB_ne h).symm
  have := loop l.length 0 (by omega)
  unfold spec_l3In.f
  simpa using this

theorem spec_KnownOk_ev (ts : List ByteArray) (ks : List Int) (ht : ts.length ≤ 1048576) (hz : ∀ p ∈ ts, p.size ≤ 1048576) (hk : ks.length ≤ 1048576) : Ev (fun k => spec_KnownOk.f k ts ks) (knownB ts ks) := by
  have lp1 : (ts.length ≤ 60 ∧ ks.length ≤ 40) → (∀ i, i < ts.length → knG ts i) → ∀ d i : Nat, i + d = ks.length → (∀ j, j < i → knR ks j ∧ knU ks j) → Ev (fun k => spec_KnownOk.l1 k (i : Int) ts ks) (knownB ts ks) := by
    intro hl hG d
    induction d with
    | zero =>
      intro i hi hj
      refine Ev.step (f := fun _ => some true) (fun k => ?_) (ev_eq (Ev.now _) (knownB_t ⟨hl, hG, fun j h => hj j (by omega)⟩).symm)
      simp only [spec_KnownOk.l1]
      rw [if_neg (by omega)]
    | succ d ih =>
      intro i hi hj
      have e2 : wrap64 ((i : Int) + 1) = ((i + 1 : Nat) : Int) := by rw [w64 (x := (i : Int) + 1) (by omega) (by omega)]; omega
      by_cases hR : knR ks i
      · by_cases hU : knU ks i
        · refine Ev.step (fun k => ?_) (ih (i + 1) (by omega) (fun j h => by
            by_cases hji : j = i
            · subst hji; exact ⟨hR, hU⟩
            · exact hj j (by omega)))
          simp only [spec_KnownOk.l1]
          rw [if_pos (by omega), if_pos (by omega), spec_l1In_eq, Option.bind_some, decide_eq_true (show 1 ≤ rd ks (i : Int) ∧ rd ks (i : Int) ≤ 1000000 from hR), if_pos rfl]
          by_cases h0 : (i : Int) > 0
          · have e1 : wrap64 ((i : Int) - 1) = ((i - 1 : Nat) : Int) := by rw [w64 (x := (i : Int) - 1) (by omega) (by omega)]; omega
            have hu := hU (by omega)
            rw [if_pos h0, e1, if_pos (by omega), if_pos (by omega), if_neg (by omega), e2]
          · rw [if_neg h0, e2]
        · refine Ev.step (f := fun _ => some false) (fun k => ?_) (ev_eq (Ev.now _) (knownB_f (fun hp => hU (hp.2.2 i (by omega)).2)).symm)
          have h0 : (i : Int) > 0 := by
            by_cases h : 0 < i
            · omega
            · exact absurd (fun h' => absurd h' h) hU
          have hu : ¬ (rd ks ((i - 1 : Nat) : Int) < rd ks (i : Int)) := fun h => hU (fun _ => h)
          have e1 : wrap64 ((i : Int) - 1) = ((i - 1 : Nat) : Int) := by rw [w64 (x := (i : Int) - 1) (by omega) (by omega)]; omega
          simp only [spec_KnownOk.l1]
          rw [if_pos (by omega), if_pos (by omega), spec_l1In_eq, Option.bind_some, decide_eq_true (show 1 ≤ rd ks (i : Int) ∧ rd ks (i : Int) ≤ 1000000 from hR), if_pos rfl, if_pos h0, e1, if_pos (by omega), if_pos (by omega), if_pos (by omega)]
      · refine Ev.step (f := fun _ => some false) (fun k => ?_) (ev_eq (Ev.now _) (knownB_f (fun hp => hR (hp.2.2 i (by omega)).1)).symm)
        simp only [spec_KnownOk.l1]
        rw [if_pos (by omega), if_pos (by omega), spec_l1In_eq, Option.bind_some, decide_eq_false (show ¬ (1 ≤ rd ks (i : Int) ∧ rd ks (i : Int) ≤ 1000000) from hR), if_neg (by decide)]
  have lp0 : (ts.length ≤ 60 ∧ ks.length ≤ 40) → ∀ d i : Nat, i + d = ts.length → (∀ j, j < i → knG ts j) → Ev (fun k => spec_KnownOk.l0 k (i : Int) ts ks) (knownB ts ks) := by
    intro hl d
    induction d with
    | zero =>
      intro i hi hj
      refine Ev.step (fun k => ?_) (lp1 hl (fun j h => hj j (by omega)) ks.length 0 (by omega) (fun j h => by omega))
      simp only [spec_KnownOk.l0]
      rw [if_neg (by omega)]
      rfl
    | succ d ih =>
      intro i hi hj
      have hlt : i < ts.length := by omega
      have hget : rdOf ByteArray.empty ts (i : Int) = ts[i] := rdOf_get _ _ hlt
      have hsz : (rdOf ByteArray.empty ts (i : Int)).size ≤ 1048576 := by rw [hget]; exact hz _ (List.getElem_mem hlt)
      have e2 : wrap64 ((i : Int) + 1) = ((i + 1 : Nat) : Int) := by rw [w64 (x := (i : Int) + 1) (by omega) (by omega)]; omega
      refine Ev.step (f := fun k => (spec_TermOk.f k (rdOf ByteArray.empty ts (i : Int))).bind fun t => (if t = true then (spec_l3In.f k (ts.take i) (rdOf ByteArray.empty ts (i : Int))).bind fun t => (if t = true then some false else spec_KnownOk.l0 k ((i + 1 : Nat) : Int) ts ks) else some false)) (fun k => ?_) ?_
      · simp only [spec_KnownOk.l0]
        have c1 : (i : Int) < (ts.length : Int) := by omega
        have c2 : 0 ≤ (i : Int) := by omega
        have c3 : (i : Int) ≤ (ts.length : Int) := by omega
        simp only [c1, c2, c3, if_true, e2, Int.toNat_natCast]
      · refine Ev.bind (spec_TermOk_ev _ (by omega)) ?_
        by_cases h1 : termB (bl (rdOf ByteArray.empty ts (i : Int))) = true
        · simp only [h1, if_true]
          refine Ev.bind (spec_l3In_ev _ _ (by rw [List.length_take]; omega)) ?_
          by_cases h2 : rdOf ByteArray.empty ts (i : Int) ∈ ts.take i
          · simp only [inB_t h2, if_true]
            exact ev_eq (Ev.now _) (knownB_f (fun hp => (hp.2.1 i hlt).2 h2)).symm
          · simp only [inB_f h2, Bool.false_eq_true, if_false]
            refine ih (i + 1) (by omega) (fun j h => ?_)
            by_cases hji : j = i
            · subst hji; exact ⟨h1, h2⟩
            · exact hj j (by omega)
        · simp only [h1, if_false]
          exact ev_eq (Ev.now _) (knownB_f (fun hp => h1 (hp.2.1 i hlt).1)).symm
  have dead : ¬ (ts.length ≤ 60 ∧ ks.length ≤ 40) → Ev (fun k => spec_KnownOk.j0 k true ts ks) (knownB ts ks) := by
    intro h
    refine Ev.step (f := fun _ => some false) (fun k => ?_) (ev_eq (Ev.now _) (knownB_f (fun hp => h hp.1)).symm)
    simp [spec_KnownOk.j0]
  unfold spec_KnownOk.f
  by_cases h1 : (ts.length : Int) > 60
  · simp only [h1, if_true]
    exact dead (by omega)
  · by_cases h2 : (ks.length : Int) > 40
    · simp only [h1, h2, if_false, decide_true]
      exact dead (by omega)
    · simp only [h1, h2, if_false, decide_false]
      refine Ev.step (fun k => ?_) (lp0 (by omega) ts.length 0 (by omega) (fun j h => by omega))
      simp only [spec_KnownOk.j0]
      rw [if_neg (by decide)]
      rfl

theorem spec_l3Copy_eq (l : List ByteArray) (m : List Int) (hl : l.length ≤ 1073741824) (hm : m.length ≤ 1073741824) : spec_l3Copy.f l m = some (l, m) := by
  unfold spec_l3Copy.f
  have a : ([] : List ByteArray).length + l.length < 8796093022208 := by simp only [List.length_nil]; omega
  have b : ([] : List Int).length + m.length < 17592186044416 := by simp only [List.length_nil]; omega
  simp only [Option.bind_some, a, b, if_true, List.nil_append]

theorem spec_l3Has_ev (l : List Int) (x : Int) (hl : l.length ≤ 1073741824) : Ev (fun k => spec_l3Has.f k l x) (inI x l) := by
  have loop : ∀ d i : Nat, i + d = l.length → Ev (fun k => spec_l3Has.l0 k l x (i : Int)) (inI x (l.drop i)) := by
    intro d
    induction d with
    | zero =>
      intro i hi
      refine Ev.step (f := fun _ => some false) (fun k => ?_) (ev_eq (Ev.now _) ?_)
      · simp only [spec_l3Has.l0]
        rw [if_neg (by omega)]
      · rw [List.drop_of_length_le (by omega), inI_f (by simp)]
    | succ d ih =>
      intro i hi
      have hlt : i < l.length := by omega
      have e2 : wrap64 ((i : Int) + 1) = ((i + 1 : Nat) : Int) := by rw [w64 (x := (i : Int) + 1) (by omega) (by omega)]; omega
      rw [List.drop_eq_getElem_cons hlt]
      by_cases h : l[i] = x
      · refine Ev.step (f := fun _ => some true) (fun k => ?_) (ev_eq (Ev.now _) (inI_t (by rw [h]; exact List.mem_cons_self)).symm)
        simp only [spec_l3Has.l0]
        rw [if_pos (by omega), if_pos (by omega), rd_get _ _ hlt, if_pos h]
      · refine Ev.step (fun k => ?_) (ev_eq (ih (i + 1) (by omega)) ?_)
        · simp only [spec_l3Has.l0]
          rw [if_pos (by omega), if_pos (by omega), rd_get _ _ hlt, if_neg h, e2]
        · by_cases hx : x ∈ l.drop (i + 1)
          · rw [inI_t hx, inI_t (List.mem_cons_of_mem _ hx)]
          · rw [inI_f hx, inI_f (fun hm => by
              rcases List.mem_cons.1 hm with e | hm
              · exact h e.symm
              · exact hx hm)]
  have := loop l.length 0 (by omega)
  unfold spec_l3Has.f
  simpa using this

theorem spec_l3Put_ev (l : List Int) (x : Int) (hl : l.length ≤ 1048576) : Ev (fun k => spec_l3Put.f k l x) (if inI x l = true then l else putL l x) := by
  unfold spec_l3Put.f
  refine Ev.bind (spec_l3Has_ev l x (by omega)) ?_
  by_cases hx : inI x l = true
  · simp only [hx, if_true]; exact Ev.now _
  · simp only [hx, if_false, Bool.false_eq_true]
    have loopT : ∀ (d i : Nat) (out : List Int), i + d = l.length → out.length ≤ 2000000 - d → Ev (fun k => spec_l3Put.l0 k l x out true (i : Int)) (out ++ l.drop i) := by
      intro d
      induction d with
      | zero =>
        intro i out hi ho
        refine Ev.step (f := fun _ => some out) (fun k => ?_) (ev_eq (Ev.now _) ?_)
        · simp only [spec_l3Put.l0]
          rw [if_neg (by omega), if_pos trivial]
        · rw [List.drop_of_length_le (by omega), List.append_nil]
      | succ d ih =>
        intro i out hi ho
        have hlt : i < l.length := by omega
        have e2 : wrap64 ((i : Int) + 1) = ((i + 1 : Nat) : Int) := by rw [w64 (x := (i : Int) + 1) (by omega) (by omega)]; omega
        have hr := ih (i + 1) (out ++ [l[i]]) (by omega) (by rw [List.length_append, List.length_singleton]; omega)
        rw [List.append_assoc, List.singleton_append, ← List.drop_eq_getElem_cons hlt] at hr
        refine Ev.step (fun k => ?_) hr
        simp only [spec_l3Put.l0]
        rw [if_pos (by omega), if_pos trivial, if_pos (by omega), if_pos (by omega), rd_get _ _ hlt, e2]
    have loopF : ∀ (d i : Nat) (out : List Int), i + d = l.length → out.length ≤ 1900000 - d → Ev (fun k => spec_l3Put.l0 k l x out false (i : Int)) (out ++ putL (l.drop i) x) := by
      intro d
      induction d with
      | zero =>
        intro i out hi ho
        refine Ev.step (f := fun _ => some (out ++ [x])) (fun k => ?_) (ev_eq (Ev.now _) ?_)
        · simp only [spec_l3Put.l0]
          rw [if_neg (by omega), if_neg (by decide), if_pos (by omega)]
        · rw [List.drop_of_length_le (by omega)]; rfl
      | succ d ih =>
        intro i out hi ho
        have hlt : i < l.length := by omega
        have e2 : wrap64 ((i : Int) + 1) = ((i + 1 : Nat) : Int) := by rw [w64 (x := (i : Int) + 1) (by omega) (by omega)]; omega
        by_cases hxi : x < l[i]
        · have hr := loopT d (i + 1) (out ++ [x] ++ [l[i]]) (by omega) (by simp; omega)
          have e3 : putL (l.drop i) x = x :: l.drop i := by
            rw [List.drop_eq_getElem_cons hlt]; unfold putL; rw [if_pos hxi]
          rw [e3]
          refine Ev.step (fun k => ?_) (ev_eq hr (by rw [List.drop_eq_getElem_cons hlt]; simp))
          simp only [spec_l3Put.l0]
          rw [if_pos (by omega), if_neg (by decide), if_pos (by omega), rd_get _ _ hlt, if_pos hxi, if_pos (by omega), Option.bind_some, if_pos (by simp; omega), e2]
        · have hr := ih (i + 1) (out ++ [l[i]]) (by omega) (by rw [List.length_append, List.length_singleton]; omega)
          have e3 : putL (l.drop i) x = l[i] :: putL (l.drop (i + 1)) x := by
            rw [List.drop_eq_getElem_cons hlt]; conv => lhs; unfold putL
            rw [if_neg hxi]
          rw [e3]
          refine Ev.step (fun k => ?_) (ev_eq hr (by rw [List.append_assoc, List.singleton_append]))
          simp only [spec_l3Put.l0]
          rw [if_pos (by omega), if_neg (by decide), if_pos (by omega), rd_get _ _ hlt, if_neg hxi, if_pos (by omega), e2]
    have := loopF l.length 0 [] (by omega) (by simp)
    simpa using this

theorem spec_LearnKey_ev (ts : List ByteArray) (ks : List Int) (x : Int) (ht : ts.length ≤ 1048576) (hz : ∀ p ∈ ts, p.size ≤ 1048576) (hk : ks.length ≤ 1048576) : Ev (fun k => spec_LearnKey.f k ts ks x) (lkeyS ts ks x) := by
  unfold spec_LearnKey.f lkeyS
  refine Ev.bind (spec_KnownOk_ev ts ks ht hz hk) ?_
  by_cases h : knownB ts ks = true
  · simp only [h, if_true, spec_l3Copy_eq ts ks (by omega) (by omega), Option.bind_some, spec_l1In_eq]
    by_cases h1 : 1 ≤ x ∧ x ≤ 1000000
    · rw [decide_eq_true h1]
      simp only [if_true]
      refine Ev.bind (spec_l3Has_ev ks x (by omega)) ?_
      by_cases h2 : inI x ks = true
      · simp only [h2, if_true]; exact Ev.now _
      · simp only [h2, if_false, Bool.false_eq_true]
        by_cases h3 : (ks.length : Int) < 40
        · simp only [h3, if_true]
          refine Ev.bind (spec_l3Put_ev ks x hk) ?_
          rw [if_neg h2]
          exact Ev.now _
        · simp only [h3, if_false]; exact Ev.now _
    · rw [decide_eq_false h1]
      simp only [if_false, Bool.false_eq_true]; exact Ev.now _
  · simp only [h, if_false, Bool.false_eq_true]; exact Ev.now _

def marksI (n : Nat) : List Int := (List.range n).map fun i => ((1 + i : Nat) : Int)
theorem marksI_len (n : Nat) : (marksI n).length = n := by simp [marksI]
theorem marksI_succ (n : Nat) : marksI (n + 1) = marksI n ++ [((1 + n : Nat) : Int)] := by simp [marksI, List.range_succ]
theorem laws_markIntS_ev (l : List Int) (hl : l.length ≤ 1073741824) : Ev (fun k => laws_markIntS.f k l 1) (((1 + l.length : Nat) : Int), marksI l.length) := by
  have loop : ∀ (d i : Nat) (rest : List Int), rest.length = d → i + d ≤ 1073741824 → Ev (fun k => laws_markIntS.l0 k (marksI i ++ rest) ((1 + i : Nat) : Int) (i : Int)) (((1 + (i + d) : Nat) : Int), marksI (i + d)) := by
    intro d
    induction d with
    | zero =>
      intro i rest hr hi
      have : rest = [] := List.eq_nil_of_length_eq_zero hr
      subst this
      refine Ev.step (f := fun _ => some (((1 + i : Nat) : Int), marksI i)) (fun k => ?_) (Ev.now _)
      simp only [laws_markIntS.l0, List.append_nil]
      rw [if_neg (by rw [marksI_len]; omega)]
    | succ d ih =>
      intro i rest hr hi
      match rest, hr with
      | x :: rest, hr =>
        simp only [List.length_cons] at hr
        have hlen : i < (marksI i ++ x :: rest).length := by rw [List.length_append, marksI_len, List.length_cons]; omega
        have hset : (marksI i ++ x :: rest).set i ((1 + i : Nat) : Int) = marksI i ++ ((1 + i : Nat) : Int) :: rest := by
          rw [List.set_append_right _ _ (by rw [marksI_len]; omega), marksI_len]; simp
        have hr' := ih (i + 1) rest (by omega) (by omega)
        rw [marksI_succ, List.append_assoc] at hr'
        have e : i + 1 + d = i + (d + 1) := by omega
        rw [e] at hr'
        refine Ev.step (fun k => ?_) hr'
        simp only [laws_markIntS.l0]
        have a1 : wrap64 (((1 + i : Nat) : Int) + 1) = ((1 + (i + 1) : Nat) : Int) := by rw [w64 (by omega) (by omega)]; omega
        rw [if_pos (by omega), if_pos (by omega), a1]
        clear a1
        have a4 : wrap64 ((i : Int) + 1) = ((i + 1 : Nat) : Int) := by rw [w64 (by omega) (by omega)]; omega
        rw [a4, Int.toNat_natCast, hset]
        rfl
  unfold laws_markIntS.f
  have := loop l.length 0 l rfl (by omega)
  simpa [marksI] using this
theorem laws_heldIntS_ev (n : Nat) (hl : n ≤ 1073741824) : Ev (fun k => laws_heldIntS.f k (marksI n) 1) ((1 + n : Nat) : Int) := by
  have loop : ∀ d i : Nat, i + d = n → Ev (fun k => laws_heldIntS.l0 k (marksI n) ((1 + i : Nat) : Int) (i : Int)) ((1 + n : Nat) : Int) := by
    intro d
    induction d with
    | zero =>
      intro i hi
      have : i = n := by omega
      subst this
      refine Ev.step (f := fun _ => some ((1 + i : Nat) : Int)) (fun k => ?_) (Ev.now _)
      simp only [laws_heldIntS.l0]
      rw [if_neg (by rw [marksI_len]; omega)]
    | succ d ih =>
      intro i hi
      have hrd : rd (marksI n) (i : Int) = ((1 + i : Nat) : Int) := by
        rw [rd_get _ _ (by rw [marksI_len]; omega)]
        simp [marksI]
      refine Ev.step (fun k => ?_) (ih (i + 1) (by omega))
      simp only [laws_heldIntS.l0]
      rw [if_pos (by rw [marksI_len]; omega), if_pos (by omega), hrd, if_pos rfl]
      have a1 : wrap64 (((1 + i : Nat) : Int) + 1) = ((1 + (i + 1) : Nat) : Int) := by rw [w64 (by omega) (by omega)]; omega
      rw [a1]
      clear a1
      have a4 : wrap64 ((i : Int) + 1) = ((i + 1 : Nat) : Int) := by rw [w64 (by omega) (by omega)]; omega
      rw [a4]
  unfold laws_heldIntS.f
  exact loop n 0 (by omega)

def mtS (n : Nat) : ByteArray := ofB (109 :: decB n)
theorem laws_markText_ev (n : Nat) (h1 : 1 ≤ n) (hn : n ≤ 1000000000000) : Ev (fun k => laws_markText.f k (n : Int)) (mtS n) := by
  have loop : ∀ (m : Nat) (acc : List Nat), m ≤ 1000000000000 → acc.length + (decB m).length ≤ 100 → Ev (fun k => laws_markText.l0 k (m : Int) (ofB acc)) (ofB (109 :: (decB m ++ acc))) := by
    intro m
    induction m using Nat.strongRecOn with
    | ind m ih =>
      intro acc hm ha
      by_cases hz : m = 0
      · subst hz
        refine Ev.step (f := fun _ => some (ofB (109 :: (decB 0 ++ acc)))) (fun k => ?_) (Ev.now _)
        simp only [laws_markText.l0]
        rw [if_neg (by decide), if_pos (by rw [ofB_size]; omega), decB_zero, List.nil_append]
        have : (109 :: acc) = [109] ++ acc := rfl
        rw [this, ofB_append]; rfl
      · have hlen : (decB m).length = (decB (m / 10)).length + 1 := by rw [decB_pos hz, List.length_append]; rfl
        have hr := ih (m / 10) (by omega) ((48 + m % 10) :: acc) (by omega) (by simp; omega)
        refine Ev.step (fun k => ?_) (ev_eq hr ?_)
        · simp only [laws_markText.l0]
          have ht : Int.tmod (m : Int) 10 = ((m % 10 : Nat) : Int) := (Int.ofNat_tmod m 10).symm
          have hd : Int.tdiv (m : Int) 10 = ((m / 10 : Nat) : Int) := (Int.ofNat_tdiv m 10).symm
          rw [if_pos (by omega), ht, hd, w64 (x := 48 + _) (by omega) (by omega), w64 (by omega) (by omega)]
          have e : (48 + ((m % 10 : Nat) : Int)) % 256 = ((48 + m % 10 : Nat) : Int) := by omega
          rw [e, Option.bind_some]
          have hone : strOfNums [((48 + m % 10 : Nat) : Int)] = ofB [48 + m % 10] := rfl
          rw [hone, if_pos (by rw [ofB_size, ofB_size, List.length_singleton]; omega)]
          have : ((48 + m % 10) :: acc) = [48 + m % 10] ++ acc := rfl
          rw [this, ofB_append]
        · rw [decB_pos hz, List.append_assoc]; rfl
  unfold laws_markText.f
  have : ¬ ((n : Int) ≤ 0) := by omega
  simp only [this, if_false]
  have hl := decB_len 13 n (by omega)
  refine ev_eq (loop n [] hn (by simp; omega)) ?_
  rw [List.append_nil]; rfl

def marksT (n : Nat) : List ByteArray := (List.range n).map fun i => mtS (1 + i)
theorem marksT_len (n : Nat) : (marksT n).length = n := by simp [marksT]
theorem marksT_succ (n : Nat) : marksT (n + 1) = marksT n ++ [mtS (1 + n)] := by simp [marksT, List.range_succ]
theorem laws_markStringS_ev (l : List ByteArray) (hl : l.length ≤ 1073741824) : Ev (fun k => laws_markStringS.f k l 1) (((1 + l.length : Nat) : Int), marksT l.length) := by
  have loop : ∀ (d i : Nat) (rest : List ByteArray), rest.length = d → i + d ≤ 1073741824 → Ev (fun k => laws_markStringS.l0 k (marksT i ++ rest) ((1 + i : Nat) : Int) (i : Int)) (((1 + (i + d) : Nat) : Int), marksT (i + d)) := by
    intro d
    induction d with
    | zero =>
      intro i rest hr hi
      have : rest = [] := List.eq_nil_of_length_eq_zero hr
      subst this
      refine Ev.step (f := fun _ => some (((1 + i : Nat) : Int), marksT i)) (fun k => ?_) (Ev.now _)
      simp only [laws_markStringS.l0, List.append_nil]
      rw [if_neg (by rw [marksT_len]; omega)]
    | succ d ih =>
      intro i rest hr hi
      match rest, hr with
      | x :: rest, hr =>
        simp only [List.length_cons] at hr
        have hlen : i < (marksT i ++ x :: rest).length := by rw [List.length_append, marksT_len, List.length_cons]; omega
        have hset : (marksT i ++ x :: rest).set i (mtS (1 + i)) = marksT i ++ mtS (1 + i) :: rest := by
          rw [List.set_append_right _ _ (by rw [marksT_len]; omega), marksT_len]; simp
        have hr' := ih (i + 1) rest (by omega) (by omega)
        rw [marksT_succ, List.append_assoc] at hr'
        have e : i + 1 + d = i + (d + 1) := by omega
        rw [e] at hr'
        refine Ev.step (f := fun k => (laws_markText.f k ((1 + i : Nat) : Int)).bind fun t => laws_markStringS.l0 k ((marksT i ++ x :: rest).set i t) ((1 + (i + 1) : Nat) : Int) ((i + 1 : Nat) : Int)) (fun k => ?_) (Ev.bind (laws_markText_ev (1 + i) (by omega) (by omega)) ?_)
        · simp only [laws_markStringS.l0]
          have a1 : wrap64 (((1 + i : Nat) : Int) + 1) = ((1 + (i + 1) : Nat) : Int) := by rw [w64 (by omega) (by omega)]; omega
          rw [if_pos (by omega), a1]
          clear a1
          have a4 : wrap64 ((i : Int) + 1) = ((i + 1 : Nat) : Int) := by rw [w64 (by omega) (by omega)]; omega
          rw [a4, Int.toNat_natCast]
          have i0 : 0 ≤ (i : Int) := by omega
          simp only [i0, if_true]
        · rw [hset]; exact hr'
  unfold laws_markStringS.f
  have := loop l.length 0 l rfl (by omega)
  simpa [marksT] using this
theorem laws_heldStringS_ev (n : Nat) (hl : n ≤ 1073741824) : Ev (fun k => laws_heldStringS.f k (marksT n) 1) ((1 + n : Nat) : Int) := by
  have loop : ∀ d i : Nat, i + d = n → Ev (fun k => laws_heldStringS.l0 k (marksT n) ((1 + i : Nat) : Int) (i : Int)) ((1 + n : Nat) : Int) := by
    intro d
    induction d with
    | zero =>
      intro i hi
      have : i = n := by omega
      subst this
      refine Ev.step (f := fun _ => some ((1 + i : Nat) : Int)) (fun k => ?_) (Ev.now _)
      simp only [laws_heldStringS.l0]
      rw [if_neg (by rw [marksT_len]; omega)]
    | succ d ih =>
      intro i hi
      have hrd : rdOf ByteArray.empty (marksT n) (i : Int) = mtS (1 + i) := by
        rw [rdOf_get _ _ (by rw [marksT_len]; omega)]
        simp [marksT]
      refine Ev.step (f := fun k => (laws_markText.f k ((1 + i : Nat) : Int)).bind fun t => (if (mtS (1 + i)).toList = t.toList then laws_heldStringS.l0 k (marksT n) ((1 + (i + 1) : Nat) : Int) ((i + 1 : Nat) : Int) else some (-1))) (fun k => ?_) (Ev.bind (laws_markText_ev (1 + i) (by omega) (by omega)) ?_)
      · simp only [laws_heldStringS.l0]
        rw [if_pos (by rw [marksT_len]; omega), if_pos (by omega), hrd]
        have a1 : wrap64 (((1 + i : Nat) : Int) + 1) = ((1 + (i + 1) : Nat) : Int) := by rw [w64 (by omega) (by omega)]; omega
        rw [a1]
        clear a1
        have a4 : wrap64 ((i : Int) + 1) = ((i + 1 : Nat) : Int) := by rw [w64 (by omega) (by omega)]; omega
        rw [a4]
      · simp only [if_true]
        exact ih (i + 1) (by omega)
  unfold laws_heldStringS.f
  exact loop n 0 (by omega)

def marksF (b n : Nat) : List Int := (List.range n).map fun i => ((b + i : Nat) : Int)
theorem marksF_len (b n : Nat) : (marksF b n).length = n := by simp [marksF]
theorem marksF_succ (b n : Nat) : marksF b (n + 1) = marksF b n ++ [((b + n : Nat) : Int)] := by simp [marksF, List.range_succ]
theorem laws_markIntS_from (b : Nat) (l : List Int) (hb : b ≤ 1073741824) (hl : l.length ≤ 1073741824) : Ev (fun k => laws_markIntS.f k l (b : Int)) (((b + l.length : Nat) : Int), marksF b l.length) := by
  have loop : ∀ (d i : Nat) (rest : List Int), rest.length = d → i + d ≤ 1073741824 → Ev (fun k => laws_markIntS.l0 k (marksF b i ++ rest) ((b + i : Nat) : Int) (i : Int)) (((b + (i + d) : Nat) : Int), marksF b (i + d)) := by
    intro d
    induction d with
    | zero =>
      intro i rest hr hi
      have : rest = [] := List.eq_nil_of_length_eq_zero hr
      subst this
      refine Ev.step (f := fun _ => some (((b + i : Nat) : Int), marksF b i)) (fun k => ?_) (Ev.now _)
      simp only [laws_markIntS.l0, List.append_nil]
      rw [if_neg (by rw [marksF_len]; omega)]
    | succ d ih =>
      intro i rest hr hi
      match rest, hr with
      | x :: rest, hr =>
        simp only [List.length_cons] at hr
        have hlen : i < (marksF b i ++ x :: rest).length := by rw [List.length_append, marksF_len, List.length_cons]; omega
        have hset : (marksF b i ++ x :: rest).set i ((b + i : Nat) : Int) = marksF b i ++ ((b + i : Nat) : Int) :: rest := by
          rw [List.set_append_right _ _ (by rw [marksF_len]; omega), marksF_len]; simp
        have hr' := ih (i + 1) rest (by omega) (by omega)
        rw [marksF_succ, List.append_assoc] at hr'
        have e : i + 1 + d = i + (d + 1) := by omega
        rw [e] at hr'
        refine Ev.step (fun k => ?_) hr'
        simp only [laws_markIntS.l0]
        have a1 : wrap64 (((b + i : Nat) : Int) + 1) = ((b + (i + 1) : Nat) : Int) := by rw [w64 (by omega) (by omega)]; omega
        rw [if_pos (by omega), if_pos (by omega), a1]
        clear a1
        have a4 : wrap64 ((i : Int) + 1) = ((i + 1 : Nat) : Int) := by rw [w64 (by omega) (by omega)]; omega
        rw [a4, Int.toNat_natCast, hset]
        rfl
  unfold laws_markIntS.f
  have := loop l.length 0 l rfl (by omega)
  simpa [marksF] using this
theorem laws_heldIntS_from (b n : Nat) (hb : b ≤ 1073741824) (hl : n ≤ 1073741824) : Ev (fun k => laws_heldIntS.f k (marksF b n) (b : Int)) ((b + n : Nat) : Int) := by
  have loop : ∀ d i : Nat, i + d = n → Ev (fun k => laws_heldIntS.l0 k (marksF b n) ((b + i : Nat) : Int) (i : Int)) ((b + n : Nat) : Int) := by
    intro d
    induction d with
    | zero =>
      intro i hi
      have : i = n := by omega
      subst this
      refine Ev.step (f := fun _ => some ((b + i : Nat) : Int)) (fun k => ?_) (Ev.now _)
      simp only [laws_heldIntS.l0]
      rw [if_neg (by rw [marksF_len]; omega)]
    | succ d ih =>
      intro i hi
      have hrd : rd (marksF b n) (i : Int) = ((b + i : Nat) : Int) := by
        rw [rd_get _ _ (by rw [marksF_len]; omega)]
        simp [marksF]
      refine Ev.step (fun k => ?_) (ih (i + 1) (by omega))
      simp only [laws_heldIntS.l0]
      rw [if_pos (by rw [marksF_len]; omega), if_pos (by omega), hrd, if_pos rfl]
      have a1 : wrap64 (((b + i : Nat) : Int) + 1) = ((b + (i + 1) : Nat) : Int) := by rw [w64 (by omega) (by omega)]; omega
      rw [a1]
      clear a1
      have a4 : wrap64 ((i : Int) + 1) = ((i + 1 : Nat) : Int) := by rw [w64 (by omega) (by omega)]; omega
      rw [a4]
  unfold laws_heldIntS.f
  exact loop n 0 (by omega)

theorem laws_markKnown_ev (l : List ByteArray) (m : List Int) (hl : l.length ≤ 1073741) (hm : m.length ≤ 1073741) : Ev (fun k => laws_markKnown.f k l m 1) (((1 + l.length + m.length : Nat) : Int), marksT l.length, marksF (1 + l.length) m.length) := by
  unfold laws_markKnown.f
  exact Ev.bind (laws_markStringS_ev l (by omega)) (Ev.bind (laws_markIntS_from (1 + l.length) m (by omega) (by omega)) (Ev.now _))

theorem laws_heldKnown_ev (n m : Nat) (hl : n ≤ 1073741) (hm : m ≤ 1073741) : Ev (fun k => laws_heldKnown.f k (marksT n) (marksF (1 + n) m) 1) ((1 + n + m : Nat) : Int) := by
  unfold laws_heldKnown.f
  refine Ev.bind (laws_heldStringS_ev n (by omega)) ?_
  have h1 : ¬ (((1 + n : Nat) : Int) < 0) := by omega
  simp only [h1, if_false]
  refine Ev.bind (laws_heldIntS_from (1 + n) m (by omega) (by omega)) ?_
  have h2 : ¬ (((1 + n + m : Nat) : Int) < 0) := by omega
  simp only [h2, if_false]
  exact Ev.now _

theorem FnExactLearnKey : ∀ (l0_0 : List ByteArray) (l0_1 : List Int) (a1 : Int), (∀ a ∈ l0_0, a.size ≤ maxLen) → l0_0.length ≤ maxLen → (∀ a ∈ l0_1, (Lit.int .i64 a).wf = true) → l0_1.length ≤ maxLen → (Lit.int .i64 a1).wf = true → ∃ k, laws_FnExactLearnKey.f k l0_0 l0_1 a1 = some true := by
  intro ts ks x hz hl _ hm _
  apply Ev.rounds
  unfold laws_FnExactLearnKey.f
  obtain ⟨r, hr, h2⟩ := laws_szKnown_ev ts ks hl hz hm
  refine Ev.bind hr ?_
  by_cases h : r < 0
  · simp only [h, if_true]
    exact Ev.now _
  · obtain ⟨g1, g2, g3⟩ := h2 h
    simp only [h, if_false]
    have hto := laws_toKnown_ev ts ks g1 g3
    have hsp := spec_LearnKey_ev ts ks x g1 g2 g3
    have him := impl_LearnKey_ev ts ks x g1 g2 g3
    obtain ⟨q1, q2⟩ := lkeyS_len ts ks x g1 g3
    obtain ⟨⟨a, b⟩, hab⟩ : ∃ p, p = lkeyS ts ks x := ⟨_, rfl⟩
    rw [← hab] at hsp him q1 q2
    simp only at q1 q2
    have heq := laws_eqKnown_wide a b (by omega) (by omega)
    have hmark := laws_markKnown_ev a b (by omega) (by omega)
    have hheld := laws_heldKnown_ev a.length b.length (by omega) (by omega)
    have neg : ¬ (((1 + a.length + b.length : Nat) : Int) < 0) := by omega
    have last : Ev (fun k => laws_FnExactLearnKey.j0 k x false ts ks a b a b) true := by
      refine Ev.step (fun k => by simp only [laws_FnExactLearnKey.j0]; rw [if_neg (by decide)]) (Ev.bind hmark (Ev.bind hheld ?_))
      simp only [neg, if_true, if_false]
      refine Ev.bind hto (Ev.bind him (Ev.bind heq ?_))
      simp only [if_true]
      refine Ev.bind hheld ?_
      simp only [neg, if_true, if_false]
      exact Ev.now _
    refine Ev.bind hto (Ev.bind hsp (Ev.bind hto (Ev.bind him (Ev.bind heq ?_))))
    simp only [if_true]
    refine Ev.bind hto (Ev.bind (laws_eqKnown_self ts ks g1 g3) ?_)
    simp only [if_true]
    refine Ev.bind (laws_markKnown_ev ts ks (by omega) (by omega)) ?_
    have neg2 : ¬ (((1 + ts.length + ks.length : Nat) : Int) < 0) := by omega
    simp only [neg2, if_false]
    refine Ev.bind heq ?_
    exact last

end Go.Proofs.Ythlpfghlildllaa.Pure
