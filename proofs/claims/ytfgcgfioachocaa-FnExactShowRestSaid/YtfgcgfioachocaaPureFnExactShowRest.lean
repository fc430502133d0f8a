/- The program's ShowRest returns what the reference's returns, for all arguments. -/
import Derived.Test.YtfgcgfioachocaaPFnExactShowRestx5
import Derived.Test.YtfgcgfioachocaaBase
import Derived.Test.YtfgcgfioachocaaTerms
import Derived.Test.YtfgcgfioachocaaRests
import Derived.Test.YtfgcgfioachocaaRounds
import Derived.Test.YtfgcgfioachocaaBaseTick
namespace Go.Proofs.Ytfgcgfioachocaa.Pure
open Go.RowKit Go.Proofs.Ytfgcgfioachocaa.PFnExactShowRest Go.Proofs.YtfgcgfioachocaaW.PrintWords Go.Proofs.YtfgcgfioachocaaW.PrintLast Go.Proofs.YtfgcgfioachocaaW.PrintMore Go.Proofs.Ytfgcgfioachocaa.Base
set_option linter.unusedVariables false
set_option linter.unusedSimpArgs false
theorem spec_l1In_eq (a lo hi : Int) : spec_l1In.f a lo hi = some (decide (lo ≤ a ∧ a ≤ hi)) := by
  unfold spec_l1In.f
  by_cases h : a ≥ lo
  · rw [if_pos h]; congr 1; simp [show lo ≤ a from h]
  · rw [if_neg h]; congr 1; simp [show ¬ lo ≤ a from h]

theorem spec_Var_loop (j : Nat) : ∀ (n : Nat) (acc : List Int), n < 128 ^ (j + 1) → n ≤ MAXV → acc.length + j < 1000 →
    Ev (fun k => spec_Var.l0 k (n : Int) acc) (strOfNums (acc ++ (var n).map fun (m : Nat) => (m : Int))) := by
  have e128 : ((128 : Nat) : Int) = 128 := rfl
  induction j with
  | zero =>
    intro n acc hn hm ha
    have hn' : n < 128 := by simpa using hn
    refine Ev.step (f := fun _ => some (strOfNums (acc ++ (var n).map fun (m : Nat) => (m : Int)))) (fun k => ?_) (Ev.now _)
    simp only [spec_Var.l0]
    rw [if_neg (by omega), if_pos (by omega), var_small hn', show (n : Int) % 256 = (n : Int) by omega]; rfl
  | succ j ih =>
    intro n acc hn hm ha
    unfold MAXV at hm
    by_cases h : n < 128
    · refine Ev.step (f := fun _ => some (strOfNums (acc ++ (var n).map fun (m : Nat) => (m : Int)))) (fun k => ?_) (Ev.now _)
      simp only [spec_Var.l0]
      rw [if_neg (by omega), if_pos (by omega), var_small h, show (n : Int) % 256 = (n : Int) by omega]; rfl
    · have hd : n / 128 < 128 ^ (j + 1) := Nat.div_lt_of_lt_mul (by rw [Nat.pow_succ] at hn; omega)
      have hr := ih (n / 128) (acc ++ [((n % 128 + 128 : Nat) : Int)]) hd (by unfold MAXV; omega) (by simp; omega)
      refine Ev.step (f := fun k => spec_Var.l0 k ((n / 128 : Nat) : Int) (acc ++ [((n % 128 + 128 : Nat) : Int)])) (fun k => ?_) (ev_eq hr ?_)
      · simp only [spec_Var.l0]
        rw [if_pos (by omega), if_pos (by omega), ← e128, tdivN, tmodN, w64 (by omega) (by omega), w64 (by omega) (by omega)]
        have e : (((128 : Nat) : Int) + ((n % 128 : Nat) : Int)) % 256 = ((n % 128 + 128 : Nat) : Int) := by omega
        rw [e]
      · rw [var_big h, List.map_cons, List.append_assoc]; rfl
theorem spec_Var_ev (n : Int) : Ev (fun k => spec_Var.f k n) (varS n) := by
  unfold spec_Var.f
  simp only [spec_l1In_eq, Option.bind_some]
  by_cases h : 0 ≤ n ∧ n ≤ 562949953421311
  · simp only [h, decide_true, if_true]
    obtain ⟨m, rfl⟩ := Int.eq_ofNat_of_zero_le h.1
    have hm : m ≤ MAXV := by unfold MAXV; omega
    refine ev_eq (spec_Var_loop 6 m [] (by unfold MAXV at hm; omega) hm (by simp)) ?_
    rw [varS_in hm]; rfl
  · simp only [h, decide_false]
    rw [varS_out h]
    exact Ev.now _

theorem spec_ReadVar_inner (s : ByteArray) (hs : s.size ≤ 140737488355327) (kk : Nat) (h1 : 1 ≤ kk) (h7 : kk ≤ 7) (hkl : kk ≤ (bl s).length) {q : Int × Int} (hq : Ev (fun k => (spec_Var.f k ((val ((bl s).take kk) : Nat) : Int)).bind fun t111 => (if 0 ≤ (kk : Int) then (if (kk : Int) ≤ (s.size : Int) then (if t111.toList = (s.extract 0 (kk : Int).toNat).toList then (some (((val ((bl s).take kk) : Nat) : Int), (kk : Int))) else (spec_ReadVar.l0 k s (wrap64 ((kk : Int) + 1)))) else (none)) else (none))) q) (d : Nat) : ∀ (x : Int), d ≤ kk → x = (d : Int) - 1 →
    Ev (fun k => spec_ReadVar.l1 k s (kk : Int) ((val (((bl s).take kk).drop d) : Nat) : Int) x) q := by
  have hl := bl_len s
  induction d with
  | zero =>
    intro x hd hx
    subst hx
    rw [List.drop_zero]
    refine Ev.step (fun k => ?_) hq
    simp only [spec_ReadVar.l1]
    rw [if_neg (by omega)]
  | succ d ih =>
    intro x hd hx
    have hd' : d < (bl s).length := by omega
    have hb : bt s (d : Int) = (((bl s)[d] : Nat) : Int) := bt_get s d hd'
    have hb256 : (bl s)[d] < 256 := bl_lt s _ (List.getElem_mem hd')
    have hx' : x = (d : Int) := by omega
    subst hx'
    have hlen : ((bl s).take kk).length = kk := by rw [List.length_take]; omega
    have hdrop : ((bl s).take kk).drop d = (bl s)[d] :: ((bl s).take kk).drop (d + 1) := by
      rw [List.drop_eq_getElem_cons (by omega), List.getElem_take]
    have hval : val (((bl s).take kk).drop d) = (bl s)[d] % 128 + 128 * val (((bl s).take kk).drop (d + 1)) := by rw [hdrop]; rfl
    have hlt := val_lt (((bl s).take kk).drop (d + 1))
    rw [List.length_drop, hlen] at hlt
    have hp := pow_le7 (kk - (d + 1)) (by omega)
    have e128 : ((128 : Nat) : Int) = 128 := rfl
    refine Ev.step (fun k => ?_) (ih ((d : Int) - 1) (by omega) rfl)
    simp only [spec_ReadVar.l1]
    rw [if_pos (by omega), if_pos (by omega), if_pos (by omega), hb, w64 (x := (((bl s)[d] : Nat) : Int)) (by omega) (by omega), ← e128, tmodN, w64 (x := _ * ((128 : Nat) : Int)) (by omega) (by omega), w64 (x := _ + _) (by omega) (by omega), w64 (x := _ - 1) (by omega) (by omega)]
    rw [hval]
    congr 1
    omega
theorem spec_ReadVar_loop (s : ByteArray) (hs : s.size ≤ 140737488355327) (d : Nat) : ∀ (kk : Nat), kk + d = 8 → 1 ≤ kk → (∀ n j, j < kk → ¬ R (bl s) n j) →
    Ev (fun k => spec_ReadVar.l0 k s (kk : Int)) (rvI (bl s)) := by
  have hl := bl_len s
  induction d with
  | zero =>
    intro kk hk h1 hno
    have e : rvI (bl s) = (0, 0) := rvI_none (fun n k hR => hno n k (by have := R_seven hR; omega) hR)
    rw [e]
    refine Ev.step (f := fun k => spec_ReadVar.j1 k s (kk : Int) false) (fun k => ?_) (Ev.step (f := fun _ => some (0, 0)) (fun k => ?_) (Ev.now _))
    · simp only [spec_ReadVar.l0]; rw [if_neg (by omega)]
    · simp [spec_ReadVar.j1]
  | succ d ih =>
    intro kk hk h1 hno
    by_cases h : kk ≤ (bl s).length
    · have hmax : val ((bl s).take kk) ≤ MAXV := by
        have := val_lt ((bl s).take kk)
        rw [List.length_take, Nat.min_eq_left h] at this
        have hp : 128 ^ kk ≤ 128 ^ 7 := Nat.pow_le_pow_right (by decide) (by omega)
        have : (128 : Nat) ^ 7 = 562949953421312 := by decide
        unfold MAXV; omega
      have hin : Ev (fun k => (spec_Var.f k ((val ((bl s).take kk) : Nat) : Int)).bind fun t111 => (if 0 ≤ (kk : Int) then (if (kk : Int) ≤ (s.size : Int) then (if t111.toList = (s.extract 0 (kk : Int).toNat).toList then (some (((val ((bl s).take kk) : Nat) : Int), (kk : Int))) else (spec_ReadVar.l0 k s (wrap64 ((kk : Int) + 1)))) else (none)) else (none))) (rvI (bl s)) := by
        refine Ev.bind (spec_Var_ev _) ?_
        simp only [show (0 : Int) ≤ (kk : Int) by omega, show (kk : Int) ≤ (s.size : Int) by omega, if_true, toList_iff, Int.toNat_natCast]
        by_cases hR : R (bl s) (val ((bl s).take kk)) kk
        · have := (R_iff s _ kk hmax (by omega)).2 hR
          simp only [this, if_true]
          rw [rvI_some hR]
          exact Ev.now _
        · have hne : ¬ varS ((val ((bl s).take kk) : Nat) : Int) = s.extract 0 kk := fun e => hR ((R_iff s _ kk hmax (by omega)).1 e)
          simp only [hne, if_false]
          have hw : Aside0 (wrap64 ((kk : Int) + 1) = ((kk + 1 : Nat) : Int)) := ⟨by rw [w64 (by omega) (by omega)]; omega⟩
          rw [hw.out]
          refine ih (kk + 1) (by omega) (by omega) (fun n j hj hRj => ?_)
          by_cases hjk : j < kk
          · exact hno n j hjk hRj
          · have : j = kk := by omega
            subst this
            rw [← R_val hRj] at hRj
            exact hR hRj
      have hout := spec_ReadVar_inner s hs kk h1 (by omega) h hin kk ((kk : Int) - 1) (Nat.le_refl _) rfl
      rw [List.drop_of_length_le (by rw [List.length_take]; omega)] at hout
      refine Ev.step (f := fun k => spec_ReadVar.j1 k s (kk : Int) true) (fun k => ?_) (Ev.step (fun k => ?_) hout)
      · simp only [spec_ReadVar.l0]; rw [if_pos (by omega), decide_eq_true (by omega)]
      · simp only [spec_ReadVar.j1, if_true]; rw [w64 (by omega) (by omega)]; rfl
    · have e : rvI (bl s) = (0, 0) := rvI_none (fun n k hR => hno n k (by have := R_le hR; omega) hR)
      rw [e]
      refine Ev.step (f := fun k => spec_ReadVar.j1 k s (kk : Int) false) (fun k => ?_) (Ev.step (f := fun _ => some (0, 0)) (fun k => ?_) (Ev.now _))
      · simp only [spec_ReadVar.l0]
        by_cases h7 : (kk : Int) ≤ 7
        · rw [if_pos h7, decide_eq_false (by omega)]
        · rw [if_neg h7]
      · simp [spec_ReadVar.j1]
theorem spec_ReadVar_ev (s : ByteArray) (hs : s.size ≤ 140737488355327) : Ev (fun k => spec_ReadVar.f k s) (rvI (bl s)) := by
  unfold spec_ReadVar.f
  exact spec_ReadVar_loop s hs 7 1 (by omega) (by omega) (fun n j hj hR => by have := R_pos hR; omega)

theorem spec_l2Term_list (s : ByteArray) (hs : s.size ≤ 140737488355327) (d : Nat) (hd : d ≤ 100) (n : Nat) (hn : n ≤ 12) (a0 : Nat) (ha0 : a0 ≤ s.size)
    (hf : ∀ a, a ≤ s.size → ∃ dp : Int, Ev (fun k => spec_l2Term.f k s (a : Int) (d : Int)) (pI (parse d ((bl s).drop a)), dp) ∧ 0 ≤ dp ∧ dp ≤ d) (r : Nat) : ∀ (i a : Nat) (deep : Int), i + r = n → a ≤ s.size → a0 ≤ a → 0 ≤ deep → deep ≤ d →
    ∃ dp : Int, Ev (fun k => spec_l2Term.l0 k s (a0 : Int) ((d + 1 : Nat) : Int) (n : Int) (a : Int) deep (i : Int)) (eI a0 a (many (parse d) r ((bl s).drop a)), dp) ∧ 0 ≤ dp ∧ dp ≤ d + 1 := by
  have hw : Aside0 (wrap64 (((d + 1 : Nat) : Int) - 1) = (d : Int)) := ⟨by rw [w64 (by omega) (by omega)]; omega⟩
  induction r with
  | zero =>
    intro i a deep hi ha haa h0 h1
    refine ⟨1 + deep, Ev.step (f := fun _ => some (((a - a0 : Nat) : Int), 1 + deep)) (fun k => ?_) (ev_eq (Ev.now _) ?_), by omega, by omega⟩
    · simp only [spec_l2Term.l0]
      rw [if_neg (by omega), w64 (x := _ - _) (by omega) (by omega), w64 (x := 1 + _) (by omega) (by omega)]
      congr 2; omega
    · rfl
  | succ r ih =>
    intro i a deep hi ha haa h0 h1
    have hi1 : Aside0 (wrap64 ((i : Int) + 1) = ((i + 1 : Nat) : Int)) := ⟨by rw [w64 (by omega) (by omega)]; omega⟩
    obtain ⟨dp, hdp, hd0, hd1⟩ := hf a ha
    have hstep : ∀ k, spec_l2Term.l0 (k + 1) s (a0 : Int) ((d + 1 : Nat) : Int) (n : Int) (a : Int) deep (i : Int) = (spec_l2Term.f k s (a : Int) (d : Int)).bind fun bt118 => (if bt118.1 = 0 then (some (0, 0)) else (if bt118.2 > deep then (spec_l2Term.l0 k s (a0 : Int) ((d + 1 : Nat) : Int) (n : Int) (wrap64 ((a : Int) + bt118.1)) bt118.2 ((i + 1 : Nat) : Int)) else (spec_l2Term.l0 k s (a0 : Int) ((d + 1 : Nat) : Int) (n : Int) (wrap64 ((a : Int) + bt118.1)) deep ((i + 1 : Nat) : Int)))) := by
      intro k
      simp only [spec_l2Term.l0]; rw [if_pos (by omega), hw.out, hi1.out]
    rw [many_succ]
    cases hp : parse d ((bl s).drop a) with
    | none =>
      rw [hp] at hdp
      refine ⟨0, Ev.step hstep (Ev.bind hdp ?_), by omega, by omega⟩
      simp only [pI, if_true]
      exact Ev.now _
    | some m =>
      rw [hp] at hdp
      have hle := parse_le d _ _ hp
      rw [List.length_drop, bl_len] at hle
      have hm : ¬ ((m : Int) = 0) := by omega
      have hw2 : Aside0 (wrap64 ((a : Int) + (m : Int)) = ((a + m : Nat) : Int)) := ⟨by rw [w64 (by omega) (by omega)]; omega⟩
      have tail : ∀ deep', 0 ≤ deep' → deep' ≤ (d : Int) → ∃ dp : Int, Ev (fun k => spec_l2Term.l0 k s (a0 : Int) ((d + 1 : Nat) : Int) (n : Int) ((a + m : Nat) : Int) deep' ((i + 1 : Nat) : Int)) (eI a0 a (addO m (many (parse d) r (((bl s).drop a).drop m))), dp) ∧ 0 ≤ dp ∧ dp ≤ d + 1 := by
        intro deep' h0' h1'
        obtain ⟨dp', he, h⟩ := ih (i + 1) (a + m) deep' (by omega) (by omega) (by omega) h0' h1'
        rw [← List.drop_drop, eI_add] at he
        exact ⟨dp', he, h⟩
      by_cases hc : dp > deep
      · obtain ⟨dp', he, h⟩ := tail dp hd0 hd1
        refine ⟨dp', Ev.step hstep (Ev.bind hdp ?_), h⟩
        simp only [pI, hm, if_false, hc, if_true, hw2.out]
        exact he
      · obtain ⟨dp', he, h⟩ := tail deep h0 h1
        refine ⟨dp', Ev.step hstep (Ev.bind hdp ?_), h⟩
        simp only [pI, hm, if_false, hc, hw2.out]
        exact he
theorem spec_l2Term_ev (s : ByteArray) (hs : s.size ≤ 140737488355327) (d : Nat) : ∀ (a : Nat), d ≤ 100 → a ≤ s.size → ∃ dp : Int, Ev (fun k => spec_l2Term.f k s (a : Int) (d : Int)) (pI (parse d ((bl s).drop a)), dp) ∧ 0 ≤ dp ∧ dp ≤ d := by
  have hl := bl_len s
  have dead : ∀ (a d : Int), Ev (fun k => spec_l2Term.j0 k s a d true) (0, 0) := by
    intro a d
    refine Ev.step (f := fun _ => some (0, 0)) (fun k => ?_) (Ev.now _)
    simp [spec_l2Term.j0]
  induction d with
  | zero =>
    intro a hd ha
    by_cases h : (a : Int) ≥ (s.size : Int)
    · refine ⟨0, Ev.step (fun k => ?_) (ev_eq (dead (a : Int) ((0 : Nat) : Int)) (by simp [parse, pI])), by omega, by omega⟩
      simp only [spec_l2Term.f]; rw [if_pos h]
    · refine ⟨0, Ev.step (fun k => ?_) (ev_eq (dead (a : Int) ((0 : Nat) : Int)) (by simp [parse, pI])), by omega, by omega⟩
      simp only [spec_l2Term.f]; rw [if_neg h, decide_eq_true (by decide)]
  | succ d ih =>
    intro a hd ha
    by_cases h : (a : Int) ≥ (s.size : Int)
    · refine ⟨0, Ev.step (fun k => ?_) (ev_eq (dead (a : Int) ((d + 1 : Nat) : Int)) ?_), by omega, by omega⟩
      · simp only [spec_l2Term.f]; rw [if_pos h]
      · rw [List.drop_of_length_le (by omega), parse_nil]; rfl
    · have hlt : a < (bl s).length := by omega
      have hs1 : 0 ≤ (a : Int) := by omega
      have hs2 : (a : Int) < (s.size : Int) := by omega
      have ha1 : Aside0 (wrap64 ((a : Int) + 1) = ((a + 1 : Nat) : Int)) := ⟨by rw [w64 (by omega) (by omega)]; omega⟩
      have ha0 : 0 ≤ ((a + 1 : Nat) : Int) := by omega
      have ha2 : ((a + 1 : Nat) : Int) ≤ (s.size : Int) := by omega
      have hd1 : Aside0 (wrap64 (((d + 1 : Nat) : Int) - 1) = (d : Int)) := ⟨by rw [w64 (by omega) (by omega)]; omega⟩
      have hsz : (s.extract (a + 1) s.size).size ≤ 140737488355327 := by rw [ByteArray.size_extract]; omega
      have hv := spec_ReadVar_ev (s.extract (a + 1) s.size) hsz
      rw [bl_from] at hv
      have hcons : (bl s).drop a = (bl s)[a] :: (bl s).drop (a + 1) := List.drop_eq_getElem_cons hlt
      have hstep : ∀ k, spec_l2Term.f (k + 1) s (a : Int) ((d + 1 : Nat) : Int) = spec_l2Term.j0 k s (a : Int) ((d + 1 : Nat) : Int) false := by
        intro k; simp only [spec_l2Term.f]; rw [if_neg h, decide_eq_false (by omega)]
      suffices hh : ∃ dp : Int, Ev (fun k => spec_l2Term.j0 k s (a : Int) ((d + 1 : Nat) : Int) false) (pI (parse (d + 1) ((bl s).drop a)), dp) ∧ 0 ≤ dp ∧ dp ≤ ((d + 1 : Nat) : Int) by
        obtain ⟨dp, he, h⟩ := hh
        exact ⟨dp, Ev.step hstep he, h⟩
      have hbind : ∀ (q : Int × Int) (F : Nat → Int × Int → Option (Int × Int)), (∀ k, spec_l2Term.j0 (k + 1) s (a : Int) ((d + 1 : Nat) : Int) false = (spec_ReadVar.f k (s.extract (a + 1) s.size)).bind (F k)) → Ev (fun k => F k (rvI ((bl s).drop (a + 1)))) q → Ev (fun k => spec_l2Term.j0 k s (a : Int) ((d + 1 : Nat) : Int) false) q :=
        fun q F h1 h2 => Ev.step h1 (Ev.bind hv h2)
      rw [hcons]
      have hbt := bt_get s a hlt
      generalize hcc : (bl s)[a] = c at hbt
      rw [parse]
      cases hr : rv ((bl s).drop (a + 1)) with
      | none =>
        refine ⟨0, hbind _ _ (fun k => by simp only [spec_l2Term.j0]; rw [if_neg (by decide), ha1.out, if_pos ha0, if_pos ha2]; rfl) ?_, by omega, by omega⟩
        unfold rvI; rw [hr]
        simp only [if_true]
        exact Ev.now _
      | some p =>
        obtain ⟨n, k'⟩ := p
        have hR := rv_R hr
        have hk := R_le hR
        have hk0 := R_pos hR
        have hn9 := hR.1
        unfold MAXV at hn9
        simp only at hk hn9 hk0
        rw [List.length_drop, hl] at hk
        have hk0' : ¬ ((k' : Int) = 0) := by omega
        simp only []
        have hwk : Aside0 (wrap64 (((a + 1 : Nat) : Int) + (k' : Int)) = ((a + 1 + k' : Nat) : Int)) := ⟨by rw [w64 (by omega) (by omega)]; omega⟩
        by_cases c1 : c = 97
        · subst c1
          rw [if_pos rfl, List.length_drop, hl]
          by_cases c2 : n ≤ 40
          · by_cases c3 : n ≤ s.size - (a + 1) - k'
            · rw [if_pos ⟨c2, c3⟩]
              refine ⟨1, hbind _ _ (fun k => by simp only [spec_l2Term.j0]; rw [if_neg (by decide), ha1.out, if_pos ha0, if_pos ha2]; rfl) ?_, by omega, by omega⟩
              unfold rvI; rw [hr]
              simp only [hk0', hs1, hs2, hbt, if_true, if_false, hwk.out]
              have c2' : ¬ ((n : Int) > 40) := by omega
              have c3' : ¬ ((n : Int) > wrap64 ((s.size : Int) - ((a + 1 + k' : Nat) : Int))) := by rw [w64 (by omega) (by omega)]; omega
              have e : Aside0 (wrap64 (wrap64 (1 + (k' : Int)) + (n : Int)) = ((1 + k' + n : Nat) : Int)) := ⟨by rw [w64 (x := 1 + (k' : Int)) (by omega) (by omega), w64 (by omega) (by omega)]; omega⟩
              simp only [c2', c3', if_false, e.out, show (((97 : Nat) : Int) = 97) from rfl, if_true]
              exact Ev.now _
            · rw [if_neg (fun e => c3 e.2)]
              refine ⟨0, hbind _ _ (fun k => by simp only [spec_l2Term.j0]; rw [if_neg (by decide), ha1.out, if_pos ha0, if_pos ha2]; rfl) ?_, by omega, by omega⟩
              unfold rvI; rw [hr]
              simp only [hk0', hs1, hs2, hbt, if_true, if_false, hwk.out]
              have c2' : ¬ ((n : Int) > 40) := by omega
              have c3' : ((n : Int) > wrap64 ((s.size : Int) - ((a + 1 + k' : Nat) : Int))) := by rw [w64 (by omega) (by omega)]; omega
              simp only [c2', c3', if_false, show (((97 : Nat) : Int) = 97) from rfl, if_true]
              exact Ev.now _
          · rw [if_neg (fun e => c2 e.1)]
            refine ⟨0, hbind _ _ (fun k => by simp only [spec_l2Term.j0]; rw [if_neg (by decide), ha1.out, if_pos ha0, if_pos ha2]; rfl) ?_, by omega, by omega⟩
            unfold rvI; rw [hr]
            simp only [hk0', hs1, hs2, hbt, if_true, if_false]
            have c2' : ((n : Int) > 40) := by omega
            simp only [c2', show (((97 : Nat) : Int) = 97) from rfl, if_true]
            exact Ev.now _
        · have c1' : ¬ ((c : Int) = 97) := by omega
          rw [if_neg c1]
          by_cases c4 : c = 107
          · subst c4
            rw [if_pos rfl]
            by_cases c5 : 1 ≤ n ∧ n ≤ 1000000
            · have c5' : 1 ≤ (n : Int) ∧ (n : Int) ≤ 1000000 := by omega
              refine ⟨1, hbind _ _ (fun k => by simp only [spec_l2Term.j0]; rw [if_neg (by decide), ha1.out, if_pos ha0, if_pos ha2]; rfl) ?_, by omega, by omega⟩
              unfold rvI; rw [hr, if_pos c5]
              have e : Aside0 (wrap64 (1 + (k' : Int)) = ((1 + k' : Nat) : Int)) := ⟨by rw [w64 (by omega) (by omega)]; omega⟩
              simp only [hk0', hs1, hs2, hbt, if_true, if_false, c1', show (((107 : Nat) : Int) = 107) from rfl, spec_l1In_eq, Option.bind_some, c5', decide_true, e.out, and_self]
              exact Ev.now _
            · have c5' : ¬ (1 ≤ (n : Int) ∧ (n : Int) ≤ 1000000) := by omega
              refine ⟨0, hbind _ _ (fun k => by simp only [spec_l2Term.j0]; rw [if_neg (by decide), ha1.out, if_pos ha0, if_pos ha2]; rfl) ?_, by omega, by omega⟩
              unfold rvI; rw [hr, if_neg c5]
              simp only [hk0', hs1, hs2, hbt, if_true, if_false, c1', show (((107 : Nat) : Int) = 107) from rfl, spec_l1In_eq, Option.bind_some, c5', decide_false]
              exact Ev.now _
          · have c4' : ¬ ((c : Int) = 107) := by omega
            rw [if_neg c4]
            by_cases c6 : c = 108
            · subst c6
              rw [if_pos rfl]
              by_cases c7 : n ≤ 12
              · have c7' : ¬ ((n : Int) > 12) := by omega
                obtain ⟨dp, hL, h0, h1⟩ := spec_l2Term_list s hs d (by omega) n c7 a ha (fun a ha => ih a (by omega) ha) n 0 (a + 1 + k') 0 (by omega) (by omega) (by omega) (by omega) (by omega)
                rw [← List.drop_drop] at hL
                refine ⟨dp, hbind _ _ (fun k => by simp only [spec_l2Term.j0]; rw [if_neg (by decide), ha1.out, if_pos ha0, if_pos ha2]; rfl) ?_, h0, by omega⟩
                unfold rvI; rw [hr, if_pos c7]
                simp only [hk0', hs1, hs2, hbt, if_true, if_false, c1', c4', c7', show (((108 : Nat) : Int) = 108) from rfl, show ¬ (((108 : Nat) : Int) = 115) by omega, hwk.out]
                refine ev_eq hL ?_
                cases hq : many (parse d) n (((bl s).drop (a + 1)).drop k') with
                | none => rfl
                | some q =>
                  simp only [eI, pI]
                  rw [show a + 1 + k' + q - a = 1 + k' + q by omega]
              · have c7' : ((n : Int) > 12) := by omega
                refine ⟨0, hbind _ _ (fun k => by simp only [spec_l2Term.j0]; rw [if_neg (by decide), ha1.out, if_pos ha0, if_pos ha2]; rfl) ?_, by omega, by omega⟩
                unfold rvI; rw [hr, if_neg c7]
                simp only [hk0', hs1, hs2, hbt, if_true, if_false, c1', c4', c7', show (((108 : Nat) : Int) = 108) from rfl, show ¬ (((108 : Nat) : Int) = 115) by omega]
                exact Ev.now _
            · have c6' : ¬ ((c : Int) = 108) := by omega
              rw [if_neg c6]
              by_cases c8 : c = 115
              · subst c8
                rw [if_pos rfl]
                obtain ⟨dp, hL, h0, h1⟩ := ih (a + 1 + k') (by omega) (by omega)
                rw [← List.drop_drop] at hL
                have hk1 : ∀ F : Nat → Int × Int → Option (Int × Int), True := fun _ => trivial
                cases hq : parse d (((bl s).drop (a + 1)).drop k') with
                | none =>
                  rw [hq] at hL
                  refine ⟨0, hbind _ _ (fun k => by simp only [spec_l2Term.j0]; rw [if_neg (by decide), ha1.out, if_pos ha0, if_pos ha2]; rfl) ?_, by omega, by omega⟩
                  unfold rvI; rw [hr]
                  simp only [hk0', hs1, hs2, hbt, if_true, if_false, c1', c4', show (((115 : Nat) : Int) = 115) from rfl, hwk.out, hd1.out]
                  refine Ev.bind hL ?_
                  simp only [pI, if_true]
                  refine ev_eq (Ev.now _) ?_
                  simp [pI]
                | some q =>
                  rw [hq] at hL
                  have hle := parse_le d _ _ hq
                  rw [List.length_drop, List.length_drop, hl] at hle
                  have hq0 : ¬ ((q : Int) = 0) := by omega
                  by_cases c5 : 1 ≤ n ∧ n ≤ 1000000
                  · have c5' : 1 ≤ (n : Int) ∧ (n : Int) ≤ 1000000 := by omega
                    refine ⟨1 + dp, hbind _ _ (fun k => by simp only [spec_l2Term.j0]; rw [if_neg (by decide), ha1.out, if_pos ha0, if_pos ha2]; rfl) ?_, by omega, by omega⟩
                    unfold rvI; rw [hr, if_pos c5]
                    simp only [hk0', hs1, hs2, hbt, if_true, if_false, c1', c4', show (((115 : Nat) : Int) = 115) from rfl, hwk.out, hd1.out]
                    refine Ev.bind hL ?_
                    have e : Aside0 (wrap64 (wrap64 (1 + (k' : Int)) + (q : Int)) = ((1 + k' + q : Nat) : Int)) := ⟨by rw [w64 (x := 1 + (k' : Int)) (by omega) (by omega), w64 (by omega) (by omega)]; omega⟩
                    have e2 : wrap64 (1 + dp) = 1 + dp := w64 (by omega) (by omega)
                    simp only [pI, hq0, if_false, spec_l1In_eq, Option.bind_some, c5', decide_true, and_self, if_true, e.out, e2]
                    exact Ev.now _
                  · have c5' : ¬ (1 ≤ (n : Int) ∧ (n : Int) ≤ 1000000) := by omega
                    refine ⟨0, hbind _ _ (fun k => by simp only [spec_l2Term.j0]; rw [if_neg (by decide), ha1.out, if_pos ha0, if_pos ha2]; rfl) ?_, by omega, by omega⟩
                    unfold rvI; rw [hr, if_neg c5]
                    simp only [hk0', hs1, hs2, hbt, if_true, if_false, c1', c4', show (((115 : Nat) : Int) = 115) from rfl, hwk.out, hd1.out]
                    refine Ev.bind hL ?_
                    simp only [pI, hq0, if_false, spec_l1In_eq, Option.bind_some, c5', decide_false]
                    exact Ev.now _
              · have c8' : ¬ ((c : Int) = 115) := by omega
                rw [if_neg c8]
                refine ⟨0, hbind _ _ (fun k => by simp only [spec_l2Term.j0]; rw [if_neg (by decide), ha1.out, if_pos ha0, if_pos ha2]; rfl) ?_, by omega, by omega⟩
                unfold rvI; rw [hr]
                simp only [hk0', hs1, hs2, hbt, if_true, if_false, c1', c4', c6', c8']
                exact Ev.now _

theorem spec_TermOk_ev (s : ByteArray) (hs : s.size ≤ 140737488355327) : Ev (fun k => spec_TermOk.f k s) (termB (bl s)) := by
  have hl := bl_len s
  unfold spec_TermOk.f
  obtain ⟨dp, ht, _, _⟩ := spec_l2Term_ev s hs 8 0 (by decide) (by omega)
  refine Ev.bind ht ?_
  rw [List.drop_zero]
  unfold termB
  rw [hl]
  cases hp : parse 8 (bl s) with
  | none =>
    refine ev_eq (Ev.now _) ?_
    simp
  | some m =>
    have hle := parse_le 8 _ _ hp
    rw [hl] at hle
    have h1 : ((m : Int) > 0) := by omega
    simp only [pI, h1, if_true]
    by_cases hm : m = s.size
    · subst hm
      simp only [if_true]
      refine ev_eq (Ev.now _) ?_
      exact decide_eq_decide.mpr ⟨fun h => ⟨by omega, by omega, trivial⟩, fun h => by omega⟩
    · have hm' : ¬ ((m : Int) = (s.size : Int)) := by omega
      simp only [hm', if_false]
      refine ev_eq (Ev.now _) ?_
      rw [decide_eq_false]
      intro h
      exact hm (Option.some.inj h.2.2)

theorem spec_l2Ok_ev (s : ByteArray) (hs : s.size ≤ 140737488355327) : Ev (fun k => spec_l2Ok.f k s) (termS s) := by
  unfold spec_l2Ok.f
  refine Ev.bind (spec_TermOk_ev s hs) ?_
  unfold termS okS
  by_cases h : termB (bl s) = true
  · simp only [h, if_true]; exact Ev.now _
  · simp only [h]; exact Ev.now _

theorem spec_Atom_ev (d : ByteArray) (hd : d.size ≤ 1000000000) : Ev (fun k => spec_Atom.f k d) (atomS d) := by
  unfold spec_Atom.f
  by_cases h : (d.size : Int) > 40
  · simp only [h, if_true]
    refine ev_eq (Ev.now _) ?_
    unfold atomS termS
    rw [atom_long (by omega) (by unfold MAXV; omega), if_neg (by decide)]
  · simp only [h, if_false]
    refine Ev.bind (spec_Var_ev _) ?_
    have h7 := @var_size (d.size : Int)
    have h1 : (⟨#[97]⟩ : ByteArray).size = 1 := rfl
    have a1 : 1 + (varS (d.size : Int)).size ≤ 9223372036854775807 := by omega
    have a2 : ((⟨#[97]⟩ : ByteArray) ++ varS (d.size : Int)).size + d.size ≤ 9223372036854775807 := by rw [ByteArray.size_append]; omega
    simp only [a1, a2, if_true]
    refine Ev.bind (spec_l2Ok_ev _ (by rw [ByteArray.size_append, ByteArray.size_append]; omega)) (ev_eq (Ev.now _) rfl)

theorem toList_nil (s : ByteArray) : s.toList = ([] : List UInt8) ↔ s = (⟨#[]⟩ : ByteArray) := by
  have h := toList_iff s (⟨#[]⟩ : ByteArray)
  have e : (⟨#[]⟩ : ByteArray).toList = [] := by rw [ByteArray.toList_eq]
  rw [e] at h
  exact h

theorem spec_Num_ev (n : Int) : Ev (fun k => spec_Num.f k n) (numS n) := by
  unfold spec_Num.f
  refine Ev.bind (spec_Var_ev n) ?_
  unfold numS
  simp only [toList_nil]
  by_cases h : varS n = (⟨#[]⟩ : ByteArray)
  · simp only [h, if_true]; exact Ev.now _
  · simp only [h, if_false]
    have := @var_size n
    exact Ev.bind (spec_Atom_ev _ (by omega)) (ev_eq (Ev.now _) rfl)

theorem spec_List_loop (ps : List ByteArray) (hl : ps.length ≤ 12) (d : Nat) : ∀ (i : Nat) (acc : ByteArray), i + d = ps.length → acc.size ≤ 1000 + 900 * i → (∀ p ∈ ps, p.size ≤ 1099511627776) →
    Ev (fun k => spec_List.l0 k ps acc (i : Int)) (if (ps.drop i).all okS = true then termS (acc ++ cat (ps.drop i)) else ⟨#[]⟩) := by
  induction d with
  | zero =>
    intro i acc hi ha hp
    rw [List.drop_of_length_le (by omega)]
    have e : acc ++ cat [] = acc := ByteArray.append_empty
    simp only [List.all_nil, if_true, e]
    refine Ev.step (f := fun k => (spec_l2Ok.f k acc).bind fun t => some t) (fun k => ?_) (Ev.bind (spec_l2Ok_ev acc (by omega)) (Ev.now _))
    simp only [spec_List.l0]; rw [if_neg (by omega)]
  | succ d ih =>
    intro i acc hi ha hp
    have hlt : i < ps.length := by omega
    have hcons : ps.drop i = ps[i] :: ps.drop (i + 1) := List.drop_eq_getElem_cons hlt
    have hsz := hp _ (List.getElem_mem hlt)
    have hw : Aside0 (wrap64 ((i : Int) + 1) = ((i + 1 : Nat) : Int)) := ⟨by rw [w64 (by omega) (by omega)]; omega⟩
    refine Ev.step (f := fun k => (spec_TermOk.f k ps[i]).bind fun t => (if t = true then (if acc.size + ps[i].size ≤ 9223372036854775807 then spec_List.l0 k ps (acc ++ ps[i]) ((i + 1 : Nat) : Int) else none) else some (⟨#[]⟩ : ByteArray))) (fun k => ?_) (Ev.bind (spec_TermOk_ev ps[i] (by omega)) ?_)
    · simp only [spec_List.l0]; rw [if_pos (by omega), if_pos (by omega), rdOf_get ps i hlt, hw.out]
    · have ho : termB (bl ps[i]) = okS ps[i] := rfl
      rw [ho, hcons, List.all_cons, cat_cons]
      by_cases h : okS ps[i] = true
      · have h9 := (okS_size h).2
        have hr := ih (i + 1) (acc ++ ps[i]) (by omega) (by rw [ByteArray.size_append]; omega) hp
        have hle : acc.size + ps[i].size ≤ 9223372036854775807 := by omega
        rw [ByteArray.append_assoc] at hr
        simp only [h, hle, if_true, Bool.true_and]
        exact hr
      · have h' := Bool.eq_false_iff.mpr h
        rw [h', Bool.false_and]
        simp only [Bool.false_eq_true, if_false]
        exact Ev.now _
theorem spec_List_ev (ps : List ByteArray) (hp : ∀ p ∈ ps, p.size ≤ 1099511627776) : Ev (fun k => spec_List.f k ps) (listS ps) := by
  unfold spec_List.f
  by_cases h12 : ps.length ≤ 12
  · have h12' : ¬ ((ps.length : Int) > 12) := by omega
    simp only [h12', if_false]
    refine Ev.bind (spec_Var_ev _) ?_
    have h7 := @var_size (ps.length : Int)
    have h1 : (⟨#[108]⟩ : ByteArray).size = 1 := rfl
    have a1 : 1 + (varS (ps.length : Int)).size ≤ 9223372036854775807 := by omega
    simp only [a1, if_true]
    refine ev_eq (spec_List_loop ps h12 ps.length 0 ((⟨#[108]⟩ : ByteArray) ++ varS (ps.length : Int)) (by omega) (by rw [ByteArray.size_append]; omega) hp) ?_
    unfold listS rawL
    rw [List.drop_zero]
    by_cases h : ps.all okS = true
    · rw [if_pos h, if_pos ⟨h12, h⟩]
    · rw [if_neg h, if_neg (fun e => h e.2)]
  · have h12' : ((ps.length : Int) > 12) := by omega
    simp only [h12', if_true]
    refine ev_eq (Ev.now _) ?_
    unfold listS; rw [if_neg (fun e => h12 e.1)]

theorem listS_long2 {ps : List ByteArray} (h : 12 < ps.length) : listS ps = (⟨#[]⟩ : ByteArray) := by unfold listS; rw [if_neg (fun e => by omega)]
theorem spec_Nums_loop (l : List Int) (hl : l.length ≤ 1073741824) (d : Nat) : ∀ (i : Nat), i + d = min 13 l.length →
    Ev (fun k => spec_Nums.l0 k l ((l.take i).map numS) (i : Int)) (if (((l.take (min 13 l.length)).drop i).all fun n => decide (0 ≤ n ∧ n ≤ 562949953421311)) = true then listS ((l.take (min 13 l.length)).map numS) else ⟨#[]⟩) := by
  induction d with
  | zero =>
    intro i hi
    rw [List.drop_of_length_le (by rw [List.length_take]; omega), show i = min 13 l.length by omega]
    simp only [List.all_nil, if_true]
    refine Ev.step (f := fun k => spec_Nums.j1 k l ((l.take (min 13 l.length)).map numS) ((min 13 l.length : Nat) : Int) false) (fun k => ?_) (Ev.step (f := fun k => (spec_List.f k ((l.take (min 13 l.length)).map numS)).bind fun t => some t) (fun k => ?_) (Ev.bind (spec_List_ev _ (fun p hp => ?_)) (Ev.now _)))
    · simp only [spec_Nums.l0]
      by_cases hh : ((min 13 l.length : Nat) : Int) < (l.length : Int)
      · rw [if_pos hh, decide_eq_false (by omega)]
      · rw [if_neg hh]
    · simp only [spec_Nums.j1]; rw [if_neg (by decide)]
    · obtain ⟨n, _, rfl⟩ := List.mem_map.mp hp
      have := numS_size n; omega
  | succ d ih =>
    intro i hi
    have hlt : i < l.length := by omega
    have hlt2 : i < (l.take (min 13 l.length)).length := by rw [List.length_take]; omega
    have hcons : (l.take (min 13 l.length)).drop i = l[i] :: (l.take (min 13 l.length)).drop (i + 1) := by
      rw [List.drop_eq_getElem_cons hlt2, List.getElem_take]
    have hw : Aside0 (wrap64 ((i : Int) + 1) = ((i + 1 : Nat) : Int)) := ⟨by rw [w64 (by omega) (by omega)]; omega⟩
    refine Ev.step (f := fun k => spec_Nums.j1 k l ((l.take i).map numS) (i : Int) true) (fun k => ?_) (Ev.step (f := fun k => (spec_Num.f k l[i]).bind fun t => (if t.toList = ([] : List UInt8) then some (⟨#[]⟩ : ByteArray) else (if ((l.take i).map numS).length < 8796093022208 then spec_Nums.l0 k l ((l.take i).map numS ++ [t]) ((i + 1 : Nat) : Int) else none))) (fun k => ?_) (Ev.bind (spec_Num_ev l[i]) ?_))
    · simp only [spec_Nums.l0]; rw [if_pos (by omega), decide_eq_true (by omega)]
    · simp only [spec_Nums.j1]; rw [if_pos trivial, if_pos (by omega), if_pos (by omega), rd_get l i hlt, hw.out]
    · simp only [toList_nil]
      rw [hcons, List.all_cons]
      by_cases h : 0 ≤ l[i] ∧ l[i] ≤ 562949953421311
      · have hne := (numS_in h).2.2
        have hr := ih (i + 1) (by omega)
        have hlen : ((l.take i).map numS).length < 8796093022208 := by rw [List.length_map, List.length_take]; omega
        simp only [hne, hlen, if_false, if_true]
        rw [decide_eq_true h, Bool.true_and]
        rw [List.take_succ_eq_append_getElem hlt, List.map_append] at hr
        exact hr
      · rw [decide_eq_false h, Bool.false_and, numS_out h]
        simp only [Bool.false_eq_true, if_true, if_false]
        exact Ev.now _
theorem spec_Nums_ev (l : List Int) (hl : l.length ≤ 1073741824) : Ev (fun k => spec_Nums.f k l) (numsS l) := by
  unfold spec_Nums.f
  refine ev_eq (spec_Nums_loop l hl (min 13 l.length) 0 (by omega)) ?_
  unfold numsS
  rw [List.drop_zero]
  by_cases h12 : l.length ≤ 12
  · have e : l.take (min 13 l.length) = l := List.take_of_length_le (by omega)
    rw [e]
    by_cases h : (l.all fun n => decide (0 ≤ n ∧ n ≤ 562949953421311)) = true
    · rw [if_pos h, if_pos ⟨h12, h⟩]
    · rw [if_neg h, if_neg (fun e => h e.2)]
  · have e2 : ¬ (l.length ≤ 12 ∧ (l.all fun n => decide (0 ≤ n ∧ n ≤ 562949953421311)) = true) := fun e => h12 e.1
    rw [if_neg e2]
    split
    · rw [listS_long2]; rw [List.length_map, List.length_take]; omega
    · rfl

theorem spec_RestOk_eq (s o e : Int) : spec_RestOk.f s o e = some (restB s o e) := by
  unfold spec_RestOk.f restB
  simp only [spec_l1In_eq, Option.bind_some]
  by_cases h1 : 0 ≤ s ∧ s ≤ 7 <;> by_cases h2 : 0 ≤ o ∧ o ≤ 255 <;> simp [h1, h2]

theorem spec_ShowRest_ev (s o e : Int) : Ev (fun k => spec_ShowRest.f k s o e) (srS s o e) := by
  unfold spec_ShowRest.f srS
  simp only [spec_RestOk_eq, Option.bind_some]
  by_cases h : restB s o e = true
  · simp only [h, if_true]
    exact Ev.bind (spec_Nums_ev _ (by simp)) (Ev.now _)
  · simp only [h]
    exact Ev.now _

theorem impl_within_eq (a lo hi : Int) : impl_within.f a lo hi = some (decide (lo ≤ a ∧ a ≤ hi)) := by
  unfold impl_within.f
  by_cases h : a ≥ lo
  · rw [if_pos h]; congr 1; simp [show lo ≤ a from h]
  · rw [if_neg h]; congr 1; simp [show ¬ lo ≤ a from h]

theorem impl_isKey_eq (a : Int) : impl_isKey.f a = some (decide (1 ≤ a ∧ a ≤ 1000000)) := by
  unfold impl_isKey.f; rw [impl_within_eq, Option.bind_some]

theorem impl_Var_loop (j : Nat) : ∀ (n : Nat) (acc : List Int), n < 128 ^ (j + 1) → n ≤ MAXV → acc.length + j < 1000 →
    Ev (fun k => impl_Var.l0 k (n : Int) acc) (strOfNums (acc ++ (var n).map fun (m : Nat) => (m : Int))) := by
  induction j with
  | zero =>
    intro n acc hn hm ha
    have hn' : n < 128 := by simpa using hn
    refine Ev.step (f := fun _ => some (strOfNums (acc ++ (var n).map fun (m : Nat) => (m : Int)))) (fun k => ?_) (Ev.now _)
    simp only [impl_Var.l0]
    rw [if_neg (by omega), if_pos (by omega), var_small hn', show (n : Int) % 256 = (n : Int) by omega]; rfl
  | succ j ih =>
    intro n acc hn hm ha
    by_cases h : n < 128
    · refine Ev.step (f := fun _ => some (strOfNums (acc ++ (var n).map fun (m : Nat) => (m : Int)))) (fun k => ?_) (Ev.now _)
      simp only [impl_Var.l0]
      rw [if_neg (by omega), if_pos (by omega), var_small h, show (n : Int) % 256 = (n : Int) by omega]; rfl
    · have hd : n / 128 < 128 ^ (j + 1) := Nat.div_lt_of_lt_mul (by rw [Nat.pow_succ] at hn; omega)
      have hr := ih (n / 128) (acc ++ [((n % 128 + 128 : Nat) : Int)]) hd (by omega) (by simp; omega)
      refine Ev.step (f := fun k => impl_Var.l0 k ((n / 128 : Nat) : Int) (acc ++ [((n % 128 + 128 : Nat) : Int)])) (fun k => ?_) (ev_eq hr ?_)
      · simp only [impl_Var.l0]
        rw [if_pos (by omega), if_pos (by omega), or_and n (by unfold MAXV at hm; omega)]
        congr 1
      · rw [var_big h, List.map_cons, List.append_assoc]; rfl
theorem impl_Var_ev (n : Int) : Ev (fun k => impl_Var.f k n) (varS n) := by
  unfold impl_Var.f
  simp only [impl_within_eq, Option.bind_some]
  by_cases h : 0 ≤ n ∧ n ≤ 562949953421311
  · simp only [h, decide_true, if_true]
    obtain ⟨m, rfl⟩ := Int.eq_ofNat_of_zero_le h.1
    have hm : m ≤ MAXV := by unfold MAXV; omega
    refine ev_eq (impl_Var_loop 6 m [] (by unfold MAXV at hm; omega) hm (by simp)) ?_
    rw [varS_in hm]; rfl
  · simp only [h, decide_false]
    rw [varS_out h]
    exact Ev.now _

theorem impl_ReadVar_loop (s : ByteArray) (hs : s.size ≤ 140737488355327) (d : Nat) : ∀ (i n : Nat), i + d = 7 → i ≤ (bl s).length → (∀ j, j < i → 128 ≤ (bl s).getD j 0) → n = val ((bl s).take i) →
    Ev (fun k => impl_ReadVar.l0 k s (n : Int) (i : Int)) (rvI (bl s)) := by
  have hl := bl_len s
  induction d with
  | zero =>
    intro i n hi hle hc hn
    have e : rvI (bl s) = (0, 0) := rvI_none (fun n k hR => R_far (bl s) i hc (Or.inr (by omega)) hR)
    rw [e]
    refine Ev.step (f := fun k => impl_ReadVar.j1 k s (n : Int) (i : Int) false) (fun k => ?_) (Ev.step (f := fun _ => some (0, 0)) (fun k => ?_) (Ev.now _))
    · simp only [impl_ReadVar.l0]
      by_cases h : (i : Int) < (s.size : Int)
      · rw [if_pos h, decide_eq_false (by omega)]
      · rw [if_neg h]
    · simp [impl_ReadVar.j1]
  | succ d ih =>
    intro i n hi hle hc hn
    by_cases h : i < (bl s).length
    · have is_ : (i : Int) < (s.size : Int) := by omega
      have i7 : (i : Int) < 7 := by omega
      have i0 : 0 ≤ (i : Int) := by omega
      have i1s : ((i + 1 : Nat) : Int) ≤ (s.size : Int) := by omega
      have i10 : 0 ≤ ((i + 1 : Nat) : Int) := by omega
      have i1S : i + 1 ≤ s.size := by omega
      have hw1 : Aside0 (wrap64 ((i : Int) + 1) = ((i + 1 : Nat) : Int)) := ⟨by rw [w64 (by omega) (by omega)]; omega⟩
      have hw7 : Aside0 (0 ≤ wrap64 (7 * (i : Int))) := ⟨by rw [w64 (by omega) (by omega)]; omega⟩
      have hj : ∀ k, impl_ReadVar.l0 (k + 1) s (n : Int) (i : Int) = impl_ReadVar.j1 k s (n : Int) (i : Int) true := by
        intro k
        simp only [impl_ReadVar.l0]
        rw [if_pos is_, decide_eq_true i7]
      have hb : bt s (i : Int) = (((bl s)[i] : Nat) : Int) := bt_get s i h
      have hb256 : (bl s)[i] < 256 := bl_lt s _ (List.getElem_mem h)
      have hnlt : n < 128 ^ i := by
        have := val_lt ((bl s).take i)
        rw [List.length_take, Nat.min_eq_left hle] at this
        omega
      have ho := or_shl n i (bl s)[i] hnlt (by omega) hb256
      have hv := val_take (bl s) i h
      have hnn : n + 128 ^ i * ((bl s)[i] % 128) = val ((bl s).take (i + 1)) := by rw [hv, hn]
      have hsum := val_lt ((bl s).take (i + 1))
      rw [List.length_take, Nat.min_eq_left (by omega)] at hsum
      have hp : 128 ^ (i + 1) ≤ 128 ^ 7 := Nat.pow_le_pow_right (by decide) (by omega)
      have hmax : n + 128 ^ i * ((bl s)[i] % 128) ≤ MAXV := by
        have h7 : (128 : Nat) ^ 7 = 562949953421312 := by decide
        rw [hnn]; unfold MAXV; omega
      have hg : (bl s).getD i 0 = (bl s)[i] := by rw [List.getD_eq_getElem?_getD, List.getElem?_eq_getElem h]; rfl
      by_cases hlt : (bl s)[i] < 128
      · have hvar := impl_Var_ev ((n + 128 ^ i * ((bl s)[i] % 128) : Nat) : Int)
        refine Ev.step hj (Ev.step (f := fun k => (impl_Var.f k ((n + 128 ^ i * ((bl s)[i] % 128) : Nat) : Int)).bind fun t => (if t.toList = (s.extract 0 (i + 1)).toList then some (((n + 128 ^ i * ((bl s)[i] % 128) : Nat) : Int), ((i + 1 : Nat) : Int)) else some (0, 0))) (fun k => ?_) (Ev.bind hvar ?_))
        · simp only [impl_ReadVar.j1, if_true]
          rw [if_pos i0, if_pos is_, if_pos hw7.out, hb, if_pos (show (((bl s)[i] : Nat) : Int) < 128 from Int.ofNat_lt.mpr hlt), ho, hw1.out]
          congr 1
          funext t
          rw [if_pos i10, if_pos i1s]
          rfl
        · by_cases hR : R (bl s) (n + 128 ^ i * ((bl s)[i] % 128)) (i + 1)
          · rw [rvI_some hR]
            have := (R_iff s _ (i + 1) hmax i1S).2 hR
            simp only [this, if_true]
            exact Ev.now _
          · have hne : ¬ varS ((n + 128 ^ i * ((bl s)[i] % 128) : Nat) : Int) = s.extract 0 (i + 1) := fun e => hR ((R_iff s _ (i + 1) hmax i1S).1 e)
            have hnone : rvI (bl s) = (0, 0) := rvI_none (fun n' k' hR' => by
              have hk := R_upto (bl s) i h (by omega) hc hlt hR'
              subst hk
              have hv' := R_val hR'
              rw [← hnn] at hv'
              rw [← hv'] at hR'
              exact hR hR')
            rw [hnone]
            simp only [toList_iff, hne, if_false]
            exact Ev.now _
      · have hr := ih (i + 1) (n + 128 ^ i * ((bl s)[i] % 128)) (by omega) (by omega) (fun j hj => by
          by_cases he : j < i
          · exact hc j he
          · have : j = i := by omega
            rw [this, hg]; omega) hnn
        refine Ev.step hj (Ev.step (f := fun k => impl_ReadVar.l0 k s ((n + 128 ^ i * ((bl s)[i] % 128) : Nat) : Int) ((i + 1 : Nat) : Int)) (fun k => ?_) hr)
        simp only [impl_ReadVar.j1, if_true]
        rw [if_pos i0, if_pos is_, if_pos hw7.out, hb, if_neg (show ¬ (((bl s)[i] : Nat) : Int) < 128 from fun e => hlt (Int.ofNat_lt.mp e)), ho, hw1.out]
    · have e : rvI (bl s) = (0, 0) := rvI_none (fun n k hR => R_far (bl s) i hc (Or.inl (by omega)) hR)
      rw [e]
      refine Ev.step (f := fun k => impl_ReadVar.j1 k s (n : Int) (i : Int) false) (fun k => ?_) (Ev.step (f := fun _ => some (0, 0)) (fun k => ?_) (Ev.now _))
      · simp only [impl_ReadVar.l0]
        rw [if_neg (by omega)]
      · simp [impl_ReadVar.j1]
theorem impl_ReadVar_ev (s : ByteArray) (hs : s.size ≤ 140737488355327) : Ev (fun k => impl_ReadVar.f k s) (rvI (bl s)) := by
  unfold impl_ReadVar.f
  exact impl_ReadVar_loop s hs 7 0 0 (by omega) (by omega) (by intro j hj; omega) (by simp [val])

theorem impl_varAt_ev (s : ByteArray) (hs : s.size ≤ 140737488355327) (a : Nat) (ha : a ≤ s.size) : Ev (fun k => impl_varAt.f k s (a : Int)) (vA (bl s) a) := by
  unfold impl_varAt.f
  have h1 : 0 ≤ (a : Int) := by omega
  have h2 : (a : Int) ≤ (s.size : Int) := by omega
  simp only [h1, h2, if_true, Int.toNat_natCast]
  have hsz : (s.extract a s.size).size ≤ 140737488355327 := by rw [ByteArray.size_extract]; omega
  refine Ev.bind (impl_ReadVar_ev _ hsz) ?_
  rw [bl_from]
  unfold vA rvI
  cases hr : rv ((bl s).drop a) with
  | none => simp only [if_true]; exact Ev.now _
  | some p =>
    obtain ⟨n, k⟩ := p
    have hp := R_pos (rv_R hr)
    have hl := R_le (rv_R hr)
    simp only at hp hl
    rw [List.length_drop, bl_len] at hl
    have hne : ¬ ((k : Int) = 0) := by omega
    simp only [hne, if_false]
    rw [w64 (by omega) (by omega)]
    exact Ev.now _

theorem impl_termAt_list (s : ByteArray) (hs : s.size ≤ 140737488355327) (d : Nat) (hd : d ≤ 100) (n : Nat) (hn : n ≤ 12)
    (hf : ∀ a, a ≤ s.size → Ev (fun k => impl_termAt.f k s (a : Int) (d : Int)) (tA a (parse d ((bl s).drop a)))) (r : Nat) : ∀ (i a : Nat), i + r = n → a ≤ s.size →
    Ev (fun k => impl_termAt.l0 k s ((d + 1 : Nat) : Int) (n : Int) (a : Int) (i : Int)) (tA a (many (parse d) r ((bl s).drop a))) := by
  have hw : Aside0 (wrap64 (((d + 1 : Nat) : Int) - 1) = (d : Int)) := ⟨by rw [w64 (by omega) (by omega)]; omega⟩
  have bad : ∀ i : Int, Ev (fun k => impl_termAt.l0 k s ((d + 1 : Nat) : Int) (n : Int) (-1) i) (-1) := by
    intro i
    refine Ev.step (f := fun _ => some (-1)) (fun k => ?_) (Ev.now _)
    simp only [impl_termAt.l0]
    by_cases h : i < (n : Int)
    · rw [if_pos h, if_neg (by decide)]
    · rw [if_neg h]
  induction r with
  | zero =>
    intro i a hi ha
    refine Ev.step (f := fun _ => some ((a : Int))) (fun k => ?_) (ev_eq (Ev.now _) ?_)
    · simp only [impl_termAt.l0]; rw [if_neg (by omega)]
    · simp [many, tA]
  | succ r ih =>
    intro i a hi ha
    have hi1 : Aside0 (wrap64 ((i : Int) + 1) = ((i + 1 : Nat) : Int)) := ⟨by rw [w64 (by omega) (by omega)]; omega⟩
    refine Ev.step (f := fun k => (impl_termAt.f k s (a : Int) (d : Int)).bind fun t => impl_termAt.l0 k s ((d + 1 : Nat) : Int) (n : Int) t ((i + 1 : Nat) : Int)) (fun k => ?_) (Ev.bind (hf a ha) ?_)
    · simp only [impl_termAt.l0]; rw [if_pos (by omega), if_pos (by omega), hw.out, hi1.out]
    · rw [many_succ]
      cases hp : parse d ((bl s).drop a) with
      | none => exact bad _
      | some m =>
        have hle := (parse_le d _ _ hp).2
        rw [List.length_drop, bl_len] at hle
        have := ih (i + 1) (a + m) (by omega) (by omega)
        rw [← List.drop_drop, tA_add] at this
        exact this
theorem impl_termAt_ev (s : ByteArray) (hs : s.size ≤ 140737488355327) (d : Nat) : ∀ (a : Nat), d ≤ 100 → a ≤ s.size → Ev (fun k => impl_termAt.f k s (a : Int) (d : Int)) (tA a (parse d ((bl s).drop a))) := by
  have hl := bl_len s
  have dead : ∀ (a d : Int), Ev (fun k => impl_termAt.j0 k s a d true) (-1) := by
    intro a d
    refine Ev.step (f := fun _ => some (-1)) (fun k => ?_) (Ev.now _)
    simp [impl_termAt.j0]
  induction d with
  | zero =>
    intro a hd ha
    by_cases h : (a : Int) ≥ (s.size : Int)
    · refine Ev.step (fun k => ?_) (ev_eq (dead (a : Int) ((0 : Nat) : Int)) (by simp [parse, tA]))
      simp only [impl_termAt.f]; rw [if_pos h]
    · refine Ev.step (fun k => ?_) (ev_eq (dead (a : Int) ((0 : Nat) : Int)) (by simp [parse, tA]))
      simp only [impl_termAt.f]; rw [if_neg h, decide_eq_true (by decide)]
  | succ d ih =>
    intro a hd ha
    by_cases h : (a : Int) ≥ (s.size : Int)
    · refine Ev.step (fun k => ?_) (ev_eq (dead (a : Int) ((d + 1 : Nat) : Int)) ?_)
      · simp only [impl_termAt.f]; rw [if_pos h]
      · rw [List.drop_of_length_le (by omega), parse_nil]; rfl
    · have hlt : a < (bl s).length := by omega
      have hs1 : 0 ≤ (a : Int) := by omega
      have hs2 : (a : Int) < (s.size : Int) := by omega
      have ha1 : Aside0 (wrap64 ((a : Int) + 1) = ((a + 1 : Nat) : Int)) := ⟨by rw [w64 (by omega) (by omega)]; omega⟩
      have hd1 : Aside0 (wrap64 (((d + 1 : Nat) : Int) - 1) = (d : Int)) := ⟨by rw [w64 (by omega) (by omega)]; omega⟩
      have hv := impl_varAt_ev s hs (a + 1) (by omega)
      have hcons : (bl s).drop a = (bl s)[a] :: (bl s).drop (a + 1) := List.drop_eq_getElem_cons hlt
      have hstep : ∀ k, impl_termAt.f (k + 1) s (a : Int) ((d + 1 : Nat) : Int) = impl_termAt.j0 k s (a : Int) ((d + 1 : Nat) : Int) false := by
        intro k; simp only [impl_termAt.f]; rw [if_neg h, decide_eq_false (by omega)]
      refine Ev.step hstep ?_
      refine Ev.step (fun k => by simp only [impl_termAt.j0]; rw [if_neg (by decide), ha1.out]) (Ev.bind hv ?_)
      simp only [hs1, hs2, if_true, bt_get s a hlt, impl_within_eq, impl_isKey_eq, Option.bind_some]
      rw [hcons]
      generalize (bl s)[a] = c
      rw [parse]
      unfold vA
      cases hr : rv ((bl s).drop (a + 1)) with
      | none =>
        refine ev_of (fun k => ?_)
        simp [tA]
      | some p =>
        obtain ⟨n, k'⟩ := p
        have hR := rv_R hr
        have hk := R_le hR
        have hn9 := hR.1
        unfold MAXV at hn9
        simp only at hk hn9
        rw [List.length_drop, hl] at hk
        simp only []
        by_cases c1 : c = 97
        · subst c1
          simp only [if_true, List.length_drop, hl]
          by_cases c2 : n ≤ 40
          · have c2' : 0 ≤ (n : Int) ∧ (n : Int) ≤ 40 := by omega
            simp only [c2', decide_true, if_true, c2, true_and]
            rw [w64 (by omega) (by omega)]
            by_cases c3 : n ≤ s.size - (a + 1) - k'
            · rw [if_pos c3]
              have c3' : ¬ ((n : Int) > (s.size : Int) - ((a + 1 + k' : Nat) : Int)) := by omega
              simp only [c3', if_false]
              rw [w64 (by omega) (by omega)]
              refine ev_eq (Ev.now _) ?_
              simp [tA]; omega
            · rw [if_neg c3]
              have c3' : ((n : Int) > (s.size : Int) - ((a + 1 + k' : Nat) : Int)) := by omega
              simp only [c3', if_true]
              exact Ev.now _
          · have c2' : ¬ (0 ≤ (n : Int) ∧ (n : Int) ≤ 40) := by omega
            simp only [c2', decide_false, c2, false_and, if_false]
            exact Ev.now _
        · have c1' : ¬ ((c : Int) = 97) := by omega
          simp only [c1', c1, if_false]
          by_cases c4 : c = 107
          · subst c4
            simp only [if_true]
            by_cases c5 : 1 ≤ n ∧ n ≤ 1000000
            · have c5' : 1 ≤ (n : Int) ∧ (n : Int) ≤ 1000000 := by omega
              simp only [c5', c5, decide_true, if_true, and_self]
              refine ev_eq (Ev.now _) ?_
              simp [tA]; omega
            · have c5' : ¬ (1 ≤ (n : Int) ∧ (n : Int) ≤ 1000000) := by omega
              simp only [c5', c5, decide_false, if_false]
              exact Ev.now _
          · have c4' : ¬ ((c : Int) = 107) := by omega
            simp only [c4', c4, if_false]
            by_cases c6 : c = 108
            · subst c6
              simp only [if_true]
              by_cases c7 : n ≤ 12
              · have c7' : 0 ≤ (n : Int) ∧ (n : Int) ≤ 12 := by omega
                simp only [c7', decide_true, if_true, c7]
                have hL := impl_termAt_list s hs d (by omega) n c7 (fun a ha => ih a (by omega) ha) n 0 (a + 1 + k') (by omega) (by omega)
                rw [← List.drop_drop] at hL
                refine ev_eq hL ?_
                cases hq : many (parse d) n (((bl s).drop (a + 1)).drop k') with
                | none => rfl
                | some q => simp [tA]; omega
              · have c7' : ¬ (0 ≤ (n : Int) ∧ (n : Int) ≤ 12) := by omega
                simp only [c7', c7, decide_false, if_false]
                exact Ev.now _
            · have c6' : ¬ ((c : Int) = 108) := by omega
              simp only [c6', c6, if_false]
              by_cases c8 : c = 115
              · subst c8
                simp only [if_true]
                by_cases c5 : 1 ≤ n ∧ n ≤ 1000000
                · have c5' : 1 ≤ (n : Int) ∧ (n : Int) ≤ 1000000 := by omega
                  simp only [c5', c5, decide_true, if_true, and_self, hd1.out]
                  refine Ev.bind (ih (a + 1 + k') (by omega) (by omega)) ?_
                  rw [← List.drop_drop]
                  refine ev_eq (Ev.now _) ?_
                  cases hq : parse d (((bl s).drop (a + 1)).drop k') with
                  | none => rfl
                  | some q => simp [tA]; omega
                · have c5' : ¬ (1 ≤ (n : Int) ∧ (n : Int) ≤ 1000000) := by omega
                  simp only [c5', c5, decide_false, if_false]
                  exact Ev.now _
              · have c8' : ¬ ((c : Int) = 115) := by omega
                simp only [c8', c8, if_false]
                exact Ev.now _

theorem impl_TermOk_ev (s : ByteArray) (hs : s.size ≤ 140737488355327) : Ev (fun k => impl_TermOk.f k s) (termB (bl s)) := by
  have hl := bl_len s
  unfold impl_TermOk.f
  simp only [impl_within_eq, Option.bind_some]
  unfold termB
  by_cases h : 1 ≤ (s.size : Int) ∧ (s.size : Int) ≤ 900
  · simp only [h, decide_true, if_true, and_self]
    have ht := impl_termAt_ev s hs 8 0 (by decide) (by omega)
    refine Ev.bind ht (ev_eq (Ev.now _) ?_)
    rw [List.drop_zero, hl]
    have h1 : 1 ≤ s.size := by omega
    have h2 : s.size ≤ 900 := by omega
    cases hp : parse 8 (bl s) with
    | none => simp [tA]
    | some m => simp [tA, h1, h2]; rw [Bool.eq_iff_iff]; simp; omega
  · simp only [h, decide_false]
    refine ev_eq (Ev.now _) ?_
    rw [decide_eq_false]; rw [hl]; omega

theorem impl_term_ev (s : ByteArray) (hs : s.size ≤ 140737488355327) : Ev (fun k => impl_term.f k s) (termS s) := by
  unfold impl_term.f
  refine Ev.bind (impl_TermOk_ev s hs) ?_
  unfold termS okS
  by_cases h : termB (bl s) = true
  · simp only [h, if_true]; exact Ev.now _
  · simp only [h]; exact Ev.now _

theorem impl_List_loop (ps : List ByteArray) (hl : ps.length ≤ 1073741824) (d : Nat) : ∀ (i : Nat) (acc : ByteArray), i + d = ps.length → acc.size ≤ 1000 + 900 * i → (∀ p ∈ ps, p.size ≤ 1099511627776) →
    Ev (fun k => impl_List.l0 k acc ps (ps.length : Int) (i : Int)) (if (ps.drop i).all okS = true then termS (acc ++ cat (ps.drop i)) else ⟨#[]⟩) := by
  induction d with
  | zero =>
    intro i acc hi ha hp
    rw [List.drop_of_length_le (by omega)]
    have e : acc ++ cat [] = acc := ByteArray.append_empty
    simp only [List.all_nil, if_true, e]
    refine Ev.step (f := fun k => (impl_term.f k acc).bind fun t => some t) (fun k => ?_) (Ev.bind (impl_term_ev acc (by omega)) (Ev.now _))
    simp only [impl_List.l0]; rw [if_neg (by omega)]
  | succ d ih =>
    intro i acc hi ha hp
    have hlt : i < ps.length := by omega
    have hcons : ps.drop i = ps[i] :: ps.drop (i + 1) := List.drop_eq_getElem_cons hlt
    have hsz := hp _ (List.getElem_mem hlt)
    have hw : Aside0 (wrap64 ((i : Int) + 1) = ((i + 1 : Nat) : Int)) := ⟨by rw [w64 (by omega) (by omega)]; omega⟩
    refine Ev.step (f := fun k => (impl_TermOk.f k ps[i]).bind fun t => (if t = true then (if acc.size + ps[i].size ≤ 9223372036854775807 then impl_List.l0 k (acc ++ ps[i]) ps (ps.length : Int) ((i + 1 : Nat) : Int) else none) else some (⟨#[]⟩ : ByteArray))) (fun k => ?_) (Ev.bind (impl_TermOk_ev ps[i] (by omega)) ?_)
    · simp only [impl_List.l0]; rw [if_pos (by omega), if_pos (by omega), if_pos (by omega), rdOf_get ps i hlt, hw.out]
    · have ho : termB (bl ps[i]) = okS ps[i] := rfl
      rw [ho, hcons, List.all_cons, cat_cons]
      by_cases h : okS ps[i] = true
      · have h9 := (okS_size h).2
        have hr := ih (i + 1) (acc ++ ps[i]) (by omega) (by rw [ByteArray.size_append]; omega) hp
        have hle : acc.size + ps[i].size ≤ 9223372036854775807 := by omega
        rw [ByteArray.append_assoc] at hr
        simp only [h, hle, if_true, Bool.true_and]
        exact hr
      · have h' := Bool.eq_false_iff.mpr h
        rw [h', Bool.false_and]
        simp only [Bool.false_eq_true, if_false]
        exact Ev.now _
theorem impl_List_ev (ps : List ByteArray) (hl : ps.length ≤ 1073741824) (hp : ∀ p ∈ ps, p.size ≤ 1099511627776) : Ev (fun k => impl_List.f k ps) (listS ps) := by
  unfold impl_List.f
  refine Ev.bind (impl_Var_ev _) ?_
  have h7 := @var_size (ps.length : Int)
  have h1 : (⟨#[108]⟩ : ByteArray).size = 1 := rfl
  have a1 : 1 + (varS (ps.length : Int)).size ≤ 9223372036854775807 := by omega
  simp only [a1, if_true]
  refine ev_eq (impl_List_loop ps hl ps.length 0 ((⟨#[108]⟩ : ByteArray) ++ varS (ps.length : Int)) (by omega) (by rw [ByteArray.size_append]; omega) hp) ?_
  unfold listS rawL
  rw [List.drop_zero]
  by_cases h : ps.all okS = true
  · rw [if_pos h]
    by_cases h12 : ps.length ≤ 12
    · rw [if_pos ⟨h12, h⟩]
    · rw [if_neg (fun e => h12 e.1)]
      unfold termS
      rw [list_long (by omega) (by unfold MAXV; omega), if_neg (by decide)]
  · rw [if_neg h, if_neg (fun e => h e.2)]

theorem impl_Atom_ev (d : ByteArray) (hd : d.size ≤ 1000000000) : Ev (fun k => impl_Atom.f k d) (atomS d) := by
  unfold impl_Atom.f
  refine Ev.bind (impl_Var_ev _) ?_
  have h7 := @var_size (d.size : Int)
  have h1 : (⟨#[97]⟩ : ByteArray).size = 1 := rfl
  have a1 : 1 + (varS (d.size : Int)).size ≤ 9223372036854775807 := by omega
  have a2 : ((⟨#[97]⟩ : ByteArray) ++ varS (d.size : Int)).size + d.size ≤ 9223372036854775807 := by rw [ByteArray.size_append]; omega
  simp only [a1, a2, if_true]
  refine Ev.bind (impl_term_ev _ (by rw [ByteArray.size_append, ByteArray.size_append]; omega)) (ev_eq (Ev.now _) rfl)

theorem impl_Num_ev (n : Int) : Ev (fun k => impl_Num.f k n) (numS n) := by
  unfold impl_Num.f
  refine Ev.bind (impl_Var_ev n) ?_
  unfold numS
  simp only [toList_nil]
  by_cases h : varS n = (⟨#[]⟩ : ByteArray)
  · simp only [h, if_true]; exact Ev.now _
  · simp only [h, if_false]
    have := @var_size n
    exact Ev.bind (impl_Atom_ev _ (by omega)) (ev_eq (Ev.now _) rfl)

theorem listS_long {ps : List ByteArray} (h : 12 < ps.length) : listS ps = (⟨#[]⟩ : ByteArray) := by unfold listS; rw [if_neg (fun e => by omega)]
theorem impl_Nums_loop (l : List Int) (hl : l.length ≤ 1073741824) (d : Nat) : ∀ (i : Nat), i + d = l.length →
    Ev (fun k => impl_Nums.l0 k ((l.take i).map numS) l (l.length : Int) (i : Int)) (if ((l.drop i).all fun n => decide (0 ≤ n ∧ n ≤ 562949953421311)) = true then listS (l.map numS) else ⟨#[]⟩) := by
  induction d with
  | zero =>
    intro i hi
    rw [List.drop_of_length_le (by omega), List.take_of_length_le (by omega)]
    simp only [List.all_nil, if_true]
    refine Ev.step (f := fun k => (impl_List.f k (l.map numS)).bind fun t => some t) (fun k => ?_) (Ev.bind (impl_List_ev _ (by rw [List.length_map]; omega) (fun p hp => ?_)) (Ev.now _))
    · simp only [impl_Nums.l0]; rw [if_neg (by omega)]
    · obtain ⟨n, _, rfl⟩ := List.mem_map.mp hp
      have := numS_size n; omega
  | succ d ih =>
    intro i hi
    have hlt : i < l.length := by omega
    have hcons : l.drop i = l[i] :: l.drop (i + 1) := List.drop_eq_getElem_cons hlt
    have hw : Aside0 (wrap64 ((i : Int) + 1) = ((i + 1 : Nat) : Int)) := ⟨by rw [w64 (by omega) (by omega)]; omega⟩
    refine Ev.step (f := fun k => (impl_Num.f k l[i]).bind fun t => (if t.toList = ([] : List UInt8) then some (⟨#[]⟩ : ByteArray) else (if ((l.take i).map numS).length < 8796093022208 then impl_Nums.l0 k ((l.take i).map numS ++ [t]) l (l.length : Int) ((i + 1 : Nat) : Int) else none))) (fun k => ?_) (Ev.bind (impl_Num_ev l[i]) ?_)
    · simp only [impl_Nums.l0]; rw [if_pos (by omega), if_pos (by omega), if_pos (by omega), rd_get l i hlt, hw.out]
    · simp only [toList_nil]
      rw [hcons, List.all_cons]
      by_cases h : 0 ≤ l[i] ∧ l[i] ≤ 562949953421311
      · have hne := (numS_in h).2.2
        have hr := ih (i + 1) (by omega)
        have hlen : ((l.take i).map numS).length < 8796093022208 := by rw [List.length_map, List.length_take]; omega
        simp only [hne, hlen, if_false, if_true]
        rw [decide_eq_true h, Bool.true_and]
        rw [List.take_succ_eq_append_getElem hlt, List.map_append] at hr
        exact hr
      · rw [decide_eq_false h, Bool.false_and, numS_out h]
        simp only [Bool.false_eq_true, if_true, if_false]
        exact Ev.now _
theorem impl_Nums_ev (l : List Int) (hl : l.length ≤ 1073741824) : Ev (fun k => impl_Nums.f k l) (numsS l) := by
  unfold impl_Nums.f
  refine ev_eq (impl_Nums_loop l hl l.length 0 (by omega)) ?_
  unfold numsS
  rw [List.drop_zero]
  by_cases h : (l.all fun n => decide (0 ≤ n ∧ n ≤ 562949953421311)) = true
  · rw [if_pos h]
    by_cases h12 : l.length ≤ 12
    · rw [if_pos ⟨h12, h⟩]
    · rw [if_neg (fun e => h12 e.1), listS_long (by rw [List.length_map]; omega)]
  · rw [if_neg h, if_neg (fun e => h e.2)]

theorem impl_isTime_eq (a : Int) : impl_isTime.f a = some (decide (0 ≤ a ∧ a ≤ 100000)) := by
  unfold impl_isTime.f; rw [impl_within_eq, Option.bind_some]

theorem impl_RestOk_eq (s o e : Int) : impl_RestOk.f s o e = some (restB s o e) := by
  unfold impl_RestOk.f restB
  simp only [impl_within_eq, impl_isTime_eq, Option.bind_some]
  by_cases h1 : 0 ≤ s ∧ s ≤ 7 <;> by_cases h2 : 0 ≤ o ∧ o ≤ 255 <;> simp [h1, h2]

theorem impl_ShowRest_ev (s o e : Int) : Ev (fun k => impl_ShowRest.f k s o e) (srS s o e) := by
  unfold impl_ShowRest.f srS
  simp only [impl_RestOk_eq, Option.bind_some]
  by_cases h : restB s o e = true
  · simp only [h, if_true]
    exact Ev.bind (impl_Nums_ev _ (by simp)) (Ev.now _)
  · simp only [h]
    exact Ev.now _

theorem FnExactShowRest : ∀ (a0_0 : Int) (a0_1 : Int) (a0_2 : Int), (Lit.int .i64 a0_0).wf = true → (Lit.int .i64 a0_1).wf = true → (Lit.int .i64 a0_2).wf = true → ∃ k, laws_FnExactShowRest.f k a0_0 a0_1 a0_2 = some true := by
  intro s o e _ _ _
  apply Ev.rounds
  unfold laws_FnExactShowRest.f laws_toRest.f
  simp only [Option.bind_some]
  refine Ev.bind (spec_ShowRest_ev s o e) (Ev.bind (impl_ShowRest_ev s o e) ?_)
  simp only [if_true]
  exact Ev.now _

end Go.Proofs.Ytfgcgfioachocaa.Pure
