/- Learning more takes nothing away; what can be put together can be learned without coming to more keys; what is known stays right: for all codes. -/
import Derived.Test.YthlpfghlildllaaOFnKnownx18
import Derived.Test.YthlpfghlildllaaBase
import Derived.Test.YthlpfghlildllaaTerms
import Derived.Test.YthlpfghlildllaaDraws
import Derived.Test.YthlpfghlildllaaRounds
import Derived.Test.YthlpfghlildllaaRests
import Derived.Test.YthlpfghlildllaaBaseTick
namespace Go.Proofs.Ythlpfghlildllaa.Pure
open Go.RowKit Go.Proofs.Ythlpfghlildllaa.OFnKnown Go.Proofs.YthlpfghlildllaaW.PrintWords Go.Proofs.YthlpfghlildllaaW.PrintLast Go.Proofs.YthlpfghlildllaaW.PrintMore Go.Proofs.Ythlpfghlildllaa.Base Go.Proofs.Ythlpfghlildllaa.OWord
set_option linter.unusedVariables false
set_option linter.unusedSimpArgs false
theorem laws_big_eq (l : List Int) : laws_big.f l = some (decide ((l.length : Int) > 1048576)) := rfl

theorem spec_l1In_eq (a lo hi : Int) : spec_l1In.f a lo hi = some (decide (lo ≤ a ∧ a ≤ hi)) := by
  unfold spec_l1In.f
  by_cases h : a ≥ lo
  · rw [if_pos h]; congr 1; simp [show lo ≤ a from h]
  · rw [if_neg h]; congr 1; simp [show ¬ lo ≤ a from h]

theorem spec_Var_loop (j : Nat) : ∀ (n : Nat) (acc : List Int), n < 128 ^ (j + 1) → n ≤ MAXV → acc.length + j < 1000 →
    Ev (fun k => spec_Var.l0 k (n : Int) acc) (strOfNums (acc ++ (var n).map fun (m : Nat) => (m : Int))) := by
  have e128 : ((128 : Nat) : Int) = 128 := rfl
  induction j with
  | zero =>
    intro n acc hn hm ha
    have hn' : n < 128 := by simpa using hn
    refine Ev.step (f := fun _ => some (strOfNums (acc ++ (var n).map fun (m : Nat) => (m : Int)))) (fun k => ?_) (Ev.now _)
    simp only [spec_Var.l0]
    rw [if_neg (by omega), if_pos (by omega), var_small hn', show (n : Int) % 256 = (n : Int) by omega]; rfl
  | succ j ih =>
    intro n acc hn hm ha
    unfold MAXV at hm
    by_cases h : n < 128
    · refine Ev.step (f := fun _ => some (strOfNums (acc ++ (var n).map fun (m : Nat) => (m : Int)))) (fun k => ?_) (Ev.now _)
      simp only [spec_Var.l0]
      rw [if_neg (by omega), if_pos (by omega), var_small h, show (n : Int) % 256 = (n : Int) by omega]; rfl
    · have hd : n / 128 < 128 ^ (j + 1) := Nat.div_lt_of_lt_mul (by rw [Nat.pow_succ] at hn; omega)
      have hr := ih (n / 128) (acc ++ [((n % 128 + 128 : Nat) : Int)]) hd (by unfold MAXV; omega) (by simp; omega)
      refine Ev.step (f := fun k => spec_Var.l0 k ((n / 128 : Nat) : Int) (acc ++ [((n % 128 + 128 : Nat) : Int)])) (fun k => ?_) (ev_eq hr ?_)
      · simp only [spec_Var.l0]
        rw [if_pos (by omega), if_pos (by omega), ← e128, tdivN, tmodN, w64 (by omega) (by omega), w64 (by omega) (by omega)]
        have e : (((128 : Nat) : Int) + ((n % 128 : Nat) : Int)) % 256 = ((n % 128 + 128 : Nat) : Int) := by omega
        rw [e]
      · rw [var_big h, List.map_cons, List.append_assoc]; rfl
theorem spec_Var_ev (n : Int) : Ev (fun k => spec_Var.f k n) (varS n) := by
  unfold spec_Var.f
  simp only [spec_l1In_eq, Option.bind_some]
  by_cases h : 0 ≤ n ∧ n ≤ 562949953421311
  · simp only [h, decide_true, if_true]
    obtain ⟨m, rfl⟩ := Int.eq_ofNat_of_zero_le h.1
    have hm : m ≤ MAXV := by unfold MAXV; omega
    refine ev_eq (spec_Var_loop 6 m [] (by unfold MAXV at hm; omega) hm (by simp)) ?_
    rw [varS_in hm]; rfl
  · simp only [h, decide_false]
    rw [varS_out h]
    exact Ev.now _

theorem spec_ReadVar_inner (s : ByteArray) (hs : s.size ≤ 140737488355327) (kk : Nat) (h1 : 1 ≤ kk) (h7 : kk ≤ 7) (hkl : kk ≤ (bl s).length) {q : Int × Int} (hq : Ev (fun k => (spec_Var.f k ((val ((bl s).take kk) : Nat) : Int)).bind fun t111 => (if 0 ≤ (kk : Int) then (if (kk : Int) ≤ (s.size : Int) then (if t111.toList = (s.extract 0 (kk : Int).toNat).toList then (some (((val ((bl s).take kk) : Nat) : Int), (kk : Int))) else (spec_ReadVar.l0 k s (wrap64 ((kk : Int) + 1)))) else (none)) else (none))) q) (d : Nat) : ∀ (x : Int), d ≤ kk → x = (d : Int) - 1 →
    Ev (fun k => spec_ReadVar.l1 k s (kk : Int) ((val (((bl s).take kk).drop d) : Nat) : Int) x) q := by
  have hl := bl_len s
  induction d with
  | zero =>
    intro x hd hx
    subst hx
    rw [List.drop_zero]
    refine Ev.step (fun k => ?_) hq
    simp only [spec_ReadVar.l1]
    rw [if_neg (by omega)]
  | succ d ih =>
    intro x hd hx
    have hd' : d < (bl s).length := by omega
    have hb : bt s (d : Int) = (((bl s)[d] : Nat) : Int) := bt_get s d hd'
    have hb256 : (bl s)[d] < 256 := bl_lt s _ (List.getElem_mem hd')
    have hx' : x = (d : Int) := by omega
    subst hx'
    have hlen : ((bl s).take kk).length = kk := by rw [List.length_take]; omega
    have hdrop : ((bl s).take kk).drop d = (bl s)[d] :: ((bl s).take kk).drop (d + 1) := by
      rw [List.drop_eq_getElem_cons (by omega), List.getElem_take]
    have hval : val (((bl s).take kk).drop d) = (bl s)[d] % 128 + 128 * val (((bl s).take kk).drop (d + 1)) := by rw [hdrop]; rfl
    have hlt := val_lt (((bl s).take kk).drop (d + 1))
    rw [List.length_drop, hlen] at hlt
    have hp := pow_le7 (kk - (d + 1)) (by omega)
    have e128 : ((128 : Nat) : Int) = 128 := rfl
    refine Ev.step (fun k => ?_) (ih ((d : Int) - 1) (by omega) rfl)
    simp only [spec_ReadVar.l1]
    rw [if_pos (by omega), if_pos (by omega), if_pos (by omega), hb, w64 (x := (((bl s)[d] : Nat) : Int)) (by omega) (by omega), ← e128, tmodN, w64 (x := _ * ((128 : Nat) : Int)) (by omega) (by omega), w64 (x := _ + _) (by omega) (by omega), w64 (x := _ - 1) (by omega) (by omega)]
    rw [hval]
    congr 1
    omega
theorem spec_ReadVar_loop (s : ByteArray) (hs : s.size ≤ 140737488355327) (d : Nat) : ∀ (kk : Nat), kk + d = 8 → 1 ≤ kk → (∀ n j, j < kk → ¬ R (bl s) n j) →
    Ev (fun k => spec_ReadVar.l0 k s (kk : Int)) (rvI (bl s)) := by
  have hl := bl_len s
  induction d with
  | zero =>
    intro kk hk h1 hno
    have e : rvI (bl s) = (0, 0) := rvI_none (fun n k hR => hno n k (by have := R_seven hR; omega) hR)
    rw [e]
    refine Ev.step (f := fun k => spec_ReadVar.j1 k s (kk : Int) false) (fun k => ?_) (Ev.step (f := fun _ => some (0, 0)) (fun k => ?_) (Ev.now _))
    · simp only [spec_ReadVar.l0]; rw [if_neg (by omega)]
    · simp [spec_ReadVar.j1]
  | succ d ih =>
    intro kk hk h1 hno
    by_cases h : kk ≤ (bl s).length
    · have hmax : val ((bl s).take kk) ≤ MAXV := by
        have := val_lt ((bl s).take kk)
        rw [List.length_take, Nat.min_eq_left h] at this
        have hp : 128 ^ kk ≤ 128 ^ 7 := Nat.pow_le_pow_right (by decide) (by omega)
        have : (128 : Nat) ^ 7 = 562949953421312 := by decide
        unfold MAXV; omega
      have hin : Ev (fun k => (spec_Var.f k ((val ((bl s).take kk) : Nat) : Int)).bind fun t111 => (if 0 ≤ (kk : Int) then (if (kk : Int) ≤ (s.size : Int) then (if t111.toList = (s.extract 0 (kk : Int).toNat).toList then (some (((val ((bl s).take kk) : Nat) : Int), (kk : Int))) else (spec_ReadVar.l0 k s (wrap64 ((kk : Int) + 1)))) else (none)) else (none))) (rvI (bl s)) := by
        refine Ev.bind (spec_Var_ev _) ?_
        simp only [show (0 : Int) ≤ (kk : Int) by omega, show (kk : Int) ≤ (s.size : Int) by omega, if_true, toList_iff, Int.toNat_natCast]
        by_cases hR : R (bl s) (val ((bl s).take kk)) kk
        · have := (R_iff s _ kk hmax (by omega)).2 hR
          simp only [this, if_true]
          rw [rvI_some hR]
          exact Ev.now _
        · have hne : ¬ varS ((val ((bl s).take kk) : Nat) : Int) = s.extract 0 kk := fun e => hR ((R_iff s _ kk hmax (by omega)).1 e)
          simp only [hne, if_false]
          have hw : Aside0 (wrap64 ((kk : Int) + 1) = ((kk + 1 : Nat) : Int)) := ⟨by rw [w64 (by omega) (by omega)]; omega⟩
          rw [hw.out]
          refine ih (kk + 1) (by omega) (by omega) (fun n j hj hRj => ?_)
          by_cases hjk : j < kk
          · exact hno n j hjk hRj
          · have : j = kk := by omega
            subst this
            rw [← R_val hRj] at hRj
            exact hR hRj
      have hout := spec_ReadVar_inner s hs kk h1 (by omega) h hin kk ((kk : Int) - 1) (Nat.le_refl _) rfl
      rw [List.drop_of_length_le (by rw [List.length_take]; omega)] at hout
      refine Ev.step (f := fun k => spec_ReadVar.j1 k s (kk : Int) true) (fun k => ?_) (Ev.step (fun k => ?_) hout)
      · simp only [spec_ReadVar.l0]; rw [if_pos (by omega), decide_eq_true (by omega)]
      · simp only [spec_ReadVar.j1, if_true]; rw [w64 (by omega) (by omega)]; rfl
    · have e : rvI (bl s) = (0, 0) := rvI_none (fun n k hR => hno n k (by have := R_le hR; omega) hR)
      rw [e]
      refine Ev.step (f := fun k => spec_ReadVar.j1 k s (kk : Int) false) (fun k => ?_) (Ev.step (f := fun _ => some (0, 0)) (fun k => ?_) (Ev.now _))
      · simp only [spec_ReadVar.l0]
        by_cases h7 : (kk : Int) ≤ 7
        · rw [if_pos h7, decide_eq_false (by omega)]
        · rw [if_neg h7]
      · simp [spec_ReadVar.j1]
theorem spec_ReadVar_ev (s : ByteArray) (hs : s.size ≤ 140737488355327) : Ev (fun k => spec_ReadVar.f k s) (rvI (bl s)) := by
  unfold spec_ReadVar.f
  exact spec_ReadVar_loop s hs 7 1 (by omega) (by omega) (fun n j hj hR => by have := R_pos hR; omega)

theorem spec_l2Term_list (s : ByteArray) (hs : s.size ≤ 140737488355327) (d : Nat) (hd : d ≤ 100) (n : Nat) (hn : n ≤ 12) (a0 : Nat) (ha0 : a0 ≤ s.size)
    (hf : ∀ a, a ≤ s.size → ∃ dp : Int, Ev (fun k => spec_l2Term.f k s (a : Int) (d : Int)) (pI (parse d ((bl s).drop a)), dp) ∧ 0 ≤ dp ∧ dp ≤ d) (r : Nat) : ∀ (i a : Nat) (deep : Int), i + r = n → a ≤ s.size → a0 ≤ a → 0 ≤ deep → deep ≤ d →
    ∃ dp : Int, Ev (fun k => spec_l2Term.l0 k s (a0 : Int) ((d + 1 : Nat) : Int) (n : Int) (a : Int) deep (i : Int)) (eI a0 a (many (parse d) r ((bl s).drop a)), dp) ∧ 0 ≤ dp ∧ dp ≤ d + 1 := by
  have hw : Aside0 (wrap64 (((d + 1 : Nat) : Int) - 1) = (d : Int)) := ⟨by rw [w64 (by omega) (by omega)]; omega⟩
  induction r with
  | zero =>
    intro i a deep hi ha haa h0 h1
    refine ⟨1 + deep, Ev.step (f := fun _ => some (((a - a0 : Nat) : Int), 1 + deep)) (fun k => ?_) (ev_eq (Ev.now _) ?_), by omega, by omega⟩
    · simp only [spec_l2Term.l0]
      rw [if_neg (by omega), w64 (x := _ - _) (by omega) (by omega), w64 (x := 1 + _) (by omega) (by omega)]
      congr 2; omega
    · rfl
  | succ r ih =>
    intro i a deep hi ha haa h0 h1
    have hi1 : Aside0 (wrap64 ((i : Int) + 1) = ((i + 1 : Nat) : Int)) := ⟨by rw [w64 (by omega) (by omega)]; omega⟩
    obtain ⟨dp, hdp, hd0, hd1⟩ := hf a ha
    have hstep : ∀ k, spec_l2Term.l0 (k + 1) s (a0 : Int) ((d + 1 : Nat) : Int) (n : Int) (a : Int) deep (i : Int) = (spec_l2Term.f k s (a : Int) (d : Int)).bind fun bt118 => (if bt118.1 = 0 then (some (0, 0)) else (if bt118.2 > deep then (spec_l2Term.l0 k s (a0 : Int) ((d + 1 : Nat) : Int) (n : Int) (wrap64 ((a : Int) + bt118.1)) bt118.2 ((i + 1 : Nat) : Int)) else (spec_l2Term.l0 k s (a0 : Int) ((d + 1 : Nat) : Int) (n : Int) (wrap64 ((a : Int) + bt118.1)) deep ((i + 1 : Nat) : Int)))) := by
      intro k
      simp only [spec_l2Term.l0]; rw [if_pos (by omega), hw.out, hi1.out]
    rw [many_succ]
    cases hp : parse d ((bl s).drop a) with
    | none =>
      rw [hp] at hdp
      refine ⟨0, Ev.step hstep (Ev.bind hdp ?_), by omega, by omega⟩
      simp only [pI, if_true]
      exact Ev.now _
    | some m =>
      rw [hp] at hdp
      have hle := parse_le d _ _ hp
      rw [List.length_drop, bl_len] at hle
      have hm : ¬ ((m : Int) = 0) := by omega
      have hw2 : Aside0 (wrap64 ((a : Int) + (m : Int)) = ((a + m : Nat) : Int)) := ⟨by rw [w64 (by omega) (by omega)]; omega⟩
      have tail : ∀ deep', 0 ≤ deep' → deep' ≤ (d : Int) → ∃ dp : Int, Ev (fun k => spec_l2Term.l0 k s (a0 : Int) ((d + 1 : Nat) : Int) (n : Int) ((a + m : Nat) : Int) deep' ((i + 1 : Nat) : Int)) (eI a0 a (addO m (many (parse d) r (((bl s).drop a).drop m))), dp) ∧ 0 ≤ dp ∧ dp ≤ d + 1 := by
        intro deep' h0' h1'
        obtain ⟨dp', he, h⟩ := ih (i + 1) (a + m) deep' (by omega) (by omega) (by omega) h0' h1'
        rw [← List.drop_drop, eI_add] at he
        exact ⟨dp', he, h⟩
      by_cases hc : dp > deep
      · obtain ⟨dp', he, h⟩ := tail dp hd0 hd1
        refine ⟨dp', Ev.step hstep (Ev.bind hdp ?_), h⟩
        simp only [pI, hm, if_false, hc, if_true, hw2.out]
        exact he
      · obtain ⟨dp', he, h⟩ := tail deep h0 h1
        refine ⟨dp', Ev.step hstep (Ev.bind hdp ?_), h⟩
        simp only [pI, hm, if_false, hc, hw2.out]
        exact he
theorem spec_l2Term_ev (s : ByteArray) (hs : s.size ≤ 140737488355327) (d : Nat) : ∀ (a : Nat), d ≤ 100 → a ≤ s.size → ∃ dp : Int, Ev (fun k => spec_l2Term.f k s (a : Int) (d : Int)) (pI (parse d ((bl s).drop a)), dp) ∧ 0 ≤ dp ∧ dp ≤ d := by
  have hl := bl_len s
  have dead : ∀ (a d : Int), Ev (fun k => spec_l2Term.j0 k s a d true) (0, 0) := by
    intro a d
    refine Ev.step (f := fun _ => some (0, 0)) (fun k => ?_) (Ev.now _)
    simp [spec_l2Term.j0]
  induction d with
  | zero =>
    intro a hd ha
    by_cases h : (a : Int) ≥ (s.size : Int)
    · refine ⟨0, Ev.step (fun k => ?_) (ev_eq (dead (a : Int) ((0 : Nat) : Int)) (by simp [parse, pI])), by omega, by omega⟩
      simp only [spec_l2Term.f]; rw [if_pos h]
    · refine ⟨0, Ev.step (fun k => ?_) (ev_eq (dead (a : Int) ((0 : Nat) : Int)) (by simp [parse, pI])), by omega, by omega⟩
      simp only [spec_l2Term.f]; rw [if_neg h, decide_eq_true (by decide)]
  | succ d ih =>
    intro a hd ha
    by_cases h : (a : Int) ≥ (s.size : Int)
    · refine ⟨0, Ev.step (fun k => ?_) (ev_eq (dead (a : Int) ((d + 1 : Nat) : Int)) ?_), by omega, by omega⟩
      · simp only [spec_l2Term.f]; rw [if_pos h]
      · rw [List.drop_of_length_le (by omega), parse_nil]; rfl
    · have hlt : a < (bl s).length := by omega
      have hs1 : 0 ≤ (a : Int) := by omega
      have hs2 : (a : Int) < (s.size : Int) := by omega
      have ha1 : Aside0 (wrap64 ((a : Int) + 1) = ((a + 1 : Nat) : Int)) := ⟨by rw [w64 (by omega) (by omega)]; omega⟩
      have ha0 : 0 ≤ ((a + 1 : Nat) : Int) := by omega
      have ha2 : ((a + 1 : Nat) : Int) ≤ (s.size : Int) := by omega
      have hd1 : Aside0 (wrap64 (((d + 1 : Nat) : Int) - 1) = (d : Int)) := ⟨by rw [w64 (by omega) (by omega)]; omega⟩
      have hsz : (s.extract (a + 1) s.size).size ≤ 140737488355327 := by rw [ByteArray.size_extract]; omega
      have hv := spec_ReadVar_ev (s.extract (a + 1) s.size) hsz
      rw [bl_from] at hv
      have hcons : (bl s).drop a = (bl s)[a] :: (bl s).drop (a + 1) := List.drop_eq_getElem_cons hlt
      have hstep : ∀ k, spec_l2Term.f (k + 1) s (a : Int) ((d + 1 : Nat) : Int) = spec_l2Term.j0 k s (a : Int) ((d + 1 : Nat) : Int) false := by
        intro k; simp only [spec_l2Term.f]; rw [if_neg h, decide_eq_false (by omega)]
      suffices hh : ∃ dp : Int, Ev (fun k => spec_l2Term.j0 k s (a : Int) ((d + 1 : Nat) : Int) false) (pI (parse (d + 1) ((bl s).drop a)), dp) ∧ 0 ≤ dp ∧ dp ≤ ((d + 1 : Nat) : Int) by
        obtain ⟨dp, he, h⟩ := hh
        exact ⟨dp, Ev.step hstep he, h⟩
      have hbind : ∀ (q : Int × Int) (F : Nat → Int × Int → Option (Int × Int)), (∀ k, spec_l2Term.j0 (k + 1) s (a : Int) ((d + 1 : Nat) : Int) false = (spec_ReadVar.f k (s.extract (a + 1) s.size)).bind (F k)) → Ev (fun k => F k (rvI ((bl s).drop (a + 1)))) q → Ev (fun k => spec_l2Term.j0 k s (a : Int) ((d + 1 : Nat) : Int) false) q :=
        fun q F h1 h2 => Ev.step h1 (Ev.bind hv h2)
      rw [hcons]
      have hbt := bt_get s a hlt
      generalize hcc : (bl s)[a] = c at hbt
      rw [parse]
      cases hr : rv ((bl s).drop (a + 1)) with
      | none =>
        refine ⟨0, hbind _ _ (fun k => by simp only [spec_l2Term.j0]; rw [if_neg (by decide), ha1.out, if_pos ha0, if_pos ha2]; rfl) ?_, by omega, by omega⟩
        unfold rvI; rw [hr]
        simp only [if_true]
        exact Ev.now _
      | some p =>
        obtain ⟨n, k'⟩ := p
        have hR := rv_R hr
        have hk := R_le hR
        have hk0 := R_pos hR
        have hn9 := hR.1
        unfold MAXV at hn9
        simp only at hk hn9 hk0
        rw [List.length_drop, hl] at hk
        have hk0' : ¬ ((k' : Int) = 0) := by omega
        simp only []
        have hwk : Aside0 (wrap64 (((a + 1 : Nat) : Int) + (k' : Int)) = ((a + 1 + k' : Nat) : Int)) := ⟨by rw [w64 (by omega) (by omega)]; omega⟩
        by_cases c1 : c = 97
        · subst c1
          rw [if_pos rfl, List.length_drop, hl]
          by_cases c2 : n ≤ 40
          · by_cases c3 : n ≤ s.size - (a + 1) - k'
            · rw [if_pos ⟨c2, c3⟩]
              refine ⟨1, hbind _ _ (fun k => by simp only [spec_l2Term.j0]; rw [if_neg (by decide), ha1.out, if_pos ha0, if_pos ha2]; rfl) ?_, by omega, by omega⟩
              unfold rvI; rw [hr]
              simp only [hk0', hs1, hs2, hbt, if_true, if_false, hwk.out]
              have c2' : ¬ ((n : Int) > 40) := by omega
              have c3' : ¬ ((n : Int) > wrap64 ((s.size : Int) - ((a + 1 + k' : Nat) : Int))) := by rw [w64 (by omega) (by omega)]; omega
              have e : Aside0 (wrap64 (wrap64 (1 + (k' : Int)) + (n : Int)) = ((1 + k' + n : Nat) : Int)) := ⟨by rw [w64 (x := 1 + (k' : Int)) (by omega) (by omega), w64 (by omega) (by omega)]; omega⟩
              simp only [c2', c3', if_false, e.out, show (((97 : Nat) : Int) = 97) from rfl, if_true]
              exact Ev.now _
            · rw [if_neg (fun e => c3 e.2)]
              refine ⟨0, hbind _ _ (fun k => by simp only [spec_l2Term.j0]; rw [if_neg (by decide), ha1.out, if_pos ha0, if_pos ha2]; rfl) ?_, by omega, by omega⟩
              unfold rvI; rw [hr]
              simp only [hk0', hs1, hs2, hbt, if_true, if_false, hwk.out]
              have c2' : ¬ ((n : Int) > 40) := by omega
              have c3' : ((n : Int) > wrap64 ((s.size : Int) - ((a + 1 + k' : Nat) : Int))) := by rw [w64 (by omega) (by omega)]; omega
              simp only [c2', c3', if_false, show (((97 : Nat) : Int) = 97) from rfl, if_true]
              exact Ev.now _
          · rw [if_neg (fun e => c2 e.1)]
            refine ⟨0, hbind _ _ (fun k => by simp only [spec_l2Term.j0]; rw [if_neg (by decide), ha1.out, if_pos ha0, if_pos ha2]; rfl) ?_, by omega, by omega⟩
            unfold rvI; rw [hr]
            simp only [hk0', hs1, hs2, hbt, if_true, if_false]
            have c2' : ((n : Int) > 40) := by omega
            simp only [c2', show (((97 : Nat) : Int) = 97) from rfl, if_true]
            exact Ev.now _
        · have c1' : ¬ ((c : Int) = 97) := by omega
          rw [if_neg c1]
          by_cases c4 : c = 107
          · subst c4
            rw [if_pos rfl]
            by_cases c5 : 1 ≤ n ∧ n ≤ 1000000
            · have c5' : 1 ≤ (n : Int) ∧ (n : Int) ≤ 1000000 := by omega
              refine ⟨1, hbind _ _ (fun k => by simp only [spec_l2Term.j0]; rw [if_neg (by decide), ha1.out, if_pos ha0, if_pos ha2]; rfl) ?_, by omega, by omega⟩
              unfold rvI; rw [hr, if_pos c5]
              have e : Aside0 (wrap64 (1 + (k' : Int)) = ((1 + k' : Nat) : Int)) := ⟨by rw [w64 (by omega) (by omega)]; omega⟩
              simp only [hk0', hs1, hs2, hbt, if_true, if_false, c1', show (((107 : Nat) : Int) = 107) from rfl, spec_l1In_eq, Option.bind_some, c5', decide_true, e.out, and_self]
              exact Ev.now _
            · have c5' : ¬ (1 ≤ (n : Int) ∧ (n : Int) ≤ 1000000) := by omega
              refine ⟨0, hbind _ _ (fun k => by simp only [spec_l2Term.j0]; rw [if_neg (by decide), ha1.out, if_pos ha0, if_pos ha2]; rfl) ?_, by omega, by omega⟩
              unfold rvI; rw [hr, if_neg c5]
              simp only [hk0', hs1, hs2, hbt, if_true, if_false, c1', show (((107 : Nat) : Int) = 107) from rfl, spec_l1In_eq, Option.bind_some, c5', decide_false]
              exact Ev.now _
          · have c4' : ¬ ((c : Int) = 107) := by omega
            rw [if_neg c4]
            by_cases c6 : c = 108
            · subst c6
              rw [if_pos rfl]
              by_cases c7 : n ≤ 12
              · have c7' : ¬ ((n : Int) > 12) := by omega
                obtain ⟨dp, hL, h0, h1⟩ := spec_l2Term_list s hs d (by omega) n c7 a ha (fun a ha => ih a (by omega) ha) n 0 (a + 1 + k') 0 (by omega) (by omega) (by omega) (by omega) (by omega)
                rw [← List.drop_drop] at hL
                refine ⟨dp, hbind _ _ (fun k => by simp only [spec_l2Term.j0]; rw [if_neg (by decide), ha1.out, if_pos ha0, if_pos ha2]; rfl) ?_, h0, by omega⟩
                unfold rvI; rw [hr, if_pos c7]
                simp only [hk0', hs1, hs2, hbt, if_true, if_false, c1', c4', c7', show (((108 : Nat) : Int) = 108) from rfl, show ¬ (((108 : Nat) : Int) = 115) by omega, hwk.out]
                refine ev_eq hL ?_
                cases hq : many (parse d) n (((bl s).drop (a + 1)).drop k') with
                | none => rfl
                | some q =>
                  simp only [eI, pI]
                  rw [show a + 1 + k' + q - a = 1 + k' + q by omega]
              · have c7' : ((n : Int) > 12) := by omega
                refine ⟨0, hbind _ _ (fun k => by simp only [spec_l2Term.j0]; rw [if_neg (by decide), ha1.out, if_pos ha0, if_pos ha2]; rfl) ?_, by omega, by omega⟩
                unfold rvI; rw [hr, if_neg c7]
                simp only [hk0', hs1, hs2, hbt, if_true, if_false, c1', c4', c7', show (((108 : Nat) : Int) = 108) from rfl, show ¬ (((108 : Nat) : Int) = 115) by omega]
                exact Ev.now _
            · have c6' : ¬ ((c : Int) = 108) := by omega
              rw [if_neg c6]
              by_cases c8 : c = 115
              · subst c8
                rw [if_pos rfl]
                obtain ⟨dp, hL, h0, h1⟩ := ih (a + 1 + k') (by omega) (by omega)
                rw [← List.drop_drop] at hL
                have hk1 : ∀ F : Nat → Int × Int → Option (Int × Int), True := fun _ => trivial
                cases hq : parse d (((bl s).drop (a + 1)).drop k') with
                | none =>
                  rw [hq] at hL
                  refine ⟨0, hbind _ _ (fun k => by simp only [spec_l2Term.j0]; rw [if_neg (by decide), ha1.out, if_pos ha0, if_pos ha2]; rfl) ?_, by omega, by omega⟩
                  unfold rvI; rw [hr]
                  simp only [hk0', hs1, hs2, hbt, if_true, if_false, c1', c4', show (((115 : Nat) : Int) = 115) from rfl, hwk.out, hd1.out]
                  refine Ev.bind hL ?_
                  simp only [pI, if_true]
                  refine ev_eq (Ev.now _) ?_
                  simp [pI]
                | some q =>
                  rw [hq] at hL
                  have hle := parse_le d _ _ hq
                  rw [List.length_drop, List.length_drop, hl] at hle
                  have hq0 : ¬ ((q : Int) = 0) := by omega
                  by_cases c5 : 1 ≤ n ∧ n ≤ 1000000
                  · have c5' : 1 ≤ (n : Int) ∧ (n : Int) ≤ 1000000 := by omega
                    refine ⟨1 + dp, hbind _ _ (fun k => by simp only [spec_l2Term.j0]; rw [if_neg (by decide), ha1.out, if_pos ha0, if_pos ha2]; rfl) ?_, by omega, by omega⟩
                    unfold rvI; rw [hr, if_pos c5]
                    simp only [hk0', hs1, hs2, hbt, if_true, if_false, c1', c4', show (((115 : Nat) : Int) = 115) from rfl, hwk.out, hd1.out]
                    refine Ev.bind hL ?_
                    have e : Aside0 (wrap64 (wrap64 (1 + (k' : Int)) + (q : Int)) = ((1 + k' + q : Nat) : Int)) := ⟨by rw [w64 (x := 1 + (k' : Int)) (by omega) (by omega), w64 (by omega) (by omega)]; omega⟩
                    have e2 : wrap64 (1 + dp) = 1 + dp := w64 (by omega) (by omega)
                    simp only [pI, hq0, if_false, spec_l1In_eq, Option.bind_some, c5', decide_true, and_self, if_true, e.out, e2]
                    exact Ev.now _
                  · have c5' : ¬ (1 ≤ (n : Int) ∧ (n : Int) ≤ 1000000) := by omega
                    refine ⟨0, hbind _ _ (fun k => by simp only [spec_l2Term.j0]; rw [if_neg (by decide), ha1.out, if_pos ha0, if_pos ha2]; rfl) ?_, by omega, by omega⟩
                    unfold rvI; rw [hr, if_neg c5]
                    simp only [hk0', hs1, hs2, hbt, if_true, if_false, c1', c4', show (((115 : Nat) : Int) = 115) from rfl, hwk.out, hd1.out]
                    refine Ev.bind hL ?_
                    simp only [pI, hq0, if_false, spec_l1In_eq, Option.bind_some, c5', decide_false]
                    exact Ev.now _
              · have c8' : ¬ ((c : Int) = 115) := by omega
                rw [if_neg c8]
                refine ⟨0, hbind _ _ (fun k => by simp only [spec_l2Term.j0]; rw [if_neg (by decide), ha1.out, if_pos ha0, if_pos ha2]; rfl) ?_, by omega, by omega⟩
                unfold rvI; rw [hr]
                simp only [hk0', hs1, hs2, hbt, if_true, if_false, c1', c4', c6', c8']
                exact Ev.now _

theorem spec_TermOk_ev (s : ByteArray) (hs : s.size ≤ 140737488355327) : Ev (fun k => spec_TermOk.f k s) (termB (bl s)) := by
  have hl := bl_len s
  unfold spec_TermOk.f
  obtain ⟨dp, ht, _, _⟩ := spec_l2Term_ev s hs 8 0 (by decide) (by omega)
  refine Ev.bind ht ?_
  rw [List.drop_zero]
  unfold termB
  rw [hl]
  cases hp : parse 8 (bl s) with
  | none =>
    refine ev_eq (Ev.now _) ?_
    simp
  | some m =>
    have hle := parse_le 8 _ _ hp
    rw [hl] at hle
    have h1 : ((m : Int) > 0) := by omega
    simp only [pI, h1, if_true]
    by_cases hm : m = s.size
    · subst hm
      simp only [if_true]
      refine ev_eq (Ev.now _) ?_
      exact decide_eq_decide.mpr ⟨fun h => ⟨by omega, by omega, trivial⟩, fun h => by omega⟩
    · have hm' : ¬ ((m : Int) = (s.size : Int)) := by omega
      simp only [hm', if_false]
      refine ev_eq (Ev.now _) ?_
      rw [decide_eq_false]
      intro h
      exact hm (Option.some.inj h.2.2)

theorem spec_l2Ok_ev (s : ByteArray) (hs : s.size ≤ 140737488355327) : Ev (fun k => spec_l2Ok.f k s) (termS s) := by
  unfold spec_l2Ok.f
  refine Ev.bind (spec_TermOk_ev s hs) ?_
  unfold termS okS
  by_cases h : termB (bl s) = true
  · simp only [h, if_true]; exact Ev.now _
  · simp only [h]; exact Ev.now _

theorem spec_List_loop (ps : List ByteArray) (hl : ps.length ≤ 12) (d : Nat) : ∀ (i : Nat) (acc : ByteArray), i + d = ps.length → acc.size ≤ 1000 + 900 * i → (∀ p ∈ ps, p.size ≤ 1099511627776) →
    Ev (fun k => spec_List.l0 k ps acc (i : Int)) (if (ps.drop i).all okS = true then termS (acc ++ cat (ps.drop i)) else ⟨#[]⟩) := by
  induction d with
  | zero =>
    intro i acc hi ha hp
    rw [List.drop_of_length_le (by omega)]
    have e : acc ++ cat [] = acc := ByteArray.append_empty
    simp only [List.all_nil, if_true, e]
    refine Ev.step (f := fun k => (spec_l2Ok.f k acc).bind fun t => some t) (fun k => ?_) (Ev.bind (spec_l2Ok_ev acc (by omega)) (Ev.now _))
    simp only [spec_List.l0]; rw [if_neg (by omega)]
  | succ d ih =>
    intro i acc hi ha hp
    have hlt : i < ps.length := by omega
    have hcons : ps.drop i = ps[i] :: ps.drop (i + 1) := List.drop_eq_getElem_cons hlt
    have hsz := hp _ (List.getElem_mem hlt)
    have hw : Aside0 (wrap64 ((i : Int) + 1) = ((i + 1 : Nat) : Int)) := ⟨by rw [w64 (by omega) (by omega)]; omega⟩
    refine Ev.step (f := fun k => (spec_TermOk.f k ps[i]).bind fun t => (if t = true then (if acc.size + ps[i].size ≤ 9223372036854775807 then spec_List.l0 k ps (acc ++ ps[i]) ((i + 1 : Nat) : Int) else none) else some (⟨#[]⟩ : ByteArray))) (fun k => ?_) (Ev.bind (spec_TermOk_ev ps[i] (by omega)) ?_)
    · simp only [spec_List.l0]; rw [if_pos (by omega), if_pos (by omega), rdOf_get ps i hlt, hw.out]
    · have ho : termB (bl ps[i]) = okS ps[i] := rfl
      rw [ho, hcons, List.all_cons, cat_cons]
      by_cases h : okS ps[i] = true
      · have h9 := (okS_size h).2
        have hr := ih (i + 1) (acc ++ ps[i]) (by omega) (by rw [ByteArray.size_append]; omega) hp
        have hle : acc.size + ps[i].size ≤ 9223372036854775807 := by omega
        rw [ByteArray.append_assoc] at hr
        simp only [h, hle, if_true, Bool.true_and]
        exact hr
      · have h' := Bool.eq_false_iff.mpr h
        rw [h', Bool.false_and]
        simp only [Bool.false_eq_true, if_false]
        exact Ev.now _
theorem spec_List_ev (ps : List ByteArray) (hp : ∀ p ∈ ps, p.size ≤ 1099511627776) : Ev (fun k => spec_List.f k ps) (listS ps) := by
  unfold spec_List.f
  by_cases h12 : ps.length ≤ 12
  · have h12' : ¬ ((ps.length : Int) > 12) := by omega
    simp only [h12', if_false]
    refine Ev.bind (spec_Var_ev _) ?_
    have h7 := @var_size (ps.length : Int)
    have h1 : (⟨#[108]⟩ : ByteArray).size = 1 := rfl
    have a1 : 1 + (varS (ps.length : Int)).size ≤ 9223372036854775807 := by omega
    simp only [a1, if_true]
    refine ev_eq (spec_List_loop ps h12 ps.length 0 ((⟨#[108]⟩ : ByteArray) ++ varS (ps.length : Int)) (by omega) (by rw [ByteArray.size_append]; omega) hp) ?_
    unfold listS rawL
    rw [List.drop_zero]
    by_cases h : ps.all okS = true
    · rw [if_pos h, if_pos ⟨h12, h⟩]
    · rw [if_neg h, if_neg (fun e => h e.2)]
  · have h12' : ((ps.length : Int) > 12) := by omega
    simp only [h12', if_true]
    refine ev_eq (Ev.now _) ?_
    unfold listS; rw [if_neg (fun e => h12 e.1)]

theorem spec_l1New_ok (l : List Int) (hl : l.length ≤ 140737488351232) : ∃ h : Int, Ev (fun k => spec_l1New.f k l) (l, 0, h) := by
  have loop : ∀ (d i : Nat) (h : Int), i + d = l.length → ∃ h' : Int, Ev (fun k => spec_l1New.l0 k l h (i : Int)) (l, 0, h') := by
    intro d
    induction d with
    | zero =>
      intro i h hi
      refine ⟨h, Ev.step (f := fun _ => some (l, 0, h)) (fun k => ?_) (Ev.now _)⟩
      simp only [spec_l1New.l0]
      rw [if_neg (by omega)]
    | succ d ih =>
      intro i h hi
      by_cases h4 : (i : Int) < 4000
      · obtain ⟨h', hh⟩ := ih (i + 1) (Go.bits .and .i64 (wrap64 ((wrap64 ((wrap64 (h * 131)) + (wrap64 (rd l (i : Int))))) + 7)) 1073741823) (by omega)
        refine ⟨h', Ev.step (fun k => ?_) hh⟩
        simp only [spec_l1New.l0]
        rw [if_pos (by omega), if_pos h4, if_pos (by omega), w64 (x := (i : Int) + 1) (by omega) (by omega)]
        rfl
      · refine ⟨h, Ev.step (f := fun _ => some (l, 0, h)) (fun k => ?_) (Ev.now _)⟩
        simp only [spec_l1New.l0]
        rw [if_pos (by omega), if_neg h4]
  unfold spec_l1New.f
  exact loop l.length 0 _ (by omega)

theorem spec_l1Byte_ok (b : List Int) (i h : Int) (hb : b.length ≤ 140737488351232) (hi : 0 ≤ i) : ∃ x i' h' : Int, spec_l1Byte.f b i h = some (x, i', h') ∧ 0 ≤ x ∧ x ≤ 255 ∧ 0 ≤ i' := by
  unfold spec_l1Byte.f
  by_cases h1 : i < (b.length : Int)
  · rw [if_pos h1, if_pos hi]
    refine ⟨_, _, _, rfl, (band255 _).1, (band255 _).2, ?_⟩
    rw [w64 (by omega) (by omega)]; omega
  · rw [if_neg h1]
    exact ⟨_, _, _, rfl, (band255 _).1, (band255 _).2, hi⟩

theorem spec_l1Below_ok (b : List Int) (i h n : Int) (hb : b.length ≤ 140737488351232) (hi : 0 ≤ i) (hn : 1 ≤ n) : ∃ x i' h' : Int, spec_l1Below.f b i h n = some (x, i', h') ∧ 0 ≤ x ∧ x < n ∧ 0 ≤ i' := by
  unfold spec_l1Below.f
  rw [if_neg (by omega)]
  have tm : ∀ y : Int, 0 ≤ y → 0 ≤ Int.tmod y n ∧ Int.tmod y n < n := fun y hy => ⟨Int.tmod_nonneg _ hy, Int.tmod_lt_of_pos _ (by omega)⟩
  by_cases h1 : n ≤ 256
  · rw [if_pos h1]
    obtain ⟨x, i', h', he, hx, _, hi'⟩ := spec_l1Byte_ok b i h hb hi
    rw [he, Option.bind_some, if_neg (by omega)]
    exact ⟨_, _, _, rfl, (tm x hx).1, (tm x hx).2, hi'⟩
  · rw [if_neg h1]
    obtain ⟨x1, i1, h1, he1, hx1, hy1, hi1⟩ := spec_l1Byte_ok b i h hb hi
    obtain ⟨x2, i2, h2, he2, hx2, hy2, hi2⟩ := spec_l1Byte_ok b i1 h1 hb hi1
    obtain ⟨x3, i3, h3, he3, hx3, hy3, hi3⟩ := spec_l1Byte_ok b i2 h2 hb hi2
    obtain ⟨x4, i4, h4, he4, hx4, hy4, hi4⟩ := spec_l1Byte_ok b i3 h3 hb hi3
    rw [he1, Option.bind_some, he2, Option.bind_some, he3, Option.bind_some, he4, Option.bind_some, if_neg (by omega)]
    rw [w64 (x := x1 * 16777216) (by omega) (by omega), w64 (x := x2 * 65536) (by omega) (by omega), w64 (x := x3 * 256) (by omega) (by omega), w64 (x := _ + x2 * 65536) (by omega) (by omega), w64 (x := _ + x3 * 256) (by omega) (by omega), w64 (x := _ + x4) (by omega) (by omega)]
    exact ⟨_, _, _, rfl, (tm _ (by omega)).1, (tm _ (by omega)).2, hi4⟩

theorem spec_l1Once_ok (b : List Int) (i h n : Int) (hb : b.length ≤ 140737488351232) (hi : 0 ≤ i) (hn : 1 ≤ n) : ∃ (x : Bool) (i' h' : Int), spec_l1Once.f b i h n = some (x, i', h') ∧ 0 ≤ i' := by
  unfold spec_l1Once.f
  obtain ⟨x, i', h', he, _, _, hi'⟩ := spec_l1Below_ok b i h n hb hi hn
  rw [he]
  exact ⟨_, _, _, rfl, hi'⟩

theorem spec_Seal_ev (n : Int) (t : ByteArray) (ht : t.size ≤ 1000000000) : Ev (fun k => spec_Seal.f k n t) (sealS n t) := by
  have dead : Ev (fun k => spec_Seal.j0 k n t true) (⟨#[]⟩ : ByteArray) := by
    refine Ev.step (f := fun _ => some (⟨#[]⟩ : ByteArray)) (fun k => ?_) (Ev.now _)
    simp [spec_Seal.j0]
  unfold spec_Seal.f
  simp only [spec_l1In_eq, Option.bind_some]
  have ho : termB (bl t) = okS t := rfl
  unfold sealS
  by_cases h2 : 1 ≤ n ∧ n ≤ 1000000
  · simp only [h2, decide_true, if_true, and_self, and_true]
    refine Ev.bind (spec_TermOk_ev t (by omega)) ?_
    rw [ho]
    by_cases h1 : okS t = true
    · rw [if_pos h1, h1]
      have h7 := @var_size n
      have h1 : (⟨#[115]⟩ : ByteArray).size = 1 := rfl
      have a1 : 1 + (varS n).size ≤ 9223372036854775807 := by omega
      have a2 : ((⟨#[115]⟩ : ByteArray) ++ varS n).size + t.size ≤ 9223372036854775807 := by rw [ByteArray.size_append]; omega
      refine Ev.step (fun k => by simp only [spec_Seal.j0]; rw [if_neg (by decide)]) (Ev.bind (spec_Var_ev n) ?_)
      simp only [a1, a2, if_true]
      exact Ev.bind (spec_l2Ok_ev _ (by rw [ByteArray.size_append, ByteArray.size_append]; omega)) (ev_eq (Ev.now _) rfl)
    · rw [if_neg h1, Bool.eq_false_iff.mpr h1]
      exact dead
  · have h2' : ¬ (okS t = true ∧ 1 ≤ n ∧ n ≤ 1000000) := fun e => h2 e.2
    rw [if_neg h2']
    simp only [h2, decide_false, Bool.false_eq_true, if_false]
    exact dead

theorem spec_Atom_ev (d : ByteArray) (hd : d.size ≤ 1000000000) : Ev (fun k => spec_Atom.f k d) (atomS d) := by
  unfold spec_Atom.f
  by_cases h : (d.size : Int) > 40
  · simp only [h, if_true]
    refine ev_eq (Ev.now _) ?_
    unfold atomS termS
    rw [atom_long (by omega) (by unfold MAXV; omega), if_neg (by decide)]
  · simp only [h, if_false]
    refine Ev.bind (spec_Var_ev _) ?_
    have h7 := @var_size (d.size : Int)
    have h1 : (⟨#[97]⟩ : ByteArray).size = 1 := rfl
    have a1 : 1 + (varS (d.size : Int)).size ≤ 9223372036854775807 := by omega
    have a2 : ((⟨#[97]⟩ : ByteArray) ++ varS (d.size : Int)).size + d.size ≤ 9223372036854775807 := by rw [ByteArray.size_append]; omega
    simp only [a1, a2, if_true]
    refine Ev.bind (spec_l2Ok_ev _ (by rw [ByteArray.size_append, ByteArray.size_append]; omega)) (ev_eq (Ev.now _) rfl)

theorem spec_l1Text_ok (b : List Int) (i h : Int) (n : Nat) (hb : b.length ≤ 140737488351232) (hi : 0 ≤ i) (hn : n ≤ 1000) : ∃ (t : ByteArray) (i' h' : Int), Ev (fun k => spec_l1Text.f k b i h (n : Int)) (t, i', h') ∧ t.size ≤ n ∧ 0 ≤ i' := by
  have loop : ∀ (m : Int) (d : Nat) (acc : List Int) (i h : Int), 0 ≤ i → acc.length + d ≤ 1000 → ∃ (t : ByteArray) (i' h' : Int), Ev (fun k => spec_l1Text.l0 k acc m (d : Int) b i h) (t, i', h') ∧ t.size ≤ acc.length + d ∧ 0 ≤ i' := by
    intro m d
    induction d with
    | zero =>
      intro acc i h hi hl
      refine ⟨strOfNums acc, i, h, Ev.step (f := fun _ => some (strOfNums acc, i, h)) (fun k => ?_) (Ev.now _), by rw [strOfNums_size]; omega, hi⟩
      simp only [spec_l1Text.l0]
      rw [if_neg (by omega)]
    | succ d ih =>
      intro acc i h hi hl
      obtain ⟨x, i1, h1, e, _, _, hi1⟩ := spec_l1Byte_ok b i h hb hi
      have e2 : wrap64 (((d + 1 : Nat) : Int) - 1) = (d : Int) := by rw [w64 (x := ((d + 1 : Nat) : Int) - 1) (by omega) (by omega)]; omega
      have c0 : ((d + 1 : Nat) : Int) > 0 := by omega
      have c : acc.length < 140737488355328 := by omega
      have go : ∀ v : Int, (∀ k, spec_l1Text.l0 (k + 1) acc m ((d + 1 : Nat) : Int) b i h = spec_l1Text.l0 k (acc ++ [v]) m (d : Int) b i1 h1) → ∃ (t : ByteArray) (i' h' : Int), Ev (fun k => spec_l1Text.l0 k acc m ((d + 1 : Nat) : Int) b i h) (t, i', h') ∧ t.size ≤ acc.length + (d + 1) ∧ 0 ≤ i' := by
        intro v hv
        obtain ⟨t, i', h', ev, hs, hi'⟩ := ih (acc ++ [v]) i1 h1 hi1 (by rw [List.length_append, List.length_singleton]; omega)
        rw [List.length_append, List.length_singleton] at hs
        exact ⟨t, i', h', Ev.step hv ev, by omega, hi'⟩
      by_cases m1 : m = 1
      · have m2 : ¬ m = 2 := by omega
        refine go ((Int.tmod x 2) % 256) (fun k => ?_)
        simp only [spec_l1Text.l0]
        rw [if_pos c0, e, Option.bind_some, if_pos m1, if_neg m2, if_pos c, e2]
      · by_cases m2 : m = 2
        · refine go ((wrap64 (97 + (Int.tmod x 4))) % 256) (fun k => ?_)
          simp only [spec_l1Text.l0]
          rw [if_pos c0, e, Option.bind_some, if_neg m1, if_pos m2, if_pos c, e2]
        · refine go (x % 256) (fun k => ?_)
          simp only [spec_l1Text.l0]
          rw [if_pos c0, e, Option.bind_some, if_neg m1, if_neg m2, if_pos c, e2]
  obtain ⟨m, i1, h1, e1, _, _, hi1⟩ := spec_l1Below_ok b i h 4 hb hi (by omega)
  obtain ⟨d, i2, h2, e2, hd0, hd1, hi2⟩ := spec_l1Below_ok b i1 h1 ((n : Int) + 1) hb hi1 (by omega)
  obtain ⟨d', rfl⟩ : ∃ d' : Nat, d = (d' : Int) := ⟨d.toNat, by omega⟩
  obtain ⟨t, i', h', ev, hs, hi'⟩ := loop m d' [] i2 h2 hi2 (by simp only [List.length_nil]; omega)
  refine ⟨t, i', h', ?_, by simp only [List.length_nil] at hs; omega, hi'⟩
  unfold spec_l1Text.f
  have w : wrap64 ((n : Int) + 1) = (n : Int) + 1 := w64 (by omega) (by omega)
  simp only [e1, w, e2, Option.bind_some]
  exact ev

theorem spec_KeyTerm_ev (n : Int) : Ev (fun k => spec_KeyTerm.f k n) (keyS n) := by
  unfold spec_KeyTerm.f keyS
  simp only [spec_l1In_eq, Option.bind_some]
  by_cases h : 1 ≤ n ∧ n ≤ 1000000
  · simp only [h, decide_true, if_true, and_self]
    refine Ev.bind (spec_Var_ev n) ?_
    have h7 := @var_size n
    have hle : 1 + (varS n).size ≤ 9223372036854775807 := by omega
    simp only [hle, if_true]
    exact Ev.now _
  · simp only [h, decide_false, if_false]
    exact Ev.now _

theorem spec_l2Some_ok (b : List Int) (hb : b.length ≤ 140737488351232) : ∀ (n : Nat), 1 ≤ n → n ≤ 100 → ∀ (i h : Int), 0 ≤ i → ∃ (t : ByteArray) (i' h' : Int), Ev (fun k => spec_l2Some.f k b i h (n : Int)) (t, i', h') ∧ t.size ≤ 900 ∧ 0 ≤ i' := by
  have low : ∀ (n x i h : Int), 0 ≤ i → (x = 0 ∨ x = 1) → ∃ (t : ByteArray) (i' h' : Int), Ev (fun k => spec_l2Some.j1 k n x b i h) (t, i', h') ∧ t.size ≤ 900 ∧ 0 ≤ i' := by
    intro n x i h hi hx
    rcases hx with rfl | rfl
    · obtain ⟨t, i', h', ev, ht, hi'⟩ := spec_l1Text_ok b i h 5 hb hi (by omega)
      refine ⟨atomS t, i', h', Ev.step (f := fun k => (spec_l1Text.f k b i h 5).bind fun bt => (spec_Atom.f k bt.1).bind fun t => some (t, bt.2.1, bt.2.2)) (fun k => ?_) (Ev.bind ev (Ev.bind (spec_Atom_ev t (by omega)) (Ev.now _))), termS_le _, hi'⟩
      simp only [spec_l2Some.j1]
      rw [if_pos (by trivial)]
    · obtain ⟨p, i1, h1, e1, p0, p1, hi1⟩ := spec_l1Below_ok b i h 6 hb hi (by omega)
      refine ⟨keyS (wrap64 (1 + p)), i1, h1, Ev.step (f := fun k => (spec_KeyTerm.f k (wrap64 (1 + p))).bind fun t => some (t, i1, h1)) (fun k => ?_) (Ev.bind (spec_KeyTerm_ev _) (Ev.now _)), keyS_size _, hi1⟩
      simp only [spec_l2Some.j1]
      rw [if_neg (by decide), if_pos (by trivial), e1, Option.bind_some]
  intro n
  induction n with
  | zero => intro h; omega
  | succ n ih =>
    intro _ hn i h hi
    obtain ⟨x, i1, h1, e1, x0, x1, hi1⟩ := spec_l1Below_ok b i h 5 hb hi (by omega)
    by_cases h2 : ((n + 1 : Nat) : Int) < 2
    · by_cases hx : x > 1
      · obtain ⟨y, i2, h2', e2, y0, y1, hi2⟩ := spec_l1Below_ok b i1 h1 2 hb hi1 (by omega)
        obtain ⟨t, i', h', ev, ht, hi'⟩ := low ((n + 1 : Nat) : Int) y i2 h2' hi2 (by omega)
        refine ⟨t, i', h', Ev.step (f := fun k => spec_l2Some.j0 k ((n + 1 : Nat) : Int) x true b i1 h1) (fun k => ?_) (Ev.step (fun k => ?_) ev), ht, hi'⟩
        · simp only [spec_l2Some.f]
          rw [e1, Option.bind_some, if_pos h2, decide_eq_true hx]
        · simp only [spec_l2Some.j0]
          rw [if_pos (by trivial), e2, Option.bind_some]
      · obtain ⟨t, i', h', ev, ht, hi'⟩ := low ((n + 1 : Nat) : Int) x i1 h1 hi1 (by omega)
        refine ⟨t, i', h', Ev.step (f := fun k => spec_l2Some.j0 k ((n + 1 : Nat) : Int) x false b i1 h1) (fun k => ?_) (Ev.step (fun k => ?_) ev), ht, hi'⟩
        · simp only [spec_l2Some.f]
          rw [e1, Option.bind_some, if_pos h2, decide_eq_false hx]
        · simp only [spec_l2Some.j0]
          rw [if_neg (by decide)]
    · have ih' := ih (by omega) (by omega)
      have wn : wrap64 (((n + 1 : Nat) : Int) - 1) = (n : Int) := by rw [w64 (x := ((n + 1 : Nat) : Int) - 1) (by omega) (by omega)]; omega
      have lp : ∀ (d : Nat) (acc : List ByteArray) (i h : Int), 0 ≤ i → acc.length + d ≤ 1000 → (∀ p ∈ acc, p.size ≤ 900) → ∃ (t : ByteArray) (i' h' : Int), Ev (fun k => spec_l2Some.l0 k ((n + 1 : Nat) : Int) acc (d : Int) b i h) (t, i', h') ∧ t.size ≤ 900 ∧ 0 ≤ i' := by
        intro d
        induction d with
        | zero =>
          intro acc i h hi hl ha
          refine ⟨listS acc, i, h, Ev.step (f := fun k => (spec_List.f k acc).bind fun t => some (t, i, h)) (fun k => ?_) (Ev.bind (spec_List_ev acc (fun p hp => by have := ha p hp; omega)) (Ev.now _)), listS_size _, hi⟩
          simp only [spec_l2Some.l0]
          rw [if_neg (by omega)]
        | succ d ihd =>
          intro acc i h hi hl ha
          obtain ⟨t, i1, h1, ev, ht, hi1⟩ := ih' i h hi
          obtain ⟨t', i', h', ev', ht', hi'⟩ := ihd (acc ++ [t]) i1 h1 hi1 (by rw [List.length_append, List.length_singleton]; omega) (fun p hp => by
            rcases List.mem_append.mp hp with hp | hp
            · exact ha p hp
            · rw [List.mem_singleton.mp hp]; exact ht)
          have wd : wrap64 (((d + 1 : Nat) : Int) - 1) = (d : Int) := by rw [w64 (x := ((d + 1 : Nat) : Int) - 1) (by omega) (by omega)]; omega
          have c : acc.length < 8796093022208 := by omega
          refine ⟨t', i', h', Ev.step (f := fun k => (spec_l2Some.f k b i h (n : Int)).bind fun bt => spec_l2Some.l0 k ((n + 1 : Nat) : Int) (acc ++ [bt.1]) (d : Int) b bt.2.1 bt.2.2) (fun k => ?_) (Ev.bind ev ev'), ht', hi'⟩
          simp only [spec_l2Some.l0]
          rw [if_pos (by omega), wn, wd]
          simp only [c, if_true]
      have j1 : ∃ (t : ByteArray) (i' h' : Int), Ev (fun k => spec_l2Some.j1 k ((n + 1 : Nat) : Int) x b i1 h1) (t, i', h') ∧ t.size ≤ 900 ∧ 0 ≤ i' := by
        by_cases hx : x = 0 ∨ x = 1
        · exact low _ x i1 h1 hi1 hx
        · have n0 : ¬ x = 0 := fun e => hx (Or.inl e)
          have n1 : ¬ x = 1 := fun e => hx (Or.inr e)
          by_cases n2 : x = 2
          · obtain ⟨p, i2, h2', e2, p0, p1, hi2⟩ := spec_l1Below_ok b i1 h1 6 hb hi1 (by omega)
            obtain ⟨t, i3, h3, ev, ht, hi3⟩ := ih' i2 h2' hi2
            refine ⟨sealS (wrap64 (1 + p)) t, i3, h3, Ev.step (f := fun k => (spec_l2Some.f k b i2 h2' (n : Int)).bind fun bt => (spec_Seal.f k (wrap64 (1 + p)) bt.1).bind fun t => some (t, bt.2.1, bt.2.2)) (fun k => ?_) (Ev.bind ev (Ev.bind (spec_Seal_ev (wrap64 (1 + p)) t (by omega)) (Ev.now _))), sealS_size _ _, hi3⟩
            simp only [spec_l2Some.j1]
            rw [if_neg n0, if_neg n1, if_pos n2, e2, Option.bind_some, wn]
          · obtain ⟨p, i2, h2', e2, p0, p1, hi2⟩ := spec_l1Below_ok b i1 h1 4 hb hi1 (by omega)
            obtain ⟨d, rfl⟩ : ∃ d : Nat, p = (d : Int) := ⟨p.toNat, by omega⟩
            obtain ⟨t, i3, h3, ev, ht, hi3⟩ := lp d [] i2 h2' hi2 (by simp only [List.length_nil]; omega) (fun p hp => by cases hp)
            refine ⟨t, i3, h3, Ev.step (fun k => ?_) ev, ht, hi3⟩
            simp only [spec_l2Some.j1]
            rw [if_neg n0, if_neg n1, if_neg n2, e2, Option.bind_some]
      obtain ⟨t, i', h', ev, ht, hi'⟩ := j1
      refine ⟨t, i', h', Ev.step (f := fun k => spec_l2Some.j0 k ((n + 1 : Nat) : Int) x false b i1 h1) (fun k => ?_) (Ev.step (fun k => ?_) ev), ht, hi'⟩
      · simp only [spec_l2Some.f]
        rw [e1, Option.bind_some, if_neg h2]
      · simp only [spec_l2Some.j0]
        rw [if_neg (by decide)]

theorem spec_l1Spoil_ok (b : List Int) (i h : Int) (s : ByteArray) (hb : b.length ≤ 140737488351232) (hi : 0 ≤ i) (hs : s.size ≤ 1000000) : ∃ (t : ByteArray) (i' h' : Int), Ev (fun k => spec_l1Spoil.f k b i h s) (t, i', h') ∧ t.size ≤ s.size + 3 ∧ 0 ≤ i' := by
  by_cases h0 : (s.size : Int) = 0
  · obtain ⟨t, i', h', ev, ht, hi'⟩ := spec_l1Text_ok b i h 3 hb hi (by omega)
    refine ⟨t, i', h', ?_, by omega, hi'⟩
    unfold spec_l1Spoil.f
    simp only [h0, if_true]
    exact Ev.bind ev (Ev.now _)
  · obtain ⟨p, i1, h1, e1, p0, p1, hi1⟩ := spec_l1Below_ok b i h (s.size : Int) hb hi (by omega)
    obtain ⟨q, i2, h2, e2, q0, q1, hi2⟩ := spec_l1Below_ok b i1 h1 4 hb hi1 (by omega)
    obtain ⟨n, rfl⟩ : ∃ n : Nat, p = (n : Int) := ⟨p.toNat, by omega⟩
    have w : wrap64 ((n : Int) + 1) = ((n + 1 : Nat) : Int) := by rw [w64 (x := (n : Int) + 1) (by omega) (by omega)]; omega
    have c1 : 0 ≤ (n : Int) := by omega
    have c2 : (n : Int) ≤ (s.size : Int) := by omega
    have c3 : (n : Int) < (s.size : Int) := by omega
    have c4 : 0 ≤ ((n + 1 : Nat) : Int) := by omega
    have c5 : ((n + 1 : Nat) : Int) ≤ (s.size : Int) := by omega
    have z1 : (s.extract 0 n).size = n := by rw [ByteArray.size_extract]; omega
    have z2 : (s.extract (n + 1) s.size).size = s.size - (n + 1) := by rw [ByteArray.size_extract]; omega
    have z3 : (s.extract n s.size).size = s.size - n := by rw [ByteArray.size_extract]; omega
    unfold spec_l1Spoil.f
    simp only [h0, if_false, e1, e2, Option.bind_some, w, c1, c2, c3, c4, c5, if_true, Int.toNat_natCast]
    by_cases k0 : q = 0
    · have g : (s.extract 0 n).size + (s.extract (n + 1) s.size).size ≤ 9223372036854775807 := by omega
      simp only [k0, if_true, g]
      exact ⟨_, _, _, Ev.now _, by rw [ByteArray.size_append]; omega, hi2⟩
    · simp only [k0, if_false]
      by_cases k1 : q = 1
      · obtain ⟨x, i3, h3, e3, _, _, hi3⟩ := spec_l1Byte_ok b i2 h2 hb hi2
        have zz : (strOfNums [x % 256]).size = 1 := by rw [strOfNums_size]; rfl
        have g1 : (s.extract 0 n).size + (strOfNums [x % 256]).size ≤ 9223372036854775807 := by omega
        have g2 : ((s.extract 0 n) ++ (strOfNums [x % 256])).size + (s.extract n s.size).size ≤ 9223372036854775807 := by rw [ByteArray.size_append]; omega
        simp only [k1, if_true, e3, Option.bind_some, g1, g2]
        exact ⟨_, _, _, Ev.now _, by rw [ByteArray.size_append, ByteArray.size_append]; omega, hi3⟩
      · simp only [k1, if_false]
        by_cases k2 : q = 2
        · simp only [k2, if_true]
          exact ⟨_, _, _, Ev.now _, by omega, hi2⟩
        · obtain ⟨x, i3, h3, e3, _, _, hi3⟩ := spec_l1Below_ok b i2 h2 255 hb hi2 (by omega)
          simp only [k2, if_false, e3, Option.bind_some]
          generalize hv : (Go.bits .xor .i64 (wrap64 (bt s (n : Int))) (wrap64 (1 + x))) % 256 = v
          have zz : (strOfNums [v]).size = 1 := by rw [strOfNums_size]; rfl
          have g1 : (s.extract 0 n).size + (strOfNums [v]).size ≤ 9223372036854775807 := by omega
          have g2 : ((s.extract 0 n) ++ (strOfNums [v])).size + (s.extract (n + 1) s.size).size ≤ 9223372036854775807 := by rw [ByteArray.size_append]; omega
          simp only [if_true, g1, g2]
          exact ⟨_, _, _, Ev.now _, by rw [ByteArray.size_append, ByteArray.size_append]; omega, hi3⟩

theorem spec_l2Any_ok (b : List Int) (i h : Int) (hb : b.length ≤ 140737488351232) (hi : 0 ≤ i) : ∃ (t : ByteArray) (i' h' : Int), Ev (fun k => spec_l2Any.f k b i h) (t, i', h') ∧ t.size ≤ 1000 ∧ 0 ≤ i' := by
  have lp : ∀ (d j : Nat) (s : ByteArray) (i h : Int), j + d = 9 → s.size ≤ 900 + 2 * j → 0 ≤ i → ∃ (t : ByteArray) (i' h' : Int), Ev (fun k => spec_l2Any.l0 k s (j : Int) b i h) (t, i', h') ∧ t.size ≤ 1000 ∧ 0 ≤ i' := by
    intro d
    induction d with
    | zero =>
      intro j s i h hj hs hi
      refine ⟨s, i, h, Ev.step (f := fun _ => some (s, i, h)) (fun k => ?_) (Ev.now _), by omega, hi⟩
      simp only [spec_l2Any.l0]
      rw [if_neg (by omega)]
    | succ d ih =>
      intro j s i h hj hs hi
      have z : (⟨#[115, 1]⟩ : ByteArray).size = 2 := rfl
      obtain ⟨t, i', h', ev, ht, hi'⟩ := ih (j + 1) ((⟨#[115, 1]⟩ : ByteArray) ++ s) i h (by omega) (by rw [ByteArray.size_append, z]; omega) hi
      have e2 : wrap64 ((j : Int) + 1) = ((j + 1 : Nat) : Int) := by rw [w64 (x := (j : Int) + 1) (by omega) (by omega)]; omega
      refine ⟨t, i', h', Ev.step (fun k => ?_) ev, ht, hi'⟩
      simp only [spec_l2Any.l0]
      rw [if_pos (by omega), if_pos (by omega), e2]
  obtain ⟨x, i1, h1, e1, x0, x1, hi1⟩ := spec_l1Below_ok b i h 5 hb hi (by omega)
  obtain ⟨n, rfl⟩ : ∃ n : Nat, x = (n : Int) := ⟨x.toNat, by omega⟩
  have w : wrap64 (1 + (n : Int)) = ((n + 1 : Nat) : Int) := by rw [w64 (x := 1 + (n : Int)) (by omega) (by omega)]; omega
  obtain ⟨t, i2, h2, ev2, ht, hi2⟩ := spec_l2Some_ok b hb (n + 1) (by omega) (by omega) i1 h1 hi1
  obtain ⟨o, i3, h3, e3, hi3⟩ := spec_l1Once_ok b i2 h2 4 hb hi2 (by omega)
  cases o with
  | true =>
    obtain ⟨t', i4, h4, ev4, ht', hi4⟩ := spec_l1Spoil_ok b i3 h3 t hb hi3 (by omega)
    refine ⟨t', i4, h4, ?_, by omega, hi4⟩
    unfold spec_l2Any.f
    simp only [e1, Option.bind_some, w]
    refine Ev.bind ev2 ?_
    simp only [e3, Option.bind_some, if_true]
    exact Ev.bind ev4 (Ev.now _)
  | false =>
    obtain ⟨o', i4, h4, e4, hi4⟩ := spec_l1Once_ok b i3 h3 30 hb hi3 (by omega)
    cases o' with
    | true =>
      obtain ⟨t', i5, h5, ev5, ht', hi5⟩ := lp 9 0 t i4 h4 (by omega) (by omega) hi4
      refine ⟨t', i5, h5, ?_, ht', hi5⟩
      unfold spec_l2Any.f
      simp only [e1, Option.bind_some, w]
      refine Ev.bind ev2 ?_
      simp only [e3, e4, Option.bind_some, if_true, Bool.false_eq_true, if_false]
      exact ev5
    | false =>
      refine ⟨t, i4, h4, ?_, by omega, hi4⟩
      unfold spec_l2Any.f
      simp only [e1, Option.bind_some, w]
      refine Ev.bind ev2 ?_
      simp only [e3, e4, Option.bind_some, Bool.false_eq_true, if_false]
      exact Ev.now _

noncomputable def inI (x : Int) (l : List Int) : Bool := decide (x ∈ l)
theorem inI_t {x : Int} {l : List Int} (h : x ∈ l) : inI x l = true := decide_eq_true h
theorem inI_f {x : Int} {l : List Int} (h : ¬ x ∈ l) : inI x l = false := decide_eq_false h
theorem inI_out {x : Int} {l : List Int} (h : inI x l = true) : x ∈ l := of_decide_eq_true h
theorem inI_out_f {x : Int} {l : List Int} (h : ¬ inI x l = true) : ¬ x ∈ l := fun hm => h (inI_t hm)

theorem spec_l3Has_ev (l : List Int) (x : Int) (hl : l.length ≤ 1073741824) : Ev (fun k => spec_l3Has.f k l x) (inI x l) := by
  have loop : ∀ d i : Nat, i + d = l.length → Ev (fun k => spec_l3Has.l0 k l x (i : Int)) (inI x (l.drop i)) := by
    intro d
    induction d with
    | zero =>
      intro i hi
      refine Ev.step (f := fun _ => some false) (fun k => ?_) (ev_eq (Ev.now _) ?_)
      · simp only [spec_l3Has.l0]
        rw [if_neg (by omega)]
      · rw [List.drop_of_length_le (by omega), inI_f (by simp)]
    | succ d ih =>
      intro i hi
      have hlt : i < l.length := by omega
      have e2 : wrap64 ((i : Int) + 1) = ((i + 1 : Nat) : Int) := by rw [w64 (x := (i : Int) + 1) (by omega) (by omega)]; omega
      rw [List.drop_eq_getElem_cons hlt]
      by_cases h : l[i] = x
      · refine Ev.step (f := fun _ => some true) (fun k => ?_) (ev_eq (Ev.now _) (inI_t (by rw [h]; exact List.mem_cons_self)).symm)
        simp only [spec_l3Has.l0]
        rw [if_pos (by omega), if_pos (by omega), rd_get _ _ hlt, if_pos h]
      · refine Ev.step (fun k => ?_) (ev_eq (ih (i + 1) (by omega)) ?_)
        · simp only [spec_l3Has.l0]
          rw [if_pos (by omega), if_pos (by omega), rd_get _ _ hlt, if_neg h, e2]
        · by_cases hx : x ∈ l.drop (i + 1)
          · rw [inI_t hx, inI_t (List.mem_cons_of_mem _ hx)]
          · rw [inI_f hx, inI_f (fun hm => by
              rcases List.mem_cons.1 hm with e | hm
              · exact h e.symm
              · exact hx hm)]
  have := loop l.length 0 (by omega)
  unfold spec_l3Has.f
  simpa using this

/-- Numbers that rise with one more. -/
def putL : List Int → Int → List Int
  | [], x => [x]
  | y :: t, x => if x < y then x :: y :: t else y :: putL t x
theorem putL_len (l : List Int) (x : Int) : (putL l x).length = l.length + 1 := by
  induction l with
  | nil => rfl
  | cons y t ih => unfold putL; split <;> simp [ih]
theorem putL_perm (l : List Int) (x : Int) : (putL l x).Perm (x :: l) := by
  induction l with
  | nil => exact List.Perm.refl _
  | cons y t ih =>
    unfold putL
    split
    · exact List.Perm.refl _
    · exact (List.Perm.cons y ih).trans (List.Perm.swap x y t)
theorem putL_mem (l : List Int) (x y : Int) : y ∈ putL l x ↔ y = x ∨ y ∈ l := by
  rw [(putL_perm l x).mem_iff, List.mem_cons]
theorem putL_rise {l : List Int} (x : Int) (h : l.Pairwise (· < ·)) (hx : ¬ x ∈ l) : (putL l x).Pairwise (· < ·) := by
  induction l with
  | nil => exact List.pairwise_singleton _ _
  | cons y t ih =>
    rw [List.pairwise_cons] at h
    have hy : x ≠ y := fun e => hx (by rw [e]; exact List.mem_cons_self)
    unfold putL
    split
    · rename_i hlt
      rw [List.pairwise_cons, List.pairwise_cons]
      refine ⟨fun z hz => ?_, h.1, h.2⟩
      rcases List.mem_cons.1 hz with e | hz
      · rw [e]; exact hlt
      · have := h.1 z hz; omega
    · rename_i hlt
      rw [List.pairwise_cons]
      refine ⟨fun z hz => ?_, ih h.2 (fun hm => hx (List.mem_cons_of_mem _ hm))⟩
      rcases (putL_mem t x z).1 hz with e | hz
      · rw [e]; omega
      · exact h.1 z hz
/-- Sorted lists of the same numbers are the same. -/
theorem sort_put {l : List Int} (x : Int) (h : l.Pairwise (· < ·)) (hx : ¬ x ∈ l) : (l ++ [x]).mergeSort (fun a b => decide (a ≤ b)) = putL l x := by
  have p1 : ((l ++ [x]).mergeSort (fun a b => decide (a ≤ b))).Perm (putL l x) :=
    (List.mergeSort_perm _ _).trans ((List.perm_append_comm (l₁ := l) (l₂ := [x])).trans (putL_perm l x).symm)
  have s1 := List.pairwise_mergeSort (le := fun a b : Int => decide (a ≤ b)) (fun a b c h1 h2 => by simp at *; omega) (fun a b => by simp; omega) (l ++ [x])
  have s2 : (putL l x).Pairwise (fun a b => decide (a ≤ b) = true) := (putL_rise x h hx).imp (fun hab => by simp; omega)
  exact List.Perm.eq_of_pairwise (le := fun a b : Int => decide (a ≤ b) = true) (fun a b _ _ h1 h2 => by simp at h1 h2; omega) s1 s2 p1
theorem rise_of {ks : List Int} (h : ∀ i, i < ks.length → 0 < i → rd ks ((i - 1 : Nat) : Int) < rd ks (i : Int)) : ks.Pairwise (· < ·) := by
  rw [List.pairwise_iff_getElem]
  have step : ∀ d i : Nat, (hd : i + 1 + d < ks.length) → ks[i]'(by omega) < ks[i + 1 + d]'hd := by
    intro d
    induction d with
    | zero =>
      intro i hd
      have := h (i + 1) (by omega) (by omega)
      rw [show ((i + 1 - 1 : Nat) : Int) = (i : Int) from rfl, rd_get ks i (by omega), rd_get ks (i + 1) (by omega)] at this
      exact this
    | succ d ih =>
      intro i hd
      have h1 := ih i (by omega)
      have := h (i + 1 + d + 1) (by omega) (by omega)
      rw [show ((i + 1 + d + 1 - 1 : Nat) : Int) = ((i + 1 + d : Nat) : Int) from rfl, rd_get ks (i + 1 + d) (by omega), rd_get ks (i + 1 + d + 1) (by omega)] at this
      exact Int.lt_trans h1 this
  intro i j hi hj hij
  obtain ⟨d, rfl⟩ : ∃ d, j = i + 1 + d := ⟨j - i - 1, by omega⟩
  exact step d i hj

theorem spec_l3Put_ev (l : List Int) (x : Int) (hl : l.length ≤ 1048576) : Ev (fun k => spec_l3Put.f k l x) (if inI x l = true then l else putL l x) := by
  unfold spec_l3Put.f
  refine Ev.bind (spec_l3Has_ev l x (by omega)) ?_
  by_cases hx : inI x l = true
  · simp only [hx, if_true]; exact Ev.now _
  · simp only [hx, if_false, Bool.false_eq_true]
    have loopT : ∀ (d i : Nat) (out : List Int), i + d = l.length → out.length ≤ 2000000 - d → Ev (fun k => spec_l3Put.l0 k l x out true (i : Int)) (out ++ l.drop i) := by
      intro d
      induction d with
      | zero =>
        intro i out hi ho
        refine Ev.step (f := fun _ => some out) (fun k => ?_) (ev_eq (Ev.now _) ?_)
        · simp only [spec_l3Put.l0]
          rw [if_neg (by omega), if_pos trivial]
        · rw [List.drop_of_length_le (by omega), List.append_nil]
      | succ d ih =>
        intro i out hi ho
        have hlt : i < l.length := by omega
        have e2 : wrap64 ((i : Int) + 1) = ((i + 1 : Nat) : Int) := by rw [w64 (x := (i : Int) + 1) (by omega) (by omega)]; omega
        have hr := ih (i + 1) (out ++ [l[i]]) (by omega) (by rw [List.length_append, List.length_singleton]; omega)
        rw [List.append_assoc, List.singleton_append, ← List.drop_eq_getElem_cons hlt] at hr
        refine Ev.step (fun k => ?_) hr
        simp only [spec_l3Put.l0]
        rw [if_pos (by omega), if_pos trivial, if_pos (by omega), if_pos (by omega), rd_get _ _ hlt, e2]
    have loopF : ∀ (d i : Nat) (out : List Int), i + d = l.length → out.length ≤ 1900000 - d → Ev (fun k => spec_l3Put.l0 k l x out false (i : Int)) (out ++ putL (l.drop i) x) := by
      intro d
      induction d with
      | zero =>
        intro i out hi ho
        refine Ev.step (f := fun _ => some (out ++ [x])) (fun k => ?_) (ev_eq (Ev.now _) ?_)
        · simp only [spec_l3Put.l0]
          rw [if_neg (by omega), if_neg (by decide), if_pos (by omega)]
        · rw [List.drop_of_length_le (by omega)]; rfl
      | succ d ih =>
        intro i out hi ho
        have hlt : i < l.length := by omega
        have e2 : wrap64 ((i : Int) + 1) = ((i + 1 : Nat) : Int) := by rw [w64 (x := (i : Int) + 1) (by omega) (by omega)]; omega
        by_cases hxi : x < l[i]
        · have hr := loopT d (i + 1) (out ++ [x] ++ [l[i]]) (by omega) (by simp; omega)
          have e3 : putL (l.drop i) x = x :: l.drop i := by
            rw [List.drop_eq_getElem_cons hlt]; unfold putL; rw [if_pos hxi]
          rw [e3]
          refine Ev.step (fun k => ?_) (ev_eq hr (by rw [List.drop_eq_getElem_cons hlt]; simp))
          simp only [spec_l3Put.l0]
          rw [if_pos (by omega), if_neg (by decide), if_pos (by omega), rd_get _ _ hlt, if_pos hxi, if_pos (by omega), Option.bind_some, if_pos (by simp; omega), e2]
        · have hr := ih (i + 1) (out ++ [l[i]]) (by omega) (by rw [List.length_append, List.length_singleton]; omega)
          have e3 : putL (l.drop i) x = l[i] :: putL (l.drop (i + 1)) x := by
            rw [List.drop_eq_getElem_cons hlt]; conv => lhs; unfold putL
            rw [if_neg hxi]
          rw [e3]
          refine Ev.step (fun k => ?_) (ev_eq hr (by rw [List.append_assoc, List.singleton_append]))
          simp only [spec_l3Put.l0]
          rw [if_pos (by omega), if_neg (by decide), if_pos (by omega), rd_get _ _ hlt, if_neg hxi, if_pos (by omega), e2]
    have := loopF l.length 0 [] (by omega) (by simp)
    simpa using this

noncomputable def inB (s : ByteArray) (l : List ByteArray) : Bool := @decide (s ∈ l) (Classical.propDecidable _)
theorem inB_t {s : ByteArray} {l : List ByteArray} (h : s ∈ l) : inB s l = true := @decide_eq_true _ (Classical.propDecidable _) h
theorem inB_f {s : ByteArray} {l : List ByteArray} (h : ¬ s ∈ l) : inB s l = false := @decide_eq_false _ (Classical.propDecidable _) h
theorem inB_nil (s : ByteArray) : inB s [] = false := inB_f (by simp)
theorem inB_eq {s x : ByteArray} {l : List ByteArray} (h : x = s) : inB s (x :: l) = true := inB_t (by simp [h])
theorem inB_ne {s x : ByteArray} {l : List ByteArray} (h : ¬ x = s) : inB s (x :: l) = inB s l := by
  have : ¬ s = x := fun e => h e.symm
  by_cases hs : s ∈ l
  · rw [inB_t hs, inB_t (List.mem_cons_of_mem _ hs)]
  · rw [inB_f hs, inB_f (by simp [hs, this])]
theorem inB_iff {s : ByteArray} {l : List ByteArray} {b : Bool} (h : b = true ↔ s ∈ l) : b = inB s l := by
  by_cases hs : s ∈ l
  · rw [inB_t hs, h.2 hs]
  · rw [inB_f hs]; cases b with
    | true => exact absurd (h.1 rfl) hs
    | false => rfl

theorem spec_l3In_ev (l : List ByteArray) (s : ByteArray) (hl : l.length ≤ 1073741824) : Ev (fun k => spec_l3In.f k l s) (inB s l) := by
  have loop : ∀ d i : Nat, i + d = l.length → Ev (fun k => spec_l3In.l0 k l s (i : Int)) (inB s (l.drop i)) := by
    intro d
    induction d with
    | zero =>
      intro i hi
      refine Ev.step (f := fun _ => some false) (fun k => ?_) (ev_eq (Ev.now _) ?_)
      · simp only [spec_l3In.l0]
        rw [if_neg (by omega)]
      · rw [List.drop_of_length_le (by omega), inB_nil]
    | succ d ih =>
      intro i hi
      have hlt : i < l.length := by omega
      have e2 : wrap64 ((i : Int) + 1) = ((i + 1 : Nat) : Int) := by rw [w64 (x := (i : Int) + 1) (by omega) (by omega)]; omega
      rw [List.drop_eq_getElem_cons hlt]
      by_cases h : l[i] = s
      · refine Ev.step (f := fun _ => some true) (fun k => ?_) (ev_eq (Ev.now _) (inB_eq h).symm)
        simp only [spec_l3In.l0]
        rw [if_pos (by omega), if_pos (by omega), rdOf_get _ _ hlt, if_pos ((toList_iff _ _).2 h)]
      · refine Ev.step (fun k => ?_) (ev_eq (ih (i + 1) (by omega)) ?_)
        · simp only [spec_l3In.l0]
          rw [if_pos (by omega), if_pos (by omega), rdOf_get _ _ hlt, if_neg (fun e => h ((toList_iff _ _).1 e)), e2]
        · exact (inB_ne h).symm
  have := loop l.length 0 (by omega)
  unfold spec_l3In.f
  simpa using this

theorem spec_l3Learn_ev (ts : List ByteArray) (ks : List Int) (s : ByteArray) (ht : ts.length ≤ 1048576) (hs : s.size ≤ 1048576) : Ev (fun k => spec_l3Learn.f k ts ks s) (if termB (bl s) = true then (if inB s ts = true then (ts, ks) else (if (ts.length : Int) < 60 then (ts ++ [s], ks) else (ts, ks))) else (ts, ks)) := by
  unfold spec_l3Learn.f
  refine Ev.bind (spec_TermOk_ev s (by omega)) ?_
  by_cases h1 : termB (bl s) = true
  · simp only [h1, if_true]
    refine Ev.bind (spec_l3In_ev ts s (by omega)) ?_
    by_cases h2 : inB s ts = true
    · simp only [h2, if_true]; exact Ev.now _
    · simp only [h2, if_false, Bool.false_eq_true]
      have h4 : ts.length < 8796093022208 := by omega
      by_cases h3 : (ts.length : Int) < 60
      · simp only [h3, h4, if_true]; exact Ev.now _
      · simp only [h3, if_false]; exact Ev.now _
  · simp only [h1, if_false, Bool.false_eq_true]; exact Ev.now _

theorem spec_l1PickInt_ok (b : List Int) (i h : Int) (l : List Int) (hb : b.length ≤ 140737488351232) (hi : 0 ≤ i) (hl : 1 ≤ l.length) : ∃ (x i' h' : Int), spec_l1PickInt.f b i h l = some (x, i', h') ∧ x ∈ l ∧ 0 ≤ i' := by
  unfold spec_l1PickInt.f
  obtain ⟨x, i', h', he, h0, h1, hi'⟩ := spec_l1Below_ok b i h (l.length : Int) hb hi (by omega)
  rw [he]
  simp only [Option.bind_some]
  rw [if_pos h0, if_pos h1]
  refine ⟨_, _, _, rfl, ?_, hi'⟩
  unfold rd
  rw [List.getD_eq_getElem?_getD, List.getElem?_eq_getElem (by omega)]
  exact List.getElem_mem _

theorem spec_l3Known_ok (b : List Int) (i h a : Int) (hb : b.length ≤ 140737488351232) (hi : 0 ≤ i) (ha : 1 ≤ a) (ha2 : a ≤ 25) : ∃ (ts : List ByteArray) (ks : List Int) (i' h' : Int), Ev (fun k => spec_l3Known.f k b i h a) (ts, ks, i', h') ∧ ts.length ≤ 100 ∧ (∀ p ∈ ts, p.size ≤ 1000) ∧ ks.length ≤ 100 ∧ 0 ≤ i' := by
  have more : ∀ (ts : List ByteArray) (t : ByteArray), (∀ p ∈ ts, p.size ≤ 1000) → t.size ≤ 1000 → ∀ p ∈ ts ++ [t], p.size ≤ 1000 := fun ts t h1 h2 p hp => by
    rcases List.mem_append.mp hp with hp | hp
    · exact h1 p hp
    · rw [List.mem_singleton.mp hp]; exact h2
  have loop : ∀ (d : Nat) (i h : Int) (ts : List ByteArray) (ks : List Int), 0 ≤ i → ts.length + d ≤ 50 → (∀ p ∈ ts, p.size ≤ 1000) → ks.length + d ≤ 50 → ∃ (ts' : List ByteArray) (ks' : List Int) (i' h' : Int), Ev (fun k => spec_l3Known.l0 k (d : Int) b i h ts ks) (ts', ks', i', h') ∧ ts'.length ≤ 100 ∧ (∀ p ∈ ts', p.size ≤ 1000) ∧ ks'.length ≤ 100 ∧ 0 ≤ i' := by
    intro d
    induction d with
    | zero =>
      intro i h ts ks hi g1 g2 g3
      obtain ⟨o, i1, h1, e1, hi1⟩ := spec_l1Once_ok b i h 10 hb hi (by decide)
      have c0 : ¬ (((0 : Nat) : Int) > 0) := by omega
      have ct : ts.length < 8796093022208 := by omega
      have ck : ks.length < 17592186044416 := by omega
      cases o with
      | false =>
        refine ⟨ts, ks, i1, h1, Ev.step (f := fun _ => some (ts, ks, i1, h1)) (fun k => ?_) (Ev.now _), by omega, g2, by omega, hi1⟩
        simp only [spec_l3Known.l0]
        rw [if_neg c0, e1, Option.bind_some, if_neg (show ¬ ((false : Bool) = true) by decide)]
      | true =>
        obtain ⟨x, i2, h2, e2, _, _, hi2⟩ := spec_l1Below_ok b i1 h1 3 hb hi1 (by decide)
        by_cases c1 : x = 0
        · obtain ⟨y, i3, h3, e3, _, hi3⟩ := spec_l1PickInt_ok b i2 h2 [0, 1, 1000001] hb hi2 (by decide)
          refine ⟨ts, ks ++ [y], i3, h3, Ev.step (f := fun _ => some (ts, ks ++ [y], i3, h3)) (fun k => ?_) (Ev.now _), by omega, g2, by simp; omega, hi3⟩
          simp only [spec_l3Known.l0]
          rw [if_neg c0, e1, Option.bind_some, if_pos rfl, e2, Option.bind_some, if_pos c1, e3, Option.bind_some, if_pos ck]
        · by_cases c2 : x = 1
          · obtain ⟨t, i3, h3, ev, ht, hi3⟩ := spec_l2Any_ok b i2 h2 hb hi2
            refine ⟨ts ++ [t], ks, i3, h3, Ev.step (f := fun k => (spec_l2Any.f k b i2 h2).bind fun bt => some (ts ++ [bt.1], ks, bt.2.1, bt.2.2)) (fun k => ?_) (Ev.bind ev (Ev.now _)), by simp; omega, more ts t g2 ht, by omega, hi3⟩
            simp only [spec_l3Known.l0]
            rw [if_neg c0, e1, Option.bind_some, if_pos rfl, e2, Option.bind_some, if_neg c1, if_pos c2]
            simp only [ct, if_true]
          · by_cases c3 : (ts.length : Int) > 0
            · have hlt : 0 < ts.length := by omega
              have e3 : rdOf ByteArray.empty ts 0 = ts[0] := rdOf_get ts 0 hlt
              refine ⟨ts ++ [ts[0]], ks, i2, h2, Ev.step (f := fun _ => some (ts ++ [ts[0]], ks, i2, h2)) (fun k => ?_) (Ev.now _), by simp; omega, more ts _ g2 (g2 _ (List.getElem_mem _)), by omega, hi2⟩
              simp only [spec_l3Known.l0]
              rw [if_neg c0, e1, Option.bind_some, if_pos rfl, e2, Option.bind_some, if_neg c1, if_neg c2, if_pos c3, if_pos (by omega), if_pos ct, e3]
            · refine ⟨ts, ks, i2, h2, Ev.step (f := fun _ => some (ts, ks, i2, h2)) (fun k => ?_) (Ev.now _), by omega, g2, by omega, hi2⟩
              simp only [spec_l3Known.l0]
              rw [if_neg c0, e1, Option.bind_some, if_pos rfl, e2, Option.bind_some, if_neg c1, if_neg c2, if_neg c3]
    | succ d ih =>
      intro i h ts ks hi g1 g2 g3
      obtain ⟨o, i1, h1, e1, hi1⟩ := spec_l1Once_ok b i h 4 hb hi (by decide)
      have c0 : ((d + 1 : Nat) : Int) > 0 := by omega
      have wd : wrap64 (((d + 1 : Nat) : Int) - 1) = (d : Int) := by rw [w64 (x := ((d + 1 : Nat) : Int) - 1) (by omega) (by omega)]; omega
      cases o with
      | true =>
        obtain ⟨x, i2, h2, e2, _, _, hi2⟩ := spec_l1Below_ok b i1 h1 6 hb hi1 (by decide)
        have hev := spec_l3Put_ev ks (wrap64 (1 + x)) (by omega)
        have hl : (if inI (wrap64 (1 + x)) ks = true then ks else putL ks (wrap64 (1 + x))).length ≤ ks.length + 1 := by
          split
          · omega
          · rw [putL_len]; omega
        generalize (if inI (wrap64 (1 + x)) ks = true then ks else putL ks (wrap64 (1 + x))) = ks2 at hev hl
        obtain ⟨ts', ks', i', h', ev, r1, r2, r3, r4⟩ := ih i2 h2 ts ks2 hi2 (by omega) g2 (by omega)
        refine ⟨ts', ks', i', h', Ev.step (f := fun k => (spec_l3Put.f k ks (wrap64 (1 + x))).bind fun t => spec_l3Known.l0 k (d : Int) b i2 h2 ts t) (fun k => ?_) (Ev.bind hev ev), r1, r2, r3, r4⟩
        simp only [spec_l3Known.l0]
        rw [if_pos c0, e1, Option.bind_some, if_pos rfl, e2, Option.bind_some, wd]
      | false =>
        obtain ⟨t, i2, h2, ev2, ht, hi2⟩ := spec_l2Some_ok b hb 4 (by omega) (by omega) i1 h1 hi1
        have hev := spec_l3Learn_ev ts ks t (by omega) (by omega)
        have hl : ∀ r : List ByteArray × List Int, (if termB (bl t) = true then (if inB t ts = true then (ts, ks) else (if (ts.length : Int) < 60 then (ts ++ [t], ks) else (ts, ks))) else (ts, ks)) = r → r.1.length ≤ ts.length + 1 ∧ (∀ p ∈ r.1, p.size ≤ 1000) ∧ r.2 = ks := by
          intro r hr
          subst hr
          repeat' split
          · exact ⟨by simp, g2, rfl⟩
          · exact ⟨by simp, more ts t g2 (by omega), rfl⟩
          · exact ⟨by simp, g2, rfl⟩
          · exact ⟨by simp, g2, rfl⟩
        generalize (if termB (bl t) = true then (if inB t ts = true then (ts, ks) else (if (ts.length : Int) < 60 then (ts ++ [t], ks) else (ts, ks))) else (ts, ks)) = r at hev hl
        obtain ⟨q1, q2, q3⟩ := hl r rfl
        obtain ⟨ts', ks', i', h', ev, r1, r2, r3, r4⟩ := ih i2 h2 r.1 r.2 hi2 (by omega) q2 (by rw [q3]; omega)
        refine ⟨ts', ks', i', h', Ev.step (f := fun k => (spec_l2Some.f k b i1 h1 4).bind fun bt => (spec_l3Learn.f k ts ks bt.1).bind fun bu => spec_l3Known.l0 k (d : Int) b bt.2.1 bt.2.2 bu.1 bu.2) (fun k => ?_) (Ev.bind ev2 (Ev.bind hev ev)), r1, r2, r3, r4⟩
        simp only [spec_l3Known.l0]
        rw [if_pos c0, e1, Option.bind_some, if_neg (show ¬ ((false : Bool) = true) by decide), wd]
  obtain ⟨x, i1, h1, e1, x0, x1, hi1⟩ := spec_l1Below_ok b i h a hb hi ha
  obtain ⟨d, rfl⟩ : ∃ d : Nat, x = (d : Int) := ⟨x.toNat, by omega⟩
  obtain ⟨ts', ks', i', h', ev, r⟩ := loop d i1 h1 [] [] hi1 (by simp only [List.length_nil]; omega) (fun p hp => by cases hp) (by simp only [List.length_nil]; omega)
  refine ⟨ts', ks', i', h', ?_, r⟩
  unfold spec_l3Known.f
  simp only [e1, Option.bind_some]
  exact ev

theorem spec_l1Size_ok (l : List Int) (a : Int) (hl : l.length ≤ 140737488351232) (ha : 2 ≤ a) : ∃ r : Int, spec_l1Size.f l a = some r ∧ 2 ≤ r ∧ r ≤ a := by
  unfold spec_l1Size.f
  have h0 : 0 ≤ (l.length : Int) / 20 := by omega
  rw [w64 (x := (l.length : Int) / 20) (by omega) (by omega), w64 (x := 2 + (l.length : Int) / 20) (by omega) (by omega)]
  by_cases h : 2 + (l.length : Int) / 20 > a
  · exact ⟨a, by rw [if_pos h], by omega, by omega⟩
  · exact ⟨_, by rw [if_neg h], by omega, by omega⟩

theorem spec_DrawBuild_ok (b : List Int) (hb : b.length ≤ 140737488351232) : ∃ (ts : List ByteArray) (ks : List Int) (t : ByteArray), Ev (fun k => spec_DrawBuild.f k b) (ts, ks, t) ∧ ts.length ≤ 1048576 ∧ (∀ p ∈ ts, p.size ≤ 1048576) ∧ ks.length ≤ 1048576 ∧ t.size ≤ 1048576 := by
  obtain ⟨h0, hn⟩ := spec_l1New_ok b hb
  obtain ⟨s, hes, hs0, hs1⟩ := spec_l1Size_ok b 15 hb (by decide)
  obtain ⟨ts, ks, i1, h1, ev1, g1, g2, g3, hi1⟩ := spec_l3Known_ok b 0 h0 s hb (by decide) (by omega) (by omega)
  obtain ⟨t, i2, h2, ev2, ht, hi2⟩ := spec_l2Any_ok b i1 h1 hb hi1
  have g2' : ∀ p ∈ ts, p.size ≤ 1048576 := fun p hp => by have := g2 p hp; omega
  have j0 : ∀ (o : Bool) (i h : Int), 0 ≤ i → (o = true → 1 ≤ ts.length) → ∃ t' : ByteArray, Ev (fun k => spec_DrawBuild.j0 k t o b i h ts ks) (ts, ks, t') ∧ t'.size ≤ 1000 := by
    intro o i h hi ho
    cases o with
    | false =>
      refine ⟨t, Ev.step (f := fun _ => some (ts, ks, t)) (fun k => ?_) (Ev.now _), ht⟩
      simp only [spec_DrawBuild.j0]
      rw [if_neg (by decide)]
    | true =>
      have hl := ho rfl
      obtain ⟨x, i3, h3, e3, x0, x1, hi3⟩ := spec_l1Below_ok b i h (ts.length : Int) hb hi (by omega)
      obtain ⟨n, rfl⟩ : ∃ n : Nat, x = (n : Int) := ⟨x.toNat, by omega⟩
      have hlt : n < ts.length := by omega
      obtain ⟨u, i4, h4, ev4, hu, hi4⟩ := spec_l2Some_ok b hb 2 (by omega) (by omega) i3 h3 hi3
      have hp := g2 _ (List.getElem_mem hlt)
      have hls := spec_List_ev [ts[n], u] (fun p hp2 => by
        simp only [List.mem_cons, List.not_mem_nil, or_false] at hp2
        rcases hp2 with rfl | rfl <;> omega)
      refine ⟨listS [ts[n], u], Ev.step (f := fun k => (spec_l2Some.f k b i3 h3 2).bind fun bt => (spec_List.f k [ts[n], bt.1]).bind fun v => some (ts, ks, v)) (fun k => ?_) (Ev.bind ev4 (Ev.bind hls (Ev.now _))), by have := listS_size [ts[n], u]; omega⟩
      simp only [spec_DrawBuild.j0]
      rw [if_pos trivial, e3, Option.bind_some]
      simp only [x0, x1, if_true, rdOf_get ts n hlt]
  unfold spec_DrawBuild.f
  by_cases hg : (ts.length : Int) > 0
  · obtain ⟨o, i3, h3, e3, hi3⟩ := spec_l1Once_ok b i2 h2 2 hb hi2 (by decide)
    obtain ⟨t', ev', ht'⟩ := j0 o i3 h3 hi3 (fun _ => by omega)
    refine ⟨ts, ks, t', Ev.bind hn ?_, by omega, g2', by omega, by omega⟩
    simp only [hes, Option.bind_some]
    refine Ev.bind ev1 (Ev.bind ev2 ?_)
    simp only [hg, if_true, e3, Option.bind_some]
    exact ev'
  · obtain ⟨t', ev', ht'⟩ := j0 false i2 h2 hi2 (fun h => by cases h)
    refine ⟨ts, ks, t', Ev.bind hn ?_, by omega, g2', by omega, by omega⟩
    simp only [hes, Option.bind_some]
    refine Ev.bind ev1 (Ev.bind ev2 ?_)
    simp only [hg, if_false]
    exact ev'

def knG (ts : List ByteArray) (i : Nat) : Prop := termB (bl (rdOf ByteArray.empty ts (i : Int))) = true ∧ ¬ (rdOf ByteArray.empty ts (i : Int) ∈ ts.take i)
def knR (ks : List Int) (i : Nat) : Prop := 1 ≤ rd ks (i : Int) ∧ rd ks (i : Int) ≤ 1000000
def knU (ks : List Int) (i : Nat) : Prop := 0 < i → rd ks ((i - 1 : Nat) : Int) < rd ks (i : Int)
def knownP (ts : List ByteArray) (ks : List Int) : Prop := (ts.length ≤ 60 ∧ ks.length ≤ 40) ∧ (∀ i, i < ts.length → knG ts i) ∧ (∀ i, i < ks.length → knR ks i ∧ knU ks i)
noncomputable def knownB (ts : List ByteArray) (ks : List Int) : Bool := @decide (knownP ts ks) (Classical.propDecidable _)
theorem knownB_t {ts : List ByteArray} {ks : List Int} (h : knownP ts ks) : knownB ts ks = true := @decide_eq_true _ (Classical.propDecidable _) h
theorem knownB_f {ts : List ByteArray} {ks : List Int} (h : ¬ knownP ts ks) : knownB ts ks = false := @decide_eq_false _ (Classical.propDecidable _) h

theorem spec_KnownOk_ev (ts : List ByteArray) (ks : List Int) (ht : ts.length ≤ 1048576) (hz : ∀ p ∈ ts, p.size ≤ 1048576) (hk : ks.length ≤ 1048576) : Ev (fun k => spec_KnownOk.f k ts ks) (knownB ts ks) := by
  have lp1 : (ts.length ≤ 60 ∧ ks.length ≤ 40) → (∀ i, i < ts.length → knG ts i) → ∀ d i : Nat, i + d = ks.length → (∀ j, j < i → knR ks j ∧ knU ks j) → Ev (fun k => spec_KnownOk.l1 k (i : Int) ts ks) (knownB ts ks) := by
    intro hl hG d
    induction d with
    | zero =>
      intro i hi hj
      refine Ev.step (f := fun _ => some true) (fun k => ?_) (ev_eq (Ev.now _) (knownB_t ⟨hl, hG, fun j h => hj j (by omega)⟩).symm)
      simp only [spec_KnownOk.l1]
      rw [if_neg (by omega)]
    | succ d ih =>
      intro i hi hj
      have e2 : wrap64 ((i : Int) + 1) = ((i + 1 : Nat) : Int) := by rw [w64 (x := (i : Int) + 1) (by omega) (by omega)]; omega
      by_cases hR : knR ks i
      · by_cases hU : knU ks i
        · refine Ev.step (fun k => ?_) (ih (i + 1) (by omega) (fun j h => by
            by_cases hji : j = i
            · subst hji; exact ⟨hR, hU⟩
            · exact hj j (by omega)))
          simp only [spec_KnownOk.l1]
          rw [if_pos (by omega), if_pos (by omega), spec_l1In_eq, Option.bind_some, decide_eq_true (show 1 ≤ rd ks (i : Int) ∧ rd ks (i : Int) ≤ 1000000 from hR), if_pos rfl]
          by_cases h0 : (i : Int) > 0
          · have e1 : wrap64 ((i : Int) - 1) = ((i - 1 : Nat) : Int) := by rw [w64 (x := (i : Int) - 1) (by omega) (by omega)]; omega
            have hu := hU (by omega)
            rw [if_pos h0, e1, if_pos (by omega), if_pos (by omega), if_neg (by omega), e2]
          · rw [if_neg h0, e2]
        · refine Ev.step (f := fun _ => some false) (fun k => ?_) (ev_eq (Ev.now _) (knownB_f (fun hp => hU (hp.2.2 i (by omega)).2)).symm)
          have h0 : (i : Int) > 0 := by
            by_cases h : 0 < i
            · omega
            · exact absurd (fun h' => absurd h' h) hU
          have hu : ¬ (rd ks ((i - 1 : Nat) : Int) < rd ks (i : Int)) := fun h => hU (fun _ => h)
          have e1 : wrap64 ((i : Int) - 1) = ((i - 1 : Nat) : Int) := by rw [w64 (x := (i : Int) - 1) (by omega) (by omega)]; omega
          simp only [spec_KnownOk.l1]
          rw [if_pos (by omega), if_pos (by omega), spec_l1In_eq, Option.bind_some, decide_eq_true (show 1 ≤ rd ks (i : Int) ∧ rd ks (i : Int) ≤ 1000000 from hR), if_pos rfl, if_pos h0, e1, if_pos (by omega), if_pos (by omega), if_pos (by omega)]
      · refine Ev.step (f := fun _ => some false) (fun k => ?_) (ev_eq (Ev.now _) (knownB_f (fun hp => hR (hp.2.2 i (by omega)).1)).symm)
        simp only [spec_KnownOk.l1]
        rw [if_pos (by omega), if_pos (by omega), spec_l1In_eq, Option.bind_some, decide_eq_false (show ¬ (1 ≤ rd ks (i : Int) ∧ rd ks (i : Int) ≤ 1000000) from hR), if_neg (by decide)]
  have lp0 : (ts.length ≤ 60 ∧ ks.length ≤ 40) → ∀ d i : Nat, i + d = ts.length → (∀ j, j < i → knG ts j) → Ev (fun k => spec_KnownOk.l0 k (i : Int) ts ks) (knownB ts ks) := by
    intro hl d
    induction d with
    | zero =>
      intro i hi hj
      refine Ev.step (fun k => ?_) (lp1 hl (fun j h => hj j (by omega)) ks.length 0 (by omega) (fun j h => by omega))
      simp only [spec_KnownOk.l0]
      rw [if_neg (by omega)]
      rfl
    | succ d ih =>
      intro i hi hj
      have hlt : i < ts.length := by omega
      have hget : rdOf ByteArray.empty ts (i : Int) = ts[i] := rdOf_get _ _ hlt
      have hsz : (rdOf ByteArray.empty ts (i : Int)).size ≤ 1048576 := by rw [hget]; exact hz _ (List.getElem_mem hlt)
      have e2 : wrap64 ((i : Int) + 1) = ((i + 1 : Nat) : Int) := by rw [w64 (x := (i : Int) + 1) (by omega) (by omega)]; omega
      refine Ev.step (f := fun k => (spec_TermOk.f k (rdOf ByteArray.empty ts (i : Int))).bind fun t => (if t = true then (spec_l3In.f k (ts.take i) (rdOf ByteArray.empty ts (i : Int))).bind fun t => (if t = true then some false else spec_KnownOk.l0 k ((i + 1 : Nat) : Int) ts ks) else some false)) (fun k => ?_) ?_
      · simp only [spec_KnownOk.l0]
        have c1 : (i : Int) < (ts.length : Int) := by omega
        have c2 : 0 ≤ (i : Int) := by omega
        have c3 : (i : Int) ≤ (ts.length : Int) := by omega
        simp only [c1, c2, c3, if_true, e2, Int.toNat_natCast]
      · refine Ev.bind (spec_TermOk_ev _ (by omega)) ?_
        by_cases h1 : termB (bl (rdOf ByteArray.empty ts (i : Int))) = true
        · simp only [h1, if_true]
          refine Ev.bind (spec_l3In_ev _ _ (by rw [List.length_take]; omega)) ?_
          by_cases h2 : rdOf ByteArray.empty ts (i : Int) ∈ ts.take i
          · simp only [inB_t h2, if_true]
            exact ev_eq (Ev.now _) (knownB_f (fun hp => (hp.2.1 i hlt).2 h2)).symm
          · simp only [inB_f h2, Bool.false_eq_true, if_false]
            refine ih (i + 1) (by omega) (fun j h => ?_)
            by_cases hji : j = i
            · subst hji; exact ⟨h1, h2⟩
            · exact hj j (by omega)
        · simp only [h1, if_false]
          exact ev_eq (Ev.now _) (knownB_f (fun hp => h1 (hp.2.1 i hlt).1)).symm
  have dead : ¬ (ts.length ≤ 60 ∧ ks.length ≤ 40) → Ev (fun k => spec_KnownOk.j0 k true ts ks) (knownB ts ks) := by
    intro h
    refine Ev.step (f := fun _ => some false) (fun k => ?_) (ev_eq (Ev.now _) (knownB_f (fun hp => h hp.1)).symm)
    simp [spec_KnownOk.j0]
  unfold spec_KnownOk.f
  by_cases h1 : (ts.length : Int) > 60
  · simp only [h1, if_true]
    exact dead (by omega)
  · by_cases h2 : (ks.length : Int) > 40
    · simp only [h1, h2, if_false, decide_true]
      exact dead (by omega)
    · simp only [h1, h2, if_false, decide_false]
      refine Ev.step (fun k => ?_) (lp0 (by omega) ts.length 0 (by omega) (fun j h => by omega))
      simp only [spec_KnownOk.j0]
      rw [if_neg (by decide)]
      rfl

theorem impl_within_eq (a lo hi : Int) : impl_within.f a lo hi = some (decide (lo ≤ a ∧ a ≤ hi)) := by
  unfold impl_within.f
  by_cases h : a ≥ lo
  · rw [if_pos h]; congr 1; simp [show lo ≤ a from h]
  · rw [if_neg h]; congr 1; simp [show ¬ lo ≤ a from h]

theorem impl_isKey_eq (a : Int) : impl_isKey.f a = some (decide (1 ≤ a ∧ a ≤ 1000000)) := by
  unfold impl_isKey.f; rw [impl_within_eq, Option.bind_some]

theorem impl_Var_loop (j : Nat) : ∀ (n : Nat) (acc : List Int), n < 128 ^ (j + 1) → n ≤ MAXV → acc.length + j < 1000 →
    Ev (fun k => impl_Var.l0 k (n : Int) acc) (strOfNums (acc ++ (var n).map fun (m : Nat) => (m : Int))) := by
  induction j with
  | zero =>
    intro n acc hn hm ha
    have hn' : n < 128 := by simpa using hn
    refine Ev.step (f := fun _ => some (strOfNums (acc ++ (var n).map fun (m : Nat) => (m : Int)))) (fun k => ?_) (Ev.now _)
    simp only [impl_Var.l0]
    rw [if_neg (by omega), if_pos (by omega), var_small hn', show (n : Int) % 256 = (n : Int) by omega]; rfl
  | succ j ih =>
    intro n acc hn hm ha
    by_cases h : n < 128
    · refine Ev.step (f := fun _ => some (strOfNums (acc ++ (var n).map fun (m : Nat) => (m : Int)))) (fun k => ?_) (Ev.now _)
      simp only [impl_Var.l0]
      rw [if_neg (by omega), if_pos (by omega), var_small h, show (n : Int) % 256 = (n : Int) by omega]; rfl
    · have hd : n / 128 < 128 ^ (j + 1) := Nat.div_lt_of_lt_mul (by rw [Nat.pow_succ] at hn; omega)
      have hr := ih (n / 128) (acc ++ [((n % 128 + 128 : Nat) : Int)]) hd (by omega) (by simp; omega)
      refine Ev.step (f := fun k => impl_Var.l0 k ((n / 128 : Nat) : Int) (acc ++ [((n % 128 + 128 : Nat) : Int)])) (fun k => ?_) (ev_eq hr ?_)
      · simp only [impl_Var.l0]
        rw [if_pos (by omega), if_pos (by omega), or_and n (by unfold MAXV at hm; omega)]
        congr 1
      · rw [var_big h, List.map_cons, List.append_assoc]; rfl
theorem impl_Var_ev (n : Int) : Ev (fun k => impl_Var.f k n) (varS n) := by
  unfold impl_Var.f
  simp only [impl_within_eq, Option.bind_some]
  by_cases h : 0 ≤ n ∧ n ≤ 562949953421311
  · simp only [h, decide_true, if_true]
    obtain ⟨m, rfl⟩ := Int.eq_ofNat_of_zero_le h.1
    have hm : m ≤ MAXV := by unfold MAXV; omega
    refine ev_eq (impl_Var_loop 6 m [] (by unfold MAXV at hm; omega) hm (by simp)) ?_
    rw [varS_in hm]; rfl
  · simp only [h, decide_false]
    rw [varS_out h]
    exact Ev.now _

theorem impl_ReadVar_loop (s : ByteArray) (hs : s.size ≤ 140737488355327) (d : Nat) : ∀ (i n : Nat), i + d = 7 → i ≤ (bl s).length → (∀ j, j < i → 128 ≤ (bl s).getD j 0) → n = val ((bl s).take i) →
    Ev (fun k => impl_ReadVar.l0 k s (n : Int) (i : Int)) (rvI (bl s)) := by
  have hl := bl_len s
  induction d with
  | zero =>
    intro i n hi hle hc hn
    have e : rvI (bl s) = (0, 0) := rvI_none (fun n k hR => R_far (bl s) i hc (Or.inr (by omega)) hR)
    rw [e]
    refine Ev.step (f := fun k => impl_ReadVar.j1 k s (n : Int) (i : Int) false) (fun k => ?_) (Ev.step (f := fun _ => some (0, 0)) (fun k => ?_) (Ev.now _))
    · simp only [impl_ReadVar.l0]
      by_cases h : (i : Int) < (s.size : Int)
      · rw [if_pos h, decide_eq_false (by omega)]
      · rw [if_neg h]
    · simp [impl_ReadVar.j1]
  | succ d ih =>
    intro i n hi hle hc hn
    by_cases h : i < (bl s).length
    · have is_ : (i : Int) < (s.size : Int) := by omega
      have i7 : (i : Int) < 7 := by omega
      have i0 : 0 ≤ (i : Int) := by omega
      have i1s : ((i + 1 : Nat) : Int) ≤ (s.size : Int) := by omega
      have i10 : 0 ≤ ((i + 1 : Nat) : Int) := by omega
      have i1S : i + 1 ≤ s.size := by omega
      have hw1 : Aside0 (wrap64 ((i : Int) + 1) = ((i + 1 : Nat) : Int)) := ⟨by rw [w64 (by omega) (by omega)]; omega⟩
      have hw7 : Aside0 (0 ≤ wrap64 (7 * (i : Int))) := ⟨by rw [w64 (by omega) (by omega)]; omega⟩
      have hj : ∀ k, impl_ReadVar.l0 (k + 1) s (n : Int) (i : Int) = impl_ReadVar.j1 k s (n : Int) (i : Int) true := by
        intro k
        simp only [impl_ReadVar.l0]
        rw [if_pos is_, decide_eq_true i7]
      have hb : bt s (i : Int) = (((bl s)[i] : Nat) : Int) := bt_get s i h
      have hb256 : (bl s)[i] < 256 := bl_lt s _ (List.getElem_mem h)
      have hnlt : n < 128 ^ i := by
        have := val_lt ((bl s).take i)
        rw [List.length_take, Nat.min_eq_left hle] at this
        omega
      have ho := or_shl n i (bl s)[i] hnlt (by omega) hb256
      have hv := val_take (bl s) i h
      have hnn : n + 128 ^ i * ((bl s)[i] % 128) = val ((bl s).take (i + 1)) := by rw [hv, hn]
      have hsum := val_lt ((bl s).take (i + 1))
      rw [List.length_take, Nat.min_eq_left (by omega)] at hsum
      have hp : 128 ^ (i + 1) ≤ 128 ^ 7 := Nat.pow_le_pow_right (by decide) (by omega)
      have hmax : n + 128 ^ i * ((bl s)[i] % 128) ≤ MAXV := by
        have h7 : (128 : Nat) ^ 7 = 562949953421312 := by decide
        rw [hnn]; unfold MAXV; omega
      have hg : (bl s).getD i 0 = (bl s)[i] := by rw [List.getD_eq_getElem?_getD, List.getElem?_eq_getElem h]; rfl
      by_cases hlt : (bl s)[i] < 128
      · have hvar := impl_Var_ev ((n + 128 ^ i * ((bl s)[i] % 128) : Nat) : Int)
        refine Ev.step hj (Ev.step (f := fun k => (impl_Var.f k ((n + 128 ^ i * ((bl s)[i] % 128) : Nat) : Int)).bind fun t => (if t.toList = (s.extract 0 (i + 1)).toList then some (((n + 128 ^ i * ((bl s)[i] % 128) : Nat) : Int), ((i + 1 : Nat) : Int)) else some (0, 0))) (fun k => ?_) (Ev.bind hvar ?_))
        · simp only [impl_ReadVar.j1, if_true]
          rw [if_pos i0, if_pos is_, if_pos hw7.out, hb, if_pos (show (((bl s)[i] : Nat) : Int) < 128 from Int.ofNat_lt.mpr hlt), ho, hw1.out]
          congr 1
          funext t
          rw [if_pos i10, if_pos i1s]
          rfl
        · by_cases hR : R (bl s) (n + 128 ^ i * ((bl s)[i] % 128)) (i + 1)
          · rw [rvI_some hR]
            have := (R_iff s _ (i + 1) hmax i1S).2 hR
            simp only [this, if_true]
            exact Ev.now _
          · have hne : ¬ varS ((n + 128 ^ i * ((bl s)[i] % 128) : Nat) : Int) = s.extract 0 (i + 1) := fun e => hR ((R_iff s _ (i + 1) hmax i1S).1 e)
            have hnone : rvI (bl s) = (0, 0) := rvI_none (fun n' k' hR' => by
              have hk := R_upto (bl s) i h (by omega) hc hlt hR'
              subst hk
              have hv' := R_val hR'
              rw [← hnn] at hv'
              rw [← hv'] at hR'
              exact hR hR')
            rw [hnone]
            simp only [toList_iff, hne, if_false]
            exact Ev.now _
      · have hr := ih (i + 1) (n + 128 ^ i * ((bl s)[i] % 128)) (by omega) (by omega) (fun j hj => by
          by_cases he : j < i
          · exact hc j he
          · have : j = i := by omega
            rw [this, hg]; omega) hnn
        refine Ev.step hj (Ev.step (f := fun k => impl_ReadVar.l0 k s ((n + 128 ^ i * ((bl s)[i] % 128) : Nat) : Int) ((i + 1 : Nat) : Int)) (fun k => ?_) hr)
        simp only [impl_ReadVar.j1, if_true]
        rw [if_pos i0, if_pos is_, if_pos hw7.out, hb, if_neg (show ¬ (((bl s)[i] : Nat) : Int) < 128 from fun e => hlt (Int.ofNat_lt.mp e)), ho, hw1.out]
    · have e : rvI (bl s) = (0, 0) := rvI_none (fun n k hR => R_far (bl s) i hc (Or.inl (by omega)) hR)
      rw [e]
      refine Ev.step (f := fun k => impl_ReadVar.j1 k s (n : Int) (i : Int) false) (fun k => ?_) (Ev.step (f := fun _ => some (0, 0)) (fun k => ?_) (Ev.now _))
      · simp only [impl_ReadVar.l0]
        rw [if_neg (by omega)]
      · simp [impl_ReadVar.j1]
theorem impl_ReadVar_ev (s : ByteArray) (hs : s.size ≤ 140737488355327) : Ev (fun k => impl_ReadVar.f k s) (rvI (bl s)) := by
  unfold impl_ReadVar.f
  exact impl_ReadVar_loop s hs 7 0 0 (by omega) (by omega) (by intro j hj; omega) (by simp [val])

theorem impl_varAt_ev (s : ByteArray) (hs : s.size ≤ 140737488355327) (a : Nat) (ha : a ≤ s.size) : Ev (fun k => impl_varAt.f k s (a : Int)) (vA (bl s) a) := by
  unfold impl_varAt.f
  have h1 : 0 ≤ (a : Int) := by omega
  have h2 : (a : Int) ≤ (s.size : Int) := by omega
  simp only [h1, h2, if_true, Int.toNat_natCast]
  have hsz : (s.extract a s.size).size ≤ 140737488355327 := by rw [ByteArray.size_extract]; omega
  refine Ev.bind (impl_ReadVar_ev _ hsz) ?_
  rw [bl_from]
  unfold vA rvI
  cases hr : rv ((bl s).drop a) with
  | none => simp only [if_true]; exact Ev.now _
  | some p =>
    obtain ⟨n, k⟩ := p
    have hp := R_pos (rv_R hr)
    have hl := R_le (rv_R hr)
    simp only at hp hl
    rw [List.length_drop, bl_len] at hl
    have hne : ¬ ((k : Int) = 0) := by omega
    simp only [hne, if_false]
    rw [w64 (by omega) (by omega)]
    exact Ev.now _

theorem impl_termAt_list (s : ByteArray) (hs : s.size ≤ 140737488355327) (d : Nat) (hd : d ≤ 100) (n : Nat) (hn : n ≤ 12)
    (hf : ∀ a, a ≤ s.size → Ev (fun k => impl_termAt.f k s (a : Int) (d : Int)) (tA a (parse d ((bl s).drop a)))) (r : Nat) : ∀ (i a : Nat), i + r = n → a ≤ s.size →
    Ev (fun k => impl_termAt.l0 k s ((d + 1 : Nat) : Int) (n : Int) (a : Int) (i : Int)) (tA a (many (parse d) r ((bl s).drop a))) := by
  have hw : Aside0 (wrap64 (((d + 1 : Nat) : Int) - 1) = (d : Int)) := ⟨by rw [w64 (by omega) (by omega)]; omega⟩
  have bad : ∀ i : Int, Ev (fun k => impl_termAt.l0 k s ((d + 1 : Nat) : Int) (n : Int) (-1) i) (-1) := by
    intro i
    refine Ev.step (f := fun _ => some (-1)) (fun k => ?_) (Ev.now _)
    simp only [impl_termAt.l0]
    by_cases h : i < (n : Int)
    · rw [if_pos h, if_neg (by decide)]
    · rw [if_neg h]
  induction r with
  | zero =>
    intro i a hi ha
    refine Ev.step (f := fun _ => some ((a : Int))) (fun k => ?_) (ev_eq (Ev.now _) ?_)
    · simp only [impl_termAt.l0]; rw [if_neg (by omega)]
    · simp [many, tA]
  | succ r ih =>
    intro i a hi ha
    have hi1 : Aside0 (wrap64 ((i : Int) + 1) = ((i + 1 : Nat) : Int)) := ⟨by rw [w64 (by omega) (by omega)]; omega⟩
    refine Ev.step (f := fun k => (impl_termAt.f k s (a : Int) (d : Int)).bind fun t => impl_termAt.l0 k s ((d + 1 : Nat) : Int) (n : Int) t ((i + 1 : Nat) : Int)) (fun k => ?_) (Ev.bind (hf a ha) ?_)
    · simp only [impl_termAt.l0]; rw [if_pos (by omega), if_pos (by omega), hw.out, hi1.out]
    · rw [many_succ]
      cases hp : parse d ((bl s).drop a) with
      | none => exact bad _
      | some m =>
        have hle := (parse_le d _ _ hp).2
        rw [List.length_drop, bl_len] at hle
        have := ih (i + 1) (a + m) (by omega) (by omega)
        rw [← List.drop_drop, tA_add] at this
        exact this
theorem impl_termAt_ev (s : ByteArray) (hs : s.size ≤ 140737488355327) (d : Nat) : ∀ (a : Nat), d ≤ 100 → a ≤ s.size → Ev (fun k => impl_termAt.f k s (a : Int) (d : Int)) (tA a (parse d ((bl s).drop a))) := by
  have hl := bl_len s
  have dead : ∀ (a d : Int), Ev (fun k => impl_termAt.j0 k s a d true) (-1) := by
    intro a d
    refine Ev.step (f := fun _ => some (-1)) (fun k => ?_) (Ev.now _)
    simp [impl_termAt.j0]
  induction d with
  | zero =>
    intro a hd ha
    by_cases h : (a : Int) ≥ (s.size : Int)
    · refine Ev.step (fun k => ?_) (ev_eq (dead (a : Int) ((0 : Nat) : Int)) (by simp [parse, tA]))
      simp only [impl_termAt.f]; rw [if_pos h]
    · refine Ev.step (fun k => ?_) (ev_eq (dead (a : Int) ((0 : Nat) : Int)) (by simp [parse, tA]))
      simp only [impl_termAt.f]; rw [if_neg h, decide_eq_true (by decide)]
  | succ d ih =>
    intro a hd ha
    by_cases h : (a : Int) ≥ (s.size : Int)
    · refine Ev.step (fun k => ?_) (ev_eq (dead (a : Int) ((d + 1 : Nat) : Int)) ?_)
      · simp only [impl_termAt.f]; rw [if_pos h]
      · rw [List.drop_of_length_le (by omega), parse_nil]; rfl
    · have hlt : a < (bl s).length := by omega
      have hs1 : 0 ≤ (a : Int) := by omega
      have hs2 : (a : Int) < (s.size : Int) := by omega
      have ha1 : Aside0 (wrap64 ((a : Int) + 1) = ((a + 1 : Nat) : Int)) := ⟨by rw [w64 (by omega) (by omega)]; omega⟩
      have hd1 : Aside0 (wrap64 (((d + 1 : Nat) : Int) - 1) = (d : Int)) := ⟨by rw [w64 (by omega) (by omega)]; omega⟩
      have hv := impl_varAt_ev s hs (a + 1) (by omega)
      have hcons : (bl s).drop a = (bl s)[a] :: (bl s).drop (a + 1) := List.drop_eq_getElem_cons hlt
      have hstep : ∀ k, impl_termAt.f (k + 1) s (a : Int) ((d + 1 : Nat) : Int) = impl_termAt.j0 k s (a : Int) ((d + 1 : Nat) : Int) false := by
        intro k; simp only [impl_termAt.f]; rw [if_neg h, decide_eq_false (by omega)]
      refine Ev.step hstep ?_
      refine Ev.step (fun k => by simp only [impl_termAt.j0]; rw [if_neg (by decide), ha1.out]) (Ev.bind hv ?_)
      simp only [hs1, hs2, if_true, bt_get s a hlt, impl_within_eq, impl_isKey_eq, Option.bind_some]
      rw [hcons]
      generalize (bl s)[a] = c
      rw [parse]
      unfold vA
      cases hr : rv ((bl s).drop (a + 1)) with
      | none =>
        refine ev_of (fun k => ?_)
        simp [tA]
      | some p =>
        obtain ⟨n, k'⟩ := p
        have hR := rv_R hr
        have hk := R_le hR
        have hn9 := hR.1
        unfold MAXV at hn9
        simp only at hk hn9
        rw [List.length_drop, hl] at hk
        simp only []
        by_cases c1 : c = 97
        · subst c1
          simp only [if_true, List.length_drop, hl]
          by_cases c2 : n ≤ 40
          · have c2' : 0 ≤ (n : Int) ∧ (n : Int) ≤ 40 := by omega
            simp only [c2', decide_true, if_true, c2, true_and]
            rw [w64 (by omega) (by omega)]
            by_cases c3 : n ≤ s.size - (a + 1) - k'
            · rw [if_pos c3]
              have c3' : ¬ ((n : Int) > (s.size : Int) - ((a + 1 + k' : Nat) : Int)) := by omega
              simp only [c3', if_false]
              rw [w64 (by omega) (by omega)]
              refine ev_eq (Ev.now _) ?_
              simp [tA]; omega
            · rw [if_neg c3]
              have c3' : ((n : Int) > (s.size : Int) - ((a + 1 + k' : Nat) : Int)) := by omega
              simp only [c3', if_true]
              exact Ev.now _
          · have c2' : ¬ (0 ≤ (n : Int) ∧ (n : Int) ≤ 40) := by omega
            simp only [c2', decide_false, c2, false_and, if_false]
            exact Ev.now _
        · have c1' : ¬ ((c : Int) = 97) := by omega
          simp only [c1', c1, if_false]
          by_cases c4 : c = 107
          · subst c4
            simp only [if_true]
            by_cases c5 : 1 ≤ n ∧ n ≤ 1000000
            · have c5' : 1 ≤ (n : Int) ∧ (n : Int) ≤ 1000000 := by omega
              simp only [c5', c5, decide_true, if_true, and_self]
              refine ev_eq (Ev.now _) ?_
              simp [tA]; omega
            · have c5' : ¬ (1 ≤ (n : Int) ∧ (n : Int) ≤ 1000000) := by omega
              simp only [c5', c5, decide_false, if_false]
              exact Ev.now _
          · have c4' : ¬ ((c : Int) = 107) := by omega
            simp only [c4', c4, if_false]
            by_cases c6 : c = 108
            · subst c6
              simp only [if_true]
              by_cases c7 : n ≤ 12
              · have c7' : 0 ≤ (n : Int) ∧ (n : Int) ≤ 12 := by omega
                simp only [c7', decide_true, if_true, c7]
                have hL := impl_termAt_list s hs d (by omega) n c7 (fun a ha => ih a (by omega) ha) n 0 (a + 1 + k') (by omega) (by omega)
                rw [← List.drop_drop] at hL
                refine ev_eq hL ?_
                cases hq : many (parse d) n (((bl s).drop (a + 1)).drop k') with
                | none => rfl
                | some q => simp [tA]; omega
              · have c7' : ¬ (0 ≤ (n : Int) ∧ (n : Int) ≤ 12) := by omega
                simp only [c7', c7, decide_false, if_false]
                exact Ev.now _
            · have c6' : ¬ ((c : Int) = 108) := by omega
              simp only [c6', c6, if_false]
              by_cases c8 : c = 115
              · subst c8
                simp only [if_true]
                by_cases c5 : 1 ≤ n ∧ n ≤ 1000000
                · have c5' : 1 ≤ (n : Int) ∧ (n : Int) ≤ 1000000 := by omega
                  simp only [c5', c5, decide_true, if_true, and_self, hd1.out]
                  refine Ev.bind (ih (a + 1 + k') (by omega) (by omega)) ?_
                  rw [← List.drop_drop]
                  refine ev_eq (Ev.now _) ?_
                  cases hq : parse d (((bl s).drop (a + 1)).drop k') with
                  | none => rfl
                  | some q => simp [tA]; omega
                · have c5' : ¬ (1 ≤ (n : Int) ∧ (n : Int) ≤ 1000000) := by omega
                  simp only [c5', c5, decide_false, if_false]
                  exact Ev.now _
              · have c8' : ¬ ((c : Int) = 115) := by omega
                simp only [c8', c8, if_false]
                exact Ev.now _

theorem impl_TermOk_ev (s : ByteArray) (hs : s.size ≤ 140737488355327) : Ev (fun k => impl_TermOk.f k s) (termB (bl s)) := by
  have hl := bl_len s
  unfold impl_TermOk.f
  simp only [impl_within_eq, Option.bind_some]
  unfold termB
  by_cases h : 1 ≤ (s.size : Int) ∧ (s.size : Int) ≤ 900
  · simp only [h, decide_true, if_true, and_self]
    have ht := impl_termAt_ev s hs 8 0 (by decide) (by omega)
    refine Ev.bind ht (ev_eq (Ev.now _) ?_)
    rw [List.drop_zero, hl]
    have h1 : 1 ≤ s.size := by omega
    have h2 : s.size ≤ 900 := by omega
    cases hp : parse 8 (bl s) with
    | none => simp [tA]
    | some m => simp [tA, h1, h2]; rw [Bool.eq_iff_iff]; simp; omega
  · simp only [h, decide_false]
    refine ev_eq (Ev.now _) ?_
    rw [decide_eq_false]; rw [hl]; omega

theorem slices_Index_string_string_ev (l : List ByteArray) (s : ByteArray) (hl : l.length ≤ 1073741824) : ∃ r : Int, Ev (fun k => slices_Index_string_string.f k l s) r ∧ (r ≥ 0 ↔ s ∈ l) := by
  have loop : ∀ d i : Nat, i + d = l.length → ∃ r : Int, Ev (fun k => slices_Index_string_string.l0 k l s (l.length : Int) (i : Int)) r ∧ (r ≥ 0 ↔ s ∈ l.drop i) := by
    intro d
    induction d with
    | zero =>
      intro i hi
      refine ⟨-1, Ev.step (f := fun _ => some (-1)) (fun k => ?_) (Ev.now _), ?_⟩
      · simp only [slices_Index_string_string.l0]
        rw [if_neg (by omega)]
      · rw [List.drop_of_length_le (by omega)]; simp
    | succ d ih =>
      intro i hi
      have hlt : i < l.length := by omega
      have e2 : wrap64 ((i : Int) + 1) = ((i + 1 : Nat) : Int) := by rw [w64 (x := (i : Int) + 1) (by omega) (by omega)]; omega
      rw [List.drop_eq_getElem_cons hlt]
      by_cases h : s = l[i]
      · refine ⟨i, Ev.step (f := fun _ => some (i : Int)) (fun k => ?_) (Ev.now _), ?_⟩
        · simp only [slices_Index_string_string.l0]
          rw [if_pos (by omega), if_pos (by omega), if_pos (by omega), rdOf_get _ _ hlt, if_pos ((toList_iff _ _).2 h)]
        · exact ⟨fun _ => by rw [h]; exact List.mem_cons_self, fun _ => by omega⟩
      · obtain ⟨r, hr, hi2⟩ := ih (i + 1) (by omega)
        refine ⟨r, Ev.step (fun k => ?_) hr, ?_⟩
        · simp only [slices_Index_string_string.l0]
          rw [if_pos (by omega), if_pos (by omega), if_pos (by omega), rdOf_get _ _ hlt, if_neg (fun e => h ((toList_iff _ _).1 e)), e2]
        · rw [hi2, List.mem_cons]; exact ⟨Or.inr, fun e => e.resolve_left h⟩
  have := loop l.length 0 (by omega)
  unfold slices_Index_string_string.f
  simpa using this

theorem slices_Contains_string_string_ev (l : List ByteArray) (s : ByteArray) (hl : l.length ≤ 1073741824) : Ev (fun k => slices_Contains_string_string.f k l s) (inB s l) := by
  obtain ⟨r, hr, h⟩ := slices_Index_string_string_ev l s hl
  unfold slices_Contains_string_string.f
  refine Ev.bind hr (ev_eq (Ev.now _) ?_)
  exact inB_iff (by rw [decide_eq_true_eq]; exact h)

theorem impl_rises_ev (ks : List Int) (hk : ks.length ≤ 1048576) : ∃ b : Bool, Ev (fun k => impl_rises.f k ks) b ∧ (b = true ↔ ∀ i, i < ks.length → knU ks i) := by
  have lp : ∀ d i : Nat, i + d = ks.length ∨ ks.length ≤ i → 1 ≤ i → i ≤ 1048577 → (∀ j, j < i → j < ks.length → knU ks j) → ∃ b : Bool, Ev (fun k => impl_rises.l0 k ks (i : Int)) b ∧ (b = true ↔ ∀ i, i < ks.length → knU ks i) := by
    intro d
    induction d with
    | zero =>
      intro i hi h1 hb hj
      refine ⟨true, Ev.step (f := fun _ => some true) (fun k => ?_) (Ev.now _), ⟨fun _ j h => hj j (by omega) h, fun _ => rfl⟩⟩
      simp only [impl_rises.l0]
      rw [if_neg (by omega)]
    | succ d ih =>
      intro i hi h1 hb hj
      by_cases hlt : i < ks.length
      · have e2 : wrap64 ((i : Int) + 1) = ((i + 1 : Nat) : Int) := by rw [w64 (x := (i : Int) + 1) (by omega) (by omega)]; omega
        have e1 : wrap64 ((i : Int) - 1) = ((i - 1 : Nat) : Int) := by rw [w64 (x := (i : Int) - 1) (by omega) (by omega)]; omega
        by_cases hU : rd ks ((i - 1 : Nat) : Int) < rd ks (i : Int)
        · obtain ⟨b, hb1, hb2⟩ := ih (i + 1) (by omega) (by omega) (by omega) (fun j h h' => by
            by_cases hji : j = i
            · subst hji; exact fun _ => hU
            · exact hj j (by omega) h')
          refine ⟨b, Ev.step (fun k => ?_) hb1, hb2⟩
          simp only [impl_rises.l0]
          rw [if_pos (by omega), e1, if_pos (by omega), if_pos (by omega), if_pos (by omega), if_neg (by omega), e2]
        · refine ⟨false, Ev.step (f := fun _ => some false) (fun k => ?_) (Ev.now _), ⟨fun h => (Bool.false_ne_true h).elim, fun h => absurd (h i hlt (by omega)) hU⟩⟩
          simp only [impl_rises.l0]
          rw [if_pos (by omega), e1, if_pos (by omega), if_pos (by omega), if_pos (by omega), if_pos (by omega)]
      · refine ⟨true, Ev.step (f := fun _ => some true) (fun k => ?_) (Ev.now _), ⟨fun _ j h => hj j (by omega) h, fun _ => rfl⟩⟩
        simp only [impl_rises.l0]
        rw [if_neg (by omega)]
  unfold impl_rises.f
  exact lp (ks.length - 1) 1 (by omega) (by omega) (by omega) (fun j h _ h0 => by omega)

theorem impl_KnownOk_ev (ts : List ByteArray) (ks : List Int) (ht : ts.length ≤ 1048576) (hz : ∀ p ∈ ts, p.size ≤ 1048576) (hk : ks.length ≤ 1048576) : Ev (fun k => impl_KnownOk.f k ts ks) (knownB ts ks) := by
  have lp1 : (∀ i, i < ts.length → knG ts i) → ∀ d i : Nat, i + d = ks.length → (∀ j, j < i → knR ks j) → Ev (fun k => impl_KnownOk.l1 k ks (ks.length : Int) (i : Int) ts ks) (knownB ts ks) := by
    intro hG d
    induction d with
    | zero =>
      intro i hi hj
      obtain ⟨b, hb1, hb2⟩ := impl_rises_ev ks hk
      by_cases h1 : (ts.length : Int) ≤ 60
      · by_cases h2 : (ks.length : Int) ≤ 40
        · refine Ev.step (f := fun k => (impl_rises.f k ks).bind fun t => some t) (fun k => ?_) (Ev.bind hb1 (ev_eq (Ev.now _) ?_))
          · simp only [impl_KnownOk.l1]
            rw [if_neg (by omega), if_pos h1, if_pos h2]
          · cases hb : b with
            | true => exact (knownB_t ⟨⟨by omega, by omega⟩, hG, fun j h => ⟨hj j (by omega), hb2.1 hb j h⟩⟩).symm
            | false =>
              refine (knownB_f (fun hp => ?_)).symm
              rw [hb2.2 (fun j h => (hp.2.2 j h).2)] at hb
              cases hb
        · refine Ev.step (f := fun _ => some false) (fun k => ?_) (ev_eq (Ev.now _) (knownB_f (fun hp => h2 (by have := hp.1; omega))).symm)
          simp only [impl_KnownOk.l1]
          rw [if_neg (by omega), if_pos h1, if_neg h2]
      · refine Ev.step (f := fun _ => some false) (fun k => ?_) (ev_eq (Ev.now _) (knownB_f (fun hp => h1 (by have := hp.1; omega))).symm)
        simp only [impl_KnownOk.l1]
        rw [if_neg (by omega), if_neg h1]
    | succ d ih =>
      intro i hi hj
      have e2 : wrap64 ((i : Int) + 1) = ((i + 1 : Nat) : Int) := by rw [w64 (x := (i : Int) + 1) (by omega) (by omega)]; omega
      by_cases hR : knR ks i
      · refine Ev.step (fun k => ?_) (ih (i + 1) (by omega) (fun j h => by
          by_cases hji : j = i
          · subst hji; exact hR
          · exact hj j (by omega)))
        simp only [impl_KnownOk.l1]
        rw [if_pos (by omega), if_pos (by omega), if_pos (by omega), impl_isKey_eq, Option.bind_some, decide_eq_true (show 1 ≤ rd ks (i : Int) ∧ rd ks (i : Int) ≤ 1000000 from hR), if_pos rfl, e2]
      · refine Ev.step (f := fun _ => some false) (fun k => ?_) (ev_eq (Ev.now _) (knownB_f (fun hp => hR (hp.2.2 i (by omega)).1)).symm)
        simp only [impl_KnownOk.l1]
        rw [if_pos (by omega), if_pos (by omega), if_pos (by omega), impl_isKey_eq, Option.bind_some, decide_eq_false (show ¬ (1 ≤ rd ks (i : Int) ∧ rd ks (i : Int) ≤ 1000000) from hR), if_neg (by decide)]
  have lp0 : ∀ d i : Nat, i + d = ts.length → (∀ j, j < i → knG ts j) → Ev (fun k => impl_KnownOk.l0 k ts (ts.length : Int) (i : Int) ts ks) (knownB ts ks) := by
    intro d
    induction d with
    | zero =>
      intro i hi hj
      refine Ev.step (fun k => ?_) (lp1 (fun j h => hj j (by omega)) ks.length 0 (by omega) (fun j h => by omega))
      simp only [impl_KnownOk.l0]
      rw [if_neg (by omega)]
      rfl
    | succ d ih =>
      intro i hi hj
      have hlt : i < ts.length := by omega
      have hget : rdOf ByteArray.empty ts (i : Int) = ts[i] := rdOf_get _ _ hlt
      have hsz : (rdOf ByteArray.empty ts (i : Int)).size ≤ 1048576 := by rw [hget]; exact hz _ (List.getElem_mem hlt)
      have e2 : wrap64 ((i : Int) + 1) = ((i + 1 : Nat) : Int) := by rw [w64 (x := (i : Int) + 1) (by omega) (by omega)]; omega
      refine Ev.step (f := fun k => (impl_TermOk.f k (rdOf ByteArray.empty ts (i : Int))).bind fun t => (if t = true then (slices_Contains_string_string.f k (ts.take i) (rdOf ByteArray.empty ts (i : Int))).bind fun t => (if t = true then some false else impl_KnownOk.l0 k ts (ts.length : Int) ((i + 1 : Nat) : Int) ts ks) else some false)) (fun k => ?_) ?_
      · simp only [impl_KnownOk.l0]
        have c1 : (i : Int) < (ts.length : Int) := by omega
        have c2 : 0 ≤ (i : Int) := by omega
        have c3 : (i : Int) ≤ (ts.length : Int) := by omega
        simp only [c1, c2, c3, if_true, e2, Int.toNat_natCast]
      · refine Ev.bind (impl_TermOk_ev _ (by omega)) ?_
        by_cases h1 : termB (bl (rdOf ByteArray.empty ts (i : Int))) = true
        · simp only [h1, if_true]
          refine Ev.bind (slices_Contains_string_string_ev _ _ (by rw [List.length_take]; omega)) ?_
          by_cases h2 : rdOf ByteArray.empty ts (i : Int) ∈ ts.take i
          · simp only [inB_t h2, if_true]
            exact ev_eq (Ev.now _) (knownB_f (fun hp => (hp.2.1 i hlt).2 h2)).symm
          · simp only [inB_f h2, Bool.false_eq_true, if_false]
            refine ih (i + 1) (by omega) (fun j h => ?_)
            by_cases hji : j = i
            · subst hji; exact ⟨h1, h2⟩
            · exact hj j (by omega)
        · simp only [h1, if_false]
          exact ev_eq (Ev.now _) (knownB_f (fun hp => h1 (hp.2.1 i hlt).1)).symm
  unfold impl_KnownOk.f
  exact lp0 ts.length 0 (by omega) (fun j h => by omega)

theorem impl_isOf_ev (s : ByteArray) (hs : s.size ≤ 140737488355327) (c : Nat) : Ev (fun k => impl_isOf.f k s (c : Int)) (isK s c) := by
  unfold impl_isOf.f
  refine Ev.bind (impl_TermOk_ev s hs) ?_
  have ho : termB (bl s) = okS s := rfl
  rw [ho]
  unfold isK
  by_cases h : okS s = true
  · have hz := okS_size h
    have h0 : 0 < (s.size : Int) := by omega
    have hl : 0 < (bl s).length := by rw [bl_len]; omega
    simp only [h, if_true, h0, Bool.true_and]
    refine ev_eq (Ev.now _) ?_
    have hb : bt s 0 = (((bl s)[0] : Nat) : Int) := bt_get s 0 hl
    rw [hb]
    have hh : (bl s).headD 0 = (bl s)[0] := headD_get _ hl
    rw [hh, Bool.eq_iff_iff]
    simp
    omega
  · simp only [h]
    exact Ev.now _

noncomputable def sdS (s : ByteArray) : Int × ByteArray × Bool := if isK s 115 = true then ((nOf s : Int), s.extract (1 + kOf s) s.size, true) else (0, ⟨#[]⟩, false)
theorem impl_sealed_ev (s : ByteArray) (hs : s.size ≤ 140737488355327) : Ev (fun k => impl_sealed.f k s) (sdS s) := by
  unfold impl_sealed.f
  refine Ev.bind (impl_isOf_ev s hs 115) ?_
  unfold sdS
  by_cases h : isK s 115 = true
  · have ho := isK_ok h
    have hr := okS_rv ho
    simp only [h, if_true]
    refine Ev.bind (impl_varAt_ev s hs 1 (okS_size ho).1) ?_
    rw [okS_vA ho]
    have a1 : 0 ≤ ((1 + kOf s : Nat) : Int) := by omega
    have a2 : ((1 + kOf s : Nat) : Int) ≤ (s.size : Int) := by omega
    simp only [a1, a2, if_true, Int.toNat_natCast]
    exact Ev.now _
  · simp only [h]
    exact Ev.now _

theorem impl_ReadKey_ev (s : ByteArray) (hs : s.size ≤ 140737488355327) : Ev (fun k => impl_ReadKey.f k s) (rkS s) := by
  unfold impl_ReadKey.f
  refine Ev.bind (impl_isOf_ev s hs 107) ?_
  unfold rkS
  by_cases h : isK s 107 = true
  · have ho := isK_ok h
    simp only [h, if_true]
    refine Ev.bind (impl_varAt_ev s hs 1 (okS_size ho).1) ?_
    rw [okS_vA ho]
    exact Ev.now _
  · simp only [h]
    exact Ev.now _

theorem impl_Parts_loop (s : ByteArray) (hs : s.size ≤ 140737488355327) (n : Nat) (r : Nat) : ∀ (i a q : Nat) (acc : List ByteArray), i + r = n → n ≤ 1000 → acc.length = i → a ≤ s.size → many (parse 8) r ((bl s).drop a) = some q →
    Ev (fun k => impl_Parts.l0 k s (a : Int) acc (n : Int) (i : Int)) (acc ++ spl s r a, true) := by
  induction r with
  | zero =>
    intro i a q acc hi hn ha has hm
    refine Ev.step (f := fun _ => some (acc, true)) (fun k => ?_) (ev_eq (Ev.now _) ?_)
    · simp only [impl_Parts.l0]; rw [if_neg (by omega)]
    · simp [spl]
  | succ r ih =>
    intro i a q acc hi hn ha has hm
    rw [many_succ] at hm
    cases hp : parse 8 ((bl s).drop a) with
    | none => rw [hp] at hm; cases hm
    | some m =>
      rw [hp] at hm
      simp only [] at hm
      have hle := parse_le 8 _ _ hp
      rw [List.length_drop, bl_len] at hle
      cases hq : many (parse 8) r (((bl s).drop a).drop m) with
      | none => rw [hq] at hm; cases hm
      | some q' =>
        rw [List.drop_drop] at hq
        have hr := ih (i + 1) (a + m) q' (acc ++ [s.extract a (a + m)]) (by omega) hn (by simp; omega) (by omega) hq
        have ht := impl_termAt_ev s hs 8 a (by decide) has
        rw [hp] at ht
        have hw : Aside0 (wrap64 ((i : Int) + 1) = ((i + 1 : Nat) : Int)) := ⟨by rw [w64 (by omega) (by omega)]; omega⟩
        refine Ev.step (f := fun k => (impl_termAt.f k s (a : Int) ((8 : Nat) : Int)).bind fun t166 => (if 0 ≤ (a : Int) then (if (a : Int) ≤ t166 then (if t166 ≤ (s.size : Int) then (if acc.length < 8796093022208 then (impl_Parts.l0 k s t166 (acc ++ [s.extract (a : Int).toNat (t166 : Int).toNat]) (n : Int) ((i + 1 : Nat) : Int)) else (none)) else (none)) else (none)) else (none))) (fun k => ?_) (Ev.bind ht ?_)
        · simp only [impl_Parts.l0]; rw [if_pos (by omega), hw.out]; rfl
        · have a1 : (a : Int) ≤ ((a + m : Nat) : Int) := by omega
          have a2 : ((a + m : Nat) : Int) ≤ (s.size : Int) := by omega
          have a3 : acc.length < 8796093022208 := by omega
          have a0 : 0 ≤ (a : Int) := by omega
          simp only [tA, a0, a1, a2, a3, if_true, Int.toNat_natCast]
          refine ev_eq hr ?_
          rw [spl, hp]; simp
theorem impl_Parts_ev (s : ByteArray) (hs : s.size ≤ 140737488355327) : Ev (fun k => impl_Parts.f k s) (partsS s) := by
  unfold impl_Parts.f
  refine Ev.bind (impl_isOf_ev s hs 108) ?_
  unfold partsS
  by_cases h : isK s 108 = true
  · have ho := isK_ok h
    have hr := okS_rv ho
    obtain ⟨h12, q, hq⟩ := list_cases h
    simp only [h, if_true]
    refine Ev.bind (impl_varAt_ev s hs 1 (okS_size ho).1) ?_
    rw [okS_vA ho]
    exact impl_Parts_loop s hs (nOf s) (nOf s) 0 (1 + kOf s) q [] (by omega) (by omega) rfl (by omega) hq
  · simp only [h]
    exact Ev.now _





theorem laws_has_ev (l : List Int) (x : Int) (hl : l.length ≤ 1073741824) : Ev (fun k => laws_has.f k l x) (inI x l) := by
  have loop : ∀ (d i : Nat), i + d = l.length → Ev (fun k => laws_has.l0 k l x (i : Int)) (inI x (l.drop i)) := by
    intro d
    induction d with
    | zero =>
      intro i hi
      rw [List.drop_eq_nil_of_le (by omega)]
      refine Ev.step (f := fun _ => some false) (fun k => ?_) (by rw [inI_f (by simp)]; exact Ev.now _)
      simp only [laws_has.l0]
      rw [if_neg (by omega)]
    | succ d ih =>
      intro i hi
      have hik : i < l.length := by omega
      have c1 : (i : Int) < (l.length : Int) := by omega
      have c2 : 0 ≤ (i : Int) := by omega
      have e2 : wrap64 ((i : Int) + 1) = ((i + 1 : Nat) : Int) := w64 (by omega) (by omega)
      have er : rd l (i : Int) = l[i] := rd_get l i hik
      rw [List.drop_eq_getElem_cons hik]
      by_cases h : l[i] = x
      · refine Ev.step (f := fun _ => some true) (fun k => by simp only [laws_has.l0, c1, c2, if_true, er, h]) ?_
        rw [inI_t (by rw [h]; exact List.mem_cons_self ..)]
        exact Ev.now _
      · refine Ev.step (f := fun k => laws_has.l0 k l x ((i + 1 : Nat) : Int)) (fun k => by simp only [laws_has.l0, c1, c2, if_true, er, h, if_false, e2]) ?_
        have : inI x (l[i] :: l.drop (i + 1)) = inI x (l.drop (i + 1)) := by
          by_cases hm : x ∈ l.drop (i + 1)
          · rw [inI_t hm, inI_t (List.mem_cons_of_mem _ hm)]
          · rw [inI_f hm, inI_f (by simp only [List.mem_cons, not_or]; exact ⟨fun e => h e.symm, hm⟩)]
        rw [this]
        exact ih (i + 1) (by omega)
  exact loop l.length 0 (by omega)

theorem isK_bt {s : ByteArray} (ho : okS s = true) (c : Nat) : isK s c = true ↔ bt s 0 = (c : Int) := by
  have hz := okS_size ho
  have hl : 0 < (bl s).length := by rw [bl_len]; omega
  have hb : bt s 0 = (((bl s)[0] : Nat) : Int) := bt_get s 0 hl
  have hh : (bl s).headD 0 = (bl s)[0] := headD_get _ hl
  unfold isK
  rw [ho, Bool.true_and, hh, hb, decide_eq_true_iff]
  omega

theorem spec_ReadKey_ev (s : ByteArray) (hs : s.size ≤ 140737488355327) : Ev (fun k => spec_ReadKey.f k s) (rkS s) := by
  unfold spec_ReadKey.f
  refine Ev.bind (spec_TermOk_ev s hs) ?_
  have ho' : termB (bl s) = okS s := rfl
  rw [ho']
  unfold rkS
  by_cases ho : okS s = true
  · have hz := okS_size ho
    have h0 : 0 < (s.size : Int) := by omega
    have h1 : 1 ≤ (s.size : Int) := by omega
    simp only [ho, h0, h1, if_true]
    by_cases h : isK s 107 = true
    · have hb := (isK_bt ho 107).1 h
      simp only [h, hb, if_true, show ((107 : Nat) : Int) = 107 from rfl]
      refine Ev.bind (spec_ReadVar_ev _ (by rw [ByteArray.size_extract]; omega)) ?_
      rw [bl_from, okS_rvI ho]
      exact Ev.now _
    · have hb : ¬ bt s 0 = 107 := fun e => h ((isK_bt ho 107).2 e)
      simp only [h, hb, if_false]
      exact Ev.now _
  · have h : ¬ isK s 107 = true := fun e => ho (isK_ok e)
    simp only [ho, h, if_false]
    exact Ev.now _

theorem spec_Parts_loop (s : ByteArray) (hs : s.size ≤ 140737488355327) (n : Nat) (r : Nat) : ∀ (i a q : Nat) (acc : List ByteArray), i + r = n → n ≤ 1000 → acc.length = i → a ≤ s.size → many (parse 8) r ((bl s).drop a) = some q →
    Ev (fun k => spec_Parts.l0 k s acc (n : Int) (a : Int) (i : Int)) (acc ++ spl s r a, true) := by
  induction r with
  | zero =>
    intro i a q acc hi hn ha has hm
    refine Ev.step (f := fun _ => some (acc, true)) (fun k => ?_) (ev_eq (Ev.now _) ?_)
    · simp only [spec_Parts.l0]; rw [if_neg (by omega)]
    · simp [spl]
  | succ r ih =>
    intro i a q acc hi hn ha has hm
    rw [many_succ] at hm
    cases hp : parse 8 ((bl s).drop a) with
    | none => rw [hp] at hm; cases hm
    | some m =>
      rw [hp] at hm
      simp only [] at hm
      have hle := parse_le 8 _ _ hp
      rw [List.length_drop, bl_len] at hle
      cases hq : many (parse 8) r (((bl s).drop a).drop m) with
      | none => rw [hq] at hm; cases hm
      | some q' =>
        rw [List.drop_drop] at hq
        have hr := ih (i + 1) (a + m) q' (acc ++ [s.extract a (a + m)]) (by omega) hn (by simp; omega) (by omega) hq
        obtain ⟨dp, ht, _, _⟩ := spec_l2Term_ev s hs 8 a (by decide) has
        rw [hp] at ht
        have hw : Aside0 (wrap64 ((i : Int) + 1) = ((i + 1 : Nat) : Int)) := ⟨by rw [w64 (by omega) (by omega)]; omega⟩
        have hw2 : Aside0 (wrap64 ((a : Int) + (m : Int)) = ((a + m : Nat) : Int)) := ⟨by rw [w64 (by omega) (by omega)]; omega⟩
        refine Ev.step (f := fun k => (spec_l2Term.f k s (a : Int) ((8 : Nat) : Int)).bind fun bt130 => (if 0 ≤ (a : Int) then (if (a : Int) ≤ (wrap64 ((a : Int) + bt130.1)) then (if (wrap64 ((a : Int) + bt130.1)) ≤ (s.size : Int) then (if acc.length < 8796093022208 then (spec_Parts.l0 k s (acc ++ [s.extract (a : Int).toNat ((wrap64 ((a : Int) + bt130.1)) : Int).toNat]) (n : Int) (wrap64 ((a : Int) + bt130.1)) ((i + 1 : Nat) : Int)) else (none)) else (none)) else (none)) else (none))) (fun k => ?_) (Ev.bind ht ?_)
        · simp only [spec_Parts.l0]; rw [if_pos (by omega), hw.out]; rfl
        · have a1 : (a : Int) ≤ ((a + m : Nat) : Int) := by omega
          have a2 : ((a + m : Nat) : Int) ≤ (s.size : Int) := by omega
          have a3 : acc.length < 8796093022208 := by omega
          have a0 : 0 ≤ (a : Int) := by omega
          simp only [pI, hw2.out, a0, a1, a2, a3, if_true, Int.toNat_natCast]
          refine ev_eq hr ?_
          rw [spl, hp]; simp
theorem spec_Parts_ev (s : ByteArray) (hs : s.size ≤ 140737488355327) : Ev (fun k => spec_Parts.f k s) (partsS s) := by
  have dead : Ev (fun k => spec_Parts.j0 k s [] true) (([] : List ByteArray), false) := by
    refine Ev.step (f := fun _ => some (([] : List ByteArray), false)) (fun k => ?_) (Ev.now _)
    simp [spec_Parts.j0]
  unfold spec_Parts.f
  simp only [Option.bind_some]
  refine Ev.bind (spec_TermOk_ev s hs) ?_
  have ho' : termB (bl s) = okS s := rfl
  rw [ho']
  by_cases ho : okS s = true
  · have hz := okS_size ho
    have hr := okS_rv ho
    have h0 : 0 < (s.size : Int) := by omega
    have h1 : 1 ≤ (s.size : Int) := by omega
    simp only [ho, h0, if_true]
    by_cases h : isK s 108 = true
    · have hb := (isK_bt ho 108).1 h
      have e : (bt s 0 != 108) = false := by rw [bne_eq_false_iff_eq]; exact hb
      have ep : partsS s = (spl s (nOf s) (1 + kOf s), true) := by unfold partsS; rw [if_pos h]
      rw [e, ep]
      obtain ⟨h12, q, hq⟩ := list_cases h
      refine Ev.step (fun k => by simp only [spec_Parts.j0]; rw [if_neg (by decide), if_pos h1]) (Ev.bind (spec_ReadVar_ev _ (by rw [ByteArray.size_extract]; omega)) ?_)
      rw [bl_from, okS_rvI ho]
      have hw : Aside0 (wrap64 (1 + (kOf s : Int)) = ((1 + kOf s : Nat) : Int)) := ⟨by rw [w64 (by omega) (by omega)]; omega⟩
      simp only [hw.out]
      exact spec_Parts_loop s hs (nOf s) (nOf s) 0 (1 + kOf s) q [] (by omega) (by omega) rfl (by omega) hq
    · have hb : ¬ bt s 0 = 108 := fun e => h ((isK_bt ho 108).2 e)
      have e : (bt s 0 != 108) = true := by rw [bne_iff_ne]; exact hb
      have ep : partsS s = ([], false) := by unfold partsS; rw [if_neg h]
      rw [e, ep]
      exact dead
  · have ep : partsS s = ([], false) := by unfold partsS; rw [if_neg (fun e => ho (isK_ok e))]
    rw [ep]
    simp only [ho]
    exact dead

theorem spec_Open_ev (s : ByteArray) (hs : s.size ≤ 140737488355327) (n : Int) : Ev (fun k => spec_Open.f k s n) (opS s n) := by
  have dead : Ev (fun k => spec_Open.j0 k s n true) ((⟨#[]⟩ : ByteArray), false) := by
    refine Ev.step (f := fun _ => some ((⟨#[]⟩ : ByteArray), false)) (fun k => ?_) (Ev.now _)
    simp [spec_Open.j0]
  unfold spec_Open.f
  refine Ev.bind (spec_TermOk_ev s hs) ?_
  have ho' : termB (bl s) = okS s := rfl
  rw [ho']
  unfold opS
  by_cases ho : okS s = true
  · have hz := okS_size ho
    have hr := okS_rv ho
    have h0 : 0 < (s.size : Int) := by omega
    have h1 : 1 ≤ (s.size : Int) := by omega
    simp only [ho, h0, if_true]
    by_cases h : isK s 115 = true
    · have hb := (isK_bt ho 115).1 h
      have e : (bt s 0 != 115) = false := by rw [bne_eq_false_iff_eq]; exact hb
      rw [e]
      refine Ev.step (fun k => by simp only [spec_Open.j0]; rw [if_neg (by decide), if_pos h1]) (Ev.bind (spec_ReadVar_ev _ (by rw [ByteArray.size_extract]; omega)) ?_)
      rw [bl_from, okS_rvI ho]
      have hw : Aside0 (wrap64 (1 + (kOf s : Int)) = ((1 + kOf s : Nat) : Int)) := ⟨by rw [w64 (by omega) (by omega)]; omega⟩
      have a1 : 0 ≤ ((1 + kOf s : Nat) : Int) := by omega
      have a2 : ((1 + kOf s : Nat) : Int) ≤ (s.size : Int) := by omega
      simp only [hw.out, a1, a2, if_true, Int.toNat_natCast, h, true_and]
      by_cases hn : (nOf s : Int) = n
      · simp only [hn, if_true]; exact Ev.now _
      · simp only [hn, if_false]; exact Ev.now _
    · have hb : ¬ bt s 0 = 115 := fun e => h ((isK_bt ho 115).2 e)
      have e : (bt s 0 != 115) = true := by rw [bne_iff_ne]; exact hb
      rw [e, if_neg (fun e => h e.1)]
      exact dead
  · rw [if_neg (fun e => ho (isK_ok e.1))]
    simp only [ho]
    exact dead









theorem impl_copyTexts_eq (l : List ByteArray) (hl : l.length ≤ 1073741824) : impl_copyTexts.f l = some l := by
  unfold impl_copyTexts.f
  rw [if_pos (by simp only [List.length_nil]; omega), List.nil_append]

theorem impl_copyInts_eq (l : List Int) (hl : l.length ≤ 1073741824) : impl_copyInts.f l = some l := by
  unfold impl_copyInts.f
  rw [if_pos (by simp only [List.length_nil]; omega), List.nil_append]

theorem impl_copyKnown_eq (l : List ByteArray) (m : List Int) (hl : l.length ≤ 1073741824) (hm : m.length ≤ 1073741824) : impl_copyKnown.f l m = some (l, m) := by
  unfold impl_copyKnown.f
  simp only [impl_copyTexts_eq l hl, impl_copyInts_eq m hm, Option.bind_some]

noncomputable def learnS (ts : List ByteArray) (ks : List Int) (s : ByteArray) : List ByteArray × List Int :=
  if knownB ts ks = true then (if termB (bl s) = true then (if inB s ts = true then (ts, ks) else (if (ts.length : Int) < 60 then (ts ++ [s], ks) else (ts, ks))) else (ts, ks)) else ([], [])
theorem learnS_len (ts : List ByteArray) (ks : List Int) (s : ByteArray) (ht : ts.length ≤ 1048576) (hk : ks.length ≤ 1048576) : (learnS ts ks s).1.length ≤ 1048577 ∧ (learnS ts ks s).2.length ≤ 1048577 := by
  unfold learnS
  repeat' split
  all_goals first | (simp; omega) | (simp only [List.length_nil]; omega)

theorem impl_Learn_ev (ts : List ByteArray) (ks : List Int) (s : ByteArray) (ht : ts.length ≤ 1048576) (hz : ∀ p ∈ ts, p.size ≤ 1048576) (hk : ks.length ≤ 1048576) (hs : s.size ≤ 1048576) : Ev (fun k => impl_Learn.f k ts ks s) (learnS ts ks s) := by
  unfold impl_Learn.f learnS
  refine Ev.bind (impl_KnownOk_ev ts ks ht hz hk) ?_
  by_cases h : knownB ts ks = true
  · simp only [h, if_true, impl_copyKnown_eq ts ks (by omega) (by omega), Option.bind_some]
    refine Ev.bind (impl_TermOk_ev s (by omega)) ?_
    by_cases h1 : termB (bl s) = true
    · simp only [h1, if_true]
      refine Ev.bind (slices_Contains_string_string_ev ts s (by omega)) ?_
      by_cases h2 : inB s ts = true
      · simp only [h2, if_true]; exact Ev.now _
      · simp only [h2, if_false, Bool.false_eq_true]
        have h4 : ts.length < 8796093022208 := by omega
        by_cases h3 : (ts.length : Int) < 60
        · simp only [h3, h4, if_true]; exact Ev.now _
        · simp only [h3, if_false]; exact Ev.now _
    · simp only [h1, if_false, Bool.false_eq_true]; exact Ev.now _
  · simp only [h, if_false, Bool.false_eq_true]; exact Ev.now _



theorem laws_sameInts_self (l : List Int) (hl : l.length ≤ 1073741824) : Ev (fun k => laws_sameInts.f k l l) true := by
  have loop : ∀ d i : Nat, i + d = l.length → Ev (fun k => laws_sameInts.l0 k l l (i : Int)) true := by
    intro d
    induction d with
    | zero =>
      intro i hi
      refine Ev.step (f := fun _ => some true) (fun k => ?_) (Ev.now _)
      simp only [laws_sameInts.l0]
      rw [if_neg (by omega)]
    | succ d ih =>
      intro i hi
      refine Ev.step (fun k => ?_) (ih (i + 1) (by omega))
      simp only [laws_sameInts.l0]
      rw [if_pos (by omega), if_pos (by omega), if_pos (by omega), if_pos trivial, w64 (by omega) (by omega)]
      rfl
  unfold laws_sameInts.f
  simp only [if_true]
  exact loop l.length 0 (by omega)

theorem slices_Index_int_int_ev (l : List Int) (x : Int) (hl : l.length ≤ 1073741824) : ∃ r : Int, Ev (fun k => slices_Index_int_int.f k l x) r ∧ (r ≥ 0 ↔ x ∈ l) := by
  have loop : ∀ d i : Nat, i + d = l.length → ∃ r : Int, Ev (fun k => slices_Index_int_int.l0 k l x (l.length : Int) (i : Int)) r ∧ (r ≥ 0 ↔ x ∈ l.drop i) := by
    intro d
    induction d with
    | zero =>
      intro i hi
      refine ⟨-1, Ev.step (f := fun _ => some (-1)) (fun k => ?_) (Ev.now _), ?_⟩
      · simp only [slices_Index_int_int.l0]
        rw [if_neg (by omega)]
      · rw [List.drop_of_length_le (by omega)]; simp
    | succ d ih =>
      intro i hi
      have hlt : i < l.length := by omega
      have e2 : wrap64 ((i : Int) + 1) = ((i + 1 : Nat) : Int) := by rw [w64 (x := (i : Int) + 1) (by omega) (by omega)]; omega
      rw [List.drop_eq_getElem_cons hlt]
      by_cases h : x = l[i]
      · refine ⟨i, Ev.step (f := fun _ => some (i : Int)) (fun k => ?_) (Ev.now _), ?_⟩
        · simp only [slices_Index_int_int.l0]
          rw [if_pos (by omega), if_pos (by omega), if_pos (by omega), rd_get _ _ hlt, if_pos h]
        · exact ⟨fun _ => by rw [h]; exact List.mem_cons_self, fun _ => by omega⟩
      · obtain ⟨r, hr, hi2⟩ := ih (i + 1) (by omega)
        refine ⟨r, Ev.step (fun k => ?_) hr, ?_⟩
        · simp only [slices_Index_int_int.l0]
          rw [if_pos (by omega), if_pos (by omega), if_pos (by omega), rd_get _ _ hlt, if_neg h, e2]
        · rw [hi2, List.mem_cons]; exact ⟨Or.inr, fun e => e.resolve_left h⟩
  have := loop l.length 0 (by omega)
  unfold slices_Index_int_int.f
  simpa using this

theorem slices_Contains_int_int_ev (l : List Int) (x : Int) (hl : l.length ≤ 1073741824) : Ev (fun k => slices_Contains_int_int.f k l x) (inI x l) := by
  obtain ⟨r, hr, h⟩ := slices_Index_int_int_ev l x hl
  unfold slices_Contains_int_int.f
  refine Ev.bind hr (ev_eq (Ev.now _) ?_)
  by_cases hx : x ∈ l
  · rw [inI_t hx, decide_eq_true (h.2 hx)]
  · rw [inI_f hx, decide_eq_false (fun e => hx (h.1 e))]

noncomputable def lkeyS (ts : List ByteArray) (ks : List Int) (x : Int) : List ByteArray × List Int :=
  if knownB ts ks = true then (if decide (1 ≤ x ∧ x ≤ 1000000) = true then (if inI x ks = true then (ts, ks) else (if (ks.length : Int) < 40 then (ts, putL ks x) else (ts, ks))) else (ts, ks)) else ([], [])
theorem lkeyS_len (ts : List ByteArray) (ks : List Int) (x : Int) (ht : ts.length ≤ 1048576) (hk : ks.length ≤ 1048576) : (lkeyS ts ks x).1.length ≤ 1048577 ∧ (lkeyS ts ks x).2.length ≤ 1048577 := by
  unfold lkeyS
  have := putL_len ks x
  repeat' split
  all_goals first | (simp only []; omega) | (simp only [List.length_nil]; omega)
theorem knownB_out {ts : List ByteArray} {ks : List Int} (h : knownB ts ks = true) : knownP ts ks := by
  by_cases hp : knownP ts ks
  · exact hp
  · rw [knownB_f hp] at h; cases h

theorem impl_LearnKey_ev (ts : List ByteArray) (ks : List Int) (x : Int) (ht : ts.length ≤ 1048576) (hz : ∀ p ∈ ts, p.size ≤ 1048576) (hk : ks.length ≤ 1048576) : Ev (fun k => impl_LearnKey.f k ts ks x) (lkeyS ts ks x) := by
  unfold impl_LearnKey.f lkeyS
  refine Ev.bind (impl_KnownOk_ev ts ks ht hz hk) ?_
  by_cases h : knownB ts ks = true
  · simp only [h, if_true, impl_copyKnown_eq ts ks (by omega) (by omega), Option.bind_some, impl_isKey_eq]
    by_cases h1 : 1 ≤ x ∧ x ≤ 1000000
    · rw [decide_eq_true h1]
      simp only [if_true]
      refine Ev.bind (slices_Contains_int_int_ev ks x (by omega)) ?_
      by_cases h2 : inI x ks = true
      · simp only [h2, if_true]; exact Ev.now _
      · simp only [h2, if_false, Bool.false_eq_true]
        by_cases h3 : (ks.length : Int) < 40
        · have hr : ks.Pairwise (· < ·) := rise_of (fun i hi h0 => ((knownB_out h).2.2 i hi).2 h0)
          have e : slices_Sort.f (ks ++ [x]) = some (putL ks x) := by
            unfold slices_Sort.f
            rw [if_pos (by rw [List.length_append, List.length_singleton]; omega), sort_put x hr (inI_out_f h2)]
          have h4 : ks.length < 17592186044416 := by omega
          simp only [h3, h4, if_true, e, Option.bind_some]
          exact Ev.now _
        · simp only [h3, if_false]; exact Ev.now _
    · rw [decide_eq_false h1]
      simp only [if_false, Bool.false_eq_true]; exact Ev.now _
  · simp only [h, if_false, Bool.false_eq_true]; exact Ev.now _

theorem laws_at_ok (l : List Int) (i : Int) (hl : l.length ≤ 1048576) (hw : ∀ x ∈ l, (Lit.int .u8 x).wf = true) (h0 : 0 ≤ i) (h1 : i ≤ 1000000) : ∃ x : Int, laws_at.f l i = some x ∧ 0 ≤ x ∧ x ≤ 255 := by
  unfold laws_at.f
  by_cases h : i < (l.length : Int)
  · rw [if_pos h, if_pos h0]
    have hb : 0 ≤ rd l i ∧ rd l i ≤ 255 := by
      obtain ⟨j, rfl⟩ := Int.eq_ofNat_of_zero_le h0
      have hj : j < l.length := by omega
      have e : rd l (j : Int) = l[j] := by
        unfold rd
        rw [Int.toNat_natCast, List.getD_eq_getElem?_getD, List.getElem?_eq_getElem hj]; rfl
      rw [e]
      have := hw _ (List.getElem_mem hj)
      simp only [Lit.wf, Bool.and_eq_true, decide_eq_true_eq] at this
      exact this
    refine ⟨_, rfl, ?_, ?_⟩ <;> rw [w64 (by omega) (by omega)] <;> omega
  · rw [if_neg h, w64 (x := i * 37) (by omega) (by omega), w64 (x := (l.length : Int) * 11) (by omega) (by omega), w64 (by omega) (by omega)]
    refine ⟨_, rfl, Int.tmod_nonneg _ (by omega), ?_⟩
    have := Int.tmod_lt_of_pos (i * 37 + (l.length : Int) * 11) (show (0 : Int) < 256 by decide)
    omega

theorem memB_mem {t : ByteArray} {S : List ByteArray} : memB t S = true ↔ t ∈ S := by
  unfold memB
  rw [List.any_eq_true]
  constructor
  · rintro ⟨u, hu, h⟩
    have e : u = t := ByteArray.ext (of_decide_eq_true h)
    exact e ▸ hu
  · intro h
    exact ⟨t, h, decide_eq_true rfl⟩
theorem memI_mem {t : Int} {S : List Int} : memI t S = true ↔ t ∈ S := by unfold memI; rw [decide_eq_true_iff]
def tot (ps : List ByteArray) : Nat := (ps.map ByteArray.size).sum
theorem tot_cons (p : ByteArray) (ps : List ByteArray) : tot (p :: ps) = p.size + tot ps := by simp [tot]
theorem tot_append (a b : List ByteArray) : tot (a ++ b) = tot a + tot b := by simp [tot]
theorem cat_tot (ps : List ByteArray) : (cat ps).size = tot ps := by
  induction ps with
  | nil => rfl
  | cons p ps ih => rw [cat_cons, ByteArray.size_append, ih, tot_cons]
theorem parts_all {s : ByteArray} (h : isK s 108 = true) : partsS s = ((partsS s).1, true) ∧ tot (partsS s).1 + 1 ≤ s.size ∧ ∀ p ∈ (partsS s).1, okS p = true := by
  have e : partsS s = ((partsS s).1, true) := by unfold partsS; rw [if_pos h]
  obtain ⟨h1, h2, h3, h4⟩ := read_list e
  refine ⟨e, ?_, h4⟩
  have hne : ¬ s = (⟨#[]⟩ : ByteArray) := by
    intro he
    have := (okS_size h2).1
    rw [he] at this
    exact absurd this (by decide)
  have h5 : listS (partsS s).1 = termS (rawL (partsS s).1) := by
    unfold listS
    rw [if_pos ⟨h3, List.all_eq_true.2 h4⟩]
  rw [h5] at h1
  unfold termS at h1
  by_cases hr : okS (rawL (partsS s).1) = true
  · rw [if_pos hr] at h1
    have hs : (rawL (partsS s).1).size = s.size := by rw [h1]
    rw [← hs]
    generalize (partsS s).1 = ps
    unfold rawL
    simp only [ByteArray.size_append]
    rw [cat_tot]
    have : (⟨#[108]⟩ : ByteArray).size = 1 := rfl
    omega
  · rw [if_neg hr] at h1
    exact absurd h1.symm hne
noncomputable def inn (s : ByteArray) : ByteArray := s.extract (1 + kOf s) s.size
theorem inn_all {s : ByteArray} (h : isK s 115 = true) : okS (inn s) = true ∧ (inn s).size + 1 ≤ s.size ∧ 1 ≤ nOf s ∧ nOf s ≤ 1000000 := by
  have e : opS s (nOf s : Int) = (inn s, true) := by unfold opS; rw [if_pos ⟨h, rfl⟩]; rfl
  obtain ⟨h1, h2, h3, h4⟩ := read_seal e
  refine ⟨h3, ?_, by omega, by omega⟩
  have := (okS_rv h2).2
  unfold inn
  rw [ByteArray.size_extract]
  omega
theorem wf64 {n : Nat} (h : n ≤ 562949953421311) : (Lit.int .i64 (n : Int)).wf = true := by
  have h1 : (-9223372036854775808 : Int) ≤ (n : Int) := by omega
  have h2 : (n : Int) ≤ 9223372036854775807 := by omega
  have e1 : IntKind.i64.min = -9223372036854775808 := by decide
  have e2 : IntKind.i64.max = 9223372036854775807 := by decide
  simp [Lit.wf, e1, e2, h1, h2]
noncomputable def lookN : Nat → ByteArray → SSt → SSt
  | 0, _, s => s
  | n + 1, t, s => if memB t s.1 = true then s else if isK t 107 = true then (t :: s.1, (nOf t : Int) :: s.2.1, s.2.2) else if isK t 108 = true then (partsS t).1.foldl (fun s p => lookN n p s) (t :: s.1, s.2.1, s.2.2) else if isK t 115 = true then (t :: s.1, s.2.1, s.2.2 ++ [t]) else (t :: s.1, s.2.1, s.2.2)
def wt (ps : List ByteArray) : Nat := (ps.map fun p => p.size - 1).sum
theorem wt_nil : wt [] = 0 := rfl
theorem wt_cons (p : ByteArray) (ps : List ByteArray) : wt (p :: ps) = p.size - 1 + wt ps := by simp [wt]
theorem wt_append (a b : List ByteArray) : wt (a ++ b) = wt a + wt b := by simp [wt]
def grown (m : Nat) (s s' : SSt) : Prop := s.1.length ≤ s'.1.length ∧ s'.1.length ≤ s.1.length + m ∧ s'.2.1.length ≤ s.2.1.length + m ∧ s'.2.2.length ≤ s.2.2.length + m ∧ wt s'.2.2 ≤ wt s.2.2 + m ∧ s'.1.length + wt s'.2.2 ≤ s.1.length + wt s.2.2 + m ∧ s'.2.1.length + s.1.length ≤ s.2.1.length + s'.1.length
theorem grown.trans {m n : Nat} {a b c : SSt} (h : grown m a b) (k : grown n b c) : grown (m + n) a c := by
  unfold grown at *
  omega
theorem mem_tot {p : ByteArray} {ps : List ByteArray} (h : p ∈ ps) : p.size ≤ tot ps := by
  induction ps with
  | nil => cases h
  | cons q ps ih =>
    rw [tot_cons]
    rcases List.mem_cons.1 h with rfl | h
    · omega
    · have := ih h; omega
theorem fold_grown (n : Nat) (ih : ∀ t, okS t = true → t.size ≤ n → ∀ s, grown t.size s (lookN n t s) ∧ wt (lookN n t s).2.2 + 1 ≤ wt s.2.2 + t.size) : ∀ (ps : List ByteArray), (∀ p ∈ ps, okS p = true ∧ p.size ≤ n) → ∀ s, grown (tot ps) s (ps.foldl (fun s p => lookN n p s) s) := by
  intro ps
  induction ps with
  | nil => intro _ s; exact ⟨Nat.le_refl _, by simp [tot], by simp [tot], by simp [tot], by simp [tot], by simp [tot], by simp⟩
  | cons p ps ih2 =>
    intro hp s
    rw [tot_cons, List.foldl_cons]
    exact (ih p (hp p (List.mem_cons_self ..)).1 (hp p (List.mem_cons_self ..)).2 s).1.trans (ih2 (fun q hq => hp q (List.mem_cons_of_mem _ hq)) _)
theorem look_grown (n : Nat) : ∀ t, okS t = true → t.size ≤ n → ∀ s, grown t.size s (lookN n t s) ∧ wt (lookN n t s).2.2 + 1 ≤ wt s.2.2 + t.size := by
  induction n with
  | zero =>
    intro t ht hn s
    have := (okS_size ht).1
    omega
  | succ n ih =>
    intro t ht hn s
    have h1 := (okS_size ht).1
    obtain ⟨S, R, C⟩ := s
    rw [lookN]
    by_cases c1 : memB t S = true
    · rw [if_pos c1]; unfold grown; simp; omega
    · rw [if_neg c1]
      by_cases c2 : isK t 107 = true
      · rw [if_pos c2]; unfold grown; simp; omega
      · rw [if_neg c2]
        by_cases c3 : isK t 108 = true
        · rw [if_pos c3]
          obtain ⟨_, h2, h3⟩ := parts_all c3
          have h4 := fold_grown n ih (partsS t).1 (fun p hp => ⟨h3 p hp, by have := mem_tot hp; omega⟩) (t :: S, R, C)
          unfold grown at h4 ⊢
          simp only [List.length_cons] at h4 ⊢
          omega
        · rw [if_neg c3]
          by_cases c4 : isK t 115 = true
          · rw [if_pos c4]
            unfold grown
            simp only [List.length_cons, List.length_append, List.length_nil, wt_append, wt_cons, wt_nil]
            omega
          · rw [if_neg c4]; unfold grown; simp; omega
/-- The search ends, and finds this. -/
theorem fold_ev (n : Nat) (ih : ∀ t, okS t = true → t.size ≤ n → ∀ s : SSt, s.1.length + t.size ≤ 100000000 → s.2.1.length + t.size ≤ 100000000 → s.2.2.length + t.size ≤ 100000000 → Ev (fun k => impl_look.f k t s) (lookN n t s)) :
    ∀ (ps : List ByteArray), (∀ p ∈ ps, okS p = true ∧ p.size ≤ n) → ∀ s : SSt, s.1.length + tot ps ≤ 100000000 → s.2.1.length + tot ps ≤ 100000000 → s.2.2.length + tot ps ≤ 100000000 → Ev (fun k => foldS (impl_look.f k) ps s) (ps.foldl (fun s p => lookN n p s) s) := by
  intro ps
  induction ps with
  | nil => intro _ s _ _ _; exact Ev.now s
  | cons p ps ih2 =>
    intro hp s b1 b2 b3
    rw [tot_cons] at b1 b2 b3
    have hpp := hp p (List.mem_cons_self ..)
    have hg := (look_grown n p hpp.1 hpp.2 s).1
    unfold grown at hg
    exact Ev.bind (ih p hpp.1 hpp.2 s (by omega) (by omega) (by omega)) (ih2 (fun q hq => hp q (List.mem_cons_of_mem _ hq)) _ (by omega) (by omega) (by omega))
theorem look_ev (n : Nat) : ∀ t, okS t = true → t.size ≤ n → ∀ s : SSt, s.1.length + t.size ≤ 100000000 → s.2.1.length + t.size ≤ 100000000 → s.2.2.length + t.size ≤ 100000000 → Ev (fun k => impl_look.f k t s) (lookN n t s) := by
  induction n with
  | zero =>
    intro t ht hn s
    have := (okS_size ht).1
    omega
  | succ n ih =>
    intro t ht hn s b1 b2 b3
    obtain ⟨h1, h2⟩ := okS_size ht
    obtain ⟨S, R, C⟩ := s
    simp only at b1 b2 b3
    have g1 : (t.size : Int) ≤ 1048576 := by omega
    have g2 : S.length < 1000000000 := by omega
    have g3 : R.length < 1000000000 := by omega
    have g4 : C.length < 1000000000 := by omega
    have g5 : 0 < (t.size : Int) := by omega
    rw [lookN]
    by_cases c1 : memB t S = true
    · rw [if_pos c1]
      refine Ev.step (f := fun _ => some (S, R, C)) (fun k => ?_) (Ev.now _)
      simp only [impl_look.f, g1, c1, if_true]
    · rw [if_neg c1]
      have k107 := isK_bt ht 107
      have k108 := isK_bt ht 108
      have k115 := isK_bt ht 115
      by_cases c2 : isK t 107 = true
      · rw [if_pos c2]
        have e2 : bt t 0 = 107 := k107.1 c2
        refine Ev.step (f := fun k => (impl_ReadKey.f k t).bind fun x => (if (Lit.int .i64 x.1).wf = true then some (t :: S, x.1 :: R, C) else none)) (fun k => ?_) (Ev.bind (impl_ReadKey_ev t (by omega)) ?_)
        · simp only [impl_look.f, g1, c1, g2, g3, g4, g5, if_true]
          rw [if_neg (by decide), if_pos e2]
        · unfold rkS
          rw [if_pos c2]
          simp only
          rw [wf64 ((okS_rv ht).2.2.2)]
          exact Ev.now _
      · rw [if_neg c2]
        have e2 : ¬ bt t 0 = 107 := fun e => c2 (k107.2 e)
        by_cases c3 : isK t 108 = true
        · rw [if_pos c3]
          have e3 : bt t 0 = 108 := k108.1 c3
          obtain ⟨hp, h4, h5⟩ := parts_all c3
          refine Ev.step (f := fun k => (impl_Parts.f k t).bind fun x => (if x.1.length < 1000000000 then foldS (impl_look.f k) x.1 (t :: S, R, C) else none)) (fun k => ?_) (Ev.bind (impl_Parts_ev t (by omega)) ?_)
          · simp only [impl_look.f, g1, c1, g2, g3, g4, g5, if_true]
            rw [if_neg (by decide), if_neg e2, if_pos e3]
          · have hpl : (partsS t).1.length < 1000000000 := by have := partsS_len t; omega
            simp only [hpl, if_true]
            exact fold_ev n ih _ (fun p hp2 => ⟨h5 p hp2, by have := mem_tot hp2; omega⟩) _ (by simp only [List.length_cons]; omega) (by simp only; omega) (by simp only; omega)
        · rw [if_neg c3]
          have e3 : ¬ bt t 0 = 108 := fun e => c3 (k108.2 e)
          by_cases c4 : isK t 115 = true
          · rw [if_pos c4]
            have e4 : bt t 0 = 115 := k115.1 c4
            refine Ev.step (f := fun _ => some (t :: S, R, C ++ [t])) (fun k => ?_) (Ev.now _)
            simp only [impl_look.f, g1, c1, g2, g3, g4, g5, if_true]
            rw [if_neg (by decide), if_neg e2, if_neg e3, if_pos e4]
          · rw [if_neg c4]
            have e4 : ¬ bt t 0 = 115 := fun e => c4 (k115.2 e)
            refine Ev.step (f := fun _ => some (t :: S, R, C)) (fun k => ?_) (Ev.now _)
            simp only [impl_look.f, g1, c1, g2, g3, g4, g5, if_true]
            rw [if_neg (by decide), if_neg e2, if_neg e3, if_neg e4]
/-- What the search keeps: all that was there; each new term's parts, key; closed terms wait. -/
def stays (s s' : SSt) : Prop := (∀ u ∈ s.1, u ∈ s'.1) ∧ (∀ n ∈ s.2.1, n ∈ s'.2.1) ∧ (∀ u ∈ s.2.2, u ∈ s'.2.2)
def doneS (s : SSt) (u : ByteArray) : Prop := (isK u 107 = true → (nOf u : Int) ∈ s.2.1) ∧ (∀ p ∈ (partsS u).1, p ∈ s.1) ∧ (isK u 115 = true → u ∈ s.2.2)
theorem stays.refl (s : SSt) : stays s s := ⟨fun _ h => h, fun _ h => h, fun _ h => h⟩
theorem stays.trans {a b c : SSt} (h : stays a b) (k : stays b c) : stays a c := ⟨fun u hu => k.1 u (h.1 u hu), fun u hu => k.2.1 u (h.2.1 u hu), fun u hu => k.2.2 u (h.2.2 u hu)⟩
theorem doneS.mono {s s' : SSt} {u : ByteArray} (h : doneS s u) (k : stays s s') : doneS s' u := ⟨fun c => k.2.1 _ (h.1 c), fun p hp => k.1 p (h.2.1 p hp), fun c => k.2.2 u (h.2.2 c)⟩
def foundS (t : ByteArray) (s s' : SSt) : Prop := stays s s' ∧ t ∈ s'.1 ∧ (∀ u ∈ s'.1, u ∈ s.1 ∨ doneS s' u) ∧ (∀ u ∈ s'.2.2, u ∈ s.2.2 ∨ (isK u 115 = true ∧ u ∈ s'.1))
theorem parts_nil {u : ByteArray} (h : ¬ isK u 108 = true) : (partsS u).1 = [] := by unfold partsS; rw [if_neg h]
theorem isK_two {u : ByteArray} {a b : Nat} (ha : isK u a = true) (hb : isK u b = true) : a = b := by
  unfold isK at ha hb
  rw [Bool.and_eq_true, decide_eq_true_iff] at ha hb
  omega
theorem fold_found (n : Nat) (ih : ∀ t, okS t = true → t.size ≤ n → ∀ s, foundS t s (lookN n t s)) : ∀ (ps : List ByteArray), (∀ p ∈ ps, okS p = true ∧ p.size ≤ n) → ∀ s,
    stays s (ps.foldl (fun s p => lookN n p s) s) ∧ (∀ p ∈ ps, p ∈ (ps.foldl (fun s p => lookN n p s) s).1) ∧ (∀ u ∈ (ps.foldl (fun s p => lookN n p s) s).1, u ∈ s.1 ∨ doneS (ps.foldl (fun s p => lookN n p s) s) u) ∧ (∀ u ∈ (ps.foldl (fun s p => lookN n p s) s).2.2, u ∈ s.2.2 ∨ (isK u 115 = true ∧ u ∈ (ps.foldl (fun s p => lookN n p s) s).1)) := by
  intro ps
  induction ps with
  | nil => intro _ s; exact ⟨stays.refl s, fun p hp => by (cases hp), fun u hu => .inl hu, fun u hu => .inl hu⟩
  | cons p ps ih2 =>
    intro hp s
    rw [List.foldl_cons]
    obtain ⟨a1, a2, a3, a4⟩ := ih p (hp p (List.mem_cons_self ..)).1 (hp p (List.mem_cons_self ..)).2 s
    obtain ⟨b1, b2, b3, b4⟩ := ih2 (fun q hq => hp q (List.mem_cons_of_mem _ hq)) (lookN n p s)
    generalize ps.foldl (fun s p => lookN n p s) (lookN n p s) = s2 at b1 b2 b3 b4 ⊢
    refine ⟨a1.trans b1, fun q hq => ?_, fun u hu => ?_, fun u hu => ?_⟩
    · rcases List.mem_cons.1 hq with rfl | hq
      · exact b1.1 _ a2
      · exact b2 q hq
    · rcases b3 u hu with h | h
      · rcases a3 u h with h | h
        · exact .inl h
        · exact .inr (h.mono b1)
      · exact .inr h
    · rcases b4 u hu with h | h
      · rcases a4 u h with h | h
        · exact .inl h
        · exact .inr ⟨h.1, b1.1 _ h.2⟩
      · exact .inr h
theorem look_found (n : Nat) : ∀ t, okS t = true → t.size ≤ n → ∀ s, foundS t s (lookN n t s) := by
  induction n with
  | zero =>
    intro t ht hn s
    have := (okS_size ht).1
    omega
  | succ n ih =>
    intro t ht hn s
    obtain ⟨S, R, C⟩ := s
    rw [lookN]
    by_cases c1 : memB t S = true
    · rw [if_pos c1]
      exact ⟨stays.refl _, memB_mem.1 c1, fun u hu => .inl hu, fun u hu => .inl hu⟩
    · rw [if_neg c1]
      by_cases c2 : isK t 107 = true
      · rw [if_pos c2]
        refine ⟨⟨fun u hu => List.mem_cons_of_mem _ hu, fun m hm => List.mem_cons_of_mem _ hm, fun u hu => hu⟩, List.mem_cons_self .., fun u hu => ?_, fun u hu => .inl hu⟩
        rcases List.mem_cons.1 hu with rfl | hu
        · refine .inr ⟨fun _ => List.mem_cons_self .., fun p hp => ?_, fun c => ?_⟩
          · rw [parts_nil (fun c => by have := isK_two c2 c; omega)] at hp; cases hp
          · have := isK_two c2 c; omega
        · exact .inl hu
      · rw [if_neg c2]
        by_cases c3 : isK t 108 = true
        · rw [if_pos c3]
          obtain ⟨_, h2, h3⟩ := parts_all c3
          obtain ⟨b1, b2, b3, b4⟩ := fold_found n ih (partsS t).1 (fun p hp => ⟨h3 p hp, by have := mem_tot hp; omega⟩) (t :: S, R, C)
          generalize (partsS t).1.foldl (fun s p => lookN n p s) (t :: S, R, C) = s2 at b1 b2 b3 b4 ⊢
          refine ⟨⟨fun u hu => b1.1 u (List.mem_cons_of_mem _ hu), b1.2.1, b1.2.2⟩, b1.1 t (List.mem_cons_self ..), fun u hu => ?_, b4⟩
          rcases b3 u hu with h | h
          · rcases List.mem_cons.1 h with rfl | h
            · exact .inr ⟨fun c => by have := isK_two c3 c; omega, b2, fun c => by have := isK_two c3 c; omega⟩
            · exact .inl h
          · exact .inr h
        · rw [if_neg c3]
          by_cases c4 : isK t 115 = true
          · rw [if_pos c4]
            refine ⟨⟨fun u hu => List.mem_cons_of_mem _ hu, fun m hm => hm, fun u hu => List.mem_append_left _ hu⟩, List.mem_cons_self .., fun u hu => ?_, fun u hu => ?_⟩
            · rcases List.mem_cons.1 hu with rfl | hu
              · exact .inr ⟨fun c => absurd c c2, fun p hp => (by rw [parts_nil c3] at hp; cases hp), fun _ => List.mem_append_right _ (List.mem_cons_self ..)⟩
              · exact .inl hu
            · rcases List.mem_append.1 hu with h | h
              · exact .inl h
              · rw [List.mem_singleton] at h; subst h; exact .inr ⟨c4, List.mem_cons_self ..⟩
          · rw [if_neg c4]
            refine ⟨⟨fun u hu => List.mem_cons_of_mem _ hu, fun m hm => hm, fun u hu => hu⟩, List.mem_cons_self .., fun u hu => ?_, fun u hu => .inl hu⟩
            rcases List.mem_cons.1 hu with rfl | hu
            · exact .inr ⟨fun c => absurd c c2, fun p hp => (by rw [parts_nil c3] at hp; cases hp), fun c => absurd c c4⟩
            · exact .inl hu
/-- Whatever is closed under the rules holds what the search finds. -/
def soundS (PS : ByteArray → Prop) (PR : Int → Prop) (s : SSt) : Prop := (∀ u ∈ s.1, PS u) ∧ (∀ n ∈ s.2.1, PR n) ∧ (∀ u ∈ s.2.2, PS u)
structure ruleS (PS : ByteArray → Prop) (PR : Int → Prop) : Prop where
  key : ∀ u, PS u → isK u 107 = true → PR (nOf u : Int)
  part : ∀ u, PS u → ∀ p ∈ (partsS u).1, PS p
  opens : ∀ u, PS u → isK u 115 = true → PR (nOf u : Int) → PS (inn u)
theorem look_sound {PS : ByteArray → Prop} {PR : Int → Prop} (hr : ruleS PS PR) (n : Nat) : ∀ t, PS t → ∀ s, soundS PS PR s → soundS PS PR (lookN n t s) := by
  induction n with
  | zero => intro t ht s h; exact h
  | succ n ih =>
    intro t ht s h
    obtain ⟨S, R, C⟩ := s
    obtain ⟨h1, h2, h3⟩ := h
    have hS : ∀ u ∈ t :: S, PS u := fun u hu => by
      rcases List.mem_cons.1 hu with rfl | hu
      · exact ht
      · exact h1 u hu
    rw [lookN]
    split
    · exact ⟨h1, h2, h3⟩
    · split
      · rename_i c2
        refine ⟨hS, fun m hm => ?_, h3⟩
        rcases List.mem_cons.1 hm with rfl | hm
        · exact hr.key t ht c2
        · exact h2 m hm
      · split
        · have hp := hr.part t ht
          have loop : ∀ (ps : List ByteArray), (∀ p ∈ ps, PS p) → ∀ s, soundS PS PR s → soundS PS PR (ps.foldl (fun s p => lookN n p s) s) := by
            intro ps
            induction ps with
            | nil => intro _ s h; exact h
            | cons p ps ih2 =>
              intro hps s hs
              rw [List.foldl_cons]
              exact ih2 (fun q hq => hps q (List.mem_cons_of_mem _ hq)) _ (ih p (hps p (List.mem_cons_self ..)) s hs)
          exact loop _ hp _ ⟨hS, h2, h3⟩
        · split
          · refine ⟨hS, h2, fun u hu => ?_⟩
            rcases List.mem_append.1 hu with h | h
            · exact h3 u h
            · rw [List.mem_singleton] at h; subst h; exact ht
          · exact ⟨hS, h2, h3⟩
theorem wt_len {C : List ByteArray} (h : ∀ u ∈ C, isK u 115 = true) : C.length ≤ wt C := by
  induction C with
  | nil => simp
  | cons u C ih =>
    rw [wt_cons, List.length_cons]
    have h1 := inn_all (h u (List.mem_cons_self ..))
    have h2 := okS_size h1.1
    have := ih (fun x hx => h x (List.mem_cons_of_mem _ hx))
    omega
noncomputable def rndN : List ByteArray → Bool → SSt → Bool × SSt
  | [], ag, s => (ag, s)
  | t :: ts, ag, s => if memI (nOf t : Int) s.2.1 = true then rndN ts true (lookN 900 (inn t) s) else rndN ts ag (s.1, s.2.1, s.2.2 ++ [t])
def roundS (ts : List ByteArray) (ag : Bool) (s : SSt) (x : Bool × SSt) : Prop :=
  (∀ u ∈ x.2.2.2, isK u 115 = true) ∧ x.2.1.length + wt x.2.2.2 ≤ s.1.length + wt ts + wt s.2.2 ∧ x.2.2.1.length + s.1.length ≤ s.2.1.length + x.2.1.length ∧ s.1.length ≤ x.2.1.length ∧
    wt x.2.2.2 ≤ wt ts + wt s.2.2 ∧ (x.1 = true → ag = true ∨ wt x.2.2.2 + 1 ≤ wt ts + wt s.2.2) ∧
    stays s x.2 ∧ (∀ t ∈ ts, t ∈ x.2.2.2 ∨ inn t ∈ x.2.1) ∧ (∀ u ∈ x.2.1, u ∈ s.1 ∨ doneS x.2 u) ∧ (∀ u ∈ x.2.2.2, u ∈ s.2.2 ∨ u ∈ ts ∨ u ∈ x.2.1) ∧
    (x.1 = false → ag = false ∧ x.2.1 = s.1 ∧ x.2.2.1 = s.2.1 ∧ x.2.2.2 = s.2.2 ++ ts ∧ ∀ t ∈ ts, ¬ (nOf t : Int) ∈ s.2.1)
theorem rnd_all : ∀ (ts : List ByteArray), (∀ t ∈ ts, isK t 115 = true) → ∀ (ag : Bool) (s : SSt), (∀ u ∈ s.2.2, isK u 115 = true) → s.1.length + wt ts + wt s.2.2 ≤ 1000000 → s.2.1.length ≤ s.1.length + 1000000 →
    Ev (fun k => rndS k ts ag s) (rndN ts ag s) ∧ roundS ts ag s (rndN ts ag s) := by
  intro ts
  induction ts with
  | nil =>
    intro _ ag s hC hb hR
    refine ⟨Ev.now _, hC, by simp [rndN, wt], by simp only [rndN]; omega, Nat.le_refl _, by simp [rndN, wt], fun h => .inl h, stays.refl s, fun t ht => (by cases ht), fun u hu => .inl hu, fun u hu => .inl hu, fun h => ⟨h, rfl, rfl, (List.append_nil _).symm, fun t ht => (by cases ht)⟩⟩
  | cons t ts ih =>
    intro hts ag s hC hb hR
    have ht := hts t (List.mem_cons_self ..)
    obtain ⟨i1, i2, i3, i4⟩ := inn_all ht
    have i5 := (okS_size i1).1
    have i6 := (okS_size i1).2
    have ht2 := okS_size (isK_ok ht)
    have hrest : ∀ u ∈ ts, isK u 115 = true := fun u hu => hts u (List.mem_cons_of_mem _ hu)
    have hCl := wt_len hC
    rw [wt_cons] at hb
    have hsd : sdS t = ((nOf t : Int), inn t, true) := by unfold sdS; rw [if_pos ht]; rfl
    have hwf : (Lit.int .i64 (nOf t : Int)).wf = true := wf64 (by omega)
    rw [rndN]
    by_cases c : memI (nOf t : Int) s.2.1 = true
    · rw [if_pos c]
      have hg := look_grown 900 (inn t) i1 i6 s
      have hf := look_found 900 (inn t) i1 i6 s
      have hev := look_ev 900 (inn t) i1 i6 s (by omega) (by omega) (by omega)
      generalize lookN 900 (inn t) s = s1 at hg hf hev ⊢
      unfold grown at hg
      obtain ⟨f1, f2, f3, f4⟩ := hf
      have hC1 : ∀ u ∈ s1.2.2, isK u 115 = true := fun u hu => (f4 u hu).elim (hC u) (fun h => h.1)
      obtain ⟨e, r1, r2, r3, r4, r5, r6, r7, r8, r9, r10, r11⟩ := ih hrest true s1 hC1 (by omega) (by omega)
      refine ⟨?_, r1, by rw [wt_cons]; omega, by omega, by omega, by rw [wt_cons]; omega, fun h => .inr (by rw [wt_cons]; omega), f1.trans r7, fun u hu => ?_, fun u hu => ?_, fun u hu => ?_, fun h => ?_⟩
      · refine Ev.congr (f := fun k => (impl_sealed.f k t).bind fun x => if (Lit.int .i64 x.1).wf = true then (if memI x.1 s.2.1 = true then ((impl_look.f k x.2.1 s).bind fun s1 => rndS k ts true s1) else (if s.2.2.length < 1000000000 then rndS k ts ag (s.1, s.2.1, s.2.2 ++ [t]) else none)) else none) (fun k => by simp only [rndS]) (Ev.bind (impl_sealed_ev t (by omega)) ?_)
        rw [hsd]
        simp only [hwf, c, if_true]
        exact Ev.bind hev e
      · rcases List.mem_cons.1 hu with rfl | hu
        · exact .inr (r7.1 _ f2)
        · exact r8 u hu
      · rcases r9 u hu with h | h
        · rcases f3 u h with h | h
          · exact .inl h
          · exact .inr (h.mono r7)
        · exact .inr h
      · rcases r10 u hu with h | h | h
        · rcases f4 u h with h | h
          · exact .inl h
          · exact .inr (.inr (r7.1 _ h.2))
        · exact .inr (.inl (List.mem_cons_of_mem _ h))
        · exact .inr (.inr h)
      · have := (r11 h).1; cases this
    · rw [if_neg c]
      have hC1 : ∀ u ∈ s.2.2 ++ [t], isK u 115 = true := fun u hu => by
        rcases List.mem_append.1 hu with h | h
        · exact hC u h
        · rw [List.mem_singleton] at h; subst h; exact ht
      have hw : wt (s.2.2 ++ [t]) = wt s.2.2 + (t.size - 1) := by rw [wt_append, wt_cons, wt_nil]; omega
      have hl3 : s.2.2.length < 1000000000 := by omega
      obtain ⟨e, r1, r2, r3, r4, r5, r6, r7, r8, r9, r10, r11⟩ := ih hrest ag (s.1, s.2.1, s.2.2 ++ [t]) hC1 (by simp only [hw]; omega) hR
      simp only [hw] at r2 r3 r4 r5 r6
      generalize rndN ts ag (s.1, s.2.1, s.2.2 ++ [t]) = x at e r1 r2 r3 r4 r5 r6 r7 r8 r9 r10 r11 ⊢
      refine ⟨?_, r1, by rw [wt_cons]; omega, by omega, by omega, by rw [wt_cons]; omega, fun h => (r6 h).imp id (fun h => by rw [wt_cons]; omega), ⟨r7.1, r7.2.1, fun u hu => r7.2.2 u (List.mem_append_left _ hu)⟩, fun u hu => ?_, r9, fun u hu => ?_, fun h => ?_⟩
      · refine Ev.congr (f := fun k => (impl_sealed.f k t).bind fun x => if (Lit.int .i64 x.1).wf = true then (if memI x.1 s.2.1 = true then ((impl_look.f k x.2.1 s).bind fun s1 => rndS k ts true s1) else (if s.2.2.length < 1000000000 then rndS k ts ag (s.1, s.2.1, s.2.2 ++ [t]) else none)) else none) (fun k => by simp only [rndS]) (Ev.bind (impl_sealed_ev t (by omega)) ?_)
        rw [hsd]
        simp only [hwf, c, hl3, if_true, if_false, Bool.false_eq_true]
        exact e
      · rcases List.mem_cons.1 hu with rfl | hu
        · exact .inl (r7.2.2 _ (List.mem_append_right _ (List.mem_cons_self ..)))
        · exact r8 u hu
      · rcases r10 u hu with h | h | h
        · rcases List.mem_append.1 h with h | h
          · exact .inl h
          · rw [List.mem_singleton] at h; subst h; exact .inr (.inl (List.mem_cons_self ..))
        · exact .inr (.inl (List.mem_cons_of_mem _ h))
        · exact .inr (.inr h)
      · obtain ⟨q1, q2, q3, q5, q4⟩ := r11 h
        refine ⟨q1, q2, q3, by rw [q5]; simp, fun u hu => ?_⟩
        rcases List.mem_cons.1 hu with rfl | hu
        · exact fun hm => c (memI_mem.2 hm)
        · exact q4 u hu
theorem rnd_sound {PS : ByteArray → Prop} {PR : Int → Prop} (hr : ruleS PS PR) : ∀ (ts : List ByteArray), (∀ t ∈ ts, isK t 115 = true ∧ PS t) → ∀ (ag : Bool) (s : SSt), soundS PS PR s → soundS PS PR (rndN ts ag s).2 := by
  intro ts
  induction ts with
  | nil => intro _ ag s h; exact h
  | cons t ts ih =>
    intro hts ag s h
    have ht := hts t (List.mem_cons_self ..)
    have hrest : ∀ u ∈ ts, isK u 115 = true ∧ PS u := fun u hu => hts u (List.mem_cons_of_mem _ hu)
    rw [rndN]
    split
    · rename_i c
      exact ih hrest true _ (look_sound hr 900 _ (hr.opens t ht.2 ht.1 (h.2.1 _ (memI_mem.1 c))) s h)
    · refine ih hrest ag _ ⟨h.1, h.2.1, fun u hu => ?_⟩
      rcases List.mem_append.1 hu with h2 | h2
      · exact h.2.2 u h2
      · rw [List.mem_singleton] at h2; subst h2; exact ht.2
/-- The state between rounds: closed terms wait, all else is done. -/
def invS (s : SSt) : Prop := (∀ u ∈ s.2.2, isK u 115 = true ∧ u ∈ s.1) ∧ (∀ u ∈ s.1, (isK u 107 = true → (nOf u : Int) ∈ s.2.1) ∧ (∀ p ∈ (partsS u).1, p ∈ s.1) ∧ (isK u 115 = true → u ∈ s.2.2 ∨ inn u ∈ s.1))
theorem again_all : ∀ (m : Nat) (s : SSt), wt s.2.2 < m → invS s → s.1.length + wt s.2.2 ≤ 1000000 → s.2.1.length ≤ s.1.length + 1000000 →
    ∃ s' : SSt, (∃ K, ∀ k, K ≤ k → ∀ j, m ≤ j → againS k j s = some s') ∧ invS s' ∧ (∀ u ∈ s'.2.2, ¬ (nOf u : Int) ∈ s'.2.1) ∧ ((∀ u ∈ s.1, u ∈ s'.1) ∧ (∀ n ∈ s.2.1, n ∈ s'.2.1)) ∧ s'.1.length ≤ 1000000 ∧ s'.2.1.length + s.1.length ≤ s.2.1.length + s'.1.length ∧
      (∀ PS PR, ruleS PS PR → soundS PS PR s → soundS PS PR s') := by
  intro m
  induction m with
  | zero => intro s h; omega
  | succ m ih =>
    intro s hm hI hb hR
    obtain ⟨S, R, C⟩ := s
    obtain ⟨hI1, hI2⟩ := hI
    simp only at hm hb hR hI1 hI2
    have hC : ∀ t ∈ C, isK t 115 = true := fun t ht => (hI1 t ht).1
    have hCl := wt_len hC
    have hl3 : C.length < 1000000000 := by omega
    obtain ⟨⟨K1, e⟩, r1, r2, r3, r4, r5, r6, r7, r8, r9, r10, r11⟩ := rnd_all C hC false (S, R, []) (fun u hu => by cases hu) (by simp only [wt_nil]; omega) hR
    have hsnd : ∀ PS PR, ruleS PS PR → soundS PS PR (S, R, C) → soundS PS PR (rndN C false (S, R, [])).2 := fun PS PR hr hs => rnd_sound hr C (fun t ht => ⟨hC t ht, hs.2.2 t ht⟩) false (S, R, []) ⟨hs.1, hs.2.1, fun u hu => by cases hu⟩
    generalize rndN C false (S, R, []) = x at e r1 r2 r3 r4 r5 r6 r7 r8 r9 r10 r11 hsnd
    obtain ⟨ag, S1, R1, C1⟩ := x
    simp only [wt_nil] at r1 r2 r3 r4 r5 r6 r8 r9 r10 r11
    have hI' : invS (S1, R1, C1) := by
      refine ⟨fun u hu => ⟨r1 u hu, ?_⟩, fun u hu => ?_⟩
      · rcases r10 u hu with h | h | h
        · cases h
        · exact r7.1 u (hI1 u h).2
        · exact h
      · rcases r9 u hu with h | h
        · obtain ⟨q1, q2, q3⟩ := hI2 u h
          refine ⟨fun c => r7.2.1 _ (q1 c), fun p hp => r7.1 _ (q2 p hp), fun c => ?_⟩
          rcases q3 c with h | h
          · exact r8 u h
          · exact .inr (r7.1 _ h)
        · exact ⟨h.1, h.2.1, fun c => .inl (h.2.2 c)⟩
    cases ag with
    | false =>
      obtain ⟨_, q2, q3, q5, q4⟩ := r11 rfl
      refine ⟨(S1, R1, C1), ⟨K1, fun k hk j hj => ?_⟩, hI', fun u hu => ?_, ⟨r7.1, r7.2.1⟩, by simp only; omega, by simp only; omega, hsnd⟩
      · cases j with
        | zero => omega
        | succ j =>
          simp only [againS]
          rw [if_pos hl3, show rndS k C false (S, R, []) = some (false, S1, R1, C1) from e k hk]
          simp only [Option.bind_some, Bool.false_eq_true, if_false]
      · simp only at q2 q3 q5 hu ⊢
        rw [q3]
        rw [q5] at hu
        exact q4 u (by simpa using hu)
    | true =>
      have h6 := (r6 rfl).elim (fun h => by cases h) id
      obtain ⟨s', ⟨K2, e2⟩, g1, g2, g3, g4, g5, g6⟩ := ih (S1, R1, C1) (by simp only; omega) hI' (by simp only; omega) (by simp only; omega)
      refine ⟨s', ⟨max K1 K2, fun k hk j hj => ?_⟩, g1, g2, ⟨fun u hu => g3.1 u (r7.1 u hu), fun n hn => g3.2 n (r7.2.1 n hn)⟩, g4, by simp only at g5 ⊢; omega, fun PS PR hr hs => g6 PS PR hr (hsnd PS PR hr hs)⟩
      cases j with
      | zero => omega
      | succ j =>
        simp only [againS]
        rw [if_pos hl3, show rndS k C false (S, R, []) = some (true, S1, R1, C1) from e k (by omega)]
        simp only [Option.bind_some, if_true]
        exact e2 k (by omega) j (by omega)
theorem foldK_all : ∀ (ks R : List Int), (∀ n ∈ ks, 1 ≤ n ∧ n ≤ 1000000) → R.length + ks.length ≤ 1000000 → ∃ R', foldK ks R = some R' ∧ R'.length = R.length + ks.length ∧ ∀ n, n ∈ R' ↔ (n ∈ ks ∨ n ∈ R) := by
  intro ks
  induction ks with
  | nil => intro R _ _; exact ⟨R, rfl, by simp, fun n => by simp⟩
  | cons n ks ih =>
    intro R hk hl
    rw [List.length_cons] at hl
    have hn := hk n (List.mem_cons_self ..)
    obtain ⟨m, rfl⟩ := Int.eq_ofNat_of_zero_le (show 0 ≤ n by omega)
    have hwf : (Lit.int .i64 (m : Int)).wf = true := wf64 (by omega)
    have hR : R.length < 1000000000 := by omega
    obtain ⟨R', h1, h2, h3⟩ := ih ((m : Int) :: R) (fun x hx => hk x (List.mem_cons_of_mem _ hx)) (by simp only [List.length_cons]; omega)
    refine ⟨R', ?_, by rw [h2]; simp only [List.length_cons]; omega, fun x => ?_⟩
    · simp only [foldK]
      rw [if_pos hwf, if_pos hR]
      exact h1
    · rw [h3, List.mem_cons, List.mem_cons]
      exact ⟨fun h => h.elim (fun h => .inl (.inr h)) (fun h => h.elim (fun h => .inl (.inl h)) .inr), fun h => h.elim (fun h => h.elim (fun h => .inr (.inl h)) .inl) (fun h => .inr (.inr h))⟩
theorem rule_ok : ruleS (fun u => okS u = true) (fun n => 1 ≤ n ∧ n ≤ 1000000) := by
  refine ⟨fun u hu c => ?_, fun u hu p hp => ?_, fun u hu c _ => (inn_all c).1⟩
  · obtain ⟨t, _, _, _, _, h⟩ := isK_cases c
    omega
  · by_cases c : isK u 108 = true
    · exact (parts_all c).2.2 p hp
    · rw [parts_nil c] at hp; cases hp
/-- What the program sees and reaches: closed under the rules, and no more. -/
theorem sight_all (ts : List ByteArray) (ks : List Int) (hts : ∀ t ∈ ts, okS t = true) (h1 : ts.length ≤ 60) (hks : ∀ n ∈ ks, 1 ≤ n ∧ n ≤ 1000000) (h2 : ks.length ≤ 40) :
    ∃ s : SSt, Ev (fun k => impl_sightOf.f k ts ks) s ∧ (∀ u ∈ ts, u ∈ s.1) ∧ (∀ n ∈ ks, n ∈ s.2.1) ∧ ruleS (fun u => u ∈ s.1) (fun n => n ∈ s.2.1) ∧ s.1.length ≤ 1000000 ∧ s.2.1.length ≤ 1000040 ∧
      (∀ PS PR, ruleS PS PR → (∀ u ∈ ts, PS u) → (∀ n ∈ ks, PR n) → (∀ u ∈ s.1, PS u) ∧ (∀ n ∈ s.2.1, PR n)) := by
  obtain ⟨R0, f1, f2, f3⟩ := foldK_all ks [] hks (by simp; omega)
  have htot : ∀ (l : List ByteArray), (∀ t ∈ l, okS t = true) → tot l ≤ 900 * l.length := by
    intro l
    induction l with
    | nil => intro _; simp [tot]
    | cons t l ih =>
      intro h
      have := ih (fun u hu => h u (List.mem_cons_of_mem _ hu))
      have := (okS_size (h t (List.mem_cons_self ..))).2
      rw [tot_cons, List.length_cons]
      omega
  have ht := htot ts hts
  have hp : ∀ p ∈ ts, okS p = true ∧ p.size ≤ 900 := fun p hp => ⟨hts p hp, (okS_size (hts p hp)).2⟩
  simp only [List.length_nil] at f2
  have hev := fold_ev 900 (look_ev 900) ts hp ([], R0, []) (by simp only [List.length_nil]; omega) (by simp only; omega) (by simp only [List.length_nil]; omega)
  have hg := fold_grown 900 (look_grown 900) ts hp ([], R0, [])
  obtain ⟨q1, q2, q3, q4⟩ := fold_found 900 (look_found 900) ts hp ([], R0, [])
  have hsn : ∀ PS PR, ruleS PS PR → (∀ u ∈ ts, PS u) → (∀ n ∈ ks, PR n) → soundS PS PR (ts.foldl (fun s p => lookN 900 p s) ([], R0, [])) := by
    intro PS PR hr hu hn
    have loop : ∀ (ps : List ByteArray), (∀ p ∈ ps, PS p) → ∀ s, soundS PS PR s → soundS PS PR (ps.foldl (fun s p => lookN 900 p s) s) := by
      intro ps
      induction ps with
      | nil => intro _ s h; exact h
      | cons p ps ih2 =>
        intro hps s hs
        rw [List.foldl_cons]
        exact ih2 (fun q hq => hps q (List.mem_cons_of_mem _ hq)) _ (look_sound hr 900 p (hps p (List.mem_cons_self ..)) s hs)
    refine loop ts hu _ ⟨fun u h => (by cases h), fun n h => ?_, fun u h => (by cases h)⟩
    rcases (f3 n).1 h with h | h
    · exact hn n h
    · cases h
  generalize ts.foldl (fun s p => lookN 900 p s) ([], R0, []) = s1 at hev hg q1 q2 q3 q4 hsn
  unfold grown at hg
  simp only [List.length_nil, wt_nil] at hg
  have hI : invS s1 := by
    refine ⟨fun u hu => ?_, fun u hu => ?_⟩
    · rcases q4 u hu with h | h
      · cases h
      · exact h
    · rcases q3 u hu with h | h
      · cases h
      · exact ⟨h.1, h.2.1, fun c => .inl (h.2.2 c)⟩
  obtain ⟨s', ⟨K, e⟩, g1, g2, g3, g4, g5, g6⟩ := again_all (wt s1.2.2 + 1) s1 (by omega) hI (by omega) (by omega)
  refine ⟨s', ?_, fun u hu => g3.1 u (q2 u hu), fun n hn => g3.2 n (q1.2.1 n ((f3 n).2 (.inl hn))), ⟨fun u hu c => (g1.2 u hu).1 c, fun u hu p hp => (g1.2 u hu).2.1 p hp, fun u hu c hn => ?_⟩, g4, by omega, fun PS PR hr hu hn => ?_⟩
  · unfold impl_sightOf.f
    have a1 : ts.length < 1000000000 := by omega
    have a2 : ks.length < 1000000000 := by omega
    simp only [a1, a2, if_true, f1, Option.bind_some]
    exact Ev.bind hev ⟨max K (wt s1.2.2 + 1), fun k hk => e k (by omega) k (by omega)⟩
  · rcases (g1.2 u hu).2.2 c with h | h
    · exact absurd hn (g2 u h)
    · exact h
  · have := g6 PS PR hr (hsn PS PR hr hu hn)
    exact ⟨this.1, this.2.1⟩

theorem nodup_le {α : Type} {X S : List α} (h : X.Nodup) (hs : ∀ u ∈ X, u ∈ S) : X.length ≤ S.length := by
  induction X generalizing S with
  | nil => simp
  | cons x X ih =>
    rw [List.nodup_cons] at h
    obtain ⟨a, b, rfl⟩ := List.append_of_mem (hs x (List.mem_cons_self ..))
    have := ih h.2 (S := a ++ b) (fun u hu => by
      have h1 := hs u (List.mem_cons_of_mem _ hu)
      have h2 : ¬ u = x := fun e => h.1 (e ▸ hu)
      simp only [List.mem_append, List.mem_cons] at h1 ⊢
      rcases h1 with h1 | h1 | h1
      · exact .inl h1
      · exact absurd h1 h2
      · exact .inr h1)
    simp only [List.length_append, List.length_cons] at this ⊢
    omega
structure gS (S : List ByteArray) (R : List Int) (ts : List ByteArray) (ks : List Int) (X : List ByteArray) (K : List Int) : Prop where
  nd : X.Nodup
  rs : K.Pairwise (· < ·)
  sx : ∀ u ∈ X, u ∈ S
  sk : ∀ n ∈ K, n ∈ R
  tx : ∀ u ∈ ts, u ∈ X
  tk : ∀ n ∈ ks, n ∈ K
def atS (X : List ByteArray) (K : List Int) (u : ByteArray) : Prop := (isK u 107 = true → (nOf u : Int) ∈ K) ∧ (∀ p ∈ (partsS u).1, p ∈ X) ∧ (isK u 115 = true → (nOf u : Int) ∈ K → inn u ∈ X)
def finS (S : List ByteArray) (R : List Int) (ts : List ByteArray) (ks : List Int) (r : List ByteArray × List Int) : Prop := gS S R ts ks r.1 r.2 ∧ ∀ u ∈ r.1, atS r.1 r.2 u
def clH (S : List ByteArray) (R : List Int) (ts : List ByteArray) (ks : List Int) (F : Nat → Option (List ByteArray × List Int)) : Prop := ∃ r, Ev F r ∧ finS S R ts ks r
theorem clH.step {S : List ByteArray} {R : List Int} {ts : List ByteArray} {ks : List Int} {F f : Nat → Option (List ByteArray × List Int)} (hs : ∀ k, F (k + 1) = f k) (h : clH S R ts ks f) : clH S R ts ks F := by
  obtain ⟨r, e, g⟩ := h
  exact ⟨r, Ev.step hs e, g⟩
theorem clH.bind {α : Type} {S : List ByteArray} {R : List Int} {ts : List ByteArray} {ks : List Int} {g : Nat → Option α} {f : Nat → α → Option (List ByteArray × List Int)} {a : α} (h : Ev g a) (k : clH S R ts ks (fun n => f n a)) : clH S R ts ks (fun n => (g n).bind (f n)) := by
  obtain ⟨r, e, hg⟩ := k
  exact ⟨r, Ev.bind h e, hg⟩
section
variable {S : List ByteArray} {R : List Int} {ts : List ByteArray} {ks : List Int}
theorem gS.lens {X : List ByteArray} {K : List Int} (h : gS S R ts ks X K) : X.length ≤ S.length ∧ K.length ≤ R.length := ⟨nodup_le h.nd h.sx, nodup_le (h.rs.imp (fun h => by omega)) h.sk⟩
theorem gS.add {X : List ByteArray} {K : List Int} (h : gS S R ts ks X K) {y : ByteArray} (hy : y ∈ S) (hn : ¬ y ∈ X) : gS S R ts ks (X ++ [y]) K := by
  refine ⟨?_, h.rs, fun u hu => ?_, h.sk, fun u hu => List.mem_append_left _ (h.tx u hu), h.tk⟩
  · refine List.nodup_append.2 ⟨h.nd, by simp, fun a ha b hb => ?_⟩
    rw [List.mem_singleton] at hb
    rintro rfl
    exact hn (hb ▸ ha)
  · rcases List.mem_append.1 hu with h1 | h1
    · exact h.sx u h1
    · rw [List.mem_singleton] at h1; exact h1 ▸ hy
theorem gS.put {X : List ByteArray} {K : List Int} (h : gS S R ts ks X K) {n : Int} (hy : n ∈ R) (hn : ¬ n ∈ K) : gS S R ts ks X (putL K n) := by
  refine ⟨h.nd, putL_rise n h.rs hn, h.sx, fun m hm => ?_, h.tx, fun m hm => (putL_mem K n m).2 (.inr (h.tk m hm))⟩
  rcases (putL_mem K n m).1 hm with h1 | h1
  · exact h1 ▸ hy
  · exact h.sk m h1
theorem close_l3 (hr : ruleS (fun u => u ∈ S) (fun n => n ∈ R)) (hok : ∀ u ∈ S, okS u = true) (hS : S.length ≤ 1000000) (hR : R.length ≤ 1000040) (n m : Int) (i : Nat) (u : ByteArray) (K : List Int) : ∀ (d j : Nat) (X : List ByteArray), j + d = K.length → gS S R ts ks X K → X[i]? = some u →
    (∀ X', gS S R ts ks X' K → X.length ≤ X'.length → (X'.length = X.length → X' = X ∧ (∀ q ∈ K.drop j, isK u 115 = true → (nOf u : Int) = q → inn u ∈ X)) → X'[i]? = some u → clH S R ts ks (fun k => spec_l3Close.l1 k X' K n m ((i + 1 : Nat) : Int))) →
    clH S R ts ks (fun k => spec_l3Close.l3 k X K n m (i : Int) (j : Int)) := by
  intro d
  induction d with
  | zero =>
    intro j X hj hg hu hn
    have hl := hg.lens
    obtain ⟨hi, hiu⟩ := List.getElem?_eq_some_iff.1 hu
    have e2 : wrap64 ((i : Int) + 1) = ((i + 1 : Nat) : Int) := w64 (by omega) (by omega)
    refine clH.step (f := fun k => spec_l3Close.l1 k X K n m ((i + 1 : Nat) : Int)) (fun k => ?_) (hn X hg (Nat.le_refl _) (fun _ => ⟨rfl, fun q hq => ?_⟩) hu)
    · simp only [spec_l3Close.l3]
      rw [if_neg (by omega), e2]
    · rw [List.drop_eq_nil_of_le (by omega)] at hq; cases hq
  | succ d ih =>
    intro j X hj hg hu hn
    have hl := hg.lens
    obtain ⟨hi, hiu⟩ := List.getElem?_eq_some_iff.1 hu
    have hjk : j < K.length := by omega
    have c1 : (j : Int) < (K.length : Int) := by omega
    have c2 : 0 ≤ (i : Int) := by omega
    have c3 : (i : Int) < (X.length : Int) := by omega
    have c4 : 0 ≤ (j : Int) := by omega
    have e2 : wrap64 ((j : Int) + 1) = ((j + 1 : Nat) : Int) := w64 (by omega) (by omega)
    have hux : u ∈ X := List.mem_of_getElem? hu
    have hus := okS_size (hok u (hg.sx u hux))
    have hev := spec_Open_ev u (by omega) (K[j])
    have hin := spec_l3In_ev X (inn u) (by omega)
    have hdrop : K.drop j = K[j] :: K.drop (j + 1) := List.drop_eq_getElem_cons hjk
    have er : rdOf ByteArray.empty X (i : Int) = u := by rw [rdOf_get X i hi]; exact hiu
    have er2 : rd K (j : Int) = K[j] := rd_get K j hjk
    refine clH.step (f := fun k => (spec_Open.f k u K[j]).bind fun bt206 => (if bt206.2 = true then ((spec_l3In.f k X bt206.1).bind fun t208 => (if t208 = true then (spec_l3Close.l3 k X K n m (i : Int) ((j + 1 : Nat) : Int)) else (if X.length < 8796093022208 then (spec_l3Close.l3 k (X ++ [bt206.1]) K n m (i : Int) ((j + 1 : Nat) : Int)) else (none)))) else (spec_l3Close.l3 k X K n m (i : Int) ((j + 1 : Nat) : Int)))) (fun k => ?_) (clH.bind hev ?_)
    · simp only [spec_l3Close.l3, c1, c2, c3, c4, if_true, er, er2, e2]
    · by_cases c : isK u 115 = true ∧ (nOf u : Int) = K[j]
      · have eo : opS u K[j] = (inn u, true) := by unfold opS; rw [if_pos c]; rfl
        rw [eo]
        simp only [if_true]
        refine clH.bind hin ?_
        by_cases hm : inn u ∈ X
        · rw [inB_t hm]
          simp only [if_true]
          refine ih (j + 1) X (by omega) hg hu (fun X' h1 h2 h3 h4 => hn X' h1 h2 (fun e => ⟨(h3 e).1, fun q hq hc hq2 => hm⟩) h4)
        · rw [inB_f hm]
          have c5 : X.length < 8796093022208 := by omega
          simp only [Bool.false_eq_true, if_false, c5, if_true]
          have hy : inn u ∈ S := hr.opens u (hg.sx u hux) c.1 (by rw [c.2]; exact hg.sk _ (List.getElem_mem hjk))
          refine ih (j + 1) (X ++ [inn u]) (by omega) (hg.add hy hm) (by rw [List.getElem?_append_left hi]; exact hu) (fun X' h1 h2 h3 h4 => ?_)
          rw [List.length_append, List.length_singleton] at h2
          exact hn X' h1 (by omega) (fun e => by omega) h4
      · have eo : opS u K[j] = (⟨#[]⟩, false) := by unfold opS; rw [if_neg c]
        rw [eo]
        simp only [Bool.false_eq_true, if_false]
        refine ih (j + 1) X (by omega) hg hu (fun X' h1 h2 h3 h4 => hn X' h1 h2 (fun e => ⟨(h3 e).1, fun q hq hc hq2 => ?_⟩) h4)
        rw [hdrop] at hq
        rcases List.mem_cons.1 hq with h | h
        · exact absurd ⟨hc, hq2.trans h⟩ c
        · exact (h3 e).2 q h hc hq2
theorem close_l2 (hr : ruleS (fun u => u ∈ S) (fun n => n ∈ R)) (hok : ∀ u ∈ S, okS u = true) (hS : S.length ≤ 1000000) (hR : R.length ≤ 1000040) (n m : Int) (i : Nat) (u : ByteArray) (K : List Int) (ps : List ByteArray) (hps : ∀ p ∈ ps, p ∈ S) (hpl : ps.length ≤ 12) : ∀ (d j : Nat) (X : List ByteArray), j + d = ps.length → gS S R ts ks X K → X[i]? = some u →
    (∀ X', gS S R ts ks X' K → X.length ≤ X'.length → (X'.length = X.length → X' = X ∧ (∀ q ∈ ps.drop j, q ∈ X)) → X'[i]? = some u → clH S R ts ks (fun k => spec_l3Close.l3 k X' K n m (i : Int) 0)) →
    clH S R ts ks (fun k => spec_l3Close.l2 k X K n m (i : Int) ps (j : Int)) := by
  intro d
  induction d with
  | zero =>
    intro j X hj hg hu hn
    refine clH.step (f := fun k => spec_l3Close.l3 k X K n m (i : Int) 0) (fun k => ?_) (hn X hg (Nat.le_refl _) (fun _ => ⟨rfl, fun q hq => ?_⟩) hu)
    · simp only [spec_l3Close.l2]
      rw [if_neg (by omega)]
    · rw [List.drop_eq_nil_of_le (by omega)] at hq; cases hq
  | succ d ih =>
    intro j X hj hg hu hn
    have hl := hg.lens
    obtain ⟨hi, hiu⟩ := List.getElem?_eq_some_iff.1 hu
    have hjk : j < ps.length := by omega
    have c1 : (j : Int) < (ps.length : Int) := by omega
    have c4 : 0 ≤ (j : Int) := by omega
    have e2 : wrap64 ((j : Int) + 1) = ((j + 1 : Nat) : Int) := w64 (by omega) (by omega)
    have hin := spec_l3In_ev X (ps[j]) (by omega)
    have hdrop : ps.drop j = ps[j] :: ps.drop (j + 1) := List.drop_eq_getElem_cons hjk
    have er : rdOf ByteArray.empty ps (j : Int) = ps[j] := rdOf_get ps j hjk
    refine clH.step (f := fun k => (spec_l3In.f k X ps[j]).bind fun t199 => (if t199 = true then (spec_l3Close.l2 k X K n m (i : Int) ps ((j + 1 : Nat) : Int)) else (if X.length < 8796093022208 then (spec_l3Close.l2 k (X ++ [ps[j]]) K n m (i : Int) ps ((j + 1 : Nat) : Int)) else (none)))) (fun k => ?_) (clH.bind hin ?_)
    · simp only [spec_l3Close.l2, c1, c4, if_true, er, e2]
    · by_cases hm : ps[j] ∈ X
      · rw [inB_t hm]
        simp only [if_true]
        refine ih (j + 1) X (by omega) hg hu (fun X' h1 h2 h3 h4 => hn X' h1 h2 (fun e => ⟨(h3 e).1, fun q hq => ?_⟩) h4)
        rw [hdrop] at hq
        rcases List.mem_cons.1 hq with h | h
        · exact h ▸ hm
        · exact (h3 e).2 q h
      · rw [inB_f hm]
        have c5 : X.length < 8796093022208 := by omega
        simp only [Bool.false_eq_true, if_false, c5, if_true]
        refine ih (j + 1) (X ++ [ps[j]]) (by omega) (hg.add (hps _ (List.getElem_mem hjk)) hm) (by rw [List.getElem?_append_left hi]; exact hu) (fun X' h1 h2 h3 h4 => ?_)
        rw [List.length_append, List.length_singleton] at h2
        exact hn X' h1 (by omega) (fun e => by omega) h4
theorem close_pass (hr : ruleS (fun u => u ∈ S) (fun n => n ∈ R)) (hok : ∀ u ∈ S, okS u = true) (hS : S.length ≤ 1000000) (hR : R.length ≤ 1000040) (X0 : List ByteArray) (K0 : List Int)
    (again : ∀ X K, gS S R ts ks X K → X0.length + K0.length < X.length + K.length → clH S R ts ks (fun k => spec_l3Close.l0 k X K)) :
    ∀ (d i : Nat) (X : List ByteArray) (K : List Int), i + d = S.length + 1 → i ≤ X.length → gS S R ts ks X K → X0.length ≤ X.length → K0.length ≤ K.length →
      (X.length = X0.length → K.length = K0.length → ∀ u ∈ X.take i, atS X K u) → clH S R ts ks (fun k => spec_l3Close.l1 k X K (X0.length : Int) (K0.length : Int) (i : Int)) := by
  intro d
  induction d with
  | zero =>
    intro i X K hd hi hg _ _ _
    have := hg.lens
    omega
  | succ d ih =>
    intro i X K hd hi hg hX hK hdone
    have hl := hg.lens
    by_cases c : i < X.length
    · obtain ⟨u, hu⟩ : ∃ u, X[i]? = some u := ⟨X[i], List.getElem?_eq_getElem c⟩
      obtain ⟨_, hiu⟩ := List.getElem?_eq_some_iff.1 hu
      have hux : u ∈ X := List.mem_of_getElem? hu
      have huS := hg.sx u hux
      have huo := hok u huS
      have hus := okS_size huo
      have c1 : (i : Int) < (X.length : Int) := by omega
      have c2 : 0 ≤ (i : Int) := by omega
      have er : rdOf ByteArray.empty X (i : Int) = u := by rw [rdOf_get X i c]; exact hiu
      have hpp : ∀ p ∈ (partsS u).1, p ∈ S := hr.part u huS
      -- behind the keys
      have rest : ∀ (K1 : List Int), gS S R ts ks X K1 → K.length ≤ K1.length → (K1.length = K.length → K1 = K ∧ (isK u 107 = true → (nOf u : Int) ∈ K)) → clH S R ts ks (fun k => spec_l3Close.j2 k X K1 (X0.length : Int) (K0.length : Int) (i : Int)) := by
        intro K1 hg1 hK1 hsame
        refine clH.step (f := fun k => (spec_Parts.f k u).bind fun bt194 => (spec_l3Close.l2 k X K1 (X0.length : Int) (K0.length : Int) (i : Int) bt194.1 0)) (fun k => by simp only [spec_l3Close.j2, c1, c2, if_true, er]) (clH.bind (spec_Parts_ev u (by omega)) ?_)
        refine close_l2 hr hok hS hR _ _ i u K1 (partsS u).1 hpp (partsS_len u) (partsS u).1.length 0 X (by omega) hg1 hu (fun X1 h1 h2 h3 h4 => ?_)
        refine close_l3 hr hok hS hR _ _ i u K1 K1.length 0 X1 (by omega) h1 h4 (fun X2 g1 g2 g3 g4 => ?_)
        refine ih (i + 1) X2 K1 (by omega) (by omega) g1 (by omega) (by omega) (fun e1 e2 w hw => ?_)
        have k1 := hsame (by omega)
        have k2 := h3 (by omega)
        have k3 := g3 (by omega)
        have ex : X2 = X := k3.1.trans k2.1
        have ek : K1 = K := k1.1
        subst ek
        have ex1 : X1 = X := k2.1
        subst ex1
        rw [ex] at hw ⊢
        rw [List.take_add_one, hu] at hw
        rcases List.mem_append.1 hw with hw | hw
        · exact hdone (by omega) (by omega) w hw
        · have hw2 : w = u := by simpa using hw
          subst hw2
          exact ⟨k1.2, fun p hp => k2.2 p (by simpa using hp), fun hc hn => k3.2 _ (by simpa using hn) hc rfl⟩
      refine clH.step (f := fun k => (spec_ReadKey.f k u).bind fun bt188 => (if bt188.2 = true then ((spec_l3Put.f k K bt188.1).bind fun t190 => (spec_l3Close.j2 k X t190 (X0.length : Int) (K0.length : Int) (i : Int))) else (spec_l3Close.j2 k X K (X0.length : Int) (K0.length : Int) (i : Int)))) (fun k => by simp only [spec_l3Close.l1, c1, c2, if_true, er]) (clH.bind (spec_ReadKey_ev u (by omega)) ?_)
      by_cases ck : isK u 107 = true
      · have e1 : rkS u = ((nOf u : Int), true) := by unfold rkS; rw [if_pos ck]
        rw [e1]
        simp only [if_true]
        refine clH.bind (spec_l3Put_ev K (nOf u : Int) (by omega)) ?_
        by_cases hm : (nOf u : Int) ∈ K
        · rw [if_pos (inI_t hm)]
          exact rest K hg (Nat.le_refl _) (fun _ => ⟨rfl, fun _ => hm⟩)
        · rw [if_neg (by rw [inI_f hm]; decide)]
          have hpl := putL_len K (nOf u : Int)
          exact rest _ (hg.put (hr.key u huS ck) hm) (by omega) (fun e => by omega)
      · have e1 : rkS u = (0, false) := by unfold rkS; rw [if_neg ck]
        rw [e1]
        simp only [Bool.false_eq_true, if_false]
        exact rest K hg (Nat.le_refl _) (fun _ => ⟨rfl, fun h => absurd h ck⟩)
    · have ei : i = X.length := by omega
      by_cases c1 : X.length = X0.length
      · by_cases c2 : K.length = K0.length
        · refine ⟨(X, K), Ev.step (f := fun _ => some (X, K)) (fun k => ?_) (Ev.now _), hg, fun u hu => hdone c1 c2 u (by rw [ei, List.take_length]; exact hu)⟩
          simp only [spec_l3Close.l1]
          rw [if_neg (by omega), if_pos (by omega), if_pos (by omega)]
        · refine clH.step (f := fun k => spec_l3Close.l0 k X K) (fun k => ?_) (again X K hg (by omega))
          simp only [spec_l3Close.l1]
          rw [if_neg (by omega), if_pos (by omega), if_neg (by omega)]
      · refine clH.step (f := fun k => spec_l3Close.l0 k X K) (fun k => ?_) (again X K hg (by omega))
        simp only [spec_l3Close.l1]
        rw [if_neg (by omega), if_neg (by omega)]
theorem close_all (hr : ruleS (fun u => u ∈ S) (fun n => n ∈ R)) (hok : ∀ u ∈ S, okS u = true) (hS : S.length ≤ 1000000) (hR : R.length ≤ 1000040) : ∀ (d : Nat) (X : List ByteArray) (K : List Int), S.length + R.length ≤ X.length + K.length + d → gS S R ts ks X K → clH S R ts ks (fun k => spec_l3Close.l0 k X K) := by
  intro d
  induction d with
  | zero =>
    intro X K hd hg
    have hl := hg.lens
    refine clH.step (f := fun k => spec_l3Close.l1 k X K (X.length : Int) (K.length : Int) ((0 : Nat) : Int)) (fun k => by simp only [spec_l3Close.l0]; rfl) ?_
    refine close_pass hr hok hS hR X K (fun X' K' hg' hlt => ?_) (S.length + 1) 0 X K (by omega) (by omega) hg (Nat.le_refl _) (Nat.le_refl _) (fun _ _ u hu => by simp at hu)
    have := hg'.lens
    omega
  | succ d ih =>
    intro X K hd hg
    refine clH.step (f := fun k => spec_l3Close.l1 k X K (X.length : Int) (K.length : Int) ((0 : Nat) : Int)) (fun k => by simp only [spec_l3Close.l0]; rfl) ?_
    exact close_pass hr hok hS hR X K (fun X' K' hg' hlt => ih X' K' (by omega) hg') (S.length + 1) 0 X K (by omega) (by omega) hg (Nat.le_refl _) (Nat.le_refl _) (fun _ _ u hu => by simp at hu)
end

/-- What is known, where it is right: both searches end, and tell the same. -/
theorem both_all (ts : List ByteArray) (ks : List Int) (h : knownP ts ks) :
    ∃ (s : SSt) (X : List ByteArray) (K : List Int), Ev (fun k => impl_sightOf.f k ts ks) s ∧ Ev (fun k => spec_l3Close.f k ts ks) (X, K) ∧ (∀ u, u ∈ X ↔ u ∈ s.1) ∧ (∀ n, n ∈ K ↔ n ∈ s.2.1) ∧ K.Pairwise (· < ·) ∧ ruleS (fun u => u ∈ s.1) (fun n => n ∈ s.2.1) ∧
      (∀ u ∈ ts, u ∈ s.1) ∧ (∀ n ∈ ks, n ∈ s.2.1) ∧ (∀ PS PR, ruleS PS PR → (∀ u ∈ ts, PS u) → (∀ n ∈ ks, PR n) → (∀ u ∈ s.1, PS u) ∧ (∀ n ∈ s.2.1, PR n)) ∧ s.1.length ≤ 1000000 ∧ s.2.1.length ≤ 1000040 ∧ X.length ≤ 1000000 ∧ K.length ≤ 1000040 := by
  obtain ⟨⟨h1, h2⟩, h3, h4⟩ := h
  have hts : ∀ t ∈ ts, okS t = true := by
    intro t ht
    obtain ⟨i, hi, rfl⟩ := List.mem_iff_getElem.1 ht
    have := (h3 i hi).1
    rw [rdOf_get ts i hi] at this
    exact this
  have hnd : ts.Nodup := by
    refine List.pairwise_iff_getElem.2 (fun i j hi hj hij he => ?_)
    have := (h3 j hj).2
    rw [rdOf_get ts j hj] at this
    refine this (List.mem_iff_getElem.2 ⟨i, by rw [List.length_take]; omega, ?_⟩)
    rw [List.getElem_take]
    exact he
  have hks : ∀ n ∈ ks, 1 ≤ n ∧ n ≤ 1000000 := by
    intro n hn
    obtain ⟨i, hi, rfl⟩ := List.mem_iff_getElem.1 hn
    have := (h4 i hi).1
    unfold knR at this
    rw [rd_get ks i hi] at this
    exact this
  have hrs : ks.Pairwise (· < ·) := rise_of (fun i hi h0 => (h4 i hi).2 h0)
  obtain ⟨s, e1, a1, a2, a3, a4, a5, a6⟩ := sight_all ts ks hts h1 hks h2
  have hok : ∀ u ∈ s.1, okS u = true := (a6 _ _ rule_ok hts hks).1
  have hg : gS s.1 s.2.1 ts ks ts ks := ⟨hnd, hrs, a1, a2, fun _ h => h, fun _ h => h⟩
  obtain ⟨⟨X, K⟩, e2, g, hc⟩ := close_all a3 hok a4 a5 (s.1.length + s.2.1.length) ts ks (by omega) hg
  simp only at g hc
  have hrl : ruleS (fun u => u ∈ X) (fun n => n ∈ K) := ⟨fun u hu c => (hc u hu).1 c, fun u hu => (hc u hu).2.1, fun u hu c hn => (hc u hu).2.2 c hn⟩
  have hin := a6 _ _ hrl g.tx g.tk
  have hl := g.lens
  refine ⟨s, X, K, e1, ?_, fun u => ⟨g.sx u, hin.1 u⟩, fun n => ⟨g.sk n, hin.2 n⟩, g.rs, a3, a1, a2, a6, a4, a5, by omega, by omega⟩
  unfold spec_l3Close.f
  have c1 : ([] : List ByteArray).length + ts.length < 8796093022208 := by simp only [List.length_nil]; omega
  have c2 : ([] : List Int).length + ks.length < 17592186044416 := by simp only [List.length_nil]; omega
  simp only [Option.bind_some, c1, c2, if_true, List.nil_append]
  exact e2
theorem known_p {ts : List ByteArray} {ks : List Int} (h : knownB ts ks = true) : knownP ts ks := by
  by_cases hp : knownP ts ks
  · exact hp
  · rw [knownB_f hp] at h; cases h

theorem q_mem (R : List Int) (x : Int) : x ∈ dedupI R ↔ x ∈ R := by
  induction R with
  | nil => simp [dedupI]
  | cons n R ih =>
    simp only [dedupI]
    by_cases h : memI n R = true
    · rw [if_pos h, ih, List.mem_cons]
      exact ⟨.inr, fun hx => hx.elim (fun e => e ▸ memI_mem.1 h) id⟩
    · rw [if_neg h, List.mem_cons, List.mem_cons, ih]
theorem q_nodup (R : List Int) : (dedupI R).Nodup := by
  induction R with
  | nil => exact List.nodup_nil
  | cons n R ih =>
    simp only [dedupI]
    by_cases h : memI n R = true
    · rw [if_pos h]; exact ih
    · rw [if_neg h, List.nodup_cons, q_mem]
      exact ⟨fun hm => h (memI_mem.2 hm), ih⟩
theorem q_sort {l K : List Int} (h1 : l.Nodup) (h : ∀ x, x ∈ l ↔ x ∈ K) (hK : K.Pairwise (· < ·)) (hl : K.length ≤ 1000040) : slices_Sort.f l = some K := by
  have hKn : K.Nodup := hK.imp (fun h => by omega)
  have hp : l.Perm K := (List.perm_ext_iff_of_nodup h1 hKn).2 h
  have tr : ∀ a b c : Int, decide (a ≤ b) = true → decide (b ≤ c) = true → decide (a ≤ c) = true := fun a b c h1 h2 => by simp only [decide_eq_true_eq] at *; omega
  have tot2 : ∀ a b : Int, (decide (a ≤ b) || decide (b ≤ a)) = true := fun a b => by simp only [Bool.or_eq_true, decide_eq_true_eq]; omega
  have e : l.mergeSort (fun x y => decide (x ≤ y)) = K := by
    refine List.Perm.eq_of_pairwise (le := fun a b => decide (a ≤ b) = true) (fun a b _ _ h1 h2 => ?_) (List.pairwise_mergeSort tr tot2 l) (hK.imp (fun h => by simp only [decide_eq_true_eq]; omega)) ((List.mergeSort_perm l _).trans hp)
    simp only [decide_eq_true_eq] at h1 h2
    omega
  unfold slices_Sort.f
  rw [if_pos (by rw [hp.length_eq]; omega), e]

theorem okS_kind {t : ByteArray} (h : okS t = true) : isK t 97 = true ∨ isK t 107 = true ∨ isK t 108 = true ∨ isK t 115 = true := by
  obtain ⟨c, r, n, k, hl, _, _, hh⟩ := termB_cases h
  have hk : isK t c = true := by
    unfold isK
    rw [h, Bool.true_and, decide_eq_true_iff, hl]
    rfl
  rcases hh with hh | hh | hh | hh
  · have : c = 97 := hh.1
    subst this; exact .inl hk
  · have : c = 107 := hh.1
    subst this; exact .inr (.inl hk)
  · have : c = 108 := hh.1
    subst this; exact .inr (.inr (.inl hk))
  · have : c = 115 := hh.1
    subst this; exact .inr (.inr (.inr hk))
/-- What can be put together out of what is seen and reached. -/
noncomputable def bldN (S : List ByteArray) (R : List Int) : Nat → ByteArray → Bool
  | 0, _ => false
  | n + 1, t => if memB t S = true then true else if isK t 97 = true then true else if isK t 107 = true then memI (nOf t : Int) R else if isK t 108 = true then (partsS t).1.all (fun p => bldN S R n p) else if memI (nOf t : Int) R = true then bldN S R n (inn t) else false
theorem all_ev {F : Nat → ByteArray → Option Bool} {g : ByteArray → Bool} : ∀ (ps : List ByteArray), (∀ p ∈ ps, Ev (fun k => F k p) (g p)) → Ev (fun k => allS (F k) ps) (ps.all g) := by
  intro ps
  induction ps with
  | nil => intro _; exact Ev.now true
  | cons p ps ih =>
    intro h
    refine Ev.bind (h p (List.mem_cons_self ..)) ?_
    rw [List.all_cons]
    cases g p with
    | true =>
      simp only [if_true, Bool.true_and]
      exact ih (fun q hq => h q (List.mem_cons_of_mem _ hq))
    | false =>
      simp only [Bool.false_eq_true, if_false, Bool.false_and]
      exact Ev.now _
theorem builds_ev (S : List ByteArray) (R : List Int) (n : Nat) : ∀ t, okS t = true → t.size ≤ n → Ev (fun k => impl_builds.f S R k t) (bldN S R n t) := by
  induction n with
  | zero =>
    intro t ht hn
    have := (okS_size ht).1
    omega
  | succ n ih =>
    intro t ht hn
    obtain ⟨h1, h2⟩ := okS_size ht
    have g1 : (t.size : Int) ≤ 1048576 := by omega
    have g5 : 0 < (t.size : Int) := by omega
    rw [bldN]
    by_cases c1 : memB t S = true
    · rw [if_pos c1]
      refine Ev.step (f := fun _ => some true) (fun k => ?_) (Ev.now _)
      simp only [impl_builds.f, g1, c1, if_true]
    · rw [if_neg c1]
      have k97 := isK_bt ht 97
      have k107 := isK_bt ht 107
      have k108 := isK_bt ht 108
      by_cases c0 : isK t 97 = true
      · rw [if_pos c0]
        have e0 : bt t 0 = 97 := k97.1 c0
        refine Ev.step (f := fun _ => some true) (fun k => ?_) (Ev.now _)
        simp only [impl_builds.f, g1, c1, g5, if_true]
        rw [if_neg (by decide), if_pos e0]
      · rw [if_neg c0]
        have e0 : ¬ bt t 0 = 97 := fun e => c0 (k97.2 e)
        by_cases c2 : isK t 107 = true
        · rw [if_pos c2]
          have e2 : bt t 0 = 107 := k107.1 c2
          refine Ev.step (f := fun k => (impl_ReadKey.f k t).bind fun x => (if (Lit.int .i64 x.1).wf = true then some (memI x.1 R) else none)) (fun k => ?_) (Ev.bind (impl_ReadKey_ev t (by omega)) ?_)
          · simp only [impl_builds.f, g1, c1, g5, if_true]
            rw [if_neg (by decide), if_neg e0, if_pos e2]
          · unfold rkS
            rw [if_pos c2]
            simp only
            rw [wf64 ((okS_rv ht).2.2.2)]
            exact Ev.now _
        · rw [if_neg c2]
          have e2 : ¬ bt t 0 = 107 := fun e => c2 (k107.2 e)
          by_cases c3 : isK t 108 = true
          · rw [if_pos c3]
            have e3 : bt t 0 = 108 := k108.1 c3
            obtain ⟨hp, h4, h5⟩ := parts_all c3
            refine Ev.step (f := fun k => (impl_Parts.f k t).bind fun x => (if x.1.length < 1000000000 then allS (impl_builds.f S R k) x.1 else none)) (fun k => ?_) (Ev.bind (impl_Parts_ev t (by omega)) ?_)
            · simp only [impl_builds.f, g1, c1, g5, if_true]
              rw [if_neg (by decide), if_neg e0, if_neg e2, if_pos e3]
            · have hpl : (partsS t).1.length < 1000000000 := by have := partsS_len t; omega
              simp only [hpl, if_true]
              exact all_ev (F := fun k p => impl_builds.f S R k p) _ (fun p hp2 => ih p (h5 p hp2) (by have := mem_tot hp2; omega))
          · rw [if_neg c3]
            have e3 : ¬ bt t 0 = 108 := fun e => c3 (k108.2 e)
            have c4 : isK t 115 = true := by
              rcases okS_kind ht with h | h | h | h
              · exact absurd h c0
              · exact absurd h c2
              · exact absurd h c3
              · exact h
            obtain ⟨i1, i2, i3, i4⟩ := inn_all c4
            have hsd : sdS t = ((nOf t : Int), inn t, true) := by unfold sdS; rw [if_pos c4]; rfl
            have hwf : (Lit.int .i64 (nOf t : Int)).wf = true := wf64 (by omega)
            refine Ev.step (f := fun k => (impl_sealed.f k t).bind fun x => (if (Lit.int .i64 x.1).wf = true then (if memI x.1 R = true then impl_builds.f S R k x.2.1 else some false) else none)) (fun k => ?_) (Ev.bind (impl_sealed_ev t (by omega)) ?_)
            · simp only [impl_builds.f, g1, c1, g5, if_true]
              rw [if_neg (by decide), if_neg e0, if_neg e2, if_neg e3]
            · rw [hsd]
              simp only [hwf, if_true]
              by_cases c : memI (nOf t : Int) R = true
              · simp only [c, if_true]
                exact ih (inn t) i1 (by omega)
              · simp only [c, if_false, Bool.false_eq_true]
                exact Ev.now _

theorem l3build_ev (S : List ByteArray) (R : List Int) (X : List ByteArray) (K : List Int) (hX : ∀ u, u ∈ X ↔ u ∈ S) (hK : ∀ m, m ∈ K ↔ m ∈ R) (hXl : X.length ≤ 1000000) (hKl : K.length ≤ 1000040) (n : Nat) : ∀ t, okS t = true → t.size ≤ n → Ev (fun k => spec_l3Build.f k X K t) (bldN S R n t) := by
  induction n with
  | zero =>
    intro t ht hn
    have := (okS_size ht).1
    omega
  | succ n ih =>
    intro t ht hn
    obtain ⟨h1, h2⟩ := okS_size ht
    have g5 : 0 < (t.size : Int) := by omega
    have hin := spec_l3In_ev X t (by omega)
    have hS : inB t X = memB t S := (inB_iff (by rw [memB_mem, hX t])).symm
    have hhas : Ev (fun k => spec_l3Has.f k K (nOf t : Int)) (memI (nOf t : Int) R) := by
      have := spec_l3Has_ev K (nOf t : Int) (by omega)
      have e : inI (nOf t : Int) K = memI (nOf t : Int) R := by
        by_cases hm : (nOf t : Int) ∈ K
        · rw [inI_t hm, memI_mem.2 ((hK _).1 hm)]
        · rw [inI_f hm]
          cases hb : memI (nOf t : Int) R with
          | false => rfl
          | true => exact absurd ((hK _).2 (memI_mem.1 hb)) hm
      rw [e] at this
      exact this
    rw [hS] at hin
    have yes : Ev (fun k => spec_l3Build.j0 k X K t true) true := Ev.step (f := fun _ => some true) (fun k => by simp only [spec_l3Build.j0, if_true]) (Ev.now _)
    rw [bldN]
    by_cases c1 : memB t S = true
    · rw [if_pos c1]
      rw [c1] at hin
      refine Ev.step (f := fun k => (spec_l3In.f k X t).bind fun t265 => (if t265 = true then (spec_l3Build.j0 k X K t true) else (if 0 < (t.size : Int) then (spec_l3Build.j0 k X K t ((bt t 0) == 97)) else (none)))) (fun k => by simp only [spec_l3Build.f]) (Ev.bind hin ?_)
      simp only [if_true]
      exact yes
    · rw [if_neg c1]
      have hf : memB t S = false := by simpa using c1
      rw [hf] at hin
      refine Ev.step (f := fun k => (spec_l3In.f k X t).bind fun t265 => (if t265 = true then (spec_l3Build.j0 k X K t true) else (if 0 < (t.size : Int) then (spec_l3Build.j0 k X K t ((bt t 0) == 97)) else (none)))) (fun k => by simp only [spec_l3Build.f]) (Ev.bind hin ?_)
      simp only [Bool.false_eq_true, if_false, g5, if_true]
      have k97 := isK_bt ht 97
      by_cases c0 : isK t 97 = true
      · rw [if_pos c0]
        have e0 : bt t 0 = 97 := k97.1 c0
        rw [e0]
        exact yes
      · rw [if_neg c0]
        have e0 : ((bt t 0) == 97) = false := by
          have : ¬ bt t 0 = 97 := fun e => c0 (k97.2 e)
          simpa using this
        rw [e0]
        refine Ev.step (f := fun k => (spec_ReadKey.f k t).bind fun bt266 => (if bt266.2 = true then ((spec_l3Has.f k K bt266.1).bind fun t268 => (some t268)) else ((spec_Parts.f k t).bind fun bt269 => (if bt269.2 = true then (spec_l3Build.l0 k X K bt269.1 0) else (if 1 ≤ (t.size : Int) then ((spec_ReadVar.f k (t.extract 1 t.size)).bind fun bt275 => ((spec_l3Has.f k K bt275.1).bind fun t277 => (if t277 = true then (if 0 ≤ (wrap64 (1 + bt275.2)) then (if (wrap64 (1 + bt275.2)) ≤ (t.size : Int) then ((spec_l3Build.f k X K (t.extract ((wrap64 (1 + bt275.2)) : Int).toNat t.size)).bind fun t278 => (some t278)) else (none)) else (none)) else (some false)))) else (none)))))) (fun k => by simp only [spec_l3Build.j0, Bool.false_eq_true, if_false]) (Ev.bind (spec_ReadKey_ev t (by omega)) ?_)
        by_cases c2 : isK t 107 = true
        · rw [if_pos c2]
          have e1 : rkS t = ((nOf t : Int), true) := by unfold rkS; rw [if_pos c2]
          rw [e1]
          simp only [if_true]
          exact Ev.bind hhas (Ev.now _)
        · rw [if_neg c2]
          have e1 : rkS t = (0, false) := by unfold rkS; rw [if_neg c2]
          rw [e1]
          simp only [Bool.false_eq_true, if_false]
          refine Ev.bind (spec_Parts_ev t (by omega)) ?_
          by_cases c3 : isK t 108 = true
          · rw [if_pos c3]
            obtain ⟨hp, h4, h5⟩ := parts_all c3
            rw [hp]
            simp only [if_true]
            have hpl := partsS_len t
            have hpp : ∀ p ∈ (partsS t).1, Ev (fun k => spec_l3Build.f k X K p) (bldN S R n p) := fun p hp2 => ih p (h5 p hp2) (by have := mem_tot hp2; omega)
            generalize (partsS t).1 = ps at hpl hpp
            have loop : ∀ (d j : Nat), j + d = ps.length → Ev (fun k => spec_l3Build.l0 k X K ps (j : Int)) ((ps.drop j).all (fun p => bldN S R n p)) := by
              intro d
              induction d with
              | zero =>
                intro j hj
                rw [List.drop_eq_nil_of_le (by omega)]
                refine Ev.step (f := fun _ => some true) (fun k => ?_) (Ev.now _)
                simp only [spec_l3Build.l0]
                rw [if_neg (by omega)]
              | succ d ih2 =>
                intro j hj
                have hjk : j < ps.length := by omega
                have a1 : (j : Int) < (ps.length : Int) := by omega
                have a2 : 0 ≤ (j : Int) := by omega
                have e2 : wrap64 ((j : Int) + 1) = ((j + 1 : Nat) : Int) := w64 (by omega) (by omega)
                have er : rdOf ByteArray.empty ps (j : Int) = ps[j] := rdOf_get ps j hjk
                rw [List.drop_eq_getElem_cons hjk, List.all_cons]
                refine Ev.step (f := fun k => (spec_l3Build.f k X K ps[j]).bind fun t274 => (if t274 = true then (spec_l3Build.l0 k X K ps ((j + 1 : Nat) : Int)) else (some false))) (fun k => by simp only [spec_l3Build.l0, a1, a2, if_true, er, e2]) (Ev.bind (hpp _ (List.getElem_mem hjk)) ?_)
                cases bldN S R n ps[j] with
                | true =>
                  simp only [if_true, Bool.true_and]
                  exact ih2 (j + 1) (by omega)
                | false =>
                  simp only [Bool.false_eq_true, if_false, Bool.false_and]
                  exact Ev.now _
            exact loop ps.length 0 (by omega)
          · rw [if_neg c3]
            have ep : partsS t = ([], false) := by unfold partsS; rw [if_neg c3]
            rw [ep]
            have c4 : isK t 115 = true := by
              rcases okS_kind ht with h | h | h | h
              · exact absurd h c0
              · exact absurd h c2
              · exact absurd h c3
              · exact h
            obtain ⟨i1, i2, i3, i4⟩ := inn_all c4
            have g6 : 1 ≤ (t.size : Int) := by omega
            simp only [Bool.false_eq_true, if_false, g6, if_true]
            have hrv := spec_ReadVar_ev (t.extract 1 t.size) (by rw [ByteArray.size_extract]; omega)
            rw [bl_from, okS_rvI ht] at hrv
            have hk := (okS_rv ht).2
            have ew : wrap64 (1 + (kOf t : Int)) = ((1 + kOf t : Nat) : Int) := w64 (by omega) (by omega)
            have b1 : 0 ≤ ((1 + kOf t : Nat) : Int) := by omega
            have b2 : ((1 + kOf t : Nat) : Int) ≤ (t.size : Int) := by omega
            refine Ev.bind hrv (Ev.bind hhas ?_)
            by_cases c : memI (nOf t : Int) R = true
            · simp only [c, if_true, ew, b1, b2, Int.toNat_natCast]
              exact Ev.bind (ih (inn t) i1 (by omega)) (Ev.now _)
            · simp only [c, if_false, Bool.false_eq_true]
              exact Ev.now _
theorem build_ev (ts : List ByteArray) (ks : List Int) (t : ByteArray) (h1 : ts.length ≤ 1048576) (h2 : ∀ p ∈ ts, p.size ≤ 1048576) (h3 : ks.length ≤ 1048576) (ht : t.size ≤ 1048576) :
    ∃ b : Bool, Ev (fun k => impl_Build.f k ts ks t) b ∧ Ev (fun k => spec_Build.f k ts ks t) b := by
  have e1 := impl_KnownOk_ev ts ks h1 h2 h3
  have e2 := spec_KnownOk_ev ts ks h1 h2 h3
  have t1 := impl_TermOk_ev t (by omega)
  have t2 := spec_TermOk_ev t (by omega)
  have no : Ev (fun k => spec_Build.j0 k t true ts ks) false := Ev.step (f := fun _ => some false) (fun k => by simp only [spec_Build.j0, if_true]) (Ev.now _)
  unfold impl_Build.f spec_Build.f
  by_cases hk : knownB ts ks = true
  · obtain ⟨s, X, K, i1, i2, i3, i4, _, _, _, _, _, _, _, i5, i6⟩ := both_all ts ks (known_p hk)
    rw [hk] at e1 e2
    by_cases hb : okS t = true
    · have hb2 : termB (bl t) = true := hb
      rw [hb2] at t1 t2
      refine ⟨bldN s.1 s.2.1 900 t, Ev.bind e1 ?_, Ev.bind e2 ?_⟩
      · simp only [if_true]
        refine Ev.bind t1 ?_
        simp only [if_true]
        exact Ev.bind i1 (builds_ev s.1 s.2.1 900 t hb (okS_size hb).2)
      · simp only [if_true]
        refine Ev.bind t2 ?_
        refine Ev.step (f := fun k => (spec_l3Close.f k ts ks).bind fun bt282 => ((spec_l3Build.f k bt282.1 bt282.2 t).bind fun t288 => (some t288))) (fun k => by simp only [spec_Build.j0, Bool.not_true, Bool.false_eq_true, if_false]) (Ev.bind i2 ?_)
        exact Ev.bind (l3build_ev s.1 s.2.1 X K i3 i4 i5 i6 900 t hb (okS_size hb).2) (Ev.now _)
    · have hb2 : termB (bl t) = false := by
        have : ¬ termB (bl t) = true := hb
        simpa using this
      rw [hb2] at t1 t2
      refine ⟨false, Ev.bind e1 ?_, Ev.bind e2 ?_⟩
      · simp only [if_true]
        refine Ev.bind t1 ?_
        simp only [Bool.false_eq_true, if_false]
        exact Ev.now _
      · simp only [if_true]
        refine Ev.bind t2 ?_
        simp only [Bool.not_false]
        exact no
  · have hf : knownB ts ks = false := by simpa using hk
    rw [hf] at e1 e2
    refine ⟨false, Ev.bind e1 ?_, Ev.bind e2 ?_⟩
    · simp only [Bool.false_eq_true, if_false]; exact Ev.now _
    · simp only [Bool.false_eq_true, if_false]
      exact no

theorem bld_fuel (S : List ByteArray) (R : List Int) (n : Nat) : ∀ (m : Nat) (t : ByteArray), okS t = true → t.size ≤ n → t.size ≤ m → bldN S R n t = bldN S R m t := by
  induction n with
  | zero =>
    intro m t ht hn
    have := (okS_size ht).1
    omega
  | succ n ih =>
    intro m t ht hn hm
    have h1 := (okS_size ht).1
    cases m with
    | zero => omega
    | succ m =>
      rw [bldN, bldN]
      by_cases c1 : memB t S = true
      · rw [if_pos c1, if_pos c1]
      · rw [if_neg c1, if_neg c1]
        by_cases c0 : isK t 97 = true
        · rw [if_pos c0, if_pos c0]
        · rw [if_neg c0, if_neg c0]
          by_cases c2 : isK t 107 = true
          · rw [if_pos c2, if_pos c2]
          · rw [if_neg c2, if_neg c2]
            by_cases c3 : isK t 108 = true
            · rw [if_pos c3, if_pos c3]
              obtain ⟨_, h4, h5⟩ := parts_all c3
              have hp : ∀ p ∈ (partsS t).1, bldN S R n p = bldN S R m p := fun p hp => ih m p (h5 p hp) (by have := mem_tot hp; omega) (by have := mem_tot hp; omega)
              generalize (partsS t).1 = ps at hp
              induction ps with
              | nil => rfl
              | cons p ps ih2 => rw [List.all_cons, List.all_cons, hp p (List.mem_cons_self ..), ih2 (fun q hq => hp q (List.mem_cons_of_mem _ hq))]
            · rw [if_neg c3, if_neg c3]
              have c4 : isK t 115 = true := by
                rcases okS_kind ht with h | h | h | h
                · exact absurd h c0
                · exact absurd h c2
                · exact absurd h c3
                · exact h
              obtain ⟨i1, i2, _, _⟩ := inn_all c4
              rw [ih m (inn t) i1 (by omega) (by omega)]
/-- A sealed term: seen, or its key is reached and what it holds can be put together. -/
theorem bld_seal (S : List ByteArray) (R : List Int) {i : Int} {t : ByteArray} (h : sealS i t ≠ (⟨#[]⟩ : ByteArray)) : okS (sealS i t) = true ∧ okS t = true ∧ bldN S R 900 (sealS i t) = (memB (sealS i t) S || (memI i R && bldN S R 900 t)) := by
  obtain ⟨h1, h2, h3, h4, _⟩ := seal_read h
  have hk : isK (sealS i t) 115 = true ∧ (nOf (sealS i t) : Int) = i := by
    unfold opS at h1
    by_cases c : isK (sealS i t) 115 = true ∧ (nOf (sealS i t) : Int) = i
    · exact c
    · rw [if_neg c] at h1
      injection h1 with _ h1
      cases h1
  have hi : inn (sealS i t) = t := by
    unfold opS at h1
    rw [if_pos hk] at h1
    injection h1
  obtain ⟨i1, i2, _, _⟩ := inn_all hk.1
  rw [hi] at i2
  have hs := okS_size h2
  refine ⟨h2, h3, ?_⟩
  rw [bldN]
  by_cases c1 : memB (sealS i t) S = true
  · rw [if_pos c1, c1, Bool.true_or]
  · have hf : memB (sealS i t) S = false := by simpa using c1
    have n97 : ¬ isK (sealS i t) 97 = true := fun c => by have := isK_two hk.1 c; omega
    have n107 : ¬ isK (sealS i t) 107 = true := fun c => by have := isK_two hk.1 c; omega
    have n108 : ¬ isK (sealS i t) 108 = true := fun c => by have := isK_two hk.1 c; omega
    rw [if_neg c1, if_neg n97, if_neg n107, if_neg n108, hk.2, hi, hf, Bool.false_or, bld_fuel S R 899 900 t h3 (by omega) (by omega)]
    cases memI i R with
    | true => simp
    | false => simp
theorem all_congr {f g : ByteArray → Bool} : ∀ (ps : List ByteArray), (∀ p ∈ ps, f p = g p) → ps.all f = ps.all g := by
  intro ps
  induction ps with
  | nil => intro _; simp
  | cons p ps ih => intro h; rw [List.all_cons, List.all_cons, h p (List.mem_cons_self ..), ih (fun q hq => h q (List.mem_cons_of_mem _ hq))]
/-- A list: seen, or each of its parts can be put together. -/
theorem bld_list (S : List ByteArray) (R : List Int) {ps : List ByteArray} (h : listS ps ≠ (⟨#[]⟩ : ByteArray)) : okS (listS ps) = true ∧ (∀ p ∈ ps, okS p = true) ∧ bldN S R 900 (listS ps) = (memB (listS ps) S || ps.all (fun p => bldN S R 900 p)) := by
  obtain ⟨h1, h2, h3, h4⟩ := list_read h
  have hk : isK (listS ps) 108 = true := by
    by_cases c : isK (listS ps) 108 = true
    · exact c
    · unfold partsS at h1
      rw [if_neg c] at h1
      injection h1 with _ h1
      cases h1
  obtain ⟨_, q2, _⟩ := parts_all hk
  rw [h1] at q2
  simp only at q2
  have hs := okS_size h2
  refine ⟨h2, h4, ?_⟩
  rw [bldN]
  by_cases c1 : memB (listS ps) S = true
  · rw [if_pos c1, c1, Bool.true_or]
  · have hf : memB (listS ps) S = false := by simpa using c1
    have n97 : ¬ isK (listS ps) 97 = true := fun c => by have := isK_two hk c; omega
    have n107 : ¬ isK (listS ps) 107 = true := fun c => by have := isK_two hk c; omega
    rw [if_neg c1, if_neg n97, if_neg n107, if_pos hk, hf, Bool.false_or, h1]
    simp only
    exact all_congr ps (fun p hp => bld_fuel S R 899 900 p (h4 p hp) (by have := mem_tot hp; omega) (by have := mem_tot hp; omega))
theorem bld_atom (S : List ByteArray) (R : List Int) {t : ByteArray} (h : isK t 97 = true) : bldN S R 900 t = true := by
  rw [bldN]
  by_cases c1 : memB t S = true
  · rw [if_pos c1]
  · rw [if_neg c1, if_pos h]

theorem known_out {ts : List ByteArray} {ks : List Int} (h : knownB ts ks = true) : (ts.length ≤ 60 ∧ ks.length ≤ 40) ∧ (∀ t ∈ ts, okS t = true) ∧ ts.Nodup ∧ (∀ n ∈ ks, 1 ≤ n ∧ n ≤ 1000000) ∧ ks.Pairwise (· < ·) := by
  obtain ⟨h1, h3, h4⟩ := known_p h
  refine ⟨h1, ?_, ?_, ?_, rise_of (fun i hi h0 => (h4 i hi).2 h0)⟩
  · intro t ht
    obtain ⟨i, hi, rfl⟩ := List.mem_iff_getElem.1 ht
    have := (h3 i hi).1
    rw [rdOf_get ts i hi] at this
    exact this
  · refine List.pairwise_iff_getElem.2 (fun i j hi hj hij he => ?_)
    have := (h3 j hj).2
    rw [rdOf_get ts j hj] at this
    refine this (List.mem_iff_getElem.2 ⟨i, by rw [List.length_take]; omega, ?_⟩)
    rw [List.getElem_take]
    exact he
  · intro n hn
    obtain ⟨i, hi, rfl⟩ := List.mem_iff_getElem.1 hn
    have := (h4 i hi).1
    unfold knR at this
    rw [rd_get ks i hi] at this
    exact this
theorem known_in {ts : List ByteArray} {ks : List Int} (h1 : ts.length ≤ 60) (h2 : ks.length ≤ 40) (h3 : ∀ t ∈ ts, okS t = true) (h4 : ts.Nodup) (h5 : ∀ n ∈ ks, 1 ≤ n ∧ n ≤ 1000000) (h6 : ks.Pairwise (· < ·)) : knownB ts ks = true := by
  refine knownB_t ⟨⟨h1, h2⟩, fun i hi => ?_, fun i hi => ⟨?_, fun h0 => ?_⟩⟩
  · unfold knG
    rw [rdOf_get ts i hi]
    refine ⟨h3 _ (List.getElem_mem hi), fun hm => ?_⟩
    obtain ⟨j, hj, he⟩ := List.mem_iff_getElem.1 hm
    rw [List.length_take] at hj
    rw [List.getElem_take] at he
    exact List.pairwise_iff_getElem.1 h4 j i (by omega) hi (by omega) he
  · unfold knR
    rw [rd_get ks i hi]
    exact h5 _ (List.getElem_mem hi)
  · rw [rd_get ks i hi, rd_get ks (i - 1) (by omega)]
    exact List.pairwise_iff_getElem.1 h6 (i - 1) i (by omega) hi (by omega)
/-- What is learned: it is right, and one term comes to it at most. -/
theorem learn_shape {ts : List ByteArray} {ks : List Int} (h : knownB ts ks = true) (t : ByteArray) : knownB (learnS ts ks t).1 (learnS ts ks t).2 = true ∧ (learnS ts ks t).2 = ks ∧ (∀ u ∈ ts, u ∈ (learnS ts ks t).1) ∧ (∀ u ∈ (learnS ts ks t).1, u ∈ ts ∨ (u = t ∧ okS t = true)) := by
  unfold learnS
  rw [if_pos h]
  have same : knownB ((ts, ks) : List ByteArray × List Int).1 ((ts, ks) : List ByteArray × List Int).2 = true ∧ ((ts, ks) : List ByteArray × List Int).2 = ks ∧ (∀ u ∈ ts, u ∈ ((ts, ks) : List ByteArray × List Int).1) ∧ (∀ u ∈ ((ts, ks) : List ByteArray × List Int).1, u ∈ ts ∨ (u = t ∧ okS t = true)) := ⟨h, rfl, fun u hu => hu, fun u hu => .inl hu⟩
  by_cases h1 : termB (bl t) = true
  · rw [if_pos h1]
    by_cases h2 : inB t ts = true
    · rw [if_pos h2]; exact same
    · rw [if_neg h2]
      by_cases h3 : (ts.length : Int) < 60
      · rw [if_pos h3]
        have hn : ¬ t ∈ ts := fun hm => h2 (inB_t hm)
        obtain ⟨⟨g1, g2⟩, g3, g4, g5, g6⟩ := known_out h
        refine ⟨known_in (by simp; omega) g2 (fun u hu => ?_) ?_ g5 g6, rfl, fun u hu => List.mem_append_left _ hu, fun u hu => ?_⟩
        · rcases List.mem_append.1 hu with hu | hu
          · exact g3 u hu
          · rw [List.mem_singleton] at hu; subst hu; exact h1
        · refine List.nodup_append.2 ⟨g4, List.pairwise_singleton _ _, fun a ha c hc => ?_⟩
          rw [List.mem_singleton] at hc
          subst hc
          exact fun e => hn (e ▸ ha)
        · rcases List.mem_append.1 hu with hu | hu
          · exact .inl hu
          · rw [List.mem_singleton] at hu; exact .inr ⟨hu, h1⟩
      · rw [if_neg h3]; exact same
  · rw [if_neg h1]; exact same
theorem lkey_shape {ts : List ByteArray} {ks : List Int} (h : knownB ts ks = true) (x : Int) : knownB (lkeyS ts ks x).1 (lkeyS ts ks x).2 = true ∧ (lkeyS ts ks x).1 = ts ∧ (∀ n ∈ ks, n ∈ (lkeyS ts ks x).2) := by
  unfold lkeyS
  rw [if_pos h]
  have same : knownB ((ts, ks) : List ByteArray × List Int).1 ((ts, ks) : List ByteArray × List Int).2 = true ∧ ((ts, ks) : List ByteArray × List Int).1 = ts ∧ (∀ n ∈ ks, n ∈ ((ts, ks) : List ByteArray × List Int).2) := ⟨h, rfl, fun n hn => hn⟩
  by_cases h1 : 1 ≤ x ∧ x ≤ 1000000
  · rw [if_pos (decide_eq_true h1)]
    by_cases h2 : inI x ks = true
    · rw [if_pos h2]; exact same
    · rw [if_neg h2]
      by_cases h3 : (ks.length : Int) < 40
      · rw [if_pos h3]
        have hn : ¬ x ∈ ks := inI_out_f h2
        obtain ⟨⟨g1, g2⟩, g3, g4, g5, g6⟩ := known_out h
        refine ⟨known_in g1 (by rw [putL_len]; omega) g3 g4 (fun n hm => ?_) (putL_rise x g6 hn), rfl, fun n hm => (putL_mem ks x n).2 (.inr hm)⟩
        rcases (putL_mem ks x n).1 hm with e | hm
        · rw [e]; exact h1
        · exact g5 n hm
      · rw [if_neg h3]; exact same
  · rw [if_neg (fun e => h1 (of_decide_eq_true e))]; exact same
/-- What is known, where it is right: what is seen and reached, and what the program and the reference answer. -/
theorem reach_all {ts : List ByteArray} {ks : List Int} (hk : knownB ts ks = true) :
    ∃ (S : List ByteArray) (R K : List Int), Ev (fun k => impl_Reach.f k ts ks) K ∧ (∀ n, n ∈ K ↔ n ∈ R) ∧ K.Pairwise (· < ·) ∧ K.length ≤ 1000040 ∧ ruleS (fun u => u ∈ S) (fun n => n ∈ R) ∧ (∀ u ∈ ts, u ∈ S) ∧ (∀ n ∈ ks, n ∈ R) ∧
      (∀ PS PR, ruleS PS PR → (∀ u ∈ ts, PS u) → (∀ n ∈ ks, PR n) → (∀ u ∈ S, PS u) ∧ (∀ n ∈ R, PR n)) ∧
      (∀ t : ByteArray, t.size ≤ 1048576 → Ev (fun k => impl_Build.f k ts ks t) (okS t && bldN S R 900 t) ∧ Ev (fun k => spec_Build.f k ts ks t) (okS t && bldN S R 900 t) ∧ Ev (fun k => impl_Sees.f k ts ks t) (memB t S)) := by
  obtain ⟨⟨g1, g2⟩, g3, _, _, _⟩ := known_out hk
  have h2 : ∀ p ∈ ts, p.size ≤ 1048576 := fun p hp => by have := okS_size (g3 p hp); omega
  have e1 := impl_KnownOk_ev ts ks (by omega) h2 (by omega)
  have e2 := spec_KnownOk_ev ts ks (by omega) h2 (by omega)
  rw [hk] at e1 e2
  obtain ⟨s, X, K, i1, i2, i3, i4, i6, i7, i8, i9, i10, i11, i12, i13, i5⟩ := both_all ts ks (known_p hk)
  refine ⟨s.1, s.2.1, K, ?_, i4, i6, i5, i7, i8, i9, i10, fun t ht => ⟨?_, ?_, ?_⟩⟩
  · unfold impl_Reach.f
    refine Ev.bind e1 ?_
    simp only [if_true]
    refine Ev.bind i1 ?_
    have hl : s.2.1.length < 1000000000 := by omega
    simp only [hl, if_true]
    rw [q_sort (q_nodup s.2.1) (fun x => by rw [q_mem, i4 x]) i6 i5]
    exact Ev.now _
  · have t1 := impl_TermOk_ev t (by omega)
    unfold impl_Build.f
    refine Ev.bind e1 ?_
    simp only [if_true]
    refine Ev.bind t1 ?_
    by_cases ho : okS t = true
    · have hb2 : termB (bl t) = true := ho
      simp only [hb2, if_true]
      rw [ho, Bool.true_and]
      exact Ev.bind i1 (builds_ev s.1 s.2.1 900 t ho (okS_size ho).2)
    · have hf : okS t = false := by simpa using ho
      have hb2 : termB (bl t) = false := hf
      simp only [hb2, Bool.false_eq_true, if_false]
      rw [hf, Bool.false_and]
      exact Ev.now _
  · have t2 := spec_TermOk_ev t (by omega)
    unfold spec_Build.f
    refine Ev.bind e2 ?_
    simp only [if_true]
    refine Ev.bind t2 ?_
    by_cases ho : okS t = true
    · have hb2 : termB (bl t) = true := ho
      simp only [hb2]
      rw [ho, Bool.true_and]
      refine Ev.step (f := fun k => (spec_l3Close.f k ts ks).bind fun bt282 => ((spec_l3Build.f k bt282.1 bt282.2 t).bind fun t288 => (some t288))) (fun k => by simp only [spec_Build.j0, Bool.not_true, Bool.false_eq_true, if_false]) (Ev.bind i2 ?_)
      exact Ev.bind (l3build_ev s.1 s.2.1 X K i3 i4 i13 i5 900 t ho (okS_size ho).2) (Ev.now _)
    · have hf : okS t = false := by simpa using ho
      have hb2 : termB (bl t) = false := hf
      simp only [hb2]
      rw [hf, Bool.false_and]
      exact Ev.step (f := fun _ => some false) (fun k => by simp only [spec_Build.j0, Bool.not_false, if_true]) (Ev.now _)
  · have ht2 : (t.size : Int) ≤ 1048576 := by omega
    unfold impl_Sees.f
    refine Ev.bind e1 ?_
    simp only [if_true, ht2]
    exact Ev.bind i1 (Ev.now _)
/-- What can be put together is closed under the rules, and comes to no more keys. -/
theorem bld_rule {S : List ByteArray} {R : List Int} (hr : ruleS (fun u => u ∈ S) (fun n => n ∈ R)) : ruleS (fun u => okS u = true ∧ bldN S R 900 u = true) (fun n => n ∈ R) := by
  have seen : ∀ p, p ∈ S → bldN S R 900 p = true := fun p hp => by rw [bldN, if_pos (memB_mem.2 hp)]
  refine ⟨fun u hu c => ?_, fun u hu p hp => ?_, fun u hu c hn => ?_⟩
  · obtain ⟨ho, hb⟩ := hu
    by_cases c1 : memB u S = true
    · exact hr.key u (memB_mem.1 c1) c
    · have n97 : ¬ isK u 97 = true := fun e => by have := isK_two c e; omega
      rw [bldN, if_neg c1, if_neg n97, if_pos c] at hb
      exact memI_mem.1 hb
  · obtain ⟨ho, hb⟩ := hu
    by_cases c : isK u 108 = true
    · obtain ⟨_, h4, h5⟩ := parts_all c
      refine ⟨h5 p hp, ?_⟩
      by_cases c1 : memB u S = true
      · exact seen p (hr.part u (memB_mem.1 c1) p hp)
      · have n97 : ¬ isK u 97 = true := fun e => by have := isK_two c e; omega
        have n107 : ¬ isK u 107 = true := fun e => by have := isK_two c e; omega
        rw [bldN, if_neg c1, if_neg n97, if_neg n107, if_pos c] at hb
        have h6 := List.all_eq_true.1 hb p hp
        have := mem_tot hp
        have := (okS_size ho).2
        rw [← bld_fuel S R 899 900 p (h5 p hp) (by omega) (by omega)]
        exact h6
    · rw [parts_nil c] at hp; cases hp
  · obtain ⟨ho, hb⟩ := hu
    obtain ⟨i1, i2, _, _⟩ := inn_all c
    refine ⟨i1, ?_⟩
    by_cases c1 : memB u S = true
    · exact seen _ (hr.opens u (memB_mem.1 c1) c hn)
    · have n97 : ¬ isK u 97 = true := fun e => by have := isK_two c e; omega
      have n107 : ¬ isK u 107 = true := fun e => by have := isK_two c e; omega
      have n108 : ¬ isK u 108 = true := fun e => by have := isK_two c e; omega
      rw [bldN, if_neg c1, if_neg n97, if_neg n107, if_neg n108, memI_mem.2 hn] at hb
      have := (okS_size ho).2
      rw [← bld_fuel S R 899 900 (inn u) i1 (by omega) (by omega)]
      simpa using hb
theorem rise_same {l K : List Int} (h1 : l.Pairwise (· < ·)) (h2 : K.Pairwise (· < ·)) (h : ∀ x, x ∈ l ↔ x ∈ K) : l = K := by
  have n1 : l.Nodup := h1.imp (fun h => by omega)
  have n2 : K.Nodup := h2.imp (fun h => by omega)
  have hp : l.Perm K := (List.perm_ext_iff_of_nodup n1 n2).2 h
  exact List.Perm.eq_of_pairwise (le := fun a b => decide (a ≤ b) = true) (fun a b _ _ h1 h2 => by simp only [decide_eq_true_eq] at h1 h2; omega) (h1.imp (fun h => by simp only [decide_eq_true_eq]; omega)) (h2.imp (fun h => by simp only [decide_eq_true_eq]; omega)) hp

theorem has_of (K : List Int) (hl : K.length ≤ 1000040) {n : Int} (h : n ∈ K) : Ev (fun k => laws_has.f k K n) true := by
  have := laws_has_ev K n (by omega)
  rw [inI_t h] at this
  exact this
theorem FnKnown : ∀ (l0 : List Int), l0.length ≤ maxLen → l0.length * 1 ≤ 140737488351232 → (∀ a ∈ l0, (Lit.int .u8 a).wf = true) → ∃ k, laws_FnKnown.f k l0 = some true := by
  intro b hm hb hw
  apply Ev.rounds
  unfold laws_FnKnown.f
  simp only [laws_big_eq, Option.bind_some]
  by_cases hbig : (b.length : Int) > 1048576
  · simp only [hbig, decide_true, if_true]; exact Ev.now _
  · simp only [hbig, decide_false, Bool.false_eq_true, if_false]
    obtain ⟨ts, ks, t, hd, g1, g2, g3, g4⟩ := spec_DrawBuild_ok b (by omega)
    have e2 := spec_KnownOk_ev ts ks g1 g2 g3
    have i2 := impl_KnownOk_ev ts ks g1 g2 g3
    refine Ev.bind hd (Ev.bind e2 ?_)
    by_cases hk : knownB ts ks = true
    · simp only [hk, if_true]
      obtain ⟨S, R, K, a1, a2, a3, a4, a5, a6, a7, a8, a9⟩ := reach_all hk
      obtain ⟨_, q3, _, _, _⟩ := known_out hk
      have hl := impl_Learn_ev ts ks t g1 g2 g3 g4
      obtain ⟨l1, l2, l3, l4⟩ := learn_shape hk t
      generalize learnS ts ks t = x at hl l1 l2 l3 l4
      obtain ⟨ts', ks'⟩ := x
      simp only at l1 l2 l3 l4
      subst l2
      obtain ⟨S', R', K', b1, b2, b3, b4, b5, b6, b7, b8, _⟩ := reach_all l1
      have sub : ∀ n, n ∈ K → n ∈ K' := fun n hn => (b2 n).2 ((a8 _ _ b5 (fun u hu => b6 u (l3 u hu)) b7).2 n ((a2 n).1 hn))
      refine Ev.bind a1 (Ev.bind hl (Ev.bind b1 ?_))
      -- what holds of the term
      obtain ⟨c1, c2, c3⟩ := a9 t g4
      have okall : ∀ u ∈ S, okS u = true := (a8 _ _ rule_ok q3 (fun n hn => (known_out hk).2.2.2.1 n hn)).1
      have hsee : memB t S = true → (okS t && bldN S R 900 t) = true := fun h => by
        rw [okall t (memB_mem.1 h), Bool.true_and, bldN, if_pos h]
      have hsame : (okS t && bldN S R 900 t) = true → K = K' := fun h => by
        rw [Bool.and_eq_true] at h
        refine rise_same a3 b3 (fun n => ⟨sub n, fun hn => (a2 n).2 ?_⟩)
        refine (b8 _ _ (bld_rule a5) (fun u hu => ?_) a7).2 n ((b2 n).1 hn)
        rcases l4 u hu with hu | hu
        · exact ⟨q3 u hu, by rw [bldN, if_pos (memB_mem.2 (a6 u hu))]⟩
        · rw [hu.1]; exact h
      -- one more key
      obtain ⟨z, hz, _, _⟩ := laws_at_ok b 0 (by omega) hw (by omega) (by omega)
      have hkey := impl_LearnKey_ev ts ks' (wrap64 (1 + Int.tmod z 6)) g1 g2 g3
      obtain ⟨m1, m2, m3⟩ := lkey_shape hk (wrap64 (1 + Int.tmod z 6))
      generalize lkeyS ts ks' (wrap64 (1 + Int.tmod z 6)) = y at hkey m1 m2 m3
      obtain ⟨ts2, ks2⟩ := y
      simp only at m1 m2 m3
      subst m2
      obtain ⟨S2, R2, K2, d1, d2, d3, d4, d5, d6, d7, d8, _⟩ := reach_all m1
      have sub2 : ∀ n, n ∈ K → n ∈ K2 := fun n hn => (d2 n).2 ((a8 _ _ d5 d6 (fun n hn => d7 n (m3 n hn))).2 n ((a2 n).1 hn))
      have f1 : Ev (fun k => spec_KnownOk.f k ts' ks') true := by
        obtain ⟨⟨w1, w2⟩, w3, _, _, _⟩ := known_out l1
        have := spec_KnownOk_ev ts' ks' (by omega) (fun p hp => by have := okS_size (w3 p hp); omega) (by omega)
        rw [l1] at this
        exact this
      have f2 : Ev (fun k => spec_KnownOk.f k ts2 ks2) true := by
        obtain ⟨⟨w1, w2⟩, w3, _, _, _⟩ := known_out m1
        have := spec_KnownOk_ev ts2 ks2 (by omega) (fun p hp => by have := okS_size (w3 p hp); omega) (by omega)
        rw [m1] at this
        exact this
      have w1' : ∀ i n : Nat, i < n → n ≤ 1048576 → wrap64 ((i : Int) + 1) = ((i + 1 : Nat) : Int) := fun i n h1 h2 => by rw [w64 (x := (i : Int) + 1) (by omega) (by omega)]; omega
      have lp2 : ∀ (d i : Nat), i + d = K.length → Ev (fun k => laws_FnKnown.l2 k K K2 (i : Int) ts' ks' ts2 ks2) true := by
        intro d
        induction d with
        | zero =>
          intro i hi
          refine Ev.step (f := fun k => (spec_KnownOk.f k ts' ks').bind fun t610 => (if t610 = true then ((spec_KnownOk.f k ts2 ks2).bind fun t611 => (some t611)) else (some false))) (fun k => ?_) (Ev.bind f1 ?_)
          · simp only [laws_FnKnown.l2]
            rw [if_neg (by omega)]
          · simp only [if_true]
            exact Ev.bind f2 (Ev.now _)
        | succ d ih =>
          intro i hi
          have hlt : i < K.length := by omega
          refine Ev.step (f := fun k => (laws_has.f k K2 K[i]).bind fun t609 => (if t609 = true then (laws_FnKnown.l2 k K K2 ((i + 1 : Nat) : Int) ts' ks' ts2 ks2) else (some false))) (fun k => ?_) (Ev.bind (has_of K2 d4 (sub2 _ (List.getElem_mem hlt))) ?_)
          · simp only [laws_FnKnown.l2]
            rw [if_pos (by omega), if_pos (by omega), rd_get _ _ hlt, w1' i K.length hlt (by omega)]
          · simp only [if_true]
            exact ih (i + 1) (by omega)
      have hj2 : Ev (fun k => laws_FnKnown.j2 k b K false ts2 ks' ts' ks') true := by
        refine Ev.step (f := fun k => (impl_LearnKey.f k ts2 ks' (wrap64 (1 + (Int.tmod z 6)))).bind fun bt598 => ((impl_Reach.f k bt598.1 bt598.2).bind fun t605 => (laws_FnKnown.l2 k K t605 0 ts' ks' bt598.1 bt598.2))) (fun k => ?_) (Ev.bind hkey (Ev.bind d1 (lp2 K.length 0 (by omega))))
        simp only [laws_FnKnown.j2, Bool.false_eq_true, if_false, hz, Option.bind_some]
      have fin : Ev (fun k => laws_FnKnown.l1 k b t K K' (ks'.length : Int) ts2 ks' ts' ks') true := by
        refine Ev.step (f := fun k => (impl_Build.f k ts2 ks' t).bind fun t592 => ((spec_Build.f k ts2 ks' t).bind fun t593 => (if (t592 != t593) = true then (laws_FnKnown.j2 k b K true ts2 ks' ts' ks') else ((impl_Sees.f k ts2 ks' t).bind fun t594 => (if t594 = true then (if t592 = true then ((laws_sameInts.f k K K').bind fun t595 => (laws_FnKnown.j2 k b K (!t595) ts2 ks' ts' ks')) else (laws_FnKnown.j2 k b K true ts2 ks' ts' ks')) else (if t592 = true then ((laws_sameInts.f k K K').bind fun t596 => (laws_FnKnown.j2 k b K (!t596) ts2 ks' ts' ks')) else (laws_FnKnown.j2 k b K false ts2 ks' ts' ks'))))))) (fun k => ?_) (Ev.bind c1 (Ev.bind c2 ?_))
        · simp only [laws_FnKnown.l1]
          rw [if_neg (by omega)]
        · simp only [bne_self_eq_false, Bool.false_eq_true, if_false]
          refine Ev.bind c3 ?_
          have hs := laws_sameInts_self K (by omega)
          cases hB : (okS t && bldN S R 900 t) with
          | true =>
            have e := hsame hB
            rw [e] at hs
            have same : Ev (fun k => (laws_sameInts.f k K K').bind fun t596 => (laws_FnKnown.j2 k b K (!t596) ts2 ks' ts' ks')) true := by
              conv => arg 1; rw [e]
              refine Ev.bind hs ?_
              rw [← e]
              exact hj2
            cases hS : memB t S with
            | true => simp only [if_true]; exact same
            | false => simp only [if_true, Bool.false_eq_true, if_false]; exact same
          | false =>
            cases hS : memB t S with
            | true => have := hsee hS; rw [hB] at this; cases this
            | false => simp only [Bool.false_eq_true, if_false]; exact hj2
      have lp1 : ∀ (d i : Nat), i + d = ks'.length → Ev (fun k => laws_FnKnown.l1 k b t K K' (i : Int) ts2 ks' ts' ks') true := by
        intro d
        induction d with
        | zero => intro i hi; rw [show i = ks'.length by omega]; exact fin
        | succ d ih =>
          intro i hi
          have hlt : i < ks'.length := by omega
          refine Ev.step (f := fun k => (laws_has.f k K ks'[i]).bind fun t591 => (if t591 = true then (laws_FnKnown.l1 k b t K K' ((i + 1 : Nat) : Int) ts2 ks' ts' ks') else (some false))) (fun k => ?_) (Ev.bind (has_of K a4 ((a2 _).2 (a7 _ (List.getElem_mem hlt)))) ?_)
          · simp only [laws_FnKnown.l1]
            rw [if_pos (by omega), if_pos (by omega), rd_get _ _ hlt, w1' i ks'.length hlt g3]
          · simp only [if_true]
            exact ih (i + 1) (by omega)
      have lp0 : ∀ (d i : Nat), i + d = K.length → Ev (fun k => laws_FnKnown.l0 k b t K K' (i : Int) ts2 ks' ts' ks') true := by
        intro d
        induction d with
        | zero =>
          intro i hi
          refine Ev.step (fun k => ?_) (lp1 ks'.length 0 (by omega))
          simp only [laws_FnKnown.l0]
          rw [if_neg (by omega)]
          rfl
        | succ d ih =>
          intro i hi
          have hlt : i < K.length := by omega
          refine Ev.step (f := fun k => (laws_has.f k K' K[i]).bind fun t589 => (if t589 = true then (laws_FnKnown.l0 k b t K K' ((i + 1 : Nat) : Int) ts2 ks' ts' ks') else (some false))) (fun k => ?_) (Ev.bind (has_of K' b4 (sub _ (List.getElem_mem hlt))) ?_)
          · simp only [laws_FnKnown.l0]
            rw [if_pos (by omega), if_pos (by omega), rd_get _ _ hlt, w1' i K.length hlt (by omega)]
          · simp only [if_true]
            exact ih (i + 1) (by omega)
      exact lp0 K.length 0 (by omega)
    · have hf : knownB ts ks = false := by simpa using hk
      rw [hf] at i2
      simp only [hf, Bool.false_eq_true, if_false]
      have n1 : Ev (fun k => impl_Build.f k ts ks t) false := by
        unfold impl_Build.f
        refine Ev.bind i2 ?_
        simp only [Bool.false_eq_true, if_false]
        exact Ev.now _
      have n2 : Ev (fun k => impl_Reach.f k ts ks) [] := by
        unfold impl_Reach.f
        refine Ev.bind i2 ?_
        simp only [Bool.false_eq_true, if_false]
        exact Ev.now _
      refine Ev.bind n1 ?_
      simp only [Bool.false_eq_true, if_false]
      exact Ev.bind n2 (Ev.now _)

end Go.Proofs.Ythlpfghlildllaa.Pure
