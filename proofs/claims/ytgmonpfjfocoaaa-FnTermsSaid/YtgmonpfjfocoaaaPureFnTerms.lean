/- What is written of a sealed term, of a list, of a text, of numbers reads as it again; nothing is written of what may not be: for all codes. -/
import Derived.Test.YtgmonpfjfocoaaaOFnTermsx11
import Derived.Test.YtgmonpfjfocoaaaBase
import Derived.Test.YtgmonpfjfocoaaaDraws
import Derived.Test.YtgmonpfjfocoaaaTerms
import Derived.Test.YtgmonpfjfocoaaaRounds
import Derived.Test.YtgmonpfjfocoaaaRests
import Derived.Test.YtgmonpfjfocoaaaBaseTick
namespace Go.Proofs.Ytgmonpfjfocoaaa.Pure
open Go.RowKit Go.Proofs.Ytgmonpfjfocoaaa.OFnTerms Go.Proofs.YtgmonpfjfocoaaaW.PrintWords Go.Proofs.YtgmonpfjfocoaaaW.PrintLast Go.Proofs.YtgmonpfjfocoaaaW.PrintMore Go.Proofs.Ytgmonpfjfocoaaa.Base
set_option linter.unusedVariables false
set_option linter.unusedSimpArgs false
theorem laws_big_eq (l : List Int) : laws_big.f l = some (decide ((l.length : Int) > 1048576)) := rfl

theorem spec_l1New_ok (l : List Int) (hl : l.length ≤ 140737488351232) : ∃ h : Int, Ev (fun k => spec_l1New.f k l) (l, 0, h) := by
  have loop : ∀ (d i : Nat) (h : Int), i + d = l.length → ∃ h' : Int, Ev (fun k => spec_l1New.l0 k l h (i : Int)) (l, 0, h') := by
    intro d
    induction d with
    | zero =>
      intro i h hi
      refine ⟨h, Ev.step (f := fun _ => some (l, 0, h)) (fun k => ?_) (Ev.now _)⟩
      simp only [spec_l1New.l0]
      rw [if_neg (by omega)]
    | succ d ih =>
      intro i h hi
      by_cases h4 : (i : Int) < 4000
      · obtain ⟨h', hh⟩ := ih (i + 1) (Go.bits .and .i64 (wrap64 ((wrap64 ((wrap64 (h * 131)) + (wrap64 (rd l (i : Int))))) + 7)) 1073741823) (by omega)
        refine ⟨h', Ev.step (fun k => ?_) hh⟩
        simp only [spec_l1New.l0]
        rw [if_pos (by omega), if_pos h4, if_pos (by omega), w64 (x := (i : Int) + 1) (by omega) (by omega)]
        rfl
      · refine ⟨h, Ev.step (f := fun _ => some (l, 0, h)) (fun k => ?_) (Ev.now _)⟩
        simp only [spec_l1New.l0]
        rw [if_pos (by omega), if_neg h4]
  unfold spec_l1New.f
  exact loop l.length 0 _ (by omega)

theorem spec_l1Byte_ok (b : List Int) (i h : Int) (hb : b.length ≤ 140737488351232) (hi : 0 ≤ i) : ∃ x i' h' : Int, spec_l1Byte.f b i h = some (x, i', h') ∧ 0 ≤ x ∧ x ≤ 255 ∧ 0 ≤ i' := by
  unfold spec_l1Byte.f
  by_cases h1 : i < (b.length : Int)
  · rw [if_pos h1, if_pos hi]
    refine ⟨_, _, _, rfl, (band255 _).1, (band255 _).2, ?_⟩
    rw [w64 (by omega) (by omega)]; omega
  · rw [if_neg h1]
    exact ⟨_, _, _, rfl, (band255 _).1, (band255 _).2, hi⟩

theorem spec_l1Below_ok (b : List Int) (i h n : Int) (hb : b.length ≤ 140737488351232) (hi : 0 ≤ i) (hn : 1 ≤ n) : ∃ x i' h' : Int, spec_l1Below.f b i h n = some (x, i', h') ∧ 0 ≤ x ∧ x < n ∧ 0 ≤ i' := by
  unfold spec_l1Below.f
  rw [if_neg (by omega)]
  have tm : ∀ y : Int, 0 ≤ y → 0 ≤ Int.tmod y n ∧ Int.tmod y n < n := fun y hy => ⟨Int.tmod_nonneg _ hy, Int.tmod_lt_of_pos _ (by omega)⟩
  by_cases h1 : n ≤ 256
  · rw [if_pos h1]
    obtain ⟨x, i', h', he, hx, _, hi'⟩ := spec_l1Byte_ok b i h hb hi
    rw [he, Option.bind_some, if_neg (by omega)]
    exact ⟨_, _, _, rfl, (tm x hx).1, (tm x hx).2, hi'⟩
  · rw [if_neg h1]
    obtain ⟨x1, i1, h1, he1, hx1, hy1, hi1⟩ := spec_l1Byte_ok b i h hb hi
    obtain ⟨x2, i2, h2, he2, hx2, hy2, hi2⟩ := spec_l1Byte_ok b i1 h1 hb hi1
    obtain ⟨x3, i3, h3, he3, hx3, hy3, hi3⟩ := spec_l1Byte_ok b i2 h2 hb hi2
    obtain ⟨x4, i4, h4, he4, hx4, hy4, hi4⟩ := spec_l1Byte_ok b i3 h3 hb hi3
    rw [he1, Option.bind_some, he2, Option.bind_some, he3, Option.bind_some, he4, Option.bind_some, if_neg (by omega)]
    rw [w64 (x := x1 * 16777216) (by omega) (by omega), w64 (x := x2 * 65536) (by omega) (by omega), w64 (x := x3 * 256) (by omega) (by omega), w64 (x := _ + x2 * 65536) (by omega) (by omega), w64 (x := _ + x3 * 256) (by omega) (by omega), w64 (x := _ + x4) (by omega) (by omega)]
    exact ⟨_, _, _, rfl, (tm _ (by omega)).1, (tm _ (by omega)).2, hi4⟩

theorem spec_l1PickInt_ok (b : List Int) (i h : Int) (l : List Int) (hb : b.length ≤ 140737488351232) (hi : 0 ≤ i) (hl : 1 ≤ l.length) : ∃ (x i' h' : Int), spec_l1PickInt.f b i h l = some (x, i', h') ∧ x ∈ l ∧ 0 ≤ i' := by
  unfold spec_l1PickInt.f
  obtain ⟨x, i', h', he, h0, h1, hi'⟩ := spec_l1Below_ok b i h (l.length : Int) hb hi (by omega)
  rw [he]
  simp only [Option.bind_some]
  rw [if_pos h0, if_pos h1]
  refine ⟨_, _, _, rfl, ?_, hi'⟩
  unfold rd
  rw [List.getD_eq_getElem?_getD, List.getElem?_eq_getElem (by omega)]
  exact List.getElem_mem _

theorem spec_l1In_eq (a lo hi : Int) : spec_l1In.f a lo hi = some (decide (lo ≤ a ∧ a ≤ hi)) := by
  unfold spec_l1In.f
  by_cases h : a ≥ lo
  · rw [if_pos h]; congr 1; simp [show lo ≤ a from h]
  · rw [if_neg h]; congr 1; simp [show ¬ lo ≤ a from h]

theorem spec_Var_loop (j : Nat) : ∀ (n : Nat) (acc : List Int), n < 128 ^ (j + 1) → n ≤ MAXV → acc.length + j < 1000 →
    Ev (fun k => spec_Var.l0 k (n : Int) acc) (strOfNums (acc ++ (var n).map fun (m : Nat) => (m : Int))) := by
  have e128 : ((128 : Nat) : Int) = 128 := rfl
  induction j with
  | zero =>
    intro n acc hn hm ha
    have hn' : n < 128 := by simpa using hn
    refine Ev.step (f := fun _ => some (strOfNums (acc ++ (var n).map fun (m : Nat) => (m : Int)))) (fun k => ?_) (Ev.now _)
    simp only [spec_Var.l0]
    rw [if_neg (by omega), if_pos (by omega), var_small hn', show (n : Int) % 256 = (n : Int) by omega]; rfl
  | succ j ih =>
    intro n acc hn hm ha
    unfold MAXV at hm
    by_cases h : n < 128
    · refine Ev.step (f := fun _ => some (strOfNums (acc ++ (var n).map fun (m : Nat) => (m : Int)))) (fun k => ?_) (Ev.now _)
      simp only [spec_Var.l0]
      rw [if_neg (by omega), if_pos (by omega), var_small h, show (n : Int) % 256 = (n : Int) by omega]; rfl
    · have hd : n / 128 < 128 ^ (j + 1) := Nat.div_lt_of_lt_mul (by rw [Nat.pow_succ] at hn; omega)
      have hr := ih (n / 128) (acc ++ [((n % 128 + 128 : Nat) : Int)]) hd (by unfold MAXV; omega) (by simp; omega)
      refine Ev.step (f := fun k => spec_Var.l0 k ((n / 128 : Nat) : Int) (acc ++ [((n % 128 + 128 : Nat) : Int)])) (fun k => ?_) (ev_eq hr ?_)
      · simp only [spec_Var.l0]
        rw [if_pos (by omega), if_pos (by omega), ← e128, tdivN, tmodN, w64 (by omega) (by omega), w64 (by omega) (by omega)]
        have e : (((128 : Nat) : Int) + ((n % 128 : Nat) : Int)) % 256 = ((n % 128 + 128 : Nat) : Int) := by omega
        rw [e]
      · rw [var_big h, List.map_cons, List.append_assoc]; rfl
theorem spec_Var_ev (n : Int) : Ev (fun k => spec_Var.f k n) (varS n) := by
  unfold spec_Var.f
  simp only [spec_l1In_eq, Option.bind_some]
  by_cases h : 0 ≤ n ∧ n ≤ 562949953421311
  · simp only [h, decide_true, if_true]
    obtain ⟨m, rfl⟩ := Int.eq_ofNat_of_zero_le h.1
    have hm : m ≤ MAXV := by unfold MAXV; omega
    refine ev_eq (spec_Var_loop 6 m [] (by unfold MAXV at hm; omega) hm (by simp)) ?_
    rw [varS_in hm]; rfl
  · simp only [h, decide_false]
    rw [varS_out h]
    exact Ev.now _

theorem spec_ReadVar_inner (s : ByteArray) (hs : s.size ≤ 140737488355327) (kk : Nat) (h1 : 1 ≤ kk) (h7 : kk ≤ 7) (hkl : kk ≤ (bl s).length) {q : Int × Int} (hq : Ev (fun k => (spec_Var.f k ((val ((bl s).take kk) : Nat) : Int)).bind fun t111 => (if 0 ≤ (kk : Int) then (if (kk : Int) ≤ (s.size : Int) then (if t111.toList = (s.extract 0 (kk : Int).toNat).toList then (some (((val ((bl s).take kk) : Nat) : Int), (kk : Int))) else (spec_ReadVar.l0 k s (wrap64 ((kk : Int) + 1)))) else (none)) else (none))) q) (d : Nat) : ∀ (x : Int), d ≤ kk → x = (d : Int) - 1 →
    Ev (fun k => spec_ReadVar.l1 k s (kk : Int) ((val (((bl s).take kk).drop d) : Nat) : Int) x) q := by
  have hl := bl_len s
  induction d with
  | zero =>
    intro x hd hx
    subst hx
    rw [List.drop_zero]
    refine Ev.step (fun k => ?_) hq
    simp only [spec_ReadVar.l1]
    rw [if_neg (by omega)]
  | succ d ih =>
    intro x hd hx
    have hd' : d < (bl s).length := by omega
    have hb : bt s (d : Int) = (((bl s)[d] : Nat) : Int) := bt_get s d hd'
    have hb256 : (bl s)[d] < 256 := bl_lt s _ (List.getElem_mem hd')
    have hx' : x = (d : Int) := by omega
    subst hx'
    have hlen : ((bl s).take kk).length = kk := by rw [List.length_take]; omega
    have hdrop : ((bl s).take kk).drop d = (bl s)[d] :: ((bl s).take kk).drop (d + 1) := by
      rw [List.drop_eq_getElem_cons (by omega), List.getElem_take]
    have hval : val (((bl s).take kk).drop d) = (bl s)[d] % 128 + 128 * val (((bl s).take kk).drop (d + 1)) := by rw [hdrop]; rfl
    have hlt := val_lt (((bl s).take kk).drop (d + 1))
    rw [List.length_drop, hlen] at hlt
    have hp := pow_le7 (kk - (d + 1)) (by omega)
    have e128 : ((128 : Nat) : Int) = 128 := rfl
    refine Ev.step (fun k => ?_) (ih ((d : Int) - 1) (by omega) rfl)
    simp only [spec_ReadVar.l1]
    rw [if_pos (by omega), if_pos (by omega), if_pos (by omega), hb, w64 (x := (((bl s)[d] : Nat) : Int)) (by omega) (by omega), ← e128, tmodN, w64 (x := _ * ((128 : Nat) : Int)) (by omega) (by omega), w64 (x := _ + _) (by omega) (by omega), w64 (x := _ - 1) (by omega) (by omega)]
    rw [hval]
    congr 1
    omega
theorem spec_ReadVar_loop (s : ByteArray) (hs : s.size ≤ 140737488355327) (d : Nat) : ∀ (kk : Nat), kk + d = 8 → 1 ≤ kk → (∀ n j, j < kk → ¬ R (bl s) n j) →
    Ev (fun k => spec_ReadVar.l0 k s (kk : Int)) (rvI (bl s)) := by
  have hl := bl_len s
  induction d with
  | zero =>
    intro kk hk h1 hno
    have e : rvI (bl s) = (0, 0) := rvI_none (fun n k hR => hno n k (by have := R_seven hR; omega) hR)
    rw [e]
    refine Ev.step (f := fun k => spec_ReadVar.j1 k s (kk : Int) false) (fun k => ?_) (Ev.step (f := fun _ => some (0, 0)) (fun k => ?_) (Ev.now _))
    · simp only [spec_ReadVar.l0]; rw [if_neg (by omega)]
    · simp [spec_ReadVar.j1]
  | succ d ih =>
    intro kk hk h1 hno
    by_cases h : kk ≤ (bl s).length
    · have hmax : val ((bl s).take kk) ≤ MAXV := by
        have := val_lt ((bl s).take kk)
        rw [List.length_take, Nat.min_eq_left h] at this
        have hp : 128 ^ kk ≤ 128 ^ 7 := Nat.pow_le_pow_right (by decide) (by omega)
        have : (128 : Nat) ^ 7 = 562949953421312 := by decide
        unfold MAXV; omega
      have hin : Ev (fun k => (spec_Var.f k ((val ((bl s).take kk) : Nat) : Int)).bind fun t111 => (if 0 ≤ (kk : Int) then (if (kk : Int) ≤ (s.size : Int) then (if t111.toList = (s.extract 0 (kk : Int).toNat).toList then (some (((val ((bl s).take kk) : Nat) : Int), (kk : Int))) else (spec_ReadVar.l0 k s (wrap64 ((kk : Int) + 1)))) else (none)) else (none))) (rvI (bl s)) := by
        refine Ev.bind (spec_Var_ev _) ?_
        simp only [show (0 : Int) ≤ (kk : Int) by omega, show (kk : Int) ≤ (s.size : Int) by omega, if_true, toList_iff, Int.toNat_natCast]
        by_cases hR : R (bl s) (val ((bl s).take kk)) kk
        · have := (R_iff s _ kk hmax (by omega)).2 hR
          simp only [this, if_true]
          rw [rvI_some hR]
          exact Ev.now _
        · have hne : ¬ varS ((val ((bl s).take kk) : Nat) : Int) = s.extract 0 kk := fun e => hR ((R_iff s _ kk hmax (by omega)).1 e)
          simp only [hne, if_false]
          have hw : Aside0 (wrap64 ((kk : Int) + 1) = ((kk + 1 : Nat) : Int)) := ⟨by rw [w64 (by omega) (by omega)]; omega⟩
          rw [hw.out]
          refine ih (kk + 1) (by omega) (by omega) (fun n j hj hRj => ?_)
          by_cases hjk : j < kk
          · exact hno n j hjk hRj
          · have : j = kk := by omega
            subst this
            rw [← R_val hRj] at hRj
            exact hR hRj
      have hout := spec_ReadVar_inner s hs kk h1 (by omega) h hin kk ((kk : Int) - 1) (Nat.le_refl _) rfl
      rw [List.drop_of_length_le (by rw [List.length_take]; omega)] at hout
      refine Ev.step (f := fun k => spec_ReadVar.j1 k s (kk : Int) true) (fun k => ?_) (Ev.step (fun k => ?_) hout)
      · simp only [spec_ReadVar.l0]; rw [if_pos (by omega), decide_eq_true (by omega)]
      · simp only [spec_ReadVar.j1, if_true]; rw [w64 (by omega) (by omega)]; rfl
    · have e : rvI (bl s) = (0, 0) := rvI_none (fun n k hR => hno n k (by have := R_le hR; omega) hR)
      rw [e]
      refine Ev.step (f := fun k => spec_ReadVar.j1 k s (kk : Int) false) (fun k => ?_) (Ev.step (f := fun _ => some (0, 0)) (fun k => ?_) (Ev.now _))
      · simp only [spec_ReadVar.l0]
        by_cases h7 : (kk : Int) ≤ 7
        · rw [if_pos h7, decide_eq_false (by omega)]
        · rw [if_neg h7]
      · simp [spec_ReadVar.j1]
theorem spec_ReadVar_ev (s : ByteArray) (hs : s.size ≤ 140737488355327) : Ev (fun k => spec_ReadVar.f k s) (rvI (bl s)) := by
  unfold spec_ReadVar.f
  exact spec_ReadVar_loop s hs 7 1 (by omega) (by omega) (fun n j hj hR => by have := R_pos hR; omega)

theorem spec_l2Term_list (s : ByteArray) (hs : s.size ≤ 140737488355327) (d : Nat) (hd : d ≤ 100) (n : Nat) (hn : n ≤ 12) (a0 : Nat) (ha0 : a0 ≤ s.size)
    (hf : ∀ a, a ≤ s.size → ∃ dp : Int, Ev (fun k => spec_l2Term.f k s (a : Int) (d : Int)) (pI (parse d ((bl s).drop a)), dp) ∧ 0 ≤ dp ∧ dp ≤ d) (r : Nat) : ∀ (i a : Nat) (deep : Int), i + r = n → a ≤ s.size → a0 ≤ a → 0 ≤ deep → deep ≤ d →
    ∃ dp : Int, Ev (fun k => spec_l2Term.l0 k s (a0 : Int) ((d + 1 : Nat) : Int) (n : Int) (a : Int) deep (i : Int)) (eI a0 a (many (parse d) r ((bl s).drop a)), dp) ∧ 0 ≤ dp ∧ dp ≤ d + 1 := by
  have hw : Aside0 (wrap64 (((d + 1 : Nat) : Int) - 1) = (d : Int)) := ⟨by rw [w64 (by omega) (by omega)]; omega⟩
  induction r with
  | zero =>
    intro i a deep hi ha haa h0 h1
    refine ⟨1 + deep, Ev.step (f := fun _ => some (((a - a0 : Nat) : Int), 1 + deep)) (fun k => ?_) (ev_eq (Ev.now _) ?_), by omega, by omega⟩
    · simp only [spec_l2Term.l0]
      rw [if_neg (by omega), w64 (x := _ - _) (by omega) (by omega), w64 (x := 1 + _) (by omega) (by omega)]
      congr 2; omega
    · rfl
  | succ r ih =>
    intro i a deep hi ha haa h0 h1
    have hi1 : Aside0 (wrap64 ((i : Int) + 1) = ((i + 1 : Nat) : Int)) := ⟨by rw [w64 (by omega) (by omega)]; omega⟩
    obtain ⟨dp, hdp, hd0, hd1⟩ := hf a ha
    have hstep : ∀ k, spec_l2Term.l0 (k + 1) s (a0 : Int) ((d + 1 : Nat) : Int) (n : Int) (a : Int) deep (i : Int) = (spec_l2Term.f k s (a : Int) (d : Int)).bind fun bt118 => (if bt118.1 = 0 then (some (0, 0)) else (if bt118.2 > deep then (spec_l2Term.l0 k s (a0 : Int) ((d + 1 : Nat) : Int) (n : Int) (wrap64 ((a : Int) + bt118.1)) bt118.2 ((i + 1 : Nat) : Int)) else (spec_l2Term.l0 k s (a0 : Int) ((d + 1 : Nat) : Int) (n : Int) (wrap64 ((a : Int) + bt118.1)) deep ((i + 1 : Nat) : Int)))) := by
      intro k
      simp only [spec_l2Term.l0]; rw [if_pos (by omega), hw.out, hi1.out]
    rw [many_succ]
    cases hp : parse d ((bl s).drop a) with
    | none =>
      rw [hp] at hdp
      refine ⟨0, Ev.step hstep (Ev.bind hdp ?_), by omega, by omega⟩
      simp only [pI, if_true]
      exact Ev.now _
    | some m =>
      rw [hp] at hdp
      have hle := parse_le d _ _ hp
      rw [List.length_drop, bl_len] at hle
      have hm : ¬ ((m : Int) = 0) := by omega
      have hw2 : Aside0 (wrap64 ((a : Int) + (m : Int)) = ((a + m : Nat) : Int)) := ⟨by rw [w64 (by omega) (by omega)]; omega⟩
      have tail : ∀ deep', 0 ≤ deep' → deep' ≤ (d : Int) → ∃ dp : Int, Ev (fun k => spec_l2Term.l0 k s (a0 : Int) ((d + 1 : Nat) : Int) (n : Int) ((a + m : Nat) : Int) deep' ((i + 1 : Nat) : Int)) (eI a0 a (addO m (many (parse d) r (((bl s).drop a).drop m))), dp) ∧ 0 ≤ dp ∧ dp ≤ d + 1 := by
        intro deep' h0' h1'
        obtain ⟨dp', he, h⟩ := ih (i + 1) (a + m) deep' (by omega) (by omega) (by omega) h0' h1'
        rw [← List.drop_drop, eI_add] at he
        exact ⟨dp', he, h⟩
      by_cases hc : dp > deep
      · obtain ⟨dp', he, h⟩ := tail dp hd0 hd1
        refine ⟨dp', Ev.step hstep (Ev.bind hdp ?_), h⟩
        simp only [pI, hm, if_false, hc, if_true, hw2.out]
        exact he
      · obtain ⟨dp', he, h⟩ := tail deep h0 h1
        refine ⟨dp', Ev.step hstep (Ev.bind hdp ?_), h⟩
        simp only [pI, hm, if_false, hc, hw2.out]
        exact he
theorem spec_l2Term_ev (s : ByteArray) (hs : s.size ≤ 140737488355327) (d : Nat) : ∀ (a : Nat), d ≤ 100 → a ≤ s.size → ∃ dp : Int, Ev (fun k => spec_l2Term.f k s (a : Int) (d : Int)) (pI (parse d ((bl s).drop a)), dp) ∧ 0 ≤ dp ∧ dp ≤ d := by
  have hl := bl_len s
  have dead : ∀ (a d : Int), Ev (fun k => spec_l2Term.j0 k s a d true) (0, 0) := by
    intro a d
    refine Ev.step (f := fun _ => some (0, 0)) (fun k => ?_) (Ev.now _)
    simp [spec_l2Term.j0]
  induction d with
  | zero =>
    intro a hd ha
    by_cases h : (a : Int) ≥ (s.size : Int)
    · refine ⟨0, Ev.step (fun k => ?_) (ev_eq (dead (a : Int) ((0 : Nat) : Int)) (by simp [parse, pI])), by omega, by omega⟩
      simp only [spec_l2Term.f]; rw [if_pos h]
    · refine ⟨0, Ev.step (fun k => ?_) (ev_eq (dead (a : Int) ((0 : Nat) : Int)) (by simp [parse, pI])), by omega, by omega⟩
      simp only [spec_l2Term.f]; rw [if_neg h, decide_eq_true (by decide)]
  | succ d ih =>
    intro a hd ha
    by_cases h : (a : Int) ≥ (s.size : Int)
    · refine ⟨0, Ev.step (fun k => ?_) (ev_eq (dead (a : Int) ((d + 1 : Nat) : Int)) ?_), by omega, by omega⟩
      · simp only [spec_l2Term.f]; rw [if_pos h]
      · rw [List.drop_of_length_le (by omega), parse_nil]; rfl
    · have hlt : a < (bl s).length := by omega
      have hs1 : 0 ≤ (a : Int) := by omega
      have hs2 : (a : Int) < (s.size : Int) := by omega
      have ha1 : Aside0 (wrap64 ((a : Int) + 1) = ((a + 1 : Nat) : Int)) := ⟨by rw [w64 (by omega) (by omega)]; omega⟩
      have ha0 : 0 ≤ ((a + 1 : Nat) : Int) := by omega
      have ha2 : ((a + 1 : Nat) : Int) ≤ (s.size : Int) := by omega
      have hd1 : Aside0 (wrap64 (((d + 1 : Nat) : Int) - 1) = (d : Int)) := ⟨by rw [w64 (by omega) (by omega)]; omega⟩
      have hsz : (s.extract (a + 1) s.size).size ≤ 140737488355327 := by rw [ByteArray.size_extract]; omega
      have hv := spec_ReadVar_ev (s.extract (a + 1) s.size) hsz
      rw [bl_from] at hv
      have hcons : (bl s).drop a = (bl s)[a] :: (bl s).drop (a + 1) := List.drop_eq_getElem_cons hlt
      have hstep : ∀ k, spec_l2Term.f (k + 1) s (a : Int) ((d + 1 : Nat) : Int) = spec_l2Term.j0 k s (a : Int) ((d + 1 : Nat) : Int) false := by
        intro k; simp only [spec_l2Term.f]; rw [if_neg h, decide_eq_false (by omega)]
      suffices hh : ∃ dp : Int, Ev (fun k => spec_l2Term.j0 k s (a : Int) ((d + 1 : Nat) : Int) false) (pI (parse (d + 1) ((bl s).drop a)), dp) ∧ 0 ≤ dp ∧ dp ≤ ((d + 1 : Nat) : Int) by
        obtain ⟨dp, he, h⟩ := hh
        exact ⟨dp, Ev.step hstep he, h⟩
      have hbind : ∀ (q : Int × Int) (F : Nat → Int × Int → Option (Int × Int)), (∀ k, spec_l2Term.j0 (k + 1) s (a : Int) ((d + 1 : Nat) : Int) false = (spec_ReadVar.f k (s.extract (a + 1) s.size)).bind (F k)) → Ev (fun k => F k (rvI ((bl s).drop (a + 1)))) q → Ev (fun k => spec_l2Term.j0 k s (a : Int) ((d + 1 : Nat) : Int) false) q :=
        fun q F h1 h2 => Ev.step h1 (Ev.bind hv h2)
      rw [hcons]
      have hbt := bt_get s a hlt
      generalize hcc : (bl s)[a] = c at hbt
      rw [parse]
      cases hr : rv ((bl s).drop (a + 1)) with
      | none =>
        refine ⟨0, hbind _ _ (fun k => by simp only [spec_l2Term.j0]; rw [if_neg (by decide), ha1.out, if_pos ha0, if_pos ha2]; rfl) ?_, by omega, by omega⟩
        unfold rvI; rw [hr]
        simp only [if_true]
        exact Ev.now _
      | some p =>
        obtain ⟨n, k'⟩ := p
        have hR := rv_R hr
        have hk := R_le hR
        have hk0 := R_pos hR
        have hn9 := hR.1
        unfold MAXV at hn9
        simp only at hk hn9 hk0
        rw [List.length_drop, hl] at hk
        have hk0' : ¬ ((k' : Int) = 0) := by omega
        simp only []
        have hwk : Aside0 (wrap64 (((a + 1 : Nat) : Int) + (k' : Int)) = ((a + 1 + k' : Nat) : Int)) := ⟨by rw [w64 (by omega) (by omega)]; omega⟩
        by_cases c1 : c = 97
        · subst c1
          rw [if_pos rfl, List.length_drop, hl]
          by_cases c2 : n ≤ 40
          · by_cases c3 : n ≤ s.size - (a + 1) - k'
            · rw [if_pos ⟨c2, c3⟩]
              refine ⟨1, hbind _ _ (fun k => by simp only [spec_l2Term.j0]; rw [if_neg (by decide), ha1.out, if_pos ha0, if_pos ha2]; rfl) ?_, by omega, by omega⟩
              unfold rvI; rw [hr]
              simp only [hk0', hs1, hs2, hbt, if_true, if_false, hwk.out]
              have c2' : ¬ ((n : Int) > 40) := by omega
              have c3' : ¬ ((n : Int) > wrap64 ((s.size : Int) - ((a + 1 + k' : Nat) : Int))) := by rw [w64 (by omega) (by omega)]; omega
              have e : Aside0 (wrap64 (wrap64 (1 + (k' : Int)) + (n : Int)) = ((1 + k' + n : Nat) : Int)) := ⟨by rw [w64 (x := 1 + (k' : Int)) (by omega) (by omega), w64 (by omega) (by omega)]; omega⟩
              simp only [c2', c3', if_false, e.out, show (((97 : Nat) : Int) = 97) from rfl, if_true]
              exact Ev.now _
            · rw [if_neg (fun e => c3 e.2)]
              refine ⟨0, hbind _ _ (fun k => by simp only [spec_l2Term.j0]; rw [if_neg (by decide), ha1.out, if_pos ha0, if_pos ha2]; rfl) ?_, by omega, by omega⟩
              unfold rvI; rw [hr]
              simp only [hk0', hs1, hs2, hbt, if_true, if_false, hwk.out]
              have c2' : ¬ ((n : Int) > 40) := by omega
              have c3' : ((n : Int) > wrap64 ((s.size : Int) - ((a + 1 + k' : Nat) : Int))) := by rw [w64 (by omega) (by omega)]; omega
              simp only [c2', c3', if_false, show (((97 : Nat) : Int) = 97) from rfl, if_true]
              exact Ev.now _
          · rw [if_neg (fun e => c2 e.1)]
            refine ⟨0, hbind _ _ (fun k => by simp only [spec_l2Term.j0]; rw [if_neg (by decide), ha1.out, if_pos ha0, if_pos ha2]; rfl) ?_, by omega, by omega⟩
            unfold rvI; rw [hr]
            simp only [hk0', hs1, hs2, hbt, if_true, if_false]
            have c2' : ((n : Int) > 40) := by omega
            simp only [c2', show (((97 : Nat) : Int) = 97) from rfl, if_true]
            exact Ev.now _
        · have c1' : ¬ ((c : Int) = 97) := by omega
          rw [if_neg c1]
          by_cases c4 : c = 107
          · subst c4
            rw [if_pos rfl]
            by_cases c5 : 1 ≤ n ∧ n ≤ 1000000
            · have c5' : 1 ≤ (n : Int) ∧ (n : Int) ≤ 1000000 := by omega
              refine ⟨1, hbind _ _ (fun k => by simp only [spec_l2Term.j0]; rw [if_neg (by decide), ha1.out, if_pos ha0, if_pos ha2]; rfl) ?_, by omega, by omega⟩
              unfold rvI; rw [hr, if_pos c5]
              have e : Aside0 (wrap64 (1 + (k' : Int)) = ((1 + k' : Nat) : Int)) := ⟨by rw [w64 (by omega) (by omega)]; omega⟩
              simp only [hk0', hs1, hs2, hbt, if_true, if_false, c1', show (((107 : Nat) : Int) = 107) from rfl, spec_l1In_eq, Option.bind_some, c5', decide_true, e.out, and_self]
              exact Ev.now _
            · have c5' : ¬ (1 ≤ (n : Int) ∧ (n : Int) ≤ 1000000) := by omega
              refine ⟨0, hbind _ _ (fun k => by simp only [spec_l2Term.j0]; rw [if_neg (by decide), ha1.out, if_pos ha0, if_pos ha2]; rfl) ?_, by omega, by omega⟩
              unfold rvI; rw [hr, if_neg c5]
              simp only [hk0', hs1, hs2, hbt, if_true, if_false, c1', show (((107 : Nat) : Int) = 107) from rfl, spec_l1In_eq, Option.bind_some, c5', decide_false]
              exact Ev.now _
          · have c4' : ¬ ((c : Int) = 107) := by omega
            rw [if_neg c4]
            by_cases c6 : c = 108
            · subst c6
              rw [if_pos rfl]
              by_cases c7 : n ≤ 12
              · have c7' : ¬ ((n : Int) > 12) := by omega
                obtain ⟨dp, hL, h0, h1⟩ := spec_l2Term_list s hs d (by omega) n c7 a ha (fun a ha => ih a (by omega) ha) n 0 (a + 1 + k') 0 (by omega) (by omega) (by omega) (by omega) (by omega)
                rw [← List.drop_drop] at hL
                refine ⟨dp, hbind _ _ (fun k => by simp only [spec_l2Term.j0]; rw [if_neg (by decide), ha1.out, if_pos ha0, if_pos ha2]; rfl) ?_, h0, by omega⟩
                unfold rvI; rw [hr, if_pos c7]
                simp only [hk0', hs1, hs2, hbt, if_true, if_false, c1', c4', c7', show (((108 : Nat) : Int) = 108) from rfl, show ¬ (((108 : Nat) : Int) = 115) by omega, hwk.out]
                refine ev_eq hL ?_
                cases hq : many (parse d) n (((bl s).drop (a + 1)).drop k') with
                | none => rfl
                | some q =>
                  simp only [eI, pI]
                  rw [show a + 1 + k' + q - a = 1 + k' + q by omega]
              · have c7' : ((n : Int) > 12) := by omega
                refine ⟨0, hbind _ _ (fun k => by simp only [spec_l2Term.j0]; rw [if_neg (by decide), ha1.out, if_pos ha0, if_pos ha2]; rfl) ?_, by omega, by omega⟩
                unfold rvI; rw [hr, if_neg c7]
                simp only [hk0', hs1, hs2, hbt, if_true, if_false, c1', c4', c7', show (((108 : Nat) : Int) = 108) from rfl, show ¬ (((108 : Nat) : Int) = 115) by omega]
                exact Ev.now _
            · have c6' : ¬ ((c : Int) = 108) := by omega
              rw [if_neg c6]
              by_cases c8 : c = 115
              · subst c8
                rw [if_pos rfl]
                obtain ⟨dp, hL, h0, h1⟩ := ih (a + 1 + k') (by omega) (by omega)
                rw [← List.drop_drop] at hL
                have hk1 : ∀ F : Nat → Int × Int → Option (Int × Int), True := fun _ => trivial
                cases hq : parse d (((bl s).drop (a + 1)).drop k') with
                | none =>
                  rw [hq] at hL
                  refine ⟨0, hbind _ _ (fun k => by simp only [spec_l2Term.j0]; rw [if_neg (by decide), ha1.out, if_pos ha0, if_pos ha2]; rfl) ?_, by omega, by omega⟩
                  unfold rvI; rw [hr]
                  simp only [hk0', hs1, hs2, hbt, if_true, if_false, c1', c4', show (((115 : Nat) : Int) = 115) from rfl, hwk.out, hd1.out]
                  refine Ev.bind hL ?_
                  simp only [pI, if_true]
                  refine ev_eq (Ev.now _) ?_
                  simp [pI]
                | some q =>
                  rw [hq] at hL
                  have hle := parse_le d _ _ hq
                  rw [List.length_drop, List.length_drop, hl] at hle
                  have hq0 : ¬ ((q : Int) = 0) := by omega
                  by_cases c5 : 1 ≤ n ∧ n ≤ 1000000
                  · have c5' : 1 ≤ (n : Int) ∧ (n : Int) ≤ 1000000 := by omega
                    refine ⟨1 + dp, hbind _ _ (fun k => by simp only [spec_l2Term.j0]; rw [if_neg (by decide), ha1.out, if_pos ha0, if_pos ha2]; rfl) ?_, by omega, by omega⟩
                    unfold rvI; rw [hr, if_pos c5]
                    simp only [hk0', hs1, hs2, hbt, if_true, if_false, c1', c4', show (((115 : Nat) : Int) = 115) from rfl, hwk.out, hd1.out]
                    refine Ev.bind hL ?_
                    have e : Aside0 (wrap64 (wrap64 (1 + (k' : Int)) + (q : Int)) = ((1 + k' + q : Nat) : Int)) := ⟨by rw [w64 (x := 1 + (k' : Int)) (by omega) (by omega), w64 (by omega) (by omega)]; omega⟩
                    have e2 : wrap64 (1 + dp) = 1 + dp := w64 (by omega) (by omega)
                    simp only [pI, hq0, if_false, spec_l1In_eq, Option.bind_some, c5', decide_true, and_self, if_true, e.out, e2]
                    exact Ev.now _
                  · have c5' : ¬ (1 ≤ (n : Int) ∧ (n : Int) ≤ 1000000) := by omega
                    refine ⟨0, hbind _ _ (fun k => by simp only [spec_l2Term.j0]; rw [if_neg (by decide), ha1.out, if_pos ha0, if_pos ha2]; rfl) ?_, by omega, by omega⟩
                    unfold rvI; rw [hr, if_neg c5]
                    simp only [hk0', hs1, hs2, hbt, if_true, if_false, c1', c4', show (((115 : Nat) : Int) = 115) from rfl, hwk.out, hd1.out]
                    refine Ev.bind hL ?_
                    simp only [pI, hq0, if_false, spec_l1In_eq, Option.bind_some, c5', decide_false]
                    exact Ev.now _
              · have c8' : ¬ ((c : Int) = 115) := by omega
                rw [if_neg c8]
                refine ⟨0, hbind _ _ (fun k => by simp only [spec_l2Term.j0]; rw [if_neg (by decide), ha1.out, if_pos ha0, if_pos ha2]; rfl) ?_, by omega, by omega⟩
                unfold rvI; rw [hr]
                simp only [hk0', hs1, hs2, hbt, if_true, if_false, c1', c4', c6', c8']
                exact Ev.now _

theorem spec_TermOk_ev (s : ByteArray) (hs : s.size ≤ 140737488355327) : Ev (fun k => spec_TermOk.f k s) (termB (bl s)) := by
  have hl := bl_len s
  unfold spec_TermOk.f
  obtain ⟨dp, ht, _, _⟩ := spec_l2Term_ev s hs 8 0 (by decide) (by omega)
  refine Ev.bind ht ?_
  rw [List.drop_zero]
  unfold termB
  rw [hl]
  cases hp : parse 8 (bl s) with
  | none =>
    refine ev_eq (Ev.now _) ?_
    simp
  | some m =>
    have hle := parse_le 8 _ _ hp
    rw [hl] at hle
    have h1 : ((m : Int) > 0) := by omega
    simp only [pI, h1, if_true]
    by_cases hm : m = s.size
    · subst hm
      simp only [if_true]
      refine ev_eq (Ev.now _) ?_
      exact decide_eq_decide.mpr ⟨fun h => ⟨by omega, by omega, trivial⟩, fun h => by omega⟩
    · have hm' : ¬ ((m : Int) = (s.size : Int)) := by omega
      simp only [hm', if_false]
      refine ev_eq (Ev.now _) ?_
      rw [decide_eq_false]
      intro h
      exact hm (Option.some.inj h.2.2)

theorem spec_l2Ok_ev (s : ByteArray) (hs : s.size ≤ 140737488355327) : Ev (fun k => spec_l2Ok.f k s) (termS s) := by
  unfold spec_l2Ok.f
  refine Ev.bind (spec_TermOk_ev s hs) ?_
  unfold termS okS
  by_cases h : termB (bl s) = true
  · simp only [h, if_true]; exact Ev.now _
  · simp only [h]; exact Ev.now _

theorem spec_Seal_ev (n : Int) (t : ByteArray) (ht : t.size ≤ 1000000000) : Ev (fun k => spec_Seal.f k n t) (sealS n t) := by
  have dead : Ev (fun k => spec_Seal.j0 k n t true) (⟨#[]⟩ : ByteArray) := by
    refine Ev.step (f := fun _ => some (⟨#[]⟩ : ByteArray)) (fun k => ?_) (Ev.now _)
    simp [spec_Seal.j0]
  unfold spec_Seal.f
  simp only [spec_l1In_eq, Option.bind_some]
  have ho : termB (bl t) = okS t := rfl
  unfold sealS
  by_cases h2 : 1 ≤ n ∧ n ≤ 1000000
  · simp only [h2, decide_true, if_true, and_self, and_true]
    refine Ev.bind (spec_TermOk_ev t (by omega)) ?_
    rw [ho]
    by_cases h1 : okS t = true
    · rw [if_pos h1, h1]
      have h7 := @var_size n
      have h1 : (⟨#[115]⟩ : ByteArray).size = 1 := rfl
      have a1 : 1 + (varS n).size ≤ 9223372036854775807 := by omega
      have a2 : ((⟨#[115]⟩ : ByteArray) ++ varS n).size + t.size ≤ 9223372036854775807 := by rw [ByteArray.size_append]; omega
      refine Ev.step (fun k => by simp only [spec_Seal.j0]; rw [if_neg (by decide)]) (Ev.bind (spec_Var_ev n) ?_)
      simp only [a1, a2, if_true]
      exact Ev.bind (spec_l2Ok_ev _ (by rw [ByteArray.size_append, ByteArray.size_append]; omega)) (ev_eq (Ev.now _) rfl)
    · rw [if_neg h1, Bool.eq_false_iff.mpr h1]
      exact dead
  · have h2' : ¬ (okS t = true ∧ 1 ≤ n ∧ n ≤ 1000000) := fun e => h2 e.2
    rw [if_neg h2']
    simp only [h2, decide_false, Bool.false_eq_true, if_false]
    exact dead

theorem spec_List_loop (ps : List ByteArray) (hl : ps.length ≤ 12) (d : Nat) : ∀ (i : Nat) (acc : ByteArray), i + d = ps.length → acc.size ≤ 1000 + 900 * i → (∀ p ∈ ps, p.size ≤ 1099511627776) →
    Ev (fun k => spec_List.l0 k ps acc (i : Int)) (if (ps.drop i).all okS = true then termS (acc ++ cat (ps.drop i)) else ⟨#[]⟩) := by
  induction d with
  | zero =>
    intro i acc hi ha hp
    rw [List.drop_of_length_le (by omega)]
    have e : acc ++ cat [] = acc := ByteArray.append_empty
    simp only [List.all_nil, if_true, e]
    refine Ev.step (f := fun k => (spec_l2Ok.f k acc).bind fun t => some t) (fun k => ?_) (Ev.bind (spec_l2Ok_ev acc (by omega)) (Ev.now _))
    simp only [spec_List.l0]; rw [if_neg (by omega)]
  | succ d ih =>
    intro i acc hi ha hp
    have hlt : i < ps.length := by omega
    have hcons : ps.drop i = ps[i] :: ps.drop (i + 1) := List.drop_eq_getElem_cons hlt
    have hsz := hp _ (List.getElem_mem hlt)
    have hw : Aside0 (wrap64 ((i : Int) + 1) = ((i + 1 : Nat) : Int)) := ⟨by rw [w64 (by omega) (by omega)]; omega⟩
    refine Ev.step (f := fun k => (spec_TermOk.f k ps[i]).bind fun t => (if t = true then (if acc.size + ps[i].size ≤ 9223372036854775807 then spec_List.l0 k ps (acc ++ ps[i]) ((i + 1 : Nat) : Int) else none) else some (⟨#[]⟩ : ByteArray))) (fun k => ?_) (Ev.bind (spec_TermOk_ev ps[i] (by omega)) ?_)
    · simp only [spec_List.l0]; rw [if_pos (by omega), if_pos (by omega), rdOf_get ps i hlt, hw.out]
    · have ho : termB (bl ps[i]) = okS ps[i] := rfl
      rw [ho, hcons, List.all_cons, cat_cons]
      by_cases h : okS ps[i] = true
      · have h9 := (okS_size h).2
        have hr := ih (i + 1) (acc ++ ps[i]) (by omega) (by rw [ByteArray.size_append]; omega) hp
        have hle : acc.size + ps[i].size ≤ 9223372036854775807 := by omega
        rw [ByteArray.append_assoc] at hr
        simp only [h, hle, if_true, Bool.true_and]
        exact hr
      · have h' := Bool.eq_false_iff.mpr h
        rw [h', Bool.false_and]
        simp only [Bool.false_eq_true, if_false]
        exact Ev.now _
theorem spec_List_ev (ps : List ByteArray) (hp : ∀ p ∈ ps, p.size ≤ 1099511627776) : Ev (fun k => spec_List.f k ps) (listS ps) := by
  unfold spec_List.f
  by_cases h12 : ps.length ≤ 12
  · have h12' : ¬ ((ps.length : Int) > 12) := by omega
    simp only [h12', if_false]
    refine Ev.bind (spec_Var_ev _) ?_
    have h7 := @var_size (ps.length : Int)
    have h1 : (⟨#[108]⟩ : ByteArray).size = 1 := rfl
    have a1 : 1 + (varS (ps.length : Int)).size ≤ 9223372036854775807 := by omega
    simp only [a1, if_true]
    refine ev_eq (spec_List_loop ps h12 ps.length 0 ((⟨#[108]⟩ : ByteArray) ++ varS (ps.length : Int)) (by omega) (by rw [ByteArray.size_append]; omega) hp) ?_
    unfold listS rawL
    rw [List.drop_zero]
    by_cases h : ps.all okS = true
    · rw [if_pos h, if_pos ⟨h12, h⟩]
    · rw [if_neg h, if_neg (fun e => h e.2)]
  · have h12' : ((ps.length : Int) > 12) := by omega
    simp only [h12', if_true]
    refine ev_eq (Ev.now _) ?_
    unfold listS; rw [if_neg (fun e => h12 e.1)]

theorem spec_KeyTerm_ev (n : Int) : Ev (fun k => spec_KeyTerm.f k n) (keyS n) := by
  unfold spec_KeyTerm.f keyS
  simp only [spec_l1In_eq, Option.bind_some]
  by_cases h : 1 ≤ n ∧ n ≤ 1000000
  · simp only [h, decide_true, if_true, and_self]
    refine Ev.bind (spec_Var_ev n) ?_
    have h7 := @var_size n
    have hle : 1 + (varS n).size ≤ 9223372036854775807 := by omega
    simp only [hle, if_true]
    exact Ev.now _
  · simp only [h, decide_false, if_false]
    exact Ev.now _

theorem spec_l1Text_ok (b : List Int) (i h : Int) (n : Nat) (hb : b.length ≤ 140737488351232) (hi : 0 ≤ i) (hn : n ≤ 1000) : ∃ (t : ByteArray) (i' h' : Int), Ev (fun k => spec_l1Text.f k b i h (n : Int)) (t, i', h') ∧ t.size ≤ n ∧ 0 ≤ i' := by
  have loop : ∀ (m : Int) (d : Nat) (acc : List Int) (i h : Int), 0 ≤ i → acc.length + d ≤ 1000 → ∃ (t : ByteArray) (i' h' : Int), Ev (fun k => spec_l1Text.l0 k acc m (d : Int) b i h) (t, i', h') ∧ t.size ≤ acc.length + d ∧ 0 ≤ i' := by
    intro m d
    induction d with
    | zero =>
      intro acc i h hi hl
      refine ⟨strOfNums acc, i, h, Ev.step (f := fun _ => some (strOfNums acc, i, h)) (fun k => ?_) (Ev.now _), by rw [strOfNums_size]; omega, hi⟩
      simp only [spec_l1Text.l0]
      rw [if_neg (by omega)]
    | succ d ih =>
      intro acc i h hi hl
      obtain ⟨x, i1, h1, e, _, _, hi1⟩ := spec_l1Byte_ok b i h hb hi
      have e2 : wrap64 (((d + 1 : Nat) : Int) - 1) = (d : Int) := by rw [w64 (x := ((d + 1 : Nat) : Int) - 1) (by omega) (by omega)]; omega
      have c0 : ((d + 1 : Nat) : Int) > 0 := by omega
      have c : acc.length < 140737488355328 := by omega
      have go : ∀ v : Int, (∀ k, spec_l1Text.l0 (k + 1) acc m ((d + 1 : Nat) : Int) b i h = spec_l1Text.l0 k (acc ++ [v]) m (d : Int) b i1 h1) → ∃ (t : ByteArray) (i' h' : Int), Ev (fun k => spec_l1Text.l0 k acc m ((d + 1 : Nat) : Int) b i h) (t, i', h') ∧ t.size ≤ acc.length + (d + 1) ∧ 0 ≤ i' := by
        intro v hv
        obtain ⟨t, i', h', ev, hs, hi'⟩ := ih (acc ++ [v]) i1 h1 hi1 (by rw [List.length_append, List.length_singleton]; omega)
        rw [List.length_append, List.length_singleton] at hs
        exact ⟨t, i', h', Ev.step hv ev, by omega, hi'⟩
      by_cases m1 : m = 1
      · have m2 : ¬ m = 2 := by omega
        refine go ((Int.tmod x 2) % 256) (fun k => ?_)
        simp only [spec_l1Text.l0]
        rw [if_pos c0, e, Option.bind_some, if_pos m1, if_neg m2, if_pos c, e2]
      · by_cases m2 : m = 2
        · refine go ((wrap64 (97 + (Int.tmod x 4))) % 256) (fun k => ?_)
          simp only [spec_l1Text.l0]
          rw [if_pos c0, e, Option.bind_some, if_neg m1, if_pos m2, if_pos c, e2]
        · refine go (x % 256) (fun k => ?_)
          simp only [spec_l1Text.l0]
          rw [if_pos c0, e, Option.bind_some, if_neg m1, if_neg m2, if_pos c, e2]
  obtain ⟨m, i1, h1, e1, _, _, hi1⟩ := spec_l1Below_ok b i h 4 hb hi (by omega)
  obtain ⟨d, i2, h2, e2, hd0, hd1, hi2⟩ := spec_l1Below_ok b i1 h1 ((n : Int) + 1) hb hi1 (by omega)
  obtain ⟨d', rfl⟩ : ∃ d' : Nat, d = (d' : Int) := ⟨d.toNat, by omega⟩
  obtain ⟨t, i', h', ev, hs, hi'⟩ := loop m d' [] i2 h2 hi2 (by simp only [List.length_nil]; omega)
  refine ⟨t, i', h', ?_, by simp only [List.length_nil] at hs; omega, hi'⟩
  unfold spec_l1Text.f
  have w : wrap64 ((n : Int) + 1) = (n : Int) + 1 := w64 (by omega) (by omega)
  simp only [e1, w, e2, Option.bind_some]
  exact ev

theorem spec_Atom_ev (d : ByteArray) (hd : d.size ≤ 1000000000) : Ev (fun k => spec_Atom.f k d) (atomS d) := by
  unfold spec_Atom.f
  by_cases h : (d.size : Int) > 40
  · simp only [h, if_true]
    refine ev_eq (Ev.now _) ?_
    unfold atomS termS
    rw [atom_long (by omega) (by unfold MAXV; omega), if_neg (by decide)]
  · simp only [h, if_false]
    refine Ev.bind (spec_Var_ev _) ?_
    have h7 := @var_size (d.size : Int)
    have h1 : (⟨#[97]⟩ : ByteArray).size = 1 := rfl
    have a1 : 1 + (varS (d.size : Int)).size ≤ 9223372036854775807 := by omega
    have a2 : ((⟨#[97]⟩ : ByteArray) ++ varS (d.size : Int)).size + d.size ≤ 9223372036854775807 := by rw [ByteArray.size_append]; omega
    simp only [a1, a2, if_true]
    refine Ev.bind (spec_l2Ok_ev _ (by rw [ByteArray.size_append, ByteArray.size_append]; omega)) (ev_eq (Ev.now _) rfl)

theorem spec_l2Some_ok (b : List Int) (hb : b.length ≤ 140737488351232) : ∀ (n : Nat), 1 ≤ n → n ≤ 100 → ∀ (i h : Int), 0 ≤ i → ∃ (t : ByteArray) (i' h' : Int), Ev (fun k => spec_l2Some.f k b i h (n : Int)) (t, i', h') ∧ t.size ≤ 900 ∧ 0 ≤ i' := by
  have low : ∀ (n x i h : Int), 0 ≤ i → (x = 0 ∨ x = 1) → ∃ (t : ByteArray) (i' h' : Int), Ev (fun k => spec_l2Some.j1 k n x b i h) (t, i', h') ∧ t.size ≤ 900 ∧ 0 ≤ i' := by
    intro n x i h hi hx
    rcases hx with rfl | rfl
    · obtain ⟨t, i', h', ev, ht, hi'⟩ := spec_l1Text_ok b i h 5 hb hi (by omega)
      refine ⟨atomS t, i', h', Ev.step (f := fun k => (spec_l1Text.f k b i h 5).bind fun bt => (spec_Atom.f k bt.1).bind fun t => some (t, bt.2.1, bt.2.2)) (fun k => ?_) (Ev.bind ev (Ev.bind (spec_Atom_ev t (by omega)) (Ev.now _))), termS_le _, hi'⟩
      simp only [spec_l2Some.j1]
      rw [if_pos (by trivial)]
    · obtain ⟨p, i1, h1, e1, p0, p1, hi1⟩ := spec_l1Below_ok b i h 6 hb hi (by omega)
      refine ⟨keyS (wrap64 (1 + p)), i1, h1, Ev.step (f := fun k => (spec_KeyTerm.f k (wrap64 (1 + p))).bind fun t => some (t, i1, h1)) (fun k => ?_) (Ev.bind (spec_KeyTerm_ev _) (Ev.now _)), keyS_size _, hi1⟩
      simp only [spec_l2Some.j1]
      rw [if_neg (by decide), if_pos (by trivial), e1, Option.bind_some]
  intro n
  induction n with
  | zero => intro h; omega
  | succ n ih =>
    intro _ hn i h hi
    obtain ⟨x, i1, h1, e1, x0, x1, hi1⟩ := spec_l1Below_ok b i h 5 hb hi (by omega)
    by_cases h2 : ((n + 1 : Nat) : Int) < 2
    · by_cases hx : x > 1
      · obtain ⟨y, i2, h2', e2, y0, y1, hi2⟩ := spec_l1Below_ok b i1 h1 2 hb hi1 (by omega)
        obtain ⟨t, i', h', ev, ht, hi'⟩ := low ((n + 1 : Nat) : Int) y i2 h2' hi2 (by omega)
        refine ⟨t, i', h', Ev.step (f := fun k => spec_l2Some.j0 k ((n + 1 : Nat) : Int) x true b i1 h1) (fun k => ?_) (Ev.step (fun k => ?_) ev), ht, hi'⟩
        · simp only [spec_l2Some.f]
          rw [e1, Option.bind_some, if_pos h2, decide_eq_true hx]
        · simp only [spec_l2Some.j0]
          rw [if_pos (by trivial), e2, Option.bind_some]
      · obtain ⟨t, i', h', ev, ht, hi'⟩ := low ((n + 1 : Nat) : Int) x i1 h1 hi1 (by omega)
        refine ⟨t, i', h', Ev.step (f := fun k => spec_l2Some.j0 k ((n + 1 : Nat) : Int) x false b i1 h1) (fun k => ?_) (Ev.step (fun k => ?_) ev), ht, hi'⟩
        · simp only [spec_l2Some.f]
          rw [e1, Option.bind_some, if_pos h2, decide_eq_false hx]
        · simp only [spec_l2Some.j0]
          rw [if_neg (by decide)]
    · have ih' := ih (by omega) (by omega)
      have wn : wrap64 (((n + 1 : Nat) : Int) - 1) = (n : Int) := by rw [w64 (x := ((n + 1 : Nat) : Int) - 1) (by omega) (by omega)]; omega
      have lp : ∀ (d : Nat) (acc : List ByteArray) (i h : Int), 0 ≤ i → acc.length + d ≤ 1000 → (∀ p ∈ acc, p.size ≤ 900) → ∃ (t : ByteArray) (i' h' : Int), Ev (fun k => spec_l2Some.l0 k ((n + 1 : Nat) : Int) acc (d : Int) b i h) (t, i', h') ∧ t.size ≤ 900 ∧ 0 ≤ i' := by
        intro d
        induction d with
        | zero =>
          intro acc i h hi hl ha
          refine ⟨listS acc, i, h, Ev.step (f := fun k => (spec_List.f k acc).bind fun t => some (t, i, h)) (fun k => ?_) (Ev.bind (spec_List_ev acc (fun p hp => by have := ha p hp; omega)) (Ev.now _)), listS_size _, hi⟩
          simp only [spec_l2Some.l0]
          rw [if_neg (by omega)]
        | succ d ihd =>
          intro acc i h hi hl ha
          obtain ⟨t, i1, h1, ev, ht, hi1⟩ := ih' i h hi
          obtain ⟨t', i', h', ev', ht', hi'⟩ := ihd (acc ++ [t]) i1 h1 hi1 (by rw [List.length_append, List.length_singleton]; omega) (fun p hp => by
            rcases List.mem_append.mp hp with hp | hp
            · exact ha p hp
            · rw [List.mem_singleton.mp hp]; exact ht)
          have wd : wrap64 (((d + 1 : Nat) : Int) - 1) = (d : Int) := by rw [w64 (x := ((d + 1 : Nat) : Int) - 1) (by omega) (by omega)]; omega
          have c : acc.length < 8796093022208 := by omega
          refine ⟨t', i', h', Ev.step (f := fun k => (spec_l2Some.f k b i h (n : Int)).bind fun bt => spec_l2Some.l0 k ((n + 1 : Nat) : Int) (acc ++ [bt.1]) (d : Int) b bt.2.1 bt.2.2) (fun k => ?_) (Ev.bind ev ev'), ht', hi'⟩
          simp only [spec_l2Some.l0]
          rw [if_pos (by omega), wn, wd]
          simp only [c, if_true]
      have j1 : ∃ (t : ByteArray) (i' h' : Int), Ev (fun k => spec_l2Some.j1 k ((n + 1 : Nat) : Int) x b i1 h1) (t, i', h') ∧ t.size ≤ 900 ∧ 0 ≤ i' := by
        by_cases hx : x = 0 ∨ x = 1
        · exact low _ x i1 h1 hi1 hx
        · have n0 : ¬ x = 0 := fun e => hx (Or.inl e)
          have n1 : ¬ x = 1 := fun e => hx (Or.inr e)
          by_cases n2 : x = 2
          · obtain ⟨p, i2, h2', e2, p0, p1, hi2⟩ := spec_l1Below_ok b i1 h1 6 hb hi1 (by omega)
            obtain ⟨t, i3, h3, ev, ht, hi3⟩ := ih' i2 h2' hi2
            refine ⟨sealS (wrap64 (1 + p)) t, i3, h3, Ev.step (f := fun k => (spec_l2Some.f k b i2 h2' (n : Int)).bind fun bt => (spec_Seal.f k (wrap64 (1 + p)) bt.1).bind fun t => some (t, bt.2.1, bt.2.2)) (fun k => ?_) (Ev.bind ev (Ev.bind (spec_Seal_ev (wrap64 (1 + p)) t (by omega)) (Ev.now _))), sealS_size _ _, hi3⟩
            simp only [spec_l2Some.j1]
            rw [if_neg n0, if_neg n1, if_pos n2, e2, Option.bind_some, wn]
          · obtain ⟨p, i2, h2', e2, p0, p1, hi2⟩ := spec_l1Below_ok b i1 h1 4 hb hi1 (by omega)
            obtain ⟨d, rfl⟩ : ∃ d : Nat, p = (d : Int) := ⟨p.toNat, by omega⟩
            obtain ⟨t, i3, h3, ev, ht, hi3⟩ := lp d [] i2 h2' hi2 (by simp only [List.length_nil]; omega) (fun p hp => by cases hp)
            refine ⟨t, i3, h3, Ev.step (fun k => ?_) ev, ht, hi3⟩
            simp only [spec_l2Some.j1]
            rw [if_neg n0, if_neg n1, if_neg n2, e2, Option.bind_some]
      obtain ⟨t, i', h', ev, ht, hi'⟩ := j1
      refine ⟨t, i', h', Ev.step (f := fun k => spec_l2Some.j0 k ((n + 1 : Nat) : Int) x false b i1 h1) (fun k => ?_) (Ev.step (fun k => ?_) ev), ht, hi'⟩
      · simp only [spec_l2Some.f]
        rw [e1, Option.bind_some, if_neg h2]
      · simp only [spec_l2Some.j0]
        rw [if_neg (by decide)]

theorem spec_l1Once_ok (b : List Int) (i h n : Int) (hb : b.length ≤ 140737488351232) (hi : 0 ≤ i) (hn : 1 ≤ n) : ∃ (x : Bool) (i' h' : Int), spec_l1Once.f b i h n = some (x, i', h') ∧ 0 ≤ i' := by
  unfold spec_l1Once.f
  obtain ⟨x, i', h', he, _, _, hi'⟩ := spec_l1Below_ok b i h n hb hi hn
  rw [he]
  exact ⟨_, _, _, rfl, hi'⟩

theorem spec_l1Spoil_ok (b : List Int) (i h : Int) (s : ByteArray) (hb : b.length ≤ 140737488351232) (hi : 0 ≤ i) (hs : s.size ≤ 1000000) : ∃ (t : ByteArray) (i' h' : Int), Ev (fun k => spec_l1Spoil.f k b i h s) (t, i', h') ∧ t.size ≤ s.size + 3 ∧ 0 ≤ i' := by
  by_cases h0 : (s.size : Int) = 0
  · obtain ⟨t, i', h', ev, ht, hi'⟩ := spec_l1Text_ok b i h 3 hb hi (by omega)
    refine ⟨t, i', h', ?_, by omega, hi'⟩
    unfold spec_l1Spoil.f
    simp only [h0, if_true]
    exact Ev.bind ev (Ev.now _)
  · obtain ⟨p, i1, h1, e1, p0, p1, hi1⟩ := spec_l1Below_ok b i h (s.size : Int) hb hi (by omega)
    obtain ⟨q, i2, h2, e2, q0, q1, hi2⟩ := spec_l1Below_ok b i1 h1 4 hb hi1 (by omega)
    obtain ⟨n, rfl⟩ : ∃ n : Nat, p = (n : Int) := ⟨p.toNat, by omega⟩
    have w : wrap64 ((n : Int) + 1) = ((n + 1 : Nat) : Int) := by rw [w64 (x := (n : Int) + 1) (by omega) (by omega)]; omega
    have c1 : 0 ≤ (n : Int) := by omega
    have c2 : (n : Int) ≤ (s.size : Int) := by omega
    have c3 : (n : Int) < (s.size : Int) := by omega
    have c4 : 0 ≤ ((n + 1 : Nat) : Int) := by omega
    have c5 : ((n + 1 : Nat) : Int) ≤ (s.size : Int) := by omega
    have z1 : (s.extract 0 n).size = n := by rw [ByteArray.size_extract]; omega
    have z2 : (s.extract (n + 1) s.size).size = s.size - (n + 1) := by rw [ByteArray.size_extract]; omega
    have z3 : (s.extract n s.size).size = s.size - n := by rw [ByteArray.size_extract]; omega
    unfold spec_l1Spoil.f
    simp only [h0, if_false, e1, e2, Option.bind_some, w, c1, c2, c3, c4, c5, if_true, Int.toNat_natCast]
    by_cases k0 : q = 0
    · have g : (s.extract 0 n).size + (s.extract (n + 1) s.size).size ≤ 9223372036854775807 := by omega
      simp only [k0, if_true, g]
      exact ⟨_, _, _, Ev.now _, by rw [ByteArray.size_append]; omega, hi2⟩
    · simp only [k0, if_false]
      by_cases k1 : q = 1
      · obtain ⟨x, i3, h3, e3, _, _, hi3⟩ := spec_l1Byte_ok b i2 h2 hb hi2
        have zz : (strOfNums [x % 256]).size = 1 := by rw [strOfNums_size]; rfl
        have g1 : (s.extract 0 n).size + (strOfNums [x % 256]).size ≤ 9223372036854775807 := by omega
        have g2 : ((s.extract 0 n) ++ (strOfNums [x % 256])).size + (s.extract n s.size).size ≤ 9223372036854775807 := by rw [ByteArray.size_append]; omega
        simp only [k1, if_true, e3, Option.bind_some, g1, g2]
        exact ⟨_, _, _, Ev.now _, by rw [ByteArray.size_append, ByteArray.size_append]; omega, hi3⟩
      · simp only [k1, if_false]
        by_cases k2 : q = 2
        · simp only [k2, if_true]
          exact ⟨_, _, _, Ev.now _, by omega, hi2⟩
        · obtain ⟨x, i3, h3, e3, _, _, hi3⟩ := spec_l1Below_ok b i2 h2 255 hb hi2 (by omega)
          simp only [k2, if_false, e3, Option.bind_some]
          generalize hv : (Go.bits .xor .i64 (wrap64 (bt s (n : Int))) (wrap64 (1 + x))) % 256 = v
          have zz : (strOfNums [v]).size = 1 := by rw [strOfNums_size]; rfl
          have g1 : (s.extract 0 n).size + (strOfNums [v]).size ≤ 9223372036854775807 := by omega
          have g2 : ((s.extract 0 n) ++ (strOfNums [v])).size + (s.extract (n + 1) s.size).size ≤ 9223372036854775807 := by rw [ByteArray.size_append]; omega
          simp only [if_true, g1, g2]
          exact ⟨_, _, _, Ev.now _, by rw [ByteArray.size_append, ByteArray.size_append]; omega, hi3⟩

theorem spec_l2Any_ok (b : List Int) (i h : Int) (hb : b.length ≤ 140737488351232) (hi : 0 ≤ i) : ∃ (t : ByteArray) (i' h' : Int), Ev (fun k => spec_l2Any.f k b i h) (t, i', h') ∧ t.size ≤ 1000 ∧ 0 ≤ i' := by
  have lp : ∀ (d j : Nat) (s : ByteArray) (i h : Int), j + d = 9 → s.size ≤ 900 + 2 * j → 0 ≤ i → ∃ (t : ByteArray) (i' h' : Int), Ev (fun k => spec_l2Any.l0 k s (j : Int) b i h) (t, i', h') ∧ t.size ≤ 1000 ∧ 0 ≤ i' := by
    intro d
    induction d with
    | zero =>
      intro j s i h hj hs hi
      refine ⟨s, i, h, Ev.step (f := fun _ => some (s, i, h)) (fun k => ?_) (Ev.now _), by omega, hi⟩
      simp only [spec_l2Any.l0]
      rw [if_neg (by omega)]
    | succ d ih =>
      intro j s i h hj hs hi
      have z : (⟨#[115, 1]⟩ : ByteArray).size = 2 := rfl
      obtain ⟨t, i', h', ev, ht, hi'⟩ := ih (j + 1) ((⟨#[115, 1]⟩ : ByteArray) ++ s) i h (by omega) (by rw [ByteArray.size_append, z]; omega) hi
      have e2 : wrap64 ((j : Int) + 1) = ((j + 1 : Nat) : Int) := by rw [w64 (x := (j : Int) + 1) (by omega) (by omega)]; omega
      refine ⟨t, i', h', Ev.step (fun k => ?_) ev, ht, hi'⟩
      simp only [spec_l2Any.l0]
      rw [if_pos (by omega), if_pos (by omega), e2]
  obtain ⟨x, i1, h1, e1, x0, x1, hi1⟩ := spec_l1Below_ok b i h 5 hb hi (by omega)
  obtain ⟨n, rfl⟩ : ∃ n : Nat, x = (n : Int) := ⟨x.toNat, by omega⟩
  have w : wrap64 (1 + (n : Int)) = ((n + 1 : Nat) : Int) := by rw [w64 (x := 1 + (n : Int)) (by omega) (by omega)]; omega
  obtain ⟨t, i2, h2, ev2, ht, hi2⟩ := spec_l2Some_ok b hb (n + 1) (by omega) (by omega) i1 h1 hi1
  obtain ⟨o, i3, h3, e3, hi3⟩ := spec_l1Once_ok b i2 h2 4 hb hi2 (by omega)
  cases o with
  | true =>
    obtain ⟨t', i4, h4, ev4, ht', hi4⟩ := spec_l1Spoil_ok b i3 h3 t hb hi3 (by omega)
    refine ⟨t', i4, h4, ?_, by omega, hi4⟩
    unfold spec_l2Any.f
    simp only [e1, Option.bind_some, w]
    refine Ev.bind ev2 ?_
    simp only [e3, Option.bind_some, if_true]
    exact Ev.bind ev4 (Ev.now _)
  | false =>
    obtain ⟨o', i4, h4, e4, hi4⟩ := spec_l1Once_ok b i3 h3 30 hb hi3 (by omega)
    cases o' with
    | true =>
      obtain ⟨t', i5, h5, ev5, ht', hi5⟩ := lp 9 0 t i4 h4 (by omega) (by omega) hi4
      refine ⟨t', i5, h5, ?_, ht', hi5⟩
      unfold spec_l2Any.f
      simp only [e1, Option.bind_some, w]
      refine Ev.bind ev2 ?_
      simp only [e3, e4, Option.bind_some, if_true, Bool.false_eq_true, if_false]
      exact ev5
    | false =>
      refine ⟨t, i4, h4, ?_, by omega, hi4⟩
      unfold spec_l2Any.f
      simp only [e1, Option.bind_some, w]
      refine Ev.bind ev2 ?_
      simp only [e3, e4, Option.bind_some, Bool.false_eq_true, if_false]
      exact Ev.now _

theorem spec_DrawSeal_ok (l : List Int) (hl : l.length ≤ 140737488351232) : ∃ (n : Int) (t : ByteArray), Ev (fun k => spec_DrawSeal.f k l) (n, t) ∧ t.size ≤ 1000 := by
  obtain ⟨h, ev⟩ := spec_l1New_ok l hl
  obtain ⟨n, i1, h1, e1, _, hi1⟩ := spec_l1PickInt_ok l 0 h [1, 2, 3, 0, 1000000, 1000001] hl (by omega) (by decide)
  obtain ⟨t, i2, h2, ev2, ht, _⟩ := spec_l2Any_ok l i1 h1 hl hi1
  refine ⟨n, t, Ev.bind ev ?_, ht⟩
  simp only [e1, Option.bind_some]
  exact Ev.bind ev2 (Ev.now _)

theorem impl_within_eq (a lo hi : Int) : impl_within.f a lo hi = some (decide (lo ≤ a ∧ a ≤ hi)) := by
  unfold impl_within.f
  by_cases h : a ≥ lo
  · rw [if_pos h]; congr 1; simp [show lo ≤ a from h]
  · rw [if_neg h]; congr 1; simp [show ¬ lo ≤ a from h]

theorem impl_isKey_eq (a : Int) : impl_isKey.f a = some (decide (1 ≤ a ∧ a ≤ 1000000)) := by
  unfold impl_isKey.f; rw [impl_within_eq, Option.bind_some]

theorem impl_Var_loop (j : Nat) : ∀ (n : Nat) (acc : List Int), n < 128 ^ (j + 1) → n ≤ MAXV → acc.length + j < 1000 →
    Ev (fun k => impl_Var.l0 k (n : Int) acc) (strOfNums (acc ++ (var n).map fun (m : Nat) => (m : Int))) := by
  induction j with
  | zero =>
    intro n acc hn hm ha
    have hn' : n < 128 := by simpa using hn
    refine Ev.step (f := fun _ => some (strOfNums (acc ++ (var n).map fun (m : Nat) => (m : Int)))) (fun k => ?_) (Ev.now _)
    simp only [impl_Var.l0]
    rw [if_neg (by omega), if_pos (by omega), var_small hn', show (n : Int) % 256 = (n : Int) by omega]; rfl
  | succ j ih =>
    intro n acc hn hm ha
    by_cases h : n < 128
    · refine Ev.step (f := fun _ => some (strOfNums (acc ++ (var n).map fun (m : Nat) => (m : Int)))) (fun k => ?_) (Ev.now _)
      simp only [impl_Var.l0]
      rw [if_neg (by omega), if_pos (by omega), var_small h, show (n : Int) % 256 = (n : Int) by omega]; rfl
    · have hd : n / 128 < 128 ^ (j + 1) := Nat.div_lt_of_lt_mul (by rw [Nat.pow_succ] at hn; omega)
      have hr := ih (n / 128) (acc ++ [((n % 128 + 128 : Nat) : Int)]) hd (by omega) (by simp; omega)
      refine Ev.step (f := fun k => impl_Var.l0 k ((n / 128 : Nat) : Int) (acc ++ [((n % 128 + 128 : Nat) : Int)])) (fun k => ?_) (ev_eq hr ?_)
      · simp only [impl_Var.l0]
        rw [if_pos (by omega), if_pos (by omega), or_and n (by unfold MAXV at hm; omega)]
        congr 1
      · rw [var_big h, List.map_cons, List.append_assoc]; rfl
theorem impl_Var_ev (n : Int) : Ev (fun k => impl_Var.f k n) (varS n) := by
  unfold impl_Var.f
  simp only [impl_within_eq, Option.bind_some]
  by_cases h : 0 ≤ n ∧ n ≤ 562949953421311
  · simp only [h, decide_true, if_true]
    obtain ⟨m, rfl⟩ := Int.eq_ofNat_of_zero_le h.1
    have hm : m ≤ MAXV := by unfold MAXV; omega
    refine ev_eq (impl_Var_loop 6 m [] (by unfold MAXV at hm; omega) hm (by simp)) ?_
    rw [varS_in hm]; rfl
  · simp only [h, decide_false]
    rw [varS_out h]
    exact Ev.now _

theorem impl_ReadVar_loop (s : ByteArray) (hs : s.size ≤ 140737488355327) (d : Nat) : ∀ (i n : Nat), i + d = 7 → i ≤ (bl s).length → (∀ j, j < i → 128 ≤ (bl s).getD j 0) → n = val ((bl s).take i) →
    Ev (fun k => impl_ReadVar.l0 k s (n : Int) (i : Int)) (rvI (bl s)) := by
  have hl := bl_len s
  induction d with
  | zero =>
    intro i n hi hle hc hn
    have e : rvI (bl s) = (0, 0) := rvI_none (fun n k hR => R_far (bl s) i hc (Or.inr (by omega)) hR)
    rw [e]
    refine Ev.step (f := fun k => impl_ReadVar.j1 k s (n : Int) (i : Int) false) (fun k => ?_) (Ev.step (f := fun _ => some (0, 0)) (fun k => ?_) (Ev.now _))
    · simp only [impl_ReadVar.l0]
      by_cases h : (i : Int) < (s.size : Int)
      · rw [if_pos h, decide_eq_false (by omega)]
      · rw [if_neg h]
    · simp [impl_ReadVar.j1]
  | succ d ih =>
    intro i n hi hle hc hn
    by_cases h : i < (bl s).length
    · have is_ : (i : Int) < (s.size : Int) := by omega
      have i7 : (i : Int) < 7 := by omega
      have i0 : 0 ≤ (i : Int) := by omega
      have i1s : ((i + 1 : Nat) : Int) ≤ (s.size : Int) := by omega
      have i10 : 0 ≤ ((i + 1 : Nat) : Int) := by omega
      have i1S : i + 1 ≤ s.size := by omega
      have hw1 : Aside0 (wrap64 ((i : Int) + 1) = ((i + 1 : Nat) : Int)) := ⟨by rw [w64 (by omega) (by omega)]; omega⟩
      have hw7 : Aside0 (0 ≤ wrap64 (7 * (i : Int))) := ⟨by rw [w64 (by omega) (by omega)]; omega⟩
      have hj : ∀ k, impl_ReadVar.l0 (k + 1) s (n : Int) (i : Int) = impl_ReadVar.j1 k s (n : Int) (i : Int) true := by
        intro k
        simp only [impl_ReadVar.l0]
        rw [if_pos is_, decide_eq_true i7]
      have hb : bt s (i : Int) = (((bl s)[i] : Nat) : Int) := bt_get s i h
      have hb256 : (bl s)[i] < 256 := bl_lt s _ (List.getElem_mem h)
      have hnlt : n < 128 ^ i := by
        have := val_lt ((bl s).take i)
        rw [List.length_take, Nat.min_eq_left hle] at this
        omega
      have ho := or_shl n i (bl s)[i] hnlt (by omega) hb256
      have hv := val_take (bl s) i h
      have hnn : n + 128 ^ i * ((bl s)[i] % 128) = val ((bl s).take (i + 1)) := by rw [hv, hn]
      have hsum := val_lt ((bl s).take (i + 1))
      rw [List.length_take, Nat.min_eq_left (by omega)] at hsum
      have hp : 128 ^ (i + 1) ≤ 128 ^ 7 := Nat.pow_le_pow_right (by decide) (by omega)
      have hmax : n + 128 ^ i * ((bl s)[i] % 128) ≤ MAXV := by
        have h7 : (128 : Nat) ^ 7 = 562949953421312 := by decide
        rw [hnn]; unfold MAXV; omega
      have hg : (bl s).getD i 0 = (bl s)[i] := by rw [List.getD_eq_getElem?_getD, List.getElem?_eq_getElem h]; rfl
      by_cases hlt : (bl s)[i] < 128
      · have hvar := impl_Var_ev ((n + 128 ^ i * ((bl s)[i] % 128) : Nat) : Int)
        refine Ev.step hj (Ev.step (f := fun k => (impl_Var.f k ((n + 128 ^ i * ((bl s)[i] % 128) : Nat) : Int)).bind fun t => (if t.toList = (s.extract 0 (i + 1)).toList then some (((n + 128 ^ i * ((bl s)[i] % 128) : Nat) : Int), ((i + 1 : Nat) : Int)) else some (0, 0))) (fun k => ?_) (Ev.bind hvar ?_))
        · simp only [impl_ReadVar.j1, if_true]
          rw [if_pos i0, if_pos is_, if_pos hw7.out, hb, if_pos (show (((bl s)[i] : Nat) : Int) < 128 from Int.ofNat_lt.mpr hlt), ho, hw1.out]
          congr 1
          funext t
          rw [if_pos i10, if_pos i1s]
          rfl
        · by_cases hR : R (bl s) (n + 128 ^ i * ((bl s)[i] % 128)) (i + 1)
          · rw [rvI_some hR]
            have := (R_iff s _ (i + 1) hmax i1S).2 hR
            simp only [this, if_true]
            exact Ev.now _
          · have hne : ¬ varS ((n + 128 ^ i * ((bl s)[i] % 128) : Nat) : Int) = s.extract 0 (i + 1) := fun e => hR ((R_iff s _ (i + 1) hmax i1S).1 e)
            have hnone : rvI (bl s) = (0, 0) := rvI_none (fun n' k' hR' => by
              have hk := R_upto (bl s) i h (by omega) hc hlt hR'
              subst hk
              have hv' := R_val hR'
              rw [← hnn] at hv'
              rw [← hv'] at hR'
              exact hR hR')
            rw [hnone]
            simp only [toList_iff, hne, if_false]
            exact Ev.now _
      · have hr := ih (i + 1) (n + 128 ^ i * ((bl s)[i] % 128)) (by omega) (by omega) (fun j hj => by
          by_cases he : j < i
          · exact hc j he
          · have : j = i := by omega
            rw [this, hg]; omega) hnn
        refine Ev.step hj (Ev.step (f := fun k => impl_ReadVar.l0 k s ((n + 128 ^ i * ((bl s)[i] % 128) : Nat) : Int) ((i + 1 : Nat) : Int)) (fun k => ?_) hr)
        simp only [impl_ReadVar.j1, if_true]
        rw [if_pos i0, if_pos is_, if_pos hw7.out, hb, if_neg (show ¬ (((bl s)[i] : Nat) : Int) < 128 from fun e => hlt (Int.ofNat_lt.mp e)), ho, hw1.out]
    · have e : rvI (bl s) = (0, 0) := rvI_none (fun n k hR => R_far (bl s) i hc (Or.inl (by omega)) hR)
      rw [e]
      refine Ev.step (f := fun k => impl_ReadVar.j1 k s (n : Int) (i : Int) false) (fun k => ?_) (Ev.step (f := fun _ => some (0, 0)) (fun k => ?_) (Ev.now _))
      · simp only [impl_ReadVar.l0]
        rw [if_neg (by omega)]
      · simp [impl_ReadVar.j1]
theorem impl_ReadVar_ev (s : ByteArray) (hs : s.size ≤ 140737488355327) : Ev (fun k => impl_ReadVar.f k s) (rvI (bl s)) := by
  unfold impl_ReadVar.f
  exact impl_ReadVar_loop s hs 7 0 0 (by omega) (by omega) (by intro j hj; omega) (by simp [val])

theorem impl_varAt_ev (s : ByteArray) (hs : s.size ≤ 140737488355327) (a : Nat) (ha : a ≤ s.size) : Ev (fun k => impl_varAt.f k s (a : Int)) (vA (bl s) a) := by
  unfold impl_varAt.f
  have h1 : 0 ≤ (a : Int) := by omega
  have h2 : (a : Int) ≤ (s.size : Int) := by omega
  simp only [h1, h2, if_true, Int.toNat_natCast]
  have hsz : (s.extract a s.size).size ≤ 140737488355327 := by rw [ByteArray.size_extract]; omega
  refine Ev.bind (impl_ReadVar_ev _ hsz) ?_
  rw [bl_from]
  unfold vA rvI
  cases hr : rv ((bl s).drop a) with
  | none => simp only [if_true]; exact Ev.now _
  | some p =>
    obtain ⟨n, k⟩ := p
    have hp := R_pos (rv_R hr)
    have hl := R_le (rv_R hr)
    simp only at hp hl
    rw [List.length_drop, bl_len] at hl
    have hne : ¬ ((k : Int) = 0) := by omega
    simp only [hne, if_false]
    rw [w64 (by omega) (by omega)]
    exact Ev.now _

theorem impl_termAt_list (s : ByteArray) (hs : s.size ≤ 140737488355327) (d : Nat) (hd : d ≤ 100) (n : Nat) (hn : n ≤ 12)
    (hf : ∀ a, a ≤ s.size → Ev (fun k => impl_termAt.f k s (a : Int) (d : Int)) (tA a (parse d ((bl s).drop a)))) (r : Nat) : ∀ (i a : Nat), i + r = n → a ≤ s.size →
    Ev (fun k => impl_termAt.l0 k s ((d + 1 : Nat) : Int) (n : Int) (a : Int) (i : Int)) (tA a (many (parse d) r ((bl s).drop a))) := by
  have hw : Aside0 (wrap64 (((d + 1 : Nat) : Int) - 1) = (d : Int)) := ⟨by rw [w64 (by omega) (by omega)]; omega⟩
  have bad : ∀ i : Int, Ev (fun k => impl_termAt.l0 k s ((d + 1 : Nat) : Int) (n : Int) (-1) i) (-1) := by
    intro i
    refine Ev.step (f := fun _ => some (-1)) (fun k => ?_) (Ev.now _)
    simp only [impl_termAt.l0]
    by_cases h : i < (n : Int)
    · rw [if_pos h, if_neg (by decide)]
    · rw [if_neg h]
  induction r with
  | zero =>
    intro i a hi ha
    refine Ev.step (f := fun _ => some ((a : Int))) (fun k => ?_) (ev_eq (Ev.now _) ?_)
    · simp only [impl_termAt.l0]; rw [if_neg (by omega)]
    · simp [many, tA]
  | succ r ih =>
    intro i a hi ha
    have hi1 : Aside0 (wrap64 ((i : Int) + 1) = ((i + 1 : Nat) : Int)) := ⟨by rw [w64 (by omega) (by omega)]; omega⟩
    refine Ev.step (f := fun k => (impl_termAt.f k s (a : Int) (d : Int)).bind fun t => impl_termAt.l0 k s ((d + 1 : Nat) : Int) (n : Int) t ((i + 1 : Nat) : Int)) (fun k => ?_) (Ev.bind (hf a ha) ?_)
    · simp only [impl_termAt.l0]; rw [if_pos (by omega), if_pos (by omega), hw.out, hi1.out]
    · rw [many_succ]
      cases hp : parse d ((bl s).drop a) with
      | none => exact bad _
      | some m =>
        have hle := (parse_le d _ _ hp).2
        rw [List.length_drop, bl_len] at hle
        have := ih (i + 1) (a + m) (by omega) (by omega)
        rw [← List.drop_drop, tA_add] at this
        exact this
theorem impl_termAt_ev (s : ByteArray) (hs : s.size ≤ 140737488355327) (d : Nat) : ∀ (a : Nat), d ≤ 100 → a ≤ s.size → Ev (fun k => impl_termAt.f k s (a : Int) (d : Int)) (tA a (parse d ((bl s).drop a))) := by
  have hl := bl_len s
  have dead : ∀ (a d : Int), Ev (fun k => impl_termAt.j0 k s a d true) (-1) := by
    intro a d
    refine Ev.step (f := fun _ => some (-1)) (fun k => ?_) (Ev.now _)
    simp [impl_termAt.j0]
  induction d with
  | zero =>
    intro a hd ha
    by_cases h : (a : Int) ≥ (s.size : Int)
    · refine Ev.step (fun k => ?_) (ev_eq (dead (a : Int) ((0 : Nat) : Int)) (by simp [parse, tA]))
      simp only [impl_termAt.f]; rw [if_pos h]
    · refine Ev.step (fun k => ?_) (ev_eq (dead (a : Int) ((0 : Nat) : Int)) (by simp [parse, tA]))
      simp only [impl_termAt.f]; rw [if_neg h, decide_eq_true (by decide)]
  | succ d ih =>
    intro a hd ha
    by_cases h : (a : Int) ≥ (s.size : Int)
    · refine Ev.step (fun k => ?_) (ev_eq (dead (a : Int) ((d + 1 : Nat) : Int)) ?_)
      · simp only [impl_termAt.f]; rw [if_pos h]
      · rw [List.drop_of_length_le (by omega), parse_nil]; rfl
    · have hlt : a < (bl s).length := by omega
      have hs1 : 0 ≤ (a : Int) := by omega
      have hs2 : (a : Int) < (s.size : Int) := by omega
      have ha1 : Aside0 (wrap64 ((a : Int) + 1) = ((a + 1 : Nat) : Int)) := ⟨by rw [w64 (by omega) (by omega)]; omega⟩
      have hd1 : Aside0 (wrap64 (((d + 1 : Nat) : Int) - 1) = (d : Int)) := ⟨by rw [w64 (by omega) (by omega)]; omega⟩
      have hv := impl_varAt_ev s hs (a + 1) (by omega)
      have hcons : (bl s).drop a = (bl s)[a] :: (bl s).drop (a + 1) := List.drop_eq_getElem_cons hlt
      have hstep : ∀ k, impl_termAt.f (k + 1) s (a : Int) ((d + 1 : Nat) : Int) = impl_termAt.j0 k s (a : Int) ((d + 1 : Nat) : Int) false := by
        intro k; simp only [impl_termAt.f]; rw [if_neg h, decide_eq_false (by omega)]
      refine Ev.step hstep ?_
      refine Ev.step (fun k => by simp only [impl_termAt.j0]; rw [if_neg (by decide), ha1.out]) (Ev.bind hv ?_)
      simp only [hs1, hs2, if_true, bt_get s a hlt, impl_within_eq, impl_isKey_eq, Option.bind_some]
      rw [hcons]
      generalize (bl s)[a] = c
      rw [parse]
      unfold vA
      cases hr : rv ((bl s).drop (a + 1)) with
      | none =>
        refine ev_of (fun k => ?_)
        simp [tA]
      | some p =>
        obtain ⟨n, k'⟩ := p
        have hR := rv_R hr
        have hk := R_le hR
        have hn9 := hR.1
        unfold MAXV at hn9
        simp only at hk hn9
        rw [List.length_drop, hl] at hk
        simp only []
        by_cases c1 : c = 97
        · subst c1
          simp only [if_true, List.length_drop, hl]
          by_cases c2 : n ≤ 40
          · have c2' : 0 ≤ (n : Int) ∧ (n : Int) ≤ 40 := by omega
            simp only [c2', decide_true, if_true, c2, true_and]
            rw [w64 (by omega) (by omega)]
            by_cases c3 : n ≤ s.size - (a + 1) - k'
            · rw [if_pos c3]
              have c3' : ¬ ((n : Int) > (s.size : Int) - ((a + 1 + k' : Nat) : Int)) := by omega
              simp only [c3', if_false]
              rw [w64 (by omega) (by omega)]
              refine ev_eq (Ev.now _) ?_
              simp [tA]; omega
            · rw [if_neg c3]
              have c3' : ((n : Int) > (s.size : Int) - ((a + 1 + k' : Nat) : Int)) := by omega
              simp only [c3', if_true]
              exact Ev.now _
          · have c2' : ¬ (0 ≤ (n : Int) ∧ (n : Int) ≤ 40) := by omega
            simp only [c2', decide_false, c2, false_and, if_false]
            exact Ev.now _
        · have c1' : ¬ ((c : Int) = 97) := by omega
          simp only [c1', c1, if_false]
          by_cases c4 : c = 107
          · subst c4
            simp only [if_true]
            by_cases c5 : 1 ≤ n ∧ n ≤ 1000000
            · have c5' : 1 ≤ (n : Int) ∧ (n : Int) ≤ 1000000 := by omega
              simp only [c5', c5, decide_true, if_true, and_self]
              refine ev_eq (Ev.now _) ?_
              simp [tA]; omega
            · have c5' : ¬ (1 ≤ (n : Int) ∧ (n : Int) ≤ 1000000) := by omega
              simp only [c5', c5, decide_false, if_false]
              exact Ev.now _
          · have c4' : ¬ ((c : Int) = 107) := by omega
            simp only [c4', c4, if_false]
            by_cases c6 : c = 108
            · subst c6
              simp only [if_true]
              by_cases c7 : n ≤ 12
              · have c7' : 0 ≤ (n : Int) ∧ (n : Int) ≤ 12 := by omega
                simp only [c7', decide_true, if_true, c7]
                have hL := impl_termAt_list s hs d (by omega) n c7 (fun a ha => ih a (by omega) ha) n 0 (a + 1 + k') (by omega) (by omega)
                rw [← List.drop_drop] at hL
                refine ev_eq hL ?_
                cases hq : many (parse d) n (((bl s).drop (a + 1)).drop k') with
                | none => rfl
                | some q => simp [tA]; omega
              · have c7' : ¬ (0 ≤ (n : Int) ∧ (n : Int) ≤ 12) := by omega
                simp only [c7', c7, decide_false, if_false]
                exact Ev.now _
            · have c6' : ¬ ((c : Int) = 108) := by omega
              simp only [c6', c6, if_false]
              by_cases c8 : c = 115
              · subst c8
                simp only [if_true]
                by_cases c5 : 1 ≤ n ∧ n ≤ 1000000
                · have c5' : 1 ≤ (n : Int) ∧ (n : Int) ≤ 1000000 := by omega
                  simp only [c5', c5, decide_true, if_true, and_self, hd1.out]
                  refine Ev.bind (ih (a + 1 + k') (by omega) (by omega)) ?_
                  rw [← List.drop_drop]
                  refine ev_eq (Ev.now _) ?_
                  cases hq : parse d (((bl s).drop (a + 1)).drop k') with
                  | none => rfl
                  | some q => simp [tA]; omega
                · have c5' : ¬ (1 ≤ (n : Int) ∧ (n : Int) ≤ 1000000) := by omega
                  simp only [c5', c5, decide_false, if_false]
                  exact Ev.now _
              · have c8' : ¬ ((c : Int) = 115) := by omega
                simp only [c8', c8, if_false]
                exact Ev.now _

theorem impl_TermOk_ev (s : ByteArray) (hs : s.size ≤ 140737488355327) : Ev (fun k => impl_TermOk.f k s) (termB (bl s)) := by
  have hl := bl_len s
  unfold impl_TermOk.f
  simp only [impl_within_eq, Option.bind_some]
  unfold termB
  by_cases h : 1 ≤ (s.size : Int) ∧ (s.size : Int) ≤ 900
  · simp only [h, decide_true, if_true, and_self]
    have ht := impl_termAt_ev s hs 8 0 (by decide) (by omega)
    refine Ev.bind ht (ev_eq (Ev.now _) ?_)
    rw [List.drop_zero, hl]
    have h1 : 1 ≤ s.size := by omega
    have h2 : s.size ≤ 900 := by omega
    cases hp : parse 8 (bl s) with
    | none => simp [tA]
    | some m => simp [tA, h1, h2]; rw [Bool.eq_iff_iff]; simp; omega
  · simp only [h, decide_false]
    refine ev_eq (Ev.now _) ?_
    rw [decide_eq_false]; rw [hl]; omega

theorem impl_term_ev (s : ByteArray) (hs : s.size ≤ 140737488355327) : Ev (fun k => impl_term.f k s) (termS s) := by
  unfold impl_term.f
  refine Ev.bind (impl_TermOk_ev s hs) ?_
  unfold termS okS
  by_cases h : termB (bl s) = true
  · simp only [h, if_true]; exact Ev.now _
  · simp only [h]; exact Ev.now _

theorem impl_Seal_ev (n : Int) (t : ByteArray) (ht : t.size ≤ 1000000000) : Ev (fun k => impl_Seal.f k n t) (sealS n t) := by
  have dead : Ev (fun k => impl_Seal.j0 k n t true) (⟨#[]⟩ : ByteArray) := by
    refine Ev.step (f := fun _ => some (⟨#[]⟩ : ByteArray)) (fun k => ?_) (Ev.now _)
    simp [impl_Seal.j0]
  unfold impl_Seal.f
  refine Ev.bind (impl_TermOk_ev t (by omega)) ?_
  have ho : termB (bl t) = okS t := rfl
  rw [ho]
  unfold sealS
  by_cases h1 : okS t = true
  · simp only [h1, if_true, impl_isKey_eq, Option.bind_some, true_and]
    by_cases h2 : 1 ≤ n ∧ n ≤ 1000000
    · rw [if_pos h2, decide_eq_true h2]
      have h7 := @var_size n
      have h1 : (⟨#[115]⟩ : ByteArray).size = 1 := rfl
      have a1 : 1 + (varS n).size ≤ 9223372036854775807 := by omega
      have a2 : ((⟨#[115]⟩ : ByteArray) ++ varS n).size + t.size ≤ 9223372036854775807 := by rw [ByteArray.size_append]; omega
      refine Ev.step (fun k => by simp only [impl_Seal.j0]; rw [if_neg (by decide)]) (Ev.bind (impl_Var_ev n) ?_)
      simp only [a1, a2, if_true]
      exact Ev.bind (impl_term_ev _ (by rw [ByteArray.size_append, ByteArray.size_append]; omega)) (ev_eq (Ev.now _) rfl)
    · rw [if_neg h2, decide_eq_false h2]
      exact dead
  · simp only [h1, false_and, if_false]
    exact dead

theorem impl_isOf_ev (s : ByteArray) (hs : s.size ≤ 140737488355327) (c : Nat) : Ev (fun k => impl_isOf.f k s (c : Int)) (isK s c) := by
  unfold impl_isOf.f
  refine Ev.bind (impl_TermOk_ev s hs) ?_
  have ho : termB (bl s) = okS s := rfl
  rw [ho]
  unfold isK
  by_cases h : okS s = true
  · have hz := okS_size h
    have h0 : 0 < (s.size : Int) := by omega
    have hl : 0 < (bl s).length := by rw [bl_len]; omega
    simp only [h, if_true, h0, Bool.true_and]
    refine ev_eq (Ev.now _) ?_
    have hb : bt s 0 = (((bl s)[0] : Nat) : Int) := bt_get s 0 hl
    rw [hb]
    have hh : (bl s).headD 0 = (bl s)[0] := headD_get _ hl
    rw [hh, Bool.eq_iff_iff]
    simp
    omega
  · simp only [h]
    exact Ev.now _

noncomputable def sdS (s : ByteArray) : Int × ByteArray × Bool := if isK s 115 = true then ((nOf s : Int), s.extract (1 + kOf s) s.size, true) else (0, ⟨#[]⟩, false)
theorem impl_sealed_ev (s : ByteArray) (hs : s.size ≤ 140737488355327) : Ev (fun k => impl_sealed.f k s) (sdS s) := by
  unfold impl_sealed.f
  refine Ev.bind (impl_isOf_ev s hs 115) ?_
  unfold sdS
  by_cases h : isK s 115 = true
  · have ho := isK_ok h
    have hr := okS_rv ho
    simp only [h, if_true]
    refine Ev.bind (impl_varAt_ev s hs 1 (okS_size ho).1) ?_
    rw [okS_vA ho]
    have a1 : 0 ≤ ((1 + kOf s : Nat) : Int) := by omega
    have a2 : ((1 + kOf s : Nat) : Int) ≤ (s.size : Int) := by omega
    simp only [a1, a2, if_true, Int.toNat_natCast]
    exact Ev.now _
  · simp only [h]
    exact Ev.now _

theorem impl_Open_ev (s : ByteArray) (hs : s.size ≤ 140737488355327) (n : Int) : Ev (fun k => impl_Open.f k s n) (opS s n) := by
  unfold impl_Open.f
  refine Ev.bind (impl_sealed_ev s hs) ?_
  unfold sdS opS
  by_cases h : isK s 115 = true
  · simp only [h, if_true, true_and]
    by_cases hn : (nOf s : Int) = n
    · simp only [hn, if_true]; exact Ev.now _
    · simp only [hn, if_false]; exact Ev.now _
  · simp only [h]
    exact Ev.now _

theorem spec_DrawList_ok (l : List Int) (hl : l.length ≤ 140737488351232) : ∃ t : List ByteArray, Ev (fun k => spec_DrawList.f k l) t ∧ t.length ≤ 100 ∧ ∀ p ∈ t, p.size ≤ 1000 := by
  have snoc : ∀ (acc : List ByteArray) (t : ByteArray), (∀ p ∈ acc, p.size ≤ 1000) → t.size ≤ 1000 → ∀ p ∈ acc ++ [t], p.size ≤ 1000 := by
    intro acc t ha ht p hp
    rcases List.mem_append.mp hp with hp | hp
    · exact ha p hp
    · rw [List.mem_singleton.mp hp]; exact ht
  have l1 : ∀ (d : Nat) (acc : List ByteArray) (n : Nat), acc.length + d = n → n ≤ 50 → (∀ p ∈ acc, p.size ≤ 1000) → ∃ t : List ByteArray, Ev (fun k => spec_DrawList.l1 k acc (n : Int)) t ∧ t.length ≤ 100 ∧ ∀ p ∈ t, p.size ≤ 1000 := by
    intro d
    induction d with
    | zero =>
      intro acc n hn hm ha
      refine ⟨acc, Ev.step (f := fun _ => some acc) (fun k => ?_) (Ev.now _), by omega, ha⟩
      simp only [spec_DrawList.l1]
      rw [if_neg (by omega)]
    | succ d ih =>
      intro acc n hn hm ha
      have c : acc.length < 8796093022208 := by omega
      have kz := keyS_size 1
      obtain ⟨t, ev, ht⟩ := ih (acc ++ [keyS 1]) n (by rw [List.length_append, List.length_singleton]; omega) hm (snoc acc _ ha (by omega))
      refine ⟨t, Ev.step (f := fun k => (spec_KeyTerm.f k 1).bind fun t => spec_DrawList.l1 k (acc ++ [t]) (n : Int)) (fun k => ?_) (Ev.bind (spec_KeyTerm_ev 1) ev), ht⟩
      simp only [spec_DrawList.l1]
      rw [if_pos (by omega)]
      simp only [c, if_true]
  have j1 : ∀ (acc : List ByteArray) (i h : Int), 0 ≤ i → acc.length ≤ 100 → (∀ p ∈ acc, p.size ≤ 1000) → ∃ t : List ByteArray, Ev (fun k => spec_DrawList.j1 k acc l i h) t ∧ t.length ≤ 100 ∧ ∀ p ∈ t, p.size ≤ 1000 := by
    intro acc i h hi hn ha
    obtain ⟨o, i1, h1, e1, hi1⟩ := spec_l1Once_ok l i h 20 hl hi (by omega)
    cases o with
    | true =>
      obtain ⟨x, i2, h2, e2, x0, x1, hi2⟩ := spec_l1Below_ok l i1 h1 2 hl hi1 (by omega)
      obtain ⟨d, rfl⟩ : ∃ d : Nat, x = (d : Int) := ⟨x.toNat, by omega⟩
      have w : wrap64 (12 + (d : Int)) = ((12 + d : Nat) : Int) := by rw [w64 (x := 12 + (d : Int)) (by omega) (by omega)]; omega
      obtain ⟨t, ev, ht⟩ := l1 (12 + d) [] (12 + d) (by simp only [List.length_nil]; omega) (by omega) (fun p hp => by cases hp)
      refine ⟨t, Ev.step (fun k => ?_) ev, ht⟩
      simp only [spec_DrawList.j1]
      rw [e1, Option.bind_some, if_pos (by trivial), e2, Option.bind_some, w]
    | false =>
      refine ⟨acc, Ev.step (f := fun _ => some acc) (fun k => ?_) (Ev.now _), hn, ha⟩
      simp only [spec_DrawList.j1]
      rw [e1, Option.bind_some, if_neg (by simp)]
  have l0 : ∀ (d : Nat) (acc : List ByteArray) (i h : Int), 0 ≤ i → acc.length + d ≤ 50 → (∀ p ∈ acc, p.size ≤ 1000) → ∃ t : List ByteArray, Ev (fun k => spec_DrawList.l0 k acc (d : Int) l i h) t ∧ t.length ≤ 100 ∧ ∀ p ∈ t, p.size ≤ 1000 := by
    intro d
    induction d with
    | zero =>
      intro acc i h hi hn ha
      obtain ⟨o, i1, h1, e1, hi1⟩ := spec_l1Once_ok l i h 8 hl hi (by omega)
      have c : acc.length < 8796093022208 := by omega
      cases o with
      | true =>
        obtain ⟨u, i2, h2, ev2, hu, hi2⟩ := spec_l2Any_ok l i1 h1 hl hi1
        obtain ⟨t, ev, ht⟩ := j1 (acc ++ [u]) i2 h2 hi2 (by rw [List.length_append, List.length_singleton]; omega) (snoc acc u ha hu)
        refine ⟨t, Ev.step (f := fun k => (spec_l2Any.f k l i1 h1).bind fun bt => spec_DrawList.j1 k (acc ++ [bt.1]) l bt.2.1 bt.2.2) (fun k => ?_) (Ev.bind ev2 ev), ht⟩
        simp only [spec_DrawList.l0]
        rw [if_neg (by omega), e1, Option.bind_some, if_pos (by trivial)]
        simp only [c, if_true]
      | false =>
        obtain ⟨t, ev, ht⟩ := j1 acc i1 h1 hi1 (by omega) ha
        refine ⟨t, Ev.step (fun k => ?_) ev, ht⟩
        simp only [spec_DrawList.l0]
        rw [if_neg (by omega), e1, Option.bind_some, if_neg (by simp)]
    | succ d ih =>
      intro acc i h hi hn ha
      obtain ⟨u, i1, h1, ev1, hu, hi1⟩ := spec_l2Some_ok l hl 3 (by omega) (by omega) i h hi
      have wd : wrap64 (((d + 1 : Nat) : Int) - 1) = (d : Int) := by rw [w64 (x := ((d + 1 : Nat) : Int) - 1) (by omega) (by omega)]; omega
      have c : acc.length < 8796093022208 := by omega
      obtain ⟨t, ev, ht⟩ := ih (acc ++ [u]) i1 h1 hi1 (by rw [List.length_append, List.length_singleton]; omega) (snoc acc u ha (by omega))
      refine ⟨t, Ev.step (f := fun k => (spec_l2Some.f k l i h 3).bind fun bt => spec_DrawList.l0 k (acc ++ [bt.1]) (d : Int) l bt.2.1 bt.2.2) (fun k => ?_) (Ev.bind ev1 ev), ht⟩
      simp only [spec_DrawList.l0]
      rw [if_pos (by omega), wd]
      simp only [c, if_true]
  obtain ⟨h, ev⟩ := spec_l1New_ok l hl
  obtain ⟨x, i1, h1, e1, x0, x1, hi1⟩ := spec_l1Below_ok l 0 h 5 hl (by omega) (by omega)
  obtain ⟨d, rfl⟩ : ∃ d : Nat, x = (d : Int) := ⟨x.toNat, by omega⟩
  obtain ⟨t, evt, ht⟩ := l0 d [] i1 h1 hi1 (by simp only [List.length_nil]; omega) (fun p hp => by cases hp)
  refine ⟨t, Ev.bind ev ?_, ht⟩
  simp only [e1, Option.bind_some]
  exact evt

theorem impl_List_loop (ps : List ByteArray) (hl : ps.length ≤ 1073741824) (d : Nat) : ∀ (i : Nat) (acc : ByteArray), i + d = ps.length → acc.size ≤ 1000 + 900 * i → (∀ p ∈ ps, p.size ≤ 1099511627776) →
    Ev (fun k => impl_List.l0 k acc ps (ps.length : Int) (i : Int)) (if (ps.drop i).all okS = true then termS (acc ++ cat (ps.drop i)) else ⟨#[]⟩) := by
  induction d with
  | zero =>
    intro i acc hi ha hp
    rw [List.drop_of_length_le (by omega)]
    have e : acc ++ cat [] = acc := ByteArray.append_empty
    simp only [List.all_nil, if_true, e]
    refine Ev.step (f := fun k => (impl_term.f k acc).bind fun t => some t) (fun k => ?_) (Ev.bind (impl_term_ev acc (by omega)) (Ev.now _))
    simp only [impl_List.l0]; rw [if_neg (by omega)]
  | succ d ih =>
    intro i acc hi ha hp
    have hlt : i < ps.length := by omega
    have hcons : ps.drop i = ps[i] :: ps.drop (i + 1) := List.drop_eq_getElem_cons hlt
    have hsz := hp _ (List.getElem_mem hlt)
    have hw : Aside0 (wrap64 ((i : Int) + 1) = ((i + 1 : Nat) : Int)) := ⟨by rw [w64 (by omega) (by omega)]; omega⟩
    refine Ev.step (f := fun k => (impl_TermOk.f k ps[i]).bind fun t => (if t = true then (if acc.size + ps[i].size ≤ 9223372036854775807 then impl_List.l0 k (acc ++ ps[i]) ps (ps.length : Int) ((i + 1 : Nat) : Int) else none) else some (⟨#[]⟩ : ByteArray))) (fun k => ?_) (Ev.bind (impl_TermOk_ev ps[i] (by omega)) ?_)
    · simp only [impl_List.l0]; rw [if_pos (by omega), if_pos (by omega), if_pos (by omega), rdOf_get ps i hlt, hw.out]
    · have ho : termB (bl ps[i]) = okS ps[i] := rfl
      rw [ho, hcons, List.all_cons, cat_cons]
      by_cases h : okS ps[i] = true
      · have h9 := (okS_size h).2
        have hr := ih (i + 1) (acc ++ ps[i]) (by omega) (by rw [ByteArray.size_append]; omega) hp
        have hle : acc.size + ps[i].size ≤ 9223372036854775807 := by omega
        rw [ByteArray.append_assoc] at hr
        simp only [h, hle, if_true, Bool.true_and]
        exact hr
      · have h' := Bool.eq_false_iff.mpr h
        rw [h', Bool.false_and]
        simp only [Bool.false_eq_true, if_false]
        exact Ev.now _
theorem impl_List_ev (ps : List ByteArray) (hl : ps.length ≤ 1073741824) (hp : ∀ p ∈ ps, p.size ≤ 1099511627776) : Ev (fun k => impl_List.f k ps) (listS ps) := by
  unfold impl_List.f
  refine Ev.bind (impl_Var_ev _) ?_
  have h7 := @var_size (ps.length : Int)
  have h1 : (⟨#[108]⟩ : ByteArray).size = 1 := rfl
  have a1 : 1 + (varS (ps.length : Int)).size ≤ 9223372036854775807 := by omega
  simp only [a1, if_true]
  refine ev_eq (impl_List_loop ps hl ps.length 0 ((⟨#[108]⟩ : ByteArray) ++ varS (ps.length : Int)) (by omega) (by rw [ByteArray.size_append]; omega) hp) ?_
  unfold listS rawL
  rw [List.drop_zero]
  by_cases h : ps.all okS = true
  · rw [if_pos h]
    by_cases h12 : ps.length ≤ 12
    · rw [if_pos ⟨h12, h⟩]
    · rw [if_neg (fun e => h12 e.1)]
      unfold termS
      rw [list_long (by omega) (by unfold MAXV; omega), if_neg (by decide)]
  · rw [if_neg h, if_neg (fun e => h e.2)]

theorem impl_Parts_loop (s : ByteArray) (hs : s.size ≤ 140737488355327) (n : Nat) (r : Nat) : ∀ (i a q : Nat) (acc : List ByteArray), i + r = n → n ≤ 1000 → acc.length = i → a ≤ s.size → many (parse 8) r ((bl s).drop a) = some q →
    Ev (fun k => impl_Parts.l0 k s (a : Int) acc (n : Int) (i : Int)) (acc ++ spl s r a, true) := by
  induction r with
  | zero =>
    intro i a q acc hi hn ha has hm
    refine Ev.step (f := fun _ => some (acc, true)) (fun k => ?_) (ev_eq (Ev.now _) ?_)
    · simp only [impl_Parts.l0]; rw [if_neg (by omega)]
    · simp [spl]
  | succ r ih =>
    intro i a q acc hi hn ha has hm
    rw [many_succ] at hm
    cases hp : parse 8 ((bl s).drop a) with
    | none => rw [hp] at hm; cases hm
    | some m =>
      rw [hp] at hm
      simp only [] at hm
      have hle := parse_le 8 _ _ hp
      rw [List.length_drop, bl_len] at hle
      cases hq : many (parse 8) r (((bl s).drop a).drop m) with
      | none => rw [hq] at hm; cases hm
      | some q' =>
        rw [List.drop_drop] at hq
        have hr := ih (i + 1) (a + m) q' (acc ++ [s.extract a (a + m)]) (by omega) hn (by simp; omega) (by omega) hq
        have ht := impl_termAt_ev s hs 8 a (by decide) has
        rw [hp] at ht
        have hw : Aside0 (wrap64 ((i : Int) + 1) = ((i + 1 : Nat) : Int)) := ⟨by rw [w64 (by omega) (by omega)]; omega⟩
        refine Ev.step (f := fun k => (impl_termAt.f k s (a : Int) ((8 : Nat) : Int)).bind fun t166 => (if 0 ≤ (a : Int) then (if (a : Int) ≤ t166 then (if t166 ≤ (s.size : Int) then (if acc.length < 8796093022208 then (impl_Parts.l0 k s t166 (acc ++ [s.extract (a : Int).toNat (t166 : Int).toNat]) (n : Int) ((i + 1 : Nat) : Int)) else (none)) else (none)) else (none)) else (none))) (fun k => ?_) (Ev.bind ht ?_)
        · simp only [impl_Parts.l0]; rw [if_pos (by omega), hw.out]; rfl
        · have a1 : (a : Int) ≤ ((a + m : Nat) : Int) := by omega
          have a2 : ((a + m : Nat) : Int) ≤ (s.size : Int) := by omega
          have a3 : acc.length < 8796093022208 := by omega
          have a0 : 0 ≤ (a : Int) := by omega
          simp only [tA, a0, a1, a2, a3, if_true, Int.toNat_natCast]
          refine ev_eq hr ?_
          rw [spl, hp]; simp
theorem impl_Parts_ev (s : ByteArray) (hs : s.size ≤ 140737488355327) : Ev (fun k => impl_Parts.f k s) (partsS s) := by
  unfold impl_Parts.f
  refine Ev.bind (impl_isOf_ev s hs 108) ?_
  unfold partsS
  by_cases h : isK s 108 = true
  · have ho := isK_ok h
    have hr := okS_rv ho
    obtain ⟨h12, q, hq⟩ := list_cases h
    simp only [h, if_true]
    refine Ev.bind (impl_varAt_ev s hs 1 (okS_size ho).1) ?_
    rw [okS_vA ho]
    exact impl_Parts_loop s hs (nOf s) (nOf s) 0 (1 + kOf s) q [] (by omega) (by omega) rfl (by omega) hq
  · simp only [h]
    exact Ev.now _

theorem laws_sameTexts_self (l : List ByteArray) (hl : l.length ≤ 1073741824) : Ev (fun k => laws_sameTexts.f k l l) true := by
  have loop : ∀ d i : Nat, i + d = l.length → Ev (fun k => laws_sameTexts.l0 k l l (i : Int)) true := by
    intro d
    induction d with
    | zero =>
      intro i hi
      refine Ev.step (f := fun _ => some true) (fun k => ?_) (Ev.now _)
      simp only [laws_sameTexts.l0]
      rw [if_neg (by omega)]
    | succ d ih =>
      intro i hi
      refine Ev.step (fun k => ?_) (ih (i + 1) (by omega))
      simp only [laws_sameTexts.l0]
      rw [if_pos (by omega), if_pos (by omega), if_pos (by omega), if_pos trivial, w64 (by omega) (by omega)]
      rfl
  unfold laws_sameTexts.f
  simp only [if_true]
  exact loop l.length 0 (by omega)

theorem spec_DrawAtom_ok (l : List Int) (hl : l.length ≤ 140737488351232) : ∃ t : ByteArray, Ev (fun k => spec_DrawAtom.f k l) t ∧ t.size ≤ 41 := by
  obtain ⟨h, ev⟩ := spec_l1New_ok l hl
  obtain ⟨t, i', h', ev', ht, _⟩ := spec_l1Text_ok l 0 h 41 hl (by omega) (by omega)
  exact ⟨t, Ev.bind ev (Ev.bind ev' (Ev.now _)), ht⟩

theorem impl_ReadAtom_ev (s : ByteArray) (hs : s.size ≤ 140737488355327) : Ev (fun k => impl_ReadAtom.f k s) (raS s) := by
  unfold impl_ReadAtom.f
  refine Ev.bind (impl_isOf_ev s hs 97) ?_
  unfold raS
  by_cases h : isK s 97 = true
  · have ho := isK_ok h
    have hr := okS_rv ho
    simp only [h, if_true]
    refine Ev.bind (impl_varAt_ev s hs 1 (okS_size ho).1) ?_
    rw [okS_vA ho]
    have a1 : 0 ≤ ((1 + kOf s : Nat) : Int) := by omega
    have a2 : ((1 + kOf s : Nat) : Int) ≤ (s.size : Int) := by omega
    simp only [a1, a2, if_true, Int.toNat_natCast]
    exact Ev.now _
  · simp only [h]
    exact Ev.now _

theorem impl_Atom_ev (d : ByteArray) (hd : d.size ≤ 1000000000) : Ev (fun k => impl_Atom.f k d) (atomS d) := by
  unfold impl_Atom.f
  refine Ev.bind (impl_Var_ev _) ?_
  have h7 := @var_size (d.size : Int)
  have h1 : (⟨#[97]⟩ : ByteArray).size = 1 := rfl
  have a1 : 1 + (varS (d.size : Int)).size ≤ 9223372036854775807 := by omega
  have a2 : ((⟨#[97]⟩ : ByteArray) ++ varS (d.size : Int)).size + d.size ≤ 9223372036854775807 := by rw [ByteArray.size_append]; omega
  simp only [a1, a2, if_true]
  refine Ev.bind (impl_term_ev _ (by rw [ByteArray.size_append, ByteArray.size_append]; omega)) (ev_eq (Ev.now _) rfl)

theorem spec_l1Num_ok (b : List Int) (i h : Int) (hb : b.length ≤ 140737488351232) (hi : 0 ≤ i) : ∃ (x i' h' : Int), spec_l1Num.f b i h = some (x, i', h') ∧ (-9223372036854775808 ≤ x ∧ x ≤ 9223372036854775807) ∧ 0 ≤ i' := by
  obtain ⟨c, i1, h1, e1, c0, c1, hi1⟩ := spec_l1Below_ok b i h 8 hb hi (by omega)
  unfold spec_l1Num.f
  simp only [e1, Option.bind_some]
  by_cases k0 : c = 0
  · obtain ⟨x, i2, h2, e2, hx, hi2⟩ := spec_l1PickInt_ok b i1 h1 [(-1), 0, 127, 128, 255, 256, 16383, 16384, 65535, 65536, 562949953421311, 562949953421312, 999999999, 1000000000, (-999999999), 9223372036854775807, (-9223372036854775808)] hb hi1 (by decide)
    simp only [k0, if_true, e2, Option.bind_some]
    refine ⟨x, i2, h2, rfl, ?_, hi2⟩
    simp only [List.mem_cons, List.not_mem_nil, or_false] at hx
    omega
  · simp only [k0, if_false]
    by_cases k1 : c = 1
    · obtain ⟨x, i2, h2, e2, x0, x1, hi2⟩ := spec_l1Below_ok b i1 h1 1000000000 hb hi1 (by omega)
      obtain ⟨y, i3, h3, e3, y0, y1, hi3⟩ := spec_l1Below_ok b i2 h2 1000000000 hb hi2 (by omega)
      simp only [k1, if_true, e2, e3, Option.bind_some]
      refine ⟨_, i3, h3, rfl, ?_, hi3⟩
      unfold wrap64
      omega
    · simp only [k1, if_false]
      by_cases k2 : c = 2
      · obtain ⟨x, i2, h2, e2, x0, x1, hi2⟩ := spec_l1Below_ok b i1 h1 100000 hb hi1 (by omega)
        simp only [k2, if_true, e2, Option.bind_some]
        refine ⟨_, i2, h2, rfl, ?_, hi2⟩
        rw [w64 (by omega) (by omega)]
        omega
      · obtain ⟨x, i2, h2, e2, x0, x1, hi2⟩ := spec_l1Below_ok b i1 h1 70000 hb hi1 (by omega)
        simp only [k2, if_false, e2, Option.bind_some]
        exact ⟨x, i2, h2, rfl, by omega, hi2⟩

theorem spec_DrawNums_ok (l : List Int) (hl : l.length ≤ 140737488351232) : ∃ t : List Int, Ev (fun k => spec_DrawNums.f k l) t ∧ t.length ≤ 100 := by
  have lp : ∀ (d : Nat) (acc : List Int) (i h : Int), 0 ≤ i → acc.length + d ≤ 50 → ∃ t : List Int, Ev (fun k => spec_DrawNums.l0 k acc (d : Int) l i h) t ∧ t.length ≤ 100 := by
    intro d
    induction d with
    | zero =>
      intro acc i h hi ha
      obtain ⟨o, i1, h1, e1, hi1⟩ := spec_l1Once_ok l i h 8 hl hi (by omega)
      have c : acc.length < 17592186044416 := by omega
      cases o with
      | true =>
        obtain ⟨x, i2, h2, e2, _, hi2⟩ := spec_l1Num_ok l i1 h1 hl hi1
        refine ⟨acc ++ [x], Ev.step (f := fun _ => some (acc ++ [x])) (fun k => ?_) (Ev.now _), by rw [List.length_append, List.length_singleton]; omega⟩
        simp only [spec_DrawNums.l0]
        rw [if_neg (by omega), e1, Option.bind_some, if_pos (by trivial), e2, Option.bind_some, if_pos c]
      | false =>
        refine ⟨acc, Ev.step (f := fun _ => some acc) (fun k => ?_) (Ev.now _), by omega⟩
        simp only [spec_DrawNums.l0]
        rw [if_neg (by omega), e1, Option.bind_some, if_neg (by simp)]
    | succ d ih =>
      intro acc i h hi ha
      obtain ⟨x, i1, h1, e1, _, _, hi1⟩ := spec_l1Below_ok l i h 300 hl hi (by omega)
      have wd : wrap64 (((d + 1 : Nat) : Int) - 1) = (d : Int) := by rw [w64 (x := ((d + 1 : Nat) : Int) - 1) (by omega) (by omega)]; omega
      have c : acc.length < 17592186044416 := by omega
      obtain ⟨t, ev, ht⟩ := ih (acc ++ [x]) i1 h1 hi1 (by rw [List.length_append, List.length_singleton]; omega)
      refine ⟨t, Ev.step (fun k => ?_) ev, ht⟩
      simp only [spec_DrawNums.l0]
      rw [if_pos (by omega), e1, Option.bind_some, if_pos c, wd]
  obtain ⟨h, ev⟩ := spec_l1New_ok l hl
  obtain ⟨x, i1, h1, e1, x0, x1, hi1⟩ := spec_l1Below_ok l 0 h 14 hl (by omega) (by omega)
  obtain ⟨d, rfl⟩ : ∃ d : Nat, x = (d : Int) := ⟨x.toNat, by omega⟩
  obtain ⟨t, evt, ht⟩ := lp d [] i1 h1 hi1 (by simp only [List.length_nil]; omega)
  refine ⟨t, Ev.bind ev ?_, ht⟩
  simp only [e1, Option.bind_some]
  exact evt

theorem impl_ReadNum_ev (s : ByteArray) (hs : s.size ≤ 140737488355327) : Ev (fun k => impl_ReadNum.f k s) (rnS s) := by
  unfold impl_ReadNum.f
  refine Ev.bind (impl_ReadAtom_ev s hs) ?_
  have hz : (raS s).1.size ≤ 140737488355327 := by
    unfold raS; split
    · rw [ByteArray.size_extract]; omega
    · decide
  refine Ev.bind (impl_ReadVar_ev _ hz) ?_
  by_cases h1 : (raS s).2 = true
  · by_cases h2 : (rvI (bl (raS s).1)).2 = 0
    · have e : rnS s = (0, false) := by unfold rnS; rw [if_neg (fun e => e.2.1 h2)]
      rw [e]
      simp only [h1, h2, if_true]; exact Ev.now _
    · by_cases h3 : (rvI (bl (raS s).1)).2 = ((raS s).1.size : Int)
      · have e : rnS s = ((rvI (bl (raS s).1)).1, true) := by unfold rnS; rw [if_pos ⟨h1, h2, h3⟩]
        rw [e]
        simp only [h1, h2, if_true, if_false]
        simp only [h3, if_true]; exact Ev.now _
      · have e : rnS s = (0, false) := by unfold rnS; rw [if_neg (fun e => h3 e.2.2)]
        rw [e]
        simp only [h1, h2, if_true, if_false]
        simp only [h3, if_false]; exact Ev.now _
  · have e : rnS s = (0, false) := by unfold rnS; rw [if_neg (fun e => h1 e.1)]
    rw [e]
    simp only [h1]
    exact Ev.now _

theorem impl_ReadNums_loop (ps : List ByteArray) (hl : ps.length ≤ 12) (hp : ∀ p ∈ ps, p.size ≤ 900) (d : Nat) : ∀ (i : Nat), i + d = ps.length →
    Ev (fun k => impl_ReadNums.l0 k ((ps.take i).map fun p => (rnS p).1) ps (ps.length : Int) (i : Int)) (if ((ps.drop i).all fun p => (rnS p).2) = true then (ps.map fun p => (rnS p).1, true) else ([], false)) := by
  induction d with
  | zero =>
    intro i hi
    rw [List.drop_of_length_le (by omega), List.take_of_length_le (by omega)]
    simp only [List.all_nil, if_true]
    refine Ev.step (f := fun _ => some (ps.map fun p => (rnS p).1, true)) (fun k => ?_) (Ev.now _)
    simp only [impl_ReadNums.l0]; rw [if_neg (by omega)]
  | succ d ih =>
    intro i hi
    have hlt : i < ps.length := by omega
    have hcons : ps.drop i = ps[i] :: ps.drop (i + 1) := List.drop_eq_getElem_cons hlt
    have hsz := hp _ (List.getElem_mem hlt)
    have hw : Aside0 (wrap64 ((i : Int) + 1) = ((i + 1 : Nat) : Int)) := ⟨by rw [w64 (by omega) (by omega)]; omega⟩
    refine Ev.step (f := fun k => (impl_ReadNum.f k ps[i]).bind fun t => (if t.2 = true then (if ((ps.take i).map fun p => (rnS p).1).length < 17592186044416 then impl_ReadNums.l0 k ((ps.take i).map (fun p => (rnS p).1) ++ [t.1]) ps (ps.length : Int) ((i + 1 : Nat) : Int) else none) else some (([] : List Int), false))) (fun k => ?_) (Ev.bind (impl_ReadNum_ev ps[i] (by omega)) ?_)
    · simp only [impl_ReadNums.l0]; rw [if_pos (by omega), if_pos (by omega), if_pos (by omega), rdOf_get ps i hlt, hw.out]
    · rw [hcons, List.all_cons]
      by_cases h : (rnS ps[i]).2 = true
      · have hr := ih (i + 1) (by omega)
        have hlen : ((ps.take i).map fun p => (rnS p).1).length < 17592186044416 := by rw [List.length_map, List.length_take]; omega
        simp only [h, hlen, if_true, Bool.true_and]
        rw [List.take_succ_eq_append_getElem hlt, List.map_append] at hr
        exact hr
      · rw [Bool.eq_false_iff.mpr h, Bool.false_and]
        simp only [Bool.false_eq_true, if_false]
        exact Ev.now _
theorem impl_ReadNums_ev (s : ByteArray) (hs : s.size ≤ 140737488355327) : Ev (fun k => impl_ReadNums.f k s) (rnsS s) := by
  unfold impl_ReadNums.f
  refine Ev.bind (impl_Parts_ev s hs) ?_
  unfold rnsS
  by_cases h : (partsS s).2 = true
  · simp only [h, if_true, true_and]
    refine ev_eq (impl_ReadNums_loop _ (partsS_len s) (fun p hp => mem_parts hp) (partsS s).1.length 0 (by omega)) ?_
    rw [List.drop_zero]
  · have h' : ¬ ((partsS s).2 = true ∧ ((partsS s).1.all fun p => (rnS p).2) = true) := fun e => h e.1
    rw [if_neg h']
    simp only [h]
    exact Ev.now _

theorem toList_nil (s : ByteArray) : s.toList = ([] : List UInt8) ↔ s = (⟨#[]⟩ : ByteArray) := by
  have h := toList_iff s (⟨#[]⟩ : ByteArray)
  have e : (⟨#[]⟩ : ByteArray).toList = [] := by rw [ByteArray.toList_eq]
  rw [e] at h
  exact h

theorem impl_Num_ev (n : Int) : Ev (fun k => impl_Num.f k n) (numS n) := by
  unfold impl_Num.f
  refine Ev.bind (impl_Var_ev n) ?_
  unfold numS
  simp only [toList_nil]
  by_cases h : varS n = (⟨#[]⟩ : ByteArray)
  · simp only [h, if_true]; exact Ev.now _
  · simp only [h, if_false]
    have := @var_size n
    exact Ev.bind (impl_Atom_ev _ (by omega)) (ev_eq (Ev.now _) rfl)

theorem listS_long {ps : List ByteArray} (h : 12 < ps.length) : listS ps = (⟨#[]⟩ : ByteArray) := by unfold listS; rw [if_neg (fun e => by omega)]
theorem impl_Nums_loop (l : List Int) (hl : l.length ≤ 1073741824) (d : Nat) : ∀ (i : Nat), i + d = l.length →
    Ev (fun k => impl_Nums.l0 k ((l.take i).map numS) l (l.length : Int) (i : Int)) (if ((l.drop i).all fun n => decide (0 ≤ n ∧ n ≤ 562949953421311)) = true then listS (l.map numS) else ⟨#[]⟩) := by
  induction d with
  | zero =>
    intro i hi
    rw [List.drop_of_length_le (by omega), List.take_of_length_le (by omega)]
    simp only [List.all_nil, if_true]
    refine Ev.step (f := fun k => (impl_List.f k (l.map numS)).bind fun t => some t) (fun k => ?_) (Ev.bind (impl_List_ev _ (by rw [List.length_map]; omega) (fun p hp => ?_)) (Ev.now _))
    · simp only [impl_Nums.l0]; rw [if_neg (by omega)]
    · obtain ⟨n, _, rfl⟩ := List.mem_map.mp hp
      have := numS_size n; omega
  | succ d ih =>
    intro i hi
    have hlt : i < l.length := by omega
    have hcons : l.drop i = l[i] :: l.drop (i + 1) := List.drop_eq_getElem_cons hlt
    have hw : Aside0 (wrap64 ((i : Int) + 1) = ((i + 1 : Nat) : Int)) := ⟨by rw [w64 (by omega) (by omega)]; omega⟩
    refine Ev.step (f := fun k => (impl_Num.f k l[i]).bind fun t => (if t.toList = ([] : List UInt8) then some (⟨#[]⟩ : ByteArray) else (if ((l.take i).map numS).length < 8796093022208 then impl_Nums.l0 k ((l.take i).map numS ++ [t]) l (l.length : Int) ((i + 1 : Nat) : Int) else none))) (fun k => ?_) (Ev.bind (impl_Num_ev l[i]) ?_)
    · simp only [impl_Nums.l0]; rw [if_pos (by omega), if_pos (by omega), if_pos (by omega), rd_get l i hlt, hw.out]
    · simp only [toList_nil]
      rw [hcons, List.all_cons]
      by_cases h : 0 ≤ l[i] ∧ l[i] ≤ 562949953421311
      · have hne := (numS_in h).2.2
        have hr := ih (i + 1) (by omega)
        have hlen : ((l.take i).map numS).length < 8796093022208 := by rw [List.length_map, List.length_take]; omega
        simp only [hne, hlen, if_false, if_true]
        rw [decide_eq_true h, Bool.true_and]
        rw [List.take_succ_eq_append_getElem hlt, List.map_append] at hr
        exact hr
      · rw [decide_eq_false h, Bool.false_and, numS_out h]
        simp only [Bool.false_eq_true, if_true, if_false]
        exact Ev.now _
theorem impl_Nums_ev (l : List Int) (hl : l.length ≤ 1073741824) : Ev (fun k => impl_Nums.f k l) (numsS l) := by
  unfold impl_Nums.f
  refine ev_eq (impl_Nums_loop l hl l.length 0 (by omega)) ?_
  unfold numsS
  rw [List.drop_zero]
  by_cases h : (l.all fun n => decide (0 ≤ n ∧ n ≤ 562949953421311)) = true
  · rw [if_pos h]
    by_cases h12 : l.length ≤ 12
    · rw [if_pos ⟨h12, h⟩]
    · rw [if_neg (fun e => h12 e.1), listS_long (by rw [List.length_map]; omega)]
  · rw [if_neg h, if_neg (fun e => h e.2)]

theorem spec_Num_ev (n : Int) : Ev (fun k => spec_Num.f k n) (numS n) := by
  unfold spec_Num.f
  refine Ev.bind (spec_Var_ev n) ?_
  unfold numS
  simp only [toList_nil]
  by_cases h : varS n = (⟨#[]⟩ : ByteArray)
  · simp only [h, if_true]; exact Ev.now _
  · simp only [h, if_false]
    have := @var_size n
    exact Ev.bind (spec_Atom_ev _ (by omega)) (ev_eq (Ev.now _) rfl)

theorem listS_long2 {ps : List ByteArray} (h : 12 < ps.length) : listS ps = (⟨#[]⟩ : ByteArray) := by unfold listS; rw [if_neg (fun e => by omega)]
theorem spec_Nums_loop (l : List Int) (hl : l.length ≤ 1073741824) (d : Nat) : ∀ (i : Nat), i + d = min 13 l.length →
    Ev (fun k => spec_Nums.l0 k l ((l.take i).map numS) (i : Int)) (if (((l.take (min 13 l.length)).drop i).all fun n => decide (0 ≤ n ∧ n ≤ 562949953421311)) = true then listS ((l.take (min 13 l.length)).map numS) else ⟨#[]⟩) := by
  induction d with
  | zero =>
    intro i hi
    rw [List.drop_of_length_le (by rw [List.length_take]; omega), show i = min 13 l.length by omega]
    simp only [List.all_nil, if_true]
    refine Ev.step (f := fun k => spec_Nums.j1 k l ((l.take (min 13 l.length)).map numS) ((min 13 l.length : Nat) : Int) false) (fun k => ?_) (Ev.step (f := fun k => (spec_List.f k ((l.take (min 13 l.length)).map numS)).bind fun t => some t) (fun k => ?_) (Ev.bind (spec_List_ev _ (fun p hp => ?_)) (Ev.now _)))
    · simp only [spec_Nums.l0]
      by_cases hh : ((min 13 l.length : Nat) : Int) < (l.length : Int)
      · rw [if_pos hh, decide_eq_false (by omega)]
      · rw [if_neg hh]
    · simp only [spec_Nums.j1]; rw [if_neg (by decide)]
    · obtain ⟨n, _, rfl⟩ := List.mem_map.mp hp
      have := numS_size n; omega
  | succ d ih =>
    intro i hi
    have hlt : i < l.length := by omega
    have hlt2 : i < (l.take (min 13 l.length)).length := by rw [List.length_take]; omega
    have hcons : (l.take (min 13 l.length)).drop i = l[i] :: (l.take (min 13 l.length)).drop (i + 1) := by
      rw [List.drop_eq_getElem_cons hlt2, List.getElem_take]
    have hw : Aside0 (wrap64 ((i : Int) + 1) = ((i + 1 : Nat) : Int)) := ⟨by rw [w64 (by omega) (by omega)]; omega⟩
    refine Ev.step (f := fun k => spec_Nums.j1 k l ((l.take i).map numS) (i : Int) true) (fun k => ?_) (Ev.step (f := fun k => (spec_Num.f k l[i]).bind fun t => (if t.toList = ([] : List UInt8) then some (⟨#[]⟩ : ByteArray) else (if ((l.take i).map numS).length < 8796093022208 then spec_Nums.l0 k l ((l.take i).map numS ++ [t]) ((i + 1 : Nat) : Int) else none))) (fun k => ?_) (Ev.bind (spec_Num_ev l[i]) ?_))
    · simp only [spec_Nums.l0]; rw [if_pos (by omega), decide_eq_true (by omega)]
    · simp only [spec_Nums.j1]; rw [if_pos trivial, if_pos (by omega), if_pos (by omega), rd_get l i hlt, hw.out]
    · simp only [toList_nil]
      rw [hcons, List.all_cons]
      by_cases h : 0 ≤ l[i] ∧ l[i] ≤ 562949953421311
      · have hne := (numS_in h).2.2
        have hr := ih (i + 1) (by omega)
        have hlen : ((l.take i).map numS).length < 8796093022208 := by rw [List.length_map, List.length_take]; omega
        simp only [hne, hlen, if_false, if_true]
        rw [decide_eq_true h, Bool.true_and]
        rw [List.take_succ_eq_append_getElem hlt, List.map_append] at hr
        exact hr
      · rw [decide_eq_false h, Bool.false_and, numS_out h]
        simp only [Bool.false_eq_true, if_true, if_false]
        exact Ev.now _
theorem spec_Nums_ev (l : List Int) (hl : l.length ≤ 1073741824) : Ev (fun k => spec_Nums.f k l) (numsS l) := by
  unfold spec_Nums.f
  refine ev_eq (spec_Nums_loop l hl (min 13 l.length) 0 (by omega)) ?_
  unfold numsS
  rw [List.drop_zero]
  by_cases h12 : l.length ≤ 12
  · have e : l.take (min 13 l.length) = l := List.take_of_length_le (by omega)
    rw [e]
    by_cases h : (l.all fun n => decide (0 ≤ n ∧ n ≤ 562949953421311)) = true
    · rw [if_pos h, if_pos ⟨h12, h⟩]
    · rw [if_neg h, if_neg (fun e => h e.2)]
  · have e2 : ¬ (l.length ≤ 12 ∧ (l.all fun n => decide (0 ≤ n ∧ n ≤ 562949953421311)) = true) := fun e => h12 e.1
    rw [if_neg e2]
    split
    · rw [listS_long2]; rw [List.length_map, List.length_take]; omega
    · rfl

theorem laws_sameInts_self (l : List Int) (hl : l.length ≤ 1073741824) : Ev (fun k => laws_sameInts.f k l l) true := by
  have loop : ∀ d i : Nat, i + d = l.length → Ev (fun k => laws_sameInts.l0 k l l (i : Int)) true := by
    intro d
    induction d with
    | zero =>
      intro i hi
      refine Ev.step (f := fun _ => some true) (fun k => ?_) (Ev.now _)
      simp only [laws_sameInts.l0]
      rw [if_neg (by omega)]
    | succ d ih =>
      intro i hi
      refine Ev.step (fun k => ?_) (ih (i + 1) (by omega))
      simp only [laws_sameInts.l0]
      rw [if_pos (by omega), if_pos (by omega), if_pos (by omega), if_pos trivial, w64 (by omega) (by omega)]
      rfl
  unfold laws_sameInts.f
  simp only [if_true]
  exact loop l.length 0 (by omega)

theorem toList_nil0 (s : ByteArray) : s.toList = ([] : List UInt8) ↔ s = (⟨#[]⟩ : ByteArray) := by
  have h := toList_iff s (⟨#[]⟩ : ByteArray)
  have e : (⟨#[]⟩ : ByteArray).toList = [] := by rw [ByteArray.toList_eq]
  rw [e] at h
  exact h
theorem isK_empty (c : Nat) : isK (⟨#[]⟩ : ByteArray) c = false := by
  cases h : isK (⟨#[]⟩ : ByteArray) c with
  | false => rfl
  | true => have := isK_ok h; rw [empty_not_ok] at this; cases this
theorem parts_empty : partsS (⟨#[]⟩ : ByteArray) = ([], false) := by
  unfold partsS; rw [if_neg (by rw [isK_empty]; decide)]
theorem ra_empty : raS (⟨#[]⟩ : ByteArray) = (⟨#[]⟩, false) := by
  unfold raS; rw [if_neg (by rw [isK_empty]; decide)]
theorem FnTerms : ∀ (l0 : List Int), l0.length ≤ maxLen → l0.length * 1 ≤ 140737488351232 → (∀ a ∈ l0, (Lit.int .u8 a).wf = true) → ∃ k, laws_FnTerms.f k l0 = some true := by
  intro l hm hl hw
  apply Ev.rounds
  unfold laws_FnTerms.f
  simp only [laws_big_eq, Option.bind_some]
  by_cases hbig : (l.length : Int) > 1048576
  · simp only [hbig, decide_true, if_true]; exact Ev.now _
  · simp only [hbig, decide_false, Bool.false_eq_true, if_false]
    obtain ⟨n, t, hs, hts⟩ := spec_DrawSeal_ok l (by omega)
    obtain ⟨ts, hlst, hl1, hl2⟩ := spec_DrawList_ok l (by omega)
    obtain ⟨d, hd, hds⟩ := spec_DrawAtom_ok l (by omega)
    obtain ⟨ns, hn, hns⟩ := spec_DrawNums_ok l (by omega)
    have nil0 : (⟨#[]⟩ : ByteArray).toList = ([] : List UInt8) := (toList_nil0 _).2 rfl
    have j2 : Ev (fun k => laws_FnTerms.j2 k l false) true := by
      refine Ev.step (f := fun k => laws_FnTerms.j2 (k + 1) l false) (fun k => rfl) ?_
      simp only [laws_FnTerms.j2, Bool.false_eq_true, if_false]
      have z := numsS_size ns
      refine Ev.bind hn (Ev.bind (impl_Nums_ev ns (by omega)) (Ev.bind (impl_ReadNums_ev _ (by omega)) (Ev.bind (spec_Nums_ev ns (by omega)) ?_)))
      by_cases he : numsS ns = (⟨#[]⟩ : ByteArray)
      · rw [he, rnsS_empty]
        simp only [nil0, bne_self_eq_false, beq_self_eq_true, if_true, Bool.false_eq_true, if_false]
        exact Ev.now _
      · have hne : ¬ (numsS ns).toList = ([] : List UInt8) := fun e => he ((toList_nil0 _).1 e)
        have hb : ((numsS ns).toList != ([] : List UInt8)) = true := bne_iff_ne.mpr hne
        rw [(nums_read he).1]
        simp only [hb, beq_self_eq_true, if_true]
        exact Ev.bind (laws_sameInts_self ns (by omega)) (Ev.now _)
    have j1 : Ev (fun k => laws_FnTerms.j1 k l false) true := by
      refine Ev.step (f := fun k => laws_FnTerms.j1 (k + 1) l false) (fun k => rfl) ?_
      simp only [laws_FnTerms.j1, Bool.false_eq_true, if_false]
      have z : (atomS d).size ≤ 900 := termS_le _
      refine Ev.bind hd (Ev.bind (impl_Atom_ev d (by omega)) (Ev.bind (impl_ReadAtom_ev _ (by omega)) ?_))
      by_cases h4 : d.size ≤ 40
      · have c : (d.size : Int) ≤ 40 := by omega
        rw [(atom_read h4).1]
        simp only [c, decide_true, bne_self_eq_false, Bool.false_eq_true, if_false, if_true]
        exact j2
      · have c : ¬ (d.size : Int) ≤ 40 := by omega
        have he : atomS d = (⟨#[]⟩ : ByteArray) := by
          unfold atomS termS
          rw [if_neg]
          rw [atom_long (by omega) (by unfold MAXV; omega)]
          decide
        rw [he, ra_empty]
        simp only [c, decide_false, bne_self_eq_false, Bool.false_eq_true, if_false]
        exact j2
    have j0 : Ev (fun k => laws_FnTerms.j0 k l) true := by
      refine Ev.step (f := fun k => laws_FnTerms.j0 (k + 1) l) (fun k => rfl) ?_
      simp only [laws_FnTerms.j0]
      have z := listS_size ts
      refine Ev.bind hlst (Ev.bind (impl_List_ev ts (by omega) (fun p hp => by have := hl2 p hp; omega)) (Ev.bind (impl_Parts_ev _ (by omega)) (Ev.bind (spec_List_ev ts (fun p hp => by have := hl2 p hp; omega)) ?_)))
      by_cases he : listS ts = (⟨#[]⟩ : ByteArray)
      · rw [he, parts_empty]
        simp only [nil0, bne_self_eq_false, Bool.false_eq_true, if_false]
        exact j1
      · have hne : ¬ (listS ts).toList = ([] : List UInt8) := fun e => he ((toList_nil0 _).1 e)
        have hb : ((listS ts).toList != ([] : List UInt8)) = true := bne_iff_ne.mpr hne
        rw [(list_read he).1]
        simp only [hb, bne_self_eq_false, Bool.false_eq_true, if_false, if_true]
        refine Ev.bind (laws_sameTexts_self ts (by omega)) ?_
        simp only [Bool.not_true]
        exact j1
    have z := sealS_size n t
    refine Ev.bind hs (Ev.bind (impl_Seal_ev n t (by omega)) (Ev.bind (spec_Seal_ev n t (by omega)) ?_))
    simp only [if_true]
    by_cases he : sealS n t = (⟨#[]⟩ : ByteArray)
    · have e1 : (sealS n t).toList = ([] : List UInt8) := (toList_nil0 _).2 he
      simp only [e1, if_true]
      exact j0
    · have hne : ¬ (sealS n t).toList = ([] : List UInt8) := fun e => he ((toList_nil0 _).1 e)
      obtain ⟨r1, r2, r3, r4, r5⟩ := seal_read he
      have w : wrap64 (n + 1) = n + 1 := w64 (by omega) (by omega)
      have r2' : termB (bl (sealS n t)) = true := r2
      simp only [hne, if_false, w]
      refine Ev.bind (impl_Open_ev _ (by omega) n) (Ev.bind (impl_Open_ev _ (by omega) (n + 1)) ?_)
      rw [r1, r5 (n + 1) (by omega)]
      simp only [if_true, Bool.false_eq_true, if_false]
      refine Ev.bind (impl_TermOk_ev _ (by omega)) ?_
      simp only [r2', if_true]
      exact j0

end Go.Proofs.Ytgmonpfjfocoaaa.Pure
