/- What is put together is taken apart again, and back: plain facts without any program; for all inputs. -/
import Derived.Test.YtaldemgfndmmlaaTerms
namespace Go.Proofs.Ytaldemgfndmmlaa.Base
open Go.RowKit Go.Proofs.YtaldemgfndmmlaaW.PrintWords Go.Proofs.YtaldemgfndmmlaaW.PrintLast Go.Proofs.YtaldemgfndmmlaaW.PrintMore
set_option linter.unusedVariables false
set_option linter.unusedSimpArgs false

theorem take_le {l l' : List Nat} {a b : Nat} (h : l'.take b = l.take b) (hab : a ≤ b) : l'.take a = l.take a := by
  have := congrArg (List.take a) h
  rwa [List.take_take, List.take_take, Nat.min_eq_left hab] at this
theorem take_len {l l' : List Nat} {b : Nat} (h : l'.take b = l.take b) (hb : b ≤ l.length) : b ≤ l'.length := by
  have := congrArg List.length h
  rw [List.length_take, List.length_take] at this
  omega
theorem drop_take_eq (l : List Nat) (a b : Nat) : (l.drop a).take b = (l.take (a + b)).drop a := by
  rw [List.drop_take]; congr 1; omega
theorem take_drop_eq {l l' : List Nat} {a b : Nat} (h : l'.take (a + b) = l.take (a + b)) : (l'.drop a).take b = (l.drop a).take b := by
  rw [drop_take_eq, drop_take_eq, h]
theorem rv_prefix {t t' : List Nat} {n k : Nat} (h : rv t = some (n, k)) (he : t'.take k = t.take k) : rv t' = some (n, k) := by
  have hR := rv_R h
  exact rv_some ⟨hR.1, hR.2.1, by rw [he]; exact hR.2.2⟩
theorem many_prefix {p : List Nat → Option Nat} (hp : ∀ l m l', p l = some m → l'.take m = l.take m → p l' = some m) (hle : ∀ l m, p l = some m → m ≤ l.length) (n : Nat) : ∀ l q l', many p n l = some q → l'.take q = l.take q → many p n l' = some q := by
  induction n with
  | zero => intro l q l' h _; simpa [many] using h
  | succ n ih =>
    intro l q l' h he
    rw [many_succ] at h ⊢
    cases hm : p l with
    | none => rw [hm] at h; cases h
    | some m =>
      rw [hm] at h
      simp only [] at h
      cases hq : many p n (l.drop m) with
      | none => rw [hq] at h; cases h
      | some q' =>
        rw [hq] at h
        have hqe : m + q' = q := Option.some.inj h
        subst hqe
        rw [hp _ _ _ hm (take_le he (by omega))]
        simp only []
        rw [ih _ _ _ hq (take_drop_eq he)]
        rfl
theorem parse_prefix (d : Nat) : ∀ l m l', parse d l = some m → l'.take m = l.take m → parse d l' = some m := by
  induction d with
  | zero => intro l m l' h; simp [parse] at h
  | succ d ih =>
    intro l m l' h he
    have hm0 := parse_le _ _ _ h
    have hl' := take_len he hm0.2
    obtain ⟨c, t, n, k, rfl, hr, hh⟩ := parse_cases h
    cases l' with
    | nil => simp at hl'; omega
    | cons c' t' =>
      have hk := R_le (rv_R hr)
      simp only at hk
      obtain ⟨m', hm'⟩ : ∃ m', m = 1 + m' := ⟨m - 1, by omega⟩
      rw [hm', Nat.add_comm, List.take_succ_cons, List.take_succ_cons] at he
      injection he with hc ht
      subst hc
      rw [List.length_cons] at hl' hm0
      rcases hh with h1 | h1 | h1 | h1
      · obtain ⟨rfl, h2, h3, h4⟩ := h1
        have hr' := rv_prefix hr (take_le ht (by omega))
        rw [h4]; exact parse_atom hr' h2 (by omega)
      · obtain ⟨rfl, h2, h3, h4⟩ := h1
        have hr' := rv_prefix hr (take_le ht (by omega))
        rw [h4]; exact parse_key hr' h2 h3
      · obtain ⟨rfl, h2, q, h3, h4⟩ := h1
        have hr' := rv_prefix hr (take_le ht (by omega))
        rw [h4]
        have e : m' = k + q := by omega
        rw [e] at ht
        exact parse_list hr' h2 (many_prefix (fun l m l' a b => ih l m l' a b) (fun l m a => (parse_le d l m a).2) n _ _ _ h3 (take_drop_eq ht))
      · obtain ⟨rfl, h2, h2', q, h3, h4⟩ := h1
        have hr' := rv_prefix hr (take_le ht (by omega))
        rw [h4]
        have e : m' = k + q := by omega
        rw [e] at ht
        exact parse_seal hr' h2 h2' (ih _ _ _ h3 (take_drop_eq ht))
/-- A term at the head of a text. -/
theorem parse_app {d : Nat} {l : List Nat} (h : parse d l = some l.length) (r : List Nat) : parse d (l ++ r) = some l.length :=
  parse_prefix d l l.length (l ++ r) h (by simp)
theorem parse_piece {d : Nat} {l : List Nat} {m : Nat} (h : parse d l = some m) : parse d (l.take m) = some m :=
  parse_prefix d l m (l.take m) h (by rw [List.take_take, Nat.min_self])
theorem isK_of {s : ByteArray} {c : Nat} {t : List Nat} (ho : okS s = true) (h : bl s = c :: t) : isK s c = true := by
  unfold isK; rw [ho, h]; simp
theorem nk_of {s : ByteArray} {c n k : Nat} {t : List Nat} (h : bl s = c :: t) (hr : rv t = some (n, k)) : nOf s = n ∧ kOf s = k := by
  have e : rv ((bl s).drop 1) = some (n, k) := by rw [h]; exact hr
  unfold nOf kOf; rw [e]; exact ⟨rfl, rfl⟩
theorem extract_bl {s d : ByteArray} {a : Nat} (h : (bl s).drop a = bl d) : s.extract a s.size = d := bl_inj (by rw [bl_from, h])
theorem bl_head (b : ByteArray) (c : Nat) (n : Nat) (hb : bl b = [c]) (hn : n ≤ MAXV) (d : ByteArray) : bl ((b ++ varS (n : Int)) ++ d) = c :: (var n ++ bl d) := by
  rw [bl_append, bl_append, bl_varS hn, hb]; rfl
theorem R_split {t : List Nat} {n k : Nat} (h : rv t = some (n, k)) : t = var n ++ t.drop k := by
  have hR := rv_R h
  have e := List.take_append_drop k t
  rw [hR.2.2] at e
  exact e.symm
/-! ### atoms -/
theorem raw_atom_read {d : ByteArray} (h : d.size ≤ 40) : raS (((⟨#[97]⟩ : ByteArray) ++ varS (d.size : Int)) ++ d) = (d, true) := by
  have hm : d.size ≤ MAXV := by unfold MAXV; omega
  have ho := atom_ok h
  have hb := bl_head ⟨#[97]⟩ 97 d.size rfl hm d
  have hr := rv_var d.size hm (bl d)
  obtain ⟨h1, h2⟩ := nk_of hb hr
  unfold raS
  rw [if_pos (isK_of ho hb), h2]
  congr 1
  apply extract_bl
  rw [hb, Nat.add_comm, List.drop_succ_cons, List.drop_left]
theorem atom_read {d : ByteArray} (h : d.size ≤ 40) : raS (atomS d) = (d, true) ∧ atomS d ≠ (⟨#[]⟩ : ByteArray) := by
  have e : atomS d = ((⟨#[97]⟩ : ByteArray) ++ varS (d.size : Int)) ++ d := by unfold atomS termS; rw [if_pos (atom_ok h)]
  refine ⟨by rw [e]; exact raw_atom_read h, fun h0 => ?_⟩
  have := atom_ok h
  rw [← e, h0, empty_not_ok] at this
  cases this
theorem read_atom {s d : ByteArray} (h : raS s = (d, true)) : atomS d = s ∧ d.size ≤ 40 ∧ okS s = true := by
  unfold raS at h
  split at h
  · rename_i hk
    obtain ⟨t, hl, hr, hkl, hsz, hh⟩ := isK_cases hk
    have ho := isK_ok hk
    injection h with h1 _
    rcases hh with hh | hh | hh | hh
    · have hd : bl d = t.drop (kOf s) := by rw [← h1, bl_from, hl, Nat.add_comm, List.drop_succ_cons]
      have hdz : d.size = nOf s := by rw [← bl_len, hd, List.length_drop]; omega
      have hm : nOf s ≤ MAXV := (rv_R hr).1
      have e : ((⟨#[97]⟩ : ByteArray) ++ varS (d.size : Int)) ++ d = s := by
        apply bl_inj
        rw [hdz, bl_head ⟨#[97]⟩ 97 _ rfl hm d, hl, hd, ← R_split hr]
      unfold atomS termS
      rw [e, if_pos ho]
      exact ⟨rfl, by omega, ho⟩
    · omega
    · omega
    · omega
  · cases h
/-! ### sealed terms -/
theorem seal_read {k : Int} {t : ByteArray} (h : sealS k t ≠ (⟨#[]⟩ : ByteArray)) : opS (sealS k t) k = (t, true) ∧ okS (sealS k t) = true ∧ okS t = true ∧ (1 ≤ k ∧ k ≤ 1000000) ∧ (∀ j, j ≠ k → opS (sealS k t) j = (⟨#[]⟩, false)) := by
  unfold sealS at h ⊢
  split at h
  · rename_i hh
    rw [if_pos hh]
    obtain ⟨n, rfl⟩ := Int.eq_ofNat_of_zero_le (show 0 ≤ k by omega)
    have hm : n ≤ MAXV := by unfold MAXV; omega
    unfold termS at h ⊢
    split at h
    · rename_i ho
      rw [if_pos ho]
      have hb := bl_head ⟨#[115]⟩ 115 n rfl hm t
      have hr := rv_var n hm (bl t)
      obtain ⟨h1, h2⟩ := nk_of hb hr
      have hk := isK_of ho hb
      refine ⟨?_, ho, hh.1, hh.2, fun j hj => ?_⟩
      · unfold opS
        rw [if_pos ⟨hk, by rw [h1]⟩, h2]
        congr 1
        apply extract_bl
        rw [hb, Nat.add_comm, List.drop_succ_cons, List.drop_left]
      · unfold opS
        rw [if_neg (fun e => hj (by rw [← e.2, h1]))]
    · exact absurd rfl h
  · exact absurd rfl h
theorem read_seal {s t : ByteArray} {k : Int} (h : opS s k = (t, true)) : sealS k t = s ∧ okS s = true ∧ okS t = true ∧ (1 ≤ k ∧ k ≤ 1000000) := by
  unfold opS at h
  split at h
  · rename_i hk
    obtain ⟨hk, hn⟩ := hk
    obtain ⟨u, hl, hr, hkl, hsz, hh⟩ := isK_cases hk
    have ho := isK_ok hk
    injection h with h1 _
    rcases hh with hh | hh | hh | hh
    · omega
    · omega
    · omega
    · have hd : bl t = u.drop (kOf s) := by rw [← h1, bl_from, hl, Nat.add_comm, List.drop_succ_cons]
      have hm : nOf s ≤ MAXV := (rv_R hr).1
      have hp := hh.2.2.2
      have hlen : (u.drop (kOf s)).length = u.length - kOf s := by rw [List.length_drop]
      have hpos := parse_le _ _ _ hp
      have hsz9 := (okS_size ho).2
      have hot : okS t = true := by
        unfold okS
        rw [termB_iff, hd, hlen]
        exact ⟨by omega, by omega, parse_mono 7 _ _ hp⟩
      have e : ((⟨#[115]⟩ : ByteArray) ++ varS k) ++ t = s := by
        apply bl_inj
        rw [← hn, bl_head ⟨#[115]⟩ 115 _ rfl hm t, hl, hd, ← R_split hr]
      unfold sealS termS
      rw [e, if_pos ⟨hot, by omega⟩, if_pos ho]
      exact ⟨rfl, ho, hot, by omega⟩
  · cases h
/-! ### keys -/
theorem key_read {k : Int} (h : 1 ≤ k ∧ k ≤ 1000000) : rkS (keyS k) = (k, true) ∧ okS (keyS k) = true := by
  have ho := key_ok k
  rw [decide_eq_true h] at ho
  unfold keyS
  rw [if_pos h]
  obtain ⟨n, rfl⟩ := Int.eq_ofNat_of_zero_le (show 0 ≤ k by omega)
  have hm : n ≤ MAXV := by unfold MAXV; omega
  have hb : bl ((⟨#[107]⟩ : ByteArray) ++ varS (n : Int)) = 107 :: var n := by rw [bl_append, bl_varS hm]; rfl
  obtain ⟨h1, h2⟩ := nk_of hb (rv_var' n hm)
  refine ⟨?_, ho⟩
  unfold rkS
  rw [if_pos (isK_of ho hb), h1]
theorem read_key {s : ByteArray} {n : Int} (h : rkS s = (n, true)) : keyS n = s ∧ (1 ≤ n ∧ n ≤ 1000000) ∧ okS s = true := by
  unfold rkS at h
  split at h
  · rename_i hk
    obtain ⟨t, hl, hr, hkl, hsz, hh⟩ := isK_cases hk
    injection h with h1 _
    rcases hh with hh | hh | hh | hh
    · omega
    · have hm : nOf s ≤ MAXV := (rv_R hr).1
      have hkey : 1 ≤ n ∧ n ≤ 1000000 := by omega
      refine ⟨?_, hkey, isK_ok hk⟩
      unfold keyS
      rw [if_pos hkey]
      apply bl_inj
      rw [bl_append, ← h1, bl_varS hm, hl]
      have e : bl (⟨#[107]⟩ : ByteArray) = [107] := rfl
      have e2 := R_split hr
      rw [List.drop_of_length_le (by omega), List.append_nil] at e2
      rw [e, e2]; rfl
    · omega
    · omega
  · cases h
/-! ### lists -/
theorem spl_cat (s : ByteArray) : ∀ (ps : List ByteArray) (a : Nat) (r : List Nat), (∀ p ∈ ps, okS p = true) → (bl s).drop a = bl (cat ps) ++ r → spl s ps.length a = ps := by
  intro ps
  induction ps with
  | nil => intro a r _ _; rfl
  | cons p ps ih =>
    intro a r h he
    have hp := h p (by simp)
    unfold okS at hp
    rw [termB_iff] at hp
    rw [cat_cons, bl_append, List.append_assoc] at he
    have hparse : parse 8 ((bl s).drop a) = some (bl p).length := by rw [he]; exact parse_app hp.2.2 _
    rw [List.length_cons, spl, hparse]
    simp only []
    have e1 : s.extract a (a + (bl p).length) = p := by
      apply bl_inj
      rw [bl_extract, ← drop_take_eq, he, List.take_left]
    rw [e1, ih (a + (bl p).length) r (fun q hq => h q (List.mem_cons_of_mem _ hq)) ?_]
    rw [← List.drop_drop, he, List.drop_left]
theorem list_read {ps : List ByteArray} (h : listS ps ≠ (⟨#[]⟩ : ByteArray)) : partsS (listS ps) = (ps, true) ∧ okS (listS ps) = true ∧ ps.length ≤ 12 ∧ (∀ p ∈ ps, okS p = true) := by
  unfold listS at h ⊢
  split at h
  · rename_i hh
    rw [if_pos hh]
    have hall : ∀ p ∈ ps, okS p = true := fun p hp => List.all_eq_true.mp hh.2 p hp
    have hm : ps.length ≤ MAXV := by unfold MAXV; omega
    unfold termS at h ⊢
    split at h
    · rename_i ho
      rw [if_pos ho]
      have hb : bl (rawL ps) = 108 :: (var ps.length ++ bl (cat ps)) := bl_head ⟨#[108]⟩ 108 ps.length rfl hm (cat ps)
      have hr := rv_var ps.length hm (bl (cat ps))
      obtain ⟨h1, h2⟩ := nk_of hb hr
      refine ⟨?_, ho, hh.1, hall⟩
      unfold partsS
      rw [if_pos (isK_of ho hb), h1, h2]
      congr 1
      refine spl_cat _ ps _ [] hall ?_
      rw [hb, Nat.add_comm, List.drop_succ_cons, List.drop_left, List.append_nil]
    · exact absurd rfl h
  · exact absurd rfl h
theorem spl_parts (s : ByteArray) (ho : s.size ≤ 900) : ∀ (n a q : Nat), a ≤ s.size → many (parse 8) n ((bl s).drop a) = some q → (spl s n a).length = n ∧ (∀ p ∈ spl s n a, okS p = true) ∧ bl (cat (spl s n a)) = ((bl s).drop a).take q := by
  intro n
  induction n with
  | zero =>
    intro a q _ h
    simp [many] at h
    subst h
    simp [spl]; rfl
  | succ n ih =>
    intro a q ha h
    rw [many_succ] at h
    cases hp : parse 8 ((bl s).drop a) with
    | none => rw [hp] at h; cases h
    | some m =>
      rw [hp] at h
      simp only [] at h
      cases hq : many (parse 8) n (((bl s).drop a).drop m) with
      | none => rw [hq] at h; cases h
      | some q' =>
        rw [hq] at h
        have hqe : m + q' = q := Option.some.inj h
        have hle := parse_le 8 _ _ hp
        rw [List.length_drop, bl_len] at hle
        have hq2 := hq
        rw [List.drop_drop] at hq2
        obtain ⟨i1, i2, i3⟩ := ih (a + m) q' (by omega) hq2
        have e1 : bl (s.extract a (a + m)) = ((bl s).drop a).take m := by rw [bl_extract, ← drop_take_eq]
        have hok : okS (s.extract a (a + m)) = true := by
          unfold okS
          rw [termB_iff, e1]
          have hl : (((bl s).drop a).take m).length = m := by rw [List.length_take, List.length_drop, bl_len]; omega
          rw [hl]
          exact ⟨by omega, by omega, parse_piece hp⟩
        rw [spl, hp]
        simp only []
        refine ⟨by rw [List.length_cons, i1], fun p hp' => ?_, ?_⟩
        · rcases List.mem_cons.mp hp' with rfl | hp'
          · exact hok
          · exact i2 p hp'
        · rw [cat_cons, bl_append, e1, i3, ← List.drop_drop, ← hqe, List.take_add]
theorem read_list {s : ByteArray} {ps : List ByteArray} (h : partsS s = (ps, true)) : listS ps = s ∧ okS s = true ∧ ps.length ≤ 12 ∧ (∀ p ∈ ps, okS p = true) := by
  unfold partsS at h
  split at h
  · rename_i hk
    obtain ⟨t, hl, hr, hkl, hsz, hh⟩ := isK_cases hk
    have ho := isK_ok hk
    have h9 := (okS_size ho).2
    injection h with h1 _
    rcases hh with hh | hh | hh | hh
    · omega
    · omega
    · have hm : nOf s ≤ MAXV := (rv_R hr).1
      have hmany := many_mono (parse_mono 7) _ _ _ hh.2.2
      have hdrop : (bl s).drop (1 + kOf s) = t.drop (kOf s) := by rw [hl, Nat.add_comm, List.drop_succ_cons]
      rw [← hdrop] at hmany
      obtain ⟨i1, i2, i3⟩ := spl_parts s h9 (nOf s) (1 + kOf s) _ (by omega) hmany
      rw [h1] at i1 i2 i3
      rw [hdrop, List.take_of_length_le (by rw [List.length_drop]; omega)] at i3
      have e : rawL ps = s := by
        apply bl_inj
        have := bl_head ⟨#[108]⟩ 108 ps.length rfl (by rw [i1]; exact hm) (cat ps)
        unfold rawL
        rw [this, i1, i3, hl, ← R_split hr]
      unfold listS termS
      rw [e, if_pos ⟨by omega, List.all_eq_true.mpr i2⟩, if_pos ho]
      exact ⟨rfl, ho, by omega, i2⟩
    · omega
  · cases h
/-! ### numbers -/
theorem num_read {n : Int} (h : 0 ≤ n ∧ n ≤ 562949953421311) : rnS (numS n) = (n, true) := by
  obtain ⟨m, rfl⟩ := Int.eq_ofNat_of_zero_le h.1
  have hm : m ≤ MAXV := by unfold MAXV; omega
  have e := (numS_in h).1
  have h7 := @var_size (m : Int)
  have hra : raS (numS (m : Int)) = (varS (m : Int), true) := by rw [e]; exact raw_atom_read (by omega)
  have hb := bl_varS hm
  have hR := R_var m hm []
  rw [List.append_nil, ← hb] at hR
  have hsz : (varS (m : Int)).size = (var m).length := by rw [← bl_len, hb]
  unfold rnS
  rw [hra]
  simp only []
  rw [rvI_some hR]
  have hp := var_len_pos m
  rw [if_pos]
  rw [hsz, hb]
  exact ⟨trivial, by simp only []; omega, rfl⟩
theorem read_num {s : ByteArray} {n : Int} (h : rnS s = (n, true)) : numS n = s ∧ (0 ≤ n ∧ n ≤ 562949953421311) := by
  unfold rnS at h
  split at h
  · rename_i hh
    injection h with h1 _
    obtain ⟨h2, h3, h4⟩ := hh
    obtain ⟨ha, hd, _⟩ := read_atom (s := s) (d := (raS s).1) (by rw [← h2])
    unfold rvI at h1 h3 h4
    cases hr : rv (bl (raS s).1) with
    | none => rw [hr] at h3; exact absurd rfl h3
    | some p =>
      obtain ⟨m, k⟩ := p
      rw [hr] at h1 h4
      simp only [] at h1 h4
      have hR := rv_R hr
      have hm : m ≤ MAXV := hR.1
      have hv : varS n = (raS s).1 := by
        apply bl_inj
        rw [← h1, bl_varS hm, ← hR.2.2]
        exact List.take_of_length_le (by rw [bl_len]; simp only []; omega)
      have hin : 0 ≤ n ∧ n ≤ 562949953421311 := by unfold MAXV at hm; omega
      refine ⟨?_, hin⟩
      unfold numS
      rw [if_neg (fun e => (varS_empty_iff n).1 e hin), hv, ha]
  · cases h
theorem nums_read {l : List Int} (h : numsS l ≠ (⟨#[]⟩ : ByteArray)) : rnsS (numsS l) = (l, true) ∧ okS (numsS l) = true ∧ l.length ≤ 12 ∧ (∀ n ∈ l, 0 ≤ n ∧ n ≤ 562949953421311) := by
  unfold numsS at h ⊢
  split at h
  · rename_i hh
    rw [if_pos hh]
    have hall : ∀ n ∈ l, 0 ≤ n ∧ n ≤ 562949953421311 := fun n hn => of_decide_eq_true (List.all_eq_true.mp hh.2 n hn)
    obtain ⟨h1, h2, h3, h4⟩ := list_read h
    refine ⟨?_, h2, hh.1, hall⟩
    unfold rnsS
    rw [h1]
    simp only []
    rw [if_pos]
    · congr 1
      rw [List.map_map]
      conv => rhs; rw [← List.map_id l]
      apply List.map_congr_left
      intro n hn
      simp only [Function.comp, num_read (hall n hn), id]
    · refine ⟨trivial, ?_⟩
      rw [List.all_eq_true]
      intro p hp
      obtain ⟨n, hn, rfl⟩ := List.mem_map.mp hp
      rw [num_read (hall n hn)]
  · exact absurd rfl h
theorem read_nums {s : ByteArray} {l : List Int} (h : rnsS s = (l, true)) : numsS l = s ∧ okS s = true ∧ l.length ≤ 12 ∧ (∀ n ∈ l, 0 ≤ n ∧ n ≤ 562949953421311) := by
  unfold rnsS at h
  split at h
  · rename_i hh
    injection h with h1 _
    have hp : partsS s = ((partsS s).1, true) := by rw [← hh.1]
    obtain ⟨i1, i2, i3, i4⟩ := read_list hp
    have hall : ∀ p ∈ (partsS s).1, rnS p = ((rnS p).1, true) := by
      intro p hp
      have := List.all_eq_true.mp hh.2 p hp
      rw [← this]
    have hnum : ∀ n ∈ l, 0 ≤ n ∧ n ≤ 562949953421311 := by
      intro n hn
      rw [← h1] at hn
      obtain ⟨p, hp, rfl⟩ := List.mem_map.mp hn
      exact (read_num (hall p hp)).2
    have hlen : l.length ≤ 12 := by rw [← h1, List.length_map]; exact i3
    refine ⟨?_, i2, hlen, hnum⟩
    unfold numsS
    rw [if_pos ⟨hlen, by rw [List.all_eq_true]; intro n hn; exact decide_eq_true (hnum n hn)⟩]
    have hm : l.map numS = (partsS s).1 := by
      rw [← h1, List.map_map]
      conv => rhs; rw [← List.map_id (partsS s).1]
      apply List.map_congr_left
      intro p hp
      simp only [Function.comp, id]
      exact (read_num (hall p hp)).1
    rw [hm, i1]
  · cases h
end Go.Proofs.Ytaldemgfndmmlaa.Base
