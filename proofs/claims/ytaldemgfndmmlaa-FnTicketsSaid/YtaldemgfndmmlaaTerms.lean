/- Plain facts on terms as lists of bytes, without any program; for all inputs. -/
import Derived.Test.YtaldemgfndmmlaaBase
namespace Go.Proofs.Ytaldemgfndmmlaa.Base
open Go.RowKit Go.Proofs.YtaldemgfndmmlaaW.PrintWords Go.Proofs.YtaldemgfndmmlaaW.PrintLast Go.Proofs.YtaldemgfndmmlaaW.PrintMore
set_option linter.unusedVariables false
set_option linter.unusedSimpArgs false

noncomputable def many (p : List Nat → Option Nat) : Nat → List Nat → Option Nat
  | 0, _ => some 0
  | n + 1, l => match p l with
    | none => none
    | some m => match many p n (l.drop m) with
      | none => none
      | some q => some (m + q)
/-- How many bytes the term has with which a text begins, of at most a depth. -/
noncomputable def parse : Nat → List Nat → Option Nat
  | 0, _ => none
  | _ + 1, [] => none
  | d + 1, c :: t => match rv t with
      | none => none
      | some (n, k) =>
        if c = 97 then (if n ≤ 40 ∧ n ≤ t.length - k then some (1 + k + n) else none)
        else if c = 107 then (if 1 ≤ n ∧ n ≤ 1000000 then some (1 + k) else none)
        else if c = 108 then (if n ≤ 12 then (match many (parse d) n (t.drop k) with | none => none | some q => some (1 + k + q)) else none)
        else if c = 115 then (if 1 ≤ n ∧ n ≤ 1000000 then (match parse d (t.drop k) with | none => none | some q => some (1 + k + q)) else none)
        else none
theorem parse_nil (d : Nat) : parse d [] = none := by cases d <;> simp [parse]
theorem many_le {p : List Nat → Option Nat} (hp : ∀ l m, p l = some m → m ≤ l.length) (n : Nat) : ∀ l q, many p n l = some q → q ≤ l.length := by
  induction n with
  | zero => intro l q h; simp [many] at h; omega
  | succ n ih =>
    intro l q h
    rw [many] at h
    split at h
    · cases h
    · rename_i m hm
      split at h
      · cases h
      · rename_i q' hq
        have := ih _ _ hq
        rw [List.length_drop] at this
        have := hp _ _ hm
        have := Option.some.inj h
        omega
theorem parse_le (d : Nat) : ∀ l m, parse d l = some m → 0 < m ∧ m ≤ l.length := by
  induction d with
  | zero => intro l m h; simp [parse] at h
  | succ d ih =>
    intro l m h
    cases l with
    | nil => simp [parse] at h
    | cons c t =>
      rw [parse] at h
      split at h
      · cases h
      · rename_i n k hr
        have hk := R_le (rv_R hr)
        simp only at hk
        rw [List.length_cons]
        split at h
        · split at h
          · have := Option.some.inj h; omega
          · cases h
        · split at h
          · split at h
            · have := Option.some.inj h; omega
            · cases h
          · split at h
            · split at h
              · split at h
                · cases h
                · rename_i q hq
                  have := many_le (fun l m h => (ih l m h).2) n _ _ hq
                  rw [List.length_drop] at this
                  have := Option.some.inj h; omega
              · cases h
            · split at h
              · split at h
                · split at h
                  · cases h
                  · rename_i q hq
                    have := (ih _ _ hq).2
                    rw [List.length_drop] at this
                    have := Option.some.inj h; omega
                · cases h
              · cases h
/-- The place behind a term, as Go's number. -/
def tA (at_ : Nat) : Option Nat → Int
  | some m => ((at_ + m : Nat) : Int)
  | none => -1
def pI : Option Nat → Int
  | some m => (m : Int)
  | none => 0
/-- How far it is to the place behind, from a place ahead. -/
def eI (a0 a : Nat) : Option Nat → Int
  | some q => ((a + q - a0 : Nat) : Int)
  | none => 0
def addO (m : Nat) : Option Nat → Option Nat
  | some q => some (m + q)
  | none => none
theorem many_succ (p : List Nat → Option Nat) (n : Nat) (l : List Nat) : many p (n + 1) l = (match p l with | none => none | some m => addO m (many p n (l.drop m))) := by
  rw [many]
  cases p l with
  | none => rfl
  | some m =>
    simp only []
    cases many p n (l.drop m) <;> rfl
theorem tA_add (a m : Nat) (o : Option Nat) : tA (a + m) o = tA a (addO m o) := by
  cases o with
  | none => rfl
  | some q => simp only [tA, addO]; rw [Nat.add_assoc]
theorem eI_add (a0 a m : Nat) (o : Option Nat) : eI a0 (a + m) o = eI a0 a (addO m o) := by
  cases o with
  | none => rfl
  | some q => simp only [eI, addO]; rw [Nat.add_assoc]
noncomputable def vA (l : List Nat) (at_ : Nat) : Int × Int := match rv (l.drop at_) with | some (n, k) => ((n : Int), ((at_ + k : Nat) : Int)) | none => (-1, (at_ : Int))
theorem bl_from (s : ByteArray) (a : Nat) : bl (s.extract a s.size) = (bl s).drop a := by
  rw [bl_extract, ← bl_len, List.take_of_length_le (Nat.le_refl _)]
noncomputable def termB (l : List Nat) : Bool := decide (1 ≤ l.length ∧ l.length ≤ 900 ∧ parse 8 l = some l.length)

theorem headD_get (l : List Nat) (h : 0 < l.length) : l.headD 0 = l[0] := by
  cases l with
  | nil => simp at h
  | cons a t => rfl
theorem termB_iff (l : List Nat) : termB l = true ↔ (1 ≤ l.length ∧ l.length ≤ 900 ∧ parse 8 l = some l.length) := by unfold termB; rw [decide_eq_true_iff]
/-- What a term is. -/
theorem parse_cases {d : Nat} {l : List Nat} {m : Nat} (h : parse (d + 1) l = some m) : ∃ c t n k, l = c :: t ∧ rv t = some (n, k) ∧
    ((c = 97 ∧ n ≤ 40 ∧ n ≤ t.length - k ∧ m = 1 + k + n) ∨ (c = 107 ∧ 1 ≤ n ∧ n ≤ 1000000 ∧ m = 1 + k) ∨ (c = 108 ∧ n ≤ 12 ∧ ∃ q, many (parse d) n (t.drop k) = some q ∧ m = 1 + k + q) ∨ (c = 115 ∧ 1 ≤ n ∧ n ≤ 1000000 ∧ ∃ q, parse d (t.drop k) = some q ∧ m = 1 + k + q)) := by
  cases l with
  | nil => simp [parse] at h
  | cons c t =>
    rw [parse] at h
    cases hr : rv t with
    | none => rw [hr] at h; simp at h
    | some p =>
      obtain ⟨n, k⟩ := p
      rw [hr] at h
      simp only [] at h
      refine ⟨c, t, n, k, rfl, hr, ?_⟩
      by_cases c1 : c = 97
      · rw [if_pos c1] at h
        split at h
        · rename_i hh
          exact .inl ⟨c1, hh.1, hh.2, (Option.some.inj h).symm⟩
        · cases h
      · rw [if_neg c1] at h
        by_cases c2 : c = 107
        · rw [if_pos c2] at h
          split at h
          · rename_i hh
            exact .inr (.inl ⟨c2, hh.1, hh.2, (Option.some.inj h).symm⟩)
          · cases h
        · rw [if_neg c2] at h
          by_cases c3 : c = 108
          · rw [if_pos c3] at h
            split at h
            · rename_i hh
              cases hq : many (parse d) n (t.drop k) with
              | none => rw [hq] at h; simp at h
              | some q =>
                rw [hq] at h
                exact .inr (.inr (.inl ⟨c3, hh, q, rfl, (Option.some.inj h).symm⟩))
            · cases h
          · rw [if_neg c3] at h
            by_cases c4 : c = 115
            · rw [if_pos c4] at h
              split at h
              · rename_i hh
                cases hq : parse d (t.drop k) with
                | none => rw [hq] at h; simp at h
                | some q =>
                  rw [hq] at h
                  exact .inr (.inr (.inr ⟨c4, hh.1, hh.2, q, rfl, (Option.some.inj h).symm⟩))
              · cases h
            · rw [if_neg c4] at h; cases h
/-- Each makes a term again. -/
theorem parse_atom {d : Nat} {t : List Nat} {n k : Nat} (hr : rv t = some (n, k)) (h1 : n ≤ 40) (h2 : n ≤ t.length - k) : parse (d + 1) (97 :: t) = some (1 + k + n) := by
  rw [parse, hr]; simp only []; rw [if_pos trivial, if_pos ⟨h1, h2⟩]
theorem parse_key {d : Nat} {t : List Nat} {n k : Nat} (hr : rv t = some (n, k)) (h1 : 1 ≤ n) (h2 : n ≤ 1000000) : parse (d + 1) (107 :: t) = some (1 + k) := by
  rw [parse, hr]; simp only []; rw [if_neg (by decide), if_pos trivial, if_pos ⟨h1, h2⟩]
theorem parse_list {d : Nat} {t : List Nat} {n k q : Nat} (hr : rv t = some (n, k)) (h1 : n ≤ 12) (h2 : many (parse d) n (t.drop k) = some q) : parse (d + 1) (108 :: t) = some (1 + k + q) := by
  rw [parse, hr]; simp only []; rw [if_neg (by decide), if_neg (by decide), if_pos trivial, if_pos h1, h2]
theorem parse_seal {d : Nat} {t : List Nat} {n k q : Nat} (hr : rv t = some (n, k)) (h0 : 1 ≤ n) (h1 : n ≤ 1000000) (h2 : parse d (t.drop k) = some q) : parse (d + 1) (115 :: t) = some (1 + k + q) := by
  rw [parse, hr]; simp only []; rw [if_neg (by decide), if_neg (by decide), if_neg (by decide), if_pos trivial, if_pos ⟨h0, h1⟩, h2]
theorem many_mono {p p' : List Nat → Option Nat} (hp : ∀ l m, p l = some m → p' l = some m) (n : Nat) : ∀ l q, many p n l = some q → many p' n l = some q := by
  induction n with
  | zero => intro l q h; simpa [many] using h
  | succ n ih =>
    intro l q h
    rw [many_succ] at h ⊢
    cases hm : p l with
    | none => rw [hm] at h; cases h
    | some m =>
      rw [hm] at h
      rw [hp _ _ hm]
      simp only [] at h ⊢
      cases hq : many p n (l.drop m) with
      | none => rw [hq] at h; cases h
      | some q' => rw [hq] at h; rw [ih _ _ hq]; exact h
theorem parse_mono (d : Nat) : ∀ l m, parse d l = some m → parse (d + 1) l = some m := by
  induction d with
  | zero => intro l m h; simp [parse] at h
  | succ d ih =>
    intro l m h
    obtain ⟨c, t, n, k, rfl, hr, h | h | h | h⟩ := parse_cases h
    · obtain ⟨rfl, h1, h2, rfl⟩ := h; exact parse_atom hr h1 h2
    · obtain ⟨rfl, h1, h2, rfl⟩ := h; exact parse_key hr h1 h2
    · obtain ⟨rfl, h1, q, h2, rfl⟩ := h; exact parse_list hr h1 (many_mono ih n _ _ h2)
    · obtain ⟨rfl, h0, h1, q, h2, rfl⟩ := h; exact parse_seal hr h0 h1 (ih _ _ h2)
/-- A term that is a whole text. -/
theorem termB_cases {l : List Nat} (h : termB l = true) : ∃ c t n k, l = c :: t ∧ rv t = some (n, k) ∧ k ≤ t.length ∧
    ((c = 97 ∧ n ≤ 40 ∧ t.length = k + n) ∨ (c = 107 ∧ 1 ≤ n ∧ n ≤ 1000000 ∧ t.length = k) ∨ (c = 108 ∧ n ≤ 12 ∧ many (parse 7) n (t.drop k) = some (t.length - k)) ∨ (c = 115 ∧ 1 ≤ n ∧ n ≤ 1000000 ∧ parse 7 (t.drop k) = some (t.length - k))) := by
  rw [termB_iff] at h
  obtain ⟨c, t, n, k, rfl, hr, hh⟩ := parse_cases h.2.2
  have hk := R_le (rv_R hr)
  simp only at hk
  refine ⟨c, t, n, k, rfl, hr, hk, ?_⟩
  rw [List.length_cons] at hh
  rcases hh with h | h | h | h
  · exact .inl ⟨h.1, h.2.1, by omega⟩
  · exact .inr (.inl ⟨h.1, h.2.1, h.2.2.1, by omega⟩)
  · obtain ⟨h1, h2, q, h3, h4⟩ := h
    exact .inr (.inr (.inl ⟨h1, h2, by rw [h3]; congr 1; omega⟩))
  · obtain ⟨h1, h2, h2', q, h3, h4⟩ := h
    exact .inr (.inr (.inr ⟨h1, h2, h2', by rw [h3]; congr 1; omega⟩))
theorem rv_var (n : Nat) (hn : n ≤ MAXV) (rest : List Nat) : rv (var n ++ rest) = some (n, (var n).length) := rv_some (R_var n hn rest)
theorem rv_var' (n : Nat) (hn : n ≤ MAXV) : rv (var n) = some (n, (var n).length) := by have := rv_var n hn []; rwa [List.append_nil] at this

/-! ### the same as texts -/
noncomputable def okS (s : ByteArray) : Bool := termB (bl s)
noncomputable def termS (s : ByteArray) : ByteArray := if okS s = true then s else ⟨#[]⟩
noncomputable def isK (s : ByteArray) (c : Nat) : Bool := okS s && decide ((bl s).headD 0 = c)
/-- The number behind a term's first byte, and how many bytes it has. -/
noncomputable def nOf (s : ByteArray) : Nat := ((rv ((bl s).drop 1)).getD (0, 0)).1
noncomputable def kOf (s : ByteArray) : Nat := ((rv ((bl s).drop 1)).getD (0, 0)).2
theorem okS_size {s : ByteArray} (h : okS s = true) : 1 ≤ s.size ∧ s.size ≤ 900 := by
  have := (termB_iff _).1 h
  rw [bl_len] at this
  exact ⟨this.1, this.2.1⟩
theorem isK_ok {s : ByteArray} {c : Nat} (h : isK s c = true) : okS s = true := by unfold isK at h; rw [Bool.and_eq_true] at h; exact h.1
theorem okS_rv {s : ByteArray} (h : okS s = true) : rv ((bl s).drop 1) = some (nOf s, kOf s) ∧ 1 ≤ kOf s ∧ 1 + kOf s ≤ s.size ∧ nOf s ≤ MAXV := by
  obtain ⟨c, t, n, k, hl, hr, hk, _⟩ := termB_cases h
  have e : (bl s).drop 1 = t := by rw [hl]; rfl
  have e2 : rv ((bl s).drop 1) = some (n, k) := by rw [e, hr]
  have hs : s.size = t.length + 1 := by rw [← bl_len, hl]; rfl
  have h3 : nOf s = n := by unfold nOf; rw [e2]; rfl
  have h4 : kOf s = k := by unfold kOf; rw [e2]; rfl
  have h5 := R_pos (rv_R hr)
  have h6 := (rv_R hr).1
  simp only at h5 h6
  rw [h3, h4]
  exact ⟨e2, h5, by omega, h6⟩
theorem okS_rvI {s : ByteArray} (h : okS s = true) : rvI ((bl s).drop 1) = ((nOf s : Int), (kOf s : Int)) := by
  unfold rvI; rw [(okS_rv h).1]
theorem okS_vA {s : ByteArray} (h : okS s = true) : vA (bl s) 1 = ((nOf s : Int), ((1 + kOf s : Nat) : Int)) := by
  unfold vA; rw [(okS_rv h).1]
theorem isK_cases {s : ByteArray} {c : Nat} (h : isK s c = true) : ∃ t, bl s = c :: t ∧ rv t = some (nOf s, kOf s) ∧ kOf s ≤ t.length ∧ s.size = t.length + 1 ∧
    ((c = 97 ∧ nOf s ≤ 40 ∧ t.length = kOf s + nOf s) ∨ (c = 107 ∧ 1 ≤ nOf s ∧ nOf s ≤ 1000000 ∧ t.length = kOf s) ∨ (c = 108 ∧ nOf s ≤ 12 ∧ many (parse 7) (nOf s) (t.drop (kOf s)) = some (t.length - kOf s)) ∨ (c = 115 ∧ 1 ≤ nOf s ∧ nOf s ≤ 1000000 ∧ parse 7 (t.drop (kOf s)) = some (t.length - kOf s))) := by
  have ho := isK_ok h
  obtain ⟨c', t, n, k, hl, hr, hk, hh⟩ := termB_cases ho
  have hc : c' = c := by
    unfold isK at h; rw [Bool.and_eq_true] at h
    have := of_decide_eq_true h.2
    rw [hl] at this
    exact this
  subst hc
  have h1 := (okS_rv ho).1
  rw [hl] at h1
  have h2 : rv t = some (nOf s, kOf s) := h1
  rw [hr] at h2
  have h3 := Option.some.inj h2
  injection h3 with h4 h5
  subst h4 h5
  exact ⟨t, hl, hr, hk, by rw [← bl_len, hl]; rfl, hh⟩
noncomputable def atomS (d : ByteArray) : ByteArray := termS (((⟨#[97]⟩ : ByteArray) ++ varS (d.size : Int)) ++ d)
noncomputable def sealS (k : Int) (t : ByteArray) : ByteArray := if okS t = true ∧ 1 ≤ k ∧ k ≤ 1000000 then termS (((⟨#[115]⟩ : ByteArray) ++ varS k) ++ t) else ⟨#[]⟩
noncomputable def keyS (k : Int) : ByteArray := if 1 ≤ k ∧ k ≤ 1000000 then (⟨#[107]⟩ : ByteArray) ++ varS k else ⟨#[]⟩
noncomputable def raS (s : ByteArray) : ByteArray × Bool := if isK s 97 = true then (s.extract (1 + kOf s) s.size, true) else (⟨#[]⟩, false)
noncomputable def rkS (s : ByteArray) : Int × Bool := if isK s 107 = true then ((nOf s : Int), true) else (0, false)
noncomputable def opS (s : ByteArray) (k : Int) : ByteArray × Bool := if isK s 115 = true ∧ (nOf s : Int) = k then (s.extract (1 + kOf s) s.size, true) else (⟨#[]⟩, false)
noncomputable def numS (n : Int) : ByteArray := open Classical in if varS n = (⟨#[]⟩ : ByteArray) then ⟨#[]⟩ else atomS (varS n)
noncomputable def rnS (s : ByteArray) : Int × Bool := if (raS s).2 = true ∧ ¬ (rvI (bl (raS s).1)).2 = 0 ∧ (rvI (bl (raS s).1)).2 = ((raS s).1.size : Int) then ((rvI (bl (raS s).1)).1, true) else (0, false)
theorem termS_le (s : ByteArray) : (termS s).size ≤ 900 := by
  unfold termS
  split
  · rename_i h; exact (okS_size h).2
  · decide
theorem bl_one (b : Nat) (hb : b < 256) : bl (⟨#[UInt8.ofNat b]⟩ : ByteArray) = [b] := by
  unfold bl; simp; omega
theorem var_size {n : Int} : (varS n).size ≤ 7 := by
  unfold varS
  split
  · rename_i h
    rw [ofB_size]
    exact var_len _ 6 (by omega)
  · decide
theorem varS_ne {n : Nat} (h : n ≤ MAXV) : varS (n : Int) ≠ (⟨#[]⟩ : ByteArray) := by
  intro e
  have := congrArg ByteArray.size e
  rw [varS_in h, ofB_size] at this
  have h2 := var_len_pos n
  have h3 : (⟨#[]⟩ : ByteArray).size = 0 := rfl
  omega
theorem head_byte (b : Nat) (s : ByteArray) : bl ((⟨#[UInt8.ofNat b]⟩ : ByteArray) ++ s) = (UInt8.ofNat b).toNat :: bl s := by
  rw [bl_append]; rfl
/-- A long text behind 'a' is no atom. -/
theorem atom_long {d : ByteArray} (h : 40 < d.size) (hm : d.size ≤ MAXV) : okS (((⟨#[97]⟩ : ByteArray) ++ varS (d.size : Int)) ++ d) = false := by
  cases ho : okS (((⟨#[97]⟩ : ByteArray) ++ varS (d.size : Int)) ++ d) with
  | false => rfl
  | true =>
    obtain ⟨c, t, n, k, hl, hr, hk, hh⟩ := termB_cases ho
    rw [bl_append, bl_append, bl_varS hm] at hl
    have e : bl (⟨#[97]⟩ : ByteArray) = [97] := rfl
    rw [e] at hl
    simp only [List.cons_append, List.nil_append, List.append_assoc] at hl
    injection hl with h1 h2
    subst h1 h2
    rw [rv_var _ hm] at hr
    injection hr with hr
    injection hr with hn hk'
    rcases hh with h | h | h | h
    · omega
    · omega
    · omega
    · omega
/-- 'k' and a number are a term where the number is a key's. -/
theorem key_ok (k : Int) : okS ((⟨#[107]⟩ : ByteArray) ++ varS k) = decide (1 ≤ k ∧ k ≤ 1000000) := by
  have e : bl (⟨#[107]⟩ : ByteArray) = [107] := rfl
  by_cases hin : 0 ≤ k ∧ k ≤ 562949953421311
  · obtain ⟨n, rfl⟩ := Int.eq_ofNat_of_zero_le hin.1
    have hm : n ≤ MAXV := by unfold MAXV; omega
    have hb : bl ((⟨#[107]⟩ : ByteArray) ++ varS (n : Int)) = 107 :: var n := by rw [bl_append, bl_varS hm, e]; rfl
    have hr := rv_var' n hm
    by_cases hk : 1 ≤ n ∧ n ≤ 1000000
    · rw [decide_eq_true (by omega)]
      unfold okS
      rw [termB_iff, hb]
      have hl := var_len n 6 (by omega)
      refine ⟨by simp, by simp; omega, ?_⟩
      rw [parse_key hr hk.1 hk.2, List.length_cons, Nat.add_comm]
    · rw [decide_eq_false (by omega)]
      cases ho : okS ((⟨#[107]⟩ : ByteArray) ++ varS (n : Int)) with
      | false => rfl
      | true =>
        obtain ⟨c, t, n', k', hl, hr', hk', hh⟩ := termB_cases ho
        rw [hb] at hl
        injection hl with h1 h2
        subst h1 h2
        rw [hr] at hr'
        injection hr' with hr'
        injection hr' with hn hk2
        subst hn
        rcases hh with h | h | h | h <;> omega
  · rw [varS_out hin, decide_eq_false (by omega)]
    cases ho : okS ((⟨#[107]⟩ : ByteArray) ++ (⟨#[]⟩ : ByteArray)) with
    | false => rfl
    | true =>
      obtain ⟨c, t, n', k', hl, hr', hk', hh⟩ := termB_cases ho
      have hb : bl ((⟨#[107]⟩ : ByteArray) ++ (⟨#[]⟩ : ByteArray)) = [107] := by rw [bl_append]; rfl
      rw [hb] at hl
      injection hl with h1 h2
      subst h2
      have := R_le (rv_R hr')
      have h0 := R_pos (rv_R hr')
      simp at this h0
      omega

/-! ### lists of terms -/
noncomputable def spl (s : ByteArray) : Nat → Nat → List ByteArray
  | 0, _ => []
  | n + 1, a => match parse 8 ((bl s).drop a) with
    | some m => s.extract a (a + m) :: spl s n (a + m)
    | none => []
theorem spl_len (s : ByteArray) (n : Nat) : ∀ a, (spl s n a).length ≤ n := by
  induction n with
  | zero => intro a; simp [spl]
  | succ n ih =>
    intro a
    rw [spl]
    split
    · have := ih (a + ‹Nat›); simp; omega
    · simp
noncomputable def partsS (s : ByteArray) : List ByteArray × Bool := if isK s 108 = true then (spl s (nOf s) (1 + kOf s), true) else ([], false)
theorem list_cases {s : ByteArray} (h : isK s 108 = true) : nOf s ≤ 12 ∧ ∃ q, many (parse 8) (nOf s) ((bl s).drop (1 + kOf s)) = some q := by
  obtain ⟨t, hl, _, _, _, hh⟩ := isK_cases h
  rcases hh with h | h | h | h
  · omega
  · omega
  · refine ⟨h.2.1, t.length - kOf s, ?_⟩
    rw [hl, Nat.add_comm, List.drop_succ_cons]
    exact many_mono (parse_mono 7) _ _ _ h.2.2
  · omega
theorem partsS_len (s : ByteArray) : (partsS s).1.length ≤ 12 := by
  unfold partsS
  split
  · rename_i h
    exact Nat.le_trans (spl_len _ _ _) (list_cases h).1
  · simp
theorem mem_spl (s : ByteArray) (n : Nat) : ∀ a p, p ∈ spl s n a → p.size ≤ s.size := by
  induction n with
  | zero => intro a p h; simp [spl] at h
  | succ n ih =>
    intro a p h
    rw [spl] at h
    split at h
    · rcases List.mem_cons.mp h with rfl | h
      · rw [ByteArray.size_extract]; omega
      · exact ih _ _ h
    · cases h
theorem mem_parts {s p : ByteArray} (h : p ∈ (partsS s).1) : p.size ≤ 900 := by
  unfold partsS at h
  split at h
  · rename_i hk
    have := mem_spl _ _ _ _ h
    have := (okS_size (isK_ok hk)).2
    omega
  · cases h
def cat (ps : List ByteArray) : ByteArray := ps.foldl (· ++ ·) ⟨#[]⟩
theorem foldl_cat (ps : List ByteArray) (a : ByteArray) : ps.foldl (· ++ ·) a = a ++ cat ps := by
  unfold cat
  induction ps generalizing a with
  | nil => exact ByteArray.append_empty.symm
  | cons p ps ih =>
    rw [List.foldl_cons, List.foldl_cons, ih, ih ((⟨#[]⟩ : ByteArray) ++ p), empty_append', ByteArray.append_assoc]
theorem cat_cons (p : ByteArray) (ps : List ByteArray) : cat (p :: ps) = p ++ cat ps := by
  show (p :: ps).foldl (· ++ ·) ⟨#[]⟩ = _
  rw [List.foldl_cons, empty_append', foldl_cat]
theorem bl_cat (ps : List ByteArray) : bl (cat ps) = (ps.map bl).flatten := by
  induction ps with
  | nil => rfl
  | cons p ps ih => rw [cat_cons, bl_append, ih]; rfl
noncomputable def rawL (ps : List ByteArray) : ByteArray := ((⟨#[108]⟩ : ByteArray) ++ varS (ps.length : Int)) ++ cat ps
noncomputable def listS (ps : List ByteArray) : ByteArray := if ps.length ≤ 12 ∧ ps.all okS = true then termS (rawL ps) else ⟨#[]⟩
/-- What begins as a list of more than 12 parts is no term. -/
theorem list_long {n : Nat} (h : 12 < n) (hm : n ≤ MAXV) (r : ByteArray) : okS (((⟨#[108]⟩ : ByteArray) ++ varS (n : Int)) ++ r) = false := by
  cases ho : okS (((⟨#[108]⟩ : ByteArray) ++ varS (n : Int)) ++ r) with
  | false => rfl
  | true =>
    obtain ⟨c, t, n', k, hl, hr, hk, hh⟩ := termB_cases ho
    rw [bl_append, bl_append, bl_varS hm] at hl
    have e : bl (⟨#[108]⟩ : ByteArray) = [108] := rfl
    rw [e] at hl
    simp only [List.cons_append, List.nil_append, List.append_assoc] at hl
    injection hl with h1 h2
    subst h1 h2
    rw [rv_var _ hm] at hr
    injection hr with hr
    injection hr with hn hk'
    rcases hh with h | h | h | h <;> omega
noncomputable def numsS (l : List Int) : ByteArray := if l.length ≤ 12 ∧ (l.all fun n => decide (0 ≤ n ∧ n ≤ 562949953421311)) = true then listS (l.map numS) else ⟨#[]⟩
noncomputable def rnsS (s : ByteArray) : List Int × Bool := if (partsS s).2 = true ∧ ((partsS s).1.all fun p => (rnS p).2) = true then ((partsS s).1.map fun p => (rnS p).1, true) else ([], false)
theorem varS_empty_iff (n : Int) : varS n = (⟨#[]⟩ : ByteArray) ↔ ¬ (0 ≤ n ∧ n ≤ 562949953421311) := by
  constructor
  · intro h hn
    obtain ⟨m, rfl⟩ := Int.eq_ofNat_of_zero_le hn.1
    exact varS_ne (by unfold MAXV; omega) h
  · intro h; exact varS_out h
/-- A short atom is a term. -/
theorem atom_ok {d : ByteArray} (h : d.size ≤ 40) : okS (((⟨#[97]⟩ : ByteArray) ++ varS (d.size : Int)) ++ d) = true := by
  have hm : d.size ≤ MAXV := by unfold MAXV; omega
  have hb : bl (((⟨#[97]⟩ : ByteArray) ++ varS (d.size : Int)) ++ d) = 97 :: (var d.size ++ bl d) := by
    rw [bl_append, bl_append, bl_varS hm]; rfl
  have hr := rv_var d.size hm (bl d)
  unfold okS
  rw [termB_iff, hb]
  have hv : (var d.size).length ≤ 7 := var_len _ 6 (by omega)
  have hl : (97 :: (var d.size ++ bl d)).length = 1 + (var d.size).length + d.size := by
    rw [List.length_cons, List.length_append, bl_len]; omega
  rw [hl]
  refine ⟨by omega, by omega, parse_atom hr h ?_⟩
  rw [List.length_append, bl_len]; omega
theorem numS_in {n : Int} (h : 0 ≤ n ∧ n ≤ 562949953421311) : numS n = ((⟨#[97]⟩ : ByteArray) ++ varS ((varS n).size : Int)) ++ varS n ∧ okS (numS n) = true ∧ ¬ numS n = (⟨#[]⟩ : ByteArray) := by
  have hne : ¬ varS n = (⟨#[]⟩ : ByteArray) := fun e => (varS_empty_iff n).1 e h
  have h7 := @var_size n
  have ho := atom_ok (d := varS n) (by omega)
  have e : numS n = ((⟨#[97]⟩ : ByteArray) ++ varS ((varS n).size : Int)) ++ varS n := by
    unfold numS; rw [if_neg hne]
    unfold atomS termS; rw [if_pos ho]
  refine ⟨e, by rw [e]; exact ho, fun e2 => ?_⟩
  rw [e] at e2
  rw [e2] at ho
  have := okS_size ho
  have h0 : (⟨#[]⟩ : ByteArray).size = 0 := rfl
  omega
theorem numS_out {n : Int} (h : ¬ (0 ≤ n ∧ n ≤ 562949953421311)) : numS n = (⟨#[]⟩ : ByteArray) := by
  unfold numS; rw [if_pos ((varS_empty_iff n).2 h)]
theorem numS_size (n : Int) : (numS n).size ≤ 900 := by
  by_cases h : 0 ≤ n ∧ n ≤ 562949953421311
  · exact (okS_size (numS_in h).2.1).2
  · rw [numS_out h]; decide
theorem empty_not_ok : okS (⟨#[]⟩ : ByteArray) = false := by
  cases h : okS (⟨#[]⟩ : ByteArray) with
  | false => rfl
  | true =>
    have := okS_size h
    have h0 : (⟨#[]⟩ : ByteArray).size = 0 := rfl
    omega
theorem cat_size (ps : List ByteArray) (h : ∀ p ∈ ps, p.size ≤ 900) : (cat ps).size ≤ 900 * ps.length := by
  induction ps with
  | nil => decide
  | cons p ps ih =>
    rw [cat_cons, ByteArray.size_append, List.length_cons]
    have := ih (fun q hq => h q (List.mem_cons_of_mem _ hq))
    have := h p (by simp)
    omega
theorem rdOf_get (l : List ByteArray) (i : Nat) (h : i < l.length) : rdOf ByteArray.empty l (i : Int) = l[i] := by
  unfold rdOf
  rw [Int.toNat_natCast, List.getD_eq_getElem?_getD, List.getElem?_eq_getElem h]; rfl
theorem rd_get (l : List Int) (i : Nat) (h : i < l.length) : rd l (i : Int) = l[i] := by
  unfold rd
  rw [Int.toNat_natCast, List.getD_eq_getElem?_getD, List.getElem?_eq_getElem h]; rfl
end Go.Proofs.Ytaldemgfndmmlaa.Base
