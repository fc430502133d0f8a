/- Plain facts on terms as lists of bytes, without any program; for all inputs. -/
import Derived.Test.YtcicpbneiofgbaaBase
namespace Go.Proofs.Ytcicpbneiofgbaa.Base
open Go.RowKit Go.Proofs.YtcicpbneiofgbaaW.PrintWords Go.Proofs.YtcicpbneiofgbaaW.PrintLast Go.Proofs.YtcicpbneiofgbaaW.PrintMore
set_option linter.unusedVariables false
set_option linter.unusedSimpArgs false

noncomputable def many (p : List Nat → Option Nat) : Nat → List Nat → Option Nat
  | 0, _ => some 0
  | n + 1, l => match p l with
    | none => none
    | some m => match many p n (l.drop m) with
      | none => none
      | some q => some (m + q)
/-- How many bytes the term has with which a text begins, of at most a depth. -/
noncomputable def parse : Nat → List Nat → Option Nat
  | 0, _ => none
  | _ + 1, [] => none
  | d + 1, c :: t => match rv t with
      | none => none
      | some (n, k) =>
        if c = 97 then (if n ≤ 40 ∧ n ≤ t.length - k then some (1 + k + n) else none)
        else if c = 107 then (if 1 ≤ n ∧ n ≤ 1000000 then some (1 + k) else none)
        else if c = 108 then (if n ≤ 12 then (match many (parse d) n (t.drop k) with | none => none | some q => some (1 + k + q)) else none)
        else if c = 115 then (if 1 ≤ n ∧ n ≤ 1000000 then (match parse d (t.drop k) with | none => none | some q => some (1 + k + q)) else none)
        else none
theorem parse_nil (d : Nat) : parse d [] = none := by cases d <;> simp [parse]
theorem many_le {p : List Nat → Option Nat} (hp : ∀ l m, p l = some m → m ≤ l.length) (n : Nat) : ∀ l q, many p n l = some q → q ≤ l.length := by
  induction n with
  | zero => intro l q h; simp [many] at h; omega
  | succ n ih =>
    intro l q h
    rw [many] at h
    split at h
    · cases h
    · rename_i m hm
      split at h
      · cases h
      · rename_i q' hq
        have := ih _ _ hq
        rw [List.length_drop] at this
        have := hp _ _ hm
        have := Option.some.inj h
        omega
theorem parse_le (d : Nat) : ∀ l m, parse d l = some m → 0 < m ∧ m ≤ l.length := by
  induction d with
  | zero => intro l m h; simp [parse] at h
  | succ d ih =>
    intro l m h
    cases l with
    | nil => simp [parse] at h
    | cons c t =>
      rw [parse] at h
      split at h
      · cases h
      · rename_i n k hr
        have hk := R_le (rv_R hr)
        simp only at hk
        rw [List.length_cons]
        split at h
        · split at h
          · have := Option.some.inj h; omega
          · cases h
        · split at h
          · split at h
            · have := Option.some.inj h; omega
            · cases h
          · split at h
            · split at h
              · split at h
                · cases h
                · rename_i q hq
                  have := many_le (fun l m h => (ih l m h).2) n _ _ hq
                  rw [List.length_drop] at this
                  have := Option.some.inj h; omega
              · cases h
            · split at h
              · split at h
                · split at h
                  · cases h
                  · rename_i q hq
                    have := (ih _ _ hq).2
                    rw [List.length_drop] at this
                    have := Option.some.inj h; omega
                · cases h
              · cases h
/-- The place behind a term, as Go's number. -/
def tA (at_ : Nat) : Option Nat → Int
  | some m => ((at_ + m : Nat) : Int)
  | none => -1
def pI : Option Nat → Int
  | some m => (m : Int)
  | none => 0
/-- How far it is to the place behind, from a place ahead. -/
def eI (a0 a : Nat) : Option Nat → Int
  | some q => ((a + q - a0 : Nat) : Int)
  | none => 0
def addO (m : Nat) : Option Nat → Option Nat
  | some q => some (m + q)
  | none => none
theorem many_succ (p : List Nat → Option Nat) (n : Nat) (l : List Nat) : many p (n + 1) l = (match p l with | none => none | some m => addO m (many p n (l.drop m))) := by
  rw [many]
  cases p l with
  | none => rfl
  | some m =>
    simp only []
    cases many p n (l.drop m) <;> rfl
theorem tA_add (a m : Nat) (o : Option Nat) : tA (a + m) o = tA a (addO m o) := by
  cases o with
  | none => rfl
  | some q => simp only [tA, addO]; rw [Nat.add_assoc]
theorem eI_add (a0 a m : Nat) (o : Option Nat) : eI a0 (a + m) o = eI a0 a (addO m o) := by
  cases o with
  | none => rfl
  | some q => simp only [eI, addO]; rw [Nat.add_assoc]
noncomputable def vA (l : List Nat) (at_ : Nat) : Int × Int := match rv (l.drop at_) with | some (n, k) => ((n : Int), ((at_ + k : Nat) : Int)) | none => (-1, (at_ : Int))
theorem bl_from (s : ByteArray) (a : Nat) : bl (s.extract a s.size) = (bl s).drop a := by
  rw [bl_extract, ← bl_len, List.take_of_length_le (Nat.le_refl _)]
noncomputable def termB (l : List Nat) : Bool := decide (1 ≤ l.length ∧ l.length ≤ 900 ∧ parse 8 l = some l.length)

theorem headD_get (l : List Nat) (h : 0 < l.length) : l.headD 0 = l[0] := by
  cases l with
  | nil => simp at h
  | cons a t => rfl
theorem termB_iff (l : List Nat) : termB l = true ↔ (1 ≤ l.length ∧ l.length ≤ 900 ∧ parse 8 l = some l.length) := by unfold termB; rw [decide_eq_true_iff]
/-- What a term is. -/
theorem parse_cases {d : Nat} {l : List Nat} {m : Nat} (h : parse (d + 1) l = some m) : ∃ c t n k, l = c :: t ∧ rv t = some (n, k) ∧
    ((c = 97 ∧ n ≤ 40 ∧ n ≤ t.length - k ∧ m = 1 + k + n) ∨ (c = 107 ∧ 1 ≤ n ∧ n ≤ 1000000 ∧ m = 1 + k) ∨ (c = 108 ∧ n ≤ 12 ∧ ∃ q, many (parse d) n (t.drop k) = some q ∧ m = 1 + k + q) ∨ (c = 115 ∧ 1 ≤ n ∧ n ≤ 1000000 ∧ ∃ q, parse d (t.drop k) = some q ∧ m = 1 + k + q)) := by
  cases l with
  | nil => simp [parse] at h
  | cons c t =>
    rw [parse] at h
    cases hr : rv t with
    | none => rw [hr] at h; simp at h
    | some p =>
      obtain ⟨n, k⟩ := p
      rw [hr] at h
      simp only [] at h
      refine ⟨c, t, n, k, rfl, hr, ?_⟩
      by_cases c1 : c = 97
      · rw [if_pos c1] at h
        split at h
        · rename_i hh
          exact .inl ⟨c1, hh.1, hh.2, (Option.some.inj h).symm⟩
        · cases h
      · rw [if_neg c1] at h
        by_cases c2 : c = 107
        · rw [if_pos c2] at h
          split at h
          · rename_i hh
            exact .inr (.inl ⟨c2, hh.1, hh.2, (Option.some.inj h).symm⟩)
          · cases h
        · rw [if_neg c2] at h
          by_cases c3 : c = 108
          · rw [if_pos c3] at h
            split at h
            · rename_i hh
              cases hq : many (parse d) n (t.drop k) with
              | none => rw [hq] at h; simp at h
              | some q =>
                rw [hq] at h
                exact .inr (.inr (.inl ⟨c3, hh, q, rfl, (Option.some.inj h).symm⟩))
            · cases h
          · rw [if_neg c3] at h
            by_cases c4 : c = 115
            · rw [if_pos c4] at h
              split at h
              · rename_i hh
                cases hq : parse d (t.drop k) with
                | none => rw [hq] at h; simp at h
                | some q =>
                  rw [hq] at h
                  exact .inr (.inr (.inr ⟨c4, hh.1, hh.2, q, rfl, (Option.some.inj h).symm⟩))
              · cases h
            · rw [if_neg c4] at h; cases h
/-- Each makes a term again. -/
theorem parse_atom {d : Nat} {t : List Nat} {n k : Nat} (hr : rv t = some (n, k)) (h1 : n ≤ 40) (h2 : n ≤ t.length - k) : parse (d + 1) (97 :: t) = some (1 + k + n) := by
  rw [parse, hr]; simp only []; rw [if_pos trivial, if_pos ⟨h1, h2⟩]
theorem parse_key {d : Nat} {t : List Nat} {n k : Nat} (hr : rv t = some (n, k)) (h1 : 1 ≤ n) (h2 : n ≤ 1000000) : parse (d + 1) (107 :: t) = some (1 + k) := by
  rw [parse, hr]; simp only []; rw [if_neg (by decide), if_pos trivial, if_pos ⟨h1, h2⟩]
theorem parse_list {d : Nat} {t : List Nat} {n k q : Nat} (hr : rv t = some (n, k)) (h1 : n ≤ 12) (h2 : many (parse d) n (t.drop k) = some q) : parse (d + 1) (108 :: t) = some (1 + k + q) := by
  rw [parse, hr]; simp only []; rw [if_neg (by decide), if_neg (by decide), if_pos trivial, if_pos h1, h2]
theorem parse_seal {d : Nat} {t : List Nat} {n k q : Nat} (hr : rv t = some (n, k)) (h0 : 1 ≤ n) (h1 : n ≤ 1000000) (h2 : parse d (t.drop k) = some q) : parse (d + 1) (115 :: t) = some (1 + k + q) := by
  rw [parse, hr]; simp only []; rw [if_neg (by decide), if_neg (by decide), if_neg (by decide), if_pos trivial, if_pos ⟨h0, h1⟩, h2]
theorem many_mono {p p' : List Nat → Option Nat} (hp : ∀ l m, p l = some m → p' l = some m) (n : Nat) : ∀ l q, many p n l = some q → many p' n l = some q := by
  induction n with
  | zero => intro l q h; simpa [many] using h
  | succ n ih =>
    intro l q h
    rw [many_succ] at h ⊢
    cases hm : p l with
    | none => rw [hm] at h; cases h
    | some m =>
      rw [hm] at h
      rw [hp _ _ hm]
      simp only [] at h ⊢
      cases hq : many p n (l.drop m) with
      | none => rw [hq] at h; cases h
      | some q' => rw [hq] at h; rw [ih _ _ hq]; exact h
theorem parse_mono (d : Nat) : ∀ l m, parse d l = some m → parse (d + 1) l = some m := by
  induction d with
  | zero => intro l m h; simp [parse] at h
  | succ d ih =>
    intro l m h
    obtain ⟨c, t, n, k, rfl, hr, h | h | h | h⟩ := parse_cases h
    · obtain ⟨rfl, h1, h2, rfl⟩ := h; exact parse_atom hr h1 h2
    · obtain ⟨rfl, h1, h2, rfl⟩ := h; exact parse_key hr h1 h2
    · obtain ⟨rfl, h1, q, h2, rfl⟩ := h; exact parse_list hr h1 (many_mono ih n _ _ h2)
    · obtain ⟨rfl, h0, h1, q, h2, rfl⟩ := h; exact parse_seal hr h0 h1 (ih _ _ h2)
/-- A term that is a whole text. -/
theorem termB_cases {l : List Nat} (h : termB l = true) : ∃ c t n k, l = c :: t ∧ rv t = some (n, k) ∧ k ≤ t.length ∧
    ((c = 97 ∧ n ≤ 40 ∧ t.length = k + n) ∨ (c = 107 ∧ 1 ≤ n ∧ n ≤ 1000000 ∧ t.length = k) ∨ (c = 108 ∧ n ≤ 12 ∧ many (parse 7) n (t.drop k) = some (t.length - k)) ∨ (c = 115 ∧ 1 ≤ n ∧ n ≤ 1000000 ∧ parse 7 (t.drop k) = some (t.length - k))) := by
  rw [termB_iff] at h
  obtain ⟨c, t, n, k, rfl, hr, hh⟩ := parse_cases h.2.2
  have hk := R_le (rv_R hr)
  simp only at hk
  refine ⟨c, t, n, k, rfl, hr, hk, ?_⟩
  rw [List.length_cons] at hh
  rcases hh with h | h | h | h
  · exact .inl ⟨h.1, h.2.1, by omega⟩
  · exact .inr (.inl ⟨h.1, h.2.1, h.2.2.1, by omega⟩)
  · obtain ⟨h1, h2, q, h3, h4⟩ := h
    exact .inr (.inr (.inl ⟨h1, h2, by rw [h3]; congr 1; omega⟩))
  · obtain ⟨h1, h2, h2', q, h3, h4⟩ := h
    exact .inr (.inr (.inr ⟨h1, h2, h2', by rw [h3]; congr 1; omega⟩))
theorem rv_var (n : Nat) (hn : n ≤ MAXV) (rest : List Nat) : rv (var n ++ rest) = some (n, (var n).length) := rv_some (R_var n hn rest)
theorem rv_var' (n : Nat) (hn : n ≤ MAXV) : rv (var n) = some (n, (var n).length) := by have := rv_var n hn []; rwa [List.append_nil] at this

/-! ### the same as texts -/
noncomputable def okS (s : ByteArray) : Bool := termB (bl s)
noncomputable def termS (s : ByteArray) : ByteArray := if okS s = true then s else ⟨#[]⟩
noncomputable def isK (s : ByteArray) (c : Nat) : Bool := okS s && decide ((bl s).headD 0 = c)
/-- The number behind a term's first byte, and how many bytes it has. -/
noncomputable def nOf (s : ByteArray) : Nat := ((rv ((bl s).drop 1)).getD (0, 0)).1
noncomputable def kOf (s : ByteArray) : Nat := ((rv ((bl s).drop 1)).getD (0, 0)).2
theorem okS_size {s : ByteArray} (h : okS s = true) : 1 ≤ s.size ∧ s.size ≤ 900 := by
  have := (termB_iff _).1 h
  rw [bl_len] at this
  exact ⟨this.1, this.2.1⟩
theorem isK_ok {s : ByteArray} {c : Nat} (h : isK s c = true) : okS s = true := by unfold isK at h; rw [Bool.and_eq_true] at h; exact h.1
theorem okS_rv {s : ByteArray} (h : okS s = true) : rv ((bl s).drop 1) = some (nOf s, kOf s) ∧ 1 ≤ kOf s ∧ 1 + kOf s ≤ s.size ∧ nOf s ≤ MAXV := by
  obtain ⟨c, t, n, k, hl, hr, hk, _⟩ := termB_cases h
  have e : (bl s).drop 1 = t := by rw [hl]; rfl
  have e2 : rv ((bl s).drop 1) = some (n, k) := by rw [e, hr]
  have hs : s.size = t.length + 1 := by rw [← bl_len, hl]; rfl
  have h3 : nOf s = n := by unfold nOf; rw [e2]; rfl
  have h4 : kOf s = k := by unfold kOf; rw [e2]; rfl
  have h5 := R_pos (rv_R hr)
  have h6 := (rv_R hr).1
  simp only at h5 h6
  rw [h3, h4]
  exact ⟨e2, h5, by omega, h6⟩
theorem okS_rvI {s : ByteArray} (h : okS s = true) : rvI ((bl s).drop 1) = ((nOf s : Int), (kOf s : Int)) := by
  unfold rvI; rw [(okS_rv h).1]
theorem okS_vA {s : ByteArray} (h : okS s = true) : vA (bl s) 1 = ((nOf s : Int), ((1 + kOf s : Nat) : Int)) := by
  unfold vA; rw [(okS_rv h).1]
theorem isK_cases {s : ByteArray} {c : Nat} (h : isK s c = true) : ∃ t, bl s = c :: t ∧ rv t = some (nOf s, kOf s) ∧ kOf s ≤ t.length ∧ s.size = t.length + 1 ∧
    ((c = 97 ∧ nOf s ≤ 40 ∧ t.length = kOf s + nOf s) ∨ (c = 107 ∧ 1 ≤ nOf s ∧ nOf s ≤ 1000000 ∧ t.length = kOf s) ∨ (c = 108 ∧ nOf s ≤ 12 ∧ many (parse 7) (nOf s) (t.drop (kOf s)) = some (t.length - kOf s)) ∨ (c = 115 ∧ 1 ≤ nOf s ∧ nOf s ≤ 1000000 ∧ parse 7 (t.drop (kOf s)) = some (t.length - kOf s))) := by
  have ho := isK_ok h
  obtain ⟨c', t, n, k, hl, hr, hk, hh⟩ := termB_cases ho
  have hc : c' = c := by
    unfold isK at h; rw [Bool.and_eq_true] at h
    have := of_decide_eq_true h.2
    rw [hl] at this
    exact this
  subst hc
  have h1 := (okS_rv ho).1
  rw [hl] at h1
  have h2 : rv t = some (nOf s, kOf s) := h1
  rw [hr] at h2
  have h3 := Option.some.inj h2
  injection h3 with h4 h5
  subst h4 h5
  exact ⟨t, hl, hr, hk, by rw [← bl_len, hl]; rfl, hh⟩
noncomputable def atomS (d : ByteArray) : ByteArray := termS (((⟨#[97]⟩ : ByteArray) ++ varS (d.size : Int)) ++ d)
noncomputable def sealS (k : Int) (t : ByteArray) : ByteArray := if okS t = true ∧ 1 ≤ k ∧ k ≤ 1000000 then termS (((⟨#[115]⟩ : ByteArray) ++ varS k) ++ t) else ⟨#[]⟩
noncomputable def keyS (k : Int) : ByteArray := if 1 ≤ k ∧ k ≤ 1000000 then (⟨#[107]⟩ : ByteArray) ++ varS k else ⟨#[]⟩
noncomputable def raS (s : ByteArray) : ByteArray × Bool := if isK s 97 = true then (s.extract (1 + kOf s) s.size, true) else (⟨#[]⟩, false)
noncomputable def rkS (s : ByteArray) : Int × Bool := if isK s 107 = true then ((nOf s : Int), true) else (0, false)
noncomputable def opS (s : ByteArray) (k : Int) : ByteArray × Bool := if isK s 115 = true ∧ (nOf s : Int) = k then (s.extract (1 + kOf s) s.size, true) else (⟨#[]⟩, false)
noncomputable def numS (n : Int) : ByteArray := open Classical in if varS n = (⟨#[]⟩ : ByteArray) then ⟨#[]⟩ else atomS (varS n)
noncomputable def rnS (s : ByteArray) : Int × Bool := if (raS s).2 = true ∧ ¬ (rvI (bl (raS s).1)).2 = 0 ∧ (rvI (bl (raS s).1)).2 = ((raS s).1.size : Int) then ((rvI (bl (raS s).1)).1, true) else (0, false)
theorem termS_le (s : ByteArray) : (termS s).size ≤ 900 := by
  unfold termS
  split
  · rename_i h; exact (okS_size h).2
  · decide
theorem bl_one (b : Nat) (hb : b < 256) : bl (⟨#[UInt8.ofNat b]⟩ : ByteArray) = [b] := by
  unfold bl; simp; omega
theorem var_size {n : Int} : (varS n).size ≤ 7 := by
  unfold varS
  split
  · rename_i h
    rw [ofB_size]
    exact var_len _ 6 (by omega)
  · decide
theorem varS_ne {n : Nat} (h : n ≤ MAXV) : varS (n : Int) ≠ (⟨#[]⟩ : ByteArray) := by
  intro e
  have := congrArg ByteArray.size e
  rw [varS_in h, ofB_size] at this
  have h2 := var_len_pos n
  have h3 : (⟨#[]⟩ : ByteArray).size = 0 := rfl
  omega
theorem head_byte (b : Nat) (s : ByteArray) : bl ((⟨#[UInt8.ofNat b]⟩ : ByteArray) ++ s) = (UInt8.ofNat b).toNat :: bl s := by
  rw [bl_append]; rfl
/-- A long text behind 'a' is no atom. -/
theorem atom_long {d : ByteArray} (h : 40 < d.size) (hm : d.size ≤ MAXV) : okS (((⟨#[97]⟩ : ByteArray) ++ varS (d.size : Int)) ++ d) = false := by
  cases ho : okS (((⟨#[97]⟩ : ByteArray) ++ varS (d.size : Int)) ++ d) with
  | false => rfl
  | true =>
    obtain ⟨c, t, n, k, hl, hr, hk, hh⟩ := termB_cases ho
    rw [bl_append, bl_append, bl_varS hm] at hl
    have e : bl (⟨#[97]⟩ : ByteArray) = [97] := rfl
    rw [e] at hl
    simp only [List.cons_append, List.nil_append, List.append_assoc] at hl
    injection hl with h1 h2
    subst h1 h2
    rw [rv_var _ hm] at hr
    injection hr with hr
    injection hr with hn hk'
    rcases hh with h | h | h | h
    · omega
    · omega
    · omega
    · omega
/-- 'k' and a number are a term where the number is a key's. -/
theorem key_ok (k : Int) : okS ((⟨#[107]⟩ : ByteArray) ++ varS k) = decide (1 ≤ k ∧ k ≤ 1000000) := by
  have e : bl (⟨#[107]⟩ : ByteArray) = [107] := rfl
  by_cases hin : 0 ≤ k ∧ k ≤ 562949953421311
  · obtain ⟨n, rfl⟩ := Int.eq_ofNat_of_zero_le hin.1
    have hm : n ≤ MAXV := by unfold MAXV; omega
    have hb : bl ((⟨#[107]⟩ : ByteArray) ++ varS (n : Int)) = 107 :: var n := by rw [bl_append, bl_varS hm, e]; rfl
    have hr := rv_var' n hm
    by_cases hk : 1 ≤ n ∧ n ≤ 1000000
    · rw [decide_eq_true (by omega)]
      unfold okS
      rw [termB_iff, hb]
      have hl := var_len n 6 (by omega)
      refine ⟨by simp, by simp; omega, ?_⟩
      rw [parse_key hr hk.1 hk.2, List.length_cons, Nat.add_comm]
    · rw [decide_eq_false (by omega)]
      cases ho : okS ((⟨#[107]⟩ : ByteArray) ++ varS (n : Int)) with
      | false => rfl
      | true =>
        obtain ⟨c, t, n', k', hl, hr', hk', hh⟩ := termB_cases ho
        rw [hb] at hl
        injection hl with h1 h2
        subst h1 h2
        rw [hr] at hr'
        injection hr' with hr'
        injection hr' with hn hk2
        subst hn
        rcases hh with h | h | h | h <;> omega
  · rw [varS_out hin, decide_eq_false (by omega)]
    cases ho : okS ((⟨#[107]⟩ : ByteArray) ++ (⟨#[]⟩ : ByteArray)) with
    | false => rfl
    | true =>
      obtain ⟨c, t, n', k', hl, hr', hk', hh⟩ := termB_cases ho
      have hb : bl ((⟨#[107]⟩ : ByteArray) ++ (⟨#[]⟩ : ByteArray)) = [107] := by rw [bl_append]; rfl
      rw [hb] at hl
      injection hl with h1 h2
      subst h2
      have := R_le (rv_R hr')
      have h0 := R_pos (rv_R hr')
      simp at this h0
      omega
end Go.Proofs.Ytcicpbneiofgbaa.Base
