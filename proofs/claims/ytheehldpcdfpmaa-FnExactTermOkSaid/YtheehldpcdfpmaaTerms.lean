/- Plain facts on terms as lists of bytes, without any program; for all inputs. -/
import Derived.Test.YtheehldpcdfpmaaBase
namespace Go.Proofs.Ytheehldpcdfpmaa.Base
open Go.RowKit Go.Proofs.YtheehldpcdfpmaaW.PrintWords Go.Proofs.YtheehldpcdfpmaaW.PrintLast Go.Proofs.YtheehldpcdfpmaaW.PrintMore
set_option linter.unusedVariables false
set_option linter.unusedSimpArgs false

noncomputable def many (p : List Nat → Option Nat) : Nat → List Nat → Option Nat
  | 0, _ => some 0
  | n + 1, l => match p l with
    | none => none
    | some m => match many p n (l.drop m) with
      | none => none
      | some q => some (m + q)
/-- How many bytes the term has with which a text begins, of at most a depth. -/
noncomputable def parse : Nat → List Nat → Option Nat
  | 0, _ => none
  | _ + 1, [] => none
  | d + 1, c :: t => match rv t with
      | none => none
      | some (n, k) =>
        if c = 97 then (if n ≤ 40 ∧ n ≤ t.length - k then some (1 + k + n) else none)
        else if c = 107 then (if 1 ≤ n ∧ n ≤ 1000000 then some (1 + k) else none)
        else if c = 108 then (if n ≤ 12 then (match many (parse d) n (t.drop k) with | none => none | some q => some (1 + k + q)) else none)
        else if c = 115 then (if 1 ≤ n ∧ n ≤ 1000000 then (match parse d (t.drop k) with | none => none | some q => some (1 + k + q)) else none)
        else none
theorem parse_nil (d : Nat) : parse d [] = none := by cases d <;> simp [parse]
theorem many_le {p : List Nat → Option Nat} (hp : ∀ l m, p l = some m → m ≤ l.length) (n : Nat) : ∀ l q, many p n l = some q → q ≤ l.length := by
  induction n with
  | zero => intro l q h; simp [many] at h; omega
  | succ n ih =>
    intro l q h
    rw [many] at h
    split at h
    · cases h
    · rename_i m hm
      split at h
      · cases h
      · rename_i q' hq
        have := ih _ _ hq
        rw [List.length_drop] at this
        have := hp _ _ hm
        have := Option.some.inj h
        omega
theorem parse_le (d : Nat) : ∀ l m, parse d l = some m → 0 < m ∧ m ≤ l.length := by
  induction d with
  | zero => intro l m h; simp [parse] at h
  | succ d ih =>
    intro l m h
    cases l with
    | nil => simp [parse] at h
    | cons c t =>
      rw [parse] at h
      split at h
      · cases h
      · rename_i n k hr
        have hk := R_le (rv_R hr)
        simp only at hk
        rw [List.length_cons]
        split at h
        · split at h
          · have := Option.some.inj h; omega
          · cases h
        · split at h
          · split at h
            · have := Option.some.inj h; omega
            · cases h
          · split at h
            · split at h
              · split at h
                · cases h
                · rename_i q hq
                  have := many_le (fun l m h => (ih l m h).2) n _ _ hq
                  rw [List.length_drop] at this
                  have := Option.some.inj h; omega
              · cases h
            · split at h
              · split at h
                · split at h
                  · cases h
                  · rename_i q hq
                    have := (ih _ _ hq).2
                    rw [List.length_drop] at this
                    have := Option.some.inj h; omega
                · cases h
              · cases h
/-- The place behind a term, as Go's number. -/
def tA (at_ : Nat) : Option Nat → Int
  | some m => ((at_ + m : Nat) : Int)
  | none => -1
def pI : Option Nat → Int
  | some m => (m : Int)
  | none => 0
/-- How far it is to the place behind, from a place ahead. -/
def eI (a0 a : Nat) : Option Nat → Int
  | some q => ((a + q - a0 : Nat) : Int)
  | none => 0
def addO (m : Nat) : Option Nat → Option Nat
  | some q => some (m + q)
  | none => none
theorem many_succ (p : List Nat → Option Nat) (n : Nat) (l : List Nat) : many p (n + 1) l = (match p l with | none => none | some m => addO m (many p n (l.drop m))) := by
  rw [many]
  cases p l with
  | none => rfl
  | some m =>
    simp only []
    cases many p n (l.drop m) <;> rfl
theorem tA_add (a m : Nat) (o : Option Nat) : tA (a + m) o = tA a (addO m o) := by
  cases o with
  | none => rfl
  | some q => simp only [tA, addO]; rw [Nat.add_assoc]
theorem eI_add (a0 a m : Nat) (o : Option Nat) : eI a0 (a + m) o = eI a0 a (addO m o) := by
  cases o with
  | none => rfl
  | some q => simp only [eI, addO]; rw [Nat.add_assoc]
noncomputable def vA (l : List Nat) (at_ : Nat) : Int × Int := match rv (l.drop at_) with | some (n, k) => ((n : Int), ((at_ + k : Nat) : Int)) | none => (-1, (at_ : Int))
theorem bl_from (s : ByteArray) (a : Nat) : bl (s.extract a s.size) = (bl s).drop a := by
  rw [bl_extract, ← bl_len, List.take_of_length_le (Nat.le_refl _)]
noncomputable def termB (l : List Nat) : Bool := decide (1 ≤ l.length ∧ l.length ≤ 900 ∧ parse 8 l = some l.length)
end Go.Proofs.Ytheehldpcdfpmaa.Base
