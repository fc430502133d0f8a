/- Plain facts on numbers as decimal digits, without any program; for all inputs. -/
import Derived.Test.YthlpfghlildllaaBase
namespace Go.Proofs.Ythlpfghlildllaa.Base
open Go.RowKit Go.Proofs.YthlpfghlildllaaW.PrintWords Go.Proofs.YthlpfghlildllaaW.PrintLast Go.Proofs.YthlpfghlildllaaW.PrintMore
set_option linter.unusedVariables false
set_option linter.unusedSimpArgs false

def decB (n : Nat) : List Nat := if n = 0 then [] else decB (n / 10) ++ [48 + n % 10]
termination_by n
decreasing_by omega
theorem decB_zero : decB 0 = [] := by rw [decB, if_pos rfl]
theorem decB_pos {n : Nat} (h : n ≠ 0) : decB n = decB (n / 10) ++ [48 + n % 10] := by rw [decB, if_neg h]
theorem decB_digit (n : Nat) : ∀ x ∈ decB n, 48 ≤ x ∧ x ≤ 57 := by
  induction n using Nat.strongRecOn with
  | ind n ih =>
    intro x hx
    by_cases h : n = 0
    · subst h; rw [decB_zero] at hx; cases hx
    · rw [decB_pos h] at hx
      rcases List.mem_append.mp hx with h1 | h1
      · exact ih _ (by omega) x h1
      · simp at h1; omega
/-- The number that digits tell. -/
def dv (l : List Nat) : Nat := l.foldl (fun n b => n * 10 + (b - 48)) 0
theorem dv_snoc (l : List Nat) (b : Nat) : dv (l ++ [b]) = dv l * 10 + (b - 48) := by unfold dv; rw [List.foldl_append]; rfl
theorem dv_decB (n : Nat) : dv (decB n) = n := by
  induction n using Nat.strongRecOn with
  | ind n ih =>
    by_cases h : n = 0
    · subst h; rw [decB_zero]; rfl
    · rw [decB_pos h, dv_snoc, ih _ (by omega)]; omega
theorem decB_len (j n : Nat) : n < 10 ^ j → (decB n).length ≤ j := by
  induction j generalizing n with
  | zero => intro h; have : n = 0 := by simpa using h
            subst this; rw [decB_zero]; simp
  | succ j ih =>
    intro h
    by_cases h0 : n = 0
    · subst h0; rw [decB_zero]; simp
    · rw [decB_pos h0, List.length_append]
      have := ih (n / 10) (by rw [Nat.pow_succ] at h; exact Nat.div_lt_of_lt_mul (by omega))
      simp; omega
def decI (n : Int) : List Nat := if n = 0 then [48] else if n < 0 then 45 :: decB n.natAbs else decB n.natAbs
theorem decI_lt (n : Int) : ∀ x ∈ decI n, x < 256 := by
  intro x hx
  unfold decI at hx
  split at hx
  · simp at hx; omega
  · split at hx
    · rcases List.mem_cons.mp hx with rfl | h
      · omega
      · have := decB_digit _ x h; omega
    · have := decB_digit _ x hx; omega
def decS (n : Int) : ByteArray := ofB (decI n)
theorem bl_decS (n : Int) : bl (decS n) = decI n := bl_ofB _ (decI_lt n)
theorem decS_iff (s : ByteArray) (n : Int) : decS n = s ↔ bl s = decI n := by
  constructor
  · rintro rfl; exact bl_decS n
  · intro h; exact bl_inj (by rw [bl_decS, h])
theorem tmod10 (x : Int) : Int.tmod x 10 = if x < 0 then -((x.natAbs % 10 : Nat) : Int) else ((x.natAbs % 10 : Nat) : Int) := by
  split
  · rename_i h
    obtain ⟨n, rfl⟩ : ∃ n : Nat, x = -(n : Int) := ⟨x.natAbs, by omega⟩
    rw [Int.neg_tmod, Int.natAbs_neg, Int.natAbs_natCast]
    have : Int.tmod (n : Int) 10 = ((n % 10 : Nat) : Int) := (Int.ofNat_tmod n 10).symm
    rw [this]
  · rename_i h
    obtain ⟨n, rfl⟩ := Int.eq_ofNat_of_zero_le (show 0 ≤ x by omega)
    exact (Int.ofNat_tmod n 10).symm
theorem tdiv10 (x : Int) : Int.tdiv x 10 = if x < 0 then -((x.natAbs / 10 : Nat) : Int) else ((x.natAbs / 10 : Nat) : Int) := by
  split
  · rename_i h
    obtain ⟨n, rfl⟩ : ∃ n : Nat, x = -(n : Int) := ⟨x.natAbs, by omega⟩
    rw [Int.neg_tdiv, Int.natAbs_neg, Int.natAbs_natCast]
    have : Int.tdiv (n : Int) 10 = ((n / 10 : Nat) : Int) := (Int.ofNat_tdiv n 10).symm
    rw [this]
  · rename_i h
    obtain ⟨n, rfl⟩ := Int.eq_ofNat_of_zero_le (show 0 ≤ x by omega)
    exact (Int.ofNat_tdiv n 10).symm
/-- The digit of a round, as Go computes it. -/
theorem dig10 (x : Int) : (Int.tmod x 10 < 0 → (wrap64 (48 + (wrap64 (-(Int.tmod x 10))))) % 256 = ((48 + x.natAbs % 10 : Nat) : Int)) ∧ (¬ Int.tmod x 10 < 0 → (wrap64 (48 + (Int.tmod x 10))) % 256 = ((48 + x.natAbs % 10 : Nat) : Int)) := by
  have hm : x.natAbs % 10 < 10 := Nat.mod_lt _ (by decide)
  rw [tmod10 x]
  constructor
  · intro h
    split at h
    · rename_i hx
      rw [if_pos hx, w64 (x := -_) (by omega) (by omega), w64 (by omega) (by omega)]; omega
    · omega
  · intro h
    split at h
    · rename_i hx
      rw [if_pos hx, w64 (by omega) (by omega)]; omega
    · rename_i hx
      rw [if_neg hx, w64 (by omega) (by omega)]; omega
theorem next10 (x : Int) (h0 : -9223372036854775808 ≤ x) (h1 : x ≤ 9223372036854775807) : (wrap64 (Int.tdiv x 10)).natAbs = x.natAbs / 10 ∧ -9223372036854775808 ≤ wrap64 (Int.tdiv x 10) ∧ wrap64 (Int.tdiv x 10) ≤ 9223372036854775807 ∧ (wrap64 (Int.tdiv x 10) = 0 ↔ x.natAbs / 10 = 0) := by
  rw [tdiv10 x]
  split
  · rw [w64 (by omega) (by omega)]; omega
  · rw [w64 (by omega) (by omega)]; omega

def isDig (b : Nat) : Bool := decide (48 ≤ b ∧ b ≤ 57)
def valI : List Nat → Int
  | 45 :: t => -(dv t : Int)
  | l => (dv l : Int)
theorem decB_ne45 (n : Nat) : ∀ t, decB n ≠ 45 :: t := by
  intro t h
  have := decB_digit n 45 (by rw [h]; simp)
  omega
theorem valI_decI (n : Int) : valI (decI n) = n := by
  unfold decI
  split
  · rename_i h; subst h; rfl
  · split
    · simp only [valI, dv_decB]; omega
    · have : valI (decB n.natAbs) = (dv (decB n.natAbs) : Int) := by
        unfold valI
        split
        · rename_i t ht; exact absurd ht (decB_ne45 _ t)
        · rfl
      rw [this, dv_decB]; omega
theorem decI_inj {n m : Int} (h : decI n = decI m) : n = m := by rw [← valI_decI n, ← valI_decI m, h]
theorem dv_lt (l : List Nat) (h : ∀ x ∈ l, x ≤ 57) : dv l < 10 ^ l.length := by
  obtain ⟨n, hn⟩ : ∃ n, n = l.length := ⟨_, rfl⟩
  induction n generalizing l with
  | zero =>
    have : l = [] := List.eq_nil_of_length_eq_zero hn.symm
    subst this; decide
  | succ n ih =>
    have hne : l ≠ [] := by intro e; subst e; simp at hn
    have e := List.dropLast_concat_getLast hne
    have h1 := ih l.dropLast (fun x hx => h x (List.dropLast_subset l hx)) (by rw [List.length_dropLast]; omega)
    have h2 := h _ (List.getLast_mem hne)
    rw [← e, dv_snoc, List.length_append, List.length_singleton, Nat.pow_succ]
    omega
open Classical in
noncomputable def rdD (s : ByteArray) : Int × Bool := if h : ∃ n : Int, -1000000000 < n ∧ n < 1000000000 ∧ bl s = decI n then (Classical.choose h, true) else (0, false)
theorem rdD_some {s : ByteArray} {n : Int} (h0 : -1000000000 < n) (h1 : n < 1000000000) (h : bl s = decI n) : rdD s = (n, true) := by
  unfold rdD
  have e : ∃ n : Int, -1000000000 < n ∧ n < 1000000000 ∧ bl s = decI n := ⟨n, h0, h1, h⟩
  rw [dif_pos e]
  have := Classical.choose_spec e
  rw [decI_inj (this.2.2.symm.trans h)]
theorem rdD_none {s : ByteArray} (h : ∀ n : Int, -1000000000 < n → n < 1000000000 → bl s ≠ decI n) : rdD s = (0, false) := by
  unfold rdD
  rw [dif_neg]
  rintro ⟨n, h0, h1, h2⟩
  exact h n h0 h1 h2
theorem filter_decB (n : Nat) : (decB n).filter isDig = decB n := by
  rw [List.filter_eq_self]
  intro x hx
  exact decide_eq_true (decB_digit n x hx)
theorem decI_digs (n : Int) : dv ((decI n).filter isDig) = n.natAbs := by
  unfold decI
  split
  · rename_i h; subst h; rfl
  · split
    · rw [List.filter_cons_of_neg (by decide), filter_decB, dv_decB]
    · rw [filter_decB, dv_decB]
theorem decI_len {n : Int} (h0 : -1000000000 < n) (h1 : n < 1000000000) : ((decI n).filter isDig).length ≤ 9 ∧ (decI n).length ≤ 10 := by
  have := decB_len 9 n.natAbs (by omega)
  unfold decI
  split
  · simp [isDig]
  · split
    · rw [List.filter_cons_of_neg (by decide), filter_decB]; simp; omega
    · rw [filter_decB]; omega
theorem decI_head (n : Int) : ((decI n).getD 0 0 = 45 ↔ n < 0) ∧ 0 < (decI n).length := by
  unfold decI
  split
  · rename_i h; subst h; simp
  · split
    · rename_i h; simp [h]
    · rename_i h h'
      have hpos : n.natAbs ≠ 0 := by omega
      have hne : decB n.natAbs ≠ [] := by rw [decB_pos hpos]; simp
      constructor
      · constructor
        · intro e
          cases hd : decB n.natAbs with
          | nil => exact absurd hd hne
          | cons a t =>
            rw [hd] at e
            simp at e
            exact absurd (e ▸ hd) (decB_ne45 _ t)
        · intro e; omega
      · exact List.length_pos_iff.mpr hne
end Go.Proofs.Ythlpfghlildllaa.Base
