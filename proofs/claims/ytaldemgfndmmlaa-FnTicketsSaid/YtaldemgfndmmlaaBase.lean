/- Plain facts on bytes, numbers and terms as lists of bytes, without any program; for all inputs. -/
import Derived.Test.YtaldemgfndmmlaaVMore

namespace Go.Proofs.Ytaldemgfndmmlaa.Base
open Go.RowKit Go.Proofs.YtaldemgfndmmlaaW.PrintWords Go.Proofs.YtaldemgfndmmlaaW.PrintLast Go.Proofs.YtaldemgfndmmlaaW.PrintMore
set_option linter.unusedVariables false
set_option linter.unusedSimpArgs false

/-! ### numbers of the machine -/
theorem w64 {x : Int} (h0 : -9223372036854775808 ≤ x) (h1 : x ≤ 9223372036854775807) : wrap64 x = x := by unfold wrap64; omega
theorem wraps_i64 (n : Int) (h₀ : 0 ≤ n) (h₁ : n < 2 ^ 63) : IntKind.i64.wrap n = n := by rw [IntKind.wrap_i64]; omega
theorem band (a b : Nat) (ha : a < 2 ^ 63) (hb : b < 2 ^ 63) : Go.bits .and .i64 (a : Int) (b : Int) = ((a &&& b : Nat) : Int) := (Go.bits_nat .i64 63 (by decide) wraps_i64 a b ha hb).1
theorem bor (a b : Nat) (ha : a < 2 ^ 63) (hb : b < 2 ^ 63) : Go.bits .or .i64 (a : Int) (b : Int) = ((a ||| b : Nat) : Int) := (Go.bits_nat .i64 63 (by decide) wraps_i64 a b ha hb).2
theorem band_mask (x : Int) (i : Nat) (hi : i ≤ 63) (h0 : 0 ≤ x) (h1 : x < 2 ^ 63) : Go.bits .and .i64 x (2 ^ i - 1) = x % 2 ^ i :=
  Go.bits_mask .i64 63 (by decide) wraps_i64 i hi x h0 h1
theorem bor_join (i : Nat) (x y : Int) (hx₀ : 0 ≤ x) (hx : x % 2 ^ i = 0) (hx₁ : x < 2 ^ 63) (hy₀ : 0 ≤ y) (hy : y < 2 ^ i) (hy₁ : y < 2 ^ 63) : Go.bits .or .i64 x y = x + y :=
  Go.bits_join .i64 63 (by decide) wraps_i64 i x y hx₀ hx hx₁ hy₀ hy hy₁
theorem bits_comm_or (k : IntKind) (x y : Int) : Go.bits .or k x y = Go.bits .or k y x := by
  simp only [Go.bits, BitVec.or_comm]
theorem band_u8 (x : Int) (h0 : 0 ≤ x) (h1 : x < 256) : Go.bits .and .u8 x 127 = x % 128 := by
  have := Go.bits_mask .u8 8 (by decide) Go.wraps_u8 7 (by decide) x h0 (by omega)
  simpa using this

theorem lit_wf {n : Int} (h : (Lit.int .i64 n).wf = true) : -9223372036854775808 ≤ n ∧ n ≤ 9223372036854775807 := by
  simp only [Lit.wf, Bool.and_eq_true, decide_eq_true_eq] at h
  exact h
/-! ### rounds -/
theorem ev_some {α : Type} (r : α) : Ev (fun _ => some r) r := Ev.now r
theorem ev_of {α : Type} {g : Nat → Option α} {r : α} (h : ∀ k, g k = some r) : Ev g r := ⟨0, fun k _ => h k⟩
theorem ev_eq {α : Type} {g : Nat → Option α} {r q : α} (h : Ev g r) (e : r = q) : Ev g q := e ▸ h

/-! ### texts as lists of bytes -/
def bl (s : ByteArray) : List Nat := s.data.toList.map fun b => b.toNat

theorem bl_len (s : ByteArray) : (bl s).length = s.size := by
  unfold bl; rw [List.length_map, Array.length_toList]; rfl
theorem bl_inj {s t : ByteArray} (h : bl s = bl t) : s = t := by
  unfold bl at h
  rw [List.map_inj_right (fun a b h => UInt8.toNat_inj.mp h)] at h
  exact ByteArray.ext (Array.toList_inj.mp h)
theorem bl_lt (s : ByteArray) : ∀ x ∈ bl s, x < 256 := by
  intro x hx
  unfold bl at hx
  obtain ⟨b, _, rfl⟩ := List.mem_map.mp hx
  exact b.toNat_lt
theorem bl_append (s t : ByteArray) : bl (s ++ t) = bl s ++ bl t := by
  unfold bl; rw [ByteArray.toList_data_append, List.map_append]
theorem bl_extract (s : ByteArray) (a b : Nat) : bl (s.extract a b) = ((bl s).take b).drop a := by
  unfold bl
  rw [ByteArray.data_extract]
  simp [Array.toList_extract, List.extract_eq_take_drop, List.map_take, List.map_drop, List.drop_take]
theorem bl_empty : bl (⟨#[]⟩ : ByteArray) = [] := rfl
theorem bt_get (s : ByteArray) (i : Nat) (h : i < (bl s).length) : bt s (i : Int) = (((bl s)[i] : Nat) : Int) := by
  have h' : i < s.size := by rw [← bl_len]; exact h
  have := bt_at s (i : Int) (by simpa using h')
  rw [← this]
  simp [bl, ByteArray.getElem_eq_getElem_data]
theorem toList_iff (s t : ByteArray) : s.toList = t.toList ↔ s = t := by
  rw [ByteArray.toList_eq, ByteArray.toList_eq, Array.toList_inj]
  exact ⟨fun h => ByteArray.ext h, fun h => h ▸ rfl⟩
theorem bl_nums (xs : List Int) (h : ∀ x ∈ xs, 0 ≤ x ∧ x < 256) : bl (strOfNums xs) = xs.map Int.toNat := by
  unfold bl; rw [strOfNums_data, List.map_map]
  apply List.map_congr_left
  intro x hx
  have := h x hx
  simp; omega
/-- The text whose bytes are given. -/
def ofB (l : List Nat) : ByteArray := strOfNums (l.map fun (n : Nat) => (n : Int))
theorem bl_ofB (l : List Nat) (h : ∀ x ∈ l, x < 256) : bl (ofB l) = l := by
  unfold ofB
  rw [bl_nums, List.map_map]
  · have e : (Int.toNat ∘ fun (n : Nat) => (n : Int)) = id := by funext n; simp
    rw [e, List.map_id]
  · intro x hx
    obtain ⟨n, hn, rfl⟩ := List.mem_map.mp hx
    have := h n hn
    omega
theorem ofB_bl (s : ByteArray) : ofB (bl s) = s := bl_inj (bl_ofB _ (bl_lt s))
theorem ofB_nil : ofB [] = (⟨#[]⟩ : ByteArray) := rfl
theorem ofB_size (l : List Nat) : (ofB l).size = l.length := by unfold ofB; rw [strOfNums_size, List.length_map]

/-! ### numbers by sevens of bits -/
def var (n : Nat) : List Nat := if n < 128 then [n] else (n % 128 + 128) :: var (n / 128)
termination_by n
decreasing_by omega
theorem var_small {n : Nat} (h : n < 128) : var n = [n] := by rw [var, if_pos h]
theorem var_big {n : Nat} (h : ¬ n < 128) : var n = (n % 128 + 128) :: var (n / 128) := by rw [var, if_neg h]
def val : List Nat → Nat
  | [] => 0
  | b :: t => b % 128 + 128 * val t
theorem val_var (n : Nat) : val (var n) = n := by
  induction n using Nat.strongRecOn with
  | ind n ih =>
    by_cases h : n < 128
    · rw [var_small h]; simp [val]; omega
    · rw [var_big h]; simp only [val]; rw [ih (n / 128) (by omega)]; omega
theorem var_lt (n : Nat) : ∀ x ∈ var n, x < 256 := by
  induction n using Nat.strongRecOn with
  | ind n ih =>
    by_cases h : n < 128
    · rw [var_small h]; intro x hx; simp at hx; omega
    · rw [var_big h]; intro x hx
      rcases List.mem_cons.mp hx with rfl | hx
      · omega
      · exact ih _ (by omega) x hx
theorem var_len_pos (n : Nat) : 0 < (var n).length := by
  by_cases h : n < 128
  · rw [var_small h]; simp
  · rw [var_big h]; simp
theorem var_len (n j : Nat) : n < 128 ^ (j + 1) → (var n).length ≤ j + 1 := by
  induction j generalizing n with
  | zero => intro h; rw [var_small (by omega)]; simp
  | succ j ih =>
    intro h
    by_cases h1 : n < 128
    · rw [var_small h1]; simp
    · rw [var_big h1]
      have := ih (n / 128) (by rw [Nat.pow_succ] at h; exact Nat.div_lt_of_lt_mul (by omega))
      simp; omega
/-- Each byte of a number's text but the last one has 128 added. -/
theorem var_form (n : Nat) : ∃ (a : List Nat) (b : Nat), var n = a ++ [b] ∧ b < 128 ∧ ∀ x ∈ a, 128 ≤ x := by
  induction n using Nat.strongRecOn with
  | ind n ih =>
    by_cases h : n < 128
    · exact ⟨[], n, by rw [var_small h]; rfl, h, by simp⟩
    · obtain ⟨a, b, h1, h2, h3⟩ := ih (n / 128) (by omega)
      refine ⟨(n % 128 + 128) :: a, b, by rw [var_big h, h1]; rfl, h2, fun x hx => ?_⟩
      rcases List.mem_cons.mp hx with rfl | hx
      · omega
      · exact h3 x hx
def MAXV : Nat := 562949953421311
/-- A text begins with the text of n, which has k bytes. -/
def R (l : List Nat) (n k : Nat) : Prop := n ≤ MAXV ∧ k = (var n).length ∧ l.take k = var n
theorem R_le {l : List Nat} {n k : Nat} (h : R l n k) : k ≤ l.length := by
  obtain ⟨_, hk, ht⟩ := h
  have := congrArg List.length ht
  rw [List.length_take, ← hk] at this
  omega
theorem R_pos {l : List Nat} {n k : Nat} (h : R l n k) : 0 < k := by rw [h.2.1]; exact var_len_pos n
theorem R_seven {l : List Nat} {n k : Nat} (h : R l n k) : k ≤ 7 := by
  rw [h.2.1]; exact var_len n 6 (by have := h.1; unfold MAXV at this; omega)
theorem R_val {l : List Nat} {n k : Nat} (h : R l n k) : val (l.take k) = n := by rw [h.2.2, val_var]
/-- The place of the last byte. -/
theorem R_last {l : List Nat} {n k : Nat} (h : R l n k) : (∀ j, (hj : j + 1 < k) → 128 ≤ l.getD j 0) ∧ l.getD (k - 1) 0 < 128 := by
  obtain ⟨a, b, h1, h2, h3⟩ := var_form n
  have hk := h.2.1
  have ht := h.2.2
  rw [h1] at hk ht
  have hka : k = a.length + 1 := by simp at hk; omega
  have hle := R_le h
  have get : ∀ j, j < k → l.getD j 0 = (a ++ [b]).getD j 0 := by
    intro j hj
    rw [← ht, List.getD_eq_getElem?_getD, List.getD_eq_getElem?_getD, List.getElem?_take, if_pos hj]
  constructor
  · intro j hj
    rw [get j (by omega), List.getD_eq_getElem?_getD, List.getElem?_append_left (by omega)]
    have : j < a.length := by omega
    rw [List.getElem?_eq_getElem this]
    exact h3 _ (List.getElem_mem this)
  · rw [get (k - 1) (by omega), hka, List.getD_eq_getElem?_getD, List.getElem?_append_right (by omega)]
    simpa using h2
theorem R_unique {l : List Nat} {n k n' k' : Nat} (h : R l n k) (h' : R l n' k') : n = n' ∧ k = k' := by
  have e : k = k' := by
    have a := R_last h
    have b := R_last h'
    have p := R_pos h
    have p' := R_pos h'
    rcases Nat.lt_trichotomy k k' with hlt | heq | hgt
    · exact absurd a.2 (by have := b.1 (k - 1) (by omega); omega)
    · exact heq
    · exact absurd b.2 (by have := a.1 (k' - 1) (by omega); omega)
  subst e
  exact ⟨by rw [← R_val h, ← R_val h'], rfl⟩
theorem R_var (n : Nat) (hn : n ≤ MAXV) (rest : List Nat) : R (var n ++ rest) n (var n).length := ⟨hn, rfl, by simp⟩
open Classical in
noncomputable def rv (l : List Nat) : Option (Nat × Nat) := if h : ∃ p : Nat × Nat, R l p.1 p.2 then some (Classical.choose h) else none
theorem rv_some {l : List Nat} {n k : Nat} (h : R l n k) : rv l = some (n, k) := by
  unfold rv
  have e : ∃ p : Nat × Nat, R l p.1 p.2 := ⟨(n, k), h⟩
  rw [dif_pos e]
  have := R_unique (Classical.choose_spec e) h
  exact congrArg some (Prod.ext this.1 this.2)
theorem rv_R {l : List Nat} {p : Nat × Nat} (h : rv l = some p) : R l p.1 p.2 := by
  unfold rv at h
  split at h
  · rename_i e
    rw [← Option.some.inj h]
    exact Classical.choose_spec e
  · cases h
theorem rv_none {l : List Nat} (h : ∀ n k, ¬ R l n k) : rv l = none := by
  unfold rv
  rw [dif_neg]
  rintro ⟨p, hp⟩
  exact h _ _ hp
/-- ReadVar's answer, as Go's two numbers. -/
noncomputable def rvI (l : List Nat) : Int × Int := match rv l with | some (n, k) => ((n : Int), (k : Int)) | none => (0, 0)
theorem rvI_some {l : List Nat} {n k : Nat} (h : R l n k) : rvI l = ((n : Int), (k : Int)) := by unfold rvI; rw [rv_some h]
theorem rvI_none {l : List Nat} (h : ∀ n k, ¬ R l n k) : rvI l = (0, 0) := by unfold rvI; rw [rv_none h]
theorem val_append (a b : List Nat) : val (a ++ b) = val a + 128 ^ a.length * val b := by
  induction a with
  | nil => simp [val]
  | cons x t ih =>
    simp only [List.cons_append, val, ih, List.length_cons, Nat.pow_succ]
    rw [Nat.mul_add, ← Nat.mul_assoc, Nat.mul_comm 128 (128 ^ t.length)]
    omega
theorem val_lt (a : List Nat) : val a < 128 ^ a.length := by
  induction a with
  | nil => simp [val]
  | cons x t ih =>
    simp only [val, List.length_cons, Nat.pow_succ]
    have : x % 128 < 128 := Nat.mod_lt _ (by decide)
    omega

/-! ### bits of numbers by sevens -/
theorem and127 (x : Nat) (hx : x < 2 ^ 63) : Go.bits .and .i64 (x : Int) 127 = ((x % 128 : Nat) : Int) := by
  have := band_mask (x : Int) 7 (by decide) (by omega) (by omega)
  have e : ((2 : Int) ^ 7 - 1) = 127 := by decide
  rw [e] at this
  rw [this]; omega
theorem or_and (x : Nat) (hx : x < 2 ^ 63) : (Go.bits .or .i64 (Go.bits .and .i64 (x : Int) 127) 128) % 256 = ((x % 128 + 128 : Nat) : Int) := by
  rw [and127 x hx, bits_comm_or, bor_join 7 128 _ (by decide) (by decide) (by decide) (by omega) (by omega) (by omega)]
  omega
theorem tdivN (x d : Nat) : Int.tdiv (x : Int) (d : Int) = ((x / d : Nat) : Int) := (Int.ofNat_tdiv x d).symm
theorem tmodN (x d : Nat) : Int.tmod (x : Int) (d : Int) = ((x % d : Nat) : Int) := (Int.ofNat_tmod x d).symm
theorem pow7 (i : Nat) : 2 ^ (7 * i) = 128 ^ i := by rw [Nat.pow_mul]
theorem pow_le7 (i : Nat) (hi : i ≤ 6) : 128 ^ i ≤ 4398046511104 := by
  have : 128 ^ i ≤ 128 ^ 6 := Nat.pow_le_pow_right (by decide) hi
  simpa using this
theorem or_shl (n i b : Nat) (hn : n < 128 ^ i) (hi : i ≤ 6) (hb : b < 256) :
    Go.bits .or .i64 (n : Int) (shl .i64 (wrap64 (Go.bits .and .u8 (b : Int) 127)) (wrap64 (7 * (i : Int)))) = ((n + 128 ^ i * (b % 128) : Nat) : Int) := by
  have hp := pow_le7 i hi
  have hb1 : b % 128 < 128 := Nat.mod_lt _ (by decide)
  have hm : 128 ^ i * (b % 128) ≤ 4398046511104 * 127 := Nat.mul_le_mul hp (by omega)
  rw [band_u8 (b : Int) (by omega) (by omega), w64 (x := (b : Int) % 128) (by omega) (by omega), w64 (x := 7 * (i : Int)) (by omega) (by omega)]
  have e : shl .i64 ((b : Int) % 128) (7 * (i : Int)) = ((128 ^ i * (b % 128) : Nat) : Int) := by
    unfold shl
    have e1 : min (7 * (i : Int)).toNat IntKind.i64.bits = 7 * i := by
      have : IntKind.i64.bits = 64 := rfl
      omega
    rw [e1]
    have e2 : ((b : Int) % 128 * 2 ^ (7 * i)) = ((128 ^ i * (b % 128) : Nat) : Int) := by
      rw [← pow7]
      push_cast
      rw [Int.mul_comm]
    rw [e2, wraps_i64 _ (by omega) (by omega)]
  rw [e, bits_comm_or, bor_join (7 * i) _ _ (by omega) ?_ (by omega) (by omega) ?_ (by omega)]
  · omega
  · rw [← pow7]; push_cast; exact Int.mul_emod_right _ _
  · have : ((2 : Int) ^ (7 * i)) = ((128 ^ i : Nat) : Int) := by rw [← pow7]; push_cast; rfl
    rw [this]; omega

/-! ### Var, as Go's text -/
noncomputable def varS (n : Int) : ByteArray := if 0 ≤ n ∧ n ≤ 562949953421311 then ofB (var n.toNat) else ⟨#[]⟩
theorem varS_in {n : Nat} (h : n ≤ MAXV) : varS (n : Int) = ofB (var n) := by
  unfold MAXV at h
  unfold varS; rw [if_pos (by omega)]; rfl
theorem varS_out {n : Int} (h : ¬ (0 ≤ n ∧ n ≤ 562949953421311)) : varS n = ⟨#[]⟩ := by unfold varS; rw [if_neg h]
theorem bl_varS {n : Nat} (h : n ≤ MAXV) : bl (varS (n : Int)) = var n := by rw [varS_in h, bl_ofB _ (var_lt n)]
theorem R_iff (s : ByteArray) (n k : Nat) (hn : n ≤ MAXV) (hk : k ≤ s.size) : varS (n : Int) = s.extract 0 k ↔ R (bl s) n k := by
  constructor
  · intro h
    have h1 := congrArg bl h
    rw [bl_varS hn, bl_extract, List.drop_zero] at h1
    refine ⟨hn, ?_, h1.symm⟩
    rw [h1, List.length_take, bl_len]; omega
  · intro h
    apply bl_inj
    rw [bl_varS hn, bl_extract, List.drop_zero, h.2.2]
theorem take_snoc (l : List Nat) (i : Nat) (h : i < l.length) : l.take (i + 1) = l.take i ++ [l[i]] := by
  rw [List.take_succ_eq_append_getElem h]
theorem val_take (l : List Nat) (i : Nat) (h : i < l.length) : val (l.take (i + 1)) = val (l.take i) + 128 ^ i * (l[i] % 128) := by
  rw [take_snoc l i h, val_append, List.length_take, Nat.min_eq_left (by omega)]
  simp [val]
theorem R_upto (l : List Nat) (i : Nat) (h : i < l.length) (hi : i ≤ 6) (hc : ∀ j, j < i → 128 ≤ l.getD j 0) (hlast : l[i] < 128) {n k : Nat} (hR : R l n k) : k = i + 1 := by
  have a := R_last hR
  have p := R_pos hR
  have hg : l.getD i 0 = l[i] := by rw [List.getD_eq_getElem?_getD, List.getElem?_eq_getElem h]; rfl
  rcases Nat.lt_trichotomy k (i + 1) with hlt | heq | hgt
  · exact absurd a.2 (by have := hc (k - 1) (by omega); omega)
  · exact heq
  · exact absurd (a.1 i (by omega)) (by omega)
theorem R_far (l : List Nat) (i : Nat) (hc : ∀ j, j < i → 128 ≤ l.getD j 0) (h : i = l.length ∨ i = 7) {n k : Nat} (hR : R l n k) : False := by
  have a := R_last hR
  have p := R_pos hR
  have q := R_le hR
  have q7 := R_seven hR
  have := hc (k - 1) (by omega)
  omega

/-! ### numbers by bytes, the highest first -/
def be (l : List Nat) : Nat := l.foldl (fun n b => n * 256 + b) 0
theorem be_snoc (l : List Nat) (b : Nat) : be (l ++ [b]) = be l * 256 + b := by unfold be; rw [List.foldl_append]; rfl
theorem be_lt (l : List Nat) (h : ∀ x ∈ l, x < 256) : be l < 256 ^ l.length := by
  obtain ⟨n, hn⟩ : ∃ n, n = l.length := ⟨_, rfl⟩
  induction n generalizing l with
  | zero => have : l = [] := List.eq_nil_of_length_eq_zero hn.symm
            subst this; decide
  | succ n ih =>
    have hne : l ≠ [] := by intro e; subst e; simp at hn
    have e := List.dropLast_concat_getLast hne
    have h1 := ih l.dropLast (fun x hx => h x (List.dropLast_subset l hx)) (by rw [List.length_dropLast]; omega)
    have h2 := h _ (List.getLast_mem hne)
    rw [← e, be_snoc, List.length_append, List.length_singleton, Nat.pow_succ]
    omega
theorem be_take (l : List Nat) (i : Nat) (h : i < l.length) : be (l.take (i + 1)) = be (l.take i) * 256 + l[i] := by rw [take_snoc l i h, be_snoc]
def rfI (s : ByteArray) (w : Int) : Int × Bool := if 1 ≤ w ∧ w ≤ 7 ∧ w ≤ (s.size : Int) then ((be ((bl s).take w.toNat) : Int), true) else (0, false)
def fixB : Nat → Nat → List Nat
  | 0, _ => []
  | w + 1, n => fixB w (n / 256) ++ [n % 256]
theorem fixB_len (w n : Nat) : (fixB w n).length = w := by
  induction w generalizing n with
  | zero => rfl
  | succ w ih => rw [fixB, List.length_append, ih]; rfl
theorem fixB_lt (w n : Nat) : ∀ x ∈ fixB w n, x < 256 := by
  induction w generalizing n with
  | zero => simp [fixB]
  | succ w ih =>
    intro x hx
    rw [fixB] at hx
    rcases List.mem_append.mp hx with h | h
    · exact ih _ x h
    · simp at h; omega
theorem be_fixB (w n : Nat) : n < 256 ^ w → be (fixB w n) = n := by
  induction w generalizing n with
  | zero => intro h; simp at h; subst h; rfl
  | succ w ih =>
    intro h
    rw [fixB, be_snoc, ih _ (Nat.div_lt_of_lt_mul (by rw [Nat.pow_succ] at h; omega))]
    omega
def fixS (n w : Int) : ByteArray := if 1 ≤ w ∧ w ≤ 7 ∧ 0 ≤ n ∧ n.toNat < 256 ^ w.toNat then ofB (fixB w.toNat n.toNat) else ⟨#[]⟩
theorem ofB_append (a b : List Nat) : ofB (a ++ b) = ofB a ++ ofB b := by
  apply ByteArray.ext
  rw [ByteArray.data_append]
  simp [ofB, strOfNums]
theorem empty_append' (a : ByteArray) : (⟨#[]⟩ : ByteArray) ++ a = a := ByteArray.empty_append
end Go.Proofs.Ytaldemgfndmmlaa.Base
