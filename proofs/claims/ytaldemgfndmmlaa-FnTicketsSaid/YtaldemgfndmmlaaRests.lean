/- Plain facts on what a ticket is good for, without any program; for all inputs. -/
import Derived.Test.YtaldemgfndmmlaaBase
namespace Go.Proofs.Ytaldemgfndmmlaa.Base
open Go.RowKit Go.Proofs.YtaldemgfndmmlaaW.PrintWords Go.Proofs.YtaldemgfndmmlaaW.PrintLast Go.Proofs.YtaldemgfndmmlaaW.PrintMore
set_option linter.unusedVariables false
set_option linter.unusedSimpArgs false

def restB (s o e : Int) : Bool := decide ((0 ≤ s ∧ s ≤ 7) ∧ (0 ≤ o ∧ o ≤ 255) ∧ (0 ≤ e ∧ e ≤ 100000))
theorem restB_iff (s o e : Int) : restB s o e = true ↔ ((0 ≤ s ∧ s ≤ 7) ∧ (0 ≤ o ∧ o ≤ 255) ∧ (0 ≤ e ∧ e ≤ 100000)) := by unfold restB; rw [decide_eq_true_iff]
def andI (x y : Int) : Int := Go.bits .and .i64 x y
theorem andI_nat (x y : Nat) (hx : x < 2 ^ 63) (hy : y < 2 ^ 63) : andI (x : Int) (y : Int) = ((x &&& y : Nat) : Int) := band x y hx hy
theorem andI_le {x y n : Int} (hx0 : 0 ≤ x) (hy0 : 0 ≤ y) (hx : x ≤ n) (hy : y ≤ n) (hn : n ≤ 1000000) : 0 ≤ andI x y ∧ andI x y ≤ x ∧ andI x y ≤ y := by
  obtain ⟨a, rfl⟩ := Int.eq_ofNat_of_zero_le hx0
  obtain ⟨b, rfl⟩ := Int.eq_ofNat_of_zero_le hy0
  rw [andI_nat a b (by omega) (by omega)]
  have h1 : a &&& b ≤ a := Nat.and_le_left
  have h2 : a &&& b ≤ b := Nat.and_le_right
  omega
theorem andI_comm (x y : Int) : andI x y = andI y x := by unfold andI; simp only [Go.bits, BitVec.and_comm]
theorem andI_self {x y n : Int} (hx0 : 0 ≤ x) (hy0 : 0 ≤ y) (hx : x ≤ n) (hy : y ≤ n) (hn : n ≤ 1000000) : andI (andI x y) x = andI x y := by
  obtain ⟨a, rfl⟩ := Int.eq_ofNat_of_zero_le hx0
  obtain ⟨b, rfl⟩ := Int.eq_ofNat_of_zero_le hy0
  have h1 : a &&& b ≤ a := Nat.and_le_left
  rw [andI_nat a b (by omega) (by omega), andI_nat _ _ (by omega) (by omega)]
  congr 1
  rw [Nat.and_comm a b, Nat.and_assoc, Nat.and_self]
theorem mn_le (a b : Int) : mn a b ≤ a ∧ mn a b ≤ b ∧ (mn a b = a ∨ mn a b = b) := by unfold mn; split <;> omega
theorem mn_comm (a b : Int) : mn a b = mn b a := by unfold mn; split <;> split <;> omega
theorem mn_self (a b : Int) : mn (mn a b) a = mn a b := by unfold mn; split <;> split <;> omega
/-- Bit i of x, as Go asks for it. -/
def bitI (x i : Int) : Bool := decide (Go.bits .and .i64 (shr .i64 x i) 1 = 1)
theorem bitI_nat (x i : Nat) (hx : x ≤ 1000000) (hi : i ≤ 64) : bitI (x : Int) (i : Int) = Nat.testBit x i := by
  unfold bitI shr
  have hb : IntKind.i64.bits = 64 := rfl
  have e : min (i : Int).toNat IntKind.i64.bits = i := by rw [hb, Int.toNat_natCast]; omega
  rw [e]
  have e2 : (x : Int) / 2 ^ i = ((x / 2 ^ i : Nat) : Int) := by push_cast; rfl
  have hle : x / 2 ^ i ≤ x := Nat.div_le_self _ _
  rw [e2, Nat.testBit_eq_decide_div_mod_eq]
  generalize x / 2 ^ i = y at *
  have h1 := band_mask (y : Int) 1 (by decide) (by omega) (by omega)
  have e3 : ((2 : Int) ^ 1 - 1) = 1 := by decide
  rw [e3] at h1
  rw [h1, decide_eq_decide]
  omega
theorem bitI_and {x y : Int} {i : Int} (hx0 : 0 ≤ x) (hy0 : 0 ≤ y) (hx : x ≤ 255) (hy : y ≤ 255) (hi0 : 0 ≤ i) (hi : i ≤ 7) : bitI (andI x y) i = (bitI x i && bitI y i) := by
  obtain ⟨a, rfl⟩ := Int.eq_ofNat_of_zero_le hx0
  obtain ⟨b, rfl⟩ := Int.eq_ofNat_of_zero_le hy0
  obtain ⟨j, rfl⟩ := Int.eq_ofNat_of_zero_le hi0
  have h1 : a &&& b ≤ a := Nat.and_le_left
  rw [andI_nat a b (by omega) (by omega), bitI_nat _ _ (by omega) (by omega), bitI_nat _ _ (by omega) (by omega), bitI_nat _ _ (by omega) (by omega), Nat.testBit_and]
def entB (s o e s' o' e' : Int) : Bool := restB s o e && restB s' o' e' && decide (andI s s' = s) && decide (andI o o' = o) && decide (e ≤ e')
def perB (s o e sv op now : Int) : Bool := restB s o e && decide (0 ≤ sv ∧ sv ≤ 2) && decide (0 ≤ op ∧ op ≤ 7) && bitI s sv && bitI o op && decide (0 ≤ now ∧ now ≤ e)
def meetR (s o e s' o' e' : Int) : Int × Int × Int := if restB s o e = true ∧ restB s' o' e' = true then (andI s s', andI o o', mn e e') else (0, 0, 0)
theorem meet_ok {s o e s' o' e' : Int} (h : restB s o e = true) (h' : restB s' o' e' = true) : restB (andI s s') (andI o o') (mn e e') = true := by
  rw [restB_iff] at h h' ⊢
  have h1 := andI_le h.1.1 h'.1.1 h.1.2 h'.1.2 (by decide)
  have h2 := andI_le h.2.1.1 h'.2.1.1 h.2.1.2 h'.2.1.2 (by decide)
  have h3 := mn_le e e'
  omega
theorem meet_ent {s o e s' o' e' : Int} (h : restB s o e = true) (h' : restB s' o' e' = true) : entB (andI s s') (andI o o') (mn e e') s o e = true := by
  unfold entB
  rw [meet_ok h h', h]
  rw [restB_iff] at h h'
  rw [andI_self h.1.1 h'.1.1 h.1.2 h'.1.2 (by decide), andI_self h.2.1.1 h'.2.1.1 h.2.1.2 h'.2.1.2 (by decide)]
  simp [(mn_le e e').1]
theorem ent_iff {s o e s' o' e' : Int} (h : restB s o e = true) (h' : restB s' o' e' = true) : entB s o e s' o' e' = (andI s s' == s && (andI o o' == o && (mn e e' == e))) := by
  unfold entB
  rw [h, h']
  have : decide (e ≤ e') = (mn e e' == e) := by
    unfold mn
    rw [Bool.eq_iff_iff]
    split <;> simp <;> omega
  rw [this, Bool.eq_iff_iff]
  simp [and_assoc]
theorem per_meet {s o e s' o' e' : Int} (h : restB s o e = true) (h' : restB s' o' e' = true) (sv op now : Int) : perB (andI s s') (andI o o') (mn e e') sv op now = (perB s o e sv op now && perB s' o' e' sv op now) := by
  unfold perB
  rw [meet_ok h h', h, h']
  rw [restB_iff] at h h'
  by_cases h1 : 0 ≤ sv ∧ sv ≤ 2
  · by_cases h2 : 0 ≤ op ∧ op ≤ 7
    · rw [bitI_and h.1.1 h'.1.1 (by omega) (by omega) h1.1 (by omega), bitI_and h.2.1.1 h'.2.1.1 (by omega) (by omega) h2.1 (by omega)]
      have h3 : decide (0 ≤ now ∧ now ≤ mn e e') = (decide (0 ≤ now ∧ now ≤ e) && decide (0 ≤ now ∧ now ≤ e')) := by
        have := mn_le e e'
        rw [Bool.eq_iff_iff]
        simp
        omega
      rw [h3, decide_eq_true h1, decide_eq_true h2]
      cases bitI s sv <;> cases bitI s' sv <;> cases bitI o op <;> cases bitI o' op <;> simp
    · rw [decide_eq_false h2]; simp
  · rw [decide_eq_false h1]; simp
end Go.Proofs.Ytaldemgfndmmlaa.Base
