/- Plain facts on bytes as two digits each, without any program; for all inputs. -/
import Derived.Test.YtcicpbneiofgbaaBase
namespace Go.Proofs.Ytcicpbneiofgbaa.Base
open Go.RowKit Go.Proofs.YtcicpbneiofgbaaW.PrintWords Go.Proofs.YtcicpbneiofgbaaW.PrintLast Go.Proofs.YtcicpbneiofgbaaW.PrintMore
set_option linter.unusedVariables false
set_option linter.unusedSimpArgs false

def hexd (v : Nat) : Nat := if v < 10 then 48 + v else 87 + v
def hexT : ByteArray := ⟨#[48, 49, 50, 51, 52, 53, 54, 55, 56, 57, 97, 98, 99, 100, 101, 102]⟩
theorem hexT_at : ∀ v : Fin 16, bt hexT (v.val : Int) = ((hexd v.val : Nat) : Int) := by decide +kernel
theorem hexT_get (v : Nat) (h : v < 16) : bt hexT (v : Int) = ((hexd v : Nat) : Int) := hexT_at ⟨v, h⟩
theorem hexd_lt (v : Nat) (h : v < 16) : hexd v < 256 := by unfold hexd; split <;> omega
def hexB : List Nat → List Nat
  | [] => []
  | b :: t => hexd (b / 16) :: hexd (b % 16) :: hexB t
def hexS (s : ByteArray) : ByteArray := ofB (hexB (bl s))
def hv (b : Nat) : Int := if 48 ≤ b ∧ b ≤ 57 then ((b - 48 : Nat) : Int) else if 97 ≤ b ∧ b ≤ 102 then ((b - 87 : Nat) : Int) else -1
theorem hv_hexd (j : Nat) (h : j < 16) : hv (hexd j) = (j : Int) := by
  unfold hexd hv
  split
  · rw [if_pos (by omega)]; omega
  · rw [if_neg (by omega), if_pos (by omega)]; omega
theorem hexd_hv (b : Nat) (h : 0 ≤ hv b) : ∃ j, j < 16 ∧ hexd j = b ∧ hv b = (j : Int) := by
  unfold hv at h ⊢
  split at h
  · exact ⟨b - 48, by omega, by unfold hexd; rw [if_pos (by omega)]; omega, by rw [if_pos (by assumption)]⟩
  · split at h
    · exact ⟨b - 87, by omega, by unfold hexd; rw [if_neg (by omega)]; omega, by rw [if_neg (by assumption), if_pos (by assumption)]⟩
    · omega
theorem hv_range (b : Nat) : -1 ≤ hv b ∧ hv b < 16 := by
  unfold hv; split
  · omega
  · split <;> omega
def unhB : List Nat → Option (List Nat)
  | [] => some []
  | [_] => none
  | a :: b :: t => if hv a < 0 then none else if hv b < 0 then none else (unhB t).map ((16 * (hv a).toNat + (hv b).toNat) :: ·)
theorem unhB_odd (n : Nat) : ∀ l : List Nat, l.length = 2 * n + 1 → unhB l = none := by
  induction n with
  | zero =>
    intro l h
    match l, h with
    | [x], _ => rfl
  | succ n ih =>
    intro l h
    match l, h with
    | a :: b :: t, h =>
      rw [unhB, ih t (by simp at h; omega)]
      split
      · rfl
      · split <;> rfl
def uhS (s : ByteArray) : ByteArray × Bool := match unhB (bl s) with
  | some l => (ofB l, true)
  | none => (⟨#[]⟩, false)
theorem unh_hexB (l : List Nat) (h : ∀ x ∈ l, x < 256) : unhB (hexB l) = some l := by
  induction l with
  | nil => rfl
  | cons b t ih =>
    have hb := h b (by simp)
    rw [hexB, unhB, hv_hexd _ (by omega), hv_hexd _ (by omega), if_neg (by omega), if_neg (by omega), ih (fun x hx => h x (List.mem_cons_of_mem _ hx))]
    simp only [Option.map_some, Int.toNat_natCast, Option.some.injEq, List.cons.injEq, and_true]
    omega
theorem hexB_lt (l : List Nat) (h : ∀ x ∈ l, x < 256) : ∀ x ∈ hexB l, x < 256 := by
  induction l with
  | nil => simp [hexB]
  | cons b t ih =>
    have hb := h b (by simp)
    intro x hx
    rw [hexB] at hx
    rcases List.mem_cons.mp hx with rfl | hx
    · exact hexd_lt _ (by omega)
    · rcases List.mem_cons.mp hx with rfl | hx
      · exact hexd_lt _ (by omega)
      · exact ih (fun x hx => h x (List.mem_cons_of_mem _ hx)) x hx
theorem uh_hex (s : ByteArray) : uhS (hexS s) = (s, true) := by
  unfold uhS hexS
  rw [bl_ofB _ (hexB_lt _ (bl_lt s)), unh_hexB _ (bl_lt s)]
  simp only [ofB_bl]
theorem band15 (b : Nat) (h : b < 256) : Go.bits .and .u8 (b : Int) 15 = ((b % 16 : Nat) : Int) := by
  have := Go.bits_mask .u8 8 (by decide) Go.wraps_u8 4 (by decide) (b : Int) (by omega) (by omega)
  have e : ((2 : Int) ^ 4 - 1) = 15 := by decide
  rw [e] at this
  rw [this]; omega
end Go.Proofs.Ytcicpbneiofgbaa.Base
