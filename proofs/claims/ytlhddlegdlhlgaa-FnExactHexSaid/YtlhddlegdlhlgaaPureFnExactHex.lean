/- The program's Hex returns what the reference's returns, for all arguments. -/
import Derived.Test.YtlhddlegdlhlgaaOFnExactHexx1
import Derived.Test.YtlhddlegdlhlgaaBase
import Derived.Test.YtlhddlegdlhlgaaHexs
namespace Go.Proofs.Ytlhddlegdlhlgaa.Pure
open Go.RowKit Go.Proofs.Ytlhddlegdlhlgaa.OFnExactHex Go.Proofs.YtlhddlegdlhlgaaW.PrintWords Go.Proofs.YtlhddlegdlhlgaaW.PrintLast Go.Proofs.YtlhddlegdlhlgaaW.PrintMore Go.Proofs.Ytlhddlegdlhlgaa.Base
set_option linter.unusedVariables false
set_option linter.unusedSimpArgs false
theorem spec_l1Digit_eq (v : Nat) (h : v < 16) : spec_l1Digit.f (v : Int) = some ((hexd v : Nat) : Int) := by
  unfold spec_l1Digit.f
  rw [if_pos (by omega), if_pos (by omega)]
  exact congrArg some (hexT_get v h)

theorem spec_Hex_ev (s : ByteArray) (hs : s.size ≤ 1073741824) : Ev (fun k => spec_Hex.f k s) (hexS s) := by
  have hl := bl_len s
  have loop : ∀ (d i : Nat) (acc : List Int), i + d = s.size → acc.length ≤ 2 * i → Ev (fun k => spec_Hex.l0 k s acc (i : Int)) (strOfNums (acc ++ (hexB ((bl s).drop i)).map fun (n : Nat) => (n : Int))) := by
    intro d
    induction d with
    | zero =>
      intro i acc hi ha
      refine Ev.step (f := fun _ => some (strOfNums (acc ++ (hexB ((bl s).drop i)).map fun (n : Nat) => (n : Int)))) (fun k => ?_) (Ev.now _)
      simp only [spec_Hex.l0]
      rw [if_neg (by omega), List.drop_of_length_le (by omega)]; simp [hexB]
    | succ d ih =>
      intro i acc hi ha
      have hlt : i < (bl s).length := by omega
      have hb256 : (bl s)[i] < 256 := bl_lt s _ (List.getElem_mem hlt)
      have hcons : (bl s).drop i = (bl s)[i] :: (bl s).drop (i + 1) := List.drop_eq_getElem_cons hlt
      have e16 : ((16 : Nat) : Int) = 16 := rfl
      have hr := ih (i + 1) (acc ++ [((hexd ((bl s)[i] / 16) : Nat) : Int), ((hexd ((bl s)[i] % 16) : Nat) : Int)]) (by omega) (by simp; omega)
      refine Ev.step (fun k => ?_) (ev_eq hr ?_)
      · simp only [spec_Hex.l0]
        rw [if_pos (by omega), if_pos (by omega), bt_get s i hlt, w64 (x := (((bl s)[i] : Nat) : Int)) (by omega) (by omega), ← e16, tdivN, tmodN, w64 (x := (((bl s)[i] / 16 : Nat) : Int)) (by omega) (by omega), spec_l1Digit_eq _ (by omega), spec_l1Digit_eq _ (by omega), w64 (by omega) (by omega)]
        simp only [Option.bind_some]
        rw [if_pos (by simp; omega)]
        rfl
      · rw [hcons, hexB]; simp
  unfold spec_Hex.f
  refine ev_eq (loop s.size 0 [] (by omega) (by simp)) ?_
  rw [List.drop_zero]; rfl

theorem impl_Hex_ev (s : ByteArray) (hs : s.size ≤ 1073741824) : Ev (fun k => impl_Hex.f k s) (hexS s) := by
  have hl := bl_len s
  have loop : ∀ (d i : Nat) (acc : List Int), i + d = s.size → acc.length ≤ 2 * i → Ev (fun k => impl_Hex.l0 k s acc (i : Int)) (strOfNums (acc ++ (hexB ((bl s).drop i)).map fun (n : Nat) => (n : Int))) := by
    intro d
    induction d with
    | zero =>
      intro i acc hi ha
      refine Ev.step (f := fun _ => some (strOfNums (acc ++ (hexB ((bl s).drop i)).map fun (n : Nat) => (n : Int)))) (fun k => ?_) (Ev.now _)
      simp only [impl_Hex.l0]
      rw [if_neg (by omega), List.drop_of_length_le (by omega)]; simp [hexB]
    | succ d ih =>
      intro i acc hi ha
      have hlt : i < (bl s).length := by omega
      have hb256 : (bl s)[i] < 256 := bl_lt s _ (List.getElem_mem hlt)
      have hcons : (bl s).drop i = (bl s)[i] :: (bl s).drop (i + 1) := List.drop_eq_getElem_cons hlt
      have hr := ih (i + 1) (acc ++ [((hexd ((bl s)[i] / 16) : Nat) : Int), ((hexd ((bl s)[i] % 16) : Nat) : Int)]) (by omega) (by simp; omega)
      have e1 : (((bl s)[i] : Nat) : Int) / 16 = (((bl s)[i] / 16 : Nat) : Int) := by omega
      have h1 := hexT_get ((bl s)[i] / 16) (by omega)
      have h2 := hexT_get ((bl s)[i] % 16) (by omega)
      unfold hexT at h1 h2
      refine Ev.step (fun k => ?_) (ev_eq hr ?_)
      · simp only [impl_Hex.l0]
        rw [if_pos (by omega), if_pos (by omega), bt_get s i hlt, e1, band15 _ hb256, if_pos (by omega), if_pos (by omega), if_pos (by omega), if_pos (by omega), w64 (by omega) (by omega), h1, h2]
        simp only [Option.bind_some]
        rw [if_pos (by simp; omega)]
        rfl
      · rw [hcons, hexB]; simp
  unfold impl_Hex.f
  have hw : Aside0 (wrap64 (2 * (s.size : Int)) = ((2 * s.size : Nat) : Int)) := ⟨by rw [w64 (by omega) (by omega)]; omega⟩
  have a1 : 0 ≤ ((2 * s.size : Nat) : Int) := by omega
  have a2 : 2 * s.size ≤ 281474976710656 := by omega
  simp only [hw.out, a1, if_true, Int.toNat_natCast, a2]
  refine ev_eq (loop s.size 0 [] (by omega) (by simp)) ?_
  rw [List.drop_zero]; rfl

theorem FnExactHex : laws_FnExactHex.Pure := by
  intro s hs
  by_cases h : (s.size : Int) > 1048576
  · exact ⟨0, by unfold laws_FnExactHex.f; rw [if_pos h]⟩
  · apply Ev.rounds
    unfold laws_FnExactHex.f
    simp only [h, if_false]
    refine Ev.bind (spec_Hex_ev s (by omega)) (Ev.bind (impl_Hex_ev s (by omega)) ?_)
    simp
    exact Ev.now _

end Go.Proofs.Ytlhddlegdlhlgaa.Pure
