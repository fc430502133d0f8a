/- The program's Unhex returns what the reference's returns, for all arguments. -/
import Derived.Test.YtheehldpcdfpmaaOFnExactUnhexx1
import Derived.Test.YtheehldpcdfpmaaBase
import Derived.Test.YtheehldpcdfpmaaHexs
namespace Go.Proofs.Ytheehldpcdfpmaa.Pure
open Go.RowKit Go.Proofs.Ytheehldpcdfpmaa.OFnExactUnhex Go.Proofs.YtheehldpcdfpmaaW.PrintWords Go.Proofs.YtheehldpcdfpmaaW.PrintLast Go.Proofs.YtheehldpcdfpmaaW.PrintMore Go.Proofs.Ytheehldpcdfpmaa.Base
set_option linter.unusedVariables false
set_option linter.unusedSimpArgs false
theorem spec_l1Digit_eq (v : Nat) (h : v < 16) : spec_l1Digit.f (v : Int) = some ((hexd v : Nat) : Int) := by
  unfold spec_l1Digit.f
  rw [if_pos (by omega), if_pos (by omega)]
  exact congrArg some (hexT_get v h)

theorem spec_l1FromHex_ev (b : Nat) : Ev (fun k => spec_l1FromHex.f k (b : Int)) (hv b) := by
  have loop : ∀ (d i : Nat), i + d = 16 → (∀ j, j < i → hexd j ≠ b) → Ev (fun k => spec_l1FromHex.l0 k (b : Int) (i : Int)) (hv b) := by
    intro d
    induction d with
    | zero =>
      intro i hi hno
      have : hv b = -1 := by
        have := hv_range b
        by_cases h : 0 ≤ hv b
        · obtain ⟨j, hj, he, _⟩ := hexd_hv b h
          exact absurd he (hno j (by omega))
        · omega
      rw [this]
      refine Ev.step (f := fun _ => some (-1)) (fun k => ?_) (Ev.now _)
      simp only [spec_l1FromHex.l0]
      rw [if_neg (by omega)]
    | succ d ih =>
      intro i hi hno
      have hd := spec_l1Digit_eq i (by omega)
      by_cases h : hexd i = b
      · have : hv b = (i : Int) := by rw [← h, hv_hexd _ (by omega)]
        rw [this]
        refine Ev.step (f := fun _ => some (i : Int)) (fun k => ?_) (Ev.now _)
        simp only [spec_l1FromHex.l0]
        rw [if_pos (by omega), hd, Option.bind_some, if_pos (by omega)]
      · refine Ev.step (fun k => ?_) (ih (i + 1) (by omega) (fun j hj => by
          by_cases e : j = i
          · rw [e]; exact h
          · exact hno j (by omega)))
        simp only [spec_l1FromHex.l0]
        rw [if_pos (by omega), hd, Option.bind_some, if_neg (by omega), w64 (by omega) (by omega)]
        rfl
  unfold spec_l1FromHex.f
  exact loop 16 0 (by omega) (fun j hj => by omega)

theorem spec_Unhex_ev (s : ByteArray) (hs : s.size ≤ 1073741824) : Ev (fun k => spec_Unhex.f k s) (uhS s) := by
  have hl := bl_len s
  have loop : ∀ (d i : Nat) (acc : List Int), i + 2 * d = s.size → acc.length ≤ i → Ev (fun k => spec_Unhex.l0 k s acc (i : Int)) (match unhB ((bl s).drop i) with | some l => (strOfNums (acc ++ l.map fun (n : Nat) => (n : Int)), true) | none => ((⟨#[]⟩ : ByteArray), false)) := by
    intro d
    induction d with
    | zero =>
      intro i acc hi ha
      rw [List.drop_of_length_le (by omega)]
      refine Ev.step (f := fun _ => some (strOfNums acc, true)) (fun k => ?_) (ev_eq (Ev.now _) ?_)
      · simp only [spec_Unhex.l0]
        rw [if_neg (by omega)]
      · simp [unhB]
    | succ d ih =>
      intro i acc hi ha
      have hlt : i < (bl s).length := by omega
      have hlt1 : i + 1 < (bl s).length := by omega
      have hb0 : (bl s)[i] < 256 := bl_lt s _ (List.getElem_mem hlt)
      have hb1 : (bl s)[i + 1] < 256 := bl_lt s _ (List.getElem_mem hlt1)
      have hcons : (bl s).drop i = (bl s)[i] :: (bl s)[i + 1] :: (bl s).drop (i + 2) := by rw [List.drop_eq_getElem_cons hlt, List.drop_eq_getElem_cons hlt1]
      have hw1 : Aside0 (wrap64 ((i : Int) + 1) = ((i + 1 : Nat) : Int)) := ⟨by rw [w64 (by omega) (by omega)]; omega⟩
      have hw2 : Aside0 (wrap64 ((i : Int) + 2) = ((i + 2 : Nat) : Int)) := ⟨by rw [w64 (by omega) (by omega)]; omega⟩
      have g0 := bt_get s i hlt
      have g1 := bt_get s (i + 1) hlt1
      have i0 : 0 ≤ (i : Int) := by omega
      have i1 : 0 ≤ ((i + 1 : Nat) : Int) := by omega
      have i2 : ((i + 1 : Nat) : Int) < (s.size : Int) := by omega
      have a3 : acc.length < 140737488355328 := by omega
      rw [hcons]
      generalize (bl s)[i] = x at *
      generalize (bl s)[i + 1] = y at *
      have rx := hv_range x
      have ry := hv_range y
      refine Ev.step (f := fun k => (spec_l1FromHex.f k (x : Int)).bind fun t => (spec_l1FromHex.f k (y : Int)).bind fun u => (if t < 0 then some ((⟨#[]⟩ : ByteArray), false) else (if u < 0 then some ((⟨#[]⟩ : ByteArray), false) else spec_Unhex.l0 k s (acc ++ [(wrap64 ((wrap64 (16 * t)) + u)) % 256]) ((i + 2 : Nat) : Int)))) (fun k => ?_) (Ev.bind (spec_l1FromHex_ev x) (Ev.bind (spec_l1FromHex_ev y) ?_))
      · simp only [spec_Unhex.l0]
        rw [if_pos (by omega), if_pos i0, hw1.out, g0, g1, hw2.out]
        simp only [i1, i2, a3, if_true]
      · rw [unhB]
        by_cases h1 : hv x < 0
        · simp only [h1, if_true]; exact Ev.now _
        · by_cases h2 : hv y < 0
          · simp only [h1, h2, if_true, if_false]; exact Ev.now _
          · simp only [h1, h2, if_false]
            obtain ⟨p, hp⟩ := Int.eq_ofNat_of_zero_le (show 0 ≤ hv x by omega)
            obtain ⟨q, hq⟩ := Int.eq_ofNat_of_zero_le (show 0 ≤ hv y by omega)
            have hpq : p < 16 ∧ q < 16 := by omega
            rw [hp, hq]
            have hr := ih (i + 2) (acc ++ [((16 * p + q : Nat) : Int)]) (by omega) (by simp; omega)
            have e : ((wrap64 ((wrap64 (16 * (p : Int))) + (q : Int))) % 256) = ((16 * p + q : Nat) : Int) := by rw [w64 (x := 16 * _) (by omega) (by omega), w64 (by omega) (by omega)]; omega
            rw [e]
            refine ev_eq hr ?_
            simp only [Int.toNat_natCast]
            cases unhB ((bl s).drop (i + 2)) with
            | none => rfl
            | some l => simp
  unfold spec_Unhex.f
  by_cases h : ((s.size : Int) % 2) = 1
  · simp only [h, if_true]
    refine ev_eq (Ev.now _) ?_
    unfold uhS
    rw [unhB_odd (s.size / 2) (bl s) (by omega)]
  · simp only [h, if_false]
    refine ev_eq (loop (s.size / 2) 0 [] (by omega) (by simp)) ?_
    rw [List.drop_zero]; rfl

theorem impl_hexValue_ev (b : Nat) (hb : b < 256) : Ev (fun k => impl_hexValue.f k (b : Int)) (hv b) := by
  have j1 : ∀ x : Bool, Ev (fun k => impl_hexValue.j0 k (b : Int) x) (if x = true then (((b : Int) - 48) % 256) else if 97 ≤ b ∧ b ≤ 102 then ((b - 87 : Nat) : Int) else -1) := by
    intro x
    refine Ev.step (f := fun _ => some (if x = true then (((b : Int) - 48) % 256) else if 97 ≤ b ∧ b ≤ 102 then ((b - 87 : Nat) : Int) else -1)) (fun k => ?_) (Ev.now _)
    cases x with
    | true => simp only [impl_hexValue.j0, if_true]
    | false =>
      simp only [impl_hexValue.j0, Bool.false_eq_true, if_false]
      by_cases h1 : (b : Int) ≥ 97
      · rw [if_pos h1]
        by_cases h2 : (b : Int) ≤ 102
        · rw [if_pos h2, if_pos (by omega)]; congr 1; omega
        · rw [if_neg h2, if_neg (by omega)]
      · rw [if_neg h1, if_neg (by omega)]
  unfold impl_hexValue.f hv
  by_cases h : (b : Int) ≥ 48
  · simp only [h, if_true]
    by_cases h2 : b ≤ 57
    · rw [if_pos (by omega)]
      have := j1 true
      rw [if_pos rfl] at this
      have e : decide ((b : Int) ≤ 57) = true := decide_eq_true (by omega)
      rw [e]
      refine ev_eq this (by omega)
    · rw [if_neg (by omega)]
      have := j1 false
      rw [if_neg (by decide)] at this
      have e : decide ((b : Int) ≤ 57) = false := decide_eq_false (by omega)
      rw [e]
      exact this
  · simp only [h, if_false]
    rw [if_neg (by omega)]
    have := j1 false
    rw [if_neg (by decide)] at this
    exact this

theorem impl_Unhex_ev (s : ByteArray) (hs : s.size ≤ 1073741824) : Ev (fun k => impl_Unhex.f k s) (uhS s) := by
  have hl := bl_len s
  have loop : ∀ (d i : Nat) (acc : List Int), i + 2 * d = s.size → acc.length ≤ i → Ev (fun k => impl_Unhex.l0 k s acc (i : Int)) (match unhB ((bl s).drop i) with | some l => (strOfNums (acc ++ l.map fun (n : Nat) => (n : Int)), true) | none => ((⟨#[]⟩ : ByteArray), false)) := by
    intro d
    induction d with
    | zero =>
      intro i acc hi ha
      rw [List.drop_of_length_le (by omega)]
      refine Ev.step (f := fun _ => some (strOfNums acc, true)) (fun k => ?_) (ev_eq (Ev.now _) ?_)
      · simp only [impl_Unhex.l0]
        rw [if_neg (by omega)]
      · simp [unhB]
    | succ d ih =>
      intro i acc hi ha
      have hlt : i < (bl s).length := by omega
      have hlt1 : i + 1 < (bl s).length := by omega
      have hb0 : (bl s)[i] < 256 := bl_lt s _ (List.getElem_mem hlt)
      have hb1 : (bl s)[i + 1] < 256 := bl_lt s _ (List.getElem_mem hlt1)
      have hcons : (bl s).drop i = (bl s)[i] :: (bl s)[i + 1] :: (bl s).drop (i + 2) := by rw [List.drop_eq_getElem_cons hlt, List.drop_eq_getElem_cons hlt1]
      have hw1 : Aside0 (wrap64 ((i : Int) + 1) = ((i + 1 : Nat) : Int)) := ⟨by rw [w64 (by omega) (by omega)]; omega⟩
      have hw2 : Aside0 (wrap64 ((i : Int) + 2) = ((i + 2 : Nat) : Int)) := ⟨by rw [w64 (by omega) (by omega)]; omega⟩
      have g0 := bt_get s i hlt
      have g1 := bt_get s (i + 1) hlt1
      have i0 : 0 ≤ (i : Int) := by omega
      have i1 : 0 ≤ ((i + 1 : Nat) : Int) := by omega
      have i2 : ((i + 1 : Nat) : Int) < (s.size : Int) := by omega
      have a3 : acc.length < 140737488355328 := by omega
      rw [hcons]
      generalize (bl s)[i] = x at *
      generalize (bl s)[i + 1] = y at *
      have rx := hv_range x
      have ry := hv_range y
      refine Ev.step (f := fun k => (impl_hexValue.f k (x : Int)).bind fun t => (impl_hexValue.f k (y : Int)).bind fun u => (if t < 0 then some ((⟨#[]⟩ : ByteArray), false) else (if u < 0 then some ((⟨#[]⟩ : ByteArray), false) else impl_Unhex.l0 k s (acc ++ [(Go.bits .or .i64 (wrap64 (t * 16)) u) % 256]) ((i + 2 : Nat) : Int)))) (fun k => ?_) (Ev.bind (impl_hexValue_ev x hb0) (Ev.bind (impl_hexValue_ev y hb1) ?_))
      · simp only [impl_Unhex.l0]
        rw [if_pos (by omega), if_pos i0, hw1.out, g0, g1, hw2.out]
        simp only [i1, i2, a3, if_true]
      · rw [unhB]
        by_cases h1 : hv x < 0
        · simp only [h1, if_true]; exact Ev.now _
        · by_cases h2 : hv y < 0
          · simp only [h1, h2, if_true, if_false]; exact Ev.now _
          · simp only [h1, h2, if_false]
            obtain ⟨p, hp⟩ := Int.eq_ofNat_of_zero_le (show 0 ≤ hv x by omega)
            obtain ⟨q, hq⟩ := Int.eq_ofNat_of_zero_le (show 0 ≤ hv y by omega)
            have hpq : p < 16 ∧ q < 16 := by omega
            rw [hp, hq]
            have hr := ih (i + 2) (acc ++ [((16 * p + q : Nat) : Int)]) (by omega) (by simp; omega)
            have e : ((Go.bits .or .i64 (wrap64 ((p : Int) * 16)) (q : Int)) % 256) = ((16 * p + q : Nat) : Int) := by rw [w64 (by omega) (by omega), bor_join 4 _ _ (by omega) (by omega) (by omega) (by omega) (by omega) (by omega)]; omega
            rw [e]
            refine ev_eq hr ?_
            simp only [Int.toNat_natCast]
            cases unhB ((bl s).drop (i + 2)) with
            | none => rfl
            | some l => simp
  unfold impl_Unhex.f
  by_cases h : ((s.size : Int) % 2) = 0
  · have hw : Aside0 (wrap64 ((s.size : Int) / 2) = ((s.size / 2 : Nat) : Int)) := ⟨by rw [w64 (by omega) (by omega)]; omega⟩
    have a1 : 0 ≤ ((s.size / 2 : Nat) : Int) := by omega
    have a2 : s.size / 2 ≤ 281474976710656 := by omega
    simp only [h, if_true, hw.out, a1, Int.toNat_natCast, a2]
    refine ev_eq (loop (s.size / 2) 0 [] (by omega) (by simp)) ?_
    rw [List.drop_zero]; rfl
  · simp only [h, if_false]
    refine ev_eq (Ev.now _) ?_
    unfold uhS
    rw [unhB_odd (s.size / 2) (bl s) (by omega)]

theorem FnExactUnhex : laws_FnExactUnhex.Pure := by
  intro s hs
  by_cases h : (s.size : Int) > 1048576
  · exact ⟨0, by unfold laws_FnExactUnhex.f; rw [if_pos h]⟩
  · apply Ev.rounds
    unfold laws_FnExactUnhex.f
    simp only [h, if_false]
    refine Ev.bind (spec_Unhex_ev s (by omega)) (Ev.bind (impl_Unhex_ev s (by omega)) ?_)
    simp
    exact Ev.now _

end Go.Proofs.Ytheehldpcdfpmaa.Pure
