/- What is written of a number or of a text reads as it again, and what reads is what would be written: for all codes. -/
import Derived.Test.YtcicpbneiofgbaaOFnNumbersx6
import Derived.Test.YtcicpbneiofgbaaBase
import Derived.Test.YtcicpbneiofgbaaDraws
import Derived.Test.YtcicpbneiofgbaaDecs
import Derived.Test.YtcicpbneiofgbaaHexs
import Derived.Test.YtcicpbneiofgbaaTerms
namespace Go.Proofs.Ytcicpbneiofgbaa.Pure
open Go.RowKit Go.Proofs.Ytcicpbneiofgbaa.OFnNumbers Go.Proofs.YtcicpbneiofgbaaW.PrintWords Go.Proofs.YtcicpbneiofgbaaW.PrintLast Go.Proofs.YtcicpbneiofgbaaW.PrintMore Go.Proofs.Ytcicpbneiofgbaa.Base
set_option linter.unusedVariables false
set_option linter.unusedSimpArgs false
theorem laws_big_eq (l : List Int) : laws_big.f l = some (decide ((l.length : Int) > 1048576)) := rfl

theorem spec_l1New_ok (l : List Int) (hl : l.length ≤ 140737488351232) : ∃ h : Int, Ev (fun k => spec_l1New.f k l) (l, 0, h) := by
  have loop : ∀ (d i : Nat) (h : Int), i + d = l.length → ∃ h' : Int, Ev (fun k => spec_l1New.l0 k l h (i : Int)) (l, 0, h') := by
    intro d
    induction d with
    | zero =>
      intro i h hi
      refine ⟨h, Ev.step (f := fun _ => some (l, 0, h)) (fun k => ?_) (Ev.now _)⟩
      simp only [spec_l1New.l0]
      rw [if_neg (by omega)]
    | succ d ih =>
      intro i h hi
      by_cases h4 : (i : Int) < 4000
      · obtain ⟨h', hh⟩ := ih (i + 1) (Go.bits .and .i64 (wrap64 ((wrap64 ((wrap64 (h * 131)) + (wrap64 (rd l (i : Int))))) + 7)) 1073741823) (by omega)
        refine ⟨h', Ev.step (fun k => ?_) hh⟩
        simp only [spec_l1New.l0]
        rw [if_pos (by omega), if_pos h4, if_pos (by omega), w64 (x := (i : Int) + 1) (by omega) (by omega)]
        rfl
      · refine ⟨h, Ev.step (f := fun _ => some (l, 0, h)) (fun k => ?_) (Ev.now _)⟩
        simp only [spec_l1New.l0]
        rw [if_pos (by omega), if_neg h4]
  unfold spec_l1New.f
  exact loop l.length 0 _ (by omega)

theorem spec_l1Byte_ok (b : List Int) (i h : Int) (hb : b.length ≤ 140737488351232) (hi : 0 ≤ i) : ∃ x i' h' : Int, spec_l1Byte.f b i h = some (x, i', h') ∧ 0 ≤ x ∧ x ≤ 255 ∧ 0 ≤ i' := by
  unfold spec_l1Byte.f
  by_cases h1 : i < (b.length : Int)
  · rw [if_pos h1, if_pos hi]
    refine ⟨_, _, _, rfl, (band255 _).1, (band255 _).2, ?_⟩
    rw [w64 (by omega) (by omega)]; omega
  · rw [if_neg h1]
    exact ⟨_, _, _, rfl, (band255 _).1, (band255 _).2, hi⟩

theorem spec_l1Below_ok (b : List Int) (i h n : Int) (hb : b.length ≤ 140737488351232) (hi : 0 ≤ i) (hn : 1 ≤ n) : ∃ x i' h' : Int, spec_l1Below.f b i h n = some (x, i', h') ∧ 0 ≤ x ∧ x < n ∧ 0 ≤ i' := by
  unfold spec_l1Below.f
  rw [if_neg (by omega)]
  have tm : ∀ y : Int, 0 ≤ y → 0 ≤ Int.tmod y n ∧ Int.tmod y n < n := fun y hy => ⟨Int.tmod_nonneg _ hy, Int.tmod_lt_of_pos _ (by omega)⟩
  by_cases h1 : n ≤ 256
  · rw [if_pos h1]
    obtain ⟨x, i', h', he, hx, _, hi'⟩ := spec_l1Byte_ok b i h hb hi
    rw [he, Option.bind_some, if_neg (by omega)]
    exact ⟨_, _, _, rfl, (tm x hx).1, (tm x hx).2, hi'⟩
  · rw [if_neg h1]
    obtain ⟨x1, i1, h1, he1, hx1, hy1, hi1⟩ := spec_l1Byte_ok b i h hb hi
    obtain ⟨x2, i2, h2, he2, hx2, hy2, hi2⟩ := spec_l1Byte_ok b i1 h1 hb hi1
    obtain ⟨x3, i3, h3, he3, hx3, hy3, hi3⟩ := spec_l1Byte_ok b i2 h2 hb hi2
    obtain ⟨x4, i4, h4, he4, hx4, hy4, hi4⟩ := spec_l1Byte_ok b i3 h3 hb hi3
    rw [he1, Option.bind_some, he2, Option.bind_some, he3, Option.bind_some, he4, Option.bind_some, if_neg (by omega)]
    rw [w64 (x := x1 * 16777216) (by omega) (by omega), w64 (x := x2 * 65536) (by omega) (by omega), w64 (x := x3 * 256) (by omega) (by omega), w64 (x := _ + x2 * 65536) (by omega) (by omega), w64 (x := _ + x3 * 256) (by omega) (by omega), w64 (x := _ + x4) (by omega) (by omega)]
    exact ⟨_, _, _, rfl, (tm _ (by omega)).1, (tm _ (by omega)).2, hi4⟩

theorem spec_l1PickInt_ok (b : List Int) (i h : Int) (l : List Int) (hb : b.length ≤ 140737488351232) (hi : 0 ≤ i) (hl : 1 ≤ l.length) : ∃ (x i' h' : Int), spec_l1PickInt.f b i h l = some (x, i', h') ∧ x ∈ l ∧ 0 ≤ i' := by
  unfold spec_l1PickInt.f
  obtain ⟨x, i', h', he, h0, h1, hi'⟩ := spec_l1Below_ok b i h (l.length : Int) hb hi (by omega)
  rw [he]
  simp only [Option.bind_some]
  rw [if_pos h0, if_pos h1]
  refine ⟨_, _, _, rfl, ?_, hi'⟩
  unfold rd
  rw [List.getD_eq_getElem?_getD, List.getElem?_eq_getElem (by omega)]
  exact List.getElem_mem _

theorem spec_l1Num_ok (b : List Int) (i h : Int) (hb : b.length ≤ 140737488351232) (hi : 0 ≤ i) : ∃ (x i' h' : Int), spec_l1Num.f b i h = some (x, i', h') ∧ (-9223372036854775808 ≤ x ∧ x ≤ 9223372036854775807) ∧ 0 ≤ i' := by
  obtain ⟨c, i1, h1, e1, c0, c1, hi1⟩ := spec_l1Below_ok b i h 8 hb hi (by omega)
  unfold spec_l1Num.f
  simp only [e1, Option.bind_some]
  by_cases k0 : c = 0
  · obtain ⟨x, i2, h2, e2, hx, hi2⟩ := spec_l1PickInt_ok b i1 h1 [(-1), 0, 127, 128, 255, 256, 16383, 16384, 65535, 65536, 562949953421311, 562949953421312, 999999999, 1000000000, (-999999999), 9223372036854775807, (-9223372036854775808)] hb hi1 (by decide)
    simp only [k0, if_true, e2, Option.bind_some]
    refine ⟨x, i2, h2, rfl, ?_, hi2⟩
    simp only [List.mem_cons, List.not_mem_nil, or_false] at hx
    omega
  · simp only [k0, if_false]
    by_cases k1 : c = 1
    · obtain ⟨x, i2, h2, e2, x0, x1, hi2⟩ := spec_l1Below_ok b i1 h1 1000000000 hb hi1 (by omega)
      obtain ⟨y, i3, h3, e3, y0, y1, hi3⟩ := spec_l1Below_ok b i2 h2 1000000000 hb hi2 (by omega)
      simp only [k1, if_true, e2, e3, Option.bind_some]
      refine ⟨_, i3, h3, rfl, ?_, hi3⟩
      unfold wrap64
      omega
    · simp only [k1, if_false]
      by_cases k2 : c = 2
      · obtain ⟨x, i2, h2, e2, x0, x1, hi2⟩ := spec_l1Below_ok b i1 h1 100000 hb hi1 (by omega)
        simp only [k2, if_true, e2, Option.bind_some]
        refine ⟨_, i2, h2, rfl, ?_, hi2⟩
        rw [w64 (by omega) (by omega)]
        omega
      · obtain ⟨x, i2, h2, e2, x0, x1, hi2⟩ := spec_l1Below_ok b i1 h1 70000 hb hi1 (by omega)
        simp only [k2, if_false, e2, Option.bind_some]
        exact ⟨x, i2, h2, rfl, by omega, hi2⟩

theorem spec_DrawVar_ok (l : List Int) (hl : l.length ≤ 140737488351232) : ∃ n : Int, Ev (fun k => spec_DrawVar.f k l) n ∧ (-9223372036854775808 ≤ n ∧ n ≤ 9223372036854775807) := by
  obtain ⟨h, ev⟩ := spec_l1New_ok l hl
  obtain ⟨x, i', h', e, hx, _⟩ := spec_l1Num_ok l 0 h hl (by omega)
  refine ⟨x, Ev.bind ev ?_, hx⟩
  simp only [e, Option.bind_some]
  exact Ev.now _

theorem spec_l1Text_ok (b : List Int) (i h : Int) (n : Nat) (hb : b.length ≤ 140737488351232) (hi : 0 ≤ i) (hn : n ≤ 1000) : ∃ (t : ByteArray) (i' h' : Int), Ev (fun k => spec_l1Text.f k b i h (n : Int)) (t, i', h') ∧ t.size ≤ n ∧ 0 ≤ i' := by
  have loop : ∀ (m : Int) (d : Nat) (acc : List Int) (i h : Int), 0 ≤ i → acc.length + d ≤ 1000 → ∃ (t : ByteArray) (i' h' : Int), Ev (fun k => spec_l1Text.l0 k acc m (d : Int) b i h) (t, i', h') ∧ t.size ≤ acc.length + d ∧ 0 ≤ i' := by
    intro m d
    induction d with
    | zero =>
      intro acc i h hi hl
      refine ⟨strOfNums acc, i, h, Ev.step (f := fun _ => some (strOfNums acc, i, h)) (fun k => ?_) (Ev.now _), by rw [strOfNums_size]; omega, hi⟩
      simp only [spec_l1Text.l0]
      rw [if_neg (by omega)]
    | succ d ih =>
      intro acc i h hi hl
      obtain ⟨x, i1, h1, e, _, _, hi1⟩ := spec_l1Byte_ok b i h hb hi
      have e2 : wrap64 (((d + 1 : Nat) : Int) - 1) = (d : Int) := by rw [w64 (x := ((d + 1 : Nat) : Int) - 1) (by omega) (by omega)]; omega
      have c0 : ((d + 1 : Nat) : Int) > 0 := by omega
      have c : acc.length < 140737488355328 := by omega
      have go : ∀ v : Int, (∀ k, spec_l1Text.l0 (k + 1) acc m ((d + 1 : Nat) : Int) b i h = spec_l1Text.l0 k (acc ++ [v]) m (d : Int) b i1 h1) → ∃ (t : ByteArray) (i' h' : Int), Ev (fun k => spec_l1Text.l0 k acc m ((d + 1 : Nat) : Int) b i h) (t, i', h') ∧ t.size ≤ acc.length + (d + 1) ∧ 0 ≤ i' := by
        intro v hv
        obtain ⟨t, i', h', ev, hs, hi'⟩ := ih (acc ++ [v]) i1 h1 hi1 (by rw [List.length_append, List.length_singleton]; omega)
        rw [List.length_append, List.length_singleton] at hs
        exact ⟨t, i', h', Ev.step hv ev, by omega, hi'⟩
      by_cases m1 : m = 1
      · have m2 : ¬ m = 2 := by omega
        refine go ((Int.tmod x 2) % 256) (fun k => ?_)
        simp only [spec_l1Text.l0]
        rw [if_pos c0, e, Option.bind_some, if_pos m1, if_neg m2, if_pos c, e2]
      · by_cases m2 : m = 2
        · refine go ((wrap64 (97 + (Int.tmod x 4))) % 256) (fun k => ?_)
          simp only [spec_l1Text.l0]
          rw [if_pos c0, e, Option.bind_some, if_neg m1, if_pos m2, if_pos c, e2]
        · refine go (x % 256) (fun k => ?_)
          simp only [spec_l1Text.l0]
          rw [if_pos c0, e, Option.bind_some, if_neg m1, if_neg m2, if_pos c, e2]
  obtain ⟨m, i1, h1, e1, _, _, hi1⟩ := spec_l1Below_ok b i h 4 hb hi (by omega)
  obtain ⟨d, i2, h2, e2, hd0, hd1, hi2⟩ := spec_l1Below_ok b i1 h1 ((n : Int) + 1) hb hi1 (by omega)
  obtain ⟨d', rfl⟩ : ∃ d' : Nat, d = (d' : Int) := ⟨d.toNat, by omega⟩
  obtain ⟨t, i', h', ev, hs, hi'⟩ := loop m d' [] i2 h2 hi2 (by simp only [List.length_nil]; omega)
  refine ⟨t, i', h', ?_, by simp only [List.length_nil] at hs; omega, hi'⟩
  unfold spec_l1Text.f
  have w : wrap64 ((n : Int) + 1) = (n : Int) + 1 := w64 (by omega) (by omega)
  simp only [e1, w, e2, Option.bind_some]
  exact ev

theorem spec_DrawHex_ok (l : List Int) (hl : l.length ≤ 140737488351232) : ∃ t : ByteArray, Ev (fun k => spec_DrawHex.f k l) t ∧ t.size ≤ 40 := by
  obtain ⟨h, ev⟩ := spec_l1New_ok l hl
  obtain ⟨t, i', h', ev', ht, _⟩ := spec_l1Text_ok l 0 h 40 hl (by omega) (by omega)
  exact ⟨t, Ev.bind ev (Ev.bind ev' (Ev.now _)), ht⟩

theorem impl_within_eq (a lo hi : Int) : impl_within.f a lo hi = some (decide (lo ≤ a ∧ a ≤ hi)) := by
  unfold impl_within.f
  by_cases h : a ≥ lo
  · rw [if_pos h]; congr 1; simp [show lo ≤ a from h]
  · rw [if_neg h]; congr 1; simp [show ¬ lo ≤ a from h]

theorem impl_Var_loop (j : Nat) : ∀ (n : Nat) (acc : List Int), n < 128 ^ (j + 1) → n ≤ MAXV → acc.length + j < 1000 →
    Ev (fun k => impl_Var.l0 k (n : Int) acc) (strOfNums (acc ++ (var n).map fun (m : Nat) => (m : Int))) := by
  induction j with
  | zero =>
    intro n acc hn hm ha
    have hn' : n < 128 := by simpa using hn
    refine Ev.step (f := fun _ => some (strOfNums (acc ++ (var n).map fun (m : Nat) => (m : Int)))) (fun k => ?_) (Ev.now _)
    simp only [impl_Var.l0]
    rw [if_neg (by omega), if_pos (by omega), var_small hn', show (n : Int) % 256 = (n : Int) by omega]; rfl
  | succ j ih =>
    intro n acc hn hm ha
    by_cases h : n < 128
    · refine Ev.step (f := fun _ => some (strOfNums (acc ++ (var n).map fun (m : Nat) => (m : Int)))) (fun k => ?_) (Ev.now _)
      simp only [impl_Var.l0]
      rw [if_neg (by omega), if_pos (by omega), var_small h, show (n : Int) % 256 = (n : Int) by omega]; rfl
    · have hd : n / 128 < 128 ^ (j + 1) := Nat.div_lt_of_lt_mul (by rw [Nat.pow_succ] at hn; omega)
      have hr := ih (n / 128) (acc ++ [((n % 128 + 128 : Nat) : Int)]) hd (by omega) (by simp; omega)
      refine Ev.step (f := fun k => impl_Var.l0 k ((n / 128 : Nat) : Int) (acc ++ [((n % 128 + 128 : Nat) : Int)])) (fun k => ?_) (ev_eq hr ?_)
      · simp only [impl_Var.l0]
        rw [if_pos (by omega), if_pos (by omega), or_and n (by unfold MAXV at hm; omega)]
        congr 1
      · rw [var_big h, List.map_cons, List.append_assoc]; rfl
theorem impl_Var_ev (n : Int) : Ev (fun k => impl_Var.f k n) (varS n) := by
  unfold impl_Var.f
  simp only [impl_within_eq, Option.bind_some]
  by_cases h : 0 ≤ n ∧ n ≤ 562949953421311
  · simp only [h, decide_true, if_true]
    obtain ⟨m, rfl⟩ := Int.eq_ofNat_of_zero_le h.1
    have hm : m ≤ MAXV := by unfold MAXV; omega
    refine ev_eq (impl_Var_loop 6 m [] (by unfold MAXV at hm; omega) hm (by simp)) ?_
    rw [varS_in hm]; rfl
  · simp only [h, decide_false]
    rw [varS_out h]
    exact Ev.now _

theorem impl_ReadVar_loop (s : ByteArray) (hs : s.size ≤ 140737488355327) (d : Nat) : ∀ (i n : Nat), i + d = 7 → i ≤ (bl s).length → (∀ j, j < i → 128 ≤ (bl s).getD j 0) → n = val ((bl s).take i) →
    Ev (fun k => impl_ReadVar.l0 k s (n : Int) (i : Int)) (rvI (bl s)) := by
  have hl := bl_len s
  induction d with
  | zero =>
    intro i n hi hle hc hn
    have e : rvI (bl s) = (0, 0) := rvI_none (fun n k hR => R_far (bl s) i hc (Or.inr (by omega)) hR)
    rw [e]
    refine Ev.step (f := fun k => impl_ReadVar.j1 k s (n : Int) (i : Int) false) (fun k => ?_) (Ev.step (f := fun _ => some (0, 0)) (fun k => ?_) (Ev.now _))
    · simp only [impl_ReadVar.l0]
      by_cases h : (i : Int) < (s.size : Int)
      · rw [if_pos h, decide_eq_false (by omega)]
      · rw [if_neg h]
    · simp [impl_ReadVar.j1]
  | succ d ih =>
    intro i n hi hle hc hn
    by_cases h : i < (bl s).length
    · have is_ : (i : Int) < (s.size : Int) := by omega
      have i7 : (i : Int) < 7 := by omega
      have i0 : 0 ≤ (i : Int) := by omega
      have i1s : ((i + 1 : Nat) : Int) ≤ (s.size : Int) := by omega
      have i10 : 0 ≤ ((i + 1 : Nat) : Int) := by omega
      have i1S : i + 1 ≤ s.size := by omega
      have hw1 : Aside0 (wrap64 ((i : Int) + 1) = ((i + 1 : Nat) : Int)) := ⟨by rw [w64 (by omega) (by omega)]; omega⟩
      have hw7 : Aside0 (0 ≤ wrap64 (7 * (i : Int))) := ⟨by rw [w64 (by omega) (by omega)]; omega⟩
      have hj : ∀ k, impl_ReadVar.l0 (k + 1) s (n : Int) (i : Int) = impl_ReadVar.j1 k s (n : Int) (i : Int) true := by
        intro k
        simp only [impl_ReadVar.l0]
        rw [if_pos is_, decide_eq_true i7]
      have hb : bt s (i : Int) = (((bl s)[i] : Nat) : Int) := bt_get s i h
      have hb256 : (bl s)[i] < 256 := bl_lt s _ (List.getElem_mem h)
      have hnlt : n < 128 ^ i := by
        have := val_lt ((bl s).take i)
        rw [List.length_take, Nat.min_eq_left hle] at this
        omega
      have ho := or_shl n i (bl s)[i] hnlt (by omega) hb256
      have hv := val_take (bl s) i h
      have hnn : n + 128 ^ i * ((bl s)[i] % 128) = val ((bl s).take (i + 1)) := by rw [hv, hn]
      have hsum := val_lt ((bl s).take (i + 1))
      rw [List.length_take, Nat.min_eq_left (by omega)] at hsum
      have hp : 128 ^ (i + 1) ≤ 128 ^ 7 := Nat.pow_le_pow_right (by decide) (by omega)
      have hmax : n + 128 ^ i * ((bl s)[i] % 128) ≤ MAXV := by
        have h7 : (128 : Nat) ^ 7 = 562949953421312 := by decide
        rw [hnn]; unfold MAXV; omega
      have hg : (bl s).getD i 0 = (bl s)[i] := by rw [List.getD_eq_getElem?_getD, List.getElem?_eq_getElem h]; rfl
      by_cases hlt : (bl s)[i] < 128
      · have hvar := impl_Var_ev ((n + 128 ^ i * ((bl s)[i] % 128) : Nat) : Int)
        refine Ev.step hj (Ev.step (f := fun k => (impl_Var.f k ((n + 128 ^ i * ((bl s)[i] % 128) : Nat) : Int)).bind fun t => (if t.toList = (s.extract 0 (i + 1)).toList then some (((n + 128 ^ i * ((bl s)[i] % 128) : Nat) : Int), ((i + 1 : Nat) : Int)) else some (0, 0))) (fun k => ?_) (Ev.bind hvar ?_))
        · simp only [impl_ReadVar.j1, if_true]
          rw [if_pos i0, if_pos is_, if_pos hw7.out, hb, if_pos (show (((bl s)[i] : Nat) : Int) < 128 from Int.ofNat_lt.mpr hlt), ho, hw1.out]
          congr 1
          funext t
          rw [if_pos i10, if_pos i1s]
          rfl
        · by_cases hR : R (bl s) (n + 128 ^ i * ((bl s)[i] % 128)) (i + 1)
          · rw [rvI_some hR]
            have := (R_iff s _ (i + 1) hmax i1S).2 hR
            simp only [this, if_true]
            exact Ev.now _
          · have hne : ¬ varS ((n + 128 ^ i * ((bl s)[i] % 128) : Nat) : Int) = s.extract 0 (i + 1) := fun e => hR ((R_iff s _ (i + 1) hmax i1S).1 e)
            have hnone : rvI (bl s) = (0, 0) := rvI_none (fun n' k' hR' => by
              have hk := R_upto (bl s) i h (by omega) hc hlt hR'
              subst hk
              have hv' := R_val hR'
              rw [← hnn] at hv'
              rw [← hv'] at hR'
              exact hR hR')
            rw [hnone]
            simp only [toList_iff, hne, if_false]
            exact Ev.now _
      · have hr := ih (i + 1) (n + 128 ^ i * ((bl s)[i] % 128)) (by omega) (by omega) (fun j hj => by
          by_cases he : j < i
          · exact hc j he
          · have : j = i := by omega
            rw [this, hg]; omega) hnn
        refine Ev.step hj (Ev.step (f := fun k => impl_ReadVar.l0 k s ((n + 128 ^ i * ((bl s)[i] % 128) : Nat) : Int) ((i + 1 : Nat) : Int)) (fun k => ?_) hr)
        simp only [impl_ReadVar.j1, if_true]
        rw [if_pos i0, if_pos is_, if_pos hw7.out, hb, if_neg (show ¬ (((bl s)[i] : Nat) : Int) < 128 from fun e => hlt (Int.ofNat_lt.mp e)), ho, hw1.out]
    · have e : rvI (bl s) = (0, 0) := rvI_none (fun n k hR => R_far (bl s) i hc (Or.inl (by omega)) hR)
      rw [e]
      refine Ev.step (f := fun k => impl_ReadVar.j1 k s (n : Int) (i : Int) false) (fun k => ?_) (Ev.step (f := fun _ => some (0, 0)) (fun k => ?_) (Ev.now _))
      · simp only [impl_ReadVar.l0]
        rw [if_neg (by omega)]
      · simp [impl_ReadVar.j1]
theorem impl_ReadVar_ev (s : ByteArray) (hs : s.size ≤ 140737488355327) : Ev (fun k => impl_ReadVar.f k s) (rvI (bl s)) := by
  unfold impl_ReadVar.f
  exact impl_ReadVar_loop s hs 7 0 0 (by omega) (by omega) (by intro j hj; omega) (by simp [val])

theorem impl_Fixed_loop (d : Nat) : ∀ (n : Nat) (x : Int) (xs : List Int), x = (d : Int) - 1 → d ≤ xs.length → d ≤ 7 → n < 9223372036854775808 →
    Ev (fun k => impl_Fixed.l0 k (n : Int) xs x) (strOfNums ((fixB d n).map (fun (m : Nat) => (m : Int)) ++ xs.drop d)) := by
  induction d with
  | zero =>
    intro n x xs hx hd h7 hn
    refine Ev.step (f := fun _ => some (strOfNums ((fixB 0 n).map (fun (m : Nat) => (m : Int)) ++ xs.drop 0))) (fun k => ?_) (Ev.now _)
    simp only [impl_Fixed.l0]
    rw [if_neg (by omega)]
    rfl
  | succ d ih =>
    intro n x xs hx hd h7 hn
    have hx' : x = (d : Int) := by omega
    subst hx'
    have e : Go.bits .and .i64 (n : Int) 255 % 256 = ((n % 256 : Nat) : Int) := by
      have := band_mask (n : Int) 8 (by decide) (by omega) (by omega)
      have e : ((2 : Int) ^ 8 - 1) = 255 := by decide
      rw [e] at this
      rw [this]; omega
    have e2 : (n : Int) / 256 = ((n / 256 : Nat) : Int) := by omega
    have hr := ih (n / 256) ((d : Int) - 1) (xs.set d ((n % 256 : Nat) : Int)) rfl (by rw [List.length_set]; omega) (by omega) (by omega)
    refine Ev.step (fun k => ?_) (ev_eq hr ?_)
    · simp only [impl_Fixed.l0]
      rw [if_pos (by omega), if_pos (by omega), if_pos (by omega), e, e2, w64 (by omega) (by omega), Int.toNat_natCast]
    · rw [fixB, List.map_append, List.append_assoc]
      congr 2
      rw [List.drop_eq_getElem_cons (by rw [List.length_set]; omega)]
      simp [List.drop_set]
theorem impl_Fixed_ev (n w : Int) (hn : n ≤ 9223372036854775807) : Ev (fun k => impl_Fixed.f k n w) (fixS n w) := by
  have dead : Ev (fun k => impl_Fixed.j0 k n w true) (⟨#[]⟩ : ByteArray) := by
    refine Ev.step (f := fun _ => some (⟨#[]⟩ : ByteArray)) (fun k => ?_) (Ev.now _)
    simp [impl_Fixed.j0]
  unfold impl_Fixed.f fixS
  simp only [impl_within_eq, Option.bind_some]
  by_cases h : 1 ≤ w ∧ w ≤ 7
  · simp only [h, decide_true, if_true, true_and]
    by_cases hk : 0 ≤ n
    · have hk' : ¬ n < 0 := by omega
      simp only [hk', if_false]
      obtain ⟨m, rfl⟩ := Int.eq_ofNat_of_zero_le (show 0 ≤ w by omega)
      obtain ⟨n, rfl⟩ := Int.eq_ofNat_of_zero_le hk
      have hs : 0 ≤ wrap64 (8 * (m : Int)) ∧ shl .i64 1 (wrap64 (8 * (m : Int))) = ((256 ^ m : Nat) : Int) := by
        have : m = 1 ∨ m = 2 ∨ m = 3 ∨ m = 4 ∨ m = 5 ∨ m = 6 ∨ m = 7 := by omega
        rcases this with rfl | rfl | rfl | rfl | rfl | rfl | rfl <;> exact ⟨by decide +kernel, by decide +kernel⟩
      simp only [hs.1, if_true, hs.2, Int.toNat_natCast]
      by_cases hlt : n < 256 ^ m
      · have hge : ¬ ((n : Int) ≥ ((256 ^ m : Nat) : Int)) := by omega
        rw [if_pos ⟨hk, hlt⟩, decide_eq_false hge]
        have hr := impl_Fixed_loop m n ((m : Int) - 1) (List.replicate m 0) rfl (by simp) (by omega) (by omega)
        refine Ev.step (fun k => ?_) (ev_eq hr ?_)
        · simp only [impl_Fixed.j0]
          rw [if_neg (by decide), if_pos (by omega), if_pos (by omega), w64 (by omega) (by omega)]
          rfl
        · rw [List.drop_of_length_le (by simp), List.append_nil]; rfl
      · have hge : ((n : Int) ≥ ((256 ^ m : Nat) : Int)) := by omega
        rw [if_neg (fun e => hlt e.2), decide_eq_true hge]
        exact dead
    · have hk' : n < 0 := by omega
      simp only [hk', if_true]
      rw [if_neg (fun e => hk e.1)]
      exact dead
  · rw [if_neg (fun e => h ⟨e.1, e.2.1⟩)]
    simp only [h, decide_false]
    exact dead

theorem impl_ReadFixed_loop (s : ByteArray) (hs : s.size ≤ 140737488355327) (w : Nat) (h7 : w ≤ 7) (hw : w ≤ (bl s).length) (d : Nat) : ∀ (i : Nat), i + d = w →
    Ev (fun k => impl_ReadFixed.l0 k s (w : Int) ((be ((bl s).take i) : Nat) : Int) (i : Int)) (((be ((bl s).take w) : Nat) : Int), true) := by
  have hl := bl_len s
  induction d with
  | zero =>
    intro i hi
    have : i = w := by omega
    subst this
    refine Ev.step (f := fun _ => some (((be ((bl s).take i) : Nat) : Int), true)) (fun k => ?_) (Ev.now _)
    simp only [impl_ReadFixed.l0]
    rw [if_neg (by omega)]
  | succ d ih =>
    intro i hi
    have hlt : i < (bl s).length := by omega
    have h1 : (i : Int) < (w : Int) := by omega
    have h2 : 0 ≤ (i : Int) := by omega
    have h3 : (i : Int) < (s.size : Int) := by omega
    have hw1 : Aside0 (wrap64 ((i : Int) + 1) = ((i + 1 : Nat) : Int)) := ⟨by rw [w64 (by omega) (by omega)]; omega⟩
    have hb256 : (bl s)[i] < 256 := bl_lt s _ (List.getElem_mem hlt)
    have hbe := be_lt ((bl s).take i) (fun x hx => bl_lt s x (List.mem_of_mem_take hx))
    rw [List.length_take, Nat.min_eq_left (by omega)] at hbe
    have hp : 256 ^ i ≤ 256 ^ 6 := Nat.pow_le_pow_right (by decide) (by omega)
    have hbe' : be ((bl s).take i) < 281474976710656 := Nat.lt_of_lt_of_le hbe hp
    clear hbe hp
    refine Ev.step (fun k => ?_) (ih (i + 1) (by omega))
    simp only [impl_ReadFixed.l0]
    rw [if_pos h1, if_pos h2, if_pos h3, bt_get s i hlt, hw1.out, be_take _ _ hlt, w64 (x := (((bl s)[i] : Nat) : Int)) (by omega) (by omega), w64 (x := _ * 256) (by omega) (by omega), bor_join 8 _ _ (by omega) (by omega) (by omega) (by omega) (by omega) (by omega)]
    rfl
theorem impl_ReadFixed_ev (s : ByteArray) (hs : s.size ≤ 140737488355327) (w : Int) : Ev (fun k => impl_ReadFixed.f k s w) (rfI s w) := by
  have hl := bl_len s
  unfold impl_ReadFixed.f rfI
  simp only [impl_within_eq, Option.bind_some]
  by_cases h : 1 ≤ w ∧ w ≤ 7
  · simp only [h, decide_true, if_true, true_and]
    by_cases hk : w ≤ (s.size : Int)
    · rw [if_pos hk, decide_eq_false (by omega)]
      obtain ⟨n, rfl⟩ := Int.eq_ofNat_of_zero_le (show 0 ≤ w by omega)
      refine Ev.step (fun k => ?_) (impl_ReadFixed_loop s hs n (by omega) (by omega) n 0 (by omega))
      simp [impl_ReadFixed.j0, be]
    · rw [if_neg hk, decide_eq_true (by omega)]
      refine Ev.step (f := fun _ => some (0, false)) (fun k => ?_) (Ev.now _)
      simp [impl_ReadFixed.j0]
  · rw [if_neg (fun e => h ⟨e.1, e.2.1⟩)]
    simp only [h, decide_false]
    refine Ev.step (f := fun _ => some (0, false)) (fun k => ?_) (Ev.now _)
    simp [impl_ReadFixed.j0]

theorem impl_Dec_rev (n : Nat) : ∀ (a m b : List Int), m.length = n → a.length + m.length + b.length < 1000000 →
    Ev (fun k => impl_Dec.l1 k (a ++ m ++ b) (a.length : Int) ((a.length : Int) + (m.length : Int) - 1)) (strOfNums (a ++ m.reverse ++ b)) := by
  induction n using Nat.strongRecOn with
  | ind n ih =>
    intro a m b hm hlen
    match m, hm with
    | [], hm =>
      refine Ev.step (f := fun _ => some (strOfNums (a ++ [] ++ b))) (fun k => ?_) (Ev.now _)
      simp only [impl_Dec.l1]
      rw [if_neg (by simp; omega)]
    | [x], hm =>
      refine Ev.step (f := fun _ => some (strOfNums (a ++ [x] ++ b))) (fun k => ?_) (Ev.now _)
      simp only [impl_Dec.l1]
      rw [if_neg (by simp)]
    | x :: y :: t, hm =>
      obtain ⟨t', z, ht⟩ : ∃ t' z, y :: t = t' ++ [z] := ⟨(y :: t).dropLast, (y :: t).getLast (by simp), (List.dropLast_concat_getLast (by simp)).symm⟩
      rw [ht]
      have hl : t'.length + 1 = t.length + 1 := by have := congrArg List.length ht; simp at this; omega
      have hr := ih t'.length (by simp at hm; omega) (a ++ [z]) t' (x :: b) rfl (by simp at hlen hm ⊢; omega)
      have e1 : a ++ [z] ++ t' ++ x :: b = a ++ z :: (t' ++ x :: b) := by simp
      have e2 : a ++ [z] ++ t'.reverse ++ x :: b = a ++ (x :: (t' ++ [z])).reverse ++ b := by simp
      rw [e1, e2] at hr
      refine Ev.step (fun k => ?_) hr
      have e3 : a ++ x :: (t' ++ [z]) ++ b = a ++ x :: (t' ++ z :: b) := by simp
      rw [e3]
      simp only [impl_Dec.l1]
      have hj : ((a.length : Int) + ((x :: (t' ++ [z])).length : Int) - 1) = ((a.length + 1 + t'.length : Nat) : Int) := by simp; omega
      rw [hj]
      have hL : (a ++ x :: (t' ++ z :: b)).length = a.length + (t'.length + b.length + 2) := by simp; omega
      simp only [List.length_cons] at hlen
      have r1 : rd (a ++ x :: (t' ++ z :: b)) ((a.length + 1 + t'.length : Nat) : Int) = z := by
        unfold rd
        rw [Int.toNat_natCast, List.getD_eq_getElem?_getD, List.getElem?_append_right (by omega)]
        have : a.length + 1 + t'.length - a.length = t'.length + 1 := by omega
        rw [this, List.getElem?_cons_succ, List.getElem?_append_right (by omega)]
        simp
      have r2 : rd (a ++ x :: (t' ++ z :: b)) (a.length : Int) = x := by
        unfold rd
        rw [Int.toNat_natCast, List.getD_eq_getElem?_getD, List.getElem?_append_right (by omega)]
        simp
      rw [if_pos (by omega), if_pos (by omega), if_pos (by rw [hL]; omega), if_pos (by omega), if_pos (by rw [hL]; omega), r1, r2, w64 (by omega) (by omega), w64 (by omega) (by omega), Int.toNat_natCast, Int.toNat_natCast]
      have s1 : (a ++ x :: (t' ++ z :: b)).set a.length z = a ++ z :: (t' ++ z :: b) := by
        rw [List.set_append_right _ _ (by omega)]; simp
      have s2 : (a ++ z :: (t' ++ z :: b)).set (a.length + 1 + t'.length) x = a ++ z :: (t' ++ x :: b) := by
        rw [List.set_append_right _ _ (by omega)]
        have : a.length + 1 + t'.length - a.length = t'.length + 1 := by omega
        rw [this, List.set_cons_succ, List.set_append_right _ _ (by omega)]; simp
      rw [s1, s2]
      congr 1
      · simp
      · simp
theorem impl_Dec_loop (n : Int) (m : Nat) : ∀ (x : Int) (acc : List Nat), x.natAbs = m → -9223372036854775808 ≤ x → x ≤ 9223372036854775807 → acc.length + (decB m).length ≤ 100 →
    Ev (fun k => impl_Dec.l0 k n (acc.map fun (b : Nat) => (b : Int)) x) (ofB ((if n < 0 then [45] else []) ++ (decB m ++ acc.reverse))) := by
  induction m using Nat.strongRecOn with
  | ind m ih =>
    intro x acc hx h0 h1 hacc
    by_cases hz : m = 0
    · have hx0 : x = 0 := by omega
      subst hz
      have done : ∀ l : List Nat, l.length ≤ 200 → Ev (fun k => impl_Dec.j1 k (l.map fun (b : Nat) => (b : Int))) (ofB l.reverse) := by
        intro l hl
        have hr := impl_Dec_rev l.length [] (l.map fun (b : Nat) => (b : Int)) [] (by simp) (by simp; omega)
        refine Ev.step (fun k => ?_) (ev_eq hr ?_)
        · simp only [impl_Dec.j1]
          rw [w64 (by simp; omega) (by simp; omega)]
          simp
        · simp [ofB, List.map_reverse]
      rw [decB_zero] at hacc ⊢
      simp only [List.length_nil] at hacc
      by_cases hn : n < 0
      · have hd := done (acc ++ [45]) (by simp; omega)
        refine Ev.step (fun k => ?_) (ev_eq hd ?_)
        · simp only [impl_Dec.l0]
          rw [if_pos hx0, if_pos hn, if_pos (by simp; omega)]
          simp
        · rw [if_pos hn]; simp
      · have hd := done acc (by omega)
        refine Ev.step (fun k => ?_) (ev_eq hd ?_)
        · simp only [impl_Dec.l0]
          rw [if_pos hx0, if_neg hn]
        · rw [if_neg hn]; simp
    · have hx0 : ¬ x = 0 := by omega
      have hn := next10 x h0 h1
      have hlen : (decB m).length = (decB (m / 10)).length + 1 := by rw [decB_pos hz, List.length_append]; rfl
      have hr := ih (m / 10) (by omega) (wrap64 (Int.tdiv x 10)) (acc ++ [48 + m % 10]) (by rw [hn.1, hx]) hn.2.1 hn.2.2.1 (by simp; omega)
      have hd := dig10 x
      clear hn
      refine Ev.step (fun k => ?_) (ev_eq hr ?_)
      · simp only [impl_Dec.l0]
        rw [if_neg hx0]
        by_cases hneg : Int.tmod x 10 < 0
        · rw [if_pos hneg, hd.1 hneg, hx, if_pos (by simp; omega)]; simp
        · rw [if_neg hneg, hd.2 hneg, hx, if_pos (by simp; omega)]; simp
      · rw [decB_pos hz]; simp
theorem impl_Dec_ev (n : Int) (h0 : -9223372036854775808 ≤ n) (h1 : n ≤ 9223372036854775807) : Ev (fun k => impl_Dec.f k n) (decS n) := by
  unfold impl_Dec.f decS decI
  by_cases hz : n = 0
  · simp only [hz, if_true]
    exact Ev.now _
  · simp only [hz, if_false]
    have hl : (decB n.natAbs).length ≤ 19 := decB_len 19 _ (by omega)
    refine ev_eq (impl_Dec_loop n n.natAbs n [] rfl h0 h1 (by simp; omega)) ?_
    by_cases hn : n < 0
    · rw [if_pos hn, if_pos hn]; simp
    · rw [if_neg hn, if_neg hn]; simp

noncomputable def finD (s : ByteArray) (v : Int) : Int × Bool := open Classical in if decS v = s then (v, true) else (0, false)
theorem impl_ReadDec_loop (s : ByteArray) (hs : s.size ≤ 140737488355327) (a : Nat) (ha : a ≤ 1) (h9 : s.size ≤ a + 9) (d : Nat) : ∀ (i x : Nat), i + d = s.size → a ≤ i → x < 10 ^ (i - a) →
    Ev (fun k => impl_ReadDec.l0 k s (a : Int) (x : Int) (i : Int)) (if ((bl s).drop i).all isDig = true then finD s (if a = 1 then -((((bl s).drop i).foldl (fun n b => n * 10 + (b - 48)) x : Nat) : Int) else ((((bl s).drop i).foldl (fun n b => n * 10 + (b - 48)) x : Nat) : Int)) else (0, false)) := by
  have hl := bl_len s
  induction d with
  | zero =>
    intro i x hi hai hx
    have hpow : 10 ^ (i - a) ≤ 10 ^ 9 := Nat.pow_le_pow_right (by decide) (by omega)
    have hx9 : x < 1000000000 := Nat.lt_of_lt_of_le hx hpow
    clear hx hpow
    rw [List.drop_of_length_le (by omega)]
    simp only [List.all_nil, if_true, List.foldl_nil]
    have hw : Aside0 (wrap64 (-(x : Int)) = -(x : Int)) := ⟨by rw [w64 (by omega) (by omega)]⟩
    have fin : ∀ v : Int, -1000000000 < v → v < 1000000000 → Ev (fun k => (impl_Dec.f k v).bind fun t => (if t.toList = s.toList then some (v, true) else some (0, false))) (finD s v) := by
      intro v h0 h1
      refine Ev.bind (impl_Dec_ev v (by omega) (by omega)) ?_
      simp only [toList_iff]
      unfold finD
      by_cases he : decS v = s
      · simp only [he, if_true]; exact Ev.now _
      · simp only [he, if_false]; exact Ev.now _
    by_cases h1 : a = 1
    · rw [if_pos h1]
      refine Ev.step (fun k => ?_) (fin _ (by omega) (by omega))
      simp only [impl_ReadDec.l0]
      rw [if_neg (by omega), if_pos (by omega), hw.out]
    · rw [if_neg h1]
      refine Ev.step (fun k => ?_) (fin _ (by omega) (by omega))
      simp only [impl_ReadDec.l0]
      rw [if_neg (by omega), if_neg (by omega)]
  | succ d ih =>
    intro i x hi hai hx
    have hlt : i < (bl s).length := by omega
    have i0 : 0 ≤ (i : Int) := by omega
    have is_ : (i : Int) < (s.size : Int) := by omega
    have hi1 : Aside0 (wrap64 ((i : Int) + 1) = ((i + 1 : Nat) : Int)) := ⟨by rw [w64 (by omega) (by omega)]; omega⟩
    have hb := bt_get s i hlt
    have hcons : (bl s).drop i = (bl s)[i] :: (bl s).drop (i + 1) := List.drop_eq_getElem_cons hlt
    have hpow : 10 ^ (i - a) ≤ 10 ^ 9 := Nat.pow_le_pow_right (by decide) (by omega)
    have hx9 : x < 1000000000 := Nat.lt_of_lt_of_le hx hpow
    have hx' : ∀ c, c ≤ 57 → x * 10 + (c - 48) < 10 ^ (i + 1 - a) := by
      intro c hc
      have : i + 1 - a = (i - a) + 1 := by omega
      rw [this, Nat.pow_succ]; omega
    clear hx hpow
    rw [hcons, List.all_cons, List.foldl_cons]
    generalize (bl s)[i] = c at hb
    by_cases c1 : 48 ≤ c
    · by_cases c2 : c ≤ 57
      · have e : isDig c = true := decide_eq_true ⟨c1, c2⟩
        rw [e, Bool.true_and]
        refine Ev.step (fun k => ?_) (ih (i + 1) (x * 10 + (c - 48)) (by omega) (by omega) (hx' c c2))
        simp only [impl_ReadDec.l0]
        rw [if_pos is_, if_pos i0, hb, if_neg (by omega), if_neg (by omega), hi1.out, w64 (x := 10 * _) (by omega) (by omega), w64 (by omega) (by omega)]
        congr 1
        omega
      · have e : isDig c = false := decide_eq_false (by omega)
        rw [e, Bool.false_and, if_neg (by decide)]
        refine Ev.step (f := fun _ => some (0, false)) (fun k => ?_) (Ev.now _)
        simp only [impl_ReadDec.l0]
        rw [if_pos is_, if_pos i0, hb, if_neg (by omega), if_pos (by omega)]
    · have e : isDig c = false := decide_eq_false (by omega)
      rw [e, Bool.false_and, if_neg (by decide)]
      refine Ev.step (f := fun _ => some (0, false)) (fun k => ?_) (Ev.now _)
      simp only [impl_ReadDec.l0]
      rw [if_pos is_, if_pos i0, hb, if_pos (by omega)]
theorem impl_ReadDec_ev (s : ByteArray) (hs : s.size ≤ 140737488355327) : Ev (fun k => impl_ReadDec.f k s) (rdD s) := by
  have hl := bl_len s
  have main : ∀ a : Nat, a ≤ 1 → a ≤ s.size → (∀ n : Int, -1000000000 < n → n < 1000000000 → bl s = decI n → (a = 1 ↔ n < 0)) → Ev (fun k => impl_ReadDec.j1 k s (a : Int)) (rdD s) := by
    intro a ha has hneg
    have hin : ∀ n : Int, -1000000000 < n → n < 1000000000 → bl s = decI n → 1 ≤ s.size - a ∧ s.size - a ≤ 9 ∧ ((bl s).drop a).all isDig = true ∧ dv ((bl s).drop a) = n.natAbs := by
      intro n h0 h1 he
      have hsz : s.size = (decI n).length := by rw [← he, hl]
      have hb := decB_len 9 n.natAbs (by omega)
      have hn := hneg n h0 h1 he
      rw [he]
      unfold decI at hsz ⊢
      split at hsz
      · rename_i hz
        subst hz
        have : a = 0 := by have : ¬ a = 1 := fun e => by have := hn.1 e; omega
                           omega
        subst this
        rw [if_pos rfl, hsz]
        exact ⟨by decide, by decide, by decide, by decide⟩
      · rename_i hz
        rw [if_neg hz]
        split at hsz
        · rename_i hlt
          have : a = 1 := hn.2 hlt
          subst this
          rw [if_pos hlt, hsz]
          have hpos : 0 < (decB n.natAbs).length := by
            rw [decB_pos (by omega)]; simp
          refine ⟨by simp; omega, by simp; omega, ?_, ?_⟩
          · rw [List.all_eq_true]
            intro x hx
            exact decide_eq_true (decB_digit _ x hx)
          · show dv (decB n.natAbs) = n.natAbs
            exact dv_decB _
        · rename_i hlt
          have : a = 0 := by have : ¬ a = 1 := fun e => hlt (hn.1 e)
                             omega
          subst this
          rw [if_neg hlt, hsz]
          have hpos : 0 < (decB n.natAbs).length := by
            rw [decB_pos (by omega)]; simp
          refine ⟨by omega, by omega, ?_, ?_⟩
          · rw [List.all_eq_true]
            intro x hx
            exact decide_eq_true (decB_digit _ x hx)
          · exact dv_decB _
    by_cases h9 : 1 ≤ s.size - a ∧ s.size - a ≤ 9
    · have hr := impl_ReadDec_loop s hs a ha (by omega) (s.size - a) a 0 (by omega) (Nat.le_refl _) (by rw [Nat.sub_self]; decide)
      refine Ev.step (fun k => ?_) (ev_eq hr ?_)
      · simp only [impl_ReadDec.j1]
        rw [impl_within_eq, Option.bind_some, w64 (by omega) (by omega), decide_eq_true (by omega), if_pos rfl]
        rfl
      · by_cases hex : ∃ n : Int, -1000000000 < n ∧ n < 1000000000 ∧ bl s = decI n
        · obtain ⟨n, h0, h1, he⟩ := hex
          have h2 := hin n h0 h1 he
          have hn := hneg n h0 h1 he
          rw [rdD_some h0 h1 he, if_pos h2.2.2.1]
          have hv : (if a = 1 then -((((bl s).drop a).foldl (fun n b => n * 10 + (b - 48)) 0 : Nat) : Int) else ((((bl s).drop a).foldl (fun n b => n * 10 + (b - 48)) 0 : Nat) : Int)) = n := by
            have : ((bl s).drop a).foldl (fun n b => n * 10 + (b - 48)) 0 = n.natAbs := h2.2.2.2
            rw [this]
            by_cases h : a = 1
            · rw [if_pos h]; have := hn.1 h; omega
            · rw [if_neg h]; have : ¬ n < 0 := fun e => h (hn.2 e)
              omega
          rw [hv]
          unfold finD
          rw [if_pos ((decS_iff s n).2 he)]
        · rw [rdD_none (fun n h0 h1 he => hex ⟨n, h0, h1, he⟩)]
          by_cases hall : ((bl s).drop a).all isDig = true
          · rw [if_pos hall]
            unfold finD
            rw [if_neg]
            intro he
            have hlt : dv ((bl s).drop a) < 10 ^ ((bl s).drop a).length := dv_lt _ (fun x hx => by
              have := List.all_eq_true.mp hall x hx
              exact (of_decide_eq_true this).2)
            have hp : 10 ^ ((bl s).drop a).length ≤ 10 ^ 9 := Nat.pow_le_pow_right (by decide) (by rw [List.length_drop]; omega)
            have hlt' : dv ((bl s).drop a) < 1000000000 := Nat.lt_of_lt_of_le hlt hp
            unfold dv at hlt'
            refine hex ⟨_, ?_, ?_, (decS_iff s _).1 he⟩
            · split <;> omega
            · split <;> omega
          · rw [if_neg hall]
    · rw [rdD_none (fun n h0 h1 he => h9 ⟨(hin n h0 h1 he).1, (hin n h0 h1 he).2.1⟩)]
      refine Ev.step (f := fun _ => some (0, false)) (fun k => ?_) (Ev.now _)
      simp only [impl_ReadDec.j1]
      rw [impl_within_eq, Option.bind_some, w64 (by omega) (by omega), decide_eq_false (by omega), if_neg (by decide)]
  have m1 : s.size ≥ 1 → (∀ n : Int, -1000000000 < n → n < 1000000000 → bl s = decI n → n < 0) → Ev (fun k => impl_ReadDec.j0 k s 0 true) (rdD s) := by
    intro h1 h2
    refine Ev.step (fun k => ?_) (main 1 (Nat.le_refl _) h1 (fun n a b c => ⟨fun _ => h2 n a b c, fun _ => rfl⟩))
    simp only [impl_ReadDec.j0, if_true]; rfl
  have m0 : (∀ n : Int, -1000000000 < n → n < 1000000000 → bl s = decI n → ¬ n < 0) → Ev (fun k => impl_ReadDec.j0 k s 0 false) (rdD s) := by
    intro h2
    refine Ev.step (fun k => ?_) (main 0 (by omega) (by omega) (fun n a b c => ⟨fun e => by omega, fun e => absurd e (h2 n a b c)⟩))
    simp only [impl_ReadDec.j0]; rfl
  unfold impl_ReadDec.f
  by_cases hz : 0 < s.size
  · have hz' : (s.size : Int) > 0 := by omega
    have hz2 : 0 < (s.size : Int) := by omega
    simp only [hz', hz2, if_true]
    have h0 : 0 < (bl s).length := by omega
    have hb : bt s 0 = (((bl s)[0] : Nat) : Int) := bt_get s 0 h0
    have hhead : ∀ n : Int, bl s = decI n → ((bl s)[0] = 45 ↔ n < 0) := by
      intro n hn
      rw [← (decI_head n).1, ← hn, List.getD_eq_getElem?_getD, List.getElem?_eq_getElem h0]; rfl
    rw [hb]
    by_cases h45 : (bl s)[0] = 45
    · have : ((((bl s)[0] : Nat) : Int) == 45) = true := by rw [beq_iff_eq]; omega
      rw [this]
      exact m1 hz (fun n _ _ hn => (hhead n hn).1 h45)
    · have : ((((bl s)[0] : Nat) : Int) == 45) = false := by rw [beq_eq_false_iff_ne]; omega
      rw [this]
      exact m0 (fun n _ _ hn e => h45 ((hhead n hn).2 e))
  · have hz' : ¬ ((s.size : Int) > 0) := by omega
    simp only [hz', if_false]
    refine m0 (fun n _ _ hn e => ?_)
    have := (decI_head n).2
    rw [← hn] at this
    omega

theorem impl_hexValue_ev (b : Nat) (hb : b < 256) : Ev (fun k => impl_hexValue.f k (b : Int)) (hv b) := by
  have j1 : ∀ x : Bool, Ev (fun k => impl_hexValue.j0 k (b : Int) x) (if x = true then (((b : Int) - 48) % 256) else if 97 ≤ b ∧ b ≤ 102 then ((b - 87 : Nat) : Int) else -1) := by
    intro x
    refine Ev.step (f := fun _ => some (if x = true then (((b : Int) - 48) % 256) else if 97 ≤ b ∧ b ≤ 102 then ((b - 87 : Nat) : Int) else -1)) (fun k => ?_) (Ev.now _)
    cases x with
    | true => simp only [impl_hexValue.j0, if_true]
    | false =>
      simp only [impl_hexValue.j0, Bool.false_eq_true, if_false]
      by_cases h1 : (b : Int) ≥ 97
      · rw [if_pos h1]
        by_cases h2 : (b : Int) ≤ 102
        · rw [if_pos h2, if_pos (by omega)]; congr 1; omega
        · rw [if_neg h2, if_neg (by omega)]
      · rw [if_neg h1, if_neg (by omega)]
  unfold impl_hexValue.f hv
  by_cases h : (b : Int) ≥ 48
  · simp only [h, if_true]
    by_cases h2 : b ≤ 57
    · rw [if_pos (by omega)]
      have := j1 true
      rw [if_pos rfl] at this
      have e : decide ((b : Int) ≤ 57) = true := decide_eq_true (by omega)
      rw [e]
      refine ev_eq this (by omega)
    · rw [if_neg (by omega)]
      have := j1 false
      rw [if_neg (by decide)] at this
      have e : decide ((b : Int) ≤ 57) = false := decide_eq_false (by omega)
      rw [e]
      exact this
  · simp only [h, if_false]
    rw [if_neg (by omega)]
    have := j1 false
    rw [if_neg (by decide)] at this
    exact this

theorem impl_Unhex_ev (s : ByteArray) (hs : s.size ≤ 1073741824) : Ev (fun k => impl_Unhex.f k s) (uhS s) := by
  have hl := bl_len s
  have loop : ∀ (d i : Nat) (acc : List Int), i + 2 * d = s.size → acc.length ≤ i → Ev (fun k => impl_Unhex.l0 k s acc (i : Int)) (match unhB ((bl s).drop i) with | some l => (strOfNums (acc ++ l.map fun (n : Nat) => (n : Int)), true) | none => ((⟨#[]⟩ : ByteArray), false)) := by
    intro d
    induction d with
    | zero =>
      intro i acc hi ha
      rw [List.drop_of_length_le (by omega)]
      refine Ev.step (f := fun _ => some (strOfNums acc, true)) (fun k => ?_) (ev_eq (Ev.now _) ?_)
      · simp only [impl_Unhex.l0]
        rw [if_neg (by omega)]
      · simp [unhB]
    | succ d ih =>
      intro i acc hi ha
      have hlt : i < (bl s).length := by omega
      have hlt1 : i + 1 < (bl s).length := by omega
      have hb0 : (bl s)[i] < 256 := bl_lt s _ (List.getElem_mem hlt)
      have hb1 : (bl s)[i + 1] < 256 := bl_lt s _ (List.getElem_mem hlt1)
      have hcons : (bl s).drop i = (bl s)[i] :: (bl s)[i + 1] :: (bl s).drop (i + 2) := by rw [List.drop_eq_getElem_cons hlt, List.drop_eq_getElem_cons hlt1]
      have hw1 : Aside0 (wrap64 ((i : Int) + 1) = ((i + 1 : Nat) : Int)) := ⟨by rw [w64 (by omega) (by omega)]; omega⟩
      have hw2 : Aside0 (wrap64 ((i : Int) + 2) = ((i + 2 : Nat) : Int)) := ⟨by rw [w64 (by omega) (by omega)]; omega⟩
      have g0 := bt_get s i hlt
      have g1 := bt_get s (i + 1) hlt1
      have i0 : 0 ≤ (i : Int) := by omega
      have i1 : 0 ≤ ((i + 1 : Nat) : Int) := by omega
      have i2 : ((i + 1 : Nat) : Int) < (s.size : Int) := by omega
      have a3 : acc.length < 140737488355328 := by omega
      rw [hcons]
      generalize (bl s)[i] = x at *
      generalize (bl s)[i + 1] = y at *
      have rx := hv_range x
      have ry := hv_range y
      refine Ev.step (f := fun k => (impl_hexValue.f k (x : Int)).bind fun t => (impl_hexValue.f k (y : Int)).bind fun u => (if t < 0 then some ((⟨#[]⟩ : ByteArray), false) else (if u < 0 then some ((⟨#[]⟩ : ByteArray), false) else impl_Unhex.l0 k s (acc ++ [(Go.bits .or .i64 (wrap64 (t * 16)) u) % 256]) ((i + 2 : Nat) : Int)))) (fun k => ?_) (Ev.bind (impl_hexValue_ev x hb0) (Ev.bind (impl_hexValue_ev y hb1) ?_))
      · simp only [impl_Unhex.l0]
        rw [if_pos (by omega), if_pos i0, hw1.out, g0, g1, hw2.out]
        simp only [i1, i2, a3, if_true]
      · rw [unhB]
        by_cases h1 : hv x < 0
        · simp only [h1, if_true]; exact Ev.now _
        · by_cases h2 : hv y < 0
          · simp only [h1, h2, if_true, if_false]; exact Ev.now _
          · simp only [h1, h2, if_false]
            obtain ⟨p, hp⟩ := Int.eq_ofNat_of_zero_le (show 0 ≤ hv x by omega)
            obtain ⟨q, hq⟩ := Int.eq_ofNat_of_zero_le (show 0 ≤ hv y by omega)
            have hpq : p < 16 ∧ q < 16 := by omega
            rw [hp, hq]
            have hr := ih (i + 2) (acc ++ [((16 * p + q : Nat) : Int)]) (by omega) (by simp; omega)
            have e : ((Go.bits .or .i64 (wrap64 ((p : Int) * 16)) (q : Int)) % 256) = ((16 * p + q : Nat) : Int) := by rw [w64 (by omega) (by omega), bor_join 4 _ _ (by omega) (by omega) (by omega) (by omega) (by omega) (by omega)]; omega
            rw [e]
            refine ev_eq hr ?_
            simp only [Int.toNat_natCast]
            cases unhB ((bl s).drop (i + 2)) with
            | none => rfl
            | some l => simp
  unfold impl_Unhex.f
  by_cases h : ((s.size : Int) % 2) = 0
  · have hw : Aside0 (wrap64 ((s.size : Int) / 2) = ((s.size / 2 : Nat) : Int)) := ⟨by rw [w64 (by omega) (by omega)]; omega⟩
    have a1 : 0 ≤ ((s.size / 2 : Nat) : Int) := by omega
    have a2 : s.size / 2 ≤ 281474976710656 := by omega
    simp only [h, if_true, hw.out, a1, Int.toNat_natCast, a2]
    refine ev_eq (loop (s.size / 2) 0 [] (by omega) (by simp)) ?_
    rw [List.drop_zero]; rfl
  · simp only [h, if_false]
    refine ev_eq (Ev.now _) ?_
    unfold uhS
    rw [unhB_odd (s.size / 2) (bl s) (by omega)]

theorem impl_Hex_ev (s : ByteArray) (hs : s.size ≤ 1073741824) : Ev (fun k => impl_Hex.f k s) (hexS s) := by
  have hl := bl_len s
  have loop : ∀ (d i : Nat) (acc : List Int), i + d = s.size → acc.length ≤ 2 * i → Ev (fun k => impl_Hex.l0 k s acc (i : Int)) (strOfNums (acc ++ (hexB ((bl s).drop i)).map fun (n : Nat) => (n : Int))) := by
    intro d
    induction d with
    | zero =>
      intro i acc hi ha
      refine Ev.step (f := fun _ => some (strOfNums (acc ++ (hexB ((bl s).drop i)).map fun (n : Nat) => (n : Int)))) (fun k => ?_) (Ev.now _)
      simp only [impl_Hex.l0]
      rw [if_neg (by omega), List.drop_of_length_le (by omega)]; simp [hexB]
    | succ d ih =>
      intro i acc hi ha
      have hlt : i < (bl s).length := by omega
      have hb256 : (bl s)[i] < 256 := bl_lt s _ (List.getElem_mem hlt)
      have hcons : (bl s).drop i = (bl s)[i] :: (bl s).drop (i + 1) := List.drop_eq_getElem_cons hlt
      have hr := ih (i + 1) (acc ++ [((hexd ((bl s)[i] / 16) : Nat) : Int), ((hexd ((bl s)[i] % 16) : Nat) : Int)]) (by omega) (by simp; omega)
      have e1 : (((bl s)[i] : Nat) : Int) / 16 = (((bl s)[i] / 16 : Nat) : Int) := by omega
      have h1 := hexT_get ((bl s)[i] / 16) (by omega)
      have h2 := hexT_get ((bl s)[i] % 16) (by omega)
      unfold hexT at h1 h2
      refine Ev.step (fun k => ?_) (ev_eq hr ?_)
      · simp only [impl_Hex.l0]
        rw [if_pos (by omega), if_pos (by omega), bt_get s i hlt, e1, band15 _ hb256, if_pos (by omega), if_pos (by omega), if_pos (by omega), if_pos (by omega), w64 (by omega) (by omega), h1, h2]
        simp only [Option.bind_some]
        rw [if_pos (by simp; omega)]
        rfl
      · rw [hcons, hexB]; simp
  unfold impl_Hex.f
  have hw : Aside0 (wrap64 (2 * (s.size : Int)) = ((2 * s.size : Nat) : Int)) := ⟨by rw [w64 (by omega) (by omega)]; omega⟩
  have a1 : 0 ≤ ((2 * s.size : Nat) : Int) := by omega
  have a2 : 2 * s.size ≤ 281474976710656 := by omega
  simp only [hw.out, a1, if_true, Int.toNat_natCast, a2]
  refine ev_eq (loop s.size 0 [] (by omega) (by simp)) ?_
  rw [List.drop_zero]; rfl

theorem spec_l1In_eq (a lo hi : Int) : spec_l1In.f a lo hi = some (decide (lo ≤ a ∧ a ≤ hi)) := by
  unfold spec_l1In.f
  by_cases h : a ≥ lo
  · rw [if_pos h]; congr 1; simp [show lo ≤ a from h]
  · rw [if_neg h]; congr 1; simp [show ¬ lo ≤ a from h]

theorem spec_Var_loop (j : Nat) : ∀ (n : Nat) (acc : List Int), n < 128 ^ (j + 1) → n ≤ MAXV → acc.length + j < 1000 →
    Ev (fun k => spec_Var.l0 k (n : Int) acc) (strOfNums (acc ++ (var n).map fun (m : Nat) => (m : Int))) := by
  have e128 : ((128 : Nat) : Int) = 128 := rfl
  induction j with
  | zero =>
    intro n acc hn hm ha
    have hn' : n < 128 := by simpa using hn
    refine Ev.step (f := fun _ => some (strOfNums (acc ++ (var n).map fun (m : Nat) => (m : Int)))) (fun k => ?_) (Ev.now _)
    simp only [spec_Var.l0]
    rw [if_neg (by omega), if_pos (by omega), var_small hn', show (n : Int) % 256 = (n : Int) by omega]; rfl
  | succ j ih =>
    intro n acc hn hm ha
    unfold MAXV at hm
    by_cases h : n < 128
    · refine Ev.step (f := fun _ => some (strOfNums (acc ++ (var n).map fun (m : Nat) => (m : Int)))) (fun k => ?_) (Ev.now _)
      simp only [spec_Var.l0]
      rw [if_neg (by omega), if_pos (by omega), var_small h, show (n : Int) % 256 = (n : Int) by omega]; rfl
    · have hd : n / 128 < 128 ^ (j + 1) := Nat.div_lt_of_lt_mul (by rw [Nat.pow_succ] at hn; omega)
      have hr := ih (n / 128) (acc ++ [((n % 128 + 128 : Nat) : Int)]) hd (by unfold MAXV; omega) (by simp; omega)
      refine Ev.step (f := fun k => spec_Var.l0 k ((n / 128 : Nat) : Int) (acc ++ [((n % 128 + 128 : Nat) : Int)])) (fun k => ?_) (ev_eq hr ?_)
      · simp only [spec_Var.l0]
        rw [if_pos (by omega), if_pos (by omega), ← e128, tdivN, tmodN, w64 (by omega) (by omega), w64 (by omega) (by omega)]
        have e : (((128 : Nat) : Int) + ((n % 128 : Nat) : Int)) % 256 = ((n % 128 + 128 : Nat) : Int) := by omega
        rw [e]
      · rw [var_big h, List.map_cons, List.append_assoc]; rfl
theorem spec_Var_ev (n : Int) : Ev (fun k => spec_Var.f k n) (varS n) := by
  unfold spec_Var.f
  simp only [spec_l1In_eq, Option.bind_some]
  by_cases h : 0 ≤ n ∧ n ≤ 562949953421311
  · simp only [h, decide_true, if_true]
    obtain ⟨m, rfl⟩ := Int.eq_ofNat_of_zero_le h.1
    have hm : m ≤ MAXV := by unfold MAXV; omega
    refine ev_eq (spec_Var_loop 6 m [] (by unfold MAXV at hm; omega) hm (by simp)) ?_
    rw [varS_in hm]; rfl
  · simp only [h, decide_false]
    rw [varS_out h]
    exact Ev.now _

theorem spec_l1Once_ok (b : List Int) (i h n : Int) (hb : b.length ≤ 140737488351232) (hi : 0 ≤ i) (hn : 1 ≤ n) : ∃ (x : Bool) (i' h' : Int), spec_l1Once.f b i h n = some (x, i', h') ∧ 0 ≤ i' := by
  unfold spec_l1Once.f
  obtain ⟨x, i', h', he, _, _, hi'⟩ := spec_l1Below_ok b i h n hb hi hn
  rw [he]
  exact ⟨_, _, _, rfl, hi'⟩

theorem spec_l1Spoil_ok (b : List Int) (i h : Int) (s : ByteArray) (hb : b.length ≤ 140737488351232) (hi : 0 ≤ i) (hs : s.size ≤ 1000000) : ∃ (t : ByteArray) (i' h' : Int), Ev (fun k => spec_l1Spoil.f k b i h s) (t, i', h') ∧ t.size ≤ s.size + 3 ∧ 0 ≤ i' := by
  by_cases h0 : (s.size : Int) = 0
  · obtain ⟨t, i', h', ev, ht, hi'⟩ := spec_l1Text_ok b i h 3 hb hi (by omega)
    refine ⟨t, i', h', ?_, by omega, hi'⟩
    unfold spec_l1Spoil.f
    simp only [h0, if_true]
    exact Ev.bind ev (Ev.now _)
  · obtain ⟨p, i1, h1, e1, p0, p1, hi1⟩ := spec_l1Below_ok b i h (s.size : Int) hb hi (by omega)
    obtain ⟨q, i2, h2, e2, q0, q1, hi2⟩ := spec_l1Below_ok b i1 h1 4 hb hi1 (by omega)
    obtain ⟨n, rfl⟩ : ∃ n : Nat, p = (n : Int) := ⟨p.toNat, by omega⟩
    have w : wrap64 ((n : Int) + 1) = ((n + 1 : Nat) : Int) := by rw [w64 (x := (n : Int) + 1) (by omega) (by omega)]; omega
    have c1 : 0 ≤ (n : Int) := by omega
    have c2 : (n : Int) ≤ (s.size : Int) := by omega
    have c3 : (n : Int) < (s.size : Int) := by omega
    have c4 : 0 ≤ ((n + 1 : Nat) : Int) := by omega
    have c5 : ((n + 1 : Nat) : Int) ≤ (s.size : Int) := by omega
    have z1 : (s.extract 0 n).size = n := by rw [ByteArray.size_extract]; omega
    have z2 : (s.extract (n + 1) s.size).size = s.size - (n + 1) := by rw [ByteArray.size_extract]; omega
    have z3 : (s.extract n s.size).size = s.size - n := by rw [ByteArray.size_extract]; omega
    unfold spec_l1Spoil.f
    simp only [h0, if_false, e1, e2, Option.bind_some, w, c1, c2, c3, c4, c5, if_true, Int.toNat_natCast]
    by_cases k0 : q = 0
    · have g : (s.extract 0 n).size + (s.extract (n + 1) s.size).size ≤ 9223372036854775807 := by omega
      simp only [k0, if_true, g]
      exact ⟨_, _, _, Ev.now _, by rw [ByteArray.size_append]; omega, hi2⟩
    · simp only [k0, if_false]
      by_cases k1 : q = 1
      · obtain ⟨x, i3, h3, e3, _, _, hi3⟩ := spec_l1Byte_ok b i2 h2 hb hi2
        have zz : (strOfNums [x % 256]).size = 1 := by rw [strOfNums_size]; rfl
        have g1 : (s.extract 0 n).size + (strOfNums [x % 256]).size ≤ 9223372036854775807 := by omega
        have g2 : ((s.extract 0 n) ++ (strOfNums [x % 256])).size + (s.extract n s.size).size ≤ 9223372036854775807 := by rw [ByteArray.size_append]; omega
        simp only [k1, if_true, e3, Option.bind_some, g1, g2]
        exact ⟨_, _, _, Ev.now _, by rw [ByteArray.size_append, ByteArray.size_append]; omega, hi3⟩
      · simp only [k1, if_false]
        by_cases k2 : q = 2
        · simp only [k2, if_true]
          exact ⟨_, _, _, Ev.now _, by omega, hi2⟩
        · obtain ⟨x, i3, h3, e3, _, _, hi3⟩ := spec_l1Below_ok b i2 h2 255 hb hi2 (by omega)
          simp only [k2, if_false, e3, Option.bind_some]
          generalize hv : (Go.bits .xor .i64 (wrap64 (bt s (n : Int))) (wrap64 (1 + x))) % 256 = v
          have zz : (strOfNums [v]).size = 1 := by rw [strOfNums_size]; rfl
          have g1 : (s.extract 0 n).size + (strOfNums [v]).size ≤ 9223372036854775807 := by omega
          have g2 : ((s.extract 0 n) ++ (strOfNums [v])).size + (s.extract (n + 1) s.size).size ≤ 9223372036854775807 := by rw [ByteArray.size_append]; omega
          simp only [if_true, g1, g2]
          exact ⟨_, _, _, Ev.now _, by rw [ByteArray.size_append, ByteArray.size_append]; omega, hi3⟩

theorem spec_DrawReadVar_ok (l : List Int) (hl : l.length ≤ 140737488351232) : ∃ t : ByteArray, Ev (fun k => spec_DrawReadVar.f k l) t ∧ t.size ≤ 1000 := by
  obtain ⟨h, ev⟩ := spec_l1New_ok l hl
  obtain ⟨x, i1, h1, e1, hx, hi1⟩ := spec_l1Num_ok l 0 h hl (by omega)
  obtain ⟨t, i2, h2, ev2, ht, hi2⟩ := spec_l1Text_ok l i1 h1 4 hl hi1 (by omega)
  obtain ⟨o, i3, h3, e3, hi3⟩ := spec_l1Once_ok l i2 h2 4 hl hi2 (by omega)
  have vs := @var_size x
  have g : (varS x).size + t.size ≤ 9223372036854775807 := by omega
  have za : (varS x ++ t).size = (varS x).size + t.size := ByteArray.size_append
  cases o with
  | true =>
    obtain ⟨u, i4, h4, ev4, hu, hi4⟩ := spec_l1Spoil_ok l i3 h3 (varS x ++ t) hl hi3 (by omega)
    refine ⟨u, Ev.bind ev ?_, by omega⟩
    simp only [e1, Option.bind_some]
    refine Ev.bind (spec_Var_ev x) (Ev.bind ev2 ?_)
    simp only [g, if_true, e3, Option.bind_some]
    exact Ev.bind ev4 (Ev.now _)
  | false =>
    refine ⟨varS x ++ t, Ev.bind ev ?_, by omega⟩
    simp only [e1, Option.bind_some]
    refine Ev.bind (spec_Var_ev x) (Ev.bind ev2 ?_)
    simp only [g, if_true, e3, Option.bind_some, Bool.false_eq_true, if_false]
    exact Ev.now _

theorem toList_nil0 (s : ByteArray) : s.toList = ([] : List UInt8) ↔ s = (⟨#[]⟩ : ByteArray) := by
  have h := toList_iff s (⟨#[]⟩ : ByteArray)
  have e : (⟨#[]⟩ : ByteArray).toList = [] := by rw [ByteArray.toList_eq]
  rw [e] at h
  exact h
theorem fix_in {n : Int} (h0 : 0 ≤ n) (h1 : n < 72057594037927936) (t : ByteArray) : (fixS n 7).size = 7 ∧ rfI (fixS n 7 ++ t) 7 = (n, true) := by
  have hp : (256 : Nat) ^ 7 = 72057594037927936 := by decide
  have ht7 : (7 : Int).toNat = 7 := rfl
  have hlt : n.toNat < 256 ^ 7 := by rw [hp]; omega
  have e : fixS n 7 = ofB (fixB 7 n.toNat) := by
    unfold fixS
    rw [ht7, if_pos ⟨by decide, by decide, h0, hlt⟩]
  have z : (fixS n 7).size = 7 := by rw [e, ofB_size, fixB_len]
  refine ⟨z, ?_⟩
  unfold rfI
  rw [if_pos ⟨by decide, by decide, by rw [ByteArray.size_append, z]; omega⟩, bl_append, e, bl_ofB _ (fixB_lt _ _), ht7, List.take_left' (fixB_len _ _), be_fixB _ _ hlt]
  exact Prod.ext (by show (n.toNat : Int) = n; omega) rfl
theorem fix_out {n : Int} (h : ¬ (0 ≤ n ∧ n < 72057594037927936)) : fixS n 7 = (⟨#[]⟩ : ByteArray) := by
  have hp : (256 : Nat) ^ 7 = 72057594037927936 := by decide
  have ht7 : (7 : Int).toNat = 7 := rfl
  unfold fixS
  rw [ht7, hp, if_neg (by omega)]
theorem var_in {n : Int} (h : 0 ≤ n ∧ n ≤ 562949953421311) (t : ByteArray) : rvI (bl (varS n ++ t)) = (n, ((varS n).size : Int)) := by
  obtain ⟨m, rfl⟩ : ∃ m : Nat, n = (m : Int) := ⟨n.toNat, by omega⟩
  have hm : m ≤ MAXV := by unfold MAXV; omega
  rw [bl_append, bl_varS hm]
  unfold rvI
  rw [rv_var m hm, ← bl_len, bl_varS hm]
theorem hexB_len (l : List Nat) : (hexB l).length = 2 * l.length := by
  induction l with
  | nil => rfl
  | cons b t ih => simp only [hexB, List.length_cons, ih]; omega
theorem decS_size {n : Int} (h0 : -9223372036854775808 ≤ n) (h1 : n ≤ 9223372036854775807) : (decS n).size ≤ 100 := by
  have := decB_len 20 n.natAbs (by omega)
  unfold decS
  rw [ofB_size]
  unfold decI
  split
  · decide
  · split
    · rw [List.length_cons]; omega
    · omega
theorem FnNumbers : ∀ (l0 : List Int), l0.length ≤ maxLen → l0.length * 1 ≤ 140737488351232 → (∀ a ∈ l0, (Lit.int .u8 a).wf = true) → ∃ k, laws_FnNumbers.f k l0 = some true := by
  intro l hm hl hw
  apply Ev.rounds
  unfold laws_FnNumbers.f
  simp only [laws_big_eq, Option.bind_some]
  by_cases hbig : (l.length : Int) > 1048576
  · simp only [hbig, decide_true, if_true]; exact Ev.now _
  · simp only [hbig, decide_false, Bool.false_eq_true, if_false]
    obtain ⟨n, hn, h0, h1⟩ := spec_DrawVar_ok l (by omega)
    obtain ⟨t, ht, hts⟩ := spec_DrawHex_ok l (by omega)
    obtain ⟨x, hx, hxs⟩ := spec_DrawReadVar_ok l (by omega)
    have nil0 : (⟨#[]⟩ : ByteArray).toList = ([] : List UInt8) := (toList_nil0 _).2 rfl
    have j2 : Ev (fun k => laws_FnNumbers.j2 k l t false) true := by
      refine Ev.step (f := fun k => laws_FnNumbers.j2 (k + 1) l t false) (fun k => rfl) ?_
      simp only [laws_FnNumbers.j2, Bool.false_eq_true, if_false]
      have hz : (hexS t).size ≤ 100 := by unfold hexS; rw [ofB_size, hexB_len, bl_len]; omega
      refine Ev.bind (impl_Hex_ev t (by omega)) (Ev.bind (impl_Unhex_ev _ (by omega)) (Ev.bind hx (Ev.bind (impl_ReadVar_ev x (by omega)) ?_)))
      rw [uh_hex]
      simp only [if_true]
      cases hr : rv (bl x) with
      | none =>
        have e : rvI (bl x) = (0, 0) := by unfold rvI; rw [hr]
        rw [e]
        simp only [if_true]
        exact Ev.now _
      | some pq =>
        obtain ⟨p, q⟩ := pq
        have e : rvI (bl x) = ((p : Int), (q : Int)) := by unfold rvI; rw [hr]
        have hR := rv_R hr
        have hq := R_pos hR
        have hle := R_le hR
        rw [bl_len] at hle
        have hv : varS (p : Int) = x.extract 0 q := (R_iff x p q hR.1 hle).2 hR
        rw [e]
        have c1 : ¬ ((q : Int) = 0) := by omega
        have c2 : 0 ≤ (q : Int) := by omega
        have c3 : (q : Int) ≤ (x.size : Int) := by omega
        simp only [c1, if_false]
        refine Ev.bind (impl_Var_ev _) (Ev.bind hx ?_)
        simp only [c2, c3, if_true, Int.toNat_natCast, hv, beq_self_eq_true]
        exact Ev.now _
    have j1 : Ev (fun k => laws_FnNumbers.j1 k l n t false) true := by
      refine Ev.step (f := fun k => laws_FnNumbers.j1 (k + 1) l n t false) (fun k => rfl) ?_
      simp only [laws_FnNumbers.j1, Bool.false_eq_true, if_false]
      have dz := decS_size h0 h1
      refine Ev.bind (impl_Dec_ev n h0 h1) (Ev.bind (impl_ReadDec_ev _ (by omega)) ?_)
      by_cases hd : -1000000000 < n ∧ n < 1000000000
      · rw [rdD_some hd.1 hd.2 (bl_decS n)]
        have c : n > -1000000000 := hd.1
        simp only [c, hd.2, decide_true, bne_self_eq_false, if_true, Bool.false_eq_true, if_false]
        exact j2
      · have hnone : rdD (decS n) = (0, false) := by
          refine rdD_none (fun m m0 m1 hh => ?_)
          rw [bl_decS] at hh
          have := decI_inj hh
          omega
        rw [hnone]
        by_cases c : n > -1000000000
        · have c2 : ¬ n < 1000000000 := by omega
          simp only [c, c2, if_true, decide_false, bne_self_eq_false, Bool.false_eq_true, if_false]
          exact j2
        · simp only [c, if_false, bne_self_eq_false, Bool.false_eq_true]
          exact j2
    have j0 : Ev (fun k => laws_FnNumbers.j0 k l n t false) true := by
      refine Ev.step (f := fun k => laws_FnNumbers.j0 (k + 1) l n t false) (fun k => rfl) ?_
      simp only [laws_FnNumbers.j0, Bool.false_eq_true, if_false]
      refine Ev.bind (impl_Fixed_ev n 7 h1) ?_
      by_cases hf : 0 ≤ n ∧ n < 72057594037927936
      · obtain ⟨z7, hr⟩ := fix_in hf.1 hf.2 t
        have g : (fixS n 7).size + t.size ≤ 9223372036854775807 := by omega
        have ne : ¬ (fixS n 7).toList = ([] : List UInt8) := by
          rw [toList_nil0]
          intro e
          rw [e] at z7
          exact absurd z7 (by decide)
        have nb : ((fixS n 7).toList == ([] : List UInt8)) = false := beq_eq_false_iff_ne.mpr ne
        have zi : ((fixS n 7).size : Int) = 7 := by omega
        have c1 : ¬ n < 0 := by omega
        have c2 : ¬ n ≥ 72057594037927936 := by omega
        simp only [g, if_true]
        refine Ev.bind (impl_ReadFixed_ev _ (by rw [ByteArray.size_append]; omega) 7) ?_
        rw [hr]
        simp only [ne, if_false, if_true, zi, c1, c2, nb, decide_false, bne_self_eq_false]
        exact j1
      · rw [fix_out hf]
        have z : (⟨#[]⟩ : ByteArray).size = 0 := rfl
        have g : (⟨#[]⟩ : ByteArray).size + t.size ≤ 9223372036854775807 := by omega
        simp only [g, if_true]
        refine Ev.bind (impl_ReadFixed_ev _ (by rw [ByteArray.size_append]; omega) 7) ?_
        by_cases c1 : n < 0
        · simp only [nil0, if_true, c1, beq_self_eq_true, bne_self_eq_false]
          exact j1
        · have c2 : n ≥ 72057594037927936 := by omega
          simp only [nil0, if_true, c1, c2, if_false, decide_true, beq_self_eq_true, bne_self_eq_false]
          exact j1
    refine Ev.bind hn (Ev.bind ht (Ev.bind (impl_Var_ev n) ?_))
    have vs := @var_size n
    have g : (varS n).size + t.size ≤ 9223372036854775807 := by omega
    simp only [g, if_true]
    refine Ev.bind (impl_ReadVar_ev _ (by rw [ByteArray.size_append]; omega)) ?_
    by_cases hv : 0 ≤ n ∧ n ≤ 562949953421311
    · rw [var_in hv t]
      have ne : ¬ (varS n).toList = ([] : List UInt8) := by
        rw [toList_nil0, varS_empty_iff]
        exact fun e => e hv
      have nb : ((varS n).toList != ([] : List UInt8)) = true := bne_iff_ne.mpr ne
      have c : n ≥ 0 := hv.1
      simp only [c, if_true, nb, hv.2, decide_true, bne_self_eq_false, Bool.false_eq_true, if_false, ne]
      exact j0
    · have e := varS_out hv
      rw [e]
      by_cases c : n ≥ 0
      · have c2 : ¬ n ≤ 562949953421311 := by omega
        simp only [nil0, c, c2, if_true, bne_self_eq_false, decide_false, Bool.false_eq_true, if_false]
        exact j0
      · simp only [nil0, c, if_true, bne_self_eq_false, Bool.false_eq_true, if_false]
        exact j0

end Go.Proofs.Ytcicpbneiofgbaa.Pure
