-- walks of this claim, written by a program of mine
import Derived.Test.YthlpfghlildllaaOFnKnownx0
import Derived.Test.YthlpfghlildllaaOFnKnownx1
import Derived.Test.YthlpfghlildllaaOFnKnownx2
namespace Go.Proofs.Ythlpfghlildllaa.OFnKnown
open Go.RowKit Go.Proofs.Ythlpfghlildllaa.OWord Go.Proofs.YthlpfghlildllaaW.PrintWords Go.Proofs.YthlpfghlildllaaW.PrintLast Go.Proofs.YthlpfghlildllaaW.PrintMore
attribute [local go_sem] max2_int min2_int max_two min_two max_three min_three max_four min_four   -- for this text's walks alone
set_option linter.unusedVariables false
set_option linter.unusedSimpArgs false

/-! ### laws_has: function 17 -/
def laws_has.l0 : Nat → List Int → Int → Int → Option (Bool)
 | 0, _, _, _ => none
 | k + 1, x0, x1, x5 => if x5 < (x0.length : Int) then (if 0 ≤ x5 then (if (rd x0 x5) = x1 then (some true) else (laws_has.l0 k x0 x1 (wrap64 (x5 + 1)))) else (none)) else (some false)
def laws_has.f (k : Nat) (l0 : List Int) (a1 : Int) : Option (Bool) := laws_has.l0 k l0 a1 0
set_option maxHeartbeats 8000000 in
set_option maxRecDepth 100000 in
theorem laws_has.calls (k : Nat) (A0 : Option Addr) (c0 : Nat) (l0 : List Int) (a1 : Int) (r : Bool) (w : World) (hr0 : Kd.C (Kd.int .i64) w A0 l0.length l0) (hc0 : l0.length ≤ c0) (h : laws_has.f k l0 a1 = some r) :
  Calls Try.prog 17 #[.slice A0 l0.length c0, .int .i64 a1] w fun e w' => e = .returned (.bool r) ∧ Drawn0 w w' := by
 have HR0 := Aside0.mk hr0
 have HC0 := Aside0.mk hc0
 clear hr0 hc0
 have H := h
 clear h
 unfold laws_has.f at H
 have H' := Aside0.mk H
 clear H
 go_enter Try.func17, Try.ntmps17
 go_wp2
 go_loopg [5] k (fun kq v5 w' => ∃ (x5_1 : Int), v5 = .int .i64 x5_1 ∧ Aside0 (laws_has.l0 kq l0 a1 x5_1 = some r) ∧ Aside0 (kq ≤ k) ∧ Drawn0 w w')
 case atStart => exact ⟨(0), eX, H', ⟨Nat.le_refl _⟩, (by repeat (first | exact Drawn0.refl _ | apply Drawn0.step))⟩
 case round =>
  clear H'
  obtain ⟨x5_1, rfl, HA, HK1, ⟨m1, rfl⟩⟩ := hrel
  cases gk with
  | zero => exact absurd HA.out (by simp [laws_has.l0])
  | succ k1 =>
   have H := HA.out
   clear HA
   simp only [laws_has.l0] at H
   by_cases c3 : x5_1 < (l0.length : Int)
   ·rw [if_pos c3] at H
    have c3b0 := decide_eq_true c3
    clear c3
    by_cases c4 : 0 ≤ x5_1
    ·rw [if_pos c4] at H
     have c4b0 := decide_eq_true c4
     clear c4
     by_cases c5 : (rd l0 x5_1) = a1
     ·rw [if_pos c5] at H
      have c5b0 : ((rd l0 x5_1) == a1) = true := beq_iff_eq.mpr c5
      have c5b1 : ((rd l0 x5_1) != a1) = false := bne_eq_false_iff_eq.mpr c5
      clear c5
      obtain rfl := Option.some.inj H
      have p431 : 0 ≤ (x5_1 : Int) := of_decide_eq_true aA
      have q431 : x5_1 < (l0.length : Int) := of_decide_eq_true aA
      obtain ⟨ad431, e431, hx431_0⟩ := Kd.at_int HR0.out x5_1 p431 q431
      cases e431
      replace p431 := eq_true p431
      replace q431 := eq_true q431
      go_wp2
      go_ret
      exact ⟨eX, (by repeat (first | exact Drawn0.refl _ | apply Drawn0.step))⟩
     rw [if_neg c5] at H
     have c5b0 : ((rd l0 x5_1) == a1) = false := beq_eq_false_iff_ne.mpr c5
     have c5b1 : ((rd l0 x5_1) != a1) = true := bne_iff_ne.mpr c5
     have H' := Aside0.mk H
     clear H
     have p431 : 0 ≤ (x5_1 : Int) := of_decide_eq_true aA
     have q431 : x5_1 < (l0.length : Int) := of_decide_eq_true aA
     obtain ⟨ad431, e431, hx431_0⟩ := Kd.at_int HR0.out x5_1 p431 q431
     cases e431
     replace p431 := eq_true p431
     replace q431 := eq_true q431
     go_wp2
     go_roundg k1
     case measure => have := HK1.out; omega
     case rel => exact ⟨(wrap64 (x5_1 + 1)), eX, H', ⟨(by have := HK1.out; omega)⟩, (by repeat (first | exact Drawn0.refl _ | apply Drawn0.step))⟩
    rw [if_neg c4] at H
    exact absurd H (by simp)
   rw [if_neg c3] at H
   have c3b0 := decide_eq_false c3
   clear c3
   obtain rfl := Option.some.inj H
   go_wp2
   go_ret
   exact ⟨eX, (by repeat (first | exact Drawn0.refl _ | apply Drawn0.step))⟩

/-! ### spec_ReadKey: function 83 -/
def spec_ReadKey.f (k : Nat) (a0 : ByteArray) : Option (Int × Bool) := (spec_TermOk.f k a0).bind fun t432 => (if t432 = true then (if 0 < (a0.size : Int) then (if (bt a0 0) = 107 then (if 1 ≤ (a0.size : Int) then ((spec_ReadVar.f k (a0.extract 1 a0.size)).bind fun bt433 => (some (bt433.1, true))) else (none)) else (some (0, false))) else (none)) else (some (0, false)))
set_option maxHeartbeats 8000000 in
set_option maxRecDepth 100000 in
theorem spec_ReadKey.calls (k : Nat) (a0 : ByteArray) (r1 : Int) (r2 : Bool) (w : World) (h : spec_ReadKey.f k a0 = some (r1, r2)) :
  Calls Try.prog 83 #[.string a0] w fun e w' => e = .returned (.tuple #[.int .i64 r1, .bool r2]) ∧ Below w.heap.size w w' := by
 have HB := Aside0.mk (Below.refl w.heap.size w)
 have H := h
 clear h
 unfold spec_ReadKey.f at H
 obtain ⟨t432, A2, H⟩ := oB H
 by_cases c3 : t432 = true
 ·subst c3
  rw [if_pos rfl] at H
  by_cases c4 : 0 < (a0.size : Int)
  ·rw [if_pos c4] at H
   have c4b0 := decide_eq_true c4
   have c4b1 : decide (0 < a0.size) = true := decide_eq_true (by omega)
   clear c4
   by_cases c6 : (bt a0 0) = 107
   ·rw [if_pos c6] at H
    have c6b0 : ((bt a0 0) == 107) = true := beq_iff_eq.mpr c6
    have c6b1 : ((bt a0 0) != 107) = false := bne_eq_false_iff_eq.mpr c6
    clear c6
    by_cases c7 : 1 ≤ (a0.size : Int)
    ·rw [if_pos c7] at H
     have c7b0 := eq_true c7
     have c7b1 := decide_eq_true c7
     clear c7
     obtain ⟨⟨t433, t434⟩, A8, H⟩ := oB H
     dsimp only at H
     simp only [Option.some.injEq, Prod.mk.injEq] at H
     obtain ⟨rfl, rfl⟩ := H
     go_enter Try.func83, Try.ntmps83
     go_wp2_with (first | (refine gL 12 (some 7) Try.func12 #[.string a0] ?_; (with_reducible refine (spec_TermOk.calls k a0 true _ A2.out).mono ?_); rintro e w9 ⟨rfl, hb⟩; refine ⟨_, rfl, ?_⟩; have n_ := aM (below_step bH hb); clear HB; have HB := n_; clear n_; (try clear hb); have p5 : 0 ≤ (0 : Int) := (by omega); have q5 : 0 < a0.size := (by have : (0 : Int) < (a0.size : Int) := of_decide_eq_true aA; omega); have hx5 : ∀ h : 0 < a0.size, ((a0[0]'h).toNat : Int) = bt a0 0 := bt_at a0 0; clear p5; have qi5 : (0 < (a0.size : Int)) = True := eq_true (of_decide_eq_true aA); replace q5 := eq_true q5) | (refine gL 75 (some 17) Try.func75 #[.string (a0.extract 1 a0.size)] ?_; (with_reducible refine (spec_ReadVar.calls k (a0.extract 1 a0.size) t433 t434 _ A8.out).mono ?_); rintro e w10 ⟨rfl, hb⟩; refine ⟨_, rfl, ?_⟩; have n_ := aM (below_step bH hb); clear HB; have HB := n_; clear n_; (try clear hb)))
     go_ret2
     exact ⟨eE, bH⟩
    rw [if_neg c7] at H
    exact absurd H (by simp)
   rw [if_neg c6] at H
   have c6b0 : ((bt a0 0) == 107) = false := beq_eq_false_iff_ne.mpr c6
   have c6b1 : ((bt a0 0) != 107) = true := bne_iff_ne.mpr c6
   simp only [Option.some.injEq, Prod.mk.injEq] at H
   obtain ⟨rfl, rfl⟩ := H
   go_enter Try.func83, Try.ntmps83
   go_wp2_with (first | (refine gL 12 (some 7) Try.func12 #[.string a0] ?_; (with_reducible refine (spec_TermOk.calls k a0 true _ A2.out).mono ?_); rintro e w11 ⟨rfl, hb⟩; refine ⟨_, rfl, ?_⟩; have n_ := aM (below_step bH hb); clear HB; have HB := n_; clear n_; (try clear hb); have p5 : 0 ≤ (0 : Int) := (by omega); have q5 : 0 < a0.size := (by have : (0 : Int) < (a0.size : Int) := of_decide_eq_true aA; omega); have hx5 : ∀ h : 0 < a0.size, ((a0[0]'h).toNat : Int) = bt a0 0 := bt_at a0 0; clear p5; have qi5 : (0 < (a0.size : Int)) = True := eq_true (of_decide_eq_true aA); replace q5 := eq_true q5))
   go_ret2
   exact ⟨eE, bH⟩
  rw [if_neg c4] at H
  exact absurd H (by simp)
 replace c3 := Bool.eq_false_iff.mpr c3
 subst c3
 rw [if_neg nF] at H
 simp only [Option.some.injEq, Prod.mk.injEq] at H
 obtain ⟨rfl, rfl⟩ := H
 go_enter Try.func83, Try.ntmps83
 go_wp2_with (first | (refine gL 12 (some 7) Try.func12 #[.string a0] ?_; (with_reducible refine (spec_TermOk.calls k a0 false _ A2.out).mono ?_); rintro e w12 ⟨rfl, hb⟩; refine ⟨_, rfl, ?_⟩; have n_ := aM (below_step bH hb); clear HB; have HB := n_; clear n_; (try clear hb)))
 go_ret2
 exact ⟨eE, bH⟩

/-! ### spec_Parts: function 84 -/
mutual
def spec_Parts.j0 : Nat → ByteArray → List ByteArray → Bool → Option (List ByteArray × Bool)
 | 0, _, _, _ => none
 | k + 1, x0, x4, x19 => if x19 = true then (some (x4, false)) else (if 1 ≤ (x0.size : Int) then ((spec_ReadVar.f k (x0.extract 1 x0.size)).bind fun bt439 => (spec_Parts.l0 k x0 x4 bt439.1 (wrap64 (1 + bt439.2)) 0)) else (none))
def spec_Parts.l0 : Nat → ByteArray → List ByteArray → Int → Int → Int → Option (List ByteArray × Bool)
 | 0, _, _, _, _, _ => none
 | k + 1, x0, x4, x5, x7, x8 => if x8 < x5 then ((spec_l2Term.f k x0 x7 8).bind fun bt441 => (if 0 ≤ x7 then (if x7 ≤ (wrap64 (x7 + bt441.1)) then (if (wrap64 (x7 + bt441.1)) ≤ (x0.size : Int) then (if x4.length < 8796093022208 then (spec_Parts.l0 k x0 (x4 ++ [x0.extract (x7 : Int).toNat ((wrap64 (x7 + bt441.1)) : Int).toNat]) x5 (wrap64 (x7 + bt441.1)) (wrap64 (x8 + 1))) else (none)) else (none)) else (none)) else (none))) else (some (x4, true))
end
def spec_Parts.f (k : Nat) (a0 : ByteArray) : Option (List ByteArray × Bool) := (some (([] : List ByteArray) : List ByteArray)).bind fun y435 => ((spec_TermOk.f k a0).bind fun t438 => (if t438 = true then (if 0 < (a0.size : Int) then (spec_Parts.j0 k a0 y435 ((bt a0 0) != 108)) else (none)) else (spec_Parts.j0 k a0 y435 true)))
set_option maxHeartbeats 8000000 in
set_option maxRecDepth 100000 in
theorem spec_Parts.calls (k : Nat) (a0 : ByteArray) (r1 : List ByteArray) (r2 : Bool) (w : World) (h : spec_Parts.f k a0 = some (r1, r2)) :
  Calls Try.prog 84 #[.string a0] w fun e w' => ∃ v0_ : Value, e = .returned (.tuple #[v0_, .bool r2]) ∧ Kd.R Kd.string 9 w' w.heap.size (fun _ => True) v0_ r1 ∧ Below w.heap.size w w' := by
 have HB := Aside0.mk (Below.refl w.heap.size w)
 have H := h
 clear h
 unfold spec_Parts.f at H
 obtain ⟨y435, hy435⟩ : ∃ y_ : List ByteArray, y_ = (([] : List ByteArray)) := ⟨_, rfl⟩
 replace H : ((spec_TermOk.f k a0).bind fun t438 => (if t438 = true then (if 0 < (a0.size : Int) then (spec_Parts.j0 k a0 y435 ((bt a0 0) != 108)) else (none)) else (spec_Parts.j0 k a0 y435 true))) = some (r1, r2) := by first | (rw [hy435]; with_reducible exact H) | (have H2_ := (Option.bind_some _ _).symm.trans H; rw [hy435]; with_reducible exact H2_) | (have H2_ := (Option.bind_some _ _).symm.trans H; with_reducible exact H2_) | with_reducible exact H | (rw [hy435]; exact H) | exact H
 have Ny435 := Aside0.mk hy435
 clear hy435
 have HC2 := Aside0.mk H
 clear H
 go_enter Try.func84, Try.ntmps84
 go_upto_region 2 with (first | ((with_reducible refine gate_dst (N := 11) rfl ?_); refine Kd.R_lit Kd.string _ 9 ?hg (N := 11) ?hd (xs := ([] : List ByteArray)) (inner := []) (ok := fun _ => True) (okp := fun _ => True) ?hr ?hp (fun _ hk => hk) trivial (Below.refl _ _) (Nat.le_refl _) (by simp) ?_; (case hd => rfl); (case hg => rfl); (case hr => first | (go_simp; done) | (go_simp; rfl)); (case hp => exact (Reps.none _ _)); intro v436 w3 ho4 hb hg_ hnew_; clear hg_ hnew_; (first | rw [← Ny435.out] at ho4 | (simp only [Int.reduceToNat] at ho4; rw [← Ny435.out] at ho4)); have n_ := aT (Kd.R_lower ho4 (below_size bH)) (aM (below_step bH hb)); clear HB; obtain ⟨HO437, HB⟩ := n_; clear hb ho4))
 (try simp only [Act.put, List.setIfInBounds_toArray, List.set_cons_zero, List.set_cons_succ])
 go_cut [19] (fun v19 wc => ∃ (kq : Nat) (x19_1 : Bool), v19 = .bool x19_1 ∧ Aside0 (spec_Parts.j0 kq a0 y435 x19_1 = some (r1, r2)) ∧ Aside0 (kq ≤ k) ∧ Aside0 (Kd.R Kd.string 9 wc w.heap.size (fun _ => True) v436 y435) ∧ Aside0 (Below w.heap.size w wc))
 case first =>
  have H := HC2.out
  clear HC2
  obtain ⟨t438, A5, H⟩ := oB H
  by_cases c6 : t438 = true
  ·subst c6
   rw [if_pos rfl] at H
   by_cases c7 : 0 < (a0.size : Int)
   ·rw [if_pos c7] at H
    have c7b0 := decide_eq_true c7
    have c7b1 : decide (0 < a0.size) = true := decide_eq_true (by omega)
    clear c7
    (first | rw [c7b0] | (simp only [i64_w, i32_w]; rw [c7b0]) | skip)
    have H' := Aside0.mk H
    clear H
    go_wp2_with (first | (refine gL 12 (some 13) Try.func12 #[.string a0] ?_; (with_reducible refine (spec_TermOk.calls k a0 true _ A5.out).mono ?_); rintro e w9 ⟨rfl, hb⟩; refine ⟨_, rfl, ?_⟩; have n_ := aT (Kd.R_below (kR HO437.out) hb) (aM (below_step bH hb)); clear HO437 HB; obtain ⟨HO437, HB⟩ := n_; (try clear hb); have p8 : 0 ≤ (0 : Int) := (by omega); have q8 : 0 < a0.size := (by have : (0 : Int) < (a0.size : Int) := of_decide_eq_true aA; omega); have hx8 : ∀ h : 0 < a0.size, ((a0[0]'h).toNat : Int) = bt a0 0 := bt_at a0 0; clear p8; have qi8 : (0 < (a0.size : Int)) = True := eq_true (of_decide_eq_true aA); replace q8 := eq_true q8))
    go_meet
    case rel => exact ⟨_, (((bt a0 0) != 108)), eX, H', ⟨(by first | omega | exact Nat.le_refl _)⟩, ⟨(kR HO437.out)⟩, ⟨bH⟩⟩
   rw [if_neg c7] at H
   exact absurd H (by simp)
  replace c6 := Bool.eq_false_iff.mpr c6
  subst c6
  rw [if_neg nF] at H
  have H' := Aside0.mk H
  clear H
  go_wp2_with (first | (refine gL 12 (some 13) Try.func12 #[.string a0] ?_; (with_reducible refine (spec_TermOk.calls k a0 false _ A5.out).mono ?_); rintro e w10 ⟨rfl, hb⟩; refine ⟨_, rfl, ?_⟩; have n_ := aT (Kd.R_below (kR HO437.out) hb) (aM (below_step bH hb)); clear HO437 HB; obtain ⟨HO437, HB⟩ := n_; (try clear hb)))
  go_meet
  case rel => exact ⟨_, (true), eX, H', ⟨(by first | omega | exact Nat.le_refl _)⟩, ⟨(kR HO437.out)⟩, ⟨bH⟩⟩
 case rest =>
  clear HC2
  obtain ⟨kq, x19_1, rfl, HA, HJ1, HO_4, HB⟩ := hcut
  cases kq with
  | zero => exact absurd HA.out (by simp [spec_Parts.j0])
  | succ kj1 =>
   have H := HA.out
   clear HA
   simp only [spec_Parts.j0] at H
   by_cases c11 : x19_1 = true
   ·subst c11
    rw [if_pos rfl] at H
    simp only [Option.some.injEq, Prod.mk.injEq] at H
    obtain ⟨rfl, rfl⟩ := H
    go_wp2
    go_ret2
    exact ⟨_, eE, (kR HO_4.out), bH⟩
   replace c11 := Bool.eq_false_iff.mpr c11
   subst c11
   rw [if_neg nF] at H
   by_cases c12 : 1 ≤ (a0.size : Int)
   ·rw [if_pos c12] at H
    have c12b0 := eq_true c12
    have c12b1 := decide_eq_true c12
    clear c12
    obtain ⟨⟨t439, t440⟩, A13, H⟩ := oB H
    dsimp only at H
    have H' := Aside0.mk H
    clear H
    go_wp2_with (first | (refine gL 75 (some 24) Try.func75 #[.string (a0.extract 1 a0.size)] ?_; (with_reducible refine (spec_ReadVar.calls kj1 (a0.extract 1 a0.size) t439 t440 _ A13.out).mono ?_); rintro e w14 ⟨rfl, hb⟩; refine ⟨_, rfl, ?_⟩; have n_ := aT (Kd.R_below (kR HO_4.out) hb) (aM (below_step bH hb)); clear HO_4 HB; obtain ⟨HO_4, HB⟩ := n_; (try clear hb)))
    go_loopg [4, 7, 8] kj1 (fun kq v4 v7 v8 w' => ∃ (x4_2 : List ByteArray) (x7_2 : Int) (x8_2 : Int), v7 = .int .i64 x7_2 ∧ v8 = .int .i64 x8_2 ∧ Aside0 (spec_Parts.l0 kq a0 x4_2 t439 x7_2 x8_2 = some (r1, r2)) ∧ Aside0 (kq ≤ kj1) ∧ Aside0 (Kd.R Kd.string 9 w' w.heap.size (fun _ => True) v4 x4_2) ∧ Aside0 (Below w.heap.size w w'))
    case atStart => exact ⟨(y435), (wrap64 (1 + t440)), (0), eX, eX, H', ⟨Nat.le_refl _⟩, ⟨(kR HO_4.out)⟩, ⟨bH⟩⟩
    case round =>
     clear H'
     try clear c11
     try clear c12
     try clear c12b0
     try clear c12b1
     obtain ⟨x4_2, x7_2, x8_2, rfl, rfl, HA, HK2, HO_4, HB⟩ := hrel
     cases gk with
     | zero => exact absurd HA.out (by simp [spec_Parts.l0])
     | succ k2 =>
      have H := HA.out
      clear HA
      simp only [spec_Parts.l0] at H
      by_cases c15 : x8_2 < t439
      ·rw [if_pos c15] at H
       have c15b0 := decide_eq_true c15
       clear c15
       obtain ⟨⟨t441, t442⟩, A16, H⟩ := oB H
       dsimp only at H
       by_cases c17 : 0 ≤ x7_2
       ·rw [if_pos c17] at H
        have c17b0 := eq_true c17
        have c17b1 := decide_eq_true c17
        clear c17
        by_cases c18 : x7_2 ≤ (wrap64 (x7_2 + t441))
        ·rw [if_pos c18] at H
         have c18b0 := eq_true c18
         have c18b1 := decide_eq_true c18
         by_cases c19 : (wrap64 (x7_2 + t441)) ≤ (a0.size : Int)
         ·rw [if_pos c19] at H
          have c19b0 := eq_true c19
          have c19b1 := decide_eq_true c19
          by_cases c20 : x4_2.length < 8796093022208
          ·rw [if_pos c20] at H
           have LMc20 := Aside0.mk c20
           clear c20
           obtain ⟨y443, hy443⟩ : ∃ y_ : List ByteArray, y_ = (x4_2 ++ [a0.extract (x7_2 : Int).toNat ((wrap64 (x7_2 + t441)) : Int).toNat]) := ⟨_, rfl⟩
           replace H : (spec_Parts.l0 k2 a0 y443 t439 (wrap64 (x7_2 + t441)) (wrap64 (x8_2 + 1))) = some (r1, r2) := by first | (rw [hy443]; with_reducible exact H) | (have H2_ := (Option.bind_some _ _).symm.trans H; rw [hy443]; with_reducible exact H2_) | (have H2_ := (Option.bind_some _ _).symm.trans H; with_reducible exact H2_) | with_reducible exact H | (rw [hy443]; exact H) | exact H
           have Ny443 := Aside0.mk hy443
           clear hy443
           have H' := Aside0.mk H
           clear H
           go_wp2_with (first | (refine gL 45 (some 37) Try.func45 #[.string a0, .int .i64 x7_2, .int .i64 8] ?_; (with_reducible refine (spec_l2Term.calls k2 a0 x7_2 8 t441 t442 _ A16.out).mono ?_); rintro e w21 ⟨rfl, hb⟩; refine ⟨_, rfl, ?_⟩; have n_ := aT (Kd.R_below (kR HO_4.out) hb) (aM (below_step bH hb)); clear HO_4 HB; obtain ⟨HO_4, HB⟩ := n_; (try clear hb)) | ((with_reducible refine gate_builtin (b := .append) (xs := #[.tmp 40, .tmp 47]) rfl ?_); at_builtin; refine Kd.R_append Kd.string (w0 := w) w.heap.size rfl (.tmp 40) (.tmp 47) 24 9 (.string ⟨#[]⟩) 16 rfl Try.underlying24 info9 rfl (by decide) (by omega) u4 x4_2 (a0.extract (x7_2 : Int).toNat ((wrap64 (x7_2 + t441)) : Int).toNat) [.string (a0.extract (x7_2 : Int).toNat ((wrap64 (x7_2 + t441)) : Int).toNat)] (fun _ => True) (fun _ => False) rfl rfl ?aP (fun _ hk => hk.elim) ?aF ?aO ?aB ?aS ?aL ?_; (case aP => exact rfl); (case aB => exact bH); (case aF => exact (fun _ _ => trivial)); (case aO => exact (kR HO_4.out)); (case aS => exact (below_size bH)); (case aL => have := LMc20.out; omega); intro v444 w22 ho hb hg hat; rw [← Ny443.out] at ho; have n_ := aT (hb) (aM (ho)); clear HB HO_4; obtain ⟨HB, HO445⟩ := n_; clear ho hb hg hat))
           go_roundg k2
           case measure => have := HJ1.out; have := HK2.out; omega
           case rel => exact ⟨(y443), (wrap64 (x7_2 + t441)), (wrap64 (x8_2 + 1)), eX, eX, H', ⟨(by have := HJ1.out; have := HK2.out; omega)⟩, ⟨(kR HO445.out)⟩, ⟨bH⟩⟩
          rw [if_neg c20] at H
          exact absurd H (by simp)
         rw [if_neg c19] at H
         exact absurd H (by simp)
        rw [if_neg c18] at H
        exact absurd H (by simp)
       rw [if_neg c17] at H
       exact absurd H (by simp)
      rw [if_neg c15] at H
      have c15b0 := decide_eq_false c15
      clear c15
      simp only [Option.some.injEq, Prod.mk.injEq] at H
      obtain ⟨rfl, rfl⟩ := H
      go_wp2
      go_ret2
      exact ⟨_, eE, (kR HO_4.out), bH⟩
   rw [if_neg c12] at H
   exact absurd H (by simp)

/-! ### spec_Open: function 85 -/
def spec_Open.j0 : Nat → ByteArray → Int → Bool → Option (ByteArray × Bool)
 | 0, _, _, _ => none
 | k + 1, x0, x1, x15 => if x15 = true then (some ((⟨#[]⟩ : ByteArray), false)) else (if 1 ≤ (x0.size : Int) then ((spec_ReadVar.f k (x0.extract 1 x0.size)).bind fun bt447 => (if bt447.1 = x1 then (if 0 ≤ (wrap64 (1 + bt447.2)) then (if (wrap64 (1 + bt447.2)) ≤ (x0.size : Int) then (some (x0.extract ((wrap64 (1 + bt447.2)) : Int).toNat x0.size, true)) else (none)) else (none)) else (some ((⟨#[]⟩ : ByteArray), false)))) else (none))
def spec_Open.f (k : Nat) (a0 : ByteArray) (a1 : Int) : Option (ByteArray × Bool) := (spec_TermOk.f k a0).bind fun t446 => (if t446 = true then (if 0 < (a0.size : Int) then (spec_Open.j0 k a0 a1 ((bt a0 0) != 115)) else (none)) else (spec_Open.j0 k a0 a1 true))
set_option maxHeartbeats 8000000 in
set_option maxRecDepth 100000 in
theorem spec_Open.calls (k : Nat) (a0 : ByteArray) (a1 : Int) (r1 : ByteArray) (r2 : Bool) (w : World) (h : spec_Open.f k a0 a1 = some (r1, r2)) :
  Calls Try.prog 85 #[.string a0, .int .i64 a1] w fun e w' => e = .returned (.tuple #[.string r1, .bool r2]) ∧ Below w.heap.size w w' := by
 have HB := Aside0.mk (Below.refl w.heap.size w)
 have H := h
 clear h
 unfold spec_Open.f at H
 have HC3 := Aside0.mk H
 clear H
 go_enter Try.func85, Try.ntmps85
 go_upto_region 1 with (fail)
 go_cut [15] (fun v15 wc => ∃ (kq : Nat) (x15_2 : Bool), v15 = .bool x15_2 ∧ Aside0 (spec_Open.j0 kq a0 a1 x15_2 = some (r1, r2)) ∧ Aside0 (kq ≤ k) ∧ Aside0 (Below w.heap.size w wc))
 case first =>
  have H := HC3.out
  clear HC3
  obtain ⟨t446, A4, H⟩ := oB H
  by_cases c5 : t446 = true
  ·subst c5
   rw [if_pos rfl] at H
   by_cases c6 : 0 < (a0.size : Int)
   ·rw [if_pos c6] at H
    have c6b0 := decide_eq_true c6
    have c6b1 : decide (0 < a0.size) = true := decide_eq_true (by omega)
    clear c6
    (first | rw [c6b0] | (simp only [i64_w, i32_w]; rw [c6b0]) | skip)
    have H' := Aside0.mk H
    clear H
    go_wp2_with (first | (refine gL 12 (some 9) Try.func12 #[.string a0] ?_; (with_reducible refine (spec_TermOk.calls k a0 true _ A4.out).mono ?_); rintro e w8 ⟨rfl, hb⟩; refine ⟨_, rfl, ?_⟩; have n_ := aM (below_step bH hb); clear HB; have HB := n_; clear n_; (try clear hb); have p7 : 0 ≤ (0 : Int) := (by omega); have q7 : 0 < a0.size := (by have : (0 : Int) < (a0.size : Int) := of_decide_eq_true aA; omega); have hx7 : ∀ h : 0 < a0.size, ((a0[0]'h).toNat : Int) = bt a0 0 := bt_at a0 0; clear p7; have qi7 : (0 < (a0.size : Int)) = True := eq_true (of_decide_eq_true aA); replace q7 := eq_true q7))
    go_meet
    case rel => exact ⟨_, (((bt a0 0) != 115)), eX, H', ⟨(by first | omega | exact Nat.le_refl _)⟩, ⟨bH⟩⟩
   rw [if_neg c6] at H
   exact absurd H (by simp)
  replace c5 := Bool.eq_false_iff.mpr c5
  subst c5
  rw [if_neg nF] at H
  have H' := Aside0.mk H
  clear H
  go_wp2_with (first | (refine gL 12 (some 9) Try.func12 #[.string a0] ?_; (with_reducible refine (spec_TermOk.calls k a0 false _ A4.out).mono ?_); rintro e w9 ⟨rfl, hb⟩; refine ⟨_, rfl, ?_⟩; have n_ := aM (below_step bH hb); clear HB; have HB := n_; clear n_; (try clear hb)))
  go_meet
  case rel => exact ⟨_, (true), eX, H', ⟨(by first | omega | exact Nat.le_refl _)⟩, ⟨bH⟩⟩
 case rest =>
  clear HC3
  obtain ⟨kq, x15_2, rfl, HA, HJ2, HB⟩ := hcut
  cases kq with
  | zero => exact absurd HA.out (by simp [spec_Open.j0])
  | succ kj2 =>
   have H := HA.out
   clear HA
   simp only [spec_Open.j0] at H
   by_cases c10 : x15_2 = true
   ·subst c10
    rw [if_pos rfl] at H
    simp only [Option.some.injEq, Prod.mk.injEq] at H
    obtain ⟨rfl, rfl⟩ := H
    go_wp2
    go_ret2
    exact ⟨eE, bH⟩
   replace c10 := Bool.eq_false_iff.mpr c10
   subst c10
   rw [if_neg nF] at H
   by_cases c11 : 1 ≤ (a0.size : Int)
   ·rw [if_pos c11] at H
    have c11b0 := eq_true c11
    have c11b1 := decide_eq_true c11
    clear c11
    obtain ⟨⟨t447, t448⟩, A12, H⟩ := oB H
    dsimp only at H
    by_cases c13 : t447 = a1
    ·rw [if_pos c13] at H
     have c13b0 : (t447 == a1) = true := beq_iff_eq.mpr c13
     have c13b1 : (t447 != a1) = false := bne_eq_false_iff_eq.mpr c13
     clear c13
     obtain ⟨ji14, hji14⟩ : ∃ j_ : Int, (wrap64 (1 + t448)) = j_ := ⟨_, rfl⟩
     replace H : (if 0 ≤ (ji14) then (if (ji14) ≤ (a0.size : Int) then (some (a0.extract ((ji14) : Int).toNat a0.size, true)) else (none)) else (none)) = some (r1, r2) := by first | (rw [hji14] at H; exact H) | (simp only [hji14] at H ⊢; exact H)
     (try rw [hji14] at A12)
     have hji14w : (IntKind.i64.wrap (1 + t448)) = ji14 := (i64_w _).trans hji14
     by_cases c15 : 0 ≤ (ji14)
     ·rw [if_pos c15] at H
      have c15b0 := eq_true c15
      have c15b1 := decide_eq_true c15
      clear c15
      by_cases c16 : (ji14) ≤ (a0.size : Int)
      ·rw [if_pos c16] at H
       have c16b0 := eq_true c16
       have c16b1 := decide_eq_true c16
       clear c16
       simp only [Option.some.injEq, Prod.mk.injEq] at H
       obtain ⟨rfl, rfl⟩ := H
       go_wp2_with (first | (refine gL 75 (some 19) Try.func75 #[.string (a0.extract 1 a0.size)] ?_; (with_reducible refine (spec_ReadVar.calls kj2 (a0.extract 1 a0.size) t447 t448 _ A12.out).mono ?_); rintro e w17 ⟨rfl, hb⟩; refine ⟨_, rfl, ?_⟩; have n_ := aM (below_step bH hb); clear HB; have HB := n_; clear n_; (try clear hb)))
       go_ret2
       exact ⟨(by first | rfl | (simp [errW_none, errW_some] <;> rfl) | (simp only [← hji14]; first | rfl | (simp [errW_none, errW_some] <;> rfl)) | (simp [*, errW_none, errW_some] <;> rfl)), bH⟩
      rw [if_neg c16] at H
      exact absurd H (by simp)
     rw [if_neg c15] at H
     exact absurd H (by simp)
    rw [if_neg c13] at H
    have c13b0 : (t447 == a1) = false := beq_eq_false_iff_ne.mpr c13
    have c13b1 : (t447 != a1) = true := bne_iff_ne.mpr c13
    simp only [Option.some.injEq, Prod.mk.injEq] at H
    obtain ⟨rfl, rfl⟩ := H
    go_wp2_with (first | (refine gL 75 (some 19) Try.func75 #[.string (a0.extract 1 a0.size)] ?_; (with_reducible refine (spec_ReadVar.calls kj2 (a0.extract 1 a0.size) t447 t448 _ A12.out).mono ?_); rintro e w18 ⟨rfl, hb⟩; refine ⟨_, rfl, ?_⟩; have n_ := aM (below_step bH hb); clear HB; have HB := n_; clear n_; (try clear hb)))
    go_ret2
    exact ⟨eE, bH⟩
   rw [if_neg c11] at H
   exact absurd H (by simp)

end Go.Proofs.Ythlpfghlildllaa.OFnKnown
-- wrapped
-- halved
-- squeezed
-- squeezed2
-- squeezed3
