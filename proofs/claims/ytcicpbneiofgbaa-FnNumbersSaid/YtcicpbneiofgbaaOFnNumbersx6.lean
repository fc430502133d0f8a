-- walks of this claim, written by a program of mine
import Derived.Test.YtcicpbneiofgbaaOFnNumbersx0
import Derived.Test.YtcicpbneiofgbaaOFnNumbersx1
import Derived.Test.YtcicpbneiofgbaaOFnNumbersx2
import Derived.Test.YtcicpbneiofgbaaOFnNumbersx3
import Derived.Test.YtcicpbneiofgbaaOFnNumbersx4
import Derived.Test.YtcicpbneiofgbaaOFnNumbersx5
namespace Go.Proofs.Ytcicpbneiofgbaa.OFnNumbers
open Go.RowKit Go.Proofs.Ytcicpbneiofgbaa.OWord Go.Proofs.YtcicpbneiofgbaaW.PrintWords Go.Proofs.YtcicpbneiofgbaaW.PrintLast Go.Proofs.YtcicpbneiofgbaaW.PrintMore
attribute [local go_sem] max2_int min2_int max_two min_two max_three min_three max_four min_four   -- for this text's walks alone
set_option linter.unusedVariables false
set_option linter.unusedSimpArgs false

/-! ### laws_FnNumbers: function 14 -/
mutual
def laws_FnNumbers.j0 : Nat → List Int → Int → ByteArray → Bool → Option (Bool)
  | 0, _, _, _, _ => none
  | k + 1, x0, x3, x4, x55 => if x55 = true then (some false) else ((impl_Fixed.f k x3 7).bind fun t293 => (if t293.size + x4.size ≤ 9223372036854775807 then ((impl_ReadFixed.f k (t293 ++ x4) 7).bind fun bt294 => (if t293.toList = ([] : List UInt8) then (if x3 < 0 then (laws_FnNumbers.j1 k x0 x3 x4 ((t293.toList == ([] : List UInt8)) != true)) else (laws_FnNumbers.j1 k x0 x3 x4 ((t293.toList == ([] : List UInt8)) != (decide (x3 ≥ 72057594037927936))))) else (if bt294.2 = true then (if bt294.1 = x3 then (if (t293.size : Int) = 7 then (if x3 < 0 then (laws_FnNumbers.j1 k x0 x3 x4 ((t293.toList == ([] : List UInt8)) != true)) else (laws_FnNumbers.j1 k x0 x3 x4 ((t293.toList == ([] : List UInt8)) != (decide (x3 ≥ 72057594037927936))))) else (laws_FnNumbers.j1 k x0 x3 x4 true)) else (laws_FnNumbers.j1 k x0 x3 x4 true)) else (laws_FnNumbers.j1 k x0 x3 x4 true)))) else (none)))
def laws_FnNumbers.j1 : Nat → List Int → Int → ByteArray → Bool → Option (Bool)
  | 0, _, _, _, _ => none
  | k + 1, x0, x3, x4, x91 => if x91 = true then (some false) else ((impl_Dec.f k x3).bind fun t296 => ((impl_ReadDec.f k t296).bind fun bt297 => (if x3 > (-1000000000) then (if (bt297.2 != (decide (x3 < 1000000000))) = true then (laws_FnNumbers.j2 k x0 x4 true) else (if bt297.2 = true then (laws_FnNumbers.j2 k x0 x4 (bt297.1 != x3)) else (laws_FnNumbers.j2 k x0 x4 false))) else (if (bt297.2 != false) = true then (laws_FnNumbers.j2 k x0 x4 true) else (if bt297.2 = true then (laws_FnNumbers.j2 k x0 x4 (bt297.1 != x3)) else (laws_FnNumbers.j2 k x0 x4 false))))))
def laws_FnNumbers.j2 : Nat → List Int → ByteArray → Bool → Option (Bool)
  | 0, _, _, _ => none
  | k + 1, x0, x4, x113 => if x113 = true then (some false) else ((impl_Hex.f k x4).bind fun t299 => ((impl_Unhex.f k t299).bind fun bt300 => ((spec_DrawReadVar.f k x0).bind fun t302 => ((impl_ReadVar.f k t302).bind fun bt303 => (if bt300.2 = true then (if bt300.1.toList = x4.toList then (if bt303.2 = 0 then (some true) else ((impl_Var.f k bt303.1).bind fun t305 => ((spec_DrawReadVar.f k x0).bind fun t306 => (if 0 ≤ bt303.2 then (if bt303.2 ≤ (t306.size : Int) then (some (t305.toList == (t306.extract 0 (bt303.2 : Int).toNat).toList)) else (none)) else (none))))) else (some false)) else (some false))))))
end
def laws_FnNumbers.f (k : Nat) (l0 : List Int) : Option (Bool) := (laws_big.f l0).bind fun t287 => (if t287 = true then (some true) else ((spec_DrawVar.f k l0).bind fun t288 => ((spec_DrawHex.f k l0).bind fun t289 => ((impl_Var.f k t288).bind fun t290 => (if t290.size + t289.size ≤ 9223372036854775807 then ((impl_ReadVar.f k (t290 ++ t289)).bind fun bt291 => (if t288 ≥ 0 then (if ((t290.toList != ([] : List UInt8)) != (decide (t288 ≤ 562949953421311))) = true then (laws_FnNumbers.j0 k l0 t288 t289 true) else (if t290.toList = ([] : List UInt8) then (laws_FnNumbers.j0 k l0 t288 t289 false) else (if bt291.1 = t288 then (laws_FnNumbers.j0 k l0 t288 t289 (bt291.2 != (t290.size : Int))) else (laws_FnNumbers.j0 k l0 t288 t289 true)))) else (if ((t290.toList != ([] : List UInt8)) != false) = true then (laws_FnNumbers.j0 k l0 t288 t289 true) else (if t290.toList = ([] : List UInt8) then (laws_FnNumbers.j0 k l0 t288 t289 false) else (if bt291.1 = t288 then (laws_FnNumbers.j0 k l0 t288 t289 (bt291.2 != (t290.size : Int))) else (laws_FnNumbers.j0 k l0 t288 t289 true)))))) else (none))))))
theorem laws_FnNumbers.mono_l : ∀ k, (∀ y0 y1 y2 y3, LeO (laws_FnNumbers.j0 k y0 y1 y2 y3) (laws_FnNumbers.j0 (k + 1) y0 y1 y2 y3)) ∧ (∀ y0 y1 y2 y3, LeO (laws_FnNumbers.j1 k y0 y1 y2 y3) (laws_FnNumbers.j1 (k + 1) y0 y1 y2 y3)) ∧ (∀ y0 y1 y2, LeO (laws_FnNumbers.j2 k y0 y1 y2) (laws_FnNumbers.j2 (k + 1) y0 y1 y2))
  | 0 => ⟨fun _ _ _ _ r h => by simp [laws_FnNumbers.j0] at h, fun _ _ _ _ r h => by simp [laws_FnNumbers.j1] at h, fun _ _ _ r h => by simp [laws_FnNumbers.j2] at h⟩
  | k + 1 => by
    obtain ⟨ih0, ih1, ih2⟩ := laws_FnNumbers.mono_l k
    refine ⟨?_, ?_, ?_⟩
    · intro y0 y1 y2 y3
      unfold laws_FnNumbers.j0
      repeat' first
      | (with_reducible exact ih0 _ _ _ _)
      | (with_reducible exact ih1 _ _ _ _)
      | (with_reducible exact ih2 _ _ _)
      | (with_reducible exact impl_Dec.mono _ _)
      | (with_reducible exact impl_Fixed.mono _ _ _)
      | (with_reducible exact impl_Hex.mono _ _)
      | (with_reducible exact impl_ReadDec.mono _ _)
      | (with_reducible exact impl_ReadFixed.mono _ _ _)
      | (with_reducible exact impl_ReadVar.mono _ _)
      | (with_reducible exact impl_Unhex.mono _ _)
      | (with_reducible exact impl_Var.mono _ _)
      | (with_reducible exact spec_DrawHex.mono _ _)
      | (with_reducible exact spec_DrawReadVar.mono _ _)
      | (with_reducible exact spec_DrawVar.mono _ _)
      | (with_reducible exact LeO.refl _)
      | (with_reducible exact LeO.none _)
      | (with_reducible refine LeO.ite ?_ ?_)
      | (with_reducible refine LeO.bind ?_ (fun _ => ?_))
      | exact ih0 _ _ _ _
      | exact ih1 _ _ _ _
      | exact ih2 _ _ _
      | exact impl_Dec.mono _ _
      | exact impl_Fixed.mono _ _ _
      | exact impl_Hex.mono _ _
      | exact impl_ReadDec.mono _ _
      | exact impl_ReadFixed.mono _ _ _
      | exact impl_ReadVar.mono _ _
      | exact impl_Unhex.mono _ _
      | exact impl_Var.mono _ _
      | exact spec_DrawHex.mono _ _
      | exact spec_DrawReadVar.mono _ _
      | exact spec_DrawVar.mono _ _
      | exact LeO.none _
      | refine LeO.ite ?_ ?_
      | refine LeO.bind ?_ (fun _ => ?_)
    · intro y0 y1 y2 y3
      unfold laws_FnNumbers.j1
      repeat' first
      | (with_reducible exact ih0 _ _ _ _)
      | (with_reducible exact ih1 _ _ _ _)
      | (with_reducible exact ih2 _ _ _)
      | (with_reducible exact impl_Dec.mono _ _)
      | (with_reducible exact impl_Fixed.mono _ _ _)
      | (with_reducible exact impl_Hex.mono _ _)
      | (with_reducible exact impl_ReadDec.mono _ _)
      | (with_reducible exact impl_ReadFixed.mono _ _ _)
      | (with_reducible exact impl_ReadVar.mono _ _)
      | (with_reducible exact impl_Unhex.mono _ _)
      | (with_reducible exact impl_Var.mono _ _)
      | (with_reducible exact spec_DrawHex.mono _ _)
      | (with_reducible exact spec_DrawReadVar.mono _ _)
      | (with_reducible exact spec_DrawVar.mono _ _)
      | (with_reducible exact LeO.refl _)
      | (with_reducible exact LeO.none _)
      | (with_reducible refine LeO.ite ?_ ?_)
      | (with_reducible refine LeO.bind ?_ (fun _ => ?_))
      | exact ih0 _ _ _ _
      | exact ih1 _ _ _ _
      | exact ih2 _ _ _
      | exact impl_Dec.mono _ _
      | exact impl_Fixed.mono _ _ _
      | exact impl_Hex.mono _ _
      | exact impl_ReadDec.mono _ _
      | exact impl_ReadFixed.mono _ _ _
      | exact impl_ReadVar.mono _ _
      | exact impl_Unhex.mono _ _
      | exact impl_Var.mono _ _
      | exact spec_DrawHex.mono _ _
      | exact spec_DrawReadVar.mono _ _
      | exact spec_DrawVar.mono _ _
      | exact LeO.none _
      | refine LeO.ite ?_ ?_
      | refine LeO.bind ?_ (fun _ => ?_)
    · intro y0 y1 y2
      unfold laws_FnNumbers.j2
      repeat' first
      | (with_reducible exact ih0 _ _ _ _)
      | (with_reducible exact ih1 _ _ _ _)
      | (with_reducible exact ih2 _ _ _)
      | (with_reducible exact impl_Dec.mono _ _)
      | (with_reducible exact impl_Fixed.mono _ _ _)
      | (with_reducible exact impl_Hex.mono _ _)
      | (with_reducible exact impl_ReadDec.mono _ _)
      | (with_reducible exact impl_ReadFixed.mono _ _ _)
      | (with_reducible exact impl_ReadVar.mono _ _)
      | (with_reducible exact impl_Unhex.mono _ _)
      | (with_reducible exact impl_Var.mono _ _)
      | (with_reducible exact spec_DrawHex.mono _ _)
      | (with_reducible exact spec_DrawReadVar.mono _ _)
      | (with_reducible exact spec_DrawVar.mono _ _)
      | (with_reducible exact LeO.refl _)
      | (with_reducible exact LeO.none _)
      | (with_reducible refine LeO.ite ?_ ?_)
      | (with_reducible refine LeO.bind ?_ (fun _ => ?_))
      | exact ih0 _ _ _ _
      | exact ih1 _ _ _ _
      | exact ih2 _ _ _
      | exact impl_Dec.mono _ _
      | exact impl_Fixed.mono _ _ _
      | exact impl_Hex.mono _ _
      | exact impl_ReadDec.mono _ _
      | exact impl_ReadFixed.mono _ _ _
      | exact impl_ReadVar.mono _ _
      | exact impl_Unhex.mono _ _
      | exact impl_Var.mono _ _
      | exact spec_DrawHex.mono _ _
      | exact spec_DrawReadVar.mono _ _
      | exact spec_DrawVar.mono _ _
      | exact LeO.none _
      | refine LeO.ite ?_ ?_
      | refine LeO.bind ?_ (fun _ => ?_)
theorem laws_FnNumbers.mono : ∀ a0 k, LeO (laws_FnNumbers.f k a0) (laws_FnNumbers.f (k + 1) a0) := by
  intro a0 k
  obtain ⟨ih0, ih1, ih2⟩ := laws_FnNumbers.mono_l k
  unfold laws_FnNumbers.f
  repeat' first
      | (with_reducible exact ih0 _ _ _ _)
      | (with_reducible exact ih1 _ _ _ _)
      | (with_reducible exact ih2 _ _ _)
      | (with_reducible exact impl_Dec.mono _ _)
      | (with_reducible exact impl_Fixed.mono _ _ _)
      | (with_reducible exact impl_Hex.mono _ _)
      | (with_reducible exact impl_ReadDec.mono _ _)
      | (with_reducible exact impl_ReadFixed.mono _ _ _)
      | (with_reducible exact impl_ReadVar.mono _ _)
      | (with_reducible exact impl_Unhex.mono _ _)
      | (with_reducible exact impl_Var.mono _ _)
      | (with_reducible exact spec_DrawHex.mono _ _)
      | (with_reducible exact spec_DrawReadVar.mono _ _)
      | (with_reducible exact spec_DrawVar.mono _ _)
      | (with_reducible exact LeO.refl _)
      | (with_reducible exact LeO.none _)
      | (with_reducible refine LeO.ite ?_ ?_)
      | (with_reducible refine LeO.bind ?_ (fun _ => ?_))
      | exact ih0 _ _ _ _
      | exact ih1 _ _ _ _
      | exact ih2 _ _ _
      | exact impl_Dec.mono _ _
      | exact impl_Fixed.mono _ _ _
      | exact impl_Hex.mono _ _
      | exact impl_ReadDec.mono _ _
      | exact impl_ReadFixed.mono _ _ _
      | exact impl_ReadVar.mono _ _
      | exact impl_Unhex.mono _ _
      | exact impl_Var.mono _ _
      | exact spec_DrawHex.mono _ _
      | exact spec_DrawReadVar.mono _ _
      | exact spec_DrawVar.mono _ _
      | exact LeO.none _
      | refine LeO.ite ?_ ?_
      | refine LeO.bind ?_ (fun _ => ?_)
set_option maxHeartbeats 8000000 in
set_option maxRecDepth 100000 in
theorem laws_FnNumbers.calls (k : Nat) (A0 : Option Addr) (c0 : Nat) (l0 : List Int) (r : Bool) (w : World) (hr0 : Kd.C (Kd.int .u8) w A0 l0.length l0) (hc0 : l0.length ≤ c0) (h : laws_FnNumbers.f k l0 = some r) :
    Calls Try.prog 14 #[.slice A0 l0.length c0] w fun e w' => e = .returned (.bool r) ∧ Below w.heap.size w w' := by
  have HR0 := Aside0.mk hr0
  have HC0 := Aside0.mk hc0
  clear hr0 hc0
  have HB := Aside0.mk (Below.refl w.heap.size w)
  have H : ((laws_big.f l0).bind fun t287 => (if t287 = true then (some true) else ((spec_DrawVar.f k l0).bind fun t288 => ((spec_DrawHex.f k l0).bind fun t289 => ((impl_Var.f k t288).bind fun t290 => (if t290.size + t289.size ≤ 9223372036854775807 then ((impl_ReadVar.f k (t290 ++ t289)).bind fun bt291 => (if t288 ≥ 0 then (if ((t290.toList != ([] : List UInt8)) != (decide (t288 ≤ 562949953421311))) = true then (laws_FnNumbers.j0 k l0 t288 t289 true) else (if t290.toList = ([] : List UInt8) then (laws_FnNumbers.j0 k l0 t288 t289 false) else (if bt291.1 = t288 then (laws_FnNumbers.j0 k l0 t288 t289 (bt291.2 != (t290.size : Int))) else (laws_FnNumbers.j0 k l0 t288 t289 true)))) else (if ((t290.toList != ([] : List UInt8)) != false) = true then (laws_FnNumbers.j0 k l0 t288 t289 true) else (if t290.toList = ([] : List UInt8) then (laws_FnNumbers.j0 k l0 t288 t289 false) else (if bt291.1 = t288 then (laws_FnNumbers.j0 k l0 t288 t289 (bt291.2 != (t290.size : Int))) else (laws_FnNumbers.j0 k l0 t288 t289 true)))))) else (none))))))) = some r := h
  clear h
  replace H := Option.bind_eq_some_iff.mp H
  obtain ⟨t287, A20, H⟩ := H
  replace H : (if t287 = true then (some true) else ((spec_DrawVar.f k l0).bind fun t288 => ((spec_DrawHex.f k l0).bind fun t289 => ((impl_Var.f k t288).bind fun t290 => (if t290.size + t289.size ≤ 9223372036854775807 then ((impl_ReadVar.f k (t290 ++ t289)).bind fun bt291 => (if t288 ≥ 0 then (if ((t290.toList != ([] : List UInt8)) != (decide (t288 ≤ 562949953421311))) = true then (laws_FnNumbers.j0 k l0 t288 t289 true) else (if t290.toList = ([] : List UInt8) then (laws_FnNumbers.j0 k l0 t288 t289 false) else (if bt291.1 = t288 then (laws_FnNumbers.j0 k l0 t288 t289 (bt291.2 != (t290.size : Int))) else (laws_FnNumbers.j0 k l0 t288 t289 true)))) else (if ((t290.toList != ([] : List UInt8)) != false) = true then (laws_FnNumbers.j0 k l0 t288 t289 true) else (if t290.toList = ([] : List UInt8) then (laws_FnNumbers.j0 k l0 t288 t289 false) else (if bt291.1 = t288 then (laws_FnNumbers.j0 k l0 t288 t289 (bt291.2 != (t290.size : Int))) else (laws_FnNumbers.j0 k l0 t288 t289 true)))))) else (none)))))) = some r := H
  have A2 := Aside0.mk A20
  clear A20
  by_cases c3 : t287 = true
  · subst c3
    have H1 : (some true) = some r := by rw [if_pos rfl] at H; exact H
    clear H
    have H := H1
    clear H1
    obtain rfl := Option.some.inj H
    go_enter Try.func14, Try.ntmps14
    go_wp2_with (first | ((with_reducible refine gate_callee (f := 50) rfl ?_); refine goesL_ (some 18) rfl rfl Try.func50 (by kernel_rfl) rfl #[.slice A0 l0.length c0] rfl (by (try simp only [List.map_toArray, List.map_cons, List.map_nil]); first | done | rfl | (simp only [List.length_drop, List.length_take]; rfl)) ?_; (with_reducible refine (laws_big.calls _ _ l0 true _ ?side1 ?side2 A2.out).mono ?_); (case side1 => repeat (first | exact HR0.out | (with_reducible refine Kd.C_alloc ?_ _) | (with_reducible refine Kd.C_drewN ?_ _) | (with_reducible refine Kd.C_drew ?_))); (case side2 => exact HC0.out); rintro e w' ⟨rfl, ⟨nd, rfl⟩⟩; refine ⟨_, rfl, ?_⟩))
    go_ret
    exact ⟨by first | rfl | (simp [errW_none, errW_some] <;> rfl) | (simp [*, errW_none, errW_some] <;> rfl), by repeat (first | (with_reducible first | exact HB.out | apply below_alloc | apply pw_below_drewN | apply below_drew1) | exact HB.out)⟩
  · replace c3 := Bool.eq_false_iff.mpr c3
    subst c3
    have H1 : ((spec_DrawVar.f k l0).bind fun t288 => ((spec_DrawHex.f k l0).bind fun t289 => ((impl_Var.f k t288).bind fun t290 => (if t290.size + t289.size ≤ 9223372036854775807 then ((impl_ReadVar.f k (t290 ++ t289)).bind fun bt291 => (if t288 ≥ 0 then (if ((t290.toList != ([] : List UInt8)) != (decide (t288 ≤ 562949953421311))) = true then (laws_FnNumbers.j0 k l0 t288 t289 true) else (if t290.toList = ([] : List UInt8) then (laws_FnNumbers.j0 k l0 t288 t289 false) else (if bt291.1 = t288 then (laws_FnNumbers.j0 k l0 t288 t289 (bt291.2 != (t290.size : Int))) else (laws_FnNumbers.j0 k l0 t288 t289 true)))) else (if ((t290.toList != ([] : List UInt8)) != false) = true then (laws_FnNumbers.j0 k l0 t288 t289 true) else (if t290.toList = ([] : List UInt8) then (laws_FnNumbers.j0 k l0 t288 t289 false) else (if bt291.1 = t288 then (laws_FnNumbers.j0 k l0 t288 t289 (bt291.2 != (t290.size : Int))) else (laws_FnNumbers.j0 k l0 t288 t289 true)))))) else (none))))) = some r := by rw [if_neg (show ¬ (false = true) by decide)] at H; exact H
    clear H
    have H := H1
    clear H1
    replace H := Option.bind_eq_some_iff.mp H
    obtain ⟨t288, A40, H⟩ := H
    replace H : ((spec_DrawHex.f k l0).bind fun t289 => ((impl_Var.f k t288).bind fun t290 => (if t290.size + t289.size ≤ 9223372036854775807 then ((impl_ReadVar.f k (t290 ++ t289)).bind fun bt291 => (if t288 ≥ 0 then (if ((t290.toList != ([] : List UInt8)) != (decide (t288 ≤ 562949953421311))) = true then (laws_FnNumbers.j0 k l0 t288 t289 true) else (if t290.toList = ([] : List UInt8) then (laws_FnNumbers.j0 k l0 t288 t289 false) else (if bt291.1 = t288 then (laws_FnNumbers.j0 k l0 t288 t289 (bt291.2 != (t290.size : Int))) else (laws_FnNumbers.j0 k l0 t288 t289 true)))) else (if ((t290.toList != ([] : List UInt8)) != false) = true then (laws_FnNumbers.j0 k l0 t288 t289 true) else (if t290.toList = ([] : List UInt8) then (laws_FnNumbers.j0 k l0 t288 t289 false) else (if bt291.1 = t288 then (laws_FnNumbers.j0 k l0 t288 t289 (bt291.2 != (t290.size : Int))) else (laws_FnNumbers.j0 k l0 t288 t289 true)))))) else (none)))) = some r := H
    have A4 := Aside0.mk A40
    clear A40
    replace H := Option.bind_eq_some_iff.mp H
    obtain ⟨t289, A50, H⟩ := H
    replace H : ((impl_Var.f k t288).bind fun t290 => (if t290.size + t289.size ≤ 9223372036854775807 then ((impl_ReadVar.f k (t290 ++ t289)).bind fun bt291 => (if t288 ≥ 0 then (if ((t290.toList != ([] : List UInt8)) != (decide (t288 ≤ 562949953421311))) = true then (laws_FnNumbers.j0 k l0 t288 t289 true) else (if t290.toList = ([] : List UInt8) then (laws_FnNumbers.j0 k l0 t288 t289 false) else (if bt291.1 = t288 then (laws_FnNumbers.j0 k l0 t288 t289 (bt291.2 != (t290.size : Int))) else (laws_FnNumbers.j0 k l0 t288 t289 true)))) else (if ((t290.toList != ([] : List UInt8)) != false) = true then (laws_FnNumbers.j0 k l0 t288 t289 true) else (if t290.toList = ([] : List UInt8) then (laws_FnNumbers.j0 k l0 t288 t289 false) else (if bt291.1 = t288 then (laws_FnNumbers.j0 k l0 t288 t289 (bt291.2 != (t290.size : Int))) else (laws_FnNumbers.j0 k l0 t288 t289 true)))))) else (none))) = some r := H
    have A5 := Aside0.mk A50
    clear A50
    replace H := Option.bind_eq_some_iff.mp H
    obtain ⟨t290, A60, H⟩ := H
    replace H : (if t290.size + t289.size ≤ 9223372036854775807 then ((impl_ReadVar.f k (t290 ++ t289)).bind fun bt291 => (if t288 ≥ 0 then (if ((t290.toList != ([] : List UInt8)) != (decide (t288 ≤ 562949953421311))) = true then (laws_FnNumbers.j0 k l0 t288 t289 true) else (if t290.toList = ([] : List UInt8) then (laws_FnNumbers.j0 k l0 t288 t289 false) else (if bt291.1 = t288 then (laws_FnNumbers.j0 k l0 t288 t289 (bt291.2 != (t290.size : Int))) else (laws_FnNumbers.j0 k l0 t288 t289 true)))) else (if ((t290.toList != ([] : List UInt8)) != false) = true then (laws_FnNumbers.j0 k l0 t288 t289 true) else (if t290.toList = ([] : List UInt8) then (laws_FnNumbers.j0 k l0 t288 t289 false) else (if bt291.1 = t288 then (laws_FnNumbers.j0 k l0 t288 t289 (bt291.2 != (t290.size : Int))) else (laws_FnNumbers.j0 k l0 t288 t289 true)))))) else (none)) = some r := H
    have A6 := Aside0.mk A60
    clear A60
    by_cases c7 : t290.size + t289.size ≤ 9223372036854775807
    · rw [if_pos c7] at H
      have c7b0 := eq_true c7
      have c7b1 : decide (t290.size + t289.size ≤ 9223372036854775807) = true := decide_eq_true c7
      try have c7b2 : (9223372036854775807 < t290.size + t289.size) = False := eq_false (Nat.not_lt.2 c7)
      replace H := Option.bind_eq_some_iff.mp H
      obtain ⟨⟨t291, t292⟩, A80, H⟩ := H
      replace H : (if t288 ≥ 0 then (if ((t290.toList != ([] : List UInt8)) != (decide (t288 ≤ 562949953421311))) = true then (laws_FnNumbers.j0 k l0 t288 t289 true) else (if t290.toList = ([] : List UInt8) then (laws_FnNumbers.j0 k l0 t288 t289 false) else (if t291 = t288 then (laws_FnNumbers.j0 k l0 t288 t289 (t292 != (t290.size : Int))) else (laws_FnNumbers.j0 k l0 t288 t289 true)))) else (if ((t290.toList != ([] : List UInt8)) != false) = true then (laws_FnNumbers.j0 k l0 t288 t289 true) else (if t290.toList = ([] : List UInt8) then (laws_FnNumbers.j0 k l0 t288 t289 false) else (if t291 = t288 then (laws_FnNumbers.j0 k l0 t288 t289 (t292 != (t290.size : Int))) else (laws_FnNumbers.j0 k l0 t288 t289 true))))) = some r := H
      have A8 := Aside0.mk A80
      clear A80
      have HC9 := Aside0.mk H
      clear H
      go_enter Try.func14, Try.ntmps14
      go_upto_region 7 with (first | ((with_reducible refine gate_callee (f := 50) rfl ?_); refine goesL_ (some 18) rfl rfl Try.func50 (by kernel_rfl) rfl #[.slice A0 l0.length c0] rfl (by (try simp only [List.map_toArray, List.map_cons, List.map_nil]); first | done | rfl | (simp only [List.length_drop, List.length_take]; rfl)) ?_; (with_reducible refine (laws_big.calls _ _ l0 false _ ?side1 ?side2 A2.out).mono ?_); (case side1 => repeat (first | exact HR0.out | (with_reducible refine Kd.C_alloc ?_ _) | (with_reducible refine Kd.C_drewN ?_ _) | (with_reducible refine Kd.C_drew ?_))); (case side2 => exact HC0.out); rintro e w' ⟨rfl, ⟨nd, rfl⟩⟩; refine ⟨_, rfl, ?_⟩) | ((with_reducible refine gate_callee (f := 51) rfl ?_); refine goesL_ (some 20) rfl rfl Try.func51 (by kernel_rfl) rfl #[.slice A0 l0.length c0] rfl (by (try simp only [List.map_toArray, List.map_cons, List.map_nil]); first | done | rfl | (simp only [List.length_drop, List.length_take]; rfl)) ?_; (with_reducible refine (spec_DrawVar.calls k _ _ l0 t288 _ ?side1 ?side2 A4.out).mono ?_); (case side1 => repeat (first | exact HR0.out | (with_reducible refine Kd.C_alloc ?_ _) | (with_reducible refine Kd.C_drewN ?_ _) | (with_reducible refine Kd.C_drew ?_))); (case side2 => exact HC0.out); rintro e w10 ⟨rfl, hb⟩; refine ⟨_, rfl, ?_⟩; have n0_ := Aside0.mk (below_step (by repeat (first | (with_reducible first | exact HB.out | apply below_alloc | apply pw_below_drewN | apply below_drew1) | exact HB.out)) hb); clear HB; have HB := n0_; clear n0_; (try clear hb); (try clear hb2); (try clear hk); (try clear hi)) | ((with_reducible refine gate_callee (f := 52) rfl ?_); refine goesL_ (some 22) rfl rfl Try.func52 (by kernel_rfl) rfl #[.slice A0 l0.length c0] rfl (by (try simp only [List.map_toArray, List.map_cons, List.map_nil]); first | done | rfl | (simp only [List.length_drop, List.length_take]; rfl)) ?_; (with_reducible refine (spec_DrawHex.calls k _ _ l0 t289 _ ?side1 ?side2 A5.out).mono ?_); (case side1 => repeat (first | exact (Kd.C_below HR0.out HB.out) | (with_reducible refine Kd.C_alloc ?_ _) | (with_reducible refine Kd.C_drewN ?_ _) | (with_reducible refine Kd.C_drew ?_))); (case side2 => exact HC0.out); rintro e w11 ⟨rfl, hb⟩; refine ⟨_, rfl, ?_⟩; have n0_ := Aside0.mk (below_step (by repeat (first | (with_reducible first | exact HB.out | apply below_alloc | apply pw_below_drewN | apply below_drew1) | exact HB.out)) hb); clear HB; have HB := n0_; clear n0_; (try clear hb); (try clear hb2); (try clear hk); (try clear hi)) | ((with_reducible refine gate_callee (f := 53) rfl ?_); refine goesL_ (some 24) rfl rfl Try.func53 (by kernel_rfl) rfl #[.int .i64 t288] rfl (by (try simp only [List.map_toArray, List.map_cons, List.map_nil]); first | done | rfl | (simp only [List.length_drop, List.length_take]; rfl)) ?_; (with_reducible refine (impl_Var.calls k t288 t290 _ A6.out).mono ?_); rintro e w12 ⟨rfl, hb⟩; refine ⟨_, rfl, ?_⟩; have n0_ := Aside0.mk (below_step (by repeat (first | (with_reducible first | exact HB.out | apply below_alloc | apply pw_below_drewN | apply below_drew1) | exact HB.out)) hb); clear HB; have HB := n0_; clear n0_; (try clear hb); (try clear hb2); (try clear hk); (try clear hi)) | ((with_reducible refine gate_callee (f := 54) rfl ?_); refine goesL_ (some 29) rfl rfl Try.func54 (by kernel_rfl) rfl #[.string (t290 ++ t289)] rfl (by (try simp only [List.map_toArray, List.map_cons, List.map_nil]); first | done | rfl | (simp only [List.length_drop, List.length_take]; rfl)) ?_; (with_reducible refine (impl_ReadVar.calls k (t290 ++ t289) t291 t292 _ A8.out).mono ?_); rintro e w13 ⟨rfl, hb⟩; refine ⟨_, rfl, ?_⟩; have n0_ := Aside0.mk (below_step (by repeat (first | (with_reducible first | exact HB.out | apply below_alloc | apply pw_below_drewN | apply below_drew1) | exact HB.out)) hb); clear HB; have HB := n0_; clear n0_; (try clear hb); (try clear hb2); (try clear hk); (try clear hi)))
      (try simp only [Act.put, List.setIfInBounds_toArray, List.set_cons_zero, List.set_cons_succ])
      go_cut [55] (fun v55 wc => ∃ (kq : Nat) (x55_8 : Bool), v55 = .bool x55_8 ∧ Aside0 (laws_FnNumbers.j0 kq l0 t288 t289 x55_8 = some r) ∧ Aside0 (kq ≤ k) ∧ Aside0 (Below w.heap.size w wc))
      case first =>
        have H := HC9.out
        clear HC9
        by_cases d1 : 0 ≤ t288
        · have fd1 : decide (0 ≤ t288) = true := decide_eq_true d1
          by_cases d2 : t288 ≤ 562949953421311
          · have fd2 : decide (t288 ≤ 562949953421311) = true := decide_eq_true d2
            by_cases d3 : t290.toList = ([] : List UInt8)
            · have e3 : t290.toList.isEmpty = true := List.isEmpty_iff.mpr d3
              have g3 : (t290.toList == ([] : List UInt8)) = true := beq_iff_eq.mpr d3
              simp only [ge_iff_le, d1, d2, d3, if_true, if_false, eq_self, decide_true, decide_false, bne_self_eq_false, Bool.false_eq_true, Bool.bne_true, Bool.bne_false, Bool.not_true, Bool.not_false, Bool.true_bne, Bool.false_bne] at H
              have H' := Aside0.mk H
              clear H
              go_wp2
              go_meet
              case rel => exact ⟨_, _, (by first | rfl | (simp; done) | (simp [*]; done)), H', ⟨by first | omega | exact Nat.le_refl _⟩, ⟨by repeat (first | (with_reducible first | exact HB.out | apply below_alloc | apply pw_below_drewN | apply below_drew1) | exact HB.out)⟩⟩
            · have e3 : t290.toList.isEmpty = false := by cases h_ : t290.toList.isEmpty with | false => rfl | true => exact absurd (List.isEmpty_iff.mp h_) d3
              have g3 : (t290.toList == ([] : List UInt8)) = false := beq_eq_false_iff_ne.mpr d3
              have k3 : (t290.toList != ([] : List UInt8)) = true := bne_iff_ne.mpr d3
              by_cases d4 : t291 = t288
              · subst d4
                by_cases d5 : t292 = (t290.size : Int)
                · subst d5
                  simp only [ge_iff_le, d1, d2, k3, d3, if_true, if_false, eq_self, decide_true, decide_false, bne_self_eq_false, Bool.false_eq_true, Bool.bne_true, Bool.bne_false, Bool.not_true, Bool.not_false, Bool.true_bne, Bool.false_bne] at H
                  have H' := Aside0.mk H
                  clear H
                  go_wp2
                  go_meet
                  case rel => exact ⟨_, _, (by first | rfl | (simp; done) | (simp [*]; done)), H', ⟨by first | omega | exact Nat.le_refl _⟩, ⟨by repeat (first | (with_reducible first | exact HB.out | apply below_alloc | apply pw_below_drewN | apply below_drew1) | exact HB.out)⟩⟩
                · have g5 : (t292 == (t290.size : Int)) = false := beq_eq_false_iff_ne.mpr d5
                  have k5 : (t292 != (t290.size : Int)) = true := bne_iff_ne.mpr d5
                  simp only [ge_iff_le, d1, d2, k3, d3, k5, if_true, if_false, eq_self, decide_true, decide_false, bne_self_eq_false, Bool.false_eq_true, Bool.bne_true, Bool.bne_false, Bool.not_true, Bool.not_false, Bool.true_bne, Bool.false_bne] at H
                  have H' := Aside0.mk H
                  clear H
                  go_wp2
                  go_meet
                  case rel => exact ⟨_, _, (by first | rfl | (simp; done) | (simp [*]; done)), H', ⟨by first | omega | exact Nat.le_refl _⟩, ⟨by repeat (first | (with_reducible first | exact HB.out | apply below_alloc | apply pw_below_drewN | apply below_drew1) | exact HB.out)⟩⟩
              · have g4 : (t291 == t288) = false := beq_eq_false_iff_ne.mpr d4
                have k4 : (t291 != t288) = true := bne_iff_ne.mpr d4
                simp only [ge_iff_le, d1, d2, k3, d3, d4, if_true, if_false, eq_self, decide_true, decide_false, bne_self_eq_false, Bool.false_eq_true, Bool.bne_true, Bool.bne_false, Bool.not_true, Bool.not_false, Bool.true_bne, Bool.false_bne] at H
                have H' := Aside0.mk H
                clear H
                go_wp2
                go_meet
                case rel => exact ⟨_, _, (by first | rfl | (simp; done) | (simp [*]; done)), H', ⟨by first | omega | exact Nat.le_refl _⟩, ⟨by repeat (first | (with_reducible first | exact HB.out | apply below_alloc | apply pw_below_drewN | apply below_drew1) | exact HB.out)⟩⟩
          · have fd2 : decide (t288 ≤ 562949953421311) = false := decide_eq_false d2
            by_cases d3 : t290.toList = ([] : List UInt8)
            · have e3 : t290.toList.isEmpty = true := List.isEmpty_iff.mpr d3
              have g3 : (t290.toList == ([] : List UInt8)) = true := beq_iff_eq.mpr d3
              simp only [ge_iff_le, d1, d2, d3, if_true, if_false, eq_self, decide_true, decide_false, bne_self_eq_false, Bool.false_eq_true, Bool.bne_true, Bool.bne_false, Bool.not_true, Bool.not_false, Bool.true_bne, Bool.false_bne] at H
              have H' := Aside0.mk H
              clear H
              go_wp2
              go_meet
              case rel => exact ⟨_, _, (by first | rfl | (simp; done) | (simp [*]; done)), H', ⟨by first | omega | exact Nat.le_refl _⟩, ⟨by repeat (first | (with_reducible first | exact HB.out | apply below_alloc | apply pw_below_drewN | apply below_drew1) | exact HB.out)⟩⟩
            · have e3 : t290.toList.isEmpty = false := by cases h_ : t290.toList.isEmpty with | false => rfl | true => exact absurd (List.isEmpty_iff.mp h_) d3
              have g3 : (t290.toList == ([] : List UInt8)) = false := beq_eq_false_iff_ne.mpr d3
              have k3 : (t290.toList != ([] : List UInt8)) = true := bne_iff_ne.mpr d3
              by_cases d4 : t291 = t288
              · subst d4
                by_cases d5 : t292 = (t290.size : Int)
                · subst d5
                  simp only [ge_iff_le, d1, d2, k3, d3, if_true, if_false, eq_self, decide_true, decide_false, bne_self_eq_false, Bool.false_eq_true, Bool.bne_true, Bool.bne_false, Bool.not_true, Bool.not_false, Bool.true_bne, Bool.false_bne] at H
                  have H' := Aside0.mk H
                  clear H
                  go_wp2
                  go_meet
                  case rel => exact ⟨_, _, (by first | rfl | (simp; done) | (simp [*]; done)), H', ⟨by first | omega | exact Nat.le_refl _⟩, ⟨by repeat (first | (with_reducible first | exact HB.out | apply below_alloc | apply pw_below_drewN | apply below_drew1) | exact HB.out)⟩⟩
                · have g5 : (t292 == (t290.size : Int)) = false := beq_eq_false_iff_ne.mpr d5
                  have k5 : (t292 != (t290.size : Int)) = true := bne_iff_ne.mpr d5
                  simp only [ge_iff_le, d1, d2, k3, d3, k5, if_true, if_false, eq_self, decide_true, decide_false, bne_self_eq_false, Bool.false_eq_true, Bool.bne_true, Bool.bne_false, Bool.not_true, Bool.not_false, Bool.true_bne, Bool.false_bne] at H
                  have H' := Aside0.mk H
                  clear H
                  go_wp2
                  go_meet
                  case rel => exact ⟨_, _, (by first | rfl | (simp; done) | (simp [*]; done)), H', ⟨by first | omega | exact Nat.le_refl _⟩, ⟨by repeat (first | (with_reducible first | exact HB.out | apply below_alloc | apply pw_below_drewN | apply below_drew1) | exact HB.out)⟩⟩
              · have g4 : (t291 == t288) = false := beq_eq_false_iff_ne.mpr d4
                have k4 : (t291 != t288) = true := bne_iff_ne.mpr d4
                simp only [ge_iff_le, d1, d2, k3, d3, d4, if_true, if_false, eq_self, decide_true, decide_false, bne_self_eq_false, Bool.false_eq_true, Bool.bne_true, Bool.bne_false, Bool.not_true, Bool.not_false, Bool.true_bne, Bool.false_bne] at H
                have H' := Aside0.mk H
                clear H
                go_wp2
                go_meet
                case rel => exact ⟨_, _, (by first | rfl | (simp; done) | (simp [*]; done)), H', ⟨by first | omega | exact Nat.le_refl _⟩, ⟨by repeat (first | (with_reducible first | exact HB.out | apply below_alloc | apply pw_below_drewN | apply below_drew1) | exact HB.out)⟩⟩
        · have fd1 : decide (0 ≤ t288) = false := decide_eq_false d1
          by_cases d2 : t288 ≤ 562949953421311
          · have fd2 : decide (t288 ≤ 562949953421311) = true := decide_eq_true d2
            by_cases d3 : t290.toList = ([] : List UInt8)
            · have e3 : t290.toList.isEmpty = true := List.isEmpty_iff.mpr d3
              have g3 : (t290.toList == ([] : List UInt8)) = true := beq_iff_eq.mpr d3
              simp only [ge_iff_le, d1, d2, d3, if_true, if_false, eq_self, decide_true, decide_false, bne_self_eq_false, Bool.false_eq_true, Bool.bne_true, Bool.bne_false, Bool.not_true, Bool.not_false, Bool.true_bne, Bool.false_bne] at H
              have H' := Aside0.mk H
              clear H
              go_wp2
              go_meet
              case rel => exact ⟨_, _, (by first | rfl | (simp; done) | (simp [*]; done)), H', ⟨by first | omega | exact Nat.le_refl _⟩, ⟨by repeat (first | (with_reducible first | exact HB.out | apply below_alloc | apply pw_below_drewN | apply below_drew1) | exact HB.out)⟩⟩
            · have e3 : t290.toList.isEmpty = false := by cases h_ : t290.toList.isEmpty with | false => rfl | true => exact absurd (List.isEmpty_iff.mp h_) d3
              have g3 : (t290.toList == ([] : List UInt8)) = false := beq_eq_false_iff_ne.mpr d3
              have k3 : (t290.toList != ([] : List UInt8)) = true := bne_iff_ne.mpr d3
              by_cases d4 : t291 = t288
              · subst d4
                by_cases d5 : t292 = (t290.size : Int)
                · subst d5
                  simp only [ge_iff_le, d1, d2, k3, d3, if_true, if_false, eq_self, decide_true, decide_false, bne_self_eq_false, Bool.false_eq_true, Bool.bne_true, Bool.bne_false, Bool.not_true, Bool.not_false, Bool.true_bne, Bool.false_bne] at H
                  have H' := Aside0.mk H
                  clear H
                  go_wp2
                  go_meet
                  case rel => exact ⟨_, _, (by first | rfl | (simp; done) | (simp [*]; done)), H', ⟨by first | omega | exact Nat.le_refl _⟩, ⟨by repeat (first | (with_reducible first | exact HB.out | apply below_alloc | apply pw_below_drewN | apply below_drew1) | exact HB.out)⟩⟩
                · have g5 : (t292 == (t290.size : Int)) = false := beq_eq_false_iff_ne.mpr d5
                  have k5 : (t292 != (t290.size : Int)) = true := bne_iff_ne.mpr d5
                  simp only [ge_iff_le, d1, d2, k3, d3, k5, if_true, if_false, eq_self, decide_true, decide_false, bne_self_eq_false, Bool.false_eq_true, Bool.bne_true, Bool.bne_false, Bool.not_true, Bool.not_false, Bool.true_bne, Bool.false_bne] at H
                  have H' := Aside0.mk H
                  clear H
                  go_wp2
                  go_meet
                  case rel => exact ⟨_, _, (by first | rfl | (simp; done) | (simp [*]; done)), H', ⟨by first | omega | exact Nat.le_refl _⟩, ⟨by repeat (first | (with_reducible first | exact HB.out | apply below_alloc | apply pw_below_drewN | apply below_drew1) | exact HB.out)⟩⟩
              · have g4 : (t291 == t288) = false := beq_eq_false_iff_ne.mpr d4
                have k4 : (t291 != t288) = true := bne_iff_ne.mpr d4
                simp only [ge_iff_le, d1, d2, k3, d3, d4, if_true, if_false, eq_self, decide_true, decide_false, bne_self_eq_false, Bool.false_eq_true, Bool.bne_true, Bool.bne_false, Bool.not_true, Bool.not_false, Bool.true_bne, Bool.false_bne] at H
                have H' := Aside0.mk H
                clear H
                go_wp2
                go_meet
                case rel => exact ⟨_, _, (by first | rfl | (simp; done) | (simp [*]; done)), H', ⟨by first | omega | exact Nat.le_refl _⟩, ⟨by repeat (first | (with_reducible first | exact HB.out | apply below_alloc | apply pw_below_drewN | apply below_drew1) | exact HB.out)⟩⟩
          · have fd2 : decide (t288 ≤ 562949953421311) = false := decide_eq_false d2
            by_cases d3 : t290.toList = ([] : List UInt8)
            · have e3 : t290.toList.isEmpty = true := List.isEmpty_iff.mpr d3
              have g3 : (t290.toList == ([] : List UInt8)) = true := beq_iff_eq.mpr d3
              simp only [ge_iff_le, d1, d2, d3, if_true, if_false, eq_self, decide_true, decide_false, bne_self_eq_false, Bool.false_eq_true, Bool.bne_true, Bool.bne_false, Bool.not_true, Bool.not_false, Bool.true_bne, Bool.false_bne] at H
              have H' := Aside0.mk H
              clear H
              go_wp2
              go_meet
              case rel => exact ⟨_, _, (by first | rfl | (simp; done) | (simp [*]; done)), H', ⟨by first | omega | exact Nat.le_refl _⟩, ⟨by repeat (first | (with_reducible first | exact HB.out | apply below_alloc | apply pw_below_drewN | apply below_drew1) | exact HB.out)⟩⟩
            · have e3 : t290.toList.isEmpty = false := by cases h_ : t290.toList.isEmpty with | false => rfl | true => exact absurd (List.isEmpty_iff.mp h_) d3
              have g3 : (t290.toList == ([] : List UInt8)) = false := beq_eq_false_iff_ne.mpr d3
              have k3 : (t290.toList != ([] : List UInt8)) = true := bne_iff_ne.mpr d3
              by_cases d4 : t291 = t288
              · subst d4
                by_cases d5 : t292 = (t290.size : Int)
                · subst d5
                  simp only [ge_iff_le, d1, d2, k3, d3, if_true, if_false, eq_self, decide_true, decide_false, bne_self_eq_false, Bool.false_eq_true, Bool.bne_true, Bool.bne_false, Bool.not_true, Bool.not_false, Bool.true_bne, Bool.false_bne] at H
                  have H' := Aside0.mk H
                  clear H
                  go_wp2
                  go_meet
                  case rel => exact ⟨_, _, (by first | rfl | (simp; done) | (simp [*]; done)), H', ⟨by first | omega | exact Nat.le_refl _⟩, ⟨by repeat (first | (with_reducible first | exact HB.out | apply below_alloc | apply pw_below_drewN | apply below_drew1) | exact HB.out)⟩⟩
                · have g5 : (t292 == (t290.size : Int)) = false := beq_eq_false_iff_ne.mpr d5
                  have k5 : (t292 != (t290.size : Int)) = true := bne_iff_ne.mpr d5
                  simp only [ge_iff_le, d1, d2, k3, d3, k5, if_true, if_false, eq_self, decide_true, decide_false, bne_self_eq_false, Bool.false_eq_true, Bool.bne_true, Bool.bne_false, Bool.not_true, Bool.not_false, Bool.true_bne, Bool.false_bne] at H
                  have H' := Aside0.mk H
                  clear H
                  go_wp2
                  go_meet
                  case rel => exact ⟨_, _, (by first | rfl | (simp; done) | (simp [*]; done)), H', ⟨by first | omega | exact Nat.le_refl _⟩, ⟨by repeat (first | (with_reducible first | exact HB.out | apply below_alloc | apply pw_below_drewN | apply below_drew1) | exact HB.out)⟩⟩
              · have g4 : (t291 == t288) = false := beq_eq_false_iff_ne.mpr d4
                have k4 : (t291 != t288) = true := bne_iff_ne.mpr d4
                simp only [ge_iff_le, d1, d2, k3, d3, d4, if_true, if_false, eq_self, decide_true, decide_false, bne_self_eq_false, Bool.false_eq_true, Bool.bne_true, Bool.bne_false, Bool.not_true, Bool.not_false, Bool.true_bne, Bool.false_bne] at H
                have H' := Aside0.mk H
                clear H
                go_wp2
                go_meet
                case rel => exact ⟨_, _, (by first | rfl | (simp; done) | (simp [*]; done)), H', ⟨by first | omega | exact Nat.le_refl _⟩, ⟨by repeat (first | (with_reducible first | exact HB.out | apply below_alloc | apply pw_below_drewN | apply below_drew1) | exact HB.out)⟩⟩
      case rest =>
        clear HC9
        try clear c1
        try clear c2
        try clear p2
        try clear c3
        try clear c5
        try clear c7
        try clear c7b0
        try clear c7b1
        try clear c7b2
        try clear c14
        try clear c14b0
        try clear c15
        try clear c15b0
        try clear c15b1
        try clear c15b2
        try clear c16
        try clear c16b0
        try clear c16b1
        try clear c17
        try clear c17b0
        try clear c17b1
        try clear c18
        try clear c18b0
        try clear c18b1
        try clear c18b2
        try clear c19
        try clear c19b0
        try clear c19b1
        try clear c20
        try clear c20b0
        try clear c20b1
        obtain ⟨kq, x55_8, rfl, HA, HJ8, HB⟩ := hcut
        cases kq with
        | zero => exact absurd HA.out (by simp [laws_FnNumbers.j0])
        | succ kj8 =>
          have H := HA.out
          clear HA
          simp only [laws_FnNumbers.j0] at H
          by_cases c21 : x55_8 = true
          · subst c21
            have H1 : (some false) = some r := by rw [if_pos rfl] at H; exact H
            clear H
            have H := H1
            clear H1
            obtain rfl := Option.some.inj H
            go_wp2
            go_ret
            exact ⟨by first | rfl | (simp [errW_none, errW_some] <;> rfl) | (simp [*, errW_none, errW_some] <;> rfl), by repeat (first | (with_reducible first | exact HB.out | apply below_alloc | apply pw_below_drewN | apply below_drew1) | exact HB.out)⟩
          · replace c21 := Bool.eq_false_iff.mpr c21
            subst c21
            have H1 : ((impl_Fixed.f kj8 t288 7).bind fun t293 => (if t293.size + t289.size ≤ 9223372036854775807 then ((impl_ReadFixed.f kj8 (t293 ++ t289) 7).bind fun bt294 => (if t293.toList = ([] : List UInt8) then (if t288 < 0 then (laws_FnNumbers.j1 kj8 l0 t288 t289 ((t293.toList == ([] : List UInt8)) != true)) else (laws_FnNumbers.j1 kj8 l0 t288 t289 ((t293.toList == ([] : List UInt8)) != (decide (t288 ≥ 72057594037927936))))) else (if bt294.2 = true then (if bt294.1 = t288 then (if (t293.size : Int) = 7 then (if t288 < 0 then (laws_FnNumbers.j1 kj8 l0 t288 t289 ((t293.toList == ([] : List UInt8)) != true)) else (laws_FnNumbers.j1 kj8 l0 t288 t289 ((t293.toList == ([] : List UInt8)) != (decide (t288 ≥ 72057594037927936))))) else (laws_FnNumbers.j1 kj8 l0 t288 t289 true)) else (laws_FnNumbers.j1 kj8 l0 t288 t289 true)) else (laws_FnNumbers.j1 kj8 l0 t288 t289 true)))) else (none))) = some r := by rw [if_neg (show ¬ (false = true) by decide)] at H; exact H
            clear H
            have H := H1
            clear H1
            replace H := Option.bind_eq_some_iff.mp H
            obtain ⟨t293, A220, H⟩ := H
            replace H : (if t293.size + t289.size ≤ 9223372036854775807 then ((impl_ReadFixed.f kj8 (t293 ++ t289) 7).bind fun bt294 => (if t293.toList = ([] : List UInt8) then (if t288 < 0 then (laws_FnNumbers.j1 kj8 l0 t288 t289 ((t293.toList == ([] : List UInt8)) != true)) else (laws_FnNumbers.j1 kj8 l0 t288 t289 ((t293.toList == ([] : List UInt8)) != (decide (t288 ≥ 72057594037927936))))) else (if bt294.2 = true then (if bt294.1 = t288 then (if (t293.size : Int) = 7 then (if t288 < 0 then (laws_FnNumbers.j1 kj8 l0 t288 t289 ((t293.toList == ([] : List UInt8)) != true)) else (laws_FnNumbers.j1 kj8 l0 t288 t289 ((t293.toList == ([] : List UInt8)) != (decide (t288 ≥ 72057594037927936))))) else (laws_FnNumbers.j1 kj8 l0 t288 t289 true)) else (laws_FnNumbers.j1 kj8 l0 t288 t289 true)) else (laws_FnNumbers.j1 kj8 l0 t288 t289 true)))) else (none)) = some r := H
            have A22 := Aside0.mk A220
            clear A220
            by_cases c23 : t293.size + t289.size ≤ 9223372036854775807
            · rw [if_pos c23] at H
              have c23b0 := eq_true c23
              have c23b1 : decide (t293.size + t289.size ≤ 9223372036854775807) = true := decide_eq_true c23
              try have c23b2 : (9223372036854775807 < t293.size + t289.size) = False := eq_false (Nat.not_lt.2 c23)
              replace H := Option.bind_eq_some_iff.mp H
              obtain ⟨⟨t294, t295⟩, A240, H⟩ := H
              replace H : (if t293.toList = ([] : List UInt8) then (if t288 < 0 then (laws_FnNumbers.j1 kj8 l0 t288 t289 ((t293.toList == ([] : List UInt8)) != true)) else (laws_FnNumbers.j1 kj8 l0 t288 t289 ((t293.toList == ([] : List UInt8)) != (decide (t288 ≥ 72057594037927936))))) else (if t295 = true then (if t294 = t288 then (if (t293.size : Int) = 7 then (if t288 < 0 then (laws_FnNumbers.j1 kj8 l0 t288 t289 ((t293.toList == ([] : List UInt8)) != true)) else (laws_FnNumbers.j1 kj8 l0 t288 t289 ((t293.toList == ([] : List UInt8)) != (decide (t288 ≥ 72057594037927936))))) else (laws_FnNumbers.j1 kj8 l0 t288 t289 true)) else (laws_FnNumbers.j1 kj8 l0 t288 t289 true)) else (laws_FnNumbers.j1 kj8 l0 t288 t289 true))) = some r := H
              have A24 := Aside0.mk A240
              clear A240
              have HC25 := Aside0.mk H
              clear H
              go_upto_region 11 with (first | ((with_reducible refine gate_callee (f := 55) rfl ?_); refine goesL_ (some 57) rfl rfl Try.func55 (by kernel_rfl) rfl #[.int .i64 t288, .int .i64 7] rfl (by (try simp only [List.map_toArray, List.map_cons, List.map_nil]); first | done | rfl | (simp only [List.length_drop, List.length_take]; rfl)) ?_; (with_reducible refine (impl_Fixed.calls kj8 t288 7 t293 _ A22.out).mono ?_); rintro e w26 ⟨rfl, hb⟩; refine ⟨_, rfl, ?_⟩; have n0_ := Aside0.mk (below_step (by repeat (first | (with_reducible first | exact HB.out | apply below_alloc | apply pw_below_drewN | apply below_drew1) | exact HB.out)) hb); clear HB; have HB := n0_; clear n0_; (try clear hb); (try clear hb2); (try clear hk); (try clear hi)) | ((with_reducible refine gate_callee (f := 56) rfl ?_); refine goesL_ (some 62) rfl rfl Try.func56 (by kernel_rfl) rfl #[.string (t293 ++ t289), .int .i64 7] rfl (by (try simp only [List.map_toArray, List.map_cons, List.map_nil]); first | done | rfl | (simp only [List.length_drop, List.length_take]; rfl)) ?_; (with_reducible refine (impl_ReadFixed.calls kj8 (t293 ++ t289) 7 t294 t295 _ A24.out).mono ?_); rintro e w' ⟨rfl, ⟨nd, rfl⟩⟩; refine ⟨_, rfl, ?_⟩))
              (try simp only [Act.put, List.setIfInBounds_toArray, List.set_cons_zero, List.set_cons_succ])
              go_cut [91] (fun v91 wc => ∃ (kq : Nat) (x91_24 : Bool), v91 = .bool x91_24 ∧ Aside0 (laws_FnNumbers.j1 kq l0 t288 t289 x91_24 = some r) ∧ Aside0 (kq ≤ kj8) ∧ Aside0 (Below w.heap.size w wc))
              case first =>
                have H := HC25.out
                clear HC25
                by_cases c27 : t293.toList = ([] : List UInt8)
                · rw [if_pos c27] at H
                  have c27b0 : (t293.toList == ([] : List UInt8)) = true := beq_iff_eq.mpr c27
                  have c27e : t293.toList.isEmpty = true := List.isEmpty_iff.mpr c27
                  have c27b1 : (t293.toList != ([] : List UInt8)) = false := bne_eq_false_iff_eq.mpr c27
                  clear c27
                  (first | rw [c27b0] | rw [c27e] | (simp only [i64_w, i32_w]; rw [c27b0]) | skip)
                  by_cases c28 : t288 < 0
                  · rw [if_pos c28] at H
                    have c28b0 : decide (t288 < 0) = true := decide_eq_true c28
                    clear c28
                    have H' := Aside0.mk H
                    clear H
                    go_wp2
                    go_meet
                    case rel => exact ⟨_, (((t293.toList == ([] : List UInt8)) != true)), (by first | rfl | (simp; done) | (simp [*]; done)), H', ⟨by have := HJ8.out; first | omega | exact Nat.le_refl _⟩, ⟨by repeat (first | (with_reducible first | exact HB.out | apply below_alloc | apply pw_below_drewN | apply below_drew1) | exact HB.out)⟩⟩
                  · rw [if_neg c28] at H
                    have c28b0 : decide (t288 < 0) = false := decide_eq_false c28
                    clear c28
                    have H' := Aside0.mk H
                    clear H
                    go_wp2
                    go_meet
                    case rel => exact ⟨_, (((t293.toList == ([] : List UInt8)) != (decide (t288 ≥ 72057594037927936)))), (by first | rfl | (simp; done) | (simp [*]; done)), H', ⟨by have := HJ8.out; first | omega | exact Nat.le_refl _⟩, ⟨by repeat (first | (with_reducible first | exact HB.out | apply below_alloc | apply pw_below_drewN | apply below_drew1) | exact HB.out)⟩⟩
                · rw [if_neg c27] at H
                  have c27b0 : (t293.toList == ([] : List UInt8)) = false := beq_eq_false_iff_ne.mpr c27
                  have c27e : t293.toList.isEmpty = false := by cases h_ : t293.toList.isEmpty with | false => rfl | true => exact absurd (List.isEmpty_iff.mp h_) c27
                  have c27b1 : (t293.toList != ([] : List UInt8)) = true := bne_iff_ne.mpr c27
                  (first | rw [c27b0] | rw [c27e] | (simp only [i64_w, i32_w]; rw [c27b0]) | skip)
                  by_cases c29 : t295 = true
                  · subst c29
                    have H1 : (if t294 = t288 then (if (t293.size : Int) = 7 then (if t288 < 0 then (laws_FnNumbers.j1 kj8 l0 t288 t289 ((t293.toList == ([] : List UInt8)) != true)) else (laws_FnNumbers.j1 kj8 l0 t288 t289 ((t293.toList == ([] : List UInt8)) != (decide (t288 ≥ 72057594037927936))))) else (laws_FnNumbers.j1 kj8 l0 t288 t289 true)) else (laws_FnNumbers.j1 kj8 l0 t288 t289 true)) = some r := by rw [if_pos rfl] at H; exact H
                    clear H
                    have H := H1
                    clear H1
                    by_cases c30 : t294 = t288
                    · rw [if_pos c30] at H
                      have c30b0 : (t294 == t288) = true := beq_iff_eq.mpr c30
                      have c30b1 : (t294 != t288) = false := bne_eq_false_iff_eq.mpr c30
                      clear c30
                      by_cases c31 : (t293.size : Int) = 7
                      · rw [if_pos c31] at H
                        have c31b0 : ((t293.size : Int) == 7) = true := beq_iff_eq.mpr c31
                        have c31b1 : ((t293.size : Int) != 7) = false := bne_eq_false_iff_eq.mpr c31
                        clear c31
                        by_cases c32 : t288 < 0
                        · rw [if_pos c32] at H
                          have c32b0 : decide (t288 < 0) = true := decide_eq_true c32
                          clear c32
                          have H' := Aside0.mk H
                          clear H
                          go_wp2
                          go_meet
                          case rel => exact ⟨_, (((t293.toList == ([] : List UInt8)) != true)), (by first | rfl | (simp; done) | (simp [*]; done)), H', ⟨by have := HJ8.out; first | omega | exact Nat.le_refl _⟩, ⟨by repeat (first | (with_reducible first | exact HB.out | apply below_alloc | apply pw_below_drewN | apply below_drew1) | exact HB.out)⟩⟩
                        · rw [if_neg c32] at H
                          have c32b0 : decide (t288 < 0) = false := decide_eq_false c32
                          clear c32
                          have H' := Aside0.mk H
                          clear H
                          go_wp2
                          go_meet
                          case rel => exact ⟨_, (((t293.toList == ([] : List UInt8)) != (decide (t288 ≥ 72057594037927936)))), (by first | rfl | (simp; done) | (simp [*]; done)), H', ⟨by have := HJ8.out; first | omega | exact Nat.le_refl _⟩, ⟨by repeat (first | (with_reducible first | exact HB.out | apply below_alloc | apply pw_below_drewN | apply below_drew1) | exact HB.out)⟩⟩
                      · rw [if_neg c31] at H
                        have c31b0 : ((t293.size : Int) == 7) = false := beq_eq_false_iff_ne.mpr c31
                        have c31b1 : ((t293.size : Int) != 7) = true := bne_iff_ne.mpr c31
                        have H' := Aside0.mk H
                        clear H
                        go_wp2
                        go_meet
                        case rel => exact ⟨_, (true), (by first | rfl | (simp; done) | (simp [*]; done)), H', ⟨by have := HJ8.out; first | omega | exact Nat.le_refl _⟩, ⟨by repeat (first | (with_reducible first | exact HB.out | apply below_alloc | apply pw_below_drewN | apply below_drew1) | exact HB.out)⟩⟩
                    · rw [if_neg c30] at H
                      have c30b0 : (t294 == t288) = false := beq_eq_false_iff_ne.mpr c30
                      have c30b1 : (t294 != t288) = true := bne_iff_ne.mpr c30
                      have H' := Aside0.mk H
                      clear H
                      go_wp2
                      go_meet
                      case rel => exact ⟨_, (true), (by first | rfl | (simp; done) | (simp [*]; done)), H', ⟨by have := HJ8.out; first | omega | exact Nat.le_refl _⟩, ⟨by repeat (first | (with_reducible first | exact HB.out | apply below_alloc | apply pw_below_drewN | apply below_drew1) | exact HB.out)⟩⟩
                  · replace c29 := Bool.eq_false_iff.mpr c29
                    subst c29
                    have H1 : (laws_FnNumbers.j1 kj8 l0 t288 t289 true) = some r := by rw [if_neg (show ¬ (false = true) by decide)] at H; exact H
                    clear H
                    have H := H1
                    clear H1
                    have H' := Aside0.mk H
                    clear H
                    go_wp2
                    go_meet
                    case rel => exact ⟨_, (true), (by first | rfl | (simp; done) | (simp [*]; done)), H', ⟨by have := HJ8.out; first | omega | exact Nat.le_refl _⟩, ⟨by repeat (first | (with_reducible first | exact HB.out | apply below_alloc | apply pw_below_drewN | apply below_drew1) | exact HB.out)⟩⟩
              case rest =>
                clear HC25
                try clear c1
                try clear c2
                try clear p2
                try clear c3
                try clear c5
                try clear c7
                try clear c7b0
                try clear c7b1
                try clear c7b2
                try clear c14
                try clear c14b0
                try clear c15
                try clear c15b0
                try clear c15b1
                try clear c15b2
                try clear c16
                try clear c16b0
                try clear c16b1
                try clear c17
                try clear c17b0
                try clear c17b1
                try clear c18
                try clear c18b0
                try clear c18b1
                try clear c18b2
                try clear c19
                try clear c19b0
                try clear c19b1
                try clear c20
                try clear c20b0
                try clear c20b1
                try clear c21
                try clear c23
                try clear c23b0
                try clear c23b1
                try clear c23b2
                try clear c27
                try clear c27b0
                try clear c27b1
                try clear c28
                try clear c28b0
                try clear c29
                try clear c30
                try clear c30b0
                try clear c30b1
                try clear c31
                try clear c31b0
                try clear c31b1
                try clear c32
                try clear c32b0
                try clear p2
                obtain ⟨kq, x91_24, rfl, HA, HJ24, HB⟩ := hcut
                cases kq with
                | zero => exact absurd HA.out (by simp [laws_FnNumbers.j1])
                | succ kj24 =>
                  have H := HA.out
                  clear HA
                  simp only [laws_FnNumbers.j1] at H
                  by_cases c33 : x91_24 = true
                  · subst c33
                    have H1 : (some false) = some r := by rw [if_pos rfl] at H; exact H
                    clear H
                    have H := H1
                    clear H1
                    obtain rfl := Option.some.inj H
                    go_wp2
                    go_ret
                    exact ⟨by first | rfl | (simp [errW_none, errW_some] <;> rfl) | (simp [*, errW_none, errW_some] <;> rfl), by repeat (first | (with_reducible first | exact HB.out | apply below_alloc | apply pw_below_drewN | apply below_drew1) | exact HB.out)⟩
                  · replace c33 := Bool.eq_false_iff.mpr c33
                    subst c33
                    have H1 : ((impl_Dec.f kj24 t288).bind fun t296 => ((impl_ReadDec.f kj24 t296).bind fun bt297 => (if t288 > (-1000000000) then (if (bt297.2 != (decide (t288 < 1000000000))) = true then (laws_FnNumbers.j2 kj24 l0 t289 true) else (if bt297.2 = true then (laws_FnNumbers.j2 kj24 l0 t289 (bt297.1 != t288)) else (laws_FnNumbers.j2 kj24 l0 t289 false))) else (if (bt297.2 != false) = true then (laws_FnNumbers.j2 kj24 l0 t289 true) else (if bt297.2 = true then (laws_FnNumbers.j2 kj24 l0 t289 (bt297.1 != t288)) else (laws_FnNumbers.j2 kj24 l0 t289 false)))))) = some r := by rw [if_neg (show ¬ (false = true) by decide)] at H; exact H
                    clear H
                    have H := H1
                    clear H1
                    replace H := Option.bind_eq_some_iff.mp H
                    obtain ⟨t296, A340, H⟩ := H
                    replace H : ((impl_ReadDec.f kj24 t296).bind fun bt297 => (if t288 > (-1000000000) then (if (bt297.2 != (decide (t288 < 1000000000))) = true then (laws_FnNumbers.j2 kj24 l0 t289 true) else (if bt297.2 = true then (laws_FnNumbers.j2 kj24 l0 t289 (bt297.1 != t288)) else (laws_FnNumbers.j2 kj24 l0 t289 false))) else (if (bt297.2 != false) = true then (laws_FnNumbers.j2 kj24 l0 t289 true) else (if bt297.2 = true then (laws_FnNumbers.j2 kj24 l0 t289 (bt297.1 != t288)) else (laws_FnNumbers.j2 kj24 l0 t289 false))))) = some r := H
                    have A34 := Aside0.mk A340
                    clear A340
                    replace H := Option.bind_eq_some_iff.mp H
                    obtain ⟨⟨t297, t298⟩, A350, H⟩ := H
                    replace H : (if t288 > (-1000000000) then (if (t298 != (decide (t288 < 1000000000))) = true then (laws_FnNumbers.j2 kj24 l0 t289 true) else (if t298 = true then (laws_FnNumbers.j2 kj24 l0 t289 (t297 != t288)) else (laws_FnNumbers.j2 kj24 l0 t289 false))) else (if (t298 != false) = true then (laws_FnNumbers.j2 kj24 l0 t289 true) else (if t298 = true then (laws_FnNumbers.j2 kj24 l0 t289 (t297 != t288)) else (laws_FnNumbers.j2 kj24 l0 t289 false)))) = some r := H
                    have A35 := Aside0.mk A350
                    clear A350
                    have HC36 := Aside0.mk H
                    clear H
                    go_upto_region 14 with (first | ((with_reducible refine gate_callee (f := 58) rfl ?_); refine goesL_ (some 94) rfl rfl Try.func58 (by kernel_rfl) rfl #[.int .i64 t288] rfl (by (try simp only [List.map_toArray, List.map_cons, List.map_nil]); first | done | rfl | (simp only [List.length_drop, List.length_take]; rfl)) ?_; (with_reducible refine (impl_Dec.calls kj24 t288 t296 _ A34.out).mono ?_); rintro e w37 ⟨rfl, hb⟩; refine ⟨_, rfl, ?_⟩; have n0_ := Aside0.mk (below_step (by repeat (first | (with_reducible first | exact HB.out | apply below_alloc | apply pw_below_drewN | apply below_drew1) | exact HB.out)) hb); clear HB; have HB := n0_; clear n0_; (try clear hb); (try clear hb2); (try clear hk); (try clear hi)) | ((with_reducible refine gate_callee (f := 57) rfl ?_); refine goesL_ (some 95) rfl rfl Try.func57 (by kernel_rfl) rfl #[.string t296] rfl (by (try simp only [List.map_toArray, List.map_cons, List.map_nil]); first | done | rfl | (simp only [List.length_drop, List.length_take]; rfl)) ?_; (with_reducible refine (impl_ReadDec.calls kj24 t296 t297 t298 _ A35.out).mono ?_); rintro e w38 ⟨rfl, hb⟩; refine ⟨_, rfl, ?_⟩; have n0_ := Aside0.mk (below_step (by repeat (first | (with_reducible first | exact HB.out | apply below_alloc | apply pw_below_drewN | apply below_drew1) | exact HB.out)) hb); clear HB; have HB := n0_; clear n0_; (try clear hb); (try clear hb2); (try clear hk); (try clear hi)))
                    (try simp only [Act.put, List.setIfInBounds_toArray, List.set_cons_zero, List.set_cons_succ])
                    go_cut [113] (fun v113 wc => ∃ (kq : Nat) (x113_35 : Bool), v113 = .bool x113_35 ∧ Aside0 (laws_FnNumbers.j2 kq l0 t289 x113_35 = some r) ∧ Aside0 (kq ≤ kj24) ∧ Aside0 (Below w.heap.size w wc))
                    case first =>
                      have H := HC36.out
                      clear HC36
                      by_cases c39 : t288 > (-1000000000)
                      · rw [if_pos c39] at H
                        have c39b0 : decide ((-1000000000) < t288) = true := decide_eq_true c39
                        clear c39
                        (first | rw [c39b0] | (simp only [i64_w, i32_w]; rw [c39b0]) | skip)
                        by_cases c40 : (t298 != (decide (t288 < 1000000000))) = true
                        · rw [if_pos c40] at H
                          have c40b0 : (t298 != (decide (t288 < 1000000000))) = true := c40
                          (try (have c40b1 : decide (t298 = (decide (t288 < 1000000000))) = false := by simpa using c40))
                          (try (have c40b2 : (t298 == (decide (t288 < 1000000000))) = false := by simpa using c40))
                          (try (have c40b3 : ¬ (t298 = (decide (t288 < 1000000000))) := by simpa using c40))
                          clear c40
                          have H' := Aside0.mk H
                          clear H
                          go_wp2
                          go_meet
                          case rel => exact ⟨_, (true), (by first | rfl | (simp; done) | (simp [*]; done)), H', ⟨by have := HJ8.out; have := HJ24.out; first | omega | exact Nat.le_refl _⟩, ⟨by repeat (first | (with_reducible first | exact HB.out | apply below_alloc | apply pw_below_drewN | apply below_drew1) | exact HB.out)⟩⟩
                        · rw [if_neg c40] at H
                          have c40b0 : (t298 != (decide (t288 < 1000000000))) = false := by simpa using c40
                          (try (have c40b1 : decide (t298 = (decide (t288 < 1000000000))) = true := by simpa using c40))
                          (try (have c40b2 : (t298 == (decide (t288 < 1000000000))) = true := by simpa using c40))
                          clear c40
                          by_cases c41 : t298 = true
                          · subst c41
                            have H1 : (laws_FnNumbers.j2 kj24 l0 t289 (t297 != t288)) = some r := by rw [if_pos rfl] at H; exact H
                            clear H
                            have H := H1
                            clear H1
                            have H' := Aside0.mk H
                            clear H
                            go_wp2
                            go_meet
                            case rel => exact ⟨_, ((t297 != t288)), (by first | rfl | (simp; done) | (simp [*]; done)), H', ⟨by have := HJ8.out; have := HJ24.out; first | omega | exact Nat.le_refl _⟩, ⟨by repeat (first | (with_reducible first | exact HB.out | apply below_alloc | apply pw_below_drewN | apply below_drew1) | exact HB.out)⟩⟩
                          · replace c41 := Bool.eq_false_iff.mpr c41
                            subst c41
                            have H1 : (laws_FnNumbers.j2 kj24 l0 t289 false) = some r := by rw [if_neg (show ¬ (false = true) by decide)] at H; exact H
                            clear H
                            have H := H1
                            clear H1
                            have H' := Aside0.mk H
                            clear H
                            go_wp2
                            go_meet
                            case rel => exact ⟨_, (false), (by first | rfl | (simp; done) | (simp [*]; done)), H', ⟨by have := HJ8.out; have := HJ24.out; first | omega | exact Nat.le_refl _⟩, ⟨by repeat (first | (with_reducible first | exact HB.out | apply below_alloc | apply pw_below_drewN | apply below_drew1) | exact HB.out)⟩⟩
                      · rw [if_neg c39] at H
                        have c39b0 : decide ((-1000000000) < t288) = false := decide_eq_false c39
                        clear c39
                        (first | rw [c39b0] | (simp only [i64_w, i32_w]; rw [c39b0]) | skip)
                        by_cases c42 : (t298 != false) = true
                        · rw [if_pos c42] at H
                          have c42b0 : (t298 != false) = true := c42
                          (try (have c42b1 : decide (t298 = false) = false := by simpa using c42))
                          (try (have c42b2 : (t298 == false) = false := by simpa using c42))
                          (try (have c42b3 : ¬ (t298 = false) := by simpa using c42))
                          clear c42
                          have H' := Aside0.mk H
                          clear H
                          go_wp2
                          go_meet
                          case rel => exact ⟨_, (true), (by first | rfl | (simp; done) | (simp [*]; done)), H', ⟨by have := HJ8.out; have := HJ24.out; first | omega | exact Nat.le_refl _⟩, ⟨by repeat (first | (with_reducible first | exact HB.out | apply below_alloc | apply pw_below_drewN | apply below_drew1) | exact HB.out)⟩⟩
                        · rw [if_neg c42] at H
                          have c42b0 : (t298 != false) = false := by simpa using c42
                          (try (have c42b1 : decide (t298 = false) = true := by simpa using c42))
                          (try (have c42b2 : (t298 == false) = true := by simpa using c42))
                          clear c42
                          by_cases c43 : t298 = true
                          · subst c43
                            have H1 : (laws_FnNumbers.j2 kj24 l0 t289 (t297 != t288)) = some r := by rw [if_pos rfl] at H; exact H
                            clear H
                            have H := H1
                            clear H1
                            have H' := Aside0.mk H
                            clear H
                            go_wp2
                            go_meet
                            case rel => exact ⟨_, ((t297 != t288)), (by first | rfl | (simp; done) | (simp [*]; done)), H', ⟨by have := HJ8.out; have := HJ24.out; first | omega | exact Nat.le_refl _⟩, ⟨by repeat (first | (with_reducible first | exact HB.out | apply below_alloc | apply pw_below_drewN | apply below_drew1) | exact HB.out)⟩⟩
                          · replace c43 := Bool.eq_false_iff.mpr c43
                            subst c43
                            have H1 : (laws_FnNumbers.j2 kj24 l0 t289 false) = some r := by rw [if_neg (show ¬ (false = true) by decide)] at H; exact H
                            clear H
                            have H := H1
                            clear H1
                            have H' := Aside0.mk H
                            clear H
                            go_wp2
                            go_meet
                            case rel => exact ⟨_, (false), (by first | rfl | (simp; done) | (simp [*]; done)), H', ⟨by have := HJ8.out; have := HJ24.out; first | omega | exact Nat.le_refl _⟩, ⟨by repeat (first | (with_reducible first | exact HB.out | apply below_alloc | apply pw_below_drewN | apply below_drew1) | exact HB.out)⟩⟩
                    case rest =>
                      clear HC36
                      try clear c1
                      try clear c2
                      try clear p2
                      try clear c3
                      try clear c4
                      try clear c5
                      try clear c7
                      try clear c7b0
                      try clear c7b1
                      try clear c7b2
                      try clear c14
                      try clear c14b0
                      try clear c15
                      try clear c15b0
                      try clear c15b1
                      try clear c15b2
                      try clear c16
                      try clear c16b0
                      try clear c16b1
                      try clear c17
                      try clear c17b0
                      try clear c17b1
                      try clear c18
                      try clear c18b0
                      try clear c18b1
                      try clear c18b2
                      try clear c19
                      try clear c19b0
                      try clear c19b1
                      try clear c20
                      try clear c20b0
                      try clear c20b1
                      try clear c21
                      try clear c23
                      try clear c23b0
                      try clear c23b1
                      try clear c23b2
                      try clear c27
                      try clear c27b0
                      try clear c27b1
                      try clear c28
                      try clear c28b0
                      try clear c29
                      try clear c30
                      try clear c30b0
                      try clear c30b1
                      try clear c31
                      try clear c31b0
                      try clear c31b1
                      try clear c32
                      try clear c32b0
                      try clear c33
                      try clear c39
                      try clear c39b0
                      try clear c40
                      try clear c40b0
                      try clear c40b1
                      try clear c40b2
                      try clear c41
                      try clear c42
                      try clear c42b0
                      try clear c42b1
                      try clear c42b2
                      try clear c43
                      try clear p2
                      obtain ⟨kq, x113_35, rfl, HA, HJ35, HB⟩ := hcut
                      cases kq with
                      | zero => exact absurd HA.out (by simp [laws_FnNumbers.j2])
                      | succ kj35 =>
                        have H := HA.out
                        clear HA
                        simp only [laws_FnNumbers.j2] at H
                        by_cases c44 : x113_35 = true
                        · subst c44
                          have H1 : (some false) = some r := by rw [if_pos rfl] at H; exact H
                          clear H
                          have H := H1
                          clear H1
                          obtain rfl := Option.some.inj H
                          go_wp2
                          go_ret
                          exact ⟨by first | rfl | (simp [errW_none, errW_some] <;> rfl) | (simp [*, errW_none, errW_some] <;> rfl), by repeat (first | (with_reducible first | exact HB.out | apply below_alloc | apply pw_below_drewN | apply below_drew1) | exact HB.out)⟩
                        · replace c44 := Bool.eq_false_iff.mpr c44
                          subst c44
                          have H1 : ((impl_Hex.f kj35 t289).bind fun t299 => ((impl_Unhex.f kj35 t299).bind fun bt300 => ((spec_DrawReadVar.f kj35 l0).bind fun t302 => ((impl_ReadVar.f kj35 t302).bind fun bt303 => (if bt300.2 = true then (if bt300.1.toList = t289.toList then (if bt303.2 = 0 then (some true) else ((impl_Var.f kj35 bt303.1).bind fun t305 => ((spec_DrawReadVar.f kj35 l0).bind fun t306 => (if 0 ≤ bt303.2 then (if bt303.2 ≤ (t306.size : Int) then (some (t305.toList == (t306.extract 0 (bt303.2 : Int).toNat).toList)) else (none)) else (none))))) else (some false)) else (some false)))))) = some r := by rw [if_neg (show ¬ (false = true) by decide)] at H; exact H
                          clear H
                          have H := H1
                          clear H1
                          replace H := Option.bind_eq_some_iff.mp H
                          obtain ⟨t299, A450, H⟩ := H
                          replace H : ((impl_Unhex.f kj35 t299).bind fun bt300 => ((spec_DrawReadVar.f kj35 l0).bind fun t302 => ((impl_ReadVar.f kj35 t302).bind fun bt303 => (if bt300.2 = true then (if bt300.1.toList = t289.toList then (if bt303.2 = 0 then (some true) else ((impl_Var.f kj35 bt303.1).bind fun t305 => ((spec_DrawReadVar.f kj35 l0).bind fun t306 => (if 0 ≤ bt303.2 then (if bt303.2 ≤ (t306.size : Int) then (some (t305.toList == (t306.extract 0 (bt303.2 : Int).toNat).toList)) else (none)) else (none))))) else (some false)) else (some false))))) = some r := H
                          have A45 := Aside0.mk A450
                          clear A450
                          replace H := Option.bind_eq_some_iff.mp H
                          obtain ⟨⟨t300, t301⟩, A460, H⟩ := H
                          replace H : ((spec_DrawReadVar.f kj35 l0).bind fun t302 => ((impl_ReadVar.f kj35 t302).bind fun bt303 => (if t301 = true then (if t300.toList = t289.toList then (if bt303.2 = 0 then (some true) else ((impl_Var.f kj35 bt303.1).bind fun t305 => ((spec_DrawReadVar.f kj35 l0).bind fun t306 => (if 0 ≤ bt303.2 then (if bt303.2 ≤ (t306.size : Int) then (some (t305.toList == (t306.extract 0 (bt303.2 : Int).toNat).toList)) else (none)) else (none))))) else (some false)) else (some false)))) = some r := H
                          have A46 := Aside0.mk A460
                          clear A460
                          replace H := Option.bind_eq_some_iff.mp H
                          obtain ⟨t302, A470, H⟩ := H
                          replace H : ((impl_ReadVar.f kj35 t302).bind fun bt303 => (if t301 = true then (if t300.toList = t289.toList then (if bt303.2 = 0 then (some true) else ((impl_Var.f kj35 bt303.1).bind fun t305 => ((spec_DrawReadVar.f kj35 l0).bind fun t306 => (if 0 ≤ bt303.2 then (if bt303.2 ≤ (t306.size : Int) then (some (t305.toList == (t306.extract 0 (bt303.2 : Int).toNat).toList)) else (none)) else (none))))) else (some false)) else (some false))) = some r := H
                          have A47 := Aside0.mk A470
                          clear A470
                          replace H := Option.bind_eq_some_iff.mp H
                          obtain ⟨⟨t303, t304⟩, A480, H⟩ := H
                          replace H : (if t301 = true then (if t300.toList = t289.toList then (if t304 = 0 then (some true) else ((impl_Var.f kj35 t303).bind fun t305 => ((spec_DrawReadVar.f kj35 l0).bind fun t306 => (if 0 ≤ t304 then (if t304 ≤ (t306.size : Int) then (some (t305.toList == (t306.extract 0 (t304 : Int).toNat).toList)) else (none)) else (none))))) else (some false)) else (some false)) = some r := H
                          have A48 := Aside0.mk A480
                          clear A480
                          by_cases c49 : t301 = true
                          · subst c49
                            have H1 : (if t300.toList = t289.toList then (if t304 = 0 then (some true) else ((impl_Var.f kj35 t303).bind fun t305 => ((spec_DrawReadVar.f kj35 l0).bind fun t306 => (if 0 ≤ t304 then (if t304 ≤ (t306.size : Int) then (some (t305.toList == (t306.extract 0 (t304 : Int).toNat).toList)) else (none)) else (none))))) else (some false)) = some r := by rw [if_pos rfl] at H; exact H
                            clear H
                            have H := H1
                            clear H1
                            by_cases c50 : t300.toList = t289.toList
                            · rw [if_pos c50] at H
                              have c50b0 : (t300.toList == t289.toList) = true := beq_iff_eq.mpr c50
                              have c50b1 : (t300.toList != t289.toList) = false := bne_eq_false_iff_eq.mpr c50
                              clear c50
                              by_cases c51 : t304 = 0
                              · rw [if_pos c51] at H
                                have c51b0 : (t304 == 0) = true := beq_iff_eq.mpr c51
                                have c51b1 : (t304 != 0) = false := bne_eq_false_iff_eq.mpr c51
                                clear c51
                                obtain rfl := Option.some.inj H
                                go_wp2_with (first | ((with_reducible refine gate_callee (f := 60) rfl ?_); refine goesL_ (some 116) rfl rfl Try.func60 (by kernel_rfl) rfl #[.string t289] rfl (by (try simp only [List.map_toArray, List.map_cons, List.map_nil]); first | done | rfl | (simp only [List.length_drop, List.length_take]; rfl)) ?_; (with_reducible refine (impl_Hex.calls kj35 t289 t299 _ A45.out).mono ?_); rintro e w52 ⟨rfl, hb⟩; refine ⟨_, rfl, ?_⟩; have n0_ := Aside0.mk (below_step (by repeat (first | (with_reducible first | exact HB.out | apply below_alloc | apply pw_below_drewN | apply below_drew1) | exact HB.out)) hb); clear HB; have HB := n0_; clear n0_; (try clear hb); (try clear hb2); (try clear hk); (try clear hi)) | ((with_reducible refine gate_callee (f := 59) rfl ?_); refine goesL_ (some 117) rfl rfl Try.func59 (by kernel_rfl) rfl #[.string t299] rfl (by (try simp only [List.map_toArray, List.map_cons, List.map_nil]); first | done | rfl | (simp only [List.length_drop, List.length_take]; rfl)) ?_; (with_reducible refine (impl_Unhex.calls kj35 t299 t300 true _ A46.out).mono ?_); rintro e w53 ⟨rfl, hb⟩; refine ⟨_, rfl, ?_⟩; have n0_ := Aside0.mk (below_step (by repeat (first | (with_reducible first | exact HB.out | apply below_alloc | apply pw_below_drewN | apply below_drew1) | exact HB.out)) hb); clear HB; have HB := n0_; clear n0_; (try clear hb); (try clear hb2); (try clear hk); (try clear hi)) | ((with_reducible refine gate_callee (f := 61) rfl ?_); refine goesL_ (some 122) rfl rfl Try.func61 (by kernel_rfl) rfl #[.slice A0 l0.length c0] rfl (by (try simp only [List.map_toArray, List.map_cons, List.map_nil]); first | done | rfl | (simp only [List.length_drop, List.length_take]; rfl)) ?_; (with_reducible refine (spec_DrawReadVar.calls kj35 _ _ l0 t302 _ ?side1 ?side2 A47.out).mono ?_); (case side1 => repeat (first | exact (Kd.C_below HR0.out HB.out) | (with_reducible refine Kd.C_alloc ?_ _) | (with_reducible refine Kd.C_drewN ?_ _) | (with_reducible refine Kd.C_drew ?_))); (case side2 => exact HC0.out); rintro e w54 ⟨rfl, hb⟩; refine ⟨_, rfl, ?_⟩; have n0_ := Aside0.mk (below_step (by repeat (first | (with_reducible first | exact HB.out | apply below_alloc | apply pw_below_drewN | apply below_drew1) | exact HB.out)) hb); clear HB; have HB := n0_; clear n0_; (try clear hb); (try clear hb2); (try clear hk); (try clear hi)) | ((with_reducible refine gate_callee (f := 54) rfl ?_); refine goesL_ (some 123) rfl rfl Try.func54 (by kernel_rfl) rfl #[.string t302] rfl (by (try simp only [List.map_toArray, List.map_cons, List.map_nil]); first | done | rfl | (simp only [List.length_drop, List.length_take]; rfl)) ?_; (with_reducible refine (impl_ReadVar.calls kj35 t302 t303 t304 _ A48.out).mono ?_); rintro e w55 ⟨rfl, hb⟩; refine ⟨_, rfl, ?_⟩; have n0_ := Aside0.mk (below_step (by repeat (first | (with_reducible first | exact HB.out | apply below_alloc | apply pw_below_drewN | apply below_drew1) | exact HB.out)) hb); clear HB; have HB := n0_; clear n0_; (try clear hb); (try clear hb2); (try clear hk); (try clear hi)))
                                go_ret
                                exact ⟨by first | rfl | (simp [errW_none, errW_some] <;> rfl) | (simp [*, errW_none, errW_some] <;> rfl), by repeat (first | (with_reducible first | exact HB.out | apply below_alloc | apply pw_below_drewN | apply below_drew1) | exact HB.out)⟩
                              · rw [if_neg c51] at H
                                have c51b0 : (t304 == 0) = false := beq_eq_false_iff_ne.mpr c51
                                have c51b1 : (t304 != 0) = true := bne_iff_ne.mpr c51
                                replace H := Option.bind_eq_some_iff.mp H
                                obtain ⟨t305, A560, H⟩ := H
                                replace H : ((spec_DrawReadVar.f kj35 l0).bind fun t306 => (if 0 ≤ t304 then (if t304 ≤ (t306.size : Int) then (some (t305.toList == (t306.extract 0 (t304 : Int).toNat).toList)) else (none)) else (none))) = some r := H
                                have A56 := Aside0.mk A560
                                clear A560
                                replace H := Option.bind_eq_some_iff.mp H
                                obtain ⟨t306, A570, H⟩ := H
                                replace H : (if 0 ≤ t304 then (if t304 ≤ (t306.size : Int) then (some (t305.toList == (t306.extract 0 (t304 : Int).toNat).toList)) else (none)) else (none)) = some r := H
                                have A57 := Aside0.mk A570
                                clear A570
                                by_cases c58 : 0 ≤ t304
                                · rw [if_pos c58] at H
                                  have c58b0 := eq_true c58
                                  have c58b1 : decide (0 ≤ t304) = true := decide_eq_true c58
                                  clear c58
                                  by_cases c59 : t304 ≤ (t306.size : Int)
                                  · rw [if_pos c59] at H
                                    have c59b0 := eq_true c59
                                    have c59b1 : decide (t304 ≤ (t306.size : Int)) = true := decide_eq_true c59
                                    clear c59
                                    obtain rfl := Option.some.inj H
                                    go_wp2_with (first | ((with_reducible refine gate_callee (f := 60) rfl ?_); refine goesL_ (some 116) rfl rfl Try.func60 (by kernel_rfl) rfl #[.string t289] rfl (by (try simp only [List.map_toArray, List.map_cons, List.map_nil]); first | done | rfl | (simp only [List.length_drop, List.length_take]; rfl)) ?_; (with_reducible refine (impl_Hex.calls kj35 t289 t299 _ A45.out).mono ?_); rintro e w60 ⟨rfl, hb⟩; refine ⟨_, rfl, ?_⟩; have n0_ := Aside0.mk (below_step (by repeat (first | (with_reducible first | exact HB.out | apply below_alloc | apply pw_below_drewN | apply below_drew1) | exact HB.out)) hb); clear HB; have HB := n0_; clear n0_; (try clear hb); (try clear hb2); (try clear hk); (try clear hi)) | ((with_reducible refine gate_callee (f := 59) rfl ?_); refine goesL_ (some 117) rfl rfl Try.func59 (by kernel_rfl) rfl #[.string t299] rfl (by (try simp only [List.map_toArray, List.map_cons, List.map_nil]); first | done | rfl | (simp only [List.length_drop, List.length_take]; rfl)) ?_; (with_reducible refine (impl_Unhex.calls kj35 t299 t300 true _ A46.out).mono ?_); rintro e w61 ⟨rfl, hb⟩; refine ⟨_, rfl, ?_⟩; have n0_ := Aside0.mk (below_step (by repeat (first | (with_reducible first | exact HB.out | apply below_alloc | apply pw_below_drewN | apply below_drew1) | exact HB.out)) hb); clear HB; have HB := n0_; clear n0_; (try clear hb); (try clear hb2); (try clear hk); (try clear hi)) | ((with_reducible refine gate_callee (f := 61) rfl ?_); refine goesL_ (some 122) rfl rfl Try.func61 (by kernel_rfl) rfl #[.slice A0 l0.length c0] rfl (by (try simp only [List.map_toArray, List.map_cons, List.map_nil]); first | done | rfl | (simp only [List.length_drop, List.length_take]; rfl)) ?_; (with_reducible refine (spec_DrawReadVar.calls kj35 _ _ l0 t302 _ ?side1 ?side2 A47.out).mono ?_); (case side1 => repeat (first | exact (Kd.C_below HR0.out HB.out) | (with_reducible refine Kd.C_alloc ?_ _) | (with_reducible refine Kd.C_drewN ?_ _) | (with_reducible refine Kd.C_drew ?_))); (case side2 => exact HC0.out); rintro e w62 ⟨rfl, hb⟩; refine ⟨_, rfl, ?_⟩; have n0_ := Aside0.mk (below_step (by repeat (first | (with_reducible first | exact HB.out | apply below_alloc | apply pw_below_drewN | apply below_drew1) | exact HB.out)) hb); clear HB; have HB := n0_; clear n0_; (try clear hb); (try clear hb2); (try clear hk); (try clear hi)) | ((with_reducible refine gate_callee (f := 54) rfl ?_); refine goesL_ (some 123) rfl rfl Try.func54 (by kernel_rfl) rfl #[.string t302] rfl (by (try simp only [List.map_toArray, List.map_cons, List.map_nil]); first | done | rfl | (simp only [List.length_drop, List.length_take]; rfl)) ?_; (with_reducible refine (impl_ReadVar.calls kj35 t302 t303 t304 _ A48.out).mono ?_); rintro e w63 ⟨rfl, hb⟩; refine ⟨_, rfl, ?_⟩; have n0_ := Aside0.mk (below_step (by repeat (first | (with_reducible first | exact HB.out | apply below_alloc | apply pw_below_drewN | apply below_drew1) | exact HB.out)) hb); clear HB; have HB := n0_; clear n0_; (try clear hb); (try clear hb2); (try clear hk); (try clear hi)) | (go_at_call 53; (with_reducible refine (impl_Var.calls kj35 t303 t305 _ A56.out).mono ?_); rintro e w64 ⟨rfl, hb⟩; have n0_ := Aside0.mk (below_step (by repeat (first | (with_reducible first | exact HB.out | apply below_alloc | apply pw_below_drewN | apply below_drew1) | exact HB.out)) hb); clear HB; have HB := n0_; clear n0_; (try clear hb); (try clear hb2); (try clear hk); (try clear hi)) | (go_at_call 61; (with_reducible refine (spec_DrawReadVar.calls kj35 _ _ l0 t306 _ ?side1 ?side2 A57.out).mono ?_); (case side1 => repeat (first | exact (Kd.C_below HR0.out HB.out) | (with_reducible refine Kd.C_alloc ?_ _) | (with_reducible refine Kd.C_drewN ?_ _) | (with_reducible refine Kd.C_drew ?_))); (case side2 => exact HC0.out); rintro e w65 ⟨rfl, hb⟩; have n0_ := Aside0.mk (below_step (by repeat (first | (with_reducible first | exact HB.out | apply below_alloc | apply pw_below_drewN | apply below_drew1) | exact HB.out)) hb); clear HB; have HB := n0_; clear n0_; (try clear hb); (try clear hb2); (try clear hk); (try clear hi)))
                                    go_ret
                                    exact ⟨by first | rfl | (simp [errW_none, errW_some] <;> rfl) | (simp [*, errW_none, errW_some] <;> rfl), by repeat (first | (with_reducible first | exact HB.out | apply below_alloc | apply pw_below_drewN | apply below_drew1) | exact HB.out)⟩
                                  · rw [if_neg c59] at H
                                    exact absurd H (by simp)
                                · rw [if_neg c58] at H
                                  exact absurd H (by simp)
                            · rw [if_neg c50] at H
                              have c50b0 : (t300.toList == t289.toList) = false := beq_eq_false_iff_ne.mpr c50
                              have c50b1 : (t300.toList != t289.toList) = true := bne_iff_ne.mpr c50
                              obtain rfl := Option.some.inj H
                              go_wp2_with (first | ((with_reducible refine gate_callee (f := 60) rfl ?_); refine goesL_ (some 116) rfl rfl Try.func60 (by kernel_rfl) rfl #[.string t289] rfl (by (try simp only [List.map_toArray, List.map_cons, List.map_nil]); first | done | rfl | (simp only [List.length_drop, List.length_take]; rfl)) ?_; (with_reducible refine (impl_Hex.calls kj35 t289 t299 _ A45.out).mono ?_); rintro e w66 ⟨rfl, hb⟩; refine ⟨_, rfl, ?_⟩; have n0_ := Aside0.mk (below_step (by repeat (first | (with_reducible first | exact HB.out | apply below_alloc | apply pw_below_drewN | apply below_drew1) | exact HB.out)) hb); clear HB; have HB := n0_; clear n0_; (try clear hb); (try clear hb2); (try clear hk); (try clear hi)) | ((with_reducible refine gate_callee (f := 59) rfl ?_); refine goesL_ (some 117) rfl rfl Try.func59 (by kernel_rfl) rfl #[.string t299] rfl (by (try simp only [List.map_toArray, List.map_cons, List.map_nil]); first | done | rfl | (simp only [List.length_drop, List.length_take]; rfl)) ?_; (with_reducible refine (impl_Unhex.calls kj35 t299 t300 true _ A46.out).mono ?_); rintro e w67 ⟨rfl, hb⟩; refine ⟨_, rfl, ?_⟩; have n0_ := Aside0.mk (below_step (by repeat (first | (with_reducible first | exact HB.out | apply below_alloc | apply pw_below_drewN | apply below_drew1) | exact HB.out)) hb); clear HB; have HB := n0_; clear n0_; (try clear hb); (try clear hb2); (try clear hk); (try clear hi)) | ((with_reducible refine gate_callee (f := 61) rfl ?_); refine goesL_ (some 122) rfl rfl Try.func61 (by kernel_rfl) rfl #[.slice A0 l0.length c0] rfl (by (try simp only [List.map_toArray, List.map_cons, List.map_nil]); first | done | rfl | (simp only [List.length_drop, List.length_take]; rfl)) ?_; (with_reducible refine (spec_DrawReadVar.calls kj35 _ _ l0 t302 _ ?side1 ?side2 A47.out).mono ?_); (case side1 => repeat (first | exact (Kd.C_below HR0.out HB.out) | (with_reducible refine Kd.C_alloc ?_ _) | (with_reducible refine Kd.C_drewN ?_ _) | (with_reducible refine Kd.C_drew ?_))); (case side2 => exact HC0.out); rintro e w68 ⟨rfl, hb⟩; refine ⟨_, rfl, ?_⟩; have n0_ := Aside0.mk (below_step (by repeat (first | (with_reducible first | exact HB.out | apply below_alloc | apply pw_below_drewN | apply below_drew1) | exact HB.out)) hb); clear HB; have HB := n0_; clear n0_; (try clear hb); (try clear hb2); (try clear hk); (try clear hi)) | ((with_reducible refine gate_callee (f := 54) rfl ?_); refine goesL_ (some 123) rfl rfl Try.func54 (by kernel_rfl) rfl #[.string t302] rfl (by (try simp only [List.map_toArray, List.map_cons, List.map_nil]); first | done | rfl | (simp only [List.length_drop, List.length_take]; rfl)) ?_; (with_reducible refine (impl_ReadVar.calls kj35 t302 t303 t304 _ A48.out).mono ?_); rintro e w69 ⟨rfl, hb⟩; refine ⟨_, rfl, ?_⟩; have n0_ := Aside0.mk (below_step (by repeat (first | (with_reducible first | exact HB.out | apply below_alloc | apply pw_below_drewN | apply below_drew1) | exact HB.out)) hb); clear HB; have HB := n0_; clear n0_; (try clear hb); (try clear hb2); (try clear hk); (try clear hi)))
                              go_ret
                              exact ⟨by first | rfl | (simp [errW_none, errW_some] <;> rfl) | (simp [*, errW_none, errW_some] <;> rfl), by repeat (first | (with_reducible first | exact HB.out | apply below_alloc | apply pw_below_drewN | apply below_drew1) | exact HB.out)⟩
                          · replace c49 := Bool.eq_false_iff.mpr c49
                            subst c49
                            have H1 : (some false) = some r := by rw [if_neg (show ¬ (false = true) by decide)] at H; exact H
                            clear H
                            have H := H1
                            clear H1
                            obtain rfl := Option.some.inj H
                            go_wp2_with (first | ((with_reducible refine gate_callee (f := 60) rfl ?_); refine goesL_ (some 116) rfl rfl Try.func60 (by kernel_rfl) rfl #[.string t289] rfl (by (try simp only [List.map_toArray, List.map_cons, List.map_nil]); first | done | rfl | (simp only [List.length_drop, List.length_take]; rfl)) ?_; (with_reducible refine (impl_Hex.calls kj35 t289 t299 _ A45.out).mono ?_); rintro e w70 ⟨rfl, hb⟩; refine ⟨_, rfl, ?_⟩; have n0_ := Aside0.mk (below_step (by repeat (first | (with_reducible first | exact HB.out | apply below_alloc | apply pw_below_drewN | apply below_drew1) | exact HB.out)) hb); clear HB; have HB := n0_; clear n0_; (try clear hb); (try clear hb2); (try clear hk); (try clear hi)) | ((with_reducible refine gate_callee (f := 59) rfl ?_); refine goesL_ (some 117) rfl rfl Try.func59 (by kernel_rfl) rfl #[.string t299] rfl (by (try simp only [List.map_toArray, List.map_cons, List.map_nil]); first | done | rfl | (simp only [List.length_drop, List.length_take]; rfl)) ?_; (with_reducible refine (impl_Unhex.calls kj35 t299 t300 false _ A46.out).mono ?_); rintro e w71 ⟨rfl, hb⟩; refine ⟨_, rfl, ?_⟩; have n0_ := Aside0.mk (below_step (by repeat (first | (with_reducible first | exact HB.out | apply below_alloc | apply pw_below_drewN | apply below_drew1) | exact HB.out)) hb); clear HB; have HB := n0_; clear n0_; (try clear hb); (try clear hb2); (try clear hk); (try clear hi)) | ((with_reducible refine gate_callee (f := 61) rfl ?_); refine goesL_ (some 122) rfl rfl Try.func61 (by kernel_rfl) rfl #[.slice A0 l0.length c0] rfl (by (try simp only [List.map_toArray, List.map_cons, List.map_nil]); first | done | rfl | (simp only [List.length_drop, List.length_take]; rfl)) ?_; (with_reducible refine (spec_DrawReadVar.calls kj35 _ _ l0 t302 _ ?side1 ?side2 A47.out).mono ?_); (case side1 => repeat (first | exact (Kd.C_below HR0.out HB.out) | (with_reducible refine Kd.C_alloc ?_ _) | (with_reducible refine Kd.C_drewN ?_ _) | (with_reducible refine Kd.C_drew ?_))); (case side2 => exact HC0.out); rintro e w72 ⟨rfl, hb⟩; refine ⟨_, rfl, ?_⟩; have n0_ := Aside0.mk (below_step (by repeat (first | (with_reducible first | exact HB.out | apply below_alloc | apply pw_below_drewN | apply below_drew1) | exact HB.out)) hb); clear HB; have HB := n0_; clear n0_; (try clear hb); (try clear hb2); (try clear hk); (try clear hi)) | ((with_reducible refine gate_callee (f := 54) rfl ?_); refine goesL_ (some 123) rfl rfl Try.func54 (by kernel_rfl) rfl #[.string t302] rfl (by (try simp only [List.map_toArray, List.map_cons, List.map_nil]); first | done | rfl | (simp only [List.length_drop, List.length_take]; rfl)) ?_; (with_reducible refine (impl_ReadVar.calls kj35 t302 t303 t304 _ A48.out).mono ?_); rintro e w73 ⟨rfl, hb⟩; refine ⟨_, rfl, ?_⟩; have n0_ := Aside0.mk (below_step (by repeat (first | (with_reducible first | exact HB.out | apply below_alloc | apply pw_below_drewN | apply below_drew1) | exact HB.out)) hb); clear HB; have HB := n0_; clear n0_; (try clear hb); (try clear hb2); (try clear hk); (try clear hi)))
                            go_ret
                            exact ⟨by first | rfl | (simp [errW_none, errW_some] <;> rfl) | (simp [*, errW_none, errW_some] <;> rfl), by repeat (first | (with_reducible first | exact HB.out | apply below_alloc | apply pw_below_drewN | apply below_drew1) | exact HB.out)⟩
            · rw [if_neg c23] at H
              exact absurd H (by simp)
    · rw [if_neg c7] at H
      exact absurd H (by simp)

/-- THE ONE PURE STATEMENT of laws_FnNumbers: yours. -/
def laws_FnNumbers.Pure : Prop := ∀ (l0 : List Int), l0.length ≤ maxLen → l0.length * 1 ≤ 140737488351232 → (∀ x ∈ l0, (Lit.int .u8 x).wf = true) → ∃ k, laws_FnNumbers.f k l0 = some true
theorem laws_FnNumbers.walk (P : laws_FnNumbers.Pure) (a0 : Option Addr) (len0 cap0 : Nat) (z0 : List Int) (w : World) (w0 : (a0 = none ∧ len0 = 0 ∧ cap0 = 0 ∧ z0 = []) ∨ ∃ x, a0 = some x ∧ len0 ≤ cap0 ∧ cap0 ≤ maxLen ∧ z0.length = cap0 ∧ (∀ i, i < z0.length → w.cell? (x.add i) = some (.int .u8 (z0.getD i 0))) ∧ ∀ n ∈ z0, (Lit.int .u8 n).wf = true) (y0 : len0 * 1 ≤ 140737488351232) :
    Calls Try.prog 14 #[.slice a0 len0 cap0] w fun e w' => e = .returned (.bool true) ∧ Below w.heap.size w w' := by
  obtain ⟨l0, rfl, hr0, hm0, hw0, hc0⟩ := ReadsInt.ofRowC w0
  obtain ⟨k, h⟩ := P l0 hm0 y0 hw0
  refine (laws_FnNumbers.calls k _ _ l0 true w (Kd.C_of_reads (d := (0 : Int)) (h1 := fun _ => rfl) hr0) hc0 h).mono ?_
  rintro e w' ⟨rfl, hd⟩
  exact ⟨rfl, hd⟩

end Go.Proofs.Ytcicpbneiofgbaa.OFnNumbers
