-- walks of this claim, written by a program of mine
import Derived.Test.YtgmonpfjfocoaaaOFnTermsx0
import Derived.Test.YtgmonpfjfocoaaaOFnTermsx1
import Derived.Test.YtgmonpfjfocoaaaOFnTermsx3
import Derived.Test.YtgmonpfjfocoaaaOFnTermsx6
import Derived.Test.YtgmonpfjfocoaaaOFnTermsx7
import Derived.Test.YtgmonpfjfocoaaaOFnTermsx8
import Derived.Test.YtgmonpfjfocoaaaOFnTermsx9
import Derived.Test.YtgmonpfjfocoaaaOFnTermsx10
namespace Go.Proofs.Ytgmonpfjfocoaaa.OFnTerms
open Go.RowKit Go.Proofs.Ytgmonpfjfocoaaa.OWord Go.Proofs.YtgmonpfjfocoaaaW.PrintWords Go.Proofs.YtgmonpfjfocoaaaW.PrintLast Go.Proofs.YtgmonpfjfocoaaaW.PrintMore
attribute [local go_sem] max2_int min2_int max_two min_two max_three min_three max_four min_four   -- for this text's walks alone
set_option linter.unusedVariables false
set_option linter.unusedSimpArgs false

/-! ### laws_FnTerms: function 5 -/
mutual
def laws_FnTerms.j0 : Nat → List Int → Option (Bool)
 | 0, _ => none
 | k + 1, x0 => (spec_DrawList.f k x0).bind fun t468 => ((impl_List.f k t468).bind fun t471 => ((impl_Parts.f k t471).bind fun bt472 => ((spec_List.f k t468).bind fun t476 => (if (bt472.2 != (t476.toList != ([] : List UInt8))) = true then (laws_FnTerms.j1 k x0 true) else (if bt472.2 = true then ((laws_sameTexts.f k bt472.1 t468).bind fun t477 => (laws_FnTerms.j1 k x0 (!t477))) else (laws_FnTerms.j1 k x0 false))))))
def laws_FnTerms.j1 : Nat → List Int → Bool → Option (Bool)
 | 0, _, _ => none
 | k + 1, x0, x87 => if x87 = true then (some false) else ((spec_DrawAtom.f k x0).bind fun t478 => ((impl_Atom.f k t478).bind fun t479 => ((impl_ReadAtom.f k t479).bind fun bt480 => (if (bt480.2 != (decide ((t478.size : Int) ≤ 40))) = true then (laws_FnTerms.j2 k x0 true) else (if bt480.2 = true then (laws_FnTerms.j2 k x0 (bt480.1.toList != t478.toList)) else (laws_FnTerms.j2 k x0 false))))))
def laws_FnTerms.j2 : Nat → List Int → Bool → Option (Bool)
 | 0, _, _ => none
 | k + 1, x0, x108 => if x108 = true then (some false) else ((spec_DrawNums.f k x0).bind fun t482 => ((impl_Nums.f k t482).bind fun t485 => ((impl_ReadNums.f k t485).bind fun bt486 => ((spec_Nums.f k t482).bind fun t490 => (if (bt486.2 == (t490.toList != ([] : List UInt8))) = true then (if bt486.2 = true then ((laws_sameInts.f k bt486.1 t482).bind fun t491 => (some t491)) else (some true)) else (some false))))))
end
def laws_FnTerms.f (k : Nat) (l0 : List Int) : Option (Bool) := (laws_big.f l0).bind fun t458 => (if t458 = true then (some true) else ((spec_DrawSeal.f k l0).bind fun bt459 => ((impl_Seal.f k bt459.1 bt459.2).bind fun t461 => ((spec_Seal.f k bt459.1 bt459.2).bind fun t462 => (if t461.toList = t462.toList then (if t461.toList = ([] : List UInt8) then (laws_FnTerms.j0 k l0) else ((impl_Open.f k t461 bt459.1).bind fun bt463 => ((impl_Open.f k t461 (wrap64 (bt459.1 + 1))).bind fun bt465 => (if bt463.2 = true then (if bt463.1.toList = bt459.2.toList then (if bt465.2 = true then (some false) else ((impl_TermOk.f k t461).bind fun t467 => (if t467 = true then (laws_FnTerms.j0 k l0) else (some false)))) else (some false)) else (some false))))) else (some false))))))
theorem laws_FnTerms.mono_l : ∀ k, (∀ y0, LeO (laws_FnTerms.j0 k y0) (laws_FnTerms.j0 (k + 1) y0)) ∧ (∀ y0 y1, LeO (laws_FnTerms.j1 k y0 y1) (laws_FnTerms.j1 (k + 1) y0 y1)) ∧ (∀ y0 y1, LeO (laws_FnTerms.j2 k y0 y1) (laws_FnTerms.j2 (k + 1) y0 y1))
 | 0 => ⟨fun _ r h => by simp [laws_FnTerms.j0] at h, fun _ _ r h => by simp [laws_FnTerms.j1] at h, fun _ _ r h => by simp [laws_FnTerms.j2] at h⟩
 | k + 1 => by
  obtain ⟨ih0, ih1, ih2⟩ := laws_FnTerms.mono_l k
  refine ⟨?_, ?_, ?_⟩
  ·intro y0
   unfold laws_FnTerms.j0
   repeat' first
   | (with_reducible exact ih0 _)
   | (with_reducible exact ih1 _ _)
   | (with_reducible exact ih2 _ _)
   | (with_reducible exact impl_Atom.mono _ _)
   | (with_reducible exact impl_List.mono _ _)
   | (with_reducible exact impl_Nums.mono _ _)
   | (with_reducible exact impl_Open.mono _ _ _)
   | (with_reducible exact impl_Parts.mono _ _)
   | (with_reducible exact impl_ReadAtom.mono _ _)
   | (with_reducible exact impl_ReadNums.mono _ _)
   | (with_reducible exact impl_Seal.mono _ _ _)
   | (with_reducible exact impl_TermOk.mono _ _)
   | (with_reducible exact laws_sameInts.mono _ _ _)
   | (with_reducible exact laws_sameTexts.mono _ _ _)
   | (with_reducible exact spec_DrawAtom.mono _ _)
   | (with_reducible exact spec_DrawList.mono _ _)
   | (with_reducible exact spec_DrawNums.mono _ _)
   | (with_reducible exact spec_DrawSeal.mono _ _)
   | (with_reducible exact spec_List.mono _ _)
   | (with_reducible exact spec_Nums.mono _ _)
   | (with_reducible exact spec_Seal.mono _ _ _)
   | (with_reducible exact LeO.refl _)
   | (with_reducible exact LeO.none _)
   | (with_reducible refine LeO.ite ?_ ?_)
   | (with_reducible refine LeO.bind ?_ (fun _ => ?_))
   | exact ih0 _
   | exact ih1 _ _
   | exact ih2 _ _
   | exact impl_Atom.mono _ _
   | exact impl_List.mono _ _
   | exact impl_Nums.mono _ _
   | exact impl_Open.mono _ _ _
   | exact impl_Parts.mono _ _
   | exact impl_ReadAtom.mono _ _
   | exact impl_ReadNums.mono _ _
   | exact impl_Seal.mono _ _ _
   | exact impl_TermOk.mono _ _
   | exact laws_sameInts.mono _ _ _
   | exact laws_sameTexts.mono _ _ _
   | exact spec_DrawAtom.mono _ _
   | exact spec_DrawList.mono _ _
   | exact spec_DrawNums.mono _ _
   | exact spec_DrawSeal.mono _ _
   | exact spec_List.mono _ _
   | exact spec_Nums.mono _ _
   | exact spec_Seal.mono _ _ _
   | exact LeO.none _
   | refine LeO.ite ?_ ?_
   | refine LeO.bind ?_ (fun _ => ?_)
  ·intro y0 y1
   unfold laws_FnTerms.j1
   repeat' first
   | (with_reducible exact ih0 _)
   | (with_reducible exact ih1 _ _)
   | (with_reducible exact ih2 _ _)
   | (with_reducible exact impl_Atom.mono _ _)
   | (with_reducible exact impl_List.mono _ _)
   | (with_reducible exact impl_Nums.mono _ _)
   | (with_reducible exact impl_Open.mono _ _ _)
   | (with_reducible exact impl_Parts.mono _ _)
   | (with_reducible exact impl_ReadAtom.mono _ _)
   | (with_reducible exact impl_ReadNums.mono _ _)
   | (with_reducible exact impl_Seal.mono _ _ _)
   | (with_reducible exact impl_TermOk.mono _ _)
   | (with_reducible exact laws_sameInts.mono _ _ _)
   | (with_reducible exact laws_sameTexts.mono _ _ _)
   | (with_reducible exact spec_DrawAtom.mono _ _)
   | (with_reducible exact spec_DrawList.mono _ _)
   | (with_reducible exact spec_DrawNums.mono _ _)
   | (with_reducible exact spec_DrawSeal.mono _ _)
   | (with_reducible exact spec_List.mono _ _)
   | (with_reducible exact spec_Nums.mono _ _)
   | (with_reducible exact spec_Seal.mono _ _ _)
   | (with_reducible exact LeO.refl _)
   | (with_reducible exact LeO.none _)
   | (with_reducible refine LeO.ite ?_ ?_)
   | (with_reducible refine LeO.bind ?_ (fun _ => ?_))
   | exact ih0 _
   | exact ih1 _ _
   | exact ih2 _ _
   | exact impl_Atom.mono _ _
   | exact impl_List.mono _ _
   | exact impl_Nums.mono _ _
   | exact impl_Open.mono _ _ _
   | exact impl_Parts.mono _ _
   | exact impl_ReadAtom.mono _ _
   | exact impl_ReadNums.mono _ _
   | exact impl_Seal.mono _ _ _
   | exact impl_TermOk.mono _ _
   | exact laws_sameInts.mono _ _ _
   | exact laws_sameTexts.mono _ _ _
   | exact spec_DrawAtom.mono _ _
   | exact spec_DrawList.mono _ _
   | exact spec_DrawNums.mono _ _
   | exact spec_DrawSeal.mono _ _
   | exact spec_List.mono _ _
   | exact spec_Nums.mono _ _
   | exact spec_Seal.mono _ _ _
   | exact LeO.none _
   | refine LeO.ite ?_ ?_
   | refine LeO.bind ?_ (fun _ => ?_)
  ·intro y0 y1
   unfold laws_FnTerms.j2
   repeat' first
   | (with_reducible exact ih0 _)
   | (with_reducible exact ih1 _ _)
   | (with_reducible exact ih2 _ _)
   | (with_reducible exact impl_Atom.mono _ _)
   | (with_reducible exact impl_List.mono _ _)
   | (with_reducible exact impl_Nums.mono _ _)
   | (with_reducible exact impl_Open.mono _ _ _)
   | (with_reducible exact impl_Parts.mono _ _)
   | (with_reducible exact impl_ReadAtom.mono _ _)
   | (with_reducible exact impl_ReadNums.mono _ _)
   | (with_reducible exact impl_Seal.mono _ _ _)
   | (with_reducible exact impl_TermOk.mono _ _)
   | (with_reducible exact laws_sameInts.mono _ _ _)
   | (with_reducible exact laws_sameTexts.mono _ _ _)
   | (with_reducible exact spec_DrawAtom.mono _ _)
   | (with_reducible exact spec_DrawList.mono _ _)
   | (with_reducible exact spec_DrawNums.mono _ _)
   | (with_reducible exact spec_DrawSeal.mono _ _)
   | (with_reducible exact spec_List.mono _ _)
   | (with_reducible exact spec_Nums.mono _ _)
   | (with_reducible exact spec_Seal.mono _ _ _)
   | (with_reducible exact LeO.refl _)
   | (with_reducible exact LeO.none _)
   | (with_reducible refine LeO.ite ?_ ?_)
   | (with_reducible refine LeO.bind ?_ (fun _ => ?_))
   | exact ih0 _
   | exact ih1 _ _
   | exact ih2 _ _
   | exact impl_Atom.mono _ _
   | exact impl_List.mono _ _
   | exact impl_Nums.mono _ _
   | exact impl_Open.mono _ _ _
   | exact impl_Parts.mono _ _
   | exact impl_ReadAtom.mono _ _
   | exact impl_ReadNums.mono _ _
   | exact impl_Seal.mono _ _ _
   | exact impl_TermOk.mono _ _
   | exact laws_sameInts.mono _ _ _
   | exact laws_sameTexts.mono _ _ _
   | exact spec_DrawAtom.mono _ _
   | exact spec_DrawList.mono _ _
   | exact spec_DrawNums.mono _ _
   | exact spec_DrawSeal.mono _ _
   | exact spec_List.mono _ _
   | exact spec_Nums.mono _ _
   | exact spec_Seal.mono _ _ _
   | exact LeO.none _
   | refine LeO.ite ?_ ?_
   | refine LeO.bind ?_ (fun _ => ?_)
theorem laws_FnTerms.mono : ∀ a0 k, LeO (laws_FnTerms.f k a0) (laws_FnTerms.f (k + 1) a0) := by
 intro a0 k
 obtain ⟨ih0, ih1, ih2⟩ := laws_FnTerms.mono_l k
 unfold laws_FnTerms.f
 repeat' first
   | (with_reducible exact ih0 _)
   | (with_reducible exact ih1 _ _)
   | (with_reducible exact ih2 _ _)
   | (with_reducible exact impl_Atom.mono _ _)
   | (with_reducible exact impl_List.mono _ _)
   | (with_reducible exact impl_Nums.mono _ _)
   | (with_reducible exact impl_Open.mono _ _ _)
   | (with_reducible exact impl_Parts.mono _ _)
   | (with_reducible exact impl_ReadAtom.mono _ _)
   | (with_reducible exact impl_ReadNums.mono _ _)
   | (with_reducible exact impl_Seal.mono _ _ _)
   | (with_reducible exact impl_TermOk.mono _ _)
   | (with_reducible exact laws_sameInts.mono _ _ _)
   | (with_reducible exact laws_sameTexts.mono _ _ _)
   | (with_reducible exact spec_DrawAtom.mono _ _)
   | (with_reducible exact spec_DrawList.mono _ _)
   | (with_reducible exact spec_DrawNums.mono _ _)
   | (with_reducible exact spec_DrawSeal.mono _ _)
   | (with_reducible exact spec_List.mono _ _)
   | (with_reducible exact spec_Nums.mono _ _)
   | (with_reducible exact spec_Seal.mono _ _ _)
   | (with_reducible exact LeO.refl _)
   | (with_reducible exact LeO.none _)
   | (with_reducible refine LeO.ite ?_ ?_)
   | (with_reducible refine LeO.bind ?_ (fun _ => ?_))
   | exact ih0 _
   | exact ih1 _ _
   | exact ih2 _ _
   | exact impl_Atom.mono _ _
   | exact impl_List.mono _ _
   | exact impl_Nums.mono _ _
   | exact impl_Open.mono _ _ _
   | exact impl_Parts.mono _ _
   | exact impl_ReadAtom.mono _ _
   | exact impl_ReadNums.mono _ _
   | exact impl_Seal.mono _ _ _
   | exact impl_TermOk.mono _ _
   | exact laws_sameInts.mono _ _ _
   | exact laws_sameTexts.mono _ _ _
   | exact spec_DrawAtom.mono _ _
   | exact spec_DrawList.mono _ _
   | exact spec_DrawNums.mono _ _
   | exact spec_DrawSeal.mono _ _
   | exact spec_List.mono _ _
   | exact spec_Nums.mono _ _
   | exact spec_Seal.mono _ _ _
   | exact LeO.none _
   | refine LeO.ite ?_ ?_
   | refine LeO.bind ?_ (fun _ => ?_)
set_option maxHeartbeats 8000000 in
set_option maxRecDepth 100000 in
theorem laws_FnTerms.calls (k : Nat) (A0 : Option Addr) (c0 : Nat) (l0 : List Int) (r : Bool) (w : World) (hr0 : Kd.C (Kd.int .u8) w A0 l0.length l0) (hc0 : l0.length ≤ c0) (h : laws_FnTerms.f k l0 = some r) (hr_true : Aside0 (r = true)) :
  Calls Try.prog 5 #[.slice A0 l0.length c0] w fun e w' => e = .returned (.bool r) ∧ Below w.heap.size w w' := by
 have HR0 := Aside0.mk hr0
 have HC0 := Aside0.mk hc0
 clear hr0 hc0
 have HB := Aside0.mk (Below.refl w.heap.size w)
 have H : ((laws_big.f l0).bind fun t458 => (if t458 = true then (some true) else ((spec_DrawSeal.f k l0).bind fun bt459 => ((impl_Seal.f k bt459.1 bt459.2).bind fun t461 => ((spec_Seal.f k bt459.1 bt459.2).bind fun t462 => (if t461.toList = t462.toList then (if t461.toList = ([] : List UInt8) then (laws_FnTerms.j0 k l0) else ((impl_Open.f k t461 bt459.1).bind fun bt463 => ((impl_Open.f k t461 (wrap64 (bt459.1 + 1))).bind fun bt465 => (if bt463.2 = true then (if bt463.1.toList = bt459.2.toList then (if bt465.2 = true then (some false) else ((impl_TermOk.f k t461).bind fun t467 => (if t467 = true then (laws_FnTerms.j0 k l0) else (some false)))) else (some false)) else (some false))))) else (some false))))))) = some r := h
 clear h
 replace H := Option.bind_eq_some_iff.mp H
 obtain ⟨t458, A20, H⟩ := H
 replace H : (if t458 = true then (some true) else ((spec_DrawSeal.f k l0).bind fun bt459 => ((impl_Seal.f k bt459.1 bt459.2).bind fun t461 => ((spec_Seal.f k bt459.1 bt459.2).bind fun t462 => (if t461.toList = t462.toList then (if t461.toList = ([] : List UInt8) then (laws_FnTerms.j0 k l0) else ((impl_Open.f k t461 bt459.1).bind fun bt463 => ((impl_Open.f k t461 (wrap64 (bt459.1 + 1))).bind fun bt465 => (if bt463.2 = true then (if bt463.1.toList = bt459.2.toList then (if bt465.2 = true then (some false) else ((impl_TermOk.f k t461).bind fun t467 => (if t467 = true then (laws_FnTerms.j0 k l0) else (some false)))) else (some false)) else (some false))))) else (some false)))))) = some r := H
 have A2 := Aside0.mk A20
 clear A20
 by_cases c3 : t458 = true
 ·subst c3
  have H1 : (some true) = some r := by rw [if_pos rfl] at H; exact H
  clear H
  have H := H1
  clear H1
  obtain rfl := Option.some.inj H
  go_enter Try.func5, Try.ntmps5
  go_wp2_with (first | ((with_reducible refine gate_callee (f := 16) rfl ?_); refine goesL_ (some 21) rfl rfl Try.func16 (by kernel_rfl) rfl #[.slice A0 l0.length c0] rfl (by (try simp only [List.map_toArray, List.map_cons, List.map_nil]); first | done | rfl | (simp only [List.length_drop, List.length_take]; rfl)) ?_; (with_reducible refine (laws_big.calls _ _ l0 true _ ?side1 ?side2 A2.out).mono ?_); (case side1 => repeat (first | exact HR0.out | (with_reducible refine Kd.C_alloc ?_ _) | (with_reducible refine Kd.C_drewN ?_ _) | (with_reducible refine Kd.C_drew ?_))); (case side2 => exact HC0.out); rintro e w' ⟨rfl, ⟨nd, rfl⟩⟩; refine ⟨_, rfl, ?_⟩))
  go_ret
  exact ⟨by first | rfl | (simp [errW_none, errW_some] <;> rfl) | (simp [*, errW_none, errW_some] <;> rfl), by repeat (first | (with_reducible first | exact HB.out | apply below_alloc | apply pw_below_drewN | apply below_drew1) | exact HB.out)⟩
 ·replace c3 := Bool.eq_false_iff.mpr c3
  subst c3
  have H1 : ((spec_DrawSeal.f k l0).bind fun bt459 => ((impl_Seal.f k bt459.1 bt459.2).bind fun t461 => ((spec_Seal.f k bt459.1 bt459.2).bind fun t462 => (if t461.toList = t462.toList then (if t461.toList = ([] : List UInt8) then (laws_FnTerms.j0 k l0) else ((impl_Open.f k t461 bt459.1).bind fun bt463 => ((impl_Open.f k t461 (wrap64 (bt459.1 + 1))).bind fun bt465 => (if bt463.2 = true then (if bt463.1.toList = bt459.2.toList then (if bt465.2 = true then (some false) else ((impl_TermOk.f k t461).bind fun t467 => (if t467 = true then (laws_FnTerms.j0 k l0) else (some false)))) else (some false)) else (some false))))) else (some false))))) = some r := by rw [if_neg (show ¬ (false = true) by decide)] at H; exact H
  clear H
  have H := H1
  clear H1
  replace H := Option.bind_eq_some_iff.mp H
  obtain ⟨⟨t459, t460⟩, A40, H⟩ := H
  replace H : ((impl_Seal.f k t459 t460).bind fun t461 => ((spec_Seal.f k t459 t460).bind fun t462 => (if t461.toList = t462.toList then (if t461.toList = ([] : List UInt8) then (laws_FnTerms.j0 k l0) else ((impl_Open.f k t461 t459).bind fun bt463 => ((impl_Open.f k t461 (wrap64 (t459 + 1))).bind fun bt465 => (if bt463.2 = true then (if bt463.1.toList = t460.toList then (if bt465.2 = true then (some false) else ((impl_TermOk.f k t461).bind fun t467 => (if t467 = true then (laws_FnTerms.j0 k l0) else (some false)))) else (some false)) else (some false))))) else (some false)))) = some r := H
  have A4 := Aside0.mk A40
  clear A40
  replace H := Option.bind_eq_some_iff.mp H
  obtain ⟨t461, A50, H⟩ := H
  replace H : ((spec_Seal.f k t459 t460).bind fun t462 => (if t461.toList = t462.toList then (if t461.toList = ([] : List UInt8) then (laws_FnTerms.j0 k l0) else ((impl_Open.f k t461 t459).bind fun bt463 => ((impl_Open.f k t461 (wrap64 (t459 + 1))).bind fun bt465 => (if bt463.2 = true then (if bt463.1.toList = t460.toList then (if bt465.2 = true then (some false) else ((impl_TermOk.f k t461).bind fun t467 => (if t467 = true then (laws_FnTerms.j0 k l0) else (some false)))) else (some false)) else (some false))))) else (some false))) = some r := H
  have A5 := Aside0.mk A50
  clear A50
  replace H := Option.bind_eq_some_iff.mp H
  obtain ⟨t462, A60, H⟩ := H
  replace H : (if t461.toList = t462.toList then (if t461.toList = ([] : List UInt8) then (laws_FnTerms.j0 k l0) else ((impl_Open.f k t461 t459).bind fun bt463 => ((impl_Open.f k t461 (wrap64 (t459 + 1))).bind fun bt465 => (if bt463.2 = true then (if bt463.1.toList = t460.toList then (if bt465.2 = true then (some false) else ((impl_TermOk.f k t461).bind fun t467 => (if t467 = true then (laws_FnTerms.j0 k l0) else (some false)))) else (some false)) else (some false))))) else (some false)) = some r := H
  have A6 := Aside0.mk A60
  clear A60
  by_cases c7 : t461.toList = t462.toList
  ·rw [if_pos c7] at H
   have c7b0 : (t461.toList == t462.toList) = true := beq_iff_eq.mpr c7
   have c7b1 : (t461.toList != t462.toList) = false := bne_eq_false_iff_eq.mpr c7
   clear c7
   have HC8 := Aside0.mk H
   clear H
   go_enter Try.func5, Try.ntmps5
   go_upto_if 36 with (first | ((with_reducible refine gate_callee (f := 16) rfl ?_); refine goesL_ (some 21) rfl rfl Try.func16 (by kernel_rfl) rfl #[.slice A0 l0.length c0] rfl (by (try simp only [List.map_toArray, List.map_cons, List.map_nil]); first | done | rfl | (simp only [List.length_drop, List.length_take]; rfl)) ?_; (with_reducible refine (laws_big.calls _ _ l0 false _ ?side1 ?side2 A2.out).mono ?_); (case side1 => repeat (first | exact HR0.out | (with_reducible refine Kd.C_alloc ?_ _) | (with_reducible refine Kd.C_drewN ?_ _) | (with_reducible refine Kd.C_drew ?_))); (case side2 => exact HC0.out); rintro e w' ⟨rfl, ⟨nd, rfl⟩⟩; refine ⟨_, rfl, ?_⟩) | ((with_reducible refine gate_callee (f := 17) rfl ?_); refine goesL_ (some 24) rfl rfl Try.func17 (by kernel_rfl) rfl #[.slice A0 l0.length c0] rfl (by (try simp only [List.map_toArray, List.map_cons, List.map_nil]); first | done | rfl | (simp only [List.length_drop, List.length_take]; rfl)) ?_; (with_reducible refine (spec_DrawSeal.calls k _ _ l0 t459 t460 _ ?side1 ?side2 A4.out).mono ?_); (case side1 => repeat (first | exact HR0.out | (with_reducible refine Kd.C_alloc ?_ _) | (with_reducible refine Kd.C_drewN ?_ _) | (with_reducible refine Kd.C_drew ?_))); (case side2 => exact HC0.out); rintro e w9 ⟨rfl, hb⟩; refine ⟨_, rfl, ?_⟩; have n0_ := Aside0.mk (below_step (by repeat (first | (with_reducible first | exact HB.out | apply below_alloc | apply pw_below_drewN | apply below_drew1) | exact HB.out)) hb); clear HB; have HB := n0_; clear n0_; (try clear hb); (try clear hb2); (try clear hk); (try clear hi)) | ((with_reducible refine gate_callee (f := 18) rfl ?_); refine goesL_ (some 29) rfl rfl Try.func18 (by kernel_rfl) rfl #[.int .i64 t459, .string t460] rfl (by (try simp only [List.map_toArray, List.map_cons, List.map_nil]); first | done | rfl | (simp only [List.length_drop, List.length_take]; rfl)) ?_; (with_reducible refine (impl_Seal.calls k t459 t460 t461 _ A5.out).mono ?_); rintro e w10 ⟨rfl, hb⟩; refine ⟨_, rfl, ?_⟩; have n0_ := Aside0.mk (below_step (by repeat (first | (with_reducible first | exact HB.out | apply below_alloc | apply pw_below_drewN | apply below_drew1) | exact HB.out)) hb); clear HB; have HB := n0_; clear n0_; (try clear hb); (try clear hb2); (try clear hk); (try clear hi)) | ((with_reducible refine gate_callee (f := 19) rfl ?_); refine goesL_ (some 33) rfl rfl Try.func19 (by kernel_rfl) rfl #[.int .i64 t459, .string t460] rfl (by (try simp only [List.map_toArray, List.map_cons, List.map_nil]); first | done | rfl | (simp only [List.length_drop, List.length_take]; rfl)) ?_; (with_reducible refine (spec_Seal.calls k t459 t460 t462 _ A6.out).mono ?_); rintro e w11 ⟨rfl, hb⟩; refine ⟨_, rfl, ?_⟩; have n0_ := Aside0.mk (below_step (by repeat (first | (with_reducible first | exact HB.out | apply below_alloc | apply pw_below_drewN | apply below_drew1) | exact HB.out)) hb); clear HB; have HB := n0_; clear n0_; (try clear hb); (try clear hb2); (try clear hk); (try clear hi)))
   (try simp only [Act.put, List.setIfInBounds_toArray, List.set_cons_zero, List.set_cons_succ])
   go_cut [] (fun wc => ∃ (kq : Nat), Aside0 (laws_FnTerms.j0 kq l0 = some r) ∧ Aside0 (kq ≤ k) ∧ Aside0 (Below w.heap.size w wc))
   case first =>
    have H := HC8.out
    clear HC8
    by_cases c12 : t461.toList = ([] : List UInt8)
    ·rw [if_pos c12] at H
     have c12b0 : (t461.toList == ([] : List UInt8)) = true := beq_iff_eq.mpr c12
     have c12e : t461.toList.isEmpty = true := List.isEmpty_iff.mpr c12
     have c12b1 : (t461.toList != ([] : List UInt8)) = false := bne_eq_false_iff_eq.mpr c12
     clear c12
     (first | rw [c12b0] | rw [c12e] | (simp only [i64_w, i32_w]; rw [c12b0]) | skip)
     have H' := Aside0.mk H
     clear H
     go_wp2
     go_meet
     case rel => exact ⟨_, H', ⟨by first | omega | exact Nat.le_refl _⟩, ⟨by repeat (first | (with_reducible first | exact HB.out | apply below_alloc | apply pw_below_drewN | apply below_drew1) | exact HB.out)⟩⟩
    ·rw [if_neg c12] at H
     have c12b0 : (t461.toList == ([] : List UInt8)) = false := beq_eq_false_iff_ne.mpr c12
     have c12e : t461.toList.isEmpty = false := by cases h_ : t461.toList.isEmpty with | false => rfl | true => exact absurd (List.isEmpty_iff.mp h_) c12
     have c12b1 : (t461.toList != ([] : List UInt8)) = true := bne_iff_ne.mpr c12
     (first | rw [c12b0] | rw [c12e] | (simp only [i64_w, i32_w]; rw [c12b0]) | skip)
     replace H := Option.bind_eq_some_iff.mp H
     obtain ⟨⟨t463, t464⟩, A130, H⟩ := H
     replace H : ((impl_Open.f k t461 (wrap64 (t459 + 1))).bind fun bt465 => (if t464 = true then (if t463.toList = t460.toList then (if bt465.2 = true then (some false) else ((impl_TermOk.f k t461).bind fun t467 => (if t467 = true then (laws_FnTerms.j0 k l0) else (some false)))) else (some false)) else (some false))) = some r := H
     have A13 := Aside0.mk A130
     clear A130
     replace H := Option.bind_eq_some_iff.mp H
     obtain ⟨⟨t465, t466⟩, A140, H⟩ := H
     replace H : (if t464 = true then (if t463.toList = t460.toList then (if t466 = true then (some false) else ((impl_TermOk.f k t461).bind fun t467 => (if t467 = true then (laws_FnTerms.j0 k l0) else (some false)))) else (some false)) else (some false)) = some r := H
     have A14 := Aside0.mk A140
     clear A140
     by_cases c15 : t464 = true
     ·subst c15
      have H1 : (if t463.toList = t460.toList then (if t466 = true then (some false) else ((impl_TermOk.f k t461).bind fun t467 => (if t467 = true then (laws_FnTerms.j0 k l0) else (some false)))) else (some false)) = some r := by rw [if_pos rfl] at H; exact H
      clear H
      have H := H1
      clear H1
      by_cases c16 : t463.toList = t460.toList
      ·rw [if_pos c16] at H
       have c16b0 : (t463.toList == t460.toList) = true := beq_iff_eq.mpr c16
       have c16b1 : (t463.toList != t460.toList) = false := bne_eq_false_iff_eq.mpr c16
       clear c16
       by_cases c17 : t466 = true
       ·subst c17
        have H1 : (some false) = some r := by rw [if_pos rfl] at H; exact H
        clear H
        have H := H1
        clear H1
        rw [hr_true.out] at H
        exact absurd H (by simp)
       ·replace c17 := Bool.eq_false_iff.mpr c17
        subst c17
        have H1 : ((impl_TermOk.f k t461).bind fun t467 => (if t467 = true then (laws_FnTerms.j0 k l0) else (some false))) = some r := by rw [if_neg (show ¬ (false = true) by decide)] at H; exact H
        clear H
        have H := H1
        clear H1
        replace H := Option.bind_eq_some_iff.mp H
        obtain ⟨t467, A180, H⟩ := H
        replace H : (if t467 = true then (laws_FnTerms.j0 k l0) else (some false)) = some r := H
        have A18 := Aside0.mk A180
        clear A180
        by_cases c19 : t467 = true
        ·subst c19
         have H1 : (laws_FnTerms.j0 k l0) = some r := by rw [if_pos rfl] at H; exact H
         clear H
         have H := H1
         clear H1
         have H' := Aside0.mk H
         clear H
         go_wp2_with (first | ((with_reducible refine gate_callee (f := 20) rfl ?_); refine goesL_ (some 40) rfl rfl Try.func20 (by kernel_rfl) rfl #[.string t461, .int .i64 t459] rfl (by (try simp only [List.map_toArray, List.map_cons, List.map_nil]); first | done | rfl | (simp only [List.length_drop, List.length_take]; rfl)) ?_; (with_reducible refine (impl_Open.calls k t461 t459 t463 true _ A13.out).mono ?_); rintro e w20 ⟨rfl, hb⟩; refine ⟨_, rfl, ?_⟩; have n0_ := Aside0.mk (below_step (by repeat (first | (with_reducible first | exact HB.out | apply below_alloc | apply pw_below_drewN | apply below_drew1) | exact HB.out)) hb); clear HB; have HB := n0_; clear n0_; (try clear hb); (try clear hb2); (try clear hk); (try clear hi)) | ((with_reducible refine gate_callee (f := 20) rfl ?_); refine goesL_ (some 47) rfl rfl Try.func20 (by kernel_rfl) rfl #[.string t461, .int .i64 (wrap64 (t459 + 1))] rfl (by (try simp only [List.map_toArray, List.map_cons, List.map_nil]); first | done | rfl | (simp only [List.length_drop, List.length_take]; rfl)) ?_; (with_reducible refine (impl_Open.calls k t461 (wrap64 (t459 + 1)) t465 false _ A14.out).mono ?_); rintro e w21 ⟨rfl, hb⟩; refine ⟨_, rfl, ?_⟩; have n0_ := Aside0.mk (below_step (by repeat (first | (with_reducible first | exact HB.out | apply below_alloc | apply pw_below_drewN | apply below_drew1) | exact HB.out)) hb); clear HB; have HB := n0_; clear n0_; (try clear hb); (try clear hb2); (try clear hk); (try clear hi)) | (go_at_call 21; (with_reducible refine (impl_TermOk.calls k t461 true _ A18.out).mono ?_); rintro e w22 ⟨rfl, hb⟩; have n0_ := Aside0.mk (below_step (by repeat (first | (with_reducible first | exact HB.out | apply below_alloc | apply pw_below_drewN | apply below_drew1) | exact HB.out)) hb); clear HB; have HB := n0_; clear n0_; (try clear hb); (try clear hb2); (try clear hk); (try clear hi)))
         go_meet
         case rel => exact ⟨_, H', ⟨by first | omega | exact Nat.le_refl _⟩, ⟨by repeat (first | (with_reducible first | exact HB.out | apply below_alloc | apply pw_below_drewN | apply below_drew1) | exact HB.out)⟩⟩
        ·replace c19 := Bool.eq_false_iff.mpr c19
         subst c19
         have H1 : (some false) = some r := by rw [if_neg (show ¬ (false = true) by decide)] at H; exact H
         clear H
         have H := H1
         clear H1
         rw [hr_true.out] at H
         exact absurd H (by simp)
      ·rw [if_neg c16] at H
       have c16b0 : (t463.toList == t460.toList) = false := beq_eq_false_iff_ne.mpr c16
       have c16b1 : (t463.toList != t460.toList) = true := bne_iff_ne.mpr c16
       rw [hr_true.out] at H
       exact absurd H (by simp)
     ·replace c15 := Bool.eq_false_iff.mpr c15
      subst c15
      have H1 : (some false) = some r := by rw [if_neg (show ¬ (false = true) by decide)] at H; exact H
      clear H
      have H := H1
      clear H1
      rw [hr_true.out] at H
      exact absurd H (by simp)
   case rest =>
    clear HC8
    try clear c1
    try clear c2
    try clear p2
    try clear c3
    try clear c5
    try clear p6
    try clear c7
    try clear c7b0
    try clear c7b1
    try clear c12
    try clear c12b0
    try clear c12b1
    try clear c15
    try clear c16
    try clear c16b0
    try clear c16b1
    try clear c17
    try clear c18
    try clear c19
    try clear c20
    obtain ⟨kq, HA, HJ7, HB⟩ := hcut
    cases kq with
    | zero => exact absurd HA.out (by simp [laws_FnTerms.j0])
    | succ kj7 =>
     have H := HA.out
     clear HA
     simp only [laws_FnTerms.j0] at H
     replace H := Option.bind_eq_some_iff.mp H
     obtain ⟨t468, A230, H⟩ := H
     replace H : ((impl_List.f kj7 t468).bind fun t471 => ((impl_Parts.f kj7 t471).bind fun bt472 => ((spec_List.f kj7 t468).bind fun t476 => (if (bt472.2 != (t476.toList != ([] : List UInt8))) = true then (laws_FnTerms.j1 kj7 l0 true) else (if bt472.2 = true then ((laws_sameTexts.f kj7 bt472.1 t468).bind fun t477 => (laws_FnTerms.j1 kj7 l0 (!t477))) else (laws_FnTerms.j1 kj7 l0 false)))))) = some r := H
     have A23 := Aside0.mk A230
     clear A230
     replace H := Option.bind_eq_some_iff.mp H
     obtain ⟨t471, A240, H⟩ := H
     replace H : ((impl_Parts.f kj7 t471).bind fun bt472 => ((spec_List.f kj7 t468).bind fun t476 => (if (bt472.2 != (t476.toList != ([] : List UInt8))) = true then (laws_FnTerms.j1 kj7 l0 true) else (if bt472.2 = true then ((laws_sameTexts.f kj7 bt472.1 t468).bind fun t477 => (laws_FnTerms.j1 kj7 l0 (!t477))) else (laws_FnTerms.j1 kj7 l0 false))))) = some r := H
     have A24 := Aside0.mk A240
     clear A240
     replace H := Option.bind_eq_some_iff.mp H
     obtain ⟨⟨t472, t473⟩, A250, H⟩ := H
     replace H : ((spec_List.f kj7 t468).bind fun t476 => (if (t473 != (t476.toList != ([] : List UInt8))) = true then (laws_FnTerms.j1 kj7 l0 true) else (if t473 = true then ((laws_sameTexts.f kj7 t472 t468).bind fun t477 => (laws_FnTerms.j1 kj7 l0 (!t477))) else (laws_FnTerms.j1 kj7 l0 false)))) = some r := H
     have A25 := Aside0.mk A250
     clear A250
     have HC26 := Aside0.mk H
     clear H
     go_upto_region 15 with (first | ((with_reducible refine gate_callee (f := 22) rfl ?_); refine goesL_ (some 66) rfl rfl Try.func22 (by kernel_rfl) rfl #[.slice A0 l0.length c0] rfl (by (try simp only [List.map_toArray, List.map_cons, List.map_nil]); first | done | rfl | (simp only [List.length_drop, List.length_take]; rfl)) ?_; (with_reducible refine (spec_DrawList.calls kj7 _ _ l0 t468 _ ?side1 ?side2 A23.out).mono ?_); (case side1 => repeat (first | exact (Kd.C_below HR0.out HB.out) | (with_reducible refine Kd.C_alloc ?_ _) | (with_reducible refine Kd.C_drewN ?_ _) | (with_reducible refine Kd.C_drew ?_))); (case side2 => exact HC0.out); rintro e w27 ⟨v469, rfl, ho0, hb⟩; refine ⟨_, rfl, ?_⟩; have n0_ := Aside0.mk (Kd.R_lower ho0 (below_size (by repeat (first | (with_reducible first | exact HB.out | apply below_alloc | apply pw_below_drewN | apply below_drew1) | exact HB.out)))); have n1_ := Aside0.mk (below_step (by repeat (first | (with_reducible first | exact HB.out | apply below_alloc | apply pw_below_drewN | apply below_drew1) | exact HB.out)) hb); clear HB; have HO470 := n0_; have HB := n1_; clear n0_ n1_; (try clear hb); (try clear hb2); (try clear hk); (try clear hi); (try clear ho0); obtain ⟨Ao28, co28, eo28⟩ := Kd.R_slice HO470.out; subst eo28) | ((with_reducible refine gate_callee (f := 23) rfl ?_); refine goesL_ (some 68) rfl rfl Try.func23 (by kernel_rfl) rfl #[.slice Ao28 t468.length co28] rfl (by (try simp only [List.map_toArray, List.map_cons, List.map_nil]); first | done | rfl | (simp only [List.length_drop, List.length_take]; rfl)) ?_; (with_reducible refine (impl_List.calls kj7 _ _ t468 t471 _ ?side1 ?side2 A24.out).mono ?_); (case side1 => repeat (first | exact (Kd.R_reads' HO470.out).2.2 | (with_reducible refine Kd.C_alloc ?_ _) | (with_reducible refine Kd.C_drewN ?_ _) | (with_reducible refine Kd.C_drew ?_))); (case side2 => exact (Kd.R_reads' HO470.out).2.1); rintro e w29 ⟨rfl, hb⟩; refine ⟨_, rfl, ?_⟩; have n0_ := Aside0.mk (Kd.R_below (by (with_reducible repeat (first | apply Kd.R_alloc | apply Kd.R_drewN | apply Kd.R_drew)); exact HO470.out) hb); have n1_ := Aside0.mk (below_step (by repeat (first | (with_reducible first | exact HB.out | apply below_alloc | apply pw_below_drewN | apply below_drew1) | exact HB.out)) hb); clear HO470; clear HB; have HO470 := n0_; have HB := n1_; clear n0_ n1_; (try clear hb); (try clear hb2); (try clear hk); (try clear hi)) | ((with_reducible refine gate_callee (f := 24) rfl ?_); refine goesL_ (some 71) rfl rfl Try.func24 (by kernel_rfl) rfl #[.string t471] rfl (by (try simp only [List.map_toArray, List.map_cons, List.map_nil]); first | done | rfl | (simp only [List.length_drop, List.length_take]; rfl)) ?_; (with_reducible refine (impl_Parts.calls kj7 t471 t472 t473 _ A25.out).mono ?_); rintro e w30 ⟨v474, rfl, ho0, hb⟩; refine ⟨_, rfl, ?_⟩; have n0_ := Aside0.mk (Kd.R_elder' (by (with_reducible repeat (first | apply Kd.R_alloc | apply Kd.R_drewN | apply Kd.R_drew)); exact HO470.out) (Kd.R_base ho0) hb); have n1_ := Aside0.mk (Kd.R_lower (Kd.R_new' ho0 (Kd.R_lt (by (with_reducible repeat (first | apply Kd.R_alloc | apply Kd.R_drewN | apply Kd.R_drew)); exact HO470.out))) (below_size (by repeat (first | (with_reducible first | exact HB.out | apply below_alloc | apply pw_below_drewN | apply below_drew1) | exact HB.out)))); have n2_ := Aside0.mk (below_step (by repeat (first | (with_reducible first | exact HB.out | apply below_alloc | apply pw_below_drewN | apply below_drew1) | exact HB.out)) hb); clear HO470; clear HB; have HO470 := n0_; have HO475 := n1_; have HB := n2_; clear n0_ n1_ n2_; (try clear hb); (try clear hb2); (try clear hk); (try clear hi); (try clear ho0)))
     (try simp only [Act.put, List.setIfInBounds_toArray, List.set_cons_zero, List.set_cons_succ])
     go_cut [87] (fun v87 wc => ∃ (kq : Nat) (x87_25 : Bool), v87 = .bool x87_25 ∧ Aside0 (laws_FnTerms.j1 kq l0 x87_25 = some r) ∧ Aside0 (kq ≤ kj7) ∧ Aside0 (Below w.heap.size w wc))
     case first =>
      have H := HC26.out
      clear HC26
      replace H := Option.bind_eq_some_iff.mp H
      obtain ⟨t476, A310, H⟩ := H
      replace H : (if (t473 != (t476.toList != ([] : List UInt8))) = true then (laws_FnTerms.j1 kj7 l0 true) else (if t473 = true then ((laws_sameTexts.f kj7 t472 t468).bind fun t477 => (laws_FnTerms.j1 kj7 l0 (!t477))) else (laws_FnTerms.j1 kj7 l0 false))) = some r := H
      have A31 := Aside0.mk A310
      clear A310
      by_cases d1 : t476.toList = ([] : List UInt8)
      ·have n1 : (t476.toList != ([] : List UInt8)) = false := bne_eq_false_iff_eq.mpr d1
       have e1 : t476.toList.isEmpty = true := List.isEmpty_iff.mpr d1
       have m1 : (t476.toList == ([] : List UInt8)) = true := beq_iff_eq.mpr d1
       clear d1
       cases t473 with
       | true =>
        simp only [n1, Bool.bne_false, Bool.bne_true, Bool.not_true, Bool.not_false, bne_self_eq_false, beq_self_eq_true, Bool.true_bne, Bool.false_bne, Bool.true_beq, Bool.false_beq, if_true, if_false, Bool.false_eq_true] at H
        have H' := Aside0.mk H
        clear H
        go_wp2_with (first | ((with_reducible refine gate_callee (f := 25) rfl ?_); refine goesL_ (some 76) rfl rfl Try.func25 (by kernel_rfl) rfl #[.slice Ao28 t468.length co28] rfl (by (try simp only [List.map_toArray, List.map_cons, List.map_nil]); first | done | rfl | (simp only [List.length_drop, List.length_take]; rfl)) ?_; (with_reducible refine (spec_List.calls kj7 _ _ t468 t476 _ ?side1 ?side2 A31.out).mono ?_); (case side1 => repeat (first | exact (Kd.R_reads' HO470.out).2.2 | (with_reducible refine Kd.C_alloc ?_ _) | (with_reducible refine Kd.C_drewN ?_ _) | (with_reducible refine Kd.C_drew ?_))); (case side2 => exact (Kd.R_reads' HO470.out).2.1); rintro e w33 ⟨rfl, hb⟩; refine ⟨_, rfl, ?_⟩; have n0_ := Aside0.mk (Kd.R_below (by (with_reducible repeat (first | apply Kd.R_alloc | apply Kd.R_drewN | apply Kd.R_drew)); exact HO470.out) hb); have n1_ := Aside0.mk (Kd.R_below (by (with_reducible repeat (first | apply Kd.R_alloc | apply Kd.R_drewN | apply Kd.R_drew)); exact HO475.out) hb); have n2_ := Aside0.mk (below_step (by repeat (first | (with_reducible first | exact HB.out | apply below_alloc | apply pw_below_drewN | apply below_drew1) | exact HB.out)) hb); clear HO470; clear HO475; clear HB; have HO470 := n0_; have HO475 := n1_; have HB := n2_; clear n0_ n1_ n2_; (try clear hb); (try clear hb2); (try clear hk); (try clear hi)))
        go_meet
        case rel => exact ⟨_, (true), (by first | rfl | (simp; done) | (simp [*]; done)), H', ⟨by have := HJ7.out; first | omega | exact Nat.le_refl _⟩, ⟨by repeat (first | (with_reducible first | exact HB.out | apply below_alloc | apply pw_below_drewN | apply below_drew1) | exact HB.out)⟩⟩
       | false =>
        simp only [n1, Bool.bne_false, Bool.bne_true, Bool.not_true, Bool.not_false, bne_self_eq_false, beq_self_eq_true, Bool.true_bne, Bool.false_bne, Bool.true_beq, Bool.false_beq, if_true, if_false, Bool.false_eq_true] at H
        have H' := Aside0.mk H
        clear H
        go_wp2_with (first | ((with_reducible refine gate_callee (f := 25) rfl ?_); refine goesL_ (some 76) rfl rfl Try.func25 (by kernel_rfl) rfl #[.slice Ao28 t468.length co28] rfl (by (try simp only [List.map_toArray, List.map_cons, List.map_nil]); first | done | rfl | (simp only [List.length_drop, List.length_take]; rfl)) ?_; (with_reducible refine (spec_List.calls kj7 _ _ t468 t476 _ ?side1 ?side2 A31.out).mono ?_); (case side1 => repeat (first | exact (Kd.R_reads' HO470.out).2.2 | (with_reducible refine Kd.C_alloc ?_ _) | (with_reducible refine Kd.C_drewN ?_ _) | (with_reducible refine Kd.C_drew ?_))); (case side2 => exact (Kd.R_reads' HO470.out).2.1); rintro e w38 ⟨rfl, hb⟩; refine ⟨_, rfl, ?_⟩; have n0_ := Aside0.mk (Kd.R_below (by (with_reducible repeat (first | apply Kd.R_alloc | apply Kd.R_drewN | apply Kd.R_drew)); exact HO470.out) hb); have n1_ := Aside0.mk (Kd.R_below (by (with_reducible repeat (first | apply Kd.R_alloc | apply Kd.R_drewN | apply Kd.R_drew)); exact HO475.out) hb); have n2_ := Aside0.mk (below_step (by repeat (first | (with_reducible first | exact HB.out | apply below_alloc | apply pw_below_drewN | apply below_drew1) | exact HB.out)) hb); clear HO470; clear HO475; clear HB; have HO470 := n0_; have HO475 := n1_; have HB := n2_; clear n0_ n1_ n2_; (try clear hb); (try clear hb2); (try clear hk); (try clear hi)))
        go_meet
        case rel => exact ⟨_, (false), (by first | rfl | (simp; done) | (simp [*]; done)), H', ⟨by have := HJ7.out; first | omega | exact Nat.le_refl _⟩, ⟨by repeat (first | (with_reducible first | exact HB.out | apply below_alloc | apply pw_below_drewN | apply below_drew1) | exact HB.out)⟩⟩
      ·have n1 : (t476.toList != ([] : List UInt8)) = true := bne_iff_ne.mpr d1
       have e1 : t476.toList.isEmpty = false := by cases h_ : t476.toList.isEmpty with | false => rfl | true => exact absurd (List.isEmpty_iff.mp h_) d1
       have m1 : (t476.toList == ([] : List UInt8)) = false := beq_eq_false_iff_ne.mpr d1
       cases t473 with
       | true =>
        simp only [n1, Bool.bne_false, Bool.bne_true, Bool.not_true, Bool.not_false, bne_self_eq_false, beq_self_eq_true, Bool.true_bne, Bool.false_bne, Bool.true_beq, Bool.false_beq, if_true, if_false, Bool.false_eq_true] at H
        replace H := Option.bind_eq_some_iff.mp H
        obtain ⟨t477, A350, H⟩ := H
        replace H : (laws_FnTerms.j1 kj7 l0 (!t477)) = some r := H
        have A35 := Aside0.mk A350
        clear A350
        cases t477 with
        | true =>
         simp only [Bool.not_true, Bool.not_false] at H
         have H' := Aside0.mk H
         clear H
         go_wp2_with (first | ((with_reducible refine gate_callee (f := 25) rfl ?_); refine goesL_ (some 76) rfl rfl Try.func25 (by kernel_rfl) rfl #[.slice Ao28 t468.length co28] rfl (by (try simp only [List.map_toArray, List.map_cons, List.map_nil]); first | done | rfl | (simp only [List.length_drop, List.length_take]; rfl)) ?_; (with_reducible refine (spec_List.calls kj7 _ _ t468 t476 _ ?side1 ?side2 A31.out).mono ?_); (case side1 => repeat (first | exact (Kd.R_reads' HO470.out).2.2 | (with_reducible refine Kd.C_alloc ?_ _) | (with_reducible refine Kd.C_drewN ?_ _) | (with_reducible refine Kd.C_drew ?_))); (case side2 => exact (Kd.R_reads' HO470.out).2.1); rintro e w36 ⟨rfl, hb⟩; refine ⟨_, rfl, ?_⟩; have n0_ := Aside0.mk (Kd.R_below (by (with_reducible repeat (first | apply Kd.R_alloc | apply Kd.R_drewN | apply Kd.R_drew)); exact HO470.out) hb); have n1_ := Aside0.mk (Kd.R_below (by (with_reducible repeat (first | apply Kd.R_alloc | apply Kd.R_drewN | apply Kd.R_drew)); exact HO475.out) hb); have n2_ := Aside0.mk (below_step (by repeat (first | (with_reducible first | exact HB.out | apply below_alloc | apply pw_below_drewN | apply below_drew1) | exact HB.out)) hb); clear HO470; clear HO475; clear HB; have HO470 := n0_; have HO475 := n1_; have HB := n2_; clear n0_ n1_ n2_; (try clear hb); (try clear hb2); (try clear hk); (try clear hi); obtain ⟨Ao37, co37, eo37⟩ := Kd.R_slice HO475.out; subst eo37) | (go_at_call 26; (with_reducible refine (laws_sameTexts.calls kj7 _ _ t472 _ _ t468 true _ ?side1 ?side2 ?side3 ?side4 A35.out).mono ?_); (case side1 => repeat (first | exact (Kd.R_reads' HO475.out).2.2 | (with_reducible refine Kd.C_alloc ?_ _) | (with_reducible refine Kd.C_drewN ?_ _) | (with_reducible refine Kd.C_drew ?_))); (case side2 => exact (Kd.R_reads' HO475.out).2.1); (case side3 => repeat (first | exact (Kd.R_reads' HO470.out).2.2 | (with_reducible refine Kd.C_alloc ?_ _) | (with_reducible refine Kd.C_drewN ?_ _) | (with_reducible refine Kd.C_drew ?_))); (case side4 => exact (Kd.R_reads' HO470.out).2.1); rintro e w' ⟨rfl, ⟨nd, rfl⟩⟩))
         go_meet
         case rel => exact ⟨_, _, (by first | rfl | (simp; done) | (simp [*]; done)), H', ⟨by have := HJ7.out; first | omega | exact Nat.le_refl _⟩, ⟨by repeat (first | (with_reducible first | exact HB.out | apply below_alloc | apply pw_below_drewN | apply below_drew1) | exact HB.out)⟩⟩
        | false =>
         simp only [Bool.not_true, Bool.not_false] at H
         have H' := Aside0.mk H
         clear H
         go_wp2_with (first | ((with_reducible refine gate_callee (f := 25) rfl ?_); refine goesL_ (some 76) rfl rfl Try.func25 (by kernel_rfl) rfl #[.slice Ao28 t468.length co28] rfl (by (try simp only [List.map_toArray, List.map_cons, List.map_nil]); first | done | rfl | (simp only [List.length_drop, List.length_take]; rfl)) ?_; (with_reducible refine (spec_List.calls kj7 _ _ t468 t476 _ ?side1 ?side2 A31.out).mono ?_); (case side1 => repeat (first | exact (Kd.R_reads' HO470.out).2.2 | (with_reducible refine Kd.C_alloc ?_ _) | (with_reducible refine Kd.C_drewN ?_ _) | (with_reducible refine Kd.C_drew ?_))); (case side2 => exact (Kd.R_reads' HO470.out).2.1); rintro e w36 ⟨rfl, hb⟩; refine ⟨_, rfl, ?_⟩; have n0_ := Aside0.mk (Kd.R_below (by (with_reducible repeat (first | apply Kd.R_alloc | apply Kd.R_drewN | apply Kd.R_drew)); exact HO470.out) hb); have n1_ := Aside0.mk (Kd.R_below (by (with_reducible repeat (first | apply Kd.R_alloc | apply Kd.R_drewN | apply Kd.R_drew)); exact HO475.out) hb); have n2_ := Aside0.mk (below_step (by repeat (first | (with_reducible first | exact HB.out | apply below_alloc | apply pw_below_drewN | apply below_drew1) | exact HB.out)) hb); clear HO470; clear HO475; clear HB; have HO470 := n0_; have HO475 := n1_; have HB := n2_; clear n0_ n1_ n2_; (try clear hb); (try clear hb2); (try clear hk); (try clear hi); obtain ⟨Ao37, co37, eo37⟩ := Kd.R_slice HO475.out; subst eo37) | (go_at_call 26; (with_reducible refine (laws_sameTexts.calls kj7 _ _ t472 _ _ t468 false _ ?side1 ?side2 ?side3 ?side4 A35.out).mono ?_); (case side1 => repeat (first | exact (Kd.R_reads' HO475.out).2.2 | (with_reducible refine Kd.C_alloc ?_ _) | (with_reducible refine Kd.C_drewN ?_ _) | (with_reducible refine Kd.C_drew ?_))); (case side2 => exact (Kd.R_reads' HO475.out).2.1); (case side3 => repeat (first | exact (Kd.R_reads' HO470.out).2.2 | (with_reducible refine Kd.C_alloc ?_ _) | (with_reducible refine Kd.C_drewN ?_ _) | (with_reducible refine Kd.C_drew ?_))); (case side4 => exact (Kd.R_reads' HO470.out).2.1); rintro e w' ⟨rfl, ⟨nd, rfl⟩⟩))
         go_meet
         case rel => exact ⟨_, _, (by first | rfl | (simp; done) | (simp [*]; done)), H', ⟨by have := HJ7.out; first | omega | exact Nat.le_refl _⟩, ⟨by repeat (first | (with_reducible first | exact HB.out | apply below_alloc | apply pw_below_drewN | apply below_drew1) | exact HB.out)⟩⟩
       | false =>
        simp only [n1, Bool.bne_false, Bool.bne_true, Bool.not_true, Bool.not_false, bne_self_eq_false, beq_self_eq_true, Bool.true_bne, Bool.false_bne, Bool.true_beq, Bool.false_beq, if_true, if_false, Bool.false_eq_true] at H
        have H' := Aside0.mk H
        clear H
        go_wp2_with (first | ((with_reducible refine gate_callee (f := 25) rfl ?_); refine goesL_ (some 76) rfl rfl Try.func25 (by kernel_rfl) rfl #[.slice Ao28 t468.length co28] rfl (by (try simp only [List.map_toArray, List.map_cons, List.map_nil]); first | done | rfl | (simp only [List.length_drop, List.length_take]; rfl)) ?_; (with_reducible refine (spec_List.calls kj7 _ _ t468 t476 _ ?side1 ?side2 A31.out).mono ?_); (case side1 => repeat (first | exact (Kd.R_reads' HO470.out).2.2 | (with_reducible refine Kd.C_alloc ?_ _) | (with_reducible refine Kd.C_drewN ?_ _) | (with_reducible refine Kd.C_drew ?_))); (case side2 => exact (Kd.R_reads' HO470.out).2.1); rintro e w33 ⟨rfl, hb⟩; refine ⟨_, rfl, ?_⟩; have n0_ := Aside0.mk (Kd.R_below (by (with_reducible repeat (first | apply Kd.R_alloc | apply Kd.R_drewN | apply Kd.R_drew)); exact HO470.out) hb); have n1_ := Aside0.mk (Kd.R_below (by (with_reducible repeat (first | apply Kd.R_alloc | apply Kd.R_drewN | apply Kd.R_drew)); exact HO475.out) hb); have n2_ := Aside0.mk (below_step (by repeat (first | (with_reducible first | exact HB.out | apply below_alloc | apply pw_below_drewN | apply below_drew1) | exact HB.out)) hb); clear HO470; clear HO475; clear HB; have HO470 := n0_; have HO475 := n1_; have HB := n2_; clear n0_ n1_ n2_; (try clear hb); (try clear hb2); (try clear hk); (try clear hi)))
        go_meet
        case rel => exact ⟨_, (true), (by first | rfl | (simp; done) | (simp [*]; done)), H', ⟨by have := HJ7.out; first | omega | exact Nat.le_refl _⟩, ⟨by repeat (first | (with_reducible first | exact HB.out | apply below_alloc | apply pw_below_drewN | apply below_drew1) | exact HB.out)⟩⟩
     case rest =>
      clear HC26
      try clear c1
      try clear c2
      try clear p2
      try clear c3
      try clear c5
      try clear p6
      try clear c7
      try clear c7b0
      try clear c7b1
      try clear c12
      try clear c12b0
      try clear c12b1
      try clear c15
      try clear c16
      try clear c16b0
      try clear c16b1
      try clear c17
      try clear c18
      try clear c19
      try clear c20
      try clear c22
      try clear c23
      try clear c24
      try clear c25
      try clear c32
      try clear c32b0
      try clear c32b1
      try clear c32b2
      try clear c34
      try clear p2
      try clear p6
      obtain ⟨kq, x87_25, rfl, HA, HJ25, HB⟩ := hcut
      cases kq with
      | zero => exact absurd HA.out (by simp [laws_FnTerms.j1])
      | succ kj25 =>
       have H := HA.out
       clear HA
       simp only [laws_FnTerms.j1] at H
       by_cases c39 : x87_25 = true
       ·subst c39
        have H1 : (some false) = some r := by rw [if_pos rfl] at H; exact H
        clear H
        have H := H1
        clear H1
        rw [hr_true.out] at H
        exact absurd H (by simp)
       ·replace c39 := Bool.eq_false_iff.mpr c39
        subst c39
        have H1 : ((spec_DrawAtom.f kj25 l0).bind fun t478 => ((impl_Atom.f kj25 t478).bind fun t479 => ((impl_ReadAtom.f kj25 t479).bind fun bt480 => (if (bt480.2 != (decide ((t478.size : Int) ≤ 40))) = true then (laws_FnTerms.j2 kj25 l0 true) else (if bt480.2 = true then (laws_FnTerms.j2 kj25 l0 (bt480.1.toList != t478.toList)) else (laws_FnTerms.j2 kj25 l0 false)))))) = some r := by rw [if_neg (show ¬ (false = true) by decide)] at H; exact H
        clear H
        have H := H1
        clear H1
        replace H := Option.bind_eq_some_iff.mp H
        obtain ⟨t478, A400, H⟩ := H
        replace H : ((impl_Atom.f kj25 t478).bind fun t479 => ((impl_ReadAtom.f kj25 t479).bind fun bt480 => (if (bt480.2 != (decide ((t478.size : Int) ≤ 40))) = true then (laws_FnTerms.j2 kj25 l0 true) else (if bt480.2 = true then (laws_FnTerms.j2 kj25 l0 (bt480.1.toList != t478.toList)) else (laws_FnTerms.j2 kj25 l0 false))))) = some r := H
        have A40 := Aside0.mk A400
        clear A400
        replace H := Option.bind_eq_some_iff.mp H
        obtain ⟨t479, A410, H⟩ := H
        replace H : ((impl_ReadAtom.f kj25 t479).bind fun bt480 => (if (bt480.2 != (decide ((t478.size : Int) ≤ 40))) = true then (laws_FnTerms.j2 kj25 l0 true) else (if bt480.2 = true then (laws_FnTerms.j2 kj25 l0 (bt480.1.toList != t478.toList)) else (laws_FnTerms.j2 kj25 l0 false)))) = some r := H
        have A41 := Aside0.mk A410
        clear A410
        replace H := Option.bind_eq_some_iff.mp H
        obtain ⟨⟨t480, t481⟩, A420, H⟩ := H
        replace H : (if (t481 != (decide ((t478.size : Int) ≤ 40))) = true then (laws_FnTerms.j2 kj25 l0 true) else (if t481 = true then (laws_FnTerms.j2 kj25 l0 (t480.toList != t478.toList)) else (laws_FnTerms.j2 kj25 l0 false))) = some r := H
        have A42 := Aside0.mk A420
        clear A420
        have HC43 := Aside0.mk H
        clear H
        go_upto_region 19 with (first | ((with_reducible refine gate_callee (f := 27) rfl ?_); refine goesL_ (some 89) rfl rfl Try.func27 (by kernel_rfl) rfl #[.slice A0 l0.length c0] rfl (by (try simp only [List.map_toArray, List.map_cons, List.map_nil]); first | done | rfl | (simp only [List.length_drop, List.length_take]; rfl)) ?_; (with_reducible refine (spec_DrawAtom.calls kj25 _ _ l0 t478 _ ?side1 ?side2 A40.out).mono ?_); (case side1 => repeat (first | exact (Kd.C_below HR0.out HB.out) | (with_reducible refine Kd.C_alloc ?_ _) | (with_reducible refine Kd.C_drewN ?_ _) | (with_reducible refine Kd.C_drew ?_))); (case side2 => exact HC0.out); rintro e w44 ⟨rfl, hb⟩; refine ⟨_, rfl, ?_⟩; have n0_ := Aside0.mk (below_step (by repeat (first | (with_reducible first | exact HB.out | apply below_alloc | apply pw_below_drewN | apply below_drew1) | exact HB.out)) hb); clear HB; have HB := n0_; clear n0_; (try clear hb); (try clear hb2); (try clear hk); (try clear hi)) | ((with_reducible refine gate_callee (f := 29) rfl ?_); refine goesL_ (some 92) rfl rfl Try.func29 (by kernel_rfl) rfl #[.string t478] rfl (by (try simp only [List.map_toArray, List.map_cons, List.map_nil]); first | done | rfl | (simp only [List.length_drop, List.length_take]; rfl)) ?_; (with_reducible refine (impl_Atom.calls kj25 t478 t479 _ A41.out).mono ?_); rintro e w45 ⟨rfl, hb⟩; refine ⟨_, rfl, ?_⟩; have n0_ := Aside0.mk (below_step (by repeat (first | (with_reducible first | exact HB.out | apply below_alloc | apply pw_below_drewN | apply below_drew1) | exact HB.out)) hb); clear HB; have HB := n0_; clear n0_; (try clear hb); (try clear hb2); (try clear hk); (try clear hi)) | ((with_reducible refine gate_callee (f := 28) rfl ?_); refine goesL_ (some 93) rfl rfl Try.func28 (by kernel_rfl) rfl #[.string t479] rfl (by (try simp only [List.map_toArray, List.map_cons, List.map_nil]); first | done | rfl | (simp only [List.length_drop, List.length_take]; rfl)) ?_; (with_reducible refine (impl_ReadAtom.calls kj25 t479 t480 t481 _ A42.out).mono ?_); rintro e w46 ⟨rfl, hb⟩; refine ⟨_, rfl, ?_⟩; have n0_ := Aside0.mk (below_step (by repeat (first | (with_reducible first | exact HB.out | apply below_alloc | apply pw_below_drewN | apply below_drew1) | exact HB.out)) hb); clear HB; have HB := n0_; clear n0_; (try clear hb); (try clear hb2); (try clear hk); (try clear hi)))
        (try simp only [Act.put, List.setIfInBounds_toArray, List.set_cons_zero, List.set_cons_succ])
        go_cut [108] (fun v108 wc => ∃ (kq : Nat) (x108_42 : Bool), v108 = .bool x108_42 ∧ Aside0 (laws_FnTerms.j2 kq l0 x108_42 = some r) ∧ Aside0 (kq ≤ kj25) ∧ Aside0 (Below w.heap.size w wc))
        case first =>
         have H := HC43.out
         clear HC43
         by_cases c47 : (t481 != (decide ((t478.size : Int) ≤ 40))) = true
         ·rw [if_pos c47] at H
          have c47b0 : (t481 != (decide ((t478.size : Int) ≤ 40))) = true := c47
          (try (have c47b1 : decide (t481 = (decide ((t478.size : Int) ≤ 40))) = false := by simpa using c47))
          (try (have c47b2 : (t481 == (decide ((t478.size : Int) ≤ 40))) = false := by simpa using c47))
          (try (have c47b3 : ¬ (t481 = (decide ((t478.size : Int) ≤ 40))) := by simpa using c47))
          clear c47
          (first | rw [c47b0] | (simp only [i64_w, i32_w]; rw [c47b0]) | skip)
          have H' := Aside0.mk H
          clear H
          go_wp2
          go_meet
          case rel => exact ⟨_, (true), (by first | rfl | (simp; done) | (simp [*]; done)), H', ⟨by have := HJ7.out; have := HJ25.out; first | omega | exact Nat.le_refl _⟩, ⟨by repeat (first | (with_reducible first | exact HB.out | apply below_alloc | apply pw_below_drewN | apply below_drew1) | exact HB.out)⟩⟩
         ·rw [if_neg c47] at H
          have c47b0 : (t481 != (decide ((t478.size : Int) ≤ 40))) = false := by simpa using c47
          (try (have c47b1 : decide (t481 = (decide ((t478.size : Int) ≤ 40))) = true := by simpa using c47))
          (try (have c47b2 : (t481 == (decide ((t478.size : Int) ≤ 40))) = true := by simpa using c47))
          clear c47
          (first | rw [c47b0] | (simp only [i64_w, i32_w]; rw [c47b0]) | skip)
          by_cases c48 : t481 = true
          ·subst c48
           have H1 : (laws_FnTerms.j2 kj25 l0 (t480.toList != t478.toList)) = some r := by rw [if_pos rfl] at H; exact H
           clear H
           have H := H1
           clear H1
           have H' := Aside0.mk H
           clear H
           go_wp2
           go_meet
           case rel => exact ⟨_, ((t480.toList != t478.toList)), (by first | rfl | (simp; done) | (simp [*]; done)), H', ⟨by have := HJ7.out; have := HJ25.out; first | omega | exact Nat.le_refl _⟩, ⟨by repeat (first | (with_reducible first | exact HB.out | apply below_alloc | apply pw_below_drewN | apply below_drew1) | exact HB.out)⟩⟩
          ·replace c48 := Bool.eq_false_iff.mpr c48
           subst c48
           have H1 : (laws_FnTerms.j2 kj25 l0 false) = some r := by rw [if_neg (show ¬ (false = true) by decide)] at H; exact H
           clear H
           have H := H1
           clear H1
           have H' := Aside0.mk H
           clear H
           go_wp2
           go_meet
           case rel => exact ⟨_, (false), (by first | rfl | (simp; done) | (simp [*]; done)), H', ⟨by have := HJ7.out; have := HJ25.out; first | omega | exact Nat.le_refl _⟩, ⟨by repeat (first | (with_reducible first | exact HB.out | apply below_alloc | apply pw_below_drewN | apply below_drew1) | exact HB.out)⟩⟩
        case rest =>
         clear HC43
         try clear c1
         try clear c2
         try clear p2
         try clear c3
         try clear c4
         try clear c5
         try clear p6
         try clear c7
         try clear c7b0
         try clear c7b1
         try clear c12
         try clear c12b0
         try clear c12b1
         try clear c15
         try clear c16
         try clear c16b0
         try clear c16b1
         try clear c17
         try clear c18
         try clear c19
         try clear c20
         try clear c22
         try clear c23
         try clear c24
         try clear c25
         try clear c27
         try clear c28
         try clear c29
         try clear c32
         try clear c32b0
         try clear c32b1
         try clear c32b2
         try clear c34
         try clear c39
         try clear c47
         try clear c47b0
         try clear c47b1
         try clear c47b2
         try clear c48
         try clear p2
         try clear p6
         obtain ⟨kq, x108_42, rfl, HA, HJ42, HB⟩ := hcut
         cases kq with
         | zero => exact absurd HA.out (by simp [laws_FnTerms.j2])
         | succ kj42 =>
          have H := HA.out
          clear HA
          simp only [laws_FnTerms.j2] at H
          by_cases c49 : x108_42 = true
          ·subst c49
           have H1 : (some false) = some r := by rw [if_pos rfl] at H; exact H
           clear H
           have H := H1
           clear H1
           rw [hr_true.out] at H
           exact absurd H (by simp)
          ·replace c49 := Bool.eq_false_iff.mpr c49
           subst c49
           have H1 : ((spec_DrawNums.f kj42 l0).bind fun t482 => ((impl_Nums.f kj42 t482).bind fun t485 => ((impl_ReadNums.f kj42 t485).bind fun bt486 => ((spec_Nums.f kj42 t482).bind fun t490 => (if (bt486.2 == (t490.toList != ([] : List UInt8))) = true then (if bt486.2 = true then ((laws_sameInts.f kj42 bt486.1 t482).bind fun t491 => (some t491)) else (some true)) else (some false)))))) = some r := by rw [if_neg (show ¬ (false = true) by decide)] at H; exact H
           clear H
           have H := H1
           clear H1
           replace H := Option.bind_eq_some_iff.mp H
           obtain ⟨t482, A500, H⟩ := H
           replace H : ((impl_Nums.f kj42 t482).bind fun t485 => ((impl_ReadNums.f kj42 t485).bind fun bt486 => ((spec_Nums.f kj42 t482).bind fun t490 => (if (bt486.2 == (t490.toList != ([] : List UInt8))) = true then (if bt486.2 = true then ((laws_sameInts.f kj42 bt486.1 t482).bind fun t491 => (some t491)) else (some true)) else (some false))))) = some r := H
           have A50 := Aside0.mk A500
           clear A500
           replace H := Option.bind_eq_some_iff.mp H
           obtain ⟨t485, A510, H⟩ := H
           replace H : ((impl_ReadNums.f kj42 t485).bind fun bt486 => ((spec_Nums.f kj42 t482).bind fun t490 => (if (bt486.2 == (t490.toList != ([] : List UInt8))) = true then (if bt486.2 = true then ((laws_sameInts.f kj42 bt486.1 t482).bind fun t491 => (some t491)) else (some true)) else (some false)))) = some r := H
           have A51 := Aside0.mk A510
           clear A510
           replace H := Option.bind_eq_some_iff.mp H
           obtain ⟨⟨t486, t487⟩, A520, H⟩ := H
           replace H : ((spec_Nums.f kj42 t482).bind fun t490 => (if (t487 == (t490.toList != ([] : List UInt8))) = true then (if t487 = true then ((laws_sameInts.f kj42 t486 t482).bind fun t491 => (some t491)) else (some true)) else (some false))) = some r := H
           have A52 := Aside0.mk A520
           clear A520
           replace H := Option.bind_eq_some_iff.mp H
           obtain ⟨t490, A530, H⟩ := H
           replace H : (if (t487 == (t490.toList != ([] : List UInt8))) = true then (if t487 = true then ((laws_sameInts.f kj42 t486 t482).bind fun t491 => (some t491)) else (some true)) else (some false)) = some r := H
           have A53 := Aside0.mk A530
           clear A530
           by_cases d1 : t490.toList = ([] : List UInt8)
           ·have n1 : (t490.toList != ([] : List UInt8)) = false := bne_eq_false_iff_eq.mpr d1
            have e1 : t490.toList.isEmpty = true := List.isEmpty_iff.mpr d1
            have m1 : (t490.toList == ([] : List UInt8)) = true := beq_iff_eq.mpr d1
            clear d1
            cases t487 with
            | true =>
             simp only [n1, Bool.bne_false, Bool.bne_true, Bool.not_true, Bool.not_false, bne_self_eq_false, beq_self_eq_true, Bool.true_bne, Bool.false_bne, Bool.true_beq, Bool.false_beq, if_true, if_false, Bool.false_eq_true] at H
             have h_ := Option.some.inj H
             rw [hr_true.out] at h_
             exact absurd h_ (by decide)
            | false =>
             simp only [n1, Bool.bne_false, Bool.bne_true, Bool.not_true, Bool.not_false, bne_self_eq_false, beq_self_eq_true, Bool.true_bne, Bool.false_bne, Bool.true_beq, Bool.false_beq, if_true, if_false, Bool.false_eq_true] at H
             obtain rfl := Option.some.inj H
             go_wp2_with (first | ((with_reducible refine gate_callee (f := 30) rfl ?_); refine goesL_ (some 110) rfl rfl Try.func30 (by kernel_rfl) rfl #[.slice A0 l0.length c0] rfl (by (try simp only [List.map_toArray, List.map_cons, List.map_nil]); first | done | rfl | (simp only [List.length_drop, List.length_take]; rfl)) ?_; (with_reducible refine (spec_DrawNums.calls kj42 _ _ l0 t482 _ ?side1 ?side2 A50.out).mono ?_); (case side1 => repeat (first | exact (Kd.C_below HR0.out HB.out) | (with_reducible refine Kd.C_alloc ?_ _) | (with_reducible refine Kd.C_drewN ?_ _) | (with_reducible refine Kd.C_drew ?_))); (case side2 => exact HC0.out); rintro e w63 ⟨v483, rfl, ho0, hb⟩; refine ⟨_, rfl, ?_⟩; have n0_ := Aside0.mk (Kd.R_lower ho0 (below_size (by repeat (first | (with_reducible first | exact HB.out | apply below_alloc | apply pw_below_drewN | apply below_drew1) | exact HB.out)))); have n1_ := Aside0.mk (below_step (by repeat (first | (with_reducible first | exact HB.out | apply below_alloc | apply pw_below_drewN | apply below_drew1) | exact HB.out)) hb); clear HB; have HO484 := n0_; have HB := n1_; clear n0_ n1_; (try clear hb); (try clear hb2); (try clear hk); (try clear hi); (try clear ho0); obtain ⟨Ao64, co64, eo64⟩ := Kd.R_slice HO484.out; subst eo64) | ((with_reducible refine gate_callee (f := 32) rfl ?_); refine goesL_ (some 113) rfl rfl Try.func32 (by kernel_rfl) rfl #[.slice Ao64 t482.length co64] rfl (by (try simp only [List.map_toArray, List.map_cons, List.map_nil]); first | done | rfl | (simp only [List.length_drop, List.length_take]; rfl)) ?_; (with_reducible refine (impl_Nums.calls kj42 _ _ t482 t485 _ ?side1 ?side2 A51.out).mono ?_); (case side1 => repeat (first | exact (Kd.R_reads' HO484.out).2.2 | (with_reducible refine Kd.C_alloc ?_ _) | (with_reducible refine Kd.C_drewN ?_ _) | (with_reducible refine Kd.C_drew ?_))); (case side2 => exact (Kd.R_reads' HO484.out).2.1); rintro e w65 ⟨rfl, hb⟩; refine ⟨_, rfl, ?_⟩; have n0_ := Aside0.mk (Kd.R_below (by (with_reducible repeat (first | apply Kd.R_alloc | apply Kd.R_drewN | apply Kd.R_drew)); exact HO484.out) hb); have n1_ := Aside0.mk (below_step (by repeat (first | (with_reducible first | exact HB.out | apply below_alloc | apply pw_below_drewN | apply below_drew1) | exact HB.out)) hb); clear HO484; clear HB; have HO484 := n0_; have HB := n1_; clear n0_ n1_; (try clear hb); (try clear hb2); (try clear hk); (try clear hi)) | ((with_reducible refine gate_callee (f := 31) rfl ?_); refine goesL_ (some 114) rfl rfl Try.func31 (by kernel_rfl) rfl #[.string t485] rfl (by (try simp only [List.map_toArray, List.map_cons, List.map_nil]); first | done | rfl | (simp only [List.length_drop, List.length_take]; rfl)) ?_; (with_reducible refine (impl_ReadNums.calls kj42 t485 t486 false _ A52.out).mono ?_); rintro e w66 ⟨v488, rfl, ho0, hb⟩; refine ⟨_, rfl, ?_⟩; have n0_ := Aside0.mk (Kd.R_elder' (by (with_reducible repeat (first | apply Kd.R_alloc | apply Kd.R_drewN | apply Kd.R_drew)); exact HO484.out) (Kd.R_base ho0) hb); have n1_ := Aside0.mk (Kd.R_lower (Kd.R_new' ho0 (Kd.R_lt (by (with_reducible repeat (first | apply Kd.R_alloc | apply Kd.R_drewN | apply Kd.R_drew)); exact HO484.out))) (below_size (by repeat (first | (with_reducible first | exact HB.out | apply below_alloc | apply pw_below_drewN | apply below_drew1) | exact HB.out)))); have n2_ := Aside0.mk (below_step (by repeat (first | (with_reducible first | exact HB.out | apply below_alloc | apply pw_below_drewN | apply below_drew1) | exact HB.out)) hb); clear HO484; clear HB; have HO484 := n0_; have HO489 := n1_; have HB := n2_; clear n0_ n1_ n2_; (try clear hb); (try clear hb2); (try clear hk); (try clear hi); (try clear ho0)) | ((with_reducible refine gate_callee (f := 33) rfl ?_); refine goesL_ (some 119) rfl rfl Try.func33 (by kernel_rfl) rfl #[.slice Ao64 t482.length co64] rfl (by (try simp only [List.map_toArray, List.map_cons, List.map_nil]); first | done | rfl | (simp only [List.length_drop, List.length_take]; rfl)) ?_; (with_reducible refine (spec_Nums.calls kj42 _ _ t482 t490 _ ?side1 ?side2 A53.out).mono ?_); (case side1 => repeat (first | exact (Kd.R_reads' HO484.out).2.2 | (with_reducible refine Kd.C_alloc ?_ _) | (with_reducible refine Kd.C_drewN ?_ _) | (with_reducible refine Kd.C_drew ?_))); (case side2 => exact (Kd.R_reads' HO484.out).2.1); rintro e w67 ⟨rfl, hb⟩; refine ⟨_, rfl, ?_⟩; have n0_ := Aside0.mk (Kd.R_below (by (with_reducible repeat (first | apply Kd.R_alloc | apply Kd.R_drewN | apply Kd.R_drew)); exact HO484.out) hb); have n1_ := Aside0.mk (Kd.R_below (by (with_reducible repeat (first | apply Kd.R_alloc | apply Kd.R_drewN | apply Kd.R_drew)); exact HO489.out) hb); have n2_ := Aside0.mk (below_step (by repeat (first | (with_reducible first | exact HB.out | apply below_alloc | apply pw_below_drewN | apply below_drew1) | exact HB.out)) hb); clear HO484; clear HO489; clear HB; have HO484 := n0_; have HO489 := n1_; have HB := n2_; clear n0_ n1_ n2_; (try clear hb); (try clear hb2); (try clear hk); (try clear hi)))
             go_ret
             exact ⟨by first | rfl | (simp [errW_none, errW_some] <;> rfl) | (simp [*, errW_none, errW_some] <;> rfl), by repeat (first | (with_reducible first | exact HB.out | apply below_alloc | apply pw_below_drewN | apply below_drew1) | exact HB.out)⟩
           ·have n1 : (t490.toList != ([] : List UInt8)) = true := bne_iff_ne.mpr d1
            have e1 : t490.toList.isEmpty = false := by cases h_ : t490.toList.isEmpty with | false => rfl | true => exact absurd (List.isEmpty_iff.mp h_) d1
            have m1 : (t490.toList == ([] : List UInt8)) = false := beq_eq_false_iff_ne.mpr d1
            cases t487 with
            | true =>
             simp only [n1, Bool.bne_false, Bool.bne_true, Bool.not_true, Bool.not_false, bne_self_eq_false, beq_self_eq_true, Bool.true_bne, Bool.false_bne, Bool.true_beq, Bool.false_beq, if_true, if_false, Bool.false_eq_true] at H
             replace H := Option.bind_eq_some_iff.mp H
             obtain ⟨t491, A560, H⟩ := H
             replace H : (some t491) = some r := H
             have A56 := Aside0.mk A560
             clear A560
             obtain rfl := Option.some.inj H
             go_wp2_with (first | ((with_reducible refine gate_callee (f := 30) rfl ?_); refine goesL_ (some 110) rfl rfl Try.func30 (by kernel_rfl) rfl #[.slice A0 l0.length c0] rfl (by (try simp only [List.map_toArray, List.map_cons, List.map_nil]); first | done | rfl | (simp only [List.length_drop, List.length_take]; rfl)) ?_; (with_reducible refine (spec_DrawNums.calls kj42 _ _ l0 t482 _ ?side1 ?side2 A50.out).mono ?_); (case side1 => repeat (first | exact (Kd.C_below HR0.out HB.out) | (with_reducible refine Kd.C_alloc ?_ _) | (with_reducible refine Kd.C_drewN ?_ _) | (with_reducible refine Kd.C_drew ?_))); (case side2 => exact HC0.out); rintro e w57 ⟨v483, rfl, ho0, hb⟩; refine ⟨_, rfl, ?_⟩; have n0_ := Aside0.mk (Kd.R_lower ho0 (below_size (by repeat (first | (with_reducible first | exact HB.out | apply below_alloc | apply pw_below_drewN | apply below_drew1) | exact HB.out)))); have n1_ := Aside0.mk (below_step (by repeat (first | (with_reducible first | exact HB.out | apply below_alloc | apply pw_below_drewN | apply below_drew1) | exact HB.out)) hb); clear HB; have HO484 := n0_; have HB := n1_; clear n0_ n1_; (try clear hb); (try clear hb2); (try clear hk); (try clear hi); (try clear ho0); obtain ⟨Ao58, co58, eo58⟩ := Kd.R_slice HO484.out; subst eo58) | ((with_reducible refine gate_callee (f := 32) rfl ?_); refine goesL_ (some 113) rfl rfl Try.func32 (by kernel_rfl) rfl #[.slice Ao58 t482.length co58] rfl (by (try simp only [List.map_toArray, List.map_cons, List.map_nil]); first | done | rfl | (simp only [List.length_drop, List.length_take]; rfl)) ?_; (with_reducible refine (impl_Nums.calls kj42 _ _ t482 t485 _ ?side1 ?side2 A51.out).mono ?_); (case side1 => repeat (first | exact (Kd.R_reads' HO484.out).2.2 | (with_reducible refine Kd.C_alloc ?_ _) | (with_reducible refine Kd.C_drewN ?_ _) | (with_reducible refine Kd.C_drew ?_))); (case side2 => exact (Kd.R_reads' HO484.out).2.1); rintro e w59 ⟨rfl, hb⟩; refine ⟨_, rfl, ?_⟩; have n0_ := Aside0.mk (Kd.R_below (by (with_reducible repeat (first | apply Kd.R_alloc | apply Kd.R_drewN | apply Kd.R_drew)); exact HO484.out) hb); have n1_ := Aside0.mk (below_step (by repeat (first | (with_reducible first | exact HB.out | apply below_alloc | apply pw_below_drewN | apply below_drew1) | exact HB.out)) hb); clear HO484; clear HB; have HO484 := n0_; have HB := n1_; clear n0_ n1_; (try clear hb); (try clear hb2); (try clear hk); (try clear hi)) | ((with_reducible refine gate_callee (f := 31) rfl ?_); refine goesL_ (some 114) rfl rfl Try.func31 (by kernel_rfl) rfl #[.string t485] rfl (by (try simp only [List.map_toArray, List.map_cons, List.map_nil]); first | done | rfl | (simp only [List.length_drop, List.length_take]; rfl)) ?_; (with_reducible refine (impl_ReadNums.calls kj42 t485 t486 true _ A52.out).mono ?_); rintro e w60 ⟨v488, rfl, ho0, hb⟩; refine ⟨_, rfl, ?_⟩; have n0_ := Aside0.mk (Kd.R_elder' (by (with_reducible repeat (first | apply Kd.R_alloc | apply Kd.R_drewN | apply Kd.R_drew)); exact HO484.out) (Kd.R_base ho0) hb); have n1_ := Aside0.mk (Kd.R_lower (Kd.R_new' ho0 (Kd.R_lt (by (with_reducible repeat (first | apply Kd.R_alloc | apply Kd.R_drewN | apply Kd.R_drew)); exact HO484.out))) (below_size (by repeat (first | (with_reducible first | exact HB.out | apply below_alloc | apply pw_below_drewN | apply below_drew1) | exact HB.out)))); have n2_ := Aside0.mk (below_step (by repeat (first | (with_reducible first | exact HB.out | apply below_alloc | apply pw_below_drewN | apply below_drew1) | exact HB.out)) hb); clear HO484; clear HB; have HO484 := n0_; have HO489 := n1_; have HB := n2_; clear n0_ n1_ n2_; (try clear hb); (try clear hb2); (try clear hk); (try clear hi); (try clear ho0)) | ((with_reducible refine gate_callee (f := 33) rfl ?_); refine goesL_ (some 119) rfl rfl Try.func33 (by kernel_rfl) rfl #[.slice Ao58 t482.length co58] rfl (by (try simp only [List.map_toArray, List.map_cons, List.map_nil]); first | done | rfl | (simp only [List.length_drop, List.length_take]; rfl)) ?_; (with_reducible refine (spec_Nums.calls kj42 _ _ t482 t490 _ ?side1 ?side2 A53.out).mono ?_); (case side1 => repeat (first | exact (Kd.R_reads' HO484.out).2.2 | (with_reducible refine Kd.C_alloc ?_ _) | (with_reducible refine Kd.C_drewN ?_ _) | (with_reducible refine Kd.C_drew ?_))); (case side2 => exact (Kd.R_reads' HO484.out).2.1); rintro e w61 ⟨rfl, hb⟩; refine ⟨_, rfl, ?_⟩; have n0_ := Aside0.mk (Kd.R_below (by (with_reducible repeat (first | apply Kd.R_alloc | apply Kd.R_drewN | apply Kd.R_drew)); exact HO484.out) hb); have n1_ := Aside0.mk (Kd.R_below (by (with_reducible repeat (first | apply Kd.R_alloc | apply Kd.R_drewN | apply Kd.R_drew)); exact HO489.out) hb); have n2_ := Aside0.mk (below_step (by repeat (first | (with_reducible first | exact HB.out | apply below_alloc | apply pw_below_drewN | apply below_drew1) | exact HB.out)) hb); clear HO484; clear HO489; clear HB; have HO484 := n0_; have HO489 := n1_; have HB := n2_; clear n0_ n1_ n2_; (try clear hb); (try clear hb2); (try clear hk); (try clear hi); obtain ⟨Ao62, co62, eo62⟩ := Kd.R_slice HO489.out; subst eo62) | (go_at_call 34; (with_reducible refine (laws_sameInts.calls kj42 _ _ t486 _ _ t482 t491 _ ?side1 ?side2 ?side3 ?side4 A56.out).mono ?_); (case side1 => repeat (first | exact (Kd.R_reads' HO489.out).2.2 | (with_reducible refine Kd.C_alloc ?_ _) | (with_reducible refine Kd.C_drewN ?_ _) | (with_reducible refine Kd.C_drew ?_))); (case side2 => exact (Kd.R_reads' HO489.out).2.1); (case side3 => repeat (first | exact (Kd.R_reads' HO484.out).2.2 | (with_reducible refine Kd.C_alloc ?_ _) | (with_reducible refine Kd.C_drewN ?_ _) | (with_reducible refine Kd.C_drew ?_))); (case side4 => exact (Kd.R_reads' HO484.out).2.1); rintro e w' ⟨rfl, ⟨nd, rfl⟩⟩))
             go_ret
             exact ⟨by first | rfl | (simp [errW_none, errW_some] <;> rfl) | (simp [*, errW_none, errW_some] <;> rfl), by repeat (first | (with_reducible first | exact HB.out | apply below_alloc | apply pw_below_drewN | apply below_drew1) | exact HB.out)⟩
            | false =>
             simp only [n1, Bool.bne_false, Bool.bne_true, Bool.not_true, Bool.not_false, bne_self_eq_false, beq_self_eq_true, Bool.true_bne, Bool.false_bne, Bool.true_beq, Bool.false_beq, if_true, if_false, Bool.false_eq_true] at H
             have h_ := Option.some.inj H
             rw [hr_true.out] at h_
             exact absurd h_ (by decide)
  ·rw [if_neg c7] at H
   have c7b0 : (t461.toList == t462.toList) = false := beq_eq_false_iff_ne.mpr c7
   have c7b1 : (t461.toList != t462.toList) = true := bne_iff_ne.mpr c7
   rw [hr_true.out] at H
   exact absurd H (by simp)

/-- THE ONE PURE STATEMENT of laws_FnTerms: yours. -/
def laws_FnTerms.Pure : Prop := ∀ (l0 : List Int), l0.length ≤ maxLen → l0.length * 1 ≤ 140737488351232 → (∀ x ∈ l0, (Lit.int .u8 x).wf = true) → ∃ k, laws_FnTerms.f k l0 = some true
theorem laws_FnTerms.walk (P : laws_FnTerms.Pure) (a0 : Option Addr) (len0 cap0 : Nat) (z0 : List Int) (w : World) (w0 : (a0 = none ∧ len0 = 0 ∧ cap0 = 0 ∧ z0 = []) ∨ ∃ x, a0 = some x ∧ len0 ≤ cap0 ∧ cap0 ≤ maxLen ∧ z0.length = cap0 ∧ (∀ i, i < z0.length → w.cell? (x.add i) = some (.int .u8 (z0.getD i 0))) ∧ ∀ n ∈ z0, (Lit.int .u8 n).wf = true) (y0 : len0 * 1 ≤ 140737488351232) :
  Calls Try.prog 5 #[.slice a0 len0 cap0] w fun e w' => e = .returned (.bool true) ∧ Below w.heap.size w w' := by
 obtain ⟨l0, rfl, hr0, hm0, hw0, hc0⟩ := ReadsInt.ofRowC w0
 obtain ⟨k, h⟩ := P l0 hm0 y0 hw0
 refine (laws_FnTerms.calls k _ _ l0 true w (Kd.C_of_reads (d := (0 : Int)) (h1 := fun _ => rfl) hr0) hc0 h ⟨rfl⟩).mono ?_
 rintro e w' ⟨rfl, hd⟩
 exact ⟨rfl, hd⟩

end Go.Proofs.Ytgmonpfjfocoaaa.OFnTerms
-- halved
