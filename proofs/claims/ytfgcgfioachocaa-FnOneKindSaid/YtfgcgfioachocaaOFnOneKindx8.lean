-- walks of this claim, written by a program of mine
import Derived.Test.YtfgcgfioachocaaOFnOneKindx0
import Derived.Test.YtfgcgfioachocaaOFnOneKindx1
import Derived.Test.YtfgcgfioachocaaOFnOneKindx2
import Derived.Test.YtfgcgfioachocaaOFnOneKindx5
import Derived.Test.YtfgcgfioachocaaOFnOneKindx6
import Derived.Test.YtfgcgfioachocaaOFnOneKindx7
namespace Go.Proofs.Ytfgcgfioachocaa.OFnOneKind
open Go.RowKit Go.Proofs.Ytfgcgfioachocaa.OWord Go.Proofs.YtfgcgfioachocaaW.PrintWords Go.Proofs.YtfgcgfioachocaaW.PrintLast Go.Proofs.YtfgcgfioachocaaW.PrintMore
attribute [local go_sem] max2_int min2_int max_two min_two max_three min_three max_four min_four   -- for this text's walks alone
set_option linter.unusedVariables false
set_option linter.unusedSimpArgs false

/-! ### laws_FnOneKind: function 13 -/
mutual
def laws_FnOneKind.l0 : Nat → ByteArray → Bool → Int → Bool → List ByteArray → Bool → Bool → Int → Option (Bool)
  | 0, _, _, _, _, _, _, _, _ => none
  | k + 1, x3, x5, x6, x7, x8, x9, x10, x11 => if x11 < 8 then ((impl_Open.f k x3 x11).bind fun bt327 => (if bt327.2 = true then ((impl_Seal.f k x11 bt327.1).bind fun t329 => (if t329.toList = x3.toList then (if x10 = true then (laws_FnOneKind.l0 k x3 x5 x6 x7 x8 x9 true (wrap64 (x11 + 1))) else (laws_FnOneKind.l0 k x3 x5 x6 x7 x8 x9 bt327.2 (wrap64 (x11 + 1)))) else (some false))) else (if x10 = true then (laws_FnOneKind.l0 k x3 x5 x6 x7 x8 x9 true (wrap64 (x11 + 1))) else (laws_FnOneKind.l0 k x3 x5 x6 x7 x8 x9 bt327.2 (wrap64 (x11 + 1)))))) else ((some (([x5, x7, x9, x10] : List Bool) : List Bool)).bind fun y330 => (laws_FnOneKind.l1 k x3 x6 x7 x8 x9 0 y330 (y330.length : Int) 0))
def laws_FnOneKind.l1 : Nat → ByteArray → Int → Bool → List ByteArray → Bool → Int → List Bool → Int → Int → Option (Bool)
  | 0, _, _, _, _, _, _, _, _, _ => none
  | k + 1, x3, x6, x7, x8, x9, x14, x62, x63, x64 => if x64 < x63 then (if 0 ≤ x64 then (if x64 < (x62.length : Int) then (if rdOf false x62 x64 = true then (laws_FnOneKind.l1 k x3 x6 x7 x8 x9 (wrap64 (x14 + 1)) x62 x63 (wrap64 (x64 + 1))) else (laws_FnOneKind.l1 k x3 x6 x7 x8 x9 x14 x62 x63 (wrap64 (x64 + 1)))) else (none)) else (none)) else (if x14 > 1 then (laws_FnOneKind.j2 k x3 x6 x7 x8 x9 true) else (if x14 = 1 then ((impl_TermOk.f k x3).bind fun t334 => (if t334 = true then ((impl_TermOk.f k x3).bind fun t335 => ((spec_TermOk.f k x3).bind fun t336 => (laws_FnOneKind.j2 k x3 x6 x7 x8 x9 (t335 != t336)))) else (laws_FnOneKind.j2 k x3 x6 x7 x8 x9 true))) else ((impl_TermOk.f k x3).bind fun t337 => ((spec_TermOk.f k x3).bind fun t338 => (laws_FnOneKind.j2 k x3 x6 x7 x8 x9 (t337 != t338))))))
def laws_FnOneKind.j2 : Nat → ByteArray → Int → Bool → List ByteArray → Bool → Bool → Option (Bool)
  | 0, _, _, _, _, _, _ => none
  | k + 1, x3, x6, x7, x8, x9, x89 => if x89 = true then (some false) else (if x7 = true then ((impl_KeyTerm.f k x6).bind fun t339 => (if t339.toList = x3.toList then (if x9 = true then ((impl_List.f k x8).bind fun t340 => (some (t340.toList == x3.toList))) else (some true)) else (some false))) else (if x9 = true then ((impl_List.f k x8).bind fun t341 => (some (t341.toList == x3.toList))) else (some true)))
end
def laws_FnOneKind.f (k : Nat) (l0 : List Int) : Option (Bool) := (laws_big.f l0).bind fun t317 => (if t317 = true then (some true) else ((spec_DrawTermOk.f k l0).bind fun t318 => ((impl_ReadAtom.f k t318).bind fun bt319 => ((impl_ReadKey.f k t318).bind fun bt321 => ((impl_Parts.f k t318).bind fun bt323 => (laws_FnOneKind.l0 k t318 bt319.2 bt321.1 bt321.2 bt323.1 bt323.2 false 1))))))
theorem laws_FnOneKind.mono_l : ∀ k, (∀ y0 y1 y2 y3 y4 y5 y6 y7, LeO (laws_FnOneKind.l0 k y0 y1 y2 y3 y4 y5 y6 y7) (laws_FnOneKind.l0 (k + 1) y0 y1 y2 y3 y4 y5 y6 y7)) ∧ (∀ y0 y1 y2 y3 y4 y5 y6 y7 y8, LeO (laws_FnOneKind.l1 k y0 y1 y2 y3 y4 y5 y6 y7 y8) (laws_FnOneKind.l1 (k + 1) y0 y1 y2 y3 y4 y5 y6 y7 y8)) ∧ (∀ y0 y1 y2 y3 y4 y5, LeO (laws_FnOneKind.j2 k y0 y1 y2 y3 y4 y5) (laws_FnOneKind.j2 (k + 1) y0 y1 y2 y3 y4 y5))
  | 0 => ⟨fun _ _ _ _ _ _ _ _ r h => by simp [laws_FnOneKind.l0] at h, fun _ _ _ _ _ _ _ _ _ r h => by simp [laws_FnOneKind.l1] at h, fun _ _ _ _ _ _ r h => by simp [laws_FnOneKind.j2] at h⟩
  | k + 1 => by
    obtain ⟨ih0, ih1, ih2⟩ := laws_FnOneKind.mono_l k
    refine ⟨?_, ?_, ?_⟩
    · intro y0 y1 y2 y3 y4 y5 y6 y7
      unfold laws_FnOneKind.l0
      repeat' first
      | (with_reducible exact ih0 _ _ _ _ _ _ _ _)
      | (with_reducible exact ih1 _ _ _ _ _ _ _ _ _)
      | (with_reducible exact ih2 _ _ _ _ _ _)
      | (with_reducible exact impl_KeyTerm.mono _ _)
      | (with_reducible exact impl_List.mono _ _)
      | (with_reducible exact impl_Open.mono _ _ _)
      | (with_reducible exact impl_Parts.mono _ _)
      | (with_reducible exact impl_ReadAtom.mono _ _)
      | (with_reducible exact impl_ReadKey.mono _ _)
      | (with_reducible exact impl_Seal.mono _ _ _)
      | (with_reducible exact impl_TermOk.mono _ _)
      | (with_reducible exact spec_DrawTermOk.mono _ _)
      | (with_reducible exact spec_TermOk.mono _ _)
      | (with_reducible exact LeO.refl _)
      | (with_reducible exact LeO.none _)
      | (with_reducible refine LeO.ite ?_ ?_)
      | (with_reducible refine LeO.bind ?_ (fun _ => ?_))
      | exact ih0 _ _ _ _ _ _ _ _
      | exact ih1 _ _ _ _ _ _ _ _ _
      | exact ih2 _ _ _ _ _ _
      | exact impl_KeyTerm.mono _ _
      | exact impl_List.mono _ _
      | exact impl_Open.mono _ _ _
      | exact impl_Parts.mono _ _
      | exact impl_ReadAtom.mono _ _
      | exact impl_ReadKey.mono _ _
      | exact impl_Seal.mono _ _ _
      | exact impl_TermOk.mono _ _
      | exact spec_DrawTermOk.mono _ _
      | exact spec_TermOk.mono _ _
      | exact LeO.none _
      | refine LeO.ite ?_ ?_
      | refine LeO.bind ?_ (fun _ => ?_)
    · intro y0 y1 y2 y3 y4 y5 y6 y7 y8
      unfold laws_FnOneKind.l1
      repeat' first
      | (with_reducible exact ih0 _ _ _ _ _ _ _ _)
      | (with_reducible exact ih1 _ _ _ _ _ _ _ _ _)
      | (with_reducible exact ih2 _ _ _ _ _ _)
      | (with_reducible exact impl_KeyTerm.mono _ _)
      | (with_reducible exact impl_List.mono _ _)
      | (with_reducible exact impl_Open.mono _ _ _)
      | (with_reducible exact impl_Parts.mono _ _)
      | (with_reducible exact impl_ReadAtom.mono _ _)
      | (with_reducible exact impl_ReadKey.mono _ _)
      | (with_reducible exact impl_Seal.mono _ _ _)
      | (with_reducible exact impl_TermOk.mono _ _)
      | (with_reducible exact spec_DrawTermOk.mono _ _)
      | (with_reducible exact spec_TermOk.mono _ _)
      | (with_reducible exact LeO.refl _)
      | (with_reducible exact LeO.none _)
      | (with_reducible refine LeO.ite ?_ ?_)
      | (with_reducible refine LeO.bind ?_ (fun _ => ?_))
      | exact ih0 _ _ _ _ _ _ _ _
      | exact ih1 _ _ _ _ _ _ _ _ _
      | exact ih2 _ _ _ _ _ _
      | exact impl_KeyTerm.mono _ _
      | exact impl_List.mono _ _
      | exact impl_Open.mono _ _ _
      | exact impl_Parts.mono _ _
      | exact impl_ReadAtom.mono _ _
      | exact impl_ReadKey.mono _ _
      | exact impl_Seal.mono _ _ _
      | exact impl_TermOk.mono _ _
      | exact spec_DrawTermOk.mono _ _
      | exact spec_TermOk.mono _ _
      | exact LeO.none _
      | refine LeO.ite ?_ ?_
      | refine LeO.bind ?_ (fun _ => ?_)
    · intro y0 y1 y2 y3 y4 y5
      unfold laws_FnOneKind.j2
      repeat' first
      | (with_reducible exact ih0 _ _ _ _ _ _ _ _)
      | (with_reducible exact ih1 _ _ _ _ _ _ _ _ _)
      | (with_reducible exact ih2 _ _ _ _ _ _)
      | (with_reducible exact impl_KeyTerm.mono _ _)
      | (with_reducible exact impl_List.mono _ _)
      | (with_reducible exact impl_Open.mono _ _ _)
      | (with_reducible exact impl_Parts.mono _ _)
      | (with_reducible exact impl_ReadAtom.mono _ _)
      | (with_reducible exact impl_ReadKey.mono _ _)
      | (with_reducible exact impl_Seal.mono _ _ _)
      | (with_reducible exact impl_TermOk.mono _ _)
      | (with_reducible exact spec_DrawTermOk.mono _ _)
      | (with_reducible exact spec_TermOk.mono _ _)
      | (with_reducible exact LeO.refl _)
      | (with_reducible exact LeO.none _)
      | (with_reducible refine LeO.ite ?_ ?_)
      | (with_reducible refine LeO.bind ?_ (fun _ => ?_))
      | exact ih0 _ _ _ _ _ _ _ _
      | exact ih1 _ _ _ _ _ _ _ _ _
      | exact ih2 _ _ _ _ _ _
      | exact impl_KeyTerm.mono _ _
      | exact impl_List.mono _ _
      | exact impl_Open.mono _ _ _
      | exact impl_Parts.mono _ _
      | exact impl_ReadAtom.mono _ _
      | exact impl_ReadKey.mono _ _
      | exact impl_Seal.mono _ _ _
      | exact impl_TermOk.mono _ _
      | exact spec_DrawTermOk.mono _ _
      | exact spec_TermOk.mono _ _
      | exact LeO.none _
      | refine LeO.ite ?_ ?_
      | refine LeO.bind ?_ (fun _ => ?_)
theorem laws_FnOneKind.mono : ∀ a0 k, LeO (laws_FnOneKind.f k a0) (laws_FnOneKind.f (k + 1) a0) := by
  intro a0 k
  obtain ⟨ih0, ih1, ih2⟩ := laws_FnOneKind.mono_l k
  unfold laws_FnOneKind.f
  repeat' first
      | (with_reducible exact ih0 _ _ _ _ _ _ _ _)
      | (with_reducible exact ih1 _ _ _ _ _ _ _ _ _)
      | (with_reducible exact ih2 _ _ _ _ _ _)
      | (with_reducible exact impl_KeyTerm.mono _ _)
      | (with_reducible exact impl_List.mono _ _)
      | (with_reducible exact impl_Open.mono _ _ _)
      | (with_reducible exact impl_Parts.mono _ _)
      | (with_reducible exact impl_ReadAtom.mono _ _)
      | (with_reducible exact impl_ReadKey.mono _ _)
      | (with_reducible exact impl_Seal.mono _ _ _)
      | (with_reducible exact impl_TermOk.mono _ _)
      | (with_reducible exact spec_DrawTermOk.mono _ _)
      | (with_reducible exact spec_TermOk.mono _ _)
      | (with_reducible exact LeO.refl _)
      | (with_reducible exact LeO.none _)
      | (with_reducible refine LeO.ite ?_ ?_)
      | (with_reducible refine LeO.bind ?_ (fun _ => ?_))
      | exact ih0 _ _ _ _ _ _ _ _
      | exact ih1 _ _ _ _ _ _ _ _ _
      | exact ih2 _ _ _ _ _ _
      | exact impl_KeyTerm.mono _ _
      | exact impl_List.mono _ _
      | exact impl_Open.mono _ _ _
      | exact impl_Parts.mono _ _
      | exact impl_ReadAtom.mono _ _
      | exact impl_ReadKey.mono _ _
      | exact impl_Seal.mono _ _ _
      | exact impl_TermOk.mono _ _
      | exact spec_DrawTermOk.mono _ _
      | exact spec_TermOk.mono _ _
      | exact LeO.none _
      | refine LeO.ite ?_ ?_
      | refine LeO.bind ?_ (fun _ => ?_)
set_option maxHeartbeats 8000000 in
set_option maxRecDepth 100000 in
theorem laws_FnOneKind.calls (k : Nat) (A0 : Option Addr) (c0 : Nat) (l0 : List Int) (r : Bool) (w : World) (hr0 : Kd.C (Kd.int .u8) w A0 l0.length l0) (hc0 : l0.length ≤ c0) (h : laws_FnOneKind.f k l0 = some r) (hr_true : Aside0 (r = true)) :
    Calls Try.prog 13 #[.slice A0 l0.length c0] w fun e w' => e = .returned (.bool r) ∧ Below w.heap.size w w' := by
  have HR0 := Aside0.mk hr0
  have HC0 := Aside0.mk hc0
  clear hr0 hc0
  have HB := Aside0.mk (Below.refl w.heap.size w)
  have H : ((laws_big.f l0).bind fun t317 => (if t317 = true then (some true) else ((spec_DrawTermOk.f k l0).bind fun t318 => ((impl_ReadAtom.f k t318).bind fun bt319 => ((impl_ReadKey.f k t318).bind fun bt321 => ((impl_Parts.f k t318).bind fun bt323 => (laws_FnOneKind.l0 k t318 bt319.2 bt321.1 bt321.2 bt323.1 bt323.2 false 1))))))) = some r := h
  clear h
  replace H := Option.bind_eq_some_iff.mp H
  obtain ⟨t317, A20, H⟩ := H
  replace H : (if t317 = true then (some true) else ((spec_DrawTermOk.f k l0).bind fun t318 => ((impl_ReadAtom.f k t318).bind fun bt319 => ((impl_ReadKey.f k t318).bind fun bt321 => ((impl_Parts.f k t318).bind fun bt323 => (laws_FnOneKind.l0 k t318 bt319.2 bt321.1 bt321.2 bt323.1 bt323.2 false 1)))))) = some r := H
  have A2 := Aside0.mk A20
  clear A20
  by_cases c3 : t317 = true
  · subst c3
    have H1 : (some true) = some r := by rw [if_pos rfl] at H; exact H
    clear H
    have H := H1
    clear H1
    obtain rfl := Option.some.inj H
    go_enter Try.func13, Try.ntmps13
    go_wp2_with (first | ((with_reducible refine gate_callee (f := 48) rfl ?_); refine goesL_ (some 18) rfl rfl Try.func48 (by kernel_rfl) rfl #[.slice A0 l0.length c0] rfl (by (try simp only [List.map_toArray, List.map_cons, List.map_nil]); first | done | rfl | (simp only [List.length_drop, List.length_take]; rfl)) ?_; (with_reducible refine (laws_big.calls _ _ l0 true _ ?side1 ?side2 A2.out).mono ?_); (case side1 => repeat (first | exact HR0.out | (with_reducible refine Kd.C_alloc ?_ _) | (with_reducible refine Kd.C_drewN ?_ _) | (with_reducible refine Kd.C_drew ?_))); (case side2 => exact HC0.out); rintro e w' ⟨rfl, ⟨nd, rfl⟩⟩; refine ⟨_, rfl, ?_⟩))
    go_ret
    exact ⟨by first | rfl | (simp [errW_none, errW_some] <;> rfl) | (simp [*, errW_none, errW_some] <;> rfl), by repeat (first | (with_reducible first | exact HB.out | apply below_alloc | apply pw_below_drewN | apply below_drew1) | exact HB.out)⟩
  · replace c3 := Bool.eq_false_iff.mpr c3
    subst c3
    have H1 : ((spec_DrawTermOk.f k l0).bind fun t318 => ((impl_ReadAtom.f k t318).bind fun bt319 => ((impl_ReadKey.f k t318).bind fun bt321 => ((impl_Parts.f k t318).bind fun bt323 => (laws_FnOneKind.l0 k t318 bt319.2 bt321.1 bt321.2 bt323.1 bt323.2 false 1))))) = some r := by rw [if_neg (show ¬ (false = true) by decide)] at H; exact H
    clear H
    have H := H1
    clear H1
    replace H := Option.bind_eq_some_iff.mp H
    obtain ⟨t318, A40, H⟩ := H
    replace H : ((impl_ReadAtom.f k t318).bind fun bt319 => ((impl_ReadKey.f k t318).bind fun bt321 => ((impl_Parts.f k t318).bind fun bt323 => (laws_FnOneKind.l0 k t318 bt319.2 bt321.1 bt321.2 bt323.1 bt323.2 false 1)))) = some r := H
    have A4 := Aside0.mk A40
    clear A40
    replace H := Option.bind_eq_some_iff.mp H
    obtain ⟨⟨t319, t320⟩, A50, H⟩ := H
    replace H : ((impl_ReadKey.f k t318).bind fun bt321 => ((impl_Parts.f k t318).bind fun bt323 => (laws_FnOneKind.l0 k t318 t320 bt321.1 bt321.2 bt323.1 bt323.2 false 1))) = some r := H
    have A5 := Aside0.mk A50
    clear A50
    replace H := Option.bind_eq_some_iff.mp H
    obtain ⟨⟨t321, t322⟩, A60, H⟩ := H
    replace H : ((impl_Parts.f k t318).bind fun bt323 => (laws_FnOneKind.l0 k t318 t320 t321 t322 bt323.1 bt323.2 false 1)) = some r := H
    have A6 := Aside0.mk A60
    clear A60
    replace H := Option.bind_eq_some_iff.mp H
    obtain ⟨⟨t323, t324⟩, A70, H⟩ := H
    replace H : (laws_FnOneKind.l0 k t318 t320 t321 t322 t323 t324 false 1) = some r := H
    have A7 := Aside0.mk A70
    clear A70
    have H' := Aside0.mk H
    clear H
    go_enter Try.func13, Try.ntmps13
    go_wp2_with (first | ((with_reducible refine gate_callee (f := 48) rfl ?_); refine goesL_ (some 18) rfl rfl Try.func48 (by kernel_rfl) rfl #[.slice A0 l0.length c0] rfl (by (try simp only [List.map_toArray, List.map_cons, List.map_nil]); first | done | rfl | (simp only [List.length_drop, List.length_take]; rfl)) ?_; (with_reducible refine (laws_big.calls _ _ l0 false _ ?side1 ?side2 A2.out).mono ?_); (case side1 => repeat (first | exact HR0.out | (with_reducible refine Kd.C_alloc ?_ _) | (with_reducible refine Kd.C_drewN ?_ _) | (with_reducible refine Kd.C_drew ?_))); (case side2 => exact HC0.out); rintro e w' ⟨rfl, ⟨nd, rfl⟩⟩; refine ⟨_, rfl, ?_⟩) | ((with_reducible refine gate_callee (f := 49) rfl ?_); refine goesL_ (some 20) rfl rfl Try.func49 (by kernel_rfl) rfl #[.slice A0 l0.length c0] rfl (by (try simp only [List.map_toArray, List.map_cons, List.map_nil]); first | done | rfl | (simp only [List.length_drop, List.length_take]; rfl)) ?_; (with_reducible refine (spec_DrawTermOk.calls k _ _ l0 t318 _ ?side1 ?side2 A4.out).mono ?_); (case side1 => repeat (first | exact HR0.out | (with_reducible refine Kd.C_alloc ?_ _) | (with_reducible refine Kd.C_drewN ?_ _) | (with_reducible refine Kd.C_drew ?_))); (case side2 => exact HC0.out); rintro e w8 ⟨rfl, hb⟩; refine ⟨_, rfl, ?_⟩; have n0_ := Aside0.mk (below_step (by repeat (first | (with_reducible first | exact HB.out | apply below_alloc | apply pw_below_drewN | apply below_drew1) | exact HB.out)) hb); clear HB; have HB := n0_; clear n0_; (try clear hb); (try clear hb2); (try clear hk); (try clear hi)) | ((with_reducible refine gate_callee (f := 50) rfl ?_); refine goesL_ (some 23) rfl rfl Try.func50 (by kernel_rfl) rfl #[.string t318] rfl (by (try simp only [List.map_toArray, List.map_cons, List.map_nil]); first | done | rfl | (simp only [List.length_drop, List.length_take]; rfl)) ?_; (with_reducible refine (impl_ReadAtom.calls k t318 t319 t320 _ A5.out).mono ?_); rintro e w9 ⟨rfl, hb⟩; refine ⟨_, rfl, ?_⟩; have n0_ := Aside0.mk (below_step (by repeat (first | (with_reducible first | exact HB.out | apply below_alloc | apply pw_below_drewN | apply below_drew1) | exact HB.out)) hb); clear HB; have HB := n0_; clear n0_; (try clear hb); (try clear hb2); (try clear hk); (try clear hi)) | ((with_reducible refine gate_callee (f := 51) rfl ?_); refine goesL_ (some 28) rfl rfl Try.func51 (by kernel_rfl) rfl #[.string t318] rfl (by (try simp only [List.map_toArray, List.map_cons, List.map_nil]); first | done | rfl | (simp only [List.length_drop, List.length_take]; rfl)) ?_; (with_reducible refine (impl_ReadKey.calls k t318 t321 t322 _ A6.out).mono ?_); rintro e w10 ⟨rfl, hb⟩; refine ⟨_, rfl, ?_⟩; have n0_ := Aside0.mk (below_step (by repeat (first | (with_reducible first | exact HB.out | apply below_alloc | apply pw_below_drewN | apply below_drew1) | exact HB.out)) hb); clear HB; have HB := n0_; clear n0_; (try clear hb); (try clear hb2); (try clear hk); (try clear hi)) | ((with_reducible refine gate_callee (f := 52) rfl ?_); refine goesL_ (some 33) rfl rfl Try.func52 (by kernel_rfl) rfl #[.string t318] rfl (by (try simp only [List.map_toArray, List.map_cons, List.map_nil]); first | done | rfl | (simp only [List.length_drop, List.length_take]; rfl)) ?_; (with_reducible refine (impl_Parts.calls k t318 t323 t324 _ A7.out).mono ?_); rintro e w11 ⟨v325, rfl, ho0, hb⟩; refine ⟨_, rfl, ?_⟩; have n0_ := Aside0.mk (Kd.R_lower ho0 (below_size (by repeat (first | (with_reducible first | exact HB.out | apply below_alloc | apply pw_below_drewN | apply below_drew1) | exact HB.out)))); have n1_ := Aside0.mk (below_step (by repeat (first | (with_reducible first | exact HB.out | apply below_alloc | apply pw_below_drewN | apply below_drew1) | exact HB.out)) hb); clear HB; have HO326 := n0_; have HB := n1_; clear n0_ n1_; (try clear hb); (try clear hb2); (try clear hk); (try clear hi); (try clear ho0)))
    go_loopg [10, 11] k (fun kq v10 v11 w' => ∃ (x10_1 : Bool) (x11_1 : Int), v10 = .bool x10_1 ∧ v11 = .int .i64 x11_1 ∧ Aside0 (laws_FnOneKind.l0 kq t318 t320 t321 t322 t323 t324 x10_1 x11_1 = some r) ∧ Aside0 (kq ≤ k) ∧ Aside0 (Kd.R Kd.string 9 w' w.heap.size (fun _ => True) v325 t323) ∧ Aside0 (Below w.heap.size w w'))
    case atStart => exact ⟨(false), (1), (by first | rfl | (simp; done) | (simp [*]; done)), (by first | rfl | (simp; done) | (simp [*]; done)), H', ⟨Nat.le_refl _⟩, ⟨by (with_reducible repeat (first | apply Kd.R_alloc | apply Kd.R_drewN | apply Kd.R_drew)); exact HO326.out⟩, ⟨by repeat (first | (with_reducible first | exact HB.out | apply below_alloc | apply pw_below_drewN | apply below_drew1) | exact HB.out)⟩⟩
    case round =>
      clear H'
      try clear c1
      try clear p2
      try clear c3
      try clear c4
      try clear c5
      obtain ⟨x10_1, x11_1, rfl, rfl, HA, HK1, HO_8, HB⟩ := hrel
      cases gk with
      | zero => exact absurd HA.out (by simp [laws_FnOneKind.l0])
      | succ k1 =>
        have H := HA.out
        clear HA
        simp only [laws_FnOneKind.l0] at H
        by_cases c12 : x11_1 < 8
        · rw [if_pos c12] at H
          have c12b0 : decide (x11_1 < 8) = true := decide_eq_true c12
          clear c12
          replace H := Option.bind_eq_some_iff.mp H
          obtain ⟨⟨t327, t328⟩, A130, H⟩ := H
          replace H : (if t328 = true then ((impl_Seal.f k1 x11_1 t327).bind fun t329 => (if t329.toList = t318.toList then (if x10_1 = true then (laws_FnOneKind.l0 k1 t318 t320 t321 t322 t323 t324 true (wrap64 (x11_1 + 1))) else (laws_FnOneKind.l0 k1 t318 t320 t321 t322 t323 t324 t328 (wrap64 (x11_1 + 1)))) else (some false))) else (if x10_1 = true then (laws_FnOneKind.l0 k1 t318 t320 t321 t322 t323 t324 true (wrap64 (x11_1 + 1))) else (laws_FnOneKind.l0 k1 t318 t320 t321 t322 t323 t324 t328 (wrap64 (x11_1 + 1))))) = some r := H
          have A13 := Aside0.mk A130
          clear A130
          by_cases c14 : t328 = true
          · subst c14
            have H1 : ((impl_Seal.f k1 x11_1 t327).bind fun t329 => (if t329.toList = t318.toList then (if x10_1 = true then (laws_FnOneKind.l0 k1 t318 t320 t321 t322 t323 t324 true (wrap64 (x11_1 + 1))) else (laws_FnOneKind.l0 k1 t318 t320 t321 t322 t323 t324 true (wrap64 (x11_1 + 1)))) else (some false))) = some r := by rw [if_pos rfl] at H; exact H
            clear H
            have H := H1
            clear H1
            replace H := Option.bind_eq_some_iff.mp H
            obtain ⟨t329, A150, H⟩ := H
            replace H : (if t329.toList = t318.toList then (if x10_1 = true then (laws_FnOneKind.l0 k1 t318 t320 t321 t322 t323 t324 true (wrap64 (x11_1 + 1))) else (laws_FnOneKind.l0 k1 t318 t320 t321 t322 t323 t324 true (wrap64 (x11_1 + 1)))) else (some false)) = some r := H
            have A15 := Aside0.mk A150
            clear A150
            by_cases c16 : t329.toList = t318.toList
            · rw [if_pos c16] at H
              have c16b0 : (t329.toList == t318.toList) = true := beq_iff_eq.mpr c16
              have c16b1 : (t329.toList != t318.toList) = false := bne_eq_false_iff_eq.mpr c16
              clear c16
              by_cases c17 : x10_1 = true
              · subst c17
                have H1 : (laws_FnOneKind.l0 k1 t318 t320 t321 t322 t323 t324 true (wrap64 (x11_1 + 1))) = some r := by rw [if_pos rfl] at H; exact H
                clear H
                have H := H1
                clear H1
                have H' := Aside0.mk H
                clear H
                go_wp2_with (first | ((with_reducible refine gate_callee (f := 53) rfl ?_); refine goesL_ (some 43) rfl rfl Try.func53 (by kernel_rfl) rfl #[.string t318, .int .i64 x11_1] rfl (by (try simp only [List.map_toArray, List.map_cons, List.map_nil]); first | done | rfl | (simp only [List.length_drop, List.length_take]; rfl)) ?_; (with_reducible refine (impl_Open.calls k1 t318 x11_1 t327 true _ A13.out).mono ?_); rintro e w18 ⟨rfl, hb⟩; refine ⟨_, rfl, ?_⟩; have n0_ := Aside0.mk (Kd.R_below (by (with_reducible repeat (first | apply Kd.R_alloc | apply Kd.R_drewN | apply Kd.R_drew)); exact HO_8.out) hb); have n1_ := Aside0.mk (below_step (by repeat (first | (with_reducible first | exact HB.out | apply below_alloc | apply pw_below_drewN | apply below_drew1) | exact HB.out)) hb); clear HO_8; clear HB; have HO_8 := n0_; have HB := n1_; clear n0_ n1_; (try clear hb); (try clear hb2); (try clear hk); (try clear hi)) | (go_at_call 54; (with_reducible refine (impl_Seal.calls k1 x11_1 t327 t329 _ A15.out).mono ?_); rintro e w19 ⟨rfl, hb⟩; have n0_ := Aside0.mk (Kd.R_below (by (with_reducible repeat (first | apply Kd.R_alloc | apply Kd.R_drewN | apply Kd.R_drew)); exact HO_8.out) hb); have n1_ := Aside0.mk (below_step (by repeat (first | (with_reducible first | exact HB.out | apply below_alloc | apply pw_below_drewN | apply below_drew1) | exact HB.out)) hb); clear HO_8; clear HB; have HO_8 := n0_; have HB := n1_; clear n0_ n1_; (try clear hb); (try clear hb2); (try clear hk); (try clear hi)))
                go_roundg k1
                case measure => have := HK1.out; omega
                case rel => exact ⟨(true), (wrap64 (x11_1 + 1)), (by first | rfl | (simp; done) | (simp [*]; done)), (by first | rfl | (simp; done) | (simp [*]; done)), H', ⟨by have := HK1.out; omega⟩, ⟨by (with_reducible repeat (first | apply Kd.R_alloc | apply Kd.R_drewN | apply Kd.R_drew)); exact HO_8.out⟩, ⟨by repeat (first | (with_reducible first | exact HB.out | apply below_alloc | apply pw_below_drewN | apply below_drew1) | exact HB.out)⟩⟩
              · replace c17 := Bool.eq_false_iff.mpr c17
                subst c17
                have H1 : (laws_FnOneKind.l0 k1 t318 t320 t321 t322 t323 t324 true (wrap64 (x11_1 + 1))) = some r := by rw [if_neg (show ¬ (false = true) by decide)] at H; exact H
                clear H
                have H := H1
                clear H1
                have H' := Aside0.mk H
                clear H
                go_wp2_with (first | ((with_reducible refine gate_callee (f := 53) rfl ?_); refine goesL_ (some 43) rfl rfl Try.func53 (by kernel_rfl) rfl #[.string t318, .int .i64 x11_1] rfl (by (try simp only [List.map_toArray, List.map_cons, List.map_nil]); first | done | rfl | (simp only [List.length_drop, List.length_take]; rfl)) ?_; (with_reducible refine (impl_Open.calls k1 t318 x11_1 t327 true _ A13.out).mono ?_); rintro e w20 ⟨rfl, hb⟩; refine ⟨_, rfl, ?_⟩; have n0_ := Aside0.mk (Kd.R_below (by (with_reducible repeat (first | apply Kd.R_alloc | apply Kd.R_drewN | apply Kd.R_drew)); exact HO_8.out) hb); have n1_ := Aside0.mk (below_step (by repeat (first | (with_reducible first | exact HB.out | apply below_alloc | apply pw_below_drewN | apply below_drew1) | exact HB.out)) hb); clear HO_8; clear HB; have HO_8 := n0_; have HB := n1_; clear n0_ n1_; (try clear hb); (try clear hb2); (try clear hk); (try clear hi)) | (go_at_call 54; (with_reducible refine (impl_Seal.calls k1 x11_1 t327 t329 _ A15.out).mono ?_); rintro e w21 ⟨rfl, hb⟩; have n0_ := Aside0.mk (Kd.R_below (by (with_reducible repeat (first | apply Kd.R_alloc | apply Kd.R_drewN | apply Kd.R_drew)); exact HO_8.out) hb); have n1_ := Aside0.mk (below_step (by repeat (first | (with_reducible first | exact HB.out | apply below_alloc | apply pw_below_drewN | apply below_drew1) | exact HB.out)) hb); clear HO_8; clear HB; have HO_8 := n0_; have HB := n1_; clear n0_ n1_; (try clear hb); (try clear hb2); (try clear hk); (try clear hi)))
                go_roundg k1
                case measure => have := HK1.out; omega
                case rel => exact ⟨(true), (wrap64 (x11_1 + 1)), (by first | rfl | (simp; done) | (simp [*]; done)), (by first | rfl | (simp; done) | (simp [*]; done)), H', ⟨by have := HK1.out; omega⟩, ⟨by (with_reducible repeat (first | apply Kd.R_alloc | apply Kd.R_drewN | apply Kd.R_drew)); exact HO_8.out⟩, ⟨by repeat (first | (with_reducible first | exact HB.out | apply below_alloc | apply pw_below_drewN | apply below_drew1) | exact HB.out)⟩⟩
            · rw [if_neg c16] at H
              have c16b0 : (t329.toList == t318.toList) = false := beq_eq_false_iff_ne.mpr c16
              have c16b1 : (t329.toList != t318.toList) = true := bne_iff_ne.mpr c16
              rw [hr_true.out] at H
              exact absurd H (by simp)
          · replace c14 := Bool.eq_false_iff.mpr c14
            subst c14
            have H1 : (if x10_1 = true then (laws_FnOneKind.l0 k1 t318 t320 t321 t322 t323 t324 true (wrap64 (x11_1 + 1))) else (laws_FnOneKind.l0 k1 t318 t320 t321 t322 t323 t324 false (wrap64 (x11_1 + 1)))) = some r := by rw [if_neg (show ¬ (false = true) by decide)] at H; exact H
            clear H
            have H := H1
            clear H1
            by_cases c22 : x10_1 = true
            · subst c22
              have H1 : (laws_FnOneKind.l0 k1 t318 t320 t321 t322 t323 t324 true (wrap64 (x11_1 + 1))) = some r := by rw [if_pos rfl] at H; exact H
              clear H
              have H := H1
              clear H1
              have H' := Aside0.mk H
              clear H
              go_wp2_with (first | ((with_reducible refine gate_callee (f := 53) rfl ?_); refine goesL_ (some 43) rfl rfl Try.func53 (by kernel_rfl) rfl #[.string t318, .int .i64 x11_1] rfl (by (try simp only [List.map_toArray, List.map_cons, List.map_nil]); first | done | rfl | (simp only [List.length_drop, List.length_take]; rfl)) ?_; (with_reducible refine (impl_Open.calls k1 t318 x11_1 t327 false _ A13.out).mono ?_); rintro e w23 ⟨rfl, hb⟩; refine ⟨_, rfl, ?_⟩; have n0_ := Aside0.mk (Kd.R_below (by (with_reducible repeat (first | apply Kd.R_alloc | apply Kd.R_drewN | apply Kd.R_drew)); exact HO_8.out) hb); have n1_ := Aside0.mk (below_step (by repeat (first | (with_reducible first | exact HB.out | apply below_alloc | apply pw_below_drewN | apply below_drew1) | exact HB.out)) hb); clear HO_8; clear HB; have HO_8 := n0_; have HB := n1_; clear n0_ n1_; (try clear hb); (try clear hb2); (try clear hk); (try clear hi)))
              go_roundg k1
              case measure => have := HK1.out; omega
              case rel => exact ⟨(true), (wrap64 (x11_1 + 1)), (by first | rfl | (simp; done) | (simp [*]; done)), (by first | rfl | (simp; done) | (simp [*]; done)), H', ⟨by have := HK1.out; omega⟩, ⟨by (with_reducible repeat (first | apply Kd.R_alloc | apply Kd.R_drewN | apply Kd.R_drew)); exact HO_8.out⟩, ⟨by repeat (first | (with_reducible first | exact HB.out | apply below_alloc | apply pw_below_drewN | apply below_drew1) | exact HB.out)⟩⟩
            · replace c22 := Bool.eq_false_iff.mpr c22
              subst c22
              have H1 : (laws_FnOneKind.l0 k1 t318 t320 t321 t322 t323 t324 false (wrap64 (x11_1 + 1))) = some r := by rw [if_neg (show ¬ (false = true) by decide)] at H; exact H
              clear H
              have H := H1
              clear H1
              have H' := Aside0.mk H
              clear H
              go_wp2_with (first | ((with_reducible refine gate_callee (f := 53) rfl ?_); refine goesL_ (some 43) rfl rfl Try.func53 (by kernel_rfl) rfl #[.string t318, .int .i64 x11_1] rfl (by (try simp only [List.map_toArray, List.map_cons, List.map_nil]); first | done | rfl | (simp only [List.length_drop, List.length_take]; rfl)) ?_; (with_reducible refine (impl_Open.calls k1 t318 x11_1 t327 false _ A13.out).mono ?_); rintro e w24 ⟨rfl, hb⟩; refine ⟨_, rfl, ?_⟩; have n0_ := Aside0.mk (Kd.R_below (by (with_reducible repeat (first | apply Kd.R_alloc | apply Kd.R_drewN | apply Kd.R_drew)); exact HO_8.out) hb); have n1_ := Aside0.mk (below_step (by repeat (first | (with_reducible first | exact HB.out | apply below_alloc | apply pw_below_drewN | apply below_drew1) | exact HB.out)) hb); clear HO_8; clear HB; have HO_8 := n0_; have HB := n1_; clear n0_ n1_; (try clear hb); (try clear hb2); (try clear hk); (try clear hi)))
              go_roundg k1
              case measure => have := HK1.out; omega
              case rel => exact ⟨(false), (wrap64 (x11_1 + 1)), (by first | rfl | (simp; done) | (simp [*]; done)), (by first | rfl | (simp; done) | (simp [*]; done)), H', ⟨by have := HK1.out; omega⟩, ⟨by (with_reducible repeat (first | apply Kd.R_alloc | apply Kd.R_drewN | apply Kd.R_drew)); exact HO_8.out⟩, ⟨by repeat (first | (with_reducible first | exact HB.out | apply below_alloc | apply pw_below_drewN | apply below_drew1) | exact HB.out)⟩⟩
        · rw [if_neg c12] at H
          have c12b0 : decide (x11_1 < 8) = false := decide_eq_false c12
          clear c12
          obtain ⟨y330, hy330⟩ : ∃ y_ : List Bool, y_ = (([t320, t322, t324, x10_1] : List Bool)) := ⟨_, rfl⟩
          replace H : (laws_FnOneKind.l1 k1 t318 t321 t322 t323 t324 0 y330 (y330.length : Int) 0) = some r := by first | (rw [hy330]; with_reducible exact H) | (have H2_ := (Option.bind_some _ _).symm.trans H; rw [hy330]; with_reducible exact H2_) | (have H2_ := (Option.bind_some _ _).symm.trans H; with_reducible exact H2_) | with_reducible exact H | (rw [hy330]; exact H) | exact H
          have Ny330 := Aside0.mk hy330
          clear hy330
          have H' := Aside0.mk H
          clear H
          go_wp2_with (first | ((with_reducible refine gate_dst (N := 62) rfl ?_); refine Kd.R_lit Kd.bool _ 4 ?hg (N := 62) ?hd (xs := ([t320, t322, t324, x10_1] : List Bool)) (inner := [.bool t320, .bool t322, .bool t324, .bool x10_1]) (ok := fun _ => True) (okp := fun _ => True) ?hr ?hp (fun _ hk => hk) trivial (Below.refl _ _) (Nat.le_refl _) (by simp) ?_; (case hd => rfl); (case hg => rfl); (case hr => first | (go_simp; done) | (go_simp; rfl)); (case hp => exact (Reps.one (show Kd.M Kd.bool _ _ _ t320 [.bool t320] from rfl) (Reps.one (show Kd.M Kd.bool _ _ _ t322 [.bool t322] from rfl) (Reps.one (show Kd.M Kd.bool _ _ _ t324 [.bool t324] from rfl) (Reps.one (show Kd.M Kd.bool _ _ _ x10_1 [.bool x10_1] from rfl) (Reps.none _ _)))))); intro v331 w25 ho26 hb hg_ hnew_; clear hg_ hnew_; (first | rw [← Ny330.out] at ho26 | (simp only [Int.reduceToNat] at ho26; rw [← Ny330.out] at ho26)); have n0_ := Aside0.mk (Kd.R_below (by (with_reducible repeat (first | apply Kd.R_alloc | apply Kd.R_drewN | apply Kd.R_drew)); exact HO_8.out) hb); have n1_ := Aside0.mk (Kd.R_lower ho26 (below_size (by repeat (first | (with_reducible first | exact HB.out | apply below_alloc | apply pw_below_drewN | apply below_drew1) | exact HB.out)))); have n2_ := Aside0.mk (below_step (by repeat (first | (with_reducible first | exact HB.out | apply below_alloc | apply pw_below_drewN | apply below_drew1) | exact HB.out)) hb); clear HO_8; clear HB; have HO_8 := n0_; have HO332 := n1_; have HB := n2_; clear n0_ n1_ n2_; clear hb ho26; obtain ⟨Ao27, co27, eo27⟩ := Kd.R_slice HO332.out; subst eo27))
          go_loopg [14, 64] k1 (fun kq v14 v64 w' => ∃ (x14_2 : Int) (x64_2 : Int), v14 = .int .i64 x14_2 ∧ v64 = .int .i64 x64_2 ∧ Aside0 (laws_FnOneKind.l1 kq t318 t321 t322 t323 t324 x14_2 y330 (y330.length : Int) x64_2 = some r) ∧ Aside0 (kq ≤ k1) ∧ Aside0 (Kd.R Kd.string 9 w' w.heap.size (fun _ => True) v325 t323) ∧ Aside0 (Kd.R Kd.bool 4 w' w.heap.size (fun _ => True) (.slice Ao27 y330.length co27) y330) ∧ Aside0 (Below w.heap.size w w'))
          case atStart => exact ⟨(0), (0), (by first | rfl | (simp; done) | (simp [*]; done)), (by first | rfl | (simp; done) | (simp [*]; done)), H', ⟨Nat.le_refl _⟩, ⟨by (with_reducible repeat (first | apply Kd.R_alloc | apply Kd.R_drewN | apply Kd.R_drew)); exact HO_8.out⟩, ⟨by (with_reducible repeat (first | apply Kd.R_alloc | apply Kd.R_drewN | apply Kd.R_drew)); exact HO332.out⟩, ⟨by repeat (first | (with_reducible first | exact HB.out | apply below_alloc | apply pw_below_drewN | apply below_drew1) | exact HB.out)⟩⟩
          case round =>
            clear H'
            try clear c1
            try clear c2
            try clear p2
            try clear c3
            try clear c4
            try clear c5
            try clear p6
            try clear c12
            try clear c12b0
            try clear c13
            try clear c14
            try clear c16
            try clear c16b0
            try clear c16b1
            try clear c17
            try clear c22
            try clear p2
            obtain ⟨x14_2, x64_2, rfl, rfl, HA, HK2, HO_8, HO_62, HB⟩ := hrel
            cases gk with
            | zero => exact absurd HA.out (by simp [laws_FnOneKind.l1])
            | succ k2 =>
              have H := HA.out
              clear HA
              simp only [laws_FnOneKind.l1] at H
              by_cases c28 : x64_2 < (y330.length : Int)
              · rw [if_pos c28] at H
                have c28b0 : decide (x64_2 < (y330.length : Int)) = true := decide_eq_true c28
                clear c28
                by_cases c29 : 0 ≤ x64_2
                · rw [if_pos c29] at H
                  have c29b0 : decide (0 ≤ x64_2) = true := decide_eq_true c29
                  clear c29
                  by_cases c30 : x64_2 < (y330.length : Int)
                  · rw [if_pos c30] at H
                    have c30b0 : decide (x64_2 < (y330.length : Int)) = true := decide_eq_true c30
                    clear c30
                    obtain ⟨bq31, hbq31⟩ : ∃ b_ : Bool, b_ = (rdOf false y330 x64_2) := ⟨_, rfl⟩
                    replace H : (if bq31 = true then (laws_FnOneKind.l1 k2 t318 t321 t322 t323 t324 (wrap64 (x14_2 + 1)) y330 (y330.length : Int) (wrap64 (x64_2 + 1))) else (laws_FnOneKind.l1 k2 t318 t321 t322 t323 t324 x14_2 y330 (y330.length : Int) (wrap64 (x64_2 + 1)))) = some r := by rw [← hbq31] at H; exact H
                    have Nbq31 := Aside0.mk hbq31
                    clear hbq31
                    by_cases c32 : bq31 = true
                    · subst c32
                      have H1 : (laws_FnOneKind.l1 k2 t318 t321 t322 t323 t324 (wrap64 (x14_2 + 1)) y330 (y330.length : Int) (wrap64 (x64_2 + 1))) = some r := by rw [if_pos rfl] at H; exact H
                      clear H
                      have H := H1
                      clear H1
                      have H' := Aside0.mk H
                      clear H
                      have p333 : 0 ≤ (x64_2 : Int) := of_decide_eq_true (by first | (with_reducible assumption) | assumption)
                      have q333 : x64_2 < (y330.length : Int) := of_decide_eq_true (by first | (with_reducible assumption) | assumption)
                      obtain ⟨ad333, e333, hx333_0⟩ := Kd.at_bool (Kd.R_reads' HO_62.out).2.2 x64_2 p333 q333
                      (try rw [← Nbq31.out] at hx333_0)
                      cases e333
                      replace p333 := eq_true p333
                      replace q333 := eq_true q333
                      go_wp2
                      go_roundg k2
                      case measure => have := HK1.out; have := HK2.out; omega
                      case rel => exact ⟨(wrap64 (x14_2 + 1)), (wrap64 (x64_2 + 1)), (by first | rfl | (simp; done) | (simp [*]; done)), (by first | rfl | (simp; done) | (simp [*]; done)), H', ⟨by have := HK1.out; have := HK2.out; omega⟩, ⟨by (with_reducible repeat (first | apply Kd.R_alloc | apply Kd.R_drewN | apply Kd.R_drew)); exact HO_8.out⟩, ⟨by (with_reducible repeat (first | apply Kd.R_alloc | apply Kd.R_drewN | apply Kd.R_drew)); exact HO_62.out⟩, ⟨by repeat (first | (with_reducible first | exact HB.out | apply below_alloc | apply pw_below_drewN | apply below_drew1) | exact HB.out)⟩⟩
                    · replace c32 := Bool.eq_false_iff.mpr c32
                      subst c32
                      have H1 : (laws_FnOneKind.l1 k2 t318 t321 t322 t323 t324 x14_2 y330 (y330.length : Int) (wrap64 (x64_2 + 1))) = some r := by rw [if_neg (show ¬ (false = true) by decide)] at H; exact H
                      clear H
                      have H := H1
                      clear H1
                      have H' := Aside0.mk H
                      clear H
                      have p333 : 0 ≤ (x64_2 : Int) := of_decide_eq_true (by first | (with_reducible assumption) | assumption)
                      have q333 : x64_2 < (y330.length : Int) := of_decide_eq_true (by first | (with_reducible assumption) | assumption)
                      obtain ⟨ad333, e333, hx333_0⟩ := Kd.at_bool (Kd.R_reads' HO_62.out).2.2 x64_2 p333 q333
                      (try rw [← Nbq31.out] at hx333_0)
                      cases e333
                      replace p333 := eq_true p333
                      replace q333 := eq_true q333
                      go_wp2
                      go_roundg k2
                      case measure => have := HK1.out; have := HK2.out; omega
                      case rel => exact ⟨(x14_2), (wrap64 (x64_2 + 1)), (by first | rfl | (simp; done) | (simp [*]; done)), (by first | rfl | (simp; done) | (simp [*]; done)), H', ⟨by have := HK1.out; have := HK2.out; omega⟩, ⟨by (with_reducible repeat (first | apply Kd.R_alloc | apply Kd.R_drewN | apply Kd.R_drew)); exact HO_8.out⟩, ⟨by (with_reducible repeat (first | apply Kd.R_alloc | apply Kd.R_drewN | apply Kd.R_drew)); exact HO_62.out⟩, ⟨by repeat (first | (with_reducible first | exact HB.out | apply below_alloc | apply pw_below_drewN | apply below_drew1) | exact HB.out)⟩⟩
                  · rw [if_neg c30] at H
                    exact absurd H (by simp)
                · rw [if_neg c29] at H
                  exact absurd H (by simp)
              · rw [if_neg c28] at H
                have c28b0 : decide (x64_2 < (y330.length : Int)) = false := decide_eq_false c28
                clear c28
                have HC33 := Aside0.mk H
                clear H
                go_upto_region 22 with (fail)
                go_cut [89] (fun v89 wc => ∃ (kq : Nat) (x89_32 : Bool), v89 = .bool x89_32 ∧ Aside0 (laws_FnOneKind.j2 kq t318 t321 t322 t323 t324 x89_32 = some r) ∧ Aside0 (kq ≤ k2) ∧ Aside0 (Kd.R Kd.string 9 wc w.heap.size (fun _ => True) v325 t323) ∧ Aside0 (Below w.heap.size w wc))
                case first =>
                  have H := HC33.out
                  clear HC33
                  by_cases c34 : x14_2 > 1
                  · rw [if_pos c34] at H
                    have c34b0 : decide (1 < x14_2) = true := decide_eq_true c34
                    clear c34
                    (first | rw [c34b0] | (simp only [i64_w, i32_w]; rw [c34b0]) | skip)
                    have H' := Aside0.mk H
                    clear H
                    go_wp2
                    go_meet
                    case rel => exact ⟨_, (true), (by first | rfl | (simp; done) | (simp [*]; done)), H', ⟨by have := HK1.out; have := HK2.out; first | omega | exact Nat.le_refl _⟩, ⟨by (with_reducible repeat (first | apply Kd.R_alloc | apply Kd.R_drewN | apply Kd.R_drew)); exact HO_8.out⟩, ⟨by repeat (first | (with_reducible first | exact HB.out | apply below_alloc | apply pw_below_drewN | apply below_drew1) | exact HB.out)⟩⟩
                  · rw [if_neg c34] at H
                    have c34b0 : decide (1 < x14_2) = false := decide_eq_false c34
                    clear c34
                    (first | rw [c34b0] | (simp only [i64_w, i32_w]; rw [c34b0]) | skip)
                    by_cases c35 : x14_2 = 1
                    · rw [if_pos c35] at H
                      have c35b0 : (x14_2 == 1) = true := beq_iff_eq.mpr c35
                      have c35b1 : (x14_2 != 1) = false := bne_eq_false_iff_eq.mpr c35
                      clear c35
                      replace H := Option.bind_eq_some_iff.mp H
                      obtain ⟨t334, A360, H⟩ := H
                      replace H : (if t334 = true then ((impl_TermOk.f k2 t318).bind fun t335 => ((spec_TermOk.f k2 t318).bind fun t336 => (laws_FnOneKind.j2 k2 t318 t321 t322 t323 t324 (t335 != t336)))) else (laws_FnOneKind.j2 k2 t318 t321 t322 t323 t324 true)) = some r := H
                      have A36 := Aside0.mk A360
                      clear A360
                      by_cases c37 : t334 = true
                      · subst c37
                        have H1 : ((impl_TermOk.f k2 t318).bind fun t335 => ((spec_TermOk.f k2 t318).bind fun t336 => (laws_FnOneKind.j2 k2 t318 t321 t322 t323 t324 (t335 != t336)))) = some r := by rw [if_pos rfl] at H; exact H
                        clear H
                        have H := H1
                        clear H1
                        replace H := Option.bind_eq_some_iff.mp H
                        obtain ⟨t335, A380, H⟩ := H
                        replace H : ((spec_TermOk.f k2 t318).bind fun t336 => (laws_FnOneKind.j2 k2 t318 t321 t322 t323 t324 (t335 != t336))) = some r := H
                        have A38 := Aside0.mk A380
                        clear A380
                        replace H := Option.bind_eq_some_iff.mp H
                        obtain ⟨t336, A390, H⟩ := H
                        replace H : (laws_FnOneKind.j2 k2 t318 t321 t322 t323 t324 (t335 != t336)) = some r := H
                        have A39 := Aside0.mk A390
                        clear A390
                        have q_335 := Option.some.inj (A38.out.symm.trans A36.out)
                        subst q_335
                        have H' := Aside0.mk H
                        clear H
                        go_wp2_with (first | (go_at_call 55; (with_reducible refine (impl_TermOk.calls k2 t318 true _ A36.out).mono ?_); rintro e w40 ⟨rfl, hb⟩; have n0_ := Aside0.mk (Kd.R_below (by (with_reducible repeat (first | apply Kd.R_alloc | apply Kd.R_drewN | apply Kd.R_drew)); exact HO_8.out) hb); have n1_ := Aside0.mk (Kd.R_below (by (with_reducible repeat (first | apply Kd.R_alloc | apply Kd.R_drewN | apply Kd.R_drew)); exact HO_62.out) hb); have n2_ := Aside0.mk (below_step (by repeat (first | (with_reducible first | exact HB.out | apply below_alloc | apply pw_below_drewN | apply below_drew1) | exact HB.out)) hb); clear HO_8; clear HO_62; clear HB; have HO_8 := n0_; have HO_62 := n1_; have HB := n2_; clear n0_ n1_ n2_; (try clear hb); (try clear hb2); (try clear hk); (try clear hi)) | (go_at_call 55; (with_reducible refine (impl_TermOk.calls k2 t318 t335 _ A38.out).mono ?_); rintro e w41 ⟨rfl, hb⟩; have n0_ := Aside0.mk (Kd.R_below (by (with_reducible repeat (first | apply Kd.R_alloc | apply Kd.R_drewN | apply Kd.R_drew)); exact HO_8.out) hb); have n1_ := Aside0.mk (Kd.R_below (by (with_reducible repeat (first | apply Kd.R_alloc | apply Kd.R_drewN | apply Kd.R_drew)); exact HO_62.out) hb); have n2_ := Aside0.mk (below_step (by repeat (first | (with_reducible first | exact HB.out | apply below_alloc | apply pw_below_drewN | apply below_drew1) | exact HB.out)) hb); clear HO_8; clear HO_62; clear HB; have HO_8 := n0_; have HO_62 := n1_; have HB := n2_; clear n0_ n1_ n2_; (try clear hb); (try clear hb2); (try clear hk); (try clear hi)) | (go_at_call 56; (with_reducible refine (spec_TermOk.calls k2 t318 t336 _ A39.out).mono ?_); rintro e w42 ⟨rfl, hb⟩; have n0_ := Aside0.mk (Kd.R_below (by (with_reducible repeat (first | apply Kd.R_alloc | apply Kd.R_drewN | apply Kd.R_drew)); exact HO_8.out) hb); have n1_ := Aside0.mk (Kd.R_below (by (with_reducible repeat (first | apply Kd.R_alloc | apply Kd.R_drewN | apply Kd.R_drew)); exact HO_62.out) hb); have n2_ := Aside0.mk (below_step (by repeat (first | (with_reducible first | exact HB.out | apply below_alloc | apply pw_below_drewN | apply below_drew1) | exact HB.out)) hb); clear HO_8; clear HO_62; clear HB; have HO_8 := n0_; have HO_62 := n1_; have HB := n2_; clear n0_ n1_ n2_; (try clear hb); (try clear hb2); (try clear hk); (try clear hi)))
                        go_meet
                        case rel => exact ⟨_, ((true != t336)), (by first | rfl | (simp; done) | (simp [*]; done)), H', ⟨by have := HK1.out; have := HK2.out; first | omega | exact Nat.le_refl _⟩, ⟨by (with_reducible repeat (first | apply Kd.R_alloc | apply Kd.R_drewN | apply Kd.R_drew)); exact HO_8.out⟩, ⟨by repeat (first | (with_reducible first | exact HB.out | apply below_alloc | apply pw_below_drewN | apply below_drew1) | exact HB.out)⟩⟩
                      · replace c37 := Bool.eq_false_iff.mpr c37
                        subst c37
                        have H1 : (laws_FnOneKind.j2 k2 t318 t321 t322 t323 t324 true) = some r := by rw [if_neg (show ¬ (false = true) by decide)] at H; exact H
                        clear H
                        have H := H1
                        clear H1
                        have H' := Aside0.mk H
                        clear H
                        go_wp2_with (first | (go_at_call 55; (with_reducible refine (impl_TermOk.calls k2 t318 false _ A36.out).mono ?_); rintro e w43 ⟨rfl, hb⟩; have n0_ := Aside0.mk (Kd.R_below (by (with_reducible repeat (first | apply Kd.R_alloc | apply Kd.R_drewN | apply Kd.R_drew)); exact HO_8.out) hb); have n1_ := Aside0.mk (Kd.R_below (by (with_reducible repeat (first | apply Kd.R_alloc | apply Kd.R_drewN | apply Kd.R_drew)); exact HO_62.out) hb); have n2_ := Aside0.mk (below_step (by repeat (first | (with_reducible first | exact HB.out | apply below_alloc | apply pw_below_drewN | apply below_drew1) | exact HB.out)) hb); clear HO_8; clear HO_62; clear HB; have HO_8 := n0_; have HO_62 := n1_; have HB := n2_; clear n0_ n1_ n2_; (try clear hb); (try clear hb2); (try clear hk); (try clear hi)))
                        go_meet
                        case rel => exact ⟨_, (true), (by first | rfl | (simp; done) | (simp [*]; done)), H', ⟨by have := HK1.out; have := HK2.out; first | omega | exact Nat.le_refl _⟩, ⟨by (with_reducible repeat (first | apply Kd.R_alloc | apply Kd.R_drewN | apply Kd.R_drew)); exact HO_8.out⟩, ⟨by repeat (first | (with_reducible first | exact HB.out | apply below_alloc | apply pw_below_drewN | apply below_drew1) | exact HB.out)⟩⟩
                    · rw [if_neg c35] at H
                      have c35b0 : (x14_2 == 1) = false := beq_eq_false_iff_ne.mpr c35
                      have c35b1 : (x14_2 != 1) = true := bne_iff_ne.mpr c35
                      replace H := Option.bind_eq_some_iff.mp H
                      obtain ⟨t337, A440, H⟩ := H
                      replace H : ((spec_TermOk.f k2 t318).bind fun t338 => (laws_FnOneKind.j2 k2 t318 t321 t322 t323 t324 (t337 != t338))) = some r := H
                      have A44 := Aside0.mk A440
                      clear A440
                      replace H := Option.bind_eq_some_iff.mp H
                      obtain ⟨t338, A450, H⟩ := H
                      replace H : (laws_FnOneKind.j2 k2 t318 t321 t322 t323 t324 (t337 != t338)) = some r := H
                      have A45 := Aside0.mk A450
                      clear A450
                      have H' := Aside0.mk H
                      clear H
                      go_wp2_with (first | (go_at_call 55; (with_reducible refine (impl_TermOk.calls k2 t318 t337 _ A44.out).mono ?_); rintro e w46 ⟨rfl, hb⟩; have n0_ := Aside0.mk (Kd.R_below (by (with_reducible repeat (first | apply Kd.R_alloc | apply Kd.R_drewN | apply Kd.R_drew)); exact HO_8.out) hb); have n1_ := Aside0.mk (Kd.R_below (by (with_reducible repeat (first | apply Kd.R_alloc | apply Kd.R_drewN | apply Kd.R_drew)); exact HO_62.out) hb); have n2_ := Aside0.mk (below_step (by repeat (first | (with_reducible first | exact HB.out | apply below_alloc | apply pw_below_drewN | apply below_drew1) | exact HB.out)) hb); clear HO_8; clear HO_62; clear HB; have HO_8 := n0_; have HO_62 := n1_; have HB := n2_; clear n0_ n1_ n2_; (try clear hb); (try clear hb2); (try clear hk); (try clear hi)) | (go_at_call 56; (with_reducible refine (spec_TermOk.calls k2 t318 t338 _ A45.out).mono ?_); rintro e w47 ⟨rfl, hb⟩; have n0_ := Aside0.mk (Kd.R_below (by (with_reducible repeat (first | apply Kd.R_alloc | apply Kd.R_drewN | apply Kd.R_drew)); exact HO_8.out) hb); have n1_ := Aside0.mk (Kd.R_below (by (with_reducible repeat (first | apply Kd.R_alloc | apply Kd.R_drewN | apply Kd.R_drew)); exact HO_62.out) hb); have n2_ := Aside0.mk (below_step (by repeat (first | (with_reducible first | exact HB.out | apply below_alloc | apply pw_below_drewN | apply below_drew1) | exact HB.out)) hb); clear HO_8; clear HO_62; clear HB; have HO_8 := n0_; have HO_62 := n1_; have HB := n2_; clear n0_ n1_ n2_; (try clear hb); (try clear hb2); (try clear hk); (try clear hi)))
                      go_meet
                      case rel => exact ⟨_, ((t337 != t338)), (by first | rfl | (simp; done) | (simp [*]; done)), H', ⟨by have := HK1.out; have := HK2.out; first | omega | exact Nat.le_refl _⟩, ⟨by (with_reducible repeat (first | apply Kd.R_alloc | apply Kd.R_drewN | apply Kd.R_drew)); exact HO_8.out⟩, ⟨by repeat (first | (with_reducible first | exact HB.out | apply below_alloc | apply pw_below_drewN | apply below_drew1) | exact HB.out)⟩⟩
                case rest =>
                  clear HC33
                  try clear c1
                  try clear c2
                  try clear p2
                  try clear c3
                  try clear p3
                  try clear q3
                  try clear hx3
                  try clear c4
                  try clear c5
                  try clear p6
                  try clear c12
                  try clear c12b0
                  try clear c13
                  try clear c14
                  try clear c16
                  try clear c16b0
                  try clear c16b1
                  try clear c17
                  try clear c22
                  try clear c28
                  try clear c28b0
                  try clear c29
                  try clear c29b0
                  try clear c30
                  try clear c30b0
                  try clear q31
                  try clear c32
                  try clear p33
                  try clear q33
                  try clear hx33
                  try clear c34
                  try clear c34b0
                  try clear c35
                  try clear c35b0
                  try clear c35b1
                  try clear c37
                  try clear hx333_0
                  try clear p2
                  try clear p333
                  try clear p6
                  try clear q333
                  obtain ⟨kq, x89_32, rfl, HA, HJ32, HO_8, HB⟩ := hcut
                  cases kq with
                  | zero => exact absurd HA.out (by simp [laws_FnOneKind.j2])
                  | succ kj32 =>
                    have H := HA.out
                    clear HA
                    simp only [laws_FnOneKind.j2] at H
                    by_cases c48 : x89_32 = true
                    · subst c48
                      have H1 : (some false) = some r := by rw [if_pos rfl] at H; exact H
                      clear H
                      have H := H1
                      clear H1
                      rw [hr_true.out] at H
                      exact absurd H (by simp)
                    · replace c48 := Bool.eq_false_iff.mpr c48
                      subst c48
                      have H1 : (if t322 = true then ((impl_KeyTerm.f kj32 t321).bind fun t339 => (if t339.toList = t318.toList then (if t324 = true then ((impl_List.f kj32 t323).bind fun t340 => (some (t340.toList == t318.toList))) else (some true)) else (some false))) else (if t324 = true then ((impl_List.f kj32 t323).bind fun t341 => (some (t341.toList == t318.toList))) else (some true))) = some r := by rw [if_neg (show ¬ (false = true) by decide)] at H; exact H
                      clear H
                      have H := H1
                      clear H1
                      by_cases c49 : t322 = true
                      · subst c49
                        have H1 : ((impl_KeyTerm.f kj32 t321).bind fun t339 => (if t339.toList = t318.toList then (if t324 = true then ((impl_List.f kj32 t323).bind fun t340 => (some (t340.toList == t318.toList))) else (some true)) else (some false))) = some r := by rw [if_pos rfl] at H; exact H
                        clear H
                        have H := H1
                        clear H1
                        replace H := Option.bind_eq_some_iff.mp H
                        obtain ⟨t339, A500, H⟩ := H
                        replace H : (if t339.toList = t318.toList then (if t324 = true then ((impl_List.f kj32 t323).bind fun t340 => (some (t340.toList == t318.toList))) else (some true)) else (some false)) = some r := H
                        have A50 := Aside0.mk A500
                        clear A500
                        by_cases c51 : t339.toList = t318.toList
                        · rw [if_pos c51] at H
                          have c51b0 : (t339.toList == t318.toList) = true := beq_iff_eq.mpr c51
                          have c51b1 : (t339.toList != t318.toList) = false := bne_eq_false_iff_eq.mpr c51
                          clear c51
                          by_cases c52 : t324 = true
                          · subst c52
                            have H1 : ((impl_List.f kj32 t323).bind fun t340 => (some (t340.toList == t318.toList))) = some r := by rw [if_pos rfl] at H; exact H
                            clear H
                            have H := H1
                            clear H1
                            replace H := Option.bind_eq_some_iff.mp H
                            obtain ⟨t340, A530, H⟩ := H
                            replace H : (some (t340.toList == t318.toList)) = some r := H
                            have A53 := Aside0.mk A530
                            clear A530
                            obtain rfl := Option.some.inj H
                            go_wp2_with (first | (go_at_call 57; (with_reducible refine (impl_KeyTerm.calls kj32 t321 t339 _ A50.out).mono ?_); rintro e w54 ⟨rfl, hb⟩; have n0_ := Aside0.mk (Kd.R_below (by (with_reducible repeat (first | apply Kd.R_alloc | apply Kd.R_drewN | apply Kd.R_drew)); exact HO_8.out) hb); have n1_ := Aside0.mk (below_step (by repeat (first | (with_reducible first | exact HB.out | apply below_alloc | apply pw_below_drewN | apply below_drew1) | exact HB.out)) hb); clear HO_8; clear HB; have HO_8 := n0_; have HB := n1_; clear n0_ n1_; (try clear hb); (try clear hb2); (try clear hk); (try clear hi); obtain ⟨Ao55, co55, eo55⟩ := Kd.R_slice HO_8.out; subst eo55) | (go_at_call 58; (with_reducible refine (impl_List.calls kj32 _ _ t323 t340 _ ?side1 ?side2 A53.out).mono ?_); (case side1 => repeat (first | exact (Kd.R_reads' HO_8.out).2.2 | (with_reducible refine Kd.C_alloc ?_ _) | (with_reducible refine Kd.C_drewN ?_ _) | (with_reducible refine Kd.C_drew ?_))); (case side2 => exact (Kd.R_reads' HO_8.out).2.1); rintro e w56 ⟨rfl, hb⟩; have n0_ := Aside0.mk (Kd.R_below (by (with_reducible repeat (first | apply Kd.R_alloc | apply Kd.R_drewN | apply Kd.R_drew)); exact HO_8.out) hb); have n1_ := Aside0.mk (below_step (by repeat (first | (with_reducible first | exact HB.out | apply below_alloc | apply pw_below_drewN | apply below_drew1) | exact HB.out)) hb); clear HO_8; clear HB; have HO_8 := n0_; have HB := n1_; clear n0_ n1_; (try clear hb); (try clear hb2); (try clear hk); (try clear hi)))
                            go_ret
                            exact ⟨by first | rfl | (simp [errW_none, errW_some] <;> rfl) | (simp [*, errW_none, errW_some] <;> rfl), by repeat (first | (with_reducible first | exact HB.out | apply below_alloc | apply pw_below_drewN | apply below_drew1) | exact HB.out)⟩
                          · replace c52 := Bool.eq_false_iff.mpr c52
                            subst c52
                            have H1 : (some true) = some r := by rw [if_neg (show ¬ (false = true) by decide)] at H; exact H
                            clear H
                            have H := H1
                            clear H1
                            obtain rfl := Option.some.inj H
                            go_wp2_with (first | (go_at_call 57; (with_reducible refine (impl_KeyTerm.calls kj32 t321 t339 _ A50.out).mono ?_); rintro e w57 ⟨rfl, hb⟩; have n0_ := Aside0.mk (Kd.R_below (by (with_reducible repeat (first | apply Kd.R_alloc | apply Kd.R_drewN | apply Kd.R_drew)); exact HO_8.out) hb); have n1_ := Aside0.mk (below_step (by repeat (first | (with_reducible first | exact HB.out | apply below_alloc | apply pw_below_drewN | apply below_drew1) | exact HB.out)) hb); clear HO_8; clear HB; have HO_8 := n0_; have HB := n1_; clear n0_ n1_; (try clear hb); (try clear hb2); (try clear hk); (try clear hi)))
                            go_ret
                            exact ⟨by first | rfl | (simp [errW_none, errW_some] <;> rfl) | (simp [*, errW_none, errW_some] <;> rfl), by repeat (first | (with_reducible first | exact HB.out | apply below_alloc | apply pw_below_drewN | apply below_drew1) | exact HB.out)⟩
                        · rw [if_neg c51] at H
                          have c51b0 : (t339.toList == t318.toList) = false := beq_eq_false_iff_ne.mpr c51
                          have c51b1 : (t339.toList != t318.toList) = true := bne_iff_ne.mpr c51
                          rw [hr_true.out] at H
                          exact absurd H (by simp)
                      · replace c49 := Bool.eq_false_iff.mpr c49
                        subst c49
                        have H1 : (if t324 = true then ((impl_List.f kj32 t323).bind fun t341 => (some (t341.toList == t318.toList))) else (some true)) = some r := by rw [if_neg (show ¬ (false = true) by decide)] at H; exact H
                        clear H
                        have H := H1
                        clear H1
                        by_cases c58 : t324 = true
                        · subst c58
                          have H1 : ((impl_List.f kj32 t323).bind fun t341 => (some (t341.toList == t318.toList))) = some r := by rw [if_pos rfl] at H; exact H
                          clear H
                          have H := H1
                          clear H1
                          replace H := Option.bind_eq_some_iff.mp H
                          obtain ⟨t341, A590, H⟩ := H
                          replace H : (some (t341.toList == t318.toList)) = some r := H
                          have A59 := Aside0.mk A590
                          clear A590
                          obtain rfl := Option.some.inj H
                          obtain ⟨Ao60, co60, eo60⟩ := Kd.R_slice HO_8.out
                          subst eo60
                          go_wp2_with (first | (go_at_call 58; (with_reducible refine (impl_List.calls kj32 _ _ t323 t341 _ ?side1 ?side2 A59.out).mono ?_); (case side1 => repeat (first | exact (Kd.R_reads' HO_8.out).2.2 | (with_reducible refine Kd.C_alloc ?_ _) | (with_reducible refine Kd.C_drewN ?_ _) | (with_reducible refine Kd.C_drew ?_))); (case side2 => exact (Kd.R_reads' HO_8.out).2.1); rintro e w61 ⟨rfl, hb⟩; have n0_ := Aside0.mk (Kd.R_below (by (with_reducible repeat (first | apply Kd.R_alloc | apply Kd.R_drewN | apply Kd.R_drew)); exact HO_8.out) hb); have n1_ := Aside0.mk (below_step (by repeat (first | (with_reducible first | exact HB.out | apply below_alloc | apply pw_below_drewN | apply below_drew1) | exact HB.out)) hb); clear HO_8; clear HB; have HO_8 := n0_; have HB := n1_; clear n0_ n1_; (try clear hb); (try clear hb2); (try clear hk); (try clear hi)))
                          go_ret
                          exact ⟨by first | rfl | (simp [errW_none, errW_some] <;> rfl) | (simp [*, errW_none, errW_some] <;> rfl), by repeat (first | (with_reducible first | exact HB.out | apply below_alloc | apply pw_below_drewN | apply below_drew1) | exact HB.out)⟩
                        · replace c58 := Bool.eq_false_iff.mpr c58
                          subst c58
                          have H1 : (some true) = some r := by rw [if_neg (show ¬ (false = true) by decide)] at H; exact H
                          clear H
                          have H := H1
                          clear H1
                          obtain rfl := Option.some.inj H
                          go_wp2
                          go_ret
                          exact ⟨by first | rfl | (simp [errW_none, errW_some] <;> rfl) | (simp [*, errW_none, errW_some] <;> rfl), by repeat (first | (with_reducible first | exact HB.out | apply below_alloc | apply pw_below_drewN | apply below_drew1) | exact HB.out)⟩

/-- THE ONE PURE STATEMENT of laws_FnOneKind: yours. -/
def laws_FnOneKind.Pure : Prop := ∀ (l0 : List Int), l0.length ≤ maxLen → l0.length * 1 ≤ 140737488351232 → (∀ x ∈ l0, (Lit.int .u8 x).wf = true) → ∃ k, laws_FnOneKind.f k l0 = some true
theorem laws_FnOneKind.walk (P : laws_FnOneKind.Pure) (a0 : Option Addr) (len0 cap0 : Nat) (z0 : List Int) (w : World) (w0 : (a0 = none ∧ len0 = 0 ∧ cap0 = 0 ∧ z0 = []) ∨ ∃ x, a0 = some x ∧ len0 ≤ cap0 ∧ cap0 ≤ maxLen ∧ z0.length = cap0 ∧ (∀ i, i < z0.length → w.cell? (x.add i) = some (.int .u8 (z0.getD i 0))) ∧ ∀ n ∈ z0, (Lit.int .u8 n).wf = true) (y0 : len0 * 1 ≤ 140737488351232) :
    Calls Try.prog 13 #[.slice a0 len0 cap0] w fun e w' => e = .returned (.bool true) ∧ Below w.heap.size w w' := by
  obtain ⟨l0, rfl, hr0, hm0, hw0, hc0⟩ := ReadsInt.ofRowC w0
  obtain ⟨k, h⟩ := P l0 hm0 y0 hw0
  refine (laws_FnOneKind.calls k _ _ l0 true w (Kd.C_of_reads (d := (0 : Int)) (h1 := fun _ => rfl) hr0) hc0 h ⟨rfl⟩).mono ?_
  rintro e w' ⟨rfl, hd⟩
  exact ⟨rfl, hd⟩

end Go.Proofs.Ytfgcgfioachocaa.OFnOneKind
