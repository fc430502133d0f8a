-- walks of this claim, written by a program of mine
import Derived.Test.YtmhjpnjolgigmaaOFnExactReadTicketx0
import Derived.Test.YtmhjpnjolgigmaaOFnExactReadTicketx1
import Derived.Test.YtmhjpnjolgigmaaOFnExactReadTicketx6
import Derived.Test.YtmhjpnjolgigmaaOFnExactReadTicketx12
import Derived.Test.YtmhjpnjolgigmaaOFnExactReadTicketx13
namespace Go.Proofs.Ytmhjpnjolgigmaa.OFnExactReadTicket
open Go.RowKit Go.Proofs.Ytmhjpnjolgigmaa.OWord Go.Proofs.YtmhjpnjolgigmaaW.PrintWords Go.Proofs.YtmhjpnjolgigmaaW.PrintLast Go.Proofs.YtmhjpnjolgigmaaW.PrintMore
attribute [local go_sem] max2_int min2_int max_two min_two max_three min_three max_four min_four   -- for this text's walks alone
set_option linter.unusedVariables false
set_option linter.unusedSimpArgs false

/-! ### laws_FnExactReadTicket: function 8 -/
mutual
def laws_FnExactReadTicket.j0 : Nat → ByteArray → Int → Bool → Bool → Int → Int → Int → Int → Int → Int → List Int → List Int → Int → Int → Int → Int → Int → Int → List Int → List Int → Option (Bool)
 | 0, _, _, _, _, _, _, _, _, _, _, _, _, _, _, _, _, _, _, _, _ => none
 | k + 1, x0, x1, x6, x36, x432000, x432001, x432002, x432003, x432004, x432005, x432006, x432007, x446000, x446001, x446002, x446003, x446004, x446005, x446006, x446007 => if x36 = true then (some false) else ((laws_markTicket.f k x446000 x446001 x446002 x446003 x446004 x446005 x446006 x446007 1).bind fun bt447 => ((laws_heldTicket.f k x446000 x446001 x446002 x446003 x446004 x446005 bt447.2.1 bt447.2.2 1).bind fun t450 => (if t450 < 0 then (some false) else (if t450 = bt447.1 then ((impl_ReadTicket.f k x0 x1).bind fun bt451 => ((laws_eqTicket.f k bt451.1 bt451.2.1 bt451.2.2.1 bt451.2.2.2.1 bt451.2.2.2.2.1 bt451.2.2.2.2.2.1 bt451.2.2.2.2.2.2.1 bt451.2.2.2.2.2.2.2.1 x432000 x432001 x432002 x432003 x432004 x432005 x432006 x432007).bind fun t465 => (if t465 = true then (laws_FnExactReadTicket.j1 k bt447.1 (bt451.2.2.2.2.2.2.2.2 != x6) x446000 x446001 x446002 x446003 x446004 x446005 bt447.2.1 bt447.2.2) else (laws_FnExactReadTicket.j1 k bt447.1 true x446000 x446001 x446002 x446003 x446004 x446005 bt447.2.1 bt447.2.2)))) else (some false)))))
def laws_FnExactReadTicket.j1 : Nat → Int → Bool → Int → Int → Int → Int → Int → Int → List Int → List Int → Option (Bool)
 | 0, _, _, _, _, _, _, _, _, _, _ => none
 | k + 1, x9, x62, x446000, x446001, x446002, x446003, x446004, x446005, x446006, x446007 => if x62 = true then (some false) else ((laws_heldTicket.f k x446000 x446001 x446002 x446003 x446004 x446005 x446006 x446007 1).bind fun t466 => (if t466 < 0 then (some false) else (if t466 = x9 then (some true) else (some false))))
end
def laws_FnExactReadTicket.f (k : Nat) (a0 : ByteArray) (a1 : Int) : Option (Bool) := if (a0.size : Int) > 1048576 then (some true) else ((spec_ReadTicket.f k a0 a1).bind fun bt418 => ((impl_ReadTicket.f k a0 a1).bind fun bt432 => ((laws_eqTicket.f k bt432.1 bt432.2.1 bt432.2.2.1 bt432.2.2.2.1 bt432.2.2.2.2.1 bt432.2.2.2.2.2.1 bt432.2.2.2.2.2.2.1 bt432.2.2.2.2.2.2.2.1 bt418.1 bt418.2.1 bt418.2.2.1 bt418.2.2.2.1 bt418.2.2.2.2.1 bt418.2.2.2.2.2.1 bt418.2.2.2.2.2.2.1 bt418.2.2.2.2.2.2.2.1).bind fun t446 => (if t446 = true then (laws_FnExactReadTicket.j0 k a0 a1 bt418.2.2.2.2.2.2.2.2 (bt432.2.2.2.2.2.2.2.2 != bt418.2.2.2.2.2.2.2.2) bt418.1 bt418.2.1 bt418.2.2.1 bt418.2.2.2.1 bt418.2.2.2.2.1 bt418.2.2.2.2.2.1 bt418.2.2.2.2.2.2.1 bt418.2.2.2.2.2.2.2.1 bt432.1 bt432.2.1 bt432.2.2.1 bt432.2.2.2.1 bt432.2.2.2.2.1 bt432.2.2.2.2.2.1 bt432.2.2.2.2.2.2.1 bt432.2.2.2.2.2.2.2.1) else (laws_FnExactReadTicket.j0 k a0 a1 bt418.2.2.2.2.2.2.2.2 true bt418.1 bt418.2.1 bt418.2.2.1 bt418.2.2.2.1 bt418.2.2.2.2.1 bt418.2.2.2.2.2.1 bt418.2.2.2.2.2.2.1 bt418.2.2.2.2.2.2.2.1 bt432.1 bt432.2.1 bt432.2.2.1 bt432.2.2.2.1 bt432.2.2.2.2.1 bt432.2.2.2.2.2.1 bt432.2.2.2.2.2.2.1 bt432.2.2.2.2.2.2.2.1)))))
theorem laws_FnExactReadTicket.mono_l : ∀ k, (∀ y0 y1 y2 y3 y4 y5 y6 y7 y8 y9 y10 y11 y12 y13 y14 y15 y16 y17 y18 y19, LeO (laws_FnExactReadTicket.j0 k y0 y1 y2 y3 y4 y5 y6 y7 y8 y9 y10 y11 y12 y13 y14 y15 y16 y17 y18 y19) (laws_FnExactReadTicket.j0 (k + 1) y0 y1 y2 y3 y4 y5 y6 y7 y8 y9 y10 y11 y12 y13 y14 y15 y16 y17 y18 y19)) ∧ (∀ y0 y1 y2 y3 y4 y5 y6 y7 y8 y9, LeO (laws_FnExactReadTicket.j1 k y0 y1 y2 y3 y4 y5 y6 y7 y8 y9) (laws_FnExactReadTicket.j1 (k + 1) y0 y1 y2 y3 y4 y5 y6 y7 y8 y9))
 | 0 => ⟨fun _ _ _ _ _ _ _ _ _ _ _ _ _ _ _ _ _ _ _ _ r h => by simp [laws_FnExactReadTicket.j0] at h, fun _ _ _ _ _ _ _ _ _ _ r h => by simp [laws_FnExactReadTicket.j1] at h⟩
 | k + 1 => by
  obtain ⟨ih0, ih1⟩ := laws_FnExactReadTicket.mono_l k
  refine ⟨?_, ?_⟩
  ·intro y0 y1 y2 y3 y4 y5 y6 y7 y8 y9 y10 y11 y12 y13 y14 y15 y16 y17 y18 y19
   unfold laws_FnExactReadTicket.j0
   repeat' first
   | (with_reducible exact ih0 _ _ _ _ _ _ _ _ _ _ _ _ _ _ _ _ _ _ _ _)
   | (with_reducible exact ih1 _ _ _ _ _ _ _ _ _ _)
   | (with_reducible exact impl_ReadTicket.mono _ _ _)
   | (with_reducible exact laws_eqTicket.mono _ _ _ _ _ _ _ _ _ _ _ _ _ _ _ _ _)
   | (with_reducible exact laws_heldTicket.mono _ _ _ _ _ _ _ _ _ _)
   | (with_reducible exact laws_markTicket.mono _ _ _ _ _ _ _ _ _ _)
   | (with_reducible exact spec_ReadTicket.mono _ _ _)
   | (with_reducible exact LeO.refl _)
   | (with_reducible exact LeO.none _)
   | (with_reducible refine LeO.ite ?_ ?_)
   | (with_reducible refine LeO.bind ?_ (fun _ => ?_))
   | exact ih0 _ _ _ _ _ _ _ _ _ _ _ _ _ _ _ _ _ _ _ _
   | exact ih1 _ _ _ _ _ _ _ _ _ _
   | exact impl_ReadTicket.mono _ _ _
   | exact laws_eqTicket.mono _ _ _ _ _ _ _ _ _ _ _ _ _ _ _ _ _
   | exact laws_heldTicket.mono _ _ _ _ _ _ _ _ _ _
   | exact laws_markTicket.mono _ _ _ _ _ _ _ _ _ _
   | exact spec_ReadTicket.mono _ _ _
   | exact LeO.none _
   | refine LeO.ite ?_ ?_
   | refine LeO.bind ?_ (fun _ => ?_)
  ·intro y0 y1 y2 y3 y4 y5 y6 y7 y8 y9
   unfold laws_FnExactReadTicket.j1
   repeat' first
   | (with_reducible exact ih0 _ _ _ _ _ _ _ _ _ _ _ _ _ _ _ _ _ _ _ _)
   | (with_reducible exact ih1 _ _ _ _ _ _ _ _ _ _)
   | (with_reducible exact impl_ReadTicket.mono _ _ _)
   | (with_reducible exact laws_eqTicket.mono _ _ _ _ _ _ _ _ _ _ _ _ _ _ _ _ _)
   | (with_reducible exact laws_heldTicket.mono _ _ _ _ _ _ _ _ _ _)
   | (with_reducible exact laws_markTicket.mono _ _ _ _ _ _ _ _ _ _)
   | (with_reducible exact spec_ReadTicket.mono _ _ _)
   | (with_reducible exact LeO.refl _)
   | (with_reducible exact LeO.none _)
   | (with_reducible refine LeO.ite ?_ ?_)
   | (with_reducible refine LeO.bind ?_ (fun _ => ?_))
   | exact ih0 _ _ _ _ _ _ _ _ _ _ _ _ _ _ _ _ _ _ _ _
   | exact ih1 _ _ _ _ _ _ _ _ _ _
   | exact impl_ReadTicket.mono _ _ _
   | exact laws_eqTicket.mono _ _ _ _ _ _ _ _ _ _ _ _ _ _ _ _ _
   | exact laws_heldTicket.mono _ _ _ _ _ _ _ _ _ _
   | exact laws_markTicket.mono _ _ _ _ _ _ _ _ _ _
   | exact spec_ReadTicket.mono _ _ _
   | exact LeO.none _
   | refine LeO.ite ?_ ?_
   | refine LeO.bind ?_ (fun _ => ?_)
theorem laws_FnExactReadTicket.mono : ∀ a0 a1 k, LeO (laws_FnExactReadTicket.f k a0 a1) (laws_FnExactReadTicket.f (k + 1) a0 a1) := by
 intro a0 a1 k
 obtain ⟨ih0, ih1⟩ := laws_FnExactReadTicket.mono_l k
 unfold laws_FnExactReadTicket.f
 repeat' first
   | (with_reducible exact ih0 _ _ _ _ _ _ _ _ _ _ _ _ _ _ _ _ _ _ _ _)
   | (with_reducible exact ih1 _ _ _ _ _ _ _ _ _ _)
   | (with_reducible exact impl_ReadTicket.mono _ _ _)
   | (with_reducible exact laws_eqTicket.mono _ _ _ _ _ _ _ _ _ _ _ _ _ _ _ _ _)
   | (with_reducible exact laws_heldTicket.mono _ _ _ _ _ _ _ _ _ _)
   | (with_reducible exact laws_markTicket.mono _ _ _ _ _ _ _ _ _ _)
   | (with_reducible exact spec_ReadTicket.mono _ _ _)
   | (with_reducible exact LeO.refl _)
   | (with_reducible exact LeO.none _)
   | (with_reducible refine LeO.ite ?_ ?_)
   | (with_reducible refine LeO.bind ?_ (fun _ => ?_))
   | exact ih0 _ _ _ _ _ _ _ _ _ _ _ _ _ _ _ _ _ _ _ _
   | exact ih1 _ _ _ _ _ _ _ _ _ _
   | exact impl_ReadTicket.mono _ _ _
   | exact laws_eqTicket.mono _ _ _ _ _ _ _ _ _ _ _ _ _ _ _ _ _
   | exact laws_heldTicket.mono _ _ _ _ _ _ _ _ _ _
   | exact laws_markTicket.mono _ _ _ _ _ _ _ _ _ _
   | exact spec_ReadTicket.mono _ _ _
   | exact LeO.none _
   | refine LeO.ite ?_ ?_
   | refine LeO.bind ?_ (fun _ => ?_)
set_option maxHeartbeats 8000000 in
set_option maxRecDepth 100000 in
theorem laws_FnExactReadTicket.calls (k : Nat) (a0 : ByteArray) (a1 : Int) (r : Bool) (w : World) (h : laws_FnExactReadTicket.f k a0 a1 = some r) (hr_true : Aside0 (r = true)) :
  Calls Try.prog 8 #[.string a0, .int .i64 a1] w fun e w' => e = .returned (.bool r) ∧ Below w.heap.size w w' := by
 have hu52 := Try.underlying52
 have HB := Aside0.mk (Below.refl w.heap.size w)
 have H : (if (a0.size : Int) > 1048576 then (some true) else ((spec_ReadTicket.f k a0 a1).bind fun bt418 => ((impl_ReadTicket.f k a0 a1).bind fun bt432 => ((laws_eqTicket.f k bt432.1 bt432.2.1 bt432.2.2.1 bt432.2.2.2.1 bt432.2.2.2.2.1 bt432.2.2.2.2.2.1 bt432.2.2.2.2.2.2.1 bt432.2.2.2.2.2.2.2.1 bt418.1 bt418.2.1 bt418.2.2.1 bt418.2.2.2.1 bt418.2.2.2.2.1 bt418.2.2.2.2.2.1 bt418.2.2.2.2.2.2.1 bt418.2.2.2.2.2.2.2.1).bind fun t446 => (if t446 = true then (laws_FnExactReadTicket.j0 k a0 a1 bt418.2.2.2.2.2.2.2.2 (bt432.2.2.2.2.2.2.2.2 != bt418.2.2.2.2.2.2.2.2) bt418.1 bt418.2.1 bt418.2.2.1 bt418.2.2.2.1 bt418.2.2.2.2.1 bt418.2.2.2.2.2.1 bt418.2.2.2.2.2.2.1 bt418.2.2.2.2.2.2.2.1 bt432.1 bt432.2.1 bt432.2.2.1 bt432.2.2.2.1 bt432.2.2.2.2.1 bt432.2.2.2.2.2.1 bt432.2.2.2.2.2.2.1 bt432.2.2.2.2.2.2.2.1) else (laws_FnExactReadTicket.j0 k a0 a1 bt418.2.2.2.2.2.2.2.2 true bt418.1 bt418.2.1 bt418.2.2.1 bt418.2.2.2.1 bt418.2.2.2.2.1 bt418.2.2.2.2.2.1 bt418.2.2.2.2.2.2.1 bt418.2.2.2.2.2.2.2.1 bt432.1 bt432.2.1 bt432.2.2.1 bt432.2.2.2.1 bt432.2.2.2.2.1 bt432.2.2.2.2.2.1 bt432.2.2.2.2.2.2.1 bt432.2.2.2.2.2.2.2.1)))))) = some r := h
 clear h
 by_cases c3 : (a0.size : Int) > 1048576
 ·rw [if_pos c3] at H
  have c3b0 : decide (1048576 < (a0.size : Int)) = true := decide_eq_true c3
  have c3b1 : decide (1048576 < a0.size) = true := decide_eq_true (by omega)
  clear c3
  obtain rfl := Option.some.inj H
  go_enter Try.func8, Try.ntmps8
  go_wp2
  go_ret
  exact ⟨eE, bH⟩
 ·rw [if_neg c3] at H
  have c3b0 : decide (1048576 < (a0.size : Int)) = false := decide_eq_false c3
  have c3b1 : decide (1048576 < a0.size) = false := decide_eq_false (by omega)
  clear c3
  replace H := Option.bind_eq_some_iff.mp H
  obtain ⟨⟨t418, t419, t420, t421, t422, t423, t424, t427, t430⟩, A40, H⟩ := H
  replace H : ((impl_ReadTicket.f k a0 a1).bind fun bt432 => ((laws_eqTicket.f k bt432.1 bt432.2.1 bt432.2.2.1 bt432.2.2.2.1 bt432.2.2.2.2.1 bt432.2.2.2.2.2.1 bt432.2.2.2.2.2.2.1 bt432.2.2.2.2.2.2.2.1 t418 t419 t420 t421 t422 t423 t424 t427).bind fun t446 => (if t446 = true then (laws_FnExactReadTicket.j0 k a0 a1 t430 (bt432.2.2.2.2.2.2.2.2 != t430) t418 t419 t420 t421 t422 t423 t424 t427 bt432.1 bt432.2.1 bt432.2.2.1 bt432.2.2.2.1 bt432.2.2.2.2.1 bt432.2.2.2.2.2.1 bt432.2.2.2.2.2.2.1 bt432.2.2.2.2.2.2.2.1) else (laws_FnExactReadTicket.j0 k a0 a1 t430 true t418 t419 t420 t421 t422 t423 t424 t427 bt432.1 bt432.2.1 bt432.2.2.1 bt432.2.2.2.1 bt432.2.2.2.2.1 bt432.2.2.2.2.2.1 bt432.2.2.2.2.2.2.1 bt432.2.2.2.2.2.2.2.1)))) = some r := H
  have A4 := Aside0.mk A40
  clear A40
  replace H := Option.bind_eq_some_iff.mp H
  obtain ⟨⟨t432, t433, t434, t435, t436, t437, t438, t441, t444⟩, A50, H⟩ := H
  replace H : ((laws_eqTicket.f k t432 t433 t434 t435 t436 t437 t438 t441 t418 t419 t420 t421 t422 t423 t424 t427).bind fun t446 => (if t446 = true then (laws_FnExactReadTicket.j0 k a0 a1 t430 (t444 != t430) t418 t419 t420 t421 t422 t423 t424 t427 t432 t433 t434 t435 t436 t437 t438 t441) else (laws_FnExactReadTicket.j0 k a0 a1 t430 true t418 t419 t420 t421 t422 t423 t424 t427 t432 t433 t434 t435 t436 t437 t438 t441))) = some r := H
  have A5 := Aside0.mk A50
  clear A50
  have HC6 := Aside0.mk H
  clear H
  go_enter Try.func8, Try.ntmps8
  go_upto_region 5 with (first | ((with_reducible refine gate_callee (f := 26) rfl ?_); refine goesL_ (some 19) rfl rfl Try.func26 (by kernel_rfl) rfl #[.string a0, .int .i64 a1] rfl eA ?_; (with_reducible refine (spec_ReadTicket.calls k a0 a1 t418 t419 t420 t421 t422 t423 t424 t427 t430 _ A4.out).mono ?_); rintro e w7 ⟨v425, v428, rfl, ho0, ho1, hb⟩; refine ⟨_, rfl, ?_⟩; have n0_ := Aside0.mk (Kd.R_lower ho0 (below_size bH)); have n1_ := Aside0.mk (Kd.R_lower ho1 (below_size bH)); have n2_ := Aside0.mk (below_step bH hb); clear HB; have HO426 := n0_; have HO429 := n1_; have HB := n2_; clear n0_ n1_ n2_; (try clear hb); (try clear hb2); (try clear hk); (try clear hi); (try clear ho0); (try clear ho1)) | ((with_reducible refine gate_dst (N := 5) rfl ?_); refine box_event ?hg (N := 5) ?hd (cs := #[.int .i64 0, .int .i64 0, .int .i64 0, .int .i64 0, .int .i64 0, .int .i64 0, .slice none 0 0, .slice none 0 0]) (t := 52) ?hr ?_; (case hd => rfl); (case hg => rfl); (case hr => first | (go_simp; done) | (go_simp; rfl)); intro gb431 hg w8 hbox hb; have n0_ := Aside0.mk (Kd.R_below (kR HO426.out) hb); have n1_ := Aside0.mk (Kd.R_below (kR HO429.out) hb); have n2_ := Aside0.mk (below_step bH hb); have n3_ := Aside0.mk (hbox); have n4_ := Aside0.mk ((bZ hg : w.heap.size ≤ gb431)); have n5_ := Aside0.mk ((bZ hg : w.heap.size ≤ gb431)); clear HO426; clear HO429; clear HB; have HO426 := n0_; have HO429 := n1_; have HB := n2_; have BK431 := n3_; have GW431 := n4_; have GE431 := n5_; clear n0_ n1_ n2_ n3_ n4_ n5_; clear hb hbox hg; have hcz9_0 : w8.cell? ⟨gb431, 0, none⟩ = some (.int .i64 0) := (blk_cell BK431.out 0).trans rfl; have hcz9_1 : w8.cell? ⟨gb431, 1, none⟩ = some (.int .i64 0) := (blk_cell BK431.out 1).trans rfl; have hcz9_2 : w8.cell? ⟨gb431, 2, none⟩ = some (.int .i64 0) := (blk_cell BK431.out 2).trans rfl; have hcz9_3 : w8.cell? ⟨gb431, 3, none⟩ = some (.int .i64 0) := (blk_cell BK431.out 3).trans rfl; have hcz9_4 : w8.cell? ⟨gb431, 4, none⟩ = some (.int .i64 0) := (blk_cell BK431.out 4).trans rfl; have hcz9_5 : w8.cell? ⟨gb431, 5, none⟩ = some (.int .i64 0) := (blk_cell BK431.out 5).trans rfl; have hcz9_6 : w8.cell? ⟨gb431, 6, none⟩ = some (.slice none 0 0) := (blk_cell BK431.out 6).trans rfl; have hcz9_7 : w8.cell? ⟨gb431, 7, none⟩ = some (.slice none 0 0) := (blk_cell BK431.out 7).trans rfl; have hfz9_0 := blk_frozen BK431.out 0; have hfz9_1 := blk_frozen BK431.out 1; have hfz9_2 := blk_frozen BK431.out 2; have hfz9_3 := blk_frozen BK431.out 3; have hfz9_4 := blk_frozen BK431.out 4; have hfz9_5 := blk_frozen BK431.out 5; have hfz9_6 := blk_frozen BK431.out 6; have hfz9_7 := blk_frozen BK431.out 7; obtain ⟨Ao10, co10, eo10⟩ := Kd.R_slice HO426.out; subst eo10; obtain ⟨Ao11, co11, eo11⟩ := Kd.R_slice HO429.out; subst eo11) | ((with_reducible refine gate_callee (f := 27) rfl ?_); refine goesL_ (some 25) rfl rfl Try.func27 (by kernel_rfl) rfl #[.string a0, .int .i64 a1] rfl eA ?_; (with_reducible refine (impl_ReadTicket.calls k a0 a1 t432 t433 t434 t435 t436 t437 t438 t441 t444 _ A5.out).mono ?_); rintro e w12 ⟨v439, v442, rfl, ho0, ho1, hb⟩; refine ⟨_, rfl, ?_⟩; have n0_ := Aside0.mk (Kd.R_mono (Kd.R_told (Kd.R_told (Kd.R_old (by (with_reducible repeat (first | apply Kd.R_alloc | apply Kd.R_drewN | apply Kd.R_drew)); exact (Kd.R_mono (Kd.R_far (p := ⟨gb431, 7, none⟩) (Kd.R_far (p := ⟨gb431, 6, none⟩) (Kd.R_far (p := ⟨gb431, 5, none⟩) (Kd.R_far (p := ⟨gb431, 4, none⟩) (Kd.R_far (p := ⟨gb431, 3, none⟩) (Kd.R_far (p := ⟨gb431, 2, none⟩) (Kd.R_far (p := ⟨gb431, 1, none⟩) (Kd.R_far (p := ⟨gb431, 0, none⟩) (Kd.R_types HO426.out BK431.out (by decide)) (fun _ hk => hk.2) (.int .i64 t418)) (fun _ hk => hk.2) (.int .i64 t419)) (fun _ hk => hk.2) (.int .i64 t420)) (fun _ hk => hk.2) (.int .i64 t421)) (fun _ hk => hk.2) (.int .i64 t422)) (fun _ hk => hk.2) (.int .i64 t423)) (fun _ hk => hk.2) (.slice Ao10 t424.length co10)) (fun _ hk => hk.2) (.slice Ao11 t427.length co11)) (fun _ h_ => h_.1))) hb) (Kd.R_base ho0)) (Kd.R_base ho1)) (fun _ h_ => h_.1)); have n1_ := Aside0.mk (Kd.R_mono (Kd.R_told (Kd.R_told (Kd.R_old (by (with_reducible repeat (first | apply Kd.R_alloc | apply Kd.R_drewN | apply Kd.R_drew)); exact (Kd.R_mono (Kd.R_far (p := ⟨gb431, 7, none⟩) (Kd.R_far (p := ⟨gb431, 6, none⟩) (Kd.R_far (p := ⟨gb431, 5, none⟩) (Kd.R_far (p := ⟨gb431, 4, none⟩) (Kd.R_far (p := ⟨gb431, 3, none⟩) (Kd.R_far (p := ⟨gb431, 2, none⟩) (Kd.R_far (p := ⟨gb431, 1, none⟩) (Kd.R_far (p := ⟨gb431, 0, none⟩) (Kd.R_types HO429.out BK431.out (by decide)) (fun _ hk => hk.2) (.int .i64 t418)) (fun _ hk => hk.2) (.int .i64 t419)) (fun _ hk => hk.2) (.int .i64 t420)) (fun _ hk => hk.2) (.int .i64 t421)) (fun _ hk => hk.2) (.int .i64 t422)) (fun _ hk => hk.2) (.int .i64 t423)) (fun _ hk => hk.2) (.slice Ao10 t424.length co10)) (fun _ hk => hk.2) (.slice Ao11 t427.length co11)) (fun _ h_ => h_.1))) hb) (Kd.R_base ho0)) (Kd.R_base ho1)) (fun _ h_ => h_.1)); have n2_ := Aside0.mk (Kd.R_lower (Kd.R_new' (Kd.R_new' ho0 (Kd.R_lt (by (with_reducible repeat (first | apply Kd.R_alloc | apply Kd.R_drewN | apply Kd.R_drew)); exact (Kd.R_mono (Kd.R_far (p := ⟨gb431, 7, none⟩) (Kd.R_far (p := ⟨gb431, 6, none⟩) (Kd.R_far (p := ⟨gb431, 5, none⟩) (Kd.R_far (p := ⟨gb431, 4, none⟩) (Kd.R_far (p := ⟨gb431, 3, none⟩) (Kd.R_far (p := ⟨gb431, 2, none⟩) (Kd.R_far (p := ⟨gb431, 1, none⟩) (Kd.R_far (p := ⟨gb431, 0, none⟩) (Kd.R_types HO426.out BK431.out (by decide)) (fun _ hk => hk.2) (.int .i64 t418)) (fun _ hk => hk.2) (.int .i64 t419)) (fun _ hk => hk.2) (.int .i64 t420)) (fun _ hk => hk.2) (.int .i64 t421)) (fun _ hk => hk.2) (.int .i64 t422)) (fun _ hk => hk.2) (.int .i64 t423)) (fun _ hk => hk.2) (.slice Ao10 t424.length co10)) (fun _ hk => hk.2) (.slice Ao11 t427.length co11)) (fun _ h_ => h_.1))))) (Kd.R_lt (by (with_reducible repeat (first | apply Kd.R_alloc | apply Kd.R_drewN | apply Kd.R_drew)); exact (Kd.R_mono (Kd.R_far (p := ⟨gb431, 7, none⟩) (Kd.R_far (p := ⟨gb431, 6, none⟩) (Kd.R_far (p := ⟨gb431, 5, none⟩) (Kd.R_far (p := ⟨gb431, 4, none⟩) (Kd.R_far (p := ⟨gb431, 3, none⟩) (Kd.R_far (p := ⟨gb431, 2, none⟩) (Kd.R_far (p := ⟨gb431, 1, none⟩) (Kd.R_far (p := ⟨gb431, 0, none⟩) (Kd.R_types HO429.out BK431.out (by decide)) (fun _ hk => hk.2) (.int .i64 t418)) (fun _ hk => hk.2) (.int .i64 t419)) (fun _ hk => hk.2) (.int .i64 t420)) (fun _ hk => hk.2) (.int .i64 t421)) (fun _ hk => hk.2) (.int .i64 t422)) (fun _ hk => hk.2) (.int .i64 t423)) (fun _ hk => hk.2) (.slice Ao10 t424.length co10)) (fun _ hk => hk.2) (.slice Ao11 t427.length co11)) (fun _ h_ => h_.1))))) (below_size bS)); have n3_ := Aside0.mk (Kd.R_lower (Kd.R_new' (Kd.R_new' ho1 (Kd.R_lt (by (with_reducible repeat (first | apply Kd.R_alloc | apply Kd.R_drewN | apply Kd.R_drew)); exact (Kd.R_mono (Kd.R_far (p := ⟨gb431, 7, none⟩) (Kd.R_far (p := ⟨gb431, 6, none⟩) (Kd.R_far (p := ⟨gb431, 5, none⟩) (Kd.R_far (p := ⟨gb431, 4, none⟩) (Kd.R_far (p := ⟨gb431, 3, none⟩) (Kd.R_far (p := ⟨gb431, 2, none⟩) (Kd.R_far (p := ⟨gb431, 1, none⟩) (Kd.R_far (p := ⟨gb431, 0, none⟩) (Kd.R_types HO426.out BK431.out (by decide)) (fun _ hk => hk.2) (.int .i64 t418)) (fun _ hk => hk.2) (.int .i64 t419)) (fun _ hk => hk.2) (.int .i64 t420)) (fun _ hk => hk.2) (.int .i64 t421)) (fun _ hk => hk.2) (.int .i64 t422)) (fun _ hk => hk.2) (.int .i64 t423)) (fun _ hk => hk.2) (.slice Ao10 t424.length co10)) (fun _ hk => hk.2) (.slice Ao11 t427.length co11)) (fun _ h_ => h_.1))))) (Kd.R_lt (by (with_reducible repeat (first | apply Kd.R_alloc | apply Kd.R_drewN | apply Kd.R_drew)); exact (Kd.R_mono (Kd.R_far (p := ⟨gb431, 7, none⟩) (Kd.R_far (p := ⟨gb431, 6, none⟩) (Kd.R_far (p := ⟨gb431, 5, none⟩) (Kd.R_far (p := ⟨gb431, 4, none⟩) (Kd.R_far (p := ⟨gb431, 3, none⟩) (Kd.R_far (p := ⟨gb431, 2, none⟩) (Kd.R_far (p := ⟨gb431, 1, none⟩) (Kd.R_far (p := ⟨gb431, 0, none⟩) (Kd.R_types HO429.out BK431.out (by decide)) (fun _ hk => hk.2) (.int .i64 t418)) (fun _ hk => hk.2) (.int .i64 t419)) (fun _ hk => hk.2) (.int .i64 t420)) (fun _ hk => hk.2) (.int .i64 t421)) (fun _ hk => hk.2) (.int .i64 t422)) (fun _ hk => hk.2) (.int .i64 t423)) (fun _ hk => hk.2) (.slice Ao10 t424.length co10)) (fun _ hk => hk.2) (.slice Ao11 t427.length co11)) (fun _ h_ => h_.1))))) (below_size bS)); have n4_ := Aside0.mk (blk_below (g := gb431) (o := .cells #[.int .i64 t418, .int .i64 t419, .int .i64 t420, .int .i64 t421, .int .i64 t422, .int .i64 t423, .slice Ao10 t424.length co10, .slice Ao11 t427.length co11] 52 (0, 0)) (by (with_reducible repeat (first | refine blk_drewN ?_ _ | refine blk_drew ?_ | refine blk_alloc ?_ _)); refine blk_put (cs := #[.int .i64 t418, .int .i64 t419, .int .i64 t420, .int .i64 t421, .int .i64 t422, .int .i64 t423, .slice Ao10 t424.length co10, .slice none 0 0]) ?_ 7 _ rfl; (with_reducible repeat (first | refine blk_drewN ?_ _ | refine blk_drew ?_ | refine blk_alloc ?_ _)); refine blk_put (cs := #[.int .i64 t418, .int .i64 t419, .int .i64 t420, .int .i64 t421, .int .i64 t422, .int .i64 t423, .slice none 0 0, .slice none 0 0]) ?_ 6 _ rfl; (with_reducible repeat (first | refine blk_drewN ?_ _ | refine blk_drew ?_ | refine blk_alloc ?_ _)); refine blk_put (cs := #[.int .i64 t418, .int .i64 t419, .int .i64 t420, .int .i64 t421, .int .i64 t422, .int .i64 0, .slice none 0 0, .slice none 0 0]) ?_ 5 _ rfl; (with_reducible repeat (first | refine blk_drewN ?_ _ | refine blk_drew ?_ | refine blk_alloc ?_ _)); refine blk_put (cs := #[.int .i64 t418, .int .i64 t419, .int .i64 t420, .int .i64 t421, .int .i64 0, .int .i64 0, .slice none 0 0, .slice none 0 0]) ?_ 4 _ rfl; (with_reducible repeat (first | refine blk_drewN ?_ _ | refine blk_drew ?_ | refine blk_alloc ?_ _)); refine blk_put (cs := #[.int .i64 t418, .int .i64 t419, .int .i64 t420, .int .i64 0, .int .i64 0, .int .i64 0, .slice none 0 0, .slice none 0 0]) ?_ 3 _ rfl; (with_reducible repeat (first | refine blk_drewN ?_ _ | refine blk_drew ?_ | refine blk_alloc ?_ _)); refine blk_put (cs := #[.int .i64 t418, .int .i64 t419, .int .i64 0, .int .i64 0, .int .i64 0, .int .i64 0, .slice none 0 0, .slice none 0 0]) ?_ 2 _ rfl; (with_reducible repeat (first | refine blk_drewN ?_ _ | refine blk_drew ?_ | refine blk_alloc ?_ _)); refine blk_put (cs := #[.int .i64 t418, .int .i64 0, .int .i64 0, .int .i64 0, .int .i64 0, .int .i64 0, .slice none 0 0, .slice none 0 0]) ?_ 1 _ rfl; (with_reducible repeat (first | refine blk_drewN ?_ _ | refine blk_drew ?_ | refine blk_alloc ?_ _)); refine blk_put (cs := #[.int .i64 0, .int .i64 0, .int .i64 0, .int .i64 0, .int .i64 0, .int .i64 0, .slice none 0 0, .slice none 0 0]) ?_ 0 _ rfl; (with_reducible repeat (first | refine blk_drewN ?_ _ | refine blk_drew ?_ | refine blk_alloc ?_ _)); exact BK431.out) hb); have n5_ := Aside0.mk (below_step bS hb); clear HO426; clear HO429; clear BK431; clear HB; have HO426 := n0_; have HO429 := n1_; have HO440 := n2_; have HO443 := n3_; have BK431 := n4_; have HB := n5_; clear n0_ n1_ n2_ n3_ n4_ n5_; (try clear hb); (try clear hb2); (try clear hk); (try clear hi); (try clear ho0); (try clear ho1)) | ((with_reducible refine gate_dst (N := 7) rfl ?_); refine box_event ?hg (N := 7) ?hd (cs := #[.int .i64 0, .int .i64 0, .int .i64 0, .int .i64 0, .int .i64 0, .int .i64 0, .slice none 0 0, .slice none 0 0]) (t := 52) ?hr ?_; (case hd => rfl); (case hg => rfl); (case hr => first | (go_simp; done) | (go_simp; rfl)); intro gb445 hg w13 hbox hb; have n0_ := Aside0.mk (Kd.R_below (kR HO426.out) hb); have n1_ := Aside0.mk (Kd.R_below (kR HO429.out) hb); have n2_ := Aside0.mk (Kd.R_below (kR HO440.out) hb); have n3_ := Aside0.mk (Kd.R_below (kR HO443.out) hb); have n4_ := Aside0.mk (blk_below (kB BK431.out) hb); have n5_ := Aside0.mk (below_step bS hb); have n6_ := Aside0.mk (hbox); have n7_ := Aside0.mk ((bZ hg : w.heap.size ≤ gb445)); have n8_ := Aside0.mk ((bZ hg : w.heap.size ≤ gb445)); have n9_ := Aside0.mk ((nL hg BK431.out : gb431 ≠ gb445)); have n10_ := Aside0.mk ((nG hg BK431.out : gb445 ≠ gb431)); clear HO426; clear HO429; clear HO440; clear HO443; clear BK431; clear HB; have HO426 := n0_; have HO429 := n1_; have HO440 := n2_; have HO443 := n3_; have BK431 := n4_; have HB := n5_; have BK445 := n6_; have GW445 := n7_; have GE445 := n8_; have NB431_445 := n9_; have NB445_431 := n10_; clear n0_ n1_ n2_ n3_ n4_ n5_ n6_ n7_ n8_ n9_ n10_; clear hb hbox hg; have hnb14 := NB445_431.out; have hnc14 := NB431_445.out; have hcz15_0 : w13.cell? ⟨gb445, 0, none⟩ = some (.int .i64 0) := (blk_cell BK445.out 0).trans rfl; have hcz15_1 : w13.cell? ⟨gb445, 1, none⟩ = some (.int .i64 0) := (blk_cell BK445.out 1).trans rfl; have hcz15_2 : w13.cell? ⟨gb445, 2, none⟩ = some (.int .i64 0) := (blk_cell BK445.out 2).trans rfl; have hcz15_3 : w13.cell? ⟨gb445, 3, none⟩ = some (.int .i64 0) := (blk_cell BK445.out 3).trans rfl; have hcz15_4 : w13.cell? ⟨gb445, 4, none⟩ = some (.int .i64 0) := (blk_cell BK445.out 4).trans rfl; have hcz15_5 : w13.cell? ⟨gb445, 5, none⟩ = some (.int .i64 0) := (blk_cell BK445.out 5).trans rfl; have hcz15_6 : w13.cell? ⟨gb445, 6, none⟩ = some (.slice none 0 0) := (blk_cell BK445.out 6).trans rfl; have hcz15_7 : w13.cell? ⟨gb445, 7, none⟩ = some (.slice none 0 0) := (blk_cell BK445.out 7).trans rfl; have hfz15_0 := blk_frozen BK445.out 0; have hfz15_1 := blk_frozen BK445.out 1; have hfz15_2 := blk_frozen BK445.out 2; have hfz15_3 := blk_frozen BK445.out 3; have hfz15_4 := blk_frozen BK445.out 4; have hfz15_5 := blk_frozen BK445.out 5; have hfz15_6 := blk_frozen BK445.out 6; have hfz15_7 := blk_frozen BK445.out 7; obtain ⟨Ao16, co16, eo16⟩ := Kd.R_slice HO440.out; subst eo16; obtain ⟨Ao17, co17, eo17⟩ := Kd.R_slice HO443.out; subst eo17))
  (try simp only [Act.put, List.setIfInBounds_toArray, List.set_cons_zero, List.set_cons_succ])
  go_cut [36] (fun v36 wc => ∃ (kq : Nat) (x36_5 : Bool), v36 = .bool x36_5 ∧ Aside0 (laws_FnExactReadTicket.j0 kq a0 a1 t430 x36_5 t418 t419 t420 t421 t422 t423 t424 t427 t432 t433 t434 t435 t436 t437 t438 t441 = some r) ∧ Aside0 (kq ≤ k) ∧ Aside0 (Kd.R (Kd.int .i64) 3 wc w.heap.size (fun k_ => some k_ ≠ ((.slice Ao11 t427.length co11) : Value).ownBlock ∧ some k_ ≠ ((.slice Ao16 t438.length co16) : Value).ownBlock ∧ some k_ ≠ ((.slice Ao17 t441.length co17) : Value).ownBlock) (.slice Ao10 t424.length co10) t424) ∧ Aside0 (Kd.R (Kd.int .i64) 3 wc w.heap.size (fun k_ => some k_ ≠ ((.slice Ao10 t424.length co10) : Value).ownBlock ∧ some k_ ≠ ((.slice Ao16 t438.length co16) : Value).ownBlock ∧ some k_ ≠ ((.slice Ao17 t441.length co17) : Value).ownBlock) (.slice Ao11 t427.length co11) t427) ∧ Aside0 (Kd.R (Kd.int .i64) 3 wc w.heap.size (fun k_ => some k_ ≠ ((.slice Ao10 t424.length co10) : Value).ownBlock ∧ some k_ ≠ ((.slice Ao11 t427.length co11) : Value).ownBlock ∧ some k_ ≠ ((.slice Ao17 t441.length co17) : Value).ownBlock) (.slice Ao16 t438.length co16) t438) ∧ Aside0 (Kd.R (Kd.int .i64) 3 wc w.heap.size (fun k_ => some k_ ≠ ((.slice Ao10 t424.length co10) : Value).ownBlock ∧ some k_ ≠ ((.slice Ao11 t427.length co11) : Value).ownBlock ∧ some k_ ≠ ((.slice Ao16 t438.length co16) : Value).ownBlock) (.slice Ao17 t441.length co17) t441) ∧ Aside0 (wc.heap[gb431]? = some (.cells #[.int .i64 t418, .int .i64 t419, .int .i64 t420, .int .i64 t421, .int .i64 t422, .int .i64 t423, (.slice Ao10 t424.length co10), (.slice Ao11 t427.length co11)] 52 (0, 0))) ∧ Aside0 (wc.heap[gb445]? = some (.cells #[.int .i64 t432, .int .i64 t433, .int .i64 t434, .int .i64 t435, .int .i64 t436, .int .i64 t437, (.slice Ao16 t438.length co16), (.slice Ao17 t441.length co17)] 52 (0, 0))) ∧ Aside0 (Below w.heap.size w wc))
  case first =>
   have H := HC6.out
   clear HC6
   replace H := Option.bind_eq_some_iff.mp H
   obtain ⟨t446, A180, H⟩ := H
   replace H : (if t446 = true then (laws_FnExactReadTicket.j0 k a0 a1 t430 (t444 != t430) t418 t419 t420 t421 t422 t423 t424 t427 t432 t433 t434 t435 t436 t437 t438 t441) else (laws_FnExactReadTicket.j0 k a0 a1 t430 true t418 t419 t420 t421 t422 t423 t424 t427 t432 t433 t434 t435 t436 t437 t438 t441)) = some r := H
   have A18 := Aside0.mk A180
   clear A180
   by_cases c19 : t446 = true
   ·subst c19
    have H1 : (laws_FnExactReadTicket.j0 k a0 a1 t430 (t444 != t430) t418 t419 t420 t421 t422 t423 t424 t427 t432 t433 t434 t435 t436 t437 t438 t441) = some r := by rw [if_pos rfl] at H; exact H
    clear H
    have H := H1
    clear H1
    have H' := Aside0.mk H
    clear H
    have hnb20 := NB445_431.out
    have hnc20 := NB431_445.out
    have hcz21_0 : w13.cell? ⟨gb445, 0, none⟩ = some (.int .i64 0) := (blk_cell BK445.out 0).trans rfl
    have hcz21_1 : w13.cell? ⟨gb445, 1, none⟩ = some (.int .i64 0) := (blk_cell BK445.out 1).trans rfl
    have hcz21_2 : w13.cell? ⟨gb445, 2, none⟩ = some (.int .i64 0) := (blk_cell BK445.out 2).trans rfl
    have hcz21_3 : w13.cell? ⟨gb445, 3, none⟩ = some (.int .i64 0) := (blk_cell BK445.out 3).trans rfl
    have hcz21_4 : w13.cell? ⟨gb445, 4, none⟩ = some (.int .i64 0) := (blk_cell BK445.out 4).trans rfl
    have hcz21_5 : w13.cell? ⟨gb445, 5, none⟩ = some (.int .i64 0) := (blk_cell BK445.out 5).trans rfl
    have hcz21_6 : w13.cell? ⟨gb445, 6, none⟩ = some (.slice none 0 0) := (blk_cell BK445.out 6).trans rfl
    have hcz21_7 : w13.cell? ⟨gb445, 7, none⟩ = some (.slice none 0 0) := (blk_cell BK445.out 7).trans rfl
    have hfz21_0 := blk_frozen BK445.out 0
    have hfz21_1 := blk_frozen BK445.out 1
    have hfz21_2 := blk_frozen BK445.out 2
    have hfz21_3 := blk_frozen BK445.out 3
    have hfz21_4 := blk_frozen BK445.out 4
    have hfz21_5 := blk_frozen BK445.out 5
    have hfz21_6 := blk_frozen BK445.out 6
    have hfz21_7 := blk_frozen BK445.out 7
    have hcz22_0 : w13.cell? ⟨gb431, 0, none⟩ = some (.int .i64 t418) := (blk_cell BK431.out 0).trans rfl
    have hcz22_1 : w13.cell? ⟨gb431, 1, none⟩ = some (.int .i64 t419) := (blk_cell BK431.out 1).trans rfl
    have hcz22_2 : w13.cell? ⟨gb431, 2, none⟩ = some (.int .i64 t420) := (blk_cell BK431.out 2).trans rfl
    have hcz22_3 : w13.cell? ⟨gb431, 3, none⟩ = some (.int .i64 t421) := (blk_cell BK431.out 3).trans rfl
    have hcz22_4 : w13.cell? ⟨gb431, 4, none⟩ = some (.int .i64 t422) := (blk_cell BK431.out 4).trans rfl
    have hcz22_5 : w13.cell? ⟨gb431, 5, none⟩ = some (.int .i64 t423) := (blk_cell BK431.out 5).trans rfl
    have hcz22_6 : w13.cell? ⟨gb431, 6, none⟩ = some (.slice Ao10 t424.length co10) := (blk_cell BK431.out 6).trans rfl
    have hcz22_7 : w13.cell? ⟨gb431, 7, none⟩ = some (.slice Ao11 t427.length co11) := (blk_cell BK431.out 7).trans rfl
    have hfz22_0 := blk_frozen BK431.out 0
    have hfz22_1 := blk_frozen BK431.out 1
    have hfz22_2 := blk_frozen BK431.out 2
    have hfz22_3 := blk_frozen BK431.out 3
    have hfz22_4 := blk_frozen BK431.out 4
    have hfz22_5 := blk_frozen BK431.out 5
    have hfz22_6 := blk_frozen BK431.out 6
    have hfz22_7 := blk_frozen BK431.out 7
    go_wp2_with (first | ((with_reducible refine gate_callee (f := 25) rfl ?_); refine goesL_ (some 30) rfl rfl Try.func25 (by kernel_rfl) rfl #[.agg #[.int .i64 t432, .int .i64 t433, .int .i64 t434, .int .i64 t435, .int .i64 t436, .int .i64 t437, .slice Ao16 t438.length co16, .slice Ao17 t441.length co17], .agg #[.int .i64 t418, .int .i64 t419, .int .i64 t420, .int .i64 t421, .int .i64 t422, .int .i64 t423, .slice Ao10 t424.length co10, .slice Ao11 t427.length co11]] rfl eA ?_; (with_reducible refine (laws_eqTicket.calls k t432 t433 t434 t435 t436 t437 _ _ t438 _ _ t441 t418 t419 t420 t421 t422 t423 _ _ t424 _ _ t427 true _ ?side1 ?side2 ?side3 ?side4 ?side5 ?side6 ?side7 ?side8 A18.out).mono ?_); (case side1 => refine (Kd.R_reads' (e := 3) (base := w.heap.size) (ok := fun k_ => ((some k_ ≠ (.slice Ao17 t441.length co17 : Value).ownBlock ∧ some k_ ≠ (.slice Ao10 t424.length co10 : Value).ownBlock) ∧ some k_ ≠ (.slice Ao11 t427.length co11 : Value).ownBlock)) (n := t438.length) (c := co16) ?_).2.2; exact (by (with_reducible repeat (first | apply Kd.R_alloc | apply Kd.R_drewN | apply Kd.R_drew)); exact (Kd.R_mono (Kd.R_far (p := ⟨gb445, 7, none⟩) (Kd.R_far (p := ⟨gb445, 6, none⟩) (Kd.R_far (p := ⟨gb445, 5, none⟩) (Kd.R_far (p := ⟨gb445, 4, none⟩) (Kd.R_far (p := ⟨gb445, 3, none⟩) (Kd.R_far (p := ⟨gb445, 2, none⟩) (Kd.R_far (p := ⟨gb445, 1, none⟩) (Kd.R_far (p := ⟨gb445, 0, none⟩) (Kd.R_types HO440.out BK445.out (by decide)) (fun _ hk => hk.2) (.int .i64 t432)) (fun _ hk => hk.2) (.int .i64 t433)) (fun _ hk => hk.2) (.int .i64 t434)) (fun _ hk => hk.2) (.int .i64 t435)) (fun _ hk => hk.2) (.int .i64 t436)) (fun _ hk => hk.2) (.int .i64 t437)) (fun _ hk => hk.2) (.slice Ao16 t438.length co16)) (fun _ hk => hk.2) (.slice Ao17 t441.length co17)) (fun _ h_ => h_.1)))); (case side2 => exact (Kd.R_reads' HO440.out).2.1); (case side3 => refine (Kd.R_reads' (e := 3) (base := w.heap.size) (ok := fun k_ => ((some k_ ≠ (.slice Ao16 t438.length co16 : Value).ownBlock ∧ some k_ ≠ (.slice Ao10 t424.length co10 : Value).ownBlock) ∧ some k_ ≠ (.slice Ao11 t427.length co11 : Value).ownBlock)) (n := t441.length) (c := co17) ?_).2.2; exact (by (with_reducible repeat (first | apply Kd.R_alloc | apply Kd.R_drewN | apply Kd.R_drew)); exact (Kd.R_mono (Kd.R_far (p := ⟨gb445, 7, none⟩) (Kd.R_far (p := ⟨gb445, 6, none⟩) (Kd.R_far (p := ⟨gb445, 5, none⟩) (Kd.R_far (p := ⟨gb445, 4, none⟩) (Kd.R_far (p := ⟨gb445, 3, none⟩) (Kd.R_far (p := ⟨gb445, 2, none⟩) (Kd.R_far (p := ⟨gb445, 1, none⟩) (Kd.R_far (p := ⟨gb445, 0, none⟩) (Kd.R_types HO443.out BK445.out (by decide)) (fun _ hk => hk.2) (.int .i64 t432)) (fun _ hk => hk.2) (.int .i64 t433)) (fun _ hk => hk.2) (.int .i64 t434)) (fun _ hk => hk.2) (.int .i64 t435)) (fun _ hk => hk.2) (.int .i64 t436)) (fun _ hk => hk.2) (.int .i64 t437)) (fun _ hk => hk.2) (.slice Ao16 t438.length co16)) (fun _ hk => hk.2) (.slice Ao17 t441.length co17)) (fun _ h_ => h_.1)))); (case side4 => exact (Kd.R_reads' HO443.out).2.1); (case side5 => refine (Kd.R_reads' (e := 3) (base := w.heap.size) (ok := fun k_ => ((some k_ ≠ (.slice Ao11 t427.length co11 : Value).ownBlock ∧ some k_ ≠ (.slice Ao16 t438.length co16 : Value).ownBlock) ∧ some k_ ≠ (.slice Ao17 t441.length co17 : Value).ownBlock)) (n := t424.length) (c := co10) ?_).2.2; exact (by (with_reducible repeat (first | apply Kd.R_alloc | apply Kd.R_drewN | apply Kd.R_drew)); exact (Kd.R_mono (Kd.R_far (p := ⟨gb445, 7, none⟩) (Kd.R_far (p := ⟨gb445, 6, none⟩) (Kd.R_far (p := ⟨gb445, 5, none⟩) (Kd.R_far (p := ⟨gb445, 4, none⟩) (Kd.R_far (p := ⟨gb445, 3, none⟩) (Kd.R_far (p := ⟨gb445, 2, none⟩) (Kd.R_far (p := ⟨gb445, 1, none⟩) (Kd.R_far (p := ⟨gb445, 0, none⟩) (Kd.R_types HO426.out BK445.out (by decide)) (fun _ hk => hk.2) (.int .i64 t432)) (fun _ hk => hk.2) (.int .i64 t433)) (fun _ hk => hk.2) (.int .i64 t434)) (fun _ hk => hk.2) (.int .i64 t435)) (fun _ hk => hk.2) (.int .i64 t436)) (fun _ hk => hk.2) (.int .i64 t437)) (fun _ hk => hk.2) (.slice Ao16 t438.length co16)) (fun _ hk => hk.2) (.slice Ao17 t441.length co17)) (fun _ h_ => h_.1)))); (case side6 => exact (Kd.R_reads' HO426.out).2.1); (case side7 => refine (Kd.R_reads' (e := 3) (base := w.heap.size) (ok := fun k_ => ((some k_ ≠ (.slice Ao10 t424.length co10 : Value).ownBlock ∧ some k_ ≠ (.slice Ao16 t438.length co16 : Value).ownBlock) ∧ some k_ ≠ (.slice Ao17 t441.length co17 : Value).ownBlock)) (n := t427.length) (c := co11) ?_).2.2; exact (by (with_reducible repeat (first | apply Kd.R_alloc | apply Kd.R_drewN | apply Kd.R_drew)); exact (Kd.R_mono (Kd.R_far (p := ⟨gb445, 7, none⟩) (Kd.R_far (p := ⟨gb445, 6, none⟩) (Kd.R_far (p := ⟨gb445, 5, none⟩) (Kd.R_far (p := ⟨gb445, 4, none⟩) (Kd.R_far (p := ⟨gb445, 3, none⟩) (Kd.R_far (p := ⟨gb445, 2, none⟩) (Kd.R_far (p := ⟨gb445, 1, none⟩) (Kd.R_far (p := ⟨gb445, 0, none⟩) (Kd.R_types HO429.out BK445.out (by decide)) (fun _ hk => hk.2) (.int .i64 t432)) (fun _ hk => hk.2) (.int .i64 t433)) (fun _ hk => hk.2) (.int .i64 t434)) (fun _ hk => hk.2) (.int .i64 t435)) (fun _ hk => hk.2) (.int .i64 t436)) (fun _ hk => hk.2) (.int .i64 t437)) (fun _ hk => hk.2) (.slice Ao16 t438.length co16)) (fun _ hk => hk.2) (.slice Ao17 t441.length co17)) (fun _ h_ => h_.1)))); (case side8 => exact (Kd.R_reads' HO429.out).2.1); rintro e w23 ⟨rfl, hb⟩; refine ⟨_, rfl, ?_⟩; have n0_ := Aside0.mk (Kd.R_below (by (with_reducible repeat (first | apply Kd.R_alloc | apply Kd.R_drewN | apply Kd.R_drew)); exact (Kd.R_mono (Kd.R_far (p := ⟨gb445, 7, none⟩) (Kd.R_far (p := ⟨gb445, 6, none⟩) (Kd.R_far (p := ⟨gb445, 5, none⟩) (Kd.R_far (p := ⟨gb445, 4, none⟩) (Kd.R_far (p := ⟨gb445, 3, none⟩) (Kd.R_far (p := ⟨gb445, 2, none⟩) (Kd.R_far (p := ⟨gb445, 1, none⟩) (Kd.R_far (p := ⟨gb445, 0, none⟩) (Kd.R_types HO426.out BK445.out (by decide)) (fun _ hk => hk.2) (.int .i64 t432)) (fun _ hk => hk.2) (.int .i64 t433)) (fun _ hk => hk.2) (.int .i64 t434)) (fun _ hk => hk.2) (.int .i64 t435)) (fun _ hk => hk.2) (.int .i64 t436)) (fun _ hk => hk.2) (.int .i64 t437)) (fun _ hk => hk.2) (.slice Ao16 t438.length co16)) (fun _ hk => hk.2) (.slice Ao17 t441.length co17)) (fun _ h_ => h_.1))) hb); have n1_ := Aside0.mk (Kd.R_below (by (with_reducible repeat (first | apply Kd.R_alloc | apply Kd.R_drewN | apply Kd.R_drew)); exact (Kd.R_mono (Kd.R_far (p := ⟨gb445, 7, none⟩) (Kd.R_far (p := ⟨gb445, 6, none⟩) (Kd.R_far (p := ⟨gb445, 5, none⟩) (Kd.R_far (p := ⟨gb445, 4, none⟩) (Kd.R_far (p := ⟨gb445, 3, none⟩) (Kd.R_far (p := ⟨gb445, 2, none⟩) (Kd.R_far (p := ⟨gb445, 1, none⟩) (Kd.R_far (p := ⟨gb445, 0, none⟩) (Kd.R_types HO429.out BK445.out (by decide)) (fun _ hk => hk.2) (.int .i64 t432)) (fun _ hk => hk.2) (.int .i64 t433)) (fun _ hk => hk.2) (.int .i64 t434)) (fun _ hk => hk.2) (.int .i64 t435)) (fun _ hk => hk.2) (.int .i64 t436)) (fun _ hk => hk.2) (.int .i64 t437)) (fun _ hk => hk.2) (.slice Ao16 t438.length co16)) (fun _ hk => hk.2) (.slice Ao17 t441.length co17)) (fun _ h_ => h_.1))) hb); have n2_ := Aside0.mk (Kd.R_below (by (with_reducible repeat (first | apply Kd.R_alloc | apply Kd.R_drewN | apply Kd.R_drew)); exact (Kd.R_mono (Kd.R_far (p := ⟨gb445, 7, none⟩) (Kd.R_far (p := ⟨gb445, 6, none⟩) (Kd.R_far (p := ⟨gb445, 5, none⟩) (Kd.R_far (p := ⟨gb445, 4, none⟩) (Kd.R_far (p := ⟨gb445, 3, none⟩) (Kd.R_far (p := ⟨gb445, 2, none⟩) (Kd.R_far (p := ⟨gb445, 1, none⟩) (Kd.R_far (p := ⟨gb445, 0, none⟩) (Kd.R_types HO440.out BK445.out (by decide)) (fun _ hk => hk.2) (.int .i64 t432)) (fun _ hk => hk.2) (.int .i64 t433)) (fun _ hk => hk.2) (.int .i64 t434)) (fun _ hk => hk.2) (.int .i64 t435)) (fun _ hk => hk.2) (.int .i64 t436)) (fun _ hk => hk.2) (.int .i64 t437)) (fun _ hk => hk.2) (.slice Ao16 t438.length co16)) (fun _ hk => hk.2) (.slice Ao17 t441.length co17)) (fun _ h_ => h_.1))) hb); have n3_ := Aside0.mk (Kd.R_below (by (with_reducible repeat (first | apply Kd.R_alloc | apply Kd.R_drewN | apply Kd.R_drew)); exact (Kd.R_mono (Kd.R_far (p := ⟨gb445, 7, none⟩) (Kd.R_far (p := ⟨gb445, 6, none⟩) (Kd.R_far (p := ⟨gb445, 5, none⟩) (Kd.R_far (p := ⟨gb445, 4, none⟩) (Kd.R_far (p := ⟨gb445, 3, none⟩) (Kd.R_far (p := ⟨gb445, 2, none⟩) (Kd.R_far (p := ⟨gb445, 1, none⟩) (Kd.R_far (p := ⟨gb445, 0, none⟩) (Kd.R_types HO443.out BK445.out (by decide)) (fun _ hk => hk.2) (.int .i64 t432)) (fun _ hk => hk.2) (.int .i64 t433)) (fun _ hk => hk.2) (.int .i64 t434)) (fun _ hk => hk.2) (.int .i64 t435)) (fun _ hk => hk.2) (.int .i64 t436)) (fun _ hk => hk.2) (.int .i64 t437)) (fun _ hk => hk.2) (.slice Ao16 t438.length co16)) (fun _ hk => hk.2) (.slice Ao17 t441.length co17)) (fun _ h_ => h_.1))) hb); have n4_ := Aside0.mk (blk_below (g := gb431) (o := .cells #[.int .i64 t418, .int .i64 t419, .int .i64 t420, .int .i64 t421, .int .i64 t422, .int .i64 t423, .slice Ao10 t424.length co10, .slice Ao11 t427.length co11] 52 (0, 0)) (by (with_reducible repeat (first | refine blk_drewN ?_ _ | refine blk_drew ?_ | refine blk_alloc ?_ _)); refine blk_far ?_ NB431_445.out _; (with_reducible repeat (first | refine blk_drewN ?_ _ | refine blk_drew ?_ | refine blk_alloc ?_ _)); refine blk_far ?_ NB431_445.out _; (with_reducible repeat (first | refine blk_drewN ?_ _ | refine blk_drew ?_ | refine blk_alloc ?_ _)); refine blk_far ?_ NB431_445.out _; (with_reducible repeat (first | refine blk_drewN ?_ _ | refine blk_drew ?_ | refine blk_alloc ?_ _)); refine blk_far ?_ NB431_445.out _; (with_reducible repeat (first | refine blk_drewN ?_ _ | refine blk_drew ?_ | refine blk_alloc ?_ _)); refine blk_far ?_ NB431_445.out _; (with_reducible repeat (first | refine blk_drewN ?_ _ | refine blk_drew ?_ | refine blk_alloc ?_ _)); refine blk_far ?_ NB431_445.out _; (with_reducible repeat (first | refine blk_drewN ?_ _ | refine blk_drew ?_ | refine blk_alloc ?_ _)); refine blk_far ?_ NB431_445.out _; (with_reducible repeat (first | refine blk_drewN ?_ _ | refine blk_drew ?_ | refine blk_alloc ?_ _)); refine blk_far ?_ NB431_445.out _; (with_reducible repeat (first | refine blk_drewN ?_ _ | refine blk_drew ?_ | refine blk_alloc ?_ _)); exact BK431.out) hb); have n5_ := Aside0.mk (blk_below (g := gb445) (o := .cells #[.int .i64 t432, .int .i64 t433, .int .i64 t434, .int .i64 t435, .int .i64 t436, .int .i64 t437, .slice Ao16 t438.length co16, .slice Ao17 t441.length co17] 52 (0, 0)) (by (with_reducible repeat (first | refine blk_drewN ?_ _ | refine blk_drew ?_ | refine blk_alloc ?_ _)); refine blk_put (cs := #[.int .i64 t432, .int .i64 t433, .int .i64 t434, .int .i64 t435, .int .i64 t436, .int .i64 t437, .slice Ao16 t438.length co16, .slice none 0 0]) ?_ 7 _ rfl; (with_reducible repeat (first | refine blk_drewN ?_ _ | refine blk_drew ?_ | refine blk_alloc ?_ _)); refine blk_put (cs := #[.int .i64 t432, .int .i64 t433, .int .i64 t434, .int .i64 t435, .int .i64 t436, .int .i64 t437, .slice none 0 0, .slice none 0 0]) ?_ 6 _ rfl; (with_reducible repeat (first | refine blk_drewN ?_ _ | refine blk_drew ?_ | refine blk_alloc ?_ _)); refine blk_put (cs := #[.int .i64 t432, .int .i64 t433, .int .i64 t434, .int .i64 t435, .int .i64 t436, .int .i64 0, .slice none 0 0, .slice none 0 0]) ?_ 5 _ rfl; (with_reducible repeat (first | refine blk_drewN ?_ _ | refine blk_drew ?_ | refine blk_alloc ?_ _)); refine blk_put (cs := #[.int .i64 t432, .int .i64 t433, .int .i64 t434, .int .i64 t435, .int .i64 0, .int .i64 0, .slice none 0 0, .slice none 0 0]) ?_ 4 _ rfl; (with_reducible repeat (first | refine blk_drewN ?_ _ | refine blk_drew ?_ | refine blk_alloc ?_ _)); refine blk_put (cs := #[.int .i64 t432, .int .i64 t433, .int .i64 t434, .int .i64 0, .int .i64 0, .int .i64 0, .slice none 0 0, .slice none 0 0]) ?_ 3 _ rfl; (with_reducible repeat (first | refine blk_drewN ?_ _ | refine blk_drew ?_ | refine blk_alloc ?_ _)); refine blk_put (cs := #[.int .i64 t432, .int .i64 t433, .int .i64 0, .int .i64 0, .int .i64 0, .int .i64 0, .slice none 0 0, .slice none 0 0]) ?_ 2 _ rfl; (with_reducible repeat (first | refine blk_drewN ?_ _ | refine blk_drew ?_ | refine blk_alloc ?_ _)); refine blk_put (cs := #[.int .i64 t432, .int .i64 0, .int .i64 0, .int .i64 0, .int .i64 0, .int .i64 0, .slice none 0 0, .slice none 0 0]) ?_ 1 _ rfl; (with_reducible repeat (first | refine blk_drewN ?_ _ | refine blk_drew ?_ | refine blk_alloc ?_ _)); refine blk_put (cs := #[.int .i64 0, .int .i64 0, .int .i64 0, .int .i64 0, .int .i64 0, .int .i64 0, .slice none 0 0, .slice none 0 0]) ?_ 0 _ rfl; (with_reducible repeat (first | refine blk_drewN ?_ _ | refine blk_drew ?_ | refine blk_alloc ?_ _)); exact BK445.out) hb); have n6_ := Aside0.mk (below_step bS hb); clear HO426; clear HO429; clear HO440; clear HO443; clear BK431; clear BK445; clear HB; have HO426 := n0_; have HO429 := n1_; have HO440 := n2_; have HO443 := n3_; have BK431 := n4_; have BK445 := n5_; have HB := n6_; clear n0_ n1_ n2_ n3_ n4_ n5_ n6_; (try clear hb); (try clear hb2); (try clear hk); (try clear hi)))
    go_meet
    case rel => exact ⟨_, ((t444 != t430)), eX, H', ⟨by first | omega | exact Nat.le_refl _⟩, ⟨by (with_reducible repeat (first | apply Kd.R_alloc | apply Kd.R_drewN | apply Kd.R_drew)); exact Kd.R_mono HO426.out (fun _ hk => ⟨hk.1.1, ⟨hk.1.2, hk.2⟩⟩)⟩, ⟨by (with_reducible repeat (first | apply Kd.R_alloc | apply Kd.R_drewN | apply Kd.R_drew)); exact Kd.R_mono HO429.out (fun _ hk => ⟨hk.1.1, ⟨hk.1.2, hk.2⟩⟩)⟩, ⟨by (with_reducible repeat (first | apply Kd.R_alloc | apply Kd.R_drewN | apply Kd.R_drew)); exact Kd.R_mono HO440.out (fun _ hk => ⟨hk.1.2, ⟨hk.2, hk.1.1⟩⟩)⟩, ⟨by (with_reducible repeat (first | apply Kd.R_alloc | apply Kd.R_drewN | apply Kd.R_drew)); exact Kd.R_mono HO443.out (fun _ hk => ⟨hk.1.2, ⟨hk.2, hk.1.1⟩⟩)⟩, ⟨by (with_reducible repeat (first | refine blk_drewN ?_ _ | refine blk_drew ?_ | refine blk_alloc ?_ _)); exact BK431.out⟩, ⟨by (with_reducible repeat (first | refine blk_drewN ?_ _ | refine blk_drew ?_ | refine blk_alloc ?_ _)); exact BK445.out⟩, ⟨by repeat (first | (with_reducible first | exact HB.out | apply below_alloc | apply pw_below_drewN | apply below_drew1 | refine below_set ?_ GE431.out | refine below_set ?_ GE445.out) | exact HB.out)⟩⟩
   ·replace c19 := Bool.eq_false_iff.mpr c19
    subst c19
    have H1 : (laws_FnExactReadTicket.j0 k a0 a1 t430 true t418 t419 t420 t421 t422 t423 t424 t427 t432 t433 t434 t435 t436 t437 t438 t441) = some r := by rw [if_neg (show ¬ (false = true) by decide)] at H; exact H
    clear H
    have H := H1
    clear H1
    have H' := Aside0.mk H
    clear H
    have hnb24 := NB445_431.out
    have hnc24 := NB431_445.out
    have hcz25_0 : w13.cell? ⟨gb445, 0, none⟩ = some (.int .i64 0) := (blk_cell BK445.out 0).trans rfl
    have hcz25_1 : w13.cell? ⟨gb445, 1, none⟩ = some (.int .i64 0) := (blk_cell BK445.out 1).trans rfl
    have hcz25_2 : w13.cell? ⟨gb445, 2, none⟩ = some (.int .i64 0) := (blk_cell BK445.out 2).trans rfl
    have hcz25_3 : w13.cell? ⟨gb445, 3, none⟩ = some (.int .i64 0) := (blk_cell BK445.out 3).trans rfl
    have hcz25_4 : w13.cell? ⟨gb445, 4, none⟩ = some (.int .i64 0) := (blk_cell BK445.out 4).trans rfl
    have hcz25_5 : w13.cell? ⟨gb445, 5, none⟩ = some (.int .i64 0) := (blk_cell BK445.out 5).trans rfl
    have hcz25_6 : w13.cell? ⟨gb445, 6, none⟩ = some (.slice none 0 0) := (blk_cell BK445.out 6).trans rfl
    have hcz25_7 : w13.cell? ⟨gb445, 7, none⟩ = some (.slice none 0 0) := (blk_cell BK445.out 7).trans rfl
    have hfz25_0 := blk_frozen BK445.out 0
    have hfz25_1 := blk_frozen BK445.out 1
    have hfz25_2 := blk_frozen BK445.out 2
    have hfz25_3 := blk_frozen BK445.out 3
    have hfz25_4 := blk_frozen BK445.out 4
    have hfz25_5 := blk_frozen BK445.out 5
    have hfz25_6 := blk_frozen BK445.out 6
    have hfz25_7 := blk_frozen BK445.out 7
    have hcz26_0 : w13.cell? ⟨gb431, 0, none⟩ = some (.int .i64 t418) := (blk_cell BK431.out 0).trans rfl
    have hcz26_1 : w13.cell? ⟨gb431, 1, none⟩ = some (.int .i64 t419) := (blk_cell BK431.out 1).trans rfl
    have hcz26_2 : w13.cell? ⟨gb431, 2, none⟩ = some (.int .i64 t420) := (blk_cell BK431.out 2).trans rfl
    have hcz26_3 : w13.cell? ⟨gb431, 3, none⟩ = some (.int .i64 t421) := (blk_cell BK431.out 3).trans rfl
    have hcz26_4 : w13.cell? ⟨gb431, 4, none⟩ = some (.int .i64 t422) := (blk_cell BK431.out 4).trans rfl
    have hcz26_5 : w13.cell? ⟨gb431, 5, none⟩ = some (.int .i64 t423) := (blk_cell BK431.out 5).trans rfl
    have hcz26_6 : w13.cell? ⟨gb431, 6, none⟩ = some (.slice Ao10 t424.length co10) := (blk_cell BK431.out 6).trans rfl
    have hcz26_7 : w13.cell? ⟨gb431, 7, none⟩ = some (.slice Ao11 t427.length co11) := (blk_cell BK431.out 7).trans rfl
    have hfz26_0 := blk_frozen BK431.out 0
    have hfz26_1 := blk_frozen BK431.out 1
    have hfz26_2 := blk_frozen BK431.out 2
    have hfz26_3 := blk_frozen BK431.out 3
    have hfz26_4 := blk_frozen BK431.out 4
    have hfz26_5 := blk_frozen BK431.out 5
    have hfz26_6 := blk_frozen BK431.out 6
    have hfz26_7 := blk_frozen BK431.out 7
    go_wp2_with (first | ((with_reducible refine gate_callee (f := 25) rfl ?_); refine goesL_ (some 30) rfl rfl Try.func25 (by kernel_rfl) rfl #[.agg #[.int .i64 t432, .int .i64 t433, .int .i64 t434, .int .i64 t435, .int .i64 t436, .int .i64 t437, .slice Ao16 t438.length co16, .slice Ao17 t441.length co17], .agg #[.int .i64 t418, .int .i64 t419, .int .i64 t420, .int .i64 t421, .int .i64 t422, .int .i64 t423, .slice Ao10 t424.length co10, .slice Ao11 t427.length co11]] rfl eA ?_; (with_reducible refine (laws_eqTicket.calls k t432 t433 t434 t435 t436 t437 _ _ t438 _ _ t441 t418 t419 t420 t421 t422 t423 _ _ t424 _ _ t427 false _ ?side1 ?side2 ?side3 ?side4 ?side5 ?side6 ?side7 ?side8 A18.out).mono ?_); (case side1 => refine (Kd.R_reads' (e := 3) (base := w.heap.size) (ok := fun k_ => ((some k_ ≠ (.slice Ao17 t441.length co17 : Value).ownBlock ∧ some k_ ≠ (.slice Ao10 t424.length co10 : Value).ownBlock) ∧ some k_ ≠ (.slice Ao11 t427.length co11 : Value).ownBlock)) (n := t438.length) (c := co16) ?_).2.2; exact (by (with_reducible repeat (first | apply Kd.R_alloc | apply Kd.R_drewN | apply Kd.R_drew)); exact (Kd.R_mono (Kd.R_far (p := ⟨gb445, 7, none⟩) (Kd.R_far (p := ⟨gb445, 6, none⟩) (Kd.R_far (p := ⟨gb445, 5, none⟩) (Kd.R_far (p := ⟨gb445, 4, none⟩) (Kd.R_far (p := ⟨gb445, 3, none⟩) (Kd.R_far (p := ⟨gb445, 2, none⟩) (Kd.R_far (p := ⟨gb445, 1, none⟩) (Kd.R_far (p := ⟨gb445, 0, none⟩) (Kd.R_types HO440.out BK445.out (by decide)) (fun _ hk => hk.2) (.int .i64 t432)) (fun _ hk => hk.2) (.int .i64 t433)) (fun _ hk => hk.2) (.int .i64 t434)) (fun _ hk => hk.2) (.int .i64 t435)) (fun _ hk => hk.2) (.int .i64 t436)) (fun _ hk => hk.2) (.int .i64 t437)) (fun _ hk => hk.2) (.slice Ao16 t438.length co16)) (fun _ hk => hk.2) (.slice Ao17 t441.length co17)) (fun _ h_ => h_.1)))); (case side2 => exact (Kd.R_reads' HO440.out).2.1); (case side3 => refine (Kd.R_reads' (e := 3) (base := w.heap.size) (ok := fun k_ => ((some k_ ≠ (.slice Ao16 t438.length co16 : Value).ownBlock ∧ some k_ ≠ (.slice Ao10 t424.length co10 : Value).ownBlock) ∧ some k_ ≠ (.slice Ao11 t427.length co11 : Value).ownBlock)) (n := t441.length) (c := co17) ?_).2.2; exact (by (with_reducible repeat (first | apply Kd.R_alloc | apply Kd.R_drewN | apply Kd.R_drew)); exact (Kd.R_mono (Kd.R_far (p := ⟨gb445, 7, none⟩) (Kd.R_far (p := ⟨gb445, 6, none⟩) (Kd.R_far (p := ⟨gb445, 5, none⟩) (Kd.R_far (p := ⟨gb445, 4, none⟩) (Kd.R_far (p := ⟨gb445, 3, none⟩) (Kd.R_far (p := ⟨gb445, 2, none⟩) (Kd.R_far (p := ⟨gb445, 1, none⟩) (Kd.R_far (p := ⟨gb445, 0, none⟩) (Kd.R_types HO443.out BK445.out (by decide)) (fun _ hk => hk.2) (.int .i64 t432)) (fun _ hk => hk.2) (.int .i64 t433)) (fun _ hk => hk.2) (.int .i64 t434)) (fun _ hk => hk.2) (.int .i64 t435)) (fun _ hk => hk.2) (.int .i64 t436)) (fun _ hk => hk.2) (.int .i64 t437)) (fun _ hk => hk.2) (.slice Ao16 t438.length co16)) (fun _ hk => hk.2) (.slice Ao17 t441.length co17)) (fun _ h_ => h_.1)))); (case side4 => exact (Kd.R_reads' HO443.out).2.1); (case side5 => refine (Kd.R_reads' (e := 3) (base := w.heap.size) (ok := fun k_ => ((some k_ ≠ (.slice Ao11 t427.length co11 : Value).ownBlock ∧ some k_ ≠ (.slice Ao16 t438.length co16 : Value).ownBlock) ∧ some k_ ≠ (.slice Ao17 t441.length co17 : Value).ownBlock)) (n := t424.length) (c := co10) ?_).2.2; exact (by (with_reducible repeat (first | apply Kd.R_alloc | apply Kd.R_drewN | apply Kd.R_drew)); exact (Kd.R_mono (Kd.R_far (p := ⟨gb445, 7, none⟩) (Kd.R_far (p := ⟨gb445, 6, none⟩) (Kd.R_far (p := ⟨gb445, 5, none⟩) (Kd.R_far (p := ⟨gb445, 4, none⟩) (Kd.R_far (p := ⟨gb445, 3, none⟩) (Kd.R_far (p := ⟨gb445, 2, none⟩) (Kd.R_far (p := ⟨gb445, 1, none⟩) (Kd.R_far (p := ⟨gb445, 0, none⟩) (Kd.R_types HO426.out BK445.out (by decide)) (fun _ hk => hk.2) (.int .i64 t432)) (fun _ hk => hk.2) (.int .i64 t433)) (fun _ hk => hk.2) (.int .i64 t434)) (fun _ hk => hk.2) (.int .i64 t435)) (fun _ hk => hk.2) (.int .i64 t436)) (fun _ hk => hk.2) (.int .i64 t437)) (fun _ hk => hk.2) (.slice Ao16 t438.length co16)) (fun _ hk => hk.2) (.slice Ao17 t441.length co17)) (fun _ h_ => h_.1)))); (case side6 => exact (Kd.R_reads' HO426.out).2.1); (case side7 => refine (Kd.R_reads' (e := 3) (base := w.heap.size) (ok := fun k_ => ((some k_ ≠ (.slice Ao10 t424.length co10 : Value).ownBlock ∧ some k_ ≠ (.slice Ao16 t438.length co16 : Value).ownBlock) ∧ some k_ ≠ (.slice Ao17 t441.length co17 : Value).ownBlock)) (n := t427.length) (c := co11) ?_).2.2; exact (by (with_reducible repeat (first | apply Kd.R_alloc | apply Kd.R_drewN | apply Kd.R_drew)); exact (Kd.R_mono (Kd.R_far (p := ⟨gb445, 7, none⟩) (Kd.R_far (p := ⟨gb445, 6, none⟩) (Kd.R_far (p := ⟨gb445, 5, none⟩) (Kd.R_far (p := ⟨gb445, 4, none⟩) (Kd.R_far (p := ⟨gb445, 3, none⟩) (Kd.R_far (p := ⟨gb445, 2, none⟩) (Kd.R_far (p := ⟨gb445, 1, none⟩) (Kd.R_far (p := ⟨gb445, 0, none⟩) (Kd.R_types HO429.out BK445.out (by decide)) (fun _ hk => hk.2) (.int .i64 t432)) (fun _ hk => hk.2) (.int .i64 t433)) (fun _ hk => hk.2) (.int .i64 t434)) (fun _ hk => hk.2) (.int .i64 t435)) (fun _ hk => hk.2) (.int .i64 t436)) (fun _ hk => hk.2) (.int .i64 t437)) (fun _ hk => hk.2) (.slice Ao16 t438.length co16)) (fun _ hk => hk.2) (.slice Ao17 t441.length co17)) (fun _ h_ => h_.1)))); (case side8 => exact (Kd.R_reads' HO429.out).2.1); rintro e w27 ⟨rfl, hb⟩; refine ⟨_, rfl, ?_⟩; have n0_ := Aside0.mk (Kd.R_below (by (with_reducible repeat (first | apply Kd.R_alloc | apply Kd.R_drewN | apply Kd.R_drew)); exact (Kd.R_mono (Kd.R_far (p := ⟨gb445, 7, none⟩) (Kd.R_far (p := ⟨gb445, 6, none⟩) (Kd.R_far (p := ⟨gb445, 5, none⟩) (Kd.R_far (p := ⟨gb445, 4, none⟩) (Kd.R_far (p := ⟨gb445, 3, none⟩) (Kd.R_far (p := ⟨gb445, 2, none⟩) (Kd.R_far (p := ⟨gb445, 1, none⟩) (Kd.R_far (p := ⟨gb445, 0, none⟩) (Kd.R_types HO426.out BK445.out (by decide)) (fun _ hk => hk.2) (.int .i64 t432)) (fun _ hk => hk.2) (.int .i64 t433)) (fun _ hk => hk.2) (.int .i64 t434)) (fun _ hk => hk.2) (.int .i64 t435)) (fun _ hk => hk.2) (.int .i64 t436)) (fun _ hk => hk.2) (.int .i64 t437)) (fun _ hk => hk.2) (.slice Ao16 t438.length co16)) (fun _ hk => hk.2) (.slice Ao17 t441.length co17)) (fun _ h_ => h_.1))) hb); have n1_ := Aside0.mk (Kd.R_below (by (with_reducible repeat (first | apply Kd.R_alloc | apply Kd.R_drewN | apply Kd.R_drew)); exact (Kd.R_mono (Kd.R_far (p := ⟨gb445, 7, none⟩) (Kd.R_far (p := ⟨gb445, 6, none⟩) (Kd.R_far (p := ⟨gb445, 5, none⟩) (Kd.R_far (p := ⟨gb445, 4, none⟩) (Kd.R_far (p := ⟨gb445, 3, none⟩) (Kd.R_far (p := ⟨gb445, 2, none⟩) (Kd.R_far (p := ⟨gb445, 1, none⟩) (Kd.R_far (p := ⟨gb445, 0, none⟩) (Kd.R_types HO429.out BK445.out (by decide)) (fun _ hk => hk.2) (.int .i64 t432)) (fun _ hk => hk.2) (.int .i64 t433)) (fun _ hk => hk.2) (.int .i64 t434)) (fun _ hk => hk.2) (.int .i64 t435)) (fun _ hk => hk.2) (.int .i64 t436)) (fun _ hk => hk.2) (.int .i64 t437)) (fun _ hk => hk.2) (.slice Ao16 t438.length co16)) (fun _ hk => hk.2) (.slice Ao17 t441.length co17)) (fun _ h_ => h_.1))) hb); have n2_ := Aside0.mk (Kd.R_below (by (with_reducible repeat (first | apply Kd.R_alloc | apply Kd.R_drewN | apply Kd.R_drew)); exact (Kd.R_mono (Kd.R_far (p := ⟨gb445, 7, none⟩) (Kd.R_far (p := ⟨gb445, 6, none⟩) (Kd.R_far (p := ⟨gb445, 5, none⟩) (Kd.R_far (p := ⟨gb445, 4, none⟩) (Kd.R_far (p := ⟨gb445, 3, none⟩) (Kd.R_far (p := ⟨gb445, 2, none⟩) (Kd.R_far (p := ⟨gb445, 1, none⟩) (Kd.R_far (p := ⟨gb445, 0, none⟩) (Kd.R_types HO440.out BK445.out (by decide)) (fun _ hk => hk.2) (.int .i64 t432)) (fun _ hk => hk.2) (.int .i64 t433)) (fun _ hk => hk.2) (.int .i64 t434)) (fun _ hk => hk.2) (.int .i64 t435)) (fun _ hk => hk.2) (.int .i64 t436)) (fun _ hk => hk.2) (.int .i64 t437)) (fun _ hk => hk.2) (.slice Ao16 t438.length co16)) (fun _ hk => hk.2) (.slice Ao17 t441.length co17)) (fun _ h_ => h_.1))) hb); have n3_ := Aside0.mk (Kd.R_below (by (with_reducible repeat (first | apply Kd.R_alloc | apply Kd.R_drewN | apply Kd.R_drew)); exact (Kd.R_mono (Kd.R_far (p := ⟨gb445, 7, none⟩) (Kd.R_far (p := ⟨gb445, 6, none⟩) (Kd.R_far (p := ⟨gb445, 5, none⟩) (Kd.R_far (p := ⟨gb445, 4, none⟩) (Kd.R_far (p := ⟨gb445, 3, none⟩) (Kd.R_far (p := ⟨gb445, 2, none⟩) (Kd.R_far (p := ⟨gb445, 1, none⟩) (Kd.R_far (p := ⟨gb445, 0, none⟩) (Kd.R_types HO443.out BK445.out (by decide)) (fun _ hk => hk.2) (.int .i64 t432)) (fun _ hk => hk.2) (.int .i64 t433)) (fun _ hk => hk.2) (.int .i64 t434)) (fun _ hk => hk.2) (.int .i64 t435)) (fun _ hk => hk.2) (.int .i64 t436)) (fun _ hk => hk.2) (.int .i64 t437)) (fun _ hk => hk.2) (.slice Ao16 t438.length co16)) (fun _ hk => hk.2) (.slice Ao17 t441.length co17)) (fun _ h_ => h_.1))) hb); have n4_ := Aside0.mk (blk_below (g := gb431) (o := .cells #[.int .i64 t418, .int .i64 t419, .int .i64 t420, .int .i64 t421, .int .i64 t422, .int .i64 t423, .slice Ao10 t424.length co10, .slice Ao11 t427.length co11] 52 (0, 0)) (by (with_reducible repeat (first | refine blk_drewN ?_ _ | refine blk_drew ?_ | refine blk_alloc ?_ _)); refine blk_far ?_ NB431_445.out _; (with_reducible repeat (first | refine blk_drewN ?_ _ | refine blk_drew ?_ | refine blk_alloc ?_ _)); refine blk_far ?_ NB431_445.out _; (with_reducible repeat (first | refine blk_drewN ?_ _ | refine blk_drew ?_ | refine blk_alloc ?_ _)); refine blk_far ?_ NB431_445.out _; (with_reducible repeat (first | refine blk_drewN ?_ _ | refine blk_drew ?_ | refine blk_alloc ?_ _)); refine blk_far ?_ NB431_445.out _; (with_reducible repeat (first | refine blk_drewN ?_ _ | refine blk_drew ?_ | refine blk_alloc ?_ _)); refine blk_far ?_ NB431_445.out _; (with_reducible repeat (first | refine blk_drewN ?_ _ | refine blk_drew ?_ | refine blk_alloc ?_ _)); refine blk_far ?_ NB431_445.out _; (with_reducible repeat (first | refine blk_drewN ?_ _ | refine blk_drew ?_ | refine blk_alloc ?_ _)); refine blk_far ?_ NB431_445.out _; (with_reducible repeat (first | refine blk_drewN ?_ _ | refine blk_drew ?_ | refine blk_alloc ?_ _)); refine blk_far ?_ NB431_445.out _; (with_reducible repeat (first | refine blk_drewN ?_ _ | refine blk_drew ?_ | refine blk_alloc ?_ _)); exact BK431.out) hb); have n5_ := Aside0.mk (blk_below (g := gb445) (o := .cells #[.int .i64 t432, .int .i64 t433, .int .i64 t434, .int .i64 t435, .int .i64 t436, .int .i64 t437, .slice Ao16 t438.length co16, .slice Ao17 t441.length co17] 52 (0, 0)) (by (with_reducible repeat (first | refine blk_drewN ?_ _ | refine blk_drew ?_ | refine blk_alloc ?_ _)); refine blk_put (cs := #[.int .i64 t432, .int .i64 t433, .int .i64 t434, .int .i64 t435, .int .i64 t436, .int .i64 t437, .slice Ao16 t438.length co16, .slice none 0 0]) ?_ 7 _ rfl; (with_reducible repeat (first | refine blk_drewN ?_ _ | refine blk_drew ?_ | refine blk_alloc ?_ _)); refine blk_put (cs := #[.int .i64 t432, .int .i64 t433, .int .i64 t434, .int .i64 t435, .int .i64 t436, .int .i64 t437, .slice none 0 0, .slice none 0 0]) ?_ 6 _ rfl; (with_reducible repeat (first | refine blk_drewN ?_ _ | refine blk_drew ?_ | refine blk_alloc ?_ _)); refine blk_put (cs := #[.int .i64 t432, .int .i64 t433, .int .i64 t434, .int .i64 t435, .int .i64 t436, .int .i64 0, .slice none 0 0, .slice none 0 0]) ?_ 5 _ rfl; (with_reducible repeat (first | refine blk_drewN ?_ _ | refine blk_drew ?_ | refine blk_alloc ?_ _)); refine blk_put (cs := #[.int .i64 t432, .int .i64 t433, .int .i64 t434, .int .i64 t435, .int .i64 0, .int .i64 0, .slice none 0 0, .slice none 0 0]) ?_ 4 _ rfl; (with_reducible repeat (first | refine blk_drewN ?_ _ | refine blk_drew ?_ | refine blk_alloc ?_ _)); refine blk_put (cs := #[.int .i64 t432, .int .i64 t433, .int .i64 t434, .int .i64 0, .int .i64 0, .int .i64 0, .slice none 0 0, .slice none 0 0]) ?_ 3 _ rfl; (with_reducible repeat (first | refine blk_drewN ?_ _ | refine blk_drew ?_ | refine blk_alloc ?_ _)); refine blk_put (cs := #[.int .i64 t432, .int .i64 t433, .int .i64 0, .int .i64 0, .int .i64 0, .int .i64 0, .slice none 0 0, .slice none 0 0]) ?_ 2 _ rfl; (with_reducible repeat (first | refine blk_drewN ?_ _ | refine blk_drew ?_ | refine blk_alloc ?_ _)); refine blk_put (cs := #[.int .i64 t432, .int .i64 0, .int .i64 0, .int .i64 0, .int .i64 0, .int .i64 0, .slice none 0 0, .slice none 0 0]) ?_ 1 _ rfl; (with_reducible repeat (first | refine blk_drewN ?_ _ | refine blk_drew ?_ | refine blk_alloc ?_ _)); refine blk_put (cs := #[.int .i64 0, .int .i64 0, .int .i64 0, .int .i64 0, .int .i64 0, .int .i64 0, .slice none 0 0, .slice none 0 0]) ?_ 0 _ rfl; (with_reducible repeat (first | refine blk_drewN ?_ _ | refine blk_drew ?_ | refine blk_alloc ?_ _)); exact BK445.out) hb); have n6_ := Aside0.mk (below_step bS hb); clear HO426; clear HO429; clear HO440; clear HO443; clear BK431; clear BK445; clear HB; have HO426 := n0_; have HO429 := n1_; have HO440 := n2_; have HO443 := n3_; have BK431 := n4_; have BK445 := n5_; have HB := n6_; clear n0_ n1_ n2_ n3_ n4_ n5_ n6_; (try clear hb); (try clear hb2); (try clear hk); (try clear hi)))
    go_meet
    case rel => exact ⟨_, (true), eX, H', ⟨by first | omega | exact Nat.le_refl _⟩, ⟨by (with_reducible repeat (first | apply Kd.R_alloc | apply Kd.R_drewN | apply Kd.R_drew)); exact Kd.R_mono HO426.out (fun _ hk => ⟨hk.1.1, ⟨hk.1.2, hk.2⟩⟩)⟩, ⟨by (with_reducible repeat (first | apply Kd.R_alloc | apply Kd.R_drewN | apply Kd.R_drew)); exact Kd.R_mono HO429.out (fun _ hk => ⟨hk.1.1, ⟨hk.1.2, hk.2⟩⟩)⟩, ⟨by (with_reducible repeat (first | apply Kd.R_alloc | apply Kd.R_drewN | apply Kd.R_drew)); exact Kd.R_mono HO440.out (fun _ hk => ⟨hk.1.2, ⟨hk.2, hk.1.1⟩⟩)⟩, ⟨by (with_reducible repeat (first | apply Kd.R_alloc | apply Kd.R_drewN | apply Kd.R_drew)); exact Kd.R_mono HO443.out (fun _ hk => ⟨hk.1.2, ⟨hk.2, hk.1.1⟩⟩)⟩, ⟨by (with_reducible repeat (first | refine blk_drewN ?_ _ | refine blk_drew ?_ | refine blk_alloc ?_ _)); exact BK431.out⟩, ⟨by (with_reducible repeat (first | refine blk_drewN ?_ _ | refine blk_drew ?_ | refine blk_alloc ?_ _)); exact BK445.out⟩, ⟨by repeat (first | (with_reducible first | exact HB.out | apply below_alloc | apply pw_below_drewN | apply below_drew1 | refine below_set ?_ GE431.out | refine below_set ?_ GE445.out) | exact HB.out)⟩⟩
  case rest =>
   clear HC6
   try clear c1
   try clear c2
   try clear p2
   try clear c3
   try clear c3b0
   try clear c3b1
   try clear c8
   try clear c14
   try clear c19
   try clear c20
   try clear c24
   try clear c25
   try clear c26
   try clear c27
   try clear hcz15_0
   try clear hcz15_1
   try clear hcz15_2
   try clear hcz15_3
   try clear hcz15_4
   try clear hcz15_5
   try clear hcz15_6
   try clear hcz15_7
   try clear hcz21_0
   try clear hcz21_1
   try clear hcz21_2
   try clear hcz21_3
   try clear hcz21_4
   try clear hcz21_5
   try clear hcz21_6
   try clear hcz21_7
   try clear hcz22_0
   try clear hcz22_1
   try clear hcz22_2
   try clear hcz22_3
   try clear hcz22_4
   try clear hcz22_5
   try clear hcz22_6
   try clear hcz22_7
   try clear hcz25_0
   try clear hcz25_1
   try clear hcz25_2
   try clear hcz25_3
   try clear hcz25_4
   try clear hcz25_5
   try clear hcz25_6
   try clear hcz25_7
   try clear hcz26_0
   try clear hcz26_1
   try clear hcz26_2
   try clear hcz26_3
   try clear hcz26_4
   try clear hcz26_5
   try clear hcz26_6
   try clear hcz26_7
   try clear hcz9_0
   try clear hcz9_1
   try clear hcz9_2
   try clear hcz9_3
   try clear hcz9_4
   try clear hcz9_5
   try clear hcz9_6
   try clear hcz9_7
   try clear hfz15_0
   try clear hfz15_1
   try clear hfz15_2
   try clear hfz15_3
   try clear hfz15_4
   try clear hfz15_5
   try clear hfz15_6
   try clear hfz15_7
   try clear hfz21_0
   try clear hfz21_1
   try clear hfz21_2
   try clear hfz21_3
   try clear hfz21_4
   try clear hfz21_5
   try clear hfz21_6
   try clear hfz21_7
   try clear hfz22_0
   try clear hfz22_1
   try clear hfz22_2
   try clear hfz22_3
   try clear hfz22_4
   try clear hfz22_5
   try clear hfz22_6
   try clear hfz22_7
   try clear hfz25_0
   try clear hfz25_1
   try clear hfz25_2
   try clear hfz25_3
   try clear hfz25_4
   try clear hfz25_5
   try clear hfz25_6
   try clear hfz25_7
   try clear hfz26_0
   try clear hfz26_1
   try clear hfz26_2
   try clear hfz26_3
   try clear hfz26_4
   try clear hfz26_5
   try clear hfz26_6
   try clear hfz26_7
   try clear hfz9_0
   try clear hfz9_1
   try clear hfz9_2
   try clear hfz9_3
   try clear hfz9_4
   try clear hfz9_5
   try clear hfz9_6
   try clear hfz9_7
   obtain ⟨kq, x36_5, rfl, HA, HJ5, HO_432006, HO_432007, HO_446006, HO_446007, BK431, BK445, HB⟩ := hcut
   cases kq with
   | zero => exact absurd HA.out (by simp [laws_FnExactReadTicket.j0])
   | succ kj5 =>
    have H := HA.out
    clear HA
    simp only [laws_FnExactReadTicket.j0] at H
    by_cases c28 : x36_5 = true
    ·subst c28
     have H1 : (some false) = some r := by rw [if_pos rfl] at H; exact H
     clear H
     have H := H1
     clear H1
     rw [hr_true.out] at H
     exact absurd H (by simp)
    ·replace c28 := Bool.eq_false_iff.mpr c28
     subst c28
     have H1 : ((laws_markTicket.f kj5 t432 t433 t434 t435 t436 t437 t438 t441 1).bind fun bt447 => ((laws_heldTicket.f kj5 t432 t433 t434 t435 t436 t437 bt447.2.1 bt447.2.2 1).bind fun t450 => (if t450 < 0 then (some false) else (if t450 = bt447.1 then ((impl_ReadTicket.f kj5 a0 a1).bind fun bt451 => ((laws_eqTicket.f kj5 bt451.1 bt451.2.1 bt451.2.2.1 bt451.2.2.2.1 bt451.2.2.2.2.1 bt451.2.2.2.2.2.1 bt451.2.2.2.2.2.2.1 bt451.2.2.2.2.2.2.2.1 t418 t419 t420 t421 t422 t423 t424 t427).bind fun t465 => (if t465 = true then (laws_FnExactReadTicket.j1 kj5 bt447.1 (bt451.2.2.2.2.2.2.2.2 != t430) t432 t433 t434 t435 t436 t437 bt447.2.1 bt447.2.2) else (laws_FnExactReadTicket.j1 kj5 bt447.1 true t432 t433 t434 t435 t436 t437 bt447.2.1 bt447.2.2)))) else (some false))))) = some r := by rw [if_neg (show ¬ (false = true) by decide)] at H; exact H
     clear H
     have H := H1
     clear H1
     replace H := Option.bind_eq_some_iff.mp H
     obtain ⟨⟨t447, t448, t449⟩, A290, H⟩ := H
     replace H : ((laws_heldTicket.f kj5 t432 t433 t434 t435 t436 t437 t448 t449 1).bind fun t450 => (if t450 < 0 then (some false) else (if t450 = t447 then ((impl_ReadTicket.f kj5 a0 a1).bind fun bt451 => ((laws_eqTicket.f kj5 bt451.1 bt451.2.1 bt451.2.2.1 bt451.2.2.2.1 bt451.2.2.2.2.1 bt451.2.2.2.2.2.1 bt451.2.2.2.2.2.2.1 bt451.2.2.2.2.2.2.2.1 t418 t419 t420 t421 t422 t423 t424 t427).bind fun t465 => (if t465 = true then (laws_FnExactReadTicket.j1 kj5 t447 (bt451.2.2.2.2.2.2.2.2 != t430) t432 t433 t434 t435 t436 t437 t448 t449) else (laws_FnExactReadTicket.j1 kj5 t447 true t432 t433 t434 t435 t436 t437 t448 t449)))) else (some false)))) = some r := H
     have A29 := Aside0.mk A290
     clear A290
     replace H := Option.bind_eq_some_iff.mp H
     obtain ⟨t450, A300, H⟩ := H
     replace H : (if t450 < 0 then (some false) else (if t450 = t447 then ((impl_ReadTicket.f kj5 a0 a1).bind fun bt451 => ((laws_eqTicket.f kj5 bt451.1 bt451.2.1 bt451.2.2.1 bt451.2.2.2.1 bt451.2.2.2.2.1 bt451.2.2.2.2.2.1 bt451.2.2.2.2.2.2.1 bt451.2.2.2.2.2.2.2.1 t418 t419 t420 t421 t422 t423 t424 t427).bind fun t465 => (if t465 = true then (laws_FnExactReadTicket.j1 kj5 t447 (bt451.2.2.2.2.2.2.2.2 != t430) t432 t433 t434 t435 t436 t437 t448 t449) else (laws_FnExactReadTicket.j1 kj5 t447 true t432 t433 t434 t435 t436 t437 t448 t449)))) else (some false))) = some r := H
     have A30 := Aside0.mk A300
     clear A300
     by_cases c31 : t450 < 0
     ·rw [if_pos c31] at H
      have c31b0 : decide (t450 < 0) = true := decide_eq_true c31
      clear c31
      rw [hr_true.out] at H
      exact absurd H (by simp)
     ·rw [if_neg c31] at H
      have c31b0 : decide (t450 < 0) = false := decide_eq_false c31
      clear c31
      by_cases c32 : t450 = t447
      ·rw [if_pos c32] at H
       have c32b0 : (t450 == t447) = true := beq_iff_eq.mpr c32
       have c32b1 : (t450 != t447) = false := bne_eq_false_iff_eq.mpr c32
       clear c32
       replace H := Option.bind_eq_some_iff.mp H
       obtain ⟨⟨t451, t452, t453, t454, t455, t456, t457, t460, t463⟩, A330, H⟩ := H
       replace H : ((laws_eqTicket.f kj5 t451 t452 t453 t454 t455 t456 t457 t460 t418 t419 t420 t421 t422 t423 t424 t427).bind fun t465 => (if t465 = true then (laws_FnExactReadTicket.j1 kj5 t447 (t463 != t430) t432 t433 t434 t435 t436 t437 t448 t449) else (laws_FnExactReadTicket.j1 kj5 t447 true t432 t433 t434 t435 t436 t437 t448 t449))) = some r := H
       have A33 := Aside0.mk A330
       clear A330
       have HC34 := Aside0.mk H
       clear H
       have hnb35 := NB445_431.out
       have hnc35 := NB431_445.out
       have hcz36_0 : wc.cell? ⟨gb445, 0, none⟩ = some (.int .i64 t432) := (blk_cell BK445.out 0).trans rfl
       have hcz36_1 : wc.cell? ⟨gb445, 1, none⟩ = some (.int .i64 t433) := (blk_cell BK445.out 1).trans rfl
       have hcz36_2 : wc.cell? ⟨gb445, 2, none⟩ = some (.int .i64 t434) := (blk_cell BK445.out 2).trans rfl
       have hcz36_3 : wc.cell? ⟨gb445, 3, none⟩ = some (.int .i64 t435) := (blk_cell BK445.out 3).trans rfl
       have hcz36_4 : wc.cell? ⟨gb445, 4, none⟩ = some (.int .i64 t436) := (blk_cell BK445.out 4).trans rfl
       have hcz36_5 : wc.cell? ⟨gb445, 5, none⟩ = some (.int .i64 t437) := (blk_cell BK445.out 5).trans rfl
       have hcz36_6 : wc.cell? ⟨gb445, 6, none⟩ = some (.slice Ao16 t438.length co16) := (blk_cell BK445.out 6).trans rfl
       have hcz36_7 : wc.cell? ⟨gb445, 7, none⟩ = some (.slice Ao17 t441.length co17) := (blk_cell BK445.out 7).trans rfl
       have hfz36_0 := blk_frozen BK445.out 0
       have hfz36_1 := blk_frozen BK445.out 1
       have hfz36_2 := blk_frozen BK445.out 2
       have hfz36_3 := blk_frozen BK445.out 3
       have hfz36_4 := blk_frozen BK445.out 4
       have hfz36_5 := blk_frozen BK445.out 5
       have hfz36_6 := blk_frozen BK445.out 6
       have hfz36_7 := blk_frozen BK445.out 7
       go_upto_region 16 with (first | ((with_reducible refine gate_callee (f := 28) rfl ?_); refine goesL_ (some 39) rfl rfl Try.func28 (by kernel_rfl) rfl #[.agg #[.int .i64 t432, .int .i64 t433, .int .i64 t434, .int .i64 t435, .int .i64 t436, .int .i64 t437, .slice Ao16 t438.length co16, .slice Ao17 t441.length co17], .int .i64 1] rfl eA ?_; (with_reducible refine (laws_markTicket.calls kj5 t432 t433 t434 t435 t436 t437 (fun k_ => some k_ = (.slice Ao16 t438.length co16 : Value).ownBlock) (.slice Ao16 t438.length co16) t438 (fun k_ => some k_ = (.slice Ao17 t441.length co17 : Value).ownBlock) (.slice Ao17 t441.length co17) t441 1 t447 t448 t449 w _ ?side1 ?side2 ?side3 ?side4 ?side5 A29.out).mono ?_); (case side1 => repeat (first | (with_reducible first | exact HB.out | apply below_alloc | apply pw_below_drewN | apply below_drew1 | refine below_set ?_ GE431.out | refine below_set ?_ GE445.out) | exact HB.out)); (case side2 => exact Kd.R_tight rfl HO_446006.out); (case side3 => exact fun k_ e_ => (HO_446006.out.1 k_ e_.symm).2.2); (case side4 => exact Kd.R_tight rfl HO_446007.out); (case side5 => exact fun k_ e_ => (HO_446007.out.1 k_ e_.symm).2.2); rintro e w37 ⟨rfl, hy0, hy1, hb, hkp⟩; refine ⟨_, rfl, ?_⟩; have n0_ := Aside0.mk (Kd.R_mono (ok' := fun k_ => some k_ ≠ (.slice Ao11 t427.length co11 : Value).ownBlock ∧ some k_ ≠ (.slice Ao16 t438.length co16 : Value).ownBlock ∧ some k_ ≠ (.slice Ao17 t441.length co17 : Value).ownBlock) (Kd.R_keptB (HO_432006.out) hkp (fun k_ hk_ hs_ => Or.elim hs_ (fun e_ => (hk_.2.1) e_) (fun e_ => (hk_.2.2) e_))) (fun k_ hk_ => ⟨hk_.1.1, hk_.1.2.1, hk_.1.2.2⟩)); have n1_ := Aside0.mk (Kd.R_mono (ok' := fun k_ => some k_ ≠ (.slice Ao10 t424.length co10 : Value).ownBlock ∧ some k_ ≠ (.slice Ao16 t438.length co16 : Value).ownBlock ∧ some k_ ≠ (.slice Ao17 t441.length co17 : Value).ownBlock) (Kd.R_keptB (HO_432007.out) hkp (fun k_ hk_ hs_ => Or.elim hs_ (fun e_ => (hk_.2.1) e_) (fun e_ => (hk_.2.2) e_))) (fun k_ hk_ => ⟨hk_.1.1, hk_.1.2.1, hk_.1.2.2⟩)); have n2_ := Aside0.mk (Kd.R_reok rfl hy0 (fun k_ e_ => HO_446006.out.1 k_ e_)); have n3_ := Aside0.mk (Kd.R_reok rfl hy1 (fun k_ e_ => HO_446007.out.1 k_ e_)); have n4_ := Aside0.mk (blk_kept (kB BK431.out) hkp (fun hs_ => Or.elim hs_ (fun e_ => (fun e_ => (Kd.R_ne HO_446006.out BK431.out (by decide)) e_) e_) (fun e_ => (fun e_ => (Kd.R_ne HO_446007.out BK431.out (by decide)) e_) e_))); have n5_ := Aside0.mk (blk_kept (kB BK445.out) hkp (fun hs_ => Or.elim hs_ (fun e_ => (fun e_ => (Kd.R_ne HO_446006.out BK445.out (by decide)) e_) e_) (fun e_ => (fun e_ => (Kd.R_ne HO_446007.out BK445.out (by decide)) e_) e_))); have n6_ := Aside0.mk (hb); clear HO_432006; clear HO_432007; clear HO_446006; clear HO_446007; clear BK431; clear BK445; clear HB; have HO_432006 := n0_; have HO_432007 := n1_; have HO_446006 := n2_; have HO_446007 := n3_; have BK431 := n4_; have BK445 := n5_; have HB := n6_; clear n0_ n1_ n2_ n3_ n4_ n5_ n6_; (try clear hb); (try clear hkp); (try clear hy0); (try clear hy1); have hcz38_0 : w37.cell? ⟨gb445, 0, none⟩ = some (.int .i64 t432) := (blk_cell BK445.out 0).trans rfl; have hcz38_1 : w37.cell? ⟨gb445, 1, none⟩ = some (.int .i64 t433) := (blk_cell BK445.out 1).trans rfl; have hcz38_2 : w37.cell? ⟨gb445, 2, none⟩ = some (.int .i64 t434) := (blk_cell BK445.out 2).trans rfl; have hcz38_3 : w37.cell? ⟨gb445, 3, none⟩ = some (.int .i64 t435) := (blk_cell BK445.out 3).trans rfl; have hcz38_4 : w37.cell? ⟨gb445, 4, none⟩ = some (.int .i64 t436) := (blk_cell BK445.out 4).trans rfl; have hcz38_5 : w37.cell? ⟨gb445, 5, none⟩ = some (.int .i64 t437) := (blk_cell BK445.out 5).trans rfl; have hcz38_6 : w37.cell? ⟨gb445, 6, none⟩ = some (.slice Ao16 t438.length co16) := (blk_cell BK445.out 6).trans rfl; have hcz38_7 : w37.cell? ⟨gb445, 7, none⟩ = some (.slice Ao17 t441.length co17) := (blk_cell BK445.out 7).trans rfl; have hfz38_0 := blk_frozen BK445.out 0; have hfz38_1 := blk_frozen BK445.out 1; have hfz38_2 := blk_frozen BK445.out 2; have hfz38_3 := blk_frozen BK445.out 3; have hfz38_4 := blk_frozen BK445.out 4; have hfz38_5 := blk_frozen BK445.out 5; have hfz38_6 := blk_frozen BK445.out 6; have hfz38_7 := blk_frozen BK445.out 7) | ((with_reducible refine gate_callee (f := 29) rfl ?_); refine goesL_ (some 42) rfl rfl Try.func29 (by kernel_rfl) rfl #[.agg #[.int .i64 t432, .int .i64 t433, .int .i64 t434, .int .i64 t435, .int .i64 t436, .int .i64 t437, .slice Ao16 t448.length co16, .slice Ao17 t449.length co17], .int .i64 1] rfl (by (try simp only [List.map_toArray, List.map_cons, List.map_nil]); first | done | (rw [show t448.length = t438.length from (Kd.R_reads' HO_446006.out).1.symm, show t449.length = t441.length from (Kd.R_reads' HO_446007.out).1.symm] <;> rfl) | rfl | (simp only [List.length_drop, List.length_take]; rfl)) ?_; (with_reducible refine (laws_heldTicket.calls kj5 t432 t433 t434 t435 t436 t437 _ _ t448 _ _ t449 1 t450 _ ?side1 ?side2 ?side3 ?side4 A30.out).mono ?_); (case side1 => repeat (first | exact (Kd.R_reads' HO_446006.out).2.2 | (with_reducible refine Kd.C_alloc ?_ _) | (with_reducible refine Kd.C_drewN ?_ _) | (with_reducible refine Kd.C_drew ?_))); (case side2 => rw [show t448.length = t438.length from (Kd.R_reads' HO_446006.out).1.symm]; exact (Kd.R_reads' HO_446006.out).2.1); (case side3 => repeat (first | exact (Kd.R_reads' HO_446007.out).2.2 | (with_reducible refine Kd.C_alloc ?_ _) | (with_reducible refine Kd.C_drewN ?_ _) | (with_reducible refine Kd.C_drew ?_))); (case side4 => rw [show t449.length = t441.length from (Kd.R_reads' HO_446007.out).1.symm]; exact (Kd.R_reads' HO_446007.out).2.1); rintro e w39 ⟨rfl, hb⟩; refine ⟨_, rfl, ?_⟩; have n0_ := Aside0.mk (Kd.R_below (kR HO_432006.out) hb); have n1_ := Aside0.mk (Kd.R_below (kR HO_432007.out) hb); have n2_ := Aside0.mk (Kd.R_below (kR HO_446006.out) hb); have n3_ := Aside0.mk (Kd.R_below (kR HO_446007.out) hb); have n4_ := Aside0.mk (blk_below (kB BK431.out) hb); have n5_ := Aside0.mk (blk_below (kB BK445.out) hb); have n6_ := Aside0.mk (below_step bS hb); clear HO_432006; clear HO_432007; clear HO_446006; clear HO_446007; clear BK431; clear BK445; clear HB; have HO_432006 := n0_; have HO_432007 := n1_; have HO_446006 := n2_; have HO_446007 := n3_; have BK431 := n4_; have BK445 := n5_; have HB := n6_; clear n0_ n1_ n2_ n3_ n4_ n5_ n6_; (try clear hb); (try clear hb2); (try clear hk); (try clear hi)) | ((with_reducible refine gate_callee (f := 27) rfl ?_); refine goesL_ (some 51) rfl rfl Try.func27 (by kernel_rfl) rfl #[.string a0, .int .i64 a1] rfl eA ?_; (with_reducible refine (impl_ReadTicket.calls kj5 a0 a1 t451 t452 t453 t454 t455 t456 t457 t460 t463 _ A33.out).mono ?_); rintro e w40 ⟨v458, v461, rfl, ho0, ho1, hb⟩; refine ⟨_, rfl, ?_⟩; have n0_ := Aside0.mk (Kd.R_mono (Kd.R_told (Kd.R_told (Kd.R_old (kR HO_432006.out) hb) (Kd.R_base ho0)) (Kd.R_base ho1)) (fun _ h_ => h_.1)); have n1_ := Aside0.mk (Kd.R_mono (Kd.R_told (Kd.R_told (Kd.R_old (kR HO_432007.out) hb) (Kd.R_base ho0)) (Kd.R_base ho1)) (fun _ h_ => h_.1)); have n2_ := Aside0.mk (Kd.R_mono (Kd.R_told (Kd.R_told (Kd.R_old (kR HO_446006.out) hb) (Kd.R_base ho0)) (Kd.R_base ho1)) (fun _ h_ => h_.1)); have n3_ := Aside0.mk (Kd.R_mono (Kd.R_told (Kd.R_told (Kd.R_old (kR HO_446007.out) hb) (Kd.R_base ho0)) (Kd.R_base ho1)) (fun _ h_ => h_.1)); have n4_ := Aside0.mk (Kd.R_lower (Kd.R_new' (Kd.R_new' (Kd.R_new' (Kd.R_new' ho0 (Kd.R_lt (kR HO_432006.out))) (Kd.R_lt (kR HO_432007.out))) (Kd.R_lt (kR HO_446006.out))) (Kd.R_lt (kR HO_446007.out))) (below_size bS)); have n5_ := Aside0.mk (Kd.R_lower (Kd.R_new' (Kd.R_new' (Kd.R_new' (Kd.R_new' ho1 (Kd.R_lt (kR HO_432006.out))) (Kd.R_lt (kR HO_432007.out))) (Kd.R_lt (kR HO_446006.out))) (Kd.R_lt (kR HO_446007.out))) (below_size bS)); have n6_ := Aside0.mk (blk_below (kB BK431.out) hb); have n7_ := Aside0.mk (blk_below (kB BK445.out) hb); have n8_ := Aside0.mk (below_step bS hb); clear HO_432006; clear HO_432007; clear HO_446006; clear HO_446007; clear BK431; clear BK445; clear HB; have HO_432006 := n0_; have HO_432007 := n1_; have HO_446006 := n2_; have HO_446007 := n3_; have HO459 := n4_; have HO462 := n5_; have BK431 := n6_; have BK445 := n7_; have HB := n8_; clear n0_ n1_ n2_ n3_ n4_ n5_ n6_ n7_ n8_; (try clear hb); (try clear hb2); (try clear hk); (try clear hi); (try clear ho0); (try clear ho1)) | ((with_reducible refine gate_dst (N := 11) rfl ?_); refine box_event ?hg (N := 11) ?hd (cs := #[.int .i64 0, .int .i64 0, .int .i64 0, .int .i64 0, .int .i64 0, .int .i64 0, .slice none 0 0, .slice none 0 0]) (t := 52) ?hr ?_; (case hd => rfl); (case hg => rfl); (case hr => first | (go_simp; done) | (go_simp; rfl)); intro gb464 hg w41 hbox hb; have n0_ := Aside0.mk (Kd.R_below (kR HO_432006.out) hb); have n1_ := Aside0.mk (Kd.R_below (kR HO_432007.out) hb); have n2_ := Aside0.mk (Kd.R_below (kR HO_446006.out) hb); have n3_ := Aside0.mk (Kd.R_below (kR HO_446007.out) hb); have n4_ := Aside0.mk (Kd.R_below (kR HO459.out) hb); have n5_ := Aside0.mk (Kd.R_below (kR HO462.out) hb); have n6_ := Aside0.mk (blk_below (kB BK431.out) hb); have n7_ := Aside0.mk (blk_below (kB BK445.out) hb); have n8_ := Aside0.mk (below_step bS hb); have n9_ := Aside0.mk (hbox); have n10_ := Aside0.mk ((bZ hg : w.heap.size ≤ gb464)); have n11_ := Aside0.mk ((bZ hg : w.heap.size ≤ gb464)); have n12_ := Aside0.mk ((nL hg BK431.out : gb431 ≠ gb464)); have n13_ := Aside0.mk ((nG hg BK431.out : gb464 ≠ gb431)); have n14_ := Aside0.mk ((nL hg BK445.out : gb445 ≠ gb464)); have n15_ := Aside0.mk ((nG hg BK445.out : gb464 ≠ gb445)); clear HO_432006; clear HO_432007; clear HO_446006; clear HO_446007; clear HO459; clear HO462; clear BK431; clear BK445; clear HB; have HO_432006 := n0_; have HO_432007 := n1_; have HO_446006 := n2_; have HO_446007 := n3_; have HO459 := n4_; have HO462 := n5_; have BK431 := n6_; have BK445 := n7_; have HB := n8_; have BK464 := n9_; have GW464 := n10_; have GE464 := n11_; have NB431_464 := n12_; have NB464_431 := n13_; have NB445_464 := n14_; have NB464_445 := n15_; clear n0_ n1_ n2_ n3_ n4_ n5_ n6_ n7_ n8_ n9_ n10_ n11_ n12_ n13_ n14_ n15_; clear hb hbox hg; have hnb42 := NB464_431.out; have hnc42 := NB431_464.out; have hnb43 := NB464_445.out; have hnc43 := NB445_464.out; have hcz44_0 : w41.cell? ⟨gb464, 0, none⟩ = some (.int .i64 0) := (blk_cell BK464.out 0).trans rfl; have hcz44_1 : w41.cell? ⟨gb464, 1, none⟩ = some (.int .i64 0) := (blk_cell BK464.out 1).trans rfl; have hcz44_2 : w41.cell? ⟨gb464, 2, none⟩ = some (.int .i64 0) := (blk_cell BK464.out 2).trans rfl; have hcz44_3 : w41.cell? ⟨gb464, 3, none⟩ = some (.int .i64 0) := (blk_cell BK464.out 3).trans rfl; have hcz44_4 : w41.cell? ⟨gb464, 4, none⟩ = some (.int .i64 0) := (blk_cell BK464.out 4).trans rfl; have hcz44_5 : w41.cell? ⟨gb464, 5, none⟩ = some (.int .i64 0) := (blk_cell BK464.out 5).trans rfl; have hcz44_6 : w41.cell? ⟨gb464, 6, none⟩ = some (.slice none 0 0) := (blk_cell BK464.out 6).trans rfl; have hcz44_7 : w41.cell? ⟨gb464, 7, none⟩ = some (.slice none 0 0) := (blk_cell BK464.out 7).trans rfl; have hfz44_0 := blk_frozen BK464.out 0; have hfz44_1 := blk_frozen BK464.out 1; have hfz44_2 := blk_frozen BK464.out 2; have hfz44_3 := blk_frozen BK464.out 3; have hfz44_4 := blk_frozen BK464.out 4; have hfz44_5 := blk_frozen BK464.out 5; have hfz44_6 := blk_frozen BK464.out 6; have hfz44_7 := blk_frozen BK464.out 7; obtain ⟨Ao45, co45, eo45⟩ := Kd.R_slice HO459.out; subst eo45; obtain ⟨Ao46, co46, eo46⟩ := Kd.R_slice HO462.out; subst eo46))
       (try simp only [Act.put, List.setIfInBounds_toArray, List.set_cons_zero, List.set_cons_succ])
       go_cut [62] (fun v62 wc => ∃ (kq : Nat) (x62_33 : Bool), v62 = .bool x62_33 ∧ Aside0 (laws_FnExactReadTicket.j1 kq t447 x62_33 t432 t433 t434 t435 t436 t437 t448 t449 = some r) ∧ Aside0 (kq ≤ kj5) ∧ Aside0 (Kd.R (Kd.int .i64) 3 wc w.heap.size (fun k_ => some k_ ≠ ((.slice Ao11 t427.length co11) : Value).ownBlock ∧ some k_ ≠ ((.slice Ao16 t438.length co16) : Value).ownBlock ∧ some k_ ≠ ((.slice Ao17 t441.length co17) : Value).ownBlock ∧ some k_ ≠ ((.slice Ao45 t457.length co45) : Value).ownBlock ∧ some k_ ≠ ((.slice Ao46 t460.length co46) : Value).ownBlock) (.slice Ao10 t424.length co10) t424) ∧ Aside0 (Kd.R (Kd.int .i64) 3 wc w.heap.size (fun k_ => some k_ ≠ ((.slice Ao10 t424.length co10) : Value).ownBlock ∧ some k_ ≠ ((.slice Ao16 t438.length co16) : Value).ownBlock ∧ some k_ ≠ ((.slice Ao17 t441.length co17) : Value).ownBlock ∧ some k_ ≠ ((.slice Ao45 t457.length co45) : Value).ownBlock ∧ some k_ ≠ ((.slice Ao46 t460.length co46) : Value).ownBlock) (.slice Ao11 t427.length co11) t427) ∧ Aside0 (Kd.R (Kd.int .i64) 3 wc w.heap.size (fun k_ => some k_ ≠ ((.slice Ao10 t424.length co10) : Value).ownBlock ∧ some k_ ≠ ((.slice Ao11 t427.length co11) : Value).ownBlock ∧ some k_ ≠ ((.slice Ao17 t441.length co17) : Value).ownBlock ∧ some k_ ≠ ((.slice Ao45 t457.length co45) : Value).ownBlock ∧ some k_ ≠ ((.slice Ao46 t460.length co46) : Value).ownBlock) (.slice Ao16 t438.length co16) t448) ∧ Aside0 (Kd.R (Kd.int .i64) 3 wc w.heap.size (fun k_ => some k_ ≠ ((.slice Ao10 t424.length co10) : Value).ownBlock ∧ some k_ ≠ ((.slice Ao11 t427.length co11) : Value).ownBlock ∧ some k_ ≠ ((.slice Ao16 t438.length co16) : Value).ownBlock ∧ some k_ ≠ ((.slice Ao45 t457.length co45) : Value).ownBlock ∧ some k_ ≠ ((.slice Ao46 t460.length co46) : Value).ownBlock) (.slice Ao17 t441.length co17) t449) ∧ Aside0 (Kd.R (Kd.int .i64) 3 wc w.heap.size (fun k_ => some k_ ≠ ((.slice Ao10 t424.length co10) : Value).ownBlock ∧ some k_ ≠ ((.slice Ao11 t427.length co11) : Value).ownBlock ∧ some k_ ≠ ((.slice Ao16 t438.length co16) : Value).ownBlock ∧ some k_ ≠ ((.slice Ao17 t441.length co17) : Value).ownBlock ∧ some k_ ≠ ((.slice Ao46 t460.length co46) : Value).ownBlock) (.slice Ao45 t457.length co45) t457) ∧ Aside0 (Kd.R (Kd.int .i64) 3 wc w.heap.size (fun k_ => some k_ ≠ ((.slice Ao10 t424.length co10) : Value).ownBlock ∧ some k_ ≠ ((.slice Ao11 t427.length co11) : Value).ownBlock ∧ some k_ ≠ ((.slice Ao16 t438.length co16) : Value).ownBlock ∧ some k_ ≠ ((.slice Ao17 t441.length co17) : Value).ownBlock ∧ some k_ ≠ ((.slice Ao45 t457.length co45) : Value).ownBlock) (.slice Ao46 t460.length co46) t460) ∧ Aside0 (wc.heap[gb431]? = some (.cells #[.int .i64 t418, .int .i64 t419, .int .i64 t420, .int .i64 t421, .int .i64 t422, .int .i64 t423, (.slice Ao10 t424.length co10), (.slice Ao11 t427.length co11)] 52 (0, 0))) ∧ Aside0 (wc.heap[gb445]? = some (.cells #[.int .i64 t432, .int .i64 t433, .int .i64 t434, .int .i64 t435, .int .i64 t436, .int .i64 t437, (.slice Ao16 t438.length co16), (.slice Ao17 t441.length co17)] 52 (0, 0))) ∧ Aside0 (wc.heap[gb464]? = some (.cells #[.int .i64 t451, .int .i64 t452, .int .i64 t453, .int .i64 t454, .int .i64 t455, .int .i64 t456, (.slice Ao45 t457.length co45), (.slice Ao46 t460.length co46)] 52 (0, 0))) ∧ Aside0 (Below w.heap.size w wc))
       case first =>
        have H := HC34.out
        clear HC34
        replace H := Option.bind_eq_some_iff.mp H
        obtain ⟨t465, A470, H⟩ := H
        replace H : (if t465 = true then (laws_FnExactReadTicket.j1 kj5 t447 (t463 != t430) t432 t433 t434 t435 t436 t437 t448 t449) else (laws_FnExactReadTicket.j1 kj5 t447 true t432 t433 t434 t435 t436 t437 t448 t449)) = some r := H
        have A47 := Aside0.mk A470
        clear A470
        by_cases c48 : t465 = true
        ·subst c48
         have H1 : (laws_FnExactReadTicket.j1 kj5 t447 (t463 != t430) t432 t433 t434 t435 t436 t437 t448 t449) = some r := by rw [if_pos rfl] at H; exact H
         clear H
         have H := H1
         clear H1
         have H' := Aside0.mk H
         clear H
         have hnb49 := NB464_431.out
         have hnc49 := NB431_464.out
         have hnb50 := NB464_445.out
         have hnc50 := NB445_464.out
         have hcz51_0 : w41.cell? ⟨gb464, 0, none⟩ = some (.int .i64 0) := (blk_cell BK464.out 0).trans rfl
         have hcz51_1 : w41.cell? ⟨gb464, 1, none⟩ = some (.int .i64 0) := (blk_cell BK464.out 1).trans rfl
         have hcz51_2 : w41.cell? ⟨gb464, 2, none⟩ = some (.int .i64 0) := (blk_cell BK464.out 2).trans rfl
         have hcz51_3 : w41.cell? ⟨gb464, 3, none⟩ = some (.int .i64 0) := (blk_cell BK464.out 3).trans rfl
         have hcz51_4 : w41.cell? ⟨gb464, 4, none⟩ = some (.int .i64 0) := (blk_cell BK464.out 4).trans rfl
         have hcz51_5 : w41.cell? ⟨gb464, 5, none⟩ = some (.int .i64 0) := (blk_cell BK464.out 5).trans rfl
         have hcz51_6 : w41.cell? ⟨gb464, 6, none⟩ = some (.slice none 0 0) := (blk_cell BK464.out 6).trans rfl
         have hcz51_7 : w41.cell? ⟨gb464, 7, none⟩ = some (.slice none 0 0) := (blk_cell BK464.out 7).trans rfl
         have hfz51_0 := blk_frozen BK464.out 0
         have hfz51_1 := blk_frozen BK464.out 1
         have hfz51_2 := blk_frozen BK464.out 2
         have hfz51_3 := blk_frozen BK464.out 3
         have hfz51_4 := blk_frozen BK464.out 4
         have hfz51_5 := blk_frozen BK464.out 5
         have hfz51_6 := blk_frozen BK464.out 6
         have hfz51_7 := blk_frozen BK464.out 7
         have hnb52 := NB431_445.out
         have hnc52 := NB445_431.out
         have hcz53_0 : w41.cell? ⟨gb431, 0, none⟩ = some (.int .i64 t418) := (blk_cell BK431.out 0).trans rfl
         have hcz53_1 : w41.cell? ⟨gb431, 1, none⟩ = some (.int .i64 t419) := (blk_cell BK431.out 1).trans rfl
         have hcz53_2 : w41.cell? ⟨gb431, 2, none⟩ = some (.int .i64 t420) := (blk_cell BK431.out 2).trans rfl
         have hcz53_3 : w41.cell? ⟨gb431, 3, none⟩ = some (.int .i64 t421) := (blk_cell BK431.out 3).trans rfl
         have hcz53_4 : w41.cell? ⟨gb431, 4, none⟩ = some (.int .i64 t422) := (blk_cell BK431.out 4).trans rfl
         have hcz53_5 : w41.cell? ⟨gb431, 5, none⟩ = some (.int .i64 t423) := (blk_cell BK431.out 5).trans rfl
         have hcz53_6 : w41.cell? ⟨gb431, 6, none⟩ = some (.slice Ao10 t424.length co10) := (blk_cell BK431.out 6).trans rfl
         have hcz53_7 : w41.cell? ⟨gb431, 7, none⟩ = some (.slice Ao11 t427.length co11) := (blk_cell BK431.out 7).trans rfl
         have hfz53_0 := blk_frozen BK431.out 0
         have hfz53_1 := blk_frozen BK431.out 1
         have hfz53_2 := blk_frozen BK431.out 2
         have hfz53_3 := blk_frozen BK431.out 3
         have hfz53_4 := blk_frozen BK431.out 4
         have hfz53_5 := blk_frozen BK431.out 5
         have hfz53_6 := blk_frozen BK431.out 6
         have hfz53_7 := blk_frozen BK431.out 7
         go_wp2_with (first | ((with_reducible refine gate_callee (f := 25) rfl ?_); refine goesL_ (some 56) rfl rfl Try.func25 (by kernel_rfl) rfl #[.agg #[.int .i64 t451, .int .i64 t452, .int .i64 t453, .int .i64 t454, .int .i64 t455, .int .i64 t456, .slice Ao45 t457.length co45, .slice Ao46 t460.length co46], .agg #[.int .i64 t418, .int .i64 t419, .int .i64 t420, .int .i64 t421, .int .i64 t422, .int .i64 t423, .slice Ao10 t424.length co10, .slice Ao11 t427.length co11]] rfl eA ?_; (with_reducible refine (laws_eqTicket.calls kj5 t451 t452 t453 t454 t455 t456 _ _ t457 _ _ t460 t418 t419 t420 t421 t422 t423 _ _ t424 _ _ t427 true _ ?side1 ?side2 ?side3 ?side4 ?side5 ?side6 ?side7 ?side8 A47.out).mono ?_); (case side1 => refine (Kd.R_reads' (e := 3) (base := w.heap.size) (ok := fun k_ => ((((some k_ ≠ (.slice Ao46 t460.length co46 : Value).ownBlock ∧ some k_ ≠ (.slice Ao10 t424.length co10 : Value).ownBlock) ∧ some k_ ≠ (.slice Ao11 t427.length co11 : Value).ownBlock) ∧ some k_ ≠ (.slice Ao16 t438.length co16 : Value).ownBlock) ∧ some k_ ≠ (.slice Ao17 t441.length co17 : Value).ownBlock)) (n := t457.length) (c := co45) ?_).2.2; exact (by (with_reducible repeat (first | apply Kd.R_alloc | apply Kd.R_drewN | apply Kd.R_drew)); exact (Kd.R_mono (Kd.R_far (p := ⟨gb464, 7, none⟩) (Kd.R_far (p := ⟨gb464, 6, none⟩) (Kd.R_far (p := ⟨gb464, 5, none⟩) (Kd.R_far (p := ⟨gb464, 4, none⟩) (Kd.R_far (p := ⟨gb464, 3, none⟩) (Kd.R_far (p := ⟨gb464, 2, none⟩) (Kd.R_far (p := ⟨gb464, 1, none⟩) (Kd.R_far (p := ⟨gb464, 0, none⟩) (Kd.R_types HO459.out BK464.out (by decide)) (fun _ hk => hk.2) (.int .i64 t451)) (fun _ hk => hk.2) (.int .i64 t452)) (fun _ hk => hk.2) (.int .i64 t453)) (fun _ hk => hk.2) (.int .i64 t454)) (fun _ hk => hk.2) (.int .i64 t455)) (fun _ hk => hk.2) (.int .i64 t456)) (fun _ hk => hk.2) (.slice Ao45 t457.length co45)) (fun _ hk => hk.2) (.slice Ao46 t460.length co46)) (fun _ h_ => h_.1)))); (case side2 => exact (Kd.R_reads' HO459.out).2.1); (case side3 => refine (Kd.R_reads' (e := 3) (base := w.heap.size) (ok := fun k_ => ((((some k_ ≠ (.slice Ao45 t457.length co45 : Value).ownBlock ∧ some k_ ≠ (.slice Ao10 t424.length co10 : Value).ownBlock) ∧ some k_ ≠ (.slice Ao11 t427.length co11 : Value).ownBlock) ∧ some k_ ≠ (.slice Ao16 t438.length co16 : Value).ownBlock) ∧ some k_ ≠ (.slice Ao17 t441.length co17 : Value).ownBlock)) (n := t460.length) (c := co46) ?_).2.2; exact (by (with_reducible repeat (first | apply Kd.R_alloc | apply Kd.R_drewN | apply Kd.R_drew)); exact (Kd.R_mono (Kd.R_far (p := ⟨gb464, 7, none⟩) (Kd.R_far (p := ⟨gb464, 6, none⟩) (Kd.R_far (p := ⟨gb464, 5, none⟩) (Kd.R_far (p := ⟨gb464, 4, none⟩) (Kd.R_far (p := ⟨gb464, 3, none⟩) (Kd.R_far (p := ⟨gb464, 2, none⟩) (Kd.R_far (p := ⟨gb464, 1, none⟩) (Kd.R_far (p := ⟨gb464, 0, none⟩) (Kd.R_types HO462.out BK464.out (by decide)) (fun _ hk => hk.2) (.int .i64 t451)) (fun _ hk => hk.2) (.int .i64 t452)) (fun _ hk => hk.2) (.int .i64 t453)) (fun _ hk => hk.2) (.int .i64 t454)) (fun _ hk => hk.2) (.int .i64 t455)) (fun _ hk => hk.2) (.int .i64 t456)) (fun _ hk => hk.2) (.slice Ao45 t457.length co45)) (fun _ hk => hk.2) (.slice Ao46 t460.length co46)) (fun _ h_ => h_.1)))); (case side4 => exact (Kd.R_reads' HO462.out).2.1); (case side5 => refine (Kd.R_reads' (e := 3) (base := w.heap.size) (ok := fun k_ => (((some k_ ≠ (.slice Ao11 t427.length co11 : Value).ownBlock ∧ (some k_ ≠ (.slice Ao16 t438.length co16 : Value).ownBlock ∧ some k_ ≠ (.slice Ao17 t441.length co17 : Value).ownBlock)) ∧ some k_ ≠ (.slice Ao45 t457.length co45 : Value).ownBlock) ∧ some k_ ≠ (.slice Ao46 t460.length co46 : Value).ownBlock)) (n := t424.length) (c := co10) ?_).2.2; exact (by (with_reducible repeat (first | apply Kd.R_alloc | apply Kd.R_drewN | apply Kd.R_drew)); exact (Kd.R_mono (Kd.R_far (p := ⟨gb464, 7, none⟩) (Kd.R_far (p := ⟨gb464, 6, none⟩) (Kd.R_far (p := ⟨gb464, 5, none⟩) (Kd.R_far (p := ⟨gb464, 4, none⟩) (Kd.R_far (p := ⟨gb464, 3, none⟩) (Kd.R_far (p := ⟨gb464, 2, none⟩) (Kd.R_far (p := ⟨gb464, 1, none⟩) (Kd.R_far (p := ⟨gb464, 0, none⟩) (Kd.R_types HO_432006.out BK464.out (by decide)) (fun _ hk => hk.2) (.int .i64 t451)) (fun _ hk => hk.2) (.int .i64 t452)) (fun _ hk => hk.2) (.int .i64 t453)) (fun _ hk => hk.2) (.int .i64 t454)) (fun _ hk => hk.2) (.int .i64 t455)) (fun _ hk => hk.2) (.int .i64 t456)) (fun _ hk => hk.2) (.slice Ao45 t457.length co45)) (fun _ hk => hk.2) (.slice Ao46 t460.length co46)) (fun _ h_ => h_.1)))); (case side6 => exact (Kd.R_reads' HO_432006.out).2.1); (case side7 => refine (Kd.R_reads' (e := 3) (base := w.heap.size) (ok := fun k_ => (((some k_ ≠ (.slice Ao10 t424.length co10 : Value).ownBlock ∧ (some k_ ≠ (.slice Ao16 t438.length co16 : Value).ownBlock ∧ some k_ ≠ (.slice Ao17 t441.length co17 : Value).ownBlock)) ∧ some k_ ≠ (.slice Ao45 t457.length co45 : Value).ownBlock) ∧ some k_ ≠ (.slice Ao46 t460.length co46 : Value).ownBlock)) (n := t427.length) (c := co11) ?_).2.2; exact (by (with_reducible repeat (first | apply Kd.R_alloc | apply Kd.R_drewN | apply Kd.R_drew)); exact (Kd.R_mono (Kd.R_far (p := ⟨gb464, 7, none⟩) (Kd.R_far (p := ⟨gb464, 6, none⟩) (Kd.R_far (p := ⟨gb464, 5, none⟩) (Kd.R_far (p := ⟨gb464, 4, none⟩) (Kd.R_far (p := ⟨gb464, 3, none⟩) (Kd.R_far (p := ⟨gb464, 2, none⟩) (Kd.R_far (p := ⟨gb464, 1, none⟩) (Kd.R_far (p := ⟨gb464, 0, none⟩) (Kd.R_types HO_432007.out BK464.out (by decide)) (fun _ hk => hk.2) (.int .i64 t451)) (fun _ hk => hk.2) (.int .i64 t452)) (fun _ hk => hk.2) (.int .i64 t453)) (fun _ hk => hk.2) (.int .i64 t454)) (fun _ hk => hk.2) (.int .i64 t455)) (fun _ hk => hk.2) (.int .i64 t456)) (fun _ hk => hk.2) (.slice Ao45 t457.length co45)) (fun _ hk => hk.2) (.slice Ao46 t460.length co46)) (fun _ h_ => h_.1)))); (case side8 => exact (Kd.R_reads' HO_432007.out).2.1); rintro e w54 ⟨rfl, hb⟩; refine ⟨_, rfl, ?_⟩; have n0_ := Aside0.mk (Kd.R_below (by (with_reducible repeat (first | apply Kd.R_alloc | apply Kd.R_drewN | apply Kd.R_drew)); exact (Kd.R_mono (Kd.R_far (p := ⟨gb464, 7, none⟩) (Kd.R_far (p := ⟨gb464, 6, none⟩) (Kd.R_far (p := ⟨gb464, 5, none⟩) (Kd.R_far (p := ⟨gb464, 4, none⟩) (Kd.R_far (p := ⟨gb464, 3, none⟩) (Kd.R_far (p := ⟨gb464, 2, none⟩) (Kd.R_far (p := ⟨gb464, 1, none⟩) (Kd.R_far (p := ⟨gb464, 0, none⟩) (Kd.R_types HO_432006.out BK464.out (by decide)) (fun _ hk => hk.2) (.int .i64 t451)) (fun _ hk => hk.2) (.int .i64 t452)) (fun _ hk => hk.2) (.int .i64 t453)) (fun _ hk => hk.2) (.int .i64 t454)) (fun _ hk => hk.2) (.int .i64 t455)) (fun _ hk => hk.2) (.int .i64 t456)) (fun _ hk => hk.2) (.slice Ao45 t457.length co45)) (fun _ hk => hk.2) (.slice Ao46 t460.length co46)) (fun _ h_ => h_.1))) hb); have n1_ := Aside0.mk (Kd.R_below (by (with_reducible repeat (first | apply Kd.R_alloc | apply Kd.R_drewN | apply Kd.R_drew)); exact (Kd.R_mono (Kd.R_far (p := ⟨gb464, 7, none⟩) (Kd.R_far (p := ⟨gb464, 6, none⟩) (Kd.R_far (p := ⟨gb464, 5, none⟩) (Kd.R_far (p := ⟨gb464, 4, none⟩) (Kd.R_far (p := ⟨gb464, 3, none⟩) (Kd.R_far (p := ⟨gb464, 2, none⟩) (Kd.R_far (p := ⟨gb464, 1, none⟩) (Kd.R_far (p := ⟨gb464, 0, none⟩) (Kd.R_types HO_432007.out BK464.out (by decide)) (fun _ hk => hk.2) (.int .i64 t451)) (fun _ hk => hk.2) (.int .i64 t452)) (fun _ hk => hk.2) (.int .i64 t453)) (fun _ hk => hk.2) (.int .i64 t454)) (fun _ hk => hk.2) (.int .i64 t455)) (fun _ hk => hk.2) (.int .i64 t456)) (fun _ hk => hk.2) (.slice Ao45 t457.length co45)) (fun _ hk => hk.2) (.slice Ao46 t460.length co46)) (fun _ h_ => h_.1))) hb); have n2_ := Aside0.mk (Kd.R_below (by (with_reducible repeat (first | apply Kd.R_alloc | apply Kd.R_drewN | apply Kd.R_drew)); exact (Kd.R_mono (Kd.R_far (p := ⟨gb464, 7, none⟩) (Kd.R_far (p := ⟨gb464, 6, none⟩) (Kd.R_far (p := ⟨gb464, 5, none⟩) (Kd.R_far (p := ⟨gb464, 4, none⟩) (Kd.R_far (p := ⟨gb464, 3, none⟩) (Kd.R_far (p := ⟨gb464, 2, none⟩) (Kd.R_far (p := ⟨gb464, 1, none⟩) (Kd.R_far (p := ⟨gb464, 0, none⟩) (Kd.R_types HO_446006.out BK464.out (by decide)) (fun _ hk => hk.2) (.int .i64 t451)) (fun _ hk => hk.2) (.int .i64 t452)) (fun _ hk => hk.2) (.int .i64 t453)) (fun _ hk => hk.2) (.int .i64 t454)) (fun _ hk => hk.2) (.int .i64 t455)) (fun _ hk => hk.2) (.int .i64 t456)) (fun _ hk => hk.2) (.slice Ao45 t457.length co45)) (fun _ hk => hk.2) (.slice Ao46 t460.length co46)) (fun _ h_ => h_.1))) hb); have n3_ := Aside0.mk (Kd.R_below (by (with_reducible repeat (first | apply Kd.R_alloc | apply Kd.R_drewN | apply Kd.R_drew)); exact (Kd.R_mono (Kd.R_far (p := ⟨gb464, 7, none⟩) (Kd.R_far (p := ⟨gb464, 6, none⟩) (Kd.R_far (p := ⟨gb464, 5, none⟩) (Kd.R_far (p := ⟨gb464, 4, none⟩) (Kd.R_far (p := ⟨gb464, 3, none⟩) (Kd.R_far (p := ⟨gb464, 2, none⟩) (Kd.R_far (p := ⟨gb464, 1, none⟩) (Kd.R_far (p := ⟨gb464, 0, none⟩) (Kd.R_types HO_446007.out BK464.out (by decide)) (fun _ hk => hk.2) (.int .i64 t451)) (fun _ hk => hk.2) (.int .i64 t452)) (fun _ hk => hk.2) (.int .i64 t453)) (fun _ hk => hk.2) (.int .i64 t454)) (fun _ hk => hk.2) (.int .i64 t455)) (fun _ hk => hk.2) (.int .i64 t456)) (fun _ hk => hk.2) (.slice Ao45 t457.length co45)) (fun _ hk => hk.2) (.slice Ao46 t460.length co46)) (fun _ h_ => h_.1))) hb); have n4_ := Aside0.mk (Kd.R_below (by (with_reducible repeat (first | apply Kd.R_alloc | apply Kd.R_drewN | apply Kd.R_drew)); exact (Kd.R_mono (Kd.R_far (p := ⟨gb464, 7, none⟩) (Kd.R_far (p := ⟨gb464, 6, none⟩) (Kd.R_far (p := ⟨gb464, 5, none⟩) (Kd.R_far (p := ⟨gb464, 4, none⟩) (Kd.R_far (p := ⟨gb464, 3, none⟩) (Kd.R_far (p := ⟨gb464, 2, none⟩) (Kd.R_far (p := ⟨gb464, 1, none⟩) (Kd.R_far (p := ⟨gb464, 0, none⟩) (Kd.R_types HO459.out BK464.out (by decide)) (fun _ hk => hk.2) (.int .i64 t451)) (fun _ hk => hk.2) (.int .i64 t452)) (fun _ hk => hk.2) (.int .i64 t453)) (fun _ hk => hk.2) (.int .i64 t454)) (fun _ hk => hk.2) (.int .i64 t455)) (fun _ hk => hk.2) (.int .i64 t456)) (fun _ hk => hk.2) (.slice Ao45 t457.length co45)) (fun _ hk => hk.2) (.slice Ao46 t460.length co46)) (fun _ h_ => h_.1))) hb); have n5_ := Aside0.mk (Kd.R_below (by (with_reducible repeat (first | apply Kd.R_alloc | apply Kd.R_drewN | apply Kd.R_drew)); exact (Kd.R_mono (Kd.R_far (p := ⟨gb464, 7, none⟩) (Kd.R_far (p := ⟨gb464, 6, none⟩) (Kd.R_far (p := ⟨gb464, 5, none⟩) (Kd.R_far (p := ⟨gb464, 4, none⟩) (Kd.R_far (p := ⟨gb464, 3, none⟩) (Kd.R_far (p := ⟨gb464, 2, none⟩) (Kd.R_far (p := ⟨gb464, 1, none⟩) (Kd.R_far (p := ⟨gb464, 0, none⟩) (Kd.R_types HO462.out BK464.out (by decide)) (fun _ hk => hk.2) (.int .i64 t451)) (fun _ hk => hk.2) (.int .i64 t452)) (fun _ hk => hk.2) (.int .i64 t453)) (fun _ hk => hk.2) (.int .i64 t454)) (fun _ hk => hk.2) (.int .i64 t455)) (fun _ hk => hk.2) (.int .i64 t456)) (fun _ hk => hk.2) (.slice Ao45 t457.length co45)) (fun _ hk => hk.2) (.slice Ao46 t460.length co46)) (fun _ h_ => h_.1))) hb); have n6_ := Aside0.mk (blk_below (g := gb431) (o := .cells #[.int .i64 t418, .int .i64 t419, .int .i64 t420, .int .i64 t421, .int .i64 t422, .int .i64 t423, .slice Ao10 t424.length co10, .slice Ao11 t427.length co11] 52 (0, 0)) (by (with_reducible repeat (first | refine blk_drewN ?_ _ | refine blk_drew ?_ | refine blk_alloc ?_ _)); refine blk_far ?_ NB431_464.out _; (with_reducible repeat (first | refine blk_drewN ?_ _ | refine blk_drew ?_ | refine blk_alloc ?_ _)); refine blk_far ?_ NB431_464.out _; (with_reducible repeat (first | refine blk_drewN ?_ _ | refine blk_drew ?_ | refine blk_alloc ?_ _)); refine blk_far ?_ NB431_464.out _; (with_reducible repeat (first | refine blk_drewN ?_ _ | refine blk_drew ?_ | refine blk_alloc ?_ _)); refine blk_far ?_ NB431_464.out _; (with_reducible repeat (first | refine blk_drewN ?_ _ | refine blk_drew ?_ | refine blk_alloc ?_ _)); refine blk_far ?_ NB431_464.out _; (with_reducible repeat (first | refine blk_drewN ?_ _ | refine blk_drew ?_ | refine blk_alloc ?_ _)); refine blk_far ?_ NB431_464.out _; (with_reducible repeat (first | refine blk_drewN ?_ _ | refine blk_drew ?_ | refine blk_alloc ?_ _)); refine blk_far ?_ NB431_464.out _; (with_reducible repeat (first | refine blk_drewN ?_ _ | refine blk_drew ?_ | refine blk_alloc ?_ _)); refine blk_far ?_ NB431_464.out _; (with_reducible repeat (first | refine blk_drewN ?_ _ | refine blk_drew ?_ | refine blk_alloc ?_ _)); exact BK431.out) hb); have n7_ := Aside0.mk (blk_below (g := gb445) (o := .cells #[.int .i64 t432, .int .i64 t433, .int .i64 t434, .int .i64 t435, .int .i64 t436, .int .i64 t437, .slice Ao16 t438.length co16, .slice Ao17 t441.length co17] 52 (0, 0)) (by (with_reducible repeat (first | refine blk_drewN ?_ _ | refine blk_drew ?_ | refine blk_alloc ?_ _)); refine blk_far ?_ NB445_464.out _; (with_reducible repeat (first | refine blk_drewN ?_ _ | refine blk_drew ?_ | refine blk_alloc ?_ _)); refine blk_far ?_ NB445_464.out _; (with_reducible repeat (first | refine blk_drewN ?_ _ | refine blk_drew ?_ | refine blk_alloc ?_ _)); refine blk_far ?_ NB445_464.out _; (with_reducible repeat (first | refine blk_drewN ?_ _ | refine blk_drew ?_ | refine blk_alloc ?_ _)); refine blk_far ?_ NB445_464.out _; (with_reducible repeat (first | refine blk_drewN ?_ _ | refine blk_drew ?_ | refine blk_alloc ?_ _)); refine blk_far ?_ NB445_464.out _; (with_reducible repeat (first | refine blk_drewN ?_ _ | refine blk_drew ?_ | refine blk_alloc ?_ _)); refine blk_far ?_ NB445_464.out _; (with_reducible repeat (first | refine blk_drewN ?_ _ | refine blk_drew ?_ | refine blk_alloc ?_ _)); refine blk_far ?_ NB445_464.out _; (with_reducible repeat (first | refine blk_drewN ?_ _ | refine blk_drew ?_ | refine blk_alloc ?_ _)); refine blk_far ?_ NB445_464.out _; (with_reducible repeat (first | refine blk_drewN ?_ _ | refine blk_drew ?_ | refine blk_alloc ?_ _)); exact BK445.out) hb); have n8_ := Aside0.mk (blk_below (g := gb464) (o := .cells #[.int .i64 t451, .int .i64 t452, .int .i64 t453, .int .i64 t454, .int .i64 t455, .int .i64 t456, .slice Ao45 t457.length co45, .slice Ao46 t460.length co46] 52 (0, 0)) (by (with_reducible repeat (first | refine blk_drewN ?_ _ | refine blk_drew ?_ | refine blk_alloc ?_ _)); refine blk_put (cs := #[.int .i64 t451, .int .i64 t452, .int .i64 t453, .int .i64 t454, .int .i64 t455, .int .i64 t456, .slice Ao45 t457.length co45, .slice none 0 0]) ?_ 7 _ rfl; (with_reducible repeat (first | refine blk_drewN ?_ _ | refine blk_drew ?_ | refine blk_alloc ?_ _)); refine blk_put (cs := #[.int .i64 t451, .int .i64 t452, .int .i64 t453, .int .i64 t454, .int .i64 t455, .int .i64 t456, .slice none 0 0, .slice none 0 0]) ?_ 6 _ rfl; (with_reducible repeat (first | refine blk_drewN ?_ _ | refine blk_drew ?_ | refine blk_alloc ?_ _)); refine blk_put (cs := #[.int .i64 t451, .int .i64 t452, .int .i64 t453, .int .i64 t454, .int .i64 t455, .int .i64 0, .slice none 0 0, .slice none 0 0]) ?_ 5 _ rfl; (with_reducible repeat (first | refine blk_drewN ?_ _ | refine blk_drew ?_ | refine blk_alloc ?_ _)); refine blk_put (cs := #[.int .i64 t451, .int .i64 t452, .int .i64 t453, .int .i64 t454, .int .i64 0, .int .i64 0, .slice none 0 0, .slice none 0 0]) ?_ 4 _ rfl; (with_reducible repeat (first | refine blk_drewN ?_ _ | refine blk_drew ?_ | refine blk_alloc ?_ _)); refine blk_put (cs := #[.int .i64 t451, .int .i64 t452, .int .i64 t453, .int .i64 0, .int .i64 0, .int .i64 0, .slice none 0 0, .slice none 0 0]) ?_ 3 _ rfl; (with_reducible repeat (first | refine blk_drewN ?_ _ | refine blk_drew ?_ | refine blk_alloc ?_ _)); refine blk_put (cs := #[.int .i64 t451, .int .i64 t452, .int .i64 0, .int .i64 0, .int .i64 0, .int .i64 0, .slice none 0 0, .slice none 0 0]) ?_ 2 _ rfl; (with_reducible repeat (first | refine blk_drewN ?_ _ | refine blk_drew ?_ | refine blk_alloc ?_ _)); refine blk_put (cs := #[.int .i64 t451, .int .i64 0, .int .i64 0, .int .i64 0, .int .i64 0, .int .i64 0, .slice none 0 0, .slice none 0 0]) ?_ 1 _ rfl; (with_reducible repeat (first | refine blk_drewN ?_ _ | refine blk_drew ?_ | refine blk_alloc ?_ _)); refine blk_put (cs := #[.int .i64 0, .int .i64 0, .int .i64 0, .int .i64 0, .int .i64 0, .int .i64 0, .slice none 0 0, .slice none 0 0]) ?_ 0 _ rfl; (with_reducible repeat (first | refine blk_drewN ?_ _ | refine blk_drew ?_ | refine blk_alloc ?_ _)); exact BK464.out) hb); have n9_ := Aside0.mk (below_step bS hb); clear HO_432006; clear HO_432007; clear HO_446006; clear HO_446007; clear HO459; clear HO462; clear BK431; clear BK445; clear BK464; clear HB; have HO_432006 := n0_; have HO_432007 := n1_; have HO_446006 := n2_; have HO_446007 := n3_; have HO459 := n4_; have HO462 := n5_; have BK431 := n6_; have BK445 := n7_; have BK464 := n8_; have HB := n9_; clear n0_ n1_ n2_ n3_ n4_ n5_ n6_ n7_ n8_ n9_; (try clear hb); (try clear hb2); (try clear hk); (try clear hi)))
         go_meet
         case rel => exact ⟨_, ((t463 != t430)), eX, H', ⟨by have := HJ5.out; first | omega | exact Nat.le_refl _⟩, ⟨by (with_reducible repeat (first | apply Kd.R_alloc | apply Kd.R_drewN | apply Kd.R_drew)); exact Kd.R_mono HO_432006.out (fun _ hk => ⟨hk.1.1.1, ⟨hk.1.1.2.1, ⟨hk.1.1.2.2, ⟨hk.1.2, hk.2⟩⟩⟩⟩)⟩, ⟨by (with_reducible repeat (first | apply Kd.R_alloc | apply Kd.R_drewN | apply Kd.R_drew)); exact Kd.R_mono HO_432007.out (fun _ hk => ⟨hk.1.1.1, ⟨hk.1.1.2.1, ⟨hk.1.1.2.2, ⟨hk.1.2, hk.2⟩⟩⟩⟩)⟩, ⟨by (with_reducible repeat (first | apply Kd.R_alloc | apply Kd.R_drewN | apply Kd.R_drew)); exact Kd.R_mono HO_446006.out (fun _ hk => ⟨hk.1.1.1, ⟨hk.1.1.2.1, ⟨hk.1.1.2.2, ⟨hk.1.2, hk.2⟩⟩⟩⟩)⟩, ⟨by (with_reducible repeat (first | apply Kd.R_alloc | apply Kd.R_drewN | apply Kd.R_drew)); exact Kd.R_mono HO_446007.out (fun _ hk => ⟨hk.1.1.1, ⟨hk.1.1.2.1, ⟨hk.1.1.2.2, ⟨hk.1.2, hk.2⟩⟩⟩⟩)⟩, ⟨by (with_reducible repeat (first | apply Kd.R_alloc | apply Kd.R_drewN | apply Kd.R_drew)); exact Kd.R_mono HO459.out (fun _ hk => ⟨hk.1.1.1.2, ⟨hk.1.1.2, ⟨hk.1.2, ⟨hk.2, hk.1.1.1.1⟩⟩⟩⟩)⟩, ⟨by (with_reducible repeat (first | apply Kd.R_alloc | apply Kd.R_drewN | apply Kd.R_drew)); exact Kd.R_mono HO462.out (fun _ hk => ⟨hk.1.1.1.2, ⟨hk.1.1.2, ⟨hk.1.2, ⟨hk.2, hk.1.1.1.1⟩⟩⟩⟩)⟩, ⟨by (with_reducible repeat (first | refine blk_drewN ?_ _ | refine blk_drew ?_ | refine blk_alloc ?_ _)); exact BK431.out⟩, ⟨by (with_reducible repeat (first | refine blk_drewN ?_ _ | refine blk_drew ?_ | refine blk_alloc ?_ _)); exact BK445.out⟩, ⟨by (with_reducible repeat (first | refine blk_drewN ?_ _ | refine blk_drew ?_ | refine blk_alloc ?_ _)); exact BK464.out⟩, ⟨by repeat (first | (with_reducible first | exact HB.out | apply below_alloc | apply pw_below_drewN | apply below_drew1 | refine below_set ?_ GE431.out | refine below_set ?_ GE445.out | refine below_set ?_ GE464.out) | exact HB.out)⟩⟩
        ·replace c48 := Bool.eq_false_iff.mpr c48
         subst c48
         have H1 : (laws_FnExactReadTicket.j1 kj5 t447 true t432 t433 t434 t435 t436 t437 t448 t449) = some r := by rw [if_neg (show ¬ (false = true) by decide)] at H; exact H
         clear H
         have H := H1
         clear H1
         have H' := Aside0.mk H
         clear H
         have hnb55 := NB464_431.out
         have hnc55 := NB431_464.out
         have hnb56 := NB464_445.out
         have hnc56 := NB445_464.out
         have hcz57_0 : w41.cell? ⟨gb464, 0, none⟩ = some (.int .i64 0) := (blk_cell BK464.out 0).trans rfl
         have hcz57_1 : w41.cell? ⟨gb464, 1, none⟩ = some (.int .i64 0) := (blk_cell BK464.out 1).trans rfl
         have hcz57_2 : w41.cell? ⟨gb464, 2, none⟩ = some (.int .i64 0) := (blk_cell BK464.out 2).trans rfl
         have hcz57_3 : w41.cell? ⟨gb464, 3, none⟩ = some (.int .i64 0) := (blk_cell BK464.out 3).trans rfl
         have hcz57_4 : w41.cell? ⟨gb464, 4, none⟩ = some (.int .i64 0) := (blk_cell BK464.out 4).trans rfl
         have hcz57_5 : w41.cell? ⟨gb464, 5, none⟩ = some (.int .i64 0) := (blk_cell BK464.out 5).trans rfl
         have hcz57_6 : w41.cell? ⟨gb464, 6, none⟩ = some (.slice none 0 0) := (blk_cell BK464.out 6).trans rfl
         have hcz57_7 : w41.cell? ⟨gb464, 7, none⟩ = some (.slice none 0 0) := (blk_cell BK464.out 7).trans rfl
         have hfz57_0 := blk_frozen BK464.out 0
         have hfz57_1 := blk_frozen BK464.out 1
         have hfz57_2 := blk_frozen BK464.out 2
         have hfz57_3 := blk_frozen BK464.out 3
         have hfz57_4 := blk_frozen BK464.out 4
         have hfz57_5 := blk_frozen BK464.out 5
         have hfz57_6 := blk_frozen BK464.out 6
         have hfz57_7 := blk_frozen BK464.out 7
         have hnb58 := NB431_445.out
         have hnc58 := NB445_431.out
         have hcz59_0 : w41.cell? ⟨gb431, 0, none⟩ = some (.int .i64 t418) := (blk_cell BK431.out 0).trans rfl
         have hcz59_1 : w41.cell? ⟨gb431, 1, none⟩ = some (.int .i64 t419) := (blk_cell BK431.out 1).trans rfl
         have hcz59_2 : w41.cell? ⟨gb431, 2, none⟩ = some (.int .i64 t420) := (blk_cell BK431.out 2).trans rfl
         have hcz59_3 : w41.cell? ⟨gb431, 3, none⟩ = some (.int .i64 t421) := (blk_cell BK431.out 3).trans rfl
         have hcz59_4 : w41.cell? ⟨gb431, 4, none⟩ = some (.int .i64 t422) := (blk_cell BK431.out 4).trans rfl
         have hcz59_5 : w41.cell? ⟨gb431, 5, none⟩ = some (.int .i64 t423) := (blk_cell BK431.out 5).trans rfl
         have hcz59_6 : w41.cell? ⟨gb431, 6, none⟩ = some (.slice Ao10 t424.length co10) := (blk_cell BK431.out 6).trans rfl
         have hcz59_7 : w41.cell? ⟨gb431, 7, none⟩ = some (.slice Ao11 t427.length co11) := (blk_cell BK431.out 7).trans rfl
         have hfz59_0 := blk_frozen BK431.out 0
         have hfz59_1 := blk_frozen BK431.out 1
         have hfz59_2 := blk_frozen BK431.out 2
         have hfz59_3 := blk_frozen BK431.out 3
         have hfz59_4 := blk_frozen BK431.out 4
         have hfz59_5 := blk_frozen BK431.out 5
         have hfz59_6 := blk_frozen BK431.out 6
         have hfz59_7 := blk_frozen BK431.out 7
         go_wp2_with (first | ((with_reducible refine gate_callee (f := 25) rfl ?_); refine goesL_ (some 56) rfl rfl Try.func25 (by kernel_rfl) rfl #[.agg #[.int .i64 t451, .int .i64 t452, .int .i64 t453, .int .i64 t454, .int .i64 t455, .int .i64 t456, .slice Ao45 t457.length co45, .slice Ao46 t460.length co46], .agg #[.int .i64 t418, .int .i64 t419, .int .i64 t420, .int .i64 t421, .int .i64 t422, .int .i64 t423, .slice Ao10 t424.length co10, .slice Ao11 t427.length co11]] rfl eA ?_; (with_reducible refine (laws_eqTicket.calls kj5 t451 t452 t453 t454 t455 t456 _ _ t457 _ _ t460 t418 t419 t420 t421 t422 t423 _ _ t424 _ _ t427 false _ ?side1 ?side2 ?side3 ?side4 ?side5 ?side6 ?side7 ?side8 A47.out).mono ?_); (case side1 => refine (Kd.R_reads' (e := 3) (base := w.heap.size) (ok := fun k_ => ((((some k_ ≠ (.slice Ao46 t460.length co46 : Value).ownBlock ∧ some k_ ≠ (.slice Ao10 t424.length co10 : Value).ownBlock) ∧ some k_ ≠ (.slice Ao11 t427.length co11 : Value).ownBlock) ∧ some k_ ≠ (.slice Ao16 t438.length co16 : Value).ownBlock) ∧ some k_ ≠ (.slice Ao17 t441.length co17 : Value).ownBlock)) (n := t457.length) (c := co45) ?_).2.2; exact (by (with_reducible repeat (first | apply Kd.R_alloc | apply Kd.R_drewN | apply Kd.R_drew)); exact (Kd.R_mono (Kd.R_far (p := ⟨gb464, 7, none⟩) (Kd.R_far (p := ⟨gb464, 6, none⟩) (Kd.R_far (p := ⟨gb464, 5, none⟩) (Kd.R_far (p := ⟨gb464, 4, none⟩) (Kd.R_far (p := ⟨gb464, 3, none⟩) (Kd.R_far (p := ⟨gb464, 2, none⟩) (Kd.R_far (p := ⟨gb464, 1, none⟩) (Kd.R_far (p := ⟨gb464, 0, none⟩) (Kd.R_types HO459.out BK464.out (by decide)) (fun _ hk => hk.2) (.int .i64 t451)) (fun _ hk => hk.2) (.int .i64 t452)) (fun _ hk => hk.2) (.int .i64 t453)) (fun _ hk => hk.2) (.int .i64 t454)) (fun _ hk => hk.2) (.int .i64 t455)) (fun _ hk => hk.2) (.int .i64 t456)) (fun _ hk => hk.2) (.slice Ao45 t457.length co45)) (fun _ hk => hk.2) (.slice Ao46 t460.length co46)) (fun _ h_ => h_.1)))); (case side2 => exact (Kd.R_reads' HO459.out).2.1); (case side3 => refine (Kd.R_reads' (e := 3) (base := w.heap.size) (ok := fun k_ => ((((some k_ ≠ (.slice Ao45 t457.length co45 : Value).ownBlock ∧ some k_ ≠ (.slice Ao10 t424.length co10 : Value).ownBlock) ∧ some k_ ≠ (.slice Ao11 t427.length co11 : Value).ownBlock) ∧ some k_ ≠ (.slice Ao16 t438.length co16 : Value).ownBlock) ∧ some k_ ≠ (.slice Ao17 t441.length co17 : Value).ownBlock)) (n := t460.length) (c := co46) ?_).2.2; exact (by (with_reducible repeat (first | apply Kd.R_alloc | apply Kd.R_drewN | apply Kd.R_drew)); exact (Kd.R_mono (Kd.R_far (p := ⟨gb464, 7, none⟩) (Kd.R_far (p := ⟨gb464, 6, none⟩) (Kd.R_far (p := ⟨gb464, 5, none⟩) (Kd.R_far (p := ⟨gb464, 4, none⟩) (Kd.R_far (p := ⟨gb464, 3, none⟩) (Kd.R_far (p := ⟨gb464, 2, none⟩) (Kd.R_far (p := ⟨gb464, 1, none⟩) (Kd.R_far (p := ⟨gb464, 0, none⟩) (Kd.R_types HO462.out BK464.out (by decide)) (fun _ hk => hk.2) (.int .i64 t451)) (fun _ hk => hk.2) (.int .i64 t452)) (fun _ hk => hk.2) (.int .i64 t453)) (fun _ hk => hk.2) (.int .i64 t454)) (fun _ hk => hk.2) (.int .i64 t455)) (fun _ hk => hk.2) (.int .i64 t456)) (fun _ hk => hk.2) (.slice Ao45 t457.length co45)) (fun _ hk => hk.2) (.slice Ao46 t460.length co46)) (fun _ h_ => h_.1)))); (case side4 => exact (Kd.R_reads' HO462.out).2.1); (case side5 => refine (Kd.R_reads' (e := 3) (base := w.heap.size) (ok := fun k_ => (((some k_ ≠ (.slice Ao11 t427.length co11 : Value).ownBlock ∧ (some k_ ≠ (.slice Ao16 t438.length co16 : Value).ownBlock ∧ some k_ ≠ (.slice Ao17 t441.length co17 : Value).ownBlock)) ∧ some k_ ≠ (.slice Ao45 t457.length co45 : Value).ownBlock) ∧ some k_ ≠ (.slice Ao46 t460.length co46 : Value).ownBlock)) (n := t424.length) (c := co10) ?_).2.2; exact (by (with_reducible repeat (first | apply Kd.R_alloc | apply Kd.R_drewN | apply Kd.R_drew)); exact (Kd.R_mono (Kd.R_far (p := ⟨gb464, 7, none⟩) (Kd.R_far (p := ⟨gb464, 6, none⟩) (Kd.R_far (p := ⟨gb464, 5, none⟩) (Kd.R_far (p := ⟨gb464, 4, none⟩) (Kd.R_far (p := ⟨gb464, 3, none⟩) (Kd.R_far (p := ⟨gb464, 2, none⟩) (Kd.R_far (p := ⟨gb464, 1, none⟩) (Kd.R_far (p := ⟨gb464, 0, none⟩) (Kd.R_types HO_432006.out BK464.out (by decide)) (fun _ hk => hk.2) (.int .i64 t451)) (fun _ hk => hk.2) (.int .i64 t452)) (fun _ hk => hk.2) (.int .i64 t453)) (fun _ hk => hk.2) (.int .i64 t454)) (fun _ hk => hk.2) (.int .i64 t455)) (fun _ hk => hk.2) (.int .i64 t456)) (fun _ hk => hk.2) (.slice Ao45 t457.length co45)) (fun _ hk => hk.2) (.slice Ao46 t460.length co46)) (fun _ h_ => h_.1)))); (case side6 => exact (Kd.R_reads' HO_432006.out).2.1); (case side7 => refine (Kd.R_reads' (e := 3) (base := w.heap.size) (ok := fun k_ => (((some k_ ≠ (.slice Ao10 t424.length co10 : Value).ownBlock ∧ (some k_ ≠ (.slice Ao16 t438.length co16 : Value).ownBlock ∧ some k_ ≠ (.slice Ao17 t441.length co17 : Value).ownBlock)) ∧ some k_ ≠ (.slice Ao45 t457.length co45 : Value).ownBlock) ∧ some k_ ≠ (.slice Ao46 t460.length co46 : Value).ownBlock)) (n := t427.length) (c := co11) ?_).2.2; exact (by (with_reducible repeat (first | apply Kd.R_alloc | apply Kd.R_drewN | apply Kd.R_drew)); exact (Kd.R_mono (Kd.R_far (p := ⟨gb464, 7, none⟩) (Kd.R_far (p := ⟨gb464, 6, none⟩) (Kd.R_far (p := ⟨gb464, 5, none⟩) (Kd.R_far (p := ⟨gb464, 4, none⟩) (Kd.R_far (p := ⟨gb464, 3, none⟩) (Kd.R_far (p := ⟨gb464, 2, none⟩) (Kd.R_far (p := ⟨gb464, 1, none⟩) (Kd.R_far (p := ⟨gb464, 0, none⟩) (Kd.R_types HO_432007.out BK464.out (by decide)) (fun _ hk => hk.2) (.int .i64 t451)) (fun _ hk => hk.2) (.int .i64 t452)) (fun _ hk => hk.2) (.int .i64 t453)) (fun _ hk => hk.2) (.int .i64 t454)) (fun _ hk => hk.2) (.int .i64 t455)) (fun _ hk => hk.2) (.int .i64 t456)) (fun _ hk => hk.2) (.slice Ao45 t457.length co45)) (fun _ hk => hk.2) (.slice Ao46 t460.length co46)) (fun _ h_ => h_.1)))); (case side8 => exact (Kd.R_reads' HO_432007.out).2.1); rintro e w60 ⟨rfl, hb⟩; refine ⟨_, rfl, ?_⟩; have n0_ := Aside0.mk (Kd.R_below (by (with_reducible repeat (first | apply Kd.R_alloc | apply Kd.R_drewN | apply Kd.R_drew)); exact (Kd.R_mono (Kd.R_far (p := ⟨gb464, 7, none⟩) (Kd.R_far (p := ⟨gb464, 6, none⟩) (Kd.R_far (p := ⟨gb464, 5, none⟩) (Kd.R_far (p := ⟨gb464, 4, none⟩) (Kd.R_far (p := ⟨gb464, 3, none⟩) (Kd.R_far (p := ⟨gb464, 2, none⟩) (Kd.R_far (p := ⟨gb464, 1, none⟩) (Kd.R_far (p := ⟨gb464, 0, none⟩) (Kd.R_types HO_432006.out BK464.out (by decide)) (fun _ hk => hk.2) (.int .i64 t451)) (fun _ hk => hk.2) (.int .i64 t452)) (fun _ hk => hk.2) (.int .i64 t453)) (fun _ hk => hk.2) (.int .i64 t454)) (fun _ hk => hk.2) (.int .i64 t455)) (fun _ hk => hk.2) (.int .i64 t456)) (fun _ hk => hk.2) (.slice Ao45 t457.length co45)) (fun _ hk => hk.2) (.slice Ao46 t460.length co46)) (fun _ h_ => h_.1))) hb); have n1_ := Aside0.mk (Kd.R_below (by (with_reducible repeat (first | apply Kd.R_alloc | apply Kd.R_drewN | apply Kd.R_drew)); exact (Kd.R_mono (Kd.R_far (p := ⟨gb464, 7, none⟩) (Kd.R_far (p := ⟨gb464, 6, none⟩) (Kd.R_far (p := ⟨gb464, 5, none⟩) (Kd.R_far (p := ⟨gb464, 4, none⟩) (Kd.R_far (p := ⟨gb464, 3, none⟩) (Kd.R_far (p := ⟨gb464, 2, none⟩) (Kd.R_far (p := ⟨gb464, 1, none⟩) (Kd.R_far (p := ⟨gb464, 0, none⟩) (Kd.R_types HO_432007.out BK464.out (by decide)) (fun _ hk => hk.2) (.int .i64 t451)) (fun _ hk => hk.2) (.int .i64 t452)) (fun _ hk => hk.2) (.int .i64 t453)) (fun _ hk => hk.2) (.int .i64 t454)) (fun _ hk => hk.2) (.int .i64 t455)) (fun _ hk => hk.2) (.int .i64 t456)) (fun _ hk => hk.2) (.slice Ao45 t457.length co45)) (fun _ hk => hk.2) (.slice Ao46 t460.length co46)) (fun _ h_ => h_.1))) hb); have n2_ := Aside0.mk (Kd.R_below (by (with_reducible repeat (first | apply Kd.R_alloc | apply Kd.R_drewN | apply Kd.R_drew)); exact (Kd.R_mono (Kd.R_far (p := ⟨gb464, 7, none⟩) (Kd.R_far (p := ⟨gb464, 6, none⟩) (Kd.R_far (p := ⟨gb464, 5, none⟩) (Kd.R_far (p := ⟨gb464, 4, none⟩) (Kd.R_far (p := ⟨gb464, 3, none⟩) (Kd.R_far (p := ⟨gb464, 2, none⟩) (Kd.R_far (p := ⟨gb464, 1, none⟩) (Kd.R_far (p := ⟨gb464, 0, none⟩) (Kd.R_types HO_446006.out BK464.out (by decide)) (fun _ hk => hk.2) (.int .i64 t451)) (fun _ hk => hk.2) (.int .i64 t452)) (fun _ hk => hk.2) (.int .i64 t453)) (fun _ hk => hk.2) (.int .i64 t454)) (fun _ hk => hk.2) (.int .i64 t455)) (fun _ hk => hk.2) (.int .i64 t456)) (fun _ hk => hk.2) (.slice Ao45 t457.length co45)) (fun _ hk => hk.2) (.slice Ao46 t460.length co46)) (fun _ h_ => h_.1))) hb); have n3_ := Aside0.mk (Kd.R_below (by (with_reducible repeat (first | apply Kd.R_alloc | apply Kd.R_drewN | apply Kd.R_drew)); exact (Kd.R_mono (Kd.R_far (p := ⟨gb464, 7, none⟩) (Kd.R_far (p := ⟨gb464, 6, none⟩) (Kd.R_far (p := ⟨gb464, 5, none⟩) (Kd.R_far (p := ⟨gb464, 4, none⟩) (Kd.R_far (p := ⟨gb464, 3, none⟩) (Kd.R_far (p := ⟨gb464, 2, none⟩) (Kd.R_far (p := ⟨gb464, 1, none⟩) (Kd.R_far (p := ⟨gb464, 0, none⟩) (Kd.R_types HO_446007.out BK464.out (by decide)) (fun _ hk => hk.2) (.int .i64 t451)) (fun _ hk => hk.2) (.int .i64 t452)) (fun _ hk => hk.2) (.int .i64 t453)) (fun _ hk => hk.2) (.int .i64 t454)) (fun _ hk => hk.2) (.int .i64 t455)) (fun _ hk => hk.2) (.int .i64 t456)) (fun _ hk => hk.2) (.slice Ao45 t457.length co45)) (fun _ hk => hk.2) (.slice Ao46 t460.length co46)) (fun _ h_ => h_.1))) hb); have n4_ := Aside0.mk (Kd.R_below (by (with_reducible repeat (first | apply Kd.R_alloc | apply Kd.R_drewN | apply Kd.R_drew)); exact (Kd.R_mono (Kd.R_far (p := ⟨gb464, 7, none⟩) (Kd.R_far (p := ⟨gb464, 6, none⟩) (Kd.R_far (p := ⟨gb464, 5, none⟩) (Kd.R_far (p := ⟨gb464, 4, none⟩) (Kd.R_far (p := ⟨gb464, 3, none⟩) (Kd.R_far (p := ⟨gb464, 2, none⟩) (Kd.R_far (p := ⟨gb464, 1, none⟩) (Kd.R_far (p := ⟨gb464, 0, none⟩) (Kd.R_types HO459.out BK464.out (by decide)) (fun _ hk => hk.2) (.int .i64 t451)) (fun _ hk => hk.2) (.int .i64 t452)) (fun _ hk => hk.2) (.int .i64 t453)) (fun _ hk => hk.2) (.int .i64 t454)) (fun _ hk => hk.2) (.int .i64 t455)) (fun _ hk => hk.2) (.int .i64 t456)) (fun _ hk => hk.2) (.slice Ao45 t457.length co45)) (fun _ hk => hk.2) (.slice Ao46 t460.length co46)) (fun _ h_ => h_.1))) hb); have n5_ := Aside0.mk (Kd.R_below (by (with_reducible repeat (first | apply Kd.R_alloc | apply Kd.R_drewN | apply Kd.R_drew)); exact (Kd.R_mono (Kd.R_far (p := ⟨gb464, 7, none⟩) (Kd.R_far (p := ⟨gb464, 6, none⟩) (Kd.R_far (p := ⟨gb464, 5, none⟩) (Kd.R_far (p := ⟨gb464, 4, none⟩) (Kd.R_far (p := ⟨gb464, 3, none⟩) (Kd.R_far (p := ⟨gb464, 2, none⟩) (Kd.R_far (p := ⟨gb464, 1, none⟩) (Kd.R_far (p := ⟨gb464, 0, none⟩) (Kd.R_types HO462.out BK464.out (by decide)) (fun _ hk => hk.2) (.int .i64 t451)) (fun _ hk => hk.2) (.int .i64 t452)) (fun _ hk => hk.2) (.int .i64 t453)) (fun _ hk => hk.2) (.int .i64 t454)) (fun _ hk => hk.2) (.int .i64 t455)) (fun _ hk => hk.2) (.int .i64 t456)) (fun _ hk => hk.2) (.slice Ao45 t457.length co45)) (fun _ hk => hk.2) (.slice Ao46 t460.length co46)) (fun _ h_ => h_.1))) hb); have n6_ := Aside0.mk (blk_below (g := gb431) (o := .cells #[.int .i64 t418, .int .i64 t419, .int .i64 t420, .int .i64 t421, .int .i64 t422, .int .i64 t423, .slice Ao10 t424.length co10, .slice Ao11 t427.length co11] 52 (0, 0)) (by (with_reducible repeat (first | refine blk_drewN ?_ _ | refine blk_drew ?_ | refine blk_alloc ?_ _)); refine blk_far ?_ NB431_464.out _; (with_reducible repeat (first | refine blk_drewN ?_ _ | refine blk_drew ?_ | refine blk_alloc ?_ _)); refine blk_far ?_ NB431_464.out _; (with_reducible repeat (first | refine blk_drewN ?_ _ | refine blk_drew ?_ | refine blk_alloc ?_ _)); refine blk_far ?_ NB431_464.out _; (with_reducible repeat (first | refine blk_drewN ?_ _ | refine blk_drew ?_ | refine blk_alloc ?_ _)); refine blk_far ?_ NB431_464.out _; (with_reducible repeat (first | refine blk_drewN ?_ _ | refine blk_drew ?_ | refine blk_alloc ?_ _)); refine blk_far ?_ NB431_464.out _; (with_reducible repeat (first | refine blk_drewN ?_ _ | refine blk_drew ?_ | refine blk_alloc ?_ _)); refine blk_far ?_ NB431_464.out _; (with_reducible repeat (first | refine blk_drewN ?_ _ | refine blk_drew ?_ | refine blk_alloc ?_ _)); refine blk_far ?_ NB431_464.out _; (with_reducible repeat (first | refine blk_drewN ?_ _ | refine blk_drew ?_ | refine blk_alloc ?_ _)); refine blk_far ?_ NB431_464.out _; (with_reducible repeat (first | refine blk_drewN ?_ _ | refine blk_drew ?_ | refine blk_alloc ?_ _)); exact BK431.out) hb); have n7_ := Aside0.mk (blk_below (g := gb445) (o := .cells #[.int .i64 t432, .int .i64 t433, .int .i64 t434, .int .i64 t435, .int .i64 t436, .int .i64 t437, .slice Ao16 t438.length co16, .slice Ao17 t441.length co17] 52 (0, 0)) (by (with_reducible repeat (first | refine blk_drewN ?_ _ | refine blk_drew ?_ | refine blk_alloc ?_ _)); refine blk_far ?_ NB445_464.out _; (with_reducible repeat (first | refine blk_drewN ?_ _ | refine blk_drew ?_ | refine blk_alloc ?_ _)); refine blk_far ?_ NB445_464.out _; (with_reducible repeat (first | refine blk_drewN ?_ _ | refine blk_drew ?_ | refine blk_alloc ?_ _)); refine blk_far ?_ NB445_464.out _; (with_reducible repeat (first | refine blk_drewN ?_ _ | refine blk_drew ?_ | refine blk_alloc ?_ _)); refine blk_far ?_ NB445_464.out _; (with_reducible repeat (first | refine blk_drewN ?_ _ | refine blk_drew ?_ | refine blk_alloc ?_ _)); refine blk_far ?_ NB445_464.out _; (with_reducible repeat (first | refine blk_drewN ?_ _ | refine blk_drew ?_ | refine blk_alloc ?_ _)); refine blk_far ?_ NB445_464.out _; (with_reducible repeat (first | refine blk_drewN ?_ _ | refine blk_drew ?_ | refine blk_alloc ?_ _)); refine blk_far ?_ NB445_464.out _; (with_reducible repeat (first | refine blk_drewN ?_ _ | refine blk_drew ?_ | refine blk_alloc ?_ _)); refine blk_far ?_ NB445_464.out _; (with_reducible repeat (first | refine blk_drewN ?_ _ | refine blk_drew ?_ | refine blk_alloc ?_ _)); exact BK445.out) hb); have n8_ := Aside0.mk (blk_below (g := gb464) (o := .cells #[.int .i64 t451, .int .i64 t452, .int .i64 t453, .int .i64 t454, .int .i64 t455, .int .i64 t456, .slice Ao45 t457.length co45, .slice Ao46 t460.length co46] 52 (0, 0)) (by (with_reducible repeat (first | refine blk_drewN ?_ _ | refine blk_drew ?_ | refine blk_alloc ?_ _)); refine blk_put (cs := #[.int .i64 t451, .int .i64 t452, .int .i64 t453, .int .i64 t454, .int .i64 t455, .int .i64 t456, .slice Ao45 t457.length co45, .slice none 0 0]) ?_ 7 _ rfl; (with_reducible repeat (first | refine blk_drewN ?_ _ | refine blk_drew ?_ | refine blk_alloc ?_ _)); refine blk_put (cs := #[.int .i64 t451, .int .i64 t452, .int .i64 t453, .int .i64 t454, .int .i64 t455, .int .i64 t456, .slice none 0 0, .slice none 0 0]) ?_ 6 _ rfl; (with_reducible repeat (first | refine blk_drewN ?_ _ | refine blk_drew ?_ | refine blk_alloc ?_ _)); refine blk_put (cs := #[.int .i64 t451, .int .i64 t452, .int .i64 t453, .int .i64 t454, .int .i64 t455, .int .i64 0, .slice none 0 0, .slice none 0 0]) ?_ 5 _ rfl; (with_reducible repeat (first | refine blk_drewN ?_ _ | refine blk_drew ?_ | refine blk_alloc ?_ _)); refine blk_put (cs := #[.int .i64 t451, .int .i64 t452, .int .i64 t453, .int .i64 t454, .int .i64 0, .int .i64 0, .slice none 0 0, .slice none 0 0]) ?_ 4 _ rfl; (with_reducible repeat (first | refine blk_drewN ?_ _ | refine blk_drew ?_ | refine blk_alloc ?_ _)); refine blk_put (cs := #[.int .i64 t451, .int .i64 t452, .int .i64 t453, .int .i64 0, .int .i64 0, .int .i64 0, .slice none 0 0, .slice none 0 0]) ?_ 3 _ rfl; (with_reducible repeat (first | refine blk_drewN ?_ _ | refine blk_drew ?_ | refine blk_alloc ?_ _)); refine blk_put (cs := #[.int .i64 t451, .int .i64 t452, .int .i64 0, .int .i64 0, .int .i64 0, .int .i64 0, .slice none 0 0, .slice none 0 0]) ?_ 2 _ rfl; (with_reducible repeat (first | refine blk_drewN ?_ _ | refine blk_drew ?_ | refine blk_alloc ?_ _)); refine blk_put (cs := #[.int .i64 t451, .int .i64 0, .int .i64 0, .int .i64 0, .int .i64 0, .int .i64 0, .slice none 0 0, .slice none 0 0]) ?_ 1 _ rfl; (with_reducible repeat (first | refine blk_drewN ?_ _ | refine blk_drew ?_ | refine blk_alloc ?_ _)); refine blk_put (cs := #[.int .i64 0, .int .i64 0, .int .i64 0, .int .i64 0, .int .i64 0, .int .i64 0, .slice none 0 0, .slice none 0 0]) ?_ 0 _ rfl; (with_reducible repeat (first | refine blk_drewN ?_ _ | refine blk_drew ?_ | refine blk_alloc ?_ _)); exact BK464.out) hb); have n9_ := Aside0.mk (below_step bS hb); clear HO_432006; clear HO_432007; clear HO_446006; clear HO_446007; clear HO459; clear HO462; clear BK431; clear BK445; clear BK464; clear HB; have HO_432006 := n0_; have HO_432007 := n1_; have HO_446006 := n2_; have HO_446007 := n3_; have HO459 := n4_; have HO462 := n5_; have BK431 := n6_; have BK445 := n7_; have BK464 := n8_; have HB := n9_; clear n0_ n1_ n2_ n3_ n4_ n5_ n6_ n7_ n8_ n9_; (try clear hb); (try clear hb2); (try clear hk); (try clear hi)))
         go_meet
         case rel => exact ⟨_, (true), eX, H', ⟨by have := HJ5.out; first | omega | exact Nat.le_refl _⟩, ⟨by (with_reducible repeat (first | apply Kd.R_alloc | apply Kd.R_drewN | apply Kd.R_drew)); exact Kd.R_mono HO_432006.out (fun _ hk => ⟨hk.1.1.1, ⟨hk.1.1.2.1, ⟨hk.1.1.2.2, ⟨hk.1.2, hk.2⟩⟩⟩⟩)⟩, ⟨by (with_reducible repeat (first | apply Kd.R_alloc | apply Kd.R_drewN | apply Kd.R_drew)); exact Kd.R_mono HO_432007.out (fun _ hk => ⟨hk.1.1.1, ⟨hk.1.1.2.1, ⟨hk.1.1.2.2, ⟨hk.1.2, hk.2⟩⟩⟩⟩)⟩, ⟨by (with_reducible repeat (first | apply Kd.R_alloc | apply Kd.R_drewN | apply Kd.R_drew)); exact Kd.R_mono HO_446006.out (fun _ hk => ⟨hk.1.1.1, ⟨hk.1.1.2.1, ⟨hk.1.1.2.2, ⟨hk.1.2, hk.2⟩⟩⟩⟩)⟩, ⟨by (with_reducible repeat (first | apply Kd.R_alloc | apply Kd.R_drewN | apply Kd.R_drew)); exact Kd.R_mono HO_446007.out (fun _ hk => ⟨hk.1.1.1, ⟨hk.1.1.2.1, ⟨hk.1.1.2.2, ⟨hk.1.2, hk.2⟩⟩⟩⟩)⟩, ⟨by (with_reducible repeat (first | apply Kd.R_alloc | apply Kd.R_drewN | apply Kd.R_drew)); exact Kd.R_mono HO459.out (fun _ hk => ⟨hk.1.1.1.2, ⟨hk.1.1.2, ⟨hk.1.2, ⟨hk.2, hk.1.1.1.1⟩⟩⟩⟩)⟩, ⟨by (with_reducible repeat (first | apply Kd.R_alloc | apply Kd.R_drewN | apply Kd.R_drew)); exact Kd.R_mono HO462.out (fun _ hk => ⟨hk.1.1.1.2, ⟨hk.1.1.2, ⟨hk.1.2, ⟨hk.2, hk.1.1.1.1⟩⟩⟩⟩)⟩, ⟨by (with_reducible repeat (first | refine blk_drewN ?_ _ | refine blk_drew ?_ | refine blk_alloc ?_ _)); exact BK431.out⟩, ⟨by (with_reducible repeat (first | refine blk_drewN ?_ _ | refine blk_drew ?_ | refine blk_alloc ?_ _)); exact BK445.out⟩, ⟨by (with_reducible repeat (first | refine blk_drewN ?_ _ | refine blk_drew ?_ | refine blk_alloc ?_ _)); exact BK464.out⟩, ⟨by repeat (first | (with_reducible first | exact HB.out | apply below_alloc | apply pw_below_drewN | apply below_drew1 | refine below_set ?_ GE431.out | refine below_set ?_ GE445.out | refine below_set ?_ GE464.out) | exact HB.out)⟩⟩
       case rest =>
        clear HC34
        try clear c1
        try clear c2
        try clear p2
        try clear c3
        try clear c3b0
        try clear c3b1
        try clear c4
        try clear c5
        try clear c8
        try clear c14
        try clear c19
        try clear c20
        try clear c24
        try clear c25
        try clear c26
        try clear c27
        try clear c28
        try clear c29
        try clear c31
        try clear c31b0
        try clear c32
        try clear c32b0
        try clear c32b1
        try clear c35
        try clear c42
        try clear c43
        try clear c48
        try clear c49
        try clear c50
        try clear c52
        try clear c55
        try clear c56
        try clear c58
        try clear hcz15_0
        try clear hcz15_1
        try clear hcz15_2
        try clear hcz15_3
        try clear hcz15_4
        try clear hcz15_5
        try clear hcz15_6
        try clear hcz15_7
        try clear hcz21_0
        try clear hcz21_1
        try clear hcz21_2
        try clear hcz21_3
        try clear hcz21_4
        try clear hcz21_5
        try clear hcz21_6
        try clear hcz21_7
        try clear hcz22_0
        try clear hcz22_1
        try clear hcz22_2
        try clear hcz22_3
        try clear hcz22_4
        try clear hcz22_5
        try clear hcz22_6
        try clear hcz22_7
        try clear hcz25_0
        try clear hcz25_1
        try clear hcz25_2
        try clear hcz25_3
        try clear hcz25_4
        try clear hcz25_5
        try clear hcz25_6
        try clear hcz25_7
        try clear hcz26_0
        try clear hcz26_1
        try clear hcz26_2
        try clear hcz26_3
        try clear hcz26_4
        try clear hcz26_5
        try clear hcz26_6
        try clear hcz26_7
        try clear hcz36_0
        try clear hcz36_1
        try clear hcz36_2
        try clear hcz36_3
        try clear hcz36_4
        try clear hcz36_5
        try clear hcz36_6
        try clear hcz36_7
        try clear hcz38_0
        try clear hcz38_1
        try clear hcz38_2
        try clear hcz38_3
        try clear hcz38_4
        try clear hcz38_5
        try clear hcz38_6
        try clear hcz38_7
        try clear hcz44_0
        try clear hcz44_1
        try clear hcz44_2
        try clear hcz44_3
        try clear hcz44_4
        try clear hcz44_5
        try clear hcz44_6
        try clear hcz44_7
        try clear hcz51_0
        try clear hcz51_1
        try clear hcz51_2
        try clear hcz51_3
        try clear hcz51_4
        try clear hcz51_5
        try clear hcz51_6
        try clear hcz51_7
        try clear hcz53_0
        try clear hcz53_1
        try clear hcz53_2
        try clear hcz53_3
        try clear hcz53_4
        try clear hcz53_5
        try clear hcz53_6
        try clear hcz53_7
        try clear hcz57_0
        try clear hcz57_1
        try clear hcz57_2
        try clear hcz57_3
        try clear hcz57_4
        try clear hcz57_5
        try clear hcz57_6
        try clear hcz57_7
        try clear hcz59_0
        try clear hcz59_1
        try clear hcz59_2
        try clear hcz59_3
        try clear hcz59_4
        try clear hcz59_5
        try clear hcz59_6
        try clear hcz59_7
        try clear hcz9_0
        try clear hcz9_1
        try clear hcz9_2
        try clear hcz9_3
        try clear hcz9_4
        try clear hcz9_5
        try clear hcz9_6
        try clear hcz9_7
        try clear hfz15_0
        try clear hfz15_1
        try clear hfz15_2
        try clear hfz15_3
        try clear hfz15_4
        try clear hfz15_5
        try clear hfz15_6
        try clear hfz15_7
        try clear hfz21_0
        try clear hfz21_1
        try clear hfz21_2
        try clear hfz21_3
        try clear hfz21_4
        try clear hfz21_5
        try clear hfz21_6
        try clear hfz21_7
        try clear hfz22_0
        try clear hfz22_1
        try clear hfz22_2
        try clear hfz22_3
        try clear hfz22_4
        try clear hfz22_5
        try clear hfz22_6
        try clear hfz22_7
        try clear hfz25_0
        try clear hfz25_1
        try clear hfz25_2
        try clear hfz25_3
        try clear hfz25_4
        try clear hfz25_5
        try clear hfz25_6
        try clear hfz25_7
        try clear hfz26_0
        try clear hfz26_1
        try clear hfz26_2
        try clear hfz26_3
        try clear hfz26_4
        try clear hfz26_5
        try clear hfz26_6
        try clear hfz26_7
        try clear hfz36_0
        try clear hfz36_1
        try clear hfz36_2
        try clear hfz36_3
        try clear hfz36_4
        try clear hfz36_5
        try clear hfz36_6
        try clear hfz36_7
        try clear hfz38_0
        try clear hfz38_1
        try clear hfz38_2
        try clear hfz38_3
        try clear hfz38_4
        try clear hfz38_5
        try clear hfz38_6
        try clear hfz38_7
        try clear hfz44_0
        try clear hfz44_1
        try clear hfz44_2
        try clear hfz44_3
        try clear hfz44_4
        try clear hfz44_5
        try clear hfz44_6
        try clear hfz44_7
        try clear hfz51_0
        try clear hfz51_1
        try clear hfz51_2
        try clear hfz51_3
        try clear hfz51_4
        try clear hfz51_5
        try clear hfz51_6
        try clear hfz51_7
        try clear hfz53_0
        try clear hfz53_1
        try clear hfz53_2
        try clear hfz53_3
        try clear hfz53_4
        try clear hfz53_5
        try clear hfz53_6
        try clear hfz53_7
        try clear hfz57_0
        try clear hfz57_1
        try clear hfz57_2
        try clear hfz57_3
        try clear hfz57_4
        try clear hfz57_5
        try clear hfz57_6
        try clear hfz57_7
        try clear hfz59_0
        try clear hfz59_1
        try clear hfz59_2
        try clear hfz59_3
        try clear hfz59_4
        try clear hfz59_5
        try clear hfz59_6
        try clear hfz59_7
        try clear hfz9_0
        try clear hfz9_1
        try clear hfz9_2
        try clear hfz9_3
        try clear hfz9_4
        try clear hfz9_5
        try clear hfz9_6
        try clear hfz9_7
        try clear p2
        obtain ⟨kq, x62_33, rfl, HA, HJ33, HO_432006, HO_432007, HO_446006, HO_446007, HO_465006, HO_465007, BK431, BK445, BK464, HB⟩ := hcut
        have hl446006_33 := (Kd.R_reads' HO_446006.out).1
        rw [hl446006_33] at HO_446006
        (try simp only [hl446006_33])
        (try simp only [hl446006_33] at BK431)
        (try simp only [hl446006_33] at BK445)
        (try simp only [hl446006_33] at BK464)
        (try simp only [hl446006_33] at HO_432006)
        (try simp only [hl446006_33] at HO_432007)
        (try simp only [hl446006_33] at HO_446007)
        (try simp only [hl446006_33] at HO_465006)
        (try simp only [hl446006_33] at HO_465007)
        have hl446007_33 := (Kd.R_reads' HO_446007.out).1
        rw [hl446007_33] at HO_446007
        (try simp only [hl446007_33])
        (try simp only [hl446007_33] at BK431)
        (try simp only [hl446007_33] at BK445)
        (try simp only [hl446007_33] at BK464)
        (try simp only [hl446007_33] at HO_432006)
        (try simp only [hl446007_33] at HO_432007)
        (try simp only [hl446007_33] at HO_446006)
        (try simp only [hl446007_33] at HO_465006)
        (try simp only [hl446007_33] at HO_465007)
        cases kq with
        | zero => exact absurd HA.out (by simp [laws_FnExactReadTicket.j1])
        | succ kj33 =>
         have H := HA.out
         clear HA
         simp only [laws_FnExactReadTicket.j1] at H
         by_cases c61 : x62_33 = true
         ·subst c61
          have H1 : (some false) = some r := by rw [if_pos rfl] at H; exact H
          clear H
          have H := H1
          clear H1
          rw [hr_true.out] at H
          exact absurd H (by simp)
         ·replace c61 := Bool.eq_false_iff.mpr c61
          subst c61
          have H1 : ((laws_heldTicket.f kj33 t432 t433 t434 t435 t436 t437 t448 t449 1).bind fun t466 => (if t466 < 0 then (some false) else (if t466 = t447 then (some true) else (some false)))) = some r := by rw [if_neg (show ¬ (false = true) by decide)] at H; exact H
          clear H
          have H := H1
          clear H1
          replace H := Option.bind_eq_some_iff.mp H
          obtain ⟨t466, A620, H⟩ := H
          replace H : (if t466 < 0 then (some false) else (if t466 = t447 then (some true) else (some false))) = some r := H
          have A62 := Aside0.mk A620
          clear A620
          by_cases c63 : t466 < 0
          ·rw [if_pos c63] at H
           have c63b0 : decide (t466 < 0) = true := decide_eq_true c63
           clear c63
           rw [hr_true.out] at H
           exact absurd H (by simp)
          ·rw [if_neg c63] at H
           have c63b0 : decide (t466 < 0) = false := decide_eq_false c63
           clear c63
           by_cases c64 : t466 = t447
           ·rw [if_pos c64] at H
            have c64b0 : (t466 == t447) = true := beq_iff_eq.mpr c64
            have c64b1 : (t466 != t447) = false := bne_eq_false_iff_eq.mpr c64
            clear c64
            obtain rfl := Option.some.inj H
            have hnb65 := NB445_431.out
            have hnc65 := NB431_445.out
            have hnb66 := NB445_464.out
            have hnc66 := NB464_445.out
            have hcz67_0 : wc.cell? ⟨gb445, 0, none⟩ = some (.int .i64 t432) := (blk_cell BK445.out 0).trans rfl
            have hcz67_1 : wc.cell? ⟨gb445, 1, none⟩ = some (.int .i64 t433) := (blk_cell BK445.out 1).trans rfl
            have hcz67_2 : wc.cell? ⟨gb445, 2, none⟩ = some (.int .i64 t434) := (blk_cell BK445.out 2).trans rfl
            have hcz67_3 : wc.cell? ⟨gb445, 3, none⟩ = some (.int .i64 t435) := (blk_cell BK445.out 3).trans rfl
            have hcz67_4 : wc.cell? ⟨gb445, 4, none⟩ = some (.int .i64 t436) := (blk_cell BK445.out 4).trans rfl
            have hcz67_5 : wc.cell? ⟨gb445, 5, none⟩ = some (.int .i64 t437) := (blk_cell BK445.out 5).trans rfl
            have hcz67_6 : wc.cell? ⟨gb445, 6, none⟩ = some (.slice Ao16 t448.length co16) := (blk_cell BK445.out 6).trans rfl
            have hcz67_7 : wc.cell? ⟨gb445, 7, none⟩ = some (.slice Ao17 t449.length co17) := (blk_cell BK445.out 7).trans rfl
            have hfz67_0 := blk_frozen BK445.out 0
            have hfz67_1 := blk_frozen BK445.out 1
            have hfz67_2 := blk_frozen BK445.out 2
            have hfz67_3 := blk_frozen BK445.out 3
            have hfz67_4 := blk_frozen BK445.out 4
            have hfz67_5 := blk_frozen BK445.out 5
            have hfz67_6 := blk_frozen BK445.out 6
            have hfz67_7 := blk_frozen BK445.out 7
            go_wp2_with (first | ((with_reducible refine gate_callee (f := 29) rfl ?_); refine goesL_ (some 65) rfl rfl Try.func29 (by kernel_rfl) rfl #[.agg #[.int .i64 t432, .int .i64 t433, .int .i64 t434, .int .i64 t435, .int .i64 t436, .int .i64 t437, .slice Ao16 t448.length co16, .slice Ao17 t449.length co17], .int .i64 1] rfl eA ?_; (with_reducible refine (laws_heldTicket.calls kj33 t432 t433 t434 t435 t436 t437 _ _ t448 _ _ t449 1 t466 _ ?side1 ?side2 ?side3 ?side4 A62.out).mono ?_); (case side1 => repeat (first | exact (Kd.R_reads' HO_446006.out).2.2 | (with_reducible refine Kd.C_alloc ?_ _) | (with_reducible refine Kd.C_drewN ?_ _) | (with_reducible refine Kd.C_drew ?_))); (case side2 => exact (Kd.R_reads' HO_446006.out).2.1); (case side3 => repeat (first | exact (Kd.R_reads' HO_446007.out).2.2 | (with_reducible refine Kd.C_alloc ?_ _) | (with_reducible refine Kd.C_drewN ?_ _) | (with_reducible refine Kd.C_drew ?_))); (case side4 => exact (Kd.R_reads' HO_446007.out).2.1); rintro e w68 ⟨rfl, hb⟩; refine ⟨_, rfl, ?_⟩; have n0_ := Aside0.mk (Kd.R_below (kR HO_432006.out) hb); have n1_ := Aside0.mk (Kd.R_below (kR HO_432007.out) hb); have n2_ := Aside0.mk (Kd.R_below (kR HO_446006.out) hb); have n3_ := Aside0.mk (Kd.R_below (kR HO_446007.out) hb); have n4_ := Aside0.mk (Kd.R_below (kR HO_465006.out) hb); have n5_ := Aside0.mk (Kd.R_below (kR HO_465007.out) hb); have n6_ := Aside0.mk (blk_below (kB BK431.out) hb); have n7_ := Aside0.mk (blk_below (kB BK445.out) hb); have n8_ := Aside0.mk (blk_below (kB BK464.out) hb); have n9_ := Aside0.mk (below_step bS hb); clear HO_432006; clear HO_432007; clear HO_446006; clear HO_446007; clear HO_465006; clear HO_465007; clear BK431; clear BK445; clear BK464; clear HB; have HO_432006 := n0_; have HO_432007 := n1_; have HO_446006 := n2_; have HO_446007 := n3_; have HO_465006 := n4_; have HO_465007 := n5_; have BK431 := n6_; have BK445 := n7_; have BK464 := n8_; have HB := n9_; clear n0_ n1_ n2_ n3_ n4_ n5_ n6_ n7_ n8_ n9_; (try clear hb); (try clear hb2); (try clear hk); (try clear hi)))
            go_ret
            exact ⟨eE, bS⟩
           ·rw [if_neg c64] at H
            have c64b0 : (t466 == t447) = false := beq_eq_false_iff_ne.mpr c64
            have c64b1 : (t466 != t447) = true := bne_iff_ne.mpr c64
            rw [hr_true.out] at H
            exact absurd H (by simp)
      ·rw [if_neg c32] at H
       have c32b0 : (t450 == t447) = false := beq_eq_false_iff_ne.mpr c32
       have c32b1 : (t450 != t447) = true := bne_iff_ne.mpr c32
       rw [hr_true.out] at H
       exact absurd H (by simp)

/-- THE ONE PURE STATEMENT of laws_FnExactReadTicket: yours. -/
def laws_FnExactReadTicket.Pure : Prop := ∀ (a0 : ByteArray) (a1 : Int), a0.size ≤ 140737488351232 → (Lit.int .i64 a1).wf = true → ∃ k, laws_FnExactReadTicket.f k a0 a1 = some true
theorem laws_FnExactReadTicket.walk (P : laws_FnExactReadTicket.Pure) (a0 : ByteArray) (a1 : Int) (w : World) (w0 : a0.size ≤ 140737488351232) (w1 : (Lit.int .i64 a1).wf = true) :
  Calls Try.prog 8 #[.string a0, .int .i64 a1] w fun e w' => e = .returned (.bool true) ∧ Below w.heap.size w w' := by
 obtain ⟨k, h⟩ := P a0 a1 w0 w1
 refine (laws_FnExactReadTicket.calls k a0 a1 true w h ⟨rfl⟩).mono ?_
 rintro e w' ⟨rfl, hd⟩
 exact ⟨rfl, hd⟩

end Go.Proofs.Ytmhjpnjolgigmaa.OFnExactReadTicket
-- halved
-- squeezed
