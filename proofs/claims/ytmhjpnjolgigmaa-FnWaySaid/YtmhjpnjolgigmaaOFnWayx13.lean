-- walks of this claim, written by a program of mine
import Derived.Test.YtmhjpnjolgigmaaOFnWayx0
import Derived.Test.YtmhjpnjolgigmaaOFnWayx1
import Derived.Test.YtmhjpnjolgigmaaOFnWayx4
import Derived.Test.YtmhjpnjolgigmaaOFnWayx7
import Derived.Test.YtmhjpnjolgigmaaOFnWayx10
import Derived.Test.YtmhjpnjolgigmaaOFnWayx12
namespace Go.Proofs.Ytmhjpnjolgigmaa.OFnWay
open Go.RowKit Go.Proofs.Ytmhjpnjolgigmaa.OWord Go.Proofs.YtmhjpnjolgigmaaW.PrintWords Go.Proofs.YtmhjpnjolgigmaaW.PrintLast Go.Proofs.YtmhjpnjolgigmaaW.PrintMore
attribute [local go_sem] max2_int min2_int max_two min_two max_three min_three max_four min_four   -- for this text's walks alone
set_option linter.unusedVariables false
set_option linter.unusedSimpArgs false

attribute [local go_sem high] eqA42
/-! ### laws_FnWay: function 5 -/
mutual
def laws_FnWay.l0 : Nat → Int → Int → Int → Int → List Int → List Int → List (S42) → List (S42) → Int → Option (Bool)
 | 0, _, _, _, _, _, _, _, _, _ => none
 | k + 1, x4, x5, x6, x7, x379000, x379001, x379002, x379003, x379004 => if x7 < (x379002.length : Int) then ((spec_ConfigOk.f k x379000 x379001 x379002 x379003 x379004).bind fun t381 => (if t381 = true then (if x4 = x5 then (laws_FnWay.l0 k x4 x5 x6 (wrap64 (x7 + 1)) x379000 x379001 x379002 x379003 x379004) else (if 0 ≤ x7 then (if (((rd_T42 x379002 x7).f0) == x4 && (((rd_T42 x379002 x7).f1) == x5)) = true then (some false) else (laws_FnWay.l0 k x4 x5 x6 (wrap64 (x7 + 1)) x379000 x379001 x379002 x379003 x379004)) else (none))) else (laws_FnWay.l0 k x4 x5 x6 (wrap64 (x7 + 1)) x379000 x379001 x379002 x379003 x379004))) else (some (x6 == (-1)))
def laws_FnWay.l1 : Nat → Int → Int → Int → Bool → Int → List Int → List Int → List (S42) → List (S42) → Int → Option (Bool)
 | 0, _, _, _, _, _, _, _, _, _, _ => none
 | k + 1, x4, x5, x6, x8, x9, x379000, x379001, x379002, x379003, x379004 => if x9 < (x379002.length : Int) then (if x8 = true then (laws_FnWay.l1 k x4 x5 x6 true (wrap64 (x9 + 1)) x379000 x379001 x379002 x379003 x379004) else (if 0 ≤ x9 then (laws_FnWay.l1 k x4 x5 x6 (((rd_T42 x379002 x9).f0) == x4 && (((rd_T42 x379002 x9).f1) == x6)) (wrap64 (x9 + 1)) x379000 x379001 x379002 x379003 x379004) else (none))) else (if x8 = true then (if x6 = x5 then (some true) else ((impl_NextHop.f k x379000 x379001 x379002 x379003 x379004 x6 x5).bind fun t384 => (some (t384 == x5)))) else (some false))
end
def laws_FnWay.f (k : Nat) (l0 : List Int) : Option (Bool) := (laws_big.f l0).bind fun t362 => (if t362 = true then (some true) else ((spec_DrawNextHop.f k l0).bind fun bt363 => ((impl_NextHop.f k bt363.1 bt363.2.1 bt363.2.2.1 bt363.2.2.2.1 bt363.2.2.2.2.1 bt363.2.2.2.2.2.1 bt363.2.2.2.2.2.2).bind fun t379 => ((spec_NextHop.f k bt363.1 bt363.2.1 bt363.2.2.1 bt363.2.2.2.1 bt363.2.2.2.2.1 bt363.2.2.2.2.2.1 bt363.2.2.2.2.2.2).bind fun t380 => (if t379 = t380 then (if t379 < 0 then (laws_FnWay.l0 k bt363.2.2.2.2.2.1 bt363.2.2.2.2.2.2 t379 0 bt363.1 bt363.2.1 bt363.2.2.1 bt363.2.2.2.1 bt363.2.2.2.2.1) else (laws_FnWay.l1 k bt363.2.2.2.2.2.1 bt363.2.2.2.2.2.2 t379 false 0 bt363.1 bt363.2.1 bt363.2.2.1 bt363.2.2.2.1 bt363.2.2.2.2.1)) else (some false))))))
set_option maxHeartbeats 8000000 in
set_option maxRecDepth 100000 in
theorem laws_FnWay.calls (k : Nat) (A0 : Option Addr) (c0 : Nat) (l0 : List Int) (r : Bool) (w : World) (hr0 : Kd.C (Kd.int .u8) w A0 l0.length l0) (hc0 : l0.length ≤ c0) (h : laws_FnWay.f k l0 = some r) (hr_true : Aside0 (r = true)) :
  Calls Try.prog 5 #[.slice A0 l0.length c0] w fun e w' => e = .returned (.bool r) ∧ Below w.heap.size w w' := by
 have hu30 := Try.underlying30
 have hu42 := Try.underlying42
 have HR0 := Aside0.mk hr0
 have HC0 := Aside0.mk hc0
 clear hr0 hc0
 have HB := Aside0.mk (Below.refl w.heap.size w)
 have H : ((laws_big.f l0).bind fun t362 => (if t362 = true then (some true) else ((spec_DrawNextHop.f k l0).bind fun bt363 => ((impl_NextHop.f k bt363.1 bt363.2.1 bt363.2.2.1 bt363.2.2.2.1 bt363.2.2.2.2.1 bt363.2.2.2.2.2.1 bt363.2.2.2.2.2.2).bind fun t379 => ((spec_NextHop.f k bt363.1 bt363.2.1 bt363.2.2.1 bt363.2.2.2.1 bt363.2.2.2.2.1 bt363.2.2.2.2.2.1 bt363.2.2.2.2.2.2).bind fun t380 => (if t379 = t380 then (if t379 < 0 then (laws_FnWay.l0 k bt363.2.2.2.2.2.1 bt363.2.2.2.2.2.2 t379 0 bt363.1 bt363.2.1 bt363.2.2.1 bt363.2.2.2.1 bt363.2.2.2.2.1) else (laws_FnWay.l1 k bt363.2.2.2.2.2.1 bt363.2.2.2.2.2.2 t379 false 0 bt363.1 bt363.2.1 bt363.2.2.1 bt363.2.2.2.1 bt363.2.2.2.2.1)) else (some false))))))) = some r := h
 clear h
 replace H := Option.bind_eq_some_iff.mp H
 obtain ⟨t362, A20, H⟩ := H
 replace H : (if t362 = true then (some true) else ((spec_DrawNextHop.f k l0).bind fun bt363 => ((impl_NextHop.f k bt363.1 bt363.2.1 bt363.2.2.1 bt363.2.2.2.1 bt363.2.2.2.2.1 bt363.2.2.2.2.2.1 bt363.2.2.2.2.2.2).bind fun t379 => ((spec_NextHop.f k bt363.1 bt363.2.1 bt363.2.2.1 bt363.2.2.2.1 bt363.2.2.2.2.1 bt363.2.2.2.2.2.1 bt363.2.2.2.2.2.2).bind fun t380 => (if t379 = t380 then (if t379 < 0 then (laws_FnWay.l0 k bt363.2.2.2.2.2.1 bt363.2.2.2.2.2.2 t379 0 bt363.1 bt363.2.1 bt363.2.2.1 bt363.2.2.2.1 bt363.2.2.2.2.1) else (laws_FnWay.l1 k bt363.2.2.2.2.2.1 bt363.2.2.2.2.2.2 t379 false 0 bt363.1 bt363.2.1 bt363.2.2.1 bt363.2.2.2.1 bt363.2.2.2.2.1)) else (some false)))))) = some r := H
 have A2 := Aside0.mk A20
 clear A20
 by_cases c3 : t362 = true
 ·subst c3
  have H1 : (some true) = some r := by rw [if_pos rfl] at H; exact H
  clear H
  have H := H1
  clear H1
  obtain rfl := Option.some.inj H
  go_enter Try.func5, Try.ntmps5
  go_wp2_with (first | ((with_reducible refine gate_callee (f := 17) rfl ?_); refine goesL_ (some 11) rfl rfl Try.func17 (by kernel_rfl) rfl #[.slice A0 l0.length c0] rfl eA ?_; (with_reducible refine (laws_big.calls _ _ l0 true _ ?side1 ?side2 A2.out).mono ?_); (case side1 => repeat (first | exact HR0.out | (with_reducible refine Kd.C_alloc ?_ _) | (with_reducible refine Kd.C_drewN ?_ _) | (with_reducible refine Kd.C_drew ?_))); (case side2 => exact HC0.out); rintro e w' ⟨rfl, ⟨nd, rfl⟩⟩; refine ⟨_, rfl, ?_⟩))
  go_ret
  exact ⟨eE, bH⟩
 ·replace c3 := Bool.eq_false_iff.mpr c3
  subst c3
  have H1 : ((spec_DrawNextHop.f k l0).bind fun bt363 => ((impl_NextHop.f k bt363.1 bt363.2.1 bt363.2.2.1 bt363.2.2.2.1 bt363.2.2.2.2.1 bt363.2.2.2.2.2.1 bt363.2.2.2.2.2.2).bind fun t379 => ((spec_NextHop.f k bt363.1 bt363.2.1 bt363.2.2.1 bt363.2.2.2.1 bt363.2.2.2.2.1 bt363.2.2.2.2.2.1 bt363.2.2.2.2.2.2).bind fun t380 => (if t379 = t380 then (if t379 < 0 then (laws_FnWay.l0 k bt363.2.2.2.2.2.1 bt363.2.2.2.2.2.2 t379 0 bt363.1 bt363.2.1 bt363.2.2.1 bt363.2.2.2.1 bt363.2.2.2.2.1) else (laws_FnWay.l1 k bt363.2.2.2.2.2.1 bt363.2.2.2.2.2.2 t379 false 0 bt363.1 bt363.2.1 bt363.2.2.1 bt363.2.2.2.1 bt363.2.2.2.2.1)) else (some false))))) = some r := by rw [if_neg (show ¬ (false = true) by decide)] at H; exact H
  clear H
  have H := H1
  clear H1
  replace H := Option.bind_eq_some_iff.mp H
  obtain ⟨⟨t363, t366, t369, t372, t375, t376, t377⟩, A40, H⟩ := H
  replace H : ((impl_NextHop.f k t363 t366 t369 t372 t375 t376 t377).bind fun t379 => ((spec_NextHop.f k t363 t366 t369 t372 t375 t376 t377).bind fun t380 => (if t379 = t380 then (if t379 < 0 then (laws_FnWay.l0 k t376 t377 t379 0 t363 t366 t369 t372 t375) else (laws_FnWay.l1 k t376 t377 t379 false 0 t363 t366 t369 t372 t375)) else (some false)))) = some r := H
  have A4 := Aside0.mk A40
  clear A40
  replace H := Option.bind_eq_some_iff.mp H
  obtain ⟨t379, A50, H⟩ := H
  replace H : ((spec_NextHop.f k t363 t366 t369 t372 t375 t376 t377).bind fun t380 => (if t379 = t380 then (if t379 < 0 then (laws_FnWay.l0 k t376 t377 t379 0 t363 t366 t369 t372 t375) else (laws_FnWay.l1 k t376 t377 t379 false 0 t363 t366 t369 t372 t375)) else (some false))) = some r := H
  have A5 := Aside0.mk A50
  clear A50
  replace H := Option.bind_eq_some_iff.mp H
  obtain ⟨t380, A60, H⟩ := H
  replace H : (if t379 = t380 then (if t379 < 0 then (laws_FnWay.l0 k t376 t377 t379 0 t363 t366 t369 t372 t375) else (laws_FnWay.l1 k t376 t377 t379 false 0 t363 t366 t369 t372 t375)) else (some false)) = some r := H
  have A6 := Aside0.mk A60
  clear A60
  by_cases c7 : t379 = t380
  ·rw [if_pos c7] at H
   have c7b0 : (t379 == t380) = true := beq_iff_eq.mpr c7
   have c7b1 : (t379 != t380) = false := bne_eq_false_iff_eq.mpr c7
   clear c7
   by_cases c8 : t379 < 0
   ·rw [if_pos c8] at H
    have c8b0 : decide (t379 < 0) = true := decide_eq_true c8
    clear c8
    have H' := Aside0.mk H
    clear H
    go_enter Try.func5, Try.ntmps5
    go_wp2_with (first | ((with_reducible refine gate_callee (f := 17) rfl ?_); refine goesL_ (some 11) rfl rfl Try.func17 (by kernel_rfl) rfl #[.slice A0 l0.length c0] rfl eA ?_; (with_reducible refine (laws_big.calls _ _ l0 false _ ?side1 ?side2 A2.out).mono ?_); (case side1 => repeat (first | exact HR0.out | (with_reducible refine Kd.C_alloc ?_ _) | (with_reducible refine Kd.C_drewN ?_ _) | (with_reducible refine Kd.C_drew ?_))); (case side2 => exact HC0.out); rintro e w' ⟨rfl, ⟨nd, rfl⟩⟩; refine ⟨_, rfl, ?_⟩) | ((with_reducible refine gate_callee (f := 18) rfl ?_); refine goesL_ (some 14) rfl rfl Try.func18 (by kernel_rfl) rfl #[.slice A0 l0.length c0] rfl eA ?_; (with_reducible refine (spec_DrawNextHop.calls k _ _ l0 t363 t366 t369 t372 t375 t376 t377 _ ?side1 ?side2 A4.out).mono ?_); (case side1 => repeat (first | exact HR0.out | (with_reducible refine Kd.C_alloc ?_ _) | (with_reducible refine Kd.C_drewN ?_ _) | (with_reducible refine Kd.C_drew ?_))); (case side2 => exact HC0.out); rintro e w9 ⟨v364, v367, v370, v373, rfl, ho0, ho1, ho2, ho3, hb⟩; refine ⟨_, rfl, ?_⟩; have n0_ := Aside0.mk (Kd.R_lower ho0 (below_size bH)); have n1_ := Aside0.mk (Kd.R_lower ho1 (below_size bH)); have n2_ := Aside0.mk (Kd.R_lower ho2 (below_size bH)); have n3_ := Aside0.mk (Kd.R_lower ho3 (below_size bH)); have n4_ := Aside0.mk (below_step bH hb); clear HB; have HO365 := n0_; have HO368 := n1_; have HO371 := n2_; have HO374 := n3_; have HB := n4_; clear n0_ n1_ n2_ n3_ n4_; (try clear hb); (try clear hb2); (try clear hk); (try clear hi); (try clear ho0); (try clear ho1); (try clear ho2); (try clear ho3)) | ((with_reducible refine gate_dst (N := 3) rfl ?_); refine box_event ?hg (N := 3) ?hd (cs := #[.slice none 0 0, .slice none 0 0, .slice none 0 0, .slice none 0 0, .int .i64 0]) (t := 30) ?hr ?_; (case hd => rfl); (case hg => rfl); (case hr => first | (go_simp; done) | (go_simp; rfl)); intro gb378 hg w10 hbox hb; have n0_ := Aside0.mk (Kd.R_below (kR HO365.out) hb); have n1_ := Aside0.mk (Kd.R_below (kR HO368.out) hb); have n2_ := Aside0.mk (Kd.R_below (kR HO371.out) hb); have n3_ := Aside0.mk (Kd.R_below (kR HO374.out) hb); have n4_ := Aside0.mk (below_step bH hb); have n5_ := Aside0.mk (hbox); have n6_ := Aside0.mk ((bZ hg : w.heap.size ≤ gb378)); have n7_ := Aside0.mk ((bZ hg : w.heap.size ≤ gb378)); clear HO365; clear HO368; clear HO371; clear HO374; clear HB; have HO365 := n0_; have HO368 := n1_; have HO371 := n2_; have HO374 := n3_; have HB := n4_; have BK378 := n5_; have GW378 := n6_; have GE378 := n7_; clear n0_ n1_ n2_ n3_ n4_ n5_ n6_ n7_; clear hb hbox hg; obtain ⟨Ao11, co11, eo11⟩ := Kd.R_slice HO365.out; subst eo11; have hcz12_0 : w10.cell? ⟨gb378, 0, none⟩ = some (.slice none 0 0) := (blk_cell BK378.out 0).trans rfl; have hcz12_1 : w10.cell? ⟨gb378, 1, none⟩ = some (.slice none 0 0) := (blk_cell BK378.out 1).trans rfl; have hcz12_2 : w10.cell? ⟨gb378, 2, none⟩ = some (.slice none 0 0) := (blk_cell BK378.out 2).trans rfl; have hcz12_3 : w10.cell? ⟨gb378, 3, none⟩ = some (.slice none 0 0) := (blk_cell BK378.out 3).trans rfl; have hcz12_4 : w10.cell? ⟨gb378, 4, none⟩ = some (.int .i64 0) := (blk_cell BK378.out 4).trans rfl; have hfz12_0 := blk_frozen BK378.out 0; have hfz12_1 := blk_frozen BK378.out 1; have hfz12_2 := blk_frozen BK378.out 2; have hfz12_3 := blk_frozen BK378.out 3; have hfz12_4 := blk_frozen BK378.out 4; obtain ⟨Ao13, co13, eo13⟩ := Kd.R_slice HO368.out; subst eo13; obtain ⟨Ao14, co14, eo14⟩ := Kd.R_slice HO371.out; subst eo14; obtain ⟨Ao15, co15, eo15⟩ := Kd.R_slice HO374.out; subst eo15) | ((with_reducible refine gate_callee (f := 19) rfl ?_); refine goesL_ (some 21) rfl rfl Try.func19 (by kernel_rfl) rfl #[.agg #[.slice Ao11 t363.length co11, .slice Ao13 t366.length co13, .slice Ao14 t369.length co14, .slice Ao15 t372.length co15, .int .i64 t375], .int .i64 t376, .int .i64 t377] rfl eA ?_; (with_reducible refine (impl_NextHop.calls k _ _ t363 _ _ t366 _ _ t369 _ _ t372 t375 t376 t377 t379 _ ?side1 ?side2 ?side3 ?side4 ?side5 ?side6 ?side7 ?side8 A5.out).mono ?_); (case side1 => refine (Kd.R_reads' (e := 3) (base := w.heap.size) (ok := fun k_ => some k_ ≠ (.slice Ao13 t366.length co13 : Value).ownBlock) (n := t363.length) (c := co11) ?_).2.2; exact (rF5 HO365.out BK378.out)); (case side2 => exact (Kd.R_reads' HO365.out).2.1); (case side3 => refine (Kd.R_reads' (e := 3) (base := w.heap.size) (ok := fun k_ => some k_ ≠ (.slice Ao11 t363.length co11 : Value).ownBlock) (n := t366.length) (c := co13) ?_).2.2; exact (rF5 HO368.out BK378.out)); (case side4 => exact (Kd.R_reads' HO368.out).2.1); (case side5 => refine (Kd.R_reads' (e := 42) (base := w.heap.size) (ok := fun k_ => some k_ ≠ (.slice Ao15 t372.length co15 : Value).ownBlock) (n := t369.length) (c := co14) ?_).2.2; exact (rF5 HO371.out BK378.out)); (case side6 => exact (Kd.R_reads' HO371.out).2.1); (case side7 => refine (Kd.R_reads' (e := 42) (base := w.heap.size) (ok := fun k_ => some k_ ≠ (.slice Ao14 t369.length co14 : Value).ownBlock) (n := t372.length) (c := co15) ?_).2.2; exact (rF5 HO374.out BK378.out)); (case side8 => exact (Kd.R_reads' HO374.out).2.1); rintro e w16 ⟨rfl, hb⟩; refine ⟨_, rfl, ?_⟩; have n0_ := Aside0.mk (Kd.R_below (rF5 HO365.out BK378.out) hb); have n1_ := Aside0.mk (Kd.R_below (rF5 HO368.out BK378.out) hb); have n2_ := Aside0.mk (Kd.R_below (rF5 HO371.out BK378.out) hb); have n3_ := Aside0.mk (Kd.R_below (rF5 HO374.out BK378.out) hb); have n4_ := Aside0.mk (blk_below (g := gb378) (o := .cells #[.slice Ao11 t363.length co11, .slice Ao13 t366.length co13, .slice Ao14 t369.length co14, .slice Ao15 t372.length co15, .int .i64 t375] 30 (0, 0)) (by (with_reducible repeat (first | refine blk_drewN ?_ _ | refine blk_drew ?_ | refine blk_alloc ?_ _)); refine blk_put (cs := #[.slice Ao11 t363.length co11, .slice Ao13 t366.length co13, .slice Ao14 t369.length co14, .slice Ao15 t372.length co15, .int .i64 0]) ?_ 4 _ rfl; (with_reducible repeat (first | refine blk_drewN ?_ _ | refine blk_drew ?_ | refine blk_alloc ?_ _)); refine blk_put (cs := #[.slice Ao11 t363.length co11, .slice Ao13 t366.length co13, .slice Ao14 t369.length co14, .slice none 0 0, .int .i64 0]) ?_ 3 _ rfl; (with_reducible repeat (first | refine blk_drewN ?_ _ | refine blk_drew ?_ | refine blk_alloc ?_ _)); refine blk_put (cs := #[.slice Ao11 t363.length co11, .slice Ao13 t366.length co13, .slice none 0 0, .slice none 0 0, .int .i64 0]) ?_ 2 _ rfl; (with_reducible repeat (first | refine blk_drewN ?_ _ | refine blk_drew ?_ | refine blk_alloc ?_ _)); refine blk_put (cs := #[.slice Ao11 t363.length co11, .slice none 0 0, .slice none 0 0, .slice none 0 0, .int .i64 0]) ?_ 1 _ rfl; (with_reducible repeat (first | refine blk_drewN ?_ _ | refine blk_drew ?_ | refine blk_alloc ?_ _)); refine blk_put (cs := #[.slice none 0 0, .slice none 0 0, .slice none 0 0, .slice none 0 0, .int .i64 0]) ?_ 0 _ rfl; (with_reducible repeat (first | refine blk_drewN ?_ _ | refine blk_drew ?_ | refine blk_alloc ?_ _)); exact BK378.out) hb); have n5_ := Aside0.mk (below_step bS hb); clear HO365; clear HO368; clear HO371; clear HO374; clear BK378; clear HB; have HO365 := n0_; have HO368 := n1_; have HO371 := n2_; have HO374 := n3_; have BK378 := n4_; have HB := n5_; clear n0_ n1_ n2_ n3_ n4_ n5_; (try clear hb); (try clear hb2); (try clear hk); (try clear hi); have hcz17_0 : w16.cell? ⟨gb378, 0, none⟩ = some (.slice Ao11 t363.length co11) := (blk_cell BK378.out 0).trans rfl; have hcz17_1 : w16.cell? ⟨gb378, 1, none⟩ = some (.slice Ao13 t366.length co13) := (blk_cell BK378.out 1).trans rfl; have hcz17_2 : w16.cell? ⟨gb378, 2, none⟩ = some (.slice Ao14 t369.length co14) := (blk_cell BK378.out 2).trans rfl; have hcz17_3 : w16.cell? ⟨gb378, 3, none⟩ = some (.slice Ao15 t372.length co15) := (blk_cell BK378.out 3).trans rfl; have hcz17_4 : w16.cell? ⟨gb378, 4, none⟩ = some (.int .i64 t375) := (blk_cell BK378.out 4).trans rfl; have hfz17_0 := blk_frozen BK378.out 0; have hfz17_1 := blk_frozen BK378.out 1; have hfz17_2 := blk_frozen BK378.out 2; have hfz17_3 := blk_frozen BK378.out 3; have hfz17_4 := blk_frozen BK378.out 4) | ((with_reducible refine gate_callee (f := 20) rfl ?_); refine goesL_ (some 26) rfl rfl Try.func20 (by kernel_rfl) rfl #[.agg #[.slice Ao11 t363.length co11, .slice Ao13 t366.length co13, .slice Ao14 t369.length co14, .slice Ao15 t372.length co15, .int .i64 t375], .int .i64 t376, .int .i64 t377] rfl eA ?_; (with_reducible refine (spec_NextHop.calls k _ _ t363 _ _ t366 _ _ t369 _ _ t372 t375 t376 t377 t380 _ ?side1 ?side2 ?side3 ?side4 ?side5 ?side6 ?side7 ?side8 A6.out).mono ?_); (case side1 => repeat (first | exact (Kd.R_reads' HO365.out).2.2 | (with_reducible refine Kd.C_alloc ?_ _) | (with_reducible refine Kd.C_drewN ?_ _) | (with_reducible refine Kd.C_drew ?_))); (case side2 => exact (Kd.R_reads' HO365.out).2.1); (case side3 => repeat (first | exact (Kd.R_reads' HO368.out).2.2 | (with_reducible refine Kd.C_alloc ?_ _) | (with_reducible refine Kd.C_drewN ?_ _) | (with_reducible refine Kd.C_drew ?_))); (case side4 => exact (Kd.R_reads' HO368.out).2.1); (case side5 => repeat (first | exact (Kd.R_reads' HO371.out).2.2 | (with_reducible refine Kd.C_alloc ?_ _) | (with_reducible refine Kd.C_drewN ?_ _) | (with_reducible refine Kd.C_drew ?_))); (case side6 => exact (Kd.R_reads' HO371.out).2.1); (case side7 => repeat (first | exact (Kd.R_reads' HO374.out).2.2 | (with_reducible refine Kd.C_alloc ?_ _) | (with_reducible refine Kd.C_drewN ?_ _) | (with_reducible refine Kd.C_drew ?_))); (case side8 => exact (Kd.R_reads' HO374.out).2.1); rintro e w18 ⟨rfl, hb⟩; refine ⟨_, rfl, ?_⟩; have n0_ := Aside0.mk (Kd.R_below (kR HO365.out) hb); have n1_ := Aside0.mk (Kd.R_below (kR HO368.out) hb); have n2_ := Aside0.mk (Kd.R_below (kR HO371.out) hb); have n3_ := Aside0.mk (Kd.R_below (kR HO374.out) hb); have n4_ := Aside0.mk (blk_below (kB BK378.out) hb); have n5_ := Aside0.mk (below_step bS hb); clear HO365; clear HO368; clear HO371; clear HO374; clear BK378; clear HB; have HO365 := n0_; have HO368 := n1_; have HO371 := n2_; have HO374 := n3_; have BK378 := n4_; have HB := n5_; clear n0_ n1_ n2_ n3_ n4_ n5_; (try clear hb); (try clear hb2); (try clear hk); (try clear hi)))
    go_loopg [7] k (fun kq v7 w' => ∃ (x7_1 : Int), v7 = .int .i64 x7_1 ∧ Aside0 (laws_FnWay.l0 kq t376 t377 t379 x7_1 t363 t366 t369 t372 t375 = some r) ∧ Aside0 (kq ≤ k) ∧ Aside0 (Kd.R (Kd.int .i64) 3 w' w.heap.size (fun k_ => some k_ ≠ ((.slice Ao13 t366.length co13) : Value).ownBlock) (.slice Ao11 t363.length co11) t363) ∧ Aside0 (Kd.R (Kd.int .i64) 3 w' w.heap.size (fun k_ => some k_ ≠ ((.slice Ao11 t363.length co11) : Value).ownBlock) (.slice Ao13 t366.length co13) t366) ∧ Aside0 (Kd.R k42 42 w' w.heap.size (fun k_ => some k_ ≠ ((.slice Ao15 t372.length co15) : Value).ownBlock) (.slice Ao14 t369.length co14) t369) ∧ Aside0 (Kd.R k42 42 w' w.heap.size (fun k_ => some k_ ≠ ((.slice Ao14 t369.length co14) : Value).ownBlock) (.slice Ao15 t372.length co15) t372) ∧ Aside0 (w'.heap[gb378]? = some (.cells #[(.slice Ao11 t363.length co11), (.slice Ao13 t366.length co13), (.slice Ao14 t369.length co14), (.slice Ao15 t372.length co15), .int .i64 t375] 30 (0, 0))) ∧ Aside0 (Below w.heap.size w w'))
    case atStart => exact ⟨(0), eX, H', ⟨Nat.le_refl _⟩, ⟨by (with_reducible repeat (first | apply Kd.R_alloc | apply Kd.R_drewN | apply Kd.R_drew)); exact HO365.out⟩, ⟨by (with_reducible repeat (first | apply Kd.R_alloc | apply Kd.R_drewN | apply Kd.R_drew)); exact HO368.out⟩, ⟨by (with_reducible repeat (first | apply Kd.R_alloc | apply Kd.R_drewN | apply Kd.R_drew)); exact HO371.out⟩, ⟨by (with_reducible repeat (first | apply Kd.R_alloc | apply Kd.R_drewN | apply Kd.R_drew)); exact HO374.out⟩, ⟨by (with_reducible repeat (first | refine blk_drewN ?_ _ | refine blk_drew ?_ | refine blk_alloc ?_ _)); exact BK378.out⟩, ⟨by repeat (first | (with_reducible first | exact HB.out | apply below_alloc | apply pw_below_drewN | apply below_drew1 | refine below_set ?_ GE378.out) | exact HB.out)⟩⟩
    case round =>
     clear H'
     try clear c1
     try clear c2
     try clear p2
     try clear c3
     try clear c5
     try clear c7
     try clear c7b0
     try clear c7b1
     try clear c8
     try clear c8b0
     try clear c17
     try clear c18
     try clear hcz12_0
     try clear hcz12_1
     try clear hcz12_2
     try clear hcz12_3
     try clear hcz12_4
     try clear hcz17_0
     try clear hcz17_1
     try clear hcz17_2
     try clear hcz17_3
     try clear hcz17_4
     try clear hfz12_0
     try clear hfz12_1
     try clear hfz12_2
     try clear hfz12_3
     try clear hfz12_4
     try clear hfz17_0
     try clear hfz17_1
     try clear hfz17_2
     try clear hfz17_3
     try clear hfz17_4
     obtain ⟨x7_1, rfl, HA, HK1, HO_379000, HO_379001, HO_379002, HO_379003, BK378, HB⟩ := hrel
     cases gk with
     | zero => exact absurd HA.out (by simp [laws_FnWay.l0])
     | succ k1 =>
      have H := HA.out
      clear HA
      simp only [laws_FnWay.l0] at H
      by_cases c19 : x7_1 < (t369.length : Int)
      ·rw [if_pos c19] at H
       have c19b0 : decide (x7_1 < (t369.length : Int)) = true := decide_eq_true c19
       clear c19
       replace H := Option.bind_eq_some_iff.mp H
       obtain ⟨t381, A200, H⟩ := H
       replace H : (if t381 = true then (if t376 = t377 then (laws_FnWay.l0 k1 t376 t377 t379 (wrap64 (x7_1 + 1)) t363 t366 t369 t372 t375) else (if 0 ≤ x7_1 then (if (((rd_T42 t369 x7_1).f0) == t376 && (((rd_T42 t369 x7_1).f1) == t377)) = true then (some false) else (laws_FnWay.l0 k1 t376 t377 t379 (wrap64 (x7_1 + 1)) t363 t366 t369 t372 t375)) else (none))) else (laws_FnWay.l0 k1 t376 t377 t379 (wrap64 (x7_1 + 1)) t363 t366 t369 t372 t375)) = some r := H
       have A20 := Aside0.mk A200
       clear A200
       by_cases c21 : t381 = true
       ·subst c21
        have H1 : (if t376 = t377 then (laws_FnWay.l0 k1 t376 t377 t379 (wrap64 (x7_1 + 1)) t363 t366 t369 t372 t375) else (if 0 ≤ x7_1 then (if (((rd_T42 t369 x7_1).f0) == t376 && (((rd_T42 t369 x7_1).f1) == t377)) = true then (some false) else (laws_FnWay.l0 k1 t376 t377 t379 (wrap64 (x7_1 + 1)) t363 t366 t369 t372 t375)) else (none))) = some r := by rw [if_pos rfl] at H; exact H
        clear H
        have H := H1
        clear H1
        by_cases c22 : t376 = t377
        ·rw [if_pos c22] at H
         have c22b0 : (t376 == t377) = true := beq_iff_eq.mpr c22
         have c22b1 : (t376 != t377) = false := bne_eq_false_iff_eq.mpr c22
         clear c22
         have H' := Aside0.mk H
         clear H
         have hcz23_0 : wr.cell? ⟨gb378, 0, none⟩ = some (.slice Ao11 t363.length co11) := (blk_cell BK378.out 0).trans rfl
         have hcz23_1 : wr.cell? ⟨gb378, 1, none⟩ = some (.slice Ao13 t366.length co13) := (blk_cell BK378.out 1).trans rfl
         have hcz23_2 : wr.cell? ⟨gb378, 2, none⟩ = some (.slice Ao14 t369.length co14) := (blk_cell BK378.out 2).trans rfl
         have hcz23_3 : wr.cell? ⟨gb378, 3, none⟩ = some (.slice Ao15 t372.length co15) := (blk_cell BK378.out 3).trans rfl
         have hcz23_4 : wr.cell? ⟨gb378, 4, none⟩ = some (.int .i64 t375) := (blk_cell BK378.out 4).trans rfl
         have hfz23_0 := blk_frozen BK378.out 0
         have hfz23_1 := blk_frozen BK378.out 1
         have hfz23_2 := blk_frozen BK378.out 2
         have hfz23_3 := blk_frozen BK378.out 3
         have hfz23_4 := blk_frozen BK378.out 4
         go_wp2_with (first | ((with_reducible refine gate_callee (f := 11) rfl ?_); refine goesL_ (some 38) rfl rfl Try.func11 (by kernel_rfl) rfl #[.agg #[.slice Ao11 t363.length co11, .slice Ao13 t366.length co13, .slice Ao14 t369.length co14, .slice Ao15 t372.length co15, .int .i64 t375]] rfl eA ?_; (with_reducible refine (spec_ConfigOk.calls k1 _ _ t363 _ _ t366 _ _ t369 _ _ t372 t375 true _ ?side1 ?side2 ?side3 ?side4 ?side5 ?side6 ?side7 ?side8 A20.out).mono ?_); (case side1 => repeat (first | exact (Kd.R_reads' HO_379000.out).2.2 | (with_reducible refine Kd.C_alloc ?_ _) | (with_reducible refine Kd.C_drewN ?_ _) | (with_reducible refine Kd.C_drew ?_))); (case side2 => exact (Kd.R_reads' HO_379000.out).2.1); (case side3 => repeat (first | exact (Kd.R_reads' HO_379001.out).2.2 | (with_reducible refine Kd.C_alloc ?_ _) | (with_reducible refine Kd.C_drewN ?_ _) | (with_reducible refine Kd.C_drew ?_))); (case side4 => exact (Kd.R_reads' HO_379001.out).2.1); (case side5 => repeat (first | exact (Kd.R_reads' HO_379002.out).2.2 | (with_reducible refine Kd.C_alloc ?_ _) | (with_reducible refine Kd.C_drewN ?_ _) | (with_reducible refine Kd.C_drew ?_))); (case side6 => exact (Kd.R_reads' HO_379002.out).2.1); (case side7 => repeat (first | exact (Kd.R_reads' HO_379003.out).2.2 | (with_reducible refine Kd.C_alloc ?_ _) | (with_reducible refine Kd.C_drewN ?_ _) | (with_reducible refine Kd.C_drew ?_))); (case side8 => exact (Kd.R_reads' HO_379003.out).2.1); rintro e w24 ⟨rfl, hb⟩; refine ⟨_, rfl, ?_⟩; have n0_ := Aside0.mk (Kd.R_below (kR HO_379000.out) hb); have n1_ := Aside0.mk (Kd.R_below (kR HO_379001.out) hb); have n2_ := Aside0.mk (Kd.R_below (kR HO_379002.out) hb); have n3_ := Aside0.mk (Kd.R_below (kR HO_379003.out) hb); have n4_ := Aside0.mk (blk_below (kB BK378.out) hb); have n5_ := Aside0.mk (below_step bS hb); clear HO_379000; clear HO_379001; clear HO_379002; clear HO_379003; clear BK378; clear HB; have HO_379000 := n0_; have HO_379001 := n1_; have HO_379002 := n2_; have HO_379003 := n3_; have BK378 := n4_; have HB := n5_; clear n0_ n1_ n2_ n3_ n4_ n5_; (try clear hb); (try clear hb2); (try clear hk); (try clear hi)))
         go_roundg k1
         case measure => have := HK1.out; omega
         case rel => exact ⟨(wrap64 (x7_1 + 1)), eX, H', ⟨by have := HK1.out; omega⟩, ⟨by (with_reducible repeat (first | apply Kd.R_alloc | apply Kd.R_drewN | apply Kd.R_drew)); exact HO_379000.out⟩, ⟨by (with_reducible repeat (first | apply Kd.R_alloc | apply Kd.R_drewN | apply Kd.R_drew)); exact HO_379001.out⟩, ⟨by (with_reducible repeat (first | apply Kd.R_alloc | apply Kd.R_drewN | apply Kd.R_drew)); exact HO_379002.out⟩, ⟨by (with_reducible repeat (first | apply Kd.R_alloc | apply Kd.R_drewN | apply Kd.R_drew)); exact HO_379003.out⟩, ⟨by (with_reducible repeat (first | refine blk_drewN ?_ _ | refine blk_drew ?_ | refine blk_alloc ?_ _)); exact BK378.out⟩, ⟨by repeat (first | (with_reducible first | exact HB.out | apply below_alloc | apply pw_below_drewN | apply below_drew1 | refine below_set ?_ GE378.out) | exact HB.out)⟩⟩
        ·rw [if_neg c22] at H
         have c22b0 : (t376 == t377) = false := beq_eq_false_iff_ne.mpr c22
         have c22b1 : (t376 != t377) = true := bne_iff_ne.mpr c22
         by_cases c25 : 0 ≤ x7_1
         ·rw [if_pos c25] at H
          have c25b0 : decide (0 ≤ x7_1) = true := decide_eq_true c25
          clear c25
          by_cases c26 : (((rd_T42 t369 x7_1).f0) == t376 && (((rd_T42 t369 x7_1).f1) == t377)) = true
          ·rw [if_pos c26] at H
           have c26b0 : (((rd_T42 t369 x7_1).f0) == t376 && (((rd_T42 t369 x7_1).f1) == t377)) = true := c26
           (try (have c26b1 : decide (((rd_T42 t369 x7_1).f0) = t376 && (((rd_T42 t369 x7_1).f1) == t377)) = true := by simpa using c26))
           (try (have c26b2 : (((rd_T42 t369 x7_1).f0) == t376 && (((rd_T42 t369 x7_1).f1) == t377)) = true := by simpa using c26))
           clear c26
           rw [hr_true.out] at H
           exact absurd H (by simp)
          ·rw [if_neg c26] at H
           have c26b0 : (((rd_T42 t369 x7_1).f0) == t376 && (((rd_T42 t369 x7_1).f1) == t377)) = false := by simpa using c26
           (try (have c26b1 : decide (((rd_T42 t369 x7_1).f0) = t376 && (((rd_T42 t369 x7_1).f1) == t377)) = false := by simpa using c26))
           (try (have c26b2 : (((rd_T42 t369 x7_1).f0) == t376 && (((rd_T42 t369 x7_1).f1) == t377)) = false := by simpa using c26))
           (try (have c26b3 : ¬ (((rd_T42 t369 x7_1).f0) = t376 && (((rd_T42 t369 x7_1).f1) == t377)) := by simpa using c26))
           clear c26
           have H' := Aside0.mk H
           clear H
           have hcz27_0 : wr.cell? ⟨gb378, 0, none⟩ = some (.slice Ao11 t363.length co11) := (blk_cell BK378.out 0).trans rfl
           have hcz27_1 : wr.cell? ⟨gb378, 1, none⟩ = some (.slice Ao13 t366.length co13) := (blk_cell BK378.out 1).trans rfl
           have hcz27_2 : wr.cell? ⟨gb378, 2, none⟩ = some (.slice Ao14 t369.length co14) := (blk_cell BK378.out 2).trans rfl
           have hcz27_3 : wr.cell? ⟨gb378, 3, none⟩ = some (.slice Ao15 t372.length co15) := (blk_cell BK378.out 3).trans rfl
           have hcz27_4 : wr.cell? ⟨gb378, 4, none⟩ = some (.int .i64 t375) := (blk_cell BK378.out 4).trans rfl
           have hfz27_0 := blk_frozen BK378.out 0
           have hfz27_1 := blk_frozen BK378.out 1
           have hfz27_2 := blk_frozen BK378.out 2
           have hfz27_3 := blk_frozen BK378.out 3
           have hfz27_4 := blk_frozen BK378.out 4
           go_wp2_with (first | ((with_reducible refine gate_callee (f := 11) rfl ?_); refine goesL_ (some 38) rfl rfl Try.func11 (by kernel_rfl) rfl #[.agg #[.slice Ao11 t363.length co11, .slice Ao13 t366.length co13, .slice Ao14 t369.length co14, .slice Ao15 t372.length co15, .int .i64 t375]] rfl eA ?_; (with_reducible refine (spec_ConfigOk.calls k1 _ _ t363 _ _ t366 _ _ t369 _ _ t372 t375 true _ ?side1 ?side2 ?side3 ?side4 ?side5 ?side6 ?side7 ?side8 A20.out).mono ?_); (case side1 => repeat (first | exact (Kd.R_reads' HO_379000.out).2.2 | (with_reducible refine Kd.C_alloc ?_ _) | (with_reducible refine Kd.C_drewN ?_ _) | (with_reducible refine Kd.C_drew ?_))); (case side2 => exact (Kd.R_reads' HO_379000.out).2.1); (case side3 => repeat (first | exact (Kd.R_reads' HO_379001.out).2.2 | (with_reducible refine Kd.C_alloc ?_ _) | (with_reducible refine Kd.C_drewN ?_ _) | (with_reducible refine Kd.C_drew ?_))); (case side4 => exact (Kd.R_reads' HO_379001.out).2.1); (case side5 => repeat (first | exact (Kd.R_reads' HO_379002.out).2.2 | (with_reducible refine Kd.C_alloc ?_ _) | (with_reducible refine Kd.C_drewN ?_ _) | (with_reducible refine Kd.C_drew ?_))); (case side6 => exact (Kd.R_reads' HO_379002.out).2.1); (case side7 => repeat (first | exact (Kd.R_reads' HO_379003.out).2.2 | (with_reducible refine Kd.C_alloc ?_ _) | (with_reducible refine Kd.C_drewN ?_ _) | (with_reducible refine Kd.C_drew ?_))); (case side8 => exact (Kd.R_reads' HO_379003.out).2.1); rintro e w28 ⟨rfl, hb⟩; refine ⟨_, rfl, ?_⟩; have n0_ := Aside0.mk (Kd.R_below (kR HO_379000.out) hb); have n1_ := Aside0.mk (Kd.R_below (kR HO_379001.out) hb); have n2_ := Aside0.mk (Kd.R_below (kR HO_379002.out) hb); have n3_ := Aside0.mk (Kd.R_below (kR HO_379003.out) hb); have n4_ := Aside0.mk (blk_below (kB BK378.out) hb); have n5_ := Aside0.mk (below_step bS hb); clear HO_379000; clear HO_379001; clear HO_379002; clear HO_379003; clear BK378; clear HB; have HO_379000 := n0_; have HO_379001 := n1_; have HO_379002 := n2_; have HO_379003 := n3_; have BK378 := n4_; have HB := n5_; clear n0_ n1_ n2_ n3_ n4_ n5_; (try clear hb); (try clear hb2); (try clear hk); (try clear hi); have hcz29_0 : w28.cell? ⟨gb378, 0, none⟩ = some (.slice Ao11 t363.length co11) := (blk_cell BK378.out 0).trans rfl; have hcz29_1 : w28.cell? ⟨gb378, 1, none⟩ = some (.slice Ao13 t366.length co13) := (blk_cell BK378.out 1).trans rfl; have hcz29_2 : w28.cell? ⟨gb378, 2, none⟩ = some (.slice Ao14 t369.length co14) := (blk_cell BK378.out 2).trans rfl; have hcz29_3 : w28.cell? ⟨gb378, 3, none⟩ = some (.slice Ao15 t372.length co15) := (blk_cell BK378.out 3).trans rfl; have hcz29_4 : w28.cell? ⟨gb378, 4, none⟩ = some (.int .i64 t375) := (blk_cell BK378.out 4).trans rfl; have hfz29_0 := blk_frozen BK378.out 0; have hfz29_1 := blk_frozen BK378.out 1; have hfz29_2 := blk_frozen BK378.out 2; have hfz29_3 := blk_frozen BK378.out 3; have hfz29_4 := blk_frozen BK378.out 4; have p382 : 0 ≤ (x7_1 : Int) := of_decide_eq_true aA; have q382 : x7_1 < (t369.length : Int) := of_decide_eq_true aA; obtain ⟨ad382, e382, hx382_0, hx382_1⟩ := at_T42 (Kd.R_reads' HO_379002.out).2.2 x7_1 p382 q382; cases e382; replace p382 := eq_true p382; replace q382 := eq_true q382))
           go_roundg k1
           case measure => have := HK1.out; omega
           case rel => exact ⟨(wrap64 (x7_1 + 1)), eX, H', ⟨by have := HK1.out; omega⟩, ⟨by (with_reducible repeat (first | apply Kd.R_alloc | apply Kd.R_drewN | apply Kd.R_drew)); exact HO_379000.out⟩, ⟨by (with_reducible repeat (first | apply Kd.R_alloc | apply Kd.R_drewN | apply Kd.R_drew)); exact HO_379001.out⟩, ⟨by (with_reducible repeat (first | apply Kd.R_alloc | apply Kd.R_drewN | apply Kd.R_drew)); exact HO_379002.out⟩, ⟨by (with_reducible repeat (first | apply Kd.R_alloc | apply Kd.R_drewN | apply Kd.R_drew)); exact HO_379003.out⟩, ⟨by (with_reducible repeat (first | refine blk_drewN ?_ _ | refine blk_drew ?_ | refine blk_alloc ?_ _)); exact BK378.out⟩, ⟨by repeat (first | (with_reducible first | exact HB.out | apply below_alloc | apply pw_below_drewN | apply below_drew1 | refine below_set ?_ GE378.out) | exact HB.out)⟩⟩
         ·rw [if_neg c25] at H
          exact absurd H (by simp)
       ·replace c21 := Bool.eq_false_iff.mpr c21
        subst c21
        have H1 : (laws_FnWay.l0 k1 t376 t377 t379 (wrap64 (x7_1 + 1)) t363 t366 t369 t372 t375) = some r := by rw [if_neg (show ¬ (false = true) by decide)] at H; exact H
        clear H
        have H := H1
        clear H1
        have H' := Aside0.mk H
        clear H
        have hcz30_0 : wr.cell? ⟨gb378, 0, none⟩ = some (.slice Ao11 t363.length co11) := (blk_cell BK378.out 0).trans rfl
        have hcz30_1 : wr.cell? ⟨gb378, 1, none⟩ = some (.slice Ao13 t366.length co13) := (blk_cell BK378.out 1).trans rfl
        have hcz30_2 : wr.cell? ⟨gb378, 2, none⟩ = some (.slice Ao14 t369.length co14) := (blk_cell BK378.out 2).trans rfl
        have hcz30_3 : wr.cell? ⟨gb378, 3, none⟩ = some (.slice Ao15 t372.length co15) := (blk_cell BK378.out 3).trans rfl
        have hcz30_4 : wr.cell? ⟨gb378, 4, none⟩ = some (.int .i64 t375) := (blk_cell BK378.out 4).trans rfl
        have hfz30_0 := blk_frozen BK378.out 0
        have hfz30_1 := blk_frozen BK378.out 1
        have hfz30_2 := blk_frozen BK378.out 2
        have hfz30_3 := blk_frozen BK378.out 3
        have hfz30_4 := blk_frozen BK378.out 4
        go_wp2_with (first | ((with_reducible refine gate_callee (f := 11) rfl ?_); refine goesL_ (some 38) rfl rfl Try.func11 (by kernel_rfl) rfl #[.agg #[.slice Ao11 t363.length co11, .slice Ao13 t366.length co13, .slice Ao14 t369.length co14, .slice Ao15 t372.length co15, .int .i64 t375]] rfl eA ?_; (with_reducible refine (spec_ConfigOk.calls k1 _ _ t363 _ _ t366 _ _ t369 _ _ t372 t375 false _ ?side1 ?side2 ?side3 ?side4 ?side5 ?side6 ?side7 ?side8 A20.out).mono ?_); (case side1 => repeat (first | exact (Kd.R_reads' HO_379000.out).2.2 | (with_reducible refine Kd.C_alloc ?_ _) | (with_reducible refine Kd.C_drewN ?_ _) | (with_reducible refine Kd.C_drew ?_))); (case side2 => exact (Kd.R_reads' HO_379000.out).2.1); (case side3 => repeat (first | exact (Kd.R_reads' HO_379001.out).2.2 | (with_reducible refine Kd.C_alloc ?_ _) | (with_reducible refine Kd.C_drewN ?_ _) | (with_reducible refine Kd.C_drew ?_))); (case side4 => exact (Kd.R_reads' HO_379001.out).2.1); (case side5 => repeat (first | exact (Kd.R_reads' HO_379002.out).2.2 | (with_reducible refine Kd.C_alloc ?_ _) | (with_reducible refine Kd.C_drewN ?_ _) | (with_reducible refine Kd.C_drew ?_))); (case side6 => exact (Kd.R_reads' HO_379002.out).2.1); (case side7 => repeat (first | exact (Kd.R_reads' HO_379003.out).2.2 | (with_reducible refine Kd.C_alloc ?_ _) | (with_reducible refine Kd.C_drewN ?_ _) | (with_reducible refine Kd.C_drew ?_))); (case side8 => exact (Kd.R_reads' HO_379003.out).2.1); rintro e w31 ⟨rfl, hb⟩; refine ⟨_, rfl, ?_⟩; have n0_ := Aside0.mk (Kd.R_below (kR HO_379000.out) hb); have n1_ := Aside0.mk (Kd.R_below (kR HO_379001.out) hb); have n2_ := Aside0.mk (Kd.R_below (kR HO_379002.out) hb); have n3_ := Aside0.mk (Kd.R_below (kR HO_379003.out) hb); have n4_ := Aside0.mk (blk_below (kB BK378.out) hb); have n5_ := Aside0.mk (below_step bS hb); clear HO_379000; clear HO_379001; clear HO_379002; clear HO_379003; clear BK378; clear HB; have HO_379000 := n0_; have HO_379001 := n1_; have HO_379002 := n2_; have HO_379003 := n3_; have BK378 := n4_; have HB := n5_; clear n0_ n1_ n2_ n3_ n4_ n5_; (try clear hb); (try clear hb2); (try clear hk); (try clear hi)))
        go_roundg k1
        case measure => have := HK1.out; omega
        case rel => exact ⟨(wrap64 (x7_1 + 1)), eX, H', ⟨by have := HK1.out; omega⟩, ⟨by (with_reducible repeat (first | apply Kd.R_alloc | apply Kd.R_drewN | apply Kd.R_drew)); exact HO_379000.out⟩, ⟨by (with_reducible repeat (first | apply Kd.R_alloc | apply Kd.R_drewN | apply Kd.R_drew)); exact HO_379001.out⟩, ⟨by (with_reducible repeat (first | apply Kd.R_alloc | apply Kd.R_drewN | apply Kd.R_drew)); exact HO_379002.out⟩, ⟨by (with_reducible repeat (first | apply Kd.R_alloc | apply Kd.R_drewN | apply Kd.R_drew)); exact HO_379003.out⟩, ⟨by (with_reducible repeat (first | refine blk_drewN ?_ _ | refine blk_drew ?_ | refine blk_alloc ?_ _)); exact BK378.out⟩, ⟨by repeat (first | (with_reducible first | exact HB.out | apply below_alloc | apply pw_below_drewN | apply below_drew1 | refine below_set ?_ GE378.out) | exact HB.out)⟩⟩
      ·rw [if_neg c19] at H
       have c19b0 : decide (x7_1 < (t369.length : Int)) = false := decide_eq_false c19
       clear c19
       obtain rfl := Option.some.inj H
       have hcz32_0 : wr.cell? ⟨gb378, 0, none⟩ = some (.slice Ao11 t363.length co11) := (blk_cell BK378.out 0).trans rfl
       have hcz32_1 : wr.cell? ⟨gb378, 1, none⟩ = some (.slice Ao13 t366.length co13) := (blk_cell BK378.out 1).trans rfl
       have hcz32_2 : wr.cell? ⟨gb378, 2, none⟩ = some (.slice Ao14 t369.length co14) := (blk_cell BK378.out 2).trans rfl
       have hcz32_3 : wr.cell? ⟨gb378, 3, none⟩ = some (.slice Ao15 t372.length co15) := (blk_cell BK378.out 3).trans rfl
       have hcz32_4 : wr.cell? ⟨gb378, 4, none⟩ = some (.int .i64 t375) := (blk_cell BK378.out 4).trans rfl
       have hfz32_0 := blk_frozen BK378.out 0
       have hfz32_1 := blk_frozen BK378.out 1
       have hfz32_2 := blk_frozen BK378.out 2
       have hfz32_3 := blk_frozen BK378.out 3
       have hfz32_4 := blk_frozen BK378.out 4
       go_wp2
       go_ret
       exact ⟨eE, bS⟩
   ·rw [if_neg c8] at H
    have c8b0 : decide (t379 < 0) = false := decide_eq_false c8
    clear c8
    have H' := Aside0.mk H
    clear H
    go_enter Try.func5, Try.ntmps5
    go_wp2_with (first | ((with_reducible refine gate_callee (f := 17) rfl ?_); refine goesL_ (some 11) rfl rfl Try.func17 (by kernel_rfl) rfl #[.slice A0 l0.length c0] rfl eA ?_; (with_reducible refine (laws_big.calls _ _ l0 false _ ?side1 ?side2 A2.out).mono ?_); (case side1 => repeat (first | exact HR0.out | (with_reducible refine Kd.C_alloc ?_ _) | (with_reducible refine Kd.C_drewN ?_ _) | (with_reducible refine Kd.C_drew ?_))); (case side2 => exact HC0.out); rintro e w' ⟨rfl, ⟨nd, rfl⟩⟩; refine ⟨_, rfl, ?_⟩) | ((with_reducible refine gate_callee (f := 18) rfl ?_); refine goesL_ (some 14) rfl rfl Try.func18 (by kernel_rfl) rfl #[.slice A0 l0.length c0] rfl eA ?_; (with_reducible refine (spec_DrawNextHop.calls k _ _ l0 t363 t366 t369 t372 t375 t376 t377 _ ?side1 ?side2 A4.out).mono ?_); (case side1 => repeat (first | exact HR0.out | (with_reducible refine Kd.C_alloc ?_ _) | (with_reducible refine Kd.C_drewN ?_ _) | (with_reducible refine Kd.C_drew ?_))); (case side2 => exact HC0.out); rintro e w33 ⟨v364, v367, v370, v373, rfl, ho0, ho1, ho2, ho3, hb⟩; refine ⟨_, rfl, ?_⟩; have n0_ := Aside0.mk (Kd.R_lower ho0 (below_size bH)); have n1_ := Aside0.mk (Kd.R_lower ho1 (below_size bH)); have n2_ := Aside0.mk (Kd.R_lower ho2 (below_size bH)); have n3_ := Aside0.mk (Kd.R_lower ho3 (below_size bH)); have n4_ := Aside0.mk (below_step bH hb); clear HB; have HO365 := n0_; have HO368 := n1_; have HO371 := n2_; have HO374 := n3_; have HB := n4_; clear n0_ n1_ n2_ n3_ n4_; (try clear hb); (try clear hb2); (try clear hk); (try clear hi); (try clear ho0); (try clear ho1); (try clear ho2); (try clear ho3)) | ((with_reducible refine gate_dst (N := 3) rfl ?_); refine box_event ?hg (N := 3) ?hd (cs := #[.slice none 0 0, .slice none 0 0, .slice none 0 0, .slice none 0 0, .int .i64 0]) (t := 30) ?hr ?_; (case hd => rfl); (case hg => rfl); (case hr => first | (go_simp; done) | (go_simp; rfl)); intro gb378 hg w34 hbox hb; have n0_ := Aside0.mk (Kd.R_below (kR HO365.out) hb); have n1_ := Aside0.mk (Kd.R_below (kR HO368.out) hb); have n2_ := Aside0.mk (Kd.R_below (kR HO371.out) hb); have n3_ := Aside0.mk (Kd.R_below (kR HO374.out) hb); have n4_ := Aside0.mk (below_step bH hb); have n5_ := Aside0.mk (hbox); have n6_ := Aside0.mk ((bZ hg : w.heap.size ≤ gb378)); have n7_ := Aside0.mk ((bZ hg : w.heap.size ≤ gb378)); clear HO365; clear HO368; clear HO371; clear HO374; clear HB; have HO365 := n0_; have HO368 := n1_; have HO371 := n2_; have HO374 := n3_; have HB := n4_; have BK378 := n5_; have GW378 := n6_; have GE378 := n7_; clear n0_ n1_ n2_ n3_ n4_ n5_ n6_ n7_; clear hb hbox hg; obtain ⟨Ao35, co35, eo35⟩ := Kd.R_slice HO365.out; subst eo35; have hcz36_0 : w34.cell? ⟨gb378, 0, none⟩ = some (.slice none 0 0) := (blk_cell BK378.out 0).trans rfl; have hcz36_1 : w34.cell? ⟨gb378, 1, none⟩ = some (.slice none 0 0) := (blk_cell BK378.out 1).trans rfl; have hcz36_2 : w34.cell? ⟨gb378, 2, none⟩ = some (.slice none 0 0) := (blk_cell BK378.out 2).trans rfl; have hcz36_3 : w34.cell? ⟨gb378, 3, none⟩ = some (.slice none 0 0) := (blk_cell BK378.out 3).trans rfl; have hcz36_4 : w34.cell? ⟨gb378, 4, none⟩ = some (.int .i64 0) := (blk_cell BK378.out 4).trans rfl; have hfz36_0 := blk_frozen BK378.out 0; have hfz36_1 := blk_frozen BK378.out 1; have hfz36_2 := blk_frozen BK378.out 2; have hfz36_3 := blk_frozen BK378.out 3; have hfz36_4 := blk_frozen BK378.out 4; obtain ⟨Ao37, co37, eo37⟩ := Kd.R_slice HO368.out; subst eo37; obtain ⟨Ao38, co38, eo38⟩ := Kd.R_slice HO371.out; subst eo38; obtain ⟨Ao39, co39, eo39⟩ := Kd.R_slice HO374.out; subst eo39) | ((with_reducible refine gate_callee (f := 19) rfl ?_); refine goesL_ (some 21) rfl rfl Try.func19 (by kernel_rfl) rfl #[.agg #[.slice Ao35 t363.length co35, .slice Ao37 t366.length co37, .slice Ao38 t369.length co38, .slice Ao39 t372.length co39, .int .i64 t375], .int .i64 t376, .int .i64 t377] rfl eA ?_; (with_reducible refine (impl_NextHop.calls k _ _ t363 _ _ t366 _ _ t369 _ _ t372 t375 t376 t377 t379 _ ?side1 ?side2 ?side3 ?side4 ?side5 ?side6 ?side7 ?side8 A5.out).mono ?_); (case side1 => refine (Kd.R_reads' (e := 3) (base := w.heap.size) (ok := fun k_ => some k_ ≠ (.slice Ao37 t366.length co37 : Value).ownBlock) (n := t363.length) (c := co35) ?_).2.2; exact (rF5 HO365.out BK378.out)); (case side2 => exact (Kd.R_reads' HO365.out).2.1); (case side3 => refine (Kd.R_reads' (e := 3) (base := w.heap.size) (ok := fun k_ => some k_ ≠ (.slice Ao35 t363.length co35 : Value).ownBlock) (n := t366.length) (c := co37) ?_).2.2; exact (rF5 HO368.out BK378.out)); (case side4 => exact (Kd.R_reads' HO368.out).2.1); (case side5 => refine (Kd.R_reads' (e := 42) (base := w.heap.size) (ok := fun k_ => some k_ ≠ (.slice Ao39 t372.length co39 : Value).ownBlock) (n := t369.length) (c := co38) ?_).2.2; exact (rF5 HO371.out BK378.out)); (case side6 => exact (Kd.R_reads' HO371.out).2.1); (case side7 => refine (Kd.R_reads' (e := 42) (base := w.heap.size) (ok := fun k_ => some k_ ≠ (.slice Ao38 t369.length co38 : Value).ownBlock) (n := t372.length) (c := co39) ?_).2.2; exact (rF5 HO374.out BK378.out)); (case side8 => exact (Kd.R_reads' HO374.out).2.1); rintro e w40 ⟨rfl, hb⟩; refine ⟨_, rfl, ?_⟩; have n0_ := Aside0.mk (Kd.R_below (rF5 HO365.out BK378.out) hb); have n1_ := Aside0.mk (Kd.R_below (rF5 HO368.out BK378.out) hb); have n2_ := Aside0.mk (Kd.R_below (rF5 HO371.out BK378.out) hb); have n3_ := Aside0.mk (Kd.R_below (rF5 HO374.out BK378.out) hb); have n4_ := Aside0.mk (blk_below (g := gb378) (o := .cells #[.slice Ao35 t363.length co35, .slice Ao37 t366.length co37, .slice Ao38 t369.length co38, .slice Ao39 t372.length co39, .int .i64 t375] 30 (0, 0)) (by (with_reducible repeat (first | refine blk_drewN ?_ _ | refine blk_drew ?_ | refine blk_alloc ?_ _)); refine blk_put (cs := #[.slice Ao35 t363.length co35, .slice Ao37 t366.length co37, .slice Ao38 t369.length co38, .slice Ao39 t372.length co39, .int .i64 0]) ?_ 4 _ rfl; (with_reducible repeat (first | refine blk_drewN ?_ _ | refine blk_drew ?_ | refine blk_alloc ?_ _)); refine blk_put (cs := #[.slice Ao35 t363.length co35, .slice Ao37 t366.length co37, .slice Ao38 t369.length co38, .slice none 0 0, .int .i64 0]) ?_ 3 _ rfl; (with_reducible repeat (first | refine blk_drewN ?_ _ | refine blk_drew ?_ | refine blk_alloc ?_ _)); refine blk_put (cs := #[.slice Ao35 t363.length co35, .slice Ao37 t366.length co37, .slice none 0 0, .slice none 0 0, .int .i64 0]) ?_ 2 _ rfl; (with_reducible repeat (first | refine blk_drewN ?_ _ | refine blk_drew ?_ | refine blk_alloc ?_ _)); refine blk_put (cs := #[.slice Ao35 t363.length co35, .slice none 0 0, .slice none 0 0, .slice none 0 0, .int .i64 0]) ?_ 1 _ rfl; (with_reducible repeat (first | refine blk_drewN ?_ _ | refine blk_drew ?_ | refine blk_alloc ?_ _)); refine blk_put (cs := #[.slice none 0 0, .slice none 0 0, .slice none 0 0, .slice none 0 0, .int .i64 0]) ?_ 0 _ rfl; (with_reducible repeat (first | refine blk_drewN ?_ _ | refine blk_drew ?_ | refine blk_alloc ?_ _)); exact BK378.out) hb); have n5_ := Aside0.mk (below_step bS hb); clear HO365; clear HO368; clear HO371; clear HO374; clear BK378; clear HB; have HO365 := n0_; have HO368 := n1_; have HO371 := n2_; have HO374 := n3_; have BK378 := n4_; have HB := n5_; clear n0_ n1_ n2_ n3_ n4_ n5_; (try clear hb); (try clear hb2); (try clear hk); (try clear hi); have hcz41_0 : w40.cell? ⟨gb378, 0, none⟩ = some (.slice Ao35 t363.length co35) := (blk_cell BK378.out 0).trans rfl; have hcz41_1 : w40.cell? ⟨gb378, 1, none⟩ = some (.slice Ao37 t366.length co37) := (blk_cell BK378.out 1).trans rfl; have hcz41_2 : w40.cell? ⟨gb378, 2, none⟩ = some (.slice Ao38 t369.length co38) := (blk_cell BK378.out 2).trans rfl; have hcz41_3 : w40.cell? ⟨gb378, 3, none⟩ = some (.slice Ao39 t372.length co39) := (blk_cell BK378.out 3).trans rfl; have hcz41_4 : w40.cell? ⟨gb378, 4, none⟩ = some (.int .i64 t375) := (blk_cell BK378.out 4).trans rfl; have hfz41_0 := blk_frozen BK378.out 0; have hfz41_1 := blk_frozen BK378.out 1; have hfz41_2 := blk_frozen BK378.out 2; have hfz41_3 := blk_frozen BK378.out 3; have hfz41_4 := blk_frozen BK378.out 4) | ((with_reducible refine gate_callee (f := 20) rfl ?_); refine goesL_ (some 26) rfl rfl Try.func20 (by kernel_rfl) rfl #[.agg #[.slice Ao35 t363.length co35, .slice Ao37 t366.length co37, .slice Ao38 t369.length co38, .slice Ao39 t372.length co39, .int .i64 t375], .int .i64 t376, .int .i64 t377] rfl eA ?_; (with_reducible refine (spec_NextHop.calls k _ _ t363 _ _ t366 _ _ t369 _ _ t372 t375 t376 t377 t380 _ ?side1 ?side2 ?side3 ?side4 ?side5 ?side6 ?side7 ?side8 A6.out).mono ?_); (case side1 => repeat (first | exact (Kd.R_reads' HO365.out).2.2 | (with_reducible refine Kd.C_alloc ?_ _) | (with_reducible refine Kd.C_drewN ?_ _) | (with_reducible refine Kd.C_drew ?_))); (case side2 => exact (Kd.R_reads' HO365.out).2.1); (case side3 => repeat (first | exact (Kd.R_reads' HO368.out).2.2 | (with_reducible refine Kd.C_alloc ?_ _) | (with_reducible refine Kd.C_drewN ?_ _) | (with_reducible refine Kd.C_drew ?_))); (case side4 => exact (Kd.R_reads' HO368.out).2.1); (case side5 => repeat (first | exact (Kd.R_reads' HO371.out).2.2 | (with_reducible refine Kd.C_alloc ?_ _) | (with_reducible refine Kd.C_drewN ?_ _) | (with_reducible refine Kd.C_drew ?_))); (case side6 => exact (Kd.R_reads' HO371.out).2.1); (case side7 => repeat (first | exact (Kd.R_reads' HO374.out).2.2 | (with_reducible refine Kd.C_alloc ?_ _) | (with_reducible refine Kd.C_drewN ?_ _) | (with_reducible refine Kd.C_drew ?_))); (case side8 => exact (Kd.R_reads' HO374.out).2.1); rintro e w42 ⟨rfl, hb⟩; refine ⟨_, rfl, ?_⟩; have n0_ := Aside0.mk (Kd.R_below (kR HO365.out) hb); have n1_ := Aside0.mk (Kd.R_below (kR HO368.out) hb); have n2_ := Aside0.mk (Kd.R_below (kR HO371.out) hb); have n3_ := Aside0.mk (Kd.R_below (kR HO374.out) hb); have n4_ := Aside0.mk (blk_below (kB BK378.out) hb); have n5_ := Aside0.mk (below_step bS hb); clear HO365; clear HO368; clear HO371; clear HO374; clear BK378; clear HB; have HO365 := n0_; have HO368 := n1_; have HO371 := n2_; have HO374 := n3_; have BK378 := n4_; have HB := n5_; clear n0_ n1_ n2_ n3_ n4_ n5_; (try clear hb); (try clear hb2); (try clear hk); (try clear hi)))
    go_loopg [8, 9] k (fun kq v8 v9 w' => ∃ (x8_1 : Bool) (x9_1 : Int), v8 = .bool x8_1 ∧ v9 = .int .i64 x9_1 ∧ Aside0 (laws_FnWay.l1 kq t376 t377 t379 x8_1 x9_1 t363 t366 t369 t372 t375 = some r) ∧ Aside0 (kq ≤ k) ∧ Aside0 (Kd.R (Kd.int .i64) 3 w' w.heap.size (fun k_ => some k_ ≠ ((.slice Ao37 t366.length co37) : Value).ownBlock) (.slice Ao35 t363.length co35) t363) ∧ Aside0 (Kd.R (Kd.int .i64) 3 w' w.heap.size (fun k_ => some k_ ≠ ((.slice Ao35 t363.length co35) : Value).ownBlock) (.slice Ao37 t366.length co37) t366) ∧ Aside0 (Kd.R k42 42 w' w.heap.size (fun k_ => some k_ ≠ ((.slice Ao39 t372.length co39) : Value).ownBlock) (.slice Ao38 t369.length co38) t369) ∧ Aside0 (Kd.R k42 42 w' w.heap.size (fun k_ => some k_ ≠ ((.slice Ao38 t369.length co38) : Value).ownBlock) (.slice Ao39 t372.length co39) t372) ∧ Aside0 (w'.heap[gb378]? = some (.cells #[(.slice Ao35 t363.length co35), (.slice Ao37 t366.length co37), (.slice Ao38 t369.length co38), (.slice Ao39 t372.length co39), .int .i64 t375] 30 (0, 0))) ∧ Aside0 (Below w.heap.size w w'))
    case atStart => exact ⟨(false), (0), eX, eX, H', ⟨Nat.le_refl _⟩, ⟨by (with_reducible repeat (first | apply Kd.R_alloc | apply Kd.R_drewN | apply Kd.R_drew)); exact HO365.out⟩, ⟨by (with_reducible repeat (first | apply Kd.R_alloc | apply Kd.R_drewN | apply Kd.R_drew)); exact HO368.out⟩, ⟨by (with_reducible repeat (first | apply Kd.R_alloc | apply Kd.R_drewN | apply Kd.R_drew)); exact HO371.out⟩, ⟨by (with_reducible repeat (first | apply Kd.R_alloc | apply Kd.R_drewN | apply Kd.R_drew)); exact HO374.out⟩, ⟨by (with_reducible repeat (first | refine blk_drewN ?_ _ | refine blk_drew ?_ | refine blk_alloc ?_ _)); exact BK378.out⟩, ⟨by repeat (first | (with_reducible first | exact HB.out | apply below_alloc | apply pw_below_drewN | apply below_drew1 | refine below_set ?_ GE378.out) | exact HB.out)⟩⟩
    case round =>
     clear H'
     try clear c1
     try clear c2
     try clear p2
     try clear c3
     try clear p3
     try clear q3
     try clear hx3
     try clear c5
     try clear p6
     try clear c7
     try clear c7b0
     try clear c7b1
     try clear c8
     try clear c8b0
     try clear c11
     try clear c17
     try clear c18
     try clear c19
     try clear c19b0
     try clear c20
     try clear c21
     try clear c22
     try clear c22b0
     try clear c22b1
     try clear c25
     try clear c25b0
     try clear c26
     try clear c26b0
     try clear c26b1
     try clear c26b2
     try clear p38
     try clear q38
     try clear hx38
     try clear hcz12_0
     try clear hcz12_1
     try clear hcz12_2
     try clear hcz12_3
     try clear hcz12_4
     try clear hcz17_0
     try clear hcz17_1
     try clear hcz17_2
     try clear hcz17_3
     try clear hcz17_4
     try clear hcz23_0
     try clear hcz23_1
     try clear hcz23_2
     try clear hcz23_3
     try clear hcz23_4
     try clear hcz27_0
     try clear hcz27_1
     try clear hcz27_2
     try clear hcz27_3
     try clear hcz27_4
     try clear hcz29_0
     try clear hcz29_1
     try clear hcz29_2
     try clear hcz29_3
     try clear hcz29_4
     try clear hcz30_0
     try clear hcz30_1
     try clear hcz30_2
     try clear hcz30_3
     try clear hcz30_4
     try clear hcz32_0
     try clear hcz32_1
     try clear hcz32_2
     try clear hcz32_3
     try clear hcz32_4
     try clear hcz36_0
     try clear hcz36_1
     try clear hcz36_2
     try clear hcz36_3
     try clear hcz36_4
     try clear hcz41_0
     try clear hcz41_1
     try clear hcz41_2
     try clear hcz41_3
     try clear hcz41_4
     try clear hfz12_0
     try clear hfz12_1
     try clear hfz12_2
     try clear hfz12_3
     try clear hfz12_4
     try clear hfz17_0
     try clear hfz17_1
     try clear hfz17_2
     try clear hfz17_3
     try clear hfz17_4
     try clear hfz23_0
     try clear hfz23_1
     try clear hfz23_2
     try clear hfz23_3
     try clear hfz23_4
     try clear hfz27_0
     try clear hfz27_1
     try clear hfz27_2
     try clear hfz27_3
     try clear hfz27_4
     try clear hfz29_0
     try clear hfz29_1
     try clear hfz29_2
     try clear hfz29_3
     try clear hfz29_4
     try clear hfz30_0
     try clear hfz30_1
     try clear hfz30_2
     try clear hfz30_3
     try clear hfz30_4
     try clear hfz32_0
     try clear hfz32_1
     try clear hfz32_2
     try clear hfz32_3
     try clear hfz32_4
     try clear hfz36_0
     try clear hfz36_1
     try clear hfz36_2
     try clear hfz36_3
     try clear hfz36_4
     try clear hfz41_0
     try clear hfz41_1
     try clear hfz41_2
     try clear hfz41_3
     try clear hfz41_4
     try clear hx382_0
     try clear hx382_1
     try clear p2
     try clear p382
     try clear q382
     obtain ⟨x8_1, x9_1, rfl, rfl, HA, HK1, HO_379000, HO_379001, HO_379002, HO_379003, BK378, HB⟩ := hrel
     cases gk with
     | zero => exact absurd HA.out (by simp [laws_FnWay.l1])
     | succ k1 =>
      have H := HA.out
      clear HA
      simp only [laws_FnWay.l1] at H
      by_cases c43 : x9_1 < (t369.length : Int)
      ·rw [if_pos c43] at H
       have c43b0 : decide (x9_1 < (t369.length : Int)) = true := decide_eq_true c43
       clear c43
       by_cases c44 : x8_1 = true
       ·subst c44
        have H1 : (laws_FnWay.l1 k1 t376 t377 t379 true (wrap64 (x9_1 + 1)) t363 t366 t369 t372 t375) = some r := by rw [if_pos rfl] at H; exact H
        clear H
        have H := H1
        clear H1
        have H' := Aside0.mk H
        clear H
        have hcz45_0 : wr.cell? ⟨gb378, 0, none⟩ = some (.slice Ao35 t363.length co35) := (blk_cell BK378.out 0).trans rfl
        have hcz45_1 : wr.cell? ⟨gb378, 1, none⟩ = some (.slice Ao37 t366.length co37) := (blk_cell BK378.out 1).trans rfl
        have hcz45_2 : wr.cell? ⟨gb378, 2, none⟩ = some (.slice Ao38 t369.length co38) := (blk_cell BK378.out 2).trans rfl
        have hcz45_3 : wr.cell? ⟨gb378, 3, none⟩ = some (.slice Ao39 t372.length co39) := (blk_cell BK378.out 3).trans rfl
        have hcz45_4 : wr.cell? ⟨gb378, 4, none⟩ = some (.int .i64 t375) := (blk_cell BK378.out 4).trans rfl
        have hfz45_0 := blk_frozen BK378.out 0
        have hfz45_1 := blk_frozen BK378.out 1
        have hfz45_2 := blk_frozen BK378.out 2
        have hfz45_3 := blk_frozen BK378.out 3
        have hfz45_4 := blk_frozen BK378.out 4
        go_wp2
        go_roundg k1
        case measure => have := HK1.out; omega
        case rel => exact ⟨(true), (wrap64 (x9_1 + 1)), eX, eX, H', ⟨by have := HK1.out; omega⟩, ⟨by (with_reducible repeat (first | apply Kd.R_alloc | apply Kd.R_drewN | apply Kd.R_drew)); exact HO_379000.out⟩, ⟨by (with_reducible repeat (first | apply Kd.R_alloc | apply Kd.R_drewN | apply Kd.R_drew)); exact HO_379001.out⟩, ⟨by (with_reducible repeat (first | apply Kd.R_alloc | apply Kd.R_drewN | apply Kd.R_drew)); exact HO_379002.out⟩, ⟨by (with_reducible repeat (first | apply Kd.R_alloc | apply Kd.R_drewN | apply Kd.R_drew)); exact HO_379003.out⟩, ⟨by (with_reducible repeat (first | refine blk_drewN ?_ _ | refine blk_drew ?_ | refine blk_alloc ?_ _)); exact BK378.out⟩, ⟨by repeat (first | (with_reducible first | exact HB.out | apply below_alloc | apply pw_below_drewN | apply below_drew1 | refine below_set ?_ GE378.out) | exact HB.out)⟩⟩
       ·replace c44 := Bool.eq_false_iff.mpr c44
        subst c44
        have H1 : (if 0 ≤ x9_1 then (laws_FnWay.l1 k1 t376 t377 t379 (((rd_T42 t369 x9_1).f0) == t376 && (((rd_T42 t369 x9_1).f1) == t379)) (wrap64 (x9_1 + 1)) t363 t366 t369 t372 t375) else (none)) = some r := by rw [if_neg (show ¬ (false = true) by decide)] at H; exact H
        clear H
        have H := H1
        clear H1
        by_cases c46 : 0 ≤ x9_1
        ·rw [if_pos c46] at H
         have c46b0 : decide (0 ≤ x9_1) = true := decide_eq_true c46
         clear c46
         have H' := Aside0.mk H
         clear H
         have hcz47_0 : wr.cell? ⟨gb378, 0, none⟩ = some (.slice Ao35 t363.length co35) := (blk_cell BK378.out 0).trans rfl
         have hcz47_1 : wr.cell? ⟨gb378, 1, none⟩ = some (.slice Ao37 t366.length co37) := (blk_cell BK378.out 1).trans rfl
         have hcz47_2 : wr.cell? ⟨gb378, 2, none⟩ = some (.slice Ao38 t369.length co38) := (blk_cell BK378.out 2).trans rfl
         have hcz47_3 : wr.cell? ⟨gb378, 3, none⟩ = some (.slice Ao39 t372.length co39) := (blk_cell BK378.out 3).trans rfl
         have hcz47_4 : wr.cell? ⟨gb378, 4, none⟩ = some (.int .i64 t375) := (blk_cell BK378.out 4).trans rfl
         have hfz47_0 := blk_frozen BK378.out 0
         have hfz47_1 := blk_frozen BK378.out 1
         have hfz47_2 := blk_frozen BK378.out 2
         have hfz47_3 := blk_frozen BK378.out 3
         have hfz47_4 := blk_frozen BK378.out 4
         have p383 : 0 ≤ (x9_1 : Int) := of_decide_eq_true aA
         have q383 : x9_1 < (t369.length : Int) := of_decide_eq_true aA
         obtain ⟨ad383, e383, hx383_0, hx383_1⟩ := at_T42 (Kd.R_reads' HO_379002.out).2.2 x9_1 p383 q383
         cases e383
         replace p383 := eq_true p383
         replace q383 := eq_true q383
         go_wp2
         go_roundg k1
         case measure => have := HK1.out; omega
         case rel => exact ⟨((((rd_T42 t369 x9_1).f0) == t376 && (((rd_T42 t369 x9_1).f1) == t379))), (wrap64 (x9_1 + 1)), eX, eX, H', ⟨by have := HK1.out; omega⟩, ⟨by (with_reducible repeat (first | apply Kd.R_alloc | apply Kd.R_drewN | apply Kd.R_drew)); exact HO_379000.out⟩, ⟨by (with_reducible repeat (first | apply Kd.R_alloc | apply Kd.R_drewN | apply Kd.R_drew)); exact HO_379001.out⟩, ⟨by (with_reducible repeat (first | apply Kd.R_alloc | apply Kd.R_drewN | apply Kd.R_drew)); exact HO_379002.out⟩, ⟨by (with_reducible repeat (first | apply Kd.R_alloc | apply Kd.R_drewN | apply Kd.R_drew)); exact HO_379003.out⟩, ⟨by (with_reducible repeat (first | refine blk_drewN ?_ _ | refine blk_drew ?_ | refine blk_alloc ?_ _)); exact BK378.out⟩, ⟨by repeat (first | (with_reducible first | exact HB.out | apply below_alloc | apply pw_below_drewN | apply below_drew1 | refine below_set ?_ GE378.out) | exact HB.out)⟩⟩
        ·rw [if_neg c46] at H
         exact absurd H (by simp)
      ·rw [if_neg c43] at H
       have c43b0 : decide (x9_1 < (t369.length : Int)) = false := decide_eq_false c43
       clear c43
       by_cases c48 : x8_1 = true
       ·subst c48
        have H1 : (if t379 = t377 then (some true) else ((impl_NextHop.f k1 t363 t366 t369 t372 t375 t379 t377).bind fun t384 => (some (t384 == t377)))) = some r := by rw [if_pos rfl] at H; exact H
        clear H
        have H := H1
        clear H1
        by_cases c49 : t379 = t377
        ·rw [if_pos c49] at H
         have c49b0 : (t379 == t377) = true := beq_iff_eq.mpr c49
         have c49b1 : (t379 != t377) = false := bne_eq_false_iff_eq.mpr c49
         clear c49
         obtain rfl := Option.some.inj H
         have hcz50_0 : wr.cell? ⟨gb378, 0, none⟩ = some (.slice Ao35 t363.length co35) := (blk_cell BK378.out 0).trans rfl
         have hcz50_1 : wr.cell? ⟨gb378, 1, none⟩ = some (.slice Ao37 t366.length co37) := (blk_cell BK378.out 1).trans rfl
         have hcz50_2 : wr.cell? ⟨gb378, 2, none⟩ = some (.slice Ao38 t369.length co38) := (blk_cell BK378.out 2).trans rfl
         have hcz50_3 : wr.cell? ⟨gb378, 3, none⟩ = some (.slice Ao39 t372.length co39) := (blk_cell BK378.out 3).trans rfl
         have hcz50_4 : wr.cell? ⟨gb378, 4, none⟩ = some (.int .i64 t375) := (blk_cell BK378.out 4).trans rfl
         have hfz50_0 := blk_frozen BK378.out 0
         have hfz50_1 := blk_frozen BK378.out 1
         have hfz50_2 := blk_frozen BK378.out 2
         have hfz50_3 := blk_frozen BK378.out 3
         have hfz50_4 := blk_frozen BK378.out 4
         go_wp2
         go_ret
         exact ⟨eE, bS⟩
        ·rw [if_neg c49] at H
         have c49b0 : (t379 == t377) = false := beq_eq_false_iff_ne.mpr c49
         have c49b1 : (t379 != t377) = true := bne_iff_ne.mpr c49
         replace H := Option.bind_eq_some_iff.mp H
         obtain ⟨t384, A510, H⟩ := H
         replace H : (some (t384 == t377)) = some r := H
         have A51 := Aside0.mk A510
         clear A510
         obtain rfl := Option.some.inj H
         have hcz52_0 : wr.cell? ⟨gb378, 0, none⟩ = some (.slice Ao35 t363.length co35) := (blk_cell BK378.out 0).trans rfl
         have hcz52_1 : wr.cell? ⟨gb378, 1, none⟩ = some (.slice Ao37 t366.length co37) := (blk_cell BK378.out 1).trans rfl
         have hcz52_2 : wr.cell? ⟨gb378, 2, none⟩ = some (.slice Ao38 t369.length co38) := (blk_cell BK378.out 2).trans rfl
         have hcz52_3 : wr.cell? ⟨gb378, 3, none⟩ = some (.slice Ao39 t372.length co39) := (blk_cell BK378.out 3).trans rfl
         have hcz52_4 : wr.cell? ⟨gb378, 4, none⟩ = some (.int .i64 t375) := (blk_cell BK378.out 4).trans rfl
         have hfz52_0 := blk_frozen BK378.out 0
         have hfz52_1 := blk_frozen BK378.out 1
         have hfz52_2 := blk_frozen BK378.out 2
         have hfz52_3 := blk_frozen BK378.out 3
         have hfz52_4 := blk_frozen BK378.out 4
         go_wp2_with (first | (go_at_call 19; (with_reducible refine (impl_NextHop.calls k1 _ _ t363 _ _ t366 _ _ t369 _ _ t372 t375 t379 t377 t384 _ ?side1 ?side2 ?side3 ?side4 ?side5 ?side6 ?side7 ?side8 A51.out).mono ?_); (case side1 => repeat (first | exact (Kd.R_reads' HO_379000.out).2.2 | (with_reducible refine Kd.C_alloc ?_ _) | (with_reducible refine Kd.C_drewN ?_ _) | (with_reducible refine Kd.C_drew ?_))); (case side2 => exact (Kd.R_reads' HO_379000.out).2.1); (case side3 => repeat (first | exact (Kd.R_reads' HO_379001.out).2.2 | (with_reducible refine Kd.C_alloc ?_ _) | (with_reducible refine Kd.C_drewN ?_ _) | (with_reducible refine Kd.C_drew ?_))); (case side4 => exact (Kd.R_reads' HO_379001.out).2.1); (case side5 => repeat (first | exact (Kd.R_reads' HO_379002.out).2.2 | (with_reducible refine Kd.C_alloc ?_ _) | (with_reducible refine Kd.C_drewN ?_ _) | (with_reducible refine Kd.C_drew ?_))); (case side6 => exact (Kd.R_reads' HO_379002.out).2.1); (case side7 => repeat (first | exact (Kd.R_reads' HO_379003.out).2.2 | (with_reducible refine Kd.C_alloc ?_ _) | (with_reducible refine Kd.C_drewN ?_ _) | (with_reducible refine Kd.C_drew ?_))); (case side8 => exact (Kd.R_reads' HO_379003.out).2.1); rintro e w53 ⟨rfl, hb⟩; have n0_ := Aside0.mk (Kd.R_below (kR HO_379000.out) hb); have n1_ := Aside0.mk (Kd.R_below (kR HO_379001.out) hb); have n2_ := Aside0.mk (Kd.R_below (kR HO_379002.out) hb); have n3_ := Aside0.mk (Kd.R_below (kR HO_379003.out) hb); have n4_ := Aside0.mk (blk_below (kB BK378.out) hb); have n5_ := Aside0.mk (below_step bS hb); clear HO_379000; clear HO_379001; clear HO_379002; clear HO_379003; clear BK378; clear HB; have HO_379000 := n0_; have HO_379001 := n1_; have HO_379002 := n2_; have HO_379003 := n3_; have BK378 := n4_; have HB := n5_; clear n0_ n1_ n2_ n3_ n4_ n5_; (try clear hb); (try clear hb2); (try clear hk); (try clear hi)))
         go_ret
         exact ⟨eE, bS⟩
       ·replace c48 := Bool.eq_false_iff.mpr c48
        subst c48
        have H1 : (some false) = some r := by rw [if_neg (show ¬ (false = true) by decide)] at H; exact H
        clear H
        have H := H1
        clear H1
        rw [hr_true.out] at H
        exact absurd H (by simp)
  ·rw [if_neg c7] at H
   have c7b0 : (t379 == t380) = false := beq_eq_false_iff_ne.mpr c7
   have c7b1 : (t379 != t380) = true := bne_iff_ne.mpr c7
   rw [hr_true.out] at H
   exact absurd H (by simp)

/-- THE ONE PURE STATEMENT of laws_FnWay: yours. -/
def laws_FnWay.Pure : Prop := ∀ (l0 : List Int), l0.length ≤ maxLen → l0.length * 1 ≤ 140737488351232 → (∀ x ∈ l0, (Lit.int .u8 x).wf = true) → ∃ k, laws_FnWay.f k l0 = some true
theorem laws_FnWay.walk (P : laws_FnWay.Pure) (a0 : Option Addr) (len0 cap0 : Nat) (z0 : List Int) (w : World) (w0 : (a0 = none ∧ len0 = 0 ∧ cap0 = 0 ∧ z0 = []) ∨ ∃ x, a0 = some x ∧ len0 ≤ cap0 ∧ cap0 ≤ maxLen ∧ z0.length = cap0 ∧ (∀ i, i < z0.length → w.cell? (x.add i) = some (.int .u8 (z0.getD i 0))) ∧ ∀ n ∈ z0, (Lit.int .u8 n).wf = true) (y0 : len0 * 1 ≤ 140737488351232) :
  Calls Try.prog 5 #[.slice a0 len0 cap0] w fun e w' => e = .returned (.bool true) ∧ Below w.heap.size w w' := by
 obtain ⟨l0, rfl, hr0, hm0, hw0, hc0⟩ := ReadsInt.ofRowC w0
 obtain ⟨k, h⟩ := P l0 hm0 y0 hw0
 refine (laws_FnWay.calls k _ _ l0 true w (Kd.C_of_reads (d := (0 : Int)) (h1 := fun _ => rfl) hr0) hc0 h ⟨rfl⟩).mono ?_
 rintro e w' ⟨rfl, hd⟩
 exact ⟨rfl, hd⟩

end Go.Proofs.Ytmhjpnjolgigmaa.OFnWay
-- halved
-- squeezed
-- squeezed2
