-- walks of this claim, written by a program of mine
import Derived.Test.YtmhjpnjolgigmaaOFnExactConfigOkx0
import Derived.Test.YtmhjpnjolgigmaaOFnExactConfigOkx2
import Derived.Test.YtmhjpnjolgigmaaOFnExactConfigOkx4
import Derived.Test.YtmhjpnjolgigmaaOFnExactConfigOkx6
import Derived.Test.YtmhjpnjolgigmaaOFnExactConfigOkx7
namespace Go.Proofs.Ytmhjpnjolgigmaa.OFnExactConfigOk
open Go.RowKit Go.Proofs.Ytmhjpnjolgigmaa.OWord Go.Proofs.YtmhjpnjolgigmaaW.PrintWords Go.Proofs.YtmhjpnjolgigmaaW.PrintLast Go.Proofs.YtmhjpnjolgigmaaW.PrintMore
attribute [local go_sem] max2_int min2_int max_two min_two max_three min_three max_four min_four   -- for this text's walks alone
set_option linter.unusedVariables false
set_option linter.unusedSimpArgs false

/-! ### laws_FnExactConfigOk: function 3 -/
def laws_FnExactConfigOk.f (k : Nat) (l0_0 : List Int) (l0_1 : List Int) (l0_2 : List (S127)) (l0_3 : List (S127)) (a0_4 : Int) : Option (Bool) := (laws_szConfig.f l0_0 l0_1 l0_2 l0_3 a0_4 1048576).bind fun t208 => (if t208 < 0 then (some true) else ((laws_toConfig.f k l0_0 l0_1 l0_2 l0_3 a0_4).bind fun bt209 => ((spec_ConfigOk.f k bt209.1 bt209.2.1 bt209.2.2.1 bt209.2.2.2.1 bt209.2.2.2.2).bind fun t222 => ((laws_toConfig.f k l0_0 l0_1 l0_2 l0_3 a0_4).bind fun bt223 => ((impl_ConfigOk.f k bt223.1 bt223.2.1 bt223.2.2.1 bt223.2.2.2.1 bt223.2.2.2.2).bind fun t237 => (if (t237 != t222) = true then (some false) else ((laws_toConfig.f k l0_0 l0_1 l0_2 l0_3 a0_4).bind fun bt238 => ((laws_eqConfig.f k bt223.1 bt223.2.1 bt223.2.2.1 bt223.2.2.2.1 bt223.2.2.2.2 bt238.1 bt238.2.1 bt238.2.2.1 bt238.2.2.2.1 bt238.2.2.2.2).bind fun t251 => (if t251 = true then (some true) else (some false))))))))))
theorem laws_FnExactConfigOk.mono : ∀ a0 a1 a2 a3 a4 k, LeO (laws_FnExactConfigOk.f k a0 a1 a2 a3 a4) (laws_FnExactConfigOk.f (k + 1) a0 a1 a2 a3 a4) := by
 intro a0 a1 a2 a3 a4 k
 unfold laws_FnExactConfigOk.f
 repeat' first
   | (with_reducible exact impl_ConfigOk.mono _ _ _ _ _ _)
   | (with_reducible exact laws_eqConfig.mono _ _ _ _ _ _ _ _ _ _ _)
   | (with_reducible exact laws_toConfig.mono _ _ _ _ _ _)
   | (with_reducible exact spec_ConfigOk.mono _ _ _ _ _ _)
   | (with_reducible exact LeO.refl _)
   | (with_reducible exact LeO.none _)
   | (with_reducible refine LeO.ite ?_ ?_)
   | (with_reducible refine LeO.bind ?_ (fun _ => ?_))
   | exact impl_ConfigOk.mono _ _ _ _ _ _
   | exact laws_eqConfig.mono _ _ _ _ _ _ _ _ _ _ _
   | exact laws_toConfig.mono _ _ _ _ _ _
   | exact spec_ConfigOk.mono _ _ _ _ _ _
   | exact LeO.none _
   | refine LeO.ite ?_ ?_
   | refine LeO.bind ?_ (fun _ => ?_)
set_option maxHeartbeats 8000000 in
set_option maxRecDepth 100000 in
theorem laws_FnExactConfigOk.calls (k : Nat) (A0_0 : Option Addr) (c0_0 : Nat) (l0_0 : List Int) (A0_1 : Option Addr) (c0_1 : Nat) (l0_1 : List Int) (A0_2 : Option Addr) (c0_2 : Nat) (l0_2 : List (S127)) (A0_3 : Option Addr) (c0_3 : Nat) (l0_3 : List (S127)) (a0_4 : Int) (r : Bool) (w : World) (hr0_0 : Kd.C (Kd.int .i64) w A0_0 l0_0.length l0_0) (hc0_0 : l0_0.length ≤ c0_0) (hr0_1 : Kd.C (Kd.int .i64) w A0_1 l0_1.length l0_1) (hc0_1 : l0_1.length ≤ c0_1) (hr0_2 : Kd.C k127 w A0_2 l0_2.length l0_2) (hc0_2 : l0_2.length ≤ c0_2) (hr0_3 : Kd.C k127 w A0_3 l0_3.length l0_3) (hc0_3 : l0_3.length ≤ c0_3) (h : laws_FnExactConfigOk.f k l0_0 l0_1 l0_2 l0_3 a0_4 = some r) (hr_true : Aside0 (r = true)) :
  Calls Try.prog 3 #[.agg #[.slice A0_0 l0_0.length c0_0, .slice A0_1 l0_1.length c0_1, .slice A0_2 l0_2.length c0_2, .slice A0_3 l0_3.length c0_3, .int .i64 a0_4]] w fun e w' => e = .returned (.bool r) ∧ Below w.heap.size w w' := by
 have hu25 := Try.underlying25
 have hu30 := Try.underlying30
 have HR0_0 := Aside0.mk hr0_0
 have HC0_0 := Aside0.mk hc0_0
 clear hr0_0 hc0_0
 have HR0_1 := Aside0.mk hr0_1
 have HC0_1 := Aside0.mk hc0_1
 clear hr0_1 hc0_1
 have HR0_2 := Aside0.mk hr0_2
 have HC0_2 := Aside0.mk hc0_2
 clear hr0_2 hc0_2
 have HR0_3 := Aside0.mk hr0_3
 have HC0_3 := Aside0.mk hc0_3
 clear hr0_3 hc0_3
 have HB := Aside0.mk (Below.refl w.heap.size w)
 have H : ((laws_szConfig.f l0_0 l0_1 l0_2 l0_3 a0_4 1048576).bind fun t208 => (if t208 < 0 then (some true) else ((laws_toConfig.f k l0_0 l0_1 l0_2 l0_3 a0_4).bind fun bt209 => ((spec_ConfigOk.f k bt209.1 bt209.2.1 bt209.2.2.1 bt209.2.2.2.1 bt209.2.2.2.2).bind fun t222 => ((laws_toConfig.f k l0_0 l0_1 l0_2 l0_3 a0_4).bind fun bt223 => ((impl_ConfigOk.f k bt223.1 bt223.2.1 bt223.2.2.1 bt223.2.2.2.1 bt223.2.2.2.2).bind fun t237 => (if (t237 != t222) = true then (some false) else ((laws_toConfig.f k l0_0 l0_1 l0_2 l0_3 a0_4).bind fun bt238 => ((laws_eqConfig.f k bt223.1 bt223.2.1 bt223.2.2.1 bt223.2.2.2.1 bt223.2.2.2.2 bt238.1 bt238.2.1 bt238.2.2.1 bt238.2.2.2.1 bt238.2.2.2.2).bind fun t251 => (if t251 = true then (some true) else (some false))))))))))) = some r := h
 clear h
 replace H := Option.bind_eq_some_iff.mp H
 obtain ⟨t208, A20, H⟩ := H
 replace H : (if t208 < 0 then (some true) else ((laws_toConfig.f k l0_0 l0_1 l0_2 l0_3 a0_4).bind fun bt209 => ((spec_ConfigOk.f k bt209.1 bt209.2.1 bt209.2.2.1 bt209.2.2.2.1 bt209.2.2.2.2).bind fun t222 => ((laws_toConfig.f k l0_0 l0_1 l0_2 l0_3 a0_4).bind fun bt223 => ((impl_ConfigOk.f k bt223.1 bt223.2.1 bt223.2.2.1 bt223.2.2.2.1 bt223.2.2.2.2).bind fun t237 => (if (t237 != t222) = true then (some false) else ((laws_toConfig.f k l0_0 l0_1 l0_2 l0_3 a0_4).bind fun bt238 => ((laws_eqConfig.f k bt223.1 bt223.2.1 bt223.2.2.1 bt223.2.2.2.1 bt223.2.2.2.2 bt238.1 bt238.2.1 bt238.2.2.1 bt238.2.2.2.1 bt238.2.2.2.2).bind fun t251 => (if t251 = true then (some true) else (some false)))))))))) = some r := H
 have A2 := Aside0.mk A20
 clear A20
 by_cases c3 : t208 < 0
 ·rw [if_pos c3] at H
  have c3b0 : decide (t208 < 0) = true := decide_eq_true c3
  clear c3
  obtain rfl := Option.some.inj H
  go_enter Try.func3, Try.ntmps3
  go_wp2_with (first | ((with_reducible refine gate_dst (N := 1) rfl ?_); refine box_event ?hg (N := 1) ?hd (cs := #[.slice A0_0 l0_0.length c0_0, .slice A0_1 l0_1.length c0_1, .slice A0_2 l0_2.length c0_2, .slice A0_3 l0_3.length c0_3, .int .i64 a0_4]) (t := 25) ?hr ?_; (case hd => rfl); (case hg => rfl); (case hr => first | (go_simp; done) | (go_simp; rfl)); intro gb207 hg w4 hbox hb; have n0_ := Aside0.mk (below_step bH hb); have n1_ := Aside0.mk (hbox); have n2_ := Aside0.mk ((bZ hg : w.heap.size ≤ gb207)); have n3_ := Aside0.mk ((bZ hg : w.heap.size ≤ gb207)); clear HB; have HB := n0_; have BK207 := n1_; have GW207 := n2_; have GE207 := n3_; clear n0_ n1_ n2_ n3_; clear hb hbox hg; have hcz5_0 : w4.cell? ⟨gb207, 0, none⟩ = some (.slice A0_0 l0_0.length c0_0) := (blk_cell BK207.out 0).trans rfl; have hcz5_1 : w4.cell? ⟨gb207, 1, none⟩ = some (.slice A0_1 l0_1.length c0_1) := (blk_cell BK207.out 1).trans rfl; have hcz5_2 : w4.cell? ⟨gb207, 2, none⟩ = some (.slice A0_2 l0_2.length c0_2) := (blk_cell BK207.out 2).trans rfl; have hcz5_3 : w4.cell? ⟨gb207, 3, none⟩ = some (.slice A0_3 l0_3.length c0_3) := (blk_cell BK207.out 3).trans rfl; have hcz5_4 : w4.cell? ⟨gb207, 4, none⟩ = some (.int .i64 a0_4) := (blk_cell BK207.out 4).trans rfl; have hfz5_0 := blk_frozen BK207.out 0; have hfz5_1 := blk_frozen BK207.out 1; have hfz5_2 := blk_frozen BK207.out 2; have hfz5_3 := blk_frozen BK207.out 3; have hfz5_4 := blk_frozen BK207.out 4) | ((with_reducible refine gate_callee (f := 10) rfl ?_); refine goesL_ (some 9) rfl rfl Try.func10 (by kernel_rfl) rfl #[.agg #[.slice A0_0 l0_0.length c0_0, .slice A0_1 l0_1.length c0_1, .slice A0_2 l0_2.length c0_2, .slice A0_3 l0_3.length c0_3, .int .i64 a0_4], .int .i64 1048576] rfl eA ?_; (with_reducible refine (laws_szConfig.calls _ _ l0_0 _ _ l0_1 _ _ l0_2 _ _ l0_3 a0_4 1048576 t208 _ ?side1 ?side2 ?side3 ?side4 ?side5 ?side6 ?side7 ?side8 A2.out).mono ?_); (case side1 => repeat (first | exact (Kd.C_below HR0_0.out HB.out) | (with_reducible refine Kd.C_alloc ?_ _) | (with_reducible refine Kd.C_drewN ?_ _) | (with_reducible refine Kd.C_drew ?_))); (case side2 => exact HC0_0.out); (case side3 => repeat (first | exact (Kd.C_below HR0_1.out HB.out) | (with_reducible refine Kd.C_alloc ?_ _) | (with_reducible refine Kd.C_drewN ?_ _) | (with_reducible refine Kd.C_drew ?_))); (case side4 => exact HC0_1.out); (case side5 => repeat (first | exact (Kd.C_below HR0_2.out HB.out) | (with_reducible refine Kd.C_alloc ?_ _) | (with_reducible refine Kd.C_drewN ?_ _) | (with_reducible refine Kd.C_drew ?_))); (case side6 => exact HC0_2.out); (case side7 => repeat (first | exact (Kd.C_below HR0_3.out HB.out) | (with_reducible refine Kd.C_alloc ?_ _) | (with_reducible refine Kd.C_drewN ?_ _) | (with_reducible refine Kd.C_drew ?_))); (case side8 => exact HC0_3.out); rintro e w6 ⟨rfl, hb⟩; refine ⟨_, rfl, ?_⟩; have n0_ := Aside0.mk (blk_below (kB BK207.out) hb); have n1_ := Aside0.mk (below_step bS hb); clear BK207; clear HB; have BK207 := n0_; have HB := n1_; clear n0_ n1_; (try clear hb); (try clear hb2); (try clear hk); (try clear hi)))
  go_ret
  exact ⟨eE, bS⟩
 ·rw [if_neg c3] at H
  have c3b0 : decide (t208 < 0) = false := decide_eq_false c3
  clear c3
  replace H := Option.bind_eq_some_iff.mp H
  obtain ⟨⟨t209, t212, t215, t218, t221⟩, A70, H⟩ := H
  replace H : ((spec_ConfigOk.f k t209 t212 t215 t218 t221).bind fun t222 => ((laws_toConfig.f k l0_0 l0_1 l0_2 l0_3 a0_4).bind fun bt223 => ((impl_ConfigOk.f k bt223.1 bt223.2.1 bt223.2.2.1 bt223.2.2.2.1 bt223.2.2.2.2).bind fun t237 => (if (t237 != t222) = true then (some false) else ((laws_toConfig.f k l0_0 l0_1 l0_2 l0_3 a0_4).bind fun bt238 => ((laws_eqConfig.f k bt223.1 bt223.2.1 bt223.2.2.1 bt223.2.2.2.1 bt223.2.2.2.2 bt238.1 bt238.2.1 bt238.2.2.1 bt238.2.2.2.1 bt238.2.2.2.2).bind fun t251 => (if t251 = true then (some true) else (some false)))))))) = some r := H
  have A7 := Aside0.mk A70
  clear A70
  replace H := Option.bind_eq_some_iff.mp H
  obtain ⟨t222, A80, H⟩ := H
  replace H : ((laws_toConfig.f k l0_0 l0_1 l0_2 l0_3 a0_4).bind fun bt223 => ((impl_ConfigOk.f k bt223.1 bt223.2.1 bt223.2.2.1 bt223.2.2.2.1 bt223.2.2.2.2).bind fun t237 => (if (t237 != t222) = true then (some false) else ((laws_toConfig.f k l0_0 l0_1 l0_2 l0_3 a0_4).bind fun bt238 => ((laws_eqConfig.f k bt223.1 bt223.2.1 bt223.2.2.1 bt223.2.2.2.1 bt223.2.2.2.2 bt238.1 bt238.2.1 bt238.2.2.1 bt238.2.2.2.1 bt238.2.2.2.2).bind fun t251 => (if t251 = true then (some true) else (some false))))))) = some r := H
  have A8 := Aside0.mk A80
  clear A80
  replace H := Option.bind_eq_some_iff.mp H
  obtain ⟨⟨t223, t226, t229, t232, t235⟩, A90, H⟩ := H
  replace H : ((impl_ConfigOk.f k t223 t226 t229 t232 t235).bind fun t237 => (if (t237 != t222) = true then (some false) else ((laws_toConfig.f k l0_0 l0_1 l0_2 l0_3 a0_4).bind fun bt238 => ((laws_eqConfig.f k t223 t226 t229 t232 t235 bt238.1 bt238.2.1 bt238.2.2.1 bt238.2.2.2.1 bt238.2.2.2.2).bind fun t251 => (if t251 = true then (some true) else (some false)))))) = some r := H
  have A9 := Aside0.mk A90
  clear A90
  replace H := Option.bind_eq_some_iff.mp H
  obtain ⟨t237, A100, H⟩ := H
  replace H : (if (t237 != t222) = true then (some false) else ((laws_toConfig.f k l0_0 l0_1 l0_2 l0_3 a0_4).bind fun bt238 => ((laws_eqConfig.f k t223 t226 t229 t232 t235 bt238.1 bt238.2.1 bt238.2.2.1 bt238.2.2.2.1 bt238.2.2.2.2).bind fun t251 => (if t251 = true then (some true) else (some false))))) = some r := H
  have A10 := Aside0.mk A100
  clear A100
  by_cases c11 : (t237 != t222) = true
  ·rw [if_pos c11] at H
   have c11b0 : (t237 != t222) = true := c11
   (try (have c11b1 : decide (t237 = t222) = false := by simpa using c11))
   (try (have c11b2 : (t237 == t222) = false := by simpa using c11))
   (try (have c11b3 : ¬ (t237 = t222) := by simpa using c11))
   clear c11
   rw [hr_true.out] at H
   exact absurd H (by simp)
  ·rw [if_neg c11] at H
   have c11b0 : (t237 != t222) = false := by simpa using c11
   (try (have c11b1 : decide (t237 = t222) = true := by simpa using c11))
   (try (have c11b2 : (t237 == t222) = true := by simpa using c11))
   clear c11
   replace H := Option.bind_eq_some_iff.mp H
   obtain ⟨⟨t238, t241, t244, t247, t250⟩, A120, H⟩ := H
   replace H : ((laws_eqConfig.f k t223 t226 t229 t232 t235 t238 t241 t244 t247 t250).bind fun t251 => (if t251 = true then (some true) else (some false))) = some r := H
   have A12 := Aside0.mk A120
   clear A120
   replace H := Option.bind_eq_some_iff.mp H
   obtain ⟨t251, A130, H⟩ := H
   replace H : (if t251 = true then (some true) else (some false)) = some r := H
   have A13 := Aside0.mk A130
   clear A130
   by_cases c14 : t251 = true
   ·subst c14
    have H1 : (some true) = some r := by rw [if_pos rfl] at H; exact H
    clear H
    have H := H1
    clear H1
    obtain rfl := Option.some.inj H
    go_enter Try.func3, Try.ntmps3
    try go_wp2_with (first | ((with_reducible refine gate_dst (N := 1) rfl ?_); refine box_event ?hg (N := 1) ?hd (cs := #[.slice A0_0 l0_0.length c0_0, .slice A0_1 l0_1.length c0_1, .slice A0_2 l0_2.length c0_2, .slice A0_3 l0_3.length c0_3, .int .i64 a0_4]) (t := 25) ?hr ?_; (case hd => rfl); (case hg => rfl); (case hr => first | (go_simp; done) | (go_simp; rfl)); intro gb207 hg w15 hbox hb; have n0_ := Aside0.mk (below_step bH hb); have n1_ := Aside0.mk (hbox); have n2_ := Aside0.mk ((bZ hg : w.heap.size ≤ gb207)); have n3_ := Aside0.mk ((bZ hg : w.heap.size ≤ gb207)); clear HB; have HB := n0_; have BK207 := n1_; have GW207 := n2_; have GE207 := n3_; clear n0_ n1_ n2_ n3_; clear hb hbox hg; have hcz16_0 : w15.cell? ⟨gb207, 0, none⟩ = some (.slice A0_0 l0_0.length c0_0) := (blk_cell BK207.out 0).trans rfl; have hcz16_1 : w15.cell? ⟨gb207, 1, none⟩ = some (.slice A0_1 l0_1.length c0_1) := (blk_cell BK207.out 1).trans rfl; have hcz16_2 : w15.cell? ⟨gb207, 2, none⟩ = some (.slice A0_2 l0_2.length c0_2) := (blk_cell BK207.out 2).trans rfl; have hcz16_3 : w15.cell? ⟨gb207, 3, none⟩ = some (.slice A0_3 l0_3.length c0_3) := (blk_cell BK207.out 3).trans rfl; have hcz16_4 : w15.cell? ⟨gb207, 4, none⟩ = some (.int .i64 a0_4) := (blk_cell BK207.out 4).trans rfl; have hfz16_0 := blk_frozen BK207.out 0; have hfz16_1 := blk_frozen BK207.out 1; have hfz16_2 := blk_frozen BK207.out 2; have hfz16_3 := blk_frozen BK207.out 3; have hfz16_4 := blk_frozen BK207.out 4) | ((with_reducible refine gate_callee (f := 10) rfl ?_); refine goesL_ (some 9) rfl rfl Try.func10 (by kernel_rfl) rfl #[.agg #[.slice A0_0 l0_0.length c0_0, .slice A0_1 l0_1.length c0_1, .slice A0_2 l0_2.length c0_2, .slice A0_3 l0_3.length c0_3, .int .i64 a0_4], .int .i64 1048576] rfl eA ?_; (with_reducible refine (laws_szConfig.calls _ _ l0_0 _ _ l0_1 _ _ l0_2 _ _ l0_3 a0_4 1048576 t208 _ ?side1 ?side2 ?side3 ?side4 ?side5 ?side6 ?side7 ?side8 A2.out).mono ?_); (case side1 => repeat (first | exact (Kd.C_below HR0_0.out HB.out) | (with_reducible refine Kd.C_alloc ?_ _) | (with_reducible refine Kd.C_drewN ?_ _) | (with_reducible refine Kd.C_drew ?_))); (case side2 => exact HC0_0.out); (case side3 => repeat (first | exact (Kd.C_below HR0_1.out HB.out) | (with_reducible refine Kd.C_alloc ?_ _) | (with_reducible refine Kd.C_drewN ?_ _) | (with_reducible refine Kd.C_drew ?_))); (case side4 => exact HC0_1.out); (case side5 => repeat (first | exact (Kd.C_below HR0_2.out HB.out) | (with_reducible refine Kd.C_alloc ?_ _) | (with_reducible refine Kd.C_drewN ?_ _) | (with_reducible refine Kd.C_drew ?_))); (case side6 => exact HC0_2.out); (case side7 => repeat (first | exact (Kd.C_below HR0_3.out HB.out) | (with_reducible refine Kd.C_alloc ?_ _) | (with_reducible refine Kd.C_drewN ?_ _) | (with_reducible refine Kd.C_drew ?_))); (case side8 => exact HC0_3.out); rintro e w17 ⟨rfl, hb⟩; refine ⟨_, rfl, ?_⟩; have n0_ := Aside0.mk (blk_below (kB BK207.out) hb); have n1_ := Aside0.mk (below_step bS hb); clear BK207; clear HB; have BK207 := n0_; have HB := n1_; clear n0_ n1_; (try clear hb); (try clear hb2); (try clear hk); (try clear hi); have hcz18_0 : w17.cell? ⟨gb207, 0, none⟩ = some (.slice A0_0 l0_0.length c0_0) := (blk_cell BK207.out 0).trans rfl; have hcz18_1 : w17.cell? ⟨gb207, 1, none⟩ = some (.slice A0_1 l0_1.length c0_1) := (blk_cell BK207.out 1).trans rfl; have hcz18_2 : w17.cell? ⟨gb207, 2, none⟩ = some (.slice A0_2 l0_2.length c0_2) := (blk_cell BK207.out 2).trans rfl; have hcz18_3 : w17.cell? ⟨gb207, 3, none⟩ = some (.slice A0_3 l0_3.length c0_3) := (blk_cell BK207.out 3).trans rfl; have hcz18_4 : w17.cell? ⟨gb207, 4, none⟩ = some (.int .i64 a0_4) := (blk_cell BK207.out 4).trans rfl; have hfz18_0 := blk_frozen BK207.out 0; have hfz18_1 := blk_frozen BK207.out 1; have hfz18_2 := blk_frozen BK207.out 2; have hfz18_3 := blk_frozen BK207.out 3; have hfz18_4 := blk_frozen BK207.out 4) | ((with_reducible refine gate_callee (f := 12) rfl ?_); refine goesL_ (some 13) rfl rfl Try.func12 (by kernel_rfl) rfl #[.agg #[.slice A0_0 l0_0.length c0_0, .slice A0_1 l0_1.length c0_1, .slice A0_2 l0_2.length c0_2, .slice A0_3 l0_3.length c0_3, .int .i64 a0_4]] rfl eA ?_; (with_reducible refine (laws_toConfig.calls k _ _ l0_0 _ _ l0_1 _ _ l0_2 _ _ l0_3 a0_4 t209 t212 t215 t218 t221 _ ?side1 ?side2 ?side3 ?side4 ?side5 ?side6 ?side7 ?side8 A7.out).mono ?_); (case side1 => repeat (first | exact (Kd.C_below HR0_0.out HB.out) | (with_reducible refine Kd.C_alloc ?_ _) | (with_reducible refine Kd.C_drewN ?_ _) | (with_reducible refine Kd.C_drew ?_))); (case side2 => exact HC0_0.out); (case side3 => repeat (first | exact (Kd.C_below HR0_1.out HB.out) | (with_reducible refine Kd.C_alloc ?_ _) | (with_reducible refine Kd.C_drewN ?_ _) | (with_reducible refine Kd.C_drew ?_))); (case side4 => exact HC0_1.out); (case side5 => repeat (first | exact (Kd.C_below HR0_2.out HB.out) | (with_reducible refine Kd.C_alloc ?_ _) | (with_reducible refine Kd.C_drewN ?_ _) | (with_reducible refine Kd.C_drew ?_))); (case side6 => exact HC0_2.out); (case side7 => repeat (first | exact (Kd.C_below HR0_3.out HB.out) | (with_reducible refine Kd.C_alloc ?_ _) | (with_reducible refine Kd.C_drewN ?_ _) | (with_reducible refine Kd.C_drew ?_))); (case side8 => exact HC0_3.out); rintro e w19 ⟨v210, v213, v216, v219, rfl, ho0, ho1, ho2, ho3, hb⟩; refine ⟨_, rfl, ?_⟩; have n0_ := Aside0.mk (Kd.R_lower ho0 (below_size bS)); have n1_ := Aside0.mk (Kd.R_lower ho1 (below_size bS)); have n2_ := Aside0.mk (Kd.R_lower ho2 (below_size bS)); have n3_ := Aside0.mk (Kd.R_lower ho3 (below_size bS)); have n4_ := Aside0.mk (blk_below (kB BK207.out) hb); have n5_ := Aside0.mk (below_step bS hb); clear BK207; clear HB; have HO211 := n0_; have HO214 := n1_; have HO217 := n2_; have HO220 := n3_; have BK207 := n4_; have HB := n5_; clear n0_ n1_ n2_ n3_ n4_ n5_; (try clear hb); (try clear hb2); (try clear hk); (try clear hi); (try clear ho0); (try clear ho1); (try clear ho2); (try clear ho3); obtain ⟨Ao20, co20, eo20⟩ := Kd.R_slice HO211.out; subst eo20; obtain ⟨Ao21, co21, eo21⟩ := Kd.R_slice HO214.out; subst eo21; obtain ⟨Ao22, co22, eo22⟩ := Kd.R_slice HO217.out; subst eo22; obtain ⟨Ao23, co23, eo23⟩ := Kd.R_slice HO220.out; subst eo23) | ((with_reducible refine gate_callee (f := 11) rfl ?_); refine goesL_ (some 14) rfl rfl Try.func11 (by kernel_rfl) rfl #[.agg #[.slice Ao20 t209.length co20, .slice Ao21 t212.length co21, .slice Ao22 t215.length co22, .slice Ao23 t218.length co23, .int .i64 t221]] rfl eA ?_; (with_reducible refine (spec_ConfigOk.calls k _ _ t209 _ _ t212 _ _ t215 _ _ t218 t221 t222 _ ?side1 ?side2 ?side3 ?side4 ?side5 ?side6 ?side7 ?side8 A8.out).mono ?_); (case side1 => repeat (first | exact (Kd.R_reads' HO211.out).2.2 | (with_reducible refine Kd.C_alloc ?_ _) | (with_reducible refine Kd.C_drewN ?_ _) | (with_reducible refine Kd.C_drew ?_))); (case side2 => exact (Kd.R_reads' HO211.out).2.1); (case side3 => repeat (first | exact (Kd.R_reads' HO214.out).2.2 | (with_reducible refine Kd.C_alloc ?_ _) | (with_reducible refine Kd.C_drewN ?_ _) | (with_reducible refine Kd.C_drew ?_))); (case side4 => exact (Kd.R_reads' HO214.out).2.1); (case side5 => repeat (first | exact (Kd.R_reads' HO217.out).2.2 | (with_reducible refine Kd.C_alloc ?_ _) | (with_reducible refine Kd.C_drewN ?_ _) | (with_reducible refine Kd.C_drew ?_))); (case side6 => exact (Kd.R_reads' HO217.out).2.1); (case side7 => repeat (first | exact (Kd.R_reads' HO220.out).2.2 | (with_reducible refine Kd.C_alloc ?_ _) | (with_reducible refine Kd.C_drewN ?_ _) | (with_reducible refine Kd.C_drew ?_))); (case side8 => exact (Kd.R_reads' HO220.out).2.1); rintro e w24 ⟨rfl, hb⟩; refine ⟨_, rfl, ?_⟩; have n0_ := Aside0.mk (Kd.R_below (kR HO211.out) hb); have n1_ := Aside0.mk (Kd.R_below (kR HO214.out) hb); have n2_ := Aside0.mk (Kd.R_below (kR HO217.out) hb); have n3_ := Aside0.mk (Kd.R_below (kR HO220.out) hb); have n4_ := Aside0.mk (blk_below (kB BK207.out) hb); have n5_ := Aside0.mk (below_step bS hb); clear HO211; clear HO214; clear HO217; clear HO220; clear BK207; clear HB; have HO211 := n0_; have HO214 := n1_; have HO217 := n2_; have HO220 := n3_; have BK207 := n4_; have HB := n5_; clear n0_ n1_ n2_ n3_ n4_ n5_; (try clear hb); (try clear hb2); (try clear hk); (try clear hi); have hcz25_0 : w24.cell? ⟨gb207, 0, none⟩ = some (.slice A0_0 l0_0.length c0_0) := (blk_cell BK207.out 0).trans rfl; have hcz25_1 : w24.cell? ⟨gb207, 1, none⟩ = some (.slice A0_1 l0_1.length c0_1) := (blk_cell BK207.out 1).trans rfl; have hcz25_2 : w24.cell? ⟨gb207, 2, none⟩ = some (.slice A0_2 l0_2.length c0_2) := (blk_cell BK207.out 2).trans rfl; have hcz25_3 : w24.cell? ⟨gb207, 3, none⟩ = some (.slice A0_3 l0_3.length c0_3) := (blk_cell BK207.out 3).trans rfl; have hcz25_4 : w24.cell? ⟨gb207, 4, none⟩ = some (.int .i64 a0_4) := (blk_cell BK207.out 4).trans rfl; have hfz25_0 := blk_frozen BK207.out 0; have hfz25_1 := blk_frozen BK207.out 1; have hfz25_2 := blk_frozen BK207.out 2; have hfz25_3 := blk_frozen BK207.out 3; have hfz25_4 := blk_frozen BK207.out 4) | ((with_reducible refine gate_callee (f := 12) rfl ?_); refine goesL_ (some 16) rfl rfl Try.func12 (by kernel_rfl) rfl #[.agg #[.slice A0_0 l0_0.length c0_0, .slice A0_1 l0_1.length c0_1, .slice A0_2 l0_2.length c0_2, .slice A0_3 l0_3.length c0_3, .int .i64 a0_4]] rfl eA ?_; (with_reducible refine (laws_toConfig.calls k _ _ l0_0 _ _ l0_1 _ _ l0_2 _ _ l0_3 a0_4 t223 t226 t229 t232 t235 _ ?side1 ?side2 ?side3 ?side4 ?side5 ?side6 ?side7 ?side8 A9.out).mono ?_); (case side1 => repeat (first | exact (Kd.C_below HR0_0.out HB.out) | (with_reducible refine Kd.C_alloc ?_ _) | (with_reducible refine Kd.C_drewN ?_ _) | (with_reducible refine Kd.C_drew ?_))); (case side2 => exact HC0_0.out); (case side3 => repeat (first | exact (Kd.C_below HR0_1.out HB.out) | (with_reducible refine Kd.C_alloc ?_ _) | (with_reducible refine Kd.C_drewN ?_ _) | (with_reducible refine Kd.C_drew ?_))); (case side4 => exact HC0_1.out); (case side5 => repeat (first | exact (Kd.C_below HR0_2.out HB.out) | (with_reducible refine Kd.C_alloc ?_ _) | (with_reducible refine Kd.C_drewN ?_ _) | (with_reducible refine Kd.C_drew ?_))); (case side6 => exact HC0_2.out); (case side7 => repeat (first | exact (Kd.C_below HR0_3.out HB.out) | (with_reducible refine Kd.C_alloc ?_ _) | (with_reducible refine Kd.C_drewN ?_ _) | (with_reducible refine Kd.C_drew ?_))); (case side8 => exact HC0_3.out); rintro e w26 ⟨v224, v227, v230, v233, rfl, ho0, ho1, ho2, ho3, hb⟩; refine ⟨_, rfl, ?_⟩; have n0_ := Aside0.mk (Kd.R_mono (Kd.R_told (Kd.R_told (Kd.R_old (kR HO211.out) hb) (Kd.R_base ho0)) (Kd.R_base ho1)) (fun _ h_ => h_.1)); have n1_ := Aside0.mk (Kd.R_mono (Kd.R_told (Kd.R_told (Kd.R_old (kR HO214.out) hb) (Kd.R_base ho0)) (Kd.R_base ho1)) (fun _ h_ => h_.1)); have n2_ := Aside0.mk (Kd.R_mono (Kd.R_told (Kd.R_told (Kd.R_old (kR HO217.out) hb) (Kd.R_base ho2)) (Kd.R_base ho3)) (fun _ h_ => h_.1)); have n3_ := Aside0.mk (Kd.R_mono (Kd.R_told (Kd.R_told (Kd.R_old (kR HO220.out) hb) (Kd.R_base ho2)) (Kd.R_base ho3)) (fun _ h_ => h_.1)); have n4_ := Aside0.mk (Kd.R_lower (Kd.R_new' (Kd.R_new' ho0 (Kd.R_lt (kR HO211.out))) (Kd.R_lt (kR HO214.out))) (below_size bS)); have n5_ := Aside0.mk (Kd.R_lower (Kd.R_new' (Kd.R_new' ho1 (Kd.R_lt (kR HO211.out))) (Kd.R_lt (kR HO214.out))) (below_size bS)); have n6_ := Aside0.mk (Kd.R_lower (Kd.R_new' (Kd.R_new' ho2 (Kd.R_lt (kR HO217.out))) (Kd.R_lt (kR HO220.out))) (below_size bS)); have n7_ := Aside0.mk (Kd.R_lower (Kd.R_new' (Kd.R_new' ho3 (Kd.R_lt (kR HO217.out))) (Kd.R_lt (kR HO220.out))) (below_size bS)); have n8_ := Aside0.mk (blk_below (kB BK207.out) hb); have n9_ := Aside0.mk (below_step bS hb); clear HO211; clear HO214; clear HO217; clear HO220; clear BK207; clear HB; have HO211 := n0_; have HO214 := n1_; have HO217 := n2_; have HO220 := n3_; have HO225 := n4_; have HO228 := n5_; have HO231 := n6_; have HO234 := n7_; have BK207 := n8_; have HB := n9_; clear n0_ n1_ n2_ n3_ n4_ n5_ n6_ n7_ n8_ n9_; (try clear hb); (try clear hb2); (try clear hk); (try clear hi); (try clear ho0); (try clear ho1); (try clear ho2); (try clear ho3)) | ((with_reducible refine gate_dst (N := 5) rfl ?_); refine box_event ?hg (N := 5) ?hd (cs := #[.slice none 0 0, .slice none 0 0, .slice none 0 0, .slice none 0 0, .int .i64 0]) (t := 30) ?hr ?_; (case hd => rfl); (case hg => rfl); (case hr => first | (go_simp; done) | (go_simp; rfl)); intro gb236 hg w27 hbox hb; have n0_ := Aside0.mk (Kd.R_below (kR HO211.out) hb); have n1_ := Aside0.mk (Kd.R_below (kR HO214.out) hb); have n2_ := Aside0.mk (Kd.R_below (kR HO217.out) hb); have n3_ := Aside0.mk (Kd.R_below (kR HO220.out) hb); have n4_ := Aside0.mk (Kd.R_below (kR HO225.out) hb); have n5_ := Aside0.mk (Kd.R_below (kR HO228.out) hb); have n6_ := Aside0.mk (Kd.R_below (kR HO231.out) hb); have n7_ := Aside0.mk (Kd.R_below (kR HO234.out) hb); have n8_ := Aside0.mk (blk_below (kB BK207.out) hb); have n9_ := Aside0.mk (below_step bS hb); have n10_ := Aside0.mk (hbox); have n11_ := Aside0.mk ((bZ hg : w.heap.size ≤ gb236)); have n12_ := Aside0.mk ((bZ hg : w.heap.size ≤ gb236)); have n13_ := Aside0.mk ((nL hg BK207.out : gb207 ≠ gb236)); have n14_ := Aside0.mk ((nG hg BK207.out : gb236 ≠ gb207)); clear HO211; clear HO214; clear HO217; clear HO220; clear HO225; clear HO228; clear HO231; clear HO234; clear BK207; clear HB; have HO211 := n0_; have HO214 := n1_; have HO217 := n2_; have HO220 := n3_; have HO225 := n4_; have HO228 := n5_; have HO231 := n6_; have HO234 := n7_; have BK207 := n8_; have HB := n9_; have BK236 := n10_; have GW236 := n11_; have GE236 := n12_; have NB207_236 := n13_; have NB236_207 := n14_; clear n0_ n1_ n2_ n3_ n4_ n5_ n6_ n7_ n8_ n9_ n10_ n11_ n12_ n13_ n14_; clear hb hbox hg; obtain ⟨Ao28, co28, eo28⟩ := Kd.R_slice HO225.out; subst eo28; have hnb29 := NB236_207.out; have hnc29 := NB207_236.out; have hcz30_0 : w27.cell? ⟨gb236, 0, none⟩ = some (.slice none 0 0) := (blk_cell BK236.out 0).trans rfl; have hcz30_1 : w27.cell? ⟨gb236, 1, none⟩ = some (.slice none 0 0) := (blk_cell BK236.out 1).trans rfl; have hcz30_2 : w27.cell? ⟨gb236, 2, none⟩ = some (.slice none 0 0) := (blk_cell BK236.out 2).trans rfl; have hcz30_3 : w27.cell? ⟨gb236, 3, none⟩ = some (.slice none 0 0) := (blk_cell BK236.out 3).trans rfl; have hcz30_4 : w27.cell? ⟨gb236, 4, none⟩ = some (.int .i64 0) := (blk_cell BK236.out 4).trans rfl; have hfz30_0 := blk_frozen BK236.out 0; have hfz30_1 := blk_frozen BK236.out 1; have hfz30_2 := blk_frozen BK236.out 2; have hfz30_3 := blk_frozen BK236.out 3; have hfz30_4 := blk_frozen BK236.out 4; obtain ⟨Ao31, co31, eo31⟩ := Kd.R_slice HO228.out; subst eo31; obtain ⟨Ao32, co32, eo32⟩ := Kd.R_slice HO231.out; subst eo32; obtain ⟨Ao33, co33, eo33⟩ := Kd.R_slice HO234.out; subst eo33) | ((with_reducible refine gate_callee (f := 13) rfl ?_); refine goesL_ (some 18) rfl rfl Try.func13 (by kernel_rfl) rfl #[.agg #[.slice Ao28 t223.length co28, .slice Ao31 t226.length co31, .slice Ao32 t229.length co32, .slice Ao33 t232.length co33, .int .i64 t235]] rfl eA ?_; (with_reducible refine (impl_ConfigOk.calls k _ _ t223 _ _ t226 _ _ t229 _ _ t232 t235 t237 _ ?side1 ?side2 ?side3 ?side4 ?side5 ?side6 ?side7 ?side8 A10.out).mono ?_); (case side1 => refine (Kd.R_reads' (e := 3) (base := w.heap.size) (ok := fun k_ => ((some k_ ≠ (.slice Ao31 t226.length co31 : Value).ownBlock ∧ some k_ ≠ (.slice Ao20 t209.length co20 : Value).ownBlock) ∧ some k_ ≠ (.slice Ao21 t212.length co21 : Value).ownBlock)) (n := t223.length) (c := co28) ?_).2.2; exact (by (with_reducible repeat (first | apply Kd.R_alloc | apply Kd.R_drewN | apply Kd.R_drew)); exact (Kd.R_mono (Kd.R_far (p := ⟨gb236, 4, none⟩) (Kd.R_far (p := ⟨gb236, 3, none⟩) (Kd.R_far (p := ⟨gb236, 2, none⟩) (Kd.R_far (p := ⟨gb236, 1, none⟩) (Kd.R_far (p := ⟨gb236, 0, none⟩) (Kd.R_types HO225.out BK236.out (by decide)) (fun _ hk => hk.2) (.slice Ao28 t223.length co28)) (fun _ hk => hk.2) (.slice Ao31 t226.length co31)) (fun _ hk => hk.2) (.slice Ao32 t229.length co32)) (fun _ hk => hk.2) (.slice Ao33 t232.length co33)) (fun _ hk => hk.2) (.int .i64 t235)) (fun _ h_ => h_.1)))); (case side2 => exact (Kd.R_reads' HO225.out).2.1); (case side3 => refine (Kd.R_reads' (e := 3) (base := w.heap.size) (ok := fun k_ => ((some k_ ≠ (.slice Ao28 t223.length co28 : Value).ownBlock ∧ some k_ ≠ (.slice Ao20 t209.length co20 : Value).ownBlock) ∧ some k_ ≠ (.slice Ao21 t212.length co21 : Value).ownBlock)) (n := t226.length) (c := co31) ?_).2.2; exact (by (with_reducible repeat (first | apply Kd.R_alloc | apply Kd.R_drewN | apply Kd.R_drew)); exact (Kd.R_mono (Kd.R_far (p := ⟨gb236, 4, none⟩) (Kd.R_far (p := ⟨gb236, 3, none⟩) (Kd.R_far (p := ⟨gb236, 2, none⟩) (Kd.R_far (p := ⟨gb236, 1, none⟩) (Kd.R_far (p := ⟨gb236, 0, none⟩) (Kd.R_types HO228.out BK236.out (by decide)) (fun _ hk => hk.2) (.slice Ao28 t223.length co28)) (fun _ hk => hk.2) (.slice Ao31 t226.length co31)) (fun _ hk => hk.2) (.slice Ao32 t229.length co32)) (fun _ hk => hk.2) (.slice Ao33 t232.length co33)) (fun _ hk => hk.2) (.int .i64 t235)) (fun _ h_ => h_.1)))); (case side4 => exact (Kd.R_reads' HO228.out).2.1); (case side5 => refine (Kd.R_reads' (e := 42) (base := w.heap.size) (ok := fun k_ => ((some k_ ≠ (.slice Ao33 t232.length co33 : Value).ownBlock ∧ some k_ ≠ (.slice Ao22 t215.length co22 : Value).ownBlock) ∧ some k_ ≠ (.slice Ao23 t218.length co23 : Value).ownBlock)) (n := t229.length) (c := co32) ?_).2.2; exact (by (with_reducible repeat (first | apply Kd.R_alloc | apply Kd.R_drewN | apply Kd.R_drew)); exact (Kd.R_mono (Kd.R_far (p := ⟨gb236, 4, none⟩) (Kd.R_far (p := ⟨gb236, 3, none⟩) (Kd.R_far (p := ⟨gb236, 2, none⟩) (Kd.R_far (p := ⟨gb236, 1, none⟩) (Kd.R_far (p := ⟨gb236, 0, none⟩) (Kd.R_types HO231.out BK236.out (by decide)) (fun _ hk => hk.2) (.slice Ao28 t223.length co28)) (fun _ hk => hk.2) (.slice Ao31 t226.length co31)) (fun _ hk => hk.2) (.slice Ao32 t229.length co32)) (fun _ hk => hk.2) (.slice Ao33 t232.length co33)) (fun _ hk => hk.2) (.int .i64 t235)) (fun _ h_ => h_.1)))); (case side6 => exact (Kd.R_reads' HO231.out).2.1); (case side7 => refine (Kd.R_reads' (e := 42) (base := w.heap.size) (ok := fun k_ => ((some k_ ≠ (.slice Ao32 t229.length co32 : Value).ownBlock ∧ some k_ ≠ (.slice Ao22 t215.length co22 : Value).ownBlock) ∧ some k_ ≠ (.slice Ao23 t218.length co23 : Value).ownBlock)) (n := t232.length) (c := co33) ?_).2.2; exact (by (with_reducible repeat (first | apply Kd.R_alloc | apply Kd.R_drewN | apply Kd.R_drew)); exact (Kd.R_mono (Kd.R_far (p := ⟨gb236, 4, none⟩) (Kd.R_far (p := ⟨gb236, 3, none⟩) (Kd.R_far (p := ⟨gb236, 2, none⟩) (Kd.R_far (p := ⟨gb236, 1, none⟩) (Kd.R_far (p := ⟨gb236, 0, none⟩) (Kd.R_types HO234.out BK236.out (by decide)) (fun _ hk => hk.2) (.slice Ao28 t223.length co28)) (fun _ hk => hk.2) (.slice Ao31 t226.length co31)) (fun _ hk => hk.2) (.slice Ao32 t229.length co32)) (fun _ hk => hk.2) (.slice Ao33 t232.length co33)) (fun _ hk => hk.2) (.int .i64 t235)) (fun _ h_ => h_.1)))); (case side8 => exact (Kd.R_reads' HO234.out).2.1); rintro e w34 ⟨rfl, hb⟩; refine ⟨_, rfl, ?_⟩; have n0_ := Aside0.mk (Kd.R_below (by (with_reducible repeat (first | apply Kd.R_alloc | apply Kd.R_drewN | apply Kd.R_drew)); exact (Kd.R_mono (Kd.R_far (p := ⟨gb236, 4, none⟩) (Kd.R_far (p := ⟨gb236, 3, none⟩) (Kd.R_far (p := ⟨gb236, 2, none⟩) (Kd.R_far (p := ⟨gb236, 1, none⟩) (Kd.R_far (p := ⟨gb236, 0, none⟩) (Kd.R_types HO211.out BK236.out (by decide)) (fun _ hk => hk.2) (.slice Ao28 t223.length co28)) (fun _ hk => hk.2) (.slice Ao31 t226.length co31)) (fun _ hk => hk.2) (.slice Ao32 t229.length co32)) (fun _ hk => hk.2) (.slice Ao33 t232.length co33)) (fun _ hk => hk.2) (.int .i64 t235)) (fun _ h_ => h_.1))) hb); have n1_ := Aside0.mk (Kd.R_below (by (with_reducible repeat (first | apply Kd.R_alloc | apply Kd.R_drewN | apply Kd.R_drew)); exact (Kd.R_mono (Kd.R_far (p := ⟨gb236, 4, none⟩) (Kd.R_far (p := ⟨gb236, 3, none⟩) (Kd.R_far (p := ⟨gb236, 2, none⟩) (Kd.R_far (p := ⟨gb236, 1, none⟩) (Kd.R_far (p := ⟨gb236, 0, none⟩) (Kd.R_types HO214.out BK236.out (by decide)) (fun _ hk => hk.2) (.slice Ao28 t223.length co28)) (fun _ hk => hk.2) (.slice Ao31 t226.length co31)) (fun _ hk => hk.2) (.slice Ao32 t229.length co32)) (fun _ hk => hk.2) (.slice Ao33 t232.length co33)) (fun _ hk => hk.2) (.int .i64 t235)) (fun _ h_ => h_.1))) hb); have n2_ := Aside0.mk (Kd.R_below (by (with_reducible repeat (first | apply Kd.R_alloc | apply Kd.R_drewN | apply Kd.R_drew)); exact (Kd.R_mono (Kd.R_far (p := ⟨gb236, 4, none⟩) (Kd.R_far (p := ⟨gb236, 3, none⟩) (Kd.R_far (p := ⟨gb236, 2, none⟩) (Kd.R_far (p := ⟨gb236, 1, none⟩) (Kd.R_far (p := ⟨gb236, 0, none⟩) (Kd.R_types HO217.out BK236.out (by decide)) (fun _ hk => hk.2) (.slice Ao28 t223.length co28)) (fun _ hk => hk.2) (.slice Ao31 t226.length co31)) (fun _ hk => hk.2) (.slice Ao32 t229.length co32)) (fun _ hk => hk.2) (.slice Ao33 t232.length co33)) (fun _ hk => hk.2) (.int .i64 t235)) (fun _ h_ => h_.1))) hb); have n3_ := Aside0.mk (Kd.R_below (by (with_reducible repeat (first | apply Kd.R_alloc | apply Kd.R_drewN | apply Kd.R_drew)); exact (Kd.R_mono (Kd.R_far (p := ⟨gb236, 4, none⟩) (Kd.R_far (p := ⟨gb236, 3, none⟩) (Kd.R_far (p := ⟨gb236, 2, none⟩) (Kd.R_far (p := ⟨gb236, 1, none⟩) (Kd.R_far (p := ⟨gb236, 0, none⟩) (Kd.R_types HO220.out BK236.out (by decide)) (fun _ hk => hk.2) (.slice Ao28 t223.length co28)) (fun _ hk => hk.2) (.slice Ao31 t226.length co31)) (fun _ hk => hk.2) (.slice Ao32 t229.length co32)) (fun _ hk => hk.2) (.slice Ao33 t232.length co33)) (fun _ hk => hk.2) (.int .i64 t235)) (fun _ h_ => h_.1))) hb); have n4_ := Aside0.mk (Kd.R_below (by (with_reducible repeat (first | apply Kd.R_alloc | apply Kd.R_drewN | apply Kd.R_drew)); exact (Kd.R_mono (Kd.R_far (p := ⟨gb236, 4, none⟩) (Kd.R_far (p := ⟨gb236, 3, none⟩) (Kd.R_far (p := ⟨gb236, 2, none⟩) (Kd.R_far (p := ⟨gb236, 1, none⟩) (Kd.R_far (p := ⟨gb236, 0, none⟩) (Kd.R_types HO225.out BK236.out (by decide)) (fun _ hk => hk.2) (.slice Ao28 t223.length co28)) (fun _ hk => hk.2) (.slice Ao31 t226.length co31)) (fun _ hk => hk.2) (.slice Ao32 t229.length co32)) (fun _ hk => hk.2) (.slice Ao33 t232.length co33)) (fun _ hk => hk.2) (.int .i64 t235)) (fun _ h_ => h_.1))) hb); have n5_ := Aside0.mk (Kd.R_below (by (with_reducible repeat (first | apply Kd.R_alloc | apply Kd.R_drewN | apply Kd.R_drew)); exact (Kd.R_mono (Kd.R_far (p := ⟨gb236, 4, none⟩) (Kd.R_far (p := ⟨gb236, 3, none⟩) (Kd.R_far (p := ⟨gb236, 2, none⟩) (Kd.R_far (p := ⟨gb236, 1, none⟩) (Kd.R_far (p := ⟨gb236, 0, none⟩) (Kd.R_types HO228.out BK236.out (by decide)) (fun _ hk => hk.2) (.slice Ao28 t223.length co28)) (fun _ hk => hk.2) (.slice Ao31 t226.length co31)) (fun _ hk => hk.2) (.slice Ao32 t229.length co32)) (fun _ hk => hk.2) (.slice Ao33 t232.length co33)) (fun _ hk => hk.2) (.int .i64 t235)) (fun _ h_ => h_.1))) hb); have n6_ := Aside0.mk (Kd.R_below (by (with_reducible repeat (first | apply Kd.R_alloc | apply Kd.R_drewN | apply Kd.R_drew)); exact (Kd.R_mono (Kd.R_far (p := ⟨gb236, 4, none⟩) (Kd.R_far (p := ⟨gb236, 3, none⟩) (Kd.R_far (p := ⟨gb236, 2, none⟩) (Kd.R_far (p := ⟨gb236, 1, none⟩) (Kd.R_far (p := ⟨gb236, 0, none⟩) (Kd.R_types HO231.out BK236.out (by decide)) (fun _ hk => hk.2) (.slice Ao28 t223.length co28)) (fun _ hk => hk.2) (.slice Ao31 t226.length co31)) (fun _ hk => hk.2) (.slice Ao32 t229.length co32)) (fun _ hk => hk.2) (.slice Ao33 t232.length co33)) (fun _ hk => hk.2) (.int .i64 t235)) (fun _ h_ => h_.1))) hb); have n7_ := Aside0.mk (Kd.R_below (by (with_reducible repeat (first | apply Kd.R_alloc | apply Kd.R_drewN | apply Kd.R_drew)); exact (Kd.R_mono (Kd.R_far (p := ⟨gb236, 4, none⟩) (Kd.R_far (p := ⟨gb236, 3, none⟩) (Kd.R_far (p := ⟨gb236, 2, none⟩) (Kd.R_far (p := ⟨gb236, 1, none⟩) (Kd.R_far (p := ⟨gb236, 0, none⟩) (Kd.R_types HO234.out BK236.out (by decide)) (fun _ hk => hk.2) (.slice Ao28 t223.length co28)) (fun _ hk => hk.2) (.slice Ao31 t226.length co31)) (fun _ hk => hk.2) (.slice Ao32 t229.length co32)) (fun _ hk => hk.2) (.slice Ao33 t232.length co33)) (fun _ hk => hk.2) (.int .i64 t235)) (fun _ h_ => h_.1))) hb); have n8_ := Aside0.mk (blk_below (g := gb207) (o := .cells #[.slice A0_0 l0_0.length c0_0, .slice A0_1 l0_1.length c0_1, .slice A0_2 l0_2.length c0_2, .slice A0_3 l0_3.length c0_3, .int .i64 a0_4] 25 (0, 0)) (by (with_reducible repeat (first | refine blk_drewN ?_ _ | refine blk_drew ?_ | refine blk_alloc ?_ _)); refine blk_far ?_ NB207_236.out _; (with_reducible repeat (first | refine blk_drewN ?_ _ | refine blk_drew ?_ | refine blk_alloc ?_ _)); refine blk_far ?_ NB207_236.out _; (with_reducible repeat (first | refine blk_drewN ?_ _ | refine blk_drew ?_ | refine blk_alloc ?_ _)); refine blk_far ?_ NB207_236.out _; (with_reducible repeat (first | refine blk_drewN ?_ _ | refine blk_drew ?_ | refine blk_alloc ?_ _)); refine blk_far ?_ NB207_236.out _; (with_reducible repeat (first | refine blk_drewN ?_ _ | refine blk_drew ?_ | refine blk_alloc ?_ _)); refine blk_far ?_ NB207_236.out _; (with_reducible repeat (first | refine blk_drewN ?_ _ | refine blk_drew ?_ | refine blk_alloc ?_ _)); exact BK207.out) hb); have n9_ := Aside0.mk (blk_below (g := gb236) (o := .cells #[.slice Ao28 t223.length co28, .slice Ao31 t226.length co31, .slice Ao32 t229.length co32, .slice Ao33 t232.length co33, .int .i64 t235] 30 (0, 0)) (by (with_reducible repeat (first | refine blk_drewN ?_ _ | refine blk_drew ?_ | refine blk_alloc ?_ _)); refine blk_put (cs := #[.slice Ao28 t223.length co28, .slice Ao31 t226.length co31, .slice Ao32 t229.length co32, .slice Ao33 t232.length co33, .int .i64 0]) ?_ 4 _ rfl; (with_reducible repeat (first | refine blk_drewN ?_ _ | refine blk_drew ?_ | refine blk_alloc ?_ _)); refine blk_put (cs := #[.slice Ao28 t223.length co28, .slice Ao31 t226.length co31, .slice Ao32 t229.length co32, .slice none 0 0, .int .i64 0]) ?_ 3 _ rfl; (with_reducible repeat (first | refine blk_drewN ?_ _ | refine blk_drew ?_ | refine blk_alloc ?_ _)); refine blk_put (cs := #[.slice Ao28 t223.length co28, .slice Ao31 t226.length co31, .slice none 0 0, .slice none 0 0, .int .i64 0]) ?_ 2 _ rfl; (with_reducible repeat (first | refine blk_drewN ?_ _ | refine blk_drew ?_ | refine blk_alloc ?_ _)); refine blk_put (cs := #[.slice Ao28 t223.length co28, .slice none 0 0, .slice none 0 0, .slice none 0 0, .int .i64 0]) ?_ 1 _ rfl; (with_reducible repeat (first | refine blk_drewN ?_ _ | refine blk_drew ?_ | refine blk_alloc ?_ _)); refine blk_put (cs := #[.slice none 0 0, .slice none 0 0, .slice none 0 0, .slice none 0 0, .int .i64 0]) ?_ 0 _ rfl; (with_reducible repeat (first | refine blk_drewN ?_ _ | refine blk_drew ?_ | refine blk_alloc ?_ _)); exact BK236.out) hb); have n10_ := Aside0.mk (below_step bS hb); clear HO211; clear HO214; clear HO217; clear HO220; clear HO225; clear HO228; clear HO231; clear HO234; clear BK207; clear BK236; clear HB; have HO211 := n0_; have HO214 := n1_; have HO217 := n2_; have HO220 := n3_; have HO225 := n4_; have HO228 := n5_; have HO231 := n6_; have HO234 := n7_; have BK207 := n8_; have BK236 := n9_; have HB := n10_; clear n0_ n1_ n2_ n3_ n4_ n5_ n6_ n7_ n8_ n9_ n10_; (try clear hb); (try clear hb2); (try clear hk); (try clear hi)))
    have n0_ := Aside0.mk (Kd.R_drew HO211.out)
    have n1_ := Aside0.mk (Kd.R_drew HO214.out)
    have n2_ := Aside0.mk (Kd.R_drew HO217.out)
    have n3_ := Aside0.mk (Kd.R_drew HO220.out)
    have n4_ := Aside0.mk (Kd.R_drew HO225.out)
    have n5_ := Aside0.mk (Kd.R_drew HO228.out)
    have n6_ := Aside0.mk (Kd.R_drew HO231.out)
    have n7_ := Aside0.mk (Kd.R_drew HO234.out)
    have n8_ := Aside0.mk (blk_drew BK207.out)
    have n9_ := Aside0.mk (blk_drew BK236.out)
    have n10_ := Aside0.mk (below_drew1 HB.out)
    clear HO211 HO214 HO217 HO220 HO225 HO228 HO231 HO234 BK207 BK236 HB
    have HO211 := n0_
    have HO214 := n1_
    have HO217 := n2_
    have HO220 := n3_
    have HO225 := n4_
    have HO228 := n5_
    have HO231 := n6_
    have HO234 := n7_
    have BK207 := n8_
    have BK236 := n9_
    have HB := n10_
    clear n0_ n1_ n2_ n3_ n4_ n5_ n6_ n7_ n8_ n9_ n10_
    refine start_ (n := 5) (S := fun w' => w'.cell? ⟨gb236, 0, none⟩ = some (.slice Ao28 t223.length co28) ∧ w'.cell? ⟨gb236, 1, none⟩ = some (.slice Ao31 t226.length co31) ∧ w'.cell? ⟨gb236, 2, none⟩ = some (.slice Ao32 t229.length co32) ∧ w'.cell? ⟨gb236, 3, none⟩ = some (.slice Ao33 t232.length co33) ∧ w'.cell? ⟨gb236, 4, none⟩ = some (.int .i64 t235) ∧ w'.cell? ⟨gb207, 0, none⟩ = some (.slice A0_0 l0_0.length c0_0) ∧ w'.cell? ⟨gb207, 1, none⟩ = some (.slice A0_1 l0_1.length c0_1) ∧ w'.cell? ⟨gb207, 2, none⟩ = some (.slice A0_2 l0_2.length c0_2) ∧ w'.cell? ⟨gb207, 3, none⟩ = some (.slice A0_3 l0_3.length c0_3) ∧ w'.cell? ⟨gb207, 4, none⟩ = some (.int .i64 a0_4)) (ds := []) #[false, false, false, false, false] (by kernel_rfl) rfl rfl ⟨(blk_cell BK236.out 0).trans rfl, (blk_cell BK236.out 1).trans rfl, (blk_cell BK236.out 2).trans rfl, (blk_cell BK236.out 3).trans rfl, (blk_cell BK236.out 4).trans rfl, (blk_cell BK207.out 0).trans rfl, (blk_cell BK207.out 1).trans rfl, (blk_cell BK207.out 2).trans rfl, (blk_cell BK207.out 3).trans rfl, (blk_cell BK207.out 4).trans rfl⟩ (fun hHeld => ?_)
    generalize w34.drew = w35 at HO211 HO214 HO217 HO220 HO225 HO228 HO231 HO234 BK207 BK236 HB hHeld ⊢
    refine take_ (i := 0) (N := some 22) (v := ?_) (a' := ?_) #[true, false, false, false, false] rfl rfl (by kernel_rfl) (fun _ _ _ h => h) (Or.inl ⟨by rfl, ?_⟩) hHeld ?_ ?_
    rotate_left
    ·rintro w' ⟨s0, s1, s2, s3, s4, s5, s6, s7, s8, s9⟩
     go_simp
     with_reducible rfl
    rotate_left
    ·simp only [Act.put, List.setIfInBounds_toArray, List.set_cons_zero, List.set_cons_succ, i64_w, i32_w]
     rfl
    refine take_ (i := 1) (N := some 23) (v := ?_) (a' := ?_) #[true, true, false, false, false] rfl rfl (by kernel_rfl) (fun _ _ _ h => h) (Or.inl ⟨by rfl, ?_⟩) hHeld ?_ ?_
    rotate_left
    ·rintro w' ⟨s0, s1, s2, s3, s4, s5, s6, s7, s8, s9⟩
     go_simp
     with_reducible rfl
    rotate_left
    ·simp only [Act.put, List.setIfInBounds_toArray, List.set_cons_zero, List.set_cons_succ, i64_w, i32_w]
     rfl
    refine one_ (i := 2) (N := some 24) #[true, true, true, false, false] rfl rfl (by kernel_rfl) (by decide) (fun K hK => ?_)
    refine goes_ Try.func12 (by kernel_rfl) rfl #[.agg #[.slice A0_0 l0_0.length c0_0, .slice A0_1 l0_1.length c0_1, .slice A0_2 l0_2.length c0_2, .slice A0_3 l0_3.length c0_3, .int .i64 a0_4]] (by rfl) rfl rfl eA ?_
    with_reducible refine (laws_toConfig.calls k _ _ l0_0 _ _ l0_1 _ _ l0_2 _ _ l0_3 a0_4 t238 t241 t244 t247 t250 _ ?side1 ?side2 ?side3 ?side4 ?side5 ?side6 ?side7 ?side8 A12.out).mono ?_
    (case side1 => repeat (first | exact (Kd.C_below HR0_0.out HB.out) | (with_reducible refine Kd.C_alloc ?_ _) | (with_reducible refine Kd.C_drewN ?_ _) | (with_reducible refine Kd.C_drew ?_)))
    (case side2 => exact HC0_0.out)
    (case side3 => repeat (first | exact (Kd.C_below HR0_1.out HB.out) | (with_reducible refine Kd.C_alloc ?_ _) | (with_reducible refine Kd.C_drewN ?_ _) | (with_reducible refine Kd.C_drew ?_)))
    (case side4 => exact HC0_1.out)
    (case side5 => repeat (first | exact (Kd.C_below HR0_2.out HB.out) | (with_reducible refine Kd.C_alloc ?_ _) | (with_reducible refine Kd.C_drewN ?_ _) | (with_reducible refine Kd.C_drew ?_)))
    (case side6 => exact HC0_2.out)
    (case side7 => repeat (first | exact (Kd.C_below HR0_3.out HB.out) | (with_reducible refine Kd.C_alloc ?_ _) | (with_reducible refine Kd.C_drewN ?_ _) | (with_reducible refine Kd.C_drew ?_)))
    (case side8 => exact HC0_3.out)
    rintro e w36 ⟨v239, v242, v245, v248, rfl, ho0, ho1, ho2, ho3, hb⟩
    refine ⟨_, rfl, ?_⟩
    have n0_ := Aside0.mk (Kd.R_mono (Kd.R_told (Kd.R_told (Kd.R_old (kR HO211.out) hb) (Kd.R_base ho0)) (Kd.R_base ho1)) (fun _ h_ => h_.1))
    have n1_ := Aside0.mk (Kd.R_mono (Kd.R_told (Kd.R_told (Kd.R_old (kR HO214.out) hb) (Kd.R_base ho0)) (Kd.R_base ho1)) (fun _ h_ => h_.1))
    have n2_ := Aside0.mk (Kd.R_mono (Kd.R_told (Kd.R_told (Kd.R_old (kR HO217.out) hb) (Kd.R_base ho2)) (Kd.R_base ho3)) (fun _ h_ => h_.1))
    have n3_ := Aside0.mk (Kd.R_mono (Kd.R_told (Kd.R_told (Kd.R_old (kR HO220.out) hb) (Kd.R_base ho2)) (Kd.R_base ho3)) (fun _ h_ => h_.1))
    have n4_ := Aside0.mk (Kd.R_mono (Kd.R_told (Kd.R_told (Kd.R_old (kR HO225.out) hb) (Kd.R_base ho0)) (Kd.R_base ho1)) (fun _ h_ => h_.1))
    have n5_ := Aside0.mk (Kd.R_mono (Kd.R_told (Kd.R_told (Kd.R_old (kR HO228.out) hb) (Kd.R_base ho0)) (Kd.R_base ho1)) (fun _ h_ => h_.1))
    have n6_ := Aside0.mk (Kd.R_mono (Kd.R_told (Kd.R_told (Kd.R_old (kR HO231.out) hb) (Kd.R_base ho2)) (Kd.R_base ho3)) (fun _ h_ => h_.1))
    have n7_ := Aside0.mk (Kd.R_mono (Kd.R_told (Kd.R_told (Kd.R_old (kR HO234.out) hb) (Kd.R_base ho2)) (Kd.R_base ho3)) (fun _ h_ => h_.1))
    have n8_ := Aside0.mk (Kd.R_lower (Kd.R_new' (Kd.R_new' (Kd.R_new' (Kd.R_new' ho0 (Kd.R_lt (kR HO211.out))) (Kd.R_lt (kR HO214.out))) (Kd.R_lt (kR HO225.out))) (Kd.R_lt (kR HO228.out))) (below_size bS))
    have n9_ := Aside0.mk (Kd.R_lower (Kd.R_new' (Kd.R_new' (Kd.R_new' (Kd.R_new' ho1 (Kd.R_lt (kR HO211.out))) (Kd.R_lt (kR HO214.out))) (Kd.R_lt (kR HO225.out))) (Kd.R_lt (kR HO228.out))) (below_size bS))
    have n10_ := Aside0.mk (Kd.R_lower (Kd.R_new' (Kd.R_new' (Kd.R_new' (Kd.R_new' ho2 (Kd.R_lt (kR HO217.out))) (Kd.R_lt (kR HO220.out))) (Kd.R_lt (kR HO231.out))) (Kd.R_lt (kR HO234.out))) (below_size bS))
    have n11_ := Aside0.mk (Kd.R_lower (Kd.R_new' (Kd.R_new' (Kd.R_new' (Kd.R_new' ho3 (Kd.R_lt (kR HO217.out))) (Kd.R_lt (kR HO220.out))) (Kd.R_lt (kR HO231.out))) (Kd.R_lt (kR HO234.out))) (below_size bS))
    have n12_ := Aside0.mk (blk_below (kB BK207.out) hb)
    have n13_ := Aside0.mk (blk_below (kB BK236.out) hb)
    have n14_ := Aside0.mk (below_step bS hb)
    clear HO211 HO214 HO217 HO220 HO225 HO228 HO231 HO234 BK207 BK236 HB
    have HO211 := n0_
    have HO214 := n1_
    have HO217 := n2_
    have HO220 := n3_
    have HO225 := n4_
    have HO228 := n5_
    have HO231 := n6_
    have HO234 := n7_
    have HO240 := n8_
    have HO243 := n9_
    have HO246 := n10_
    have HO249 := n11_
    have BK207 := n12_
    have BK236 := n13_
    have HB := n14_
    clear n0_ n1_ n2_ n3_ n4_ n5_ n6_ n7_ n8_ n9_ n10_ n11_ n12_ n13_ n14_
    (try clear hb)
    (try clear hb2)
    (try clear hk)
    (try clear hi)
    (try clear ho0)
    (try clear ho1)
    (try clear ho2)
    (try clear ho3)
    obtain ⟨Ao37, co37, eo37⟩ := Kd.R_slice HO240.out
    (first | subst eo37 | (injection eo37 with f1_ f2_ f3_; have f4_ := f1_.symm; have f5_ := f3_.symm; clear f1_ f2_ f3_; subst f4_; subst f5_))
    obtain ⟨Ao38, co38, eo38⟩ := Kd.R_slice HO243.out
    (first | subst eo38 | (injection eo38 with f1_ f2_ f3_; have f4_ := f1_.symm; have f5_ := f3_.symm; clear f1_ f2_ f3_; subst f4_; subst f5_))
    obtain ⟨Ao39, co39, eo39⟩ := Kd.R_slice HO246.out
    (first | subst eo39 | (injection eo39 with f1_ f2_ f3_; have f4_ := f1_.symm; have f5_ := f3_.symm; clear f1_ f2_ f3_; subst f4_; subst f5_))
    obtain ⟨Ao40, co40, eo40⟩ := Kd.R_slice HO249.out
    (first | subst eo40 | (injection eo40 with f1_ f2_ f3_; have f4_ := f1_.symm; have f5_ := f3_.symm; clear f1_ f2_ f3_; subst f4_; subst f5_))
    refine hK.out _ _ ⟨(blk_cell BK236.out 0).trans rfl, (blk_cell BK236.out 1).trans rfl, (blk_cell BK236.out 2).trans rfl, (blk_cell BK236.out 3).trans rfl, (blk_cell BK236.out 4).trans rfl, (blk_cell BK207.out 0).trans rfl, (blk_cell BK207.out 1).trans rfl, (blk_cell BK207.out 2).trans rfl, (blk_cell BK207.out 3).trans rfl, (blk_cell BK207.out 4).trans rfl⟩ (fun hHeld => ?_)
    clear hK K
    refine norm_ (a' := ?_) ?_ ?_
    rotate_left
    ·show Act.put _ (some 24) _ = _
     simp only [Act.put, List.setIfInBounds_toArray, List.set_cons_zero, List.set_cons_succ, i64_w, i32_w]
     rfl
    refine one_ (i := 3) (N := some 25) #[true, true, true, true, false] rfl rfl (by kernel_rfl) (by decide) (fun K hK => ?_)
    refine goes_ Try.func14 (by kernel_rfl) rfl #[.agg #[.slice Ao28 t223.length co28, .slice Ao31 t226.length co31, .slice Ao32 t229.length co32, .slice Ao33 t232.length co33, .int .i64 t235], .agg #[.slice Ao37 t238.length co37, .slice Ao38 t241.length co38, .slice Ao39 t244.length co39, .slice Ao40 t247.length co40, .int .i64 t250]] (by rfl) rfl rfl eA ?_
    with_reducible refine (laws_eqConfig.calls k _ _ t223 _ _ t226 _ _ t229 _ _ t232 t235 _ _ t238 _ _ t241 _ _ t244 _ _ t247 t250 true _ ?side1 ?side2 ?side3 ?side4 ?side5 ?side6 ?side7 ?side8 ?side9 ?side10 ?side11 ?side12 ?side13 ?side14 ?side15 ?side16 A13.out).mono ?_
    (case side1 => repeat (first | exact (Kd.R_reads' HO225.out).2.2 | (with_reducible refine Kd.C_alloc ?_ _) | (with_reducible refine Kd.C_drewN ?_ _) | (with_reducible refine Kd.C_drew ?_)))
    (case side2 => exact (Kd.R_reads' HO225.out).2.1)
    (case side3 => repeat (first | exact (Kd.R_reads' HO228.out).2.2 | (with_reducible refine Kd.C_alloc ?_ _) | (with_reducible refine Kd.C_drewN ?_ _) | (with_reducible refine Kd.C_drew ?_)))
    (case side4 => exact (Kd.R_reads' HO228.out).2.1)
    (case side5 => repeat (first | exact (Kd.R_reads' HO231.out).2.2 | (with_reducible refine Kd.C_alloc ?_ _) | (with_reducible refine Kd.C_drewN ?_ _) | (with_reducible refine Kd.C_drew ?_)))
    (case side6 => exact (Kd.R_reads' HO231.out).2.1)
    (case side7 => repeat (first | exact (Kd.R_reads' HO234.out).2.2 | (with_reducible refine Kd.C_alloc ?_ _) | (with_reducible refine Kd.C_drewN ?_ _) | (with_reducible refine Kd.C_drew ?_)))
    (case side8 => exact (Kd.R_reads' HO234.out).2.1)
    (case side9 => repeat (first | exact (Kd.R_reads' HO240.out).2.2 | (with_reducible refine Kd.C_alloc ?_ _) | (with_reducible refine Kd.C_drewN ?_ _) | (with_reducible refine Kd.C_drew ?_)))
    (case side10 => exact (Kd.R_reads' HO240.out).2.1)
    (case side11 => repeat (first | exact (Kd.R_reads' HO243.out).2.2 | (with_reducible refine Kd.C_alloc ?_ _) | (with_reducible refine Kd.C_drewN ?_ _) | (with_reducible refine Kd.C_drew ?_)))
    (case side12 => exact (Kd.R_reads' HO243.out).2.1)
    (case side13 => repeat (first | exact (Kd.R_reads' HO246.out).2.2 | (with_reducible refine Kd.C_alloc ?_ _) | (with_reducible refine Kd.C_drewN ?_ _) | (with_reducible refine Kd.C_drew ?_)))
    (case side14 => exact (Kd.R_reads' HO246.out).2.1)
    (case side15 => repeat (first | exact (Kd.R_reads' HO249.out).2.2 | (with_reducible refine Kd.C_alloc ?_ _) | (with_reducible refine Kd.C_drewN ?_ _) | (with_reducible refine Kd.C_drew ?_)))
    (case side16 => exact (Kd.R_reads' HO249.out).2.1)
    rintro e w41 ⟨rfl, hb⟩
    refine ⟨_, rfl, ?_⟩
    have n0_ := Aside0.mk (Kd.R_below (kR HO211.out) hb)
    have n1_ := Aside0.mk (Kd.R_below (kR HO214.out) hb)
    have n2_ := Aside0.mk (Kd.R_below (kR HO217.out) hb)
    have n3_ := Aside0.mk (Kd.R_below (kR HO220.out) hb)
    have n4_ := Aside0.mk (Kd.R_below (kR HO225.out) hb)
    have n5_ := Aside0.mk (Kd.R_below (kR HO228.out) hb)
    have n6_ := Aside0.mk (Kd.R_below (kR HO231.out) hb)
    have n7_ := Aside0.mk (Kd.R_below (kR HO234.out) hb)
    have n8_ := Aside0.mk (Kd.R_below (kR HO240.out) hb)
    have n9_ := Aside0.mk (Kd.R_below (kR HO243.out) hb)
    have n10_ := Aside0.mk (Kd.R_below (kR HO246.out) hb)
    have n11_ := Aside0.mk (Kd.R_below (kR HO249.out) hb)
    have n12_ := Aside0.mk (blk_below (kB BK207.out) hb)
    have n13_ := Aside0.mk (blk_below (kB BK236.out) hb)
    have n14_ := Aside0.mk (below_step bS hb)
    clear HO211 HO214 HO217 HO220 HO225 HO228 HO231 HO234 HO240 HO243 HO246 HO249 BK207 BK236 HB
    have HO211 := n0_
    have HO214 := n1_
    have HO217 := n2_
    have HO220 := n3_
    have HO225 := n4_
    have HO228 := n5_
    have HO231 := n6_
    have HO234 := n7_
    have HO240 := n8_
    have HO243 := n9_
    have HO246 := n10_
    have HO249 := n11_
    have BK207 := n12_
    have BK236 := n13_
    have HB := n14_
    clear n0_ n1_ n2_ n3_ n4_ n5_ n6_ n7_ n8_ n9_ n10_ n11_ n12_ n13_ n14_
    (try clear hb)
    (try clear hb2)
    (try clear hk)
    (try clear hi)
    refine hK.out _ _ ⟨(blk_cell BK236.out 0).trans rfl, (blk_cell BK236.out 1).trans rfl, (blk_cell BK236.out 2).trans rfl, (blk_cell BK236.out 3).trans rfl, (blk_cell BK236.out 4).trans rfl, (blk_cell BK207.out 0).trans rfl, (blk_cell BK207.out 1).trans rfl, (blk_cell BK207.out 2).trans rfl, (blk_cell BK207.out 3).trans rfl, (blk_cell BK207.out 4).trans rfl⟩ (fun hHeld => ?_)
    clear hK K
    refine norm_ (a' := ?_) ?_ ?_
    rotate_left
    ·show Act.put _ (some 25) _ = _
     simp only [Act.put, List.setIfInBounds_toArray, List.set_cons_zero, List.set_cons_succ, i64_w, i32_w]
     rfl
    refine pure_ (i := 4) (N := some 26) (v := ?_) (a' := ?_) #[true, true, true, true, true] rfl rfl (by kernel_rfl) (fun _ _ _ h => h) (Or.inl ⟨by rfl, ?_⟩) ?_ ?_
    rotate_left
    ·intro w'
     go_simp
     with_reducible rfl
    rotate_left
    ·simp only [Act.put, List.setIfInBounds_toArray, List.set_cons_zero, List.set_cons_succ, i64_w, i32_w]
     rfl
    refine done_ (by kernel_rfl) ?_
    try go_wp2
    go_ret
    exact ⟨eE, bS⟩
   ·replace c14 := Bool.eq_false_iff.mpr c14
    subst c14
    have H1 : (some false) = some r := by rw [if_neg (show ¬ (false = true) by decide)] at H; exact H
    clear H
    have H := H1
    clear H1
    rw [hr_true.out] at H
    exact absurd H (by simp)

end Go.Proofs.Ytmhjpnjolgigmaa.OFnExactConfigOk
-- halved
-- squeezed
