-- walks of this claim, written by a program of mine
import Derived.Test.YthlpfghlildllaaOFnExactBuildx0
import Derived.Test.YthlpfghlildllaaOFnExactBuildx4
import Derived.Test.YthlpfghlildllaaOFnExactBuildx10
import Derived.Test.YthlpfghlildllaaOFnExactBuildx11
namespace Go.Proofs.Ythlpfghlildllaa.OFnExactBuild
open Go.RowKit Go.Proofs.Ythlpfghlildllaa.OWord Go.Proofs.YthlpfghlildllaaW.PrintWords Go.Proofs.YthlpfghlildllaaW.PrintLast Go.Proofs.YthlpfghlildllaaW.PrintMore
attribute [local go_sem] max2_int min2_int max_two min_two max_three min_three max_four min_four   -- for this text's walks alone
set_option linter.unusedVariables false
set_option linter.unusedSimpArgs false

/-! ### laws_FnExactBuild: function 6 -/
def laws_FnExactBuild.f (k : Nat) (l0_0 : List ByteArray) (l0_1 : List Int) (a1 : ByteArray) : Option (Bool) := if (a1.size : Int) > 1048576 then (some true) else ((laws_szKnown.f k l0_0 l0_1 1048576).bind fun t321 => (if t321 < 0 then (some true) else ((laws_toKnown.f k l0_0 l0_1).bind fun bt322 => ((spec_Build.f k bt322.1 bt322.2 a1).bind fun t328 => ((laws_toKnown.f k l0_0 l0_1).bind fun bt329 => ((impl_Build.f k bt329.1 bt329.2 a1).bind fun t336 => (if (t336 != t328) = true then (some false) else ((laws_toKnown.f k l0_0 l0_1).bind fun bt337 => ((laws_eqKnown.f k bt329.1 bt329.2 bt337.1 bt337.2).bind fun t343 => (if t343 = true then (some true) else (some false)))))))))))
set_option maxHeartbeats 8000000 in
set_option maxRecDepth 100000 in
theorem laws_FnExactBuild.calls (k : Nat) (A0_0 : Option Addr) (c0_0 : Nat) (l0_0 : List ByteArray) (A0_1 : Option Addr) (c0_1 : Nat) (l0_1 : List Int) (a1 : ByteArray) (r : Bool) (w : World) (hr0_0 : Kd.C Kd.string w A0_0 l0_0.length l0_0) (hc0_0 : l0_0.length ≤ c0_0) (hr0_1 : Kd.C (Kd.int .i64) w A0_1 l0_1.length l0_1) (hc0_1 : l0_1.length ≤ c0_1) (h : laws_FnExactBuild.f k l0_0 l0_1 a1 = some r) (hr_true : Aside0 (r = true)) :
  Calls Try.prog 6 #[.agg #[.slice A0_0 l0_0.length c0_0, .slice A0_1 l0_1.length c0_1], .string a1] w fun e w' => e = .returned (.bool r) ∧ Below w.heap.size w w' := by
 have hu42 := Try.underlying42
 have hu27 := Try.underlying27
 have HR0_0 := Aside0.mk hr0_0
 have HC0_0 := Aside0.mk hc0_0
 clear hr0_0 hc0_0
 have HR0_1 := Aside0.mk hr0_1
 have HC0_1 := Aside0.mk hc0_1
 clear hr0_1 hc0_1
 have HB := Aside0.mk (Below.refl w.heap.size w)
 have H : (if (a1.size : Int) > 1048576 then (some true) else ((laws_szKnown.f k l0_0 l0_1 1048576).bind fun t321 => (if t321 < 0 then (some true) else ((laws_toKnown.f k l0_0 l0_1).bind fun bt322 => ((spec_Build.f k bt322.1 bt322.2 a1).bind fun t328 => ((laws_toKnown.f k l0_0 l0_1).bind fun bt329 => ((impl_Build.f k bt329.1 bt329.2 a1).bind fun t336 => (if (t336 != t328) = true then (some false) else ((laws_toKnown.f k l0_0 l0_1).bind fun bt337 => ((laws_eqKnown.f k bt329.1 bt329.2 bt337.1 bt337.2).bind fun t343 => (if t343 = true then (some true) else (some false)))))))))))) = some r := h
 clear h
 by_cases c3 : (a1.size : Int) > 1048576
 ·rw [if_pos c3] at H
  have c3b0 : decide (1048576 < (a1.size : Int)) = true := decide_eq_true c3
  have c3b1 : decide (1048576 < a1.size) = true := decide_eq_true (by omega)
  clear c3
  obtain rfl := Option.some.inj H
  go_enter Try.func6, Try.ntmps6
  go_wp2_with (first | ((with_reducible refine gate_dst (N := 2) rfl ?_); refine box_event ?hg (N := 2) ?hd (cs := #[.slice A0_0 l0_0.length c0_0, .slice A0_1 l0_1.length c0_1]) (t := 42) ?hr ?_; (case hd => rfl); (case hg => rfl); (case hr => first | (go_simp; done) | (go_simp; rfl)); intro gb320 hg w4 hbox hb; have n0_ := Aside0.mk (below_step bH hb); have n1_ := Aside0.mk (hbox); have n2_ := Aside0.mk ((bZ hg : w.heap.size ≤ gb320)); have n3_ := Aside0.mk ((bZ hg : w.heap.size ≤ gb320)); clear HB; have HB := n0_; have BK320 := n1_; have GW320 := n2_; have GE320 := n3_; clear n0_ n1_ n2_ n3_; clear hb hbox hg))
  go_ret
  exact ⟨eE, bS⟩
 ·rw [if_neg c3] at H
  have c3b0 : decide (1048576 < (a1.size : Int)) = false := decide_eq_false c3
  have c3b1 : decide (1048576 < a1.size) = false := decide_eq_false (by omega)
  clear c3
  replace H := Option.bind_eq_some_iff.mp H
  obtain ⟨t321, A50, H⟩ := H
  replace H : (if t321 < 0 then (some true) else ((laws_toKnown.f k l0_0 l0_1).bind fun bt322 => ((spec_Build.f k bt322.1 bt322.2 a1).bind fun t328 => ((laws_toKnown.f k l0_0 l0_1).bind fun bt329 => ((impl_Build.f k bt329.1 bt329.2 a1).bind fun t336 => (if (t336 != t328) = true then (some false) else ((laws_toKnown.f k l0_0 l0_1).bind fun bt337 => ((laws_eqKnown.f k bt329.1 bt329.2 bt337.1 bt337.2).bind fun t343 => (if t343 = true then (some true) else (some false)))))))))) = some r := H
  have A5 := Aside0.mk A50
  clear A50
  by_cases c6 : t321 < 0
  ·rw [if_pos c6] at H
   have c6b0 : decide (t321 < 0) = true := decide_eq_true c6
   clear c6
   obtain rfl := Option.some.inj H
   go_enter Try.func6, Try.ntmps6
   go_wp2_with (first | ((with_reducible refine gate_dst (N := 2) rfl ?_); refine box_event ?hg (N := 2) ?hd (cs := #[.slice A0_0 l0_0.length c0_0, .slice A0_1 l0_1.length c0_1]) (t := 42) ?hr ?_; (case hd => rfl); (case hg => rfl); (case hr => first | (go_simp; done) | (go_simp; rfl)); intro gb320 hg w7 hbox hb; have n0_ := Aside0.mk (below_step bH hb); have n1_ := Aside0.mk (hbox); have n2_ := Aside0.mk ((bZ hg : w.heap.size ≤ gb320)); have n3_ := Aside0.mk ((bZ hg : w.heap.size ≤ gb320)); clear HB; have HB := n0_; have BK320 := n1_; have GW320 := n2_; have GE320 := n3_; clear n0_ n1_ n2_ n3_; clear hb hbox hg; have hcz8_0 : w7.cell? ⟨gb320, 0, none⟩ = some (.slice A0_0 l0_0.length c0_0) := (blk_cell BK320.out 0).trans rfl; have hcz8_1 : w7.cell? ⟨gb320, 1, none⟩ = some (.slice A0_1 l0_1.length c0_1) := (blk_cell BK320.out 1).trans rfl; have hfz8_0 := blk_frozen BK320.out 0; have hfz8_1 := blk_frozen BK320.out 1) | ((with_reducible refine gate_callee (f := 27) rfl ?_); refine goesL_ (some 14) rfl rfl Try.func27 (by kernel_rfl) rfl #[.agg #[.slice A0_0 l0_0.length c0_0, .slice A0_1 l0_1.length c0_1], .int .i64 1048576] rfl eA ?_; (with_reducible refine (laws_szKnown.calls k _ _ l0_0 _ _ l0_1 1048576 t321 _ ?side1 ?side2 ?side3 ?side4 A5.out).mono ?_); (case side1 => repeat (first | exact (Kd.C_below HR0_0.out HB.out) | (with_reducible refine Kd.C_alloc ?_ _) | (with_reducible refine Kd.C_drewN ?_ _) | (with_reducible refine Kd.C_drew ?_))); (case side2 => exact HC0_0.out); (case side3 => repeat (first | exact (Kd.C_below HR0_1.out HB.out) | (with_reducible refine Kd.C_alloc ?_ _) | (with_reducible refine Kd.C_drewN ?_ _) | (with_reducible refine Kd.C_drew ?_))); (case side4 => exact HC0_1.out); rintro e w9 ⟨rfl, hb⟩; refine ⟨_, rfl, ?_⟩; have n0_ := Aside0.mk (blk_below (kB BK320.out) hb); have n1_ := Aside0.mk (below_step bS hb); clear BK320; clear HB; have BK320 := n0_; have HB := n1_; clear n0_ n1_; (try clear hb); (try clear hb2); (try clear hk); (try clear hi)))
   go_ret
   exact ⟨eE, bS⟩
  ·rw [if_neg c6] at H
   have c6b0 : decide (t321 < 0) = false := decide_eq_false c6
   clear c6
   replace H := Option.bind_eq_some_iff.mp H
   obtain ⟨⟨t322, t325⟩, A100, H⟩ := H
   replace H : ((spec_Build.f k t322 t325 a1).bind fun t328 => ((laws_toKnown.f k l0_0 l0_1).bind fun bt329 => ((impl_Build.f k bt329.1 bt329.2 a1).bind fun t336 => (if (t336 != t328) = true then (some false) else ((laws_toKnown.f k l0_0 l0_1).bind fun bt337 => ((laws_eqKnown.f k bt329.1 bt329.2 bt337.1 bt337.2).bind fun t343 => (if t343 = true then (some true) else (some false)))))))) = some r := H
   have A10 := Aside0.mk A100
   clear A100
   replace H := Option.bind_eq_some_iff.mp H
   obtain ⟨t328, A110, H⟩ := H
   replace H : ((laws_toKnown.f k l0_0 l0_1).bind fun bt329 => ((impl_Build.f k bt329.1 bt329.2 a1).bind fun t336 => (if (t336 != t328) = true then (some false) else ((laws_toKnown.f k l0_0 l0_1).bind fun bt337 => ((laws_eqKnown.f k bt329.1 bt329.2 bt337.1 bt337.2).bind fun t343 => (if t343 = true then (some true) else (some false))))))) = some r := H
   have A11 := Aside0.mk A110
   clear A110
   replace H := Option.bind_eq_some_iff.mp H
   obtain ⟨⟨t329, t332⟩, A120, H⟩ := H
   replace H : ((impl_Build.f k t329 t332 a1).bind fun t336 => (if (t336 != t328) = true then (some false) else ((laws_toKnown.f k l0_0 l0_1).bind fun bt337 => ((laws_eqKnown.f k t329 t332 bt337.1 bt337.2).bind fun t343 => (if t343 = true then (some true) else (some false)))))) = some r := H
   have A12 := Aside0.mk A120
   clear A120
   replace H := Option.bind_eq_some_iff.mp H
   obtain ⟨t336, A130, H⟩ := H
   replace H : (if (t336 != t328) = true then (some false) else ((laws_toKnown.f k l0_0 l0_1).bind fun bt337 => ((laws_eqKnown.f k t329 t332 bt337.1 bt337.2).bind fun t343 => (if t343 = true then (some true) else (some false))))) = some r := H
   have A13 := Aside0.mk A130
   clear A130
   by_cases c14 : (t336 != t328) = true
   ·rw [if_pos c14] at H
    have c14b0 : (t336 != t328) = true := c14
    (try (have c14b1 : decide (t336 = t328) = false := by simpa using c14))
    (try (have c14b2 : (t336 == t328) = false := by simpa using c14))
    (try (have c14b3 : ¬ (t336 = t328) := by simpa using c14))
    clear c14
    rw [hr_true.out] at H
    exact absurd H (by simp)
   ·rw [if_neg c14] at H
    have c14b0 : (t336 != t328) = false := by simpa using c14
    (try (have c14b1 : decide (t336 = t328) = true := by simpa using c14))
    (try (have c14b2 : (t336 == t328) = true := by simpa using c14))
    clear c14
    replace H := Option.bind_eq_some_iff.mp H
    obtain ⟨⟨t337, t340⟩, A150, H⟩ := H
    replace H : ((laws_eqKnown.f k t329 t332 t337 t340).bind fun t343 => (if t343 = true then (some true) else (some false))) = some r := H
    have A15 := Aside0.mk A150
    clear A150
    replace H := Option.bind_eq_some_iff.mp H
    obtain ⟨t343, A160, H⟩ := H
    replace H : (if t343 = true then (some true) else (some false)) = some r := H
    have A16 := Aside0.mk A160
    clear A160
    by_cases c17 : t343 = true
    ·subst c17
     have H1 : (some true) = some r := by rw [if_pos rfl] at H; exact H
     clear H
     have H := H1
     clear H1
     obtain rfl := Option.some.inj H
     go_enter Try.func6, Try.ntmps6
     try go_wp2_with (first | ((with_reducible refine gate_dst (N := 2) rfl ?_); refine box_event ?hg (N := 2) ?hd (cs := #[.slice A0_0 l0_0.length c0_0, .slice A0_1 l0_1.length c0_1]) (t := 42) ?hr ?_; (case hd => rfl); (case hg => rfl); (case hr => first | (go_simp; done) | (go_simp; rfl)); intro gb320 hg w18 hbox hb; have n0_ := Aside0.mk (below_step bH hb); have n1_ := Aside0.mk (hbox); have n2_ := Aside0.mk ((bZ hg : w.heap.size ≤ gb320)); have n3_ := Aside0.mk ((bZ hg : w.heap.size ≤ gb320)); clear HB; have HB := n0_; have BK320 := n1_; have GW320 := n2_; have GE320 := n3_; clear n0_ n1_ n2_ n3_; clear hb hbox hg; have hcz19_0 : w18.cell? ⟨gb320, 0, none⟩ = some (.slice A0_0 l0_0.length c0_0) := (blk_cell BK320.out 0).trans rfl; have hcz19_1 : w18.cell? ⟨gb320, 1, none⟩ = some (.slice A0_1 l0_1.length c0_1) := (blk_cell BK320.out 1).trans rfl; have hfz19_0 := blk_frozen BK320.out 0; have hfz19_1 := blk_frozen BK320.out 1) | ((with_reducible refine gate_callee (f := 27) rfl ?_); refine goesL_ (some 14) rfl rfl Try.func27 (by kernel_rfl) rfl #[.agg #[.slice A0_0 l0_0.length c0_0, .slice A0_1 l0_1.length c0_1], .int .i64 1048576] rfl eA ?_; (with_reducible refine (laws_szKnown.calls k _ _ l0_0 _ _ l0_1 1048576 t321 _ ?side1 ?side2 ?side3 ?side4 A5.out).mono ?_); (case side1 => repeat (first | exact (Kd.C_below HR0_0.out HB.out) | (with_reducible refine Kd.C_alloc ?_ _) | (with_reducible refine Kd.C_drewN ?_ _) | (with_reducible refine Kd.C_drew ?_))); (case side2 => exact HC0_0.out); (case side3 => repeat (first | exact (Kd.C_below HR0_1.out HB.out) | (with_reducible refine Kd.C_alloc ?_ _) | (with_reducible refine Kd.C_drewN ?_ _) | (with_reducible refine Kd.C_drew ?_))); (case side4 => exact HC0_1.out); rintro e w20 ⟨rfl, hb⟩; refine ⟨_, rfl, ?_⟩; have n0_ := Aside0.mk (blk_below (kB BK320.out) hb); have n1_ := Aside0.mk (below_step bS hb); clear BK320; clear HB; have BK320 := n0_; have HB := n1_; clear n0_ n1_; (try clear hb); (try clear hb2); (try clear hk); (try clear hi); have hcz21_0 : w20.cell? ⟨gb320, 0, none⟩ = some (.slice A0_0 l0_0.length c0_0) := (blk_cell BK320.out 0).trans rfl; have hcz21_1 : w20.cell? ⟨gb320, 1, none⟩ = some (.slice A0_1 l0_1.length c0_1) := (blk_cell BK320.out 1).trans rfl; have hfz21_0 := blk_frozen BK320.out 0; have hfz21_1 := blk_frozen BK320.out 1) | ((with_reducible refine gate_callee (f := 28) rfl ?_); refine goesL_ (some 18) rfl rfl Try.func28 (by kernel_rfl) rfl #[.agg #[.slice A0_0 l0_0.length c0_0, .slice A0_1 l0_1.length c0_1]] rfl eA ?_; (with_reducible refine (laws_toKnown.calls k _ _ l0_0 _ _ l0_1 t322 t325 _ ?side1 ?side2 ?side3 ?side4 A10.out).mono ?_); (case side1 => repeat (first | exact (Kd.C_below HR0_0.out HB.out) | (with_reducible refine Kd.C_alloc ?_ _) | (with_reducible refine Kd.C_drewN ?_ _) | (with_reducible refine Kd.C_drew ?_))); (case side2 => exact HC0_0.out); (case side3 => repeat (first | exact (Kd.C_below HR0_1.out HB.out) | (with_reducible refine Kd.C_alloc ?_ _) | (with_reducible refine Kd.C_drewN ?_ _) | (with_reducible refine Kd.C_drew ?_))); (case side4 => exact HC0_1.out); rintro e w22 ⟨v323, v326, rfl, ho0, ho1, hb⟩; refine ⟨_, rfl, ?_⟩; have n0_ := Aside0.mk (Kd.R_lower ho0 (below_size bS)); have n1_ := Aside0.mk (Kd.R_lower ho1 (below_size bS)); have n2_ := Aside0.mk (blk_below (kB BK320.out) hb); have n3_ := Aside0.mk (below_step bS hb); clear BK320; clear HB; have HO324 := n0_; have HO327 := n1_; have BK320 := n2_; have HB := n3_; clear n0_ n1_ n2_ n3_; (try clear hb); (try clear hb2); (try clear hk); (try clear hi); (try clear ho0); (try clear ho1); obtain ⟨Ao23, co23, eo23⟩ := Kd.R_slice HO324.out; subst eo23; obtain ⟨Ao24, co24, eo24⟩ := Kd.R_slice HO327.out; subst eo24) | ((with_reducible refine gate_callee (f := 18) rfl ?_); refine goesL_ (some 20) rfl rfl Try.func18 (by kernel_rfl) rfl #[.agg #[.slice Ao23 t322.length co23, .slice Ao24 t325.length co24], .string a1] rfl eA ?_; (with_reducible refine (spec_Build.calls k _ _ t322 _ _ t325 a1 t328 _ ?side1 ?side2 ?side3 ?side4 A11.out).mono ?_); (case side1 => repeat (first | exact (Kd.R_reads' HO324.out).2.2 | (with_reducible refine Kd.C_alloc ?_ _) | (with_reducible refine Kd.C_drewN ?_ _) | (with_reducible refine Kd.C_drew ?_))); (case side2 => exact (Kd.R_reads' HO324.out).2.1); (case side3 => repeat (first | exact (Kd.R_reads' HO327.out).2.2 | (with_reducible refine Kd.C_alloc ?_ _) | (with_reducible refine Kd.C_drewN ?_ _) | (with_reducible refine Kd.C_drew ?_))); (case side4 => exact (Kd.R_reads' HO327.out).2.1); rintro e w25 ⟨rfl, hb⟩; refine ⟨_, rfl, ?_⟩; have n0_ := Aside0.mk (Kd.R_below (kR HO324.out) hb); have n1_ := Aside0.mk (Kd.R_below (kR HO327.out) hb); have n2_ := Aside0.mk (blk_below (kB BK320.out) hb); have n3_ := Aside0.mk (below_step bS hb); clear HO324; clear HO327; clear BK320; clear HB; have HO324 := n0_; have HO327 := n1_; have BK320 := n2_; have HB := n3_; clear n0_ n1_ n2_ n3_; (try clear hb); (try clear hb2); (try clear hk); (try clear hi); have hcz26_0 : w25.cell? ⟨gb320, 0, none⟩ = some (.slice A0_0 l0_0.length c0_0) := (blk_cell BK320.out 0).trans rfl; have hcz26_1 : w25.cell? ⟨gb320, 1, none⟩ = some (.slice A0_1 l0_1.length c0_1) := (blk_cell BK320.out 1).trans rfl; have hfz26_0 := blk_frozen BK320.out 0; have hfz26_1 := blk_frozen BK320.out 1) | ((with_reducible refine gate_callee (f := 28) rfl ?_); refine goesL_ (some 22) rfl rfl Try.func28 (by kernel_rfl) rfl #[.agg #[.slice A0_0 l0_0.length c0_0, .slice A0_1 l0_1.length c0_1]] rfl eA ?_; (with_reducible refine (laws_toKnown.calls k _ _ l0_0 _ _ l0_1 t329 t332 _ ?side1 ?side2 ?side3 ?side4 A12.out).mono ?_); (case side1 => repeat (first | exact (Kd.C_below HR0_0.out HB.out) | (with_reducible refine Kd.C_alloc ?_ _) | (with_reducible refine Kd.C_drewN ?_ _) | (with_reducible refine Kd.C_drew ?_))); (case side2 => exact HC0_0.out); (case side3 => repeat (first | exact (Kd.C_below HR0_1.out HB.out) | (with_reducible refine Kd.C_alloc ?_ _) | (with_reducible refine Kd.C_drewN ?_ _) | (with_reducible refine Kd.C_drew ?_))); (case side4 => exact HC0_1.out); rintro e w27 ⟨v330, v333, rfl, ho0, ho1, hb⟩; refine ⟨_, rfl, ?_⟩; have n0_ := Aside0.mk (Kd.R_elder' (kR HO324.out) (Kd.R_base ho0) hb); have n1_ := Aside0.mk (Kd.R_elder' (kR HO327.out) (Kd.R_base ho1) hb); have n2_ := Aside0.mk (Kd.R_lower (Kd.R_new' ho0 (Kd.R_lt (kR HO324.out))) (below_size bS)); have n3_ := Aside0.mk (Kd.R_lower (Kd.R_new' ho1 (Kd.R_lt (kR HO327.out))) (below_size bS)); have n4_ := Aside0.mk (blk_below (kB BK320.out) hb); have n5_ := Aside0.mk (below_step bS hb); clear HO324; clear HO327; clear BK320; clear HB; have HO324 := n0_; have HO327 := n1_; have HO331 := n2_; have HO334 := n3_; have BK320 := n4_; have HB := n5_; clear n0_ n1_ n2_ n3_ n4_ n5_; (try clear hb); (try clear hb2); (try clear hk); (try clear hi); (try clear ho0); (try clear ho1)) | ((with_reducible refine gate_dst (N := 7) rfl ?_); refine box_event ?hg (N := 7) ?hd (cs := #[.slice none 0 0, .slice none 0 0]) (t := 27) ?hr ?_; (case hd => rfl); (case hg => rfl); (case hr => first | (go_simp; done) | (go_simp; rfl)); intro gb335 hg w28 hbox hb; have n0_ := Aside0.mk (Kd.R_below (kR HO324.out) hb); have n1_ := Aside0.mk (Kd.R_below (kR HO327.out) hb); have n2_ := Aside0.mk (Kd.R_below (kR HO331.out) hb); have n3_ := Aside0.mk (Kd.R_below (kR HO334.out) hb); have n4_ := Aside0.mk (blk_below (kB BK320.out) hb); have n5_ := Aside0.mk (below_step bS hb); have n6_ := Aside0.mk (hbox); have n7_ := Aside0.mk ((bZ hg : w.heap.size ≤ gb335)); have n8_ := Aside0.mk ((bZ hg : w.heap.size ≤ gb335)); have n9_ := Aside0.mk ((nL hg BK320.out : gb320 ≠ gb335)); have n10_ := Aside0.mk ((nG hg BK320.out : gb335 ≠ gb320)); clear HO324; clear HO327; clear HO331; clear HO334; clear BK320; clear HB; have HO324 := n0_; have HO327 := n1_; have HO331 := n2_; have HO334 := n3_; have BK320 := n4_; have HB := n5_; have BK335 := n6_; have GW335 := n7_; have GE335 := n8_; have NB320_335 := n9_; have NB335_320 := n10_; clear n0_ n1_ n2_ n3_ n4_ n5_ n6_ n7_ n8_ n9_ n10_; clear hb hbox hg; obtain ⟨Ao29, co29, eo29⟩ := Kd.R_slice HO331.out; subst eo29; have hnb30 := NB335_320.out; have hnc30 := NB320_335.out; have hcz31_0 : w28.cell? ⟨gb335, 0, none⟩ = some (.slice none 0 0) := (blk_cell BK335.out 0).trans rfl; have hcz31_1 : w28.cell? ⟨gb335, 1, none⟩ = some (.slice none 0 0) := (blk_cell BK335.out 1).trans rfl; have hfz31_0 := blk_frozen BK335.out 0; have hfz31_1 := blk_frozen BK335.out 1; obtain ⟨Ao32, co32, eo32⟩ := Kd.R_slice HO334.out; subst eo32) | ((with_reducible refine gate_callee (f := 13) rfl ?_); refine goesL_ (some 25) rfl rfl Try.func13 (by kernel_rfl) rfl #[.agg #[.slice Ao29 t329.length co29, .slice Ao32 t332.length co32], .string a1] rfl eA ?_; (with_reducible refine (impl_Build.calls k _ _ t329 _ _ t332 a1 t336 _ ?side1 ?side2 ?side3 ?side4 A13.out).mono ?_); (case side1 => refine (Kd.R_reads' (e := 9) (base := w.heap.size) (ok := fun k_ => (True ∧ some k_ ≠ (.slice Ao23 t322.length co23 : Value).ownBlock)) (n := t329.length) (c := co29) ?_).2.2; exact (rF2 HO331.out BK335.out)); (case side2 => exact (Kd.R_reads' HO331.out).2.1); (case side3 => refine (Kd.R_reads' (e := 3) (base := w.heap.size) (ok := fun k_ => (True ∧ some k_ ≠ (.slice Ao24 t325.length co24 : Value).ownBlock)) (n := t332.length) (c := co32) ?_).2.2; exact (rF2 HO334.out BK335.out)); (case side4 => exact (Kd.R_reads' HO334.out).2.1); rintro e w33 ⟨rfl, hb⟩; refine ⟨_, rfl, ?_⟩; have n0_ := Aside0.mk (Kd.R_below (rF2 HO324.out BK335.out) hb); have n1_ := Aside0.mk (Kd.R_below (rF2 HO327.out BK335.out) hb); have n2_ := Aside0.mk (Kd.R_below (rF2 HO331.out BK335.out) hb); have n3_ := Aside0.mk (Kd.R_below (rF2 HO334.out BK335.out) hb); have n4_ := Aside0.mk (blk_below (g := gb320) (o := .cells #[.slice A0_0 l0_0.length c0_0, .slice A0_1 l0_1.length c0_1] 42 (0, 0)) (kF2 NB320_335.out BK320.out) hb); have n5_ := Aside0.mk (blk_below (g := gb335) (o := .cells #[.slice Ao29 t329.length co29, .slice Ao32 t332.length co32] 27 (0, 0)) (by (with_reducible repeat (first | refine blk_drewN ?_ _ | refine blk_drew ?_ | refine blk_alloc ?_ _)); refine blk_put (cs := #[.slice Ao29 t329.length co29, .slice none 0 0]) ?_ 1 _ rfl; (with_reducible repeat (first | refine blk_drewN ?_ _ | refine blk_drew ?_ | refine blk_alloc ?_ _)); refine blk_put (cs := #[.slice none 0 0, .slice none 0 0]) ?_ 0 _ rfl; (with_reducible repeat (first | refine blk_drewN ?_ _ | refine blk_drew ?_ | refine blk_alloc ?_ _)); exact BK335.out) hb); have n6_ := Aside0.mk (below_step bS hb); clear HO324; clear HO327; clear HO331; clear HO334; clear BK320; clear BK335; clear HB; have HO324 := n0_; have HO327 := n1_; have HO331 := n2_; have HO334 := n3_; have BK320 := n4_; have BK335 := n5_; have HB := n6_; clear n0_ n1_ n2_ n3_ n4_ n5_ n6_; (try clear hb); (try clear hb2); (try clear hk); (try clear hi)))
     have n0_ := Aside0.mk (Kd.R_drew HO324.out)
     have n1_ := Aside0.mk (Kd.R_drew HO327.out)
     have n2_ := Aside0.mk (Kd.R_drew HO331.out)
     have n3_ := Aside0.mk (Kd.R_drew HO334.out)
     have n4_ := Aside0.mk (blk_drew BK320.out)
     have n5_ := Aside0.mk (blk_drew BK335.out)
     have n6_ := Aside0.mk (below_drew1 HB.out)
     clear HO324 HO327 HO331 HO334 BK320 BK335 HB
     have HO324 := n0_
     have HO327 := n1_
     have HO331 := n2_
     have HO334 := n3_
     have BK320 := n4_
     have BK335 := n5_
     have HB := n6_
     clear n0_ n1_ n2_ n3_ n4_ n5_ n6_
     refine start_ (n := 5) (S := fun w' => w'.cell? ⟨gb335, 0, none⟩ = some (.slice Ao29 t329.length co29) ∧ w'.cell? ⟨gb335, 1, none⟩ = some (.slice Ao32 t332.length co32) ∧ w'.cell? ⟨gb320, 0, none⟩ = some (.slice A0_0 l0_0.length c0_0) ∧ w'.cell? ⟨gb320, 1, none⟩ = some (.slice A0_1 l0_1.length c0_1)) (ds := []) _ (by kernel_rfl) rfl rfl ⟨(blk_cell BK335.out 0).trans rfl, (blk_cell BK335.out 1).trans rfl, (blk_cell BK320.out 0).trans rfl, (blk_cell BK320.out 1).trans rfl⟩ (fun hHeld => ?_)
     generalize w33.drew = w34 at HO324 HO327 HO331 HO334 BK320 BK335 HB hHeld ⊢
     refine take_ (i := 0) (N := some 29) (v := ?_) (a' := ?_) (mk 5 1) rfl rfl (by kernel_rfl) (fun _ _ _ h => h) (Or.inl ⟨by rfl, ?_⟩) hHeld ?_ ?_
     rotate_left
     ·rintro w' ⟨s0, s1, s2, s3⟩
      go_simp
      with_reducible rfl
     rotate_left
     ·simp only [Act.put, List.setIfInBounds_toArray, List.set_cons_zero, List.set_cons_succ, i64_w, i32_w]
      rfl
     refine take_ (i := 1) (N := some 30) (v := ?_) (a' := ?_) (mk 5 3) rfl rfl (by kernel_rfl) (fun _ _ _ h => h) (Or.inl ⟨by rfl, ?_⟩) hHeld ?_ ?_
     rotate_left
     ·rintro w' ⟨s0, s1, s2, s3⟩
      go_simp
      with_reducible rfl
     rotate_left
     ·simp only [Act.put, List.setIfInBounds_toArray, List.set_cons_zero, List.set_cons_succ, i64_w, i32_w]
      rfl
     refine one_ (i := 2) (N := some 31) (mk 5 7) rfl rfl (by kernel_rfl) (by decide) (fun K hK => ?_)
     refine goes_ Try.func28 (by kernel_rfl) rfl #[.agg #[.slice A0_0 l0_0.length c0_0, .slice A0_1 l0_1.length c0_1]] (by rfl) rfl rfl eA ?_
     with_reducible refine (laws_toKnown.calls k _ _ l0_0 _ _ l0_1 t337 t340 _ ?side1 ?side2 ?side3 ?side4 A15.out).mono ?_
     (case side1 => repeat (first | exact (Kd.C_below HR0_0.out HB.out) | (with_reducible refine Kd.C_alloc ?_ _) | (with_reducible refine Kd.C_drewN ?_ _) | (with_reducible refine Kd.C_drew ?_)))
     (case side2 => exact HC0_0.out)
     (case side3 => repeat (first | exact (Kd.C_below HR0_1.out HB.out) | (with_reducible refine Kd.C_alloc ?_ _) | (with_reducible refine Kd.C_drewN ?_ _) | (with_reducible refine Kd.C_drew ?_)))
     (case side4 => exact HC0_1.out)
     rintro e w35 ⟨v338, v341, rfl, ho0, ho1, hb⟩
     refine ⟨_, rfl, ?_⟩
     have n0_ := Aside0.mk (Kd.R_elder' (kR HO324.out) (Kd.R_base ho0) hb)
     have n1_ := Aside0.mk (Kd.R_elder' (kR HO327.out) (Kd.R_base ho1) hb)
     have n2_ := Aside0.mk (Kd.R_elder' (kR HO331.out) (Kd.R_base ho0) hb)
     have n3_ := Aside0.mk (Kd.R_elder' (kR HO334.out) (Kd.R_base ho1) hb)
     have n4_ := Aside0.mk (Kd.R_lower (Kd.R_new' (Kd.R_new' ho0 (Kd.R_lt (kR HO324.out))) (Kd.R_lt (kR HO331.out))) (below_size bS))
     have n5_ := Aside0.mk (Kd.R_lower (Kd.R_new' (Kd.R_new' ho1 (Kd.R_lt (kR HO327.out))) (Kd.R_lt (kR HO334.out))) (below_size bS))
     have n6_ := Aside0.mk (blk_below (kB BK320.out) hb)
     have n7_ := Aside0.mk (blk_below (kB BK335.out) hb)
     have n8_ := Aside0.mk (below_step bS hb)
     clear HO324 HO327 HO331 HO334 BK320 BK335 HB
     have HO324 := n0_
     have HO327 := n1_
     have HO331 := n2_
     have HO334 := n3_
     have HO339 := n4_
     have HO342 := n5_
     have BK320 := n6_
     have BK335 := n7_
     have HB := n8_
     clear n0_ n1_ n2_ n3_ n4_ n5_ n6_ n7_ n8_
     (try clear hb)
     (try clear hb2)
     (try clear hk)
     (try clear hi)
     (try clear ho0)
     (try clear ho1)
     obtain ⟨Ao36, co36, eo36⟩ := Kd.R_slice HO339.out
     (first | subst eo36 | (injection eo36 with f1_ f2_ f3_; have f4_ := f1_.symm; have f5_ := f3_.symm; clear f1_ f2_ f3_; subst f4_; subst f5_))
     obtain ⟨Ao37, co37, eo37⟩ := Kd.R_slice HO342.out
     (first | subst eo37 | (injection eo37 with f1_ f2_ f3_; have f4_ := f1_.symm; have f5_ := f3_.symm; clear f1_ f2_ f3_; subst f4_; subst f5_))
     refine hK.out _ _ ⟨(blk_cell BK335.out 0).trans rfl, (blk_cell BK335.out 1).trans rfl, (blk_cell BK320.out 0).trans rfl, (blk_cell BK320.out 1).trans rfl⟩ (fun hHeld => ?_)
     clear hK K
     refine norm_ (a' := ?_) ?_ ?_
     rotate_left
     ·show Act.put _ (some 31) _ = _
      simp only [Act.put, List.setIfInBounds_toArray, List.set_cons_zero, List.set_cons_succ, i64_w, i32_w]
      rfl
     refine one_ (i := 3) (N := some 32) (mk 5 15) rfl rfl (by kernel_rfl) (by decide) (fun K hK => ?_)
     refine goes_ Try.func29 (by kernel_rfl) rfl #[.agg #[.slice Ao29 t329.length co29, .slice Ao32 t332.length co32], .agg #[.slice Ao36 t337.length co36, .slice Ao37 t340.length co37]] (by rfl) rfl rfl eA ?_
     with_reducible refine (laws_eqKnown.calls k _ _ t329 _ _ t332 _ _ t337 _ _ t340 true _ ?side1 ?side2 ?side3 ?side4 ?side5 ?side6 ?side7 ?side8 A16.out).mono ?_
     (case side1 => repeat (first | exact (Kd.R_reads' HO331.out).2.2 | (with_reducible refine Kd.C_alloc ?_ _) | (with_reducible refine Kd.C_drewN ?_ _) | (with_reducible refine Kd.C_drew ?_)))
     (case side2 => exact (Kd.R_reads' HO331.out).2.1)
     (case side3 => repeat (first | exact (Kd.R_reads' HO334.out).2.2 | (with_reducible refine Kd.C_alloc ?_ _) | (with_reducible refine Kd.C_drewN ?_ _) | (with_reducible refine Kd.C_drew ?_)))
     (case side4 => exact (Kd.R_reads' HO334.out).2.1)
     (case side5 => repeat (first | exact (Kd.R_reads' HO339.out).2.2 | (with_reducible refine Kd.C_alloc ?_ _) | (with_reducible refine Kd.C_drewN ?_ _) | (with_reducible refine Kd.C_drew ?_)))
     (case side6 => exact (Kd.R_reads' HO339.out).2.1)
     (case side7 => repeat (first | exact (Kd.R_reads' HO342.out).2.2 | (with_reducible refine Kd.C_alloc ?_ _) | (with_reducible refine Kd.C_drewN ?_ _) | (with_reducible refine Kd.C_drew ?_)))
     (case side8 => exact (Kd.R_reads' HO342.out).2.1)
     rintro e w38 ⟨rfl, hb⟩
     refine ⟨_, rfl, ?_⟩
     have n0_ := Aside0.mk (Kd.R_below (kR HO324.out) hb)
     have n1_ := Aside0.mk (Kd.R_below (kR HO327.out) hb)
     have n2_ := Aside0.mk (Kd.R_below (kR HO331.out) hb)
     have n3_ := Aside0.mk (Kd.R_below (kR HO334.out) hb)
     have n4_ := Aside0.mk (Kd.R_below (kR HO339.out) hb)
     have n5_ := Aside0.mk (Kd.R_below (kR HO342.out) hb)
     have n6_ := Aside0.mk (blk_below (kB BK320.out) hb)
     have n7_ := Aside0.mk (blk_below (kB BK335.out) hb)
     have n8_ := Aside0.mk (below_step bS hb)
     clear HO324 HO327 HO331 HO334 HO339 HO342 BK320 BK335 HB
     have HO324 := n0_
     have HO327 := n1_
     have HO331 := n2_
     have HO334 := n3_
     have HO339 := n4_
     have HO342 := n5_
     have BK320 := n6_
     have BK335 := n7_
     have HB := n8_
     clear n0_ n1_ n2_ n3_ n4_ n5_ n6_ n7_ n8_
     (try clear hb)
     (try clear hb2)
     (try clear hk)
     (try clear hi)
     refine hK.out _ _ ⟨(blk_cell BK335.out 0).trans rfl, (blk_cell BK335.out 1).trans rfl, (blk_cell BK320.out 0).trans rfl, (blk_cell BK320.out 1).trans rfl⟩ (fun hHeld => ?_)
     clear hK K
     refine norm_ (a' := ?_) ?_ ?_
     rotate_left
     ·show Act.put _ (some 32) _ = _
      simp only [Act.put, List.setIfInBounds_toArray, List.set_cons_zero, List.set_cons_succ, i64_w, i32_w]
      rfl
     refine pure_ (i := 4) (N := some 33) (v := ?_) (a' := ?_) (mk 5 31) rfl rfl (by kernel_rfl) (fun _ _ _ h => h) (Or.inl ⟨by rfl, ?_⟩) ?_ ?_
     rotate_left
     ·intro w'
      go_simp
      with_reducible rfl
     rotate_left
     ·simp only [Act.put, List.setIfInBounds_toArray, List.set_cons_zero, List.set_cons_succ, i64_w, i32_w]
      rfl
     refine done_ (by kernel_rfl) ?_
     try go_wp2
     go_ret
     exact ⟨eE, bS⟩
    ·replace c17 := Bool.eq_false_iff.mpr c17
     subst c17
     have H1 : (some false) = some r := by rw [if_neg (show ¬ (false = true) by decide)] at H; exact H
     clear H
     have H := H1
     clear H1
     rw [hr_true.out] at H
     exact absurd H (by simp)

end Go.Proofs.Ythlpfghlildllaa.OFnExactBuild
-- halved
-- squeezed
-- squeezed2
