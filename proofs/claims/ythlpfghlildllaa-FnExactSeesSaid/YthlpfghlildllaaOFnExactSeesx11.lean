-- walks of this claim, written by a program of mine
import Derived.Test.YthlpfghlildllaaOFnExactSeesx0
import Derived.Test.YthlpfghlildllaaOFnExactSeesx6
import Derived.Test.YthlpfghlildllaaOFnExactSeesx9
import Derived.Test.YthlpfghlildllaaOFnExactSeesx10
namespace Go.Proofs.Ythlpfghlildllaa.OFnExactSees
open Go.RowKit Go.Proofs.Ythlpfghlildllaa.OWord Go.Proofs.YthlpfghlildllaaW.PrintWords Go.Proofs.YthlpfghlildllaaW.PrintLast Go.Proofs.YthlpfghlildllaaW.PrintMore
attribute [local go_sem] max2_int min2_int max_two min_two max_three min_three max_four min_four   -- for this text's walks alone
set_option linter.unusedVariables false
set_option linter.unusedSimpArgs false

/-! ### laws_FnExactSees: function 5 -/
def laws_FnExactSees.f (k : Nat) (l0_0 : List ByteArray) (l0_1 : List Int) (a1 : ByteArray) : Option (Bool) := if (a1.size : Int) > 1048576 then (some true) else ((laws_szKnown.f k l0_0 l0_1 1048576).bind fun t306 => (if t306 < 0 then (some true) else ((laws_toKnown.f k l0_0 l0_1).bind fun bt307 => ((spec_Sees.f k bt307.1 bt307.2 a1).bind fun t313 => ((laws_toKnown.f k l0_0 l0_1).bind fun bt314 => ((impl_Sees.f k bt314.1 bt314.2 a1).bind fun t321 => (if (t321 != t313) = true then (some false) else ((laws_toKnown.f k l0_0 l0_1).bind fun bt322 => ((laws_eqKnown.f k bt314.1 bt314.2 bt322.1 bt322.2).bind fun t328 => (if t328 = true then (some true) else (some false)))))))))))
set_option maxHeartbeats 8000000 in
set_option maxRecDepth 100000 in
theorem laws_FnExactSees.calls (k : Nat) (A0_0 : Option Addr) (c0_0 : Nat) (l0_0 : List ByteArray) (A0_1 : Option Addr) (c0_1 : Nat) (l0_1 : List Int) (a1 : ByteArray) (r : Bool) (w : World) (hr0_0 : Kd.C Kd.string w A0_0 l0_0.length l0_0) (hc0_0 : l0_0.length ≤ c0_0) (hr0_1 : Kd.C (Kd.int .i64) w A0_1 l0_1.length l0_1) (hc0_1 : l0_1.length ≤ c0_1) (h : laws_FnExactSees.f k l0_0 l0_1 a1 = some r) (hr_true : Aside0 (r = true)) :
  Calls Try.prog 5 #[.agg #[.slice A0_0 l0_0.length c0_0, .slice A0_1 l0_1.length c0_1], .string a1] w fun e w' => e = .returned (.bool r) ∧ Below w.heap.size w w' := by
 have hu42 := Try.underlying42
 have hu27 := Try.underlying27
 have HR0_0 := Aside0.mk hr0_0
 have HC0_0 := Aside0.mk hc0_0
 clear hr0_0 hc0_0
 have HR0_1 := Aside0.mk hr0_1
 have HC0_1 := Aside0.mk hc0_1
 clear hr0_1 hc0_1
 have HB := Aside0.mk (Below.refl w.heap.size w)
 have H : (if (a1.size : Int) > 1048576 then (some true) else ((laws_szKnown.f k l0_0 l0_1 1048576).bind fun t306 => (if t306 < 0 then (some true) else ((laws_toKnown.f k l0_0 l0_1).bind fun bt307 => ((spec_Sees.f k bt307.1 bt307.2 a1).bind fun t313 => ((laws_toKnown.f k l0_0 l0_1).bind fun bt314 => ((impl_Sees.f k bt314.1 bt314.2 a1).bind fun t321 => (if (t321 != t313) = true then (some false) else ((laws_toKnown.f k l0_0 l0_1).bind fun bt322 => ((laws_eqKnown.f k bt314.1 bt314.2 bt322.1 bt322.2).bind fun t328 => (if t328 = true then (some true) else (some false)))))))))))) = some r := h
 clear h
 by_cases c3 : (a1.size : Int) > 1048576
 ·rw [if_pos c3] at H
  have c3b0 : decide (1048576 < (a1.size : Int)) = true := decide_eq_true c3
  have c3b1 : decide (1048576 < a1.size) = true := decide_eq_true (by omega)
  clear c3
  obtain rfl := Option.some.inj H
  go_enter Try.func5, Try.ntmps5
  go_wp2_with (first | ((with_reducible refine gate_dst (N := 2) rfl ?_); refine box_event ?hg (N := 2) ?hd (cs := #[.slice A0_0 l0_0.length c0_0, .slice A0_1 l0_1.length c0_1]) (t := 42) ?hr ?_; (case hd => rfl); (case hg => rfl); (case hr => first | (go_simp; done) | (go_simp; rfl)); intro gb305 hg w4 hbox hb; have n0_ := Aside0.mk (below_step bH hb); have n1_ := Aside0.mk (hbox); have n2_ := Aside0.mk ((bZ hg : w.heap.size ≤ gb305)); have n3_ := Aside0.mk ((bZ hg : w.heap.size ≤ gb305)); clear HB; have HB := n0_; have BK305 := n1_; have GW305 := n2_; have GE305 := n3_; clear n0_ n1_ n2_ n3_; clear hb hbox hg))
  go_ret
  exact ⟨eE, bS⟩
 ·rw [if_neg c3] at H
  have c3b0 : decide (1048576 < (a1.size : Int)) = false := decide_eq_false c3
  have c3b1 : decide (1048576 < a1.size) = false := decide_eq_false (by omega)
  clear c3
  replace H := Option.bind_eq_some_iff.mp H
  obtain ⟨t306, A50, H⟩ := H
  replace H : (if t306 < 0 then (some true) else ((laws_toKnown.f k l0_0 l0_1).bind fun bt307 => ((spec_Sees.f k bt307.1 bt307.2 a1).bind fun t313 => ((laws_toKnown.f k l0_0 l0_1).bind fun bt314 => ((impl_Sees.f k bt314.1 bt314.2 a1).bind fun t321 => (if (t321 != t313) = true then (some false) else ((laws_toKnown.f k l0_0 l0_1).bind fun bt322 => ((laws_eqKnown.f k bt314.1 bt314.2 bt322.1 bt322.2).bind fun t328 => (if t328 = true then (some true) else (some false)))))))))) = some r := H
  have A5 := Aside0.mk A50
  clear A50
  by_cases c6 : t306 < 0
  ·rw [if_pos c6] at H
   have c6b0 : decide (t306 < 0) = true := decide_eq_true c6
   clear c6
   obtain rfl := Option.some.inj H
   go_enter Try.func5, Try.ntmps5
   go_wp2_with (first | ((with_reducible refine gate_dst (N := 2) rfl ?_); refine box_event ?hg (N := 2) ?hd (cs := #[.slice A0_0 l0_0.length c0_0, .slice A0_1 l0_1.length c0_1]) (t := 42) ?hr ?_; (case hd => rfl); (case hg => rfl); (case hr => first | (go_simp; done) | (go_simp; rfl)); intro gb305 hg w7 hbox hb; have n0_ := Aside0.mk (below_step bH hb); have n1_ := Aside0.mk (hbox); have n2_ := Aside0.mk ((bZ hg : w.heap.size ≤ gb305)); have n3_ := Aside0.mk ((bZ hg : w.heap.size ≤ gb305)); clear HB; have HB := n0_; have BK305 := n1_; have GW305 := n2_; have GE305 := n3_; clear n0_ n1_ n2_ n3_; clear hb hbox hg; have hcz8_0 : w7.cell? ⟨gb305, 0, none⟩ = some (.slice A0_0 l0_0.length c0_0) := (blk_cell BK305.out 0).trans rfl; have hcz8_1 : w7.cell? ⟨gb305, 1, none⟩ = some (.slice A0_1 l0_1.length c0_1) := (blk_cell BK305.out 1).trans rfl; have hfz8_0 := blk_frozen BK305.out 0; have hfz8_1 := blk_frozen BK305.out 1) | ((with_reducible refine gate_callee (f := 27) rfl ?_); refine goesL_ (some 14) rfl rfl Try.func27 (by kernel_rfl) rfl #[.agg #[.slice A0_0 l0_0.length c0_0, .slice A0_1 l0_1.length c0_1], .int .i64 1048576] rfl eA ?_; (with_reducible refine (laws_szKnown.calls k _ _ l0_0 _ _ l0_1 1048576 t306 _ ?side1 ?side2 ?side3 ?side4 A5.out).mono ?_); (case side1 => repeat (first | exact (Kd.C_below HR0_0.out HB.out) | (with_reducible refine Kd.C_alloc ?_ _) | (with_reducible refine Kd.C_drewN ?_ _) | (with_reducible refine Kd.C_drew ?_))); (case side2 => exact HC0_0.out); (case side3 => repeat (first | exact (Kd.C_below HR0_1.out HB.out) | (with_reducible refine Kd.C_alloc ?_ _) | (with_reducible refine Kd.C_drewN ?_ _) | (with_reducible refine Kd.C_drew ?_))); (case side4 => exact HC0_1.out); rintro e w9 ⟨rfl, hb⟩; refine ⟨_, rfl, ?_⟩; have n0_ := Aside0.mk (blk_below (kB BK305.out) hb); have n1_ := Aside0.mk (below_step bS hb); clear BK305; clear HB; have BK305 := n0_; have HB := n1_; clear n0_ n1_; (try clear hb); (try clear hb2); (try clear hk); (try clear hi)))
   go_ret
   exact ⟨eE, bS⟩
  ·rw [if_neg c6] at H
   have c6b0 : decide (t306 < 0) = false := decide_eq_false c6
   clear c6
   replace H := Option.bind_eq_some_iff.mp H
   obtain ⟨⟨t307, t310⟩, A100, H⟩ := H
   replace H : ((spec_Sees.f k t307 t310 a1).bind fun t313 => ((laws_toKnown.f k l0_0 l0_1).bind fun bt314 => ((impl_Sees.f k bt314.1 bt314.2 a1).bind fun t321 => (if (t321 != t313) = true then (some false) else ((laws_toKnown.f k l0_0 l0_1).bind fun bt322 => ((laws_eqKnown.f k bt314.1 bt314.2 bt322.1 bt322.2).bind fun t328 => (if t328 = true then (some true) else (some false)))))))) = some r := H
   have A10 := Aside0.mk A100
   clear A100
   replace H := Option.bind_eq_some_iff.mp H
   obtain ⟨t313, A110, H⟩ := H
   replace H : ((laws_toKnown.f k l0_0 l0_1).bind fun bt314 => ((impl_Sees.f k bt314.1 bt314.2 a1).bind fun t321 => (if (t321 != t313) = true then (some false) else ((laws_toKnown.f k l0_0 l0_1).bind fun bt322 => ((laws_eqKnown.f k bt314.1 bt314.2 bt322.1 bt322.2).bind fun t328 => (if t328 = true then (some true) else (some false))))))) = some r := H
   have A11 := Aside0.mk A110
   clear A110
   replace H := Option.bind_eq_some_iff.mp H
   obtain ⟨⟨t314, t317⟩, A120, H⟩ := H
   replace H : ((impl_Sees.f k t314 t317 a1).bind fun t321 => (if (t321 != t313) = true then (some false) else ((laws_toKnown.f k l0_0 l0_1).bind fun bt322 => ((laws_eqKnown.f k t314 t317 bt322.1 bt322.2).bind fun t328 => (if t328 = true then (some true) else (some false)))))) = some r := H
   have A12 := Aside0.mk A120
   clear A120
   replace H := Option.bind_eq_some_iff.mp H
   obtain ⟨t321, A130, H⟩ := H
   replace H : (if (t321 != t313) = true then (some false) else ((laws_toKnown.f k l0_0 l0_1).bind fun bt322 => ((laws_eqKnown.f k t314 t317 bt322.1 bt322.2).bind fun t328 => (if t328 = true then (some true) else (some false))))) = some r := H
   have A13 := Aside0.mk A130
   clear A130
   by_cases c14 : (t321 != t313) = true
   ·rw [if_pos c14] at H
    have c14b0 : (t321 != t313) = true := c14
    (try (have c14b1 : decide (t321 = t313) = false := by simpa using c14))
    (try (have c14b2 : (t321 == t313) = false := by simpa using c14))
    (try (have c14b3 : ¬ (t321 = t313) := by simpa using c14))
    clear c14
    rw [hr_true.out] at H
    exact absurd H (by simp)
   ·rw [if_neg c14] at H
    have c14b0 : (t321 != t313) = false := by simpa using c14
    (try (have c14b1 : decide (t321 = t313) = true := by simpa using c14))
    (try (have c14b2 : (t321 == t313) = true := by simpa using c14))
    clear c14
    replace H := Option.bind_eq_some_iff.mp H
    obtain ⟨⟨t322, t325⟩, A150, H⟩ := H
    replace H : ((laws_eqKnown.f k t314 t317 t322 t325).bind fun t328 => (if t328 = true then (some true) else (some false))) = some r := H
    have A15 := Aside0.mk A150
    clear A150
    replace H := Option.bind_eq_some_iff.mp H
    obtain ⟨t328, A160, H⟩ := H
    replace H : (if t328 = true then (some true) else (some false)) = some r := H
    have A16 := Aside0.mk A160
    clear A160
    by_cases c17 : t328 = true
    ·subst c17
     have H1 : (some true) = some r := by rw [if_pos rfl] at H; exact H
     clear H
     have H := H1
     clear H1
     obtain rfl := Option.some.inj H
     go_enter Try.func5, Try.ntmps5
     try go_wp2_with (first | ((with_reducible refine gate_dst (N := 2) rfl ?_); refine box_event ?hg (N := 2) ?hd (cs := #[.slice A0_0 l0_0.length c0_0, .slice A0_1 l0_1.length c0_1]) (t := 42) ?hr ?_; (case hd => rfl); (case hg => rfl); (case hr => first | (go_simp; done) | (go_simp; rfl)); intro gb305 hg w18 hbox hb; have n0_ := Aside0.mk (below_step bH hb); have n1_ := Aside0.mk (hbox); have n2_ := Aside0.mk ((bZ hg : w.heap.size ≤ gb305)); have n3_ := Aside0.mk ((bZ hg : w.heap.size ≤ gb305)); clear HB; have HB := n0_; have BK305 := n1_; have GW305 := n2_; have GE305 := n3_; clear n0_ n1_ n2_ n3_; clear hb hbox hg; have hcz19_0 : w18.cell? ⟨gb305, 0, none⟩ = some (.slice A0_0 l0_0.length c0_0) := (blk_cell BK305.out 0).trans rfl; have hcz19_1 : w18.cell? ⟨gb305, 1, none⟩ = some (.slice A0_1 l0_1.length c0_1) := (blk_cell BK305.out 1).trans rfl; have hfz19_0 := blk_frozen BK305.out 0; have hfz19_1 := blk_frozen BK305.out 1) | ((with_reducible refine gate_callee (f := 27) rfl ?_); refine goesL_ (some 14) rfl rfl Try.func27 (by kernel_rfl) rfl #[.agg #[.slice A0_0 l0_0.length c0_0, .slice A0_1 l0_1.length c0_1], .int .i64 1048576] rfl eA ?_; (with_reducible refine (laws_szKnown.calls k _ _ l0_0 _ _ l0_1 1048576 t306 _ ?side1 ?side2 ?side3 ?side4 A5.out).mono ?_); (case side1 => repeat (first | exact (Kd.C_below HR0_0.out HB.out) | (with_reducible refine Kd.C_alloc ?_ _) | (with_reducible refine Kd.C_drewN ?_ _) | (with_reducible refine Kd.C_drew ?_))); (case side2 => exact HC0_0.out); (case side3 => repeat (first | exact (Kd.C_below HR0_1.out HB.out) | (with_reducible refine Kd.C_alloc ?_ _) | (with_reducible refine Kd.C_drewN ?_ _) | (with_reducible refine Kd.C_drew ?_))); (case side4 => exact HC0_1.out); rintro e w20 ⟨rfl, hb⟩; refine ⟨_, rfl, ?_⟩; have n0_ := Aside0.mk (blk_below (kB BK305.out) hb); have n1_ := Aside0.mk (below_step bS hb); clear BK305; clear HB; have BK305 := n0_; have HB := n1_; clear n0_ n1_; (try clear hb); (try clear hb2); (try clear hk); (try clear hi); have hcz21_0 : w20.cell? ⟨gb305, 0, none⟩ = some (.slice A0_0 l0_0.length c0_0) := (blk_cell BK305.out 0).trans rfl; have hcz21_1 : w20.cell? ⟨gb305, 1, none⟩ = some (.slice A0_1 l0_1.length c0_1) := (blk_cell BK305.out 1).trans rfl; have hfz21_0 := blk_frozen BK305.out 0; have hfz21_1 := blk_frozen BK305.out 1) | ((with_reducible refine gate_callee (f := 28) rfl ?_); refine goesL_ (some 18) rfl rfl Try.func28 (by kernel_rfl) rfl #[.agg #[.slice A0_0 l0_0.length c0_0, .slice A0_1 l0_1.length c0_1]] rfl eA ?_; (with_reducible refine (laws_toKnown.calls k _ _ l0_0 _ _ l0_1 t307 t310 _ ?side1 ?side2 ?side3 ?side4 A10.out).mono ?_); (case side1 => repeat (first | exact (Kd.C_below HR0_0.out HB.out) | (with_reducible refine Kd.C_alloc ?_ _) | (with_reducible refine Kd.C_drewN ?_ _) | (with_reducible refine Kd.C_drew ?_))); (case side2 => exact HC0_0.out); (case side3 => repeat (first | exact (Kd.C_below HR0_1.out HB.out) | (with_reducible refine Kd.C_alloc ?_ _) | (with_reducible refine Kd.C_drewN ?_ _) | (with_reducible refine Kd.C_drew ?_))); (case side4 => exact HC0_1.out); rintro e w22 ⟨v308, v311, rfl, ho0, ho1, hb⟩; refine ⟨_, rfl, ?_⟩; have n0_ := Aside0.mk (Kd.R_lower ho0 (below_size bS)); have n1_ := Aside0.mk (Kd.R_lower ho1 (below_size bS)); have n2_ := Aside0.mk (blk_below (kB BK305.out) hb); have n3_ := Aside0.mk (below_step bS hb); clear BK305; clear HB; have HO309 := n0_; have HO312 := n1_; have BK305 := n2_; have HB := n3_; clear n0_ n1_ n2_ n3_; (try clear hb); (try clear hb2); (try clear hk); (try clear hi); (try clear ho0); (try clear ho1); obtain ⟨Ao23, co23, eo23⟩ := Kd.R_slice HO309.out; subst eo23; obtain ⟨Ao24, co24, eo24⟩ := Kd.R_slice HO312.out; subst eo24) | ((with_reducible refine gate_callee (f := 16) rfl ?_); refine goesL_ (some 20) rfl rfl Try.func16 (by kernel_rfl) rfl #[.agg #[.slice Ao23 t307.length co23, .slice Ao24 t310.length co24], .string a1] rfl eA ?_; (with_reducible refine (spec_Sees.calls k _ _ t307 _ _ t310 a1 t313 _ ?side1 ?side2 ?side3 ?side4 A11.out).mono ?_); (case side1 => repeat (first | exact (Kd.R_reads' HO309.out).2.2 | (with_reducible refine Kd.C_alloc ?_ _) | (with_reducible refine Kd.C_drewN ?_ _) | (with_reducible refine Kd.C_drew ?_))); (case side2 => exact (Kd.R_reads' HO309.out).2.1); (case side3 => repeat (first | exact (Kd.R_reads' HO312.out).2.2 | (with_reducible refine Kd.C_alloc ?_ _) | (with_reducible refine Kd.C_drewN ?_ _) | (with_reducible refine Kd.C_drew ?_))); (case side4 => exact (Kd.R_reads' HO312.out).2.1); rintro e w25 ⟨rfl, hb⟩; refine ⟨_, rfl, ?_⟩; have n0_ := Aside0.mk (Kd.R_below (kR HO309.out) hb); have n1_ := Aside0.mk (Kd.R_below (kR HO312.out) hb); have n2_ := Aside0.mk (blk_below (kB BK305.out) hb); have n3_ := Aside0.mk (below_step bS hb); clear HO309; clear HO312; clear BK305; clear HB; have HO309 := n0_; have HO312 := n1_; have BK305 := n2_; have HB := n3_; clear n0_ n1_ n2_ n3_; (try clear hb); (try clear hb2); (try clear hk); (try clear hi); have hcz26_0 : w25.cell? ⟨gb305, 0, none⟩ = some (.slice A0_0 l0_0.length c0_0) := (blk_cell BK305.out 0).trans rfl; have hcz26_1 : w25.cell? ⟨gb305, 1, none⟩ = some (.slice A0_1 l0_1.length c0_1) := (blk_cell BK305.out 1).trans rfl; have hfz26_0 := blk_frozen BK305.out 0; have hfz26_1 := blk_frozen BK305.out 1) | ((with_reducible refine gate_callee (f := 28) rfl ?_); refine goesL_ (some 22) rfl rfl Try.func28 (by kernel_rfl) rfl #[.agg #[.slice A0_0 l0_0.length c0_0, .slice A0_1 l0_1.length c0_1]] rfl eA ?_; (with_reducible refine (laws_toKnown.calls k _ _ l0_0 _ _ l0_1 t314 t317 _ ?side1 ?side2 ?side3 ?side4 A12.out).mono ?_); (case side1 => repeat (first | exact (Kd.C_below HR0_0.out HB.out) | (with_reducible refine Kd.C_alloc ?_ _) | (with_reducible refine Kd.C_drewN ?_ _) | (with_reducible refine Kd.C_drew ?_))); (case side2 => exact HC0_0.out); (case side3 => repeat (first | exact (Kd.C_below HR0_1.out HB.out) | (with_reducible refine Kd.C_alloc ?_ _) | (with_reducible refine Kd.C_drewN ?_ _) | (with_reducible refine Kd.C_drew ?_))); (case side4 => exact HC0_1.out); rintro e w27 ⟨v315, v318, rfl, ho0, ho1, hb⟩; refine ⟨_, rfl, ?_⟩; have n0_ := Aside0.mk (Kd.R_elder' (kR HO309.out) (Kd.R_base ho0) hb); have n1_ := Aside0.mk (Kd.R_elder' (kR HO312.out) (Kd.R_base ho1) hb); have n2_ := Aside0.mk (Kd.R_lower (Kd.R_new' ho0 (Kd.R_lt (kR HO309.out))) (below_size bS)); have n3_ := Aside0.mk (Kd.R_lower (Kd.R_new' ho1 (Kd.R_lt (kR HO312.out))) (below_size bS)); have n4_ := Aside0.mk (blk_below (kB BK305.out) hb); have n5_ := Aside0.mk (below_step bS hb); clear HO309; clear HO312; clear BK305; clear HB; have HO309 := n0_; have HO312 := n1_; have HO316 := n2_; have HO319 := n3_; have BK305 := n4_; have HB := n5_; clear n0_ n1_ n2_ n3_ n4_ n5_; (try clear hb); (try clear hb2); (try clear hk); (try clear hi); (try clear ho0); (try clear ho1)) | ((with_reducible refine gate_dst (N := 7) rfl ?_); refine box_event ?hg (N := 7) ?hd (cs := #[.slice none 0 0, .slice none 0 0]) (t := 27) ?hr ?_; (case hd => rfl); (case hg => rfl); (case hr => first | (go_simp; done) | (go_simp; rfl)); intro gb320 hg w28 hbox hb; have n0_ := Aside0.mk (Kd.R_below (kR HO309.out) hb); have n1_ := Aside0.mk (Kd.R_below (kR HO312.out) hb); have n2_ := Aside0.mk (Kd.R_below (kR HO316.out) hb); have n3_ := Aside0.mk (Kd.R_below (kR HO319.out) hb); have n4_ := Aside0.mk (blk_below (kB BK305.out) hb); have n5_ := Aside0.mk (below_step bS hb); have n6_ := Aside0.mk (hbox); have n7_ := Aside0.mk ((bZ hg : w.heap.size ≤ gb320)); have n8_ := Aside0.mk ((bZ hg : w.heap.size ≤ gb320)); have n9_ := Aside0.mk ((nL hg BK305.out : gb305 ≠ gb320)); have n10_ := Aside0.mk ((nG hg BK305.out : gb320 ≠ gb305)); clear HO309; clear HO312; clear HO316; clear HO319; clear BK305; clear HB; have HO309 := n0_; have HO312 := n1_; have HO316 := n2_; have HO319 := n3_; have BK305 := n4_; have HB := n5_; have BK320 := n6_; have GW320 := n7_; have GE320 := n8_; have NB305_320 := n9_; have NB320_305 := n10_; clear n0_ n1_ n2_ n3_ n4_ n5_ n6_ n7_ n8_ n9_ n10_; clear hb hbox hg; obtain ⟨Ao29, co29, eo29⟩ := Kd.R_slice HO316.out; subst eo29; have hnb30 := NB320_305.out; have hnc30 := NB305_320.out; have hcz31_0 : w28.cell? ⟨gb320, 0, none⟩ = some (.slice none 0 0) := (blk_cell BK320.out 0).trans rfl; have hcz31_1 : w28.cell? ⟨gb320, 1, none⟩ = some (.slice none 0 0) := (blk_cell BK320.out 1).trans rfl; have hfz31_0 := blk_frozen BK320.out 0; have hfz31_1 := blk_frozen BK320.out 1; obtain ⟨Ao32, co32, eo32⟩ := Kd.R_slice HO319.out; subst eo32) | ((with_reducible refine gate_callee (f := 23) rfl ?_); refine goesL_ (some 25) rfl rfl Try.func23 (by kernel_rfl) rfl #[.agg #[.slice Ao29 t314.length co29, .slice Ao32 t317.length co32], .string a1] rfl eA ?_; (with_reducible refine (impl_Sees.calls k _ _ t314 _ _ t317 a1 t321 _ ?side1 ?side2 ?side3 ?side4 A13.out).mono ?_); (case side1 => refine (Kd.R_reads' (e := 9) (base := w.heap.size) (ok := fun k_ => (True ∧ some k_ ≠ (.slice Ao23 t307.length co23 : Value).ownBlock)) (n := t314.length) (c := co29) ?_).2.2; exact (rF2 HO316.out BK320.out)); (case side2 => exact (Kd.R_reads' HO316.out).2.1); (case side3 => refine (Kd.R_reads' (e := 3) (base := w.heap.size) (ok := fun k_ => (True ∧ some k_ ≠ (.slice Ao24 t310.length co24 : Value).ownBlock)) (n := t317.length) (c := co32) ?_).2.2; exact (rF2 HO319.out BK320.out)); (case side4 => exact (Kd.R_reads' HO319.out).2.1); rintro e w33 ⟨rfl, hb⟩; refine ⟨_, rfl, ?_⟩; have n0_ := Aside0.mk (Kd.R_below (rF2 HO309.out BK320.out) hb); have n1_ := Aside0.mk (Kd.R_below (rF2 HO312.out BK320.out) hb); have n2_ := Aside0.mk (Kd.R_below (rF2 HO316.out BK320.out) hb); have n3_ := Aside0.mk (Kd.R_below (rF2 HO319.out BK320.out) hb); have n4_ := Aside0.mk (blk_below (g := gb305) (o := .cells #[.slice A0_0 l0_0.length c0_0, .slice A0_1 l0_1.length c0_1] 42 (0, 0)) (kF2 NB305_320.out BK305.out) hb); have n5_ := Aside0.mk (blk_below (g := gb320) (o := .cells #[.slice Ao29 t314.length co29, .slice Ao32 t317.length co32] 27 (0, 0)) (by (with_reducible repeat (first | refine blk_drewN ?_ _ | refine blk_drew ?_ | refine blk_alloc ?_ _)); refine blk_put (cs := #[.slice Ao29 t314.length co29, .slice none 0 0]) ?_ 1 _ rfl; (with_reducible repeat (first | refine blk_drewN ?_ _ | refine blk_drew ?_ | refine blk_alloc ?_ _)); refine blk_put (cs := #[.slice none 0 0, .slice none 0 0]) ?_ 0 _ rfl; (with_reducible repeat (first | refine blk_drewN ?_ _ | refine blk_drew ?_ | refine blk_alloc ?_ _)); exact BK320.out) hb); have n6_ := Aside0.mk (below_step bS hb); clear HO309; clear HO312; clear HO316; clear HO319; clear BK305; clear BK320; clear HB; have HO309 := n0_; have HO312 := n1_; have HO316 := n2_; have HO319 := n3_; have BK305 := n4_; have BK320 := n5_; have HB := n6_; clear n0_ n1_ n2_ n3_ n4_ n5_ n6_; (try clear hb); (try clear hb2); (try clear hk); (try clear hi)))
     have n0_ := Aside0.mk (Kd.R_drew HO309.out)
     have n1_ := Aside0.mk (Kd.R_drew HO312.out)
     have n2_ := Aside0.mk (Kd.R_drew HO316.out)
     have n3_ := Aside0.mk (Kd.R_drew HO319.out)
     have n4_ := Aside0.mk (blk_drew BK305.out)
     have n5_ := Aside0.mk (blk_drew BK320.out)
     have n6_ := Aside0.mk (below_drew1 HB.out)
     clear HO309 HO312 HO316 HO319 BK305 BK320 HB
     have HO309 := n0_
     have HO312 := n1_
     have HO316 := n2_
     have HO319 := n3_
     have BK305 := n4_
     have BK320 := n5_
     have HB := n6_
     clear n0_ n1_ n2_ n3_ n4_ n5_ n6_
     refine start_ (n := 5) (S := fun w' => w'.cell? ⟨gb320, 0, none⟩ = some (.slice Ao29 t314.length co29) ∧ w'.cell? ⟨gb320, 1, none⟩ = some (.slice Ao32 t317.length co32) ∧ w'.cell? ⟨gb305, 0, none⟩ = some (.slice A0_0 l0_0.length c0_0) ∧ w'.cell? ⟨gb305, 1, none⟩ = some (.slice A0_1 l0_1.length c0_1)) (ds := []) _ (by kernel_rfl) rfl rfl ⟨(blk_cell BK320.out 0).trans rfl, (blk_cell BK320.out 1).trans rfl, (blk_cell BK305.out 0).trans rfl, (blk_cell BK305.out 1).trans rfl⟩ (fun hHeld => ?_)
     generalize w33.drew = w34 at HO309 HO312 HO316 HO319 BK305 BK320 HB hHeld ⊢
     refine take_ (i := 0) (N := some 29) (v := ?_) (a' := ?_) (mk 5 1) rfl rfl (by kernel_rfl) (fun _ _ _ h => h) (Or.inl ⟨by rfl, ?_⟩) hHeld ?_ ?_
     rotate_left
     ·rintro w' ⟨s0, s1, s2, s3⟩
      go_simp
      with_reducible rfl
     rotate_left
     ·simp only [Act.put, List.setIfInBounds_toArray, List.set_cons_zero, List.set_cons_succ, i64_w, i32_w]
      rfl
     refine take_ (i := 1) (N := some 30) (v := ?_) (a' := ?_) (mk 5 3) rfl rfl (by kernel_rfl) (fun _ _ _ h => h) (Or.inl ⟨by rfl, ?_⟩) hHeld ?_ ?_
     rotate_left
     ·rintro w' ⟨s0, s1, s2, s3⟩
      go_simp
      with_reducible rfl
     rotate_left
     ·simp only [Act.put, List.setIfInBounds_toArray, List.set_cons_zero, List.set_cons_succ, i64_w, i32_w]
      rfl
     refine one_ (i := 2) (N := some 31) (mk 5 7) rfl rfl (by kernel_rfl) (by decide) (fun K hK => ?_)
     refine goes_ Try.func28 (by kernel_rfl) rfl #[.agg #[.slice A0_0 l0_0.length c0_0, .slice A0_1 l0_1.length c0_1]] (by rfl) rfl rfl eA ?_
     with_reducible refine (laws_toKnown.calls k _ _ l0_0 _ _ l0_1 t322 t325 _ ?side1 ?side2 ?side3 ?side4 A15.out).mono ?_
     (case side1 => repeat (first | exact (Kd.C_below HR0_0.out HB.out) | (with_reducible refine Kd.C_alloc ?_ _) | (with_reducible refine Kd.C_drewN ?_ _) | (with_reducible refine Kd.C_drew ?_)))
     (case side2 => exact HC0_0.out)
     (case side3 => repeat (first | exact (Kd.C_below HR0_1.out HB.out) | (with_reducible refine Kd.C_alloc ?_ _) | (with_reducible refine Kd.C_drewN ?_ _) | (with_reducible refine Kd.C_drew ?_)))
     (case side4 => exact HC0_1.out)
     rintro e w35 ⟨v323, v326, rfl, ho0, ho1, hb⟩
     refine ⟨_, rfl, ?_⟩
     have n0_ := Aside0.mk (Kd.R_elder' (kR HO309.out) (Kd.R_base ho0) hb)
     have n1_ := Aside0.mk (Kd.R_elder' (kR HO312.out) (Kd.R_base ho1) hb)
     have n2_ := Aside0.mk (Kd.R_elder' (kR HO316.out) (Kd.R_base ho0) hb)
     have n3_ := Aside0.mk (Kd.R_elder' (kR HO319.out) (Kd.R_base ho1) hb)
     have n4_ := Aside0.mk (Kd.R_lower (Kd.R_new' (Kd.R_new' ho0 (Kd.R_lt (kR HO309.out))) (Kd.R_lt (kR HO316.out))) (below_size bS))
     have n5_ := Aside0.mk (Kd.R_lower (Kd.R_new' (Kd.R_new' ho1 (Kd.R_lt (kR HO312.out))) (Kd.R_lt (kR HO319.out))) (below_size bS))
     have n6_ := Aside0.mk (blk_below (kB BK305.out) hb)
     have n7_ := Aside0.mk (blk_below (kB BK320.out) hb)
     have n8_ := Aside0.mk (below_step bS hb)
     clear HO309 HO312 HO316 HO319 BK305 BK320 HB
     have HO309 := n0_
     have HO312 := n1_
     have HO316 := n2_
     have HO319 := n3_
     have HO324 := n4_
     have HO327 := n5_
     have BK305 := n6_
     have BK320 := n7_
     have HB := n8_
     clear n0_ n1_ n2_ n3_ n4_ n5_ n6_ n7_ n8_
     (try clear hb)
     (try clear hb2)
     (try clear hk)
     (try clear hi)
     (try clear ho0)
     (try clear ho1)
     obtain ⟨Ao36, co36, eo36⟩ := Kd.R_slice HO324.out
     (first | subst eo36 | (injection eo36 with f1_ f2_ f3_; have f4_ := f1_.symm; have f5_ := f3_.symm; clear f1_ f2_ f3_; subst f4_; subst f5_))
     obtain ⟨Ao37, co37, eo37⟩ := Kd.R_slice HO327.out
     (first | subst eo37 | (injection eo37 with f1_ f2_ f3_; have f4_ := f1_.symm; have f5_ := f3_.symm; clear f1_ f2_ f3_; subst f4_; subst f5_))
     refine hK.out _ _ ⟨(blk_cell BK320.out 0).trans rfl, (blk_cell BK320.out 1).trans rfl, (blk_cell BK305.out 0).trans rfl, (blk_cell BK305.out 1).trans rfl⟩ (fun hHeld => ?_)
     clear hK K
     refine norm_ (a' := ?_) ?_ ?_
     rotate_left
     ·show Act.put _ (some 31) _ = _
      simp only [Act.put, List.setIfInBounds_toArray, List.set_cons_zero, List.set_cons_succ, i64_w, i32_w]
      rfl
     refine one_ (i := 3) (N := some 32) (mk 5 15) rfl rfl (by kernel_rfl) (by decide) (fun K hK => ?_)
     refine goes_ Try.func29 (by kernel_rfl) rfl #[.agg #[.slice Ao29 t314.length co29, .slice Ao32 t317.length co32], .agg #[.slice Ao36 t322.length co36, .slice Ao37 t325.length co37]] (by rfl) rfl rfl eA ?_
     with_reducible refine (laws_eqKnown.calls k _ _ t314 _ _ t317 _ _ t322 _ _ t325 true _ ?side1 ?side2 ?side3 ?side4 ?side5 ?side6 ?side7 ?side8 A16.out).mono ?_
     (case side1 => repeat (first | exact (Kd.R_reads' HO316.out).2.2 | (with_reducible refine Kd.C_alloc ?_ _) | (with_reducible refine Kd.C_drewN ?_ _) | (with_reducible refine Kd.C_drew ?_)))
     (case side2 => exact (Kd.R_reads' HO316.out).2.1)
     (case side3 => repeat (first | exact (Kd.R_reads' HO319.out).2.2 | (with_reducible refine Kd.C_alloc ?_ _) | (with_reducible refine Kd.C_drewN ?_ _) | (with_reducible refine Kd.C_drew ?_)))
     (case side4 => exact (Kd.R_reads' HO319.out).2.1)
     (case side5 => repeat (first | exact (Kd.R_reads' HO324.out).2.2 | (with_reducible refine Kd.C_alloc ?_ _) | (with_reducible refine Kd.C_drewN ?_ _) | (with_reducible refine Kd.C_drew ?_)))
     (case side6 => exact (Kd.R_reads' HO324.out).2.1)
     (case side7 => repeat (first | exact (Kd.R_reads' HO327.out).2.2 | (with_reducible refine Kd.C_alloc ?_ _) | (with_reducible refine Kd.C_drewN ?_ _) | (with_reducible refine Kd.C_drew ?_)))
     (case side8 => exact (Kd.R_reads' HO327.out).2.1)
     rintro e w38 ⟨rfl, hb⟩
     refine ⟨_, rfl, ?_⟩
     have n0_ := Aside0.mk (Kd.R_below (kR HO309.out) hb)
     have n1_ := Aside0.mk (Kd.R_below (kR HO312.out) hb)
     have n2_ := Aside0.mk (Kd.R_below (kR HO316.out) hb)
     have n3_ := Aside0.mk (Kd.R_below (kR HO319.out) hb)
     have n4_ := Aside0.mk (Kd.R_below (kR HO324.out) hb)
     have n5_ := Aside0.mk (Kd.R_below (kR HO327.out) hb)
     have n6_ := Aside0.mk (blk_below (kB BK305.out) hb)
     have n7_ := Aside0.mk (blk_below (kB BK320.out) hb)
     have n8_ := Aside0.mk (below_step bS hb)
     clear HO309 HO312 HO316 HO319 HO324 HO327 BK305 BK320 HB
     have HO309 := n0_
     have HO312 := n1_
     have HO316 := n2_
     have HO319 := n3_
     have HO324 := n4_
     have HO327 := n5_
     have BK305 := n6_
     have BK320 := n7_
     have HB := n8_
     clear n0_ n1_ n2_ n3_ n4_ n5_ n6_ n7_ n8_
     (try clear hb)
     (try clear hb2)
     (try clear hk)
     (try clear hi)
     refine hK.out _ _ ⟨(blk_cell BK320.out 0).trans rfl, (blk_cell BK320.out 1).trans rfl, (blk_cell BK305.out 0).trans rfl, (blk_cell BK305.out 1).trans rfl⟩ (fun hHeld => ?_)
     clear hK K
     refine norm_ (a' := ?_) ?_ ?_
     rotate_left
     ·show Act.put _ (some 32) _ = _
      simp only [Act.put, List.setIfInBounds_toArray, List.set_cons_zero, List.set_cons_succ, i64_w, i32_w]
      rfl
     refine pure_ (i := 4) (N := some 33) (v := ?_) (a' := ?_) (mk 5 31) rfl rfl (by kernel_rfl) (fun _ _ _ h => h) (Or.inl ⟨by rfl, ?_⟩) ?_ ?_
     rotate_left
     ·intro w'
      go_simp
      with_reducible rfl
     rotate_left
     ·simp only [Act.put, List.setIfInBounds_toArray, List.set_cons_zero, List.set_cons_succ, i64_w, i32_w]
      rfl
     refine done_ (by kernel_rfl) ?_
     try go_wp2
     go_ret
     exact ⟨eE, bS⟩
    ·replace c17 := Bool.eq_false_iff.mpr c17
     subst c17
     have H1 : (some false) = some r := by rw [if_neg (show ¬ (false = true) by decide)] at H; exact H
     clear H
     have H := H1
     clear H1
     rw [hr_true.out] at H
     exact absurd H (by simp)

end Go.Proofs.Ythlpfghlildllaa.OFnExactSees
-- halved
-- squeezed
-- squeezed2
