-- walks of this claim, written by a program of mine
import Derived.Test.YthlpfghlildllaaOFnExactLearnKeyx0
import Derived.Test.YthlpfghlildllaaOFnExactLearnKeyx3
import Derived.Test.YthlpfghlildllaaOFnExactLearnKeyx4
import Derived.Test.YthlpfghlildllaaOFnExactLearnKeyx5
import Derived.Test.YthlpfghlildllaaOFnExactLearnKeyx9
namespace Go.Proofs.Ythlpfghlildllaa.OFnExactLearnKey
open Go.RowKit Go.Proofs.Ythlpfghlildllaa.OWord Go.Proofs.YthlpfghlildllaaW.PrintWords Go.Proofs.YthlpfghlildllaaW.PrintLast Go.Proofs.YthlpfghlildllaaW.PrintMore
attribute [local go_sem] max2_int min2_int max_two min_two max_three min_three max_four min_four   -- for this text's walks alone
set_option linter.unusedVariables false
set_option linter.unusedSimpArgs false

/-! ### laws_heldKnown: function 32 -/
def laws_heldKnown.f (k : Nat) (l0_0 : List ByteArray) (l0_1 : List Int) (a1 : Int) : Option (Int) := (laws_heldStringS.f k l0_0 a1).bind fun t299 => (if t299 < 0 then (some (-1)) else ((laws_heldIntS.f k l0_1 t299).bind fun t300 => (if t300 < 0 then (some (-1)) else (some t300))))
theorem laws_heldKnown.mono : ∀ a0 a1 a2 k, LeO (laws_heldKnown.f k a0 a1 a2) (laws_heldKnown.f (k + 1) a0 a1 a2) := by
 intro a0 a1 a2 k
 unfold laws_heldKnown.f
 repeat' first
   | (with_reducible exact laws_heldIntS.mono _ _ _)
   | (with_reducible exact laws_heldStringS.mono _ _ _)
   | (with_reducible exact LeO.refl _)
   | (with_reducible exact LeO.none _)
   | (with_reducible refine LeO.ite ?_ ?_)
   | (with_reducible refine LeO.bind ?_ (fun _ => ?_))
   | exact laws_heldIntS.mono _ _ _
   | exact laws_heldStringS.mono _ _ _
   | exact LeO.none _
   | refine LeO.ite ?_ ?_
   | refine LeO.bind ?_ (fun _ => ?_)
set_option maxHeartbeats 8000000 in
set_option maxRecDepth 100000 in
theorem laws_heldKnown.calls (k : Nat) (A0_0 : Option Addr) (c0_0 : Nat) (l0_0 : List ByteArray) (A0_1 : Option Addr) (c0_1 : Nat) (l0_1 : List Int) (a1 : Int) (r : Int) (w : World) (hr0_0 : Kd.C Kd.string w A0_0 l0_0.length l0_0) (hc0_0 : l0_0.length ≤ c0_0) (hr0_1 : Kd.C (Kd.int .i64) w A0_1 l0_1.length l0_1) (hc0_1 : l0_1.length ≤ c0_1) (h : laws_heldKnown.f k l0_0 l0_1 a1 = some r) :
  Calls Try.prog 32 #[.agg #[.slice A0_0 l0_0.length c0_0, .slice A0_1 l0_1.length c0_1], .int .i64 a1] w fun e w' => e = .returned (.int .i64 r) ∧ Below w.heap.size w w' := by
 have hu27 := Try.underlying27
 have HR0_0 := Aside0.mk hr0_0
 have HC0_0 := Aside0.mk hc0_0
 clear hr0_0 hc0_0
 have HR0_1 := Aside0.mk hr0_1
 have HC0_1 := Aside0.mk hc0_1
 clear hr0_1 hc0_1
 have HB := Aside0.mk (Below.refl w.heap.size w)
 have H : ((laws_heldStringS.f k l0_0 a1).bind fun t299 => (if t299 < 0 then (some (-1)) else ((laws_heldIntS.f k l0_1 t299).bind fun t300 => (if t300 < 0 then (some (-1)) else (some t300))))) = some r := h
 clear h
 replace H := Option.bind_eq_some_iff.mp H
 obtain ⟨t299, A30, H⟩ := H
 replace H : (if t299 < 0 then (some (-1)) else ((laws_heldIntS.f k l0_1 t299).bind fun t300 => (if t300 < 0 then (some (-1)) else (some t300)))) = some r := H
 have A3 := Aside0.mk A30
 clear A30
 by_cases c4 : t299 < 0
 ·rw [if_pos c4] at H
  have c4b0 : decide (t299 < 0) = true := decide_eq_true c4
  clear c4
  obtain rfl := Option.some.inj H
  go_enter Try.func32, Try.ntmps32
  go_wp2_with (first | ((with_reducible refine gate_dst (N := 2) rfl ?_); refine box_event ?hg (N := 2) ?hd (cs := #[.slice A0_0 l0_0.length c0_0, .slice A0_1 l0_1.length c0_1]) (t := 27) ?hr ?_; (case hd => rfl); (case hg => rfl); (case hr => first | (go_simp; done) | (go_simp; rfl)); intro gb298 hg w5 hbox hb; have n0_ := Aside0.mk (below_step bH hb); have n1_ := Aside0.mk (hbox); have n2_ := Aside0.mk ((bZ hg : w.heap.size ≤ gb298)); have n3_ := Aside0.mk ((bZ hg : w.heap.size ≤ gb298)); clear HB; have HB := n0_; have BK298 := n1_; have GW298 := n2_; have GE298 := n3_; clear n0_ n1_ n2_ n3_; clear hb hbox hg; have hcz6_0 : w5.cell? ⟨gb298, 0, none⟩ = some (.slice A0_0 l0_0.length c0_0) := (blk_cell BK298.out 0).trans rfl; have hcz6_1 : w5.cell? ⟨gb298, 1, none⟩ = some (.slice A0_1 l0_1.length c0_1) := (blk_cell BK298.out 1).trans rfl; have hfz6_0 := blk_frozen BK298.out 0; have hfz6_1 := blk_frozen BK298.out 1) | ((with_reducible refine gate_callee (f := 68) rfl ?_); refine goesL_ (some 8) rfl rfl Try.func68 (by kernel_rfl) rfl #[.slice A0_0 l0_0.length c0_0, .int .i64 a1] rfl eA ?_; (with_reducible refine (laws_heldStringS.calls k _ _ l0_0 a1 t299 _ ?side1 ?side2 A3.out).mono ?_); (case side1 => repeat (first | exact (Kd.C_below HR0_0.out HB.out) | (with_reducible refine Kd.C_alloc ?_ _) | (with_reducible refine Kd.C_drewN ?_ _) | (with_reducible refine Kd.C_drew ?_))); (case side2 => exact HC0_0.out); rintro e w7 ⟨rfl, hb⟩; refine ⟨_, rfl, ?_⟩; have n0_ := Aside0.mk (blk_below (kB BK298.out) hb); have n1_ := Aside0.mk (below_step bS hb); clear BK298; clear HB; have BK298 := n0_; have HB := n1_; clear n0_ n1_; (try clear hb); (try clear hb2); (try clear hk); (try clear hi)))
  go_ret
  exact ⟨eE, bS⟩
 ·rw [if_neg c4] at H
  have c4b0 : decide (t299 < 0) = false := decide_eq_false c4
  clear c4
  replace H := Option.bind_eq_some_iff.mp H
  obtain ⟨t300, A80, H⟩ := H
  replace H : (if t300 < 0 then (some (-1)) else (some t300)) = some r := H
  have A8 := Aside0.mk A80
  clear A80
  by_cases c9 : t300 < 0
  ·rw [if_pos c9] at H
   have c9b0 : decide (t300 < 0) = true := decide_eq_true c9
   clear c9
   obtain rfl := Option.some.inj H
   go_enter Try.func32, Try.ntmps32
   go_wp2_with (first | ((with_reducible refine gate_dst (N := 2) rfl ?_); refine box_event ?hg (N := 2) ?hd (cs := #[.slice A0_0 l0_0.length c0_0, .slice A0_1 l0_1.length c0_1]) (t := 27) ?hr ?_; (case hd => rfl); (case hg => rfl); (case hr => first | (go_simp; done) | (go_simp; rfl)); intro gb298 hg w10 hbox hb; have n0_ := Aside0.mk (below_step bH hb); have n1_ := Aside0.mk (hbox); have n2_ := Aside0.mk ((bZ hg : w.heap.size ≤ gb298)); have n3_ := Aside0.mk ((bZ hg : w.heap.size ≤ gb298)); clear HB; have HB := n0_; have BK298 := n1_; have GW298 := n2_; have GE298 := n3_; clear n0_ n1_ n2_ n3_; clear hb hbox hg; have hcz11_0 : w10.cell? ⟨gb298, 0, none⟩ = some (.slice A0_0 l0_0.length c0_0) := (blk_cell BK298.out 0).trans rfl; have hcz11_1 : w10.cell? ⟨gb298, 1, none⟩ = some (.slice A0_1 l0_1.length c0_1) := (blk_cell BK298.out 1).trans rfl; have hfz11_0 := blk_frozen BK298.out 0; have hfz11_1 := blk_frozen BK298.out 1) | ((with_reducible refine gate_callee (f := 68) rfl ?_); refine goesL_ (some 8) rfl rfl Try.func68 (by kernel_rfl) rfl #[.slice A0_0 l0_0.length c0_0, .int .i64 a1] rfl eA ?_; (with_reducible refine (laws_heldStringS.calls k _ _ l0_0 a1 t299 _ ?side1 ?side2 A3.out).mono ?_); (case side1 => repeat (first | exact (Kd.C_below HR0_0.out HB.out) | (with_reducible refine Kd.C_alloc ?_ _) | (with_reducible refine Kd.C_drewN ?_ _) | (with_reducible refine Kd.C_drew ?_))); (case side2 => exact HC0_0.out); rintro e w12 ⟨rfl, hb⟩; refine ⟨_, rfl, ?_⟩; have n0_ := Aside0.mk (blk_below (kB BK298.out) hb); have n1_ := Aside0.mk (below_step bS hb); clear BK298; clear HB; have BK298 := n0_; have HB := n1_; clear n0_ n1_; (try clear hb); (try clear hb2); (try clear hk); (try clear hi); have hcz13_0 : w12.cell? ⟨gb298, 0, none⟩ = some (.slice A0_0 l0_0.length c0_0) := (blk_cell BK298.out 0).trans rfl; have hcz13_1 : w12.cell? ⟨gb298, 1, none⟩ = some (.slice A0_1 l0_1.length c0_1) := (blk_cell BK298.out 1).trans rfl; have hfz13_0 := blk_frozen BK298.out 0; have hfz13_1 := blk_frozen BK298.out 1) | ((with_reducible refine gate_callee (f := 35) rfl ?_); refine goesL_ (some 14) rfl rfl Try.func35 (by kernel_rfl) rfl #[.slice A0_1 l0_1.length c0_1, .int .i64 t299] rfl eA ?_; (with_reducible refine (laws_heldIntS.calls k _ _ l0_1 t299 t300 _ ?side1 ?side2 A8.out).mono ?_); (case side1 => repeat (first | exact (Kd.C_below HR0_1.out HB.out) | (with_reducible refine Kd.C_alloc ?_ _) | (with_reducible refine Kd.C_drewN ?_ _) | (with_reducible refine Kd.C_drew ?_))); (case side2 => exact HC0_1.out); rintro e w' ⟨rfl, ⟨nd, rfl⟩⟩; refine ⟨_, rfl, ?_⟩))
   go_ret
   exact ⟨eE, bS⟩
  ·rw [if_neg c9] at H
   have c9b0 : decide (t300 < 0) = false := decide_eq_false c9
   clear c9
   obtain rfl := Option.some.inj H
   go_enter Try.func32, Try.ntmps32
   go_wp2_with (first | ((with_reducible refine gate_dst (N := 2) rfl ?_); refine box_event ?hg (N := 2) ?hd (cs := #[.slice A0_0 l0_0.length c0_0, .slice A0_1 l0_1.length c0_1]) (t := 27) ?hr ?_; (case hd => rfl); (case hg => rfl); (case hr => first | (go_simp; done) | (go_simp; rfl)); intro gb298 hg w14 hbox hb; have n0_ := Aside0.mk (below_step bH hb); have n1_ := Aside0.mk (hbox); have n2_ := Aside0.mk ((bZ hg : w.heap.size ≤ gb298)); have n3_ := Aside0.mk ((bZ hg : w.heap.size ≤ gb298)); clear HB; have HB := n0_; have BK298 := n1_; have GW298 := n2_; have GE298 := n3_; clear n0_ n1_ n2_ n3_; clear hb hbox hg; have hcz15_0 : w14.cell? ⟨gb298, 0, none⟩ = some (.slice A0_0 l0_0.length c0_0) := (blk_cell BK298.out 0).trans rfl; have hcz15_1 : w14.cell? ⟨gb298, 1, none⟩ = some (.slice A0_1 l0_1.length c0_1) := (blk_cell BK298.out 1).trans rfl; have hfz15_0 := blk_frozen BK298.out 0; have hfz15_1 := blk_frozen BK298.out 1) | ((with_reducible refine gate_callee (f := 68) rfl ?_); refine goesL_ (some 8) rfl rfl Try.func68 (by kernel_rfl) rfl #[.slice A0_0 l0_0.length c0_0, .int .i64 a1] rfl eA ?_; (with_reducible refine (laws_heldStringS.calls k _ _ l0_0 a1 t299 _ ?side1 ?side2 A3.out).mono ?_); (case side1 => repeat (first | exact (Kd.C_below HR0_0.out HB.out) | (with_reducible refine Kd.C_alloc ?_ _) | (with_reducible refine Kd.C_drewN ?_ _) | (with_reducible refine Kd.C_drew ?_))); (case side2 => exact HC0_0.out); rintro e w16 ⟨rfl, hb⟩; refine ⟨_, rfl, ?_⟩; have n0_ := Aside0.mk (blk_below (kB BK298.out) hb); have n1_ := Aside0.mk (below_step bS hb); clear BK298; clear HB; have BK298 := n0_; have HB := n1_; clear n0_ n1_; (try clear hb); (try clear hb2); (try clear hk); (try clear hi); have hcz17_0 : w16.cell? ⟨gb298, 0, none⟩ = some (.slice A0_0 l0_0.length c0_0) := (blk_cell BK298.out 0).trans rfl; have hcz17_1 : w16.cell? ⟨gb298, 1, none⟩ = some (.slice A0_1 l0_1.length c0_1) := (blk_cell BK298.out 1).trans rfl; have hfz17_0 := blk_frozen BK298.out 0; have hfz17_1 := blk_frozen BK298.out 1) | ((with_reducible refine gate_callee (f := 35) rfl ?_); refine goesL_ (some 14) rfl rfl Try.func35 (by kernel_rfl) rfl #[.slice A0_1 l0_1.length c0_1, .int .i64 t299] rfl eA ?_; (with_reducible refine (laws_heldIntS.calls k _ _ l0_1 t299 t300 _ ?side1 ?side2 A8.out).mono ?_); (case side1 => repeat (first | exact (Kd.C_below HR0_1.out HB.out) | (with_reducible refine Kd.C_alloc ?_ _) | (with_reducible refine Kd.C_drewN ?_ _) | (with_reducible refine Kd.C_drew ?_))); (case side2 => exact HC0_1.out); rintro e w' ⟨rfl, ⟨nd, rfl⟩⟩; refine ⟨_, rfl, ?_⟩))
   go_ret
   exact ⟨eE, bS⟩

/-! ### laws_FnExactLearnKey: function 7 -/
def laws_FnExactLearnKey.j0 : Nat → Int → Bool → List ByteArray → List Int → List ByteArray → List Int → List ByteArray → List Int → Option (Bool)
 | 0, _, _, _, _, _, _, _, _ => none
 | k + 1, x1, x46, x302000, x302001, x316000, x316001, x330000, x330001 => if x46 = true then (some false) else ((laws_markKnown.f k x330000 x330001 1).bind fun bt342 => ((laws_heldKnown.f k bt342.2.1 bt342.2.2 1).bind fun t345 => (if t345 < 0 then (some false) else (if t345 = bt342.1 then ((laws_toKnown.f k x302000 x302001).bind fun bt346 => ((impl_LearnKey.f k bt346.1 bt346.2 x1).bind fun bt352 => ((laws_eqKnown.f k bt352.1 bt352.2 x316000 x316001).bind fun t359 => (if t359 = true then ((laws_heldKnown.f k bt342.2.1 bt342.2.2 1).bind fun t360 => (if t360 < 0 then (some false) else (if t360 = bt342.1 then (some true) else (some false)))) else (some false))))) else (some false)))))
def laws_FnExactLearnKey.f (k : Nat) (l0_0 : List ByteArray) (l0_1 : List Int) (a1 : Int) : Option (Bool) := (laws_szKnown.f k l0_0 l0_1 1048576).bind fun t302 => (if t302 < 0 then (some true) else ((laws_toKnown.f k l0_0 l0_1).bind fun bt303 => ((spec_LearnKey.f k bt303.1 bt303.2 a1).bind fun bt309 => ((laws_toKnown.f k l0_0 l0_1).bind fun bt316 => ((impl_LearnKey.f k bt316.1 bt316.2 a1).bind fun bt323 => ((laws_eqKnown.f k bt323.1 bt323.2 bt309.1 bt309.2).bind fun t330 => (if t330 = true then ((laws_toKnown.f k l0_0 l0_1).bind fun bt331 => ((laws_eqKnown.f k bt316.1 bt316.2 bt331.1 bt331.2).bind fun t337 => (if t337 = true then ((laws_markKnown.f k bt316.1 bt316.2 1).bind fun bt338 => (if bt338.1 < 0 then (laws_FnExactLearnKey.j0 k a1 true l0_0 l0_1 bt309.1 bt309.2 bt323.1 bt323.2) else ((laws_eqKnown.f k bt323.1 bt323.2 bt309.1 bt309.2).bind fun t341 => (laws_FnExactLearnKey.j0 k a1 (!t341) l0_0 l0_1 bt309.1 bt309.2 bt323.1 bt323.2)))) else (some false)))) else (some false))))))))
theorem laws_FnExactLearnKey.mono_l : ∀ k, (∀ y0 y1 y2 y3 y4 y5 y6 y7, LeO (laws_FnExactLearnKey.j0 k y0 y1 y2 y3 y4 y5 y6 y7) (laws_FnExactLearnKey.j0 (k + 1) y0 y1 y2 y3 y4 y5 y6 y7))
 | 0 => fun _ _ _ _ _ _ _ _ r h => by simp [laws_FnExactLearnKey.j0] at h
 | k + 1 => by
  have ih0 := laws_FnExactLearnKey.mono_l k
  ·intro y0 y1 y2 y3 y4 y5 y6 y7
   unfold laws_FnExactLearnKey.j0
   repeat' first
   | (with_reducible exact ih0 _ _ _ _ _ _ _ _)
   | (with_reducible exact impl_LearnKey.mono _ _ _ _)
   | (with_reducible exact laws_eqKnown.mono _ _ _ _ _)
   | (with_reducible exact laws_heldKnown.mono _ _ _ _)
   | (with_reducible exact laws_markKnown.mono _ _ _ _)
   | (with_reducible exact laws_szKnown.mono _ _ _ _)
   | (with_reducible exact laws_toKnown.mono _ _ _)
   | (with_reducible exact spec_LearnKey.mono _ _ _ _)
   | (with_reducible exact LeO.refl _)
   | (with_reducible exact LeO.none _)
   | (with_reducible refine LeO.ite ?_ ?_)
   | (with_reducible refine LeO.bind ?_ (fun _ => ?_))
   | exact ih0 _ _ _ _ _ _ _ _
   | exact impl_LearnKey.mono _ _ _ _
   | exact laws_eqKnown.mono _ _ _ _ _
   | exact laws_heldKnown.mono _ _ _ _
   | exact laws_markKnown.mono _ _ _ _
   | exact laws_szKnown.mono _ _ _ _
   | exact laws_toKnown.mono _ _ _
   | exact spec_LearnKey.mono _ _ _ _
   | exact LeO.none _
   | refine LeO.ite ?_ ?_
   | refine LeO.bind ?_ (fun _ => ?_)
theorem laws_FnExactLearnKey.mono : ∀ a0 a1 a2 k, LeO (laws_FnExactLearnKey.f k a0 a1 a2) (laws_FnExactLearnKey.f (k + 1) a0 a1 a2) := by
 intro a0 a1 a2 k
 have ih0 := laws_FnExactLearnKey.mono_l k
 unfold laws_FnExactLearnKey.f
 repeat' first
   | (with_reducible exact ih0 _ _ _ _ _ _ _ _)
   | (with_reducible exact impl_LearnKey.mono _ _ _ _)
   | (with_reducible exact laws_eqKnown.mono _ _ _ _ _)
   | (with_reducible exact laws_heldKnown.mono _ _ _ _)
   | (with_reducible exact laws_markKnown.mono _ _ _ _)
   | (with_reducible exact laws_szKnown.mono _ _ _ _)
   | (with_reducible exact laws_toKnown.mono _ _ _)
   | (with_reducible exact spec_LearnKey.mono _ _ _ _)
   | (with_reducible exact LeO.refl _)
   | (with_reducible exact LeO.none _)
   | (with_reducible refine LeO.ite ?_ ?_)
   | (with_reducible refine LeO.bind ?_ (fun _ => ?_))
   | exact ih0 _ _ _ _ _ _ _ _
   | exact impl_LearnKey.mono _ _ _ _
   | exact laws_eqKnown.mono _ _ _ _ _
   | exact laws_heldKnown.mono _ _ _ _
   | exact laws_markKnown.mono _ _ _ _
   | exact laws_szKnown.mono _ _ _ _
   | exact laws_toKnown.mono _ _ _
   | exact spec_LearnKey.mono _ _ _ _
   | exact LeO.none _
   | refine LeO.ite ?_ ?_
   | refine LeO.bind ?_ (fun _ => ?_)
set_option maxHeartbeats 8000000 in
set_option maxRecDepth 100000 in
theorem laws_FnExactLearnKey.calls (k : Nat) (A0_0 : Option Addr) (c0_0 : Nat) (l0_0 : List ByteArray) (A0_1 : Option Addr) (c0_1 : Nat) (l0_1 : List Int) (a1 : Int) (r : Bool) (w : World) (hr0_0 : Kd.C Kd.string w A0_0 l0_0.length l0_0) (hc0_0 : l0_0.length ≤ c0_0) (hr0_1 : Kd.C (Kd.int .i64) w A0_1 l0_1.length l0_1) (hc0_1 : l0_1.length ≤ c0_1) (h : laws_FnExactLearnKey.f k l0_0 l0_1 a1 = some r) (hr_true : Aside0 (r = true)) :
  Calls Try.prog 7 #[.agg #[.slice A0_0 l0_0.length c0_0, .slice A0_1 l0_1.length c0_1], .int .i64 a1] w fun e w' => e = .returned (.bool r) ∧ Below w.heap.size w w' := by
 have hu42 := Try.underlying42
 have hu27 := Try.underlying27
 have HR0_0 := Aside0.mk hr0_0
 have HC0_0 := Aside0.mk hc0_0
 clear hr0_0 hc0_0
 have HR0_1 := Aside0.mk hr0_1
 have HC0_1 := Aside0.mk hc0_1
 clear hr0_1 hc0_1
 have HB := Aside0.mk (Below.refl w.heap.size w)
 have H : ((laws_szKnown.f k l0_0 l0_1 1048576).bind fun t302 => (if t302 < 0 then (some true) else ((laws_toKnown.f k l0_0 l0_1).bind fun bt303 => ((spec_LearnKey.f k bt303.1 bt303.2 a1).bind fun bt309 => ((laws_toKnown.f k l0_0 l0_1).bind fun bt316 => ((impl_LearnKey.f k bt316.1 bt316.2 a1).bind fun bt323 => ((laws_eqKnown.f k bt323.1 bt323.2 bt309.1 bt309.2).bind fun t330 => (if t330 = true then ((laws_toKnown.f k l0_0 l0_1).bind fun bt331 => ((laws_eqKnown.f k bt316.1 bt316.2 bt331.1 bt331.2).bind fun t337 => (if t337 = true then ((laws_markKnown.f k bt316.1 bt316.2 1).bind fun bt338 => (if bt338.1 < 0 then (laws_FnExactLearnKey.j0 k a1 true l0_0 l0_1 bt309.1 bt309.2 bt323.1 bt323.2) else ((laws_eqKnown.f k bt323.1 bt323.2 bt309.1 bt309.2).bind fun t341 => (laws_FnExactLearnKey.j0 k a1 (!t341) l0_0 l0_1 bt309.1 bt309.2 bt323.1 bt323.2)))) else (some false)))) else (some false))))))))) = some r := h
 clear h
 replace H := Option.bind_eq_some_iff.mp H
 obtain ⟨t302, A30, H⟩ := H
 replace H : (if t302 < 0 then (some true) else ((laws_toKnown.f k l0_0 l0_1).bind fun bt303 => ((spec_LearnKey.f k bt303.1 bt303.2 a1).bind fun bt309 => ((laws_toKnown.f k l0_0 l0_1).bind fun bt316 => ((impl_LearnKey.f k bt316.1 bt316.2 a1).bind fun bt323 => ((laws_eqKnown.f k bt323.1 bt323.2 bt309.1 bt309.2).bind fun t330 => (if t330 = true then ((laws_toKnown.f k l0_0 l0_1).bind fun bt331 => ((laws_eqKnown.f k bt316.1 bt316.2 bt331.1 bt331.2).bind fun t337 => (if t337 = true then ((laws_markKnown.f k bt316.1 bt316.2 1).bind fun bt338 => (if bt338.1 < 0 then (laws_FnExactLearnKey.j0 k a1 true l0_0 l0_1 bt309.1 bt309.2 bt323.1 bt323.2) else ((laws_eqKnown.f k bt323.1 bt323.2 bt309.1 bt309.2).bind fun t341 => (laws_FnExactLearnKey.j0 k a1 (!t341) l0_0 l0_1 bt309.1 bt309.2 bt323.1 bt323.2)))) else (some false)))) else (some false)))))))) = some r := H
 have A3 := Aside0.mk A30
 clear A30
 by_cases c4 : t302 < 0
 ·rw [if_pos c4] at H
  have c4b0 : decide (t302 < 0) = true := decide_eq_true c4
  clear c4
  obtain rfl := Option.some.inj H
  go_enter Try.func7, Try.ntmps7
  go_wp2_with (first | ((with_reducible refine gate_dst (N := 2) rfl ?_); refine box_event ?hg (N := 2) ?hd (cs := #[.slice A0_0 l0_0.length c0_0, .slice A0_1 l0_1.length c0_1]) (t := 42) ?hr ?_; (case hd => rfl); (case hg => rfl); (case hr => first | (go_simp; done) | (go_simp; rfl)); intro gb301 hg w5 hbox hb; have n0_ := Aside0.mk (below_step bH hb); have n1_ := Aside0.mk (hbox); have n2_ := Aside0.mk ((bZ hg : w.heap.size ≤ gb301)); have n3_ := Aside0.mk ((bZ hg : w.heap.size ≤ gb301)); clear HB; have HB := n0_; have BK301 := n1_; have GW301 := n2_; have GE301 := n3_; clear n0_ n1_ n2_ n3_; clear hb hbox hg; have hcz6_0 : w5.cell? ⟨gb301, 0, none⟩ = some (.slice A0_0 l0_0.length c0_0) := (blk_cell BK301.out 0).trans rfl; have hcz6_1 : w5.cell? ⟨gb301, 1, none⟩ = some (.slice A0_1 l0_1.length c0_1) := (blk_cell BK301.out 1).trans rfl; have hfz6_0 := blk_frozen BK301.out 0; have hfz6_1 := blk_frozen BK301.out 1) | ((with_reducible refine gate_callee (f := 27) rfl ?_); refine goesL_ (some 15) rfl rfl Try.func27 (by kernel_rfl) rfl #[.agg #[.slice A0_0 l0_0.length c0_0, .slice A0_1 l0_1.length c0_1], .int .i64 1048576] rfl eA ?_; (with_reducible refine (laws_szKnown.calls k _ _ l0_0 _ _ l0_1 1048576 t302 _ ?side1 ?side2 ?side3 ?side4 A3.out).mono ?_); (case side1 => repeat (first | exact (Kd.C_below HR0_0.out HB.out) | (with_reducible refine Kd.C_alloc ?_ _) | (with_reducible refine Kd.C_drewN ?_ _) | (with_reducible refine Kd.C_drew ?_))); (case side2 => exact HC0_0.out); (case side3 => repeat (first | exact (Kd.C_below HR0_1.out HB.out) | (with_reducible refine Kd.C_alloc ?_ _) | (with_reducible refine Kd.C_drewN ?_ _) | (with_reducible refine Kd.C_drew ?_))); (case side4 => exact HC0_1.out); rintro e w7 ⟨rfl, hb⟩; refine ⟨_, rfl, ?_⟩; have n0_ := Aside0.mk (blk_below (kB BK301.out) hb); have n1_ := Aside0.mk (below_step bS hb); clear BK301; clear HB; have BK301 := n0_; have HB := n1_; clear n0_ n1_; (try clear hb); (try clear hb2); (try clear hk); (try clear hi)))
  go_ret
  exact ⟨eE, bS⟩
 ·rw [if_neg c4] at H
  have c4b0 : decide (t302 < 0) = false := decide_eq_false c4
  clear c4
  replace H := Option.bind_eq_some_iff.mp H
  obtain ⟨⟨t303, t306⟩, A80, H⟩ := H
  replace H : ((spec_LearnKey.f k t303 t306 a1).bind fun bt309 => ((laws_toKnown.f k l0_0 l0_1).bind fun bt316 => ((impl_LearnKey.f k bt316.1 bt316.2 a1).bind fun bt323 => ((laws_eqKnown.f k bt323.1 bt323.2 bt309.1 bt309.2).bind fun t330 => (if t330 = true then ((laws_toKnown.f k l0_0 l0_1).bind fun bt331 => ((laws_eqKnown.f k bt316.1 bt316.2 bt331.1 bt331.2).bind fun t337 => (if t337 = true then ((laws_markKnown.f k bt316.1 bt316.2 1).bind fun bt338 => (if bt338.1 < 0 then (laws_FnExactLearnKey.j0 k a1 true l0_0 l0_1 bt309.1 bt309.2 bt323.1 bt323.2) else ((laws_eqKnown.f k bt323.1 bt323.2 bt309.1 bt309.2).bind fun t341 => (laws_FnExactLearnKey.j0 k a1 (!t341) l0_0 l0_1 bt309.1 bt309.2 bt323.1 bt323.2)))) else (some false)))) else (some false)))))) = some r := H
  have A8 := Aside0.mk A80
  clear A80
  replace H := Option.bind_eq_some_iff.mp H
  obtain ⟨⟨t309, t312⟩, A90, H⟩ := H
  replace H : ((laws_toKnown.f k l0_0 l0_1).bind fun bt316 => ((impl_LearnKey.f k bt316.1 bt316.2 a1).bind fun bt323 => ((laws_eqKnown.f k bt323.1 bt323.2 t309 t312).bind fun t330 => (if t330 = true then ((laws_toKnown.f k l0_0 l0_1).bind fun bt331 => ((laws_eqKnown.f k bt316.1 bt316.2 bt331.1 bt331.2).bind fun t337 => (if t337 = true then ((laws_markKnown.f k bt316.1 bt316.2 1).bind fun bt338 => (if bt338.1 < 0 then (laws_FnExactLearnKey.j0 k a1 true l0_0 l0_1 t309 t312 bt323.1 bt323.2) else ((laws_eqKnown.f k bt323.1 bt323.2 t309 t312).bind fun t341 => (laws_FnExactLearnKey.j0 k a1 (!t341) l0_0 l0_1 t309 t312 bt323.1 bt323.2)))) else (some false)))) else (some false))))) = some r := H
  have A9 := Aside0.mk A90
  clear A90
  replace H := Option.bind_eq_some_iff.mp H
  obtain ⟨⟨t316, t319⟩, A100, H⟩ := H
  replace H : ((impl_LearnKey.f k t316 t319 a1).bind fun bt323 => ((laws_eqKnown.f k bt323.1 bt323.2 t309 t312).bind fun t330 => (if t330 = true then ((laws_toKnown.f k l0_0 l0_1).bind fun bt331 => ((laws_eqKnown.f k t316 t319 bt331.1 bt331.2).bind fun t337 => (if t337 = true then ((laws_markKnown.f k t316 t319 1).bind fun bt338 => (if bt338.1 < 0 then (laws_FnExactLearnKey.j0 k a1 true l0_0 l0_1 t309 t312 bt323.1 bt323.2) else ((laws_eqKnown.f k bt323.1 bt323.2 t309 t312).bind fun t341 => (laws_FnExactLearnKey.j0 k a1 (!t341) l0_0 l0_1 t309 t312 bt323.1 bt323.2)))) else (some false)))) else (some false)))) = some r := H
  have A10 := Aside0.mk A100
  clear A100
  replace H := Option.bind_eq_some_iff.mp H
  obtain ⟨⟨t323, t326⟩, A110, H⟩ := H
  replace H : ((laws_eqKnown.f k t323 t326 t309 t312).bind fun t330 => (if t330 = true then ((laws_toKnown.f k l0_0 l0_1).bind fun bt331 => ((laws_eqKnown.f k t316 t319 bt331.1 bt331.2).bind fun t337 => (if t337 = true then ((laws_markKnown.f k t316 t319 1).bind fun bt338 => (if bt338.1 < 0 then (laws_FnExactLearnKey.j0 k a1 true l0_0 l0_1 t309 t312 t323 t326) else ((laws_eqKnown.f k t323 t326 t309 t312).bind fun t341 => (laws_FnExactLearnKey.j0 k a1 (!t341) l0_0 l0_1 t309 t312 t323 t326)))) else (some false)))) else (some false))) = some r := H
  have A11 := Aside0.mk A110
  clear A110
  replace H := Option.bind_eq_some_iff.mp H
  obtain ⟨t330, A120, H⟩ := H
  replace H : (if t330 = true then ((laws_toKnown.f k l0_0 l0_1).bind fun bt331 => ((laws_eqKnown.f k t316 t319 bt331.1 bt331.2).bind fun t337 => (if t337 = true then ((laws_markKnown.f k t316 t319 1).bind fun bt338 => (if bt338.1 < 0 then (laws_FnExactLearnKey.j0 k a1 true l0_0 l0_1 t309 t312 t323 t326) else ((laws_eqKnown.f k t323 t326 t309 t312).bind fun t341 => (laws_FnExactLearnKey.j0 k a1 (!t341) l0_0 l0_1 t309 t312 t323 t326)))) else (some false)))) else (some false)) = some r := H
  have A12 := Aside0.mk A120
  clear A120
  by_cases c13 : t330 = true
  ·subst c13
   have H1 : ((laws_toKnown.f k l0_0 l0_1).bind fun bt331 => ((laws_eqKnown.f k t316 t319 bt331.1 bt331.2).bind fun t337 => (if t337 = true then ((laws_markKnown.f k t316 t319 1).bind fun bt338 => (if bt338.1 < 0 then (laws_FnExactLearnKey.j0 k a1 true l0_0 l0_1 t309 t312 t323 t326) else ((laws_eqKnown.f k t323 t326 t309 t312).bind fun t341 => (laws_FnExactLearnKey.j0 k a1 (!t341) l0_0 l0_1 t309 t312 t323 t326)))) else (some false)))) = some r := by rw [if_pos rfl] at H; exact H
   clear H
   have H := H1
   clear H1
   replace H := Option.bind_eq_some_iff.mp H
   obtain ⟨⟨t331, t334⟩, A140, H⟩ := H
   replace H : ((laws_eqKnown.f k t316 t319 t331 t334).bind fun t337 => (if t337 = true then ((laws_markKnown.f k t316 t319 1).bind fun bt338 => (if bt338.1 < 0 then (laws_FnExactLearnKey.j0 k a1 true l0_0 l0_1 t309 t312 t323 t326) else ((laws_eqKnown.f k t323 t326 t309 t312).bind fun t341 => (laws_FnExactLearnKey.j0 k a1 (!t341) l0_0 l0_1 t309 t312 t323 t326)))) else (some false))) = some r := H
   have A14 := Aside0.mk A140
   clear A140
   replace H := Option.bind_eq_some_iff.mp H
   obtain ⟨t337, A150, H⟩ := H
   replace H : (if t337 = true then ((laws_markKnown.f k t316 t319 1).bind fun bt338 => (if bt338.1 < 0 then (laws_FnExactLearnKey.j0 k a1 true l0_0 l0_1 t309 t312 t323 t326) else ((laws_eqKnown.f k t323 t326 t309 t312).bind fun t341 => (laws_FnExactLearnKey.j0 k a1 (!t341) l0_0 l0_1 t309 t312 t323 t326)))) else (some false)) = some r := H
   have A15 := Aside0.mk A150
   clear A150
   by_cases c16 : t337 = true
   ·subst c16
    have H1 : ((laws_markKnown.f k t316 t319 1).bind fun bt338 => (if bt338.1 < 0 then (laws_FnExactLearnKey.j0 k a1 true l0_0 l0_1 t309 t312 t323 t326) else ((laws_eqKnown.f k t323 t326 t309 t312).bind fun t341 => (laws_FnExactLearnKey.j0 k a1 (!t341) l0_0 l0_1 t309 t312 t323 t326)))) = some r := by rw [if_pos rfl] at H; exact H
    clear H
    have H := H1
    clear H1
    replace H := Option.bind_eq_some_iff.mp H
    obtain ⟨⟨t338, t339, t340⟩, A170, H⟩ := H
    replace H : (if t338 < 0 then (laws_FnExactLearnKey.j0 k a1 true l0_0 l0_1 t309 t312 t323 t326) else ((laws_eqKnown.f k t323 t326 t309 t312).bind fun t341 => (laws_FnExactLearnKey.j0 k a1 (!t341) l0_0 l0_1 t309 t312 t323 t326))) = some r := H
    have A17 := Aside0.mk A170
    clear A170
    have HC18 := Aside0.mk H
    clear H
    go_enter Try.func7, Try.ntmps7
    try go_wp2_with (first | ((with_reducible refine gate_dst (N := 2) rfl ?_); refine box_event ?hg (N := 2) ?hd (cs := #[.slice A0_0 l0_0.length c0_0, .slice A0_1 l0_1.length c0_1]) (t := 42) ?hr ?_; (case hd => rfl); (case hg => rfl); (case hr => first | (go_simp; done) | (go_simp; rfl)); intro gb301 hg w19 hbox hb; have n0_ := Aside0.mk (below_step bH hb); have n1_ := Aside0.mk (hbox); have n2_ := Aside0.mk ((bZ hg : w.heap.size ≤ gb301)); have n3_ := Aside0.mk ((bZ hg : w.heap.size ≤ gb301)); clear HB; have HB := n0_; have BK301 := n1_; have GW301 := n2_; have GE301 := n3_; clear n0_ n1_ n2_ n3_; clear hb hbox hg; have hcz20_0 : w19.cell? ⟨gb301, 0, none⟩ = some (.slice A0_0 l0_0.length c0_0) := (blk_cell BK301.out 0).trans rfl; have hcz20_1 : w19.cell? ⟨gb301, 1, none⟩ = some (.slice A0_1 l0_1.length c0_1) := (blk_cell BK301.out 1).trans rfl; have hfz20_0 := blk_frozen BK301.out 0; have hfz20_1 := blk_frozen BK301.out 1) | ((with_reducible refine gate_callee (f := 27) rfl ?_); refine goesL_ (some 15) rfl rfl Try.func27 (by kernel_rfl) rfl #[.agg #[.slice A0_0 l0_0.length c0_0, .slice A0_1 l0_1.length c0_1], .int .i64 1048576] rfl eA ?_; (with_reducible refine (laws_szKnown.calls k _ _ l0_0 _ _ l0_1 1048576 t302 _ ?side1 ?side2 ?side3 ?side4 A3.out).mono ?_); (case side1 => repeat (first | exact (Kd.C_below HR0_0.out HB.out) | (with_reducible refine Kd.C_alloc ?_ _) | (with_reducible refine Kd.C_drewN ?_ _) | (with_reducible refine Kd.C_drew ?_))); (case side2 => exact HC0_0.out); (case side3 => repeat (first | exact (Kd.C_below HR0_1.out HB.out) | (with_reducible refine Kd.C_alloc ?_ _) | (with_reducible refine Kd.C_drewN ?_ _) | (with_reducible refine Kd.C_drew ?_))); (case side4 => exact HC0_1.out); rintro e w21 ⟨rfl, hb⟩; refine ⟨_, rfl, ?_⟩; have n0_ := Aside0.mk (blk_below (kB BK301.out) hb); have n1_ := Aside0.mk (below_step bS hb); clear BK301; clear HB; have BK301 := n0_; have HB := n1_; clear n0_ n1_; (try clear hb); (try clear hb2); (try clear hk); (try clear hi); have hcz22_0 : w21.cell? ⟨gb301, 0, none⟩ = some (.slice A0_0 l0_0.length c0_0) := (blk_cell BK301.out 0).trans rfl; have hcz22_1 : w21.cell? ⟨gb301, 1, none⟩ = some (.slice A0_1 l0_1.length c0_1) := (blk_cell BK301.out 1).trans rfl; have hfz22_0 := blk_frozen BK301.out 0; have hfz22_1 := blk_frozen BK301.out 1) | ((with_reducible refine gate_callee (f := 28) rfl ?_); refine goesL_ (some 19) rfl rfl Try.func28 (by kernel_rfl) rfl #[.agg #[.slice A0_0 l0_0.length c0_0, .slice A0_1 l0_1.length c0_1]] rfl eA ?_; (with_reducible refine (laws_toKnown.calls k _ _ l0_0 _ _ l0_1 t303 t306 _ ?side1 ?side2 ?side3 ?side4 A8.out).mono ?_); (case side1 => repeat (first | exact (Kd.C_below HR0_0.out HB.out) | (with_reducible refine Kd.C_alloc ?_ _) | (with_reducible refine Kd.C_drewN ?_ _) | (with_reducible refine Kd.C_drew ?_))); (case side2 => exact HC0_0.out); (case side3 => repeat (first | exact (Kd.C_below HR0_1.out HB.out) | (with_reducible refine Kd.C_alloc ?_ _) | (with_reducible refine Kd.C_drewN ?_ _) | (with_reducible refine Kd.C_drew ?_))); (case side4 => exact HC0_1.out); rintro e w23 ⟨v304, v307, rfl, ho0, ho1, hb⟩; refine ⟨_, rfl, ?_⟩; have n0_ := Aside0.mk (Kd.R_lower ho0 (below_size bS)); have n1_ := Aside0.mk (Kd.R_lower ho1 (below_size bS)); have n2_ := Aside0.mk (blk_below (kB BK301.out) hb); have n3_ := Aside0.mk (below_step bS hb); clear BK301; clear HB; have HO305 := n0_; have HO308 := n1_; have BK301 := n2_; have HB := n3_; clear n0_ n1_ n2_ n3_; (try clear hb); (try clear hb2); (try clear hk); (try clear hi); (try clear ho0); (try clear ho1); obtain ⟨Ao24, co24, eo24⟩ := Kd.R_slice HO305.out; subst eo24; obtain ⟨Ao25, co25, eo25⟩ := Kd.R_slice HO308.out; subst eo25) | ((with_reducible refine gate_callee (f := 30) rfl ?_); refine goesL_ (some 21) rfl rfl Try.func30 (by kernel_rfl) rfl #[.agg #[.slice Ao24 t303.length co24, .slice Ao25 t306.length co25], .int .i64 a1] rfl eA ?_; (with_reducible refine (spec_LearnKey.calls k _ _ t303 _ _ t306 a1 t309 t312 _ ?side1 ?side2 ?side3 ?side4 A9.out).mono ?_); (case side1 => repeat (first | exact (Kd.R_reads' HO305.out).2.2 | (with_reducible refine Kd.C_alloc ?_ _) | (with_reducible refine Kd.C_drewN ?_ _) | (with_reducible refine Kd.C_drew ?_))); (case side2 => exact (Kd.R_reads' HO305.out).2.1); (case side3 => repeat (first | exact (Kd.R_reads' HO308.out).2.2 | (with_reducible refine Kd.C_alloc ?_ _) | (with_reducible refine Kd.C_drewN ?_ _) | (with_reducible refine Kd.C_drew ?_))); (case side4 => exact (Kd.R_reads' HO308.out).2.1); rintro e w26 ⟨v310, v313, rfl, ho0, ho1, hb⟩; refine ⟨_, rfl, ?_⟩; have n0_ := Aside0.mk (Kd.R_elder' (kR HO305.out) (Kd.R_base ho0) hb); have n1_ := Aside0.mk (Kd.R_elder' (kR HO308.out) (Kd.R_base ho1) hb); have n2_ := Aside0.mk (Kd.R_lower (Kd.R_new' ho0 (Kd.R_lt (kR HO305.out))) (below_size bS)); have n3_ := Aside0.mk (Kd.R_lower (Kd.R_new' ho1 (Kd.R_lt (kR HO308.out))) (below_size bS)); have n4_ := Aside0.mk (blk_below (kB BK301.out) hb); have n5_ := Aside0.mk (below_step bS hb); clear HO305; clear HO308; clear BK301; clear HB; have HO305 := n0_; have HO308 := n1_; have HO311 := n2_; have HO314 := n3_; have BK301 := n4_; have HB := n5_; clear n0_ n1_ n2_ n3_ n4_ n5_; (try clear hb); (try clear hb2); (try clear hk); (try clear hi); (try clear ho0); (try clear ho1)) | ((with_reducible refine gate_dst (N := 6) rfl ?_); refine box_event ?hg (N := 6) ?hd (cs := #[.slice none 0 0, .slice none 0 0]) (t := 27) ?hr ?_; (case hd => rfl); (case hg => rfl); (case hr => first | (go_simp; done) | (go_simp; rfl)); intro gb315 hg w27 hbox hb; have n0_ := Aside0.mk (Kd.R_below (kR HO305.out) hb); have n1_ := Aside0.mk (Kd.R_below (kR HO308.out) hb); have n2_ := Aside0.mk (Kd.R_below (kR HO311.out) hb); have n3_ := Aside0.mk (Kd.R_below (kR HO314.out) hb); have n4_ := Aside0.mk (blk_below (kB BK301.out) hb); have n5_ := Aside0.mk (below_step bS hb); have n6_ := Aside0.mk (hbox); have n7_ := Aside0.mk ((bZ hg : w.heap.size ≤ gb315)); have n8_ := Aside0.mk ((bZ hg : w.heap.size ≤ gb315)); have n9_ := Aside0.mk ((nL hg BK301.out : gb301 ≠ gb315)); have n10_ := Aside0.mk ((nG hg BK301.out : gb315 ≠ gb301)); clear HO305; clear HO308; clear HO311; clear HO314; clear BK301; clear HB; have HO305 := n0_; have HO308 := n1_; have HO311 := n2_; have HO314 := n3_; have BK301 := n4_; have HB := n5_; have BK315 := n6_; have GW315 := n7_; have GE315 := n8_; have NB301_315 := n9_; have NB315_301 := n10_; clear n0_ n1_ n2_ n3_ n4_ n5_ n6_ n7_ n8_ n9_ n10_; clear hb hbox hg; obtain ⟨Ao28, co28, eo28⟩ := Kd.R_slice HO311.out; subst eo28; have hnb29 := NB315_301.out; have hnc29 := NB301_315.out; have hcz30_0 : w27.cell? ⟨gb315, 0, none⟩ = some (.slice none 0 0) := (blk_cell BK315.out 0).trans rfl; have hcz30_1 : w27.cell? ⟨gb315, 1, none⟩ = some (.slice none 0 0) := (blk_cell BK315.out 1).trans rfl; have hfz30_0 := blk_frozen BK315.out 0; have hfz30_1 := blk_frozen BK315.out 1; obtain ⟨Ao31, co31, eo31⟩ := Kd.R_slice HO314.out; subst eo31; have hcz32_0 : w27.cell? ⟨gb301, 0, none⟩ = some (.slice A0_0 l0_0.length c0_0) := (blk_cell BK301.out 0).trans rfl; have hcz32_1 : w27.cell? ⟨gb301, 1, none⟩ = some (.slice A0_1 l0_1.length c0_1) := (blk_cell BK301.out 1).trans rfl; have hfz32_0 := blk_frozen BK301.out 0; have hfz32_1 := blk_frozen BK301.out 1) | ((with_reducible refine gate_callee (f := 28) rfl ?_); refine goesL_ (some 23) rfl rfl Try.func28 (by kernel_rfl) rfl #[.agg #[.slice A0_0 l0_0.length c0_0, .slice A0_1 l0_1.length c0_1]] rfl eA ?_; (with_reducible refine (laws_toKnown.calls k _ _ l0_0 _ _ l0_1 t316 t319 _ ?side1 ?side2 ?side3 ?side4 A10.out).mono ?_); (case side1 => exact Kd.C_below HR0_0.out bS); (case side2 => exact HC0_0.out); (case side3 => exact Kd.C_below HR0_1.out bS); (case side4 => exact HC0_1.out); rintro e w33 ⟨v317, v320, rfl, ho0, ho1, hb⟩; refine ⟨_, rfl, ?_⟩; have n0_ := Aside0.mk (Kd.R_elder' (by (with_reducible repeat (first | apply Kd.R_alloc | apply Kd.R_drewN | apply Kd.R_drew)); exact (Kd.R_mono (Kd.R_far (p := ⟨gb315, 1, none⟩) (Kd.R_far (p := ⟨gb315, 0, none⟩) (Kd.R_types HO305.out BK315.out (by decide)) (fun _ hk => hk.2) (.slice Ao28 t309.length co28)) (fun _ hk => hk.2) (.slice Ao31 t312.length co31)) (fun _ h_ => h_.1))) (Kd.R_base ho0) hb); have n1_ := Aside0.mk (Kd.R_elder' (by (with_reducible repeat (first | apply Kd.R_alloc | apply Kd.R_drewN | apply Kd.R_drew)); exact (Kd.R_mono (Kd.R_far (p := ⟨gb315, 1, none⟩) (Kd.R_far (p := ⟨gb315, 0, none⟩) (Kd.R_types HO308.out BK315.out (by decide)) (fun _ hk => hk.2) (.slice Ao28 t309.length co28)) (fun _ hk => hk.2) (.slice Ao31 t312.length co31)) (fun _ h_ => h_.1))) (Kd.R_base ho1) hb); have n2_ := Aside0.mk (Kd.R_elder' (by (with_reducible repeat (first | apply Kd.R_alloc | apply Kd.R_drewN | apply Kd.R_drew)); exact (Kd.R_mono (Kd.R_far (p := ⟨gb315, 1, none⟩) (Kd.R_far (p := ⟨gb315, 0, none⟩) (Kd.R_types HO311.out BK315.out (by decide)) (fun _ hk => hk.2) (.slice Ao28 t309.length co28)) (fun _ hk => hk.2) (.slice Ao31 t312.length co31)) (fun _ h_ => h_.1))) (Kd.R_base ho0) hb); have n3_ := Aside0.mk (Kd.R_elder' (by (with_reducible repeat (first | apply Kd.R_alloc | apply Kd.R_drewN | apply Kd.R_drew)); exact (Kd.R_mono (Kd.R_far (p := ⟨gb315, 1, none⟩) (Kd.R_far (p := ⟨gb315, 0, none⟩) (Kd.R_types HO314.out BK315.out (by decide)) (fun _ hk => hk.2) (.slice Ao28 t309.length co28)) (fun _ hk => hk.2) (.slice Ao31 t312.length co31)) (fun _ h_ => h_.1))) (Kd.R_base ho1) hb); have n4_ := Aside0.mk (Kd.R_lower (Kd.R_new' (Kd.R_new' ho0 (Kd.R_lt (by (with_reducible repeat (first | apply Kd.R_alloc | apply Kd.R_drewN | apply Kd.R_drew)); exact (Kd.R_mono (Kd.R_far (p := ⟨gb315, 1, none⟩) (Kd.R_far (p := ⟨gb315, 0, none⟩) (Kd.R_types HO305.out BK315.out (by decide)) (fun _ hk => hk.2) (.slice Ao28 t309.length co28)) (fun _ hk => hk.2) (.slice Ao31 t312.length co31)) (fun _ h_ => h_.1))))) (Kd.R_lt (by (with_reducible repeat (first | apply Kd.R_alloc | apply Kd.R_drewN | apply Kd.R_drew)); exact (Kd.R_mono (Kd.R_far (p := ⟨gb315, 1, none⟩) (Kd.R_far (p := ⟨gb315, 0, none⟩) (Kd.R_types HO311.out BK315.out (by decide)) (fun _ hk => hk.2) (.slice Ao28 t309.length co28)) (fun _ hk => hk.2) (.slice Ao31 t312.length co31)) (fun _ h_ => h_.1))))) (below_size bS)); have n5_ := Aside0.mk (Kd.R_lower (Kd.R_new' (Kd.R_new' ho1 (Kd.R_lt (by (with_reducible repeat (first | apply Kd.R_alloc | apply Kd.R_drewN | apply Kd.R_drew)); exact (Kd.R_mono (Kd.R_far (p := ⟨gb315, 1, none⟩) (Kd.R_far (p := ⟨gb315, 0, none⟩) (Kd.R_types HO308.out BK315.out (by decide)) (fun _ hk => hk.2) (.slice Ao28 t309.length co28)) (fun _ hk => hk.2) (.slice Ao31 t312.length co31)) (fun _ h_ => h_.1))))) (Kd.R_lt (by (with_reducible repeat (first | apply Kd.R_alloc | apply Kd.R_drewN | apply Kd.R_drew)); exact (Kd.R_mono (Kd.R_far (p := ⟨gb315, 1, none⟩) (Kd.R_far (p := ⟨gb315, 0, none⟩) (Kd.R_types HO314.out BK315.out (by decide)) (fun _ hk => hk.2) (.slice Ao28 t309.length co28)) (fun _ hk => hk.2) (.slice Ao31 t312.length co31)) (fun _ h_ => h_.1))))) (below_size bS)); have n6_ := Aside0.mk (blk_below (g := gb301) (o := .cells #[.slice A0_0 l0_0.length c0_0, .slice A0_1 l0_1.length c0_1] 42 (0, 0)) (by (with_reducible repeat (first | refine blk_drewN ?_ _ | refine blk_drew ?_ | refine blk_alloc ?_ _)); refine blk_far ?_ NB301_315.out _; (with_reducible repeat (first | refine blk_drewN ?_ _ | refine blk_drew ?_ | refine blk_alloc ?_ _)); refine blk_far ?_ NB301_315.out _; (with_reducible repeat (first | refine blk_drewN ?_ _ | refine blk_drew ?_ | refine blk_alloc ?_ _)); exact BK301.out) hb); have n7_ := Aside0.mk (blk_below (g := gb315) (o := .cells #[.slice Ao28 t309.length co28, .slice Ao31 t312.length co31] 27 (0, 0)) (by (with_reducible repeat (first | refine blk_drewN ?_ _ | refine blk_drew ?_ | refine blk_alloc ?_ _)); refine blk_put (cs := #[.slice Ao28 t309.length co28, .slice none 0 0]) ?_ 1 _ rfl; (with_reducible repeat (first | refine blk_drewN ?_ _ | refine blk_drew ?_ | refine blk_alloc ?_ _)); refine blk_put (cs := #[.slice none 0 0, .slice none 0 0]) ?_ 0 _ rfl; (with_reducible repeat (first | refine blk_drewN ?_ _ | refine blk_drew ?_ | refine blk_alloc ?_ _)); exact BK315.out) hb); have n8_ := Aside0.mk (below_step bS hb); clear HO305; clear HO308; clear HO311; clear HO314; clear BK301; clear BK315; clear HB; have HO305 := n0_; have HO308 := n1_; have HO311 := n2_; have HO314 := n3_; have HO318 := n4_; have HO321 := n5_; have BK301 := n6_; have BK315 := n7_; have HB := n8_; clear n0_ n1_ n2_ n3_ n4_ n5_ n6_ n7_ n8_; (try clear hb); (try clear hb2); (try clear hk); (try clear hi); (try clear ho0); (try clear ho1)) | ((with_reducible refine gate_dst (N := 7) rfl ?_); refine box_event ?hg (N := 7) ?hd (cs := #[.slice none 0 0, .slice none 0 0]) (t := 27) ?hr ?_; (case hd => rfl); (case hg => rfl); (case hr => first | (go_simp; done) | (go_simp; rfl)); intro gb322 hg w34 hbox hb; have n0_ := Aside0.mk (Kd.R_below (kR HO305.out) hb); have n1_ := Aside0.mk (Kd.R_below (kR HO308.out) hb); have n2_ := Aside0.mk (Kd.R_below (kR HO311.out) hb); have n3_ := Aside0.mk (Kd.R_below (kR HO314.out) hb); have n4_ := Aside0.mk (Kd.R_below (kR HO318.out) hb); have n5_ := Aside0.mk (Kd.R_below (kR HO321.out) hb); have n6_ := Aside0.mk (blk_below (kB BK301.out) hb); have n7_ := Aside0.mk (blk_below (kB BK315.out) hb); have n8_ := Aside0.mk (below_step bS hb); have n9_ := Aside0.mk (hbox); have n10_ := Aside0.mk ((bZ hg : w.heap.size ≤ gb322)); have n11_ := Aside0.mk ((bZ hg : w.heap.size ≤ gb322)); have n12_ := Aside0.mk ((nL hg BK301.out : gb301 ≠ gb322)); have n13_ := Aside0.mk ((nG hg BK301.out : gb322 ≠ gb301)); have n14_ := Aside0.mk ((nL hg BK315.out : gb315 ≠ gb322)); have n15_ := Aside0.mk ((nG hg BK315.out : gb322 ≠ gb315)); clear HO305; clear HO308; clear HO311; clear HO314; clear HO318; clear HO321; clear BK301; clear BK315; clear HB; have HO305 := n0_; have HO308 := n1_; have HO311 := n2_; have HO314 := n3_; have HO318 := n4_; have HO321 := n5_; have BK301 := n6_; have BK315 := n7_; have HB := n8_; have BK322 := n9_; have GW322 := n10_; have GE322 := n11_; have NB301_322 := n12_; have NB322_301 := n13_; have NB315_322 := n14_; have NB322_315 := n15_; clear n0_ n1_ n2_ n3_ n4_ n5_ n6_ n7_ n8_ n9_ n10_ n11_ n12_ n13_ n14_ n15_; clear hb hbox hg; obtain ⟨Ao35, co35, eo35⟩ := Kd.R_slice HO318.out; subst eo35; have hnb36 := NB322_301.out; have hnc36 := NB301_322.out; have hnb37 := NB322_315.out; have hnc37 := NB315_322.out; have hcz38_0 : w34.cell? ⟨gb322, 0, none⟩ = some (.slice none 0 0) := (blk_cell BK322.out 0).trans rfl; have hcz38_1 : w34.cell? ⟨gb322, 1, none⟩ = some (.slice none 0 0) := (blk_cell BK322.out 1).trans rfl; have hfz38_0 := blk_frozen BK322.out 0; have hfz38_1 := blk_frozen BK322.out 1; obtain ⟨Ao39, co39, eo39⟩ := Kd.R_slice HO321.out; subst eo39) | ((with_reducible refine gate_callee (f := 25) rfl ?_); refine goesL_ (some 26) rfl rfl Try.func25 (by kernel_rfl) rfl #[.agg #[.slice Ao35 t316.length co35, .slice Ao39 t319.length co39], .int .i64 a1] rfl eA ?_; (with_reducible refine (impl_LearnKey.calls k _ _ t316 _ _ t319 a1 t323 t326 _ ?side1 ?side2 ?side3 ?side4 A11.out).mono ?_); (case side1 => refine (Kd.R_reads' (e := 9) (base := w.heap.size) (ok := fun k_ => ((True ∧ some k_ ≠ (.slice Ao24 t303.length co24 : Value).ownBlock) ∧ some k_ ≠ (.slice Ao28 t309.length co28 : Value).ownBlock)) (n := t316.length) (c := co35) ?_).2.2; exact (by (with_reducible repeat (first | apply Kd.R_alloc | apply Kd.R_drewN | apply Kd.R_drew)); exact (Kd.R_mono (Kd.R_far (p := ⟨gb322, 1, none⟩) (Kd.R_far (p := ⟨gb322, 0, none⟩) (Kd.R_types HO318.out BK322.out (by decide)) (fun _ hk => hk.2) (.slice Ao35 t316.length co35)) (fun _ hk => hk.2) (.slice Ao39 t319.length co39)) (fun _ h_ => h_.1)))); (case side2 => exact (Kd.R_reads' HO318.out).2.1); (case side3 => refine (Kd.R_reads' (e := 3) (base := w.heap.size) (ok := fun k_ => ((True ∧ some k_ ≠ (.slice Ao25 t306.length co25 : Value).ownBlock) ∧ some k_ ≠ (.slice Ao31 t312.length co31 : Value).ownBlock)) (n := t319.length) (c := co39) ?_).2.2; exact (by (with_reducible repeat (first | apply Kd.R_alloc | apply Kd.R_drewN | apply Kd.R_drew)); exact (Kd.R_mono (Kd.R_far (p := ⟨gb322, 1, none⟩) (Kd.R_far (p := ⟨gb322, 0, none⟩) (Kd.R_types HO321.out BK322.out (by decide)) (fun _ hk => hk.2) (.slice Ao35 t316.length co35)) (fun _ hk => hk.2) (.slice Ao39 t319.length co39)) (fun _ h_ => h_.1)))); (case side4 => exact (Kd.R_reads' HO321.out).2.1); rintro e w40 ⟨v324, v327, rfl, ho0, ho1, hb⟩; refine ⟨_, rfl, ?_⟩; have n0_ := Aside0.mk (Kd.R_elder' (by (with_reducible repeat (first | apply Kd.R_alloc | apply Kd.R_drewN | apply Kd.R_drew)); exact (Kd.R_mono (Kd.R_far (p := ⟨gb322, 1, none⟩) (Kd.R_far (p := ⟨gb322, 0, none⟩) (Kd.R_types HO305.out BK322.out (by decide)) (fun _ hk => hk.2) (.slice Ao35 t316.length co35)) (fun _ hk => hk.2) (.slice Ao39 t319.length co39)) (fun _ h_ => h_.1))) (Kd.R_base ho0) hb); have n1_ := Aside0.mk (Kd.R_elder' (by (with_reducible repeat (first | apply Kd.R_alloc | apply Kd.R_drewN | apply Kd.R_drew)); exact (Kd.R_mono (Kd.R_far (p := ⟨gb322, 1, none⟩) (Kd.R_far (p := ⟨gb322, 0, none⟩) (Kd.R_types HO308.out BK322.out (by decide)) (fun _ hk => hk.2) (.slice Ao35 t316.length co35)) (fun _ hk => hk.2) (.slice Ao39 t319.length co39)) (fun _ h_ => h_.1))) (Kd.R_base ho1) hb); have n2_ := Aside0.mk (Kd.R_elder' (by (with_reducible repeat (first | apply Kd.R_alloc | apply Kd.R_drewN | apply Kd.R_drew)); exact (Kd.R_mono (Kd.R_far (p := ⟨gb322, 1, none⟩) (Kd.R_far (p := ⟨gb322, 0, none⟩) (Kd.R_types HO311.out BK322.out (by decide)) (fun _ hk => hk.2) (.slice Ao35 t316.length co35)) (fun _ hk => hk.2) (.slice Ao39 t319.length co39)) (fun _ h_ => h_.1))) (Kd.R_base ho0) hb); have n3_ := Aside0.mk (Kd.R_elder' (by (with_reducible repeat (first | apply Kd.R_alloc | apply Kd.R_drewN | apply Kd.R_drew)); exact (Kd.R_mono (Kd.R_far (p := ⟨gb322, 1, none⟩) (Kd.R_far (p := ⟨gb322, 0, none⟩) (Kd.R_types HO314.out BK322.out (by decide)) (fun _ hk => hk.2) (.slice Ao35 t316.length co35)) (fun _ hk => hk.2) (.slice Ao39 t319.length co39)) (fun _ h_ => h_.1))) (Kd.R_base ho1) hb); have n4_ := Aside0.mk (Kd.R_elder' (by (with_reducible repeat (first | apply Kd.R_alloc | apply Kd.R_drewN | apply Kd.R_drew)); exact (Kd.R_mono (Kd.R_far (p := ⟨gb322, 1, none⟩) (Kd.R_far (p := ⟨gb322, 0, none⟩) (Kd.R_types HO318.out BK322.out (by decide)) (fun _ hk => hk.2) (.slice Ao35 t316.length co35)) (fun _ hk => hk.2) (.slice Ao39 t319.length co39)) (fun _ h_ => h_.1))) (Kd.R_base ho0) hb); have n5_ := Aside0.mk (Kd.R_elder' (by (with_reducible repeat (first | apply Kd.R_alloc | apply Kd.R_drewN | apply Kd.R_drew)); exact (Kd.R_mono (Kd.R_far (p := ⟨gb322, 1, none⟩) (Kd.R_far (p := ⟨gb322, 0, none⟩) (Kd.R_types HO321.out BK322.out (by decide)) (fun _ hk => hk.2) (.slice Ao35 t316.length co35)) (fun _ hk => hk.2) (.slice Ao39 t319.length co39)) (fun _ h_ => h_.1))) (Kd.R_base ho1) hb); have n6_ := Aside0.mk (Kd.R_lower (Kd.R_new' (Kd.R_new' (Kd.R_new' ho0 (Kd.R_lt (by (with_reducible repeat (first | apply Kd.R_alloc | apply Kd.R_drewN | apply Kd.R_drew)); exact (Kd.R_mono (Kd.R_far (p := ⟨gb322, 1, none⟩) (Kd.R_far (p := ⟨gb322, 0, none⟩) (Kd.R_types HO305.out BK322.out (by decide)) (fun _ hk => hk.2) (.slice Ao35 t316.length co35)) (fun _ hk => hk.2) (.slice Ao39 t319.length co39)) (fun _ h_ => h_.1))))) (Kd.R_lt (by (with_reducible repeat (first | apply Kd.R_alloc | apply Kd.R_drewN | apply Kd.R_drew)); exact (Kd.R_mono (Kd.R_far (p := ⟨gb322, 1, none⟩) (Kd.R_far (p := ⟨gb322, 0, none⟩) (Kd.R_types HO311.out BK322.out (by decide)) (fun _ hk => hk.2) (.slice Ao35 t316.length co35)) (fun _ hk => hk.2) (.slice Ao39 t319.length co39)) (fun _ h_ => h_.1))))) (Kd.R_lt (by (with_reducible repeat (first | apply Kd.R_alloc | apply Kd.R_drewN | apply Kd.R_drew)); exact (Kd.R_mono (Kd.R_far (p := ⟨gb322, 1, none⟩) (Kd.R_far (p := ⟨gb322, 0, none⟩) (Kd.R_types HO318.out BK322.out (by decide)) (fun _ hk => hk.2) (.slice Ao35 t316.length co35)) (fun _ hk => hk.2) (.slice Ao39 t319.length co39)) (fun _ h_ => h_.1))))) (below_size bS)); have n7_ := Aside0.mk (Kd.R_lower (Kd.R_new' (Kd.R_new' (Kd.R_new' ho1 (Kd.R_lt (by (with_reducible repeat (first | apply Kd.R_alloc | apply Kd.R_drewN | apply Kd.R_drew)); exact (Kd.R_mono (Kd.R_far (p := ⟨gb322, 1, none⟩) (Kd.R_far (p := ⟨gb322, 0, none⟩) (Kd.R_types HO308.out BK322.out (by decide)) (fun _ hk => hk.2) (.slice Ao35 t316.length co35)) (fun _ hk => hk.2) (.slice Ao39 t319.length co39)) (fun _ h_ => h_.1))))) (Kd.R_lt (by (with_reducible repeat (first | apply Kd.R_alloc | apply Kd.R_drewN | apply Kd.R_drew)); exact (Kd.R_mono (Kd.R_far (p := ⟨gb322, 1, none⟩) (Kd.R_far (p := ⟨gb322, 0, none⟩) (Kd.R_types HO314.out BK322.out (by decide)) (fun _ hk => hk.2) (.slice Ao35 t316.length co35)) (fun _ hk => hk.2) (.slice Ao39 t319.length co39)) (fun _ h_ => h_.1))))) (Kd.R_lt (by (with_reducible repeat (first | apply Kd.R_alloc | apply Kd.R_drewN | apply Kd.R_drew)); exact (Kd.R_mono (Kd.R_far (p := ⟨gb322, 1, none⟩) (Kd.R_far (p := ⟨gb322, 0, none⟩) (Kd.R_types HO321.out BK322.out (by decide)) (fun _ hk => hk.2) (.slice Ao35 t316.length co35)) (fun _ hk => hk.2) (.slice Ao39 t319.length co39)) (fun _ h_ => h_.1))))) (below_size bS)); have n8_ := Aside0.mk (blk_below (g := gb301) (o := .cells #[.slice A0_0 l0_0.length c0_0, .slice A0_1 l0_1.length c0_1] 42 (0, 0)) (by (with_reducible repeat (first | refine blk_drewN ?_ _ | refine blk_drew ?_ | refine blk_alloc ?_ _)); refine blk_far ?_ NB301_322.out _; (with_reducible repeat (first | refine blk_drewN ?_ _ | refine blk_drew ?_ | refine blk_alloc ?_ _)); refine blk_far ?_ NB301_322.out _; (with_reducible repeat (first | refine blk_drewN ?_ _ | refine blk_drew ?_ | refine blk_alloc ?_ _)); exact BK301.out) hb); have n9_ := Aside0.mk (blk_below (g := gb315) (o := .cells #[.slice Ao28 t309.length co28, .slice Ao31 t312.length co31] 27 (0, 0)) (by (with_reducible repeat (first | refine blk_drewN ?_ _ | refine blk_drew ?_ | refine blk_alloc ?_ _)); refine blk_far ?_ NB315_322.out _; (with_reducible repeat (first | refine blk_drewN ?_ _ | refine blk_drew ?_ | refine blk_alloc ?_ _)); refine blk_far ?_ NB315_322.out _; (with_reducible repeat (first | refine blk_drewN ?_ _ | refine blk_drew ?_ | refine blk_alloc ?_ _)); exact BK315.out) hb); have n10_ := Aside0.mk (blk_below (g := gb322) (o := .cells #[.slice Ao35 t316.length co35, .slice Ao39 t319.length co39] 27 (0, 0)) (by (with_reducible repeat (first | refine blk_drewN ?_ _ | refine blk_drew ?_ | refine blk_alloc ?_ _)); refine blk_put (cs := #[.slice Ao35 t316.length co35, .slice none 0 0]) ?_ 1 _ rfl; (with_reducible repeat (first | refine blk_drewN ?_ _ | refine blk_drew ?_ | refine blk_alloc ?_ _)); refine blk_put (cs := #[.slice none 0 0, .slice none 0 0]) ?_ 0 _ rfl; (with_reducible repeat (first | refine blk_drewN ?_ _ | refine blk_drew ?_ | refine blk_alloc ?_ _)); exact BK322.out) hb); have n11_ := Aside0.mk (below_step bS hb); clear HO305; clear HO308; clear HO311; clear HO314; clear HO318; clear HO321; clear BK301; clear BK315; clear BK322; clear HB; have HO305 := n0_; have HO308 := n1_; have HO311 := n2_; have HO314 := n3_; have HO318 := n4_; have HO321 := n5_; have HO325 := n6_; have HO328 := n7_; have BK301 := n8_; have BK315 := n9_; have BK322 := n10_; have HB := n11_; clear n0_ n1_ n2_ n3_ n4_ n5_ n6_ n7_ n8_ n9_ n10_ n11_; (try clear hb); (try clear hb2); (try clear hk); (try clear hi); (try clear ho0); (try clear ho1)) | ((with_reducible refine gate_dst (N := 8) rfl ?_); refine box_event ?hg (N := 8) ?hd (cs := #[.slice none 0 0, .slice none 0 0]) (t := 27) ?hr ?_; (case hd => rfl); (case hg => rfl); (case hr => first | (go_simp; done) | (go_simp; rfl)); intro gb329 hg w41 hbox hb; have n0_ := Aside0.mk (Kd.R_below (kR HO305.out) hb); have n1_ := Aside0.mk (Kd.R_below (kR HO308.out) hb); have n2_ := Aside0.mk (Kd.R_below (kR HO311.out) hb); have n3_ := Aside0.mk (Kd.R_below (kR HO314.out) hb); have n4_ := Aside0.mk (Kd.R_below (kR HO318.out) hb); have n5_ := Aside0.mk (Kd.R_below (kR HO321.out) hb); have n6_ := Aside0.mk (Kd.R_below (kR HO325.out) hb); have n7_ := Aside0.mk (Kd.R_below (kR HO328.out) hb); have n8_ := Aside0.mk (blk_below (kB BK301.out) hb); have n9_ := Aside0.mk (blk_below (kB BK315.out) hb); have n10_ := Aside0.mk (blk_below (kB BK322.out) hb); have n11_ := Aside0.mk (below_step bS hb); have n12_ := Aside0.mk (hbox); have n13_ := Aside0.mk ((bZ hg : w.heap.size ≤ gb329)); have n14_ := Aside0.mk ((bZ hg : w.heap.size ≤ gb329)); have n15_ := Aside0.mk ((nL hg BK301.out : gb301 ≠ gb329)); have n16_ := Aside0.mk ((nG hg BK301.out : gb329 ≠ gb301)); have n17_ := Aside0.mk ((nL hg BK315.out : gb315 ≠ gb329)); have n18_ := Aside0.mk ((nG hg BK315.out : gb329 ≠ gb315)); have n19_ := Aside0.mk ((nL hg BK322.out : gb322 ≠ gb329)); have n20_ := Aside0.mk ((nG hg BK322.out : gb329 ≠ gb322)); clear HO305; clear HO308; clear HO311; clear HO314; clear HO318; clear HO321; clear HO325; clear HO328; clear BK301; clear BK315; clear BK322; clear HB; have HO305 := n0_; have HO308 := n1_; have HO311 := n2_; have HO314 := n3_; have HO318 := n4_; have HO321 := n5_; have HO325 := n6_; have HO328 := n7_; have BK301 := n8_; have BK315 := n9_; have BK322 := n10_; have HB := n11_; have BK329 := n12_; have GW329 := n13_; have GE329 := n14_; have NB301_329 := n15_; have NB329_301 := n16_; have NB315_329 := n17_; have NB329_315 := n18_; have NB322_329 := n19_; have NB329_322 := n20_; clear n0_ n1_ n2_ n3_ n4_ n5_ n6_ n7_ n8_ n9_ n10_ n11_ n12_ n13_ n14_ n15_ n16_ n17_ n18_ n19_ n20_; clear hb hbox hg; obtain ⟨Ao42, co42, eo42⟩ := Kd.R_slice HO325.out; subst eo42; have hnb43 := NB329_301.out; have hnc43 := NB301_329.out; have hnb44 := NB329_315.out; have hnc44 := NB315_329.out; have hnb45 := NB329_322.out; have hnc45 := NB322_329.out; have hcz46_0 : w41.cell? ⟨gb329, 0, none⟩ = some (.slice none 0 0) := (blk_cell BK329.out 0).trans rfl; have hcz46_1 : w41.cell? ⟨gb329, 1, none⟩ = some (.slice none 0 0) := (blk_cell BK329.out 1).trans rfl; have hfz46_0 := blk_frozen BK329.out 0; have hfz46_1 := blk_frozen BK329.out 1; obtain ⟨Ao47, co47, eo47⟩ := Kd.R_slice HO328.out; subst eo47; have hcz48_0 : w41.cell? ⟨gb315, 0, none⟩ = some (.slice Ao28 t309.length co28) := (blk_cell BK315.out 0).trans rfl; have hcz48_1 : w41.cell? ⟨gb315, 1, none⟩ = some (.slice Ao31 t312.length co31) := (blk_cell BK315.out 1).trans rfl; have hfz48_0 := blk_frozen BK315.out 0; have hfz48_1 := blk_frozen BK315.out 1) | ((with_reducible refine gate_callee (f := 29) rfl ?_); refine goesL_ (some 29) rfl rfl Try.func29 (by kernel_rfl) rfl #[.agg #[.slice Ao42 t323.length co42, .slice Ao47 t326.length co47], .agg #[.slice Ao28 t309.length co28, .slice Ao31 t312.length co31]] rfl eA ?_; (with_reducible refine (laws_eqKnown.calls k _ _ t323 _ _ t326 _ _ t309 _ _ t312 true _ ?side1 ?side2 ?side3 ?side4 ?side5 ?side6 ?side7 ?side8 A12.out).mono ?_); (case side1 => refine (Kd.R_reads' (e := 9) (base := w.heap.size) (ok := fun k_ => (((True ∧ some k_ ≠ (.slice Ao24 t303.length co24 : Value).ownBlock) ∧ some k_ ≠ (.slice Ao28 t309.length co28 : Value).ownBlock) ∧ some k_ ≠ (.slice Ao35 t316.length co35 : Value).ownBlock)) (n := t323.length) (c := co42) ?_).2.2; exact (by (with_reducible repeat (first | apply Kd.R_alloc | apply Kd.R_drewN | apply Kd.R_drew)); exact (Kd.R_mono (Kd.R_far (p := ⟨gb329, 1, none⟩) (Kd.R_far (p := ⟨gb329, 0, none⟩) (Kd.R_types HO325.out BK329.out (by decide)) (fun _ hk => hk.2) (.slice Ao42 t323.length co42)) (fun _ hk => hk.2) (.slice Ao47 t326.length co47)) (fun _ h_ => h_.1)))); (case side2 => exact (Kd.R_reads' HO325.out).2.1); (case side3 => refine (Kd.R_reads' (e := 3) (base := w.heap.size) (ok := fun k_ => (((True ∧ some k_ ≠ (.slice Ao25 t306.length co25 : Value).ownBlock) ∧ some k_ ≠ (.slice Ao31 t312.length co31 : Value).ownBlock) ∧ some k_ ≠ (.slice Ao39 t319.length co39 : Value).ownBlock)) (n := t326.length) (c := co47) ?_).2.2; exact (by (with_reducible repeat (first | apply Kd.R_alloc | apply Kd.R_drewN | apply Kd.R_drew)); exact (Kd.R_mono (Kd.R_far (p := ⟨gb329, 1, none⟩) (Kd.R_far (p := ⟨gb329, 0, none⟩) (Kd.R_types HO328.out BK329.out (by decide)) (fun _ hk => hk.2) (.slice Ao42 t323.length co42)) (fun _ hk => hk.2) (.slice Ao47 t326.length co47)) (fun _ h_ => h_.1)))); (case side4 => exact (Kd.R_reads' HO328.out).2.1); (case side5 => refine (Kd.R_reads' (e := 9) (base := w.heap.size) (ok := fun k_ => (((True ∧ some k_ ≠ (.slice Ao24 t303.length co24 : Value).ownBlock) ∧ some k_ ≠ (.slice Ao35 t316.length co35 : Value).ownBlock) ∧ some k_ ≠ (.slice Ao42 t323.length co42 : Value).ownBlock)) (n := t309.length) (c := co28) ?_).2.2; exact (by (with_reducible repeat (first | apply Kd.R_alloc | apply Kd.R_drewN | apply Kd.R_drew)); exact (Kd.R_mono (Kd.R_far (p := ⟨gb329, 1, none⟩) (Kd.R_far (p := ⟨gb329, 0, none⟩) (Kd.R_types HO311.out BK329.out (by decide)) (fun _ hk => hk.2) (.slice Ao42 t323.length co42)) (fun _ hk => hk.2) (.slice Ao47 t326.length co47)) (fun _ h_ => h_.1)))); (case side6 => exact (Kd.R_reads' HO311.out).2.1); (case side7 => refine (Kd.R_reads' (e := 3) (base := w.heap.size) (ok := fun k_ => (((True ∧ some k_ ≠ (.slice Ao25 t306.length co25 : Value).ownBlock) ∧ some k_ ≠ (.slice Ao39 t319.length co39 : Value).ownBlock) ∧ some k_ ≠ (.slice Ao47 t326.length co47 : Value).ownBlock)) (n := t312.length) (c := co31) ?_).2.2; exact (by (with_reducible repeat (first | apply Kd.R_alloc | apply Kd.R_drewN | apply Kd.R_drew)); exact (Kd.R_mono (Kd.R_far (p := ⟨gb329, 1, none⟩) (Kd.R_far (p := ⟨gb329, 0, none⟩) (Kd.R_types HO314.out BK329.out (by decide)) (fun _ hk => hk.2) (.slice Ao42 t323.length co42)) (fun _ hk => hk.2) (.slice Ao47 t326.length co47)) (fun _ h_ => h_.1)))); (case side8 => exact (Kd.R_reads' HO314.out).2.1); rintro e w49 ⟨rfl, hb⟩; refine ⟨_, rfl, ?_⟩; have n0_ := Aside0.mk (Kd.R_below (by (with_reducible repeat (first | apply Kd.R_alloc | apply Kd.R_drewN | apply Kd.R_drew)); exact (Kd.R_mono (Kd.R_far (p := ⟨gb329, 1, none⟩) (Kd.R_far (p := ⟨gb329, 0, none⟩) (Kd.R_types HO305.out BK329.out (by decide)) (fun _ hk => hk.2) (.slice Ao42 t323.length co42)) (fun _ hk => hk.2) (.slice Ao47 t326.length co47)) (fun _ h_ => h_.1))) hb); have n1_ := Aside0.mk (Kd.R_below (by (with_reducible repeat (first | apply Kd.R_alloc | apply Kd.R_drewN | apply Kd.R_drew)); exact (Kd.R_mono (Kd.R_far (p := ⟨gb329, 1, none⟩) (Kd.R_far (p := ⟨gb329, 0, none⟩) (Kd.R_types HO308.out BK329.out (by decide)) (fun _ hk => hk.2) (.slice Ao42 t323.length co42)) (fun _ hk => hk.2) (.slice Ao47 t326.length co47)) (fun _ h_ => h_.1))) hb); have n2_ := Aside0.mk (Kd.R_below (by (with_reducible repeat (first | apply Kd.R_alloc | apply Kd.R_drewN | apply Kd.R_drew)); exact (Kd.R_mono (Kd.R_far (p := ⟨gb329, 1, none⟩) (Kd.R_far (p := ⟨gb329, 0, none⟩) (Kd.R_types HO311.out BK329.out (by decide)) (fun _ hk => hk.2) (.slice Ao42 t323.length co42)) (fun _ hk => hk.2) (.slice Ao47 t326.length co47)) (fun _ h_ => h_.1))) hb); have n3_ := Aside0.mk (Kd.R_below (by (with_reducible repeat (first | apply Kd.R_alloc | apply Kd.R_drewN | apply Kd.R_drew)); exact (Kd.R_mono (Kd.R_far (p := ⟨gb329, 1, none⟩) (Kd.R_far (p := ⟨gb329, 0, none⟩) (Kd.R_types HO314.out BK329.out (by decide)) (fun _ hk => hk.2) (.slice Ao42 t323.length co42)) (fun _ hk => hk.2) (.slice Ao47 t326.length co47)) (fun _ h_ => h_.1))) hb); have n4_ := Aside0.mk (Kd.R_below (by (with_reducible repeat (first | apply Kd.R_alloc | apply Kd.R_drewN | apply Kd.R_drew)); exact (Kd.R_mono (Kd.R_far (p := ⟨gb329, 1, none⟩) (Kd.R_far (p := ⟨gb329, 0, none⟩) (Kd.R_types HO318.out BK329.out (by decide)) (fun _ hk => hk.2) (.slice Ao42 t323.length co42)) (fun _ hk => hk.2) (.slice Ao47 t326.length co47)) (fun _ h_ => h_.1))) hb); have n5_ := Aside0.mk (Kd.R_below (by (with_reducible repeat (first | apply Kd.R_alloc | apply Kd.R_drewN | apply Kd.R_drew)); exact (Kd.R_mono (Kd.R_far (p := ⟨gb329, 1, none⟩) (Kd.R_far (p := ⟨gb329, 0, none⟩) (Kd.R_types HO321.out BK329.out (by decide)) (fun _ hk => hk.2) (.slice Ao42 t323.length co42)) (fun _ hk => hk.2) (.slice Ao47 t326.length co47)) (fun _ h_ => h_.1))) hb); have n6_ := Aside0.mk (Kd.R_below (by (with_reducible repeat (first | apply Kd.R_alloc | apply Kd.R_drewN | apply Kd.R_drew)); exact (Kd.R_mono (Kd.R_far (p := ⟨gb329, 1, none⟩) (Kd.R_far (p := ⟨gb329, 0, none⟩) (Kd.R_types HO325.out BK329.out (by decide)) (fun _ hk => hk.2) (.slice Ao42 t323.length co42)) (fun _ hk => hk.2) (.slice Ao47 t326.length co47)) (fun _ h_ => h_.1))) hb); have n7_ := Aside0.mk (Kd.R_below (by (with_reducible repeat (first | apply Kd.R_alloc | apply Kd.R_drewN | apply Kd.R_drew)); exact (Kd.R_mono (Kd.R_far (p := ⟨gb329, 1, none⟩) (Kd.R_far (p := ⟨gb329, 0, none⟩) (Kd.R_types HO328.out BK329.out (by decide)) (fun _ hk => hk.2) (.slice Ao42 t323.length co42)) (fun _ hk => hk.2) (.slice Ao47 t326.length co47)) (fun _ h_ => h_.1))) hb); have n8_ := Aside0.mk (blk_below (g := gb301) (o := .cells #[.slice A0_0 l0_0.length c0_0, .slice A0_1 l0_1.length c0_1] 42 (0, 0)) (by (with_reducible repeat (first | refine blk_drewN ?_ _ | refine blk_drew ?_ | refine blk_alloc ?_ _)); refine blk_far ?_ NB301_329.out _; (with_reducible repeat (first | refine blk_drewN ?_ _ | refine blk_drew ?_ | refine blk_alloc ?_ _)); refine blk_far ?_ NB301_329.out _; (with_reducible repeat (first | refine blk_drewN ?_ _ | refine blk_drew ?_ | refine blk_alloc ?_ _)); exact BK301.out) hb); have n9_ := Aside0.mk (blk_below (g := gb315) (o := .cells #[.slice Ao28 t309.length co28, .slice Ao31 t312.length co31] 27 (0, 0)) (by (with_reducible repeat (first | refine blk_drewN ?_ _ | refine blk_drew ?_ | refine blk_alloc ?_ _)); refine blk_far ?_ NB315_329.out _; (with_reducible repeat (first | refine blk_drewN ?_ _ | refine blk_drew ?_ | refine blk_alloc ?_ _)); refine blk_far ?_ NB315_329.out _; (with_reducible repeat (first | refine blk_drewN ?_ _ | refine blk_drew ?_ | refine blk_alloc ?_ _)); exact BK315.out) hb); have n10_ := Aside0.mk (blk_below (g := gb322) (o := .cells #[.slice Ao35 t316.length co35, .slice Ao39 t319.length co39] 27 (0, 0)) (by (with_reducible repeat (first | refine blk_drewN ?_ _ | refine blk_drew ?_ | refine blk_alloc ?_ _)); refine blk_far ?_ NB322_329.out _; (with_reducible repeat (first | refine blk_drewN ?_ _ | refine blk_drew ?_ | refine blk_alloc ?_ _)); refine blk_far ?_ NB322_329.out _; (with_reducible repeat (first | refine blk_drewN ?_ _ | refine blk_drew ?_ | refine blk_alloc ?_ _)); exact BK322.out) hb); have n11_ := Aside0.mk (blk_below (g := gb329) (o := .cells #[.slice Ao42 t323.length co42, .slice Ao47 t326.length co47] 27 (0, 0)) (by (with_reducible repeat (first | refine blk_drewN ?_ _ | refine blk_drew ?_ | refine blk_alloc ?_ _)); refine blk_put (cs := #[.slice Ao42 t323.length co42, .slice none 0 0]) ?_ 1 _ rfl; (with_reducible repeat (first | refine blk_drewN ?_ _ | refine blk_drew ?_ | refine blk_alloc ?_ _)); refine blk_put (cs := #[.slice none 0 0, .slice none 0 0]) ?_ 0 _ rfl; (with_reducible repeat (first | refine blk_drewN ?_ _ | refine blk_drew ?_ | refine blk_alloc ?_ _)); exact BK329.out) hb); have n12_ := Aside0.mk (below_step bS hb); clear HO305; clear HO308; clear HO311; clear HO314; clear HO318; clear HO321; clear HO325; clear HO328; clear BK301; clear BK315; clear BK322; clear BK329; clear HB; have HO305 := n0_; have HO308 := n1_; have HO311 := n2_; have HO314 := n3_; have HO318 := n4_; have HO321 := n5_; have HO325 := n6_; have HO328 := n7_; have BK301 := n8_; have BK315 := n9_; have BK322 := n10_; have BK329 := n11_; have HB := n12_; clear n0_ n1_ n2_ n3_ n4_ n5_ n6_ n7_ n8_ n9_ n10_ n11_ n12_; (try clear hb); (try clear hb2); (try clear hk); (try clear hi)))
    have n0_ := Aside0.mk (Kd.R_drew HO305.out)
    have n1_ := Aside0.mk (Kd.R_drew HO308.out)
    have n2_ := Aside0.mk (Kd.R_drew HO311.out)
    have n3_ := Aside0.mk (Kd.R_drew HO314.out)
    have n4_ := Aside0.mk (Kd.R_drew HO318.out)
    have n5_ := Aside0.mk (Kd.R_drew HO321.out)
    have n6_ := Aside0.mk (Kd.R_drew HO325.out)
    have n7_ := Aside0.mk (Kd.R_drew HO328.out)
    have n8_ := Aside0.mk (blk_drew BK301.out)
    have n9_ := Aside0.mk (blk_drew BK315.out)
    have n10_ := Aside0.mk (blk_drew BK322.out)
    have n11_ := Aside0.mk (blk_drew BK329.out)
    have n12_ := Aside0.mk (below_drew1 HB.out)
    clear HO305 HO308 HO311 HO314 HO318 HO321 HO325 HO328 BK301 BK315 BK322 BK329 HB
    have HO305 := n0_
    have HO308 := n1_
    have HO311 := n2_
    have HO314 := n3_
    have HO318 := n4_
    have HO321 := n5_
    have HO325 := n6_
    have HO328 := n7_
    have BK301 := n8_
    have BK315 := n9_
    have BK322 := n10_
    have BK329 := n11_
    have HB := n12_
    clear n0_ n1_ n2_ n3_ n4_ n5_ n6_ n7_ n8_ n9_ n10_ n11_ n12_
    refine start_ (n := 5) (S := fun w' => w'.cell? ⟨gb322, 0, none⟩ = some (.slice Ao35 t316.length co35) ∧ w'.cell? ⟨gb322, 1, none⟩ = some (.slice Ao39 t319.length co39) ∧ w'.cell? ⟨gb301, 0, none⟩ = some (.slice A0_0 l0_0.length c0_0) ∧ w'.cell? ⟨gb301, 1, none⟩ = some (.slice A0_1 l0_1.length c0_1)) (ds := []) #[false, false, false, false, false] (by kernel_rfl) rfl rfl ⟨(blk_cell BK322.out 0).trans rfl, (blk_cell BK322.out 1).trans rfl, (blk_cell BK301.out 0).trans rfl, (blk_cell BK301.out 1).trans rfl⟩ (fun hHeld => ?_)
    generalize w49.drew = w50 at HO305 HO308 HO311 HO314 HO318 HO321 HO325 HO328 BK301 BK315 BK322 BK329 HB hHeld ⊢
    refine take_ (i := 0) (N := some 31) (v := ?_) (a' := ?_) #[true, false, false, false, false] rfl rfl (by kernel_rfl) (fun _ _ _ h => h) (Or.inl ⟨by rfl, ?_⟩) hHeld ?_ ?_
    rotate_left
    ·rintro w' ⟨s0, s1, s2, s3⟩
     go_simp
     with_reducible rfl
    rotate_left
    ·simp only [Act.put, List.setIfInBounds_toArray, List.set_cons_zero, List.set_cons_succ, i64_w, i32_w]
     rfl
    refine take_ (i := 1) (N := some 32) (v := ?_) (a' := ?_) #[true, true, false, false, false] rfl rfl (by kernel_rfl) (fun _ _ _ h => h) (Or.inl ⟨by rfl, ?_⟩) hHeld ?_ ?_
    rotate_left
    ·rintro w' ⟨s0, s1, s2, s3⟩
     go_simp
     with_reducible rfl
    rotate_left
    ·simp only [Act.put, List.setIfInBounds_toArray, List.set_cons_zero, List.set_cons_succ, i64_w, i32_w]
     rfl
    refine one_ (i := 2) (N := some 33) #[true, true, true, false, false] rfl rfl (by kernel_rfl) (by decide) (fun K hK => ?_)
    refine goes_ Try.func28 (by kernel_rfl) rfl #[.agg #[.slice A0_0 l0_0.length c0_0, .slice A0_1 l0_1.length c0_1]] (by rfl) rfl rfl eA ?_
    with_reducible refine (laws_toKnown.calls k _ _ l0_0 _ _ l0_1 t331 t334 _ ?side1 ?side2 ?side3 ?side4 A14.out).mono ?_
    (case side1 => repeat (first | exact (Kd.C_below HR0_0.out HB.out) | (with_reducible refine Kd.C_alloc ?_ _) | (with_reducible refine Kd.C_drewN ?_ _) | (with_reducible refine Kd.C_drew ?_)))
    (case side2 => exact HC0_0.out)
    (case side3 => repeat (first | exact (Kd.C_below HR0_1.out HB.out) | (with_reducible refine Kd.C_alloc ?_ _) | (with_reducible refine Kd.C_drewN ?_ _) | (with_reducible refine Kd.C_drew ?_)))
    (case side4 => exact HC0_1.out)
    rintro e w51 ⟨v332, v335, rfl, ho0, ho1, hb⟩
    refine ⟨_, rfl, ?_⟩
    have n0_ := Aside0.mk (Kd.R_elder' (kR HO305.out) (Kd.R_base ho0) hb)
    have n1_ := Aside0.mk (Kd.R_elder' (kR HO308.out) (Kd.R_base ho1) hb)
    have n2_ := Aside0.mk (Kd.R_elder' (kR HO311.out) (Kd.R_base ho0) hb)
    have n3_ := Aside0.mk (Kd.R_elder' (kR HO314.out) (Kd.R_base ho1) hb)
    have n4_ := Aside0.mk (Kd.R_elder' (kR HO318.out) (Kd.R_base ho0) hb)
    have n5_ := Aside0.mk (Kd.R_elder' (kR HO321.out) (Kd.R_base ho1) hb)
    have n6_ := Aside0.mk (Kd.R_elder' (kR HO325.out) (Kd.R_base ho0) hb)
    have n7_ := Aside0.mk (Kd.R_elder' (kR HO328.out) (Kd.R_base ho1) hb)
    have n8_ := Aside0.mk (Kd.R_lower (Kd.R_new' (Kd.R_new' (Kd.R_new' (Kd.R_new' ho0 (Kd.R_lt (kR HO305.out))) (Kd.R_lt (kR HO311.out))) (Kd.R_lt (kR HO318.out))) (Kd.R_lt (kR HO325.out))) (below_size bS))
    have n9_ := Aside0.mk (Kd.R_lower (Kd.R_new' (Kd.R_new' (Kd.R_new' (Kd.R_new' ho1 (Kd.R_lt (kR HO308.out))) (Kd.R_lt (kR HO314.out))) (Kd.R_lt (kR HO321.out))) (Kd.R_lt (kR HO328.out))) (below_size bS))
    have n10_ := Aside0.mk (blk_below (kB BK301.out) hb)
    have n11_ := Aside0.mk (blk_below (kB BK315.out) hb)
    have n12_ := Aside0.mk (blk_below (kB BK322.out) hb)
    have n13_ := Aside0.mk (blk_below (kB BK329.out) hb)
    have n14_ := Aside0.mk (below_step bS hb)
    clear HO305 HO308 HO311 HO314 HO318 HO321 HO325 HO328 BK301 BK315 BK322 BK329 HB
    have HO305 := n0_
    have HO308 := n1_
    have HO311 := n2_
    have HO314 := n3_
    have HO318 := n4_
    have HO321 := n5_
    have HO325 := n6_
    have HO328 := n7_
    have HO333 := n8_
    have HO336 := n9_
    have BK301 := n10_
    have BK315 := n11_
    have BK322 := n12_
    have BK329 := n13_
    have HB := n14_
    clear n0_ n1_ n2_ n3_ n4_ n5_ n6_ n7_ n8_ n9_ n10_ n11_ n12_ n13_ n14_
    (try clear hb)
    (try clear hb2)
    (try clear hk)
    (try clear hi)
    (try clear ho0)
    (try clear ho1)
    obtain ⟨Ao52, co52, eo52⟩ := Kd.R_slice HO333.out
    (first | subst eo52 | (injection eo52 with f1_ f2_ f3_; have f4_ := f1_.symm; have f5_ := f3_.symm; clear f1_ f2_ f3_; subst f4_; subst f5_))
    obtain ⟨Ao53, co53, eo53⟩ := Kd.R_slice HO336.out
    (first | subst eo53 | (injection eo53 with f1_ f2_ f3_; have f4_ := f1_.symm; have f5_ := f3_.symm; clear f1_ f2_ f3_; subst f4_; subst f5_))
    refine hK.out _ _ ⟨(blk_cell BK322.out 0).trans rfl, (blk_cell BK322.out 1).trans rfl, (blk_cell BK301.out 0).trans rfl, (blk_cell BK301.out 1).trans rfl⟩ (fun hHeld => ?_)
    clear hK K
    refine norm_ (a' := ?_) ?_ ?_
    rotate_left
    ·show Act.put _ (some 33) _ = _
     simp only [Act.put, List.setIfInBounds_toArray, List.set_cons_zero, List.set_cons_succ, i64_w, i32_w]
     rfl
    refine one_ (i := 3) (N := some 34) #[true, true, true, true, false] rfl rfl (by kernel_rfl) (by decide) (fun K hK => ?_)
    refine goes_ Try.func29 (by kernel_rfl) rfl #[.agg #[.slice Ao35 t316.length co35, .slice Ao39 t319.length co39], .agg #[.slice Ao52 t331.length co52, .slice Ao53 t334.length co53]] (by rfl) rfl rfl eA ?_
    with_reducible refine (laws_eqKnown.calls k _ _ t316 _ _ t319 _ _ t331 _ _ t334 true _ ?side1 ?side2 ?side3 ?side4 ?side5 ?side6 ?side7 ?side8 A15.out).mono ?_
    (case side1 => repeat (first | exact (Kd.R_reads' HO318.out).2.2 | (with_reducible refine Kd.C_alloc ?_ _) | (with_reducible refine Kd.C_drewN ?_ _) | (with_reducible refine Kd.C_drew ?_)))
    (case side2 => exact (Kd.R_reads' HO318.out).2.1)
    (case side3 => repeat (first | exact (Kd.R_reads' HO321.out).2.2 | (with_reducible refine Kd.C_alloc ?_ _) | (with_reducible refine Kd.C_drewN ?_ _) | (with_reducible refine Kd.C_drew ?_)))
    (case side4 => exact (Kd.R_reads' HO321.out).2.1)
    (case side5 => repeat (first | exact (Kd.R_reads' HO333.out).2.2 | (with_reducible refine Kd.C_alloc ?_ _) | (with_reducible refine Kd.C_drewN ?_ _) | (with_reducible refine Kd.C_drew ?_)))
    (case side6 => exact (Kd.R_reads' HO333.out).2.1)
    (case side7 => repeat (first | exact (Kd.R_reads' HO336.out).2.2 | (with_reducible refine Kd.C_alloc ?_ _) | (with_reducible refine Kd.C_drewN ?_ _) | (with_reducible refine Kd.C_drew ?_)))
    (case side8 => exact (Kd.R_reads' HO336.out).2.1)
    rintro e w54 ⟨rfl, hb⟩
    refine ⟨_, rfl, ?_⟩
    have n0_ := Aside0.mk (Kd.R_below (kR HO305.out) hb)
    have n1_ := Aside0.mk (Kd.R_below (kR HO308.out) hb)
    have n2_ := Aside0.mk (Kd.R_below (kR HO311.out) hb)
    have n3_ := Aside0.mk (Kd.R_below (kR HO314.out) hb)
    have n4_ := Aside0.mk (Kd.R_below (kR HO318.out) hb)
    have n5_ := Aside0.mk (Kd.R_below (kR HO321.out) hb)
    have n6_ := Aside0.mk (Kd.R_below (kR HO325.out) hb)
    have n7_ := Aside0.mk (Kd.R_below (kR HO328.out) hb)
    have n8_ := Aside0.mk (Kd.R_below (kR HO333.out) hb)
    have n9_ := Aside0.mk (Kd.R_below (kR HO336.out) hb)
    have n10_ := Aside0.mk (blk_below (kB BK301.out) hb)
    have n11_ := Aside0.mk (blk_below (kB BK315.out) hb)
    have n12_ := Aside0.mk (blk_below (kB BK322.out) hb)
    have n13_ := Aside0.mk (blk_below (kB BK329.out) hb)
    have n14_ := Aside0.mk (below_step bS hb)
    clear HO305 HO308 HO311 HO314 HO318 HO321 HO325 HO328 HO333 HO336 BK301 BK315 BK322 BK329 HB
    have HO305 := n0_
    have HO308 := n1_
    have HO311 := n2_
    have HO314 := n3_
    have HO318 := n4_
    have HO321 := n5_
    have HO325 := n6_
    have HO328 := n7_
    have HO333 := n8_
    have HO336 := n9_
    have BK301 := n10_
    have BK315 := n11_
    have BK322 := n12_
    have BK329 := n13_
    have HB := n14_
    clear n0_ n1_ n2_ n3_ n4_ n5_ n6_ n7_ n8_ n9_ n10_ n11_ n12_ n13_ n14_
    (try clear hb)
    (try clear hb2)
    (try clear hk)
    (try clear hi)
    refine hK.out _ _ ⟨(blk_cell BK322.out 0).trans rfl, (blk_cell BK322.out 1).trans rfl, (blk_cell BK301.out 0).trans rfl, (blk_cell BK301.out 1).trans rfl⟩ (fun hHeld => ?_)
    clear hK K
    refine norm_ (a' := ?_) ?_ ?_
    rotate_left
    ·show Act.put _ (some 34) _ = _
     simp only [Act.put, List.setIfInBounds_toArray, List.set_cons_zero, List.set_cons_succ, i64_w, i32_w]
     rfl
    refine pure_ (i := 4) (N := some 35) (v := ?_) (a' := ?_) #[true, true, true, true, true] rfl rfl (by kernel_rfl) (fun _ _ _ h => h) (Or.inl ⟨by rfl, ?_⟩) ?_ ?_
    rotate_left
    ·intro w'
     go_simp
     with_reducible rfl
    rotate_left
    ·simp only [Act.put, List.setIfInBounds_toArray, List.set_cons_zero, List.set_cons_succ, i64_w, i32_w]
     rfl
    refine done_ (by kernel_rfl) ?_
    have hcz55_0 : w54.cell? ⟨gb322, 0, none⟩ = some (.slice Ao35 t316.length co35) := (blk_cell BK322.out 0).trans rfl
    have hcz55_1 : w54.cell? ⟨gb322, 1, none⟩ = some (.slice Ao39 t319.length co39) := (blk_cell BK322.out 1).trans rfl
    have hfz55_0 := blk_frozen BK322.out 0
    have hfz55_1 := blk_frozen BK322.out 1
    go_upto_region 14 with (first | ((with_reducible refine gate_callee (f := 31) rfl ?_); refine goesL_ (some 38) rfl rfl Try.func31 (by kernel_rfl) rfl #[.agg #[.slice Ao35 t316.length co35, .slice Ao39 t319.length co39], .int .i64 1] rfl eA ?_; (with_reducible refine (laws_markKnown.calls k (fun k_ => some k_ = (.slice Ao35 t316.length co35 : Value).ownBlock) (.slice Ao35 t316.length co35) t316 (fun k_ => some k_ = (.slice Ao39 t319.length co39 : Value).ownBlock) (.slice Ao39 t319.length co39) t319 1 t338 t339 t340 w _ ?side1 ?side2 ?side3 A17.out).mono ?_); (case side1 => repeat (first | (with_reducible first | exact HB.out | apply below_alloc | apply pw_below_drewN | apply below_drew1 | refine below_set ?_ GE301.out | refine below_set ?_ GE315.out | refine below_set ?_ GE322.out | refine below_set ?_ GE329.out) | exact HB.out)); (case side2 => exact Kd.R_tight rfl HO318.out); (case side3 => exact Kd.R_tight rfl HO321.out); rintro e w56 ⟨rfl, hy0, hy1, hb, hkp⟩; refine ⟨_, rfl, ?_⟩; have n0_ := Aside0.mk (blk_kept (kB BK301.out) hkp (fun hs_ => Or.elim hs_ (fun e_ => (fun e_ => (Kd.R_ne HO318.out BK301.out (by decide)) e_) e_) (fun e_ => (fun e_ => (Kd.R_ne HO321.out BK301.out (by decide)) e_) e_))); have n1_ := Aside0.mk (Kd.R_mono (ok' := fun k_ => some k_ ≠ (.slice Ao28 t309.length co28 : Value).ownBlock ∧ some k_ ≠ (.slice Ao35 t316.length co35 : Value).ownBlock ∧ some k_ ≠ (.slice Ao42 t323.length co42 : Value).ownBlock ∧ some k_ ≠ (.slice Ao52 t331.length co52 : Value).ownBlock) (Kd.R_keptB ((Kd.R_apart' HO305.out (Kd.R_typed HO321.out) (by decide))) hkp (fun k_ hk_ hs_ => Or.elim hs_ (fun e_ => (hk_.1.1.1.2) e_) (fun e_ => (hk_.2) e_))) (fun k_ hk_ => ⟨hk_.1.1.1.1.1.2, hk_.1.1.1.1.2, hk_.1.1.1.2, hk_.1.1.2⟩)); have n2_ := Aside0.mk (Kd.R_mono (ok' := fun k_ => some k_ ≠ (.slice Ao31 t312.length co31 : Value).ownBlock ∧ some k_ ≠ (.slice Ao39 t319.length co39 : Value).ownBlock ∧ some k_ ≠ (.slice Ao47 t326.length co47 : Value).ownBlock ∧ some k_ ≠ (.slice Ao53 t334.length co53 : Value).ownBlock) (Kd.R_keptB ((Kd.R_apart' HO308.out (Kd.R_typed HO318.out) (by decide))) hkp (fun k_ hk_ hs_ => Or.elim hs_ (fun e_ => (hk_.2) e_) (fun e_ => (hk_.1.1.1.2) e_))) (fun k_ hk_ => ⟨hk_.1.1.1.1.1.2, hk_.1.1.1.1.2, hk_.1.1.1.2, hk_.1.1.2⟩)); have n3_ := Aside0.mk (Kd.R_mono (ok' := fun k_ => some k_ ≠ (.slice Ao24 t303.length co24 : Value).ownBlock ∧ some k_ ≠ (.slice Ao35 t316.length co35 : Value).ownBlock ∧ some k_ ≠ (.slice Ao42 t323.length co42 : Value).ownBlock ∧ some k_ ≠ (.slice Ao52 t331.length co52 : Value).ownBlock) (Kd.R_keptB ((Kd.R_apart' HO311.out (Kd.R_typed HO321.out) (by decide))) hkp (fun k_ hk_ hs_ => Or.elim hs_ (fun e_ => (hk_.1.1.1.2) e_) (fun e_ => (hk_.2) e_))) (fun k_ hk_ => ⟨hk_.1.1.1.1.1.2, hk_.1.1.1.1.2, hk_.1.1.1.2, hk_.1.1.2⟩)); have n4_ := Aside0.mk (Kd.R_mono (ok' := fun k_ => some k_ ≠ (.slice Ao25 t306.length co25 : Value).ownBlock ∧ some k_ ≠ (.slice Ao39 t319.length co39 : Value).ownBlock ∧ some k_ ≠ (.slice Ao47 t326.length co47 : Value).ownBlock ∧ some k_ ≠ (.slice Ao53 t334.length co53 : Value).ownBlock) (Kd.R_keptB ((Kd.R_apart' HO314.out (Kd.R_typed HO318.out) (by decide))) hkp (fun k_ hk_ hs_ => Or.elim hs_ (fun e_ => (hk_.2) e_) (fun e_ => (hk_.1.1.1.2) e_))) (fun k_ hk_ => ⟨hk_.1.1.1.1.1.2, hk_.1.1.1.1.2, hk_.1.1.1.2, hk_.1.1.2⟩)); have n5_ := Aside0.mk (blk_kept (kB BK315.out) hkp (fun hs_ => Or.elim hs_ (fun e_ => (fun e_ => (Kd.R_ne HO318.out BK315.out (by decide)) e_) e_) (fun e_ => (fun e_ => (Kd.R_ne HO321.out BK315.out (by decide)) e_) e_))); have n6_ := Aside0.mk (Kd.R_reok rfl hy0 (fun k_ e_ => HO318.out.1 k_ e_)); have n7_ := Aside0.mk (Kd.R_reok rfl hy1 (fun k_ e_ => HO321.out.1 k_ e_)); have n8_ := Aside0.mk (blk_kept (kB BK322.out) hkp (fun hs_ => Or.elim hs_ (fun e_ => (fun e_ => (Kd.R_ne HO318.out BK322.out (by decide)) e_) e_) (fun e_ => (fun e_ => (Kd.R_ne HO321.out BK322.out (by decide)) e_) e_))); have n9_ := Aside0.mk (Kd.R_mono (ok' := fun k_ => some k_ ≠ (.slice Ao24 t303.length co24 : Value).ownBlock ∧ some k_ ≠ (.slice Ao28 t309.length co28 : Value).ownBlock ∧ some k_ ≠ (.slice Ao35 t316.length co35 : Value).ownBlock ∧ some k_ ≠ (.slice Ao52 t331.length co52 : Value).ownBlock) (Kd.R_keptB ((Kd.R_apart' HO325.out (Kd.R_typed HO321.out) (by decide))) hkp (fun k_ hk_ hs_ => Or.elim hs_ (fun e_ => (hk_.1.1.2) e_) (fun e_ => (hk_.2) e_))) (fun k_ hk_ => ⟨hk_.1.1.1.1.1.2, hk_.1.1.1.1.2, hk_.1.1.1.2, hk_.1.1.2⟩)); have n10_ := Aside0.mk (Kd.R_mono (ok' := fun k_ => some k_ ≠ (.slice Ao25 t306.length co25 : Value).ownBlock ∧ some k_ ≠ (.slice Ao31 t312.length co31 : Value).ownBlock ∧ some k_ ≠ (.slice Ao39 t319.length co39 : Value).ownBlock ∧ some k_ ≠ (.slice Ao53 t334.length co53 : Value).ownBlock) (Kd.R_keptB ((Kd.R_apart' HO328.out (Kd.R_typed HO318.out) (by decide))) hkp (fun k_ hk_ hs_ => Or.elim hs_ (fun e_ => (hk_.2) e_) (fun e_ => (hk_.1.1.2) e_))) (fun k_ hk_ => ⟨hk_.1.1.1.1.1.2, hk_.1.1.1.1.2, hk_.1.1.1.2, hk_.1.1.2⟩)); have n11_ := Aside0.mk (blk_kept (kB BK329.out) hkp (fun hs_ => Or.elim hs_ (fun e_ => (fun e_ => (Kd.R_ne HO318.out BK329.out (by decide)) e_) e_) (fun e_ => (fun e_ => (Kd.R_ne HO321.out BK329.out (by decide)) e_) e_))); have n12_ := Aside0.mk (Kd.R_mono (ok' := fun k_ => some k_ ≠ (.slice Ao24 t303.length co24 : Value).ownBlock ∧ some k_ ≠ (.slice Ao28 t309.length co28 : Value).ownBlock ∧ some k_ ≠ (.slice Ao35 t316.length co35 : Value).ownBlock ∧ some k_ ≠ (.slice Ao42 t323.length co42 : Value).ownBlock) (Kd.R_keptB ((Kd.R_apart' HO333.out (Kd.R_typed HO321.out) (by decide))) hkp (fun k_ hk_ hs_ => Or.elim hs_ (fun e_ => (hk_.1.1.2) e_) (fun e_ => (hk_.2) e_))) (fun k_ hk_ => ⟨hk_.1.1.1.1.1.2, hk_.1.1.1.1.2, hk_.1.1.1.2, hk_.1.1.2⟩)); have n13_ := Aside0.mk (Kd.R_mono (ok' := fun k_ => some k_ ≠ (.slice Ao25 t306.length co25 : Value).ownBlock ∧ some k_ ≠ (.slice Ao31 t312.length co31 : Value).ownBlock ∧ some k_ ≠ (.slice Ao39 t319.length co39 : Value).ownBlock ∧ some k_ ≠ (.slice Ao47 t326.length co47 : Value).ownBlock) (Kd.R_keptB ((Kd.R_apart' HO336.out (Kd.R_typed HO318.out) (by decide))) hkp (fun k_ hk_ hs_ => Or.elim hs_ (fun e_ => (hk_.2) e_) (fun e_ => (hk_.1.1.2) e_))) (fun k_ hk_ => ⟨hk_.1.1.1.1.1.2, hk_.1.1.1.1.2, hk_.1.1.1.2, hk_.1.1.2⟩)); have n14_ := Aside0.mk (hb); clear BK301; clear HO305; clear HO308; clear HO311; clear HO314; clear BK315; clear HO318; clear HO321; clear BK322; clear HO325; clear HO328; clear BK329; clear HO333; clear HO336; clear HB; have BK301 := n0_; have HO305 := n1_; have HO308 := n2_; have HO311 := n3_; have HO314 := n4_; have BK315 := n5_; have HO318 := n6_; have HO321 := n7_; have BK322 := n8_; have HO325 := n9_; have HO328 := n10_; have BK329 := n11_; have HO333 := n12_; have HO336 := n13_; have HB := n14_; clear n0_ n1_ n2_ n3_ n4_ n5_ n6_ n7_ n8_ n9_ n10_ n11_ n12_ n13_ n14_; (try clear hb); (try clear hkp); (try clear hy0); (try clear hy1)))
    (try simp only [Act.put, List.setIfInBounds_toArray, List.set_cons_zero, List.set_cons_succ])
    go_cut [46] (fun v46 wc => ∃ (kq : Nat) (x46_17 : Bool), v46 = .bool x46_17 ∧ Aside0 (laws_FnExactLearnKey.j0 kq a1 x46_17 l0_0 l0_1 t309 t312 t323 t326 = some r) ∧ Aside0 (kq ≤ k) ∧ Aside0 (Kd.R Kd.string 9 wc w.heap.size (fun k_ => some k_ ≠ ((.slice Ao35 t316.length co35) : Value).ownBlock ∧ some k_ ≠ ((.slice Ao42 t323.length co42) : Value).ownBlock) (.slice Ao28 t309.length co28) t309) ∧ Aside0 (Kd.R (Kd.int .i64) 3 wc w.heap.size (fun k_ => some k_ ≠ ((.slice Ao39 t319.length co39) : Value).ownBlock ∧ some k_ ≠ ((.slice Ao47 t326.length co47) : Value).ownBlock) (.slice Ao31 t312.length co31) t312) ∧ Aside0 (Kd.R Kd.string 9 wc w.heap.size (fun k_ => some k_ ≠ ((.slice Ao28 t309.length co28) : Value).ownBlock ∧ some k_ ≠ ((.slice Ao42 t323.length co42) : Value).ownBlock) (.slice Ao35 t316.length co35) t339) ∧ Aside0 (Kd.R (Kd.int .i64) 3 wc w.heap.size (fun k_ => some k_ ≠ ((.slice Ao31 t312.length co31) : Value).ownBlock ∧ some k_ ≠ ((.slice Ao47 t326.length co47) : Value).ownBlock) (.slice Ao39 t319.length co39) t340) ∧ Aside0 (Kd.R Kd.string 9 wc w.heap.size (fun k_ => some k_ ≠ ((.slice Ao28 t309.length co28) : Value).ownBlock ∧ some k_ ≠ ((.slice Ao35 t316.length co35) : Value).ownBlock) (.slice Ao42 t323.length co42) t323) ∧ Aside0 (Kd.R (Kd.int .i64) 3 wc w.heap.size (fun k_ => some k_ ≠ ((.slice Ao31 t312.length co31) : Value).ownBlock ∧ some k_ ≠ ((.slice Ao39 t319.length co39) : Value).ownBlock) (.slice Ao47 t326.length co47) t326) ∧ Aside0 (wc.heap[gb301]? = some (.cells #[(.slice A0_0 l0_0.length c0_0), (.slice A0_1 l0_1.length c0_1)] 42 (0, 0))) ∧ Aside0 (wc.heap[gb315]? = some (.cells #[(.slice Ao28 t309.length co28), (.slice Ao31 t312.length co31)] 27 (0, 0))) ∧ Aside0 (wc.heap[gb322]? = some (.cells #[(.slice Ao35 t316.length co35), (.slice Ao39 t319.length co39)] 27 (0, 0))) ∧ Aside0 (wc.heap[gb329]? = some (.cells #[(.slice Ao42 t323.length co42), (.slice Ao47 t326.length co47)] 27 (0, 0))) ∧ Aside0 (Below w.heap.size w wc))
    case first =>
     have H := HC18.out
     clear HC18
     by_cases c57 : t338 < 0
     ·rw [if_pos c57] at H
      have c57b0 : decide (t338 < 0) = true := decide_eq_true c57
      clear c57
      (first | rw [c57b0] | (simp only [i64_w, i32_w]; rw [c57b0]) | skip)
      have H' := Aside0.mk H
      clear H
      go_wp2
      go_meet
      case rel => exact ⟨_, (true), eX, H', ⟨by first | omega | exact Nat.le_refl _⟩, ⟨by (with_reducible repeat (first | apply Kd.R_alloc | apply Kd.R_drewN | apply Kd.R_drew)); exact Kd.R_mono HO311.out (fun _ hk => ⟨hk.2.1, hk.2.2.1⟩)⟩, ⟨by (with_reducible repeat (first | apply Kd.R_alloc | apply Kd.R_drewN | apply Kd.R_drew)); exact Kd.R_mono HO314.out (fun _ hk => ⟨hk.2.1, hk.2.2.1⟩)⟩, ⟨by (with_reducible repeat (first | apply Kd.R_alloc | apply Kd.R_drewN | apply Kd.R_drew)); exact Kd.R_mono HO318.out (fun _ hk => ⟨hk.1.1.2, hk.1.2⟩)⟩, ⟨by (with_reducible repeat (first | apply Kd.R_alloc | apply Kd.R_drewN | apply Kd.R_drew)); exact Kd.R_mono HO321.out (fun _ hk => ⟨hk.1.1.2, hk.1.2⟩)⟩, ⟨by (with_reducible repeat (first | apply Kd.R_alloc | apply Kd.R_drewN | apply Kd.R_drew)); exact Kd.R_mono HO325.out (fun _ hk => ⟨hk.2.1, hk.2.2.1⟩)⟩, ⟨by (with_reducible repeat (first | apply Kd.R_alloc | apply Kd.R_drewN | apply Kd.R_drew)); exact Kd.R_mono HO328.out (fun _ hk => ⟨hk.2.1, hk.2.2.1⟩)⟩, ⟨by (with_reducible repeat (first | refine blk_drewN ?_ _ | refine blk_drew ?_ | refine blk_alloc ?_ _)); exact BK301.out⟩, ⟨by (with_reducible repeat (first | refine blk_drewN ?_ _ | refine blk_drew ?_ | refine blk_alloc ?_ _)); exact BK315.out⟩, ⟨by (with_reducible repeat (first | refine blk_drewN ?_ _ | refine blk_drew ?_ | refine blk_alloc ?_ _)); exact BK322.out⟩, ⟨by (with_reducible repeat (first | refine blk_drewN ?_ _ | refine blk_drew ?_ | refine blk_alloc ?_ _)); exact BK329.out⟩, ⟨by repeat (first | (with_reducible first | exact HB.out | apply below_alloc | apply pw_below_drewN | apply below_drew1 | refine below_set ?_ GE301.out | refine below_set ?_ GE315.out | refine below_set ?_ GE322.out | refine below_set ?_ GE329.out) | exact HB.out)⟩⟩
     ·rw [if_neg c57] at H
      have c57b0 : decide (t338 < 0) = false := decide_eq_false c57
      clear c57
      (first | rw [c57b0] | (simp only [i64_w, i32_w]; rw [c57b0]) | skip)
      replace H := Option.bind_eq_some_iff.mp H
      obtain ⟨t341, A580, H⟩ := H
      replace H : (laws_FnExactLearnKey.j0 k a1 (!t341) l0_0 l0_1 t309 t312 t323 t326) = some r := H
      have A58 := Aside0.mk A580
      clear A580
      have H' := Aside0.mk H
      clear H
      have hnb59 := NB329_301.out
      have hnc59 := NB301_329.out
      have hnb60 := NB329_315.out
      have hnc60 := NB315_329.out
      have hnb61 := NB329_322.out
      have hnc61 := NB322_329.out
      have hcz62_0 : w56.cell? ⟨gb329, 0, none⟩ = some (.slice Ao42 t323.length co42) := (blk_cell BK329.out 0).trans rfl
      have hcz62_1 : w56.cell? ⟨gb329, 1, none⟩ = some (.slice Ao47 t326.length co47) := (blk_cell BK329.out 1).trans rfl
      have hfz62_0 := blk_frozen BK329.out 0
      have hfz62_1 := blk_frozen BK329.out 1
      have hnb63 := NB315_301.out
      have hnc63 := NB301_315.out
      have hnb64 := NB315_322.out
      have hnc64 := NB322_315.out
      have hcz65_0 : w56.cell? ⟨gb315, 0, none⟩ = some (.slice Ao28 t309.length co28) := (blk_cell BK315.out 0).trans rfl
      have hcz65_1 : w56.cell? ⟨gb315, 1, none⟩ = some (.slice Ao31 t312.length co31) := (blk_cell BK315.out 1).trans rfl
      have hfz65_0 := blk_frozen BK315.out 0
      have hfz65_1 := blk_frozen BK315.out 1
      go_wp2_with (first | (go_at_call 29; (with_reducible refine (laws_eqKnown.calls k _ _ t323 _ _ t326 _ _ t309 _ _ t312 t341 _ ?side1 ?side2 ?side3 ?side4 ?side5 ?side6 ?side7 ?side8 A58.out).mono ?_); (case side1 => repeat (first | exact (Kd.R_reads' HO325.out).2.2 | (with_reducible refine Kd.C_alloc ?_ _) | (with_reducible refine Kd.C_drewN ?_ _) | (with_reducible refine Kd.C_drew ?_))); (case side2 => exact (Kd.R_reads' HO325.out).2.1); (case side3 => repeat (first | exact (Kd.R_reads' HO328.out).2.2 | (with_reducible refine Kd.C_alloc ?_ _) | (with_reducible refine Kd.C_drewN ?_ _) | (with_reducible refine Kd.C_drew ?_))); (case side4 => exact (Kd.R_reads' HO328.out).2.1); (case side5 => repeat (first | exact (Kd.R_reads' HO311.out).2.2 | (with_reducible refine Kd.C_alloc ?_ _) | (with_reducible refine Kd.C_drewN ?_ _) | (with_reducible refine Kd.C_drew ?_))); (case side6 => exact (Kd.R_reads' HO311.out).2.1); (case side7 => repeat (first | exact (Kd.R_reads' HO314.out).2.2 | (with_reducible refine Kd.C_alloc ?_ _) | (with_reducible refine Kd.C_drewN ?_ _) | (with_reducible refine Kd.C_drew ?_))); (case side8 => exact (Kd.R_reads' HO314.out).2.1); rintro e w66 ⟨rfl, hb⟩; have n0_ := Aside0.mk (Kd.R_below (kR HO305.out) hb); have n1_ := Aside0.mk (Kd.R_below (kR HO308.out) hb); have n2_ := Aside0.mk (Kd.R_below (kR HO311.out) hb); have n3_ := Aside0.mk (Kd.R_below (kR HO314.out) hb); have n4_ := Aside0.mk (Kd.R_below (kR HO318.out) hb); have n5_ := Aside0.mk (Kd.R_below (kR HO321.out) hb); have n6_ := Aside0.mk (Kd.R_below (kR HO325.out) hb); have n7_ := Aside0.mk (Kd.R_below (kR HO328.out) hb); have n8_ := Aside0.mk (Kd.R_below (kR HO333.out) hb); have n9_ := Aside0.mk (Kd.R_below (kR HO336.out) hb); have n10_ := Aside0.mk (blk_below (kB BK301.out) hb); have n11_ := Aside0.mk (blk_below (kB BK315.out) hb); have n12_ := Aside0.mk (blk_below (kB BK322.out) hb); have n13_ := Aside0.mk (blk_below (kB BK329.out) hb); have n14_ := Aside0.mk (below_step bS hb); clear HO305; clear HO308; clear HO311; clear HO314; clear HO318; clear HO321; clear HO325; clear HO328; clear HO333; clear HO336; clear BK301; clear BK315; clear BK322; clear BK329; clear HB; have HO305 := n0_; have HO308 := n1_; have HO311 := n2_; have HO314 := n3_; have HO318 := n4_; have HO321 := n5_; have HO325 := n6_; have HO328 := n7_; have HO333 := n8_; have HO336 := n9_; have BK301 := n10_; have BK315 := n11_; have BK322 := n12_; have BK329 := n13_; have HB := n14_; clear n0_ n1_ n2_ n3_ n4_ n5_ n6_ n7_ n8_ n9_ n10_ n11_ n12_ n13_ n14_; (try clear hb); (try clear hb2); (try clear hk); (try clear hi)))
      go_meet
      case rel => exact ⟨_, (!t341), eX, H', ⟨by first | omega | exact Nat.le_refl _⟩, ⟨by (with_reducible repeat (first | apply Kd.R_alloc | apply Kd.R_drewN | apply Kd.R_drew)); exact Kd.R_mono HO311.out (fun _ hk => ⟨hk.2.1, hk.2.2.1⟩)⟩, ⟨by (with_reducible repeat (first | apply Kd.R_alloc | apply Kd.R_drewN | apply Kd.R_drew)); exact Kd.R_mono HO314.out (fun _ hk => ⟨hk.2.1, hk.2.2.1⟩)⟩, ⟨by (with_reducible repeat (first | apply Kd.R_alloc | apply Kd.R_drewN | apply Kd.R_drew)); exact Kd.R_mono HO318.out (fun _ hk => ⟨hk.1.1.2, hk.1.2⟩)⟩, ⟨by (with_reducible repeat (first | apply Kd.R_alloc | apply Kd.R_drewN | apply Kd.R_drew)); exact Kd.R_mono HO321.out (fun _ hk => ⟨hk.1.1.2, hk.1.2⟩)⟩, ⟨by (with_reducible repeat (first | apply Kd.R_alloc | apply Kd.R_drewN | apply Kd.R_drew)); exact Kd.R_mono HO325.out (fun _ hk => ⟨hk.2.1, hk.2.2.1⟩)⟩, ⟨by (with_reducible repeat (first | apply Kd.R_alloc | apply Kd.R_drewN | apply Kd.R_drew)); exact Kd.R_mono HO328.out (fun _ hk => ⟨hk.2.1, hk.2.2.1⟩)⟩, ⟨by (with_reducible repeat (first | refine blk_drewN ?_ _ | refine blk_drew ?_ | refine blk_alloc ?_ _)); exact BK301.out⟩, ⟨by (with_reducible repeat (first | refine blk_drewN ?_ _ | refine blk_drew ?_ | refine blk_alloc ?_ _)); exact BK315.out⟩, ⟨by (with_reducible repeat (first | refine blk_drewN ?_ _ | refine blk_drew ?_ | refine blk_alloc ?_ _)); exact BK322.out⟩, ⟨by (with_reducible repeat (first | refine blk_drewN ?_ _ | refine blk_drew ?_ | refine blk_alloc ?_ _)); exact BK329.out⟩, ⟨by repeat (first | (with_reducible first | exact HB.out | apply below_alloc | apply pw_below_drewN | apply below_drew1 | refine below_set ?_ GE301.out | refine below_set ?_ GE315.out | refine below_set ?_ GE322.out | refine below_set ?_ GE329.out) | exact HB.out)⟩⟩
    case rest =>
     clear HC18
     try clear c1
     try clear c2
     try clear p2
     try clear c3
     try clear c4
     try clear c4b0
     try clear c5
     try clear c6
     try clear c7
     try clear c13
     try clear c16
     try clear c25
     try clear c27
     try clear c28
     try clear c29
     try clear c30
     try clear c31
     try clear c36
     try clear c37
     try clear c43
     try clear c44
     try clear c45
     try clear c57
     try clear c57b0
     try clear c59
     try clear c60
     try clear c61
     try clear c63
     try clear c64
     try clear hcz20_0
     try clear hcz20_1
     try clear hcz22_0
     try clear hcz22_1
     try clear hcz30_0
     try clear hcz30_1
     try clear hcz32_0
     try clear hcz32_1
     try clear hcz38_0
     try clear hcz38_1
     try clear hcz46_0
     try clear hcz46_1
     try clear hcz48_0
     try clear hcz48_1
     try clear hcz55_0
     try clear hcz55_1
     try clear hcz62_0
     try clear hcz62_1
     try clear hcz65_0
     try clear hcz65_1
     try clear hcz6_0
     try clear hcz6_1
     try clear hfz20_0
     try clear hfz20_1
     try clear hfz22_0
     try clear hfz22_1
     try clear hfz30_0
     try clear hfz30_1
     try clear hfz32_0
     try clear hfz32_1
     try clear hfz38_0
     try clear hfz38_1
     try clear hfz46_0
     try clear hfz46_1
     try clear hfz48_0
     try clear hfz48_1
     try clear hfz55_0
     try clear hfz55_1
     try clear hfz62_0
     try clear hfz62_1
     try clear hfz65_0
     try clear hfz65_1
     try clear hfz6_0
     try clear hfz6_1
     obtain ⟨kq, x46_17, rfl, HA, HJ17, HO_316000, HO_316001, HO_323000, HO_323001, HO_330000, HO_330001, BK301, BK315, BK322, BK329, HB⟩ := hcut
     have hl323000_17 := (Kd.R_reads' HO_323000.out).1
     rw [hl323000_17] at HO_323000
     (try simp only [hl323000_17])
     (try simp only [hl323000_17] at BK301)
     (try simp only [hl323000_17] at BK315)
     (try simp only [hl323000_17] at BK322)
     (try simp only [hl323000_17] at BK329)
     (try simp only [hl323000_17] at HO_316000)
     (try simp only [hl323000_17] at HO_316001)
     (try simp only [hl323000_17] at HO_323001)
     (try simp only [hl323000_17] at HO_330000)
     (try simp only [hl323000_17] at HO_330001)
     have hl323001_17 := (Kd.R_reads' HO_323001.out).1
     rw [hl323001_17] at HO_323001
     (try simp only [hl323001_17])
     (try simp only [hl323001_17] at BK301)
     (try simp only [hl323001_17] at BK315)
     (try simp only [hl323001_17] at BK322)
     (try simp only [hl323001_17] at BK329)
     (try simp only [hl323001_17] at HO_316000)
     (try simp only [hl323001_17] at HO_316001)
     (try simp only [hl323001_17] at HO_323000)
     (try simp only [hl323001_17] at HO_330000)
     (try simp only [hl323001_17] at HO_330001)
     cases kq with
     | zero => exact absurd HA.out (by simp [laws_FnExactLearnKey.j0])
     | succ kj17 =>
      have H := HA.out
      clear HA
      simp only [laws_FnExactLearnKey.j0] at H
      by_cases c67 : x46_17 = true
      ·subst c67
       have H1 : (some false) = some r := by rw [if_pos rfl] at H; exact H
       clear H
       have H := H1
       clear H1
       rw [hr_true.out] at H
       exact absurd H (by simp)
      ·replace c67 := Bool.eq_false_iff.mpr c67
       subst c67
       have H1 : ((laws_markKnown.f kj17 t323 t326 1).bind fun bt342 => ((laws_heldKnown.f kj17 bt342.2.1 bt342.2.2 1).bind fun t345 => (if t345 < 0 then (some false) else (if t345 = bt342.1 then ((laws_toKnown.f kj17 l0_0 l0_1).bind fun bt346 => ((impl_LearnKey.f kj17 bt346.1 bt346.2 a1).bind fun bt352 => ((laws_eqKnown.f kj17 bt352.1 bt352.2 t309 t312).bind fun t359 => (if t359 = true then ((laws_heldKnown.f kj17 bt342.2.1 bt342.2.2 1).bind fun t360 => (if t360 < 0 then (some false) else (if t360 = bt342.1 then (some true) else (some false)))) else (some false))))) else (some false))))) = some r := by rw [if_neg (show ¬ (false = true) by decide)] at H; exact H
       clear H
       have H := H1
       clear H1
       replace H := Option.bind_eq_some_iff.mp H
       obtain ⟨⟨t342, t343, t344⟩, A680, H⟩ := H
       replace H : ((laws_heldKnown.f kj17 t343 t344 1).bind fun t345 => (if t345 < 0 then (some false) else (if t345 = t342 then ((laws_toKnown.f kj17 l0_0 l0_1).bind fun bt346 => ((impl_LearnKey.f kj17 bt346.1 bt346.2 a1).bind fun bt352 => ((laws_eqKnown.f kj17 bt352.1 bt352.2 t309 t312).bind fun t359 => (if t359 = true then ((laws_heldKnown.f kj17 t343 t344 1).bind fun t360 => (if t360 < 0 then (some false) else (if t360 = t342 then (some true) else (some false)))) else (some false))))) else (some false)))) = some r := H
       have A68 := Aside0.mk A680
       clear A680
       replace H := Option.bind_eq_some_iff.mp H
       obtain ⟨t345, A690, H⟩ := H
       replace H : (if t345 < 0 then (some false) else (if t345 = t342 then ((laws_toKnown.f kj17 l0_0 l0_1).bind fun bt346 => ((impl_LearnKey.f kj17 bt346.1 bt346.2 a1).bind fun bt352 => ((laws_eqKnown.f kj17 bt352.1 bt352.2 t309 t312).bind fun t359 => (if t359 = true then ((laws_heldKnown.f kj17 t343 t344 1).bind fun t360 => (if t360 < 0 then (some false) else (if t360 = t342 then (some true) else (some false)))) else (some false))))) else (some false))) = some r := H
       have A69 := Aside0.mk A690
       clear A690
       by_cases c70 : t345 < 0
       ·rw [if_pos c70] at H
        have c70b0 : decide (t345 < 0) = true := decide_eq_true c70
        clear c70
        rw [hr_true.out] at H
        exact absurd H (by simp)
       ·rw [if_neg c70] at H
        have c70b0 : decide (t345 < 0) = false := decide_eq_false c70
        clear c70
        by_cases c71 : t345 = t342
        ·rw [if_pos c71] at H
         have c71b0 : (t345 == t342) = true := beq_iff_eq.mpr c71
         have c71b1 : (t345 != t342) = false := bne_eq_false_iff_eq.mpr c71
         clear c71
         replace H := Option.bind_eq_some_iff.mp H
         obtain ⟨⟨t346, t349⟩, A720, H⟩ := H
         replace H : ((impl_LearnKey.f kj17 t346 t349 a1).bind fun bt352 => ((laws_eqKnown.f kj17 bt352.1 bt352.2 t309 t312).bind fun t359 => (if t359 = true then ((laws_heldKnown.f kj17 t343 t344 1).bind fun t360 => (if t360 < 0 then (some false) else (if t360 = t342 then (some true) else (some false)))) else (some false)))) = some r := H
         have A72 := Aside0.mk A720
         clear A720
         replace H := Option.bind_eq_some_iff.mp H
         obtain ⟨⟨t352, t355⟩, A730, H⟩ := H
         replace H : ((laws_eqKnown.f kj17 t352 t355 t309 t312).bind fun t359 => (if t359 = true then ((laws_heldKnown.f kj17 t343 t344 1).bind fun t360 => (if t360 < 0 then (some false) else (if t360 = t342 then (some true) else (some false)))) else (some false))) = some r := H
         have A73 := Aside0.mk A730
         clear A730
         replace H := Option.bind_eq_some_iff.mp H
         obtain ⟨t359, A740, H⟩ := H
         replace H : (if t359 = true then ((laws_heldKnown.f kj17 t343 t344 1).bind fun t360 => (if t360 < 0 then (some false) else (if t360 = t342 then (some true) else (some false)))) else (some false)) = some r := H
         have A74 := Aside0.mk A740
         clear A740
         by_cases c75 : t359 = true
         ·subst c75
          have H1 : ((laws_heldKnown.f kj17 t343 t344 1).bind fun t360 => (if t360 < 0 then (some false) else (if t360 = t342 then (some true) else (some false)))) = some r := by rw [if_pos rfl] at H; exact H
          clear H
          have H := H1
          clear H1
          replace H := Option.bind_eq_some_iff.mp H
          obtain ⟨t360, A760, H⟩ := H
          replace H : (if t360 < 0 then (some false) else (if t360 = t342 then (some true) else (some false))) = some r := H
          have A76 := Aside0.mk A760
          clear A760
          by_cases c77 : t360 < 0
          ·rw [if_pos c77] at H
           have c77b0 : decide (t360 < 0) = true := decide_eq_true c77
           clear c77
           rw [hr_true.out] at H
           exact absurd H (by simp)
          ·rw [if_neg c77] at H
           have c77b0 : decide (t360 < 0) = false := decide_eq_false c77
           clear c77
           by_cases c78 : t360 = t342
           ·rw [if_pos c78] at H
            have c78b0 : (t360 == t342) = true := beq_iff_eq.mpr c78
            have c78b1 : (t360 != t342) = false := bne_eq_false_iff_eq.mpr c78
            clear c78
            obtain rfl := Option.some.inj H
            have hnb79 := NB329_301.out
            have hnc79 := NB301_329.out
            have hnb80 := NB329_315.out
            have hnc80 := NB315_329.out
            have hnb81 := NB329_322.out
            have hnc81 := NB322_329.out
            have hcz82_0 : wc.cell? ⟨gb329, 0, none⟩ = some (.slice Ao42 t323.length co42) := (blk_cell BK329.out 0).trans rfl
            have hcz82_1 : wc.cell? ⟨gb329, 1, none⟩ = some (.slice Ao47 t326.length co47) := (blk_cell BK329.out 1).trans rfl
            have hfz82_0 := blk_frozen BK329.out 0
            have hfz82_1 := blk_frozen BK329.out 1
            go_wp2_with (first | ((with_reducible refine gate_callee (f := 31) rfl ?_); refine goesL_ (some 49) rfl rfl Try.func31 (by kernel_rfl) rfl #[.agg #[.slice Ao42 t323.length co42, .slice Ao47 t326.length co47], .int .i64 1] rfl eA ?_; (with_reducible refine (laws_markKnown.calls kj17 (fun k_ => some k_ = (.slice Ao42 t323.length co42 : Value).ownBlock) (.slice Ao42 t323.length co42) t323 (fun k_ => some k_ = (.slice Ao47 t326.length co47 : Value).ownBlock) (.slice Ao47 t326.length co47) t326 1 t342 t343 t344 w _ ?side1 ?side2 ?side3 A68.out).mono ?_); (case side1 => repeat (first | (with_reducible first | exact HB.out | apply below_alloc | apply pw_below_drewN | apply below_drew1 | refine below_set ?_ GE301.out | refine below_set ?_ GE315.out | refine below_set ?_ GE322.out | refine below_set ?_ GE329.out) | exact HB.out)); (case side2 => exact Kd.R_tight rfl HO_330000.out); (case side3 => exact Kd.R_tight rfl HO_330001.out); rintro e w83 ⟨rfl, hy0, hy1, hb, hkp⟩; refine ⟨_, rfl, ?_⟩; have n0_ := Aside0.mk (Kd.R_mono (ok' := fun k_ => some k_ ≠ (.slice Ao35 t339.length co35 : Value).ownBlock ∧ some k_ ≠ (.slice Ao42 t323.length co42 : Value).ownBlock) (Kd.R_keptB ((Kd.R_apart' HO_316000.out (Kd.R_typed HO_330001.out) (by decide))) hkp (fun k_ hk_ hs_ => Or.elim hs_ (fun e_ => (hk_.1.2) e_) (fun e_ => (hk_.2) e_))) (fun k_ hk_ => ⟨hk_.1.1.1, hk_.1.1.2⟩)); have n1_ := Aside0.mk (Kd.R_mono (ok' := fun k_ => some k_ ≠ (.slice Ao39 t340.length co39 : Value).ownBlock ∧ some k_ ≠ (.slice Ao47 t326.length co47 : Value).ownBlock) (Kd.R_keptB ((Kd.R_apart' HO_316001.out (Kd.R_typed HO_330000.out) (by decide))) hkp (fun k_ hk_ hs_ => Or.elim hs_ (fun e_ => (hk_.2) e_) (fun e_ => (hk_.1.2) e_))) (fun k_ hk_ => ⟨hk_.1.1.1, hk_.1.1.2⟩)); have n2_ := Aside0.mk (Kd.R_mono (ok' := fun k_ => some k_ ≠ (.slice Ao28 t309.length co28 : Value).ownBlock ∧ some k_ ≠ (.slice Ao42 t323.length co42 : Value).ownBlock) (Kd.R_keptB ((Kd.R_apart' HO_323000.out (Kd.R_typed HO_330001.out) (by decide))) hkp (fun k_ hk_ hs_ => Or.elim hs_ (fun e_ => (hk_.1.2) e_) (fun e_ => (hk_.2) e_))) (fun k_ hk_ => ⟨hk_.1.1.1, hk_.1.1.2⟩)); have n3_ := Aside0.mk (Kd.R_mono (ok' := fun k_ => some k_ ≠ (.slice Ao31 t312.length co31 : Value).ownBlock ∧ some k_ ≠ (.slice Ao47 t326.length co47 : Value).ownBlock) (Kd.R_keptB ((Kd.R_apart' HO_323001.out (Kd.R_typed HO_330000.out) (by decide))) hkp (fun k_ hk_ hs_ => Or.elim hs_ (fun e_ => (hk_.2) e_) (fun e_ => (hk_.1.2) e_))) (fun k_ hk_ => ⟨hk_.1.1.1, hk_.1.1.2⟩)); have n4_ := Aside0.mk (Kd.R_reok rfl hy0 (fun k_ e_ => HO_330000.out.1 k_ e_)); have n5_ := Aside0.mk (Kd.R_reok rfl hy1 (fun k_ e_ => HO_330001.out.1 k_ e_)); have n6_ := Aside0.mk (blk_kept (kB BK301.out) hkp (fun hs_ => Or.elim hs_ (fun e_ => (fun e_ => (Kd.R_ne HO_330000.out BK301.out (by decide)) e_) e_) (fun e_ => (fun e_ => (Kd.R_ne HO_330001.out BK301.out (by decide)) e_) e_))); have n7_ := Aside0.mk (blk_kept (kB BK315.out) hkp (fun hs_ => Or.elim hs_ (fun e_ => (fun e_ => (Kd.R_ne HO_330000.out BK315.out (by decide)) e_) e_) (fun e_ => (fun e_ => (Kd.R_ne HO_330001.out BK315.out (by decide)) e_) e_))); have n8_ := Aside0.mk (blk_kept (kB BK322.out) hkp (fun hs_ => Or.elim hs_ (fun e_ => (fun e_ => (Kd.R_ne HO_330000.out BK322.out (by decide)) e_) e_) (fun e_ => (fun e_ => (Kd.R_ne HO_330001.out BK322.out (by decide)) e_) e_))); have n9_ := Aside0.mk (blk_kept (kB BK329.out) hkp (fun hs_ => Or.elim hs_ (fun e_ => (fun e_ => (Kd.R_ne HO_330000.out BK329.out (by decide)) e_) e_) (fun e_ => (fun e_ => (Kd.R_ne HO_330001.out BK329.out (by decide)) e_) e_))); have n10_ := Aside0.mk (hb); clear HO_316000; clear HO_316001; clear HO_323000; clear HO_323001; clear HO_330000; clear HO_330001; clear BK301; clear BK315; clear BK322; clear BK329; clear HB; have HO_316000 := n0_; have HO_316001 := n1_; have HO_323000 := n2_; have HO_323001 := n3_; have HO_330000 := n4_; have HO_330001 := n5_; have BK301 := n6_; have BK315 := n7_; have BK322 := n8_; have BK329 := n9_; have HB := n10_; clear n0_ n1_ n2_ n3_ n4_ n5_ n6_ n7_ n8_ n9_ n10_; (try clear hb); (try clear hkp); (try clear hy0); (try clear hy1); have hcz84_0 : w83.cell? ⟨gb329, 0, none⟩ = some (.slice Ao42 t323.length co42) := (blk_cell BK329.out 0).trans rfl; have hcz84_1 : w83.cell? ⟨gb329, 1, none⟩ = some (.slice Ao47 t326.length co47) := (blk_cell BK329.out 1).trans rfl; have hfz84_0 := blk_frozen BK329.out 0; have hfz84_1 := blk_frozen BK329.out 1) | ((with_reducible refine gate_callee (f := 32) rfl ?_); refine goesL_ (some 52) rfl rfl Try.func32 (by kernel_rfl) rfl #[.agg #[.slice Ao42 t343.length co42, .slice Ao47 t344.length co47], .int .i64 1] rfl (by (try simp only [List.map_toArray, List.map_cons, List.map_nil]); first | done | (rw [show t343.length = t323.length from (Kd.R_reads' HO_330000.out).1.symm, show t344.length = t326.length from (Kd.R_reads' HO_330001.out).1.symm] <;> rfl) | rfl | (simp only [List.length_drop, List.length_take]; rfl)) ?_; (with_reducible refine (laws_heldKnown.calls kj17 _ _ t343 _ _ t344 1 t345 _ ?side1 ?side2 ?side3 ?side4 A69.out).mono ?_); (case side1 => repeat (first | exact (Kd.R_reads' HO_330000.out).2.2 | (with_reducible refine Kd.C_alloc ?_ _) | (with_reducible refine Kd.C_drewN ?_ _) | (with_reducible refine Kd.C_drew ?_))); (case side2 => rw [show t343.length = t323.length from (Kd.R_reads' HO_330000.out).1.symm]; exact (Kd.R_reads' HO_330000.out).2.1); (case side3 => repeat (first | exact (Kd.R_reads' HO_330001.out).2.2 | (with_reducible refine Kd.C_alloc ?_ _) | (with_reducible refine Kd.C_drewN ?_ _) | (with_reducible refine Kd.C_drew ?_))); (case side4 => rw [show t344.length = t326.length from (Kd.R_reads' HO_330001.out).1.symm]; exact (Kd.R_reads' HO_330001.out).2.1); rintro e w85 ⟨rfl, hb⟩; refine ⟨_, rfl, ?_⟩; have n0_ := Aside0.mk (Kd.R_below (kR HO_316000.out) hb); have n1_ := Aside0.mk (Kd.R_below (kR HO_316001.out) hb); have n2_ := Aside0.mk (Kd.R_below (kR HO_323000.out) hb); have n3_ := Aside0.mk (Kd.R_below (kR HO_323001.out) hb); have n4_ := Aside0.mk (Kd.R_below (kR HO_330000.out) hb); have n5_ := Aside0.mk (Kd.R_below (kR HO_330001.out) hb); have n6_ := Aside0.mk (blk_below (kB BK301.out) hb); have n7_ := Aside0.mk (blk_below (kB BK315.out) hb); have n8_ := Aside0.mk (blk_below (kB BK322.out) hb); have n9_ := Aside0.mk (blk_below (kB BK329.out) hb); have n10_ := Aside0.mk (below_step bS hb); clear HO_316000; clear HO_316001; clear HO_323000; clear HO_323001; clear HO_330000; clear HO_330001; clear BK301; clear BK315; clear BK322; clear BK329; clear HB; have HO_316000 := n0_; have HO_316001 := n1_; have HO_323000 := n2_; have HO_323001 := n3_; have HO_330000 := n4_; have HO_330001 := n5_; have BK301 := n6_; have BK315 := n7_; have BK322 := n8_; have BK329 := n9_; have HB := n10_; clear n0_ n1_ n2_ n3_ n4_ n5_ n6_ n7_ n8_ n9_ n10_; (try clear hb); (try clear hb2); (try clear hk); (try clear hi); have hnb86 := NB301_315.out; have hnc86 := NB315_301.out; have hnb87 := NB301_322.out; have hnc87 := NB322_301.out; have hcz88_0 : w85.cell? ⟨gb301, 0, none⟩ = some (.slice A0_0 l0_0.length c0_0) := (blk_cell BK301.out 0).trans rfl; have hcz88_1 : w85.cell? ⟨gb301, 1, none⟩ = some (.slice A0_1 l0_1.length c0_1) := (blk_cell BK301.out 1).trans rfl; have hfz88_0 := blk_frozen BK301.out 0; have hfz88_1 := blk_frozen BK301.out 1) | ((with_reducible refine gate_callee (f := 28) rfl ?_); refine goesL_ (some 59) rfl rfl Try.func28 (by kernel_rfl) rfl #[.agg #[.slice A0_0 l0_0.length c0_0, .slice A0_1 l0_1.length c0_1]] rfl eA ?_; (with_reducible refine (laws_toKnown.calls kj17 _ _ l0_0 _ _ l0_1 t346 t349 _ ?side1 ?side2 ?side3 ?side4 A72.out).mono ?_); (case side1 => repeat (first | exact (Kd.C_below HR0_0.out HB.out) | (with_reducible refine Kd.C_alloc ?_ _) | (with_reducible refine Kd.C_drewN ?_ _) | (with_reducible refine Kd.C_drew ?_))); (case side2 => exact HC0_0.out); (case side3 => repeat (first | exact (Kd.C_below HR0_1.out HB.out) | (with_reducible refine Kd.C_alloc ?_ _) | (with_reducible refine Kd.C_drewN ?_ _) | (with_reducible refine Kd.C_drew ?_))); (case side4 => exact HC0_1.out); rintro e w89 ⟨v347, v350, rfl, ho0, ho1, hb⟩; refine ⟨_, rfl, ?_⟩; have n0_ := Aside0.mk (Kd.R_elder' (kR HO_316000.out) (Kd.R_base ho0) hb); have n1_ := Aside0.mk (Kd.R_elder' (kR HO_316001.out) (Kd.R_base ho1) hb); have n2_ := Aside0.mk (Kd.R_elder' (kR HO_323000.out) (Kd.R_base ho0) hb); have n3_ := Aside0.mk (Kd.R_elder' (kR HO_323001.out) (Kd.R_base ho1) hb); have n4_ := Aside0.mk (Kd.R_elder' (kR HO_330000.out) (Kd.R_base ho0) hb); have n5_ := Aside0.mk (Kd.R_elder' (kR HO_330001.out) (Kd.R_base ho1) hb); have n6_ := Aside0.mk (Kd.R_lower (Kd.R_new' (Kd.R_new' (Kd.R_new' ho0 (Kd.R_lt (kR HO_316000.out))) (Kd.R_lt (kR HO_323000.out))) (Kd.R_lt (kR HO_330000.out))) (below_size bS)); have n7_ := Aside0.mk (Kd.R_lower (Kd.R_new' (Kd.R_new' (Kd.R_new' ho1 (Kd.R_lt (kR HO_316001.out))) (Kd.R_lt (kR HO_323001.out))) (Kd.R_lt (kR HO_330001.out))) (below_size bS)); have n8_ := Aside0.mk (blk_below (kB BK301.out) hb); have n9_ := Aside0.mk (blk_below (kB BK315.out) hb); have n10_ := Aside0.mk (blk_below (kB BK322.out) hb); have n11_ := Aside0.mk (blk_below (kB BK329.out) hb); have n12_ := Aside0.mk (below_step bS hb); clear HO_316000; clear HO_316001; clear HO_323000; clear HO_323001; clear HO_330000; clear HO_330001; clear BK301; clear BK315; clear BK322; clear BK329; clear HB; have HO_316000 := n0_; have HO_316001 := n1_; have HO_323000 := n2_; have HO_323001 := n3_; have HO_330000 := n4_; have HO_330001 := n5_; have HO348 := n6_; have HO351 := n7_; have BK301 := n8_; have BK315 := n9_; have BK322 := n10_; have BK329 := n11_; have HB := n12_; clear n0_ n1_ n2_ n3_ n4_ n5_ n6_ n7_ n8_ n9_ n10_ n11_ n12_; (try clear hb); (try clear hb2); (try clear hk); (try clear hi); (try clear ho0); (try clear ho1); obtain ⟨Ao90, co90, eo90⟩ := Kd.R_slice HO348.out; subst eo90; obtain ⟨Ao91, co91, eo91⟩ := Kd.R_slice HO351.out; subst eo91) | ((with_reducible refine gate_callee (f := 25) rfl ?_); refine goesL_ (some 61) rfl rfl Try.func25 (by kernel_rfl) rfl #[.agg #[.slice Ao90 t346.length co90, .slice Ao91 t349.length co91], .int .i64 a1] rfl eA ?_; (with_reducible refine (impl_LearnKey.calls kj17 _ _ t346 _ _ t349 a1 t352 t355 _ ?side1 ?side2 ?side3 ?side4 A73.out).mono ?_); (case side1 => repeat (first | exact (Kd.R_reads' HO348.out).2.2 | (with_reducible refine Kd.C_alloc ?_ _) | (with_reducible refine Kd.C_drewN ?_ _) | (with_reducible refine Kd.C_drew ?_))); (case side2 => exact (Kd.R_reads' HO348.out).2.1); (case side3 => repeat (first | exact (Kd.R_reads' HO351.out).2.2 | (with_reducible refine Kd.C_alloc ?_ _) | (with_reducible refine Kd.C_drewN ?_ _) | (with_reducible refine Kd.C_drew ?_))); (case side4 => exact (Kd.R_reads' HO351.out).2.1); rintro e w92 ⟨v353, v356, rfl, ho0, ho1, hb⟩; refine ⟨_, rfl, ?_⟩; have n0_ := Aside0.mk (Kd.R_elder' (kR HO_316000.out) (Kd.R_base ho0) hb); have n1_ := Aside0.mk (Kd.R_elder' (kR HO_316001.out) (Kd.R_base ho1) hb); have n2_ := Aside0.mk (Kd.R_elder' (kR HO_323000.out) (Kd.R_base ho0) hb); have n3_ := Aside0.mk (Kd.R_elder' (kR HO_323001.out) (Kd.R_base ho1) hb); have n4_ := Aside0.mk (Kd.R_elder' (kR HO_330000.out) (Kd.R_base ho0) hb); have n5_ := Aside0.mk (Kd.R_elder' (kR HO_330001.out) (Kd.R_base ho1) hb); have n6_ := Aside0.mk (Kd.R_elder' (kR HO348.out) (Kd.R_base ho0) hb); have n7_ := Aside0.mk (Kd.R_elder' (kR HO351.out) (Kd.R_base ho1) hb); have n8_ := Aside0.mk (Kd.R_lower (Kd.R_new' (Kd.R_new' (Kd.R_new' (Kd.R_new' ho0 (Kd.R_lt (kR HO_316000.out))) (Kd.R_lt (kR HO_323000.out))) (Kd.R_lt (kR HO_330000.out))) (Kd.R_lt (kR HO348.out))) (below_size bS)); have n9_ := Aside0.mk (Kd.R_lower (Kd.R_new' (Kd.R_new' (Kd.R_new' (Kd.R_new' ho1 (Kd.R_lt (kR HO_316001.out))) (Kd.R_lt (kR HO_323001.out))) (Kd.R_lt (kR HO_330001.out))) (Kd.R_lt (kR HO351.out))) (below_size bS)); have n10_ := Aside0.mk (blk_below (kB BK301.out) hb); have n11_ := Aside0.mk (blk_below (kB BK315.out) hb); have n12_ := Aside0.mk (blk_below (kB BK322.out) hb); have n13_ := Aside0.mk (blk_below (kB BK329.out) hb); have n14_ := Aside0.mk (below_step bS hb); clear HO_316000; clear HO_316001; clear HO_323000; clear HO_323001; clear HO_330000; clear HO_330001; clear HO348; clear HO351; clear BK301; clear BK315; clear BK322; clear BK329; clear HB; have HO_316000 := n0_; have HO_316001 := n1_; have HO_323000 := n2_; have HO_323001 := n3_; have HO_330000 := n4_; have HO_330001 := n5_; have HO348 := n6_; have HO351 := n7_; have HO354 := n8_; have HO357 := n9_; have BK301 := n10_; have BK315 := n11_; have BK322 := n12_; have BK329 := n13_; have HB := n14_; clear n0_ n1_ n2_ n3_ n4_ n5_ n6_ n7_ n8_ n9_ n10_ n11_ n12_ n13_ n14_; (try clear hb); (try clear hb2); (try clear hk); (try clear hi); (try clear ho0); (try clear ho1)) | ((with_reducible refine gate_dst (N := 12) rfl ?_); refine box_event ?hg (N := 12) ?hd (cs := #[.slice none 0 0, .slice none 0 0]) (t := 27) ?hr ?_; (case hd => rfl); (case hg => rfl); (case hr => first | (go_simp; done) | (go_simp; rfl)); intro gb358 hg w93 hbox hb; have n0_ := Aside0.mk (Kd.R_below (kR HO_316000.out) hb); have n1_ := Aside0.mk (Kd.R_below (kR HO_316001.out) hb); have n2_ := Aside0.mk (Kd.R_below (kR HO_323000.out) hb); have n3_ := Aside0.mk (Kd.R_below (kR HO_323001.out) hb); have n4_ := Aside0.mk (Kd.R_below (kR HO_330000.out) hb); have n5_ := Aside0.mk (Kd.R_below (kR HO_330001.out) hb); have n6_ := Aside0.mk (Kd.R_below (kR HO348.out) hb); have n7_ := Aside0.mk (Kd.R_below (kR HO351.out) hb); have n8_ := Aside0.mk (Kd.R_below (kR HO354.out) hb); have n9_ := Aside0.mk (Kd.R_below (kR HO357.out) hb); have n10_ := Aside0.mk (blk_below (kB BK301.out) hb); have n11_ := Aside0.mk (blk_below (kB BK315.out) hb); have n12_ := Aside0.mk (blk_below (kB BK322.out) hb); have n13_ := Aside0.mk (blk_below (kB BK329.out) hb); have n14_ := Aside0.mk (below_step bS hb); have n15_ := Aside0.mk (hbox); have n16_ := Aside0.mk ((bZ hg : w.heap.size ≤ gb358)); have n17_ := Aside0.mk ((bZ hg : w.heap.size ≤ gb358)); have n18_ := Aside0.mk ((nL hg BK301.out : gb301 ≠ gb358)); have n19_ := Aside0.mk ((nG hg BK301.out : gb358 ≠ gb301)); have n20_ := Aside0.mk ((nL hg BK315.out : gb315 ≠ gb358)); have n21_ := Aside0.mk ((nG hg BK315.out : gb358 ≠ gb315)); have n22_ := Aside0.mk ((nL hg BK322.out : gb322 ≠ gb358)); have n23_ := Aside0.mk ((nG hg BK322.out : gb358 ≠ gb322)); have n24_ := Aside0.mk ((nL hg BK329.out : gb329 ≠ gb358)); have n25_ := Aside0.mk ((nG hg BK329.out : gb358 ≠ gb329)); clear HO_316000; clear HO_316001; clear HO_323000; clear HO_323001; clear HO_330000; clear HO_330001; clear HO348; clear HO351; clear HO354; clear HO357; clear BK301; clear BK315; clear BK322; clear BK329; clear HB; have HO_316000 := n0_; have HO_316001 := n1_; have HO_323000 := n2_; have HO_323001 := n3_; have HO_330000 := n4_; have HO_330001 := n5_; have HO348 := n6_; have HO351 := n7_; have HO354 := n8_; have HO357 := n9_; have BK301 := n10_; have BK315 := n11_; have BK322 := n12_; have BK329 := n13_; have HB := n14_; have BK358 := n15_; have GW358 := n16_; have GE358 := n17_; have NB301_358 := n18_; have NB358_301 := n19_; have NB315_358 := n20_; have NB358_315 := n21_; have NB322_358 := n22_; have NB358_322 := n23_; have NB329_358 := n24_; have NB358_329 := n25_; clear n0_ n1_ n2_ n3_ n4_ n5_ n6_ n7_ n8_ n9_ n10_ n11_ n12_ n13_ n14_ n15_ n16_ n17_ n18_ n19_ n20_ n21_ n22_ n23_ n24_ n25_; clear hb hbox hg; obtain ⟨Ao94, co94, eo94⟩ := Kd.R_slice HO354.out; subst eo94; have hnb95 := NB358_301.out; have hnc95 := NB301_358.out; have hnb96 := NB358_315.out; have hnc96 := NB315_358.out; have hnb97 := NB358_322.out; have hnc97 := NB322_358.out; have hnb98 := NB358_329.out; have hnc98 := NB329_358.out; have hcz99_0 : w93.cell? ⟨gb358, 0, none⟩ = some (.slice none 0 0) := (blk_cell BK358.out 0).trans rfl; have hcz99_1 : w93.cell? ⟨gb358, 1, none⟩ = some (.slice none 0 0) := (blk_cell BK358.out 1).trans rfl; have hfz99_0 := blk_frozen BK358.out 0; have hfz99_1 := blk_frozen BK358.out 1; obtain ⟨Ao100, co100, eo100⟩ := Kd.R_slice HO357.out; subst eo100; have hnb101 := NB315_322.out; have hnc101 := NB322_315.out; have hcz102_0 : w93.cell? ⟨gb315, 0, none⟩ = some (.slice Ao28 t309.length co28) := (blk_cell BK315.out 0).trans rfl; have hcz102_1 : w93.cell? ⟨gb315, 1, none⟩ = some (.slice Ao31 t312.length co31) := (blk_cell BK315.out 1).trans rfl; have hfz102_0 := blk_frozen BK315.out 0; have hfz102_1 := blk_frozen BK315.out 1) | ((with_reducible refine gate_callee (f := 29) rfl ?_); refine goesL_ (some 64) rfl rfl Try.func29 (by kernel_rfl) rfl #[.agg #[.slice Ao94 t352.length co94, .slice Ao100 t355.length co100], .agg #[.slice Ao28 t309.length co28, .slice Ao31 t312.length co31]] rfl eA ?_; (with_reducible refine (laws_eqKnown.calls kj17 _ _ t352 _ _ t355 _ _ t309 _ _ t312 true _ ?side1 ?side2 ?side3 ?side4 ?side5 ?side6 ?side7 ?side8 A74.out).mono ?_); (case side1 => refine (Kd.R_reads' (e := 9) (base := w.heap.size) (ok := fun k_ => ((((True ∧ some k_ ≠ (.slice Ao28 t309.length co28 : Value).ownBlock) ∧ some k_ ≠ (.slice Ao35 t339.length co35 : Value).ownBlock) ∧ some k_ ≠ (.slice Ao42 t323.length co42 : Value).ownBlock) ∧ some k_ ≠ (.slice Ao90 t346.length co90 : Value).ownBlock)) (n := t352.length) (c := co94) ?_).2.2; exact (by (with_reducible repeat (first | apply Kd.R_alloc | apply Kd.R_drewN | apply Kd.R_drew)); exact (Kd.R_mono (Kd.R_far (p := ⟨gb358, 1, none⟩) (Kd.R_far (p := ⟨gb358, 0, none⟩) (Kd.R_types HO354.out BK358.out (by decide)) (fun _ hk => hk.2) (.slice Ao94 t352.length co94)) (fun _ hk => hk.2) (.slice Ao100 t355.length co100)) (fun _ h_ => h_.1)))); (case side2 => exact (Kd.R_reads' HO354.out).2.1); (case side3 => refine (Kd.R_reads' (e := 3) (base := w.heap.size) (ok := fun k_ => ((((True ∧ some k_ ≠ (.slice Ao31 t312.length co31 : Value).ownBlock) ∧ some k_ ≠ (.slice Ao39 t340.length co39 : Value).ownBlock) ∧ some k_ ≠ (.slice Ao47 t326.length co47 : Value).ownBlock) ∧ some k_ ≠ (.slice Ao91 t349.length co91 : Value).ownBlock)) (n := t355.length) (c := co100) ?_).2.2; exact (by (with_reducible repeat (first | apply Kd.R_alloc | apply Kd.R_drewN | apply Kd.R_drew)); exact (Kd.R_mono (Kd.R_far (p := ⟨gb358, 1, none⟩) (Kd.R_far (p := ⟨gb358, 0, none⟩) (Kd.R_types HO357.out BK358.out (by decide)) (fun _ hk => hk.2) (.slice Ao94 t352.length co94)) (fun _ hk => hk.2) (.slice Ao100 t355.length co100)) (fun _ h_ => h_.1)))); (case side4 => exact (Kd.R_reads' HO357.out).2.1); (case side5 => refine (Kd.R_reads' (e := 9) (base := w.heap.size) (ok := fun k_ => (((some k_ ≠ (.slice Ao35 t339.length co35 : Value).ownBlock ∧ some k_ ≠ (.slice Ao42 t323.length co42 : Value).ownBlock) ∧ some k_ ≠ (.slice Ao90 t346.length co90 : Value).ownBlock) ∧ some k_ ≠ (.slice Ao94 t352.length co94 : Value).ownBlock)) (n := t309.length) (c := co28) ?_).2.2; exact (by (with_reducible repeat (first | apply Kd.R_alloc | apply Kd.R_drewN | apply Kd.R_drew)); exact (Kd.R_mono (Kd.R_far (p := ⟨gb358, 1, none⟩) (Kd.R_far (p := ⟨gb358, 0, none⟩) (Kd.R_types HO_316000.out BK358.out (by decide)) (fun _ hk => hk.2) (.slice Ao94 t352.length co94)) (fun _ hk => hk.2) (.slice Ao100 t355.length co100)) (fun _ h_ => h_.1)))); (case side6 => exact (Kd.R_reads' HO_316000.out).2.1); (case side7 => refine (Kd.R_reads' (e := 3) (base := w.heap.size) (ok := fun k_ => (((some k_ ≠ (.slice Ao39 t340.length co39 : Value).ownBlock ∧ some k_ ≠ (.slice Ao47 t326.length co47 : Value).ownBlock) ∧ some k_ ≠ (.slice Ao91 t349.length co91 : Value).ownBlock) ∧ some k_ ≠ (.slice Ao100 t355.length co100 : Value).ownBlock)) (n := t312.length) (c := co31) ?_).2.2; exact (by (with_reducible repeat (first | apply Kd.R_alloc | apply Kd.R_drewN | apply Kd.R_drew)); exact (Kd.R_mono (Kd.R_far (p := ⟨gb358, 1, none⟩) (Kd.R_far (p := ⟨gb358, 0, none⟩) (Kd.R_types HO_316001.out BK358.out (by decide)) (fun _ hk => hk.2) (.slice Ao94 t352.length co94)) (fun _ hk => hk.2) (.slice Ao100 t355.length co100)) (fun _ h_ => h_.1)))); (case side8 => exact (Kd.R_reads' HO_316001.out).2.1); rintro e w103 ⟨rfl, hb⟩; refine ⟨_, rfl, ?_⟩; have n0_ := Aside0.mk (Kd.R_below (by (with_reducible repeat (first | apply Kd.R_alloc | apply Kd.R_drewN | apply Kd.R_drew)); exact (Kd.R_mono (Kd.R_far (p := ⟨gb358, 1, none⟩) (Kd.R_far (p := ⟨gb358, 0, none⟩) (Kd.R_types HO_316000.out BK358.out (by decide)) (fun _ hk => hk.2) (.slice Ao94 t352.length co94)) (fun _ hk => hk.2) (.slice Ao100 t355.length co100)) (fun _ h_ => h_.1))) hb); have n1_ := Aside0.mk (Kd.R_below (by (with_reducible repeat (first | apply Kd.R_alloc | apply Kd.R_drewN | apply Kd.R_drew)); exact (Kd.R_mono (Kd.R_far (p := ⟨gb358, 1, none⟩) (Kd.R_far (p := ⟨gb358, 0, none⟩) (Kd.R_types HO_316001.out BK358.out (by decide)) (fun _ hk => hk.2) (.slice Ao94 t352.length co94)) (fun _ hk => hk.2) (.slice Ao100 t355.length co100)) (fun _ h_ => h_.1))) hb); have n2_ := Aside0.mk (Kd.R_below (by (with_reducible repeat (first | apply Kd.R_alloc | apply Kd.R_drewN | apply Kd.R_drew)); exact (Kd.R_mono (Kd.R_far (p := ⟨gb358, 1, none⟩) (Kd.R_far (p := ⟨gb358, 0, none⟩) (Kd.R_types HO_323000.out BK358.out (by decide)) (fun _ hk => hk.2) (.slice Ao94 t352.length co94)) (fun _ hk => hk.2) (.slice Ao100 t355.length co100)) (fun _ h_ => h_.1))) hb); have n3_ := Aside0.mk (Kd.R_below (by (with_reducible repeat (first | apply Kd.R_alloc | apply Kd.R_drewN | apply Kd.R_drew)); exact (Kd.R_mono (Kd.R_far (p := ⟨gb358, 1, none⟩) (Kd.R_far (p := ⟨gb358, 0, none⟩) (Kd.R_types HO_323001.out BK358.out (by decide)) (fun _ hk => hk.2) (.slice Ao94 t352.length co94)) (fun _ hk => hk.2) (.slice Ao100 t355.length co100)) (fun _ h_ => h_.1))) hb); have n4_ := Aside0.mk (Kd.R_below (by (with_reducible repeat (first | apply Kd.R_alloc | apply Kd.R_drewN | apply Kd.R_drew)); exact (Kd.R_mono (Kd.R_far (p := ⟨gb358, 1, none⟩) (Kd.R_far (p := ⟨gb358, 0, none⟩) (Kd.R_types HO_330000.out BK358.out (by decide)) (fun _ hk => hk.2) (.slice Ao94 t352.length co94)) (fun _ hk => hk.2) (.slice Ao100 t355.length co100)) (fun _ h_ => h_.1))) hb); have n5_ := Aside0.mk (Kd.R_below (by (with_reducible repeat (first | apply Kd.R_alloc | apply Kd.R_drewN | apply Kd.R_drew)); exact (Kd.R_mono (Kd.R_far (p := ⟨gb358, 1, none⟩) (Kd.R_far (p := ⟨gb358, 0, none⟩) (Kd.R_types HO_330001.out BK358.out (by decide)) (fun _ hk => hk.2) (.slice Ao94 t352.length co94)) (fun _ hk => hk.2) (.slice Ao100 t355.length co100)) (fun _ h_ => h_.1))) hb); have n6_ := Aside0.mk (Kd.R_below (by (with_reducible repeat (first | apply Kd.R_alloc | apply Kd.R_drewN | apply Kd.R_drew)); exact (Kd.R_mono (Kd.R_far (p := ⟨gb358, 1, none⟩) (Kd.R_far (p := ⟨gb358, 0, none⟩) (Kd.R_types HO348.out BK358.out (by decide)) (fun _ hk => hk.2) (.slice Ao94 t352.length co94)) (fun _ hk => hk.2) (.slice Ao100 t355.length co100)) (fun _ h_ => h_.1))) hb); have n7_ := Aside0.mk (Kd.R_below (by (with_reducible repeat (first | apply Kd.R_alloc | apply Kd.R_drewN | apply Kd.R_drew)); exact (Kd.R_mono (Kd.R_far (p := ⟨gb358, 1, none⟩) (Kd.R_far (p := ⟨gb358, 0, none⟩) (Kd.R_types HO351.out BK358.out (by decide)) (fun _ hk => hk.2) (.slice Ao94 t352.length co94)) (fun _ hk => hk.2) (.slice Ao100 t355.length co100)) (fun _ h_ => h_.1))) hb); have n8_ := Aside0.mk (Kd.R_below (by (with_reducible repeat (first | apply Kd.R_alloc | apply Kd.R_drewN | apply Kd.R_drew)); exact (Kd.R_mono (Kd.R_far (p := ⟨gb358, 1, none⟩) (Kd.R_far (p := ⟨gb358, 0, none⟩) (Kd.R_types HO354.out BK358.out (by decide)) (fun _ hk => hk.2) (.slice Ao94 t352.length co94)) (fun _ hk => hk.2) (.slice Ao100 t355.length co100)) (fun _ h_ => h_.1))) hb); have n9_ := Aside0.mk (Kd.R_below (by (with_reducible repeat (first | apply Kd.R_alloc | apply Kd.R_drewN | apply Kd.R_drew)); exact (Kd.R_mono (Kd.R_far (p := ⟨gb358, 1, none⟩) (Kd.R_far (p := ⟨gb358, 0, none⟩) (Kd.R_types HO357.out BK358.out (by decide)) (fun _ hk => hk.2) (.slice Ao94 t352.length co94)) (fun _ hk => hk.2) (.slice Ao100 t355.length co100)) (fun _ h_ => h_.1))) hb); have n10_ := Aside0.mk (blk_below (g := gb301) (o := .cells #[.slice A0_0 l0_0.length c0_0, .slice A0_1 l0_1.length c0_1] 42 (0, 0)) (by (with_reducible repeat (first | refine blk_drewN ?_ _ | refine blk_drew ?_ | refine blk_alloc ?_ _)); refine blk_far ?_ NB301_358.out _; (with_reducible repeat (first | refine blk_drewN ?_ _ | refine blk_drew ?_ | refine blk_alloc ?_ _)); refine blk_far ?_ NB301_358.out _; (with_reducible repeat (first | refine blk_drewN ?_ _ | refine blk_drew ?_ | refine blk_alloc ?_ _)); exact BK301.out) hb); have n11_ := Aside0.mk (blk_below (g := gb315) (o := .cells #[.slice Ao28 t309.length co28, .slice Ao31 t312.length co31] 27 (0, 0)) (by (with_reducible repeat (first | refine blk_drewN ?_ _ | refine blk_drew ?_ | refine blk_alloc ?_ _)); refine blk_far ?_ NB315_358.out _; (with_reducible repeat (first | refine blk_drewN ?_ _ | refine blk_drew ?_ | refine blk_alloc ?_ _)); refine blk_far ?_ NB315_358.out _; (with_reducible repeat (first | refine blk_drewN ?_ _ | refine blk_drew ?_ | refine blk_alloc ?_ _)); exact BK315.out) hb); have n12_ := Aside0.mk (blk_below (g := gb322) (o := .cells #[.slice Ao35 t339.length co35, .slice Ao39 t340.length co39] 27 (0, 0)) (by (with_reducible repeat (first | refine blk_drewN ?_ _ | refine blk_drew ?_ | refine blk_alloc ?_ _)); refine blk_far ?_ NB322_358.out _; (with_reducible repeat (first | refine blk_drewN ?_ _ | refine blk_drew ?_ | refine blk_alloc ?_ _)); refine blk_far ?_ NB322_358.out _; (with_reducible repeat (first | refine blk_drewN ?_ _ | refine blk_drew ?_ | refine blk_alloc ?_ _)); exact BK322.out) hb); have n13_ := Aside0.mk (blk_below (g := gb329) (o := .cells #[.slice Ao42 t323.length co42, .slice Ao47 t326.length co47] 27 (0, 0)) (by (with_reducible repeat (first | refine blk_drewN ?_ _ | refine blk_drew ?_ | refine blk_alloc ?_ _)); refine blk_far ?_ NB329_358.out _; (with_reducible repeat (first | refine blk_drewN ?_ _ | refine blk_drew ?_ | refine blk_alloc ?_ _)); refine blk_far ?_ NB329_358.out _; (with_reducible repeat (first | refine blk_drewN ?_ _ | refine blk_drew ?_ | refine blk_alloc ?_ _)); exact BK329.out) hb); have n14_ := Aside0.mk (blk_below (g := gb358) (o := .cells #[.slice Ao94 t352.length co94, .slice Ao100 t355.length co100] 27 (0, 0)) (by (with_reducible repeat (first | refine blk_drewN ?_ _ | refine blk_drew ?_ | refine blk_alloc ?_ _)); refine blk_put (cs := #[.slice Ao94 t352.length co94, .slice none 0 0]) ?_ 1 _ rfl; (with_reducible repeat (first | refine blk_drewN ?_ _ | refine blk_drew ?_ | refine blk_alloc ?_ _)); refine blk_put (cs := #[.slice none 0 0, .slice none 0 0]) ?_ 0 _ rfl; (with_reducible repeat (first | refine blk_drewN ?_ _ | refine blk_drew ?_ | refine blk_alloc ?_ _)); exact BK358.out) hb); have n15_ := Aside0.mk (below_step bS hb); clear HO_316000; clear HO_316001; clear HO_323000; clear HO_323001; clear HO_330000; clear HO_330001; clear HO348; clear HO351; clear HO354; clear HO357; clear BK301; clear BK315; clear BK322; clear BK329; clear BK358; clear HB; have HO_316000 := n0_; have HO_316001 := n1_; have HO_323000 := n2_; have HO_323001 := n3_; have HO_330000 := n4_; have HO_330001 := n5_; have HO348 := n6_; have HO351 := n7_; have HO354 := n8_; have HO357 := n9_; have BK301 := n10_; have BK315 := n11_; have BK322 := n12_; have BK329 := n13_; have BK358 := n14_; have HB := n15_; clear n0_ n1_ n2_ n3_ n4_ n5_ n6_ n7_ n8_ n9_ n10_ n11_ n12_ n13_ n14_ n15_; (try clear hb); (try clear hb2); (try clear hk); (try clear hi); have hcz104_0 : w103.cell? ⟨gb329, 0, none⟩ = some (.slice Ao42 t323.length co42) := (blk_cell BK329.out 0).trans rfl; have hcz104_1 : w103.cell? ⟨gb329, 1, none⟩ = some (.slice Ao47 t326.length co47) := (blk_cell BK329.out 1).trans rfl; have hfz104_0 := blk_frozen BK329.out 0; have hfz104_1 := blk_frozen BK329.out 1) | ((with_reducible refine gate_callee (f := 32) rfl ?_); refine goesL_ (some 68) rfl rfl Try.func32 (by kernel_rfl) rfl #[.agg #[.slice Ao42 t343.length co42, .slice Ao47 t344.length co47], .int .i64 1] rfl (by (try simp only [List.map_toArray, List.map_cons, List.map_nil]); first | done | (rw [show t343.length = t323.length from (Kd.R_reads' HO_330000.out).1.symm, show t344.length = t326.length from (Kd.R_reads' HO_330001.out).1.symm] <;> rfl) | rfl | (simp only [List.length_drop, List.length_take]; rfl)) ?_; (with_reducible refine (laws_heldKnown.calls kj17 _ _ t343 _ _ t344 1 t360 _ ?side1 ?side2 ?side3 ?side4 A76.out).mono ?_); (case side1 => repeat (first | exact (Kd.R_reads' HO_330000.out).2.2 | (with_reducible refine Kd.C_alloc ?_ _) | (with_reducible refine Kd.C_drewN ?_ _) | (with_reducible refine Kd.C_drew ?_))); (case side2 => rw [show t343.length = t323.length from (Kd.R_reads' HO_330000.out).1.symm]; exact (Kd.R_reads' HO_330000.out).2.1); (case side3 => repeat (first | exact (Kd.R_reads' HO_330001.out).2.2 | (with_reducible refine Kd.C_alloc ?_ _) | (with_reducible refine Kd.C_drewN ?_ _) | (with_reducible refine Kd.C_drew ?_))); (case side4 => rw [show t344.length = t326.length from (Kd.R_reads' HO_330001.out).1.symm]; exact (Kd.R_reads' HO_330001.out).2.1); rintro e w105 ⟨rfl, hb⟩; refine ⟨_, rfl, ?_⟩; have n0_ := Aside0.mk (Kd.R_below (kR HO_316000.out) hb); have n1_ := Aside0.mk (Kd.R_below (kR HO_316001.out) hb); have n2_ := Aside0.mk (Kd.R_below (kR HO_323000.out) hb); have n3_ := Aside0.mk (Kd.R_below (kR HO_323001.out) hb); have n4_ := Aside0.mk (Kd.R_below (kR HO_330000.out) hb); have n5_ := Aside0.mk (Kd.R_below (kR HO_330001.out) hb); have n6_ := Aside0.mk (Kd.R_below (kR HO348.out) hb); have n7_ := Aside0.mk (Kd.R_below (kR HO351.out) hb); have n8_ := Aside0.mk (Kd.R_below (kR HO354.out) hb); have n9_ := Aside0.mk (Kd.R_below (kR HO357.out) hb); have n10_ := Aside0.mk (blk_below (kB BK301.out) hb); have n11_ := Aside0.mk (blk_below (kB BK315.out) hb); have n12_ := Aside0.mk (blk_below (kB BK322.out) hb); have n13_ := Aside0.mk (blk_below (kB BK329.out) hb); have n14_ := Aside0.mk (blk_below (kB BK358.out) hb); have n15_ := Aside0.mk (below_step bS hb); clear HO_316000; clear HO_316001; clear HO_323000; clear HO_323001; clear HO_330000; clear HO_330001; clear HO348; clear HO351; clear HO354; clear HO357; clear BK301; clear BK315; clear BK322; clear BK329; clear BK358; clear HB; have HO_316000 := n0_; have HO_316001 := n1_; have HO_323000 := n2_; have HO_323001 := n3_; have HO_330000 := n4_; have HO_330001 := n5_; have HO348 := n6_; have HO351 := n7_; have HO354 := n8_; have HO357 := n9_; have BK301 := n10_; have BK315 := n11_; have BK322 := n12_; have BK329 := n13_; have BK358 := n14_; have HB := n15_; clear n0_ n1_ n2_ n3_ n4_ n5_ n6_ n7_ n8_ n9_ n10_ n11_ n12_ n13_ n14_ n15_; (try clear hb); (try clear hb2); (try clear hk); (try clear hi)))
            go_ret
            exact ⟨eE, bS⟩
           ·rw [if_neg c78] at H
            have c78b0 : (t360 == t342) = false := beq_eq_false_iff_ne.mpr c78
            have c78b1 : (t360 != t342) = true := bne_iff_ne.mpr c78
            rw [hr_true.out] at H
            exact absurd H (by simp)
         ·replace c75 := Bool.eq_false_iff.mpr c75
          subst c75
          have H1 : (some false) = some r := by rw [if_neg (show ¬ (false = true) by decide)] at H; exact H
          clear H
          have H := H1
          clear H1
          rw [hr_true.out] at H
          exact absurd H (by simp)
        ·rw [if_neg c71] at H
         have c71b0 : (t345 == t342) = false := beq_eq_false_iff_ne.mpr c71
         have c71b1 : (t345 != t342) = true := bne_iff_ne.mpr c71
         rw [hr_true.out] at H
         exact absurd H (by simp)
   ·replace c16 := Bool.eq_false_iff.mpr c16
    subst c16
    have H1 : (some false) = some r := by rw [if_neg (show ¬ (false = true) by decide)] at H; exact H
    clear H
    have H := H1
    clear H1
    rw [hr_true.out] at H
    exact absurd H (by simp)
  ·replace c13 := Bool.eq_false_iff.mpr c13
   subst c13
   have H1 : (some false) = some r := by rw [if_neg (show ¬ (false = true) by decide)] at H; exact H
   clear H
   have H := H1
   clear H1
   rw [hr_true.out] at H
   exact absurd H (by simp)

end Go.Proofs.Ythlpfghlildllaa.OFnExactLearnKey
-- halved
-- squeezed
