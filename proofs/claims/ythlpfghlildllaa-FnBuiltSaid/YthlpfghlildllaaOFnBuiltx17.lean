-- walks of this claim, written by a program of mine
import Derived.Test.YthlpfghlildllaaOFnBuiltx0
import Derived.Test.YthlpfghlildllaaOFnBuiltx1
import Derived.Test.YthlpfghlildllaaOFnBuiltx2
import Derived.Test.YthlpfghlildllaaOFnBuiltx3
import Derived.Test.YthlpfghlildllaaOFnBuiltx8
import Derived.Test.YthlpfghlildllaaOFnBuiltx9
import Derived.Test.YthlpfghlildllaaOFnBuiltx13
import Derived.Test.YthlpfghlildllaaOFnBuiltx16
namespace Go.Proofs.Ythlpfghlildllaa.OFnBuilt
open Go.RowKit Go.Proofs.Ythlpfghlildllaa.OWord Go.Proofs.YthlpfghlildllaaW.PrintWords Go.Proofs.YthlpfghlildllaaW.PrintLast Go.Proofs.YthlpfghlildllaaW.PrintMore
attribute [local go_sem] max2_int min2_int max_two min_two max_three min_three max_four min_four   -- for this text's walks alone
set_option linter.unusedVariables false
set_option linter.unusedSimpArgs false

/-! ### laws_FnBuilt: function 3 -/
mutual
def laws_FnBuilt.j0 : Nat → ByteArray → Bool → List ByteArray → List Int → Option (Bool)
 | 0, _, _, _, _ => none
 | k + 1, x4, x24, x540000, x540001 => if x24 = true then ((impl_Build.f k x540000 x540001 x4).bind fun t542 => (some (!t542))) else ((spec_Reach.f k x540000 x540001).bind fun t543 => (laws_FnBuilt.l0 k x4 t543 1 x540000 x540001))
def laws_FnBuilt.l0 : Nat → ByteArray → List Int → Int → List ByteArray → List Int → Option (Bool)
 | 0, _, _, _, _, _ => none
 | k + 1, x4, x5, x6, x540000, x540001 => if x6 < 8 then ((spec_Seal.f k x6 x4).bind fun t546 => (if t546.toList = ([] : List UInt8) then (laws_FnBuilt.l0 k x4 x5 (wrap64 (x6 + 1)) x540000 x540001) else ((spec_Sees.f k x540000 x540001 t546).bind fun t547 => (if t547 = true then ((impl_Build.f k x540000 x540001 t546).bind fun t548 => (if (t548 != true) = true then (some false) else (laws_FnBuilt.l0 k x4 x5 (wrap64 (x6 + 1)) x540000 x540001))) else ((laws_has.f k x5 x6).bind fun t549 => (if t549 = true then ((spec_Build.f k x540000 x540001 x4).bind fun t550 => ((impl_Build.f k x540000 x540001 t546).bind fun t551 => (if (t551 != t550) = true then (some false) else (laws_FnBuilt.l0 k x4 x5 (wrap64 (x6 + 1)) x540000 x540001)))) else ((impl_Build.f k x540000 x540001 t546).bind fun t552 => (if (t552 != false) = true then (some false) else (laws_FnBuilt.l0 k x4 x5 (wrap64 (x6 + 1)) x540000 x540001))))))))) else ((spec_Atom.f k (⟨#[120]⟩ : ByteArray)).bind fun t553 => ((spec_List.f k (([x4, t553] : List ByteArray))).bind fun t557 => (if t557.toList = ([] : List UInt8) then (some true) else ((impl_Build.f k x540000 x540001 t557).bind fun t558 => ((spec_Sees.f k x540000 x540001 t557).bind fun t559 => (if t559 = true then (some (t558 == true)) else ((spec_Build.f k x540000 x540001 x4).bind fun t560 => (some (t558 == t560)))))))))
end
def laws_FnBuilt.f (k : Nat) (l0 : List Int) : Option (Bool) := (laws_big.f l0).bind fun t531 => (if t531 = true then (some true) else ((spec_DrawBuild.f k l0).bind fun bt532 => ((spec_KnownOk.f k bt532.1 bt532.2.1).bind fun t540 => (if t540 = true then ((spec_TermOk.f k bt532.2.2).bind fun t541 => (laws_FnBuilt.j0 k bt532.2.2 (!t541) bt532.1 bt532.2.1)) else (laws_FnBuilt.j0 k bt532.2.2 true bt532.1 bt532.2.1)))))
def laws_FnBuilt.T16 : Bool × List (List Nat × List Nat) := (true, [([], []), ([0], [0]), ([1], [1]), ([2], [2]), ([2], [2]), ([3, 4, 2, 2], [2, 3, 4]), ([2], [2]), ([2], [2]), ([6, 7, 5, 2], [2, 6, 7]), ([8, 8, 2], [2, 8]), ([9], [9]), ([9], [9]), ([10, 11, 9, 9], [9, 10, 11]), ([9, 12, 2], [2, 9, 12]), ([5, 13, 2], [2, 5, 13]), ([2, 14], [2, 14]), ([15, 12, 0, 1, 2, 3, 4, 5, 6, 7, 8, 9, 10, 11, 12, 13, 14, 15], [15])])
def laws_FnBuilt.B16 : List Nat := [0, 1, 3, 7, 7, 31, 7, 7, 255, 511, 1023, 1023, 4095, 8191, 16383, 32767, 65535]
theorem laws_FnBuilt.tab16 : rtab .any (opsOf Try.f3 16) = laws_FnBuilt.T16 := by kernel_rfl
theorem laws_FnBuilt.bits16 : waitsOk laws_FnBuilt.T16.2 laws_FnBuilt.B16 = true := by kernel_rfl
set_option maxHeartbeats 8000000 in
set_option maxRecDepth 100000 in
theorem laws_FnBuilt.calls (k : Nat) (A0 : Option Addr) (c0 : Nat) (l0 : List Int) (r : Bool) (w : World) (hr0 : Kd.C (Kd.int .u8) w A0 l0.length l0) (hc0 : l0.length ≤ c0) (h : laws_FnBuilt.f k l0 = some r) (hr_true : Aside0 (r = true)) :
  Calls Try.prog 3 #[.slice A0 l0.length c0] w fun e w' => e = .returned (.bool r) ∧ Below w.heap.size w w' := by
 have hu27 := Try.underlying27
 have HR0 := Aside0.mk hr0
 have HC0 := Aside0.mk hc0
 clear hr0 hc0
 have HB := Aside0.mk (Below.refl w.heap.size w)
 have H : ((laws_big.f l0).bind fun t531 => (if t531 = true then (some true) else ((spec_DrawBuild.f k l0).bind fun bt532 => ((spec_KnownOk.f k bt532.1 bt532.2.1).bind fun t540 => (if t540 = true then ((spec_TermOk.f k bt532.2.2).bind fun t541 => (laws_FnBuilt.j0 k bt532.2.2 (!t541) bt532.1 bt532.2.1)) else (laws_FnBuilt.j0 k bt532.2.2 true bt532.1 bt532.2.1)))))) = some r := h
 clear h
 replace H := Option.bind_eq_some_iff.mp H
 obtain ⟨t531, A20, H⟩ := H
 replace H : (if t531 = true then (some true) else ((spec_DrawBuild.f k l0).bind fun bt532 => ((spec_KnownOk.f k bt532.1 bt532.2.1).bind fun t540 => (if t540 = true then ((spec_TermOk.f k bt532.2.2).bind fun t541 => (laws_FnBuilt.j0 k bt532.2.2 (!t541) bt532.1 bt532.2.1)) else (laws_FnBuilt.j0 k bt532.2.2 true bt532.1 bt532.2.1))))) = some r := H
 have A2 := Aside0.mk A20
 clear A20
 by_cases c3 : t531 = true
 ·subst c3
  have H1 : (some true) = some r := by rw [if_pos rfl] at H; exact H
  clear H
  have H := H1
  clear H1
  obtain rfl := Option.some.inj H
  go_enter Try.func3, Try.ntmps3
  go_wp2_with (first | ((with_reducible refine gate_callee (f := 9) rfl ?_); refine goesL_ (some 11) rfl rfl Try.func9 (by kernel_rfl) rfl #[.slice A0 l0.length c0] rfl eA ?_; (with_reducible refine (laws_big.calls _ _ l0 true _ ?side1 ?side2 A2.out).mono ?_); (case side1 => repeat (first | exact HR0.out | (with_reducible refine Kd.C_alloc ?_ _) | (with_reducible refine Kd.C_drewN ?_ _) | (with_reducible refine Kd.C_drew ?_))); (case side2 => exact HC0.out); rintro e w' ⟨rfl, ⟨nd, rfl⟩⟩; refine ⟨_, rfl, ?_⟩))
  go_ret
  exact ⟨eE, bH⟩
 ·replace c3 := Bool.eq_false_iff.mpr c3
  subst c3
  have H1 : ((spec_DrawBuild.f k l0).bind fun bt532 => ((spec_KnownOk.f k bt532.1 bt532.2.1).bind fun t540 => (if t540 = true then ((spec_TermOk.f k bt532.2.2).bind fun t541 => (laws_FnBuilt.j0 k bt532.2.2 (!t541) bt532.1 bt532.2.1)) else (laws_FnBuilt.j0 k bt532.2.2 true bt532.1 bt532.2.1)))) = some r := by rw [if_neg (show ¬ (false = true) by decide)] at H; exact H
  clear H
  have H := H1
  clear H1
  replace H := Option.bind_eq_some_iff.mp H
  obtain ⟨⟨t532, t535, t538⟩, A40, H⟩ := H
  replace H : ((spec_KnownOk.f k t532 t535).bind fun t540 => (if t540 = true then ((spec_TermOk.f k t538).bind fun t541 => (laws_FnBuilt.j0 k t538 (!t541) t532 t535)) else (laws_FnBuilt.j0 k t538 true t532 t535))) = some r := H
  have A4 := Aside0.mk A40
  clear A40
  have HC5 := Aside0.mk H
  clear H
  go_enter Try.func3, Try.ntmps3
  go_upto_region 4 with (first | ((with_reducible refine gate_callee (f := 9) rfl ?_); refine goesL_ (some 11) rfl rfl Try.func9 (by kernel_rfl) rfl #[.slice A0 l0.length c0] rfl eA ?_; (with_reducible refine (laws_big.calls _ _ l0 false _ ?side1 ?side2 A2.out).mono ?_); (case side1 => repeat (first | exact HR0.out | (with_reducible refine Kd.C_alloc ?_ _) | (with_reducible refine Kd.C_drewN ?_ _) | (with_reducible refine Kd.C_drew ?_))); (case side2 => exact HC0.out); rintro e w' ⟨rfl, ⟨nd, rfl⟩⟩; refine ⟨_, rfl, ?_⟩) | ((with_reducible refine gate_callee (f := 10) rfl ?_); refine goesL_ (some 14) rfl rfl Try.func10 (by kernel_rfl) rfl #[.slice A0 l0.length c0] rfl eA ?_; (with_reducible refine (spec_DrawBuild.calls k _ _ l0 t532 t535 t538 _ ?side1 ?side2 A4.out).mono ?_); (case side1 => repeat (first | exact HR0.out | (with_reducible refine Kd.C_alloc ?_ _) | (with_reducible refine Kd.C_drewN ?_ _) | (with_reducible refine Kd.C_drew ?_))); (case side2 => exact HC0.out); rintro e w6 ⟨v533, v536, rfl, ho0, ho1, hb⟩; refine ⟨_, rfl, ?_⟩; have n0_ := Aside0.mk (Kd.R_lower ho0 (below_size bH)); have n1_ := Aside0.mk (Kd.R_lower ho1 (below_size bH)); have n2_ := Aside0.mk (below_step bH hb); clear HB; have HO534 := n0_; have HO537 := n1_; have HB := n2_; clear n0_ n1_ n2_; (try clear hb); (try clear hb2); (try clear hk); (try clear hi); (try clear ho0); (try clear ho1)) | ((with_reducible refine gate_dst (N := 3) rfl ?_); refine box_event ?hg (N := 3) ?hd (cs := #[.slice none 0 0, .slice none 0 0]) (t := 27) ?hr ?_; (case hd => rfl); (case hg => rfl); (case hr => first | (go_simp; done) | (go_simp; rfl)); intro gb539 hg w7 hbox hb; have n0_ := Aside0.mk (Kd.R_below (kR HO534.out) hb); have n1_ := Aside0.mk (Kd.R_below (kR HO537.out) hb); have n2_ := Aside0.mk (below_step bH hb); have n3_ := Aside0.mk (hbox); have n4_ := Aside0.mk ((bZ hg : w.heap.size ≤ gb539)); have n5_ := Aside0.mk ((bZ hg : w.heap.size ≤ gb539)); clear HO534; clear HO537; clear HB; have HO534 := n0_; have HO537 := n1_; have HB := n2_; have BK539 := n3_; have GW539 := n4_; have GE539 := n5_; clear n0_ n1_ n2_ n3_ n4_ n5_; clear hb hbox hg; obtain ⟨Ao8, co8, eo8⟩ := Kd.R_slice HO534.out; subst eo8; have hcz9_0 : w7.cell? ⟨gb539, 0, none⟩ = some (.slice none 0 0) := (blk_cell BK539.out 0).trans rfl; have hcz9_1 : w7.cell? ⟨gb539, 1, none⟩ = some (.slice none 0 0) := (blk_cell BK539.out 1).trans rfl; have hfz9_0 := blk_frozen BK539.out 0; have hfz9_1 := blk_frozen BK539.out 1; obtain ⟨Ao10, co10, eo10⟩ := Kd.R_slice HO537.out; subst eo10))
  (try simp only [Act.put, List.setIfInBounds_toArray, List.set_cons_zero, List.set_cons_succ])
  go_cut [24] (fun v24 wc => ∃ (kq : Nat) (x24_4 : Bool), v24 = .bool x24_4 ∧ Aside0 (laws_FnBuilt.j0 kq t538 x24_4 t532 t535 = some r) ∧ Aside0 (kq ≤ k) ∧ Aside0 (Kd.R Kd.string 9 wc w.heap.size (fun _ => True) (.slice Ao8 t532.length co8) t532) ∧ Aside0 (Kd.R (Kd.int .i64) 3 wc w.heap.size (fun _ => True) (.slice Ao10 t535.length co10) t535) ∧ Aside0 (wc.heap[gb539]? = some (.cells #[(.slice Ao8 t532.length co8), (.slice Ao10 t535.length co10)] 27 (0, 0))) ∧ Aside0 (Below w.heap.size w wc))
  case first =>
   have H := HC5.out
   clear HC5
   replace H := Option.bind_eq_some_iff.mp H
   obtain ⟨t540, A110, H⟩ := H
   replace H : (if t540 = true then ((spec_TermOk.f k t538).bind fun t541 => (laws_FnBuilt.j0 k t538 (!t541) t532 t535)) else (laws_FnBuilt.j0 k t538 true t532 t535)) = some r := H
   have A11 := Aside0.mk A110
   clear A110
   by_cases c12 : t540 = true
   ·subst c12
    have H1 : ((spec_TermOk.f k t538).bind fun t541 => (laws_FnBuilt.j0 k t538 (!t541) t532 t535)) = some r := by rw [if_pos rfl] at H; exact H
    clear H
    have H := H1
    clear H1
    replace H := Option.bind_eq_some_iff.mp H
    obtain ⟨t541, A130, H⟩ := H
    replace H : (laws_FnBuilt.j0 k t538 (!t541) t532 t535) = some r := H
    have A13 := Aside0.mk A130
    clear A130
    have H' := Aside0.mk H
    clear H
    have hcz14_0 : w7.cell? ⟨gb539, 0, none⟩ = some (.slice none 0 0) := (blk_cell BK539.out 0).trans rfl
    have hcz14_1 : w7.cell? ⟨gb539, 1, none⟩ = some (.slice none 0 0) := (blk_cell BK539.out 1).trans rfl
    have hfz14_0 := blk_frozen BK539.out 0
    have hfz14_1 := blk_frozen BK539.out 1
    go_wp2_with (first | ((with_reducible refine gate_callee (f := 11) rfl ?_); refine goesL_ (some 18) rfl rfl Try.func11 (by kernel_rfl) rfl #[.agg #[.slice Ao8 t532.length co8, .slice Ao10 t535.length co10]] rfl eA ?_; (with_reducible refine (spec_KnownOk.calls k _ _ t532 _ _ t535 true _ ?side1 ?side2 ?side3 ?side4 A11.out).mono ?_); (case side1 => refine (Kd.R_reads' (e := 9) (base := w.heap.size) (ok := fun k_ => True) (n := t532.length) (c := co8) ?_).2.2; exact (rF2 HO534.out BK539.out)); (case side2 => exact (Kd.R_reads' HO534.out).2.1); (case side3 => refine (Kd.R_reads' (e := 3) (base := w.heap.size) (ok := fun k_ => True) (n := t535.length) (c := co10) ?_).2.2; exact (rF2 HO537.out BK539.out)); (case side4 => exact (Kd.R_reads' HO537.out).2.1); rintro e w15 ⟨rfl, hb⟩; refine ⟨_, rfl, ?_⟩; have n0_ := Aside0.mk (Kd.R_below (rF2 HO534.out BK539.out) hb); have n1_ := Aside0.mk (Kd.R_below (rF2 HO537.out BK539.out) hb); have n2_ := Aside0.mk (blk_below (g := gb539) (o := .cells #[.slice Ao8 t532.length co8, .slice Ao10 t535.length co10] 27 (0, 0)) (by (with_reducible repeat (first | refine blk_drewN ?_ _ | refine blk_drew ?_ | refine blk_alloc ?_ _)); refine blk_put (cs := #[.slice Ao8 t532.length co8, .slice none 0 0]) ?_ 1 _ rfl; (with_reducible repeat (first | refine blk_drewN ?_ _ | refine blk_drew ?_ | refine blk_alloc ?_ _)); refine blk_put (cs := #[.slice none 0 0, .slice none 0 0]) ?_ 0 _ rfl; (with_reducible repeat (first | refine blk_drewN ?_ _ | refine blk_drew ?_ | refine blk_alloc ?_ _)); exact BK539.out) hb); have n3_ := Aside0.mk (below_step bS hb); clear HO534; clear HO537; clear BK539; clear HB; have HO534 := n0_; have HO537 := n1_; have BK539 := n2_; have HB := n3_; clear n0_ n1_ n2_ n3_; (try clear hb); (try clear hb2); (try clear hk); (try clear hi)) | (go_at_call 12; (with_reducible refine (spec_TermOk.calls k t538 t541 _ A13.out).mono ?_); rintro e w16 ⟨rfl, hb⟩; have n0_ := Aside0.mk (Kd.R_below (kR HO534.out) hb); have n1_ := Aside0.mk (Kd.R_below (kR HO537.out) hb); have n2_ := Aside0.mk (blk_below (kB BK539.out) hb); have n3_ := Aside0.mk (below_step bS hb); clear HO534; clear HO537; clear BK539; clear HB; have HO534 := n0_; have HO537 := n1_; have BK539 := n2_; have HB := n3_; clear n0_ n1_ n2_ n3_; (try clear hb); (try clear hb2); (try clear hk); (try clear hi)))
    go_meet
    case rel => exact ⟨_, (!t541), eX, H', ⟨by first | omega | exact Nat.le_refl _⟩, ⟨by (with_reducible repeat (first | apply Kd.R_alloc | apply Kd.R_drewN | apply Kd.R_drew)); exact HO534.out⟩, ⟨by (with_reducible repeat (first | apply Kd.R_alloc | apply Kd.R_drewN | apply Kd.R_drew)); exact HO537.out⟩, ⟨by (with_reducible repeat (first | refine blk_drewN ?_ _ | refine blk_drew ?_ | refine blk_alloc ?_ _)); exact BK539.out⟩, ⟨by repeat (first | (with_reducible first | exact HB.out | apply below_alloc | apply pw_below_drewN | apply below_drew1 | refine below_set ?_ GE539.out) | exact HB.out)⟩⟩
   ·replace c12 := Bool.eq_false_iff.mpr c12
    subst c12
    have H1 : (laws_FnBuilt.j0 k t538 true t532 t535) = some r := by rw [if_neg (show ¬ (false = true) by decide)] at H; exact H
    clear H
    have H := H1
    clear H1
    have H' := Aside0.mk H
    clear H
    have hcz17_0 : w7.cell? ⟨gb539, 0, none⟩ = some (.slice none 0 0) := (blk_cell BK539.out 0).trans rfl
    have hcz17_1 : w7.cell? ⟨gb539, 1, none⟩ = some (.slice none 0 0) := (blk_cell BK539.out 1).trans rfl
    have hfz17_0 := blk_frozen BK539.out 0
    have hfz17_1 := blk_frozen BK539.out 1
    go_wp2_with (first | ((with_reducible refine gate_callee (f := 11) rfl ?_); refine goesL_ (some 18) rfl rfl Try.func11 (by kernel_rfl) rfl #[.agg #[.slice Ao8 t532.length co8, .slice Ao10 t535.length co10]] rfl eA ?_; (with_reducible refine (spec_KnownOk.calls k _ _ t532 _ _ t535 false _ ?side1 ?side2 ?side3 ?side4 A11.out).mono ?_); (case side1 => refine (Kd.R_reads' (e := 9) (base := w.heap.size) (ok := fun k_ => True) (n := t532.length) (c := co8) ?_).2.2; exact (rF2 HO534.out BK539.out)); (case side2 => exact (Kd.R_reads' HO534.out).2.1); (case side3 => refine (Kd.R_reads' (e := 3) (base := w.heap.size) (ok := fun k_ => True) (n := t535.length) (c := co10) ?_).2.2; exact (rF2 HO537.out BK539.out)); (case side4 => exact (Kd.R_reads' HO537.out).2.1); rintro e w18 ⟨rfl, hb⟩; refine ⟨_, rfl, ?_⟩; have n0_ := Aside0.mk (Kd.R_below (rF2 HO534.out BK539.out) hb); have n1_ := Aside0.mk (Kd.R_below (rF2 HO537.out BK539.out) hb); have n2_ := Aside0.mk (blk_below (g := gb539) (o := .cells #[.slice Ao8 t532.length co8, .slice Ao10 t535.length co10] 27 (0, 0)) (by (with_reducible repeat (first | refine blk_drewN ?_ _ | refine blk_drew ?_ | refine blk_alloc ?_ _)); refine blk_put (cs := #[.slice Ao8 t532.length co8, .slice none 0 0]) ?_ 1 _ rfl; (with_reducible repeat (first | refine blk_drewN ?_ _ | refine blk_drew ?_ | refine blk_alloc ?_ _)); refine blk_put (cs := #[.slice none 0 0, .slice none 0 0]) ?_ 0 _ rfl; (with_reducible repeat (first | refine blk_drewN ?_ _ | refine blk_drew ?_ | refine blk_alloc ?_ _)); exact BK539.out) hb); have n3_ := Aside0.mk (below_step bS hb); clear HO534; clear HO537; clear BK539; clear HB; have HO534 := n0_; have HO537 := n1_; have BK539 := n2_; have HB := n3_; clear n0_ n1_ n2_ n3_; (try clear hb); (try clear hb2); (try clear hk); (try clear hi)))
    go_meet
    case rel => exact ⟨_, (true), eX, H', ⟨by first | omega | exact Nat.le_refl _⟩, ⟨by (with_reducible repeat (first | apply Kd.R_alloc | apply Kd.R_drewN | apply Kd.R_drew)); exact HO534.out⟩, ⟨by (with_reducible repeat (first | apply Kd.R_alloc | apply Kd.R_drewN | apply Kd.R_drew)); exact HO537.out⟩, ⟨by (with_reducible repeat (first | refine blk_drewN ?_ _ | refine blk_drew ?_ | refine blk_alloc ?_ _)); exact BK539.out⟩, ⟨by repeat (first | (with_reducible first | exact HB.out | apply below_alloc | apply pw_below_drewN | apply below_drew1 | refine below_set ?_ GE539.out) | exact HB.out)⟩⟩
  case rest =>
   clear HC5
   try clear c1
   try clear p2
   try clear c3
   try clear c9
   try clear c10
   try clear c11
   try clear c12
   try clear hcz14_0
   try clear hcz14_1
   try clear hcz17_0
   try clear hcz17_1
   try clear hcz9_0
   try clear hcz9_1
   try clear hfz14_0
   try clear hfz14_1
   try clear hfz17_0
   try clear hfz17_1
   try clear hfz9_0
   try clear hfz9_1
   obtain ⟨kq, x24_4, rfl, HA, HJ4, HO_540000, HO_540001, BK539, HB⟩ := hcut
   cases kq with
   | zero => exact absurd HA.out (by simp [laws_FnBuilt.j0])
   | succ kj4 =>
    have H := HA.out
    clear HA
    simp only [laws_FnBuilt.j0] at H
    by_cases c19 : x24_4 = true
    ·subst c19
     have H1 : ((impl_Build.f kj4 t532 t535 t538).bind fun t542 => (some (!t542))) = some r := by rw [if_pos rfl] at H; exact H
     clear H
     have H := H1
     clear H1
     replace H := Option.bind_eq_some_iff.mp H
     obtain ⟨t542, A200, H⟩ := H
     replace H : (some (!t542)) = some r := H
     have A20 := Aside0.mk A200
     clear A200
     obtain rfl := Option.some.inj H
     have hcz21_0 : wc.cell? ⟨gb539, 0, none⟩ = some (.slice Ao8 t532.length co8) := (blk_cell BK539.out 0).trans rfl
     have hcz21_1 : wc.cell? ⟨gb539, 1, none⟩ = some (.slice Ao10 t535.length co10) := (blk_cell BK539.out 1).trans rfl
     have hfz21_0 := blk_frozen BK539.out 0
     have hfz21_1 := blk_frozen BK539.out 1
     go_wp2_with (first | ((with_reducible refine gate_callee (f := 13) rfl ?_); refine goesL_ (some 27) rfl rfl Try.func13 (by kernel_rfl) rfl #[.agg #[.slice Ao8 t532.length co8, .slice Ao10 t535.length co10], .string t538] rfl eA ?_; (with_reducible refine (impl_Build.calls kj4 _ _ t532 _ _ t535 t538 t542 _ ?side1 ?side2 ?side3 ?side4 A20.out).mono ?_); (case side1 => repeat (first | exact (Kd.R_reads' HO_540000.out).2.2 | (with_reducible refine Kd.C_alloc ?_ _) | (with_reducible refine Kd.C_drewN ?_ _) | (with_reducible refine Kd.C_drew ?_))); (case side2 => exact (Kd.R_reads' HO_540000.out).2.1); (case side3 => repeat (first | exact (Kd.R_reads' HO_540001.out).2.2 | (with_reducible refine Kd.C_alloc ?_ _) | (with_reducible refine Kd.C_drewN ?_ _) | (with_reducible refine Kd.C_drew ?_))); (case side4 => exact (Kd.R_reads' HO_540001.out).2.1); rintro e w22 ⟨rfl, hb⟩; refine ⟨_, rfl, ?_⟩; have n0_ := Aside0.mk (Kd.R_below (kR HO_540000.out) hb); have n1_ := Aside0.mk (Kd.R_below (kR HO_540001.out) hb); have n2_ := Aside0.mk (blk_below (kB BK539.out) hb); have n3_ := Aside0.mk (below_step bS hb); clear HO_540000; clear HO_540001; clear BK539; clear HB; have HO_540000 := n0_; have HO_540001 := n1_; have BK539 := n2_; have HB := n3_; clear n0_ n1_ n2_ n3_; (try clear hb); (try clear hb2); (try clear hk); (try clear hi)))
     go_ret
     exact ⟨eE, bS⟩
    ·replace c19 := Bool.eq_false_iff.mpr c19
     subst c19
     have H1 : ((spec_Reach.f kj4 t532 t535).bind fun t543 => (laws_FnBuilt.l0 kj4 t538 t543 1 t532 t535)) = some r := by rw [if_neg (show ¬ (false = true) by decide)] at H; exact H
     clear H
     have H := H1
     clear H1
     replace H := Option.bind_eq_some_iff.mp H
     obtain ⟨t543, A230, H⟩ := H
     replace H : (laws_FnBuilt.l0 kj4 t538 t543 1 t532 t535) = some r := H
     have A23 := Aside0.mk A230
     clear A230
     have H' := Aside0.mk H
     clear H
     have hcz24_0 : wc.cell? ⟨gb539, 0, none⟩ = some (.slice Ao8 t532.length co8) := (blk_cell BK539.out 0).trans rfl
     have hcz24_1 : wc.cell? ⟨gb539, 1, none⟩ = some (.slice Ao10 t535.length co10) := (blk_cell BK539.out 1).trans rfl
     have hfz24_0 := blk_frozen BK539.out 0
     have hfz24_1 := blk_frozen BK539.out 1
     go_wp2_with (first | ((with_reducible refine gate_callee (f := 14) rfl ?_); refine goesL_ (some 30) rfl rfl Try.func14 (by kernel_rfl) rfl #[.agg #[.slice Ao8 t532.length co8, .slice Ao10 t535.length co10]] rfl eA ?_; (with_reducible refine (spec_Reach.calls kj4 _ _ t532 _ _ t535 t543 _ ?side1 ?side2 ?side3 ?side4 A23.out).mono ?_); (case side1 => repeat (first | exact (Kd.R_reads' HO_540000.out).2.2 | (with_reducible refine Kd.C_alloc ?_ _) | (with_reducible refine Kd.C_drewN ?_ _) | (with_reducible refine Kd.C_drew ?_))); (case side2 => exact (Kd.R_reads' HO_540000.out).2.1); (case side3 => repeat (first | exact (Kd.R_reads' HO_540001.out).2.2 | (with_reducible refine Kd.C_alloc ?_ _) | (with_reducible refine Kd.C_drewN ?_ _) | (with_reducible refine Kd.C_drew ?_))); (case side4 => exact (Kd.R_reads' HO_540001.out).2.1); rintro e w25 ⟨v544, rfl, ho0, hb⟩; refine ⟨_, rfl, ?_⟩; have n0_ := Aside0.mk (Kd.R_below (kR HO_540000.out) hb); have n1_ := Aside0.mk (Kd.R_elder' (kR HO_540001.out) (Kd.R_base ho0) hb); have n2_ := Aside0.mk (Kd.R_lower (Kd.R_new' ho0 (Kd.R_lt (kR HO_540001.out))) (below_size bS)); have n3_ := Aside0.mk (blk_below (kB BK539.out) hb); have n4_ := Aside0.mk (below_step bS hb); clear HO_540000; clear HO_540001; clear BK539; clear HB; have HO_540000 := n0_; have HO_540001 := n1_; have HO545 := n2_; have BK539 := n3_; have HB := n4_; clear n0_ n1_ n2_ n3_ n4_; (try clear hb); (try clear hb2); (try clear hk); (try clear hi); (try clear ho0)))
     go_loopg [6] kj4 (fun kq v6 w' => ∃ (x6_2 : Int), v6 = .int .i64 x6_2 ∧ Aside0 (laws_FnBuilt.l0 kq t538 t543 x6_2 t532 t535 = some r) ∧ Aside0 (kq ≤ kj4) ∧ Aside0 (Kd.R (Kd.int .i64) 3 w' w.heap.size (fun k_ => some k_ ≠ ((.slice Ao10 t535.length co10) : Value).ownBlock) v544 t543) ∧ Aside0 (Kd.R Kd.string 9 w' w.heap.size (fun _ => True) (.slice Ao8 t532.length co8) t532) ∧ Aside0 (Kd.R (Kd.int .i64) 3 w' w.heap.size (fun k_ => some k_ ≠ (v544 : Value).ownBlock) (.slice Ao10 t535.length co10) t535) ∧ Aside0 (w'.heap[gb539]? = some (.cells #[(.slice Ao8 t532.length co8), (.slice Ao10 t535.length co10)] 27 (0, 0))) ∧ Aside0 (Below w.heap.size w w'))
     case atStart => exact ⟨(1), eX, H', ⟨Nat.le_refl _⟩, ⟨by (with_reducible repeat (first | apply Kd.R_alloc | apply Kd.R_drewN | apply Kd.R_drew)); exact Kd.R_mono HO545.out (fun _ hk => hk.2)⟩, ⟨by (with_reducible repeat (first | apply Kd.R_alloc | apply Kd.R_drewN | apply Kd.R_drew)); exact HO_540000.out⟩, ⟨by (with_reducible repeat (first | apply Kd.R_alloc | apply Kd.R_drewN | apply Kd.R_drew)); exact Kd.R_mono HO_540001.out (fun _ hk => hk.2)⟩, ⟨by (with_reducible repeat (first | refine blk_drewN ?_ _ | refine blk_drew ?_ | refine blk_alloc ?_ _)); exact BK539.out⟩, ⟨by repeat (first | (with_reducible first | exact HB.out | apply below_alloc | apply pw_below_drewN | apply below_drew1 | refine below_set ?_ GE539.out) | exact HB.out)⟩⟩
     case round =>
      clear H'
      try clear c1
      try clear p2
      try clear c3
      try clear c9
      try clear c10
      try clear c11
      try clear c12
      try clear c13
      try clear c14
      try clear c19
      try clear hcz14_0
      try clear hcz14_1
      try clear hcz17_0
      try clear hcz17_1
      try clear hcz21_0
      try clear hcz21_1
      try clear hcz24_0
      try clear hcz24_1
      try clear hcz9_0
      try clear hcz9_1
      try clear hfz14_0
      try clear hfz14_1
      try clear hfz17_0
      try clear hfz17_1
      try clear hfz21_0
      try clear hfz21_1
      try clear hfz24_0
      try clear hfz24_1
      try clear hfz9_0
      try clear hfz9_1
      try clear p2
      obtain ⟨x6_2, rfl, HA, HK2, HO_5, HO_540000, HO_540001, BK539, HB⟩ := hrel
      cases gk with
      | zero => exact absurd HA.out (by simp [laws_FnBuilt.l0])
      | succ k2 =>
       have H := HA.out
       clear HA
       simp only [laws_FnBuilt.l0] at H
       by_cases c26 : x6_2 < 8
       ·rw [if_pos c26] at H
        have c26b0 : decide (x6_2 < 8) = true := decide_eq_true c26
        clear c26
        replace H := Option.bind_eq_some_iff.mp H
        obtain ⟨t546, A270, H⟩ := H
        replace H : (if t546.toList = ([] : List UInt8) then (laws_FnBuilt.l0 k2 t538 t543 (wrap64 (x6_2 + 1)) t532 t535) else ((spec_Sees.f k2 t532 t535 t546).bind fun t547 => (if t547 = true then ((impl_Build.f k2 t532 t535 t546).bind fun t548 => (if (t548 != true) = true then (some false) else (laws_FnBuilt.l0 k2 t538 t543 (wrap64 (x6_2 + 1)) t532 t535))) else ((laws_has.f k2 t543 x6_2).bind fun t549 => (if t549 = true then ((spec_Build.f k2 t532 t535 t538).bind fun t550 => ((impl_Build.f k2 t532 t535 t546).bind fun t551 => (if (t551 != t550) = true then (some false) else (laws_FnBuilt.l0 k2 t538 t543 (wrap64 (x6_2 + 1)) t532 t535)))) else ((impl_Build.f k2 t532 t535 t546).bind fun t552 => (if (t552 != false) = true then (some false) else (laws_FnBuilt.l0 k2 t538 t543 (wrap64 (x6_2 + 1)) t532 t535)))))))) = some r := H
        have A27 := Aside0.mk A270
        clear A270
        by_cases c28 : t546.toList = ([] : List UInt8)
        ·rw [if_pos c28] at H
         have c28b0 : (t546.toList == ([] : List UInt8)) = true := beq_iff_eq.mpr c28
         have c28e : t546.toList.isEmpty = true := List.isEmpty_iff.mpr c28
         have c28b1 : (t546.toList != ([] : List UInt8)) = false := bne_eq_false_iff_eq.mpr c28
         clear c28
         have H' := Aside0.mk H
         clear H
         go_wp2_with (first | ((with_reducible refine gate_callee (f := 15) rfl ?_); refine goesL_ (some 37) rfl rfl Try.func15 (by kernel_rfl) rfl #[.int .i64 x6_2, .string t538] rfl eA ?_; (with_reducible refine (spec_Seal.calls k2 x6_2 t538 t546 _ A27.out).mono ?_); rintro e w29 ⟨rfl, hb⟩; refine ⟨_, rfl, ?_⟩; have n0_ := Aside0.mk (Kd.R_below (kR HO_5.out) hb); have n1_ := Aside0.mk (Kd.R_below (kR HO_540000.out) hb); have n2_ := Aside0.mk (Kd.R_below (kR HO_540001.out) hb); have n3_ := Aside0.mk (blk_below (kB BK539.out) hb); have n4_ := Aside0.mk (below_step bS hb); clear HO_5; clear HO_540000; clear HO_540001; clear BK539; clear HB; have HO_5 := n0_; have HO_540000 := n1_; have HO_540001 := n2_; have BK539 := n3_; have HB := n4_; clear n0_ n1_ n2_ n3_ n4_; (try clear hb); (try clear hb2); (try clear hk); (try clear hi)))
         go_roundg k2
         case measure => have := HJ4.out; have := HK2.out; omega
         case rel => exact ⟨(wrap64 (x6_2 + 1)), eX, H', ⟨by have := HJ4.out; have := HK2.out; omega⟩, ⟨by (with_reducible repeat (first | apply Kd.R_alloc | apply Kd.R_drewN | apply Kd.R_drew)); exact HO_5.out⟩, ⟨by (with_reducible repeat (first | apply Kd.R_alloc | apply Kd.R_drewN | apply Kd.R_drew)); exact HO_540000.out⟩, ⟨by (with_reducible repeat (first | apply Kd.R_alloc | apply Kd.R_drewN | apply Kd.R_drew)); exact HO_540001.out⟩, ⟨by (with_reducible repeat (first | refine blk_drewN ?_ _ | refine blk_drew ?_ | refine blk_alloc ?_ _)); exact BK539.out⟩, ⟨by repeat (first | (with_reducible first | exact HB.out | apply below_alloc | apply pw_below_drewN | apply below_drew1 | refine below_set ?_ GE539.out) | exact HB.out)⟩⟩
        ·rw [if_neg c28] at H
         have c28b0 : (t546.toList == ([] : List UInt8)) = false := beq_eq_false_iff_ne.mpr c28
         have c28e : t546.toList.isEmpty = false := by cases h_ : t546.toList.isEmpty with | false => rfl | true => exact absurd (List.isEmpty_iff.mp h_) c28
         have c28b1 : (t546.toList != ([] : List UInt8)) = true := bne_iff_ne.mpr c28
         replace H := Option.bind_eq_some_iff.mp H
         obtain ⟨t547, A300, H⟩ := H
         replace H : (if t547 = true then ((impl_Build.f k2 t532 t535 t546).bind fun t548 => (if (t548 != true) = true then (some false) else (laws_FnBuilt.l0 k2 t538 t543 (wrap64 (x6_2 + 1)) t532 t535))) else ((laws_has.f k2 t543 x6_2).bind fun t549 => (if t549 = true then ((spec_Build.f k2 t532 t535 t538).bind fun t550 => ((impl_Build.f k2 t532 t535 t546).bind fun t551 => (if (t551 != t550) = true then (some false) else (laws_FnBuilt.l0 k2 t538 t543 (wrap64 (x6_2 + 1)) t532 t535)))) else ((impl_Build.f k2 t532 t535 t546).bind fun t552 => (if (t552 != false) = true then (some false) else (laws_FnBuilt.l0 k2 t538 t543 (wrap64 (x6_2 + 1)) t532 t535)))))) = some r := H
         have A30 := Aside0.mk A300
         clear A300
         by_cases c31 : t547 = true
         ·subst c31
          have H1 : ((impl_Build.f k2 t532 t535 t546).bind fun t548 => (if (t548 != true) = true then (some false) else (laws_FnBuilt.l0 k2 t538 t543 (wrap64 (x6_2 + 1)) t532 t535))) = some r := by rw [if_pos rfl] at H; exact H
          clear H
          have H := H1
          clear H1
          replace H := Option.bind_eq_some_iff.mp H
          obtain ⟨t548, A320, H⟩ := H
          replace H : (if (t548 != true) = true then (some false) else (laws_FnBuilt.l0 k2 t538 t543 (wrap64 (x6_2 + 1)) t532 t535)) = some r := H
          have A32 := Aside0.mk A320
          clear A320
          by_cases c33 : (t548 != true) = true
          ·rw [if_pos c33] at H
           have c33b0 : (t548 != true) = true := c33
           (try (have c33b1 : decide (t548 = true) = false := by simpa using c33))
           (try (have c33b2 : (t548 == true) = false := by simpa using c33))
           (try (have c33b3 : ¬ (t548 = true) := by simpa using c33))
           clear c33
           rw [hr_true.out] at H
           exact absurd H (by simp)
          ·rw [if_neg c33] at H
           have c33b0 : (t548 != true) = false := by simpa using c33
           (try (have c33b1 : decide (t548 = true) = true := by simpa using c33))
           (try (have c33b2 : (t548 == true) = true := by simpa using c33))
           clear c33
           have H' := Aside0.mk H
           clear H
           go_wp2_with (first | ((with_reducible refine gate_callee (f := 15) rfl ?_); refine goesL_ (some 37) rfl rfl Try.func15 (by kernel_rfl) rfl #[.int .i64 x6_2, .string t538] rfl eA ?_; (with_reducible refine (spec_Seal.calls k2 x6_2 t538 t546 _ A27.out).mono ?_); rintro e w34 ⟨rfl, hb⟩; refine ⟨_, rfl, ?_⟩; have n0_ := Aside0.mk (Kd.R_below (kR HO_5.out) hb); have n1_ := Aside0.mk (Kd.R_below (kR HO_540000.out) hb); have n2_ := Aside0.mk (Kd.R_below (kR HO_540001.out) hb); have n3_ := Aside0.mk (blk_below (kB BK539.out) hb); have n4_ := Aside0.mk (below_step bS hb); clear HO_5; clear HO_540000; clear HO_540001; clear BK539; clear HB; have HO_5 := n0_; have HO_540000 := n1_; have HO_540001 := n2_; have BK539 := n3_; have HB := n4_; clear n0_ n1_ n2_ n3_ n4_; (try clear hb); (try clear hb2); (try clear hk); (try clear hi); have hcz35_0 : w34.cell? ⟨gb539, 0, none⟩ = some (.slice Ao8 t532.length co8) := (blk_cell BK539.out 0).trans rfl; have hcz35_1 : w34.cell? ⟨gb539, 1, none⟩ = some (.slice Ao10 t535.length co10) := (blk_cell BK539.out 1).trans rfl; have hfz35_0 := blk_frozen BK539.out 0; have hfz35_1 := blk_frozen BK539.out 1) | ((with_reducible refine gate_callee (f := 16) rfl ?_); refine goesL_ (some 42) rfl rfl Try.func16 (by kernel_rfl) rfl #[.agg #[.slice Ao8 t532.length co8, .slice Ao10 t535.length co10], .string t546] rfl eA ?_; (with_reducible refine (spec_Sees.calls k2 _ _ t532 _ _ t535 t546 true _ ?side1 ?side2 ?side3 ?side4 A30.out).mono ?_); (case side1 => repeat (first | exact (Kd.R_reads' HO_540000.out).2.2 | (with_reducible refine Kd.C_alloc ?_ _) | (with_reducible refine Kd.C_drewN ?_ _) | (with_reducible refine Kd.C_drew ?_))); (case side2 => exact (Kd.R_reads' HO_540000.out).2.1); (case side3 => repeat (first | exact (Kd.R_reads' HO_540001.out).2.2 | (with_reducible refine Kd.C_alloc ?_ _) | (with_reducible refine Kd.C_drewN ?_ _) | (with_reducible refine Kd.C_drew ?_))); (case side4 => exact (Kd.R_reads' HO_540001.out).2.1); rintro e w36 ⟨rfl, hb⟩; refine ⟨_, rfl, ?_⟩; have n0_ := Aside0.mk (Kd.R_below (kR HO_5.out) hb); have n1_ := Aside0.mk (Kd.R_below (kR HO_540000.out) hb); have n2_ := Aside0.mk (Kd.R_below (kR HO_540001.out) hb); have n3_ := Aside0.mk (blk_below (kB BK539.out) hb); have n4_ := Aside0.mk (below_step bS hb); clear HO_5; clear HO_540000; clear HO_540001; clear BK539; clear HB; have HO_5 := n0_; have HO_540000 := n1_; have HO_540001 := n2_; have BK539 := n3_; have HB := n4_; clear n0_ n1_ n2_ n3_ n4_; (try clear hb); (try clear hb2); (try clear hk); (try clear hi); have hcz37_0 : w36.cell? ⟨gb539, 0, none⟩ = some (.slice Ao8 t532.length co8) := (blk_cell BK539.out 0).trans rfl; have hcz37_1 : w36.cell? ⟨gb539, 1, none⟩ = some (.slice Ao10 t535.length co10) := (blk_cell BK539.out 1).trans rfl; have hfz37_0 := blk_frozen BK539.out 0; have hfz37_1 := blk_frozen BK539.out 1) | ((with_reducible refine gate_callee (f := 13) rfl ?_); refine goesL_ (some 55) rfl rfl Try.func13 (by kernel_rfl) rfl #[.agg #[.slice Ao8 t532.length co8, .slice Ao10 t535.length co10], .string t546] rfl eA ?_; (with_reducible refine (impl_Build.calls k2 _ _ t532 _ _ t535 t546 t548 _ ?side1 ?side2 ?side3 ?side4 A32.out).mono ?_); (case side1 => repeat (first | exact (Kd.R_reads' HO_540000.out).2.2 | (with_reducible refine Kd.C_alloc ?_ _) | (with_reducible refine Kd.C_drewN ?_ _) | (with_reducible refine Kd.C_drew ?_))); (case side2 => exact (Kd.R_reads' HO_540000.out).2.1); (case side3 => repeat (first | exact (Kd.R_reads' HO_540001.out).2.2 | (with_reducible refine Kd.C_alloc ?_ _) | (with_reducible refine Kd.C_drewN ?_ _) | (with_reducible refine Kd.C_drew ?_))); (case side4 => exact (Kd.R_reads' HO_540001.out).2.1); rintro e w38 ⟨rfl, hb⟩; refine ⟨_, rfl, ?_⟩; have n0_ := Aside0.mk (Kd.R_below (kR HO_5.out) hb); have n1_ := Aside0.mk (Kd.R_below (kR HO_540000.out) hb); have n2_ := Aside0.mk (Kd.R_below (kR HO_540001.out) hb); have n3_ := Aside0.mk (blk_below (kB BK539.out) hb); have n4_ := Aside0.mk (below_step bS hb); clear HO_5; clear HO_540000; clear HO_540001; clear BK539; clear HB; have HO_5 := n0_; have HO_540000 := n1_; have HO_540001 := n2_; have BK539 := n3_; have HB := n4_; clear n0_ n1_ n2_ n3_ n4_; (try clear hb); (try clear hb2); (try clear hk); (try clear hi)))
           go_roundg k2
           case measure => have := HJ4.out; have := HK2.out; omega
           case rel => exact ⟨(wrap64 (x6_2 + 1)), eX, H', ⟨by have := HJ4.out; have := HK2.out; omega⟩, ⟨by (with_reducible repeat (first | apply Kd.R_alloc | apply Kd.R_drewN | apply Kd.R_drew)); exact HO_5.out⟩, ⟨by (with_reducible repeat (first | apply Kd.R_alloc | apply Kd.R_drewN | apply Kd.R_drew)); exact HO_540000.out⟩, ⟨by (with_reducible repeat (first | apply Kd.R_alloc | apply Kd.R_drewN | apply Kd.R_drew)); exact HO_540001.out⟩, ⟨by (with_reducible repeat (first | refine blk_drewN ?_ _ | refine blk_drew ?_ | refine blk_alloc ?_ _)); exact BK539.out⟩, ⟨by repeat (first | (with_reducible first | exact HB.out | apply below_alloc | apply pw_below_drewN | apply below_drew1 | refine below_set ?_ GE539.out) | exact HB.out)⟩⟩
         ·replace c31 := Bool.eq_false_iff.mpr c31
          subst c31
          have H1 : ((laws_has.f k2 t543 x6_2).bind fun t549 => (if t549 = true then ((spec_Build.f k2 t532 t535 t538).bind fun t550 => ((impl_Build.f k2 t532 t535 t546).bind fun t551 => (if (t551 != t550) = true then (some false) else (laws_FnBuilt.l0 k2 t538 t543 (wrap64 (x6_2 + 1)) t532 t535)))) else ((impl_Build.f k2 t532 t535 t546).bind fun t552 => (if (t552 != false) = true then (some false) else (laws_FnBuilt.l0 k2 t538 t543 (wrap64 (x6_2 + 1)) t532 t535))))) = some r := by rw [if_neg (show ¬ (false = true) by decide)] at H; exact H
          clear H
          have H := H1
          clear H1
          replace H := Option.bind_eq_some_iff.mp H
          obtain ⟨t549, A390, H⟩ := H
          replace H : (if t549 = true then ((spec_Build.f k2 t532 t535 t538).bind fun t550 => ((impl_Build.f k2 t532 t535 t546).bind fun t551 => (if (t551 != t550) = true then (some false) else (laws_FnBuilt.l0 k2 t538 t543 (wrap64 (x6_2 + 1)) t532 t535)))) else ((impl_Build.f k2 t532 t535 t546).bind fun t552 => (if (t552 != false) = true then (some false) else (laws_FnBuilt.l0 k2 t538 t543 (wrap64 (x6_2 + 1)) t532 t535)))) = some r := H
          have A39 := Aside0.mk A390
          clear A390
          by_cases c40 : t549 = true
          ·subst c40
           have H1 : ((spec_Build.f k2 t532 t535 t538).bind fun t550 => ((impl_Build.f k2 t532 t535 t546).bind fun t551 => (if (t551 != t550) = true then (some false) else (laws_FnBuilt.l0 k2 t538 t543 (wrap64 (x6_2 + 1)) t532 t535)))) = some r := by rw [if_pos rfl] at H; exact H
           clear H
           have H := H1
           clear H1
           replace H := Option.bind_eq_some_iff.mp H
           obtain ⟨t550, A410, H⟩ := H
           replace H : ((impl_Build.f k2 t532 t535 t546).bind fun t551 => (if (t551 != t550) = true then (some false) else (laws_FnBuilt.l0 k2 t538 t543 (wrap64 (x6_2 + 1)) t532 t535))) = some r := H
           have A41 := Aside0.mk A410
           clear A410
           replace H := Option.bind_eq_some_iff.mp H
           obtain ⟨t551, A420, H⟩ := H
           replace H : (if (t551 != t550) = true then (some false) else (laws_FnBuilt.l0 k2 t538 t543 (wrap64 (x6_2 + 1)) t532 t535)) = some r := H
           have A42 := Aside0.mk A420
           clear A420
           by_cases c43 : (t551 != t550) = true
           ·rw [if_pos c43] at H
            have c43b0 : (t551 != t550) = true := c43
            (try (have c43b1 : decide (t551 = t550) = false := by simpa using c43))
            (try (have c43b2 : (t551 == t550) = false := by simpa using c43))
            (try (have c43b3 : ¬ (t551 = t550) := by simpa using c43))
            clear c43
            rw [hr_true.out] at H
            exact absurd H (by simp)
           ·rw [if_neg c43] at H
            have c43b0 : (t551 != t550) = false := by simpa using c43
            (try (have c43b1 : decide (t551 = t550) = true := by simpa using c43))
            (try (have c43b2 : (t551 == t550) = true := by simpa using c43))
            clear c43
            have H' := Aside0.mk H
            clear H
            go_wp2_with (first | ((with_reducible refine gate_callee (f := 15) rfl ?_); refine goesL_ (some 37) rfl rfl Try.func15 (by kernel_rfl) rfl #[.int .i64 x6_2, .string t538] rfl eA ?_; (with_reducible refine (spec_Seal.calls k2 x6_2 t538 t546 _ A27.out).mono ?_); rintro e w44 ⟨rfl, hb⟩; refine ⟨_, rfl, ?_⟩; have n0_ := Aside0.mk (Kd.R_below (kR HO_5.out) hb); have n1_ := Aside0.mk (Kd.R_below (kR HO_540000.out) hb); have n2_ := Aside0.mk (Kd.R_below (kR HO_540001.out) hb); have n3_ := Aside0.mk (blk_below (kB BK539.out) hb); have n4_ := Aside0.mk (below_step bS hb); clear HO_5; clear HO_540000; clear HO_540001; clear BK539; clear HB; have HO_5 := n0_; have HO_540000 := n1_; have HO_540001 := n2_; have BK539 := n3_; have HB := n4_; clear n0_ n1_ n2_ n3_ n4_; (try clear hb); (try clear hb2); (try clear hk); (try clear hi); have hcz45_0 : w44.cell? ⟨gb539, 0, none⟩ = some (.slice Ao8 t532.length co8) := (blk_cell BK539.out 0).trans rfl; have hcz45_1 : w44.cell? ⟨gb539, 1, none⟩ = some (.slice Ao10 t535.length co10) := (blk_cell BK539.out 1).trans rfl; have hfz45_0 := blk_frozen BK539.out 0; have hfz45_1 := blk_frozen BK539.out 1) | ((with_reducible refine gate_callee (f := 16) rfl ?_); refine goesL_ (some 42) rfl rfl Try.func16 (by kernel_rfl) rfl #[.agg #[.slice Ao8 t532.length co8, .slice Ao10 t535.length co10], .string t546] rfl eA ?_; (with_reducible refine (spec_Sees.calls k2 _ _ t532 _ _ t535 t546 false _ ?side1 ?side2 ?side3 ?side4 A30.out).mono ?_); (case side1 => repeat (first | exact (Kd.R_reads' HO_540000.out).2.2 | (with_reducible refine Kd.C_alloc ?_ _) | (with_reducible refine Kd.C_drewN ?_ _) | (with_reducible refine Kd.C_drew ?_))); (case side2 => exact (Kd.R_reads' HO_540000.out).2.1); (case side3 => repeat (first | exact (Kd.R_reads' HO_540001.out).2.2 | (with_reducible refine Kd.C_alloc ?_ _) | (with_reducible refine Kd.C_drewN ?_ _) | (with_reducible refine Kd.C_drew ?_))); (case side4 => exact (Kd.R_reads' HO_540001.out).2.1); rintro e w46 ⟨rfl, hb⟩; refine ⟨_, rfl, ?_⟩; have n0_ := Aside0.mk (Kd.R_below (kR HO_5.out) hb); have n1_ := Aside0.mk (Kd.R_below (kR HO_540000.out) hb); have n2_ := Aside0.mk (Kd.R_below (kR HO_540001.out) hb); have n3_ := Aside0.mk (blk_below (kB BK539.out) hb); have n4_ := Aside0.mk (below_step bS hb); clear HO_5; clear HO_540000; clear HO_540001; clear BK539; clear HB; have HO_5 := n0_; have HO_540000 := n1_; have HO_540001 := n2_; have BK539 := n3_; have HB := n4_; clear n0_ n1_ n2_ n3_ n4_; (try clear hb); (try clear hb2); (try clear hk); (try clear hi); obtain ⟨Ao47, co47, eo47⟩ := Kd.R_slice HO_5.out; subst eo47) | (go_at_call 17; (with_reducible refine (laws_has.calls k2 _ _ t543 x6_2 true _ ?side1 ?side2 A39.out).mono ?_); (case side1 => repeat (first | exact (Kd.R_reads' HO_5.out).2.2 | (with_reducible refine Kd.C_alloc ?_ _) | (with_reducible refine Kd.C_drewN ?_ _) | (with_reducible refine Kd.C_drew ?_))); (case side2 => exact (Kd.R_reads' HO_5.out).2.1); rintro e w' ⟨rfl, ⟨nd, rfl⟩⟩; have hcz48_0 : w46.cell? ⟨gb539, 0, none⟩ = some (.slice Ao8 t532.length co8) := (blk_cell BK539.out 0).trans rfl; have hcz48_1 : w46.cell? ⟨gb539, 1, none⟩ = some (.slice Ao10 t535.length co10) := (blk_cell BK539.out 1).trans rfl; have hfz48_0 := blk_frozen BK539.out 0; have hfz48_1 := blk_frozen BK539.out 1) | (go_at_call 18; (with_reducible refine (spec_Build.calls k2 _ _ t532 _ _ t535 t538 t550 _ ?side1 ?side2 ?side3 ?side4 A41.out).mono ?_); (case side1 => repeat (first | exact (Kd.R_reads' HO_540000.out).2.2 | (with_reducible refine Kd.C_alloc ?_ _) | (with_reducible refine Kd.C_drewN ?_ _) | (with_reducible refine Kd.C_drew ?_))); (case side2 => exact (Kd.R_reads' HO_540000.out).2.1); (case side3 => repeat (first | exact (Kd.R_reads' HO_540001.out).2.2 | (with_reducible refine Kd.C_alloc ?_ _) | (with_reducible refine Kd.C_drewN ?_ _) | (with_reducible refine Kd.C_drew ?_))); (case side4 => exact (Kd.R_reads' HO_540001.out).2.1); rintro e w49 ⟨rfl, hb⟩; have n0_ := Aside0.mk (Kd.R_below (kR HO_5.out) hb); have n1_ := Aside0.mk (Kd.R_below (kR HO_540000.out) hb); have n2_ := Aside0.mk (Kd.R_below (kR HO_540001.out) hb); have n3_ := Aside0.mk (blk_below (kB BK539.out) hb); have n4_ := Aside0.mk (below_step bS hb); clear HO_5; clear HO_540000; clear HO_540001; clear BK539; clear HB; have HO_5 := n0_; have HO_540000 := n1_; have HO_540001 := n2_; have BK539 := n3_; have HB := n4_; clear n0_ n1_ n2_ n3_ n4_; (try clear hb); (try clear hb2); (try clear hk); (try clear hi); have hcz50_0 : w49.cell? ⟨gb539, 0, none⟩ = some (.slice Ao8 t532.length co8) := (blk_cell BK539.out 0).trans rfl; have hcz50_1 : w49.cell? ⟨gb539, 1, none⟩ = some (.slice Ao10 t535.length co10) := (blk_cell BK539.out 1).trans rfl; have hfz50_0 := blk_frozen BK539.out 0; have hfz50_1 := blk_frozen BK539.out 1) | ((with_reducible refine gate_callee (f := 13) rfl ?_); refine goesL_ (some 55) rfl rfl Try.func13 (by kernel_rfl) rfl #[.agg #[.slice Ao8 t532.length co8, .slice Ao10 t535.length co10], .string t546] rfl eA ?_; (with_reducible refine (impl_Build.calls k2 _ _ t532 _ _ t535 t546 t551 _ ?side1 ?side2 ?side3 ?side4 A42.out).mono ?_); (case side1 => repeat (first | exact (Kd.R_reads' HO_540000.out).2.2 | (with_reducible refine Kd.C_alloc ?_ _) | (with_reducible refine Kd.C_drewN ?_ _) | (with_reducible refine Kd.C_drew ?_))); (case side2 => exact (Kd.R_reads' HO_540000.out).2.1); (case side3 => repeat (first | exact (Kd.R_reads' HO_540001.out).2.2 | (with_reducible refine Kd.C_alloc ?_ _) | (with_reducible refine Kd.C_drewN ?_ _) | (with_reducible refine Kd.C_drew ?_))); (case side4 => exact (Kd.R_reads' HO_540001.out).2.1); rintro e w51 ⟨rfl, hb⟩; refine ⟨_, rfl, ?_⟩; have n0_ := Aside0.mk (Kd.R_below (kR HO_5.out) hb); have n1_ := Aside0.mk (Kd.R_below (kR HO_540000.out) hb); have n2_ := Aside0.mk (Kd.R_below (kR HO_540001.out) hb); have n3_ := Aside0.mk (blk_below (kB BK539.out) hb); have n4_ := Aside0.mk (below_step bS hb); clear HO_5; clear HO_540000; clear HO_540001; clear BK539; clear HB; have HO_5 := n0_; have HO_540000 := n1_; have HO_540001 := n2_; have BK539 := n3_; have HB := n4_; clear n0_ n1_ n2_ n3_ n4_; (try clear hb); (try clear hb2); (try clear hk); (try clear hi)))
            go_roundg k2
            case measure => have := HJ4.out; have := HK2.out; omega
            case rel => exact ⟨(wrap64 (x6_2 + 1)), eX, H', ⟨by have := HJ4.out; have := HK2.out; omega⟩, ⟨by (with_reducible repeat (first | apply Kd.R_alloc | apply Kd.R_drewN | apply Kd.R_drew)); exact HO_5.out⟩, ⟨by (with_reducible repeat (first | apply Kd.R_alloc | apply Kd.R_drewN | apply Kd.R_drew)); exact HO_540000.out⟩, ⟨by (with_reducible repeat (first | apply Kd.R_alloc | apply Kd.R_drewN | apply Kd.R_drew)); exact HO_540001.out⟩, ⟨by (with_reducible repeat (first | refine blk_drewN ?_ _ | refine blk_drew ?_ | refine blk_alloc ?_ _)); exact BK539.out⟩, ⟨by repeat (first | (with_reducible first | exact HB.out | apply below_alloc | apply pw_below_drewN | apply below_drew1 | refine below_set ?_ GE539.out) | exact HB.out)⟩⟩
          ·replace c40 := Bool.eq_false_iff.mpr c40
           subst c40
           have H1 : ((impl_Build.f k2 t532 t535 t546).bind fun t552 => (if (t552 != false) = true then (some false) else (laws_FnBuilt.l0 k2 t538 t543 (wrap64 (x6_2 + 1)) t532 t535))) = some r := by rw [if_neg (show ¬ (false = true) by decide)] at H; exact H
           clear H
           have H := H1
           clear H1
           replace H := Option.bind_eq_some_iff.mp H
           obtain ⟨t552, A520, H⟩ := H
           replace H : (if (t552 != false) = true then (some false) else (laws_FnBuilt.l0 k2 t538 t543 (wrap64 (x6_2 + 1)) t532 t535)) = some r := H
           have A52 := Aside0.mk A520
           clear A520
           by_cases c53 : (t552 != false) = true
           ·rw [if_pos c53] at H
            have c53b0 : (t552 != false) = true := c53
            (try (have c53b1 : decide (t552 = false) = false := by simpa using c53))
            (try (have c53b2 : (t552 == false) = false := by simpa using c53))
            (try (have c53b3 : ¬ (t552 = false) := by simpa using c53))
            clear c53
            rw [hr_true.out] at H
            exact absurd H (by simp)
           ·rw [if_neg c53] at H
            have c53b0 : (t552 != false) = false := by simpa using c53
            (try (have c53b1 : decide (t552 = false) = true := by simpa using c53))
            (try (have c53b2 : (t552 == false) = true := by simpa using c53))
            clear c53
            have H' := Aside0.mk H
            clear H
            go_wp2_with (first | ((with_reducible refine gate_callee (f := 15) rfl ?_); refine goesL_ (some 37) rfl rfl Try.func15 (by kernel_rfl) rfl #[.int .i64 x6_2, .string t538] rfl eA ?_; (with_reducible refine (spec_Seal.calls k2 x6_2 t538 t546 _ A27.out).mono ?_); rintro e w54 ⟨rfl, hb⟩; refine ⟨_, rfl, ?_⟩; have n0_ := Aside0.mk (Kd.R_below (kR HO_5.out) hb); have n1_ := Aside0.mk (Kd.R_below (kR HO_540000.out) hb); have n2_ := Aside0.mk (Kd.R_below (kR HO_540001.out) hb); have n3_ := Aside0.mk (blk_below (kB BK539.out) hb); have n4_ := Aside0.mk (below_step bS hb); clear HO_5; clear HO_540000; clear HO_540001; clear BK539; clear HB; have HO_5 := n0_; have HO_540000 := n1_; have HO_540001 := n2_; have BK539 := n3_; have HB := n4_; clear n0_ n1_ n2_ n3_ n4_; (try clear hb); (try clear hb2); (try clear hk); (try clear hi); have hcz55_0 : w54.cell? ⟨gb539, 0, none⟩ = some (.slice Ao8 t532.length co8) := (blk_cell BK539.out 0).trans rfl; have hcz55_1 : w54.cell? ⟨gb539, 1, none⟩ = some (.slice Ao10 t535.length co10) := (blk_cell BK539.out 1).trans rfl; have hfz55_0 := blk_frozen BK539.out 0; have hfz55_1 := blk_frozen BK539.out 1) | ((with_reducible refine gate_callee (f := 16) rfl ?_); refine goesL_ (some 42) rfl rfl Try.func16 (by kernel_rfl) rfl #[.agg #[.slice Ao8 t532.length co8, .slice Ao10 t535.length co10], .string t546] rfl eA ?_; (with_reducible refine (spec_Sees.calls k2 _ _ t532 _ _ t535 t546 false _ ?side1 ?side2 ?side3 ?side4 A30.out).mono ?_); (case side1 => repeat (first | exact (Kd.R_reads' HO_540000.out).2.2 | (with_reducible refine Kd.C_alloc ?_ _) | (with_reducible refine Kd.C_drewN ?_ _) | (with_reducible refine Kd.C_drew ?_))); (case side2 => exact (Kd.R_reads' HO_540000.out).2.1); (case side3 => repeat (first | exact (Kd.R_reads' HO_540001.out).2.2 | (with_reducible refine Kd.C_alloc ?_ _) | (with_reducible refine Kd.C_drewN ?_ _) | (with_reducible refine Kd.C_drew ?_))); (case side4 => exact (Kd.R_reads' HO_540001.out).2.1); rintro e w56 ⟨rfl, hb⟩; refine ⟨_, rfl, ?_⟩; have n0_ := Aside0.mk (Kd.R_below (kR HO_5.out) hb); have n1_ := Aside0.mk (Kd.R_below (kR HO_540000.out) hb); have n2_ := Aside0.mk (Kd.R_below (kR HO_540001.out) hb); have n3_ := Aside0.mk (blk_below (kB BK539.out) hb); have n4_ := Aside0.mk (below_step bS hb); clear HO_5; clear HO_540000; clear HO_540001; clear BK539; clear HB; have HO_5 := n0_; have HO_540000 := n1_; have HO_540001 := n2_; have BK539 := n3_; have HB := n4_; clear n0_ n1_ n2_ n3_ n4_; (try clear hb); (try clear hb2); (try clear hk); (try clear hi); obtain ⟨Ao57, co57, eo57⟩ := Kd.R_slice HO_5.out; subst eo57) | (go_at_call 17; (with_reducible refine (laws_has.calls k2 _ _ t543 x6_2 false _ ?side1 ?side2 A39.out).mono ?_); (case side1 => repeat (first | exact (Kd.R_reads' HO_5.out).2.2 | (with_reducible refine Kd.C_alloc ?_ _) | (with_reducible refine Kd.C_drewN ?_ _) | (with_reducible refine Kd.C_drew ?_))); (case side2 => exact (Kd.R_reads' HO_5.out).2.1); rintro e w' ⟨rfl, ⟨nd, rfl⟩⟩; have hcz58_0 : w56.cell? ⟨gb539, 0, none⟩ = some (.slice Ao8 t532.length co8) := (blk_cell BK539.out 0).trans rfl; have hcz58_1 : w56.cell? ⟨gb539, 1, none⟩ = some (.slice Ao10 t535.length co10) := (blk_cell BK539.out 1).trans rfl; have hfz58_0 := blk_frozen BK539.out 0; have hfz58_1 := blk_frozen BK539.out 1) | ((with_reducible refine gate_callee (f := 13) rfl ?_); refine goesL_ (some 55) rfl rfl Try.func13 (by kernel_rfl) rfl #[.agg #[.slice Ao8 t532.length co8, .slice Ao10 t535.length co10], .string t546] rfl eA ?_; (with_reducible refine (impl_Build.calls k2 _ _ t532 _ _ t535 t546 t552 _ ?side1 ?side2 ?side3 ?side4 A52.out).mono ?_); (case side1 => repeat (first | exact (Kd.R_reads' HO_540000.out).2.2 | (with_reducible refine Kd.C_alloc ?_ _) | (with_reducible refine Kd.C_drewN ?_ _) | (with_reducible refine Kd.C_drew ?_))); (case side2 => exact (Kd.R_reads' HO_540000.out).2.1); (case side3 => repeat (first | exact (Kd.R_reads' HO_540001.out).2.2 | (with_reducible refine Kd.C_alloc ?_ _) | (with_reducible refine Kd.C_drewN ?_ _) | (with_reducible refine Kd.C_drew ?_))); (case side4 => exact (Kd.R_reads' HO_540001.out).2.1); rintro e w59 ⟨rfl, hb⟩; refine ⟨_, rfl, ?_⟩; have n0_ := Aside0.mk (Kd.R_below (kR HO_5.out) hb); have n1_ := Aside0.mk (Kd.R_below (kR HO_540000.out) hb); have n2_ := Aside0.mk (Kd.R_below (kR HO_540001.out) hb); have n3_ := Aside0.mk (blk_below (kB BK539.out) hb); have n4_ := Aside0.mk (below_step bS hb); clear HO_5; clear HO_540000; clear HO_540001; clear BK539; clear HB; have HO_5 := n0_; have HO_540000 := n1_; have HO_540001 := n2_; have BK539 := n3_; have HB := n4_; clear n0_ n1_ n2_ n3_ n4_; (try clear hb); (try clear hb2); (try clear hk); (try clear hi)))
            go_roundg k2
            case measure => have := HJ4.out; have := HK2.out; omega
            case rel => exact ⟨(wrap64 (x6_2 + 1)), eX, H', ⟨by have := HJ4.out; have := HK2.out; omega⟩, ⟨by (with_reducible repeat (first | apply Kd.R_alloc | apply Kd.R_drewN | apply Kd.R_drew)); exact HO_5.out⟩, ⟨by (with_reducible repeat (first | apply Kd.R_alloc | apply Kd.R_drewN | apply Kd.R_drew)); exact HO_540000.out⟩, ⟨by (with_reducible repeat (first | apply Kd.R_alloc | apply Kd.R_drewN | apply Kd.R_drew)); exact HO_540001.out⟩, ⟨by (with_reducible repeat (first | refine blk_drewN ?_ _ | refine blk_drew ?_ | refine blk_alloc ?_ _)); exact BK539.out⟩, ⟨by repeat (first | (with_reducible first | exact HB.out | apply below_alloc | apply pw_below_drewN | apply below_drew1 | refine below_set ?_ GE539.out) | exact HB.out)⟩⟩
       ·rw [if_neg c26] at H
        have c26b0 : decide (x6_2 < 8) = false := decide_eq_false c26
        clear c26
        replace H := Option.bind_eq_some_iff.mp H
        obtain ⟨t553, A600, H⟩ := H
        replace H : ((spec_List.f k2 (([t538, t553] : List ByteArray))).bind fun t557 => (if t557.toList = ([] : List UInt8) then (some true) else ((impl_Build.f k2 t532 t535 t557).bind fun t558 => ((spec_Sees.f k2 t532 t535 t557).bind fun t559 => (if t559 = true then (some (t558 == true)) else ((spec_Build.f k2 t532 t535 t538).bind fun t560 => (some (t558 == t560)))))))) = some r := H
        have A60 := Aside0.mk A600
        clear A600
        obtain ⟨y554, hy554⟩ : ∃ y_ : List ByteArray, y_ = (([t538, t553] : List ByteArray)) := ⟨_, rfl⟩
        replace H : ((spec_List.f k2 y554).bind fun t557 => (if t557.toList = ([] : List UInt8) then (some true) else ((impl_Build.f k2 t532 t535 t557).bind fun t558 => ((spec_Sees.f k2 t532 t535 t557).bind fun t559 => (if t559 = true then (some (t558 == true)) else ((spec_Build.f k2 t532 t535 t538).bind fun t560 => (some (t558 == t560)))))))) = some r := by first | (rw [hy554]; with_reducible exact H) | (have H2_ := (Option.bind_some _ _).symm.trans H; rw [hy554]; with_reducible exact H2_) | (have H2_ := (Option.bind_some _ _).symm.trans H; with_reducible exact H2_) | with_reducible exact H | (rw [hy554]; exact H) | exact H
        have Ny554 := Aside0.mk hy554
        clear hy554
        replace H := Option.bind_eq_some_iff.mp H
        obtain ⟨t557, A610, H⟩ := H
        replace H : (if t557.toList = ([] : List UInt8) then (some true) else ((impl_Build.f k2 t532 t535 t557).bind fun t558 => ((spec_Sees.f k2 t532 t535 t557).bind fun t559 => (if t559 = true then (some (t558 == true)) else ((spec_Build.f k2 t532 t535 t538).bind fun t560 => (some (t558 == t560))))))) = some r := H
        have A61 := Aside0.mk A610
        clear A610
        by_cases c62 : t557.toList = ([] : List UInt8)
        ·rw [if_pos c62] at H
         have c62b0 : (t557.toList == ([] : List UInt8)) = true := beq_iff_eq.mpr c62
         have c62e : t557.toList.isEmpty = true := List.isEmpty_iff.mpr c62
         have c62b1 : (t557.toList != ([] : List UInt8)) = false := bne_eq_false_iff_eq.mpr c62
         clear c62
         obtain rfl := Option.some.inj H
         try go_wp2_with (first | ((with_reducible refine gate_callee (f := 20) rfl ?_); refine goesL_ (some 59) rfl rfl Try.func20 (by kernel_rfl) rfl #[.string (⟨#[120]⟩ : ByteArray)] rfl eA ?_; (with_reducible refine (spec_Atom.calls k2 (⟨#[120]⟩ : ByteArray) t553 _ A60.out).mono ?_); rintro e w63 ⟨rfl, hb⟩; refine ⟨_, rfl, ?_⟩; have n0_ := Aside0.mk (Kd.R_below (kR HO_5.out) hb); have n1_ := Aside0.mk (Kd.R_below (kR HO_540000.out) hb); have n2_ := Aside0.mk (Kd.R_below (kR HO_540001.out) hb); have n3_ := Aside0.mk (blk_below (kB BK539.out) hb); have n4_ := Aside0.mk (below_step bS hb); clear HO_5; clear HO_540000; clear HO_540001; clear BK539; clear HB; have HO_5 := n0_; have HO_540000 := n1_; have HO_540001 := n2_; have BK539 := n3_; have HB := n4_; clear n0_ n1_ n2_ n3_ n4_; (try clear hb); (try clear hb2); (try clear hk); (try clear hi)) | ((with_reducible refine gate_dst (N := 60) rfl ?_); refine Kd.R_lit Kd.string _ 9 ?hg (N := 60) ?hd (xs := ([t538, t553] : List ByteArray)) (inner := [.string t538, .string t553]) (ok := fun _ => True) (okp := fun _ => True) ?hr ?hp (fun _ hk => hk) trivial (Below.refl _ _) (Nat.le_refl _) (by simp) ?_; (case hd => rfl); (case hg => rfl); (case hr => first | (go_simp; done) | (go_simp; rfl)); (case hp => exact (Reps.one (show Kd.M Kd.string _ _ _ t538 [.string t538] from rfl) (Reps.one (show Kd.M Kd.string _ _ _ t553 [.string t553] from rfl) (Reps.none _ _)))); intro v555 w64 ho65 hb hg_ hnew_; clear hg_ hnew_; (first | rw [← Ny554.out] at ho65 | (simp only [Int.reduceToNat] at ho65; rw [← Ny554.out] at ho65)); have n0_ := Aside0.mk (Kd.R_below (kR HO_5.out) hb); have n1_ := Aside0.mk (Kd.R_elder' (kR HO_540000.out) (Kd.R_base ho65) hb); have n2_ := Aside0.mk (Kd.R_below (kR HO_540001.out) hb); have n3_ := Aside0.mk (Kd.R_lower (Kd.R_new' ho65 (Kd.R_lt (kR HO_540000.out))) (below_size bS)); have n4_ := Aside0.mk (blk_below (kB BK539.out) hb); have n5_ := Aside0.mk (below_step bS hb); clear HO_5; clear HO_540000; clear HO_540001; clear BK539; clear HB; have HO_5 := n0_; have HO_540000 := n1_; have HO_540001 := n2_; have HO556 := n3_; have BK539 := n4_; have HB := n5_; clear n0_ n1_ n2_ n3_ n4_ n5_; clear hb ho65; obtain ⟨Ao66, co66, eo66⟩ := Kd.R_slice HO556.out; subst eo66) | ((with_reducible refine gate_callee (f := 19) rfl ?_); refine goesL_ (some 61) rfl rfl Try.func19 (by kernel_rfl) rfl #[.slice Ao66 y554.length co66] rfl eA ?_; (with_reducible refine (spec_List.calls k2 _ _ y554 t557 _ ?side1 ?side2 A61.out).mono ?_); (case side1 => repeat (first | exact (Kd.R_reads' HO556.out).2.2 | (with_reducible refine Kd.C_alloc ?_ _) | (with_reducible refine Kd.C_drewN ?_ _) | (with_reducible refine Kd.C_drew ?_))); (case side2 => exact (Kd.R_reads' HO556.out).2.1); rintro e w67 ⟨rfl, hb⟩; refine ⟨_, rfl, ?_⟩; have n0_ := Aside0.mk (Kd.R_below (kR HO_5.out) hb); have n1_ := Aside0.mk (Kd.R_below (kR HO_540000.out) hb); have n2_ := Aside0.mk (Kd.R_below (kR HO_540001.out) hb); have n3_ := Aside0.mk (Kd.R_below (kR HO556.out) hb); have n4_ := Aside0.mk (blk_below (kB BK539.out) hb); have n5_ := Aside0.mk (below_step bS hb); clear HO_5; clear HO_540000; clear HO_540001; clear HO556; clear BK539; clear HB; have HO_5 := n0_; have HO_540000 := n1_; have HO_540001 := n2_; have HO556 := n3_; have BK539 := n4_; have HB := n5_; clear n0_ n1_ n2_ n3_ n4_ n5_; (try clear hb); (try clear hb2); (try clear hk); (try clear hi)))
         have n0_ := Aside0.mk (Kd.R_drew HO_5.out)
         have n1_ := Aside0.mk (Kd.R_drew HO_540000.out)
         have n2_ := Aside0.mk (Kd.R_drew HO_540001.out)
         have n3_ := Aside0.mk (Kd.R_drew HO556.out)
         have n4_ := Aside0.mk (blk_drew BK539.out)
         have n5_ := Aside0.mk (below_drew1 HB.out)
         clear HO_5 HO_540000 HO_540001 HO556 BK539 HB
         have HO_5 := n0_
         have HO_540000 := n1_
         have HO_540001 := n2_
         have HO556 := n3_
         have BK539 := n4_
         have HB := n5_
         clear n0_ n1_ n2_ n3_ n4_ n5_
         refine start_ (n := 17) (S := fun w' => True) (ds := []) _ (by kernel_rfl) rfl rfl trivial (fun hHeld => ?_); refine with_tabW laws_FnBuilt.tab16 laws_FnBuilt.bits16 (fun HT_ HW_ => ?_)
         generalize w67.drew = w68 at HO_5 HO_540000 HO_540001 HO556 BK539 HB hHeld ⊢
         refine pU HT_ 0 (some 62) (mk 17 1) rfl rfl (h := ?_)
         refine pU HT_ 1 (some 63) (mk 17 3) rfl rfl (h := ?_)
         refine pU HT_ 2 (some 64) (mk 17 7) rfl rfl (h := ?_)
         refine pN HT_ 3 (some 65) (mk 17 15) rfl rfl (h := ?_)
         refine pN HT_ 4 (some 66) (mk 17 31) rfl rfl (h := ?_)
         refine pN HT_ 5 (some 67) (mk 17 63) rfl rfl (h := ?_)
         refine pN HT_ 6 (some 68) (mk 17 127) rfl rfl (h := ?_)
         refine pN HT_ 7 (some 69) (mk 17 255) rfl rfl (h := ?_)
         refine pN HT_ 8 (some 70) (mk 17 511) rfl rfl (h := ?_)
         refine pN HT_ 9 (some 71) (mk 17 1023) rfl rfl (h := ?_)
         refine pN HT_ 10 (some 72) (mk 17 2047) rfl rfl (h := ?_)
         refine pN HT_ 11 (some 73) (mk 17 4095) rfl rfl (h := ?_)
         refine pN HT_ 12 (some 74) (mk 17 8191) rfl rfl (h := ?_)
         refine pN HT_ 13 (some 75) (mk 17 16383) rfl rfl (h := ?_)
         refine pN HT_ 14 (some 76) (mk 17 32767) rfl rfl (h := ?_)
         refine pU HT_ 15 (some 77) (mk 17 65535) rfl rfl (h := ?_)
         refine pU HT_ 16 (some 2) (mk 17 131071) rfl rfl (h := ?_)
         refine done_ (done_of HT_.out (by kernel_rfl)) ?_
         try go_wp2
         go_ret
         exact ⟨eE, bS⟩
        ·rw [if_neg c62] at H
         have c62b0 : (t557.toList == ([] : List UInt8)) = false := beq_eq_false_iff_ne.mpr c62
         have c62e : t557.toList.isEmpty = false := by cases h_ : t557.toList.isEmpty with | false => rfl | true => exact absurd (List.isEmpty_iff.mp h_) c62
         have c62b1 : (t557.toList != ([] : List UInt8)) = true := bne_iff_ne.mpr c62
         replace H := Option.bind_eq_some_iff.mp H
         obtain ⟨t558, A690, H⟩ := H
         replace H : ((spec_Sees.f k2 t532 t535 t557).bind fun t559 => (if t559 = true then (some (t558 == true)) else ((spec_Build.f k2 t532 t535 t538).bind fun t560 => (some (t558 == t560))))) = some r := H
         have A69 := Aside0.mk A690
         clear A690
         replace H := Option.bind_eq_some_iff.mp H
         obtain ⟨t559, A700, H⟩ := H
         replace H : (if t559 = true then (some (t558 == true)) else ((spec_Build.f k2 t532 t535 t538).bind fun t560 => (some (t558 == t560)))) = some r := H
         have A70 := Aside0.mk A700
         clear A700
         by_cases c71 : t559 = true
         ·subst c71
          have H1 : (some (t558 == true)) = some r := by rw [if_pos rfl] at H; exact H
          clear H
          have H := H1
          clear H1
          obtain rfl := Option.some.inj H
          try go_wp2_with (first | ((with_reducible refine gate_callee (f := 20) rfl ?_); refine goesL_ (some 59) rfl rfl Try.func20 (by kernel_rfl) rfl #[.string (⟨#[120]⟩ : ByteArray)] rfl eA ?_; (with_reducible refine (spec_Atom.calls k2 (⟨#[120]⟩ : ByteArray) t553 _ A60.out).mono ?_); rintro e w72 ⟨rfl, hb⟩; refine ⟨_, rfl, ?_⟩; have n0_ := Aside0.mk (Kd.R_below (kR HO_5.out) hb); have n1_ := Aside0.mk (Kd.R_below (kR HO_540000.out) hb); have n2_ := Aside0.mk (Kd.R_below (kR HO_540001.out) hb); have n3_ := Aside0.mk (blk_below (kB BK539.out) hb); have n4_ := Aside0.mk (below_step bS hb); clear HO_5; clear HO_540000; clear HO_540001; clear BK539; clear HB; have HO_5 := n0_; have HO_540000 := n1_; have HO_540001 := n2_; have BK539 := n3_; have HB := n4_; clear n0_ n1_ n2_ n3_ n4_; (try clear hb); (try clear hb2); (try clear hk); (try clear hi)) | ((with_reducible refine gate_dst (N := 60) rfl ?_); refine Kd.R_lit Kd.string _ 9 ?hg (N := 60) ?hd (xs := ([t538, t553] : List ByteArray)) (inner := [.string t538, .string t553]) (ok := fun _ => True) (okp := fun _ => True) ?hr ?hp (fun _ hk => hk) trivial (Below.refl _ _) (Nat.le_refl _) (by simp) ?_; (case hd => rfl); (case hg => rfl); (case hr => first | (go_simp; done) | (go_simp; rfl)); (case hp => exact (Reps.one (show Kd.M Kd.string _ _ _ t538 [.string t538] from rfl) (Reps.one (show Kd.M Kd.string _ _ _ t553 [.string t553] from rfl) (Reps.none _ _)))); intro v555 w73 ho74 hb hg_ hnew_; clear hg_ hnew_; (first | rw [← Ny554.out] at ho74 | (simp only [Int.reduceToNat] at ho74; rw [← Ny554.out] at ho74)); have n0_ := Aside0.mk (Kd.R_below (kR HO_5.out) hb); have n1_ := Aside0.mk (Kd.R_elder' (kR HO_540000.out) (Kd.R_base ho74) hb); have n2_ := Aside0.mk (Kd.R_below (kR HO_540001.out) hb); have n3_ := Aside0.mk (Kd.R_lower (Kd.R_new' ho74 (Kd.R_lt (kR HO_540000.out))) (below_size bS)); have n4_ := Aside0.mk (blk_below (kB BK539.out) hb); have n5_ := Aside0.mk (below_step bS hb); clear HO_5; clear HO_540000; clear HO_540001; clear BK539; clear HB; have HO_5 := n0_; have HO_540000 := n1_; have HO_540001 := n2_; have HO556 := n3_; have BK539 := n4_; have HB := n5_; clear n0_ n1_ n2_ n3_ n4_ n5_; clear hb ho74; obtain ⟨Ao75, co75, eo75⟩ := Kd.R_slice HO556.out; subst eo75) | ((with_reducible refine gate_callee (f := 19) rfl ?_); refine goesL_ (some 61) rfl rfl Try.func19 (by kernel_rfl) rfl #[.slice Ao75 y554.length co75] rfl eA ?_; (with_reducible refine (spec_List.calls k2 _ _ y554 t557 _ ?side1 ?side2 A61.out).mono ?_); (case side1 => repeat (first | exact (Kd.R_reads' HO556.out).2.2 | (with_reducible refine Kd.C_alloc ?_ _) | (with_reducible refine Kd.C_drewN ?_ _) | (with_reducible refine Kd.C_drew ?_))); (case side2 => exact (Kd.R_reads' HO556.out).2.1); rintro e w76 ⟨rfl, hb⟩; refine ⟨_, rfl, ?_⟩; have n0_ := Aside0.mk (Kd.R_below (kR HO_5.out) hb); have n1_ := Aside0.mk (Kd.R_below (kR HO_540000.out) hb); have n2_ := Aside0.mk (Kd.R_below (kR HO_540001.out) hb); have n3_ := Aside0.mk (Kd.R_below (kR HO556.out) hb); have n4_ := Aside0.mk (blk_below (kB BK539.out) hb); have n5_ := Aside0.mk (below_step bS hb); clear HO_5; clear HO_540000; clear HO_540001; clear HO556; clear BK539; clear HB; have HO_5 := n0_; have HO_540000 := n1_; have HO_540001 := n2_; have HO556 := n3_; have BK539 := n4_; have HB := n5_; clear n0_ n1_ n2_ n3_ n4_ n5_; (try clear hb); (try clear hb2); (try clear hk); (try clear hi)))
          have n0_ := Aside0.mk (Kd.R_drew HO_5.out)
          have n1_ := Aside0.mk (Kd.R_drew HO_540000.out)
          have n2_ := Aside0.mk (Kd.R_drew HO_540001.out)
          have n3_ := Aside0.mk (Kd.R_drew HO556.out)
          have n4_ := Aside0.mk (blk_drew BK539.out)
          have n5_ := Aside0.mk (below_drew1 HB.out)
          clear HO_5 HO_540000 HO_540001 HO556 BK539 HB
          have HO_5 := n0_
          have HO_540000 := n1_
          have HO_540001 := n2_
          have HO556 := n3_
          have BK539 := n4_
          have HB := n5_
          clear n0_ n1_ n2_ n3_ n4_ n5_
          refine start_ (n := 17) (S := fun w' => w'.cell? ⟨gb539, 0, none⟩ = some (.slice Ao8 t532.length co8) ∧ w'.cell? ⟨gb539, 1, none⟩ = some (.slice Ao10 t535.length co10)) (ds := []) _ (by kernel_rfl) rfl rfl ⟨(blk_cell BK539.out 0).trans rfl, (blk_cell BK539.out 1).trans rfl⟩ (fun hHeld => ?_); refine with_tabW laws_FnBuilt.tab16 laws_FnBuilt.bits16 (fun HT_ HW_ => ?_)
          generalize w76.drew = w77 at HO_5 HO_540000 HO_540001 HO556 BK539 HB hHeld ⊢
          refine pU HT_ 0 (some 62) (mk 17 1) rfl rfl (h := ?_)
          refine pU HT_ 1 (some 63) (mk 17 3) rfl rfl (h := ?_)
          refine pU HT_ 2 (some 64) (mk 17 7) rfl rfl (h := ?_)
          refine pU HT_ 4 (some 66) (mk 17 23) rfl rfl (h := ?_)
          refine pU HT_ 7 (some 69) (mk 17 151) rfl rfl (h := ?_)
          refine tU HT_ HW_ 3 (some 65) (mk 17 159) hHeld rfl rfl (by rintro w' ⟨s0, s1⟩; go_simp; with_reducible rfl) (h := ?_)
          refine tU HT_ HW_ 6 (some 68) (mk 17 223) hHeld rfl rfl (by rintro w' ⟨s0, s1⟩; go_simp; with_reducible rfl) (h := ?_)
          refine one_ (i := 5) (N := some 67) (mk 17 255) rfl rfl (one_of HT_.out (by kernel_rfl)) (by decide) (fun K hK => ?_)
          refine goes_ Try.func13 (by kernel_rfl) rfl #[.agg #[.slice Ao8 t532.length co8, .slice Ao10 t535.length co10], .string t557] (by rfl) rfl rfl eA ?_
          with_reducible refine (impl_Build.calls k2 _ _ t532 _ _ t535 t557 t558 _ ?side1 ?side2 ?side3 ?side4 A69.out).mono ?_
          (case side1 => repeat (first | exact (Kd.R_reads' HO_540000.out).2.2 | (with_reducible refine Kd.C_alloc ?_ _) | (with_reducible refine Kd.C_drewN ?_ _) | (with_reducible refine Kd.C_drew ?_)))
          (case side2 => exact (Kd.R_reads' HO_540000.out).2.1)
          (case side3 => repeat (first | exact (Kd.R_reads' HO_540001.out).2.2 | (with_reducible refine Kd.C_alloc ?_ _) | (with_reducible refine Kd.C_drewN ?_ _) | (with_reducible refine Kd.C_drew ?_)))
          (case side4 => exact (Kd.R_reads' HO_540001.out).2.1)
          rintro e w78 ⟨rfl, hb⟩
          refine ⟨_, rfl, ?_⟩
          have n0_ := Aside0.mk (Kd.R_below (kR HO_5.out) hb)
          have n1_ := Aside0.mk (Kd.R_below (kR HO_540000.out) hb)
          have n2_ := Aside0.mk (Kd.R_below (kR HO_540001.out) hb)
          have n3_ := Aside0.mk (Kd.R_below (kR HO556.out) hb)
          have n4_ := Aside0.mk (blk_below (kB BK539.out) hb)
          have n5_ := Aside0.mk (below_step bS hb)
          clear HO_5 HO_540000 HO_540001 HO556 BK539 HB
          have HO_5 := n0_
          have HO_540000 := n1_
          have HO_540001 := n2_
          have HO556 := n3_
          have BK539 := n4_
          have HB := n5_
          clear n0_ n1_ n2_ n3_ n4_ n5_
          (try clear hb)
          (try clear hb2)
          (try clear hk)
          (try clear hi)
          refine hK.out _ _ ⟨(blk_cell BK539.out 0).trans rfl, (blk_cell BK539.out 1).trans rfl⟩ (fun hHeld => ?_)
          clear hK K
          refine norm_ (a' := ?_) ?_ ?_
          rotate_left
          ·show Act.put _ (some 67) _ = _
           simp only [Act.put, List.setIfInBounds_toArray, List.set_cons_zero, List.set_cons_succ, i64_w, i32_w]
           rfl
          refine one_ (i := 8) (N := some 70) (mk 17 511) rfl rfl (one_of HT_.out (by kernel_rfl)) (by decide) (fun K hK => ?_)
          refine goes_ Try.func16 (by kernel_rfl) rfl #[.agg #[.slice Ao8 t532.length co8, .slice Ao10 t535.length co10], .string t557] (by rfl) rfl rfl eA ?_
          with_reducible refine (spec_Sees.calls k2 _ _ t532 _ _ t535 t557 true _ ?side1 ?side2 ?side3 ?side4 A70.out).mono ?_
          (case side1 => repeat (first | exact (Kd.R_reads' HO_540000.out).2.2 | (with_reducible refine Kd.C_alloc ?_ _) | (with_reducible refine Kd.C_drewN ?_ _) | (with_reducible refine Kd.C_drew ?_)))
          (case side2 => exact (Kd.R_reads' HO_540000.out).2.1)
          (case side3 => repeat (first | exact (Kd.R_reads' HO_540001.out).2.2 | (with_reducible refine Kd.C_alloc ?_ _) | (with_reducible refine Kd.C_drewN ?_ _) | (with_reducible refine Kd.C_drew ?_)))
          (case side4 => exact (Kd.R_reads' HO_540001.out).2.1)
          rintro e w79 ⟨rfl, hb⟩
          refine ⟨_, rfl, ?_⟩
          have n0_ := Aside0.mk (Kd.R_below (kR HO_5.out) hb)
          have n1_ := Aside0.mk (Kd.R_below (kR HO_540000.out) hb)
          have n2_ := Aside0.mk (Kd.R_below (kR HO_540001.out) hb)
          have n3_ := Aside0.mk (Kd.R_below (kR HO556.out) hb)
          have n4_ := Aside0.mk (blk_below (kB BK539.out) hb)
          have n5_ := Aside0.mk (below_step bS hb)
          clear HO_5 HO_540000 HO_540001 HO556 BK539 HB
          have HO_5 := n0_
          have HO_540000 := n1_
          have HO_540001 := n2_
          have HO556 := n3_
          have BK539 := n4_
          have HB := n5_
          clear n0_ n1_ n2_ n3_ n4_ n5_
          (try clear hb)
          (try clear hb2)
          (try clear hk)
          (try clear hi)
          refine hK.out _ _ ⟨(blk_cell BK539.out 0).trans rfl, (blk_cell BK539.out 1).trans rfl⟩ (fun hHeld => ?_)
          clear hK K
          refine norm_ (a' := ?_) ?_ ?_
          rotate_left
          ·show Act.put _ (some 70) _ = _
           simp only [Act.put, List.setIfInBounds_toArray, List.set_cons_zero, List.set_cons_succ, i64_w, i32_w]
           rfl
          refine pU HT_ 9 (some 71) (mk 17 1023) rfl rfl (h := ?_)
          refine pN HT_ 10 (some 72) (mk 17 2047) rfl rfl (h := ?_)
          refine pN HT_ 11 (some 73) (mk 17 4095) rfl rfl (h := ?_)
          refine pN HT_ 12 (some 74) (mk 17 8191) rfl rfl (h := ?_)
          refine pU HT_ 13 (some 75) (mk 17 16383) rfl rfl (h := ?_)
          refine pU HT_ 14 (some 76) (mk 17 32767) rfl rfl (h := ?_)
          refine pU HT_ 15 (some 77) (mk 17 65535) rfl rfl (h := ?_)
          refine pU HT_ 16 (some 2) (mk 17 131071) rfl rfl (h := ?_)
          refine done_ (done_of HT_.out (by kernel_rfl)) ?_
          try go_wp2
          go_ret
          exact ⟨eE, bS⟩
         ·replace c71 := Bool.eq_false_iff.mpr c71
          subst c71
          have H1 : ((spec_Build.f k2 t532 t535 t538).bind fun t560 => (some (t558 == t560))) = some r := by rw [if_neg (show ¬ (false = true) by decide)] at H; exact H
          clear H
          have H := H1
          clear H1
          replace H := Option.bind_eq_some_iff.mp H
          obtain ⟨t560, A800, H⟩ := H
          replace H : (some (t558 == t560)) = some r := H
          have A80 := Aside0.mk A800
          clear A800
          obtain rfl := Option.some.inj H
          try go_wp2_with (first | ((with_reducible refine gate_callee (f := 20) rfl ?_); refine goesL_ (some 59) rfl rfl Try.func20 (by kernel_rfl) rfl #[.string (⟨#[120]⟩ : ByteArray)] rfl eA ?_; (with_reducible refine (spec_Atom.calls k2 (⟨#[120]⟩ : ByteArray) t553 _ A60.out).mono ?_); rintro e w81 ⟨rfl, hb⟩; refine ⟨_, rfl, ?_⟩; have n0_ := Aside0.mk (Kd.R_below (kR HO_5.out) hb); have n1_ := Aside0.mk (Kd.R_below (kR HO_540000.out) hb); have n2_ := Aside0.mk (Kd.R_below (kR HO_540001.out) hb); have n3_ := Aside0.mk (blk_below (kB BK539.out) hb); have n4_ := Aside0.mk (below_step bS hb); clear HO_5; clear HO_540000; clear HO_540001; clear BK539; clear HB; have HO_5 := n0_; have HO_540000 := n1_; have HO_540001 := n2_; have BK539 := n3_; have HB := n4_; clear n0_ n1_ n2_ n3_ n4_; (try clear hb); (try clear hb2); (try clear hk); (try clear hi)) | ((with_reducible refine gate_dst (N := 60) rfl ?_); refine Kd.R_lit Kd.string _ 9 ?hg (N := 60) ?hd (xs := ([t538, t553] : List ByteArray)) (inner := [.string t538, .string t553]) (ok := fun _ => True) (okp := fun _ => True) ?hr ?hp (fun _ hk => hk) trivial (Below.refl _ _) (Nat.le_refl _) (by simp) ?_; (case hd => rfl); (case hg => rfl); (case hr => first | (go_simp; done) | (go_simp; rfl)); (case hp => exact (Reps.one (show Kd.M Kd.string _ _ _ t538 [.string t538] from rfl) (Reps.one (show Kd.M Kd.string _ _ _ t553 [.string t553] from rfl) (Reps.none _ _)))); intro v555 w82 ho83 hb hg_ hnew_; clear hg_ hnew_; (first | rw [← Ny554.out] at ho83 | (simp only [Int.reduceToNat] at ho83; rw [← Ny554.out] at ho83)); have n0_ := Aside0.mk (Kd.R_below (kR HO_5.out) hb); have n1_ := Aside0.mk (Kd.R_elder' (kR HO_540000.out) (Kd.R_base ho83) hb); have n2_ := Aside0.mk (Kd.R_below (kR HO_540001.out) hb); have n3_ := Aside0.mk (Kd.R_lower (Kd.R_new' ho83 (Kd.R_lt (kR HO_540000.out))) (below_size bS)); have n4_ := Aside0.mk (blk_below (kB BK539.out) hb); have n5_ := Aside0.mk (below_step bS hb); clear HO_5; clear HO_540000; clear HO_540001; clear BK539; clear HB; have HO_5 := n0_; have HO_540000 := n1_; have HO_540001 := n2_; have HO556 := n3_; have BK539 := n4_; have HB := n5_; clear n0_ n1_ n2_ n3_ n4_ n5_; clear hb ho83; obtain ⟨Ao84, co84, eo84⟩ := Kd.R_slice HO556.out; subst eo84) | ((with_reducible refine gate_callee (f := 19) rfl ?_); refine goesL_ (some 61) rfl rfl Try.func19 (by kernel_rfl) rfl #[.slice Ao84 y554.length co84] rfl eA ?_; (with_reducible refine (spec_List.calls k2 _ _ y554 t557 _ ?side1 ?side2 A61.out).mono ?_); (case side1 => repeat (first | exact (Kd.R_reads' HO556.out).2.2 | (with_reducible refine Kd.C_alloc ?_ _) | (with_reducible refine Kd.C_drewN ?_ _) | (with_reducible refine Kd.C_drew ?_))); (case side2 => exact (Kd.R_reads' HO556.out).2.1); rintro e w85 ⟨rfl, hb⟩; refine ⟨_, rfl, ?_⟩; have n0_ := Aside0.mk (Kd.R_below (kR HO_5.out) hb); have n1_ := Aside0.mk (Kd.R_below (kR HO_540000.out) hb); have n2_ := Aside0.mk (Kd.R_below (kR HO_540001.out) hb); have n3_ := Aside0.mk (Kd.R_below (kR HO556.out) hb); have n4_ := Aside0.mk (blk_below (kB BK539.out) hb); have n5_ := Aside0.mk (below_step bS hb); clear HO_5; clear HO_540000; clear HO_540001; clear HO556; clear BK539; clear HB; have HO_5 := n0_; have HO_540000 := n1_; have HO_540001 := n2_; have HO556 := n3_; have BK539 := n4_; have HB := n5_; clear n0_ n1_ n2_ n3_ n4_ n5_; (try clear hb); (try clear hb2); (try clear hk); (try clear hi)))
          have n0_ := Aside0.mk (Kd.R_drew HO_5.out)
          have n1_ := Aside0.mk (Kd.R_drew HO_540000.out)
          have n2_ := Aside0.mk (Kd.R_drew HO_540001.out)
          have n3_ := Aside0.mk (Kd.R_drew HO556.out)
          have n4_ := Aside0.mk (blk_drew BK539.out)
          have n5_ := Aside0.mk (below_drew1 HB.out)
          clear HO_5 HO_540000 HO_540001 HO556 BK539 HB
          have HO_5 := n0_
          have HO_540000 := n1_
          have HO_540001 := n2_
          have HO556 := n3_
          have BK539 := n4_
          have HB := n5_
          clear n0_ n1_ n2_ n3_ n4_ n5_
          refine start_ (n := 17) (S := fun w' => w'.cell? ⟨gb539, 0, none⟩ = some (.slice Ao8 t532.length co8) ∧ w'.cell? ⟨gb539, 1, none⟩ = some (.slice Ao10 t535.length co10)) (ds := []) _ (by kernel_rfl) rfl rfl ⟨(blk_cell BK539.out 0).trans rfl, (blk_cell BK539.out 1).trans rfl⟩ (fun hHeld => ?_); refine with_tabW laws_FnBuilt.tab16 laws_FnBuilt.bits16 (fun HT_ HW_ => ?_)
          generalize w85.drew = w86 at HO_5 HO_540000 HO_540001 HO556 BK539 HB hHeld ⊢
          refine pU HT_ 0 (some 62) (mk 17 1) rfl rfl (h := ?_)
          refine pU HT_ 1 (some 63) (mk 17 3) rfl rfl (h := ?_)
          refine pU HT_ 2 (some 64) (mk 17 7) rfl rfl (h := ?_)
          refine pU HT_ 4 (some 66) (mk 17 23) rfl rfl (h := ?_)
          refine pU HT_ 7 (some 69) (mk 17 151) rfl rfl (h := ?_)
          refine tU HT_ HW_ 3 (some 65) (mk 17 159) hHeld rfl rfl (by rintro w' ⟨s0, s1⟩; go_simp; with_reducible rfl) (h := ?_)
          refine tU HT_ HW_ 6 (some 68) (mk 17 223) hHeld rfl rfl (by rintro w' ⟨s0, s1⟩; go_simp; with_reducible rfl) (h := ?_)
          refine one_ (i := 5) (N := some 67) (mk 17 255) rfl rfl (one_of HT_.out (by kernel_rfl)) (by decide) (fun K hK => ?_)
          refine goes_ Try.func13 (by kernel_rfl) rfl #[.agg #[.slice Ao8 t532.length co8, .slice Ao10 t535.length co10], .string t557] (by rfl) rfl rfl eA ?_
          with_reducible refine (impl_Build.calls k2 _ _ t532 _ _ t535 t557 t558 _ ?side1 ?side2 ?side3 ?side4 A69.out).mono ?_
          (case side1 => repeat (first | exact (Kd.R_reads' HO_540000.out).2.2 | (with_reducible refine Kd.C_alloc ?_ _) | (with_reducible refine Kd.C_drewN ?_ _) | (with_reducible refine Kd.C_drew ?_)))
          (case side2 => exact (Kd.R_reads' HO_540000.out).2.1)
          (case side3 => repeat (first | exact (Kd.R_reads' HO_540001.out).2.2 | (with_reducible refine Kd.C_alloc ?_ _) | (with_reducible refine Kd.C_drewN ?_ _) | (with_reducible refine Kd.C_drew ?_)))
          (case side4 => exact (Kd.R_reads' HO_540001.out).2.1)
          rintro e w87 ⟨rfl, hb⟩
          refine ⟨_, rfl, ?_⟩
          have n0_ := Aside0.mk (Kd.R_below (kR HO_5.out) hb)
          have n1_ := Aside0.mk (Kd.R_below (kR HO_540000.out) hb)
          have n2_ := Aside0.mk (Kd.R_below (kR HO_540001.out) hb)
          have n3_ := Aside0.mk (Kd.R_below (kR HO556.out) hb)
          have n4_ := Aside0.mk (blk_below (kB BK539.out) hb)
          have n5_ := Aside0.mk (below_step bS hb)
          clear HO_5 HO_540000 HO_540001 HO556 BK539 HB
          have HO_5 := n0_
          have HO_540000 := n1_
          have HO_540001 := n2_
          have HO556 := n3_
          have BK539 := n4_
          have HB := n5_
          clear n0_ n1_ n2_ n3_ n4_ n5_
          (try clear hb)
          (try clear hb2)
          (try clear hk)
          (try clear hi)
          refine hK.out _ _ ⟨(blk_cell BK539.out 0).trans rfl, (blk_cell BK539.out 1).trans rfl⟩ (fun hHeld => ?_)
          clear hK K
          refine norm_ (a' := ?_) ?_ ?_
          rotate_left
          ·show Act.put _ (some 67) _ = _
           simp only [Act.put, List.setIfInBounds_toArray, List.set_cons_zero, List.set_cons_succ, i64_w, i32_w]
           rfl
          refine one_ (i := 8) (N := some 70) (mk 17 511) rfl rfl (one_of HT_.out (by kernel_rfl)) (by decide) (fun K hK => ?_)
          refine goes_ Try.func16 (by kernel_rfl) rfl #[.agg #[.slice Ao8 t532.length co8, .slice Ao10 t535.length co10], .string t557] (by rfl) rfl rfl eA ?_
          with_reducible refine (spec_Sees.calls k2 _ _ t532 _ _ t535 t557 false _ ?side1 ?side2 ?side3 ?side4 A70.out).mono ?_
          (case side1 => repeat (first | exact (Kd.R_reads' HO_540000.out).2.2 | (with_reducible refine Kd.C_alloc ?_ _) | (with_reducible refine Kd.C_drewN ?_ _) | (with_reducible refine Kd.C_drew ?_)))
          (case side2 => exact (Kd.R_reads' HO_540000.out).2.1)
          (case side3 => repeat (first | exact (Kd.R_reads' HO_540001.out).2.2 | (with_reducible refine Kd.C_alloc ?_ _) | (with_reducible refine Kd.C_drewN ?_ _) | (with_reducible refine Kd.C_drew ?_)))
          (case side4 => exact (Kd.R_reads' HO_540001.out).2.1)
          rintro e w88 ⟨rfl, hb⟩
          refine ⟨_, rfl, ?_⟩
          have n0_ := Aside0.mk (Kd.R_below (kR HO_5.out) hb)
          have n1_ := Aside0.mk (Kd.R_below (kR HO_540000.out) hb)
          have n2_ := Aside0.mk (Kd.R_below (kR HO_540001.out) hb)
          have n3_ := Aside0.mk (Kd.R_below (kR HO556.out) hb)
          have n4_ := Aside0.mk (blk_below (kB BK539.out) hb)
          have n5_ := Aside0.mk (below_step bS hb)
          clear HO_5 HO_540000 HO_540001 HO556 BK539 HB
          have HO_5 := n0_
          have HO_540000 := n1_
          have HO_540001 := n2_
          have HO556 := n3_
          have BK539 := n4_
          have HB := n5_
          clear n0_ n1_ n2_ n3_ n4_ n5_
          (try clear hb)
          (try clear hb2)
          (try clear hk)
          (try clear hi)
          refine hK.out _ _ ⟨(blk_cell BK539.out 0).trans rfl, (blk_cell BK539.out 1).trans rfl⟩ (fun hHeld => ?_)
          clear hK K
          refine norm_ (a' := ?_) ?_ ?_
          rotate_left
          ·show Act.put _ (some 70) _ = _
           simp only [Act.put, List.setIfInBounds_toArray, List.set_cons_zero, List.set_cons_succ, i64_w, i32_w]
           rfl
          refine pU HT_ 9 (some 71) (mk 17 1023) rfl rfl (h := ?_)
          refine pU HT_ 11 (some 73) (mk 17 3071) rfl rfl (h := ?_)
          refine tU HT_ HW_ 10 (some 72) (mk 17 4095) hHeld rfl rfl (by rintro w' ⟨s0, s1⟩; go_simp; with_reducible rfl) (h := ?_)
          refine one_ (i := 12) (N := some 74) (mk 17 8191) rfl rfl (one_of HT_.out (by kernel_rfl)) (by decide) (fun K hK => ?_)
          refine goes_ Try.func18 (by kernel_rfl) rfl #[.agg #[.slice Ao8 t532.length co8, .slice Ao10 t535.length co10], .string t538] (by rfl) rfl rfl eA ?_
          with_reducible refine (spec_Build.calls k2 _ _ t532 _ _ t535 t538 t560 _ ?side1 ?side2 ?side3 ?side4 A80.out).mono ?_
          (case side1 => repeat (first | exact (Kd.R_reads' HO_540000.out).2.2 | (with_reducible refine Kd.C_alloc ?_ _) | (with_reducible refine Kd.C_drewN ?_ _) | (with_reducible refine Kd.C_drew ?_)))
          (case side2 => exact (Kd.R_reads' HO_540000.out).2.1)
          (case side3 => repeat (first | exact (Kd.R_reads' HO_540001.out).2.2 | (with_reducible refine Kd.C_alloc ?_ _) | (with_reducible refine Kd.C_drewN ?_ _) | (with_reducible refine Kd.C_drew ?_)))
          (case side4 => exact (Kd.R_reads' HO_540001.out).2.1)
          rintro e w89 ⟨rfl, hb⟩
          refine ⟨_, rfl, ?_⟩
          have n0_ := Aside0.mk (Kd.R_below (kR HO_5.out) hb)
          have n1_ := Aside0.mk (Kd.R_below (kR HO_540000.out) hb)
          have n2_ := Aside0.mk (Kd.R_below (kR HO_540001.out) hb)
          have n3_ := Aside0.mk (Kd.R_below (kR HO556.out) hb)
          have n4_ := Aside0.mk (blk_below (kB BK539.out) hb)
          have n5_ := Aside0.mk (below_step bS hb)
          clear HO_5 HO_540000 HO_540001 HO556 BK539 HB
          have HO_5 := n0_
          have HO_540000 := n1_
          have HO_540001 := n2_
          have HO556 := n3_
          have BK539 := n4_
          have HB := n5_
          clear n0_ n1_ n2_ n3_ n4_ n5_
          (try clear hb)
          (try clear hb2)
          (try clear hk)
          (try clear hi)
          refine hK.out _ _ ⟨(blk_cell BK539.out 0).trans rfl, (blk_cell BK539.out 1).trans rfl⟩ (fun hHeld => ?_)
          clear hK K
          refine norm_ (a' := ?_) ?_ ?_
          rotate_left
          ·show Act.put _ (some 74) _ = _
           simp only [Act.put, List.setIfInBounds_toArray, List.set_cons_zero, List.set_cons_succ, i64_w, i32_w]
           rfl
          refine pU HT_ 13 (some 75) (mk 17 16383) rfl rfl (h := ?_)
          refine pU HT_ 14 (some 76) (mk 17 32767) rfl rfl (h := ?_)
          refine pU HT_ 15 (some 77) (mk 17 65535) rfl rfl (h := ?_)
          refine pU HT_ 16 (some 2) (mk 17 131071) rfl rfl (h := ?_)
          refine done_ (done_of HT_.out (by kernel_rfl)) ?_
          try go_wp2
          go_ret
          exact ⟨eE, bS⟩

/-- THE ONE PURE STATEMENT of laws_FnBuilt: yours. -/
def laws_FnBuilt.Pure : Prop := ∀ (l0 : List Int), l0.length ≤ maxLen → l0.length * 1 ≤ 140737488351232 → (∀ x ∈ l0, (Lit.int .u8 x).wf = true) → ∃ k, laws_FnBuilt.f k l0 = some true
theorem laws_FnBuilt.walk (P : laws_FnBuilt.Pure) (a0 : Option Addr) (len0 cap0 : Nat) (z0 : List Int) (w : World) (w0 : (a0 = none ∧ len0 = 0 ∧ cap0 = 0 ∧ z0 = []) ∨ ∃ x, a0 = some x ∧ len0 ≤ cap0 ∧ cap0 ≤ maxLen ∧ z0.length = cap0 ∧ (∀ i, i < z0.length → w.cell? (x.add i) = some (.int .u8 (z0.getD i 0))) ∧ ∀ n ∈ z0, (Lit.int .u8 n).wf = true) (y0 : len0 * 1 ≤ 140737488351232) :
  Calls Try.prog 3 #[.slice a0 len0 cap0] w fun e w' => e = .returned (.bool true) ∧ Below w.heap.size w w' := by
 obtain ⟨l0, rfl, hr0, hm0, hw0, hc0⟩ := ReadsInt.ofRowC w0
 obtain ⟨k, h⟩ := P l0 hm0 y0 hw0
 refine (laws_FnBuilt.calls k _ _ l0 true w (Kd.C_of_reads (d := (0 : Int)) (h1 := fun _ => rfl) hr0) hc0 h ⟨rfl⟩).mono ?_
 rintro e w' ⟨rfl, hd⟩
 exact ⟨rfl, hd⟩

end Go.Proofs.Ythlpfghlildllaa.OFnBuilt
-- halved
-- squeezed
-- squeezed2
