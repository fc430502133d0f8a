-- walks of this claim, written by a program of mine
import Derived.Test.YtmhjpnjolgigmaaOFnWayx0
import Derived.Test.YtmhjpnjolgigmaaOFnWayx2
import Derived.Test.YtmhjpnjolgigmaaOFnWayx4
import Derived.Test.YtmhjpnjolgigmaaOFnWayx10
import Derived.Test.YtmhjpnjolgigmaaOFnWayx11
namespace Go.Proofs.Ytmhjpnjolgigmaa.OFnWay
open Go.RowKit Go.Proofs.Ytmhjpnjolgigmaa.OWord Go.Proofs.YtmhjpnjolgigmaaW.PrintWords Go.Proofs.YtmhjpnjolgigmaaW.PrintLast Go.Proofs.YtmhjpnjolgigmaaW.PrintMore
attribute [local go_sem] max2_int min2_int max_two min_two max_three min_three max_four min_four   -- for this text's walks alone
set_option linter.unusedVariables false
set_option linter.unusedSimpArgs false

/-! ### spec_NextHop: function 20 -/
mutual
def spec_NextHop.j0 : Nat → Int → Int → Bool → List Int → List Int → List (S42) → List (S42) → Int → Option (Int)
 | 0, _, _, _, _, _, _, _, _ => none
 | k + 1, x1, x2, x27, x352000, x352001, x352002, x352003, x352004 => if x27 = true then (some (-1)) else ((spec_l6Far.f k x352000 x352001 x352002 x352003 x352004 x2).bind fun t355 => (spec_NextHop.l0 k x1 t355 (-1) 0 x352000 x352001 x352002 x352003 x352004))
def spec_NextHop.l0 : Nat → Int → List Int → Int → Int → List Int → List Int → List (S42) → List (S42) → Int → Option (Int)
 | 0, _, _, _, _, _, _, _, _, _ => none
 | k + 1, x1, x7, x8, x9, x352000, x352001, x352002, x352003, x352004 => if x9 < 3 then ((spec_l6Has.f k x352002 x1 x9).bind fun t358 => (if t358 = true then (if 0 ≤ x9 then (if x9 < (x7.length : Int) then (if (rd x7 x9) < 3 then (if x8 < 0 then (spec_NextHop.l0 k x1 x7 x9 (wrap64 (x9 + 1)) x352000 x352001 x352002 x352003 x352004) else (if 0 ≤ x8 then (if x8 < (x7.length : Int) then (if (rd x7 x9) < (rd x7 x8) then (spec_NextHop.l0 k x1 x7 x9 (wrap64 (x9 + 1)) x352000 x352001 x352002 x352003 x352004) else (spec_NextHop.l0 k x1 x7 x8 (wrap64 (x9 + 1)) x352000 x352001 x352002 x352003 x352004)) else (none)) else (none))) else (spec_NextHop.l0 k x1 x7 x8 (wrap64 (x9 + 1)) x352000 x352001 x352002 x352003 x352004)) else (none)) else (none)) else (spec_NextHop.l0 k x1 x7 x8 (wrap64 (x9 + 1)) x352000 x352001 x352002 x352003 x352004))) else (some x8)
end
def spec_NextHop.f (k : Nat) (l0_0 : List Int) (l0_1 : List Int) (l0_2 : List (S42)) (l0_3 : List (S42)) (a0_4 : Int) (a1 : Int) (a2 : Int) : Option (Int) := (spec_ConfigOk.f k l0_0 l0_1 l0_2 l0_3 a0_4).bind fun t352 => (if t352 = true then ((spec_l6Realm.f a1).bind fun t353 => (if t353 = true then ((spec_l6Realm.f a2).bind fun t354 => (if t354 = true then (spec_NextHop.j0 k a1 a2 (a1 == a2) l0_0 l0_1 l0_2 l0_3 a0_4) else (spec_NextHop.j0 k a1 a2 true l0_0 l0_1 l0_2 l0_3 a0_4))) else (spec_NextHop.j0 k a1 a2 true l0_0 l0_1 l0_2 l0_3 a0_4))) else (spec_NextHop.j0 k a1 a2 true l0_0 l0_1 l0_2 l0_3 a0_4))
def spec_NextHop.T8 : Bool × List (List Nat × List Nat) := (true, [([], []), ([0], [0]), ([], []), ([], []), ([2, 3], [2, 3]), ([1, 4], [1, 4]), ([5, 5], [5]), ([6], [6]), ([6], [6]), ([7, 8, 6], [6, 7, 8]), ([9, 6], [6, 9]), ([10, 6], [6, 10]), ([6, 11], [6, 11]), ([12, 6], [12]), ([13], [13]), ([14, 13], [13, 14]), ([15, 13, 13], [13, 15]), ([16], [16]), ([16], [16]), ([17, 18, 16], [16, 17, 18]), ([19, 16], [16, 19]), ([16], [16]), ([16], [16]), ([21, 22, 16], [16, 21, 22]), ([23, 16], [16, 23]), ([20, 24, 16], [16, 20, 24]), ([16, 25, 13], [13, 16, 25]), ([13, 26], [13, 26])])
def spec_NextHop.B8 : List Nat := [0, 1, 0, 0, 12, 31, 63, 127, 127, 511, 1023, 2047, 4095, 8191, 16383, 32767, 65535, 131071, 131071, 524287, 1048575, 131071, 131071, 6422527, 14811135, 33554431, 67108863, 134217727]
theorem spec_NextHop.tab8 : rtab .any (opsOf Try.f20 8) = spec_NextHop.T8 := by kernel_rfl
theorem spec_NextHop.bits8 : waitsOk spec_NextHop.T8.2 spec_NextHop.B8 = true := by kernel_rfl
set_option maxHeartbeats 8000000 in
set_option maxRecDepth 100000 in
theorem spec_NextHop.calls (k : Nat) (A0_0 : Option Addr) (c0_0 : Nat) (l0_0 : List Int) (A0_1 : Option Addr) (c0_1 : Nat) (l0_1 : List Int) (A0_2 : Option Addr) (c0_2 : Nat) (l0_2 : List (S42)) (A0_3 : Option Addr) (c0_3 : Nat) (l0_3 : List (S42)) (a0_4 : Int) (a1 : Int) (a2 : Int) (r : Int) (w : World) (hr0_0 : Kd.C (Kd.int .i64) w A0_0 l0_0.length l0_0) (hc0_0 : l0_0.length ≤ c0_0) (hr0_1 : Kd.C (Kd.int .i64) w A0_1 l0_1.length l0_1) (hc0_1 : l0_1.length ≤ c0_1) (hr0_2 : Kd.C k42 w A0_2 l0_2.length l0_2) (hc0_2 : l0_2.length ≤ c0_2) (hr0_3 : Kd.C k42 w A0_3 l0_3.length l0_3) (hc0_3 : l0_3.length ≤ c0_3) (h : spec_NextHop.f k l0_0 l0_1 l0_2 l0_3 a0_4 a1 a2 = some r) :
  Calls Try.prog 20 #[.agg #[.slice A0_0 l0_0.length c0_0, .slice A0_1 l0_1.length c0_1, .slice A0_2 l0_2.length c0_2, .slice A0_3 l0_3.length c0_3, .int .i64 a0_4], .int .i64 a1, .int .i64 a2] w fun e w' => e = .returned (.int .i64 r) ∧ Below w.heap.size w w' := by
 have hu30 := Try.underlying30
 have hu42 := Try.underlying42
 have HR0_0 := Aside0.mk hr0_0
 have HC0_0 := Aside0.mk hc0_0
 clear hr0_0 hc0_0
 have HR0_1 := Aside0.mk hr0_1
 have HC0_1 := Aside0.mk hc0_1
 clear hr0_1 hc0_1
 have HR0_2 := Aside0.mk hr0_2
 have HC0_2 := Aside0.mk hc0_2
 clear hr0_2 hc0_2
 have HR0_3 := Aside0.mk hr0_3
 have HC0_3 := Aside0.mk hc0_3
 clear hr0_3 hc0_3
 have HB := Aside0.mk (Below.refl w.heap.size w)
 have H : ((spec_ConfigOk.f k l0_0 l0_1 l0_2 l0_3 a0_4).bind fun t352 => (if t352 = true then ((spec_l6Realm.f a1).bind fun t353 => (if t353 = true then ((spec_l6Realm.f a2).bind fun t354 => (if t354 = true then (spec_NextHop.j0 k a1 a2 (a1 == a2) l0_0 l0_1 l0_2 l0_3 a0_4) else (spec_NextHop.j0 k a1 a2 true l0_0 l0_1 l0_2 l0_3 a0_4))) else (spec_NextHop.j0 k a1 a2 true l0_0 l0_1 l0_2 l0_3 a0_4))) else (spec_NextHop.j0 k a1 a2 true l0_0 l0_1 l0_2 l0_3 a0_4))) = some r := h
 clear h
 have HC4 := Aside0.mk H
 clear H
 go_enter Try.func20, Try.ntmps20
 go_upto_region 1 with (first | ((with_reducible refine gate_dst (N := 3) rfl ?_); refine box_event ?hg (N := 3) ?hd (cs := #[.slice A0_0 l0_0.length c0_0, .slice A0_1 l0_1.length c0_1, .slice A0_2 l0_2.length c0_2, .slice A0_3 l0_3.length c0_3, .int .i64 a0_4]) (t := 30) ?hr ?_; (case hd => rfl); (case hg => rfl); (case hr => first | (go_simp; done) | (go_simp; rfl)); intro gb351 hg w5 hbox hb; have n0_ := Aside0.mk (below_step bH hb); have n1_ := Aside0.mk (hbox); have n2_ := Aside0.mk ((bZ hg : w.heap.size ≤ gb351)); have n3_ := Aside0.mk ((bZ hg : w.heap.size ≤ gb351)); clear HB; have HB := n0_; have BK351 := n1_; have GW351 := n2_; have GE351 := n3_; clear n0_ n1_ n2_ n3_; clear hb hbox hg))
 (try simp only [Act.put, List.setIfInBounds_toArray, List.set_cons_zero, List.set_cons_succ])
 go_cut [27] (fun v27 wc => ∃ (kq : Nat) (x27_3 : Bool), v27 = .bool x27_3 ∧ Aside0 (spec_NextHop.j0 kq a1 a2 x27_3 l0_0 l0_1 l0_2 l0_3 a0_4 = some r) ∧ Aside0 (kq ≤ k) ∧ Aside0 (wc.heap[gb351]? = some (.cells #[(.slice A0_0 l0_0.length c0_0), (.slice A0_1 l0_1.length c0_1), (.slice A0_2 l0_2.length c0_2), (.slice A0_3 l0_3.length c0_3), .int .i64 a0_4] 30 (0, 0))) ∧ Aside0 (Below w.heap.size w wc))
 case first =>
  have H := HC4.out
  clear HC4
  replace H := Option.bind_eq_some_iff.mp H
  obtain ⟨t352, A60, H⟩ := H
  replace H : (if t352 = true then ((spec_l6Realm.f a1).bind fun t353 => (if t353 = true then ((spec_l6Realm.f a2).bind fun t354 => (if t354 = true then (spec_NextHop.j0 k a1 a2 (a1 == a2) l0_0 l0_1 l0_2 l0_3 a0_4) else (spec_NextHop.j0 k a1 a2 true l0_0 l0_1 l0_2 l0_3 a0_4))) else (spec_NextHop.j0 k a1 a2 true l0_0 l0_1 l0_2 l0_3 a0_4))) else (spec_NextHop.j0 k a1 a2 true l0_0 l0_1 l0_2 l0_3 a0_4)) = some r := H
  have A6 := Aside0.mk A60
  clear A60
  by_cases c7 : t352 = true
  ·subst c7
   have H1 : ((spec_l6Realm.f a1).bind fun t353 => (if t353 = true then ((spec_l6Realm.f a2).bind fun t354 => (if t354 = true then (spec_NextHop.j0 k a1 a2 (a1 == a2) l0_0 l0_1 l0_2 l0_3 a0_4) else (spec_NextHop.j0 k a1 a2 true l0_0 l0_1 l0_2 l0_3 a0_4))) else (spec_NextHop.j0 k a1 a2 true l0_0 l0_1 l0_2 l0_3 a0_4))) = some r := by rw [if_pos rfl] at H; exact H
   clear H
   have H := H1
   clear H1
   replace H := Option.bind_eq_some_iff.mp H
   obtain ⟨t353, A80, H⟩ := H
   replace H : (if t353 = true then ((spec_l6Realm.f a2).bind fun t354 => (if t354 = true then (spec_NextHop.j0 k a1 a2 (a1 == a2) l0_0 l0_1 l0_2 l0_3 a0_4) else (spec_NextHop.j0 k a1 a2 true l0_0 l0_1 l0_2 l0_3 a0_4))) else (spec_NextHop.j0 k a1 a2 true l0_0 l0_1 l0_2 l0_3 a0_4)) = some r := H
   have A8 := Aside0.mk A80
   clear A80
   by_cases c9 : t353 = true
   ·subst c9
    have H1 : ((spec_l6Realm.f a2).bind fun t354 => (if t354 = true then (spec_NextHop.j0 k a1 a2 (a1 == a2) l0_0 l0_1 l0_2 l0_3 a0_4) else (spec_NextHop.j0 k a1 a2 true l0_0 l0_1 l0_2 l0_3 a0_4))) = some r := by rw [if_pos rfl] at H; exact H
    clear H
    have H := H1
    clear H1
    replace H := Option.bind_eq_some_iff.mp H
    obtain ⟨t354, A100, H⟩ := H
    replace H : (if t354 = true then (spec_NextHop.j0 k a1 a2 (a1 == a2) l0_0 l0_1 l0_2 l0_3 a0_4) else (spec_NextHop.j0 k a1 a2 true l0_0 l0_1 l0_2 l0_3 a0_4)) = some r := H
    have A10 := Aside0.mk A100
    clear A100
    by_cases c11 : t354 = true
    ·subst c11
     have H1 : (spec_NextHop.j0 k a1 a2 (a1 == a2) l0_0 l0_1 l0_2 l0_3 a0_4) = some r := by rw [if_pos rfl] at H; exact H
     clear H
     have H := H1
     clear H1
     have H' := Aside0.mk H
     clear H
     have hcz12_0 : w5.cell? ⟨gb351, 0, none⟩ = some (.slice A0_0 l0_0.length c0_0) := (blk_cell BK351.out 0).trans rfl
     have hcz12_1 : w5.cell? ⟨gb351, 1, none⟩ = some (.slice A0_1 l0_1.length c0_1) := (blk_cell BK351.out 1).trans rfl
     have hcz12_2 : w5.cell? ⟨gb351, 2, none⟩ = some (.slice A0_2 l0_2.length c0_2) := (blk_cell BK351.out 2).trans rfl
     have hcz12_3 : w5.cell? ⟨gb351, 3, none⟩ = some (.slice A0_3 l0_3.length c0_3) := (blk_cell BK351.out 3).trans rfl
     have hcz12_4 : w5.cell? ⟨gb351, 4, none⟩ = some (.int .i64 a0_4) := (blk_cell BK351.out 4).trans rfl
     have hfz12_0 := blk_frozen BK351.out 0
     have hfz12_1 := blk_frozen BK351.out 1
     have hfz12_2 := blk_frozen BK351.out 2
     have hfz12_3 := blk_frozen BK351.out 3
     have hfz12_4 := blk_frozen BK351.out 4
     go_wp2_with (first | ((with_reducible refine gate_callee (f := 11) rfl ?_); refine goesL_ (some 11) rfl rfl Try.func11 (by kernel_rfl) rfl #[.agg #[.slice A0_0 l0_0.length c0_0, .slice A0_1 l0_1.length c0_1, .slice A0_2 l0_2.length c0_2, .slice A0_3 l0_3.length c0_3, .int .i64 a0_4]] rfl eA ?_; (with_reducible refine (spec_ConfigOk.calls k _ _ l0_0 _ _ l0_1 _ _ l0_2 _ _ l0_3 a0_4 true _ ?side1 ?side2 ?side3 ?side4 ?side5 ?side6 ?side7 ?side8 A6.out).mono ?_); (case side1 => repeat (first | exact (Kd.C_below HR0_0.out HB.out) | (with_reducible refine Kd.C_alloc ?_ _) | (with_reducible refine Kd.C_drewN ?_ _) | (with_reducible refine Kd.C_drew ?_))); (case side2 => exact HC0_0.out); (case side3 => repeat (first | exact (Kd.C_below HR0_1.out HB.out) | (with_reducible refine Kd.C_alloc ?_ _) | (with_reducible refine Kd.C_drewN ?_ _) | (with_reducible refine Kd.C_drew ?_))); (case side4 => exact HC0_1.out); (case side5 => repeat (first | exact (Kd.C_below HR0_2.out HB.out) | (with_reducible refine Kd.C_alloc ?_ _) | (with_reducible refine Kd.C_drewN ?_ _) | (with_reducible refine Kd.C_drew ?_))); (case side6 => exact HC0_2.out); (case side7 => repeat (first | exact (Kd.C_below HR0_3.out HB.out) | (with_reducible refine Kd.C_alloc ?_ _) | (with_reducible refine Kd.C_drewN ?_ _) | (with_reducible refine Kd.C_drew ?_))); (case side8 => exact HC0_3.out); rintro e w13 ⟨rfl, hb⟩; refine ⟨_, rfl, ?_⟩; have n0_ := Aside0.mk (blk_below (kB BK351.out) hb); have n1_ := Aside0.mk (below_step bS hb); clear BK351; clear HB; have BK351 := n0_; have HB := n1_; clear n0_ n1_; (try clear hb); (try clear hb2); (try clear hk); (try clear hi)) | (go_at_call 69; (with_reducible refine (spec_l6Realm.calls a1 true _ A8.out).mono ?_); rintro e w' ⟨rfl, ⟨nd, rfl⟩⟩) | (go_at_call 69; (with_reducible refine (spec_l6Realm.calls a2 true _ A10.out).mono ?_); rintro e w' ⟨rfl, ⟨nd, rfl⟩⟩))
     go_meet
     case rel => exact ⟨_, ((a1 == a2)), eX, H', ⟨by first | omega | exact Nat.le_refl _⟩, ⟨by (with_reducible repeat (first | refine blk_drewN ?_ _ | refine blk_drew ?_ | refine blk_alloc ?_ _)); exact BK351.out⟩, ⟨by repeat (first | (with_reducible first | exact HB.out | apply below_alloc | apply pw_below_drewN | apply below_drew1 | refine below_set ?_ GE351.out) | exact HB.out)⟩⟩
    ·replace c11 := Bool.eq_false_iff.mpr c11
     subst c11
     have H1 : (spec_NextHop.j0 k a1 a2 true l0_0 l0_1 l0_2 l0_3 a0_4) = some r := by rw [if_neg (show ¬ (false = true) by decide)] at H; exact H
     clear H
     have H := H1
     clear H1
     have H' := Aside0.mk H
     clear H
     have hcz14_0 : w5.cell? ⟨gb351, 0, none⟩ = some (.slice A0_0 l0_0.length c0_0) := (blk_cell BK351.out 0).trans rfl
     have hcz14_1 : w5.cell? ⟨gb351, 1, none⟩ = some (.slice A0_1 l0_1.length c0_1) := (blk_cell BK351.out 1).trans rfl
     have hcz14_2 : w5.cell? ⟨gb351, 2, none⟩ = some (.slice A0_2 l0_2.length c0_2) := (blk_cell BK351.out 2).trans rfl
     have hcz14_3 : w5.cell? ⟨gb351, 3, none⟩ = some (.slice A0_3 l0_3.length c0_3) := (blk_cell BK351.out 3).trans rfl
     have hcz14_4 : w5.cell? ⟨gb351, 4, none⟩ = some (.int .i64 a0_4) := (blk_cell BK351.out 4).trans rfl
     have hfz14_0 := blk_frozen BK351.out 0
     have hfz14_1 := blk_frozen BK351.out 1
     have hfz14_2 := blk_frozen BK351.out 2
     have hfz14_3 := blk_frozen BK351.out 3
     have hfz14_4 := blk_frozen BK351.out 4
     go_wp2_with (first | ((with_reducible refine gate_callee (f := 11) rfl ?_); refine goesL_ (some 11) rfl rfl Try.func11 (by kernel_rfl) rfl #[.agg #[.slice A0_0 l0_0.length c0_0, .slice A0_1 l0_1.length c0_1, .slice A0_2 l0_2.length c0_2, .slice A0_3 l0_3.length c0_3, .int .i64 a0_4]] rfl eA ?_; (with_reducible refine (spec_ConfigOk.calls k _ _ l0_0 _ _ l0_1 _ _ l0_2 _ _ l0_3 a0_4 true _ ?side1 ?side2 ?side3 ?side4 ?side5 ?side6 ?side7 ?side8 A6.out).mono ?_); (case side1 => repeat (first | exact (Kd.C_below HR0_0.out HB.out) | (with_reducible refine Kd.C_alloc ?_ _) | (with_reducible refine Kd.C_drewN ?_ _) | (with_reducible refine Kd.C_drew ?_))); (case side2 => exact HC0_0.out); (case side3 => repeat (first | exact (Kd.C_below HR0_1.out HB.out) | (with_reducible refine Kd.C_alloc ?_ _) | (with_reducible refine Kd.C_drewN ?_ _) | (with_reducible refine Kd.C_drew ?_))); (case side4 => exact HC0_1.out); (case side5 => repeat (first | exact (Kd.C_below HR0_2.out HB.out) | (with_reducible refine Kd.C_alloc ?_ _) | (with_reducible refine Kd.C_drewN ?_ _) | (with_reducible refine Kd.C_drew ?_))); (case side6 => exact HC0_2.out); (case side7 => repeat (first | exact (Kd.C_below HR0_3.out HB.out) | (with_reducible refine Kd.C_alloc ?_ _) | (with_reducible refine Kd.C_drewN ?_ _) | (with_reducible refine Kd.C_drew ?_))); (case side8 => exact HC0_3.out); rintro e w15 ⟨rfl, hb⟩; refine ⟨_, rfl, ?_⟩; have n0_ := Aside0.mk (blk_below (kB BK351.out) hb); have n1_ := Aside0.mk (below_step bS hb); clear BK351; clear HB; have BK351 := n0_; have HB := n1_; clear n0_ n1_; (try clear hb); (try clear hb2); (try clear hk); (try clear hi)) | (go_at_call 69; (with_reducible refine (spec_l6Realm.calls a1 true _ A8.out).mono ?_); rintro e w' ⟨rfl, ⟨nd, rfl⟩⟩) | (go_at_call 69; (with_reducible refine (spec_l6Realm.calls a2 false _ A10.out).mono ?_); rintro e w' ⟨rfl, ⟨nd, rfl⟩⟩))
     go_meet
     case rel => exact ⟨_, (true), eX, H', ⟨by first | omega | exact Nat.le_refl _⟩, ⟨by (with_reducible repeat (first | refine blk_drewN ?_ _ | refine blk_drew ?_ | refine blk_alloc ?_ _)); exact BK351.out⟩, ⟨by repeat (first | (with_reducible first | exact HB.out | apply below_alloc | apply pw_below_drewN | apply below_drew1 | refine below_set ?_ GE351.out) | exact HB.out)⟩⟩
   ·replace c9 := Bool.eq_false_iff.mpr c9
    subst c9
    have H1 : (spec_NextHop.j0 k a1 a2 true l0_0 l0_1 l0_2 l0_3 a0_4) = some r := by rw [if_neg (show ¬ (false = true) by decide)] at H; exact H
    clear H
    have H := H1
    clear H1
    have H' := Aside0.mk H
    clear H
    have hcz16_0 : w5.cell? ⟨gb351, 0, none⟩ = some (.slice A0_0 l0_0.length c0_0) := (blk_cell BK351.out 0).trans rfl
    have hcz16_1 : w5.cell? ⟨gb351, 1, none⟩ = some (.slice A0_1 l0_1.length c0_1) := (blk_cell BK351.out 1).trans rfl
    have hcz16_2 : w5.cell? ⟨gb351, 2, none⟩ = some (.slice A0_2 l0_2.length c0_2) := (blk_cell BK351.out 2).trans rfl
    have hcz16_3 : w5.cell? ⟨gb351, 3, none⟩ = some (.slice A0_3 l0_3.length c0_3) := (blk_cell BK351.out 3).trans rfl
    have hcz16_4 : w5.cell? ⟨gb351, 4, none⟩ = some (.int .i64 a0_4) := (blk_cell BK351.out 4).trans rfl
    have hfz16_0 := blk_frozen BK351.out 0
    have hfz16_1 := blk_frozen BK351.out 1
    have hfz16_2 := blk_frozen BK351.out 2
    have hfz16_3 := blk_frozen BK351.out 3
    have hfz16_4 := blk_frozen BK351.out 4
    go_wp2_with (first | ((with_reducible refine gate_callee (f := 11) rfl ?_); refine goesL_ (some 11) rfl rfl Try.func11 (by kernel_rfl) rfl #[.agg #[.slice A0_0 l0_0.length c0_0, .slice A0_1 l0_1.length c0_1, .slice A0_2 l0_2.length c0_2, .slice A0_3 l0_3.length c0_3, .int .i64 a0_4]] rfl eA ?_; (with_reducible refine (spec_ConfigOk.calls k _ _ l0_0 _ _ l0_1 _ _ l0_2 _ _ l0_3 a0_4 true _ ?side1 ?side2 ?side3 ?side4 ?side5 ?side6 ?side7 ?side8 A6.out).mono ?_); (case side1 => repeat (first | exact (Kd.C_below HR0_0.out HB.out) | (with_reducible refine Kd.C_alloc ?_ _) | (with_reducible refine Kd.C_drewN ?_ _) | (with_reducible refine Kd.C_drew ?_))); (case side2 => exact HC0_0.out); (case side3 => repeat (first | exact (Kd.C_below HR0_1.out HB.out) | (with_reducible refine Kd.C_alloc ?_ _) | (with_reducible refine Kd.C_drewN ?_ _) | (with_reducible refine Kd.C_drew ?_))); (case side4 => exact HC0_1.out); (case side5 => repeat (first | exact (Kd.C_below HR0_2.out HB.out) | (with_reducible refine Kd.C_alloc ?_ _) | (with_reducible refine Kd.C_drewN ?_ _) | (with_reducible refine Kd.C_drew ?_))); (case side6 => exact HC0_2.out); (case side7 => repeat (first | exact (Kd.C_below HR0_3.out HB.out) | (with_reducible refine Kd.C_alloc ?_ _) | (with_reducible refine Kd.C_drewN ?_ _) | (with_reducible refine Kd.C_drew ?_))); (case side8 => exact HC0_3.out); rintro e w17 ⟨rfl, hb⟩; refine ⟨_, rfl, ?_⟩; have n0_ := Aside0.mk (blk_below (kB BK351.out) hb); have n1_ := Aside0.mk (below_step bS hb); clear BK351; clear HB; have BK351 := n0_; have HB := n1_; clear n0_ n1_; (try clear hb); (try clear hb2); (try clear hk); (try clear hi)) | (go_at_call 69; (with_reducible refine (spec_l6Realm.calls a1 false _ A8.out).mono ?_); rintro e w' ⟨rfl, ⟨nd, rfl⟩⟩))
    go_meet
    case rel => exact ⟨_, (true), eX, H', ⟨by first | omega | exact Nat.le_refl _⟩, ⟨by (with_reducible repeat (first | refine blk_drewN ?_ _ | refine blk_drew ?_ | refine blk_alloc ?_ _)); exact BK351.out⟩, ⟨by repeat (first | (with_reducible first | exact HB.out | apply below_alloc | apply pw_below_drewN | apply below_drew1 | refine below_set ?_ GE351.out) | exact HB.out)⟩⟩
  ·replace c7 := Bool.eq_false_iff.mpr c7
   subst c7
   have H1 : (spec_NextHop.j0 k a1 a2 true l0_0 l0_1 l0_2 l0_3 a0_4) = some r := by rw [if_neg (show ¬ (false = true) by decide)] at H; exact H
   clear H
   have H := H1
   clear H1
   have H' := Aside0.mk H
   clear H
   have hcz18_0 : w5.cell? ⟨gb351, 0, none⟩ = some (.slice A0_0 l0_0.length c0_0) := (blk_cell BK351.out 0).trans rfl
   have hcz18_1 : w5.cell? ⟨gb351, 1, none⟩ = some (.slice A0_1 l0_1.length c0_1) := (blk_cell BK351.out 1).trans rfl
   have hcz18_2 : w5.cell? ⟨gb351, 2, none⟩ = some (.slice A0_2 l0_2.length c0_2) := (blk_cell BK351.out 2).trans rfl
   have hcz18_3 : w5.cell? ⟨gb351, 3, none⟩ = some (.slice A0_3 l0_3.length c0_3) := (blk_cell BK351.out 3).trans rfl
   have hcz18_4 : w5.cell? ⟨gb351, 4, none⟩ = some (.int .i64 a0_4) := (blk_cell BK351.out 4).trans rfl
   have hfz18_0 := blk_frozen BK351.out 0
   have hfz18_1 := blk_frozen BK351.out 1
   have hfz18_2 := blk_frozen BK351.out 2
   have hfz18_3 := blk_frozen BK351.out 3
   have hfz18_4 := blk_frozen BK351.out 4
   go_wp2_with (first | ((with_reducible refine gate_callee (f := 11) rfl ?_); refine goesL_ (some 11) rfl rfl Try.func11 (by kernel_rfl) rfl #[.agg #[.slice A0_0 l0_0.length c0_0, .slice A0_1 l0_1.length c0_1, .slice A0_2 l0_2.length c0_2, .slice A0_3 l0_3.length c0_3, .int .i64 a0_4]] rfl eA ?_; (with_reducible refine (spec_ConfigOk.calls k _ _ l0_0 _ _ l0_1 _ _ l0_2 _ _ l0_3 a0_4 false _ ?side1 ?side2 ?side3 ?side4 ?side5 ?side6 ?side7 ?side8 A6.out).mono ?_); (case side1 => repeat (first | exact (Kd.C_below HR0_0.out HB.out) | (with_reducible refine Kd.C_alloc ?_ _) | (with_reducible refine Kd.C_drewN ?_ _) | (with_reducible refine Kd.C_drew ?_))); (case side2 => exact HC0_0.out); (case side3 => repeat (first | exact (Kd.C_below HR0_1.out HB.out) | (with_reducible refine Kd.C_alloc ?_ _) | (with_reducible refine Kd.C_drewN ?_ _) | (with_reducible refine Kd.C_drew ?_))); (case side4 => exact HC0_1.out); (case side5 => repeat (first | exact (Kd.C_below HR0_2.out HB.out) | (with_reducible refine Kd.C_alloc ?_ _) | (with_reducible refine Kd.C_drewN ?_ _) | (with_reducible refine Kd.C_drew ?_))); (case side6 => exact HC0_2.out); (case side7 => repeat (first | exact (Kd.C_below HR0_3.out HB.out) | (with_reducible refine Kd.C_alloc ?_ _) | (with_reducible refine Kd.C_drewN ?_ _) | (with_reducible refine Kd.C_drew ?_))); (case side8 => exact HC0_3.out); rintro e w19 ⟨rfl, hb⟩; refine ⟨_, rfl, ?_⟩; have n0_ := Aside0.mk (blk_below (kB BK351.out) hb); have n1_ := Aside0.mk (below_step bS hb); clear BK351; clear HB; have BK351 := n0_; have HB := n1_; clear n0_ n1_; (try clear hb); (try clear hb2); (try clear hk); (try clear hi)))
   go_meet
   case rel => exact ⟨_, (true), eX, H', ⟨by first | omega | exact Nat.le_refl _⟩, ⟨by (with_reducible repeat (first | refine blk_drewN ?_ _ | refine blk_drew ?_ | refine blk_alloc ?_ _)); exact BK351.out⟩, ⟨by repeat (first | (with_reducible first | exact HB.out | apply below_alloc | apply pw_below_drewN | apply below_drew1 | refine below_set ?_ GE351.out) | exact HB.out)⟩⟩
 case rest =>
  clear HC4
  try clear c1
  try clear c2
  try clear p2
  try clear c7
  try clear c9
  try clear c11
  try clear hcz12_0
  try clear hcz12_1
  try clear hcz12_2
  try clear hcz12_3
  try clear hcz12_4
  try clear hcz14_0
  try clear hcz14_1
  try clear hcz14_2
  try clear hcz14_3
  try clear hcz14_4
  try clear hcz16_0
  try clear hcz16_1
  try clear hcz16_2
  try clear hcz16_3
  try clear hcz16_4
  try clear hcz18_0
  try clear hcz18_1
  try clear hcz18_2
  try clear hcz18_3
  try clear hcz18_4
  try clear hfz12_0
  try clear hfz12_1
  try clear hfz12_2
  try clear hfz12_3
  try clear hfz12_4
  try clear hfz14_0
  try clear hfz14_1
  try clear hfz14_2
  try clear hfz14_3
  try clear hfz14_4
  try clear hfz16_0
  try clear hfz16_1
  try clear hfz16_2
  try clear hfz16_3
  try clear hfz16_4
  try clear hfz18_0
  try clear hfz18_1
  try clear hfz18_2
  try clear hfz18_3
  try clear hfz18_4
  obtain ⟨kq, x27_3, rfl, HA, HJ3, BK351, HB⟩ := hcut
  cases kq with
  | zero => exact absurd HA.out (by simp [spec_NextHop.j0])
  | succ kj3 =>
   have H := HA.out
   clear HA
   simp only [spec_NextHop.j0] at H
   by_cases c20 : x27_3 = true
   ·subst c20
    have H1 : (some (-1)) = some r := by rw [if_pos rfl] at H; exact H
    clear H
    have H := H1
    clear H1
    obtain rfl := Option.some.inj H
    go_wp2
    go_ret
    exact ⟨eE, bS⟩
   ·replace c20 := Bool.eq_false_iff.mpr c20
    subst c20
    have H1 : ((spec_l6Far.f kj3 l0_0 l0_1 l0_2 l0_3 a0_4 a2).bind fun t355 => (spec_NextHop.l0 kj3 a1 t355 (-1) 0 l0_0 l0_1 l0_2 l0_3 a0_4)) = some r := by rw [if_neg (show ¬ (false = true) by decide)] at H; exact H
    clear H
    have H := H1
    clear H1
    replace H := Option.bind_eq_some_iff.mp H
    obtain ⟨t355, A210, H⟩ := H
    replace H : (spec_NextHop.l0 kj3 a1 t355 (-1) 0 l0_0 l0_1 l0_2 l0_3 a0_4) = some r := H
    have A21 := Aside0.mk A210
    clear A210
    have H' := Aside0.mk H
    clear H
    have hcz22_0 : wc.cell? ⟨gb351, 0, none⟩ = some (.slice A0_0 l0_0.length c0_0) := (blk_cell BK351.out 0).trans rfl
    have hcz22_1 : wc.cell? ⟨gb351, 1, none⟩ = some (.slice A0_1 l0_1.length c0_1) := (blk_cell BK351.out 1).trans rfl
    have hcz22_2 : wc.cell? ⟨gb351, 2, none⟩ = some (.slice A0_2 l0_2.length c0_2) := (blk_cell BK351.out 2).trans rfl
    have hcz22_3 : wc.cell? ⟨gb351, 3, none⟩ = some (.slice A0_3 l0_3.length c0_3) := (blk_cell BK351.out 3).trans rfl
    have hcz22_4 : wc.cell? ⟨gb351, 4, none⟩ = some (.int .i64 a0_4) := (blk_cell BK351.out 4).trans rfl
    have hfz22_0 := blk_frozen BK351.out 0
    have hfz22_1 := blk_frozen BK351.out 1
    have hfz22_2 := blk_frozen BK351.out 2
    have hfz22_3 := blk_frozen BK351.out 3
    have hfz22_4 := blk_frozen BK351.out 4
    go_wp2_with (first | ((with_reducible refine gate_callee (f := 70) rfl ?_); refine goesL_ (some 30) rfl rfl Try.func70 (by kernel_rfl) rfl #[.agg #[.slice A0_0 l0_0.length c0_0, .slice A0_1 l0_1.length c0_1, .slice A0_2 l0_2.length c0_2, .slice A0_3 l0_3.length c0_3, .int .i64 a0_4], .int .i64 a2] rfl eA ?_; (with_reducible refine (spec_l6Far.calls kj3 _ _ l0_0 _ _ l0_1 _ _ l0_2 _ _ l0_3 a0_4 a2 t355 _ ?side1 ?side2 ?side3 ?side4 ?side5 ?side6 ?side7 ?side8 A21.out).mono ?_); (case side1 => repeat (first | exact (Kd.C_below HR0_0.out HB.out) | (with_reducible refine Kd.C_alloc ?_ _) | (with_reducible refine Kd.C_drewN ?_ _) | (with_reducible refine Kd.C_drew ?_))); (case side2 => exact HC0_0.out); (case side3 => repeat (first | exact (Kd.C_below HR0_1.out HB.out) | (with_reducible refine Kd.C_alloc ?_ _) | (with_reducible refine Kd.C_drewN ?_ _) | (with_reducible refine Kd.C_drew ?_))); (case side4 => exact HC0_1.out); (case side5 => repeat (first | exact (Kd.C_below HR0_2.out HB.out) | (with_reducible refine Kd.C_alloc ?_ _) | (with_reducible refine Kd.C_drewN ?_ _) | (with_reducible refine Kd.C_drew ?_))); (case side6 => exact HC0_2.out); (case side7 => repeat (first | exact (Kd.C_below HR0_3.out HB.out) | (with_reducible refine Kd.C_alloc ?_ _) | (with_reducible refine Kd.C_drewN ?_ _) | (with_reducible refine Kd.C_drew ?_))); (case side8 => exact HC0_3.out); rintro e w23 ⟨v356, rfl, ho0, hb⟩; refine ⟨_, rfl, ?_⟩; have n0_ := Aside0.mk (Kd.R_lower ho0 (below_size bS)); have n1_ := Aside0.mk (blk_below (kB BK351.out) hb); have n2_ := Aside0.mk (below_step bS hb); clear BK351; clear HB; have HO357 := n0_; have BK351 := n1_; have HB := n2_; clear n0_ n1_ n2_; (try clear hb); (try clear hb2); (try clear hk); (try clear hi); (try clear ho0)))
    go_loopg [8, 9] kj3 (fun kq v8 v9 w' => ∃ (x8_2 : Int) (x9_2 : Int), v8 = .int .i64 x8_2 ∧ v9 = .int .i64 x9_2 ∧ Aside0 (spec_NextHop.l0 kq a1 t355 x8_2 x9_2 l0_0 l0_1 l0_2 l0_3 a0_4 = some r) ∧ Aside0 (kq ≤ kj3) ∧ Aside0 (Kd.R (Kd.int .i64) 3 w' w.heap.size (fun _ => True) v356 t355) ∧ Aside0 (w'.heap[gb351]? = some (.cells #[(.slice A0_0 l0_0.length c0_0), (.slice A0_1 l0_1.length c0_1), (.slice A0_2 l0_2.length c0_2), (.slice A0_3 l0_3.length c0_3), .int .i64 a0_4] 30 (0, 0))) ∧ Aside0 (Below w.heap.size w w'))
    case atStart => exact ⟨((-1)), (0), eX, eX, H', ⟨Nat.le_refl _⟩, ⟨by (with_reducible repeat (first | apply Kd.R_alloc | apply Kd.R_drewN | apply Kd.R_drew)); exact HO357.out⟩, ⟨by (with_reducible repeat (first | refine blk_drewN ?_ _ | refine blk_drew ?_ | refine blk_alloc ?_ _)); exact BK351.out⟩, ⟨by repeat (first | (with_reducible first | exact HB.out | apply below_alloc | apply pw_below_drewN | apply below_drew1 | refine below_set ?_ GE351.out) | exact HB.out)⟩⟩
    case round =>
     clear H'
     try clear c1
     try clear c2
     try clear p2
     try clear c7
     try clear c9
     try clear c11
     try clear c20
     try clear hcz12_0
     try clear hcz12_1
     try clear hcz12_2
     try clear hcz12_3
     try clear hcz12_4
     try clear hcz14_0
     try clear hcz14_1
     try clear hcz14_2
     try clear hcz14_3
     try clear hcz14_4
     try clear hcz16_0
     try clear hcz16_1
     try clear hcz16_2
     try clear hcz16_3
     try clear hcz16_4
     try clear hcz18_0
     try clear hcz18_1
     try clear hcz18_2
     try clear hcz18_3
     try clear hcz18_4
     try clear hcz22_0
     try clear hcz22_1
     try clear hcz22_2
     try clear hcz22_3
     try clear hcz22_4
     try clear hfz12_0
     try clear hfz12_1
     try clear hfz12_2
     try clear hfz12_3
     try clear hfz12_4
     try clear hfz14_0
     try clear hfz14_1
     try clear hfz14_2
     try clear hfz14_3
     try clear hfz14_4
     try clear hfz16_0
     try clear hfz16_1
     try clear hfz16_2
     try clear hfz16_3
     try clear hfz16_4
     try clear hfz18_0
     try clear hfz18_1
     try clear hfz18_2
     try clear hfz18_3
     try clear hfz18_4
     try clear hfz22_0
     try clear hfz22_1
     try clear hfz22_2
     try clear hfz22_3
     try clear hfz22_4
     try clear p2
     obtain ⟨x8_2, x9_2, rfl, rfl, HA, HK2, HO_7, BK351, HB⟩ := hrel
     cases gk with
     | zero => exact absurd HA.out (by simp [spec_NextHop.l0])
     | succ k2 =>
      have H := HA.out
      clear HA
      simp only [spec_NextHop.l0] at H
      by_cases c24 : x9_2 < 3
      ·rw [if_pos c24] at H
       have c24b0 : decide (x9_2 < 3) = true := decide_eq_true c24
       clear c24
       replace H := Option.bind_eq_some_iff.mp H
       obtain ⟨t358, A250, H⟩ := H
       replace H : (if t358 = true then (if 0 ≤ x9_2 then (if x9_2 < (t355.length : Int) then (if (rd t355 x9_2) < 3 then (if x8_2 < 0 then (spec_NextHop.l0 k2 a1 t355 x9_2 (wrap64 (x9_2 + 1)) l0_0 l0_1 l0_2 l0_3 a0_4) else (if 0 ≤ x8_2 then (if x8_2 < (t355.length : Int) then (if (rd t355 x9_2) < (rd t355 x8_2) then (spec_NextHop.l0 k2 a1 t355 x9_2 (wrap64 (x9_2 + 1)) l0_0 l0_1 l0_2 l0_3 a0_4) else (spec_NextHop.l0 k2 a1 t355 x8_2 (wrap64 (x9_2 + 1)) l0_0 l0_1 l0_2 l0_3 a0_4)) else (none)) else (none))) else (spec_NextHop.l0 k2 a1 t355 x8_2 (wrap64 (x9_2 + 1)) l0_0 l0_1 l0_2 l0_3 a0_4)) else (none)) else (none)) else (spec_NextHop.l0 k2 a1 t355 x8_2 (wrap64 (x9_2 + 1)) l0_0 l0_1 l0_2 l0_3 a0_4)) = some r := H
       have A25 := Aside0.mk A250
       clear A250
       by_cases c26 : t358 = true
       ·subst c26
        have H1 : (if 0 ≤ x9_2 then (if x9_2 < (t355.length : Int) then (if (rd t355 x9_2) < 3 then (if x8_2 < 0 then (spec_NextHop.l0 k2 a1 t355 x9_2 (wrap64 (x9_2 + 1)) l0_0 l0_1 l0_2 l0_3 a0_4) else (if 0 ≤ x8_2 then (if x8_2 < (t355.length : Int) then (if (rd t355 x9_2) < (rd t355 x8_2) then (spec_NextHop.l0 k2 a1 t355 x9_2 (wrap64 (x9_2 + 1)) l0_0 l0_1 l0_2 l0_3 a0_4) else (spec_NextHop.l0 k2 a1 t355 x8_2 (wrap64 (x9_2 + 1)) l0_0 l0_1 l0_2 l0_3 a0_4)) else (none)) else (none))) else (spec_NextHop.l0 k2 a1 t355 x8_2 (wrap64 (x9_2 + 1)) l0_0 l0_1 l0_2 l0_3 a0_4)) else (none)) else (none)) = some r := by rw [if_pos rfl] at H; exact H
        clear H
        have H := H1
        clear H1
        by_cases c27 : 0 ≤ x9_2
        ·rw [if_pos c27] at H
         have c27b0 : decide (0 ≤ x9_2) = true := decide_eq_true c27
         clear c27
         by_cases c28 : x9_2 < (t355.length : Int)
         ·rw [if_pos c28] at H
          have c28b0 : decide (x9_2 < (t355.length : Int)) = true := decide_eq_true c28
          clear c28
          by_cases c29 : (rd t355 x9_2) < 3
          ·rw [if_pos c29] at H
           have c29b0 : decide ((rd t355 x9_2) < 3) = true := decide_eq_true c29
           clear c29
           by_cases c30 : x8_2 < 0
           ·rw [if_pos c30] at H
            have c30b0 : decide (x8_2 < 0) = true := decide_eq_true c30
            clear c30
            have H' := Aside0.mk H
            clear H
            try go_wp2
            have n0_ := Aside0.mk (Kd.R_drew HO_7.out)
            have n1_ := Aside0.mk (blk_drew BK351.out)
            have n2_ := Aside0.mk (below_drew1 HB.out)
            clear HO_7 BK351 HB
            have HO_7 := n0_
            have BK351 := n1_
            have HB := n2_
            clear n0_ n1_ n2_
            have p359 : 0 ≤ (x9_2 : Int) := of_decide_eq_true aA
            have q359 : x9_2 < (t355.length : Int) := of_decide_eq_true aA
            (try (obtain ⟨Aq359, cq359, eq359⟩ := Kd.R_slice HO_7.out; subst eq359))
            obtain ⟨ad359, e359, hx359_0⟩ := Kd.at_int (Kd.R_reads' HO_7.out).2.2 x9_2 p359 q359
            cases e359
            replace p359 := eq_true p359
            replace q359 := eq_true q359
            refine start_ (n := 28) (S := fun w' => w'.cell? ⟨gb351, 0, none⟩ = some (.slice A0_0 l0_0.length c0_0) ∧ w'.cell? ⟨gb351, 1, none⟩ = some (.slice A0_1 l0_1.length c0_1) ∧ w'.cell? ⟨gb351, 2, none⟩ = some (.slice A0_2 l0_2.length c0_2) ∧ w'.cell? ⟨gb351, 3, none⟩ = some (.slice A0_3 l0_3.length c0_3) ∧ w'.cell? ⟨gb351, 4, none⟩ = some (.int .i64 a0_4) ∧ w'.cell? (ad359.add (x9_2).toNat) = some (.int .i64 (rd t355 x9_2))) (ds := []) _ (by kernel_rfl) rfl rfl ⟨(blk_cell BK351.out 0).trans rfl, (blk_cell BK351.out 1).trans rfl, (blk_cell BK351.out 2).trans rfl, (blk_cell BK351.out 3).trans rfl, (blk_cell BK351.out 4).trans rfl, hx359_0⟩ (fun hHeld => ?_); refine with_tabW spec_NextHop.tab8 spec_NextHop.bits8 (fun HT_ HW_ => ?_)
            generalize wr.drew = w31 at HO_7 BK351 HB hx359_0 hHeld ⊢
            refine pU HT_ 0 (some 35) (mk 28 1) rfl rfl (h := ?_)
            refine pU HT_ 2 (some 37) (mk 28 5) rfl rfl (h := ?_)
            refine pU HT_ 3 (some 38) (mk 28 13) rfl rfl (h := ?_)
            refine pU HT_ 4 (some 39) (mk 28 29) rfl rfl (h := ?_)
            refine tU HT_ HW_ 1 (some 36) (mk 28 31) hHeld rfl rfl (by rintro w' ⟨s0, s1, s2, s3, s4, s5⟩; go_simp; with_reducible rfl) (h := ?_)
            refine one_ (i := 5) (N := some 40) (mk 28 63) rfl rfl (one_of HT_.out (by kernel_rfl)) (by decide) (fun K hK => ?_)
            refine goes_ Try.func71 (by kernel_rfl) rfl #[.slice A0_2 l0_2.length c0_2, .agg #[.int .i64 a1, .int .i64 x9_2]] (by rfl) rfl rfl eA ?_
            with_reducible refine (spec_l6Has.calls k2 _ _ l0_2 a1 x9_2 true _ ?side1 ?side2 A25.out).mono ?_
            (case side1 => repeat (first | exact (Kd.C_below HR0_2.out HB.out) | (with_reducible refine Kd.C_alloc ?_ _) | (with_reducible refine Kd.C_drewN ?_ _) | (with_reducible refine Kd.C_drew ?_)))
            (case side2 => exact HC0_2.out)
            rintro e w32 ⟨rfl, hb⟩
            have HS5_ := (hb.cell (World.block_lt_of_cell? _ _ (hHeld.2.2.2.2.2))).trans (hHeld.2.2.2.2.2)
            refine ⟨_, rfl, ?_⟩
            have n0_ := Aside0.mk (Kd.R_below (kR HO_7.out) hb)
            have n1_ := Aside0.mk (blk_below (kB BK351.out) hb)
            have n2_ := Aside0.mk (below_step bS hb)
            clear HO_7 BK351 HB
            have HO_7 := n0_
            have BK351 := n1_
            have HB := n2_
            clear n0_ n1_ n2_
            (try clear hb)
            (try clear hb2)
            (try clear hk)
            (try clear hi)
            obtain ⟨Ao33, co33, eo33⟩ := Kd.R_slice HO_7.out
            (first | subst eo33 | (injection eo33 with f1_ f2_ f3_; have f4_ := f1_.symm; have f5_ := f3_.symm; clear f1_ f2_ f3_; subst f4_; subst f5_))
            refine hK.out _ _ ⟨(blk_cell BK351.out 0).trans rfl, (blk_cell BK351.out 1).trans rfl, (blk_cell BK351.out 2).trans rfl, (blk_cell BK351.out 3).trans rfl, (blk_cell BK351.out 4).trans rfl, HS5_⟩ (fun hHeld => ?_)
            clear hK K
            refine norm_ (a' := ?_) ?_ ?_
            rotate_left
            ·show Act.put _ (some 40) _ = _
             simp only [Act.put, List.setIfInBounds_toArray, List.set_cons_zero, List.set_cons_succ, i64_w, i32_w]
             rfl
            refine pU HT_ 6 (some 41) (mk 28 127) rfl rfl (h := ?_)
            refine pU HT_ 7 (some 42) (mk 28 255) rfl rfl (h := ?_)
            refine pU HT_ 8 (some 43) (mk 28 511) rfl rfl (h := ?_)
            refine pU HT_ 9 (some 44) (mk 28 1023) rfl rfl (h := ?_)
            refine tU HT_ HW_ 10 (some 45) (mk 28 2047) hHeld rfl rfl (by rintro w' ⟨s0, s1, s2, s3, s4, s5⟩; go_simp; with_reducible rfl) (h := ?_)
            refine pU HT_ 11 (some 46) (mk 28 4095) rfl rfl (h := ?_)
            refine pU HT_ 12 (some 47) (mk 28 8191) rfl rfl (h := ?_)
            refine pU HT_ 13 (some 48) (mk 28 16383) rfl rfl (h := ?_)
            refine pU HT_ 14 (some 49) (mk 28 32767) rfl rfl (h := ?_)
            refine pU HT_ 15 (some 50) (mk 28 65535) rfl rfl (h := ?_)
            refine pU HT_ 16 (some 51) (mk 28 131071) rfl rfl (h := ?_)
            refine pN HT_ 17 (some 52) (mk 28 262143) rfl rfl (h := ?_)
            refine pN HT_ 18 (some 53) (mk 28 524287) rfl rfl (h := ?_)
            refine pN HT_ 19 (some 54) (mk 28 1048575) rfl rfl (h := ?_)
            refine pN HT_ 20 (some 55) (mk 28 2097151) rfl rfl (h := ?_)
            refine pN HT_ 21 (some 56) (mk 28 4194303) rfl rfl (h := ?_)
            refine pN HT_ 22 (some 57) (mk 28 8388607) rfl rfl (h := ?_)
            refine pN HT_ 23 (some 58) (mk 28 16777215) rfl rfl (h := ?_)
            refine pN HT_ 24 (some 59) (mk 28 33554431) rfl rfl (h := ?_)
            refine pN HT_ 25 (some 60) (mk 28 67108863) rfl rfl (h := ?_)
            refine pU HT_ 26 (some 61) (mk 28 134217727) rfl rfl (h := ?_)
            refine pU HT_ 27 (some 62) (mk 28 268435455) rfl rfl (h := ?_)
            refine done_ (done_of HT_.out (by kernel_rfl)) ?_
            try go_wp2
            go_roundg k2
            case measure => have := HJ3.out; have := HK2.out; omega
            case rel => exact ⟨(x9_2), (wrap64 (x9_2 + 1)), eX, eX, H', ⟨by have := HJ3.out; have := HK2.out; omega⟩, ⟨by (with_reducible repeat (first | apply Kd.R_alloc | apply Kd.R_drewN | apply Kd.R_drew)); exact HO_7.out⟩, ⟨by (with_reducible repeat (first | refine blk_drewN ?_ _ | refine blk_drew ?_ | refine blk_alloc ?_ _)); exact BK351.out⟩, ⟨by repeat (first | (with_reducible first | exact HB.out | apply below_alloc | apply pw_below_drewN | apply below_drew1 | refine below_set ?_ GE351.out) | exact HB.out)⟩⟩
           ·rw [if_neg c30] at H
            have c30b0 : decide (x8_2 < 0) = false := decide_eq_false c30
            clear c30
            by_cases c34 : 0 ≤ x8_2
            ·rw [if_pos c34] at H
             have c34b0 : decide (0 ≤ x8_2) = true := decide_eq_true c34
             clear c34
             by_cases c35 : x8_2 < (t355.length : Int)
             ·rw [if_pos c35] at H
              have c35b0 : decide (x8_2 < (t355.length : Int)) = true := decide_eq_true c35
              clear c35
              by_cases c36 : (rd t355 x9_2) < (rd t355 x8_2)
              ·rw [if_pos c36] at H
               have c36b0 : decide ((rd t355 x9_2) < (rd t355 x8_2)) = true := decide_eq_true c36
               clear c36
               have H' := Aside0.mk H
               clear H
               try go_wp2
               have n0_ := Aside0.mk (Kd.R_drew HO_7.out)
               have n1_ := Aside0.mk (blk_drew BK351.out)
               have n2_ := Aside0.mk (below_drew1 HB.out)
               clear HO_7 BK351 HB
               have HO_7 := n0_
               have BK351 := n1_
               have HB := n2_
               clear n0_ n1_ n2_
               have p359 : 0 ≤ (x9_2 : Int) := of_decide_eq_true aA
               have q359 : x9_2 < (t355.length : Int) := of_decide_eq_true aA
               (try (obtain ⟨Aq359, cq359, eq359⟩ := Kd.R_slice HO_7.out; subst eq359))
               obtain ⟨ad359, e359, hx359_0⟩ := Kd.at_int (Kd.R_reads' HO_7.out).2.2 x9_2 p359 q359
               cases e359
               replace p359 := eq_true p359
               replace q359 := eq_true q359
               have p360 : 0 ≤ (x9_2 : Int) := of_decide_eq_true aA
               have q360 : x9_2 < (t355.length : Int) := of_decide_eq_true aA
               (try (obtain ⟨Aq360, cq360, eq360⟩ := Kd.R_slice HO_7.out; subst eq360))
               obtain ⟨ad360, e360, hx360_0⟩ := Kd.at_int (Kd.R_reads' HO_7.out).2.2 x9_2 p360 q360
               obtain rfl : ad359 = ad360 := (by injection e360)
               replace p360 := eq_true p360
               replace q360 := eq_true q360
               have p361 : 0 ≤ (x8_2 : Int) := of_decide_eq_true aA
               have q361 : x8_2 < (t355.length : Int) := of_decide_eq_true aA
               (try (obtain ⟨Aq361, cq361, eq361⟩ := Kd.R_slice HO_7.out; subst eq361))
               obtain ⟨ad361, e361, hx361_0⟩ := Kd.at_int (Kd.R_reads' HO_7.out).2.2 x8_2 p361 q361
               obtain rfl : ad359 = ad361 := (by injection e361)
               replace p361 := eq_true p361
               replace q361 := eq_true q361
               refine start_ (n := 28) (S := fun w' => w'.cell? ⟨gb351, 0, none⟩ = some (.slice A0_0 l0_0.length c0_0) ∧ w'.cell? ⟨gb351, 1, none⟩ = some (.slice A0_1 l0_1.length c0_1) ∧ w'.cell? ⟨gb351, 2, none⟩ = some (.slice A0_2 l0_2.length c0_2) ∧ w'.cell? ⟨gb351, 3, none⟩ = some (.slice A0_3 l0_3.length c0_3) ∧ w'.cell? ⟨gb351, 4, none⟩ = some (.int .i64 a0_4) ∧ w'.cell? (ad359.add (x9_2).toNat) = some (.int .i64 (rd t355 x9_2)) ∧ w'.cell? (ad359.add (x9_2).toNat) = some (.int .i64 (rd t355 x9_2)) ∧ w'.cell? (ad359.add (x8_2).toNat) = some (.int .i64 (rd t355 x8_2))) (ds := []) _ (by kernel_rfl) rfl rfl ⟨(blk_cell BK351.out 0).trans rfl, (blk_cell BK351.out 1).trans rfl, (blk_cell BK351.out 2).trans rfl, (blk_cell BK351.out 3).trans rfl, (blk_cell BK351.out 4).trans rfl, hx359_0, hx360_0, hx361_0⟩ (fun hHeld => ?_); refine with_tabW spec_NextHop.tab8 spec_NextHop.bits8 (fun HT_ HW_ => ?_)
               generalize wr.drew = w37 at HO_7 BK351 HB hx359_0 hx360_0 hx361_0 hHeld ⊢
               refine pU HT_ 0 (some 35) (mk 28 1) rfl rfl (h := ?_)
               refine pU HT_ 2 (some 37) (mk 28 5) rfl rfl (h := ?_)
               refine pU HT_ 3 (some 38) (mk 28 13) rfl rfl (h := ?_)
               refine pU HT_ 4 (some 39) (mk 28 29) rfl rfl (h := ?_)
               refine tU HT_ HW_ 1 (some 36) (mk 28 31) hHeld rfl rfl (by rintro w' ⟨s0, s1, s2, s3, s4, s5, s6, s7⟩; go_simp; with_reducible rfl) (h := ?_)
               refine one_ (i := 5) (N := some 40) (mk 28 63) rfl rfl (one_of HT_.out (by kernel_rfl)) (by decide) (fun K hK => ?_)
               refine goes_ Try.func71 (by kernel_rfl) rfl #[.slice A0_2 l0_2.length c0_2, .agg #[.int .i64 a1, .int .i64 x9_2]] (by rfl) rfl rfl eA ?_
               with_reducible refine (spec_l6Has.calls k2 _ _ l0_2 a1 x9_2 true _ ?side1 ?side2 A25.out).mono ?_
               (case side1 => repeat (first | exact (Kd.C_below HR0_2.out HB.out) | (with_reducible refine Kd.C_alloc ?_ _) | (with_reducible refine Kd.C_drewN ?_ _) | (with_reducible refine Kd.C_drew ?_)))
               (case side2 => exact HC0_2.out)
               rintro e w38 ⟨rfl, hb⟩
               have HS5_ := (hb.cell (World.block_lt_of_cell? _ _ (hHeld.2.2.2.2.2.1))).trans (hHeld.2.2.2.2.2.1)
               have HS6_ := (hb.cell (World.block_lt_of_cell? _ _ (hHeld.2.2.2.2.2.2.1))).trans (hHeld.2.2.2.2.2.2.1)
               have HS7_ := (hb.cell (World.block_lt_of_cell? _ _ (hHeld.2.2.2.2.2.2.2))).trans (hHeld.2.2.2.2.2.2.2)
               refine ⟨_, rfl, ?_⟩
               have n0_ := Aside0.mk (Kd.R_below (kR HO_7.out) hb)
               have n1_ := Aside0.mk (blk_below (kB BK351.out) hb)
               have n2_ := Aside0.mk (below_step bS hb)
               clear HO_7 BK351 HB
               have HO_7 := n0_
               have BK351 := n1_
               have HB := n2_
               clear n0_ n1_ n2_
               (try clear hb)
               (try clear hb2)
               (try clear hk)
               (try clear hi)
               obtain ⟨Ao39, co39, eo39⟩ := Kd.R_slice HO_7.out
               (first | subst eo39 | (injection eo39 with f1_ f2_ f3_; have f4_ := f1_.symm; have f5_ := f3_.symm; clear f1_ f2_ f3_; subst f4_; subst f5_))
               refine hK.out _ _ ⟨(blk_cell BK351.out 0).trans rfl, (blk_cell BK351.out 1).trans rfl, (blk_cell BK351.out 2).trans rfl, (blk_cell BK351.out 3).trans rfl, (blk_cell BK351.out 4).trans rfl, HS5_, HS6_, HS7_⟩ (fun hHeld => ?_)
               clear hK K
               refine norm_ (a' := ?_) ?_ ?_
               rotate_left
               ·show Act.put _ (some 40) _ = _
                simp only [Act.put, List.setIfInBounds_toArray, List.set_cons_zero, List.set_cons_succ, i64_w, i32_w]
                rfl
               refine pU HT_ 6 (some 41) (mk 28 127) rfl rfl (h := ?_)
               refine pU HT_ 7 (some 42) (mk 28 255) rfl rfl (h := ?_)
               refine pU HT_ 8 (some 43) (mk 28 511) rfl rfl (h := ?_)
               refine pU HT_ 9 (some 44) (mk 28 1023) rfl rfl (h := ?_)
               refine tU HT_ HW_ 10 (some 45) (mk 28 2047) hHeld rfl rfl (by rintro w' ⟨s0, s1, s2, s3, s4, s5, s6, s7⟩; go_simp; with_reducible rfl) (h := ?_)
               refine pU HT_ 11 (some 46) (mk 28 4095) rfl rfl (h := ?_)
               refine pU HT_ 12 (some 47) (mk 28 8191) rfl rfl (h := ?_)
               refine pU HT_ 13 (some 48) (mk 28 16383) rfl rfl (h := ?_)
               refine pU HT_ 14 (some 49) (mk 28 32767) rfl rfl (h := ?_)
               refine pU HT_ 15 (some 50) (mk 28 65535) rfl rfl (h := ?_)
               refine pU HT_ 16 (some 51) (mk 28 131071) rfl rfl (h := ?_)
               refine pU HT_ 17 (some 52) (mk 28 262143) rfl rfl (h := ?_)
               refine pU HT_ 18 (some 53) (mk 28 524287) rfl rfl (h := ?_)
               refine pU HT_ 19 (some 54) (mk 28 1048575) rfl rfl (h := ?_)
               refine pU HT_ 21 (some 56) (mk 28 3145727) rfl rfl (h := ?_)
               refine pU HT_ 22 (some 57) (mk 28 7340031) rfl rfl (h := ?_)
               refine pU HT_ 23 (some 58) (mk 28 15728639) rfl rfl (h := ?_)
               refine tU HT_ HW_ 20 (some 55) (mk 28 16777215) hHeld rfl rfl (by rintro w' ⟨s0, s1, s2, s3, s4, s5, s6, s7⟩; go_simp; with_reducible rfl) (h := ?_)
               refine tU HT_ HW_ 24 (some 59) (mk 28 33554431) hHeld rfl rfl (by rintro w' ⟨s0, s1, s2, s3, s4, s5, s6, s7⟩; go_simp; with_reducible rfl) (h := ?_)
               refine pU HT_ 25 (some 60) (mk 28 67108863) rfl rfl (h := ?_)
               refine pU HT_ 26 (some 61) (mk 28 134217727) rfl rfl (h := ?_)
               refine pU HT_ 27 (some 62) (mk 28 268435455) rfl rfl (h := ?_)
               refine done_ (done_of HT_.out (by kernel_rfl)) ?_
               try go_wp2
               go_roundg k2
               case measure => have := HJ3.out; have := HK2.out; omega
               case rel => exact ⟨(x9_2), (wrap64 (x9_2 + 1)), eX, eX, H', ⟨by have := HJ3.out; have := HK2.out; omega⟩, ⟨by (with_reducible repeat (first | apply Kd.R_alloc | apply Kd.R_drewN | apply Kd.R_drew)); exact HO_7.out⟩, ⟨by (with_reducible repeat (first | refine blk_drewN ?_ _ | refine blk_drew ?_ | refine blk_alloc ?_ _)); exact BK351.out⟩, ⟨by repeat (first | (with_reducible first | exact HB.out | apply below_alloc | apply pw_below_drewN | apply below_drew1 | refine below_set ?_ GE351.out) | exact HB.out)⟩⟩
              ·rw [if_neg c36] at H
               have c36b0 : decide ((rd t355 x9_2) < (rd t355 x8_2)) = false := decide_eq_false c36
               clear c36
               have H' := Aside0.mk H
               clear H
               try go_wp2
               have n0_ := Aside0.mk (Kd.R_drew HO_7.out)
               have n1_ := Aside0.mk (blk_drew BK351.out)
               have n2_ := Aside0.mk (below_drew1 HB.out)
               clear HO_7 BK351 HB
               have HO_7 := n0_
               have BK351 := n1_
               have HB := n2_
               clear n0_ n1_ n2_
               have p359 : 0 ≤ (x9_2 : Int) := of_decide_eq_true aA
               have q359 : x9_2 < (t355.length : Int) := of_decide_eq_true aA
               (try (obtain ⟨Aq359, cq359, eq359⟩ := Kd.R_slice HO_7.out; subst eq359))
               obtain ⟨ad359, e359, hx359_0⟩ := Kd.at_int (Kd.R_reads' HO_7.out).2.2 x9_2 p359 q359
               cases e359
               replace p359 := eq_true p359
               replace q359 := eq_true q359
               have p360 : 0 ≤ (x9_2 : Int) := of_decide_eq_true aA
               have q360 : x9_2 < (t355.length : Int) := of_decide_eq_true aA
               (try (obtain ⟨Aq360, cq360, eq360⟩ := Kd.R_slice HO_7.out; subst eq360))
               obtain ⟨ad360, e360, hx360_0⟩ := Kd.at_int (Kd.R_reads' HO_7.out).2.2 x9_2 p360 q360
               obtain rfl : ad359 = ad360 := (by injection e360)
               replace p360 := eq_true p360
               replace q360 := eq_true q360
               have p361 : 0 ≤ (x8_2 : Int) := of_decide_eq_true aA
               have q361 : x8_2 < (t355.length : Int) := of_decide_eq_true aA
               (try (obtain ⟨Aq361, cq361, eq361⟩ := Kd.R_slice HO_7.out; subst eq361))
               obtain ⟨ad361, e361, hx361_0⟩ := Kd.at_int (Kd.R_reads' HO_7.out).2.2 x8_2 p361 q361
               obtain rfl : ad359 = ad361 := (by injection e361)
               replace p361 := eq_true p361
               replace q361 := eq_true q361
               refine start_ (n := 28) (S := fun w' => w'.cell? ⟨gb351, 0, none⟩ = some (.slice A0_0 l0_0.length c0_0) ∧ w'.cell? ⟨gb351, 1, none⟩ = some (.slice A0_1 l0_1.length c0_1) ∧ w'.cell? ⟨gb351, 2, none⟩ = some (.slice A0_2 l0_2.length c0_2) ∧ w'.cell? ⟨gb351, 3, none⟩ = some (.slice A0_3 l0_3.length c0_3) ∧ w'.cell? ⟨gb351, 4, none⟩ = some (.int .i64 a0_4) ∧ w'.cell? (ad359.add (x9_2).toNat) = some (.int .i64 (rd t355 x9_2)) ∧ w'.cell? (ad359.add (x9_2).toNat) = some (.int .i64 (rd t355 x9_2)) ∧ w'.cell? (ad359.add (x8_2).toNat) = some (.int .i64 (rd t355 x8_2))) (ds := []) _ (by kernel_rfl) rfl rfl ⟨(blk_cell BK351.out 0).trans rfl, (blk_cell BK351.out 1).trans rfl, (blk_cell BK351.out 2).trans rfl, (blk_cell BK351.out 3).trans rfl, (blk_cell BK351.out 4).trans rfl, hx359_0, hx360_0, hx361_0⟩ (fun hHeld => ?_); refine with_tabW spec_NextHop.tab8 spec_NextHop.bits8 (fun HT_ HW_ => ?_)
               generalize wr.drew = w40 at HO_7 BK351 HB hx359_0 hx360_0 hx361_0 hHeld ⊢
               refine pU HT_ 0 (some 35) (mk 28 1) rfl rfl (h := ?_)
               refine pU HT_ 2 (some 37) (mk 28 5) rfl rfl (h := ?_)
               refine pU HT_ 3 (some 38) (mk 28 13) rfl rfl (h := ?_)
               refine pU HT_ 4 (some 39) (mk 28 29) rfl rfl (h := ?_)
               refine tU HT_ HW_ 1 (some 36) (mk 28 31) hHeld rfl rfl (by rintro w' ⟨s0, s1, s2, s3, s4, s5, s6, s7⟩; go_simp; with_reducible rfl) (h := ?_)
               refine one_ (i := 5) (N := some 40) (mk 28 63) rfl rfl (one_of HT_.out (by kernel_rfl)) (by decide) (fun K hK => ?_)
               refine goes_ Try.func71 (by kernel_rfl) rfl #[.slice A0_2 l0_2.length c0_2, .agg #[.int .i64 a1, .int .i64 x9_2]] (by rfl) rfl rfl eA ?_
               with_reducible refine (spec_l6Has.calls k2 _ _ l0_2 a1 x9_2 true _ ?side1 ?side2 A25.out).mono ?_
               (case side1 => repeat (first | exact (Kd.C_below HR0_2.out HB.out) | (with_reducible refine Kd.C_alloc ?_ _) | (with_reducible refine Kd.C_drewN ?_ _) | (with_reducible refine Kd.C_drew ?_)))
               (case side2 => exact HC0_2.out)
               rintro e w41 ⟨rfl, hb⟩
               have HS5_ := (hb.cell (World.block_lt_of_cell? _ _ (hHeld.2.2.2.2.2.1))).trans (hHeld.2.2.2.2.2.1)
               have HS6_ := (hb.cell (World.block_lt_of_cell? _ _ (hHeld.2.2.2.2.2.2.1))).trans (hHeld.2.2.2.2.2.2.1)
               have HS7_ := (hb.cell (World.block_lt_of_cell? _ _ (hHeld.2.2.2.2.2.2.2))).trans (hHeld.2.2.2.2.2.2.2)
               refine ⟨_, rfl, ?_⟩
               have n0_ := Aside0.mk (Kd.R_below (kR HO_7.out) hb)
               have n1_ := Aside0.mk (blk_below (kB BK351.out) hb)
               have n2_ := Aside0.mk (below_step bS hb)
               clear HO_7 BK351 HB
               have HO_7 := n0_
               have BK351 := n1_
               have HB := n2_
               clear n0_ n1_ n2_
               (try clear hb)
               (try clear hb2)
               (try clear hk)
               (try clear hi)
               obtain ⟨Ao42, co42, eo42⟩ := Kd.R_slice HO_7.out
               (first | subst eo42 | (injection eo42 with f1_ f2_ f3_; have f4_ := f1_.symm; have f5_ := f3_.symm; clear f1_ f2_ f3_; subst f4_; subst f5_))
               refine hK.out _ _ ⟨(blk_cell BK351.out 0).trans rfl, (blk_cell BK351.out 1).trans rfl, (blk_cell BK351.out 2).trans rfl, (blk_cell BK351.out 3).trans rfl, (blk_cell BK351.out 4).trans rfl, HS5_, HS6_, HS7_⟩ (fun hHeld => ?_)
               clear hK K
               refine norm_ (a' := ?_) ?_ ?_
               rotate_left
               ·show Act.put _ (some 40) _ = _
                simp only [Act.put, List.setIfInBounds_toArray, List.set_cons_zero, List.set_cons_succ, i64_w, i32_w]
                rfl
               refine pU HT_ 6 (some 41) (mk 28 127) rfl rfl (h := ?_)
               refine pU HT_ 7 (some 42) (mk 28 255) rfl rfl (h := ?_)
               refine pU HT_ 8 (some 43) (mk 28 511) rfl rfl (h := ?_)
               refine pU HT_ 9 (some 44) (mk 28 1023) rfl rfl (h := ?_)
               refine tU HT_ HW_ 10 (some 45) (mk 28 2047) hHeld rfl rfl (by rintro w' ⟨s0, s1, s2, s3, s4, s5, s6, s7⟩; go_simp; with_reducible rfl) (h := ?_)
               refine pU HT_ 11 (some 46) (mk 28 4095) rfl rfl (h := ?_)
               refine pU HT_ 12 (some 47) (mk 28 8191) rfl rfl (h := ?_)
               refine pU HT_ 13 (some 48) (mk 28 16383) rfl rfl (h := ?_)
               refine pU HT_ 14 (some 49) (mk 28 32767) rfl rfl (h := ?_)
               refine pU HT_ 15 (some 50) (mk 28 65535) rfl rfl (h := ?_)
               refine pU HT_ 16 (some 51) (mk 28 131071) rfl rfl (h := ?_)
               refine pU HT_ 17 (some 52) (mk 28 262143) rfl rfl (h := ?_)
               refine pU HT_ 18 (some 53) (mk 28 524287) rfl rfl (h := ?_)
               refine pU HT_ 19 (some 54) (mk 28 1048575) rfl rfl (h := ?_)
               refine pU HT_ 21 (some 56) (mk 28 3145727) rfl rfl (h := ?_)
               refine pU HT_ 22 (some 57) (mk 28 7340031) rfl rfl (h := ?_)
               refine pU HT_ 23 (some 58) (mk 28 15728639) rfl rfl (h := ?_)
               refine tU HT_ HW_ 20 (some 55) (mk 28 16777215) hHeld rfl rfl (by rintro w' ⟨s0, s1, s2, s3, s4, s5, s6, s7⟩; go_simp; with_reducible rfl) (h := ?_)
               refine tU HT_ HW_ 24 (some 59) (mk 28 33554431) hHeld rfl rfl (by rintro w' ⟨s0, s1, s2, s3, s4, s5, s6, s7⟩; go_simp; with_reducible rfl) (h := ?_)
               refine pU HT_ 25 (some 60) (mk 28 67108863) rfl rfl (h := ?_)
               refine pU HT_ 26 (some 61) (mk 28 134217727) rfl rfl (h := ?_)
               refine pU HT_ 27 (some 62) (mk 28 268435455) rfl rfl (h := ?_)
               refine done_ (done_of HT_.out (by kernel_rfl)) ?_
               try go_wp2
               go_roundg k2
               case measure => have := HJ3.out; have := HK2.out; omega
               case rel => exact ⟨(x8_2), (wrap64 (x9_2 + 1)), eX, eX, H', ⟨by have := HJ3.out; have := HK2.out; omega⟩, ⟨by (with_reducible repeat (first | apply Kd.R_alloc | apply Kd.R_drewN | apply Kd.R_drew)); exact HO_7.out⟩, ⟨by (with_reducible repeat (first | refine blk_drewN ?_ _ | refine blk_drew ?_ | refine blk_alloc ?_ _)); exact BK351.out⟩, ⟨by repeat (first | (with_reducible first | exact HB.out | apply below_alloc | apply pw_below_drewN | apply below_drew1 | refine below_set ?_ GE351.out) | exact HB.out)⟩⟩
             ·rw [if_neg c35] at H
              exact absurd H (by simp)
            ·rw [if_neg c34] at H
             exact absurd H (by simp)
          ·rw [if_neg c29] at H
           have c29b0 : decide ((rd t355 x9_2) < 3) = false := decide_eq_false c29
           clear c29
           have H' := Aside0.mk H
           clear H
           try go_wp2
           have n0_ := Aside0.mk (Kd.R_drew HO_7.out)
           have n1_ := Aside0.mk (blk_drew BK351.out)
           have n2_ := Aside0.mk (below_drew1 HB.out)
           clear HO_7 BK351 HB
           have HO_7 := n0_
           have BK351 := n1_
           have HB := n2_
           clear n0_ n1_ n2_
           have p359 : 0 ≤ (x9_2 : Int) := of_decide_eq_true aA
           have q359 : x9_2 < (t355.length : Int) := of_decide_eq_true aA
           (try (obtain ⟨Aq359, cq359, eq359⟩ := Kd.R_slice HO_7.out; subst eq359))
           obtain ⟨ad359, e359, hx359_0⟩ := Kd.at_int (Kd.R_reads' HO_7.out).2.2 x9_2 p359 q359
           cases e359
           replace p359 := eq_true p359
           replace q359 := eq_true q359
           refine start_ (n := 28) (S := fun w' => w'.cell? ⟨gb351, 0, none⟩ = some (.slice A0_0 l0_0.length c0_0) ∧ w'.cell? ⟨gb351, 1, none⟩ = some (.slice A0_1 l0_1.length c0_1) ∧ w'.cell? ⟨gb351, 2, none⟩ = some (.slice A0_2 l0_2.length c0_2) ∧ w'.cell? ⟨gb351, 3, none⟩ = some (.slice A0_3 l0_3.length c0_3) ∧ w'.cell? ⟨gb351, 4, none⟩ = some (.int .i64 a0_4) ∧ w'.cell? (ad359.add (x9_2).toNat) = some (.int .i64 (rd t355 x9_2))) (ds := []) _ (by kernel_rfl) rfl rfl ⟨(blk_cell BK351.out 0).trans rfl, (blk_cell BK351.out 1).trans rfl, (blk_cell BK351.out 2).trans rfl, (blk_cell BK351.out 3).trans rfl, (blk_cell BK351.out 4).trans rfl, hx359_0⟩ (fun hHeld => ?_); refine with_tabW spec_NextHop.tab8 spec_NextHop.bits8 (fun HT_ HW_ => ?_)
           generalize wr.drew = w43 at HO_7 BK351 HB hx359_0 hHeld ⊢
           refine pU HT_ 0 (some 35) (mk 28 1) rfl rfl (h := ?_)
           refine pU HT_ 2 (some 37) (mk 28 5) rfl rfl (h := ?_)
           refine pU HT_ 3 (some 38) (mk 28 13) rfl rfl (h := ?_)
           refine pU HT_ 4 (some 39) (mk 28 29) rfl rfl (h := ?_)
           refine tU HT_ HW_ 1 (some 36) (mk 28 31) hHeld rfl rfl (by rintro w' ⟨s0, s1, s2, s3, s4, s5⟩; go_simp; with_reducible rfl) (h := ?_)
           refine one_ (i := 5) (N := some 40) (mk 28 63) rfl rfl (one_of HT_.out (by kernel_rfl)) (by decide) (fun K hK => ?_)
           refine goes_ Try.func71 (by kernel_rfl) rfl #[.slice A0_2 l0_2.length c0_2, .agg #[.int .i64 a1, .int .i64 x9_2]] (by rfl) rfl rfl eA ?_
           with_reducible refine (spec_l6Has.calls k2 _ _ l0_2 a1 x9_2 true _ ?side1 ?side2 A25.out).mono ?_
           (case side1 => repeat (first | exact (Kd.C_below HR0_2.out HB.out) | (with_reducible refine Kd.C_alloc ?_ _) | (with_reducible refine Kd.C_drewN ?_ _) | (with_reducible refine Kd.C_drew ?_)))
           (case side2 => exact HC0_2.out)
           rintro e w44 ⟨rfl, hb⟩
           have HS5_ := (hb.cell (World.block_lt_of_cell? _ _ (hHeld.2.2.2.2.2))).trans (hHeld.2.2.2.2.2)
           refine ⟨_, rfl, ?_⟩
           have n0_ := Aside0.mk (Kd.R_below (kR HO_7.out) hb)
           have n1_ := Aside0.mk (blk_below (kB BK351.out) hb)
           have n2_ := Aside0.mk (below_step bS hb)
           clear HO_7 BK351 HB
           have HO_7 := n0_
           have BK351 := n1_
           have HB := n2_
           clear n0_ n1_ n2_
           (try clear hb)
           (try clear hb2)
           (try clear hk)
           (try clear hi)
           obtain ⟨Ao45, co45, eo45⟩ := Kd.R_slice HO_7.out
           (first | subst eo45 | (injection eo45 with f1_ f2_ f3_; have f4_ := f1_.symm; have f5_ := f3_.symm; clear f1_ f2_ f3_; subst f4_; subst f5_))
           refine hK.out _ _ ⟨(blk_cell BK351.out 0).trans rfl, (blk_cell BK351.out 1).trans rfl, (blk_cell BK351.out 2).trans rfl, (blk_cell BK351.out 3).trans rfl, (blk_cell BK351.out 4).trans rfl, HS5_⟩ (fun hHeld => ?_)
           clear hK K
           refine norm_ (a' := ?_) ?_ ?_
           rotate_left
           ·show Act.put _ (some 40) _ = _
            simp only [Act.put, List.setIfInBounds_toArray, List.set_cons_zero, List.set_cons_succ, i64_w, i32_w]
            rfl
           refine pU HT_ 6 (some 41) (mk 28 127) rfl rfl (h := ?_)
           refine pU HT_ 7 (some 42) (mk 28 255) rfl rfl (h := ?_)
           refine pU HT_ 8 (some 43) (mk 28 511) rfl rfl (h := ?_)
           refine pU HT_ 9 (some 44) (mk 28 1023) rfl rfl (h := ?_)
           refine tU HT_ HW_ 10 (some 45) (mk 28 2047) hHeld rfl rfl (by rintro w' ⟨s0, s1, s2, s3, s4, s5⟩; go_simp; with_reducible rfl) (h := ?_)
           refine pU HT_ 11 (some 46) (mk 28 4095) rfl rfl (h := ?_)
           refine pU HT_ 12 (some 47) (mk 28 8191) rfl rfl (h := ?_)
           refine pU HT_ 13 (some 48) (mk 28 16383) rfl rfl (h := ?_)
           refine pN HT_ 14 (some 49) (mk 28 32767) rfl rfl (h := ?_)
           refine pN HT_ 15 (some 50) (mk 28 65535) rfl rfl (h := ?_)
           refine pN HT_ 16 (some 51) (mk 28 131071) rfl rfl (h := ?_)
           refine pN HT_ 17 (some 52) (mk 28 262143) rfl rfl (h := ?_)
           refine pN HT_ 18 (some 53) (mk 28 524287) rfl rfl (h := ?_)
           refine pN HT_ 19 (some 54) (mk 28 1048575) rfl rfl (h := ?_)
           refine pN HT_ 20 (some 55) (mk 28 2097151) rfl rfl (h := ?_)
           refine pN HT_ 21 (some 56) (mk 28 4194303) rfl rfl (h := ?_)
           refine pN HT_ 22 (some 57) (mk 28 8388607) rfl rfl (h := ?_)
           refine pN HT_ 23 (some 58) (mk 28 16777215) rfl rfl (h := ?_)
           refine pN HT_ 24 (some 59) (mk 28 33554431) rfl rfl (h := ?_)
           refine pN HT_ 25 (some 60) (mk 28 67108863) rfl rfl (h := ?_)
           refine pN HT_ 26 (some 61) (mk 28 134217727) rfl rfl (h := ?_)
           refine pU HT_ 27 (some 62) (mk 28 268435455) rfl rfl (h := ?_)
           refine done_ (done_of HT_.out (by kernel_rfl)) ?_
           try go_wp2
           go_roundg k2
           case measure => have := HJ3.out; have := HK2.out; omega
           case rel => exact ⟨(x8_2), (wrap64 (x9_2 + 1)), eX, eX, H', ⟨by have := HJ3.out; have := HK2.out; omega⟩, ⟨by (with_reducible repeat (first | apply Kd.R_alloc | apply Kd.R_drewN | apply Kd.R_drew)); exact HO_7.out⟩, ⟨by (with_reducible repeat (first | refine blk_drewN ?_ _ | refine blk_drew ?_ | refine blk_alloc ?_ _)); exact BK351.out⟩, ⟨by repeat (first | (with_reducible first | exact HB.out | apply below_alloc | apply pw_below_drewN | apply below_drew1 | refine below_set ?_ GE351.out) | exact HB.out)⟩⟩
         ·rw [if_neg c28] at H
          exact absurd H (by simp)
        ·rw [if_neg c27] at H
         exact absurd H (by simp)
       ·replace c26 := Bool.eq_false_iff.mpr c26
        subst c26
        have H1 : (spec_NextHop.l0 k2 a1 t355 x8_2 (wrap64 (x9_2 + 1)) l0_0 l0_1 l0_2 l0_3 a0_4) = some r := by rw [if_neg (show ¬ (false = true) by decide)] at H; exact H
        clear H
        have H := H1
        clear H1
        have H' := Aside0.mk H
        clear H
        try go_wp2
        have n0_ := Aside0.mk (Kd.R_drew HO_7.out)
        have n1_ := Aside0.mk (blk_drew BK351.out)
        have n2_ := Aside0.mk (below_drew1 HB.out)
        clear HO_7 BK351 HB
        have HO_7 := n0_
        have BK351 := n1_
        have HB := n2_
        clear n0_ n1_ n2_
        refine start_ (n := 28) (S := fun w' => w'.cell? ⟨gb351, 0, none⟩ = some (.slice A0_0 l0_0.length c0_0) ∧ w'.cell? ⟨gb351, 1, none⟩ = some (.slice A0_1 l0_1.length c0_1) ∧ w'.cell? ⟨gb351, 2, none⟩ = some (.slice A0_2 l0_2.length c0_2) ∧ w'.cell? ⟨gb351, 3, none⟩ = some (.slice A0_3 l0_3.length c0_3) ∧ w'.cell? ⟨gb351, 4, none⟩ = some (.int .i64 a0_4)) (ds := []) _ (by kernel_rfl) rfl rfl ⟨(blk_cell BK351.out 0).trans rfl, (blk_cell BK351.out 1).trans rfl, (blk_cell BK351.out 2).trans rfl, (blk_cell BK351.out 3).trans rfl, (blk_cell BK351.out 4).trans rfl⟩ (fun hHeld => ?_); refine with_tabW spec_NextHop.tab8 spec_NextHop.bits8 (fun HT_ HW_ => ?_)
        generalize wr.drew = w46 at HO_7 BK351 HB hHeld ⊢
        refine pU HT_ 0 (some 35) (mk 28 1) rfl rfl (h := ?_)
        refine pU HT_ 2 (some 37) (mk 28 5) rfl rfl (h := ?_)
        refine pU HT_ 3 (some 38) (mk 28 13) rfl rfl (h := ?_)
        refine pU HT_ 4 (some 39) (mk 28 29) rfl rfl (h := ?_)
        refine tU HT_ HW_ 1 (some 36) (mk 28 31) hHeld rfl rfl (by rintro w' ⟨s0, s1, s2, s3, s4⟩; go_simp; with_reducible rfl) (h := ?_)
        refine one_ (i := 5) (N := some 40) (mk 28 63) rfl rfl (one_of HT_.out (by kernel_rfl)) (by decide) (fun K hK => ?_)
        refine goes_ Try.func71 (by kernel_rfl) rfl #[.slice A0_2 l0_2.length c0_2, .agg #[.int .i64 a1, .int .i64 x9_2]] (by rfl) rfl rfl eA ?_
        with_reducible refine (spec_l6Has.calls k2 _ _ l0_2 a1 x9_2 false _ ?side1 ?side2 A25.out).mono ?_
        (case side1 => repeat (first | exact (Kd.C_below HR0_2.out HB.out) | (with_reducible refine Kd.C_alloc ?_ _) | (with_reducible refine Kd.C_drewN ?_ _) | (with_reducible refine Kd.C_drew ?_)))
        (case side2 => exact HC0_2.out)
        rintro e w47 ⟨rfl, hb⟩
        refine ⟨_, rfl, ?_⟩
        have n0_ := Aside0.mk (Kd.R_below (kR HO_7.out) hb)
        have n1_ := Aside0.mk (blk_below (kB BK351.out) hb)
        have n2_ := Aside0.mk (below_step bS hb)
        clear HO_7 BK351 HB
        have HO_7 := n0_
        have BK351 := n1_
        have HB := n2_
        clear n0_ n1_ n2_
        (try clear hb)
        (try clear hb2)
        (try clear hk)
        (try clear hi)
        refine hK.out _ _ ⟨(blk_cell BK351.out 0).trans rfl, (blk_cell BK351.out 1).trans rfl, (blk_cell BK351.out 2).trans rfl, (blk_cell BK351.out 3).trans rfl, (blk_cell BK351.out 4).trans rfl⟩ (fun hHeld => ?_)
        clear hK K
        refine norm_ (a' := ?_) ?_ ?_
        rotate_left
        ·show Act.put _ (some 40) _ = _
         simp only [Act.put, List.setIfInBounds_toArray, List.set_cons_zero, List.set_cons_succ, i64_w, i32_w]
         rfl
        refine pU HT_ 6 (some 41) (mk 28 127) rfl rfl (h := ?_)
        refine pN HT_ 7 (some 42) (mk 28 255) rfl rfl (h := ?_)
        refine pN HT_ 8 (some 43) (mk 28 511) rfl rfl (h := ?_)
        refine pN HT_ 9 (some 44) (mk 28 1023) rfl rfl (h := ?_)
        refine pN HT_ 10 (some 45) (mk 28 2047) rfl rfl (h := ?_)
        refine pN HT_ 11 (some 46) (mk 28 4095) rfl rfl (h := ?_)
        refine pU HT_ 12 (some 47) (mk 28 8191) rfl rfl (h := ?_)
        refine pU HT_ 13 (some 48) (mk 28 16383) rfl rfl (h := ?_)
        refine pN HT_ 14 (some 49) (mk 28 32767) rfl rfl (h := ?_)
        refine pN HT_ 15 (some 50) (mk 28 65535) rfl rfl (h := ?_)
        refine pN HT_ 16 (some 51) (mk 28 131071) rfl rfl (h := ?_)
        refine pN HT_ 17 (some 52) (mk 28 262143) rfl rfl (h := ?_)
        refine pN HT_ 18 (some 53) (mk 28 524287) rfl rfl (h := ?_)
        refine pN HT_ 19 (some 54) (mk 28 1048575) rfl rfl (h := ?_)
        refine pN HT_ 20 (some 55) (mk 28 2097151) rfl rfl (h := ?_)
        refine pN HT_ 21 (some 56) (mk 28 4194303) rfl rfl (h := ?_)
        refine pN HT_ 22 (some 57) (mk 28 8388607) rfl rfl (h := ?_)
        refine pN HT_ 23 (some 58) (mk 28 16777215) rfl rfl (h := ?_)
        refine pN HT_ 24 (some 59) (mk 28 33554431) rfl rfl (h := ?_)
        refine pN HT_ 25 (some 60) (mk 28 67108863) rfl rfl (h := ?_)
        refine pN HT_ 26 (some 61) (mk 28 134217727) rfl rfl (h := ?_)
        refine pU HT_ 27 (some 62) (mk 28 268435455) rfl rfl (h := ?_)
        refine done_ (done_of HT_.out (by kernel_rfl)) ?_
        try go_wp2
        go_roundg k2
        case measure => have := HJ3.out; have := HK2.out; omega
        case rel => exact ⟨(x8_2), (wrap64 (x9_2 + 1)), eX, eX, H', ⟨by have := HJ3.out; have := HK2.out; omega⟩, ⟨by (with_reducible repeat (first | apply Kd.R_alloc | apply Kd.R_drewN | apply Kd.R_drew)); exact HO_7.out⟩, ⟨by (with_reducible repeat (first | refine blk_drewN ?_ _ | refine blk_drew ?_ | refine blk_alloc ?_ _)); exact BK351.out⟩, ⟨by repeat (first | (with_reducible first | exact HB.out | apply below_alloc | apply pw_below_drewN | apply below_drew1 | refine below_set ?_ GE351.out) | exact HB.out)⟩⟩
      ·rw [if_neg c24] at H
       have c24b0 : decide (x9_2 < 3) = false := decide_eq_false c24
       clear c24
       obtain rfl := Option.some.inj H
       go_wp2
       go_ret
       exact ⟨eE, bS⟩

end Go.Proofs.Ytmhjpnjolgigmaa.OFnWay
-- halved
-- squeezed
-- squeezed2
