-- walks of this claim, written by a program of mine
import Derived.Test.YtmhjpnjolgigmaaOFnWayx0
import Derived.Test.YtmhjpnjolgigmaaOFnWayx2
namespace Go.Proofs.Ytmhjpnjolgigmaa.OFnWay
open Go.RowKit Go.Proofs.Ytmhjpnjolgigmaa.OWord Go.Proofs.YtmhjpnjolgigmaaW.PrintWords Go.Proofs.YtmhjpnjolgigmaaW.PrintLast Go.Proofs.YtmhjpnjolgigmaaW.PrintMore
attribute [local go_sem] max2_int min2_int max_two min_two max_three min_three max_four min_four   -- for this text's walks alone
set_option linter.unusedVariables false
set_option linter.unusedSimpArgs false

/-! ### spec_l6Pairs: function 47 -/
def spec_l6Pairs.l0 : Nat → List (S42) → Int → Bool → Int → Option (Bool)
 | 0, _, _, _, _ => none
 | k + 1, x0, x1, x2, x7 => if x7 < (x0.length : Int) then (if 0 ≤ x7 then (if ((rd_T42 x0 x7).f0) < 0 then (some false) else (if ((rd_T42 x0 x7).f0) ≥ x1 then (some false) else (if ((rd_T42 x0 x7).f1) < 0 then (some false) else (if ((rd_T42 x0 x7).f1) ≥ x1 then (some false) else (if x2 = true then (if ((rd_T42 x0 x7).f0) = ((rd_T42 x0 x7).f1) then (some false) else (if x7 ≤ (x0.length : Int) then ((spec_l6Has.f k (x0.take (x7 : Int).toNat) ((rd_T42 x0 x7).f0) ((rd_T42 x0 x7).f1)).bind fun t111 => (if t111 = true then (some false) else (spec_l6Pairs.l0 k x0 x1 x2 (wrap64 (x7 + 1))))) else (none))) else (if x7 ≤ (x0.length : Int) then ((spec_l6Has.f k (x0.take (x7 : Int).toNat) ((rd_T42 x0 x7).f0) ((rd_T42 x0 x7).f1)).bind fun t116 => (if t116 = true then (some false) else (spec_l6Pairs.l0 k x0 x1 x2 (wrap64 (x7 + 1))))) else (none))))))) else (none)) else (some true)
def spec_l6Pairs.f (k : Nat) (l0 : List (S42)) (a1 : Int) (a2 : Bool) : Option (Bool) := if (l0.length : Int) > 6 then (some false) else (spec_l6Pairs.l0 k l0 a1 a2 0)
def spec_l6Pairs.T7 : Bool × List (List Nat × List Nat) := (true, [([], []), ([0], [0]), ([1], [1]), ([2], [2]), ([3], [3]), ([4, 3], [3, 4]), ([3], [3]), ([5, 6, 3], [3, 5, 6]), ([3, 7], [3, 7]), ([8, 3], [8]), ([9], [9]), ([10, 9], [9, 10]), ([11, 9], [9, 11]), ([9, 12], [9, 12]), ([13, 9], [13]), ([14], [14]), ([15, 14], [14, 15]), ([14], [14]), ([16, 17, 14], [14, 16, 17]), ([14, 18], [14, 18]), ([19, 14], [19]), ([20], [20]), ([21, 20, 20], [20, 21]), ([22], [22]), ([23, 22], [22, 23]), ([22], [22]), ([25, 22], [22, 25]), ([24, 26, 22], [22, 24, 26]), ([22, 27, 20], [20, 22, 27]), ([20, 28], [20, 28]), ([29, 22], [29]), ([30], [30]), ([30], [30]), ([31, 32, 30], [30, 31, 32]), ([30], [30]), ([33, 34, 30, 30], [30, 33, 34]), ([30, 35], [30, 35])])
def spec_l6Pairs.B7 : List Nat := [0, 1, 3, 7, 15, 31, 15, 127, 255, 511, 1023, 2047, 4095, 8191, 16383, 32767, 65535, 32767, 262143, 524287, 1048575, 2097151, 4194303, 8388607, 16777215, 8388607, 41943039, 134217727, 268435455, 536870911, 1073741823, 2147483647, 2147483647, 8589934591, 2147483647, 34359738367, 68719476735]
theorem spec_l6Pairs.tab7 : rtab .any (opsOf Try.f47 7) = spec_l6Pairs.T7 := by kernel_rfl
theorem spec_l6Pairs.bits7 : waitsOk spec_l6Pairs.T7.2 spec_l6Pairs.B7 = true := by kernel_rfl
set_option maxHeartbeats 8000000 in
set_option maxRecDepth 100000 in
theorem spec_l6Pairs.calls (k : Nat) (A0 : Option Addr) (c0 : Nat) (l0 : List (S42)) (a1 : Int) (a2 : Bool) (r : Bool) (w : World) (hr0 : Kd.C k42 w A0 l0.length l0) (hc0 : l0.length ≤ c0) (h : spec_l6Pairs.f k l0 a1 a2 = some r) :
  Calls Try.prog 47 #[.slice A0 l0.length c0, .int .i64 a1, .bool a2] w fun e w' => e = .returned (.bool r) ∧ Below w.heap.size w w' := by
 have hu42 := Try.underlying42
 have HR0 := Aside0.mk hr0
 have HC0 := Aside0.mk hc0
 clear hr0 hc0
 have HB := Aside0.mk (Below.refl w.heap.size w)
 have H : (if (l0.length : Int) > 6 then (some false) else (spec_l6Pairs.l0 k l0 a1 a2 0)) = some r := h
 clear h
 by_cases c4 : (l0.length : Int) > 6
 ·rw [if_pos c4] at H
  have c4b0 : decide (6 < (l0.length : Int)) = true := decide_eq_true c4
  have c4b1 : decide (6 < l0.length) = true := decide_eq_true (by omega)
  clear c4
  obtain rfl := Option.some.inj H
  go_enter Try.func47, Try.ntmps47
  go_wp2
  go_ret
  exact ⟨eE, bH⟩
 ·rw [if_neg c4] at H
  have c4b0 : decide (6 < (l0.length : Int)) = false := decide_eq_false c4
  have c4b1 : decide (6 < l0.length) = false := decide_eq_false (by omega)
  clear c4
  have H' := Aside0.mk H
  clear H
  go_enter Try.func47, Try.ntmps47
  go_wp2
  go_loopg [7] k (fun kq v7 w' => ∃ (x7_1 : Int), v7 = .int .i64 x7_1 ∧ Aside0 (spec_l6Pairs.l0 kq l0 a1 a2 x7_1 = some r) ∧ Aside0 (kq ≤ k) ∧ Aside0 (Below w.heap.size w w'))
  case atStart => exact ⟨(0), eX, H', ⟨Nat.le_refl _⟩, ⟨by repeat (first | (with_reducible first | exact HB.out | apply below_alloc | apply pw_below_drewN | apply below_drew1) | exact HB.out)⟩⟩
  case round =>
   clear H'
   try clear p2
   try clear c4
   try clear c4b0
   try clear c4b1
   obtain ⟨x7_1, rfl, HA, HK1, HB⟩ := hrel
   cases gk with
   | zero => exact absurd HA.out (by simp [spec_l6Pairs.l0])
   | succ k1 =>
    have H := HA.out
    clear HA
    simp only [spec_l6Pairs.l0] at H
    by_cases c5 : x7_1 < (l0.length : Int)
    ·rw [if_pos c5] at H
     have c5b0 : decide (x7_1 < (l0.length : Int)) = true := decide_eq_true c5
     clear c5
     by_cases c6 : 0 ≤ x7_1
     ·rw [if_pos c6] at H
      have c6b0 : decide (0 ≤ x7_1) = true := decide_eq_true c6
      clear c6
      by_cases c7 : ((rd_T42 l0 x7_1).f0) < 0
      ·rw [if_pos c7] at H
       have c7b0 : decide (((rd_T42 l0 x7_1).f0) < 0) = true := decide_eq_true c7
       clear c7
       obtain rfl := Option.some.inj H
       have p105 : 0 ≤ (x7_1 : Int) := of_decide_eq_true aA
       have q105 : x7_1 < (l0.length : Int) := of_decide_eq_true aA
       obtain ⟨ad105, e105, hx105_0, hx105_1⟩ := at_T42 HR0.out x7_1 p105 q105
       cases e105
       replace hx105_0 := (HB.out.cell (World.block_lt_of_cell? w _ hx105_0)).trans hx105_0
       replace hx105_1 := (HB.out.cell (World.block_lt_of_cell? w _ hx105_1)).trans hx105_1
       replace p105 := eq_true p105
       replace q105 := eq_true q105
       try go_wp2_with (first | ((with_reducible refine gate_dst (N := 8) rfl ?_); refine box_event ?hg (N := 8) ?hd (cs := #[.int .i64 0, .int .i64 0]) (t := 42) ?hr ?_; (case hd => rfl); (case hg => rfl); (case hr => first | (go_simp; done) | (go_simp; rfl)); intro gb106 hg w8 hbox hb; have n0_ := Aside0.mk (below_step bH hb); have n1_ := Aside0.mk (hbox); have n2_ := Aside0.mk ((bZ hg : w.heap.size ≤ gb106)); have n3_ := Aside0.mk ((bZ hg : w.heap.size ≤ gb106)); clear HB; have HB := n0_; have BK106 := n1_; have GW106 := n2_; have GE106 := n3_; clear n0_ n1_ n2_ n3_; clear hb hbox hg; have hcz9_0 : w8.cell? ⟨gb106, 0, none⟩ = some (.int .i64 0) := (blk_cell BK106.out 0).trans rfl; have hcz9_1 : w8.cell? ⟨gb106, 1, none⟩ = some (.int .i64 0) := (blk_cell BK106.out 1).trans rfl; have hfz9_0 := blk_frozen BK106.out 0; have hfz9_1 := blk_frozen BK106.out 1))
       have n0_ : Aside0 (((w8.setCell ⟨gb106, 0, none⟩ (.int .i64 ((rd_T42 l0 x7_1).f0))).setCell ⟨gb106, 1, none⟩ (.int .i64 ((rd_T42 l0 x7_1).f1))).heap[gb106]? = some (.cells #[.int .i64 ((rd_T42 l0 x7_1).f0), .int .i64 ((rd_T42 l0 x7_1).f1)] 42 (0, 0))) := ⟨by (with_reducible repeat (first | refine blk_drewN ?_ _ | refine blk_drew ?_ | refine blk_alloc ?_ _)); refine blk_put (cs := #[.int .i64 ((rd_T42 l0 x7_1).f0), .int .i64 0]) ?_ 1 _ rfl; (with_reducible repeat (first | refine blk_drewN ?_ _ | refine blk_drew ?_ | refine blk_alloc ?_ _)); refine blk_put (cs := #[.int .i64 0, .int .i64 0]) ?_ 0 _ rfl; (with_reducible repeat (first | refine blk_drewN ?_ _ | refine blk_drew ?_ | refine blk_alloc ?_ _)); exact BK106.out⟩
       have n1_ : Aside0 (Below w.heap.size w ((w8.setCell ⟨gb106, 0, none⟩ (.int .i64 ((rd_T42 l0 x7_1).f0))).setCell ⟨gb106, 1, none⟩ (.int .i64 ((rd_T42 l0 x7_1).f1)))) := ⟨by repeat (first | (with_reducible first | exact HB.out | apply below_alloc | apply pw_below_drewN | apply below_drew1 | refine below_set ?_ GE106.out) | exact HB.out)⟩
       (try clear BK106)
       (try clear HB)
       generalize ((w8.setCell ⟨gb106, 0, none⟩ (.int .i64 ((rd_T42 l0 x7_1).f0))).setCell ⟨gb106, 1, none⟩ (.int .i64 ((rd_T42 l0 x7_1).f1))) = w10 at n0_ n1_ ⊢
       have BK106 := n0_
       have HB := n1_
       clear n0_ n1_
       have n0_ := Aside0.mk (blk_drew BK106.out)
       have n1_ := Aside0.mk (below_drew1 HB.out)
       clear BK106 HB
       have BK106 := n0_
       have HB := n1_
       clear n0_ n1_
       refine start_ (n := 37) (S := fun w' => w'.cell? ⟨gb106, 0, none⟩ = some (.int .i64 ((rd_T42 l0 x7_1).f0)) ∧ w'.cell? ⟨gb106, 1, none⟩ = some (.int .i64 ((rd_T42 l0 x7_1).f1))) (ds := []) _ (by kernel_rfl) rfl rfl ⟨(blk_cell BK106.out 0).trans rfl, (blk_cell BK106.out 1).trans rfl⟩ (fun hHeld => ?_); refine with_tabW spec_l6Pairs.tab7 spec_l6Pairs.bits7 (fun HT_ HW_ => ?_)
       generalize w10.drew = w11 at BK106 HB hHeld ⊢
       refine pU HT_ 0 (some 22) (mk 37 1) rfl rfl (h := ?_)
       refine tU HT_ HW_ 1 (some 23) (mk 37 3) hHeld rfl rfl (by rintro w' ⟨s0, s1⟩; go_simp; with_reducible rfl) (h := ?_)
       refine pU HT_ 2 (some 24) (mk 37 7) rfl rfl (h := ?_)
       refine pU HT_ 3 (some 25) (mk 37 15) rfl rfl (h := ?_)
       refine pN HT_ 4 (some 26) (mk 37 31) rfl rfl (h := ?_)
       refine pN HT_ 5 (some 27) (mk 37 63) rfl rfl (h := ?_)
       refine pN HT_ 6 (some 28) (mk 37 127) rfl rfl (h := ?_)
       refine pN HT_ 7 (some 29) (mk 37 255) rfl rfl (h := ?_)
       refine pU HT_ 8 (some 30) (mk 37 511) rfl rfl (h := ?_)
       refine pU HT_ 9 (some 31) (mk 37 1023) rfl rfl (h := ?_)
       refine pN HT_ 10 (some 32) (mk 37 2047) rfl rfl (h := ?_)
       refine pN HT_ 11 (some 33) (mk 37 4095) rfl rfl (h := ?_)
       refine pN HT_ 12 (some 34) (mk 37 8191) rfl rfl (h := ?_)
       refine pU HT_ 13 (some 35) (mk 37 16383) rfl rfl (h := ?_)
       refine pU HT_ 14 (some 36) (mk 37 32767) rfl rfl (h := ?_)
       refine pN HT_ 15 (some 37) (mk 37 65535) rfl rfl (h := ?_)
       refine pN HT_ 16 (some 38) (mk 37 131071) rfl rfl (h := ?_)
       refine pN HT_ 17 (some 39) (mk 37 262143) rfl rfl (h := ?_)
       refine pN HT_ 18 (some 40) (mk 37 524287) rfl rfl (h := ?_)
       refine pU HT_ 19 (some 41) (mk 37 1048575) rfl rfl (h := ?_)
       refine pU HT_ 20 (some 42) (mk 37 2097151) rfl rfl (h := ?_)
       refine pN HT_ 21 (some 43) (mk 37 4194303) rfl rfl (h := ?_)
       refine pN HT_ 22 (some 44) (mk 37 8388607) rfl rfl (h := ?_)
       refine pN HT_ 23 (some 45) (mk 37 16777215) rfl rfl (h := ?_)
       refine pN HT_ 24 (some 46) (mk 37 33554431) rfl rfl (h := ?_)
       refine pN HT_ 25 (some 47) (mk 37 67108863) rfl rfl (h := ?_)
       refine pN HT_ 26 (some 48) (mk 37 134217727) rfl rfl (h := ?_)
       refine pN HT_ 27 (some 49) (mk 37 268435455) rfl rfl (h := ?_)
       refine pN HT_ 28 (some 50) (mk 37 536870911) rfl rfl (h := ?_)
       refine pU HT_ 29 (some 51) (mk 37 1073741823) rfl rfl (h := ?_)
       refine pU HT_ 30 (some 52) (mk 37 2147483647) rfl rfl (h := ?_)
       refine pN HT_ 31 (some 53) (mk 37 4294967295) rfl rfl (h := ?_)
       refine pN HT_ 32 (some 54) (mk 37 8589934591) rfl rfl (h := ?_)
       refine pN HT_ 33 (some 55) (mk 37 17179869183) rfl rfl (h := ?_)
       refine pN HT_ 34 (some 56) (mk 37 34359738367) rfl rfl (h := ?_)
       refine pN HT_ 35 (some 57) (mk 37 68719476735) rfl rfl (h := ?_)
       refine pU HT_ 36 (some 58) (mk 37 137438953471) rfl rfl (h := ?_)
       refine done_ (done_of HT_.out (by kernel_rfl)) ?_
       try go_wp2
       go_ret
       exact ⟨eE, bS⟩
      ·rw [if_neg c7] at H
       have c7b0 : decide (((rd_T42 l0 x7_1).f0) < 0) = false := decide_eq_false c7
       clear c7
       by_cases c12 : ((rd_T42 l0 x7_1).f0) ≥ a1
       ·rw [if_pos c12] at H
        have c12b0 : decide (a1 ≤ ((rd_T42 l0 x7_1).f0)) = true := decide_eq_true c12
        clear c12
        obtain rfl := Option.some.inj H
        have p105 : 0 ≤ (x7_1 : Int) := of_decide_eq_true aA
        have q105 : x7_1 < (l0.length : Int) := of_decide_eq_true aA
        obtain ⟨ad105, e105, hx105_0, hx105_1⟩ := at_T42 HR0.out x7_1 p105 q105
        cases e105
        replace hx105_0 := (HB.out.cell (World.block_lt_of_cell? w _ hx105_0)).trans hx105_0
        replace hx105_1 := (HB.out.cell (World.block_lt_of_cell? w _ hx105_1)).trans hx105_1
        replace p105 := eq_true p105
        replace q105 := eq_true q105
        try go_wp2_with (first | ((with_reducible refine gate_dst (N := 8) rfl ?_); refine box_event ?hg (N := 8) ?hd (cs := #[.int .i64 0, .int .i64 0]) (t := 42) ?hr ?_; (case hd => rfl); (case hg => rfl); (case hr => first | (go_simp; done) | (go_simp; rfl)); intro gb106 hg w13 hbox hb; have n0_ := Aside0.mk (below_step bH hb); have n1_ := Aside0.mk (hbox); have n2_ := Aside0.mk ((bZ hg : w.heap.size ≤ gb106)); have n3_ := Aside0.mk ((bZ hg : w.heap.size ≤ gb106)); clear HB; have HB := n0_; have BK106 := n1_; have GW106 := n2_; have GE106 := n3_; clear n0_ n1_ n2_ n3_; clear hb hbox hg; have hcz14_0 : w13.cell? ⟨gb106, 0, none⟩ = some (.int .i64 0) := (blk_cell BK106.out 0).trans rfl; have hcz14_1 : w13.cell? ⟨gb106, 1, none⟩ = some (.int .i64 0) := (blk_cell BK106.out 1).trans rfl; have hfz14_0 := blk_frozen BK106.out 0; have hfz14_1 := blk_frozen BK106.out 1))
        have n0_ : Aside0 (((w13.setCell ⟨gb106, 0, none⟩ (.int .i64 ((rd_T42 l0 x7_1).f0))).setCell ⟨gb106, 1, none⟩ (.int .i64 ((rd_T42 l0 x7_1).f1))).heap[gb106]? = some (.cells #[.int .i64 ((rd_T42 l0 x7_1).f0), .int .i64 ((rd_T42 l0 x7_1).f1)] 42 (0, 0))) := ⟨by (with_reducible repeat (first | refine blk_drewN ?_ _ | refine blk_drew ?_ | refine blk_alloc ?_ _)); refine blk_put (cs := #[.int .i64 ((rd_T42 l0 x7_1).f0), .int .i64 0]) ?_ 1 _ rfl; (with_reducible repeat (first | refine blk_drewN ?_ _ | refine blk_drew ?_ | refine blk_alloc ?_ _)); refine blk_put (cs := #[.int .i64 0, .int .i64 0]) ?_ 0 _ rfl; (with_reducible repeat (first | refine blk_drewN ?_ _ | refine blk_drew ?_ | refine blk_alloc ?_ _)); exact BK106.out⟩
        have n1_ : Aside0 (Below w.heap.size w ((w13.setCell ⟨gb106, 0, none⟩ (.int .i64 ((rd_T42 l0 x7_1).f0))).setCell ⟨gb106, 1, none⟩ (.int .i64 ((rd_T42 l0 x7_1).f1)))) := ⟨by repeat (first | (with_reducible first | exact HB.out | apply below_alloc | apply pw_below_drewN | apply below_drew1 | refine below_set ?_ GE106.out) | exact HB.out)⟩
        (try clear BK106)
        (try clear HB)
        generalize ((w13.setCell ⟨gb106, 0, none⟩ (.int .i64 ((rd_T42 l0 x7_1).f0))).setCell ⟨gb106, 1, none⟩ (.int .i64 ((rd_T42 l0 x7_1).f1))) = w15 at n0_ n1_ ⊢
        have BK106 := n0_
        have HB := n1_
        clear n0_ n1_
        have n0_ := Aside0.mk (blk_drew BK106.out)
        have n1_ := Aside0.mk (below_drew1 HB.out)
        clear BK106 HB
        have BK106 := n0_
        have HB := n1_
        clear n0_ n1_
        refine start_ (n := 37) (S := fun w' => w'.cell? ⟨gb106, 0, none⟩ = some (.int .i64 ((rd_T42 l0 x7_1).f0)) ∧ w'.cell? ⟨gb106, 1, none⟩ = some (.int .i64 ((rd_T42 l0 x7_1).f1))) (ds := []) _ (by kernel_rfl) rfl rfl ⟨(blk_cell BK106.out 0).trans rfl, (blk_cell BK106.out 1).trans rfl⟩ (fun hHeld => ?_); refine with_tabW spec_l6Pairs.tab7 spec_l6Pairs.bits7 (fun HT_ HW_ => ?_)
        generalize w15.drew = w16 at BK106 HB hHeld ⊢
        refine pU HT_ 0 (some 22) (mk 37 1) rfl rfl (h := ?_)
        refine tU HT_ HW_ 1 (some 23) (mk 37 3) hHeld rfl rfl (by rintro w' ⟨s0, s1⟩; go_simp; with_reducible rfl) (h := ?_)
        refine pU HT_ 2 (some 24) (mk 37 7) rfl rfl (h := ?_)
        refine pU HT_ 3 (some 25) (mk 37 15) rfl rfl (h := ?_)
        refine pU HT_ 4 (some 26) (mk 37 31) rfl rfl (h := ?_)
        refine pU HT_ 6 (some 28) (mk 37 95) rfl rfl (h := ?_)
        refine tU HT_ HW_ 5 (some 27) (mk 37 127) hHeld rfl rfl (by rintro w' ⟨s0, s1⟩; go_simp; with_reducible rfl) (h := ?_)
        refine pU HT_ 7 (some 29) (mk 37 255) rfl rfl (h := ?_)
        refine pU HT_ 8 (some 30) (mk 37 511) rfl rfl (h := ?_)
        refine pU HT_ 9 (some 31) (mk 37 1023) rfl rfl (h := ?_)
        refine pN HT_ 10 (some 32) (mk 37 2047) rfl rfl (h := ?_)
        refine pN HT_ 11 (some 33) (mk 37 4095) rfl rfl (h := ?_)
        refine pN HT_ 12 (some 34) (mk 37 8191) rfl rfl (h := ?_)
        refine pU HT_ 13 (some 35) (mk 37 16383) rfl rfl (h := ?_)
        refine pU HT_ 14 (some 36) (mk 37 32767) rfl rfl (h := ?_)
        refine pN HT_ 15 (some 37) (mk 37 65535) rfl rfl (h := ?_)
        refine pN HT_ 16 (some 38) (mk 37 131071) rfl rfl (h := ?_)
        refine pN HT_ 17 (some 39) (mk 37 262143) rfl rfl (h := ?_)
        refine pN HT_ 18 (some 40) (mk 37 524287) rfl rfl (h := ?_)
        refine pU HT_ 19 (some 41) (mk 37 1048575) rfl rfl (h := ?_)
        refine pU HT_ 20 (some 42) (mk 37 2097151) rfl rfl (h := ?_)
        refine pN HT_ 21 (some 43) (mk 37 4194303) rfl rfl (h := ?_)
        refine pN HT_ 22 (some 44) (mk 37 8388607) rfl rfl (h := ?_)
        refine pN HT_ 23 (some 45) (mk 37 16777215) rfl rfl (h := ?_)
        refine pN HT_ 24 (some 46) (mk 37 33554431) rfl rfl (h := ?_)
        refine pN HT_ 25 (some 47) (mk 37 67108863) rfl rfl (h := ?_)
        refine pN HT_ 26 (some 48) (mk 37 134217727) rfl rfl (h := ?_)
        refine pN HT_ 27 (some 49) (mk 37 268435455) rfl rfl (h := ?_)
        refine pN HT_ 28 (some 50) (mk 37 536870911) rfl rfl (h := ?_)
        refine pU HT_ 29 (some 51) (mk 37 1073741823) rfl rfl (h := ?_)
        refine pU HT_ 30 (some 52) (mk 37 2147483647) rfl rfl (h := ?_)
        refine pN HT_ 31 (some 53) (mk 37 4294967295) rfl rfl (h := ?_)
        refine pN HT_ 32 (some 54) (mk 37 8589934591) rfl rfl (h := ?_)
        refine pN HT_ 33 (some 55) (mk 37 17179869183) rfl rfl (h := ?_)
        refine pN HT_ 34 (some 56) (mk 37 34359738367) rfl rfl (h := ?_)
        refine pN HT_ 35 (some 57) (mk 37 68719476735) rfl rfl (h := ?_)
        refine pU HT_ 36 (some 58) (mk 37 137438953471) rfl rfl (h := ?_)
        refine done_ (done_of HT_.out (by kernel_rfl)) ?_
        try go_wp2
        go_ret
        exact ⟨eE, bS⟩
       ·rw [if_neg c12] at H
        have c12b0 : decide (a1 ≤ ((rd_T42 l0 x7_1).f0)) = false := decide_eq_false c12
        clear c12
        by_cases c17 : ((rd_T42 l0 x7_1).f1) < 0
        ·rw [if_pos c17] at H
         have c17b0 : decide (((rd_T42 l0 x7_1).f1) < 0) = true := decide_eq_true c17
         clear c17
         obtain rfl := Option.some.inj H
         have p105 : 0 ≤ (x7_1 : Int) := of_decide_eq_true aA
         have q105 : x7_1 < (l0.length : Int) := of_decide_eq_true aA
         obtain ⟨ad105, e105, hx105_0, hx105_1⟩ := at_T42 HR0.out x7_1 p105 q105
         cases e105
         replace hx105_0 := (HB.out.cell (World.block_lt_of_cell? w _ hx105_0)).trans hx105_0
         replace hx105_1 := (HB.out.cell (World.block_lt_of_cell? w _ hx105_1)).trans hx105_1
         replace p105 := eq_true p105
         replace q105 := eq_true q105
         try go_wp2_with (first | ((with_reducible refine gate_dst (N := 8) rfl ?_); refine box_event ?hg (N := 8) ?hd (cs := #[.int .i64 0, .int .i64 0]) (t := 42) ?hr ?_; (case hd => rfl); (case hg => rfl); (case hr => first | (go_simp; done) | (go_simp; rfl)); intro gb106 hg w18 hbox hb; have n0_ := Aside0.mk (below_step bH hb); have n1_ := Aside0.mk (hbox); have n2_ := Aside0.mk ((bZ hg : w.heap.size ≤ gb106)); have n3_ := Aside0.mk ((bZ hg : w.heap.size ≤ gb106)); clear HB; have HB := n0_; have BK106 := n1_; have GW106 := n2_; have GE106 := n3_; clear n0_ n1_ n2_ n3_; clear hb hbox hg; have hcz19_0 : w18.cell? ⟨gb106, 0, none⟩ = some (.int .i64 0) := (blk_cell BK106.out 0).trans rfl; have hcz19_1 : w18.cell? ⟨gb106, 1, none⟩ = some (.int .i64 0) := (blk_cell BK106.out 1).trans rfl; have hfz19_0 := blk_frozen BK106.out 0; have hfz19_1 := blk_frozen BK106.out 1))
         have n0_ : Aside0 (((w18.setCell ⟨gb106, 0, none⟩ (.int .i64 ((rd_T42 l0 x7_1).f0))).setCell ⟨gb106, 1, none⟩ (.int .i64 ((rd_T42 l0 x7_1).f1))).heap[gb106]? = some (.cells #[.int .i64 ((rd_T42 l0 x7_1).f0), .int .i64 ((rd_T42 l0 x7_1).f1)] 42 (0, 0))) := ⟨by (with_reducible repeat (first | refine blk_drewN ?_ _ | refine blk_drew ?_ | refine blk_alloc ?_ _)); refine blk_put (cs := #[.int .i64 ((rd_T42 l0 x7_1).f0), .int .i64 0]) ?_ 1 _ rfl; (with_reducible repeat (first | refine blk_drewN ?_ _ | refine blk_drew ?_ | refine blk_alloc ?_ _)); refine blk_put (cs := #[.int .i64 0, .int .i64 0]) ?_ 0 _ rfl; (with_reducible repeat (first | refine blk_drewN ?_ _ | refine blk_drew ?_ | refine blk_alloc ?_ _)); exact BK106.out⟩
         have n1_ : Aside0 (Below w.heap.size w ((w18.setCell ⟨gb106, 0, none⟩ (.int .i64 ((rd_T42 l0 x7_1).f0))).setCell ⟨gb106, 1, none⟩ (.int .i64 ((rd_T42 l0 x7_1).f1)))) := ⟨by repeat (first | (with_reducible first | exact HB.out | apply below_alloc | apply pw_below_drewN | apply below_drew1 | refine below_set ?_ GE106.out) | exact HB.out)⟩
         (try clear BK106)
         (try clear HB)
         generalize ((w18.setCell ⟨gb106, 0, none⟩ (.int .i64 ((rd_T42 l0 x7_1).f0))).setCell ⟨gb106, 1, none⟩ (.int .i64 ((rd_T42 l0 x7_1).f1))) = w20 at n0_ n1_ ⊢
         have BK106 := n0_
         have HB := n1_
         clear n0_ n1_
         have n0_ := Aside0.mk (blk_drew BK106.out)
         have n1_ := Aside0.mk (below_drew1 HB.out)
         clear BK106 HB
         have BK106 := n0_
         have HB := n1_
         clear n0_ n1_
         refine start_ (n := 37) (S := fun w' => w'.cell? ⟨gb106, 0, none⟩ = some (.int .i64 ((rd_T42 l0 x7_1).f0)) ∧ w'.cell? ⟨gb106, 1, none⟩ = some (.int .i64 ((rd_T42 l0 x7_1).f1))) (ds := []) _ (by kernel_rfl) rfl rfl ⟨(blk_cell BK106.out 0).trans rfl, (blk_cell BK106.out 1).trans rfl⟩ (fun hHeld => ?_); refine with_tabW spec_l6Pairs.tab7 spec_l6Pairs.bits7 (fun HT_ HW_ => ?_)
         generalize w20.drew = w21 at BK106 HB hHeld ⊢
         refine pU HT_ 0 (some 22) (mk 37 1) rfl rfl (h := ?_)
         refine tU HT_ HW_ 1 (some 23) (mk 37 3) hHeld rfl rfl (by rintro w' ⟨s0, s1⟩; go_simp; with_reducible rfl) (h := ?_)
         refine pU HT_ 2 (some 24) (mk 37 7) rfl rfl (h := ?_)
         refine pU HT_ 3 (some 25) (mk 37 15) rfl rfl (h := ?_)
         refine pU HT_ 4 (some 26) (mk 37 31) rfl rfl (h := ?_)
         refine pU HT_ 6 (some 28) (mk 37 95) rfl rfl (h := ?_)
         refine tU HT_ HW_ 5 (some 27) (mk 37 127) hHeld rfl rfl (by rintro w' ⟨s0, s1⟩; go_simp; with_reducible rfl) (h := ?_)
         refine pU HT_ 7 (some 29) (mk 37 255) rfl rfl (h := ?_)
         refine pU HT_ 8 (some 30) (mk 37 511) rfl rfl (h := ?_)
         refine pU HT_ 9 (some 31) (mk 37 1023) rfl rfl (h := ?_)
         refine pU HT_ 10 (some 32) (mk 37 2047) rfl rfl (h := ?_)
         refine tU HT_ HW_ 11 (some 33) (mk 37 4095) hHeld rfl rfl (by rintro w' ⟨s0, s1⟩; go_simp; with_reducible rfl) (h := ?_)
         refine pU HT_ 12 (some 34) (mk 37 8191) rfl rfl (h := ?_)
         refine pU HT_ 13 (some 35) (mk 37 16383) rfl rfl (h := ?_)
         refine pU HT_ 14 (some 36) (mk 37 32767) rfl rfl (h := ?_)
         refine pN HT_ 15 (some 37) (mk 37 65535) rfl rfl (h := ?_)
         refine pN HT_ 16 (some 38) (mk 37 131071) rfl rfl (h := ?_)
         refine pN HT_ 17 (some 39) (mk 37 262143) rfl rfl (h := ?_)
         refine pN HT_ 18 (some 40) (mk 37 524287) rfl rfl (h := ?_)
         refine pU HT_ 19 (some 41) (mk 37 1048575) rfl rfl (h := ?_)
         refine pU HT_ 20 (some 42) (mk 37 2097151) rfl rfl (h := ?_)
         refine pN HT_ 21 (some 43) (mk 37 4194303) rfl rfl (h := ?_)
         refine pN HT_ 22 (some 44) (mk 37 8388607) rfl rfl (h := ?_)
         refine pN HT_ 23 (some 45) (mk 37 16777215) rfl rfl (h := ?_)
         refine pN HT_ 24 (some 46) (mk 37 33554431) rfl rfl (h := ?_)
         refine pN HT_ 25 (some 47) (mk 37 67108863) rfl rfl (h := ?_)
         refine pN HT_ 26 (some 48) (mk 37 134217727) rfl rfl (h := ?_)
         refine pN HT_ 27 (some 49) (mk 37 268435455) rfl rfl (h := ?_)
         refine pN HT_ 28 (some 50) (mk 37 536870911) rfl rfl (h := ?_)
         refine pU HT_ 29 (some 51) (mk 37 1073741823) rfl rfl (h := ?_)
         refine pU HT_ 30 (some 52) (mk 37 2147483647) rfl rfl (h := ?_)
         refine pN HT_ 31 (some 53) (mk 37 4294967295) rfl rfl (h := ?_)
         refine pN HT_ 32 (some 54) (mk 37 8589934591) rfl rfl (h := ?_)
         refine pN HT_ 33 (some 55) (mk 37 17179869183) rfl rfl (h := ?_)
         refine pN HT_ 34 (some 56) (mk 37 34359738367) rfl rfl (h := ?_)
         refine pN HT_ 35 (some 57) (mk 37 68719476735) rfl rfl (h := ?_)
         refine pU HT_ 36 (some 58) (mk 37 137438953471) rfl rfl (h := ?_)
         refine done_ (done_of HT_.out (by kernel_rfl)) ?_
         try go_wp2
         go_ret
         exact ⟨eE, bS⟩
        ·rw [if_neg c17] at H
         have c17b0 : decide (((rd_T42 l0 x7_1).f1) < 0) = false := decide_eq_false c17
         clear c17
         by_cases c22 : ((rd_T42 l0 x7_1).f1) ≥ a1
         ·rw [if_pos c22] at H
          have c22b0 : decide (a1 ≤ ((rd_T42 l0 x7_1).f1)) = true := decide_eq_true c22
          clear c22
          obtain rfl := Option.some.inj H
          have p105 : 0 ≤ (x7_1 : Int) := of_decide_eq_true aA
          have q105 : x7_1 < (l0.length : Int) := of_decide_eq_true aA
          obtain ⟨ad105, e105, hx105_0, hx105_1⟩ := at_T42 HR0.out x7_1 p105 q105
          cases e105
          replace hx105_0 := (HB.out.cell (World.block_lt_of_cell? w _ hx105_0)).trans hx105_0
          replace hx105_1 := (HB.out.cell (World.block_lt_of_cell? w _ hx105_1)).trans hx105_1
          replace p105 := eq_true p105
          replace q105 := eq_true q105
          try go_wp2_with (first | ((with_reducible refine gate_dst (N := 8) rfl ?_); refine box_event ?hg (N := 8) ?hd (cs := #[.int .i64 0, .int .i64 0]) (t := 42) ?hr ?_; (case hd => rfl); (case hg => rfl); (case hr => first | (go_simp; done) | (go_simp; rfl)); intro gb106 hg w23 hbox hb; have n0_ := Aside0.mk (below_step bH hb); have n1_ := Aside0.mk (hbox); have n2_ := Aside0.mk ((bZ hg : w.heap.size ≤ gb106)); have n3_ := Aside0.mk ((bZ hg : w.heap.size ≤ gb106)); clear HB; have HB := n0_; have BK106 := n1_; have GW106 := n2_; have GE106 := n3_; clear n0_ n1_ n2_ n3_; clear hb hbox hg; have hcz24_0 : w23.cell? ⟨gb106, 0, none⟩ = some (.int .i64 0) := (blk_cell BK106.out 0).trans rfl; have hcz24_1 : w23.cell? ⟨gb106, 1, none⟩ = some (.int .i64 0) := (blk_cell BK106.out 1).trans rfl; have hfz24_0 := blk_frozen BK106.out 0; have hfz24_1 := blk_frozen BK106.out 1))
          have n0_ : Aside0 (((w23.setCell ⟨gb106, 0, none⟩ (.int .i64 ((rd_T42 l0 x7_1).f0))).setCell ⟨gb106, 1, none⟩ (.int .i64 ((rd_T42 l0 x7_1).f1))).heap[gb106]? = some (.cells #[.int .i64 ((rd_T42 l0 x7_1).f0), .int .i64 ((rd_T42 l0 x7_1).f1)] 42 (0, 0))) := ⟨by (with_reducible repeat (first | refine blk_drewN ?_ _ | refine blk_drew ?_ | refine blk_alloc ?_ _)); refine blk_put (cs := #[.int .i64 ((rd_T42 l0 x7_1).f0), .int .i64 0]) ?_ 1 _ rfl; (with_reducible repeat (first | refine blk_drewN ?_ _ | refine blk_drew ?_ | refine blk_alloc ?_ _)); refine blk_put (cs := #[.int .i64 0, .int .i64 0]) ?_ 0 _ rfl; (with_reducible repeat (first | refine blk_drewN ?_ _ | refine blk_drew ?_ | refine blk_alloc ?_ _)); exact BK106.out⟩
          have n1_ : Aside0 (Below w.heap.size w ((w23.setCell ⟨gb106, 0, none⟩ (.int .i64 ((rd_T42 l0 x7_1).f0))).setCell ⟨gb106, 1, none⟩ (.int .i64 ((rd_T42 l0 x7_1).f1)))) := ⟨by repeat (first | (with_reducible first | exact HB.out | apply below_alloc | apply pw_below_drewN | apply below_drew1 | refine below_set ?_ GE106.out) | exact HB.out)⟩
          (try clear BK106)
          (try clear HB)
          generalize ((w23.setCell ⟨gb106, 0, none⟩ (.int .i64 ((rd_T42 l0 x7_1).f0))).setCell ⟨gb106, 1, none⟩ (.int .i64 ((rd_T42 l0 x7_1).f1))) = w25 at n0_ n1_ ⊢
          have BK106 := n0_
          have HB := n1_
          clear n0_ n1_
          have n0_ := Aside0.mk (blk_drew BK106.out)
          have n1_ := Aside0.mk (below_drew1 HB.out)
          clear BK106 HB
          have BK106 := n0_
          have HB := n1_
          clear n0_ n1_
          refine start_ (n := 37) (S := fun w' => w'.cell? ⟨gb106, 0, none⟩ = some (.int .i64 ((rd_T42 l0 x7_1).f0)) ∧ w'.cell? ⟨gb106, 1, none⟩ = some (.int .i64 ((rd_T42 l0 x7_1).f1))) (ds := []) _ (by kernel_rfl) rfl rfl ⟨(blk_cell BK106.out 0).trans rfl, (blk_cell BK106.out 1).trans rfl⟩ (fun hHeld => ?_); refine with_tabW spec_l6Pairs.tab7 spec_l6Pairs.bits7 (fun HT_ HW_ => ?_)
          generalize w25.drew = w26 at BK106 HB hHeld ⊢
          refine pU HT_ 0 (some 22) (mk 37 1) rfl rfl (h := ?_)
          refine tU HT_ HW_ 1 (some 23) (mk 37 3) hHeld rfl rfl (by rintro w' ⟨s0, s1⟩; go_simp; with_reducible rfl) (h := ?_)
          refine pU HT_ 2 (some 24) (mk 37 7) rfl rfl (h := ?_)
          refine pU HT_ 3 (some 25) (mk 37 15) rfl rfl (h := ?_)
          refine pU HT_ 4 (some 26) (mk 37 31) rfl rfl (h := ?_)
          refine pU HT_ 6 (some 28) (mk 37 95) rfl rfl (h := ?_)
          refine tU HT_ HW_ 5 (some 27) (mk 37 127) hHeld rfl rfl (by rintro w' ⟨s0, s1⟩; go_simp; with_reducible rfl) (h := ?_)
          refine pU HT_ 7 (some 29) (mk 37 255) rfl rfl (h := ?_)
          refine pU HT_ 8 (some 30) (mk 37 511) rfl rfl (h := ?_)
          refine pU HT_ 9 (some 31) (mk 37 1023) rfl rfl (h := ?_)
          refine pU HT_ 10 (some 32) (mk 37 2047) rfl rfl (h := ?_)
          refine tU HT_ HW_ 11 (some 33) (mk 37 4095) hHeld rfl rfl (by rintro w' ⟨s0, s1⟩; go_simp; with_reducible rfl) (h := ?_)
          refine pU HT_ 12 (some 34) (mk 37 8191) rfl rfl (h := ?_)
          refine pU HT_ 13 (some 35) (mk 37 16383) rfl rfl (h := ?_)
          refine pU HT_ 14 (some 36) (mk 37 32767) rfl rfl (h := ?_)
          refine pU HT_ 15 (some 37) (mk 37 65535) rfl rfl (h := ?_)
          refine pU HT_ 17 (some 39) (mk 37 196607) rfl rfl (h := ?_)
          refine tU HT_ HW_ 16 (some 38) (mk 37 262143) hHeld rfl rfl (by rintro w' ⟨s0, s1⟩; go_simp; with_reducible rfl) (h := ?_)
          refine pU HT_ 18 (some 40) (mk 37 524287) rfl rfl (h := ?_)
          refine pU HT_ 19 (some 41) (mk 37 1048575) rfl rfl (h := ?_)
          refine pU HT_ 20 (some 42) (mk 37 2097151) rfl rfl (h := ?_)
          refine pN HT_ 21 (some 43) (mk 37 4194303) rfl rfl (h := ?_)
          refine pN HT_ 22 (some 44) (mk 37 8388607) rfl rfl (h := ?_)
          refine pN HT_ 23 (some 45) (mk 37 16777215) rfl rfl (h := ?_)
          refine pN HT_ 24 (some 46) (mk 37 33554431) rfl rfl (h := ?_)
          refine pN HT_ 25 (some 47) (mk 37 67108863) rfl rfl (h := ?_)
          refine pN HT_ 26 (some 48) (mk 37 134217727) rfl rfl (h := ?_)
          refine pN HT_ 27 (some 49) (mk 37 268435455) rfl rfl (h := ?_)
          refine pN HT_ 28 (some 50) (mk 37 536870911) rfl rfl (h := ?_)
          refine pU HT_ 29 (some 51) (mk 37 1073741823) rfl rfl (h := ?_)
          refine pU HT_ 30 (some 52) (mk 37 2147483647) rfl rfl (h := ?_)
          refine pN HT_ 31 (some 53) (mk 37 4294967295) rfl rfl (h := ?_)
          refine pN HT_ 32 (some 54) (mk 37 8589934591) rfl rfl (h := ?_)
          refine pN HT_ 33 (some 55) (mk 37 17179869183) rfl rfl (h := ?_)
          refine pN HT_ 34 (some 56) (mk 37 34359738367) rfl rfl (h := ?_)
          refine pN HT_ 35 (some 57) (mk 37 68719476735) rfl rfl (h := ?_)
          refine pU HT_ 36 (some 58) (mk 37 137438953471) rfl rfl (h := ?_)
          refine done_ (done_of HT_.out (by kernel_rfl)) ?_
          try go_wp2
          go_ret
          exact ⟨eE, bS⟩
         ·rw [if_neg c22] at H
          have c22b0 : decide (a1 ≤ ((rd_T42 l0 x7_1).f1)) = false := decide_eq_false c22
          clear c22
          by_cases c27 : a2 = true
          ·subst c27
           have H1 : (if ((rd_T42 l0 x7_1).f0) = ((rd_T42 l0 x7_1).f1) then (some false) else (if x7_1 ≤ (l0.length : Int) then ((spec_l6Has.f k1 (l0.take (x7_1 : Int).toNat) ((rd_T42 l0 x7_1).f0) ((rd_T42 l0 x7_1).f1)).bind fun t111 => (if t111 = true then (some false) else (spec_l6Pairs.l0 k1 l0 a1 true (wrap64 (x7_1 + 1))))) else (none))) = some r := by rw [if_pos rfl] at H; exact H
           clear H
           have H := H1
           clear H1
           by_cases c28 : ((rd_T42 l0 x7_1).f0) = ((rd_T42 l0 x7_1).f1)
           ·rw [if_pos c28] at H
            have c28b0 : (((rd_T42 l0 x7_1).f0) == ((rd_T42 l0 x7_1).f1)) = true := beq_iff_eq.mpr c28
            have c28b1 : (((rd_T42 l0 x7_1).f0) != ((rd_T42 l0 x7_1).f1)) = false := bne_eq_false_iff_eq.mpr c28
            clear c28
            obtain rfl := Option.some.inj H
            have p105 : 0 ≤ (x7_1 : Int) := of_decide_eq_true aA
            have q105 : x7_1 < (l0.length : Int) := of_decide_eq_true aA
            obtain ⟨ad105, e105, hx105_0, hx105_1⟩ := at_T42 HR0.out x7_1 p105 q105
            cases e105
            replace hx105_0 := (HB.out.cell (World.block_lt_of_cell? w _ hx105_0)).trans hx105_0
            replace hx105_1 := (HB.out.cell (World.block_lt_of_cell? w _ hx105_1)).trans hx105_1
            replace p105 := eq_true p105
            replace q105 := eq_true q105
            try go_wp2_with (first | ((with_reducible refine gate_dst (N := 8) rfl ?_); refine box_event ?hg (N := 8) ?hd (cs := #[.int .i64 0, .int .i64 0]) (t := 42) ?hr ?_; (case hd => rfl); (case hg => rfl); (case hr => first | (go_simp; done) | (go_simp; rfl)); intro gb106 hg w29 hbox hb; have n0_ := Aside0.mk (below_step bH hb); have n1_ := Aside0.mk (hbox); have n2_ := Aside0.mk ((bZ hg : w.heap.size ≤ gb106)); have n3_ := Aside0.mk ((bZ hg : w.heap.size ≤ gb106)); clear HB; have HB := n0_; have BK106 := n1_; have GW106 := n2_; have GE106 := n3_; clear n0_ n1_ n2_ n3_; clear hb hbox hg; have hcz30_0 : w29.cell? ⟨gb106, 0, none⟩ = some (.int .i64 0) := (blk_cell BK106.out 0).trans rfl; have hcz30_1 : w29.cell? ⟨gb106, 1, none⟩ = some (.int .i64 0) := (blk_cell BK106.out 1).trans rfl; have hfz30_0 := blk_frozen BK106.out 0; have hfz30_1 := blk_frozen BK106.out 1))
            have n0_ : Aside0 (((w29.setCell ⟨gb106, 0, none⟩ (.int .i64 ((rd_T42 l0 x7_1).f0))).setCell ⟨gb106, 1, none⟩ (.int .i64 ((rd_T42 l0 x7_1).f1))).heap[gb106]? = some (.cells #[.int .i64 ((rd_T42 l0 x7_1).f0), .int .i64 ((rd_T42 l0 x7_1).f1)] 42 (0, 0))) := ⟨by (with_reducible repeat (first | refine blk_drewN ?_ _ | refine blk_drew ?_ | refine blk_alloc ?_ _)); refine blk_put (cs := #[.int .i64 ((rd_T42 l0 x7_1).f0), .int .i64 0]) ?_ 1 _ rfl; (with_reducible repeat (first | refine blk_drewN ?_ _ | refine blk_drew ?_ | refine blk_alloc ?_ _)); refine blk_put (cs := #[.int .i64 0, .int .i64 0]) ?_ 0 _ rfl; (with_reducible repeat (first | refine blk_drewN ?_ _ | refine blk_drew ?_ | refine blk_alloc ?_ _)); exact BK106.out⟩
            have n1_ : Aside0 (Below w.heap.size w ((w29.setCell ⟨gb106, 0, none⟩ (.int .i64 ((rd_T42 l0 x7_1).f0))).setCell ⟨gb106, 1, none⟩ (.int .i64 ((rd_T42 l0 x7_1).f1)))) := ⟨by repeat (first | (with_reducible first | exact HB.out | apply below_alloc | apply pw_below_drewN | apply below_drew1 | refine below_set ?_ GE106.out) | exact HB.out)⟩
            (try clear BK106)
            (try clear HB)
            generalize ((w29.setCell ⟨gb106, 0, none⟩ (.int .i64 ((rd_T42 l0 x7_1).f0))).setCell ⟨gb106, 1, none⟩ (.int .i64 ((rd_T42 l0 x7_1).f1))) = w31 at n0_ n1_ ⊢
            have BK106 := n0_
            have HB := n1_
            clear n0_ n1_
            have n0_ := Aside0.mk (blk_drew BK106.out)
            have n1_ := Aside0.mk (below_drew1 HB.out)
            clear BK106 HB
            have BK106 := n0_
            have HB := n1_
            clear n0_ n1_
            refine start_ (n := 37) (S := fun w' => w'.cell? ⟨gb106, 0, none⟩ = some (.int .i64 ((rd_T42 l0 x7_1).f0)) ∧ w'.cell? ⟨gb106, 1, none⟩ = some (.int .i64 ((rd_T42 l0 x7_1).f1))) (ds := []) _ (by kernel_rfl) rfl rfl ⟨(blk_cell BK106.out 0).trans rfl, (blk_cell BK106.out 1).trans rfl⟩ (fun hHeld => ?_); refine with_tabW spec_l6Pairs.tab7 spec_l6Pairs.bits7 (fun HT_ HW_ => ?_)
            generalize w31.drew = w32 at BK106 HB hHeld ⊢
            refine pU HT_ 0 (some 22) (mk 37 1) rfl rfl (h := ?_)
            refine tU HT_ HW_ 1 (some 23) (mk 37 3) hHeld rfl rfl (by rintro w' ⟨s0, s1⟩; go_simp; with_reducible rfl) (h := ?_)
            refine pU HT_ 2 (some 24) (mk 37 7) rfl rfl (h := ?_)
            refine pU HT_ 3 (some 25) (mk 37 15) rfl rfl (h := ?_)
            refine pU HT_ 4 (some 26) (mk 37 31) rfl rfl (h := ?_)
            refine pU HT_ 6 (some 28) (mk 37 95) rfl rfl (h := ?_)
            refine tU HT_ HW_ 5 (some 27) (mk 37 127) hHeld rfl rfl (by rintro w' ⟨s0, s1⟩; go_simp; with_reducible rfl) (h := ?_)
            refine pU HT_ 7 (some 29) (mk 37 255) rfl rfl (h := ?_)
            refine pU HT_ 8 (some 30) (mk 37 511) rfl rfl (h := ?_)
            refine pU HT_ 9 (some 31) (mk 37 1023) rfl rfl (h := ?_)
            refine pU HT_ 10 (some 32) (mk 37 2047) rfl rfl (h := ?_)
            refine tU HT_ HW_ 11 (some 33) (mk 37 4095) hHeld rfl rfl (by rintro w' ⟨s0, s1⟩; go_simp; with_reducible rfl) (h := ?_)
            refine pU HT_ 12 (some 34) (mk 37 8191) rfl rfl (h := ?_)
            refine pU HT_ 13 (some 35) (mk 37 16383) rfl rfl (h := ?_)
            refine pU HT_ 14 (some 36) (mk 37 32767) rfl rfl (h := ?_)
            refine pU HT_ 15 (some 37) (mk 37 65535) rfl rfl (h := ?_)
            refine pU HT_ 17 (some 39) (mk 37 196607) rfl rfl (h := ?_)
            refine tU HT_ HW_ 16 (some 38) (mk 37 262143) hHeld rfl rfl (by rintro w' ⟨s0, s1⟩; go_simp; with_reducible rfl) (h := ?_)
            refine pU HT_ 18 (some 40) (mk 37 524287) rfl rfl (h := ?_)
            refine pU HT_ 19 (some 41) (mk 37 1048575) rfl rfl (h := ?_)
            refine pU HT_ 20 (some 42) (mk 37 2097151) rfl rfl (h := ?_)
            refine pU HT_ 21 (some 43) (mk 37 4194303) rfl rfl (h := ?_)
            refine pU HT_ 22 (some 44) (mk 37 8388607) rfl rfl (h := ?_)
            refine pU HT_ 23 (some 45) (mk 37 16777215) rfl rfl (h := ?_)
            refine pU HT_ 25 (some 47) (mk 37 50331647) rfl rfl (h := ?_)
            refine tU HT_ HW_ 24 (some 46) (mk 37 67108863) hHeld rfl rfl (by rintro w' ⟨s0, s1⟩; go_simp; with_reducible rfl) (h := ?_)
            refine tU HT_ HW_ 26 (some 48) (mk 37 134217727) hHeld rfl rfl (by rintro w' ⟨s0, s1⟩; go_simp; with_reducible rfl) (h := ?_)
            refine pU HT_ 27 (some 49) (mk 37 268435455) rfl rfl (h := ?_)
            refine pU HT_ 28 (some 50) (mk 37 536870911) rfl rfl (h := ?_)
            refine pU HT_ 29 (some 51) (mk 37 1073741823) rfl rfl (h := ?_)
            refine pU HT_ 30 (some 52) (mk 37 2147483647) rfl rfl (h := ?_)
            refine pN HT_ 31 (some 53) (mk 37 4294967295) rfl rfl (h := ?_)
            refine pN HT_ 32 (some 54) (mk 37 8589934591) rfl rfl (h := ?_)
            refine pN HT_ 33 (some 55) (mk 37 17179869183) rfl rfl (h := ?_)
            refine pN HT_ 34 (some 56) (mk 37 34359738367) rfl rfl (h := ?_)
            refine pN HT_ 35 (some 57) (mk 37 68719476735) rfl rfl (h := ?_)
            refine pU HT_ 36 (some 58) (mk 37 137438953471) rfl rfl (h := ?_)
            refine done_ (done_of HT_.out (by kernel_rfl)) ?_
            try go_wp2
            go_ret
            exact ⟨eE, bS⟩
           ·rw [if_neg c28] at H
            have c28b0 : (((rd_T42 l0 x7_1).f0) == ((rd_T42 l0 x7_1).f1)) = false := beq_eq_false_iff_ne.mpr c28
            have c28b1 : (((rd_T42 l0 x7_1).f0) != ((rd_T42 l0 x7_1).f1)) = true := bne_iff_ne.mpr c28
            have c33b0 := eq_true (of_decide_eq_true aA : 0 ≤ x7_1)
            by_cases c34 : x7_1 ≤ (l0.length : Int)
            ·rw [if_pos c34] at H
             have c34b0 := eq_true c34
             have c34b1 : decide (x7_1 ≤ (l0.length : Int)) = true := decide_eq_true c34
             clear c34
             obtain ⟨y107, hy107⟩ : ∃ y_ : List (S42), y_ = (l0.take (x7_1 : Int).toNat) := ⟨_, rfl⟩
             replace H : ((spec_l6Has.f k1 y107 ((rd_T42 l0 x7_1).f0) ((rd_T42 l0 x7_1).f1)).bind fun t111 => (if t111 = true then (some false) else (spec_l6Pairs.l0 k1 l0 a1 true (wrap64 (x7_1 + 1))))) = some r := by first | (rw [hy107]; with_reducible exact H) | (have H2_ := (Option.bind_some _ _).symm.trans H; rw [hy107]; with_reducible exact H2_) | (have H2_ := (Option.bind_some _ _).symm.trans H; with_reducible exact H2_) | with_reducible exact H | (rw [hy107]; exact H) | exact H
             have Ny107 := Aside0.mk hy107
             clear hy107
             replace H := Option.bind_eq_some_iff.mp H
             obtain ⟨t111, A350, H⟩ := H
             replace H : (if t111 = true then (some false) else (spec_l6Pairs.l0 k1 l0 a1 true (wrap64 (x7_1 + 1)))) = some r := H
             have A35 := Aside0.mk A350
             clear A350
             by_cases c36 : t111 = true
             ·subst c36
              have H1 : (some false) = some r := by rw [if_pos rfl] at H; exact H
              clear H
              have H := H1
              clear H1
              obtain rfl := Option.some.inj H
              have p105 : 0 ≤ (x7_1 : Int) := of_decide_eq_true aA
              have q105 : x7_1 < (l0.length : Int) := of_decide_eq_true aA
              obtain ⟨ad105, e105, hx105_0, hx105_1⟩ := at_T42 HR0.out x7_1 p105 q105
              cases e105
              replace hx105_0 := (HB.out.cell (World.block_lt_of_cell? w _ hx105_0)).trans hx105_0
              replace hx105_1 := (HB.out.cell (World.block_lt_of_cell? w _ hx105_1)).trans hx105_1
              replace p105 := eq_true p105
              replace q105 := eq_true q105
              try go_wp2_with (first | ((with_reducible refine gate_dst (N := 8) rfl ?_); refine box_event ?hg (N := 8) ?hd (cs := #[.int .i64 0, .int .i64 0]) (t := 42) ?hr ?_; (case hd => rfl); (case hg => rfl); (case hr => first | (go_simp; done) | (go_simp; rfl)); intro gb106 hg w37 hbox hb; have n0_ := Aside0.mk (below_step bH hb); have n1_ := Aside0.mk (hbox); have n2_ := Aside0.mk ((bZ hg : w.heap.size ≤ gb106)); have n3_ := Aside0.mk ((bZ hg : w.heap.size ≤ gb106)); clear HB; have HB := n0_; have BK106 := n1_; have GW106 := n2_; have GE106 := n3_; clear n0_ n1_ n2_ n3_; clear hb hbox hg; have hcz38_0 : w37.cell? ⟨gb106, 0, none⟩ = some (.int .i64 0) := (blk_cell BK106.out 0).trans rfl; have hcz38_1 : w37.cell? ⟨gb106, 1, none⟩ = some (.int .i64 0) := (blk_cell BK106.out 1).trans rfl; have hfz38_0 := blk_frozen BK106.out 0; have hfz38_1 := blk_frozen BK106.out 1))
              have n0_ : Aside0 (((w37.setCell ⟨gb106, 0, none⟩ (.int .i64 ((rd_T42 l0 x7_1).f0))).setCell ⟨gb106, 1, none⟩ (.int .i64 ((rd_T42 l0 x7_1).f1))).heap[gb106]? = some (.cells #[.int .i64 ((rd_T42 l0 x7_1).f0), .int .i64 ((rd_T42 l0 x7_1).f1)] 42 (0, 0))) := ⟨by (with_reducible repeat (first | refine blk_drewN ?_ _ | refine blk_drew ?_ | refine blk_alloc ?_ _)); refine blk_put (cs := #[.int .i64 ((rd_T42 l0 x7_1).f0), .int .i64 0]) ?_ 1 _ rfl; (with_reducible repeat (first | refine blk_drewN ?_ _ | refine blk_drew ?_ | refine blk_alloc ?_ _)); refine blk_put (cs := #[.int .i64 0, .int .i64 0]) ?_ 0 _ rfl; (with_reducible repeat (first | refine blk_drewN ?_ _ | refine blk_drew ?_ | refine blk_alloc ?_ _)); exact BK106.out⟩
              have n1_ : Aside0 (Below w.heap.size w ((w37.setCell ⟨gb106, 0, none⟩ (.int .i64 ((rd_T42 l0 x7_1).f0))).setCell ⟨gb106, 1, none⟩ (.int .i64 ((rd_T42 l0 x7_1).f1)))) := ⟨by repeat (first | (with_reducible first | exact HB.out | apply below_alloc | apply pw_below_drewN | apply below_drew1 | refine below_set ?_ GE106.out) | exact HB.out)⟩
              (try clear BK106)
              (try clear HB)
              generalize ((w37.setCell ⟨gb106, 0, none⟩ (.int .i64 ((rd_T42 l0 x7_1).f0))).setCell ⟨gb106, 1, none⟩ (.int .i64 ((rd_T42 l0 x7_1).f1))) = w39 at n0_ n1_ ⊢
              have BK106 := n0_
              have HB := n1_
              clear n0_ n1_
              have n0_ := Aside0.mk (blk_drew BK106.out)
              have n1_ := Aside0.mk (below_drew1 HB.out)
              clear BK106 HB
              have BK106 := n0_
              have HB := n1_
              clear n0_ n1_
              have q41 : (x7_1 : Int) ≤ ((l0.length : Int) : Int) := of_decide_eq_true aA
              obtain ⟨i041, hi041, _, hsz41, _⟩ := info_parts info42
              have hroom41 : l0.length ≤ c0 := HC0.out
              have hC41 : Kd.C k42 _ (some ad105) l0.length l0 := HR0.out
              have hcut41 := cut_to (P := Try.prog) 28 42 .i64 Try.underlying28 hi041 (some ad105) l0.length c0 x7_1 (of_decide_eq_true aA) q41 hroom41
              have hr41 := Kd.C_take (m := (x7_1 : Int).toNat) hC41 (by omega)
              have hy41 : y107.length = (x7_1 : Int).toNat := (by rw [Ny107.out, List.length_take]; omega)
              rw [← Ny107.out] at hr41
              rw [← hy41] at hcut41
              have HR110 := Aside0.mk hr41
              have HC110 := Aside0.mk (show y107.length ≤ c0 from by omega)
              clear hr41 hC41 hroom41 hi041 hsz41
              have KY41 := Aside0.mk hy41
              clear hy41
              replace q41 := eq_true q41
              refine start_ (n := 37) (S := fun w' => w'.cell? ⟨gb106, 0, none⟩ = some (.int .i64 ((rd_T42 l0 x7_1).f0)) ∧ w'.cell? ⟨gb106, 1, none⟩ = some (.int .i64 ((rd_T42 l0 x7_1).f1))) (ds := []) _ (by kernel_rfl) rfl rfl ⟨(blk_cell BK106.out 0).trans rfl, (blk_cell BK106.out 1).trans rfl⟩ (fun hHeld => ?_); refine with_tabW spec_l6Pairs.tab7 spec_l6Pairs.bits7 (fun HT_ HW_ => ?_)
              generalize w39.drew = w40 at BK106 HB HR110 hHeld ⊢
              refine pU HT_ 0 (some 22) (mk 37 1) rfl rfl (h := ?_)
              refine tU HT_ HW_ 1 (some 23) (mk 37 3) hHeld rfl rfl (by rintro w' ⟨s0, s1⟩; go_simp; with_reducible rfl) (h := ?_)
              refine pU HT_ 2 (some 24) (mk 37 7) rfl rfl (h := ?_)
              refine pU HT_ 3 (some 25) (mk 37 15) rfl rfl (h := ?_)
              refine pU HT_ 4 (some 26) (mk 37 31) rfl rfl (h := ?_)
              refine pU HT_ 6 (some 28) (mk 37 95) rfl rfl (h := ?_)
              refine tU HT_ HW_ 5 (some 27) (mk 37 127) hHeld rfl rfl (by rintro w' ⟨s0, s1⟩; go_simp; with_reducible rfl) (h := ?_)
              refine pU HT_ 7 (some 29) (mk 37 255) rfl rfl (h := ?_)
              refine pU HT_ 8 (some 30) (mk 37 511) rfl rfl (h := ?_)
              refine pU HT_ 9 (some 31) (mk 37 1023) rfl rfl (h := ?_)
              refine pU HT_ 10 (some 32) (mk 37 2047) rfl rfl (h := ?_)
              refine tU HT_ HW_ 11 (some 33) (mk 37 4095) hHeld rfl rfl (by rintro w' ⟨s0, s1⟩; go_simp; with_reducible rfl) (h := ?_)
              refine pU HT_ 12 (some 34) (mk 37 8191) rfl rfl (h := ?_)
              refine pU HT_ 13 (some 35) (mk 37 16383) rfl rfl (h := ?_)
              refine pU HT_ 14 (some 36) (mk 37 32767) rfl rfl (h := ?_)
              refine pU HT_ 15 (some 37) (mk 37 65535) rfl rfl (h := ?_)
              refine pU HT_ 17 (some 39) (mk 37 196607) rfl rfl (h := ?_)
              refine tU HT_ HW_ 16 (some 38) (mk 37 262143) hHeld rfl rfl (by rintro w' ⟨s0, s1⟩; go_simp; with_reducible rfl) (h := ?_)
              refine pU HT_ 18 (some 40) (mk 37 524287) rfl rfl (h := ?_)
              refine pU HT_ 19 (some 41) (mk 37 1048575) rfl rfl (h := ?_)
              refine pU HT_ 20 (some 42) (mk 37 2097151) rfl rfl (h := ?_)
              refine pU HT_ 21 (some 43) (mk 37 4194303) rfl rfl (h := ?_)
              refine pU HT_ 22 (some 44) (mk 37 8388607) rfl rfl (h := ?_)
              refine pU HT_ 23 (some 45) (mk 37 16777215) rfl rfl (h := ?_)
              refine pU HT_ 25 (some 47) (mk 37 50331647) rfl rfl (h := ?_)
              refine tU HT_ HW_ 24 (some 46) (mk 37 67108863) hHeld rfl rfl (by rintro w' ⟨s0, s1⟩; go_simp; with_reducible rfl) (h := ?_)
              refine tU HT_ HW_ 26 (some 48) (mk 37 134217727) hHeld rfl rfl (by rintro w' ⟨s0, s1⟩; go_simp; with_reducible rfl) (h := ?_)
              refine pU HT_ 27 (some 49) (mk 37 268435455) rfl rfl (h := ?_)
              refine pU HT_ 28 (some 50) (mk 37 536870911) rfl rfl (h := ?_)
              refine pU HT_ 29 (some 51) (mk 37 1073741823) rfl rfl (h := ?_)
              refine pU HT_ 30 (some 52) (mk 37 2147483647) rfl rfl (h := ?_)
              refine pU HT_ 31 (some 53) (mk 37 4294967295) rfl rfl (h := ?_)
              refine pU HT_ 32 (some 54) (mk 37 8589934591) rfl rfl (h := ?_)
              refine pU HT_ 33 (some 55) (mk 37 17179869183) rfl rfl (h := ?_)
              refine tU HT_ HW_ 34 (some 56) (mk 37 34359738367) hHeld rfl rfl (by rintro w' ⟨s0, s1⟩; go_simp; with_reducible rfl) (h := ?_)
              refine one_ (i := 35) (N := some 57) (mk 37 68719476735) rfl rfl (one_of HT_.out (by kernel_rfl)) (by decide) (fun K hK => ?_)
              refine goes_ Try.func71 (by kernel_rfl) rfl #[.slice (some ad105) y107.length c0, .agg #[.int .i64 ((rd_T42 l0 x7_1).f0), .int .i64 ((rd_T42 l0 x7_1).f1)]] (by rfl) rfl rfl eA ?_
              with_reducible refine (spec_l6Has.calls k1 _ _ y107 ((rd_T42 l0 x7_1).f0) ((rd_T42 l0 x7_1).f1) true _ ?side1 ?side2 A35.out).mono ?_
              (case side1 => repeat (first | exact (Kd.C_below HR110.out HB.out) | (with_reducible refine Kd.C_alloc ?_ _) | (with_reducible refine Kd.C_drewN ?_ _) | (with_reducible refine Kd.C_drew ?_)))
              (case side2 => exact HC110.out)
              rintro e w42 ⟨rfl, hb⟩
              refine ⟨_, rfl, ?_⟩
              have n0_ := Aside0.mk (blk_below (kB BK106.out) hb)
              have n1_ := Aside0.mk (below_step bS hb)
              clear BK106 HB
              have BK106 := n0_
              have HB := n1_
              clear n0_ n1_
              (try clear hb)
              (try clear hb2)
              (try clear hk)
              (try clear hi)
              refine hK.out _ _ ⟨(blk_cell BK106.out 0).trans rfl, (blk_cell BK106.out 1).trans rfl⟩ (fun hHeld => ?_)
              clear hK K
              refine norm_ (a' := ?_) ?_ ?_
              rotate_left
              ·show Act.put _ (some 57) _ = _
               simp only [Act.put, List.setIfInBounds_toArray, List.set_cons_zero, List.set_cons_succ, i64_w, i32_w]
               rfl
              refine pU HT_ 36 (some 58) (mk 37 137438953471) rfl rfl (h := ?_)
              refine done_ (done_of HT_.out (by kernel_rfl)) ?_
              try go_wp2
              go_ret
              exact ⟨eE, bS⟩
             ·replace c36 := Bool.eq_false_iff.mpr c36
              subst c36
              have H1 : (spec_l6Pairs.l0 k1 l0 a1 true (wrap64 (x7_1 + 1))) = some r := by rw [if_neg (show ¬ (false = true) by decide)] at H; exact H
              clear H
              have H := H1
              clear H1
              have H' := Aside0.mk H
              clear H
              have p105 : 0 ≤ (x7_1 : Int) := of_decide_eq_true aA
              have q105 : x7_1 < (l0.length : Int) := of_decide_eq_true aA
              obtain ⟨ad105, e105, hx105_0, hx105_1⟩ := at_T42 HR0.out x7_1 p105 q105
              cases e105
              replace hx105_0 := (HB.out.cell (World.block_lt_of_cell? w _ hx105_0)).trans hx105_0
              replace hx105_1 := (HB.out.cell (World.block_lt_of_cell? w _ hx105_1)).trans hx105_1
              replace p105 := eq_true p105
              replace q105 := eq_true q105
              try go_wp2_with (first | ((with_reducible refine gate_dst (N := 8) rfl ?_); refine box_event ?hg (N := 8) ?hd (cs := #[.int .i64 0, .int .i64 0]) (t := 42) ?hr ?_; (case hd => rfl); (case hg => rfl); (case hr => first | (go_simp; done) | (go_simp; rfl)); intro gb106 hg w43 hbox hb; have n0_ := Aside0.mk (below_step bH hb); have n1_ := Aside0.mk (hbox); have n2_ := Aside0.mk ((bZ hg : w.heap.size ≤ gb106)); have n3_ := Aside0.mk ((bZ hg : w.heap.size ≤ gb106)); clear HB; have HB := n0_; have BK106 := n1_; have GW106 := n2_; have GE106 := n3_; clear n0_ n1_ n2_ n3_; clear hb hbox hg; have hcz44_0 : w43.cell? ⟨gb106, 0, none⟩ = some (.int .i64 0) := (blk_cell BK106.out 0).trans rfl; have hcz44_1 : w43.cell? ⟨gb106, 1, none⟩ = some (.int .i64 0) := (blk_cell BK106.out 1).trans rfl; have hfz44_0 := blk_frozen BK106.out 0; have hfz44_1 := blk_frozen BK106.out 1))
              have n0_ : Aside0 (((w43.setCell ⟨gb106, 0, none⟩ (.int .i64 ((rd_T42 l0 x7_1).f0))).setCell ⟨gb106, 1, none⟩ (.int .i64 ((rd_T42 l0 x7_1).f1))).heap[gb106]? = some (.cells #[.int .i64 ((rd_T42 l0 x7_1).f0), .int .i64 ((rd_T42 l0 x7_1).f1)] 42 (0, 0))) := ⟨by (with_reducible repeat (first | refine blk_drewN ?_ _ | refine blk_drew ?_ | refine blk_alloc ?_ _)); refine blk_put (cs := #[.int .i64 ((rd_T42 l0 x7_1).f0), .int .i64 0]) ?_ 1 _ rfl; (with_reducible repeat (first | refine blk_drewN ?_ _ | refine blk_drew ?_ | refine blk_alloc ?_ _)); refine blk_put (cs := #[.int .i64 0, .int .i64 0]) ?_ 0 _ rfl; (with_reducible repeat (first | refine blk_drewN ?_ _ | refine blk_drew ?_ | refine blk_alloc ?_ _)); exact BK106.out⟩
              have n1_ : Aside0 (Below w.heap.size w ((w43.setCell ⟨gb106, 0, none⟩ (.int .i64 ((rd_T42 l0 x7_1).f0))).setCell ⟨gb106, 1, none⟩ (.int .i64 ((rd_T42 l0 x7_1).f1)))) := ⟨by repeat (first | (with_reducible first | exact HB.out | apply below_alloc | apply pw_below_drewN | apply below_drew1 | refine below_set ?_ GE106.out) | exact HB.out)⟩
              (try clear BK106)
              (try clear HB)
              generalize ((w43.setCell ⟨gb106, 0, none⟩ (.int .i64 ((rd_T42 l0 x7_1).f0))).setCell ⟨gb106, 1, none⟩ (.int .i64 ((rd_T42 l0 x7_1).f1))) = w45 at n0_ n1_ ⊢
              have BK106 := n0_
              have HB := n1_
              clear n0_ n1_
              have n0_ := Aside0.mk (blk_drew BK106.out)
              have n1_ := Aside0.mk (below_drew1 HB.out)
              clear BK106 HB
              have BK106 := n0_
              have HB := n1_
              clear n0_ n1_
              have q47 : (x7_1 : Int) ≤ ((l0.length : Int) : Int) := of_decide_eq_true aA
              obtain ⟨i047, hi047, _, hsz47, _⟩ := info_parts info42
              have hroom47 : l0.length ≤ c0 := HC0.out
              have hC47 : Kd.C k42 _ (some ad105) l0.length l0 := HR0.out
              have hcut47 := cut_to (P := Try.prog) 28 42 .i64 Try.underlying28 hi047 (some ad105) l0.length c0 x7_1 (of_decide_eq_true aA) q47 hroom47
              have hr47 := Kd.C_take (m := (x7_1 : Int).toNat) hC47 (by omega)
              have hy47 : y107.length = (x7_1 : Int).toNat := (by rw [Ny107.out, List.length_take]; omega)
              rw [← Ny107.out] at hr47
              rw [← hy47] at hcut47
              have HR110 := Aside0.mk hr47
              have HC110 := Aside0.mk (show y107.length ≤ c0 from by omega)
              clear hr47 hC47 hroom47 hi047 hsz47
              have KY47 := Aside0.mk hy47
              clear hy47
              replace q47 := eq_true q47
              refine start_ (n := 37) (S := fun w' => w'.cell? ⟨gb106, 0, none⟩ = some (.int .i64 ((rd_T42 l0 x7_1).f0)) ∧ w'.cell? ⟨gb106, 1, none⟩ = some (.int .i64 ((rd_T42 l0 x7_1).f1))) (ds := []) _ (by kernel_rfl) rfl rfl ⟨(blk_cell BK106.out 0).trans rfl, (blk_cell BK106.out 1).trans rfl⟩ (fun hHeld => ?_); refine with_tabW spec_l6Pairs.tab7 spec_l6Pairs.bits7 (fun HT_ HW_ => ?_)
              generalize w45.drew = w46 at BK106 HB HR110 hHeld ⊢
              refine pU HT_ 0 (some 22) (mk 37 1) rfl rfl (h := ?_)
              refine tU HT_ HW_ 1 (some 23) (mk 37 3) hHeld rfl rfl (by rintro w' ⟨s0, s1⟩; go_simp; with_reducible rfl) (h := ?_)
              refine pU HT_ 2 (some 24) (mk 37 7) rfl rfl (h := ?_)
              refine pU HT_ 3 (some 25) (mk 37 15) rfl rfl (h := ?_)
              refine pU HT_ 4 (some 26) (mk 37 31) rfl rfl (h := ?_)
              refine pU HT_ 6 (some 28) (mk 37 95) rfl rfl (h := ?_)
              refine tU HT_ HW_ 5 (some 27) (mk 37 127) hHeld rfl rfl (by rintro w' ⟨s0, s1⟩; go_simp; with_reducible rfl) (h := ?_)
              refine pU HT_ 7 (some 29) (mk 37 255) rfl rfl (h := ?_)
              refine pU HT_ 8 (some 30) (mk 37 511) rfl rfl (h := ?_)
              refine pU HT_ 9 (some 31) (mk 37 1023) rfl rfl (h := ?_)
              refine pU HT_ 10 (some 32) (mk 37 2047) rfl rfl (h := ?_)
              refine tU HT_ HW_ 11 (some 33) (mk 37 4095) hHeld rfl rfl (by rintro w' ⟨s0, s1⟩; go_simp; with_reducible rfl) (h := ?_)
              refine pU HT_ 12 (some 34) (mk 37 8191) rfl rfl (h := ?_)
              refine pU HT_ 13 (some 35) (mk 37 16383) rfl rfl (h := ?_)
              refine pU HT_ 14 (some 36) (mk 37 32767) rfl rfl (h := ?_)
              refine pU HT_ 15 (some 37) (mk 37 65535) rfl rfl (h := ?_)
              refine pU HT_ 17 (some 39) (mk 37 196607) rfl rfl (h := ?_)
              refine tU HT_ HW_ 16 (some 38) (mk 37 262143) hHeld rfl rfl (by rintro w' ⟨s0, s1⟩; go_simp; with_reducible rfl) (h := ?_)
              refine pU HT_ 18 (some 40) (mk 37 524287) rfl rfl (h := ?_)
              refine pU HT_ 19 (some 41) (mk 37 1048575) rfl rfl (h := ?_)
              refine pU HT_ 20 (some 42) (mk 37 2097151) rfl rfl (h := ?_)
              refine pU HT_ 21 (some 43) (mk 37 4194303) rfl rfl (h := ?_)
              refine pU HT_ 22 (some 44) (mk 37 8388607) rfl rfl (h := ?_)
              refine pU HT_ 23 (some 45) (mk 37 16777215) rfl rfl (h := ?_)
              refine pU HT_ 25 (some 47) (mk 37 50331647) rfl rfl (h := ?_)
              refine tU HT_ HW_ 24 (some 46) (mk 37 67108863) hHeld rfl rfl (by rintro w' ⟨s0, s1⟩; go_simp; with_reducible rfl) (h := ?_)
              refine tU HT_ HW_ 26 (some 48) (mk 37 134217727) hHeld rfl rfl (by rintro w' ⟨s0, s1⟩; go_simp; with_reducible rfl) (h := ?_)
              refine pU HT_ 27 (some 49) (mk 37 268435455) rfl rfl (h := ?_)
              refine pU HT_ 28 (some 50) (mk 37 536870911) rfl rfl (h := ?_)
              refine pU HT_ 29 (some 51) (mk 37 1073741823) rfl rfl (h := ?_)
              refine pU HT_ 30 (some 52) (mk 37 2147483647) rfl rfl (h := ?_)
              refine pU HT_ 31 (some 53) (mk 37 4294967295) rfl rfl (h := ?_)
              refine pU HT_ 32 (some 54) (mk 37 8589934591) rfl rfl (h := ?_)
              refine pU HT_ 33 (some 55) (mk 37 17179869183) rfl rfl (h := ?_)
              refine tU HT_ HW_ 34 (some 56) (mk 37 34359738367) hHeld rfl rfl (by rintro w' ⟨s0, s1⟩; go_simp; with_reducible rfl) (h := ?_)
              refine one_ (i := 35) (N := some 57) (mk 37 68719476735) rfl rfl (one_of HT_.out (by kernel_rfl)) (by decide) (fun K hK => ?_)
              refine goes_ Try.func71 (by kernel_rfl) rfl #[.slice (some ad105) y107.length c0, .agg #[.int .i64 ((rd_T42 l0 x7_1).f0), .int .i64 ((rd_T42 l0 x7_1).f1)]] (by rfl) rfl rfl eA ?_
              with_reducible refine (spec_l6Has.calls k1 _ _ y107 ((rd_T42 l0 x7_1).f0) ((rd_T42 l0 x7_1).f1) false _ ?side1 ?side2 A35.out).mono ?_
              (case side1 => repeat (first | exact (Kd.C_below HR110.out HB.out) | (with_reducible refine Kd.C_alloc ?_ _) | (with_reducible refine Kd.C_drewN ?_ _) | (with_reducible refine Kd.C_drew ?_)))
              (case side2 => exact HC110.out)
              rintro e w48 ⟨rfl, hb⟩
              refine ⟨_, rfl, ?_⟩
              have n0_ := Aside0.mk (blk_below (kB BK106.out) hb)
              have n1_ := Aside0.mk (below_step bS hb)
              clear BK106 HB
              have BK106 := n0_
              have HB := n1_
              clear n0_ n1_
              (try clear hb)
              (try clear hb2)
              (try clear hk)
              (try clear hi)
              refine hK.out _ _ ⟨(blk_cell BK106.out 0).trans rfl, (blk_cell BK106.out 1).trans rfl⟩ (fun hHeld => ?_)
              clear hK K
              refine norm_ (a' := ?_) ?_ ?_
              rotate_left
              ·show Act.put _ (some 57) _ = _
               simp only [Act.put, List.setIfInBounds_toArray, List.set_cons_zero, List.set_cons_succ, i64_w, i32_w]
               rfl
              refine pU HT_ 36 (some 58) (mk 37 137438953471) rfl rfl (h := ?_)
              refine done_ (done_of HT_.out (by kernel_rfl)) ?_
              try go_wp2
              go_roundg k1
              case measure => have := HK1.out; omega
              case rel => exact ⟨(wrap64 (x7_1 + 1)), eX, H', ⟨by have := HK1.out; omega⟩, ⟨by repeat (first | (with_reducible first | exact HB.out | apply below_alloc | apply pw_below_drewN | apply below_drew1 | refine below_set ?_ GE106.out) | exact HB.out)⟩⟩
            ·rw [if_neg c34] at H
             exact absurd H (by simp)
          ·replace c27 := Bool.eq_false_iff.mpr c27
           subst c27
           have H1 : (if x7_1 ≤ (l0.length : Int) then ((spec_l6Has.f k1 (l0.take (x7_1 : Int).toNat) ((rd_T42 l0 x7_1).f0) ((rd_T42 l0 x7_1).f1)).bind fun t116 => (if t116 = true then (some false) else (spec_l6Pairs.l0 k1 l0 a1 false (wrap64 (x7_1 + 1))))) else (none)) = some r := by rw [if_neg (show ¬ (false = true) by decide)] at H; exact H
           clear H
           have H := H1
           clear H1
           have c49b0 := eq_true (of_decide_eq_true aA : 0 ≤ x7_1)
           by_cases c50 : x7_1 ≤ (l0.length : Int)
           ·rw [if_pos c50] at H
            have c50b0 := eq_true c50
            have c50b1 : decide (x7_1 ≤ (l0.length : Int)) = true := decide_eq_true c50
            clear c50
            obtain ⟨y112, hy112⟩ : ∃ y_ : List (S42), y_ = (l0.take (x7_1 : Int).toNat) := ⟨_, rfl⟩
            replace H : ((spec_l6Has.f k1 y112 ((rd_T42 l0 x7_1).f0) ((rd_T42 l0 x7_1).f1)).bind fun t116 => (if t116 = true then (some false) else (spec_l6Pairs.l0 k1 l0 a1 false (wrap64 (x7_1 + 1))))) = some r := by first | (rw [hy112]; with_reducible exact H) | (have H2_ := (Option.bind_some _ _).symm.trans H; rw [hy112]; with_reducible exact H2_) | (have H2_ := (Option.bind_some _ _).symm.trans H; with_reducible exact H2_) | with_reducible exact H | (rw [hy112]; exact H) | exact H
            have Ny112 := Aside0.mk hy112
            clear hy112
            replace H := Option.bind_eq_some_iff.mp H
            obtain ⟨t116, A510, H⟩ := H
            replace H : (if t116 = true then (some false) else (spec_l6Pairs.l0 k1 l0 a1 false (wrap64 (x7_1 + 1)))) = some r := H
            have A51 := Aside0.mk A510
            clear A510
            by_cases c52 : t116 = true
            ·subst c52
             have H1 : (some false) = some r := by rw [if_pos rfl] at H; exact H
             clear H
             have H := H1
             clear H1
             obtain rfl := Option.some.inj H
             have p105 : 0 ≤ (x7_1 : Int) := of_decide_eq_true aA
             have q105 : x7_1 < (l0.length : Int) := of_decide_eq_true aA
             obtain ⟨ad105, e105, hx105_0, hx105_1⟩ := at_T42 HR0.out x7_1 p105 q105
             cases e105
             replace hx105_0 := (HB.out.cell (World.block_lt_of_cell? w _ hx105_0)).trans hx105_0
             replace hx105_1 := (HB.out.cell (World.block_lt_of_cell? w _ hx105_1)).trans hx105_1
             replace p105 := eq_true p105
             replace q105 := eq_true q105
             try go_wp2_with (first | ((with_reducible refine gate_dst (N := 8) rfl ?_); refine box_event ?hg (N := 8) ?hd (cs := #[.int .i64 0, .int .i64 0]) (t := 42) ?hr ?_; (case hd => rfl); (case hg => rfl); (case hr => first | (go_simp; done) | (go_simp; rfl)); intro gb106 hg w53 hbox hb; have n0_ := Aside0.mk (below_step bH hb); have n1_ := Aside0.mk (hbox); have n2_ := Aside0.mk ((bZ hg : w.heap.size ≤ gb106)); have n3_ := Aside0.mk ((bZ hg : w.heap.size ≤ gb106)); clear HB; have HB := n0_; have BK106 := n1_; have GW106 := n2_; have GE106 := n3_; clear n0_ n1_ n2_ n3_; clear hb hbox hg; have hcz54_0 : w53.cell? ⟨gb106, 0, none⟩ = some (.int .i64 0) := (blk_cell BK106.out 0).trans rfl; have hcz54_1 : w53.cell? ⟨gb106, 1, none⟩ = some (.int .i64 0) := (blk_cell BK106.out 1).trans rfl; have hfz54_0 := blk_frozen BK106.out 0; have hfz54_1 := blk_frozen BK106.out 1))
             have n0_ : Aside0 (((w53.setCell ⟨gb106, 0, none⟩ (.int .i64 ((rd_T42 l0 x7_1).f0))).setCell ⟨gb106, 1, none⟩ (.int .i64 ((rd_T42 l0 x7_1).f1))).heap[gb106]? = some (.cells #[.int .i64 ((rd_T42 l0 x7_1).f0), .int .i64 ((rd_T42 l0 x7_1).f1)] 42 (0, 0))) := ⟨by (with_reducible repeat (first | refine blk_drewN ?_ _ | refine blk_drew ?_ | refine blk_alloc ?_ _)); refine blk_put (cs := #[.int .i64 ((rd_T42 l0 x7_1).f0), .int .i64 0]) ?_ 1 _ rfl; (with_reducible repeat (first | refine blk_drewN ?_ _ | refine blk_drew ?_ | refine blk_alloc ?_ _)); refine blk_put (cs := #[.int .i64 0, .int .i64 0]) ?_ 0 _ rfl; (with_reducible repeat (first | refine blk_drewN ?_ _ | refine blk_drew ?_ | refine blk_alloc ?_ _)); exact BK106.out⟩
             have n1_ : Aside0 (Below w.heap.size w ((w53.setCell ⟨gb106, 0, none⟩ (.int .i64 ((rd_T42 l0 x7_1).f0))).setCell ⟨gb106, 1, none⟩ (.int .i64 ((rd_T42 l0 x7_1).f1)))) := ⟨by repeat (first | (with_reducible first | exact HB.out | apply below_alloc | apply pw_below_drewN | apply below_drew1 | refine below_set ?_ GE106.out) | exact HB.out)⟩
             (try clear BK106)
             (try clear HB)
             generalize ((w53.setCell ⟨gb106, 0, none⟩ (.int .i64 ((rd_T42 l0 x7_1).f0))).setCell ⟨gb106, 1, none⟩ (.int .i64 ((rd_T42 l0 x7_1).f1))) = w55 at n0_ n1_ ⊢
             have BK106 := n0_
             have HB := n1_
             clear n0_ n1_
             have n0_ := Aside0.mk (blk_drew BK106.out)
             have n1_ := Aside0.mk (below_drew1 HB.out)
             clear BK106 HB
             have BK106 := n0_
             have HB := n1_
             clear n0_ n1_
             have q57 : (x7_1 : Int) ≤ ((l0.length : Int) : Int) := of_decide_eq_true aA
             obtain ⟨i057, hi057, _, hsz57, _⟩ := info_parts info42
             have hroom57 : l0.length ≤ c0 := HC0.out
             have hC57 : Kd.C k42 _ (some ad105) l0.length l0 := HR0.out
             have hcut57 := cut_to (P := Try.prog) 28 42 .i64 Try.underlying28 hi057 (some ad105) l0.length c0 x7_1 (of_decide_eq_true aA) q57 hroom57
             have hr57 := Kd.C_take (m := (x7_1 : Int).toNat) hC57 (by omega)
             have hy57 : y112.length = (x7_1 : Int).toNat := (by rw [Ny112.out, List.length_take]; omega)
             rw [← Ny112.out] at hr57
             rw [← hy57] at hcut57
             have HR115 := Aside0.mk hr57
             have HC115 := Aside0.mk (show y112.length ≤ c0 from by omega)
             clear hr57 hC57 hroom57 hi057 hsz57
             have KY57 := Aside0.mk hy57
             clear hy57
             replace q57 := eq_true q57
             refine start_ (n := 37) (S := fun w' => w'.cell? ⟨gb106, 0, none⟩ = some (.int .i64 ((rd_T42 l0 x7_1).f0)) ∧ w'.cell? ⟨gb106, 1, none⟩ = some (.int .i64 ((rd_T42 l0 x7_1).f1))) (ds := []) _ (by kernel_rfl) rfl rfl ⟨(blk_cell BK106.out 0).trans rfl, (blk_cell BK106.out 1).trans rfl⟩ (fun hHeld => ?_); refine with_tabW spec_l6Pairs.tab7 spec_l6Pairs.bits7 (fun HT_ HW_ => ?_)
             generalize w55.drew = w56 at BK106 HB HR115 hHeld ⊢
             refine pU HT_ 0 (some 22) (mk 37 1) rfl rfl (h := ?_)
             refine tU HT_ HW_ 1 (some 23) (mk 37 3) hHeld rfl rfl (by rintro w' ⟨s0, s1⟩; go_simp; with_reducible rfl) (h := ?_)
             refine pU HT_ 2 (some 24) (mk 37 7) rfl rfl (h := ?_)
             refine pU HT_ 3 (some 25) (mk 37 15) rfl rfl (h := ?_)
             refine pU HT_ 4 (some 26) (mk 37 31) rfl rfl (h := ?_)
             refine pU HT_ 6 (some 28) (mk 37 95) rfl rfl (h := ?_)
             refine tU HT_ HW_ 5 (some 27) (mk 37 127) hHeld rfl rfl (by rintro w' ⟨s0, s1⟩; go_simp; with_reducible rfl) (h := ?_)
             refine pU HT_ 7 (some 29) (mk 37 255) rfl rfl (h := ?_)
             refine pU HT_ 8 (some 30) (mk 37 511) rfl rfl (h := ?_)
             refine pU HT_ 9 (some 31) (mk 37 1023) rfl rfl (h := ?_)
             refine pU HT_ 10 (some 32) (mk 37 2047) rfl rfl (h := ?_)
             refine tU HT_ HW_ 11 (some 33) (mk 37 4095) hHeld rfl rfl (by rintro w' ⟨s0, s1⟩; go_simp; with_reducible rfl) (h := ?_)
             refine pU HT_ 12 (some 34) (mk 37 8191) rfl rfl (h := ?_)
             refine pU HT_ 13 (some 35) (mk 37 16383) rfl rfl (h := ?_)
             refine pU HT_ 14 (some 36) (mk 37 32767) rfl rfl (h := ?_)
             refine pU HT_ 15 (some 37) (mk 37 65535) rfl rfl (h := ?_)
             refine pU HT_ 17 (some 39) (mk 37 196607) rfl rfl (h := ?_)
             refine tU HT_ HW_ 16 (some 38) (mk 37 262143) hHeld rfl rfl (by rintro w' ⟨s0, s1⟩; go_simp; with_reducible rfl) (h := ?_)
             refine pU HT_ 18 (some 40) (mk 37 524287) rfl rfl (h := ?_)
             refine pU HT_ 19 (some 41) (mk 37 1048575) rfl rfl (h := ?_)
             refine pU HT_ 20 (some 42) (mk 37 2097151) rfl rfl (h := ?_)
             refine pU HT_ 21 (some 43) (mk 37 4194303) rfl rfl (h := ?_)
             refine pU HT_ 22 (some 44) (mk 37 8388607) rfl rfl (h := ?_)
             refine pN HT_ 23 (some 45) (mk 37 16777215) rfl rfl (h := ?_)
             refine pN HT_ 24 (some 46) (mk 37 33554431) rfl rfl (h := ?_)
             refine pN HT_ 25 (some 47) (mk 37 67108863) rfl rfl (h := ?_)
             refine pN HT_ 26 (some 48) (mk 37 134217727) rfl rfl (h := ?_)
             refine pN HT_ 27 (some 49) (mk 37 268435455) rfl rfl (h := ?_)
             refine pU HT_ 28 (some 50) (mk 37 536870911) rfl rfl (h := ?_)
             refine pU HT_ 29 (some 51) (mk 37 1073741823) rfl rfl (h := ?_)
             refine pU HT_ 30 (some 52) (mk 37 2147483647) rfl rfl (h := ?_)
             refine pU HT_ 31 (some 53) (mk 37 4294967295) rfl rfl (h := ?_)
             refine pU HT_ 32 (some 54) (mk 37 8589934591) rfl rfl (h := ?_)
             refine pU HT_ 33 (some 55) (mk 37 17179869183) rfl rfl (h := ?_)
             refine tU HT_ HW_ 34 (some 56) (mk 37 34359738367) hHeld rfl rfl (by rintro w' ⟨s0, s1⟩; go_simp; with_reducible rfl) (h := ?_)
             refine one_ (i := 35) (N := some 57) (mk 37 68719476735) rfl rfl (one_of HT_.out (by kernel_rfl)) (by decide) (fun K hK => ?_)
             refine goes_ Try.func71 (by kernel_rfl) rfl #[.slice (some ad105) y112.length c0, .agg #[.int .i64 ((rd_T42 l0 x7_1).f0), .int .i64 ((rd_T42 l0 x7_1).f1)]] (by rfl) rfl rfl eA ?_
             with_reducible refine (spec_l6Has.calls k1 _ _ y112 ((rd_T42 l0 x7_1).f0) ((rd_T42 l0 x7_1).f1) true _ ?side1 ?side2 A51.out).mono ?_
             (case side1 => repeat (first | exact (Kd.C_below HR115.out HB.out) | (with_reducible refine Kd.C_alloc ?_ _) | (with_reducible refine Kd.C_drewN ?_ _) | (with_reducible refine Kd.C_drew ?_)))
             (case side2 => exact HC115.out)
             rintro e w58 ⟨rfl, hb⟩
             refine ⟨_, rfl, ?_⟩
             have n0_ := Aside0.mk (blk_below (kB BK106.out) hb)
             have n1_ := Aside0.mk (below_step bS hb)
             clear BK106 HB
             have BK106 := n0_
             have HB := n1_
             clear n0_ n1_
             (try clear hb)
             (try clear hb2)
             (try clear hk)
             (try clear hi)
             refine hK.out _ _ ⟨(blk_cell BK106.out 0).trans rfl, (blk_cell BK106.out 1).trans rfl⟩ (fun hHeld => ?_)
             clear hK K
             refine norm_ (a' := ?_) ?_ ?_
             rotate_left
             ·show Act.put _ (some 57) _ = _
              simp only [Act.put, List.setIfInBounds_toArray, List.set_cons_zero, List.set_cons_succ, i64_w, i32_w]
              rfl
             refine pU HT_ 36 (some 58) (mk 37 137438953471) rfl rfl (h := ?_)
             refine done_ (done_of HT_.out (by kernel_rfl)) ?_
             try go_wp2
             go_ret
             exact ⟨eE, bS⟩
            ·replace c52 := Bool.eq_false_iff.mpr c52
             subst c52
             have H1 : (spec_l6Pairs.l0 k1 l0 a1 false (wrap64 (x7_1 + 1))) = some r := by rw [if_neg (show ¬ (false = true) by decide)] at H; exact H
             clear H
             have H := H1
             clear H1
             have H' := Aside0.mk H
             clear H
             have p105 : 0 ≤ (x7_1 : Int) := of_decide_eq_true aA
             have q105 : x7_1 < (l0.length : Int) := of_decide_eq_true aA
             obtain ⟨ad105, e105, hx105_0, hx105_1⟩ := at_T42 HR0.out x7_1 p105 q105
             cases e105
             replace hx105_0 := (HB.out.cell (World.block_lt_of_cell? w _ hx105_0)).trans hx105_0
             replace hx105_1 := (HB.out.cell (World.block_lt_of_cell? w _ hx105_1)).trans hx105_1
             replace p105 := eq_true p105
             replace q105 := eq_true q105
             try go_wp2_with (first | ((with_reducible refine gate_dst (N := 8) rfl ?_); refine box_event ?hg (N := 8) ?hd (cs := #[.int .i64 0, .int .i64 0]) (t := 42) ?hr ?_; (case hd => rfl); (case hg => rfl); (case hr => first | (go_simp; done) | (go_simp; rfl)); intro gb106 hg w59 hbox hb; have n0_ := Aside0.mk (below_step bH hb); have n1_ := Aside0.mk (hbox); have n2_ := Aside0.mk ((bZ hg : w.heap.size ≤ gb106)); have n3_ := Aside0.mk ((bZ hg : w.heap.size ≤ gb106)); clear HB; have HB := n0_; have BK106 := n1_; have GW106 := n2_; have GE106 := n3_; clear n0_ n1_ n2_ n3_; clear hb hbox hg; have hcz60_0 : w59.cell? ⟨gb106, 0, none⟩ = some (.int .i64 0) := (blk_cell BK106.out 0).trans rfl; have hcz60_1 : w59.cell? ⟨gb106, 1, none⟩ = some (.int .i64 0) := (blk_cell BK106.out 1).trans rfl; have hfz60_0 := blk_frozen BK106.out 0; have hfz60_1 := blk_frozen BK106.out 1))
             have n0_ : Aside0 (((w59.setCell ⟨gb106, 0, none⟩ (.int .i64 ((rd_T42 l0 x7_1).f0))).setCell ⟨gb106, 1, none⟩ (.int .i64 ((rd_T42 l0 x7_1).f1))).heap[gb106]? = some (.cells #[.int .i64 ((rd_T42 l0 x7_1).f0), .int .i64 ((rd_T42 l0 x7_1).f1)] 42 (0, 0))) := ⟨by (with_reducible repeat (first | refine blk_drewN ?_ _ | refine blk_drew ?_ | refine blk_alloc ?_ _)); refine blk_put (cs := #[.int .i64 ((rd_T42 l0 x7_1).f0), .int .i64 0]) ?_ 1 _ rfl; (with_reducible repeat (first | refine blk_drewN ?_ _ | refine blk_drew ?_ | refine blk_alloc ?_ _)); refine blk_put (cs := #[.int .i64 0, .int .i64 0]) ?_ 0 _ rfl; (with_reducible repeat (first | refine blk_drewN ?_ _ | refine blk_drew ?_ | refine blk_alloc ?_ _)); exact BK106.out⟩
             have n1_ : Aside0 (Below w.heap.size w ((w59.setCell ⟨gb106, 0, none⟩ (.int .i64 ((rd_T42 l0 x7_1).f0))).setCell ⟨gb106, 1, none⟩ (.int .i64 ((rd_T42 l0 x7_1).f1)))) := ⟨by repeat (first | (with_reducible first | exact HB.out | apply below_alloc | apply pw_below_drewN | apply below_drew1 | refine below_set ?_ GE106.out) | exact HB.out)⟩
             (try clear BK106)
             (try clear HB)
             generalize ((w59.setCell ⟨gb106, 0, none⟩ (.int .i64 ((rd_T42 l0 x7_1).f0))).setCell ⟨gb106, 1, none⟩ (.int .i64 ((rd_T42 l0 x7_1).f1))) = w61 at n0_ n1_ ⊢
             have BK106 := n0_
             have HB := n1_
             clear n0_ n1_
             have n0_ := Aside0.mk (blk_drew BK106.out)
             have n1_ := Aside0.mk (below_drew1 HB.out)
             clear BK106 HB
             have BK106 := n0_
             have HB := n1_
             clear n0_ n1_
             have q63 : (x7_1 : Int) ≤ ((l0.length : Int) : Int) := of_decide_eq_true aA
             obtain ⟨i063, hi063, _, hsz63, _⟩ := info_parts info42
             have hroom63 : l0.length ≤ c0 := HC0.out
             have hC63 : Kd.C k42 _ (some ad105) l0.length l0 := HR0.out
             have hcut63 := cut_to (P := Try.prog) 28 42 .i64 Try.underlying28 hi063 (some ad105) l0.length c0 x7_1 (of_decide_eq_true aA) q63 hroom63
             have hr63 := Kd.C_take (m := (x7_1 : Int).toNat) hC63 (by omega)
             have hy63 : y112.length = (x7_1 : Int).toNat := (by rw [Ny112.out, List.length_take]; omega)
             rw [← Ny112.out] at hr63
             rw [← hy63] at hcut63
             have HR115 := Aside0.mk hr63
             have HC115 := Aside0.mk (show y112.length ≤ c0 from by omega)
             clear hr63 hC63 hroom63 hi063 hsz63
             have KY63 := Aside0.mk hy63
             clear hy63
             replace q63 := eq_true q63
             refine start_ (n := 37) (S := fun w' => w'.cell? ⟨gb106, 0, none⟩ = some (.int .i64 ((rd_T42 l0 x7_1).f0)) ∧ w'.cell? ⟨gb106, 1, none⟩ = some (.int .i64 ((rd_T42 l0 x7_1).f1))) (ds := []) _ (by kernel_rfl) rfl rfl ⟨(blk_cell BK106.out 0).trans rfl, (blk_cell BK106.out 1).trans rfl⟩ (fun hHeld => ?_); refine with_tabW spec_l6Pairs.tab7 spec_l6Pairs.bits7 (fun HT_ HW_ => ?_)
             generalize w61.drew = w62 at BK106 HB HR115 hHeld ⊢
             refine pU HT_ 0 (some 22) (mk 37 1) rfl rfl (h := ?_)
             refine tU HT_ HW_ 1 (some 23) (mk 37 3) hHeld rfl rfl (by rintro w' ⟨s0, s1⟩; go_simp; with_reducible rfl) (h := ?_)
             refine pU HT_ 2 (some 24) (mk 37 7) rfl rfl (h := ?_)
             refine pU HT_ 3 (some 25) (mk 37 15) rfl rfl (h := ?_)
             refine pU HT_ 4 (some 26) (mk 37 31) rfl rfl (h := ?_)
             refine pU HT_ 6 (some 28) (mk 37 95) rfl rfl (h := ?_)
             refine tU HT_ HW_ 5 (some 27) (mk 37 127) hHeld rfl rfl (by rintro w' ⟨s0, s1⟩; go_simp; with_reducible rfl) (h := ?_)
             refine pU HT_ 7 (some 29) (mk 37 255) rfl rfl (h := ?_)
             refine pU HT_ 8 (some 30) (mk 37 511) rfl rfl (h := ?_)
             refine pU HT_ 9 (some 31) (mk 37 1023) rfl rfl (h := ?_)
             refine pU HT_ 10 (some 32) (mk 37 2047) rfl rfl (h := ?_)
             refine tU HT_ HW_ 11 (some 33) (mk 37 4095) hHeld rfl rfl (by rintro w' ⟨s0, s1⟩; go_simp; with_reducible rfl) (h := ?_)
             refine pU HT_ 12 (some 34) (mk 37 8191) rfl rfl (h := ?_)
             refine pU HT_ 13 (some 35) (mk 37 16383) rfl rfl (h := ?_)
             refine pU HT_ 14 (some 36) (mk 37 32767) rfl rfl (h := ?_)
             refine pU HT_ 15 (some 37) (mk 37 65535) rfl rfl (h := ?_)
             refine pU HT_ 17 (some 39) (mk 37 196607) rfl rfl (h := ?_)
             refine tU HT_ HW_ 16 (some 38) (mk 37 262143) hHeld rfl rfl (by rintro w' ⟨s0, s1⟩; go_simp; with_reducible rfl) (h := ?_)
             refine pU HT_ 18 (some 40) (mk 37 524287) rfl rfl (h := ?_)
             refine pU HT_ 19 (some 41) (mk 37 1048575) rfl rfl (h := ?_)
             refine pU HT_ 20 (some 42) (mk 37 2097151) rfl rfl (h := ?_)
             refine pU HT_ 21 (some 43) (mk 37 4194303) rfl rfl (h := ?_)
             refine pU HT_ 22 (some 44) (mk 37 8388607) rfl rfl (h := ?_)
             refine pN HT_ 23 (some 45) (mk 37 16777215) rfl rfl (h := ?_)
             refine pN HT_ 24 (some 46) (mk 37 33554431) rfl rfl (h := ?_)
             refine pN HT_ 25 (some 47) (mk 37 67108863) rfl rfl (h := ?_)
             refine pN HT_ 26 (some 48) (mk 37 134217727) rfl rfl (h := ?_)
             refine pN HT_ 27 (some 49) (mk 37 268435455) rfl rfl (h := ?_)
             refine pU HT_ 28 (some 50) (mk 37 536870911) rfl rfl (h := ?_)
             refine pU HT_ 29 (some 51) (mk 37 1073741823) rfl rfl (h := ?_)
             refine pU HT_ 30 (some 52) (mk 37 2147483647) rfl rfl (h := ?_)
             refine pU HT_ 31 (some 53) (mk 37 4294967295) rfl rfl (h := ?_)
             refine pU HT_ 32 (some 54) (mk 37 8589934591) rfl rfl (h := ?_)
             refine pU HT_ 33 (some 55) (mk 37 17179869183) rfl rfl (h := ?_)
             refine tU HT_ HW_ 34 (some 56) (mk 37 34359738367) hHeld rfl rfl (by rintro w' ⟨s0, s1⟩; go_simp; with_reducible rfl) (h := ?_)
             refine one_ (i := 35) (N := some 57) (mk 37 68719476735) rfl rfl (one_of HT_.out (by kernel_rfl)) (by decide) (fun K hK => ?_)
             refine goes_ Try.func71 (by kernel_rfl) rfl #[.slice (some ad105) y112.length c0, .agg #[.int .i64 ((rd_T42 l0 x7_1).f0), .int .i64 ((rd_T42 l0 x7_1).f1)]] (by rfl) rfl rfl eA ?_
             with_reducible refine (spec_l6Has.calls k1 _ _ y112 ((rd_T42 l0 x7_1).f0) ((rd_T42 l0 x7_1).f1) false _ ?side1 ?side2 A51.out).mono ?_
             (case side1 => repeat (first | exact (Kd.C_below HR115.out HB.out) | (with_reducible refine Kd.C_alloc ?_ _) | (with_reducible refine Kd.C_drewN ?_ _) | (with_reducible refine Kd.C_drew ?_)))
             (case side2 => exact HC115.out)
             rintro e w64 ⟨rfl, hb⟩
             refine ⟨_, rfl, ?_⟩
             have n0_ := Aside0.mk (blk_below (kB BK106.out) hb)
             have n1_ := Aside0.mk (below_step bS hb)
             clear BK106 HB
             have BK106 := n0_
             have HB := n1_
             clear n0_ n1_
             (try clear hb)
             (try clear hb2)
             (try clear hk)
             (try clear hi)
             refine hK.out _ _ ⟨(blk_cell BK106.out 0).trans rfl, (blk_cell BK106.out 1).trans rfl⟩ (fun hHeld => ?_)
             clear hK K
             refine norm_ (a' := ?_) ?_ ?_
             rotate_left
             ·show Act.put _ (some 57) _ = _
              simp only [Act.put, List.setIfInBounds_toArray, List.set_cons_zero, List.set_cons_succ, i64_w, i32_w]
              rfl
             refine pU HT_ 36 (some 58) (mk 37 137438953471) rfl rfl (h := ?_)
             refine done_ (done_of HT_.out (by kernel_rfl)) ?_
             try go_wp2
             go_roundg k1
             case measure => have := HK1.out; omega
             case rel => exact ⟨(wrap64 (x7_1 + 1)), eX, H', ⟨by have := HK1.out; omega⟩, ⟨by repeat (first | (with_reducible first | exact HB.out | apply below_alloc | apply pw_below_drewN | apply below_drew1 | refine below_set ?_ GE106.out) | exact HB.out)⟩⟩
           ·rw [if_neg c50] at H
            exact absurd H (by simp)
     ·rw [if_neg c6] at H
      exact absurd H (by simp)
    ·rw [if_neg c5] at H
     have c5b0 : decide (x7_1 < (l0.length : Int)) = false := decide_eq_false c5
     clear c5
     obtain rfl := Option.some.inj H
     go_wp2
     go_ret
     exact ⟨eE, bH⟩

end Go.Proofs.Ytmhjpnjolgigmaa.OFnWay
-- halved
-- squeezed
-- squeezed2
