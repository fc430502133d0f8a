-- walks of this claim, written by a program of mine
import Derived.Test.YtmhjpnjolgigmaaOFnWayx0
import Derived.Test.YtmhjpnjolgigmaaOFnWayx7
namespace Go.Proofs.Ytmhjpnjolgigmaa.OFnWay
open Go.RowKit Go.Proofs.Ytmhjpnjolgigmaa.OWord Go.Proofs.YtmhjpnjolgigmaaW.PrintWords Go.Proofs.YtmhjpnjolgigmaaW.PrintLast Go.Proofs.YtmhjpnjolgigmaaW.PrintMore
attribute [local go_sem] max2_int min2_int max_two min_two max_three min_three max_four min_four   -- for this text's walks alone
set_option linter.unusedVariables false
set_option linter.unusedSimpArgs false

/-! ### impl_arePairs_of_ConfigOk_1: function 51 -/
def impl_arePairs_of_ConfigOk_1.l0 : Nat → List (S42) → List (S42) → Int → Int → Option (Bool)
 | 0, _, _, _, _ => none
 | k + 1, x0, x7, x8, x9 => if x9 < x8 then (if 0 ≤ x9 then (if x9 < (x7.length : Int) then ((impl_ConfigOk_1.f ((rd_T42 x7 x9).f0) ((rd_T42 x7 x9).f1)).bind fun t299 => (if t299 = true then (if x9 ≤ (x0.length : Int) then ((impl_Pair_68.f k (x0.take (x9 : Int).toNat) ((rd_T42 x7 x9).f0) ((rd_T42 x7 x9).f1)).bind fun t304 => (if t304 = true then (some false) else (impl_arePairs_of_ConfigOk_1.l0 k x0 x7 x8 (wrap64 (x9 + 1))))) else (none)) else (some false))) else (none)) else (none)) else (some (decide ((x0.length : Int) ≤ 6)))
def impl_arePairs_of_ConfigOk_1.f (k : Nat) (l0 : List (S42))  : Option (Bool) := impl_arePairs_of_ConfigOk_1.l0 k l0 l0 (l0.length : Int) 0
def impl_arePairs_of_ConfigOk_1.T4 : Bool × List (List Nat × List Nat) := (true, [([], []), ([], []), ([0, 1], [0, 1]), ([2], [2]), ([3, 2], [3]), ([4], [4]), ([4], [4]), ([5, 6, 4], [4, 5, 6]), ([4], [4]), ([7, 8, 4, 4], [4, 7, 8]), ([4, 9], [4, 9])])
def impl_arePairs_of_ConfigOk_1.B4 : List Nat := [0, 0, 3, 7, 15, 31, 31, 127, 31, 511, 1023]
theorem impl_arePairs_of_ConfigOk_1.tab4 : rtab .any (opsOf Try.f51 4) = impl_arePairs_of_ConfigOk_1.T4 := by kernel_rfl
theorem impl_arePairs_of_ConfigOk_1.bits4 : waitsOk impl_arePairs_of_ConfigOk_1.T4.2 impl_arePairs_of_ConfigOk_1.B4 = true := by kernel_rfl
set_option maxHeartbeats 8000000 in
set_option maxRecDepth 100000 in
theorem impl_arePairs_of_ConfigOk_1.calls (k : Nat) (A0 : Option Addr) (c0 : Nat) (l0 : List (S42))  (r : Bool) (w : World) (hr0 : Kd.C k42 w A0 l0.length l0) (hc0 : l0.length ≤ c0) (h : impl_arePairs_of_ConfigOk_1.f k l0 = some r) :
  Calls Try.prog 51 #[.slice A0 l0.length c0, .func (.func 52) #[] #[]] w fun e w' => e = .returned (.bool r) ∧ Below w.heap.size w w' := by
 have hu42 := Try.underlying42
 have HR0 := Aside0.mk hr0
 have HC0 := Aside0.mk hc0
 clear hr0 hc0
 have HB := Aside0.mk (Below.refl w.heap.size w)
 have H : (impl_arePairs_of_ConfigOk_1.l0 k l0 l0 (l0.length : Int) 0) = some r := h
 clear h
 have H' := Aside0.mk H
 clear H
 go_enter Try.func51, Try.ntmps51
 go_wp2
 go_loopg [9] k (fun kq v9 w' => ∃ (x9_1 : Int), v9 = .int .i64 x9_1 ∧ Aside0 (impl_arePairs_of_ConfigOk_1.l0 kq l0 l0 (l0.length : Int) x9_1 = some r) ∧ Aside0 (kq ≤ k) ∧ Aside0 (Below w.heap.size w w'))
 case atStart => exact ⟨(0), eX, H', ⟨Nat.le_refl _⟩, ⟨by repeat (first | (with_reducible first | exact HB.out | apply below_alloc | apply pw_below_drewN | apply below_drew1) | exact HB.out)⟩⟩
 case round =>
  clear H'
  try clear p2
  obtain ⟨x9_1, rfl, HA, HK1, HB⟩ := hrel
  cases gk with
  | zero => exact absurd HA.out (by simp [impl_arePairs_of_ConfigOk_1.l0])
  | succ k1 =>
   have H := HA.out
   clear HA
   simp only [impl_arePairs_of_ConfigOk_1.l0] at H
   by_cases c3 : x9_1 < (l0.length : Int)
   ·rw [if_pos c3] at H
    have c3b0 : decide (x9_1 < (l0.length : Int)) = true := decide_eq_true c3
    clear c3
    by_cases c4 : 0 ≤ x9_1
    ·rw [if_pos c4] at H
     have c4b0 : decide (0 ≤ x9_1) = true := decide_eq_true c4
     clear c4
     by_cases c5 : x9_1 < (l0.length : Int)
     ·rw [if_pos c5] at H
      have c5b0 : decide (x9_1 < (l0.length : Int)) = true := decide_eq_true c5
      clear c5
      replace H := Option.bind_eq_some_iff.mp H
      obtain ⟨t299, A60, H⟩ := H
      replace H : (if t299 = true then (if x9_1 ≤ (l0.length : Int) then ((impl_Pair_68.f k1 (l0.take (x9_1 : Int).toNat) ((rd_T42 l0 x9_1).f0) ((rd_T42 l0 x9_1).f1)).bind fun t304 => (if t304 = true then (some false) else (impl_arePairs_of_ConfigOk_1.l0 k1 l0 l0 (l0.length : Int) (wrap64 (x9_1 + 1))))) else (none)) else (some false)) = some r := H
      have A6 := Aside0.mk A60
      clear A60
      by_cases c7 : t299 = true
      ·subst c7
       have H1 : (if x9_1 ≤ (l0.length : Int) then ((impl_Pair_68.f k1 (l0.take (x9_1 : Int).toNat) ((rd_T42 l0 x9_1).f0) ((rd_T42 l0 x9_1).f1)).bind fun t304 => (if t304 = true then (some false) else (impl_arePairs_of_ConfigOk_1.l0 k1 l0 l0 (l0.length : Int) (wrap64 (x9_1 + 1))))) else (none)) = some r := by rw [if_pos rfl] at H; exact H
       clear H
       have H := H1
       clear H1
       have c8b0 := eq_true (of_decide_eq_true aA : 0 ≤ x9_1)
       by_cases c9 : x9_1 ≤ (l0.length : Int)
       ·rw [if_pos c9] at H
        have c9b0 := eq_true c9
        have c9b1 : decide (x9_1 ≤ (l0.length : Int)) = true := decide_eq_true c9
        clear c9
        obtain ⟨y300, hy300⟩ : ∃ y_ : List (S42), y_ = (l0.take (x9_1 : Int).toNat) := ⟨_, rfl⟩
        replace H : ((impl_Pair_68.f k1 y300 ((rd_T42 l0 x9_1).f0) ((rd_T42 l0 x9_1).f1)).bind fun t304 => (if t304 = true then (some false) else (impl_arePairs_of_ConfigOk_1.l0 k1 l0 l0 (l0.length : Int) (wrap64 (x9_1 + 1))))) = some r := by first | (rw [hy300]; with_reducible exact H) | (have H2_ := (Option.bind_some _ _).symm.trans H; rw [hy300]; with_reducible exact H2_) | (have H2_ := (Option.bind_some _ _).symm.trans H; with_reducible exact H2_) | with_reducible exact H | (rw [hy300]; exact H) | exact H
        have Ny300 := Aside0.mk hy300
        clear hy300
        replace H := Option.bind_eq_some_iff.mp H
        obtain ⟨t304, A100, H⟩ := H
        replace H : (if t304 = true then (some false) else (impl_arePairs_of_ConfigOk_1.l0 k1 l0 l0 (l0.length : Int) (wrap64 (x9_1 + 1)))) = some r := H
        have A10 := Aside0.mk A100
        clear A100
        by_cases c11 : t304 = true
        ·subst c11
         have H1 : (some false) = some r := by rw [if_pos rfl] at H; exact H
         clear H
         have H := H1
         clear H1
         obtain rfl := Option.some.inj H
         have p297 : 0 ≤ (x9_1 : Int) := of_decide_eq_true aA
         have q297 : x9_1 < (l0.length : Int) := of_decide_eq_true aA
         obtain ⟨ad297, e297, hx297_0, hx297_1⟩ := at_T42 HR0.out x9_1 p297 q297
         cases e297
         replace hx297_0 := (HB.out.cell (World.block_lt_of_cell? w _ hx297_0)).trans hx297_0
         replace hx297_1 := (HB.out.cell (World.block_lt_of_cell? w _ hx297_1)).trans hx297_1
         replace p297 := eq_true p297
         replace q297 := eq_true q297
         try go_wp2_with (first | ((with_reducible refine gate_dst (N := 6) rfl ?_); refine box_event ?hg (N := 6) ?hd (cs := #[.int .i64 0, .int .i64 0]) (t := 42) ?hr ?_; (case hd => rfl); (case hg => rfl); (case hr => first | (go_simp; done) | (go_simp; rfl)); intro gb298 hg w12 hbox hb; have n0_ := Aside0.mk (below_step bH hb); have n1_ := Aside0.mk (hbox); have n2_ := Aside0.mk ((bZ hg : w.heap.size ≤ gb298)); have n3_ := Aside0.mk ((bZ hg : w.heap.size ≤ gb298)); clear HB; have HB := n0_; have BK298 := n1_; have GW298 := n2_; have GE298 := n3_; clear n0_ n1_ n2_ n3_; clear hb hbox hg; have hcz13_0 : w12.cell? ⟨gb298, 0, none⟩ = some (.int .i64 0) := (blk_cell BK298.out 0).trans rfl; have hcz13_1 : w12.cell? ⟨gb298, 1, none⟩ = some (.int .i64 0) := (blk_cell BK298.out 1).trans rfl; have hfz13_0 := blk_frozen BK298.out 0; have hfz13_1 := blk_frozen BK298.out 1))
         have n0_ : Aside0 (((w12.setCell ⟨gb298, 0, none⟩ (.int .i64 ((rd_T42 l0 x9_1).f0))).setCell ⟨gb298, 1, none⟩ (.int .i64 ((rd_T42 l0 x9_1).f1))).heap[gb298]? = some (.cells #[.int .i64 ((rd_T42 l0 x9_1).f0), .int .i64 ((rd_T42 l0 x9_1).f1)] 42 (0, 0))) := ⟨by (with_reducible repeat (first | refine blk_drewN ?_ _ | refine blk_drew ?_ | refine blk_alloc ?_ _)); refine blk_put (cs := #[.int .i64 ((rd_T42 l0 x9_1).f0), .int .i64 0]) ?_ 1 _ rfl; (with_reducible repeat (first | refine blk_drewN ?_ _ | refine blk_drew ?_ | refine blk_alloc ?_ _)); refine blk_put (cs := #[.int .i64 0, .int .i64 0]) ?_ 0 _ rfl; (with_reducible repeat (first | refine blk_drewN ?_ _ | refine blk_drew ?_ | refine blk_alloc ?_ _)); exact BK298.out⟩
         have n1_ : Aside0 (Below w.heap.size w ((w12.setCell ⟨gb298, 0, none⟩ (.int .i64 ((rd_T42 l0 x9_1).f0))).setCell ⟨gb298, 1, none⟩ (.int .i64 ((rd_T42 l0 x9_1).f1)))) := ⟨by repeat (first | (with_reducible first | exact HB.out | apply below_alloc | apply pw_below_drewN | apply below_drew1 | refine below_set ?_ GE298.out) | exact HB.out)⟩
         (try clear BK298)
         (try clear HB)
         generalize ((w12.setCell ⟨gb298, 0, none⟩ (.int .i64 ((rd_T42 l0 x9_1).f0))).setCell ⟨gb298, 1, none⟩ (.int .i64 ((rd_T42 l0 x9_1).f1))) = w14 at n0_ n1_ ⊢
         have BK298 := n0_
         have HB := n1_
         clear n0_ n1_
         have n0_ := Aside0.mk (blk_drew BK298.out)
         have n1_ := Aside0.mk (below_drew1 HB.out)
         clear BK298 HB
         have BK298 := n0_
         have HB := n1_
         clear n0_ n1_
         refine start_ (n := 11) (S := fun w' => w'.cell? ⟨gb298, 0, none⟩ = some (.int .i64 ((rd_T42 l0 x9_1).f0)) ∧ w'.cell? ⟨gb298, 1, none⟩ = some (.int .i64 ((rd_T42 l0 x9_1).f1))) (ds := []) _ (by kernel_rfl) rfl rfl ⟨(blk_cell BK298.out 0).trans rfl, (blk_cell BK298.out 1).trans rfl⟩ (fun hHeld => ?_); refine with_tabW impl_arePairs_of_ConfigOk_1.tab4 impl_arePairs_of_ConfigOk_1.bits4 (fun HT_ HW_ => ?_)
         generalize w14.drew = w15 at BK298 HB hHeld ⊢
         refine pU HT_ 0 (some 14) (mk 11 1) rfl rfl (h := ?_)
         refine tU HT_ HW_ 1 (some 15) (mk 11 3) hHeld rfl rfl (by rintro w' ⟨s0, s1⟩; go_simp; with_reducible rfl) (h := ?_)
         refine one_ (i := 2) (N := some 16) (mk 11 7) rfl rfl (one_of HT_.out (by kernel_rfl)) (by decide) (fun K hK => ?_)
         refine goesV_ Try.func52 (by kernel_rfl) rfl #[.agg #[.int .i64 ((rd_T42 l0 x9_1).f0), .int .i64 ((rd_T42 l0 x9_1).f1)]] (by rfl) rfl rfl rfl eA ?_
         refine (impl_ConfigOk_1.calls ((rd_T42 l0 x9_1).f0) ((rd_T42 l0 x9_1).f1) true _ A6.out).mono ?_
         rintro e w16 ⟨rfl, hb⟩
         refine ⟨_, rfl, ?_⟩
         have n0_ := Aside0.mk (blk_below (kB BK298.out) hb)
         have n1_ := Aside0.mk (below_step bS hb)
         clear BK298 HB
         have BK298 := n0_
         have HB := n1_
         clear n0_ n1_
         (try clear hb)
         (try clear hb2)
         (try clear hk)
         (try clear hi)
         have q17 : (x9_1 : Int) ≤ ((l0.length : Int) : Int) := of_decide_eq_true aA
         obtain ⟨i017, hi017, _, hsz17, _⟩ := info_parts info42
         have hroom17 : l0.length ≤ c0 := HC0.out
         have hC17 : Kd.C k42 _ (some ad297) l0.length l0 := HR0.out
         have hcut17 := cut_to (P := Try.prog) 28 42 .i64 Try.underlying28 hi017 (some ad297) l0.length c0 x9_1 (of_decide_eq_true aA) q17 hroom17
         have hr17 := Kd.C_take (m := (x9_1 : Int).toNat) hC17 (by omega)
         have hy17 : y300.length = (x9_1 : Int).toNat := (by rw [Ny300.out, List.length_take]; omega)
         rw [← Ny300.out] at hr17
         rw [← hy17] at hcut17
         have HR303 := Aside0.mk hr17
         have HC303 := Aside0.mk (show y300.length ≤ c0 from by omega)
         clear hr17 hC17 hroom17 hi017 hsz17
         have KY17 := Aside0.mk hy17
         clear hy17
         replace q17 := eq_true q17
         refine hK.out _ _ ⟨(blk_cell BK298.out 0).trans rfl, (blk_cell BK298.out 1).trans rfl⟩ (fun hHeld => ?_)
         clear hK K
         refine norm_ (a' := ?_) ?_ ?_
         rotate_left
         ·show Act.put _ (some 16) _ = _
          simp only [Act.put, List.setIfInBounds_toArray, List.set_cons_zero, List.set_cons_succ, i64_w, i32_w]
          rfl
         refine pU HT_ 3 (some 17) (mk 11 15) rfl rfl (h := ?_)
         refine pU HT_ 4 (some 18) (mk 11 31) rfl rfl (h := ?_)
         refine pU HT_ 5 (some 19) (mk 11 63) rfl rfl (h := ?_)
         refine pU HT_ 6 (some 20) (mk 11 127) rfl rfl (h := ?_)
         refine pU HT_ 7 (some 21) (mk 11 255) rfl rfl (h := ?_)
         refine tU HT_ HW_ 8 (some 22) (mk 11 511) hHeld rfl rfl (by rintro w' ⟨s0, s1⟩; go_simp; with_reducible rfl) (h := ?_)
         refine one_ (i := 9) (N := some 23) (mk 11 1023) rfl rfl (one_of HT_.out (by kernel_rfl)) (by decide) (fun K hK => ?_)
         refine goes_ Try.func68 (by kernel_rfl) rfl #[.slice (some ad297) y300.length c0, .agg #[.int .i64 ((rd_T42 l0 x9_1).f0), .int .i64 ((rd_T42 l0 x9_1).f1)]] (by rfl) rfl rfl eA ?_
         with_reducible refine (impl_Pair_68.calls k1 _ _ y300 ((rd_T42 l0 x9_1).f0) ((rd_T42 l0 x9_1).f1) true _ ?side1 ?side2 A10.out).mono ?_
         (case side1 => repeat (first | exact (Kd.C_below HR303.out HB.out) | (with_reducible refine Kd.C_alloc ?_ _) | (with_reducible refine Kd.C_drewN ?_ _) | (with_reducible refine Kd.C_drew ?_)))
         (case side2 => exact HC303.out)
         rintro e w18 ⟨rfl, hb⟩
         refine ⟨_, rfl, ?_⟩
         have n0_ := Aside0.mk (blk_below (kB BK298.out) hb)
         have n1_ := Aside0.mk (below_step bS hb)
         clear BK298 HB
         have BK298 := n0_
         have HB := n1_
         clear n0_ n1_
         (try clear hb)
         (try clear hb2)
         (try clear hk)
         (try clear hi)
         refine hK.out _ _ ⟨(blk_cell BK298.out 0).trans rfl, (blk_cell BK298.out 1).trans rfl⟩ (fun hHeld => ?_)
         clear hK K
         refine norm_ (a' := ?_) ?_ ?_
         rotate_left
         ·show Act.put _ (some 23) _ = _
          simp only [Act.put, List.setIfInBounds_toArray, List.set_cons_zero, List.set_cons_succ, i64_w, i32_w]
          rfl
         refine pU HT_ 10 (some 24) (mk 11 2047) rfl rfl (h := ?_)
         refine done_ (done_of HT_.out (by kernel_rfl)) ?_
         try go_wp2
         go_ret
         exact ⟨eE, bS⟩
        ·replace c11 := Bool.eq_false_iff.mpr c11
         subst c11
         have H1 : (impl_arePairs_of_ConfigOk_1.l0 k1 l0 l0 (l0.length : Int) (wrap64 (x9_1 + 1))) = some r := by rw [if_neg (show ¬ (false = true) by decide)] at H; exact H
         clear H
         have H := H1
         clear H1
         have H' := Aside0.mk H
         clear H
         have p297 : 0 ≤ (x9_1 : Int) := of_decide_eq_true aA
         have q297 : x9_1 < (l0.length : Int) := of_decide_eq_true aA
         obtain ⟨ad297, e297, hx297_0, hx297_1⟩ := at_T42 HR0.out x9_1 p297 q297
         cases e297
         replace hx297_0 := (HB.out.cell (World.block_lt_of_cell? w _ hx297_0)).trans hx297_0
         replace hx297_1 := (HB.out.cell (World.block_lt_of_cell? w _ hx297_1)).trans hx297_1
         replace p297 := eq_true p297
         replace q297 := eq_true q297
         try go_wp2_with (first | ((with_reducible refine gate_dst (N := 6) rfl ?_); refine box_event ?hg (N := 6) ?hd (cs := #[.int .i64 0, .int .i64 0]) (t := 42) ?hr ?_; (case hd => rfl); (case hg => rfl); (case hr => first | (go_simp; done) | (go_simp; rfl)); intro gb298 hg w19 hbox hb; have n0_ := Aside0.mk (below_step bH hb); have n1_ := Aside0.mk (hbox); have n2_ := Aside0.mk ((bZ hg : w.heap.size ≤ gb298)); have n3_ := Aside0.mk ((bZ hg : w.heap.size ≤ gb298)); clear HB; have HB := n0_; have BK298 := n1_; have GW298 := n2_; have GE298 := n3_; clear n0_ n1_ n2_ n3_; clear hb hbox hg; have hcz20_0 : w19.cell? ⟨gb298, 0, none⟩ = some (.int .i64 0) := (blk_cell BK298.out 0).trans rfl; have hcz20_1 : w19.cell? ⟨gb298, 1, none⟩ = some (.int .i64 0) := (blk_cell BK298.out 1).trans rfl; have hfz20_0 := blk_frozen BK298.out 0; have hfz20_1 := blk_frozen BK298.out 1))
         have n0_ : Aside0 (((w19.setCell ⟨gb298, 0, none⟩ (.int .i64 ((rd_T42 l0 x9_1).f0))).setCell ⟨gb298, 1, none⟩ (.int .i64 ((rd_T42 l0 x9_1).f1))).heap[gb298]? = some (.cells #[.int .i64 ((rd_T42 l0 x9_1).f0), .int .i64 ((rd_T42 l0 x9_1).f1)] 42 (0, 0))) := ⟨by (with_reducible repeat (first | refine blk_drewN ?_ _ | refine blk_drew ?_ | refine blk_alloc ?_ _)); refine blk_put (cs := #[.int .i64 ((rd_T42 l0 x9_1).f0), .int .i64 0]) ?_ 1 _ rfl; (with_reducible repeat (first | refine blk_drewN ?_ _ | refine blk_drew ?_ | refine blk_alloc ?_ _)); refine blk_put (cs := #[.int .i64 0, .int .i64 0]) ?_ 0 _ rfl; (with_reducible repeat (first | refine blk_drewN ?_ _ | refine blk_drew ?_ | refine blk_alloc ?_ _)); exact BK298.out⟩
         have n1_ : Aside0 (Below w.heap.size w ((w19.setCell ⟨gb298, 0, none⟩ (.int .i64 ((rd_T42 l0 x9_1).f0))).setCell ⟨gb298, 1, none⟩ (.int .i64 ((rd_T42 l0 x9_1).f1)))) := ⟨by repeat (first | (with_reducible first | exact HB.out | apply below_alloc | apply pw_below_drewN | apply below_drew1 | refine below_set ?_ GE298.out) | exact HB.out)⟩
         (try clear BK298)
         (try clear HB)
         generalize ((w19.setCell ⟨gb298, 0, none⟩ (.int .i64 ((rd_T42 l0 x9_1).f0))).setCell ⟨gb298, 1, none⟩ (.int .i64 ((rd_T42 l0 x9_1).f1))) = w21 at n0_ n1_ ⊢
         have BK298 := n0_
         have HB := n1_
         clear n0_ n1_
         have n0_ := Aside0.mk (blk_drew BK298.out)
         have n1_ := Aside0.mk (below_drew1 HB.out)
         clear BK298 HB
         have BK298 := n0_
         have HB := n1_
         clear n0_ n1_
         refine start_ (n := 11) (S := fun w' => w'.cell? ⟨gb298, 0, none⟩ = some (.int .i64 ((rd_T42 l0 x9_1).f0)) ∧ w'.cell? ⟨gb298, 1, none⟩ = some (.int .i64 ((rd_T42 l0 x9_1).f1))) (ds := []) _ (by kernel_rfl) rfl rfl ⟨(blk_cell BK298.out 0).trans rfl, (blk_cell BK298.out 1).trans rfl⟩ (fun hHeld => ?_); refine with_tabW impl_arePairs_of_ConfigOk_1.tab4 impl_arePairs_of_ConfigOk_1.bits4 (fun HT_ HW_ => ?_)
         generalize w21.drew = w22 at BK298 HB hHeld ⊢
         refine pU HT_ 0 (some 14) (mk 11 1) rfl rfl (h := ?_)
         refine tU HT_ HW_ 1 (some 15) (mk 11 3) hHeld rfl rfl (by rintro w' ⟨s0, s1⟩; go_simp; with_reducible rfl) (h := ?_)
         refine one_ (i := 2) (N := some 16) (mk 11 7) rfl rfl (one_of HT_.out (by kernel_rfl)) (by decide) (fun K hK => ?_)
         refine goesV_ Try.func52 (by kernel_rfl) rfl #[.agg #[.int .i64 ((rd_T42 l0 x9_1).f0), .int .i64 ((rd_T42 l0 x9_1).f1)]] (by rfl) rfl rfl rfl eA ?_
         refine (impl_ConfigOk_1.calls ((rd_T42 l0 x9_1).f0) ((rd_T42 l0 x9_1).f1) true _ A6.out).mono ?_
         rintro e w23 ⟨rfl, hb⟩
         refine ⟨_, rfl, ?_⟩
         have n0_ := Aside0.mk (blk_below (kB BK298.out) hb)
         have n1_ := Aside0.mk (below_step bS hb)
         clear BK298 HB
         have BK298 := n0_
         have HB := n1_
         clear n0_ n1_
         (try clear hb)
         (try clear hb2)
         (try clear hk)
         (try clear hi)
         have q24 : (x9_1 : Int) ≤ ((l0.length : Int) : Int) := of_decide_eq_true aA
         obtain ⟨i024, hi024, _, hsz24, _⟩ := info_parts info42
         have hroom24 : l0.length ≤ c0 := HC0.out
         have hC24 : Kd.C k42 _ (some ad297) l0.length l0 := HR0.out
         have hcut24 := cut_to (P := Try.prog) 28 42 .i64 Try.underlying28 hi024 (some ad297) l0.length c0 x9_1 (of_decide_eq_true aA) q24 hroom24
         have hr24 := Kd.C_take (m := (x9_1 : Int).toNat) hC24 (by omega)
         have hy24 : y300.length = (x9_1 : Int).toNat := (by rw [Ny300.out, List.length_take]; omega)
         rw [← Ny300.out] at hr24
         rw [← hy24] at hcut24
         have HR303 := Aside0.mk hr24
         have HC303 := Aside0.mk (show y300.length ≤ c0 from by omega)
         clear hr24 hC24 hroom24 hi024 hsz24
         have KY24 := Aside0.mk hy24
         clear hy24
         replace q24 := eq_true q24
         refine hK.out _ _ ⟨(blk_cell BK298.out 0).trans rfl, (blk_cell BK298.out 1).trans rfl⟩ (fun hHeld => ?_)
         clear hK K
         refine norm_ (a' := ?_) ?_ ?_
         rotate_left
         ·show Act.put _ (some 16) _ = _
          simp only [Act.put, List.setIfInBounds_toArray, List.set_cons_zero, List.set_cons_succ, i64_w, i32_w]
          rfl
         refine pU HT_ 3 (some 17) (mk 11 15) rfl rfl (h := ?_)
         refine pU HT_ 4 (some 18) (mk 11 31) rfl rfl (h := ?_)
         refine pU HT_ 5 (some 19) (mk 11 63) rfl rfl (h := ?_)
         refine pU HT_ 6 (some 20) (mk 11 127) rfl rfl (h := ?_)
         refine pU HT_ 7 (some 21) (mk 11 255) rfl rfl (h := ?_)
         refine tU HT_ HW_ 8 (some 22) (mk 11 511) hHeld rfl rfl (by rintro w' ⟨s0, s1⟩; go_simp; with_reducible rfl) (h := ?_)
         refine one_ (i := 9) (N := some 23) (mk 11 1023) rfl rfl (one_of HT_.out (by kernel_rfl)) (by decide) (fun K hK => ?_)
         refine goes_ Try.func68 (by kernel_rfl) rfl #[.slice (some ad297) y300.length c0, .agg #[.int .i64 ((rd_T42 l0 x9_1).f0), .int .i64 ((rd_T42 l0 x9_1).f1)]] (by rfl) rfl rfl eA ?_
         with_reducible refine (impl_Pair_68.calls k1 _ _ y300 ((rd_T42 l0 x9_1).f0) ((rd_T42 l0 x9_1).f1) false _ ?side1 ?side2 A10.out).mono ?_
         (case side1 => repeat (first | exact (Kd.C_below HR303.out HB.out) | (with_reducible refine Kd.C_alloc ?_ _) | (with_reducible refine Kd.C_drewN ?_ _) | (with_reducible refine Kd.C_drew ?_)))
         (case side2 => exact HC303.out)
         rintro e w25 ⟨rfl, hb⟩
         refine ⟨_, rfl, ?_⟩
         have n0_ := Aside0.mk (blk_below (kB BK298.out) hb)
         have n1_ := Aside0.mk (below_step bS hb)
         clear BK298 HB
         have BK298 := n0_
         have HB := n1_
         clear n0_ n1_
         (try clear hb)
         (try clear hb2)
         (try clear hk)
         (try clear hi)
         refine hK.out _ _ ⟨(blk_cell BK298.out 0).trans rfl, (blk_cell BK298.out 1).trans rfl⟩ (fun hHeld => ?_)
         clear hK K
         refine norm_ (a' := ?_) ?_ ?_
         rotate_left
         ·show Act.put _ (some 23) _ = _
          simp only [Act.put, List.setIfInBounds_toArray, List.set_cons_zero, List.set_cons_succ, i64_w, i32_w]
          rfl
         refine pU HT_ 10 (some 24) (mk 11 2047) rfl rfl (h := ?_)
         refine done_ (done_of HT_.out (by kernel_rfl)) ?_
         try go_wp2
         go_roundg k1
         case measure => have := HK1.out; omega
         case rel => exact ⟨(wrap64 (x9_1 + 1)), eX, H', ⟨by have := HK1.out; omega⟩, ⟨by repeat (first | (with_reducible first | exact HB.out | apply below_alloc | apply pw_below_drewN | apply below_drew1 | refine below_set ?_ GE298.out) | exact HB.out)⟩⟩
       ·rw [if_neg c9] at H
        exact absurd H (by simp)
      ·replace c7 := Bool.eq_false_iff.mpr c7
       subst c7
       have H1 : (some false) = some r := by rw [if_neg (show ¬ (false = true) by decide)] at H; exact H
       clear H
       have H := H1
       clear H1
       obtain rfl := Option.some.inj H
       have p297 : 0 ≤ (x9_1 : Int) := of_decide_eq_true aA
       have q297 : x9_1 < (l0.length : Int) := of_decide_eq_true aA
       obtain ⟨ad297, e297, hx297_0, hx297_1⟩ := at_T42 HR0.out x9_1 p297 q297
       cases e297
       replace hx297_0 := (HB.out.cell (World.block_lt_of_cell? w _ hx297_0)).trans hx297_0
       replace hx297_1 := (HB.out.cell (World.block_lt_of_cell? w _ hx297_1)).trans hx297_1
       replace p297 := eq_true p297
       replace q297 := eq_true q297
       try go_wp2_with (first | ((with_reducible refine gate_dst (N := 6) rfl ?_); refine box_event ?hg (N := 6) ?hd (cs := #[.int .i64 0, .int .i64 0]) (t := 42) ?hr ?_; (case hd => rfl); (case hg => rfl); (case hr => first | (go_simp; done) | (go_simp; rfl)); intro gb298 hg w26 hbox hb; have n0_ := Aside0.mk (below_step bH hb); have n1_ := Aside0.mk (hbox); have n2_ := Aside0.mk ((bZ hg : w.heap.size ≤ gb298)); have n3_ := Aside0.mk ((bZ hg : w.heap.size ≤ gb298)); clear HB; have HB := n0_; have BK298 := n1_; have GW298 := n2_; have GE298 := n3_; clear n0_ n1_ n2_ n3_; clear hb hbox hg; have hcz27_0 : w26.cell? ⟨gb298, 0, none⟩ = some (.int .i64 0) := (blk_cell BK298.out 0).trans rfl; have hcz27_1 : w26.cell? ⟨gb298, 1, none⟩ = some (.int .i64 0) := (blk_cell BK298.out 1).trans rfl; have hfz27_0 := blk_frozen BK298.out 0; have hfz27_1 := blk_frozen BK298.out 1))
       have n0_ : Aside0 (((w26.setCell ⟨gb298, 0, none⟩ (.int .i64 ((rd_T42 l0 x9_1).f0))).setCell ⟨gb298, 1, none⟩ (.int .i64 ((rd_T42 l0 x9_1).f1))).heap[gb298]? = some (.cells #[.int .i64 ((rd_T42 l0 x9_1).f0), .int .i64 ((rd_T42 l0 x9_1).f1)] 42 (0, 0))) := ⟨by (with_reducible repeat (first | refine blk_drewN ?_ _ | refine blk_drew ?_ | refine blk_alloc ?_ _)); refine blk_put (cs := #[.int .i64 ((rd_T42 l0 x9_1).f0), .int .i64 0]) ?_ 1 _ rfl; (with_reducible repeat (first | refine blk_drewN ?_ _ | refine blk_drew ?_ | refine blk_alloc ?_ _)); refine blk_put (cs := #[.int .i64 0, .int .i64 0]) ?_ 0 _ rfl; (with_reducible repeat (first | refine blk_drewN ?_ _ | refine blk_drew ?_ | refine blk_alloc ?_ _)); exact BK298.out⟩
       have n1_ : Aside0 (Below w.heap.size w ((w26.setCell ⟨gb298, 0, none⟩ (.int .i64 ((rd_T42 l0 x9_1).f0))).setCell ⟨gb298, 1, none⟩ (.int .i64 ((rd_T42 l0 x9_1).f1)))) := ⟨by repeat (first | (with_reducible first | exact HB.out | apply below_alloc | apply pw_below_drewN | apply below_drew1 | refine below_set ?_ GE298.out) | exact HB.out)⟩
       (try clear BK298)
       (try clear HB)
       generalize ((w26.setCell ⟨gb298, 0, none⟩ (.int .i64 ((rd_T42 l0 x9_1).f0))).setCell ⟨gb298, 1, none⟩ (.int .i64 ((rd_T42 l0 x9_1).f1))) = w28 at n0_ n1_ ⊢
       have BK298 := n0_
       have HB := n1_
       clear n0_ n1_
       have n0_ := Aside0.mk (blk_drew BK298.out)
       have n1_ := Aside0.mk (below_drew1 HB.out)
       clear BK298 HB
       have BK298 := n0_
       have HB := n1_
       clear n0_ n1_
       refine start_ (n := 11) (S := fun w' => w'.cell? ⟨gb298, 0, none⟩ = some (.int .i64 ((rd_T42 l0 x9_1).f0)) ∧ w'.cell? ⟨gb298, 1, none⟩ = some (.int .i64 ((rd_T42 l0 x9_1).f1))) (ds := []) _ (by kernel_rfl) rfl rfl ⟨(blk_cell BK298.out 0).trans rfl, (blk_cell BK298.out 1).trans rfl⟩ (fun hHeld => ?_); refine with_tabW impl_arePairs_of_ConfigOk_1.tab4 impl_arePairs_of_ConfigOk_1.bits4 (fun HT_ HW_ => ?_)
       generalize w28.drew = w29 at BK298 HB hHeld ⊢
       refine pU HT_ 0 (some 14) (mk 11 1) rfl rfl (h := ?_)
       refine tU HT_ HW_ 1 (some 15) (mk 11 3) hHeld rfl rfl (by rintro w' ⟨s0, s1⟩; go_simp; with_reducible rfl) (h := ?_)
       refine one_ (i := 2) (N := some 16) (mk 11 7) rfl rfl (one_of HT_.out (by kernel_rfl)) (by decide) (fun K hK => ?_)
       refine goesV_ Try.func52 (by kernel_rfl) rfl #[.agg #[.int .i64 ((rd_T42 l0 x9_1).f0), .int .i64 ((rd_T42 l0 x9_1).f1)]] (by rfl) rfl rfl rfl eA ?_
       refine (impl_ConfigOk_1.calls ((rd_T42 l0 x9_1).f0) ((rd_T42 l0 x9_1).f1) false _ A6.out).mono ?_
       rintro e w30 ⟨rfl, hb⟩
       refine ⟨_, rfl, ?_⟩
       have n0_ := Aside0.mk (blk_below (kB BK298.out) hb)
       have n1_ := Aside0.mk (below_step bS hb)
       clear BK298 HB
       have BK298 := n0_
       have HB := n1_
       clear n0_ n1_
       (try clear hb)
       (try clear hb2)
       (try clear hk)
       (try clear hi)
       refine hK.out _ _ ⟨(blk_cell BK298.out 0).trans rfl, (blk_cell BK298.out 1).trans rfl⟩ (fun hHeld => ?_)
       clear hK K
       refine norm_ (a' := ?_) ?_ ?_
       rotate_left
       ·show Act.put _ (some 16) _ = _
        simp only [Act.put, List.setIfInBounds_toArray, List.set_cons_zero, List.set_cons_succ, i64_w, i32_w]
        rfl
       refine pU HT_ 3 (some 17) (mk 11 15) rfl rfl (h := ?_)
       refine pU HT_ 4 (some 18) (mk 11 31) rfl rfl (h := ?_)
       refine pN HT_ 5 (some 19) (mk 11 63) rfl rfl (h := ?_)
       refine pN HT_ 6 (some 20) (mk 11 127) rfl rfl (h := ?_)
       refine pN HT_ 7 (some 21) (mk 11 255) rfl rfl (h := ?_)
       refine pN HT_ 8 (some 22) (mk 11 511) rfl rfl (h := ?_)
       refine pN HT_ 9 (some 23) (mk 11 1023) rfl rfl (h := ?_)
       refine pU HT_ 10 (some 24) (mk 11 2047) rfl rfl (h := ?_)
       refine done_ (done_of HT_.out (by kernel_rfl)) ?_
       try go_wp2
       go_ret
       exact ⟨eE, bS⟩
     ·rw [if_neg c5] at H
      exact absurd H (by simp)
    ·rw [if_neg c4] at H
     exact absurd H (by simp)
   ·rw [if_neg c3] at H
    have c3b0 : decide (x9_1 < (l0.length : Int)) = false := decide_eq_false c3
    clear c3
    obtain rfl := Option.some.inj H
    go_wp2
    go_ret
    exact ⟨eE, bH⟩

/-! ### impl_isService: function 55 -/
def impl_isService.f (a0 : Int) : Option (Bool) := (impl_within.f a0 0 2).bind fun t305 => (some t305)
set_option maxHeartbeats 8000000 in
set_option maxRecDepth 100000 in
theorem impl_isService.calls (a0 : Int) (r : Bool) (w : World) (h : impl_isService.f a0 = some r) :
  Calls Try.prog 55 #[.int .i64 a0] w fun e w' => e = .returned (.bool r) ∧ Drawn0 w w' := by
 have H : ((impl_within.f a0 0 2).bind fun t305 => (some t305)) = some r := h
 clear h
 replace H := Option.bind_eq_some_iff.mp H
 obtain ⟨t305, A20, H⟩ := H
 replace H : (some t305) = some r := H
 have A2 := Aside0.mk A20
 clear A20
 obtain rfl := Option.some.inj H
 go_enter Try.func55, Try.ntmps55
 go_wp2_with (first | ((with_reducible refine gate_callee (f := 57) rfl ?_); refine goesL_ (some 4) rfl rfl Try.func57 (by kernel_rfl) rfl #[.int .i64 a0, .int .i64 0, .int .i64 2] rfl eA ?_; (with_reducible refine (impl_within.calls a0 0 2 t305 _ A2.out).mono ?_); rintro e w' ⟨rfl, ⟨nd, rfl⟩⟩; refine ⟨_, rfl, ?_⟩))
 go_ret
 exact ⟨by first | rfl | (simp; done) | (simp [*]; done), by repeat (first | exact Drawn0.refl _ | apply Drawn0.step)⟩

/-! ### impl_ConfigOk_2: function 54 -/
def impl_ConfigOk_2.f (a0_0 : Int) (a0_1 : Int) : Option (Bool) := (impl_isService.f a0_0).bind fun t307 => (if t307 = true then ((impl_isService.f a0_1).bind fun t308 => (some t308)) else (some false))
set_option maxHeartbeats 8000000 in
set_option maxRecDepth 100000 in
theorem impl_ConfigOk_2.calls (a0_0 : Int) (a0_1 : Int) (r : Bool) (w : World) (h : impl_ConfigOk_2.f a0_0 a0_1 = some r) :
  Calls Try.prog 54 #[.agg #[.int .i64 a0_0, .int .i64 a0_1]] w fun e w' => e = .returned (.bool r) ∧ Below w.heap.size w w' := by
 have hu42 := Try.underlying42
 have HB := Aside0.mk (Below.refl w.heap.size w)
 have H : ((impl_isService.f a0_0).bind fun t307 => (if t307 = true then ((impl_isService.f a0_1).bind fun t308 => (some t308)) else (some false))) = some r := h
 clear h
 replace H := Option.bind_eq_some_iff.mp H
 obtain ⟨t307, A20, H⟩ := H
 replace H : (if t307 = true then ((impl_isService.f a0_1).bind fun t308 => (some t308)) else (some false)) = some r := H
 have A2 := Aside0.mk A20
 clear A20
 by_cases c3 : t307 = true
 ·subst c3
  have H1 : ((impl_isService.f a0_1).bind fun t308 => (some t308)) = some r := by rw [if_pos rfl] at H; exact H
  clear H
  have H := H1
  clear H1
  replace H := Option.bind_eq_some_iff.mp H
  obtain ⟨t308, A40, H⟩ := H
  replace H : (some t308) = some r := H
  have A4 := Aside0.mk A40
  clear A40
  obtain rfl := Option.some.inj H
  go_enter Try.func54, Try.ntmps54
  go_wp2_with (first | ((with_reducible refine gate_dst (N := 1) rfl ?_); refine box_event ?hg (N := 1) ?hd (cs := #[.int .i64 a0_0, .int .i64 a0_1]) (t := 42) ?hr ?_; (case hd => rfl); (case hg => rfl); (case hr => first | (go_simp; done) | (go_simp; rfl)); intro gb306 hg w5 hbox hb; have n0_ := Aside0.mk (below_step bH hb); have n1_ := Aside0.mk (hbox); have n2_ := Aside0.mk ((bZ hg : w.heap.size ≤ gb306)); have n3_ := Aside0.mk ((bZ hg : w.heap.size ≤ gb306)); clear HB; have HB := n0_; have BK306 := n1_; have GW306 := n2_; have GE306 := n3_; clear n0_ n1_ n2_ n3_; clear hb hbox hg; have hcz6_0 : w5.cell? ⟨gb306, 0, none⟩ = some (.int .i64 a0_0) := (blk_cell BK306.out 0).trans rfl; have hcz6_1 : w5.cell? ⟨gb306, 1, none⟩ = some (.int .i64 a0_1) := (blk_cell BK306.out 1).trans rfl; have hfz6_0 := blk_frozen BK306.out 0; have hfz6_1 := blk_frozen BK306.out 1) | ((with_reducible refine gate_callee (f := 55) rfl ?_); refine goesL_ (some 5) rfl rfl Try.func55 (by kernel_rfl) rfl #[.int .i64 a0_0] rfl eA ?_; (with_reducible refine (impl_isService.calls a0_0 true _ A2.out).mono ?_); rintro e w' ⟨rfl, ⟨nd, rfl⟩⟩; refine ⟨_, rfl, ?_⟩) | (go_at_call 55; (with_reducible refine (impl_isService.calls a0_1 t308 _ A4.out).mono ?_); rintro e w' ⟨rfl, ⟨nd, rfl⟩⟩))
  go_ret
  exact ⟨eE, bS⟩
 ·replace c3 := Bool.eq_false_iff.mpr c3
  subst c3
  have H1 : (some false) = some r := by rw [if_neg (show ¬ (false = true) by decide)] at H; exact H
  clear H
  have H := H1
  clear H1
  obtain rfl := Option.some.inj H
  go_enter Try.func54, Try.ntmps54
  go_wp2_with (first | ((with_reducible refine gate_dst (N := 1) rfl ?_); refine box_event ?hg (N := 1) ?hd (cs := #[.int .i64 a0_0, .int .i64 a0_1]) (t := 42) ?hr ?_; (case hd => rfl); (case hg => rfl); (case hr => first | (go_simp; done) | (go_simp; rfl)); intro gb306 hg w7 hbox hb; have n0_ := Aside0.mk (below_step bH hb); have n1_ := Aside0.mk (hbox); have n2_ := Aside0.mk ((bZ hg : w.heap.size ≤ gb306)); have n3_ := Aside0.mk ((bZ hg : w.heap.size ≤ gb306)); clear HB; have HB := n0_; have BK306 := n1_; have GW306 := n2_; have GE306 := n3_; clear n0_ n1_ n2_ n3_; clear hb hbox hg; have hcz8_0 : w7.cell? ⟨gb306, 0, none⟩ = some (.int .i64 a0_0) := (blk_cell BK306.out 0).trans rfl; have hcz8_1 : w7.cell? ⟨gb306, 1, none⟩ = some (.int .i64 a0_1) := (blk_cell BK306.out 1).trans rfl; have hfz8_0 := blk_frozen BK306.out 0; have hfz8_1 := blk_frozen BK306.out 1) | ((with_reducible refine gate_callee (f := 55) rfl ?_); refine goesL_ (some 5) rfl rfl Try.func55 (by kernel_rfl) rfl #[.int .i64 a0_0] rfl eA ?_; (with_reducible refine (impl_isService.calls a0_0 false _ A2.out).mono ?_); rintro e w' ⟨rfl, ⟨nd, rfl⟩⟩; refine ⟨_, rfl, ?_⟩))
  go_ret
  exact ⟨eE, bS⟩

end Go.Proofs.Ytmhjpnjolgigmaa.OFnWay
-- halved
-- squeezed
-- squeezed2
