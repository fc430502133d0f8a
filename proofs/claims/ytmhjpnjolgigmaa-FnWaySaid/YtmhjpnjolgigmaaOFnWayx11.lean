-- walks of this claim, written by a program of mine
import Derived.Test.YtmhjpnjolgigmaaOFnWayx0
namespace Go.Proofs.Ytmhjpnjolgigmaa.OFnWay
open Go.RowKit Go.Proofs.Ytmhjpnjolgigmaa.OWord Go.Proofs.YtmhjpnjolgigmaaW.PrintWords Go.Proofs.YtmhjpnjolgigmaaW.PrintLast Go.Proofs.YtmhjpnjolgigmaaW.PrintMore
attribute [local go_sem] max2_int min2_int max_two min_two max_three min_three max_four min_four   -- for this text's walks alone
set_option linter.unusedVariables false
set_option linter.unusedSimpArgs false

/-! ### spec_l6Far: function 70 -/
mutual
def spec_l6Far.l0 : Nat → Int → List Int → Int → List Int → List Int → List (S42) → List (S42) → Int → Option (List Int)
 | 0, _, _, _, _, _, _, _, _ => none
 | k + 1, x1, x5, x6, x336000, x336001, x336002, x336003, x336004 => if x6 < 3 then (if x5.length < 17592186044416 then (spec_l6Far.l0 k x1 (x5 ++ [3]) (wrap64 (x6 + 1)) x336000 x336001 x336002 x336003 x336004) else (none)) else (if 0 ≤ x1 then (if x1 < (x5.length : Int) then (spec_l6Far.l1 k (x5.set (x1 : Int).toNat 0) 0 x336000 x336001 x336002 x336003 x336004) else (none)) else (none))
def spec_l6Far.l1 : Nat → List Int → Int → List Int → List Int → List (S42) → List (S42) → Int → Option (List Int)
 | 0, _, _, _, _, _, _, _ => none
 | k + 1, x5, x7, x336000, x336001, x336002, x336003, x336004 => if x7 < 3 then (spec_l6Far.l2 k x5 x7 0 x336000 x336001 x336002 x336003 x336004) else (some x5)
def spec_l6Far.l2 : Nat → List Int → Int → Int → List Int → List Int → List (S42) → List (S42) → Int → Option (List Int)
 | 0, _, _, _, _, _, _, _, _ => none
 | k + 1, x5, x7, x8, x336000, x336001, x336002, x336003, x336004 => if x8 < (x336002.length : Int) then (if 0 ≤ x8 then (if 0 ≤ ((rd_T42 x336002 x8).f1) then (if ((rd_T42 x336002 x8).f1) < (x5.length : Int) then (if 0 ≤ ((rd_T42 x336002 x8).f0) then (if ((rd_T42 x336002 x8).f0) < (x5.length : Int) then (if (wrap64 ((rd x5 ((rd_T42 x336002 x8).f1)) + 1)) < (rd x5 ((rd_T42 x336002 x8).f0)) then (spec_l6Far.l2 k (x5.set (((rd_T42 x336002 x8).f0) : Int).toNat (wrap64 ((rd x5 ((rd_T42 x336002 x8).f1)) + 1))) x7 (wrap64 (x8 + 1)) x336000 x336001 x336002 x336003 x336004) else (spec_l6Far.l2 k x5 x7 (wrap64 (x8 + 1)) x336000 x336001 x336002 x336003 x336004)) else (none)) else (none)) else (none)) else (none)) else (none)) else (spec_l6Far.l1 k x5 (wrap64 (x7 + 1)) x336000 x336001 x336002 x336003 x336004)
end
def spec_l6Far.f (k : Nat) (l0_0 : List Int) (l0_1 : List Int) (l0_2 : List (S42)) (l0_3 : List (S42)) (a0_4 : Int) (a1 : Int) : Option (List Int) := spec_l6Far.l0 k a1 (([] : List Int)) 0 l0_0 l0_1 l0_2 l0_3 a0_4
def spec_l6Far.T13 : Bool × List (List Nat × List Nat) := (true, [([], []), ([], []), ([1], [1]), ([], []), ([2, 3], [2, 3]), ([4], [4]), ([5], [5]), ([0, 6], [0, 6]), ([7], [7]), ([8], [8]), ([], []), ([], []), ([11], [11]), ([], []), ([12, 13], [12, 13]), ([14], [14]), ([15], [15]), ([10, 16], [10, 16]), ([17], [17]), ([9, 18], [9, 18])])
def spec_l6Far.B13 : List Nat := [0, 0, 2, 0, 14, 30, 62, 127, 255, 511, 0, 0, 2048, 0, 14336, 30720, 63488, 130048, 261120, 524287]
theorem spec_l6Far.tab13 : rtab .any (opsOf Try.f70 13) = spec_l6Far.T13 := by kernel_rfl
theorem spec_l6Far.bits13 : waitsOk spec_l6Far.T13.2 spec_l6Far.B13 = true := by kernel_rfl
def spec_l6Far.T14 : Bool × List (List Nat × List Nat) := (true, [([], []), ([], []), ([1], [1]), ([], []), ([2, 3], [2, 3]), ([4], [4]), ([5], [5]), ([], []), ([], []), ([8], [8]), ([], []), ([9, 10], [9, 10]), ([11], [11]), ([12], [12]), ([7, 13], [7, 13]), ([14], [14]), ([15], [15]), ([0, 6, 0, 1, 2, 3, 4, 5, 6, 7, 8, 9, 10, 11, 12, 13, 14, 15, 16], [0, 6]), ([17, 16, 0, 1, 2, 3, 4, 5, 6, 7, 8, 9, 10, 11, 12, 13, 14, 15, 16], [16, 17])])
def spec_l6Far.B14 : List Nat := [0, 0, 2, 0, 14, 30, 62, 0, 0, 256, 0, 1792, 3840, 7936, 16256, 32640, 65408, 131071, 262143]
theorem spec_l6Far.tab14 : rtab .any (opsOf Try.f70 14) = spec_l6Far.T14 := by kernel_rfl
theorem spec_l6Far.bits14 : waitsOk spec_l6Far.T14.2 spec_l6Far.B14 = true := by kernel_rfl
set_option maxHeartbeats 8000000 in
set_option maxRecDepth 100000 in
theorem spec_l6Far.calls (k : Nat) (A0_0 : Option Addr) (c0_0 : Nat) (l0_0 : List Int) (A0_1 : Option Addr) (c0_1 : Nat) (l0_1 : List Int) (A0_2 : Option Addr) (c0_2 : Nat) (l0_2 : List (S42)) (A0_3 : Option Addr) (c0_3 : Nat) (l0_3 : List (S42)) (a0_4 : Int) (a1 : Int) (r : List Int) (w : World) (hr0_0 : Kd.C (Kd.int .i64) w A0_0 l0_0.length l0_0) (hc0_0 : l0_0.length ≤ c0_0) (hr0_1 : Kd.C (Kd.int .i64) w A0_1 l0_1.length l0_1) (hc0_1 : l0_1.length ≤ c0_1) (hr0_2 : Kd.C k42 w A0_2 l0_2.length l0_2) (hc0_2 : l0_2.length ≤ c0_2) (hr0_3 : Kd.C k42 w A0_3 l0_3.length l0_3) (hc0_3 : l0_3.length ≤ c0_3) (h : spec_l6Far.f k l0_0 l0_1 l0_2 l0_3 a0_4 a1 = some r) :
  Calls Try.prog 70 #[.agg #[.slice A0_0 l0_0.length c0_0, .slice A0_1 l0_1.length c0_1, .slice A0_2 l0_2.length c0_2, .slice A0_3 l0_3.length c0_3, .int .i64 a0_4], .int .i64 a1] w fun e w' => ∃ v0_ : Value, e = .returned (v0_) ∧ Kd.R (Kd.int .i64) 3 w' w.heap.size (fun _ => True) v0_ r ∧ Below w.heap.size w w' := by
 have hu30 := Try.underlying30
 have HR0_0 := Aside0.mk hr0_0
 have HC0_0 := Aside0.mk hc0_0
 clear hr0_0 hc0_0
 have HR0_1 := Aside0.mk hr0_1
 have HC0_1 := Aside0.mk hc0_1
 clear hr0_1 hc0_1
 have HR0_2 := Aside0.mk hr0_2
 have HC0_2 := Aside0.mk hc0_2
 clear hr0_2 hc0_2
 have HR0_3 := Aside0.mk hr0_3
 have HC0_3 := Aside0.mk hc0_3
 clear hr0_3 hc0_3
 have HB := Aside0.mk (Below.refl w.heap.size w)
 have H : (spec_l6Far.l0 k a1 (([] : List Int)) 0 l0_0 l0_1 l0_2 l0_3 a0_4) = some r := h
 clear h
 obtain ⟨y336, hy336⟩ : ∃ y_ : List Int, y_ = (([] : List Int)) := ⟨_, rfl⟩
 replace H : (spec_l6Far.l0 k a1 y336 0 l0_0 l0_1 l0_2 l0_3 a0_4) = some r := by first | (rw [hy336]; with_reducible exact H) | (have H2_ := (Option.bind_some _ _).symm.trans H; rw [hy336]; with_reducible exact H2_) | (have H2_ := (Option.bind_some _ _).symm.trans H; with_reducible exact H2_) | with_reducible exact H | (rw [hy336]; exact H) | exact H
 have Ny336 := Aside0.mk hy336
 clear hy336
 have H' := Aside0.mk H
 clear H
 go_enter Try.func70, Try.ntmps70
 go_wp2_with (first | ((with_reducible refine gate_dst (N := 2) rfl ?_); refine box_event ?hg (N := 2) ?hd (cs := #[.slice A0_0 l0_0.length c0_0, .slice A0_1 l0_1.length c0_1, .slice A0_2 l0_2.length c0_2, .slice A0_3 l0_3.length c0_3, .int .i64 a0_4]) (t := 30) ?hr ?_; (case hd => rfl); (case hg => rfl); (case hr => first | (go_simp; done) | (go_simp; rfl)); intro gb335 hg w3 hbox hb; have n0_ := Aside0.mk (below_step bH hb); have n1_ := Aside0.mk (hbox); have n2_ := Aside0.mk ((bZ hg : w.heap.size ≤ gb335)); have n3_ := Aside0.mk ((bZ hg : w.heap.size ≤ gb335)); clear HB; have HB := n0_; have BK335 := n1_; have GW335 := n2_; have GE335 := n3_; clear n0_ n1_ n2_ n3_; clear hb hbox hg) | ((with_reducible refine gate_dst (N := 9) rfl ?_); refine Kd.R_lit (Kd.int .i64) _ 3 ?hg (N := 9) ?hd (xs := ([] : List Int)) (inner := []) (ok := fun _ => True) (okp := fun _ => True) ?hr ?hp (fun _ hk => hk) trivial (Below.refl _ _) (Nat.le_refl _) (by simp) ?_; (case hd => rfl); (case hg => rfl); (case hr => first | (go_simp; done) | (go_simp; rfl)); (case hp => exact (Reps.none _ _)); intro v337 w4 ho5 hb hg_ hnew_; clear hg_ hnew_; (first | rw [← Ny336.out] at ho5 | (simp only [Int.reduceToNat] at ho5; rw [← Ny336.out] at ho5)); have n0_ := Aside0.mk (Kd.R_lower ho5 (below_size bS)); have n1_ := Aside0.mk (blk_below (kB BK335.out) hb); have n2_ := Aside0.mk (below_step bS hb); clear BK335; clear HB; have HO338 := n0_; have BK335 := n1_; have HB := n2_; clear n0_ n1_ n2_; clear hb ho5))
 go_loopg [5, 6] k (fun kq v5 v6 w' => ∃ (x5_1 : List Int) (x6_1 : Int), v6 = .int .i64 x6_1 ∧ Aside0 (spec_l6Far.l0 kq a1 x5_1 x6_1 l0_0 l0_1 l0_2 l0_3 a0_4 = some r) ∧ Aside0 (kq ≤ k) ∧ Aside0 (Kd.R (Kd.int .i64) 3 w' w.heap.size (fun _ => True) v5 x5_1) ∧ Aside0 (w'.heap[gb335]? = some (.cells #[(.slice A0_0 l0_0.length c0_0), (.slice A0_1 l0_1.length c0_1), (.slice A0_2 l0_2.length c0_2), (.slice A0_3 l0_3.length c0_3), .int .i64 a0_4] 30 (0, 0))) ∧ Aside0 (Below w.heap.size w w'))
 case atStart => exact ⟨(y336), (0), eX, H', ⟨Nat.le_refl _⟩, ⟨by (with_reducible repeat (first | apply Kd.R_alloc | apply Kd.R_drewN | apply Kd.R_drew)); exact HO338.out⟩, ⟨by (with_reducible repeat (first | refine blk_drewN ?_ _ | refine blk_drew ?_ | refine blk_alloc ?_ _)); exact BK335.out⟩, ⟨by repeat (first | (with_reducible first | exact HB.out | apply below_alloc | apply pw_below_drewN | apply below_drew1 | refine below_set ?_ GE335.out) | exact HB.out)⟩⟩
 case round =>
  clear H'
  try clear p2
  obtain ⟨x5_1, x6_1, rfl, HA, HK1, HO_5, BK335, HB⟩ := hrel
  cases gk with
  | zero => exact absurd HA.out (by simp [spec_l6Far.l0])
  | succ k1 =>
   have H := HA.out
   clear HA
   simp only [spec_l6Far.l0] at H
   by_cases c6 : x6_1 < 3
   ·rw [if_pos c6] at H
    have c6b0 : decide (x6_1 < 3) = true := decide_eq_true c6
    clear c6
    by_cases c7 : x5_1.length < 17592186044416
    ·rw [if_pos c7] at H
     have LMc7 := Aside0.mk c7
     clear c7
     obtain ⟨y339, hy339⟩ : ∃ y_ : List Int, y_ = (x5_1 ++ [3]) := ⟨_, rfl⟩
     replace H : (spec_l6Far.l0 k1 a1 y339 (wrap64 (x6_1 + 1)) l0_0 l0_1 l0_2 l0_3 a0_4) = some r := by first | (rw [hy339]; with_reducible exact H) | (have H2_ := (Option.bind_some _ _).symm.trans H; rw [hy339]; with_reducible exact H2_) | (have H2_ := (Option.bind_some _ _).symm.trans H; with_reducible exact H2_) | with_reducible exact H | (rw [hy339]; exact H) | exact H
     have Ny339 := Aside0.mk hy339
     clear hy339
     have H' := Aside0.mk H
     clear H
     go_wp2_with (first | ((with_reducible refine gate_builtin (b := .append) (xs := #[.tmp 14, .tmp 15]) rfl ?_); at_builtin; refine Kd.R_append (Kd.int .i64) (w0 := w) w.heap.size rfl (.tmp 14) (.tmp 15) 22 3 (.int .i64 0) 8 rfl Try.underlying22 info3 rfl (by decide) (by omega) u5 x5_1 3 [.int .i64 3] (fun _ => True) (fun _ => False) rfl rfl ?aP (fun _ hk => hk.elim) ?aF ?aO ?aB ?aS ?aL ?_; (case aP => exact rfl); (case aB => exact bS); (case aF => exact (fun _ _ => trivial)); (case aO => exact (kR HO_5.out)); (case aS => exact (below_size bS)); (case aL => have := LMc7.out; omega); intro v340 w8 ho hb hg hat; rw [← Ny339.out] at ho; have n0_ := Aside0.mk (blk_grown (g := gb335) (o := .cells #[.slice A0_0 l0_0.length c0_0, .slice A0_1 l0_1.length c0_1, .slice A0_2 l0_2.length c0_2, .slice A0_3 l0_3.length c0_3, .int .i64 a0_4] 30 (0, 0)) (kB BK335.out) hg (Kd.R_ne HO_5.out BK335.out (by decide))); have n1_ := Aside0.mk (hb); have n2_ := Aside0.mk (ho); clear BK335; clear HB; clear HO_5; have BK335 := n0_; have HB := n1_; have HO341 := n2_; clear n0_ n1_ n2_; clear ho hb hg hat))
     go_roundg k1
     case measure => have := HK1.out; omega
     case rel => exact ⟨(y339), (wrap64 (x6_1 + 1)), eX, H', ⟨by have := HK1.out; omega⟩, ⟨by (with_reducible repeat (first | apply Kd.R_alloc | apply Kd.R_drewN | apply Kd.R_drew)); exact HO341.out⟩, ⟨by (with_reducible repeat (first | refine blk_drewN ?_ _ | refine blk_drew ?_ | refine blk_alloc ?_ _)); exact BK335.out⟩, ⟨by repeat (first | (with_reducible first | exact HB.out | apply below_alloc | apply pw_below_drewN | apply below_drew1 | refine below_set ?_ GE335.out) | exact HB.out)⟩⟩
    ·rw [if_neg c7] at H
     exact absurd H (by simp)
   ·rw [if_neg c6] at H
    have c6b0 : decide (x6_1 < 3) = false := decide_eq_false c6
    clear c6
    by_cases c9 : 0 ≤ a1
    ·rw [if_pos c9] at H
     have c9b0 : decide (0 ≤ a1) = true := decide_eq_true c9
     clear c9
     by_cases c10 : a1 < (x5_1.length : Int)
     ·rw [if_pos c10] at H
      have c10b0 : decide (a1 < (x5_1.length : Int)) = true := decide_eq_true c10
      clear c10
      obtain ⟨y342, hy342⟩ : ∃ y_ : List Int, y_ = (x5_1.set (a1 : Int).toNat 0) := ⟨_, rfl⟩
      replace H : (spec_l6Far.l1 k1 y342 0 l0_0 l0_1 l0_2 l0_3 a0_4) = some r := by first | (rw [hy342]; with_reducible exact H) | (have H2_ := (Option.bind_some _ _).symm.trans H; rw [hy342]; with_reducible exact H2_) | (have H2_ := (Option.bind_some _ _).symm.trans H; with_reducible exact H2_) | with_reducible exact H | (rw [hy342]; exact H) | exact H
      have Ny342 := Aside0.mk hy342
      clear hy342
      have H' := Aside0.mk H
      clear H
      have p11 : 0 ≤ (a1 : Int) := of_decide_eq_true aA
      have q11 : (a1 : Int) < ((x5_1.length : Int) : Int) := of_decide_eq_true aA
      obtain ⟨go11, co11, eo11, gb11, gl11, cl11, HG11⟩ := Kd.R_form HO_5.out (by omega)
      (first | cases eo11 | (injection eo11 with ea_ en_ ec_; (first | subst ea_ | (injection ea_ with ea_; subst ea_)); subst ec_; clear en_))
      have GB11 := Aside0.mk gb11
      have GG11 := Aside0.mk HG11
      clear gb11 gl11 HG11
      obtain ⟨hx11_0, hf11_0⟩ := Kd.R_celln 0 HO_5.out (a1 : Int) p11 q11
      replace p11 := eq_true p11
      replace q11 := eq_true q11
      have HP12 := Kd.R_putg HO_5.out (a1 : Int) 0
      go_wp2_with (first | ((with_reducible refine gate_store (t := 3) (p := 19) rfl ?_); refine store_event (t := 3) (p := 19) (v := ?vo_w13) (w1 := (wr.setCell ⟨go11, (a1 : Int).toNat, none⟩ (.int .i64 0))) ?hg ?ho ?hn ?hr ?_; (case ho => rfl); (case hg => rfl); (case hn => rfl); (case hr => first | (go_simp; done) | (go_simp; rfl)); intro w13 hw; have hg : wr.grownBy w13 (some go11) := (by rw [hw]; exact HP12.2); have hp_ : Kd.R (Kd.int .i64) 3 w13 w.heap.size (fun _ => True) (.slice (some ⟨go11, 0, none⟩) x5_1.length co11) y342 := (by rw [hw, Ny342.out]; exact HP12.1); clear HP12; have n0_ := Aside0.mk (hp_); have n1_ := Aside0.mk (blk_grown (g := gb335) (o := .cells #[.slice A0_0 l0_0.length c0_0, .slice A0_1 l0_1.length c0_1, .slice A0_2 l0_2.length c0_2, .slice A0_3 l0_3.length c0_3, .int .i64 a0_4] 30 (0, 0)) (kB BK335.out) hg (Kd.R_ne HO_5.out BK335.out (by decide))); have n2_ := Aside0.mk ((by rw [hw]; exact below_set (HB.out) GB11.out : Below w.heap.size w w13)); clear HO_5; clear BK335; clear HB; have HO_5 := n0_; have BK335 := n1_; have HB := n2_; clear n0_ n1_ n2_; clear hg hw hp_))
      go_loopg [7] k1 (fun kq v7 w' => ∃ (x5_2 : List Int) (x7_2 : Int), v7 = .int .i64 x7_2 ∧ Aside0 (spec_l6Far.l1 kq x5_2 x7_2 l0_0 l0_1 l0_2 l0_3 a0_4 = some r) ∧ Aside0 (kq ≤ k1) ∧ Aside0 (Kd.R (Kd.int .i64) 3 w' w.heap.size (fun _ => True) (.slice (some ⟨go11, 0, none⟩) x5_1.length co11) x5_2) ∧ Aside0 (w'.heap[gb335]? = some (.cells #[(.slice A0_0 l0_0.length c0_0), (.slice A0_1 l0_1.length c0_1), (.slice A0_2 l0_2.length c0_2), (.slice A0_3 l0_3.length c0_3), .int .i64 a0_4] 30 (0, 0))) ∧ Aside0 (Below w.heap.size w w'))
      case atStart => exact ⟨(y342), (0), eX, H', ⟨Nat.le_refl _⟩, ⟨by (with_reducible repeat (first | apply Kd.R_alloc | apply Kd.R_drewN | apply Kd.R_drew)); exact HO_5.out⟩, ⟨by (with_reducible repeat (first | refine blk_drewN ?_ _ | refine blk_drew ?_ | refine blk_alloc ?_ _)); exact BK335.out⟩, ⟨by repeat (first | (with_reducible first | exact HB.out | apply below_alloc | apply pw_below_drewN | apply below_drew1 | refine below_set ?_ GE335.out) | exact HB.out)⟩⟩
      case round =>
       clear H'
       try clear c1
       try clear p1
       try clear q1
       try clear hx1
       try clear p2
       try clear c6
       try clear c6b0
       try clear p6
       try clear c7
       try clear c9
       try clear c9b0
       try clear c10
       try clear c10b0
       try clear p11
       try clear q11
       try clear hx11
       try clear hf11
       try clear hx11_0
       try clear p11
       try clear p2
       try clear q11
       obtain ⟨x5_2, x7_2, rfl, HA, HK2, HO_5, BK335, HB⟩ := hrel
       have hl5_2 := (Kd.R_reads' HO_5.out).1
       rw [hl5_2] at HO_5
       (try simp only [hl5_2])
       (try simp only [hl5_2] at BK335)
       cases gk with
       | zero => exact absurd HA.out (by simp [spec_l6Far.l1])
       | succ k2 =>
        have H := HA.out
        clear HA
        simp only [spec_l6Far.l1] at H
        by_cases c14 : x7_2 < 3
        ·rw [if_pos c14] at H
         have c14b0 : decide (x7_2 < 3) = true := decide_eq_true c14
         clear c14
         have H' := Aside0.mk H
         clear H
         go_wp2
         go_loopg [8] k2 (fun kq v8 w' => ∃ (x5_3 : List Int) (x8_3 : Int), v8 = .int .i64 x8_3 ∧ Aside0 (spec_l6Far.l2 kq x5_3 x7_2 x8_3 l0_0 l0_1 l0_2 l0_3 a0_4 = some r) ∧ Aside0 (kq ≤ k2) ∧ Aside0 (Kd.R (Kd.int .i64) 3 w' w.heap.size (fun _ => True) (.slice (some ⟨go11, 0, none⟩) x5_2.length co11) x5_3) ∧ Aside0 (w'.heap[gb335]? = some (.cells #[(.slice A0_0 l0_0.length c0_0), (.slice A0_1 l0_1.length c0_1), (.slice A0_2 l0_2.length c0_2), (.slice A0_3 l0_3.length c0_3), .int .i64 a0_4] 30 (0, 0))) ∧ Aside0 (Below w.heap.size w w'))
         case atStart => exact ⟨(x5_2), (0), eX, H', ⟨Nat.le_refl _⟩, ⟨by (try simp only [hl5_2]); (with_reducible repeat (first | apply Kd.R_alloc | apply Kd.R_drewN | apply Kd.R_drew)); exact HO_5.out⟩, ⟨by (try simp only [hl5_2]); (with_reducible repeat (first | refine blk_drewN ?_ _ | refine blk_drew ?_ | refine blk_alloc ?_ _)); exact BK335.out⟩, ⟨by repeat (first | (with_reducible first | exact HB.out | apply below_alloc | apply pw_below_drewN | apply below_drew1 | refine below_set ?_ GE335.out) | exact HB.out)⟩⟩
         case round =>
          clear H'
          try clear c1
          try clear p1
          try clear q1
          try clear hx1
          try clear p2
          try clear c6
          try clear c6b0
          try clear p6
          try clear c7
          try clear c9
          try clear c9b0
          try clear c10
          try clear c10b0
          try clear p11
          try clear q11
          try clear hx11
          try clear hf11
          try clear c14
          try clear c14b0
          try clear hx11_0
          try clear p1
          try clear p11
          try clear p2
          try clear p6
          try clear q1
          try clear q11
          obtain ⟨x5_3, x8_3, rfl, HA, HK3, HO_5, BK335, HB⟩ := hrel
          have hl5_3 := (Kd.R_reads' HO_5.out).1
          rw [hl5_3] at HO_5
          (try simp only [hl5_3])
          (try simp only [hl5_3] at BK335)
          cases gk with
          | zero => exact absurd HA.out (by simp [spec_l6Far.l2])
          | succ k3 =>
           have H := HA.out
           clear HA
           simp only [spec_l6Far.l2] at H
           by_cases c15 : x8_3 < (l0_2.length : Int)
           ·rw [if_pos c15] at H
            have c15b0 : decide (x8_3 < (l0_2.length : Int)) = true := decide_eq_true c15
            clear c15
            by_cases c16 : 0 ≤ x8_3
            ·rw [if_pos c16] at H
             have c16b0 : decide (0 ≤ x8_3) = true := decide_eq_true c16
             clear c16
             by_cases c17 : 0 ≤ ((rd_T42 l0_2 x8_3).f1)
             ·rw [if_pos c17] at H
              have c17b0 : decide (0 ≤ ((rd_T42 l0_2 x8_3).f1)) = true := decide_eq_true c17
              clear c17
              by_cases c18 : ((rd_T42 l0_2 x8_3).f1) < (x5_3.length : Int)
              ·rw [if_pos c18] at H
               have c18b0 : decide (((rd_T42 l0_2 x8_3).f1) < (x5_3.length : Int)) = true := decide_eq_true c18
               clear c18
               by_cases c19 : 0 ≤ ((rd_T42 l0_2 x8_3).f0)
               ·rw [if_pos c19] at H
                have c19b0 : decide (0 ≤ ((rd_T42 l0_2 x8_3).f0)) = true := decide_eq_true c19
                clear c19
                by_cases c20 : ((rd_T42 l0_2 x8_3).f0) < (x5_3.length : Int)
                ·rw [if_pos c20] at H
                 have c20b0 : decide (((rd_T42 l0_2 x8_3).f0) < (x5_3.length : Int)) = true := decide_eq_true c20
                 clear c20
                 by_cases c21 : (wrap64 ((rd x5_3 ((rd_T42 l0_2 x8_3).f1)) + 1)) < (rd x5_3 ((rd_T42 l0_2 x8_3).f0))
                 ·rw [if_pos c21] at H
                  have c21b0 : decide ((wrap64 ((rd x5_3 ((rd_T42 l0_2 x8_3).f1)) + 1)) < (rd x5_3 ((rd_T42 l0_2 x8_3).f0))) = true := decide_eq_true c21
                  clear c21
                  obtain ⟨y350, hy350⟩ : ∃ y_ : List Int, y_ = (x5_3.set (((rd_T42 l0_2 x8_3).f0) : Int).toNat (wrap64 ((rd x5_3 ((rd_T42 l0_2 x8_3).f1)) + 1))) := ⟨_, rfl⟩
                  replace H : (spec_l6Far.l2 k3 y350 x7_2 (wrap64 (x8_3 + 1)) l0_0 l0_1 l0_2 l0_3 a0_4) = some r := by first | (rw [hy350]; with_reducible exact H) | (have H2_ := (Option.bind_some _ _).symm.trans H; rw [hy350]; with_reducible exact H2_) | (have H2_ := (Option.bind_some _ _).symm.trans H; with_reducible exact H2_) | with_reducible exact H | (rw [hy350]; exact H) | exact H
                  have Ny350 := Aside0.mk hy350
                  clear hy350
                  have H' := Aside0.mk H
                  clear H
                  have hcz23_0 : wr.cell? ⟨gb335, 0, none⟩ = some (.slice A0_0 l0_0.length c0_0) := (blk_cell BK335.out 0).trans rfl
                  have hcz23_1 : wr.cell? ⟨gb335, 1, none⟩ = some (.slice A0_1 l0_1.length c0_1) := (blk_cell BK335.out 1).trans rfl
                  have hcz23_2 : wr.cell? ⟨gb335, 2, none⟩ = some (.slice A0_2 l0_2.length c0_2) := (blk_cell BK335.out 2).trans rfl
                  have hcz23_3 : wr.cell? ⟨gb335, 3, none⟩ = some (.slice A0_3 l0_3.length c0_3) := (blk_cell BK335.out 3).trans rfl
                  have hcz23_4 : wr.cell? ⟨gb335, 4, none⟩ = some (.int .i64 a0_4) := (blk_cell BK335.out 4).trans rfl
                  have hfz23_0 := blk_frozen BK335.out 0
                  have hfz23_1 := blk_frozen BK335.out 1
                  have hfz23_2 := blk_frozen BK335.out 2
                  have hfz23_3 := blk_frozen BK335.out 3
                  have hfz23_4 := blk_frozen BK335.out 4
                  try go_wp2
                  have n0_ := Aside0.mk (Kd.R_drew HO_5.out)
                  have n1_ := Aside0.mk (blk_drew BK335.out)
                  have n2_ := Aside0.mk (below_drew1 HB.out)
                  clear HO_5 BK335 HB
                  have HO_5 := n0_
                  have BK335 := n1_
                  have HB := n2_
                  clear n0_ n1_ n2_
                  have p343 : 0 ≤ (x8_3 : Int) := of_decide_eq_true aA
                  have q343 : x8_3 < (l0_2.length : Int) := of_decide_eq_true aA
                  obtain ⟨ad343, e343, hx343_0, hx343_1⟩ := at_T42 HR0_2.out x8_3 p343 q343
                  have hw343_1 := hx343_1
                  have hw343_0 := hx343_0
                  cases e343
                  replace hx343_0 := (HB.out.cell (World.block_lt_of_cell? w _ hx343_0)).trans hx343_0
                  replace hx343_1 := (HB.out.cell (World.block_lt_of_cell? w _ hx343_1)).trans hx343_1
                  replace p343 := eq_true p343
                  replace q343 := eq_true q343
                  have p344 : 0 ≤ (((rd_T42 l0_2 x8_3).f1) : Int) := of_decide_eq_true aA
                  have q344 : ((rd_T42 l0_2 x8_3).f1) < (x5_3.length : Int) := of_decide_eq_true aA
                  obtain ⟨ad344, e344, hx344_0⟩ := Kd.at_int (Kd.R_reads' HO_5.out).2.2 ((rd_T42 l0_2 x8_3).f1) p344 q344
                  obtain rfl : (⟨go11, 0, none⟩ : Addr) = ad344 := (by injection e344)
                  (first | simp only [add_plain] at hx344_0 | simp only [add_at] at hx344_0 | simp only [Addr.add, Nat.zero_add] at hx344_0 | skip)
                  replace p344 := eq_true p344
                  replace q344 := eq_true q344
                  have p345 : 0 ≤ (x8_3 : Int) := of_decide_eq_true aA
                  have q345 : x8_3 < (l0_2.length : Int) := of_decide_eq_true aA
                  obtain ⟨ad345, e345, hx345_0, hx345_1⟩ := at_T42 HR0_2.out x8_3 p345 q345
                  have hw345_1 := hx345_1
                  have hw345_0 := hx345_0
                  obtain rfl : ad343 = ad345 := (by injection e345)
                  replace hx345_0 := (HB.out.cell (World.block_lt_of_cell? w _ hx345_0)).trans hx345_0
                  replace hx345_1 := (HB.out.cell (World.block_lt_of_cell? w _ hx345_1)).trans hx345_1
                  replace p345 := eq_true p345
                  replace q345 := eq_true q345
                  have p346 : 0 ≤ (((rd_T42 l0_2 x8_3).f0) : Int) := of_decide_eq_true aA
                  have q346 : ((rd_T42 l0_2 x8_3).f0) < (x5_3.length : Int) := of_decide_eq_true aA
                  obtain ⟨ad346, e346, hx346_0⟩ := Kd.at_int (Kd.R_reads' HO_5.out).2.2 ((rd_T42 l0_2 x8_3).f0) p346 q346
                  obtain rfl : (⟨go11, 0, none⟩ : Addr) = ad346 := (by injection e346)
                  (first | simp only [add_plain] at hx346_0 | simp only [add_at] at hx346_0 | simp only [Addr.add, Nat.zero_add] at hx346_0 | skip)
                  replace p346 := eq_true p346
                  replace q346 := eq_true q346
                  refine start_ (n := 20) (S := fun w' => w'.cell? ⟨gb335, 0, none⟩ = some (.slice A0_0 l0_0.length c0_0) ∧ w'.cell? ⟨gb335, 1, none⟩ = some (.slice A0_1 l0_1.length c0_1) ∧ w'.cell? ⟨gb335, 2, none⟩ = some (.slice (some ad343) l0_2.length c0_2) ∧ w'.cell? ⟨gb335, 3, none⟩ = some (.slice A0_3 l0_3.length c0_3) ∧ w'.cell? ⟨gb335, 4, none⟩ = some (.int .i64 a0_4) ∧ w'.cell? (ad343.add ((x8_3).toNat * 2)) = some (.int .i64 ((rd_T42 l0_2 x8_3).f0)) ∧ w'.cell? ⟨(ad343.add ((x8_3).toNat * 2)).block, (ad343.add ((x8_3).toNat * 2)).off + 1, none⟩ = some (.int .i64 ((rd_T42 l0_2 x8_3).f1)) ∧ w'.cell? ⟨go11, (((rd_T42 l0_2 x8_3).f1)).toNat, none⟩ = some (.int .i64 (rd x5_3 ((rd_T42 l0_2 x8_3).f1))) ∧ w'.cell? (ad343.add ((x8_3).toNat * 2)) = some (.int .i64 ((rd_T42 l0_2 x8_3).f0)) ∧ w'.cell? ⟨(ad343.add ((x8_3).toNat * 2)).block, (ad343.add ((x8_3).toNat * 2)).off + 1, none⟩ = some (.int .i64 ((rd_T42 l0_2 x8_3).f1)) ∧ w'.cell? ⟨go11, (((rd_T42 l0_2 x8_3).f0)).toNat, none⟩ = some (.int .i64 (rd x5_3 ((rd_T42 l0_2 x8_3).f0)))) (ds := []) _ (by kernel_rfl) rfl rfl ⟨(blk_cell BK335.out 0).trans rfl, (blk_cell BK335.out 1).trans rfl, (blk_cell BK335.out 2).trans rfl, (blk_cell BK335.out 3).trans rfl, (blk_cell BK335.out 4).trans rfl, ((HB.out.cell (World.block_lt_of_cell? w _ hw343_0)).trans hw343_0), ((HB.out.cell (World.block_lt_of_cell? w _ hw343_1)).trans hw343_1), hx344_0, ((HB.out.cell (World.block_lt_of_cell? w _ hw345_0)).trans hw345_0), ((HB.out.cell (World.block_lt_of_cell? w _ hw345_1)).trans hw345_1), hx346_0⟩ (fun hHeld => ?_); refine with_tabW spec_l6Far.tab13 spec_l6Far.bits13 (fun HT_ HW_ => ?_)
                  generalize wr.drew = w24 at HO_5 BK335 HB hx343_0 hx343_1 hx344_0 hx345_0 hx345_1 hx346_0 hHeld ⊢
                  refine pU HT_ 0 (some 31) (mk 20 1) rfl rfl (h := ?_)
                  refine pU HT_ 1 (some 32) (mk 20 3) rfl rfl (h := ?_)
                  refine pU HT_ 3 (some 34) (mk 20 11) rfl rfl (h := ?_)
                  refine pU HT_ 10 (some 41) (mk 20 1035) rfl rfl (h := ?_)
                  refine pU HT_ 11 (some 42) (mk 20 3083) rfl rfl (h := ?_)
                  refine pU HT_ 13 (some 44) (mk 20 11275) rfl rfl (h := ?_)
                  refine tU HT_ HW_ 2 (some 33) (mk 20 11279) hHeld rfl rfl (by rintro w' ⟨s0, s1, s2, s3, s4, s5, s6, s7, s8, s9, s10⟩; go_simp; with_reducible rfl) (h := ?_)
                  refine pU HT_ 4 (some 35) (mk 20 11295) rfl rfl (h := ?_)
                  refine pU HT_ 5 (some 36) (mk 20 11327) rfl rfl (h := ?_)
                  refine tU HT_ HW_ 6 (some 37) (mk 20 11391) hHeld rfl rfl (by rintro w' ⟨s0, s1, s2, s3, s4, s5, s6, s7, s8, s9, s10⟩; go_simp; with_reducible rfl) (h := ?_)
                  refine pU HT_ 7 (some 38) (mk 20 11519) rfl rfl (h := ?_)
                  refine tU HT_ HW_ 8 (some 39) (mk 20 11775) hHeld rfl rfl (by rintro w' ⟨s0, s1, s2, s3, s4, s5, s6, s7, s8, s9, s10⟩; go_simp; with_reducible rfl) (h := ?_)
                  refine pU HT_ 9 (some 40) (mk 20 12287) rfl rfl (h := ?_)
                  refine tU HT_ HW_ 12 (some 43) (mk 20 16383) hHeld rfl rfl (by rintro w' ⟨s0, s1, s2, s3, s4, s5, s6, s7, s8, s9, s10⟩; go_simp; with_reducible rfl) (h := ?_)
                  refine pU HT_ 14 (some 45) (mk 20 32767) rfl rfl (h := ?_)
                  refine pU HT_ 15 (some 46) (mk 20 65535) rfl rfl (h := ?_)
                  refine tU HT_ HW_ 16 (some 47) (mk 20 131071) hHeld rfl rfl (by rintro w' ⟨s0, s1, s2, s3, s4, s5, s6, s7, s8, s9, s10⟩; go_simp; with_reducible rfl) (h := ?_)
                  refine pU HT_ 17 (some 48) (mk 20 262143) rfl rfl (h := ?_)
                  refine tU HT_ HW_ 18 (some 49) (mk 20 524287) hHeld rfl rfl (by rintro w' ⟨s0, s1, s2, s3, s4, s5, s6, s7, s8, s9, s10⟩; go_simp; with_reducible rfl) (h := ?_)
                  refine pU HT_ 19 (some 50) (mk 20 1048575) rfl rfl (h := ?_)
                  refine done_ (done_of HT_.out (by kernel_rfl)) ?_
                  try go_wp2
                  have n0_ := Aside0.mk (Kd.R_drew HO_5.out)
                  have n1_ := Aside0.mk (blk_drew BK335.out)
                  have n2_ := Aside0.mk (below_drew1 HB.out)
                  clear HO_5 BK335 HB
                  have HO_5 := n0_
                  have BK335 := n1_
                  have HB := n2_
                  clear n0_ n1_ n2_
                  have p347 : 0 ≤ (x8_3 : Int) := of_decide_eq_true aA
                  have q347 : x8_3 < (l0_2.length : Int) := of_decide_eq_true aA
                  obtain ⟨ad347, e347, hx347_0, hx347_1⟩ := at_T42 HR0_2.out x8_3 p347 q347
                  have hw347_1 := hx347_1
                  have hw347_0 := hx347_0
                  obtain rfl : ad343 = ad347 := (by injection e347)
                  replace hx347_0 := (HB.out.cell (World.block_lt_of_cell? w _ hx347_0)).trans hx347_0
                  replace hx347_1 := (HB.out.cell (World.block_lt_of_cell? w _ hx347_1)).trans hx347_1
                  replace p347 := eq_true p347
                  replace q347 := eq_true q347
                  have p348 : 0 ≤ (x8_3 : Int) := of_decide_eq_true aA
                  have q348 : x8_3 < (l0_2.length : Int) := of_decide_eq_true aA
                  obtain ⟨ad348, e348, hx348_0, hx348_1⟩ := at_T42 HR0_2.out x8_3 p348 q348
                  have hw348_1 := hx348_1
                  have hw348_0 := hx348_0
                  obtain rfl : ad343 = ad348 := (by injection e348)
                  replace hx348_0 := (HB.out.cell (World.block_lt_of_cell? w _ hx348_0)).trans hx348_0
                  replace hx348_1 := (HB.out.cell (World.block_lt_of_cell? w _ hx348_1)).trans hx348_1
                  replace p348 := eq_true p348
                  replace q348 := eq_true q348
                  have p349 : 0 ≤ (((rd_T42 l0_2 x8_3).f1) : Int) := of_decide_eq_true aA
                  have q349 : ((rd_T42 l0_2 x8_3).f1) < (x5_3.length : Int) := of_decide_eq_true aA
                  obtain ⟨ad349, e349, hx349_0⟩ := Kd.at_int (Kd.R_reads' HO_5.out).2.2 ((rd_T42 l0_2 x8_3).f1) p349 q349
                  obtain rfl : (⟨go11, 0, none⟩ : Addr) = ad349 := (by injection e349)
                  (first | simp only [add_plain] at hx349_0 | simp only [add_at] at hx349_0 | simp only [Addr.add, Nat.zero_add] at hx349_0 | skip)
                  replace p349 := eq_true p349
                  replace q349 := eq_true q349
                  have p22 : 0 ≤ (((rd_T42 l0_2 x8_3).f0) : Int) := of_decide_eq_true aA
                  have q22 : (((rd_T42 l0_2 x8_3).f0) : Int) < ((x5_3.length : Int) : Int) := of_decide_eq_true aA
                  obtain ⟨hx22_0, hf22_0⟩ := Kd.R_celln 0 HO_5.out (((rd_T42 l0_2 x8_3).f0) : Int) p22 q22
                  replace p22 := eq_true p22
                  replace q22 := eq_true q22
                  have HP26 := Kd.R_putn HO_5.out (((rd_T42 l0_2 x8_3).f0) : Int) (wrap64 ((rd x5_3 ((rd_T42 l0_2 x8_3).f1)) + 1))
                  rw [← Ny350.out] at HP26
                  have HQ26 := Aside0.mk HP26
                  clear HP26
                  refine start_ (n := 19) (S := fun w' => w'.cell? ⟨gb335, 0, none⟩ = some (.slice A0_0 l0_0.length c0_0) ∧ w'.cell? ⟨gb335, 1, none⟩ = some (.slice A0_1 l0_1.length c0_1) ∧ w'.cell? ⟨gb335, 2, none⟩ = some (.slice (some ad343) l0_2.length c0_2) ∧ w'.cell? ⟨gb335, 3, none⟩ = some (.slice A0_3 l0_3.length c0_3) ∧ w'.cell? ⟨gb335, 4, none⟩ = some (.int .i64 a0_4) ∧ w'.cell? (ad343.add ((x8_3).toNat * 2)) = some (.int .i64 ((rd_T42 l0_2 x8_3).f0)) ∧ w'.cell? ⟨(ad343.add ((x8_3).toNat * 2)).block, (ad343.add ((x8_3).toNat * 2)).off + 1, none⟩ = some (.int .i64 ((rd_T42 l0_2 x8_3).f1)) ∧ w'.cell? (ad343.add ((x8_3).toNat * 2)) = some (.int .i64 ((rd_T42 l0_2 x8_3).f0)) ∧ w'.cell? ⟨(ad343.add ((x8_3).toNat * 2)).block, (ad343.add ((x8_3).toNat * 2)).off + 1, none⟩ = some (.int .i64 ((rd_T42 l0_2 x8_3).f1)) ∧ w'.cell? ⟨go11, (((rd_T42 l0_2 x8_3).f1)).toNat, none⟩ = some (.int .i64 (rd x5_3 ((rd_T42 l0_2 x8_3).f1)))) (ds := [18]) _ (by kernel_rfl) rfl rfl ⟨(blk_cell BK335.out 0).trans rfl, (blk_cell BK335.out 1).trans rfl, (blk_cell BK335.out 2).trans rfl, (blk_cell BK335.out 3).trans rfl, (blk_cell BK335.out 4).trans rfl, ((HB.out.cell (World.block_lt_of_cell? w _ hw347_0)).trans hw347_0), ((HB.out.cell (World.block_lt_of_cell? w _ hw347_1)).trans hw347_1), ((HB.out.cell (World.block_lt_of_cell? w _ hw348_0)).trans hw348_0), ((HB.out.cell (World.block_lt_of_cell? w _ hw348_1)).trans hw348_1), hx349_0⟩ (fun hHeld => ?_); refine with_tabW spec_l6Far.tab14 spec_l6Far.bits14 (fun HT_ HW_ => ?_)
                  generalize w24.drew = w25 at HO_5 BK335 HB HQ26 hf22_0 hx22_0 hx347_0 hx347_1 hx348_0 hx348_1 hx349_0 hHeld ⊢
                  refine pU HT_ 0 (some 51) (mk 19 1) rfl rfl (h := ?_)
                  refine pU HT_ 1 (some 52) (mk 19 3) rfl rfl (h := ?_)
                  refine pU HT_ 3 (some 54) (mk 19 11) rfl rfl (h := ?_)
                  refine pU HT_ 7 (some 58) (mk 19 139) rfl rfl (h := ?_)
                  refine pU HT_ 8 (some 59) (mk 19 395) rfl rfl (h := ?_)
                  refine pU HT_ 10 (some 61) (mk 19 1419) rfl rfl (h := ?_)
                  refine tU HT_ HW_ 2 (some 53) (mk 19 1423) hHeld rfl rfl (by rintro w' ⟨s0, s1, s2, s3, s4, s5, s6, s7, s8, s9⟩; go_simp; with_reducible rfl) (h := ?_)
                  refine pU HT_ 4 (some 55) (mk 19 1439) rfl rfl (h := ?_)
                  refine pU HT_ 5 (some 56) (mk 19 1471) rfl rfl (h := ?_)
                  refine tU HT_ HW_ 6 (some 57) (mk 19 1535) hHeld rfl rfl (by rintro w' ⟨s0, s1, s2, s3, s4, s5, s6, s7, s8, s9⟩; go_simp; with_reducible rfl) (h := ?_)
                  refine tU HT_ HW_ 9 (some 60) (mk 19 2047) hHeld rfl rfl (by rintro w' ⟨s0, s1, s2, s3, s4, s5, s6, s7, s8, s9⟩; go_simp; with_reducible rfl) (h := ?_)
                  refine pU HT_ 11 (some 62) (mk 19 4095) rfl rfl (h := ?_)
                  refine pU HT_ 12 (some 63) (mk 19 8191) rfl rfl (h := ?_)
                  refine tU HT_ HW_ 13 (some 64) (mk 19 16383) hHeld rfl rfl (by rintro w' ⟨s0, s1, s2, s3, s4, s5, s6, s7, s8, s9⟩; go_simp; with_reducible rfl) (h := ?_)
                  refine pU HT_ 14 (some 65) (mk 19 32767) rfl rfl (h := ?_)
                  refine tU HT_ HW_ 15 (some 66) (mk 19 65535) hHeld rfl rfl (by rintro w' ⟨s0, s1, s2, s3, s4, s5, s6, s7, s8, s9⟩; go_simp; with_reducible rfl) (h := ?_)
                  refine pU HT_ 16 (some 67) (mk 19 131071) rfl rfl (h := ?_)
                  refine pU HT_ 17 (some 68) (mk 19 262143) rfl rfl (h := ?_)
                  refine last_ (i := 18) (N := none) #[true, true, true, true, true, true, true, true, true, true, true, true, true, true, true, true, true, true, true] rfl rfl (one_of HT_.out (by kernel_rfl)) (by decide) (fun K hK => ?_)
                  refine skip_ (w1 := ?_) (by rfl) rfl ?_ ?_
                  rotate_left
                  ·go_simp
                   rfl
                  refine hK.out _ _ ?_
                  clear hK K
                  refine done_ (done_of HT_.out (by kernel_rfl)) ?_
                  try go_wp2
                  (try simp only [← hl5_3])
                  go_roundg k3
                  case measure => have := HK1.out; have := HK2.out; have := HK3.out; omega
                  case rel => exact ⟨(y350), (wrap64 (x8_3 + 1)), eX, H', ⟨by have := HK1.out; have := HK2.out; have := HK3.out; omega⟩, ⟨by (try simp only [hl5_2]); (try simp only [hl5_3]); (with_reducible repeat (first | apply Kd.R_alloc | apply Kd.R_drewN | apply Kd.R_drew)); exact HQ26.out⟩, ⟨by (try simp only [hl5_2]); (try simp only [hl5_3]); (with_reducible repeat (first | refine blk_drewN ?_ _ | refine blk_drew ?_ | refine blk_alloc ?_ _)); refine blk_far ?_ (by have h_ := Kd.R_ne HO_5.out BK335.out (by decide); intro e_; exact h_ (by rw [e_]; rfl)) _; (with_reducible repeat (first | refine blk_drewN ?_ _ | refine blk_drew ?_ | refine blk_alloc ?_ _)); exact BK335.out⟩, ⟨by repeat (first | (with_reducible first | exact HB.out | apply below_alloc | apply pw_below_drewN | apply below_drew1 | refine below_set ?_ GB11.out | refine below_set ?_ GE335.out) | exact HB.out)⟩⟩
                 ·rw [if_neg c21] at H
                  have c21b0 : decide ((wrap64 ((rd x5_3 ((rd_T42 l0_2 x8_3).f1)) + 1)) < (rd x5_3 ((rd_T42 l0_2 x8_3).f0))) = false := decide_eq_false c21
                  clear c21
                  have H' := Aside0.mk H
                  clear H
                  have hcz27_0 : wr.cell? ⟨gb335, 0, none⟩ = some (.slice A0_0 l0_0.length c0_0) := (blk_cell BK335.out 0).trans rfl
                  have hcz27_1 : wr.cell? ⟨gb335, 1, none⟩ = some (.slice A0_1 l0_1.length c0_1) := (blk_cell BK335.out 1).trans rfl
                  have hcz27_2 : wr.cell? ⟨gb335, 2, none⟩ = some (.slice A0_2 l0_2.length c0_2) := (blk_cell BK335.out 2).trans rfl
                  have hcz27_3 : wr.cell? ⟨gb335, 3, none⟩ = some (.slice A0_3 l0_3.length c0_3) := (blk_cell BK335.out 3).trans rfl
                  have hcz27_4 : wr.cell? ⟨gb335, 4, none⟩ = some (.int .i64 a0_4) := (blk_cell BK335.out 4).trans rfl
                  have hfz27_0 := blk_frozen BK335.out 0
                  have hfz27_1 := blk_frozen BK335.out 1
                  have hfz27_2 := blk_frozen BK335.out 2
                  have hfz27_3 := blk_frozen BK335.out 3
                  have hfz27_4 := blk_frozen BK335.out 4
                  try go_wp2
                  have n0_ := Aside0.mk (Kd.R_drew HO_5.out)
                  have n1_ := Aside0.mk (blk_drew BK335.out)
                  have n2_ := Aside0.mk (below_drew1 HB.out)
                  clear HO_5 BK335 HB
                  have HO_5 := n0_
                  have BK335 := n1_
                  have HB := n2_
                  clear n0_ n1_ n2_
                  have p343 : 0 ≤ (x8_3 : Int) := of_decide_eq_true aA
                  have q343 : x8_3 < (l0_2.length : Int) := of_decide_eq_true aA
                  obtain ⟨ad343, e343, hx343_0, hx343_1⟩ := at_T42 HR0_2.out x8_3 p343 q343
                  have hw343_1 := hx343_1
                  have hw343_0 := hx343_0
                  cases e343
                  replace hx343_0 := (HB.out.cell (World.block_lt_of_cell? w _ hx343_0)).trans hx343_0
                  replace hx343_1 := (HB.out.cell (World.block_lt_of_cell? w _ hx343_1)).trans hx343_1
                  replace p343 := eq_true p343
                  replace q343 := eq_true q343
                  have p344 : 0 ≤ (((rd_T42 l0_2 x8_3).f1) : Int) := of_decide_eq_true aA
                  have q344 : ((rd_T42 l0_2 x8_3).f1) < (x5_3.length : Int) := of_decide_eq_true aA
                  obtain ⟨ad344, e344, hx344_0⟩ := Kd.at_int (Kd.R_reads' HO_5.out).2.2 ((rd_T42 l0_2 x8_3).f1) p344 q344
                  obtain rfl : (⟨go11, 0, none⟩ : Addr) = ad344 := (by injection e344)
                  (first | simp only [add_plain] at hx344_0 | simp only [add_at] at hx344_0 | simp only [Addr.add, Nat.zero_add] at hx344_0 | skip)
                  replace p344 := eq_true p344
                  replace q344 := eq_true q344
                  have p345 : 0 ≤ (x8_3 : Int) := of_decide_eq_true aA
                  have q345 : x8_3 < (l0_2.length : Int) := of_decide_eq_true aA
                  obtain ⟨ad345, e345, hx345_0, hx345_1⟩ := at_T42 HR0_2.out x8_3 p345 q345
                  have hw345_1 := hx345_1
                  have hw345_0 := hx345_0
                  obtain rfl : ad343 = ad345 := (by injection e345)
                  replace hx345_0 := (HB.out.cell (World.block_lt_of_cell? w _ hx345_0)).trans hx345_0
                  replace hx345_1 := (HB.out.cell (World.block_lt_of_cell? w _ hx345_1)).trans hx345_1
                  replace p345 := eq_true p345
                  replace q345 := eq_true q345
                  have p346 : 0 ≤ (((rd_T42 l0_2 x8_3).f0) : Int) := of_decide_eq_true aA
                  have q346 : ((rd_T42 l0_2 x8_3).f0) < (x5_3.length : Int) := of_decide_eq_true aA
                  obtain ⟨ad346, e346, hx346_0⟩ := Kd.at_int (Kd.R_reads' HO_5.out).2.2 ((rd_T42 l0_2 x8_3).f0) p346 q346
                  obtain rfl : (⟨go11, 0, none⟩ : Addr) = ad346 := (by injection e346)
                  (first | simp only [add_plain] at hx346_0 | simp only [add_at] at hx346_0 | simp only [Addr.add, Nat.zero_add] at hx346_0 | skip)
                  replace p346 := eq_true p346
                  replace q346 := eq_true q346
                  refine start_ (n := 20) (S := fun w' => w'.cell? ⟨gb335, 0, none⟩ = some (.slice A0_0 l0_0.length c0_0) ∧ w'.cell? ⟨gb335, 1, none⟩ = some (.slice A0_1 l0_1.length c0_1) ∧ w'.cell? ⟨gb335, 2, none⟩ = some (.slice (some ad343) l0_2.length c0_2) ∧ w'.cell? ⟨gb335, 3, none⟩ = some (.slice A0_3 l0_3.length c0_3) ∧ w'.cell? ⟨gb335, 4, none⟩ = some (.int .i64 a0_4) ∧ w'.cell? (ad343.add ((x8_3).toNat * 2)) = some (.int .i64 ((rd_T42 l0_2 x8_3).f0)) ∧ w'.cell? ⟨(ad343.add ((x8_3).toNat * 2)).block, (ad343.add ((x8_3).toNat * 2)).off + 1, none⟩ = some (.int .i64 ((rd_T42 l0_2 x8_3).f1)) ∧ w'.cell? ⟨go11, (((rd_T42 l0_2 x8_3).f1)).toNat, none⟩ = some (.int .i64 (rd x5_3 ((rd_T42 l0_2 x8_3).f1))) ∧ w'.cell? (ad343.add ((x8_3).toNat * 2)) = some (.int .i64 ((rd_T42 l0_2 x8_3).f0)) ∧ w'.cell? ⟨(ad343.add ((x8_3).toNat * 2)).block, (ad343.add ((x8_3).toNat * 2)).off + 1, none⟩ = some (.int .i64 ((rd_T42 l0_2 x8_3).f1)) ∧ w'.cell? ⟨go11, (((rd_T42 l0_2 x8_3).f0)).toNat, none⟩ = some (.int .i64 (rd x5_3 ((rd_T42 l0_2 x8_3).f0)))) (ds := []) _ (by kernel_rfl) rfl rfl ⟨(blk_cell BK335.out 0).trans rfl, (blk_cell BK335.out 1).trans rfl, (blk_cell BK335.out 2).trans rfl, (blk_cell BK335.out 3).trans rfl, (blk_cell BK335.out 4).trans rfl, ((HB.out.cell (World.block_lt_of_cell? w _ hw343_0)).trans hw343_0), ((HB.out.cell (World.block_lt_of_cell? w _ hw343_1)).trans hw343_1), hx344_0, ((HB.out.cell (World.block_lt_of_cell? w _ hw345_0)).trans hw345_0), ((HB.out.cell (World.block_lt_of_cell? w _ hw345_1)).trans hw345_1), hx346_0⟩ (fun hHeld => ?_); refine with_tabW spec_l6Far.tab13 spec_l6Far.bits13 (fun HT_ HW_ => ?_)
                  generalize wr.drew = w28 at HO_5 BK335 HB hx343_0 hx343_1 hx344_0 hx345_0 hx345_1 hx346_0 hHeld ⊢
                  refine pU HT_ 0 (some 31) (mk 20 1) rfl rfl (h := ?_)
                  refine pU HT_ 1 (some 32) (mk 20 3) rfl rfl (h := ?_)
                  refine pU HT_ 3 (some 34) (mk 20 11) rfl rfl (h := ?_)
                  refine pU HT_ 10 (some 41) (mk 20 1035) rfl rfl (h := ?_)
                  refine pU HT_ 11 (some 42) (mk 20 3083) rfl rfl (h := ?_)
                  refine pU HT_ 13 (some 44) (mk 20 11275) rfl rfl (h := ?_)
                  refine tU HT_ HW_ 2 (some 33) (mk 20 11279) hHeld rfl rfl (by rintro w' ⟨s0, s1, s2, s3, s4, s5, s6, s7, s8, s9, s10⟩; go_simp; with_reducible rfl) (h := ?_)
                  refine pU HT_ 4 (some 35) (mk 20 11295) rfl rfl (h := ?_)
                  refine pU HT_ 5 (some 36) (mk 20 11327) rfl rfl (h := ?_)
                  refine tU HT_ HW_ 6 (some 37) (mk 20 11391) hHeld rfl rfl (by rintro w' ⟨s0, s1, s2, s3, s4, s5, s6, s7, s8, s9, s10⟩; go_simp; with_reducible rfl) (h := ?_)
                  refine pU HT_ 7 (some 38) (mk 20 11519) rfl rfl (h := ?_)
                  refine tU HT_ HW_ 8 (some 39) (mk 20 11775) hHeld rfl rfl (by rintro w' ⟨s0, s1, s2, s3, s4, s5, s6, s7, s8, s9, s10⟩; go_simp; with_reducible rfl) (h := ?_)
                  refine pU HT_ 9 (some 40) (mk 20 12287) rfl rfl (h := ?_)
                  refine tU HT_ HW_ 12 (some 43) (mk 20 16383) hHeld rfl rfl (by rintro w' ⟨s0, s1, s2, s3, s4, s5, s6, s7, s8, s9, s10⟩; go_simp; with_reducible rfl) (h := ?_)
                  refine pU HT_ 14 (some 45) (mk 20 32767) rfl rfl (h := ?_)
                  refine pU HT_ 15 (some 46) (mk 20 65535) rfl rfl (h := ?_)
                  refine tU HT_ HW_ 16 (some 47) (mk 20 131071) hHeld rfl rfl (by rintro w' ⟨s0, s1, s2, s3, s4, s5, s6, s7, s8, s9, s10⟩; go_simp; with_reducible rfl) (h := ?_)
                  refine pU HT_ 17 (some 48) (mk 20 262143) rfl rfl (h := ?_)
                  refine tU HT_ HW_ 18 (some 49) (mk 20 524287) hHeld rfl rfl (by rintro w' ⟨s0, s1, s2, s3, s4, s5, s6, s7, s8, s9, s10⟩; go_simp; with_reducible rfl) (h := ?_)
                  refine pU HT_ 19 (some 50) (mk 20 1048575) rfl rfl (h := ?_)
                  refine done_ (done_of HT_.out (by kernel_rfl)) ?_
                  try go_wp2
                  (try simp only [← hl5_3])
                  go_roundg k3
                  case measure => have := HK1.out; have := HK2.out; have := HK3.out; omega
                  case rel => exact ⟨(x5_3), (wrap64 (x8_3 + 1)), eX, H', ⟨by have := HK1.out; have := HK2.out; have := HK3.out; omega⟩, ⟨by (try simp only [hl5_2]); (try simp only [hl5_3]); (with_reducible repeat (first | apply Kd.R_alloc | apply Kd.R_drewN | apply Kd.R_drew)); exact HO_5.out⟩, ⟨by (try simp only [hl5_2]); (try simp only [hl5_3]); (with_reducible repeat (first | refine blk_drewN ?_ _ | refine blk_drew ?_ | refine blk_alloc ?_ _)); exact BK335.out⟩, ⟨by repeat (first | (with_reducible first | exact HB.out | apply below_alloc | apply pw_below_drewN | apply below_drew1 | refine below_set ?_ GE335.out) | exact HB.out)⟩⟩
                ·rw [if_neg c20] at H
                 exact absurd H (by simp)
               ·rw [if_neg c19] at H
                exact absurd H (by simp)
              ·rw [if_neg c18] at H
               exact absurd H (by simp)
             ·rw [if_neg c17] at H
              exact absurd H (by simp)
            ·rw [if_neg c16] at H
             exact absurd H (by simp)
           ·rw [if_neg c15] at H
            have c15b0 : decide (x8_3 < (l0_2.length : Int)) = false := decide_eq_false c15
            clear c15
            have H' := Aside0.mk H
            clear H
            have hcz29_0 : wr.cell? ⟨gb335, 0, none⟩ = some (.slice A0_0 l0_0.length c0_0) := (blk_cell BK335.out 0).trans rfl
            have hcz29_1 : wr.cell? ⟨gb335, 1, none⟩ = some (.slice A0_1 l0_1.length c0_1) := (blk_cell BK335.out 1).trans rfl
            have hcz29_2 : wr.cell? ⟨gb335, 2, none⟩ = some (.slice A0_2 l0_2.length c0_2) := (blk_cell BK335.out 2).trans rfl
            have hcz29_3 : wr.cell? ⟨gb335, 3, none⟩ = some (.slice A0_3 l0_3.length c0_3) := (blk_cell BK335.out 3).trans rfl
            have hcz29_4 : wr.cell? ⟨gb335, 4, none⟩ = some (.int .i64 a0_4) := (blk_cell BK335.out 4).trans rfl
            have hfz29_0 := blk_frozen BK335.out 0
            have hfz29_1 := blk_frozen BK335.out 1
            have hfz29_2 := blk_frozen BK335.out 2
            have hfz29_3 := blk_frozen BK335.out 3
            have hfz29_4 := blk_frozen BK335.out 4
            go_wp2
            (try simp only [← hl5_2, ← hl5_3])
            go_roundg k3
            case measure => have := HK1.out; have := HK2.out; have := HK3.out; omega
            case rel => exact ⟨(x5_3), (wrap64 (x7_2 + 1)), eX, H', ⟨by have := HK1.out; have := HK2.out; have := HK3.out; omega⟩, ⟨by (try simp only [hl5_2]); (try simp only [hl5_3]); (with_reducible repeat (first | apply Kd.R_alloc | apply Kd.R_drewN | apply Kd.R_drew)); exact HO_5.out⟩, ⟨by (try simp only [hl5_2]); (try simp only [hl5_3]); (with_reducible repeat (first | refine blk_drewN ?_ _ | refine blk_drew ?_ | refine blk_alloc ?_ _)); exact BK335.out⟩, ⟨by repeat (first | (with_reducible first | exact HB.out | apply below_alloc | apply pw_below_drewN | apply below_drew1 | refine below_set ?_ GE335.out) | exact HB.out)⟩⟩
        ·rw [if_neg c14] at H
         have c14b0 : decide (x7_2 < 3) = false := decide_eq_false c14
         clear c14
         obtain rfl := Option.some.inj H
         go_wp2
         go_ret
         exact ⟨_, by first | rfl | (simp [errW_none, errW_some] <;> rfl) | (simp [*, errW_none, errW_some] <;> rfl), by (with_reducible repeat (first | apply Kd.R_alloc | apply Kd.R_drewN | apply Kd.R_drew)); exact HO_5.out, bS⟩
     ·rw [if_neg c10] at H
      exact absurd H (by simp)
    ·rw [if_neg c9] at H
     exact absurd H (by simp)

end Go.Proofs.Ytmhjpnjolgigmaa.OFnWay
-- halved
-- squeezed
-- squeezed2
