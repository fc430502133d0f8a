-- walks of this claim, written by a program of mine
import Derived.Test.YthlpfghlildllaaOFnBuiltx0
import Derived.Test.YthlpfghlildllaaOFnBuiltx6
import Derived.Test.YthlpfghlildllaaOFnBuiltx14
namespace Go.Proofs.Ythlpfghlildllaa.OFnBuilt
open Go.RowKit Go.Proofs.Ythlpfghlildllaa.OWord Go.Proofs.YthlpfghlildllaaW.PrintWords Go.Proofs.YthlpfghlildllaaW.PrintLast Go.Proofs.YthlpfghlildllaaW.PrintMore
attribute [local go_sem] max2_int min2_int max_two min_two max_three min_three max_four min_four   -- for this text's walks alone
set_option linter.unusedVariables false
set_option linter.unusedSimpArgs false

/-! ### spec_l3Close: function 50 -/
mutual
def spec_l3Close.l0 : Nat → List ByteArray → List Int → Option (List ByteArray × List Int)
 | 0, _, _ => none
 | k + 1, x4, x5 => spec_l3Close.l1 k x4 x5 (x4.length : Int) (x5.length : Int) 0
def spec_l3Close.l1 : Nat → List ByteArray → List Int → Int → Int → Int → Option (List ByteArray × List Int)
 | 0, _, _, _, _, _ => none
 | k + 1, x4, x5, x6, x7, x8 => if x8 < (x4.length : Int) then (if 0 ≤ x8 then ((spec_ReadKey.f k (rdOf ByteArray.empty x4 x8)).bind fun bt462 => (if bt462.2 = true then ((spec_l3Put.f k x5 bt462.1).bind fun t464 => (spec_l3Close.j2 k x4 t464 x6 x7 x8)) else (spec_l3Close.j2 k x4 x5 x6 x7 x8))) else (none)) else (if (x4.length : Int) = x6 then (if (x5.length : Int) = x7 then (some (x4, x5)) else (spec_l3Close.l0 k x4 x5)) else (spec_l3Close.l0 k x4 x5))
def spec_l3Close.j2 : Nat → List ByteArray → List Int → Int → Int → Int → Option (List ByteArray × List Int)
 | 0, _, _, _, _, _ => none
 | k + 1, x4, x5, x6, x7, x8 => if 0 ≤ x8 then (if x8 < (x4.length : Int) then ((spec_Parts.f k (rdOf ByteArray.empty x4 x8)).bind fun bt468 => (spec_l3Close.l2 k x4 x5 x6 x7 x8 bt468.1 0)) else (none)) else (none)
def spec_l3Close.l2 : Nat → List ByteArray → List Int → Int → Int → Int → List ByteArray → Int → Option (List ByteArray × List Int)
 | 0, _, _, _, _, _, _, _ => none
 | k + 1, x4, x5, x6, x7, x8, x11, x13 => if x13 < (x11.length : Int) then (if 0 ≤ x13 then ((spec_l3In.f k x4 (rdOf ByteArray.empty x11 x13)).bind fun t473 => (if t473 = true then (spec_l3Close.l2 k x4 x5 x6 x7 x8 x11 (wrap64 (x13 + 1))) else (if x4.length < 8796093022208 then (spec_l3Close.l2 k (x4 ++ [rdOf ByteArray.empty x11 x13]) x5 x6 x7 x8 x11 (wrap64 (x13 + 1))) else (none)))) else (none)) else (spec_l3Close.l3 k x4 x5 x6 x7 x8 0)
def spec_l3Close.l3 : Nat → List ByteArray → List Int → Int → Int → Int → Int → Option (List ByteArray × List Int)
 | 0, _, _, _, _, _, _ => none
 | k + 1, x4, x5, x6, x7, x8, x14 => if x14 < (x5.length : Int) then (if 0 ≤ x8 then (if x8 < (x4.length : Int) then (if 0 ≤ x14 then ((spec_Open.f k (rdOf ByteArray.empty x4 x8) (rd x5 x14)).bind fun bt480 => (if bt480.2 = true then ((spec_l3In.f k x4 bt480.1).bind fun t482 => (if t482 = true then (spec_l3Close.l3 k x4 x5 x6 x7 x8 (wrap64 (x14 + 1))) else (if x4.length < 8796093022208 then (spec_l3Close.l3 k (x4 ++ [bt480.1]) x5 x6 x7 x8 (wrap64 (x14 + 1))) else (none)))) else (spec_l3Close.l3 k x4 x5 x6 x7 x8 (wrap64 (x14 + 1))))) else (none)) else (none)) else (none)) else (spec_l3Close.l1 k x4 x5 x6 x7 (wrap64 (x8 + 1)))
end
def spec_l3Close.f (k : Nat) (l0_0 : List ByteArray) (l0_1 : List Int) : Option (List ByteArray × List Int) := (some (([] : List ByteArray) : List ByteArray)).bind fun y449 => (if y449.length + l0_0.length < 8796093022208 then ((some (([] : List Int) : List Int)).bind fun y455 => (if y455.length + l0_1.length < 17592186044416 then (spec_l3Close.l0 k (y449 ++ l0_0) (y455 ++ l0_1)) else (none))) else (none))
def spec_l3Close.T20 : Bool × List (List Nat × List Nat) := (true, [([], []), ([], []), ([0, 1], [0, 1]), ([2], [2]), ([], []), ([], []), ([4, 5], [4, 5]), ([6], [6]), ([3, 7], [3, 7]), ([8], [8]), ([9], [9]), ([9], [9]), ([10, 8, 0, 1, 2, 3, 4, 5, 6, 7, 8, 9, 10], [10]), ([11, 12, 0, 1, 2, 3, 4, 5, 6, 7, 8, 9, 10, 11, 12], [11])])
def spec_l3Close.B20 : List Nat := [0, 0, 3, 7, 0, 0, 48, 112, 255, 511, 1023, 1023, 2047, 8191]
theorem spec_l3Close.tab20 : rtab .any (opsOf Try.f50 20) = spec_l3Close.T20 := by kernel_rfl
theorem spec_l3Close.bits20 : waitsOk spec_l3Close.T20.2 spec_l3Close.B20 = true := by kernel_rfl
set_option maxHeartbeats 8000000 in
set_option maxRecDepth 100000 in
theorem spec_l3Close.calls (k : Nat) (A0_0 : Option Addr) (c0_0 : Nat) (l0_0 : List ByteArray) (A0_1 : Option Addr) (c0_1 : Nat) (l0_1 : List Int) (r1 : List ByteArray) (r2 : List Int) (w : World) (hr0_0 : Kd.C Kd.string w A0_0 l0_0.length l0_0) (hc0_0 : l0_0.length ≤ c0_0) (hr0_1 : Kd.C (Kd.int .i64) w A0_1 l0_1.length l0_1) (hc0_1 : l0_1.length ≤ c0_1) (h : spec_l3Close.f k l0_0 l0_1 = some (r1, r2)) :
  Calls Try.prog 50 #[.agg #[.slice A0_0 l0_0.length c0_0, .slice A0_1 l0_1.length c0_1]] w fun e w' => ∃ v0_ v1_ : Value, e = .returned (.tuple #[v0_, v1_]) ∧ Kd.R Kd.string 9 w' w.heap.size (fun _ => True) v0_ r1 ∧ Kd.R (Kd.int .i64) 3 w' w.heap.size (fun _ => True) v1_ r2 ∧ Below w.heap.size w w' := by
 have hu27 := Try.underlying27
 have HR0_0 := Aside0.mk hr0_0
 have HC0_0 := Aside0.mk hc0_0
 clear hr0_0 hc0_0
 have HR0_1 := Aside0.mk hr0_1
 have HC0_1 := Aside0.mk hc0_1
 clear hr0_1 hc0_1
 have HB := Aside0.mk (Below.refl w.heap.size w)
 have H : ((some (([] : List ByteArray) : List ByteArray)).bind fun y449 => (if y449.length + l0_0.length < 8796093022208 then ((some (([] : List Int) : List Int)).bind fun y455 => (if y455.length + l0_1.length < 17592186044416 then (spec_l3Close.l0 k (y449 ++ l0_0) (y455 ++ l0_1)) else (none))) else (none))) = some (r1, r2) := h
 clear h
 obtain ⟨y449, hy449⟩ : ∃ y_ : List ByteArray, y_ = (([] : List ByteArray)) := ⟨_, rfl⟩
 replace H : (if y449.length + l0_0.length < 8796093022208 then ((some (([] : List Int) : List Int)).bind fun y455 => (if y455.length + l0_1.length < 17592186044416 then (spec_l3Close.l0 k (y449 ++ l0_0) (y455 ++ l0_1)) else (none))) else (none)) = some (r1, r2) := by first | (rw [hy449]; with_reducible exact H) | (have H2_ := (Option.bind_some _ _).symm.trans H; rw [hy449]; with_reducible exact H2_) | (have H2_ := (Option.bind_some _ _).symm.trans H; with_reducible exact H2_) | with_reducible exact H | (rw [hy449]; exact H) | exact H
 have Ny449 := Aside0.mk hy449
 clear hy449
 by_cases c2 : y449.length + l0_0.length < 8796093022208
 ·rw [if_pos c2] at H
  have LMc2 := Aside0.mk c2
  clear c2
  obtain ⟨y452, hy452⟩ : ∃ y_ : List ByteArray, y_ = (y449 ++ l0_0) := ⟨_, rfl⟩
  replace H : ((some (([] : List Int) : List Int)).bind fun y455 => (if y455.length + l0_1.length < 17592186044416 then (spec_l3Close.l0 k y452 (y455 ++ l0_1)) else (none))) = some (r1, r2) := by first | (rw [hy452]; with_reducible exact H) | (have H2_ := (Option.bind_some _ _).symm.trans H; rw [hy452]; with_reducible exact H2_) | (have H2_ := (Option.bind_some _ _).symm.trans H; with_reducible exact H2_) | with_reducible exact H | (rw [hy452]; exact H) | exact H
  have Ny452 := Aside0.mk hy452
  clear hy452
  obtain ⟨y455, hy455⟩ : ∃ y_ : List Int, y_ = (([] : List Int)) := ⟨_, rfl⟩
  replace H : (if y455.length + l0_1.length < 17592186044416 then (spec_l3Close.l0 k y452 (y455 ++ l0_1)) else (none)) = some (r1, r2) := by first | (rw [hy455]; with_reducible exact H) | (have H2_ := (Option.bind_some _ _).symm.trans H; rw [hy455]; with_reducible exact H2_) | (have H2_ := (Option.bind_some _ _).symm.trans H; with_reducible exact H2_) | with_reducible exact H | (rw [hy455]; exact H) | exact H
  have Ny455 := Aside0.mk hy455
  clear hy455
  by_cases c3 : y455.length + l0_1.length < 17592186044416
  ·rw [if_pos c3] at H
   have LMc3 := Aside0.mk c3
   clear c3
   obtain ⟨y458, hy458⟩ : ∃ y_ : List Int, y_ = (y455 ++ l0_1) := ⟨_, rfl⟩
   replace H : (spec_l3Close.l0 k y452 y458) = some (r1, r2) := by first | (rw [hy458]; with_reducible exact H) | (have H2_ := (Option.bind_some _ _).symm.trans H; rw [hy458]; with_reducible exact H2_) | (have H2_ := (Option.bind_some _ _).symm.trans H; with_reducible exact H2_) | with_reducible exact H | (rw [hy458]; exact H) | exact H
   have Ny458 := Aside0.mk hy458
   clear hy458
   have H' := Aside0.mk H
   clear H
   go_enter Try.func50, Try.ntmps50
   go_wp2_with (first | ((with_reducible refine gate_dst (N := 1) rfl ?_); (try (refine gate_guard (by rfl) ?_; dsimp only)); refine box_event ?hg (N := 1) ?hd (cs := #[.slice A0_0 l0_0.length c0_0, .slice A0_1 l0_1.length c0_1]) (t := 27) ?hr ?_; (case hd => rfl); (case hg => rfl); (case hr => first | (go_simp; done) | (go_simp; rfl)); intro gb448 hg w4 hbox hb; have n0_ := Aside0.mk (below_step bH hb); have n1_ := Aside0.mk (hbox); have n2_ := Aside0.mk ((bZ hg : w.heap.size ≤ gb448)); have n3_ := Aside0.mk ((bZ hg : w.heap.size ≤ gb448)); clear HB; have HB := n0_; have BK448 := n1_; have GW448 := n2_; have GE448 := n3_; clear n0_ n1_ n2_ n3_; clear hb hbox hg) | ((with_reducible refine gate_dst (N := 17) rfl ?_); (try (refine gate_guard (by rfl) ?_; dsimp only)); refine Kd.R_lit Kd.string _ 9 ?hg (N := 17) ?hd (xs := ([] : List ByteArray)) (inner := []) (ok := fun _ => True) (okp := fun _ => True) ?hr ?hp (fun _ hk => hk) trivial (Below.refl _ _) (Nat.le_refl _) (by simp) ?_; (case hd => rfl); (case hg => rfl); (case hr => first | (go_simp; done) | (go_simp; rfl)); (case hp => exact (Reps.none _ _)); intro v450 w5 ho6 hb hg_ hnew_; clear hg_ hnew_; (first | rw [← Ny449.out] at ho6 | (simp only [Int.reduceToNat] at ho6; rw [← Ny449.out] at ho6)); have n0_ := Aside0.mk (Kd.R_lower ho6 (below_size bS)); have n1_ := Aside0.mk (blk_below (kB BK448.out) hb); have n2_ := Aside0.mk (below_step bS hb); clear BK448; clear HB; have HO451 := n0_; have BK448 := n1_; have HB := n2_; clear n0_ n1_ n2_; clear hb ho6; have hcz7_0 : w5.cell? ⟨gb448, 0, none⟩ = some (.slice A0_0 l0_0.length c0_0) := (blk_cell BK448.out 0).trans rfl; have hcz7_1 : w5.cell? ⟨gb448, 1, none⟩ = some (.slice A0_1 l0_1.length c0_1) := (blk_cell BK448.out 1).trans rfl; have hfz7_0 := blk_frozen BK448.out 0; have hfz7_1 := blk_frozen BK448.out 1) | ((with_reducible refine gate_builtin (b := .append) (xs := #[.tmp 17, .tmp 19]) rfl ?_); (try (refine gate_guard (by rfl) ?_; dsimp only)); at_builtin; refine Kd.R_append_rows Kd.string (w0 := w) w.heap.size rfl (.tmp 17) (.tmp 19) 24 9 (.string ⟨#[]⟩) 16 rfl Try.underlying24 info9 rfl (by decide) (by omega) v450 y449 l0_0 _ _ _ (fun _ => True) (fun _ => False) rfl rfl ?aO ?aR (fun _ _ h => h) (fun _ h => h.elim) ?aF ?aB ?aS ?aL ?_; (case aR => repeat (first | exact (Kd.C_below HR0_0.out HB.out) | (with_reducible refine Kd.C_alloc ?_ _) | (with_reducible refine Kd.C_drewN ?_ _) | (with_reducible refine Kd.C_drew ?_))); (case aB => exact bS); (case aF => exact (fun _ _ => trivial)); (case aO => exact (kR HO451.out)); (case aS => exact (below_size bS)); (case aL => have := LMc2.out; omega); intro v453 w8 ho hb hg hat; rw [← Ny452.out] at ho; have n0_ := Aside0.mk (blk_grown (g := gb448) (o := .cells #[.slice A0_0 l0_0.length c0_0, .slice A0_1 l0_1.length c0_1] 27 (0, 0)) (kB BK448.out) hg (Kd.R_ne HO451.out BK448.out (by decide))); have n1_ := Aside0.mk (hb); have n2_ := Aside0.mk (ho); clear BK448; clear HB; clear HO451; have BK448 := n0_; have HB := n1_; have HO454 := n2_; clear n0_ n1_ n2_; clear ho hb hg hat) | ((with_reducible refine gate_dst (N := 21) rfl ?_); (try (refine gate_guard (by rfl) ?_; dsimp only)); refine Kd.R_lit (Kd.int .i64) _ 3 ?hg (N := 21) ?hd (xs := ([] : List Int)) (inner := []) (ok := fun _ => True) (okp := fun _ => True) ?hr ?hp (fun _ hk => hk) trivial (Below.refl _ _) (Nat.le_refl _) (by simp) ?_; (case hd => rfl); (case hg => rfl); (case hr => first | (go_simp; done) | (go_simp; rfl)); (case hp => exact (Reps.none _ _)); intro v456 w9 ho10 hb hg_ hnew_; clear hg_ hnew_; (first | rw [← Ny455.out] at ho10 | (simp only [Int.reduceToNat] at ho10; rw [← Ny455.out] at ho10)); have n0_ := Aside0.mk (Kd.R_below (kR HO454.out) hb); have n1_ := Aside0.mk (Kd.R_lower ho10 (below_size bS)); have n2_ := Aside0.mk (blk_below (kB BK448.out) hb); have n3_ := Aside0.mk (below_step bS hb); clear HO454; clear BK448; clear HB; have HO454 := n0_; have HO457 := n1_; have BK448 := n2_; have HB := n3_; clear n0_ n1_ n2_ n3_; clear hb ho10; have hcz11_0 : w9.cell? ⟨gb448, 0, none⟩ = some (.slice A0_0 l0_0.length c0_0) := (blk_cell BK448.out 0).trans rfl; have hcz11_1 : w9.cell? ⟨gb448, 1, none⟩ = some (.slice A0_1 l0_1.length c0_1) := (blk_cell BK448.out 1).trans rfl; have hfz11_0 := blk_frozen BK448.out 0; have hfz11_1 := blk_frozen BK448.out 1) | ((with_reducible refine gate_builtin (b := .append) (xs := #[.tmp 21, .tmp 23]) rfl ?_); (try (refine gate_guard (by rfl) ?_; dsimp only)); at_builtin; refine Kd.R_append_rows (Kd.int .i64) (w0 := w) w.heap.size rfl (.tmp 21) (.tmp 23) 25 3 (.int .i64 0) 8 rfl Try.underlying25 info3 rfl (by decide) (by omega) v456 y455 l0_1 _ _ _ (fun _ => True) (fun _ => False) rfl rfl ?aO ?aR (fun _ _ h => h) (fun _ h => h.elim) ?aF ?aB ?aS ?aL ?_; (case aR => repeat (first | exact (Kd.C_below HR0_1.out HB.out) | (with_reducible refine Kd.C_alloc ?_ _) | (with_reducible refine Kd.C_drewN ?_ _) | (with_reducible refine Kd.C_drew ?_))); (case aB => exact bS); (case aF => exact (fun _ _ => trivial)); (case aO => exact (kR HO457.out)); (case aS => exact (below_size bS)); (case aL => have := LMc3.out; omega); intro v459 w12 ho hb hg hat; rw [← Ny458.out] at ho; have n0_ := Aside0.mk (blk_grown (g := gb448) (o := .cells #[.slice A0_0 l0_0.length c0_0, .slice A0_1 l0_1.length c0_1] 27 (0, 0)) (kB BK448.out) hg (Kd.R_ne HO457.out BK448.out (by decide))); have n1_ := Aside0.mk (Kd.R_over' (kR HO454.out) (Kd.R_typed (kR HO457.out)) (by decide) hg); have n2_ := Aside0.mk (hb); have n3_ := Aside0.mk (ho); clear BK448; clear HO454; clear HB; clear HO457; have BK448 := n0_; have HO454 := n1_; have HB := n2_; have HO460 := n3_; clear n0_ n1_ n2_ n3_; clear ho hb hg hat))
   go_loopg [4, 5] k (fun kq v4 v5 w' => ∃ (x4_1 : List ByteArray) (x5_1 : List Int), Aside0 (spec_l3Close.l0 kq x4_1 x5_1 = some (r1, r2)) ∧ Aside0 (kq ≤ k) ∧ Aside0 (Kd.R Kd.string 9 w' w.heap.size (fun _ => True) v4 x4_1) ∧ Aside0 (Kd.R (Kd.int .i64) 3 w' w.heap.size (fun _ => True) v5 x5_1) ∧ Aside0 (w'.heap[gb448]? = some (.cells #[(.slice A0_0 l0_0.length c0_0), (.slice A0_1 l0_1.length c0_1)] 27 (0, 0))) ∧ Aside0 (Below w.heap.size w w'))
   case atStart => exact ⟨(y452), (y458), H', ⟨Nat.le_refl _⟩, ⟨by (with_reducible repeat (first | apply Kd.R_alloc | apply Kd.R_drewN | apply Kd.R_drew)); exact HO454.out⟩, ⟨by (with_reducible repeat (first | apply Kd.R_alloc | apply Kd.R_drewN | apply Kd.R_drew)); exact HO460.out⟩, ⟨by (with_reducible repeat (first | refine blk_drewN ?_ _ | refine blk_drew ?_ | refine blk_alloc ?_ _)); exact BK448.out⟩, ⟨by repeat (first | (with_reducible first | exact HB.out | apply below_alloc | apply pw_below_drewN | apply below_drew1 | refine below_set ?_ GE448.out) | exact HB.out)⟩⟩
   case round =>
    clear H'
    try clear c2
    try clear p2
    try clear c3
    try clear c5
    try clear hcz11_0
    try clear hcz11_1
    try clear hcz7_0
    try clear hcz7_1
    try clear hfz11_0
    try clear hfz11_1
    try clear hfz7_0
    try clear hfz7_1
    obtain ⟨x4_1, x5_1, HA, HK1, HO_4, HO_5, BK448, HB⟩ := hrel
    cases gk with
    | zero => exact absurd HA.out (by simp [spec_l3Close.l0])
    | succ k1 =>
     have H := HA.out
     clear HA
     simp only [spec_l3Close.l0] at H
     have H' := Aside0.mk H
     clear H
     obtain ⟨Ao13, co13, eo13⟩ := Kd.R_slice HO_4.out
     subst eo13
     obtain ⟨Ao14, co14, eo14⟩ := Kd.R_slice HO_5.out
     subst eo14
     go_wp2
     go_loopg [4, 5, 8] k1 (fun kq v4 v5 v8 w' => ∃ (x4_2 : List ByteArray) (x5_2 : List Int) (x8_2 : Int), v8 = .int .i64 x8_2 ∧ Aside0 (spec_l3Close.l1 kq x4_2 x5_2 (x4_1.length : Int) (x5_1.length : Int) x8_2 = some (r1, r2)) ∧ Aside0 (kq ≤ k1) ∧ Aside0 (Kd.R Kd.string 9 w' w.heap.size (fun _ => True) v4 x4_2) ∧ Aside0 (Kd.R (Kd.int .i64) 3 w' w.heap.size (fun _ => True) v5 x5_2) ∧ Aside0 (w'.heap[gb448]? = some (.cells #[(.slice A0_0 l0_0.length c0_0), (.slice A0_1 l0_1.length c0_1)] 27 (0, 0))) ∧ Aside0 (Below w.heap.size w w'))
     case atStart => exact ⟨(x4_1), (x5_1), (0), eX, H', ⟨Nat.le_refl _⟩, ⟨by (with_reducible repeat (first | apply Kd.R_alloc | apply Kd.R_drewN | apply Kd.R_drew)); exact HO_4.out⟩, ⟨by (with_reducible repeat (first | apply Kd.R_alloc | apply Kd.R_drewN | apply Kd.R_drew)); exact HO_5.out⟩, ⟨by (with_reducible repeat (first | refine blk_drewN ?_ _ | refine blk_drew ?_ | refine blk_alloc ?_ _)); exact BK448.out⟩, ⟨by repeat (first | (with_reducible first | exact HB.out | apply below_alloc | apply pw_below_drewN | apply below_drew1 | refine below_set ?_ GE448.out) | exact HB.out)⟩⟩
     case round =>
      clear H'
      try clear c2
      try clear p2
      try clear c3
      try clear c5
      try clear hcz11_0
      try clear hcz11_1
      try clear hcz7_0
      try clear hcz7_1
      try clear hfz11_0
      try clear hfz11_1
      try clear hfz7_0
      try clear hfz7_1
      try clear p2
      obtain ⟨x4_2, x5_2, x8_2, rfl, HA, HK2, HO_4, HO_5, BK448, HB⟩ := hrel
      cases gk with
      | zero => exact absurd HA.out (by simp [spec_l3Close.l1])
      | succ k2 =>
       have H := HA.out
       clear HA
       simp only [spec_l3Close.l1] at H
       by_cases c15 : x8_2 < (x4_2.length : Int)
       ·rw [if_pos c15] at H
        have c15b0 : decide (x8_2 < (x4_2.length : Int)) = true := decide_eq_true c15
        clear c15
        by_cases c16 : 0 ≤ x8_2
        ·rw [if_pos c16] at H
         have c16b0 : decide (0 ≤ x8_2) = true := decide_eq_true c16
         clear c16
         replace H := Option.bind_eq_some_iff.mp H
         obtain ⟨⟨t462, t463⟩, A170, H⟩ := H
         replace H : (if t463 = true then ((spec_l3Put.f k2 x5_2 t462).bind fun t464 => (spec_l3Close.j2 k2 x4_2 t464 (x4_1.length : Int) (x5_1.length : Int) x8_2)) else (spec_l3Close.j2 k2 x4_2 x5_2 (x4_1.length : Int) (x5_1.length : Int) x8_2)) = some (r1, r2) := H
         have A17 := Aside0.mk A170
         clear A170
         have HC18 := Aside0.mk H
         clear H
         obtain ⟨Ao19, co19, eo19⟩ := Kd.R_slice HO_4.out
         subst eo19
         have p461 : 0 ≤ (x8_2 : Int) := of_decide_eq_true aA
         have q461 : x8_2 < (x4_2.length : Int) := of_decide_eq_true aA
         obtain ⟨ad461, e461, hx461_0⟩ := Kd.at_string (Kd.R_reads' HO_4.out).2.2 x8_2 p461 q461
         cases e461
         replace p461 := eq_true p461
         replace q461 := eq_true q461
         go_upto_if 43 with (first | ((with_reducible refine gate_callee (f := 83) rfl ?_); refine goesL_ (some 40) rfl rfl Try.func83 (by kernel_rfl) rfl #[.string (rdOf ByteArray.empty x4_2 x8_2)] rfl eA ?_; (with_reducible refine (spec_ReadKey.calls k2 (rdOf ByteArray.empty x4_2 x8_2) t462 t463 _ A17.out).mono ?_); rintro e w20 ⟨rfl, hb⟩; refine ⟨_, rfl, ?_⟩; have n0_ := Aside0.mk (Kd.R_below (kR HO_4.out) hb); have n1_ := Aside0.mk (Kd.R_below (kR HO_5.out) hb); have n2_ := Aside0.mk (blk_below (kB BK448.out) hb); have n3_ := Aside0.mk (below_step bS hb); clear HO_4; clear HO_5; clear BK448; clear HB; have HO_4 := n0_; have HO_5 := n1_; have BK448 := n2_; have HB := n3_; clear n0_ n1_ n2_ n3_; (try clear hb); (try clear hb2); (try clear hk); (try clear hi)))
         (try simp only [Act.put, List.setIfInBounds_toArray, List.set_cons_zero, List.set_cons_succ])
         go_cut [5] (fun v5 wc => ∃ (kq : Nat) (x5_17 : List Int), Aside0 (spec_l3Close.j2 kq x4_2 x5_17 (x4_1.length : Int) (x5_1.length : Int) x8_2 = some (r1, r2)) ∧ Aside0 (kq ≤ k2) ∧ Aside0 (Kd.R Kd.string 9 wc w.heap.size (fun _ => True) (.slice (some ad461) x4_2.length co19) x4_2) ∧ Aside0 (Kd.R (Kd.int .i64) 3 wc w.heap.size (fun _ => True) v5 x5_17) ∧ Aside0 (wc.heap[gb448]? = some (.cells #[(.slice A0_0 l0_0.length c0_0), (.slice A0_1 l0_1.length c0_1)] 27 (0, 0))) ∧ Aside0 (Below w.heap.size w wc))
         case first =>
          have H := HC18.out
          clear HC18
          by_cases c21 : t463 = true
          ·subst c21
           have H1 : ((spec_l3Put.f k2 x5_2 t462).bind fun t464 => (spec_l3Close.j2 k2 x4_2 t464 (x4_1.length : Int) (x5_1.length : Int) x8_2)) = some (r1, r2) := by rw [if_pos rfl] at H; exact H
           clear H
           have H := H1
           clear H1
           replace H := Option.bind_eq_some_iff.mp H
           obtain ⟨t464, A220, H⟩ := H
           replace H : (spec_l3Close.j2 k2 x4_2 t464 (x4_1.length : Int) (x5_1.length : Int) x8_2) = some (r1, r2) := H
           have A22 := Aside0.mk A220
           clear A220
           have H' := Aside0.mk H
           clear H
           obtain ⟨Ao23, co23, eo23⟩ := Kd.R_slice HO_5.out
           subst eo23
           go_wp2_with (first | ((with_reducible refine gate_callee (f := 66) rfl ?_); refine goesL_ (some 46) rfl rfl Try.func66 (by kernel_rfl) rfl #[.slice Ao23 x5_2.length co23, .int .i64 t462] rfl eA ?_; (with_reducible refine (spec_l3Put.calls k2 (fun k_ => some k_ = (.slice Ao23 x5_2.length co23 : Value).ownBlock) (.slice Ao23 x5_2.length co23) x5_2 t462 t464 w _ ?side1 ?side2 A22.out).mono ?_); (case side1 => repeat (first | (with_reducible first | exact HB.out | apply below_alloc | apply pw_below_drewN | apply below_drew1 | refine below_set ?_ GE448.out) | exact HB.out)); (case side2 => exact Kd.R_tight rfl HO_5.out); rintro e w24 ⟨v465, rfl, ho0, hb, hkp⟩; refine ⟨_, rfl, ?_⟩; have n0_ := Aside0.mk (Kd.R_mono (ok' := fun k_ => True) (Kd.R_keptB ((Kd.R_apart' HO_4.out (Kd.R_typed HO_5.out) (by decide))) hkp (fun k_ hk_ hs_ => (hk_.2) hs_)) (fun k_ hk_ => trivial)); have n1_ := Aside0.mk (blk_kept (kB BK448.out) hkp (fun hs_ => (fun e_ => (Kd.R_ne HO_5.out BK448.out (by decide)) e_) hs_)); have n2_ := Aside0.mk (Kd.R_mono (ok' := fun k_ => True) ho0 (fun k_ hk_ => trivial)); have n3_ := Aside0.mk (hb); clear HO_4; clear BK448; clear HB; clear HO_5; have HO_4 := n0_; have BK448 := n1_; have HO466 := n2_; have HB := n3_; clear n0_ n1_ n2_ n3_; (try clear hb); (try clear hkp); (try clear ho0)))
           go_meet
           case rel => exact ⟨_, (t464), H', ⟨by have := HK1.out; have := HK2.out; first | omega | exact Nat.le_refl _⟩, ⟨by (with_reducible repeat (first | apply Kd.R_alloc | apply Kd.R_drewN | apply Kd.R_drew)); exact HO_4.out⟩, ⟨by (with_reducible repeat (first | apply Kd.R_alloc | apply Kd.R_drewN | apply Kd.R_drew)); exact HO466.out⟩, ⟨by (with_reducible repeat (first | refine blk_drewN ?_ _ | refine blk_drew ?_ | refine blk_alloc ?_ _)); exact BK448.out⟩, ⟨by repeat (first | (with_reducible first | exact HB.out | apply below_alloc | apply pw_below_drewN | apply below_drew1 | refine below_set ?_ GE448.out) | exact HB.out)⟩⟩
          ·replace c21 := Bool.eq_false_iff.mpr c21
           subst c21
           have H1 : (spec_l3Close.j2 k2 x4_2 x5_2 (x4_1.length : Int) (x5_1.length : Int) x8_2) = some (r1, r2) := by rw [if_neg (show ¬ (false = true) by decide)] at H; exact H
           clear H
           have H := H1
           clear H1
           have H' := Aside0.mk H
           clear H
           go_wp2
           go_meet
           case rel => exact ⟨_, (x5_2), H', ⟨by have := HK1.out; have := HK2.out; first | omega | exact Nat.le_refl _⟩, ⟨by (with_reducible repeat (first | apply Kd.R_alloc | apply Kd.R_drewN | apply Kd.R_drew)); exact HO_4.out⟩, ⟨by (with_reducible repeat (first | apply Kd.R_alloc | apply Kd.R_drewN | apply Kd.R_drew)); exact HO_5.out⟩, ⟨by (with_reducible repeat (first | refine blk_drewN ?_ _ | refine blk_drew ?_ | refine blk_alloc ?_ _)); exact BK448.out⟩, ⟨by repeat (first | (with_reducible first | exact HB.out | apply below_alloc | apply pw_below_drewN | apply below_drew1 | refine below_set ?_ GE448.out) | exact HB.out)⟩⟩
         case rest =>
          clear HC18
          try clear c1
          try clear c2
          try clear p2
          try clear c3
          try clear p4
          try clear q4
          try clear hx4
          try clear c5
          try clear c6
          try clear c8
          try clear c15
          try clear c15b0
          try clear c16
          try clear c16b0
          try clear c21
          try clear hcz11_0
          try clear hcz11_1
          try clear hcz7_0
          try clear hcz7_1
          try clear hfz11_0
          try clear hfz11_1
          try clear hfz7_0
          try clear hfz7_1
          try clear hx461_0
          try clear p2
          try clear p461
          try clear q461
          obtain ⟨kq, x5_17, HA, HJ17, HO_4, HO_5, BK448, HB⟩ := hcut
          cases kq with
          | zero => exact absurd HA.out (by simp [spec_l3Close.j2])
          | succ kj17 =>
           have H := HA.out
           clear HA
           simp only [spec_l3Close.j2] at H
           by_cases c25 : 0 ≤ x8_2
           ·rw [if_pos c25] at H
            have c25b0 : decide (0 ≤ x8_2) = true := decide_eq_true c25
            clear c25
            by_cases c26 : x8_2 < (x4_2.length : Int)
            ·rw [if_pos c26] at H
             have c26b0 : decide (x8_2 < (x4_2.length : Int)) = true := decide_eq_true c26
             clear c26
             replace H := Option.bind_eq_some_iff.mp H
             obtain ⟨⟨t468, t469⟩, A270, H⟩ := H
             replace H : (spec_l3Close.l2 kj17 x4_2 x5_17 (x4_1.length : Int) (x5_1.length : Int) x8_2 t468 0) = some (r1, r2) := H
             have A27 := Aside0.mk A270
             clear A270
             have H' := Aside0.mk H
             clear H
             have p467 : 0 ≤ (x8_2 : Int) := of_decide_eq_true aA
             have q467 : x8_2 < (x4_2.length : Int) := of_decide_eq_true aA
             obtain ⟨ad467, e467, hx467_0⟩ := Kd.at_string (Kd.R_reads' HO_4.out).2.2 x8_2 p467 q467
             obtain rfl : ad461 = ad467 := (by injection e467)
             replace p467 := eq_true p467
             replace q467 := eq_true q467
             go_wp2_with (first | ((with_reducible refine gate_callee (f := 84) rfl ?_); refine goesL_ (some 52) rfl rfl Try.func84 (by kernel_rfl) rfl #[.string (rdOf ByteArray.empty x4_2 x8_2)] rfl eA ?_; (with_reducible refine (spec_Parts.calls kj17 (rdOf ByteArray.empty x4_2 x8_2) t468 t469 _ A27.out).mono ?_); rintro e w28 ⟨v470, rfl, ho0, hb⟩; refine ⟨_, rfl, ?_⟩; have n0_ := Aside0.mk (Kd.R_elder' (kR HO_4.out) (Kd.R_base ho0) hb); have n1_ := Aside0.mk (Kd.R_below (kR HO_5.out) hb); have n2_ := Aside0.mk (Kd.R_lower (Kd.R_new' ho0 (Kd.R_lt (kR HO_4.out))) (below_size bS)); have n3_ := Aside0.mk (blk_below (kB BK448.out) hb); have n4_ := Aside0.mk (below_step bS hb); clear HO_4; clear HO_5; clear BK448; clear HB; have HO_4 := n0_; have HO_5 := n1_; have HO471 := n2_; have BK448 := n3_; have HB := n4_; clear n0_ n1_ n2_ n3_ n4_; (try clear hb); (try clear hb2); (try clear hk); (try clear hi); (try clear ho0)))
             go_loopg [4, 13] kj17 (fun kq v4 v13 w' => ∃ (x4_4 : List ByteArray) (x13_4 : Int), v13 = .int .i64 x13_4 ∧ Aside0 (spec_l3Close.l2 kq x4_4 x5_17 (x4_1.length : Int) (x5_1.length : Int) x8_2 t468 x13_4 = some (r1, r2)) ∧ Aside0 (kq ≤ kj17) ∧ Aside0 (Kd.R Kd.string 9 w' w.heap.size (fun k_ => some k_ ≠ (v470 : Value).ownBlock) v4 x4_4) ∧ Aside0 (Kd.R (Kd.int .i64) 3 w' w.heap.size (fun _ => True) u5 x5_17) ∧ Aside0 (Kd.R Kd.string 9 w' w.heap.size (fun k_ => some k_ ≠ (v4 : Value).ownBlock) v470 t468) ∧ Aside0 (w'.heap[gb448]? = some (.cells #[(.slice A0_0 l0_0.length c0_0), (.slice A0_1 l0_1.length c0_1)] 27 (0, 0))) ∧ Aside0 (Below w.heap.size w w'))
             case atStart => exact ⟨(x4_2), (0), eX, H', ⟨Nat.le_refl _⟩, ⟨by (with_reducible repeat (first | apply Kd.R_alloc | apply Kd.R_drewN | apply Kd.R_drew)); exact Kd.R_mono HO_4.out (fun _ hk => hk.2)⟩, ⟨by (with_reducible repeat (first | apply Kd.R_alloc | apply Kd.R_drewN | apply Kd.R_drew)); exact HO_5.out⟩, ⟨by (with_reducible repeat (first | apply Kd.R_alloc | apply Kd.R_drewN | apply Kd.R_drew)); exact Kd.R_mono HO471.out (fun _ hk => hk.2)⟩, ⟨by (with_reducible repeat (first | refine blk_drewN ?_ _ | refine blk_drew ?_ | refine blk_alloc ?_ _)); exact BK448.out⟩, ⟨by repeat (first | (with_reducible first | exact HB.out | apply below_alloc | apply pw_below_drewN | apply below_drew1 | refine below_set ?_ GE448.out) | exact HB.out)⟩⟩
             case round =>
              clear H'
              try clear c1
              try clear c2
              try clear p2
              try clear c3
              try clear p4
              try clear q4
              try clear hx4
              try clear c5
              try clear c6
              try clear c8
              try clear c15
              try clear c15b0
              try clear c16
              try clear c16b0
              try clear c21
              try clear c25
              try clear c25b0
              try clear c26
              try clear c26b0
              try clear hcz11_0
              try clear hcz11_1
              try clear hcz7_0
              try clear hcz7_1
              try clear hfz11_0
              try clear hfz11_1
              try clear hfz7_0
              try clear hfz7_1
              try clear hx461_0
              try clear hx467_0
              try clear p2
              try clear p4
              try clear p461
              try clear p467
              try clear q4
              try clear q461
              try clear q467
              obtain ⟨x4_4, x13_4, rfl, HA, HK4, HO_4, HO_5, HO_11, BK448, HB⟩ := hrel
              cases gk with
              | zero => exact absurd HA.out (by simp [spec_l3Close.l2])
              | succ k4 =>
               have H := HA.out
               clear HA
               simp only [spec_l3Close.l2] at H
               by_cases c29 : x13_4 < (t468.length : Int)
               ·rw [if_pos c29] at H
                have c29b0 : decide (x13_4 < (t468.length : Int)) = true := decide_eq_true c29
                clear c29
                by_cases c30 : 0 ≤ x13_4
                ·rw [if_pos c30] at H
                 have c30b0 : decide (0 ≤ x13_4) = true := decide_eq_true c30
                 clear c30
                 replace H := Option.bind_eq_some_iff.mp H
                 obtain ⟨t473, A310, H⟩ := H
                 replace H : (if t473 = true then (spec_l3Close.l2 k4 x4_4 x5_17 (x4_1.length : Int) (x5_1.length : Int) x8_2 t468 (wrap64 (x13_4 + 1))) else (if x4_4.length < 8796093022208 then (spec_l3Close.l2 k4 (x4_4 ++ [rdOf ByteArray.empty t468 x13_4]) x5_17 (x4_1.length : Int) (x5_1.length : Int) x8_2 t468 (wrap64 (x13_4 + 1))) else (none))) = some (r1, r2) := H
                 have A31 := Aside0.mk A310
                 clear A310
                 by_cases c32 : t473 = true
                 ·subst c32
                  have H1 : (spec_l3Close.l2 k4 x4_4 x5_17 (x4_1.length : Int) (x5_1.length : Int) x8_2 t468 (wrap64 (x13_4 + 1))) = some (r1, r2) := by rw [if_pos rfl] at H; exact H
                  clear H
                  have H := H1
                  clear H1
                  have H' := Aside0.mk H
                  clear H
                  obtain ⟨Ao33, co33, eo33⟩ := Kd.R_slice HO_11.out
                  subst eo33
                  have p472 : 0 ≤ (x13_4 : Int) := of_decide_eq_true aA
                  have q472 : x13_4 < (t468.length : Int) := of_decide_eq_true aA
                  obtain ⟨ad472, e472, hx472_0⟩ := Kd.at_string (Kd.R_reads' HO_11.out).2.2 x13_4 p472 q472
                  cases e472
                  replace p472 := eq_true p472
                  replace q472 := eq_true q472
                  obtain ⟨Ao34, co34, eo34⟩ := Kd.R_slice HO_4.out
                  subst eo34
                  go_wp2_with (first | ((with_reducible refine gate_callee (f := 43) rfl ?_); refine goesL_ (some 66) rfl rfl Try.func43 (by kernel_rfl) rfl #[.slice Ao34 x4_4.length co34, .string (rdOf ByteArray.empty t468 x13_4)] rfl eA ?_; (with_reducible refine (spec_l3In.calls k4 _ _ x4_4 (rdOf ByteArray.empty t468 x13_4) true _ ?side1 ?side2 A31.out).mono ?_); (case side1 => repeat (first | exact (Kd.R_reads' HO_4.out).2.2 | (with_reducible refine Kd.C_alloc ?_ _) | (with_reducible refine Kd.C_drewN ?_ _) | (with_reducible refine Kd.C_drew ?_))); (case side2 => exact (Kd.R_reads' HO_4.out).2.1); rintro e w' ⟨rfl, ⟨nd, rfl⟩⟩; refine ⟨_, rfl, ?_⟩))
                  go_roundg k4
                  case measure => have := HK1.out; have := HK2.out; have := HJ17.out; have := HK4.out; omega
                  case rel => exact ⟨(x4_4), (wrap64 (x13_4 + 1)), eX, H', ⟨by have := HK1.out; have := HK2.out; have := HJ17.out; have := HK4.out; omega⟩, ⟨by (with_reducible repeat (first | apply Kd.R_alloc | apply Kd.R_drewN | apply Kd.R_drew)); exact HO_4.out⟩, ⟨by (with_reducible repeat (first | apply Kd.R_alloc | apply Kd.R_drewN | apply Kd.R_drew)); exact HO_5.out⟩, ⟨by (with_reducible repeat (first | apply Kd.R_alloc | apply Kd.R_drewN | apply Kd.R_drew)); exact HO_11.out⟩, ⟨by (with_reducible repeat (first | refine blk_drewN ?_ _ | refine blk_drew ?_ | refine blk_alloc ?_ _)); exact BK448.out⟩, ⟨by repeat (first | (with_reducible first | exact HB.out | apply below_alloc | apply pw_below_drewN | apply below_drew1 | refine below_set ?_ GE448.out) | exact HB.out)⟩⟩
                 ·replace c32 := Bool.eq_false_iff.mpr c32
                  subst c32
                  have H1 : (if x4_4.length < 8796093022208 then (spec_l3Close.l2 k4 (x4_4 ++ [rdOf ByteArray.empty t468 x13_4]) x5_17 (x4_1.length : Int) (x5_1.length : Int) x8_2 t468 (wrap64 (x13_4 + 1))) else (none)) = some (r1, r2) := by rw [if_neg (show ¬ (false = true) by decide)] at H; exact H
                  clear H
                  have H := H1
                  clear H1
                  by_cases c35 : x4_4.length < 8796093022208
                  ·rw [if_pos c35] at H
                   have LMc35 := Aside0.mk c35
                   clear c35
                   obtain ⟨y475, hy475⟩ : ∃ y_ : List ByteArray, y_ = (x4_4 ++ [rdOf ByteArray.empty t468 x13_4]) := ⟨_, rfl⟩
                   replace H : (spec_l3Close.l2 k4 y475 x5_17 (x4_1.length : Int) (x5_1.length : Int) x8_2 t468 (wrap64 (x13_4 + 1))) = some (r1, r2) := by first | (rw [hy475]; with_reducible exact H) | (have H2_ := (Option.bind_some _ _).symm.trans H; rw [hy475]; with_reducible exact H2_) | (have H2_ := (Option.bind_some _ _).symm.trans H; with_reducible exact H2_) | with_reducible exact H | (rw [hy475]; exact H) | exact H
                   have Ny475 := Aside0.mk hy475
                   clear hy475
                   have H' := Aside0.mk H
                   clear H
                   obtain ⟨Ao36, co36, eo36⟩ := Kd.R_slice HO_11.out
                   subst eo36
                   have p472 : 0 ≤ (x13_4 : Int) := of_decide_eq_true aA
                   have q472 : x13_4 < (t468.length : Int) := of_decide_eq_true aA
                   obtain ⟨ad472, e472, hx472_0⟩ := Kd.at_string (Kd.R_reads' HO_11.out).2.2 x13_4 p472 q472
                   cases e472
                   replace p472 := eq_true p472
                   replace q472 := eq_true q472
                   obtain ⟨Ao37, co37, eo37⟩ := Kd.R_slice HO_4.out
                   subst eo37
                   go_wp2_with (first | ((with_reducible refine gate_callee (f := 43) rfl ?_); refine goesL_ (some 66) rfl rfl Try.func43 (by kernel_rfl) rfl #[.slice Ao37 x4_4.length co37, .string (rdOf ByteArray.empty t468 x13_4)] rfl eA ?_; (with_reducible refine (spec_l3In.calls k4 _ _ x4_4 (rdOf ByteArray.empty t468 x13_4) false _ ?side1 ?side2 A31.out).mono ?_); (case side1 => repeat (first | exact (Kd.R_reads' HO_4.out).2.2 | (with_reducible refine Kd.C_alloc ?_ _) | (with_reducible refine Kd.C_drewN ?_ _) | (with_reducible refine Kd.C_drew ?_))); (case side2 => exact (Kd.R_reads' HO_4.out).2.1); rintro e w' ⟨rfl, ⟨nd, rfl⟩⟩; refine ⟨_, rfl, ?_⟩; have p474 : 0 ≤ (x13_4 : Int) := of_decide_eq_true aA; have q474 : x13_4 < (t468.length : Int) := of_decide_eq_true aA; obtain ⟨ad474, e474, hx474_0⟩ := Kd.at_string (Kd.R_reads' HO_11.out).2.2 x13_4 p474 q474; obtain rfl : ad472 = ad474 := (by injection e474); replace p474 := eq_true p474; replace q474 := eq_true q474) | ((with_reducible refine gate_builtin (b := .append) (xs := #[.tmp 68, .tmp 73]) rfl ?_); (try (refine gate_guard (by rfl) ?_; dsimp only)); at_builtin; refine Kd.R_append Kd.string (w0 := w) w.heap.size rfl (.tmp 68) (.tmp 73) 24 9 (.string ⟨#[]⟩) 16 rfl Try.underlying24 info9 rfl (by decide) (by omega) (.slice Ao37 x4_4.length co37) x4_4 (rdOf ByteArray.empty t468 x13_4) [.string (rdOf ByteArray.empty t468 x13_4)] (fun k_ => some k_ ≠ (.slice (some ad472) t468.length co36 : Value).ownBlock) (fun _ => False) rfl rfl ?aP (fun _ hk => hk.elim) ?aF ?aO ?aB ?aS ?aL ?_; (case aP => exact rfl); (case aB => exact bS); (case aF => exact (fun k_ hk => Kd.fresh' (Kd.R_lt (kR HO_11.out)) k_ hk)); (case aO => exact (kR HO_4.out)); (case aS => exact (below_size bS)); (case aL => have := LMc35.out; omega); intro v476 w38 ho hb hg hat; rw [← Ny475.out] at ho; have n0_ := Aside0.mk (Kd.R_over' (kR HO_5.out) (Kd.R_typed (kR HO_4.out)) (by decide) hg); have n1_ := Aside0.mk (Kd.R_after (ok := (fun _ => True)) (by (with_reducible repeat (first | apply Kd.R_alloc | apply Kd.R_drewN | apply Kd.R_drew)); exact Kd.R_mono HO_11.out (fun _ hk => ⟨trivial, hk⟩)) hg hat); have n2_ := Aside0.mk (blk_grown (g := gb448) (o := .cells #[.slice A0_0 l0_0.length c0_0, .slice A0_1 l0_1.length c0_1] 27 (0, 0)) (kB BK448.out) hg (Kd.R_ne HO_4.out BK448.out (by decide))); have n3_ := Aside0.mk (hb); have n4_ := Aside0.mk (ho); clear HO_5; clear HO_11; clear BK448; clear HB; clear HO_4; have HO_5 := n0_; have HO_11 := n1_; have BK448 := n2_; have HB := n3_; have HO477 := n4_; clear n0_ n1_ n2_ n3_ n4_; clear ho hb hg hat))
                   go_roundg k4
                   case measure => have := HK1.out; have := HK2.out; have := HJ17.out; have := HK4.out; omega
                   case rel => exact ⟨(y475), (wrap64 (x13_4 + 1)), eX, H', ⟨by have := HK1.out; have := HK2.out; have := HJ17.out; have := HK4.out; omega⟩, ⟨by (with_reducible repeat (first | apply Kd.R_alloc | apply Kd.R_drewN | apply Kd.R_drew)); exact HO477.out⟩, ⟨by (with_reducible repeat (first | apply Kd.R_alloc | apply Kd.R_drewN | apply Kd.R_drew)); exact HO_5.out⟩, ⟨by (with_reducible repeat (first | apply Kd.R_alloc | apply Kd.R_drewN | apply Kd.R_drew)); exact Kd.R_mono HO_11.out (fun _ hk => hk.2)⟩, ⟨by (with_reducible repeat (first | refine blk_drewN ?_ _ | refine blk_drew ?_ | refine blk_alloc ?_ _)); exact BK448.out⟩, ⟨by repeat (first | (with_reducible first | exact HB.out | apply below_alloc | apply pw_below_drewN | apply below_drew1 | refine below_set ?_ GE448.out) | exact HB.out)⟩⟩
                  ·rw [if_neg c35] at H
                   exact absurd H (by simp)
                ·rw [if_neg c30] at H
                 exact absurd H (by simp)
               ·rw [if_neg c29] at H
                have c29b0 : decide (x13_4 < (t468.length : Int)) = false := decide_eq_false c29
                clear c29
                have H' := Aside0.mk H
                clear H
                obtain ⟨Ao39, co39, eo39⟩ := Kd.R_slice HO_11.out
                subst eo39
                go_wp2
                go_loopg [4, 14] k4 (fun kq v4 v14 w' => ∃ (x4_5 : List ByteArray) (x14_5 : Int), v14 = .int .i64 x14_5 ∧ Aside0 (spec_l3Close.l3 kq x4_5 x5_17 (x4_1.length : Int) (x5_1.length : Int) x8_2 x14_5 = some (r1, r2)) ∧ Aside0 (kq ≤ k4) ∧ Aside0 (Kd.R Kd.string 9 w' w.heap.size (fun _ => True) v4 x4_5) ∧ Aside0 (Kd.R (Kd.int .i64) 3 w' w.heap.size (fun _ => True) u5 x5_17) ∧ Aside0 (w'.heap[gb448]? = some (.cells #[(.slice A0_0 l0_0.length c0_0), (.slice A0_1 l0_1.length c0_1)] 27 (0, 0))) ∧ Aside0 (Below w.heap.size w w'))
                case atStart => exact ⟨(x4_4), (0), eX, H', ⟨Nat.le_refl _⟩, ⟨by (with_reducible repeat (first | apply Kd.R_alloc | apply Kd.R_drewN | apply Kd.R_drew)); exact Kd.R_mono HO_4.out (fun _ hk => trivial)⟩, ⟨by (with_reducible repeat (first | apply Kd.R_alloc | apply Kd.R_drewN | apply Kd.R_drew)); exact HO_5.out⟩, ⟨by (with_reducible repeat (first | refine blk_drewN ?_ _ | refine blk_drew ?_ | refine blk_alloc ?_ _)); exact BK448.out⟩, ⟨by repeat (first | (with_reducible first | exact HB.out | apply below_alloc | apply pw_below_drewN | apply below_drew1 | refine below_set ?_ GE448.out) | exact HB.out)⟩⟩
                case round =>
                 clear H'
                 try clear c1
                 try clear c2
                 try clear p2
                 try clear c3
                 try clear c4
                 try clear p4
                 try clear q4
                 try clear hx4
                 try clear c5
                 try clear c6
                 try clear p6
                 try clear c8
                 try clear c15
                 try clear c15b0
                 try clear c16
                 try clear c16b0
                 try clear c21
                 try clear c25
                 try clear c25b0
                 try clear c26
                 try clear c26b0
                 try clear c29
                 try clear c29b0
                 try clear c30
                 try clear c30b0
                 try clear c32
                 try clear c35
                 try clear hcz11_0
                 try clear hcz11_1
                 try clear hcz7_0
                 try clear hcz7_1
                 try clear hfz11_0
                 try clear hfz11_1
                 try clear hfz7_0
                 try clear hfz7_1
                 try clear hx461_0
                 try clear hx467_0
                 try clear hx472_0
                 try clear hx474_0
                 try clear p2
                 try clear p4
                 try clear p461
                 try clear p467
                 try clear p472
                 try clear p474
                 try clear q4
                 try clear q461
                 try clear q467
                 try clear q472
                 try clear q474
                 obtain ⟨x4_5, x14_5, rfl, HA, HK5, HO_4, HO_5, BK448, HB⟩ := hrel
                 cases gk with
                 | zero => exact absurd HA.out (by simp [spec_l3Close.l3])
                 | succ k5 =>
                  have H := HA.out
                  clear HA
                  simp only [spec_l3Close.l3] at H
                  by_cases c40 : x14_5 < (x5_17.length : Int)
                  ·rw [if_pos c40] at H
                   have c40b0 : decide (x14_5 < (x5_17.length : Int)) = true := decide_eq_true c40
                   clear c40
                   by_cases c41 : 0 ≤ x8_2
                   ·rw [if_pos c41] at H
                    have c41b0 : decide (0 ≤ x8_2) = true := decide_eq_true c41
                    clear c41
                    by_cases c42 : x8_2 < (x4_5.length : Int)
                    ·rw [if_pos c42] at H
                     have c42b0 : decide (x8_2 < (x4_5.length : Int)) = true := decide_eq_true c42
                     clear c42
                     by_cases c43 : 0 ≤ x14_5
                     ·rw [if_pos c43] at H
                      have c43b0 : decide (0 ≤ x14_5) = true := decide_eq_true c43
                      clear c43
                      replace H := Option.bind_eq_some_iff.mp H
                      obtain ⟨⟨t480, t481⟩, A440, H⟩ := H
                      replace H : (if t481 = true then ((spec_l3In.f k5 x4_5 t480).bind fun t482 => (if t482 = true then (spec_l3Close.l3 k5 x4_5 x5_17 (x4_1.length : Int) (x5_1.length : Int) x8_2 (wrap64 (x14_5 + 1))) else (if x4_5.length < 8796093022208 then (spec_l3Close.l3 k5 (x4_5 ++ [t480]) x5_17 (x4_1.length : Int) (x5_1.length : Int) x8_2 (wrap64 (x14_5 + 1))) else (none)))) else (spec_l3Close.l3 k5 x4_5 x5_17 (x4_1.length : Int) (x5_1.length : Int) x8_2 (wrap64 (x14_5 + 1)))) = some (r1, r2) := H
                      have A44 := Aside0.mk A440
                      clear A440
                      by_cases c45 : t481 = true
                      ·subst c45
                       have H1 : ((spec_l3In.f k5 x4_5 t480).bind fun t482 => (if t482 = true then (spec_l3Close.l3 k5 x4_5 x5_17 (x4_1.length : Int) (x5_1.length : Int) x8_2 (wrap64 (x14_5 + 1))) else (if x4_5.length < 8796093022208 then (spec_l3Close.l3 k5 (x4_5 ++ [t480]) x5_17 (x4_1.length : Int) (x5_1.length : Int) x8_2 (wrap64 (x14_5 + 1))) else (none)))) = some (r1, r2) := by rw [if_pos rfl] at H; exact H
                       clear H
                       have H := H1
                       clear H1
                       replace H := Option.bind_eq_some_iff.mp H
                       obtain ⟨t482, A460, H⟩ := H
                       replace H : (if t482 = true then (spec_l3Close.l3 k5 x4_5 x5_17 (x4_1.length : Int) (x5_1.length : Int) x8_2 (wrap64 (x14_5 + 1))) else (if x4_5.length < 8796093022208 then (spec_l3Close.l3 k5 (x4_5 ++ [t480]) x5_17 (x4_1.length : Int) (x5_1.length : Int) x8_2 (wrap64 (x14_5 + 1))) else (none))) = some (r1, r2) := H
                       have A46 := Aside0.mk A460
                       clear A460
                       by_cases c47 : t482 = true
                       ·subst c47
                        have H1 : (spec_l3Close.l3 k5 x4_5 x5_17 (x4_1.length : Int) (x5_1.length : Int) x8_2 (wrap64 (x14_5 + 1))) = some (r1, r2) := by rw [if_pos rfl] at H; exact H
                        clear H
                        have H := H1
                        clear H1
                        have H' := Aside0.mk H
                        clear H
                        obtain ⟨Ao48, co48, eo48⟩ := Kd.R_slice HO_5.out
                        subst eo48
                        try go_wp2
                        have n0_ := Aside0.mk (Kd.R_drew HO_4.out)
                        have n1_ := Aside0.mk (Kd.R_drew HO_5.out)
                        have n2_ := Aside0.mk (blk_drew BK448.out)
                        have n3_ := Aside0.mk (below_drew1 HB.out)
                        clear HO_4 HO_5 BK448 HB
                        have HO_4 := n0_
                        have HO_5 := n1_
                        have BK448 := n2_
                        have HB := n3_
                        clear n0_ n1_ n2_ n3_
                        obtain ⟨Ao50, co50, eo50⟩ := Kd.R_slice HO_4.out
                        (first | subst eo50 | (injection eo50 with f1_ f2_ f3_; have f4_ := f1_.symm; have f5_ := f3_.symm; clear f1_ f2_ f3_; subst f4_; subst f5_))
                        have p478 : 0 ≤ (x8_2 : Int) := of_decide_eq_true aA
                        have q478 : x8_2 < (x4_5.length : Int) := of_decide_eq_true aA
                        obtain ⟨ad478, e478, hx478_0⟩ := Kd.at_string (Kd.R_reads' HO_4.out).2.2 x8_2 p478 q478
                        cases e478
                        replace p478 := eq_true p478
                        replace q478 := eq_true q478
                        have p479 : 0 ≤ (x14_5 : Int) := of_decide_eq_true aA
                        have q479 : x14_5 < (x5_17.length : Int) := of_decide_eq_true aA
                        obtain ⟨ad479, e479, hx479_0⟩ := Kd.at_int (Kd.R_reads' HO_5.out).2.2 x14_5 p479 q479
                        cases e479
                        replace p479 := eq_true p479
                        replace q479 := eq_true q479
                        refine start_ (n := 14) (S := fun w' => w'.cell? (ad478.add (x8_2).toNat) = some (.string (rdOf ByteArray.empty x4_5 x8_2)) ∧ w'.cell? (ad479.add (x14_5).toNat) = some (.int .i64 (rd x5_17 x14_5))) (ds := []) _ (by kernel_rfl) rfl rfl ⟨hx478_0, hx479_0⟩ (fun hHeld => ?_); refine with_tabW spec_l3Close.tab20 spec_l3Close.bits20 (fun HT_ HW_ => ?_)
                        generalize wr.drew = w49 at HO_4 HO_5 BK448 HB hx478_0 hx479_0 hHeld ⊢
                        refine pU HT_ 0 (some 82) (mk 14 1) rfl rfl (h := ?_)
                        refine pU HT_ 1 (some 83) (mk 14 3) rfl rfl (h := ?_)
                        refine pU HT_ 2 (some 84) (mk 14 7) rfl rfl (h := ?_)
                        refine pU HT_ 4 (some 86) (mk 14 23) rfl rfl (h := ?_)
                        refine pU HT_ 5 (some 87) (mk 14 55) rfl rfl (h := ?_)
                        refine pU HT_ 6 (some 88) (mk 14 119) rfl rfl (h := ?_)
                        refine tU HT_ HW_ 3 (some 85) (mk 14 127) hHeld rfl rfl (by rintro w' ⟨s0, s1⟩; go_simp; with_reducible rfl) (h := ?_)
                        refine tU HT_ HW_ 7 (some 89) (mk 14 255) hHeld rfl rfl (by rintro w' ⟨s0, s1⟩; go_simp; with_reducible rfl) (h := ?_)
                        refine one_ (i := 8) (N := some 90) (mk 14 511) rfl rfl (one_of HT_.out (by kernel_rfl)) (by decide) (fun K hK => ?_)
                        refine goes_ Try.func85 (by kernel_rfl) rfl #[.string (rdOf ByteArray.empty x4_5 x8_2), .int .i64 (rd x5_17 x14_5)] (by rfl) rfl rfl eA ?_
                        with_reducible refine (spec_Open.calls k5 (rdOf ByteArray.empty x4_5 x8_2) (rd x5_17 x14_5) t480 true _ A44.out).mono ?_
                        rintro e w51 ⟨rfl, hb⟩
                        have HS0_ := (hb.cell (World.block_lt_of_cell? _ _ (hHeld.1))).trans (hHeld.1)
                        have HS1_ := (hb.cell (World.block_lt_of_cell? _ _ (hHeld.2))).trans (hHeld.2)
                        refine ⟨_, rfl, ?_⟩
                        have n0_ := Aside0.mk (Kd.R_below (kR HO_4.out) hb)
                        have n1_ := Aside0.mk (Kd.R_below (kR HO_5.out) hb)
                        have n2_ := Aside0.mk (blk_below (kB BK448.out) hb)
                        have n3_ := Aside0.mk (below_step bS hb)
                        clear HO_4 HO_5 BK448 HB
                        have HO_4 := n0_
                        have HO_5 := n1_
                        have BK448 := n2_
                        have HB := n3_
                        clear n0_ n1_ n2_ n3_
                        (try clear hb)
                        (try clear hb2)
                        (try clear hk)
                        (try clear hi)
                        refine hK.out _ _ ⟨HS0_, HS1_⟩ (fun hHeld => ?_)
                        clear hK K
                        refine norm_ (a' := ?_) ?_ ?_
                        rotate_left
                        ·show Act.put _ (some 90) _ = _
                         simp only [Act.put, List.setIfInBounds_toArray, List.set_cons_zero, List.set_cons_succ, i64_w, i32_w]
                         rfl
                        refine pU HT_ 9 (some 81) (mk 14 1023) rfl rfl (h := ?_)
                        refine pU HT_ 10 (some 91) (mk 14 2047) rfl rfl (h := ?_)
                        refine pU HT_ 11 (some 92) (mk 14 4095) rfl rfl (h := ?_)
                        refine pU HT_ 12 (some 15) (mk 14 8191) rfl rfl (h := ?_)
                        refine pU HT_ 13 (some 16) (mk 14 16383) rfl rfl (h := ?_)
                        refine done_ (done_of HT_.out (by kernel_rfl)) ?_
                        try go_wp2_with (first | (go_at_call 43; (with_reducible refine (spec_l3In.calls k5 _ _ x4_5 t480 true _ ?side1 ?side2 A46.out).mono ?_); (case side1 => repeat (first | exact (Kd.R_reads' HO_4.out).2.2 | (with_reducible refine Kd.C_alloc ?_ _) | (with_reducible refine Kd.C_drewN ?_ _) | (with_reducible refine Kd.C_drew ?_))); (case side2 => exact (Kd.R_reads' HO_4.out).2.1); rintro e w' ⟨rfl, ⟨nd, rfl⟩⟩))
                        go_roundg k5
                        case measure => have := HK1.out; have := HK2.out; have := HJ17.out; have := HK4.out; have := HK5.out; omega
                        case rel => exact ⟨(x4_5), (wrap64 (x14_5 + 1)), eX, H', ⟨by have := HK1.out; have := HK2.out; have := HJ17.out; have := HK4.out; have := HK5.out; omega⟩, ⟨by (with_reducible repeat (first | apply Kd.R_alloc | apply Kd.R_drewN | apply Kd.R_drew)); exact HO_4.out⟩, ⟨by (with_reducible repeat (first | apply Kd.R_alloc | apply Kd.R_drewN | apply Kd.R_drew)); exact HO_5.out⟩, ⟨by (with_reducible repeat (first | refine blk_drewN ?_ _ | refine blk_drew ?_ | refine blk_alloc ?_ _)); exact BK448.out⟩, ⟨by repeat (first | (with_reducible first | exact HB.out | apply below_alloc | apply pw_below_drewN | apply below_drew1 | refine below_set ?_ GE448.out) | exact HB.out)⟩⟩
                       ·replace c47 := Bool.eq_false_iff.mpr c47
                        subst c47
                        have H1 : (if x4_5.length < 8796093022208 then (spec_l3Close.l3 k5 (x4_5 ++ [t480]) x5_17 (x4_1.length : Int) (x5_1.length : Int) x8_2 (wrap64 (x14_5 + 1))) else (none)) = some (r1, r2) := by rw [if_neg (show ¬ (false = true) by decide)] at H; exact H
                        clear H
                        have H := H1
                        clear H1
                        by_cases c52 : x4_5.length < 8796093022208
                        ·rw [if_pos c52] at H
                         have LMc52 := Aside0.mk c52
                         clear c52
                         obtain ⟨y483, hy483⟩ : ∃ y_ : List ByteArray, y_ = (x4_5 ++ [t480]) := ⟨_, rfl⟩
                         replace H : (spec_l3Close.l3 k5 y483 x5_17 (x4_1.length : Int) (x5_1.length : Int) x8_2 (wrap64 (x14_5 + 1))) = some (r1, r2) := by first | (rw [hy483]; with_reducible exact H) | (have H2_ := (Option.bind_some _ _).symm.trans H; rw [hy483]; with_reducible exact H2_) | (have H2_ := (Option.bind_some _ _).symm.trans H; with_reducible exact H2_) | with_reducible exact H | (rw [hy483]; exact H) | exact H
                         have Ny483 := Aside0.mk hy483
                         clear hy483
                         have H' := Aside0.mk H
                         clear H
                         obtain ⟨Ao53, co53, eo53⟩ := Kd.R_slice HO_5.out
                         subst eo53
                         try go_wp2
                         have n0_ := Aside0.mk (Kd.R_drew HO_4.out)
                         have n1_ := Aside0.mk (Kd.R_drew HO_5.out)
                         have n2_ := Aside0.mk (blk_drew BK448.out)
                         have n3_ := Aside0.mk (below_drew1 HB.out)
                         clear HO_4 HO_5 BK448 HB
                         have HO_4 := n0_
                         have HO_5 := n1_
                         have BK448 := n2_
                         have HB := n3_
                         clear n0_ n1_ n2_ n3_
                         obtain ⟨Ao55, co55, eo55⟩ := Kd.R_slice HO_4.out
                         (first | subst eo55 | (injection eo55 with f1_ f2_ f3_; have f4_ := f1_.symm; have f5_ := f3_.symm; clear f1_ f2_ f3_; subst f4_; subst f5_))
                         have p478 : 0 ≤ (x8_2 : Int) := of_decide_eq_true aA
                         have q478 : x8_2 < (x4_5.length : Int) := of_decide_eq_true aA
                         obtain ⟨ad478, e478, hx478_0⟩ := Kd.at_string (Kd.R_reads' HO_4.out).2.2 x8_2 p478 q478
                         cases e478
                         replace p478 := eq_true p478
                         replace q478 := eq_true q478
                         have p479 : 0 ≤ (x14_5 : Int) := of_decide_eq_true aA
                         have q479 : x14_5 < (x5_17.length : Int) := of_decide_eq_true aA
                         obtain ⟨ad479, e479, hx479_0⟩ := Kd.at_int (Kd.R_reads' HO_5.out).2.2 x14_5 p479 q479
                         cases e479
                         replace p479 := eq_true p479
                         replace q479 := eq_true q479
                         refine start_ (n := 14) (S := fun w' => w'.cell? (ad478.add (x8_2).toNat) = some (.string (rdOf ByteArray.empty x4_5 x8_2)) ∧ w'.cell? (ad479.add (x14_5).toNat) = some (.int .i64 (rd x5_17 x14_5))) (ds := []) _ (by kernel_rfl) rfl rfl ⟨hx478_0, hx479_0⟩ (fun hHeld => ?_); refine with_tabW spec_l3Close.tab20 spec_l3Close.bits20 (fun HT_ HW_ => ?_)
                         generalize wr.drew = w54 at HO_4 HO_5 BK448 HB hx478_0 hx479_0 hHeld ⊢
                         refine pU HT_ 0 (some 82) (mk 14 1) rfl rfl (h := ?_)
                         refine pU HT_ 1 (some 83) (mk 14 3) rfl rfl (h := ?_)
                         refine pU HT_ 2 (some 84) (mk 14 7) rfl rfl (h := ?_)
                         refine pU HT_ 4 (some 86) (mk 14 23) rfl rfl (h := ?_)
                         refine pU HT_ 5 (some 87) (mk 14 55) rfl rfl (h := ?_)
                         refine pU HT_ 6 (some 88) (mk 14 119) rfl rfl (h := ?_)
                         refine tU HT_ HW_ 3 (some 85) (mk 14 127) hHeld rfl rfl (by rintro w' ⟨s0, s1⟩; go_simp; with_reducible rfl) (h := ?_)
                         refine tU HT_ HW_ 7 (some 89) (mk 14 255) hHeld rfl rfl (by rintro w' ⟨s0, s1⟩; go_simp; with_reducible rfl) (h := ?_)
                         refine one_ (i := 8) (N := some 90) (mk 14 511) rfl rfl (one_of HT_.out (by kernel_rfl)) (by decide) (fun K hK => ?_)
                         refine goes_ Try.func85 (by kernel_rfl) rfl #[.string (rdOf ByteArray.empty x4_5 x8_2), .int .i64 (rd x5_17 x14_5)] (by rfl) rfl rfl eA ?_
                         with_reducible refine (spec_Open.calls k5 (rdOf ByteArray.empty x4_5 x8_2) (rd x5_17 x14_5) t480 true _ A44.out).mono ?_
                         rintro e w56 ⟨rfl, hb⟩
                         have HS0_ := (hb.cell (World.block_lt_of_cell? _ _ (hHeld.1))).trans (hHeld.1)
                         have HS1_ := (hb.cell (World.block_lt_of_cell? _ _ (hHeld.2))).trans (hHeld.2)
                         refine ⟨_, rfl, ?_⟩
                         have n0_ := Aside0.mk (Kd.R_below (kR HO_4.out) hb)
                         have n1_ := Aside0.mk (Kd.R_below (kR HO_5.out) hb)
                         have n2_ := Aside0.mk (blk_below (kB BK448.out) hb)
                         have n3_ := Aside0.mk (below_step bS hb)
                         clear HO_4 HO_5 BK448 HB
                         have HO_4 := n0_
                         have HO_5 := n1_
                         have BK448 := n2_
                         have HB := n3_
                         clear n0_ n1_ n2_ n3_
                         (try clear hb)
                         (try clear hb2)
                         (try clear hk)
                         (try clear hi)
                         refine hK.out _ _ ⟨HS0_, HS1_⟩ (fun hHeld => ?_)
                         clear hK K
                         refine norm_ (a' := ?_) ?_ ?_
                         rotate_left
                         ·show Act.put _ (some 90) _ = _
                          simp only [Act.put, List.setIfInBounds_toArray, List.set_cons_zero, List.set_cons_succ, i64_w, i32_w]
                          rfl
                         refine pU HT_ 9 (some 81) (mk 14 1023) rfl rfl (h := ?_)
                         refine pU HT_ 10 (some 91) (mk 14 2047) rfl rfl (h := ?_)
                         refine pU HT_ 11 (some 92) (mk 14 4095) rfl rfl (h := ?_)
                         refine pU HT_ 12 (some 15) (mk 14 8191) rfl rfl (h := ?_)
                         refine pU HT_ 13 (some 16) (mk 14 16383) rfl rfl (h := ?_)
                         refine done_ (done_of HT_.out (by kernel_rfl)) ?_
                         try go_wp2_with (first | (go_at_call 43; (with_reducible refine (spec_l3In.calls k5 _ _ x4_5 t480 false _ ?side1 ?side2 A46.out).mono ?_); (case side1 => repeat (first | exact (Kd.R_reads' HO_4.out).2.2 | (with_reducible refine Kd.C_alloc ?_ _) | (with_reducible refine Kd.C_drewN ?_ _) | (with_reducible refine Kd.C_drew ?_))); (case side2 => exact (Kd.R_reads' HO_4.out).2.1); rintro e w' ⟨rfl, ⟨nd, rfl⟩⟩) | ((with_reducible refine gate_builtin (b := .append) (xs := #[.tmp 100, .tmp 102]) rfl ?_); (try (refine gate_guard (by rfl) ?_; dsimp only)); at_builtin; refine Kd.R_append Kd.string (w0 := w) w.heap.size rfl (.tmp 100) (.tmp 102) 24 9 (.string ⟨#[]⟩) 16 rfl Try.underlying24 info9 rfl (by decide) (by omega) (.slice (some ad478) x4_5.length co55) x4_5 t480 [.string t480] (fun _ => True) (fun _ => False) rfl rfl ?aP (fun _ hk => hk.elim) ?aF ?aO ?aB ?aS ?aL ?_; (case aP => exact rfl); (case aB => exact bS); (case aF => exact (fun _ _ => trivial)); (case aO => exact (kR HO_4.out)); (case aS => exact (below_size bS)); (case aL => have := LMc52.out; omega); intro v484 w57 ho hb hg hat; rw [← Ny483.out] at ho; have n0_ := Aside0.mk (Kd.R_over' (kR HO_5.out) (Kd.R_typed (kR HO_4.out)) (by decide) hg); have n1_ := Aside0.mk (blk_grown (g := gb448) (o := .cells #[.slice A0_0 l0_0.length c0_0, .slice A0_1 l0_1.length c0_1] 27 (0, 0)) (kB BK448.out) hg (Kd.R_ne HO_4.out BK448.out (by decide))); have n2_ := Aside0.mk (hb); have n3_ := Aside0.mk (ho); clear HO_5; clear BK448; clear HB; clear HO_4; have HO_5 := n0_; have BK448 := n1_; have HB := n2_; have HO485 := n3_; clear n0_ n1_ n2_ n3_; clear ho hb hg hat))
                         go_roundg k5
                         case measure => have := HK1.out; have := HK2.out; have := HJ17.out; have := HK4.out; have := HK5.out; omega
                         case rel => exact ⟨(y483), (wrap64 (x14_5 + 1)), eX, H', ⟨by have := HK1.out; have := HK2.out; have := HJ17.out; have := HK4.out; have := HK5.out; omega⟩, ⟨by (with_reducible repeat (first | apply Kd.R_alloc | apply Kd.R_drewN | apply Kd.R_drew)); exact HO485.out⟩, ⟨by (with_reducible repeat (first | apply Kd.R_alloc | apply Kd.R_drewN | apply Kd.R_drew)); exact HO_5.out⟩, ⟨by (with_reducible repeat (first | refine blk_drewN ?_ _ | refine blk_drew ?_ | refine blk_alloc ?_ _)); exact BK448.out⟩, ⟨by repeat (first | (with_reducible first | exact HB.out | apply below_alloc | apply pw_below_drewN | apply below_drew1 | refine below_set ?_ GE448.out) | exact HB.out)⟩⟩
                        ·rw [if_neg c52] at H
                         exact absurd H (by simp)
                      ·replace c45 := Bool.eq_false_iff.mpr c45
                       subst c45
                       have H1 : (spec_l3Close.l3 k5 x4_5 x5_17 (x4_1.length : Int) (x5_1.length : Int) x8_2 (wrap64 (x14_5 + 1))) = some (r1, r2) := by rw [if_neg (show ¬ (false = true) by decide)] at H; exact H
                       clear H
                       have H := H1
                       clear H1
                       have H' := Aside0.mk H
                       clear H
                       obtain ⟨Ao58, co58, eo58⟩ := Kd.R_slice HO_5.out
                       subst eo58
                       try go_wp2
                       have n0_ := Aside0.mk (Kd.R_drew HO_4.out)
                       have n1_ := Aside0.mk (Kd.R_drew HO_5.out)
                       have n2_ := Aside0.mk (blk_drew BK448.out)
                       have n3_ := Aside0.mk (below_drew1 HB.out)
                       clear HO_4 HO_5 BK448 HB
                       have HO_4 := n0_
                       have HO_5 := n1_
                       have BK448 := n2_
                       have HB := n3_
                       clear n0_ n1_ n2_ n3_
                       obtain ⟨Ao60, co60, eo60⟩ := Kd.R_slice HO_4.out
                       (first | subst eo60 | (injection eo60 with f1_ f2_ f3_; have f4_ := f1_.symm; have f5_ := f3_.symm; clear f1_ f2_ f3_; subst f4_; subst f5_))
                       have p478 : 0 ≤ (x8_2 : Int) := of_decide_eq_true aA
                       have q478 : x8_2 < (x4_5.length : Int) := of_decide_eq_true aA
                       obtain ⟨ad478, e478, hx478_0⟩ := Kd.at_string (Kd.R_reads' HO_4.out).2.2 x8_2 p478 q478
                       cases e478
                       replace p478 := eq_true p478
                       replace q478 := eq_true q478
                       have p479 : 0 ≤ (x14_5 : Int) := of_decide_eq_true aA
                       have q479 : x14_5 < (x5_17.length : Int) := of_decide_eq_true aA
                       obtain ⟨ad479, e479, hx479_0⟩ := Kd.at_int (Kd.R_reads' HO_5.out).2.2 x14_5 p479 q479
                       cases e479
                       replace p479 := eq_true p479
                       replace q479 := eq_true q479
                       refine start_ (n := 14) (S := fun w' => w'.cell? (ad478.add (x8_2).toNat) = some (.string (rdOf ByteArray.empty x4_5 x8_2)) ∧ w'.cell? (ad479.add (x14_5).toNat) = some (.int .i64 (rd x5_17 x14_5))) (ds := []) _ (by kernel_rfl) rfl rfl ⟨hx478_0, hx479_0⟩ (fun hHeld => ?_); refine with_tabW spec_l3Close.tab20 spec_l3Close.bits20 (fun HT_ HW_ => ?_)
                       generalize wr.drew = w59 at HO_4 HO_5 BK448 HB hx478_0 hx479_0 hHeld ⊢
                       refine pU HT_ 0 (some 82) (mk 14 1) rfl rfl (h := ?_)
                       refine pU HT_ 1 (some 83) (mk 14 3) rfl rfl (h := ?_)
                       refine pU HT_ 2 (some 84) (mk 14 7) rfl rfl (h := ?_)
                       refine pU HT_ 4 (some 86) (mk 14 23) rfl rfl (h := ?_)
                       refine pU HT_ 5 (some 87) (mk 14 55) rfl rfl (h := ?_)
                       refine pU HT_ 6 (some 88) (mk 14 119) rfl rfl (h := ?_)
                       refine tU HT_ HW_ 3 (some 85) (mk 14 127) hHeld rfl rfl (by rintro w' ⟨s0, s1⟩; go_simp; with_reducible rfl) (h := ?_)
                       refine tU HT_ HW_ 7 (some 89) (mk 14 255) hHeld rfl rfl (by rintro w' ⟨s0, s1⟩; go_simp; with_reducible rfl) (h := ?_)
                       refine one_ (i := 8) (N := some 90) (mk 14 511) rfl rfl (one_of HT_.out (by kernel_rfl)) (by decide) (fun K hK => ?_)
                       refine goes_ Try.func85 (by kernel_rfl) rfl #[.string (rdOf ByteArray.empty x4_5 x8_2), .int .i64 (rd x5_17 x14_5)] (by rfl) rfl rfl eA ?_
                       with_reducible refine (spec_Open.calls k5 (rdOf ByteArray.empty x4_5 x8_2) (rd x5_17 x14_5) t480 false _ A44.out).mono ?_
                       rintro e w61 ⟨rfl, hb⟩
                       have HS0_ := (hb.cell (World.block_lt_of_cell? _ _ (hHeld.1))).trans (hHeld.1)
                       have HS1_ := (hb.cell (World.block_lt_of_cell? _ _ (hHeld.2))).trans (hHeld.2)
                       refine ⟨_, rfl, ?_⟩
                       have n0_ := Aside0.mk (Kd.R_below (kR HO_4.out) hb)
                       have n1_ := Aside0.mk (Kd.R_below (kR HO_5.out) hb)
                       have n2_ := Aside0.mk (blk_below (kB BK448.out) hb)
                       have n3_ := Aside0.mk (below_step bS hb)
                       clear HO_4 HO_5 BK448 HB
                       have HO_4 := n0_
                       have HO_5 := n1_
                       have BK448 := n2_
                       have HB := n3_
                       clear n0_ n1_ n2_ n3_
                       (try clear hb)
                       (try clear hb2)
                       (try clear hk)
                       (try clear hi)
                       refine hK.out _ _ ⟨HS0_, HS1_⟩ (fun hHeld => ?_)
                       clear hK K
                       refine norm_ (a' := ?_) ?_ ?_
                       rotate_left
                       ·show Act.put _ (some 90) _ = _
                        simp only [Act.put, List.setIfInBounds_toArray, List.set_cons_zero, List.set_cons_succ, i64_w, i32_w]
                        rfl
                       refine pU HT_ 9 (some 81) (mk 14 1023) rfl rfl (h := ?_)
                       refine pU HT_ 10 (some 91) (mk 14 2047) rfl rfl (h := ?_)
                       refine pU HT_ 11 (some 92) (mk 14 4095) rfl rfl (h := ?_)
                       refine pU HT_ 12 (some 15) (mk 14 8191) rfl rfl (h := ?_)
                       refine pU HT_ 13 (some 16) (mk 14 16383) rfl rfl (h := ?_)
                       refine done_ (done_of HT_.out (by kernel_rfl)) ?_
                       try go_wp2
                       go_roundg k5
                       case measure => have := HK1.out; have := HK2.out; have := HJ17.out; have := HK4.out; have := HK5.out; omega
                       case rel => exact ⟨(x4_5), (wrap64 (x14_5 + 1)), eX, H', ⟨by have := HK1.out; have := HK2.out; have := HJ17.out; have := HK4.out; have := HK5.out; omega⟩, ⟨by (with_reducible repeat (first | apply Kd.R_alloc | apply Kd.R_drewN | apply Kd.R_drew)); exact HO_4.out⟩, ⟨by (with_reducible repeat (first | apply Kd.R_alloc | apply Kd.R_drewN | apply Kd.R_drew)); exact HO_5.out⟩, ⟨by (with_reducible repeat (first | refine blk_drewN ?_ _ | refine blk_drew ?_ | refine blk_alloc ?_ _)); exact BK448.out⟩, ⟨by repeat (first | (with_reducible first | exact HB.out | apply below_alloc | apply pw_below_drewN | apply below_drew1 | refine below_set ?_ GE448.out) | exact HB.out)⟩⟩
                     ·rw [if_neg c43] at H
                      exact absurd H (by simp)
                    ·rw [if_neg c42] at H
                     exact absurd H (by simp)
                   ·rw [if_neg c41] at H
                    exact absurd H (by simp)
                  ·rw [if_neg c40] at H
                   have c40b0 : decide (x14_5 < (x5_17.length : Int)) = false := decide_eq_false c40
                   clear c40
                   have H' := Aside0.mk H
                   clear H
                   obtain ⟨Ao62, co62, eo62⟩ := Kd.R_slice HO_5.out
                   subst eo62
                   go_wp2
                   go_roundg k5
                   case measure => have := HK1.out; have := HK2.out; have := HJ17.out; have := HK4.out; have := HK5.out; omega
                   case rel => exact ⟨(x4_5), (x5_17), (wrap64 (x8_2 + 1)), eX, H', ⟨by have := HK1.out; have := HK2.out; have := HJ17.out; have := HK4.out; have := HK5.out; omega⟩, ⟨by (with_reducible repeat (first | apply Kd.R_alloc | apply Kd.R_drewN | apply Kd.R_drew)); exact HO_4.out⟩, ⟨by (with_reducible repeat (first | apply Kd.R_alloc | apply Kd.R_drewN | apply Kd.R_drew)); exact HO_5.out⟩, ⟨by (with_reducible repeat (first | refine blk_drewN ?_ _ | refine blk_drew ?_ | refine blk_alloc ?_ _)); exact BK448.out⟩, ⟨by repeat (first | (with_reducible first | exact HB.out | apply below_alloc | apply pw_below_drewN | apply below_drew1 | refine below_set ?_ GE448.out) | exact HB.out)⟩⟩
            ·rw [if_neg c26] at H
             exact absurd H (by simp)
           ·rw [if_neg c25] at H
            exact absurd H (by simp)
        ·rw [if_neg c16] at H
         exact absurd H (by simp)
       ·rw [if_neg c15] at H
        have c15b0 : decide (x8_2 < (x4_2.length : Int)) = false := decide_eq_false c15
        clear c15
        by_cases c63 : (x4_2.length : Int) = (x4_1.length : Int)
        ·rw [if_pos c63] at H
         have c63b0 : ((x4_2.length : Int) == (x4_1.length : Int)) = true := beq_iff_eq.mpr c63
         have c63b1 : ((x4_2.length : Int) != (x4_1.length : Int)) = false := bne_eq_false_iff_eq.mpr c63
         have c63b2 : (x4_2.length == x4_1.length) = true := by first | simpa using c63 | (simp at c63 ⊢; omega)
         clear c63
         by_cases c64 : (x5_2.length : Int) = (x5_1.length : Int)
         ·rw [if_pos c64] at H
          have c64b0 : ((x5_2.length : Int) == (x5_1.length : Int)) = true := beq_iff_eq.mpr c64
          have c64b1 : ((x5_2.length : Int) != (x5_1.length : Int)) = false := bne_eq_false_iff_eq.mpr c64
          have c64b2 : (x5_2.length == x5_1.length) = true := by first | simpa using c64 | (simp at c64 ⊢; omega)
          clear c64
          simp only [Option.some.injEq, Prod.mk.injEq] at H
          obtain ⟨rfl, rfl⟩ := H
          obtain ⟨Ao65, co65, eo65⟩ := Kd.R_slice HO_4.out
          subst eo65
          obtain ⟨Ao66, co66, eo66⟩ := Kd.R_slice HO_5.out
          subst eo66
          go_wp2
          go_ret2
          exact ⟨_, _, by first | rfl | (simp [errW_none, errW_some] <;> rfl) | (simp [*, errW_none, errW_some] <;> rfl), by (with_reducible repeat (first | apply Kd.R_alloc | apply Kd.R_drewN | apply Kd.R_drew)); exact HO_4.out, by (with_reducible repeat (first | apply Kd.R_alloc | apply Kd.R_drewN | apply Kd.R_drew)); exact HO_5.out, bS⟩
         ·rw [if_neg c64] at H
          have c64b0 : ((x5_2.length : Int) == (x5_1.length : Int)) = false := beq_eq_false_iff_ne.mpr c64
          have c64b1 : ((x5_2.length : Int) != (x5_1.length : Int)) = true := bne_iff_ne.mpr c64
          have c64b2 : (x5_2.length == x5_1.length) = false := by first | simpa using c64 | (simp at c64 ⊢; omega)
          have H' := Aside0.mk H
          clear H
          obtain ⟨Ao67, co67, eo67⟩ := Kd.R_slice HO_4.out
          subst eo67
          obtain ⟨Ao68, co68, eo68⟩ := Kd.R_slice HO_5.out
          subst eo68
          go_wp2
          go_roundg k2
          case measure => have := HK1.out; have := HK2.out; omega
          case rel => exact ⟨(x4_2), (x5_2), H', ⟨by have := HK1.out; have := HK2.out; omega⟩, ⟨by (with_reducible repeat (first | apply Kd.R_alloc | apply Kd.R_drewN | apply Kd.R_drew)); exact HO_4.out⟩, ⟨by (with_reducible repeat (first | apply Kd.R_alloc | apply Kd.R_drewN | apply Kd.R_drew)); exact HO_5.out⟩, ⟨by (with_reducible repeat (first | refine blk_drewN ?_ _ | refine blk_drew ?_ | refine blk_alloc ?_ _)); exact BK448.out⟩, ⟨by repeat (first | (with_reducible first | exact HB.out | apply below_alloc | apply pw_below_drewN | apply below_drew1 | refine below_set ?_ GE448.out) | exact HB.out)⟩⟩
        ·rw [if_neg c63] at H
         have c63b0 : ((x4_2.length : Int) == (x4_1.length : Int)) = false := beq_eq_false_iff_ne.mpr c63
         have c63b1 : ((x4_2.length : Int) != (x4_1.length : Int)) = true := bne_iff_ne.mpr c63
         have c63b2 : (x4_2.length == x4_1.length) = false := by first | simpa using c63 | (simp at c63 ⊢; omega)
         have H' := Aside0.mk H
         clear H
         obtain ⟨Ao69, co69, eo69⟩ := Kd.R_slice HO_4.out
         subst eo69
         go_wp2
         go_roundg k2
         case measure => have := HK1.out; have := HK2.out; omega
         case rel => exact ⟨(x4_2), (x5_2), H', ⟨by have := HK1.out; have := HK2.out; omega⟩, ⟨by (with_reducible repeat (first | apply Kd.R_alloc | apply Kd.R_drewN | apply Kd.R_drew)); exact HO_4.out⟩, ⟨by (with_reducible repeat (first | apply Kd.R_alloc | apply Kd.R_drewN | apply Kd.R_drew)); exact HO_5.out⟩, ⟨by (with_reducible repeat (first | refine blk_drewN ?_ _ | refine blk_drew ?_ | refine blk_alloc ?_ _)); exact BK448.out⟩, ⟨by repeat (first | (with_reducible first | exact HB.out | apply below_alloc | apply pw_below_drewN | apply below_drew1 | refine below_set ?_ GE448.out) | exact HB.out)⟩⟩
  ·rw [if_neg c3] at H
   exact absurd H (by simp)
 ·rw [if_neg c2] at H
  exact absurd H (by simp)

end Go.Proofs.Ythlpfghlildllaa.OFnBuilt
-- halved
-- squeezed
-- squeezed2
