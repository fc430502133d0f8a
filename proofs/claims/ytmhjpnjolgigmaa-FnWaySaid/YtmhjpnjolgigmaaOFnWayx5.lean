-- walks of this claim, written by a program of mine
import Derived.Test.YtmhjpnjolgigmaaOFnWayx0
import Derived.Test.YtmhjpnjolgigmaaOFnWayx4
namespace Go.Proofs.Ytmhjpnjolgigmaa.OFnWay
open Go.RowKit Go.Proofs.Ytmhjpnjolgigmaa.OWord Go.Proofs.YtmhjpnjolgigmaaW.PrintWords Go.Proofs.YtmhjpnjolgigmaaW.PrintLast Go.Proofs.YtmhjpnjolgigmaaW.PrintMore
attribute [local go_sem] max2_int min2_int max_two min_two max_three min_three max_four min_four   -- for this text's walks alone
set_option linter.unusedVariables false
set_option linter.unusedSimpArgs false

/-! ### spec_l6Config: function 108 -/
mutual
def spec_l6Config.l0 : Nat → Int → List Int → Int → Int → List Int → Int → Option (List Int × List Int × (List (S42)) × (List (S42)) × Int × Int × Int)
 | 0, _, _, _, _, _, _ => none
 | k + 1, x4, x1000, x1001, x1002, x157000, x157004 => if x4 < 3 then ((spec_l1Below.f x1000 x1001 x1002 3).bind fun bt157 => (if x157000.length < 17592186044416 then (spec_l6Config.l0 k (wrap64 (x4 + 1)) x1000 bt157.2.1 bt157.2.2 (x157000 ++ [bt157.1]) x157004) else (none))) else (spec_l6Config.l1 k 0 x1000 x1001 x1002 x157000 ([] : List Int) x157004)
def spec_l6Config.l1 : Nat → Int → List Int → Int → Int → List Int → List Int → Int → Option (List Int × List Int × (List (S42)) × (List (S42)) × Int × Int × Int)
 | 0, _, _, _, _, _, _, _ => none
 | k + 1, x5, x1000, x1001, x1002, x157000, x157001, x157004 => if x5 < 3 then ((spec_l1Below.f x1000 x1001 x1002 3).bind fun bt163 => (if x157001.length < 17592186044416 then (spec_l6Config.l1 k (wrap64 (x5 + 1)) x1000 bt163.2.1 bt163.2.2 x157000 (x157001 ++ [bt163.1]) x157004) else (none))) else (spec_l6Config.l2 k 0 x1000 x1001 x1002 x157000 x157001 ([] : List (S42)) x157004)
def spec_l6Config.l2 : Nat → Int → List Int → Int → Int → List Int → List Int → List (S42) → Int → Option (List Int × List Int × (List (S42)) × (List (S42)) × Int × Int × Int)
 | 0, _, _, _, _, _, _, _, _ => none
 | k + 1, x6, x1000, x1001, x1002, x157000, x157001, x157002, x157004 => if x6 < 3 then (spec_l6Config.l3 k x6 0 x1000 x1001 x1002 x157000 x157001 x157002 x157004) else (spec_l6Config.l4 k 0 x1000 x1001 x1002 x157000 x157001 x157002 ([] : List (S42)) x157004)
def spec_l6Config.l3 : Nat → Int → Int → List Int → Int → Int → List Int → List Int → List (S42) → Int → Option (List Int × List Int × (List (S42)) × (List (S42)) × Int × Int × Int)
 | 0, _, _, _, _, _, _, _, _, _ => none
 | k + 1, x6, x7, x1000, x1001, x1002, x157000, x157001, x157002, x157004 => if x7 < 3 then (if x6 = x7 then (spec_l6Config.l3 k x6 (wrap64 (x7 + 1)) x1000 x1001 x1002 x157000 x157001 x157002 x157004) else ((spec_l1Once.f x1000 x1001 x1002 3).bind fun bt169 => (if bt169.1 = true then (spec_l6Config.l3 k x6 (wrap64 (x7 + 1)) x1000 bt169.2.1 bt169.2.2 x157000 x157001 x157002 x157004) else (if x157002.length < 8796093022208 then (spec_l6Config.l3 k x6 (wrap64 (x7 + 1)) x1000 bt169.2.1 bt169.2.2 x157000 x157001 (x157002 ++ [(⟨x6, x7⟩ : S42)]) x157004) else (none))))) else (spec_l6Config.l2 k (wrap64 (x6 + 1)) x1000 x1001 x1002 x157000 x157001 x157002 x157004)
def spec_l6Config.l4 : Nat → Int → List Int → Int → Int → List Int → List Int → List (S42) → List (S42) → Int → Option (List Int × List Int × (List (S42)) × (List (S42)) × Int × Int × Int)
 | 0, _, _, _, _, _, _, _, _, _ => none
 | k + 1, x8, x1000, x1001, x1002, x157000, x157001, x157002, x157003, x157004 => if x8 < 3 then (spec_l6Config.l5 k x8 0 x1000 x1001 x1002 x157000 x157001 x157002 x157003 x157004) else ((spec_l1Once.f x1000 x1001 x1002 3).bind fun bt175 => (if bt175.1 = true then (if 0 < (x157000.length : Int) then (if 2 < (x157001.length : Int) then (some (x157000, (([rd x157000 0, rd x157000 0, rd x157001 2] : List Int)), x157002, x157003, x157004, bt175.2.1, bt175.2.2)) else (none)) else (none)) else (some (x157000, x157001, x157002, x157003, x157004, bt175.2.1, bt175.2.2))))
def spec_l6Config.l5 : Nat → Int → Int → List Int → Int → Int → List Int → List Int → List (S42) → List (S42) → Int → Option (List Int × List Int × (List (S42)) × (List (S42)) × Int × Int × Int)
 | 0, _, _, _, _, _, _, _, _, _, _ => none
 | k + 1, x8, x9, x1000, x1001, x1002, x157000, x157001, x157002, x157003, x157004 => if x9 < 3 then (if x8 = x9 then (spec_l6Config.l5 k x8 (wrap64 (x9 + 1)) x1000 x1001 x1002 x157000 x157001 x157002 x157003 x157004) else ((spec_l1Once.f x1000 x1001 x1002 3).bind fun bt184 => (if bt184.1 = true then (spec_l6Config.l5 k x8 (wrap64 (x9 + 1)) x1000 bt184.2.1 bt184.2.2 x157000 x157001 x157002 x157003 x157004) else (if x157003.length < 8796093022208 then (spec_l6Config.l5 k x8 (wrap64 (x9 + 1)) x1000 bt184.2.1 bt184.2.2 x157000 x157001 x157002 (x157003 ++ [(⟨x8, x9⟩ : S42)]) x157004) else (none))))) else (spec_l6Config.l4 k (wrap64 (x8 + 1)) x1000 x1001 x1002 x157000 x157001 x157002 x157003 x157004)
end
def spec_l6Config.f (k : Nat) (s0_0 : List Int) (s0_1 : Int) (s0_2 : Int) : Option (List Int × List Int × (List (S42)) × (List (S42)) × Int × Int × Int) := (spec_l1PickInt.f s0_0 s0_1 s0_2 (([0, 2, 5, 5, 20] : List Int))).bind fun bt153 => (spec_l6Config.l0 k 0 s0_0 bt153.2.1 bt153.2.2 ([] : List Int) bt153.1)
def spec_l6Config.T5 : Bool × List (List Nat × List Nat) := (true, [([], []), ([0], [0]), ([], []), ([2], [2]), ([3], [3]), ([1, 4, 3], [1, 4]), ([0, 1, 2, 3, 4, 5], []), ([6, 5, 5, 0, 1, 2, 3, 4, 5], [5, 6])])
def spec_l6Config.B5 : List Nat := [0, 1, 0, 4, 12, 31, 63, 127]
theorem spec_l6Config.tab5 : rtab .any (opsOf Try.f108 5) = spec_l6Config.T5 := by kernel_rfl
theorem spec_l6Config.bits5 : waitsOk spec_l6Config.T5.2 spec_l6Config.B5 = true := by kernel_rfl
def spec_l6Config.T9 : Bool × List (List Nat × List Nat) := (true, [([], []), ([0], [0]), ([], []), ([2], [2]), ([3], [3]), ([1, 4, 3], [1, 4]), ([0, 1, 2, 3, 4, 5], []), ([6, 5, 5, 0, 1, 2, 3, 4, 5], [5, 6])])
def spec_l6Config.B9 : List Nat := [0, 1, 0, 4, 12, 31, 63, 127]
theorem spec_l6Config.tab9 : rtab .any (opsOf Try.f108 9) = spec_l6Config.T9 := by kernel_rfl
theorem spec_l6Config.bits9 : waitsOk spec_l6Config.T9.2 spec_l6Config.B9 = true := by kernel_rfl
def spec_l6Config.T27 : Bool × List (List Nat × List Nat) := (true, [([], []), ([0], [0]), ([1], [1]), ([2], [2]), ([], []), ([4], [4]), ([5], [5]), ([6], [6]), ([], []), ([8], [8]), ([9], [9]), ([10], [10]), ([3, 7, 11], [3, 7, 11]), ([0, 1, 2, 3, 4, 5, 6, 7, 8, 9, 10, 11, 12], []), ([13, 12, 0, 1, 2, 3, 4, 5, 6, 7, 8, 9, 10, 11, 12], [12, 13])])
def spec_l6Config.B27 : List Nat := [0, 1, 3, 7, 0, 16, 48, 112, 0, 256, 768, 1792, 4095, 8191, 16383]
theorem spec_l6Config.tab27 : rtab .any (opsOf Try.f108 27) = spec_l6Config.T27 := by kernel_rfl
theorem spec_l6Config.bits27 : waitsOk spec_l6Config.T27.2 spec_l6Config.B27 = true := by kernel_rfl
set_option maxHeartbeats 8000000 in
set_option maxRecDepth 100000 in
theorem spec_l6Config.calls (k : Nat) (g : Nat) (s0_0 : List Int) (s0_1 : Int) (s0_2 : Int) (r1 : List Int) (r2 : List Int) (r3 : List (S42)) (r4 : List (S42)) (r5 : Int) (r6 : Int) (r7 : Int) (w0 w : World) (hI : IsS130 w0 w g s0_0 s0_1 s0_2) (hB : Below w0.heap.size w0 w) (h : spec_l6Config.f k s0_0 s0_1 s0_2 = some (r1, r2, r3, r4, r5, r6, r7)) :
  Calls Try.prog 108 #[.pointer (some ⟨g, 0, none⟩)] w fun e w' => ∃ v0_ v1_ v2_ v3_ : Value, e = .returned (.agg #[v0_, v1_, v2_, v3_, .int .i64 r5]) ∧ Kd.R (Kd.int .i64) 3 w' w.heap.size (fun k_ => some k_ ≠ (v1_ : Value).ownBlock) v0_ r1 ∧ Kd.R (Kd.int .i64) 3 w' w.heap.size (fun k_ => some k_ ≠ (v0_ : Value).ownBlock) v1_ r2 ∧ Kd.R k42 42 w' w.heap.size (fun k_ => some k_ ≠ (v3_ : Value).ownBlock) v2_ r3 ∧ Kd.R k42 42 w' w.heap.size (fun k_ => some k_ ≠ (v2_ : Value).ownBlock) v3_ r4 ∧ IsS130 w0 w' g s0_0 r6 r7 ∧ Below w0.heap.size w0 w' ∧ KeepBut w w' g none := by
 have hu30 := Try.underlying30
 have hu42 := Try.underlying42
 have HI0 := Aside0.mk hI
 have HK := Aside0.mk (KeepBut.refl w g none)
 have HL := Aside0.mk hB.size
 clear hI
 have HW0 := Aside0.mk hB.size
 have HB := Aside0.mk hB
 clear hB
 have H : ((spec_l1PickInt.f s0_0 s0_1 s0_2 (([0, 2, 5, 5, 20] : List Int))).bind fun bt153 => (spec_l6Config.l0 k 0 s0_0 bt153.2.1 bt153.2.2 ([] : List Int) bt153.1)) = some (r1, r2, r3, r4, r5, r6, r7) := h
 clear h
 obtain ⟨y150, hy150⟩ : ∃ y_ : List Int, y_ = (([0, 2, 5, 5, 20] : List Int)) := ⟨_, rfl⟩
 replace H : ((spec_l1PickInt.f s0_0 s0_1 s0_2 y150).bind fun bt153 => (spec_l6Config.l0 k 0 s0_0 bt153.2.1 bt153.2.2 ([] : List Int) bt153.1)) = some (r1, r2, r3, r4, r5, r6, r7) := by first | (rw [hy150]; with_reducible exact H) | (have H2_ := (Option.bind_some _ _).symm.trans H; rw [hy150]; with_reducible exact H2_) | (have H2_ := (Option.bind_some _ _).symm.trans H; with_reducible exact H2_) | with_reducible exact H | (rw [hy150]; exact H) | exact H
 have Ny150 := Aside0.mk hy150
 clear hy150
 replace H := Option.bind_eq_some_iff.mp H
 obtain ⟨⟨t153, t154, t155⟩, A20, H⟩ := H
 replace H : (spec_l6Config.l0 k 0 s0_0 t154 t155 ([] : List Int) t153) = some (r1, r2, r3, r4, r5, r6, r7) := H
 have A2 := Aside0.mk A20
 clear A20
 have H' := Aside0.mk H
 clear H
 go_enter Try.func108, Try.ntmps108
 go_wp2_with (first | ((with_reducible refine gate_dst (N := 2) rfl ?_); refine box_event ?hg (N := 2) ?hd (cs := #[.slice none 0 0, .slice none 0 0, .slice none 0 0, .slice none 0 0, .int .i64 0]) (t := 30) ?hr ?_; (case hd => rfl); (case hg => rfl); (case hr => first | (go_simp; done) | (go_simp; rfl)); intro gb149 hg w3 hbox hb; have n0_ := Aside0.mk (IsS130.below IsS130.qHI0 hb); have n1_ := Aside0.mk (KeepBut.trans kK (KeepBut.of_below hb g none) (.inl rfl)); have n2_ := Aside0.mk (below_step IsS130.bHI0 hb); have n3_ := Aside0.mk (hbox); have n4_ := Aside0.mk ((kZ hg : w.heap.size ≤ gb149)); have n5_ := Aside0.mk ((Nat.le_trans HW0.out (kZ hg : w.heap.size ≤ gb149) : w0.heap.size ≤ gb149)); have n6_ := Aside0.mk ((by rw [hg]; exact Nat.ne_of_lt (IsS130.lt (show IsS130 w0 _ g s0_0 s0_1 s0_2 from IsS130.qHI0)) : g ≠ gb149)); have n7_ := Aside0.mk ((by rw [hg]; exact Nat.ne_of_gt (IsS130.lt (show IsS130 w0 _ g s0_0 s0_1 s0_2 from IsS130.qHI0)) : gb149 ≠ g)); clear HI0; clear HK; clear HB; have HI0 := n0_; have HK := n1_; have HB := n2_; have BK149 := n3_; have GW149 := n4_; have GE149 := n5_; have NB0_149 := n6_; have NB149_0 := n7_; clear n0_ n1_ n2_ n3_ n4_ n5_ n6_ n7_; clear hb hbox hg) | ((with_reducible refine gate_dst (N := 11) rfl ?_); refine Kd.R_lit (Kd.int .i64) _ 3 ?hg (N := 11) ?hd (xs := ([0, 2, 5, 5, 20] : List Int)) (inner := [.int .i64 0, .int .i64 2, .int .i64 5, .int .i64 5, .int .i64 20]) (ok := fun _ => True) (okp := fun _ => True) ?hr ?hp (fun _ hk => hk) trivial (Below.refl _ _) (Nat.le_refl _) (by simp) ?_; (case hd => rfl); (case hg => rfl); (case hr => first | (go_simp; done) | (go_simp; rfl)); (case hp => exact (Reps.one (show Kd.M (Kd.int .i64) _ _ _ 0 [.int .i64 0] from rfl) (Reps.one (show Kd.M (Kd.int .i64) _ _ _ 2 [.int .i64 2] from rfl) (Reps.one (show Kd.M (Kd.int .i64) _ _ _ 5 [.int .i64 5] from rfl) (Reps.one (show Kd.M (Kd.int .i64) _ _ _ 5 [.int .i64 5] from rfl) (Reps.one (show Kd.M (Kd.int .i64) _ _ _ 20 [.int .i64 20] from rfl) (Reps.none _ _))))))); intro v151 w4 ho5 hb hg_ hnew_; clear hg_ hnew_; (first | rw [← Ny150.out] at ho5 | (simp only [Int.reduceToNat] at ho5; rw [← Ny150.out] at ho5)); have n0_ := Aside0.mk (Kd.R_lower ho5 kL); have n1_ := Aside0.mk (IsS130.below IsS130.qHI0 hb); have n2_ := Aside0.mk (blk_below (kB BK149.out) hb); have n3_ := Aside0.mk (KeepBut.trans kK (KeepBut.of_below hb g none) (.inl rfl)); have n4_ := Aside0.mk (below_step IsS130.bHI0 hb); clear HI0; clear BK149; clear HK; clear HB; have HO152 := n0_; have HI0 := n1_; have BK149 := n2_; have HK := n3_; have HB := n4_; clear n0_ n1_ n2_ n3_ n4_; clear hb ho5; obtain ⟨Ao6, co6, eo6⟩ := Kd.R_slice HO152.out; subst eo6) | ((with_reducible refine gate_callee (f := 63) rfl ?_); refine goesL_ (some 12) rfl rfl Try.func63 (by kernel_rfl) rfl #[.pointer (some ⟨g, 0, none⟩), .slice Ao6 y150.length co6] rfl eA ?_; (with_reducible refine (spec_l1PickInt.calls g s0_0 s0_1 s0_2 _ _ y150 t153 t154 t155 w0 _ ?side1 ?side2 ?side3 ?side4 ?side5 A2.out).mono ?_); (case side1 => exact IsS130.qHI0); (case side2 => exact IsS130.bHI0); (case side3 => repeat (first | exact (Kd.R_reads' HO152.out).2.2 | (with_reducible refine Kd.C_alloc ?_ _) | (with_reducible refine Kd.C_drewN ?_ _) | (with_reducible refine Kd.C_drew ?_))); (case side4 => exact (Kd.R_reads' HO152.out).2.1); (case side5 => exact far_slice (IsS130.own_ne HI0.out HO152.out (by decide))); rintro e w7 ⟨rfl, hi, hb, hk⟩; refine ⟨_, rfl, ?_⟩; have n0_ := Aside0.mk (KeepBut.blk hk (g' := gb149) (o := .cells #[.slice none 0 0, .slice none 0 0, .slice none 0 0, .slice none 0 0, .int .i64 0] 30 (0, 0)) (kB BK149.out) NB149_0.out (by simp)); have n1_ := Aside0.mk (IsS130.rK hk (kR HO152.out) (show IsS130 w0 _ g s0_0 s0_1 s0_2 from IsS130.qHI0)); have n2_ := Aside0.mk (KeepBut.trans kK hk (.inl rfl)); have n3_ := Aside0.mk (hb); have n4_ := Aside0.mk (hi); clear BK149; clear HO152; clear HK; clear HB; clear HI0; have BK149 := n0_; have HO152 := n1_; have HK := n2_; have HB := n3_; have HI0 := n4_; clear n0_ n1_ n2_ n3_ n4_; (try clear hb); (try clear hb2); (try clear hk); (try clear hi)) | ((with_reducible refine gate_dst (N := 3) rfl ?_); refine box_event ?hg (N := 3) ?hd (cs := #[.slice none 0 0, .slice none 0 0, .slice none 0 0, .slice none 0 0, .int .i64 0]) (t := 30) ?hr ?_; (case hd => rfl); (case hg => rfl); (case hr => first | (go_simp; done) | (go_simp; rfl)); intro gb156 hg w8 hbox hb; have n0_ := Aside0.mk (Kd.R_below (kR HO152.out) hb); have n1_ := Aside0.mk (IsS130.below IsS130.qHI0 hb); have n2_ := Aside0.mk (blk_below (kB BK149.out) hb); have n3_ := Aside0.mk (KeepBut.trans kK (KeepBut.of_below hb g none) (.inl rfl)); have n4_ := Aside0.mk (below_step IsS130.bHI0 hb); have n5_ := Aside0.mk (hbox); have n6_ := Aside0.mk ((kZ hg : w.heap.size ≤ gb156)); have n7_ := Aside0.mk ((Nat.le_trans HW0.out (kZ hg : w.heap.size ≤ gb156) : w0.heap.size ≤ gb156)); have n8_ := Aside0.mk ((nL hg BK149.out : gb149 ≠ gb156)); have n9_ := Aside0.mk ((nG hg BK149.out : gb156 ≠ gb149)); have n10_ := Aside0.mk ((by rw [hg]; exact Nat.ne_of_lt (IsS130.lt (show IsS130 w0 _ g s0_0 t154 t155 from IsS130.qHI0)) : g ≠ gb156)); have n11_ := Aside0.mk ((by rw [hg]; exact Nat.ne_of_gt (IsS130.lt (show IsS130 w0 _ g s0_0 t154 t155 from IsS130.qHI0)) : gb156 ≠ g)); clear HO152; clear HI0; clear BK149; clear HK; clear HB; have HO152 := n0_; have HI0 := n1_; have BK149 := n2_; have HK := n3_; have HB := n4_; have BK156 := n5_; have GW156 := n6_; have GE156 := n7_; have NB149_156 := n8_; have NB156_149 := n9_; have NB0_156 := n10_; have NB156_0 := n11_; clear n0_ n1_ n2_ n3_ n4_ n5_ n6_ n7_ n8_ n9_ n10_ n11_; clear hb hbox hg; have hnb9 := NB156_149.out; have hnc9 := NB149_156.out; have hnb10 := NB156_0.out; have hnc10 := NB0_156.out; have hcz11_0 : w8.cell? ⟨gb156, 0, none⟩ = some (.slice none 0 0) := (blk_cell BK156.out 0).trans rfl; have hcz11_1 : w8.cell? ⟨gb156, 1, none⟩ = some (.slice none 0 0) := (blk_cell BK156.out 1).trans rfl; have hcz11_2 : w8.cell? ⟨gb156, 2, none⟩ = some (.slice none 0 0) := (blk_cell BK156.out 2).trans rfl; have hcz11_3 : w8.cell? ⟨gb156, 3, none⟩ = some (.slice none 0 0) := (blk_cell BK156.out 3).trans rfl; have hcz11_4 : w8.cell? ⟨gb156, 4, none⟩ = some (.int .i64 0) := (blk_cell BK156.out 4).trans rfl; have hfz11_0 := blk_frozen BK156.out 0; have hfz11_1 := blk_frozen BK156.out 1; have hfz11_2 := blk_frozen BK156.out 2; have hfz11_3 := blk_frozen BK156.out 3; have hfz11_4 := blk_frozen BK156.out 4))
 go_loopg [4] k (fun kq v4 w' => ∃ (x4_1 : Int) (x1001_1 : Int) (x1002_1 : Int) (x157000_1 : List Int) (u157000 : Value), v4 = .int .i64 x4_1 ∧ Aside0 (spec_l6Config.l0 kq x4_1 s0_0 x1001_1 x1002_1 x157000_1 t153 = some (r1, r2, r3, r4, r5, r6, r7)) ∧ Aside0 (kq ≤ k) ∧ Aside0 (Kd.R (Kd.int .i64) 3 w' w.heap.size (fun _ => True) u157000 x157000_1) ∧ Aside0 (w'.heap[gb149]? = some (.cells #[(.slice none 0 0), (.slice none 0 0), (.slice none 0 0), (.slice none 0 0), .int .i64 0] 30 (0, 0))) ∧ Aside0 (w'.heap[gb156]? = some (.cells #[u157000, (.slice none 0 0), (.slice none 0 0), (.slice none 0 0), .int .i64 t153] 30 (0, 0))) ∧ Aside0 (IsS130 w0 w' g s0_0 x1001_1 x1002_1) ∧ Aside0 (KeepBut w w' g none) ∧ Aside0 (Below w0.heap.size w0 w'))
 case atStart => exact ⟨(0), (t154), (t155), (([] : List Int)), (.slice none 0 0), eX, H', ⟨Nat.le_refl _⟩, ⟨by first | exact Kd.R_nil _ _ _ _ _ | exact Kd.N_nil _ _ _ _ _ | exact Kd.V_nil _ _ _ _ _ | exact Kd.Q_nil _ _ _ _ _ | exact Kd.S_nil _ _ _ _ _⟩, ⟨by (with_reducible repeat (first | refine blk_drewN ?_ _ | refine blk_drew ?_ | refine blk_alloc ?_ _)); refine blk_far ?_ NB149_156.out _; (with_reducible repeat (first | refine blk_drewN ?_ _ | refine blk_drew ?_ | refine blk_alloc ?_ _)); refine blk_far ?_ NB149_156.out _; (with_reducible repeat (first | refine blk_drewN ?_ _ | refine blk_drew ?_ | refine blk_alloc ?_ _)); refine blk_far ?_ NB149_156.out _; (with_reducible repeat (first | refine blk_drewN ?_ _ | refine blk_drew ?_ | refine blk_alloc ?_ _)); refine blk_far ?_ NB149_156.out _; (with_reducible repeat (first | refine blk_drewN ?_ _ | refine blk_drew ?_ | refine blk_alloc ?_ _)); refine blk_far ?_ NB149_156.out _; (with_reducible repeat (first | refine blk_drewN ?_ _ | refine blk_drew ?_ | refine blk_alloc ?_ _)); exact BK149.out⟩, ⟨by (with_reducible repeat (first | refine blk_drewN ?_ _ | refine blk_drew ?_ | refine blk_alloc ?_ _)); refine blk_put (cs := #[.slice none 0 0, .slice none 0 0, .slice none 0 0, .slice none 0 0, .int .i64 0]) ?_ 4 _ rfl; (with_reducible repeat (first | refine blk_drewN ?_ _ | refine blk_drew ?_ | refine blk_alloc ?_ _)); refine blk_put (cs := #[.slice none 0 0, .slice none 0 0, .slice none 0 0, .slice none 0 0, .int .i64 0]) ?_ 3 _ rfl; (with_reducible repeat (first | refine blk_drewN ?_ _ | refine blk_drew ?_ | refine blk_alloc ?_ _)); refine blk_put (cs := #[.slice none 0 0, .slice none 0 0, .slice none 0 0, .slice none 0 0, .int .i64 0]) ?_ 2 _ rfl; (with_reducible repeat (first | refine blk_drewN ?_ _ | refine blk_drew ?_ | refine blk_alloc ?_ _)); refine blk_put (cs := #[.slice none 0 0, .slice none 0 0, .slice none 0 0, .slice none 0 0, .int .i64 0]) ?_ 1 _ rfl; (with_reducible repeat (first | refine blk_drewN ?_ _ | refine blk_drew ?_ | refine blk_alloc ?_ _)); refine blk_put (cs := #[.slice none 0 0, .slice none 0 0, .slice none 0 0, .slice none 0 0, .int .i64 0]) ?_ 0 _ rfl; (with_reducible repeat (first | refine blk_drewN ?_ _ | refine blk_drew ?_ | refine blk_alloc ?_ _)); exact BK156.out⟩, ⟨IsS130.qHI0⟩, ⟨by repeat (first | (with_reducible first | exact HK.out | apply KeepBut.set_ | apply keep_drewN | apply keep_drew | apply keep_alloc | refine keep_far ?_ GW149.out _ | refine keep_far ?_ GW156.out _) | exact HK.out)⟩, ⟨IsS130.bHI0⟩⟩
 case round =>
  clear H'
  try clear c1
  try clear p2
  try clear c6
  try clear c9
  try clear c10
  try clear hcz11_0
  try clear hcz11_1
  try clear hcz11_2
  try clear hcz11_3
  try clear hcz11_4
  try clear hfz11_0
  try clear hfz11_1
  try clear hfz11_2
  try clear hfz11_3
  try clear hfz11_4
  obtain ⟨x4_1, x1001_1, x1002_1, x157000_1, u157000, rfl, HA, HK1, HO_157000, BK149, BK156, HI0, HK, HB⟩ := hrel
  cases gk with
  | zero => exact absurd HA.out (by simp [spec_l6Config.l0])
  | succ k1 =>
   have H := HA.out
   clear HA
   simp only [spec_l6Config.l0] at H
   by_cases c12 : x4_1 < 3
   ·rw [if_pos c12] at H
    have c12b0 : decide (x4_1 < 3) = true := decide_eq_true c12
    clear c12
    replace H := Option.bind_eq_some_iff.mp H
    obtain ⟨⟨t157, t158, t159⟩, A130, H⟩ := H
    replace H : (if x157000_1.length < 17592186044416 then (spec_l6Config.l0 k1 (wrap64 (x4_1 + 1)) s0_0 t158 t159 (x157000_1 ++ [t157]) t153) else (none)) = some (r1, r2, r3, r4, r5, r6, r7) := H
    have A13 := Aside0.mk A130
    clear A130
    by_cases c14 : x157000_1.length < 17592186044416
    ·rw [if_pos c14] at H
     have LMc14 := Aside0.mk c14
     clear c14
     obtain ⟨y160, hy160⟩ : ∃ y_ : List Int, y_ = (x157000_1 ++ [t157]) := ⟨_, rfl⟩
     replace H : (spec_l6Config.l0 k1 (wrap64 (x4_1 + 1)) s0_0 t158 t159 y160 t153) = some (r1, r2, r3, r4, r5, r6, r7) := by first | (rw [hy160]; with_reducible exact H) | (have H2_ := (Option.bind_some _ _).symm.trans H; rw [hy160]; with_reducible exact H2_) | (have H2_ := (Option.bind_some _ _).symm.trans H; with_reducible exact H2_) | with_reducible exact H | (rw [hy160]; exact H) | exact H
     have Ny160 := Aside0.mk hy160
     clear hy160
     have H' := Aside0.mk H
     clear H
     try go_wp2
     have n0_ := Aside0.mk (Kd.R_drew HO_157000.out)
     have n1_ := Aside0.mk (blk_drew BK149.out)
     have n2_ := Aside0.mk (blk_drew BK156.out)
     have n3_ := Aside0.mk (IsS130.drew HI0.out)
     have n4_ := Aside0.mk (keep_drew HK.out)
     have n5_ := Aside0.mk (below_drew1 HB.out)
     clear HO_157000 BK149 BK156 HI0 HK HB
     have HO_157000 := n0_
     have BK149 := n1_
     have BK156 := n2_
     have HI0 := n3_
     have HK := n4_
     have HB := n5_
     clear n0_ n1_ n2_ n3_ n4_ n5_
     refine start_ (n := 8) (S := fun w' => w'.cell? ⟨gb156, 0, none⟩ = some (u157000) ∧ w'.cell? ⟨gb156, 1, none⟩ = some (.slice none 0 0) ∧ w'.cell? ⟨gb156, 2, none⟩ = some (.slice none 0 0) ∧ w'.cell? ⟨gb156, 3, none⟩ = some (.slice none 0 0) ∧ w'.cell? ⟨gb156, 4, none⟩ = some (.int .i64 t153)) (ds := [7]) _ (by kernel_rfl) rfl rfl ⟨(blk_cell BK156.out 0).trans rfl, (blk_cell BK156.out 1).trans rfl, (blk_cell BK156.out 2).trans rfl, (blk_cell BK156.out 3).trans rfl, (blk_cell BK156.out 4).trans rfl⟩ (fun hHeld => ?_); refine with_tabW spec_l6Config.tab5 spec_l6Config.bits5 (fun HT_ HW_ => ?_)
     generalize wr.drew = w15 at HO_157000 BK149 BK156 HI0 HK HB hHeld ⊢
     refine pU HT_ 0 (some 18) (mk 8 1) rfl rfl (h := ?_)
     refine pU HT_ 2 (some 20) (mk 8 5) rfl rfl (h := ?_)
     refine tU HT_ HW_ 1 (some 19) (mk 8 7) hHeld rfl rfl (by rintro w' ⟨s0, s1, s2, s3, s4⟩; go_simp; with_reducible rfl) (h := ?_)
     refine one_ (i := 3) (N := some 21) (mk 8 15) rfl rfl (one_of HT_.out (by kernel_rfl)) (by decide) (fun K hK => ?_)
     refine goes_ Try.func66 (by kernel_rfl) rfl #[.pointer (some ⟨g, 0, none⟩), .int .i64 3] (by rfl) rfl rfl eA ?_
     with_reducible refine (spec_l1Below.calls g s0_0 x1001_1 x1002_1 3 t157 t158 t159 w0 _ ?side1 ?side2 A13.out).mono ?_
     (case side1 => exact IsS130.qHI0)
     (case side2 => exact IsS130.bHI0)
     rintro e w16 ⟨rfl, hi, hb, hk⟩
     refine ⟨_, rfl, ?_⟩
     have n0_ := Aside0.mk (IsS130.rK hk (kR HO_157000.out) (show IsS130 w0 _ g s0_0 x1001_1 x1002_1 from IsS130.qHI0))
     have n1_ := Aside0.mk (KeepBut.blk hk (g' := gb149) (o := .cells #[.slice none 0 0, .slice none 0 0, .slice none 0 0, .slice none 0 0, .int .i64 0] 30 (0, 0)) (kB BK149.out) NB149_0.out (by simp))
     have n2_ := Aside0.mk (KeepBut.blk hk (g' := gb156) (o := .cells #[u157000, .slice none 0 0, .slice none 0 0, .slice none 0 0, .int .i64 t153] 30 (0, 0)) (kB BK156.out) NB156_0.out (by simp))
     have n3_ := Aside0.mk (KeepBut.trans kK hk (.inl rfl))
     have n4_ := Aside0.mk (hb)
     have n5_ := Aside0.mk (hi)
     clear HO_157000 BK149 BK156 HK HB HI0
     have HO_157000 := n0_
     have BK149 := n1_
     have BK156 := n2_
     have HK := n3_
     have HB := n4_
     have HI0 := n5_
     clear n0_ n1_ n2_ n3_ n4_ n5_
     (try clear hb)
     (try clear hb2)
     (try clear hk)
     (try clear hi)
     refine hK.out _ _ ⟨(blk_cell BK156.out 0).trans rfl, (blk_cell BK156.out 1).trans rfl, (blk_cell BK156.out 2).trans rfl, (blk_cell BK156.out 3).trans rfl, (blk_cell BK156.out 4).trans rfl⟩ (fun hHeld => ?_)
     clear hK K
     refine norm_ (a' := ?_) ?_ ?_
     rotate_left
     ·show Act.put _ (some 21) _ = _
      simp only [Act.put, List.setIfInBounds_toArray, List.set_cons_zero, List.set_cons_succ, i64_w, i32_w]
      rfl
     refine one_ (i := 4) (N := some 22) (mk 8 31) rfl rfl (one_of HT_.out (by kernel_rfl)) (by decide) (fun K hK => ?_)
     refine value_ (w1 := ?_) (v := ?_) (by rfl) rfl ?_ ?_
     rotate_left 2
     ·go_simp
      constructor
      ·rfl
      ·rfl
     refine hK.out _ _ ⟨(blk_cell (blk_alloc BK156.out _) 0).trans rfl, (blk_cell (blk_alloc BK156.out _) 1).trans rfl, (blk_cell (blk_alloc BK156.out _) 2).trans rfl, (blk_cell (blk_alloc BK156.out _) 3).trans rfl, (blk_cell (blk_alloc BK156.out _) 4).trans rfl⟩ (fun hHeld => ?_)
     clear hK K
     refine norm_ (a' := ?_) ?_ ?_
     rotate_left
     ·show Act.put _ (some 22) _ = _
      simp only [Act.put, List.setIfInBounds_toArray, List.set_cons_zero, List.set_cons_succ, i64_w, i32_w]
      rfl
     refine one_ (i := 5) (N := some 23) (mk 8 63) rfl rfl (one_of HT_.out (by kernel_rfl)) (by decide) (fun K hK => ?_)
     refine Kd.R_append_step (Kd.int .i64) w.heap.size (by rfl) (.tmp 19) (.tmp 22) 22 3 (.int .i64 0) 8 rfl Try.underlying22 info3 rfl (by decide) (by omega) u157000 x157000_1 t157 [.int .i64 t157] (fun _ => True) (fun _ => False) rfl rfl ?aP (fun _ hk => hk.elim) ?aF ?aO (Below.refl _ _) ?aS ?aL ?_
     (case aP => exact rfl)
     (case aF => exact (fun _ _ => trivial))
     (case aO => exact (kR HO_157000.out))
     (case aS => exact kL)
     (case aL => have := LMc14.out; omega)
     intro v161 w17 ho hb hg hat
     rw [← Ny160.out] at ho
     have n0_ := Aside0.mk (blk_grown (g := gb149) (o := .cells #[.slice none 0 0, .slice none 0 0, .slice none 0 0, .slice none 0 0, .int .i64 0] 30 (0, 0)) (kB BK149.out) hg (Kd.R_ne HO_157000.out BK149.out (by decide)))
     have n1_ := Aside0.mk (blk_grown (g := gb156) (o := .cells #[u157000, .slice none 0 0, .slice none 0 0, .slice none 0 0, .int .i64 t153] 30 (0, 0)) (kB BK156.out) hg (Kd.R_ne HO_157000.out BK156.out (by decide)))
     have n2_ := Aside0.mk (IsS130.grown IsS130.qHI0 hg (IsS130.own_ne HI0.out HO_157000.out (by decide)))
     have n3_ := Aside0.mk (below_weaken IsS130.bHI0 HL.out hb)
     have n4_ := Aside0.mk (KeepBut.trans kK (KeepBut.of_grown hg g) (Kd.R_base2 HO_157000.out))
     have n5_ := Aside0.mk (ho)
     clear BK149 BK156 HI0 HB HK HO_157000
     have BK149 := n0_
     have BK156 := n1_
     have HI0 := n2_
     have HB := n3_
     have HK := n4_
     have HO162 := n5_
     clear n0_ n1_ n2_ n3_ n4_ n5_ ho hb hg hat
     obtain ⟨Ao18, co18, eo18⟩ := Kd.R_slice HO162.out
     (first | subst eo18 | (injection eo18 with f1_ f2_ f3_; have f4_ := f1_.symm; have f5_ := f3_.symm; clear f1_ f2_ f3_; subst f4_; subst f5_))
     refine hK.out _ _ ⟨(blk_cell BK156.out 0).trans rfl, (blk_cell BK156.out 1).trans rfl, (blk_cell BK156.out 2).trans rfl, (blk_cell BK156.out 3).trans rfl, (blk_cell BK156.out 4).trans rfl⟩ (fun hHeld => ?_)
     clear hK K
     refine norm_ (a' := ?_) ?_ ?_
     rotate_left
     ·show Act.put _ (some 23) _ = _
      simp only [Act.put, List.setIfInBounds_toArray, List.set_cons_zero, List.set_cons_succ, i64_w, i32_w]
      rfl
     refine pU HT_ 6 (some 24) (mk 8 127) rfl rfl (h := ?_)
     refine last_ (i := 7) (N := none) #[true, true, true, true, true, true, true, true] rfl rfl (one_of HT_.out (by kernel_rfl)) (by decide) (fun K hK => ?_)
     have hs19 : w17.cell? ⟨gb156, 0, none⟩ = some (u157000) := (blk_cell BK156.out 0).trans rfl
     have hfs19 := blk_frozen BK156.out 0
     have hns19_0 := NB149_156.out
     have hms19_0 := NB156_149.out
     refine skip_ (w1 := ?_) (by rfl) rfl ?_ ?_
     rotate_left
     ·go_simp
      rfl
     refine hK.out _ _ ?_
     clear hK K
     refine done_ (done_of HT_.out (by kernel_rfl)) ?_
     try go_wp2
     go_roundg k1
     case measure => have := HK1.out; omega
     case rel => exact ⟨(wrap64 (x4_1 + 1)), (t158), (t159), (y160), (.slice Ao18 y160.length co18), eX, H', ⟨by have := HK1.out; omega⟩, ⟨by (with_reducible repeat (first | apply Kd.R_alloc | apply Kd.R_drewN | apply Kd.R_drew)); exact Kd.R_mono (Kd.R_far (p := ⟨gb156, 0, none⟩) (Kd.R_types HO162.out BK156.out (by decide)) (fun _ hk => hk.2) (.slice Ao18 y160.length co18)) (fun _ hk => trivial)⟩, ⟨by (with_reducible repeat (first | refine blk_drewN ?_ _ | refine blk_drew ?_ | refine blk_alloc ?_ _)); refine blk_far ?_ NB149_156.out _; (with_reducible repeat (first | refine blk_drewN ?_ _ | refine blk_drew ?_ | refine blk_alloc ?_ _)); exact BK149.out⟩, ⟨by (with_reducible repeat (first | refine blk_drewN ?_ _ | refine blk_drew ?_ | refine blk_alloc ?_ _)); refine blk_put (cs := #[u157000, .slice none 0 0, .slice none 0 0, .slice none 0 0, .int .i64 t153]) ?_ 0 _ rfl; (with_reducible repeat (first | refine blk_drewN ?_ _ | refine blk_drew ?_ | refine blk_alloc ?_ _)); exact BK156.out⟩, ⟨IsS130.qHI0⟩, ⟨by repeat (first | (with_reducible first | exact HK.out | apply KeepBut.set_ | apply keep_drewN | apply keep_drew | apply keep_alloc | refine keep_far ?_ GW149.out _ | refine keep_far ?_ GW156.out _) | exact HK.out)⟩, ⟨IsS130.bHI0⟩⟩
    ·rw [if_neg c14] at H
     exact absurd H (by simp)
   ·rw [if_neg c12] at H
    have c12b0 : decide (x4_1 < 3) = false := decide_eq_false c12
    clear c12
    have H' := Aside0.mk H
    clear H
    go_wp2
    go_loopg [5] k1 (fun kq v5 w' => ∃ (x5_2 : Int) (x1001_2 : Int) (x1002_2 : Int) (x157001_2 : List Int) (u157001 : Value), v5 = .int .i64 x5_2 ∧ Aside0 (spec_l6Config.l1 kq x5_2 s0_0 x1001_2 x1002_2 x157000_1 x157001_2 t153 = some (r1, r2, r3, r4, r5, r6, r7)) ∧ Aside0 (kq ≤ k1) ∧ Aside0 (Kd.R (Kd.int .i64) 3 w' w.heap.size (fun k_ => some k_ ≠ (u157001 : Value).ownBlock) u157000 x157000_1) ∧ Aside0 (Kd.R (Kd.int .i64) 3 w' w.heap.size (fun k_ => some k_ ≠ (u157000 : Value).ownBlock) u157001 x157001_2) ∧ Aside0 (w'.heap[gb149]? = some (.cells #[(.slice none 0 0), (.slice none 0 0), (.slice none 0 0), (.slice none 0 0), .int .i64 0] 30 (0, 0))) ∧ Aside0 (w'.heap[gb156]? = some (.cells #[u157000, u157001, (.slice none 0 0), (.slice none 0 0), .int .i64 t153] 30 (0, 0))) ∧ Aside0 (IsS130 w0 w' g s0_0 x1001_2 x1002_2) ∧ Aside0 (KeepBut w w' g none) ∧ Aside0 (Below w0.heap.size w0 w'))
    case atStart => exact ⟨(0), (x1001_1), (x1002_1), (([] : List Int)), (.slice none 0 0), eX, H', ⟨Nat.le_refl _⟩, ⟨by (with_reducible repeat (first | apply Kd.R_alloc | apply Kd.R_drewN | apply Kd.R_drew)); exact Kd.R_mono HO_157000.out (fun _ hk => (by simp [Value.ownBlock]))⟩, ⟨by first | exact Kd.R_nil _ _ _ _ _ | exact Kd.N_nil _ _ _ _ _ | exact Kd.V_nil _ _ _ _ _ | exact Kd.Q_nil _ _ _ _ _ | exact Kd.S_nil _ _ _ _ _⟩, ⟨by (with_reducible repeat (first | refine blk_drewN ?_ _ | refine blk_drew ?_ | refine blk_alloc ?_ _)); exact BK149.out⟩, ⟨by (with_reducible repeat (first | refine blk_drewN ?_ _ | refine blk_drew ?_ | refine blk_alloc ?_ _)); exact BK156.out⟩, ⟨IsS130.qHI0⟩, ⟨by repeat (first | (with_reducible first | exact HK.out | apply KeepBut.set_ | apply keep_drewN | apply keep_drew | apply keep_alloc | refine keep_far ?_ GW149.out _ | refine keep_far ?_ GW156.out _) | exact HK.out)⟩, ⟨IsS130.bHI0⟩⟩
    case round =>
     clear H'
     try clear c1
     try clear p2
     try clear c6
     try clear p6
     try clear c9
     try clear c10
     try clear c12
     try clear c12b0
     try clear c14
     try clear hcz11_0
     try clear hcz11_1
     try clear hcz11_2
     try clear hcz11_3
     try clear hcz11_4
     try clear hfz11_0
     try clear hfz11_1
     try clear hfz11_2
     try clear hfz11_3
     try clear hfz11_4
     try clear p2
     obtain ⟨x5_2, x1001_2, x1002_2, x157001_2, u157001, rfl, HA, HK2, HO_157000, HO_157001, BK149, BK156, HI0, HK, HB⟩ := hrel
     cases gk with
     | zero => exact absurd HA.out (by simp [spec_l6Config.l1])
     | succ k2 =>
      have H := HA.out
      clear HA
      simp only [spec_l6Config.l1] at H
      by_cases c20 : x5_2 < 3
      ·rw [if_pos c20] at H
       have c20b0 : decide (x5_2 < 3) = true := decide_eq_true c20
       clear c20
       replace H := Option.bind_eq_some_iff.mp H
       obtain ⟨⟨t163, t164, t165⟩, A210, H⟩ := H
       replace H : (if x157001_2.length < 17592186044416 then (spec_l6Config.l1 k2 (wrap64 (x5_2 + 1)) s0_0 t164 t165 x157000_1 (x157001_2 ++ [t163]) t153) else (none)) = some (r1, r2, r3, r4, r5, r6, r7) := H
       have A21 := Aside0.mk A210
       clear A210
       by_cases c22 : x157001_2.length < 17592186044416
       ·rw [if_pos c22] at H
        have LMc22 := Aside0.mk c22
        clear c22
        obtain ⟨y166, hy166⟩ : ∃ y_ : List Int, y_ = (x157001_2 ++ [t163]) := ⟨_, rfl⟩
        replace H : (spec_l6Config.l1 k2 (wrap64 (x5_2 + 1)) s0_0 t164 t165 x157000_1 y166 t153) = some (r1, r2, r3, r4, r5, r6, r7) := by first | (rw [hy166]; with_reducible exact H) | (have H2_ := (Option.bind_some _ _).symm.trans H; rw [hy166]; with_reducible exact H2_) | (have H2_ := (Option.bind_some _ _).symm.trans H; with_reducible exact H2_) | with_reducible exact H | (rw [hy166]; exact H) | exact H
        have Ny166 := Aside0.mk hy166
        clear hy166
        have H' := Aside0.mk H
        clear H
        try go_wp2
        have n0_ := Aside0.mk (Kd.R_drew HO_157000.out)
        have n1_ := Aside0.mk (Kd.R_drew HO_157001.out)
        have n2_ := Aside0.mk (blk_drew BK149.out)
        have n3_ := Aside0.mk (blk_drew BK156.out)
        have n4_ := Aside0.mk (IsS130.drew HI0.out)
        have n5_ := Aside0.mk (keep_drew HK.out)
        have n6_ := Aside0.mk (below_drew1 HB.out)
        clear HO_157000 HO_157001 BK149 BK156 HI0 HK HB
        have HO_157000 := n0_
        have HO_157001 := n1_
        have BK149 := n2_
        have BK156 := n3_
        have HI0 := n4_
        have HK := n5_
        have HB := n6_
        clear n0_ n1_ n2_ n3_ n4_ n5_ n6_
        refine start_ (n := 8) (S := fun w' => w'.cell? ⟨gb156, 0, none⟩ = some (u157000) ∧ w'.cell? ⟨gb156, 1, none⟩ = some (u157001) ∧ w'.cell? ⟨gb156, 2, none⟩ = some (.slice none 0 0) ∧ w'.cell? ⟨gb156, 3, none⟩ = some (.slice none 0 0) ∧ w'.cell? ⟨gb156, 4, none⟩ = some (.int .i64 t153)) (ds := [7]) _ (by kernel_rfl) rfl rfl ⟨(blk_cell BK156.out 0).trans rfl, (blk_cell BK156.out 1).trans rfl, (blk_cell BK156.out 2).trans rfl, (blk_cell BK156.out 3).trans rfl, (blk_cell BK156.out 4).trans rfl⟩ (fun hHeld => ?_); refine with_tabW spec_l6Config.tab9 spec_l6Config.bits9 (fun HT_ HW_ => ?_)
        generalize wr.drew = w23 at HO_157000 HO_157001 BK149 BK156 HI0 HK HB hHeld ⊢
        refine pU HT_ 0 (some 29) (mk 8 1) rfl rfl (h := ?_)
        refine pU HT_ 2 (some 31) (mk 8 5) rfl rfl (h := ?_)
        refine tU HT_ HW_ 1 (some 30) (mk 8 7) hHeld rfl rfl (by rintro w' ⟨s0, s1, s2, s3, s4⟩; go_simp; with_reducible rfl) (h := ?_)
        refine one_ (i := 3) (N := some 32) (mk 8 15) rfl rfl (one_of HT_.out (by kernel_rfl)) (by decide) (fun K hK => ?_)
        refine goes_ Try.func66 (by kernel_rfl) rfl #[.pointer (some ⟨g, 0, none⟩), .int .i64 3] (by rfl) rfl rfl eA ?_
        with_reducible refine (spec_l1Below.calls g s0_0 x1001_2 x1002_2 3 t163 t164 t165 w0 _ ?side1 ?side2 A21.out).mono ?_
        (case side1 => exact IsS130.qHI0)
        (case side2 => exact IsS130.bHI0)
        rintro e w24 ⟨rfl, hi, hb, hk⟩
        refine ⟨_, rfl, ?_⟩
        have n0_ := Aside0.mk (IsS130.rK hk (kR HO_157000.out) (show IsS130 w0 _ g s0_0 x1001_2 x1002_2 from IsS130.qHI0))
        have n1_ := Aside0.mk (IsS130.rK hk (kR HO_157001.out) (show IsS130 w0 _ g s0_0 x1001_2 x1002_2 from IsS130.qHI0))
        have n2_ := Aside0.mk (KeepBut.blk hk (g' := gb149) (o := .cells #[.slice none 0 0, .slice none 0 0, .slice none 0 0, .slice none 0 0, .int .i64 0] 30 (0, 0)) (kB BK149.out) NB149_0.out (by simp))
        have n3_ := Aside0.mk (KeepBut.blk hk (g' := gb156) (o := .cells #[u157000, u157001, .slice none 0 0, .slice none 0 0, .int .i64 t153] 30 (0, 0)) (kB BK156.out) NB156_0.out (by simp))
        have n4_ := Aside0.mk (KeepBut.trans kK hk (.inl rfl))
        have n5_ := Aside0.mk (hb)
        have n6_ := Aside0.mk (hi)
        clear HO_157000 HO_157001 BK149 BK156 HK HB HI0
        have HO_157000 := n0_
        have HO_157001 := n1_
        have BK149 := n2_
        have BK156 := n3_
        have HK := n4_
        have HB := n5_
        have HI0 := n6_
        clear n0_ n1_ n2_ n3_ n4_ n5_ n6_
        (try clear hb)
        (try clear hb2)
        (try clear hk)
        (try clear hi)
        refine hK.out _ _ ⟨(blk_cell BK156.out 0).trans rfl, (blk_cell BK156.out 1).trans rfl, (blk_cell BK156.out 2).trans rfl, (blk_cell BK156.out 3).trans rfl, (blk_cell BK156.out 4).trans rfl⟩ (fun hHeld => ?_)
        clear hK K
        refine norm_ (a' := ?_) ?_ ?_
        rotate_left
        ·show Act.put _ (some 32) _ = _
         simp only [Act.put, List.setIfInBounds_toArray, List.set_cons_zero, List.set_cons_succ, i64_w, i32_w]
         rfl
        refine one_ (i := 4) (N := some 33) (mk 8 31) rfl rfl (one_of HT_.out (by kernel_rfl)) (by decide) (fun K hK => ?_)
        refine value_ (w1 := ?_) (v := ?_) (by rfl) rfl ?_ ?_
        rotate_left 2
        ·go_simp
         constructor
         ·rfl
         ·rfl
        refine hK.out _ _ ⟨(blk_cell (blk_alloc BK156.out _) 0).trans rfl, (blk_cell (blk_alloc BK156.out _) 1).trans rfl, (blk_cell (blk_alloc BK156.out _) 2).trans rfl, (blk_cell (blk_alloc BK156.out _) 3).trans rfl, (blk_cell (blk_alloc BK156.out _) 4).trans rfl⟩ (fun hHeld => ?_)
        clear hK K
        refine norm_ (a' := ?_) ?_ ?_
        rotate_left
        ·show Act.put _ (some 33) _ = _
         simp only [Act.put, List.setIfInBounds_toArray, List.set_cons_zero, List.set_cons_succ, i64_w, i32_w]
         rfl
        refine one_ (i := 5) (N := some 34) (mk 8 63) rfl rfl (one_of HT_.out (by kernel_rfl)) (by decide) (fun K hK => ?_)
        refine Kd.R_append_step (Kd.int .i64) w.heap.size (by rfl) (.tmp 30) (.tmp 33) 22 3 (.int .i64 0) 8 rfl Try.underlying22 info3 rfl (by decide) (by omega) u157001 x157001_2 t163 [.int .i64 t163] (fun k_ => some k_ ≠ (u157000 : Value).ownBlock) (fun _ => False) rfl rfl ?aP (fun _ hk => hk.elim) ?aF ?aO (Below.refl _ _) ?aS ?aL ?_
        (case aP => exact rfl)
        (case aF => exact (fun k_ hk => Kd.fresh' (Kd.R_lt (kR HO_157000.out)) k_ hk))
        (case aO => exact (kR HO_157001.out))
        (case aS => exact kL)
        (case aL => have := LMc22.out; omega)
        intro v167 w25 ho hb hg hat
        rw [← Ny166.out] at ho
        have n0_ := Aside0.mk (Kd.R_after (ok := (fun _ => True)) (by (with_reducible repeat (first | apply Kd.R_alloc | apply Kd.R_drewN | apply Kd.R_drew)); exact Kd.R_mono HO_157000.out (fun _ hk => ⟨trivial, hk⟩)) hg hat)
        have n1_ := Aside0.mk (blk_grown (g := gb149) (o := .cells #[.slice none 0 0, .slice none 0 0, .slice none 0 0, .slice none 0 0, .int .i64 0] 30 (0, 0)) (kB BK149.out) hg (Kd.R_ne HO_157001.out BK149.out (by decide)))
        have n2_ := Aside0.mk (blk_grown (g := gb156) (o := .cells #[u157000, u157001, .slice none 0 0, .slice none 0 0, .int .i64 t153] 30 (0, 0)) (kB BK156.out) hg (Kd.R_ne HO_157001.out BK156.out (by decide)))
        have n3_ := Aside0.mk (IsS130.grown IsS130.qHI0 hg (IsS130.own_ne HI0.out HO_157001.out (by decide)))
        have n4_ := Aside0.mk (below_weaken IsS130.bHI0 HL.out hb)
        have n5_ := Aside0.mk (KeepBut.trans kK (KeepBut.of_grown hg g) (Kd.R_base2 HO_157001.out))
        have n6_ := Aside0.mk (ho)
        clear HO_157000 BK149 BK156 HI0 HB HK HO_157001
        have HO_157000 := n0_
        have BK149 := n1_
        have BK156 := n2_
        have HI0 := n3_
        have HB := n4_
        have HK := n5_
        have HO168 := n6_
        clear n0_ n1_ n2_ n3_ n4_ n5_ n6_ ho hb hg hat
        obtain ⟨Ao26, co26, eo26⟩ := Kd.R_slice HO168.out
        (first | subst eo26 | (injection eo26 with f1_ f2_ f3_; have f4_ := f1_.symm; have f5_ := f3_.symm; clear f1_ f2_ f3_; subst f4_; subst f5_))
        refine hK.out _ _ ⟨(blk_cell BK156.out 0).trans rfl, (blk_cell BK156.out 1).trans rfl, (blk_cell BK156.out 2).trans rfl, (blk_cell BK156.out 3).trans rfl, (blk_cell BK156.out 4).trans rfl⟩ (fun hHeld => ?_)
        clear hK K
        refine norm_ (a' := ?_) ?_ ?_
        rotate_left
        ·show Act.put _ (some 34) _ = _
         simp only [Act.put, List.setIfInBounds_toArray, List.set_cons_zero, List.set_cons_succ, i64_w, i32_w]
         rfl
        refine pU HT_ 6 (some 35) (mk 8 127) rfl rfl (h := ?_)
        refine last_ (i := 7) (N := none) #[true, true, true, true, true, true, true, true] rfl rfl (one_of HT_.out (by kernel_rfl)) (by decide) (fun K hK => ?_)
        have hs27 : w25.cell? ⟨gb156, 1, none⟩ = some (u157001) := (blk_cell BK156.out 1).trans rfl
        have hfs27 := blk_frozen BK156.out 1
        have hns27_0 := NB149_156.out
        have hms27_0 := NB156_149.out
        refine skip_ (w1 := ?_) (by rfl) rfl ?_ ?_
        rotate_left
        ·go_simp
         rfl
        refine hK.out _ _ ?_
        clear hK K
        refine done_ (done_of HT_.out (by kernel_rfl)) ?_
        try go_wp2
        go_roundg k2
        case measure => have := HK1.out; have := HK2.out; omega
        case rel => exact ⟨(wrap64 (x5_2 + 1)), (t164), (t165), (y166), (.slice Ao26 y166.length co26), eX, H', ⟨by have := HK1.out; have := HK2.out; omega⟩, ⟨by (with_reducible repeat (first | apply Kd.R_alloc | apply Kd.R_drewN | apply Kd.R_drew)); exact Kd.R_mono (Kd.R_far (p := ⟨gb156, 1, none⟩) (Kd.R_types HO_157000.out BK156.out (by decide)) (fun _ hk => hk.2) (.slice Ao26 y166.length co26)) (fun _ hk => hk.1.2)⟩, ⟨by (with_reducible repeat (first | apply Kd.R_alloc | apply Kd.R_drewN | apply Kd.R_drew)); exact Kd.R_mono (Kd.R_far (p := ⟨gb156, 1, none⟩) (Kd.R_types HO168.out BK156.out (by decide)) (fun _ hk => hk.2) (.slice Ao26 y166.length co26)) (fun _ hk => hk.1)⟩, ⟨by (with_reducible repeat (first | refine blk_drewN ?_ _ | refine blk_drew ?_ | refine blk_alloc ?_ _)); refine blk_far ?_ NB149_156.out _; (with_reducible repeat (first | refine blk_drewN ?_ _ | refine blk_drew ?_ | refine blk_alloc ?_ _)); exact BK149.out⟩, ⟨by (with_reducible repeat (first | refine blk_drewN ?_ _ | refine blk_drew ?_ | refine blk_alloc ?_ _)); refine blk_put (cs := #[u157000, u157001, .slice none 0 0, .slice none 0 0, .int .i64 t153]) ?_ 1 _ rfl; (with_reducible repeat (first | refine blk_drewN ?_ _ | refine blk_drew ?_ | refine blk_alloc ?_ _)); exact BK156.out⟩, ⟨IsS130.qHI0⟩, ⟨by repeat (first | (with_reducible first | exact HK.out | apply KeepBut.set_ | apply keep_drewN | apply keep_drew | apply keep_alloc | refine keep_far ?_ GW149.out _ | refine keep_far ?_ GW156.out _) | exact HK.out)⟩, ⟨IsS130.bHI0⟩⟩
       ·rw [if_neg c22] at H
        exact absurd H (by simp)
      ·rw [if_neg c20] at H
       have c20b0 : decide (x5_2 < 3) = false := decide_eq_false c20
       clear c20
       have H' := Aside0.mk H
       clear H
       go_wp2
       go_loopg [6] k2 (fun kq v6 w' => ∃ (x6_3 : Int) (x1001_3 : Int) (x1002_3 : Int) (x157002_3 : List (S42)) (u157002 : Value), v6 = .int .i64 x6_3 ∧ Aside0 (spec_l6Config.l2 kq x6_3 s0_0 x1001_3 x1002_3 x157000_1 x157001_2 x157002_3 t153 = some (r1, r2, r3, r4, r5, r6, r7)) ∧ Aside0 (kq ≤ k2) ∧ Aside0 (Kd.R (Kd.int .i64) 3 w' w.heap.size (fun k_ => some k_ ≠ (u157001 : Value).ownBlock) u157000 x157000_1) ∧ Aside0 (Kd.R (Kd.int .i64) 3 w' w.heap.size (fun k_ => some k_ ≠ (u157000 : Value).ownBlock) u157001 x157001_2) ∧ Aside0 (Kd.R k42 42 w' w.heap.size (fun _ => True) u157002 x157002_3) ∧ Aside0 (w'.heap[gb149]? = some (.cells #[(.slice none 0 0), (.slice none 0 0), (.slice none 0 0), (.slice none 0 0), .int .i64 0] 30 (0, 0))) ∧ Aside0 (w'.heap[gb156]? = some (.cells #[u157000, u157001, u157002, (.slice none 0 0), .int .i64 t153] 30 (0, 0))) ∧ Aside0 (IsS130 w0 w' g s0_0 x1001_3 x1002_3) ∧ Aside0 (KeepBut w w' g none) ∧ Aside0 (Below w0.heap.size w0 w'))
       case atStart => exact ⟨(0), (x1001_2), (x1002_2), (([] : List (S42))), (.slice none 0 0), eX, H', ⟨Nat.le_refl _⟩, ⟨by (with_reducible repeat (first | apply Kd.R_alloc | apply Kd.R_drewN | apply Kd.R_drew)); exact HO_157000.out⟩, ⟨by (with_reducible repeat (first | apply Kd.R_alloc | apply Kd.R_drewN | apply Kd.R_drew)); exact HO_157001.out⟩, ⟨by first | exact Kd.R_nil _ _ _ _ _ | exact Kd.N_nil _ _ _ _ _ | exact Kd.V_nil _ _ _ _ _ | exact Kd.Q_nil _ _ _ _ _ | exact Kd.S_nil _ _ _ _ _⟩, ⟨by (with_reducible repeat (first | refine blk_drewN ?_ _ | refine blk_drew ?_ | refine blk_alloc ?_ _)); exact BK149.out⟩, ⟨by (with_reducible repeat (first | refine blk_drewN ?_ _ | refine blk_drew ?_ | refine blk_alloc ?_ _)); exact BK156.out⟩, ⟨IsS130.qHI0⟩, ⟨by repeat (first | (with_reducible first | exact HK.out | apply KeepBut.set_ | apply keep_drewN | apply keep_drew | apply keep_alloc | refine keep_far ?_ GW149.out _ | refine keep_far ?_ GW156.out _) | exact HK.out)⟩, ⟨IsS130.bHI0⟩⟩
       case round =>
        clear H'
        try clear c1
        try clear c2
        try clear p2
        try clear c6
        try clear p6
        try clear c9
        try clear c10
        try clear c12
        try clear c12b0
        try clear c14
        try clear c20
        try clear c20b0
        try clear c22
        try clear hcz11_0
        try clear hcz11_1
        try clear hcz11_2
        try clear hcz11_3
        try clear hcz11_4
        try clear hfz11_0
        try clear hfz11_1
        try clear hfz11_2
        try clear hfz11_3
        try clear hfz11_4
        try clear p2
        try clear p6
        obtain ⟨x6_3, x1001_3, x1002_3, x157002_3, u157002, rfl, HA, HK3, HO_157000, HO_157001, HO_157002, BK149, BK156, HI0, HK, HB⟩ := hrel
        cases gk with
        | zero => exact absurd HA.out (by simp [spec_l6Config.l2])
        | succ k3 =>
         have H := HA.out
         clear HA
         simp only [spec_l6Config.l2] at H
         by_cases c28 : x6_3 < 3
         ·rw [if_pos c28] at H
          have c28b0 : decide (x6_3 < 3) = true := decide_eq_true c28
          clear c28
          have H' := Aside0.mk H
          clear H
          go_wp2
          go_loopg [7] k3 (fun kq v7 w' => ∃ (x7_4 : Int) (x1001_4 : Int) (x1002_4 : Int) (x157002_4 : List (S42)) (u157002 : Value), v7 = .int .i64 x7_4 ∧ Aside0 (spec_l6Config.l3 kq x6_3 x7_4 s0_0 x1001_4 x1002_4 x157000_1 x157001_2 x157002_4 t153 = some (r1, r2, r3, r4, r5, r6, r7)) ∧ Aside0 (kq ≤ k3) ∧ Aside0 (Kd.R (Kd.int .i64) 3 w' w.heap.size (fun k_ => some k_ ≠ (u157001 : Value).ownBlock) u157000 x157000_1) ∧ Aside0 (Kd.R (Kd.int .i64) 3 w' w.heap.size (fun k_ => some k_ ≠ (u157000 : Value).ownBlock) u157001 x157001_2) ∧ Aside0 (Kd.R k42 42 w' w.heap.size (fun _ => True) u157002 x157002_4) ∧ Aside0 (w'.heap[gb149]? = some (.cells #[(.slice none 0 0), (.slice none 0 0), (.slice none 0 0), (.slice none 0 0), .int .i64 0] 30 (0, 0))) ∧ Aside0 (w'.heap[gb156]? = some (.cells #[u157000, u157001, u157002, (.slice none 0 0), .int .i64 t153] 30 (0, 0))) ∧ Aside0 (IsS130 w0 w' g s0_0 x1001_4 x1002_4) ∧ Aside0 (KeepBut w w' g none) ∧ Aside0 (Below w0.heap.size w0 w'))
          case atStart => exact ⟨(0), (x1001_3), (x1002_3), (x157002_3), (u157002), eX, H', ⟨Nat.le_refl _⟩, ⟨by (with_reducible repeat (first | apply Kd.R_alloc | apply Kd.R_drewN | apply Kd.R_drew)); exact HO_157000.out⟩, ⟨by (with_reducible repeat (first | apply Kd.R_alloc | apply Kd.R_drewN | apply Kd.R_drew)); exact HO_157001.out⟩, ⟨by (with_reducible repeat (first | apply Kd.R_alloc | apply Kd.R_drewN | apply Kd.R_drew)); exact HO_157002.out⟩, ⟨by (with_reducible repeat (first | refine blk_drewN ?_ _ | refine blk_drew ?_ | refine blk_alloc ?_ _)); exact BK149.out⟩, ⟨by (with_reducible repeat (first | refine blk_drewN ?_ _ | refine blk_drew ?_ | refine blk_alloc ?_ _)); exact BK156.out⟩, ⟨IsS130.qHI0⟩, ⟨by repeat (first | (with_reducible first | exact HK.out | apply KeepBut.set_ | apply keep_drewN | apply keep_drew | apply keep_alloc | refine keep_far ?_ GW149.out _ | refine keep_far ?_ GW156.out _) | exact HK.out)⟩, ⟨IsS130.bHI0⟩⟩
          case round =>
           clear H'
           try clear c1
           try clear c2
           try clear p2
           try clear c6
           try clear p6
           try clear c9
           try clear c10
           try clear c12
           try clear c12b0
           try clear c14
           try clear c20
           try clear c20b0
           try clear c22
           try clear c28
           try clear c28b0
           try clear hcz11_0
           try clear hcz11_1
           try clear hcz11_2
           try clear hcz11_3
           try clear hcz11_4
           try clear hfz11_0
           try clear hfz11_1
           try clear hfz11_2
           try clear hfz11_3
           try clear hfz11_4
           try clear p2
           try clear p6
           obtain ⟨x7_4, x1001_4, x1002_4, x157002_4, u157002, rfl, HA, HK4, HO_157000, HO_157001, HO_157002, BK149, BK156, HI0, HK, HB⟩ := hrel
           cases gk with
           | zero => exact absurd HA.out (by simp [spec_l6Config.l3])
           | succ k4 =>
            have H := HA.out
            clear HA
            simp only [spec_l6Config.l3] at H
            by_cases c29 : x7_4 < 3
            ·rw [if_pos c29] at H
             have c29b0 : decide (x7_4 < 3) = true := decide_eq_true c29
             clear c29
             by_cases c30 : x6_3 = x7_4
             ·rw [if_pos c30] at H
              have c30b0 : (x6_3 == x7_4) = true := beq_iff_eq.mpr c30
              have c30b1 : (x6_3 != x7_4) = false := bne_eq_false_iff_eq.mpr c30
              clear c30
              have H' := Aside0.mk H
              clear H
              go_wp2
              go_roundg k4
              case measure => have := HK1.out; have := HK2.out; have := HK3.out; have := HK4.out; omega
              case rel => exact ⟨(wrap64 (x7_4 + 1)), (x1001_4), (x1002_4), (x157002_4), (u157002), eX, H', ⟨by have := HK1.out; have := HK2.out; have := HK3.out; have := HK4.out; omega⟩, ⟨by (with_reducible repeat (first | apply Kd.R_alloc | apply Kd.R_drewN | apply Kd.R_drew)); exact HO_157000.out⟩, ⟨by (with_reducible repeat (first | apply Kd.R_alloc | apply Kd.R_drewN | apply Kd.R_drew)); exact HO_157001.out⟩, ⟨by (with_reducible repeat (first | apply Kd.R_alloc | apply Kd.R_drewN | apply Kd.R_drew)); exact HO_157002.out⟩, ⟨by (with_reducible repeat (first | refine blk_drewN ?_ _ | refine blk_drew ?_ | refine blk_alloc ?_ _)); exact BK149.out⟩, ⟨by (with_reducible repeat (first | refine blk_drewN ?_ _ | refine blk_drew ?_ | refine blk_alloc ?_ _)); exact BK156.out⟩, ⟨IsS130.qHI0⟩, ⟨by repeat (first | (with_reducible first | exact HK.out | apply KeepBut.set_ | apply keep_drewN | apply keep_drew | apply keep_alloc | refine keep_far ?_ GW149.out _ | refine keep_far ?_ GW156.out _) | exact HK.out)⟩, ⟨IsS130.bHI0⟩⟩
             ·rw [if_neg c30] at H
              have c30b0 : (x6_3 == x7_4) = false := beq_eq_false_iff_ne.mpr c30
              have c30b1 : (x6_3 != x7_4) = true := bne_iff_ne.mpr c30
              replace H := Option.bind_eq_some_iff.mp H
              obtain ⟨⟨t169, t170, t171⟩, A310, H⟩ := H
              replace H : (if t169 = true then (spec_l6Config.l3 k4 x6_3 (wrap64 (x7_4 + 1)) s0_0 t170 t171 x157000_1 x157001_2 x157002_4 t153) else (if x157002_4.length < 8796093022208 then (spec_l6Config.l3 k4 x6_3 (wrap64 (x7_4 + 1)) s0_0 t170 t171 x157000_1 x157001_2 (x157002_4 ++ [(⟨x6_3, x7_4⟩ : S42)]) t153) else (none))) = some (r1, r2, r3, r4, r5, r6, r7) := H
              have A31 := Aside0.mk A310
              clear A310
              by_cases c32 : t169 = true
              ·subst c32
               have H1 : (spec_l6Config.l3 k4 x6_3 (wrap64 (x7_4 + 1)) s0_0 t170 t171 x157000_1 x157001_2 x157002_4 t153) = some (r1, r2, r3, r4, r5, r6, r7) := by rw [if_pos rfl] at H; exact H
               clear H
               have H := H1
               clear H1
               have H' := Aside0.mk H
               clear H
               go_wp2_with (first | (go_at_call 65; (with_reducible refine (spec_l1Once.calls g s0_0 x1001_4 x1002_4 3 true t170 t171 w0 _ ?side1 ?side2 A31.out).mono ?_); (case side1 => exact IsS130.qHI0); (case side2 => exact IsS130.bHI0); rintro e w33 ⟨rfl, hi, hb, hk⟩; have n0_ := Aside0.mk (IsS130.rK hk (kR HO_157000.out) (show IsS130 w0 _ g s0_0 x1001_4 x1002_4 from IsS130.qHI0)); have n1_ := Aside0.mk (IsS130.rK hk (kR HO_157001.out) (show IsS130 w0 _ g s0_0 x1001_4 x1002_4 from IsS130.qHI0)); have n2_ := Aside0.mk (IsS130.rK hk (kR HO_157002.out) (show IsS130 w0 _ g s0_0 x1001_4 x1002_4 from IsS130.qHI0)); have n3_ := Aside0.mk (KeepBut.blk hk (g' := gb149) (o := .cells #[.slice none 0 0, .slice none 0 0, .slice none 0 0, .slice none 0 0, .int .i64 0] 30 (0, 0)) (kB BK149.out) NB149_0.out (by simp)); have n4_ := Aside0.mk (KeepBut.blk hk (g' := gb156) (o := .cells #[u157000, u157001, u157002, .slice none 0 0, .int .i64 t153] 30 (0, 0)) (kB BK156.out) NB156_0.out (by simp)); have n5_ := Aside0.mk (KeepBut.trans kK hk (.inl rfl)); have n6_ := Aside0.mk (hb); have n7_ := Aside0.mk (hi); clear HO_157000; clear HO_157001; clear HO_157002; clear BK149; clear BK156; clear HK; clear HB; clear HI0; have HO_157000 := n0_; have HO_157001 := n1_; have HO_157002 := n2_; have BK149 := n3_; have BK156 := n4_; have HK := n5_; have HB := n6_; have HI0 := n7_; clear n0_ n1_ n2_ n3_ n4_ n5_ n6_ n7_; (try clear hb); (try clear hb2); (try clear hk); (try clear hi)))
               go_roundg k4
               case measure => have := HK1.out; have := HK2.out; have := HK3.out; have := HK4.out; omega
               case rel => exact ⟨(wrap64 (x7_4 + 1)), (t170), (t171), (x157002_4), (u157002), eX, H', ⟨by have := HK1.out; have := HK2.out; have := HK3.out; have := HK4.out; omega⟩, ⟨by (with_reducible repeat (first | apply Kd.R_alloc | apply Kd.R_drewN | apply Kd.R_drew)); exact HO_157000.out⟩, ⟨by (with_reducible repeat (first | apply Kd.R_alloc | apply Kd.R_drewN | apply Kd.R_drew)); exact HO_157001.out⟩, ⟨by (with_reducible repeat (first | apply Kd.R_alloc | apply Kd.R_drewN | apply Kd.R_drew)); exact HO_157002.out⟩, ⟨by (with_reducible repeat (first | refine blk_drewN ?_ _ | refine blk_drew ?_ | refine blk_alloc ?_ _)); exact BK149.out⟩, ⟨by (with_reducible repeat (first | refine blk_drewN ?_ _ | refine blk_drew ?_ | refine blk_alloc ?_ _)); exact BK156.out⟩, ⟨IsS130.qHI0⟩, ⟨by repeat (first | (with_reducible first | exact HK.out | apply KeepBut.set_ | apply keep_drewN | apply keep_drew | apply keep_alloc | refine keep_far ?_ GW149.out _ | refine keep_far ?_ GW156.out _) | exact HK.out)⟩, ⟨IsS130.bHI0⟩⟩
              ·replace c32 := Bool.eq_false_iff.mpr c32
               subst c32
               have H1 : (if x157002_4.length < 8796093022208 then (spec_l6Config.l3 k4 x6_3 (wrap64 (x7_4 + 1)) s0_0 t170 t171 x157000_1 x157001_2 (x157002_4 ++ [(⟨x6_3, x7_4⟩ : S42)]) t153) else (none)) = some (r1, r2, r3, r4, r5, r6, r7) := by rw [if_neg (show ¬ (false = true) by decide)] at H; exact H
               clear H
               have H := H1
               clear H1
               by_cases c34 : x157002_4.length < 8796093022208
               ·rw [if_pos c34] at H
                have LMc34 := Aside0.mk c34
                clear c34
                obtain ⟨y172, hy172⟩ : ∃ y_ : List (S42), y_ = (x157002_4 ++ [(⟨x6_3, x7_4⟩ : S42)]) := ⟨_, rfl⟩
                replace H : (spec_l6Config.l3 k4 x6_3 (wrap64 (x7_4 + 1)) s0_0 t170 t171 x157000_1 x157001_2 y172 t153) = some (r1, r2, r3, r4, r5, r6, r7) := by first | (rw [hy172]; with_reducible exact H) | (have H2_ := (Option.bind_some _ _).symm.trans H; rw [hy172]; with_reducible exact H2_) | (have H2_ := (Option.bind_some _ _).symm.trans H; with_reducible exact H2_) | with_reducible exact H | (rw [hy172]; exact H) | exact H
                have Ny172 := Aside0.mk hy172
                clear hy172
                have H' := Aside0.mk H
                clear H
                go_wp2_with (first | (go_at_call 65; (with_reducible refine (spec_l1Once.calls g s0_0 x1001_4 x1002_4 3 false t170 t171 w0 _ ?side1 ?side2 A31.out).mono ?_); (case side1 => exact IsS130.qHI0); (case side2 => exact IsS130.bHI0); rintro e w35 ⟨rfl, hi, hb, hk⟩; have n0_ := Aside0.mk (IsS130.rK hk (kR HO_157000.out) (show IsS130 w0 _ g s0_0 x1001_4 x1002_4 from IsS130.qHI0)); have n1_ := Aside0.mk (IsS130.rK hk (kR HO_157001.out) (show IsS130 w0 _ g s0_0 x1001_4 x1002_4 from IsS130.qHI0)); have n2_ := Aside0.mk (IsS130.rK hk (kR HO_157002.out) (show IsS130 w0 _ g s0_0 x1001_4 x1002_4 from IsS130.qHI0)); have n3_ := Aside0.mk (KeepBut.blk hk (g' := gb149) (o := .cells #[.slice none 0 0, .slice none 0 0, .slice none 0 0, .slice none 0 0, .int .i64 0] 30 (0, 0)) (kB BK149.out) NB149_0.out (by simp)); have n4_ := Aside0.mk (KeepBut.blk hk (g' := gb156) (o := .cells #[u157000, u157001, u157002, .slice none 0 0, .int .i64 t153] 30 (0, 0)) (kB BK156.out) NB156_0.out (by simp)); have n5_ := Aside0.mk (KeepBut.trans kK hk (.inl rfl)); have n6_ := Aside0.mk (hb); have n7_ := Aside0.mk (hi); clear HO_157000; clear HO_157001; clear HO_157002; clear BK149; clear BK156; clear HK; clear HB; clear HI0; have HO_157000 := n0_; have HO_157001 := n1_; have HO_157002 := n2_; have BK149 := n3_; have BK156 := n4_; have HK := n5_; have HB := n6_; have HI0 := n7_; clear n0_ n1_ n2_ n3_ n4_ n5_ n6_ n7_; (try clear hb); (try clear hb2); (try clear hk); (try clear hi); have hnb36 := NB156_149.out; have hnc36 := NB149_156.out; have hnb37 := NB156_0.out; have hnc37 := NB0_156.out; have hcz38_0 : w35.cell? ⟨gb156, 0, none⟩ = some (u157000) := (blk_cell BK156.out 0).trans rfl; have hcz38_1 : w35.cell? ⟨gb156, 1, none⟩ = some (u157001) := (blk_cell BK156.out 1).trans rfl; have hcz38_2 : w35.cell? ⟨gb156, 2, none⟩ = some (u157002) := (blk_cell BK156.out 2).trans rfl; have hcz38_3 : w35.cell? ⟨gb156, 3, none⟩ = some (.slice none 0 0) := (blk_cell BK156.out 3).trans rfl; have hcz38_4 : w35.cell? ⟨gb156, 4, none⟩ = some (.int .i64 t153) := (blk_cell BK156.out 4).trans rfl; have hfz38_0 := blk_frozen BK156.out 0; have hfz38_1 := blk_frozen BK156.out 1; have hfz38_2 := blk_frozen BK156.out 2; have hfz38_3 := blk_frozen BK156.out 3; have hfz38_4 := blk_frozen BK156.out 4) | ((with_reducible refine gate_builtin (b := .append) (xs := #[.tmp 53, .tmp 57]) rfl ?_); at_builtin; refine Kd.R_append k42 w.heap.size rfl (.tmp 53) (.tmp 57) 28 42 (.agg #[(.int .i64 0), (.int .i64 0)]) 16 rfl Try.underlying28 info42 rfl (by decide) (by omega) u157002 x157002_4 (⟨x6_3, x7_4⟩ : S42) [.int .i64 x6_3, .int .i64 x7_4] (fun _ => True) (fun _ => False) rfl rfl ?aP (fun _ hk => hk.elim) ?aF ?aO (Below.refl _ _) ?aS ?aL ?_; (case aP => exact k42_mkM _ _ _ (⟨x6_3, x7_4⟩ : S42)); (case aF => exact (fun _ _ => trivial)); (case aO => exact (kR HO_157002.out)); (case aS => exact kL); (case aL => have := LMc34.out; omega); intro v173 w39 ho hb hg hat; rw [← Ny172.out] at ho; have n0_ := Aside0.mk (Kd.R_over' (kR HO_157000.out) (Kd.R_typed (kR HO_157002.out)) (by decide) hg); have n1_ := Aside0.mk (Kd.R_over' (kR HO_157001.out) (Kd.R_typed (kR HO_157002.out)) (by decide) hg); have n2_ := Aside0.mk (blk_grown (g := gb149) (o := .cells #[.slice none 0 0, .slice none 0 0, .slice none 0 0, .slice none 0 0, .int .i64 0] 30 (0, 0)) (kB BK149.out) hg (Kd.R_ne HO_157002.out BK149.out (by decide))); have n3_ := Aside0.mk (blk_grown (g := gb156) (o := .cells #[u157000, u157001, u157002, .slice none 0 0, .int .i64 t153] 30 (0, 0)) (kB BK156.out) hg (Kd.R_ne HO_157002.out BK156.out (by decide))); have n4_ := Aside0.mk (IsS130.grown IsS130.qHI0 hg (IsS130.own_ne HI0.out HO_157002.out (by decide))); have n5_ := Aside0.mk (below_weaken IsS130.bHI0 HL.out hb); have n6_ := Aside0.mk (KeepBut.trans kK (KeepBut.of_grown hg g) (Kd.R_base2 HO_157002.out)); have n7_ := Aside0.mk (ho); clear HO_157000; clear HO_157001; clear BK149; clear BK156; clear HI0; clear HB; clear HK; clear HO_157002; have HO_157000 := n0_; have HO_157001 := n1_; have BK149 := n2_; have BK156 := n3_; have HI0 := n4_; have HB := n5_; have HK := n6_; have HO174 := n7_; clear n0_ n1_ n2_ n3_ n4_ n5_ n6_ n7_; clear ho hb hg hat; obtain ⟨Ao40, co40, eo40⟩ := Kd.R_slice HO174.out; subst eo40; have hcz41_0 : w39.cell? ⟨gb156, 0, none⟩ = some (u157000) := (blk_cell BK156.out 0).trans rfl; have hcz41_1 : w39.cell? ⟨gb156, 1, none⟩ = some (u157001) := (blk_cell BK156.out 1).trans rfl; have hcz41_2 : w39.cell? ⟨gb156, 2, none⟩ = some (u157002) := (blk_cell BK156.out 2).trans rfl; have hcz41_3 : w39.cell? ⟨gb156, 3, none⟩ = some (.slice none 0 0) := (blk_cell BK156.out 3).trans rfl; have hcz41_4 : w39.cell? ⟨gb156, 4, none⟩ = some (.int .i64 t153) := (blk_cell BK156.out 4).trans rfl; have hfz41_0 := blk_frozen BK156.out 0; have hfz41_1 := blk_frozen BK156.out 1; have hfz41_2 := blk_frozen BK156.out 2; have hfz41_3 := blk_frozen BK156.out 3; have hfz41_4 := blk_frozen BK156.out 4))
                go_roundg k4
                case measure => have := HK1.out; have := HK2.out; have := HK3.out; have := HK4.out; omega
                case rel => exact ⟨(wrap64 (x7_4 + 1)), (t170), (t171), (y172), (.slice Ao40 y172.length co40), eX, H', ⟨by have := HK1.out; have := HK2.out; have := HK3.out; have := HK4.out; omega⟩, ⟨by (with_reducible repeat (first | apply Kd.R_alloc | apply Kd.R_drewN | apply Kd.R_drew)); exact Kd.R_mono (Kd.R_far (p := ⟨gb156, 2, none⟩) (Kd.R_types HO_157000.out BK156.out (by decide)) (fun _ hk => hk.2) (.slice Ao40 y172.length co40)) (fun _ hk => hk.1)⟩, ⟨by (with_reducible repeat (first | apply Kd.R_alloc | apply Kd.R_drewN | apply Kd.R_drew)); exact Kd.R_mono (Kd.R_far (p := ⟨gb156, 2, none⟩) (Kd.R_types HO_157001.out BK156.out (by decide)) (fun _ hk => hk.2) (.slice Ao40 y172.length co40)) (fun _ hk => hk.1)⟩, ⟨by (with_reducible repeat (first | apply Kd.R_alloc | apply Kd.R_drewN | apply Kd.R_drew)); exact Kd.R_mono (Kd.R_far (p := ⟨gb156, 2, none⟩) (Kd.R_types HO174.out BK156.out (by decide)) (fun _ hk => hk.2) (.slice Ao40 y172.length co40)) (fun _ hk => trivial)⟩, ⟨by (with_reducible repeat (first | refine blk_drewN ?_ _ | refine blk_drew ?_ | refine blk_alloc ?_ _)); refine blk_far ?_ NB149_156.out _; (with_reducible repeat (first | refine blk_drewN ?_ _ | refine blk_drew ?_ | refine blk_alloc ?_ _)); exact BK149.out⟩, ⟨by (with_reducible repeat (first | refine blk_drewN ?_ _ | refine blk_drew ?_ | refine blk_alloc ?_ _)); refine blk_put (cs := #[u157000, u157001, u157002, .slice none 0 0, .int .i64 t153]) ?_ 2 _ rfl; (with_reducible repeat (first | refine blk_drewN ?_ _ | refine blk_drew ?_ | refine blk_alloc ?_ _)); exact BK156.out⟩, ⟨IsS130.qHI0⟩, ⟨by repeat (first | (with_reducible first | exact HK.out | apply KeepBut.set_ | apply keep_drewN | apply keep_drew | apply keep_alloc | refine keep_far ?_ GW149.out _ | refine keep_far ?_ GW156.out _) | exact HK.out)⟩, ⟨IsS130.bHI0⟩⟩
               ·rw [if_neg c34] at H
                exact absurd H (by simp)
            ·rw [if_neg c29] at H
             have c29b0 : decide (x7_4 < 3) = false := decide_eq_false c29
             clear c29
             have H' := Aside0.mk H
             clear H
             go_wp2
             go_roundg k4
             case measure => have := HK1.out; have := HK2.out; have := HK3.out; have := HK4.out; omega
             case rel => exact ⟨(wrap64 (x6_3 + 1)), (x1001_4), (x1002_4), (x157002_4), (u157002), eX, H', ⟨by have := HK1.out; have := HK2.out; have := HK3.out; have := HK4.out; omega⟩, ⟨by (with_reducible repeat (first | apply Kd.R_alloc | apply Kd.R_drewN | apply Kd.R_drew)); exact HO_157000.out⟩, ⟨by (with_reducible repeat (first | apply Kd.R_alloc | apply Kd.R_drewN | apply Kd.R_drew)); exact HO_157001.out⟩, ⟨by (with_reducible repeat (first | apply Kd.R_alloc | apply Kd.R_drewN | apply Kd.R_drew)); exact HO_157002.out⟩, ⟨by (with_reducible repeat (first | refine blk_drewN ?_ _ | refine blk_drew ?_ | refine blk_alloc ?_ _)); exact BK149.out⟩, ⟨by (with_reducible repeat (first | refine blk_drewN ?_ _ | refine blk_drew ?_ | refine blk_alloc ?_ _)); exact BK156.out⟩, ⟨IsS130.qHI0⟩, ⟨by repeat (first | (with_reducible first | exact HK.out | apply KeepBut.set_ | apply keep_drewN | apply keep_drew | apply keep_alloc | refine keep_far ?_ GW149.out _ | refine keep_far ?_ GW156.out _) | exact HK.out)⟩, ⟨IsS130.bHI0⟩⟩
         ·rw [if_neg c28] at H
          have c28b0 : decide (x6_3 < 3) = false := decide_eq_false c28
          clear c28
          have H' := Aside0.mk H
          clear H
          go_wp2
          go_loopg [8] k3 (fun kq v8 w' => ∃ (x8_4 : Int) (x1001_4 : Int) (x1002_4 : Int) (x157003_4 : List (S42)) (u157003 : Value), v8 = .int .i64 x8_4 ∧ Aside0 (spec_l6Config.l4 kq x8_4 s0_0 x1001_4 x1002_4 x157000_1 x157001_2 x157002_3 x157003_4 t153 = some (r1, r2, r3, r4, r5, r6, r7)) ∧ Aside0 (kq ≤ k3) ∧ Aside0 (Kd.R (Kd.int .i64) 3 w' w.heap.size (fun k_ => some k_ ≠ (u157001 : Value).ownBlock) u157000 x157000_1) ∧ Aside0 (Kd.R (Kd.int .i64) 3 w' w.heap.size (fun k_ => some k_ ≠ (u157000 : Value).ownBlock) u157001 x157001_2) ∧ Aside0 (Kd.R k42 42 w' w.heap.size (fun k_ => some k_ ≠ (u157003 : Value).ownBlock) u157002 x157002_3) ∧ Aside0 (Kd.R k42 42 w' w.heap.size (fun k_ => some k_ ≠ (u157002 : Value).ownBlock) u157003 x157003_4) ∧ Aside0 (w'.heap[gb149]? = some (.cells #[(.slice none 0 0), (.slice none 0 0), (.slice none 0 0), (.slice none 0 0), .int .i64 0] 30 (0, 0))) ∧ Aside0 (w'.heap[gb156]? = some (.cells #[u157000, u157001, u157002, u157003, .int .i64 t153] 30 (0, 0))) ∧ Aside0 (IsS130 w0 w' g s0_0 x1001_4 x1002_4) ∧ Aside0 (KeepBut w w' g none) ∧ Aside0 (Below w0.heap.size w0 w'))
          case atStart => exact ⟨(0), (x1001_3), (x1002_3), (([] : List (S42))), (.slice none 0 0), eX, H', ⟨Nat.le_refl _⟩, ⟨by (with_reducible repeat (first | apply Kd.R_alloc | apply Kd.R_drewN | apply Kd.R_drew)); exact HO_157000.out⟩, ⟨by (with_reducible repeat (first | apply Kd.R_alloc | apply Kd.R_drewN | apply Kd.R_drew)); exact HO_157001.out⟩, ⟨by (with_reducible repeat (first | apply Kd.R_alloc | apply Kd.R_drewN | apply Kd.R_drew)); exact Kd.R_mono HO_157002.out (fun _ hk => (by simp [Value.ownBlock]))⟩, ⟨by first | exact Kd.R_nil _ _ _ _ _ | exact Kd.N_nil _ _ _ _ _ | exact Kd.V_nil _ _ _ _ _ | exact Kd.Q_nil _ _ _ _ _ | exact Kd.S_nil _ _ _ _ _⟩, ⟨by (with_reducible repeat (first | refine blk_drewN ?_ _ | refine blk_drew ?_ | refine blk_alloc ?_ _)); exact BK149.out⟩, ⟨by (with_reducible repeat (first | refine blk_drewN ?_ _ | refine blk_drew ?_ | refine blk_alloc ?_ _)); exact BK156.out⟩, ⟨IsS130.qHI0⟩, ⟨by repeat (first | (with_reducible first | exact HK.out | apply KeepBut.set_ | apply keep_drewN | apply keep_drew | apply keep_alloc | refine keep_far ?_ GW149.out _ | refine keep_far ?_ GW156.out _) | exact HK.out)⟩, ⟨IsS130.bHI0⟩⟩
          case round =>
           clear H'
           try clear c1
           try clear c2
           try clear p2
           try clear c3
           try clear c6
           try clear p6
           try clear c9
           try clear c10
           try clear c12
           try clear c12b0
           try clear c14
           try clear c20
           try clear c20b0
           try clear c22
           try clear c28
           try clear c28b0
           try clear c29
           try clear c29b0
           try clear c30
           try clear c30b0
           try clear c30b1
           try clear c32
           try clear c34
           try clear c36
           try clear c37
           try clear hcz11_0
           try clear hcz11_1
           try clear hcz11_2
           try clear hcz11_3
           try clear hcz11_4
           try clear hcz38_0
           try clear hcz38_1
           try clear hcz38_2
           try clear hcz38_3
           try clear hcz38_4
           try clear hcz41_0
           try clear hcz41_1
           try clear hcz41_2
           try clear hcz41_3
           try clear hcz41_4
           try clear hfz11_0
           try clear hfz11_1
           try clear hfz11_2
           try clear hfz11_3
           try clear hfz11_4
           try clear hfz38_0
           try clear hfz38_1
           try clear hfz38_2
           try clear hfz38_3
           try clear hfz38_4
           try clear hfz41_0
           try clear hfz41_1
           try clear hfz41_2
           try clear hfz41_3
           try clear hfz41_4
           try clear p2
           try clear p6
           obtain ⟨x8_4, x1001_4, x1002_4, x157003_4, u157003, rfl, HA, HK4, HO_157000, HO_157001, HO_157002, HO_157003, BK149, BK156, HI0, HK, HB⟩ := hrel
           cases gk with
           | zero => exact absurd HA.out (by simp [spec_l6Config.l4])
           | succ k4 =>
            have H := HA.out
            clear HA
            simp only [spec_l6Config.l4] at H
            by_cases c42 : x8_4 < 3
            ·rw [if_pos c42] at H
             have c42b0 : decide (x8_4 < 3) = true := decide_eq_true c42
             clear c42
             have H' := Aside0.mk H
             clear H
             go_wp2
             go_loopg [9] k4 (fun kq v9 w' => ∃ (x9_5 : Int) (x1001_5 : Int) (x1002_5 : Int) (x157003_5 : List (S42)) (u157003 : Value), v9 = .int .i64 x9_5 ∧ Aside0 (spec_l6Config.l5 kq x8_4 x9_5 s0_0 x1001_5 x1002_5 x157000_1 x157001_2 x157002_3 x157003_5 t153 = some (r1, r2, r3, r4, r5, r6, r7)) ∧ Aside0 (kq ≤ k4) ∧ Aside0 (Kd.R (Kd.int .i64) 3 w' w.heap.size (fun k_ => some k_ ≠ (u157001 : Value).ownBlock) u157000 x157000_1) ∧ Aside0 (Kd.R (Kd.int .i64) 3 w' w.heap.size (fun k_ => some k_ ≠ (u157000 : Value).ownBlock) u157001 x157001_2) ∧ Aside0 (Kd.R k42 42 w' w.heap.size (fun k_ => some k_ ≠ (u157003 : Value).ownBlock) u157002 x157002_3) ∧ Aside0 (Kd.R k42 42 w' w.heap.size (fun k_ => some k_ ≠ (u157002 : Value).ownBlock) u157003 x157003_5) ∧ Aside0 (w'.heap[gb149]? = some (.cells #[(.slice none 0 0), (.slice none 0 0), (.slice none 0 0), (.slice none 0 0), .int .i64 0] 30 (0, 0))) ∧ Aside0 (w'.heap[gb156]? = some (.cells #[u157000, u157001, u157002, u157003, .int .i64 t153] 30 (0, 0))) ∧ Aside0 (IsS130 w0 w' g s0_0 x1001_5 x1002_5) ∧ Aside0 (KeepBut w w' g none) ∧ Aside0 (Below w0.heap.size w0 w'))
             case atStart => exact ⟨(0), (x1001_4), (x1002_4), (x157003_4), (u157003), eX, H', ⟨Nat.le_refl _⟩, ⟨by (with_reducible repeat (first | apply Kd.R_alloc | apply Kd.R_drewN | apply Kd.R_drew)); exact HO_157000.out⟩, ⟨by (with_reducible repeat (first | apply Kd.R_alloc | apply Kd.R_drewN | apply Kd.R_drew)); exact HO_157001.out⟩, ⟨by (with_reducible repeat (first | apply Kd.R_alloc | apply Kd.R_drewN | apply Kd.R_drew)); exact HO_157002.out⟩, ⟨by (with_reducible repeat (first | apply Kd.R_alloc | apply Kd.R_drewN | apply Kd.R_drew)); exact HO_157003.out⟩, ⟨by (with_reducible repeat (first | refine blk_drewN ?_ _ | refine blk_drew ?_ | refine blk_alloc ?_ _)); exact BK149.out⟩, ⟨by (with_reducible repeat (first | refine blk_drewN ?_ _ | refine blk_drew ?_ | refine blk_alloc ?_ _)); exact BK156.out⟩, ⟨IsS130.qHI0⟩, ⟨by repeat (first | (with_reducible first | exact HK.out | apply KeepBut.set_ | apply keep_drewN | apply keep_drew | apply keep_alloc | refine keep_far ?_ GW149.out _ | refine keep_far ?_ GW156.out _) | exact HK.out)⟩, ⟨IsS130.bHI0⟩⟩
             case round =>
              clear H'
              try clear c1
              try clear c2
              try clear p2
              try clear c3
              try clear c4
              try clear c6
              try clear p6
              try clear c9
              try clear c10
              try clear c12
              try clear c12b0
              try clear c14
              try clear c20
              try clear c20b0
              try clear c22
              try clear c28
              try clear c28b0
              try clear c29
              try clear c29b0
              try clear c30
              try clear c30b0
              try clear c30b1
              try clear c32
              try clear c34
              try clear c36
              try clear c37
              try clear c42
              try clear c42b0
              try clear hcz11_0
              try clear hcz11_1
              try clear hcz11_2
              try clear hcz11_3
              try clear hcz11_4
              try clear hcz38_0
              try clear hcz38_1
              try clear hcz38_2
              try clear hcz38_3
              try clear hcz38_4
              try clear hcz41_0
              try clear hcz41_1
              try clear hcz41_2
              try clear hcz41_3
              try clear hcz41_4
              try clear hfz11_0
              try clear hfz11_1
              try clear hfz11_2
              try clear hfz11_3
              try clear hfz11_4
              try clear hfz38_0
              try clear hfz38_1
              try clear hfz38_2
              try clear hfz38_3
              try clear hfz38_4
              try clear hfz41_0
              try clear hfz41_1
              try clear hfz41_2
              try clear hfz41_3
              try clear hfz41_4
              try clear p2
              try clear p6
              obtain ⟨x9_5, x1001_5, x1002_5, x157003_5, u157003, rfl, HA, HK5, HO_157000, HO_157001, HO_157002, HO_157003, BK149, BK156, HI0, HK, HB⟩ := hrel
              cases gk with
              | zero => exact absurd HA.out (by simp [spec_l6Config.l5])
              | succ k5 =>
               have H := HA.out
               clear HA
               simp only [spec_l6Config.l5] at H
               by_cases c43 : x9_5 < 3
               ·rw [if_pos c43] at H
                have c43b0 : decide (x9_5 < 3) = true := decide_eq_true c43
                clear c43
                by_cases c44 : x8_4 = x9_5
                ·rw [if_pos c44] at H
                 have c44b0 : (x8_4 == x9_5) = true := beq_iff_eq.mpr c44
                 have c44b1 : (x8_4 != x9_5) = false := bne_eq_false_iff_eq.mpr c44
                 clear c44
                 have H' := Aside0.mk H
                 clear H
                 go_wp2
                 go_roundg k5
                 case measure => have := HK1.out; have := HK2.out; have := HK3.out; have := HK4.out; have := HK5.out; omega
                 case rel => exact ⟨(wrap64 (x9_5 + 1)), (x1001_5), (x1002_5), (x157003_5), (u157003), eX, H', ⟨by have := HK1.out; have := HK2.out; have := HK3.out; have := HK4.out; have := HK5.out; omega⟩, ⟨by (with_reducible repeat (first | apply Kd.R_alloc | apply Kd.R_drewN | apply Kd.R_drew)); exact HO_157000.out⟩, ⟨by (with_reducible repeat (first | apply Kd.R_alloc | apply Kd.R_drewN | apply Kd.R_drew)); exact HO_157001.out⟩, ⟨by (with_reducible repeat (first | apply Kd.R_alloc | apply Kd.R_drewN | apply Kd.R_drew)); exact HO_157002.out⟩, ⟨by (with_reducible repeat (first | apply Kd.R_alloc | apply Kd.R_drewN | apply Kd.R_drew)); exact HO_157003.out⟩, ⟨by (with_reducible repeat (first | refine blk_drewN ?_ _ | refine blk_drew ?_ | refine blk_alloc ?_ _)); exact BK149.out⟩, ⟨by (with_reducible repeat (first | refine blk_drewN ?_ _ | refine blk_drew ?_ | refine blk_alloc ?_ _)); exact BK156.out⟩, ⟨IsS130.qHI0⟩, ⟨by repeat (first | (with_reducible first | exact HK.out | apply KeepBut.set_ | apply keep_drewN | apply keep_drew | apply keep_alloc | refine keep_far ?_ GW149.out _ | refine keep_far ?_ GW156.out _) | exact HK.out)⟩, ⟨IsS130.bHI0⟩⟩
                ·rw [if_neg c44] at H
                 have c44b0 : (x8_4 == x9_5) = false := beq_eq_false_iff_ne.mpr c44
                 have c44b1 : (x8_4 != x9_5) = true := bne_iff_ne.mpr c44
                 replace H := Option.bind_eq_some_iff.mp H
                 obtain ⟨⟨t184, t185, t186⟩, A450, H⟩ := H
                 replace H : (if t184 = true then (spec_l6Config.l5 k5 x8_4 (wrap64 (x9_5 + 1)) s0_0 t185 t186 x157000_1 x157001_2 x157002_3 x157003_5 t153) else (if x157003_5.length < 8796093022208 then (spec_l6Config.l5 k5 x8_4 (wrap64 (x9_5 + 1)) s0_0 t185 t186 x157000_1 x157001_2 x157002_3 (x157003_5 ++ [(⟨x8_4, x9_5⟩ : S42)]) t153) else (none))) = some (r1, r2, r3, r4, r5, r6, r7) := H
                 have A45 := Aside0.mk A450
                 clear A450
                 by_cases c46 : t184 = true
                 ·subst c46
                  have H1 : (spec_l6Config.l5 k5 x8_4 (wrap64 (x9_5 + 1)) s0_0 t185 t186 x157000_1 x157001_2 x157002_3 x157003_5 t153) = some (r1, r2, r3, r4, r5, r6, r7) := by rw [if_pos rfl] at H; exact H
                  clear H
                  have H := H1
                  clear H1
                  have H' := Aside0.mk H
                  clear H
                  go_wp2_with (first | (go_at_call 65; (with_reducible refine (spec_l1Once.calls g s0_0 x1001_5 x1002_5 3 true t185 t186 w0 _ ?side1 ?side2 A45.out).mono ?_); (case side1 => exact IsS130.qHI0); (case side2 => exact IsS130.bHI0); rintro e w47 ⟨rfl, hi, hb, hk⟩; have n0_ := Aside0.mk (IsS130.rK hk (kR HO_157000.out) (show IsS130 w0 _ g s0_0 x1001_5 x1002_5 from IsS130.qHI0)); have n1_ := Aside0.mk (IsS130.rK hk (kR HO_157001.out) (show IsS130 w0 _ g s0_0 x1001_5 x1002_5 from IsS130.qHI0)); have n2_ := Aside0.mk (IsS130.rK hk (kR HO_157002.out) (show IsS130 w0 _ g s0_0 x1001_5 x1002_5 from IsS130.qHI0)); have n3_ := Aside0.mk (IsS130.rK hk (kR HO_157003.out) (show IsS130 w0 _ g s0_0 x1001_5 x1002_5 from IsS130.qHI0)); have n4_ := Aside0.mk (KeepBut.blk hk (g' := gb149) (o := .cells #[.slice none 0 0, .slice none 0 0, .slice none 0 0, .slice none 0 0, .int .i64 0] 30 (0, 0)) (kB BK149.out) NB149_0.out (by simp)); have n5_ := Aside0.mk (KeepBut.blk hk (g' := gb156) (o := .cells #[u157000, u157001, u157002, u157003, .int .i64 t153] 30 (0, 0)) (kB BK156.out) NB156_0.out (by simp)); have n6_ := Aside0.mk (KeepBut.trans kK hk (.inl rfl)); have n7_ := Aside0.mk (hb); have n8_ := Aside0.mk (hi); clear HO_157000; clear HO_157001; clear HO_157002; clear HO_157003; clear BK149; clear BK156; clear HK; clear HB; clear HI0; have HO_157000 := n0_; have HO_157001 := n1_; have HO_157002 := n2_; have HO_157003 := n3_; have BK149 := n4_; have BK156 := n5_; have HK := n6_; have HB := n7_; have HI0 := n8_; clear n0_ n1_ n2_ n3_ n4_ n5_ n6_ n7_ n8_; (try clear hb); (try clear hb2); (try clear hk); (try clear hi)))
                  go_roundg k5
                  case measure => have := HK1.out; have := HK2.out; have := HK3.out; have := HK4.out; have := HK5.out; omega
                  case rel => exact ⟨(wrap64 (x9_5 + 1)), (t185), (t186), (x157003_5), (u157003), eX, H', ⟨by have := HK1.out; have := HK2.out; have := HK3.out; have := HK4.out; have := HK5.out; omega⟩, ⟨by (with_reducible repeat (first | apply Kd.R_alloc | apply Kd.R_drewN | apply Kd.R_drew)); exact HO_157000.out⟩, ⟨by (with_reducible repeat (first | apply Kd.R_alloc | apply Kd.R_drewN | apply Kd.R_drew)); exact HO_157001.out⟩, ⟨by (with_reducible repeat (first | apply Kd.R_alloc | apply Kd.R_drewN | apply Kd.R_drew)); exact HO_157002.out⟩, ⟨by (with_reducible repeat (first | apply Kd.R_alloc | apply Kd.R_drewN | apply Kd.R_drew)); exact HO_157003.out⟩, ⟨by (with_reducible repeat (first | refine blk_drewN ?_ _ | refine blk_drew ?_ | refine blk_alloc ?_ _)); exact BK149.out⟩, ⟨by (with_reducible repeat (first | refine blk_drewN ?_ _ | refine blk_drew ?_ | refine blk_alloc ?_ _)); exact BK156.out⟩, ⟨IsS130.qHI0⟩, ⟨by repeat (first | (with_reducible first | exact HK.out | apply KeepBut.set_ | apply keep_drewN | apply keep_drew | apply keep_alloc | refine keep_far ?_ GW149.out _ | refine keep_far ?_ GW156.out _) | exact HK.out)⟩, ⟨IsS130.bHI0⟩⟩
                 ·replace c46 := Bool.eq_false_iff.mpr c46
                  subst c46
                  have H1 : (if x157003_5.length < 8796093022208 then (spec_l6Config.l5 k5 x8_4 (wrap64 (x9_5 + 1)) s0_0 t185 t186 x157000_1 x157001_2 x157002_3 (x157003_5 ++ [(⟨x8_4, x9_5⟩ : S42)]) t153) else (none)) = some (r1, r2, r3, r4, r5, r6, r7) := by rw [if_neg (show ¬ (false = true) by decide)] at H; exact H
                  clear H
                  have H := H1
                  clear H1
                  by_cases c48 : x157003_5.length < 8796093022208
                  ·rw [if_pos c48] at H
                   have LMc48 := Aside0.mk c48
                   clear c48
                   obtain ⟨y187, hy187⟩ : ∃ y_ : List (S42), y_ = (x157003_5 ++ [(⟨x8_4, x9_5⟩ : S42)]) := ⟨_, rfl⟩
                   replace H : (spec_l6Config.l5 k5 x8_4 (wrap64 (x9_5 + 1)) s0_0 t185 t186 x157000_1 x157001_2 x157002_3 y187 t153) = some (r1, r2, r3, r4, r5, r6, r7) := by first | (rw [hy187]; with_reducible exact H) | (have H2_ := (Option.bind_some _ _).symm.trans H; rw [hy187]; with_reducible exact H2_) | (have H2_ := (Option.bind_some _ _).symm.trans H; with_reducible exact H2_) | with_reducible exact H | (rw [hy187]; exact H) | exact H
                   have Ny187 := Aside0.mk hy187
                   clear hy187
                   have H' := Aside0.mk H
                   clear H
                   go_wp2_with (first | (go_at_call 65; (with_reducible refine (spec_l1Once.calls g s0_0 x1001_5 x1002_5 3 false t185 t186 w0 _ ?side1 ?side2 A45.out).mono ?_); (case side1 => exact IsS130.qHI0); (case side2 => exact IsS130.bHI0); rintro e w49 ⟨rfl, hi, hb, hk⟩; have n0_ := Aside0.mk (IsS130.rK hk (kR HO_157000.out) (show IsS130 w0 _ g s0_0 x1001_5 x1002_5 from IsS130.qHI0)); have n1_ := Aside0.mk (IsS130.rK hk (kR HO_157001.out) (show IsS130 w0 _ g s0_0 x1001_5 x1002_5 from IsS130.qHI0)); have n2_ := Aside0.mk (IsS130.rK hk (kR HO_157002.out) (show IsS130 w0 _ g s0_0 x1001_5 x1002_5 from IsS130.qHI0)); have n3_ := Aside0.mk (IsS130.rK hk (kR HO_157003.out) (show IsS130 w0 _ g s0_0 x1001_5 x1002_5 from IsS130.qHI0)); have n4_ := Aside0.mk (KeepBut.blk hk (g' := gb149) (o := .cells #[.slice none 0 0, .slice none 0 0, .slice none 0 0, .slice none 0 0, .int .i64 0] 30 (0, 0)) (kB BK149.out) NB149_0.out (by simp)); have n5_ := Aside0.mk (KeepBut.blk hk (g' := gb156) (o := .cells #[u157000, u157001, u157002, u157003, .int .i64 t153] 30 (0, 0)) (kB BK156.out) NB156_0.out (by simp)); have n6_ := Aside0.mk (KeepBut.trans kK hk (.inl rfl)); have n7_ := Aside0.mk (hb); have n8_ := Aside0.mk (hi); clear HO_157000; clear HO_157001; clear HO_157002; clear HO_157003; clear BK149; clear BK156; clear HK; clear HB; clear HI0; have HO_157000 := n0_; have HO_157001 := n1_; have HO_157002 := n2_; have HO_157003 := n3_; have BK149 := n4_; have BK156 := n5_; have HK := n6_; have HB := n7_; have HI0 := n8_; clear n0_ n1_ n2_ n3_ n4_ n5_ n6_ n7_ n8_; (try clear hb); (try clear hb2); (try clear hk); (try clear hi); have hnb50 := NB156_149.out; have hnc50 := NB149_156.out; have hnb51 := NB156_0.out; have hnc51 := NB0_156.out; have hcz52_0 : w49.cell? ⟨gb156, 0, none⟩ = some (u157000) := (blk_cell BK156.out 0).trans rfl; have hcz52_1 : w49.cell? ⟨gb156, 1, none⟩ = some (u157001) := (blk_cell BK156.out 1).trans rfl; have hcz52_2 : w49.cell? ⟨gb156, 2, none⟩ = some (u157002) := (blk_cell BK156.out 2).trans rfl; have hcz52_3 : w49.cell? ⟨gb156, 3, none⟩ = some (u157003) := (blk_cell BK156.out 3).trans rfl; have hcz52_4 : w49.cell? ⟨gb156, 4, none⟩ = some (.int .i64 t153) := (blk_cell BK156.out 4).trans rfl; have hfz52_0 := blk_frozen BK156.out 0; have hfz52_1 := blk_frozen BK156.out 1; have hfz52_2 := blk_frozen BK156.out 2; have hfz52_3 := blk_frozen BK156.out 3; have hfz52_4 := blk_frozen BK156.out 4) | ((with_reducible refine gate_builtin (b := .append) (xs := #[.tmp 77, .tmp 81]) rfl ?_); at_builtin; refine Kd.R_append k42 w.heap.size rfl (.tmp 77) (.tmp 81) 28 42 (.agg #[(.int .i64 0), (.int .i64 0)]) 16 rfl Try.underlying28 info42 rfl (by decide) (by omega) u157003 x157003_5 (⟨x8_4, x9_5⟩ : S42) [.int .i64 x8_4, .int .i64 x9_5] (fun k_ => some k_ ≠ (u157002 : Value).ownBlock) (fun _ => False) rfl rfl ?aP (fun _ hk => hk.elim) ?aF ?aO (Below.refl _ _) ?aS ?aL ?_; (case aP => exact k42_mkM _ _ _ (⟨x8_4, x9_5⟩ : S42)); (case aF => exact (fun k_ hk => Kd.fresh' (Kd.R_lt (kR HO_157002.out)) k_ hk)); (case aO => exact (kR HO_157003.out)); (case aS => exact kL); (case aL => have := LMc48.out; omega); intro v188 w53 ho hb hg hat; rw [← Ny187.out] at ho; have n0_ := Aside0.mk (Kd.R_over' (kR HO_157000.out) (Kd.R_typed (kR HO_157003.out)) (by decide) hg); have n1_ := Aside0.mk (Kd.R_over' (kR HO_157001.out) (Kd.R_typed (kR HO_157003.out)) (by decide) hg); have n2_ := Aside0.mk (Kd.R_after (ok := (fun _ => True)) (by (with_reducible repeat (first | apply Kd.R_alloc | apply Kd.R_drewN | apply Kd.R_drew)); exact Kd.R_mono HO_157002.out (fun _ hk => ⟨trivial, hk⟩)) hg hat); have n3_ := Aside0.mk (blk_grown (g := gb149) (o := .cells #[.slice none 0 0, .slice none 0 0, .slice none 0 0, .slice none 0 0, .int .i64 0] 30 (0, 0)) (kB BK149.out) hg (Kd.R_ne HO_157003.out BK149.out (by decide))); have n4_ := Aside0.mk (blk_grown (g := gb156) (o := .cells #[u157000, u157001, u157002, u157003, .int .i64 t153] 30 (0, 0)) (kB BK156.out) hg (Kd.R_ne HO_157003.out BK156.out (by decide))); have n5_ := Aside0.mk (IsS130.grown IsS130.qHI0 hg (IsS130.own_ne HI0.out HO_157003.out (by decide))); have n6_ := Aside0.mk (below_weaken IsS130.bHI0 HL.out hb); have n7_ := Aside0.mk (KeepBut.trans kK (KeepBut.of_grown hg g) (Kd.R_base2 HO_157003.out)); have n8_ := Aside0.mk (ho); clear HO_157000; clear HO_157001; clear HO_157002; clear BK149; clear BK156; clear HI0; clear HB; clear HK; clear HO_157003; have HO_157000 := n0_; have HO_157001 := n1_; have HO_157002 := n2_; have BK149 := n3_; have BK156 := n4_; have HI0 := n5_; have HB := n6_; have HK := n7_; have HO189 := n8_; clear n0_ n1_ n2_ n3_ n4_ n5_ n6_ n7_ n8_; clear ho hb hg hat; obtain ⟨Ao54, co54, eo54⟩ := Kd.R_slice HO189.out; subst eo54; have hcz55_0 : w53.cell? ⟨gb156, 0, none⟩ = some (u157000) := (blk_cell BK156.out 0).trans rfl; have hcz55_1 : w53.cell? ⟨gb156, 1, none⟩ = some (u157001) := (blk_cell BK156.out 1).trans rfl; have hcz55_2 : w53.cell? ⟨gb156, 2, none⟩ = some (u157002) := (blk_cell BK156.out 2).trans rfl; have hcz55_3 : w53.cell? ⟨gb156, 3, none⟩ = some (u157003) := (blk_cell BK156.out 3).trans rfl; have hcz55_4 : w53.cell? ⟨gb156, 4, none⟩ = some (.int .i64 t153) := (blk_cell BK156.out 4).trans rfl; have hfz55_0 := blk_frozen BK156.out 0; have hfz55_1 := blk_frozen BK156.out 1; have hfz55_2 := blk_frozen BK156.out 2; have hfz55_3 := blk_frozen BK156.out 3; have hfz55_4 := blk_frozen BK156.out 4))
                   go_roundg k5
                   case measure => have := HK1.out; have := HK2.out; have := HK3.out; have := HK4.out; have := HK5.out; omega
                   case rel => exact ⟨(wrap64 (x9_5 + 1)), (t185), (t186), (y187), (.slice Ao54 y187.length co54), eX, H', ⟨by have := HK1.out; have := HK2.out; have := HK3.out; have := HK4.out; have := HK5.out; omega⟩, ⟨by (with_reducible repeat (first | apply Kd.R_alloc | apply Kd.R_drewN | apply Kd.R_drew)); exact Kd.R_mono (Kd.R_far (p := ⟨gb156, 3, none⟩) (Kd.R_types HO_157000.out BK156.out (by decide)) (fun _ hk => hk.2) (.slice Ao54 y187.length co54)) (fun _ hk => hk.1)⟩, ⟨by (with_reducible repeat (first | apply Kd.R_alloc | apply Kd.R_drewN | apply Kd.R_drew)); exact Kd.R_mono (Kd.R_far (p := ⟨gb156, 3, none⟩) (Kd.R_types HO_157001.out BK156.out (by decide)) (fun _ hk => hk.2) (.slice Ao54 y187.length co54)) (fun _ hk => hk.1)⟩, ⟨by (with_reducible repeat (first | apply Kd.R_alloc | apply Kd.R_drewN | apply Kd.R_drew)); exact Kd.R_mono (Kd.R_far (p := ⟨gb156, 3, none⟩) (Kd.R_types HO_157002.out BK156.out (by decide)) (fun _ hk => hk.2) (.slice Ao54 y187.length co54)) (fun _ hk => hk.1.2)⟩, ⟨by (with_reducible repeat (first | apply Kd.R_alloc | apply Kd.R_drewN | apply Kd.R_drew)); exact Kd.R_mono (Kd.R_far (p := ⟨gb156, 3, none⟩) (Kd.R_types HO189.out BK156.out (by decide)) (fun _ hk => hk.2) (.slice Ao54 y187.length co54)) (fun _ hk => hk.1)⟩, ⟨by (with_reducible repeat (first | refine blk_drewN ?_ _ | refine blk_drew ?_ | refine blk_alloc ?_ _)); refine blk_far ?_ NB149_156.out _; (with_reducible repeat (first | refine blk_drewN ?_ _ | refine blk_drew ?_ | refine blk_alloc ?_ _)); exact BK149.out⟩, ⟨by (with_reducible repeat (first | refine blk_drewN ?_ _ | refine blk_drew ?_ | refine blk_alloc ?_ _)); refine blk_put (cs := #[u157000, u157001, u157002, u157003, .int .i64 t153]) ?_ 3 _ rfl; (with_reducible repeat (first | refine blk_drewN ?_ _ | refine blk_drew ?_ | refine blk_alloc ?_ _)); exact BK156.out⟩, ⟨IsS130.qHI0⟩, ⟨by repeat (first | (with_reducible first | exact HK.out | apply KeepBut.set_ | apply keep_drewN | apply keep_drew | apply keep_alloc | refine keep_far ?_ GW149.out _ | refine keep_far ?_ GW156.out _) | exact HK.out)⟩, ⟨IsS130.bHI0⟩⟩
                  ·rw [if_neg c48] at H
                   exact absurd H (by simp)
               ·rw [if_neg c43] at H
                have c43b0 : decide (x9_5 < 3) = false := decide_eq_false c43
                clear c43
                have H' := Aside0.mk H
                clear H
                go_wp2
                go_roundg k5
                case measure => have := HK1.out; have := HK2.out; have := HK3.out; have := HK4.out; have := HK5.out; omega
                case rel => exact ⟨(wrap64 (x8_4 + 1)), (x1001_5), (x1002_5), (x157003_5), (u157003), eX, H', ⟨by have := HK1.out; have := HK2.out; have := HK3.out; have := HK4.out; have := HK5.out; omega⟩, ⟨by (with_reducible repeat (first | apply Kd.R_alloc | apply Kd.R_drewN | apply Kd.R_drew)); exact HO_157000.out⟩, ⟨by (with_reducible repeat (first | apply Kd.R_alloc | apply Kd.R_drewN | apply Kd.R_drew)); exact HO_157001.out⟩, ⟨by (with_reducible repeat (first | apply Kd.R_alloc | apply Kd.R_drewN | apply Kd.R_drew)); exact HO_157002.out⟩, ⟨by (with_reducible repeat (first | apply Kd.R_alloc | apply Kd.R_drewN | apply Kd.R_drew)); exact HO_157003.out⟩, ⟨by (with_reducible repeat (first | refine blk_drewN ?_ _ | refine blk_drew ?_ | refine blk_alloc ?_ _)); exact BK149.out⟩, ⟨by (with_reducible repeat (first | refine blk_drewN ?_ _ | refine blk_drew ?_ | refine blk_alloc ?_ _)); exact BK156.out⟩, ⟨IsS130.qHI0⟩, ⟨by repeat (first | (with_reducible first | exact HK.out | apply KeepBut.set_ | apply keep_drewN | apply keep_drew | apply keep_alloc | refine keep_far ?_ GW149.out _ | refine keep_far ?_ GW156.out _) | exact HK.out)⟩, ⟨IsS130.bHI0⟩⟩
            ·rw [if_neg c42] at H
             have c42b0 : decide (x8_4 < 3) = false := decide_eq_false c42
             clear c42
             replace H := Option.bind_eq_some_iff.mp H
             obtain ⟨⟨t175, t176, t177⟩, A560, H⟩ := H
             replace H : (if t175 = true then (if 0 < (x157000_1.length : Int) then (if 2 < (x157001_2.length : Int) then (some (x157000_1, (([rd x157000_1 0, rd x157000_1 0, rd x157001_2 2] : List Int)), x157002_3, x157003_4, t153, t176, t177)) else (none)) else (none)) else (some (x157000_1, x157001_2, x157002_3, x157003_4, t153, t176, t177))) = some (r1, r2, r3, r4, r5, r6, r7) := H
             have A56 := Aside0.mk A560
             clear A560
             by_cases c57 : t175 = true
             ·subst c57
              have H1 : (if 0 < (x157000_1.length : Int) then (if 2 < (x157001_2.length : Int) then (some (x157000_1, (([rd x157000_1 0, rd x157000_1 0, rd x157001_2 2] : List Int)), x157002_3, x157003_4, t153, t176, t177)) else (none)) else (none)) = some (r1, r2, r3, r4, r5, r6, r7) := by rw [if_pos rfl] at H; exact H
              clear H
              have H := H1
              clear H1
              by_cases c58 : 0 < (x157000_1.length : Int)
              ·rw [if_pos c58] at H
               have c58b0 : decide (0 < (x157000_1.length : Int)) = true := decide_eq_true c58
               have c58b1 : decide (0 < x157000_1.length) = true := decide_eq_true (by omega)
               clear c58
               by_cases c59 : 2 < (x157001_2.length : Int)
               ·rw [if_pos c59] at H
                have c59b0 : decide (2 < (x157001_2.length : Int)) = true := decide_eq_true c59
                have c59b1 : decide (2 < x157001_2.length) = true := decide_eq_true (by omega)
                clear c59
                obtain ⟨y181, hy181⟩ : ∃ y_ : List Int, y_ = (([rd x157000_1 0, rd x157000_1 0, rd x157001_2 2] : List Int)) := ⟨_, rfl⟩
                replace H : (some (x157000_1, y181, x157002_3, x157003_4, t153, t176, t177)) = some (r1, r2, r3, r4, r5, r6, r7) := by first | (rw [hy181]; with_reducible exact H) | (have H2_ := (Option.bind_some _ _).symm.trans H; rw [hy181]; with_reducible exact H2_) | (have H2_ := (Option.bind_some _ _).symm.trans H; with_reducible exact H2_) | with_reducible exact H | (rw [hy181]; exact H) | exact H
                have Ny181 := Aside0.mk hy181
                clear hy181
                simp only [Option.some.injEq, Prod.mk.injEq] at H
                obtain ⟨rfl, rfl, rfl, rfl, rfl, rfl, rfl⟩ := H
                try go_wp2_with (first | ((with_reducible refine gate_callee (f := 65) rfl ?_); refine goesL_ (some 85) rfl rfl Try.func65 (by kernel_rfl) rfl #[.pointer (some ⟨g, 0, none⟩), .int .i64 3] rfl eA ?_; (with_reducible refine (spec_l1Once.calls g s0_0 x1001_4 x1002_4 3 true t176 t177 w0 _ ?side1 ?side2 A56.out).mono ?_); (case side1 => exact IsS130.qHI0); (case side2 => exact IsS130.bHI0); rintro e w60 ⟨rfl, hi, hb, hk⟩; refine ⟨_, rfl, ?_⟩; have n0_ := Aside0.mk (IsS130.rK hk (kR HO_157000.out) (show IsS130 w0 _ g s0_0 x1001_4 x1002_4 from IsS130.qHI0)); have n1_ := Aside0.mk (IsS130.rK hk (kR HO_157001.out) (show IsS130 w0 _ g s0_0 x1001_4 x1002_4 from IsS130.qHI0)); have n2_ := Aside0.mk (IsS130.rK hk (kR HO_157002.out) (show IsS130 w0 _ g s0_0 x1001_4 x1002_4 from IsS130.qHI0)); have n3_ := Aside0.mk (IsS130.rK hk (kR HO_157003.out) (show IsS130 w0 _ g s0_0 x1001_4 x1002_4 from IsS130.qHI0)); have n4_ := Aside0.mk (KeepBut.blk hk (g' := gb149) (o := .cells #[.slice none 0 0, .slice none 0 0, .slice none 0 0, .slice none 0 0, .int .i64 0] 30 (0, 0)) (kB BK149.out) NB149_0.out (by simp)); have n5_ := Aside0.mk (KeepBut.blk hk (g' := gb156) (o := .cells #[u157000, u157001, u157002, u157003, .int .i64 t153] 30 (0, 0)) (kB BK156.out) NB156_0.out (by simp)); have n6_ := Aside0.mk (KeepBut.trans kK hk (.inl rfl)); have n7_ := Aside0.mk (hb); have n8_ := Aside0.mk (hi); clear HO_157000; clear HO_157001; clear HO_157002; clear HO_157003; clear BK149; clear BK156; clear HK; clear HB; clear HI0; have HO_157000 := n0_; have HO_157001 := n1_; have HO_157002 := n2_; have HO_157003 := n3_; have BK149 := n4_; have BK156 := n5_; have HK := n6_; have HB := n7_; have HI0 := n8_; clear n0_ n1_ n2_ n3_ n4_ n5_ n6_ n7_ n8_; (try clear hb); (try clear hb2); (try clear hk); (try clear hi)))
                have n0_ := Aside0.mk (Kd.R_drew HO_157000.out)
                have n1_ := Aside0.mk (Kd.R_drew HO_157001.out)
                have n2_ := Aside0.mk (Kd.R_drew HO_157002.out)
                have n3_ := Aside0.mk (Kd.R_drew HO_157003.out)
                have n4_ := Aside0.mk (blk_drew BK149.out)
                have n5_ := Aside0.mk (blk_drew BK156.out)
                have n6_ := Aside0.mk (IsS130.drew HI0.out)
                have n7_ := Aside0.mk (keep_drew HK.out)
                have n8_ := Aside0.mk (below_drew1 HB.out)
                clear HO_157000 HO_157001 HO_157002 HO_157003 BK149 BK156 HI0 HK HB
                have HO_157000 := n0_
                have HO_157001 := n1_
                have HO_157002 := n2_
                have HO_157003 := n3_
                have BK149 := n4_
                have BK156 := n5_
                have HI0 := n6_
                have HK := n7_
                have HB := n8_
                clear n0_ n1_ n2_ n3_ n4_ n5_ n6_ n7_ n8_
                obtain ⟨Ao62, co62, eo62⟩ := Kd.R_slice HO_157000.out
                (first | subst eo62 | (injection eo62 with f1_ f2_ f3_; have f4_ := f1_.symm; have f5_ := f3_.symm; clear f1_ f2_ f3_; subst f4_; subst f5_))
                have p178 : 0 ≤ (0 : Int) := (by omega)
                have q178 : 0 < (x157000_1.length : Int) := of_decide_eq_true aA
                obtain ⟨ad178, e178, hx178_0⟩ := Kd.at_int (Kd.R_reads' HO_157000.out).2.2 0 p178 q178
                cases e178
                have qi178 : (0 < x157000_1.length) = True := eq_true (by omega)
                (try rw [show ((0 : Int)).toNat = 0 from rfl] at hx178_0)
                (try rw [Addr.add_zero'] at hx178_0)
                replace p178 := eq_true p178
                replace q178 := eq_true q178
                have p179 : 0 ≤ (0 : Int) := (by omega)
                have q179 : 0 < (x157000_1.length : Int) := of_decide_eq_true aA
                obtain ⟨ad179, e179, hx179_0⟩ := Kd.at_int (Kd.R_reads' HO_157000.out).2.2 0 p179 q179
                obtain rfl : ad178 = ad179 := (by injection e179)
                have qi179 : (0 < x157000_1.length) = True := eq_true (by omega)
                (try rw [show ((0 : Int)).toNat = 0 from rfl] at hx179_0)
                (try rw [Addr.add_zero'] at hx179_0)
                replace p179 := eq_true p179
                replace q179 := eq_true q179
                obtain ⟨Ao63, co63, eo63⟩ := Kd.R_slice HO_157001.out
                (first | subst eo63 | (injection eo63 with f1_ f2_ f3_; have f4_ := f1_.symm; have f5_ := f3_.symm; clear f1_ f2_ f3_; subst f4_; subst f5_))
                have p180 : 0 ≤ (2 : Int) := (by omega)
                have q180 : 2 < (x157001_2.length : Int) := of_decide_eq_true aA
                obtain ⟨ad180, e180, hx180_0⟩ := Kd.at_int (Kd.R_reads' HO_157001.out).2.2 2 p180 q180
                cases e180
                (try simp only [show (2 : Int).toNat = 2 from rfl, Nat.reduceMul, Nat.reduceEqDiff, Go.Addr.add, ↓reduceIte] at hx180_0)
                have qi180 : (2 < x157001_2.length) = True := eq_true (by omega)
                (try rw [show ((2 : Int)).toNat = 2 from rfl] at hx180_0)
                replace p180 := eq_true p180
                replace q180 := eq_true q180
                refine start_ (n := 15) (S := fun w' => w'.cell? ⟨gb156, 0, none⟩ = some (.slice (some ad178) x157000_1.length co62) ∧ w'.cell? ⟨gb156, 1, none⟩ = some (.slice (some ad180) x157001_2.length co63) ∧ w'.cell? ⟨gb156, 2, none⟩ = some (u157002) ∧ w'.cell? ⟨gb156, 3, none⟩ = some (u157003) ∧ w'.cell? ⟨gb156, 4, none⟩ = some (.int .i64 t153) ∧ w'.cell? ad178 = some (.int .i64 (rd x157000_1 0)) ∧ w'.cell? ad178 = some (.int .i64 (rd x157000_1 0)) ∧ w'.cell? ⟨ad180.block, ad180.off + 2, none⟩ = some (.int .i64 (rd x157001_2 2))) (ds := [14]) _ (by kernel_rfl) rfl rfl ⟨(blk_cell BK156.out 0).trans rfl, (blk_cell BK156.out 1).trans rfl, (blk_cell BK156.out 2).trans rfl, (blk_cell BK156.out 3).trans rfl, (blk_cell BK156.out 4).trans rfl, hx178_0, hx179_0, hx180_0⟩ (fun hHeld => ?_); refine with_tabW spec_l6Config.tab27 spec_l6Config.bits27 (fun HT_ HW_ => ?_)
                generalize w60.drew = w61 at HO_157000 HO_157001 HO_157002 HO_157003 BK149 BK156 HI0 HK HB hx178_0 hx179_0 hx180_0 hHeld ⊢
                refine pU HT_ 0 (some 86) (mk 15 1) rfl rfl (h := ?_)
                refine pU HT_ 4 (some 90) (mk 15 17) rfl rfl (h := ?_)
                refine pU HT_ 8 (some 94) (mk 15 273) rfl rfl (h := ?_)
                refine tU HT_ HW_ 1 (some 87) (mk 15 275) hHeld rfl rfl (by rintro w' ⟨s0, s1, s2, s3, s4, s5, s6, s7⟩; go_simp; with_reducible rfl) (h := ?_)
                refine pU HT_ 2 (some 88) (mk 15 279) rfl rfl (h := ?_)
                refine tU HT_ HW_ 3 (some 89) (mk 15 287) hHeld rfl rfl (by rintro w' ⟨s0, s1, s2, s3, s4, s5, s6, s7⟩; go_simp; with_reducible rfl) (h := ?_)
                refine tU HT_ HW_ 5 (some 91) (mk 15 319) hHeld rfl rfl (by rintro w' ⟨s0, s1, s2, s3, s4, s5, s6, s7⟩; go_simp; with_reducible rfl) (h := ?_)
                refine pU HT_ 6 (some 92) (mk 15 383) rfl rfl (h := ?_)
                refine tU HT_ HW_ 7 (some 93) (mk 15 511) hHeld rfl rfl (by rintro w' ⟨s0, s1, s2, s3, s4, s5, s6, s7⟩; go_simp; with_reducible rfl) (h := ?_)
                refine tU HT_ HW_ 9 (some 95) (mk 15 1023) hHeld rfl rfl (by rintro w' ⟨s0, s1, s2, s3, s4, s5, s6, s7⟩; go_simp; with_reducible rfl) (h := ?_)
                refine pU HT_ 10 (some 96) (mk 15 2047) rfl rfl (h := ?_)
                refine tU HT_ HW_ 11 (some 97) (mk 15 4095) hHeld rfl rfl (by rintro w' ⟨s0, s1, s2, s3, s4, s5, s6, s7⟩; go_simp; with_reducible rfl) (h := ?_)
                refine one_ (i := 12) (N := some 98) (mk 15 8191) rfl rfl (one_of HT_.out (by kernel_rfl)) (by decide) (fun K hK => ?_)
                refine Kd.R_lit_step (Kd.int .i64) _ 3 ?hg (N := 98) ?hd (xs := ([rd x157000_1 0, rd x157000_1 0, rd x157001_2 2] : List Int)) (inner := [.int .i64 (rd x157000_1 0), .int .i64 (rd x157000_1 0), .int .i64 (rd x157001_2 2)]) (ok := fun _ => True) (okp := fun _ => True) ?hr ?hp (fun _ hk => hk) trivial (Below.refl _ _) (Nat.le_refl _) (by simp) ?_; (case hd => rfl); (case hg => rfl); (case hr => first | (go_simp; done) | (go_simp; rfl)); (case hp => exact (Reps.one (show Kd.M (Kd.int .i64) _ _ _ (rd x157000_1 0) [.int .i64 (rd x157000_1 0)] from rfl) (Reps.one (show Kd.M (Kd.int .i64) _ _ _ (rd x157000_1 0) [.int .i64 (rd x157000_1 0)] from rfl) (Reps.one (show Kd.M (Kd.int .i64) _ _ _ (rd x157001_2 2) [.int .i64 (rd x157001_2 2)] from rfl) (Reps.none _ _)))))
                intro v182 w64 ho65 hb hg_ hnew_
                have HS5_ := (hb.cell (World.block_lt_of_cell? _ _ (hHeld.2.2.2.2.2.1))).trans (hHeld.2.2.2.2.2.1)
                have HS6_ := (hb.cell (World.block_lt_of_cell? _ _ (hHeld.2.2.2.2.2.2.1))).trans (hHeld.2.2.2.2.2.2.1)
                have HS7_ := (hb.cell (World.block_lt_of_cell? _ _ (hHeld.2.2.2.2.2.2.2))).trans (hHeld.2.2.2.2.2.2.2)
                clear hg_ hnew_
                (first | rw [← Ny181.out] at ho65 | (simp only [Int.reduceToNat] at ho65; rw [← Ny181.out] at ho65))
                have n0_ := Aside0.mk (Kd.R_elder' (kR HO_157000.out) (Kd.R_base ho65) hb)
                have n1_ := Aside0.mk (Kd.R_elder' (kR HO_157001.out) (Kd.R_base ho65) hb)
                have n2_ := Aside0.mk (Kd.R_below (kR HO_157002.out) hb)
                have n3_ := Aside0.mk (Kd.R_below (kR HO_157003.out) hb)
                have n4_ := Aside0.mk (Kd.R_lower (Kd.R_new' (Kd.R_new' ho65 (Kd.R_lt (kR HO_157000.out))) (Kd.R_lt (kR HO_157001.out))) kL)
                have n5_ := Aside0.mk (blk_below (kB BK149.out) hb)
                have n6_ := Aside0.mk (blk_below (kB BK156.out) hb)
                have n7_ := Aside0.mk (IsS130.below IsS130.qHI0 hb)
                have n8_ := Aside0.mk (KeepBut.trans kK (KeepBut.of_below hb g none) (.inl rfl))
                have n9_ := Aside0.mk (below_step IsS130.bHI0 hb)
                clear HO_157000 HO_157001 HO_157002 HO_157003 BK149 BK156 HI0 HK HB
                have HO_157000 := n0_
                have HO_157001 := n1_
                have HO_157002 := n2_
                have HO_157003 := n3_
                have HO183 := n4_
                have BK149 := n5_
                have BK156 := n6_
                have HI0 := n7_
                have HK := n8_
                have HB := n9_
                clear n0_ n1_ n2_ n3_ n4_ n5_ n6_ n7_ n8_ n9_ hb ho65
                obtain ⟨Ao66, co66, eo66⟩ := Kd.R_slice HO183.out
                (first | subst eo66 | (injection eo66 with f1_ f2_ f3_; have f4_ := f1_.symm; have f5_ := f3_.symm; clear f1_ f2_ f3_; subst f4_; subst f5_))
                refine hK.out _ _ ⟨(blk_cell BK156.out 0).trans rfl, (blk_cell BK156.out 1).trans rfl, (blk_cell BK156.out 2).trans rfl, (blk_cell BK156.out 3).trans rfl, (blk_cell BK156.out 4).trans rfl, HS5_, HS6_, HS7_⟩ (fun hHeld => ?_)
                clear hK K
                refine norm_ (a' := ?_) ?_ ?_
                rotate_left
                ·show Act.put _ (some 98) _ = _
                 simp only [Act.put, List.setIfInBounds_toArray, List.set_cons_zero, List.set_cons_succ, i64_w, i32_w]
                 rfl
                refine pU HT_ 13 (some 99) (mk 15 16383) rfl rfl (h := ?_)
                refine last_ (i := 14) (N := none) #[true, true, true, true, true, true, true, true, true, true, true, true, true, true, true] rfl rfl (one_of HT_.out (by kernel_rfl)) (by decide) (fun K hK => ?_)
                have hs67 : w64.cell? ⟨gb156, 1, none⟩ = some (.slice (some ad180) x157001_2.length co63) := (blk_cell BK156.out 1).trans rfl
                have hfs67 := blk_frozen BK156.out 1
                have hns67_0 := NB149_156.out
                have hms67_0 := NB156_149.out
                refine skip_ (w1 := ?_) (by rfl) rfl ?_ ?_
                rotate_left
                ·go_simp
                 rfl
                refine hK.out _ _ ?_
                clear hK K
                refine done_ (done_of HT_.out (by kernel_rfl)) ?_
                have hnb68 := NB156_149.out
                have hnc68 := NB149_156.out
                have hnb69 := NB156_0.out
                have hnc69 := NB0_156.out
                have hcz70_0 : w64.cell? ⟨gb156, 0, none⟩ = some (.slice (some ad178) x157000_1.length co62) := (blk_cell BK156.out 0).trans rfl
                have hcz70_1 : w64.cell? ⟨gb156, 1, none⟩ = some (.slice (some ad180) x157001_2.length co63) := (blk_cell BK156.out 1).trans rfl
                have hcz70_2 : w64.cell? ⟨gb156, 2, none⟩ = some (u157002) := (blk_cell BK156.out 2).trans rfl
                have hcz70_3 : w64.cell? ⟨gb156, 3, none⟩ = some (u157003) := (blk_cell BK156.out 3).trans rfl
                have hcz70_4 : w64.cell? ⟨gb156, 4, none⟩ = some (.int .i64 t153) := (blk_cell BK156.out 4).trans rfl
                have hfz70_0 := blk_frozen BK156.out 0
                have hfz70_1 := blk_frozen BK156.out 1
                have hfz70_2 := blk_frozen BK156.out 2
                have hfz70_3 := blk_frozen BK156.out 3
                have hfz70_4 := blk_frozen BK156.out 4
                have hnb71 := NB149_0.out
                have hnc71 := NB0_149.out
                have hcz72_0 : w64.cell? ⟨gb149, 0, none⟩ = some (.slice none 0 0) := (blk_cell BK149.out 0).trans rfl
                have hcz72_1 : w64.cell? ⟨gb149, 1, none⟩ = some (.slice none 0 0) := (blk_cell BK149.out 1).trans rfl
                have hcz72_2 : w64.cell? ⟨gb149, 2, none⟩ = some (.slice none 0 0) := (blk_cell BK149.out 2).trans rfl
                have hcz72_3 : w64.cell? ⟨gb149, 3, none⟩ = some (.slice none 0 0) := (blk_cell BK149.out 3).trans rfl
                have hcz72_4 : w64.cell? ⟨gb149, 4, none⟩ = some (.int .i64 0) := (blk_cell BK149.out 4).trans rfl
                have hfz72_0 := blk_frozen BK149.out 0
                have hfz72_1 := blk_frozen BK149.out 1
                have hfz72_2 := blk_frozen BK149.out 2
                have hfz72_3 := blk_frozen BK149.out 3
                have hfz72_4 := blk_frozen BK149.out 4
                obtain ⟨Ao73, co73, eo73⟩ := Kd.R_slice HO_157002.out
                subst eo73
                obtain ⟨Ao74, co74, eo74⟩ := Kd.R_slice HO_157003.out
                subst eo74
                try go_wp2
                refine bodyPost_ret (results_cell_row rfl _ _ gb149 30 #[.slice (some ad178) x157000_1.length co62, .slice Ao66 y181.length co66, .slice Ao73 x157002_3.length co73, .slice Ao74 x157003_4.length co74, .int .i64 t153] (0, 0) _ rfl (by (with_reducible repeat (first | refine blk_drewN ?_ _ | refine blk_drew ?_ | refine blk_alloc ?_ _)); refine blk_put (cs := #[.slice (some ad178) x157000_1.length co62, .slice Ao66 y181.length co66, .slice Ao73 x157002_3.length co73, .slice Ao74 x157003_4.length co74, .int .i64 0]) ?_ 4 _ rfl; (with_reducible repeat (first | refine blk_drewN ?_ _ | refine blk_drew ?_ | refine blk_alloc ?_ _)); refine blk_put (cs := #[.slice (some ad178) x157000_1.length co62, .slice Ao66 y181.length co66, .slice Ao73 x157002_3.length co73, .slice none 0 0, .int .i64 0]) ?_ 3 _ rfl; (with_reducible repeat (first | refine blk_drewN ?_ _ | refine blk_drew ?_ | refine blk_alloc ?_ _)); refine blk_put (cs := #[.slice (some ad178) x157000_1.length co62, .slice Ao66 y181.length co66, .slice none 0 0, .slice none 0 0, .int .i64 0]) ?_ 2 _ rfl; (with_reducible repeat (first | refine blk_drewN ?_ _ | refine blk_drew ?_ | refine blk_alloc ?_ _)); refine blk_put (cs := #[.slice (some ad178) x157000_1.length co62, .slice none 0 0, .slice none 0 0, .slice none 0 0, .int .i64 0]) ?_ 1 _ rfl; (with_reducible repeat (first | refine blk_drewN ?_ _ | refine blk_drew ?_ | refine blk_alloc ?_ _)); refine blk_put (cs := #[.slice none 0 0, .slice none 0 0, .slice none 0 0, .slice none 0 0, .int .i64 0]) ?_ 0 _ rfl; (with_reducible repeat (first | refine blk_drewN ?_ _ | refine blk_drew ?_ | refine blk_alloc ?_ _)); refine blk_far ?_ NB149_156.out _; (with_reducible repeat (first | refine blk_drewN ?_ _ | refine blk_drew ?_ | refine blk_alloc ?_ _)); exact BK149.out) Try.underlying30 rfl (by kernel_rfl)) rfl ?_
                exact ⟨_, _, _, _, by first | rfl | (simp [errW_none, errW_some] <;> rfl) | (simp [*, errW_none, errW_some] <;> rfl), by (with_reducible repeat (first | apply Kd.R_alloc | apply Kd.R_drewN | apply Kd.R_drew)); exact Kd.R_mono (Kd.R_far (p := ⟨gb149, 4, none⟩) (Kd.R_far (p := ⟨gb149, 3, none⟩) (Kd.R_far (p := ⟨gb149, 2, none⟩) (Kd.R_far (p := ⟨gb149, 1, none⟩) (Kd.R_far (p := ⟨gb149, 0, none⟩) (Kd.R_far (p := ⟨gb156, 1, none⟩) (Kd.R_types (Kd.R_types HO_157000.out BK156.out (by decide)) BK149.out (by decide)) (fun _ hk => hk.1.2) (.slice Ao66 y181.length co66)) (fun _ hk => hk.2) (.slice (some ad178) x157000_1.length co62)) (fun _ hk => hk.2) (.slice Ao66 y181.length co66)) (fun _ hk => hk.2) (.slice Ao73 x157002_3.length co73)) (fun _ hk => hk.2) (.slice Ao74 x157003_4.length co74)) (fun _ hk => hk.2) (.int .i64 t153)) (fun _ hk => hk.1.1.2), by (with_reducible repeat (first | apply Kd.R_alloc | apply Kd.R_drewN | apply Kd.R_drew)); exact Kd.R_mono (Kd.R_far (p := ⟨gb149, 4, none⟩) (Kd.R_far (p := ⟨gb149, 3, none⟩) (Kd.R_far (p := ⟨gb149, 2, none⟩) (Kd.R_far (p := ⟨gb149, 1, none⟩) (Kd.R_far (p := ⟨gb149, 0, none⟩) (Kd.R_far (p := ⟨gb156, 1, none⟩) (Kd.R_types (Kd.R_types HO183.out BK156.out (by decide)) BK149.out (by decide)) (fun _ hk => hk.1.2) (.slice Ao66 y181.length co66)) (fun _ hk => hk.2) (.slice (some ad178) x157000_1.length co62)) (fun _ hk => hk.2) (.slice Ao66 y181.length co66)) (fun _ hk => hk.2) (.slice Ao73 x157002_3.length co73)) (fun _ hk => hk.2) (.slice Ao74 x157003_4.length co74)) (fun _ hk => hk.2) (.int .i64 t153)) (fun _ hk => hk.1.1.1.2), by (with_reducible repeat (first | apply Kd.R_alloc | apply Kd.R_drewN | apply Kd.R_drew)); exact Kd.R_mono (Kd.R_far (p := ⟨gb149, 4, none⟩) (Kd.R_far (p := ⟨gb149, 3, none⟩) (Kd.R_far (p := ⟨gb149, 2, none⟩) (Kd.R_far (p := ⟨gb149, 1, none⟩) (Kd.R_far (p := ⟨gb149, 0, none⟩) (Kd.R_far (p := ⟨gb156, 1, none⟩) (Kd.R_types (Kd.R_types HO_157002.out BK156.out (by decide)) BK149.out (by decide)) (fun _ hk => hk.1.2) (.slice Ao66 y181.length co66)) (fun _ hk => hk.2) (.slice (some ad178) x157000_1.length co62)) (fun _ hk => hk.2) (.slice Ao66 y181.length co66)) (fun _ hk => hk.2) (.slice Ao73 x157002_3.length co73)) (fun _ hk => hk.2) (.slice Ao74 x157003_4.length co74)) (fun _ hk => hk.2) (.int .i64 t153)) (fun _ hk => hk.1.1), by (with_reducible repeat (first | apply Kd.R_alloc | apply Kd.R_drewN | apply Kd.R_drew)); exact Kd.R_mono (Kd.R_far (p := ⟨gb149, 4, none⟩) (Kd.R_far (p := ⟨gb149, 3, none⟩) (Kd.R_far (p := ⟨gb149, 2, none⟩) (Kd.R_far (p := ⟨gb149, 1, none⟩) (Kd.R_far (p := ⟨gb149, 0, none⟩) (Kd.R_far (p := ⟨gb156, 1, none⟩) (Kd.R_types (Kd.R_types HO_157003.out BK156.out (by decide)) BK149.out (by decide)) (fun _ hk => hk.1.2) (.slice Ao66 y181.length co66)) (fun _ hk => hk.2) (.slice (some ad178) x157000_1.length co62)) (fun _ hk => hk.2) (.slice Ao66 y181.length co66)) (fun _ hk => hk.2) (.slice Ao73 x157002_3.length co73)) (fun _ hk => hk.2) (.slice Ao74 x157003_4.length co74)) (fun _ hk => hk.2) (.int .i64 t153)) (fun _ hk => hk.1.1), IsS130.qHI0, IsS130.bHI0, by repeat (first | (with_reducible first | exact HK.out | apply KeepBut.set_ | apply keep_drewN | apply keep_drew | apply keep_alloc | refine keep_far ?_ GW149.out _ | refine keep_far ?_ GW156.out _) | exact HK.out)⟩
               ·rw [if_neg c59] at H
                exact absurd H (by simp)
              ·rw [if_neg c58] at H
               exact absurd H (by simp)
             ·replace c57 := Bool.eq_false_iff.mpr c57
              subst c57
              have H1 : (some (x157000_1, x157001_2, x157002_3, x157003_4, t153, t176, t177)) = some (r1, r2, r3, r4, r5, r6, r7) := by rw [if_neg (show ¬ (false = true) by decide)] at H; exact H
              clear H
              have H := H1
              clear H1
              simp only [Option.some.injEq, Prod.mk.injEq] at H
              obtain ⟨rfl, rfl, rfl, rfl, rfl, rfl, rfl⟩ := H
              go_wp2_with (first | ((with_reducible refine gate_callee (f := 65) rfl ?_); refine goesL_ (some 85) rfl rfl Try.func65 (by kernel_rfl) rfl #[.pointer (some ⟨g, 0, none⟩), .int .i64 3] rfl eA ?_; (with_reducible refine (spec_l1Once.calls g s0_0 x1001_4 x1002_4 3 false t176 t177 w0 _ ?side1 ?side2 A56.out).mono ?_); (case side1 => exact IsS130.qHI0); (case side2 => exact IsS130.bHI0); rintro e w75 ⟨rfl, hi, hb, hk⟩; refine ⟨_, rfl, ?_⟩; have n0_ := Aside0.mk (IsS130.rK hk (kR HO_157000.out) (show IsS130 w0 _ g s0_0 x1001_4 x1002_4 from IsS130.qHI0)); have n1_ := Aside0.mk (IsS130.rK hk (kR HO_157001.out) (show IsS130 w0 _ g s0_0 x1001_4 x1002_4 from IsS130.qHI0)); have n2_ := Aside0.mk (IsS130.rK hk (kR HO_157002.out) (show IsS130 w0 _ g s0_0 x1001_4 x1002_4 from IsS130.qHI0)); have n3_ := Aside0.mk (IsS130.rK hk (kR HO_157003.out) (show IsS130 w0 _ g s0_0 x1001_4 x1002_4 from IsS130.qHI0)); have n4_ := Aside0.mk (KeepBut.blk hk (g' := gb149) (o := .cells #[.slice none 0 0, .slice none 0 0, .slice none 0 0, .slice none 0 0, .int .i64 0] 30 (0, 0)) (kB BK149.out) NB149_0.out (by simp)); have n5_ := Aside0.mk (KeepBut.blk hk (g' := gb156) (o := .cells #[u157000, u157001, u157002, u157003, .int .i64 t153] 30 (0, 0)) (kB BK156.out) NB156_0.out (by simp)); have n6_ := Aside0.mk (KeepBut.trans kK hk (.inl rfl)); have n7_ := Aside0.mk (hb); have n8_ := Aside0.mk (hi); clear HO_157000; clear HO_157001; clear HO_157002; clear HO_157003; clear BK149; clear BK156; clear HK; clear HB; clear HI0; have HO_157000 := n0_; have HO_157001 := n1_; have HO_157002 := n2_; have HO_157003 := n3_; have BK149 := n4_; have BK156 := n5_; have HK := n6_; have HB := n7_; have HI0 := n8_; clear n0_ n1_ n2_ n3_ n4_ n5_ n6_ n7_ n8_; (try clear hb); (try clear hb2); (try clear hk); (try clear hi); have hnb76 := NB156_149.out; have hnc76 := NB149_156.out; have hnb77 := NB156_0.out; have hnc77 := NB0_156.out; have hcz78_0 : w75.cell? ⟨gb156, 0, none⟩ = some (u157000) := (blk_cell BK156.out 0).trans rfl; have hcz78_1 : w75.cell? ⟨gb156, 1, none⟩ = some (u157001) := (blk_cell BK156.out 1).trans rfl; have hcz78_2 : w75.cell? ⟨gb156, 2, none⟩ = some (u157002) := (blk_cell BK156.out 2).trans rfl; have hcz78_3 : w75.cell? ⟨gb156, 3, none⟩ = some (u157003) := (blk_cell BK156.out 3).trans rfl; have hcz78_4 : w75.cell? ⟨gb156, 4, none⟩ = some (.int .i64 t153) := (blk_cell BK156.out 4).trans rfl; have hfz78_0 := blk_frozen BK156.out 0; have hfz78_1 := blk_frozen BK156.out 1; have hfz78_2 := blk_frozen BK156.out 2; have hfz78_3 := blk_frozen BK156.out 3; have hfz78_4 := blk_frozen BK156.out 4; obtain ⟨Ao79, co79, eo79⟩ := Kd.R_slice HO_157000.out; subst eo79; have hnb80 := NB149_0.out; have hnc80 := NB0_149.out; have hcz81_0 : w75.cell? ⟨gb149, 0, none⟩ = some (.slice none 0 0) := (blk_cell BK149.out 0).trans rfl; have hcz81_1 : w75.cell? ⟨gb149, 1, none⟩ = some (.slice none 0 0) := (blk_cell BK149.out 1).trans rfl; have hcz81_2 : w75.cell? ⟨gb149, 2, none⟩ = some (.slice none 0 0) := (blk_cell BK149.out 2).trans rfl; have hcz81_3 : w75.cell? ⟨gb149, 3, none⟩ = some (.slice none 0 0) := (blk_cell BK149.out 3).trans rfl; have hcz81_4 : w75.cell? ⟨gb149, 4, none⟩ = some (.int .i64 0) := (blk_cell BK149.out 4).trans rfl; have hfz81_0 := blk_frozen BK149.out 0; have hfz81_1 := blk_frozen BK149.out 1; have hfz81_2 := blk_frozen BK149.out 2; have hfz81_3 := blk_frozen BK149.out 3; have hfz81_4 := blk_frozen BK149.out 4; obtain ⟨Ao82, co82, eo82⟩ := Kd.R_slice HO_157001.out; subst eo82; obtain ⟨Ao83, co83, eo83⟩ := Kd.R_slice HO_157002.out; subst eo83; obtain ⟨Ao84, co84, eo84⟩ := Kd.R_slice HO_157003.out; subst eo84))
              refine bodyPost_ret (results_cell_row rfl _ _ gb149 30 #[.slice Ao79 x157000_1.length co79, .slice Ao82 x157001_2.length co82, .slice Ao83 x157002_3.length co83, .slice Ao84 x157003_4.length co84, .int .i64 t153] (0, 0) _ rfl (by (with_reducible repeat (first | refine blk_drewN ?_ _ | refine blk_drew ?_ | refine blk_alloc ?_ _)); refine blk_put (cs := #[.slice Ao79 x157000_1.length co79, .slice Ao82 x157001_2.length co82, .slice Ao83 x157002_3.length co83, .slice Ao84 x157003_4.length co84, .int .i64 0]) ?_ 4 _ rfl; (with_reducible repeat (first | refine blk_drewN ?_ _ | refine blk_drew ?_ | refine blk_alloc ?_ _)); refine blk_put (cs := #[.slice Ao79 x157000_1.length co79, .slice Ao82 x157001_2.length co82, .slice Ao83 x157002_3.length co83, .slice none 0 0, .int .i64 0]) ?_ 3 _ rfl; (with_reducible repeat (first | refine blk_drewN ?_ _ | refine blk_drew ?_ | refine blk_alloc ?_ _)); refine blk_put (cs := #[.slice Ao79 x157000_1.length co79, .slice Ao82 x157001_2.length co82, .slice none 0 0, .slice none 0 0, .int .i64 0]) ?_ 2 _ rfl; (with_reducible repeat (first | refine blk_drewN ?_ _ | refine blk_drew ?_ | refine blk_alloc ?_ _)); refine blk_put (cs := #[.slice Ao79 x157000_1.length co79, .slice none 0 0, .slice none 0 0, .slice none 0 0, .int .i64 0]) ?_ 1 _ rfl; (with_reducible repeat (first | refine blk_drewN ?_ _ | refine blk_drew ?_ | refine blk_alloc ?_ _)); refine blk_put (cs := #[.slice none 0 0, .slice none 0 0, .slice none 0 0, .slice none 0 0, .int .i64 0]) ?_ 0 _ rfl; (with_reducible repeat (first | refine blk_drewN ?_ _ | refine blk_drew ?_ | refine blk_alloc ?_ _)); exact BK149.out) Try.underlying30 rfl (by kernel_rfl)) rfl ?_
              exact ⟨_, _, _, _, by first | rfl | (simp [errW_none, errW_some] <;> rfl) | (simp [*, errW_none, errW_some] <;> rfl), by (with_reducible repeat (first | apply Kd.R_alloc | apply Kd.R_drewN | apply Kd.R_drew)); exact Kd.R_mono (Kd.R_far (p := ⟨gb149, 4, none⟩) (Kd.R_far (p := ⟨gb149, 3, none⟩) (Kd.R_far (p := ⟨gb149, 2, none⟩) (Kd.R_far (p := ⟨gb149, 1, none⟩) (Kd.R_far (p := ⟨gb149, 0, none⟩) (Kd.R_types HO_157000.out BK149.out (by decide)) (fun _ hk => hk.2) (.slice Ao79 x157000_1.length co79)) (fun _ hk => hk.2) (.slice Ao82 x157001_2.length co82)) (fun _ hk => hk.2) (.slice Ao83 x157002_3.length co83)) (fun _ hk => hk.2) (.slice Ao84 x157003_4.length co84)) (fun _ hk => hk.2) (.int .i64 t153)) (fun _ hk => hk.1), by (with_reducible repeat (first | apply Kd.R_alloc | apply Kd.R_drewN | apply Kd.R_drew)); exact Kd.R_mono (Kd.R_far (p := ⟨gb149, 4, none⟩) (Kd.R_far (p := ⟨gb149, 3, none⟩) (Kd.R_far (p := ⟨gb149, 2, none⟩) (Kd.R_far (p := ⟨gb149, 1, none⟩) (Kd.R_far (p := ⟨gb149, 0, none⟩) (Kd.R_types HO_157001.out BK149.out (by decide)) (fun _ hk => hk.2) (.slice Ao79 x157000_1.length co79)) (fun _ hk => hk.2) (.slice Ao82 x157001_2.length co82)) (fun _ hk => hk.2) (.slice Ao83 x157002_3.length co83)) (fun _ hk => hk.2) (.slice Ao84 x157003_4.length co84)) (fun _ hk => hk.2) (.int .i64 t153)) (fun _ hk => hk.1), by (with_reducible repeat (first | apply Kd.R_alloc | apply Kd.R_drewN | apply Kd.R_drew)); exact Kd.R_mono (Kd.R_far (p := ⟨gb149, 4, none⟩) (Kd.R_far (p := ⟨gb149, 3, none⟩) (Kd.R_far (p := ⟨gb149, 2, none⟩) (Kd.R_far (p := ⟨gb149, 1, none⟩) (Kd.R_far (p := ⟨gb149, 0, none⟩) (Kd.R_types HO_157002.out BK149.out (by decide)) (fun _ hk => hk.2) (.slice Ao79 x157000_1.length co79)) (fun _ hk => hk.2) (.slice Ao82 x157001_2.length co82)) (fun _ hk => hk.2) (.slice Ao83 x157002_3.length co83)) (fun _ hk => hk.2) (.slice Ao84 x157003_4.length co84)) (fun _ hk => hk.2) (.int .i64 t153)) (fun _ hk => hk.1), by (with_reducible repeat (first | apply Kd.R_alloc | apply Kd.R_drewN | apply Kd.R_drew)); exact Kd.R_mono (Kd.R_far (p := ⟨gb149, 4, none⟩) (Kd.R_far (p := ⟨gb149, 3, none⟩) (Kd.R_far (p := ⟨gb149, 2, none⟩) (Kd.R_far (p := ⟨gb149, 1, none⟩) (Kd.R_far (p := ⟨gb149, 0, none⟩) (Kd.R_types HO_157003.out BK149.out (by decide)) (fun _ hk => hk.2) (.slice Ao79 x157000_1.length co79)) (fun _ hk => hk.2) (.slice Ao82 x157001_2.length co82)) (fun _ hk => hk.2) (.slice Ao83 x157002_3.length co83)) (fun _ hk => hk.2) (.slice Ao84 x157003_4.length co84)) (fun _ hk => hk.2) (.int .i64 t153)) (fun _ hk => hk.1), IsS130.qHI0, IsS130.bHI0, by repeat (first | (with_reducible first | exact HK.out | apply KeepBut.set_ | apply keep_drewN | apply keep_drew | apply keep_alloc | refine keep_far ?_ GW149.out _ | refine keep_far ?_ GW156.out _) | exact HK.out)⟩

end Go.Proofs.Ytmhjpnjolgigmaa.OFnWay
-- halved
-- squeezed
-- squeezed2
