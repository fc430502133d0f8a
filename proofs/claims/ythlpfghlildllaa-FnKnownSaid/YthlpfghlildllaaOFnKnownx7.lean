-- walks of this claim, written by a program of mine
import Derived.Test.YthlpfghlildllaaOFnKnownx0
import Derived.Test.YthlpfghlildllaaOFnKnownx3
import Derived.Test.YthlpfghlildllaaOFnKnownx4
import Derived.Test.YthlpfghlildllaaOFnKnownx6
namespace Go.Proofs.Ythlpfghlildllaa.OFnKnown
open Go.RowKit Go.Proofs.Ythlpfghlildllaa.OWord Go.Proofs.YthlpfghlildllaaW.PrintWords Go.Proofs.YthlpfghlildllaaW.PrintLast Go.Proofs.YthlpfghlildllaaW.PrintMore
attribute [local go_sem] max2_int min2_int max_two min_two max_three min_three max_four min_four   -- for this text's walks alone
set_option linter.unusedVariables false
set_option linter.unusedSimpArgs false

/-! ### spec_l3Known: function 37 -/
def spec_l3Known.l0 : Nat → Int → List Int → Int → Int → List ByteArray → List Int → Option (List ByteArray × List Int × Int × Int)
 | 0, _, _, _, _, _, _ => none
 | k + 1, x6, x1000, x1001, x1002, x290000, x290001 => if x6 > 0 then ((spec_l1Once.f x1000 x1001 x1002 4).bind fun bt293 => (if bt293.1 = true then ((spec_l1Below.f x1000 bt293.2.1 bt293.2.2 6).bind fun bt296 => ((spec_l3Put.f k x290001 (wrap64 (1 + bt296.1))).bind fun t299 => (spec_l3Known.l0 k (wrap64 (x6 - 1)) x1000 bt296.2.1 bt296.2.2 x290000 t299))) else ((spec_l2Some.f k x1000 bt293.2.1 bt293.2.2 4).bind fun bt302 => ((spec_l3Learn.f k x290000 x290001 bt302.1).bind fun bt305 => (spec_l3Known.l0 k (wrap64 (x6 - 1)) x1000 bt302.2.1 bt302.2.2 bt305.1 bt305.2))))) else ((spec_l1Once.f x1000 x1001 x1002 10).bind fun bt311 => (if bt311.1 = true then ((spec_l1Below.f x1000 bt311.2.1 bt311.2.2 3).bind fun bt314 => (if bt314.1 = 0 then ((spec_l1PickInt.f x1000 bt314.2.1 bt314.2.2 (([0, 1, 1000001] : List Int))).bind fun bt320 => (if x290001.length < 17592186044416 then (some (x290000, (x290001 ++ [bt320.1]), bt320.2.1, bt320.2.2)) else (none))) else (if bt314.1 = 1 then ((spec_l2Any.f k x1000 bt314.2.1 bt314.2.2).bind fun bt326 => (if x290000.length < 8796093022208 then (some ((x290000 ++ [bt326.1]), x290001, bt326.2.1, bt326.2.2)) else (none))) else (if (x290000.length : Int) > 0 then (if 0 < (x290000.length : Int) then (if x290000.length < 8796093022208 then (some ((x290000 ++ [rdOf ByteArray.empty x290000 0]), x290001, bt314.2.1, bt314.2.2)) else (none)) else (none)) else (some (x290000, x290001, bt314.2.1, bt314.2.2)))))) else (some (x290000, x290001, bt311.2.1, bt311.2.2))))
def spec_l3Known.f (k : Nat) (s0_0 : List Int) (s0_1 : Int) (s0_2 : Int) (a1 : Int) : Option (List ByteArray × List Int × Int × Int) := (spec_l1Below.f s0_0 s0_1 s0_2 a1).bind fun bt290 => (spec_l3Known.l0 k bt290.1 s0_0 bt290.2.1 bt290.2.2 ([] : List ByteArray) ([] : List Int))
def spec_l3Known.T6 : Bool × List (List Nat × List Nat) := (true, [([], []), ([0], [0]), ([], []), ([2], [2]), ([3], [3]), ([1, 4, 3], [1, 4]), ([0, 1, 2, 3, 4, 5], []), ([6, 5, 5, 0, 1, 2, 3, 4, 5], [5, 6])])
def spec_l3Known.B6 : List Nat := [0, 1, 0, 4, 12, 31, 63, 127]
theorem spec_l3Known.tab6 : rtab .any (opsOf Try.f37 6) = spec_l3Known.T6 := by kernel_rfl
theorem spec_l3Known.bits6 : waitsOk spec_l3Known.T6.2 spec_l3Known.B6 = true := by kernel_rfl
def spec_l3Known.T11 : Bool × List (List Nat × List Nat) := (true, [([], []), ([0], [0]), ([], []), ([2], [2]), ([3], [3]), ([4], [4]), ([5], [5]), ([1, 6], [1, 6]), ([0, 1, 2, 3, 4, 5, 6, 7], []), ([8, 7, 7, 0, 1, 2, 3, 4, 5, 6, 7], [7, 8])])
def spec_l3Known.B11 : List Nat := [0, 1, 0, 4, 12, 28, 60, 127, 255, 511]
theorem spec_l3Known.tab11 : rtab .any (opsOf Try.f37 11) = spec_l3Known.T11 := by kernel_rfl
theorem spec_l3Known.bits11 : waitsOk spec_l3Known.T11.2 spec_l3Known.B11 = true := by kernel_rfl
def spec_l3Known.T13 : Bool × List (List Nat × List Nat) := (true, [([], []), ([0], [0]), ([], []), ([], []), ([2, 3], [2, 3]), ([4], [4]), ([1, 5, 4], [1, 5]), ([0, 1, 2, 3, 4, 5, 6], []), ([7, 6, 6, 0, 1, 2, 3, 4, 5, 6], [6, 7])])
def spec_l3Known.B13 : List Nat := [0, 1, 0, 0, 12, 28, 63, 127, 255]
theorem spec_l3Known.tab13 : rtab .any (opsOf Try.f37 13) = spec_l3Known.T13 := by kernel_rfl
theorem spec_l3Known.bits13 : waitsOk spec_l3Known.T13.2 spec_l3Known.B13 = true := by kernel_rfl
def spec_l3Known.T15 : Bool × List (List Nat × List Nat) := (true, [([], []), ([0], [0]), ([], []), ([2], [2]), ([3], [3]), ([1, 4, 3], [1, 4]), ([0, 1, 2, 3, 4, 5], []), ([6, 5, 5, 0, 1, 2, 3, 4, 5], [5, 6])])
def spec_l3Known.B15 : List Nat := [0, 1, 0, 4, 12, 31, 63, 127]
theorem spec_l3Known.tab15 : rtab .any (opsOf Try.f37 15) = spec_l3Known.T15 := by kernel_rfl
theorem spec_l3Known.bits15 : waitsOk spec_l3Known.T15.2 spec_l3Known.B15 = true := by kernel_rfl
set_option maxHeartbeats 8000000 in
set_option maxRecDepth 100000 in
theorem spec_l3Known.calls (k : Nat) (g : Nat) (s0_0 : List Int) (s0_1 : Int) (s0_2 : Int) (a1 : Int) (r1 : List ByteArray) (r2 : List Int) (r3 : Int) (r4 : Int) (w0 w : World) (hI : IsS81 w0 w g s0_0 s0_1 s0_2) (hB : Below w0.heap.size w0 w) (h : spec_l3Known.f k s0_0 s0_1 s0_2 a1 = some (r1, r2, r3, r4)) :
  Calls Try.prog 37 #[.pointer (some ⟨g, 0, none⟩), .int .i64 a1] w fun e w' => ∃ v0_ v1_ : Value, e = .returned (.agg #[v0_, v1_]) ∧ Kd.R Kd.string 9 w' w.heap.size (fun _ => True) v0_ r1 ∧ Kd.R (Kd.int .i64) 3 w' w.heap.size (fun _ => True) v1_ r2 ∧ IsS81 w0 w' g s0_0 r3 r4 ∧ Below w0.heap.size w0 w' ∧ KeepBut w w' g none := by
 have hu27 := Try.underlying27
 have HI0 := Aside0.mk hI
 have HK := Aside0.mk (KeepBut.refl w g none)
 have HL := Aside0.mk hB.size
 clear hI
 have HW0 := Aside0.mk hB.size
 have HB := Aside0.mk hB
 clear hB
 have H := h
 clear h
 unfold spec_l3Known.f at H
 obtain ⟨⟨t290, t291, t292⟩, A3, H⟩ := oB H
 dsimp only at H
 have H' := Aside0.mk H
 clear H
 go_enter Try.func37, Try.ntmps37
 go_wp2_with (first | (refine bE 4 #[.slice none 0 0, .slice none 0 0] 27 ?_; intro gb288 hg w4 hbox hb; have n_ := aT (IsS81.below IsS81.qHI0 hb) (aT (KeepBut.trans kK (KeepBut.of_below hb g none) (.inl rfl)) (aT (below_step IsS81.bHI0 hb) (aT (hbox) (aT ((kZ hg : w.heap.size ≤ gb288)) (aT ((Nat.le_trans HW0.out (kZ hg : w.heap.size ≤ gb288) : w0.heap.size ≤ gb288)) (aT ((by rw [hg]; exact Nat.ne_of_lt (IsS81.lt (show IsS81 w0 _ g s0_0 s0_1 s0_2 from IsS81.qHI0)) : g ≠ gb288)) (aM ((by rw [hg]; exact Nat.ne_of_gt (IsS81.lt (show IsS81 w0 _ g s0_0 s0_1 s0_2 from IsS81.qHI0)) : gb288 ≠ g))))))))); clear HI0 HK HB; obtain ⟨HI0, HK, HB, BK288, GW288, GE288, NB0_288, NB288_0⟩ := n_; clear hb hbox hg) | (refine bE 5 #[.slice none 0 0, .slice none 0 0] 27 ?_; intro gb289 hg w5 hbox hb; have n_ := aT (IsS81.below IsS81.qHI0 hb) (aT (blk_below (kB BK288.out) hb) (aT (KeepBut.trans kK (KeepBut.of_below hb g none) (.inl rfl)) (aT (below_step IsS81.bHI0 hb) (aT (hbox) (aT ((kZ hg : w.heap.size ≤ gb289)) (aT ((Nat.le_trans HW0.out (kZ hg : w.heap.size ≤ gb289) : w0.heap.size ≤ gb289)) (aT ((nL hg BK288.out : gb288 ≠ gb289)) (aT ((nG hg BK288.out : gb289 ≠ gb288)) (aT ((by rw [hg]; exact Nat.ne_of_lt (IsS81.lt (show IsS81 w0 _ g s0_0 s0_1 s0_2 from IsS81.qHI0)) : g ≠ gb289)) (aM ((by rw [hg]; exact Nat.ne_of_gt (IsS81.lt (show IsS81 w0 _ g s0_0 s0_1 s0_2 from IsS81.qHI0)) : gb289 ≠ g)))))))))))); clear HI0 BK288 HK HB; obtain ⟨HI0, BK288, HK, HB, BK289, GW289, GE289, NB288_289, NB289_288, NB0_289, NB289_0⟩ := n_; clear hb hbox hg; have hnb6 := NB289_288.out; have hnc6 := NB288_289.out; have hnb7 := NB289_0.out; have hnc7 := NB0_289.out; have hcz8_0 : w5.cell? ⟨gb289, 0, none⟩ = some (.slice none 0 0) := (blk_cell BK289.out 0).trans rfl; have hcz8_1 : w5.cell? ⟨gb289, 1, none⟩ = some (.slice none 0 0) := (blk_cell BK289.out 1).trans rfl; have hfz8_0 := blk_frozen BK289.out 0; have hfz8_1 := blk_frozen BK289.out 1) | (refine gL 41 (some 10) Try.func41 #[.pointer (some ⟨g, 0, none⟩), .int .i64 a1] ?_; (with_reducible refine (spec_l1Below.calls g s0_0 s0_1 s0_2 a1 t290 t291 t292 w0 _ ?side1 ?side2 A3.out).mono ?_); (case side1 => exact IsS81.qHI0); (case side2 => exact IsS81.bHI0); rintro e w9 ⟨rfl, hi, hb, hk⟩; refine ⟨_, rfl, ?_⟩; have n_ := aT (KeepBut.blk hk (g' := gb288) (o := .cells #[.slice none 0 0, .slice none 0 0] 27 (0, 0)) (kF2 NB288_289.out BK288.out) NB288_0.out (by simp)) (aT (KeepBut.blk hk (g' := gb289) (o := .cells #[.slice none 0 0, .slice none 0 0] 27 (0, 0)) (by (with_reducible repeat (first | refine blk_drewN ?_ _ | refine blk_drew ?_ | refine blk_alloc ?_ _)); refine blk_put (cs := #[.slice none 0 0, .slice none 0 0]) ?_ 1 _ rfl; (with_reducible repeat (first | refine blk_drewN ?_ _ | refine blk_drew ?_ | refine blk_alloc ?_ _)); refine blk_put (cs := #[.slice none 0 0, .slice none 0 0]) ?_ 0 _ rfl; (with_reducible repeat (first | refine blk_drewN ?_ _ | refine blk_drew ?_ | refine blk_alloc ?_ _)); exact BK289.out) NB289_0.out (by simp)) (aT (KeepBut.trans kK hk (.inl rfl)) (aT (hb) (aM (hi))))); clear BK288 BK289 HK HB HI0; obtain ⟨BK288, BK289, HK, HB, HI0⟩ := n_; (try clear hb); (try clear hk); (try clear hi)))
 go_loopg [6] k (fun kq v6 w' => ∃ (x6_1 : Int) (x1001_1 : Int) (x1002_1 : Int) (x290000_1 : List ByteArray) (x290001_1 : List Int) (u290000 : Value) (u290001 : Value), v6 = .int .i64 x6_1 ∧ Aside0 (spec_l3Known.l0 kq x6_1 s0_0 x1001_1 x1002_1 x290000_1 x290001_1 = some (r1, r2, r3, r4)) ∧ Aside0 (kq ≤ k) ∧ Aside0 (Kd.R Kd.string 9 w' w.heap.size (fun _ => True) u290000 x290000_1) ∧ Aside0 (Kd.R (Kd.int .i64) 3 w' w.heap.size (fun _ => True) u290001 x290001_1) ∧ Aside0 (w'.heap[gb288]? = some (.cells #[(.slice none 0 0), (.slice none 0 0)] 27 (0, 0))) ∧ Aside0 (w'.heap[gb289]? = some (.cells #[u290000, u290001] 27 (0, 0))) ∧ Aside0 (IsS81 w0 w' g s0_0 x1001_1 x1002_1) ∧ Aside0 (KeepBut w w' g none) ∧ Aside0 (Below w0.heap.size w0 w'))
 case atStart => exact ⟨(t290), (t291), (t292), (([] : List ByteArray)), (([] : List Int)), (.slice none 0 0), (.slice none 0 0), eX, H', ⟨Nat.le_refl _⟩, ⟨(by first | exact Kd.R_nil _ _ _ _ _ | exact Kd.N_nil _ _ _ _ _ | exact Kd.V_nil _ _ _ _ _ | exact Kd.Q_nil _ _ _ _ _ | exact Kd.S_nil _ _ _ _ _)⟩, ⟨(by first | exact Kd.R_nil _ _ _ _ _ | exact Kd.N_nil _ _ _ _ _ | exact Kd.V_nil _ _ _ _ _ | exact Kd.Q_nil _ _ _ _ _ | exact Kd.S_nil _ _ _ _ _)⟩, ⟨(kB BK288.out)⟩, ⟨(kB BK289.out)⟩, ⟨IsS81.qHI0⟩, ⟨kK⟩, ⟨IsS81.bHI0⟩⟩
 case round =>
  clear H'
  try clear hcz8_0
  try clear hcz8_1
  try clear hfz8_0
  try clear hfz8_1
  obtain ⟨x6_1, x1001_1, x1002_1, x290000_1, x290001_1, u290000, u290001, rfl, HA, HK1, HO_290000, HO_290001, BK288, BK289, HI0, HK, HB⟩ := hrel
  cases gk with
  | zero => exact absurd HA.out (by simp [spec_l3Known.l0])
  | succ k1 =>
   have H := HA.out
   clear HA
   simp only [spec_l3Known.l0] at H
   by_cases c10 : x6_1 > 0
   ·rw [if_pos c10] at H
    have c10b0 : decide (0 < x6_1) = true := decide_eq_true c10
    clear c10
    obtain ⟨⟨t293, t294, t295⟩, A11, H⟩ := oB H
    dsimp only at H
    by_cases c12 : t293 = true
    ·subst c12
     rw [if_pos rfl] at H
     obtain ⟨⟨t296, t297, t298⟩, A13, H⟩ := oB H
     dsimp only at H
     obtain ⟨t299, A14, H⟩ := oB H
     have H' := Aside0.mk H
     clear H
     try go_wp2_with (first | (refine gL 40 (some 16) Try.func40 #[.pointer (some ⟨g, 0, none⟩), .int .i64 4] ?_; (with_reducible refine (spec_l1Once.calls g s0_0 x1001_1 x1002_1 4 true t294 t295 w0 _ ?side1 ?side2 A11.out).mono ?_); (case side1 => exact IsS81.qHI0); (case side2 => exact IsS81.bHI0); rintro e w15 ⟨rfl, hi, hb, hk⟩; refine ⟨_, rfl, ?_⟩; have n_ := aT (IsS81.rK hk (kR HO_290000.out) (show IsS81 w0 _ g s0_0 x1001_1 x1002_1 from IsS81.qHI0)) (aT (IsS81.rK hk (kR HO_290001.out) (show IsS81 w0 _ g s0_0 x1001_1 x1002_1 from IsS81.qHI0)) (aT (KeepBut.blk hk (g' := gb288) (o := .cells #[.slice none 0 0, .slice none 0 0] 27 (0, 0)) (kB BK288.out) NB288_0.out (by simp)) (aT (KeepBut.blk hk (g' := gb289) (o := .cells #[u290000, u290001] 27 (0, 0)) (kB BK289.out) NB289_0.out (by simp)) (aT (KeepBut.trans kK hk (.inl rfl)) (aT (hb) (aM (hi))))))); clear HO_290000 HO_290001 BK288 BK289 HK HB HI0; obtain ⟨HO_290000, HO_290001, BK288, BK289, HK, HB, HI0⟩ := n_; (try clear hb); (try clear hk); (try clear hi)))
     have n_ := aT (Kd.R_drew HO_290000.out) (aT (Kd.R_drew HO_290001.out) (aT (blk_drew BK288.out) (aT (blk_drew BK289.out) (aT (IsS81.drew HI0.out) (aT (keep_drew HK.out) (aM (below_drew1 HB.out)))))))
     clear HO_290000 HO_290001 BK288 BK289 HI0 HK HB
     obtain ⟨HO_290000, HO_290001, BK288, BK289, HI0, HK, HB⟩ := n_
     refine start_ (n := 8) (S := fun w' => w'.cell? ⟨gb289, 0, none⟩ = some (u290000) ∧ w'.cell? ⟨gb289, 1, none⟩ = some (u290001)) (ds := [7]) _ (by kernel_rfl) rfl rfl ⟨(blk_cell BK289.out 0).trans rfl, (blk_cell BK289.out 1).trans rfl⟩ (fun hHeld => ?_); refine with_tabW spec_l3Known.tab6 spec_l3Known.bits6 (fun HT_ HW_ => ?_)
     generalize w15.drew = w16 at HO_290000 HO_290001 BK288 BK289 HI0 HK HB hHeld ⊢
     refine pU HT_ 0 (some 17) (mk 8 1) rfl rfl (h := ?_)
     refine pU HT_ 2 (some 19) (mk 8 5) rfl rfl (h := ?_)
     refine tU HT_ HW_ 1 (some 18) (mk 8 7) hHeld rfl rfl (by rintro w' ⟨s0, s1⟩; go_simp; with_reducible rfl) (h := ?_)
     refine one_ (i := 3) (N := some 20) (mk 8 15) rfl rfl (one_of HT_.out (by kernel_rfl)) (by decide) (fun K hK => ?_)
     refine goes_ Try.func41 (by kernel_rfl) rfl #[.pointer (some ⟨g, 0, none⟩), .int .i64 6] (by rfl) rfl rfl eA ?_
     with_reducible refine (spec_l1Below.calls g s0_0 t294 t295 6 t296 t297 t298 w0 _ ?side1 ?side2 A13.out).mono ?_
     (case side1 => exact IsS81.qHI0)
     (case side2 => exact IsS81.bHI0)
     rintro e w17 ⟨rfl, hi, hb, hk⟩
     refine ⟨_, rfl, ?_⟩
     have n_ := aT (IsS81.rK hk (kR HO_290000.out) (show IsS81 w0 _ g s0_0 t294 t295 from IsS81.qHI0)) (aT (IsS81.rK hk (kR HO_290001.out) (show IsS81 w0 _ g s0_0 t294 t295 from IsS81.qHI0)) (aT (KeepBut.blk hk (g' := gb288) (o := .cells #[.slice none 0 0, .slice none 0 0] 27 (0, 0)) (kB BK288.out) NB288_0.out (by simp)) (aT (KeepBut.blk hk (g' := gb289) (o := .cells #[u290000, u290001] 27 (0, 0)) (kB BK289.out) NB289_0.out (by simp)) (aT (KeepBut.trans kK hk (.inl rfl)) (aT (hb) (aM (hi)))))))
     clear HO_290000 HO_290001 BK288 BK289 HK HB HI0
     obtain ⟨HO_290000, HO_290001, BK288, BK289, HK, HB, HI0⟩ := n_
     (try clear hb)
     (try clear hb2)
     (try clear hk)
     (try clear hi)
     obtain ⟨Ao18, co18, eo18⟩ := Kd.R_slice HO_290001.out
     (first | subst eo18 | (injection eo18 with f1_ f2_ f3_; have f4_ := f1_.symm; have f5_ := f3_.symm; clear f1_ f2_ f3_; subst f4_; subst f5_))
     refine hK.out _ _ ⟨(blk_cell BK289.out 0).trans rfl, (blk_cell BK289.out 1).trans rfl⟩ (fun hHeld => ?_)
     clear hK K
     refine nO (some 20) (h := ?_)
     refine pU HT_ 4 (some 21) (mk 8 31) rfl rfl (h := ?_)
     refine one_ (i := 5) (N := some 22) (mk 8 63) rfl rfl (one_of HT_.out (by kernel_rfl)) (by decide) (fun K hK => ?_)
     refine goes_ Try.func66 (by kernel_rfl) rfl #[.slice Ao18 x290001_1.length co18, .int .i64 (wrap64 (1 + t296))] (by rfl) rfl rfl eA ?_
     with_reducible refine (spec_l3Put.calls k1 (fun k_ => some k_ = (.slice Ao18 x290001_1.length co18 : Value).ownBlock) (.slice Ao18 x290001_1.length co18) x290001_1 (wrap64 (1 + t296)) t299 w0 _ ?side1 ?side2 A14.out).mono ?_
     (case side1 => exact IsS81.bHI0)
     (case side2 => exact Kd.R_lower (Kd.R_tight rfl HO_290001.out) HL.out)
     rintro e w19 ⟨v300, rfl, ho0, hb, hkp⟩
     refine ⟨_, rfl, ?_⟩
     have n_ := aT (Kd.R_mono (ok' := fun k_ => True) (Kd.R_keptB ((Kd.R_apart' HO_290000.out (Kd.R_typed HO_290001.out) (by decide))) hkp (fun k_ hk_ hs_ => (hk_.2) hs_)) (fun k_ hk_ => trivial)) (aT (blk_kept (kB BK288.out) hkp (fun hs_ => (fun e_ => (Kd.R_ne HO_290001.out BK288.out (by decide)) e_) hs_)) (aT (blk_kept (kB BK289.out) hkp (fun hs_ => (fun e_ => (Kd.R_ne HO_290001.out BK289.out (by decide)) e_) hs_)) (aT (IsS81.kept IsS81.qHI0 hkp (fun hs_ => (fun e_ => (IsS81.own_ne HI0.out HO_290001.out (by decide)) e_) hs_)) (aT (Kd.R_mono (ok' := fun k_ => True) (Kd.R_raise (d := (Kd.int .i64)) (b := w0.heap.size) (b' := w.heap.size) (fun _ _ _ _ h_ => h_) ho0 (fun k_ e_ => Or.elim (ho0.1 k_ e_) (fun hs_ => (fun e_ => Kd.R_base HO_290001.out k_ e_.symm) hs_) (fun hn_ => Nat.le_trans kL hn_))) (fun k_ hk_ => trivial)) (aT (Kept.keepG kK hkp (fun k_ hs_ => (fun e_ => .inr (Kd.R_base HO_290001.out k_ e_.symm)) hs_)) (aM (hb)))))))
     clear HO_290000 BK288 BK289 HI0 HK HB HO_290001
     obtain ⟨HO_290000, BK288, BK289, HI0, HO301, HK, HB⟩ := n_
     (try clear hb)
     (try clear hkp)
     (try clear ho0)
     obtain ⟨Ao20, co20, eo20⟩ := Kd.R_slice HO301.out
     (first | subst eo20 | (injection eo20 with f1_ f2_ f3_; have f4_ := f1_.symm; have f5_ := f3_.symm; clear f1_ f2_ f3_; subst f4_; subst f5_))
     refine hK.out _ _ ⟨(blk_cell BK289.out 0).trans rfl, (blk_cell BK289.out 1).trans rfl⟩ (fun hHeld => ?_)
     clear hK K
     refine nO (some 22) (h := ?_)
     refine pU HT_ 6 (some 23) (mk 8 127) rfl rfl (h := ?_)
     refine last_ (i := 7) (N := none) #[true, true, true, true, true, true, true, true] rfl rfl (one_of HT_.out (by kernel_rfl)) (by decide) (fun K hK => ?_)
     have hs21 : w19.cell? ⟨gb289, 1, none⟩ = some (.slice Ao18 x290001_1.length co18) := (blk_cell BK289.out 1).trans rfl
     have hfs21 := blk_frozen BK289.out 1
     have hns21_0 := NB288_289.out
     have hms21_0 := NB289_288.out
     refine skip_ (w1 := ?_) (by rfl) rfl ?_ ?_
     rotate_left
     ·go_simp
      rfl
     refine hK.out _ _ ?_
     clear hK K
     refine done_ (done_of HT_.out (by kernel_rfl)) ?_
     try go_wp2
     go_roundg k1
     case measure => have := HK1.out; omega
     case rel => exact ⟨(wrap64 (x6_1 - 1)), (t297), (t298), (x290000_1), (t299), (u290000), (.slice Ao20 t299.length co20), eX, H', ⟨(by have := HK1.out; omega)⟩, ⟨(rM (Kd.R_far (p := ⟨gb289, 1, none⟩) (Kd.R_types HO_290000.out BK289.out (by decide)) (fun _ hk => hk.2) (.slice Ao20 t299.length co20)) (fun _ hk => trivial))⟩, ⟨(rM (Kd.R_far (p := ⟨gb289, 1, none⟩) (Kd.R_types HO301.out BK289.out (by decide)) (fun _ hk => hk.2) (.slice Ao20 t299.length co20)) (fun _ hk => trivial))⟩, ⟨(kF1 NB288_289.out BK288.out)⟩, ⟨(by (with_reducible repeat (first | refine blk_drewN ?_ _ | refine blk_drew ?_ | refine blk_alloc ?_ _)); refine blk_put (cs := #[u290000, .slice Ao18 x290001_1.length co18]) ?_ 1 _ rfl; (with_reducible repeat (first | refine blk_drewN ?_ _ | refine blk_drew ?_ | refine blk_alloc ?_ _)); exact BK289.out)⟩, ⟨IsS81.qHI0⟩, ⟨kK⟩, ⟨IsS81.bHI0⟩⟩
    replace c12 := Bool.eq_false_iff.mpr c12
    subst c12
    rw [if_neg nF] at H
    obtain ⟨⟨t302, t303, t304⟩, A22, H⟩ := oB H
    dsimp only at H
    obtain ⟨⟨t305, t308⟩, A23, H⟩ := oB H
    dsimp only at H
    have H' := Aside0.mk H
    clear H
    try go_wp2_with (first | (refine gL 40 (some 16) Try.func40 #[.pointer (some ⟨g, 0, none⟩), .int .i64 4] ?_; (with_reducible refine (spec_l1Once.calls g s0_0 x1001_1 x1002_1 4 false t294 t295 w0 _ ?side1 ?side2 A11.out).mono ?_); (case side1 => exact IsS81.qHI0); (case side2 => exact IsS81.bHI0); rintro e w24 ⟨rfl, hi, hb, hk⟩; refine ⟨_, rfl, ?_⟩; have n_ := aT (IsS81.rK hk (kR HO_290000.out) (show IsS81 w0 _ g s0_0 x1001_1 x1002_1 from IsS81.qHI0)) (aT (IsS81.rK hk (kR HO_290001.out) (show IsS81 w0 _ g s0_0 x1001_1 x1002_1 from IsS81.qHI0)) (aT (KeepBut.blk hk (g' := gb288) (o := .cells #[.slice none 0 0, .slice none 0 0] 27 (0, 0)) (kB BK288.out) NB288_0.out (by simp)) (aT (KeepBut.blk hk (g' := gb289) (o := .cells #[u290000, u290001] 27 (0, 0)) (kB BK289.out) NB289_0.out (by simp)) (aT (KeepBut.trans kK hk (.inl rfl)) (aT (hb) (aM (hi))))))); clear HO_290000 HO_290001 BK288 BK289 HK HB HI0; obtain ⟨HO_290000, HO_290001, BK288, BK289, HK, HB, HI0⟩ := n_; (try clear hb); (try clear hk); (try clear hi)))
    have n_ := aT (Kd.R_drew HO_290000.out) (aT (Kd.R_drew HO_290001.out) (aT (blk_drew BK288.out) (aT (blk_drew BK289.out) (aT (IsS81.drew HI0.out) (aT (keep_drew HK.out) (aM (below_drew1 HB.out)))))))
    clear HO_290000 HO_290001 BK288 BK289 HI0 HK HB
    obtain ⟨HO_290000, HO_290001, BK288, BK289, HI0, HK, HB⟩ := n_
    refine start_ (n := 5) (S := fun w' => w'.cell? ⟨gb289, 0, none⟩ = some (u290000) ∧ w'.cell? ⟨gb289, 1, none⟩ = some (u290001)) (ds := [4]) _ (by kernel_rfl) rfl rfl ⟨(blk_cell BK289.out 0).trans rfl, (blk_cell BK289.out 1).trans rfl⟩ (fun hHeld => ?_)
    generalize w24.drew = w25 at HO_290000 HO_290001 BK288 BK289 HI0 HK HB hHeld ⊢
    refine pure_ (i := 1) (N := some 25) (v := ?_) (a' := ?_) (mk 5 2) rfl rfl (by kernel_rfl) (fun _ _ _ h => h) (Or.inl ⟨by rfl, ?_⟩) ?_ ?_
    rotate_left
    ·intro w'
     go_simp
     with_reducible rfl
    rotate_left
    ·simp only [Act.put, List.setIfInBounds_toArray, List.set_cons_zero, List.set_cons_succ, i64_w, i32_w]
     rfl
    refine take_ (i := 0) (N := some 24) (v := ?_) (a' := ?_) (mk 5 3) rfl rfl (by kernel_rfl) (fun _ _ _ h => h) (Or.inl ⟨by rfl, ?_⟩) hHeld ?_ ?_
    rotate_left
    ·rintro w' ⟨s0, s1⟩
     go_simp
     with_reducible rfl
    rotate_left
    ·simp only [Act.put, List.setIfInBounds_toArray, List.set_cons_zero, List.set_cons_succ, i64_w, i32_w]
     rfl
    refine one_ (i := 2) (N := some 26) (mk 5 7) rfl rfl (by kernel_rfl) (by decide) (fun K hK => ?_)
    refine goes_ Try.func42 (by kernel_rfl) rfl #[.pointer (some ⟨g, 0, none⟩), .int .i64 4] (by rfl) rfl rfl eA ?_
    with_reducible refine (spec_l2Some.calls k1 g s0_0 t294 t295 4 t302 t303 t304 w0 _ ?side1 ?side2 A22.out).mono ?_
    (case side1 => exact IsS81.qHI0)
    (case side2 => exact IsS81.bHI0)
    rintro e w26 ⟨rfl, hi, hb, hk⟩
    refine ⟨_, rfl, ?_⟩
    have n_ := aT (IsS81.rK hk (kR HO_290000.out) (show IsS81 w0 _ g s0_0 t294 t295 from IsS81.qHI0)) (aT (IsS81.rK hk (kR HO_290001.out) (show IsS81 w0 _ g s0_0 t294 t295 from IsS81.qHI0)) (aT (KeepBut.blk hk (g' := gb288) (o := .cells #[.slice none 0 0, .slice none 0 0] 27 (0, 0)) (kB BK288.out) NB288_0.out (by simp)) (aT (KeepBut.blk hk (g' := gb289) (o := .cells #[u290000, u290001] 27 (0, 0)) (kB BK289.out) NB289_0.out (by simp)) (aT (KeepBut.trans kK hk (.inl rfl)) (aT (hb) (aM (hi)))))))
    clear HO_290000 HO_290001 BK288 BK289 HK HB HI0
    obtain ⟨HO_290000, HO_290001, BK288, BK289, HK, HB, HI0⟩ := n_
    (try clear hb)
    (try clear hb2)
    (try clear hk)
    (try clear hi)
    obtain ⟨Ao27, co27, eo27⟩ := Kd.R_slice HO_290000.out
    (first | subst eo27 | (injection eo27 with f1_ f2_ f3_; have f4_ := f1_.symm; have f5_ := f3_.symm; clear f1_ f2_ f3_; subst f4_; subst f5_))
    obtain ⟨Ao28, co28, eo28⟩ := Kd.R_slice HO_290001.out
    (first | subst eo28 | (injection eo28 with f1_ f2_ f3_; have f4_ := f1_.symm; have f5_ := f3_.symm; clear f1_ f2_ f3_; subst f4_; subst f5_))
    refine hK.out _ _ ⟨(blk_cell BK289.out 0).trans rfl, (blk_cell BK289.out 1).trans rfl⟩ (fun hHeld => ?_)
    clear hK K
    refine nO (some 26) (h := ?_)
    refine one_ (i := 3) (N := some 27) (mk 5 15) rfl rfl (by kernel_rfl) (by decide) (fun K hK => ?_)
    refine goes_ Try.func69 (by kernel_rfl) rfl #[.agg #[.slice Ao27 x290000_1.length co27, .slice Ao28 x290001_1.length co28], .string t302] (by rfl) rfl rfl eA ?_
    with_reducible refine (spec_l3Learn.calls k1 (fun k_ => some k_ = (.slice Ao27 x290000_1.length co27 : Value).ownBlock) (.slice Ao27 x290000_1.length co27) x290000_1 (fun k_ => some k_ = (.slice Ao28 x290001_1.length co28 : Value).ownBlock) (.slice Ao28 x290001_1.length co28) x290001_1 t302 t305 t308 w0 _ ?side1 ?side2 ?side3 A23.out).mono ?_
    (case side1 => exact IsS81.bHI0)
    (case side2 => exact Kd.R_lower (Kd.R_tight rfl HO_290000.out) HL.out)
    (case side3 => exact Kd.R_lower (Kd.R_tight rfl HO_290001.out) HL.out)
    rintro e w29 ⟨v306, v309, rfl, ho0, ho1, hb, hkp⟩
    refine ⟨_, rfl, ?_⟩
    have n_ := aT (blk_kept (kB BK288.out) hkp (fun hs_ => Or.elim hs_ (fun e_ => (fun e_ => (Kd.R_ne HO_290000.out BK288.out (by decide)) e_) e_) (fun e_ => (fun e_ => (Kd.R_ne HO_290001.out BK288.out (by decide)) e_) e_))) (aT (blk_kept (kB BK289.out) hkp (fun hs_ => Or.elim hs_ (fun e_ => (fun e_ => (Kd.R_ne HO_290000.out BK289.out (by decide)) e_) e_) (fun e_ => (fun e_ => (Kd.R_ne HO_290001.out BK289.out (by decide)) e_) e_))) (aT (IsS81.kept IsS81.qHI0 hkp (fun hs_ => Or.elim hs_ (fun e_ => (fun e_ => (IsS81.own_ne HI0.out HO_290000.out (by decide)) e_) e_) (fun e_ => (fun e_ => (IsS81.own_ne HI0.out HO_290001.out (by decide)) e_) e_))) (aT (Kd.R_mono (ok' := fun k_ => True) (Kd.R_raise (d := Kd.string) (b := w0.heap.size) (b' := w.heap.size) (fun _ _ _ _ h_ => h_) ho0 (fun k_ e_ => Or.elim (ho0.1 k_ e_) (fun hs_ => Or.elim hs_ (fun e_ => (fun e_ => Kd.R_base HO_290000.out k_ e_.symm) e_) (fun e_ => (fun e_ => Kd.R_base HO_290001.out k_ e_.symm) e_)) (fun hn_ => Nat.le_trans kL hn_))) (fun k_ hk_ => trivial)) (aT (Kd.R_mono (ok' := fun k_ => True) (Kd.R_raise (d := (Kd.int .i64)) (b := w0.heap.size) (b' := w.heap.size) (fun _ _ _ _ h_ => h_) ho1 (fun k_ e_ => Or.elim (ho1.1 k_ e_) (fun hs_ => Or.elim hs_ (fun e_ => (fun e_ => Kd.R_base HO_290000.out k_ e_.symm) e_) (fun e_ => (fun e_ => Kd.R_base HO_290001.out k_ e_.symm) e_)) (fun hn_ => Nat.le_trans kL hn_))) (fun k_ hk_ => trivial)) (aT (Kept.keepG kK hkp (fun k_ hs_ => Or.elim hs_ (fun e_ => (fun e_ => .inr (Kd.R_base HO_290000.out k_ e_.symm)) e_) (fun e_ => (fun e_ => .inr (Kd.R_base HO_290001.out k_ e_.symm)) e_))) (aM (hb)))))))
    clear BK288 BK289 HI0 HK HB HO_290000 HO_290001
    obtain ⟨BK288, BK289, HI0, HO307, HO310, HK, HB⟩ := n_
    (try clear hb)
    (try clear hkp)
    (try clear ho0)
    (try clear ho1)
    obtain ⟨Ao30, co30, eo30⟩ := Kd.R_slice HO307.out
    (first | subst eo30 | (injection eo30 with f1_ f2_ f3_; have f4_ := f1_.symm; have f5_ := f3_.symm; clear f1_ f2_ f3_; subst f4_; subst f5_))
    obtain ⟨Ao32, co32, eo32⟩ := Kd.R_slice HO310.out
    (first | subst eo32 | (injection eo32 with f1_ f2_ f3_; have f4_ := f1_.symm; have f5_ := f3_.symm; clear f1_ f2_ f3_; subst f4_; subst f5_))
    refine hK.out _ _ ⟨(blk_cell BK289.out 0).trans rfl, (blk_cell BK289.out 1).trans rfl⟩ (fun hHeld => ?_)
    clear hK K
    refine nO (some 27) (h := ?_)
    refine last_ (i := 4) (N := none) #[true, true, true, true, true] rfl rfl (by kernel_rfl) (by decide) (fun K hK => ?_)
    have hs31 : w29.cell? ⟨gb289, 0, none⟩ = some (.slice Ao27 x290000_1.length co27) := (blk_cell BK289.out 0).trans rfl
    have hfs31 := blk_frozen BK289.out 0
    have hns31_0 := NB288_289.out
    have hms31_0 := NB289_288.out
    have hs33 : w29.cell? ⟨gb289, 1, none⟩ = some (.slice Ao28 x290001_1.length co28) := (blk_cell BK289.out 1).trans rfl
    have hfs33 := blk_frozen BK289.out 1
    have hns33_0 := NB288_289.out
    have hms33_0 := NB289_288.out
    refine skip_ (w1 := ?_) (by rfl) rfl ?_ ?_
    rotate_left
    ·go_simp
     rfl
    refine hK.out _ _ ?_
    clear hK K
    refine done_ (by kernel_rfl) ?_
    try go_wp2
    go_roundg k1
    case measure => have := HK1.out; omega
    case rel => exact ⟨(wrap64 (x6_1 - 1)), (t303), (t304), (t305), (t308), (.slice Ao30 t305.length co30), (.slice Ao32 t308.length co32), eX, H', ⟨(by have := HK1.out; omega)⟩, ⟨(rM (Kd.R_far (p := ⟨gb289, 1, none⟩) (Kd.R_far (p := ⟨gb289, 0, none⟩) (Kd.R_types HO307.out BK289.out (by decide)) (fun _ hk => hk.2) (.slice Ao30 t305.length co30)) (fun _ hk => hk.2) (.slice Ao32 t308.length co32)) (fun _ hk => trivial))⟩, ⟨(rM (Kd.R_far (p := ⟨gb289, 1, none⟩) (Kd.R_far (p := ⟨gb289, 0, none⟩) (Kd.R_types HO310.out BK289.out (by decide)) (fun _ hk => hk.2) (.slice Ao30 t305.length co30)) (fun _ hk => hk.2) (.slice Ao32 t308.length co32)) (fun _ hk => trivial))⟩, ⟨(kF2 NB288_289.out BK288.out)⟩, ⟨(by (with_reducible repeat (first | refine blk_drewN ?_ _ | refine blk_drew ?_ | refine blk_alloc ?_ _)); refine blk_put (cs := #[.slice Ao30 t305.length co30, .slice Ao28 x290001_1.length co28]) ?_ 1 _ rfl; (with_reducible repeat (first | refine blk_drewN ?_ _ | refine blk_drew ?_ | refine blk_alloc ?_ _)); refine blk_put (cs := #[.slice Ao27 x290000_1.length co27, .slice Ao28 x290001_1.length co28]) ?_ 0 _ rfl; (with_reducible repeat (first | refine blk_drewN ?_ _ | refine blk_drew ?_ | refine blk_alloc ?_ _)); exact BK289.out)⟩, ⟨IsS81.qHI0⟩, ⟨kK⟩, ⟨IsS81.bHI0⟩⟩
   rw [if_neg c10] at H
   have c10b0 : decide (0 < x6_1) = false := decide_eq_false c10
   clear c10
   obtain ⟨⟨t311, t312, t313⟩, A34, H⟩ := oB H
   dsimp only at H
   by_cases c35 : t311 = true
   ·subst c35
    rw [if_pos rfl] at H
    obtain ⟨⟨t314, t315, t316⟩, A36, H⟩ := oB H
    dsimp only at H
    by_cases c37 : t314 = 0
    ·rw [if_pos c37] at H
     have c37b0 : (t314 == 0) = true := beq_iff_eq.mpr c37
     have c37b1 : (t314 != 0) = false := bne_eq_false_iff_eq.mpr c37
     clear c37
     obtain ⟨y317, hy317⟩ : ∃ y_ : List Int, y_ = (([0, 1, 1000001] : List Int)) := ⟨_, rfl⟩
     replace H : ((spec_l1PickInt.f s0_0 t315 t316 y317).bind fun bt320 => (if x290001_1.length < 17592186044416 then (some (x290000_1, (x290001_1 ++ [bt320.1]), bt320.2.1, bt320.2.2)) else (none))) = some (r1, r2, r3, r4) := by first | (rw [hy317]; with_reducible exact H) | (have H2_ := (Option.bind_some _ _).symm.trans H; rw [hy317]; with_reducible exact H2_) | (have H2_ := (Option.bind_some _ _).symm.trans H; with_reducible exact H2_) | with_reducible exact H | (rw [hy317]; exact H) | exact H
     have Ny317 := Aside0.mk hy317
     clear hy317
     obtain ⟨⟨t320, t321, t322⟩, A38, H⟩ := oB H
     dsimp only at H
     by_cases c39 : x290001_1.length < 17592186044416
     ·rw [if_pos c39] at H
      have LMc39 := Aside0.mk c39
      clear c39
      obtain ⟨y323, hy323⟩ : ∃ y_ : List Int, y_ = (x290001_1 ++ [t320]) := ⟨_, rfl⟩
      replace H : (some (x290000_1, y323, t321, t322)) = some (r1, r2, r3, r4) := by first | (rw [hy323]; with_reducible exact H) | (have H2_ := (Option.bind_some _ _).symm.trans H; rw [hy323]; with_reducible exact H2_) | (have H2_ := (Option.bind_some _ _).symm.trans H; with_reducible exact H2_) | with_reducible exact H | (rw [hy323]; exact H) | exact H
      have Ny323 := Aside0.mk hy323
      clear hy323
      simp only [Option.some.injEq, Prod.mk.injEq] at H
      obtain ⟨rfl, rfl, rfl, rfl⟩ := H
      try go_wp2_with (first | (refine gL 40 (some 29) Try.func40 #[.pointer (some ⟨g, 0, none⟩), .int .i64 10] ?_; (with_reducible refine (spec_l1Once.calls g s0_0 x1001_1 x1002_1 10 true t312 t313 w0 _ ?side1 ?side2 A34.out).mono ?_); (case side1 => exact IsS81.qHI0); (case side2 => exact IsS81.bHI0); rintro e w40 ⟨rfl, hi, hb, hk⟩; refine ⟨_, rfl, ?_⟩; have n_ := aT (IsS81.rK hk (kR HO_290000.out) (show IsS81 w0 _ g s0_0 x1001_1 x1002_1 from IsS81.qHI0)) (aT (IsS81.rK hk (kR HO_290001.out) (show IsS81 w0 _ g s0_0 x1001_1 x1002_1 from IsS81.qHI0)) (aT (KeepBut.blk hk (g' := gb288) (o := .cells #[.slice none 0 0, .slice none 0 0] 27 (0, 0)) (kB BK288.out) NB288_0.out (by simp)) (aT (KeepBut.blk hk (g' := gb289) (o := .cells #[u290000, u290001] 27 (0, 0)) (kB BK289.out) NB289_0.out (by simp)) (aT (KeepBut.trans kK hk (.inl rfl)) (aT (hb) (aM (hi))))))); clear HO_290000 HO_290001 BK288 BK289 HK HB HI0; obtain ⟨HO_290000, HO_290001, BK288, BK289, HK, HB, HI0⟩ := n_; (try clear hb); (try clear hk); (try clear hi)) | (refine gL 41 (some 31) Try.func41 #[.pointer (some ⟨g, 0, none⟩), .int .i64 3] ?_; (with_reducible refine (spec_l1Below.calls g s0_0 t312 t313 3 t314 t315 t316 w0 _ ?side1 ?side2 A36.out).mono ?_); (case side1 => exact IsS81.qHI0); (case side2 => exact IsS81.bHI0); rintro e w41 ⟨rfl, hi, hb, hk⟩; refine ⟨_, rfl, ?_⟩; have n_ := aT (IsS81.rK hk (kR HO_290000.out) (show IsS81 w0 _ g s0_0 t312 t313 from IsS81.qHI0)) (aT (IsS81.rK hk (kR HO_290001.out) (show IsS81 w0 _ g s0_0 t312 t313 from IsS81.qHI0)) (aT (KeepBut.blk hk (g' := gb288) (o := .cells #[.slice none 0 0, .slice none 0 0] 27 (0, 0)) (kB BK288.out) NB288_0.out (by simp)) (aT (KeepBut.blk hk (g' := gb289) (o := .cells #[u290000, u290001] 27 (0, 0)) (kB BK289.out) NB289_0.out (by simp)) (aT (KeepBut.trans kK hk (.inl rfl)) (aT (hb) (aM (hi))))))); clear HO_290000 HO_290001 BK288 BK289 HK HB HI0; obtain ⟨HO_290000, HO_290001, BK288, BK289, HK, HB, HI0⟩ := n_; (try clear hb); (try clear hk); (try clear hi)))
      have n_ := aT (Kd.R_drew HO_290000.out) (aT (Kd.R_drew HO_290001.out) (aT (blk_drew BK288.out) (aT (blk_drew BK289.out) (aT (IsS81.drew HI0.out) (aT (keep_drew HK.out) (aM (below_drew1 HB.out)))))))
      clear HO_290000 HO_290001 BK288 BK289 HI0 HK HB
      obtain ⟨HO_290000, HO_290001, BK288, BK289, HI0, HK, HB⟩ := n_
      refine start_ (n := 9) (S := fun w' => w'.cell? ⟨gb289, 0, none⟩ = some (u290000) ∧ w'.cell? ⟨gb289, 1, none⟩ = some (u290001)) (ds := [8]) _ (by kernel_rfl) rfl rfl ⟨(blk_cell BK289.out 0).trans rfl, (blk_cell BK289.out 1).trans rfl⟩ (fun hHeld => ?_); refine with_tabW spec_l3Known.tab13 spec_l3Known.bits13 (fun HT_ HW_ => ?_)
      generalize w41.drew = w42 at HO_290000 HO_290001 BK288 BK289 HI0 HK HB hHeld ⊢
      refine pU HT_ 0 (some 47) (mk 9 1) rfl rfl (h := ?_)
      refine pU HT_ 2 (some 49) (mk 9 5) rfl rfl (h := ?_)
      refine tU HT_ HW_ 1 (some 48) (mk 9 7) hHeld rfl rfl (by rintro w' ⟨s0, s1⟩; go_simp; with_reducible rfl) (h := ?_)
      refine one_ (i := 3) (N := some 50) (mk 9 15) rfl rfl (one_of HT_.out (by kernel_rfl)) (by decide) (fun K hK => ?_)
      refine Kd.R_lit_step (Kd.int .i64) _ 3 ?hg (N := 50) ?hd (xs := ([0, 1, 1000001] : List Int)) (inner := [.int .i64 0, .int .i64 1, .int .i64 1000001]) (ok := fun _ => True) (okp := fun _ => True) ?hr ?hp (fun _ hk => hk) trivial (Below.refl _ _) (Nat.le_refl _) (by simp) ?_; (case hd => rfl); (case hg => rfl); (case hr => first | (go_simp; done) | (go_simp; rfl)); (case hp => exact (Reps.one (show Kd.M (Kd.int .i64) _ _ _ 0 [.int .i64 0] from rfl) (Reps.one (show Kd.M (Kd.int .i64) _ _ _ 1 [.int .i64 1] from rfl) (Reps.one (show Kd.M (Kd.int .i64) _ _ _ 1000001 [.int .i64 1000001] from rfl) (Reps.none _ _)))))
      intro v318 w43 ho44 hb hg_ hnew_
      clear hg_ hnew_
      (first | rw [← Ny317.out] at ho44 | (simp only [Int.reduceToNat] at ho44; rw [← Ny317.out] at ho44))
      have n0_ := Aside0.mk (Kd.R_below (kR HO_290000.out) hb)
      have n1_ := Aside0.mk (Kd.R_elder' (kR HO_290001.out) (Kd.R_base ho44) hb)
      have n2_ := Aside0.mk (Kd.R_lower (Kd.R_new' ho44 (Kd.R_lt (kR HO_290001.out))) kL)
      have n3_ := Aside0.mk (blk_below (kB BK288.out) hb)
      have n4_ := Aside0.mk (blk_below (kB BK289.out) hb)
      have n5_ := Aside0.mk (IsS81.below IsS81.qHI0 hb)
      have n6_ := Aside0.mk (KeepBut.trans kK (KeepBut.of_below hb g none) (.inl rfl))
      have n7_ := Aside0.mk (below_step IsS81.bHI0 hb)
      clear HO_290000 HO_290001 BK288 BK289 HI0 HK HB
      have HO_290000 := n0_
      have HO_290001 := n1_
      have HO319 := n2_
      have BK288 := n3_
      have BK289 := n4_
      have HI0 := n5_
      have HK := n6_
      have HB := n7_
      clear n0_ n1_ n2_ n3_ n4_ n5_ n6_ n7_ hb ho44
      obtain ⟨Ao45, co45, eo45⟩ := Kd.R_slice HO319.out
      (first | subst eo45 | (injection eo45 with f1_ f2_ f3_; have f4_ := f1_.symm; have f5_ := f3_.symm; clear f1_ f2_ f3_; subst f4_; subst f5_))
      refine hK.out _ _ ⟨(blk_cell BK289.out 0).trans rfl, (blk_cell BK289.out 1).trans rfl⟩ (fun hHeld => ?_)
      clear hK K
      refine nO (some 50) (h := ?_)
      refine one_ (i := 4) (N := some 51) (mk 9 31) rfl rfl (one_of HT_.out (by kernel_rfl)) (by decide) (fun K hK => ?_)
      refine goes_ Try.func70 (by kernel_rfl) rfl #[.pointer (some ⟨g, 0, none⟩), .slice Ao45 y317.length co45] (by rfl) rfl rfl eA ?_
      with_reducible refine (spec_l1PickInt.calls g s0_0 t315 t316 _ _ y317 t320 t321 t322 w0 _ ?side1 ?side2 ?side3 ?side4 ?side5 A38.out).mono ?_
      (case side1 => exact IsS81.qHI0)
      (case side2 => exact IsS81.bHI0)
      (case side3 => exact cA ((Kd.R_reads' HO319.out).2.2))
      (case side4 => exact (Kd.R_reads' HO319.out).2.1)
      (case side5 => exact far_slice (IsS81.own_ne HI0.out HO319.out (by decide)))
      rintro e w46 ⟨rfl, hi, hb, hk⟩
      refine ⟨_, rfl, ?_⟩
      have n_ := aT (IsS81.rK hk (kR HO_290000.out) (show IsS81 w0 _ g s0_0 t315 t316 from IsS81.qHI0)) (aT (IsS81.rK hk (kR HO_290001.out) (show IsS81 w0 _ g s0_0 t315 t316 from IsS81.qHI0)) (aT (KeepBut.blk hk (g' := gb288) (o := .cells #[.slice none 0 0, .slice none 0 0] 27 (0, 0)) (kB BK288.out) NB288_0.out (by simp)) (aT (KeepBut.blk hk (g' := gb289) (o := .cells #[u290000, u290001] 27 (0, 0)) (kB BK289.out) NB289_0.out (by simp)) (aT (IsS81.rK hk (kR HO319.out) (show IsS81 w0 _ g s0_0 t315 t316 from IsS81.qHI0)) (aT (KeepBut.trans kK hk (.inl rfl)) (aT (hb) (aM (hi))))))))
      clear HO_290000 HO_290001 BK288 BK289 HO319 HK HB HI0
      obtain ⟨HO_290000, HO_290001, BK288, BK289, HO319, HK, HB, HI0⟩ := n_
      (try clear hb)
      (try clear hb2)
      (try clear hk)
      (try clear hi)
      refine hK.out _ _ ⟨(blk_cell BK289.out 0).trans rfl, (blk_cell BK289.out 1).trans rfl⟩ (fun hHeld => ?_)
      clear hK K
      refine nO (some 51) (h := ?_)
      refine one_ (i := 5) (N := some 52) (mk 9 63) rfl rfl (one_of HT_.out (by kernel_rfl)) (by decide) (fun K hK => ?_)
      refine value_ (w1 := ?_) (v := ?_) (by rfl) rfl ?_ ?_
      rotate_left 2
      ·go_simp
       constructor
       ·rfl
       rfl
      refine hK.out _ _ ⟨(blk_cell (blk_alloc BK289.out _) 0).trans rfl, (blk_cell (blk_alloc BK289.out _) 1).trans rfl⟩ (fun hHeld => ?_)
      clear hK K
      refine nO (some 52) (h := ?_)
      refine one_ (i := 6) (N := some 53) (mk 9 127) rfl rfl (one_of HT_.out (by kernel_rfl)) (by decide) (fun K hK => ?_)
      refine Kd.R_append_step (Kd.int .i64) w.heap.size (by rfl) (.tmp 48) (.tmp 52) 25 3 (.int .i64 0) 8 rfl Try.underlying25 info3 rfl (by decide) (by omega) u290001 x290001_1 t320 [.int .i64 t320] (fun k_ => some k_ ≠ (.slice Ao45 y317.length co45 : Value).ownBlock) (fun _ => False) rfl rfl ?aP (fun _ hk => hk.elim) ?aF ?aO (Below.refl _ _) ?aS ?aL ?_
      (case aP => exact rfl)
      (case aF => exact (fun k_ hk => Kd.fresh' (Kd.R_lt (kR HO319.out)) k_ hk))
      (case aO => exact (rM HO_290001.out (fun _ hk => hk.2)))
      (case aS => exact kL)
      (case aL => have := LMc39.out; omega)
      intro v324 w47 ho hb hg hat
      rw [← Ny323.out] at ho
      have n0_ := Aside0.mk (Kd.R_over' (kR HO_290000.out) (Kd.R_typed (kR HO_290001.out)) (by decide) hg)
      have n1_ := Aside0.mk (blk_grown (g := gb288) (o := .cells #[.slice none 0 0, .slice none 0 0] 27 (0, 0)) (kB BK288.out) hg (Kd.R_ne HO_290001.out BK288.out (by decide)))
      have n2_ := Aside0.mk (blk_grown (g := gb289) (o := .cells #[u290000, u290001] 27 (0, 0)) (kB BK289.out) hg (Kd.R_ne HO_290001.out BK289.out (by decide)))
      have n3_ := Aside0.mk (IsS81.grown IsS81.qHI0 hg (IsS81.own_ne HI0.out HO_290001.out (by decide)))
      have n4_ := Aside0.mk (Kd.R_after (ok := (fun _ => True)) (kR HO319.out) hg hat)
      have n5_ := Aside0.mk (below_weaken IsS81.bHI0 HL.out hb)
      have n6_ := Aside0.mk (KeepBut.trans kK (KeepBut.of_grown hg g) (Kd.R_base2 HO_290001.out))
      have n7_ := Aside0.mk (ho)
      clear HO_290000 BK288 BK289 HI0 HO319 HB HK HO_290001
      have HO_290000 := n0_
      have BK288 := n1_
      have BK289 := n2_
      have HI0 := n3_
      have HO319 := n4_
      have HB := n5_
      have HK := n6_
      have HO325 := n7_
      clear n0_ n1_ n2_ n3_ n4_ n5_ n6_ n7_ ho hb hg hat
      obtain ⟨Ao48, co48, eo48⟩ := Kd.R_slice HO325.out
      (first | subst eo48 | (injection eo48 with f1_ f2_ f3_; have f4_ := f1_.symm; have f5_ := f3_.symm; clear f1_ f2_ f3_; subst f4_; subst f5_))
      refine hK.out _ _ ⟨(blk_cell BK289.out 0).trans rfl, (blk_cell BK289.out 1).trans rfl⟩ (fun hHeld => ?_)
      clear hK K
      refine nO (some 53) (h := ?_)
      refine pU HT_ 7 (some 54) (mk 9 255) rfl rfl (h := ?_)
      refine last_ (i := 8) (N := none) #[true, true, true, true, true, true, true, true, true] rfl rfl (one_of HT_.out (by kernel_rfl)) (by decide) (fun K hK => ?_)
      have hs49 : w47.cell? ⟨gb289, 1, none⟩ = some (u290001) := (blk_cell BK289.out 1).trans rfl
      have hfs49 := blk_frozen BK289.out 1
      have hns49_0 := NB288_289.out
      have hms49_0 := NB289_288.out
      refine skip_ (w1 := ?_) (by rfl) rfl ?_ ?_
      rotate_left
      ·go_simp
       rfl
      refine hK.out _ _ ?_
      clear hK K
      refine done_ (done_of HT_.out (by kernel_rfl)) ?_
      have hnb50 := NB289_288.out
      have hnc50 := NB288_289.out
      have hnb51 := NB289_0.out
      have hnc51 := NB0_289.out
      have hcz52_0 : w47.cell? ⟨gb289, 0, none⟩ = some (u290000) := (blk_cell BK289.out 0).trans rfl
      have hcz52_1 : w47.cell? ⟨gb289, 1, none⟩ = some (u290001) := (blk_cell BK289.out 1).trans rfl
      have hfz52_0 := blk_frozen BK289.out 0
      have hfz52_1 := blk_frozen BK289.out 1
      obtain ⟨Ao53, co53, eo53⟩ := Kd.R_slice HO_290000.out
      subst eo53
      have hnb54 := NB288_0.out
      have hnc54 := NB0_288.out
      have hcz55_0 : w47.cell? ⟨gb288, 0, none⟩ = some (.slice none 0 0) := (blk_cell BK288.out 0).trans rfl
      have hcz55_1 : w47.cell? ⟨gb288, 1, none⟩ = some (.slice none 0 0) := (blk_cell BK288.out 1).trans rfl
      have hfz55_0 := blk_frozen BK288.out 0
      have hfz55_1 := blk_frozen BK288.out 1
      try go_wp2
      refine bodyPost_ret (results_cell_row rfl _ _ gb288 27 #[.slice Ao53 x290000_1.length co53, .slice Ao48 y323.length co48] (0, 0) _ rfl (by (with_reducible repeat (first | refine blk_drewN ?_ _ | refine blk_drew ?_ | refine blk_alloc ?_ _)); refine blk_put (cs := #[.slice Ao53 x290000_1.length co53, .slice none 0 0]) ?_ 1 _ rfl; (with_reducible repeat (first | refine blk_drewN ?_ _ | refine blk_drew ?_ | refine blk_alloc ?_ _)); refine blk_put (cs := #[.slice none 0 0, .slice none 0 0]) ?_ 0 _ rfl; (with_reducible repeat (first | refine blk_drewN ?_ _ | refine blk_drew ?_ | refine blk_alloc ?_ _)); refine blk_far ?_ NB288_289.out _; (with_reducible repeat (first | refine blk_drewN ?_ _ | refine blk_drew ?_ | refine blk_alloc ?_ _)); exact BK288.out) Try.underlying27 rfl (by kernel_rfl)) rfl ?_
      exact ⟨_, _, eE, (rM (Kd.R_far (p := ⟨gb288, 1, none⟩) (Kd.R_far (p := ⟨gb288, 0, none⟩) (Kd.R_far (p := ⟨gb289, 1, none⟩) (Kd.R_types (Kd.R_types HO_290000.out BK289.out (by decide)) BK288.out (by decide)) (fun _ hk => hk.1.2) (.slice Ao48 y323.length co48)) (fun _ hk => hk.2) (.slice Ao53 x290000_1.length co53)) (fun _ hk => hk.2) (.slice Ao48 y323.length co48)) (fun _ hk => trivial)), (rM (Kd.R_far (p := ⟨gb288, 1, none⟩) (Kd.R_far (p := ⟨gb288, 0, none⟩) (Kd.R_far (p := ⟨gb289, 1, none⟩) (Kd.R_types (Kd.R_types HO325.out BK289.out (by decide)) BK288.out (by decide)) (fun _ hk => hk.1.2) (.slice Ao48 y323.length co48)) (fun _ hk => hk.2) (.slice Ao53 x290000_1.length co53)) (fun _ hk => hk.2) (.slice Ao48 y323.length co48)) (fun _ hk => trivial)), IsS81.qHI0, IsS81.bHI0, kK⟩
     rw [if_neg c39] at H
     exact absurd H (by simp)
    rw [if_neg c37] at H
    have c37b0 : (t314 == 0) = false := beq_eq_false_iff_ne.mpr c37
    have c37b1 : (t314 != 0) = true := bne_iff_ne.mpr c37
    by_cases c56 : t314 = 1
    ·rw [if_pos c56] at H
     have c56b0 : (t314 == 1) = true := beq_iff_eq.mpr c56
     have c56b1 : (t314 != 1) = false := bne_eq_false_iff_eq.mpr c56
     clear c56
     obtain ⟨⟨t326, t327, t328⟩, A57, H⟩ := oB H
     dsimp only at H
     by_cases c58 : x290000_1.length < 8796093022208
     ·rw [if_pos c58] at H
      have LMc58 := Aside0.mk c58
      clear c58
      obtain ⟨y329, hy329⟩ : ∃ y_ : List ByteArray, y_ = (x290000_1 ++ [t326]) := ⟨_, rfl⟩
      replace H : (some (y329, x290001_1, t327, t328)) = some (r1, r2, r3, r4) := by first | (rw [hy329]; with_reducible exact H) | (have H2_ := (Option.bind_some _ _).symm.trans H; rw [hy329]; with_reducible exact H2_) | (have H2_ := (Option.bind_some _ _).symm.trans H; with_reducible exact H2_) | with_reducible exact H | (rw [hy329]; exact H) | exact H
      have Ny329 := Aside0.mk hy329
      clear hy329
      simp only [Option.some.injEq, Prod.mk.injEq] at H
      obtain ⟨rfl, rfl, rfl, rfl⟩ := H
      try go_wp2_with (first | (refine gL 40 (some 29) Try.func40 #[.pointer (some ⟨g, 0, none⟩), .int .i64 10] ?_; (with_reducible refine (spec_l1Once.calls g s0_0 x1001_1 x1002_1 10 true t312 t313 w0 _ ?side1 ?side2 A34.out).mono ?_); (case side1 => exact IsS81.qHI0); (case side2 => exact IsS81.bHI0); rintro e w59 ⟨rfl, hi, hb, hk⟩; refine ⟨_, rfl, ?_⟩; have n_ := aT (IsS81.rK hk (kR HO_290000.out) (show IsS81 w0 _ g s0_0 x1001_1 x1002_1 from IsS81.qHI0)) (aT (IsS81.rK hk (kR HO_290001.out) (show IsS81 w0 _ g s0_0 x1001_1 x1002_1 from IsS81.qHI0)) (aT (KeepBut.blk hk (g' := gb288) (o := .cells #[.slice none 0 0, .slice none 0 0] 27 (0, 0)) (kB BK288.out) NB288_0.out (by simp)) (aT (KeepBut.blk hk (g' := gb289) (o := .cells #[u290000, u290001] 27 (0, 0)) (kB BK289.out) NB289_0.out (by simp)) (aT (KeepBut.trans kK hk (.inl rfl)) (aT (hb) (aM (hi))))))); clear HO_290000 HO_290001 BK288 BK289 HK HB HI0; obtain ⟨HO_290000, HO_290001, BK288, BK289, HK, HB, HI0⟩ := n_; (try clear hb); (try clear hk); (try clear hi)) | (refine gL 41 (some 31) Try.func41 #[.pointer (some ⟨g, 0, none⟩), .int .i64 3] ?_; (with_reducible refine (spec_l1Below.calls g s0_0 t312 t313 3 t314 t315 t316 w0 _ ?side1 ?side2 A36.out).mono ?_); (case side1 => exact IsS81.qHI0); (case side2 => exact IsS81.bHI0); rintro e w60 ⟨rfl, hi, hb, hk⟩; refine ⟨_, rfl, ?_⟩; have n_ := aT (IsS81.rK hk (kR HO_290000.out) (show IsS81 w0 _ g s0_0 t312 t313 from IsS81.qHI0)) (aT (IsS81.rK hk (kR HO_290001.out) (show IsS81 w0 _ g s0_0 t312 t313 from IsS81.qHI0)) (aT (KeepBut.blk hk (g' := gb288) (o := .cells #[.slice none 0 0, .slice none 0 0] 27 (0, 0)) (kB BK288.out) NB288_0.out (by simp)) (aT (KeepBut.blk hk (g' := gb289) (o := .cells #[u290000, u290001] 27 (0, 0)) (kB BK289.out) NB289_0.out (by simp)) (aT (KeepBut.trans kK hk (.inl rfl)) (aT (hb) (aM (hi))))))); clear HO_290000 HO_290001 BK288 BK289 HK HB HI0; obtain ⟨HO_290000, HO_290001, BK288, BK289, HK, HB, HI0⟩ := n_; (try clear hb); (try clear hk); (try clear hi)))
      have n_ := aT (Kd.R_drew HO_290000.out) (aT (Kd.R_drew HO_290001.out) (aT (blk_drew BK288.out) (aT (blk_drew BK289.out) (aT (IsS81.drew HI0.out) (aT (keep_drew HK.out) (aM (below_drew1 HB.out)))))))
      clear HO_290000 HO_290001 BK288 BK289 HI0 HK HB
      obtain ⟨HO_290000, HO_290001, BK288, BK289, HI0, HK, HB⟩ := n_
      refine start_ (n := 8) (S := fun w' => w'.cell? ⟨gb289, 0, none⟩ = some (u290000) ∧ w'.cell? ⟨gb289, 1, none⟩ = some (u290001)) (ds := [7]) _ (by kernel_rfl) rfl rfl ⟨(blk_cell BK289.out 0).trans rfl, (blk_cell BK289.out 1).trans rfl⟩ (fun hHeld => ?_); refine with_tabW spec_l3Known.tab15 spec_l3Known.bits15 (fun HT_ HW_ => ?_)
      generalize w60.drew = w61 at HO_290000 HO_290001 BK288 BK289 HI0 HK HB hHeld ⊢
      refine pU HT_ 0 (some 57) (mk 8 1) rfl rfl (h := ?_)
      refine pU HT_ 2 (some 59) (mk 8 5) rfl rfl (h := ?_)
      refine tU HT_ HW_ 1 (some 58) (mk 8 7) hHeld rfl rfl (by rintro w' ⟨s0, s1⟩; go_simp; with_reducible rfl) (h := ?_)
      refine one_ (i := 3) (N := some 60) (mk 8 15) rfl rfl (one_of HT_.out (by kernel_rfl)) (by decide) (fun K hK => ?_)
      refine goes_ Try.func39 (by kernel_rfl) rfl #[.pointer (some ⟨g, 0, none⟩)] (by rfl) rfl rfl eA ?_
      with_reducible refine (spec_l2Any.calls k1 g s0_0 t315 t316 t326 t327 t328 w0 _ ?side1 ?side2 A57.out).mono ?_
      (case side1 => exact IsS81.qHI0)
      (case side2 => exact IsS81.bHI0)
      rintro e w62 ⟨rfl, hi, hb, hk⟩
      refine ⟨_, rfl, ?_⟩
      have n_ := aT (IsS81.rK hk (kR HO_290000.out) (show IsS81 w0 _ g s0_0 t315 t316 from IsS81.qHI0)) (aT (IsS81.rK hk (kR HO_290001.out) (show IsS81 w0 _ g s0_0 t315 t316 from IsS81.qHI0)) (aT (KeepBut.blk hk (g' := gb288) (o := .cells #[.slice none 0 0, .slice none 0 0] 27 (0, 0)) (kB BK288.out) NB288_0.out (by simp)) (aT (KeepBut.blk hk (g' := gb289) (o := .cells #[u290000, u290001] 27 (0, 0)) (kB BK289.out) NB289_0.out (by simp)) (aT (KeepBut.trans kK hk (.inl rfl)) (aT (hb) (aM (hi)))))))
      clear HO_290000 HO_290001 BK288 BK289 HK HB HI0
      obtain ⟨HO_290000, HO_290001, BK288, BK289, HK, HB, HI0⟩ := n_
      (try clear hb)
      (try clear hb2)
      (try clear hk)
      (try clear hi)
      refine hK.out _ _ ⟨(blk_cell BK289.out 0).trans rfl, (blk_cell BK289.out 1).trans rfl⟩ (fun hHeld => ?_)
      clear hK K
      refine nO (some 60) (h := ?_)
      refine one_ (i := 4) (N := some 61) (mk 8 31) rfl rfl (one_of HT_.out (by kernel_rfl)) (by decide) (fun K hK => ?_)
      refine value_ (w1 := ?_) (v := ?_) (by rfl) rfl ?_ ?_
      rotate_left 2
      ·go_simp
       constructor
       ·rfl
       rfl
      refine hK.out _ _ ⟨(blk_cell (blk_alloc BK289.out _) 0).trans rfl, (blk_cell (blk_alloc BK289.out _) 1).trans rfl⟩ (fun hHeld => ?_)
      clear hK K
      refine nO (some 61) (h := ?_)
      refine one_ (i := 5) (N := some 62) (mk 8 63) rfl rfl (one_of HT_.out (by kernel_rfl)) (by decide) (fun K hK => ?_)
      refine Kd.R_append_step Kd.string w.heap.size (by rfl) (.tmp 58) (.tmp 61) 24 9 (.string ⟨#[]⟩) 16 rfl Try.underlying24 info9 rfl (by decide) (by omega) u290000 x290000_1 t326 [.string t326] (fun _ => True) (fun _ => False) rfl rfl ?aP (fun _ hk => hk.elim) ?aF ?aO (Below.refl _ _) ?aS ?aL ?_
      (case aP => exact rfl)
      (case aF => exact (fun _ _ => trivial))
      (case aO => exact (kR HO_290000.out))
      (case aS => exact kL)
      (case aL => have := LMc58.out; omega)
      intro v330 w63 ho hb hg hat
      rw [← Ny329.out] at ho
      have n0_ := Aside0.mk (Kd.R_over' (kR HO_290001.out) (Kd.R_typed (kR HO_290000.out)) (by decide) hg)
      have n1_ := Aside0.mk (blk_grown (g := gb288) (o := .cells #[.slice none 0 0, .slice none 0 0] 27 (0, 0)) (kB BK288.out) hg (Kd.R_ne HO_290000.out BK288.out (by decide)))
      have n2_ := Aside0.mk (blk_grown (g := gb289) (o := .cells #[u290000, u290001] 27 (0, 0)) (kB BK289.out) hg (Kd.R_ne HO_290000.out BK289.out (by decide)))
      have n3_ := Aside0.mk (IsS81.grown IsS81.qHI0 hg (IsS81.own_ne HI0.out HO_290000.out (by decide)))
      have n4_ := Aside0.mk (below_weaken IsS81.bHI0 HL.out hb)
      have n5_ := Aside0.mk (KeepBut.trans kK (KeepBut.of_grown hg g) (Kd.R_base2 HO_290000.out))
      have n6_ := Aside0.mk (ho)
      clear HO_290001 BK288 BK289 HI0 HB HK HO_290000
      have HO_290001 := n0_
      have BK288 := n1_
      have BK289 := n2_
      have HI0 := n3_
      have HB := n4_
      have HK := n5_
      have HO331 := n6_
      clear n0_ n1_ n2_ n3_ n4_ n5_ n6_ ho hb hg hat
      obtain ⟨Ao64, co64, eo64⟩ := Kd.R_slice HO331.out
      (first | subst eo64 | (injection eo64 with f1_ f2_ f3_; have f4_ := f1_.symm; have f5_ := f3_.symm; clear f1_ f2_ f3_; subst f4_; subst f5_))
      refine hK.out _ _ ⟨(blk_cell BK289.out 0).trans rfl, (blk_cell BK289.out 1).trans rfl⟩ (fun hHeld => ?_)
      clear hK K
      refine nO (some 62) (h := ?_)
      refine pU HT_ 6 (some 63) (mk 8 127) rfl rfl (h := ?_)
      refine last_ (i := 7) (N := none) #[true, true, true, true, true, true, true, true] rfl rfl (one_of HT_.out (by kernel_rfl)) (by decide) (fun K hK => ?_)
      have hs65 : w63.cell? ⟨gb289, 0, none⟩ = some (u290000) := (blk_cell BK289.out 0).trans rfl
      have hfs65 := blk_frozen BK289.out 0
      have hns65_0 := NB288_289.out
      have hms65_0 := NB289_288.out
      refine skip_ (w1 := ?_) (by rfl) rfl ?_ ?_
      rotate_left
      ·go_simp
       rfl
      refine hK.out _ _ ?_
      clear hK K
      refine done_ (done_of HT_.out (by kernel_rfl)) ?_
      have hnb66 := NB289_288.out
      have hnc66 := NB288_289.out
      have hnb67 := NB289_0.out
      have hnc67 := NB0_289.out
      have hcz68_0 : w63.cell? ⟨gb289, 0, none⟩ = some (u290000) := (blk_cell BK289.out 0).trans rfl
      have hcz68_1 : w63.cell? ⟨gb289, 1, none⟩ = some (u290001) := (blk_cell BK289.out 1).trans rfl
      have hfz68_0 := blk_frozen BK289.out 0
      have hfz68_1 := blk_frozen BK289.out 1
      have hnb69 := NB288_0.out
      have hnc69 := NB0_288.out
      have hcz70_0 : w63.cell? ⟨gb288, 0, none⟩ = some (.slice none 0 0) := (blk_cell BK288.out 0).trans rfl
      have hcz70_1 : w63.cell? ⟨gb288, 1, none⟩ = some (.slice none 0 0) := (blk_cell BK288.out 1).trans rfl
      have hfz70_0 := blk_frozen BK288.out 0
      have hfz70_1 := blk_frozen BK288.out 1
      obtain ⟨Ao71, co71, eo71⟩ := Kd.R_slice HO_290001.out
      subst eo71
      try go_wp2
      refine bodyPost_ret (results_cell_row rfl _ _ gb288 27 #[.slice Ao64 y329.length co64, .slice Ao71 x290001_1.length co71] (0, 0) _ rfl (by (with_reducible repeat (first | refine blk_drewN ?_ _ | refine blk_drew ?_ | refine blk_alloc ?_ _)); refine blk_put (cs := #[.slice Ao64 y329.length co64, .slice none 0 0]) ?_ 1 _ rfl; (with_reducible repeat (first | refine blk_drewN ?_ _ | refine blk_drew ?_ | refine blk_alloc ?_ _)); refine blk_put (cs := #[.slice none 0 0, .slice none 0 0]) ?_ 0 _ rfl; (with_reducible repeat (first | refine blk_drewN ?_ _ | refine blk_drew ?_ | refine blk_alloc ?_ _)); refine blk_far ?_ NB288_289.out _; (with_reducible repeat (first | refine blk_drewN ?_ _ | refine blk_drew ?_ | refine blk_alloc ?_ _)); exact BK288.out) Try.underlying27 rfl (by kernel_rfl)) rfl ?_
      exact ⟨_, _, eE, (rM (Kd.R_far (p := ⟨gb288, 1, none⟩) (Kd.R_far (p := ⟨gb288, 0, none⟩) (Kd.R_far (p := ⟨gb289, 0, none⟩) (Kd.R_types (Kd.R_types HO331.out BK289.out (by decide)) BK288.out (by decide)) (fun _ hk => hk.1.2) (.slice Ao64 y329.length co64)) (fun _ hk => hk.2) (.slice Ao64 y329.length co64)) (fun _ hk => hk.2) (.slice Ao71 x290001_1.length co71)) (fun _ hk => trivial)), (rM (Kd.R_far (p := ⟨gb288, 1, none⟩) (Kd.R_far (p := ⟨gb288, 0, none⟩) (Kd.R_far (p := ⟨gb289, 0, none⟩) (Kd.R_types (Kd.R_types HO_290001.out BK289.out (by decide)) BK288.out (by decide)) (fun _ hk => hk.1.2) (.slice Ao64 y329.length co64)) (fun _ hk => hk.2) (.slice Ao64 y329.length co64)) (fun _ hk => hk.2) (.slice Ao71 x290001_1.length co71)) (fun _ hk => trivial)), IsS81.qHI0, IsS81.bHI0, kK⟩
     rw [if_neg c58] at H
     exact absurd H (by simp)
    rw [if_neg c56] at H
    have c56b0 : (t314 == 1) = false := beq_eq_false_iff_ne.mpr c56
    have c56b1 : (t314 != 1) = true := bne_iff_ne.mpr c56
    by_cases c72 : (x290000_1.length : Int) > 0
    ·rw [if_pos c72] at H
     have c72b0 : decide (0 < (x290000_1.length : Int)) = true := decide_eq_true c72
     have c72b1 : decide (0 < x290000_1.length) = true := decide_eq_true (by omega)
     clear c72
     by_cases c73 : 0 < (x290000_1.length : Int)
     ·rw [if_pos c73] at H
      have c73b0 := decide_eq_true c73
      have c73b1 : decide (0 < x290000_1.length) = true := decide_eq_true (by omega)
      clear c73
      by_cases c74 : x290000_1.length < 8796093022208
      ·rw [if_pos c74] at H
       have LMc74 := Aside0.mk c74
       clear c74
       obtain ⟨y333, hy333⟩ : ∃ y_ : List ByteArray, y_ = (x290000_1 ++ [rdOf ByteArray.empty x290000_1 0]) := ⟨_, rfl⟩
       replace H : (some (y333, x290001_1, t315, t316)) = some (r1, r2, r3, r4) := by first | (rw [hy333]; with_reducible exact H) | (have H2_ := (Option.bind_some _ _).symm.trans H; rw [hy333]; with_reducible exact H2_) | (have H2_ := (Option.bind_some _ _).symm.trans H; with_reducible exact H2_) | with_reducible exact H | (rw [hy333]; exact H) | exact H
       have Ny333 := Aside0.mk hy333
       clear hy333
       simp only [Option.some.injEq, Prod.mk.injEq] at H
       obtain ⟨rfl, rfl, rfl, rfl⟩ := H
       try go_wp2_with (first | (refine gL 40 (some 29) Try.func40 #[.pointer (some ⟨g, 0, none⟩), .int .i64 10] ?_; (with_reducible refine (spec_l1Once.calls g s0_0 x1001_1 x1002_1 10 true t312 t313 w0 _ ?side1 ?side2 A34.out).mono ?_); (case side1 => exact IsS81.qHI0); (case side2 => exact IsS81.bHI0); rintro e w75 ⟨rfl, hi, hb, hk⟩; refine ⟨_, rfl, ?_⟩; have n_ := aT (IsS81.rK hk (kR HO_290000.out) (show IsS81 w0 _ g s0_0 x1001_1 x1002_1 from IsS81.qHI0)) (aT (IsS81.rK hk (kR HO_290001.out) (show IsS81 w0 _ g s0_0 x1001_1 x1002_1 from IsS81.qHI0)) (aT (KeepBut.blk hk (g' := gb288) (o := .cells #[.slice none 0 0, .slice none 0 0] 27 (0, 0)) (kB BK288.out) NB288_0.out (by simp)) (aT (KeepBut.blk hk (g' := gb289) (o := .cells #[u290000, u290001] 27 (0, 0)) (kB BK289.out) NB289_0.out (by simp)) (aT (KeepBut.trans kK hk (.inl rfl)) (aT (hb) (aM (hi))))))); clear HO_290000 HO_290001 BK288 BK289 HK HB HI0; obtain ⟨HO_290000, HO_290001, BK288, BK289, HK, HB, HI0⟩ := n_; (try clear hb); (try clear hk); (try clear hi)) | (refine gL 41 (some 31) Try.func41 #[.pointer (some ⟨g, 0, none⟩), .int .i64 3] ?_; (with_reducible refine (spec_l1Below.calls g s0_0 t312 t313 3 t314 t315 t316 w0 _ ?side1 ?side2 A36.out).mono ?_); (case side1 => exact IsS81.qHI0); (case side2 => exact IsS81.bHI0); rintro e w76 ⟨rfl, hi, hb, hk⟩; refine ⟨_, rfl, ?_⟩; have n_ := aT (IsS81.rK hk (kR HO_290000.out) (show IsS81 w0 _ g s0_0 t312 t313 from IsS81.qHI0)) (aT (IsS81.rK hk (kR HO_290001.out) (show IsS81 w0 _ g s0_0 t312 t313 from IsS81.qHI0)) (aT (KeepBut.blk hk (g' := gb288) (o := .cells #[.slice none 0 0, .slice none 0 0] 27 (0, 0)) (kB BK288.out) NB288_0.out (by simp)) (aT (KeepBut.blk hk (g' := gb289) (o := .cells #[u290000, u290001] 27 (0, 0)) (kB BK289.out) NB289_0.out (by simp)) (aT (KeepBut.trans kK hk (.inl rfl)) (aT (hb) (aM (hi))))))); clear HO_290000 HO_290001 BK288 BK289 HK HB HI0; obtain ⟨HO_290000, HO_290001, BK288, BK289, HK, HB, HI0⟩ := n_; (try clear hb); (try clear hk); (try clear hi); have hnb77 := NB289_288.out; have hnc77 := NB288_289.out; have hnb78 := NB289_0.out; have hnc78 := NB0_289.out; have hcz79_0 : w76.cell? ⟨gb289, 0, none⟩ = some (u290000) := (blk_cell BK289.out 0).trans rfl; have hcz79_1 : w76.cell? ⟨gb289, 1, none⟩ = some (u290001) := (blk_cell BK289.out 1).trans rfl; have hfz79_0 := blk_frozen BK289.out 0; have hfz79_1 := blk_frozen BK289.out 1; obtain ⟨Ao80, co80, eo80⟩ := Kd.R_slice HO_290000.out; subst eo80))
       have n_ := aT (Kd.R_drew HO_290000.out) (aT (Kd.R_drew HO_290001.out) (aT (blk_drew BK288.out) (aT (blk_drew BK289.out) (aT (IsS81.drew HI0.out) (aT (keep_drew HK.out) (aM (below_drew1 HB.out)))))))
       clear HO_290000 HO_290001 BK288 BK289 HI0 HK HB
       obtain ⟨HO_290000, HO_290001, BK288, BK289, HI0, HK, HB⟩ := n_
       have p332 : 0 ≤ (0 : Int) := (by omega)
       have q332 : 0 < (x290000_1.length : Int) := of_decide_eq_true aA
       obtain ⟨ad332, e332, hx332_0⟩ := Kd.at_string (Kd.R_reads' HO_290000.out).2.2 0 p332 q332
       cases e332
       have qi332 : (0 < x290000_1.length) = True := eq_true (by omega)
       (try rw [show ((0 : Int)).toNat = 0 from rfl] at hx332_0)
       (try rw [Addr.add_zero'] at hx332_0)
       replace p332 := eq_true p332
       replace q332 := eq_true q332
       refine start_ (n := 10) (S := fun w' => w'.cell? ⟨gb289, 0, none⟩ = some (.slice (some ad332) x290000_1.length co80) ∧ w'.cell? ⟨gb289, 1, none⟩ = some (u290001) ∧ w'.cell? ad332 = some (.string (rdOf ByteArray.empty x290000_1 0))) (ds := [7, 9]) _ (by kernel_rfl) rfl rfl ⟨(blk_cell BK289.out 0).trans rfl, (blk_cell BK289.out 1).trans rfl, hx332_0⟩ (fun hHeld => ?_); refine with_tabW spec_l3Known.tab11 spec_l3Known.bits11 (fun HT_ HW_ => ?_)
       generalize w76.drew = w81 at HO_290000 HO_290001 BK288 BK289 HI0 HK HB hx332_0 hHeld ⊢
       refine pU HT_ 0 (some 36) (mk 10 1) rfl rfl (h := ?_)
       refine pU HT_ 2 (some 38) (mk 10 5) rfl rfl (h := ?_)
       refine tU HT_ HW_ 1 (some 37) (mk 10 7) hHeld rfl rfl (by rintro w' ⟨s0, s1, s2⟩; go_simp; with_reducible rfl) (h := ?_)
       refine tU HT_ HW_ 3 (some 39) (mk 10 15) hHeld rfl rfl (by rintro w' ⟨s0, s1, s2⟩; go_simp; with_reducible rfl) (h := ?_)
       refine pU HT_ 4 (some 40) (mk 10 31) rfl rfl (h := ?_)
       refine tU HT_ HW_ 5 (some 41) (mk 10 63) hHeld rfl rfl (by rintro w' ⟨s0, s1, s2⟩; go_simp; with_reducible rfl) (h := ?_)
       refine one_ (i := 6) (N := some 42) (mk 10 127) rfl rfl (one_of HT_.out (by kernel_rfl)) (by decide) (fun K hK => ?_)
       refine value_ (w1 := ?_) (v := ?_) (by rfl) rfl ?_ ?_
       rotate_left 2
       ·go_simp
        constructor
        ·rfl
        rfl
       refine hK.out _ _ ⟨(blk_cell (blk_alloc BK289.out _) 0).trans rfl, (blk_cell (blk_alloc BK289.out _) 1).trans rfl, (World.cell?_alloc_lt _ _ _ (World.block_lt_of_cell? _ _ (hHeld.2.2))).trans (hHeld.2.2)⟩ (fun hHeld => ?_)
       clear hK K
       refine nO (some 42) (h := ?_)
       refine last_ (i := 7) (N := some 43) #[true, true, true, true, true, true, true, true, false, false] rfl rfl (one_of HT_.out (by kernel_rfl)) (by decide) (fun K hK => ?_)
       refine Kd.R_append_step Kd.string w.heap.size (by rfl) (.tmp 37) (.tmp 42) 24 9 (.string ⟨#[]⟩) 16 rfl Try.underlying24 info9 rfl (by decide) (by omega) (.slice (some ad332) x290000_1.length co80) x290000_1 (rdOf ByteArray.empty x290000_1 0) [.string (rdOf ByteArray.empty x290000_1 0)] (fun _ => True) (fun _ => False) rfl rfl ?aP (fun _ hk => hk.elim) ?aF ?aO (Below.refl _ _) ?aS ?aL ?_
       (case aP => exact rfl)
       (case aF => exact (fun _ _ => trivial))
       (case aO => exact (kR HO_290000.out))
       (case aS => exact kL)
       (case aL => have := LMc74.out; omega)
       intro v334 w82 ho hb hg hat
       rw [← Ny333.out] at ho
       have n0_ := Aside0.mk (Kd.R_over' (kR HO_290001.out) (Kd.R_typed (kR HO_290000.out)) (by decide) hg)
       have n1_ := Aside0.mk (blk_grown (g := gb288) (o := .cells #[.slice none 0 0, .slice none 0 0] 27 (0, 0)) (kB BK288.out) hg (Kd.R_ne HO_290000.out BK288.out (by decide)))
       have n2_ := Aside0.mk (blk_grown (g := gb289) (o := .cells #[.slice (some ad332) x290000_1.length co80, u290001] 27 (0, 0)) (kB BK289.out) hg (Kd.R_ne HO_290000.out BK289.out (by decide)))
       have n3_ := Aside0.mk (IsS81.grown IsS81.qHI0 hg (IsS81.own_ne HI0.out HO_290000.out (by decide)))
       have n4_ := Aside0.mk (below_weaken IsS81.bHI0 HL.out hb)
       have n5_ := Aside0.mk (KeepBut.trans kK (KeepBut.of_grown hg g) (Kd.R_base2 HO_290000.out))
       have n6_ := Aside0.mk (ho)
       clear HO_290001 BK288 BK289 HI0 HB HK HO_290000
       have HO_290001 := n0_
       have BK288 := n1_
       have BK289 := n2_
       have HI0 := n3_
       have HB := n4_
       have HK := n5_
       have HO335 := n6_
       clear n0_ n1_ n2_ n3_ n4_ n5_ n6_ ho hb hg hat
       obtain ⟨Ao83, co83, eo83⟩ := Kd.R_slice HO335.out
       (first | subst eo83 | (injection eo83 with f1_ f2_ f3_; have f4_ := f1_.symm; have f5_ := f3_.symm; clear f1_ f2_ f3_; subst f4_; subst f5_))
       refine hK.out _ _ ?_
       clear hK K
       refine nO (some 43) (h := ?_)
       refine pU HT_ 8 (some 44) (mk 10 511) rfl rfl (h := ?_)
       refine last_ (i := 9) (N := none) #[true, true, true, true, true, true, true, true, true, true] rfl rfl (one_of HT_.out (by kernel_rfl)) (by decide) (fun K hK => ?_)
       have hs84 : w82.cell? ⟨gb289, 0, none⟩ = some (.slice (some ad332) x290000_1.length co80) := (blk_cell BK289.out 0).trans rfl
       have hfs84 := blk_frozen BK289.out 0
       have hns84_0 := NB288_289.out
       have hms84_0 := NB289_288.out
       refine skip_ (w1 := ?_) (by rfl) rfl ?_ ?_
       rotate_left
       ·go_simp
        rfl
       refine hK.out _ _ ?_
       clear hK K
       refine done_ (done_of HT_.out (by kernel_rfl)) ?_
       have hcz85_0 : w82.cell? ⟨gb289, 0, none⟩ = some (.slice (some ad332) x290000_1.length co80) := (blk_cell BK289.out 0).trans rfl
       have hcz85_1 : w82.cell? ⟨gb289, 1, none⟩ = some (u290001) := (blk_cell BK289.out 1).trans rfl
       have hfz85_0 := blk_frozen BK289.out 0
       have hfz85_1 := blk_frozen BK289.out 1
       have hnb86 := NB288_0.out
       have hnc86 := NB0_288.out
       have hcz87_0 : w82.cell? ⟨gb288, 0, none⟩ = some (.slice none 0 0) := (blk_cell BK288.out 0).trans rfl
       have hcz87_1 : w82.cell? ⟨gb288, 1, none⟩ = some (.slice none 0 0) := (blk_cell BK288.out 1).trans rfl
       have hfz87_0 := blk_frozen BK288.out 0
       have hfz87_1 := blk_frozen BK288.out 1
       obtain ⟨Ao88, co88, eo88⟩ := Kd.R_slice HO_290001.out
       subst eo88
       try go_wp2
       refine bodyPost_ret (results_cell_row rfl _ _ gb288 27 #[.slice Ao83 y333.length co83, .slice Ao88 x290001_1.length co88] (0, 0) _ rfl (by (with_reducible repeat (first | refine blk_drewN ?_ _ | refine blk_drew ?_ | refine blk_alloc ?_ _)); refine blk_put (cs := #[.slice Ao83 y333.length co83, .slice none 0 0]) ?_ 1 _ rfl; (with_reducible repeat (first | refine blk_drewN ?_ _ | refine blk_drew ?_ | refine blk_alloc ?_ _)); refine blk_put (cs := #[.slice none 0 0, .slice none 0 0]) ?_ 0 _ rfl; (with_reducible repeat (first | refine blk_drewN ?_ _ | refine blk_drew ?_ | refine blk_alloc ?_ _)); refine blk_far ?_ NB288_289.out _; (with_reducible repeat (first | refine blk_drewN ?_ _ | refine blk_drew ?_ | refine blk_alloc ?_ _)); exact BK288.out) Try.underlying27 rfl (by kernel_rfl)) rfl ?_
       exact ⟨_, _, eE, (rM (Kd.R_far (p := ⟨gb288, 1, none⟩) (Kd.R_far (p := ⟨gb288, 0, none⟩) (Kd.R_far (p := ⟨gb289, 0, none⟩) (Kd.R_types (Kd.R_types HO335.out BK289.out (by decide)) BK288.out (by decide)) (fun _ hk => hk.1.2) (.slice Ao83 y333.length co83)) (fun _ hk => hk.2) (.slice Ao83 y333.length co83)) (fun _ hk => hk.2) (.slice Ao88 x290001_1.length co88)) (fun _ hk => trivial)), (rM (Kd.R_far (p := ⟨gb288, 1, none⟩) (Kd.R_far (p := ⟨gb288, 0, none⟩) (Kd.R_far (p := ⟨gb289, 0, none⟩) (Kd.R_types (Kd.R_types HO_290001.out BK289.out (by decide)) BK288.out (by decide)) (fun _ hk => hk.1.2) (.slice Ao83 y333.length co83)) (fun _ hk => hk.2) (.slice Ao83 y333.length co83)) (fun _ hk => hk.2) (.slice Ao88 x290001_1.length co88)) (fun _ hk => trivial)), IsS81.qHI0, IsS81.bHI0, kK⟩
      rw [if_neg c74] at H
      exact absurd H (by simp)
     rw [if_neg c73] at H
     exact absurd H (by simp)
    rw [if_neg c72] at H
    have c72b0 : decide (0 < (x290000_1.length : Int)) = false := decide_eq_false c72
    have c72b1 : decide (0 < x290000_1.length) = false := decide_eq_false (by omega)
    clear c72
    simp only [Option.some.injEq, Prod.mk.injEq] at H
    obtain ⟨rfl, rfl, rfl, rfl⟩ := H
    go_wp2_with (first | (refine gL 40 (some 29) Try.func40 #[.pointer (some ⟨g, 0, none⟩), .int .i64 10] ?_; (with_reducible refine (spec_l1Once.calls g s0_0 x1001_1 x1002_1 10 true t312 t313 w0 _ ?side1 ?side2 A34.out).mono ?_); (case side1 => exact IsS81.qHI0); (case side2 => exact IsS81.bHI0); rintro e w89 ⟨rfl, hi, hb, hk⟩; refine ⟨_, rfl, ?_⟩; have n_ := aT (IsS81.rK hk (kR HO_290000.out) (show IsS81 w0 _ g s0_0 x1001_1 x1002_1 from IsS81.qHI0)) (aT (IsS81.rK hk (kR HO_290001.out) (show IsS81 w0 _ g s0_0 x1001_1 x1002_1 from IsS81.qHI0)) (aT (KeepBut.blk hk (g' := gb288) (o := .cells #[.slice none 0 0, .slice none 0 0] 27 (0, 0)) (kB BK288.out) NB288_0.out (by simp)) (aT (KeepBut.blk hk (g' := gb289) (o := .cells #[u290000, u290001] 27 (0, 0)) (kB BK289.out) NB289_0.out (by simp)) (aT (KeepBut.trans kK hk (.inl rfl)) (aT (hb) (aM (hi))))))); clear HO_290000 HO_290001 BK288 BK289 HK HB HI0; obtain ⟨HO_290000, HO_290001, BK288, BK289, HK, HB, HI0⟩ := n_; (try clear hb); (try clear hk); (try clear hi)) | (refine gL 41 (some 31) Try.func41 #[.pointer (some ⟨g, 0, none⟩), .int .i64 3] ?_; (with_reducible refine (spec_l1Below.calls g s0_0 t312 t313 3 t314 t315 t316 w0 _ ?side1 ?side2 A36.out).mono ?_); (case side1 => exact IsS81.qHI0); (case side2 => exact IsS81.bHI0); rintro e w90 ⟨rfl, hi, hb, hk⟩; refine ⟨_, rfl, ?_⟩; have n_ := aT (IsS81.rK hk (kR HO_290000.out) (show IsS81 w0 _ g s0_0 t312 t313 from IsS81.qHI0)) (aT (IsS81.rK hk (kR HO_290001.out) (show IsS81 w0 _ g s0_0 t312 t313 from IsS81.qHI0)) (aT (KeepBut.blk hk (g' := gb288) (o := .cells #[.slice none 0 0, .slice none 0 0] 27 (0, 0)) (kB BK288.out) NB288_0.out (by simp)) (aT (KeepBut.blk hk (g' := gb289) (o := .cells #[u290000, u290001] 27 (0, 0)) (kB BK289.out) NB289_0.out (by simp)) (aT (KeepBut.trans kK hk (.inl rfl)) (aT (hb) (aM (hi))))))); clear HO_290000 HO_290001 BK288 BK289 HK HB HI0; obtain ⟨HO_290000, HO_290001, BK288, BK289, HK, HB, HI0⟩ := n_; (try clear hb); (try clear hk); (try clear hi); have hnb91 := NB289_288.out; have hnc91 := NB288_289.out; have hnb92 := NB289_0.out; have hnc92 := NB0_289.out; have hcz93_0 : w90.cell? ⟨gb289, 0, none⟩ = some (u290000) := (blk_cell BK289.out 0).trans rfl; have hcz93_1 : w90.cell? ⟨gb289, 1, none⟩ = some (u290001) := (blk_cell BK289.out 1).trans rfl; have hfz93_0 := blk_frozen BK289.out 0; have hfz93_1 := blk_frozen BK289.out 1; obtain ⟨Ao94, co94, eo94⟩ := Kd.R_slice HO_290000.out; subst eo94; have hnb95 := NB288_0.out; have hnc95 := NB0_288.out; have hcz96_0 : w90.cell? ⟨gb288, 0, none⟩ = some (.slice none 0 0) := (blk_cell BK288.out 0).trans rfl; have hcz96_1 : w90.cell? ⟨gb288, 1, none⟩ = some (.slice none 0 0) := (blk_cell BK288.out 1).trans rfl; have hfz96_0 := blk_frozen BK288.out 0; have hfz96_1 := blk_frozen BK288.out 1; obtain ⟨Ao97, co97, eo97⟩ := Kd.R_slice HO_290001.out; subst eo97))
    refine bodyPost_ret (results_cell_row rfl _ _ gb288 27 #[.slice Ao94 x290000_1.length co94, .slice Ao97 x290001_1.length co97] (0, 0) _ rfl (by (with_reducible repeat (first | refine blk_drewN ?_ _ | refine blk_drew ?_ | refine blk_alloc ?_ _)); refine blk_put (cs := #[.slice Ao94 x290000_1.length co94, .slice none 0 0]) ?_ 1 _ rfl; (with_reducible repeat (first | refine blk_drewN ?_ _ | refine blk_drew ?_ | refine blk_alloc ?_ _)); refine blk_put (cs := #[.slice none 0 0, .slice none 0 0]) ?_ 0 _ rfl; (with_reducible repeat (first | refine blk_drewN ?_ _ | refine blk_drew ?_ | refine blk_alloc ?_ _)); exact BK288.out) Try.underlying27 rfl (by kernel_rfl)) rfl ?_
    exact ⟨_, _, eE, (rM (Kd.R_far (p := ⟨gb288, 1, none⟩) (Kd.R_far (p := ⟨gb288, 0, none⟩) (Kd.R_types HO_290000.out BK288.out (by decide)) (fun _ hk => hk.2) (.slice Ao94 x290000_1.length co94)) (fun _ hk => hk.2) (.slice Ao97 x290001_1.length co97)) (fun _ hk => trivial)), (rM (Kd.R_far (p := ⟨gb288, 1, none⟩) (Kd.R_far (p := ⟨gb288, 0, none⟩) (Kd.R_types HO_290001.out BK288.out (by decide)) (fun _ hk => hk.2) (.slice Ao94 x290000_1.length co94)) (fun _ hk => hk.2) (.slice Ao97 x290001_1.length co97)) (fun _ hk => trivial)), IsS81.qHI0, IsS81.bHI0, kK⟩
   replace c35 := Bool.eq_false_iff.mpr c35
   subst c35
   rw [if_neg nF] at H
   simp only [Option.some.injEq, Prod.mk.injEq] at H
   obtain ⟨rfl, rfl, rfl, rfl⟩ := H
   go_wp2_with (first | (refine gL 40 (some 29) Try.func40 #[.pointer (some ⟨g, 0, none⟩), .int .i64 10] ?_; (with_reducible refine (spec_l1Once.calls g s0_0 x1001_1 x1002_1 10 false t312 t313 w0 _ ?side1 ?side2 A34.out).mono ?_); (case side1 => exact IsS81.qHI0); (case side2 => exact IsS81.bHI0); rintro e w98 ⟨rfl, hi, hb, hk⟩; refine ⟨_, rfl, ?_⟩; have n_ := aT (IsS81.rK hk (kR HO_290000.out) (show IsS81 w0 _ g s0_0 x1001_1 x1002_1 from IsS81.qHI0)) (aT (IsS81.rK hk (kR HO_290001.out) (show IsS81 w0 _ g s0_0 x1001_1 x1002_1 from IsS81.qHI0)) (aT (KeepBut.blk hk (g' := gb288) (o := .cells #[.slice none 0 0, .slice none 0 0] 27 (0, 0)) (kB BK288.out) NB288_0.out (by simp)) (aT (KeepBut.blk hk (g' := gb289) (o := .cells #[u290000, u290001] 27 (0, 0)) (kB BK289.out) NB289_0.out (by simp)) (aT (KeepBut.trans kK hk (.inl rfl)) (aT (hb) (aM (hi))))))); clear HO_290000 HO_290001 BK288 BK289 HK HB HI0; obtain ⟨HO_290000, HO_290001, BK288, BK289, HK, HB, HI0⟩ := n_; (try clear hb); (try clear hk); (try clear hi); have hnb99 := NB289_288.out; have hnc99 := NB288_289.out; have hnb100 := NB289_0.out; have hnc100 := NB0_289.out; have hcz101_0 : w98.cell? ⟨gb289, 0, none⟩ = some (u290000) := (blk_cell BK289.out 0).trans rfl; have hcz101_1 : w98.cell? ⟨gb289, 1, none⟩ = some (u290001) := (blk_cell BK289.out 1).trans rfl; have hfz101_0 := blk_frozen BK289.out 0; have hfz101_1 := blk_frozen BK289.out 1; obtain ⟨Ao102, co102, eo102⟩ := Kd.R_slice HO_290000.out; subst eo102; have hnb103 := NB288_0.out; have hnc103 := NB0_288.out; have hcz104_0 : w98.cell? ⟨gb288, 0, none⟩ = some (.slice none 0 0) := (blk_cell BK288.out 0).trans rfl; have hcz104_1 : w98.cell? ⟨gb288, 1, none⟩ = some (.slice none 0 0) := (blk_cell BK288.out 1).trans rfl; have hfz104_0 := blk_frozen BK288.out 0; have hfz104_1 := blk_frozen BK288.out 1; obtain ⟨Ao105, co105, eo105⟩ := Kd.R_slice HO_290001.out; subst eo105))
   refine bodyPost_ret (results_cell_row rfl _ _ gb288 27 #[.slice Ao102 x290000_1.length co102, .slice Ao105 x290001_1.length co105] (0, 0) _ rfl (by (with_reducible repeat (first | refine blk_drewN ?_ _ | refine blk_drew ?_ | refine blk_alloc ?_ _)); refine blk_put (cs := #[.slice Ao102 x290000_1.length co102, .slice none 0 0]) ?_ 1 _ rfl; (with_reducible repeat (first | refine blk_drewN ?_ _ | refine blk_drew ?_ | refine blk_alloc ?_ _)); refine blk_put (cs := #[.slice none 0 0, .slice none 0 0]) ?_ 0 _ rfl; (with_reducible repeat (first | refine blk_drewN ?_ _ | refine blk_drew ?_ | refine blk_alloc ?_ _)); exact BK288.out) Try.underlying27 rfl (by kernel_rfl)) rfl ?_
   exact ⟨_, _, eE, (rM (Kd.R_far (p := ⟨gb288, 1, none⟩) (Kd.R_far (p := ⟨gb288, 0, none⟩) (Kd.R_types HO_290000.out BK288.out (by decide)) (fun _ hk => hk.2) (.slice Ao102 x290000_1.length co102)) (fun _ hk => hk.2) (.slice Ao105 x290001_1.length co105)) (fun _ hk => trivial)), (rM (Kd.R_far (p := ⟨gb288, 1, none⟩) (Kd.R_far (p := ⟨gb288, 0, none⟩) (Kd.R_types HO_290001.out BK288.out (by decide)) (fun _ hk => hk.2) (.slice Ao102 x290000_1.length co102)) (fun _ hk => hk.2) (.slice Ao105 x290001_1.length co105)) (fun _ hk => trivial)), IsS81.qHI0, IsS81.bHI0, kK⟩

end Go.Proofs.Ythlpfghlildllaa.OFnKnown
-- wrapped
-- halved
-- squeezed
-- squeezed2
-- squeezed3
