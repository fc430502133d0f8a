-- walks of this claim, written by a program of mine
import Derived.Test.YthlpfghlildllaaOFnKnownx0
import Derived.Test.YthlpfghlildllaaOFnKnownx2
import Derived.Test.YthlpfghlildllaaOFnKnownx3
import Derived.Test.YthlpfghlildllaaOFnKnownx4
import Derived.Test.YthlpfghlildllaaOFnKnownx6
import Derived.Test.YthlpfghlildllaaOFnKnownx7
namespace Go.Proofs.Ythlpfghlildllaa.OFnKnown
open Go.RowKit Go.Proofs.Ythlpfghlildllaa.OWord Go.Proofs.YthlpfghlildllaaW.PrintWords Go.Proofs.YthlpfghlildllaaW.PrintLast Go.Proofs.YthlpfghlildllaaW.PrintMore
attribute [local go_sem] max2_int min2_int max_two min_two max_three min_three max_four min_four   -- for this text's walks alone
set_option linter.unusedVariables false
set_option linter.unusedSimpArgs false

/-! ### spec_l1Size: function 38 -/
def spec_l1Size.f (l0 : List Int) (a1 : Int) : Option (Int) := if (wrap64 (2 + (wrap64 ((l0.length : Int) / 20)))) > a1 then (some a1) else (some (wrap64 (2 + (wrap64 ((l0.length : Int) / 20)))))
set_option maxHeartbeats 8000000 in
set_option maxRecDepth 100000 in
theorem spec_l1Size.calls (A0 : Option Addr) (c0 : Nat) (l0 : List Int) (a1 : Int) (r : Int) (w : World) (hr0 : Kd.C (Kd.int .u8) w A0 l0.length l0) (hc0 : l0.length ≤ c0) (h : spec_l1Size.f l0 a1 = some r) :
  Calls Try.prog 38 #[.slice A0 l0.length c0, .int .i64 a1] w fun e w' => e = .returned (.int .i64 r) ∧ Drawn0 w w' := by
 have HR0 := Aside0.mk hr0
 have HC0 := Aside0.mk hc0
 clear hr0 hc0
 have H := h
 clear h
 unfold spec_l1Size.f at H
 by_cases c3 : (wrap64 (2 + (wrap64 ((l0.length : Int) / 20)))) > a1
 ·rw [if_pos c3] at H
  have c3b0 : decide (a1 < (wrap64 (2 + (wrap64 ((l0.length : Int) / 20))))) = true := decide_eq_true c3
  clear c3
  obtain rfl := Option.some.inj H
  go_enter Try.func38, Try.ntmps38
  go_wp2
  go_ret
  exact ⟨eX, (by repeat (first | exact Drawn0.refl _ | apply Drawn0.step))⟩
 rw [if_neg c3] at H
 have c3b0 : decide (a1 < (wrap64 (2 + (wrap64 ((l0.length : Int) / 20))))) = false := decide_eq_false c3
 clear c3
 obtain rfl := Option.some.inj H
 go_enter Try.func38, Try.ntmps38
 go_wp2
 go_ret
 exact ⟨eX, (by repeat (first | exact Drawn0.refl _ | apply Drawn0.step))⟩

/-! ### spec_DrawBuild: function 10 -/
def spec_DrawBuild.j0 : Nat → ByteArray → Bool → List Int → Int → Int → List ByteArray → List Int → Option (List ByteArray × List Int × ByteArray)
 | 0, _, _, _, _, _, _, _ => none
 | k + 1, x6, x22, x341000, x341001, x341002, x351000, x351001 => if x22 = true then ((spec_l1Below.f x341000 x341001 x341002 (x351000.length : Int)).bind fun bt357 => (if 0 ≤ bt357.1 then (if bt357.1 < (x351000.length : Int) then ((spec_l2Some.f k x341000 bt357.2.1 bt357.2.2 2).bind fun bt361 => ((spec_List.f k (([rdOf ByteArray.empty x351000 bt357.1, bt361.1] : List ByteArray))).bind fun t367 => (some (x351000, x351001, t367)))) else (none)) else (none))) else (some (x351000, x351001, x6))
def spec_DrawBuild.f (k : Nat) (l0 : List Int) : Option (List ByteArray × List Int × ByteArray) := (spec_l1New.f k l0).bind fun bt337 => ((spec_l1Size.f l0 15).bind fun t341 => ((spec_l3Known.f k bt337.1 bt337.2.1 bt337.2.2 t341).bind fun bt342 => ((spec_l2Any.f k bt337.1 bt342.2.2.1 bt342.2.2.2).bind fun bt351 => (if (bt342.1.length : Int) > 0 then ((spec_l1Once.f bt337.1 bt351.2.1 bt351.2.2 2).bind fun bt354 => (spec_DrawBuild.j0 k bt351.1 bt354.1 bt337.1 bt354.2.1 bt354.2.2 bt342.1 bt342.2.1)) else (spec_DrawBuild.j0 k bt351.1 false bt337.1 bt351.2.1 bt351.2.2 bt342.1 bt342.2.1)))))
def spec_DrawBuild.T5 : Bool × List (List Nat × List Nat) := (true, [([], []), ([0], [0]), ([], []), ([], []), ([3], [3]), ([4], [4]), ([2, 5], [2, 5]), ([1, 6], [1, 6]), ([7], [7]), ([], []), ([9, 6], [9]), ([8, 10], [8, 10]), ([11, 10], [11]), ([12, 12, 0, 1, 2, 3, 4, 5, 6, 7, 8, 9, 10, 11, 12], [12])])
def spec_DrawBuild.B5 : List Nat := [0, 1, 0, 0, 8, 24, 60, 127, 255, 0, 636, 2047, 4095, 8191]
theorem spec_DrawBuild.tab5 : rtab .any (opsOf Try.f10 5) = spec_DrawBuild.T5 := by kernel_rfl
theorem spec_DrawBuild.bits5 : waitsOk spec_DrawBuild.T5.2 spec_DrawBuild.B5 = true := by kernel_rfl
set_option maxHeartbeats 8000000 in
set_option maxRecDepth 100000 in
theorem spec_DrawBuild.calls (k : Nat) (A0 : Option Addr) (c0 : Nat) (l0 : List Int) (r1 : List ByteArray) (r2 : List Int) (r3 : ByteArray) (w : World) (hr0 : Kd.C (Kd.int .u8) w A0 l0.length l0) (hc0 : l0.length ≤ c0) (h : spec_DrawBuild.f k l0 = some (r1, r2, r3)) :
  Calls Try.prog 10 #[.slice A0 l0.length c0] w fun e w' => ∃ v0_ v1_ : Value, e = .returned (.tuple #[.agg #[v0_, v1_], .string r3]) ∧ Kd.R Kd.string 9 w' w.heap.size (fun _ => True) v0_ r1 ∧ Kd.R (Kd.int .i64) 3 w' w.heap.size (fun _ => True) v1_ r2 ∧ Below w.heap.size w w' := by
 have hu27 := Try.underlying27
 have HR0 := Aside0.mk hr0
 have HC0 := Aside0.mk hc0
 clear hr0 hc0
 have HB := Aside0.mk (Below.refl w.heap.size w)
 have H := h
 clear h
 unfold spec_DrawBuild.f at H
 obtain ⟨⟨t337, t338, t339⟩, A2, H⟩ := oB H
 dsimp only at H
 obtain ⟨t341, A3, H⟩ := oB H
 obtain ⟨⟨t342, t345, t348, t349⟩, A4, H⟩ := oB H
 dsimp only at H
 obtain ⟨⟨t351, t352, t353⟩, A5, H⟩ := oB H
 dsimp only at H
 have HC6 := Aside0.mk H
 clear H
 go_enter Try.func10, Try.ntmps10
 go_upto_region 4 with (first | (refine bE 2 #[.slice none 0 0, .slice none 0 0] 27 ?_; intro gb336 hg w7 hbox hb; have n_ := aT (below_step bH hb) (aT (hbox) (aT ((bZ hg : w.heap.size ≤ gb336)) (aM ((bZ hg : w.heap.size ≤ gb336))))); clear HB; obtain ⟨HB, BK336, GW336, GE336⟩ := n_; clear hb hbox hg) | (refine gL 36 (some 8) Try.func36 #[.slice A0 l0.length c0] ?_; (with_reducible refine (spec_l1New.calls k _ _ l0 t337 t338 t339 w _ ?side1 ?side2 ?side3 A2.out).mono ?_); (case side1 => repeat (first | (with_reducible first | exact HB.out | apply below_alloc | apply pw_below_drewN | apply below_drew1 | refine below_set ?_ GE336.out) | exact HB.out)); (case side2 => exact HR0.out); (case side3 => exact HC0.out); rintro e w8 ⟨g340, rfl, hi, hb, hb2⟩; refine ⟨_, rfl, ?_⟩; have n_ := aT (blk_below (kB BK336.out) hb2) (aT (hb) (aT (hi) (aT (IsS81.ne_blk hi (blk_below (kB BK336.out) hb2) (by decide)) (aM (Ne.symm (IsS81.ne_blk hi (blk_below (kB BK336.out) hb2) (by decide))))))); clear BK336 HB; obtain ⟨BK336, HB, HI340, NB340_336, NB336_340⟩ := n_; (try clear hb); (try clear hb2); (try clear hi)) | (refine gL 38 (some 11) Try.func38 #[.slice A0 l0.length c0, .int .i64 15] ?_; (with_reducible refine (spec_l1Size.calls _ _ l0 15 t341 _ ?side1 ?side2 A3.out).mono ?_); (case side1 => exact cA (Kd.C_below HR0.out HB.out)); (case side2 => exact HC0.out); rintro e w' ⟨rfl, ⟨nd, rfl⟩⟩; refine ⟨_, rfl, ?_⟩; (try (rw [drewN_self w8]; generalize hq_ : World.drewN w8 _ = w8; have n0_ : Aside0 (w8.heap[gb336]? = some (.cells #[.slice none 0 0, .slice none 0 0] 27 (0, 0))) := ⟨(by rw [← hq_]; exact (kB BK336.out))⟩; have n1_ : Aside0 (IsS81 w w8 g340 t337 t338 t339) := ⟨(by rw [← hq_]; exact IsS81.qHI340)⟩; have n2_ : Aside0 (Below w.heap.size w w8) := ⟨(by rw [← hq_]; exact IsS81.bHI340)⟩; clear BK336 HI340 HB hq_; have BK336 := n0_; have HI340 := n1_; have HB := n2_; clear n0_ n1_ n2_))) | (refine gL 37 (some 12) Try.func37 #[.pointer (some ⟨g340, 0, none⟩), .int .i64 t341] ?_; (with_reducible refine (spec_l3Known.calls k g340 t337 t338 t339 t341 t342 t345 t348 t349 w _ ?side1 ?side2 A4.out).mono ?_); (case side1 => exact IsS81.qHI340); (case side2 => exact IsS81.bHI340); rintro e w9 ⟨v343, v346, rfl, ho0, ho1, hi, hb, hk⟩; refine ⟨_, rfl, ?_⟩; have n_ := aT (KeepBut.blk hk (g' := gb336) (o := .cells #[.slice none 0 0, .slice none 0 0] 27 (0, 0)) (kB BK336.out) NB336_340.out (by simp)) (aT (Kd.R_lower ho0 (below_size IsS81.bHI340)) (aT (Kd.R_lower ho1 (below_size IsS81.bHI340)) (aT (hb) (aM (hi))))); clear BK336 HB HI340; obtain ⟨BK336, HO344, HO347, HB, HI340⟩ := n_; (try clear hb); (try clear hk); (try clear hi); (try clear ho0); (try clear ho1)) | (refine bE 5 #[.slice none 0 0, .slice none 0 0] 27 ?_; intro gb350 hg w10 hbox hb; have n_ := aT (Kd.R_below (kR HO344.out) hb) (aT (Kd.R_below (kR HO347.out) hb) (aT (blk_below (kB BK336.out) hb) (aT (IsS81.below IsS81.qHI340 hb) (aT (below_step IsS81.bHI340 hb) (aT (hbox) (aT ((by rw [hg]; exact (below_size IsS81.bHI340) : w.heap.size ≤ gb350)) (aT ((by rw [hg]; exact (below_size IsS81.bHI340) : w.heap.size ≤ gb350)) (aT ((nL hg BK336.out : gb336 ≠ gb350)) (aT ((nG hg BK336.out : gb350 ≠ gb336)) (aT ((by rw [hg]; exact Nat.ne_of_lt (IsS81.lt (show IsS81 w _ g340 t337 t348 t349 from IsS81.qHI340)) : g340 ≠ gb350)) (aM ((by rw [hg]; exact Nat.ne_of_gt (IsS81.lt (show IsS81 w _ g340 t337 t348 t349 from IsS81.qHI340)) : gb350 ≠ g340))))))))))))); clear HO344 HO347 BK336 HI340 HB; obtain ⟨HO344, HO347, BK336, HI340, HB, BK350, GW350, GE350, NB336_350, NB350_336, NB340_350, NB350_340⟩ := n_; clear hb hbox hg; obtain ⟨Ao11, co11, eo11⟩ := Kd.R_slice HO344.out; subst eo11; have hnb12 := NB350_336.out; have hnc12 := NB336_350.out; have hnb13 := NB350_340.out; have hnc13 := NB340_350.out; have hcz14_0 : w10.cell? ⟨gb350, 0, none⟩ = some (.slice none 0 0) := (blk_cell BK350.out 0).trans rfl; have hcz14_1 : w10.cell? ⟨gb350, 1, none⟩ = some (.slice none 0 0) := (blk_cell BK350.out 1).trans rfl; have hfz14_0 := blk_frozen BK350.out 0; have hfz14_1 := blk_frozen BK350.out 1; obtain ⟨Ao15, co15, eo15⟩ := Kd.R_slice HO347.out; subst eo15) | (refine gL 39 (some 14) Try.func39 #[.pointer (some ⟨g340, 0, none⟩)] ?_; (with_reducible refine (spec_l2Any.calls k g340 t337 t348 t349 t351 t352 t353 w _ ?side1 ?side2 A5.out).mono ?_); (case side1 => exact IsS81.qHI340); (case side2 => exact IsS81.bHI340); rintro e w16 ⟨rfl, hi, hb, hk⟩; refine ⟨_, rfl, ?_⟩; have n_ := aT (KeepBut.blk hk (g' := gb336) (o := .cells #[.slice none 0 0, .slice none 0 0] 27 (0, 0)) (kF2 NB336_350.out BK336.out) NB336_340.out (by simp)) (aT (IsS81.rK hk (rF2 HO344.out BK350.out) (show IsS81 w _ g340 t337 t348 t349 from IsS81.qHI340)) (aT (IsS81.rK hk (rF2 HO347.out BK350.out) (show IsS81 w _ g340 t337 t348 t349 from IsS81.qHI340)) (aT (KeepBut.blk hk (g' := gb350) (o := .cells #[.slice Ao11 t342.length co11, .slice Ao15 t345.length co15] 27 (0, 0)) (by (with_reducible repeat (first | refine blk_drewN ?_ _ | refine blk_drew ?_ | refine blk_alloc ?_ _)); refine blk_put (cs := #[.slice Ao11 t342.length co11, .slice none 0 0]) ?_ 1 _ rfl; (with_reducible repeat (first | refine blk_drewN ?_ _ | refine blk_drew ?_ | refine blk_alloc ?_ _)); refine blk_put (cs := #[.slice none 0 0, .slice none 0 0]) ?_ 0 _ rfl; (with_reducible repeat (first | refine blk_drewN ?_ _ | refine blk_drew ?_ | refine blk_alloc ?_ _)); exact BK350.out) NB350_340.out (by simp)) (aT (hb) (aM (hi)))))); clear BK336 HO344 HO347 BK350 HB HI340; obtain ⟨BK336, HO344, HO347, BK350, HB, HI340⟩ := n_; (try clear hb); (try clear hk); (try clear hi)))
 (try simp only [Act.put, List.setIfInBounds_toArray, List.set_cons_zero, List.set_cons_succ])
 go_cut [22] (fun v22 wc => ∃ (kq : Nat) (x22_5 : Bool) (x341001_5 : Int) (x341002_5 : Int), v22 = .bool x22_5 ∧ Aside0 (spec_DrawBuild.j0 kq t351 x22_5 t337 x341001_5 x341002_5 t342 t345 = some (r1, r2, r3)) ∧ Aside0 (kq ≤ k) ∧ Aside0 (Kd.R Kd.string 9 wc w.heap.size (fun _ => True) (.slice Ao11 t342.length co11) t342) ∧ Aside0 (Kd.R (Kd.int .i64) 3 wc w.heap.size (fun _ => True) (.slice Ao15 t345.length co15) t345) ∧ Aside0 (wc.heap[gb336]? = some (.cells #[(.slice none 0 0), (.slice none 0 0)] 27 (0, 0))) ∧ Aside0 (wc.heap[gb350]? = some (.cells #[(.slice Ao11 t342.length co11), (.slice Ao15 t345.length co15)] 27 (0, 0))) ∧ Aside0 (IsS81 w wc g340 t337 x341001_5 x341002_5) ∧ Aside0 (Below w.heap.size w wc))
 case first =>
  have H := HC6.out
  clear HC6
  by_cases c17 : (t342.length : Int) > 0
  ·rw [if_pos c17] at H
   have c17b0 : decide (0 < (t342.length : Int)) = true := decide_eq_true c17
   have c17b1 : decide (0 < t342.length) = true := decide_eq_true (by omega)
   clear c17
   (first | rw [c17b0] | (simp only [i64_w, i32_w]; rw [c17b0]) | skip)
   obtain ⟨⟨t354, t355, t356⟩, A18, H⟩ := oB H
   dsimp only at H
   have H' := Aside0.mk H
   clear H
   have hnb19 := NB350_336.out
   have hnc19 := NB336_350.out
   have hnb20 := NB350_340.out
   have hnc20 := NB340_350.out
   have hcz21_0 : w16.cell? ⟨gb350, 0, none⟩ = some (.slice Ao11 t342.length co11) := (blk_cell BK350.out 0).trans rfl
   have hcz21_1 : w16.cell? ⟨gb350, 1, none⟩ = some (.slice Ao15 t345.length co15) := (blk_cell BK350.out 1).trans rfl
   have hfz21_0 := blk_frozen BK350.out 0
   have hfz21_1 := blk_frozen BK350.out 1
   go_wp2_with (first | (go_at_call 40; (with_reducible refine (spec_l1Once.calls g340 t337 t352 t353 2 t354 t355 t356 w _ ?side1 ?side2 A18.out).mono ?_); (case side1 => exact IsS81.qHI340); (case side2 => exact IsS81.bHI340); rintro e w22 ⟨rfl, hi, hb, hk⟩; have n_ := aT (KeepBut.blk hk (g' := gb336) (o := .cells #[.slice none 0 0, .slice none 0 0] 27 (0, 0)) (kB BK336.out) NB336_340.out (by simp)) (aT (IsS81.rK hk (kR HO344.out) (show IsS81 w _ g340 t337 t352 t353 from IsS81.qHI340)) (aT (IsS81.rK hk (kR HO347.out) (show IsS81 w _ g340 t337 t352 t353 from IsS81.qHI340)) (aT (KeepBut.blk hk (g' := gb350) (o := .cells #[.slice Ao11 t342.length co11, .slice Ao15 t345.length co15] 27 (0, 0)) (kB BK350.out) NB350_340.out (by simp)) (aT (hb) (aM (hi)))))); clear BK336 HO344 HO347 BK350 HB HI340; obtain ⟨BK336, HO344, HO347, BK350, HB, HI340⟩ := n_; (try clear hb); (try clear hk); (try clear hi)))
   go_meet
   case rel => exact ⟨_, (t354), (t355), (t356), eX, H', ⟨(by first | omega | exact Nat.le_refl _)⟩, ⟨(kR HO344.out)⟩, ⟨(kR HO347.out)⟩, ⟨(kB BK336.out)⟩, ⟨(kB BK350.out)⟩, ⟨IsS81.qHI340⟩, ⟨IsS81.bHI340⟩⟩
  rw [if_neg c17] at H
  have c17b0 : decide (0 < (t342.length : Int)) = false := decide_eq_false c17
  have c17b1 : decide (0 < t342.length) = false := decide_eq_false (by omega)
  clear c17
  (first | rw [c17b0] | (simp only [i64_w, i32_w]; rw [c17b0]) | skip)
  have H' := Aside0.mk H
  clear H
  have hnb23 := NB350_336.out
  have hnc23 := NB336_350.out
  have hnb24 := NB350_340.out
  have hnc24 := NB340_350.out
  have hcz25_0 : w16.cell? ⟨gb350, 0, none⟩ = some (.slice Ao11 t342.length co11) := (blk_cell BK350.out 0).trans rfl
  have hcz25_1 : w16.cell? ⟨gb350, 1, none⟩ = some (.slice Ao15 t345.length co15) := (blk_cell BK350.out 1).trans rfl
  have hfz25_0 := blk_frozen BK350.out 0
  have hfz25_1 := blk_frozen BK350.out 1
  go_wp2
  go_meet
  case rel => exact ⟨_, (false), (t352), (t353), eX, H', ⟨(by first | omega | exact Nat.le_refl _)⟩, ⟨(kR HO344.out)⟩, ⟨(kR HO347.out)⟩, ⟨(kB BK336.out)⟩, ⟨(kB BK350.out)⟩, ⟨IsS81.qHI340⟩, ⟨IsS81.bHI340⟩⟩
 case rest =>
  clear HC6
  try clear hcz14_0
  try clear hcz14_1
  try clear hfz14_0
  try clear hfz14_1
  obtain ⟨kq, x22_5, x341001_5, x341002_5, rfl, HA, HJ5, HO_351000, HO_351001, BK336, BK350, HI340, HB⟩ := hcut
  cases kq with
  | zero => exact absurd HA.out (by simp [spec_DrawBuild.j0])
  | succ kj5 =>
   have H := HA.out
   clear HA
   simp only [spec_DrawBuild.j0] at H
   by_cases c26 : x22_5 = true
   ·subst c26
    rw [if_pos rfl] at H
    obtain ⟨⟨t357, t358, t359⟩, A27, H⟩ := oB H
    dsimp only at H
    by_cases c28 : 0 ≤ t357
    ·rw [if_pos c28] at H
     have c28b0 := decide_eq_true c28
     clear c28
     by_cases c29 : t357 < (t342.length : Int)
     ·rw [if_pos c29] at H
      have c29b0 := decide_eq_true c29
      clear c29
      obtain ⟨⟨t361, t362, t363⟩, A30, H⟩ := oB H
      dsimp only at H
      obtain ⟨y364, hy364⟩ : ∃ y_ : List ByteArray, y_ = (([rdOf ByteArray.empty t342 t357, t361] : List ByteArray)) := ⟨_, rfl⟩
      replace H : ((spec_List.f kj5 y364).bind fun t367 => (some (t342, t345, t367))) = some (r1, r2, r3) := by first | (rw [hy364]; with_reducible exact H) | (have H2_ := (Option.bind_some _ _).symm.trans H; rw [hy364]; with_reducible exact H2_) | (have H2_ := (Option.bind_some _ _).symm.trans H; with_reducible exact H2_) | with_reducible exact H | (rw [hy364]; exact H) | exact H
      have Ny364 := Aside0.mk hy364
      clear hy364
      obtain ⟨t367, A31, H⟩ := oB H
      simp only [Option.some.injEq, Prod.mk.injEq] at H
      obtain ⟨rfl, rfl, rfl⟩ := H
      try go_wp2
      have n_ := aT (Kd.R_drew HO_351000.out) (aT (Kd.R_drew HO_351001.out) (aT (blk_drew BK336.out) (aT (blk_drew BK350.out) (aT (IsS81.drew HI340.out) (aM (below_drew1 HB.out))))))
      clear HO_351000 HO_351001 BK336 BK350 HI340 HB
      obtain ⟨HO_351000, HO_351001, BK336, BK350, HI340, HB⟩ := n_
      have p360 : 0 ≤ (t357 : Int) := of_decide_eq_true aA
      have q360 : t357 < (t342.length : Int) := of_decide_eq_true aA
      obtain ⟨ad360, e360, hx360_0⟩ := Kd.at_string (Kd.R_reads' HO_351000.out).2.2 t357 p360 q360
      cases e360
      replace p360 := eq_true p360
      replace q360 := eq_true q360
      refine start_ (n := 14) (S := fun w' => w'.cell? ⟨gb350, 0, none⟩ = some (.slice (some ad360) t342.length co11) ∧ w'.cell? ⟨gb350, 1, none⟩ = some (.slice Ao15 t345.length co15) ∧ w'.cell? (ad360.add (t357).toNat) = some (.string (rdOf ByteArray.empty t342 t357))) (ds := []) _ (by kernel_rfl) rfl rfl ⟨(blk_cell BK350.out 0).trans rfl, (blk_cell BK350.out 1).trans rfl, hx360_0⟩ (fun hHeld => ?_); refine with_tabW spec_DrawBuild.tab5 spec_DrawBuild.bits5 (fun HT_ HW_ => ?_)
      generalize wc.drew = w32 at HO_351000 HO_351001 BK336 BK350 HI340 HB hx360_0 hHeld ⊢
      refine pU HT_ 0 (some 23) (mk 14 1) rfl rfl (h := ?_)
      refine pU HT_ 2 (some 25) (mk 14 5) rfl rfl (h := ?_)
      refine pU HT_ 3 (some 26) (mk 14 13) rfl rfl (h := ?_)
      refine pU HT_ 9 (some 32) (mk 14 525) rfl rfl (h := ?_)
      refine tU HT_ HW_ 1 (some 24) (mk 14 527) hHeld rfl rfl (by rintro w' ⟨s0, s1, s2⟩; go_simp; with_reducible rfl) (h := ?_)
      refine tU HT_ HW_ 4 (some 27) (mk 14 543) hHeld rfl rfl (by rintro w' ⟨s0, s1, s2⟩; go_simp; with_reducible rfl) (h := ?_)
      refine pU HT_ 5 (some 28) (mk 14 575) rfl rfl (h := ?_)
      refine one_ (i := 6) (N := some 29) (mk 14 639) rfl rfl (one_of HT_.out (by kernel_rfl)) (by decide) (fun K hK => ?_)
      refine goes_ Try.func41 (by kernel_rfl) rfl #[.pointer (some ⟨g340, 0, none⟩), .int .i64 (t342.length : Int)] (by rfl) rfl rfl eA ?_
      with_reducible refine (spec_l1Below.calls g340 t337 x341001_5 x341002_5 (t342.length : Int) t357 t358 t359 w _ ?side1 ?side2 A27.out).mono ?_
      (case side1 => exact IsS81.qHI340)
      (case side2 => exact IsS81.bHI340)
      rintro e w33 ⟨rfl, hi, hb, hk⟩
      have HS2_ := keep_cell hk (hHeld.2.2) (by first | (rw [add_block]; exact Kd.own_blk (IsS81.own_ne HI340.out HO_351000.out (by decide))) | (show (Addr.add _ _).block ≠ _; rw [add_block]; exact Kd.own_blk (IsS81.own_ne HI340.out HO_351000.out (by decide))) | exact Kd.own_blk (IsS81.own_ne HI340.out HO_351000.out (by decide)))
      refine ⟨_, rfl, ?_⟩
      have n_ := aT (IsS81.rK hk (kR HO_351000.out) (show IsS81 w _ g340 t337 x341001_5 x341002_5 from IsS81.qHI340)) (aT (IsS81.rK hk (kR HO_351001.out) (show IsS81 w _ g340 t337 x341001_5 x341002_5 from IsS81.qHI340)) (aT (KeepBut.blk hk (g' := gb336) (o := .cells #[.slice none 0 0, .slice none 0 0] 27 (0, 0)) (kB BK336.out) NB336_340.out (by simp)) (aT (KeepBut.blk hk (g' := gb350) (o := .cells #[.slice (some ad360) t342.length co11, .slice Ao15 t345.length co15] 27 (0, 0)) (kB BK350.out) NB350_340.out (by simp)) (aT (hb) (aM (hi))))))
      clear HO_351000 HO_351001 BK336 BK350 HB HI340
      obtain ⟨HO_351000, HO_351001, BK336, BK350, HB, HI340⟩ := n_
      (try clear hb)
      (try clear hb2)
      (try clear hk)
      (try clear hi)
      refine hK.out _ _ ⟨(blk_cell BK350.out 0).trans rfl, (blk_cell BK350.out 1).trans rfl, HS2_⟩ (fun hHeld => ?_)
      clear hK K
      refine nO (some 29) (h := ?_)
      refine pU HT_ 7 (some 30) (mk 14 767) rfl rfl (h := ?_)
      refine tU HT_ HW_ 8 (some 31) (mk 14 1023) hHeld rfl rfl (by rintro w' ⟨s0, s1, s2⟩; go_simp; with_reducible rfl) (h := ?_)
      refine one_ (i := 10) (N := some 33) (mk 14 2047) rfl rfl (one_of HT_.out (by kernel_rfl)) (by decide) (fun K hK => ?_)
      refine goes_ Try.func42 (by kernel_rfl) rfl #[.pointer (some ⟨g340, 0, none⟩), .int .i64 2] (by rfl) rfl rfl eA ?_
      with_reducible refine (spec_l2Some.calls kj5 g340 t337 t358 t359 2 t361 t362 t363 w _ ?side1 ?side2 A30.out).mono ?_
      (case side1 => exact IsS81.qHI340)
      (case side2 => exact IsS81.bHI340)
      rintro e w34 ⟨rfl, hi, hb, hk⟩
      have HS2_ := keep_cell hk (hHeld.2.2) (by first | (rw [add_block]; exact Kd.own_blk (IsS81.own_ne HI340.out HO_351000.out (by decide))) | (show (Addr.add _ _).block ≠ _; rw [add_block]; exact Kd.own_blk (IsS81.own_ne HI340.out HO_351000.out (by decide))) | exact Kd.own_blk (IsS81.own_ne HI340.out HO_351000.out (by decide)))
      refine ⟨_, rfl, ?_⟩
      have n_ := aT (IsS81.rK hk (kR HO_351000.out) (show IsS81 w _ g340 t337 t358 t359 from IsS81.qHI340)) (aT (IsS81.rK hk (kR HO_351001.out) (show IsS81 w _ g340 t337 t358 t359 from IsS81.qHI340)) (aT (KeepBut.blk hk (g' := gb336) (o := .cells #[.slice none 0 0, .slice none 0 0] 27 (0, 0)) (kB BK336.out) NB336_340.out (by simp)) (aT (KeepBut.blk hk (g' := gb350) (o := .cells #[.slice (some ad360) t342.length co11, .slice Ao15 t345.length co15] 27 (0, 0)) (kB BK350.out) NB350_340.out (by simp)) (aT (hb) (aM (hi))))))
      clear HO_351000 HO_351001 BK336 BK350 HB HI340
      obtain ⟨HO_351000, HO_351001, BK336, BK350, HB, HI340⟩ := n_
      (try clear hb)
      (try clear hb2)
      (try clear hk)
      (try clear hi)
      refine hK.out _ _ ⟨(blk_cell BK350.out 0).trans rfl, (blk_cell BK350.out 1).trans rfl, HS2_⟩ (fun hHeld => ?_)
      clear hK K
      refine nO (some 33) (h := ?_)
      refine one_ (i := 11) (N := some 34) (mk 14 4095) rfl rfl (one_of HT_.out (by kernel_rfl)) (by decide) (fun K hK => ?_)
      refine Kd.R_lit_step Kd.string _ 9 ?hg (N := 34) ?hd (xs := ([rdOf ByteArray.empty t342 t357, t361] : List ByteArray)) (inner := [.string (rdOf ByteArray.empty t342 t357), .string t361]) (ok := fun _ => True) (okp := fun _ => True) ?hr ?hp (fun _ hk => hk) trivial (Below.refl _ _) (Nat.le_refl _) (by simp) ?_; (case hd => rfl); (case hg => rfl); (case hr => first | (go_simp; done) | (go_simp; rfl)); (case hp => exact (Reps.one (show Kd.M Kd.string _ _ _ (rdOf ByteArray.empty t342 t357) [.string (rdOf ByteArray.empty t342 t357)] from rfl) (Reps.one (show Kd.M Kd.string _ _ _ t361 [.string t361] from rfl) (Reps.none _ _))))
      intro v365 w35 ho36 hb hg_ hnew_
      have HS2_ := (hb.cell (World.block_lt_of_cell? _ _ (hHeld.2.2))).trans (hHeld.2.2)
      clear hg_ hnew_
      (first | rw [← Ny364.out] at ho36 | (simp only [Int.reduceToNat] at ho36; rw [← Ny364.out] at ho36))
      have n0_ := Aside0.mk (Kd.R_elder' (kR HO_351000.out) (Kd.R_base ho36) hb)
      have n1_ := Aside0.mk (Kd.R_below (kR HO_351001.out) hb)
      have n2_ := Aside0.mk (Kd.R_lower (Kd.R_new' ho36 (Kd.R_lt (kR HO_351000.out))) (below_size IsS81.bHI340))
      have n3_ := Aside0.mk (blk_below (kB BK336.out) hb)
      have n4_ := Aside0.mk (blk_below (kB BK350.out) hb)
      have n5_ := Aside0.mk (IsS81.below IsS81.qHI340 hb)
      have n6_ := Aside0.mk (below_step IsS81.bHI340 hb)
      clear HO_351000 HO_351001 BK336 BK350 HI340 HB
      have HO_351000 := n0_
      have HO_351001 := n1_
      have HO366 := n2_
      have BK336 := n3_
      have BK350 := n4_
      have HI340 := n5_
      have HB := n6_
      clear n0_ n1_ n2_ n3_ n4_ n5_ n6_ hb ho36
      obtain ⟨Ao37, co37, eo37⟩ := Kd.R_slice HO366.out
      (first | subst eo37 | (injection eo37 with f1_ f2_ f3_; have f4_ := f1_.symm; have f5_ := f3_.symm; clear f1_ f2_ f3_; subst f4_; subst f5_))
      refine hK.out _ _ ⟨(blk_cell BK350.out 0).trans rfl, (blk_cell BK350.out 1).trans rfl, HS2_⟩ (fun hHeld => ?_)
      clear hK K
      refine nO (some 34) (h := ?_)
      refine one_ (i := 12) (N := some 35) (mk 14 8191) rfl rfl (one_of HT_.out (by kernel_rfl)) (by decide) (fun K hK => ?_)
      refine goes_ Try.func19 (by kernel_rfl) rfl #[.slice Ao37 y364.length co37] (by rfl) rfl rfl eA ?_
      with_reducible refine (spec_List.calls kj5 _ _ y364 t367 _ ?side1 ?side2 A31.out).mono ?_
      (case side1 => exact cA ((Kd.R_reads' HO366.out).2.2))
      (case side2 => exact (Kd.R_reads' HO366.out).2.1)
      rintro e w38 ⟨rfl, hb⟩
      have HS2_ := (hb.cell (World.block_lt_of_cell? _ _ (hHeld.2.2))).trans (hHeld.2.2)
      refine ⟨_, rfl, ?_⟩
      have n_ := aT (Kd.R_below (kR HO_351000.out) hb) (aT (Kd.R_below (kR HO_351001.out) hb) (aT (Kd.R_below (kR HO366.out) hb) (aT (blk_below (kB BK336.out) hb) (aT (blk_below (kB BK350.out) hb) (aT (IsS81.below IsS81.qHI340 hb) (aM (below_step IsS81.bHI340 hb)))))))
      clear HO_351000 HO_351001 HO366 BK336 BK350 HI340 HB
      obtain ⟨HO_351000, HO_351001, HO366, BK336, BK350, HI340, HB⟩ := n_
      (try clear hb)
      (try clear hb2)
      (try clear hk)
      (try clear hi)
      refine hK.out _ _ ⟨(blk_cell BK350.out 0).trans rfl, (blk_cell BK350.out 1).trans rfl, HS2_⟩ (fun hHeld => ?_)
      clear hK K
      refine nO (some 35) (h := ?_)
      refine pU HT_ 13 (some 6) (mk 14 16383) rfl rfl (h := ?_)
      refine done_ (done_of HT_.out (by kernel_rfl)) ?_
      have hnb39 := NB350_336.out
      have hnc39 := NB336_350.out
      have hnb40 := NB350_340.out
      have hnc40 := NB340_350.out
      have hcz41_0 : w38.cell? ⟨gb350, 0, none⟩ = some (.slice (some ad360) t342.length co11) := (blk_cell BK350.out 0).trans rfl
      have hcz41_1 : w38.cell? ⟨gb350, 1, none⟩ = some (.slice Ao15 t345.length co15) := (blk_cell BK350.out 1).trans rfl
      have hfz41_0 := blk_frozen BK350.out 0
      have hfz41_1 := blk_frozen BK350.out 1
      have hnb42 := NB336_340.out
      have hnc42 := NB340_336.out
      have hcz43_0 : w38.cell? ⟨gb336, 0, none⟩ = some (.slice none 0 0) := (blk_cell BK336.out 0).trans rfl
      have hcz43_1 : w38.cell? ⟨gb336, 1, none⟩ = some (.slice none 0 0) := (blk_cell BK336.out 1).trans rfl
      have hfz43_0 := blk_frozen BK336.out 0
      have hfz43_1 := blk_frozen BK336.out 1
      try go_wp2
      refine bodyPost_ret (results_ct rfl _ _ gb336 27 #[.slice (some ad360) t342.length co11, .slice Ao15 t345.length co15] (0, 0) _ rfl (by (with_reducible repeat (first | refine blk_drewN ?_ _ | refine blk_drew ?_ | refine blk_alloc ?_ _)); refine blk_put (cs := #[.slice (some ad360) t342.length co11, .slice none 0 0]) ?_ 1 _ rfl; (with_reducible repeat (first | refine blk_drewN ?_ _ | refine blk_drew ?_ | refine blk_alloc ?_ _)); refine blk_put (cs := #[.slice none 0 0, .slice none 0 0]) ?_ 0 _ rfl; (with_reducible repeat (first | refine blk_drewN ?_ _ | refine blk_drew ?_ | refine blk_alloc ?_ _)); exact BK336.out) Try.underlying27 rfl (by kernel_rfl)) rfl ?_
      exact ⟨_, _, eE, (rM (Kd.R_far (p := ⟨gb336, 1, none⟩) (Kd.R_far (p := ⟨gb336, 0, none⟩) (Kd.R_types HO_351000.out BK336.out (by decide)) (fun _ hk => hk.2) (.slice (some ad360) t342.length co11)) (fun _ hk => hk.2) (.slice Ao15 t345.length co15)) (fun _ hk => trivial)), (rM (Kd.R_far (p := ⟨gb336, 1, none⟩) (Kd.R_far (p := ⟨gb336, 0, none⟩) (Kd.R_types HO_351001.out BK336.out (by decide)) (fun _ hk => hk.2) (.slice (some ad360) t342.length co11)) (fun _ hk => hk.2) (.slice Ao15 t345.length co15)) (fun _ hk => trivial)), IsS81.bHI340⟩
     rw [if_neg c29] at H
     exact absurd H (by simp)
    rw [if_neg c28] at H
    exact absurd H (by simp)
   replace c26 := Bool.eq_false_iff.mpr c26
   subst c26
   rw [if_neg nF] at H
   simp only [Option.some.injEq, Prod.mk.injEq] at H
   obtain ⟨rfl, rfl, rfl⟩ := H
   have hnb44 := NB350_336.out
   have hnc44 := NB336_350.out
   have hnb45 := NB350_340.out
   have hnc45 := NB340_350.out
   have hcz46_0 : wc.cell? ⟨gb350, 0, none⟩ = some (.slice Ao11 t342.length co11) := (blk_cell BK350.out 0).trans rfl
   have hcz46_1 : wc.cell? ⟨gb350, 1, none⟩ = some (.slice Ao15 t345.length co15) := (blk_cell BK350.out 1).trans rfl
   have hfz46_0 := blk_frozen BK350.out 0
   have hfz46_1 := blk_frozen BK350.out 1
   have hnb47 := NB336_340.out
   have hnc47 := NB340_336.out
   have hcz48_0 : wc.cell? ⟨gb336, 0, none⟩ = some (.slice none 0 0) := (blk_cell BK336.out 0).trans rfl
   have hcz48_1 : wc.cell? ⟨gb336, 1, none⟩ = some (.slice none 0 0) := (blk_cell BK336.out 1).trans rfl
   have hfz48_0 := blk_frozen BK336.out 0
   have hfz48_1 := blk_frozen BK336.out 1
   go_wp2
   refine bodyPost_ret (results_ct rfl _ _ gb336 27 #[.slice Ao11 t342.length co11, .slice Ao15 t345.length co15] (0, 0) _ rfl (by (with_reducible repeat (first | refine blk_drewN ?_ _ | refine blk_drew ?_ | refine blk_alloc ?_ _)); refine blk_put (cs := #[.slice Ao11 t342.length co11, .slice none 0 0]) ?_ 1 _ rfl; (with_reducible repeat (first | refine blk_drewN ?_ _ | refine blk_drew ?_ | refine blk_alloc ?_ _)); refine blk_put (cs := #[.slice none 0 0, .slice none 0 0]) ?_ 0 _ rfl; (with_reducible repeat (first | refine blk_drewN ?_ _ | refine blk_drew ?_ | refine blk_alloc ?_ _)); exact BK336.out) Try.underlying27 rfl (by kernel_rfl)) rfl ?_
   exact ⟨_, _, eE, (rM (Kd.R_far (p := ⟨gb336, 1, none⟩) (Kd.R_far (p := ⟨gb336, 0, none⟩) (Kd.R_types HO_351000.out BK336.out (by decide)) (fun _ hk => hk.2) (.slice Ao11 t342.length co11)) (fun _ hk => hk.2) (.slice Ao15 t345.length co15)) (fun _ hk => trivial)), (rM (Kd.R_far (p := ⟨gb336, 1, none⟩) (Kd.R_far (p := ⟨gb336, 0, none⟩) (Kd.R_types HO_351001.out BK336.out (by decide)) (fun _ hk => hk.2) (.slice Ao11 t342.length co11)) (fun _ hk => hk.2) (.slice Ao15 t345.length co15)) (fun _ hk => trivial)), IsS81.bHI340⟩

end Go.Proofs.Ythlpfghlildllaa.OFnKnown
-- wrapped
-- halved
-- squeezed
-- squeezed2
-- squeezed3
