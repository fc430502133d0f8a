-- walks of this claim, written by a program of mine
import Derived.Test.YthlpfghlildllaaOFnKnownx0
import Derived.Test.YthlpfghlildllaaOFnKnownx1
import Derived.Test.YthlpfghlildllaaOFnKnownx8
import Derived.Test.YthlpfghlildllaaOFnKnownx9
import Derived.Test.YthlpfghlildllaaOFnKnownx13
import Derived.Test.YthlpfghlildllaaOFnKnownx14
import Derived.Test.YthlpfghlildllaaOFnKnownx16
import Derived.Test.YthlpfghlildllaaOFnKnownx17
namespace Go.Proofs.Ythlpfghlildllaa.OFnKnown
open Go.RowKit Go.Proofs.Ythlpfghlildllaa.OWord Go.Proofs.YthlpfghlildllaaW.PrintWords Go.Proofs.YthlpfghlildllaaW.PrintLast Go.Proofs.YthlpfghlildllaaW.PrintMore
attribute [local go_sem] max2_int min2_int max_two min_two max_three min_three max_four min_four   -- for this text's walks alone
set_option linter.unusedVariables false
set_option linter.unusedSimpArgs false

/-! ### laws_FnKnown: function 4 -/
mutual
def laws_FnKnown.l0 : Nat → List Int → ByteArray → List Int → List Int → Int → List ByteArray → List Int → List ByteArray → List Int → Option (Bool)
 | 0, _, _, _, _, _, _, _, _, _ => none
 | k + 1, x0, x4, x5, x7, x8, x570000, x570001, x585000, x585001 => if x8 < (x5.length : Int) then (if 0 ≤ x8 then ((laws_has.f k x7 (rd x5 x8)).bind fun t589 => (if t589 = true then (laws_FnKnown.l0 k x0 x4 x5 x7 (wrap64 (x8 + 1)) x570000 x570001 x585000 x585001) else (some false))) else (none)) else (laws_FnKnown.l1 k x0 x4 x5 x7 0 x570000 x570001 x585000 x585001)
def laws_FnKnown.l1 : Nat → List Int → ByteArray → List Int → List Int → Int → List ByteArray → List Int → List ByteArray → List Int → Option (Bool)
 | 0, _, _, _, _, _, _, _, _, _ => none
 | k + 1, x0, x4, x5, x7, x9, x570000, x570001, x585000, x585001 => if x9 < (x570001.length : Int) then (if 0 ≤ x9 then ((laws_has.f k x5 (rd x570001 x9)).bind fun t591 => (if t591 = true then (laws_FnKnown.l1 k x0 x4 x5 x7 (wrap64 (x9 + 1)) x570000 x570001 x585000 x585001) else (some false))) else (none)) else ((impl_Build.f k x570000 x570001 x4).bind fun t592 => ((spec_Build.f k x570000 x570001 x4).bind fun t593 => (if (t592 != t593) = true then (laws_FnKnown.j2 k x0 x5 true x570000 x570001 x585000 x585001) else ((impl_Sees.f k x570000 x570001 x4).bind fun t594 => (if t594 = true then (if t592 = true then ((laws_sameInts.f k x5 x7).bind fun t595 => (laws_FnKnown.j2 k x0 x5 (!t595) x570000 x570001 x585000 x585001)) else (laws_FnKnown.j2 k x0 x5 true x570000 x570001 x585000 x585001)) else (if t592 = true then ((laws_sameInts.f k x5 x7).bind fun t596 => (laws_FnKnown.j2 k x0 x5 (!t596) x570000 x570001 x585000 x585001)) else (laws_FnKnown.j2 k x0 x5 false x570000 x570001 x585000 x585001)))))))
def laws_FnKnown.j2 : Nat → List Int → List Int → Bool → List ByteArray → List Int → List ByteArray → List Int → Option (Bool)
 | 0, _, _, _, _, _, _, _ => none
 | k + 1, x0, x5, x94, x570000, x570001, x585000, x585001 => if x94 = true then (some false) else ((laws_at.f x0 0).bind fun t597 => ((impl_LearnKey.f k x570000 x570001 (wrap64 (1 + (Int.tmod t597 6)))).bind fun bt598 => ((impl_Reach.f k bt598.1 bt598.2).bind fun t605 => (laws_FnKnown.l2 k x5 t605 0 x585000 x585001 bt598.1 bt598.2))))
def laws_FnKnown.l2 : Nat → List Int → List Int → Int → List ByteArray → List Int → List ByteArray → List Int → Option (Bool)
 | 0, _, _, _, _, _, _, _ => none
 | k + 1, x5, x12, x13, x585000, x585001, x605000, x605001 => if x13 < (x5.length : Int) then (if 0 ≤ x13 then ((laws_has.f k x12 (rd x5 x13)).bind fun t609 => (if t609 = true then (laws_FnKnown.l2 k x5 x12 (wrap64 (x13 + 1)) x585000 x585001 x605000 x605001) else (some false))) else (none)) else ((spec_KnownOk.f k x585000 x585001).bind fun t610 => (if t610 = true then ((spec_KnownOk.f k x605000 x605001).bind fun t611 => (some t611)) else (some false)))
end
def laws_FnKnown.f (k : Nat) (l0 : List Int) : Option (Bool) := (laws_big.f l0).bind fun t561 => (if t561 = true then (some true) else ((spec_DrawBuild.f k l0).bind fun bt562 => ((spec_KnownOk.f k bt562.1 bt562.2.1).bind fun t570 => (if t570 = true then ((impl_Reach.f k bt562.1 bt562.2.1).bind fun t575 => ((impl_Learn.f k bt562.1 bt562.2.1 bt562.2.2).bind fun bt578 => ((impl_Reach.f k bt578.1 bt578.2).bind fun t585 => (laws_FnKnown.l0 k l0 bt562.2.2 t575 t585 0 bt562.1 bt562.2.1 bt578.1 bt578.2)))) else ((impl_Build.f k bt562.1 bt562.2.1 bt562.2.2).bind fun t571 => (if t571 = true then (some false) else ((impl_Reach.f k bt562.1 bt562.2.1).bind fun t572 => (some ((t572.length : Int) == 0)))))))))
def laws_FnKnown.T22 : Bool × List (List Nat × List Nat) := (true, [([], []), ([], []), ([1], [1]), ([2], [2]), ([3], [3]), ([0, 4, 2], [0, 4]), ([], []), ([6, 5, 5, 0, 1, 2, 3, 4, 5, 6], [5, 6])])
def laws_FnKnown.B22 : List Nat := [0, 0, 2, 6, 14, 31, 0, 127]
theorem laws_FnKnown.tab22 : rtab .any (opsOf Try.f4 22) = laws_FnKnown.T22 := by kernel_rfl
theorem laws_FnKnown.bits22 : waitsOk laws_FnKnown.T22.2 laws_FnKnown.B22 = true := by kernel_rfl
set_option maxHeartbeats 8000000 in
set_option maxRecDepth 100000 in
theorem laws_FnKnown.calls (k : Nat) (A0 : Option Addr) (c0 : Nat) (l0 : List Int) (r : Bool) (w : World) (hr0 : Kd.C (Kd.int .u8) w A0 l0.length l0) (hc0 : l0.length ≤ c0) (h : laws_FnKnown.f k l0 = some r) (hr_true : Aside0 (r = true)) :
  Calls Try.prog 4 #[.slice A0 l0.length c0] w fun e w' => e = .returned (.bool r) ∧ Below w.heap.size w w' := by
 have hu27 := Try.underlying27
 have HR0 := Aside0.mk hr0
 have HC0 := Aside0.mk hc0
 clear hr0 hc0
 have HB := Aside0.mk (Below.refl w.heap.size w)
 have H := h
 clear h
 unfold laws_FnKnown.f at H
 obtain ⟨t561, A2, H⟩ := oB H
 by_cases c3 : t561 = true
 ·subst c3
  rw [if_pos rfl] at H
  obtain rfl := Option.some.inj H
  go_enter Try.func4, Try.ntmps4
  go_wp2_with (first | (refine gL 9 (some 15) Try.func9 #[.slice A0 l0.length c0] ?_; (with_reducible refine (laws_big.calls _ _ l0 true _ ?side1 ?side2 A2.out).mono ?_); (case side1 => exact cA HR0.out); (case side2 => exact HC0.out); rintro e w' ⟨rfl, ⟨nd, rfl⟩⟩; refine ⟨_, rfl, ?_⟩))
  go_ret
  exact ⟨eE, bH⟩
 replace c3 := Bool.eq_false_iff.mpr c3
 subst c3
 rw [if_neg nF] at H
 obtain ⟨⟨t562, t565, t568⟩, A4, H⟩ := oB H
 dsimp only at H
 obtain ⟨t570, A5, H⟩ := oB H
 by_cases c6 : t570 = true
 ·subst c6
  rw [if_pos rfl] at H
  obtain ⟨t575, A7, H⟩ := oB H
  obtain ⟨⟨t578, t581⟩, A8, H⟩ := oB H
  dsimp only at H
  obtain ⟨t585, A9, H⟩ := oB H
  have H' := Aside0.mk H
  clear H
  go_enter Try.func4, Try.ntmps4
  go_wp2_with (first | (refine gL 9 (some 15) Try.func9 #[.slice A0 l0.length c0] ?_; (with_reducible refine (laws_big.calls _ _ l0 false _ ?side1 ?side2 A2.out).mono ?_); (case side1 => exact cA HR0.out); (case side2 => exact HC0.out); rintro e w' ⟨rfl, ⟨nd, rfl⟩⟩; refine ⟨_, rfl, ?_⟩) | (refine gL 10 (some 18) Try.func10 #[.slice A0 l0.length c0] ?_; (with_reducible refine (spec_DrawBuild.calls k _ _ l0 t562 t565 t568 _ ?side1 ?side2 A4.out).mono ?_); (case side1 => exact cA HR0.out); (case side2 => exact HC0.out); rintro e w10 ⟨v563, v566, rfl, ho0, ho1, hb⟩; refine ⟨_, rfl, ?_⟩; have n_ := aT (Kd.R_lower ho0 (below_size bH)) (aT (Kd.R_lower ho1 (below_size bH)) (aM (below_step bH hb))); clear HB; obtain ⟨HO564, HO567, HB⟩ := n_; (try clear hb); (try clear ho0); (try clear ho1)) | ((with_reducible refine gate_dst (N := 3) rfl ?_); (try (refine gate_guard (by rfl) ?_; dsimp only)); refine box_event ?hg (N := 3) ?hd (cs := #[.slice none 0 0, .slice none 0 0]) (t := 27) ?hr ?_; (case hd => rfl); (case hg => rfl); (case hr => first | (go_simp; done) | (go_simp; rfl)); intro gb569 hg w11 hbox hb; have n_ := aT (Kd.R_below (kR HO564.out) hb) (aT (Kd.R_below (kR HO567.out) hb) (aT (below_step bH hb) (aT (hbox) (aT ((bZ hg : w.heap.size ≤ gb569)) (aM ((bZ hg : w.heap.size ≤ gb569))))))); clear HO564 HO567 HB; obtain ⟨HO564, HO567, HB, BK569, GW569, GE569⟩ := n_; clear hb hbox hg; obtain ⟨Ao12, co12, eo12⟩ := Kd.R_slice HO564.out; subst eo12; have hcz13_0 : w11.cell? ⟨gb569, 0, none⟩ = some (.slice none 0 0) := (blk_cell BK569.out 0).trans rfl; have hcz13_1 : w11.cell? ⟨gb569, 1, none⟩ = some (.slice none 0 0) := (blk_cell BK569.out 1).trans rfl; have hfz13_0 := blk_frozen BK569.out 0; have hfz13_1 := blk_frozen BK569.out 1; obtain ⟨Ao14, co14, eo14⟩ := Kd.R_slice HO567.out; subst eo14) | (refine gL 11 (some 22) Try.func11 #[.agg #[.slice Ao12 t562.length co12, .slice Ao14 t565.length co14]] ?_; (with_reducible refine (spec_KnownOk.calls k _ _ t562 _ _ t565 true _ ?side1 ?side2 ?side3 ?side4 A5.out).mono ?_); (case side1 => refine (Kd.R_reads' (e := 9) (base := w.heap.size) (ok := fun k_ => True) (n := t562.length) (c := co12) ?_).2.2; exact (rF2 HO564.out BK569.out)); (case side2 => exact (Kd.R_reads' HO564.out).2.1); (case side3 => refine (Kd.R_reads' (e := 3) (base := w.heap.size) (ok := fun k_ => True) (n := t565.length) (c := co14) ?_).2.2; exact (rF2 HO567.out BK569.out)); (case side4 => exact (Kd.R_reads' HO567.out).2.1); rintro e w15 ⟨rfl, hb⟩; refine ⟨_, rfl, ?_⟩; have n_ := aT (Kd.R_below (rF2 HO564.out BK569.out) hb) (aT (Kd.R_below (rF2 HO567.out BK569.out) hb) (aT (blk_below (g := gb569) (o := .cells #[.slice Ao12 t562.length co12, .slice Ao14 t565.length co14] 27 (0, 0)) (by (with_reducible repeat (first | refine blk_drewN ?_ _ | refine blk_drew ?_ | refine blk_alloc ?_ _)); refine blk_put (cs := #[.slice Ao12 t562.length co12, .slice none 0 0]) ?_ 1 _ rfl; (with_reducible repeat (first | refine blk_drewN ?_ _ | refine blk_drew ?_ | refine blk_alloc ?_ _)); refine blk_put (cs := #[.slice none 0 0, .slice none 0 0]) ?_ 0 _ rfl; (with_reducible repeat (first | refine blk_drewN ?_ _ | refine blk_drew ?_ | refine blk_alloc ?_ _)); exact BK569.out) hb) (aM (below_step bS hb)))); clear HO564 HO567 BK569 HB; obtain ⟨HO564, HO567, BK569, HB⟩ := n_; (try clear hb); have hcz16_0 : w15.cell? ⟨gb569, 0, none⟩ = some (.slice Ao12 t562.length co12) := (blk_cell BK569.out 0).trans rfl; have hcz16_1 : w15.cell? ⟨gb569, 1, none⟩ = some (.slice Ao14 t565.length co14) := (blk_cell BK569.out 1).trans rfl; have hfz16_0 := blk_frozen BK569.out 0; have hfz16_1 := blk_frozen BK569.out 1) | (refine gL 21 (some 35) Try.func21 #[.agg #[.slice Ao12 t562.length co12, .slice Ao14 t565.length co14]] ?_; (with_reducible refine (impl_Reach.calls k _ _ t562 _ _ t565 t575 _ ?side1 ?side2 ?side3 ?side4 A7.out).mono ?_); (case side1 => exact cA ((Kd.R_reads' HO564.out).2.2)); (case side2 => exact (Kd.R_reads' HO564.out).2.1); (case side3 => exact cA ((Kd.R_reads' HO567.out).2.2)); (case side4 => exact (Kd.R_reads' HO567.out).2.1); rintro e w17 ⟨v576, rfl, ho0, hb⟩; refine ⟨_, rfl, ?_⟩; have n_ := aT (Kd.R_below (kR HO564.out) hb) (aT (Kd.R_elder' (kR HO567.out) (Kd.R_base ho0) hb) (aT (Kd.R_lower (Kd.R_new' ho0 (Kd.R_lt (kR HO567.out))) (below_size bS)) (aT (blk_below (kB BK569.out) hb) (aM (below_step bS hb))))); clear HO564 HO567 BK569 HB; obtain ⟨HO564, HO567, HO577, BK569, HB⟩ := n_; (try clear hb); (try clear ho0); have hcz18_0 : w17.cell? ⟨gb569, 0, none⟩ = some (.slice Ao12 t562.length co12) := (blk_cell BK569.out 0).trans rfl; have hcz18_1 : w17.cell? ⟨gb569, 1, none⟩ = some (.slice Ao14 t565.length co14) := (blk_cell BK569.out 1).trans rfl; have hfz18_0 := blk_frozen BK569.out 0; have hfz18_1 := blk_frozen BK569.out 1) | (refine gL 22 (some 38) Try.func22 #[.agg #[.slice Ao12 t562.length co12, .slice Ao14 t565.length co14], .string t568] ?_; (with_reducible refine (impl_Learn.calls k _ _ t562 _ _ t565 t568 t578 t581 _ ?side1 ?side2 ?side3 ?side4 A8.out).mono ?_); (case side1 => exact cA ((Kd.R_reads' HO564.out).2.2)); (case side2 => exact (Kd.R_reads' HO564.out).2.1); (case side3 => exact cA ((Kd.R_reads' HO567.out).2.2)); (case side4 => exact (Kd.R_reads' HO567.out).2.1); rintro e w19 ⟨v579, v582, rfl, ho0, ho1, hb⟩; refine ⟨_, rfl, ?_⟩; have n_ := aT (Kd.R_elder' (kR HO564.out) (Kd.R_base ho0) hb) (aT (Kd.R_elder' (kR HO567.out) (Kd.R_base ho1) hb) (aT (Kd.R_elder' (kR HO577.out) (Kd.R_base ho1) hb) (aT (Kd.R_lower (Kd.R_new' ho0 (Kd.R_lt (kR HO564.out))) (below_size bS)) (aT (Kd.R_lower (Kd.R_new' (Kd.R_new' ho1 (Kd.R_lt (kR HO567.out))) (Kd.R_lt (kR HO577.out))) (below_size bS)) (aT (blk_below (kB BK569.out) hb) (aM (below_step bS hb))))))); clear HO564 HO567 HO577 BK569 HB; obtain ⟨HO564, HO567, HO577, HO580, HO583, BK569, HB⟩ := n_; (try clear hb); (try clear ho0); (try clear ho1)) | ((with_reducible refine gate_dst (N := 6) rfl ?_); (try (refine gate_guard (by rfl) ?_; dsimp only)); refine box_event ?hg (N := 6) ?hd (cs := #[.slice none 0 0, .slice none 0 0]) (t := 27) ?hr ?_; (case hd => rfl); (case hg => rfl); (case hr => first | (go_simp; done) | (go_simp; rfl)); intro gb584 hg w20 hbox hb; have n_ := aT (Kd.R_below (kR HO564.out) hb) (aT (Kd.R_below (kR HO567.out) hb) (aT (Kd.R_below (kR HO577.out) hb) (aT (Kd.R_below (kR HO580.out) hb) (aT (Kd.R_below (kR HO583.out) hb) (aT (blk_below (kB BK569.out) hb) (aT (below_step bS hb) (aT (hbox) (aT ((bZ hg : w.heap.size ≤ gb584)) (aT ((bZ hg : w.heap.size ≤ gb584)) (aT ((nL hg BK569.out : gb569 ≠ gb584)) (aM ((nG hg BK569.out : gb584 ≠ gb569))))))))))))); clear HO564 HO567 HO577 HO580 HO583 BK569 HB; obtain ⟨HO564, HO567, HO577, HO580, HO583, BK569, HB, BK584, GW584, GE584, NB569_584, NB584_569⟩ := n_; clear hb hbox hg; obtain ⟨Ao21, co21, eo21⟩ := Kd.R_slice HO580.out; subst eo21; have hnb22 := NB584_569.out; have hnc22 := NB569_584.out; have hcz23_0 : w20.cell? ⟨gb584, 0, none⟩ = some (.slice none 0 0) := (blk_cell BK584.out 0).trans rfl; have hcz23_1 : w20.cell? ⟨gb584, 1, none⟩ = some (.slice none 0 0) := (blk_cell BK584.out 1).trans rfl; have hfz23_0 := blk_frozen BK584.out 0; have hfz23_1 := blk_frozen BK584.out 1; obtain ⟨Ao24, co24, eo24⟩ := Kd.R_slice HO583.out; subst eo24) | (refine gL 21 (some 40) Try.func21 #[.agg #[.slice Ao21 t578.length co21, .slice Ao24 t581.length co24]] ?_; (with_reducible refine (impl_Reach.calls k _ _ t578 _ _ t581 t585 _ ?side1 ?side2 ?side3 ?side4 A9.out).mono ?_); (case side1 => refine (Kd.R_reads' (e := 9) (base := w.heap.size) (ok := fun k_ => (True ∧ some k_ ≠ (.slice Ao12 t562.length co12 : Value).ownBlock)) (n := t578.length) (c := co21) ?_).2.2; exact (rF2 HO580.out BK584.out)); (case side2 => exact (Kd.R_reads' HO580.out).2.1); (case side3 => refine (Kd.R_reads' (e := 3) (base := w.heap.size) (ok := fun k_ => ((True ∧ some k_ ≠ (.slice Ao14 t565.length co14 : Value).ownBlock) ∧ some k_ ≠ (v576 : Value).ownBlock)) (n := t581.length) (c := co24) ?_).2.2; exact (rF2 HO583.out BK584.out)); (case side4 => exact (Kd.R_reads' HO583.out).2.1); rintro e w25 ⟨v586, rfl, ho0, hb⟩; refine ⟨_, rfl, ?_⟩; have n_ := aT (Kd.R_below (rF2 HO564.out BK584.out) hb) (aT (Kd.R_elder' (rF2 HO567.out BK584.out) (Kd.R_base ho0) hb) (aT (Kd.R_elder' (rF2 HO577.out BK584.out) (Kd.R_base ho0) hb) (aT (Kd.R_below (rF2 HO580.out BK584.out) hb) (aT (Kd.R_elder' (rF2 HO583.out BK584.out) (Kd.R_base ho0) hb) (aT (Kd.R_lower (Kd.R_new' (Kd.R_new' (Kd.R_new' ho0 (Kd.R_lt (rF2 HO567.out BK584.out))) (Kd.R_lt (rF2 HO577.out BK584.out))) (Kd.R_lt (rF2 HO583.out BK584.out))) (below_size bS)) (aT (blk_below (g := gb569) (o := .cells #[.slice Ao12 t562.length co12, .slice Ao14 t565.length co14] 27 (0, 0)) (kF2 NB569_584.out BK569.out) hb) (aT (blk_below (g := gb584) (o := .cells #[.slice Ao21 t578.length co21, .slice Ao24 t581.length co24] 27 (0, 0)) (by (with_reducible repeat (first | refine blk_drewN ?_ _ | refine blk_drew ?_ | refine blk_alloc ?_ _)); refine blk_put (cs := #[.slice Ao21 t578.length co21, .slice none 0 0]) ?_ 1 _ rfl; (with_reducible repeat (first | refine blk_drewN ?_ _ | refine blk_drew ?_ | refine blk_alloc ?_ _)); refine blk_put (cs := #[.slice none 0 0, .slice none 0 0]) ?_ 0 _ rfl; (with_reducible repeat (first | refine blk_drewN ?_ _ | refine blk_drew ?_ | refine blk_alloc ?_ _)); exact BK584.out) hb) (aM (below_step bS hb))))))))); clear HO564 HO567 HO577 HO580 HO583 BK569 BK584 HB; obtain ⟨HO564, HO567, HO577, HO580, HO583, HO587, BK569, BK584, HB⟩ := n_; (try clear hb); (try clear ho0)))
  go_loopg [8] k (fun kq v8 w' => ∃ (x8_1 : Int), v8 = .int .i64 x8_1 ∧ Aside0 (laws_FnKnown.l0 kq l0 t568 t575 t585 x8_1 t562 t565 t578 t581 = some r) ∧ Aside0 (kq ≤ k) ∧ Aside0 (Kd.R (Kd.int .i64) 3 w' w.heap.size (fun k_ => some k_ ≠ (v586 : Value).ownBlock ∧ some k_ ≠ ((.slice Ao14 t565.length co14) : Value).ownBlock ∧ some k_ ≠ ((.slice Ao24 t581.length co24) : Value).ownBlock) v576 t575) ∧ Aside0 (Kd.R (Kd.int .i64) 3 w' w.heap.size (fun k_ => some k_ ≠ (v576 : Value).ownBlock ∧ some k_ ≠ ((.slice Ao14 t565.length co14) : Value).ownBlock ∧ some k_ ≠ ((.slice Ao24 t581.length co24) : Value).ownBlock) v586 t585) ∧ Aside0 (Kd.R Kd.string 9 w' w.heap.size (fun k_ => some k_ ≠ ((.slice Ao21 t578.length co21) : Value).ownBlock) (.slice Ao12 t562.length co12) t562) ∧ Aside0 (Kd.R (Kd.int .i64) 3 w' w.heap.size (fun k_ => some k_ ≠ (v576 : Value).ownBlock ∧ some k_ ≠ (v586 : Value).ownBlock ∧ some k_ ≠ ((.slice Ao24 t581.length co24) : Value).ownBlock) (.slice Ao14 t565.length co14) t565) ∧ Aside0 (Kd.R Kd.string 9 w' w.heap.size (fun k_ => some k_ ≠ ((.slice Ao12 t562.length co12) : Value).ownBlock) (.slice Ao21 t578.length co21) t578) ∧ Aside0 (Kd.R (Kd.int .i64) 3 w' w.heap.size (fun k_ => some k_ ≠ (v576 : Value).ownBlock ∧ some k_ ≠ (v586 : Value).ownBlock ∧ some k_ ≠ ((.slice Ao14 t565.length co14) : Value).ownBlock) (.slice Ao24 t581.length co24) t581) ∧ Aside0 (w'.heap[gb569]? = some (.cells #[(.slice Ao12 t562.length co12), (.slice Ao14 t565.length co14)] 27 (0, 0))) ∧ Aside0 (w'.heap[gb584]? = some (.cells #[(.slice Ao21 t578.length co21), (.slice Ao24 t581.length co24)] 27 (0, 0))) ∧ Aside0 (Below w.heap.size w w'))
  case atStart => exact ⟨(0), eX, H', ⟨Nat.le_refl _⟩, ⟨(rM HO577.out (fun _ hk => ⟨hk.2, ⟨hk.1.1.2, hk.1.2⟩⟩))⟩, ⟨(rM HO587.out (fun _ hk => ⟨hk.1.2, ⟨hk.1.1.2, hk.2⟩⟩))⟩, ⟨(rM HO564.out (fun _ hk => hk.2))⟩, ⟨(rM HO567.out (fun _ hk => ⟨hk.1.1.2, ⟨hk.2, hk.1.2⟩⟩))⟩, ⟨(rM HO580.out (fun _ hk => hk.2))⟩, ⟨(rM HO583.out (fun _ hk => ⟨hk.1.2, ⟨hk.2, hk.1.1.2⟩⟩))⟩, ⟨(kB BK569.out)⟩, ⟨(kB BK584.out)⟩, ⟨bS⟩⟩
  case round =>
   clear H'
   try clear c3
   try clear c6
   try clear hcz13_0
   try clear hcz13_1
   try clear hcz16_0
   try clear hcz16_1
   try clear hcz18_0
   try clear hcz18_1
   try clear hcz23_0
   try clear hcz23_1
   try clear hfz13_0
   try clear hfz13_1
   try clear hfz16_0
   try clear hfz16_1
   try clear hfz18_0
   try clear hfz18_1
   try clear hfz23_0
   try clear hfz23_1
   obtain ⟨x8_1, rfl, HA, HK1, HO_5, HO_7, HO_570000, HO_570001, HO_585000, HO_585001, BK569, BK584, HB⟩ := hrel
   cases gk with
   | zero => exact absurd HA.out (by simp [laws_FnKnown.l0])
   | succ k1 =>
    have H := HA.out
    clear HA
    simp only [laws_FnKnown.l0] at H
    by_cases c26 : x8_1 < (t575.length : Int)
    ·rw [if_pos c26] at H
     have c26b0 := decide_eq_true c26
     clear c26
     by_cases c27 : 0 ≤ x8_1
     ·rw [if_pos c27] at H
      have c27b0 := decide_eq_true c27
      clear c27
      obtain ⟨t589, A28, H⟩ := oB H
      by_cases c29 : t589 = true
      ·subst c29
       rw [if_pos rfl] at H
       have H' := Aside0.mk H
       clear H
       obtain ⟨Ao30, co30, eo30⟩ := Kd.R_slice HO_5.out
       subst eo30
       have p588 : 0 ≤ (x8_1 : Int) := of_decide_eq_true aA
       have q588 : x8_1 < (t575.length : Int) := of_decide_eq_true aA
       obtain ⟨ad588, e588, hx588_0⟩ := Kd.at_int (Kd.R_reads' HO_5.out).2.2 x8_1 p588 q588
       cases e588
       replace p588 := eq_true p588
       replace q588 := eq_true q588
       obtain ⟨Ao31, co31, eo31⟩ := Kd.R_slice HO_7.out
       subst eo31
       go_wp2_with (first | (refine gL 17 (some 52) Try.func17 #[.slice Ao31 t585.length co31, .int .i64 (rd t575 x8_1)] ?_; (with_reducible refine (laws_has.calls k1 _ _ t585 (rd t575 x8_1) true _ ?side1 ?side2 A28.out).mono ?_); (case side1 => exact cA ((Kd.R_reads' HO_7.out).2.2)); (case side2 => exact (Kd.R_reads' HO_7.out).2.1); rintro e w' ⟨rfl, ⟨nd, rfl⟩⟩; refine ⟨_, rfl, ?_⟩))
       go_roundg k1
       case measure => have := HK1.out; omega
       case rel => exact ⟨(wrap64 (x8_1 + 1)), eX, H', ⟨(by have := HK1.out; omega)⟩, ⟨(kR HO_5.out)⟩, ⟨(kR HO_7.out)⟩, ⟨(kR HO_570000.out)⟩, ⟨(kR HO_570001.out)⟩, ⟨(kR HO_585000.out)⟩, ⟨(kR HO_585001.out)⟩, ⟨(kB BK569.out)⟩, ⟨(kB BK584.out)⟩, ⟨bS⟩⟩
      replace c29 := Bool.eq_false_iff.mpr c29
      subst c29
      rw [if_neg nF] at H
      rw [hr_true.out] at H
      exact absurd H (by simp)
     rw [if_neg c27] at H
     exact absurd H (by simp)
    rw [if_neg c26] at H
    have c26b0 := decide_eq_false c26
    clear c26
    have H' := Aside0.mk H
    clear H
    obtain ⟨Ao32, co32, eo32⟩ := Kd.R_slice HO_5.out
    subst eo32
    go_wp2
    go_loopg [9] k1 (fun kq v9 w' => ∃ (x9_2 : Int), v9 = .int .i64 x9_2 ∧ Aside0 (laws_FnKnown.l1 kq l0 t568 t575 t585 x9_2 t562 t565 t578 t581 = some r) ∧ Aside0 (kq ≤ k1) ∧ Aside0 (Kd.R (Kd.int .i64) 3 w' w.heap.size (fun k_ => some k_ ≠ (v586 : Value).ownBlock ∧ some k_ ≠ ((.slice Ao14 t565.length co14) : Value).ownBlock ∧ some k_ ≠ ((.slice Ao24 t581.length co24) : Value).ownBlock) (.slice Ao32 t575.length co32) t575) ∧ Aside0 (Kd.R (Kd.int .i64) 3 w' w.heap.size (fun k_ => some k_ ≠ ((.slice Ao32 t575.length co32) : Value).ownBlock ∧ some k_ ≠ ((.slice Ao14 t565.length co14) : Value).ownBlock ∧ some k_ ≠ ((.slice Ao24 t581.length co24) : Value).ownBlock) v586 t585) ∧ Aside0 (Kd.R Kd.string 9 w' w.heap.size (fun k_ => some k_ ≠ ((.slice Ao21 t578.length co21) : Value).ownBlock) (.slice Ao12 t562.length co12) t562) ∧ Aside0 (Kd.R (Kd.int .i64) 3 w' w.heap.size (fun k_ => some k_ ≠ ((.slice Ao32 t575.length co32) : Value).ownBlock ∧ some k_ ≠ (v586 : Value).ownBlock ∧ some k_ ≠ ((.slice Ao24 t581.length co24) : Value).ownBlock) (.slice Ao14 t565.length co14) t565) ∧ Aside0 (Kd.R Kd.string 9 w' w.heap.size (fun k_ => some k_ ≠ ((.slice Ao12 t562.length co12) : Value).ownBlock) (.slice Ao21 t578.length co21) t578) ∧ Aside0 (Kd.R (Kd.int .i64) 3 w' w.heap.size (fun k_ => some k_ ≠ ((.slice Ao32 t575.length co32) : Value).ownBlock ∧ some k_ ≠ (v586 : Value).ownBlock ∧ some k_ ≠ ((.slice Ao14 t565.length co14) : Value).ownBlock) (.slice Ao24 t581.length co24) t581) ∧ Aside0 (w'.heap[gb569]? = some (.cells #[(.slice Ao12 t562.length co12), (.slice Ao14 t565.length co14)] 27 (0, 0))) ∧ Aside0 (w'.heap[gb584]? = some (.cells #[(.slice Ao21 t578.length co21), (.slice Ao24 t581.length co24)] 27 (0, 0))) ∧ Aside0 (Below w.heap.size w w'))
    case atStart => exact ⟨(0), eX, H', ⟨Nat.le_refl _⟩, ⟨(kR HO_5.out)⟩, ⟨(kR HO_7.out)⟩, ⟨(kR HO_570000.out)⟩, ⟨(kR HO_570001.out)⟩, ⟨(kR HO_585000.out)⟩, ⟨(kR HO_585001.out)⟩, ⟨(kB BK569.out)⟩, ⟨(kB BK584.out)⟩, ⟨bS⟩⟩
    case round =>
     clear H'
     try clear c3
     try clear c6
     try clear c26
     try clear c26b0
     try clear hcz13_0
     try clear hcz13_1
     try clear hcz16_0
     try clear hcz16_1
     try clear hcz18_0
     try clear hcz18_1
     try clear hcz23_0
     try clear hcz23_1
     try clear hfz13_0
     try clear hfz13_1
     try clear hfz16_0
     try clear hfz16_1
     try clear hfz18_0
     try clear hfz18_1
     try clear hfz23_0
     try clear hfz23_1
     obtain ⟨x9_2, rfl, HA, HK2, HO_5, HO_7, HO_570000, HO_570001, HO_585000, HO_585001, BK569, BK584, HB⟩ := hrel
     cases gk with
     | zero => exact absurd HA.out (by simp [laws_FnKnown.l1])
     | succ k2 =>
      have H := HA.out
      clear HA
      simp only [laws_FnKnown.l1] at H
      by_cases c33 : x9_2 < (t565.length : Int)
      ·rw [if_pos c33] at H
       have c33b0 := decide_eq_true c33
       clear c33
       by_cases c34 : 0 ≤ x9_2
       ·rw [if_pos c34] at H
        have c34b0 := decide_eq_true c34
        clear c34
        obtain ⟨t591, A35, H⟩ := oB H
        by_cases c36 : t591 = true
        ·subst c36
         rw [if_pos rfl] at H
         have H' := Aside0.mk H
         clear H
         have hnb37 := NB569_584.out
         have hnc37 := NB584_569.out
         have hcz38_0 : wr.cell? ⟨gb569, 0, none⟩ = some (.slice Ao12 t562.length co12) := (blk_cell BK569.out 0).trans rfl
         have hcz38_1 : wr.cell? ⟨gb569, 1, none⟩ = some (.slice Ao14 t565.length co14) := (blk_cell BK569.out 1).trans rfl
         have hfz38_0 := blk_frozen BK569.out 0
         have hfz38_1 := blk_frozen BK569.out 1
         have p590 : 0 ≤ (x9_2 : Int) := of_decide_eq_true aA
         have q590 : x9_2 < (t565.length : Int) := of_decide_eq_true aA
         obtain ⟨ad590, e590, hx590_0⟩ := Kd.at_int (Kd.R_reads' HO_570001.out).2.2 x9_2 p590 q590
         cases e590
         replace p590 := eq_true p590
         replace q590 := eq_true q590
         go_wp2_with (first | (refine gL 17 (some 67) Try.func17 #[.slice Ao32 t575.length co32, .int .i64 (rd t565 x9_2)] ?_; (with_reducible refine (laws_has.calls k2 _ _ t575 (rd t565 x9_2) true _ ?side1 ?side2 A35.out).mono ?_); (case side1 => exact cA ((Kd.R_reads' HO_5.out).2.2)); (case side2 => exact (Kd.R_reads' HO_5.out).2.1); rintro e w' ⟨rfl, ⟨nd, rfl⟩⟩; refine ⟨_, rfl, ?_⟩))
         go_roundg k2
         case measure => have := HK1.out; have := HK2.out; omega
         case rel => exact ⟨(wrap64 (x9_2 + 1)), eX, H', ⟨(by have := HK1.out; have := HK2.out; omega)⟩, ⟨(kR HO_5.out)⟩, ⟨(kR HO_7.out)⟩, ⟨(kR HO_570000.out)⟩, ⟨(kR HO_570001.out)⟩, ⟨(kR HO_585000.out)⟩, ⟨(kR HO_585001.out)⟩, ⟨(kB BK569.out)⟩, ⟨(kB BK584.out)⟩, ⟨bS⟩⟩
        replace c36 := Bool.eq_false_iff.mpr c36
        subst c36
        rw [if_neg nF] at H
        rw [hr_true.out] at H
        exact absurd H (by simp)
       rw [if_neg c34] at H
       exact absurd H (by simp)
      rw [if_neg c33] at H
      have c33b0 := decide_eq_false c33
      clear c33
      obtain ⟨t592, A39, H⟩ := oB H
      have HC40 := Aside0.mk H
      clear H
      have hnb41 := NB569_584.out
      have hnc41 := NB584_569.out
      have hcz42_0 : wr.cell? ⟨gb569, 0, none⟩ = some (.slice Ao12 t562.length co12) := (blk_cell BK569.out 0).trans rfl
      have hcz42_1 : wr.cell? ⟨gb569, 1, none⟩ = some (.slice Ao14 t565.length co14) := (blk_cell BK569.out 1).trans rfl
      have hfz42_0 := blk_frozen BK569.out 0
      have hfz42_1 := blk_frozen BK569.out 1
      go_upto_region 20 with (first | (refine gL 13 (some 71) Try.func13 #[.agg #[.slice Ao12 t562.length co12, .slice Ao14 t565.length co14], .string t568] ?_; (with_reducible refine (impl_Build.calls k2 _ _ t562 _ _ t565 t568 t592 _ ?side1 ?side2 ?side3 ?side4 A39.out).mono ?_); (case side1 => exact cA ((Kd.R_reads' HO_570000.out).2.2)); (case side2 => exact (Kd.R_reads' HO_570000.out).2.1); (case side3 => exact cA ((Kd.R_reads' HO_570001.out).2.2)); (case side4 => exact (Kd.R_reads' HO_570001.out).2.1); rintro e w43 ⟨rfl, hb⟩; refine ⟨_, rfl, ?_⟩; have n_ := aT (Kd.R_below (kR HO_5.out) hb) (aT (Kd.R_below (kR HO_7.out) hb) (aT (Kd.R_below (kR HO_570000.out) hb) (aT (Kd.R_below (kR HO_570001.out) hb) (aT (Kd.R_below (kR HO_585000.out) hb) (aT (Kd.R_below (kR HO_585001.out) hb) (aT (blk_below (kB BK569.out) hb) (aT (blk_below (kB BK584.out) hb) (aM (below_step bS hb))))))))); clear HO_5 HO_7 HO_570000 HO_570001 HO_585000 HO_585001 BK569 BK584 HB; obtain ⟨HO_5, HO_7, HO_570000, HO_570001, HO_585000, HO_585001, BK569, BK584, HB⟩ := n_; (try clear hb)))
      (try simp only [Act.put, List.setIfInBounds_toArray, List.set_cons_zero, List.set_cons_succ])
      go_cut [94] (fun v94 wc => ∃ (kq : Nat) (x94_39 : Bool), v94 = .bool x94_39 ∧ Aside0 (laws_FnKnown.j2 kq l0 t575 x94_39 t562 t565 t578 t581 = some r) ∧ Aside0 (kq ≤ k2) ∧ Aside0 (Kd.R (Kd.int .i64) 3 wc w.heap.size (fun k_ => some k_ ≠ ((.slice Ao14 t565.length co14) : Value).ownBlock ∧ some k_ ≠ ((.slice Ao24 t581.length co24) : Value).ownBlock) (.slice Ao32 t575.length co32) t575) ∧ Aside0 (Kd.R Kd.string 9 wc w.heap.size (fun k_ => some k_ ≠ ((.slice Ao21 t578.length co21) : Value).ownBlock) (.slice Ao12 t562.length co12) t562) ∧ Aside0 (Kd.R (Kd.int .i64) 3 wc w.heap.size (fun k_ => some k_ ≠ ((.slice Ao32 t575.length co32) : Value).ownBlock ∧ some k_ ≠ ((.slice Ao24 t581.length co24) : Value).ownBlock) (.slice Ao14 t565.length co14) t565) ∧ Aside0 (Kd.R Kd.string 9 wc w.heap.size (fun k_ => some k_ ≠ ((.slice Ao12 t562.length co12) : Value).ownBlock) (.slice Ao21 t578.length co21) t578) ∧ Aside0 (Kd.R (Kd.int .i64) 3 wc w.heap.size (fun k_ => some k_ ≠ ((.slice Ao32 t575.length co32) : Value).ownBlock ∧ some k_ ≠ ((.slice Ao14 t565.length co14) : Value).ownBlock) (.slice Ao24 t581.length co24) t581) ∧ Aside0 (wc.heap[gb569]? = some (.cells #[(.slice Ao12 t562.length co12), (.slice Ao14 t565.length co14)] 27 (0, 0))) ∧ Aside0 (wc.heap[gb584]? = some (.cells #[(.slice Ao21 t578.length co21), (.slice Ao24 t581.length co24)] 27 (0, 0))) ∧ Aside0 (Below w.heap.size w wc))
      case first =>
       have H := HC40.out
       clear HC40
       obtain ⟨t593, A44, H⟩ := oB H
       by_cases c45 : (t592 != t593) = true
       ·rw [if_pos c45] at H
        have c45b0 : (t592 != t593) = true := c45
        (try (have c45b1 : decide (t592 = t593) = false := by simpa using c45))
        (try (have c45b2 : (t592 == t593) = false := by simpa using c45))
        (try (have c45b3 : ¬ (t592 = t593) := by simpa using c45))
        clear c45
        (first | rw [c45b0] | (simp only [i64_w, i32_w]; rw [c45b0]) | skip)
        have H' := Aside0.mk H
        clear H
        have hnb46 := NB569_584.out
        have hnc46 := NB584_569.out
        have hcz47_0 : w43.cell? ⟨gb569, 0, none⟩ = some (.slice Ao12 t562.length co12) := (blk_cell BK569.out 0).trans rfl
        have hcz47_1 : w43.cell? ⟨gb569, 1, none⟩ = some (.slice Ao14 t565.length co14) := (blk_cell BK569.out 1).trans rfl
        have hfz47_0 := blk_frozen BK569.out 0
        have hfz47_1 := blk_frozen BK569.out 1
        go_wp2_with (first | (refine gL 18 (some 75) Try.func18 #[.agg #[.slice Ao12 t562.length co12, .slice Ao14 t565.length co14], .string t568] ?_; (with_reducible refine (spec_Build.calls k2 _ _ t562 _ _ t565 t568 t593 _ ?side1 ?side2 ?side3 ?side4 A44.out).mono ?_); (case side1 => exact cA ((Kd.R_reads' HO_570000.out).2.2)); (case side2 => exact (Kd.R_reads' HO_570000.out).2.1); (case side3 => exact cA ((Kd.R_reads' HO_570001.out).2.2)); (case side4 => exact (Kd.R_reads' HO_570001.out).2.1); rintro e w48 ⟨rfl, hb⟩; refine ⟨_, rfl, ?_⟩; have n_ := aT (Kd.R_below (kR HO_5.out) hb) (aT (Kd.R_below (kR HO_7.out) hb) (aT (Kd.R_below (kR HO_570000.out) hb) (aT (Kd.R_below (kR HO_570001.out) hb) (aT (Kd.R_below (kR HO_585000.out) hb) (aT (Kd.R_below (kR HO_585001.out) hb) (aT (blk_below (kB BK569.out) hb) (aT (blk_below (kB BK584.out) hb) (aM (below_step bS hb))))))))); clear HO_5 HO_7 HO_570000 HO_570001 HO_585000 HO_585001 BK569 BK584 HB; obtain ⟨HO_5, HO_7, HO_570000, HO_570001, HO_585000, HO_585001, BK569, BK584, HB⟩ := n_; (try clear hb)))
        go_meet
        case rel => exact ⟨_, (true), eX, H', ⟨(by have := HK1.out; have := HK2.out; first | omega | exact Nat.le_refl _)⟩, ⟨(rM HO_5.out (fun _ hk => ⟨hk.2.1, hk.2.2⟩))⟩, ⟨(kR HO_570000.out)⟩, ⟨(rM HO_570001.out (fun _ hk => ⟨hk.1, hk.2.2⟩))⟩, ⟨(kR HO_585000.out)⟩, ⟨(rM HO_585001.out (fun _ hk => ⟨hk.1, hk.2.2⟩))⟩, ⟨(kB BK569.out)⟩, ⟨(kB BK584.out)⟩, ⟨bS⟩⟩
       rw [if_neg c45] at H
       have c45b0 : (t592 != t593) = false := by simpa using c45
       (try (have c45b1 : decide (t592 = t593) = true := by simpa using c45))
       (try (have c45b2 : (t592 == t593) = true := by simpa using c45))
       clear c45
       (first | rw [c45b0] | (simp only [i64_w, i32_w]; rw [c45b0]) | skip)
       obtain ⟨t594, A49, H⟩ := oB H
       by_cases c50 : t594 = true
       ·subst c50
        rw [if_pos rfl] at H
        by_cases c51 : t592 = true
        ·subst c51
         rw [if_pos rfl] at H
         obtain ⟨t595, A52, H⟩ := oB H
         have H' := Aside0.mk H
         clear H
         have hnb53 := NB569_584.out
         have hnc53 := NB584_569.out
         have hcz54_0 : w43.cell? ⟨gb569, 0, none⟩ = some (.slice Ao12 t562.length co12) := (blk_cell BK569.out 0).trans rfl
         have hcz54_1 : w43.cell? ⟨gb569, 1, none⟩ = some (.slice Ao14 t565.length co14) := (blk_cell BK569.out 1).trans rfl
         have hfz54_0 := blk_frozen BK569.out 0
         have hfz54_1 := blk_frozen BK569.out 1
         go_wp2_with (first | (refine gL 18 (some 75) Try.func18 #[.agg #[.slice Ao12 t562.length co12, .slice Ao14 t565.length co14], .string t568] ?_; (with_reducible refine (spec_Build.calls k2 _ _ t562 _ _ t565 t568 t593 _ ?side1 ?side2 ?side3 ?side4 A44.out).mono ?_); (case side1 => exact cA ((Kd.R_reads' HO_570000.out).2.2)); (case side2 => exact (Kd.R_reads' HO_570000.out).2.1); (case side3 => exact cA ((Kd.R_reads' HO_570001.out).2.2)); (case side4 => exact (Kd.R_reads' HO_570001.out).2.1); rintro e w55 ⟨rfl, hb⟩; refine ⟨_, rfl, ?_⟩; have n_ := aT (Kd.R_below (kR HO_5.out) hb) (aT (Kd.R_below (kR HO_7.out) hb) (aT (Kd.R_below (kR HO_570000.out) hb) (aT (Kd.R_below (kR HO_570001.out) hb) (aT (Kd.R_below (kR HO_585000.out) hb) (aT (Kd.R_below (kR HO_585001.out) hb) (aT (blk_below (kB BK569.out) hb) (aT (blk_below (kB BK584.out) hb) (aM (below_step bS hb))))))))); clear HO_5 HO_7 HO_570000 HO_570001 HO_585000 HO_585001 BK569 BK584 HB; obtain ⟨HO_5, HO_7, HO_570000, HO_570001, HO_585000, HO_585001, BK569, BK584, HB⟩ := n_; (try clear hb); have hcz56_0 : w55.cell? ⟨gb569, 0, none⟩ = some (.slice Ao12 t562.length co12) := (blk_cell BK569.out 0).trans rfl; have hcz56_1 : w55.cell? ⟨gb569, 1, none⟩ = some (.slice Ao14 t565.length co14) := (blk_cell BK569.out 1).trans rfl; have hfz56_0 := blk_frozen BK569.out 0; have hfz56_1 := blk_frozen BK569.out 1) | (go_at_call 23; (with_reducible refine (impl_Sees.calls k2 _ _ t562 _ _ t565 t568 true _ ?side1 ?side2 ?side3 ?side4 A49.out).mono ?_); (case side1 => exact cA ((Kd.R_reads' HO_570000.out).2.2)); (case side2 => exact (Kd.R_reads' HO_570000.out).2.1); (case side3 => exact cA ((Kd.R_reads' HO_570001.out).2.2)); (case side4 => exact (Kd.R_reads' HO_570001.out).2.1); rintro e w57 ⟨rfl, hb⟩; have n_ := aT (Kd.R_below (kR HO_5.out) hb) (aT (Kd.R_below (kR HO_7.out) hb) (aT (Kd.R_below (kR HO_570000.out) hb) (aT (Kd.R_below (kR HO_570001.out) hb) (aT (Kd.R_below (kR HO_585000.out) hb) (aT (Kd.R_below (kR HO_585001.out) hb) (aT (blk_below (kB BK569.out) hb) (aT (blk_below (kB BK584.out) hb) (aM (below_step bS hb))))))))); clear HO_5 HO_7 HO_570000 HO_570001 HO_585000 HO_585001 BK569 BK584 HB; obtain ⟨HO_5, HO_7, HO_570000, HO_570001, HO_585000, HO_585001, BK569, BK584, HB⟩ := n_; (try clear hb); obtain ⟨Ao58, co58, eo58⟩ := Kd.R_slice HO_7.out; subst eo58) | (go_at_call 24; (with_reducible refine (laws_sameInts.calls k2 _ _ t575 _ _ t585 t595 _ ?side1 ?side2 ?side3 ?side4 A52.out).mono ?_); (case side1 => exact cA ((Kd.R_reads' HO_5.out).2.2)); (case side2 => exact (Kd.R_reads' HO_5.out).2.1); (case side3 => exact cA ((Kd.R_reads' HO_7.out).2.2)); (case side4 => exact (Kd.R_reads' HO_7.out).2.1); rintro e w' ⟨rfl, ⟨nd, rfl⟩⟩))
         go_meet
         case rel => exact ⟨_, (!t595), eX, H', ⟨(by have := HK1.out; have := HK2.out; first | omega | exact Nat.le_refl _)⟩, ⟨(rM HO_5.out (fun _ hk => ⟨hk.2.1, hk.2.2⟩))⟩, ⟨(kR HO_570000.out)⟩, ⟨(rM HO_570001.out (fun _ hk => ⟨hk.1, hk.2.2⟩))⟩, ⟨(kR HO_585000.out)⟩, ⟨(rM HO_585001.out (fun _ hk => ⟨hk.1, hk.2.2⟩))⟩, ⟨(kB BK569.out)⟩, ⟨(kB BK584.out)⟩, ⟨bS⟩⟩
        replace c51 := Bool.eq_false_iff.mpr c51
        subst c51
        rw [if_neg nF] at H
        have H' := Aside0.mk H
        clear H
        have hnb59 := NB569_584.out
        have hnc59 := NB584_569.out
        have hcz60_0 : w43.cell? ⟨gb569, 0, none⟩ = some (.slice Ao12 t562.length co12) := (blk_cell BK569.out 0).trans rfl
        have hcz60_1 : w43.cell? ⟨gb569, 1, none⟩ = some (.slice Ao14 t565.length co14) := (blk_cell BK569.out 1).trans rfl
        have hfz60_0 := blk_frozen BK569.out 0
        have hfz60_1 := blk_frozen BK569.out 1
        go_wp2_with (first | (refine gL 18 (some 75) Try.func18 #[.agg #[.slice Ao12 t562.length co12, .slice Ao14 t565.length co14], .string t568] ?_; (with_reducible refine (spec_Build.calls k2 _ _ t562 _ _ t565 t568 t593 _ ?side1 ?side2 ?side3 ?side4 A44.out).mono ?_); (case side1 => exact cA ((Kd.R_reads' HO_570000.out).2.2)); (case side2 => exact (Kd.R_reads' HO_570000.out).2.1); (case side3 => exact cA ((Kd.R_reads' HO_570001.out).2.2)); (case side4 => exact (Kd.R_reads' HO_570001.out).2.1); rintro e w61 ⟨rfl, hb⟩; refine ⟨_, rfl, ?_⟩; have n_ := aT (Kd.R_below (kR HO_5.out) hb) (aT (Kd.R_below (kR HO_7.out) hb) (aT (Kd.R_below (kR HO_570000.out) hb) (aT (Kd.R_below (kR HO_570001.out) hb) (aT (Kd.R_below (kR HO_585000.out) hb) (aT (Kd.R_below (kR HO_585001.out) hb) (aT (blk_below (kB BK569.out) hb) (aT (blk_below (kB BK584.out) hb) (aM (below_step bS hb))))))))); clear HO_5 HO_7 HO_570000 HO_570001 HO_585000 HO_585001 BK569 BK584 HB; obtain ⟨HO_5, HO_7, HO_570000, HO_570001, HO_585000, HO_585001, BK569, BK584, HB⟩ := n_; (try clear hb); have hcz62_0 : w61.cell? ⟨gb569, 0, none⟩ = some (.slice Ao12 t562.length co12) := (blk_cell BK569.out 0).trans rfl; have hcz62_1 : w61.cell? ⟨gb569, 1, none⟩ = some (.slice Ao14 t565.length co14) := (blk_cell BK569.out 1).trans rfl; have hfz62_0 := blk_frozen BK569.out 0; have hfz62_1 := blk_frozen BK569.out 1) | (go_at_call 23; (with_reducible refine (impl_Sees.calls k2 _ _ t562 _ _ t565 t568 true _ ?side1 ?side2 ?side3 ?side4 A49.out).mono ?_); (case side1 => exact cA ((Kd.R_reads' HO_570000.out).2.2)); (case side2 => exact (Kd.R_reads' HO_570000.out).2.1); (case side3 => exact cA ((Kd.R_reads' HO_570001.out).2.2)); (case side4 => exact (Kd.R_reads' HO_570001.out).2.1); rintro e w63 ⟨rfl, hb⟩; have n_ := aT (Kd.R_below (kR HO_5.out) hb) (aT (Kd.R_below (kR HO_7.out) hb) (aT (Kd.R_below (kR HO_570000.out) hb) (aT (Kd.R_below (kR HO_570001.out) hb) (aT (Kd.R_below (kR HO_585000.out) hb) (aT (Kd.R_below (kR HO_585001.out) hb) (aT (blk_below (kB BK569.out) hb) (aT (blk_below (kB BK584.out) hb) (aM (below_step bS hb))))))))); clear HO_5 HO_7 HO_570000 HO_570001 HO_585000 HO_585001 BK569 BK584 HB; obtain ⟨HO_5, HO_7, HO_570000, HO_570001, HO_585000, HO_585001, BK569, BK584, HB⟩ := n_; (try clear hb)))
        go_meet
        case rel => exact ⟨_, (true), eX, H', ⟨(by have := HK1.out; have := HK2.out; first | omega | exact Nat.le_refl _)⟩, ⟨(rM HO_5.out (fun _ hk => ⟨hk.2.1, hk.2.2⟩))⟩, ⟨(kR HO_570000.out)⟩, ⟨(rM HO_570001.out (fun _ hk => ⟨hk.1, hk.2.2⟩))⟩, ⟨(kR HO_585000.out)⟩, ⟨(rM HO_585001.out (fun _ hk => ⟨hk.1, hk.2.2⟩))⟩, ⟨(kB BK569.out)⟩, ⟨(kB BK584.out)⟩, ⟨bS⟩⟩
       replace c50 := Bool.eq_false_iff.mpr c50
       subst c50
       rw [if_neg nF] at H
       by_cases c64 : t592 = true
       ·subst c64
        rw [if_pos rfl] at H
        obtain ⟨t596, A65, H⟩ := oB H
        have H' := Aside0.mk H
        clear H
        have hnb66 := NB569_584.out
        have hnc66 := NB584_569.out
        have hcz67_0 : w43.cell? ⟨gb569, 0, none⟩ = some (.slice Ao12 t562.length co12) := (blk_cell BK569.out 0).trans rfl
        have hcz67_1 : w43.cell? ⟨gb569, 1, none⟩ = some (.slice Ao14 t565.length co14) := (blk_cell BK569.out 1).trans rfl
        have hfz67_0 := blk_frozen BK569.out 0
        have hfz67_1 := blk_frozen BK569.out 1
        go_wp2_with (first | (refine gL 18 (some 75) Try.func18 #[.agg #[.slice Ao12 t562.length co12, .slice Ao14 t565.length co14], .string t568] ?_; (with_reducible refine (spec_Build.calls k2 _ _ t562 _ _ t565 t568 t593 _ ?side1 ?side2 ?side3 ?side4 A44.out).mono ?_); (case side1 => exact cA ((Kd.R_reads' HO_570000.out).2.2)); (case side2 => exact (Kd.R_reads' HO_570000.out).2.1); (case side3 => exact cA ((Kd.R_reads' HO_570001.out).2.2)); (case side4 => exact (Kd.R_reads' HO_570001.out).2.1); rintro e w68 ⟨rfl, hb⟩; refine ⟨_, rfl, ?_⟩; have n_ := aT (Kd.R_below (kR HO_5.out) hb) (aT (Kd.R_below (kR HO_7.out) hb) (aT (Kd.R_below (kR HO_570000.out) hb) (aT (Kd.R_below (kR HO_570001.out) hb) (aT (Kd.R_below (kR HO_585000.out) hb) (aT (Kd.R_below (kR HO_585001.out) hb) (aT (blk_below (kB BK569.out) hb) (aT (blk_below (kB BK584.out) hb) (aM (below_step bS hb))))))))); clear HO_5 HO_7 HO_570000 HO_570001 HO_585000 HO_585001 BK569 BK584 HB; obtain ⟨HO_5, HO_7, HO_570000, HO_570001, HO_585000, HO_585001, BK569, BK584, HB⟩ := n_; (try clear hb); have hcz69_0 : w68.cell? ⟨gb569, 0, none⟩ = some (.slice Ao12 t562.length co12) := (blk_cell BK569.out 0).trans rfl; have hcz69_1 : w68.cell? ⟨gb569, 1, none⟩ = some (.slice Ao14 t565.length co14) := (blk_cell BK569.out 1).trans rfl; have hfz69_0 := blk_frozen BK569.out 0; have hfz69_1 := blk_frozen BK569.out 1) | (go_at_call 23; (with_reducible refine (impl_Sees.calls k2 _ _ t562 _ _ t565 t568 false _ ?side1 ?side2 ?side3 ?side4 A49.out).mono ?_); (case side1 => exact cA ((Kd.R_reads' HO_570000.out).2.2)); (case side2 => exact (Kd.R_reads' HO_570000.out).2.1); (case side3 => exact cA ((Kd.R_reads' HO_570001.out).2.2)); (case side4 => exact (Kd.R_reads' HO_570001.out).2.1); rintro e w70 ⟨rfl, hb⟩; have n_ := aT (Kd.R_below (kR HO_5.out) hb) (aT (Kd.R_below (kR HO_7.out) hb) (aT (Kd.R_below (kR HO_570000.out) hb) (aT (Kd.R_below (kR HO_570001.out) hb) (aT (Kd.R_below (kR HO_585000.out) hb) (aT (Kd.R_below (kR HO_585001.out) hb) (aT (blk_below (kB BK569.out) hb) (aT (blk_below (kB BK584.out) hb) (aM (below_step bS hb))))))))); clear HO_5 HO_7 HO_570000 HO_570001 HO_585000 HO_585001 BK569 BK584 HB; obtain ⟨HO_5, HO_7, HO_570000, HO_570001, HO_585000, HO_585001, BK569, BK584, HB⟩ := n_; (try clear hb); obtain ⟨Ao71, co71, eo71⟩ := Kd.R_slice HO_7.out; subst eo71) | (go_at_call 24; (with_reducible refine (laws_sameInts.calls k2 _ _ t575 _ _ t585 t596 _ ?side1 ?side2 ?side3 ?side4 A65.out).mono ?_); (case side1 => exact cA ((Kd.R_reads' HO_5.out).2.2)); (case side2 => exact (Kd.R_reads' HO_5.out).2.1); (case side3 => exact cA ((Kd.R_reads' HO_7.out).2.2)); (case side4 => exact (Kd.R_reads' HO_7.out).2.1); rintro e w' ⟨rfl, ⟨nd, rfl⟩⟩))
        go_meet
        case rel => exact ⟨_, (!t596), eX, H', ⟨(by have := HK1.out; have := HK2.out; first | omega | exact Nat.le_refl _)⟩, ⟨(rM HO_5.out (fun _ hk => ⟨hk.2.1, hk.2.2⟩))⟩, ⟨(kR HO_570000.out)⟩, ⟨(rM HO_570001.out (fun _ hk => ⟨hk.1, hk.2.2⟩))⟩, ⟨(kR HO_585000.out)⟩, ⟨(rM HO_585001.out (fun _ hk => ⟨hk.1, hk.2.2⟩))⟩, ⟨(kB BK569.out)⟩, ⟨(kB BK584.out)⟩, ⟨bS⟩⟩
       replace c64 := Bool.eq_false_iff.mpr c64
       subst c64
       rw [if_neg nF] at H
       have H' := Aside0.mk H
       clear H
       have hnb72 := NB569_584.out
       have hnc72 := NB584_569.out
       have hcz73_0 : w43.cell? ⟨gb569, 0, none⟩ = some (.slice Ao12 t562.length co12) := (blk_cell BK569.out 0).trans rfl
       have hcz73_1 : w43.cell? ⟨gb569, 1, none⟩ = some (.slice Ao14 t565.length co14) := (blk_cell BK569.out 1).trans rfl
       have hfz73_0 := blk_frozen BK569.out 0
       have hfz73_1 := blk_frozen BK569.out 1
       go_wp2_with (first | (refine gL 18 (some 75) Try.func18 #[.agg #[.slice Ao12 t562.length co12, .slice Ao14 t565.length co14], .string t568] ?_; (with_reducible refine (spec_Build.calls k2 _ _ t562 _ _ t565 t568 t593 _ ?side1 ?side2 ?side3 ?side4 A44.out).mono ?_); (case side1 => exact cA ((Kd.R_reads' HO_570000.out).2.2)); (case side2 => exact (Kd.R_reads' HO_570000.out).2.1); (case side3 => exact cA ((Kd.R_reads' HO_570001.out).2.2)); (case side4 => exact (Kd.R_reads' HO_570001.out).2.1); rintro e w74 ⟨rfl, hb⟩; refine ⟨_, rfl, ?_⟩; have n_ := aT (Kd.R_below (kR HO_5.out) hb) (aT (Kd.R_below (kR HO_7.out) hb) (aT (Kd.R_below (kR HO_570000.out) hb) (aT (Kd.R_below (kR HO_570001.out) hb) (aT (Kd.R_below (kR HO_585000.out) hb) (aT (Kd.R_below (kR HO_585001.out) hb) (aT (blk_below (kB BK569.out) hb) (aT (blk_below (kB BK584.out) hb) (aM (below_step bS hb))))))))); clear HO_5 HO_7 HO_570000 HO_570001 HO_585000 HO_585001 BK569 BK584 HB; obtain ⟨HO_5, HO_7, HO_570000, HO_570001, HO_585000, HO_585001, BK569, BK584, HB⟩ := n_; (try clear hb); have hcz75_0 : w74.cell? ⟨gb569, 0, none⟩ = some (.slice Ao12 t562.length co12) := (blk_cell BK569.out 0).trans rfl; have hcz75_1 : w74.cell? ⟨gb569, 1, none⟩ = some (.slice Ao14 t565.length co14) := (blk_cell BK569.out 1).trans rfl; have hfz75_0 := blk_frozen BK569.out 0; have hfz75_1 := blk_frozen BK569.out 1) | (go_at_call 23; (with_reducible refine (impl_Sees.calls k2 _ _ t562 _ _ t565 t568 false _ ?side1 ?side2 ?side3 ?side4 A49.out).mono ?_); (case side1 => exact cA ((Kd.R_reads' HO_570000.out).2.2)); (case side2 => exact (Kd.R_reads' HO_570000.out).2.1); (case side3 => exact cA ((Kd.R_reads' HO_570001.out).2.2)); (case side4 => exact (Kd.R_reads' HO_570001.out).2.1); rintro e w76 ⟨rfl, hb⟩; have n_ := aT (Kd.R_below (kR HO_5.out) hb) (aT (Kd.R_below (kR HO_7.out) hb) (aT (Kd.R_below (kR HO_570000.out) hb) (aT (Kd.R_below (kR HO_570001.out) hb) (aT (Kd.R_below (kR HO_585000.out) hb) (aT (Kd.R_below (kR HO_585001.out) hb) (aT (blk_below (kB BK569.out) hb) (aT (blk_below (kB BK584.out) hb) (aM (below_step bS hb))))))))); clear HO_5 HO_7 HO_570000 HO_570001 HO_585000 HO_585001 BK569 BK584 HB; obtain ⟨HO_5, HO_7, HO_570000, HO_570001, HO_585000, HO_585001, BK569, BK584, HB⟩ := n_; (try clear hb)))
       go_meet
       case rel => exact ⟨_, (false), eX, H', ⟨(by have := HK1.out; have := HK2.out; first | omega | exact Nat.le_refl _)⟩, ⟨(rM HO_5.out (fun _ hk => ⟨hk.2.1, hk.2.2⟩))⟩, ⟨(kR HO_570000.out)⟩, ⟨(rM HO_570001.out (fun _ hk => ⟨hk.1, hk.2.2⟩))⟩, ⟨(kR HO_585000.out)⟩, ⟨(rM HO_585001.out (fun _ hk => ⟨hk.1, hk.2.2⟩))⟩, ⟨(kB BK569.out)⟩, ⟨(kB BK584.out)⟩, ⟨bS⟩⟩
      case rest =>
       clear HC40
       try clear c3
       try clear c6
       try clear c26
       try clear c26b0
       try clear c33
       try clear c33b0
       try clear hcz13_0
       try clear hcz13_1
       try clear hcz16_0
       try clear hcz16_1
       try clear hcz18_0
       try clear hcz18_1
       try clear hcz23_0
       try clear hcz23_1
       try clear hcz42_0
       try clear hcz42_1
       try clear hfz13_0
       try clear hfz13_1
       try clear hfz16_0
       try clear hfz16_1
       try clear hfz18_0
       try clear hfz18_1
       try clear hfz23_0
       try clear hfz23_1
       try clear hfz42_0
       try clear hfz42_1
       obtain ⟨kq, x94_39, rfl, HA, HJ39, HO_5, HO_570000, HO_570001, HO_585000, HO_585001, BK569, BK584, HB⟩ := hcut
       cases kq with
       | zero => exact absurd HA.out (by simp [laws_FnKnown.j2])
       | succ kj39 =>
        have H := HA.out
        clear HA
        simp only [laws_FnKnown.j2] at H
        by_cases c77 : x94_39 = true
        ·subst c77
         rw [if_pos rfl] at H
         rw [hr_true.out] at H
         exact absurd H (by simp)
        replace c77 := Bool.eq_false_iff.mpr c77
        subst c77
        rw [if_neg nF] at H
        obtain ⟨t597, A78, H⟩ := oB H
        obtain ⟨⟨t598, t601⟩, A79, H⟩ := oB H
        dsimp only at H
        obtain ⟨t605, A80, H⟩ := oB H
        have H' := Aside0.mk H
        clear H
        try go_wp2
        have n_ := aT (Kd.R_drew HO_5.out) (aT (Kd.R_drew HO_570000.out) (aT (Kd.R_drew HO_570001.out) (aT (Kd.R_drew HO_585000.out) (aT (Kd.R_drew HO_585001.out) (aT (blk_drew BK569.out) (aT (blk_drew BK584.out) (aM (below_drew1 HB.out))))))))
        clear HO_5 HO_570000 HO_570001 HO_585000 HO_585001 BK569 BK584 HB
        obtain ⟨HO_5, HO_570000, HO_570001, HO_585000, HO_585001, BK569, BK584, HB⟩ := n_
        refine start_ (n := 8) (S := fun w' => w'.cell? ⟨gb569, 0, none⟩ = some (.slice Ao12 t562.length co12) ∧ w'.cell? ⟨gb569, 1, none⟩ = some (.slice Ao14 t565.length co14)) (ds := []) _ (by kernel_rfl) rfl rfl ⟨(blk_cell BK569.out 0).trans rfl, (blk_cell BK569.out 1).trans rfl⟩ (fun hHeld => ?_); refine with_tabW laws_FnKnown.tab22 laws_FnKnown.bits22 (fun HT_ HW_ => ?_)
        generalize wc.drew = w81 at HO_5 HO_570000 HO_570001 HO_585000 HO_585001 BK569 BK584 HB hHeld ⊢
        refine pU HT_ 1 (some 96) (mk 8 2) rfl rfl (h := ?_)
        refine tU HT_ HW_ 0 (some 95) (mk 8 3) hHeld rfl rfl (by rintro w' ⟨s0, s1⟩; go_simp; with_reducible rfl) (h := ?_)
        refine join_ (σ := Value × Value × Nat) 1 #[true, true, true, true, true, true, true, false] (fun s_ => [(97, .int .i64 t597), (100, .agg #[s_.1, s_.2.1]), (11, .pointer (some ⟨s_.2.2, 0, none⟩)), (98, .int .i64 (Int.tmod t597 6)), (99, .int .i64 (wrap64 (1 + (Int.tmod t597 6))))]) (fun s_ w' => (w'.cell? ⟨gb569, 0, none⟩ = some (.slice Ao12 t562.length co12) ∧ w'.cell? ⟨gb569, 1, none⟩ = some (.slice Ao14 t565.length co14)) ∧ (Kd.R Kd.string 9 w' w.heap.size (fun k_ => some k_ ≠ (.slice Ao12 t562.length co12 : Value).ownBlock ∧ some k_ ≠ (.slice Ao21 t578.length co21 : Value).ownBlock) s_.1 t598) ∧ (Kd.R (Kd.int .i64) 3 w' w.heap.size (fun k_ => some k_ ≠ (.slice Ao32 t575.length co32 : Value).ownBlock ∧ some k_ ≠ (.slice Ao14 t565.length co14 : Value).ownBlock ∧ some k_ ≠ (.slice Ao24 t581.length co24 : Value).ownBlock) s_.2.1 t601) ∧ (Kd.R (Kd.int .i64) 3 w' w.heap.size (fun k_ => some k_ ≠ (s_.2.1 : Value).ownBlock ∧ some k_ ≠ (.slice Ao14 t565.length co14 : Value).ownBlock ∧ some k_ ≠ (.slice Ao24 t581.length co24 : Value).ownBlock) (.slice Ao32 t575.length co32) t575) ∧ (Kd.R Kd.string 9 w' w.heap.size (fun k_ => some k_ ≠ (s_.1 : Value).ownBlock ∧ some k_ ≠ (.slice Ao21 t578.length co21 : Value).ownBlock) (.slice Ao12 t562.length co12) t562) ∧ (Kd.R (Kd.int .i64) 3 w' w.heap.size (fun k_ => some k_ ≠ (s_.2.1 : Value).ownBlock ∧ some k_ ≠ (.slice Ao32 t575.length co32 : Value).ownBlock ∧ some k_ ≠ (.slice Ao24 t581.length co24 : Value).ownBlock) (.slice Ao14 t565.length co14) t565) ∧ (Kd.R Kd.string 9 w' w.heap.size (fun k_ => some k_ ≠ (s_.1 : Value).ownBlock ∧ some k_ ≠ (.slice Ao12 t562.length co12 : Value).ownBlock) (.slice Ao21 t578.length co21) t578) ∧ (Kd.R (Kd.int .i64) 3 w' w.heap.size (fun k_ => some k_ ≠ (s_.2.1 : Value).ownBlock ∧ some k_ ≠ (.slice Ao32 t575.length co32 : Value).ownBlock ∧ some k_ ≠ (.slice Ao14 t565.length co14 : Value).ownBlock) (.slice Ao24 t581.length co24) t581) ∧ (w'.heap[gb569]? = some (.cells #[.slice Ao12 t562.length co12, .slice Ao14 t565.length co14] 27 (0, 0))) ∧ (w'.heap[gb584]? = some (.cells #[.slice Ao21 t578.length co21, .slice Ao24 t581.length co24] 27 (0, 0))) ∧ (w'.heap[s_.2.2]? = some (.cells #[.slice none 0 0, .slice none 0 0] 27 (0, 0))) ∧ (w.heap.size ≤ s_.2.2) ∧ (w.heap.size ≤ s_.2.2) ∧ (gb569 ≠ s_.2.2) ∧ (s_.2.2 ≠ gb569) ∧ (gb584 ≠ s_.2.2) ∧ (s_.2.2 ≠ gb584) ∧ (Below w.heap.size w w')) ?_ ?_
        rotate_left
        ·intro hCont
         refine two_ (i := 2) (j := 6) (Ni := some 97) (Nj := some 11) #[true, true, true, false, false, false, false, false] #[true, true, false, false, false, false, true, false] rfl rfl rfl rfl (two_of HT_.out (by kernel_rfl)) (by decide) (by decide) (fun K hK => ?_) (fun K hK => ?_)
         ·skip
          refine goes_ Try.func26 (by kernel_rfl) rfl #[.slice A0 l0.length c0, .int .i64 0] (by rfl) rfl rfl eA ?_
          with_reducible refine (laws_at.calls _ _ l0 0 t597 _ ?side1 ?side2 A78.out).mono ?_
          (case side1 => exact cA (Kd.C_below HR0.out HB.out))
          (case side2 => exact HC0.out)
          rintro e w' ⟨rfl, ⟨nd, rfl⟩⟩
          refine ⟨_, rfl, ?_⟩
          refine hK.out _ _ ⟨(blk_cell BK569.out 0).trans rfl, (blk_cell BK569.out 1).trans rfl⟩ (fun hHeld => ?_)
          clear hK K
          refine nO (some 97) (h := ?_)
          refine pU HT_ 3 (some 98) (mk 8 15) rfl rfl (h := ?_)
          refine pU HT_ 4 (some 99) (mk 8 31) rfl rfl (h := ?_)
          refine two_ (i := 5) (j := 6) (Ni := some 100) (Nj := some 11) #[true, true, true, true, true, true, false, false] #[true, true, true, true, true, false, true, false] rfl rfl rfl rfl (two_of HT_.out (by kernel_rfl)) (by decide) (by decide) (fun K hK => ?_) (fun K hK => ?_)
          ·skip
           refine goes_ Try.func25 (by kernel_rfl) rfl #[.agg #[.slice Ao12 t562.length co12, .slice Ao14 t565.length co14], .int .i64 (wrap64 (1 + (Int.tmod t597 6)))] (by rfl) rfl rfl eA ?_
           with_reducible refine (impl_LearnKey.calls kj39 _ _ t562 _ _ t565 (wrap64 (1 + (Int.tmod t597 6))) t598 t601 _ ?side1 ?side2 ?side3 ?side4 A79.out).mono ?_
           (case side1 => exact cA ((Kd.R_reads' HO_570000.out).2.2))
           (case side2 => exact (Kd.R_reads' HO_570000.out).2.1)
           (case side3 => exact cA ((Kd.R_reads' HO_570001.out).2.2))
           (case side4 => exact (Kd.R_reads' HO_570001.out).2.1)
           rintro e w82 ⟨v599, v602, rfl, ho0, ho1, hb⟩
           refine ⟨_, rfl, ?_⟩
           have n_ := aT (Kd.R_elder' (kR HO_5.out) (Kd.R_base ho1) hb) (aT (Kd.R_elder' (kR HO_570000.out) (Kd.R_base ho0) hb) (aT (Kd.R_elder' (kR HO_570001.out) (Kd.R_base ho1) hb) (aT (Kd.R_elder' (kR HO_585000.out) (Kd.R_base ho0) hb) (aT (Kd.R_elder' (kR HO_585001.out) (Kd.R_base ho1) hb) (aT (Kd.R_lower (Kd.R_new' (Kd.R_new' ho0 (Kd.R_lt (kR HO_570000.out))) (Kd.R_lt (kR HO_585000.out))) (below_size bS)) (aT (Kd.R_lower (Kd.R_new' (Kd.R_new' (Kd.R_new' ho1 (Kd.R_lt (kR HO_5.out))) (Kd.R_lt (kR HO_570001.out))) (Kd.R_lt (kR HO_585001.out))) (below_size bS)) (aT (blk_below (kB BK569.out) hb) (aT (blk_below (kB BK584.out) hb) (aM (below_step bS hb))))))))))
           clear HO_5 HO_570000 HO_570001 HO_585000 HO_585001 BK569 BK584 HB
           obtain ⟨HO_5, HO_570000, HO_570001, HO_585000, HO_585001, HO600, HO603, BK569, BK584, HB⟩ := n_
           (try clear hb)
           (try clear hb2)
           (try clear hk)
           (try clear hi)
           (try clear ho0)
           (try clear ho1)
           refine hK.out _ _ ⟨(blk_cell BK569.out 0).trans rfl, (blk_cell BK569.out 1).trans rfl⟩ (fun hHeld => ?_)
           clear hK K
           refine nO (some 100) (h := ?_)
           refine one_ (i := 6) (N := some 11) (mk 8 127) rfl rfl (one_of HT_.out (by kernel_rfl)) (by decide) (fun K hK => ?_)
           refine box_step ?hg (N := 11) ?hd (cs := #[.slice none 0 0, .slice none 0 0]) (t := 27) ?hr ?_; (case hd => rfl); (case hg => rfl); (case hr => first | (go_simp; done) | (go_simp; rfl))
           intro gb604 hg w83 hbox hb
           have n0_ := Aside0.mk (Kd.R_below (kR HO_5.out) hb)
           have n1_ := Aside0.mk (Kd.R_below (kR HO_570000.out) hb)
           have n2_ := Aside0.mk (Kd.R_below (kR HO_570001.out) hb)
           have n3_ := Aside0.mk (Kd.R_below (kR HO_585000.out) hb)
           have n4_ := Aside0.mk (Kd.R_below (kR HO_585001.out) hb)
           have n5_ := Aside0.mk (Kd.R_below (kR HO600.out) hb)
           have n6_ := Aside0.mk (Kd.R_below (kR HO603.out) hb)
           have n7_ := Aside0.mk (blk_below (kB BK569.out) hb)
           have n8_ := Aside0.mk (blk_below (kB BK584.out) hb)
           have n9_ := Aside0.mk (below_step bS hb)
           have n10_ := Aside0.mk (hbox)
           have n11_ := Aside0.mk ((bZ hg : w.heap.size ≤ gb604))
           have n12_ := Aside0.mk ((bZ hg : w.heap.size ≤ gb604))
           have n13_ := Aside0.mk ((nL hg BK569.out : gb569 ≠ gb604))
           have n14_ := Aside0.mk ((nG hg BK569.out : gb604 ≠ gb569))
           have n15_ := Aside0.mk ((nL hg BK584.out : gb584 ≠ gb604))
           have n16_ := Aside0.mk ((nG hg BK584.out : gb604 ≠ gb584))
           clear HO_5 HO_570000 HO_570001 HO_585000 HO_585001 HO600 HO603 BK569 BK584 HB
           have HO_5 := n0_
           have HO_570000 := n1_
           have HO_570001 := n2_
           have HO_585000 := n3_
           have HO_585001 := n4_
           have HO600 := n5_
           have HO603 := n6_
           have BK569 := n7_
           have BK584 := n8_
           have HB := n9_
           have BK604 := n10_
           have GW604 := n11_
           have GE604 := n12_
           have NB569_604 := n13_
           have NB604_569 := n14_
           have NB584_604 := n15_
           have NB604_584 := n16_
           clear n0_ n1_ n2_ n3_ n4_ n5_ n6_ n7_ n8_ n9_ n10_ n11_ n12_ n13_ n14_ n15_ n16_ hb hbox hg
           refine hK.out _ _ ⟨(blk_cell BK569.out 0).trans rfl, (blk_cell BK569.out 1).trans rfl⟩ (fun hHeld => ?_)
           clear hK K
           refine nO (some 11) (h := ?_)
           exact norm_ (by simp only [putAll, Act.put, List.setIfInBounds_toArray, List.set_cons_zero, List.set_cons_succ]) (hCont (v599, v602, gb604) _ ⟨hHeld, (rM HO600.out (fun _ hk => ⟨hk.1.2, hk.2⟩)), (rM HO603.out (fun _ hk => ⟨hk.1.1.2, ⟨hk.1.2, hk.2⟩⟩)), (rM HO_5.out (fun _ hk => ⟨hk.2, ⟨hk.1.1, hk.1.2⟩⟩)), (rM HO_570000.out (fun _ hk => ⟨hk.2, hk.1⟩)), (rM HO_570001.out (fun _ hk => ⟨hk.2, ⟨hk.1.1, hk.1.2⟩⟩)), (rM HO_585000.out (fun _ hk => ⟨hk.2, hk.1⟩)), (rM HO_585001.out (fun _ hk => ⟨hk.2, ⟨hk.1.1, hk.1.2⟩⟩)), (kB BK569.out), (kB BK584.out), (kB BK604.out), GW604.out, GE604.out, NB569_604.out, NB604_569.out, NB584_604.out, NB604_584.out, bS⟩)
          skip
          refine box_step ?hg (N := 11) ?hd (cs := #[.slice none 0 0, .slice none 0 0]) (t := 27) ?hr ?_; (case hd => rfl); (case hg => rfl); (case hr => first | (go_simp; done) | (go_simp; rfl))
          intro gb604 hg w82 hbox hb
          have n0_ := Aside0.mk (Kd.R_below (kR HO_5.out) hb)
          have n1_ := Aside0.mk (Kd.R_below (kR HO_570000.out) hb)
          have n2_ := Aside0.mk (Kd.R_below (kR HO_570001.out) hb)
          have n3_ := Aside0.mk (Kd.R_below (kR HO_585000.out) hb)
          have n4_ := Aside0.mk (Kd.R_below (kR HO_585001.out) hb)
          have n5_ := Aside0.mk (blk_below (kB BK569.out) hb)
          have n6_ := Aside0.mk (blk_below (kB BK584.out) hb)
          have n7_ := Aside0.mk (below_step bS hb)
          have n8_ := Aside0.mk (hbox)
          have n9_ := Aside0.mk ((bZ hg : w.heap.size ≤ gb604))
          have n10_ := Aside0.mk ((bZ hg : w.heap.size ≤ gb604))
          have n11_ := Aside0.mk ((nL hg BK569.out : gb569 ≠ gb604))
          have n12_ := Aside0.mk ((nG hg BK569.out : gb604 ≠ gb569))
          have n13_ := Aside0.mk ((nL hg BK584.out : gb584 ≠ gb604))
          have n14_ := Aside0.mk ((nG hg BK584.out : gb604 ≠ gb584))
          clear HO_5 HO_570000 HO_570001 HO_585000 HO_585001 BK569 BK584 HB
          have HO_5 := n0_
          have HO_570000 := n1_
          have HO_570001 := n2_
          have HO_585000 := n3_
          have HO_585001 := n4_
          have BK569 := n5_
          have BK584 := n6_
          have HB := n7_
          have BK604 := n8_
          have GW604 := n9_
          have GE604 := n10_
          have NB569_604 := n11_
          have NB604_569 := n12_
          have NB584_604 := n13_
          have NB604_584 := n14_
          clear n0_ n1_ n2_ n3_ n4_ n5_ n6_ n7_ n8_ n9_ n10_ n11_ n12_ n13_ n14_ hb hbox hg
          refine hK.out _ _ ⟨(blk_cell BK569.out 0).trans rfl, (blk_cell BK569.out 1).trans rfl⟩ (fun hHeld => ?_)
          clear hK K
          refine nO (some 11) (h := ?_)
          refine one_ (i := 5) (N := some 100) (mk 8 127) rfl rfl (one_of HT_.out (by kernel_rfl)) (by decide) (fun K hK => ?_)
          refine goes_ Try.func25 (by kernel_rfl) rfl #[.agg #[.slice Ao12 t562.length co12, .slice Ao14 t565.length co14], .int .i64 (wrap64 (1 + (Int.tmod t597 6)))] (by rfl) rfl rfl eA ?_
          with_reducible refine (impl_LearnKey.calls kj39 _ _ t562 _ _ t565 (wrap64 (1 + (Int.tmod t597 6))) t598 t601 _ ?side1 ?side2 ?side3 ?side4 A79.out).mono ?_
          (case side1 => exact cA ((Kd.R_reads' HO_570000.out).2.2))
          (case side2 => exact (Kd.R_reads' HO_570000.out).2.1)
          (case side3 => exact cA ((Kd.R_reads' HO_570001.out).2.2))
          (case side4 => exact (Kd.R_reads' HO_570001.out).2.1)
          rintro e w83 ⟨v599, v602, rfl, ho0, ho1, hb⟩
          refine ⟨_, rfl, ?_⟩
          have n_ := aT (Kd.R_elder' (kR HO_5.out) (Kd.R_base ho1) hb) (aT (Kd.R_elder' (kR HO_570000.out) (Kd.R_base ho0) hb) (aT (Kd.R_elder' (kR HO_570001.out) (Kd.R_base ho1) hb) (aT (Kd.R_elder' (kR HO_585000.out) (Kd.R_base ho0) hb) (aT (Kd.R_elder' (kR HO_585001.out) (Kd.R_base ho1) hb) (aT (Kd.R_lower (Kd.R_new' (Kd.R_new' ho0 (Kd.R_lt (kR HO_570000.out))) (Kd.R_lt (kR HO_585000.out))) (below_size bS)) (aT (Kd.R_lower (Kd.R_new' (Kd.R_new' (Kd.R_new' ho1 (Kd.R_lt (kR HO_5.out))) (Kd.R_lt (kR HO_570001.out))) (Kd.R_lt (kR HO_585001.out))) (below_size bS)) (aT (blk_below (kB BK569.out) hb) (aT (blk_below (kB BK584.out) hb) (aT (blk_below (kB BK604.out) hb) (aM (below_step bS hb)))))))))))
          clear HO_5 HO_570000 HO_570001 HO_585000 HO_585001 BK569 BK584 BK604 HB
          obtain ⟨HO_5, HO_570000, HO_570001, HO_585000, HO_585001, HO600, HO603, BK569, BK584, BK604, HB⟩ := n_
          (try clear hb)
          (try clear hb2)
          (try clear hk)
          (try clear hi)
          (try clear ho0)
          (try clear ho1)
          refine hK.out _ _ ⟨(blk_cell BK569.out 0).trans rfl, (blk_cell BK569.out 1).trans rfl⟩ (fun hHeld => ?_)
          clear hK K
          refine nO (some 100) (h := ?_)
          exact norm_ (by simp only [putAll, Act.put, List.setIfInBounds_toArray, List.set_cons_zero, List.set_cons_succ]) (hCont (v599, v602, gb604) _ ⟨hHeld, (rM HO600.out (fun _ hk => ⟨hk.1.2, hk.2⟩)), (rM HO603.out (fun _ hk => ⟨hk.1.1.2, ⟨hk.1.2, hk.2⟩⟩)), (rM HO_5.out (fun _ hk => ⟨hk.2, ⟨hk.1.1, hk.1.2⟩⟩)), (rM HO_570000.out (fun _ hk => ⟨hk.2, hk.1⟩)), (rM HO_570001.out (fun _ hk => ⟨hk.2, ⟨hk.1.1, hk.1.2⟩⟩)), (rM HO_585000.out (fun _ hk => ⟨hk.2, hk.1⟩)), (rM HO_585001.out (fun _ hk => ⟨hk.2, ⟨hk.1.1, hk.1.2⟩⟩)), (kB BK569.out), (kB BK584.out), (kB BK604.out), GW604.out, GE604.out, NB569_604.out, NB604_569.out, NB584_604.out, NB604_584.out, bS⟩)
         skip
         refine box_step ?hg (N := 11) ?hd (cs := #[.slice none 0 0, .slice none 0 0]) (t := 27) ?hr ?_; (case hd => rfl); (case hg => rfl); (case hr => first | (go_simp; done) | (go_simp; rfl))
         intro gb604 hg w82 hbox hb
         have n0_ := Aside0.mk (Kd.R_below (kR HO_5.out) hb)
         have n1_ := Aside0.mk (Kd.R_below (kR HO_570000.out) hb)
         have n2_ := Aside0.mk (Kd.R_below (kR HO_570001.out) hb)
         have n3_ := Aside0.mk (Kd.R_below (kR HO_585000.out) hb)
         have n4_ := Aside0.mk (Kd.R_below (kR HO_585001.out) hb)
         have n5_ := Aside0.mk (blk_below (kB BK569.out) hb)
         have n6_ := Aside0.mk (blk_below (kB BK584.out) hb)
         have n7_ := Aside0.mk (below_step bS hb)
         have n8_ := Aside0.mk (hbox)
         have n9_ := Aside0.mk ((bZ hg : w.heap.size ≤ gb604))
         have n10_ := Aside0.mk ((bZ hg : w.heap.size ≤ gb604))
         have n11_ := Aside0.mk ((nL hg BK569.out : gb569 ≠ gb604))
         have n12_ := Aside0.mk ((nG hg BK569.out : gb604 ≠ gb569))
         have n13_ := Aside0.mk ((nL hg BK584.out : gb584 ≠ gb604))
         have n14_ := Aside0.mk ((nG hg BK584.out : gb604 ≠ gb584))
         clear HO_5 HO_570000 HO_570001 HO_585000 HO_585001 BK569 BK584 HB
         have HO_5 := n0_
         have HO_570000 := n1_
         have HO_570001 := n2_
         have HO_585000 := n3_
         have HO_585001 := n4_
         have BK569 := n5_
         have BK584 := n6_
         have HB := n7_
         have BK604 := n8_
         have GW604 := n9_
         have GE604 := n10_
         have NB569_604 := n11_
         have NB604_569 := n12_
         have NB584_604 := n13_
         have NB604_584 := n14_
         clear n0_ n1_ n2_ n3_ n4_ n5_ n6_ n7_ n8_ n9_ n10_ n11_ n12_ n13_ n14_ hb hbox hg
         refine hK.out _ _ ⟨(blk_cell BK569.out 0).trans rfl, (blk_cell BK569.out 1).trans rfl⟩ (fun hHeld => ?_)
         clear hK K
         refine nO (some 11) (h := ?_)
         refine one_ (i := 2) (N := some 97) (mk 8 71) rfl rfl (one_of HT_.out (by kernel_rfl)) (by decide) (fun K hK => ?_)
         refine goes_ Try.func26 (by kernel_rfl) rfl #[.slice A0 l0.length c0, .int .i64 0] (by rfl) rfl rfl eA ?_
         with_reducible refine (laws_at.calls _ _ l0 0 t597 _ ?side1 ?side2 A78.out).mono ?_
         (case side1 => exact cA (Kd.C_below HR0.out HB.out))
         (case side2 => exact HC0.out)
         rintro e w' ⟨rfl, ⟨nd, rfl⟩⟩
         refine ⟨_, rfl, ?_⟩
         refine hK.out _ _ ⟨(blk_cell BK569.out 0).trans rfl, (blk_cell BK569.out 1).trans rfl⟩ (fun hHeld => ?_)
         clear hK K
         refine nO (some 97) (h := ?_)
         refine pU HT_ 3 (some 98) (mk 8 79) rfl rfl (h := ?_)
         refine pU HT_ 4 (some 99) (mk 8 95) rfl rfl (h := ?_)
         refine one_ (i := 5) (N := some 100) (mk 8 127) rfl rfl (one_of HT_.out (by kernel_rfl)) (by decide) (fun K hK => ?_)
         refine goes_ Try.func25 (by kernel_rfl) rfl #[.agg #[.slice Ao12 t562.length co12, .slice Ao14 t565.length co14], .int .i64 (wrap64 (1 + (Int.tmod t597 6)))] (by rfl) rfl rfl eA ?_
         with_reducible refine (impl_LearnKey.calls kj39 _ _ t562 _ _ t565 (wrap64 (1 + (Int.tmod t597 6))) t598 t601 _ ?side1 ?side2 ?side3 ?side4 A79.out).mono ?_
         (case side1 => exact cA ((Kd.R_reads' HO_570000.out).2.2))
         (case side2 => exact (Kd.R_reads' HO_570000.out).2.1)
         (case side3 => exact cA ((Kd.R_reads' HO_570001.out).2.2))
         (case side4 => exact (Kd.R_reads' HO_570001.out).2.1)
         rintro e w83 ⟨v599, v602, rfl, ho0, ho1, hb⟩
         refine ⟨_, rfl, ?_⟩
         have n_ := aT (Kd.R_elder' (kR HO_5.out) (Kd.R_base ho1) hb) (aT (Kd.R_elder' (kR HO_570000.out) (Kd.R_base ho0) hb) (aT (Kd.R_elder' (kR HO_570001.out) (Kd.R_base ho1) hb) (aT (Kd.R_elder' (kR HO_585000.out) (Kd.R_base ho0) hb) (aT (Kd.R_elder' (kR HO_585001.out) (Kd.R_base ho1) hb) (aT (Kd.R_lower (Kd.R_new' (Kd.R_new' ho0 (Kd.R_lt (kR HO_570000.out))) (Kd.R_lt (kR HO_585000.out))) (below_size bS)) (aT (Kd.R_lower (Kd.R_new' (Kd.R_new' (Kd.R_new' ho1 (Kd.R_lt (kR HO_5.out))) (Kd.R_lt (kR HO_570001.out))) (Kd.R_lt (kR HO_585001.out))) (below_size bS)) (aT (blk_below (kB BK569.out) hb) (aT (blk_below (kB BK584.out) hb) (aT (blk_below (kB BK604.out) hb) (aM (below_step bS hb)))))))))))
         clear HO_5 HO_570000 HO_570001 HO_585000 HO_585001 BK569 BK584 BK604 HB
         obtain ⟨HO_5, HO_570000, HO_570001, HO_585000, HO_585001, HO600, HO603, BK569, BK584, BK604, HB⟩ := n_
         (try clear hb)
         (try clear hb2)
         (try clear hk)
         (try clear hi)
         (try clear ho0)
         (try clear ho1)
         refine hK.out _ _ ⟨(blk_cell BK569.out 0).trans rfl, (blk_cell BK569.out 1).trans rfl⟩ (fun hHeld => ?_)
         clear hK K
         refine nO (some 100) (h := ?_)
         exact norm_ (by simp only [putAll, Act.put, List.setIfInBounds_toArray, List.set_cons_zero, List.set_cons_succ]) (hCont (v599, v602, gb604) _ ⟨hHeld, (rM HO600.out (fun _ hk => ⟨hk.1.2, hk.2⟩)), (rM HO603.out (fun _ hk => ⟨hk.1.1.2, ⟨hk.1.2, hk.2⟩⟩)), (rM HO_5.out (fun _ hk => ⟨hk.2, ⟨hk.1.1, hk.1.2⟩⟩)), (rM HO_570000.out (fun _ hk => ⟨hk.2, hk.1⟩)), (rM HO_570001.out (fun _ hk => ⟨hk.2, ⟨hk.1.1, hk.1.2⟩⟩)), (rM HO_585000.out (fun _ hk => ⟨hk.2, hk.1⟩)), (rM HO_585001.out (fun _ hk => ⟨hk.2, ⟨hk.1.1, hk.1.2⟩⟩)), (kB BK569.out), (kB BK584.out), (kB BK604.out), GW604.out, GE604.out, NB569_604.out, NB604_569.out, NB584_604.out, NB604_584.out, bS⟩)
        rintro ⟨v599, v602, gb604⟩ w84 ⟨hS_, h0_, h1_, h2_, h3_, h4_, h5_, h6_, h7_, h8_, h9_, h10_, h11_, h12_, h13_, h14_, h15_, h16_⟩
        have n0_ : Aside0 (Kd.R Kd.string 9 w84 w.heap.size (fun k_ => some k_ ≠ (.slice Ao12 t562.length co12 : Value).ownBlock ∧ some k_ ≠ (.slice Ao21 t578.length co21 : Value).ownBlock) v599 t598) := ⟨h0_⟩
        have n1_ : Aside0 (Kd.R (Kd.int .i64) 3 w84 w.heap.size (fun k_ => some k_ ≠ (.slice Ao32 t575.length co32 : Value).ownBlock ∧ some k_ ≠ (.slice Ao14 t565.length co14 : Value).ownBlock ∧ some k_ ≠ (.slice Ao24 t581.length co24 : Value).ownBlock) v602 t601) := ⟨h1_⟩
        have n2_ : Aside0 (Kd.R (Kd.int .i64) 3 w84 w.heap.size (fun k_ => some k_ ≠ (v602 : Value).ownBlock ∧ some k_ ≠ (.slice Ao14 t565.length co14 : Value).ownBlock ∧ some k_ ≠ (.slice Ao24 t581.length co24 : Value).ownBlock) (.slice Ao32 t575.length co32) t575) := ⟨h2_⟩
        have n3_ : Aside0 (Kd.R Kd.string 9 w84 w.heap.size (fun k_ => some k_ ≠ (v599 : Value).ownBlock ∧ some k_ ≠ (.slice Ao21 t578.length co21 : Value).ownBlock) (.slice Ao12 t562.length co12) t562) := ⟨h3_⟩
        have n4_ : Aside0 (Kd.R (Kd.int .i64) 3 w84 w.heap.size (fun k_ => some k_ ≠ (v602 : Value).ownBlock ∧ some k_ ≠ (.slice Ao32 t575.length co32 : Value).ownBlock ∧ some k_ ≠ (.slice Ao24 t581.length co24 : Value).ownBlock) (.slice Ao14 t565.length co14) t565) := ⟨h4_⟩
        have n5_ : Aside0 (Kd.R Kd.string 9 w84 w.heap.size (fun k_ => some k_ ≠ (v599 : Value).ownBlock ∧ some k_ ≠ (.slice Ao12 t562.length co12 : Value).ownBlock) (.slice Ao21 t578.length co21) t578) := ⟨h5_⟩
        have n6_ : Aside0 (Kd.R (Kd.int .i64) 3 w84 w.heap.size (fun k_ => some k_ ≠ (v602 : Value).ownBlock ∧ some k_ ≠ (.slice Ao32 t575.length co32 : Value).ownBlock ∧ some k_ ≠ (.slice Ao14 t565.length co14 : Value).ownBlock) (.slice Ao24 t581.length co24) t581) := ⟨h6_⟩
        have n7_ : Aside0 (w84.heap[gb569]? = some (.cells #[.slice Ao12 t562.length co12, .slice Ao14 t565.length co14] 27 (0, 0))) := ⟨h7_⟩
        have n8_ : Aside0 (w84.heap[gb584]? = some (.cells #[.slice Ao21 t578.length co21, .slice Ao24 t581.length co24] 27 (0, 0))) := ⟨h8_⟩
        have n9_ : Aside0 (w84.heap[gb604]? = some (.cells #[.slice none 0 0, .slice none 0 0] 27 (0, 0))) := ⟨h9_⟩
        have n10_ : Aside0 (w.heap.size ≤ gb604) := ⟨h10_⟩
        have n11_ : Aside0 (w.heap.size ≤ gb604) := ⟨h11_⟩
        have n12_ : Aside0 (gb569 ≠ gb604) := ⟨h12_⟩
        have n13_ : Aside0 (gb604 ≠ gb569) := ⟨h13_⟩
        have n14_ : Aside0 (gb584 ≠ gb604) := ⟨h14_⟩
        have n15_ : Aside0 (gb604 ≠ gb584) := ⟨h15_⟩
        have n16_ : Aside0 (Below w.heap.size w w84) := ⟨h16_⟩
        clear HO_5 HO_570000 HO_570001 HO_585000 HO_585001 BK569 BK584 HB h0_ h1_ h2_ h3_ h4_ h5_ h6_ h7_ h8_ h9_ h10_ h11_ h12_ h13_ h14_ h15_ h16_
        have HO600 := n0_
        have HO603 := n1_
        have HO_5 := n2_
        have HO_570000 := n3_
        have HO_570001 := n4_
        have HO_585000 := n5_
        have HO_585001 := n6_
        have BK569 := n7_
        have BK584 := n8_
        have BK604 := n9_
        have GW604 := n10_
        have GE604 := n11_
        have NB569_604 := n12_
        have NB604_569 := n13_
        have NB584_604 := n14_
        have NB604_584 := n15_
        have HB := n16_
        clear n0_ n1_ n2_ n3_ n4_ n5_ n6_ n7_ n8_ n9_ n10_ n11_ n12_ n13_ n14_ n15_ n16_
        have hHeld : w84.cell? ⟨gb569, 0, none⟩ = some (.slice Ao12 t562.length co12) ∧ w84.cell? ⟨gb569, 1, none⟩ = some (.slice Ao14 t565.length co14) := hS_
        obtain ⟨Ao85, co85, eo85⟩ := Kd.R_slice HO600.out
        (first | subst eo85 | (injection eo85 with f1_ f2_ f3_; have f4_ := f1_.symm; have f5_ := f3_.symm; clear f1_ f2_ f3_; subst f4_; subst f5_))
        obtain ⟨Ao87, co87, eo87⟩ := Kd.R_slice HO603.out
        (first | subst eo87 | (injection eo87 with f1_ f2_ f3_; have f4_ := f1_.symm; have f5_ := f3_.symm; clear f1_ f2_ f3_; subst f4_; subst f5_))
        refine norm_ (a' := ?_) ?_ ?_
        rotate_left
        ·simp only [putAll, Act.put, List.setIfInBounds_toArray, List.set_cons_zero, List.set_cons_succ]
         rfl
        refine one_ (i := 7) (N := none) (mk 8 255) rfl rfl (one_of HT_.out (by kernel_rfl)) (by decide) (fun K hK => ?_)
        have hs86 : w84.cell? ⟨gb604, 0, none⟩ = some (.slice none 0 0) := (blk_cell BK604.out 0).trans rfl
        have hfs86 := blk_frozen BK604.out 0
        have hns86_0 := NB569_604.out
        have hns86_1 := NB584_604.out
        have hms86_0 := NB604_569.out
        have hms86_1 := NB604_584.out
        have hs88 : w84.cell? ⟨gb604, 1, none⟩ = some (.slice none 0 0) := (blk_cell BK604.out 1).trans rfl
        have hfs88 := blk_frozen BK604.out 1
        have hns88_0 := NB569_604.out
        have hns88_1 := NB584_604.out
        have hms88_0 := NB604_569.out
        have hms88_1 := NB604_584.out
        refine skip_ (w1 := ?_) (by rfl) rfl ?_ ?_
        rotate_left
        ·go_simp
         rfl
        refine hK.out _ _ ⟨((cell_far (p := ⟨gb604, _, none⟩) NB569_604.out _).trans (((cell_far (p := ⟨gb604, _, none⟩) NB569_604.out _).trans (hHeld.1)))), ((cell_far (p := ⟨gb604, _, none⟩) NB569_604.out _).trans (((cell_far (p := ⟨gb604, _, none⟩) NB569_604.out _).trans (hHeld.2))))⟩ (fun hHeld => ?_)
        clear hK K
        refine done_ (done_of HT_.out (by kernel_rfl)) ?_
        have hnb89 := NB604_569.out
        have hnc89 := NB569_604.out
        have hnb90 := NB604_584.out
        have hnc90 := NB584_604.out
        have hcz91_0 : w84.cell? ⟨gb604, 0, none⟩ = some (.slice none 0 0) := (blk_cell BK604.out 0).trans rfl
        have hcz91_1 : w84.cell? ⟨gb604, 1, none⟩ = some (.slice none 0 0) := (blk_cell BK604.out 1).trans rfl
        have hfz91_0 := blk_frozen BK604.out 0
        have hfz91_1 := blk_frozen BK604.out 1
        try go_wp2_with (first | (refine gL 21 (some 102) Try.func21 #[.agg #[.slice Ao85 t598.length co85, .slice Ao87 t601.length co87]] ?_; (with_reducible refine (impl_Reach.calls kj39 _ _ t598 _ _ t601 t605 _ ?side1 ?side2 ?side3 ?side4 A80.out).mono ?_); (case side1 => refine (Kd.R_reads' (e := 9) (base := w.heap.size) (ok := fun k_ => (some k_ ≠ (.slice Ao12 t562.length co12 : Value).ownBlock ∧ some k_ ≠ (.slice Ao21 t578.length co21 : Value).ownBlock)) (n := t598.length) (c := co85) ?_).2.2; exact (rF2 HO600.out BK604.out)); (case side2 => exact (Kd.R_reads' HO600.out).2.1); (case side3 => refine (Kd.R_reads' (e := 3) (base := w.heap.size) (ok := fun k_ => (some k_ ≠ (.slice Ao32 t575.length co32 : Value).ownBlock ∧ (some k_ ≠ (.slice Ao14 t565.length co14 : Value).ownBlock ∧ some k_ ≠ (.slice Ao24 t581.length co24 : Value).ownBlock))) (n := t601.length) (c := co87) ?_).2.2; exact (rF2 HO603.out BK604.out)); (case side4 => exact (Kd.R_reads' HO603.out).2.1); rintro e w92 ⟨v606, rfl, ho0, hb⟩; refine ⟨_, rfl, ?_⟩; have n_ := aT (Kd.R_elder' (rF2 HO_5.out BK604.out) (Kd.R_base ho0) hb) (aT (Kd.R_below (rF2 HO_570000.out BK604.out) hb) (aT (Kd.R_elder' (rF2 HO_570001.out BK604.out) (Kd.R_base ho0) hb) (aT (Kd.R_below (rF2 HO_585000.out BK604.out) hb) (aT (Kd.R_elder' (rF2 HO_585001.out BK604.out) (Kd.R_base ho0) hb) (aT (Kd.R_below (rF2 HO600.out BK604.out) hb) (aT (Kd.R_elder' (rF2 HO603.out BK604.out) (Kd.R_base ho0) hb) (aT (Kd.R_lower (Kd.R_new' (Kd.R_new' (Kd.R_new' (Kd.R_new' ho0 (Kd.R_lt (rF2 HO_5.out BK604.out))) (Kd.R_lt (rF2 HO_570001.out BK604.out))) (Kd.R_lt (rF2 HO_585001.out BK604.out))) (Kd.R_lt (rF2 HO603.out BK604.out))) (below_size bS)) (aT (blk_below (g := gb569) (o := .cells #[.slice Ao12 t562.length co12, .slice Ao14 t565.length co14] 27 (0, 0)) (kF2 NB569_604.out BK569.out) hb) (aT (blk_below (g := gb584) (o := .cells #[.slice Ao21 t578.length co21, .slice Ao24 t581.length co24] 27 (0, 0)) (kF2 NB584_604.out BK584.out) hb) (aT (blk_below (g := gb604) (o := .cells #[.slice Ao85 t598.length co85, .slice Ao87 t601.length co87] 27 (0, 0)) (by (with_reducible repeat (first | refine blk_drewN ?_ _ | refine blk_drew ?_ | refine blk_alloc ?_ _)); refine blk_put (cs := #[.slice Ao85 t598.length co85, .slice none 0 0]) ?_ 1 _ rfl; (with_reducible repeat (first | refine blk_drewN ?_ _ | refine blk_drew ?_ | refine blk_alloc ?_ _)); refine blk_put (cs := #[.slice none 0 0, .slice none 0 0]) ?_ 0 _ rfl; (with_reducible repeat (first | refine blk_drewN ?_ _ | refine blk_drew ?_ | refine blk_alloc ?_ _)); exact BK604.out) hb) (aM (below_step bS hb)))))))))))); clear HO_5 HO_570000 HO_570001 HO_585000 HO_585001 HO600 HO603 BK569 BK584 BK604 HB; obtain ⟨HO_5, HO_570000, HO_570001, HO_585000, HO_585001, HO600, HO603, HO607, BK569, BK584, BK604, HB⟩ := n_; (try clear hb); (try clear ho0)))
        go_loopg [13] kj39 (fun kq v13 w' => ∃ (x13_4 : Int), v13 = .int .i64 x13_4 ∧ Aside0 (laws_FnKnown.l2 kq t575 t605 x13_4 t578 t581 t598 t601 = some r) ∧ Aside0 (kq ≤ kj39) ∧ Aside0 (Kd.R (Kd.int .i64) 3 w' w.heap.size (fun k_ => some k_ ≠ (v606 : Value).ownBlock ∧ some k_ ≠ ((.slice Ao14 t565.length co14) : Value).ownBlock ∧ some k_ ≠ ((.slice Ao24 t581.length co24) : Value).ownBlock ∧ some k_ ≠ ((.slice Ao87 t601.length co87) : Value).ownBlock) (.slice Ao32 t575.length co32) t575) ∧ Aside0 (Kd.R (Kd.int .i64) 3 w' w.heap.size (fun k_ => some k_ ≠ ((.slice Ao32 t575.length co32) : Value).ownBlock ∧ some k_ ≠ ((.slice Ao14 t565.length co14) : Value).ownBlock ∧ some k_ ≠ ((.slice Ao24 t581.length co24) : Value).ownBlock ∧ some k_ ≠ ((.slice Ao87 t601.length co87) : Value).ownBlock) v606 t605) ∧ Aside0 (Kd.R Kd.string 9 w' w.heap.size (fun k_ => some k_ ≠ ((.slice Ao21 t578.length co21) : Value).ownBlock ∧ some k_ ≠ ((.slice Ao85 t598.length co85) : Value).ownBlock) (.slice Ao12 t562.length co12) t562) ∧ Aside0 (Kd.R (Kd.int .i64) 3 w' w.heap.size (fun k_ => some k_ ≠ ((.slice Ao32 t575.length co32) : Value).ownBlock ∧ some k_ ≠ (v606 : Value).ownBlock ∧ some k_ ≠ ((.slice Ao24 t581.length co24) : Value).ownBlock ∧ some k_ ≠ ((.slice Ao87 t601.length co87) : Value).ownBlock) (.slice Ao14 t565.length co14) t565) ∧ Aside0 (Kd.R Kd.string 9 w' w.heap.size (fun k_ => some k_ ≠ ((.slice Ao12 t562.length co12) : Value).ownBlock ∧ some k_ ≠ ((.slice Ao85 t598.length co85) : Value).ownBlock) (.slice Ao21 t578.length co21) t578) ∧ Aside0 (Kd.R (Kd.int .i64) 3 w' w.heap.size (fun k_ => some k_ ≠ ((.slice Ao32 t575.length co32) : Value).ownBlock ∧ some k_ ≠ (v606 : Value).ownBlock ∧ some k_ ≠ ((.slice Ao14 t565.length co14) : Value).ownBlock ∧ some k_ ≠ ((.slice Ao87 t601.length co87) : Value).ownBlock) (.slice Ao24 t581.length co24) t581) ∧ Aside0 (Kd.R Kd.string 9 w' w.heap.size (fun k_ => some k_ ≠ ((.slice Ao12 t562.length co12) : Value).ownBlock ∧ some k_ ≠ ((.slice Ao21 t578.length co21) : Value).ownBlock) (.slice Ao85 t598.length co85) t598) ∧ Aside0 (Kd.R (Kd.int .i64) 3 w' w.heap.size (fun k_ => some k_ ≠ ((.slice Ao32 t575.length co32) : Value).ownBlock ∧ some k_ ≠ (v606 : Value).ownBlock ∧ some k_ ≠ ((.slice Ao14 t565.length co14) : Value).ownBlock ∧ some k_ ≠ ((.slice Ao24 t581.length co24) : Value).ownBlock) (.slice Ao87 t601.length co87) t601) ∧ Aside0 (w'.heap[gb569]? = some (.cells #[(.slice Ao12 t562.length co12), (.slice Ao14 t565.length co14)] 27 (0, 0))) ∧ Aside0 (w'.heap[gb584]? = some (.cells #[(.slice Ao21 t578.length co21), (.slice Ao24 t581.length co24)] 27 (0, 0))) ∧ Aside0 (w'.heap[gb604]? = some (.cells #[(.slice Ao85 t598.length co85), (.slice Ao87 t601.length co87)] 27 (0, 0))) ∧ Aside0 (Below w.heap.size w w'))
        case atStart => exact ⟨(0), eX, H', ⟨Nat.le_refl _⟩, ⟨(rM HO_5.out (fun _ hk => ⟨hk.2, ⟨hk.1.2.1, ⟨hk.1.2.2, hk.1.1⟩⟩⟩))⟩, ⟨(rM HO607.out (fun _ hk => ⟨hk.1.1.1.2, ⟨hk.1.1.2, ⟨hk.1.2, hk.2⟩⟩⟩))⟩, ⟨(rM HO_570000.out (fun _ hk => ⟨hk.2, hk.1⟩))⟩, ⟨(rM HO_570001.out (fun _ hk => ⟨hk.1.2.1, ⟨hk.2, ⟨hk.1.2.2, hk.1.1⟩⟩⟩))⟩, ⟨(rM HO_585000.out (fun _ hk => ⟨hk.2, hk.1⟩))⟩, ⟨(rM HO_585001.out (fun _ hk => ⟨hk.1.2.1, ⟨hk.2, ⟨hk.1.2.2, hk.1.1⟩⟩⟩))⟩, ⟨(kR HO600.out)⟩, ⟨(rM HO603.out (fun _ hk => ⟨hk.1.1, ⟨hk.2, ⟨hk.1.2.1, hk.1.2.2⟩⟩⟩))⟩, ⟨(kB BK569.out)⟩, ⟨(kB BK584.out)⟩, ⟨(kB BK604.out)⟩, ⟨bS⟩⟩
        case round =>
         clear H'
         try clear c26
         try clear c77
         try clear hcz91_0
         try clear hcz91_1
         try clear hfz13_0
         try clear hfz13_1
         try clear hfz16_0
         try clear hfz16_1
         try clear hfz18_0
         try clear hfz18_1
         try clear hfz23_0
         try clear hfz23_1
         try clear hfz42_0
         try clear hfz42_1
         try clear hfz91_0
         try clear hfz91_1
         obtain ⟨x13_4, rfl, HA, HK4, HO_5, HO_12, HO_570000, HO_570001, HO_585000, HO_585001, HO_605000, HO_605001, BK569, BK584, BK604, HB⟩ := hrel
         cases gk with
         | zero => exact absurd HA.out (by simp [laws_FnKnown.l2])
         | succ k4 =>
          have H := HA.out
          clear HA
          simp only [laws_FnKnown.l2] at H
          by_cases c93 : x13_4 < (t575.length : Int)
          ·rw [if_pos c93] at H
           have c93b0 := decide_eq_true c93
           clear c93
           by_cases c94 : 0 ≤ x13_4
           ·rw [if_pos c94] at H
            have c94b0 := decide_eq_true c94
            clear c94
            obtain ⟨t609, A95, H⟩ := oB H
            by_cases c96 : t609 = true
            ·subst c96
             rw [if_pos rfl] at H
             have H' := Aside0.mk H
             clear H
             have p608 : 0 ≤ (x13_4 : Int) := of_decide_eq_true aA
             have q608 : x13_4 < (t575.length : Int) := of_decide_eq_true aA
             obtain ⟨ad608, e608, hx608_0⟩ := Kd.at_int (Kd.R_reads' HO_5.out).2.2 x13_4 p608 q608
             cases e608
             replace p608 := eq_true p608
             replace q608 := eq_true q608
             obtain ⟨Ao97, co97, eo97⟩ := Kd.R_slice HO_12.out
             subst eo97
             go_wp2_with (first | (refine gL 17 (some 114) Try.func17 #[.slice Ao97 t605.length co97, .int .i64 (rd t575 x13_4)] ?_; (with_reducible refine (laws_has.calls k4 _ _ t605 (rd t575 x13_4) true _ ?side1 ?side2 A95.out).mono ?_); (case side1 => exact cA ((Kd.R_reads' HO_12.out).2.2)); (case side2 => exact (Kd.R_reads' HO_12.out).2.1); rintro e w' ⟨rfl, ⟨nd, rfl⟩⟩; refine ⟨_, rfl, ?_⟩))
             go_roundg k4
             case measure => have := HK1.out; have := HK2.out; have := HJ39.out; have := HK4.out; omega
             case rel => exact ⟨(wrap64 (x13_4 + 1)), eX, H', ⟨(by have := HK1.out; have := HK2.out; have := HJ39.out; have := HK4.out; omega)⟩, ⟨(kR HO_5.out)⟩, ⟨(kR HO_12.out)⟩, ⟨(kR HO_570000.out)⟩, ⟨(kR HO_570001.out)⟩, ⟨(kR HO_585000.out)⟩, ⟨(kR HO_585001.out)⟩, ⟨(kR HO_605000.out)⟩, ⟨(kR HO_605001.out)⟩, ⟨(kB BK569.out)⟩, ⟨(kB BK584.out)⟩, ⟨(kB BK604.out)⟩, ⟨bS⟩⟩
            replace c96 := Bool.eq_false_iff.mpr c96
            subst c96
            rw [if_neg nF] at H
            rw [hr_true.out] at H
            exact absurd H (by simp)
           rw [if_neg c94] at H
           exact absurd H (by simp)
          rw [if_neg c93] at H
          have c93b0 := decide_eq_false c93
          clear c93
          obtain ⟨t610, A98, H⟩ := oB H
          by_cases c99 : t610 = true
          ·subst c99
           rw [if_pos rfl] at H
           obtain ⟨t611, A100, H⟩ := oB H
           obtain rfl := Option.some.inj H
           have hnb101 := NB584_569.out
           have hnc101 := NB569_584.out
           have hnb102 := NB584_604.out
           have hnc102 := NB604_584.out
           have hcz103_0 : wr.cell? ⟨gb584, 0, none⟩ = some (.slice Ao21 t578.length co21) := (blk_cell BK584.out 0).trans rfl
           have hcz103_1 : wr.cell? ⟨gb584, 1, none⟩ = some (.slice Ao24 t581.length co24) := (blk_cell BK584.out 1).trans rfl
           have hfz103_0 := blk_frozen BK584.out 0
           have hfz103_1 := blk_frozen BK584.out 1
           go_wp2_with (first | (refine gL 11 (some 117) Try.func11 #[.agg #[.slice Ao21 t578.length co21, .slice Ao24 t581.length co24]] ?_; (with_reducible refine (spec_KnownOk.calls k4 _ _ t578 _ _ t581 true _ ?side1 ?side2 ?side3 ?side4 A98.out).mono ?_); (case side1 => exact cA ((Kd.R_reads' HO_585000.out).2.2)); (case side2 => exact (Kd.R_reads' HO_585000.out).2.1); (case side3 => exact cA ((Kd.R_reads' HO_585001.out).2.2)); (case side4 => exact (Kd.R_reads' HO_585001.out).2.1); rintro e w104 ⟨rfl, hb⟩; refine ⟨_, rfl, ?_⟩; have n_ := aT (Kd.R_below (kR HO_5.out) hb) (aT (Kd.R_below (kR HO_12.out) hb) (aT (Kd.R_below (kR HO_570000.out) hb) (aT (Kd.R_below (kR HO_570001.out) hb) (aT (Kd.R_below (kR HO_585000.out) hb) (aT (Kd.R_below (kR HO_585001.out) hb) (aT (Kd.R_below (kR HO_605000.out) hb) (aT (Kd.R_below (kR HO_605001.out) hb) (aT (blk_below (kB BK569.out) hb) (aT (blk_below (kB BK584.out) hb) (aT (blk_below (kB BK604.out) hb) (aM (below_step bS hb)))))))))))); clear HO_5 HO_12 HO_570000 HO_570001 HO_585000 HO_585001 HO_605000 HO_605001 BK569 BK584 BK604 HB; obtain ⟨HO_5, HO_12, HO_570000, HO_570001, HO_585000, HO_585001, HO_605000, HO_605001, BK569, BK584, BK604, HB⟩ := n_; (try clear hb); have hnb105 := NB604_569.out; have hnc105 := NB569_604.out; have hcz106_0 : w104.cell? ⟨gb604, 0, none⟩ = some (.slice Ao85 t598.length co85) := (blk_cell BK604.out 0).trans rfl; have hcz106_1 : w104.cell? ⟨gb604, 1, none⟩ = some (.slice Ao87 t601.length co87) := (blk_cell BK604.out 1).trans rfl; have hfz106_0 := blk_frozen BK604.out 0; have hfz106_1 := blk_frozen BK604.out 1) | (go_at_call 11; (with_reducible refine (spec_KnownOk.calls k4 _ _ t598 _ _ t601 t611 _ ?side1 ?side2 ?side3 ?side4 A100.out).mono ?_); (case side1 => exact cA ((Kd.R_reads' HO_605000.out).2.2)); (case side2 => exact (Kd.R_reads' HO_605000.out).2.1); (case side3 => exact cA ((Kd.R_reads' HO_605001.out).2.2)); (case side4 => exact (Kd.R_reads' HO_605001.out).2.1); rintro e w107 ⟨rfl, hb⟩; have n_ := aT (Kd.R_below (kR HO_5.out) hb) (aT (Kd.R_below (kR HO_12.out) hb) (aT (Kd.R_below (kR HO_570000.out) hb) (aT (Kd.R_below (kR HO_570001.out) hb) (aT (Kd.R_below (kR HO_585000.out) hb) (aT (Kd.R_below (kR HO_585001.out) hb) (aT (Kd.R_below (kR HO_605000.out) hb) (aT (Kd.R_below (kR HO_605001.out) hb) (aT (blk_below (kB BK569.out) hb) (aT (blk_below (kB BK584.out) hb) (aT (blk_below (kB BK604.out) hb) (aM (below_step bS hb)))))))))))); clear HO_5 HO_12 HO_570000 HO_570001 HO_585000 HO_585001 HO_605000 HO_605001 BK569 BK584 BK604 HB; obtain ⟨HO_5, HO_12, HO_570000, HO_570001, HO_585000, HO_585001, HO_605000, HO_605001, BK569, BK584, BK604, HB⟩ := n_; (try clear hb)))
           go_ret
           exact ⟨eE, bS⟩
          replace c99 := Bool.eq_false_iff.mpr c99
          subst c99
          rw [if_neg nF] at H
          rw [hr_true.out] at H
          exact absurd H (by simp)
 replace c6 := Bool.eq_false_iff.mpr c6
 subst c6
 rw [if_neg nF] at H
 obtain ⟨t571, A108, H⟩ := oB H
 by_cases c109 : t571 = true
 ·subst c109
  rw [if_pos rfl] at H
  rw [hr_true.out] at H
  exact absurd H (by simp)
 replace c109 := Bool.eq_false_iff.mpr c109
 subst c109
 rw [if_neg nF] at H
 obtain ⟨t572, A110, H⟩ := oB H
 obtain rfl := Option.some.inj H
 go_enter Try.func4, Try.ntmps4
 go_wp2_with (first | (refine gL 9 (some 15) Try.func9 #[.slice A0 l0.length c0] ?_; (with_reducible refine (laws_big.calls _ _ l0 false _ ?side1 ?side2 A2.out).mono ?_); (case side1 => exact cA HR0.out); (case side2 => exact HC0.out); rintro e w' ⟨rfl, ⟨nd, rfl⟩⟩; refine ⟨_, rfl, ?_⟩) | (refine gL 10 (some 18) Try.func10 #[.slice A0 l0.length c0] ?_; (with_reducible refine (spec_DrawBuild.calls k _ _ l0 t562 t565 t568 _ ?side1 ?side2 A4.out).mono ?_); (case side1 => exact cA HR0.out); (case side2 => exact HC0.out); rintro e w111 ⟨v563, v566, rfl, ho0, ho1, hb⟩; refine ⟨_, rfl, ?_⟩; have n_ := aT (Kd.R_lower ho0 (below_size bH)) (aT (Kd.R_lower ho1 (below_size bH)) (aM (below_step bH hb))); clear HB; obtain ⟨HO564, HO567, HB⟩ := n_; (try clear hb); (try clear ho0); (try clear ho1)) | ((with_reducible refine gate_dst (N := 3) rfl ?_); (try (refine gate_guard (by rfl) ?_; dsimp only)); refine box_event ?hg (N := 3) ?hd (cs := #[.slice none 0 0, .slice none 0 0]) (t := 27) ?hr ?_; (case hd => rfl); (case hg => rfl); (case hr => first | (go_simp; done) | (go_simp; rfl)); intro gb569 hg w112 hbox hb; have n_ := aT (Kd.R_below (kR HO564.out) hb) (aT (Kd.R_below (kR HO567.out) hb) (aT (below_step bH hb) (aT (hbox) (aT ((bZ hg : w.heap.size ≤ gb569)) (aM ((bZ hg : w.heap.size ≤ gb569))))))); clear HO564 HO567 HB; obtain ⟨HO564, HO567, HB, BK569, GW569, GE569⟩ := n_; clear hb hbox hg; obtain ⟨Ao113, co113, eo113⟩ := Kd.R_slice HO564.out; subst eo113; have hcz114_0 : w112.cell? ⟨gb569, 0, none⟩ = some (.slice none 0 0) := (blk_cell BK569.out 0).trans rfl; have hcz114_1 : w112.cell? ⟨gb569, 1, none⟩ = some (.slice none 0 0) := (blk_cell BK569.out 1).trans rfl; have hfz114_0 := blk_frozen BK569.out 0; have hfz114_1 := blk_frozen BK569.out 1; obtain ⟨Ao115, co115, eo115⟩ := Kd.R_slice HO567.out; subst eo115) | (refine gL 11 (some 22) Try.func11 #[.agg #[.slice Ao113 t562.length co113, .slice Ao115 t565.length co115]] ?_; (with_reducible refine (spec_KnownOk.calls k _ _ t562 _ _ t565 false _ ?side1 ?side2 ?side3 ?side4 A5.out).mono ?_); (case side1 => refine (Kd.R_reads' (e := 9) (base := w.heap.size) (ok := fun k_ => True) (n := t562.length) (c := co113) ?_).2.2; exact (rF2 HO564.out BK569.out)); (case side2 => exact (Kd.R_reads' HO564.out).2.1); (case side3 => refine (Kd.R_reads' (e := 3) (base := w.heap.size) (ok := fun k_ => True) (n := t565.length) (c := co115) ?_).2.2; exact (rF2 HO567.out BK569.out)); (case side4 => exact (Kd.R_reads' HO567.out).2.1); rintro e w116 ⟨rfl, hb⟩; refine ⟨_, rfl, ?_⟩; have n_ := aT (Kd.R_below (rF2 HO564.out BK569.out) hb) (aT (Kd.R_below (rF2 HO567.out BK569.out) hb) (aT (blk_below (g := gb569) (o := .cells #[.slice Ao113 t562.length co113, .slice Ao115 t565.length co115] 27 (0, 0)) (by (with_reducible repeat (first | refine blk_drewN ?_ _ | refine blk_drew ?_ | refine blk_alloc ?_ _)); refine blk_put (cs := #[.slice Ao113 t562.length co113, .slice none 0 0]) ?_ 1 _ rfl; (with_reducible repeat (first | refine blk_drewN ?_ _ | refine blk_drew ?_ | refine blk_alloc ?_ _)); refine blk_put (cs := #[.slice none 0 0, .slice none 0 0]) ?_ 0 _ rfl; (with_reducible repeat (first | refine blk_drewN ?_ _ | refine blk_drew ?_ | refine blk_alloc ?_ _)); exact BK569.out) hb) (aM (below_step bS hb)))); clear HO564 HO567 BK569 HB; obtain ⟨HO564, HO567, BK569, HB⟩ := n_; (try clear hb); have hcz117_0 : w116.cell? ⟨gb569, 0, none⟩ = some (.slice Ao113 t562.length co113) := (blk_cell BK569.out 0).trans rfl; have hcz117_1 : w116.cell? ⟨gb569, 1, none⟩ = some (.slice Ao115 t565.length co115) := (blk_cell BK569.out 1).trans rfl; have hfz117_0 := blk_frozen BK569.out 0; have hfz117_1 := blk_frozen BK569.out 1) | (refine gL 13 (some 26) Try.func13 #[.agg #[.slice Ao113 t562.length co113, .slice Ao115 t565.length co115], .string t568] ?_; (with_reducible refine (impl_Build.calls k _ _ t562 _ _ t565 t568 false _ ?side1 ?side2 ?side3 ?side4 A108.out).mono ?_); (case side1 => exact cA ((Kd.R_reads' HO564.out).2.2)); (case side2 => exact (Kd.R_reads' HO564.out).2.1); (case side3 => exact cA ((Kd.R_reads' HO567.out).2.2)); (case side4 => exact (Kd.R_reads' HO567.out).2.1); rintro e w118 ⟨rfl, hb⟩; refine ⟨_, rfl, ?_⟩; have n_ := aT (Kd.R_below (kR HO564.out) hb) (aT (Kd.R_below (kR HO567.out) hb) (aT (blk_below (kB BK569.out) hb) (aM (below_step bS hb)))); clear HO564 HO567 BK569 HB; obtain ⟨HO564, HO567, BK569, HB⟩ := n_; (try clear hb); have hcz119_0 : w118.cell? ⟨gb569, 0, none⟩ = some (.slice Ao113 t562.length co113) := (blk_cell BK569.out 0).trans rfl; have hcz119_1 : w118.cell? ⟨gb569, 1, none⟩ = some (.slice Ao115 t565.length co115) := (blk_cell BK569.out 1).trans rfl; have hfz119_0 := blk_frozen BK569.out 0; have hfz119_1 := blk_frozen BK569.out 1) | (go_at_call 21; (with_reducible refine (impl_Reach.calls k _ _ t562 _ _ t565 t572 _ ?side1 ?side2 ?side3 ?side4 A110.out).mono ?_); (case side1 => exact cA ((Kd.R_reads' HO564.out).2.2)); (case side2 => exact (Kd.R_reads' HO564.out).2.1); (case side3 => exact cA ((Kd.R_reads' HO567.out).2.2)); (case side4 => exact (Kd.R_reads' HO567.out).2.1); rintro e w120 ⟨v573, rfl, ho0, hb⟩; have n_ := aT (Kd.R_below (kR HO564.out) hb) (aT (Kd.R_elder' (kR HO567.out) (Kd.R_base ho0) hb) (aT (Kd.R_lower (Kd.R_new' ho0 (Kd.R_lt (kR HO567.out))) (below_size bS)) (aT (blk_below (kB BK569.out) hb) (aM (below_step bS hb))))); clear HO564 HO567 BK569 HB; obtain ⟨HO564, HO567, HO574, BK569, HB⟩ := n_; (try clear hb); (try clear ho0); obtain ⟨Ao121, co121, eo121⟩ := Kd.R_slice HO574.out; subst eo121))
 go_ret
 exact ⟨eE, bS⟩

/-- THE ONE PURE STATEMENT of laws_FnKnown: yours. -/
def laws_FnKnown.Pure : Prop := ∀ (l0 : List Int), l0.length ≤ maxLen → l0.length * 1 ≤ 140737488351232 → (∀ x ∈ l0, (Lit.int .u8 x).wf = true) → ∃ k, laws_FnKnown.f k l0 = some true
theorem laws_FnKnown.walk (P : laws_FnKnown.Pure) (a0 : Option Addr) (len0 cap0 : Nat) (z0 : List Int) (w : World) (w0 : (a0 = none ∧ len0 = 0 ∧ cap0 = 0 ∧ z0 = []) ∨ ∃ x, a0 = some x ∧ len0 ≤ cap0 ∧ cap0 ≤ maxLen ∧ z0.length = cap0 ∧ (∀ i, i < z0.length → w.cell? (x.add i) = some (.int .u8 (z0.getD i 0))) ∧ ∀ n ∈ z0, (Lit.int .u8 n).wf = true) (y0 : len0 * 1 ≤ 140737488351232) :
  Calls Try.prog 4 #[.slice a0 len0 cap0] w fun e w' => e = .returned (.bool true) ∧ Below w.heap.size w w' := by
 obtain ⟨l0, rfl, hr0, hm0, hw0, hc0⟩ := ReadsInt.ofRowC w0
 obtain ⟨k, h⟩ := P l0 hm0 y0 hw0
 refine (laws_FnKnown.calls k _ _ l0 true w (Kd.C_of_reads (d := (0 : Int)) (h1 := fun _ => rfl) hr0) hc0 h ⟨rfl⟩).mono ?_
 rintro e w' ⟨rfl, hd⟩
 exact ⟨rfl, hd⟩

end Go.Proofs.Ythlpfghlildllaa.OFnKnown
-- wrapped
-- halved
-- squeezed
-- squeezed2
-- squeezed3
