-- walks of this claim, written by a program of mine
import Derived.Test.YtaldemgfndmmlaaOFnTicketsx0
import Derived.Test.YtaldemgfndmmlaaOFnTicketsx4
import Derived.Test.YtaldemgfndmmlaaOFnTicketsx13
import Derived.Test.YtaldemgfndmmlaaOFnTicketsx14
import Derived.Test.YtaldemgfndmmlaaOFnTicketsx18
namespace Go.Proofs.Ytaldemgfndmmlaa.OFnTickets
open Go.RowKit Go.Proofs.Ytaldemgfndmmlaa.OWord Go.Proofs.YtaldemgfndmmlaaW.PrintWords Go.Proofs.YtaldemgfndmmlaaW.PrintLast Go.Proofs.YtaldemgfndmmlaaW.PrintMore
attribute [local go_sem] max2_int min2_int max_two min_two max_three min_three max_four min_four   -- for this text's walks alone
set_option linter.unusedVariables false
set_option linter.unusedSimpArgs false

/-! ### spec_ShowGrant: function 17 -/
def spec_ShowGrant.f (k : Nat) (a0_0 : Int) (a0_1 : Int) (a0_2 : Int) (a0_3 : Int) (a0_4 : Int) (a0_5 : Int) (a1 : Int) : Option (ByteArray) := (spec_l5GrantOk.f a0_0 a0_1 a0_2 a0_3 a0_4 a0_5).bind fun t731 => (if t731 = true then ((spec_KeyTerm.f k a0_0).bind fun t732 => ((spec_Nums.f k (([a0_1, a0_2] : List Int))).bind fun t736 => ((spec_ShowRest.f k a0_3 a0_4 a0_5).bind fun t737 => ((spec_List.f k (([t732, t736, t737] : List ByteArray))).bind fun t741 => ((spec_Seal.f k a1 t741).bind fun t742 => (some t742)))))) else (some (⟨#[]⟩ : ByteArray)))
def spec_ShowGrant.T3 : Bool × List (List Nat × List Nat) := (true, [([], []), ([], []), ([1], [1]), ([2], [2]), ([], []), ([4], [4]), ([], []), ([6], [6]), ([5, 7], [5, 7]), ([8, 3], [8]), ([], []), ([10], [10]), ([11, 9], [11]), ([3, 9, 12], [3, 9, 12]), ([13, 12], [13]), ([0, 14, 14], [0, 14]), ([15, 15, 0, 1, 2, 3, 4, 5, 6, 7, 8, 9, 10, 11, 12, 13, 14, 15], [15])])
def spec_ShowGrant.B3 : List Nat := [0, 0, 2, 6, 0, 16, 0, 64, 240, 510, 0, 1024, 4094, 8190, 16382, 32767, 65535]
theorem spec_ShowGrant.tab3 : rtab .any (opsOf Try.f17 3) = spec_ShowGrant.T3 := by kernel_rfl
theorem spec_ShowGrant.bits3 : waitsOk spec_ShowGrant.T3.2 spec_ShowGrant.B3 = true := by kernel_rfl
set_option maxHeartbeats 8000000 in
set_option maxRecDepth 100000 in
theorem spec_ShowGrant.calls (k : Nat) (a0_0 : Int) (a0_1 : Int) (a0_2 : Int) (a0_3 : Int) (a0_4 : Int) (a0_5 : Int) (a1 : Int) (r : ByteArray) (w : World) (h : spec_ShowGrant.f k a0_0 a0_1 a0_2 a0_3 a0_4 a0_5 a1 = some r) :
  Calls Try.prog 17 #[.agg #[.int .i64 a0_0, .int .i64 a0_1, .int .i64 a0_2, .int .i64 a0_3, .int .i64 a0_4, .int .i64 a0_5], .int .i64 a1] w fun e w' => e = .returned (.string r) ∧ Below w.heap.size w w' := by
 have hu43 := Try.underlying43
 have hu25 := Try.underlying25
 have HB := Aside0.mk (Below.refl w.heap.size w)
 have H := h
 clear h
 unfold spec_ShowGrant.f at H
 obtain ⟨t731, A3, H⟩ := oB H
 by_cases c4 : t731 = true
 ·subst c4
  rw [if_pos rfl] at H
  obtain ⟨t732, A5, H⟩ := oB H
  obtain ⟨y733, hy733⟩ : ∃ y_ : List Int, y_ = (([a0_1, a0_2] : List Int)) := ⟨_, rfl⟩
  replace H : ((spec_Nums.f k y733).bind fun t736 => ((spec_ShowRest.f k a0_3 a0_4 a0_5).bind fun t737 => ((spec_List.f k (([t732, t736, t737] : List ByteArray))).bind fun t741 => ((spec_Seal.f k a1 t741).bind fun t742 => (some t742))))) = some r := by first | (rw [hy733]; with_reducible exact H) | (have H2_ := (Option.bind_some _ _).symm.trans H; rw [hy733]; with_reducible exact H2_) | (have H2_ := (Option.bind_some _ _).symm.trans H; with_reducible exact H2_) | with_reducible exact H | (rw [hy733]; exact H) | exact H
  have Ny733 := Aside0.mk hy733
  clear hy733
  obtain ⟨t736, A6, H⟩ := oB H
  obtain ⟨t737, A7, H⟩ := oB H
  obtain ⟨y738, hy738⟩ : ∃ y_ : List ByteArray, y_ = (([t732, t736, t737] : List ByteArray)) := ⟨_, rfl⟩
  replace H : ((spec_List.f k y738).bind fun t741 => ((spec_Seal.f k a1 t741).bind fun t742 => (some t742))) = some r := by first | (rw [hy738]; with_reducible exact H) | (have H2_ := (Option.bind_some _ _).symm.trans H; rw [hy738]; with_reducible exact H2_) | (have H2_ := (Option.bind_some _ _).symm.trans H; with_reducible exact H2_) | with_reducible exact H | (rw [hy738]; exact H) | exact H
  have Ny738 := Aside0.mk hy738
  clear hy738
  obtain ⟨t741, A8, H⟩ := oB H
  obtain ⟨t742, A9, H⟩ := oB H
  obtain rfl := Option.some.inj H
  go_enter Try.func17, Try.ntmps17
  try go_wp2_with (first | ((with_reducible refine gD 2 rfl ?_); refine bE #[.int .i64 a0_0, .int .i64 a0_1, .int .i64 a0_2, .int .i64 a0_3, .int .i64 a0_4, .int .i64 a0_5] 43 ?_; intro gb730 hg w10 hbox hb; have n_ := aT (below_step bH hb) (aT (hbox) (aT ((bZ hg : w.heap.size ≤ gb730)) (aM ((bZ hg : w.heap.size ≤ gb730))))); clear HB; obtain ⟨HB, BK730, GW730, GE730⟩ := n_; clear hb hbox hg; obtain ⟨⟨hcz11_0, hcz11_1, hcz11_2, hcz11_3, hcz11_4, hcz11_5⟩, hfz11_0, hfz11_1, hfz11_2, hfz11_3, hfz11_4, hfz11_5⟩ := cF6 BK730) | ((with_reducible refine gC 45 rfl ?_); refine gL (some 6) Try.func45 #[.agg #[.int .i64 a0_0, .int .i64 a0_1, .int .i64 a0_2, .int .i64 a0_3, .int .i64 a0_4, .int .i64 a0_5]] ?_; (with_reducible refine (spec_l5GrantOk.calls a0_0 a0_1 a0_2 a0_3 a0_4 a0_5 true _ A3.out).mono ?_); rintro e w12 ⟨rfl, hb⟩; refine ⟨_, rfl, ?_⟩; have n_ := aT (bB BK730 hb) (aM (below_step bS hb)); clear BK730 HB; obtain ⟨BK730, HB⟩ := n_; (try clear hb)))
  have n_ := aT (blk_drew BK730.out) (aM (below_drew1 HB.out))
  clear BK730 HB
  obtain ⟨BK730, HB⟩ := n_
  refine start_ (n := 17) (S := fun w' => True) (ds := []) _ (by kernel_rfl) rfl rfl trivial (fun hHeld => ?_); refine with_tabW spec_ShowGrant.tab3 spec_ShowGrant.bits3 (fun HT_ HW_ => ?_)
  generalize w12.drew = w13 at BK730 HB hHeld ⊢
  refine pU HT_ 0 (some 8) (mk 17 1) rfl rfl (h := ?_)
  refine pU HT_ 1 (some 9) (mk 17 3) rfl rfl (h := ?_)
  refine pU HT_ 4 (some 12) (mk 17 19) rfl rfl (h := ?_)
  refine pU HT_ 6 (some 14) (mk 17 83) rfl rfl (h := ?_)
  refine pU HT_ 10 (some 18) (mk 17 1107) rfl rfl (h := ?_)
  refine inv_at [2, 3, 5, 7, 8, 9, 11, 12, 13, 14, 15, 16] (fun a0_ b a w' => ∃ (v734 : Value) (v739 : Value), a = putSel a0_ b [(2, 10, .int .i64 a0_0), (3, 11, .string t732), (5, 13, .int .i64 a0_1), (7, 15, .int .i64 a0_2), (8, 16, v734), (9, 17, .string t736), (11, 19, .agg #[.int .i64 a0_3, .int .i64 a0_4, .int .i64 a0_5]), (12, 20, .string t737), (13, 21, v739), (14, 22, .string t741), (15, 23, .string t742), (16, 4, .string t742)] ∧ (w'.heap[gb730]? = some (.cells #[.int .i64 a0_0, .int .i64 a0_1, .int .i64 a0_2, .int .i64 a0_3, .int .i64 a0_4, .int .i64 a0_5] 43 (0, 0))) ∧ (Below w.heap.size w w') ∧ (b 8 = true → Kd.R (Kd.int .i64) 3 w' w.heap.size (fun _ => True) v734 y733) ∧ (b 13 = true → Kd.R Kd.string 9 w' w.heap.size (fun _ => True) v739 y738)) HT_.out HW_.out (by kernel_rfl) (by kernel_rfl) ?_ ?_ ?_
  ·exact ⟨.bool false, .bool false, (by simp only [putSel, Bool.false_eq_true, if_false]), BK730.out, HB.out, fun h_ => absurd h_ (by decide), fun h_ => absurd h_ (by decide)⟩
  ·skip
   clear BK730 HB
   refine steps_cons ?_ ?_
   ·rintro b a w' ⟨v734, v739, ha, Q_BK730, Q_HB, Q_HO735, Q_HO740⟩ hb_ hon hoff
    refine ⟨_, rfl, fun K hK => ?_⟩
    have e9 : a.tmps[9]? = some (.pointer (some ⟨gb730, 0, none⟩)) := by rw [ha]; exact (putSel_off rfl).trans rfl
    replace ha := Aside0.mk ha
    have BK730 := Aside0.mk Q_BK730
    have HB := Aside0.mk Q_HB
    have hc0_ : w'.cell? ⟨gb730, 0, none⟩ = some (.int .i64 a0_0) := (blk_cell BK730.out 0).trans rfl
    have hc1_ : w'.cell? ⟨gb730, 1, none⟩ = some (.int .i64 a0_1) := (blk_cell BK730.out 1).trans rfl
    have hc2_ : w'.cell? ⟨gb730, 2, none⟩ = some (.int .i64 a0_2) := (blk_cell BK730.out 2).trans rfl
    have hc3_ : w'.cell? ⟨gb730, 3, none⟩ = some (.int .i64 a0_3) := (blk_cell BK730.out 3).trans rfl
    have hc4_ : w'.cell? ⟨gb730, 4, none⟩ = some (.int .i64 a0_4) := (blk_cell BK730.out 4).trans rfl
    have hc5_ : w'.cell? ⟨gb730, 5, none⟩ = some (.int .i64 a0_5) := (blk_cell BK730.out 5).trans rfl
    refine value_ (w1 := w') (v := .int .i64 a0_0) (by rfl) rfl ?_ ?_
    ·go_simp
     (try simp only [i64_w])
     try rfl
    refine hK.out _ _ ⟨v734, v739, (by rw [ha.out]; exact putSel_upk 0 hb_ rfl rfl rfl), Q_BK730, Q_HB, Q_HO735, fun h0_ => absurd ((hoff 13 (by kernel_rfl)).symm.trans h0_) (by decide)⟩
   refine steps_cons ?_ ?_
   ·rintro b a w' ⟨v734, v739, ha, Q_BK730, Q_HB, Q_HO735, Q_HO740⟩ hb_ hon hoff
    refine ⟨_, rfl, fun K hK => ?_⟩
    have e10 : a.tmps[10]? = some (.int .i64 a0_0) := by rw [ha]; exact putSel_on (e := (2, 10, .int .i64 a0_0)) 0 rfl rfl (hon 2 (by kernel_rfl)) rfl
    replace ha := Aside0.mk ha
    have BK730 := Aside0.mk Q_BK730
    have HB := Aside0.mk Q_HB
    refine goes_ Try.func38 (by kernel_rfl) rfl #[.int .i64 a0_0] (by rfl) rfl rfl (by first | (simp only [List.map_toArray, List.map_cons, List.map_nil, Act.eval, Array.getD_eq_getD_getElem?, Option.getD_some, e10]; done) | (simp only [List.map_toArray, List.map_cons, List.map_nil, Act.eval, Array.getD_eq_getD_getElem?, Option.getD_some, e10]; rfl)) ?_
    with_reducible refine (spec_KeyTerm.calls k a0_0 t732 _ A5.out).mono ?_
    rintro e w14 ⟨rfl, hb⟩
    refine ⟨_, rfl, ?_⟩
    have n0_ := Aside0.mk (bB BK730 hb)
    have n1_ := Aside0.mk (below_step bS hb)
    have z_HO735 := fun (h0_ : b 8 = true) => (show Kd.R (Kd.int .i64) 3 w14 w.heap.size (fun _ => True) v734 y733 from by first | exact (Kd.R_below (by (with_reducible repeat (first | apply Kd.R_alloc | apply Kd.R_drewN | apply Kd.R_drew)); exact (Q_HO735 h0_)) hb) | exact Kd.R_mono (Kd.R_below (by (with_reducible repeat (first | apply Kd.R_alloc | apply Kd.R_drewN | apply Kd.R_drew)); exact (Q_HO735 h0_)) hb) (fun _ h_ => by first | trivial | exact h_ | exact h_.1))
    clear BK730 HB
    have BK730 := n0_
    have HB := n1_
    clear n0_ n1_
    (try clear hb)
    (try clear hb2)
    (try clear hk)
    (try clear hi)
    refine hK.out _ _ ⟨v734, v739, (by rw [ha.out]; exact putSel_upk 1 hb_ rfl rfl rfl), (kB BK730.out), bS, z_HO735, fun h0_ => absurd ((hoff 13 (by kernel_rfl)).symm.trans h0_) (by decide)⟩
   refine steps_cons ?_ ?_
   ·rintro b a w' ⟨v734, v739, ha, Q_BK730, Q_HB, Q_HO735, Q_HO740⟩ hb_ hon hoff
    refine ⟨_, rfl, fun K hK => ?_⟩
    have e12 : a.tmps[12]? = some (.pointer (some ⟨gb730, 1, none⟩)) := by rw [ha]; exact (putSel_off rfl).trans rfl
    replace ha := Aside0.mk ha
    have BK730 := Aside0.mk Q_BK730
    have HB := Aside0.mk Q_HB
    have hc0_ : w'.cell? ⟨gb730, 0, none⟩ = some (.int .i64 a0_0) := (blk_cell BK730.out 0).trans rfl
    have hc1_ : w'.cell? ⟨gb730, 1, none⟩ = some (.int .i64 a0_1) := (blk_cell BK730.out 1).trans rfl
    have hc2_ : w'.cell? ⟨gb730, 2, none⟩ = some (.int .i64 a0_2) := (blk_cell BK730.out 2).trans rfl
    have hc3_ : w'.cell? ⟨gb730, 3, none⟩ = some (.int .i64 a0_3) := (blk_cell BK730.out 3).trans rfl
    have hc4_ : w'.cell? ⟨gb730, 4, none⟩ = some (.int .i64 a0_4) := (blk_cell BK730.out 4).trans rfl
    have hc5_ : w'.cell? ⟨gb730, 5, none⟩ = some (.int .i64 a0_5) := (blk_cell BK730.out 5).trans rfl
    refine value_ (w1 := w') (v := .int .i64 a0_1) (by rfl) rfl ?_ ?_
    ·go_simp
     (try simp only [i64_w])
     try rfl
    refine hK.out _ _ ⟨v734, v739, (by rw [ha.out]; exact putSel_upk 2 hb_ rfl rfl rfl), Q_BK730, Q_HB, fun h0_ => absurd ((hoff 8 (by kernel_rfl)).symm.trans h0_) (by decide), fun h0_ => absurd ((hoff 13 (by kernel_rfl)).symm.trans h0_) (by decide)⟩
   refine steps_cons ?_ ?_
   ·rintro b a w' ⟨v734, v739, ha, Q_BK730, Q_HB, Q_HO735, Q_HO740⟩ hb_ hon hoff
    refine ⟨_, rfl, fun K hK => ?_⟩
    have e14 : a.tmps[14]? = some (.pointer (some ⟨gb730, 2, none⟩)) := by rw [ha]; exact (putSel_off rfl).trans rfl
    replace ha := Aside0.mk ha
    have BK730 := Aside0.mk Q_BK730
    have HB := Aside0.mk Q_HB
    have hc0_ : w'.cell? ⟨gb730, 0, none⟩ = some (.int .i64 a0_0) := (blk_cell BK730.out 0).trans rfl
    have hc1_ : w'.cell? ⟨gb730, 1, none⟩ = some (.int .i64 a0_1) := (blk_cell BK730.out 1).trans rfl
    have hc2_ : w'.cell? ⟨gb730, 2, none⟩ = some (.int .i64 a0_2) := (blk_cell BK730.out 2).trans rfl
    have hc3_ : w'.cell? ⟨gb730, 3, none⟩ = some (.int .i64 a0_3) := (blk_cell BK730.out 3).trans rfl
    have hc4_ : w'.cell? ⟨gb730, 4, none⟩ = some (.int .i64 a0_4) := (blk_cell BK730.out 4).trans rfl
    have hc5_ : w'.cell? ⟨gb730, 5, none⟩ = some (.int .i64 a0_5) := (blk_cell BK730.out 5).trans rfl
    refine value_ (w1 := w') (v := .int .i64 a0_2) (by rfl) rfl ?_ ?_
    ·go_simp
     (try simp only [i64_w])
     try rfl
    refine hK.out _ _ ⟨v734, v739, (by rw [ha.out]; exact putSel_upk 3 hb_ rfl rfl rfl), Q_BK730, Q_HB, fun h0_ => absurd ((hoff 8 (by kernel_rfl)).symm.trans h0_) (by decide), fun h0_ => absurd ((hoff 13 (by kernel_rfl)).symm.trans h0_) (by decide)⟩
   refine steps_cons ?_ ?_
   ·rintro b a w' ⟨v734, v739, ha, Q_BK730, Q_HB, Q_HO735, Q_HO740⟩ hb_ hon hoff
    refine ⟨_, rfl, fun K hK => ?_⟩
    have e13 : a.tmps[13]? = some (.int .i64 a0_1) := by rw [ha]; exact putSel_on (e := (5, 13, .int .i64 a0_1)) 2 rfl rfl (hon 5 (by kernel_rfl)) rfl
    have e15 : a.tmps[15]? = some (.int .i64 a0_2) := by rw [ha]; exact putSel_on (e := (7, 15, .int .i64 a0_2)) 3 rfl rfl (hon 7 (by kernel_rfl)) rfl
    replace ha := Aside0.mk ha
    have BK730 := Aside0.mk Q_BK730
    have HB := Aside0.mk Q_HB
    refine Kd.R_lit_step (Kd.int .i64) _ 3 ?hg (N := 16) ?hd (xs := ([a0_1, a0_2] : List Int)) (inner := [.int .i64 a0_1, .int .i64 a0_2]) (ok := fun _ => True) (okp := fun _ => True) ?hr ?hp (fun _ hk => hk) trivial (Below.refl _ _) (Nat.le_refl _) (by simp) ?_; (case hd => rfl); (case hg => rfl); (case hr => first | (go_simp; done) | (go_simp; rfl)); (case hp => exact (Reps.one (show Kd.M (Kd.int .i64) _ _ _ a0_1 [.int .i64 a0_1] from rfl) (Reps.one (show Kd.M (Kd.int .i64) _ _ _ a0_2 [.int .i64 a0_2] from rfl) (Reps.none _ _))))
    intro v734 w14 ho15 hb hg_ hnew_
    clear hg_ hnew_
    (first | rw [← Ny733.out] at ho15 | (simp only [Int.reduceToNat] at ho15; rw [← Ny733.out] at ho15))
    have n0_ := Aside0.mk (Kd.R_lower ho15 (below_size bS))
    have n1_ := Aside0.mk (bB BK730 hb)
    have n2_ := Aside0.mk (below_step bS hb)
    clear BK730 HB
    have HO735 := n0_
    have BK730 := n1_
    have HB := n2_
    clear n0_ n1_ n2_ hb ho15
    refine hK.out _ _ ⟨v734, v739, (by rw [ha.out]; exact putSel_upk 4 hb_ rfl rfl rfl), (kB BK730.out), bS, fun _ => (kR HO735.out), fun h0_ => absurd ((hoff 13 (by kernel_rfl)).symm.trans h0_) (by decide)⟩
   refine steps_cons ?_ ?_
   ·rintro b a w' ⟨v734, v739, ha, Q_BK730, Q_HB, Q_HO735, Q_HO740⟩ hb_ hon hoff
    refine ⟨_, rfl, fun K hK => ?_⟩
    have e16 : a.tmps[16]? = some (v734) := by rw [ha]; exact putSel_on (e := (8, 16, v734)) 4 rfl rfl (hon 8 (by kernel_rfl)) rfl
    replace ha := Aside0.mk ha
    have BK730 := Aside0.mk Q_BK730
    have HB := Aside0.mk Q_HB
    have HO735 := Aside0.mk (Q_HO735 (hon 8 (by kernel_rfl)))
    obtain ⟨Ao18, co18, eo18⟩ := Kd.R_slice HO735.out
    (first | subst eo18 | (injection eo18 with f1_ f2_ f3_; have f4_ := f1_.symm; have f5_ := f3_.symm; clear f1_ f2_ f3_; subst f4_; subst f5_))
    refine goes_ Try.func37 (by kernel_rfl) rfl #[.slice Ao18 y733.length co18] (by rfl) rfl rfl (by first | (simp only [List.map_toArray, List.map_cons, List.map_nil, Act.eval, Array.getD_eq_getD_getElem?, Option.getD_some, e16]; done) | (simp only [List.map_toArray, List.map_cons, List.map_nil, Act.eval, Array.getD_eq_getD_getElem?, Option.getD_some, e16]; rfl)) ?_
    with_reducible refine (spec_Nums.calls k _ _ y733 t736 _ ?side1 ?side2 A6.out).mono ?_
    (case side1 => exact cA ((Kd.R_reads' HO735.out).2.2))
    (case side2 => exact (Kd.R_reads' HO735.out).2.1)
    rintro e w19 ⟨rfl, hb⟩
    refine ⟨_, rfl, ?_⟩
    have n_ := aT (rB HO735 hb) (aT (bB BK730 hb) (aM (below_step bS hb)))
    clear HO735 BK730 HB
    obtain ⟨HO735, BK730, HB⟩ := n_
    (try clear hb)
    (try clear hb2)
    (try clear hk)
    (try clear hi)
    refine hK.out _ _ ⟨.slice Ao18 y733.length co18, v739, (by rw [ha.out]; exact putSel_upk 5 hb_ rfl rfl rfl), (kB BK730.out), bS, fun _ => (kR HO735.out), fun h0_ => absurd ((hoff 13 (by kernel_rfl)).symm.trans h0_) (by decide)⟩
   refine steps_cons ?_ ?_
   ·rintro b a w' ⟨v734, v739, ha, Q_BK730, Q_HB, Q_HO735, Q_HO740⟩ hb_ hon hoff
    refine ⟨_, rfl, fun K hK => ?_⟩
    have e18 : a.tmps[18]? = some (.pointer (some ⟨gb730, 3, none⟩)) := by rw [ha]; exact (putSel_off rfl).trans rfl
    replace ha := Aside0.mk ha
    have BK730 := Aside0.mk Q_BK730
    have HB := Aside0.mk Q_HB
    have hc0_ : w'.cell? ⟨gb730, 0, none⟩ = some (.int .i64 a0_0) := (blk_cell BK730.out 0).trans rfl
    have hc1_ : w'.cell? ⟨gb730, 1, none⟩ = some (.int .i64 a0_1) := (blk_cell BK730.out 1).trans rfl
    have hc2_ : w'.cell? ⟨gb730, 2, none⟩ = some (.int .i64 a0_2) := (blk_cell BK730.out 2).trans rfl
    have hc3_ : w'.cell? ⟨gb730, 3, none⟩ = some (.int .i64 a0_3) := (blk_cell BK730.out 3).trans rfl
    have hc4_ : w'.cell? ⟨gb730, 4, none⟩ = some (.int .i64 a0_4) := (blk_cell BK730.out 4).trans rfl
    have hc5_ : w'.cell? ⟨gb730, 5, none⟩ = some (.int .i64 a0_5) := (blk_cell BK730.out 5).trans rfl
    refine value_ (w1 := w') (v := .agg #[.int .i64 a0_3, .int .i64 a0_4, .int .i64 a0_5]) (by rfl) rfl ?_ ?_
    ·go_simp
     (try simp only [i64_w])
     try rfl
    refine hK.out _ _ ⟨v734, v739, (by rw [ha.out]; exact putSel_upk 6 hb_ rfl rfl rfl), Q_BK730, Q_HB, Q_HO735, fun h0_ => absurd ((hoff 13 (by kernel_rfl)).symm.trans h0_) (by decide)⟩
   refine steps_cons ?_ ?_
   ·rintro b a w' ⟨v734, v739, ha, Q_BK730, Q_HB, Q_HO735, Q_HO740⟩ hb_ hon hoff
    refine ⟨_, rfl, fun K hK => ?_⟩
    have e19 : a.tmps[19]? = some (.agg #[.int .i64 a0_3, .int .i64 a0_4, .int .i64 a0_5]) := by rw [ha]; exact putSel_on (e := (11, 19, .agg #[.int .i64 a0_3, .int .i64 a0_4, .int .i64 a0_5])) 6 rfl rfl (hon 11 (by kernel_rfl)) rfl
    replace ha := Aside0.mk ha
    have BK730 := Aside0.mk Q_BK730
    have HB := Aside0.mk Q_HB
    have HO735 := Aside0.mk (Q_HO735 (hon 8 (by kernel_rfl)))
    refine goes_ Try.func39 (by kernel_rfl) rfl #[.agg #[.int .i64 a0_3, .int .i64 a0_4, .int .i64 a0_5]] (by rfl) rfl rfl (by first | (simp only [List.map_toArray, List.map_cons, List.map_nil, Act.eval, Array.getD_eq_getD_getElem?, Option.getD_some, e19]; done) | (simp only [List.map_toArray, List.map_cons, List.map_nil, Act.eval, Array.getD_eq_getD_getElem?, Option.getD_some, e19]; rfl)) ?_
    with_reducible refine (spec_ShowRest.calls k a0_3 a0_4 a0_5 t737 _ A7.out).mono ?_
    rintro e w20 ⟨rfl, hb⟩
    refine ⟨_, rfl, ?_⟩
    have n_ := aT (rB HO735 hb) (aT (bB BK730 hb) (aM (below_step bS hb)))
    clear HO735 BK730 HB
    obtain ⟨HO735, BK730, HB⟩ := n_
    (try clear hb)
    (try clear hb2)
    (try clear hk)
    (try clear hi)
    refine hK.out _ _ ⟨v734, v739, (by rw [ha.out]; exact putSel_upk 7 hb_ rfl rfl rfl), (kB BK730.out), bS, fun _ => (kR HO735.out), fun h0_ => absurd ((hoff 13 (by kernel_rfl)).symm.trans h0_) (by decide)⟩
   refine steps_cons ?_ ?_
   ·rintro b a w' ⟨v734, v739, ha, Q_BK730, Q_HB, Q_HO735, Q_HO740⟩ hb_ hon hoff
    refine ⟨_, rfl, fun K hK => ?_⟩
    have e11 : a.tmps[11]? = some (.string t732) := by rw [ha]; exact putSel_on (e := (3, 11, .string t732)) 1 rfl rfl (hon 3 (by kernel_rfl)) rfl
    have e17 : a.tmps[17]? = some (.string t736) := by rw [ha]; exact putSel_on (e := (9, 17, .string t736)) 5 rfl rfl (hon 9 (by kernel_rfl)) rfl
    have e20 : a.tmps[20]? = some (.string t737) := by rw [ha]; exact putSel_on (e := (12, 20, .string t737)) 7 rfl rfl (hon 12 (by kernel_rfl)) rfl
    replace ha := Aside0.mk ha
    have BK730 := Aside0.mk Q_BK730
    have HB := Aside0.mk Q_HB
    have HO735 := Aside0.mk (Q_HO735 (hon 8 (by kernel_rfl)))
    refine Kd.R_lit_step Kd.string _ 9 ?hg (N := 21) ?hd (xs := ([t732, t736, t737] : List ByteArray)) (inner := [.string t732, .string t736, .string t737]) (ok := fun _ => True) (okp := fun _ => True) ?hr ?hp (fun _ hk => hk) trivial (Below.refl _ _) (Nat.le_refl _) (by simp) ?_; (case hd => rfl); (case hg => rfl); (case hr => first | (go_simp; done) | (go_simp; rfl)); (case hp => exact (Reps.one (show Kd.M Kd.string _ _ _ t732 [.string t732] from rfl) (Reps.one (show Kd.M Kd.string _ _ _ t736 [.string t736] from rfl) (Reps.one (show Kd.M Kd.string _ _ _ t737 [.string t737] from rfl) (Reps.none _ _)))))
    intro v739 w21 ho22 hb hg_ hnew_
    clear hg_ hnew_
    (first | rw [← Ny738.out] at ho22 | (simp only [Int.reduceToNat] at ho22; rw [← Ny738.out] at ho22))
    have n0_ := Aside0.mk (rB HO735 hb)
    have n1_ := Aside0.mk (Kd.R_lower ho22 (below_size bS))
    have n2_ := Aside0.mk (bB BK730 hb)
    have n3_ := Aside0.mk (below_step bS hb)
    clear HO735 BK730 HB
    have HO735 := n0_
    have HO740 := n1_
    have BK730 := n2_
    have HB := n3_
    clear n0_ n1_ n2_ n3_ hb ho22
    refine hK.out _ _ ⟨v734, v739, (by rw [ha.out]; exact putSel_upk 8 hb_ rfl rfl rfl), (kB BK730.out), bS, fun _ => (kR HO735.out), fun _ => (kR HO740.out)⟩
   refine steps_cons ?_ ?_
   ·rintro b a w' ⟨v734, v739, ha, Q_BK730, Q_HB, Q_HO735, Q_HO740⟩ hb_ hon hoff
    refine ⟨_, rfl, fun K hK => ?_⟩
    have e21 : a.tmps[21]? = some (v739) := by rw [ha]; exact putSel_on (e := (13, 21, v739)) 8 rfl rfl (hon 13 (by kernel_rfl)) rfl
    replace ha := Aside0.mk ha
    have BK730 := Aside0.mk Q_BK730
    have HB := Aside0.mk Q_HB
    have HO735 := Aside0.mk (Q_HO735 (hon 8 (by kernel_rfl)))
    have HO740 := Aside0.mk (Q_HO740 (hon 13 (by kernel_rfl)))
    obtain ⟨Ao23, co23, eo23⟩ := Kd.R_slice HO740.out
    (first | subst eo23 | (injection eo23 with f1_ f2_ f3_; have f4_ := f1_.symm; have f5_ := f3_.symm; clear f1_ f2_ f3_; subst f4_; subst f5_))
    refine goes_ Try.func36 (by kernel_rfl) rfl #[.slice Ao23 y738.length co23] (by rfl) rfl rfl (by first | (simp only [List.map_toArray, List.map_cons, List.map_nil, Act.eval, Array.getD_eq_getD_getElem?, Option.getD_some, e21]; done) | (simp only [List.map_toArray, List.map_cons, List.map_nil, Act.eval, Array.getD_eq_getD_getElem?, Option.getD_some, e21]; rfl)) ?_
    with_reducible refine (spec_List.calls k _ _ y738 t741 _ ?side1 ?side2 A8.out).mono ?_
    (case side1 => exact cA ((Kd.R_reads' HO740.out).2.2))
    (case side2 => exact (Kd.R_reads' HO740.out).2.1)
    rintro e w24 ⟨rfl, hb⟩
    refine ⟨_, rfl, ?_⟩
    have n_ := aT (rB HO735 hb) (aT (rB HO740 hb) (aT (bB BK730 hb) (aM (below_step bS hb))))
    clear HO735 HO740 BK730 HB
    obtain ⟨HO735, HO740, BK730, HB⟩ := n_
    (try clear hb)
    (try clear hb2)
    (try clear hk)
    (try clear hi)
    refine hK.out _ _ ⟨v734, .slice Ao23 y738.length co23, (by rw [ha.out]; exact putSel_upk 9 hb_ rfl rfl rfl), (kB BK730.out), bS, fun _ => (kR HO735.out), fun _ => (kR HO740.out)⟩
   refine steps_cons ?_ ?_
   ·rintro b a w' ⟨v734, v739, ha, Q_BK730, Q_HB, Q_HO735, Q_HO740⟩ hb_ hon hoff
    refine ⟨_, rfl, fun K hK => ?_⟩
    have e8 : a.tmps[8]? = some (.int .i64 a1) := by rw [ha]; exact (putSel_off rfl).trans rfl
    have e22 : a.tmps[22]? = some (.string t741) := by rw [ha]; exact putSel_on (e := (14, 22, .string t741)) 9 rfl rfl (hon 14 (by kernel_rfl)) rfl
    replace ha := Aside0.mk ha
    have BK730 := Aside0.mk Q_BK730
    have HB := Aside0.mk Q_HB
    have HO735 := Aside0.mk (Q_HO735 (hon 8 (by kernel_rfl)))
    have HO740 := Aside0.mk (Q_HO740 (hon 13 (by kernel_rfl)))
    refine goes_ Try.func35 (by kernel_rfl) rfl #[.int .i64 a1, .string t741] (by rfl) rfl rfl (by first | (simp only [List.map_toArray, List.map_cons, List.map_nil, Act.eval, Array.getD_eq_getD_getElem?, Option.getD_some, e8, e22]; done) | (simp only [List.map_toArray, List.map_cons, List.map_nil, Act.eval, Array.getD_eq_getD_getElem?, Option.getD_some, e8, e22]; rfl)) ?_
    with_reducible refine (spec_Seal.calls k a1 t741 t742 _ A9.out).mono ?_
    rintro e w25 ⟨rfl, hb⟩
    refine ⟨_, rfl, ?_⟩
    have n_ := aT (rB HO735 hb) (aT (rB HO740 hb) (aT (bB BK730 hb) (aM (below_step bS hb))))
    clear HO735 HO740 BK730 HB
    obtain ⟨HO735, HO740, BK730, HB⟩ := n_
    (try clear hb)
    (try clear hb2)
    (try clear hk)
    (try clear hi)
    refine hK.out _ _ ⟨v734, v739, (by rw [ha.out]; exact putSel_upk 10 hb_ rfl rfl rfl), (kB BK730.out), bS, fun _ => (kR HO735.out), fun _ => (kR HO740.out)⟩
   refine steps_cons ?_ ?_
   ·rintro b a w' ⟨v734, v739, ha, Q_BK730, Q_HB, Q_HO735, Q_HO740⟩ hb_ hon hoff
    refine ⟨_, rfl, fun K hK => ?_⟩
    have e23 : a.tmps[23]? = some (.string t742) := by rw [ha]; exact putSel_on (e := (15, 23, .string t742)) 10 rfl rfl (hon 15 (by kernel_rfl)) rfl
    replace ha := Aside0.mk ha
    have BK730 := Aside0.mk Q_BK730
    have HB := Aside0.mk Q_HB
    have HO735 := Aside0.mk (Q_HO735 (hon 8 (by kernel_rfl)))
    have HO740 := Aside0.mk (Q_HO740 (hon 13 (by kernel_rfl)))
    refine value_ (w1 := w') (v := .string t742) (by rfl) rfl ?_ ?_
    ·go_simp
     (try simp only [i64_w])
     try rfl
    refine hK.out _ _ ⟨v734, v739, (by rw [ha.out]; exact putSel_upk 11 hb_ rfl rfl rfl), Q_BK730, Q_HB, Q_HO735, Q_HO740⟩
   exact steps_nil
  rintro b a w25 hall ⟨v734, v739, ha, Q_BK730, Q_HB, Q_HO735, Q_HO740⟩
  clear BK730 HB
  have hb2_ := hall 2 (by kernel_rfl)
  have hb3_ := hall 3 (by kernel_rfl)
  have hb5_ := hall 5 (by kernel_rfl)
  have hb7_ := hall 7 (by kernel_rfl)
  have hb8_ := hall 8 (by kernel_rfl)
  have hb9_ := hall 9 (by kernel_rfl)
  have hb11_ := hall 11 (by kernel_rfl)
  have hb12_ := hall 12 (by kernel_rfl)
  have hb13_ := hall 13 (by kernel_rfl)
  have hb14_ := hall 14 (by kernel_rfl)
  have hb15_ := hall 15 (by kernel_rfl)
  have hb16_ := hall 16 (by kernel_rfl)
  subst ha
  simp only [putSel, hb2_, hb3_, hb5_, hb7_, hb8_, hb9_, hb11_, hb12_, hb13_, hb14_, hb15_, hb16_, if_true, Act.put, List.setIfInBounds_toArray, List.set_cons_zero, List.set_cons_succ]
  have BK730 := Aside0.mk Q_BK730
  clear Q_BK730
  have HB := Aside0.mk Q_HB
  clear Q_HB
  have HO735 := Aside0.mk (Q_HO735 hb8_)
  clear Q_HO735
  have HO740 := Aside0.mk (Q_HO740 hb13_)
  clear Q_HO740 hall hb2_ hb3_ hb5_ hb7_ hb8_ hb9_ hb11_ hb12_ hb13_ hb14_ hb15_ hb16_
  try go_wp2
  go_ret
  exact ⟨eE, bS⟩
 replace c4 := Bool.eq_false_iff.mpr c4
 subst c4
 rw [if_neg nF] at H
 obtain rfl := Option.some.inj H
 go_enter Try.func17, Try.ntmps17
 go_wp2_with (first | ((with_reducible refine gD 2 rfl ?_); refine bE #[.int .i64 a0_0, .int .i64 a0_1, .int .i64 a0_2, .int .i64 a0_3, .int .i64 a0_4, .int .i64 a0_5] 43 ?_; intro gb730 hg w26 hbox hb; have n_ := aT (below_step bH hb) (aT (hbox) (aT ((bZ hg : w.heap.size ≤ gb730)) (aM ((bZ hg : w.heap.size ≤ gb730))))); clear HB; obtain ⟨HB, BK730, GW730, GE730⟩ := n_; clear hb hbox hg; obtain ⟨⟨hcz27_0, hcz27_1, hcz27_2, hcz27_3, hcz27_4, hcz27_5⟩, hfz27_0, hfz27_1, hfz27_2, hfz27_3, hfz27_4, hfz27_5⟩ := cF6 BK730) | ((with_reducible refine gC 45 rfl ?_); refine gL (some 6) Try.func45 #[.agg #[.int .i64 a0_0, .int .i64 a0_1, .int .i64 a0_2, .int .i64 a0_3, .int .i64 a0_4, .int .i64 a0_5]] ?_; (with_reducible refine (spec_l5GrantOk.calls a0_0 a0_1 a0_2 a0_3 a0_4 a0_5 false _ A3.out).mono ?_); rintro e w28 ⟨rfl, hb⟩; refine ⟨_, rfl, ?_⟩; have n_ := aT (bB BK730 hb) (aM (below_step bS hb)); clear BK730 HB; obtain ⟨BK730, HB⟩ := n_; (try clear hb)))
 go_ret
 exact ⟨eE, bS⟩

/-! ### spec_DrawShowRest: function 18 -/
def spec_DrawShowRest.f (k : Nat) (l0 : List Int) : Option (Int × Int × Int) := (spec_l1New.f k l0).bind fun bt744 => ((spec_l4Any.f bt744.1 bt744.2.1 bt744.2.2).bind fun bt748 => (some (bt748.1, bt748.2.1, bt748.2.2.1)))
set_option maxHeartbeats 8000000 in
set_option maxRecDepth 100000 in
theorem spec_DrawShowRest.calls (k : Nat) (A0 : Option Addr) (c0 : Nat) (l0 : List Int) (r1 : Int) (r2 : Int) (r3 : Int) (w : World) (hr0 : Kd.C (Kd.int .u8) w A0 l0.length l0) (hc0 : l0.length ≤ c0) (h : spec_DrawShowRest.f k l0 = some (r1, r2, r3)) :
  Calls Try.prog 18 #[.slice A0 l0.length c0] w fun e w' => e = .returned (.agg #[.int .i64 r1, .int .i64 r2, .int .i64 r3]) ∧ Below w.heap.size w w' := by
 have hu25 := Try.underlying25
 have HR0 := Aside0.mk hr0
 have HC0 := Aside0.mk hc0
 clear hr0 hc0
 have HB := Aside0.mk (Below.refl w.heap.size w)
 have H := h
 clear h
 unfold spec_DrawShowRest.f at H
 obtain ⟨⟨t744, t745, t746⟩, A2, H⟩ := oB H
 dsimp only at H
 obtain ⟨⟨t748, t749, t750, t751, t752⟩, A3, H⟩ := oB H
 dsimp only at H
 simp only [Option.some.injEq, Prod.mk.injEq] at H
 obtain ⟨rfl, rfl, rfl⟩ := H
 go_enter Try.func18, Try.ntmps18
 go_wp2_with (first | ((with_reducible refine gD 2 rfl ?_); refine bE #[.int .i64 0, .int .i64 0, .int .i64 0] 25 ?_; intro gb743 hg w4 hbox hb; have n_ := aT (below_step bH hb) (aT (hbox) (aT ((bZ hg : w.heap.size ≤ gb743)) (aM ((bZ hg : w.heap.size ≤ gb743))))); clear HB; obtain ⟨HB, BK743, GW743, GE743⟩ := n_; clear hb hbox hg) | ((with_reducible refine gC 22 rfl ?_); refine gL (some 5) Try.func22 #[.slice A0 l0.length c0] ?_; (with_reducible refine (spec_l1New.calls k _ _ l0 t744 t745 t746 w _ ?side1 ?side2 ?side3 A2.out).mono ?_); (case side1 => repeat (first | (with_reducible first | exact HB.out | apply below_alloc | apply pw_below_drewN | apply below_drew1 | refine below_set ?_ GE743.out) | exact HB.out)); (case side2 => exact HR0.out); (case side3 => exact HC0.out); rintro e w5 ⟨g747, rfl, hi, hb, hb2⟩; refine ⟨_, rfl, ?_⟩; have n_ := aT (bB BK743 hb2) (aT (hb) (aT (hi) (aT (IsS79.ne_blk hi (bB BK743 hb2) (by decide)) (aM (Ne.symm (IsS79.ne_blk hi (bB BK743 hb2) (by decide))))))); clear BK743 HB; obtain ⟨BK743, HB, HI747, NB747_743, NB743_747⟩ := n_; (try clear hb); (try clear hb2); (try clear hi)) | ((with_reducible refine gC 46 rfl ?_); refine gL (some 7) Try.func46 #[.pointer (some ⟨g747, 0, none⟩)] ?_; (with_reducible refine (spec_l4Any.calls g747 t744 t745 t746 t748 t749 t750 t751 t752 w _ ?side1 ?side2 A3.out).mono ?_); (case side1 => exact IsS79.qHI747); (case side2 => exact IsS79.bHI747); rintro e w6 ⟨rfl, hi, hb, hk⟩; refine ⟨_, rfl, ?_⟩; have n_ := aT (kW hk BK743 NB743_747) (aT (hb) (aM (hi))); clear BK743 HB HI747; obtain ⟨BK743, HB, HI747⟩ := n_; (try clear hb); (try clear hk); (try clear hi); have hnb7 := NB743_747.out; have hnc7 := NB747_743.out; obtain ⟨⟨hcz8_0, hcz8_1, hcz8_2⟩, hfz8_0, hfz8_1, hfz8_2⟩ := cF3 BK743))
 refine bodyPost_ret (results_cell_row rfl _ _ gb743 25 #[.int .i64 t748, .int .i64 t749, .int .i64 t750] (0, 0) _ rfl (bP BK743) Try.underlying25 rfl (by kernel_rfl)) rfl ?_
 exact ⟨eE, IsS79.bHI747⟩

end Go.Proofs.Ytaldemgfndmmlaa.OFnTickets
-- wrapped
-- halved
-- squeezed
-- squeezed2
-- squeezed3
