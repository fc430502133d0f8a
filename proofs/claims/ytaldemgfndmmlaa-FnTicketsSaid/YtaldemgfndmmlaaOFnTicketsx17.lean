-- walks of this claim, written by a program of mine
import Derived.Test.YtaldemgfndmmlaaOFnTicketsx0
import Derived.Test.YtaldemgfndmmlaaOFnTicketsx5
import Derived.Test.YtaldemgfndmmlaaOFnTicketsx7
import Derived.Test.YtaldemgfndmmlaaOFnTicketsx8
import Derived.Test.YtaldemgfndmmlaaOFnTicketsx9
namespace Go.Proofs.Ytaldemgfndmmlaa.OFnTickets
open Go.RowKit Go.Proofs.Ytaldemgfndmmlaa.OWord Go.Proofs.YtaldemgfndmmlaaW.PrintWords Go.Proofs.YtaldemgfndmmlaaW.PrintLast Go.Proofs.YtaldemgfndmmlaaW.PrintMore
attribute [local go_sem] max2_int min2_int max_two min_two max_three min_three max_four min_four   -- for this text's walks alone
set_option linter.unusedVariables false
set_option linter.unusedSimpArgs false

/-! ### impl_grantOk: function 44 -/
def impl_grantOk.f (a0_0 : Int) (a0_1 : Int) (a0_2 : Int) (a0_3 : Int) (a0_4 : Int) (a0_5 : Int) : Option (Bool) := (impl_isKey.f a0_0).bind fun t684 => (if t684 = true then ((impl_isFor.f a0_1).bind fun t685 => (if t685 = true then ((impl_within.f a0_2 0 1000000).bind fun t686 => (if t686 = true then ((impl_RestOk.f a0_3 a0_4 a0_5).bind fun t687 => (some t687)) else (some false))) else (some false))) else (some false))
set_option maxHeartbeats 8000000 in
set_option maxRecDepth 100000 in
theorem impl_grantOk.calls (a0_0 : Int) (a0_1 : Int) (a0_2 : Int) (a0_3 : Int) (a0_4 : Int) (a0_5 : Int) (r : Bool) (w : World) (h : impl_grantOk.f a0_0 a0_1 a0_2 a0_3 a0_4 a0_5 = some r) :
  Calls Try.prog 44 #[.agg #[.int .i64 a0_0, .int .i64 a0_1, .int .i64 a0_2, .int .i64 a0_3, .int .i64 a0_4, .int .i64 a0_5]] w fun e w' => e = .returned (.bool r) ∧ Below w.heap.size w w' := by
 have hu43 := Try.underlying43
 have hu25 := Try.underlying25
 have HB := Aside0.mk (Below.refl w.heap.size w)
 have H := h
 clear h
 unfold impl_grantOk.f at H
 obtain ⟨t684, A2, H⟩ := oB H
 by_cases c3 : t684 = true
 ·subst c3
  rw [if_pos rfl] at H
  obtain ⟨t685, A4, H⟩ := oB H
  by_cases c5 : t685 = true
  ·subst c5
   rw [if_pos rfl] at H
   obtain ⟨t686, A6, H⟩ := oB H
   by_cases c7 : t686 = true
   ·subst c7
    rw [if_pos rfl] at H
    obtain ⟨t687, A8, H⟩ := oB H
    obtain rfl := Option.some.inj H
    go_enter Try.func44, Try.ntmps44
    go_wp2_with (first | ((with_reducible refine gD 1 rfl ?_); refine bE #[.int .i64 a0_0, .int .i64 a0_1, .int .i64 a0_2, .int .i64 a0_3, .int .i64 a0_4, .int .i64 a0_5] 43 ?_; intro gb683 hg w9 hbox hb; have n_ := aT (below_step bH hb) (aT (hbox) (aT ((bZ hg : w.heap.size ≤ gb683)) (aM ((bZ hg : w.heap.size ≤ gb683))))); clear HB; obtain ⟨HB, BK683, GW683, GE683⟩ := n_; clear hb hbox hg; obtain ⟨⟨hcz10_0, hcz10_1, hcz10_2, hcz10_3, hcz10_4, hcz10_5⟩, hfz10_0, hfz10_1, hfz10_2, hfz10_3, hfz10_4, hfz10_5⟩ := cF6 BK683) | ((with_reducible refine gC 55 rfl ?_); refine gL (some 5) Try.func55 #[.int .i64 a0_0] ?_; (with_reducible refine (impl_isKey.calls a0_0 true _ A2.out).mono ?_); rintro e w' ⟨rfl, ⟨nd, rfl⟩⟩; refine ⟨_, rfl, ?_⟩) | (go_at_call 54; (with_reducible refine (impl_isFor.calls a0_1 true _ A4.out).mono ?_); rintro e w' ⟨rfl, ⟨nd, rfl⟩⟩) | (go_at_call 76; (with_reducible refine (impl_within.calls a0_2 0 1000000 true _ A6.out).mono ?_); rintro e w' ⟨rfl, ⟨nd, rfl⟩⟩) | (go_at_call 47; (with_reducible refine (impl_RestOk.calls a0_3 a0_4 a0_5 t687 _ A8.out).mono ?_); rintro e w11 ⟨rfl, hb⟩; have n_ := aT (bB BK683 hb) (aM (below_step bS hb)); clear BK683 HB; obtain ⟨BK683, HB⟩ := n_; (try clear hb)))
    go_ret
    exact ⟨eE, bS⟩
   replace c7 := Bool.eq_false_iff.mpr c7
   subst c7
   rw [if_neg nF] at H
   obtain rfl := Option.some.inj H
   go_enter Try.func44, Try.ntmps44
   go_wp2_with (first | ((with_reducible refine gD 1 rfl ?_); refine bE #[.int .i64 a0_0, .int .i64 a0_1, .int .i64 a0_2, .int .i64 a0_3, .int .i64 a0_4, .int .i64 a0_5] 43 ?_; intro gb683 hg w12 hbox hb; have n_ := aT (below_step bH hb) (aT (hbox) (aT ((bZ hg : w.heap.size ≤ gb683)) (aM ((bZ hg : w.heap.size ≤ gb683))))); clear HB; obtain ⟨HB, BK683, GW683, GE683⟩ := n_; clear hb hbox hg; obtain ⟨⟨hcz13_0, hcz13_1, hcz13_2, hcz13_3, hcz13_4, hcz13_5⟩, hfz13_0, hfz13_1, hfz13_2, hfz13_3, hfz13_4, hfz13_5⟩ := cF6 BK683) | ((with_reducible refine gC 55 rfl ?_); refine gL (some 5) Try.func55 #[.int .i64 a0_0] ?_; (with_reducible refine (impl_isKey.calls a0_0 true _ A2.out).mono ?_); rintro e w' ⟨rfl, ⟨nd, rfl⟩⟩; refine ⟨_, rfl, ?_⟩) | (go_at_call 54; (with_reducible refine (impl_isFor.calls a0_1 true _ A4.out).mono ?_); rintro e w' ⟨rfl, ⟨nd, rfl⟩⟩) | (go_at_call 76; (with_reducible refine (impl_within.calls a0_2 0 1000000 false _ A6.out).mono ?_); rintro e w' ⟨rfl, ⟨nd, rfl⟩⟩))
   go_ret
   exact ⟨eE, bS⟩
  replace c5 := Bool.eq_false_iff.mpr c5
  subst c5
  rw [if_neg nF] at H
  obtain rfl := Option.some.inj H
  go_enter Try.func44, Try.ntmps44
  go_wp2_with (first | ((with_reducible refine gD 1 rfl ?_); refine bE #[.int .i64 a0_0, .int .i64 a0_1, .int .i64 a0_2, .int .i64 a0_3, .int .i64 a0_4, .int .i64 a0_5] 43 ?_; intro gb683 hg w14 hbox hb; have n_ := aT (below_step bH hb) (aT (hbox) (aT ((bZ hg : w.heap.size ≤ gb683)) (aM ((bZ hg : w.heap.size ≤ gb683))))); clear HB; obtain ⟨HB, BK683, GW683, GE683⟩ := n_; clear hb hbox hg; obtain ⟨⟨hcz15_0, hcz15_1, hcz15_2, hcz15_3, hcz15_4, hcz15_5⟩, hfz15_0, hfz15_1, hfz15_2, hfz15_3, hfz15_4, hfz15_5⟩ := cF6 BK683) | ((with_reducible refine gC 55 rfl ?_); refine gL (some 5) Try.func55 #[.int .i64 a0_0] ?_; (with_reducible refine (impl_isKey.calls a0_0 true _ A2.out).mono ?_); rintro e w' ⟨rfl, ⟨nd, rfl⟩⟩; refine ⟨_, rfl, ?_⟩) | (go_at_call 54; (with_reducible refine (impl_isFor.calls a0_1 false _ A4.out).mono ?_); rintro e w' ⟨rfl, ⟨nd, rfl⟩⟩))
  go_ret
  exact ⟨eE, bS⟩
 replace c3 := Bool.eq_false_iff.mpr c3
 subst c3
 rw [if_neg nF] at H
 obtain rfl := Option.some.inj H
 go_enter Try.func44, Try.ntmps44
 go_wp2_with (first | ((with_reducible refine gD 1 rfl ?_); refine bE #[.int .i64 a0_0, .int .i64 a0_1, .int .i64 a0_2, .int .i64 a0_3, .int .i64 a0_4, .int .i64 a0_5] 43 ?_; intro gb683 hg w16 hbox hb; have n_ := aT (below_step bH hb) (aT (hbox) (aT ((bZ hg : w.heap.size ≤ gb683)) (aM ((bZ hg : w.heap.size ≤ gb683))))); clear HB; obtain ⟨HB, BK683, GW683, GE683⟩ := n_; clear hb hbox hg; obtain ⟨⟨hcz17_0, hcz17_1, hcz17_2, hcz17_3, hcz17_4, hcz17_5⟩, hfz17_0, hfz17_1, hfz17_2, hfz17_3, hfz17_4, hfz17_5⟩ := cF6 BK683) | ((with_reducible refine gC 55 rfl ?_); refine gL (some 5) Try.func55 #[.int .i64 a0_0] ?_; (with_reducible refine (impl_isKey.calls a0_0 false _ A2.out).mono ?_); rintro e w' ⟨rfl, ⟨nd, rfl⟩⟩; refine ⟨_, rfl, ?_⟩))
 go_ret
 exact ⟨eE, bS⟩

/-! ### impl_ShowGrant: function 15 -/
def impl_ShowGrant.f (k : Nat) (a0_0 : Int) (a0_1 : Int) (a0_2 : Int) (a0_3 : Int) (a0_4 : Int) (a0_5 : Int) (a1 : Int) : Option (ByteArray) := (impl_grantOk.f a0_0 a0_1 a0_2 a0_3 a0_4 a0_5).bind fun t689 => (if t689 = true then ((impl_KeyTerm.f k a0_0).bind fun t690 => ((impl_Nums.f k (([a0_1, a0_2] : List Int))).bind fun t694 => ((impl_ShowRest.f k a0_3 a0_4 a0_5).bind fun t695 => ((impl_List.f k (([t690, t694, t695] : List ByteArray))).bind fun t699 => ((impl_Seal.f k a1 t699).bind fun t700 => (some t700)))))) else (some (⟨#[]⟩ : ByteArray)))
def impl_ShowGrant.T3 : Bool × List (List Nat × List Nat) := (true, [([], []), ([], []), ([1], [1]), ([2], [2]), ([], []), ([4], [4]), ([], []), ([6], [6]), ([5, 7], [5, 7]), ([8, 3], [8]), ([], []), ([10], [10]), ([11, 9], [11]), ([3, 9, 12], [3, 9, 12]), ([13, 12], [13]), ([0, 14, 14], [0, 14]), ([15, 15, 0, 1, 2, 3, 4, 5, 6, 7, 8, 9, 10, 11, 12, 13, 14, 15], [15])])
def impl_ShowGrant.B3 : List Nat := [0, 0, 2, 6, 0, 16, 0, 64, 240, 510, 0, 1024, 4094, 8190, 16382, 32767, 65535]
theorem impl_ShowGrant.tab3 : rtab .any (opsOf Try.f15 3) = impl_ShowGrant.T3 := by kernel_rfl
theorem impl_ShowGrant.bits3 : waitsOk impl_ShowGrant.T3.2 impl_ShowGrant.B3 = true := by kernel_rfl
set_option maxHeartbeats 8000000 in
set_option maxRecDepth 100000 in
theorem impl_ShowGrant.calls (k : Nat) (a0_0 : Int) (a0_1 : Int) (a0_2 : Int) (a0_3 : Int) (a0_4 : Int) (a0_5 : Int) (a1 : Int) (r : ByteArray) (w : World) (h : impl_ShowGrant.f k a0_0 a0_1 a0_2 a0_3 a0_4 a0_5 a1 = some r) :
  Calls Try.prog 15 #[.agg #[.int .i64 a0_0, .int .i64 a0_1, .int .i64 a0_2, .int .i64 a0_3, .int .i64 a0_4, .int .i64 a0_5], .int .i64 a1] w fun e w' => e = .returned (.string r) ∧ Below w.heap.size w w' := by
 have hu43 := Try.underlying43
 have hu25 := Try.underlying25
 have HB := Aside0.mk (Below.refl w.heap.size w)
 have H := h
 clear h
 unfold impl_ShowGrant.f at H
 obtain ⟨t689, A3, H⟩ := oB H
 by_cases c4 : t689 = true
 ·subst c4
  rw [if_pos rfl] at H
  obtain ⟨t690, A5, H⟩ := oB H
  obtain ⟨y691, hy691⟩ : ∃ y_ : List Int, y_ = (([a0_1, a0_2] : List Int)) := ⟨_, rfl⟩
  replace H : ((impl_Nums.f k y691).bind fun t694 => ((impl_ShowRest.f k a0_3 a0_4 a0_5).bind fun t695 => ((impl_List.f k (([t690, t694, t695] : List ByteArray))).bind fun t699 => ((impl_Seal.f k a1 t699).bind fun t700 => (some t700))))) = some r := by first | (rw [hy691]; with_reducible exact H) | (have H2_ := (Option.bind_some _ _).symm.trans H; rw [hy691]; with_reducible exact H2_) | (have H2_ := (Option.bind_some _ _).symm.trans H; with_reducible exact H2_) | with_reducible exact H | (rw [hy691]; exact H) | exact H
  have Ny691 := Aside0.mk hy691
  clear hy691
  obtain ⟨t694, A6, H⟩ := oB H
  obtain ⟨t695, A7, H⟩ := oB H
  obtain ⟨y696, hy696⟩ : ∃ y_ : List ByteArray, y_ = (([t690, t694, t695] : List ByteArray)) := ⟨_, rfl⟩
  replace H : ((impl_List.f k y696).bind fun t699 => ((impl_Seal.f k a1 t699).bind fun t700 => (some t700))) = some r := by first | (rw [hy696]; with_reducible exact H) | (have H2_ := (Option.bind_some _ _).symm.trans H; rw [hy696]; with_reducible exact H2_) | (have H2_ := (Option.bind_some _ _).symm.trans H; with_reducible exact H2_) | with_reducible exact H | (rw [hy696]; exact H) | exact H
  have Ny696 := Aside0.mk hy696
  clear hy696
  obtain ⟨t699, A8, H⟩ := oB H
  obtain ⟨t700, A9, H⟩ := oB H
  obtain rfl := Option.some.inj H
  go_enter Try.func15, Try.ntmps15
  try go_wp2_with (first | ((with_reducible refine gD 2 rfl ?_); refine bE #[.int .i64 a0_0, .int .i64 a0_1, .int .i64 a0_2, .int .i64 a0_3, .int .i64 a0_4, .int .i64 a0_5] 43 ?_; intro gb688 hg w10 hbox hb; have n_ := aT (below_step bH hb) (aT (hbox) (aT ((bZ hg : w.heap.size ≤ gb688)) (aM ((bZ hg : w.heap.size ≤ gb688))))); clear HB; obtain ⟨HB, BK688, GW688, GE688⟩ := n_; clear hb hbox hg; obtain ⟨⟨hcz11_0, hcz11_1, hcz11_2, hcz11_3, hcz11_4, hcz11_5⟩, hfz11_0, hfz11_1, hfz11_2, hfz11_3, hfz11_4, hfz11_5⟩ := cF6 BK688) | ((with_reducible refine gC 44 rfl ?_); refine gL (some 6) Try.func44 #[.agg #[.int .i64 a0_0, .int .i64 a0_1, .int .i64 a0_2, .int .i64 a0_3, .int .i64 a0_4, .int .i64 a0_5]] ?_; (with_reducible refine (impl_grantOk.calls a0_0 a0_1 a0_2 a0_3 a0_4 a0_5 true _ A3.out).mono ?_); rintro e w12 ⟨rfl, hb⟩; refine ⟨_, rfl, ?_⟩; have n_ := aT (bB BK688 hb) (aM (below_step bS hb)); clear BK688 HB; obtain ⟨BK688, HB⟩ := n_; (try clear hb)))
  have n_ := aT (blk_drew BK688.out) (aM (below_drew1 HB.out))
  clear BK688 HB
  obtain ⟨BK688, HB⟩ := n_
  refine start_ (n := 17) (S := fun w' => True) (ds := []) _ (by kernel_rfl) rfl rfl trivial (fun hHeld => ?_); refine with_tabW impl_ShowGrant.tab3 impl_ShowGrant.bits3 (fun HT_ HW_ => ?_)
  generalize w12.drew = w13 at BK688 HB hHeld ⊢
  refine pU HT_ 0 (some 8) (mk 17 1) rfl rfl (h := ?_)
  refine pU HT_ 1 (some 9) (mk 17 3) rfl rfl (h := ?_)
  refine pU HT_ 4 (some 12) (mk 17 19) rfl rfl (h := ?_)
  refine pU HT_ 6 (some 14) (mk 17 83) rfl rfl (h := ?_)
  refine pU HT_ 10 (some 18) (mk 17 1107) rfl rfl (h := ?_)
  refine inv_at [2, 3, 5, 7, 8, 9, 11, 12, 13, 14, 15, 16] (fun a0_ b a w' => ∃ (v692 : Value) (v697 : Value), a = putSel a0_ b [(2, 10, .int .i64 a0_0), (3, 11, .string t690), (5, 13, .int .i64 a0_1), (7, 15, .int .i64 a0_2), (8, 16, v692), (9, 17, .string t694), (11, 19, .agg #[.int .i64 a0_3, .int .i64 a0_4, .int .i64 a0_5]), (12, 20, .string t695), (13, 21, v697), (14, 22, .string t699), (15, 23, .string t700), (16, 4, .string t700)] ∧ (w'.heap[gb688]? = some (.cells #[.int .i64 a0_0, .int .i64 a0_1, .int .i64 a0_2, .int .i64 a0_3, .int .i64 a0_4, .int .i64 a0_5] 43 (0, 0))) ∧ (Below w.heap.size w w') ∧ (b 8 = true → Kd.R (Kd.int .i64) 3 w' w.heap.size (fun _ => True) v692 y691) ∧ (b 13 = true → Kd.R Kd.string 9 w' w.heap.size (fun _ => True) v697 y696)) HT_.out HW_.out (by kernel_rfl) (by kernel_rfl) ?_ ?_ ?_
  ·exact ⟨.bool false, .bool false, (by simp only [putSel, Bool.false_eq_true, if_false]), BK688.out, HB.out, fun h_ => absurd h_ (by decide), fun h_ => absurd h_ (by decide)⟩
  ·skip
   clear BK688 HB
   refine steps_cons ?_ ?_
   ·rintro b a w' ⟨v692, v697, ha, Q_BK688, Q_HB, Q_HO693, Q_HO698⟩ hb_ hon hoff
    refine ⟨_, rfl, fun K hK => ?_⟩
    have e9 : a.tmps[9]? = some (.pointer (some ⟨gb688, 0, none⟩)) := by rw [ha]; exact (putSel_off rfl).trans rfl
    replace ha := Aside0.mk ha
    have BK688 := Aside0.mk Q_BK688
    have HB := Aside0.mk Q_HB
    have hc0_ : w'.cell? ⟨gb688, 0, none⟩ = some (.int .i64 a0_0) := (blk_cell BK688.out 0).trans rfl
    have hc1_ : w'.cell? ⟨gb688, 1, none⟩ = some (.int .i64 a0_1) := (blk_cell BK688.out 1).trans rfl
    have hc2_ : w'.cell? ⟨gb688, 2, none⟩ = some (.int .i64 a0_2) := (blk_cell BK688.out 2).trans rfl
    have hc3_ : w'.cell? ⟨gb688, 3, none⟩ = some (.int .i64 a0_3) := (blk_cell BK688.out 3).trans rfl
    have hc4_ : w'.cell? ⟨gb688, 4, none⟩ = some (.int .i64 a0_4) := (blk_cell BK688.out 4).trans rfl
    have hc5_ : w'.cell? ⟨gb688, 5, none⟩ = some (.int .i64 a0_5) := (blk_cell BK688.out 5).trans rfl
    refine value_ (w1 := w') (v := .int .i64 a0_0) (by rfl) rfl ?_ ?_
    ·go_simp
     (try simp only [i64_w])
     try rfl
    refine hK.out _ _ ⟨v692, v697, (by rw [ha.out]; exact putSel_upk 0 hb_ rfl rfl rfl), Q_BK688, Q_HB, Q_HO693, fun h0_ => absurd ((hoff 13 (by kernel_rfl)).symm.trans h0_) (by decide)⟩
   refine steps_cons ?_ ?_
   ·rintro b a w' ⟨v692, v697, ha, Q_BK688, Q_HB, Q_HO693, Q_HO698⟩ hb_ hon hoff
    refine ⟨_, rfl, fun K hK => ?_⟩
    have e10 : a.tmps[10]? = some (.int .i64 a0_0) := by rw [ha]; exact putSel_on (e := (2, 10, .int .i64 a0_0)) 0 rfl rfl (hon 2 (by kernel_rfl)) rfl
    replace ha := Aside0.mk ha
    have BK688 := Aside0.mk Q_BK688
    have HB := Aside0.mk Q_HB
    refine goes_ Try.func29 (by kernel_rfl) rfl #[.int .i64 a0_0] (by rfl) rfl rfl (by first | (simp only [List.map_toArray, List.map_cons, List.map_nil, Act.eval, Array.getD_eq_getD_getElem?, Option.getD_some, e10]; done) | (simp only [List.map_toArray, List.map_cons, List.map_nil, Act.eval, Array.getD_eq_getD_getElem?, Option.getD_some, e10]; rfl)) ?_
    with_reducible refine (impl_KeyTerm.calls k a0_0 t690 _ A5.out).mono ?_
    rintro e w14 ⟨rfl, hb⟩
    refine ⟨_, rfl, ?_⟩
    have n0_ := Aside0.mk (bB BK688 hb)
    have n1_ := Aside0.mk (below_step bS hb)
    have z_HO693 := fun (h0_ : b 8 = true) => (show Kd.R (Kd.int .i64) 3 w14 w.heap.size (fun _ => True) v692 y691 from by first | exact (Kd.R_below (by (with_reducible repeat (first | apply Kd.R_alloc | apply Kd.R_drewN | apply Kd.R_drew)); exact (Q_HO693 h0_)) hb) | exact Kd.R_mono (Kd.R_below (by (with_reducible repeat (first | apply Kd.R_alloc | apply Kd.R_drewN | apply Kd.R_drew)); exact (Q_HO693 h0_)) hb) (fun _ h_ => by first | trivial | exact h_ | exact h_.1))
    clear BK688 HB
    have BK688 := n0_
    have HB := n1_
    clear n0_ n1_
    (try clear hb)
    (try clear hb2)
    (try clear hk)
    (try clear hi)
    refine hK.out _ _ ⟨v692, v697, (by rw [ha.out]; exact putSel_upk 1 hb_ rfl rfl rfl), (kB BK688.out), bS, z_HO693, fun h0_ => absurd ((hoff 13 (by kernel_rfl)).symm.trans h0_) (by decide)⟩
   refine steps_cons ?_ ?_
   ·rintro b a w' ⟨v692, v697, ha, Q_BK688, Q_HB, Q_HO693, Q_HO698⟩ hb_ hon hoff
    refine ⟨_, rfl, fun K hK => ?_⟩
    have e12 : a.tmps[12]? = some (.pointer (some ⟨gb688, 1, none⟩)) := by rw [ha]; exact (putSel_off rfl).trans rfl
    replace ha := Aside0.mk ha
    have BK688 := Aside0.mk Q_BK688
    have HB := Aside0.mk Q_HB
    have hc0_ : w'.cell? ⟨gb688, 0, none⟩ = some (.int .i64 a0_0) := (blk_cell BK688.out 0).trans rfl
    have hc1_ : w'.cell? ⟨gb688, 1, none⟩ = some (.int .i64 a0_1) := (blk_cell BK688.out 1).trans rfl
    have hc2_ : w'.cell? ⟨gb688, 2, none⟩ = some (.int .i64 a0_2) := (blk_cell BK688.out 2).trans rfl
    have hc3_ : w'.cell? ⟨gb688, 3, none⟩ = some (.int .i64 a0_3) := (blk_cell BK688.out 3).trans rfl
    have hc4_ : w'.cell? ⟨gb688, 4, none⟩ = some (.int .i64 a0_4) := (blk_cell BK688.out 4).trans rfl
    have hc5_ : w'.cell? ⟨gb688, 5, none⟩ = some (.int .i64 a0_5) := (blk_cell BK688.out 5).trans rfl
    refine value_ (w1 := w') (v := .int .i64 a0_1) (by rfl) rfl ?_ ?_
    ·go_simp
     (try simp only [i64_w])
     try rfl
    refine hK.out _ _ ⟨v692, v697, (by rw [ha.out]; exact putSel_upk 2 hb_ rfl rfl rfl), Q_BK688, Q_HB, fun h0_ => absurd ((hoff 8 (by kernel_rfl)).symm.trans h0_) (by decide), fun h0_ => absurd ((hoff 13 (by kernel_rfl)).symm.trans h0_) (by decide)⟩
   refine steps_cons ?_ ?_
   ·rintro b a w' ⟨v692, v697, ha, Q_BK688, Q_HB, Q_HO693, Q_HO698⟩ hb_ hon hoff
    refine ⟨_, rfl, fun K hK => ?_⟩
    have e14 : a.tmps[14]? = some (.pointer (some ⟨gb688, 2, none⟩)) := by rw [ha]; exact (putSel_off rfl).trans rfl
    replace ha := Aside0.mk ha
    have BK688 := Aside0.mk Q_BK688
    have HB := Aside0.mk Q_HB
    have hc0_ : w'.cell? ⟨gb688, 0, none⟩ = some (.int .i64 a0_0) := (blk_cell BK688.out 0).trans rfl
    have hc1_ : w'.cell? ⟨gb688, 1, none⟩ = some (.int .i64 a0_1) := (blk_cell BK688.out 1).trans rfl
    have hc2_ : w'.cell? ⟨gb688, 2, none⟩ = some (.int .i64 a0_2) := (blk_cell BK688.out 2).trans rfl
    have hc3_ : w'.cell? ⟨gb688, 3, none⟩ = some (.int .i64 a0_3) := (blk_cell BK688.out 3).trans rfl
    have hc4_ : w'.cell? ⟨gb688, 4, none⟩ = some (.int .i64 a0_4) := (blk_cell BK688.out 4).trans rfl
    have hc5_ : w'.cell? ⟨gb688, 5, none⟩ = some (.int .i64 a0_5) := (blk_cell BK688.out 5).trans rfl
    refine value_ (w1 := w') (v := .int .i64 a0_2) (by rfl) rfl ?_ ?_
    ·go_simp
     (try simp only [i64_w])
     try rfl
    refine hK.out _ _ ⟨v692, v697, (by rw [ha.out]; exact putSel_upk 3 hb_ rfl rfl rfl), Q_BK688, Q_HB, fun h0_ => absurd ((hoff 8 (by kernel_rfl)).symm.trans h0_) (by decide), fun h0_ => absurd ((hoff 13 (by kernel_rfl)).symm.trans h0_) (by decide)⟩
   refine steps_cons ?_ ?_
   ·rintro b a w' ⟨v692, v697, ha, Q_BK688, Q_HB, Q_HO693, Q_HO698⟩ hb_ hon hoff
    refine ⟨_, rfl, fun K hK => ?_⟩
    have e13 : a.tmps[13]? = some (.int .i64 a0_1) := by rw [ha]; exact putSel_on (e := (5, 13, .int .i64 a0_1)) 2 rfl rfl (hon 5 (by kernel_rfl)) rfl
    have e15 : a.tmps[15]? = some (.int .i64 a0_2) := by rw [ha]; exact putSel_on (e := (7, 15, .int .i64 a0_2)) 3 rfl rfl (hon 7 (by kernel_rfl)) rfl
    replace ha := Aside0.mk ha
    have BK688 := Aside0.mk Q_BK688
    have HB := Aside0.mk Q_HB
    refine Kd.R_lit_step (Kd.int .i64) _ 3 ?hg (N := 16) ?hd (xs := ([a0_1, a0_2] : List Int)) (inner := [.int .i64 a0_1, .int .i64 a0_2]) (ok := fun _ => True) (okp := fun _ => True) ?hr ?hp (fun _ hk => hk) trivial (Below.refl _ _) (Nat.le_refl _) (by simp) ?_; (case hd => rfl); (case hg => rfl); (case hr => first | (go_simp; done) | (go_simp; rfl)); (case hp => exact (Reps.one (show Kd.M (Kd.int .i64) _ _ _ a0_1 [.int .i64 a0_1] from rfl) (Reps.one (show Kd.M (Kd.int .i64) _ _ _ a0_2 [.int .i64 a0_2] from rfl) (Reps.none _ _))))
    intro v692 w14 ho15 hb hg_ hnew_
    clear hg_ hnew_
    (first | rw [← Ny691.out] at ho15 | (simp only [Int.reduceToNat] at ho15; rw [← Ny691.out] at ho15))
    have n0_ := Aside0.mk (Kd.R_lower ho15 (below_size bS))
    have n1_ := Aside0.mk (bB BK688 hb)
    have n2_ := Aside0.mk (below_step bS hb)
    clear BK688 HB
    have HO693 := n0_
    have BK688 := n1_
    have HB := n2_
    clear n0_ n1_ n2_ hb ho15
    refine hK.out _ _ ⟨v692, v697, (by rw [ha.out]; exact putSel_upk 4 hb_ rfl rfl rfl), (kB BK688.out), bS, fun _ => (kR HO693.out), fun h0_ => absurd ((hoff 13 (by kernel_rfl)).symm.trans h0_) (by decide)⟩
   refine steps_cons ?_ ?_
   ·rintro b a w' ⟨v692, v697, ha, Q_BK688, Q_HB, Q_HO693, Q_HO698⟩ hb_ hon hoff
    refine ⟨_, rfl, fun K hK => ?_⟩
    have e16 : a.tmps[16]? = some (v692) := by rw [ha]; exact putSel_on (e := (8, 16, v692)) 4 rfl rfl (hon 8 (by kernel_rfl)) rfl
    replace ha := Aside0.mk ha
    have BK688 := Aside0.mk Q_BK688
    have HB := Aside0.mk Q_HB
    have HO693 := Aside0.mk (Q_HO693 (hon 8 (by kernel_rfl)))
    obtain ⟨Ao18, co18, eo18⟩ := Kd.R_slice HO693.out
    (first | subst eo18 | (injection eo18 with f1_ f2_ f3_; have f4_ := f1_.symm; have f5_ := f3_.symm; clear f1_ f2_ f3_; subst f4_; subst f5_))
    refine goes_ Try.func28 (by kernel_rfl) rfl #[.slice Ao18 y691.length co18] (by rfl) rfl rfl (by first | (simp only [List.map_toArray, List.map_cons, List.map_nil, Act.eval, Array.getD_eq_getD_getElem?, Option.getD_some, e16]; done) | (simp only [List.map_toArray, List.map_cons, List.map_nil, Act.eval, Array.getD_eq_getD_getElem?, Option.getD_some, e16]; rfl)) ?_
    with_reducible refine (impl_Nums.calls k _ _ y691 t694 _ ?side1 ?side2 A6.out).mono ?_
    (case side1 => exact cA ((Kd.R_reads' HO693.out).2.2))
    (case side2 => exact (Kd.R_reads' HO693.out).2.1)
    rintro e w19 ⟨rfl, hb⟩
    refine ⟨_, rfl, ?_⟩
    have n_ := aT (rB HO693 hb) (aT (bB BK688 hb) (aM (below_step bS hb)))
    clear HO693 BK688 HB
    obtain ⟨HO693, BK688, HB⟩ := n_
    (try clear hb)
    (try clear hb2)
    (try clear hk)
    (try clear hi)
    refine hK.out _ _ ⟨.slice Ao18 y691.length co18, v697, (by rw [ha.out]; exact putSel_upk 5 hb_ rfl rfl rfl), (kB BK688.out), bS, fun _ => (kR HO693.out), fun h0_ => absurd ((hoff 13 (by kernel_rfl)).symm.trans h0_) (by decide)⟩
   refine steps_cons ?_ ?_
   ·rintro b a w' ⟨v692, v697, ha, Q_BK688, Q_HB, Q_HO693, Q_HO698⟩ hb_ hon hoff
    refine ⟨_, rfl, fun K hK => ?_⟩
    have e18 : a.tmps[18]? = some (.pointer (some ⟨gb688, 3, none⟩)) := by rw [ha]; exact (putSel_off rfl).trans rfl
    replace ha := Aside0.mk ha
    have BK688 := Aside0.mk Q_BK688
    have HB := Aside0.mk Q_HB
    have hc0_ : w'.cell? ⟨gb688, 0, none⟩ = some (.int .i64 a0_0) := (blk_cell BK688.out 0).trans rfl
    have hc1_ : w'.cell? ⟨gb688, 1, none⟩ = some (.int .i64 a0_1) := (blk_cell BK688.out 1).trans rfl
    have hc2_ : w'.cell? ⟨gb688, 2, none⟩ = some (.int .i64 a0_2) := (blk_cell BK688.out 2).trans rfl
    have hc3_ : w'.cell? ⟨gb688, 3, none⟩ = some (.int .i64 a0_3) := (blk_cell BK688.out 3).trans rfl
    have hc4_ : w'.cell? ⟨gb688, 4, none⟩ = some (.int .i64 a0_4) := (blk_cell BK688.out 4).trans rfl
    have hc5_ : w'.cell? ⟨gb688, 5, none⟩ = some (.int .i64 a0_5) := (blk_cell BK688.out 5).trans rfl
    refine value_ (w1 := w') (v := .agg #[.int .i64 a0_3, .int .i64 a0_4, .int .i64 a0_5]) (by rfl) rfl ?_ ?_
    ·go_simp
     (try simp only [i64_w])
     try rfl
    refine hK.out _ _ ⟨v692, v697, (by rw [ha.out]; exact putSel_upk 6 hb_ rfl rfl rfl), Q_BK688, Q_HB, Q_HO693, fun h0_ => absurd ((hoff 13 (by kernel_rfl)).symm.trans h0_) (by decide)⟩
   refine steps_cons ?_ ?_
   ·rintro b a w' ⟨v692, v697, ha, Q_BK688, Q_HB, Q_HO693, Q_HO698⟩ hb_ hon hoff
    refine ⟨_, rfl, fun K hK => ?_⟩
    have e19 : a.tmps[19]? = some (.agg #[.int .i64 a0_3, .int .i64 a0_4, .int .i64 a0_5]) := by rw [ha]; exact putSel_on (e := (11, 19, .agg #[.int .i64 a0_3, .int .i64 a0_4, .int .i64 a0_5])) 6 rfl rfl (hon 11 (by kernel_rfl)) rfl
    replace ha := Aside0.mk ha
    have BK688 := Aside0.mk Q_BK688
    have HB := Aside0.mk Q_HB
    have HO693 := Aside0.mk (Q_HO693 (hon 8 (by kernel_rfl)))
    refine goes_ Try.func20 (by kernel_rfl) rfl #[.agg #[.int .i64 a0_3, .int .i64 a0_4, .int .i64 a0_5]] (by rfl) rfl rfl (by first | (simp only [List.map_toArray, List.map_cons, List.map_nil, Act.eval, Array.getD_eq_getD_getElem?, Option.getD_some, e19]; done) | (simp only [List.map_toArray, List.map_cons, List.map_nil, Act.eval, Array.getD_eq_getD_getElem?, Option.getD_some, e19]; rfl)) ?_
    with_reducible refine (impl_ShowRest.calls k a0_3 a0_4 a0_5 t695 _ A7.out).mono ?_
    rintro e w20 ⟨rfl, hb⟩
    refine ⟨_, rfl, ?_⟩
    have n_ := aT (rB HO693 hb) (aT (bB BK688 hb) (aM (below_step bS hb)))
    clear HO693 BK688 HB
    obtain ⟨HO693, BK688, HB⟩ := n_
    (try clear hb)
    (try clear hb2)
    (try clear hk)
    (try clear hi)
    refine hK.out _ _ ⟨v692, v697, (by rw [ha.out]; exact putSel_upk 7 hb_ rfl rfl rfl), (kB BK688.out), bS, fun _ => (kR HO693.out), fun h0_ => absurd ((hoff 13 (by kernel_rfl)).symm.trans h0_) (by decide)⟩
   refine steps_cons ?_ ?_
   ·rintro b a w' ⟨v692, v697, ha, Q_BK688, Q_HB, Q_HO693, Q_HO698⟩ hb_ hon hoff
    refine ⟨_, rfl, fun K hK => ?_⟩
    have e11 : a.tmps[11]? = some (.string t690) := by rw [ha]; exact putSel_on (e := (3, 11, .string t690)) 1 rfl rfl (hon 3 (by kernel_rfl)) rfl
    have e17 : a.tmps[17]? = some (.string t694) := by rw [ha]; exact putSel_on (e := (9, 17, .string t694)) 5 rfl rfl (hon 9 (by kernel_rfl)) rfl
    have e20 : a.tmps[20]? = some (.string t695) := by rw [ha]; exact putSel_on (e := (12, 20, .string t695)) 7 rfl rfl (hon 12 (by kernel_rfl)) rfl
    replace ha := Aside0.mk ha
    have BK688 := Aside0.mk Q_BK688
    have HB := Aside0.mk Q_HB
    have HO693 := Aside0.mk (Q_HO693 (hon 8 (by kernel_rfl)))
    refine Kd.R_lit_step Kd.string _ 9 ?hg (N := 21) ?hd (xs := ([t690, t694, t695] : List ByteArray)) (inner := [.string t690, .string t694, .string t695]) (ok := fun _ => True) (okp := fun _ => True) ?hr ?hp (fun _ hk => hk) trivial (Below.refl _ _) (Nat.le_refl _) (by simp) ?_; (case hd => rfl); (case hg => rfl); (case hr => first | (go_simp; done) | (go_simp; rfl)); (case hp => exact (Reps.one (show Kd.M Kd.string _ _ _ t690 [.string t690] from rfl) (Reps.one (show Kd.M Kd.string _ _ _ t694 [.string t694] from rfl) (Reps.one (show Kd.M Kd.string _ _ _ t695 [.string t695] from rfl) (Reps.none _ _)))))
    intro v697 w21 ho22 hb hg_ hnew_
    clear hg_ hnew_
    (first | rw [← Ny696.out] at ho22 | (simp only [Int.reduceToNat] at ho22; rw [← Ny696.out] at ho22))
    have n0_ := Aside0.mk (rB HO693 hb)
    have n1_ := Aside0.mk (Kd.R_lower ho22 (below_size bS))
    have n2_ := Aside0.mk (bB BK688 hb)
    have n3_ := Aside0.mk (below_step bS hb)
    clear HO693 BK688 HB
    have HO693 := n0_
    have HO698 := n1_
    have BK688 := n2_
    have HB := n3_
    clear n0_ n1_ n2_ n3_ hb ho22
    refine hK.out _ _ ⟨v692, v697, (by rw [ha.out]; exact putSel_upk 8 hb_ rfl rfl rfl), (kB BK688.out), bS, fun _ => (kR HO693.out), fun _ => (kR HO698.out)⟩
   refine steps_cons ?_ ?_
   ·rintro b a w' ⟨v692, v697, ha, Q_BK688, Q_HB, Q_HO693, Q_HO698⟩ hb_ hon hoff
    refine ⟨_, rfl, fun K hK => ?_⟩
    have e21 : a.tmps[21]? = some (v697) := by rw [ha]; exact putSel_on (e := (13, 21, v697)) 8 rfl rfl (hon 13 (by kernel_rfl)) rfl
    replace ha := Aside0.mk ha
    have BK688 := Aside0.mk Q_BK688
    have HB := Aside0.mk Q_HB
    have HO693 := Aside0.mk (Q_HO693 (hon 8 (by kernel_rfl)))
    have HO698 := Aside0.mk (Q_HO698 (hon 13 (by kernel_rfl)))
    obtain ⟨Ao23, co23, eo23⟩ := Kd.R_slice HO698.out
    (first | subst eo23 | (injection eo23 with f1_ f2_ f3_; have f4_ := f1_.symm; have f5_ := f3_.symm; clear f1_ f2_ f3_; subst f4_; subst f5_))
    refine goes_ Try.func27 (by kernel_rfl) rfl #[.slice Ao23 y696.length co23] (by rfl) rfl rfl (by first | (simp only [List.map_toArray, List.map_cons, List.map_nil, Act.eval, Array.getD_eq_getD_getElem?, Option.getD_some, e21]; done) | (simp only [List.map_toArray, List.map_cons, List.map_nil, Act.eval, Array.getD_eq_getD_getElem?, Option.getD_some, e21]; rfl)) ?_
    with_reducible refine (impl_List.calls k _ _ y696 t699 _ ?side1 ?side2 A8.out).mono ?_
    (case side1 => exact cA ((Kd.R_reads' HO698.out).2.2))
    (case side2 => exact (Kd.R_reads' HO698.out).2.1)
    rintro e w24 ⟨rfl, hb⟩
    refine ⟨_, rfl, ?_⟩
    have n_ := aT (rB HO693 hb) (aT (rB HO698 hb) (aT (bB BK688 hb) (aM (below_step bS hb))))
    clear HO693 HO698 BK688 HB
    obtain ⟨HO693, HO698, BK688, HB⟩ := n_
    (try clear hb)
    (try clear hb2)
    (try clear hk)
    (try clear hi)
    refine hK.out _ _ ⟨v692, .slice Ao23 y696.length co23, (by rw [ha.out]; exact putSel_upk 9 hb_ rfl rfl rfl), (kB BK688.out), bS, fun _ => (kR HO693.out), fun _ => (kR HO698.out)⟩
   refine steps_cons ?_ ?_
   ·rintro b a w' ⟨v692, v697, ha, Q_BK688, Q_HB, Q_HO693, Q_HO698⟩ hb_ hon hoff
    refine ⟨_, rfl, fun K hK => ?_⟩
    have e8 : a.tmps[8]? = some (.int .i64 a1) := by rw [ha]; exact (putSel_off rfl).trans rfl
    have e22 : a.tmps[22]? = some (.string t699) := by rw [ha]; exact putSel_on (e := (14, 22, .string t699)) 9 rfl rfl (hon 14 (by kernel_rfl)) rfl
    replace ha := Aside0.mk ha
    have BK688 := Aside0.mk Q_BK688
    have HB := Aside0.mk Q_HB
    have HO693 := Aside0.mk (Q_HO693 (hon 8 (by kernel_rfl)))
    have HO698 := Aside0.mk (Q_HO698 (hon 13 (by kernel_rfl)))
    refine goes_ Try.func26 (by kernel_rfl) rfl #[.int .i64 a1, .string t699] (by rfl) rfl rfl (by first | (simp only [List.map_toArray, List.map_cons, List.map_nil, Act.eval, Array.getD_eq_getD_getElem?, Option.getD_some, e8, e22]; done) | (simp only [List.map_toArray, List.map_cons, List.map_nil, Act.eval, Array.getD_eq_getD_getElem?, Option.getD_some, e8, e22]; rfl)) ?_
    with_reducible refine (impl_Seal.calls k a1 t699 t700 _ A9.out).mono ?_
    rintro e w25 ⟨rfl, hb⟩
    refine ⟨_, rfl, ?_⟩
    have n_ := aT (rB HO693 hb) (aT (rB HO698 hb) (aT (bB BK688 hb) (aM (below_step bS hb))))
    clear HO693 HO698 BK688 HB
    obtain ⟨HO693, HO698, BK688, HB⟩ := n_
    (try clear hb)
    (try clear hb2)
    (try clear hk)
    (try clear hi)
    refine hK.out _ _ ⟨v692, v697, (by rw [ha.out]; exact putSel_upk 10 hb_ rfl rfl rfl), (kB BK688.out), bS, fun _ => (kR HO693.out), fun _ => (kR HO698.out)⟩
   refine steps_cons ?_ ?_
   ·rintro b a w' ⟨v692, v697, ha, Q_BK688, Q_HB, Q_HO693, Q_HO698⟩ hb_ hon hoff
    refine ⟨_, rfl, fun K hK => ?_⟩
    have e23 : a.tmps[23]? = some (.string t700) := by rw [ha]; exact putSel_on (e := (15, 23, .string t700)) 10 rfl rfl (hon 15 (by kernel_rfl)) rfl
    replace ha := Aside0.mk ha
    have BK688 := Aside0.mk Q_BK688
    have HB := Aside0.mk Q_HB
    have HO693 := Aside0.mk (Q_HO693 (hon 8 (by kernel_rfl)))
    have HO698 := Aside0.mk (Q_HO698 (hon 13 (by kernel_rfl)))
    refine value_ (w1 := w') (v := .string t700) (by rfl) rfl ?_ ?_
    ·go_simp
     (try simp only [i64_w])
     try rfl
    refine hK.out _ _ ⟨v692, v697, (by rw [ha.out]; exact putSel_upk 11 hb_ rfl rfl rfl), Q_BK688, Q_HB, Q_HO693, Q_HO698⟩
   exact steps_nil
  rintro b a w25 hall ⟨v692, v697, ha, Q_BK688, Q_HB, Q_HO693, Q_HO698⟩
  clear BK688 HB
  have hb2_ := hall 2 (by kernel_rfl)
  have hb3_ := hall 3 (by kernel_rfl)
  have hb5_ := hall 5 (by kernel_rfl)
  have hb7_ := hall 7 (by kernel_rfl)
  have hb8_ := hall 8 (by kernel_rfl)
  have hb9_ := hall 9 (by kernel_rfl)
  have hb11_ := hall 11 (by kernel_rfl)
  have hb12_ := hall 12 (by kernel_rfl)
  have hb13_ := hall 13 (by kernel_rfl)
  have hb14_ := hall 14 (by kernel_rfl)
  have hb15_ := hall 15 (by kernel_rfl)
  have hb16_ := hall 16 (by kernel_rfl)
  subst ha
  simp only [putSel, hb2_, hb3_, hb5_, hb7_, hb8_, hb9_, hb11_, hb12_, hb13_, hb14_, hb15_, hb16_, if_true, Act.put, List.setIfInBounds_toArray, List.set_cons_zero, List.set_cons_succ]
  have BK688 := Aside0.mk Q_BK688
  clear Q_BK688
  have HB := Aside0.mk Q_HB
  clear Q_HB
  have HO693 := Aside0.mk (Q_HO693 hb8_)
  clear Q_HO693
  have HO698 := Aside0.mk (Q_HO698 hb13_)
  clear Q_HO698 hall hb2_ hb3_ hb5_ hb7_ hb8_ hb9_ hb11_ hb12_ hb13_ hb14_ hb15_ hb16_
  try go_wp2
  go_ret
  exact ⟨eE, bS⟩
 replace c4 := Bool.eq_false_iff.mpr c4
 subst c4
 rw [if_neg nF] at H
 obtain rfl := Option.some.inj H
 go_enter Try.func15, Try.ntmps15
 go_wp2_with (first | ((with_reducible refine gD 2 rfl ?_); refine bE #[.int .i64 a0_0, .int .i64 a0_1, .int .i64 a0_2, .int .i64 a0_3, .int .i64 a0_4, .int .i64 a0_5] 43 ?_; intro gb688 hg w26 hbox hb; have n_ := aT (below_step bH hb) (aT (hbox) (aT ((bZ hg : w.heap.size ≤ gb688)) (aM ((bZ hg : w.heap.size ≤ gb688))))); clear HB; obtain ⟨HB, BK688, GW688, GE688⟩ := n_; clear hb hbox hg; obtain ⟨⟨hcz27_0, hcz27_1, hcz27_2, hcz27_3, hcz27_4, hcz27_5⟩, hfz27_0, hfz27_1, hfz27_2, hfz27_3, hfz27_4, hfz27_5⟩ := cF6 BK688) | ((with_reducible refine gC 44 rfl ?_); refine gL (some 6) Try.func44 #[.agg #[.int .i64 a0_0, .int .i64 a0_1, .int .i64 a0_2, .int .i64 a0_3, .int .i64 a0_4, .int .i64 a0_5]] ?_; (with_reducible refine (impl_grantOk.calls a0_0 a0_1 a0_2 a0_3 a0_4 a0_5 false _ A3.out).mono ?_); rintro e w28 ⟨rfl, hb⟩; refine ⟨_, rfl, ?_⟩; have n_ := aT (bB BK688 hb) (aM (below_step bS hb)); clear BK688 HB; obtain ⟨BK688, HB⟩ := n_; (try clear hb)))
 go_ret
 exact ⟨eE, bS⟩

end Go.Proofs.Ytaldemgfndmmlaa.OFnTickets
-- wrapped
-- halved
-- squeezed
-- squeezed2
-- squeezed3
