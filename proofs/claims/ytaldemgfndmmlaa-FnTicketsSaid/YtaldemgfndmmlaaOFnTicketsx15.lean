-- walks of this claim, written by a program of mine
import Derived.Test.YtaldemgfndmmlaaOFnTicketsx0
import Derived.Test.YtaldemgfndmmlaaOFnTicketsx4
import Derived.Test.YtaldemgfndmmlaaOFnTicketsx5
import Derived.Test.YtaldemgfndmmlaaOFnTicketsx8
import Derived.Test.YtaldemgfndmmlaaOFnTicketsx12
import Derived.Test.YtaldemgfndmmlaaOFnTicketsx13
import Derived.Test.YtaldemgfndmmlaaOFnTicketsx14
namespace Go.Proofs.Ytaldemgfndmmlaa.OFnTickets
open Go.RowKit Go.Proofs.Ytaldemgfndmmlaa.OWord Go.Proofs.YtaldemgfndmmlaaW.PrintWords Go.Proofs.YtaldemgfndmmlaaW.PrintLast Go.Proofs.YtaldemgfndmmlaaW.PrintMore
attribute [local go_sem] max2_int min2_int max_two min_two max_three min_three max_four min_four   -- for this text's walks alone
set_option linter.unusedVariables false
set_option linter.unusedSimpArgs false

/-! ### spec_ShowTicket: function 8 -/
def spec_ShowTicket.f (k : Nat) (a0_0 : Int) (a0_1 : Int) (a0_2 : Int) (a0_3 : Int) (a0_4 : Int) (a0_5 : Int) (l0_6 : List Int) (l0_7 : List Int) (a1 : Int) : Option (ByteArray) := (spec_l5TicketOk.f k a0_0 a0_1 a0_2 a0_3 a0_4 a0_5 l0_6 l0_7).bind fun t526 => (if t526 = true then ((spec_Nums.f k (([a0_0, a0_1] : List Int))).bind fun t530 => ((spec_KeyTerm.f k a0_2).bind fun t531 => ((spec_ShowRest.f k a0_3 a0_4 a0_5).bind fun t532 => ((spec_Nums.f k l0_6).bind fun t533 => ((spec_Nums.f k l0_7).bind fun t534 => ((spec_List.f k (([t530, t531, t532, t533, t534] : List ByteArray))).bind fun t538 => ((spec_Seal.f k a1 t538).bind fun t539 => (some t539)))))))) else (some (⟨#[]⟩ : ByteArray)))
def spec_ShowTicket.T3 : Bool × List (List Nat × List Nat) := (true, [([], []), ([], []), ([1], [1]), ([], []), ([3], [3]), ([2, 4], [2, 4]), ([5], [5]), ([], []), ([7], [7]), ([8, 6], [8]), ([], []), ([10], [10]), ([11, 9], [11]), ([], []), ([13], [13]), ([14, 12], [14]), ([], []), ([16], [16]), ([17, 15], [17]), ([6, 9, 12, 15, 18], [6, 9, 12, 15, 18]), ([19, 18], [19]), ([0, 20, 20], [0, 20]), ([21, 21, 0, 1, 2, 3, 4, 5, 6, 7, 8, 9, 10, 11, 12, 13, 14, 15, 16, 17, 18, 19, 20, 21], [21])])
def spec_ShowTicket.B3 : List Nat := [0, 0, 2, 0, 8, 30, 62, 0, 128, 510, 0, 1024, 4094, 0, 8192, 32766, 0, 65536, 262142, 524286, 1048574, 2097151, 4194303]
theorem spec_ShowTicket.tab3 : rtab .any (opsOf Try.f8 3) = spec_ShowTicket.T3 := by kernel_rfl
theorem spec_ShowTicket.bits3 : waitsOk spec_ShowTicket.T3.2 spec_ShowTicket.B3 = true := by kernel_rfl
set_option maxHeartbeats 8000000 in
set_option maxRecDepth 100000 in
theorem spec_ShowTicket.calls (k : Nat) (a0_0 : Int) (a0_1 : Int) (a0_2 : Int) (a0_3 : Int) (a0_4 : Int) (a0_5 : Int) (A0_6 : Option Addr) (c0_6 : Nat) (l0_6 : List Int) (A0_7 : Option Addr) (c0_7 : Nat) (l0_7 : List Int) (a1 : Int) (r : ByteArray) (w : World) (hr0_6 : Kd.C (Kd.int .i64) w A0_6 l0_6.length l0_6) (hc0_6 : l0_6.length ≤ c0_6) (hr0_7 : Kd.C (Kd.int .i64) w A0_7 l0_7.length l0_7) (hc0_7 : l0_7.length ≤ c0_7) (h : spec_ShowTicket.f k a0_0 a0_1 a0_2 a0_3 a0_4 a0_5 l0_6 l0_7 a1 = some r) :
  Calls Try.prog 8 #[.agg #[.int .i64 a0_0, .int .i64 a0_1, .int .i64 a0_2, .int .i64 a0_3, .int .i64 a0_4, .int .i64 a0_5, .slice A0_6 l0_6.length c0_6, .slice A0_7 l0_7.length c0_7], .int .i64 a1] w fun e w' => e = .returned (.string r) ∧ Below w.heap.size w w' := by
 have hu28 := Try.underlying28
 have hu25 := Try.underlying25
 have HR0_6 := Aside0.mk hr0_6
 have HC0_6 := Aside0.mk hc0_6
 clear hr0_6 hc0_6
 have HR0_7 := Aside0.mk hr0_7
 have HC0_7 := Aside0.mk hc0_7
 clear hr0_7 hc0_7
 have HB := Aside0.mk (Below.refl w.heap.size w)
 have H := h
 clear h
 unfold spec_ShowTicket.f at H
 obtain ⟨t526, A3, H⟩ := oB H
 by_cases c4 : t526 = true
 ·subst c4
  rw [if_pos rfl] at H
  obtain ⟨y527, hy527⟩ : ∃ y_ : List Int, y_ = (([a0_0, a0_1] : List Int)) := ⟨_, rfl⟩
  replace H : ((spec_Nums.f k y527).bind fun t530 => ((spec_KeyTerm.f k a0_2).bind fun t531 => ((spec_ShowRest.f k a0_3 a0_4 a0_5).bind fun t532 => ((spec_Nums.f k l0_6).bind fun t533 => ((spec_Nums.f k l0_7).bind fun t534 => ((spec_List.f k (([t530, t531, t532, t533, t534] : List ByteArray))).bind fun t538 => ((spec_Seal.f k a1 t538).bind fun t539 => (some t539)))))))) = some r := by first | (rw [hy527]; with_reducible exact H) | (have H2_ := (Option.bind_some _ _).symm.trans H; rw [hy527]; with_reducible exact H2_) | (have H2_ := (Option.bind_some _ _).symm.trans H; with_reducible exact H2_) | with_reducible exact H | (rw [hy527]; exact H) | exact H
  have Ny527 := Aside0.mk hy527
  clear hy527
  obtain ⟨t530, A5, H⟩ := oB H
  obtain ⟨t531, A6, H⟩ := oB H
  obtain ⟨t532, A7, H⟩ := oB H
  obtain ⟨t533, A8, H⟩ := oB H
  obtain ⟨t534, A9, H⟩ := oB H
  obtain ⟨y535, hy535⟩ : ∃ y_ : List ByteArray, y_ = (([t530, t531, t532, t533, t534] : List ByteArray)) := ⟨_, rfl⟩
  replace H : ((spec_List.f k y535).bind fun t538 => ((spec_Seal.f k a1 t538).bind fun t539 => (some t539))) = some r := by first | (rw [hy535]; with_reducible exact H) | (have H2_ := (Option.bind_some _ _).symm.trans H; rw [hy535]; with_reducible exact H2_) | (have H2_ := (Option.bind_some _ _).symm.trans H; with_reducible exact H2_) | with_reducible exact H | (rw [hy535]; exact H) | exact H
  have Ny535 := Aside0.mk hy535
  clear hy535
  obtain ⟨t538, A10, H⟩ := oB H
  obtain ⟨t539, A11, H⟩ := oB H
  obtain rfl := Option.some.inj H
  go_enter Try.func8, Try.ntmps8
  try go_wp2_with (first | ((with_reducible refine gD 2 rfl ?_); refine bE #[.int .i64 a0_0, .int .i64 a0_1, .int .i64 a0_2, .int .i64 a0_3, .int .i64 a0_4, .int .i64 a0_5, .slice A0_6 l0_6.length c0_6, .slice A0_7 l0_7.length c0_7] 28 ?_; intro gb525 hg w12 hbox hb; have n_ := aT (below_step bH hb) (aT (hbox) (aT ((bZ hg : w.heap.size ≤ gb525)) (aM ((bZ hg : w.heap.size ≤ gb525))))); clear HB; obtain ⟨HB, BK525, GW525, GE525⟩ := n_; clear hb hbox hg; obtain ⟨⟨hcz13_0, hcz13_1, hcz13_2, hcz13_3, hcz13_4, hcz13_5, hcz13_6, hcz13_7⟩, hfz13_0, hfz13_1, hfz13_2, hfz13_3, hfz13_4, hfz13_5, hfz13_6, hfz13_7⟩ := cF8 BK525) | ((with_reducible refine gC 34 rfl ?_); refine gL (some 6) Try.func34 #[.agg #[.int .i64 a0_0, .int .i64 a0_1, .int .i64 a0_2, .int .i64 a0_3, .int .i64 a0_4, .int .i64 a0_5, .slice A0_6 l0_6.length c0_6, .slice A0_7 l0_7.length c0_7]] ?_; (with_reducible refine (spec_l5TicketOk.calls k a0_0 a0_1 a0_2 a0_3 a0_4 a0_5 _ _ l0_6 _ _ l0_7 true _ ?side1 ?side2 ?side3 ?side4 A3.out).mono ?_); (case side1 => exact cA (Kd.C_below HR0_6.out HB.out)); (case side2 => exact HC0_6.out); (case side3 => exact cA (Kd.C_below HR0_7.out HB.out)); (case side4 => exact HC0_7.out); rintro e w14 ⟨rfl, hb⟩; refine ⟨_, rfl, ?_⟩; have n_ := aT (bB BK525 hb) (aM (below_step bS hb)); clear BK525 HB; obtain ⟨BK525, HB⟩ := n_; (try clear hb)))
  have n_ := aT (blk_drew BK525.out) (aM (below_drew1 HB.out))
  clear BK525 HB
  obtain ⟨BK525, HB⟩ := n_
  refine start_ (n := 23) (S := fun w' => w'.cell? ⟨gb525, 0, none⟩ = some (.int .i64 a0_0) ∧ w'.cell? ⟨gb525, 1, none⟩ = some (.int .i64 a0_1) ∧ w'.cell? ⟨gb525, 2, none⟩ = some (.int .i64 a0_2) ∧ w'.cell? ⟨gb525, 3, none⟩ = some (.int .i64 a0_3) ∧ w'.cell? ⟨gb525, 4, none⟩ = some (.int .i64 a0_4) ∧ w'.cell? ⟨gb525, 5, none⟩ = some (.int .i64 a0_5) ∧ w'.cell? ⟨gb525, 6, none⟩ = some (.slice A0_6 l0_6.length c0_6) ∧ w'.cell? ⟨gb525, 7, none⟩ = some (.slice A0_7 l0_7.length c0_7)) (ds := []) _ (by kernel_rfl) rfl rfl (cF8 BK525).1 (fun hHeld => ?_); refine with_tabW spec_ShowTicket.tab3 spec_ShowTicket.bits3 (fun HT_ HW_ => ?_)
  generalize w14.drew = w15 at BK525 HB hHeld ⊢
  refine pU HT_ 0 (some 8) (mk 23 1) rfl rfl (h := ?_)
  refine pU HT_ 1 (some 9) (mk 23 3) rfl rfl (h := ?_)
  refine pU HT_ 3 (some 11) (mk 23 11) rfl rfl (h := ?_)
  refine pU HT_ 7 (some 15) (mk 23 139) rfl rfl (h := ?_)
  refine pU HT_ 10 (some 18) (mk 23 1163) rfl rfl (h := ?_)
  refine pU HT_ 13 (some 21) (mk 23 9355) rfl rfl (h := ?_)
  refine pU HT_ 16 (some 24) (mk 23 74891) rfl rfl (h := ?_)
  refine tU HT_ HW_ 2 (some 10) (mk 23 74895) hHeld rfl rfl (by rintro w' ⟨s0, s1, s2, s3, s4, s5, s6, s7⟩; go_simp; with_reducible rfl) (h := ?_)
  refine tU HT_ HW_ 4 (some 12) (mk 23 74911) hHeld rfl rfl (by rintro w' ⟨s0, s1, s2, s3, s4, s5, s6, s7⟩; go_simp; with_reducible rfl) (h := ?_)
  refine tU HT_ HW_ 8 (some 16) (mk 23 75167) hHeld rfl rfl (by rintro w' ⟨s0, s1, s2, s3, s4, s5, s6, s7⟩; go_simp; with_reducible rfl) (h := ?_)
  refine tU HT_ HW_ 11 (some 19) (mk 23 77215) hHeld rfl rfl (by rintro w' ⟨s0, s1, s2, s3, s4, s5, s6, s7⟩; go_simp; with_reducible rfl) (h := ?_)
  refine tU HT_ HW_ 14 (some 22) (mk 23 93599) hHeld rfl rfl (by rintro w' ⟨s0, s1, s2, s3, s4, s5, s6, s7⟩; go_simp; with_reducible rfl) (h := ?_)
  refine tU HT_ HW_ 17 (some 25) (mk 23 224671) hHeld rfl rfl (by rintro w' ⟨s0, s1, s2, s3, s4, s5, s6, s7⟩; go_simp; with_reducible rfl) (h := ?_)
  refine one_ (i := 5) (N := some 13) (mk 23 224703) rfl rfl (one_of HT_.out (by kernel_rfl)) (by decide) (fun K hK => ?_)
  refine Kd.R_lit_step (Kd.int .i64) _ 3 ?hg (N := 13) ?hd (xs := ([a0_0, a0_1] : List Int)) (inner := [.int .i64 a0_0, .int .i64 a0_1]) (ok := fun _ => True) (okp := fun _ => True) ?hr ?hp (fun _ hk => hk) trivial (Below.refl _ _) (Nat.le_refl _) (by simp) ?_; (case hd => rfl); (case hg => rfl); (case hr => first | (go_simp; done) | (go_simp; rfl)); (case hp => exact (Reps.one (show Kd.M (Kd.int .i64) _ _ _ a0_0 [.int .i64 a0_0] from rfl) (Reps.one (show Kd.M (Kd.int .i64) _ _ _ a0_1 [.int .i64 a0_1] from rfl) (Reps.none _ _))))
  intro v528 w16 ho17 hb hg_ hnew_
  clear hg_ hnew_
  (first | rw [← Ny527.out] at ho17 | (simp only [Int.reduceToNat] at ho17; rw [← Ny527.out] at ho17))
  have n0_ := Aside0.mk (Kd.R_lower ho17 (below_size bS))
  have n1_ := Aside0.mk (bB BK525 hb)
  have n2_ := Aside0.mk (below_step bS hb)
  clear BK525 HB
  have HO529 := n0_
  have BK525 := n1_
  have HB := n2_
  clear n0_ n1_ n2_ hb ho17
  obtain ⟨Ao18, co18, eo18⟩ := Kd.R_slice HO529.out
  (first | subst eo18 | (injection eo18 with f1_ f2_ f3_; have f4_ := f1_.symm; have f5_ := f3_.symm; clear f1_ f2_ f3_; subst f4_; subst f5_))
  refine hK.out _ _ (cF8 BK525).1 (fun hHeld => ?_)
  clear hK K
  refine nO (some 13) (h := ?_)
  refine one_ (i := 6) (N := some 14) (mk 23 224767) rfl rfl (one_of HT_.out (by kernel_rfl)) (by decide) (fun K hK => ?_)
  refine goes_ Try.func37 (by kernel_rfl) rfl #[.slice Ao18 y527.length co18] (by rfl) rfl rfl eA ?_
  with_reducible refine (spec_Nums.calls k _ _ y527 t530 _ ?side1 ?side2 A5.out).mono ?_
  (case side1 => exact cA ((Kd.R_reads' HO529.out).2.2))
  (case side2 => exact (Kd.R_reads' HO529.out).2.1)
  rintro e w19 ⟨rfl, hb⟩
  refine ⟨_, rfl, ?_⟩
  have n_ := aT (rB HO529 hb) (aT (bB BK525 hb) (aM (below_step bS hb)))
  clear HO529 BK525 HB
  obtain ⟨HO529, BK525, HB⟩ := n_
  (try clear hb)
  (try clear hb2)
  (try clear hk)
  (try clear hi)
  refine hK.out _ _ (cF8 BK525).1 (fun hHeld => ?_)
  clear hK K
  refine nO (some 14) (h := ?_)
  refine one_ (i := 9) (N := some 17) (mk 23 225279) rfl rfl (one_of HT_.out (by kernel_rfl)) (by decide) (fun K hK => ?_)
  refine goes_ Try.func38 (by kernel_rfl) rfl #[.int .i64 a0_2] (by rfl) rfl rfl eA ?_
  with_reducible refine (spec_KeyTerm.calls k a0_2 t531 _ A6.out).mono ?_
  rintro e w20 ⟨rfl, hb⟩
  refine ⟨_, rfl, ?_⟩
  have n_ := aT (rB HO529 hb) (aT (bB BK525 hb) (aM (below_step bS hb)))
  clear HO529 BK525 HB
  obtain ⟨HO529, BK525, HB⟩ := n_
  (try clear hb)
  (try clear hb2)
  (try clear hk)
  (try clear hi)
  refine hK.out _ _ (cF8 BK525).1 (fun hHeld => ?_)
  clear hK K
  refine nO (some 17) (h := ?_)
  refine one_ (i := 12) (N := some 20) (mk 23 229375) rfl rfl (one_of HT_.out (by kernel_rfl)) (by decide) (fun K hK => ?_)
  refine goes_ Try.func39 (by kernel_rfl) rfl #[.agg #[.int .i64 a0_3, .int .i64 a0_4, .int .i64 a0_5]] (by rfl) rfl rfl eA ?_
  with_reducible refine (spec_ShowRest.calls k a0_3 a0_4 a0_5 t532 _ A7.out).mono ?_
  rintro e w21 ⟨rfl, hb⟩
  refine ⟨_, rfl, ?_⟩
  have n_ := aT (rB HO529 hb) (aT (bB BK525 hb) (aM (below_step bS hb)))
  clear HO529 BK525 HB
  obtain ⟨HO529, BK525, HB⟩ := n_
  (try clear hb)
  (try clear hb2)
  (try clear hk)
  (try clear hi)
  refine hK.out _ _ (cF8 BK525).1 (fun hHeld => ?_)
  clear hK K
  refine nO (some 20) (h := ?_)
  refine one_ (i := 15) (N := some 23) (mk 23 262143) rfl rfl (one_of HT_.out (by kernel_rfl)) (by decide) (fun K hK => ?_)
  refine goes_ Try.func37 (by kernel_rfl) rfl #[.slice A0_6 l0_6.length c0_6] (by rfl) rfl rfl eA ?_
  with_reducible refine (spec_Nums.calls k _ _ l0_6 t533 _ ?side1 ?side2 A8.out).mono ?_
  (case side1 => exact cA (Kd.C_below HR0_6.out HB.out))
  (case side2 => exact HC0_6.out)
  rintro e w22 ⟨rfl, hb⟩
  refine ⟨_, rfl, ?_⟩
  have n_ := aT (rB HO529 hb) (aT (bB BK525 hb) (aM (below_step bS hb)))
  clear HO529 BK525 HB
  obtain ⟨HO529, BK525, HB⟩ := n_
  (try clear hb)
  (try clear hb2)
  (try clear hk)
  (try clear hi)
  refine hK.out _ _ (cF8 BK525).1 (fun hHeld => ?_)
  clear hK K
  refine nO (some 23) (h := ?_)
  refine one_ (i := 18) (N := some 26) (mk 23 524287) rfl rfl (one_of HT_.out (by kernel_rfl)) (by decide) (fun K hK => ?_)
  refine goes_ Try.func37 (by kernel_rfl) rfl #[.slice A0_7 l0_7.length c0_7] (by rfl) rfl rfl eA ?_
  with_reducible refine (spec_Nums.calls k _ _ l0_7 t534 _ ?side1 ?side2 A9.out).mono ?_
  (case side1 => exact cA (Kd.C_below HR0_7.out HB.out))
  (case side2 => exact HC0_7.out)
  rintro e w23 ⟨rfl, hb⟩
  refine ⟨_, rfl, ?_⟩
  have n_ := aT (rB HO529 hb) (aT (bB BK525 hb) (aM (below_step bS hb)))
  clear HO529 BK525 HB
  obtain ⟨HO529, BK525, HB⟩ := n_
  (try clear hb)
  (try clear hb2)
  (try clear hk)
  (try clear hi)
  refine hK.out _ _ (cF8 BK525).1 (fun hHeld => ?_)
  clear hK K
  refine nO (some 26) (h := ?_)
  refine one_ (i := 19) (N := some 27) (mk 23 1048575) rfl rfl (one_of HT_.out (by kernel_rfl)) (by decide) (fun K hK => ?_)
  refine Kd.R_lit_step Kd.string _ 9 ?hg (N := 27) ?hd (xs := ([t530, t531, t532, t533, t534] : List ByteArray)) (inner := [.string t530, .string t531, .string t532, .string t533, .string t534]) (ok := fun _ => True) (okp := fun _ => True) ?hr ?hp (fun _ hk => hk) trivial (Below.refl _ _) (Nat.le_refl _) (by simp) ?_; (case hd => rfl); (case hg => rfl); (case hr => first | (go_simp; done) | (go_simp; rfl)); (case hp => exact (Reps.one (show Kd.M Kd.string _ _ _ t530 [.string t530] from rfl) (Reps.one (show Kd.M Kd.string _ _ _ t531 [.string t531] from rfl) (Reps.one (show Kd.M Kd.string _ _ _ t532 [.string t532] from rfl) (Reps.one (show Kd.M Kd.string _ _ _ t533 [.string t533] from rfl) (Reps.one (show Kd.M Kd.string _ _ _ t534 [.string t534] from rfl) (Reps.none _ _)))))))
  intro v536 w24 ho25 hb hg_ hnew_
  clear hg_ hnew_
  (first | rw [← Ny535.out] at ho25 | (simp only [Int.reduceToNat] at ho25; rw [← Ny535.out] at ho25))
  have n0_ := Aside0.mk (rB HO529 hb)
  have n1_ := Aside0.mk (Kd.R_lower ho25 (below_size bS))
  have n2_ := Aside0.mk (bB BK525 hb)
  have n3_ := Aside0.mk (below_step bS hb)
  clear HO529 BK525 HB
  have HO529 := n0_
  have HO537 := n1_
  have BK525 := n2_
  have HB := n3_
  clear n0_ n1_ n2_ n3_ hb ho25
  obtain ⟨Ao26, co26, eo26⟩ := Kd.R_slice HO537.out
  (first | subst eo26 | (injection eo26 with f1_ f2_ f3_; have f4_ := f1_.symm; have f5_ := f3_.symm; clear f1_ f2_ f3_; subst f4_; subst f5_))
  refine hK.out _ _ (cF8 BK525).1 (fun hHeld => ?_)
  clear hK K
  refine nO (some 27) (h := ?_)
  refine one_ (i := 20) (N := some 28) (mk 23 2097151) rfl rfl (one_of HT_.out (by kernel_rfl)) (by decide) (fun K hK => ?_)
  refine goes_ Try.func36 (by kernel_rfl) rfl #[.slice Ao26 y535.length co26] (by rfl) rfl rfl eA ?_
  with_reducible refine (spec_List.calls k _ _ y535 t538 _ ?side1 ?side2 A10.out).mono ?_
  (case side1 => exact cA ((Kd.R_reads' HO537.out).2.2))
  (case side2 => exact (Kd.R_reads' HO537.out).2.1)
  rintro e w27 ⟨rfl, hb⟩
  refine ⟨_, rfl, ?_⟩
  have n_ := aT (rB HO529 hb) (aT (rB HO537 hb) (aT (bB BK525 hb) (aM (below_step bS hb))))
  clear HO529 HO537 BK525 HB
  obtain ⟨HO529, HO537, BK525, HB⟩ := n_
  (try clear hb)
  (try clear hb2)
  (try clear hk)
  (try clear hi)
  refine hK.out _ _ (cF8 BK525).1 (fun hHeld => ?_)
  clear hK K
  refine nO (some 28) (h := ?_)
  refine one_ (i := 21) (N := some 29) (mk 23 4194303) rfl rfl (one_of HT_.out (by kernel_rfl)) (by decide) (fun K hK => ?_)
  refine goes_ Try.func35 (by kernel_rfl) rfl #[.int .i64 a1, .string t538] (by rfl) rfl rfl eA ?_
  with_reducible refine (spec_Seal.calls k a1 t538 t539 _ A11.out).mono ?_
  rintro e w28 ⟨rfl, hb⟩
  refine ⟨_, rfl, ?_⟩
  have n_ := aT (rB HO529 hb) (aT (rB HO537 hb) (aT (bB BK525 hb) (aM (below_step bS hb))))
  clear HO529 HO537 BK525 HB
  obtain ⟨HO529, HO537, BK525, HB⟩ := n_
  (try clear hb)
  (try clear hb2)
  (try clear hk)
  (try clear hi)
  refine hK.out _ _ (cF8 BK525).1 (fun hHeld => ?_)
  clear hK K
  refine nO (some 29) (h := ?_)
  refine pU HT_ 22 (some 4) (mk 23 8388607) rfl rfl (h := ?_)
  refine done_ (done_of HT_.out (by kernel_rfl)) ?_
  try go_wp2
  go_ret
  exact ⟨eE, bS⟩
 replace c4 := Bool.eq_false_iff.mpr c4
 subst c4
 rw [if_neg nF] at H
 obtain rfl := Option.some.inj H
 go_enter Try.func8, Try.ntmps8
 go_wp2_with (first | ((with_reducible refine gD 2 rfl ?_); refine bE #[.int .i64 a0_0, .int .i64 a0_1, .int .i64 a0_2, .int .i64 a0_3, .int .i64 a0_4, .int .i64 a0_5, .slice A0_6 l0_6.length c0_6, .slice A0_7 l0_7.length c0_7] 28 ?_; intro gb525 hg w29 hbox hb; have n_ := aT (below_step bH hb) (aT (hbox) (aT ((bZ hg : w.heap.size ≤ gb525)) (aM ((bZ hg : w.heap.size ≤ gb525))))); clear HB; obtain ⟨HB, BK525, GW525, GE525⟩ := n_; clear hb hbox hg; obtain ⟨⟨hcz30_0, hcz30_1, hcz30_2, hcz30_3, hcz30_4, hcz30_5, hcz30_6, hcz30_7⟩, hfz30_0, hfz30_1, hfz30_2, hfz30_3, hfz30_4, hfz30_5, hfz30_6, hfz30_7⟩ := cF8 BK525) | ((with_reducible refine gC 34 rfl ?_); refine gL (some 6) Try.func34 #[.agg #[.int .i64 a0_0, .int .i64 a0_1, .int .i64 a0_2, .int .i64 a0_3, .int .i64 a0_4, .int .i64 a0_5, .slice A0_6 l0_6.length c0_6, .slice A0_7 l0_7.length c0_7]] ?_; (with_reducible refine (spec_l5TicketOk.calls k a0_0 a0_1 a0_2 a0_3 a0_4 a0_5 _ _ l0_6 _ _ l0_7 false _ ?side1 ?side2 ?side3 ?side4 A3.out).mono ?_); (case side1 => exact cA (Kd.C_below HR0_6.out HB.out)); (case side2 => exact HC0_6.out); (case side3 => exact cA (Kd.C_below HR0_7.out HB.out)); (case side4 => exact HC0_7.out); rintro e w31 ⟨rfl, hb⟩; refine ⟨_, rfl, ?_⟩; have n_ := aT (bB BK525 hb) (aM (below_step bS hb)); clear BK525 HB; obtain ⟨BK525, HB⟩ := n_; (try clear hb)))
 go_ret
 exact ⟨eE, bS⟩

/-! ### laws_sameInts: function 9 -/
def laws_sameInts.l0 : Nat → List Int → List Int → Int → Option (Bool)
 | 0, _, _, _ => none
 | k + 1, x0, x1, x5 => if x5 < (x0.length : Int) then (if 0 ≤ x5 then (if x5 < (x1.length : Int) then (if (rd x0 x5) = (rd x1 x5) then (laws_sameInts.l0 k x0 x1 (wrap64 (x5 + 1))) else (some false)) else (none)) else (none)) else (some true)
def laws_sameInts.f (k : Nat) (l0 : List Int) (l1 : List Int) : Option (Bool) := if (l0.length : Int) = (l1.length : Int) then (laws_sameInts.l0 k l0 l1 0) else (some false)
set_option maxHeartbeats 8000000 in
set_option maxRecDepth 100000 in
theorem laws_sameInts.calls (k : Nat) (A0 : Option Addr) (c0 : Nat) (l0 : List Int) (A1 : Option Addr) (c1 : Nat) (l1 : List Int) (r : Bool) (w : World) (hr0 : Kd.C (Kd.int .i64) w A0 l0.length l0) (hc0 : l0.length ≤ c0) (hr1 : Kd.C (Kd.int .i64) w A1 l1.length l1) (hc1 : l1.length ≤ c1) (h : laws_sameInts.f k l0 l1 = some r) :
  Calls Try.prog 9 #[.slice A0 l0.length c0, .slice A1 l1.length c1] w fun e w' => e = .returned (.bool r) ∧ Drawn0 w w' := by
 have HR0 := Aside0.mk hr0
 have HC0 := Aside0.mk hc0
 clear hr0 hc0
 have HR1 := Aside0.mk hr1
 have HC1 := Aside0.mk hc1
 clear hr1 hc1
 have H := h
 clear h
 unfold laws_sameInts.f at H
 by_cases c3 : (l0.length : Int) = (l1.length : Int)
 ·rw [if_pos c3] at H
  have c3b0 : ((l0.length : Int) == (l1.length : Int)) = true := beq_iff_eq.mpr c3
  have c3b1 : ((l0.length : Int) != (l1.length : Int)) = false := bne_eq_false_iff_eq.mpr c3
  have c3b2 : (l0.length == l1.length) = true := by first | simpa using c3 | (simp at c3 ⊢; omega)
  clear c3
  have H' := Aside0.mk H
  clear H
  go_enter Try.func9, Try.ntmps9
  go_wp2
  repeat (go_quiet (fail); try go_wp2)
  go_loopg [5] k (fun kq v5 w' => ∃ (x5_1 : Int), v5 = .int .i64 x5_1 ∧ Aside0 (laws_sameInts.l0 kq l0 l1 x5_1 = some r) ∧ Aside0 (kq ≤ k) ∧ Drawn0 w w')
  case atStart => exact ⟨(0), eX, H', ⟨Nat.le_refl _⟩, (by repeat (first | exact Drawn0.refl _ | apply Drawn0.step))⟩
  clear H'
  try clear c1
  try clear c3
  try clear c3b0
  try clear c3b1
  try clear c3b2
  obtain ⟨x5_1, rfl, HA, HK1, ⟨m1, rfl⟩⟩ := hrel
  obtain _ | k1 := gk
  ·exact absurd HA.out (by simp [laws_sameInts.l0])
  have H := HA.out
  clear HA
  simp only [laws_sameInts.l0] at H
  by_cases c4 : x5_1 < (l0.length : Int)
  ·rw [if_pos c4] at H
   have c4b0 := decide_eq_true c4
   clear c4
   by_cases c5 : 0 ≤ x5_1
   ·rw [if_pos c5] at H
    have c5b0 := decide_eq_true c5
    clear c5
    by_cases c6 : x5_1 < (l1.length : Int)
    ·rw [if_pos c6] at H
     have c6b0 := decide_eq_true c6
     clear c6
     by_cases c7 : (rd l0 x5_1) = (rd l1 x5_1)
     ·rw [if_pos c7] at H
      have c7b0 : ((rd l0 x5_1) == (rd l1 x5_1)) = true := beq_iff_eq.mpr c7
      have c7b1 : ((rd l0 x5_1) != (rd l1 x5_1)) = false := bne_eq_false_iff_eq.mpr c7
      clear c7
      have H' := Aside0.mk H
      clear H
      have p540 : 0 ≤ (x5_1 : Int) := of_decide_eq_true aA
      have q540 : x5_1 < (l0.length : Int) := of_decide_eq_true aA
      obtain ⟨ad540, e540, hx540_0⟩ := Kd.at_int HR0.out x5_1 p540 q540
      cases e540
      replace p540 := eq_true p540
      replace q540 := eq_true q540
      have p541 : 0 ≤ (x5_1 : Int) := of_decide_eq_true aA
      have q541 : x5_1 < (l1.length : Int) := of_decide_eq_true aA
      obtain ⟨ad541, e541, hx541_0⟩ := Kd.at_int HR1.out x5_1 p541 q541
      cases e541
      replace p541 := eq_true p541
      replace q541 := eq_true q541
      go_wp2
      repeat (go_quiet (fail); try go_wp2)
      go_roundg k1
      case measure => have := HK1.out; omega
      case rel => exact ⟨(wrap64 (x5_1 + 1)), eX, H', ⟨(by have := HK1.out; omega)⟩, (by repeat (first | exact Drawn0.refl _ | apply Drawn0.step))⟩
     rw [if_neg c7] at H
     have c7b0 : ((rd l0 x5_1) == (rd l1 x5_1)) = false := beq_eq_false_iff_ne.mpr c7
     have c7b1 : ((rd l0 x5_1) != (rd l1 x5_1)) = true := bne_iff_ne.mpr c7
     obtain rfl := Option.some.inj H
     have p540 : 0 ≤ (x5_1 : Int) := of_decide_eq_true aA
     have q540 : x5_1 < (l0.length : Int) := of_decide_eq_true aA
     obtain ⟨ad540, e540, hx540_0⟩ := Kd.at_int HR0.out x5_1 p540 q540
     cases e540
     replace p540 := eq_true p540
     replace q540 := eq_true q540
     have p541 : 0 ≤ (x5_1 : Int) := of_decide_eq_true aA
     have q541 : x5_1 < (l1.length : Int) := of_decide_eq_true aA
     obtain ⟨ad541, e541, hx541_0⟩ := Kd.at_int HR1.out x5_1 p541 q541
     cases e541
     replace p541 := eq_true p541
     replace q541 := eq_true q541
     go_wp2
     repeat (go_quiet (fail); try go_wp2)
     go_ret
     exact ⟨eX, (by repeat (first | exact Drawn0.refl _ | apply Drawn0.step))⟩
    rw [if_neg c6] at H
    exact absurd H (by simp)
   rw [if_neg c5] at H
   exact absurd H (by simp)
  rw [if_neg c4] at H
  have c4b0 := decide_eq_false c4
  clear c4
  obtain rfl := Option.some.inj H
  go_wp2
  repeat (go_quiet (fail); try go_wp2)
  go_ret
  exact ⟨eX, (by repeat (first | exact Drawn0.refl _ | apply Drawn0.step))⟩
 rw [if_neg c3] at H
 have c3b0 : ((l0.length : Int) == (l1.length : Int)) = false := beq_eq_false_iff_ne.mpr c3
 have c3b1 : ((l0.length : Int) != (l1.length : Int)) = true := bne_iff_ne.mpr c3
 have c3b2 : (l0.length == l1.length) = false := by first | simpa using c3 | (simp at c3 ⊢; omega)
 obtain rfl := Option.some.inj H
 go_enter Try.func9, Try.ntmps9
 go_wp2
 repeat (go_quiet (fail); try go_wp2)
 go_ret
 exact ⟨eX, (by repeat (first | exact Drawn0.refl _ | apply Drawn0.step))⟩

/-! ### spec_l5DrawAuth: function 40 -/
def spec_l5DrawAuth.f (s0_0 : List Int) (s0_1 : Int) (s0_2 : Int) : Option (Int × Int × Int × Int × Int) := (spec_l1Below.f s0_0 s0_1 s0_2 6).bind fun bt543 => ((spec_l1Below.f s0_0 bt543.2.1 bt543.2.2 40).bind fun bt546 => ((spec_l1Below.f s0_0 bt546.2.1 bt546.2.2 9).bind fun bt549 => ((spec_l1Once.f s0_0 bt549.2.1 bt549.2.2 10).bind fun bt553 => (if bt553.1 = true then ((spec_l1Below.f s0_0 bt553.2.1 bt553.2.2 3).bind fun bt556 => (if bt556.1 = 0 then ((spec_l1PickInt.f s0_0 bt556.2.1 bt556.2.2 (([(-1), 6] : List Int))).bind fun bt562 => (some (bt562.1, bt546.1, bt549.1, bt562.2.1, bt562.2.2))) else (if bt556.1 = 1 then ((spec_l1PickInt.f s0_0 bt556.2.1 bt556.2.2 (([(-1), 100000, 100001] : List Int))).bind fun bt568 => (some (bt543.1, bt568.1, bt549.1, bt568.2.1, bt568.2.2))) else ((spec_l1PickInt.f s0_0 bt556.2.1 bt556.2.2 (([(-1), 1000000, 1000001] : List Int))).bind fun bt574 => (some (bt543.1, bt546.1, bt574.1, bt574.2.1, bt574.2.2)))))) else (some (bt543.1, bt546.1, bt549.1, bt553.2.1, bt553.2.2))))))
set_option maxHeartbeats 8000000 in
set_option maxRecDepth 100000 in
theorem spec_l5DrawAuth.calls (g : Nat) (s0_0 : List Int) (s0_1 : Int) (s0_2 : Int) (r1 : Int) (r2 : Int) (r3 : Int) (r4 : Int) (r5 : Int) (w0 w : World) (hI : IsS79 w0 w g s0_0 s0_1 s0_2) (hB : Below w0.heap.size w0 w) (h : spec_l5DrawAuth.f s0_0 s0_1 s0_2 = some (r1, r2, r3, r4, r5)) :
  Calls Try.prog 40 #[.pointer (some ⟨g, 0, none⟩)] w fun e w' => e = .returned (.agg #[.int .i64 r1, .int .i64 r2, .int .i64 r3]) ∧ IsS79 w0 w' g s0_0 r4 r5 ∧ Below w0.heap.size w0 w' ∧ KeepBut w w' g none := by
 have hu36 := Try.underlying36
 have HI0 := Aside0.mk hI
 have HK := Aside0.mk (KeepBut.refl w g none)
 have HL := Aside0.mk hB.size
 clear hI
 have HW0 := Aside0.mk hB.size
 have HB := Aside0.mk hB
 clear hB
 have H := h
 clear h
 unfold spec_l5DrawAuth.f at H
 obtain ⟨⟨t543, t544, t545⟩, A2, H⟩ := oB H
 dsimp only at H
 obtain ⟨⟨t546, t547, t548⟩, A3, H⟩ := oB H
 dsimp only at H
 obtain ⟨⟨t549, t550, t551⟩, A4, H⟩ := oB H
 dsimp only at H
 obtain ⟨⟨t553, t554, t555⟩, A5, H⟩ := oB H
 dsimp only at H
 by_cases c6 : t553 = true
 ·subst c6
  rw [if_pos rfl] at H
  obtain ⟨⟨t556, t557, t558⟩, A7, H⟩ := oB H
  dsimp only at H
  by_cases c8 : t556 = 0
  ·rw [if_pos c8] at H
   have c8b0 : (t556 == 0) = true := beq_iff_eq.mpr c8
   have c8b1 : (t556 != 0) = false := bne_eq_false_iff_eq.mpr c8
   clear c8
   obtain ⟨y559, hy559⟩ : ∃ y_ : List Int, y_ = (([(-1), 6] : List Int)) := ⟨_, rfl⟩
   replace H : ((spec_l1PickInt.f s0_0 t557 t558 y559).bind fun bt562 => (some (bt562.1, t546, t549, bt562.2.1, bt562.2.2))) = some (r1, r2, r3, r4, r5) := by first | (rw [hy559]; with_reducible exact H) | (have H2_ := (Option.bind_some _ _).symm.trans H; rw [hy559]; with_reducible exact H2_) | (have H2_ := (Option.bind_some _ _).symm.trans H; with_reducible exact H2_) | with_reducible exact H | (rw [hy559]; exact H) | exact H
   have Ny559 := Aside0.mk hy559
   clear hy559
   obtain ⟨⟨t562, t563, t564⟩, A9, H⟩ := oB H
   dsimp only at H
   simp only [Option.some.injEq, Prod.mk.injEq] at H
   obtain ⟨rfl, rfl, rfl, rfl, rfl⟩ := H
   go_enter Try.func40, Try.ntmps40
   go_wp2_with (first | ((with_reducible refine gD 2 rfl ?_); refine bE #[.int .i64 0, .int .i64 0, .int .i64 0] 36 ?_; intro gb542 hg w10 hbox hb; have n_ := aT (IsS79.below IsS79.qHI0 hb) (aT (KeepBut.trans kK (KeepBut.of_below hb g none) (.inl rfl)) (aT (below_step IsS79.bHI0 hb) (aT (hbox) (aT ((kZ hg : w.heap.size ≤ gb542)) (aT ((Nat.le_trans HW0.out (kZ hg : w.heap.size ≤ gb542) : w0.heap.size ≤ gb542)) (aT ((by rw [hg]; exact Nat.ne_of_lt (IsS79.lt (show IsS79 w0 _ g s0_0 s0_1 s0_2 from IsS79.qHI0)) : g ≠ gb542)) (aM ((by rw [hg]; exact Nat.ne_of_gt (IsS79.lt (show IsS79 w0 _ g s0_0 s0_1 s0_2 from IsS79.qHI0)) : gb542 ≠ g))))))))); clear HI0 HK HB; obtain ⟨HI0, HK, HB, BK542, GW542, GE542, NB0_542, NB542_0⟩ := n_; clear hb hbox hg) | ((with_reducible refine gC 50 rfl ?_); refine gL (some 5) Try.func50 #[.pointer (some ⟨g, 0, none⟩), .int .i64 6] ?_; (with_reducible refine (spec_l1Below.calls g s0_0 s0_1 s0_2 6 t543 t544 t545 w0 _ ?side1 ?side2 A2.out).mono ?_); (case side1 => exact IsS79.qHI0); (case side2 => exact IsS79.bHI0); rintro e w11 ⟨rfl, hi, hb, hk⟩; refine ⟨_, rfl, ?_⟩; have n_ := aT (kW hk BK542 NB542_0) (aT (KeepBut.trans kK hk (.inl rfl)) (aT (hb) (aM (hi)))); clear BK542 HK HB HI0; obtain ⟨BK542, HK, HB, HI0⟩ := n_; (try clear hb); (try clear hk); (try clear hi)) | ((with_reducible refine gC 50 rfl ?_); refine gL (some 7) Try.func50 #[.pointer (some ⟨g, 0, none⟩), .int .i64 40] ?_; (with_reducible refine (spec_l1Below.calls g s0_0 t544 t545 40 t546 t547 t548 w0 _ ?side1 ?side2 A3.out).mono ?_); (case side1 => exact IsS79.qHI0); (case side2 => exact IsS79.bHI0); rintro e w12 ⟨rfl, hi, hb, hk⟩; refine ⟨_, rfl, ?_⟩; have n_ := aT (kW hk BK542 NB542_0) (aT (KeepBut.trans kK hk (.inl rfl)) (aT (hb) (aM (hi)))); clear BK542 HK HB HI0; obtain ⟨BK542, HK, HB, HI0⟩ := n_; (try clear hb); (try clear hk); (try clear hi)) | ((with_reducible refine gC 50 rfl ?_); refine gL (some 9) Try.func50 #[.pointer (some ⟨g, 0, none⟩), .int .i64 9] ?_; (with_reducible refine (spec_l1Below.calls g s0_0 t547 t548 9 t549 t550 t551 w0 _ ?side1 ?side2 A4.out).mono ?_); (case side1 => exact IsS79.qHI0); (case side2 => exact IsS79.bHI0); rintro e w13 ⟨rfl, hi, hb, hk⟩; refine ⟨_, rfl, ?_⟩; have n_ := aT (kW hk BK542 NB542_0) (aT (KeepBut.trans kK hk (.inl rfl)) (aT (hb) (aM (hi)))); clear BK542 HK HB HI0; obtain ⟨BK542, HK, HB, HI0⟩ := n_; (try clear hb); (try clear hk); (try clear hi)) | ((with_reducible refine gD 3 rfl ?_); refine bE #[.int .i64 0, .int .i64 0, .int .i64 0] 36 ?_; intro gb552 hg w14 hbox hb; have n_ := aT (IsS79.below IsS79.qHI0 hb) (aT (bB BK542 hb) (aT (KeepBut.trans kK (KeepBut.of_below hb g none) (.inl rfl)) (aT (below_step IsS79.bHI0 hb) (aT (hbox) (aT ((kZ hg : w.heap.size ≤ gb552)) (aT ((Nat.le_trans HW0.out (kZ hg : w.heap.size ≤ gb552) : w0.heap.size ≤ gb552)) (aT (lB hg BK542) (aT (gB hg BK542) (aT ((by rw [hg]; exact Nat.ne_of_lt (IsS79.lt (show IsS79 w0 _ g s0_0 t550 t551 from IsS79.qHI0)) : g ≠ gb552)) (aM ((by rw [hg]; exact Nat.ne_of_gt (IsS79.lt (show IsS79 w0 _ g s0_0 t550 t551 from IsS79.qHI0)) : gb552 ≠ g)))))))))))); clear HI0 BK542 HK HB; obtain ⟨HI0, BK542, HK, HB, BK552, GW552, GE552, NB542_552, NB552_542, NB0_552, NB552_0⟩ := n_; clear hb hbox hg; have hnb15 := NB552_542.out; have hnc15 := NB542_552.out; have hnb16 := NB552_0.out; have hnc16 := NB0_552.out; obtain ⟨⟨hcz17_0, hcz17_1, hcz17_2⟩, hfz17_0, hfz17_1, hfz17_2⟩ := cF3 BK552) | ((with_reducible refine gC 52 rfl ?_); refine gL (some 12) Try.func52 #[.pointer (some ⟨g, 0, none⟩), .int .i64 10] ?_; (with_reducible refine (spec_l1Once.calls g s0_0 t550 t551 10 true t554 t555 w0 _ ?side1 ?side2 A5.out).mono ?_); (case side1 => exact IsS79.qHI0); (case side2 => exact IsS79.bHI0); rintro e w18 ⟨rfl, hi, hb, hk⟩; refine ⟨_, rfl, ?_⟩; have n_ := aT (kV hk NB542_552 BK542 NB542_0) (aT (KeepBut.blk hk (g' := gb552) (o := .cells #[.int .i64 t543, .int .i64 t546, .int .i64 t549] 36 (0, 0)) (bP BK552) NB552_0.out (by simp)) (aT (KeepBut.trans kK hk (.inl rfl)) (aT (hb) (aM (hi))))); clear BK542 BK552 HK HB HI0; obtain ⟨BK542, BK552, HK, HB, HI0⟩ := n_; (try clear hb); (try clear hk); (try clear hi)) | ((with_reducible refine gC 50 rfl ?_); refine gL (some 14) Try.func50 #[.pointer (some ⟨g, 0, none⟩), .int .i64 3] ?_; (with_reducible refine (spec_l1Below.calls g s0_0 t554 t555 3 t556 t557 t558 w0 _ ?side1 ?side2 A7.out).mono ?_); (case side1 => exact IsS79.qHI0); (case side2 => exact IsS79.bHI0); rintro e w19 ⟨rfl, hi, hb, hk⟩; refine ⟨_, rfl, ?_⟩; have n_ := aT (kW hk BK542 NB542_0) (aT (kW hk BK552 NB552_0) (aT (KeepBut.trans kK hk (.inl rfl)) (aT (hb) (aM (hi))))); clear BK542 BK552 HK HB HI0; obtain ⟨BK542, BK552, HK, HB, HI0⟩ := n_; (try clear hb); (try clear hk); (try clear hi)) | ((with_reducible refine gate_dst (N := 22) rfl ?_); refine Kd.R_lit (Kd.int .i64) _ 3 ?hg (N := 22) ?hd (xs := ([(-1), 6] : List Int)) (inner := [.int .i64 (-1), .int .i64 6]) (ok := fun _ => True) (okp := fun _ => True) ?hr ?hp (fun _ hk => hk) trivial (Below.refl _ _) (Nat.le_refl _) (by simp) ?_; (case hd => rfl); (case hg => rfl); (case hr => first | (go_simp; done) | (go_simp; rfl)); (case hp => exact (Reps.one (show Kd.M (Kd.int .i64) _ _ _ (-1) [.int .i64 (-1)] from rfl) (Reps.one (show Kd.M (Kd.int .i64) _ _ _ 6 [.int .i64 6] from rfl) (Reps.none _ _)))); intro v560 w20 ho21 hb hg_ hnew_; clear hg_ hnew_; (first | rw [← Ny559.out] at ho21 | (simp only [Int.reduceToNat] at ho21; rw [← Ny559.out] at ho21)); have n_ := aT (Kd.R_lower ho21 kL) (aT (IsS79.below IsS79.qHI0 hb) (aT (bB BK542 hb) (aT (bB BK552 hb) (aT (KeepBut.trans kK (KeepBut.of_below hb g none) (.inl rfl)) (aM (below_step IsS79.bHI0 hb)))))); clear HI0 BK542 BK552 HK HB; obtain ⟨HO561, HI0, BK542, BK552, HK, HB⟩ := n_; clear hb ho21; obtain ⟨Ao22, co22, eo22⟩ := Kd.R_slice HO561.out; subst eo22) | ((with_reducible refine gC 49 rfl ?_); refine gL (some 23) Try.func49 #[.pointer (some ⟨g, 0, none⟩), .slice Ao22 y559.length co22] ?_; (with_reducible refine (spec_l1PickInt.calls g s0_0 t557 t558 _ _ y559 t562 t563 t564 w0 _ ?side1 ?side2 ?side3 ?side4 ?side5 A9.out).mono ?_); (case side1 => exact IsS79.qHI0); (case side2 => exact IsS79.bHI0); (case side3 => exact cA ((Kd.R_reads' HO561.out).2.2)); (case side4 => exact (Kd.R_reads' HO561.out).2.1); (case side5 => exact far_slice (IsS79.own_ne HI0.out HO561.out (by decide))); rintro e w23 ⟨rfl, hi, hb, hk⟩; refine ⟨_, rfl, ?_⟩; have n_ := aT (kW hk BK542 NB542_0) (aT (kW hk BK552 NB552_0) (aT (IsS79.rK hk (kR HO561.out) (show IsS79 w0 _ g s0_0 t557 t558 from IsS79.qHI0)) (aT (KeepBut.trans kK hk (.inl rfl)) (aT (hb) (aM (hi)))))); clear BK542 BK552 HO561 HK HB HI0; obtain ⟨BK542, BK552, HO561, HK, HB, HI0⟩ := n_; (try clear hb); (try clear hk); (try clear hi); obtain ⟨⟨hcz24_0, hcz24_1, hcz24_2⟩, hfz24_0, hfz24_1, hfz24_2⟩ := cF3 BK552; have hnb25 := NB542_0.out; have hnc25 := NB0_542.out; obtain ⟨⟨hcz26_0, hcz26_1, hcz26_2⟩, hfz26_0, hfz26_1, hfz26_2⟩ := cF3 BK542))
   refine bodyPost_ret (results_cell_row rfl _ _ gb542 36 #[.int .i64 t562, .int .i64 t546, .int .i64 t549] (0, 0) _ rfl (bQ BK542) Try.underlying36 rfl (by kernel_rfl)) rfl ?_
   exact ⟨eE, IsS79.qHI0, IsS79.bHI0, kK⟩
  rw [if_neg c8] at H
  have c8b0 : (t556 == 0) = false := beq_eq_false_iff_ne.mpr c8
  have c8b1 : (t556 != 0) = true := bne_iff_ne.mpr c8
  by_cases c27 : t556 = 1
  ·rw [if_pos c27] at H
   have c27b0 : (t556 == 1) = true := beq_iff_eq.mpr c27
   have c27b1 : (t556 != 1) = false := bne_eq_false_iff_eq.mpr c27
   clear c27
   obtain ⟨y565, hy565⟩ : ∃ y_ : List Int, y_ = (([(-1), 100000, 100001] : List Int)) := ⟨_, rfl⟩
   replace H : ((spec_l1PickInt.f s0_0 t557 t558 y565).bind fun bt568 => (some (t543, bt568.1, t549, bt568.2.1, bt568.2.2))) = some (r1, r2, r3, r4, r5) := by first | (rw [hy565]; with_reducible exact H) | (have H2_ := (Option.bind_some _ _).symm.trans H; rw [hy565]; with_reducible exact H2_) | (have H2_ := (Option.bind_some _ _).symm.trans H; with_reducible exact H2_) | with_reducible exact H | (rw [hy565]; exact H) | exact H
   have Ny565 := Aside0.mk hy565
   clear hy565
   obtain ⟨⟨t568, t569, t570⟩, A28, H⟩ := oB H
   dsimp only at H
   simp only [Option.some.injEq, Prod.mk.injEq] at H
   obtain ⟨rfl, rfl, rfl, rfl, rfl⟩ := H
   go_enter Try.func40, Try.ntmps40
   go_wp2_with (first | ((with_reducible refine gD 2 rfl ?_); refine bE #[.int .i64 0, .int .i64 0, .int .i64 0] 36 ?_; intro gb542 hg w29 hbox hb; have n_ := aT (IsS79.below IsS79.qHI0 hb) (aT (KeepBut.trans kK (KeepBut.of_below hb g none) (.inl rfl)) (aT (below_step IsS79.bHI0 hb) (aT (hbox) (aT ((kZ hg : w.heap.size ≤ gb542)) (aT ((Nat.le_trans HW0.out (kZ hg : w.heap.size ≤ gb542) : w0.heap.size ≤ gb542)) (aT ((by rw [hg]; exact Nat.ne_of_lt (IsS79.lt (show IsS79 w0 _ g s0_0 s0_1 s0_2 from IsS79.qHI0)) : g ≠ gb542)) (aM ((by rw [hg]; exact Nat.ne_of_gt (IsS79.lt (show IsS79 w0 _ g s0_0 s0_1 s0_2 from IsS79.qHI0)) : gb542 ≠ g))))))))); clear HI0 HK HB; obtain ⟨HI0, HK, HB, BK542, GW542, GE542, NB0_542, NB542_0⟩ := n_; clear hb hbox hg) | ((with_reducible refine gC 50 rfl ?_); refine gL (some 5) Try.func50 #[.pointer (some ⟨g, 0, none⟩), .int .i64 6] ?_; (with_reducible refine (spec_l1Below.calls g s0_0 s0_1 s0_2 6 t543 t544 t545 w0 _ ?side1 ?side2 A2.out).mono ?_); (case side1 => exact IsS79.qHI0); (case side2 => exact IsS79.bHI0); rintro e w30 ⟨rfl, hi, hb, hk⟩; refine ⟨_, rfl, ?_⟩; have n_ := aT (kW hk BK542 NB542_0) (aT (KeepBut.trans kK hk (.inl rfl)) (aT (hb) (aM (hi)))); clear BK542 HK HB HI0; obtain ⟨BK542, HK, HB, HI0⟩ := n_; (try clear hb); (try clear hk); (try clear hi)) | ((with_reducible refine gC 50 rfl ?_); refine gL (some 7) Try.func50 #[.pointer (some ⟨g, 0, none⟩), .int .i64 40] ?_; (with_reducible refine (spec_l1Below.calls g s0_0 t544 t545 40 t546 t547 t548 w0 _ ?side1 ?side2 A3.out).mono ?_); (case side1 => exact IsS79.qHI0); (case side2 => exact IsS79.bHI0); rintro e w31 ⟨rfl, hi, hb, hk⟩; refine ⟨_, rfl, ?_⟩; have n_ := aT (kW hk BK542 NB542_0) (aT (KeepBut.trans kK hk (.inl rfl)) (aT (hb) (aM (hi)))); clear BK542 HK HB HI0; obtain ⟨BK542, HK, HB, HI0⟩ := n_; (try clear hb); (try clear hk); (try clear hi)) | ((with_reducible refine gC 50 rfl ?_); refine gL (some 9) Try.func50 #[.pointer (some ⟨g, 0, none⟩), .int .i64 9] ?_; (with_reducible refine (spec_l1Below.calls g s0_0 t547 t548 9 t549 t550 t551 w0 _ ?side1 ?side2 A4.out).mono ?_); (case side1 => exact IsS79.qHI0); (case side2 => exact IsS79.bHI0); rintro e w32 ⟨rfl, hi, hb, hk⟩; refine ⟨_, rfl, ?_⟩; have n_ := aT (kW hk BK542 NB542_0) (aT (KeepBut.trans kK hk (.inl rfl)) (aT (hb) (aM (hi)))); clear BK542 HK HB HI0; obtain ⟨BK542, HK, HB, HI0⟩ := n_; (try clear hb); (try clear hk); (try clear hi)) | ((with_reducible refine gD 3 rfl ?_); refine bE #[.int .i64 0, .int .i64 0, .int .i64 0] 36 ?_; intro gb552 hg w33 hbox hb; have n_ := aT (IsS79.below IsS79.qHI0 hb) (aT (bB BK542 hb) (aT (KeepBut.trans kK (KeepBut.of_below hb g none) (.inl rfl)) (aT (below_step IsS79.bHI0 hb) (aT (hbox) (aT ((kZ hg : w.heap.size ≤ gb552)) (aT ((Nat.le_trans HW0.out (kZ hg : w.heap.size ≤ gb552) : w0.heap.size ≤ gb552)) (aT (lB hg BK542) (aT (gB hg BK542) (aT ((by rw [hg]; exact Nat.ne_of_lt (IsS79.lt (show IsS79 w0 _ g s0_0 t550 t551 from IsS79.qHI0)) : g ≠ gb552)) (aM ((by rw [hg]; exact Nat.ne_of_gt (IsS79.lt (show IsS79 w0 _ g s0_0 t550 t551 from IsS79.qHI0)) : gb552 ≠ g)))))))))))); clear HI0 BK542 HK HB; obtain ⟨HI0, BK542, HK, HB, BK552, GW552, GE552, NB542_552, NB552_542, NB0_552, NB552_0⟩ := n_; clear hb hbox hg; have hnb34 := NB552_542.out; have hnc34 := NB542_552.out; have hnb35 := NB552_0.out; have hnc35 := NB0_552.out; obtain ⟨⟨hcz36_0, hcz36_1, hcz36_2⟩, hfz36_0, hfz36_1, hfz36_2⟩ := cF3 BK552) | ((with_reducible refine gC 52 rfl ?_); refine gL (some 12) Try.func52 #[.pointer (some ⟨g, 0, none⟩), .int .i64 10] ?_; (with_reducible refine (spec_l1Once.calls g s0_0 t550 t551 10 true t554 t555 w0 _ ?side1 ?side2 A5.out).mono ?_); (case side1 => exact IsS79.qHI0); (case side2 => exact IsS79.bHI0); rintro e w37 ⟨rfl, hi, hb, hk⟩; refine ⟨_, rfl, ?_⟩; have n_ := aT (kV hk NB542_552 BK542 NB542_0) (aT (KeepBut.blk hk (g' := gb552) (o := .cells #[.int .i64 t543, .int .i64 t546, .int .i64 t549] 36 (0, 0)) (bP BK552) NB552_0.out (by simp)) (aT (KeepBut.trans kK hk (.inl rfl)) (aT (hb) (aM (hi))))); clear BK542 BK552 HK HB HI0; obtain ⟨BK542, BK552, HK, HB, HI0⟩ := n_; (try clear hb); (try clear hk); (try clear hi)) | ((with_reducible refine gC 50 rfl ?_); refine gL (some 14) Try.func50 #[.pointer (some ⟨g, 0, none⟩), .int .i64 3] ?_; (with_reducible refine (spec_l1Below.calls g s0_0 t554 t555 3 t556 t557 t558 w0 _ ?side1 ?side2 A7.out).mono ?_); (case side1 => exact IsS79.qHI0); (case side2 => exact IsS79.bHI0); rintro e w38 ⟨rfl, hi, hb, hk⟩; refine ⟨_, rfl, ?_⟩; have n_ := aT (kW hk BK542 NB542_0) (aT (kW hk BK552 NB552_0) (aT (KeepBut.trans kK hk (.inl rfl)) (aT (hb) (aM (hi))))); clear BK542 BK552 HK HB HI0; obtain ⟨BK542, BK552, HK, HB, HI0⟩ := n_; (try clear hb); (try clear hk); (try clear hi)) | ((with_reducible refine gate_dst (N := 28) rfl ?_); refine Kd.R_lit (Kd.int .i64) _ 3 ?hg (N := 28) ?hd (xs := ([(-1), 100000, 100001] : List Int)) (inner := [.int .i64 (-1), .int .i64 100000, .int .i64 100001]) (ok := fun _ => True) (okp := fun _ => True) ?hr ?hp (fun _ hk => hk) trivial (Below.refl _ _) (Nat.le_refl _) (by simp) ?_; (case hd => rfl); (case hg => rfl); (case hr => first | (go_simp; done) | (go_simp; rfl)); (case hp => exact (Reps.one (show Kd.M (Kd.int .i64) _ _ _ (-1) [.int .i64 (-1)] from rfl) (Reps.one (show Kd.M (Kd.int .i64) _ _ _ 100000 [.int .i64 100000] from rfl) (Reps.one (show Kd.M (Kd.int .i64) _ _ _ 100001 [.int .i64 100001] from rfl) (Reps.none _ _))))); intro v566 w39 ho40 hb hg_ hnew_; clear hg_ hnew_; (first | rw [← Ny565.out] at ho40 | (simp only [Int.reduceToNat] at ho40; rw [← Ny565.out] at ho40)); have n_ := aT (Kd.R_lower ho40 kL) (aT (IsS79.below IsS79.qHI0 hb) (aT (bB BK542 hb) (aT (bB BK552 hb) (aT (KeepBut.trans kK (KeepBut.of_below hb g none) (.inl rfl)) (aM (below_step IsS79.bHI0 hb)))))); clear HI0 BK542 BK552 HK HB; obtain ⟨HO567, HI0, BK542, BK552, HK, HB⟩ := n_; clear hb ho40; obtain ⟨Ao41, co41, eo41⟩ := Kd.R_slice HO567.out; subst eo41) | ((with_reducible refine gC 49 rfl ?_); refine gL (some 29) Try.func49 #[.pointer (some ⟨g, 0, none⟩), .slice Ao41 y565.length co41] ?_; (with_reducible refine (spec_l1PickInt.calls g s0_0 t557 t558 _ _ y565 t568 t569 t570 w0 _ ?side1 ?side2 ?side3 ?side4 ?side5 A28.out).mono ?_); (case side1 => exact IsS79.qHI0); (case side2 => exact IsS79.bHI0); (case side3 => exact cA ((Kd.R_reads' HO567.out).2.2)); (case side4 => exact (Kd.R_reads' HO567.out).2.1); (case side5 => exact far_slice (IsS79.own_ne HI0.out HO567.out (by decide))); rintro e w42 ⟨rfl, hi, hb, hk⟩; refine ⟨_, rfl, ?_⟩; have n_ := aT (kW hk BK542 NB542_0) (aT (kW hk BK552 NB552_0) (aT (IsS79.rK hk (kR HO567.out) (show IsS79 w0 _ g s0_0 t557 t558 from IsS79.qHI0)) (aT (KeepBut.trans kK hk (.inl rfl)) (aT (hb) (aM (hi)))))); clear BK542 BK552 HO567 HK HB HI0; obtain ⟨BK542, BK552, HO567, HK, HB, HI0⟩ := n_; (try clear hb); (try clear hk); (try clear hi); obtain ⟨⟨hcz43_0, hcz43_1, hcz43_2⟩, hfz43_0, hfz43_1, hfz43_2⟩ := cF3 BK552; have hnb44 := NB542_0.out; have hnc44 := NB0_542.out; obtain ⟨⟨hcz45_0, hcz45_1, hcz45_2⟩, hfz45_0, hfz45_1, hfz45_2⟩ := cF3 BK542))
   refine bodyPost_ret (results_cell_row rfl _ _ gb542 36 #[.int .i64 t543, .int .i64 t568, .int .i64 t549] (0, 0) _ rfl (bQ BK542) Try.underlying36 rfl (by kernel_rfl)) rfl ?_
   exact ⟨eE, IsS79.qHI0, IsS79.bHI0, kK⟩
  rw [if_neg c27] at H
  have c27b0 : (t556 == 1) = false := beq_eq_false_iff_ne.mpr c27
  have c27b1 : (t556 != 1) = true := bne_iff_ne.mpr c27
  obtain ⟨y571, hy571⟩ : ∃ y_ : List Int, y_ = (([(-1), 1000000, 1000001] : List Int)) := ⟨_, rfl⟩
  replace H : ((spec_l1PickInt.f s0_0 t557 t558 y571).bind fun bt574 => (some (t543, t546, bt574.1, bt574.2.1, bt574.2.2))) = some (r1, r2, r3, r4, r5) := by first | (rw [hy571]; with_reducible exact H) | (have H2_ := (Option.bind_some _ _).symm.trans H; rw [hy571]; with_reducible exact H2_) | (have H2_ := (Option.bind_some _ _).symm.trans H; with_reducible exact H2_) | with_reducible exact H | (rw [hy571]; exact H) | exact H
  have Ny571 := Aside0.mk hy571
  clear hy571
  obtain ⟨⟨t574, t575, t576⟩, A46, H⟩ := oB H
  dsimp only at H
  simp only [Option.some.injEq, Prod.mk.injEq] at H
  obtain ⟨rfl, rfl, rfl, rfl, rfl⟩ := H
  go_enter Try.func40, Try.ntmps40
  go_wp2_with (first | ((with_reducible refine gD 2 rfl ?_); refine bE #[.int .i64 0, .int .i64 0, .int .i64 0] 36 ?_; intro gb542 hg w47 hbox hb; have n_ := aT (IsS79.below IsS79.qHI0 hb) (aT (KeepBut.trans kK (KeepBut.of_below hb g none) (.inl rfl)) (aT (below_step IsS79.bHI0 hb) (aT (hbox) (aT ((kZ hg : w.heap.size ≤ gb542)) (aT ((Nat.le_trans HW0.out (kZ hg : w.heap.size ≤ gb542) : w0.heap.size ≤ gb542)) (aT ((by rw [hg]; exact Nat.ne_of_lt (IsS79.lt (show IsS79 w0 _ g s0_0 s0_1 s0_2 from IsS79.qHI0)) : g ≠ gb542)) (aM ((by rw [hg]; exact Nat.ne_of_gt (IsS79.lt (show IsS79 w0 _ g s0_0 s0_1 s0_2 from IsS79.qHI0)) : gb542 ≠ g))))))))); clear HI0 HK HB; obtain ⟨HI0, HK, HB, BK542, GW542, GE542, NB0_542, NB542_0⟩ := n_; clear hb hbox hg) | ((with_reducible refine gC 50 rfl ?_); refine gL (some 5) Try.func50 #[.pointer (some ⟨g, 0, none⟩), .int .i64 6] ?_; (with_reducible refine (spec_l1Below.calls g s0_0 s0_1 s0_2 6 t543 t544 t545 w0 _ ?side1 ?side2 A2.out).mono ?_); (case side1 => exact IsS79.qHI0); (case side2 => exact IsS79.bHI0); rintro e w48 ⟨rfl, hi, hb, hk⟩; refine ⟨_, rfl, ?_⟩; have n_ := aT (kW hk BK542 NB542_0) (aT (KeepBut.trans kK hk (.inl rfl)) (aT (hb) (aM (hi)))); clear BK542 HK HB HI0; obtain ⟨BK542, HK, HB, HI0⟩ := n_; (try clear hb); (try clear hk); (try clear hi)) | ((with_reducible refine gC 50 rfl ?_); refine gL (some 7) Try.func50 #[.pointer (some ⟨g, 0, none⟩), .int .i64 40] ?_; (with_reducible refine (spec_l1Below.calls g s0_0 t544 t545 40 t546 t547 t548 w0 _ ?side1 ?side2 A3.out).mono ?_); (case side1 => exact IsS79.qHI0); (case side2 => exact IsS79.bHI0); rintro e w49 ⟨rfl, hi, hb, hk⟩; refine ⟨_, rfl, ?_⟩; have n_ := aT (kW hk BK542 NB542_0) (aT (KeepBut.trans kK hk (.inl rfl)) (aT (hb) (aM (hi)))); clear BK542 HK HB HI0; obtain ⟨BK542, HK, HB, HI0⟩ := n_; (try clear hb); (try clear hk); (try clear hi)) | ((with_reducible refine gC 50 rfl ?_); refine gL (some 9) Try.func50 #[.pointer (some ⟨g, 0, none⟩), .int .i64 9] ?_; (with_reducible refine (spec_l1Below.calls g s0_0 t547 t548 9 t549 t550 t551 w0 _ ?side1 ?side2 A4.out).mono ?_); (case side1 => exact IsS79.qHI0); (case side2 => exact IsS79.bHI0); rintro e w50 ⟨rfl, hi, hb, hk⟩; refine ⟨_, rfl, ?_⟩; have n_ := aT (kW hk BK542 NB542_0) (aT (KeepBut.trans kK hk (.inl rfl)) (aT (hb) (aM (hi)))); clear BK542 HK HB HI0; obtain ⟨BK542, HK, HB, HI0⟩ := n_; (try clear hb); (try clear hk); (try clear hi)) | ((with_reducible refine gD 3 rfl ?_); refine bE #[.int .i64 0, .int .i64 0, .int .i64 0] 36 ?_; intro gb552 hg w51 hbox hb; have n_ := aT (IsS79.below IsS79.qHI0 hb) (aT (bB BK542 hb) (aT (KeepBut.trans kK (KeepBut.of_below hb g none) (.inl rfl)) (aT (below_step IsS79.bHI0 hb) (aT (hbox) (aT ((kZ hg : w.heap.size ≤ gb552)) (aT ((Nat.le_trans HW0.out (kZ hg : w.heap.size ≤ gb552) : w0.heap.size ≤ gb552)) (aT (lB hg BK542) (aT (gB hg BK542) (aT ((by rw [hg]; exact Nat.ne_of_lt (IsS79.lt (show IsS79 w0 _ g s0_0 t550 t551 from IsS79.qHI0)) : g ≠ gb552)) (aM ((by rw [hg]; exact Nat.ne_of_gt (IsS79.lt (show IsS79 w0 _ g s0_0 t550 t551 from IsS79.qHI0)) : gb552 ≠ g)))))))))))); clear HI0 BK542 HK HB; obtain ⟨HI0, BK542, HK, HB, BK552, GW552, GE552, NB542_552, NB552_542, NB0_552, NB552_0⟩ := n_; clear hb hbox hg; have hnb52 := NB552_542.out; have hnc52 := NB542_552.out; have hnb53 := NB552_0.out; have hnc53 := NB0_552.out; obtain ⟨⟨hcz54_0, hcz54_1, hcz54_2⟩, hfz54_0, hfz54_1, hfz54_2⟩ := cF3 BK552) | ((with_reducible refine gC 52 rfl ?_); refine gL (some 12) Try.func52 #[.pointer (some ⟨g, 0, none⟩), .int .i64 10] ?_; (with_reducible refine (spec_l1Once.calls g s0_0 t550 t551 10 true t554 t555 w0 _ ?side1 ?side2 A5.out).mono ?_); (case side1 => exact IsS79.qHI0); (case side2 => exact IsS79.bHI0); rintro e w55 ⟨rfl, hi, hb, hk⟩; refine ⟨_, rfl, ?_⟩; have n_ := aT (kV hk NB542_552 BK542 NB542_0) (aT (KeepBut.blk hk (g' := gb552) (o := .cells #[.int .i64 t543, .int .i64 t546, .int .i64 t549] 36 (0, 0)) (bP BK552) NB552_0.out (by simp)) (aT (KeepBut.trans kK hk (.inl rfl)) (aT (hb) (aM (hi))))); clear BK542 BK552 HK HB HI0; obtain ⟨BK542, BK552, HK, HB, HI0⟩ := n_; (try clear hb); (try clear hk); (try clear hi)) | ((with_reducible refine gC 50 rfl ?_); refine gL (some 14) Try.func50 #[.pointer (some ⟨g, 0, none⟩), .int .i64 3] ?_; (with_reducible refine (spec_l1Below.calls g s0_0 t554 t555 3 t556 t557 t558 w0 _ ?side1 ?side2 A7.out).mono ?_); (case side1 => exact IsS79.qHI0); (case side2 => exact IsS79.bHI0); rintro e w56 ⟨rfl, hi, hb, hk⟩; refine ⟨_, rfl, ?_⟩; have n_ := aT (kW hk BK542 NB542_0) (aT (kW hk BK552 NB552_0) (aT (KeepBut.trans kK hk (.inl rfl)) (aT (hb) (aM (hi))))); clear BK542 BK552 HK HB HI0; obtain ⟨BK542, BK552, HK, HB, HI0⟩ := n_; (try clear hb); (try clear hk); (try clear hi)) | ((with_reducible refine gate_dst (N := 16) rfl ?_); refine Kd.R_lit (Kd.int .i64) _ 3 ?hg (N := 16) ?hd (xs := ([(-1), 1000000, 1000001] : List Int)) (inner := [.int .i64 (-1), .int .i64 1000000, .int .i64 1000001]) (ok := fun _ => True) (okp := fun _ => True) ?hr ?hp (fun _ hk => hk) trivial (Below.refl _ _) (Nat.le_refl _) (by simp) ?_; (case hd => rfl); (case hg => rfl); (case hr => first | (go_simp; done) | (go_simp; rfl)); (case hp => exact (Reps.one (show Kd.M (Kd.int .i64) _ _ _ (-1) [.int .i64 (-1)] from rfl) (Reps.one (show Kd.M (Kd.int .i64) _ _ _ 1000000 [.int .i64 1000000] from rfl) (Reps.one (show Kd.M (Kd.int .i64) _ _ _ 1000001 [.int .i64 1000001] from rfl) (Reps.none _ _))))); intro v572 w57 ho58 hb hg_ hnew_; clear hg_ hnew_; (first | rw [← Ny571.out] at ho58 | (simp only [Int.reduceToNat] at ho58; rw [← Ny571.out] at ho58)); have n_ := aT (Kd.R_lower ho58 kL) (aT (IsS79.below IsS79.qHI0 hb) (aT (bB BK542 hb) (aT (bB BK552 hb) (aT (KeepBut.trans kK (KeepBut.of_below hb g none) (.inl rfl)) (aM (below_step IsS79.bHI0 hb)))))); clear HI0 BK542 BK552 HK HB; obtain ⟨HO573, HI0, BK542, BK552, HK, HB⟩ := n_; clear hb ho58; obtain ⟨Ao59, co59, eo59⟩ := Kd.R_slice HO573.out; subst eo59) | ((with_reducible refine gC 49 rfl ?_); refine gL (some 17) Try.func49 #[.pointer (some ⟨g, 0, none⟩), .slice Ao59 y571.length co59] ?_; (with_reducible refine (spec_l1PickInt.calls g s0_0 t557 t558 _ _ y571 t574 t575 t576 w0 _ ?side1 ?side2 ?side3 ?side4 ?side5 A46.out).mono ?_); (case side1 => exact IsS79.qHI0); (case side2 => exact IsS79.bHI0); (case side3 => exact cA ((Kd.R_reads' HO573.out).2.2)); (case side4 => exact (Kd.R_reads' HO573.out).2.1); (case side5 => exact far_slice (IsS79.own_ne HI0.out HO573.out (by decide))); rintro e w60 ⟨rfl, hi, hb, hk⟩; refine ⟨_, rfl, ?_⟩; have n_ := aT (kW hk BK542 NB542_0) (aT (kW hk BK552 NB552_0) (aT (IsS79.rK hk (kR HO573.out) (show IsS79 w0 _ g s0_0 t557 t558 from IsS79.qHI0)) (aT (KeepBut.trans kK hk (.inl rfl)) (aT (hb) (aM (hi)))))); clear BK542 BK552 HO573 HK HB HI0; obtain ⟨BK542, BK552, HO573, HK, HB, HI0⟩ := n_; (try clear hb); (try clear hk); (try clear hi); obtain ⟨⟨hcz61_0, hcz61_1, hcz61_2⟩, hfz61_0, hfz61_1, hfz61_2⟩ := cF3 BK552; have hnb62 := NB542_0.out; have hnc62 := NB0_542.out; obtain ⟨⟨hcz63_0, hcz63_1, hcz63_2⟩, hfz63_0, hfz63_1, hfz63_2⟩ := cF3 BK542))
  refine bodyPost_ret (results_cell_row rfl _ _ gb542 36 #[.int .i64 t543, .int .i64 t546, .int .i64 t574] (0, 0) _ rfl (bQ BK542) Try.underlying36 rfl (by kernel_rfl)) rfl ?_
  exact ⟨eE, IsS79.qHI0, IsS79.bHI0, kK⟩
 replace c6 := Bool.eq_false_iff.mpr c6
 subst c6
 rw [if_neg nF] at H
 simp only [Option.some.injEq, Prod.mk.injEq] at H
 obtain ⟨rfl, rfl, rfl, rfl, rfl⟩ := H
 go_enter Try.func40, Try.ntmps40
 go_wp2_with (first | ((with_reducible refine gD 2 rfl ?_); refine bE #[.int .i64 0, .int .i64 0, .int .i64 0] 36 ?_; intro gb542 hg w64 hbox hb; have n_ := aT (IsS79.below IsS79.qHI0 hb) (aT (KeepBut.trans kK (KeepBut.of_below hb g none) (.inl rfl)) (aT (below_step IsS79.bHI0 hb) (aT (hbox) (aT ((kZ hg : w.heap.size ≤ gb542)) (aT ((Nat.le_trans HW0.out (kZ hg : w.heap.size ≤ gb542) : w0.heap.size ≤ gb542)) (aT ((by rw [hg]; exact Nat.ne_of_lt (IsS79.lt (show IsS79 w0 _ g s0_0 s0_1 s0_2 from IsS79.qHI0)) : g ≠ gb542)) (aM ((by rw [hg]; exact Nat.ne_of_gt (IsS79.lt (show IsS79 w0 _ g s0_0 s0_1 s0_2 from IsS79.qHI0)) : gb542 ≠ g))))))))); clear HI0 HK HB; obtain ⟨HI0, HK, HB, BK542, GW542, GE542, NB0_542, NB542_0⟩ := n_; clear hb hbox hg) | ((with_reducible refine gC 50 rfl ?_); refine gL (some 5) Try.func50 #[.pointer (some ⟨g, 0, none⟩), .int .i64 6] ?_; (with_reducible refine (spec_l1Below.calls g s0_0 s0_1 s0_2 6 t543 t544 t545 w0 _ ?side1 ?side2 A2.out).mono ?_); (case side1 => exact IsS79.qHI0); (case side2 => exact IsS79.bHI0); rintro e w65 ⟨rfl, hi, hb, hk⟩; refine ⟨_, rfl, ?_⟩; have n_ := aT (kW hk BK542 NB542_0) (aT (KeepBut.trans kK hk (.inl rfl)) (aT (hb) (aM (hi)))); clear BK542 HK HB HI0; obtain ⟨BK542, HK, HB, HI0⟩ := n_; (try clear hb); (try clear hk); (try clear hi)) | ((with_reducible refine gC 50 rfl ?_); refine gL (some 7) Try.func50 #[.pointer (some ⟨g, 0, none⟩), .int .i64 40] ?_; (with_reducible refine (spec_l1Below.calls g s0_0 t544 t545 40 t546 t547 t548 w0 _ ?side1 ?side2 A3.out).mono ?_); (case side1 => exact IsS79.qHI0); (case side2 => exact IsS79.bHI0); rintro e w66 ⟨rfl, hi, hb, hk⟩; refine ⟨_, rfl, ?_⟩; have n_ := aT (kW hk BK542 NB542_0) (aT (KeepBut.trans kK hk (.inl rfl)) (aT (hb) (aM (hi)))); clear BK542 HK HB HI0; obtain ⟨BK542, HK, HB, HI0⟩ := n_; (try clear hb); (try clear hk); (try clear hi)) | ((with_reducible refine gC 50 rfl ?_); refine gL (some 9) Try.func50 #[.pointer (some ⟨g, 0, none⟩), .int .i64 9] ?_; (with_reducible refine (spec_l1Below.calls g s0_0 t547 t548 9 t549 t550 t551 w0 _ ?side1 ?side2 A4.out).mono ?_); (case side1 => exact IsS79.qHI0); (case side2 => exact IsS79.bHI0); rintro e w67 ⟨rfl, hi, hb, hk⟩; refine ⟨_, rfl, ?_⟩; have n_ := aT (kW hk BK542 NB542_0) (aT (KeepBut.trans kK hk (.inl rfl)) (aT (hb) (aM (hi)))); clear BK542 HK HB HI0; obtain ⟨BK542, HK, HB, HI0⟩ := n_; (try clear hb); (try clear hk); (try clear hi)) | ((with_reducible refine gD 3 rfl ?_); refine bE #[.int .i64 0, .int .i64 0, .int .i64 0] 36 ?_; intro gb552 hg w68 hbox hb; have n_ := aT (IsS79.below IsS79.qHI0 hb) (aT (bB BK542 hb) (aT (KeepBut.trans kK (KeepBut.of_below hb g none) (.inl rfl)) (aT (below_step IsS79.bHI0 hb) (aT (hbox) (aT ((kZ hg : w.heap.size ≤ gb552)) (aT ((Nat.le_trans HW0.out (kZ hg : w.heap.size ≤ gb552) : w0.heap.size ≤ gb552)) (aT (lB hg BK542) (aT (gB hg BK542) (aT ((by rw [hg]; exact Nat.ne_of_lt (IsS79.lt (show IsS79 w0 _ g s0_0 t550 t551 from IsS79.qHI0)) : g ≠ gb552)) (aM ((by rw [hg]; exact Nat.ne_of_gt (IsS79.lt (show IsS79 w0 _ g s0_0 t550 t551 from IsS79.qHI0)) : gb552 ≠ g)))))))))))); clear HI0 BK542 HK HB; obtain ⟨HI0, BK542, HK, HB, BK552, GW552, GE552, NB542_552, NB552_542, NB0_552, NB552_0⟩ := n_; clear hb hbox hg; have hnb69 := NB552_542.out; have hnc69 := NB542_552.out; have hnb70 := NB552_0.out; have hnc70 := NB0_552.out; obtain ⟨⟨hcz71_0, hcz71_1, hcz71_2⟩, hfz71_0, hfz71_1, hfz71_2⟩ := cF3 BK552) | ((with_reducible refine gC 52 rfl ?_); refine gL (some 12) Try.func52 #[.pointer (some ⟨g, 0, none⟩), .int .i64 10] ?_; (with_reducible refine (spec_l1Once.calls g s0_0 t550 t551 10 false t554 t555 w0 _ ?side1 ?side2 A5.out).mono ?_); (case side1 => exact IsS79.qHI0); (case side2 => exact IsS79.bHI0); rintro e w72 ⟨rfl, hi, hb, hk⟩; refine ⟨_, rfl, ?_⟩; have n_ := aT (kV hk NB542_552 BK542 NB542_0) (aT (KeepBut.blk hk (g' := gb552) (o := .cells #[.int .i64 t543, .int .i64 t546, .int .i64 t549] 36 (0, 0)) (bP BK552) NB552_0.out (by simp)) (aT (KeepBut.trans kK hk (.inl rfl)) (aT (hb) (aM (hi))))); clear BK542 BK552 HK HB HI0; obtain ⟨BK542, BK552, HK, HB, HI0⟩ := n_; (try clear hb); (try clear hk); (try clear hi); obtain ⟨⟨hcz73_0, hcz73_1, hcz73_2⟩, hfz73_0, hfz73_1, hfz73_2⟩ := cF3 BK552; have hnb74 := NB542_0.out; have hnc74 := NB0_542.out; obtain ⟨⟨hcz75_0, hcz75_1, hcz75_2⟩, hfz75_0, hfz75_1, hfz75_2⟩ := cF3 BK542))
 refine bodyPost_ret (results_cell_row rfl _ _ gb542 36 #[.int .i64 t543, .int .i64 t546, .int .i64 t549] (0, 0) _ rfl (bP BK542) Try.underlying36 rfl (by kernel_rfl)) rfl ?_
 exact ⟨eE, IsS79.qHI0, IsS79.bHI0, kK⟩

/-! ### spec_DrawShowAuth: function 10 -/
def spec_DrawShowAuth.f (k : Nat) (l0 : List Int) : Option (Int × Int × Int × Int) := (spec_l1New.f k l0).bind fun bt578 => ((spec_l5Key.f bt578.1 bt578.2.1 bt578.2.2).bind fun bt582 => ((spec_l5DrawAuth.f bt578.1 bt582.2.1 bt582.2.2).bind fun bt585 => (some (bt585.1, bt585.2.1, bt585.2.2.1, bt582.1))))
set_option maxHeartbeats 8000000 in
set_option maxRecDepth 100000 in
theorem spec_DrawShowAuth.calls (k : Nat) (A0 : Option Addr) (c0 : Nat) (l0 : List Int) (r1 : Int) (r2 : Int) (r3 : Int) (r4 : Int) (w : World) (hr0 : Kd.C (Kd.int .u8) w A0 l0.length l0) (hc0 : l0.length ≤ c0) (h : spec_DrawShowAuth.f k l0 = some (r1, r2, r3, r4)) :
  Calls Try.prog 10 #[.slice A0 l0.length c0] w fun e w' => e = .returned (.tuple #[.agg #[.int .i64 r1, .int .i64 r2, .int .i64 r3], .int .i64 r4]) ∧ Below w.heap.size w w' := by
 have hu36 := Try.underlying36
 have HR0 := Aside0.mk hr0
 have HC0 := Aside0.mk hc0
 clear hr0 hc0
 have HB := Aside0.mk (Below.refl w.heap.size w)
 have H := h
 clear h
 unfold spec_DrawShowAuth.f at H
 obtain ⟨⟨t578, t579, t580⟩, A2, H⟩ := oB H
 dsimp only at H
 obtain ⟨⟨t582, t583, t584⟩, A3, H⟩ := oB H
 dsimp only at H
 obtain ⟨⟨t585, t586, t587, t588, t589⟩, A4, H⟩ := oB H
 dsimp only at H
 simp only [Option.some.injEq, Prod.mk.injEq] at H
 obtain ⟨rfl, rfl, rfl, rfl⟩ := H
 go_enter Try.func10, Try.ntmps10
 go_wp2_with (first | ((with_reducible refine gD 2 rfl ?_); refine bE #[.int .i64 0, .int .i64 0, .int .i64 0] 36 ?_; intro gb577 hg w5 hbox hb; have n_ := aT (below_step bH hb) (aT (hbox) (aT ((bZ hg : w.heap.size ≤ gb577)) (aM ((bZ hg : w.heap.size ≤ gb577))))); clear HB; obtain ⟨HB, BK577, GW577, GE577⟩ := n_; clear hb hbox hg) | ((with_reducible refine gC 22 rfl ?_); refine gL (some 7) Try.func22 #[.slice A0 l0.length c0] ?_; (with_reducible refine (spec_l1New.calls k _ _ l0 t578 t579 t580 w _ ?side1 ?side2 ?side3 A2.out).mono ?_); (case side1 => repeat (first | (with_reducible first | exact HB.out | apply below_alloc | apply pw_below_drewN | apply below_drew1 | refine below_set ?_ GE577.out) | exact HB.out)); (case side2 => exact HR0.out); (case side3 => exact HC0.out); rintro e w6 ⟨g581, rfl, hi, hb, hb2⟩; refine ⟨_, rfl, ?_⟩; have n_ := aT (bB BK577 hb2) (aT (hb) (aT (hi) (aT (IsS79.ne_blk hi (bB BK577 hb2) (by decide)) (aM (Ne.symm (IsS79.ne_blk hi (bB BK577 hb2) (by decide))))))); clear BK577 HB; obtain ⟨BK577, HB, HI581, NB581_577, NB577_581⟩ := n_; (try clear hb); (try clear hb2); (try clear hi)) | ((with_reducible refine gC 23 rfl ?_); refine gL (some 9) Try.func23 #[.pointer (some ⟨g581, 0, none⟩)] ?_; (with_reducible refine (spec_l5Key.calls g581 t578 t579 t580 t582 t583 t584 w _ ?side1 ?side2 A3.out).mono ?_); (case side1 => exact IsS79.qHI581); (case side2 => exact IsS79.bHI581); rintro e w7 ⟨rfl, hi, hb, hk⟩; refine ⟨_, rfl, ?_⟩; have n_ := aT (kW hk BK577 NB577_581) (aT (hb) (aM (hi))); clear BK577 HB HI581; obtain ⟨BK577, HB, HI581⟩ := n_; (try clear hb); (try clear hk); (try clear hi)) | ((with_reducible refine gC 40 rfl ?_); refine gL (some 11) Try.func40 #[.pointer (some ⟨g581, 0, none⟩)] ?_; (with_reducible refine (spec_l5DrawAuth.calls g581 t578 t583 t584 t585 t586 t587 t588 t589 w _ ?side1 ?side2 A4.out).mono ?_); (case side1 => exact IsS79.qHI581); (case side2 => exact IsS79.bHI581); rintro e w8 ⟨rfl, hi, hb, hk⟩; refine ⟨_, rfl, ?_⟩; have n_ := aT (kW hk BK577 NB577_581) (aT (hb) (aM (hi))); clear BK577 HB HI581; obtain ⟨BK577, HB, HI581⟩ := n_; (try clear hb); (try clear hk); (try clear hi); have hnb9 := NB577_581.out; have hnc9 := NB581_577.out; obtain ⟨⟨hcz10_0, hcz10_1, hcz10_2⟩, hfz10_0, hfz10_1, hfz10_2⟩ := cF3 BK577))
 refine bodyPost_ret (results_ct rfl _ _ gb577 36 #[.int .i64 t585, .int .i64 t586, .int .i64 t587] (0, 0) _ rfl (bP BK577) Try.underlying36 rfl (by kernel_rfl)) rfl ?_
 exact ⟨eE, IsS79.bHI581⟩

/-! ### impl_authOk: function 41 -/
def impl_authOk.f (a0_0 : Int) (a0_1 : Int) (a0_2 : Int) : Option (Bool) := (impl_isPrincipal.f a0_0).bind fun t591 => (if t591 = true then ((impl_isTime.f a0_1).bind fun t592 => (if t592 = true then ((impl_within.f a0_2 0 1000000).bind fun t593 => (some t593)) else (some false))) else (some false))
set_option maxHeartbeats 8000000 in
set_option maxRecDepth 100000 in
theorem impl_authOk.calls (a0_0 : Int) (a0_1 : Int) (a0_2 : Int) (r : Bool) (w : World) (h : impl_authOk.f a0_0 a0_1 a0_2 = some r) :
  Calls Try.prog 41 #[.agg #[.int .i64 a0_0, .int .i64 a0_1, .int .i64 a0_2]] w fun e w' => e = .returned (.bool r) ∧ Below w.heap.size w w' := by
 have hu36 := Try.underlying36
 have HB := Aside0.mk (Below.refl w.heap.size w)
 have H := h
 clear h
 unfold impl_authOk.f at H
 obtain ⟨t591, A2, H⟩ := oB H
 by_cases c3 : t591 = true
 ·subst c3
  rw [if_pos rfl] at H
  obtain ⟨t592, A4, H⟩ := oB H
  by_cases c5 : t592 = true
  ·subst c5
   rw [if_pos rfl] at H
   obtain ⟨t593, A6, H⟩ := oB H
   obtain rfl := Option.some.inj H
   go_enter Try.func41, Try.ntmps41
   go_wp2_with (first | ((with_reducible refine gD 1 rfl ?_); refine bE #[.int .i64 a0_0, .int .i64 a0_1, .int .i64 a0_2] 36 ?_; intro gb590 hg w7 hbox hb; have n_ := aT (below_step bH hb) (aT (hbox) (aT ((bZ hg : w.heap.size ≤ gb590)) (aM ((bZ hg : w.heap.size ≤ gb590))))); clear HB; obtain ⟨HB, BK590, GW590, GE590⟩ := n_; clear hb hbox hg; obtain ⟨⟨hcz8_0, hcz8_1, hcz8_2⟩, hfz8_0, hfz8_1, hfz8_2⟩ := cF3 BK590) | ((with_reducible refine gC 53 rfl ?_); refine gL (some 5) Try.func53 #[.int .i64 a0_0] ?_; (with_reducible refine (impl_isPrincipal.calls a0_0 true _ A2.out).mono ?_); rintro e w' ⟨rfl, ⟨nd, rfl⟩⟩; refine ⟨_, rfl, ?_⟩) | (go_at_call 75; (with_reducible refine (impl_isTime.calls a0_1 true _ A4.out).mono ?_); rintro e w' ⟨rfl, ⟨nd, rfl⟩⟩) | (go_at_call 76; (with_reducible refine (impl_within.calls a0_2 0 1000000 t593 _ A6.out).mono ?_); rintro e w' ⟨rfl, ⟨nd, rfl⟩⟩))
   go_ret
   exact ⟨eE, bS⟩
  replace c5 := Bool.eq_false_iff.mpr c5
  subst c5
  rw [if_neg nF] at H
  obtain rfl := Option.some.inj H
  go_enter Try.func41, Try.ntmps41
  go_wp2_with (first | ((with_reducible refine gD 1 rfl ?_); refine bE #[.int .i64 a0_0, .int .i64 a0_1, .int .i64 a0_2] 36 ?_; intro gb590 hg w9 hbox hb; have n_ := aT (below_step bH hb) (aT (hbox) (aT ((bZ hg : w.heap.size ≤ gb590)) (aM ((bZ hg : w.heap.size ≤ gb590))))); clear HB; obtain ⟨HB, BK590, GW590, GE590⟩ := n_; clear hb hbox hg; obtain ⟨⟨hcz10_0, hcz10_1, hcz10_2⟩, hfz10_0, hfz10_1, hfz10_2⟩ := cF3 BK590) | ((with_reducible refine gC 53 rfl ?_); refine gL (some 5) Try.func53 #[.int .i64 a0_0] ?_; (with_reducible refine (impl_isPrincipal.calls a0_0 true _ A2.out).mono ?_); rintro e w' ⟨rfl, ⟨nd, rfl⟩⟩; refine ⟨_, rfl, ?_⟩) | (go_at_call 75; (with_reducible refine (impl_isTime.calls a0_1 false _ A4.out).mono ?_); rintro e w' ⟨rfl, ⟨nd, rfl⟩⟩))
  go_ret
  exact ⟨eE, bS⟩
 replace c3 := Bool.eq_false_iff.mpr c3
 subst c3
 rw [if_neg nF] at H
 obtain rfl := Option.some.inj H
 go_enter Try.func41, Try.ntmps41
 go_wp2_with (first | ((with_reducible refine gD 1 rfl ?_); refine bE #[.int .i64 a0_0, .int .i64 a0_1, .int .i64 a0_2] 36 ?_; intro gb590 hg w11 hbox hb; have n_ := aT (below_step bH hb) (aT (hbox) (aT ((bZ hg : w.heap.size ≤ gb590)) (aM ((bZ hg : w.heap.size ≤ gb590))))); clear HB; obtain ⟨HB, BK590, GW590, GE590⟩ := n_; clear hb hbox hg; obtain ⟨⟨hcz12_0, hcz12_1, hcz12_2⟩, hfz12_0, hfz12_1, hfz12_2⟩ := cF3 BK590) | ((with_reducible refine gC 53 rfl ?_); refine gL (some 5) Try.func53 #[.int .i64 a0_0] ?_; (with_reducible refine (impl_isPrincipal.calls a0_0 false _ A2.out).mono ?_); rintro e w' ⟨rfl, ⟨nd, rfl⟩⟩; refine ⟨_, rfl, ?_⟩))
 go_ret
 exact ⟨eE, bS⟩

end Go.Proofs.Ytaldemgfndmmlaa.OFnTickets
-- wrapped
-- halved
-- squeezed
-- squeezed2
-- squeezed3
