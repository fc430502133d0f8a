-- walks of this claim, written by a program of mine
import Derived.Test.YtaldemgfndmmlaaOFnTicketsx0
import Derived.Test.YtaldemgfndmmlaaOFnTicketsx5
import Derived.Test.YtaldemgfndmmlaaOFnTicketsx6
import Derived.Test.YtaldemgfndmmlaaOFnTicketsx7
import Derived.Test.YtaldemgfndmmlaaOFnTicketsx8
namespace Go.Proofs.Ytaldemgfndmmlaa.OFnTickets
open Go.RowKit Go.Proofs.Ytaldemgfndmmlaa.OWord Go.Proofs.YtaldemgfndmmlaaW.PrintWords Go.Proofs.YtaldemgfndmmlaaW.PrintLast Go.Proofs.YtaldemgfndmmlaaW.PrintMore
attribute [local go_sem] max2_int min2_int max_two min_two max_three min_three max_four min_four   -- for this text's walks alone
set_option linter.unusedVariables false
set_option linter.unusedSimpArgs false

/-! ### impl_Seal: function 26 -/
def impl_Seal.j0 : Nat → Int → ByteArray → Bool → Option (ByteArray)
 | 0, _, _, _ => none
 | k + 1, x0, x1, x12 => if x12 = true then (some (⟨#[]⟩ : ByteArray)) else ((impl_Var.f k x0).bind fun t355 => (if 1 + t355.size ≤ 9223372036854775807 then (if ((⟨#[115]⟩ : ByteArray) ++ t355).size + x1.size ≤ 9223372036854775807 then ((impl_term.f k (((⟨#[115]⟩ : ByteArray) ++ t355) ++ x1)).bind fun t356 => (some t356)) else (none)) else (none)))
def impl_Seal.f (k : Nat) (a0 : Int) (a1 : ByteArray) : Option (ByteArray) := (impl_TermOk.f k a1).bind fun t353 => (if t353 = true then ((impl_isKey.f a0).bind fun t354 => (impl_Seal.j0 k a0 a1 (!t354))) else (impl_Seal.j0 k a0 a1 true))
set_option maxHeartbeats 8000000 in
set_option maxRecDepth 100000 in
theorem impl_Seal.calls (k : Nat) (a0 : Int) (a1 : ByteArray) (r : ByteArray) (w : World) (h : impl_Seal.f k a0 a1 = some r) :
  Calls Try.prog 26 #[.int .i64 a0, .string a1] w fun e w' => e = .returned (.string r) ∧ Below w.heap.size w w' := by
 have HB := Aside0.mk (Below.refl w.heap.size w)
 have H := h
 clear h
 unfold impl_Seal.f at H
 have HC3 := Aside0.mk H
 clear H
 go_enter Try.func26, Try.ntmps26
 go_upto_region 1 with (fail)
 go_cut [12] (fun v12 wc => ∃ (kq : Nat) (x12_2 : Bool), v12 = .bool x12_2 ∧ Aside0 (impl_Seal.j0 kq a0 a1 x12_2 = some r) ∧ Aside0 (kq ≤ k) ∧ Aside0 (Below w.heap.size w wc))
 case first =>
  have H := HC3.out
  clear HC3
  obtain ⟨t353, A4, H⟩ := oB H
  by_cases c5 : t353 = true
  ·subst c5
   rw [if_pos rfl] at H
   obtain ⟨t354, A6, H⟩ := oB H
   have H' := Aside0.mk H
   clear H
   go_wp2_with (first | ((with_reducible refine gC 59 rfl ?_); refine gL (some 6) Try.func59 #[.string a1] ?_; (with_reducible refine (impl_TermOk.calls k a1 true _ A4.out).mono ?_); rintro e w7 ⟨rfl, hb⟩; refine ⟨_, rfl, ?_⟩; have n_ := aM (below_step bH hb); clear HB; have HB := n_; clear n_; (try clear hb)) | (go_at_call 55; (with_reducible refine (impl_isKey.calls a0 t354 _ A6.out).mono ?_); rintro e w' ⟨rfl, ⟨nd, rfl⟩⟩))
   go_meet
   case rel => exact ⟨_, (!t354), eX, H', ⟨(by first | omega | exact Nat.le_refl _)⟩, ⟨bH⟩⟩
  replace c5 := Bool.eq_false_iff.mpr c5
  subst c5
  rw [if_neg nF] at H
  have H' := Aside0.mk H
  clear H
  go_wp2_with (first | ((with_reducible refine gC 59 rfl ?_); refine gL (some 6) Try.func59 #[.string a1] ?_; (with_reducible refine (impl_TermOk.calls k a1 false _ A4.out).mono ?_); rintro e w8 ⟨rfl, hb⟩; refine ⟨_, rfl, ?_⟩; have n_ := aM (below_step bH hb); clear HB; have HB := n_; clear n_; (try clear hb)))
  go_meet
  case rel => exact ⟨_, (true), eX, H', ⟨(by first | omega | exact Nat.le_refl _)⟩, ⟨bH⟩⟩
 clear HC3
 obtain ⟨kq, x12_2, rfl, HA, HJ2, HB⟩ := hcut
 obtain _ | kj2 := kq
 ·exact absurd HA.out (by simp [impl_Seal.j0])
 have H := HA.out
 clear HA
 simp only [impl_Seal.j0] at H
 by_cases c9 : x12_2 = true
 ·subst c9
  rw [if_pos rfl] at H
  obtain rfl := Option.some.inj H
  go_wp2
  go_ret
  exact ⟨eE, bH⟩
 replace c9 := Bool.eq_false_iff.mpr c9
 subst c9
 rw [if_neg nF] at H
 obtain ⟨t355, A10, H⟩ := oB H
 by_cases c11 : 1 + t355.size ≤ 9223372036854775807
 ·rw [if_pos c11] at H
  have c11b0 := eq_true c11
  have c11b1 := decide_eq_true c11
  try have c11b2 : (9223372036854775807 < 1 + t355.size) = False := eq_false (Nat.not_lt.2 c11)
  by_cases c12 : ((⟨#[115]⟩ : ByteArray) ++ t355).size + a1.size ≤ 9223372036854775807
  ·rw [if_pos c12] at H
   have c12b0 := eq_true c12
   have c12b1 := decide_eq_true c12
   try have c12b2 : (9223372036854775807 < ((⟨#[115]⟩ : ByteArray) ++ t355).size + a1.size) = False := eq_false (Nat.not_lt.2 c12)
   obtain ⟨t356, A13, H⟩ := oB H
   obtain rfl := Option.some.inj H
   go_wp2_with (first | ((with_reducible refine gC 61 rfl ?_); refine gL (some 14) Try.func61 #[.int .i64 a0] ?_; (with_reducible refine (impl_Var.calls kj2 a0 t355 _ A10.out).mono ?_); rintro e w14 ⟨rfl, hb⟩; refine ⟨_, rfl, ?_⟩; have n_ := aM (below_step bH hb); clear HB; have HB := n_; clear n_; (try clear hb)) | ((with_reducible refine gC 60 rfl ?_); refine gL (some 18) Try.func60 #[.string (((⟨#[115]⟩ : ByteArray) ++ t355) ++ a1)] ?_; (with_reducible refine (impl_term.calls kj2 (((⟨#[115]⟩ : ByteArray) ++ t355) ++ a1) t356 _ A13.out).mono ?_); rintro e w15 ⟨rfl, hb⟩; refine ⟨_, rfl, ?_⟩; have n_ := aM (below_step bH hb); clear HB; have HB := n_; clear n_; (try clear hb)))
   go_ret
   exact ⟨eE, bH⟩
  rw [if_neg c12] at H
  exact absurd H (by simp)
 rw [if_neg c11] at H
 exact absurd H (by simp)

/-! ### impl_KeyTerm: function 29 -/
def impl_KeyTerm.f (k : Nat) (a0 : Int) : Option (ByteArray) := (impl_Var.f k a0).bind fun t357 => (if 1 + t357.size ≤ 9223372036854775807 then ((impl_term.f k ((⟨#[107]⟩ : ByteArray) ++ t357)).bind fun t358 => (some t358)) else (none))
set_option maxHeartbeats 8000000 in
set_option maxRecDepth 100000 in
theorem impl_KeyTerm.calls (k : Nat) (a0 : Int) (r : ByteArray) (w : World) (h : impl_KeyTerm.f k a0 = some r) :
  Calls Try.prog 29 #[.int .i64 a0] w fun e w' => e = .returned (.string r) ∧ Below w.heap.size w w' := by
 have HB := Aside0.mk (Below.refl w.heap.size w)
 have H := h
 clear h
 unfold impl_KeyTerm.f at H
 obtain ⟨t357, A2, H⟩ := oB H
 by_cases c3 : 1 + t357.size ≤ 9223372036854775807
 ·rw [if_pos c3] at H
  have c3b0 := eq_true c3
  have c3b1 := decide_eq_true c3
  try have c3b2 : (9223372036854775807 < 1 + t357.size) = False := eq_false (Nat.not_lt.2 c3)
  obtain ⟨t358, A4, H⟩ := oB H
  obtain rfl := Option.some.inj H
  go_enter Try.func29, Try.ntmps29
  go_wp2_with (first | ((with_reducible refine gC 61 rfl ?_); refine gL (some 4) Try.func61 #[.int .i64 a0] ?_; (with_reducible refine (impl_Var.calls k a0 t357 _ A2.out).mono ?_); rintro e w5 ⟨rfl, hb⟩; refine ⟨_, rfl, ?_⟩; have n_ := aM (below_step bH hb); clear HB; have HB := n_; clear n_; (try clear hb)) | ((with_reducible refine gC 60 rfl ?_); refine gL (some 6) Try.func60 #[.string ((⟨#[107]⟩ : ByteArray) ++ t357)] ?_; (with_reducible refine (impl_term.calls k ((⟨#[107]⟩ : ByteArray) ++ t357) t358 _ A4.out).mono ?_); rintro e w6 ⟨rfl, hb⟩; refine ⟨_, rfl, ?_⟩; have n_ := aM (below_step bH hb); clear HB; have HB := n_; clear n_; (try clear hb)))
  go_ret
  exact ⟨eE, bH⟩
 rw [if_neg c3] at H
 exact absurd H (by simp)

/-! ### impl_ShowTicket: function 6 -/
def impl_ShowTicket.f (k : Nat) (a0_0 : Int) (a0_1 : Int) (a0_2 : Int) (a0_3 : Int) (a0_4 : Int) (a0_5 : Int) (l0_6 : List Int) (l0_7 : List Int) (a1 : Int) : Option (ByteArray) := (impl_ticketOk.f k a0_0 a0_1 a0_2 a0_3 a0_4 a0_5 l0_6 l0_7).bind fun t360 => (if t360 = true then ((impl_Nums.f k (([a0_0, a0_1] : List Int))).bind fun t364 => ((impl_KeyTerm.f k a0_2).bind fun t365 => ((impl_ShowRest.f k a0_3 a0_4 a0_5).bind fun t366 => ((impl_Nums.f k l0_6).bind fun t367 => ((impl_Nums.f k l0_7).bind fun t368 => ((impl_List.f k (([t364, t365, t366, t367, t368] : List ByteArray))).bind fun t372 => ((impl_Seal.f k a1 t372).bind fun t373 => (some t373)))))))) else (some (⟨#[]⟩ : ByteArray)))
def impl_ShowTicket.T3 : Bool × List (List Nat × List Nat) := (true, [([], []), ([], []), ([1], [1]), ([], []), ([3], [3]), ([2, 4], [2, 4]), ([5], [5]), ([], []), ([7], [7]), ([8, 6], [8]), ([], []), ([10], [10]), ([11, 9], [11]), ([], []), ([13], [13]), ([14, 12], [14]), ([], []), ([16], [16]), ([17, 15], [17]), ([6, 9, 12, 15, 18], [6, 9, 12, 15, 18]), ([19, 18], [19]), ([0, 20, 20], [0, 20]), ([21, 21, 0, 1, 2, 3, 4, 5, 6, 7, 8, 9, 10, 11, 12, 13, 14, 15, 16, 17, 18, 19, 20, 21], [21])])
def impl_ShowTicket.B3 : List Nat := [0, 0, 2, 0, 8, 30, 62, 0, 128, 510, 0, 1024, 4094, 0, 8192, 32766, 0, 65536, 262142, 524286, 1048574, 2097151, 4194303]
theorem impl_ShowTicket.tab3 : rtab .any (opsOf Try.f6 3) = impl_ShowTicket.T3 := by kernel_rfl
theorem impl_ShowTicket.bits3 : waitsOk impl_ShowTicket.T3.2 impl_ShowTicket.B3 = true := by kernel_rfl
set_option maxHeartbeats 8000000 in
set_option maxRecDepth 100000 in
theorem impl_ShowTicket.calls (k : Nat) (a0_0 : Int) (a0_1 : Int) (a0_2 : Int) (a0_3 : Int) (a0_4 : Int) (a0_5 : Int) (A0_6 : Option Addr) (c0_6 : Nat) (l0_6 : List Int) (A0_7 : Option Addr) (c0_7 : Nat) (l0_7 : List Int) (a1 : Int) (r : ByteArray) (w : World) (hr0_6 : Kd.C (Kd.int .i64) w A0_6 l0_6.length l0_6) (hc0_6 : l0_6.length ≤ c0_6) (hr0_7 : Kd.C (Kd.int .i64) w A0_7 l0_7.length l0_7) (hc0_7 : l0_7.length ≤ c0_7) (h : impl_ShowTicket.f k a0_0 a0_1 a0_2 a0_3 a0_4 a0_5 l0_6 l0_7 a1 = some r) :
  Calls Try.prog 6 #[.agg #[.int .i64 a0_0, .int .i64 a0_1, .int .i64 a0_2, .int .i64 a0_3, .int .i64 a0_4, .int .i64 a0_5, .slice A0_6 l0_6.length c0_6, .slice A0_7 l0_7.length c0_7], .int .i64 a1] w fun e w' => e = .returned (.string r) ∧ Below w.heap.size w w' := by
 have hu28 := Try.underlying28
 have hu25 := Try.underlying25
 have HR0_6 := Aside0.mk hr0_6
 have HC0_6 := Aside0.mk hc0_6
 clear hr0_6 hc0_6
 have HR0_7 := Aside0.mk hr0_7
 have HC0_7 := Aside0.mk hc0_7
 clear hr0_7 hc0_7
 have HB := Aside0.mk (Below.refl w.heap.size w)
 have H := h
 clear h
 unfold impl_ShowTicket.f at H
 obtain ⟨t360, A3, H⟩ := oB H
 by_cases c4 : t360 = true
 ·subst c4
  rw [if_pos rfl] at H
  obtain ⟨y361, hy361⟩ : ∃ y_ : List Int, y_ = (([a0_0, a0_1] : List Int)) := ⟨_, rfl⟩
  replace H : ((impl_Nums.f k y361).bind fun t364 => ((impl_KeyTerm.f k a0_2).bind fun t365 => ((impl_ShowRest.f k a0_3 a0_4 a0_5).bind fun t366 => ((impl_Nums.f k l0_6).bind fun t367 => ((impl_Nums.f k l0_7).bind fun t368 => ((impl_List.f k (([t364, t365, t366, t367, t368] : List ByteArray))).bind fun t372 => ((impl_Seal.f k a1 t372).bind fun t373 => (some t373)))))))) = some r := by first | (rw [hy361]; with_reducible exact H) | (have H2_ := (Option.bind_some _ _).symm.trans H; rw [hy361]; with_reducible exact H2_) | (have H2_ := (Option.bind_some _ _).symm.trans H; with_reducible exact H2_) | with_reducible exact H | (rw [hy361]; exact H) | exact H
  have Ny361 := Aside0.mk hy361
  clear hy361
  obtain ⟨t364, A5, H⟩ := oB H
  obtain ⟨t365, A6, H⟩ := oB H
  obtain ⟨t366, A7, H⟩ := oB H
  obtain ⟨t367, A8, H⟩ := oB H
  obtain ⟨t368, A9, H⟩ := oB H
  obtain ⟨y369, hy369⟩ : ∃ y_ : List ByteArray, y_ = (([t364, t365, t366, t367, t368] : List ByteArray)) := ⟨_, rfl⟩
  replace H : ((impl_List.f k y369).bind fun t372 => ((impl_Seal.f k a1 t372).bind fun t373 => (some t373))) = some r := by first | (rw [hy369]; with_reducible exact H) | (have H2_ := (Option.bind_some _ _).symm.trans H; rw [hy369]; with_reducible exact H2_) | (have H2_ := (Option.bind_some _ _).symm.trans H; with_reducible exact H2_) | with_reducible exact H | (rw [hy369]; exact H) | exact H
  have Ny369 := Aside0.mk hy369
  clear hy369
  obtain ⟨t372, A10, H⟩ := oB H
  obtain ⟨t373, A11, H⟩ := oB H
  obtain rfl := Option.some.inj H
  go_enter Try.func6, Try.ntmps6
  try go_wp2_with (first | ((with_reducible refine gD 2 rfl ?_); refine bE #[.int .i64 a0_0, .int .i64 a0_1, .int .i64 a0_2, .int .i64 a0_3, .int .i64 a0_4, .int .i64 a0_5, .slice A0_6 l0_6.length c0_6, .slice A0_7 l0_7.length c0_7] 28 ?_; intro gb359 hg w12 hbox hb; have n_ := aT (below_step bH hb) (aT (hbox) (aT ((bZ hg : w.heap.size ≤ gb359)) (aM ((bZ hg : w.heap.size ≤ gb359))))); clear HB; obtain ⟨HB, BK359, GW359, GE359⟩ := n_; clear hb hbox hg; obtain ⟨⟨hcz13_0, hcz13_1, hcz13_2, hcz13_3, hcz13_4, hcz13_5, hcz13_6, hcz13_7⟩, hfz13_0, hfz13_1, hfz13_2, hfz13_3, hfz13_4, hfz13_5, hfz13_6, hfz13_7⟩ := cF8 BK359) | ((with_reducible refine gC 25 rfl ?_); refine gL (some 6) Try.func25 #[.agg #[.int .i64 a0_0, .int .i64 a0_1, .int .i64 a0_2, .int .i64 a0_3, .int .i64 a0_4, .int .i64 a0_5, .slice A0_6 l0_6.length c0_6, .slice A0_7 l0_7.length c0_7]] ?_; (with_reducible refine (impl_ticketOk.calls k a0_0 a0_1 a0_2 a0_3 a0_4 a0_5 _ _ l0_6 _ _ l0_7 true _ ?side1 ?side2 ?side3 ?side4 A3.out).mono ?_); (case side1 => exact cA (Kd.C_below HR0_6.out HB.out)); (case side2 => exact HC0_6.out); (case side3 => exact cA (Kd.C_below HR0_7.out HB.out)); (case side4 => exact HC0_7.out); rintro e w14 ⟨rfl, hb⟩; refine ⟨_, rfl, ?_⟩; have n_ := aT (bB BK359 hb) (aM (below_step bS hb)); clear BK359 HB; obtain ⟨BK359, HB⟩ := n_; (try clear hb)))
  have n_ := aT (blk_drew BK359.out) (aM (below_drew1 HB.out))
  clear BK359 HB
  obtain ⟨BK359, HB⟩ := n_
  refine start_ (n := 23) (S := fun w' => w'.cell? ⟨gb359, 0, none⟩ = some (.int .i64 a0_0) ∧ w'.cell? ⟨gb359, 1, none⟩ = some (.int .i64 a0_1) ∧ w'.cell? ⟨gb359, 2, none⟩ = some (.int .i64 a0_2) ∧ w'.cell? ⟨gb359, 3, none⟩ = some (.int .i64 a0_3) ∧ w'.cell? ⟨gb359, 4, none⟩ = some (.int .i64 a0_4) ∧ w'.cell? ⟨gb359, 5, none⟩ = some (.int .i64 a0_5) ∧ w'.cell? ⟨gb359, 6, none⟩ = some (.slice A0_6 l0_6.length c0_6) ∧ w'.cell? ⟨gb359, 7, none⟩ = some (.slice A0_7 l0_7.length c0_7)) (ds := []) _ (by kernel_rfl) rfl rfl (cF8 BK359).1 (fun hHeld => ?_); refine with_tabW impl_ShowTicket.tab3 impl_ShowTicket.bits3 (fun HT_ HW_ => ?_)
  generalize w14.drew = w15 at BK359 HB hHeld ⊢
  refine pU HT_ 0 (some 8) (mk 23 1) rfl rfl (h := ?_)
  refine pU HT_ 1 (some 9) (mk 23 3) rfl rfl (h := ?_)
  refine pU HT_ 3 (some 11) (mk 23 11) rfl rfl (h := ?_)
  refine pU HT_ 7 (some 15) (mk 23 139) rfl rfl (h := ?_)
  refine pU HT_ 10 (some 18) (mk 23 1163) rfl rfl (h := ?_)
  refine pU HT_ 13 (some 21) (mk 23 9355) rfl rfl (h := ?_)
  refine pU HT_ 16 (some 24) (mk 23 74891) rfl rfl (h := ?_)
  refine tU HT_ HW_ 2 (some 10) (mk 23 74895) hHeld rfl rfl (by rintro w' ⟨s0, s1, s2, s3, s4, s5, s6, s7⟩; go_simp; with_reducible rfl) (h := ?_)
  refine tU HT_ HW_ 4 (some 12) (mk 23 74911) hHeld rfl rfl (by rintro w' ⟨s0, s1, s2, s3, s4, s5, s6, s7⟩; go_simp; with_reducible rfl) (h := ?_)
  refine tU HT_ HW_ 8 (some 16) (mk 23 75167) hHeld rfl rfl (by rintro w' ⟨s0, s1, s2, s3, s4, s5, s6, s7⟩; go_simp; with_reducible rfl) (h := ?_)
  refine tU HT_ HW_ 11 (some 19) (mk 23 77215) hHeld rfl rfl (by rintro w' ⟨s0, s1, s2, s3, s4, s5, s6, s7⟩; go_simp; with_reducible rfl) (h := ?_)
  refine tU HT_ HW_ 14 (some 22) (mk 23 93599) hHeld rfl rfl (by rintro w' ⟨s0, s1, s2, s3, s4, s5, s6, s7⟩; go_simp; with_reducible rfl) (h := ?_)
  refine tU HT_ HW_ 17 (some 25) (mk 23 224671) hHeld rfl rfl (by rintro w' ⟨s0, s1, s2, s3, s4, s5, s6, s7⟩; go_simp; with_reducible rfl) (h := ?_)
  refine one_ (i := 5) (N := some 13) (mk 23 224703) rfl rfl (one_of HT_.out (by kernel_rfl)) (by decide) (fun K hK => ?_)
  refine Kd.R_lit_step (Kd.int .i64) _ 3 ?hg (N := 13) ?hd (xs := ([a0_0, a0_1] : List Int)) (inner := [.int .i64 a0_0, .int .i64 a0_1]) (ok := fun _ => True) (okp := fun _ => True) ?hr ?hp (fun _ hk => hk) trivial (Below.refl _ _) (Nat.le_refl _) (by simp) ?_; (case hd => rfl); (case hg => rfl); (case hr => first | (go_simp; done) | (go_simp; rfl)); (case hp => exact (Reps.one (show Kd.M (Kd.int .i64) _ _ _ a0_0 [.int .i64 a0_0] from rfl) (Reps.one (show Kd.M (Kd.int .i64) _ _ _ a0_1 [.int .i64 a0_1] from rfl) (Reps.none _ _))))
  intro v362 w16 ho17 hb hg_ hnew_
  clear hg_ hnew_
  (first | rw [← Ny361.out] at ho17 | (simp only [Int.reduceToNat] at ho17; rw [← Ny361.out] at ho17))
  have n0_ := Aside0.mk (Kd.R_lower ho17 (below_size bS))
  have n1_ := Aside0.mk (bB BK359 hb)
  have n2_ := Aside0.mk (below_step bS hb)
  clear BK359 HB
  have HO363 := n0_
  have BK359 := n1_
  have HB := n2_
  clear n0_ n1_ n2_ hb ho17
  obtain ⟨Ao18, co18, eo18⟩ := Kd.R_slice HO363.out
  (first | subst eo18 | (injection eo18 with f1_ f2_ f3_; have f4_ := f1_.symm; have f5_ := f3_.symm; clear f1_ f2_ f3_; subst f4_; subst f5_))
  refine hK.out _ _ (cF8 BK359).1 (fun hHeld => ?_)
  clear hK K
  refine nO (some 13) (h := ?_)
  refine one_ (i := 6) (N := some 14) (mk 23 224767) rfl rfl (one_of HT_.out (by kernel_rfl)) (by decide) (fun K hK => ?_)
  refine goes_ Try.func28 (by kernel_rfl) rfl #[.slice Ao18 y361.length co18] (by rfl) rfl rfl eA ?_
  with_reducible refine (impl_Nums.calls k _ _ y361 t364 _ ?side1 ?side2 A5.out).mono ?_
  (case side1 => exact cA ((Kd.R_reads' HO363.out).2.2))
  (case side2 => exact (Kd.R_reads' HO363.out).2.1)
  rintro e w19 ⟨rfl, hb⟩
  refine ⟨_, rfl, ?_⟩
  have n_ := aT (rB HO363 hb) (aT (bB BK359 hb) (aM (below_step bS hb)))
  clear HO363 BK359 HB
  obtain ⟨HO363, BK359, HB⟩ := n_
  (try clear hb)
  (try clear hb2)
  (try clear hk)
  (try clear hi)
  refine hK.out _ _ (cF8 BK359).1 (fun hHeld => ?_)
  clear hK K
  refine nO (some 14) (h := ?_)
  refine one_ (i := 9) (N := some 17) (mk 23 225279) rfl rfl (one_of HT_.out (by kernel_rfl)) (by decide) (fun K hK => ?_)
  refine goes_ Try.func29 (by kernel_rfl) rfl #[.int .i64 a0_2] (by rfl) rfl rfl eA ?_
  with_reducible refine (impl_KeyTerm.calls k a0_2 t365 _ A6.out).mono ?_
  rintro e w20 ⟨rfl, hb⟩
  refine ⟨_, rfl, ?_⟩
  have n_ := aT (rB HO363 hb) (aT (bB BK359 hb) (aM (below_step bS hb)))
  clear HO363 BK359 HB
  obtain ⟨HO363, BK359, HB⟩ := n_
  (try clear hb)
  (try clear hb2)
  (try clear hk)
  (try clear hi)
  refine hK.out _ _ (cF8 BK359).1 (fun hHeld => ?_)
  clear hK K
  refine nO (some 17) (h := ?_)
  refine one_ (i := 12) (N := some 20) (mk 23 229375) rfl rfl (one_of HT_.out (by kernel_rfl)) (by decide) (fun K hK => ?_)
  refine goes_ Try.func20 (by kernel_rfl) rfl #[.agg #[.int .i64 a0_3, .int .i64 a0_4, .int .i64 a0_5]] (by rfl) rfl rfl eA ?_
  with_reducible refine (impl_ShowRest.calls k a0_3 a0_4 a0_5 t366 _ A7.out).mono ?_
  rintro e w21 ⟨rfl, hb⟩
  refine ⟨_, rfl, ?_⟩
  have n_ := aT (rB HO363 hb) (aT (bB BK359 hb) (aM (below_step bS hb)))
  clear HO363 BK359 HB
  obtain ⟨HO363, BK359, HB⟩ := n_
  (try clear hb)
  (try clear hb2)
  (try clear hk)
  (try clear hi)
  refine hK.out _ _ (cF8 BK359).1 (fun hHeld => ?_)
  clear hK K
  refine nO (some 20) (h := ?_)
  refine one_ (i := 15) (N := some 23) (mk 23 262143) rfl rfl (one_of HT_.out (by kernel_rfl)) (by decide) (fun K hK => ?_)
  refine goes_ Try.func28 (by kernel_rfl) rfl #[.slice A0_6 l0_6.length c0_6] (by rfl) rfl rfl eA ?_
  with_reducible refine (impl_Nums.calls k _ _ l0_6 t367 _ ?side1 ?side2 A8.out).mono ?_
  (case side1 => exact cA (Kd.C_below HR0_6.out HB.out))
  (case side2 => exact HC0_6.out)
  rintro e w22 ⟨rfl, hb⟩
  refine ⟨_, rfl, ?_⟩
  have n_ := aT (rB HO363 hb) (aT (bB BK359 hb) (aM (below_step bS hb)))
  clear HO363 BK359 HB
  obtain ⟨HO363, BK359, HB⟩ := n_
  (try clear hb)
  (try clear hb2)
  (try clear hk)
  (try clear hi)
  refine hK.out _ _ (cF8 BK359).1 (fun hHeld => ?_)
  clear hK K
  refine nO (some 23) (h := ?_)
  refine one_ (i := 18) (N := some 26) (mk 23 524287) rfl rfl (one_of HT_.out (by kernel_rfl)) (by decide) (fun K hK => ?_)
  refine goes_ Try.func28 (by kernel_rfl) rfl #[.slice A0_7 l0_7.length c0_7] (by rfl) rfl rfl eA ?_
  with_reducible refine (impl_Nums.calls k _ _ l0_7 t368 _ ?side1 ?side2 A9.out).mono ?_
  (case side1 => exact cA (Kd.C_below HR0_7.out HB.out))
  (case side2 => exact HC0_7.out)
  rintro e w23 ⟨rfl, hb⟩
  refine ⟨_, rfl, ?_⟩
  have n_ := aT (rB HO363 hb) (aT (bB BK359 hb) (aM (below_step bS hb)))
  clear HO363 BK359 HB
  obtain ⟨HO363, BK359, HB⟩ := n_
  (try clear hb)
  (try clear hb2)
  (try clear hk)
  (try clear hi)
  refine hK.out _ _ (cF8 BK359).1 (fun hHeld => ?_)
  clear hK K
  refine nO (some 26) (h := ?_)
  refine one_ (i := 19) (N := some 27) (mk 23 1048575) rfl rfl (one_of HT_.out (by kernel_rfl)) (by decide) (fun K hK => ?_)
  refine Kd.R_lit_step Kd.string _ 9 ?hg (N := 27) ?hd (xs := ([t364, t365, t366, t367, t368] : List ByteArray)) (inner := [.string t364, .string t365, .string t366, .string t367, .string t368]) (ok := fun _ => True) (okp := fun _ => True) ?hr ?hp (fun _ hk => hk) trivial (Below.refl _ _) (Nat.le_refl _) (by simp) ?_; (case hd => rfl); (case hg => rfl); (case hr => first | (go_simp; done) | (go_simp; rfl)); (case hp => exact (Reps.one (show Kd.M Kd.string _ _ _ t364 [.string t364] from rfl) (Reps.one (show Kd.M Kd.string _ _ _ t365 [.string t365] from rfl) (Reps.one (show Kd.M Kd.string _ _ _ t366 [.string t366] from rfl) (Reps.one (show Kd.M Kd.string _ _ _ t367 [.string t367] from rfl) (Reps.one (show Kd.M Kd.string _ _ _ t368 [.string t368] from rfl) (Reps.none _ _)))))))
  intro v370 w24 ho25 hb hg_ hnew_
  clear hg_ hnew_
  (first | rw [← Ny369.out] at ho25 | (simp only [Int.reduceToNat] at ho25; rw [← Ny369.out] at ho25))
  have n0_ := Aside0.mk (rB HO363 hb)
  have n1_ := Aside0.mk (Kd.R_lower ho25 (below_size bS))
  have n2_ := Aside0.mk (bB BK359 hb)
  have n3_ := Aside0.mk (below_step bS hb)
  clear HO363 BK359 HB
  have HO363 := n0_
  have HO371 := n1_
  have BK359 := n2_
  have HB := n3_
  clear n0_ n1_ n2_ n3_ hb ho25
  obtain ⟨Ao26, co26, eo26⟩ := Kd.R_slice HO371.out
  (first | subst eo26 | (injection eo26 with f1_ f2_ f3_; have f4_ := f1_.symm; have f5_ := f3_.symm; clear f1_ f2_ f3_; subst f4_; subst f5_))
  refine hK.out _ _ (cF8 BK359).1 (fun hHeld => ?_)
  clear hK K
  refine nO (some 27) (h := ?_)
  refine one_ (i := 20) (N := some 28) (mk 23 2097151) rfl rfl (one_of HT_.out (by kernel_rfl)) (by decide) (fun K hK => ?_)
  refine goes_ Try.func27 (by kernel_rfl) rfl #[.slice Ao26 y369.length co26] (by rfl) rfl rfl eA ?_
  with_reducible refine (impl_List.calls k _ _ y369 t372 _ ?side1 ?side2 A10.out).mono ?_
  (case side1 => exact cA ((Kd.R_reads' HO371.out).2.2))
  (case side2 => exact (Kd.R_reads' HO371.out).2.1)
  rintro e w27 ⟨rfl, hb⟩
  refine ⟨_, rfl, ?_⟩
  have n_ := aT (rB HO363 hb) (aT (rB HO371 hb) (aT (bB BK359 hb) (aM (below_step bS hb))))
  clear HO363 HO371 BK359 HB
  obtain ⟨HO363, HO371, BK359, HB⟩ := n_
  (try clear hb)
  (try clear hb2)
  (try clear hk)
  (try clear hi)
  refine hK.out _ _ (cF8 BK359).1 (fun hHeld => ?_)
  clear hK K
  refine nO (some 28) (h := ?_)
  refine one_ (i := 21) (N := some 29) (mk 23 4194303) rfl rfl (one_of HT_.out (by kernel_rfl)) (by decide) (fun K hK => ?_)
  refine goes_ Try.func26 (by kernel_rfl) rfl #[.int .i64 a1, .string t372] (by rfl) rfl rfl eA ?_
  with_reducible refine (impl_Seal.calls k a1 t372 t373 _ A11.out).mono ?_
  rintro e w28 ⟨rfl, hb⟩
  refine ⟨_, rfl, ?_⟩
  have n_ := aT (rB HO363 hb) (aT (rB HO371 hb) (aT (bB BK359 hb) (aM (below_step bS hb))))
  clear HO363 HO371 BK359 HB
  obtain ⟨HO363, HO371, BK359, HB⟩ := n_
  (try clear hb)
  (try clear hb2)
  (try clear hk)
  (try clear hi)
  refine hK.out _ _ (cF8 BK359).1 (fun hHeld => ?_)
  clear hK K
  refine nO (some 29) (h := ?_)
  refine pU HT_ 22 (some 4) (mk 23 8388607) rfl rfl (h := ?_)
  refine done_ (done_of HT_.out (by kernel_rfl)) ?_
  try go_wp2
  go_ret
  exact ⟨eE, bS⟩
 replace c4 := Bool.eq_false_iff.mpr c4
 subst c4
 rw [if_neg nF] at H
 obtain rfl := Option.some.inj H
 go_enter Try.func6, Try.ntmps6
 go_wp2_with (first | ((with_reducible refine gD 2 rfl ?_); refine bE #[.int .i64 a0_0, .int .i64 a0_1, .int .i64 a0_2, .int .i64 a0_3, .int .i64 a0_4, .int .i64 a0_5, .slice A0_6 l0_6.length c0_6, .slice A0_7 l0_7.length c0_7] 28 ?_; intro gb359 hg w29 hbox hb; have n_ := aT (below_step bH hb) (aT (hbox) (aT ((bZ hg : w.heap.size ≤ gb359)) (aM ((bZ hg : w.heap.size ≤ gb359))))); clear HB; obtain ⟨HB, BK359, GW359, GE359⟩ := n_; clear hb hbox hg; obtain ⟨⟨hcz30_0, hcz30_1, hcz30_2, hcz30_3, hcz30_4, hcz30_5, hcz30_6, hcz30_7⟩, hfz30_0, hfz30_1, hfz30_2, hfz30_3, hfz30_4, hfz30_5, hfz30_6, hfz30_7⟩ := cF8 BK359) | ((with_reducible refine gC 25 rfl ?_); refine gL (some 6) Try.func25 #[.agg #[.int .i64 a0_0, .int .i64 a0_1, .int .i64 a0_2, .int .i64 a0_3, .int .i64 a0_4, .int .i64 a0_5, .slice A0_6 l0_6.length c0_6, .slice A0_7 l0_7.length c0_7]] ?_; (with_reducible refine (impl_ticketOk.calls k a0_0 a0_1 a0_2 a0_3 a0_4 a0_5 _ _ l0_6 _ _ l0_7 false _ ?side1 ?side2 ?side3 ?side4 A3.out).mono ?_); (case side1 => exact cA (Kd.C_below HR0_6.out HB.out)); (case side2 => exact HC0_6.out); (case side3 => exact cA (Kd.C_below HR0_7.out HB.out)); (case side4 => exact HC0_7.out); rintro e w31 ⟨rfl, hb⟩; refine ⟨_, rfl, ?_⟩; have n_ := aT (bB BK359 hb) (aM (below_step bS hb)); clear BK359 HB; obtain ⟨BK359, HB⟩ := n_; (try clear hb)))
 go_ret
 exact ⟨eE, bS⟩

/-! ### impl_isOf: function 64 -/
def impl_isOf.f (k : Nat) (a0 : ByteArray) (a1 : Int) : Option (Bool) := (impl_TermOk.f k a0).bind fun t374 => (if t374 = true then (if 0 < (a0.size : Int) then (some ((bt a0 0) == a1)) else (none)) else (some false))
set_option maxHeartbeats 8000000 in
set_option maxRecDepth 100000 in
theorem impl_isOf.calls (k : Nat) (a0 : ByteArray) (a1 : Int) (r : Bool) (w : World) (h : impl_isOf.f k a0 a1 = some r) :
  Calls Try.prog 64 #[.string a0, .int .u8 a1] w fun e w' => e = .returned (.bool r) ∧ Below w.heap.size w w' := by
 have HB := Aside0.mk (Below.refl w.heap.size w)
 have H := h
 clear h
 unfold impl_isOf.f at H
 obtain ⟨t374, A3, H⟩ := oB H
 by_cases c4 : t374 = true
 ·subst c4
  rw [if_pos rfl] at H
  by_cases c5 : 0 < (a0.size : Int)
  ·rw [if_pos c5] at H
   have c5b0 := decide_eq_true c5
   have c5b1 : decide (0 < a0.size) = true := decide_eq_true (by omega)
   clear c5
   obtain rfl := Option.some.inj H
   go_enter Try.func64, Try.ntmps64
   go_wp2_with (first | ((with_reducible refine gC 59 rfl ?_); refine gL (some 6) Try.func59 #[.string a0] ?_; (with_reducible refine (impl_TermOk.calls k a0 true _ A3.out).mono ?_); rintro e w7 ⟨rfl, hb⟩; refine ⟨_, rfl, ?_⟩; have n_ := aM (below_step bH hb); clear HB; have HB := n_; clear n_; (try clear hb); have p6 : 0 ≤ (0 : Int) := (by omega); have q6 : 0 < a0.size := (by have : (0 : Int) < (a0.size : Int) := of_decide_eq_true aA; omega); have hx6 : ∀ h : 0 < a0.size, ((a0[0]'h).toNat : Int) = bt a0 0 := bt_at a0 0; clear p6; have qi6 : (0 < (a0.size : Int)) = True := eq_true (of_decide_eq_true aA); replace q6 := eq_true q6))
   go_ret
   exact ⟨eE, bH⟩
  rw [if_neg c5] at H
  exact absurd H (by simp)
 replace c4 := Bool.eq_false_iff.mpr c4
 subst c4
 rw [if_neg nF] at H
 obtain rfl := Option.some.inj H
 go_enter Try.func64, Try.ntmps64
 go_wp2_with (first | ((with_reducible refine gC 59 rfl ?_); refine gL (some 6) Try.func59 #[.string a0] ?_; (with_reducible refine (impl_TermOk.calls k a0 false _ A3.out).mono ?_); rintro e w8 ⟨rfl, hb⟩; refine ⟨_, rfl, ?_⟩; have n_ := aM (below_step bH hb); clear HB; have HB := n_; clear n_; (try clear hb)))
 go_ret
 exact ⟨eE, bH⟩

/-! ### impl_Parts: function 31 -/
def impl_Parts.l0 : Nat → ByteArray → Int → List ByteArray → Int → Int → Option (List ByteArray × Bool)
 | 0, _, _, _, _, _ => none
 | k + 1, x0, x5, x6, x17, x18 => if x18 < x17 then ((impl_termAt.f k x0 x5 8).bind fun t381 => (if 0 ≤ x5 then (if x5 ≤ t381 then (if t381 ≤ (x0.size : Int) then (if x6.length < 8796093022208 then (impl_Parts.l0 k x0 t381 (x6 ++ [x0.extract (x5 : Int).toNat (t381 : Int).toNat]) x17 (wrap64 (x18 + 1))) else (none)) else (none)) else (none)) else (none))) else (some (x6, true))
def impl_Parts.f (k : Nat) (a0 : ByteArray) : Option (List ByteArray × Bool) := (impl_isOf.f k a0 108).bind fun t375 => (if t375 = true then ((impl_varAt.f k a0 1).bind fun bt376 => (impl_Parts.l0 k a0 bt376.2 (([] : List ByteArray)) bt376.1 0)) else (some (([] : List ByteArray), false)))
set_option maxHeartbeats 8000000 in
set_option maxRecDepth 100000 in
theorem impl_Parts.calls (k : Nat) (a0 : ByteArray) (r1 : List ByteArray) (r2 : Bool) (w : World) (h : impl_Parts.f k a0 = some (r1, r2)) :
  Calls Try.prog 31 #[.string a0] w fun e w' => ∃ v0_ : Value, e = .returned (.tuple #[v0_, .bool r2]) ∧ Kd.R Kd.string 9 w' w.heap.size (fun _ => True) v0_ r1 ∧ Below w.heap.size w w' := by
 have HB := Aside0.mk (Below.refl w.heap.size w)
 have H := h
 clear h
 unfold impl_Parts.f at H
 obtain ⟨t375, A2, H⟩ := oB H
 by_cases c3 : t375 = true
 ·subst c3
  rw [if_pos rfl] at H
  obtain ⟨⟨t376, t377⟩, A4, H⟩ := oB H
  dsimp only at H
  obtain ⟨y378, hy378⟩ : ∃ y_ : List ByteArray, y_ = (([] : List ByteArray)) := ⟨_, rfl⟩
  replace H : (impl_Parts.l0 k a0 t377 y378 t376 0) = some (r1, r2) := by first | (rw [hy378]; with_reducible exact H) | (have H2_ := (Option.bind_some _ _).symm.trans H; rw [hy378]; with_reducible exact H2_) | (have H2_ := (Option.bind_some _ _).symm.trans H; with_reducible exact H2_) | with_reducible exact H | (rw [hy378]; exact H) | exact H
  have Ny378 := Aside0.mk hy378
  clear hy378
  have H' := Aside0.mk H
  clear H
  go_enter Try.func31, Try.ntmps31
  go_wp2_with (first | ((with_reducible refine gC 64 rfl ?_); refine gL (some 9) Try.func64 #[.string a0, .int .u8 108] ?_; (with_reducible refine (impl_isOf.calls k a0 108 true _ A2.out).mono ?_); rintro e w5 ⟨rfl, hb⟩; refine ⟨_, rfl, ?_⟩; have n_ := aM (below_step bH hb); clear HB; have HB := n_; clear n_; (try clear hb)) | ((with_reducible refine gC 65 rfl ?_); refine gL (some 13) Try.func65 #[.string a0, .int .i64 1] ?_; (with_reducible refine (impl_varAt.calls k a0 1 t376 t377 _ A4.out).mono ?_); rintro e w6 ⟨rfl, hb⟩; refine ⟨_, rfl, ?_⟩; have n_ := aM (below_step bH hb); clear HB; have HB := n_; clear n_; (try clear hb)) | ((with_reducible refine gate_dst (N := 16) rfl ?_); refine Kd.R_lit Kd.string _ 9 ?hg (N := 16) ?hd (xs := ([] : List ByteArray)) (inner := []) (ok := fun _ => True) (okp := fun _ => True) ?hr ?hp (fun _ hk => hk) trivial (Below.refl _ _) (Nat.le_refl _) (by simp) ?_; (case hd => rfl); (case hg => rfl); (case hr => first | (go_simp; done) | (go_simp; rfl)); (case hp => exact (Reps.none _ _)); intro v379 w7 ho8 hb hg_ hnew_; clear hg_ hnew_; (first | rw [← Ny378.out] at ho8 | (simp only [Int.reduceToNat] at ho8; rw [← Ny378.out] at ho8)); have n_ := aT (Kd.R_lower ho8 (below_size bH)) (aM (below_step bH hb)); clear HB; obtain ⟨HO380, HB⟩ := n_; clear hb ho8))
  go_loopg [5, 6, 18] k (fun kq v5 v6 v18 w' => ∃ (x5_1 : Int) (x6_1 : List ByteArray) (x18_1 : Int), v5 = .int .i64 x5_1 ∧ v18 = .int .i64 x18_1 ∧ Aside0 (impl_Parts.l0 kq a0 x5_1 x6_1 t376 x18_1 = some (r1, r2)) ∧ Aside0 (kq ≤ k) ∧ Aside0 (Kd.R Kd.string 9 w' w.heap.size (fun _ => True) v6 x6_1) ∧ Aside0 (Below w.heap.size w w'))
  case atStart => exact ⟨(t377), (y378), (0), eX, eX, H', ⟨Nat.le_refl _⟩, ⟨(kR HO380.out)⟩, ⟨bH⟩⟩
  clear H'
  try clear c3
  obtain ⟨x5_1, x6_1, x18_1, rfl, rfl, HA, HK1, HO_6, HB⟩ := hrel
  obtain _ | k1 := gk
  ·exact absurd HA.out (by simp [impl_Parts.l0])
  have H := HA.out
  clear HA
  simp only [impl_Parts.l0] at H
  by_cases c9 : x18_1 < t376
  ·rw [if_pos c9] at H
   have c9b0 := decide_eq_true c9
   clear c9
   obtain ⟨t381, A10, H⟩ := oB H
   by_cases c11 : 0 ≤ x5_1
   ·rw [if_pos c11] at H
    have c11b0 := eq_true c11
    have c11b1 := decide_eq_true c11
    clear c11
    by_cases c12 : x5_1 ≤ t381
    ·rw [if_pos c12] at H
     have c12b0 := eq_true c12
     have c12b1 := decide_eq_true c12
     clear c12
     by_cases c13 : t381 ≤ (a0.size : Int)
     ·rw [if_pos c13] at H
      have c13b0 := eq_true c13
      have c13b1 := decide_eq_true c13
      clear c13
      by_cases c14 : x6_1.length < 8796093022208
      ·rw [if_pos c14] at H
       have LMc14 := Aside0.mk c14
       clear c14
       obtain ⟨y382, hy382⟩ : ∃ y_ : List ByteArray, y_ = (x6_1 ++ [a0.extract (x5_1 : Int).toNat (t381 : Int).toNat]) := ⟨_, rfl⟩
       replace H : (impl_Parts.l0 k1 a0 t381 y382 t376 (wrap64 (x18_1 + 1))) = some (r1, r2) := by first | (rw [hy382]; with_reducible exact H) | (have H2_ := (Option.bind_some _ _).symm.trans H; rw [hy382]; with_reducible exact H2_) | (have H2_ := (Option.bind_some _ _).symm.trans H; with_reducible exact H2_) | with_reducible exact H | (rw [hy382]; exact H) | exact H
       have Ny382 := Aside0.mk hy382
       clear hy382
       have H' := Aside0.mk H
       clear H
       go_wp2_with (first | ((with_reducible refine gC 66 rfl ?_); refine gL (some 22) Try.func66 #[.string a0, .int .i64 x5_1, .int .i64 8] ?_; (with_reducible refine (impl_termAt.calls k1 a0 x5_1 8 t381 _ A10.out).mono ?_); rintro e w15 ⟨rfl, hb⟩; refine ⟨_, rfl, ?_⟩; have n_ := aT (rB HO_6 hb) (aM (below_step bH hb)); clear HO_6 HB; obtain ⟨HO_6, HB⟩ := n_; (try clear hb)) | ((with_reducible refine gate_builtin (b := .append) (xs := #[.tmp 23, .tmp 28]) rfl ?_); at_builtin; refine Kd.R_append Kd.string (w0 := w) w.heap.size rfl (.tmp 23) (.tmp 28) 63 9 (.string ⟨#[]⟩) 16 rfl Try.underlying63 info9 rfl (by decide) (by omega) u6 x6_1 (a0.extract (x5_1 : Int).toNat (t381 : Int).toNat) [.string (a0.extract (x5_1 : Int).toNat (t381 : Int).toNat)] (fun _ => True) (fun _ => False) rfl rfl ?aP (fun _ hk => hk.elim) ?aF ?aO ?aB ?aS ?aL ?_; (case aP => exact rfl); (case aB => exact bH); (case aF => exact (fun _ _ => trivial)); (case aO => exact (kR HO_6.out)); (case aS => exact (below_size bH)); (case aL => have := LMc14.out; omega); intro v383 w16 ho hb hg hat; rw [← Ny382.out] at ho; have n_ := aT (hb) (aM (ho)); clear HB HO_6; obtain ⟨HB, HO384⟩ := n_; clear ho hb hg hat))
       go_roundg k1
       case measure => have := HK1.out; omega
       case rel => exact ⟨(t381), (y382), (wrap64 (x18_1 + 1)), eX, eX, H', ⟨(by have := HK1.out; omega)⟩, ⟨(kR HO384.out)⟩, ⟨bH⟩⟩
      rw [if_neg c14] at H
      exact absurd H (by simp)
     rw [if_neg c13] at H
     exact absurd H (by simp)
    rw [if_neg c12] at H
    exact absurd H (by simp)
   rw [if_neg c11] at H
   exact absurd H (by simp)
  rw [if_neg c9] at H
  have c9b0 := decide_eq_false c9
  clear c9
  simp only [Option.some.injEq, Prod.mk.injEq] at H
  obtain ⟨rfl, rfl⟩ := H
  go_wp2
  go_ret2
  exact ⟨_, eE, (kR HO_6.out), bH⟩
 replace c3 := Bool.eq_false_iff.mpr c3
 subst c3
 rw [if_neg nF] at H
 simp only [Option.some.injEq, Prod.mk.injEq] at H
 obtain ⟨rfl, rfl⟩ := H
 go_enter Try.func31, Try.ntmps31
 go_wp2_with (first | ((with_reducible refine gC 64 rfl ?_); refine gL (some 9) Try.func64 #[.string a0, .int .u8 108] ?_; (with_reducible refine (impl_isOf.calls k a0 108 false _ A2.out).mono ?_); rintro e w17 ⟨rfl, hb⟩; refine ⟨_, rfl, ?_⟩; have n_ := aM (below_step bH hb); clear HB; have HB := n_; clear n_; (try clear hb)))
 go_ret2
 exact ⟨_, eE, (by first | exact Kd.R_nil _ _ _ _ _ | exact Kd.N_nil _ _ _ _ _ | exact Kd.V_nil _ _ _ _ _ | exact Kd.Q_nil _ _ _ _ _ | exact Kd.S_nil _ _ _ _ _), bH⟩

end Go.Proofs.Ytaldemgfndmmlaa.OFnTickets
-- wrapped
-- halved
-- squeezed
-- squeezed2
-- squeezed3
