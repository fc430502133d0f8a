-- walks of this claim, written by a program of mine
import Derived.Test.YtaldemgfndmmlaaOFnTicketsx0
import Derived.Test.YtaldemgfndmmlaaOFnTicketsx4
import Derived.Test.YtaldemgfndmmlaaOFnTicketsx8
import Derived.Test.YtaldemgfndmmlaaOFnTicketsx9
import Derived.Test.YtaldemgfndmmlaaOFnTicketsx10
import Derived.Test.YtaldemgfndmmlaaOFnTicketsx11
import Derived.Test.YtaldemgfndmmlaaOFnTicketsx13
import Derived.Test.YtaldemgfndmmlaaOFnTicketsx14
import Derived.Test.YtaldemgfndmmlaaOFnTicketsx15
namespace Go.Proofs.Ytaldemgfndmmlaa.OFnTickets
open Go.RowKit Go.Proofs.Ytaldemgfndmmlaa.OWord Go.Proofs.YtaldemgfndmmlaaW.PrintWords Go.Proofs.YtaldemgfndmmlaaW.PrintLast Go.Proofs.YtaldemgfndmmlaaW.PrintMore
attribute [local go_sem] max2_int min2_int max_two min_two max_three min_three max_four min_four   -- for this text's walks alone
set_option linter.unusedVariables false
set_option linter.unusedSimpArgs false

/-! ### impl_ShowAuth: function 11 -/
def impl_ShowAuth.f (k : Nat) (a0_0 : Int) (a0_1 : Int) (a0_2 : Int) (a1 : Int) : Option (ByteArray) := (impl_authOk.f a0_0 a0_1 a0_2).bind fun t595 => (if t595 = true then ((impl_Nums.f k (([7, a0_0, a0_1, a0_2] : List Int))).bind fun t599 => ((impl_Seal.f k a1 t599).bind fun t600 => (some t600))) else (some (⟨#[]⟩ : ByteArray)))
set_option maxHeartbeats 8000000 in
set_option maxRecDepth 100000 in
theorem impl_ShowAuth.calls (k : Nat) (a0_0 : Int) (a0_1 : Int) (a0_2 : Int) (a1 : Int) (r : ByteArray) (w : World) (h : impl_ShowAuth.f k a0_0 a0_1 a0_2 a1 = some r) :
  Calls Try.prog 11 #[.agg #[.int .i64 a0_0, .int .i64 a0_1, .int .i64 a0_2], .int .i64 a1] w fun e w' => e = .returned (.string r) ∧ Below w.heap.size w w' := by
 have hu36 := Try.underlying36
 have HB := Aside0.mk (Below.refl w.heap.size w)
 have H := h
 clear h
 unfold impl_ShowAuth.f at H
 obtain ⟨t595, A3, H⟩ := oB H
 by_cases c4 : t595 = true
 ·subst c4
  rw [if_pos rfl] at H
  obtain ⟨y596, hy596⟩ : ∃ y_ : List Int, y_ = (([7, a0_0, a0_1, a0_2] : List Int)) := ⟨_, rfl⟩
  replace H : ((impl_Nums.f k y596).bind fun t599 => ((impl_Seal.f k a1 t599).bind fun t600 => (some t600))) = some r := by first | (rw [hy596]; with_reducible exact H) | (have H2_ := (Option.bind_some _ _).symm.trans H; rw [hy596]; with_reducible exact H2_) | (have H2_ := (Option.bind_some _ _).symm.trans H; with_reducible exact H2_) | with_reducible exact H | (rw [hy596]; exact H) | exact H
  have Ny596 := Aside0.mk hy596
  clear hy596
  obtain ⟨t599, A5, H⟩ := oB H
  obtain ⟨t600, A6, H⟩ := oB H
  obtain rfl := Option.some.inj H
  go_enter Try.func11, Try.ntmps11
  go_wp2_with (first | ((with_reducible refine gD 2 rfl ?_); refine bE #[.int .i64 a0_0, .int .i64 a0_1, .int .i64 a0_2] 36 ?_; intro gb594 hg w7 hbox hb; have n_ := aT (below_step bH hb) (aT (hbox) (aT ((bZ hg : w.heap.size ≤ gb594)) (aM ((bZ hg : w.heap.size ≤ gb594))))); clear HB; obtain ⟨HB, BK594, GW594, GE594⟩ := n_; clear hb hbox hg; obtain ⟨⟨hcz8_0, hcz8_1, hcz8_2⟩, hfz8_0, hfz8_1, hfz8_2⟩ := cF3 BK594) | ((with_reducible refine gC 41 rfl ?_); refine gL (some 6) Try.func41 #[.agg #[.int .i64 a0_0, .int .i64 a0_1, .int .i64 a0_2]] ?_; (with_reducible refine (impl_authOk.calls a0_0 a0_1 a0_2 true _ A3.out).mono ?_); rintro e w9 ⟨rfl, hb⟩; refine ⟨_, rfl, ?_⟩; have n_ := aT (bB BK594 hb) (aM (below_step bS hb)); clear BK594 HB; obtain ⟨BK594, HB⟩ := n_; (try clear hb); obtain ⟨⟨hcz10_0, hcz10_1, hcz10_2⟩, hfz10_0, hfz10_1, hfz10_2⟩ := cF3 BK594) | ((with_reducible refine gate_dst (N := 15) rfl ?_); refine Kd.R_lit (Kd.int .i64) _ 3 ?hg (N := 15) ?hd (xs := ([7, a0_0, a0_1, a0_2] : List Int)) (inner := [.int .i64 7, .int .i64 a0_0, .int .i64 a0_1, .int .i64 a0_2]) (ok := fun _ => True) (okp := fun _ => True) ?hr ?hp (fun _ hk => hk) trivial (Below.refl _ _) (Nat.le_refl _) (by simp) ?_; (case hd => rfl); (case hg => rfl); (case hr => first | (go_simp; done) | (go_simp; rfl)); (case hp => exact (Reps.one (show Kd.M (Kd.int .i64) _ _ _ 7 [.int .i64 7] from rfl) (Reps.one (show Kd.M (Kd.int .i64) _ _ _ a0_0 [.int .i64 a0_0] from rfl) (Reps.one (show Kd.M (Kd.int .i64) _ _ _ a0_1 [.int .i64 a0_1] from rfl) (Reps.one (show Kd.M (Kd.int .i64) _ _ _ a0_2 [.int .i64 a0_2] from rfl) (Reps.none _ _)))))); intro v597 w11 ho12 hb hg_ hnew_; clear hg_ hnew_; (first | rw [← Ny596.out] at ho12 | (simp only [Int.reduceToNat] at ho12; rw [← Ny596.out] at ho12)); have n_ := aT (Kd.R_lower ho12 (below_size bS)) (aT (bB BK594 hb) (aM (below_step bS hb))); clear BK594 HB; obtain ⟨HO598, BK594, HB⟩ := n_; clear hb ho12; obtain ⟨Ao13, co13, eo13⟩ := Kd.R_slice HO598.out; subst eo13) | ((with_reducible refine gC 28 rfl ?_); refine gL (some 16) Try.func28 #[.slice Ao13 y596.length co13] ?_; (with_reducible refine (impl_Nums.calls k _ _ y596 t599 _ ?side1 ?side2 A5.out).mono ?_); (case side1 => exact cA ((Kd.R_reads' HO598.out).2.2)); (case side2 => exact (Kd.R_reads' HO598.out).2.1); rintro e w14 ⟨rfl, hb⟩; refine ⟨_, rfl, ?_⟩; have n_ := aT (rB HO598 hb) (aT (bB BK594 hb) (aM (below_step bS hb))); clear HO598 BK594 HB; obtain ⟨HO598, BK594, HB⟩ := n_; (try clear hb)) | ((with_reducible refine gC 26 rfl ?_); refine gL (some 17) Try.func26 #[.int .i64 a1, .string t599] ?_; (with_reducible refine (impl_Seal.calls k a1 t599 t600 _ A6.out).mono ?_); rintro e w15 ⟨rfl, hb⟩; refine ⟨_, rfl, ?_⟩; have n_ := aT (rB HO598 hb) (aT (bB BK594 hb) (aM (below_step bS hb))); clear HO598 BK594 HB; obtain ⟨HO598, BK594, HB⟩ := n_; (try clear hb)))
  go_ret
  exact ⟨eE, bS⟩
 replace c4 := Bool.eq_false_iff.mpr c4
 subst c4
 rw [if_neg nF] at H
 obtain rfl := Option.some.inj H
 go_enter Try.func11, Try.ntmps11
 go_wp2_with (first | ((with_reducible refine gD 2 rfl ?_); refine bE #[.int .i64 a0_0, .int .i64 a0_1, .int .i64 a0_2] 36 ?_; intro gb594 hg w16 hbox hb; have n_ := aT (below_step bH hb) (aT (hbox) (aT ((bZ hg : w.heap.size ≤ gb594)) (aM ((bZ hg : w.heap.size ≤ gb594))))); clear HB; obtain ⟨HB, BK594, GW594, GE594⟩ := n_; clear hb hbox hg; obtain ⟨⟨hcz17_0, hcz17_1, hcz17_2⟩, hfz17_0, hfz17_1, hfz17_2⟩ := cF3 BK594) | ((with_reducible refine gC 41 rfl ?_); refine gL (some 6) Try.func41 #[.agg #[.int .i64 a0_0, .int .i64 a0_1, .int .i64 a0_2]] ?_; (with_reducible refine (impl_authOk.calls a0_0 a0_1 a0_2 false _ A3.out).mono ?_); rintro e w18 ⟨rfl, hb⟩; refine ⟨_, rfl, ?_⟩; have n_ := aT (bB BK594 hb) (aM (below_step bS hb)); clear BK594 HB; obtain ⟨BK594, HB⟩ := n_; (try clear hb)))
 go_ret
 exact ⟨eE, bS⟩

/-! ### impl_ReadAuth: function 12 -/
def impl_ReadAuth.f (k : Nat) (a0 : ByteArray) (a1 : Int) : Option (Int × Int × Int × Bool) := (impl_Open.f k a0 a1).bind fun bt602 => ((impl_ReadNums.f k bt602.1).bind fun bt604 => (if (bt604.1.length : Int) = 4 then (if 1 < (bt604.1.length : Int) then (if 2 < (bt604.1.length : Int) then (if 3 < (bt604.1.length : Int) then ((impl_ShowAuth.f k (rd bt604.1 1) (rd bt604.1 2) (rd bt604.1 3) a1).bind fun t612 => (if t612.toList = a0.toList then (some (rd bt604.1 1, rd bt604.1 2, rd bt604.1 3, true)) else (some (0, 0, 0, false)))) else (none)) else (none)) else (none)) else (some (0, 0, 0, false))))
def impl_ReadAuth.T5 : Bool × List (List Nat × List Nat) := (true, [([], []), ([0], [0]), ([1], [1]), ([], []), ([3], [3]), ([4], [4]), ([], []), ([6], [6]), ([7], [7]), ([2, 5, 8], [2, 5, 8]), ([], []), ([10, 9, 0, 1, 2, 3, 4, 5, 6, 7, 8, 9, 10], [9, 10])])
def impl_ReadAuth.B5 : List Nat := [0, 1, 3, 0, 8, 24, 0, 64, 192, 511, 0, 2047]
theorem impl_ReadAuth.tab5 : rtab .any (opsOf Try.f12 5) = impl_ReadAuth.T5 := by kernel_rfl
theorem impl_ReadAuth.bits5 : waitsOk impl_ReadAuth.T5.2 impl_ReadAuth.B5 = true := by kernel_rfl
set_option maxHeartbeats 8000000 in
set_option maxRecDepth 100000 in
theorem impl_ReadAuth.calls (k : Nat) (a0 : ByteArray) (a1 : Int) (r1 : Int) (r2 : Int) (r3 : Int) (r4 : Bool) (w : World) (h : impl_ReadAuth.f k a0 a1 = some (r1, r2, r3, r4)) :
  Calls Try.prog 12 #[.string a0, .int .i64 a1] w fun e w' => e = .returned (.tuple #[.agg #[.int .i64 r1, .int .i64 r2, .int .i64 r3], .bool r4]) ∧ Below w.heap.size w w' := by
 have hu36 := Try.underlying36
 have HB := Aside0.mk (Below.refl w.heap.size w)
 have H := h
 clear h
 unfold impl_ReadAuth.f at H
 obtain ⟨⟨t602, t603⟩, A3, H⟩ := oB H
 dsimp only at H
 obtain ⟨⟨t604, t605⟩, A4, H⟩ := oB H
 dsimp only at H
 by_cases c5 : (t604.length : Int) = 4
 ·rw [if_pos c5] at H
  have c5b0 : ((t604.length : Int) == 4) = true := beq_iff_eq.mpr c5
  have c5b1 : ((t604.length : Int) != 4) = false := bne_eq_false_iff_eq.mpr c5
  clear c5
  by_cases c6 : 1 < (t604.length : Int)
  ·rw [if_pos c6] at H
   have c6b0 := decide_eq_true c6
   have c6b1 : decide (1 < t604.length) = true := decide_eq_true (by omega)
   clear c6
   by_cases c7 : 2 < (t604.length : Int)
   ·rw [if_pos c7] at H
    have c7b0 := decide_eq_true c7
    have c7b1 : decide (2 < t604.length) = true := decide_eq_true (by omega)
    clear c7
    by_cases c8 : 3 < (t604.length : Int)
    ·rw [if_pos c8] at H
     have c8b0 := decide_eq_true c8
     have c8b1 : decide (3 < t604.length) = true := decide_eq_true (by omega)
     clear c8
     obtain ⟨t612, A9, H⟩ := oB H
     by_cases c10 : t612.toList = a0.toList
     ·rw [if_pos c10] at H
      have c10b0 : (t612.toList == a0.toList) = true := beq_iff_eq.mpr c10
      have c10b1 : (t612.toList != a0.toList) = false := bne_eq_false_iff_eq.mpr c10
      clear c10
      simp only [Option.some.injEq, Prod.mk.injEq] at H
      obtain ⟨rfl, rfl, rfl, rfl⟩ := H
      go_enter Try.func12, Try.ntmps12
      try go_wp2_with (first | ((with_reducible refine gD 4 rfl ?_); refine bE #[.int .i64 0, .int .i64 0, .int .i64 0] 36 ?_; intro gb601 hg w11 hbox hb; have n_ := aT (below_step bH hb) (aT (hbox) (aT ((bZ hg : w.heap.size ≤ gb601)) (aM ((bZ hg : w.heap.size ≤ gb601))))); clear HB; obtain ⟨HB, BK601, GW601, GE601⟩ := n_; clear hb hbox hg) | ((with_reducible refine gC 30 rfl ?_); refine gL (some 14) Try.func30 #[.string a0, .int .i64 a1] ?_; (with_reducible refine (impl_Open.calls k a0 a1 t602 t603 _ A3.out).mono ?_); rintro e w12 ⟨rfl, hb⟩; refine ⟨_, rfl, ?_⟩; have n_ := aT (bB BK601 hb) (aM (below_step bS hb)); clear BK601 HB; obtain ⟨BK601, HB⟩ := n_; (try clear hb)) | ((with_reducible refine gC 32 rfl ?_); refine gL (some 19) Try.func32 #[.string t602] ?_; (with_reducible refine (impl_ReadNums.calls k t602 t604 t605 _ A4.out).mono ?_); rintro e w13 ⟨v606, rfl, ho0, hb⟩; refine ⟨_, rfl, ?_⟩; have n_ := aT (Kd.R_lower ho0 (below_size bS)) (aT (bB BK601 hb) (aM (below_step bS hb))); clear BK601 HB; obtain ⟨HO607, BK601, HB⟩ := n_; (try clear hb); (try clear ho0); obtain ⟨Ao14, co14, eo14⟩ := Kd.R_slice HO607.out; subst eo14))
      have n_ := aT (Kd.R_drew HO607.out) (aT (blk_drew BK601.out) (aM (below_drew1 HB.out)))
      clear HO607 BK601 HB
      obtain ⟨HO607, BK601, HB⟩ := n_
      have p608 : 0 ≤ (1 : Int) := (by omega)
      have q608 : 1 < (t604.length : Int) := of_decide_eq_true aA
      obtain ⟨ad608, e608, hx608_0⟩ := Kd.at_int (Kd.R_reads' HO607.out).2.2 1 p608 q608
      cases e608
      (try simp only [show (1 : Int).toNat = 1 from rfl, Nat.reduceMul, Nat.reduceEqDiff, Go.Addr.add, ↓reduceIte] at hx608_0)
      have qi608 : (1 < t604.length) = True := eq_true (by omega)
      (try rw [show ((1 : Int)).toNat = 1 from rfl] at hx608_0)
      replace p608 := eq_true p608
      replace q608 := eq_true q608
      have p609 : 0 ≤ (2 : Int) := (by omega)
      have q609 : 2 < (t604.length : Int) := of_decide_eq_true aA
      obtain ⟨ad609, e609, hx609_0⟩ := Kd.at_int (Kd.R_reads' HO607.out).2.2 2 p609 q609
      obtain rfl : ad608 = ad609 := (by injection e609)
      (try simp only [show (2 : Int).toNat = 2 from rfl, Nat.reduceMul, Nat.reduceEqDiff, Go.Addr.add, ↓reduceIte] at hx609_0)
      have qi609 : (2 < t604.length) = True := eq_true (by omega)
      (try rw [show ((2 : Int)).toNat = 2 from rfl] at hx609_0)
      replace p609 := eq_true p609
      replace q609 := eq_true q609
      have p610 : 0 ≤ (3 : Int) := (by omega)
      have q610 : 3 < (t604.length : Int) := of_decide_eq_true aA
      obtain ⟨ad610, e610, hx610_0⟩ := Kd.at_int (Kd.R_reads' HO607.out).2.2 3 p610 q610
      obtain rfl : ad608 = ad610 := (by injection e610)
      (try simp only [show (3 : Int).toNat = 3 from rfl, Nat.reduceMul, Nat.reduceEqDiff, Go.Addr.add, ↓reduceIte] at hx610_0)
      have qi610 : (3 < t604.length) = True := eq_true (by omega)
      (try rw [show ((3 : Int)).toNat = 3 from rfl] at hx610_0)
      replace p610 := eq_true p610
      replace q610 := eq_true q610
      refine start_ (n := 12) (S := fun w' => w'.cell? ⟨ad608.block, ad608.off + 1, none⟩ = some (.int .i64 (rd t604 1)) ∧ w'.cell? ⟨ad608.block, ad608.off + 2, none⟩ = some (.int .i64 (rd t604 2)) ∧ w'.cell? ⟨ad608.block, ad608.off + 3, none⟩ = some (.int .i64 (rd t604 3))) (ds := []) _ (by kernel_rfl) rfl rfl ⟨hx608_0, hx609_0, hx610_0⟩ (fun hHeld => ?_); refine with_tabW impl_ReadAuth.tab5 impl_ReadAuth.bits5 (fun HT_ HW_ => ?_)
      generalize w13.drew = w15 at HO607 BK601 HB hx608_0 hx609_0 hx610_0 hHeld ⊢
      refine pU HT_ 0 (some 26) (mk 12 1) rfl rfl (h := ?_)
      refine pU HT_ 1 (some 27) (mk 12 3) rfl rfl (h := ?_)
      refine pU HT_ 3 (some 29) (mk 12 11) rfl rfl (h := ?_)
      refine pU HT_ 4 (some 30) (mk 12 27) rfl rfl (h := ?_)
      refine pU HT_ 6 (some 32) (mk 12 91) rfl rfl (h := ?_)
      refine pU HT_ 7 (some 33) (mk 12 219) rfl rfl (h := ?_)
      refine tU HT_ HW_ 2 (some 28) (mk 12 223) hHeld rfl rfl (by rintro w' ⟨s0, s1, s2⟩; go_simp; with_reducible rfl) (h := ?_)
      refine tU HT_ HW_ 5 (some 31) (mk 12 255) hHeld rfl rfl (by rintro w' ⟨s0, s1, s2⟩; go_simp; with_reducible rfl) (h := ?_)
      refine tU HT_ HW_ 8 (some 34) (mk 12 511) hHeld rfl rfl (by rintro w' ⟨s0, s1, s2⟩; go_simp; with_reducible rfl) (h := ?_)
      refine pU HT_ 9 (some 35) (mk 12 1023) rfl rfl (h := ?_)
      refine one_ (i := 10) (N := some 10) (mk 12 2047) rfl rfl (one_of HT_.out (by kernel_rfl)) (by decide) (fun K hK => ?_)
      refine box_step ?hg (N := 10) ?hd (cs := #[.int .i64 0, .int .i64 0, .int .i64 0]) (t := 36) ?hr ?_; (case hd => rfl); (case hg => rfl); (case hr => first | (go_simp; done) | (go_simp; rfl))
      intro gb611 hg w16 hbox hb
      have HS0_ := (hb.cell (World.block_lt_of_cell? _ _ (hHeld.1))).trans (hHeld.1)
      have HS1_ := (hb.cell (World.block_lt_of_cell? _ _ (hHeld.2.1))).trans (hHeld.2.1)
      have HS2_ := (hb.cell (World.block_lt_of_cell? _ _ (hHeld.2.2))).trans (hHeld.2.2)
      have n0_ := Aside0.mk (rB HO607 hb)
      have n1_ := Aside0.mk (bB BK601 hb)
      have n2_ := Aside0.mk (below_step bS hb)
      have n3_ := Aside0.mk (hbox)
      have n4_ := Aside0.mk ((bZ hg : w.heap.size ≤ gb611))
      have n5_ := Aside0.mk ((bZ hg : w.heap.size ≤ gb611))
      have n6_ := Aside0.mk (lB hg BK601)
      have n7_ := Aside0.mk (gB hg BK601)
      clear HO607 BK601 HB
      have HO607 := n0_
      have BK601 := n1_
      have HB := n2_
      have BK611 := n3_
      have GW611 := n4_
      have GE611 := n5_
      have NB601_611 := n6_
      have NB611_601 := n7_
      clear n0_ n1_ n2_ n3_ n4_ n5_ n6_ n7_ hb hbox hg
      refine hK.out _ _ ⟨HS0_, HS1_, HS2_⟩ (fun hHeld => ?_)
      clear hK K
      refine nO (some 10) (h := ?_)
      refine one_ (i := 11) (N := none) (mk 12 4095) rfl rfl (one_of HT_.out (by kernel_rfl)) (by decide) (fun K hK => ?_)
      have hs17 : w16.cell? ⟨gb611, 0, none⟩ = some (.int .i64 0) := (blk_cell BK611.out 0).trans rfl
      have hfs17 := blk_frozen BK611.out 0
      have hns17_0 := NB601_611.out
      have hms17_0 := NB611_601.out
      have hs18 : w16.cell? ⟨gb611, 1, none⟩ = some (.int .i64 0) := (blk_cell BK611.out 1).trans rfl
      have hfs18 := blk_frozen BK611.out 1
      have hns18_0 := NB601_611.out
      have hms18_0 := NB611_601.out
      have hs19 : w16.cell? ⟨gb611, 2, none⟩ = some (.int .i64 0) := (blk_cell BK611.out 2).trans rfl
      have hfs19 := blk_frozen BK611.out 2
      have hns19_0 := NB601_611.out
      have hms19_0 := NB611_601.out
      refine skip_ (w1 := ?_) (by rfl) rfl ?_ ?_
      rotate_left
      ·go_simp
       rfl
      refine hK.out _ _ ⟨((cell_far (p := ⟨gb611, _, none⟩) (oN HO607 BK611) _).trans (((cell_far (p := ⟨gb611, _, none⟩) (oN HO607 BK611) _).trans (((cell_far (p := ⟨gb611, _, none⟩) (oN HO607 BK611) _).trans (hHeld.1)))))), ((cell_far (p := ⟨gb611, _, none⟩) (oN HO607 BK611) _).trans (((cell_far (p := ⟨gb611, _, none⟩) (oN HO607 BK611) _).trans (((cell_far (p := ⟨gb611, _, none⟩) (oN HO607 BK611) _).trans (hHeld.2.1)))))), ((cell_far (p := ⟨gb611, _, none⟩) (oN HO607 BK611) _).trans (((cell_far (p := ⟨gb611, _, none⟩) (oN HO607 BK611) _).trans (((cell_far (p := ⟨gb611, _, none⟩) (oN HO607 BK611) _).trans (hHeld.2.2))))))⟩ (fun hHeld => ?_)
      clear hK K
      refine done_ (done_of HT_.out (by kernel_rfl)) ?_
      have hnb20 := NB611_601.out
      have hnc20 := NB601_611.out
      obtain ⟨⟨hcz21_0, hcz21_1, hcz21_2⟩, hfz21_0, hfz21_1, hfz21_2⟩ := cF3 BK611
      try go_wp2_with (first | ((with_reducible refine gC 11 rfl ?_); refine gL (some 38) Try.func11 #[.agg #[.int .i64 (rd t604 1), .int .i64 (rd t604 2), .int .i64 (rd t604 3)], .int .i64 a1] ?_; (with_reducible refine (impl_ShowAuth.calls k (rd t604 1) (rd t604 2) (rd t604 3) a1 t612 _ A9.out).mono ?_); rintro e w22 ⟨rfl, hb⟩; refine ⟨_, rfl, ?_⟩; have n_ := aT (Kd.R_below (rF3 HO607.out BK611.out) hb) (aT (bF NB601_611 BK601 hb) (aT (blk_below (g := gb611) (o := .cells #[.int .i64 (rd t604 1), .int .i64 (rd t604 2), .int .i64 (rd t604 3)] 36 (0, 0)) (bP BK611) hb) (aM (below_step bS hb)))); clear HO607 BK601 BK611 HB; obtain ⟨HO607, BK601, BK611, HB⟩ := n_; (try clear hb); obtain ⟨⟨hcz23_0, hcz23_1, hcz23_2⟩, hfz23_0, hfz23_1, hfz23_2⟩ := cF3 BK611; obtain ⟨⟨hcz24_0, hcz24_1, hcz24_2⟩, hfz24_0, hfz24_1, hfz24_2⟩ := cF3 BK601))
      refine bodyPost_ret (results_ct rfl _ _ gb601 36 #[.int .i64 (rd t604 1), .int .i64 (rd t604 2), .int .i64 (rd t604 3)] (0, 0) _ rfl (bP BK601) Try.underlying36 rfl (by kernel_rfl)) rfl ?_
      exact ⟨eE, bS⟩
     rw [if_neg c10] at H
     have c10b0 : (t612.toList == a0.toList) = false := beq_eq_false_iff_ne.mpr c10
     have c10b1 : (t612.toList != a0.toList) = true := bne_iff_ne.mpr c10
     simp only [Option.some.injEq, Prod.mk.injEq] at H
     obtain ⟨rfl, rfl, rfl, rfl⟩ := H
     go_enter Try.func12, Try.ntmps12
     try go_wp2_with (first | ((with_reducible refine gD 4 rfl ?_); refine bE #[.int .i64 0, .int .i64 0, .int .i64 0] 36 ?_; intro gb601 hg w25 hbox hb; have n_ := aT (below_step bH hb) (aT (hbox) (aT ((bZ hg : w.heap.size ≤ gb601)) (aM ((bZ hg : w.heap.size ≤ gb601))))); clear HB; obtain ⟨HB, BK601, GW601, GE601⟩ := n_; clear hb hbox hg) | ((with_reducible refine gC 30 rfl ?_); refine gL (some 14) Try.func30 #[.string a0, .int .i64 a1] ?_; (with_reducible refine (impl_Open.calls k a0 a1 t602 t603 _ A3.out).mono ?_); rintro e w26 ⟨rfl, hb⟩; refine ⟨_, rfl, ?_⟩; have n_ := aT (bB BK601 hb) (aM (below_step bS hb)); clear BK601 HB; obtain ⟨BK601, HB⟩ := n_; (try clear hb)) | ((with_reducible refine gC 32 rfl ?_); refine gL (some 19) Try.func32 #[.string t602] ?_; (with_reducible refine (impl_ReadNums.calls k t602 t604 t605 _ A4.out).mono ?_); rintro e w27 ⟨v606, rfl, ho0, hb⟩; refine ⟨_, rfl, ?_⟩; have n_ := aT (Kd.R_lower ho0 (below_size bS)) (aT (bB BK601 hb) (aM (below_step bS hb))); clear BK601 HB; obtain ⟨HO607, BK601, HB⟩ := n_; (try clear hb); (try clear ho0); obtain ⟨Ao28, co28, eo28⟩ := Kd.R_slice HO607.out; subst eo28))
     have n_ := aT (Kd.R_drew HO607.out) (aT (blk_drew BK601.out) (aM (below_drew1 HB.out)))
     clear HO607 BK601 HB
     obtain ⟨HO607, BK601, HB⟩ := n_
     have p608 : 0 ≤ (1 : Int) := (by omega)
     have q608 : 1 < (t604.length : Int) := of_decide_eq_true aA
     obtain ⟨ad608, e608, hx608_0⟩ := Kd.at_int (Kd.R_reads' HO607.out).2.2 1 p608 q608
     cases e608
     (try simp only [show (1 : Int).toNat = 1 from rfl, Nat.reduceMul, Nat.reduceEqDiff, Go.Addr.add, ↓reduceIte] at hx608_0)
     have qi608 : (1 < t604.length) = True := eq_true (by omega)
     (try rw [show ((1 : Int)).toNat = 1 from rfl] at hx608_0)
     replace p608 := eq_true p608
     replace q608 := eq_true q608
     have p609 : 0 ≤ (2 : Int) := (by omega)
     have q609 : 2 < (t604.length : Int) := of_decide_eq_true aA
     obtain ⟨ad609, e609, hx609_0⟩ := Kd.at_int (Kd.R_reads' HO607.out).2.2 2 p609 q609
     obtain rfl : ad608 = ad609 := (by injection e609)
     (try simp only [show (2 : Int).toNat = 2 from rfl, Nat.reduceMul, Nat.reduceEqDiff, Go.Addr.add, ↓reduceIte] at hx609_0)
     have qi609 : (2 < t604.length) = True := eq_true (by omega)
     (try rw [show ((2 : Int)).toNat = 2 from rfl] at hx609_0)
     replace p609 := eq_true p609
     replace q609 := eq_true q609
     have p610 : 0 ≤ (3 : Int) := (by omega)
     have q610 : 3 < (t604.length : Int) := of_decide_eq_true aA
     obtain ⟨ad610, e610, hx610_0⟩ := Kd.at_int (Kd.R_reads' HO607.out).2.2 3 p610 q610
     obtain rfl : ad608 = ad610 := (by injection e610)
     (try simp only [show (3 : Int).toNat = 3 from rfl, Nat.reduceMul, Nat.reduceEqDiff, Go.Addr.add, ↓reduceIte] at hx610_0)
     have qi610 : (3 < t604.length) = True := eq_true (by omega)
     (try rw [show ((3 : Int)).toNat = 3 from rfl] at hx610_0)
     replace p610 := eq_true p610
     replace q610 := eq_true q610
     refine start_ (n := 12) (S := fun w' => w'.cell? ⟨ad608.block, ad608.off + 1, none⟩ = some (.int .i64 (rd t604 1)) ∧ w'.cell? ⟨ad608.block, ad608.off + 2, none⟩ = some (.int .i64 (rd t604 2)) ∧ w'.cell? ⟨ad608.block, ad608.off + 3, none⟩ = some (.int .i64 (rd t604 3))) (ds := []) _ (by kernel_rfl) rfl rfl ⟨hx608_0, hx609_0, hx610_0⟩ (fun hHeld => ?_); refine with_tabW impl_ReadAuth.tab5 impl_ReadAuth.bits5 (fun HT_ HW_ => ?_)
     generalize w27.drew = w29 at HO607 BK601 HB hx608_0 hx609_0 hx610_0 hHeld ⊢
     refine pU HT_ 0 (some 26) (mk 12 1) rfl rfl (h := ?_)
     refine pU HT_ 1 (some 27) (mk 12 3) rfl rfl (h := ?_)
     refine pU HT_ 3 (some 29) (mk 12 11) rfl rfl (h := ?_)
     refine pU HT_ 4 (some 30) (mk 12 27) rfl rfl (h := ?_)
     refine pU HT_ 6 (some 32) (mk 12 91) rfl rfl (h := ?_)
     refine pU HT_ 7 (some 33) (mk 12 219) rfl rfl (h := ?_)
     refine tU HT_ HW_ 2 (some 28) (mk 12 223) hHeld rfl rfl (by rintro w' ⟨s0, s1, s2⟩; go_simp; with_reducible rfl) (h := ?_)
     refine tU HT_ HW_ 5 (some 31) (mk 12 255) hHeld rfl rfl (by rintro w' ⟨s0, s1, s2⟩; go_simp; with_reducible rfl) (h := ?_)
     refine tU HT_ HW_ 8 (some 34) (mk 12 511) hHeld rfl rfl (by rintro w' ⟨s0, s1, s2⟩; go_simp; with_reducible rfl) (h := ?_)
     refine pU HT_ 9 (some 35) (mk 12 1023) rfl rfl (h := ?_)
     refine one_ (i := 10) (N := some 10) (mk 12 2047) rfl rfl (one_of HT_.out (by kernel_rfl)) (by decide) (fun K hK => ?_)
     refine box_step ?hg (N := 10) ?hd (cs := #[.int .i64 0, .int .i64 0, .int .i64 0]) (t := 36) ?hr ?_; (case hd => rfl); (case hg => rfl); (case hr => first | (go_simp; done) | (go_simp; rfl))
     intro gb611 hg w30 hbox hb
     have HS0_ := (hb.cell (World.block_lt_of_cell? _ _ (hHeld.1))).trans (hHeld.1)
     have HS1_ := (hb.cell (World.block_lt_of_cell? _ _ (hHeld.2.1))).trans (hHeld.2.1)
     have HS2_ := (hb.cell (World.block_lt_of_cell? _ _ (hHeld.2.2))).trans (hHeld.2.2)
     have n0_ := Aside0.mk (rB HO607 hb)
     have n1_ := Aside0.mk (bB BK601 hb)
     have n2_ := Aside0.mk (below_step bS hb)
     have n3_ := Aside0.mk (hbox)
     have n4_ := Aside0.mk ((bZ hg : w.heap.size ≤ gb611))
     have n5_ := Aside0.mk ((bZ hg : w.heap.size ≤ gb611))
     have n6_ := Aside0.mk (lB hg BK601)
     have n7_ := Aside0.mk (gB hg BK601)
     clear HO607 BK601 HB
     have HO607 := n0_
     have BK601 := n1_
     have HB := n2_
     have BK611 := n3_
     have GW611 := n4_
     have GE611 := n5_
     have NB601_611 := n6_
     have NB611_601 := n7_
     clear n0_ n1_ n2_ n3_ n4_ n5_ n6_ n7_ hb hbox hg
     refine hK.out _ _ ⟨HS0_, HS1_, HS2_⟩ (fun hHeld => ?_)
     clear hK K
     refine nO (some 10) (h := ?_)
     refine one_ (i := 11) (N := none) (mk 12 4095) rfl rfl (one_of HT_.out (by kernel_rfl)) (by decide) (fun K hK => ?_)
     have hs31 : w30.cell? ⟨gb611, 0, none⟩ = some (.int .i64 0) := (blk_cell BK611.out 0).trans rfl
     have hfs31 := blk_frozen BK611.out 0
     have hns31_0 := NB601_611.out
     have hms31_0 := NB611_601.out
     have hs32 : w30.cell? ⟨gb611, 1, none⟩ = some (.int .i64 0) := (blk_cell BK611.out 1).trans rfl
     have hfs32 := blk_frozen BK611.out 1
     have hns32_0 := NB601_611.out
     have hms32_0 := NB611_601.out
     have hs33 : w30.cell? ⟨gb611, 2, none⟩ = some (.int .i64 0) := (blk_cell BK611.out 2).trans rfl
     have hfs33 := blk_frozen BK611.out 2
     have hns33_0 := NB601_611.out
     have hms33_0 := NB611_601.out
     refine skip_ (w1 := ?_) (by rfl) rfl ?_ ?_
     rotate_left
     ·go_simp
      rfl
     refine hK.out _ _ ⟨((cell_far (p := ⟨gb611, _, none⟩) (oN HO607 BK611) _).trans (((cell_far (p := ⟨gb611, _, none⟩) (oN HO607 BK611) _).trans (((cell_far (p := ⟨gb611, _, none⟩) (oN HO607 BK611) _).trans (hHeld.1)))))), ((cell_far (p := ⟨gb611, _, none⟩) (oN HO607 BK611) _).trans (((cell_far (p := ⟨gb611, _, none⟩) (oN HO607 BK611) _).trans (((cell_far (p := ⟨gb611, _, none⟩) (oN HO607 BK611) _).trans (hHeld.2.1)))))), ((cell_far (p := ⟨gb611, _, none⟩) (oN HO607 BK611) _).trans (((cell_far (p := ⟨gb611, _, none⟩) (oN HO607 BK611) _).trans (((cell_far (p := ⟨gb611, _, none⟩) (oN HO607 BK611) _).trans (hHeld.2.2))))))⟩ (fun hHeld => ?_)
     clear hK K
     refine done_ (done_of HT_.out (by kernel_rfl)) ?_
     have hnb34 := NB611_601.out
     have hnc34 := NB601_611.out
     obtain ⟨⟨hcz35_0, hcz35_1, hcz35_2⟩, hfz35_0, hfz35_1, hfz35_2⟩ := cF3 BK611
     try go_wp2_with (first | ((with_reducible refine gC 11 rfl ?_); refine gL (some 38) Try.func11 #[.agg #[.int .i64 (rd t604 1), .int .i64 (rd t604 2), .int .i64 (rd t604 3)], .int .i64 a1] ?_; (with_reducible refine (impl_ShowAuth.calls k (rd t604 1) (rd t604 2) (rd t604 3) a1 t612 _ A9.out).mono ?_); rintro e w36 ⟨rfl, hb⟩; refine ⟨_, rfl, ?_⟩; have n_ := aT (Kd.R_below (rF3 HO607.out BK611.out) hb) (aT (bF NB601_611 BK601 hb) (aT (blk_below (g := gb611) (o := .cells #[.int .i64 (rd t604 1), .int .i64 (rd t604 2), .int .i64 (rd t604 3)] 36 (0, 0)) (bP BK611) hb) (aM (below_step bS hb)))); clear HO607 BK601 BK611 HB; obtain ⟨HO607, BK601, BK611, HB⟩ := n_; (try clear hb); obtain ⟨⟨hcz37_0, hcz37_1, hcz37_2⟩, hfz37_0, hfz37_1, hfz37_2⟩ := cF3 BK601))
     refine bodyPost_ret (results_ct rfl _ _ gb601 36 #[.int .i64 0, .int .i64 0, .int .i64 0] (0, 0) _ rfl (bP BK601) Try.underlying36 rfl (by kernel_rfl)) rfl ?_
     exact ⟨eE, bS⟩
    rw [if_neg c8] at H
    exact absurd H (by simp)
   rw [if_neg c7] at H
   exact absurd H (by simp)
  rw [if_neg c6] at H
  exact absurd H (by simp)
 rw [if_neg c5] at H
 have c5b0 : ((t604.length : Int) == 4) = false := beq_eq_false_iff_ne.mpr c5
 have c5b1 : ((t604.length : Int) != 4) = true := bne_iff_ne.mpr c5
 simp only [Option.some.injEq, Prod.mk.injEq] at H
 obtain ⟨rfl, rfl, rfl, rfl⟩ := H
 go_enter Try.func12, Try.ntmps12
 go_wp2_with (first | ((with_reducible refine gD 4 rfl ?_); refine bE #[.int .i64 0, .int .i64 0, .int .i64 0] 36 ?_; intro gb601 hg w38 hbox hb; have n_ := aT (below_step bH hb) (aT (hbox) (aT ((bZ hg : w.heap.size ≤ gb601)) (aM ((bZ hg : w.heap.size ≤ gb601))))); clear HB; obtain ⟨HB, BK601, GW601, GE601⟩ := n_; clear hb hbox hg) | ((with_reducible refine gC 30 rfl ?_); refine gL (some 14) Try.func30 #[.string a0, .int .i64 a1] ?_; (with_reducible refine (impl_Open.calls k a0 a1 t602 t603 _ A3.out).mono ?_); rintro e w39 ⟨rfl, hb⟩; refine ⟨_, rfl, ?_⟩; have n_ := aT (bB BK601 hb) (aM (below_step bS hb)); clear BK601 HB; obtain ⟨BK601, HB⟩ := n_; (try clear hb)) | ((with_reducible refine gC 32 rfl ?_); refine gL (some 19) Try.func32 #[.string t602] ?_; (with_reducible refine (impl_ReadNums.calls k t602 t604 t605 _ A4.out).mono ?_); rintro e w40 ⟨v606, rfl, ho0, hb⟩; refine ⟨_, rfl, ?_⟩; have n_ := aT (Kd.R_lower ho0 (below_size bS)) (aT (bB BK601 hb) (aM (below_step bS hb))); clear BK601 HB; obtain ⟨HO607, BK601, HB⟩ := n_; (try clear hb); (try clear ho0); obtain ⟨Ao41, co41, eo41⟩ := Kd.R_slice HO607.out; subst eo41; obtain ⟨⟨hcz42_0, hcz42_1, hcz42_2⟩, hfz42_0, hfz42_1, hfz42_2⟩ := cF3 BK601))
 refine bodyPost_ret (results_ct rfl _ _ gb601 36 #[.int .i64 0, .int .i64 0, .int .i64 0] (0, 0) _ rfl (bP BK601) Try.underlying36 rfl (by kernel_rfl)) rfl ?_
 exact ⟨eE, bS⟩

/-! ### spec_l5AuthOk: function 42 -/
def spec_l5AuthOk.f (a0_0 : Int) (a0_1 : Int) (a0_2 : Int) : Option (Bool) := (spec_l5Principal.f a0_0).bind fun t614 => (if t614 = true then ((spec_l1In.f a0_1 0 100000).bind fun t615 => (if t615 = true then ((spec_l1In.f a0_2 0 1000000).bind fun t616 => (some t616)) else (some false))) else (some false))
set_option maxHeartbeats 8000000 in
set_option maxRecDepth 100000 in
theorem spec_l5AuthOk.calls (a0_0 : Int) (a0_1 : Int) (a0_2 : Int) (r : Bool) (w : World) (h : spec_l5AuthOk.f a0_0 a0_1 a0_2 = some r) :
  Calls Try.prog 42 #[.agg #[.int .i64 a0_0, .int .i64 a0_1, .int .i64 a0_2]] w fun e w' => e = .returned (.bool r) ∧ Below w.heap.size w w' := by
 have hu36 := Try.underlying36
 have HB := Aside0.mk (Below.refl w.heap.size w)
 have H := h
 clear h
 unfold spec_l5AuthOk.f at H
 obtain ⟨t614, A2, H⟩ := oB H
 by_cases c3 : t614 = true
 ·subst c3
  rw [if_pos rfl] at H
  obtain ⟨t615, A4, H⟩ := oB H
  by_cases c5 : t615 = true
  ·subst c5
   rw [if_pos rfl] at H
   obtain ⟨t616, A6, H⟩ := oB H
   obtain rfl := Option.some.inj H
   go_enter Try.func42, Try.ntmps42
   go_wp2_with (first | ((with_reducible refine gD 1 rfl ?_); refine bE #[.int .i64 a0_0, .int .i64 a0_1, .int .i64 a0_2] 36 ?_; intro gb613 hg w7 hbox hb; have n_ := aT (below_step bH hb) (aT (hbox) (aT ((bZ hg : w.heap.size ≤ gb613)) (aM ((bZ hg : w.heap.size ≤ gb613))))); clear HB; obtain ⟨HB, BK613, GW613, GE613⟩ := n_; clear hb hbox hg; obtain ⟨⟨hcz8_0, hcz8_1, hcz8_2⟩, hfz8_0, hfz8_1, hfz8_2⟩ := cF3 BK613) | ((with_reducible refine gC 68 rfl ?_); refine gL (some 5) Try.func68 #[.int .i64 a0_0] ?_; (with_reducible refine (spec_l5Principal.calls a0_0 true _ A2.out).mono ?_); rintro e w' ⟨rfl, ⟨nd, rfl⟩⟩; refine ⟨_, rfl, ?_⟩) | (go_at_call 48; (with_reducible refine (spec_l1In.calls a0_1 0 100000 true _ A4.out).mono ?_); rintro e w' ⟨rfl, ⟨nd, rfl⟩⟩) | (go_at_call 48; (with_reducible refine (spec_l1In.calls a0_2 0 1000000 t616 _ A6.out).mono ?_); rintro e w' ⟨rfl, ⟨nd, rfl⟩⟩))
   go_ret
   exact ⟨eE, bS⟩
  replace c5 := Bool.eq_false_iff.mpr c5
  subst c5
  rw [if_neg nF] at H
  obtain rfl := Option.some.inj H
  go_enter Try.func42, Try.ntmps42
  go_wp2_with (first | ((with_reducible refine gD 1 rfl ?_); refine bE #[.int .i64 a0_0, .int .i64 a0_1, .int .i64 a0_2] 36 ?_; intro gb613 hg w9 hbox hb; have n_ := aT (below_step bH hb) (aT (hbox) (aT ((bZ hg : w.heap.size ≤ gb613)) (aM ((bZ hg : w.heap.size ≤ gb613))))); clear HB; obtain ⟨HB, BK613, GW613, GE613⟩ := n_; clear hb hbox hg; obtain ⟨⟨hcz10_0, hcz10_1, hcz10_2⟩, hfz10_0, hfz10_1, hfz10_2⟩ := cF3 BK613) | ((with_reducible refine gC 68 rfl ?_); refine gL (some 5) Try.func68 #[.int .i64 a0_0] ?_; (with_reducible refine (spec_l5Principal.calls a0_0 true _ A2.out).mono ?_); rintro e w' ⟨rfl, ⟨nd, rfl⟩⟩; refine ⟨_, rfl, ?_⟩) | (go_at_call 48; (with_reducible refine (spec_l1In.calls a0_1 0 100000 false _ A4.out).mono ?_); rintro e w' ⟨rfl, ⟨nd, rfl⟩⟩))
  go_ret
  exact ⟨eE, bS⟩
 replace c3 := Bool.eq_false_iff.mpr c3
 subst c3
 rw [if_neg nF] at H
 obtain rfl := Option.some.inj H
 go_enter Try.func42, Try.ntmps42
 go_wp2_with (first | ((with_reducible refine gD 1 rfl ?_); refine bE #[.int .i64 a0_0, .int .i64 a0_1, .int .i64 a0_2] 36 ?_; intro gb613 hg w11 hbox hb; have n_ := aT (below_step bH hb) (aT (hbox) (aT ((bZ hg : w.heap.size ≤ gb613)) (aM ((bZ hg : w.heap.size ≤ gb613))))); clear HB; obtain ⟨HB, BK613, GW613, GE613⟩ := n_; clear hb hbox hg; obtain ⟨⟨hcz12_0, hcz12_1, hcz12_2⟩, hfz12_0, hfz12_1, hfz12_2⟩ := cF3 BK613) | ((with_reducible refine gC 68 rfl ?_); refine gL (some 5) Try.func68 #[.int .i64 a0_0] ?_; (with_reducible refine (spec_l5Principal.calls a0_0 false _ A2.out).mono ?_); rintro e w' ⟨rfl, ⟨nd, rfl⟩⟩; refine ⟨_, rfl, ?_⟩))
 go_ret
 exact ⟨eE, bS⟩

/-! ### spec_ShowAuth: function 13 -/
def spec_ShowAuth.f (k : Nat) (a0_0 : Int) (a0_1 : Int) (a0_2 : Int) (a1 : Int) : Option (ByteArray) := (spec_l5AuthOk.f a0_0 a0_1 a0_2).bind fun t618 => (if t618 = true then ((spec_Nums.f k (([7, a0_0, a0_1, a0_2] : List Int))).bind fun t622 => ((spec_Seal.f k a1 t622).bind fun t623 => (some t623))) else (some (⟨#[]⟩ : ByteArray)))
set_option maxHeartbeats 8000000 in
set_option maxRecDepth 100000 in
theorem spec_ShowAuth.calls (k : Nat) (a0_0 : Int) (a0_1 : Int) (a0_2 : Int) (a1 : Int) (r : ByteArray) (w : World) (h : spec_ShowAuth.f k a0_0 a0_1 a0_2 a1 = some r) :
  Calls Try.prog 13 #[.agg #[.int .i64 a0_0, .int .i64 a0_1, .int .i64 a0_2], .int .i64 a1] w fun e w' => e = .returned (.string r) ∧ Below w.heap.size w w' := by
 have hu36 := Try.underlying36
 have HB := Aside0.mk (Below.refl w.heap.size w)
 have H := h
 clear h
 unfold spec_ShowAuth.f at H
 obtain ⟨t618, A3, H⟩ := oB H
 by_cases c4 : t618 = true
 ·subst c4
  rw [if_pos rfl] at H
  obtain ⟨y619, hy619⟩ : ∃ y_ : List Int, y_ = (([7, a0_0, a0_1, a0_2] : List Int)) := ⟨_, rfl⟩
  replace H : ((spec_Nums.f k y619).bind fun t622 => ((spec_Seal.f k a1 t622).bind fun t623 => (some t623))) = some r := by first | (rw [hy619]; with_reducible exact H) | (have H2_ := (Option.bind_some _ _).symm.trans H; rw [hy619]; with_reducible exact H2_) | (have H2_ := (Option.bind_some _ _).symm.trans H; with_reducible exact H2_) | with_reducible exact H | (rw [hy619]; exact H) | exact H
  have Ny619 := Aside0.mk hy619
  clear hy619
  obtain ⟨t622, A5, H⟩ := oB H
  obtain ⟨t623, A6, H⟩ := oB H
  obtain rfl := Option.some.inj H
  go_enter Try.func13, Try.ntmps13
  go_wp2_with (first | ((with_reducible refine gD 2 rfl ?_); refine bE #[.int .i64 a0_0, .int .i64 a0_1, .int .i64 a0_2] 36 ?_; intro gb617 hg w7 hbox hb; have n_ := aT (below_step bH hb) (aT (hbox) (aT ((bZ hg : w.heap.size ≤ gb617)) (aM ((bZ hg : w.heap.size ≤ gb617))))); clear HB; obtain ⟨HB, BK617, GW617, GE617⟩ := n_; clear hb hbox hg; obtain ⟨⟨hcz8_0, hcz8_1, hcz8_2⟩, hfz8_0, hfz8_1, hfz8_2⟩ := cF3 BK617) | ((with_reducible refine gC 42 rfl ?_); refine gL (some 6) Try.func42 #[.agg #[.int .i64 a0_0, .int .i64 a0_1, .int .i64 a0_2]] ?_; (with_reducible refine (spec_l5AuthOk.calls a0_0 a0_1 a0_2 true _ A3.out).mono ?_); rintro e w9 ⟨rfl, hb⟩; refine ⟨_, rfl, ?_⟩; have n_ := aT (bB BK617 hb) (aM (below_step bS hb)); clear BK617 HB; obtain ⟨BK617, HB⟩ := n_; (try clear hb); obtain ⟨⟨hcz10_0, hcz10_1, hcz10_2⟩, hfz10_0, hfz10_1, hfz10_2⟩ := cF3 BK617) | ((with_reducible refine gate_dst (N := 15) rfl ?_); refine Kd.R_lit (Kd.int .i64) _ 3 ?hg (N := 15) ?hd (xs := ([7, a0_0, a0_1, a0_2] : List Int)) (inner := [.int .i64 7, .int .i64 a0_0, .int .i64 a0_1, .int .i64 a0_2]) (ok := fun _ => True) (okp := fun _ => True) ?hr ?hp (fun _ hk => hk) trivial (Below.refl _ _) (Nat.le_refl _) (by simp) ?_; (case hd => rfl); (case hg => rfl); (case hr => first | (go_simp; done) | (go_simp; rfl)); (case hp => exact (Reps.one (show Kd.M (Kd.int .i64) _ _ _ 7 [.int .i64 7] from rfl) (Reps.one (show Kd.M (Kd.int .i64) _ _ _ a0_0 [.int .i64 a0_0] from rfl) (Reps.one (show Kd.M (Kd.int .i64) _ _ _ a0_1 [.int .i64 a0_1] from rfl) (Reps.one (show Kd.M (Kd.int .i64) _ _ _ a0_2 [.int .i64 a0_2] from rfl) (Reps.none _ _)))))); intro v620 w11 ho12 hb hg_ hnew_; clear hg_ hnew_; (first | rw [← Ny619.out] at ho12 | (simp only [Int.reduceToNat] at ho12; rw [← Ny619.out] at ho12)); have n_ := aT (Kd.R_lower ho12 (below_size bS)) (aT (bB BK617 hb) (aM (below_step bS hb))); clear BK617 HB; obtain ⟨HO621, BK617, HB⟩ := n_; clear hb ho12; obtain ⟨Ao13, co13, eo13⟩ := Kd.R_slice HO621.out; subst eo13) | ((with_reducible refine gC 37 rfl ?_); refine gL (some 16) Try.func37 #[.slice Ao13 y619.length co13] ?_; (with_reducible refine (spec_Nums.calls k _ _ y619 t622 _ ?side1 ?side2 A5.out).mono ?_); (case side1 => exact cA ((Kd.R_reads' HO621.out).2.2)); (case side2 => exact (Kd.R_reads' HO621.out).2.1); rintro e w14 ⟨rfl, hb⟩; refine ⟨_, rfl, ?_⟩; have n_ := aT (rB HO621 hb) (aT (bB BK617 hb) (aM (below_step bS hb))); clear HO621 BK617 HB; obtain ⟨HO621, BK617, HB⟩ := n_; (try clear hb)) | ((with_reducible refine gC 35 rfl ?_); refine gL (some 17) Try.func35 #[.int .i64 a1, .string t622] ?_; (with_reducible refine (spec_Seal.calls k a1 t622 t623 _ A6.out).mono ?_); rintro e w15 ⟨rfl, hb⟩; refine ⟨_, rfl, ?_⟩; have n_ := aT (rB HO621 hb) (aT (bB BK617 hb) (aM (below_step bS hb))); clear HO621 BK617 HB; obtain ⟨HO621, BK617, HB⟩ := n_; (try clear hb)))
  go_ret
  exact ⟨eE, bS⟩
 replace c4 := Bool.eq_false_iff.mpr c4
 subst c4
 rw [if_neg nF] at H
 obtain rfl := Option.some.inj H
 go_enter Try.func13, Try.ntmps13
 go_wp2_with (first | ((with_reducible refine gD 2 rfl ?_); refine bE #[.int .i64 a0_0, .int .i64 a0_1, .int .i64 a0_2] 36 ?_; intro gb617 hg w16 hbox hb; have n_ := aT (below_step bH hb) (aT (hbox) (aT ((bZ hg : w.heap.size ≤ gb617)) (aM ((bZ hg : w.heap.size ≤ gb617))))); clear HB; obtain ⟨HB, BK617, GW617, GE617⟩ := n_; clear hb hbox hg; obtain ⟨⟨hcz17_0, hcz17_1, hcz17_2⟩, hfz17_0, hfz17_1, hfz17_2⟩ := cF3 BK617) | ((with_reducible refine gC 42 rfl ?_); refine gL (some 6) Try.func42 #[.agg #[.int .i64 a0_0, .int .i64 a0_1, .int .i64 a0_2]] ?_; (with_reducible refine (spec_l5AuthOk.calls a0_0 a0_1 a0_2 false _ A3.out).mono ?_); rintro e w18 ⟨rfl, hb⟩; refine ⟨_, rfl, ?_⟩; have n_ := aT (bB BK617 hb) (aM (below_step bS hb)); clear BK617 HB; obtain ⟨BK617, HB⟩ := n_; (try clear hb)))
 go_ret
 exact ⟨eE, bS⟩

/-! ### spec_l5DrawGrant: function 43 -/
def spec_l5DrawGrant.f (s0_0 : List Int) (s0_1 : Int) (s0_2 : Int) : Option (Int × Int × Int × Int × Int × Int × Int × Int) := (spec_l1Below.f s0_0 s0_1 s0_2 9).bind fun bt625 => ((spec_l1PickInt.f s0_0 bt625.2.1 bt625.2.2 (([0, 1, 2, 10, 11, 12] : List Int))).bind fun bt631 => ((spec_l1Below.f s0_0 bt631.2.1 bt631.2.2 200).bind fun bt634 => ((spec_l4Any.f s0_0 bt634.2.1 bt634.2.2).bind fun bt637 => ((spec_l1Once.f s0_0 bt637.2.2.2.1 bt637.2.2.2.2 10).bind fun bt643 => (if bt643.1 = true then ((spec_l1Below.f s0_0 bt643.2.1 bt643.2.2 3).bind fun bt646 => (if bt646.1 = 0 then ((spec_l1PickInt.f s0_0 bt646.2.1 bt646.2.2 (([0, 1000001] : List Int))).bind fun bt652 => (some (bt652.1, bt631.1, bt634.1, bt637.1, bt637.2.1, bt637.2.2.1, bt652.2.1, bt652.2.2))) else (if bt646.1 = 1 then ((spec_l1PickInt.f s0_0 bt646.2.1 bt646.2.2 (([(-1), 3, 13] : List Int))).bind fun bt658 => (some (wrap64 (101 + bt625.1), bt658.1, bt634.1, bt637.1, bt637.2.1, bt637.2.2.1, bt658.2.1, bt658.2.2))) else ((spec_l1PickInt.f s0_0 bt646.2.1 bt646.2.2 (([(-1), 1000000, 1000001] : List Int))).bind fun bt664 => (some (wrap64 (101 + bt625.1), bt631.1, bt664.1, bt637.1, bt637.2.1, bt637.2.2.1, bt664.2.1, bt664.2.2)))))) else (some (wrap64 (101 + bt625.1), bt631.1, bt634.1, bt637.1, bt637.2.1, bt637.2.2.1, bt643.2.1, bt643.2.2)))))))
set_option maxHeartbeats 8000000 in
set_option maxRecDepth 100000 in
theorem spec_l5DrawGrant.calls (g : Nat) (s0_0 : List Int) (s0_1 : Int) (s0_2 : Int) (r1 : Int) (r2 : Int) (r3 : Int) (r4 : Int) (r5 : Int) (r6 : Int) (r7 : Int) (r8 : Int) (w0 w : World) (hI : IsS79 w0 w g s0_0 s0_1 s0_2) (hB : Below w0.heap.size w0 w) (h : spec_l5DrawGrant.f s0_0 s0_1 s0_2 = some (r1, r2, r3, r4, r5, r6, r7, r8)) :
  Calls Try.prog 43 #[.pointer (some ⟨g, 0, none⟩)] w fun e w' => e = .returned (.agg #[.int .i64 r1, .int .i64 r2, .int .i64 r3, .int .i64 r4, .int .i64 r5, .int .i64 r6]) ∧ IsS79 w0 w' g s0_0 r7 r8 ∧ Below w0.heap.size w0 w' ∧ KeepBut w w' g none := by
 have hu43 := Try.underlying43
 have HI0 := Aside0.mk hI
 have HK := Aside0.mk (KeepBut.refl w g none)
 have HL := Aside0.mk hB.size
 clear hI
 have HW0 := Aside0.mk hB.size
 have HB := Aside0.mk hB
 clear hB
 have H := h
 clear h
 unfold spec_l5DrawGrant.f at H
 obtain ⟨⟨t625, t626, t627⟩, A2, H⟩ := oB H
 dsimp only at H
 obtain ⟨y628, hy628⟩ : ∃ y_ : List Int, y_ = (([0, 1, 2, 10, 11, 12] : List Int)) := ⟨_, rfl⟩
 replace H : ((spec_l1PickInt.f s0_0 t626 t627 y628).bind fun bt631 => ((spec_l1Below.f s0_0 bt631.2.1 bt631.2.2 200).bind fun bt634 => ((spec_l4Any.f s0_0 bt634.2.1 bt634.2.2).bind fun bt637 => ((spec_l1Once.f s0_0 bt637.2.2.2.1 bt637.2.2.2.2 10).bind fun bt643 => (if bt643.1 = true then ((spec_l1Below.f s0_0 bt643.2.1 bt643.2.2 3).bind fun bt646 => (if bt646.1 = 0 then ((spec_l1PickInt.f s0_0 bt646.2.1 bt646.2.2 (([0, 1000001] : List Int))).bind fun bt652 => (some (bt652.1, bt631.1, bt634.1, bt637.1, bt637.2.1, bt637.2.2.1, bt652.2.1, bt652.2.2))) else (if bt646.1 = 1 then ((spec_l1PickInt.f s0_0 bt646.2.1 bt646.2.2 (([(-1), 3, 13] : List Int))).bind fun bt658 => (some (wrap64 (101 + t625), bt658.1, bt634.1, bt637.1, bt637.2.1, bt637.2.2.1, bt658.2.1, bt658.2.2))) else ((spec_l1PickInt.f s0_0 bt646.2.1 bt646.2.2 (([(-1), 1000000, 1000001] : List Int))).bind fun bt664 => (some (wrap64 (101 + t625), bt631.1, bt664.1, bt637.1, bt637.2.1, bt637.2.2.1, bt664.2.1, bt664.2.2)))))) else (some (wrap64 (101 + t625), bt631.1, bt634.1, bt637.1, bt637.2.1, bt637.2.2.1, bt643.2.1, bt643.2.2))))))) = some (r1, r2, r3, r4, r5, r6, r7, r8) := by first | (rw [hy628]; with_reducible exact H) | (have H2_ := (Option.bind_some _ _).symm.trans H; rw [hy628]; with_reducible exact H2_) | (have H2_ := (Option.bind_some _ _).symm.trans H; with_reducible exact H2_) | with_reducible exact H | (rw [hy628]; exact H) | exact H
 have Ny628 := Aside0.mk hy628
 clear hy628
 obtain ⟨⟨t631, t632, t633⟩, A3, H⟩ := oB H
 dsimp only at H
 obtain ⟨⟨t634, t635, t636⟩, A4, H⟩ := oB H
 dsimp only at H
 obtain ⟨⟨t637, t638, t639, t640, t641⟩, A5, H⟩ := oB H
 dsimp only at H
 obtain ⟨⟨t643, t644, t645⟩, A6, H⟩ := oB H
 dsimp only at H
 by_cases c7 : t643 = true
 ·subst c7
  rw [if_pos rfl] at H
  obtain ⟨⟨t646, t647, t648⟩, A8, H⟩ := oB H
  dsimp only at H
  by_cases c9 : t646 = 0
  ·rw [if_pos c9] at H
   have c9b0 : (t646 == 0) = true := beq_iff_eq.mpr c9
   have c9b1 : (t646 != 0) = false := bne_eq_false_iff_eq.mpr c9
   clear c9
   obtain ⟨y649, hy649⟩ : ∃ y_ : List Int, y_ = (([0, 1000001] : List Int)) := ⟨_, rfl⟩
   replace H : ((spec_l1PickInt.f s0_0 t647 t648 y649).bind fun bt652 => (some (bt652.1, t631, t634, t637, t638, t639, bt652.2.1, bt652.2.2))) = some (r1, r2, r3, r4, r5, r6, r7, r8) := by first | (rw [hy649]; with_reducible exact H) | (have H2_ := (Option.bind_some _ _).symm.trans H; rw [hy649]; with_reducible exact H2_) | (have H2_ := (Option.bind_some _ _).symm.trans H; with_reducible exact H2_) | with_reducible exact H | (rw [hy649]; exact H) | exact H
   have Ny649 := Aside0.mk hy649
   clear hy649
   obtain ⟨⟨t652, t653, t654⟩, A10, H⟩ := oB H
   dsimp only at H
   simp only [Option.some.injEq, Prod.mk.injEq] at H
   obtain ⟨rfl, rfl, rfl, rfl, rfl, rfl, rfl, rfl⟩ := H
   go_enter Try.func43, Try.ntmps43
   go_wp2_with (first | ((with_reducible refine gD 2 rfl ?_); refine bE #[.int .i64 0, .int .i64 0, .int .i64 0, .int .i64 0, .int .i64 0, .int .i64 0] 43 ?_; intro gb624 hg w11 hbox hb; have n_ := aT (IsS79.below IsS79.qHI0 hb) (aT (KeepBut.trans kK (KeepBut.of_below hb g none) (.inl rfl)) (aT (below_step IsS79.bHI0 hb) (aT (hbox) (aT ((kZ hg : w.heap.size ≤ gb624)) (aT ((Nat.le_trans HW0.out (kZ hg : w.heap.size ≤ gb624) : w0.heap.size ≤ gb624)) (aT ((by rw [hg]; exact Nat.ne_of_lt (IsS79.lt (show IsS79 w0 _ g s0_0 s0_1 s0_2 from IsS79.qHI0)) : g ≠ gb624)) (aM ((by rw [hg]; exact Nat.ne_of_gt (IsS79.lt (show IsS79 w0 _ g s0_0 s0_1 s0_2 from IsS79.qHI0)) : gb624 ≠ g))))))))); clear HI0 HK HB; obtain ⟨HI0, HK, HB, BK624, GW624, GE624, NB0_624, NB624_0⟩ := n_; clear hb hbox hg) | ((with_reducible refine gC 50 rfl ?_); refine gL (some 5) Try.func50 #[.pointer (some ⟨g, 0, none⟩), .int .i64 9] ?_; (with_reducible refine (spec_l1Below.calls g s0_0 s0_1 s0_2 9 t625 t626 t627 w0 _ ?side1 ?side2 A2.out).mono ?_); (case side1 => exact IsS79.qHI0); (case side2 => exact IsS79.bHI0); rintro e w12 ⟨rfl, hi, hb, hk⟩; refine ⟨_, rfl, ?_⟩; have n_ := aT (kW hk BK624 NB624_0) (aT (KeepBut.trans kK hk (.inl rfl)) (aT (hb) (aM (hi)))); clear BK624 HK HB HI0; obtain ⟨BK624, HK, HB, HI0⟩ := n_; (try clear hb); (try clear hk); (try clear hi)) | ((with_reducible refine gate_dst (N := 8) rfl ?_); refine Kd.R_lit (Kd.int .i64) _ 3 ?hg (N := 8) ?hd (xs := ([0, 1, 2, 10, 11, 12] : List Int)) (inner := [.int .i64 0, .int .i64 1, .int .i64 2, .int .i64 10, .int .i64 11, .int .i64 12]) (ok := fun _ => True) (okp := fun _ => True) ?hr ?hp (fun _ hk => hk) trivial (Below.refl _ _) (Nat.le_refl _) (by simp) ?_; (case hd => rfl); (case hg => rfl); (case hr => first | (go_simp; done) | (go_simp; rfl)); (case hp => exact (Reps.one (show Kd.M (Kd.int .i64) _ _ _ 0 [.int .i64 0] from rfl) (Reps.one (show Kd.M (Kd.int .i64) _ _ _ 1 [.int .i64 1] from rfl) (Reps.one (show Kd.M (Kd.int .i64) _ _ _ 2 [.int .i64 2] from rfl) (Reps.one (show Kd.M (Kd.int .i64) _ _ _ 10 [.int .i64 10] from rfl) (Reps.one (show Kd.M (Kd.int .i64) _ _ _ 11 [.int .i64 11] from rfl) (Reps.one (show Kd.M (Kd.int .i64) _ _ _ 12 [.int .i64 12] from rfl) (Reps.none _ _)))))))); intro v629 w13 ho14 hb hg_ hnew_; clear hg_ hnew_; (first | rw [← Ny628.out] at ho14 | (simp only [Int.reduceToNat] at ho14; rw [← Ny628.out] at ho14)); have n_ := aT (Kd.R_lower ho14 kL) (aT (IsS79.below IsS79.qHI0 hb) (aT (bB BK624 hb) (aT (KeepBut.trans kK (KeepBut.of_below hb g none) (.inl rfl)) (aM (below_step IsS79.bHI0 hb))))); clear HI0 BK624 HK HB; obtain ⟨HO630, HI0, BK624, HK, HB⟩ := n_; clear hb ho14; obtain ⟨Ao15, co15, eo15⟩ := Kd.R_slice HO630.out; subst eo15) | ((with_reducible refine gC 49 rfl ?_); refine gL (some 9) Try.func49 #[.pointer (some ⟨g, 0, none⟩), .slice Ao15 y628.length co15] ?_; (with_reducible refine (spec_l1PickInt.calls g s0_0 t626 t627 _ _ y628 t631 t632 t633 w0 _ ?side1 ?side2 ?side3 ?side4 ?side5 A3.out).mono ?_); (case side1 => exact IsS79.qHI0); (case side2 => exact IsS79.bHI0); (case side3 => exact cA ((Kd.R_reads' HO630.out).2.2)); (case side4 => exact (Kd.R_reads' HO630.out).2.1); (case side5 => exact far_slice (IsS79.own_ne HI0.out HO630.out (by decide))); rintro e w16 ⟨rfl, hi, hb, hk⟩; refine ⟨_, rfl, ?_⟩; have n_ := aT (kW hk BK624 NB624_0) (aT (IsS79.rK hk (kR HO630.out) (show IsS79 w0 _ g s0_0 t626 t627 from IsS79.qHI0)) (aT (KeepBut.trans kK hk (.inl rfl)) (aT (hb) (aM (hi))))); clear BK624 HO630 HK HB HI0; obtain ⟨BK624, HO630, HK, HB, HI0⟩ := n_; (try clear hb); (try clear hk); (try clear hi)) | ((with_reducible refine gC 50 rfl ?_); refine gL (some 11) Try.func50 #[.pointer (some ⟨g, 0, none⟩), .int .i64 200] ?_; (with_reducible refine (spec_l1Below.calls g s0_0 t632 t633 200 t634 t635 t636 w0 _ ?side1 ?side2 A4.out).mono ?_); (case side1 => exact IsS79.qHI0); (case side2 => exact IsS79.bHI0); rintro e w17 ⟨rfl, hi, hb, hk⟩; refine ⟨_, rfl, ?_⟩; have n_ := aT (kW hk BK624 NB624_0) (aT (IsS79.rK hk (kR HO630.out) (show IsS79 w0 _ g s0_0 t632 t633 from IsS79.qHI0)) (aT (KeepBut.trans kK hk (.inl rfl)) (aT (hb) (aM (hi))))); clear BK624 HO630 HK HB HI0; obtain ⟨BK624, HO630, HK, HB, HI0⟩ := n_; (try clear hb); (try clear hk); (try clear hi)) | ((with_reducible refine gC 46 rfl ?_); refine gL (some 13) Try.func46 #[.pointer (some ⟨g, 0, none⟩)] ?_; (with_reducible refine (spec_l4Any.calls g s0_0 t635 t636 t637 t638 t639 t640 t641 w0 _ ?side1 ?side2 A5.out).mono ?_); (case side1 => exact IsS79.qHI0); (case side2 => exact IsS79.bHI0); rintro e w18 ⟨rfl, hi, hb, hk⟩; refine ⟨_, rfl, ?_⟩; have n_ := aT (kW hk BK624 NB624_0) (aT (IsS79.rK hk (kR HO630.out) (show IsS79 w0 _ g s0_0 t635 t636 from IsS79.qHI0)) (aT (KeepBut.trans kK hk (.inl rfl)) (aT (hb) (aM (hi))))); clear BK624 HO630 HK HB HI0; obtain ⟨BK624, HO630, HK, HB, HI0⟩ := n_; (try clear hb); (try clear hk); (try clear hi)) | ((with_reducible refine gD 3 rfl ?_); refine bE #[.int .i64 0, .int .i64 0, .int .i64 0, .int .i64 0, .int .i64 0, .int .i64 0] 43 ?_; intro gb642 hg w19 hbox hb; have n_ := aT (rB HO630 hb) (aT (IsS79.below IsS79.qHI0 hb) (aT (bB BK624 hb) (aT (KeepBut.trans kK (KeepBut.of_below hb g none) (.inl rfl)) (aT (below_step IsS79.bHI0 hb) (aT (hbox) (aT ((kZ hg : w.heap.size ≤ gb642)) (aT ((Nat.le_trans HW0.out (kZ hg : w.heap.size ≤ gb642) : w0.heap.size ≤ gb642)) (aT (lB hg BK624) (aT (gB hg BK624) (aT ((by rw [hg]; exact Nat.ne_of_lt (IsS79.lt (show IsS79 w0 _ g s0_0 t640 t641 from IsS79.qHI0)) : g ≠ gb642)) (aM ((by rw [hg]; exact Nat.ne_of_gt (IsS79.lt (show IsS79 w0 _ g s0_0 t640 t641 from IsS79.qHI0)) : gb642 ≠ g))))))))))))); clear HO630 HI0 BK624 HK HB; obtain ⟨HO630, HI0, BK624, HK, HB, BK642, GW642, GE642, NB624_642, NB642_624, NB0_642, NB642_0⟩ := n_; clear hb hbox hg; have hnb20 := NB642_624.out; have hnc20 := NB624_642.out; have hnb21 := NB642_0.out; have hnc21 := NB0_642.out; obtain ⟨⟨hcz22_0, hcz22_1, hcz22_2, hcz22_3, hcz22_4, hcz22_5⟩, hfz22_0, hfz22_1, hfz22_2, hfz22_3, hfz22_4, hfz22_5⟩ := cF6 BK642) | ((with_reducible refine gC 52 rfl ?_); refine gL (some 16) Try.func52 #[.pointer (some ⟨g, 0, none⟩), .int .i64 10] ?_; (with_reducible refine (spec_l1Once.calls g s0_0 t640 t641 10 true t644 t645 w0 _ ?side1 ?side2 A6.out).mono ?_); (case side1 => exact IsS79.qHI0); (case side2 => exact IsS79.bHI0); rintro e w23 ⟨rfl, hi, hb, hk⟩; refine ⟨_, rfl, ?_⟩; have n_ := aT (kV hk NB624_642 BK624 NB624_0) (aT (IsS79.rK hk (rF6 HO630.out BK642.out) (show IsS79 w0 _ g s0_0 t640 t641 from IsS79.qHI0)) (aT (KeepBut.blk hk (g' := gb642) (o := .cells #[.int .i64 (wrap64 (101 + t625)), .int .i64 t631, .int .i64 t634, .int .i64 t637, .int .i64 t638, .int .i64 t639] 43 (0, 0)) (bP BK642) NB642_0.out (by simp)) (aT (KeepBut.trans kK hk (.inl rfl)) (aT (hb) (aM (hi)))))); clear BK624 HO630 BK642 HK HB HI0; obtain ⟨BK624, HO630, BK642, HK, HB, HI0⟩ := n_; (try clear hb); (try clear hk); (try clear hi)) | ((with_reducible refine gC 50 rfl ?_); refine gL (some 18) Try.func50 #[.pointer (some ⟨g, 0, none⟩), .int .i64 3] ?_; (with_reducible refine (spec_l1Below.calls g s0_0 t644 t645 3 t646 t647 t648 w0 _ ?side1 ?side2 A8.out).mono ?_); (case side1 => exact IsS79.qHI0); (case side2 => exact IsS79.bHI0); rintro e w24 ⟨rfl, hi, hb, hk⟩; refine ⟨_, rfl, ?_⟩; have n_ := aT (kW hk BK624 NB624_0) (aT (IsS79.rK hk (kR HO630.out) (show IsS79 w0 _ g s0_0 t644 t645 from IsS79.qHI0)) (aT (kW hk BK642 NB642_0) (aT (KeepBut.trans kK hk (.inl rfl)) (aT (hb) (aM (hi)))))); clear BK624 HO630 BK642 HK HB HI0; obtain ⟨BK624, HO630, BK642, HK, HB, HI0⟩ := n_; (try clear hb); (try clear hk); (try clear hi)) | ((with_reducible refine gate_dst (N := 26) rfl ?_); refine Kd.R_lit (Kd.int .i64) _ 3 ?hg (N := 26) ?hd (xs := ([0, 1000001] : List Int)) (inner := [.int .i64 0, .int .i64 1000001]) (ok := fun _ => True) (okp := fun _ => True) ?hr ?hp (fun _ hk => hk) trivial (Below.refl _ _) (Nat.le_refl _) (by simp) ?_; (case hd => rfl); (case hg => rfl); (case hr => first | (go_simp; done) | (go_simp; rfl)); (case hp => exact (Reps.one (show Kd.M (Kd.int .i64) _ _ _ 0 [.int .i64 0] from rfl) (Reps.one (show Kd.M (Kd.int .i64) _ _ _ 1000001 [.int .i64 1000001] from rfl) (Reps.none _ _)))); intro v650 w25 ho26 hb hg_ hnew_; clear hg_ hnew_; (first | rw [← Ny649.out] at ho26 | (simp only [Int.reduceToNat] at ho26; rw [← Ny649.out] at ho26)); have n_ := aT (Kd.R_elder' (kR HO630.out) (Kd.R_base ho26) hb) (aT (Kd.R_lower (Kd.R_new' ho26 (Kd.R_lt (kR HO630.out))) kL) (aT (IsS79.below IsS79.qHI0 hb) (aT (bB BK624 hb) (aT (bB BK642 hb) (aT (KeepBut.trans kK (KeepBut.of_below hb g none) (.inl rfl)) (aM (below_step IsS79.bHI0 hb))))))); clear HO630 HI0 BK624 BK642 HK HB; obtain ⟨HO630, HO651, HI0, BK624, BK642, HK, HB⟩ := n_; clear hb ho26; obtain ⟨Ao27, co27, eo27⟩ := Kd.R_slice HO651.out; subst eo27) | ((with_reducible refine gC 49 rfl ?_); refine gL (some 27) Try.func49 #[.pointer (some ⟨g, 0, none⟩), .slice Ao27 y649.length co27] ?_; (with_reducible refine (spec_l1PickInt.calls g s0_0 t647 t648 _ _ y649 t652 t653 t654 w0 _ ?side1 ?side2 ?side3 ?side4 ?side5 A10.out).mono ?_); (case side1 => exact IsS79.qHI0); (case side2 => exact IsS79.bHI0); (case side3 => exact cA ((Kd.R_reads' HO651.out).2.2)); (case side4 => exact (Kd.R_reads' HO651.out).2.1); (case side5 => exact far_slice (IsS79.own_ne HI0.out HO651.out (by decide))); rintro e w28 ⟨rfl, hi, hb, hk⟩; refine ⟨_, rfl, ?_⟩; have n_ := aT (kW hk BK624 NB624_0) (aT (IsS79.rK hk (kR HO630.out) (show IsS79 w0 _ g s0_0 t647 t648 from IsS79.qHI0)) (aT (kW hk BK642 NB642_0) (aT (IsS79.rK hk (kR HO651.out) (show IsS79 w0 _ g s0_0 t647 t648 from IsS79.qHI0)) (aT (KeepBut.trans kK hk (.inl rfl)) (aT (hb) (aM (hi))))))); clear BK624 HO630 BK642 HO651 HK HB HI0; obtain ⟨BK624, HO630, BK642, HO651, HK, HB, HI0⟩ := n_; (try clear hb); (try clear hk); (try clear hi); obtain ⟨⟨hcz29_0, hcz29_1, hcz29_2, hcz29_3, hcz29_4, hcz29_5⟩, hfz29_0, hfz29_1, hfz29_2, hfz29_3, hfz29_4, hfz29_5⟩ := cF6 BK642; have hnb30 := NB624_0.out; have hnc30 := NB0_624.out; obtain ⟨⟨hcz31_0, hcz31_1, hcz31_2, hcz31_3, hcz31_4, hcz31_5⟩, hfz31_0, hfz31_1, hfz31_2, hfz31_3, hfz31_4, hfz31_5⟩ := cF6 BK624))
   refine bodyPost_ret (results_cell_row rfl _ _ gb624 43 #[.int .i64 t652, .int .i64 t631, .int .i64 t634, .int .i64 t637, .int .i64 t638, .int .i64 t639] (0, 0) _ rfl (bQ BK624) Try.underlying43 rfl (by kernel_rfl)) rfl ?_
   exact ⟨eE, IsS79.qHI0, IsS79.bHI0, kK⟩
  rw [if_neg c9] at H
  have c9b0 : (t646 == 0) = false := beq_eq_false_iff_ne.mpr c9
  have c9b1 : (t646 != 0) = true := bne_iff_ne.mpr c9
  by_cases c32 : t646 = 1
  ·rw [if_pos c32] at H
   have c32b0 : (t646 == 1) = true := beq_iff_eq.mpr c32
   have c32b1 : (t646 != 1) = false := bne_eq_false_iff_eq.mpr c32
   clear c32
   obtain ⟨y655, hy655⟩ : ∃ y_ : List Int, y_ = (([(-1), 3, 13] : List Int)) := ⟨_, rfl⟩
   replace H : ((spec_l1PickInt.f s0_0 t647 t648 y655).bind fun bt658 => (some (wrap64 (101 + t625), bt658.1, t634, t637, t638, t639, bt658.2.1, bt658.2.2))) = some (r1, r2, r3, r4, r5, r6, r7, r8) := by first | (rw [hy655]; with_reducible exact H) | (have H2_ := (Option.bind_some _ _).symm.trans H; rw [hy655]; with_reducible exact H2_) | (have H2_ := (Option.bind_some _ _).symm.trans H; with_reducible exact H2_) | with_reducible exact H | (rw [hy655]; exact H) | exact H
   have Ny655 := Aside0.mk hy655
   clear hy655
   obtain ⟨⟨t658, t659, t660⟩, A33, H⟩ := oB H
   dsimp only at H
   simp only [Option.some.injEq, Prod.mk.injEq] at H
   obtain ⟨rfl, rfl, rfl, rfl, rfl, rfl, rfl, rfl⟩ := H
   go_enter Try.func43, Try.ntmps43
   go_wp2_with (first | ((with_reducible refine gD 2 rfl ?_); refine bE #[.int .i64 0, .int .i64 0, .int .i64 0, .int .i64 0, .int .i64 0, .int .i64 0] 43 ?_; intro gb624 hg w34 hbox hb; have n_ := aT (IsS79.below IsS79.qHI0 hb) (aT (KeepBut.trans kK (KeepBut.of_below hb g none) (.inl rfl)) (aT (below_step IsS79.bHI0 hb) (aT (hbox) (aT ((kZ hg : w.heap.size ≤ gb624)) (aT ((Nat.le_trans HW0.out (kZ hg : w.heap.size ≤ gb624) : w0.heap.size ≤ gb624)) (aT ((by rw [hg]; exact Nat.ne_of_lt (IsS79.lt (show IsS79 w0 _ g s0_0 s0_1 s0_2 from IsS79.qHI0)) : g ≠ gb624)) (aM ((by rw [hg]; exact Nat.ne_of_gt (IsS79.lt (show IsS79 w0 _ g s0_0 s0_1 s0_2 from IsS79.qHI0)) : gb624 ≠ g))))))))); clear HI0 HK HB; obtain ⟨HI0, HK, HB, BK624, GW624, GE624, NB0_624, NB624_0⟩ := n_; clear hb hbox hg) | ((with_reducible refine gC 50 rfl ?_); refine gL (some 5) Try.func50 #[.pointer (some ⟨g, 0, none⟩), .int .i64 9] ?_; (with_reducible refine (spec_l1Below.calls g s0_0 s0_1 s0_2 9 t625 t626 t627 w0 _ ?side1 ?side2 A2.out).mono ?_); (case side1 => exact IsS79.qHI0); (case side2 => exact IsS79.bHI0); rintro e w35 ⟨rfl, hi, hb, hk⟩; refine ⟨_, rfl, ?_⟩; have n_ := aT (kW hk BK624 NB624_0) (aT (KeepBut.trans kK hk (.inl rfl)) (aT (hb) (aM (hi)))); clear BK624 HK HB HI0; obtain ⟨BK624, HK, HB, HI0⟩ := n_; (try clear hb); (try clear hk); (try clear hi)) | ((with_reducible refine gate_dst (N := 8) rfl ?_); refine Kd.R_lit (Kd.int .i64) _ 3 ?hg (N := 8) ?hd (xs := ([0, 1, 2, 10, 11, 12] : List Int)) (inner := [.int .i64 0, .int .i64 1, .int .i64 2, .int .i64 10, .int .i64 11, .int .i64 12]) (ok := fun _ => True) (okp := fun _ => True) ?hr ?hp (fun _ hk => hk) trivial (Below.refl _ _) (Nat.le_refl _) (by simp) ?_; (case hd => rfl); (case hg => rfl); (case hr => first | (go_simp; done) | (go_simp; rfl)); (case hp => exact (Reps.one (show Kd.M (Kd.int .i64) _ _ _ 0 [.int .i64 0] from rfl) (Reps.one (show Kd.M (Kd.int .i64) _ _ _ 1 [.int .i64 1] from rfl) (Reps.one (show Kd.M (Kd.int .i64) _ _ _ 2 [.int .i64 2] from rfl) (Reps.one (show Kd.M (Kd.int .i64) _ _ _ 10 [.int .i64 10] from rfl) (Reps.one (show Kd.M (Kd.int .i64) _ _ _ 11 [.int .i64 11] from rfl) (Reps.one (show Kd.M (Kd.int .i64) _ _ _ 12 [.int .i64 12] from rfl) (Reps.none _ _)))))))); intro v629 w36 ho37 hb hg_ hnew_; clear hg_ hnew_; (first | rw [← Ny628.out] at ho37 | (simp only [Int.reduceToNat] at ho37; rw [← Ny628.out] at ho37)); have n_ := aT (Kd.R_lower ho37 kL) (aT (IsS79.below IsS79.qHI0 hb) (aT (bB BK624 hb) (aT (KeepBut.trans kK (KeepBut.of_below hb g none) (.inl rfl)) (aM (below_step IsS79.bHI0 hb))))); clear HI0 BK624 HK HB; obtain ⟨HO630, HI0, BK624, HK, HB⟩ := n_; clear hb ho37; obtain ⟨Ao38, co38, eo38⟩ := Kd.R_slice HO630.out; subst eo38) | ((with_reducible refine gC 49 rfl ?_); refine gL (some 9) Try.func49 #[.pointer (some ⟨g, 0, none⟩), .slice Ao38 y628.length co38] ?_; (with_reducible refine (spec_l1PickInt.calls g s0_0 t626 t627 _ _ y628 t631 t632 t633 w0 _ ?side1 ?side2 ?side3 ?side4 ?side5 A3.out).mono ?_); (case side1 => exact IsS79.qHI0); (case side2 => exact IsS79.bHI0); (case side3 => exact cA ((Kd.R_reads' HO630.out).2.2)); (case side4 => exact (Kd.R_reads' HO630.out).2.1); (case side5 => exact far_slice (IsS79.own_ne HI0.out HO630.out (by decide))); rintro e w39 ⟨rfl, hi, hb, hk⟩; refine ⟨_, rfl, ?_⟩; have n_ := aT (kW hk BK624 NB624_0) (aT (IsS79.rK hk (kR HO630.out) (show IsS79 w0 _ g s0_0 t626 t627 from IsS79.qHI0)) (aT (KeepBut.trans kK hk (.inl rfl)) (aT (hb) (aM (hi))))); clear BK624 HO630 HK HB HI0; obtain ⟨BK624, HO630, HK, HB, HI0⟩ := n_; (try clear hb); (try clear hk); (try clear hi)) | ((with_reducible refine gC 50 rfl ?_); refine gL (some 11) Try.func50 #[.pointer (some ⟨g, 0, none⟩), .int .i64 200] ?_; (with_reducible refine (spec_l1Below.calls g s0_0 t632 t633 200 t634 t635 t636 w0 _ ?side1 ?side2 A4.out).mono ?_); (case side1 => exact IsS79.qHI0); (case side2 => exact IsS79.bHI0); rintro e w40 ⟨rfl, hi, hb, hk⟩; refine ⟨_, rfl, ?_⟩; have n_ := aT (kW hk BK624 NB624_0) (aT (IsS79.rK hk (kR HO630.out) (show IsS79 w0 _ g s0_0 t632 t633 from IsS79.qHI0)) (aT (KeepBut.trans kK hk (.inl rfl)) (aT (hb) (aM (hi))))); clear BK624 HO630 HK HB HI0; obtain ⟨BK624, HO630, HK, HB, HI0⟩ := n_; (try clear hb); (try clear hk); (try clear hi)) | ((with_reducible refine gC 46 rfl ?_); refine gL (some 13) Try.func46 #[.pointer (some ⟨g, 0, none⟩)] ?_; (with_reducible refine (spec_l4Any.calls g s0_0 t635 t636 t637 t638 t639 t640 t641 w0 _ ?side1 ?side2 A5.out).mono ?_); (case side1 => exact IsS79.qHI0); (case side2 => exact IsS79.bHI0); rintro e w41 ⟨rfl, hi, hb, hk⟩; refine ⟨_, rfl, ?_⟩; have n_ := aT (kW hk BK624 NB624_0) (aT (IsS79.rK hk (kR HO630.out) (show IsS79 w0 _ g s0_0 t635 t636 from IsS79.qHI0)) (aT (KeepBut.trans kK hk (.inl rfl)) (aT (hb) (aM (hi))))); clear BK624 HO630 HK HB HI0; obtain ⟨BK624, HO630, HK, HB, HI0⟩ := n_; (try clear hb); (try clear hk); (try clear hi)) | ((with_reducible refine gD 3 rfl ?_); refine bE #[.int .i64 0, .int .i64 0, .int .i64 0, .int .i64 0, .int .i64 0, .int .i64 0] 43 ?_; intro gb642 hg w42 hbox hb; have n_ := aT (rB HO630 hb) (aT (IsS79.below IsS79.qHI0 hb) (aT (bB BK624 hb) (aT (KeepBut.trans kK (KeepBut.of_below hb g none) (.inl rfl)) (aT (below_step IsS79.bHI0 hb) (aT (hbox) (aT ((kZ hg : w.heap.size ≤ gb642)) (aT ((Nat.le_trans HW0.out (kZ hg : w.heap.size ≤ gb642) : w0.heap.size ≤ gb642)) (aT (lB hg BK624) (aT (gB hg BK624) (aT ((by rw [hg]; exact Nat.ne_of_lt (IsS79.lt (show IsS79 w0 _ g s0_0 t640 t641 from IsS79.qHI0)) : g ≠ gb642)) (aM ((by rw [hg]; exact Nat.ne_of_gt (IsS79.lt (show IsS79 w0 _ g s0_0 t640 t641 from IsS79.qHI0)) : gb642 ≠ g))))))))))))); clear HO630 HI0 BK624 HK HB; obtain ⟨HO630, HI0, BK624, HK, HB, BK642, GW642, GE642, NB624_642, NB642_624, NB0_642, NB642_0⟩ := n_; clear hb hbox hg; have hnb43 := NB642_624.out; have hnc43 := NB624_642.out; have hnb44 := NB642_0.out; have hnc44 := NB0_642.out; obtain ⟨⟨hcz45_0, hcz45_1, hcz45_2, hcz45_3, hcz45_4, hcz45_5⟩, hfz45_0, hfz45_1, hfz45_2, hfz45_3, hfz45_4, hfz45_5⟩ := cF6 BK642) | ((with_reducible refine gC 52 rfl ?_); refine gL (some 16) Try.func52 #[.pointer (some ⟨g, 0, none⟩), .int .i64 10] ?_; (with_reducible refine (spec_l1Once.calls g s0_0 t640 t641 10 true t644 t645 w0 _ ?side1 ?side2 A6.out).mono ?_); (case side1 => exact IsS79.qHI0); (case side2 => exact IsS79.bHI0); rintro e w46 ⟨rfl, hi, hb, hk⟩; refine ⟨_, rfl, ?_⟩; have n_ := aT (kV hk NB624_642 BK624 NB624_0) (aT (IsS79.rK hk (rF6 HO630.out BK642.out) (show IsS79 w0 _ g s0_0 t640 t641 from IsS79.qHI0)) (aT (KeepBut.blk hk (g' := gb642) (o := .cells #[.int .i64 (wrap64 (101 + t625)), .int .i64 t631, .int .i64 t634, .int .i64 t637, .int .i64 t638, .int .i64 t639] 43 (0, 0)) (bP BK642) NB642_0.out (by simp)) (aT (KeepBut.trans kK hk (.inl rfl)) (aT (hb) (aM (hi)))))); clear BK624 HO630 BK642 HK HB HI0; obtain ⟨BK624, HO630, BK642, HK, HB, HI0⟩ := n_; (try clear hb); (try clear hk); (try clear hi)) | ((with_reducible refine gC 50 rfl ?_); refine gL (some 18) Try.func50 #[.pointer (some ⟨g, 0, none⟩), .int .i64 3] ?_; (with_reducible refine (spec_l1Below.calls g s0_0 t644 t645 3 t646 t647 t648 w0 _ ?side1 ?side2 A8.out).mono ?_); (case side1 => exact IsS79.qHI0); (case side2 => exact IsS79.bHI0); rintro e w47 ⟨rfl, hi, hb, hk⟩; refine ⟨_, rfl, ?_⟩; have n_ := aT (kW hk BK624 NB624_0) (aT (IsS79.rK hk (kR HO630.out) (show IsS79 w0 _ g s0_0 t644 t645 from IsS79.qHI0)) (aT (kW hk BK642 NB642_0) (aT (KeepBut.trans kK hk (.inl rfl)) (aT (hb) (aM (hi)))))); clear BK624 HO630 BK642 HK HB HI0; obtain ⟨BK624, HO630, BK642, HK, HB, HI0⟩ := n_; (try clear hb); (try clear hk); (try clear hi)) | ((with_reducible refine gate_dst (N := 32) rfl ?_); refine Kd.R_lit (Kd.int .i64) _ 3 ?hg (N := 32) ?hd (xs := ([(-1), 3, 13] : List Int)) (inner := [.int .i64 (-1), .int .i64 3, .int .i64 13]) (ok := fun _ => True) (okp := fun _ => True) ?hr ?hp (fun _ hk => hk) trivial (Below.refl _ _) (Nat.le_refl _) (by simp) ?_; (case hd => rfl); (case hg => rfl); (case hr => first | (go_simp; done) | (go_simp; rfl)); (case hp => exact (Reps.one (show Kd.M (Kd.int .i64) _ _ _ (-1) [.int .i64 (-1)] from rfl) (Reps.one (show Kd.M (Kd.int .i64) _ _ _ 3 [.int .i64 3] from rfl) (Reps.one (show Kd.M (Kd.int .i64) _ _ _ 13 [.int .i64 13] from rfl) (Reps.none _ _))))); intro v656 w48 ho49 hb hg_ hnew_; clear hg_ hnew_; (first | rw [← Ny655.out] at ho49 | (simp only [Int.reduceToNat] at ho49; rw [← Ny655.out] at ho49)); have n_ := aT (Kd.R_elder' (kR HO630.out) (Kd.R_base ho49) hb) (aT (Kd.R_lower (Kd.R_new' ho49 (Kd.R_lt (kR HO630.out))) kL) (aT (IsS79.below IsS79.qHI0 hb) (aT (bB BK624 hb) (aT (bB BK642 hb) (aT (KeepBut.trans kK (KeepBut.of_below hb g none) (.inl rfl)) (aM (below_step IsS79.bHI0 hb))))))); clear HO630 HI0 BK624 BK642 HK HB; obtain ⟨HO630, HO657, HI0, BK624, BK642, HK, HB⟩ := n_; clear hb ho49; obtain ⟨Ao50, co50, eo50⟩ := Kd.R_slice HO657.out; subst eo50) | ((with_reducible refine gC 49 rfl ?_); refine gL (some 33) Try.func49 #[.pointer (some ⟨g, 0, none⟩), .slice Ao50 y655.length co50] ?_; (with_reducible refine (spec_l1PickInt.calls g s0_0 t647 t648 _ _ y655 t658 t659 t660 w0 _ ?side1 ?side2 ?side3 ?side4 ?side5 A33.out).mono ?_); (case side1 => exact IsS79.qHI0); (case side2 => exact IsS79.bHI0); (case side3 => exact cA ((Kd.R_reads' HO657.out).2.2)); (case side4 => exact (Kd.R_reads' HO657.out).2.1); (case side5 => exact far_slice (IsS79.own_ne HI0.out HO657.out (by decide))); rintro e w51 ⟨rfl, hi, hb, hk⟩; refine ⟨_, rfl, ?_⟩; have n_ := aT (kW hk BK624 NB624_0) (aT (IsS79.rK hk (kR HO630.out) (show IsS79 w0 _ g s0_0 t647 t648 from IsS79.qHI0)) (aT (kW hk BK642 NB642_0) (aT (IsS79.rK hk (kR HO657.out) (show IsS79 w0 _ g s0_0 t647 t648 from IsS79.qHI0)) (aT (KeepBut.trans kK hk (.inl rfl)) (aT (hb) (aM (hi))))))); clear BK624 HO630 BK642 HO657 HK HB HI0; obtain ⟨BK624, HO630, BK642, HO657, HK, HB, HI0⟩ := n_; (try clear hb); (try clear hk); (try clear hi); obtain ⟨⟨hcz52_0, hcz52_1, hcz52_2, hcz52_3, hcz52_4, hcz52_5⟩, hfz52_0, hfz52_1, hfz52_2, hfz52_3, hfz52_4, hfz52_5⟩ := cF6 BK642; have hnb53 := NB624_0.out; have hnc53 := NB0_624.out; obtain ⟨⟨hcz54_0, hcz54_1, hcz54_2, hcz54_3, hcz54_4, hcz54_5⟩, hfz54_0, hfz54_1, hfz54_2, hfz54_3, hfz54_4, hfz54_5⟩ := cF6 BK624))
   refine bodyPost_ret (results_cell_row rfl _ _ gb624 43 #[.int .i64 (wrap64 (101 + t625)), .int .i64 t658, .int .i64 t634, .int .i64 t637, .int .i64 t638, .int .i64 t639] (0, 0) _ rfl (bQ BK624) Try.underlying43 rfl (by kernel_rfl)) rfl ?_
   exact ⟨eE, IsS79.qHI0, IsS79.bHI0, kK⟩
  rw [if_neg c32] at H
  have c32b0 : (t646 == 1) = false := beq_eq_false_iff_ne.mpr c32
  have c32b1 : (t646 != 1) = true := bne_iff_ne.mpr c32
  obtain ⟨y661, hy661⟩ : ∃ y_ : List Int, y_ = (([(-1), 1000000, 1000001] : List Int)) := ⟨_, rfl⟩
  replace H : ((spec_l1PickInt.f s0_0 t647 t648 y661).bind fun bt664 => (some (wrap64 (101 + t625), t631, bt664.1, t637, t638, t639, bt664.2.1, bt664.2.2))) = some (r1, r2, r3, r4, r5, r6, r7, r8) := by first | (rw [hy661]; with_reducible exact H) | (have H2_ := (Option.bind_some _ _).symm.trans H; rw [hy661]; with_reducible exact H2_) | (have H2_ := (Option.bind_some _ _).symm.trans H; with_reducible exact H2_) | with_reducible exact H | (rw [hy661]; exact H) | exact H
  have Ny661 := Aside0.mk hy661
  clear hy661
  obtain ⟨⟨t664, t665, t666⟩, A55, H⟩ := oB H
  dsimp only at H
  simp only [Option.some.injEq, Prod.mk.injEq] at H
  obtain ⟨rfl, rfl, rfl, rfl, rfl, rfl, rfl, rfl⟩ := H
  go_enter Try.func43, Try.ntmps43
  go_wp2_with (first | ((with_reducible refine gD 2 rfl ?_); refine bE #[.int .i64 0, .int .i64 0, .int .i64 0, .int .i64 0, .int .i64 0, .int .i64 0] 43 ?_; intro gb624 hg w56 hbox hb; have n_ := aT (IsS79.below IsS79.qHI0 hb) (aT (KeepBut.trans kK (KeepBut.of_below hb g none) (.inl rfl)) (aT (below_step IsS79.bHI0 hb) (aT (hbox) (aT ((kZ hg : w.heap.size ≤ gb624)) (aT ((Nat.le_trans HW0.out (kZ hg : w.heap.size ≤ gb624) : w0.heap.size ≤ gb624)) (aT ((by rw [hg]; exact Nat.ne_of_lt (IsS79.lt (show IsS79 w0 _ g s0_0 s0_1 s0_2 from IsS79.qHI0)) : g ≠ gb624)) (aM ((by rw [hg]; exact Nat.ne_of_gt (IsS79.lt (show IsS79 w0 _ g s0_0 s0_1 s0_2 from IsS79.qHI0)) : gb624 ≠ g))))))))); clear HI0 HK HB; obtain ⟨HI0, HK, HB, BK624, GW624, GE624, NB0_624, NB624_0⟩ := n_; clear hb hbox hg) | ((with_reducible refine gC 50 rfl ?_); refine gL (some 5) Try.func50 #[.pointer (some ⟨g, 0, none⟩), .int .i64 9] ?_; (with_reducible refine (spec_l1Below.calls g s0_0 s0_1 s0_2 9 t625 t626 t627 w0 _ ?side1 ?side2 A2.out).mono ?_); (case side1 => exact IsS79.qHI0); (case side2 => exact IsS79.bHI0); rintro e w57 ⟨rfl, hi, hb, hk⟩; refine ⟨_, rfl, ?_⟩; have n_ := aT (kW hk BK624 NB624_0) (aT (KeepBut.trans kK hk (.inl rfl)) (aT (hb) (aM (hi)))); clear BK624 HK HB HI0; obtain ⟨BK624, HK, HB, HI0⟩ := n_; (try clear hb); (try clear hk); (try clear hi)) | ((with_reducible refine gate_dst (N := 8) rfl ?_); refine Kd.R_lit (Kd.int .i64) _ 3 ?hg (N := 8) ?hd (xs := ([0, 1, 2, 10, 11, 12] : List Int)) (inner := [.int .i64 0, .int .i64 1, .int .i64 2, .int .i64 10, .int .i64 11, .int .i64 12]) (ok := fun _ => True) (okp := fun _ => True) ?hr ?hp (fun _ hk => hk) trivial (Below.refl _ _) (Nat.le_refl _) (by simp) ?_; (case hd => rfl); (case hg => rfl); (case hr => first | (go_simp; done) | (go_simp; rfl)); (case hp => exact (Reps.one (show Kd.M (Kd.int .i64) _ _ _ 0 [.int .i64 0] from rfl) (Reps.one (show Kd.M (Kd.int .i64) _ _ _ 1 [.int .i64 1] from rfl) (Reps.one (show Kd.M (Kd.int .i64) _ _ _ 2 [.int .i64 2] from rfl) (Reps.one (show Kd.M (Kd.int .i64) _ _ _ 10 [.int .i64 10] from rfl) (Reps.one (show Kd.M (Kd.int .i64) _ _ _ 11 [.int .i64 11] from rfl) (Reps.one (show Kd.M (Kd.int .i64) _ _ _ 12 [.int .i64 12] from rfl) (Reps.none _ _)))))))); intro v629 w58 ho59 hb hg_ hnew_; clear hg_ hnew_; (first | rw [← Ny628.out] at ho59 | (simp only [Int.reduceToNat] at ho59; rw [← Ny628.out] at ho59)); have n_ := aT (Kd.R_lower ho59 kL) (aT (IsS79.below IsS79.qHI0 hb) (aT (bB BK624 hb) (aT (KeepBut.trans kK (KeepBut.of_below hb g none) (.inl rfl)) (aM (below_step IsS79.bHI0 hb))))); clear HI0 BK624 HK HB; obtain ⟨HO630, HI0, BK624, HK, HB⟩ := n_; clear hb ho59; obtain ⟨Ao60, co60, eo60⟩ := Kd.R_slice HO630.out; subst eo60) | ((with_reducible refine gC 49 rfl ?_); refine gL (some 9) Try.func49 #[.pointer (some ⟨g, 0, none⟩), .slice Ao60 y628.length co60] ?_; (with_reducible refine (spec_l1PickInt.calls g s0_0 t626 t627 _ _ y628 t631 t632 t633 w0 _ ?side1 ?side2 ?side3 ?side4 ?side5 A3.out).mono ?_); (case side1 => exact IsS79.qHI0); (case side2 => exact IsS79.bHI0); (case side3 => exact cA ((Kd.R_reads' HO630.out).2.2)); (case side4 => exact (Kd.R_reads' HO630.out).2.1); (case side5 => exact far_slice (IsS79.own_ne HI0.out HO630.out (by decide))); rintro e w61 ⟨rfl, hi, hb, hk⟩; refine ⟨_, rfl, ?_⟩; have n_ := aT (kW hk BK624 NB624_0) (aT (IsS79.rK hk (kR HO630.out) (show IsS79 w0 _ g s0_0 t626 t627 from IsS79.qHI0)) (aT (KeepBut.trans kK hk (.inl rfl)) (aT (hb) (aM (hi))))); clear BK624 HO630 HK HB HI0; obtain ⟨BK624, HO630, HK, HB, HI0⟩ := n_; (try clear hb); (try clear hk); (try clear hi)) | ((with_reducible refine gC 50 rfl ?_); refine gL (some 11) Try.func50 #[.pointer (some ⟨g, 0, none⟩), .int .i64 200] ?_; (with_reducible refine (spec_l1Below.calls g s0_0 t632 t633 200 t634 t635 t636 w0 _ ?side1 ?side2 A4.out).mono ?_); (case side1 => exact IsS79.qHI0); (case side2 => exact IsS79.bHI0); rintro e w62 ⟨rfl, hi, hb, hk⟩; refine ⟨_, rfl, ?_⟩; have n_ := aT (kW hk BK624 NB624_0) (aT (IsS79.rK hk (kR HO630.out) (show IsS79 w0 _ g s0_0 t632 t633 from IsS79.qHI0)) (aT (KeepBut.trans kK hk (.inl rfl)) (aT (hb) (aM (hi))))); clear BK624 HO630 HK HB HI0; obtain ⟨BK624, HO630, HK, HB, HI0⟩ := n_; (try clear hb); (try clear hk); (try clear hi)) | ((with_reducible refine gC 46 rfl ?_); refine gL (some 13) Try.func46 #[.pointer (some ⟨g, 0, none⟩)] ?_; (with_reducible refine (spec_l4Any.calls g s0_0 t635 t636 t637 t638 t639 t640 t641 w0 _ ?side1 ?side2 A5.out).mono ?_); (case side1 => exact IsS79.qHI0); (case side2 => exact IsS79.bHI0); rintro e w63 ⟨rfl, hi, hb, hk⟩; refine ⟨_, rfl, ?_⟩; have n_ := aT (kW hk BK624 NB624_0) (aT (IsS79.rK hk (kR HO630.out) (show IsS79 w0 _ g s0_0 t635 t636 from IsS79.qHI0)) (aT (KeepBut.trans kK hk (.inl rfl)) (aT (hb) (aM (hi))))); clear BK624 HO630 HK HB HI0; obtain ⟨BK624, HO630, HK, HB, HI0⟩ := n_; (try clear hb); (try clear hk); (try clear hi)) | ((with_reducible refine gD 3 rfl ?_); refine bE #[.int .i64 0, .int .i64 0, .int .i64 0, .int .i64 0, .int .i64 0, .int .i64 0] 43 ?_; intro gb642 hg w64 hbox hb; have n_ := aT (rB HO630 hb) (aT (IsS79.below IsS79.qHI0 hb) (aT (bB BK624 hb) (aT (KeepBut.trans kK (KeepBut.of_below hb g none) (.inl rfl)) (aT (below_step IsS79.bHI0 hb) (aT (hbox) (aT ((kZ hg : w.heap.size ≤ gb642)) (aT ((Nat.le_trans HW0.out (kZ hg : w.heap.size ≤ gb642) : w0.heap.size ≤ gb642)) (aT (lB hg BK624) (aT (gB hg BK624) (aT ((by rw [hg]; exact Nat.ne_of_lt (IsS79.lt (show IsS79 w0 _ g s0_0 t640 t641 from IsS79.qHI0)) : g ≠ gb642)) (aM ((by rw [hg]; exact Nat.ne_of_gt (IsS79.lt (show IsS79 w0 _ g s0_0 t640 t641 from IsS79.qHI0)) : gb642 ≠ g))))))))))))); clear HO630 HI0 BK624 HK HB; obtain ⟨HO630, HI0, BK624, HK, HB, BK642, GW642, GE642, NB624_642, NB642_624, NB0_642, NB642_0⟩ := n_; clear hb hbox hg; have hnb65 := NB642_624.out; have hnc65 := NB624_642.out; have hnb66 := NB642_0.out; have hnc66 := NB0_642.out; obtain ⟨⟨hcz67_0, hcz67_1, hcz67_2, hcz67_3, hcz67_4, hcz67_5⟩, hfz67_0, hfz67_1, hfz67_2, hfz67_3, hfz67_4, hfz67_5⟩ := cF6 BK642) | ((with_reducible refine gC 52 rfl ?_); refine gL (some 16) Try.func52 #[.pointer (some ⟨g, 0, none⟩), .int .i64 10] ?_; (with_reducible refine (spec_l1Once.calls g s0_0 t640 t641 10 true t644 t645 w0 _ ?side1 ?side2 A6.out).mono ?_); (case side1 => exact IsS79.qHI0); (case side2 => exact IsS79.bHI0); rintro e w68 ⟨rfl, hi, hb, hk⟩; refine ⟨_, rfl, ?_⟩; have n_ := aT (kV hk NB624_642 BK624 NB624_0) (aT (IsS79.rK hk (rF6 HO630.out BK642.out) (show IsS79 w0 _ g s0_0 t640 t641 from IsS79.qHI0)) (aT (KeepBut.blk hk (g' := gb642) (o := .cells #[.int .i64 (wrap64 (101 + t625)), .int .i64 t631, .int .i64 t634, .int .i64 t637, .int .i64 t638, .int .i64 t639] 43 (0, 0)) (bP BK642) NB642_0.out (by simp)) (aT (KeepBut.trans kK hk (.inl rfl)) (aT (hb) (aM (hi)))))); clear BK624 HO630 BK642 HK HB HI0; obtain ⟨BK624, HO630, BK642, HK, HB, HI0⟩ := n_; (try clear hb); (try clear hk); (try clear hi)) | ((with_reducible refine gC 50 rfl ?_); refine gL (some 18) Try.func50 #[.pointer (some ⟨g, 0, none⟩), .int .i64 3] ?_; (with_reducible refine (spec_l1Below.calls g s0_0 t644 t645 3 t646 t647 t648 w0 _ ?side1 ?side2 A8.out).mono ?_); (case side1 => exact IsS79.qHI0); (case side2 => exact IsS79.bHI0); rintro e w69 ⟨rfl, hi, hb, hk⟩; refine ⟨_, rfl, ?_⟩; have n_ := aT (kW hk BK624 NB624_0) (aT (IsS79.rK hk (kR HO630.out) (show IsS79 w0 _ g s0_0 t644 t645 from IsS79.qHI0)) (aT (kW hk BK642 NB642_0) (aT (KeepBut.trans kK hk (.inl rfl)) (aT (hb) (aM (hi)))))); clear BK624 HO630 BK642 HK HB HI0; obtain ⟨BK624, HO630, BK642, HK, HB, HI0⟩ := n_; (try clear hb); (try clear hk); (try clear hi)) | ((with_reducible refine gate_dst (N := 20) rfl ?_); refine Kd.R_lit (Kd.int .i64) _ 3 ?hg (N := 20) ?hd (xs := ([(-1), 1000000, 1000001] : List Int)) (inner := [.int .i64 (-1), .int .i64 1000000, .int .i64 1000001]) (ok := fun _ => True) (okp := fun _ => True) ?hr ?hp (fun _ hk => hk) trivial (Below.refl _ _) (Nat.le_refl _) (by simp) ?_; (case hd => rfl); (case hg => rfl); (case hr => first | (go_simp; done) | (go_simp; rfl)); (case hp => exact (Reps.one (show Kd.M (Kd.int .i64) _ _ _ (-1) [.int .i64 (-1)] from rfl) (Reps.one (show Kd.M (Kd.int .i64) _ _ _ 1000000 [.int .i64 1000000] from rfl) (Reps.one (show Kd.M (Kd.int .i64) _ _ _ 1000001 [.int .i64 1000001] from rfl) (Reps.none _ _))))); intro v662 w70 ho71 hb hg_ hnew_; clear hg_ hnew_; (first | rw [← Ny661.out] at ho71 | (simp only [Int.reduceToNat] at ho71; rw [← Ny661.out] at ho71)); have n_ := aT (Kd.R_elder' (kR HO630.out) (Kd.R_base ho71) hb) (aT (Kd.R_lower (Kd.R_new' ho71 (Kd.R_lt (kR HO630.out))) kL) (aT (IsS79.below IsS79.qHI0 hb) (aT (bB BK624 hb) (aT (bB BK642 hb) (aT (KeepBut.trans kK (KeepBut.of_below hb g none) (.inl rfl)) (aM (below_step IsS79.bHI0 hb))))))); clear HO630 HI0 BK624 BK642 HK HB; obtain ⟨HO630, HO663, HI0, BK624, BK642, HK, HB⟩ := n_; clear hb ho71; obtain ⟨Ao72, co72, eo72⟩ := Kd.R_slice HO663.out; subst eo72) | ((with_reducible refine gC 49 rfl ?_); refine gL (some 21) Try.func49 #[.pointer (some ⟨g, 0, none⟩), .slice Ao72 y661.length co72] ?_; (with_reducible refine (spec_l1PickInt.calls g s0_0 t647 t648 _ _ y661 t664 t665 t666 w0 _ ?side1 ?side2 ?side3 ?side4 ?side5 A55.out).mono ?_); (case side1 => exact IsS79.qHI0); (case side2 => exact IsS79.bHI0); (case side3 => exact cA ((Kd.R_reads' HO663.out).2.2)); (case side4 => exact (Kd.R_reads' HO663.out).2.1); (case side5 => exact far_slice (IsS79.own_ne HI0.out HO663.out (by decide))); rintro e w73 ⟨rfl, hi, hb, hk⟩; refine ⟨_, rfl, ?_⟩; have n_ := aT (kW hk BK624 NB624_0) (aT (IsS79.rK hk (kR HO630.out) (show IsS79 w0 _ g s0_0 t647 t648 from IsS79.qHI0)) (aT (kW hk BK642 NB642_0) (aT (IsS79.rK hk (kR HO663.out) (show IsS79 w0 _ g s0_0 t647 t648 from IsS79.qHI0)) (aT (KeepBut.trans kK hk (.inl rfl)) (aT (hb) (aM (hi))))))); clear BK624 HO630 BK642 HO663 HK HB HI0; obtain ⟨BK624, HO630, BK642, HO663, HK, HB, HI0⟩ := n_; (try clear hb); (try clear hk); (try clear hi); obtain ⟨⟨hcz74_0, hcz74_1, hcz74_2, hcz74_3, hcz74_4, hcz74_5⟩, hfz74_0, hfz74_1, hfz74_2, hfz74_3, hfz74_4, hfz74_5⟩ := cF6 BK642; have hnb75 := NB624_0.out; have hnc75 := NB0_624.out; obtain ⟨⟨hcz76_0, hcz76_1, hcz76_2, hcz76_3, hcz76_4, hcz76_5⟩, hfz76_0, hfz76_1, hfz76_2, hfz76_3, hfz76_4, hfz76_5⟩ := cF6 BK624))
  refine bodyPost_ret (results_cell_row rfl _ _ gb624 43 #[.int .i64 (wrap64 (101 + t625)), .int .i64 t631, .int .i64 t664, .int .i64 t637, .int .i64 t638, .int .i64 t639] (0, 0) _ rfl (bQ BK624) Try.underlying43 rfl (by kernel_rfl)) rfl ?_
  exact ⟨eE, IsS79.qHI0, IsS79.bHI0, kK⟩
 replace c7 := Bool.eq_false_iff.mpr c7
 subst c7
 rw [if_neg nF] at H
 simp only [Option.some.injEq, Prod.mk.injEq] at H
 obtain ⟨rfl, rfl, rfl, rfl, rfl, rfl, rfl, rfl⟩ := H
 go_enter Try.func43, Try.ntmps43
 go_wp2_with (first | ((with_reducible refine gD 2 rfl ?_); refine bE #[.int .i64 0, .int .i64 0, .int .i64 0, .int .i64 0, .int .i64 0, .int .i64 0] 43 ?_; intro gb624 hg w77 hbox hb; have n_ := aT (IsS79.below IsS79.qHI0 hb) (aT (KeepBut.trans kK (KeepBut.of_below hb g none) (.inl rfl)) (aT (below_step IsS79.bHI0 hb) (aT (hbox) (aT ((kZ hg : w.heap.size ≤ gb624)) (aT ((Nat.le_trans HW0.out (kZ hg : w.heap.size ≤ gb624) : w0.heap.size ≤ gb624)) (aT ((by rw [hg]; exact Nat.ne_of_lt (IsS79.lt (show IsS79 w0 _ g s0_0 s0_1 s0_2 from IsS79.qHI0)) : g ≠ gb624)) (aM ((by rw [hg]; exact Nat.ne_of_gt (IsS79.lt (show IsS79 w0 _ g s0_0 s0_1 s0_2 from IsS79.qHI0)) : gb624 ≠ g))))))))); clear HI0 HK HB; obtain ⟨HI0, HK, HB, BK624, GW624, GE624, NB0_624, NB624_0⟩ := n_; clear hb hbox hg) | ((with_reducible refine gC 50 rfl ?_); refine gL (some 5) Try.func50 #[.pointer (some ⟨g, 0, none⟩), .int .i64 9] ?_; (with_reducible refine (spec_l1Below.calls g s0_0 s0_1 s0_2 9 t625 t626 t627 w0 _ ?side1 ?side2 A2.out).mono ?_); (case side1 => exact IsS79.qHI0); (case side2 => exact IsS79.bHI0); rintro e w78 ⟨rfl, hi, hb, hk⟩; refine ⟨_, rfl, ?_⟩; have n_ := aT (kW hk BK624 NB624_0) (aT (KeepBut.trans kK hk (.inl rfl)) (aT (hb) (aM (hi)))); clear BK624 HK HB HI0; obtain ⟨BK624, HK, HB, HI0⟩ := n_; (try clear hb); (try clear hk); (try clear hi)) | ((with_reducible refine gate_dst (N := 8) rfl ?_); refine Kd.R_lit (Kd.int .i64) _ 3 ?hg (N := 8) ?hd (xs := ([0, 1, 2, 10, 11, 12] : List Int)) (inner := [.int .i64 0, .int .i64 1, .int .i64 2, .int .i64 10, .int .i64 11, .int .i64 12]) (ok := fun _ => True) (okp := fun _ => True) ?hr ?hp (fun _ hk => hk) trivial (Below.refl _ _) (Nat.le_refl _) (by simp) ?_; (case hd => rfl); (case hg => rfl); (case hr => first | (go_simp; done) | (go_simp; rfl)); (case hp => exact (Reps.one (show Kd.M (Kd.int .i64) _ _ _ 0 [.int .i64 0] from rfl) (Reps.one (show Kd.M (Kd.int .i64) _ _ _ 1 [.int .i64 1] from rfl) (Reps.one (show Kd.M (Kd.int .i64) _ _ _ 2 [.int .i64 2] from rfl) (Reps.one (show Kd.M (Kd.int .i64) _ _ _ 10 [.int .i64 10] from rfl) (Reps.one (show Kd.M (Kd.int .i64) _ _ _ 11 [.int .i64 11] from rfl) (Reps.one (show Kd.M (Kd.int .i64) _ _ _ 12 [.int .i64 12] from rfl) (Reps.none _ _)))))))); intro v629 w79 ho80 hb hg_ hnew_; clear hg_ hnew_; (first | rw [← Ny628.out] at ho80 | (simp only [Int.reduceToNat] at ho80; rw [← Ny628.out] at ho80)); have n_ := aT (Kd.R_lower ho80 kL) (aT (IsS79.below IsS79.qHI0 hb) (aT (bB BK624 hb) (aT (KeepBut.trans kK (KeepBut.of_below hb g none) (.inl rfl)) (aM (below_step IsS79.bHI0 hb))))); clear HI0 BK624 HK HB; obtain ⟨HO630, HI0, BK624, HK, HB⟩ := n_; clear hb ho80; obtain ⟨Ao81, co81, eo81⟩ := Kd.R_slice HO630.out; subst eo81) | ((with_reducible refine gC 49 rfl ?_); refine gL (some 9) Try.func49 #[.pointer (some ⟨g, 0, none⟩), .slice Ao81 y628.length co81] ?_; (with_reducible refine (spec_l1PickInt.calls g s0_0 t626 t627 _ _ y628 t631 t632 t633 w0 _ ?side1 ?side2 ?side3 ?side4 ?side5 A3.out).mono ?_); (case side1 => exact IsS79.qHI0); (case side2 => exact IsS79.bHI0); (case side3 => exact cA ((Kd.R_reads' HO630.out).2.2)); (case side4 => exact (Kd.R_reads' HO630.out).2.1); (case side5 => exact far_slice (IsS79.own_ne HI0.out HO630.out (by decide))); rintro e w82 ⟨rfl, hi, hb, hk⟩; refine ⟨_, rfl, ?_⟩; have n_ := aT (kW hk BK624 NB624_0) (aT (IsS79.rK hk (kR HO630.out) (show IsS79 w0 _ g s0_0 t626 t627 from IsS79.qHI0)) (aT (KeepBut.trans kK hk (.inl rfl)) (aT (hb) (aM (hi))))); clear BK624 HO630 HK HB HI0; obtain ⟨BK624, HO630, HK, HB, HI0⟩ := n_; (try clear hb); (try clear hk); (try clear hi)) | ((with_reducible refine gC 50 rfl ?_); refine gL (some 11) Try.func50 #[.pointer (some ⟨g, 0, none⟩), .int .i64 200] ?_; (with_reducible refine (spec_l1Below.calls g s0_0 t632 t633 200 t634 t635 t636 w0 _ ?side1 ?side2 A4.out).mono ?_); (case side1 => exact IsS79.qHI0); (case side2 => exact IsS79.bHI0); rintro e w83 ⟨rfl, hi, hb, hk⟩; refine ⟨_, rfl, ?_⟩; have n_ := aT (kW hk BK624 NB624_0) (aT (IsS79.rK hk (kR HO630.out) (show IsS79 w0 _ g s0_0 t632 t633 from IsS79.qHI0)) (aT (KeepBut.trans kK hk (.inl rfl)) (aT (hb) (aM (hi))))); clear BK624 HO630 HK HB HI0; obtain ⟨BK624, HO630, HK, HB, HI0⟩ := n_; (try clear hb); (try clear hk); (try clear hi)) | ((with_reducible refine gC 46 rfl ?_); refine gL (some 13) Try.func46 #[.pointer (some ⟨g, 0, none⟩)] ?_; (with_reducible refine (spec_l4Any.calls g s0_0 t635 t636 t637 t638 t639 t640 t641 w0 _ ?side1 ?side2 A5.out).mono ?_); (case side1 => exact IsS79.qHI0); (case side2 => exact IsS79.bHI0); rintro e w84 ⟨rfl, hi, hb, hk⟩; refine ⟨_, rfl, ?_⟩; have n_ := aT (kW hk BK624 NB624_0) (aT (IsS79.rK hk (kR HO630.out) (show IsS79 w0 _ g s0_0 t635 t636 from IsS79.qHI0)) (aT (KeepBut.trans kK hk (.inl rfl)) (aT (hb) (aM (hi))))); clear BK624 HO630 HK HB HI0; obtain ⟨BK624, HO630, HK, HB, HI0⟩ := n_; (try clear hb); (try clear hk); (try clear hi)) | ((with_reducible refine gD 3 rfl ?_); refine bE #[.int .i64 0, .int .i64 0, .int .i64 0, .int .i64 0, .int .i64 0, .int .i64 0] 43 ?_; intro gb642 hg w85 hbox hb; have n_ := aT (rB HO630 hb) (aT (IsS79.below IsS79.qHI0 hb) (aT (bB BK624 hb) (aT (KeepBut.trans kK (KeepBut.of_below hb g none) (.inl rfl)) (aT (below_step IsS79.bHI0 hb) (aT (hbox) (aT ((kZ hg : w.heap.size ≤ gb642)) (aT ((Nat.le_trans HW0.out (kZ hg : w.heap.size ≤ gb642) : w0.heap.size ≤ gb642)) (aT (lB hg BK624) (aT (gB hg BK624) (aT ((by rw [hg]; exact Nat.ne_of_lt (IsS79.lt (show IsS79 w0 _ g s0_0 t640 t641 from IsS79.qHI0)) : g ≠ gb642)) (aM ((by rw [hg]; exact Nat.ne_of_gt (IsS79.lt (show IsS79 w0 _ g s0_0 t640 t641 from IsS79.qHI0)) : gb642 ≠ g))))))))))))); clear HO630 HI0 BK624 HK HB; obtain ⟨HO630, HI0, BK624, HK, HB, BK642, GW642, GE642, NB624_642, NB642_624, NB0_642, NB642_0⟩ := n_; clear hb hbox hg; have hnb86 := NB642_624.out; have hnc86 := NB624_642.out; have hnb87 := NB642_0.out; have hnc87 := NB0_642.out; obtain ⟨⟨hcz88_0, hcz88_1, hcz88_2, hcz88_3, hcz88_4, hcz88_5⟩, hfz88_0, hfz88_1, hfz88_2, hfz88_3, hfz88_4, hfz88_5⟩ := cF6 BK642) | ((with_reducible refine gC 52 rfl ?_); refine gL (some 16) Try.func52 #[.pointer (some ⟨g, 0, none⟩), .int .i64 10] ?_; (with_reducible refine (spec_l1Once.calls g s0_0 t640 t641 10 false t644 t645 w0 _ ?side1 ?side2 A6.out).mono ?_); (case side1 => exact IsS79.qHI0); (case side2 => exact IsS79.bHI0); rintro e w89 ⟨rfl, hi, hb, hk⟩; refine ⟨_, rfl, ?_⟩; have n_ := aT (kV hk NB624_642 BK624 NB624_0) (aT (IsS79.rK hk (rF6 HO630.out BK642.out) (show IsS79 w0 _ g s0_0 t640 t641 from IsS79.qHI0)) (aT (KeepBut.blk hk (g' := gb642) (o := .cells #[.int .i64 (wrap64 (101 + t625)), .int .i64 t631, .int .i64 t634, .int .i64 t637, .int .i64 t638, .int .i64 t639] 43 (0, 0)) (bP BK642) NB642_0.out (by simp)) (aT (KeepBut.trans kK hk (.inl rfl)) (aT (hb) (aM (hi)))))); clear BK624 HO630 BK642 HK HB HI0; obtain ⟨BK624, HO630, BK642, HK, HB, HI0⟩ := n_; (try clear hb); (try clear hk); (try clear hi); obtain ⟨⟨hcz90_0, hcz90_1, hcz90_2, hcz90_3, hcz90_4, hcz90_5⟩, hfz90_0, hfz90_1, hfz90_2, hfz90_3, hfz90_4, hfz90_5⟩ := cF6 BK642; have hnb91 := NB624_0.out; have hnc91 := NB0_624.out; obtain ⟨⟨hcz92_0, hcz92_1, hcz92_2, hcz92_3, hcz92_4, hcz92_5⟩, hfz92_0, hfz92_1, hfz92_2, hfz92_3, hfz92_4, hfz92_5⟩ := cF6 BK624))
 refine bodyPost_ret (results_cell_row rfl _ _ gb624 43 #[.int .i64 (wrap64 (101 + t625)), .int .i64 t631, .int .i64 t634, .int .i64 t637, .int .i64 t638, .int .i64 t639] (0, 0) _ rfl (bP BK624) Try.underlying43 rfl (by kernel_rfl)) rfl ?_
 exact ⟨eE, IsS79.qHI0, IsS79.bHI0, kK⟩

/-! ### spec_DrawShowGrant: function 14 -/
def spec_DrawShowGrant.f (k : Nat) (l0 : List Int) : Option (Int × Int × Int × Int × Int × Int × Int) := (spec_l1New.f k l0).bind fun bt668 => ((spec_l5Key.f bt668.1 bt668.2.1 bt668.2.2).bind fun bt672 => ((spec_l5DrawGrant.f bt668.1 bt672.2.1 bt672.2.2).bind fun bt675 => (some (bt675.1, bt675.2.1, bt675.2.2.1, bt675.2.2.2.1, bt675.2.2.2.2.1, bt675.2.2.2.2.2.1, bt672.1))))
set_option maxHeartbeats 8000000 in
set_option maxRecDepth 100000 in
theorem spec_DrawShowGrant.calls (k : Nat) (A0 : Option Addr) (c0 : Nat) (l0 : List Int) (r1 : Int) (r2 : Int) (r3 : Int) (r4 : Int) (r5 : Int) (r6 : Int) (r7 : Int) (w : World) (hr0 : Kd.C (Kd.int .u8) w A0 l0.length l0) (hc0 : l0.length ≤ c0) (h : spec_DrawShowGrant.f k l0 = some (r1, r2, r3, r4, r5, r6, r7)) :
  Calls Try.prog 14 #[.slice A0 l0.length c0] w fun e w' => e = .returned (.tuple #[.agg #[.int .i64 r1, .int .i64 r2, .int .i64 r3, .int .i64 r4, .int .i64 r5, .int .i64 r6], .int .i64 r7]) ∧ Below w.heap.size w w' := by
 have hu43 := Try.underlying43
 have HR0 := Aside0.mk hr0
 have HC0 := Aside0.mk hc0
 clear hr0 hc0
 have HB := Aside0.mk (Below.refl w.heap.size w)
 have H := h
 clear h
 unfold spec_DrawShowGrant.f at H
 obtain ⟨⟨t668, t669, t670⟩, A2, H⟩ := oB H
 dsimp only at H
 obtain ⟨⟨t672, t673, t674⟩, A3, H⟩ := oB H
 dsimp only at H
 obtain ⟨⟨t675, t676, t677, t678, t679, t680, t681, t682⟩, A4, H⟩ := oB H
 dsimp only at H
 simp only [Option.some.injEq, Prod.mk.injEq] at H
 obtain ⟨rfl, rfl, rfl, rfl, rfl, rfl, rfl⟩ := H
 go_enter Try.func14, Try.ntmps14
 go_wp2_with (first | ((with_reducible refine gD 2 rfl ?_); refine bE #[.int .i64 0, .int .i64 0, .int .i64 0, .int .i64 0, .int .i64 0, .int .i64 0] 43 ?_; intro gb667 hg w5 hbox hb; have n_ := aT (below_step bH hb) (aT (hbox) (aT ((bZ hg : w.heap.size ≤ gb667)) (aM ((bZ hg : w.heap.size ≤ gb667))))); clear HB; obtain ⟨HB, BK667, GW667, GE667⟩ := n_; clear hb hbox hg) | ((with_reducible refine gC 22 rfl ?_); refine gL (some 7) Try.func22 #[.slice A0 l0.length c0] ?_; (with_reducible refine (spec_l1New.calls k _ _ l0 t668 t669 t670 w _ ?side1 ?side2 ?side3 A2.out).mono ?_); (case side1 => repeat (first | (with_reducible first | exact HB.out | apply below_alloc | apply pw_below_drewN | apply below_drew1 | refine below_set ?_ GE667.out) | exact HB.out)); (case side2 => exact HR0.out); (case side3 => exact HC0.out); rintro e w6 ⟨g671, rfl, hi, hb, hb2⟩; refine ⟨_, rfl, ?_⟩; have n_ := aT (bB BK667 hb2) (aT (hb) (aT (hi) (aT (IsS79.ne_blk hi (bB BK667 hb2) (by decide)) (aM (Ne.symm (IsS79.ne_blk hi (bB BK667 hb2) (by decide))))))); clear BK667 HB; obtain ⟨BK667, HB, HI671, NB671_667, NB667_671⟩ := n_; (try clear hb); (try clear hb2); (try clear hi)) | ((with_reducible refine gC 23 rfl ?_); refine gL (some 9) Try.func23 #[.pointer (some ⟨g671, 0, none⟩)] ?_; (with_reducible refine (spec_l5Key.calls g671 t668 t669 t670 t672 t673 t674 w _ ?side1 ?side2 A3.out).mono ?_); (case side1 => exact IsS79.qHI671); (case side2 => exact IsS79.bHI671); rintro e w7 ⟨rfl, hi, hb, hk⟩; refine ⟨_, rfl, ?_⟩; have n_ := aT (kW hk BK667 NB667_671) (aT (hb) (aM (hi))); clear BK667 HB HI671; obtain ⟨BK667, HB, HI671⟩ := n_; (try clear hb); (try clear hk); (try clear hi)) | ((with_reducible refine gC 43 rfl ?_); refine gL (some 11) Try.func43 #[.pointer (some ⟨g671, 0, none⟩)] ?_; (with_reducible refine (spec_l5DrawGrant.calls g671 t668 t673 t674 t675 t676 t677 t678 t679 t680 t681 t682 w _ ?side1 ?side2 A4.out).mono ?_); (case side1 => exact IsS79.qHI671); (case side2 => exact IsS79.bHI671); rintro e w8 ⟨rfl, hi, hb, hk⟩; refine ⟨_, rfl, ?_⟩; have n_ := aT (kW hk BK667 NB667_671) (aT (hb) (aM (hi))); clear BK667 HB HI671; obtain ⟨BK667, HB, HI671⟩ := n_; (try clear hb); (try clear hk); (try clear hi); have hnb9 := NB667_671.out; have hnc9 := NB671_667.out; obtain ⟨⟨hcz10_0, hcz10_1, hcz10_2, hcz10_3, hcz10_4, hcz10_5⟩, hfz10_0, hfz10_1, hfz10_2, hfz10_3, hfz10_4, hfz10_5⟩ := cF6 BK667))
 refine bodyPost_ret (results_ct rfl _ _ gb667 43 #[.int .i64 t675, .int .i64 t676, .int .i64 t677, .int .i64 t678, .int .i64 t679, .int .i64 t680] (0, 0) _ rfl (bP BK667) Try.underlying43 rfl (by kernel_rfl)) rfl ?_
 exact ⟨eE, IsS79.bHI671⟩

end Go.Proofs.Ytaldemgfndmmlaa.OFnTickets
-- wrapped
-- halved
-- squeezed
-- squeezed2
-- squeezed3
