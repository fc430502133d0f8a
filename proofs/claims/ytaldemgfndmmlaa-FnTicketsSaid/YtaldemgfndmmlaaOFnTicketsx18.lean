-- walks of this claim, written by a program of mine
import Derived.Test.YtaldemgfndmmlaaOFnTicketsx0
import Derived.Test.YtaldemgfndmmlaaOFnTicketsx9
import Derived.Test.YtaldemgfndmmlaaOFnTicketsx10
import Derived.Test.YtaldemgfndmmlaaOFnTicketsx11
import Derived.Test.YtaldemgfndmmlaaOFnTicketsx12
import Derived.Test.YtaldemgfndmmlaaOFnTicketsx17
namespace Go.Proofs.Ytaldemgfndmmlaa.OFnTickets
open Go.RowKit Go.Proofs.Ytaldemgfndmmlaa.OWord Go.Proofs.YtaldemgfndmmlaaW.PrintWords Go.Proofs.YtaldemgfndmmlaaW.PrintLast Go.Proofs.YtaldemgfndmmlaaW.PrintMore
attribute [local go_sem] max2_int min2_int max_two min_two max_three min_three max_four min_four   -- for this text's walks alone
set_option linter.unusedVariables false
set_option linter.unusedSimpArgs false

/-! ### impl_ReadGrant: function 16 -/
def impl_ReadGrant.f (k : Nat) (a0 : ByteArray) (a1 : Int) : Option (Int × Int × Int × Int × Int × Int × Bool) := (impl_Open.f k a0 a1).bind fun bt702 => ((impl_Parts.f k bt702.1).bind fun bt704 => (if (bt704.1.length : Int) = 3 then (if 1 < (bt704.1.length : Int) then ((impl_ReadNums.f k (rdOf ByteArray.empty bt704.1 1)).bind fun bt709 => (if (bt709.1.length : Int) = 2 then (if 0 < (bt709.1.length : Int) then (if 1 < (bt709.1.length : Int) then (if 0 < (bt704.1.length : Int) then ((impl_ReadKey.f k (rdOf ByteArray.empty bt704.1 0)).bind fun bt717 => (if 2 < (bt704.1.length : Int) then ((impl_ReadRest.f k (rdOf ByteArray.empty bt704.1 2)).bind fun bt720 => ((impl_ShowGrant.f k bt717.1 (rd bt709.1 0) (rd bt709.1 1) bt720.1 bt720.2.1 bt720.2.2.1 a1).bind fun t724 => (if t724.toList = a0.toList then (some (bt717.1, rd bt709.1 0, rd bt709.1 1, bt720.1, bt720.2.1, bt720.2.2.1, true)) else (some (0, 0, 0, 0, 0, 0, false))))) else (none))) else (none)) else (none)) else (none)) else (some (0, 0, 0, 0, 0, 0, false)))) else (none)) else (some (0, 0, 0, 0, 0, 0, false))))
def impl_ReadGrant.T8 : Bool × List (List Nat × List Nat) := (true, [([], []), ([0], [0]), ([1], [1]), ([], []), ([3], [3]), ([4], [4]), ([2, 5], [2, 5]), ([], []), ([7, 6, 0, 1, 2, 3, 4, 5, 6, 7], [6, 7])])
def impl_ReadGrant.B8 : List Nat := [0, 1, 3, 0, 8, 24, 63, 0, 255]
theorem impl_ReadGrant.tab8 : rtab .any (opsOf Try.f16 8) = impl_ReadGrant.T8 := by kernel_rfl
theorem impl_ReadGrant.bits8 : waitsOk impl_ReadGrant.T8.2 impl_ReadGrant.B8 = true := by kernel_rfl
set_option maxHeartbeats 8000000 in
set_option maxRecDepth 100000 in
theorem impl_ReadGrant.calls (k : Nat) (a0 : ByteArray) (a1 : Int) (r1 : Int) (r2 : Int) (r3 : Int) (r4 : Int) (r5 : Int) (r6 : Int) (r7 : Bool) (w : World) (h : impl_ReadGrant.f k a0 a1 = some (r1, r2, r3, r4, r5, r6, r7)) :
  Calls Try.prog 16 #[.string a0, .int .i64 a1] w fun e w' => e = .returned (.tuple #[.agg #[.int .i64 r1, .int .i64 r2, .int .i64 r3, .int .i64 r4, .int .i64 r5, .int .i64 r6], .bool r7]) ∧ Below w.heap.size w w' := by
 have hu43 := Try.underlying43
 have hu25 := Try.underlying25
 have HB := Aside0.mk (Below.refl w.heap.size w)
 have H := h
 clear h
 unfold impl_ReadGrant.f at H
 obtain ⟨⟨t702, t703⟩, A3, H⟩ := oB H
 dsimp only at H
 obtain ⟨⟨t704, t705⟩, A4, H⟩ := oB H
 dsimp only at H
 by_cases c5 : (t704.length : Int) = 3
 ·rw [if_pos c5] at H
  have c5b0 : ((t704.length : Int) == 3) = true := beq_iff_eq.mpr c5
  have c5b1 : ((t704.length : Int) != 3) = false := bne_eq_false_iff_eq.mpr c5
  clear c5
  by_cases c6 : 1 < (t704.length : Int)
  ·rw [if_pos c6] at H
   have c6b0 := decide_eq_true c6
   have c6b1 : decide (1 < t704.length) = true := decide_eq_true (by omega)
   clear c6
   obtain ⟨⟨t709, t710⟩, A7, H⟩ := oB H
   dsimp only at H
   by_cases c8 : (t709.length : Int) = 2
   ·rw [if_pos c8] at H
    have c8b0 : ((t709.length : Int) == 2) = true := beq_iff_eq.mpr c8
    have c8b1 : ((t709.length : Int) != 2) = false := bne_eq_false_iff_eq.mpr c8
    clear c8
    by_cases c9 : 0 < (t709.length : Int)
    ·rw [if_pos c9] at H
     have c9b0 := decide_eq_true c9
     have c9b1 : decide (0 < t709.length) = true := decide_eq_true (by omega)
     clear c9
     by_cases c10 : 1 < (t709.length : Int)
     ·rw [if_pos c10] at H
      have c10b0 := decide_eq_true c10
      have c10b1 : decide (1 < t709.length) = true := decide_eq_true (by omega)
      clear c10
      by_cases c11 : 0 < (t704.length : Int)
      ·rw [if_pos c11] at H
       have c11b0 := decide_eq_true c11
       have c11b1 : decide (0 < t704.length) = true := decide_eq_true (by omega)
       clear c11
       obtain ⟨⟨t717, t718⟩, A12, H⟩ := oB H
       dsimp only at H
       by_cases c13 : 2 < (t704.length : Int)
       ·rw [if_pos c13] at H
        have c13b0 := decide_eq_true c13
        have c13b1 : decide (2 < t704.length) = true := decide_eq_true (by omega)
        clear c13
        obtain ⟨⟨t720, t721, t722, t723⟩, A14, H⟩ := oB H
        dsimp only at H
        obtain ⟨t724, A15, H⟩ := oB H
        by_cases c16 : t724.toList = a0.toList
        ·rw [if_pos c16] at H
         have c16b0 : (t724.toList == a0.toList) = true := beq_iff_eq.mpr c16
         have c16b1 : (t724.toList != a0.toList) = false := bne_eq_false_iff_eq.mpr c16
         clear c16
         simp only [Option.some.injEq, Prod.mk.injEq] at H
         obtain ⟨rfl, rfl, rfl, rfl, rfl, rfl, rfl⟩ := H
         go_enter Try.func16, Try.ntmps16
         try go_wp2_with (first | ((with_reducible refine gD 4 rfl ?_); refine bE #[.int .i64 0, .int .i64 0, .int .i64 0, .int .i64 0, .int .i64 0, .int .i64 0] 43 ?_; intro gb701 hg w17 hbox hb; have n_ := aT (below_step bH hb) (aT (hbox) (aT ((bZ hg : w.heap.size ≤ gb701)) (aM ((bZ hg : w.heap.size ≤ gb701))))); clear HB; obtain ⟨HB, BK701, GW701, GE701⟩ := n_; clear hb hbox hg) | ((with_reducible refine gC 30 rfl ?_); refine gL (some 16) Try.func30 #[.string a0, .int .i64 a1] ?_; (with_reducible refine (impl_Open.calls k a0 a1 t702 t703 _ A3.out).mono ?_); rintro e w18 ⟨rfl, hb⟩; refine ⟨_, rfl, ?_⟩; have n_ := aT (bB BK701 hb) (aM (below_step bS hb)); clear BK701 HB; obtain ⟨BK701, HB⟩ := n_; (try clear hb)) | ((with_reducible refine gC 31 rfl ?_); refine gL (some 21) Try.func31 #[.string t702] ?_; (with_reducible refine (impl_Parts.calls k t702 t704 t705 _ A4.out).mono ?_); rintro e w19 ⟨v706, rfl, ho0, hb⟩; refine ⟨_, rfl, ?_⟩; have n_ := aT (Kd.R_lower ho0 (below_size bS)) (aT (bB BK701 hb) (aM (below_step bS hb))); clear BK701 HB; obtain ⟨HO707, BK701, HB⟩ := n_; (try clear hb); (try clear ho0); obtain ⟨Ao20, co20, eo20⟩ := Kd.R_slice HO707.out; subst eo20; have p708 : 0 ≤ (1 : Int) := (by omega); have q708 : 1 < (t704.length : Int) := of_decide_eq_true aA; obtain ⟨ad708, e708, hx708_0⟩ := Kd.at_string (Kd.R_reads' HO707.out).2.2 1 p708 q708; cases e708; (try simp only [show (1 : Int).toNat = 1 from rfl, Nat.reduceMul, Nat.reduceEqDiff, Go.Addr.add, ↓reduceIte] at hx708_0); have qi708 : (1 < t704.length) = True := eq_true (by omega); (try rw [show ((1 : Int)).toNat = 1 from rfl] at hx708_0); replace p708 := eq_true p708; replace q708 := eq_true q708) | ((with_reducible refine gC 32 rfl ?_); refine gL (some 32) Try.func32 #[.string (rdOf ByteArray.empty t704 1)] ?_; (with_reducible refine (impl_ReadNums.calls k (rdOf ByteArray.empty t704 1) t709 t710 _ A7.out).mono ?_); rintro e w21 ⟨v711, rfl, ho0, hb⟩; refine ⟨_, rfl, ?_⟩; have n_ := aT (rB HO707 hb) (aT (Kd.R_lower ho0 (below_size bS)) (aT (bB BK701 hb) (aM (below_step bS hb)))); clear HO707 BK701 HB; obtain ⟨HO707, HO712, BK701, HB⟩ := n_; (try clear hb); (try clear ho0); obtain ⟨Ao22, co22, eo22⟩ := Kd.R_slice HO712.out; subst eo22))
         have n_ := aT (Kd.R_drew HO707.out) (aT (Kd.R_drew HO712.out) (aT (blk_drew BK701.out) (aM (below_drew1 HB.out))))
         clear HO707 HO712 BK701 HB
         obtain ⟨HO707, HO712, BK701, HB⟩ := n_
         have p713 : 0 ≤ (0 : Int) := (by omega)
         have q713 : 0 < (t709.length : Int) := of_decide_eq_true aA
         obtain ⟨ad713, e713, hx713_0⟩ := Kd.at_int (Kd.R_reads' HO712.out).2.2 0 p713 q713
         cases e713
         have qi713 : (0 < t709.length) = True := eq_true (by omega)
         (try rw [show ((0 : Int)).toNat = 0 from rfl] at hx713_0)
         (try rw [Addr.add_zero'] at hx713_0)
         replace p713 := eq_true p713
         replace q713 := eq_true q713
         have p714 : 0 ≤ (1 : Int) := (by omega)
         have q714 : 1 < (t709.length : Int) := of_decide_eq_true aA
         obtain ⟨ad714, e714, hx714_0⟩ := Kd.at_int (Kd.R_reads' HO712.out).2.2 1 p714 q714
         obtain rfl : ad713 = ad714 := (by injection e714)
         (try simp only [show (1 : Int).toNat = 1 from rfl, Nat.reduceMul, Nat.reduceEqDiff, Go.Addr.add, ↓reduceIte] at hx714_0)
         have qi714 : (1 < t709.length) = True := eq_true (by omega)
         (try rw [show ((1 : Int)).toNat = 1 from rfl] at hx714_0)
         replace p714 := eq_true p714
         replace q714 := eq_true q714
         refine start_ (n := 9) (S := fun w' => w'.cell? ad713 = some (.int .i64 (rd t709 0)) ∧ w'.cell? ⟨ad713.block, ad713.off + 1, none⟩ = some (.int .i64 (rd t709 1))) (ds := []) _ (by kernel_rfl) rfl rfl ⟨hx713_0, hx714_0⟩ (fun hHeld => ?_); refine with_tabW impl_ReadGrant.tab8 impl_ReadGrant.bits8 (fun HT_ HW_ => ?_)
         generalize w21.drew = w23 at HO707 HO712 BK701 HB hx713_0 hx714_0 hHeld ⊢
         refine pU HT_ 0 (some 39) (mk 9 1) rfl rfl (h := ?_)
         refine pU HT_ 1 (some 40) (mk 9 3) rfl rfl (h := ?_)
         refine pU HT_ 3 (some 42) (mk 9 11) rfl rfl (h := ?_)
         refine pU HT_ 4 (some 43) (mk 9 27) rfl rfl (h := ?_)
         refine tU HT_ HW_ 2 (some 41) (mk 9 31) hHeld rfl rfl (by rintro w' ⟨s0, s1⟩; go_simp; with_reducible rfl) (h := ?_)
         refine tU HT_ HW_ 5 (some 44) (mk 9 63) hHeld rfl rfl (by rintro w' ⟨s0, s1⟩; go_simp; with_reducible rfl) (h := ?_)
         refine pU HT_ 6 (some 45) (mk 9 127) rfl rfl (h := ?_)
         refine one_ (i := 7) (N := some 12) (mk 9 255) rfl rfl (one_of HT_.out (by kernel_rfl)) (by decide) (fun K hK => ?_)
         refine box_step ?hg (N := 12) ?hd (cs := #[.int .i64 0, .int .i64 0, .int .i64 0, .int .i64 0, .int .i64 0, .int .i64 0]) (t := 43) ?hr ?_; (case hd => rfl); (case hg => rfl); (case hr => first | (go_simp; done) | (go_simp; rfl))
         intro gb715 hg w24 hbox hb
         have HS0_ := (hb.cell (World.block_lt_of_cell? _ _ (hHeld.1))).trans (hHeld.1)
         have HS1_ := (hb.cell (World.block_lt_of_cell? _ _ (hHeld.2))).trans (hHeld.2)
         have n0_ := Aside0.mk (rB HO707 hb)
         have n1_ := Aside0.mk (rB HO712 hb)
         have n2_ := Aside0.mk (bB BK701 hb)
         have n3_ := Aside0.mk (below_step bS hb)
         have n4_ := Aside0.mk (hbox)
         have n5_ := Aside0.mk ((bZ hg : w.heap.size ≤ gb715))
         have n6_ := Aside0.mk ((bZ hg : w.heap.size ≤ gb715))
         have n7_ := Aside0.mk (lB hg BK701)
         have n8_ := Aside0.mk (gB hg BK701)
         clear HO707 HO712 BK701 HB
         have HO707 := n0_
         have HO712 := n1_
         have BK701 := n2_
         have HB := n3_
         have BK715 := n4_
         have GW715 := n5_
         have GE715 := n6_
         have NB701_715 := n7_
         have NB715_701 := n8_
         clear n0_ n1_ n2_ n3_ n4_ n5_ n6_ n7_ n8_ hb hbox hg
         refine hK.out _ _ ⟨HS0_, HS1_⟩ (fun hHeld => ?_)
         clear hK K
         refine nO (some 12) (h := ?_)
         refine one_ (i := 8) (N := none) (mk 9 511) rfl rfl (one_of HT_.out (by kernel_rfl)) (by decide) (fun K hK => ?_)
         have hs25 : w24.cell? ⟨gb715, 0, none⟩ = some (.int .i64 0) := (blk_cell BK715.out 0).trans rfl
         have hfs25 := blk_frozen BK715.out 0
         have hns25_0 := NB701_715.out
         have hms25_0 := NB715_701.out
         have hs26 : w24.cell? ⟨gb715, 1, none⟩ = some (.int .i64 0) := (blk_cell BK715.out 1).trans rfl
         have hfs26 := blk_frozen BK715.out 1
         have hns26_0 := NB701_715.out
         have hms26_0 := NB715_701.out
         have hs27 : w24.cell? ⟨gb715, 2, none⟩ = some (.int .i64 0) := (blk_cell BK715.out 2).trans rfl
         have hfs27 := blk_frozen BK715.out 2
         have hns27_0 := NB701_715.out
         have hms27_0 := NB715_701.out
         have hs28 : w24.cell? ⟨gb715, 3, none⟩ = some (.int .i64 0) := (blk_cell BK715.out 3).trans rfl
         have hfs28 := blk_frozen BK715.out 3
         have hns28_0 := NB701_715.out
         have hms28_0 := NB715_701.out
         have hs29 : w24.cell? ⟨gb715, 4, none⟩ = some (.int .i64 0) := (blk_cell BK715.out 4).trans rfl
         have hfs29 := blk_frozen BK715.out 4
         have hns29_0 := NB701_715.out
         have hms29_0 := NB715_701.out
         have hs30 : w24.cell? ⟨gb715, 5, none⟩ = some (.int .i64 0) := (blk_cell BK715.out 5).trans rfl
         have hfs30 := blk_frozen BK715.out 5
         have hns30_0 := NB701_715.out
         have hms30_0 := NB715_701.out
         refine skip_ (w1 := ?_) (by rfl) rfl ?_ ?_
         rotate_left
         ·go_simp
          rfl
         refine hK.out _ _ ⟨((cell_far (p := ⟨gb715, _, none⟩) (oN HO712 BK715) _).trans (((cell_far (p := ⟨gb715, _, none⟩) (oN HO712 BK715) _).trans (((cell_far (p := ⟨gb715, _, none⟩) (oN HO712 BK715) _).trans (((cell_far (p := ⟨gb715, _, none⟩) (oN HO712 BK715) _).trans (((cell_far (p := ⟨gb715, _, none⟩) (oN HO712 BK715) _).trans (((cell_far (p := ⟨gb715, _, none⟩) (oN HO712 BK715) _).trans (hHeld.1)))))))))))), ((cell_far (p := ⟨gb715, _, none⟩) (oN HO712 BK715) _).trans (((cell_far (p := ⟨gb715, _, none⟩) (oN HO712 BK715) _).trans (((cell_far (p := ⟨gb715, _, none⟩) (oN HO712 BK715) _).trans (((cell_far (p := ⟨gb715, _, none⟩) (oN HO712 BK715) _).trans (((cell_far (p := ⟨gb715, _, none⟩) (oN HO712 BK715) _).trans (((cell_far (p := ⟨gb715, _, none⟩) (oN HO712 BK715) _).trans (hHeld.2))))))))))))⟩ (fun hHeld => ?_)
         clear hK K
         refine done_ (done_of HT_.out (by kernel_rfl)) ?_
         have p716 : 0 ≤ (0 : Int) := (by omega)
         have q716 : 0 < (t704.length : Int) := of_decide_eq_true aA
         obtain ⟨ad716, e716, hx716_0⟩ := Kd.at_string (Kd.R_reads' HO707.out).2.2 0 p716 q716
         obtain rfl : ad708 = ad716 := (by injection e716)
         have qi716 : (0 < t704.length) = True := eq_true (by omega)
         (try rw [show ((0 : Int)).toNat = 0 from rfl] at hx716_0)
         (try rw [Addr.add_zero'] at hx716_0)
         have hn716_0 : ad708.block ≠ gb715 := Kd.own_blk (Kd.R_ne HO707.out BK715.out (by decide))
         have hn716_1 : ad708.block ≠ gb715 := Kd.own_blk (Kd.R_ne HO707.out BK715.out (by decide))
         have hn716_2 : ad708.block ≠ gb715 := Kd.own_blk (Kd.R_ne HO707.out BK715.out (by decide))
         have hn716_3 : ad708.block ≠ gb715 := Kd.own_blk (Kd.R_ne HO707.out BK715.out (by decide))
         have hn716_4 : ad708.block ≠ gb715 := Kd.own_blk (Kd.R_ne HO707.out BK715.out (by decide))
         have hn716_5 : ad708.block ≠ gb715 := Kd.own_blk (Kd.R_ne HO707.out BK715.out (by decide))
         replace hx716_0 := (cell_far (p := ⟨gb715, 0, none⟩) (by first | (rw [add_block]; exact hn716_0) | (show (Addr.add _ _).block ≠ _; rw [add_block]; exact hn716_0) | exact hn716_0) (.int .i64 0)).trans hx716_0
         replace hx716_0 := (cell_far (p := ⟨gb715, 1, none⟩) (by first | (rw [add_block]; exact hn716_1) | (show (Addr.add _ _).block ≠ _; rw [add_block]; exact hn716_1) | exact hn716_1) (.int .i64 (rd t709 0))).trans hx716_0
         replace hx716_0 := (cell_far (p := ⟨gb715, 2, none⟩) (by first | (rw [add_block]; exact hn716_2) | (show (Addr.add _ _).block ≠ _; rw [add_block]; exact hn716_2) | exact hn716_2) (.int .i64 (rd t709 1))).trans hx716_0
         replace hx716_0 := (cell_far (p := ⟨gb715, 3, none⟩) (by first | (rw [add_block]; exact hn716_3) | (show (Addr.add _ _).block ≠ _; rw [add_block]; exact hn716_3) | exact hn716_3) (.int .i64 0)).trans hx716_0
         replace hx716_0 := (cell_far (p := ⟨gb715, 4, none⟩) (by first | (rw [add_block]; exact hn716_4) | (show (Addr.add _ _).block ≠ _; rw [add_block]; exact hn716_4) | exact hn716_4) (.int .i64 0)).trans hx716_0
         replace hx716_0 := (cell_far (p := ⟨gb715, 5, none⟩) (by first | (rw [add_block]; exact hn716_5) | (show (Addr.add _ _).block ≠ _; rw [add_block]; exact hn716_5) | exact hn716_5) (.int .i64 0)).trans hx716_0
         clear hn716_0 hn716_1 hn716_2 hn716_3 hn716_4 hn716_5
         replace p716 := eq_true p716
         replace q716 := eq_true q716
         try go_wp2_with (first | ((with_reducible refine gC 33 rfl ?_); refine gL (some 50) Try.func33 #[.string (rdOf ByteArray.empty t704 0)] ?_; (with_reducible refine (impl_ReadKey.calls k (rdOf ByteArray.empty t704 0) t717 t718 _ A12.out).mono ?_); rintro e w31 ⟨rfl, hb⟩; refine ⟨_, rfl, ?_⟩; have n_ := aT (Kd.R_below (rF6 HO707.out BK715.out) hb) (aT (Kd.R_below (rF6 HO712.out BK715.out) hb) (aT (bF NB701_715 BK701 hb) (aT (blk_below (g := gb715) (o := .cells #[.int .i64 0, .int .i64 (rd t709 0), .int .i64 (rd t709 1), .int .i64 0, .int .i64 0, .int .i64 0] 43 (0, 0)) (bP BK715) hb) (aM (below_step bS hb))))); clear HO707 HO712 BK701 BK715 HB; obtain ⟨HO707, HO712, BK701, BK715, HB⟩ := n_; (try clear hb); have hnb32 := NB715_701.out; have hnc32 := NB701_715.out; obtain ⟨⟨hcz33_0, hcz33_1, hcz33_2, hcz33_3, hcz33_4, hcz33_5⟩, hfz33_0, hfz33_1, hfz33_2, hfz33_3, hfz33_4, hfz33_5⟩ := cF6 BK715; have p719 : 0 ≤ (2 : Int) := (by omega); have q719 : 2 < (t704.length : Int) := of_decide_eq_true aA; obtain ⟨ad719, e719, hx719_0⟩ := Kd.at_string (Kd.R_reads' HO707.out).2.2 2 p719 q719; obtain rfl : ad708 = ad719 := (by injection e719); (try simp only [show (2 : Int).toNat = 2 from rfl, Nat.reduceMul, Nat.reduceEqDiff, Go.Addr.add, ↓reduceIte] at hx719_0); have qi719 : (2 < t704.length) = True := eq_true (by omega); (try rw [show ((2 : Int)).toNat = 2 from rfl] at hx719_0); have hn719_0 : ad708.block ≠ gb715 := Kd.own_blk (Kd.R_ne HO707.out BK715.out (by decide)); replace hx719_0 := (cell_far (p := ⟨gb715, 0, none⟩) (by first | (rw [add_block]; exact hn719_0) | (show (Addr.add _ _).block ≠ _; rw [add_block]; exact hn719_0) | exact hn719_0) (.int .i64 t717)).trans hx719_0; clear hn719_0; replace p719 := eq_true p719; replace q719 := eq_true q719) | ((with_reducible refine gC 19 rfl ?_); refine gL (some 58) Try.func19 #[.string (rdOf ByteArray.empty t704 2)] ?_; (with_reducible refine (impl_ReadRest.calls k (rdOf ByteArray.empty t704 2) t720 t721 t722 t723 _ A14.out).mono ?_); rintro e w34 ⟨rfl, hb⟩; refine ⟨_, rfl, ?_⟩; have n_ := aT (Kd.R_below (rF1 HO707.out BK715.out) hb) (aT (Kd.R_below (rF1 HO712.out BK715.out) hb) (aT (bF NB701_715 BK701 hb) (aT (blk_below (g := gb715) (o := .cells #[.int .i64 t717, .int .i64 (rd t709 0), .int .i64 (rd t709 1), .int .i64 0, .int .i64 0, .int .i64 0] 43 (0, 0)) (bP BK715) hb) (aM (below_step bS hb))))); clear HO707 HO712 BK701 BK715 HB; obtain ⟨HO707, HO712, BK701, BK715, HB⟩ := n_; (try clear hb); obtain ⟨⟨hcz35_0, hcz35_1, hcz35_2, hcz35_3, hcz35_4, hcz35_5⟩, hfz35_0, hfz35_1, hfz35_2, hfz35_3, hfz35_4, hfz35_5⟩ := cF6 BK715) | ((with_reducible refine gC 15 rfl ?_); refine gL (some 64) Try.func15 #[.agg #[.int .i64 t717, .int .i64 (rd t709 0), .int .i64 (rd t709 1), .int .i64 t720, .int .i64 t721, .int .i64 t722], .int .i64 a1] ?_; (with_reducible refine (impl_ShowGrant.calls k t717 (rd t709 0) (rd t709 1) t720 t721 t722 a1 t724 _ A15.out).mono ?_); rintro e w36 ⟨rfl, hb⟩; refine ⟨_, rfl, ?_⟩; have n_ := aT (Kd.R_below (rF3 HO707.out BK715.out) hb) (aT (Kd.R_below (rF3 HO712.out BK715.out) hb) (aT (bF NB701_715 BK701 hb) (aT (blk_below (g := gb715) (o := .cells #[.int .i64 t717, .int .i64 (rd t709 0), .int .i64 (rd t709 1), .int .i64 t720, .int .i64 t721, .int .i64 t722] 43 (0, 0)) (bP BK715) hb) (aM (below_step bS hb))))); clear HO707 HO712 BK701 BK715 HB; obtain ⟨HO707, HO712, BK701, BK715, HB⟩ := n_; (try clear hb); obtain ⟨⟨hcz37_0, hcz37_1, hcz37_2, hcz37_3, hcz37_4, hcz37_5⟩, hfz37_0, hfz37_1, hfz37_2, hfz37_3, hfz37_4, hfz37_5⟩ := cF6 BK715; obtain ⟨⟨hcz38_0, hcz38_1, hcz38_2, hcz38_3, hcz38_4, hcz38_5⟩, hfz38_0, hfz38_1, hfz38_2, hfz38_3, hfz38_4, hfz38_5⟩ := cF6 BK701))
         refine bodyPost_ret (results_ct rfl _ _ gb701 43 #[.int .i64 t717, .int .i64 (rd t709 0), .int .i64 (rd t709 1), .int .i64 t720, .int .i64 t721, .int .i64 t722] (0, 0) _ rfl (bP BK701) Try.underlying43 rfl (by kernel_rfl)) rfl ?_
         exact ⟨eE, bS⟩
        rw [if_neg c16] at H
        have c16b0 : (t724.toList == a0.toList) = false := beq_eq_false_iff_ne.mpr c16
        have c16b1 : (t724.toList != a0.toList) = true := bne_iff_ne.mpr c16
        simp only [Option.some.injEq, Prod.mk.injEq] at H
        obtain ⟨rfl, rfl, rfl, rfl, rfl, rfl, rfl⟩ := H
        go_enter Try.func16, Try.ntmps16
        try go_wp2_with (first | ((with_reducible refine gD 4 rfl ?_); refine bE #[.int .i64 0, .int .i64 0, .int .i64 0, .int .i64 0, .int .i64 0, .int .i64 0] 43 ?_; intro gb701 hg w39 hbox hb; have n_ := aT (below_step bH hb) (aT (hbox) (aT ((bZ hg : w.heap.size ≤ gb701)) (aM ((bZ hg : w.heap.size ≤ gb701))))); clear HB; obtain ⟨HB, BK701, GW701, GE701⟩ := n_; clear hb hbox hg) | ((with_reducible refine gC 30 rfl ?_); refine gL (some 16) Try.func30 #[.string a0, .int .i64 a1] ?_; (with_reducible refine (impl_Open.calls k a0 a1 t702 t703 _ A3.out).mono ?_); rintro e w40 ⟨rfl, hb⟩; refine ⟨_, rfl, ?_⟩; have n_ := aT (bB BK701 hb) (aM (below_step bS hb)); clear BK701 HB; obtain ⟨BK701, HB⟩ := n_; (try clear hb)) | ((with_reducible refine gC 31 rfl ?_); refine gL (some 21) Try.func31 #[.string t702] ?_; (with_reducible refine (impl_Parts.calls k t702 t704 t705 _ A4.out).mono ?_); rintro e w41 ⟨v706, rfl, ho0, hb⟩; refine ⟨_, rfl, ?_⟩; have n_ := aT (Kd.R_lower ho0 (below_size bS)) (aT (bB BK701 hb) (aM (below_step bS hb))); clear BK701 HB; obtain ⟨HO707, BK701, HB⟩ := n_; (try clear hb); (try clear ho0); obtain ⟨Ao42, co42, eo42⟩ := Kd.R_slice HO707.out; subst eo42; have p708 : 0 ≤ (1 : Int) := (by omega); have q708 : 1 < (t704.length : Int) := of_decide_eq_true aA; obtain ⟨ad708, e708, hx708_0⟩ := Kd.at_string (Kd.R_reads' HO707.out).2.2 1 p708 q708; cases e708; (try simp only [show (1 : Int).toNat = 1 from rfl, Nat.reduceMul, Nat.reduceEqDiff, Go.Addr.add, ↓reduceIte] at hx708_0); have qi708 : (1 < t704.length) = True := eq_true (by omega); (try rw [show ((1 : Int)).toNat = 1 from rfl] at hx708_0); replace p708 := eq_true p708; replace q708 := eq_true q708) | ((with_reducible refine gC 32 rfl ?_); refine gL (some 32) Try.func32 #[.string (rdOf ByteArray.empty t704 1)] ?_; (with_reducible refine (impl_ReadNums.calls k (rdOf ByteArray.empty t704 1) t709 t710 _ A7.out).mono ?_); rintro e w43 ⟨v711, rfl, ho0, hb⟩; refine ⟨_, rfl, ?_⟩; have n_ := aT (rB HO707 hb) (aT (Kd.R_lower ho0 (below_size bS)) (aT (bB BK701 hb) (aM (below_step bS hb)))); clear HO707 BK701 HB; obtain ⟨HO707, HO712, BK701, HB⟩ := n_; (try clear hb); (try clear ho0); obtain ⟨Ao44, co44, eo44⟩ := Kd.R_slice HO712.out; subst eo44))
        have n_ := aT (Kd.R_drew HO707.out) (aT (Kd.R_drew HO712.out) (aT (blk_drew BK701.out) (aM (below_drew1 HB.out))))
        clear HO707 HO712 BK701 HB
        obtain ⟨HO707, HO712, BK701, HB⟩ := n_
        have p713 : 0 ≤ (0 : Int) := (by omega)
        have q713 : 0 < (t709.length : Int) := of_decide_eq_true aA
        obtain ⟨ad713, e713, hx713_0⟩ := Kd.at_int (Kd.R_reads' HO712.out).2.2 0 p713 q713
        cases e713
        have qi713 : (0 < t709.length) = True := eq_true (by omega)
        (try rw [show ((0 : Int)).toNat = 0 from rfl] at hx713_0)
        (try rw [Addr.add_zero'] at hx713_0)
        replace p713 := eq_true p713
        replace q713 := eq_true q713
        have p714 : 0 ≤ (1 : Int) := (by omega)
        have q714 : 1 < (t709.length : Int) := of_decide_eq_true aA
        obtain ⟨ad714, e714, hx714_0⟩ := Kd.at_int (Kd.R_reads' HO712.out).2.2 1 p714 q714
        obtain rfl : ad713 = ad714 := (by injection e714)
        (try simp only [show (1 : Int).toNat = 1 from rfl, Nat.reduceMul, Nat.reduceEqDiff, Go.Addr.add, ↓reduceIte] at hx714_0)
        have qi714 : (1 < t709.length) = True := eq_true (by omega)
        (try rw [show ((1 : Int)).toNat = 1 from rfl] at hx714_0)
        replace p714 := eq_true p714
        replace q714 := eq_true q714
        refine start_ (n := 9) (S := fun w' => w'.cell? ad713 = some (.int .i64 (rd t709 0)) ∧ w'.cell? ⟨ad713.block, ad713.off + 1, none⟩ = some (.int .i64 (rd t709 1))) (ds := []) _ (by kernel_rfl) rfl rfl ⟨hx713_0, hx714_0⟩ (fun hHeld => ?_); refine with_tabW impl_ReadGrant.tab8 impl_ReadGrant.bits8 (fun HT_ HW_ => ?_)
        generalize w43.drew = w45 at HO707 HO712 BK701 HB hx713_0 hx714_0 hHeld ⊢
        refine pU HT_ 0 (some 39) (mk 9 1) rfl rfl (h := ?_)
        refine pU HT_ 1 (some 40) (mk 9 3) rfl rfl (h := ?_)
        refine pU HT_ 3 (some 42) (mk 9 11) rfl rfl (h := ?_)
        refine pU HT_ 4 (some 43) (mk 9 27) rfl rfl (h := ?_)
        refine tU HT_ HW_ 2 (some 41) (mk 9 31) hHeld rfl rfl (by rintro w' ⟨s0, s1⟩; go_simp; with_reducible rfl) (h := ?_)
        refine tU HT_ HW_ 5 (some 44) (mk 9 63) hHeld rfl rfl (by rintro w' ⟨s0, s1⟩; go_simp; with_reducible rfl) (h := ?_)
        refine pU HT_ 6 (some 45) (mk 9 127) rfl rfl (h := ?_)
        refine one_ (i := 7) (N := some 12) (mk 9 255) rfl rfl (one_of HT_.out (by kernel_rfl)) (by decide) (fun K hK => ?_)
        refine box_step ?hg (N := 12) ?hd (cs := #[.int .i64 0, .int .i64 0, .int .i64 0, .int .i64 0, .int .i64 0, .int .i64 0]) (t := 43) ?hr ?_; (case hd => rfl); (case hg => rfl); (case hr => first | (go_simp; done) | (go_simp; rfl))
        intro gb715 hg w46 hbox hb
        have HS0_ := (hb.cell (World.block_lt_of_cell? _ _ (hHeld.1))).trans (hHeld.1)
        have HS1_ := (hb.cell (World.block_lt_of_cell? _ _ (hHeld.2))).trans (hHeld.2)
        have n0_ := Aside0.mk (rB HO707 hb)
        have n1_ := Aside0.mk (rB HO712 hb)
        have n2_ := Aside0.mk (bB BK701 hb)
        have n3_ := Aside0.mk (below_step bS hb)
        have n4_ := Aside0.mk (hbox)
        have n5_ := Aside0.mk ((bZ hg : w.heap.size ≤ gb715))
        have n6_ := Aside0.mk ((bZ hg : w.heap.size ≤ gb715))
        have n7_ := Aside0.mk (lB hg BK701)
        have n8_ := Aside0.mk (gB hg BK701)
        clear HO707 HO712 BK701 HB
        have HO707 := n0_
        have HO712 := n1_
        have BK701 := n2_
        have HB := n3_
        have BK715 := n4_
        have GW715 := n5_
        have GE715 := n6_
        have NB701_715 := n7_
        have NB715_701 := n8_
        clear n0_ n1_ n2_ n3_ n4_ n5_ n6_ n7_ n8_ hb hbox hg
        refine hK.out _ _ ⟨HS0_, HS1_⟩ (fun hHeld => ?_)
        clear hK K
        refine nO (some 12) (h := ?_)
        refine one_ (i := 8) (N := none) (mk 9 511) rfl rfl (one_of HT_.out (by kernel_rfl)) (by decide) (fun K hK => ?_)
        have hs47 : w46.cell? ⟨gb715, 0, none⟩ = some (.int .i64 0) := (blk_cell BK715.out 0).trans rfl
        have hfs47 := blk_frozen BK715.out 0
        have hns47_0 := NB701_715.out
        have hms47_0 := NB715_701.out
        have hs48 : w46.cell? ⟨gb715, 1, none⟩ = some (.int .i64 0) := (blk_cell BK715.out 1).trans rfl
        have hfs48 := blk_frozen BK715.out 1
        have hns48_0 := NB701_715.out
        have hms48_0 := NB715_701.out
        have hs49 : w46.cell? ⟨gb715, 2, none⟩ = some (.int .i64 0) := (blk_cell BK715.out 2).trans rfl
        have hfs49 := blk_frozen BK715.out 2
        have hns49_0 := NB701_715.out
        have hms49_0 := NB715_701.out
        have hs50 : w46.cell? ⟨gb715, 3, none⟩ = some (.int .i64 0) := (blk_cell BK715.out 3).trans rfl
        have hfs50 := blk_frozen BK715.out 3
        have hns50_0 := NB701_715.out
        have hms50_0 := NB715_701.out
        have hs51 : w46.cell? ⟨gb715, 4, none⟩ = some (.int .i64 0) := (blk_cell BK715.out 4).trans rfl
        have hfs51 := blk_frozen BK715.out 4
        have hns51_0 := NB701_715.out
        have hms51_0 := NB715_701.out
        have hs52 : w46.cell? ⟨gb715, 5, none⟩ = some (.int .i64 0) := (blk_cell BK715.out 5).trans rfl
        have hfs52 := blk_frozen BK715.out 5
        have hns52_0 := NB701_715.out
        have hms52_0 := NB715_701.out
        refine skip_ (w1 := ?_) (by rfl) rfl ?_ ?_
        rotate_left
        ·go_simp
         rfl
        refine hK.out _ _ ⟨((cell_far (p := ⟨gb715, _, none⟩) (oN HO712 BK715) _).trans (((cell_far (p := ⟨gb715, _, none⟩) (oN HO712 BK715) _).trans (((cell_far (p := ⟨gb715, _, none⟩) (oN HO712 BK715) _).trans (((cell_far (p := ⟨gb715, _, none⟩) (oN HO712 BK715) _).trans (((cell_far (p := ⟨gb715, _, none⟩) (oN HO712 BK715) _).trans (((cell_far (p := ⟨gb715, _, none⟩) (oN HO712 BK715) _).trans (hHeld.1)))))))))))), ((cell_far (p := ⟨gb715, _, none⟩) (oN HO712 BK715) _).trans (((cell_far (p := ⟨gb715, _, none⟩) (oN HO712 BK715) _).trans (((cell_far (p := ⟨gb715, _, none⟩) (oN HO712 BK715) _).trans (((cell_far (p := ⟨gb715, _, none⟩) (oN HO712 BK715) _).trans (((cell_far (p := ⟨gb715, _, none⟩) (oN HO712 BK715) _).trans (((cell_far (p := ⟨gb715, _, none⟩) (oN HO712 BK715) _).trans (hHeld.2))))))))))))⟩ (fun hHeld => ?_)
        clear hK K
        refine done_ (done_of HT_.out (by kernel_rfl)) ?_
        have p716 : 0 ≤ (0 : Int) := (by omega)
        have q716 : 0 < (t704.length : Int) := of_decide_eq_true aA
        obtain ⟨ad716, e716, hx716_0⟩ := Kd.at_string (Kd.R_reads' HO707.out).2.2 0 p716 q716
        obtain rfl : ad708 = ad716 := (by injection e716)
        have qi716 : (0 < t704.length) = True := eq_true (by omega)
        (try rw [show ((0 : Int)).toNat = 0 from rfl] at hx716_0)
        (try rw [Addr.add_zero'] at hx716_0)
        have hn716_0 : ad708.block ≠ gb715 := Kd.own_blk (Kd.R_ne HO707.out BK715.out (by decide))
        have hn716_1 : ad708.block ≠ gb715 := Kd.own_blk (Kd.R_ne HO707.out BK715.out (by decide))
        have hn716_2 : ad708.block ≠ gb715 := Kd.own_blk (Kd.R_ne HO707.out BK715.out (by decide))
        have hn716_3 : ad708.block ≠ gb715 := Kd.own_blk (Kd.R_ne HO707.out BK715.out (by decide))
        have hn716_4 : ad708.block ≠ gb715 := Kd.own_blk (Kd.R_ne HO707.out BK715.out (by decide))
        have hn716_5 : ad708.block ≠ gb715 := Kd.own_blk (Kd.R_ne HO707.out BK715.out (by decide))
        replace hx716_0 := (cell_far (p := ⟨gb715, 0, none⟩) (by first | (rw [add_block]; exact hn716_0) | (show (Addr.add _ _).block ≠ _; rw [add_block]; exact hn716_0) | exact hn716_0) (.int .i64 0)).trans hx716_0
        replace hx716_0 := (cell_far (p := ⟨gb715, 1, none⟩) (by first | (rw [add_block]; exact hn716_1) | (show (Addr.add _ _).block ≠ _; rw [add_block]; exact hn716_1) | exact hn716_1) (.int .i64 (rd t709 0))).trans hx716_0
        replace hx716_0 := (cell_far (p := ⟨gb715, 2, none⟩) (by first | (rw [add_block]; exact hn716_2) | (show (Addr.add _ _).block ≠ _; rw [add_block]; exact hn716_2) | exact hn716_2) (.int .i64 (rd t709 1))).trans hx716_0
        replace hx716_0 := (cell_far (p := ⟨gb715, 3, none⟩) (by first | (rw [add_block]; exact hn716_3) | (show (Addr.add _ _).block ≠ _; rw [add_block]; exact hn716_3) | exact hn716_3) (.int .i64 0)).trans hx716_0
        replace hx716_0 := (cell_far (p := ⟨gb715, 4, none⟩) (by first | (rw [add_block]; exact hn716_4) | (show (Addr.add _ _).block ≠ _; rw [add_block]; exact hn716_4) | exact hn716_4) (.int .i64 0)).trans hx716_0
        replace hx716_0 := (cell_far (p := ⟨gb715, 5, none⟩) (by first | (rw [add_block]; exact hn716_5) | (show (Addr.add _ _).block ≠ _; rw [add_block]; exact hn716_5) | exact hn716_5) (.int .i64 0)).trans hx716_0
        clear hn716_0 hn716_1 hn716_2 hn716_3 hn716_4 hn716_5
        replace p716 := eq_true p716
        replace q716 := eq_true q716
        try go_wp2_with (first | ((with_reducible refine gC 33 rfl ?_); refine gL (some 50) Try.func33 #[.string (rdOf ByteArray.empty t704 0)] ?_; (with_reducible refine (impl_ReadKey.calls k (rdOf ByteArray.empty t704 0) t717 t718 _ A12.out).mono ?_); rintro e w53 ⟨rfl, hb⟩; refine ⟨_, rfl, ?_⟩; have n_ := aT (Kd.R_below (rF6 HO707.out BK715.out) hb) (aT (Kd.R_below (rF6 HO712.out BK715.out) hb) (aT (bF NB701_715 BK701 hb) (aT (blk_below (g := gb715) (o := .cells #[.int .i64 0, .int .i64 (rd t709 0), .int .i64 (rd t709 1), .int .i64 0, .int .i64 0, .int .i64 0] 43 (0, 0)) (bP BK715) hb) (aM (below_step bS hb))))); clear HO707 HO712 BK701 BK715 HB; obtain ⟨HO707, HO712, BK701, BK715, HB⟩ := n_; (try clear hb); have hnb54 := NB715_701.out; have hnc54 := NB701_715.out; obtain ⟨⟨hcz55_0, hcz55_1, hcz55_2, hcz55_3, hcz55_4, hcz55_5⟩, hfz55_0, hfz55_1, hfz55_2, hfz55_3, hfz55_4, hfz55_5⟩ := cF6 BK715; have p719 : 0 ≤ (2 : Int) := (by omega); have q719 : 2 < (t704.length : Int) := of_decide_eq_true aA; obtain ⟨ad719, e719, hx719_0⟩ := Kd.at_string (Kd.R_reads' HO707.out).2.2 2 p719 q719; obtain rfl : ad708 = ad719 := (by injection e719); (try simp only [show (2 : Int).toNat = 2 from rfl, Nat.reduceMul, Nat.reduceEqDiff, Go.Addr.add, ↓reduceIte] at hx719_0); have qi719 : (2 < t704.length) = True := eq_true (by omega); (try rw [show ((2 : Int)).toNat = 2 from rfl] at hx719_0); have hn719_0 : ad708.block ≠ gb715 := Kd.own_blk (Kd.R_ne HO707.out BK715.out (by decide)); replace hx719_0 := (cell_far (p := ⟨gb715, 0, none⟩) (by first | (rw [add_block]; exact hn719_0) | (show (Addr.add _ _).block ≠ _; rw [add_block]; exact hn719_0) | exact hn719_0) (.int .i64 t717)).trans hx719_0; clear hn719_0; replace p719 := eq_true p719; replace q719 := eq_true q719) | ((with_reducible refine gC 19 rfl ?_); refine gL (some 58) Try.func19 #[.string (rdOf ByteArray.empty t704 2)] ?_; (with_reducible refine (impl_ReadRest.calls k (rdOf ByteArray.empty t704 2) t720 t721 t722 t723 _ A14.out).mono ?_); rintro e w56 ⟨rfl, hb⟩; refine ⟨_, rfl, ?_⟩; have n_ := aT (Kd.R_below (rF1 HO707.out BK715.out) hb) (aT (Kd.R_below (rF1 HO712.out BK715.out) hb) (aT (bF NB701_715 BK701 hb) (aT (blk_below (g := gb715) (o := .cells #[.int .i64 t717, .int .i64 (rd t709 0), .int .i64 (rd t709 1), .int .i64 0, .int .i64 0, .int .i64 0] 43 (0, 0)) (bP BK715) hb) (aM (below_step bS hb))))); clear HO707 HO712 BK701 BK715 HB; obtain ⟨HO707, HO712, BK701, BK715, HB⟩ := n_; (try clear hb); obtain ⟨⟨hcz57_0, hcz57_1, hcz57_2, hcz57_3, hcz57_4, hcz57_5⟩, hfz57_0, hfz57_1, hfz57_2, hfz57_3, hfz57_4, hfz57_5⟩ := cF6 BK715) | ((with_reducible refine gC 15 rfl ?_); refine gL (some 64) Try.func15 #[.agg #[.int .i64 t717, .int .i64 (rd t709 0), .int .i64 (rd t709 1), .int .i64 t720, .int .i64 t721, .int .i64 t722], .int .i64 a1] ?_; (with_reducible refine (impl_ShowGrant.calls k t717 (rd t709 0) (rd t709 1) t720 t721 t722 a1 t724 _ A15.out).mono ?_); rintro e w58 ⟨rfl, hb⟩; refine ⟨_, rfl, ?_⟩; have n_ := aT (Kd.R_below (rF3 HO707.out BK715.out) hb) (aT (Kd.R_below (rF3 HO712.out BK715.out) hb) (aT (bF NB701_715 BK701 hb) (aT (blk_below (g := gb715) (o := .cells #[.int .i64 t717, .int .i64 (rd t709 0), .int .i64 (rd t709 1), .int .i64 t720, .int .i64 t721, .int .i64 t722] 43 (0, 0)) (bP BK715) hb) (aM (below_step bS hb))))); clear HO707 HO712 BK701 BK715 HB; obtain ⟨HO707, HO712, BK701, BK715, HB⟩ := n_; (try clear hb); obtain ⟨⟨hcz59_0, hcz59_1, hcz59_2, hcz59_3, hcz59_4, hcz59_5⟩, hfz59_0, hfz59_1, hfz59_2, hfz59_3, hfz59_4, hfz59_5⟩ := cF6 BK701))
        refine bodyPost_ret (results_ct rfl _ _ gb701 43 #[.int .i64 0, .int .i64 0, .int .i64 0, .int .i64 0, .int .i64 0, .int .i64 0] (0, 0) _ rfl (bP BK701) Try.underlying43 rfl (by kernel_rfl)) rfl ?_
        exact ⟨eE, bS⟩
       rw [if_neg c13] at H
       exact absurd H (by simp)
      rw [if_neg c11] at H
      exact absurd H (by simp)
     rw [if_neg c10] at H
     exact absurd H (by simp)
    rw [if_neg c9] at H
    exact absurd H (by simp)
   rw [if_neg c8] at H
   have c8b0 : ((t709.length : Int) == 2) = false := beq_eq_false_iff_ne.mpr c8
   have c8b1 : ((t709.length : Int) != 2) = true := bne_iff_ne.mpr c8
   simp only [Option.some.injEq, Prod.mk.injEq] at H
   obtain ⟨rfl, rfl, rfl, rfl, rfl, rfl, rfl⟩ := H
   go_enter Try.func16, Try.ntmps16
   go_wp2_with (first | ((with_reducible refine gD 4 rfl ?_); refine bE #[.int .i64 0, .int .i64 0, .int .i64 0, .int .i64 0, .int .i64 0, .int .i64 0] 43 ?_; intro gb701 hg w60 hbox hb; have n_ := aT (below_step bH hb) (aT (hbox) (aT ((bZ hg : w.heap.size ≤ gb701)) (aM ((bZ hg : w.heap.size ≤ gb701))))); clear HB; obtain ⟨HB, BK701, GW701, GE701⟩ := n_; clear hb hbox hg) | ((with_reducible refine gC 30 rfl ?_); refine gL (some 16) Try.func30 #[.string a0, .int .i64 a1] ?_; (with_reducible refine (impl_Open.calls k a0 a1 t702 t703 _ A3.out).mono ?_); rintro e w61 ⟨rfl, hb⟩; refine ⟨_, rfl, ?_⟩; have n_ := aT (bB BK701 hb) (aM (below_step bS hb)); clear BK701 HB; obtain ⟨BK701, HB⟩ := n_; (try clear hb)) | ((with_reducible refine gC 31 rfl ?_); refine gL (some 21) Try.func31 #[.string t702] ?_; (with_reducible refine (impl_Parts.calls k t702 t704 t705 _ A4.out).mono ?_); rintro e w62 ⟨v706, rfl, ho0, hb⟩; refine ⟨_, rfl, ?_⟩; have n_ := aT (Kd.R_lower ho0 (below_size bS)) (aT (bB BK701 hb) (aM (below_step bS hb))); clear BK701 HB; obtain ⟨HO707, BK701, HB⟩ := n_; (try clear hb); (try clear ho0); obtain ⟨Ao63, co63, eo63⟩ := Kd.R_slice HO707.out; subst eo63; have p708 : 0 ≤ (1 : Int) := (by omega); have q708 : 1 < (t704.length : Int) := of_decide_eq_true aA; obtain ⟨ad708, e708, hx708_0⟩ := Kd.at_string (Kd.R_reads' HO707.out).2.2 1 p708 q708; cases e708; (try simp only [show (1 : Int).toNat = 1 from rfl, Nat.reduceMul, Nat.reduceEqDiff, Go.Addr.add, ↓reduceIte] at hx708_0); have qi708 : (1 < t704.length) = True := eq_true (by omega); (try rw [show ((1 : Int)).toNat = 1 from rfl] at hx708_0); replace p708 := eq_true p708; replace q708 := eq_true q708) | ((with_reducible refine gC 32 rfl ?_); refine gL (some 32) Try.func32 #[.string (rdOf ByteArray.empty t704 1)] ?_; (with_reducible refine (impl_ReadNums.calls k (rdOf ByteArray.empty t704 1) t709 t710 _ A7.out).mono ?_); rintro e w64 ⟨v711, rfl, ho0, hb⟩; refine ⟨_, rfl, ?_⟩; have n_ := aT (rB HO707 hb) (aT (Kd.R_lower ho0 (below_size bS)) (aT (bB BK701 hb) (aM (below_step bS hb)))); clear HO707 BK701 HB; obtain ⟨HO707, HO712, BK701, HB⟩ := n_; (try clear hb); (try clear ho0); obtain ⟨Ao65, co65, eo65⟩ := Kd.R_slice HO712.out; subst eo65; obtain ⟨⟨hcz66_0, hcz66_1, hcz66_2, hcz66_3, hcz66_4, hcz66_5⟩, hfz66_0, hfz66_1, hfz66_2, hfz66_3, hfz66_4, hfz66_5⟩ := cF6 BK701))
   refine bodyPost_ret (results_ct rfl _ _ gb701 43 #[.int .i64 0, .int .i64 0, .int .i64 0, .int .i64 0, .int .i64 0, .int .i64 0] (0, 0) _ rfl (bP BK701) Try.underlying43 rfl (by kernel_rfl)) rfl ?_
   exact ⟨eE, bS⟩
  rw [if_neg c6] at H
  exact absurd H (by simp)
 rw [if_neg c5] at H
 have c5b0 : ((t704.length : Int) == 3) = false := beq_eq_false_iff_ne.mpr c5
 have c5b1 : ((t704.length : Int) != 3) = true := bne_iff_ne.mpr c5
 simp only [Option.some.injEq, Prod.mk.injEq] at H
 obtain ⟨rfl, rfl, rfl, rfl, rfl, rfl, rfl⟩ := H
 go_enter Try.func16, Try.ntmps16
 go_wp2_with (first | ((with_reducible refine gD 4 rfl ?_); refine bE #[.int .i64 0, .int .i64 0, .int .i64 0, .int .i64 0, .int .i64 0, .int .i64 0] 43 ?_; intro gb701 hg w67 hbox hb; have n_ := aT (below_step bH hb) (aT (hbox) (aT ((bZ hg : w.heap.size ≤ gb701)) (aM ((bZ hg : w.heap.size ≤ gb701))))); clear HB; obtain ⟨HB, BK701, GW701, GE701⟩ := n_; clear hb hbox hg) | ((with_reducible refine gC 30 rfl ?_); refine gL (some 16) Try.func30 #[.string a0, .int .i64 a1] ?_; (with_reducible refine (impl_Open.calls k a0 a1 t702 t703 _ A3.out).mono ?_); rintro e w68 ⟨rfl, hb⟩; refine ⟨_, rfl, ?_⟩; have n_ := aT (bB BK701 hb) (aM (below_step bS hb)); clear BK701 HB; obtain ⟨BK701, HB⟩ := n_; (try clear hb)) | ((with_reducible refine gC 31 rfl ?_); refine gL (some 21) Try.func31 #[.string t702] ?_; (with_reducible refine (impl_Parts.calls k t702 t704 t705 _ A4.out).mono ?_); rintro e w69 ⟨v706, rfl, ho0, hb⟩; refine ⟨_, rfl, ?_⟩; have n_ := aT (Kd.R_lower ho0 (below_size bS)) (aT (bB BK701 hb) (aM (below_step bS hb))); clear BK701 HB; obtain ⟨HO707, BK701, HB⟩ := n_; (try clear hb); (try clear ho0); obtain ⟨Ao70, co70, eo70⟩ := Kd.R_slice HO707.out; subst eo70; obtain ⟨⟨hcz71_0, hcz71_1, hcz71_2, hcz71_3, hcz71_4, hcz71_5⟩, hfz71_0, hfz71_1, hfz71_2, hfz71_3, hfz71_4, hfz71_5⟩ := cF6 BK701))
 refine bodyPost_ret (results_ct rfl _ _ gb701 43 #[.int .i64 0, .int .i64 0, .int .i64 0, .int .i64 0, .int .i64 0, .int .i64 0] (0, 0) _ rfl (bP BK701) Try.underlying43 rfl (by kernel_rfl)) rfl ?_
 exact ⟨eE, bS⟩

/-! ### spec_l5GrantOk: function 45 -/
def spec_l5GrantOk.f (a0_0 : Int) (a0_1 : Int) (a0_2 : Int) (a0_3 : Int) (a0_4 : Int) (a0_5 : Int) : Option (Bool) := (spec_l1In.f a0_0 1 1000000).bind fun t726 => (if t726 = true then ((spec_l5Service.f a0_1).bind fun t727 => (if t727 = true then ((spec_l1In.f a0_2 0 1000000).bind fun t728 => (if t728 = true then ((spec_RestOk.f a0_3 a0_4 a0_5).bind fun t729 => (some t729)) else (some false))) else (some false))) else (some false))
set_option maxHeartbeats 8000000 in
set_option maxRecDepth 100000 in
theorem spec_l5GrantOk.calls (a0_0 : Int) (a0_1 : Int) (a0_2 : Int) (a0_3 : Int) (a0_4 : Int) (a0_5 : Int) (r : Bool) (w : World) (h : spec_l5GrantOk.f a0_0 a0_1 a0_2 a0_3 a0_4 a0_5 = some r) :
  Calls Try.prog 45 #[.agg #[.int .i64 a0_0, .int .i64 a0_1, .int .i64 a0_2, .int .i64 a0_3, .int .i64 a0_4, .int .i64 a0_5]] w fun e w' => e = .returned (.bool r) ∧ Below w.heap.size w w' := by
 have hu43 := Try.underlying43
 have hu25 := Try.underlying25
 have HB := Aside0.mk (Below.refl w.heap.size w)
 have H := h
 clear h
 unfold spec_l5GrantOk.f at H
 obtain ⟨t726, A2, H⟩ := oB H
 by_cases c3 : t726 = true
 ·subst c3
  rw [if_pos rfl] at H
  obtain ⟨t727, A4, H⟩ := oB H
  by_cases c5 : t727 = true
  ·subst c5
   rw [if_pos rfl] at H
   obtain ⟨t728, A6, H⟩ := oB H
   by_cases c7 : t728 = true
   ·subst c7
    rw [if_pos rfl] at H
    obtain ⟨t729, A8, H⟩ := oB H
    obtain rfl := Option.some.inj H
    go_enter Try.func45, Try.ntmps45
    go_wp2_with (first | ((with_reducible refine gD 1 rfl ?_); refine bE #[.int .i64 a0_0, .int .i64 a0_1, .int .i64 a0_2, .int .i64 a0_3, .int .i64 a0_4, .int .i64 a0_5] 43 ?_; intro gb725 hg w9 hbox hb; have n_ := aT (below_step bH hb) (aT (hbox) (aT ((bZ hg : w.heap.size ≤ gb725)) (aM ((bZ hg : w.heap.size ≤ gb725))))); clear HB; obtain ⟨HB, BK725, GW725, GE725⟩ := n_; clear hb hbox hg; obtain ⟨⟨hcz10_0, hcz10_1, hcz10_2, hcz10_3, hcz10_4, hcz10_5⟩, hfz10_0, hfz10_1, hfz10_2, hfz10_3, hfz10_4, hfz10_5⟩ := cF6 BK725) | ((with_reducible refine gC 48 rfl ?_); refine gL (some 5) Try.func48 #[.int .i64 a0_0, .int .i64 1, .int .i64 1000000] ?_; (with_reducible refine (spec_l1In.calls a0_0 1 1000000 true _ A2.out).mono ?_); rintro e w' ⟨rfl, ⟨nd, rfl⟩⟩; refine ⟨_, rfl, ?_⟩) | (go_at_call 69; (with_reducible refine (spec_l5Service.calls a0_1 true _ A4.out).mono ?_); rintro e w' ⟨rfl, ⟨nd, rfl⟩⟩) | (go_at_call 48; (with_reducible refine (spec_l1In.calls a0_2 0 1000000 true _ A6.out).mono ?_); rintro e w' ⟨rfl, ⟨nd, rfl⟩⟩) | (go_at_call 21; (with_reducible refine (spec_RestOk.calls a0_3 a0_4 a0_5 t729 _ A8.out).mono ?_); rintro e w11 ⟨rfl, hb⟩; have n_ := aT (bB BK725 hb) (aM (below_step bS hb)); clear BK725 HB; obtain ⟨BK725, HB⟩ := n_; (try clear hb)))
    go_ret
    exact ⟨eE, bS⟩
   replace c7 := Bool.eq_false_iff.mpr c7
   subst c7
   rw [if_neg nF] at H
   obtain rfl := Option.some.inj H
   go_enter Try.func45, Try.ntmps45
   go_wp2_with (first | ((with_reducible refine gD 1 rfl ?_); refine bE #[.int .i64 a0_0, .int .i64 a0_1, .int .i64 a0_2, .int .i64 a0_3, .int .i64 a0_4, .int .i64 a0_5] 43 ?_; intro gb725 hg w12 hbox hb; have n_ := aT (below_step bH hb) (aT (hbox) (aT ((bZ hg : w.heap.size ≤ gb725)) (aM ((bZ hg : w.heap.size ≤ gb725))))); clear HB; obtain ⟨HB, BK725, GW725, GE725⟩ := n_; clear hb hbox hg; obtain ⟨⟨hcz13_0, hcz13_1, hcz13_2, hcz13_3, hcz13_4, hcz13_5⟩, hfz13_0, hfz13_1, hfz13_2, hfz13_3, hfz13_4, hfz13_5⟩ := cF6 BK725) | ((with_reducible refine gC 48 rfl ?_); refine gL (some 5) Try.func48 #[.int .i64 a0_0, .int .i64 1, .int .i64 1000000] ?_; (with_reducible refine (spec_l1In.calls a0_0 1 1000000 true _ A2.out).mono ?_); rintro e w' ⟨rfl, ⟨nd, rfl⟩⟩; refine ⟨_, rfl, ?_⟩) | (go_at_call 69; (with_reducible refine (spec_l5Service.calls a0_1 true _ A4.out).mono ?_); rintro e w' ⟨rfl, ⟨nd, rfl⟩⟩) | (go_at_call 48; (with_reducible refine (spec_l1In.calls a0_2 0 1000000 false _ A6.out).mono ?_); rintro e w' ⟨rfl, ⟨nd, rfl⟩⟩))
   go_ret
   exact ⟨eE, bS⟩
  replace c5 := Bool.eq_false_iff.mpr c5
  subst c5
  rw [if_neg nF] at H
  obtain rfl := Option.some.inj H
  go_enter Try.func45, Try.ntmps45
  go_wp2_with (first | ((with_reducible refine gD 1 rfl ?_); refine bE #[.int .i64 a0_0, .int .i64 a0_1, .int .i64 a0_2, .int .i64 a0_3, .int .i64 a0_4, .int .i64 a0_5] 43 ?_; intro gb725 hg w14 hbox hb; have n_ := aT (below_step bH hb) (aT (hbox) (aT ((bZ hg : w.heap.size ≤ gb725)) (aM ((bZ hg : w.heap.size ≤ gb725))))); clear HB; obtain ⟨HB, BK725, GW725, GE725⟩ := n_; clear hb hbox hg; obtain ⟨⟨hcz15_0, hcz15_1, hcz15_2, hcz15_3, hcz15_4, hcz15_5⟩, hfz15_0, hfz15_1, hfz15_2, hfz15_3, hfz15_4, hfz15_5⟩ := cF6 BK725) | ((with_reducible refine gC 48 rfl ?_); refine gL (some 5) Try.func48 #[.int .i64 a0_0, .int .i64 1, .int .i64 1000000] ?_; (with_reducible refine (spec_l1In.calls a0_0 1 1000000 true _ A2.out).mono ?_); rintro e w' ⟨rfl, ⟨nd, rfl⟩⟩; refine ⟨_, rfl, ?_⟩) | (go_at_call 69; (with_reducible refine (spec_l5Service.calls a0_1 false _ A4.out).mono ?_); rintro e w' ⟨rfl, ⟨nd, rfl⟩⟩))
  go_ret
  exact ⟨eE, bS⟩
 replace c3 := Bool.eq_false_iff.mpr c3
 subst c3
 rw [if_neg nF] at H
 obtain rfl := Option.some.inj H
 go_enter Try.func45, Try.ntmps45
 go_wp2_with (first | ((with_reducible refine gD 1 rfl ?_); refine bE #[.int .i64 a0_0, .int .i64 a0_1, .int .i64 a0_2, .int .i64 a0_3, .int .i64 a0_4, .int .i64 a0_5] 43 ?_; intro gb725 hg w16 hbox hb; have n_ := aT (below_step bH hb) (aT (hbox) (aT ((bZ hg : w.heap.size ≤ gb725)) (aM ((bZ hg : w.heap.size ≤ gb725))))); clear HB; obtain ⟨HB, BK725, GW725, GE725⟩ := n_; clear hb hbox hg; obtain ⟨⟨hcz17_0, hcz17_1, hcz17_2, hcz17_3, hcz17_4, hcz17_5⟩, hfz17_0, hfz17_1, hfz17_2, hfz17_3, hfz17_4, hfz17_5⟩ := cF6 BK725) | ((with_reducible refine gC 48 rfl ?_); refine gL (some 5) Try.func48 #[.int .i64 a0_0, .int .i64 1, .int .i64 1000000] ?_; (with_reducible refine (spec_l1In.calls a0_0 1 1000000 false _ A2.out).mono ?_); rintro e w' ⟨rfl, ⟨nd, rfl⟩⟩; refine ⟨_, rfl, ?_⟩))
 go_ret
 exact ⟨eE, bS⟩

end Go.Proofs.Ytaldemgfndmmlaa.OFnTickets
-- wrapped
-- halved
-- squeezed
-- squeezed2
-- squeezed3
