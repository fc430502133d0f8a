-- walks of this claim, written by a program of mine
import Derived.Test.YtaldemgfndmmlaaOFnTicketsx0
import Derived.Test.YtaldemgfndmmlaaOFnTicketsx6
import Derived.Test.YtaldemgfndmmlaaOFnTicketsx9
import Derived.Test.YtaldemgfndmmlaaOFnTicketsx10
namespace Go.Proofs.Ytaldemgfndmmlaa.OFnTickets
open Go.RowKit Go.Proofs.Ytaldemgfndmmlaa.OWord Go.Proofs.YtaldemgfndmmlaaW.PrintWords Go.Proofs.YtaldemgfndmmlaaW.PrintLast Go.Proofs.YtaldemgfndmmlaaW.PrintMore
attribute [local go_sem] max2_int min2_int max_two min_two max_three min_three max_four min_four   -- for this text's walks alone
set_option linter.unusedVariables false
set_option linter.unusedSimpArgs false

/-! ### impl_sealed: function 63 -/
def impl_sealed.f (k : Nat) (a0 : ByteArray) : Option (Int × ByteArray × Bool) := (impl_isOf.f k a0 115).bind fun t415 => (if t415 = true then ((impl_varAt.f k a0 1).bind fun bt416 => (if 0 ≤ bt416.2 then (if bt416.2 ≤ (a0.size : Int) then (some (bt416.1, a0.extract (bt416.2 : Int).toNat a0.size, true)) else (none)) else (none))) else (some (0, (⟨#[]⟩ : ByteArray), false)))
set_option maxHeartbeats 8000000 in
set_option maxRecDepth 100000 in
theorem impl_sealed.calls (k : Nat) (a0 : ByteArray) (r1 : Int) (r2 : ByteArray) (r3 : Bool) (w : World) (h : impl_sealed.f k a0 = some (r1, r2, r3)) :
  Calls Try.prog 63 #[.string a0] w fun e w' => e = .returned (.tuple #[.int .i64 r1, .string r2, .bool r3]) ∧ Below w.heap.size w w' := by
 have HB := Aside0.mk (Below.refl w.heap.size w)
 have H := h
 clear h
 unfold impl_sealed.f at H
 obtain ⟨t415, A2, H⟩ := oB H
 by_cases c3 : t415 = true
 ·subst c3
  rw [if_pos rfl] at H
  obtain ⟨⟨t416, t417⟩, A4, H⟩ := oB H
  dsimp only at H
  by_cases c5 : 0 ≤ t417
  ·rw [if_pos c5] at H
   have c5b0 := eq_true c5
   have c5b1 := decide_eq_true c5
   clear c5
   by_cases c6 : t417 ≤ (a0.size : Int)
   ·rw [if_pos c6] at H
    have c6b0 := eq_true c6
    have c6b1 := decide_eq_true c6
    clear c6
    simp only [Option.some.injEq, Prod.mk.injEq] at H
    obtain ⟨rfl, rfl, rfl⟩ := H
    go_enter Try.func63, Try.ntmps63
    go_wp2_with (first | (go_at_call 64; (with_reducible refine (impl_isOf.calls k a0 115 true _ A2.out).mono ?_); rintro e w7 ⟨rfl, hb⟩; have n_ := aM (below_step bH hb); clear HB; have HB := n_; clear n_; (try clear hb)) | (go_at_call 65; (with_reducible refine (impl_varAt.calls k a0 1 t416 t417 _ A4.out).mono ?_); rintro e w8 ⟨rfl, hb⟩; have n_ := aM (below_step bH hb); clear HB; have HB := n_; clear n_; (try clear hb)))
    repeat (go_quiet (first | (go_at_call 64; (with_reducible refine (impl_isOf.calls k a0 115 true _ A2.out).mono ?_); rintro e w7 ⟨rfl, hb⟩; have n_ := aM (below_step bH hb); clear HB; have HB := n_; clear n_; (try clear hb)) | (go_at_call 65; (with_reducible refine (impl_varAt.calls k a0 1 t416 t417 _ A4.out).mono ?_); rintro e w8 ⟨rfl, hb⟩; have n_ := aM (below_step bH hb); clear HB; have HB := n_; clear n_; (try clear hb))); try go_wp2_with (first | (go_at_call 64; (with_reducible refine (impl_isOf.calls k a0 115 true _ A2.out).mono ?_); rintro e w7 ⟨rfl, hb⟩; have n_ := aM (below_step bH hb); clear HB; have HB := n_; clear n_; (try clear hb)) | (go_at_call 65; (with_reducible refine (impl_varAt.calls k a0 1 t416 t417 _ A4.out).mono ?_); rintro e w8 ⟨rfl, hb⟩; have n_ := aM (below_step bH hb); clear HB; have HB := n_; clear n_; (try clear hb))))
    go_ret3
    exact ⟨eE, bH⟩
   rw [if_neg c6] at H
   exact absurd H (by simp)
  rw [if_neg c5] at H
  exact absurd H (by simp)
 replace c3 := Bool.eq_false_iff.mpr c3
 subst c3
 rw [if_neg nF] at H
 simp only [Option.some.injEq, Prod.mk.injEq] at H
 obtain ⟨rfl, rfl, rfl⟩ := H
 go_enter Try.func63, Try.ntmps63
 go_wp2_with (first | (go_at_call 64; (with_reducible refine (impl_isOf.calls k a0 115 false _ A2.out).mono ?_); rintro e w9 ⟨rfl, hb⟩; have n_ := aM (below_step bH hb); clear HB; have HB := n_; clear n_; (try clear hb)))
 repeat (go_quiet (first | (go_at_call 64; (with_reducible refine (impl_isOf.calls k a0 115 false _ A2.out).mono ?_); rintro e w9 ⟨rfl, hb⟩; have n_ := aM (below_step bH hb); clear HB; have HB := n_; clear n_; (try clear hb))); try go_wp2_with (first | (go_at_call 64; (with_reducible refine (impl_isOf.calls k a0 115 false _ A2.out).mono ?_); rintro e w9 ⟨rfl, hb⟩; have n_ := aM (below_step bH hb); clear HB; have HB := n_; clear n_; (try clear hb))))
 go_ret3
 exact ⟨eE, bH⟩

/-! ### impl_Open: function 30 -/
def impl_Open.f (k : Nat) (a0 : ByteArray) (a1 : Int) : Option (ByteArray × Bool) := (impl_sealed.f k a0).bind fun bt418 => (if bt418.2.2 = true then (if bt418.1 = a1 then (some (bt418.2.1, true)) else (some ((⟨#[]⟩ : ByteArray), false))) else (some ((⟨#[]⟩ : ByteArray), false)))
set_option maxHeartbeats 8000000 in
set_option maxRecDepth 100000 in
theorem impl_Open.calls (k : Nat) (a0 : ByteArray) (a1 : Int) (r1 : ByteArray) (r2 : Bool) (w : World) (h : impl_Open.f k a0 a1 = some (r1, r2)) :
  Calls Try.prog 30 #[.string a0, .int .i64 a1] w fun e w' => e = .returned (.tuple #[.string r1, .bool r2]) ∧ Below w.heap.size w w' := by
 have HB := Aside0.mk (Below.refl w.heap.size w)
 have H := h
 clear h
 unfold impl_Open.f at H
 obtain ⟨⟨t418, t419, t420⟩, A3, H⟩ := oB H
 dsimp only at H
 by_cases c4 : t420 = true
 ·subst c4
  rw [if_pos rfl] at H
  by_cases c5 : t418 = a1
  ·rw [if_pos c5] at H
   have c5b0 : (t418 == a1) = true := beq_iff_eq.mpr c5
   have c5b1 : (t418 != a1) = false := bne_eq_false_iff_eq.mpr c5
   clear c5
   simp only [Option.some.injEq, Prod.mk.injEq] at H
   obtain ⟨rfl, rfl⟩ := H
   go_enter Try.func30, Try.ntmps30
   go_wp2_with (first | ((with_reducible refine gC 63 rfl ?_); refine gL (some 11) Try.func63 #[.string a0] ?_; (with_reducible refine (impl_sealed.calls k a0 t418 t419 true _ A3.out).mono ?_); rintro e w6 ⟨rfl, hb⟩; refine ⟨_, rfl, ?_⟩; have n_ := aM (below_step bH hb); clear HB; have HB := n_; clear n_; (try clear hb)))
   go_ret2
   exact ⟨eE, bH⟩
  rw [if_neg c5] at H
  have c5b0 : (t418 == a1) = false := beq_eq_false_iff_ne.mpr c5
  have c5b1 : (t418 != a1) = true := bne_iff_ne.mpr c5
  simp only [Option.some.injEq, Prod.mk.injEq] at H
  obtain ⟨rfl, rfl⟩ := H
  go_enter Try.func30, Try.ntmps30
  go_wp2_with (first | ((with_reducible refine gC 63 rfl ?_); refine gL (some 11) Try.func63 #[.string a0] ?_; (with_reducible refine (impl_sealed.calls k a0 t418 t419 true _ A3.out).mono ?_); rintro e w7 ⟨rfl, hb⟩; refine ⟨_, rfl, ?_⟩; have n_ := aM (below_step bH hb); clear HB; have HB := n_; clear n_; (try clear hb)))
  go_ret2
  exact ⟨eE, bH⟩
 replace c4 := Bool.eq_false_iff.mpr c4
 subst c4
 rw [if_neg nF] at H
 simp only [Option.some.injEq, Prod.mk.injEq] at H
 obtain ⟨rfl, rfl⟩ := H
 go_enter Try.func30, Try.ntmps30
 go_wp2_with (first | ((with_reducible refine gC 63 rfl ?_); refine gL (some 11) Try.func63 #[.string a0] ?_; (with_reducible refine (impl_sealed.calls k a0 t418 t419 false _ A3.out).mono ?_); rintro e w8 ⟨rfl, hb⟩; refine ⟨_, rfl, ?_⟩; have n_ := aM (below_step bH hb); clear HB; have HB := n_; clear n_; (try clear hb)))
 go_ret2
 exact ⟨eE, bH⟩

/-! ### impl_ReadKey: function 33 -/
def impl_ReadKey.f (k : Nat) (a0 : ByteArray) : Option (Int × Bool) := (impl_isOf.f k a0 107).bind fun t421 => (if t421 = true then ((impl_varAt.f k a0 1).bind fun bt422 => (some (bt422.1, true))) else (some (0, false)))
set_option maxHeartbeats 8000000 in
set_option maxRecDepth 100000 in
theorem impl_ReadKey.calls (k : Nat) (a0 : ByteArray) (r1 : Int) (r2 : Bool) (w : World) (h : impl_ReadKey.f k a0 = some (r1, r2)) :
  Calls Try.prog 33 #[.string a0] w fun e w' => e = .returned (.tuple #[.int .i64 r1, .bool r2]) ∧ Below w.heap.size w w' := by
 have HB := Aside0.mk (Below.refl w.heap.size w)
 have H := h
 clear h
 unfold impl_ReadKey.f at H
 obtain ⟨t421, A2, H⟩ := oB H
 by_cases c3 : t421 = true
 ·subst c3
  rw [if_pos rfl] at H
  obtain ⟨⟨t422, t423⟩, A4, H⟩ := oB H
  dsimp only at H
  simp only [Option.some.injEq, Prod.mk.injEq] at H
  obtain ⟨rfl, rfl⟩ := H
  go_enter Try.func33, Try.ntmps33
  go_wp2_with (first | ((with_reducible refine gC 64 rfl ?_); refine gL (some 7) Try.func64 #[.string a0, .int .u8 107] ?_; (with_reducible refine (impl_isOf.calls k a0 107 true _ A2.out).mono ?_); rintro e w5 ⟨rfl, hb⟩; refine ⟨_, rfl, ?_⟩; have n_ := aM (below_step bH hb); clear HB; have HB := n_; clear n_; (try clear hb)) | ((with_reducible refine gC 65 rfl ?_); refine gL (some 11) Try.func65 #[.string a0, .int .i64 1] ?_; (with_reducible refine (impl_varAt.calls k a0 1 t422 t423 _ A4.out).mono ?_); rintro e w6 ⟨rfl, hb⟩; refine ⟨_, rfl, ?_⟩; have n_ := aM (below_step bH hb); clear HB; have HB := n_; clear n_; (try clear hb)))
  go_ret2
  exact ⟨eE, bH⟩
 replace c3 := Bool.eq_false_iff.mpr c3
 subst c3
 rw [if_neg nF] at H
 simp only [Option.some.injEq, Prod.mk.injEq] at H
 obtain ⟨rfl, rfl⟩ := H
 go_enter Try.func33, Try.ntmps33
 go_wp2_with (first | ((with_reducible refine gC 64 rfl ?_); refine gL (some 7) Try.func64 #[.string a0, .int .u8 107] ?_; (with_reducible refine (impl_isOf.calls k a0 107 false _ A2.out).mono ?_); rintro e w7 ⟨rfl, hb⟩; refine ⟨_, rfl, ?_⟩; have n_ := aM (below_step bH hb); clear HB; have HB := n_; clear n_; (try clear hb)))
 go_ret2
 exact ⟨eE, bH⟩

/-! ### impl_ReadTicket: function 7 -/
def impl_ReadTicket.f (k : Nat) (a0 : ByteArray) (a1 : Int) : Option (Int × Int × Int × Int × Int × Int × List Int × List Int × Bool) := (impl_Open.f k a0 a1).bind fun bt425 => ((impl_Parts.f k bt425.1).bind fun bt427 => (if (bt427.1.length : Int) = 5 then (if 0 < (bt427.1.length : Int) then ((impl_ReadNums.f k (rdOf ByteArray.empty bt427.1 0)).bind fun bt432 => (if (bt432.1.length : Int) = 2 then (if 0 < (bt432.1.length : Int) then (if 1 < (bt432.1.length : Int) then (if 1 < (bt427.1.length : Int) then ((impl_ReadKey.f k (rdOf ByteArray.empty bt427.1 1)).bind fun bt440 => (if 2 < (bt427.1.length : Int) then ((impl_ReadRest.f k (rdOf ByteArray.empty bt427.1 2)).bind fun bt443 => (if 3 < (bt427.1.length : Int) then ((impl_ReadNums.f k (rdOf ByteArray.empty bt427.1 3)).bind fun bt448 => (if 4 < (bt427.1.length : Int) then ((impl_ReadNums.f k (rdOf ByteArray.empty bt427.1 4)).bind fun bt453 => ((impl_ShowTicket.f k (rd bt432.1 0) (rd bt432.1 1) bt440.1 bt443.1 bt443.2.1 bt443.2.2.1 bt448.1 bt453.1 a1).bind fun t457 => (if t457.toList = a0.toList then (some (rd bt432.1 0, rd bt432.1 1, bt440.1, bt443.1, bt443.2.1, bt443.2.2.1, bt448.1, bt453.1, true)) else (some (0, 0, 0, 0, 0, 0, ([] : List Int), ([] : List Int), false))))) else (none))) else (none))) else (none))) else (none)) else (none)) else (none)) else (some (0, 0, 0, 0, 0, 0, ([] : List Int), ([] : List Int), false)))) else (none)) else (some (0, 0, 0, 0, 0, 0, ([] : List Int), ([] : List Int), false))))
def impl_ReadTicket.T8 : Bool × List (List Nat × List Nat) := (true, [([], []), ([0], [0]), ([1], [1]), ([], []), ([3], [3]), ([4], [4]), ([2, 5], [2, 5]), ([], []), ([7, 6, 0, 1, 2, 3, 4, 5, 6, 7], [6, 7])])
def impl_ReadTicket.B8 : List Nat := [0, 1, 3, 0, 8, 24, 63, 0, 255]
theorem impl_ReadTicket.tab8 : rtab .any (opsOf Try.f7 8) = impl_ReadTicket.T8 := by kernel_rfl
theorem impl_ReadTicket.bits8 : waitsOk impl_ReadTicket.T8.2 impl_ReadTicket.B8 = true := by kernel_rfl
set_option maxHeartbeats 8000000 in
set_option maxRecDepth 100000 in
theorem impl_ReadTicket.calls (k : Nat) (a0 : ByteArray) (a1 : Int) (r1 : Int) (r2 : Int) (r3 : Int) (r4 : Int) (r5 : Int) (r6 : Int) (r7 : List Int) (r8 : List Int) (r9 : Bool) (w : World) (h : impl_ReadTicket.f k a0 a1 = some (r1, r2, r3, r4, r5, r6, r7, r8, r9)) :
  Calls Try.prog 7 #[.string a0, .int .i64 a1] w fun e w' => ∃ v6_ v7_ : Value, e = .returned (.tuple #[.agg #[.int .i64 r1, .int .i64 r2, .int .i64 r3, .int .i64 r4, .int .i64 r5, .int .i64 r6, v6_, v7_], .bool r9]) ∧ Kd.R (Kd.int .i64) 3 w' w.heap.size (fun k_ => some k_ ≠ (v7_ : Value).ownBlock) v6_ r7 ∧ Kd.R (Kd.int .i64) 3 w' w.heap.size (fun k_ => some k_ ≠ (v6_ : Value).ownBlock) v7_ r8 ∧ Below w.heap.size w w' := by
 have hu28 := Try.underlying28
 have hu25 := Try.underlying25
 have HB := Aside0.mk (Below.refl w.heap.size w)
 have H := h
 clear h
 unfold impl_ReadTicket.f at H
 obtain ⟨⟨t425, t426⟩, A3, H⟩ := oB H
 dsimp only at H
 obtain ⟨⟨t427, t428⟩, A4, H⟩ := oB H
 dsimp only at H
 by_cases c5 : (t427.length : Int) = 5
 ·rw [if_pos c5] at H
  have c5b0 : ((t427.length : Int) == 5) = true := beq_iff_eq.mpr c5
  have c5b1 : ((t427.length : Int) != 5) = false := bne_eq_false_iff_eq.mpr c5
  clear c5
  by_cases c6 : 0 < (t427.length : Int)
  ·rw [if_pos c6] at H
   have c6b0 := decide_eq_true c6
   have c6b1 : decide (0 < t427.length) = true := decide_eq_true (by omega)
   clear c6
   obtain ⟨⟨t432, t433⟩, A7, H⟩ := oB H
   dsimp only at H
   by_cases c8 : (t432.length : Int) = 2
   ·rw [if_pos c8] at H
    have c8b0 : ((t432.length : Int) == 2) = true := beq_iff_eq.mpr c8
    have c8b1 : ((t432.length : Int) != 2) = false := bne_eq_false_iff_eq.mpr c8
    clear c8
    by_cases c9 : 0 < (t432.length : Int)
    ·rw [if_pos c9] at H
     have c9b0 := decide_eq_true c9
     have c9b1 : decide (0 < t432.length) = true := decide_eq_true (by omega)
     clear c9
     by_cases c10 : 1 < (t432.length : Int)
     ·rw [if_pos c10] at H
      have c10b0 := decide_eq_true c10
      have c10b1 : decide (1 < t432.length) = true := decide_eq_true (by omega)
      clear c10
      by_cases c11 : 1 < (t427.length : Int)
      ·rw [if_pos c11] at H
       have c11b0 := decide_eq_true c11
       have c11b1 : decide (1 < t427.length) = true := decide_eq_true (by omega)
       clear c11
       obtain ⟨⟨t440, t441⟩, A12, H⟩ := oB H
       dsimp only at H
       by_cases c13 : 2 < (t427.length : Int)
       ·rw [if_pos c13] at H
        have c13b0 := decide_eq_true c13
        have c13b1 : decide (2 < t427.length) = true := decide_eq_true (by omega)
        clear c13
        obtain ⟨⟨t443, t444, t445, t446⟩, A14, H⟩ := oB H
        dsimp only at H
        by_cases c15 : 3 < (t427.length : Int)
        ·rw [if_pos c15] at H
         have c15b0 := decide_eq_true c15
         have c15b1 : decide (3 < t427.length) = true := decide_eq_true (by omega)
         clear c15
         obtain ⟨⟨t448, t449⟩, A16, H⟩ := oB H
         dsimp only at H
         by_cases c17 : 4 < (t427.length : Int)
         ·rw [if_pos c17] at H
          have c17b0 := decide_eq_true c17
          have c17b1 : decide (4 < t427.length) = true := decide_eq_true (by omega)
          clear c17
          obtain ⟨⟨t453, t454⟩, A18, H⟩ := oB H
          dsimp only at H
          obtain ⟨t457, A19, H⟩ := oB H
          by_cases c20 : t457.toList = a0.toList
          ·rw [if_pos c20] at H
           have c20b0 : (t457.toList == a0.toList) = true := beq_iff_eq.mpr c20
           have c20b1 : (t457.toList != a0.toList) = false := bne_eq_false_iff_eq.mpr c20
           clear c20
           simp only [Option.some.injEq, Prod.mk.injEq] at H
           obtain ⟨rfl, rfl, rfl, rfl, rfl, rfl, rfl, rfl, rfl⟩ := H
           go_enter Try.func7, Try.ntmps7
           try go_wp2_with (first | ((with_reducible refine gD 4 rfl ?_); refine bE #[.int .i64 0, .int .i64 0, .int .i64 0, .int .i64 0, .int .i64 0, .int .i64 0, .slice none 0 0, .slice none 0 0] 28 ?_; intro gb424 hg w21 hbox hb; have n_ := aT (below_step bH hb) (aT (hbox) (aT ((bZ hg : w.heap.size ≤ gb424)) (aM ((bZ hg : w.heap.size ≤ gb424))))); clear HB; obtain ⟨HB, BK424, GW424, GE424⟩ := n_; clear hb hbox hg) | ((with_reducible refine gC 30 rfl ?_); refine gL (some 16) Try.func30 #[.string a0, .int .i64 a1] ?_; (with_reducible refine (impl_Open.calls k a0 a1 t425 t426 _ A3.out).mono ?_); rintro e w22 ⟨rfl, hb⟩; refine ⟨_, rfl, ?_⟩; have n_ := aT (bB BK424 hb) (aM (below_step bS hb)); clear BK424 HB; obtain ⟨BK424, HB⟩ := n_; (try clear hb)) | ((with_reducible refine gC 31 rfl ?_); refine gL (some 21) Try.func31 #[.string t425] ?_; (with_reducible refine (impl_Parts.calls k t425 t427 t428 _ A4.out).mono ?_); rintro e w23 ⟨v429, rfl, ho0, hb⟩; refine ⟨_, rfl, ?_⟩; have n_ := aT (Kd.R_lower ho0 (below_size bS)) (aT (bB BK424 hb) (aM (below_step bS hb))); clear BK424 HB; obtain ⟨HO430, BK424, HB⟩ := n_; (try clear hb); (try clear ho0); obtain ⟨Ao24, co24, eo24⟩ := Kd.R_slice HO430.out; subst eo24; have p431 : 0 ≤ (0 : Int) := (by omega); have q431 : 0 < (t427.length : Int) := of_decide_eq_true aA; obtain ⟨ad431, e431, hx431_0⟩ := Kd.at_string (Kd.R_reads' HO430.out).2.2 0 p431 q431; cases e431; have qi431 : (0 < t427.length) = True := eq_true (by omega); (try rw [show ((0 : Int)).toNat = 0 from rfl] at hx431_0); (try rw [Addr.add_zero'] at hx431_0); replace p431 := eq_true p431; replace q431 := eq_true q431) | ((with_reducible refine gC 32 rfl ?_); refine gL (some 32) Try.func32 #[.string (rdOf ByteArray.empty t427 0)] ?_; (with_reducible refine (impl_ReadNums.calls k (rdOf ByteArray.empty t427 0) t432 t433 _ A7.out).mono ?_); rintro e w25 ⟨v434, rfl, ho0, hb⟩; refine ⟨_, rfl, ?_⟩; have n_ := aT (rB HO430 hb) (aT (Kd.R_lower ho0 (below_size bS)) (aT (bB BK424 hb) (aM (below_step bS hb)))); clear HO430 BK424 HB; obtain ⟨HO430, HO435, BK424, HB⟩ := n_; (try clear hb); (try clear ho0); obtain ⟨Ao26, co26, eo26⟩ := Kd.R_slice HO435.out; subst eo26))
           have n_ := aT (Kd.R_drew HO430.out) (aT (Kd.R_drew HO435.out) (aT (blk_drew BK424.out) (aM (below_drew1 HB.out))))
           clear HO430 HO435 BK424 HB
           obtain ⟨HO430, HO435, BK424, HB⟩ := n_
           have p436 : 0 ≤ (0 : Int) := (by omega)
           have q436 : 0 < (t432.length : Int) := of_decide_eq_true aA
           obtain ⟨ad436, e436, hx436_0⟩ := Kd.at_int (Kd.R_reads' HO435.out).2.2 0 p436 q436
           cases e436
           have qi436 : (0 < t432.length) = True := eq_true (by omega)
           (try rw [show ((0 : Int)).toNat = 0 from rfl] at hx436_0)
           (try rw [Addr.add_zero'] at hx436_0)
           replace p436 := eq_true p436
           replace q436 := eq_true q436
           have p437 : 0 ≤ (1 : Int) := (by omega)
           have q437 : 1 < (t432.length : Int) := of_decide_eq_true aA
           obtain ⟨ad437, e437, hx437_0⟩ := Kd.at_int (Kd.R_reads' HO435.out).2.2 1 p437 q437
           obtain rfl : ad436 = ad437 := (by injection e437)
           (try simp only [show (1 : Int).toNat = 1 from rfl, Nat.reduceMul, Nat.reduceEqDiff, Go.Addr.add, ↓reduceIte] at hx437_0)
           have qi437 : (1 < t432.length) = True := eq_true (by omega)
           (try rw [show ((1 : Int)).toNat = 1 from rfl] at hx437_0)
           replace p437 := eq_true p437
           replace q437 := eq_true q437
           refine start_ (n := 9) (S := fun w' => w'.cell? ad436 = some (.int .i64 (rd t432 0)) ∧ w'.cell? ⟨ad436.block, ad436.off + 1, none⟩ = some (.int .i64 (rd t432 1))) (ds := []) _ (by kernel_rfl) rfl rfl ⟨hx436_0, hx437_0⟩ (fun hHeld => ?_); refine with_tabW impl_ReadTicket.tab8 impl_ReadTicket.bits8 (fun HT_ HW_ => ?_)
           generalize w25.drew = w27 at HO430 HO435 BK424 HB hx436_0 hx437_0 hHeld ⊢
           refine pU HT_ 0 (some 39) (mk 9 1) rfl rfl (h := ?_)
           refine pU HT_ 1 (some 40) (mk 9 3) rfl rfl (h := ?_)
           refine pU HT_ 3 (some 42) (mk 9 11) rfl rfl (h := ?_)
           refine pU HT_ 4 (some 43) (mk 9 27) rfl rfl (h := ?_)
           refine tU HT_ HW_ 2 (some 41) (mk 9 31) hHeld rfl rfl (by rintro w' ⟨s0, s1⟩; go_simp; with_reducible rfl) (h := ?_)
           refine tU HT_ HW_ 5 (some 44) (mk 9 63) hHeld rfl rfl (by rintro w' ⟨s0, s1⟩; go_simp; with_reducible rfl) (h := ?_)
           refine pU HT_ 6 (some 45) (mk 9 127) rfl rfl (h := ?_)
           refine one_ (i := 7) (N := some 12) (mk 9 255) rfl rfl (one_of HT_.out (by kernel_rfl)) (by decide) (fun K hK => ?_)
           refine box_step ?hg (N := 12) ?hd (cs := #[.int .i64 0, .int .i64 0, .int .i64 0, .int .i64 0, .int .i64 0, .int .i64 0, .slice none 0 0, .slice none 0 0]) (t := 28) ?hr ?_; (case hd => rfl); (case hg => rfl); (case hr => first | (go_simp; done) | (go_simp; rfl))
           intro gb438 hg w28 hbox hb
           have HS0_ := (hb.cell (World.block_lt_of_cell? _ _ (hHeld.1))).trans (hHeld.1)
           have HS1_ := (hb.cell (World.block_lt_of_cell? _ _ (hHeld.2))).trans (hHeld.2)
           have n0_ := Aside0.mk (rB HO430 hb)
           have n1_ := Aside0.mk (rB HO435 hb)
           have n2_ := Aside0.mk (bB BK424 hb)
           have n3_ := Aside0.mk (below_step bS hb)
           have n4_ := Aside0.mk (hbox)
           have n5_ := Aside0.mk ((bZ hg : w.heap.size ≤ gb438))
           have n6_ := Aside0.mk ((bZ hg : w.heap.size ≤ gb438))
           have n7_ := Aside0.mk (lB hg BK424)
           have n8_ := Aside0.mk (gB hg BK424)
           clear HO430 HO435 BK424 HB
           have HO430 := n0_
           have HO435 := n1_
           have BK424 := n2_
           have HB := n3_
           have BK438 := n4_
           have GW438 := n5_
           have GE438 := n6_
           have NB424_438 := n7_
           have NB438_424 := n8_
           clear n0_ n1_ n2_ n3_ n4_ n5_ n6_ n7_ n8_ hb hbox hg
           refine hK.out _ _ ⟨HS0_, HS1_⟩ (fun hHeld => ?_)
           clear hK K
           refine nO (some 12) (h := ?_)
           refine one_ (i := 8) (N := none) (mk 9 511) rfl rfl (one_of HT_.out (by kernel_rfl)) (by decide) (fun K hK => ?_)
           have hs29 : w28.cell? ⟨gb438, 0, none⟩ = some (.int .i64 0) := (blk_cell BK438.out 0).trans rfl
           have hfs29 := blk_frozen BK438.out 0
           have hns29_0 := NB424_438.out
           have hms29_0 := NB438_424.out
           have hs30 : w28.cell? ⟨gb438, 1, none⟩ = some (.int .i64 0) := (blk_cell BK438.out 1).trans rfl
           have hfs30 := blk_frozen BK438.out 1
           have hns30_0 := NB424_438.out
           have hms30_0 := NB438_424.out
           have hs31 : w28.cell? ⟨gb438, 2, none⟩ = some (.int .i64 0) := (blk_cell BK438.out 2).trans rfl
           have hfs31 := blk_frozen BK438.out 2
           have hns31_0 := NB424_438.out
           have hms31_0 := NB438_424.out
           have hs32 : w28.cell? ⟨gb438, 3, none⟩ = some (.int .i64 0) := (blk_cell BK438.out 3).trans rfl
           have hfs32 := blk_frozen BK438.out 3
           have hns32_0 := NB424_438.out
           have hms32_0 := NB438_424.out
           have hs33 : w28.cell? ⟨gb438, 4, none⟩ = some (.int .i64 0) := (blk_cell BK438.out 4).trans rfl
           have hfs33 := blk_frozen BK438.out 4
           have hns33_0 := NB424_438.out
           have hms33_0 := NB438_424.out
           have hs34 : w28.cell? ⟨gb438, 5, none⟩ = some (.int .i64 0) := (blk_cell BK438.out 5).trans rfl
           have hfs34 := blk_frozen BK438.out 5
           have hns34_0 := NB424_438.out
           have hms34_0 := NB438_424.out
           have hs35 : w28.cell? ⟨gb438, 6, none⟩ = some (.slice none 0 0) := (blk_cell BK438.out 6).trans rfl
           have hfs35 := blk_frozen BK438.out 6
           have hns35_0 := NB424_438.out
           have hms35_0 := NB438_424.out
           have hs36 : w28.cell? ⟨gb438, 7, none⟩ = some (.slice none 0 0) := (blk_cell BK438.out 7).trans rfl
           have hfs36 := blk_frozen BK438.out 7
           have hns36_0 := NB424_438.out
           have hms36_0 := NB438_424.out
           refine skip_ (w1 := ?_) (by rfl) rfl ?_ ?_
           rotate_left
           ·go_simp
            rfl
           refine hK.out _ _ ⟨((cell_far (p := ⟨gb438, _, none⟩) (oN HO435 BK438) _).trans (((cell_far (p := ⟨gb438, _, none⟩) (oN HO435 BK438) _).trans (((cell_far (p := ⟨gb438, _, none⟩) (oN HO435 BK438) _).trans (((cell_far (p := ⟨gb438, _, none⟩) (oN HO435 BK438) _).trans (((cell_far (p := ⟨gb438, _, none⟩) (oN HO435 BK438) _).trans (((cell_far (p := ⟨gb438, _, none⟩) (oN HO435 BK438) _).trans (((cell_far (p := ⟨gb438, _, none⟩) (oN HO435 BK438) _).trans (((cell_far (p := ⟨gb438, _, none⟩) (oN HO435 BK438) _).trans (hHeld.1)))))))))))))))), ((cell_far (p := ⟨gb438, _, none⟩) (oN HO435 BK438) _).trans (((cell_far (p := ⟨gb438, _, none⟩) (oN HO435 BK438) _).trans (((cell_far (p := ⟨gb438, _, none⟩) (oN HO435 BK438) _).trans (((cell_far (p := ⟨gb438, _, none⟩) (oN HO435 BK438) _).trans (((cell_far (p := ⟨gb438, _, none⟩) (oN HO435 BK438) _).trans (((cell_far (p := ⟨gb438, _, none⟩) (oN HO435 BK438) _).trans (((cell_far (p := ⟨gb438, _, none⟩) (oN HO435 BK438) _).trans (((cell_far (p := ⟨gb438, _, none⟩) (oN HO435 BK438) _).trans (hHeld.2))))))))))))))))⟩ (fun hHeld => ?_)
           clear hK K
           refine done_ (done_of HT_.out (by kernel_rfl)) ?_
           have p439 : 0 ≤ (1 : Int) := (by omega)
           have q439 : 1 < (t427.length : Int) := of_decide_eq_true aA
           obtain ⟨ad439, e439, hx439_0⟩ := Kd.at_string (Kd.R_reads' HO430.out).2.2 1 p439 q439
           obtain rfl : ad431 = ad439 := (by injection e439)
           (try simp only [show (1 : Int).toNat = 1 from rfl, Nat.reduceMul, Nat.reduceEqDiff, Go.Addr.add, ↓reduceIte] at hx439_0)
           have qi439 : (1 < t427.length) = True := eq_true (by omega)
           (try rw [show ((1 : Int)).toNat = 1 from rfl] at hx439_0)
           have hn439_0 : ad431.block ≠ gb438 := Kd.own_blk (Kd.R_ne HO430.out BK438.out (by decide))
           have hn439_1 : ad431.block ≠ gb438 := Kd.own_blk (Kd.R_ne HO430.out BK438.out (by decide))
           have hn439_2 : ad431.block ≠ gb438 := Kd.own_blk (Kd.R_ne HO430.out BK438.out (by decide))
           have hn439_3 : ad431.block ≠ gb438 := Kd.own_blk (Kd.R_ne HO430.out BK438.out (by decide))
           have hn439_4 : ad431.block ≠ gb438 := Kd.own_blk (Kd.R_ne HO430.out BK438.out (by decide))
           have hn439_5 : ad431.block ≠ gb438 := Kd.own_blk (Kd.R_ne HO430.out BK438.out (by decide))
           have hn439_6 : ad431.block ≠ gb438 := Kd.own_blk (Kd.R_ne HO430.out BK438.out (by decide))
           have hn439_7 : ad431.block ≠ gb438 := Kd.own_blk (Kd.R_ne HO430.out BK438.out (by decide))
           replace hx439_0 := (cell_far (p := ⟨gb438, 0, none⟩) (by first | (rw [add_block]; exact hn439_0) | (show (Addr.add _ _).block ≠ _; rw [add_block]; exact hn439_0) | exact hn439_0) (.int .i64 (rd t432 0))).trans hx439_0
           replace hx439_0 := (cell_far (p := ⟨gb438, 1, none⟩) (by first | (rw [add_block]; exact hn439_1) | (show (Addr.add _ _).block ≠ _; rw [add_block]; exact hn439_1) | exact hn439_1) (.int .i64 (rd t432 1))).trans hx439_0
           replace hx439_0 := (cell_far (p := ⟨gb438, 2, none⟩) (by first | (rw [add_block]; exact hn439_2) | (show (Addr.add _ _).block ≠ _; rw [add_block]; exact hn439_2) | exact hn439_2) (.int .i64 0)).trans hx439_0
           replace hx439_0 := (cell_far (p := ⟨gb438, 3, none⟩) (by first | (rw [add_block]; exact hn439_3) | (show (Addr.add _ _).block ≠ _; rw [add_block]; exact hn439_3) | exact hn439_3) (.int .i64 0)).trans hx439_0
           replace hx439_0 := (cell_far (p := ⟨gb438, 4, none⟩) (by first | (rw [add_block]; exact hn439_4) | (show (Addr.add _ _).block ≠ _; rw [add_block]; exact hn439_4) | exact hn439_4) (.int .i64 0)).trans hx439_0
           replace hx439_0 := (cell_far (p := ⟨gb438, 5, none⟩) (by first | (rw [add_block]; exact hn439_5) | (show (Addr.add _ _).block ≠ _; rw [add_block]; exact hn439_5) | exact hn439_5) (.int .i64 0)).trans hx439_0
           replace hx439_0 := (cell_far (p := ⟨gb438, 6, none⟩) (by first | (rw [add_block]; exact hn439_6) | (show (Addr.add _ _).block ≠ _; rw [add_block]; exact hn439_6) | exact hn439_6) (.slice none 0 0)).trans hx439_0
           replace hx439_0 := (cell_far (p := ⟨gb438, 7, none⟩) (by first | (rw [add_block]; exact hn439_7) | (show (Addr.add _ _).block ≠ _; rw [add_block]; exact hn439_7) | exact hn439_7) (.slice none 0 0)).trans hx439_0
           clear hn439_0 hn439_1 hn439_2 hn439_3 hn439_4 hn439_5 hn439_6 hn439_7
           replace p439 := eq_true p439
           replace q439 := eq_true q439
           try go_wp2_with (first | ((with_reducible refine gC 33 rfl ?_); refine gL (some 50) Try.func33 #[.string (rdOf ByteArray.empty t427 1)] ?_; (with_reducible refine (impl_ReadKey.calls k (rdOf ByteArray.empty t427 1) t440 t441 _ A12.out).mono ?_); rintro e w37 ⟨rfl, hb⟩; refine ⟨_, rfl, ?_⟩; have n_ := aT (Kd.R_below (rF8 HO430.out BK438.out) hb) (aT (Kd.R_below (rF8 HO435.out BK438.out) hb) (aT (bF NB424_438 BK424 hb) (aT (blk_below (g := gb438) (o := .cells #[.int .i64 (rd t432 0), .int .i64 (rd t432 1), .int .i64 0, .int .i64 0, .int .i64 0, .int .i64 0, .slice none 0 0, .slice none 0 0] 28 (0, 0)) (bP BK438) hb) (aM (below_step bS hb))))); clear HO430 HO435 BK424 BK438 HB; obtain ⟨HO430, HO435, BK424, BK438, HB⟩ := n_; (try clear hb); have hnb38 := NB438_424.out; have hnc38 := NB424_438.out; obtain ⟨⟨hcz39_0, hcz39_1, hcz39_2, hcz39_3, hcz39_4, hcz39_5, hcz39_6, hcz39_7⟩, hfz39_0, hfz39_1, hfz39_2, hfz39_3, hfz39_4, hfz39_5, hfz39_6, hfz39_7⟩ := cF8 BK438; have p442 : 0 ≤ (2 : Int) := (by omega); have q442 : 2 < (t427.length : Int) := of_decide_eq_true aA; obtain ⟨ad442, e442, hx442_0⟩ := Kd.at_string (Kd.R_reads' HO430.out).2.2 2 p442 q442; obtain rfl : ad431 = ad442 := (by injection e442); (try simp only [show (2 : Int).toNat = 2 from rfl, Nat.reduceMul, Nat.reduceEqDiff, Go.Addr.add, ↓reduceIte] at hx442_0); have qi442 : (2 < t427.length) = True := eq_true (by omega); (try rw [show ((2 : Int)).toNat = 2 from rfl] at hx442_0); have hn442_0 : ad431.block ≠ gb438 := Kd.own_blk (Kd.R_ne HO430.out BK438.out (by decide)); replace hx442_0 := (cell_far (p := ⟨gb438, 2, none⟩) (by first | (rw [add_block]; exact hn442_0) | (show (Addr.add _ _).block ≠ _; rw [add_block]; exact hn442_0) | exact hn442_0) (.int .i64 t440)).trans hx442_0; clear hn442_0; replace p442 := eq_true p442; replace q442 := eq_true q442) | ((with_reducible refine gC 19 rfl ?_); refine gL (some 58) Try.func19 #[.string (rdOf ByteArray.empty t427 2)] ?_; (with_reducible refine (impl_ReadRest.calls k (rdOf ByteArray.empty t427 2) t443 t444 t445 t446 _ A14.out).mono ?_); rintro e w40 ⟨rfl, hb⟩; refine ⟨_, rfl, ?_⟩; have n_ := aT (Kd.R_below (rF1 HO430.out BK438.out) hb) (aT (Kd.R_below (rF1 HO435.out BK438.out) hb) (aT (bF NB424_438 BK424 hb) (aT (blk_below (g := gb438) (o := .cells #[.int .i64 (rd t432 0), .int .i64 (rd t432 1), .int .i64 t440, .int .i64 0, .int .i64 0, .int .i64 0, .slice none 0 0, .slice none 0 0] 28 (0, 0)) (bP BK438) hb) (aM (below_step bS hb))))); clear HO430 HO435 BK424 BK438 HB; obtain ⟨HO430, HO435, BK424, BK438, HB⟩ := n_; (try clear hb); obtain ⟨⟨hcz41_0, hcz41_1, hcz41_2, hcz41_3, hcz41_4, hcz41_5, hcz41_6, hcz41_7⟩, hfz41_0, hfz41_1, hfz41_2, hfz41_3, hfz41_4, hfz41_5, hfz41_6, hfz41_7⟩ := cF8 BK438; have p447 : 0 ≤ (3 : Int) := (by omega); have q447 : 3 < (t427.length : Int) := of_decide_eq_true aA; obtain ⟨ad447, e447, hx447_0⟩ := Kd.at_string (Kd.R_reads' HO430.out).2.2 3 p447 q447; obtain rfl : ad431 = ad447 := (by injection e447); (try simp only [show (3 : Int).toNat = 3 from rfl, Nat.reduceMul, Nat.reduceEqDiff, Go.Addr.add, ↓reduceIte] at hx447_0); have qi447 : (3 < t427.length) = True := eq_true (by omega); (try rw [show ((3 : Int)).toNat = 3 from rfl] at hx447_0); have hn447_0 : ad431.block ≠ gb438 := Kd.own_blk (Kd.R_ne HO430.out BK438.out (by decide)); have hn447_1 : ad431.block ≠ gb438 := Kd.own_blk (Kd.R_ne HO430.out BK438.out (by decide)); have hn447_2 : ad431.block ≠ gb438 := Kd.own_blk (Kd.R_ne HO430.out BK438.out (by decide)); replace hx447_0 := (cell_far (p := ⟨gb438, 3, none⟩) (by first | (rw [add_block]; exact hn447_0) | (show (Addr.add _ _).block ≠ _; rw [add_block]; exact hn447_0) | exact hn447_0) (.int .i64 t443)).trans hx447_0; replace hx447_0 := (cell_far (p := ⟨gb438, 4, none⟩) (by first | (rw [add_block]; exact hn447_1) | (show (Addr.add _ _).block ≠ _; rw [add_block]; exact hn447_1) | exact hn447_1) (.int .i64 t444)).trans hx447_0; replace hx447_0 := (cell_far (p := ⟨gb438, 5, none⟩) (by first | (rw [add_block]; exact hn447_2) | (show (Addr.add _ _).block ≠ _; rw [add_block]; exact hn447_2) | exact hn447_2) (.int .i64 t445)).trans hx447_0; clear hn447_0; clear hn447_1; clear hn447_2; replace p447 := eq_true p447; replace q447 := eq_true q447) | ((with_reducible refine gC 32 rfl ?_); refine gL (some 66) Try.func32 #[.string (rdOf ByteArray.empty t427 3)] ?_; (with_reducible refine (impl_ReadNums.calls k (rdOf ByteArray.empty t427 3) t448 t449 _ A16.out).mono ?_); rintro e w42 ⟨v450, rfl, ho0, hb⟩; refine ⟨_, rfl, ?_⟩; have n_ := aT (Kd.R_below (rF3 HO430.out BK438.out) hb) (aT (Kd.R_elder' (rF3 HO435.out BK438.out) (Kd.R_base ho0) hb) (aT (Kd.R_lower (Kd.R_new' ho0 (Kd.R_lt (rF3 HO435.out BK438.out))) (below_size bS)) (aT (bF NB424_438 BK424 hb) (aT (blk_below (g := gb438) (o := .cells #[.int .i64 (rd t432 0), .int .i64 (rd t432 1), .int .i64 t440, .int .i64 t443, .int .i64 t444, .int .i64 t445, .slice none 0 0, .slice none 0 0] 28 (0, 0)) (bP BK438) hb) (aM (below_step bS hb)))))); clear HO430 HO435 BK424 BK438 HB; obtain ⟨HO430, HO435, HO451, BK424, BK438, HB⟩ := n_; (try clear hb); (try clear ho0); obtain ⟨Ao43, co43, eo43⟩ := Kd.R_slice HO451.out; subst eo43; obtain ⟨⟨hcz44_0, hcz44_1, hcz44_2, hcz44_3, hcz44_4, hcz44_5, hcz44_6, hcz44_7⟩, hfz44_0, hfz44_1, hfz44_2, hfz44_3, hfz44_4, hfz44_5, hfz44_6, hfz44_7⟩ := cF8 BK438; have p452 : 0 ≤ (4 : Int) := (by omega); have q452 : 4 < (t427.length : Int) := of_decide_eq_true aA; obtain ⟨ad452, e452, hx452_0⟩ := Kd.at_string (Kd.R_reads' HO430.out).2.2 4 p452 q452; obtain rfl : ad431 = ad452 := (by injection e452); (try simp only [show (4 : Int).toNat = 4 from rfl, Nat.reduceMul, Nat.reduceEqDiff, Go.Addr.add, ↓reduceIte] at hx452_0); have qi452 : (4 < t427.length) = True := eq_true (by omega); (try rw [show ((4 : Int)).toNat = 4 from rfl] at hx452_0); have hn452_0 : ad431.block ≠ gb438 := Kd.own_blk (Kd.R_ne HO430.out BK438.out (by decide)); replace hx452_0 := (cell_far (p := ⟨gb438, 6, none⟩) (by first | (rw [add_block]; exact hn452_0) | (show (Addr.add _ _).block ≠ _; rw [add_block]; exact hn452_0) | exact hn452_0) (.slice Ao43 t448.length co43)).trans hx452_0; clear hn452_0; replace p452 := eq_true p452; replace q452 := eq_true q452) | ((with_reducible refine gC 32 rfl ?_); refine gL (some 74) Try.func32 #[.string (rdOf ByteArray.empty t427 4)] ?_; (with_reducible refine (impl_ReadNums.calls k (rdOf ByteArray.empty t427 4) t453 t454 _ A18.out).mono ?_); rintro e w45 ⟨v455, rfl, ho0, hb⟩; refine ⟨_, rfl, ?_⟩; have n_ := aT (Kd.R_below (rF1 HO430.out BK438.out) hb) (aT (Kd.R_elder' (rF1 HO435.out BK438.out) (Kd.R_base ho0) hb) (aT (Kd.R_elder' (rF1 HO451.out BK438.out) (Kd.R_base ho0) hb) (aT (Kd.R_lower (Kd.R_new' (Kd.R_new' ho0 (Kd.R_lt (rF1 HO435.out BK438.out))) (Kd.R_lt (rF1 HO451.out BK438.out))) (below_size bS)) (aT (bF NB424_438 BK424 hb) (aT (blk_below (g := gb438) (o := .cells #[.int .i64 (rd t432 0), .int .i64 (rd t432 1), .int .i64 t440, .int .i64 t443, .int .i64 t444, .int .i64 t445, .slice Ao43 t448.length co43, .slice none 0 0] 28 (0, 0)) (bP BK438) hb) (aM (below_step bS hb))))))); clear HO430 HO435 HO451 BK424 BK438 HB; obtain ⟨HO430, HO435, HO451, HO456, BK424, BK438, HB⟩ := n_; (try clear hb); (try clear ho0); obtain ⟨Ao46, co46, eo46⟩ := Kd.R_slice HO456.out; subst eo46; obtain ⟨⟨hcz47_0, hcz47_1, hcz47_2, hcz47_3, hcz47_4, hcz47_5, hcz47_6, hcz47_7⟩, hfz47_0, hfz47_1, hfz47_2, hfz47_3, hfz47_4, hfz47_5, hfz47_6, hfz47_7⟩ := cF8 BK438) | ((with_reducible refine gC 6 rfl ?_); refine gL (some 80) Try.func6 #[.agg #[.int .i64 (rd t432 0), .int .i64 (rd t432 1), .int .i64 t440, .int .i64 t443, .int .i64 t444, .int .i64 t445, .slice Ao43 t448.length co43, .slice Ao46 t453.length co46], .int .i64 a1] ?_; (with_reducible refine (impl_ShowTicket.calls k (rd t432 0) (rd t432 1) t440 t443 t444 t445 _ _ t448 _ _ t453 a1 t457 _ ?side1 ?side2 ?side3 ?side4 A19.out).mono ?_); (case side1 => refine (Kd.R_reads' (e := 3) (base := w.heap.size) (ok := fun k_ => ((True ∧ some k_ ≠ (.slice (some ad436) t432.length co26 : Value).ownBlock) ∧ some k_ ≠ (.slice Ao46 t453.length co46 : Value).ownBlock)) (n := t448.length) (c := co43) ?_).2.2; exact (rF1 HO451.out BK438.out)); (case side2 => exact (Kd.R_reads' HO451.out).2.1); (case side3 => refine (Kd.R_reads' (e := 3) (base := w.heap.size) (ok := fun k_ => ((True ∧ some k_ ≠ (.slice (some ad436) t432.length co26 : Value).ownBlock) ∧ some k_ ≠ (.slice Ao43 t448.length co43 : Value).ownBlock)) (n := t453.length) (c := co46) ?_).2.2; exact (rF1 HO456.out BK438.out)); (case side4 => exact (Kd.R_reads' HO456.out).2.1); rintro e w48 ⟨rfl, hb⟩; refine ⟨_, rfl, ?_⟩; have n_ := aT (Kd.R_below (rF1 HO430.out BK438.out) hb) (aT (Kd.R_below (rF1 HO435.out BK438.out) hb) (aT (Kd.R_below (rF1 HO451.out BK438.out) hb) (aT (Kd.R_below (rF1 HO456.out BK438.out) hb) (aT (bF NB424_438 BK424 hb) (aT (blk_below (g := gb438) (o := .cells #[.int .i64 (rd t432 0), .int .i64 (rd t432 1), .int .i64 t440, .int .i64 t443, .int .i64 t444, .int .i64 t445, .slice Ao43 t448.length co43, .slice Ao46 t453.length co46] 28 (0, 0)) (bP BK438) hb) (aM (below_step bS hb))))))); clear HO430 HO435 HO451 HO456 BK424 BK438 HB; obtain ⟨HO430, HO435, HO451, HO456, BK424, BK438, HB⟩ := n_; (try clear hb); obtain ⟨⟨hcz49_0, hcz49_1, hcz49_2, hcz49_3, hcz49_4, hcz49_5, hcz49_6, hcz49_7⟩, hfz49_0, hfz49_1, hfz49_2, hfz49_3, hfz49_4, hfz49_5, hfz49_6, hfz49_7⟩ := cF8 BK438; obtain ⟨⟨hcz50_0, hcz50_1, hcz50_2, hcz50_3, hcz50_4, hcz50_5, hcz50_6, hcz50_7⟩, hfz50_0, hfz50_1, hfz50_2, hfz50_3, hfz50_4, hfz50_5, hfz50_6, hfz50_7⟩ := cF8 BK424))
           refine bodyPost_ret (results_ct rfl _ _ gb424 28 #[.int .i64 (rd t432 0), .int .i64 (rd t432 1), .int .i64 t440, .int .i64 t443, .int .i64 t444, .int .i64 t445, .slice Ao43 t448.length co43, .slice Ao46 t453.length co46] (0, 0) _ rfl (bP BK424) Try.underlying28 rfl (by kernel_rfl)) rfl ?_
           exact ⟨_, _, eE, (rM (Kd.R_far (p := ⟨gb424, 7, none⟩) (Kd.R_far (p := ⟨gb424, 6, none⟩) (Kd.R_far (p := ⟨gb424, 5, none⟩) (Kd.R_far (p := ⟨gb424, 4, none⟩) (Kd.R_far (p := ⟨gb424, 3, none⟩) (Kd.R_far (p := ⟨gb424, 2, none⟩) (Kd.R_far (p := ⟨gb424, 1, none⟩) (Kd.R_far (p := ⟨gb424, 0, none⟩) (Kd.R_types HO451.out BK424.out (by decide)) (fun _ hk => hk.2) (.int .i64 (rd t432 0))) (fun _ hk => hk.2) (.int .i64 (rd t432 1))) (fun _ hk => hk.2) (.int .i64 t440)) (fun _ hk => hk.2) (.int .i64 t443)) (fun _ hk => hk.2) (.int .i64 t444)) (fun _ hk => hk.2) (.int .i64 t445)) (fun _ hk => hk.2) (.slice Ao43 t448.length co43)) (fun _ hk => hk.2) (.slice Ao46 t453.length co46)) (fun _ hk => hk.1.2)), (rM (Kd.R_far (p := ⟨gb424, 7, none⟩) (Kd.R_far (p := ⟨gb424, 6, none⟩) (Kd.R_far (p := ⟨gb424, 5, none⟩) (Kd.R_far (p := ⟨gb424, 4, none⟩) (Kd.R_far (p := ⟨gb424, 3, none⟩) (Kd.R_far (p := ⟨gb424, 2, none⟩) (Kd.R_far (p := ⟨gb424, 1, none⟩) (Kd.R_far (p := ⟨gb424, 0, none⟩) (Kd.R_types HO456.out BK424.out (by decide)) (fun _ hk => hk.2) (.int .i64 (rd t432 0))) (fun _ hk => hk.2) (.int .i64 (rd t432 1))) (fun _ hk => hk.2) (.int .i64 t440)) (fun _ hk => hk.2) (.int .i64 t443)) (fun _ hk => hk.2) (.int .i64 t444)) (fun _ hk => hk.2) (.int .i64 t445)) (fun _ hk => hk.2) (.slice Ao43 t448.length co43)) (fun _ hk => hk.2) (.slice Ao46 t453.length co46)) (fun _ hk => hk.1.2)), bS⟩
          rw [if_neg c20] at H
          have c20b0 : (t457.toList == a0.toList) = false := beq_eq_false_iff_ne.mpr c20
          have c20b1 : (t457.toList != a0.toList) = true := bne_iff_ne.mpr c20
          simp only [Option.some.injEq, Prod.mk.injEq] at H
          obtain ⟨rfl, rfl, rfl, rfl, rfl, rfl, rfl, rfl, rfl⟩ := H
          go_enter Try.func7, Try.ntmps7
          try go_wp2_with (first | ((with_reducible refine gD 4 rfl ?_); refine bE #[.int .i64 0, .int .i64 0, .int .i64 0, .int .i64 0, .int .i64 0, .int .i64 0, .slice none 0 0, .slice none 0 0] 28 ?_; intro gb424 hg w51 hbox hb; have n_ := aT (below_step bH hb) (aT (hbox) (aT ((bZ hg : w.heap.size ≤ gb424)) (aM ((bZ hg : w.heap.size ≤ gb424))))); clear HB; obtain ⟨HB, BK424, GW424, GE424⟩ := n_; clear hb hbox hg) | ((with_reducible refine gC 30 rfl ?_); refine gL (some 16) Try.func30 #[.string a0, .int .i64 a1] ?_; (with_reducible refine (impl_Open.calls k a0 a1 t425 t426 _ A3.out).mono ?_); rintro e w52 ⟨rfl, hb⟩; refine ⟨_, rfl, ?_⟩; have n_ := aT (bB BK424 hb) (aM (below_step bS hb)); clear BK424 HB; obtain ⟨BK424, HB⟩ := n_; (try clear hb)) | ((with_reducible refine gC 31 rfl ?_); refine gL (some 21) Try.func31 #[.string t425] ?_; (with_reducible refine (impl_Parts.calls k t425 t427 t428 _ A4.out).mono ?_); rintro e w53 ⟨v429, rfl, ho0, hb⟩; refine ⟨_, rfl, ?_⟩; have n_ := aT (Kd.R_lower ho0 (below_size bS)) (aT (bB BK424 hb) (aM (below_step bS hb))); clear BK424 HB; obtain ⟨HO430, BK424, HB⟩ := n_; (try clear hb); (try clear ho0); obtain ⟨Ao54, co54, eo54⟩ := Kd.R_slice HO430.out; subst eo54; have p431 : 0 ≤ (0 : Int) := (by omega); have q431 : 0 < (t427.length : Int) := of_decide_eq_true aA; obtain ⟨ad431, e431, hx431_0⟩ := Kd.at_string (Kd.R_reads' HO430.out).2.2 0 p431 q431; cases e431; have qi431 : (0 < t427.length) = True := eq_true (by omega); (try rw [show ((0 : Int)).toNat = 0 from rfl] at hx431_0); (try rw [Addr.add_zero'] at hx431_0); replace p431 := eq_true p431; replace q431 := eq_true q431) | ((with_reducible refine gC 32 rfl ?_); refine gL (some 32) Try.func32 #[.string (rdOf ByteArray.empty t427 0)] ?_; (with_reducible refine (impl_ReadNums.calls k (rdOf ByteArray.empty t427 0) t432 t433 _ A7.out).mono ?_); rintro e w55 ⟨v434, rfl, ho0, hb⟩; refine ⟨_, rfl, ?_⟩; have n_ := aT (rB HO430 hb) (aT (Kd.R_lower ho0 (below_size bS)) (aT (bB BK424 hb) (aM (below_step bS hb)))); clear HO430 BK424 HB; obtain ⟨HO430, HO435, BK424, HB⟩ := n_; (try clear hb); (try clear ho0); obtain ⟨Ao56, co56, eo56⟩ := Kd.R_slice HO435.out; subst eo56))
          have n_ := aT (Kd.R_drew HO430.out) (aT (Kd.R_drew HO435.out) (aT (blk_drew BK424.out) (aM (below_drew1 HB.out))))
          clear HO430 HO435 BK424 HB
          obtain ⟨HO430, HO435, BK424, HB⟩ := n_
          have p436 : 0 ≤ (0 : Int) := (by omega)
          have q436 : 0 < (t432.length : Int) := of_decide_eq_true aA
          obtain ⟨ad436, e436, hx436_0⟩ := Kd.at_int (Kd.R_reads' HO435.out).2.2 0 p436 q436
          cases e436
          have qi436 : (0 < t432.length) = True := eq_true (by omega)
          (try rw [show ((0 : Int)).toNat = 0 from rfl] at hx436_0)
          (try rw [Addr.add_zero'] at hx436_0)
          replace p436 := eq_true p436
          replace q436 := eq_true q436
          have p437 : 0 ≤ (1 : Int) := (by omega)
          have q437 : 1 < (t432.length : Int) := of_decide_eq_true aA
          obtain ⟨ad437, e437, hx437_0⟩ := Kd.at_int (Kd.R_reads' HO435.out).2.2 1 p437 q437
          obtain rfl : ad436 = ad437 := (by injection e437)
          (try simp only [show (1 : Int).toNat = 1 from rfl, Nat.reduceMul, Nat.reduceEqDiff, Go.Addr.add, ↓reduceIte] at hx437_0)
          have qi437 : (1 < t432.length) = True := eq_true (by omega)
          (try rw [show ((1 : Int)).toNat = 1 from rfl] at hx437_0)
          replace p437 := eq_true p437
          replace q437 := eq_true q437
          refine start_ (n := 9) (S := fun w' => w'.cell? ad436 = some (.int .i64 (rd t432 0)) ∧ w'.cell? ⟨ad436.block, ad436.off + 1, none⟩ = some (.int .i64 (rd t432 1))) (ds := []) _ (by kernel_rfl) rfl rfl ⟨hx436_0, hx437_0⟩ (fun hHeld => ?_); refine with_tabW impl_ReadTicket.tab8 impl_ReadTicket.bits8 (fun HT_ HW_ => ?_)
          generalize w55.drew = w57 at HO430 HO435 BK424 HB hx436_0 hx437_0 hHeld ⊢
          refine pU HT_ 0 (some 39) (mk 9 1) rfl rfl (h := ?_)
          refine pU HT_ 1 (some 40) (mk 9 3) rfl rfl (h := ?_)
          refine pU HT_ 3 (some 42) (mk 9 11) rfl rfl (h := ?_)
          refine pU HT_ 4 (some 43) (mk 9 27) rfl rfl (h := ?_)
          refine tU HT_ HW_ 2 (some 41) (mk 9 31) hHeld rfl rfl (by rintro w' ⟨s0, s1⟩; go_simp; with_reducible rfl) (h := ?_)
          refine tU HT_ HW_ 5 (some 44) (mk 9 63) hHeld rfl rfl (by rintro w' ⟨s0, s1⟩; go_simp; with_reducible rfl) (h := ?_)
          refine pU HT_ 6 (some 45) (mk 9 127) rfl rfl (h := ?_)
          refine one_ (i := 7) (N := some 12) (mk 9 255) rfl rfl (one_of HT_.out (by kernel_rfl)) (by decide) (fun K hK => ?_)
          refine box_step ?hg (N := 12) ?hd (cs := #[.int .i64 0, .int .i64 0, .int .i64 0, .int .i64 0, .int .i64 0, .int .i64 0, .slice none 0 0, .slice none 0 0]) (t := 28) ?hr ?_; (case hd => rfl); (case hg => rfl); (case hr => first | (go_simp; done) | (go_simp; rfl))
          intro gb438 hg w58 hbox hb
          have HS0_ := (hb.cell (World.block_lt_of_cell? _ _ (hHeld.1))).trans (hHeld.1)
          have HS1_ := (hb.cell (World.block_lt_of_cell? _ _ (hHeld.2))).trans (hHeld.2)
          have n0_ := Aside0.mk (rB HO430 hb)
          have n1_ := Aside0.mk (rB HO435 hb)
          have n2_ := Aside0.mk (bB BK424 hb)
          have n3_ := Aside0.mk (below_step bS hb)
          have n4_ := Aside0.mk (hbox)
          have n5_ := Aside0.mk ((bZ hg : w.heap.size ≤ gb438))
          have n6_ := Aside0.mk ((bZ hg : w.heap.size ≤ gb438))
          have n7_ := Aside0.mk (lB hg BK424)
          have n8_ := Aside0.mk (gB hg BK424)
          clear HO430 HO435 BK424 HB
          have HO430 := n0_
          have HO435 := n1_
          have BK424 := n2_
          have HB := n3_
          have BK438 := n4_
          have GW438 := n5_
          have GE438 := n6_
          have NB424_438 := n7_
          have NB438_424 := n8_
          clear n0_ n1_ n2_ n3_ n4_ n5_ n6_ n7_ n8_ hb hbox hg
          refine hK.out _ _ ⟨HS0_, HS1_⟩ (fun hHeld => ?_)
          clear hK K
          refine nO (some 12) (h := ?_)
          refine one_ (i := 8) (N := none) (mk 9 511) rfl rfl (one_of HT_.out (by kernel_rfl)) (by decide) (fun K hK => ?_)
          have hs59 : w58.cell? ⟨gb438, 0, none⟩ = some (.int .i64 0) := (blk_cell BK438.out 0).trans rfl
          have hfs59 := blk_frozen BK438.out 0
          have hns59_0 := NB424_438.out
          have hms59_0 := NB438_424.out
          have hs60 : w58.cell? ⟨gb438, 1, none⟩ = some (.int .i64 0) := (blk_cell BK438.out 1).trans rfl
          have hfs60 := blk_frozen BK438.out 1
          have hns60_0 := NB424_438.out
          have hms60_0 := NB438_424.out
          have hs61 : w58.cell? ⟨gb438, 2, none⟩ = some (.int .i64 0) := (blk_cell BK438.out 2).trans rfl
          have hfs61 := blk_frozen BK438.out 2
          have hns61_0 := NB424_438.out
          have hms61_0 := NB438_424.out
          have hs62 : w58.cell? ⟨gb438, 3, none⟩ = some (.int .i64 0) := (blk_cell BK438.out 3).trans rfl
          have hfs62 := blk_frozen BK438.out 3
          have hns62_0 := NB424_438.out
          have hms62_0 := NB438_424.out
          have hs63 : w58.cell? ⟨gb438, 4, none⟩ = some (.int .i64 0) := (blk_cell BK438.out 4).trans rfl
          have hfs63 := blk_frozen BK438.out 4
          have hns63_0 := NB424_438.out
          have hms63_0 := NB438_424.out
          have hs64 : w58.cell? ⟨gb438, 5, none⟩ = some (.int .i64 0) := (blk_cell BK438.out 5).trans rfl
          have hfs64 := blk_frozen BK438.out 5
          have hns64_0 := NB424_438.out
          have hms64_0 := NB438_424.out
          have hs65 : w58.cell? ⟨gb438, 6, none⟩ = some (.slice none 0 0) := (blk_cell BK438.out 6).trans rfl
          have hfs65 := blk_frozen BK438.out 6
          have hns65_0 := NB424_438.out
          have hms65_0 := NB438_424.out
          have hs66 : w58.cell? ⟨gb438, 7, none⟩ = some (.slice none 0 0) := (blk_cell BK438.out 7).trans rfl
          have hfs66 := blk_frozen BK438.out 7
          have hns66_0 := NB424_438.out
          have hms66_0 := NB438_424.out
          refine skip_ (w1 := ?_) (by rfl) rfl ?_ ?_
          rotate_left
          ·go_simp
           rfl
          refine hK.out _ _ ⟨((cell_far (p := ⟨gb438, _, none⟩) (oN HO435 BK438) _).trans (((cell_far (p := ⟨gb438, _, none⟩) (oN HO435 BK438) _).trans (((cell_far (p := ⟨gb438, _, none⟩) (oN HO435 BK438) _).trans (((cell_far (p := ⟨gb438, _, none⟩) (oN HO435 BK438) _).trans (((cell_far (p := ⟨gb438, _, none⟩) (oN HO435 BK438) _).trans (((cell_far (p := ⟨gb438, _, none⟩) (oN HO435 BK438) _).trans (((cell_far (p := ⟨gb438, _, none⟩) (oN HO435 BK438) _).trans (((cell_far (p := ⟨gb438, _, none⟩) (oN HO435 BK438) _).trans (hHeld.1)))))))))))))))), ((cell_far (p := ⟨gb438, _, none⟩) (oN HO435 BK438) _).trans (((cell_far (p := ⟨gb438, _, none⟩) (oN HO435 BK438) _).trans (((cell_far (p := ⟨gb438, _, none⟩) (oN HO435 BK438) _).trans (((cell_far (p := ⟨gb438, _, none⟩) (oN HO435 BK438) _).trans (((cell_far (p := ⟨gb438, _, none⟩) (oN HO435 BK438) _).trans (((cell_far (p := ⟨gb438, _, none⟩) (oN HO435 BK438) _).trans (((cell_far (p := ⟨gb438, _, none⟩) (oN HO435 BK438) _).trans (((cell_far (p := ⟨gb438, _, none⟩) (oN HO435 BK438) _).trans (hHeld.2))))))))))))))))⟩ (fun hHeld => ?_)
          clear hK K
          refine done_ (done_of HT_.out (by kernel_rfl)) ?_
          have p439 : 0 ≤ (1 : Int) := (by omega)
          have q439 : 1 < (t427.length : Int) := of_decide_eq_true aA
          obtain ⟨ad439, e439, hx439_0⟩ := Kd.at_string (Kd.R_reads' HO430.out).2.2 1 p439 q439
          obtain rfl : ad431 = ad439 := (by injection e439)
          (try simp only [show (1 : Int).toNat = 1 from rfl, Nat.reduceMul, Nat.reduceEqDiff, Go.Addr.add, ↓reduceIte] at hx439_0)
          have qi439 : (1 < t427.length) = True := eq_true (by omega)
          (try rw [show ((1 : Int)).toNat = 1 from rfl] at hx439_0)
          have hn439_0 : ad431.block ≠ gb438 := Kd.own_blk (Kd.R_ne HO430.out BK438.out (by decide))
          have hn439_1 : ad431.block ≠ gb438 := Kd.own_blk (Kd.R_ne HO430.out BK438.out (by decide))
          have hn439_2 : ad431.block ≠ gb438 := Kd.own_blk (Kd.R_ne HO430.out BK438.out (by decide))
          have hn439_3 : ad431.block ≠ gb438 := Kd.own_blk (Kd.R_ne HO430.out BK438.out (by decide))
          have hn439_4 : ad431.block ≠ gb438 := Kd.own_blk (Kd.R_ne HO430.out BK438.out (by decide))
          have hn439_5 : ad431.block ≠ gb438 := Kd.own_blk (Kd.R_ne HO430.out BK438.out (by decide))
          have hn439_6 : ad431.block ≠ gb438 := Kd.own_blk (Kd.R_ne HO430.out BK438.out (by decide))
          have hn439_7 : ad431.block ≠ gb438 := Kd.own_blk (Kd.R_ne HO430.out BK438.out (by decide))
          replace hx439_0 := (cell_far (p := ⟨gb438, 0, none⟩) (by first | (rw [add_block]; exact hn439_0) | (show (Addr.add _ _).block ≠ _; rw [add_block]; exact hn439_0) | exact hn439_0) (.int .i64 (rd t432 0))).trans hx439_0
          replace hx439_0 := (cell_far (p := ⟨gb438, 1, none⟩) (by first | (rw [add_block]; exact hn439_1) | (show (Addr.add _ _).block ≠ _; rw [add_block]; exact hn439_1) | exact hn439_1) (.int .i64 (rd t432 1))).trans hx439_0
          replace hx439_0 := (cell_far (p := ⟨gb438, 2, none⟩) (by first | (rw [add_block]; exact hn439_2) | (show (Addr.add _ _).block ≠ _; rw [add_block]; exact hn439_2) | exact hn439_2) (.int .i64 0)).trans hx439_0
          replace hx439_0 := (cell_far (p := ⟨gb438, 3, none⟩) (by first | (rw [add_block]; exact hn439_3) | (show (Addr.add _ _).block ≠ _; rw [add_block]; exact hn439_3) | exact hn439_3) (.int .i64 0)).trans hx439_0
          replace hx439_0 := (cell_far (p := ⟨gb438, 4, none⟩) (by first | (rw [add_block]; exact hn439_4) | (show (Addr.add _ _).block ≠ _; rw [add_block]; exact hn439_4) | exact hn439_4) (.int .i64 0)).trans hx439_0
          replace hx439_0 := (cell_far (p := ⟨gb438, 5, none⟩) (by first | (rw [add_block]; exact hn439_5) | (show (Addr.add _ _).block ≠ _; rw [add_block]; exact hn439_5) | exact hn439_5) (.int .i64 0)).trans hx439_0
          replace hx439_0 := (cell_far (p := ⟨gb438, 6, none⟩) (by first | (rw [add_block]; exact hn439_6) | (show (Addr.add _ _).block ≠ _; rw [add_block]; exact hn439_6) | exact hn439_6) (.slice none 0 0)).trans hx439_0
          replace hx439_0 := (cell_far (p := ⟨gb438, 7, none⟩) (by first | (rw [add_block]; exact hn439_7) | (show (Addr.add _ _).block ≠ _; rw [add_block]; exact hn439_7) | exact hn439_7) (.slice none 0 0)).trans hx439_0
          clear hn439_0 hn439_1 hn439_2 hn439_3 hn439_4 hn439_5 hn439_6 hn439_7
          replace p439 := eq_true p439
          replace q439 := eq_true q439
          try go_wp2_with (first | ((with_reducible refine gC 33 rfl ?_); refine gL (some 50) Try.func33 #[.string (rdOf ByteArray.empty t427 1)] ?_; (with_reducible refine (impl_ReadKey.calls k (rdOf ByteArray.empty t427 1) t440 t441 _ A12.out).mono ?_); rintro e w67 ⟨rfl, hb⟩; refine ⟨_, rfl, ?_⟩; have n_ := aT (Kd.R_below (rF8 HO430.out BK438.out) hb) (aT (Kd.R_below (rF8 HO435.out BK438.out) hb) (aT (bF NB424_438 BK424 hb) (aT (blk_below (g := gb438) (o := .cells #[.int .i64 (rd t432 0), .int .i64 (rd t432 1), .int .i64 0, .int .i64 0, .int .i64 0, .int .i64 0, .slice none 0 0, .slice none 0 0] 28 (0, 0)) (bP BK438) hb) (aM (below_step bS hb))))); clear HO430 HO435 BK424 BK438 HB; obtain ⟨HO430, HO435, BK424, BK438, HB⟩ := n_; (try clear hb); have hnb68 := NB438_424.out; have hnc68 := NB424_438.out; obtain ⟨⟨hcz69_0, hcz69_1, hcz69_2, hcz69_3, hcz69_4, hcz69_5, hcz69_6, hcz69_7⟩, hfz69_0, hfz69_1, hfz69_2, hfz69_3, hfz69_4, hfz69_5, hfz69_6, hfz69_7⟩ := cF8 BK438; have p442 : 0 ≤ (2 : Int) := (by omega); have q442 : 2 < (t427.length : Int) := of_decide_eq_true aA; obtain ⟨ad442, e442, hx442_0⟩ := Kd.at_string (Kd.R_reads' HO430.out).2.2 2 p442 q442; obtain rfl : ad431 = ad442 := (by injection e442); (try simp only [show (2 : Int).toNat = 2 from rfl, Nat.reduceMul, Nat.reduceEqDiff, Go.Addr.add, ↓reduceIte] at hx442_0); have qi442 : (2 < t427.length) = True := eq_true (by omega); (try rw [show ((2 : Int)).toNat = 2 from rfl] at hx442_0); have hn442_0 : ad431.block ≠ gb438 := Kd.own_blk (Kd.R_ne HO430.out BK438.out (by decide)); replace hx442_0 := (cell_far (p := ⟨gb438, 2, none⟩) (by first | (rw [add_block]; exact hn442_0) | (show (Addr.add _ _).block ≠ _; rw [add_block]; exact hn442_0) | exact hn442_0) (.int .i64 t440)).trans hx442_0; clear hn442_0; replace p442 := eq_true p442; replace q442 := eq_true q442) | ((with_reducible refine gC 19 rfl ?_); refine gL (some 58) Try.func19 #[.string (rdOf ByteArray.empty t427 2)] ?_; (with_reducible refine (impl_ReadRest.calls k (rdOf ByteArray.empty t427 2) t443 t444 t445 t446 _ A14.out).mono ?_); rintro e w70 ⟨rfl, hb⟩; refine ⟨_, rfl, ?_⟩; have n_ := aT (Kd.R_below (rF1 HO430.out BK438.out) hb) (aT (Kd.R_below (rF1 HO435.out BK438.out) hb) (aT (bF NB424_438 BK424 hb) (aT (blk_below (g := gb438) (o := .cells #[.int .i64 (rd t432 0), .int .i64 (rd t432 1), .int .i64 t440, .int .i64 0, .int .i64 0, .int .i64 0, .slice none 0 0, .slice none 0 0] 28 (0, 0)) (bP BK438) hb) (aM (below_step bS hb))))); clear HO430 HO435 BK424 BK438 HB; obtain ⟨HO430, HO435, BK424, BK438, HB⟩ := n_; (try clear hb); obtain ⟨⟨hcz71_0, hcz71_1, hcz71_2, hcz71_3, hcz71_4, hcz71_5, hcz71_6, hcz71_7⟩, hfz71_0, hfz71_1, hfz71_2, hfz71_3, hfz71_4, hfz71_5, hfz71_6, hfz71_7⟩ := cF8 BK438; have p447 : 0 ≤ (3 : Int) := (by omega); have q447 : 3 < (t427.length : Int) := of_decide_eq_true aA; obtain ⟨ad447, e447, hx447_0⟩ := Kd.at_string (Kd.R_reads' HO430.out).2.2 3 p447 q447; obtain rfl : ad431 = ad447 := (by injection e447); (try simp only [show (3 : Int).toNat = 3 from rfl, Nat.reduceMul, Nat.reduceEqDiff, Go.Addr.add, ↓reduceIte] at hx447_0); have qi447 : (3 < t427.length) = True := eq_true (by omega); (try rw [show ((3 : Int)).toNat = 3 from rfl] at hx447_0); have hn447_0 : ad431.block ≠ gb438 := Kd.own_blk (Kd.R_ne HO430.out BK438.out (by decide)); have hn447_1 : ad431.block ≠ gb438 := Kd.own_blk (Kd.R_ne HO430.out BK438.out (by decide)); have hn447_2 : ad431.block ≠ gb438 := Kd.own_blk (Kd.R_ne HO430.out BK438.out (by decide)); replace hx447_0 := (cell_far (p := ⟨gb438, 3, none⟩) (by first | (rw [add_block]; exact hn447_0) | (show (Addr.add _ _).block ≠ _; rw [add_block]; exact hn447_0) | exact hn447_0) (.int .i64 t443)).trans hx447_0; replace hx447_0 := (cell_far (p := ⟨gb438, 4, none⟩) (by first | (rw [add_block]; exact hn447_1) | (show (Addr.add _ _).block ≠ _; rw [add_block]; exact hn447_1) | exact hn447_1) (.int .i64 t444)).trans hx447_0; replace hx447_0 := (cell_far (p := ⟨gb438, 5, none⟩) (by first | (rw [add_block]; exact hn447_2) | (show (Addr.add _ _).block ≠ _; rw [add_block]; exact hn447_2) | exact hn447_2) (.int .i64 t445)).trans hx447_0; clear hn447_0; clear hn447_1; clear hn447_2; replace p447 := eq_true p447; replace q447 := eq_true q447) | ((with_reducible refine gC 32 rfl ?_); refine gL (some 66) Try.func32 #[.string (rdOf ByteArray.empty t427 3)] ?_; (with_reducible refine (impl_ReadNums.calls k (rdOf ByteArray.empty t427 3) t448 t449 _ A16.out).mono ?_); rintro e w72 ⟨v450, rfl, ho0, hb⟩; refine ⟨_, rfl, ?_⟩; have n_ := aT (Kd.R_below (rF3 HO430.out BK438.out) hb) (aT (Kd.R_elder' (rF3 HO435.out BK438.out) (Kd.R_base ho0) hb) (aT (Kd.R_lower (Kd.R_new' ho0 (Kd.R_lt (rF3 HO435.out BK438.out))) (below_size bS)) (aT (bF NB424_438 BK424 hb) (aT (blk_below (g := gb438) (o := .cells #[.int .i64 (rd t432 0), .int .i64 (rd t432 1), .int .i64 t440, .int .i64 t443, .int .i64 t444, .int .i64 t445, .slice none 0 0, .slice none 0 0] 28 (0, 0)) (bP BK438) hb) (aM (below_step bS hb)))))); clear HO430 HO435 BK424 BK438 HB; obtain ⟨HO430, HO435, HO451, BK424, BK438, HB⟩ := n_; (try clear hb); (try clear ho0); obtain ⟨Ao73, co73, eo73⟩ := Kd.R_slice HO451.out; subst eo73; obtain ⟨⟨hcz74_0, hcz74_1, hcz74_2, hcz74_3, hcz74_4, hcz74_5, hcz74_6, hcz74_7⟩, hfz74_0, hfz74_1, hfz74_2, hfz74_3, hfz74_4, hfz74_5, hfz74_6, hfz74_7⟩ := cF8 BK438; have p452 : 0 ≤ (4 : Int) := (by omega); have q452 : 4 < (t427.length : Int) := of_decide_eq_true aA; obtain ⟨ad452, e452, hx452_0⟩ := Kd.at_string (Kd.R_reads' HO430.out).2.2 4 p452 q452; obtain rfl : ad431 = ad452 := (by injection e452); (try simp only [show (4 : Int).toNat = 4 from rfl, Nat.reduceMul, Nat.reduceEqDiff, Go.Addr.add, ↓reduceIte] at hx452_0); have qi452 : (4 < t427.length) = True := eq_true (by omega); (try rw [show ((4 : Int)).toNat = 4 from rfl] at hx452_0); have hn452_0 : ad431.block ≠ gb438 := Kd.own_blk (Kd.R_ne HO430.out BK438.out (by decide)); replace hx452_0 := (cell_far (p := ⟨gb438, 6, none⟩) (by first | (rw [add_block]; exact hn452_0) | (show (Addr.add _ _).block ≠ _; rw [add_block]; exact hn452_0) | exact hn452_0) (.slice Ao73 t448.length co73)).trans hx452_0; clear hn452_0; replace p452 := eq_true p452; replace q452 := eq_true q452) | ((with_reducible refine gC 32 rfl ?_); refine gL (some 74) Try.func32 #[.string (rdOf ByteArray.empty t427 4)] ?_; (with_reducible refine (impl_ReadNums.calls k (rdOf ByteArray.empty t427 4) t453 t454 _ A18.out).mono ?_); rintro e w75 ⟨v455, rfl, ho0, hb⟩; refine ⟨_, rfl, ?_⟩; have n_ := aT (Kd.R_below (rF1 HO430.out BK438.out) hb) (aT (Kd.R_elder' (rF1 HO435.out BK438.out) (Kd.R_base ho0) hb) (aT (Kd.R_elder' (rF1 HO451.out BK438.out) (Kd.R_base ho0) hb) (aT (Kd.R_lower (Kd.R_new' (Kd.R_new' ho0 (Kd.R_lt (rF1 HO435.out BK438.out))) (Kd.R_lt (rF1 HO451.out BK438.out))) (below_size bS)) (aT (bF NB424_438 BK424 hb) (aT (blk_below (g := gb438) (o := .cells #[.int .i64 (rd t432 0), .int .i64 (rd t432 1), .int .i64 t440, .int .i64 t443, .int .i64 t444, .int .i64 t445, .slice Ao73 t448.length co73, .slice none 0 0] 28 (0, 0)) (bP BK438) hb) (aM (below_step bS hb))))))); clear HO430 HO435 HO451 BK424 BK438 HB; obtain ⟨HO430, HO435, HO451, HO456, BK424, BK438, HB⟩ := n_; (try clear hb); (try clear ho0); obtain ⟨Ao76, co76, eo76⟩ := Kd.R_slice HO456.out; subst eo76; obtain ⟨⟨hcz77_0, hcz77_1, hcz77_2, hcz77_3, hcz77_4, hcz77_5, hcz77_6, hcz77_7⟩, hfz77_0, hfz77_1, hfz77_2, hfz77_3, hfz77_4, hfz77_5, hfz77_6, hfz77_7⟩ := cF8 BK438) | ((with_reducible refine gC 6 rfl ?_); refine gL (some 80) Try.func6 #[.agg #[.int .i64 (rd t432 0), .int .i64 (rd t432 1), .int .i64 t440, .int .i64 t443, .int .i64 t444, .int .i64 t445, .slice Ao73 t448.length co73, .slice Ao76 t453.length co76], .int .i64 a1] ?_; (with_reducible refine (impl_ShowTicket.calls k (rd t432 0) (rd t432 1) t440 t443 t444 t445 _ _ t448 _ _ t453 a1 t457 _ ?side1 ?side2 ?side3 ?side4 A19.out).mono ?_); (case side1 => refine (Kd.R_reads' (e := 3) (base := w.heap.size) (ok := fun k_ => ((True ∧ some k_ ≠ (.slice (some ad436) t432.length co56 : Value).ownBlock) ∧ some k_ ≠ (.slice Ao76 t453.length co76 : Value).ownBlock)) (n := t448.length) (c := co73) ?_).2.2; exact (rF1 HO451.out BK438.out)); (case side2 => exact (Kd.R_reads' HO451.out).2.1); (case side3 => refine (Kd.R_reads' (e := 3) (base := w.heap.size) (ok := fun k_ => ((True ∧ some k_ ≠ (.slice (some ad436) t432.length co56 : Value).ownBlock) ∧ some k_ ≠ (.slice Ao73 t448.length co73 : Value).ownBlock)) (n := t453.length) (c := co76) ?_).2.2; exact (rF1 HO456.out BK438.out)); (case side4 => exact (Kd.R_reads' HO456.out).2.1); rintro e w78 ⟨rfl, hb⟩; refine ⟨_, rfl, ?_⟩; have n_ := aT (Kd.R_below (rF1 HO430.out BK438.out) hb) (aT (Kd.R_below (rF1 HO435.out BK438.out) hb) (aT (Kd.R_below (rF1 HO451.out BK438.out) hb) (aT (Kd.R_below (rF1 HO456.out BK438.out) hb) (aT (bF NB424_438 BK424 hb) (aT (blk_below (g := gb438) (o := .cells #[.int .i64 (rd t432 0), .int .i64 (rd t432 1), .int .i64 t440, .int .i64 t443, .int .i64 t444, .int .i64 t445, .slice Ao73 t448.length co73, .slice Ao76 t453.length co76] 28 (0, 0)) (bP BK438) hb) (aM (below_step bS hb))))))); clear HO430 HO435 HO451 HO456 BK424 BK438 HB; obtain ⟨HO430, HO435, HO451, HO456, BK424, BK438, HB⟩ := n_; (try clear hb); obtain ⟨⟨hcz79_0, hcz79_1, hcz79_2, hcz79_3, hcz79_4, hcz79_5, hcz79_6, hcz79_7⟩, hfz79_0, hfz79_1, hfz79_2, hfz79_3, hfz79_4, hfz79_5, hfz79_6, hfz79_7⟩ := cF8 BK424))
          refine bodyPost_ret (results_ct rfl _ _ gb424 28 #[.int .i64 0, .int .i64 0, .int .i64 0, .int .i64 0, .int .i64 0, .int .i64 0, .slice none 0 0, .slice none 0 0] (0, 0) _ rfl (bP BK424) Try.underlying28 rfl (by kernel_rfl)) rfl ?_
          exact ⟨_, _, eE, (by first | exact Kd.R_nil _ _ _ _ _ | exact Kd.N_nil _ _ _ _ _ | exact Kd.V_nil _ _ _ _ _ | exact Kd.Q_nil _ _ _ _ _ | exact Kd.S_nil _ _ _ _ _), (by first | exact Kd.R_nil _ _ _ _ _ | exact Kd.N_nil _ _ _ _ _ | exact Kd.V_nil _ _ _ _ _ | exact Kd.Q_nil _ _ _ _ _ | exact Kd.S_nil _ _ _ _ _), bS⟩
         rw [if_neg c17] at H
         exact absurd H (by simp)
        rw [if_neg c15] at H
        exact absurd H (by simp)
       rw [if_neg c13] at H
       exact absurd H (by simp)
      rw [if_neg c11] at H
      exact absurd H (by simp)
     rw [if_neg c10] at H
     exact absurd H (by simp)
    rw [if_neg c9] at H
    exact absurd H (by simp)
   rw [if_neg c8] at H
   have c8b0 : ((t432.length : Int) == 2) = false := beq_eq_false_iff_ne.mpr c8
   have c8b1 : ((t432.length : Int) != 2) = true := bne_iff_ne.mpr c8
   simp only [Option.some.injEq, Prod.mk.injEq] at H
   obtain ⟨rfl, rfl, rfl, rfl, rfl, rfl, rfl, rfl, rfl⟩ := H
   go_enter Try.func7, Try.ntmps7
   go_wp2_with (first | ((with_reducible refine gD 4 rfl ?_); refine bE #[.int .i64 0, .int .i64 0, .int .i64 0, .int .i64 0, .int .i64 0, .int .i64 0, .slice none 0 0, .slice none 0 0] 28 ?_; intro gb424 hg w80 hbox hb; have n_ := aT (below_step bH hb) (aT (hbox) (aT ((bZ hg : w.heap.size ≤ gb424)) (aM ((bZ hg : w.heap.size ≤ gb424))))); clear HB; obtain ⟨HB, BK424, GW424, GE424⟩ := n_; clear hb hbox hg) | ((with_reducible refine gC 30 rfl ?_); refine gL (some 16) Try.func30 #[.string a0, .int .i64 a1] ?_; (with_reducible refine (impl_Open.calls k a0 a1 t425 t426 _ A3.out).mono ?_); rintro e w81 ⟨rfl, hb⟩; refine ⟨_, rfl, ?_⟩; have n_ := aT (bB BK424 hb) (aM (below_step bS hb)); clear BK424 HB; obtain ⟨BK424, HB⟩ := n_; (try clear hb)) | ((with_reducible refine gC 31 rfl ?_); refine gL (some 21) Try.func31 #[.string t425] ?_; (with_reducible refine (impl_Parts.calls k t425 t427 t428 _ A4.out).mono ?_); rintro e w82 ⟨v429, rfl, ho0, hb⟩; refine ⟨_, rfl, ?_⟩; have n_ := aT (Kd.R_lower ho0 (below_size bS)) (aT (bB BK424 hb) (aM (below_step bS hb))); clear BK424 HB; obtain ⟨HO430, BK424, HB⟩ := n_; (try clear hb); (try clear ho0); obtain ⟨Ao83, co83, eo83⟩ := Kd.R_slice HO430.out; subst eo83; have p431 : 0 ≤ (0 : Int) := (by omega); have q431 : 0 < (t427.length : Int) := of_decide_eq_true aA; obtain ⟨ad431, e431, hx431_0⟩ := Kd.at_string (Kd.R_reads' HO430.out).2.2 0 p431 q431; cases e431; have qi431 : (0 < t427.length) = True := eq_true (by omega); (try rw [show ((0 : Int)).toNat = 0 from rfl] at hx431_0); (try rw [Addr.add_zero'] at hx431_0); replace p431 := eq_true p431; replace q431 := eq_true q431) | ((with_reducible refine gC 32 rfl ?_); refine gL (some 32) Try.func32 #[.string (rdOf ByteArray.empty t427 0)] ?_; (with_reducible refine (impl_ReadNums.calls k (rdOf ByteArray.empty t427 0) t432 t433 _ A7.out).mono ?_); rintro e w84 ⟨v434, rfl, ho0, hb⟩; refine ⟨_, rfl, ?_⟩; have n_ := aT (rB HO430 hb) (aT (Kd.R_lower ho0 (below_size bS)) (aT (bB BK424 hb) (aM (below_step bS hb)))); clear HO430 BK424 HB; obtain ⟨HO430, HO435, BK424, HB⟩ := n_; (try clear hb); (try clear ho0); obtain ⟨Ao85, co85, eo85⟩ := Kd.R_slice HO435.out; subst eo85; obtain ⟨⟨hcz86_0, hcz86_1, hcz86_2, hcz86_3, hcz86_4, hcz86_5, hcz86_6, hcz86_7⟩, hfz86_0, hfz86_1, hfz86_2, hfz86_3, hfz86_4, hfz86_5, hfz86_6, hfz86_7⟩ := cF8 BK424))
   refine bodyPost_ret (results_ct rfl _ _ gb424 28 #[.int .i64 0, .int .i64 0, .int .i64 0, .int .i64 0, .int .i64 0, .int .i64 0, .slice none 0 0, .slice none 0 0] (0, 0) _ rfl (bP BK424) Try.underlying28 rfl (by kernel_rfl)) rfl ?_
   exact ⟨_, _, eE, (by first | exact Kd.R_nil _ _ _ _ _ | exact Kd.N_nil _ _ _ _ _ | exact Kd.V_nil _ _ _ _ _ | exact Kd.Q_nil _ _ _ _ _ | exact Kd.S_nil _ _ _ _ _), (by first | exact Kd.R_nil _ _ _ _ _ | exact Kd.N_nil _ _ _ _ _ | exact Kd.V_nil _ _ _ _ _ | exact Kd.Q_nil _ _ _ _ _ | exact Kd.S_nil _ _ _ _ _), bS⟩
  rw [if_neg c6] at H
  exact absurd H (by simp)
 rw [if_neg c5] at H
 have c5b0 : ((t427.length : Int) == 5) = false := beq_eq_false_iff_ne.mpr c5
 have c5b1 : ((t427.length : Int) != 5) = true := bne_iff_ne.mpr c5
 simp only [Option.some.injEq, Prod.mk.injEq] at H
 obtain ⟨rfl, rfl, rfl, rfl, rfl, rfl, rfl, rfl, rfl⟩ := H
 go_enter Try.func7, Try.ntmps7
 go_wp2_with (first | ((with_reducible refine gD 4 rfl ?_); refine bE #[.int .i64 0, .int .i64 0, .int .i64 0, .int .i64 0, .int .i64 0, .int .i64 0, .slice none 0 0, .slice none 0 0] 28 ?_; intro gb424 hg w87 hbox hb; have n_ := aT (below_step bH hb) (aT (hbox) (aT ((bZ hg : w.heap.size ≤ gb424)) (aM ((bZ hg : w.heap.size ≤ gb424))))); clear HB; obtain ⟨HB, BK424, GW424, GE424⟩ := n_; clear hb hbox hg) | ((with_reducible refine gC 30 rfl ?_); refine gL (some 16) Try.func30 #[.string a0, .int .i64 a1] ?_; (with_reducible refine (impl_Open.calls k a0 a1 t425 t426 _ A3.out).mono ?_); rintro e w88 ⟨rfl, hb⟩; refine ⟨_, rfl, ?_⟩; have n_ := aT (bB BK424 hb) (aM (below_step bS hb)); clear BK424 HB; obtain ⟨BK424, HB⟩ := n_; (try clear hb)) | ((with_reducible refine gC 31 rfl ?_); refine gL (some 21) Try.func31 #[.string t425] ?_; (with_reducible refine (impl_Parts.calls k t425 t427 t428 _ A4.out).mono ?_); rintro e w89 ⟨v429, rfl, ho0, hb⟩; refine ⟨_, rfl, ?_⟩; have n_ := aT (Kd.R_lower ho0 (below_size bS)) (aT (bB BK424 hb) (aM (below_step bS hb))); clear BK424 HB; obtain ⟨HO430, BK424, HB⟩ := n_; (try clear hb); (try clear ho0); obtain ⟨Ao90, co90, eo90⟩ := Kd.R_slice HO430.out; subst eo90; obtain ⟨⟨hcz91_0, hcz91_1, hcz91_2, hcz91_3, hcz91_4, hcz91_5, hcz91_6, hcz91_7⟩, hfz91_0, hfz91_1, hfz91_2, hfz91_3, hfz91_4, hfz91_5, hfz91_6, hfz91_7⟩ := cF8 BK424))
 refine bodyPost_ret (results_ct rfl _ _ gb424 28 #[.int .i64 0, .int .i64 0, .int .i64 0, .int .i64 0, .int .i64 0, .int .i64 0, .slice none 0 0, .slice none 0 0] (0, 0) _ rfl (bP BK424) Try.underlying28 rfl (by kernel_rfl)) rfl ?_
 exact ⟨_, _, eE, (by first | exact Kd.R_nil _ _ _ _ _ | exact Kd.N_nil _ _ _ _ _ | exact Kd.V_nil _ _ _ _ _ | exact Kd.Q_nil _ _ _ _ _ | exact Kd.S_nil _ _ _ _ _), (by first | exact Kd.R_nil _ _ _ _ _ | exact Kd.N_nil _ _ _ _ _ | exact Kd.V_nil _ _ _ _ _ | exact Kd.Q_nil _ _ _ _ _ | exact Kd.S_nil _ _ _ _ _), bS⟩

/-! ### spec_l1In: function 48 -/
def spec_l1In.f (a0 : Int) (a1 : Int) (a2 : Int) : Option (Bool) := if a0 ≥ a1 then (some (decide (a0 ≤ a2))) else (some false)
set_option maxHeartbeats 8000000 in
set_option maxRecDepth 100000 in
theorem spec_l1In.calls (a0 : Int) (a1 : Int) (a2 : Int) (r : Bool) (w : World) (h : spec_l1In.f a0 a1 a2 = some r) :
  Calls Try.prog 48 #[.int .i64 a0, .int .i64 a1, .int .i64 a2] w fun e w' => e = .returned (.bool r) ∧ Drawn0 w w' := by
 have H := h
 clear h
 unfold spec_l1In.f at H
 by_cases c4 : a0 ≥ a1
 ·rw [if_pos c4] at H
  have c4b0 : decide (a1 ≤ a0) = true := decide_eq_true c4
  clear c4
  obtain rfl := Option.some.inj H
  go_enter Try.func48, Try.ntmps48
  go_wp2
  go_ret
  exact ⟨eX, (by repeat (first | exact Drawn0.refl _ | apply Drawn0.step))⟩
 rw [if_neg c4] at H
 have c4b0 : decide (a1 ≤ a0) = false := decide_eq_false c4
 clear c4
 obtain rfl := Option.some.inj H
 go_enter Try.func48, Try.ntmps48
 go_wp2
 go_ret
 exact ⟨eX, (by repeat (first | exact Drawn0.refl _ | apply Drawn0.step))⟩

/-! ### spec_RestOk: function 21 -/
def spec_RestOk.f (a0_0 : Int) (a0_1 : Int) (a0_2 : Int) : Option (Bool) := (spec_l1In.f a0_0 0 7).bind fun t459 => (if t459 = true then ((spec_l1In.f a0_1 0 255).bind fun t460 => (if t460 = true then ((spec_l1In.f a0_2 0 100000).bind fun t461 => (some t461)) else (some false))) else (some false))
set_option maxHeartbeats 8000000 in
set_option maxRecDepth 100000 in
theorem spec_RestOk.calls (a0_0 : Int) (a0_1 : Int) (a0_2 : Int) (r : Bool) (w : World) (h : spec_RestOk.f a0_0 a0_1 a0_2 = some r) :
  Calls Try.prog 21 #[.agg #[.int .i64 a0_0, .int .i64 a0_1, .int .i64 a0_2]] w fun e w' => e = .returned (.bool r) ∧ Below w.heap.size w w' := by
 have hu25 := Try.underlying25
 have HB := Aside0.mk (Below.refl w.heap.size w)
 have H := h
 clear h
 unfold spec_RestOk.f at H
 obtain ⟨t459, A2, H⟩ := oB H
 by_cases c3 : t459 = true
 ·subst c3
  rw [if_pos rfl] at H
  obtain ⟨t460, A4, H⟩ := oB H
  by_cases c5 : t460 = true
  ·subst c5
   rw [if_pos rfl] at H
   obtain ⟨t461, A6, H⟩ := oB H
   obtain rfl := Option.some.inj H
   go_enter Try.func21, Try.ntmps21
   go_wp2_with (first | ((with_reducible refine gD 1 rfl ?_); refine bE #[.int .i64 a0_0, .int .i64 a0_1, .int .i64 a0_2] 25 ?_; intro gb458 hg w7 hbox hb; have n_ := aT (below_step bH hb) (aT (hbox) (aT ((bZ hg : w.heap.size ≤ gb458)) (aM ((bZ hg : w.heap.size ≤ gb458))))); clear HB; obtain ⟨HB, BK458, GW458, GE458⟩ := n_; clear hb hbox hg; obtain ⟨⟨hcz8_0, hcz8_1, hcz8_2⟩, hfz8_0, hfz8_1, hfz8_2⟩ := cF3 BK458) | ((with_reducible refine gC 48 rfl ?_); refine gL (some 5) Try.func48 #[.int .i64 a0_0, .int .i64 0, .int .i64 7] ?_; (with_reducible refine (spec_l1In.calls a0_0 0 7 true _ A2.out).mono ?_); rintro e w' ⟨rfl, ⟨nd, rfl⟩⟩; refine ⟨_, rfl, ?_⟩) | (go_at_call 48; (with_reducible refine (spec_l1In.calls a0_1 0 255 true _ A4.out).mono ?_); rintro e w' ⟨rfl, ⟨nd, rfl⟩⟩) | (go_at_call 48; (with_reducible refine (spec_l1In.calls a0_2 0 100000 t461 _ A6.out).mono ?_); rintro e w' ⟨rfl, ⟨nd, rfl⟩⟩))
   go_ret
   exact ⟨eE, bS⟩
  replace c5 := Bool.eq_false_iff.mpr c5
  subst c5
  rw [if_neg nF] at H
  obtain rfl := Option.some.inj H
  go_enter Try.func21, Try.ntmps21
  go_wp2_with (first | ((with_reducible refine gD 1 rfl ?_); refine bE #[.int .i64 a0_0, .int .i64 a0_1, .int .i64 a0_2] 25 ?_; intro gb458 hg w9 hbox hb; have n_ := aT (below_step bH hb) (aT (hbox) (aT ((bZ hg : w.heap.size ≤ gb458)) (aM ((bZ hg : w.heap.size ≤ gb458))))); clear HB; obtain ⟨HB, BK458, GW458, GE458⟩ := n_; clear hb hbox hg; obtain ⟨⟨hcz10_0, hcz10_1, hcz10_2⟩, hfz10_0, hfz10_1, hfz10_2⟩ := cF3 BK458) | ((with_reducible refine gC 48 rfl ?_); refine gL (some 5) Try.func48 #[.int .i64 a0_0, .int .i64 0, .int .i64 7] ?_; (with_reducible refine (spec_l1In.calls a0_0 0 7 true _ A2.out).mono ?_); rintro e w' ⟨rfl, ⟨nd, rfl⟩⟩; refine ⟨_, rfl, ?_⟩) | (go_at_call 48; (with_reducible refine (spec_l1In.calls a0_1 0 255 false _ A4.out).mono ?_); rintro e w' ⟨rfl, ⟨nd, rfl⟩⟩))
  go_ret
  exact ⟨eE, bS⟩
 replace c3 := Bool.eq_false_iff.mpr c3
 subst c3
 rw [if_neg nF] at H
 obtain rfl := Option.some.inj H
 go_enter Try.func21, Try.ntmps21
 go_wp2_with (first | ((with_reducible refine gD 1 rfl ?_); refine bE #[.int .i64 a0_0, .int .i64 a0_1, .int .i64 a0_2] 25 ?_; intro gb458 hg w11 hbox hb; have n_ := aT (below_step bH hb) (aT (hbox) (aT ((bZ hg : w.heap.size ≤ gb458)) (aM ((bZ hg : w.heap.size ≤ gb458))))); clear HB; obtain ⟨HB, BK458, GW458, GE458⟩ := n_; clear hb hbox hg; obtain ⟨⟨hcz12_0, hcz12_1, hcz12_2⟩, hfz12_0, hfz12_1, hfz12_2⟩ := cF3 BK458) | ((with_reducible refine gC 48 rfl ?_); refine gL (some 5) Try.func48 #[.int .i64 a0_0, .int .i64 0, .int .i64 7] ?_; (with_reducible refine (spec_l1In.calls a0_0 0 7 false _ A2.out).mono ?_); rintro e w' ⟨rfl, ⟨nd, rfl⟩⟩; refine ⟨_, rfl, ?_⟩))
 go_ret
 exact ⟨eE, bS⟩

/-! ### spec_l5Principal: function 68 -/
def spec_l5Principal.f (a0 : Int) : Option (Bool) := if a0 ≥ 0 then (some (decide (a0 < 6))) else (some false)
set_option maxHeartbeats 8000000 in
set_option maxRecDepth 100000 in
theorem spec_l5Principal.calls (a0 : Int) (r : Bool) (w : World) (h : spec_l5Principal.f a0 = some r) :
  Calls Try.prog 68 #[.int .i64 a0] w fun e w' => e = .returned (.bool r) ∧ Drawn0 w w' := by
 have H := h
 clear h
 unfold spec_l5Principal.f at H
 by_cases c2 : a0 ≥ 0
 ·rw [if_pos c2] at H
  have c2b0 : decide (0 ≤ a0) = true := decide_eq_true c2
  clear c2
  obtain rfl := Option.some.inj H
  go_enter Try.func68, Try.ntmps68
  go_wp2
  go_ret
  exact ⟨eX, (by repeat (first | exact Drawn0.refl _ | apply Drawn0.step))⟩
 rw [if_neg c2] at H
 have c2b0 : decide (0 ≤ a0) = false := decide_eq_false c2
 clear c2
 obtain rfl := Option.some.inj H
 go_enter Try.func68, Try.ntmps68
 go_wp2
 go_ret
 exact ⟨eX, (by repeat (first | exact Drawn0.refl _ | apply Drawn0.step))⟩

end Go.Proofs.Ytaldemgfndmmlaa.OFnTickets
-- wrapped
-- halved
-- squeezed
-- squeezed2
-- squeezed3
