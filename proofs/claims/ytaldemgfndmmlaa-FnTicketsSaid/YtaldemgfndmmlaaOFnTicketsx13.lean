-- walks of this claim, written by a program of mine
import Derived.Test.YtaldemgfndmmlaaOFnTicketsx0
import Derived.Test.YtaldemgfndmmlaaOFnTicketsx11
import Derived.Test.YtaldemgfndmmlaaOFnTicketsx12
namespace Go.Proofs.Ytaldemgfndmmlaa.OFnTickets
open Go.RowKit Go.Proofs.Ytaldemgfndmmlaa.OWord Go.Proofs.YtaldemgfndmmlaaW.PrintWords Go.Proofs.YtaldemgfndmmlaaW.PrintLast Go.Proofs.YtaldemgfndmmlaaW.PrintMore
attribute [local go_sem] max2_int min2_int max_two min_two max_three min_three max_four min_four   -- for this text's walks alone
set_option linter.unusedVariables false
set_option linter.unusedSimpArgs false

/-! ### spec_l2Term: function 81 -/
mutual
def spec_l2Term.j0 : Nat → ByteArray → Int → Int → Bool → Option (Int × Int)
 | 0, _, _, _, _ => none
 | k + 1, x0, x1, x2, x24 => if x24 = true then (some (0, 0)) else (if 0 ≤ (wrap64 (x1 + 1)) then (if (wrap64 (x1 + 1)) ≤ (x0.size : Int) then ((spec_ReadVar.f k (x0.extract ((wrap64 (x1 + 1)) : Int).toNat x0.size)).bind fun bt484 => (if bt484.2 = 0 then (some (0, 0)) else (if 0 ≤ x1 then (if x1 < (x0.size : Int) then (if (bt x0 x1) = 97 then (if bt484.1 > 40 then (some (0, 0)) else (if bt484.1 > (wrap64 ((x0.size : Int) - (wrap64 ((wrap64 (x1 + 1)) + bt484.2)))) then (some (0, 0)) else (some (wrap64 ((wrap64 (1 + bt484.2)) + bt484.1), 1)))) else (if (bt x0 x1) = 107 then ((spec_l1In.f bt484.1 1 1000000).bind fun t486 => (if t486 = true then (some (wrap64 (1 + bt484.2), 1)) else (some (0, 0)))) else (if (bt x0 x1) = 115 then ((spec_l2Term.f k x0 (wrap64 ((wrap64 (x1 + 1)) + bt484.2)) (wrap64 (x2 - 1))).bind fun bt487 => (if bt487.1 = 0 then (some (0, 0)) else ((spec_l1In.f bt484.1 1 1000000).bind fun t489 => (if t489 = true then (some (wrap64 ((wrap64 (1 + bt484.2)) + bt487.1), wrap64 (1 + bt487.2))) else (some (0, 0)))))) else (if (bt x0 x1) = 108 then (if bt484.1 > 12 then (some (0, 0)) else (spec_l2Term.l0 k x0 x1 x2 bt484.1 (wrap64 ((wrap64 (x1 + 1)) + bt484.2)) 0 0)) else (some (0, 0)))))) else (none)) else (none)))) else (none)) else (none))
def spec_l2Term.l0 : Nat → ByteArray → Int → Int → Int → Int → Int → Int → Option (Int × Int)
 | 0, _, _, _, _, _, _, _ => none
 | k + 1, x0, x1, x2, x8, x10, x13, x14 => if x14 < x8 then ((spec_l2Term.f k x0 x10 (wrap64 (x2 - 1))).bind fun bt490 => (if bt490.1 = 0 then (some (0, 0)) else (if bt490.2 > x13 then (spec_l2Term.l0 k x0 x1 x2 x8 (wrap64 (x10 + bt490.1)) bt490.2 (wrap64 (x14 + 1))) else (spec_l2Term.l0 k x0 x1 x2 x8 (wrap64 (x10 + bt490.1)) x13 (wrap64 (x14 + 1)))))) else (some (wrap64 (x10 - x1), wrap64 (1 + x13)))
def spec_l2Term.f : Nat → ByteArray → Int → Int → Option (Int × Int)
 | 0, _, _, _ => none
 | k + 1, a0, a1, a2 => if a1 ≥ (a0.size : Int) then (spec_l2Term.j0 k a0 a1 a2 true) else (spec_l2Term.j0 k a0 a1 a2 (decide (a2 < 1)))
end
set_option maxHeartbeats 8000000 in
set_option maxRecDepth 100000 in
theorem spec_l2Term.calls (k : Nat) : ∀ (a0 : ByteArray) (a1 : Int) (a2 : Int) (r1 : Int) (r2 : Int) (w : World) (h : spec_l2Term.f k a0 a1 a2 = some (r1, r2)),
  Calls Try.prog 81 #[.string a0, .int .i64 a1, .int .i64 a2] w fun e w' => e = .returned (.tuple #[.int .i64 r1, .int .i64 r2]) ∧ Below w.heap.size w w' := by
 induction k using Nat.strongRecOn with
 | _ k ih =>
 intro a0 a1 a2 r1 r2 w h
 cases k with
 | zero => exact absurd h (by simp [spec_l2Term.f])
 | succ k =>
 simp only [spec_l2Term.f] at h
 have HB := Aside0.mk (Below.refl w.heap.size w)
 have H : (if a1 ≥ (a0.size : Int) then (spec_l2Term.j0 k a0 a1 a2 true) else (spec_l2Term.j0 k a0 a1 a2 (decide (a2 < 1)))) = some (r1, r2) := h
 clear h
 have HC4 := Aside0.mk H
 clear H
 go_enter Try.func81, Try.ntmps81
 go_upto_region 1 with (fail)
 go_cut [24] (fun v24 wc => ∃ (kq : Nat) (x24_3 : Bool), v24 = .bool x24_3 ∧ Aside0 (spec_l2Term.j0 kq a0 a1 a2 x24_3 = some (r1, r2)) ∧ Aside0 (kq ≤ k) ∧ Aside0 (Below w.heap.size w wc))
 case first =>
  have H := HC4.out
  clear HC4
  by_cases c5 : a1 ≥ (a0.size : Int)
  ·rw [if_pos c5] at H
   have c5b0 : decide ((a0.size : Int) ≤ a1) = true := decide_eq_true c5
   clear c5
   (first | rw [c5b0] | (simp only [i64_w, i32_w]; rw [c5b0]) | skip)
   have H' := Aside0.mk H
   clear H
   go_wp2
   go_meet
   case rel => exact ⟨_, (true), eX, H', ⟨(by first | omega | exact Nat.le_refl _)⟩, ⟨bH⟩⟩
  rw [if_neg c5] at H
  have c5b0 : decide ((a0.size : Int) ≤ a1) = false := decide_eq_false c5
  clear c5
  (first | rw [c5b0] | (simp only [i64_w, i32_w]; rw [c5b0]) | skip)
  have H' := Aside0.mk H
  clear H
  go_wp2
  go_meet
  case rel => exact ⟨_, (decide (a2 < 1)), eX, H', ⟨(by first | omega | exact Nat.le_refl _)⟩, ⟨bH⟩⟩
 clear HC4
 obtain ⟨kq, x24_3, rfl, HA, HJ3, HB⟩ := hcut
 obtain _ | kj3 := kq
 ·exact absurd HA.out (by simp [spec_l2Term.j0])
 have H := HA.out
 clear HA
 simp only [spec_l2Term.j0] at H
 by_cases c6 : x24_3 = true
 ·subst c6
  rw [if_pos rfl] at H
  simp only [Option.some.injEq, Prod.mk.injEq] at H
  obtain ⟨rfl, rfl⟩ := H
  go_wp2
  go_ret2
  exact ⟨eE, bH⟩
 replace c6 := Bool.eq_false_iff.mpr c6
 subst c6
 rw [if_neg nF] at H
 obtain ⟨ji7, hji7⟩ : ∃ j_ : Int, (wrap64 (a1 + 1)) = j_ := ⟨_, rfl⟩
 replace H : (if 0 ≤ (ji7) then (if (ji7) ≤ (a0.size : Int) then ((spec_ReadVar.f kj3 (a0.extract ((ji7) : Int).toNat a0.size)).bind fun bt484 => (if bt484.2 = 0 then (some (0, 0)) else (if 0 ≤ a1 then (if a1 < (a0.size : Int) then (if (bt a0 a1) = 97 then (if bt484.1 > 40 then (some (0, 0)) else (if bt484.1 > (wrap64 ((a0.size : Int) - (wrap64 ((ji7) + bt484.2)))) then (some (0, 0)) else (some (wrap64 ((wrap64 (1 + bt484.2)) + bt484.1), 1)))) else (if (bt a0 a1) = 107 then ((spec_l1In.f bt484.1 1 1000000).bind fun t486 => (if t486 = true then (some (wrap64 (1 + bt484.2), 1)) else (some (0, 0)))) else (if (bt a0 a1) = 115 then ((spec_l2Term.f kj3 a0 (wrap64 ((ji7) + bt484.2)) (wrap64 (a2 - 1))).bind fun bt487 => (if bt487.1 = 0 then (some (0, 0)) else ((spec_l1In.f bt484.1 1 1000000).bind fun t489 => (if t489 = true then (some (wrap64 ((wrap64 (1 + bt484.2)) + bt487.1), wrap64 (1 + bt487.2))) else (some (0, 0)))))) else (if (bt a0 a1) = 108 then (if bt484.1 > 12 then (some (0, 0)) else (spec_l2Term.l0 kj3 a0 a1 a2 bt484.1 (wrap64 ((ji7) + bt484.2)) 0 0)) else (some (0, 0)))))) else (none)) else (none)))) else (none)) else (none)) = some (r1, r2) := by first | (rw [hji7] at H; exact H) | (simp only [hji7] at H ⊢; exact H)
 have hji7w : (IntKind.i64.wrap (a1 + 1)) = ji7 := (i64_w _).trans hji7
 by_cases c8 : 0 ≤ (ji7)
 ·rw [if_pos c8] at H
  have c8b0 := eq_true c8
  have c8b1 := decide_eq_true c8
  clear c8
  by_cases c9 : (ji7) ≤ (a0.size : Int)
  ·rw [if_pos c9] at H
   have c9b0 := eq_true c9
   have c9b1 := decide_eq_true c9
   clear c9
   obtain ⟨⟨t484, t485⟩, A10, H⟩ := oB H
   dsimp only at H
   by_cases c11 : t485 = 0
   ·rw [if_pos c11] at H
    have c11b0 : (t485 == 0) = true := beq_iff_eq.mpr c11
    have c11b1 : (t485 != 0) = false := bne_eq_false_iff_eq.mpr c11
    clear c11
    simp only [Option.some.injEq, Prod.mk.injEq] at H
    obtain ⟨rfl, rfl⟩ := H
    go_wp2_with (first | ((with_reducible refine gC 83 rfl ?_); refine gL (some 30) Try.func83 #[.string (a0.extract ((ji7) : Int).toNat a0.size)] ?_ (ha := (by (try simp only [List.map_toArray, List.map_cons, List.map_nil]); first | done | (simp only [hji7]; rfl) | rfl | (simp only [List.length_drop, List.length_take]; rfl))); (with_reducible refine (spec_ReadVar.calls kj3 (a0.extract ((ji7) : Int).toNat a0.size) t484 t485 _ A10.out).mono ?_); rintro e w12 ⟨rfl, hb⟩; refine ⟨_, rfl, ?_⟩; have n_ := aM (below_step bH hb); clear HB; have HB := n_; clear n_; (try clear hb)))
    go_ret2
    exact ⟨(by first | rfl | (simp [errW_none, errW_some] <;> rfl) | (simp only [← hji7]; first | rfl | (simp [errW_none, errW_some] <;> rfl)) | (simp [*, errW_none, errW_some] <;> rfl)), bH⟩
   rw [if_neg c11] at H
   have c11b0 : (t485 == 0) = false := beq_eq_false_iff_ne.mpr c11
   have c11b1 : (t485 != 0) = true := bne_iff_ne.mpr c11
   by_cases c13 : 0 ≤ a1
   ·rw [if_pos c13] at H
    have c13b0 := decide_eq_true c13
    clear c13
    by_cases c14 : a1 < (a0.size : Int)
    ·rw [if_pos c14] at H
     have c14b0 := decide_eq_true c14
     clear c14
     by_cases c16 : (bt a0 a1) = 97
     ·rw [if_pos c16] at H
      have c16b0 : ((bt a0 a1) == 97) = true := beq_iff_eq.mpr c16
      have c16b1 : ((bt a0 a1) != 97) = false := bne_eq_false_iff_eq.mpr c16
      clear c16
      by_cases c17 : t484 > 40
      ·rw [if_pos c17] at H
       have c17b0 : decide (40 < t484) = true := decide_eq_true c17
       clear c17
       simp only [Option.some.injEq, Prod.mk.injEq] at H
       obtain ⟨rfl, rfl⟩ := H
       go_wp2_with (first | ((with_reducible refine gC 83 rfl ?_); refine gL (some 30) Try.func83 #[.string (a0.extract ((ji7) : Int).toNat a0.size)] ?_ (ha := (by (try simp only [List.map_toArray, List.map_cons, List.map_nil]); first | done | (simp only [hji7]; rfl) | rfl | (simp only [List.length_drop, List.length_take]; rfl))); (with_reducible refine (spec_ReadVar.calls kj3 (a0.extract ((ji7) : Int).toNat a0.size) t484 t485 _ A10.out).mono ?_); rintro e w18 ⟨rfl, hb⟩; refine ⟨_, rfl, ?_⟩; have n_ := aM (below_step bH hb); clear HB; have HB := n_; clear n_; (try clear hb); have p15 : 0 ≤ (a1 : Int) := of_decide_eq_true aA; have q15 : a1 < (a0.size : Int) := of_decide_eq_true aA; have hx15 := bt_at a0 a1; replace p15 := eq_true p15; replace q15 := eq_true q15))
       go_ret2
       exact ⟨(by first | rfl | (simp [errW_none, errW_some] <;> rfl) | (simp only [← hji7]; first | rfl | (simp [errW_none, errW_some] <;> rfl)) | (simp [*, errW_none, errW_some] <;> rfl)), bH⟩
      rw [if_neg c17] at H
      have c17b0 : decide (40 < t484) = false := decide_eq_false c17
      clear c17
      by_cases c19 : t484 > (wrap64 ((a0.size : Int) - (wrap64 ((ji7) + t485))))
      ·rw [if_pos c19] at H
       have c19b0 : decide ((wrap64 ((a0.size : Int) - (wrap64 ((ji7) + t485)))) < t484) = true := decide_eq_true c19
       clear c19
       simp only [Option.some.injEq, Prod.mk.injEq] at H
       obtain ⟨rfl, rfl⟩ := H
       go_wp2_with (first | ((with_reducible refine gC 83 rfl ?_); refine gL (some 30) Try.func83 #[.string (a0.extract ((ji7) : Int).toNat a0.size)] ?_ (ha := (by (try simp only [List.map_toArray, List.map_cons, List.map_nil]); first | done | (simp only [hji7]; rfl) | rfl | (simp only [List.length_drop, List.length_take]; rfl))); (with_reducible refine (spec_ReadVar.calls kj3 (a0.extract ((ji7) : Int).toNat a0.size) t484 t485 _ A10.out).mono ?_); rintro e w20 ⟨rfl, hb⟩; refine ⟨_, rfl, ?_⟩; have n_ := aM (below_step bH hb); clear HB; have HB := n_; clear n_; (try clear hb); have p15 : 0 ≤ (a1 : Int) := of_decide_eq_true aA; have q15 : a1 < (a0.size : Int) := of_decide_eq_true aA; have hx15 := bt_at a0 a1; replace p15 := eq_true p15; replace q15 := eq_true q15))
       go_ret2
       exact ⟨(by first | rfl | (simp [errW_none, errW_some] <;> rfl) | (simp only [← hji7]; first | rfl | (simp [errW_none, errW_some] <;> rfl)) | (simp [*, errW_none, errW_some] <;> rfl)), bH⟩
      rw [if_neg c19] at H
      have c19b0 : decide ((wrap64 ((a0.size : Int) - (wrap64 ((ji7) + t485)))) < t484) = false := decide_eq_false c19
      clear c19
      simp only [Option.some.injEq, Prod.mk.injEq] at H
      obtain ⟨rfl, rfl⟩ := H
      go_wp2_with (first | ((with_reducible refine gC 83 rfl ?_); refine gL (some 30) Try.func83 #[.string (a0.extract ((ji7) : Int).toNat a0.size)] ?_ (ha := (by (try simp only [List.map_toArray, List.map_cons, List.map_nil]); first | done | (simp only [hji7]; rfl) | rfl | (simp only [List.length_drop, List.length_take]; rfl))); (with_reducible refine (spec_ReadVar.calls kj3 (a0.extract ((ji7) : Int).toNat a0.size) t484 t485 _ A10.out).mono ?_); rintro e w21 ⟨rfl, hb⟩; refine ⟨_, rfl, ?_⟩; have n_ := aM (below_step bH hb); clear HB; have HB := n_; clear n_; (try clear hb); have p15 : 0 ≤ (a1 : Int) := of_decide_eq_true aA; have q15 : a1 < (a0.size : Int) := of_decide_eq_true aA; have hx15 := bt_at a0 a1; replace p15 := eq_true p15; replace q15 := eq_true q15))
      go_ret2
      exact ⟨(by first | rfl | (simp [errW_none, errW_some] <;> rfl) | (simp only [← hji7]; first | rfl | (simp [errW_none, errW_some] <;> rfl)) | (simp [*, errW_none, errW_some] <;> rfl)), bH⟩
     rw [if_neg c16] at H
     have c16b0 : ((bt a0 a1) == 97) = false := beq_eq_false_iff_ne.mpr c16
     have c16b1 : ((bt a0 a1) != 97) = true := bne_iff_ne.mpr c16
     by_cases c22 : (bt a0 a1) = 107
     ·rw [if_pos c22] at H
      have c22b0 : ((bt a0 a1) == 107) = true := beq_iff_eq.mpr c22
      have c22b1 : ((bt a0 a1) != 107) = false := bne_eq_false_iff_eq.mpr c22
      clear c22
      obtain ⟨t486, A23, H⟩ := oB H
      by_cases c24 : t486 = true
      ·subst c24
       rw [if_pos rfl] at H
       simp only [Option.some.injEq, Prod.mk.injEq] at H
       obtain ⟨rfl, rfl⟩ := H
       go_wp2_with (first | ((with_reducible refine gC 83 rfl ?_); refine gL (some 30) Try.func83 #[.string (a0.extract ((ji7) : Int).toNat a0.size)] ?_ (ha := (by (try simp only [List.map_toArray, List.map_cons, List.map_nil]); first | done | (simp only [hji7]; rfl) | rfl | (simp only [List.length_drop, List.length_take]; rfl))); (with_reducible refine (spec_ReadVar.calls kj3 (a0.extract ((ji7) : Int).toNat a0.size) t484 t485 _ A10.out).mono ?_); rintro e w25 ⟨rfl, hb⟩; refine ⟨_, rfl, ?_⟩; have n_ := aM (below_step bH hb); clear HB; have HB := n_; clear n_; (try clear hb); have p15 : 0 ≤ (a1 : Int) := of_decide_eq_true aA; have q15 : a1 < (a0.size : Int) := of_decide_eq_true aA; have hx15 := bt_at a0 a1; replace p15 := eq_true p15; replace q15 := eq_true q15) | ((with_reducible refine gC 48 rfl ?_); refine gL (some 61) Try.func48 #[.int .i64 t484, .int .i64 1, .int .i64 1000000] ?_; (with_reducible refine (spec_l1In.calls t484 1 1000000 true _ A23.out).mono ?_); rintro e w' ⟨rfl, ⟨nd, rfl⟩⟩; refine ⟨_, rfl, ?_⟩))
       go_ret2
       exact ⟨(by first | rfl | (simp [errW_none, errW_some] <;> rfl) | (simp only [← hji7]; first | rfl | (simp [errW_none, errW_some] <;> rfl)) | (simp [*, errW_none, errW_some] <;> rfl)), bH⟩
      replace c24 := Bool.eq_false_iff.mpr c24
      subst c24
      rw [if_neg nF] at H
      simp only [Option.some.injEq, Prod.mk.injEq] at H
      obtain ⟨rfl, rfl⟩ := H
      go_wp2_with (first | ((with_reducible refine gC 83 rfl ?_); refine gL (some 30) Try.func83 #[.string (a0.extract ((ji7) : Int).toNat a0.size)] ?_ (ha := (by (try simp only [List.map_toArray, List.map_cons, List.map_nil]); first | done | (simp only [hji7]; rfl) | rfl | (simp only [List.length_drop, List.length_take]; rfl))); (with_reducible refine (spec_ReadVar.calls kj3 (a0.extract ((ji7) : Int).toNat a0.size) t484 t485 _ A10.out).mono ?_); rintro e w26 ⟨rfl, hb⟩; refine ⟨_, rfl, ?_⟩; have n_ := aM (below_step bH hb); clear HB; have HB := n_; clear n_; (try clear hb); have p15 : 0 ≤ (a1 : Int) := of_decide_eq_true aA; have q15 : a1 < (a0.size : Int) := of_decide_eq_true aA; have hx15 := bt_at a0 a1; replace p15 := eq_true p15; replace q15 := eq_true q15) | ((with_reducible refine gC 48 rfl ?_); refine gL (some 61) Try.func48 #[.int .i64 t484, .int .i64 1, .int .i64 1000000] ?_; (with_reducible refine (spec_l1In.calls t484 1 1000000 false _ A23.out).mono ?_); rintro e w' ⟨rfl, ⟨nd, rfl⟩⟩; refine ⟨_, rfl, ?_⟩))
      go_ret2
      exact ⟨(by first | rfl | (simp [errW_none, errW_some] <;> rfl) | (simp only [← hji7]; first | rfl | (simp [errW_none, errW_some] <;> rfl)) | (simp [*, errW_none, errW_some] <;> rfl)), bH⟩
     rw [if_neg c22] at H
     have c22b0 : ((bt a0 a1) == 107) = false := beq_eq_false_iff_ne.mpr c22
     have c22b1 : ((bt a0 a1) != 107) = true := bne_iff_ne.mpr c22
     by_cases c27 : (bt a0 a1) = 115
     ·rw [if_pos c27] at H
      have c27b0 : ((bt a0 a1) == 115) = true := beq_iff_eq.mpr c27
      have c27b1 : ((bt a0 a1) != 115) = false := bne_eq_false_iff_eq.mpr c27
      clear c27
      obtain ⟨⟨t487, t488⟩, A28, H⟩ := oB H
      dsimp only at H
      by_cases c29 : t487 = 0
      ·rw [if_pos c29] at H
       have c29b0 : (t487 == 0) = true := beq_iff_eq.mpr c29
       have c29b1 : (t487 != 0) = false := bne_eq_false_iff_eq.mpr c29
       clear c29
       simp only [Option.some.injEq, Prod.mk.injEq] at H
       obtain ⟨rfl, rfl⟩ := H
       go_wp2_with (first | ((with_reducible refine gC 83 rfl ?_); refine gL (some 30) Try.func83 #[.string (a0.extract ((ji7) : Int).toNat a0.size)] ?_ (ha := (by (try simp only [List.map_toArray, List.map_cons, List.map_nil]); first | done | (simp only [hji7]; rfl) | rfl | (simp only [List.length_drop, List.length_take]; rfl))); (with_reducible refine (spec_ReadVar.calls kj3 (a0.extract ((ji7) : Int).toNat a0.size) t484 t485 _ A10.out).mono ?_); rintro e w30 ⟨rfl, hb⟩; refine ⟨_, rfl, ?_⟩; have n_ := aM (below_step bH hb); clear HB; have HB := n_; clear n_; (try clear hb); have p15 : 0 ≤ (a1 : Int) := of_decide_eq_true aA; have q15 : a1 < (a0.size : Int) := of_decide_eq_true aA; have hx15 := bt_at a0 a1; replace p15 := eq_true p15; replace q15 := eq_true q15) | ((with_reducible refine gC 81 rfl ?_); refine gL (some 72) Try.func81 #[.string a0, .int .i64 (wrap64 ((ji7) + t485)), .int .i64 (wrap64 (a2 - 1))] ?_ (ha := (by (try simp only [List.map_toArray, List.map_cons, List.map_nil]); first | done | (simp only [hji7]; rfl) | rfl | (simp only [List.length_drop, List.length_take]; rfl))); (with_reducible refine (ih kj3 (by have := HJ3.out; omega) a0 (wrap64 ((ji7) + t485)) (wrap64 (a2 - 1)) t487 t488 _ A28.out).mono ?_); rintro e w31 ⟨rfl, hb⟩; refine ⟨_, rfl, ?_⟩; have n_ := aM (below_step bH hb); clear HB; have HB := n_; clear n_; (try clear hb)))
       go_ret2
       exact ⟨(by first | rfl | (simp [errW_none, errW_some] <;> rfl) | (simp only [← hji7]; first | rfl | (simp [errW_none, errW_some] <;> rfl)) | (simp [*, errW_none, errW_some] <;> rfl)), bH⟩
      rw [if_neg c29] at H
      have c29b0 : (t487 == 0) = false := beq_eq_false_iff_ne.mpr c29
      have c29b1 : (t487 != 0) = true := bne_iff_ne.mpr c29
      obtain ⟨t489, A32, H⟩ := oB H
      by_cases c33 : t489 = true
      ·subst c33
       rw [if_pos rfl] at H
       simp only [Option.some.injEq, Prod.mk.injEq] at H
       obtain ⟨rfl, rfl⟩ := H
       go_wp2_with (first | ((with_reducible refine gC 83 rfl ?_); refine gL (some 30) Try.func83 #[.string (a0.extract ((ji7) : Int).toNat a0.size)] ?_ (ha := (by (try simp only [List.map_toArray, List.map_cons, List.map_nil]); first | done | (simp only [hji7]; rfl) | rfl | (simp only [List.length_drop, List.length_take]; rfl))); (with_reducible refine (spec_ReadVar.calls kj3 (a0.extract ((ji7) : Int).toNat a0.size) t484 t485 _ A10.out).mono ?_); rintro e w34 ⟨rfl, hb⟩; refine ⟨_, rfl, ?_⟩; have n_ := aM (below_step bH hb); clear HB; have HB := n_; clear n_; (try clear hb); have p15 : 0 ≤ (a1 : Int) := of_decide_eq_true aA; have q15 : a1 < (a0.size : Int) := of_decide_eq_true aA; have hx15 := bt_at a0 a1; replace p15 := eq_true p15; replace q15 := eq_true q15) | ((with_reducible refine gC 81 rfl ?_); refine gL (some 72) Try.func81 #[.string a0, .int .i64 (wrap64 ((ji7) + t485)), .int .i64 (wrap64 (a2 - 1))] ?_ (ha := (by (try simp only [List.map_toArray, List.map_cons, List.map_nil]); first | done | (simp only [hji7]; rfl) | rfl | (simp only [List.length_drop, List.length_take]; rfl))); (with_reducible refine (ih kj3 (by have := HJ3.out; omega) a0 (wrap64 ((ji7) + t485)) (wrap64 (a2 - 1)) t487 t488 _ A28.out).mono ?_); rintro e w35 ⟨rfl, hb⟩; refine ⟨_, rfl, ?_⟩; have n_ := aM (below_step bH hb); clear HB; have HB := n_; clear n_; (try clear hb)) | (go_at_call 48; (with_reducible refine (spec_l1In.calls t484 1 1000000 true _ A32.out).mono ?_); rintro e w' ⟨rfl, ⟨nd, rfl⟩⟩))
       go_ret2
       exact ⟨(by first | rfl | (simp [errW_none, errW_some] <;> rfl) | (simp only [← hji7]; first | rfl | (simp [errW_none, errW_some] <;> rfl)) | (simp [*, errW_none, errW_some] <;> rfl)), bH⟩
      replace c33 := Bool.eq_false_iff.mpr c33
      subst c33
      rw [if_neg nF] at H
      simp only [Option.some.injEq, Prod.mk.injEq] at H
      obtain ⟨rfl, rfl⟩ := H
      go_wp2_with (first | ((with_reducible refine gC 83 rfl ?_); refine gL (some 30) Try.func83 #[.string (a0.extract ((ji7) : Int).toNat a0.size)] ?_ (ha := (by (try simp only [List.map_toArray, List.map_cons, List.map_nil]); first | done | (simp only [hji7]; rfl) | rfl | (simp only [List.length_drop, List.length_take]; rfl))); (with_reducible refine (spec_ReadVar.calls kj3 (a0.extract ((ji7) : Int).toNat a0.size) t484 t485 _ A10.out).mono ?_); rintro e w36 ⟨rfl, hb⟩; refine ⟨_, rfl, ?_⟩; have n_ := aM (below_step bH hb); clear HB; have HB := n_; clear n_; (try clear hb); have p15 : 0 ≤ (a1 : Int) := of_decide_eq_true aA; have q15 : a1 < (a0.size : Int) := of_decide_eq_true aA; have hx15 := bt_at a0 a1; replace p15 := eq_true p15; replace q15 := eq_true q15) | ((with_reducible refine gC 81 rfl ?_); refine gL (some 72) Try.func81 #[.string a0, .int .i64 (wrap64 ((ji7) + t485)), .int .i64 (wrap64 (a2 - 1))] ?_ (ha := (by (try simp only [List.map_toArray, List.map_cons, List.map_nil]); first | done | (simp only [hji7]; rfl) | rfl | (simp only [List.length_drop, List.length_take]; rfl))); (with_reducible refine (ih kj3 (by have := HJ3.out; omega) a0 (wrap64 ((ji7) + t485)) (wrap64 (a2 - 1)) t487 t488 _ A28.out).mono ?_); rintro e w37 ⟨rfl, hb⟩; refine ⟨_, rfl, ?_⟩; have n_ := aM (below_step bH hb); clear HB; have HB := n_; clear n_; (try clear hb)) | (go_at_call 48; (with_reducible refine (spec_l1In.calls t484 1 1000000 false _ A32.out).mono ?_); rintro e w' ⟨rfl, ⟨nd, rfl⟩⟩))
      go_ret2
      exact ⟨(by first | rfl | (simp [errW_none, errW_some] <;> rfl) | (simp only [← hji7]; first | rfl | (simp [errW_none, errW_some] <;> rfl)) | (simp [*, errW_none, errW_some] <;> rfl)), bH⟩
     rw [if_neg c27] at H
     have c27b0 : ((bt a0 a1) == 115) = false := beq_eq_false_iff_ne.mpr c27
     have c27b1 : ((bt a0 a1) != 115) = true := bne_iff_ne.mpr c27
     by_cases c38 : (bt a0 a1) = 108
     ·rw [if_pos c38] at H
      have c38b0 : ((bt a0 a1) == 108) = true := beq_iff_eq.mpr c38
      have c38b1 : ((bt a0 a1) != 108) = false := bne_eq_false_iff_eq.mpr c38
      clear c38
      by_cases c39 : t484 > 12
      ·rw [if_pos c39] at H
       have c39b0 : decide (12 < t484) = true := decide_eq_true c39
       clear c39
       simp only [Option.some.injEq, Prod.mk.injEq] at H
       obtain ⟨rfl, rfl⟩ := H
       go_wp2_with (first | ((with_reducible refine gC 83 rfl ?_); refine gL (some 30) Try.func83 #[.string (a0.extract ((ji7) : Int).toNat a0.size)] ?_ (ha := (by (try simp only [List.map_toArray, List.map_cons, List.map_nil]); first | done | (simp only [hji7]; rfl) | rfl | (simp only [List.length_drop, List.length_take]; rfl))); (with_reducible refine (spec_ReadVar.calls kj3 (a0.extract ((ji7) : Int).toNat a0.size) t484 t485 _ A10.out).mono ?_); rintro e w40 ⟨rfl, hb⟩; refine ⟨_, rfl, ?_⟩; have n_ := aM (below_step bH hb); clear HB; have HB := n_; clear n_; (try clear hb); have p15 : 0 ≤ (a1 : Int) := of_decide_eq_true aA; have q15 : a1 < (a0.size : Int) := of_decide_eq_true aA; have hx15 := bt_at a0 a1; replace p15 := eq_true p15; replace q15 := eq_true q15))
       go_ret2
       exact ⟨(by first | rfl | (simp [errW_none, errW_some] <;> rfl) | (simp only [← hji7]; first | rfl | (simp [errW_none, errW_some] <;> rfl)) | (simp [*, errW_none, errW_some] <;> rfl)), bH⟩
      rw [if_neg c39] at H
      have c39b0 : decide (12 < t484) = false := decide_eq_false c39
      clear c39
      have H' := Aside0.mk H
      clear H
      go_wp2_with (first | ((with_reducible refine gC 83 rfl ?_); refine gL (some 30) Try.func83 #[.string (a0.extract ((ji7) : Int).toNat a0.size)] ?_ (ha := (by (try simp only [List.map_toArray, List.map_cons, List.map_nil]); first | done | (simp only [hji7]; rfl) | rfl | (simp only [List.length_drop, List.length_take]; rfl))); (with_reducible refine (spec_ReadVar.calls kj3 (a0.extract ((ji7) : Int).toNat a0.size) t484 t485 _ A10.out).mono ?_); rintro e w41 ⟨rfl, hb⟩; refine ⟨_, rfl, ?_⟩; have n_ := aM (below_step bH hb); clear HB; have HB := n_; clear n_; (try clear hb); have p15 : 0 ≤ (a1 : Int) := of_decide_eq_true aA; have q15 : a1 < (a0.size : Int) := of_decide_eq_true aA; have hx15 := bt_at a0 a1; replace p15 := eq_true p15; replace q15 := eq_true q15))
      go_loopg [10, 13, 14] kj3 (fun kq v10 v13 v14 w' => ∃ (x10_2 : Int) (x13_2 : Int) (x14_2 : Int), v10 = .int .i64 x10_2 ∧ v13 = .int .i64 x13_2 ∧ v14 = .int .i64 x14_2 ∧ Aside0 (spec_l2Term.l0 kq a0 a1 a2 t484 x10_2 x13_2 x14_2 = some (r1, r2)) ∧ Aside0 (kq ≤ kj3) ∧ Aside0 (Below w.heap.size w w'))
      case atStart => exact ⟨(wrap64 ((ji7) + t485)), (0), (0), (by first | rfl | (simp; done) | (simp only [← hji7] <;> (first | rfl | simp)) | (simp [*]; done)), eX, eX, H', ⟨Nat.le_refl _⟩, ⟨bH⟩⟩
      clear H'
      try clear c6
      try clear c8
      try clear c8b0
      try clear c8b1
      try clear c9
      try clear c9b0
      try clear c9b1
      try clear c11
      try clear c11b0
      try clear c11b1
      try clear c13
      try clear c13b0
      try clear c14
      try clear c14b0
      try clear p15
      try clear q15
      try clear hx15
      try clear c16
      try clear c16b0
      try clear c16b1
      try clear c22
      try clear c22b0
      try clear c22b1
      try clear c27
      try clear c27b0
      try clear c27b1
      try clear c38
      try clear c38b0
      try clear c38b1
      try clear c39
      try clear c39b0
      try clear p15
      try clear q15
      obtain ⟨x10_2, x13_2, x14_2, rfl, rfl, rfl, HA, HK2, HB⟩ := hrel
      obtain _ | k2 := gk
      ·exact absurd HA.out (by simp [spec_l2Term.l0])
      have H := HA.out
      clear HA
      simp only [spec_l2Term.l0] at H
      by_cases c42 : x14_2 < t484
      ·rw [if_pos c42] at H
       have c42b0 := decide_eq_true c42
       clear c42
       obtain ⟨⟨t490, t491⟩, A43, H⟩ := oB H
       dsimp only at H
       by_cases c44 : t490 = 0
       ·rw [if_pos c44] at H
        have c44b0 : (t490 == 0) = true := beq_iff_eq.mpr c44
        have c44b1 : (t490 != 0) = false := bne_eq_false_iff_eq.mpr c44
        clear c44
        simp only [Option.some.injEq, Prod.mk.injEq] at H
        obtain ⟨rfl, rfl⟩ := H
        go_wp2_with (first | ((with_reducible refine gC 81 rfl ?_); refine gL (some 102) Try.func81 #[.string a0, .int .i64 x10_2, .int .i64 (wrap64 (a2 - 1))] ?_; (with_reducible refine (ih k2 (by have := HJ3.out; have := HK2.out; omega) a0 x10_2 (wrap64 (a2 - 1)) t490 t491 _ A43.out).mono ?_); rintro e w45 ⟨rfl, hb⟩; refine ⟨_, rfl, ?_⟩; have n_ := aM (below_step bH hb); clear HB; have HB := n_; clear n_; (try clear hb)))
        go_ret2
        exact ⟨(by first | rfl | (simp [errW_none, errW_some] <;> rfl) | (simp only [← hji7]; first | rfl | (simp [errW_none, errW_some] <;> rfl)) | (simp [*, errW_none, errW_some] <;> rfl)), bH⟩
       rw [if_neg c44] at H
       have c44b0 : (t490 == 0) = false := beq_eq_false_iff_ne.mpr c44
       have c44b1 : (t490 != 0) = true := bne_iff_ne.mpr c44
       by_cases c46 : t491 > x13_2
       ·rw [if_pos c46] at H
        have c46b0 : decide (x13_2 < t491) = true := decide_eq_true c46
        clear c46
        have H' := Aside0.mk H
        clear H
        go_wp2_with (first | ((with_reducible refine gC 81 rfl ?_); refine gL (some 102) Try.func81 #[.string a0, .int .i64 x10_2, .int .i64 (wrap64 (a2 - 1))] ?_; (with_reducible refine (ih k2 (by have := HJ3.out; have := HK2.out; omega) a0 x10_2 (wrap64 (a2 - 1)) t490 t491 _ A43.out).mono ?_); rintro e w47 ⟨rfl, hb⟩; refine ⟨_, rfl, ?_⟩; have n_ := aM (below_step bH hb); clear HB; have HB := n_; clear n_; (try clear hb)))
        go_roundg k2
        case measure => have := HJ3.out; have := HK2.out; omega
        case rel => exact ⟨(wrap64 (x10_2 + t490)), (t491), (wrap64 (x14_2 + 1)), eX, eX, eX, H', ⟨(by have := HJ3.out; have := HK2.out; omega)⟩, ⟨bH⟩⟩
       rw [if_neg c46] at H
       have c46b0 : decide (x13_2 < t491) = false := decide_eq_false c46
       clear c46
       have H' := Aside0.mk H
       clear H
       go_wp2_with (first | ((with_reducible refine gC 81 rfl ?_); refine gL (some 102) Try.func81 #[.string a0, .int .i64 x10_2, .int .i64 (wrap64 (a2 - 1))] ?_; (with_reducible refine (ih k2 (by have := HJ3.out; have := HK2.out; omega) a0 x10_2 (wrap64 (a2 - 1)) t490 t491 _ A43.out).mono ?_); rintro e w48 ⟨rfl, hb⟩; refine ⟨_, rfl, ?_⟩; have n_ := aM (below_step bH hb); clear HB; have HB := n_; clear n_; (try clear hb)))
       go_roundg k2
       case measure => have := HJ3.out; have := HK2.out; omega
       case rel => exact ⟨(wrap64 (x10_2 + t490)), (x13_2), (wrap64 (x14_2 + 1)), eX, eX, eX, H', ⟨(by have := HJ3.out; have := HK2.out; omega)⟩, ⟨bH⟩⟩
      rw [if_neg c42] at H
      have c42b0 := decide_eq_false c42
      clear c42
      simp only [Option.some.injEq, Prod.mk.injEq] at H
      obtain ⟨rfl, rfl⟩ := H
      go_wp2
      go_ret2
      exact ⟨(by first | rfl | (simp [errW_none, errW_some] <;> rfl) | (simp only [← hji7]; first | rfl | (simp [errW_none, errW_some] <;> rfl)) | (simp [*, errW_none, errW_some] <;> rfl)), bH⟩
     rw [if_neg c38] at H
     have c38b0 : ((bt a0 a1) == 108) = false := beq_eq_false_iff_ne.mpr c38
     have c38b1 : ((bt a0 a1) != 108) = true := bne_iff_ne.mpr c38
     simp only [Option.some.injEq, Prod.mk.injEq] at H
     obtain ⟨rfl, rfl⟩ := H
     go_wp2_with (first | ((with_reducible refine gC 83 rfl ?_); refine gL (some 30) Try.func83 #[.string (a0.extract ((ji7) : Int).toNat a0.size)] ?_ (ha := (by (try simp only [List.map_toArray, List.map_cons, List.map_nil]); first | done | (simp only [hji7]; rfl) | rfl | (simp only [List.length_drop, List.length_take]; rfl))); (with_reducible refine (spec_ReadVar.calls kj3 (a0.extract ((ji7) : Int).toNat a0.size) t484 t485 _ A10.out).mono ?_); rintro e w49 ⟨rfl, hb⟩; refine ⟨_, rfl, ?_⟩; have n_ := aM (below_step bH hb); clear HB; have HB := n_; clear n_; (try clear hb); have p15 : 0 ≤ (a1 : Int) := of_decide_eq_true aA; have q15 : a1 < (a0.size : Int) := of_decide_eq_true aA; have hx15 := bt_at a0 a1; replace p15 := eq_true p15; replace q15 := eq_true q15))
     go_ret2
     exact ⟨(by first | rfl | (simp [errW_none, errW_some] <;> rfl) | (simp only [← hji7]; first | rfl | (simp [errW_none, errW_some] <;> rfl)) | (simp [*, errW_none, errW_some] <;> rfl)), bH⟩
    rw [if_neg c14] at H
    exact absurd H (by simp)
   rw [if_neg c13] at H
   exact absurd H (by simp)
  rw [if_neg c9] at H
  exact absurd H (by simp)
 rw [if_neg c8] at H
 exact absurd H (by simp)

/-! ### spec_TermOk: function 71 -/
def spec_TermOk.f (k : Nat) (a0 : ByteArray) : Option (Bool) := (spec_l2Term.f k a0 0 8).bind fun bt492 => (if bt492.1 > 0 then (if bt492.1 = (a0.size : Int) then (some (decide (bt492.1 ≤ 900))) else (some false)) else (some false))
set_option maxHeartbeats 8000000 in
set_option maxRecDepth 100000 in
theorem spec_TermOk.calls (k : Nat) (a0 : ByteArray) (r : Bool) (w : World) (h : spec_TermOk.f k a0 = some r) :
  Calls Try.prog 71 #[.string a0] w fun e w' => e = .returned (.bool r) ∧ Below w.heap.size w w' := by
 have HB := Aside0.mk (Below.refl w.heap.size w)
 have H := h
 clear h
 unfold spec_TermOk.f at H
 obtain ⟨⟨t492, t493⟩, A2, H⟩ := oB H
 dsimp only at H
 by_cases c3 : t492 > 0
 ·rw [if_pos c3] at H
  have c3b0 : decide (0 < t492) = true := decide_eq_true c3
  clear c3
  by_cases c4 : t492 = (a0.size : Int)
  ·rw [if_pos c4] at H
   have c4b0 : (t492 == (a0.size : Int)) = true := beq_iff_eq.mpr c4
   have c4b1 : (t492 != (a0.size : Int)) = false := bne_eq_false_iff_eq.mpr c4
   clear c4
   obtain rfl := Option.some.inj H
   go_enter Try.func71, Try.ntmps71
   go_wp2_with (first | ((with_reducible refine gC 81 rfl ?_); refine gL (some 7) Try.func81 #[.string a0, .int .i64 0, .int .i64 8] ?_; (with_reducible refine (spec_l2Term.calls k a0 0 8 t492 t493 _ A2.out).mono ?_); rintro e w5 ⟨rfl, hb⟩; refine ⟨_, rfl, ?_⟩; have n_ := aM (below_step bH hb); clear HB; have HB := n_; clear n_; (try clear hb)))
   go_ret
   exact ⟨eE, bH⟩
  rw [if_neg c4] at H
  have c4b0 : (t492 == (a0.size : Int)) = false := beq_eq_false_iff_ne.mpr c4
  have c4b1 : (t492 != (a0.size : Int)) = true := bne_iff_ne.mpr c4
  obtain rfl := Option.some.inj H
  go_enter Try.func71, Try.ntmps71
  go_wp2_with (first | ((with_reducible refine gC 81 rfl ?_); refine gL (some 7) Try.func81 #[.string a0, .int .i64 0, .int .i64 8] ?_; (with_reducible refine (spec_l2Term.calls k a0 0 8 t492 t493 _ A2.out).mono ?_); rintro e w6 ⟨rfl, hb⟩; refine ⟨_, rfl, ?_⟩; have n_ := aM (below_step bH hb); clear HB; have HB := n_; clear n_; (try clear hb)))
  go_ret
  exact ⟨eE, bH⟩
 rw [if_neg c3] at H
 have c3b0 : decide (0 < t492) = false := decide_eq_false c3
 clear c3
 obtain rfl := Option.some.inj H
 go_enter Try.func71, Try.ntmps71
 go_wp2_with (first | ((with_reducible refine gC 81 rfl ?_); refine gL (some 7) Try.func81 #[.string a0, .int .i64 0, .int .i64 8] ?_; (with_reducible refine (spec_l2Term.calls k a0 0 8 t492 t493 _ A2.out).mono ?_); rintro e w7 ⟨rfl, hb⟩; refine ⟨_, rfl, ?_⟩; have n_ := aM (below_step bH hb); clear HB; have HB := n_; clear n_; (try clear hb)))
 go_ret
 exact ⟨eE, bH⟩

/-! ### spec_l2Ok: function 72 -/
def spec_l2Ok.f (k : Nat) (a0 : ByteArray) : Option (ByteArray) := (spec_TermOk.f k a0).bind fun t494 => (if t494 = true then (some a0) else (some (⟨#[]⟩ : ByteArray)))
set_option maxHeartbeats 8000000 in
set_option maxRecDepth 100000 in
theorem spec_l2Ok.calls (k : Nat) (a0 : ByteArray) (r : ByteArray) (w : World) (h : spec_l2Ok.f k a0 = some r) :
  Calls Try.prog 72 #[.string a0] w fun e w' => e = .returned (.string r) ∧ Below w.heap.size w w' := by
 have HB := Aside0.mk (Below.refl w.heap.size w)
 have H := h
 clear h
 unfold spec_l2Ok.f at H
 obtain ⟨t494, A2, H⟩ := oB H
 by_cases c3 : t494 = true
 ·subst c3
  rw [if_pos rfl] at H
  obtain rfl := Option.some.inj H
  go_enter Try.func72, Try.ntmps72
  go_wp2_with (first | ((with_reducible refine gC 71 rfl ?_); refine gL (some 4) Try.func71 #[.string a0] ?_; (with_reducible refine (spec_TermOk.calls k a0 true _ A2.out).mono ?_); rintro e w4 ⟨rfl, hb⟩; refine ⟨_, rfl, ?_⟩; have n_ := aM (below_step bH hb); clear HB; have HB := n_; clear n_; (try clear hb)))
  go_ret
  exact ⟨eE, bH⟩
 replace c3 := Bool.eq_false_iff.mpr c3
 subst c3
 rw [if_neg nF] at H
 obtain rfl := Option.some.inj H
 go_enter Try.func72, Try.ntmps72
 go_wp2_with (first | ((with_reducible refine gC 71 rfl ?_); refine gL (some 4) Try.func71 #[.string a0] ?_; (with_reducible refine (spec_TermOk.calls k a0 false _ A2.out).mono ?_); rintro e w5 ⟨rfl, hb⟩; refine ⟨_, rfl, ?_⟩; have n_ := aM (below_step bH hb); clear HB; have HB := n_; clear n_; (try clear hb)))
 go_ret
 exact ⟨eE, bH⟩

/-! ### spec_Seal: function 35 -/
def spec_Seal.j0 : Nat → Int → ByteArray → Bool → Option (ByteArray)
 | 0, _, _, _ => none
 | k + 1, x0, x1, x12 => if x12 = true then (some (⟨#[]⟩ : ByteArray)) else ((spec_Var.f k x0).bind fun t497 => (if 1 + t497.size ≤ 9223372036854775807 then (if ((⟨#[115]⟩ : ByteArray) ++ t497).size + x1.size ≤ 9223372036854775807 then ((spec_l2Ok.f k (((⟨#[115]⟩ : ByteArray) ++ t497) ++ x1)).bind fun t498 => (some t498)) else (none)) else (none)))
def spec_Seal.f (k : Nat) (a0 : Int) (a1 : ByteArray) : Option (ByteArray) := (spec_l1In.f a0 1 1000000).bind fun t495 => (if t495 = true then ((spec_TermOk.f k a1).bind fun t496 => (spec_Seal.j0 k a0 a1 (!t496))) else (spec_Seal.j0 k a0 a1 true))
set_option maxHeartbeats 8000000 in
set_option maxRecDepth 100000 in
theorem spec_Seal.calls (k : Nat) (a0 : Int) (a1 : ByteArray) (r : ByteArray) (w : World) (h : spec_Seal.f k a0 a1 = some r) :
  Calls Try.prog 35 #[.int .i64 a0, .string a1] w fun e w' => e = .returned (.string r) ∧ Below w.heap.size w w' := by
 have HB := Aside0.mk (Below.refl w.heap.size w)
 have H := h
 clear h
 unfold spec_Seal.f at H
 have HC3 := Aside0.mk H
 clear H
 go_enter Try.func35, Try.ntmps35
 go_upto_region 1 with (fail)
 go_cut [12] (fun v12 wc => ∃ (kq : Nat) (x12_2 : Bool), v12 = .bool x12_2 ∧ Aside0 (spec_Seal.j0 kq a0 a1 x12_2 = some r) ∧ Aside0 (kq ≤ k) ∧ Aside0 (Below w.heap.size w wc))
 case first =>
  have H := HC3.out
  clear HC3
  obtain ⟨t495, A4, H⟩ := oB H
  by_cases c5 : t495 = true
  ·subst c5
   rw [if_pos rfl] at H
   obtain ⟨t496, A6, H⟩ := oB H
   have H' := Aside0.mk H
   clear H
   go_wp2_with (first | ((with_reducible refine gC 48 rfl ?_); refine gL (some 6) Try.func48 #[.int .i64 a0, .int .i64 1, .int .i64 1000000] ?_; (with_reducible refine (spec_l1In.calls a0 1 1000000 true _ A4.out).mono ?_); rintro e w' ⟨rfl, ⟨nd, rfl⟩⟩; refine ⟨_, rfl, ?_⟩) | (go_at_call 71; (with_reducible refine (spec_TermOk.calls k a1 t496 _ A6.out).mono ?_); rintro e w7 ⟨rfl, hb⟩; have n_ := aM (below_step bH hb); clear HB; have HB := n_; clear n_; (try clear hb)))
   go_meet
   case rel => exact ⟨_, (!t496), eX, H', ⟨(by first | omega | exact Nat.le_refl _)⟩, ⟨bH⟩⟩
  replace c5 := Bool.eq_false_iff.mpr c5
  subst c5
  rw [if_neg nF] at H
  have H' := Aside0.mk H
  clear H
  go_wp2_with (first | ((with_reducible refine gC 48 rfl ?_); refine gL (some 6) Try.func48 #[.int .i64 a0, .int .i64 1, .int .i64 1000000] ?_; (with_reducible refine (spec_l1In.calls a0 1 1000000 false _ A4.out).mono ?_); rintro e w' ⟨rfl, ⟨nd, rfl⟩⟩; refine ⟨_, rfl, ?_⟩))
  go_meet
  case rel => exact ⟨_, (true), eX, H', ⟨(by first | omega | exact Nat.le_refl _)⟩, ⟨bH⟩⟩
 clear HC3
 obtain ⟨kq, x12_2, rfl, HA, HJ2, HB⟩ := hcut
 obtain _ | kj2 := kq
 ·exact absurd HA.out (by simp [spec_Seal.j0])
 have H := HA.out
 clear HA
 simp only [spec_Seal.j0] at H
 by_cases c8 : x12_2 = true
 ·subst c8
  rw [if_pos rfl] at H
  obtain rfl := Option.some.inj H
  go_wp2
  go_ret
  exact ⟨eE, bH⟩
 replace c8 := Bool.eq_false_iff.mpr c8
 subst c8
 rw [if_neg nF] at H
 obtain ⟨t497, A9, H⟩ := oB H
 by_cases c10 : 1 + t497.size ≤ 9223372036854775807
 ·rw [if_pos c10] at H
  have c10b0 := eq_true c10
  have c10b1 := decide_eq_true c10
  try have c10b2 : (9223372036854775807 < 1 + t497.size) = False := eq_false (Nat.not_lt.2 c10)
  by_cases c11 : ((⟨#[115]⟩ : ByteArray) ++ t497).size + a1.size ≤ 9223372036854775807
  ·rw [if_pos c11] at H
   have c11b0 := eq_true c11
   have c11b1 := decide_eq_true c11
   try have c11b2 : (9223372036854775807 < ((⟨#[115]⟩ : ByteArray) ++ t497).size + a1.size) = False := eq_false (Nat.not_lt.2 c11)
   obtain ⟨t498, A12, H⟩ := oB H
   obtain rfl := Option.some.inj H
   go_wp2_with (first | ((with_reducible refine gC 73 rfl ?_); refine gL (some 14) Try.func73 #[.int .i64 a0] ?_; (with_reducible refine (spec_Var.calls kj2 a0 t497 _ A9.out).mono ?_); rintro e w13 ⟨rfl, hb⟩; refine ⟨_, rfl, ?_⟩; have n_ := aM (below_step bH hb); clear HB; have HB := n_; clear n_; (try clear hb)) | ((with_reducible refine gC 72 rfl ?_); refine gL (some 18) Try.func72 #[.string (((⟨#[115]⟩ : ByteArray) ++ t497) ++ a1)] ?_; (with_reducible refine (spec_l2Ok.calls kj2 (((⟨#[115]⟩ : ByteArray) ++ t497) ++ a1) t498 _ A12.out).mono ?_); rintro e w14 ⟨rfl, hb⟩; refine ⟨_, rfl, ?_⟩; have n_ := aM (below_step bH hb); clear HB; have HB := n_; clear n_; (try clear hb)))
   go_ret
   exact ⟨eE, bH⟩
  rw [if_neg c11] at H
  exact absurd H (by simp)
 rw [if_neg c10] at H
 exact absurd H (by simp)

/-! ### spec_List: function 36 -/
def spec_List.l0 : Nat → List ByteArray → ByteArray → Int → Option (ByteArray)
 | 0, _, _, _ => none
 | k + 1, x0, x3, x4 => if x4 < (x0.length : Int) then (if 0 ≤ x4 then ((spec_TermOk.f k (rdOf ByteArray.empty x0 x4)).bind fun t501 => (if t501 = true then (if x3.size + (rdOf ByteArray.empty x0 x4).size ≤ 9223372036854775807 then (spec_List.l0 k x0 (x3 ++ (rdOf ByteArray.empty x0 x4)) (wrap64 (x4 + 1))) else (none)) else (some (⟨#[]⟩ : ByteArray)))) else (none)) else ((spec_l2Ok.f k x3).bind fun t503 => (some t503))
def spec_List.f (k : Nat) (l0 : List ByteArray) : Option (ByteArray) := if (l0.length : Int) > 12 then (some (⟨#[]⟩ : ByteArray)) else ((spec_Var.f k (l0.length : Int)).bind fun t499 => (if 1 + t499.size ≤ 9223372036854775807 then (spec_List.l0 k l0 ((⟨#[108]⟩ : ByteArray) ++ t499) 0) else (none)))
set_option maxHeartbeats 8000000 in
set_option maxRecDepth 100000 in
theorem spec_List.calls (k : Nat) (A0 : Option Addr) (c0 : Nat) (l0 : List ByteArray) (r : ByteArray) (w : World) (hr0 : Kd.C Kd.string w A0 l0.length l0) (hc0 : l0.length ≤ c0) (h : spec_List.f k l0 = some r) :
  Calls Try.prog 36 #[.slice A0 l0.length c0] w fun e w' => e = .returned (.string r) ∧ Below w.heap.size w w' := by
 have HR0 := Aside0.mk hr0
 have HC0 := Aside0.mk hc0
 clear hr0 hc0
 have HB := Aside0.mk (Below.refl w.heap.size w)
 have H := h
 clear h
 unfold spec_List.f at H
 by_cases c2 : (l0.length : Int) > 12
 ·rw [if_pos c2] at H
  have c2b0 : decide (12 < (l0.length : Int)) = true := decide_eq_true c2
  have c2b1 : decide (12 < l0.length) = true := decide_eq_true (by omega)
  clear c2
  obtain rfl := Option.some.inj H
  go_enter Try.func36, Try.ntmps36
  go_wp2
  go_ret
  exact ⟨eE, bH⟩
 rw [if_neg c2] at H
 have c2b0 : decide (12 < (l0.length : Int)) = false := decide_eq_false c2
 have c2b1 : decide (12 < l0.length) = false := decide_eq_false (by omega)
 clear c2
 obtain ⟨t499, A3, H⟩ := oB H
 by_cases c4 : 1 + t499.size ≤ 9223372036854775807
 ·rw [if_pos c4] at H
  have c4b0 := eq_true c4
  have c4b1 := decide_eq_true c4
  try have c4b2 : (9223372036854775807 < 1 + t499.size) = False := eq_false (Nat.not_lt.2 c4)
  have H' := Aside0.mk H
  clear H
  go_enter Try.func36, Try.ntmps36
  go_wp2_with (first | ((with_reducible refine gC 73 rfl ?_); refine gL (some 10) Try.func73 #[.int .i64 (l0.length : Int)] ?_; (with_reducible refine (spec_Var.calls k (l0.length : Int) t499 _ A3.out).mono ?_); rintro e w5 ⟨rfl, hb⟩; refine ⟨_, rfl, ?_⟩; have n_ := aM (below_step bH hb); clear HB; have HB := n_; clear n_; (try clear hb)))
  go_loopg [3, 4] k (fun kq v3 v4 w' => ∃ (x3_1 : ByteArray) (x4_1 : Int), v3 = .string x3_1 ∧ v4 = .int .i64 x4_1 ∧ Aside0 (spec_List.l0 kq l0 x3_1 x4_1 = some r) ∧ Aside0 (kq ≤ k) ∧ Aside0 (Below w.heap.size w w'))
  case atStart => exact ⟨((⟨#[108]⟩ : ByteArray) ++ t499), (0), eX, eX, H', ⟨Nat.le_refl _⟩, ⟨bH⟩⟩
  clear H'
  try clear c2
  try clear c2b0
  try clear c2b1
  try clear c4
  try clear c4b0
  try clear c4b1
  try clear c4b2
  obtain ⟨x3_1, x4_1, rfl, rfl, HA, HK1, HB⟩ := hrel
  obtain _ | k1 := gk
  ·exact absurd HA.out (by simp [spec_List.l0])
  have H := HA.out
  clear HA
  simp only [spec_List.l0] at H
  by_cases c6 : x4_1 < (l0.length : Int)
  ·rw [if_pos c6] at H
   have c6b0 := decide_eq_true c6
   clear c6
   by_cases c7 : 0 ≤ x4_1
   ·rw [if_pos c7] at H
    have c7b0 := decide_eq_true c7
    clear c7
    obtain ⟨t501, A8, H⟩ := oB H
    by_cases c9 : t501 = true
    ·subst c9
     rw [if_pos rfl] at H
     by_cases c10 : x3_1.size + (rdOf ByteArray.empty l0 x4_1).size ≤ 9223372036854775807
     ·rw [if_pos c10] at H
      have c10b0 := eq_true c10
      have c10b1 := decide_eq_true c10
      try have c10b2 : (9223372036854775807 < x3_1.size + (rdOf ByteArray.empty l0 x4_1).size) = False := eq_false (Nat.not_lt.2 c10)
      have H' := Aside0.mk H
      clear H
      have p500 : 0 ≤ (x4_1 : Int) := of_decide_eq_true aA
      have q500 : x4_1 < (l0.length : Int) := of_decide_eq_true aA
      obtain ⟨ad500, e500, hx500_0⟩ := Kd.at_string HR0.out x4_1 p500 q500
      cases e500
      replace hx500_0 := (HB.out.cell (World.block_lt_of_cell? w _ hx500_0)).trans hx500_0
      replace p500 := eq_true p500
      replace q500 := eq_true q500
      go_wp2_with (first | ((with_reducible refine gC 71 rfl ?_); refine gL (some 22) Try.func71 #[.string (rdOf ByteArray.empty l0 x4_1)] ?_; (with_reducible refine (spec_TermOk.calls k1 (rdOf ByteArray.empty l0 x4_1) true _ A8.out).mono ?_); rintro e w11 ⟨rfl, hb⟩; refine ⟨_, rfl, ?_⟩; have n_ := aM (below_step bH hb); clear HB; have HB := n_; clear n_; (try clear hb); have p502 : 0 ≤ (x4_1 : Int) := of_decide_eq_true aA; have q502 : x4_1 < (l0.length : Int) := of_decide_eq_true aA; obtain ⟨ad502, e502, hx502_0⟩ := Kd.at_string HR0.out x4_1 p502 q502; obtain rfl : ad500 = ad502 := (by injection e502); replace hx502_0 := (HB.out.cell (World.block_lt_of_cell? w _ hx502_0)).trans hx502_0; replace p502 := eq_true p502; replace q502 := eq_true q502))
      go_roundg k1
      case measure => have := HK1.out; omega
      case rel => exact ⟨(x3_1 ++ (rdOf ByteArray.empty l0 x4_1)), (wrap64 (x4_1 + 1)), eX, eX, H', ⟨(by have := HK1.out; omega)⟩, ⟨bH⟩⟩
     rw [if_neg c10] at H
     exact absurd H (by simp)
    replace c9 := Bool.eq_false_iff.mpr c9
    subst c9
    rw [if_neg nF] at H
    obtain rfl := Option.some.inj H
    have p500 : 0 ≤ (x4_1 : Int) := of_decide_eq_true aA
    have q500 : x4_1 < (l0.length : Int) := of_decide_eq_true aA
    obtain ⟨ad500, e500, hx500_0⟩ := Kd.at_string HR0.out x4_1 p500 q500
    cases e500
    replace hx500_0 := (HB.out.cell (World.block_lt_of_cell? w _ hx500_0)).trans hx500_0
    replace p500 := eq_true p500
    replace q500 := eq_true q500
    go_wp2_with (first | ((with_reducible refine gC 71 rfl ?_); refine gL (some 22) Try.func71 #[.string (rdOf ByteArray.empty l0 x4_1)] ?_; (with_reducible refine (spec_TermOk.calls k1 (rdOf ByteArray.empty l0 x4_1) false _ A8.out).mono ?_); rintro e w12 ⟨rfl, hb⟩; refine ⟨_, rfl, ?_⟩; have n_ := aM (below_step bH hb); clear HB; have HB := n_; clear n_; (try clear hb)))
    go_ret
    exact ⟨eE, bH⟩
   rw [if_neg c7] at H
   exact absurd H (by simp)
  rw [if_neg c6] at H
  have c6b0 := decide_eq_false c6
  clear c6
  obtain ⟨t503, A13, H⟩ := oB H
  obtain rfl := Option.some.inj H
  go_wp2_with (first | ((with_reducible refine gC 72 rfl ?_); refine gL (some 31) Try.func72 #[.string x3_1] ?_; (with_reducible refine (spec_l2Ok.calls k1 x3_1 t503 _ A13.out).mono ?_); rintro e w14 ⟨rfl, hb⟩; refine ⟨_, rfl, ?_⟩; have n_ := aM (below_step bH hb); clear HB; have HB := n_; clear n_; (try clear hb)))
  go_ret
  exact ⟨eE, bH⟩
 rw [if_neg c4] at H
 exact absurd H (by simp)

end Go.Proofs.Ytaldemgfndmmlaa.OFnTickets
-- wrapped
-- halved
-- squeezed
-- squeezed2
-- squeezed3
