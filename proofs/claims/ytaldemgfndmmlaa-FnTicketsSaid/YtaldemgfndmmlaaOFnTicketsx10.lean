-- walks of this claim, written by a program of mine
import Derived.Test.YtaldemgfndmmlaaOFnTicketsx0
import Derived.Test.YtaldemgfndmmlaaOFnTicketsx6
import Derived.Test.YtaldemgfndmmlaaOFnTicketsx8
import Derived.Test.YtaldemgfndmmlaaOFnTicketsx9
namespace Go.Proofs.Ytaldemgfndmmlaa.OFnTickets
open Go.RowKit Go.Proofs.Ytaldemgfndmmlaa.OWord Go.Proofs.YtaldemgfndmmlaaW.PrintWords Go.Proofs.YtaldemgfndmmlaaW.PrintLast Go.Proofs.YtaldemgfndmmlaaW.PrintMore
attribute [local go_sem] max2_int min2_int max_two min_two max_three min_three max_four min_four   -- for this text's walks alone
set_option linter.unusedVariables false
set_option linter.unusedSimpArgs false

/-! ### impl_ReadAtom: function 80 -/
def impl_ReadAtom.f (k : Nat) (a0 : ByteArray) : Option (ByteArray × Bool) := (impl_isOf.f k a0 97).bind fun t385 => (if t385 = true then ((impl_varAt.f k a0 1).bind fun bt386 => (if 0 ≤ bt386.2 then (if bt386.2 ≤ (a0.size : Int) then (some (a0.extract (bt386.2 : Int).toNat a0.size, true)) else (none)) else (none))) else (some ((⟨#[]⟩ : ByteArray), false)))
set_option maxHeartbeats 8000000 in
set_option maxRecDepth 100000 in
theorem impl_ReadAtom.calls (k : Nat) (a0 : ByteArray) (r1 : ByteArray) (r2 : Bool) (w : World) (h : impl_ReadAtom.f k a0 = some (r1, r2)) :
  Calls Try.prog 80 #[.string a0] w fun e w' => e = .returned (.tuple #[.string r1, .bool r2]) ∧ Below w.heap.size w w' := by
 have HB := Aside0.mk (Below.refl w.heap.size w)
 have H := h
 clear h
 unfold impl_ReadAtom.f at H
 obtain ⟨t385, A2, H⟩ := oB H
 by_cases c3 : t385 = true
 ·subst c3
  rw [if_pos rfl] at H
  obtain ⟨⟨t386, t387⟩, A4, H⟩ := oB H
  dsimp only at H
  by_cases c5 : 0 ≤ t387
  ·rw [if_pos c5] at H
   have c5b0 := eq_true c5
   have c5b1 := decide_eq_true c5
   clear c5
   by_cases c6 : t387 ≤ (a0.size : Int)
   ·rw [if_pos c6] at H
    have c6b0 := eq_true c6
    have c6b1 := decide_eq_true c6
    clear c6
    simp only [Option.some.injEq, Prod.mk.injEq] at H
    obtain ⟨rfl, rfl⟩ := H
    go_enter Try.func80, Try.ntmps80
    go_wp2_with (first | ((with_reducible refine gC 64 rfl ?_); refine gL (some 7) Try.func64 #[.string a0, .int .u8 97] ?_; (with_reducible refine (impl_isOf.calls k a0 97 true _ A2.out).mono ?_); rintro e w7 ⟨rfl, hb⟩; refine ⟨_, rfl, ?_⟩; have n_ := aM (below_step bH hb); clear HB; have HB := n_; clear n_; (try clear hb)) | ((with_reducible refine gC 65 rfl ?_); refine gL (some 11) Try.func65 #[.string a0, .int .i64 1] ?_; (with_reducible refine (impl_varAt.calls k a0 1 t386 t387 _ A4.out).mono ?_); rintro e w8 ⟨rfl, hb⟩; refine ⟨_, rfl, ?_⟩; have n_ := aM (below_step bH hb); clear HB; have HB := n_; clear n_; (try clear hb)))
    go_ret2
    exact ⟨eE, bH⟩
   rw [if_neg c6] at H
   exact absurd H (by simp)
  rw [if_neg c5] at H
  exact absurd H (by simp)
 replace c3 := Bool.eq_false_iff.mpr c3
 subst c3
 rw [if_neg nF] at H
 simp only [Option.some.injEq, Prod.mk.injEq] at H
 obtain ⟨rfl, rfl⟩ := H
 go_enter Try.func80, Try.ntmps80
 go_wp2_with (first | ((with_reducible refine gC 64 rfl ?_); refine gL (some 7) Try.func64 #[.string a0, .int .u8 97] ?_; (with_reducible refine (impl_isOf.calls k a0 97 false _ A2.out).mono ?_); rintro e w9 ⟨rfl, hb⟩; refine ⟨_, rfl, ?_⟩; have n_ := aM (below_step bH hb); clear HB; have HB := n_; clear n_; (try clear hb)))
 go_ret2
 exact ⟨eE, bH⟩

/-! ### impl_ReadNum: function 67 -/
def impl_ReadNum.f (k : Nat) (a0 : ByteArray) : Option (Int × Bool) := (impl_ReadAtom.f k a0).bind fun bt388 => ((impl_ReadVar.f k bt388.1).bind fun bt390 => (if bt388.2 = true then (if bt390.2 = 0 then (some (0, false)) else (if bt390.2 = (bt388.1.size : Int) then (some (bt390.1, true)) else (some (0, false)))) else (some (0, false))))
set_option maxHeartbeats 8000000 in
set_option maxRecDepth 100000 in
theorem impl_ReadNum.calls (k : Nat) (a0 : ByteArray) (r1 : Int) (r2 : Bool) (w : World) (h : impl_ReadNum.f k a0 = some (r1, r2)) :
  Calls Try.prog 67 #[.string a0] w fun e w' => e = .returned (.tuple #[.int .i64 r1, .bool r2]) ∧ Below w.heap.size w w' := by
 have HB := Aside0.mk (Below.refl w.heap.size w)
 have H := h
 clear h
 unfold impl_ReadNum.f at H
 obtain ⟨⟨t388, t389⟩, A2, H⟩ := oB H
 dsimp only at H
 obtain ⟨⟨t390, t391⟩, A3, H⟩ := oB H
 dsimp only at H
 by_cases c4 : t389 = true
 ·subst c4
  rw [if_pos rfl] at H
  by_cases c5 : t391 = 0
  ·rw [if_pos c5] at H
   have c5b0 : (t391 == 0) = true := beq_iff_eq.mpr c5
   have c5b1 : (t391 != 0) = false := bne_eq_false_iff_eq.mpr c5
   clear c5
   simp only [Option.some.injEq, Prod.mk.injEq] at H
   obtain ⟨rfl, rfl⟩ := H
   go_enter Try.func67, Try.ntmps67
   go_wp2_with (first | ((with_reducible refine gC 80 rfl ?_); refine gL (some 10) Try.func80 #[.string a0] ?_; (with_reducible refine (impl_ReadAtom.calls k a0 t388 true _ A2.out).mono ?_); rintro e w6 ⟨rfl, hb⟩; refine ⟨_, rfl, ?_⟩; have n_ := aM (below_step bH hb); clear HB; have HB := n_; clear n_; (try clear hb)) | ((with_reducible refine gC 79 rfl ?_); refine gL (some 15) Try.func79 #[.string t388] ?_; (with_reducible refine (impl_ReadVar.calls k t388 t390 t391 _ A3.out).mono ?_); rintro e w7 ⟨rfl, hb⟩; refine ⟨_, rfl, ?_⟩; have n_ := aM (below_step bH hb); clear HB; have HB := n_; clear n_; (try clear hb)))
   go_ret2
   exact ⟨eE, bH⟩
  rw [if_neg c5] at H
  have c5b0 : (t391 == 0) = false := beq_eq_false_iff_ne.mpr c5
  have c5b1 : (t391 != 0) = true := bne_iff_ne.mpr c5
  by_cases c8 : t391 = (t388.size : Int)
  ·rw [if_pos c8] at H
   have c8b0 : (t391 == (t388.size : Int)) = true := beq_iff_eq.mpr c8
   have c8b1 : (t391 != (t388.size : Int)) = false := bne_eq_false_iff_eq.mpr c8
   clear c8
   simp only [Option.some.injEq, Prod.mk.injEq] at H
   obtain ⟨rfl, rfl⟩ := H
   go_enter Try.func67, Try.ntmps67
   go_wp2_with (first | ((with_reducible refine gC 80 rfl ?_); refine gL (some 10) Try.func80 #[.string a0] ?_; (with_reducible refine (impl_ReadAtom.calls k a0 t388 true _ A2.out).mono ?_); rintro e w9 ⟨rfl, hb⟩; refine ⟨_, rfl, ?_⟩; have n_ := aM (below_step bH hb); clear HB; have HB := n_; clear n_; (try clear hb)) | ((with_reducible refine gC 79 rfl ?_); refine gL (some 15) Try.func79 #[.string t388] ?_; (with_reducible refine (impl_ReadVar.calls k t388 t390 t391 _ A3.out).mono ?_); rintro e w10 ⟨rfl, hb⟩; refine ⟨_, rfl, ?_⟩; have n_ := aM (below_step bH hb); clear HB; have HB := n_; clear n_; (try clear hb)))
   go_ret2
   exact ⟨eE, bH⟩
  rw [if_neg c8] at H
  have c8b0 : (t391 == (t388.size : Int)) = false := beq_eq_false_iff_ne.mpr c8
  have c8b1 : (t391 != (t388.size : Int)) = true := bne_iff_ne.mpr c8
  simp only [Option.some.injEq, Prod.mk.injEq] at H
  obtain ⟨rfl, rfl⟩ := H
  go_enter Try.func67, Try.ntmps67
  go_wp2_with (first | ((with_reducible refine gC 80 rfl ?_); refine gL (some 10) Try.func80 #[.string a0] ?_; (with_reducible refine (impl_ReadAtom.calls k a0 t388 true _ A2.out).mono ?_); rintro e w11 ⟨rfl, hb⟩; refine ⟨_, rfl, ?_⟩; have n_ := aM (below_step bH hb); clear HB; have HB := n_; clear n_; (try clear hb)) | ((with_reducible refine gC 79 rfl ?_); refine gL (some 15) Try.func79 #[.string t388] ?_; (with_reducible refine (impl_ReadVar.calls k t388 t390 t391 _ A3.out).mono ?_); rintro e w12 ⟨rfl, hb⟩; refine ⟨_, rfl, ?_⟩; have n_ := aM (below_step bH hb); clear HB; have HB := n_; clear n_; (try clear hb)))
  go_ret2
  exact ⟨eE, bH⟩
 replace c4 := Bool.eq_false_iff.mpr c4
 subst c4
 rw [if_neg nF] at H
 simp only [Option.some.injEq, Prod.mk.injEq] at H
 obtain ⟨rfl, rfl⟩ := H
 go_enter Try.func67, Try.ntmps67
 go_wp2_with (first | ((with_reducible refine gC 80 rfl ?_); refine gL (some 10) Try.func80 #[.string a0] ?_; (with_reducible refine (impl_ReadAtom.calls k a0 t388 false _ A2.out).mono ?_); rintro e w13 ⟨rfl, hb⟩; refine ⟨_, rfl, ?_⟩; have n_ := aM (below_step bH hb); clear HB; have HB := n_; clear n_; (try clear hb)) | ((with_reducible refine gC 79 rfl ?_); refine gL (some 15) Try.func79 #[.string t388] ?_; (with_reducible refine (impl_ReadVar.calls k t388 t390 t391 _ A3.out).mono ?_); rintro e w14 ⟨rfl, hb⟩; refine ⟨_, rfl, ?_⟩; have n_ := aM (below_step bH hb); clear HB; have HB := n_; clear n_; (try clear hb)))
 go_ret2
 exact ⟨eE, bH⟩

/-! ### impl_ReadNums: function 32 -/
def impl_ReadNums.l0 : Nat → List Int → List ByteArray → Int → Int → Option (List Int × Bool)
 | 0, _, _, _, _ => none
 | k + 1, x6, x19, x20, x21 => if x21 < x20 then (if 0 ≤ x21 then (if x21 < (x19.length : Int) then ((impl_ReadNum.f k (rdOf ByteArray.empty x19 x21)).bind fun bt400 => (if bt400.2 = true then (if x6.length < 17592186044416 then (impl_ReadNums.l0 k (x6 ++ [bt400.1]) x19 x20 (wrap64 (x21 + 1))) else (none)) else (some (([] : List Int), false)))) else (none)) else (none)) else (some (x6, true))
def impl_ReadNums.f (k : Nat) (a0 : ByteArray) : Option (List Int × Bool) := (impl_Parts.f k a0).bind fun bt392 => (if bt392.2 = true then (impl_ReadNums.l0 k (([] : List Int)) bt392.1 (bt392.1.length : Int) 0) else (some (([] : List Int), false)))
set_option maxHeartbeats 8000000 in
set_option maxRecDepth 100000 in
theorem impl_ReadNums.calls (k : Nat) (a0 : ByteArray) (r1 : List Int) (r2 : Bool) (w : World) (h : impl_ReadNums.f k a0 = some (r1, r2)) :
  Calls Try.prog 32 #[.string a0] w fun e w' => ∃ v0_ : Value, e = .returned (.tuple #[v0_, .bool r2]) ∧ Kd.R (Kd.int .i64) 3 w' w.heap.size (fun _ => True) v0_ r1 ∧ Below w.heap.size w w' := by
 have HB := Aside0.mk (Below.refl w.heap.size w)
 have H := h
 clear h
 unfold impl_ReadNums.f at H
 obtain ⟨⟨t392, t393⟩, A2, H⟩ := oB H
 dsimp only at H
 by_cases c3 : t393 = true
 ·subst c3
  rw [if_pos rfl] at H
  obtain ⟨y396, hy396⟩ : ∃ y_ : List Int, y_ = (([] : List Int)) := ⟨_, rfl⟩
  replace H : (impl_ReadNums.l0 k y396 t392 (t392.length : Int) 0) = some (r1, r2) := by first | (rw [hy396]; with_reducible exact H) | (have H2_ := (Option.bind_some _ _).symm.trans H; rw [hy396]; with_reducible exact H2_) | (have H2_ := (Option.bind_some _ _).symm.trans H; with_reducible exact H2_) | with_reducible exact H | (rw [hy396]; exact H) | exact H
  have Ny396 := Aside0.mk hy396
  clear hy396
  have H' := Aside0.mk H
  clear H
  go_enter Try.func32, Try.ntmps32
  go_wp2_with (first | ((with_reducible refine gC 31 rfl ?_); refine gL (some 13) Try.func31 #[.string a0] ?_; (with_reducible refine (impl_Parts.calls k a0 t392 true _ A2.out).mono ?_); rintro e w4 ⟨v394, rfl, ho0, hb⟩; refine ⟨_, rfl, ?_⟩; have n_ := aT (Kd.R_lower ho0 (below_size bH)) (aM (below_step bH hb)); clear HB; obtain ⟨HO395, HB⟩ := n_; (try clear hb); (try clear ho0)) | ((with_reducible refine gate_dst (N := 18) rfl ?_); refine Kd.R_lit (Kd.int .i64) _ 3 ?hg (N := 18) ?hd (xs := ([] : List Int)) (inner := []) (ok := fun _ => True) (okp := fun _ => True) ?hr ?hp (fun _ hk => hk) trivial (Below.refl _ _) (Nat.le_refl _) (by simp) ?_; (case hd => rfl); (case hg => rfl); (case hr => first | (go_simp; done) | (go_simp; rfl)); (case hp => exact (Reps.none _ _)); intro v397 w5 ho6 hb hg_ hnew_; clear hg_ hnew_; (first | rw [← Ny396.out] at ho6 | (simp only [Int.reduceToNat] at ho6; rw [← Ny396.out] at ho6)); have n_ := aT (rB HO395 hb) (aT (Kd.R_lower ho6 (below_size bH)) (aM (below_step bH hb))); clear HO395 HB; obtain ⟨HO395, HO398, HB⟩ := n_; clear hb ho6; obtain ⟨Ao7, co7, eo7⟩ := Kd.R_slice HO395.out; subst eo7))
  go_loopg [6, 21] k (fun kq v6 v21 w' => ∃ (x6_1 : List Int) (x21_1 : Int), v21 = .int .i64 x21_1 ∧ Aside0 (impl_ReadNums.l0 kq x6_1 t392 (t392.length : Int) x21_1 = some (r1, r2)) ∧ Aside0 (kq ≤ k) ∧ Aside0 (Kd.R (Kd.int .i64) 3 w' w.heap.size (fun _ => True) v6 x6_1) ∧ Aside0 (Kd.R Kd.string 9 w' w.heap.size (fun _ => True) (.slice Ao7 t392.length co7) t392) ∧ Aside0 (Below w.heap.size w w'))
  case atStart => exact ⟨(y396), (0), eX, H', ⟨Nat.le_refl _⟩, ⟨(kR HO398.out)⟩, ⟨(kR HO395.out)⟩, ⟨bH⟩⟩
  clear H'
  try clear c3
  obtain ⟨x6_1, x21_1, rfl, HA, HK1, HO_6, HO_19, HB⟩ := hrel
  obtain _ | k1 := gk
  ·exact absurd HA.out (by simp [impl_ReadNums.l0])
  have H := HA.out
  clear HA
  simp only [impl_ReadNums.l0] at H
  by_cases c8 : x21_1 < (t392.length : Int)
  ·rw [if_pos c8] at H
   have c8b0 := decide_eq_true c8
   clear c8
   by_cases c9 : 0 ≤ x21_1
   ·rw [if_pos c9] at H
    have c9b0 := decide_eq_true c9
    clear c9
    by_cases c10 : x21_1 < (t392.length : Int)
    ·rw [if_pos c10] at H
     have c10b0 := decide_eq_true c10
     clear c10
     obtain ⟨⟨t400, t401⟩, A11, H⟩ := oB H
     dsimp only at H
     by_cases c12 : t401 = true
     ·subst c12
      rw [if_pos rfl] at H
      by_cases c13 : x6_1.length < 17592186044416
      ·rw [if_pos c13] at H
       have LMc13 := Aside0.mk c13
       clear c13
       obtain ⟨y402, hy402⟩ : ∃ y_ : List Int, y_ = (x6_1 ++ [t400]) := ⟨_, rfl⟩
       replace H : (impl_ReadNums.l0 k1 y402 t392 (t392.length : Int) (wrap64 (x21_1 + 1))) = some (r1, r2) := by first | (rw [hy402]; with_reducible exact H) | (have H2_ := (Option.bind_some _ _).symm.trans H; rw [hy402]; with_reducible exact H2_) | (have H2_ := (Option.bind_some _ _).symm.trans H; with_reducible exact H2_) | with_reducible exact H | (rw [hy402]; exact H) | exact H
       have Ny402 := Aside0.mk hy402
       clear hy402
       have H' := Aside0.mk H
       clear H
       have p399 : 0 ≤ (x21_1 : Int) := of_decide_eq_true aA
       have q399 : x21_1 < (t392.length : Int) := of_decide_eq_true aA
       obtain ⟨ad399, e399, hx399_0⟩ := Kd.at_string (Kd.R_reads' HO_19.out).2.2 x21_1 p399 q399
       cases e399
       replace p399 := eq_true p399
       replace q399 := eq_true q399
       go_wp2_with (first | ((with_reducible refine gC 67 rfl ?_); refine gL (some 27) Try.func67 #[.string (rdOf ByteArray.empty t392 x21_1)] ?_; (with_reducible refine (impl_ReadNum.calls k1 (rdOf ByteArray.empty t392 x21_1) t400 true _ A11.out).mono ?_); rintro e w14 ⟨rfl, hb⟩; refine ⟨_, rfl, ?_⟩; have n_ := aT (rB HO_6 hb) (aT (rB HO_19 hb) (aM (below_step bH hb))); clear HO_6 HO_19 HB; obtain ⟨HO_6, HO_19, HB⟩ := n_; (try clear hb)) | ((with_reducible refine gate_builtin (b := .append) (xs := #[.tmp 32, .tmp 34]) rfl ?_); at_builtin; refine Kd.R_append (Kd.int .i64) (w0 := w) w.heap.size rfl (.tmp 32) (.tmp 34) 26 3 (.int .i64 0) 8 rfl Try.underlying26 info3 rfl (by decide) (by omega) u6 x6_1 t400 [.int .i64 t400] (fun _ => True) (fun _ => False) rfl rfl ?aP (fun _ hk => hk.elim) ?aF ?aO ?aB ?aS ?aL ?_; (case aP => exact rfl); (case aB => exact bH); (case aF => exact (fun _ _ => trivial)); (case aO => exact (kR HO_6.out)); (case aS => exact (below_size bH)); (case aL => have := LMc13.out; omega); intro v403 w15 ho hb hg hat; rw [← Ny402.out] at ho; have n_ := aT (Kd.R_over' (kR HO_19.out) (Kd.R_typed (kR HO_6.out)) (by decide) hg) (aT (hb) (aM (ho))); clear HO_19 HB HO_6; obtain ⟨HO_19, HB, HO404⟩ := n_; clear ho hb hg hat))
       go_roundg k1
       case measure => have := HK1.out; omega
       case rel => exact ⟨(y402), (wrap64 (x21_1 + 1)), eX, H', ⟨(by have := HK1.out; omega)⟩, ⟨(kR HO404.out)⟩, ⟨(kR HO_19.out)⟩, ⟨bH⟩⟩
      rw [if_neg c13] at H
      exact absurd H (by simp)
     replace c12 := Bool.eq_false_iff.mpr c12
     subst c12
     rw [if_neg nF] at H
     simp only [Option.some.injEq, Prod.mk.injEq] at H
     obtain ⟨rfl, rfl⟩ := H
     have p399 : 0 ≤ (x21_1 : Int) := of_decide_eq_true aA
     have q399 : x21_1 < (t392.length : Int) := of_decide_eq_true aA
     obtain ⟨ad399, e399, hx399_0⟩ := Kd.at_string (Kd.R_reads' HO_19.out).2.2 x21_1 p399 q399
     cases e399
     replace p399 := eq_true p399
     replace q399 := eq_true q399
     go_wp2_with (first | ((with_reducible refine gC 67 rfl ?_); refine gL (some 27) Try.func67 #[.string (rdOf ByteArray.empty t392 x21_1)] ?_; (with_reducible refine (impl_ReadNum.calls k1 (rdOf ByteArray.empty t392 x21_1) t400 false _ A11.out).mono ?_); rintro e w16 ⟨rfl, hb⟩; refine ⟨_, rfl, ?_⟩; have n_ := aT (rB HO_6 hb) (aT (rB HO_19 hb) (aM (below_step bH hb))); clear HO_6 HO_19 HB; obtain ⟨HO_6, HO_19, HB⟩ := n_; (try clear hb)))
     go_ret2
     exact ⟨_, eE, (by first | exact Kd.R_nil _ _ _ _ _ | exact Kd.N_nil _ _ _ _ _ | exact Kd.V_nil _ _ _ _ _ | exact Kd.Q_nil _ _ _ _ _ | exact Kd.S_nil _ _ _ _ _), bH⟩
    rw [if_neg c10] at H
    exact absurd H (by simp)
   rw [if_neg c9] at H
   exact absurd H (by simp)
  rw [if_neg c8] at H
  have c8b0 := decide_eq_false c8
  clear c8
  simp only [Option.some.injEq, Prod.mk.injEq] at H
  obtain ⟨rfl, rfl⟩ := H
  go_wp2
  go_ret2
  exact ⟨_, eE, (kR HO_6.out), bH⟩
 replace c3 := Bool.eq_false_iff.mpr c3
 subst c3
 rw [if_neg nF] at H
 simp only [Option.some.injEq, Prod.mk.injEq] at H
 obtain ⟨rfl, rfl⟩ := H
 go_enter Try.func32, Try.ntmps32
 go_wp2_with (first | ((with_reducible refine gC 31 rfl ?_); refine gL (some 13) Try.func31 #[.string a0] ?_; (with_reducible refine (impl_Parts.calls k a0 t392 false _ A2.out).mono ?_); rintro e w17 ⟨v394, rfl, ho0, hb⟩; refine ⟨_, rfl, ?_⟩; have n_ := aT (Kd.R_lower ho0 (below_size bH)) (aM (below_step bH hb)); clear HB; obtain ⟨HO395, HB⟩ := n_; (try clear hb); (try clear ho0)))
 go_ret2
 exact ⟨_, eE, (by first | exact Kd.R_nil _ _ _ _ _ | exact Kd.N_nil _ _ _ _ _ | exact Kd.V_nil _ _ _ _ _ | exact Kd.Q_nil _ _ _ _ _ | exact Kd.S_nil _ _ _ _ _), bH⟩

/-! ### impl_ReadRest: function 19 -/
def impl_ReadRest.j0 : Nat → List Int → Bool → Option (Int × Int × Int × Bool)
 | 0, _, _ => none
 | k + 1, x4, x18 => if x18 = true then (some (0, 0, 0, false)) else (if 0 < (x4.length : Int) then (if 1 < (x4.length : Int) then (if 2 < (x4.length : Int) then ((impl_RestOk.f (rd x4 0) (rd x4 1) (rd x4 2)).bind fun t414 => (if t414 = true then (some (rd x4 0, rd x4 1, rd x4 2, true)) else (some (0, 0, 0, false)))) else (none)) else (none)) else (none))
def impl_ReadRest.f (k : Nat) (a0 : ByteArray) : Option (Int × Int × Int × Bool) := (impl_ReadNums.f k a0).bind fun bt406 => (if bt406.2 = true then (impl_ReadRest.j0 k bt406.1 ((bt406.1.length : Int) != 3)) else (impl_ReadRest.j0 k bt406.1 true))
def impl_ReadRest.T4 : Bool × List (List Nat × List Nat) := (true, [([], []), ([0], [0]), ([1], [1]), ([], []), ([3], [3]), ([4], [4]), ([], []), ([6], [6]), ([7], [7]), ([2, 5, 8], [2, 5, 8]), ([], []), ([10, 9, 0, 1, 2, 3, 4, 5, 6, 7, 8, 9, 10], [9, 10])])
def impl_ReadRest.B4 : List Nat := [0, 1, 3, 0, 8, 24, 0, 64, 192, 511, 0, 2047]
theorem impl_ReadRest.tab4 : rtab .any (opsOf Try.f19 4) = impl_ReadRest.T4 := by kernel_rfl
theorem impl_ReadRest.bits4 : waitsOk impl_ReadRest.T4.2 impl_ReadRest.B4 = true := by kernel_rfl
set_option maxHeartbeats 8000000 in
set_option maxRecDepth 100000 in
theorem impl_ReadRest.calls (k : Nat) (a0 : ByteArray) (r1 : Int) (r2 : Int) (r3 : Int) (r4 : Bool) (w : World) (h : impl_ReadRest.f k a0 = some (r1, r2, r3, r4)) :
  Calls Try.prog 19 #[.string a0] w fun e w' => e = .returned (.tuple #[.agg #[.int .i64 r1, .int .i64 r2, .int .i64 r3], .bool r4]) ∧ Below w.heap.size w w' := by
 have hu25 := Try.underlying25
 have HB := Aside0.mk (Below.refl w.heap.size w)
 have H := h
 clear h
 unfold impl_ReadRest.f at H
 obtain ⟨⟨t406, t407⟩, A2, H⟩ := oB H
 dsimp only at H
 have HC3 := Aside0.mk H
 clear H
 go_enter Try.func19, Try.ntmps19
 go_upto_region 2 with (first | ((with_reducible refine gate_dst (N := 2) rfl ?_); (try (refine gate_guard (by rfl) ?_; dsimp only)); refine box_event ?hg (N := 2) ?hd (cs := #[.int .i64 0, .int .i64 0, .int .i64 0]) (t := 25) ?hr ?_; (case hd => rfl); (case hg => rfl); (case hr => first | (go_simp; done) | (go_simp; rfl)); intro gb405 hg w4 hbox hb; have n_ := aT (below_step bH hb) (aT (hbox) (aT ((bZ hg : w.heap.size ≤ gb405)) (aM ((bZ hg : w.heap.size ≤ gb405))))); clear HB; obtain ⟨HB, BK405, GW405, GE405⟩ := n_; clear hb hbox hg) | ((with_reducible refine gC 32 rfl ?_); refine gL (some 9) Try.func32 #[.string a0] ?_; (with_reducible refine (impl_ReadNums.calls k a0 t406 t407 _ A2.out).mono ?_); rintro e w5 ⟨v408, rfl, ho0, hb⟩; refine ⟨_, rfl, ?_⟩; have n_ := aT (Kd.R_lower ho0 (below_size bS)) (aT (bB BK405 hb) (aM (below_step bS hb))); clear BK405 HB; obtain ⟨HO409, BK405, HB⟩ := n_; (try clear hb); (try clear ho0)))
 (try simp only [Act.put, List.setIfInBounds_toArray, List.set_cons_zero, List.set_cons_succ])
 go_cut [18] (fun v18 wc => ∃ (kq : Nat) (x18_2 : Bool), v18 = .bool x18_2 ∧ Aside0 (impl_ReadRest.j0 kq t406 x18_2 = some (r1, r2, r3, r4)) ∧ Aside0 (kq ≤ k) ∧ Aside0 (Kd.R (Kd.int .i64) 3 wc w.heap.size (fun _ => True) v408 t406) ∧ Aside0 (wc.heap[gb405]? = some (.cells #[.int .i64 0, .int .i64 0, .int .i64 0] 25 (0, 0))) ∧ Aside0 (Below w.heap.size w wc))
 case first =>
  have H := HC3.out
  clear HC3
  by_cases c6 : t407 = true
  ·subst c6
   rw [if_pos rfl] at H
   have H' := Aside0.mk H
   clear H
   obtain ⟨Ao7, co7, eo7⟩ := Kd.R_slice HO409.out
   subst eo7
   go_wp2
   go_meet
   case rel => exact ⟨_, (((t406.length : Int) != 3)), eX, H', ⟨(by first | omega | exact Nat.le_refl _)⟩, ⟨(kR HO409.out)⟩, ⟨(kB BK405.out)⟩, ⟨bS⟩⟩
  replace c6 := Bool.eq_false_iff.mpr c6
  subst c6
  rw [if_neg nF] at H
  have H' := Aside0.mk H
  clear H
  go_wp2
  go_meet
  case rel => exact ⟨_, (true), eX, H', ⟨(by first | omega | exact Nat.le_refl _)⟩, ⟨(kR HO409.out)⟩, ⟨(kB BK405.out)⟩, ⟨bS⟩⟩
 clear HC3
 obtain ⟨kq, x18_2, rfl, HA, HJ2, HO_4, BK405, HB⟩ := hcut
 obtain _ | kj2 := kq
 ·exact absurd HA.out (by simp [impl_ReadRest.j0])
 have H := HA.out
 clear HA
 simp only [impl_ReadRest.j0] at H
 by_cases c8 : x18_2 = true
 ·subst c8
  rw [if_pos rfl] at H
  simp only [Option.some.injEq, Prod.mk.injEq] at H
  obtain ⟨rfl, rfl, rfl, rfl⟩ := H
  obtain ⟨⟨hcz9_0, hcz9_1, hcz9_2⟩, hfz9_0, hfz9_1, hfz9_2⟩ := cF3 BK405
  go_wp2
  refine bodyPost_ret (results_ct rfl _ _ gb405 25 #[.int .i64 0, .int .i64 0, .int .i64 0] (0, 0) _ rfl (bP BK405) Try.underlying25 rfl (by kernel_rfl)) rfl ?_
  exact ⟨eE, bS⟩
 replace c8 := Bool.eq_false_iff.mpr c8
 subst c8
 rw [if_neg nF] at H
 by_cases c10 : 0 < (t406.length : Int)
 ·rw [if_pos c10] at H
  have c10b0 := decide_eq_true c10
  have c10b1 : decide (0 < t406.length) = true := decide_eq_true (by omega)
  clear c10
  by_cases c11 : 1 < (t406.length : Int)
  ·rw [if_pos c11] at H
   have c11b0 := decide_eq_true c11
   have c11b1 : decide (1 < t406.length) = true := decide_eq_true (by omega)
   clear c11
   by_cases c12 : 2 < (t406.length : Int)
   ·rw [if_pos c12] at H
    have c12b0 := decide_eq_true c12
    have c12b1 : decide (2 < t406.length) = true := decide_eq_true (by omega)
    clear c12
    obtain ⟨t414, A13, H⟩ := oB H
    by_cases c14 : t414 = true
    ·subst c14
     rw [if_pos rfl] at H
     simp only [Option.some.injEq, Prod.mk.injEq] at H
     obtain ⟨rfl, rfl, rfl, rfl⟩ := H
     try go_wp2
     have n_ := aT (Kd.R_drew HO_4.out) (aT (blk_drew BK405.out) (aM (below_drew1 HB.out)))
     clear HO_4 BK405 HB
     obtain ⟨HO_4, BK405, HB⟩ := n_
     obtain ⟨Ao16, co16, eo16⟩ := Kd.R_slice HO_4.out
     (first | subst eo16 | (injection eo16 with f1_ f2_ f3_; have f4_ := f1_.symm; have f5_ := f3_.symm; clear f1_ f2_ f3_; subst f4_; subst f5_))
     have p410 : 0 ≤ (0 : Int) := (by omega)
     have q410 : 0 < (t406.length : Int) := of_decide_eq_true aA
     obtain ⟨ad410, e410, hx410_0⟩ := Kd.at_int (Kd.R_reads' HO_4.out).2.2 0 p410 q410
     cases e410
     have qi410 : (0 < t406.length) = True := eq_true (by omega)
     (try rw [show ((0 : Int)).toNat = 0 from rfl] at hx410_0)
     (try rw [Addr.add_zero'] at hx410_0)
     replace p410 := eq_true p410
     replace q410 := eq_true q410
     have p411 : 0 ≤ (1 : Int) := (by omega)
     have q411 : 1 < (t406.length : Int) := of_decide_eq_true aA
     obtain ⟨ad411, e411, hx411_0⟩ := Kd.at_int (Kd.R_reads' HO_4.out).2.2 1 p411 q411
     obtain rfl : ad410 = ad411 := (by injection e411)
     (try simp only [show (1 : Int).toNat = 1 from rfl, Nat.reduceMul, Nat.reduceEqDiff, Go.Addr.add, ↓reduceIte] at hx411_0)
     have qi411 : (1 < t406.length) = True := eq_true (by omega)
     (try rw [show ((1 : Int)).toNat = 1 from rfl] at hx411_0)
     replace p411 := eq_true p411
     replace q411 := eq_true q411
     have p412 : 0 ≤ (2 : Int) := (by omega)
     have q412 : 2 < (t406.length : Int) := of_decide_eq_true aA
     obtain ⟨ad412, e412, hx412_0⟩ := Kd.at_int (Kd.R_reads' HO_4.out).2.2 2 p412 q412
     obtain rfl : ad410 = ad412 := (by injection e412)
     (try simp only [show (2 : Int).toNat = 2 from rfl, Nat.reduceMul, Nat.reduceEqDiff, Go.Addr.add, ↓reduceIte] at hx412_0)
     have qi412 : (2 < t406.length) = True := eq_true (by omega)
     (try rw [show ((2 : Int)).toNat = 2 from rfl] at hx412_0)
     replace p412 := eq_true p412
     replace q412 := eq_true q412
     refine start_ (n := 12) (S := fun w' => w'.cell? ad410 = some (.int .i64 (rd t406 0)) ∧ w'.cell? ⟨ad410.block, ad410.off + 1, none⟩ = some (.int .i64 (rd t406 1)) ∧ w'.cell? ⟨ad410.block, ad410.off + 2, none⟩ = some (.int .i64 (rd t406 2))) (ds := []) _ (by kernel_rfl) rfl rfl ⟨hx410_0, hx411_0, hx412_0⟩ (fun hHeld => ?_); refine with_tabW impl_ReadRest.tab4 impl_ReadRest.bits4 (fun HT_ HW_ => ?_)
     generalize wc.drew = w15 at HO_4 BK405 HB hx410_0 hx411_0 hx412_0 hHeld ⊢
     refine pU HT_ 0 (some 20) (mk 12 1) rfl rfl (h := ?_)
     refine pU HT_ 1 (some 21) (mk 12 3) rfl rfl (h := ?_)
     refine pU HT_ 3 (some 23) (mk 12 11) rfl rfl (h := ?_)
     refine pU HT_ 4 (some 24) (mk 12 27) rfl rfl (h := ?_)
     refine pU HT_ 6 (some 26) (mk 12 91) rfl rfl (h := ?_)
     refine pU HT_ 7 (some 27) (mk 12 219) rfl rfl (h := ?_)
     refine tU HT_ HW_ 2 (some 22) (mk 12 223) hHeld rfl rfl (by rintro w' ⟨s0, s1, s2⟩; go_simp; with_reducible rfl) (h := ?_)
     refine tU HT_ HW_ 5 (some 25) (mk 12 255) hHeld rfl rfl (by rintro w' ⟨s0, s1, s2⟩; go_simp; with_reducible rfl) (h := ?_)
     refine tU HT_ HW_ 8 (some 28) (mk 12 511) hHeld rfl rfl (by rintro w' ⟨s0, s1, s2⟩; go_simp; with_reducible rfl) (h := ?_)
     refine pU HT_ 9 (some 29) (mk 12 1023) rfl rfl (h := ?_)
     refine one_ (i := 10) (N := some 6) (mk 12 2047) rfl rfl (one_of HT_.out (by kernel_rfl)) (by decide) (fun K hK => ?_)
     refine box_step ?hg (N := 6) ?hd (cs := #[.int .i64 0, .int .i64 0, .int .i64 0]) (t := 25) ?hr ?_; (case hd => rfl); (case hg => rfl); (case hr => first | (go_simp; done) | (go_simp; rfl))
     intro gb413 hg w17 hbox hb
     have HS0_ := (hb.cell (World.block_lt_of_cell? _ _ (hHeld.1))).trans (hHeld.1)
     have HS1_ := (hb.cell (World.block_lt_of_cell? _ _ (hHeld.2.1))).trans (hHeld.2.1)
     have HS2_ := (hb.cell (World.block_lt_of_cell? _ _ (hHeld.2.2))).trans (hHeld.2.2)
     have n0_ := Aside0.mk (rB HO_4 hb)
     have n1_ := Aside0.mk (bB BK405 hb)
     have n2_ := Aside0.mk (below_step bS hb)
     have n3_ := Aside0.mk (hbox)
     have n4_ := Aside0.mk ((bZ hg : w.heap.size ≤ gb413))
     have n5_ := Aside0.mk ((bZ hg : w.heap.size ≤ gb413))
     have n6_ := Aside0.mk (lB hg BK405)
     have n7_ := Aside0.mk (gB hg BK405)
     clear HO_4 BK405 HB
     have HO_4 := n0_
     have BK405 := n1_
     have HB := n2_
     have BK413 := n3_
     have GW413 := n4_
     have GE413 := n5_
     have NB405_413 := n6_
     have NB413_405 := n7_
     clear n0_ n1_ n2_ n3_ n4_ n5_ n6_ n7_ hb hbox hg
     refine hK.out _ _ ⟨HS0_, HS1_, HS2_⟩ (fun hHeld => ?_)
     clear hK K
     refine nO (some 6) (h := ?_)
     refine one_ (i := 11) (N := none) (mk 12 4095) rfl rfl (one_of HT_.out (by kernel_rfl)) (by decide) (fun K hK => ?_)
     have hs18 : w17.cell? ⟨gb413, 0, none⟩ = some (.int .i64 0) := (blk_cell BK413.out 0).trans rfl
     have hfs18 := blk_frozen BK413.out 0
     have hns18_0 := NB405_413.out
     have hms18_0 := NB413_405.out
     have hs19 : w17.cell? ⟨gb413, 1, none⟩ = some (.int .i64 0) := (blk_cell BK413.out 1).trans rfl
     have hfs19 := blk_frozen BK413.out 1
     have hns19_0 := NB405_413.out
     have hms19_0 := NB413_405.out
     have hs20 : w17.cell? ⟨gb413, 2, none⟩ = some (.int .i64 0) := (blk_cell BK413.out 2).trans rfl
     have hfs20 := blk_frozen BK413.out 2
     have hns20_0 := NB405_413.out
     have hms20_0 := NB413_405.out
     refine skip_ (w1 := ?_) (by rfl) rfl ?_ ?_
     rotate_left
     ·go_simp
      rfl
     refine hK.out _ _ ⟨((cell_far (p := ⟨gb413, _, none⟩) (oN HO_4 BK413) _).trans (((cell_far (p := ⟨gb413, _, none⟩) (oN HO_4 BK413) _).trans (((cell_far (p := ⟨gb413, _, none⟩) (oN HO_4 BK413) _).trans (hHeld.1)))))), ((cell_far (p := ⟨gb413, _, none⟩) (oN HO_4 BK413) _).trans (((cell_far (p := ⟨gb413, _, none⟩) (oN HO_4 BK413) _).trans (((cell_far (p := ⟨gb413, _, none⟩) (oN HO_4 BK413) _).trans (hHeld.2.1)))))), ((cell_far (p := ⟨gb413, _, none⟩) (oN HO_4 BK413) _).trans (((cell_far (p := ⟨gb413, _, none⟩) (oN HO_4 BK413) _).trans (((cell_far (p := ⟨gb413, _, none⟩) (oN HO_4 BK413) _).trans (hHeld.2.2))))))⟩ (fun hHeld => ?_)
     clear hK K
     refine done_ (done_of HT_.out (by kernel_rfl)) ?_
     have hnb21 := NB413_405.out
     have hnc21 := NB405_413.out
     obtain ⟨⟨hcz22_0, hcz22_1, hcz22_2⟩, hfz22_0, hfz22_1, hfz22_2⟩ := cF3 BK413
     try go_wp2_with (first | ((with_reducible refine gC 47 rfl ?_); refine gL (some 31) Try.func47 #[.agg #[.int .i64 (rd t406 0), .int .i64 (rd t406 1), .int .i64 (rd t406 2)]] ?_; (with_reducible refine (impl_RestOk.calls (rd t406 0) (rd t406 1) (rd t406 2) true _ A13.out).mono ?_); rintro e w23 ⟨rfl, hb⟩; refine ⟨_, rfl, ?_⟩; have n_ := aT (Kd.R_below (rF3 HO_4.out BK413.out) hb) (aT (bF NB405_413 BK405 hb) (aT (blk_below (g := gb413) (o := .cells #[.int .i64 (rd t406 0), .int .i64 (rd t406 1), .int .i64 (rd t406 2)] 25 (0, 0)) (bP BK413) hb) (aM (below_step bS hb)))); clear HO_4 BK405 BK413 HB; obtain ⟨HO_4, BK405, BK413, HB⟩ := n_; (try clear hb); obtain ⟨⟨hcz24_0, hcz24_1, hcz24_2⟩, hfz24_0, hfz24_1, hfz24_2⟩ := cF3 BK413; obtain ⟨⟨hcz25_0, hcz25_1, hcz25_2⟩, hfz25_0, hfz25_1, hfz25_2⟩ := cF3 BK405))
     refine bodyPost_ret (results_ct rfl _ _ gb405 25 #[.int .i64 (rd t406 0), .int .i64 (rd t406 1), .int .i64 (rd t406 2)] (0, 0) _ rfl (bP BK405) Try.underlying25 rfl (by kernel_rfl)) rfl ?_
     exact ⟨eE, bS⟩
    replace c14 := Bool.eq_false_iff.mpr c14
    subst c14
    rw [if_neg nF] at H
    simp only [Option.some.injEq, Prod.mk.injEq] at H
    obtain ⟨rfl, rfl, rfl, rfl⟩ := H
    try go_wp2
    have n_ := aT (Kd.R_drew HO_4.out) (aT (blk_drew BK405.out) (aM (below_drew1 HB.out)))
    clear HO_4 BK405 HB
    obtain ⟨HO_4, BK405, HB⟩ := n_
    obtain ⟨Ao27, co27, eo27⟩ := Kd.R_slice HO_4.out
    (first | subst eo27 | (injection eo27 with f1_ f2_ f3_; have f4_ := f1_.symm; have f5_ := f3_.symm; clear f1_ f2_ f3_; subst f4_; subst f5_))
    have p410 : 0 ≤ (0 : Int) := (by omega)
    have q410 : 0 < (t406.length : Int) := of_decide_eq_true aA
    obtain ⟨ad410, e410, hx410_0⟩ := Kd.at_int (Kd.R_reads' HO_4.out).2.2 0 p410 q410
    cases e410
    have qi410 : (0 < t406.length) = True := eq_true (by omega)
    (try rw [show ((0 : Int)).toNat = 0 from rfl] at hx410_0)
    (try rw [Addr.add_zero'] at hx410_0)
    replace p410 := eq_true p410
    replace q410 := eq_true q410
    have p411 : 0 ≤ (1 : Int) := (by omega)
    have q411 : 1 < (t406.length : Int) := of_decide_eq_true aA
    obtain ⟨ad411, e411, hx411_0⟩ := Kd.at_int (Kd.R_reads' HO_4.out).2.2 1 p411 q411
    obtain rfl : ad410 = ad411 := (by injection e411)
    (try simp only [show (1 : Int).toNat = 1 from rfl, Nat.reduceMul, Nat.reduceEqDiff, Go.Addr.add, ↓reduceIte] at hx411_0)
    have qi411 : (1 < t406.length) = True := eq_true (by omega)
    (try rw [show ((1 : Int)).toNat = 1 from rfl] at hx411_0)
    replace p411 := eq_true p411
    replace q411 := eq_true q411
    have p412 : 0 ≤ (2 : Int) := (by omega)
    have q412 : 2 < (t406.length : Int) := of_decide_eq_true aA
    obtain ⟨ad412, e412, hx412_0⟩ := Kd.at_int (Kd.R_reads' HO_4.out).2.2 2 p412 q412
    obtain rfl : ad410 = ad412 := (by injection e412)
    (try simp only [show (2 : Int).toNat = 2 from rfl, Nat.reduceMul, Nat.reduceEqDiff, Go.Addr.add, ↓reduceIte] at hx412_0)
    have qi412 : (2 < t406.length) = True := eq_true (by omega)
    (try rw [show ((2 : Int)).toNat = 2 from rfl] at hx412_0)
    replace p412 := eq_true p412
    replace q412 := eq_true q412
    refine start_ (n := 12) (S := fun w' => w'.cell? ad410 = some (.int .i64 (rd t406 0)) ∧ w'.cell? ⟨ad410.block, ad410.off + 1, none⟩ = some (.int .i64 (rd t406 1)) ∧ w'.cell? ⟨ad410.block, ad410.off + 2, none⟩ = some (.int .i64 (rd t406 2))) (ds := []) _ (by kernel_rfl) rfl rfl ⟨hx410_0, hx411_0, hx412_0⟩ (fun hHeld => ?_); refine with_tabW impl_ReadRest.tab4 impl_ReadRest.bits4 (fun HT_ HW_ => ?_)
    generalize wc.drew = w26 at HO_4 BK405 HB hx410_0 hx411_0 hx412_0 hHeld ⊢
    refine pU HT_ 0 (some 20) (mk 12 1) rfl rfl (h := ?_)
    refine pU HT_ 1 (some 21) (mk 12 3) rfl rfl (h := ?_)
    refine pU HT_ 3 (some 23) (mk 12 11) rfl rfl (h := ?_)
    refine pU HT_ 4 (some 24) (mk 12 27) rfl rfl (h := ?_)
    refine pU HT_ 6 (some 26) (mk 12 91) rfl rfl (h := ?_)
    refine pU HT_ 7 (some 27) (mk 12 219) rfl rfl (h := ?_)
    refine tU HT_ HW_ 2 (some 22) (mk 12 223) hHeld rfl rfl (by rintro w' ⟨s0, s1, s2⟩; go_simp; with_reducible rfl) (h := ?_)
    refine tU HT_ HW_ 5 (some 25) (mk 12 255) hHeld rfl rfl (by rintro w' ⟨s0, s1, s2⟩; go_simp; with_reducible rfl) (h := ?_)
    refine tU HT_ HW_ 8 (some 28) (mk 12 511) hHeld rfl rfl (by rintro w' ⟨s0, s1, s2⟩; go_simp; with_reducible rfl) (h := ?_)
    refine pU HT_ 9 (some 29) (mk 12 1023) rfl rfl (h := ?_)
    refine one_ (i := 10) (N := some 6) (mk 12 2047) rfl rfl (one_of HT_.out (by kernel_rfl)) (by decide) (fun K hK => ?_)
    refine box_step ?hg (N := 6) ?hd (cs := #[.int .i64 0, .int .i64 0, .int .i64 0]) (t := 25) ?hr ?_; (case hd => rfl); (case hg => rfl); (case hr => first | (go_simp; done) | (go_simp; rfl))
    intro gb413 hg w28 hbox hb
    have HS0_ := (hb.cell (World.block_lt_of_cell? _ _ (hHeld.1))).trans (hHeld.1)
    have HS1_ := (hb.cell (World.block_lt_of_cell? _ _ (hHeld.2.1))).trans (hHeld.2.1)
    have HS2_ := (hb.cell (World.block_lt_of_cell? _ _ (hHeld.2.2))).trans (hHeld.2.2)
    have n0_ := Aside0.mk (rB HO_4 hb)
    have n1_ := Aside0.mk (bB BK405 hb)
    have n2_ := Aside0.mk (below_step bS hb)
    have n3_ := Aside0.mk (hbox)
    have n4_ := Aside0.mk ((bZ hg : w.heap.size ≤ gb413))
    have n5_ := Aside0.mk ((bZ hg : w.heap.size ≤ gb413))
    have n6_ := Aside0.mk (lB hg BK405)
    have n7_ := Aside0.mk (gB hg BK405)
    clear HO_4 BK405 HB
    have HO_4 := n0_
    have BK405 := n1_
    have HB := n2_
    have BK413 := n3_
    have GW413 := n4_
    have GE413 := n5_
    have NB405_413 := n6_
    have NB413_405 := n7_
    clear n0_ n1_ n2_ n3_ n4_ n5_ n6_ n7_ hb hbox hg
    refine hK.out _ _ ⟨HS0_, HS1_, HS2_⟩ (fun hHeld => ?_)
    clear hK K
    refine nO (some 6) (h := ?_)
    refine one_ (i := 11) (N := none) (mk 12 4095) rfl rfl (one_of HT_.out (by kernel_rfl)) (by decide) (fun K hK => ?_)
    have hs29 : w28.cell? ⟨gb413, 0, none⟩ = some (.int .i64 0) := (blk_cell BK413.out 0).trans rfl
    have hfs29 := blk_frozen BK413.out 0
    have hns29_0 := NB405_413.out
    have hms29_0 := NB413_405.out
    have hs30 : w28.cell? ⟨gb413, 1, none⟩ = some (.int .i64 0) := (blk_cell BK413.out 1).trans rfl
    have hfs30 := blk_frozen BK413.out 1
    have hns30_0 := NB405_413.out
    have hms30_0 := NB413_405.out
    have hs31 : w28.cell? ⟨gb413, 2, none⟩ = some (.int .i64 0) := (blk_cell BK413.out 2).trans rfl
    have hfs31 := blk_frozen BK413.out 2
    have hns31_0 := NB405_413.out
    have hms31_0 := NB413_405.out
    refine skip_ (w1 := ?_) (by rfl) rfl ?_ ?_
    rotate_left
    ·go_simp
     rfl
    refine hK.out _ _ ⟨((cell_far (p := ⟨gb413, _, none⟩) (oN HO_4 BK413) _).trans (((cell_far (p := ⟨gb413, _, none⟩) (oN HO_4 BK413) _).trans (((cell_far (p := ⟨gb413, _, none⟩) (oN HO_4 BK413) _).trans (hHeld.1)))))), ((cell_far (p := ⟨gb413, _, none⟩) (oN HO_4 BK413) _).trans (((cell_far (p := ⟨gb413, _, none⟩) (oN HO_4 BK413) _).trans (((cell_far (p := ⟨gb413, _, none⟩) (oN HO_4 BK413) _).trans (hHeld.2.1)))))), ((cell_far (p := ⟨gb413, _, none⟩) (oN HO_4 BK413) _).trans (((cell_far (p := ⟨gb413, _, none⟩) (oN HO_4 BK413) _).trans (((cell_far (p := ⟨gb413, _, none⟩) (oN HO_4 BK413) _).trans (hHeld.2.2))))))⟩ (fun hHeld => ?_)
    clear hK K
    refine done_ (done_of HT_.out (by kernel_rfl)) ?_
    have hnb32 := NB413_405.out
    have hnc32 := NB405_413.out
    obtain ⟨⟨hcz33_0, hcz33_1, hcz33_2⟩, hfz33_0, hfz33_1, hfz33_2⟩ := cF3 BK413
    try go_wp2_with (first | ((with_reducible refine gC 47 rfl ?_); refine gL (some 31) Try.func47 #[.agg #[.int .i64 (rd t406 0), .int .i64 (rd t406 1), .int .i64 (rd t406 2)]] ?_; (with_reducible refine (impl_RestOk.calls (rd t406 0) (rd t406 1) (rd t406 2) false _ A13.out).mono ?_); rintro e w34 ⟨rfl, hb⟩; refine ⟨_, rfl, ?_⟩; have n_ := aT (Kd.R_below (rF3 HO_4.out BK413.out) hb) (aT (bF NB405_413 BK405 hb) (aT (blk_below (g := gb413) (o := .cells #[.int .i64 (rd t406 0), .int .i64 (rd t406 1), .int .i64 (rd t406 2)] 25 (0, 0)) (bP BK413) hb) (aM (below_step bS hb)))); clear HO_4 BK405 BK413 HB; obtain ⟨HO_4, BK405, BK413, HB⟩ := n_; (try clear hb); obtain ⟨⟨hcz35_0, hcz35_1, hcz35_2⟩, hfz35_0, hfz35_1, hfz35_2⟩ := cF3 BK405))
    refine bodyPost_ret (results_ct rfl _ _ gb405 25 #[.int .i64 0, .int .i64 0, .int .i64 0] (0, 0) _ rfl (bP BK405) Try.underlying25 rfl (by kernel_rfl)) rfl ?_
    exact ⟨eE, bS⟩
   rw [if_neg c12] at H
   exact absurd H (by simp)
  rw [if_neg c11] at H
  exact absurd H (by simp)
 rw [if_neg c10] at H
 exact absurd H (by simp)

end Go.Proofs.Ytaldemgfndmmlaa.OFnTickets
-- wrapped
-- halved
-- squeezed
-- squeezed2
-- squeezed3
