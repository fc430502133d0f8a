-- walks of this claim, written by a program of mine
import Derived.Test.YthlpfghlildllaaOFnKnownx0
import Derived.Test.YthlpfghlildllaaOFnKnownx2
import Derived.Test.YthlpfghlildllaaOFnKnownx3
namespace Go.Proofs.Ythlpfghlildllaa.OFnKnown
open Go.RowKit Go.Proofs.Ythlpfghlildllaa.OWord Go.Proofs.YthlpfghlildllaaW.PrintWords Go.Proofs.YthlpfghlildllaaW.PrintLast Go.Proofs.YthlpfghlildllaaW.PrintMore
attribute [local go_sem] max2_int min2_int max_two min_two max_three min_three max_four min_four   -- for this text's walks alone
set_option linter.unusedVariables false
set_option linter.unusedSimpArgs false

/-! ### spec_l2Some: function 42 -/
mutual
def spec_l2Some.j0 : Nat → Int → Int → Bool → List Int → Int → Int → Option (ByteArray × Int × Int)
 | 0, _, _, _, _, _, _ => none
 | k + 1, x1, x5, x15, x1000, x1001, x1002 => if x15 = true then ((spec_l1Below.f x1000 x1001 x1002 2).bind fun bt185 => (spec_l2Some.j1 k x1 bt185.1 x1000 bt185.2.1 bt185.2.2)) else (spec_l2Some.j1 k x1 x5 x1000 x1001 x1002)
def spec_l2Some.j1 : Nat → Int → Int → List Int → Int → Int → Option (ByteArray × Int × Int)
 | 0, _, _, _, _, _ => none
 | k + 1, x1, x5, x1000, x1001, x1002 => if x5 = 0 then ((spec_l1Text.f k x1000 x1001 x1002 5).bind fun bt188 => ((spec_Atom.f k bt188.1).bind fun t191 => (some (t191, bt188.2.1, bt188.2.2)))) else (if x5 = 1 then ((spec_l1Below.f x1000 x1001 x1002 6).bind fun bt192 => ((spec_KeyTerm.f k (wrap64 (1 + bt192.1))).bind fun t195 => (some (t195, bt192.2.1, bt192.2.2)))) else (if x5 = 2 then ((spec_l1Below.f x1000 x1001 x1002 6).bind fun bt196 => ((spec_l2Some.f k x1000 bt196.2.1 bt196.2.2 (wrap64 (x1 - 1))).bind fun bt199 => ((spec_Seal.f k (wrap64 (1 + bt196.1)) bt199.1).bind fun t202 => (some (t202, bt199.2.1, bt199.2.2))))) else ((spec_l1Below.f x1000 x1001 x1002 4).bind fun bt206 => (spec_l2Some.l0 k x1 (([] : List ByteArray)) bt206.1 x1000 bt206.2.1 bt206.2.2))))
def spec_l2Some.l0 : Nat → Int → List ByteArray → Int → List Int → Int → Int → Option (ByteArray × Int × Int)
 | 0, _, _, _, _, _, _ => none
 | k + 1, x1, x6, x7, x1000, x1001, x1002 => if x7 > 0 then ((spec_l2Some.f k x1000 x1001 x1002 (wrap64 (x1 - 1))).bind fun bt209 => (if x6.length < 8796093022208 then (spec_l2Some.l0 k x1 (x6 ++ [bt209.1]) (wrap64 (x7 - 1)) x1000 bt209.2.1 bt209.2.2) else (none))) else ((spec_List.f k x6).bind fun t215 => (some (t215, x1001, x1002)))
def spec_l2Some.f : Nat → List Int → Int → Int → Int → Option (ByteArray × Int × Int)
 | 0, _, _, _, _ => none
 | k + 1, s0_0, s0_1, s0_2, a1 => (spec_l1Below.f s0_0 s0_1 s0_2 5).bind fun bt182 => (if a1 < 2 then (spec_l2Some.j0 k a1 bt182.1 (decide (bt182.1 > 1)) s0_0 bt182.2.1 bt182.2.2) else (spec_l2Some.j0 k a1 bt182.1 false s0_0 bt182.2.1 bt182.2.2))
end
set_option maxHeartbeats 8000000 in
set_option maxRecDepth 100000 in
theorem spec_l2Some.calls (k : Nat) : ∀ (g : Nat) (s0_0 : List Int) (s0_1 : Int) (s0_2 : Int) (a1 : Int) (r1 : ByteArray) (r2 : Int) (r3 : Int) (w0 w : World) (hI : IsS81 w0 w g s0_0 s0_1 s0_2) (hB : Below w0.heap.size w0 w) (h : spec_l2Some.f k s0_0 s0_1 s0_2 a1 = some (r1, r2, r3)),
  Calls Try.prog 42 #[.pointer (some ⟨g, 0, none⟩), .int .i64 a1] w fun e w' => e = .returned (.string r1) ∧ IsS81 w0 w' g s0_0 r2 r3 ∧ Below w0.heap.size w0 w' ∧ KeepBut w w' g none := by
 induction k using Nat.strongRecOn with
 | _ k ih =>
 intro g s0_0 s0_1 s0_2 a1 r1 r2 r3 w0 w hI hB h
 cases k with
 | zero => exact absurd h (by simp [spec_l2Some.f])
 | succ k =>
 simp only [spec_l2Some.f] at h
 have HI0 := Aside0.mk hI
 have HK := Aside0.mk (KeepBut.refl w g none)
 have HL := Aside0.mk hB.size
 clear hI
 have HW0 := Aside0.mk hB.size
 have HB := Aside0.mk hB
 clear hB
 have H : ((spec_l1Below.f s0_0 s0_1 s0_2 5).bind fun bt182 => (if a1 < 2 then (spec_l2Some.j0 k a1 bt182.1 (decide (bt182.1 > 1)) s0_0 bt182.2.1 bt182.2.2) else (spec_l2Some.j0 k a1 bt182.1 false s0_0 bt182.2.1 bt182.2.2))) = some (r1, r2, r3) := h
 clear h
 obtain ⟨⟨t182, t183, t184⟩, A3, H⟩ := oB H
 dsimp only at H
 have HC4 := Aside0.mk H
 clear H
 go_enter Try.func42, Try.ntmps42
 go_upto_region 2 with (first | (refine gL 41 (some 9) Try.func41 #[.pointer (some ⟨g, 0, none⟩), .int .i64 5] ?_; (with_reducible refine (spec_l1Below.calls g s0_0 s0_1 s0_2 5 t182 t183 t184 w0 _ ?side1 ?side2 A3.out).mono ?_); (case side1 => exact IsS81.qHI0); (case side2 => exact IsS81.bHI0); rintro e w5 ⟨rfl, hi, hb, hk⟩; refine ⟨_, rfl, ?_⟩; have n_ := aT (KeepBut.trans kK hk (.inl rfl)) (aT (hb) (aM (hi))); clear HK HB HI0; obtain ⟨HK, HB, HI0⟩ := n_; (try clear hb); (try clear hk); (try clear hi)))
 (try simp only [Act.put, List.setIfInBounds_toArray, List.set_cons_zero, List.set_cons_succ])
 go_cut [15] (fun v15 wc => ∃ (kq : Nat) (x15_3 : Bool), v15 = .bool x15_3 ∧ Aside0 (spec_l2Some.j0 kq a1 t182 x15_3 s0_0 t183 t184 = some (r1, r2, r3)) ∧ Aside0 (kq ≤ k) ∧ Aside0 (IsS81 w0 wc g s0_0 t183 t184) ∧ Aside0 (KeepBut w wc g none) ∧ Aside0 (Below w0.heap.size w0 wc))
 case first =>
  have H := HC4.out
  clear HC4
  by_cases c6 : a1 < 2
  ·rw [if_pos c6] at H
   have c6b0 := decide_eq_true c6
   clear c6
   (first | rw [c6b0] | (simp only [i64_w, i32_w]; rw [c6b0]) | skip)
   have H' := Aside0.mk H
   clear H
   go_wp2
   go_meet
   case rel => exact ⟨_, (decide (t182 > 1)), eX, H', ⟨(by first | omega | exact Nat.le_refl _)⟩, ⟨IsS81.qHI0⟩, ⟨kK⟩, ⟨IsS81.bHI0⟩⟩
  rw [if_neg c6] at H
  have c6b0 := decide_eq_false c6
  clear c6
  (first | rw [c6b0] | (simp only [i64_w, i32_w]; rw [c6b0]) | skip)
  have H' := Aside0.mk H
  clear H
  go_wp2
  go_meet
  case rel => exact ⟨_, (false), eX, H', ⟨(by first | omega | exact Nat.le_refl _)⟩, ⟨IsS81.qHI0⟩, ⟨kK⟩, ⟨IsS81.bHI0⟩⟩
 case rest =>
  clear HC4
  obtain ⟨kq, x15_3, rfl, HA, HJ3, HI0, HK, HB⟩ := hcut
  cases kq with
  | zero => exact absurd HA.out (by simp [spec_l2Some.j0])
  | succ kj3 =>
   have H := HA.out
   clear HA
   simp only [spec_l2Some.j0] at H
   have HC7 := Aside0.mk H
   clear H
   go_upto_if 15 with (fail)
   go_cut [5] (fun v5 wc => ∃ (kq : Nat) (x5_6 : Int) (x1001_6 : Int) (x1002_6 : Int), v5 = .int .i64 x5_6 ∧ Aside0 (spec_l2Some.j1 kq a1 x5_6 s0_0 x1001_6 x1002_6 = some (r1, r2, r3)) ∧ Aside0 (kq ≤ kj3) ∧ Aside0 (IsS81 w0 wc g s0_0 x1001_6 x1002_6) ∧ Aside0 (KeepBut w wc g none) ∧ Aside0 (Below w0.heap.size w0 wc))
   case first =>
    have H := HC7.out
    clear HC7
    by_cases c8 : x15_3 = true
    ·subst c8
     rw [if_pos rfl] at H
     obtain ⟨⟨t185, t186, t187⟩, A9, H⟩ := oB H
     dsimp only at H
     have H' := Aside0.mk H
     clear H
     go_wp2_with (first | (refine gL 41 (some 17) Try.func41 #[.pointer (some ⟨g, 0, none⟩), .int .i64 2] ?_; (with_reducible refine (spec_l1Below.calls g s0_0 t183 t184 2 t185 t186 t187 w0 _ ?side1 ?side2 A9.out).mono ?_); (case side1 => exact IsS81.qHI0); (case side2 => exact IsS81.bHI0); rintro e w10 ⟨rfl, hi, hb, hk⟩; refine ⟨_, rfl, ?_⟩; have n_ := aT (KeepBut.trans kK hk (.inl rfl)) (aT (hb) (aM (hi))); clear HK HB HI0; obtain ⟨HK, HB, HI0⟩ := n_; (try clear hb); (try clear hk); (try clear hi)))
     go_meet
     case rel => exact ⟨_, (t185), (t186), (t187), eX, H', ⟨(by have := HJ3.out; first | omega | exact Nat.le_refl _)⟩, ⟨IsS81.qHI0⟩, ⟨kK⟩, ⟨IsS81.bHI0⟩⟩
    replace c8 := Bool.eq_false_iff.mpr c8
    subst c8
    rw [if_neg nF] at H
    have H' := Aside0.mk H
    clear H
    go_wp2
    go_meet
    case rel => exact ⟨_, (t182), (t183), (t184), eX, H', ⟨(by have := HJ3.out; first | omega | exact Nat.le_refl _)⟩, ⟨IsS81.qHI0⟩, ⟨kK⟩, ⟨IsS81.bHI0⟩⟩
   case rest =>
    clear HC7
    obtain ⟨kq, x5_6, x1001_6, x1002_6, rfl, HA, HJ6, HI0, HK, HB⟩ := hcut
    cases kq with
    | zero => exact absurd HA.out (by simp [spec_l2Some.j1])
    | succ kj6 =>
     have H := HA.out
     clear HA
     simp only [spec_l2Some.j1] at H
     by_cases c11 : x5_6 = 0
     ·rw [if_pos c11] at H
      have c11b0 : (x5_6 == 0) = true := beq_iff_eq.mpr c11
      have c11b1 : (x5_6 != 0) = false := bne_eq_false_iff_eq.mpr c11
      clear c11
      obtain ⟨⟨t188, t189, t190⟩, A12, H⟩ := oB H
      dsimp only at H
      obtain ⟨t191, A13, H⟩ := oB H
      simp only [Option.some.injEq, Prod.mk.injEq] at H
      obtain ⟨rfl, rfl, rfl⟩ := H
      go_wp2_with (first | (refine gL 73 (some 22) Try.func73 #[.pointer (some ⟨g, 0, none⟩), .int .i64 5] ?_; (with_reducible refine (spec_l1Text.calls kj6 g s0_0 x1001_6 x1002_6 5 t188 t189 t190 w0 _ ?side1 ?side2 A12.out).mono ?_); (case side1 => exact IsS81.qHI0); (case side2 => exact IsS81.bHI0); rintro e w14 ⟨rfl, hi, hb, hk⟩; refine ⟨_, rfl, ?_⟩; have n_ := aT (KeepBut.trans kK hk (.inl rfl)) (aT (hb) (aM (hi))); clear HK HB HI0; obtain ⟨HK, HB, HI0⟩ := n_; (try clear hb); (try clear hk); (try clear hi)) | (refine gL 20 (some 23) Try.func20 #[.string t188] ?_; (with_reducible refine (spec_Atom.calls kj6 t188 t191 _ A13.out).mono ?_); rintro e w15 ⟨rfl, hb⟩; refine ⟨_, rfl, ?_⟩; have n_ := aT (IsS81.below IsS81.qHI0 hb) (aT (KeepBut.trans kK (KeepBut.of_below hb g none) (.inl rfl)) (aM (below_step IsS81.bHI0 hb))); clear HI0 HK HB; obtain ⟨HI0, HK, HB⟩ := n_; (try clear hb)))
      go_ret
      exact ⟨eE, IsS81.qHI0, IsS81.bHI0, kK⟩
     rw [if_neg c11] at H
     have c11b0 : (x5_6 == 0) = false := beq_eq_false_iff_ne.mpr c11
     have c11b1 : (x5_6 != 0) = true := bne_iff_ne.mpr c11
     by_cases c16 : x5_6 = 1
     ·rw [if_pos c16] at H
      have c16b0 : (x5_6 == 1) = true := beq_iff_eq.mpr c16
      have c16b1 : (x5_6 != 1) = false := bne_eq_false_iff_eq.mpr c16
      clear c16
      obtain ⟨⟨t192, t193, t194⟩, A17, H⟩ := oB H
      dsimp only at H
      obtain ⟨t195, A18, H⟩ := oB H
      simp only [Option.some.injEq, Prod.mk.injEq] at H
      obtain ⟨rfl, rfl, rfl⟩ := H
      go_wp2_with (first | (refine gL 41 (some 27) Try.func41 #[.pointer (some ⟨g, 0, none⟩), .int .i64 6] ?_; (with_reducible refine (spec_l1Below.calls g s0_0 x1001_6 x1002_6 6 t192 t193 t194 w0 _ ?side1 ?side2 A17.out).mono ?_); (case side1 => exact IsS81.qHI0); (case side2 => exact IsS81.bHI0); rintro e w19 ⟨rfl, hi, hb, hk⟩; refine ⟨_, rfl, ?_⟩; have n_ := aT (KeepBut.trans kK hk (.inl rfl)) (aT (hb) (aM (hi))); clear HK HB HI0; obtain ⟨HK, HB, HI0⟩ := n_; (try clear hb); (try clear hk); (try clear hi)) | (refine gL 74 (some 29) Try.func74 #[.int .i64 (wrap64 (1 + t192))] ?_; (with_reducible refine (spec_KeyTerm.calls kj6 (wrap64 (1 + t192)) t195 _ A18.out).mono ?_); rintro e w20 ⟨rfl, hb⟩; refine ⟨_, rfl, ?_⟩; have n_ := aT (IsS81.below IsS81.qHI0 hb) (aT (KeepBut.trans kK (KeepBut.of_below hb g none) (.inl rfl)) (aM (below_step IsS81.bHI0 hb))); clear HI0 HK HB; obtain ⟨HI0, HK, HB⟩ := n_; (try clear hb)))
      go_ret
      exact ⟨eE, IsS81.qHI0, IsS81.bHI0, kK⟩
     rw [if_neg c16] at H
     have c16b0 : (x5_6 == 1) = false := beq_eq_false_iff_ne.mpr c16
     have c16b1 : (x5_6 != 1) = true := bne_iff_ne.mpr c16
     by_cases c21 : x5_6 = 2
     ·rw [if_pos c21] at H
      have c21b0 : (x5_6 == 2) = true := beq_iff_eq.mpr c21
      have c21b1 : (x5_6 != 2) = false := bne_eq_false_iff_eq.mpr c21
      clear c21
      obtain ⟨⟨t196, t197, t198⟩, A22, H⟩ := oB H
      dsimp only at H
      obtain ⟨⟨t199, t200, t201⟩, A23, H⟩ := oB H
      dsimp only at H
      obtain ⟨t202, A24, H⟩ := oB H
      simp only [Option.some.injEq, Prod.mk.injEq] at H
      obtain ⟨rfl, rfl, rfl⟩ := H
      go_wp2_with (first | (refine gL 41 (some 33) Try.func41 #[.pointer (some ⟨g, 0, none⟩), .int .i64 6] ?_; (with_reducible refine (spec_l1Below.calls g s0_0 x1001_6 x1002_6 6 t196 t197 t198 w0 _ ?side1 ?side2 A22.out).mono ?_); (case side1 => exact IsS81.qHI0); (case side2 => exact IsS81.bHI0); rintro e w25 ⟨rfl, hi, hb, hk⟩; refine ⟨_, rfl, ?_⟩; have n_ := aT (KeepBut.trans kK hk (.inl rfl)) (aT (hb) (aM (hi))); clear HK HB HI0; obtain ⟨HK, HB, HI0⟩ := n_; (try clear hb); (try clear hk); (try clear hi)) | (refine gL 42 (some 38) Try.func42 #[.pointer (some ⟨g, 0, none⟩), .int .i64 (wrap64 (a1 - 1))] ?_; (with_reducible refine (ih kj6 (by have := HJ3.out; have := HJ6.out; omega) g s0_0 t197 t198 (wrap64 (a1 - 1)) t199 t200 t201 w0 _ ?side1 ?side2 A23.out).mono ?_); (case side1 => exact IsS81.qHI0); (case side2 => exact IsS81.bHI0); rintro e w26 ⟨rfl, hi, hb, hk⟩; refine ⟨_, rfl, ?_⟩; have n_ := aT (KeepBut.trans kK hk (.inl rfl)) (aT (hb) (aM (hi))); clear HK HB HI0; obtain ⟨HK, HB, HI0⟩ := n_; (try clear hb); (try clear hk); (try clear hi)) | (refine gL 15 (some 39) Try.func15 #[.int .i64 (wrap64 (1 + t196)), .string t199] ?_; (with_reducible refine (spec_Seal.calls kj6 (wrap64 (1 + t196)) t199 t202 _ A24.out).mono ?_); rintro e w27 ⟨rfl, hb⟩; refine ⟨_, rfl, ?_⟩; have n_ := aT (IsS81.below IsS81.qHI0 hb) (aT (KeepBut.trans kK (KeepBut.of_below hb g none) (.inl rfl)) (aM (below_step IsS81.bHI0 hb))); clear HI0 HK HB; obtain ⟨HI0, HK, HB⟩ := n_; (try clear hb)))
      go_ret
      exact ⟨eE, IsS81.qHI0, IsS81.bHI0, kK⟩
     rw [if_neg c21] at H
     have c21b0 : (x5_6 == 2) = false := beq_eq_false_iff_ne.mpr c21
     have c21b1 : (x5_6 != 2) = true := bne_iff_ne.mpr c21
     obtain ⟨y203, hy203⟩ : ∃ y_ : List ByteArray, y_ = (([] : List ByteArray)) := ⟨_, rfl⟩
     replace H : ((spec_l1Below.f s0_0 x1001_6 x1002_6 4).bind fun bt206 => (spec_l2Some.l0 kj6 a1 y203 bt206.1 s0_0 bt206.2.1 bt206.2.2)) = some (r1, r2, r3) := by first | (rw [hy203]; with_reducible exact H) | (have H2_ := (Option.bind_some _ _).symm.trans H; rw [hy203]; with_reducible exact H2_) | (have H2_ := (Option.bind_some _ _).symm.trans H; with_reducible exact H2_) | with_reducible exact H | (rw [hy203]; exact H) | exact H
     have Ny203 := Aside0.mk hy203
     clear hy203
     obtain ⟨⟨t206, t207, t208⟩, A28, H⟩ := oB H
     dsimp only at H
     have H' := Aside0.mk H
     clear H
     go_wp2_with (first | ((with_reducible refine gate_dst (N := 40) rfl ?_); refine Kd.R_lit Kd.string _ 9 ?hg (N := 40) ?hd (xs := ([] : List ByteArray)) (inner := []) (ok := fun _ => True) (okp := fun _ => True) ?hr ?hp (fun _ hk => hk) trivial (Below.refl _ _) (Nat.le_refl _) (by simp) ?_; (case hd => rfl); (case hg => rfl); (case hr => first | (go_simp; done) | (go_simp; rfl)); (case hp => exact (Reps.none _ _)); intro v204 w29 ho30 hb hg_ hnew_; clear hg_ hnew_; (first | rw [← Ny203.out] at ho30 | (simp only [Int.reduceToNat] at ho30; rw [← Ny203.out] at ho30)); have n_ := aT (Kd.R_lower ho30 kL) (aT (IsS81.below IsS81.qHI0 hb) (aT (KeepBut.trans kK (KeepBut.of_below hb g none) (.inl rfl)) (aM (below_step IsS81.bHI0 hb)))); clear HI0 HK HB; obtain ⟨HO205, HI0, HK, HB⟩ := n_; clear hb ho30) | (refine gL 41 (some 42) Try.func41 #[.pointer (some ⟨g, 0, none⟩), .int .i64 4] ?_; (with_reducible refine (spec_l1Below.calls g s0_0 x1001_6 x1002_6 4 t206 t207 t208 w0 _ ?side1 ?side2 A28.out).mono ?_); (case side1 => exact IsS81.qHI0); (case side2 => exact IsS81.bHI0); rintro e w31 ⟨rfl, hi, hb, hk⟩; refine ⟨_, rfl, ?_⟩; have n_ := aT (IsS81.rK hk (kR HO205.out) (show IsS81 w0 _ g s0_0 x1001_6 x1002_6 from IsS81.qHI0)) (aT (KeepBut.trans kK hk (.inl rfl)) (aT (hb) (aM (hi)))); clear HO205 HK HB HI0; obtain ⟨HO205, HK, HB, HI0⟩ := n_; (try clear hb); (try clear hk); (try clear hi)))
     go_loopg [6, 7] kj6 (fun kq v6 v7 w' => ∃ (x6_3 : List ByteArray) (x7_3 : Int) (x1001_3 : Int) (x1002_3 : Int), v7 = .int .i64 x7_3 ∧ Aside0 (spec_l2Some.l0 kq a1 x6_3 x7_3 s0_0 x1001_3 x1002_3 = some (r1, r2, r3)) ∧ Aside0 (kq ≤ kj6) ∧ Aside0 (Kd.R Kd.string 9 w' w.heap.size (fun _ => True) v6 x6_3) ∧ Aside0 (IsS81 w0 w' g s0_0 x1001_3 x1002_3) ∧ Aside0 (KeepBut w w' g none) ∧ Aside0 (Below w0.heap.size w0 w'))
     case atStart => exact ⟨(y203), (t206), (t207), (t208), eX, H', ⟨Nat.le_refl _⟩, ⟨(kR HO205.out)⟩, ⟨IsS81.qHI0⟩, ⟨kK⟩, ⟨IsS81.bHI0⟩⟩
     case round =>
      clear H'
      try clear c11
      try clear c11b0
      try clear c11b1
      try clear c16
      try clear c16b0
      try clear c16b1
      try clear c21
      try clear c21b0
      try clear c21b1
      obtain ⟨x6_3, x7_3, x1001_3, x1002_3, rfl, HA, HK3, HO_6, HI0, HK, HB⟩ := hrel
      cases gk with
      | zero => exact absurd HA.out (by simp [spec_l2Some.l0])
      | succ k3 =>
       have H := HA.out
       clear HA
       simp only [spec_l2Some.l0] at H
       by_cases c32 : x7_3 > 0
       ·rw [if_pos c32] at H
        have c32b0 : decide (0 < x7_3) = true := decide_eq_true c32
        clear c32
        obtain ⟨⟨t209, t210, t211⟩, A33, H⟩ := oB H
        dsimp only at H
        by_cases c34 : x6_3.length < 8796093022208
        ·rw [if_pos c34] at H
         have LMc34 := Aside0.mk c34
         clear c34
         obtain ⟨y212, hy212⟩ : ∃ y_ : List ByteArray, y_ = (x6_3 ++ [t209]) := ⟨_, rfl⟩
         replace H : (spec_l2Some.l0 k3 a1 y212 (wrap64 (x7_3 - 1)) s0_0 t210 t211) = some (r1, r2, r3) := by first | (rw [hy212]; with_reducible exact H) | (have H2_ := (Option.bind_some _ _).symm.trans H; rw [hy212]; with_reducible exact H2_) | (have H2_ := (Option.bind_some _ _).symm.trans H; with_reducible exact H2_) | with_reducible exact H | (rw [hy212]; exact H) | exact H
         have Ny212 := Aside0.mk hy212
         clear hy212
         have H' := Aside0.mk H
         clear H
         go_wp2_with (first | (refine gL 42 (some 51) Try.func42 #[.pointer (some ⟨g, 0, none⟩), .int .i64 (wrap64 (a1 - 1))] ?_; (with_reducible refine (ih k3 (by have := HJ3.out; have := HJ6.out; have := HK3.out; omega) g s0_0 x1001_3 x1002_3 (wrap64 (a1 - 1)) t209 t210 t211 w0 _ ?side1 ?side2 A33.out).mono ?_); (case side1 => exact IsS81.qHI0); (case side2 => exact IsS81.bHI0); rintro e w35 ⟨rfl, hi, hb, hk⟩; refine ⟨_, rfl, ?_⟩; have n_ := aT (IsS81.rK hk (kR HO_6.out) (show IsS81 w0 _ g s0_0 x1001_3 x1002_3 from IsS81.qHI0)) (aT (KeepBut.trans kK hk (.inl rfl)) (aT (hb) (aM (hi)))); clear HO_6 HK HB HI0; obtain ⟨HO_6, HK, HB, HI0⟩ := n_; (try clear hb); (try clear hk); (try clear hi)) | ((with_reducible refine gate_builtin (b := .append) (xs := #[.tmp 47, .tmp 52]) rfl ?_); at_builtin; refine Kd.R_append Kd.string w.heap.size rfl (.tmp 47) (.tmp 52) 24 9 (.string ⟨#[]⟩) 16 rfl Try.underlying24 info9 rfl (by decide) (by omega) u6 x6_3 t209 [.string t209] (fun _ => True) (fun _ => False) rfl rfl ?aP (fun _ hk => hk.elim) ?aF ?aO (Below.refl _ _) ?aS ?aL ?_; (case aP => exact rfl); (case aF => exact (fun _ _ => trivial)); (case aO => exact (kR HO_6.out)); (case aS => exact kL); (case aL => have := LMc34.out; omega); intro v213 w36 ho hb hg hat; rw [← Ny212.out] at ho; have n_ := aT (IsS81.grown IsS81.qHI0 hg (IsS81.own_ne HI0.out HO_6.out (by decide))) (aT (below_weaken IsS81.bHI0 HL.out hb) (aT (KeepBut.trans kK (KeepBut.of_grown hg g) (Kd.R_base2 HO_6.out)) (aM (ho)))); clear HI0 HB HK HO_6; obtain ⟨HI0, HB, HK, HO214⟩ := n_; clear ho hb hg hat))
         go_roundg k3
         case measure => have := HJ3.out; have := HJ6.out; have := HK3.out; omega
         case rel => exact ⟨(y212), (wrap64 (x7_3 - 1)), (t210), (t211), eX, H', ⟨(by have := HJ3.out; have := HJ6.out; have := HK3.out; omega)⟩, ⟨(kR HO214.out)⟩, ⟨IsS81.qHI0⟩, ⟨kK⟩, ⟨IsS81.bHI0⟩⟩
        rw [if_neg c34] at H
        exact absurd H (by simp)
       rw [if_neg c32] at H
       have c32b0 : decide (0 < x7_3) = false := decide_eq_false c32
       clear c32
       obtain ⟨t215, A37, H⟩ := oB H
       simp only [Option.some.injEq, Prod.mk.injEq] at H
       obtain ⟨rfl, rfl, rfl⟩ := H
       obtain ⟨Ao38, co38, eo38⟩ := Kd.R_slice HO_6.out
       subst eo38
       go_wp2_with (first | (refine gL 19 (some 55) Try.func19 #[.slice Ao38 x6_3.length co38] ?_; (with_reducible refine (spec_List.calls k3 _ _ x6_3 t215 _ ?side1 ?side2 A37.out).mono ?_); (case side1 => exact cA ((Kd.R_reads' HO_6.out).2.2)); (case side2 => exact (Kd.R_reads' HO_6.out).2.1); rintro e w39 ⟨rfl, hb⟩; refine ⟨_, rfl, ?_⟩; have n_ := aT (Kd.R_below (kR HO_6.out) hb) (aT (IsS81.below IsS81.qHI0 hb) (aT (KeepBut.trans kK (KeepBut.of_below hb g none) (.inl rfl)) (aM (below_step IsS81.bHI0 hb)))); clear HO_6 HI0 HK HB; obtain ⟨HO_6, HI0, HK, HB⟩ := n_; (try clear hb)))
       go_ret
       exact ⟨eE, IsS81.qHI0, IsS81.bHI0, kK⟩

end Go.Proofs.Ythlpfghlildllaa.OFnKnown
-- wrapped
-- halved
-- squeezed
-- squeezed2
-- squeezed3
