-- walks of this claim, written by a program of mine
import Derived.Test.YthlpfghlildllaaOFnKnownx0
import Derived.Test.YthlpfghlildllaaOFnKnownx3
namespace Go.Proofs.Ythlpfghlildllaa.OFnKnown
open Go.RowKit Go.Proofs.Ythlpfghlildllaa.OWord Go.Proofs.YthlpfghlildllaaW.PrintWords Go.Proofs.YthlpfghlildllaaW.PrintLast Go.Proofs.YthlpfghlildllaaW.PrintMore
attribute [local go_sem] max2_int min2_int max_two min_two max_three min_three max_four min_four   -- for this text's walks alone
set_option linter.unusedVariables false
set_option linter.unusedSimpArgs false

/-! ### spec_l1Spoil: function 71 -/
def spec_l1Spoil.f (k : Nat) (s0_0 : List Int) (s0_1 : Int) (s0_2 : Int) (a1 : ByteArray) : Option (ByteArray × Int × Int) := if (a1.size : Int) = 0 then ((spec_l1Text.f k s0_0 s0_1 s0_2 3).bind fun bt216 => (some (bt216.1, bt216.2.1, bt216.2.2))) else ((spec_l1Below.f s0_0 s0_1 s0_2 (a1.size : Int)).bind fun bt219 => ((spec_l1Below.f s0_0 bt219.2.1 bt219.2.2 4).bind fun bt222 => (if bt222.1 = 0 then (if 0 ≤ bt219.1 then (if bt219.1 ≤ (a1.size : Int) then (if 0 ≤ (wrap64 (bt219.1 + 1)) then (if (wrap64 (bt219.1 + 1)) ≤ (a1.size : Int) then (if (a1.extract 0 (bt219.1 : Int).toNat).size + (a1.extract ((wrap64 (bt219.1 + 1)) : Int).toNat a1.size).size ≤ 9223372036854775807 then (some ((a1.extract 0 (bt219.1 : Int).toNat) ++ (a1.extract ((wrap64 (bt219.1 + 1)) : Int).toNat a1.size), bt222.2.1, bt222.2.2)) else (none)) else (none)) else (none)) else (none)) else (none)) else (if bt222.1 = 1 then (if 0 ≤ bt219.1 then (if bt219.1 ≤ (a1.size : Int) then ((spec_l1Byte.f s0_0 bt222.2.1 bt222.2.2).bind fun bt225 => ((some (([(bt225.1) % 256] : List Int) : List Int)).bind fun y228 => (if (a1.extract 0 (bt219.1 : Int).toNat).size + (strOfNums y228).size ≤ 9223372036854775807 then (if ((a1.extract 0 (bt219.1 : Int).toNat) ++ (strOfNums y228)).size + (a1.extract (bt219.1 : Int).toNat a1.size).size ≤ 9223372036854775807 then (some (((a1.extract 0 (bt219.1 : Int).toNat) ++ (strOfNums y228)) ++ (a1.extract (bt219.1 : Int).toNat a1.size), bt225.2.1, bt225.2.2)) else (none)) else (none)))) else (none)) else (none)) else (if bt222.1 = 2 then (if 0 ≤ bt219.1 then (if bt219.1 ≤ (a1.size : Int) then (some (a1.extract 0 (bt219.1 : Int).toNat, bt222.2.1, bt222.2.2)) else (none)) else (none)) else (if 0 ≤ bt219.1 then (if bt219.1 ≤ (a1.size : Int) then (if bt219.1 < (a1.size : Int) then ((spec_l1Below.f s0_0 bt222.2.1 bt222.2.2 255).bind fun bt231 => ((some (([(Go.bits .xor .i64 (wrap64 (bt a1 bt219.1)) (wrap64 (1 + bt231.1))) % 256] : List Int) : List Int)).bind fun y234 => (if (a1.extract 0 (bt219.1 : Int).toNat).size + (strOfNums y234).size ≤ 9223372036854775807 then (if 0 ≤ (wrap64 (bt219.1 + 1)) then (if (wrap64 (bt219.1 + 1)) ≤ (a1.size : Int) then (if ((a1.extract 0 (bt219.1 : Int).toNat) ++ (strOfNums y234)).size + (a1.extract ((wrap64 (bt219.1 + 1)) : Int).toNat a1.size).size ≤ 9223372036854775807 then (some (((a1.extract 0 (bt219.1 : Int).toNat) ++ (strOfNums y234)) ++ (a1.extract ((wrap64 (bt219.1 + 1)) : Int).toNat a1.size), bt231.2.1, bt231.2.2)) else (none)) else (none)) else (none)) else (none)))) else (none)) else (none)) else (none)))))))
def spec_l1Spoil.T6 : Bool × List (List Nat × List Nat) := (true, [([], []), ([], []), ([0, 1], [0, 1]), ([], []), ([], []), ([4], [4]), ([3, 5], [3, 5]), ([2, 6], [2, 6]), ([7, 0, 1, 2, 3, 4, 5, 6, 7], [7])])
def spec_l1Spoil.B6 : List Nat := [0, 0, 3, 0, 0, 16, 56, 127, 255]
theorem spec_l1Spoil.tab6 : rtab .any (opsOf Try.f71 6) = spec_l1Spoil.T6 := by kernel_rfl
theorem spec_l1Spoil.bits6 : waitsOk spec_l1Spoil.T6.2 spec_l1Spoil.B6 = true := by kernel_rfl
def spec_l1Spoil.T8 : Bool × List (List Nat × List Nat) := (true, [([], []), ([], []), ([0, 1], [0, 1]), ([], []), ([3], [3]), ([4], [4]), ([5], [5]), ([6], [6]), ([2, 7], [2, 7]), ([], []), ([], []), ([9, 10], [9, 10]), ([8, 11], [8, 11]), ([12, 4, 0, 1, 2, 3, 4, 5, 6, 7, 8, 9, 10, 11, 12], [12])])
def spec_l1Spoil.B8 : List Nat := [0, 0, 3, 0, 8, 24, 56, 120, 255, 0, 0, 1536, 4095, 8191]
theorem spec_l1Spoil.tab8 : rtab .any (opsOf Try.f71 8) = spec_l1Spoil.T8 := by kernel_rfl
theorem spec_l1Spoil.bits8 : waitsOk spec_l1Spoil.T8.2 spec_l1Spoil.B8 = true := by kernel_rfl
def spec_l1Spoil.T11 : Bool × List (List Nat × List Nat) := (true, [([], []), ([], []), ([0, 1], [0, 1]), ([], []), ([], []), ([3, 4], [3, 4]), ([5], [5]), ([], []), ([7], [7]), ([8], [8]), ([6, 9], [6, 9]), ([10], [10]), ([11], [11]), ([12], [12]), ([2, 13], [2, 13]), ([], []), ([], []), ([16], [16]), ([15, 17], [15, 17]), ([14, 18], [14, 18]), ([19, 8, 0, 1, 2, 3, 4, 5, 6, 7, 8, 9, 10, 11, 12, 13, 14, 15, 16, 17, 18, 19], [19])])
def spec_l1Spoil.B11 : List Nat := [0, 0, 3, 0, 0, 24, 56, 0, 128, 384, 1016, 2040, 4088, 8184, 16383, 0, 0, 65536, 229376, 524287, 1048575]
theorem spec_l1Spoil.tab11 : rtab .any (opsOf Try.f71 11) = spec_l1Spoil.T11 := by kernel_rfl
theorem spec_l1Spoil.bits11 : waitsOk spec_l1Spoil.T11.2 spec_l1Spoil.B11 = true := by kernel_rfl
set_option maxHeartbeats 8000000 in
set_option maxRecDepth 100000 in
theorem spec_l1Spoil.calls (k : Nat) (g : Nat) (s0_0 : List Int) (s0_1 : Int) (s0_2 : Int) (a1 : ByteArray) (r1 : ByteArray) (r2 : Int) (r3 : Int) (w0 w : World) (hI : IsS81 w0 w g s0_0 s0_1 s0_2) (hB : Below w0.heap.size w0 w) (h : spec_l1Spoil.f k s0_0 s0_1 s0_2 a1 = some (r1, r2, r3)) :
  Calls Try.prog 71 #[.pointer (some ⟨g, 0, none⟩), .string a1] w fun e w' => e = .returned (.string r1) ∧ IsS81 w0 w' g s0_0 r2 r3 ∧ Below w0.heap.size w0 w' ∧ KeepBut w w' g none := by
 have HI0 := Aside0.mk hI
 have HK := Aside0.mk (KeepBut.refl w g none)
 have HL := Aside0.mk hB.size
 clear hI
 have HW0 := Aside0.mk hB.size
 have HB := Aside0.mk hB
 clear hB
 have H := h
 clear h
 unfold spec_l1Spoil.f at H
 by_cases c3 : (a1.size : Int) = 0
 ·rw [if_pos c3] at H
  have c3b0 : ((a1.size : Int) == 0) = true := beq_iff_eq.mpr c3
  have c3b1 : ((a1.size : Int) != 0) = false := bne_eq_false_iff_eq.mpr c3
  clear c3
  obtain ⟨⟨t216, t217, t218⟩, A4, H⟩ := oB H
  dsimp only at H
  simp only [Option.some.injEq, Prod.mk.injEq] at H
  obtain ⟨rfl, rfl, rfl⟩ := H
  go_enter Try.func71, Try.ntmps71
  go_wp2_with (first | (refine gL 73 (some 10) Try.func73 #[.pointer (some ⟨g, 0, none⟩), .int .i64 3] ?_; (with_reducible refine (spec_l1Text.calls k g s0_0 s0_1 s0_2 3 t216 t217 t218 w0 _ ?side1 ?side2 A4.out).mono ?_); (case side1 => exact IsS81.qHI0); (case side2 => exact IsS81.bHI0); rintro e w5 ⟨rfl, hi, hb, hk⟩; refine ⟨_, rfl, ?_⟩; have n_ := aT (KeepBut.trans kK hk (.inl rfl)) (aT (hb) (aM (hi))); clear HK HB HI0; obtain ⟨HK, HB, HI0⟩ := n_; (try clear hb); (try clear hk); (try clear hi)))
  go_ret
  exact ⟨eE, IsS81.qHI0, IsS81.bHI0, kK⟩
 rw [if_neg c3] at H
 have c3b0 : ((a1.size : Int) == 0) = false := beq_eq_false_iff_ne.mpr c3
 have c3b1 : ((a1.size : Int) != 0) = true := bne_iff_ne.mpr c3
 obtain ⟨⟨t219, t220, t221⟩, A6, H⟩ := oB H
 dsimp only at H
 obtain ⟨⟨t222, t223, t224⟩, A7, H⟩ := oB H
 dsimp only at H
 by_cases c8 : t222 = 0
 ·rw [if_pos c8] at H
  have c8b0 : (t222 == 0) = true := beq_iff_eq.mpr c8
  have c8b1 : (t222 != 0) = false := bne_eq_false_iff_eq.mpr c8
  clear c8
  by_cases c9 : 0 ≤ t219
  ·rw [if_pos c9] at H
   have c9b0 := eq_true c9
   have c9b1 := decide_eq_true c9
   clear c9
   by_cases c10 : t219 ≤ (a1.size : Int)
   ·rw [if_pos c10] at H
    have c10b0 := eq_true c10
    have c10b1 := decide_eq_true c10
    clear c10
    obtain ⟨ji11, hji11⟩ : ∃ j_ : Int, (wrap64 (t219 + 1)) = j_ := ⟨_, rfl⟩
    replace H : (if 0 ≤ (ji11) then (if (ji11) ≤ (a1.size : Int) then (if (a1.extract 0 (t219 : Int).toNat).size + (a1.extract ((ji11) : Int).toNat a1.size).size ≤ 9223372036854775807 then (some ((a1.extract 0 (t219 : Int).toNat) ++ (a1.extract ((ji11) : Int).toNat a1.size), t223, t224)) else (none)) else (none)) else (none)) = some (r1, r2, r3) := by first | (rw [hji11] at H; exact H) | (simp only [hji11] at H ⊢; exact H)
    (try rw [hji11] at A6)
    (try rw [hji11] at A7)
    have hji11w : (IntKind.i64.wrap (t219 + 1)) = ji11 := (i64_w _).trans hji11
    by_cases c12 : 0 ≤ (ji11)
    ·rw [if_pos c12] at H
     have c12b0 := eq_true c12
     have c12b1 := decide_eq_true c12
     clear c12
     by_cases c13 : (ji11) ≤ (a1.size : Int)
     ·rw [if_pos c13] at H
      have c13b0 := eq_true c13
      have c13b1 := decide_eq_true c13
      clear c13
      by_cases c14 : (a1.extract 0 (t219 : Int).toNat).size + (a1.extract ((ji11) : Int).toNat a1.size).size ≤ 9223372036854775807
      ·rw [if_pos c14] at H
       have c14b0 := eq_true c14
       have c14b1 := decide_eq_true c14
       try have c14b2 : (9223372036854775807 < (a1.extract 0 (t219 : Int).toNat).size + (a1.extract ((ji11) : Int).toNat a1.size).size) = False := eq_false (Nat.not_lt.2 c14)
       try have c14b3 : (9223372036854775807 < t219.toNat + (a1.size - ji11.toNat)) = False := eq_false (by have h_ := c14; simp only [ByteArray.size_append, ByteArray.size_extract] at h_; have b0_ : (t219 : Int) ≤ (a1.size : Int) := of_decide_eq_true (by assumption); omega)
       simp only [Option.some.injEq, Prod.mk.injEq] at H
       obtain ⟨rfl, rfl, rfl⟩ := H
       go_enter Try.func71, Try.ntmps71
       try go_wp2_with (first | (refine gL 41 (some 14) Try.func41 #[.pointer (some ⟨g, 0, none⟩), .int .i64 (a1.size : Int)] ?_; (with_reducible refine (spec_l1Below.calls g s0_0 s0_1 s0_2 (a1.size : Int) t219 t220 t221 w0 _ ?side1 ?side2 A6.out).mono ?_); (case side1 => exact IsS81.qHI0); (case side2 => exact IsS81.bHI0); rintro e w15 ⟨rfl, hi, hb, hk⟩; refine ⟨_, rfl, ?_⟩; have n_ := aT (KeepBut.trans kK hk (.inl rfl)) (aT (hb) (aM (hi))); clear HK HB HI0; obtain ⟨HK, HB, HI0⟩ := n_; (try clear hb); (try clear hk); (try clear hi)) | (refine gL 41 (some 16) Try.func41 #[.pointer (some ⟨g, 0, none⟩), .int .i64 4] ?_; (with_reducible refine (spec_l1Below.calls g s0_0 t220 t221 4 t222 t223 t224 w0 _ ?side1 ?side2 A7.out).mono ?_); (case side1 => exact IsS81.qHI0); (case side2 => exact IsS81.bHI0); rintro e w16 ⟨rfl, hi, hb, hk⟩; refine ⟨_, rfl, ?_⟩; have n_ := aT (KeepBut.trans kK hk (.inl rfl)) (aT (hb) (aM (hi))); clear HK HB HI0; obtain ⟨HK, HB, HI0⟩ := n_; (try clear hb); (try clear hk); (try clear hi)))
       have n_ := aT (IsS81.drew HI0.out) (aT (keep_drew HK.out) (aM (below_drew1 HB.out)))
       clear HI0 HK HB
       obtain ⟨HI0, HK, HB⟩ := n_
       refine start_ (n := 9) (S := fun w' => True) (ds := []) _ (by kernel_rfl) rfl rfl trivial (fun hHeld => ?_); refine with_tabW spec_l1Spoil.tab6 spec_l1Spoil.bits6 (fun HT_ HW_ => ?_)
       generalize w16.drew = w17 at HI0 HK HB hHeld ⊢
       refine pU HT_ 0 (some 19) (mk 9 1) rfl rfl (h := ?_)
       refine pU HT_ 1 (some 20) (mk 9 3) rfl rfl (h := ?_)
       refine pU HT_ 2 (some 21) (mk 9 7) rfl rfl (h := ?_)
       refine pU HT_ 3 (some 22) (mk 9 15) rfl rfl (h := ?_)
       refine pU HT_ 4 (some 23) (mk 9 31) rfl rfl (h := ?_)
       refine pU HT_ 5 (some 24) (mk 9 63) rfl rfl (h := ?_)
       refine pU HT_ 6 (some 25) (mk 9 127) rfl rfl (h := ?_)
       refine pU HT_ 7 (some 26) (mk 9 255) rfl rfl (h := ?_)
       refine pU HT_ 8 (some 4) (mk 9 511) rfl rfl (h := ?_)
       refine done_ (done_of HT_.out (by kernel_rfl)) ?_
       try go_wp2
       go_ret
       exact ⟨(by first | rfl | (simp [errW_none, errW_some] <;> rfl) | (simp only [← hji11]; first | rfl | (simp [errW_none, errW_some] <;> rfl)) | (simp [*, errW_none, errW_some] <;> rfl)), IsS81.qHI0, IsS81.bHI0, kK⟩
      rw [if_neg c14] at H
      exact absurd H (by simp)
     rw [if_neg c13] at H
     exact absurd H (by simp)
    rw [if_neg c12] at H
    exact absurd H (by simp)
   rw [if_neg c10] at H
   exact absurd H (by simp)
  rw [if_neg c9] at H
  exact absurd H (by simp)
 rw [if_neg c8] at H
 have c8b0 : (t222 == 0) = false := beq_eq_false_iff_ne.mpr c8
 have c8b1 : (t222 != 0) = true := bne_iff_ne.mpr c8
 by_cases c18 : t222 = 1
 ·rw [if_pos c18] at H
  have c18b0 : (t222 == 1) = true := beq_iff_eq.mpr c18
  have c18b1 : (t222 != 1) = false := bne_eq_false_iff_eq.mpr c18
  clear c18
  by_cases c19 : 0 ≤ t219
  ·rw [if_pos c19] at H
   have c19b0 := eq_true c19
   have c19b1 := decide_eq_true c19
   clear c19
   by_cases c20 : t219 ≤ (a1.size : Int)
   ·rw [if_pos c20] at H
    have c20b0 := eq_true c20
    have c20b1 := decide_eq_true c20
    clear c20
    obtain ⟨⟨t225, t226, t227⟩, A21, H⟩ := oB H
    dsimp only at H
    obtain ⟨y228, hy228⟩ : ∃ y_ : List Int, y_ = (([(t225) % 256] : List Int)) := ⟨_, rfl⟩
    replace H : (if (a1.extract 0 (t219 : Int).toNat).size + (strOfNums y228).size ≤ 9223372036854775807 then (if ((a1.extract 0 (t219 : Int).toNat) ++ (strOfNums y228)).size + (a1.extract (t219 : Int).toNat a1.size).size ≤ 9223372036854775807 then (some (((a1.extract 0 (t219 : Int).toNat) ++ (strOfNums y228)) ++ (a1.extract (t219 : Int).toNat a1.size), t226, t227)) else (none)) else (none)) = some (r1, r2, r3) := by first | (rw [hy228]; with_reducible exact H) | (have H2_ := (Option.bind_some _ _).symm.trans H; rw [hy228]; with_reducible exact H2_) | (have H2_ := (Option.bind_some _ _).symm.trans H; with_reducible exact H2_) | with_reducible exact H | (rw [hy228]; exact H) | exact H
    have Ny228 := Aside0.mk hy228
    clear hy228
    by_cases c22 : (a1.extract 0 (t219 : Int).toNat).size + (strOfNums y228).size ≤ 9223372036854775807
    ·rw [if_pos c22] at H
     have c22b0 := eq_true c22
     have c22b1 := decide_eq_true c22
     try have c22b2 : (9223372036854775807 < (a1.extract 0 (t219 : Int).toNat).size + (strOfNums y228).size) = False := eq_false (Nat.not_lt.2 c22)
     try have c22b3 : (9223372036854775807 < t219.toNat + (strOfNums y228).size) = False := eq_false (by have h_ := c22; simp only [ByteArray.size_append, ByteArray.size_extract] at h_; have b0_ : (t219 : Int) ≤ (a1.size : Int) := of_decide_eq_true (by assumption); omega)
     have c23b0 := eq_true (of_decide_eq_true aA : 0 ≤ t219)
     have c24b0 := eq_true (of_decide_eq_true aA : t219 ≤ (a1.size : Int))
     by_cases c25 : ((a1.extract 0 (t219 : Int).toNat) ++ (strOfNums y228)).size + (a1.extract (t219 : Int).toNat a1.size).size ≤ 9223372036854775807
     ·rw [if_pos c25] at H
      have c25b0 := eq_true c25
      have c25b1 := decide_eq_true c25
      try have c25b2 : (9223372036854775807 < ((a1.extract 0 (t219 : Int).toNat) ++ (strOfNums y228)).size + (a1.extract (t219 : Int).toNat a1.size).size) = False := eq_false (Nat.not_lt.2 c25)
      try have c25b3 : (9223372036854775807 < t219.toNat + (strOfNums y228).size + (a1.size - t219.toNat)) = False := eq_false (by have h_ := c25; simp only [ByteArray.size_append, ByteArray.size_extract] at h_; have b0_ : (t219 : Int) ≤ (a1.size : Int) := of_decide_eq_true (by assumption); omega)
      simp only [Option.some.injEq, Prod.mk.injEq] at H
      obtain ⟨rfl, rfl, rfl⟩ := H
      go_enter Try.func71, Try.ntmps71
      try go_wp2_with (first | (refine gL 41 (some 14) Try.func41 #[.pointer (some ⟨g, 0, none⟩), .int .i64 (a1.size : Int)] ?_; (with_reducible refine (spec_l1Below.calls g s0_0 s0_1 s0_2 (a1.size : Int) t219 t220 t221 w0 _ ?side1 ?side2 A6.out).mono ?_); (case side1 => exact IsS81.qHI0); (case side2 => exact IsS81.bHI0); rintro e w26 ⟨rfl, hi, hb, hk⟩; refine ⟨_, rfl, ?_⟩; have n_ := aT (KeepBut.trans kK hk (.inl rfl)) (aT (hb) (aM (hi))); clear HK HB HI0; obtain ⟨HK, HB, HI0⟩ := n_; (try clear hb); (try clear hk); (try clear hi)) | (refine gL 41 (some 16) Try.func41 #[.pointer (some ⟨g, 0, none⟩), .int .i64 4] ?_; (with_reducible refine (spec_l1Below.calls g s0_0 t220 t221 4 t222 t223 t224 w0 _ ?side1 ?side2 A7.out).mono ?_); (case side1 => exact IsS81.qHI0); (case side2 => exact IsS81.bHI0); rintro e w27 ⟨rfl, hi, hb, hk⟩; refine ⟨_, rfl, ?_⟩; have n_ := aT (KeepBut.trans kK hk (.inl rfl)) (aT (hb) (aM (hi))); clear HK HB HI0; obtain ⟨HK, HB, HI0⟩ := n_; (try clear hb); (try clear hk); (try clear hi)))
      have n_ := aT (IsS81.drew HI0.out) (aT (keep_drew HK.out) (aM (below_drew1 HB.out)))
      clear HI0 HK HB
      obtain ⟨HI0, HK, HB⟩ := n_
      refine start_ (n := 14) (S := fun w' => True) (ds := []) _ (by kernel_rfl) rfl rfl trivial (fun hHeld => ?_); refine with_tabW spec_l1Spoil.tab8 spec_l1Spoil.bits8 (fun HT_ HW_ => ?_)
      generalize w27.drew = w28 at HI0 HK HB hHeld ⊢
      refine pU HT_ 0 (some 29) (mk 14 1) rfl rfl (h := ?_)
      refine pU HT_ 1 (some 30) (mk 14 3) rfl rfl (h := ?_)
      refine pU HT_ 2 (some 31) (mk 14 7) rfl rfl (h := ?_)
      refine pU HT_ 3 (some 32) (mk 14 15) rfl rfl (h := ?_)
      refine pU HT_ 9 (some 38) (mk 14 527) rfl rfl (h := ?_)
      refine pU HT_ 10 (some 39) (mk 14 1551) rfl rfl (h := ?_)
      refine pU HT_ 11 (some 40) (mk 14 3599) rfl rfl (h := ?_)
      refine one_ (i := 4) (N := some 33) (mk 14 3615) rfl rfl (one_of HT_.out (by kernel_rfl)) (by decide) (fun K hK => ?_)
      refine goes_ Try.func72 (by kernel_rfl) rfl #[.pointer (some ⟨g, 0, none⟩)] (by rfl) rfl rfl eA ?_
      with_reducible refine (spec_l1Byte.calls g s0_0 t223 t224 t225 t226 t227 w0 _ ?side1 ?side2 A21.out).mono ?_
      (case side1 => exact IsS81.qHI0)
      (case side2 => exact IsS81.bHI0)
      rintro e w29 ⟨rfl, hi, hb, hk⟩
      refine ⟨_, rfl, ?_⟩
      have n_ := aT (KeepBut.trans kK hk (.inl rfl)) (aT (hb) (aM (hi)))
      clear HK HB HI0
      obtain ⟨HK, HB, HI0⟩ := n_
      (try clear hb)
      (try clear hb2)
      (try clear hk)
      (try clear hi)
      refine hK.out _ _ trivial (fun hHeld => ?_)
      clear hK K
      refine nO (some 33) (h := ?_)
      refine pU HT_ 5 (some 34) (mk 14 3647) rfl rfl (h := ?_)
      refine one_ (i := 6) (N := some 35) (mk 14 3711) rfl rfl (one_of HT_.out (by kernel_rfl)) (by decide) (fun K hK => ?_)
      refine Kd.R_lit_step (Kd.int .u8) _ 5 ?hg (N := 35) ?hd (xs := ([(t225) % 256] : List Int)) (inner := [.int .u8 ((t225) % 256)]) (ok := fun _ => True) (okp := fun _ => True) ?hr ?hp (fun _ hk => hk) trivial (Below.refl _ _) (Nat.le_refl _) (by simp) ?_; (case hd => rfl); (case hg => rfl); (case hr => first | (go_simp; done) | (go_simp; rfl)); (case hp => exact (Reps.one (show Kd.M (Kd.int .u8) _ _ _ ((t225) % 256) [.int .u8 ((t225) % 256)] from rfl) (Reps.none _ _)))
      intro v229 w30 ho31 hb hg_ hnew_
      clear hg_ hnew_
      (first | rw [← Ny228.out] at ho31 | (simp only [Int.reduceToNat] at ho31; rw [← Ny228.out] at ho31))
      have n0_ := Aside0.mk (Kd.R_lower ho31 kL)
      have n1_ := Aside0.mk (IsS81.below IsS81.qHI0 hb)
      have n2_ := Aside0.mk (KeepBut.trans kK (KeepBut.of_below hb g none) (.inl rfl))
      have n3_ := Aside0.mk (below_step IsS81.bHI0 hb)
      clear HI0 HK HB
      have HO230 := n0_
      have HI0 := n1_
      have HK := n2_
      have HB := n3_
      clear n0_ n1_ n2_ n3_ hb ho31
      refine hK.out _ _ trivial (fun hHeld => ?_)
      clear hK K
      refine nO (some 35) (h := ?_)
      refine one_ (i := 7) (N := some 36) (mk 14 3839) rfl rfl (one_of HT_.out (by kernel_rfl)) (by decide) (fun K hK => ?_)
      have hcv32 := own_string (P := Try.prog) Try.underlying22 Try.underlying5 Try.underlying9 (Kd.own_of_R HO230.out)
      refine value_ (w1 := ?_) (v := ?_) (by rfl) rfl ?_ ?_
      rotate_left 2
      ·go_simp
       constructor
       ·rfl
       rfl
      clear hcv32
      refine hK.out _ _ trivial (fun hHeld => ?_)
      clear hK K
      refine nO (some 36) (h := ?_)
      refine pU HT_ 8 (some 37) (mk 14 4095) rfl rfl (h := ?_)
      refine pU HT_ 12 (some 41) (mk 14 8191) rfl rfl (h := ?_)
      refine pU HT_ 13 (some 4) (mk 14 16383) rfl rfl (h := ?_)
      refine done_ (done_of HT_.out (by kernel_rfl)) ?_
      try go_wp2
      go_ret
      exact ⟨eE, IsS81.qHI0, IsS81.bHI0, kK⟩
     rw [if_neg c25] at H
     exact absurd H (by simp)
    rw [if_neg c22] at H
    exact absurd H (by simp)
   rw [if_neg c20] at H
   exact absurd H (by simp)
  rw [if_neg c19] at H
  exact absurd H (by simp)
 rw [if_neg c18] at H
 have c18b0 : (t222 == 1) = false := beq_eq_false_iff_ne.mpr c18
 have c18b1 : (t222 != 1) = true := bne_iff_ne.mpr c18
 by_cases c33 : t222 = 2
 ·rw [if_pos c33] at H
  have c33b0 : (t222 == 2) = true := beq_iff_eq.mpr c33
  have c33b1 : (t222 != 2) = false := bne_eq_false_iff_eq.mpr c33
  clear c33
  by_cases c34 : 0 ≤ t219
  ·rw [if_pos c34] at H
   have c34b0 := eq_true c34
   have c34b1 := decide_eq_true c34
   clear c34
   by_cases c35 : t219 ≤ (a1.size : Int)
   ·rw [if_pos c35] at H
    have c35b0 := eq_true c35
    have c35b1 := decide_eq_true c35
    clear c35
    simp only [Option.some.injEq, Prod.mk.injEq] at H
    obtain ⟨rfl, rfl, rfl⟩ := H
    go_enter Try.func71, Try.ntmps71
    go_wp2_with (first | (refine gL 41 (some 14) Try.func41 #[.pointer (some ⟨g, 0, none⟩), .int .i64 (a1.size : Int)] ?_; (with_reducible refine (spec_l1Below.calls g s0_0 s0_1 s0_2 (a1.size : Int) t219 t220 t221 w0 _ ?side1 ?side2 A6.out).mono ?_); (case side1 => exact IsS81.qHI0); (case side2 => exact IsS81.bHI0); rintro e w36 ⟨rfl, hi, hb, hk⟩; refine ⟨_, rfl, ?_⟩; have n_ := aT (KeepBut.trans kK hk (.inl rfl)) (aT (hb) (aM (hi))); clear HK HB HI0; obtain ⟨HK, HB, HI0⟩ := n_; (try clear hb); (try clear hk); (try clear hi)) | (refine gL 41 (some 16) Try.func41 #[.pointer (some ⟨g, 0, none⟩), .int .i64 4] ?_; (with_reducible refine (spec_l1Below.calls g s0_0 t220 t221 4 t222 t223 t224 w0 _ ?side1 ?side2 A7.out).mono ?_); (case side1 => exact IsS81.qHI0); (case side2 => exact IsS81.bHI0); rintro e w37 ⟨rfl, hi, hb, hk⟩; refine ⟨_, rfl, ?_⟩; have n_ := aT (KeepBut.trans kK hk (.inl rfl)) (aT (hb) (aM (hi))); clear HK HB HI0; obtain ⟨HK, HB, HI0⟩ := n_; (try clear hb); (try clear hk); (try clear hi)))
    go_ret
    exact ⟨eE, IsS81.qHI0, IsS81.bHI0, kK⟩
   rw [if_neg c35] at H
   exact absurd H (by simp)
  rw [if_neg c34] at H
  exact absurd H (by simp)
 rw [if_neg c33] at H
 have c33b0 : (t222 == 2) = false := beq_eq_false_iff_ne.mpr c33
 have c33b1 : (t222 != 2) = true := bne_iff_ne.mpr c33
 by_cases c38 : 0 ≤ t219
 ·rw [if_pos c38] at H
  have c38b0 := eq_true c38
  have c38b1 := decide_eq_true c38
  clear c38
  by_cases c39 : t219 ≤ (a1.size : Int)
  ·rw [if_pos c39] at H
   have c39b0 := eq_true c39
   have c39b1 := decide_eq_true c39
   clear c39
   by_cases c40 : t219 < (a1.size : Int)
   ·rw [if_pos c40] at H
    have c40b0 := decide_eq_true c40
    clear c40
    obtain ⟨⟨t231, t232, t233⟩, A42, H⟩ := oB H
    dsimp only at H
    obtain ⟨y234, hy234⟩ : ∃ y_ : List Int, y_ = (([(Go.bits .xor .i64 (wrap64 (bt a1 t219)) (wrap64 (1 + t231))) % 256] : List Int)) := ⟨_, rfl⟩
    replace H : (if (a1.extract 0 (t219 : Int).toNat).size + (strOfNums y234).size ≤ 9223372036854775807 then (if 0 ≤ (wrap64 (t219 + 1)) then (if (wrap64 (t219 + 1)) ≤ (a1.size : Int) then (if ((a1.extract 0 (t219 : Int).toNat) ++ (strOfNums y234)).size + (a1.extract ((wrap64 (t219 + 1)) : Int).toNat a1.size).size ≤ 9223372036854775807 then (some (((a1.extract 0 (t219 : Int).toNat) ++ (strOfNums y234)) ++ (a1.extract ((wrap64 (t219 + 1)) : Int).toNat a1.size), t232, t233)) else (none)) else (none)) else (none)) else (none)) = some (r1, r2, r3) := by first | (rw [hy234]; with_reducible exact H) | (have H2_ := (Option.bind_some _ _).symm.trans H; rw [hy234]; with_reducible exact H2_) | (have H2_ := (Option.bind_some _ _).symm.trans H; with_reducible exact H2_) | with_reducible exact H | (rw [hy234]; exact H) | exact H
    have Ny234 := Aside0.mk hy234
    clear hy234
    by_cases c43 : (a1.extract 0 (t219 : Int).toNat).size + (strOfNums y234).size ≤ 9223372036854775807
    ·rw [if_pos c43] at H
     have c43b0 := eq_true c43
     have c43b1 := decide_eq_true c43
     try have c43b2 : (9223372036854775807 < (a1.extract 0 (t219 : Int).toNat).size + (strOfNums y234).size) = False := eq_false (Nat.not_lt.2 c43)
     try have c43b3 : (9223372036854775807 < t219.toNat + (strOfNums y234).size) = False := eq_false (by have h_ := c43; simp only [ByteArray.size_append, ByteArray.size_extract] at h_; have b0_ : (t219 : Int) ≤ (a1.size : Int) := of_decide_eq_true (by assumption); omega)
     obtain ⟨ji44, hji44⟩ : ∃ j_ : Int, (wrap64 (t219 + 1)) = j_ := ⟨_, rfl⟩
     replace H : (if 0 ≤ (ji44) then (if (ji44) ≤ (a1.size : Int) then (if ((a1.extract 0 (t219 : Int).toNat) ++ (strOfNums y234)).size + (a1.extract ((ji44) : Int).toNat a1.size).size ≤ 9223372036854775807 then (some (((a1.extract 0 (t219 : Int).toNat) ++ (strOfNums y234)) ++ (a1.extract ((ji44) : Int).toNat a1.size), t232, t233)) else (none)) else (none)) else (none)) = some (r1, r2, r3) := by first | (rw [hji44] at H; exact H) | (simp only [hji44] at H ⊢; exact H)
     (try rw [hji44] at A6)
     (try rw [hji44] at A7)
     (try rw [hji44] at A42)
     have hji44w : (IntKind.i64.wrap (t219 + 1)) = ji44 := (i64_w _).trans hji44
     by_cases c45 : 0 ≤ (ji44)
     ·rw [if_pos c45] at H
      have c45b0 := eq_true c45
      have c45b1 := decide_eq_true c45
      clear c45
      by_cases c46 : (ji44) ≤ (a1.size : Int)
      ·rw [if_pos c46] at H
       have c46b0 := eq_true c46
       have c46b1 := decide_eq_true c46
       clear c46
       by_cases c47 : ((a1.extract 0 (t219 : Int).toNat) ++ (strOfNums y234)).size + (a1.extract ((ji44) : Int).toNat a1.size).size ≤ 9223372036854775807
       ·rw [if_pos c47] at H
        have c47b0 := eq_true c47
        have c47b1 := decide_eq_true c47
        try have c47b2 : (9223372036854775807 < ((a1.extract 0 (t219 : Int).toNat) ++ (strOfNums y234)).size + (a1.extract ((ji44) : Int).toNat a1.size).size) = False := eq_false (Nat.not_lt.2 c47)
        try have c47b3 : (9223372036854775807 < t219.toNat + (strOfNums y234).size + (a1.size - ji44.toNat)) = False := eq_false (by have h_ := c47; simp only [ByteArray.size_append, ByteArray.size_extract] at h_; have b0_ : (t219 : Int) ≤ (a1.size : Int) := of_decide_eq_true (by assumption); omega)
        simp only [Option.some.injEq, Prod.mk.injEq] at H
        obtain ⟨rfl, rfl, rfl⟩ := H
        go_enter Try.func71, Try.ntmps71
        try go_wp2_with (first | (refine gL 41 (some 14) Try.func41 #[.pointer (some ⟨g, 0, none⟩), .int .i64 (a1.size : Int)] ?_; (with_reducible refine (spec_l1Below.calls g s0_0 s0_1 s0_2 (a1.size : Int) t219 t220 t221 w0 _ ?side1 ?side2 A6.out).mono ?_); (case side1 => exact IsS81.qHI0); (case side2 => exact IsS81.bHI0); rintro e w48 ⟨rfl, hi, hb, hk⟩; refine ⟨_, rfl, ?_⟩; have n_ := aT (KeepBut.trans kK hk (.inl rfl)) (aT (hb) (aM (hi))); clear HK HB HI0; obtain ⟨HK, HB, HI0⟩ := n_; (try clear hb); (try clear hk); (try clear hi)) | (refine gL 41 (some 16) Try.func41 #[.pointer (some ⟨g, 0, none⟩), .int .i64 4] ?_; (with_reducible refine (spec_l1Below.calls g s0_0 t220 t221 4 t222 t223 t224 w0 _ ?side1 ?side2 A7.out).mono ?_); (case side1 => exact IsS81.qHI0); (case side2 => exact IsS81.bHI0); rintro e w49 ⟨rfl, hi, hb, hk⟩; refine ⟨_, rfl, ?_⟩; have n_ := aT (KeepBut.trans kK hk (.inl rfl)) (aT (hb) (aM (hi))); clear HK HB HI0; obtain ⟨HK, HB, HI0⟩ := n_; (try clear hb); (try clear hk); (try clear hi)))
        have n_ := aT (IsS81.drew HI0.out) (aT (keep_drew HK.out) (aM (below_drew1 HB.out)))
        clear HI0 HK HB
        obtain ⟨HI0, HK, HB⟩ := n_
        have p41 : 0 ≤ (t219 : Int) := of_decide_eq_true aA
        have q41 : t219 < (a1.size : Int) := of_decide_eq_true aA
        have hx41 := bt_at a1 t219
        replace p41 := eq_true p41
        replace q41 := eq_true q41
        refine start_ (n := 21) (S := fun w' => True) (ds := []) _ (by kernel_rfl) rfl rfl trivial (fun hHeld => ?_); refine with_tabW spec_l1Spoil.tab11 spec_l1Spoil.bits11 (fun HT_ HW_ => ?_)
        generalize w49.drew = w50 at HI0 HK HB hHeld ⊢
        refine pU HT_ 0 (some 47) (mk 21 1) rfl rfl (h := ?_)
        refine pU HT_ 1 (some 48) (mk 21 3) rfl rfl (h := ?_)
        refine pU HT_ 2 (some 49) (mk 21 7) rfl rfl (h := ?_)
        refine pU HT_ 3 (some 50) (mk 21 15) rfl rfl (h := ?_)
        refine pU HT_ 4 (some 51) (mk 21 31) rfl rfl (h := ?_)
        refine pU HT_ 7 (some 54) (mk 21 159) rfl rfl (h := ?_)
        refine pU HT_ 15 (some 62) (mk 21 32927) rfl rfl (h := ?_)
        refine pU HT_ 16 (some 63) (mk 21 98463) rfl rfl (h := ?_)
        refine pU HT_ 17 (some 64) (mk 21 229535) rfl rfl (h := ?_)
        refine pU HT_ 18 (some 65) (mk 21 491679) rfl rfl (h := ?_)
        refine take_ (i := 5) (N := some 52) (v := ?_) (a' := ?_) (mk 21 491711) rfl rfl (take_ofW HT_.out HW_.out (by kernel_rfl)) (fun _ _ _ h => h) (Or.inl ⟨by rfl, ?_⟩) hHeld ?_ ?_
        rotate_left
        ·intro w' _
         go_simp
         with_reducible rfl
        rotate_left
        ·simp only [Act.put, List.setIfInBounds_toArray, List.set_cons_zero, List.set_cons_succ, i64_w, i32_w]
         rfl
        refine pU HT_ 6 (some 53) (mk 21 491775) rfl rfl (h := ?_)
        refine one_ (i := 8) (N := some 55) (mk 21 492031) rfl rfl (one_of HT_.out (by kernel_rfl)) (by decide) (fun K hK => ?_)
        refine goes_ Try.func41 (by kernel_rfl) rfl #[.pointer (some ⟨g, 0, none⟩), .int .i64 255] (by rfl) rfl rfl eA ?_
        with_reducible refine (spec_l1Below.calls g s0_0 t223 t224 255 t231 t232 t233 w0 _ ?side1 ?side2 A42.out).mono ?_
        (case side1 => exact IsS81.qHI0)
        (case side2 => exact IsS81.bHI0)
        rintro e w51 ⟨rfl, hi, hb, hk⟩
        refine ⟨_, rfl, ?_⟩
        have n_ := aT (KeepBut.trans kK hk (.inl rfl)) (aT (hb) (aM (hi)))
        clear HK HB HI0
        obtain ⟨HK, HB, HI0⟩ := n_
        (try clear hb)
        (try clear hb2)
        (try clear hk)
        (try clear hi)
        refine hK.out _ _ trivial (fun hHeld => ?_)
        clear hK K
        refine nO (some 55) (h := ?_)
        refine pU HT_ 9 (some 56) (mk 21 492543) rfl rfl (h := ?_)
        refine pU HT_ 10 (some 57) (mk 21 493567) rfl rfl (h := ?_)
        refine pU HT_ 11 (some 58) (mk 21 495615) rfl rfl (h := ?_)
        refine one_ (i := 12) (N := some 59) (mk 21 499711) rfl rfl (one_of HT_.out (by kernel_rfl)) (by decide) (fun K hK => ?_)
        refine Kd.R_lit_step (Kd.int .u8) _ 5 ?hg (N := 59) ?hd (xs := ([(Go.bits .xor .i64 (wrap64 (bt a1 t219)) (wrap64 (1 + t231))) % 256] : List Int)) (inner := [.int .u8 ((Go.bits .xor .i64 (wrap64 (bt a1 t219)) (wrap64 (1 + t231))) % 256)]) (ok := fun _ => True) (okp := fun _ => True) ?hr ?hp (fun _ hk => hk) trivial (Below.refl _ _) (Nat.le_refl _) (by simp) ?_; (case hd => rfl); (case hg => rfl); (case hr => first | (go_simp; done) | (go_simp; rfl)); (case hp => exact (Reps.one (show Kd.M (Kd.int .u8) _ _ _ ((Go.bits .xor .i64 (wrap64 (bt a1 t219)) (wrap64 (1 + t231))) % 256) [.int .u8 ((Go.bits .xor .i64 (wrap64 (bt a1 t219)) (wrap64 (1 + t231))) % 256)] from rfl) (Reps.none _ _)))
        intro v235 w52 ho53 hb hg_ hnew_
        clear hg_ hnew_
        (first | rw [← Ny234.out] at ho53 | (simp only [Int.reduceToNat] at ho53; rw [← Ny234.out] at ho53))
        have n0_ := Aside0.mk (Kd.R_lower ho53 kL)
        have n1_ := Aside0.mk (IsS81.below IsS81.qHI0 hb)
        have n2_ := Aside0.mk (KeepBut.trans kK (KeepBut.of_below hb g none) (.inl rfl))
        have n3_ := Aside0.mk (below_step IsS81.bHI0 hb)
        clear HI0 HK HB
        have HO236 := n0_
        have HI0 := n1_
        have HK := n2_
        have HB := n3_
        clear n0_ n1_ n2_ n3_ hb ho53
        refine hK.out _ _ trivial (fun hHeld => ?_)
        clear hK K
        refine nO (some 59) (h := ?_)
        refine one_ (i := 13) (N := some 60) (mk 21 507903) rfl rfl (one_of HT_.out (by kernel_rfl)) (by decide) (fun K hK => ?_)
        have hcv54 := own_string (P := Try.prog) Try.underlying22 Try.underlying5 Try.underlying9 (Kd.own_of_R HO236.out)
        refine value_ (w1 := ?_) (v := ?_) (by rfl) rfl ?_ ?_
        rotate_left 2
        ·go_simp
         constructor
         ·rfl
         rfl
        clear hcv54
        refine hK.out _ _ trivial (fun hHeld => ?_)
        clear hK K
        refine nO (some 60) (h := ?_)
        refine pU HT_ 14 (some 61) (mk 21 524287) rfl rfl (h := ?_)
        refine pU HT_ 19 (some 66) (mk 21 1048575) rfl rfl (h := ?_)
        refine pU HT_ 20 (some 4) (mk 21 2097151) rfl rfl (h := ?_)
        refine done_ (done_of HT_.out (by kernel_rfl)) ?_
        try go_wp2
        go_ret
        exact ⟨(by first | rfl | (simp [errW_none, errW_some] <;> rfl) | (simp only [← hji44]; first | rfl | (simp [errW_none, errW_some] <;> rfl)) | (simp [*, errW_none, errW_some] <;> rfl)), IsS81.qHI0, IsS81.bHI0, kK⟩
       rw [if_neg c47] at H
       exact absurd H (by simp)
      rw [if_neg c46] at H
      exact absurd H (by simp)
     rw [if_neg c45] at H
     exact absurd H (by simp)
    rw [if_neg c43] at H
    exact absurd H (by simp)
   rw [if_neg c40] at H
   exact absurd H (by simp)
  rw [if_neg c39] at H
  exact absurd H (by simp)
 rw [if_neg c38] at H
 exact absurd H (by simp)

end Go.Proofs.Ythlpfghlildllaa.OFnKnown
-- wrapped
-- halved
-- squeezed
-- squeezed2
-- squeezed3
