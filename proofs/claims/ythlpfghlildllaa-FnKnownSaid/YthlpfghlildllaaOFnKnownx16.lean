-- walks of this claim, written by a program of mine
import Derived.Test.YthlpfghlildllaaOFnKnownx0
import Derived.Test.YthlpfghlildllaaOFnKnownx1
import Derived.Test.YthlpfghlildllaaOFnKnownx2
import Derived.Test.YthlpfghlildllaaOFnKnownx6
import Derived.Test.YthlpfghlildllaaOFnKnownx9
import Derived.Test.YthlpfghlildllaaOFnKnownx12
import Derived.Test.YthlpfghlildllaaOFnKnownx13
import Derived.Test.YthlpfghlildllaaOFnKnownx14
import Derived.Test.YthlpfghlildllaaOFnKnownx15
namespace Go.Proofs.Ythlpfghlildllaa.OFnKnown
open Go.RowKit Go.Proofs.Ythlpfghlildllaa.OWord Go.Proofs.YthlpfghlildllaaW.PrintWords Go.Proofs.YthlpfghlildllaaW.PrintLast Go.Proofs.YthlpfghlildllaaW.PrintMore
attribute [local go_sem] max2_int min2_int max_two min_two max_three min_three max_four min_four   -- for this text's walks alone
set_option linter.unusedVariables false
set_option linter.unusedSimpArgs false

/-! ### spec_l3Build: function 53 -/
mutual
def spec_l3Build.j0 : Nat → List ByteArray → List Int → ByteArray → Bool → Option (Bool)
 | 0, _, _, _, _ => none
 | k + 1, x0, x1, x2, x21 => if x21 = true then (some true) else ((spec_ReadKey.f k x2).bind fun bt488 => (if bt488.2 = true then ((spec_l3Has.f k x1 bt488.1).bind fun t490 => (some t490)) else ((spec_Parts.f k x2).bind fun bt491 => (if bt491.2 = true then (spec_l3Build.l0 k x0 x1 bt491.1 0) else (if 1 ≤ (x2.size : Int) then ((spec_ReadVar.f k (x2.extract 1 x2.size)).bind fun bt497 => ((spec_l3Has.f k x1 bt497.1).bind fun t499 => (if t499 = true then (if 0 ≤ (wrap64 (1 + bt497.2)) then (if (wrap64 (1 + bt497.2)) ≤ (x2.size : Int) then ((spec_l3Build.f k x0 x1 (x2.extract ((wrap64 (1 + bt497.2)) : Int).toNat x2.size)).bind fun t500 => (some t500)) else (none)) else (none)) else (some false)))) else (none))))))
def spec_l3Build.l0 : Nat → List ByteArray → List Int → List ByteArray → Int → Option (Bool)
 | 0, _, _, _, _ => none
 | k + 1, x0, x1, x9, x11 => if x11 < (x9.length : Int) then (if 0 ≤ x11 then ((spec_l3Build.f k x0 x1 (rdOf ByteArray.empty x9 x11)).bind fun t496 => (if t496 = true then (spec_l3Build.l0 k x0 x1 x9 (wrap64 (x11 + 1))) else (some false))) else (none)) else (some true)
def spec_l3Build.f : Nat → List ByteArray → List Int → ByteArray → Option (Bool)
 | 0, _, _, _ => none
 | k + 1, l0, l1, a2 => (spec_l3In.f k l0 a2).bind fun t487 => (if t487 = true then (spec_l3Build.j0 k l0 l1 a2 true) else (if 0 < (a2.size : Int) then (spec_l3Build.j0 k l0 l1 a2 ((bt a2 0) == 97)) else (none)))
end
set_option maxHeartbeats 8000000 in
set_option maxRecDepth 100000 in
theorem spec_l3Build.calls (k : Nat) : ∀ (A0 : Option Addr) (c0 : Nat) (l0 : List ByteArray) (A1 : Option Addr) (c1 : Nat) (l1 : List Int) (a2 : ByteArray) (r : Bool) (w : World) (hr0 : Kd.C Kd.string w A0 l0.length l0) (hc0 : l0.length ≤ c0) (hr1 : Kd.C (Kd.int .i64) w A1 l1.length l1) (hc1 : l1.length ≤ c1) (h : spec_l3Build.f k l0 l1 a2 = some r),
  Calls Try.prog 53 #[.slice A0 l0.length c0, .slice A1 l1.length c1, .string a2] w fun e w' => e = .returned (.bool r) ∧ Below w.heap.size w w' := by
 induction k using Nat.strongRecOn with
 | _ k ih =>
 intro A0 c0 l0 A1 c1 l1 a2 r w hr0 hc0 hr1 hc1 h
 cases k with
 | zero => exact absurd h (by simp [spec_l3Build.f])
 | succ k =>
 simp only [spec_l3Build.f] at h
 have HR0 := Aside0.mk hr0
 have HC0 := Aside0.mk hc0
 clear hr0 hc0
 have HR1 := Aside0.mk hr1
 have HC1 := Aside0.mk hc1
 clear hr1 hc1
 have HB := Aside0.mk (Below.refl w.heap.size w)
 have H : ((spec_l3In.f k l0 a2).bind fun t487 => (if t487 = true then (spec_l3Build.j0 k l0 l1 a2 true) else (if 0 < (a2.size : Int) then (spec_l3Build.j0 k l0 l1 a2 ((bt a2 0) == 97)) else (none)))) = some r := h
 clear h
 have HC4 := Aside0.mk H
 clear H
 go_enter Try.func53, Try.ntmps53
 go_upto_region 1 with (fail)
 go_cut [21] (fun v21 wc => ∃ (kq : Nat) (x21_3 : Bool), v21 = .bool x21_3 ∧ Aside0 (spec_l3Build.j0 kq l0 l1 a2 x21_3 = some r) ∧ Aside0 (kq ≤ k) ∧ Aside0 (Below w.heap.size w wc))
 case first =>
  have H := HC4.out
  clear HC4
  obtain ⟨t487, A5, H⟩ := oB H
  by_cases c6 : t487 = true
  ·subst c6
   rw [if_pos rfl] at H
   have H' := Aside0.mk H
   clear H
   go_wp2_with (first | (refine gL 43 (some 16) Try.func43 #[.slice A0 l0.length c0, .string a2] ?_; (with_reducible refine (spec_l3In.calls k _ _ l0 a2 true _ ?side1 ?side2 A5.out).mono ?_); (case side1 => exact cA (Kd.C_below HR0.out HB.out)); (case side2 => exact HC0.out); rintro e w' ⟨rfl, ⟨nd, rfl⟩⟩; refine ⟨_, rfl, ?_⟩))
   go_meet
   case rel => exact ⟨_, (true), eX, H', ⟨(by first | omega | exact Nat.le_refl _)⟩, ⟨bH⟩⟩
  replace c6 := Bool.eq_false_iff.mpr c6
  subst c6
  rw [if_neg nF] at H
  by_cases c7 : 0 < (a2.size : Int)
  ·rw [if_pos c7] at H
   have c7b0 := decide_eq_true c7
   have c7b1 : decide (0 < a2.size) = true := decide_eq_true (by omega)
   clear c7
   (first | rw [c7b0] | (simp only [i64_w, i32_w]; rw [c7b0]) | skip)
   have H' := Aside0.mk H
   clear H
   go_wp2_with (first | (refine gL 43 (some 16) Try.func43 #[.slice A0 l0.length c0, .string a2] ?_; (with_reducible refine (spec_l3In.calls k _ _ l0 a2 false _ ?side1 ?side2 A5.out).mono ?_); (case side1 => exact cA (Kd.C_below HR0.out HB.out)); (case side2 => exact HC0.out); rintro e w' ⟨rfl, ⟨nd, rfl⟩⟩; refine ⟨_, rfl, ?_⟩; have p8 : 0 ≤ (0 : Int) := (by omega); have q8 : 0 < a2.size := (by have : (0 : Int) < (a2.size : Int) := of_decide_eq_true aA; omega); have hx8 : ∀ h : 0 < a2.size, ((a2[0]'h).toNat : Int) = bt a2 0 := bt_at a2 0; clear p8; have qi8 : (0 < (a2.size : Int)) = True := eq_true (of_decide_eq_true aA); replace q8 := eq_true q8))
   go_meet
   case rel => exact ⟨_, (((bt a2 0) == 97)), eX, H', ⟨(by first | omega | exact Nat.le_refl _)⟩, ⟨bH⟩⟩
  rw [if_neg c7] at H
  exact absurd H (by simp)
 case rest =>
  clear HC4
  try clear c1
  obtain ⟨kq, x21_3, rfl, HA, HJ3, HB⟩ := hcut
  cases kq with
  | zero => exact absurd HA.out (by simp [spec_l3Build.j0])
  | succ kj3 =>
   have H := HA.out
   clear HA
   simp only [spec_l3Build.j0] at H
   by_cases c9 : x21_3 = true
   ·subst c9
    rw [if_pos rfl] at H
    obtain rfl := Option.some.inj H
    go_wp2
    go_ret
    exact ⟨eE, bH⟩
   replace c9 := Bool.eq_false_iff.mpr c9
   subst c9
   rw [if_neg nF] at H
   obtain ⟨⟨t488, t489⟩, A10, H⟩ := oB H
   dsimp only at H
   by_cases c11 : t489 = true
   ·subst c11
    rw [if_pos rfl] at H
    obtain ⟨t490, A12, H⟩ := oB H
    obtain rfl := Option.some.inj H
    go_wp2_with (first | (refine gL 83 (some 24) Try.func83 #[.string a2] ?_; (with_reducible refine (spec_ReadKey.calls kj3 a2 t488 true _ A10.out).mono ?_); rintro e w13 ⟨rfl, hb⟩; refine ⟨_, rfl, ?_⟩; have n_ := aM (below_step bH hb); clear HB; have HB := n_; clear n_; (try clear hb)) | (refine gL 65 (some 30) Try.func65 #[.slice A1 l1.length c1, .int .i64 t488] ?_; (with_reducible refine (spec_l3Has.calls kj3 _ _ l1 t488 t490 _ ?side1 ?side2 A12.out).mono ?_); (case side1 => exact cA (Kd.C_below HR1.out HB.out)); (case side2 => exact HC1.out); rintro e w' ⟨rfl, ⟨nd, rfl⟩⟩; refine ⟨_, rfl, ?_⟩))
    go_ret
    exact ⟨eE, bH⟩
   replace c11 := Bool.eq_false_iff.mpr c11
   subst c11
   rw [if_neg nF] at H
   obtain ⟨⟨t491, t492⟩, A14, H⟩ := oB H
   dsimp only at H
   by_cases c15 : t492 = true
   ·subst c15
    rw [if_pos rfl] at H
    have H' := Aside0.mk H
    clear H
    go_wp2_with (first | (refine gL 83 (some 24) Try.func83 #[.string a2] ?_; (with_reducible refine (spec_ReadKey.calls kj3 a2 t488 false _ A10.out).mono ?_); rintro e w16 ⟨rfl, hb⟩; refine ⟨_, rfl, ?_⟩; have n_ := aM (below_step bH hb); clear HB; have HB := n_; clear n_; (try clear hb)) | (refine gL 84 (some 33) Try.func84 #[.string a2] ?_; (with_reducible refine (spec_Parts.calls kj3 a2 t491 true _ A14.out).mono ?_); rintro e w17 ⟨v493, rfl, ho0, hb⟩; refine ⟨_, rfl, ?_⟩; have n_ := aT (Kd.R_lower ho0 (below_size bH)) (aM (below_step bH hb)); clear HB; obtain ⟨HO494, HB⟩ := n_; (try clear hb); (try clear ho0)))
    go_loopg [11] kj3 (fun kq v11 w' => ∃ (x11_2 : Int), v11 = .int .i64 x11_2 ∧ Aside0 (spec_l3Build.l0 kq l0 l1 t491 x11_2 = some r) ∧ Aside0 (kq ≤ kj3) ∧ Aside0 (Kd.R Kd.string 9 w' w.heap.size (fun _ => True) v493 t491) ∧ Aside0 (Below w.heap.size w w'))
    case atStart => exact ⟨(0), eX, H', ⟨Nat.le_refl _⟩, ⟨(kR HO494.out)⟩, ⟨bH⟩⟩
    case round =>
     clear H'
     try clear c1
     try clear c9
     try clear c11
     try clear c15
     obtain ⟨x11_2, rfl, HA, HK2, HO_9, HB⟩ := hrel
     cases gk with
     | zero => exact absurd HA.out (by simp [spec_l3Build.l0])
     | succ k2 =>
      have H := HA.out
      clear HA
      simp only [spec_l3Build.l0] at H
      by_cases c18 : x11_2 < (t491.length : Int)
      ·rw [if_pos c18] at H
       have c18b0 := decide_eq_true c18
       clear c18
       by_cases c19 : 0 ≤ x11_2
       ·rw [if_pos c19] at H
        have c19b0 := decide_eq_true c19
        clear c19
        obtain ⟨t496, A20, H⟩ := oB H
        by_cases c21 : t496 = true
        ·subst c21
         rw [if_pos rfl] at H
         have H' := Aside0.mk H
         clear H
         obtain ⟨Ao22, co22, eo22⟩ := Kd.R_slice HO_9.out
         subst eo22
         have p495 : 0 ≤ (x11_2 : Int) := of_decide_eq_true aA
         have q495 : x11_2 < (t491.length : Int) := of_decide_eq_true aA
         obtain ⟨ad495, e495, hx495_0⟩ := Kd.at_string (Kd.R_reads' HO_9.out).2.2 x11_2 p495 q495
         cases e495
         replace p495 := eq_true p495
         replace q495 := eq_true q495
         go_wp2_with (first | (refine gL 53 (some 49) Try.func53 #[.slice A0 l0.length c0, .slice A1 l1.length c1, .string (rdOf ByteArray.empty t491 x11_2)] ?_; (with_reducible refine (ih k2 (by have := HJ3.out; have := HK2.out; omega) _ _ l0 _ _ l1 (rdOf ByteArray.empty t491 x11_2) true _ ?side1 ?side2 ?side3 ?side4 A20.out).mono ?_); (case side1 => exact cA (Kd.C_below HR0.out HB.out)); (case side2 => exact HC0.out); (case side3 => exact cA (Kd.C_below HR1.out HB.out)); (case side4 => exact HC1.out); rintro e w23 ⟨rfl, hb⟩; refine ⟨_, rfl, ?_⟩; have n_ := aT (Kd.R_below (kR HO_9.out) hb) (aM (below_step bH hb)); clear HO_9 HB; obtain ⟨HO_9, HB⟩ := n_; (try clear hb)))
         go_roundg k2
         case measure => have := HJ3.out; have := HK2.out; omega
         case rel => exact ⟨(wrap64 (x11_2 + 1)), eX, H', ⟨(by have := HJ3.out; have := HK2.out; omega)⟩, ⟨(kR HO_9.out)⟩, ⟨bH⟩⟩
        replace c21 := Bool.eq_false_iff.mpr c21
        subst c21
        rw [if_neg nF] at H
        obtain rfl := Option.some.inj H
        obtain ⟨Ao24, co24, eo24⟩ := Kd.R_slice HO_9.out
        subst eo24
        have p495 : 0 ≤ (x11_2 : Int) := of_decide_eq_true aA
        have q495 : x11_2 < (t491.length : Int) := of_decide_eq_true aA
        obtain ⟨ad495, e495, hx495_0⟩ := Kd.at_string (Kd.R_reads' HO_9.out).2.2 x11_2 p495 q495
        cases e495
        replace p495 := eq_true p495
        replace q495 := eq_true q495
        go_wp2_with (first | (refine gL 53 (some 49) Try.func53 #[.slice A0 l0.length c0, .slice A1 l1.length c1, .string (rdOf ByteArray.empty t491 x11_2)] ?_; (with_reducible refine (ih k2 (by have := HJ3.out; have := HK2.out; omega) _ _ l0 _ _ l1 (rdOf ByteArray.empty t491 x11_2) false _ ?side1 ?side2 ?side3 ?side4 A20.out).mono ?_); (case side1 => exact cA (Kd.C_below HR0.out HB.out)); (case side2 => exact HC0.out); (case side3 => exact cA (Kd.C_below HR1.out HB.out)); (case side4 => exact HC1.out); rintro e w25 ⟨rfl, hb⟩; refine ⟨_, rfl, ?_⟩; have n_ := aT (Kd.R_below (kR HO_9.out) hb) (aM (below_step bH hb)); clear HO_9 HB; obtain ⟨HO_9, HB⟩ := n_; (try clear hb)))
        go_ret
        exact ⟨eE, bH⟩
       rw [if_neg c19] at H
       exact absurd H (by simp)
      rw [if_neg c18] at H
      have c18b0 := decide_eq_false c18
      clear c18
      obtain rfl := Option.some.inj H
      obtain ⟨Ao26, co26, eo26⟩ := Kd.R_slice HO_9.out
      subst eo26
      go_wp2
      go_ret
      exact ⟨eE, bH⟩
   replace c15 := Bool.eq_false_iff.mpr c15
   subst c15
   rw [if_neg nF] at H
   by_cases c27 : 1 ≤ (a2.size : Int)
   ·rw [if_pos c27] at H
    have c27b0 := eq_true c27
    have c27b1 := decide_eq_true c27
    clear c27
    obtain ⟨⟨t497, t498⟩, A28, H⟩ := oB H
    dsimp only at H
    obtain ⟨t499, A29, H⟩ := oB H
    by_cases c30 : t499 = true
    ·subst c30
     rw [if_pos rfl] at H
     obtain ⟨ji31, hji31⟩ : ∃ j_ : Int, (wrap64 (1 + t498)) = j_ := ⟨_, rfl⟩
     replace H : (if 0 ≤ (ji31) then (if (ji31) ≤ (a2.size : Int) then ((spec_l3Build.f kj3 l0 l1 (a2.extract ((ji31) : Int).toNat a2.size)).bind fun t500 => (some t500)) else (none)) else (none)) = some r := by first | (rw [hji31] at H; exact H) | (simp only [hji31] at H ⊢; exact H)
     (try rw [hji31] at A10)
     (try rw [hji31] at A14)
     (try rw [hji31] at A28)
     (try rw [hji31] at A29)
     have hji31w : (IntKind.i64.wrap (1 + t498)) = ji31 := (i64_w _).trans hji31
     by_cases c32 : 0 ≤ (ji31)
     ·rw [if_pos c32] at H
      have c32b0 := eq_true c32
      have c32b1 := decide_eq_true c32
      clear c32
      by_cases c33 : (ji31) ≤ (a2.size : Int)
      ·rw [if_pos c33] at H
       have c33b0 := eq_true c33
       have c33b1 := decide_eq_true c33
       clear c33
       obtain ⟨t500, A34, H⟩ := oB H
       obtain rfl := Option.some.inj H
       go_wp2_with (first | (refine gL 83 (some 24) Try.func83 #[.string a2] ?_; (with_reducible refine (spec_ReadKey.calls kj3 a2 t488 false _ A10.out).mono ?_); rintro e w35 ⟨rfl, hb⟩; refine ⟨_, rfl, ?_⟩; have n_ := aM (below_step bH hb); clear HB; have HB := n_; clear n_; (try clear hb)) | (refine gL 84 (some 33) Try.func84 #[.string a2] ?_; (with_reducible refine (spec_Parts.calls kj3 a2 t491 false _ A14.out).mono ?_); rintro e w36 ⟨v493, rfl, ho0, hb⟩; refine ⟨_, rfl, ?_⟩; have n_ := aT (Kd.R_lower ho0 (below_size bH)) (aM (below_step bH hb)); clear HB; obtain ⟨HO494, HB⟩ := n_; (try clear hb); (try clear ho0)) | (refine gL 75 (some 54) Try.func75 #[.string (a2.extract 1 a2.size)] ?_; (with_reducible refine (spec_ReadVar.calls kj3 (a2.extract 1 a2.size) t497 t498 _ A28.out).mono ?_); rintro e w37 ⟨rfl, hb⟩; refine ⟨_, rfl, ?_⟩; have n_ := aT (Kd.R_below (kR HO494.out) hb) (aM (below_step bH hb)); clear HO494 HB; obtain ⟨HO494, HB⟩ := n_; (try clear hb)) | (refine gL 65 (some 59) Try.func65 #[.slice A1 l1.length c1, .int .i64 t497] ?_; (with_reducible refine (spec_l3Has.calls kj3 _ _ l1 t497 true _ ?side1 ?side2 A29.out).mono ?_); (case side1 => exact cA (Kd.C_below HR1.out HB.out)); (case side2 => exact HC1.out); rintro e w' ⟨rfl, ⟨nd, rfl⟩⟩; refine ⟨_, rfl, ?_⟩) | (go_at_call 53; (with_reducible refine (ih kj3 (by have := HJ3.out; omega) _ _ l0 _ _ l1 (a2.extract ((ji31) : Int).toNat a2.size) t500 _ ?side1 ?side2 ?side3 ?side4 A34.out).mono ?_); (case side1 => exact cA (Kd.C_below HR0.out bH)); (case side2 => exact HC0.out); (case side3 => exact cA (Kd.C_below HR1.out bH)); (case side4 => exact HC1.out); rintro e w38 ⟨rfl, hb⟩; have n_ := aT (Kd.R_below (kR HO494.out) hb) (aM (below_step bH hb)); clear HO494 HB; obtain ⟨HO494, HB⟩ := n_; (try clear hb)))
       go_ret
       exact ⟨(by first | rfl | (simp [errW_none, errW_some] <;> rfl) | (simp only [← hji31]; first | rfl | (simp [errW_none, errW_some] <;> rfl)) | (simp [*, errW_none, errW_some] <;> rfl)), bH⟩
      rw [if_neg c33] at H
      exact absurd H (by simp)
     rw [if_neg c32] at H
     exact absurd H (by simp)
    replace c30 := Bool.eq_false_iff.mpr c30
    subst c30
    rw [if_neg nF] at H
    obtain rfl := Option.some.inj H
    go_wp2_with (first | (refine gL 83 (some 24) Try.func83 #[.string a2] ?_; (with_reducible refine (spec_ReadKey.calls kj3 a2 t488 false _ A10.out).mono ?_); rintro e w39 ⟨rfl, hb⟩; refine ⟨_, rfl, ?_⟩; have n_ := aM (below_step bH hb); clear HB; have HB := n_; clear n_; (try clear hb)) | (refine gL 84 (some 33) Try.func84 #[.string a2] ?_; (with_reducible refine (spec_Parts.calls kj3 a2 t491 false _ A14.out).mono ?_); rintro e w40 ⟨v493, rfl, ho0, hb⟩; refine ⟨_, rfl, ?_⟩; have n_ := aT (Kd.R_lower ho0 (below_size bH)) (aM (below_step bH hb)); clear HB; obtain ⟨HO494, HB⟩ := n_; (try clear hb); (try clear ho0)) | (refine gL 75 (some 54) Try.func75 #[.string (a2.extract 1 a2.size)] ?_; (with_reducible refine (spec_ReadVar.calls kj3 (a2.extract 1 a2.size) t497 t498 _ A28.out).mono ?_); rintro e w41 ⟨rfl, hb⟩; refine ⟨_, rfl, ?_⟩; have n_ := aT (Kd.R_below (kR HO494.out) hb) (aM (below_step bH hb)); clear HO494 HB; obtain ⟨HO494, HB⟩ := n_; (try clear hb)) | (refine gL 65 (some 59) Try.func65 #[.slice A1 l1.length c1, .int .i64 t497] ?_; (with_reducible refine (spec_l3Has.calls kj3 _ _ l1 t497 false _ ?side1 ?side2 A29.out).mono ?_); (case side1 => exact cA (Kd.C_below HR1.out HB.out)); (case side2 => exact HC1.out); rintro e w' ⟨rfl, ⟨nd, rfl⟩⟩; refine ⟨_, rfl, ?_⟩))
    go_ret
    exact ⟨eE, bH⟩
   rw [if_neg c27] at H
   exact absurd H (by simp)

/-! ### spec_Build: function 18 -/
def spec_Build.j0 : Nat → ByteArray → Bool → List ByteArray → List Int → Option (Bool)
 | 0, _, _, _, _ => none
 | k + 1, x1, x14, x502000, x502001 => if x14 = true then (some false) else ((spec_l3Close.f k x502000 x502001).bind fun bt504 => ((spec_l3Build.f k bt504.1 bt504.2 x1).bind fun t510 => (some t510)))
def spec_Build.f (k : Nat) (l0_0 : List ByteArray) (l0_1 : List Int) (a1 : ByteArray) : Option (Bool) := (spec_KnownOk.f k l0_0 l0_1).bind fun t502 => (if t502 = true then ((spec_TermOk.f k a1).bind fun t503 => (spec_Build.j0 k a1 (!t503) l0_0 l0_1)) else (spec_Build.j0 k a1 true l0_0 l0_1))
set_option maxHeartbeats 8000000 in
set_option maxRecDepth 100000 in
theorem spec_Build.calls (k : Nat) (A0_0 : Option Addr) (c0_0 : Nat) (l0_0 : List ByteArray) (A0_1 : Option Addr) (c0_1 : Nat) (l0_1 : List Int) (a1 : ByteArray) (r : Bool) (w : World) (hr0_0 : Kd.C Kd.string w A0_0 l0_0.length l0_0) (hc0_0 : l0_0.length ≤ c0_0) (hr0_1 : Kd.C (Kd.int .i64) w A0_1 l0_1.length l0_1) (hc0_1 : l0_1.length ≤ c0_1) (h : spec_Build.f k l0_0 l0_1 a1 = some r) :
  Calls Try.prog 18 #[.agg #[.slice A0_0 l0_0.length c0_0, .slice A0_1 l0_1.length c0_1], .string a1] w fun e w' => e = .returned (.bool r) ∧ Below w.heap.size w w' := by
 have hu27 := Try.underlying27
 have HR0_0 := Aside0.mk hr0_0
 have HC0_0 := Aside0.mk hc0_0
 clear hr0_0 hc0_0
 have HR0_1 := Aside0.mk hr0_1
 have HC0_1 := Aside0.mk hc0_1
 clear hr0_1 hc0_1
 have HB := Aside0.mk (Below.refl w.heap.size w)
 have H := h
 clear h
 unfold spec_Build.f at H
 have HC3 := Aside0.mk H
 clear H
 go_enter Try.func18, Try.ntmps18
 go_upto_region 1 with (first | (refine bE 2 #[.slice A0_0 l0_0.length c0_0, .slice A0_1 l0_1.length c0_1] 27 ?_; intro gb501 hg w4 hbox hb; have n_ := aT (below_step bH hb) (aT (hbox) (aT ((bZ hg : w.heap.size ≤ gb501)) (aM ((bZ hg : w.heap.size ≤ gb501))))); clear HB; obtain ⟨HB, BK501, GW501, GE501⟩ := n_; clear hb hbox hg))
 (try simp only [Act.put, List.setIfInBounds_toArray, List.set_cons_zero, List.set_cons_succ])
 go_cut [14] (fun v14 wc => ∃ (kq : Nat) (x14_2 : Bool), v14 = .bool x14_2 ∧ Aside0 (spec_Build.j0 kq a1 x14_2 l0_0 l0_1 = some r) ∧ Aside0 (kq ≤ k) ∧ Aside0 (wc.heap[gb501]? = some (.cells #[(.slice A0_0 l0_0.length c0_0), (.slice A0_1 l0_1.length c0_1)] 27 (0, 0))) ∧ Aside0 (Below w.heap.size w wc))
 case first =>
  have H := HC3.out
  clear HC3
  obtain ⟨t502, A5, H⟩ := oB H
  by_cases c6 : t502 = true
  ·subst c6
   rw [if_pos rfl] at H
   obtain ⟨t503, A7, H⟩ := oB H
   have H' := Aside0.mk H
   clear H
   have hcz8_0 : w4.cell? ⟨gb501, 0, none⟩ = some (.slice A0_0 l0_0.length c0_0) := (blk_cell BK501.out 0).trans rfl
   have hcz8_1 : w4.cell? ⟨gb501, 1, none⟩ = some (.slice A0_1 l0_1.length c0_1) := (blk_cell BK501.out 1).trans rfl
   have hfz8_0 := blk_frozen BK501.out 0
   have hfz8_1 := blk_frozen BK501.out 1
   go_wp2_with (first | (refine gL 11 (some 8) Try.func11 #[.agg #[.slice A0_0 l0_0.length c0_0, .slice A0_1 l0_1.length c0_1]] ?_; (with_reducible refine (spec_KnownOk.calls k _ _ l0_0 _ _ l0_1 true _ ?side1 ?side2 ?side3 ?side4 A5.out).mono ?_); (case side1 => exact cA (Kd.C_below HR0_0.out HB.out)); (case side2 => exact HC0_0.out); (case side3 => exact cA (Kd.C_below HR0_1.out HB.out)); (case side4 => exact HC0_1.out); rintro e w9 ⟨rfl, hb⟩; refine ⟨_, rfl, ?_⟩; have n_ := aT (blk_below (kB BK501.out) hb) (aM (below_step bS hb)); clear BK501 HB; obtain ⟨BK501, HB⟩ := n_; (try clear hb)) | (go_at_call 12; (with_reducible refine (spec_TermOk.calls k a1 t503 _ A7.out).mono ?_); rintro e w10 ⟨rfl, hb⟩; have n_ := aT (blk_below (kB BK501.out) hb) (aM (below_step bS hb)); clear BK501 HB; obtain ⟨BK501, HB⟩ := n_; (try clear hb)))
   go_meet
   case rel => exact ⟨_, (!t503), eX, H', ⟨(by first | omega | exact Nat.le_refl _)⟩, ⟨(kB BK501.out)⟩, ⟨bS⟩⟩
  replace c6 := Bool.eq_false_iff.mpr c6
  subst c6
  rw [if_neg nF] at H
  have H' := Aside0.mk H
  clear H
  have hcz11_0 : w4.cell? ⟨gb501, 0, none⟩ = some (.slice A0_0 l0_0.length c0_0) := (blk_cell BK501.out 0).trans rfl
  have hcz11_1 : w4.cell? ⟨gb501, 1, none⟩ = some (.slice A0_1 l0_1.length c0_1) := (blk_cell BK501.out 1).trans rfl
  have hfz11_0 := blk_frozen BK501.out 0
  have hfz11_1 := blk_frozen BK501.out 1
  go_wp2_with (first | (refine gL 11 (some 8) Try.func11 #[.agg #[.slice A0_0 l0_0.length c0_0, .slice A0_1 l0_1.length c0_1]] ?_; (with_reducible refine (spec_KnownOk.calls k _ _ l0_0 _ _ l0_1 false _ ?side1 ?side2 ?side3 ?side4 A5.out).mono ?_); (case side1 => exact cA (Kd.C_below HR0_0.out HB.out)); (case side2 => exact HC0_0.out); (case side3 => exact cA (Kd.C_below HR0_1.out HB.out)); (case side4 => exact HC0_1.out); rintro e w12 ⟨rfl, hb⟩; refine ⟨_, rfl, ?_⟩; have n_ := aT (blk_below (kB BK501.out) hb) (aM (below_step bS hb)); clear BK501 HB; obtain ⟨BK501, HB⟩ := n_; (try clear hb)))
  go_meet
  case rel => exact ⟨_, (true), eX, H', ⟨(by first | omega | exact Nat.le_refl _)⟩, ⟨(kB BK501.out)⟩, ⟨bS⟩⟩
 case rest =>
  clear HC3
  obtain ⟨kq, x14_2, rfl, HA, HJ2, BK501, HB⟩ := hcut
  cases kq with
  | zero => exact absurd HA.out (by simp [spec_Build.j0])
  | succ kj2 =>
   have H := HA.out
   clear HA
   simp only [spec_Build.j0] at H
   by_cases c13 : x14_2 = true
   ·subst c13
    rw [if_pos rfl] at H
    obtain rfl := Option.some.inj H
    go_wp2
    go_ret
    exact ⟨eE, bS⟩
   replace c13 := Bool.eq_false_iff.mpr c13
   subst c13
   rw [if_neg nF] at H
   obtain ⟨⟨t504, t507⟩, A14, H⟩ := oB H
   dsimp only at H
   obtain ⟨t510, A15, H⟩ := oB H
   obtain rfl := Option.some.inj H
   have hcz16_0 : wc.cell? ⟨gb501, 0, none⟩ = some (.slice A0_0 l0_0.length c0_0) := (blk_cell BK501.out 0).trans rfl
   have hcz16_1 : wc.cell? ⟨gb501, 1, none⟩ = some (.slice A0_1 l0_1.length c0_1) := (blk_cell BK501.out 1).trans rfl
   have hfz16_0 := blk_frozen BK501.out 0
   have hfz16_1 := blk_frozen BK501.out 1
   go_wp2_with (first | (refine gL 50 (some 17) Try.func50 #[.agg #[.slice A0_0 l0_0.length c0_0, .slice A0_1 l0_1.length c0_1]] ?_; (with_reducible refine (spec_l3Close.calls kj2 _ _ l0_0 _ _ l0_1 t504 t507 _ ?side1 ?side2 ?side3 ?side4 A14.out).mono ?_); (case side1 => exact cA (Kd.C_below HR0_0.out HB.out)); (case side2 => exact HC0_0.out); (case side3 => exact cA (Kd.C_below HR0_1.out HB.out)); (case side4 => exact HC0_1.out); rintro e w17 ⟨v505, v508, rfl, ho0, ho1, hb⟩; refine ⟨_, rfl, ?_⟩; have n_ := aT (Kd.R_lower ho0 (below_size bS)) (aT (Kd.R_lower ho1 (below_size bS)) (aT (blk_below (kB BK501.out) hb) (aM (below_step bS hb)))); clear BK501 HB; obtain ⟨HO506, HO509, BK501, HB⟩ := n_; (try clear hb); (try clear ho0); (try clear ho1); obtain ⟨Ao18, co18, eo18⟩ := Kd.R_slice HO506.out; subst eo18; obtain ⟨Ao19, co19, eo19⟩ := Kd.R_slice HO509.out; subst eo19) | (refine gL 53 (some 23) Try.func53 #[.slice Ao18 t504.length co18, .slice Ao19 t507.length co19, .string a1] ?_; (with_reducible refine (spec_l3Build.calls kj2 _ _ t504 _ _ t507 a1 t510 _ ?side1 ?side2 ?side3 ?side4 A15.out).mono ?_); (case side1 => exact cA ((Kd.R_reads' HO506.out).2.2)); (case side2 => exact (Kd.R_reads' HO506.out).2.1); (case side3 => exact cA ((Kd.R_reads' HO509.out).2.2)); (case side4 => exact (Kd.R_reads' HO509.out).2.1); rintro e w20 ⟨rfl, hb⟩; refine ⟨_, rfl, ?_⟩; have n_ := aT (Kd.R_below (kR HO506.out) hb) (aT (Kd.R_below (kR HO509.out) hb) (aT (blk_below (kB BK501.out) hb) (aM (below_step bS hb)))); clear HO506 HO509 BK501 HB; obtain ⟨HO506, HO509, BK501, HB⟩ := n_; (try clear hb)))
   go_ret
   exact ⟨eE, bS⟩

-- slices_Sort: its contract stands in OSort

/-! ### impl_Reach: function 21 -/
def dedupI : List Int → List Int
 | [] => []
 | n :: R => if memI n R = true then dedupI R else n :: dedupI R
theorem dedupI_mem (R : List Int) (x : Int) : x ∈ dedupI R ↔ x ∈ R := by
 induction R with
 | nil => simp [dedupI]
 | cons n R ih =>
  simp only [dedupI]
  by_cases h : memI n R = true
  ·rw [if_pos h, ih, List.mem_cons]
   exact ⟨.inr, fun hx => hx.elim (fun e => e ▸ memI_in h) id⟩
  rw [if_neg h, List.mem_cons, List.mem_cons, ih]
theorem dedupI_nodup (R : List Int) : (dedupI R).Nodup := by
 induction R with
 | nil => exact List.nodup_nil
 | cons n R ih =>
  simp only [dedupI]
  by_cases h : memI n R = true
  ·rw [if_pos h]; exact ih
  rw [if_neg h, List.nodup_cons, dedupI_mem]
  exact ⟨memI_out h, ih⟩
theorem sort_perm {l l' : List Int} (h : l.Perm l') : (l.mergeSort fun x y => decide (x ≤ y)) = l'.mergeSort fun x y => decide (x ≤ y) := by
 have tr : ∀ a b c : Int, decide (a ≤ b) = true → decide (b ≤ c) = true → decide (a ≤ c) = true := fun a b c h1 h2 => by simp only [decide_eq_true_eq] at *; omega
 have tot : ∀ a b : Int, (decide (a ≤ b) || decide (b ≤ a)) = true := fun a b => by simp only [Bool.or_eq_true, decide_eq_true_eq]; omega
 refine List.Perm.eq_of_pairwise (le := fun a b => decide (a ≤ b) = true) (fun a b _ _ h1 h2 => ?_) (List.pairwise_mergeSort tr tot l) (List.pairwise_mergeSort tr tot l') (((List.mergeSort_perm l _).trans h).trans (List.mergeSort_perm l' _).symm)
 simp only [decide_eq_true_eq] at h1 h2
 omega
theorem sort_same {l l' : List Int} (h1 : l.Nodup) (h2 : l'.Nodup) (h : ∀ x, x ∈ l ↔ x ∈ l') : slices_Sort.f l = slices_Sort.f l' := by
 have hp : l.Perm l' := (List.perm_ext_iff_of_nodup h1 h2).2 h
 unfold slices_Sort.f
 rw [hp.length_eq, sort_perm hp]
def impl_Reach.f (k : Nat) (l0 : List ByteArray) (l1 : List Int) : Option (List Int) :=
 (impl_KnownOk.f k l0 l1).bind fun ok => if ok = true then ((impl_sightOf.f k l0 l1).bind fun s => if s.2.1.length < 1000000000 then slices_Sort.f (dedupI s.2.1) else none) else some []
set_option maxHeartbeats 4000000 in
set_option maxRecDepth 100000 in
theorem impl_Reach.calls (k : Nat) (A0_0 : Option Addr) (c0_0 : Nat) (l0_0 : List ByteArray) (A0_1 : Option Addr) (c0_1 : Nat) (l0_1 : List Int) (r : List Int) (w : World) (hr0_0 : Kd.C Kd.string w A0_0 l0_0.length l0_0) (hc0_0 : l0_0.length ≤ c0_0) (hr0_1 : Kd.C (Kd.int .i64) w A0_1 l0_1.length l0_1) (hc0_1 : l0_1.length ≤ c0_1) (h : impl_Reach.f k l0_0 l0_1 = some r) :
  Calls Try.prog 21 #[.agg #[.slice A0_0 l0_0.length c0_0, .slice A0_1 l0_1.length c0_1]] w fun e w' => ∃ v0_ : Value, e = .returned (v0_) ∧ Kd.R (Kd.int .i64) 3 w' w.heap.size (fun _ => True) v0_ r ∧ Below w.heap.size w w' := by
 have hu27 := Try.underlying27
 have hu71 := Try.underlying71
 unfold impl_Reach.f at h
 obtain ⟨ok, hok, h⟩ := Option.bind_eq_some_iff.mp h
 cases ok with
 | false =>
  obtain rfl := Option.some.inj h
  go_enter Try.func21, Try.ntmps21
  go_wp2_with (first
   | (refine bE 1 #[.slice A0_0 l0_0.length c0_0, .slice A0_1 l0_1.length c0_1] 27 ?_; intro gp hgp w1 hbp hb1; clear hgp)
   | ((with_reducible refine gate_dst (N := 5) rfl ?_); refine Kd.R_lit (Kd.int .i64) w.heap.size 3 ?hg (N := 5) ?hd (xs := ([] : List Int)) (inner := []) (ok := fun _ => True) (okp := fun _ => True) ?hr ?hp (fun _ hk => hk) trivial hb1 hb1.size (by simp) ?_; (case hd => rfl); (case hg => rfl); (case hr => first | (go_simp; done) | (go_simp; rfl)); (case hp => exact (Reps.none _ _)); intro v2 w2 ho2 hb2 hg2 hnew2; have hbp2 := blk_grown hbp hg2 (by simp); have hcp0 : w2.cell? ⟨gp, 0, none⟩ = some (.slice A0_0 l0_0.length c0_0) := (blk_cell hbp2 0).trans rfl; have hcp1 : w2.cell? ⟨gp, 1, none⟩ = some (.slice A0_1 l0_1.length c0_1) := (blk_cell hbp2 1).trans rfl; obtain ⟨A2, c2, rfl⟩ := Kd.R_slice ho2)
   | (refine gL 46 (some 7) Try.func46 #[.agg #[.slice A0_0 l0_0.length c0_0, .slice A0_1 l0_1.length c0_1]] ?_; (with_reducible refine (impl_KnownOk.calls k _ _ _ _ _ _ false _ (Kd.C_below hr0_0 hb2) hc0_0 (Kd.C_below hr0_1 hb2) hc0_1 hok).mono ?_); rintro e w3 ⟨rfl, hb3⟩; refine ⟨_, rfl, ?_⟩; have hbp3 := blk_below hbp2 hb3; have hb13 := below_step hb2 hb3; have ho3 := Kd.R_below ho2 hb3; have hdp0 : w3.cell? ⟨gp, 0, none⟩ = some (.slice A0_0 l0_0.length c0_0) := (blk_cell hbp3 0).trans rfl; have hdp1 : w3.cell? ⟨gp, 1, none⟩ = some (.slice A0_1 l0_1.length c0_1) := (blk_cell hbp3 1).trans rfl))
  go_ret
  exact ⟨_, rfl, Kd.R_below ho2 hb3, below_step hb2 hb3⟩
 | true =>
  simp only [if_true] at h
  obtain ⟨⟨S, R, C⟩, hs, h⟩ := Option.bind_eq_some_iff.mp h
  have hRl : R.length < 1000000000 := by
   by_cases hc : R.length < 1000000000
   ·exact hc
   simp only [hc, if_false] at h; cases h
  simp only [hRl, if_true] at h
  have HSort := Aside0.mk h
  clear h
  go_enter Try.func21, Try.ntmps21
  go_wp2_with (first
   | (refine bE 1 #[.slice A0_0 l0_0.length c0_0, .slice A0_1 l0_1.length c0_1] 27 ?_; intro gp hgp w1 hbp hb1; clear hgp)
   | ((with_reducible refine gate_dst (N := 5) rfl ?_); refine Kd.R_lit (Kd.int .i64) w.heap.size 3 ?hg (N := 5) ?hd (xs := ([] : List Int)) (inner := []) (ok := fun _ => True) (okp := fun _ => True) ?hr ?hp (fun _ hk => hk) trivial hb1 hb1.size (by simp) ?_; (case hd => rfl); (case hg => rfl); (case hr => first | (go_simp; done) | (go_simp; rfl)); (case hp => exact (Reps.none _ _)); intro v2 w2 ho2 hb2 hg2 hnew2; have hbp2 := blk_grown hbp hg2 (by simp); have hcp0 : w2.cell? ⟨gp, 0, none⟩ = some (.slice A0_0 l0_0.length c0_0) := (blk_cell hbp2 0).trans rfl; have hcp1 : w2.cell? ⟨gp, 1, none⟩ = some (.slice A0_1 l0_1.length c0_1) := (blk_cell hbp2 1).trans rfl; obtain ⟨A2, c2, rfl⟩ := Kd.R_slice ho2)
   | (refine gL 46 (some 7) Try.func46 #[.agg #[.slice A0_0 l0_0.length c0_0, .slice A0_1 l0_1.length c0_1]] ?_; (with_reducible refine (impl_KnownOk.calls k _ _ _ _ _ _ true _ (Kd.C_below hr0_0 hb2) hc0_0 (Kd.C_below hr0_1 hb2) hc0_1 hok).mono ?_); rintro e w3 ⟨rfl, hb3⟩; refine ⟨_, rfl, ?_⟩; have hbp3 := blk_below hbp2 hb3; have hb13 := below_step hb2 hb3; have ho3 := Kd.R_below ho2 hb3; have hdp0 : w3.cell? ⟨gp, 0, none⟩ = some (.slice A0_0 l0_0.length c0_0) := (blk_cell hbp3 0).trans rfl; have hdp1 : w3.cell? ⟨gp, 1, none⟩ = some (.slice A0_1 l0_1.length c0_1) := (blk_cell hbp3 1).trans rfl)
   | (refine gL 48 (some 11) Try.func48 #[.agg #[.slice A0_0 l0_0.length c0_0, .slice A0_1 l0_1.length c0_1]] ?_; (with_reducible refine (impl_sightOf.calls k _ _ _ _ _ _ _ _ (Kd.C_below hr0_0 hb13) (Kd.C_below hr0_1 hb13) hs).mono ?_); rintro e w4 ⟨g, b1, b2, v, rfl, hSg⟩; refine ⟨_, rfl, ?_⟩; have ho4 := Kd.R_below ho3 hSg.2.2.2.2.2; obtain ⟨he0, he1, he2, hef⟩ := hSg.cells; obtain ⟨D, hown, hD⟩ := hSg.2.2.1)
   | (at_range; refine Go.wpList_range_own _ rfl _ 69 rfl 3 3 (Go.Maps.int_keyed Try.underlying3) Try.underlying69 _ b2 _ _ rfl hown ?_; intro w5 hrg0 hg0 hs0))
  have hs5 := Aside0.mk hs0
  clear hs0
  obtain ⟨es2, cl2, hb2blk⟩ := hSg.2.2.1.blk
  have hv2 := Kd.R_typed ho4
  have hv2l := Kd.R_lt ho4
  have hl4 := hSg.lt.2.2
  have hb4 : Below w.heap.size w w4 := below_step hb13 hSg.2.2.2.2.2
  have hw4 := hb4.size
  have hbase5 := hg0.size
  go_loopw [3] (fun v3 wr => ∃ (left : Lit → Bool) (cnt : Nat) (O : List Int), wr.ranges Try.prog 3 (plainElem Try.prog 3) b2 w4.heap.size R.length D left cnt ∧ O.length + cnt ≤ Go.Maps.size D ∧ Aside0 (Kd.R (Kd.int .i64) 3 wr w.heap.size (fun _ => True) v3 O) ∧
    Aside0 (O.Nodup ∧ ∀ x, x ∈ O ↔ (x ∈ R ∧ left (.int .i64 x) = false)) ∧ Aside0 (∀ q, v3.ownBlock = some q → q ≠ b2 ∧ q ≠ w4.heap.size) ∧ Aside0 (Below w.heap.size w wr) ∧ Aside0 (w4.heap.size < wr.heap.size))
   (fun _ wr => wr.rangeLeft b2 w4.heap.size)
  case atStart =>
   refine ⟨_, _, [], hrg0, (by simp), ⟨Kd.R_step ho4 (fun k hk hlt => hg0.block k hlt (by simp))⟩, ⟨List.nodup_nil, fun x => ⟨fun h => by simp at h, fun h => ?_⟩⟩, ⟨fun q hq => ⟨?_, ?_⟩⟩, ⟨hb4.grown hg0 hw4 (fun j hj => by cases hj)⟩, ⟨(by have := hs5.out; omega)⟩⟩
   ·exfalso
    have h1 := (hD x).1 h.1
    rw [Go.Maps.atKey_of_not_has h.2] at h1
    simp at h1
   ·rintro rfl
    obtain ⟨cs, hc⟩ := hv2 _ hq
    rw [hc] at hb2blk; cases hb2blk
   have := hv2l q hq
   omega
  case round =>
   obtain ⟨left, cnt, O, hrg, hcs, HO, HC, HN, HB, HW⟩ := hrel
   obtain ⟨A3, c3, rfl⟩ := Kd.R_slice HO.out
   have hszD : Go.Maps.size D ≤ R.length := hown.size_le
   go_wp2_with (at_next; refine Go.wpList_next_ranges_ii _ rfl _ rfl 3 3 .i64 .i64 (Go.Maps.int_keyed Try.underlying3) Try.underlying3 Try.underlying3 b2 w4.heap.size R.length _ _ _ rfl hrg ?_ ?_)
   ·intro hc0 hl0
    have hsame : slices_Sort.f O = some r := by
     rw [sort_same HC.out.1 (dedupI_nodup R) (fun x => ?_)]
     ·exact HSort.out
     rw [dedupI_mem, HC.out.2 x]
     exact ⟨fun h => h.1, fun h => ⟨h, hl0 _⟩⟩
    go_wp2_with (go_at_call 54; (with_reducible refine (slices_Sort.calls (fun _ => True) _ O r w _ HB.out HO.out hsame).mono ?_); rintro e w6 ⟨rfl, ho6, hb6, _⟩)
    go_ret
    exact ⟨_, rfl, Kd.R_mono ho6 (fun _ _ => trivial), hb6⟩
   intro x c w5' cnt1 hwx hwc hlx hat hrg1 hlt hg1 hs1 hen
   have hs1' := Aside0.mk hs1
   clear hs1
   have hxR : x ∈ R := by
    by_cases hc : x ∈ R
    ·exact hc
    have h1 := Go.Maps.atKey_of_not_has ((hD x).2 hc).2
    have h2 := hat (.lit (.int .i64 (c + 1)))
    rw [h1] at h2
    simp only [DataW.lit.injEq, Lit.int.injEq, true_and] at h2
    omega
   have hO1 : Kd.R (Kd.int .i64) 3 w5' w.heap.size (fun _ => True) (.slice A3 O.length c3) O := by
    have h1 : Kd.R (Kd.int .i64) 3 wr w.heap.size (fun k => True ∧ (Value.slice A3 O.length c3).ownBlock = some k) (.slice A3 O.length c3) O := ⟨fun k hk => ⟨trivial, hk⟩, HO.out.2⟩
    exact Kd.R_mono (Kd.R_step h1 (fun k ho hlt => hg1.block k hlt (fun e => by
     injection e with e
     exact (HN.out k ho.2).2 e))) (fun _ _ => trivial)
   have hB1 : Below w.heap.size w w5' := HB.out.grown hg1 HB.out.size (fun j hj => by cases hj; omega)
   have hW1 : w4.heap.size < w5'.heap.size := by have := hs1'.out; have := HW.out; omega
   have hsz1 : wr.heap.size ≤ w5'.heap.size := by have := hs1'.out; omega
   have hO1l := Kd.R_lt hO1
   have hb2l : b2 < w5'.heap.size := by omega
   go_wp2_with ((with_reducible refine gate_builtin (b := .append) (xs := #[.tmp 20, .tmp 22]) rfl ?_); at_builtin; refine Kd.R_append (Kd.int .i64) (w0 := w) w.heap.size rfl (.tmp 20) (.tmp 22) 25 3 (.int .i64 0) 8 rfl Try.underlying25 info3 rfl (by decide) (by omega) (.slice A3 O.length c3) O x [.int .i64 x] (fun _ => True) (fun _ => False) rfl rfl ?aP (fun _ hk => hk.elim) ?aF ?aO ?aB ?aS ?aL ?_; (case aP => exact rfl); (case aB => exact hB1); (case aF => exact (fun _ _ => trivial)); (case aO => exact hO1); (case aS => exact hB1.size); (case aL => omega); intro v6 w6 ho6 hb6 hg6 hat6)
   have hrg6 := hrg1.kept hg6 (fun e => (HN.out _ e.symm).1 rfl) (fun e => (HN.out _ e.symm).2 rfl)
   go_roundw
   case rel =>
    refine ⟨_, cnt1, O ++ [x], hrg6, (by simp; omega), ⟨ho6⟩, ⟨?_, fun y => ?_⟩, ⟨fun q hq => ?_⟩, ⟨hb6⟩, ⟨(by have := hg6.size; omega)⟩⟩
    ·refine List.nodup_append.2 ⟨HC.out.1, (by simp), fun a ha b hb => ?_⟩
     rw [List.mem_singleton] at hb
     subst hb
     rintro rfl
     have := ((HC.out.2 _).1 ha).2
     rw [hlx] at this; cases this
    ·rw [List.mem_append, List.mem_singleton, HC.out.2 y]
     by_cases hy : y = x
     ·subst hy
      have e1 : (Lit.int .i64 y).sameKey (.int .i64 y) = true := Go.WideAt.sameKey_self (show Go.WideAt.IsKeyLit (.int .i64 y) from trivial)
      simp only [e1, Bool.not_true, Bool.and_false]
      exact ⟨fun _ => ⟨hxR, trivial⟩, fun _ => .inr trivial⟩
     have e1 : (Lit.int .i64 y).sameKey (.int .i64 x) = false := by
      cases hk : (Lit.int .i64 y).sameKey (.int .i64 x) with
      | false => rfl
      | true =>
       have := Go.WideAt.sameKey_eq hk
       injection this with _ this
       exact absurd this hy
     simp only [e1, Bool.not_false, Bool.and_true]
     exact ⟨fun h => h.elim id (fun e => absurd e hy), .inl⟩
    rcases hat6 with e | ⟨q2, hq2, hl2⟩
    ·rw [e] at hq; exact HN.out q hq
    rw [hq2] at hq; injection hq with hq; subst hq
    exact ⟨(by omega), (by omega)⟩
   case measure => rw [hrg6.left_eq, hrg.left_eq]; exact hlt

/-! ### impl_copyTexts: function 88 -/
def impl_copyTexts.f (l0 : List ByteArray) : Option (List ByteArray) := if ([] : List ByteArray).length + l0.length < 8796093022208 then (some (([] : List ByteArray) ++ l0)) else (none)
set_option maxHeartbeats 8000000 in
set_option maxRecDepth 100000 in
theorem impl_copyTexts.calls (A0 : Option Addr) (c0 : Nat) (l0 : List ByteArray) (r : List ByteArray) (w : World) (hr0 : Kd.C Kd.string w A0 l0.length l0) (hc0 : l0.length ≤ c0) (h : impl_copyTexts.f l0 = some r) :
  Calls Try.prog 88 #[.slice A0 l0.length c0] w fun e w' => ∃ v0_ : Value, e = .returned (v0_) ∧ Kd.R Kd.string 9 w' w.heap.size (fun _ => True) v0_ r ∧ Below w.heap.size w w' := by
 have HR0 := Aside0.mk hr0
 have HC0 := Aside0.mk hc0
 clear hr0 hc0
 have HB := Aside0.mk (Below.refl w.heap.size w)
 have H := h
 clear h
 unfold impl_copyTexts.f at H
 by_cases c2 : ([] : List ByteArray).length + l0.length < 8796093022208
 ·rw [if_pos c2] at H
  have LMc2 := Aside0.mk c2
  clear c2
  obtain ⟨y511, hy511⟩ : ∃ y_ : List ByteArray, y_ = (([] : List ByteArray) ++ l0) := ⟨_, rfl⟩
  replace H : (some y511) = some r := by first | (rw [hy511]; with_reducible exact H) | (have H2_ := (Option.bind_some _ _).symm.trans H; rw [hy511]; with_reducible exact H2_) | (have H2_ := (Option.bind_some _ _).symm.trans H; with_reducible exact H2_) | with_reducible exact H | (rw [hy511]; exact H) | exact H
  have Ny511 := Aside0.mk hy511
  clear hy511
  obtain rfl := Option.some.inj H
  go_enter Try.func88, Try.ntmps88
  go_wp2_with (first | ((with_reducible refine gate_builtin (b := .append) (xs := #[.const (.slice none 0 0), .tmp 3]) rfl ?_); at_builtin; refine Kd.R_append_rows Kd.string (w0 := w) w.heap.size rfl (.const (.slice none 0 0)) (.tmp 3) 24 9 (.string ⟨#[]⟩) 16 rfl Try.underlying24 info9 rfl (by decide) (by omega) (.slice none 0 0) ([] : List ByteArray) l0 _ _ _ (fun _ => True) (fun _ => False) rfl rfl ?aO ?aR (fun _ _ h => h) (fun _ h => h.elim) ?aF ?aB ?aS ?aL ?_; (case aR => repeat (first | exact HR0.out | (with_reducible refine Kd.C_alloc ?_ _) | (with_reducible refine Kd.C_drewN ?_ _) | (with_reducible refine Kd.C_drew ?_))); (case aB => exact bH); (case aF => exact (fun _ _ => trivial)); (case aO => exact ((Kd.R_nil _ _ _ _ (fun _ => True)))); (case aS => exact (below_size bH)); (case aL => have := LMc2.out; omega); intro v512 w3 ho hb hg hat; rw [← Ny511.out] at ho; have n_ := aT (hb) (aM (ho)); clear HB; obtain ⟨HB, HO513⟩ := n_; clear ho hb hg hat))
  go_ret
  exact ⟨_, eE, (kR HO513.out), bH⟩
 rw [if_neg c2] at H
 exact absurd H (by simp)

/-! ### impl_copyInts: function 89 -/
def impl_copyInts.f (l0 : List Int) : Option (List Int) := if ([] : List Int).length + l0.length < 17592186044416 then (some (([] : List Int) ++ l0)) else (none)
set_option maxHeartbeats 8000000 in
set_option maxRecDepth 100000 in
theorem impl_copyInts.calls (A0 : Option Addr) (c0 : Nat) (l0 : List Int) (r : List Int) (w : World) (hr0 : Kd.C (Kd.int .i64) w A0 l0.length l0) (hc0 : l0.length ≤ c0) (h : impl_copyInts.f l0 = some r) :
  Calls Try.prog 89 #[.slice A0 l0.length c0] w fun e w' => ∃ v0_ : Value, e = .returned (v0_) ∧ Kd.R (Kd.int .i64) 3 w' w.heap.size (fun _ => True) v0_ r ∧ Below w.heap.size w w' := by
 have HR0 := Aside0.mk hr0
 have HC0 := Aside0.mk hc0
 clear hr0 hc0
 have HB := Aside0.mk (Below.refl w.heap.size w)
 have H := h
 clear h
 unfold impl_copyInts.f at H
 by_cases c2 : ([] : List Int).length + l0.length < 17592186044416
 ·rw [if_pos c2] at H
  have LMc2 := Aside0.mk c2
  clear c2
  obtain ⟨y514, hy514⟩ : ∃ y_ : List Int, y_ = (([] : List Int) ++ l0) := ⟨_, rfl⟩
  replace H : (some y514) = some r := by first | (rw [hy514]; with_reducible exact H) | (have H2_ := (Option.bind_some _ _).symm.trans H; rw [hy514]; with_reducible exact H2_) | (have H2_ := (Option.bind_some _ _).symm.trans H; with_reducible exact H2_) | with_reducible exact H | (rw [hy514]; exact H) | exact H
  have Ny514 := Aside0.mk hy514
  clear hy514
  obtain rfl := Option.some.inj H
  go_enter Try.func89, Try.ntmps89
  go_wp2_with (first | ((with_reducible refine gate_builtin (b := .append) (xs := #[.const (.slice none 0 0), .tmp 3]) rfl ?_); at_builtin; refine Kd.R_append_rows (Kd.int .i64) (w0 := w) w.heap.size rfl (.const (.slice none 0 0)) (.tmp 3) 25 3 (.int .i64 0) 8 rfl Try.underlying25 info3 rfl (by decide) (by omega) (.slice none 0 0) ([] : List Int) l0 _ _ _ (fun _ => True) (fun _ => False) rfl rfl ?aO ?aR (fun _ _ h => h) (fun _ h => h.elim) ?aF ?aB ?aS ?aL ?_; (case aR => repeat (first | exact HR0.out | (with_reducible refine Kd.C_alloc ?_ _) | (with_reducible refine Kd.C_drewN ?_ _) | (with_reducible refine Kd.C_drew ?_))); (case aB => exact bH); (case aF => exact (fun _ _ => trivial)); (case aO => exact ((Kd.R_nil _ _ _ _ (fun _ => True)))); (case aS => exact (below_size bH)); (case aL => have := LMc2.out; omega); intro v515 w3 ho hb hg hat; rw [← Ny514.out] at ho; have n_ := aT (hb) (aM (ho)); clear HB; obtain ⟨HB, HO516⟩ := n_; clear ho hb hg hat))
  go_ret
  exact ⟨_, eE, (kR HO516.out), bH⟩
 rw [if_neg c2] at H
 exact absurd H (by simp)

end Go.Proofs.Ythlpfghlildllaa.OFnKnown
-- wrapped
-- halved
-- squeezed
-- squeezed2
-- squeezed3
