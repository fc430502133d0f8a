-- walks of this claim, written by a program of mine
import Derived.Test.YthlpfghlildllaaOFnKnownx0
import Derived.Test.YthlpfghlildllaaOFnKnownx2
import Derived.Test.YthlpfghlildllaaOFnKnownx3
import Derived.Test.YthlpfghlildllaaOFnKnownx4
import Derived.Test.YthlpfghlildllaaOFnKnownx5
namespace Go.Proofs.Ythlpfghlildllaa.OFnKnown
open Go.RowKit Go.Proofs.Ythlpfghlildllaa.OWord Go.Proofs.YthlpfghlildllaaW.PrintWords Go.Proofs.YthlpfghlildllaaW.PrintLast Go.Proofs.YthlpfghlildllaaW.PrintMore
attribute [local go_sem] max2_int min2_int max_two min_two max_three min_three max_four min_four   -- for this text's walks alone
set_option linter.unusedVariables false
set_option linter.unusedSimpArgs false

/-! ### spec_l2Any: function 39 -/
def spec_l2Any.l0 : Nat → ByteArray → Int → List Int → Int → Int → Option (ByteArray × Int × Int)
 | 0, _, _, _, _, _ => none
 | k + 1, x3, x4, x1000, x1001, x1002 => if x4 < 9 then (if 2 + x3.size ≤ 9223372036854775807 then (spec_l2Any.l0 k ((⟨#[115, 1]⟩ : ByteArray) ++ x3) (wrap64 (x4 + 1)) x1000 x1001 x1002) else (none)) else (some (x3, x1001, x1002))
def spec_l2Any.f (k : Nat) (s0_0 : List Int) (s0_1 : Int) (s0_2 : Int) : Option (ByteArray × Int × Int) := (spec_l1Below.f s0_0 s0_1 s0_2 5).bind fun bt237 => ((spec_l2Some.f k s0_0 bt237.2.1 bt237.2.2 (wrap64 (1 + bt237.1))).bind fun bt240 => ((spec_l1Once.f s0_0 bt240.2.1 bt240.2.2 4).bind fun bt243 => (if bt243.1 = true then ((spec_l1Spoil.f k s0_0 bt243.2.1 bt243.2.2 bt240.1).bind fun bt246 => (some (bt246.1, bt246.2.1, bt246.2.2))) else ((spec_l1Once.f s0_0 bt243.2.1 bt243.2.2 30).bind fun bt249 => (if bt249.1 = true then (spec_l2Any.l0 k bt240.1 0 s0_0 bt249.2.1 bt249.2.2) else (some (bt240.1, bt249.2.1, bt249.2.2)))))))
set_option maxHeartbeats 8000000 in
set_option maxRecDepth 100000 in
theorem spec_l2Any.calls (k : Nat) (g : Nat) (s0_0 : List Int) (s0_1 : Int) (s0_2 : Int) (r1 : ByteArray) (r2 : Int) (r3 : Int) (w0 w : World) (hI : IsS81 w0 w g s0_0 s0_1 s0_2) (hB : Below w0.heap.size w0 w) (h : spec_l2Any.f k s0_0 s0_1 s0_2 = some (r1, r2, r3)) :
  Calls Try.prog 39 #[.pointer (some ⟨g, 0, none⟩)] w fun e w' => e = .returned (.string r1) ∧ IsS81 w0 w' g s0_0 r2 r3 ∧ Below w0.heap.size w0 w' ∧ KeepBut w w' g none := by
 have HI0 := Aside0.mk hI
 have HK := Aside0.mk (KeepBut.refl w g none)
 have HL := Aside0.mk hB.size
 clear hI
 have HW0 := Aside0.mk hB.size
 have HB := Aside0.mk hB
 clear hB
 have H := h
 clear h
 unfold spec_l2Any.f at H
 obtain ⟨⟨t237, t238, t239⟩, A2, H⟩ := oB H
 dsimp only at H
 obtain ⟨⟨t240, t241, t242⟩, A3, H⟩ := oB H
 dsimp only at H
 obtain ⟨⟨t243, t244, t245⟩, A4, H⟩ := oB H
 dsimp only at H
 by_cases c5 : t243 = true
 ·subst c5
  rw [if_pos rfl] at H
  obtain ⟨⟨t246, t247, t248⟩, A6, H⟩ := oB H
  dsimp only at H
  simp only [Option.some.injEq, Prod.mk.injEq] at H
  obtain ⟨rfl, rfl, rfl⟩ := H
  go_enter Try.func39, Try.ntmps39
  go_wp2_with (first | (refine gL 41 (some 7) Try.func41 #[.pointer (some ⟨g, 0, none⟩), .int .i64 5] ?_; (with_reducible refine (spec_l1Below.calls g s0_0 s0_1 s0_2 5 t237 t238 t239 w0 _ ?side1 ?side2 A2.out).mono ?_); (case side1 => exact IsS81.qHI0); (case side2 => exact IsS81.bHI0); rintro e w7 ⟨rfl, hi, hb, hk⟩; refine ⟨_, rfl, ?_⟩; have n_ := aT (KeepBut.trans kK hk (.inl rfl)) (aT (hb) (aM (hi))); clear HK HB HI0; obtain ⟨HK, HB, HI0⟩ := n_; (try clear hb); (try clear hk); (try clear hi)) | (refine gL 42 (some 9) Try.func42 #[.pointer (some ⟨g, 0, none⟩), .int .i64 (wrap64 (1 + t237))] ?_; (with_reducible refine (spec_l2Some.calls k g s0_0 t238 t239 (wrap64 (1 + t237)) t240 t241 t242 w0 _ ?side1 ?side2 A3.out).mono ?_); (case side1 => exact IsS81.qHI0); (case side2 => exact IsS81.bHI0); rintro e w8 ⟨rfl, hi, hb, hk⟩; refine ⟨_, rfl, ?_⟩; have n_ := aT (KeepBut.trans kK hk (.inl rfl)) (aT (hb) (aM (hi))); clear HK HB HI0; obtain ⟨HK, HB, HI0⟩ := n_; (try clear hb); (try clear hk); (try clear hi)) | (refine gL 40 (some 11) Try.func40 #[.pointer (some ⟨g, 0, none⟩), .int .i64 4] ?_; (with_reducible refine (spec_l1Once.calls g s0_0 t241 t242 4 true t244 t245 w0 _ ?side1 ?side2 A4.out).mono ?_); (case side1 => exact IsS81.qHI0); (case side2 => exact IsS81.bHI0); rintro e w9 ⟨rfl, hi, hb, hk⟩; refine ⟨_, rfl, ?_⟩; have n_ := aT (KeepBut.trans kK hk (.inl rfl)) (aT (hb) (aM (hi))); clear HK HB HI0; obtain ⟨HK, HB, HI0⟩ := n_; (try clear hb); (try clear hk); (try clear hi)) | (refine gL 71 (some 14) Try.func71 #[.pointer (some ⟨g, 0, none⟩), .string t240] ?_; (with_reducible refine (spec_l1Spoil.calls k g s0_0 t244 t245 t240 t246 t247 t248 w0 _ ?side1 ?side2 A6.out).mono ?_); (case side1 => exact IsS81.qHI0); (case side2 => exact IsS81.bHI0); rintro e w10 ⟨rfl, hi, hb, hk⟩; refine ⟨_, rfl, ?_⟩; have n_ := aT (KeepBut.trans kK hk (.inl rfl)) (aT (hb) (aM (hi))); clear HK HB HI0; obtain ⟨HK, HB, HI0⟩ := n_; (try clear hb); (try clear hk); (try clear hi)))
  go_ret
  exact ⟨eE, IsS81.qHI0, IsS81.bHI0, kK⟩
 replace c5 := Bool.eq_false_iff.mpr c5
 subst c5
 rw [if_neg nF] at H
 obtain ⟨⟨t249, t250, t251⟩, A11, H⟩ := oB H
 dsimp only at H
 by_cases c12 : t249 = true
 ·subst c12
  rw [if_pos rfl] at H
  have H' := Aside0.mk H
  clear H
  go_enter Try.func39, Try.ntmps39
  go_wp2_with (first | (refine gL 41 (some 7) Try.func41 #[.pointer (some ⟨g, 0, none⟩), .int .i64 5] ?_; (with_reducible refine (spec_l1Below.calls g s0_0 s0_1 s0_2 5 t237 t238 t239 w0 _ ?side1 ?side2 A2.out).mono ?_); (case side1 => exact IsS81.qHI0); (case side2 => exact IsS81.bHI0); rintro e w13 ⟨rfl, hi, hb, hk⟩; refine ⟨_, rfl, ?_⟩; have n_ := aT (KeepBut.trans kK hk (.inl rfl)) (aT (hb) (aM (hi))); clear HK HB HI0; obtain ⟨HK, HB, HI0⟩ := n_; (try clear hb); (try clear hk); (try clear hi)) | (refine gL 42 (some 9) Try.func42 #[.pointer (some ⟨g, 0, none⟩), .int .i64 (wrap64 (1 + t237))] ?_; (with_reducible refine (spec_l2Some.calls k g s0_0 t238 t239 (wrap64 (1 + t237)) t240 t241 t242 w0 _ ?side1 ?side2 A3.out).mono ?_); (case side1 => exact IsS81.qHI0); (case side2 => exact IsS81.bHI0); rintro e w14 ⟨rfl, hi, hb, hk⟩; refine ⟨_, rfl, ?_⟩; have n_ := aT (KeepBut.trans kK hk (.inl rfl)) (aT (hb) (aM (hi))); clear HK HB HI0; obtain ⟨HK, HB, HI0⟩ := n_; (try clear hb); (try clear hk); (try clear hi)) | (refine gL 40 (some 11) Try.func40 #[.pointer (some ⟨g, 0, none⟩), .int .i64 4] ?_; (with_reducible refine (spec_l1Once.calls g s0_0 t241 t242 4 false t244 t245 w0 _ ?side1 ?side2 A4.out).mono ?_); (case side1 => exact IsS81.qHI0); (case side2 => exact IsS81.bHI0); rintro e w15 ⟨rfl, hi, hb, hk⟩; refine ⟨_, rfl, ?_⟩; have n_ := aT (KeepBut.trans kK hk (.inl rfl)) (aT (hb) (aM (hi))); clear HK HB HI0; obtain ⟨HK, HB, HI0⟩ := n_; (try clear hb); (try clear hk); (try clear hi)) | (refine gL 40 (some 16) Try.func40 #[.pointer (some ⟨g, 0, none⟩), .int .i64 30] ?_; (with_reducible refine (spec_l1Once.calls g s0_0 t244 t245 30 true t250 t251 w0 _ ?side1 ?side2 A11.out).mono ?_); (case side1 => exact IsS81.qHI0); (case side2 => exact IsS81.bHI0); rintro e w16 ⟨rfl, hi, hb, hk⟩; refine ⟨_, rfl, ?_⟩; have n_ := aT (KeepBut.trans kK hk (.inl rfl)) (aT (hb) (aM (hi))); clear HK HB HI0; obtain ⟨HK, HB, HI0⟩ := n_; (try clear hb); (try clear hk); (try clear hi)))
  go_loopg [3, 4] k (fun kq v3 v4 w' => ∃ (x3_1 : ByteArray) (x4_1 : Int), v3 = .string x3_1 ∧ v4 = .int .i64 x4_1 ∧ Aside0 (spec_l2Any.l0 kq x3_1 x4_1 s0_0 t250 t251 = some (r1, r2, r3)) ∧ Aside0 (kq ≤ k) ∧ Aside0 (IsS81 w0 w' g s0_0 t250 t251) ∧ Aside0 (KeepBut w w' g none) ∧ Aside0 (Below w0.heap.size w0 w'))
  case atStart => exact ⟨(t240), (0), eX, eX, H', ⟨Nat.le_refl _⟩, ⟨IsS81.qHI0⟩, ⟨kK⟩, ⟨IsS81.bHI0⟩⟩
  case round =>
   clear H'
   try clear c5
   try clear c12
   obtain ⟨x3_1, x4_1, rfl, rfl, HA, HK1, HI0, HK, HB⟩ := hrel
   cases gk with
   | zero => exact absurd HA.out (by simp [spec_l2Any.l0])
   | succ k1 =>
    have H := HA.out
    clear HA
    simp only [spec_l2Any.l0] at H
    by_cases c17 : x4_1 < 9
    ·rw [if_pos c17] at H
     have c17b0 := decide_eq_true c17
     clear c17
     by_cases c18 : 2 + x3_1.size ≤ 9223372036854775807
     ·rw [if_pos c18] at H
      have c18b0 := eq_true c18
      have c18b1 := decide_eq_true c18
      try have c18b2 : (9223372036854775807 < 2 + x3_1.size) = False := eq_false (Nat.not_lt.2 c18)
      have H' := Aside0.mk H
      clear H
      go_wp2
      go_roundg k1
      case measure => have := HK1.out; omega
      case rel => exact ⟨((⟨#[115, 1]⟩ : ByteArray) ++ x3_1), (wrap64 (x4_1 + 1)), eX, eX, H', ⟨(by have := HK1.out; omega)⟩, ⟨IsS81.qHI0⟩, ⟨kK⟩, ⟨IsS81.bHI0⟩⟩
     rw [if_neg c18] at H
     exact absurd H (by simp)
    rw [if_neg c17] at H
    have c17b0 := decide_eq_false c17
    clear c17
    simp only [Option.some.injEq, Prod.mk.injEq] at H
    obtain ⟨rfl, rfl, rfl⟩ := H
    go_wp2
    go_ret
    exact ⟨eE, IsS81.qHI0, IsS81.bHI0, kK⟩
 replace c12 := Bool.eq_false_iff.mpr c12
 subst c12
 rw [if_neg nF] at H
 simp only [Option.some.injEq, Prod.mk.injEq] at H
 obtain ⟨rfl, rfl, rfl⟩ := H
 go_enter Try.func39, Try.ntmps39
 go_wp2_with (first | (refine gL 41 (some 7) Try.func41 #[.pointer (some ⟨g, 0, none⟩), .int .i64 5] ?_; (with_reducible refine (spec_l1Below.calls g s0_0 s0_1 s0_2 5 t237 t238 t239 w0 _ ?side1 ?side2 A2.out).mono ?_); (case side1 => exact IsS81.qHI0); (case side2 => exact IsS81.bHI0); rintro e w19 ⟨rfl, hi, hb, hk⟩; refine ⟨_, rfl, ?_⟩; have n_ := aT (KeepBut.trans kK hk (.inl rfl)) (aT (hb) (aM (hi))); clear HK HB HI0; obtain ⟨HK, HB, HI0⟩ := n_; (try clear hb); (try clear hk); (try clear hi)) | (refine gL 42 (some 9) Try.func42 #[.pointer (some ⟨g, 0, none⟩), .int .i64 (wrap64 (1 + t237))] ?_; (with_reducible refine (spec_l2Some.calls k g s0_0 t238 t239 (wrap64 (1 + t237)) t240 t241 t242 w0 _ ?side1 ?side2 A3.out).mono ?_); (case side1 => exact IsS81.qHI0); (case side2 => exact IsS81.bHI0); rintro e w20 ⟨rfl, hi, hb, hk⟩; refine ⟨_, rfl, ?_⟩; have n_ := aT (KeepBut.trans kK hk (.inl rfl)) (aT (hb) (aM (hi))); clear HK HB HI0; obtain ⟨HK, HB, HI0⟩ := n_; (try clear hb); (try clear hk); (try clear hi)) | (refine gL 40 (some 11) Try.func40 #[.pointer (some ⟨g, 0, none⟩), .int .i64 4] ?_; (with_reducible refine (spec_l1Once.calls g s0_0 t241 t242 4 false t244 t245 w0 _ ?side1 ?side2 A4.out).mono ?_); (case side1 => exact IsS81.qHI0); (case side2 => exact IsS81.bHI0); rintro e w21 ⟨rfl, hi, hb, hk⟩; refine ⟨_, rfl, ?_⟩; have n_ := aT (KeepBut.trans kK hk (.inl rfl)) (aT (hb) (aM (hi))); clear HK HB HI0; obtain ⟨HK, HB, HI0⟩ := n_; (try clear hb); (try clear hk); (try clear hi)) | (refine gL 40 (some 16) Try.func40 #[.pointer (some ⟨g, 0, none⟩), .int .i64 30] ?_; (with_reducible refine (spec_l1Once.calls g s0_0 t244 t245 30 false t250 t251 w0 _ ?side1 ?side2 A11.out).mono ?_); (case side1 => exact IsS81.qHI0); (case side2 => exact IsS81.bHI0); rintro e w22 ⟨rfl, hi, hb, hk⟩; refine ⟨_, rfl, ?_⟩; have n_ := aT (KeepBut.trans kK hk (.inl rfl)) (aT (hb) (aM (hi))); clear HK HB HI0; obtain ⟨HK, HB, HI0⟩ := n_; (try clear hb); (try clear hk); (try clear hi)))
 go_ret
 exact ⟨eE, IsS81.qHI0, IsS81.bHI0, kK⟩

/-! ### spec_l3Has: function 65 -/
def spec_l3Has.l0 : Nat → List Int → Int → Int → Option (Bool)
 | 0, _, _, _ => none
 | k + 1, x0, x1, x5 => if x5 < (x0.length : Int) then (if 0 ≤ x5 then (if (rd x0 x5) = x1 then (some true) else (spec_l3Has.l0 k x0 x1 (wrap64 (x5 + 1)))) else (none)) else (some false)
def spec_l3Has.f (k : Nat) (l0 : List Int) (a1 : Int) : Option (Bool) := spec_l3Has.l0 k l0 a1 0
set_option maxHeartbeats 8000000 in
set_option maxRecDepth 100000 in
theorem spec_l3Has.calls (k : Nat) (A0 : Option Addr) (c0 : Nat) (l0 : List Int) (a1 : Int) (r : Bool) (w : World) (hr0 : Kd.C (Kd.int .i64) w A0 l0.length l0) (hc0 : l0.length ≤ c0) (h : spec_l3Has.f k l0 a1 = some r) :
  Calls Try.prog 65 #[.slice A0 l0.length c0, .int .i64 a1] w fun e w' => e = .returned (.bool r) ∧ Drawn0 w w' := by
 have HR0 := Aside0.mk hr0
 have HC0 := Aside0.mk hc0
 clear hr0 hc0
 have H := h
 clear h
 unfold spec_l3Has.f at H
 have H' := Aside0.mk H
 clear H
 go_enter Try.func65, Try.ntmps65
 go_wp2
 go_loopg [5] k (fun kq v5 w' => ∃ (x5_1 : Int), v5 = .int .i64 x5_1 ∧ Aside0 (spec_l3Has.l0 kq l0 a1 x5_1 = some r) ∧ Aside0 (kq ≤ k) ∧ Drawn0 w w')
 case atStart => exact ⟨(0), eX, H', ⟨Nat.le_refl _⟩, (by repeat (first | exact Drawn0.refl _ | apply Drawn0.step))⟩
 case round =>
  clear H'
  obtain ⟨x5_1, rfl, HA, HK1, ⟨m1, rfl⟩⟩ := hrel
  cases gk with
  | zero => exact absurd HA.out (by simp [spec_l3Has.l0])
  | succ k1 =>
   have H := HA.out
   clear HA
   simp only [spec_l3Has.l0] at H
   by_cases c3 : x5_1 < (l0.length : Int)
   ·rw [if_pos c3] at H
    have c3b0 := decide_eq_true c3
    clear c3
    by_cases c4 : 0 ≤ x5_1
    ·rw [if_pos c4] at H
     have c4b0 := decide_eq_true c4
     clear c4
     by_cases c5 : (rd l0 x5_1) = a1
     ·rw [if_pos c5] at H
      have c5b0 : ((rd l0 x5_1) == a1) = true := beq_iff_eq.mpr c5
      have c5b1 : ((rd l0 x5_1) != a1) = false := bne_eq_false_iff_eq.mpr c5
      clear c5
      obtain rfl := Option.some.inj H
      have p252 : 0 ≤ (x5_1 : Int) := of_decide_eq_true aA
      have q252 : x5_1 < (l0.length : Int) := of_decide_eq_true aA
      obtain ⟨ad252, e252, hx252_0⟩ := Kd.at_int HR0.out x5_1 p252 q252
      cases e252
      replace p252 := eq_true p252
      replace q252 := eq_true q252
      go_wp2
      go_ret
      exact ⟨eX, (by repeat (first | exact Drawn0.refl _ | apply Drawn0.step))⟩
     rw [if_neg c5] at H
     have c5b0 : ((rd l0 x5_1) == a1) = false := beq_eq_false_iff_ne.mpr c5
     have c5b1 : ((rd l0 x5_1) != a1) = true := bne_iff_ne.mpr c5
     have H' := Aside0.mk H
     clear H
     have p252 : 0 ≤ (x5_1 : Int) := of_decide_eq_true aA
     have q252 : x5_1 < (l0.length : Int) := of_decide_eq_true aA
     obtain ⟨ad252, e252, hx252_0⟩ := Kd.at_int HR0.out x5_1 p252 q252
     cases e252
     replace p252 := eq_true p252
     replace q252 := eq_true q252
     go_wp2
     go_roundg k1
     case measure => have := HK1.out; omega
     case rel => exact ⟨(wrap64 (x5_1 + 1)), eX, H', ⟨(by have := HK1.out; omega)⟩, (by repeat (first | exact Drawn0.refl _ | apply Drawn0.step))⟩
    rw [if_neg c4] at H
    exact absurd H (by simp)
   rw [if_neg c3] at H
   have c3b0 := decide_eq_false c3
   clear c3
   obtain rfl := Option.some.inj H
   go_wp2
   go_ret
   exact ⟨eX, (by repeat (first | exact Drawn0.refl _ | apply Drawn0.step))⟩

/-! ### spec_l3Put: function 66 -/
def spec_l3Put.l0 : Nat → List Int → Int → List Int → Bool → Int → Option (List Int)
 | 0, _, _, _, _, _ => none
 | k + 1, x0, x1, x5, x6, x7 => if x7 < (x0.length : Int) then (if x6 = true then (if 0 ≤ x7 then (if x5.length < 17592186044416 then (spec_l3Put.l0 k x0 x1 (x5 ++ [rd x0 x7]) x6 (wrap64 (x7 + 1))) else (none)) else (none)) else (if 0 ≤ x7 then (if x1 < (rd x0 x7) then (if x5.length < 17592186044416 then ((some (x5 ++ [x1] : List Int)).bind fun y262 => (if y262.length < 17592186044416 then (spec_l3Put.l0 k x0 x1 (y262 ++ [rd x0 x7]) true (wrap64 (x7 + 1))) else (none))) else (none)) else (if x5.length < 17592186044416 then (spec_l3Put.l0 k x0 x1 (x5 ++ [rd x0 x7]) x6 (wrap64 (x7 + 1))) else (none))) else (none))) else (if x6 = true then (some x5) else (if x5.length < 17592186044416 then (some (x5 ++ [x1])) else (none)))
def spec_l3Put.f (k : Nat) (l0 : List Int) (a1 : Int) : Option (List Int) := (spec_l3Has.f k l0 a1).bind fun t253 => (if t253 = true then (some l0) else (spec_l3Put.l0 k l0 a1 (([] : List Int)) false 0))
set_option maxHeartbeats 8000000 in
set_option maxRecDepth 100000 in
theorem spec_l3Put.calls (k : Nat) (P0_ : Nat → Prop) (u9000_ : Value) (l0 : List Int) (a1 : Int) (r : List Int) (w0 w : World) (hB : Below w0.heap.size w0 w) (ho0 : Kd.R (Kd.int .i64) 3 w w0.heap.size P0_ u9000_ l0) (h : spec_l3Put.f k l0 a1 = some r) :
  Calls Try.prog 66 #[u9000_, .int .i64 a1] w fun e w' => ∃ v0_ : Value, e = .returned (v0_) ∧ Kd.R (Kd.int .i64) 3 w' w0.heap.size (fun k_ => (P0_ k_ ∨ w.heap.size ≤ k_)) v0_ r ∧ Below w0.heap.size w0 w' ∧ Kept w w' (fun k_ => P0_ k_) := by
 have HO0 := Aside0.mk (show Kd.R (Kd.int .i64) 3 w w0.heap.size (fun k_ => (P0_ k_ ∨ w.heap.size ≤ k_)) u9000_ l0 from Kd.R_mono ho0 (fun k_ hk => (.inl hk)))
 have HK := Aside0.mk (Kept.refl w (fun k_ => P0_ k_))
 have HW0 := Aside0.mk hB.size
 have HB := Aside0.mk hB
 clear hB
 have H := h
 clear h
 unfold spec_l3Put.f at H
 obtain ⟨t253, A3, H⟩ := oB H
 by_cases c4 : t253 = true
 ·subst c4
  rw [if_pos rfl] at H
  obtain rfl := Option.some.inj H
  obtain ⟨Ao5, co5, eo5⟩ := Kd.R_slice HO0.out
  subst eo5
  go_enter Try.func66, Try.ntmps66
  go_wp2_with (first | (refine gL 65 (some 10) Try.func65 #[.slice Ao5 l0.length co5, .int .i64 a1] ?_; (with_reducible refine (spec_l3Has.calls k _ _ l0 a1 true _ ?side1 ?side2 A3.out).mono ?_); (case side1 => exact cA ((Kd.R_reads' HO0.out).2.2)); (case side2 => exact (Kd.R_reads' HO0.out).2.1); rintro e w' ⟨rfl, ⟨nd, rfl⟩⟩; refine ⟨_, rfl, ?_⟩))
  go_ret
  exact ⟨_, eE, (kR HO0.out), bH, kQ⟩
 replace c4 := Bool.eq_false_iff.mpr c4
 subst c4
 rw [if_neg nF] at H
 obtain ⟨y254, hy254⟩ : ∃ y_ : List Int, y_ = (([] : List Int)) := ⟨_, rfl⟩
 replace H : (spec_l3Put.l0 k l0 a1 y254 false 0) = some r := by first | (rw [hy254]; with_reducible exact H) | (have H2_ := (Option.bind_some _ _).symm.trans H; rw [hy254]; with_reducible exact H2_) | (have H2_ := (Option.bind_some _ _).symm.trans H; with_reducible exact H2_) | with_reducible exact H | (rw [hy254]; exact H) | exact H
 have Ny254 := Aside0.mk hy254
 clear hy254
 have H' := Aside0.mk H
 clear H
 obtain ⟨Ao6, co6, eo6⟩ := Kd.R_slice HO0.out
 subst eo6
 go_enter Try.func66, Try.ntmps66
 go_wp2_with (first | (refine gL 65 (some 10) Try.func65 #[.slice Ao6 l0.length co6, .int .i64 a1] ?_; (with_reducible refine (spec_l3Has.calls k _ _ l0 a1 false _ ?side1 ?side2 A3.out).mono ?_); (case side1 => exact cA ((Kd.R_reads' HO0.out).2.2)); (case side2 => exact (Kd.R_reads' HO0.out).2.1); rintro e w' ⟨rfl, ⟨nd, rfl⟩⟩; refine ⟨_, rfl, ?_⟩) | ((with_reducible refine gate_dst (N := 12) rfl ?_); refine Kd.R_lit (Kd.int .i64) _ 3 ?hg (N := 12) ?hd (xs := ([] : List Int)) (inner := []) (ok := fun _ => True) (okp := fun _ => True) ?hr ?hp (fun _ hk => hk) trivial (Below.refl _ _) (Nat.le_refl _) (by simp) ?_; (case hd => rfl); (case hg => rfl); (case hr => first | (go_simp; done) | (go_simp; rfl)); (case hp => exact (Reps.none _ _)); intro v255 w7 ho8 hb hg_ hnew_; clear hg_ hnew_; (first | rw [← Ny254.out] at ho8 | (simp only [Int.reduceToNat] at ho8; rw [← Ny254.out] at ho8)); have n_ := aT (Kd.R_elder' (kR HO0.out) (Kd.R_base ho8) hb) (aT (Kd.R_lower (Kd.R_new' (Kd.R_newM (M := fun k_ => (P0_ k_ ∨ w.heap.size ≤ k_)) ho8 (by first | exact HK.out.1 | exact (show Kept w _ (fun k_ => P0_ k_) from by repeat (first | (with_reducible first | exact HK.out | apply Kept.alloc | apply Kept.drewN | apply Kept.drew) | exact HK.out)).1) (fun k_ h_ => .inr h_)) (Kd.R_lt (kR HO0.out))) (below_size bH)) (aT (Kept.below (S := (fun k_ => P0_ k_)) kQ hb) (aM (below_step bH hb)))); clear HO0 HK HB; obtain ⟨HO0, HO256, HK, HB⟩ := n_; clear hb ho8))
 go_loopg [5, 6, 7] k (fun kq v5 v6 v7 w' => ∃ (x5_1 : List Int) (x6_1 : Bool) (x7_1 : Int), v6 = .bool x6_1 ∧ v7 = .int .i64 x7_1 ∧ Aside0 (spec_l3Put.l0 kq l0 a1 x5_1 x6_1 x7_1 = some r) ∧ Aside0 (kq ≤ k) ∧ Aside0 (Kd.R (Kd.int .i64) 3 w' w0.heap.size (fun k_ => (P0_ k_ ∨ w.heap.size ≤ k_) ∧ some k_ ≠ (v5 : Value).ownBlock) (.slice Ao6 l0.length co6) l0) ∧ Aside0 (Kd.R (Kd.int .i64) 3 w' w0.heap.size (fun k_ => (P0_ k_ ∨ w.heap.size ≤ k_) ∧ some k_ ≠ ((.slice Ao6 l0.length co6) : Value).ownBlock) v5 x5_1) ∧ Aside0 (Kept w w' (fun k_ => P0_ k_)) ∧ Aside0 (Below w0.heap.size w0 w'))
 case atStart => exact ⟨(y254), (false), (0), eX, eX, H', ⟨Nat.le_refl _⟩, ⟨(kR HO0.out)⟩, ⟨(rM HO256.out (fun _ hk => ⟨hk.1.1, hk.2⟩))⟩, ⟨kQ⟩, ⟨bH⟩⟩
 case round =>
  clear H'
  try clear c4
  obtain ⟨x5_1, x6_1, x7_1, rfl, rfl, HA, HK1, HO_0, HO_5, HK, HB⟩ := hrel
  cases gk with
  | zero => exact absurd HA.out (by simp [spec_l3Put.l0])
  | succ k1 =>
   have H := HA.out
   clear HA
   simp only [spec_l3Put.l0] at H
   by_cases c9 : x7_1 < (l0.length : Int)
   ·rw [if_pos c9] at H
    have c9b0 := decide_eq_true c9
    clear c9
    by_cases c10 : x6_1 = true
    ·subst c10
     rw [if_pos rfl] at H
     by_cases c11 : 0 ≤ x7_1
     ·rw [if_pos c11] at H
      have c11b0 := decide_eq_true c11
      clear c11
      by_cases c12 : x5_1.length < 17592186044416
      ·rw [if_pos c12] at H
       have LMc12 := Aside0.mk c12
       clear c12
       obtain ⟨y258, hy258⟩ : ∃ y_ : List Int, y_ = (x5_1 ++ [rd l0 x7_1]) := ⟨_, rfl⟩
       replace H : (spec_l3Put.l0 k1 l0 a1 y258 true (wrap64 (x7_1 + 1))) = some r := by first | (rw [hy258]; with_reducible exact H) | (have H2_ := (Option.bind_some _ _).symm.trans H; rw [hy258]; with_reducible exact H2_) | (have H2_ := (Option.bind_some _ _).symm.trans H; with_reducible exact H2_) | with_reducible exact H | (rw [hy258]; exact H) | exact H
       have Ny258 := Aside0.mk hy258
       clear hy258
       have H' := Aside0.mk H
       clear H
       have p257 : 0 ≤ (x7_1 : Int) := of_decide_eq_true aA
       have q257 : x7_1 < (l0.length : Int) := of_decide_eq_true aA
       obtain ⟨ad257, e257, hx257_0⟩ := Kd.at_int (Kd.R_reads' HO_0.out).2.2 x7_1 p257 q257
       cases e257
       replace p257 := eq_true p257
       replace q257 := eq_true q257
       go_wp2_with (first | ((with_reducible refine gate_builtin (b := .append) (xs := #[.tmp 33, .tmp 38]) rfl ?_); at_builtin; refine Kd.R_append (Kd.int .i64) (w0 := w0) w0.heap.size rfl (.tmp 33) (.tmp 38) 25 3 (.int .i64 0) 8 rfl Try.underlying25 info3 rfl (by decide) (by omega) u5 x5_1 (rd l0 x7_1) [.int .i64 (rd l0 x7_1)] (fun k_ => (P0_ k_ ∨ w.heap.size ≤ k_) ∧ some k_ ≠ (.slice (some ad257) l0.length co6 : Value).ownBlock) (fun _ => False) rfl rfl ?aP (fun _ hk => hk.elim) ?aF ?aO ?aB ?aS ?aL ?_; (case aP => exact rfl); (case aB => exact bH); (case aF => exact (fun k_ hk => ⟨(.inr (Nat.le_trans (by first | exact HK.out.1 | exact (show Kept w _ (fun k_ => P0_ k_) from by repeat (first | (with_reducible first | exact HK.out | apply Kept.alloc | apply Kept.drewN | apply Kept.drew) | exact HK.out)).1) hk)), Kd.fresh' (Kd.R_lt (kR HO_0.out)) k_ hk⟩)); (case aO => exact (kR HO_5.out)); (case aS => exact (below_size bH)); (case aL => have := LMc12.out; omega); intro v259 w13 ho hb hg hat; rw [← Ny258.out] at ho; have n_ := aT (Kd.R_after (ok := (fun k_ => (P0_ k_ ∨ w.heap.size ≤ k_))) (kR HO_0.out) hg hat) (aT (hb) (aT (Kept.of_grown (S := (fun k_ => P0_ k_)) hg kQ (fun k_ e_ => (HO_5.out.1 k_ e_).1)) (aM (ho)))); clear HO_0 HB HK HO_5; obtain ⟨HO_0, HB, HK, HO260⟩ := n_; clear ho hb hg hat))
       go_roundg k1
       case measure => have := HK1.out; omega
       case rel => exact ⟨(y258), (true), (wrap64 (x7_1 + 1)), eX, eX, H', ⟨(by have := HK1.out; omega)⟩, ⟨(kR HO_0.out)⟩, ⟨(kR HO260.out)⟩, ⟨kQ⟩, ⟨bH⟩⟩
      rw [if_neg c12] at H
      exact absurd H (by simp)
     rw [if_neg c11] at H
     exact absurd H (by simp)
    replace c10 := Bool.eq_false_iff.mpr c10
    subst c10
    rw [if_neg nF] at H
    by_cases c14 : 0 ≤ x7_1
    ·rw [if_pos c14] at H
     have c14b0 := decide_eq_true c14
     clear c14
     by_cases c15 : a1 < (rd l0 x7_1)
     ·rw [if_pos c15] at H
      have c15b0 := decide_eq_true c15
      clear c15
      by_cases c16 : x5_1.length < 17592186044416
      ·rw [if_pos c16] at H
       have LMc16 := Aside0.mk c16
       clear c16
       obtain ⟨y262, hy262⟩ : ∃ y_ : List Int, y_ = (x5_1 ++ [a1]) := ⟨_, rfl⟩
       replace H : (if y262.length < 17592186044416 then (spec_l3Put.l0 k1 l0 a1 (y262 ++ [rd l0 x7_1]) true (wrap64 (x7_1 + 1))) else (none)) = some r := by first | (rw [hy262]; with_reducible exact H) | (have H2_ := (Option.bind_some _ _).symm.trans H; rw [hy262]; with_reducible exact H2_) | (have H2_ := (Option.bind_some _ _).symm.trans H; with_reducible exact H2_) | with_reducible exact H | (rw [hy262]; exact H) | exact H
       have Ny262 := Aside0.mk hy262
       clear hy262
       by_cases c17 : y262.length < 17592186044416
       ·rw [if_pos c17] at H
        have LMc17 := Aside0.mk c17
        clear c17
        obtain ⟨y266, hy266⟩ : ∃ y_ : List Int, y_ = (y262 ++ [rd l0 x7_1]) := ⟨_, rfl⟩
        replace H : (spec_l3Put.l0 k1 l0 a1 y266 true (wrap64 (x7_1 + 1))) = some r := by first | (rw [hy266]; with_reducible exact H) | (have H2_ := (Option.bind_some _ _).symm.trans H; rw [hy266]; with_reducible exact H2_) | (have H2_ := (Option.bind_some _ _).symm.trans H; with_reducible exact H2_) | with_reducible exact H | (rw [hy266]; exact H) | exact H
        have Ny266 := Aside0.mk hy266
        clear hy266
        have H' := Aside0.mk H
        clear H
        have p261 : 0 ≤ (x7_1 : Int) := of_decide_eq_true aA
        have q261 : x7_1 < (l0.length : Int) := of_decide_eq_true aA
        obtain ⟨ad261, e261, hx261_0⟩ := Kd.at_int (Kd.R_reads' HO_0.out).2.2 x7_1 p261 q261
        cases e261
        replace p261 := eq_true p261
        replace q261 := eq_true q261
        go_wp2_with (first | ((with_reducible refine gate_builtin (b := .append) (xs := #[.tmp 29, .tmp 31]) rfl ?_); at_builtin; refine Kd.R_append (Kd.int .i64) (w0 := w0) w0.heap.size rfl (.tmp 29) (.tmp 31) 25 3 (.int .i64 0) 8 rfl Try.underlying25 info3 rfl (by decide) (by omega) u5 x5_1 a1 [.int .i64 a1] (fun k_ => (P0_ k_ ∨ w.heap.size ≤ k_) ∧ some k_ ≠ (.slice (some ad261) l0.length co6 : Value).ownBlock) (fun _ => False) rfl rfl ?aP (fun _ hk => hk.elim) ?aF ?aO ?aB ?aS ?aL ?_; (case aP => exact rfl); (case aB => exact bH); (case aF => exact (fun k_ hk => ⟨(.inr (Nat.le_trans (by first | exact HK.out.1 | exact (show Kept w _ (fun k_ => P0_ k_) from by repeat (first | (with_reducible first | exact HK.out | apply Kept.alloc | apply Kept.drewN | apply Kept.drew) | exact HK.out)).1) hk)), Kd.fresh' (Kd.R_lt (kR HO_0.out)) k_ hk⟩)); (case aO => exact (kR HO_5.out)); (case aS => exact (below_size bH)); (case aL => have := LMc16.out; omega); intro v263 w18 ho hb hg hat; rw [← Ny262.out] at ho; have n_ := aT (Kd.R_after (ok := (fun k_ => (P0_ k_ ∨ w.heap.size ≤ k_))) (kR HO_0.out) hg hat) (aT (hb) (aT (Kept.of_grown (S := (fun k_ => P0_ k_)) hg kQ (fun k_ e_ => (HO_5.out.1 k_ e_).1)) (aM (ho)))); clear HO_0 HB HK HO_5; obtain ⟨HO_0, HB, HK, HO264⟩ := n_; clear ho hb hg hat; have p265 : 0 ≤ (x7_1 : Int) := of_decide_eq_true aA; have q265 : x7_1 < (l0.length : Int) := of_decide_eq_true aA; obtain ⟨ad265, e265, hx265_0⟩ := Kd.at_int (Kd.R_reads' HO_0.out).2.2 x7_1 p265 q265; obtain rfl : ad261 = ad265 := (by injection e265); replace p265 := eq_true p265; replace q265 := eq_true q265) | ((with_reducible refine gate_builtin (b := .append) (xs := #[.tmp 33, .tmp 38]) rfl ?_); at_builtin; refine Kd.R_append (Kd.int .i64) (w0 := w0) w0.heap.size rfl (.tmp 33) (.tmp 38) 25 3 (.int .i64 0) 8 rfl Try.underlying25 info3 rfl (by decide) (by omega) v263 y262 (rd l0 x7_1) [.int .i64 (rd l0 x7_1)] (fun k_ => (P0_ k_ ∨ w.heap.size ≤ k_) ∧ some k_ ≠ (.slice (some ad261) l0.length co6 : Value).ownBlock) (fun _ => False) rfl rfl ?aP (fun _ hk => hk.elim) ?aF ?aO ?aB ?aS ?aL ?_; (case aP => exact rfl); (case aB => exact bH); (case aF => exact (fun k_ hk => ⟨(.inr (Nat.le_trans (by first | exact HK.out.1 | exact (show Kept w _ (fun k_ => P0_ k_) from by repeat (first | (with_reducible first | exact HK.out | apply Kept.alloc | apply Kept.drewN | apply Kept.drew) | exact HK.out)).1) hk)), Kd.fresh' (Kd.R_lt (kR HO_0.out)) k_ hk⟩)); (case aO => exact (kR HO264.out)); (case aS => exact (below_size bH)); (case aL => have := LMc17.out; omega); intro v267 w19 ho hb hg hat; rw [← Ny266.out] at ho; have n_ := aT (Kd.R_after (ok := (fun k_ => (P0_ k_ ∨ w.heap.size ≤ k_))) (kR HO_0.out) hg hat) (aT (hb) (aT (Kept.of_grown (S := (fun k_ => P0_ k_)) hg kQ (fun k_ e_ => (HO264.out.1 k_ e_).1)) (aM (ho)))); clear HO_0 HB HK HO264; obtain ⟨HO_0, HB, HK, HO268⟩ := n_; clear ho hb hg hat))
        go_roundg k1
        case measure => have := HK1.out; omega
        case rel => exact ⟨(y266), (true), (wrap64 (x7_1 + 1)), eX, eX, H', ⟨(by have := HK1.out; omega)⟩, ⟨(kR HO_0.out)⟩, ⟨(kR HO268.out)⟩, ⟨kQ⟩, ⟨bH⟩⟩
       rw [if_neg c17] at H
       exact absurd H (by simp)
      rw [if_neg c16] at H
      exact absurd H (by simp)
     rw [if_neg c15] at H
     have c15b0 := decide_eq_false c15
     clear c15
     by_cases c20 : x5_1.length < 17592186044416
     ·rw [if_pos c20] at H
      have LMc20 := Aside0.mk c20
      clear c20
      obtain ⟨y270, hy270⟩ : ∃ y_ : List Int, y_ = (x5_1 ++ [rd l0 x7_1]) := ⟨_, rfl⟩
      replace H : (spec_l3Put.l0 k1 l0 a1 y270 false (wrap64 (x7_1 + 1))) = some r := by first | (rw [hy270]; with_reducible exact H) | (have H2_ := (Option.bind_some _ _).symm.trans H; rw [hy270]; with_reducible exact H2_) | (have H2_ := (Option.bind_some _ _).symm.trans H; with_reducible exact H2_) | with_reducible exact H | (rw [hy270]; exact H) | exact H
      have Ny270 := Aside0.mk hy270
      clear hy270
      have H' := Aside0.mk H
      clear H
      have p261 : 0 ≤ (x7_1 : Int) := of_decide_eq_true aA
      have q261 : x7_1 < (l0.length : Int) := of_decide_eq_true aA
      obtain ⟨ad261, e261, hx261_0⟩ := Kd.at_int (Kd.R_reads' HO_0.out).2.2 x7_1 p261 q261
      cases e261
      replace p261 := eq_true p261
      replace q261 := eq_true q261
      have p269 : 0 ≤ (x7_1 : Int) := of_decide_eq_true aA
      have q269 : x7_1 < (l0.length : Int) := of_decide_eq_true aA
      obtain ⟨ad269, e269, hx269_0⟩ := Kd.at_int (Kd.R_reads' HO_0.out).2.2 x7_1 p269 q269
      obtain rfl : ad261 = ad269 := (by injection e269)
      replace p269 := eq_true p269
      replace q269 := eq_true q269
      go_wp2_with (first | ((with_reducible refine gate_builtin (b := .append) (xs := #[.tmp 33, .tmp 38]) rfl ?_); at_builtin; refine Kd.R_append (Kd.int .i64) (w0 := w0) w0.heap.size rfl (.tmp 33) (.tmp 38) 25 3 (.int .i64 0) 8 rfl Try.underlying25 info3 rfl (by decide) (by omega) u5 x5_1 (rd l0 x7_1) [.int .i64 (rd l0 x7_1)] (fun k_ => (P0_ k_ ∨ w.heap.size ≤ k_) ∧ some k_ ≠ (.slice (some ad261) l0.length co6 : Value).ownBlock) (fun _ => False) rfl rfl ?aP (fun _ hk => hk.elim) ?aF ?aO ?aB ?aS ?aL ?_; (case aP => exact rfl); (case aB => exact bH); (case aF => exact (fun k_ hk => ⟨(.inr (Nat.le_trans (by first | exact HK.out.1 | exact (show Kept w _ (fun k_ => P0_ k_) from by repeat (first | (with_reducible first | exact HK.out | apply Kept.alloc | apply Kept.drewN | apply Kept.drew) | exact HK.out)).1) hk)), Kd.fresh' (Kd.R_lt (kR HO_0.out)) k_ hk⟩)); (case aO => exact (kR HO_5.out)); (case aS => exact (below_size bH)); (case aL => have := LMc20.out; omega); intro v271 w21 ho hb hg hat; rw [← Ny270.out] at ho; have n_ := aT (Kd.R_after (ok := (fun k_ => (P0_ k_ ∨ w.heap.size ≤ k_))) (kR HO_0.out) hg hat) (aT (hb) (aT (Kept.of_grown (S := (fun k_ => P0_ k_)) hg kQ (fun k_ e_ => (HO_5.out.1 k_ e_).1)) (aM (ho)))); clear HO_0 HB HK HO_5; obtain ⟨HO_0, HB, HK, HO272⟩ := n_; clear ho hb hg hat))
      go_roundg k1
      case measure => have := HK1.out; omega
      case rel => exact ⟨(y270), (false), (wrap64 (x7_1 + 1)), eX, eX, H', ⟨(by have := HK1.out; omega)⟩, ⟨(kR HO_0.out)⟩, ⟨(kR HO272.out)⟩, ⟨kQ⟩, ⟨bH⟩⟩
     rw [if_neg c20] at H
     exact absurd H (by simp)
    rw [if_neg c14] at H
    exact absurd H (by simp)
   rw [if_neg c9] at H
   have c9b0 := decide_eq_false c9
   clear c9
   by_cases c22 : x6_1 = true
   ·subst c22
    rw [if_pos rfl] at H
    obtain rfl := Option.some.inj H
    go_wp2
    go_ret
    exact ⟨_, eE, (rM HO_5.out (fun _ hk => hk.1)), bH, kQ⟩
   replace c22 := Bool.eq_false_iff.mpr c22
   subst c22
   rw [if_neg nF] at H
   by_cases c23 : x5_1.length < 17592186044416
   ·rw [if_pos c23] at H
    have LMc23 := Aside0.mk c23
    clear c23
    obtain ⟨y273, hy273⟩ : ∃ y_ : List Int, y_ = (x5_1 ++ [a1]) := ⟨_, rfl⟩
    replace H : (some y273) = some r := by first | (rw [hy273]; with_reducible exact H) | (have H2_ := (Option.bind_some _ _).symm.trans H; rw [hy273]; with_reducible exact H2_) | (have H2_ := (Option.bind_some _ _).symm.trans H; with_reducible exact H2_) | with_reducible exact H | (rw [hy273]; exact H) | exact H
    have Ny273 := Aside0.mk hy273
    clear hy273
    obtain rfl := Option.some.inj H
    go_wp2_with (first | ((with_reducible refine gate_builtin (b := .append) (xs := #[.tmp 42, .tmp 44]) rfl ?_); at_builtin; refine Kd.R_append (Kd.int .i64) (w0 := w0) w0.heap.size rfl (.tmp 42) (.tmp 44) 25 3 (.int .i64 0) 8 rfl Try.underlying25 info3 rfl (by decide) (by omega) u5 x5_1 a1 [.int .i64 a1] (fun k_ => (P0_ k_ ∨ w.heap.size ≤ k_) ∧ some k_ ≠ (.slice Ao6 l0.length co6 : Value).ownBlock) (fun _ => False) rfl rfl ?aP (fun _ hk => hk.elim) ?aF ?aO ?aB ?aS ?aL ?_; (case aP => exact rfl); (case aB => exact bH); (case aF => exact (fun k_ hk => ⟨(.inr (Nat.le_trans (by first | exact HK.out.1 | exact (show Kept w _ (fun k_ => P0_ k_) from by repeat (first | (with_reducible first | exact HK.out | apply Kept.alloc | apply Kept.drewN | apply Kept.drew) | exact HK.out)).1) hk)), Kd.fresh' (Kd.R_lt (kR HO_0.out)) k_ hk⟩)); (case aO => exact (kR HO_5.out)); (case aS => exact (below_size bH)); (case aL => have := LMc23.out; omega); intro v274 w24 ho hb hg hat; rw [← Ny273.out] at ho; have n_ := aT (Kd.R_after (ok := (fun k_ => (P0_ k_ ∨ w.heap.size ≤ k_))) (kR HO_0.out) hg hat) (aT (hb) (aT (Kept.of_grown (S := (fun k_ => P0_ k_)) hg kQ (fun k_ e_ => (HO_5.out.1 k_ e_).1)) (aM (ho)))); clear HO_0 HB HK HO_5; obtain ⟨HO_0, HB, HK, HO275⟩ := n_; clear ho hb hg hat))
    go_ret
    exact ⟨_, eE, (rM HO275.out (fun _ hk => hk.1)), bH, kQ⟩
   rw [if_neg c23] at H
   exact absurd H (by simp)

/-! ### spec_l3In: function 43 -/
def spec_l3In.l0 : Nat → List ByteArray → ByteArray → Int → Option (Bool)
 | 0, _, _, _ => none
 | k + 1, x0, x1, x5 => if x5 < (x0.length : Int) then (if 0 ≤ x5 then (if (rdOf ByteArray.empty x0 x5).toList = x1.toList then (some true) else (spec_l3In.l0 k x0 x1 (wrap64 (x5 + 1)))) else (none)) else (some false)
def spec_l3In.f (k : Nat) (l0 : List ByteArray) (a1 : ByteArray) : Option (Bool) := spec_l3In.l0 k l0 a1 0
set_option maxHeartbeats 8000000 in
set_option maxRecDepth 100000 in
theorem spec_l3In.calls (k : Nat) (A0 : Option Addr) (c0 : Nat) (l0 : List ByteArray) (a1 : ByteArray) (r : Bool) (w : World) (hr0 : Kd.C Kd.string w A0 l0.length l0) (hc0 : l0.length ≤ c0) (h : spec_l3In.f k l0 a1 = some r) :
  Calls Try.prog 43 #[.slice A0 l0.length c0, .string a1] w fun e w' => e = .returned (.bool r) ∧ Drawn0 w w' := by
 have HR0 := Aside0.mk hr0
 have HC0 := Aside0.mk hc0
 clear hr0 hc0
 have H := h
 clear h
 unfold spec_l3In.f at H
 have H' := Aside0.mk H
 clear H
 go_enter Try.func43, Try.ntmps43
 go_wp2
 go_loopg [5] k (fun kq v5 w' => ∃ (x5_1 : Int), v5 = .int .i64 x5_1 ∧ Aside0 (spec_l3In.l0 kq l0 a1 x5_1 = some r) ∧ Aside0 (kq ≤ k) ∧ Drawn0 w w')
 case atStart => exact ⟨(0), eX, H', ⟨Nat.le_refl _⟩, (by repeat (first | exact Drawn0.refl _ | apply Drawn0.step))⟩
 case round =>
  clear H'
  obtain ⟨x5_1, rfl, HA, HK1, ⟨m1, rfl⟩⟩ := hrel
  cases gk with
  | zero => exact absurd HA.out (by simp [spec_l3In.l0])
  | succ k1 =>
   have H := HA.out
   clear HA
   simp only [spec_l3In.l0] at H
   by_cases c3 : x5_1 < (l0.length : Int)
   ·rw [if_pos c3] at H
    have c3b0 := decide_eq_true c3
    clear c3
    by_cases c4 : 0 ≤ x5_1
    ·rw [if_pos c4] at H
     have c4b0 := decide_eq_true c4
     clear c4
     by_cases c5 : (rdOf ByteArray.empty l0 x5_1).toList = a1.toList
     ·rw [if_pos c5] at H
      have c5b0 : ((rdOf ByteArray.empty l0 x5_1).toList == a1.toList) = true := beq_iff_eq.mpr c5
      have c5b1 : ((rdOf ByteArray.empty l0 x5_1).toList != a1.toList) = false := bne_eq_false_iff_eq.mpr c5
      clear c5
      obtain rfl := Option.some.inj H
      have p276 : 0 ≤ (x5_1 : Int) := of_decide_eq_true aA
      have q276 : x5_1 < (l0.length : Int) := of_decide_eq_true aA
      obtain ⟨ad276, e276, hx276_0⟩ := Kd.at_string HR0.out x5_1 p276 q276
      cases e276
      replace p276 := eq_true p276
      replace q276 := eq_true q276
      go_wp2
      go_ret
      exact ⟨eX, (by repeat (first | exact Drawn0.refl _ | apply Drawn0.step))⟩
     rw [if_neg c5] at H
     have c5b0 : ((rdOf ByteArray.empty l0 x5_1).toList == a1.toList) = false := beq_eq_false_iff_ne.mpr c5
     have c5b1 : ((rdOf ByteArray.empty l0 x5_1).toList != a1.toList) = true := bne_iff_ne.mpr c5
     have H' := Aside0.mk H
     clear H
     have p276 : 0 ≤ (x5_1 : Int) := of_decide_eq_true aA
     have q276 : x5_1 < (l0.length : Int) := of_decide_eq_true aA
     obtain ⟨ad276, e276, hx276_0⟩ := Kd.at_string HR0.out x5_1 p276 q276
     cases e276
     replace p276 := eq_true p276
     replace q276 := eq_true q276
     go_wp2
     go_roundg k1
     case measure => have := HK1.out; omega
     case rel => exact ⟨(wrap64 (x5_1 + 1)), eX, H', ⟨(by have := HK1.out; omega)⟩, (by repeat (first | exact Drawn0.refl _ | apply Drawn0.step))⟩
    rw [if_neg c4] at H
    exact absurd H (by simp)
   rw [if_neg c3] at H
   have c3b0 := decide_eq_false c3
   clear c3
   obtain rfl := Option.some.inj H
   go_wp2
   go_ret
   exact ⟨eX, (by repeat (first | exact Drawn0.refl _ | apply Drawn0.step))⟩

/-! ### spec_l3Learn: function 69 -/
def spec_l3Learn.f (k : Nat) (l0_0 : List ByteArray) (l0_1 : List Int) (a1 : ByteArray) : Option (List ByteArray × List Int) := (spec_TermOk.f k a1).bind fun t279 => (if t279 = true then ((spec_l3In.f k l0_0 a1).bind fun t280 => (if t280 = true then (some (l0_0, l0_1)) else (if (l0_0.length : Int) < 60 then (if l0_0.length < 8796093022208 then (some ((l0_0 ++ [a1]), l0_1)) else (none)) else (some (l0_0, l0_1))))) else (some (l0_0, l0_1)))
set_option maxHeartbeats 8000000 in
set_option maxRecDepth 100000 in
theorem spec_l3Learn.calls (k : Nat) (P0_0_ : Nat → Prop) (u9000_ : Value) (l0_0 : List ByteArray) (P0_1_ : Nat → Prop) (u9001_ : Value) (l0_1 : List Int) (a1 : ByteArray) (r1 : List ByteArray) (r2 : List Int) (w0 w : World) (hB : Below w0.heap.size w0 w) (ho0_0 : Kd.R Kd.string 9 w w0.heap.size P0_0_ u9000_ l0_0) (ho0_1 : Kd.R (Kd.int .i64) 3 w w0.heap.size P0_1_ u9001_ l0_1) (h : spec_l3Learn.f k l0_0 l0_1 a1 = some (r1, r2)) :
  Calls Try.prog 69 #[.agg #[u9000_, u9001_], .string a1] w fun e w' => ∃ v0_ v1_ : Value, e = .returned (.agg #[v0_, v1_]) ∧ Kd.R Kd.string 9 w' w0.heap.size (fun k_ => ((P0_0_ k_ ∨ P0_1_ k_) ∨ w.heap.size ≤ k_)) v0_ r1 ∧ Kd.R (Kd.int .i64) 3 w' w0.heap.size (fun k_ => ((P0_0_ k_ ∨ P0_1_ k_) ∨ w.heap.size ≤ k_)) v1_ r2 ∧ Below w0.heap.size w0 w' ∧ Kept w w' (fun k_ => P0_0_ k_ ∨ P0_1_ k_) := by
 have hu27 := Try.underlying27
 have HO0_0 := Aside0.mk (show Kd.R Kd.string 9 w w0.heap.size (fun k_ => ((P0_0_ k_ ∨ P0_1_ k_) ∨ w.heap.size ≤ k_)) u9000_ l0_0 from Kd.R_mono ho0_0 (fun k_ hk => (.inl (.inl hk))))
 have HO0_1 := Aside0.mk (show Kd.R (Kd.int .i64) 3 w w0.heap.size (fun k_ => ((P0_0_ k_ ∨ P0_1_ k_) ∨ w.heap.size ≤ k_)) u9001_ l0_1 from Kd.R_mono ho0_1 (fun k_ hk => (.inl (.inr hk))))
 have HK := Aside0.mk (Kept.refl w (fun k_ => P0_0_ k_ ∨ P0_1_ k_))
 have HW0 := Aside0.mk hB.size
 have HB := Aside0.mk hB
 clear hB
 have H := h
 clear h
 unfold spec_l3Learn.f at H
 obtain ⟨t279, A3, H⟩ := oB H
 by_cases c4 : t279 = true
 ·subst c4
  rw [if_pos rfl] at H
  obtain ⟨t280, A5, H⟩ := oB H
  by_cases c6 : t280 = true
  ·subst c6
   rw [if_pos rfl] at H
   simp only [Option.some.injEq, Prod.mk.injEq] at H
   obtain ⟨rfl, rfl⟩ := H
   obtain ⟨Ao7, co7, eo7⟩ := Kd.R_slice HO0_0.out
   subst eo7
   obtain ⟨Ao8, co8, eo8⟩ := Kd.R_slice HO0_1.out
   subst eo8
   go_enter Try.func69, Try.ntmps69
   go_wp2_with (first | ((with_reducible refine gate_dst (N := 2) rfl ?_); (try (refine gate_guard (by rfl) ?_; dsimp only)); refine box_event ?hg (N := 2) ?hd (cs := #[.slice Ao7 l0_0.length co7, .slice Ao8 l0_1.length co8]) (t := 27) ?hr ?_; (case hd => rfl); (case hg => rfl); (case hr => first | (go_simp; done) | (go_simp; rfl)); intro gb277 hg w9 hbox hb; have n_ := aT (Kd.R_below (kR HO0_0.out) hb) (aT (Kd.R_below (kR HO0_1.out) hb) (aT (Kept.below (S := (fun k_ => P0_0_ k_ ∨ P0_1_ k_)) kQ hb) (aT (below_step bH hb) (aT (hbox) (aT ((by rw [hg]; exact (by first | exact HK.out.1 | exact (show Kept w _ (fun k_ => P0_0_ k_ ∨ P0_1_ k_) from by repeat (first | (with_reducible first | exact HK.out | apply Kept.alloc | apply Kept.drewN | apply Kept.drew) | exact HK.out)).1) : w.heap.size ≤ gb277)) (aM ((by rw [hg]; exact (below_size bH) : w0.heap.size ≤ gb277)))))))); clear HO0_0 HO0_1 HK HB; obtain ⟨HO0_0, HO0_1, HK, HB, BK277, GW277, GE277⟩ := n_; clear hb hbox hg) | ((with_reducible refine gate_dst (N := 4) rfl ?_); (try (refine gate_guard (by rfl) ?_; dsimp only)); refine box_event ?hg (N := 4) ?hd (cs := #[.slice none 0 0, .slice none 0 0]) (t := 27) ?hr ?_; (case hd => rfl); (case hg => rfl); (case hr => first | (go_simp; done) | (go_simp; rfl)); intro gb278 hg w10 hbox hb; have n_ := aT (Kd.R_below (kR HO0_0.out) hb) (aT (Kd.R_below (kR HO0_1.out) hb) (aT (blk_below (kB BK277.out) hb) (aT (Kept.below (S := (fun k_ => P0_0_ k_ ∨ P0_1_ k_)) (by repeat (first | (with_reducible first | exact HK.out | apply Kept.alloc | apply Kept.drewN | apply Kept.drew | refine Kept.setCell ?_ (.inr GW277.out) _) | exact HK.out)) hb) (aT (below_step bS hb) (aT (hbox) (aT ((by rw [hg]; exact (by first | exact HK.out.1 | exact (show Kept w _ (fun k_ => P0_0_ k_ ∨ P0_1_ k_) from by repeat (first | (with_reducible first | exact HK.out | apply Kept.alloc | apply Kept.drewN | apply Kept.drew | refine Kept.setCell ?_ (.inr GW277.out) _) | exact HK.out)).1) : w.heap.size ≤ gb278)) (aT ((by rw [hg]; exact (below_size bS) : w0.heap.size ≤ gb278)) (aT ((nL hg BK277.out : gb277 ≠ gb278)) (aM ((nG hg BK277.out : gb278 ≠ gb277))))))))))); clear HO0_0 HO0_1 BK277 HK HB; obtain ⟨HO0_0, HO0_1, BK277, HK, HB, BK278, GW278, GE278, NB277_278, NB278_277⟩ := n_; clear hb hbox hg) | (refine gL 12 (some 6) Try.func12 #[.string a1] ?_; (with_reducible refine (spec_TermOk.calls k a1 true _ A3.out).mono ?_); rintro e w11 ⟨rfl, hb⟩; refine ⟨_, rfl, ?_⟩; have n_ := aT (Kd.R_below (kR HO0_0.out) hb) (aT (Kd.R_below (kR HO0_1.out) hb) (aT (blk_below (kB BK277.out) hb) (aT (blk_below (kB BK278.out) hb) (aT (Kept.below (S := (fun k_ => P0_0_ k_ ∨ P0_1_ k_)) (by repeat (first | (with_reducible first | exact HK.out | apply Kept.alloc | apply Kept.drewN | apply Kept.drew | refine Kept.setCell ?_ (.inr GW277.out) _ | refine Kept.setCell ?_ (.inr GW278.out) _) | exact HK.out)) hb) (aM (below_step bS hb)))))); clear HO0_0 HO0_1 BK277 BK278 HK HB; obtain ⟨HO0_0, HO0_1, BK277, BK278, HK, HB⟩ := n_; (try clear hb); have hnb12 := NB277_278.out; have hnc12 := NB278_277.out; have hcz13_0 : w11.cell? ⟨gb277, 0, none⟩ = some (.slice Ao7 l0_0.length co7) := (blk_cell BK277.out 0).trans rfl; have hcz13_1 : w11.cell? ⟨gb277, 1, none⟩ = some (.slice Ao8 l0_1.length co8) := (blk_cell BK277.out 1).trans rfl; have hfz13_0 := blk_frozen BK277.out 0; have hfz13_1 := blk_frozen BK277.out 1) | (go_at_call 43; (with_reducible refine (spec_l3In.calls k _ _ l0_0 a1 true _ ?side1 ?side2 A5.out).mono ?_); (case side1 => exact cA ((Kd.R_reads' HO0_0.out).2.2)); (case side2 => exact (Kd.R_reads' HO0_0.out).2.1); rintro e w' ⟨rfl, ⟨nd, rfl⟩⟩; (try (rw [drewN_self w11]; generalize hq_ : World.drewN w11 _ = w11; have n0_ : Aside0 (Kd.R Kd.string 9 w11 w0.heap.size (fun k_ => ((P0_0_ k_ ∨ P0_1_ k_) ∨ w.heap.size ≤ k_)) (.slice Ao7 l0_0.length co7) l0_0) := ⟨(by rw [← hq_]; exact (kR HO0_0.out))⟩; have n1_ : Aside0 (Kd.R (Kd.int .i64) 3 w11 w0.heap.size (fun k_ => ((P0_0_ k_ ∨ P0_1_ k_) ∨ w.heap.size ≤ k_)) (.slice Ao8 l0_1.length co8) l0_1) := ⟨(by rw [← hq_]; exact (kR HO0_1.out))⟩; have n2_ : Aside0 (w11.heap[gb277]? = some (.cells #[.slice Ao7 l0_0.length co7, .slice Ao8 l0_1.length co8] 27 (0, 0))) := ⟨(by rw [← hq_]; exact (kB BK277.out))⟩; have n3_ : Aside0 (w11.heap[gb278]? = some (.cells #[.slice none 0 0, .slice none 0 0] 27 (0, 0))) := ⟨(by rw [← hq_]; exact (kB BK278.out))⟩; have n4_ : Aside0 (Kept w w11 (fun k_ => P0_0_ k_ ∨ P0_1_ k_)) := ⟨(by rw [← hq_]; exact (by repeat (first | (with_reducible first | exact HK.out | apply Kept.alloc | apply Kept.drewN | apply Kept.drew | refine Kept.setCell ?_ (.inr GW277.out) _ | refine Kept.setCell ?_ (.inr GW278.out) _) | exact HK.out)))⟩; have n5_ : Aside0 (Below w0.heap.size w0 w11) := ⟨(by rw [← hq_]; exact bS)⟩; clear HO0_0 HO0_1 BK277 BK278 HK HB hq_; have HO0_0 := n0_; have HO0_1 := n1_; have BK277 := n2_; have BK278 := n3_; have HK := n4_; have HB := n5_; clear n0_ n1_ n2_ n3_ n4_ n5_)); have hcz14_0 : w11.cell? ⟨gb277, 0, none⟩ = some (.slice Ao7 l0_0.length co7) := (blk_cell BK277.out 0).trans rfl; have hcz14_1 : w11.cell? ⟨gb277, 1, none⟩ = some (.slice Ao8 l0_1.length co8) := (blk_cell BK277.out 1).trans rfl; have hfz14_0 := blk_frozen BK277.out 0; have hfz14_1 := blk_frozen BK277.out 1; have hcz15_0 : w11.cell? ⟨gb278, 0, none⟩ = some (.slice none 0 0) := (blk_cell BK278.out 0).trans rfl; have hcz15_1 : w11.cell? ⟨gb278, 1, none⟩ = some (.slice none 0 0) := (blk_cell BK278.out 1).trans rfl; have hfz15_0 := blk_frozen BK278.out 0; have hfz15_1 := blk_frozen BK278.out 1))
   refine bodyPost_ret (results_cell_row rfl _ _ gb278 27 #[.slice Ao7 l0_0.length co7, .slice Ao8 l0_1.length co8] (0, 0) _ rfl (by (with_reducible repeat (first | refine blk_drewN ?_ _ | refine blk_drew ?_ | refine blk_alloc ?_ _)); refine blk_put (cs := #[.slice Ao7 l0_0.length co7, .slice none 0 0]) ?_ 1 _ rfl; (with_reducible repeat (first | refine blk_drewN ?_ _ | refine blk_drew ?_ | refine blk_alloc ?_ _)); refine blk_put (cs := #[.slice none 0 0, .slice none 0 0]) ?_ 0 _ rfl; (with_reducible repeat (first | refine blk_drewN ?_ _ | refine blk_drew ?_ | refine blk_alloc ?_ _)); exact BK278.out) Try.underlying27 rfl (by kernel_rfl)) rfl ?_
   exact ⟨_, _, eE, (rM (Kd.R_far (p := ⟨gb278, 1, none⟩) (Kd.R_far (p := ⟨gb278, 0, none⟩) (Kd.R_types HO0_0.out BK278.out (by decide)) (fun _ hk => hk.2) (.slice Ao7 l0_0.length co7)) (fun _ hk => hk.2) (.slice Ao8 l0_1.length co8)) (fun _ hk => hk.1)), (rM (Kd.R_far (p := ⟨gb278, 1, none⟩) (Kd.R_far (p := ⟨gb278, 0, none⟩) (Kd.R_types HO0_1.out BK278.out (by decide)) (fun _ hk => hk.2) (.slice Ao7 l0_0.length co7)) (fun _ hk => hk.2) (.slice Ao8 l0_1.length co8)) (fun _ hk => hk.1)), bS, (by repeat (first | (with_reducible first | exact HK.out | apply Kept.alloc | apply Kept.drewN | apply Kept.drew | refine Kept.setCell ?_ (.inr GW277.out) _ | refine Kept.setCell ?_ (.inr GW278.out) _) | exact HK.out))⟩
  replace c6 := Bool.eq_false_iff.mpr c6
  subst c6
  rw [if_neg nF] at H
  by_cases c16 : (l0_0.length : Int) < 60
  ·rw [if_pos c16] at H
   have c16b0 := decide_eq_true c16
   have c16b1 : decide (l0_0.length < 60) = true := decide_eq_true (by omega)
   clear c16
   by_cases c17 : l0_0.length < 8796093022208
   ·rw [if_pos c17] at H
    have LMc17 := Aside0.mk c17
    clear c17
    obtain ⟨y281, hy281⟩ : ∃ y_ : List ByteArray, y_ = (l0_0 ++ [a1]) := ⟨_, rfl⟩
    replace H : (some (y281, l0_1)) = some (r1, r2) := by first | (rw [hy281]; with_reducible exact H) | (have H2_ := (Option.bind_some _ _).symm.trans H; rw [hy281]; with_reducible exact H2_) | (have H2_ := (Option.bind_some _ _).symm.trans H; with_reducible exact H2_) | with_reducible exact H | (rw [hy281]; exact H) | exact H
    have Ny281 := Aside0.mk hy281
    clear hy281
    simp only [Option.some.injEq, Prod.mk.injEq] at H
    obtain ⟨rfl, rfl⟩ := H
    obtain ⟨Ao18, co18, eo18⟩ := Kd.R_slice HO0_0.out
    subst eo18
    obtain ⟨Ao19, co19, eo19⟩ := Kd.R_slice HO0_1.out
    subst eo19
    go_enter Try.func69, Try.ntmps69
    go_wp2_with (first | ((with_reducible refine gate_dst (N := 2) rfl ?_); (try (refine gate_guard (by rfl) ?_; dsimp only)); refine box_event ?hg (N := 2) ?hd (cs := #[.slice Ao18 l0_0.length co18, .slice Ao19 l0_1.length co19]) (t := 27) ?hr ?_; (case hd => rfl); (case hg => rfl); (case hr => first | (go_simp; done) | (go_simp; rfl)); intro gb277 hg w20 hbox hb; have n_ := aT (Kd.R_below (kR HO0_0.out) hb) (aT (Kd.R_below (kR HO0_1.out) hb) (aT (Kept.below (S := (fun k_ => P0_0_ k_ ∨ P0_1_ k_)) kQ hb) (aT (below_step bH hb) (aT (hbox) (aT ((by rw [hg]; exact (by first | exact HK.out.1 | exact (show Kept w _ (fun k_ => P0_0_ k_ ∨ P0_1_ k_) from by repeat (first | (with_reducible first | exact HK.out | apply Kept.alloc | apply Kept.drewN | apply Kept.drew) | exact HK.out)).1) : w.heap.size ≤ gb277)) (aM ((by rw [hg]; exact (below_size bH) : w0.heap.size ≤ gb277)))))))); clear HO0_0 HO0_1 HK HB; obtain ⟨HO0_0, HO0_1, HK, HB, BK277, GW277, GE277⟩ := n_; clear hb hbox hg) | ((with_reducible refine gate_dst (N := 4) rfl ?_); (try (refine gate_guard (by rfl) ?_; dsimp only)); refine box_event ?hg (N := 4) ?hd (cs := #[.slice none 0 0, .slice none 0 0]) (t := 27) ?hr ?_; (case hd => rfl); (case hg => rfl); (case hr => first | (go_simp; done) | (go_simp; rfl)); intro gb278 hg w21 hbox hb; have n_ := aT (Kd.R_below (kR HO0_0.out) hb) (aT (Kd.R_below (kR HO0_1.out) hb) (aT (blk_below (kB BK277.out) hb) (aT (Kept.below (S := (fun k_ => P0_0_ k_ ∨ P0_1_ k_)) (by repeat (first | (with_reducible first | exact HK.out | apply Kept.alloc | apply Kept.drewN | apply Kept.drew | refine Kept.setCell ?_ (.inr GW277.out) _) | exact HK.out)) hb) (aT (below_step bS hb) (aT (hbox) (aT ((by rw [hg]; exact (by first | exact HK.out.1 | exact (show Kept w _ (fun k_ => P0_0_ k_ ∨ P0_1_ k_) from by repeat (first | (with_reducible first | exact HK.out | apply Kept.alloc | apply Kept.drewN | apply Kept.drew | refine Kept.setCell ?_ (.inr GW277.out) _) | exact HK.out)).1) : w.heap.size ≤ gb278)) (aT ((by rw [hg]; exact (below_size bS) : w0.heap.size ≤ gb278)) (aT ((nL hg BK277.out : gb277 ≠ gb278)) (aM ((nG hg BK277.out : gb278 ≠ gb277))))))))))); clear HO0_0 HO0_1 BK277 HK HB; obtain ⟨HO0_0, HO0_1, BK277, HK, HB, BK278, GW278, GE278, NB277_278, NB278_277⟩ := n_; clear hb hbox hg) | (refine gL 12 (some 6) Try.func12 #[.string a1] ?_; (with_reducible refine (spec_TermOk.calls k a1 true _ A3.out).mono ?_); rintro e w22 ⟨rfl, hb⟩; refine ⟨_, rfl, ?_⟩; have n_ := aT (Kd.R_below (kR HO0_0.out) hb) (aT (Kd.R_below (kR HO0_1.out) hb) (aT (blk_below (kB BK277.out) hb) (aT (blk_below (kB BK278.out) hb) (aT (Kept.below (S := (fun k_ => P0_0_ k_ ∨ P0_1_ k_)) (by repeat (first | (with_reducible first | exact HK.out | apply Kept.alloc | apply Kept.drewN | apply Kept.drew | refine Kept.setCell ?_ (.inr GW277.out) _ | refine Kept.setCell ?_ (.inr GW278.out) _) | exact HK.out)) hb) (aM (below_step bS hb)))))); clear HO0_0 HO0_1 BK277 BK278 HK HB; obtain ⟨HO0_0, HO0_1, BK277, BK278, HK, HB⟩ := n_; (try clear hb); have hnb23 := NB277_278.out; have hnc23 := NB278_277.out; have hcz24_0 : w22.cell? ⟨gb277, 0, none⟩ = some (.slice Ao18 l0_0.length co18) := (blk_cell BK277.out 0).trans rfl; have hcz24_1 : w22.cell? ⟨gb277, 1, none⟩ = some (.slice Ao19 l0_1.length co19) := (blk_cell BK277.out 1).trans rfl; have hfz24_0 := blk_frozen BK277.out 0; have hfz24_1 := blk_frozen BK277.out 1) | (go_at_call 43; (with_reducible refine (spec_l3In.calls k _ _ l0_0 a1 false _ ?side1 ?side2 A5.out).mono ?_); (case side1 => exact cA ((Kd.R_reads' HO0_0.out).2.2)); (case side2 => exact (Kd.R_reads' HO0_0.out).2.1); rintro e w' ⟨rfl, ⟨nd, rfl⟩⟩; (try (rw [drewN_self w22]; generalize hq_ : World.drewN w22 _ = w22; have n0_ : Aside0 (Kd.R Kd.string 9 w22 w0.heap.size (fun k_ => ((P0_0_ k_ ∨ P0_1_ k_) ∨ w.heap.size ≤ k_)) (.slice Ao18 l0_0.length co18) l0_0) := ⟨(by rw [← hq_]; exact (kR HO0_0.out))⟩; have n1_ : Aside0 (Kd.R (Kd.int .i64) 3 w22 w0.heap.size (fun k_ => ((P0_0_ k_ ∨ P0_1_ k_) ∨ w.heap.size ≤ k_)) (.slice Ao19 l0_1.length co19) l0_1) := ⟨(by rw [← hq_]; exact (kR HO0_1.out))⟩; have n2_ : Aside0 (w22.heap[gb277]? = some (.cells #[.slice Ao18 l0_0.length co18, .slice Ao19 l0_1.length co19] 27 (0, 0))) := ⟨(by rw [← hq_]; exact (kB BK277.out))⟩; have n3_ : Aside0 (w22.heap[gb278]? = some (.cells #[.slice none 0 0, .slice none 0 0] 27 (0, 0))) := ⟨(by rw [← hq_]; exact (kB BK278.out))⟩; have n4_ : Aside0 (Kept w w22 (fun k_ => P0_0_ k_ ∨ P0_1_ k_)) := ⟨(by rw [← hq_]; exact (by repeat (first | (with_reducible first | exact HK.out | apply Kept.alloc | apply Kept.drewN | apply Kept.drew | refine Kept.setCell ?_ (.inr GW277.out) _ | refine Kept.setCell ?_ (.inr GW278.out) _) | exact HK.out)))⟩; have n5_ : Aside0 (Below w0.heap.size w0 w22) := ⟨(by rw [← hq_]; exact bS)⟩; clear HO0_0 HO0_1 BK277 BK278 HK HB hq_; have HO0_0 := n0_; have HO0_1 := n1_; have BK277 := n2_; have BK278 := n3_; have HK := n4_; have HB := n5_; clear n0_ n1_ n2_ n3_ n4_ n5_)); have hcz25_0 : w22.cell? ⟨gb277, 0, none⟩ = some (.slice Ao18 l0_0.length co18) := (blk_cell BK277.out 0).trans rfl; have hcz25_1 : w22.cell? ⟨gb277, 1, none⟩ = some (.slice Ao19 l0_1.length co19) := (blk_cell BK277.out 1).trans rfl; have hfz25_0 := blk_frozen BK277.out 0; have hfz25_1 := blk_frozen BK277.out 1) | ((with_reducible refine gate_builtin (b := .append) (xs := #[.tmp 21, .tmp 23]) rfl ?_); (try (refine gate_guard (by rfl) ?_; dsimp only)); at_builtin; refine Kd.R_append Kd.string (w0 := w0) w0.heap.size rfl (.tmp 21) (.tmp 23) 24 9 (.string ⟨#[]⟩) 16 rfl Try.underlying24 info9 rfl (by decide) (by omega) (.slice Ao18 l0_0.length co18) l0_0 a1 [.string a1] (fun k_ => ((P0_0_ k_ ∨ P0_1_ k_) ∨ w.heap.size ≤ k_)) (fun _ => False) rfl rfl ?aP (fun _ hk => hk.elim) ?aF ?aO ?aB ?aS ?aL ?_; (case aP => exact rfl); (case aB => exact bS); (case aF => exact (fun k_ hk => (.inr (Nat.le_trans (by first | exact HK.out.1 | exact (show Kept w _ (fun k_ => P0_0_ k_ ∨ P0_1_ k_) from by repeat (first | (with_reducible first | exact HK.out | apply Kept.alloc | apply Kept.drewN | apply Kept.drew | refine Kept.setCell ?_ (.inr GW277.out) _ | refine Kept.setCell ?_ (.inr GW278.out) _) | exact HK.out)).1) hk)))); (case aO => exact (kR HO0_0.out)); (case aS => exact (below_size bS)); (case aL => have := LMc17.out; omega); intro v282 w26 ho hb hg hat; rw [← Ny281.out] at ho; have n_ := aT (Kd.R_over' (kR HO0_1.out) (Kd.R_typed (kR HO0_0.out)) (by decide) hg) (aT (blk_grown (g := gb277) (o := .cells #[.slice Ao18 l0_0.length co18, .slice Ao19 l0_1.length co19] 27 (0, 0)) (kB BK277.out) hg (Kd.R_ne HO0_0.out BK277.out (by decide))) (aT (blk_grown (g := gb278) (o := .cells #[.slice none 0 0, .slice none 0 0] 27 (0, 0)) (kB BK278.out) hg (Kd.R_ne HO0_0.out BK278.out (by decide))) (aT (hb) (aT (Kept.of_grown (S := (fun k_ => P0_0_ k_ ∨ P0_1_ k_)) hg (by repeat (first | (with_reducible first | exact HK.out | apply Kept.alloc | apply Kept.drewN | apply Kept.drew | refine Kept.setCell ?_ (.inr GW277.out) _ | refine Kept.setCell ?_ (.inr GW278.out) _) | exact HK.out)) (fun k_ e_ => (HO0_0.out.1 k_ e_))) (aM (ho)))))); clear HO0_1 BK277 BK278 HB HK HO0_0; obtain ⟨HO0_1, BK277, BK278, HB, HK, HO283⟩ := n_; clear ho hb hg hat; obtain ⟨Ao27, co27, eo27⟩ := Kd.R_slice HO283.out; subst eo27; have hcz28_0 : w26.cell? ⟨gb277, 0, none⟩ = some (.slice Ao18 l0_0.length co18) := (blk_cell BK277.out 0).trans rfl; have hcz28_1 : w26.cell? ⟨gb277, 1, none⟩ = some (.slice Ao19 l0_1.length co19) := (blk_cell BK277.out 1).trans rfl; have hfz28_0 := blk_frozen BK277.out 0; have hfz28_1 := blk_frozen BK277.out 1; have hcz29_0 : w26.cell? ⟨gb278, 0, none⟩ = some (.slice none 0 0) := (blk_cell BK278.out 0).trans rfl; have hcz29_1 : w26.cell? ⟨gb278, 1, none⟩ = some (.slice none 0 0) := (blk_cell BK278.out 1).trans rfl; have hfz29_0 := blk_frozen BK278.out 0; have hfz29_1 := blk_frozen BK278.out 1))
    refine bodyPost_ret (results_cell_row rfl _ _ gb278 27 #[.slice Ao27 y281.length co27, .slice Ao19 l0_1.length co19] (0, 0) _ rfl (by (with_reducible repeat (first | refine blk_drewN ?_ _ | refine blk_drew ?_ | refine blk_alloc ?_ _)); refine blk_put (cs := #[.slice Ao27 y281.length co27, .slice none 0 0]) ?_ 1 _ rfl; (with_reducible repeat (first | refine blk_drewN ?_ _ | refine blk_drew ?_ | refine blk_alloc ?_ _)); refine blk_put (cs := #[.slice none 0 0, .slice none 0 0]) ?_ 0 _ rfl; (with_reducible repeat (first | refine blk_drewN ?_ _ | refine blk_drew ?_ | refine blk_alloc ?_ _)); refine blk_far ?_ NB278_277.out _; (with_reducible repeat (first | refine blk_drewN ?_ _ | refine blk_drew ?_ | refine blk_alloc ?_ _)); exact BK278.out) Try.underlying27 rfl (by kernel_rfl)) rfl ?_
    exact ⟨_, _, eE, (rM (Kd.R_far (p := ⟨gb278, 1, none⟩) (Kd.R_far (p := ⟨gb278, 0, none⟩) (Kd.R_far (p := ⟨gb277, 0, none⟩) (Kd.R_types (Kd.R_types HO283.out BK277.out (by decide)) BK278.out (by decide)) (fun _ hk => hk.1.2) (.slice Ao27 y281.length co27)) (fun _ hk => hk.2) (.slice Ao27 y281.length co27)) (fun _ hk => hk.2) (.slice Ao19 l0_1.length co19)) (fun _ hk => hk.1.1)), (rM (Kd.R_far (p := ⟨gb278, 1, none⟩) (Kd.R_far (p := ⟨gb278, 0, none⟩) (Kd.R_far (p := ⟨gb277, 0, none⟩) (Kd.R_types (Kd.R_types HO0_1.out BK277.out (by decide)) BK278.out (by decide)) (fun _ hk => hk.1.2) (.slice Ao27 y281.length co27)) (fun _ hk => hk.2) (.slice Ao27 y281.length co27)) (fun _ hk => hk.2) (.slice Ao19 l0_1.length co19)) (fun _ hk => hk.1.1)), bS, (by repeat (first | (with_reducible first | exact HK.out | apply Kept.alloc | apply Kept.drewN | apply Kept.drew | refine Kept.setCell ?_ (.inr GW277.out) _ | refine Kept.setCell ?_ (.inr GW278.out) _) | exact HK.out))⟩
   rw [if_neg c17] at H
   exact absurd H (by simp)
  rw [if_neg c16] at H
  have c16b0 := decide_eq_false c16
  have c16b1 : decide (l0_0.length < 60) = false := decide_eq_false (by omega)
  clear c16
  simp only [Option.some.injEq, Prod.mk.injEq] at H
  obtain ⟨rfl, rfl⟩ := H
  obtain ⟨Ao30, co30, eo30⟩ := Kd.R_slice HO0_0.out
  subst eo30
  obtain ⟨Ao31, co31, eo31⟩ := Kd.R_slice HO0_1.out
  subst eo31
  go_enter Try.func69, Try.ntmps69
  go_wp2_with (first | ((with_reducible refine gate_dst (N := 2) rfl ?_); (try (refine gate_guard (by rfl) ?_; dsimp only)); refine box_event ?hg (N := 2) ?hd (cs := #[.slice Ao30 l0_0.length co30, .slice Ao31 l0_1.length co31]) (t := 27) ?hr ?_; (case hd => rfl); (case hg => rfl); (case hr => first | (go_simp; done) | (go_simp; rfl)); intro gb277 hg w32 hbox hb; have n_ := aT (Kd.R_below (kR HO0_0.out) hb) (aT (Kd.R_below (kR HO0_1.out) hb) (aT (Kept.below (S := (fun k_ => P0_0_ k_ ∨ P0_1_ k_)) kQ hb) (aT (below_step bH hb) (aT (hbox) (aT ((by rw [hg]; exact (by first | exact HK.out.1 | exact (show Kept w _ (fun k_ => P0_0_ k_ ∨ P0_1_ k_) from by repeat (first | (with_reducible first | exact HK.out | apply Kept.alloc | apply Kept.drewN | apply Kept.drew) | exact HK.out)).1) : w.heap.size ≤ gb277)) (aM ((by rw [hg]; exact (below_size bH) : w0.heap.size ≤ gb277)))))))); clear HO0_0 HO0_1 HK HB; obtain ⟨HO0_0, HO0_1, HK, HB, BK277, GW277, GE277⟩ := n_; clear hb hbox hg) | ((with_reducible refine gate_dst (N := 4) rfl ?_); (try (refine gate_guard (by rfl) ?_; dsimp only)); refine box_event ?hg (N := 4) ?hd (cs := #[.slice none 0 0, .slice none 0 0]) (t := 27) ?hr ?_; (case hd => rfl); (case hg => rfl); (case hr => first | (go_simp; done) | (go_simp; rfl)); intro gb278 hg w33 hbox hb; have n_ := aT (Kd.R_below (kR HO0_0.out) hb) (aT (Kd.R_below (kR HO0_1.out) hb) (aT (blk_below (kB BK277.out) hb) (aT (Kept.below (S := (fun k_ => P0_0_ k_ ∨ P0_1_ k_)) (by repeat (first | (with_reducible first | exact HK.out | apply Kept.alloc | apply Kept.drewN | apply Kept.drew | refine Kept.setCell ?_ (.inr GW277.out) _) | exact HK.out)) hb) (aT (below_step bS hb) (aT (hbox) (aT ((by rw [hg]; exact (by first | exact HK.out.1 | exact (show Kept w _ (fun k_ => P0_0_ k_ ∨ P0_1_ k_) from by repeat (first | (with_reducible first | exact HK.out | apply Kept.alloc | apply Kept.drewN | apply Kept.drew | refine Kept.setCell ?_ (.inr GW277.out) _) | exact HK.out)).1) : w.heap.size ≤ gb278)) (aT ((by rw [hg]; exact (below_size bS) : w0.heap.size ≤ gb278)) (aT ((nL hg BK277.out : gb277 ≠ gb278)) (aM ((nG hg BK277.out : gb278 ≠ gb277))))))))))); clear HO0_0 HO0_1 BK277 HK HB; obtain ⟨HO0_0, HO0_1, BK277, HK, HB, BK278, GW278, GE278, NB277_278, NB278_277⟩ := n_; clear hb hbox hg) | (refine gL 12 (some 6) Try.func12 #[.string a1] ?_; (with_reducible refine (spec_TermOk.calls k a1 true _ A3.out).mono ?_); rintro e w34 ⟨rfl, hb⟩; refine ⟨_, rfl, ?_⟩; have n_ := aT (Kd.R_below (kR HO0_0.out) hb) (aT (Kd.R_below (kR HO0_1.out) hb) (aT (blk_below (kB BK277.out) hb) (aT (blk_below (kB BK278.out) hb) (aT (Kept.below (S := (fun k_ => P0_0_ k_ ∨ P0_1_ k_)) (by repeat (first | (with_reducible first | exact HK.out | apply Kept.alloc | apply Kept.drewN | apply Kept.drew | refine Kept.setCell ?_ (.inr GW277.out) _ | refine Kept.setCell ?_ (.inr GW278.out) _) | exact HK.out)) hb) (aM (below_step bS hb)))))); clear HO0_0 HO0_1 BK277 BK278 HK HB; obtain ⟨HO0_0, HO0_1, BK277, BK278, HK, HB⟩ := n_; (try clear hb); have hnb35 := NB277_278.out; have hnc35 := NB278_277.out; have hcz36_0 : w34.cell? ⟨gb277, 0, none⟩ = some (.slice Ao30 l0_0.length co30) := (blk_cell BK277.out 0).trans rfl; have hcz36_1 : w34.cell? ⟨gb277, 1, none⟩ = some (.slice Ao31 l0_1.length co31) := (blk_cell BK277.out 1).trans rfl; have hfz36_0 := blk_frozen BK277.out 0; have hfz36_1 := blk_frozen BK277.out 1) | (go_at_call 43; (with_reducible refine (spec_l3In.calls k _ _ l0_0 a1 false _ ?side1 ?side2 A5.out).mono ?_); (case side1 => exact cA ((Kd.R_reads' HO0_0.out).2.2)); (case side2 => exact (Kd.R_reads' HO0_0.out).2.1); rintro e w' ⟨rfl, ⟨nd, rfl⟩⟩; (try (rw [drewN_self w34]; generalize hq_ : World.drewN w34 _ = w34; have n0_ : Aside0 (Kd.R Kd.string 9 w34 w0.heap.size (fun k_ => ((P0_0_ k_ ∨ P0_1_ k_) ∨ w.heap.size ≤ k_)) (.slice Ao30 l0_0.length co30) l0_0) := ⟨(by rw [← hq_]; exact (kR HO0_0.out))⟩; have n1_ : Aside0 (Kd.R (Kd.int .i64) 3 w34 w0.heap.size (fun k_ => ((P0_0_ k_ ∨ P0_1_ k_) ∨ w.heap.size ≤ k_)) (.slice Ao31 l0_1.length co31) l0_1) := ⟨(by rw [← hq_]; exact (kR HO0_1.out))⟩; have n2_ : Aside0 (w34.heap[gb277]? = some (.cells #[.slice Ao30 l0_0.length co30, .slice Ao31 l0_1.length co31] 27 (0, 0))) := ⟨(by rw [← hq_]; exact (kB BK277.out))⟩; have n3_ : Aside0 (w34.heap[gb278]? = some (.cells #[.slice none 0 0, .slice none 0 0] 27 (0, 0))) := ⟨(by rw [← hq_]; exact (kB BK278.out))⟩; have n4_ : Aside0 (Kept w w34 (fun k_ => P0_0_ k_ ∨ P0_1_ k_)) := ⟨(by rw [← hq_]; exact (by repeat (first | (with_reducible first | exact HK.out | apply Kept.alloc | apply Kept.drewN | apply Kept.drew | refine Kept.setCell ?_ (.inr GW277.out) _ | refine Kept.setCell ?_ (.inr GW278.out) _) | exact HK.out)))⟩; have n5_ : Aside0 (Below w0.heap.size w0 w34) := ⟨(by rw [← hq_]; exact bS)⟩; clear HO0_0 HO0_1 BK277 BK278 HK HB hq_; have HO0_0 := n0_; have HO0_1 := n1_; have BK277 := n2_; have BK278 := n3_; have HK := n4_; have HB := n5_; clear n0_ n1_ n2_ n3_ n4_ n5_)); have hcz37_0 : w34.cell? ⟨gb277, 0, none⟩ = some (.slice Ao30 l0_0.length co30) := (blk_cell BK277.out 0).trans rfl; have hcz37_1 : w34.cell? ⟨gb277, 1, none⟩ = some (.slice Ao31 l0_1.length co31) := (blk_cell BK277.out 1).trans rfl; have hfz37_0 := blk_frozen BK277.out 0; have hfz37_1 := blk_frozen BK277.out 1; have hcz38_0 : w34.cell? ⟨gb278, 0, none⟩ = some (.slice none 0 0) := (blk_cell BK278.out 0).trans rfl; have hcz38_1 : w34.cell? ⟨gb278, 1, none⟩ = some (.slice none 0 0) := (blk_cell BK278.out 1).trans rfl; have hfz38_0 := blk_frozen BK278.out 0; have hfz38_1 := blk_frozen BK278.out 1))
  refine bodyPost_ret (results_cell_row rfl _ _ gb278 27 #[.slice Ao30 l0_0.length co30, .slice Ao31 l0_1.length co31] (0, 0) _ rfl (by (with_reducible repeat (first | refine blk_drewN ?_ _ | refine blk_drew ?_ | refine blk_alloc ?_ _)); refine blk_put (cs := #[.slice Ao30 l0_0.length co30, .slice none 0 0]) ?_ 1 _ rfl; (with_reducible repeat (first | refine blk_drewN ?_ _ | refine blk_drew ?_ | refine blk_alloc ?_ _)); refine blk_put (cs := #[.slice none 0 0, .slice none 0 0]) ?_ 0 _ rfl; (with_reducible repeat (first | refine blk_drewN ?_ _ | refine blk_drew ?_ | refine blk_alloc ?_ _)); exact BK278.out) Try.underlying27 rfl (by kernel_rfl)) rfl ?_
  exact ⟨_, _, eE, (rM (Kd.R_far (p := ⟨gb278, 1, none⟩) (Kd.R_far (p := ⟨gb278, 0, none⟩) (Kd.R_types HO0_0.out BK278.out (by decide)) (fun _ hk => hk.2) (.slice Ao30 l0_0.length co30)) (fun _ hk => hk.2) (.slice Ao31 l0_1.length co31)) (fun _ hk => hk.1)), (rM (Kd.R_far (p := ⟨gb278, 1, none⟩) (Kd.R_far (p := ⟨gb278, 0, none⟩) (Kd.R_types HO0_1.out BK278.out (by decide)) (fun _ hk => hk.2) (.slice Ao30 l0_0.length co30)) (fun _ hk => hk.2) (.slice Ao31 l0_1.length co31)) (fun _ hk => hk.1)), bS, (by repeat (first | (with_reducible first | exact HK.out | apply Kept.alloc | apply Kept.drewN | apply Kept.drew | refine Kept.setCell ?_ (.inr GW277.out) _ | refine Kept.setCell ?_ (.inr GW278.out) _) | exact HK.out))⟩
 replace c4 := Bool.eq_false_iff.mpr c4
 subst c4
 rw [if_neg nF] at H
 simp only [Option.some.injEq, Prod.mk.injEq] at H
 obtain ⟨rfl, rfl⟩ := H
 obtain ⟨Ao39, co39, eo39⟩ := Kd.R_slice HO0_0.out
 subst eo39
 obtain ⟨Ao40, co40, eo40⟩ := Kd.R_slice HO0_1.out
 subst eo40
 go_enter Try.func69, Try.ntmps69
 go_wp2_with (first | ((with_reducible refine gate_dst (N := 2) rfl ?_); (try (refine gate_guard (by rfl) ?_; dsimp only)); refine box_event ?hg (N := 2) ?hd (cs := #[.slice Ao39 l0_0.length co39, .slice Ao40 l0_1.length co40]) (t := 27) ?hr ?_; (case hd => rfl); (case hg => rfl); (case hr => first | (go_simp; done) | (go_simp; rfl)); intro gb277 hg w41 hbox hb; have n_ := aT (Kd.R_below (kR HO0_0.out) hb) (aT (Kd.R_below (kR HO0_1.out) hb) (aT (Kept.below (S := (fun k_ => P0_0_ k_ ∨ P0_1_ k_)) kQ hb) (aT (below_step bH hb) (aT (hbox) (aT ((by rw [hg]; exact (by first | exact HK.out.1 | exact (show Kept w _ (fun k_ => P0_0_ k_ ∨ P0_1_ k_) from by repeat (first | (with_reducible first | exact HK.out | apply Kept.alloc | apply Kept.drewN | apply Kept.drew) | exact HK.out)).1) : w.heap.size ≤ gb277)) (aM ((by rw [hg]; exact (below_size bH) : w0.heap.size ≤ gb277)))))))); clear HO0_0 HO0_1 HK HB; obtain ⟨HO0_0, HO0_1, HK, HB, BK277, GW277, GE277⟩ := n_; clear hb hbox hg) | ((with_reducible refine gate_dst (N := 4) rfl ?_); (try (refine gate_guard (by rfl) ?_; dsimp only)); refine box_event ?hg (N := 4) ?hd (cs := #[.slice none 0 0, .slice none 0 0]) (t := 27) ?hr ?_; (case hd => rfl); (case hg => rfl); (case hr => first | (go_simp; done) | (go_simp; rfl)); intro gb278 hg w42 hbox hb; have n_ := aT (Kd.R_below (kR HO0_0.out) hb) (aT (Kd.R_below (kR HO0_1.out) hb) (aT (blk_below (kB BK277.out) hb) (aT (Kept.below (S := (fun k_ => P0_0_ k_ ∨ P0_1_ k_)) (by repeat (first | (with_reducible first | exact HK.out | apply Kept.alloc | apply Kept.drewN | apply Kept.drew | refine Kept.setCell ?_ (.inr GW277.out) _) | exact HK.out)) hb) (aT (below_step bS hb) (aT (hbox) (aT ((by rw [hg]; exact (by first | exact HK.out.1 | exact (show Kept w _ (fun k_ => P0_0_ k_ ∨ P0_1_ k_) from by repeat (first | (with_reducible first | exact HK.out | apply Kept.alloc | apply Kept.drewN | apply Kept.drew | refine Kept.setCell ?_ (.inr GW277.out) _) | exact HK.out)).1) : w.heap.size ≤ gb278)) (aT ((by rw [hg]; exact (below_size bS) : w0.heap.size ≤ gb278)) (aT ((nL hg BK277.out : gb277 ≠ gb278)) (aM ((nG hg BK277.out : gb278 ≠ gb277))))))))))); clear HO0_0 HO0_1 BK277 HK HB; obtain ⟨HO0_0, HO0_1, BK277, HK, HB, BK278, GW278, GE278, NB277_278, NB278_277⟩ := n_; clear hb hbox hg) | (refine gL 12 (some 6) Try.func12 #[.string a1] ?_; (with_reducible refine (spec_TermOk.calls k a1 false _ A3.out).mono ?_); rintro e w43 ⟨rfl, hb⟩; refine ⟨_, rfl, ?_⟩; have n_ := aT (Kd.R_below (kR HO0_0.out) hb) (aT (Kd.R_below (kR HO0_1.out) hb) (aT (blk_below (kB BK277.out) hb) (aT (blk_below (kB BK278.out) hb) (aT (Kept.below (S := (fun k_ => P0_0_ k_ ∨ P0_1_ k_)) (by repeat (first | (with_reducible first | exact HK.out | apply Kept.alloc | apply Kept.drewN | apply Kept.drew | refine Kept.setCell ?_ (.inr GW277.out) _ | refine Kept.setCell ?_ (.inr GW278.out) _) | exact HK.out)) hb) (aM (below_step bS hb)))))); clear HO0_0 HO0_1 BK277 BK278 HK HB; obtain ⟨HO0_0, HO0_1, BK277, BK278, HK, HB⟩ := n_; (try clear hb); have hnb44 := NB277_278.out; have hnc44 := NB278_277.out; have hcz45_0 : w43.cell? ⟨gb277, 0, none⟩ = some (.slice Ao39 l0_0.length co39) := (blk_cell BK277.out 0).trans rfl; have hcz45_1 : w43.cell? ⟨gb277, 1, none⟩ = some (.slice Ao40 l0_1.length co40) := (blk_cell BK277.out 1).trans rfl; have hfz45_0 := blk_frozen BK277.out 0; have hfz45_1 := blk_frozen BK277.out 1; have hcz46_0 : w43.cell? ⟨gb278, 0, none⟩ = some (.slice none 0 0) := (blk_cell BK278.out 0).trans rfl; have hcz46_1 : w43.cell? ⟨gb278, 1, none⟩ = some (.slice none 0 0) := (blk_cell BK278.out 1).trans rfl; have hfz46_0 := blk_frozen BK278.out 0; have hfz46_1 := blk_frozen BK278.out 1))
 refine bodyPost_ret (results_cell_row rfl _ _ gb278 27 #[.slice Ao39 l0_0.length co39, .slice Ao40 l0_1.length co40] (0, 0) _ rfl (by (with_reducible repeat (first | refine blk_drewN ?_ _ | refine blk_drew ?_ | refine blk_alloc ?_ _)); refine blk_put (cs := #[.slice Ao39 l0_0.length co39, .slice none 0 0]) ?_ 1 _ rfl; (with_reducible repeat (first | refine blk_drewN ?_ _ | refine blk_drew ?_ | refine blk_alloc ?_ _)); refine blk_put (cs := #[.slice none 0 0, .slice none 0 0]) ?_ 0 _ rfl; (with_reducible repeat (first | refine blk_drewN ?_ _ | refine blk_drew ?_ | refine blk_alloc ?_ _)); exact BK278.out) Try.underlying27 rfl (by kernel_rfl)) rfl ?_
 exact ⟨_, _, eE, (rM (Kd.R_far (p := ⟨gb278, 1, none⟩) (Kd.R_far (p := ⟨gb278, 0, none⟩) (Kd.R_types HO0_0.out BK278.out (by decide)) (fun _ hk => hk.2) (.slice Ao39 l0_0.length co39)) (fun _ hk => hk.2) (.slice Ao40 l0_1.length co40)) (fun _ hk => hk.1)), (rM (Kd.R_far (p := ⟨gb278, 1, none⟩) (Kd.R_far (p := ⟨gb278, 0, none⟩) (Kd.R_types HO0_1.out BK278.out (by decide)) (fun _ hk => hk.2) (.slice Ao39 l0_0.length co39)) (fun _ hk => hk.2) (.slice Ao40 l0_1.length co40)) (fun _ hk => hk.1)), bS, (by repeat (first | (with_reducible first | exact HK.out | apply Kept.alloc | apply Kept.drewN | apply Kept.drew | refine Kept.setCell ?_ (.inr GW277.out) _ | refine Kept.setCell ?_ (.inr GW278.out) _) | exact HK.out))⟩

/-! ### spec_l1PickInt: function 70 -/
def spec_l1PickInt.f (s0_0 : List Int) (s0_1 : Int) (s0_2 : Int) (l1 : List Int) : Option (Int × Int × Int) := (spec_l1Below.f s0_0 s0_1 s0_2 (l1.length : Int)).bind fun bt284 => (if 0 ≤ bt284.1 then (if bt284.1 < (l1.length : Int) then (some (rd l1 bt284.1, bt284.2.1, bt284.2.2)) else (none)) else (none))
set_option maxHeartbeats 8000000 in
set_option maxRecDepth 100000 in
theorem spec_l1PickInt.calls (g : Nat) (s0_0 : List Int) (s0_1 : Int) (s0_2 : Int) (A1 : Option Addr) (c1 : Nat) (l1 : List Int) (r1 : Int) (r2 : Int) (r3 : Int) (w0 w : World) (hI : IsS81 w0 w g s0_0 s0_1 s0_2) (hB : Below w0.heap.size w0 w) (hr1 : Kd.C (Kd.int .i64) w A1 l1.length l1) (hc1 : l1.length ≤ c1) (hf1 : ∀ ad, A1 = some ad → 0 < l1.length → ad.block ≠ g) (h : spec_l1PickInt.f s0_0 s0_1 s0_2 l1 = some (r1, r2, r3)) :
  Calls Try.prog 70 #[.pointer (some ⟨g, 0, none⟩), .slice A1 l1.length c1] w fun e w' => e = .returned (.int .i64 r1) ∧ IsS81 w0 w' g s0_0 r2 r3 ∧ Below w0.heap.size w0 w' ∧ KeepBut w w' g none := by
 have HR1 := Aside0.mk hr1
 have HC1 := Aside0.mk hc1
 clear hr1 hc1
 have HI0 := Aside0.mk hI
 have HK := Aside0.mk (KeepBut.refl w g none)
 have HL := Aside0.mk hB.size
 clear hI
 have HW0 := Aside0.mk hB.size
 have HB := Aside0.mk hB
 clear hB
 have H := h
 clear h
 unfold spec_l1PickInt.f at H
 obtain ⟨⟨t284, t285, t286⟩, A3, H⟩ := oB H
 dsimp only at H
 by_cases c4 : 0 ≤ t284
 ·rw [if_pos c4] at H
  have c4b0 := decide_eq_true c4
  clear c4
  by_cases c5 : t284 < (l1.length : Int)
  ·rw [if_pos c5] at H
   have c5b0 := decide_eq_true c5
   clear c5
   simp only [Option.some.injEq, Prod.mk.injEq] at H
   obtain ⟨rfl, rfl, rfl⟩ := H
   go_enter Try.func70, Try.ntmps70
   go_wp2_with (first | (refine gL 41 (some 9) Try.func41 #[.pointer (some ⟨g, 0, none⟩), .int .i64 (l1.length : Int)] ?_; (with_reducible refine (spec_l1Below.calls g s0_0 s0_1 s0_2 (l1.length : Int) t284 t285 t286 w0 _ ?side1 ?side2 A3.out).mono ?_); (case side1 => exact IsS81.qHI0); (case side2 => exact IsS81.bHI0); rintro e w6 ⟨rfl, hi, hb, hk⟩; refine ⟨_, rfl, ?_⟩; have n_ := aT (KeepBut.trans kK hk (.inl rfl)) (aT (hb) (aM (hi))); clear HK HB HI0; obtain ⟨HK, HB, HI0⟩ := n_; (try clear hb); (try clear hk); (try clear hi); have p287 : 0 ≤ (t284 : Int) := of_decide_eq_true aA; have q287 : t284 < (l1.length : Int) := of_decide_eq_true aA; obtain ⟨ad287, e287, hx287_0⟩ := Kd.at_int HR1.out t284 p287 q287; cases e287; replace hx287_0 := keep_cell HK.out hx287_0 (by first | (rw [add_block]; exact hf1 _ rfl (by omega)) | exact hf1 _ rfl (by omega) | exact hf1 ad287 rfl (by omega)); replace p287 := eq_true p287; replace q287 := eq_true q287))
   go_ret
   exact ⟨eE, IsS81.qHI0, IsS81.bHI0, kK⟩
  rw [if_neg c5] at H
  exact absurd H (by simp)
 rw [if_neg c4] at H
 exact absurd H (by simp)

end Go.Proofs.Ythlpfghlildllaa.OFnKnown
-- wrapped
-- halved
-- squeezed
-- squeezed2
-- squeezed3
