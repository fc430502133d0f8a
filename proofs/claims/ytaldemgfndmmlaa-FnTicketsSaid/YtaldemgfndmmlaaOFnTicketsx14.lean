-- walks of this claim, written by a program of mine
import Derived.Test.YtaldemgfndmmlaaOFnTicketsx0
import Derived.Test.YtaldemgfndmmlaaOFnTicketsx11
import Derived.Test.YtaldemgfndmmlaaOFnTicketsx12
import Derived.Test.YtaldemgfndmmlaaOFnTicketsx13
namespace Go.Proofs.Ytaldemgfndmmlaa.OFnTickets
open Go.RowKit Go.Proofs.Ytaldemgfndmmlaa.OWord Go.Proofs.YtaldemgfndmmlaaW.PrintWords Go.Proofs.YtaldemgfndmmlaaW.PrintLast Go.Proofs.YtaldemgfndmmlaaW.PrintMore
attribute [local go_sem] max2_int min2_int max_two min_two max_three min_three max_four min_four   -- for this text's walks alone
set_option linter.unusedVariables false
set_option linter.unusedSimpArgs false

/-! ### spec_Atom: function 82 -/
def spec_Atom.f (k : Nat) (a0 : ByteArray) : Option (ByteArray) := if (a0.size : Int) > 40 then (some (⟨#[]⟩ : ByteArray)) else ((spec_Var.f k (a0.size : Int)).bind fun t504 => (if 1 + t504.size ≤ 9223372036854775807 then (if ((⟨#[97]⟩ : ByteArray) ++ t504).size + a0.size ≤ 9223372036854775807 then ((spec_l2Ok.f k (((⟨#[97]⟩ : ByteArray) ++ t504) ++ a0)).bind fun t505 => (some t505)) else (none)) else (none)))
set_option maxHeartbeats 8000000 in
set_option maxRecDepth 100000 in
theorem spec_Atom.calls (k : Nat) (a0 : ByteArray) (r : ByteArray) (w : World) (h : spec_Atom.f k a0 = some r) :
  Calls Try.prog 82 #[.string a0] w fun e w' => e = .returned (.string r) ∧ Below w.heap.size w w' := by
 have HB := Aside0.mk (Below.refl w.heap.size w)
 have H := h
 clear h
 unfold spec_Atom.f at H
 by_cases c2 : (a0.size : Int) > 40
 ·rw [if_pos c2] at H
  have c2b0 : decide (40 < (a0.size : Int)) = true := decide_eq_true c2
  have c2b1 : decide (40 < a0.size) = true := decide_eq_true (by omega)
  clear c2
  obtain rfl := Option.some.inj H
  go_enter Try.func82, Try.ntmps82
  go_wp2
  go_ret
  exact ⟨eE, bH⟩
 rw [if_neg c2] at H
 have c2b0 : decide (40 < (a0.size : Int)) = false := decide_eq_false c2
 have c2b1 : decide (40 < a0.size) = false := decide_eq_false (by omega)
 clear c2
 obtain ⟨t504, A3, H⟩ := oB H
 by_cases c4 : 1 + t504.size ≤ 9223372036854775807
 ·rw [if_pos c4] at H
  have c4b0 := eq_true c4
  have c4b1 := decide_eq_true c4
  try have c4b2 : (9223372036854775807 < 1 + t504.size) = False := eq_false (Nat.not_lt.2 c4)
  by_cases c5 : ((⟨#[97]⟩ : ByteArray) ++ t504).size + a0.size ≤ 9223372036854775807
  ·rw [if_pos c5] at H
   have c5b0 := eq_true c5
   have c5b1 := decide_eq_true c5
   try have c5b2 : (9223372036854775807 < ((⟨#[97]⟩ : ByteArray) ++ t504).size + a0.size) = False := eq_false (Nat.not_lt.2 c5)
   obtain ⟨t505, A6, H⟩ := oB H
   obtain rfl := Option.some.inj H
   go_enter Try.func82, Try.ntmps82
   go_wp2_with (first | ((with_reducible refine gC 73 rfl ?_); refine gL (some 8) Try.func73 #[.int .i64 (a0.size : Int)] ?_; (with_reducible refine (spec_Var.calls k (a0.size : Int) t504 _ A3.out).mono ?_); rintro e w7 ⟨rfl, hb⟩; refine ⟨_, rfl, ?_⟩; have n_ := aM (below_step bH hb); clear HB; have HB := n_; clear n_; (try clear hb)) | ((with_reducible refine gC 72 rfl ?_); refine gL (some 12) Try.func72 #[.string (((⟨#[97]⟩ : ByteArray) ++ t504) ++ a0)] ?_; (with_reducible refine (spec_l2Ok.calls k (((⟨#[97]⟩ : ByteArray) ++ t504) ++ a0) t505 _ A6.out).mono ?_); rintro e w8 ⟨rfl, hb⟩; refine ⟨_, rfl, ?_⟩; have n_ := aM (below_step bH hb); clear HB; have HB := n_; clear n_; (try clear hb)))
   go_ret
   exact ⟨eE, bH⟩
  rw [if_neg c5] at H
  exact absurd H (by simp)
 rw [if_neg c4] at H
 exact absurd H (by simp)

/-! ### spec_Num: function 74 -/
def spec_Num.f (k : Nat) (a0 : Int) : Option (ByteArray) := (spec_Var.f k a0).bind fun t506 => (if t506.toList = ([] : List UInt8) then (some (⟨#[]⟩ : ByteArray)) else ((spec_Atom.f k t506).bind fun t507 => (some t507)))
set_option maxHeartbeats 8000000 in
set_option maxRecDepth 100000 in
theorem spec_Num.calls (k : Nat) (a0 : Int) (r : ByteArray) (w : World) (h : spec_Num.f k a0 = some r) :
  Calls Try.prog 74 #[.int .i64 a0] w fun e w' => e = .returned (.string r) ∧ Below w.heap.size w w' := by
 have HB := Aside0.mk (Below.refl w.heap.size w)
 have H := h
 clear h
 unfold spec_Num.f at H
 obtain ⟨t506, A2, H⟩ := oB H
 by_cases c3 : t506.toList = ([] : List UInt8)
 ·rw [if_pos c3] at H
  have c3b0 : (t506.toList == ([] : List UInt8)) = true := beq_iff_eq.mpr c3
  have c3e : t506.toList.isEmpty = true := List.isEmpty_iff.mpr c3
  have c3b1 : (t506.toList != ([] : List UInt8)) = false := bne_eq_false_iff_eq.mpr c3
  clear c3
  obtain rfl := Option.some.inj H
  go_enter Try.func74, Try.ntmps74
  go_wp2_with (first | ((with_reducible refine gC 73 rfl ?_); refine gL (some 5) Try.func73 #[.int .i64 a0] ?_; (with_reducible refine (spec_Var.calls k a0 t506 _ A2.out).mono ?_); rintro e w4 ⟨rfl, hb⟩; refine ⟨_, rfl, ?_⟩; have n_ := aM (below_step bH hb); clear HB; have HB := n_; clear n_; (try clear hb)))
  go_ret
  exact ⟨eE, bH⟩
 rw [if_neg c3] at H
 have c3b0 : (t506.toList == ([] : List UInt8)) = false := beq_eq_false_iff_ne.mpr c3
 have c3e : t506.toList.isEmpty = false := by cases h_ : t506.toList.isEmpty with | false => rfl | true => exact absurd (List.isEmpty_iff.mp h_) c3
 have c3b1 : (t506.toList != ([] : List UInt8)) = true := bne_iff_ne.mpr c3
 obtain ⟨t507, A5, H⟩ := oB H
 obtain rfl := Option.some.inj H
 go_enter Try.func74, Try.ntmps74
 go_wp2_with (first | ((with_reducible refine gC 73 rfl ?_); refine gL (some 5) Try.func73 #[.int .i64 a0] ?_; (with_reducible refine (spec_Var.calls k a0 t506 _ A2.out).mono ?_); rintro e w6 ⟨rfl, hb⟩; refine ⟨_, rfl, ?_⟩; have n_ := aM (below_step bH hb); clear HB; have HB := n_; clear n_; (try clear hb)) | ((with_reducible refine gC 82 rfl ?_); refine gL (some 9) Try.func82 #[.string t506] ?_; (with_reducible refine (spec_Atom.calls k t506 t507 _ A5.out).mono ?_); rintro e w7 ⟨rfl, hb⟩; refine ⟨_, rfl, ?_⟩; have n_ := aM (below_step bH hb); clear HB; have HB := n_; clear n_; (try clear hb)))
 go_ret
 exact ⟨eE, bH⟩

/-! ### spec_Nums: function 37 -/
mutual
def spec_Nums.l0 : Nat → List Int → List ByteArray → Int → Option (ByteArray)
 | 0, _, _, _ => none
 | k + 1, x0, x3, x4 => if x4 < (x0.length : Int) then (spec_Nums.j1 k x0 x3 x4 (decide (x4 ≤ 12))) else (spec_Nums.j1 k x0 x3 x4 false)
def spec_Nums.j1 : Nat → List Int → List ByteArray → Int → Bool → Option (ByteArray)
 | 0, _, _, _, _ => none
 | k + 1, x0, x3, x4, x14 => if x14 = true then (if 0 ≤ x4 then (if x4 < (x0.length : Int) then ((spec_Num.f k (rd x0 x4)).bind fun t512 => (if t512.toList = ([] : List UInt8) then (some (⟨#[]⟩ : ByteArray)) else (if x3.length < 8796093022208 then (spec_Nums.l0 k x0 (x3 ++ [t512]) (wrap64 (x4 + 1))) else (none)))) else (none)) else (none)) else ((spec_List.f k x3).bind fun t516 => (some t516))
end
def spec_Nums.f (k : Nat) (l0 : List Int) : Option (ByteArray) := spec_Nums.l0 k l0 (([] : List ByteArray)) 0
set_option maxHeartbeats 8000000 in
set_option maxRecDepth 100000 in
theorem spec_Nums.calls (k : Nat) (A0 : Option Addr) (c0 : Nat) (l0 : List Int) (r : ByteArray) (w : World) (hr0 : Kd.C (Kd.int .i64) w A0 l0.length l0) (hc0 : l0.length ≤ c0) (h : spec_Nums.f k l0 = some r) :
  Calls Try.prog 37 #[.slice A0 l0.length c0] w fun e w' => e = .returned (.string r) ∧ Below w.heap.size w w' := by
 have HR0 := Aside0.mk hr0
 have HC0 := Aside0.mk hc0
 clear hr0 hc0
 have HB := Aside0.mk (Below.refl w.heap.size w)
 have H := h
 clear h
 unfold spec_Nums.f at H
 obtain ⟨y508, hy508⟩ : ∃ y_ : List ByteArray, y_ = (([] : List ByteArray)) := ⟨_, rfl⟩
 replace H : (spec_Nums.l0 k l0 y508 0) = some r := by first | (rw [hy508]; with_reducible exact H) | (have H2_ := (Option.bind_some _ _).symm.trans H; rw [hy508]; with_reducible exact H2_) | (have H2_ := (Option.bind_some _ _).symm.trans H; with_reducible exact H2_) | with_reducible exact H | (rw [hy508]; exact H) | exact H
 have Ny508 := Aside0.mk hy508
 clear hy508
 have H' := Aside0.mk H
 clear H
 go_enter Try.func37, Try.ntmps37
 go_wp2_with (first | ((with_reducible refine gate_dst (N := 6) rfl ?_); refine Kd.R_lit Kd.string _ 9 ?hg (N := 6) ?hd (xs := ([] : List ByteArray)) (inner := []) (ok := fun _ => True) (okp := fun _ => True) ?hr ?hp (fun _ hk => hk) trivial (Below.refl _ _) (Nat.le_refl _) (by simp) ?_; (case hd => rfl); (case hg => rfl); (case hr => first | (go_simp; done) | (go_simp; rfl)); (case hp => exact (Reps.none _ _)); intro v509 w2 ho3 hb hg_ hnew_; clear hg_ hnew_; (first | rw [← Ny508.out] at ho3 | (simp only [Int.reduceToNat] at ho3; rw [← Ny508.out] at ho3)); have n_ := aT (Kd.R_lower ho3 (below_size bH)) (aM (below_step bH hb)); clear HB; obtain ⟨HO510, HB⟩ := n_; clear hb ho3))
 go_loopg [3, 4] k (fun kq v3 v4 w' => ∃ (x3_1 : List ByteArray) (x4_1 : Int), v4 = .int .i64 x4_1 ∧ Aside0 (spec_Nums.l0 kq l0 x3_1 x4_1 = some r) ∧ Aside0 (kq ≤ k) ∧ Aside0 (Kd.R Kd.string 9 w' w.heap.size (fun _ => True) v3 x3_1) ∧ Aside0 (Below w.heap.size w w'))
 case atStart => exact ⟨(y508), (0), eX, H', ⟨Nat.le_refl _⟩, ⟨(kR HO510.out)⟩, ⟨bH⟩⟩
 clear H'
 obtain ⟨x3_1, x4_1, rfl, HA, HK1, HO_3, HB⟩ := hrel
 obtain _ | k1 := gk
 ·exact absurd HA.out (by simp [spec_Nums.l0])
 have H := HA.out
 clear HA
 simp only [spec_Nums.l0] at H
 have HC4 := Aside0.mk H
 clear H
 go_upto_region 3 with (fail)
 go_cut [14] (fun v14 wc => ∃ (kq : Nat) (x14_3 : Bool), v14 = .bool x14_3 ∧ Aside0 (spec_Nums.j1 kq l0 x3_1 x4_1 x14_3 = some r) ∧ Aside0 (kq ≤ k1) ∧ Aside0 (Kd.R Kd.string 9 wc w.heap.size (fun _ => True) u3 x3_1) ∧ Aside0 (Below w.heap.size w wc))
 case first =>
  have H := HC4.out
  clear HC4
  by_cases c5 : x4_1 < (l0.length : Int)
  ·rw [if_pos c5] at H
   have c5b0 := decide_eq_true c5
   clear c5
   (first | rw [c5b0] | (simp only [i64_w, i32_w]; rw [c5b0]) | skip)
   have H' := Aside0.mk H
   clear H
   go_wp2
   go_meet
   case rel => exact ⟨_, (decide (x4_1 ≤ 12)), eX, H', ⟨(by have := HK1.out; first | omega | exact Nat.le_refl _)⟩, ⟨(kR HO_3.out)⟩, ⟨bH⟩⟩
  rw [if_neg c5] at H
  have c5b0 := decide_eq_false c5
  clear c5
  (first | rw [c5b0] | (simp only [i64_w, i32_w]; rw [c5b0]) | skip)
  have H' := Aside0.mk H
  clear H
  go_wp2
  go_meet
  case rel => exact ⟨_, (false), eX, H', ⟨(by have := HK1.out; first | omega | exact Nat.le_refl _)⟩, ⟨(kR HO_3.out)⟩, ⟨bH⟩⟩
 clear HC4
 obtain ⟨kq, x14_3, rfl, HA, HJ3, HO_3, HB⟩ := hcut
 obtain _ | kj3 := kq
 ·exact absurd HA.out (by simp [spec_Nums.j1])
 have H := HA.out
 clear HA
 simp only [spec_Nums.j1] at H
 by_cases c6 : x14_3 = true
 ·subst c6
  rw [if_pos rfl] at H
  by_cases c7 : 0 ≤ x4_1
  ·rw [if_pos c7] at H
   have c7b0 := decide_eq_true c7
   clear c7
   by_cases c8 : x4_1 < (l0.length : Int)
   ·rw [if_pos c8] at H
    have c8b0 := decide_eq_true c8
    clear c8
    obtain ⟨t512, A9, H⟩ := oB H
    by_cases c10 : t512.toList = ([] : List UInt8)
    ·rw [if_pos c10] at H
     have c10b0 : (t512.toList == ([] : List UInt8)) = true := beq_iff_eq.mpr c10
     have c10e : t512.toList.isEmpty = true := List.isEmpty_iff.mpr c10
     have c10b1 : (t512.toList != ([] : List UInt8)) = false := bne_eq_false_iff_eq.mpr c10
     clear c10
     obtain rfl := Option.some.inj H
     have p511 : 0 ≤ (x4_1 : Int) := of_decide_eq_true aA
     have q511 : x4_1 < (l0.length : Int) := of_decide_eq_true aA
     obtain ⟨ad511, e511, hx511_0⟩ := Kd.at_int HR0.out x4_1 p511 q511
     cases e511
     replace hx511_0 := (HB.out.cell (World.block_lt_of_cell? w _ hx511_0)).trans hx511_0
     replace p511 := eq_true p511
     replace q511 := eq_true q511
     go_wp2_with (first | ((with_reducible refine gC 74 rfl ?_); refine gL (some 21) Try.func74 #[.int .i64 (rd l0 x4_1)] ?_; (with_reducible refine (spec_Num.calls kj3 (rd l0 x4_1) t512 _ A9.out).mono ?_); rintro e w11 ⟨rfl, hb⟩; refine ⟨_, rfl, ?_⟩; have n_ := aT (rB HO_3 hb) (aM (below_step bH hb)); clear HO_3 HB; obtain ⟨HO_3, HB⟩ := n_; (try clear hb)))
     go_ret
     exact ⟨eE, bH⟩
    rw [if_neg c10] at H
    have c10b0 : (t512.toList == ([] : List UInt8)) = false := beq_eq_false_iff_ne.mpr c10
    have c10e : t512.toList.isEmpty = false := by cases h_ : t512.toList.isEmpty with | false => rfl | true => exact absurd (List.isEmpty_iff.mp h_) c10
    have c10b1 : (t512.toList != ([] : List UInt8)) = true := bne_iff_ne.mpr c10
    by_cases c12 : x3_1.length < 8796093022208
    ·rw [if_pos c12] at H
     have LMc12 := Aside0.mk c12
     clear c12
     obtain ⟨y513, hy513⟩ : ∃ y_ : List ByteArray, y_ = (x3_1 ++ [t512]) := ⟨_, rfl⟩
     replace H : (spec_Nums.l0 kj3 l0 y513 (wrap64 (x4_1 + 1))) = some r := by first | (rw [hy513]; with_reducible exact H) | (have H2_ := (Option.bind_some _ _).symm.trans H; rw [hy513]; with_reducible exact H2_) | (have H2_ := (Option.bind_some _ _).symm.trans H; with_reducible exact H2_) | with_reducible exact H | (rw [hy513]; exact H) | exact H
     have Ny513 := Aside0.mk hy513
     clear hy513
     have H' := Aside0.mk H
     clear H
     have p511 : 0 ≤ (x4_1 : Int) := of_decide_eq_true aA
     have q511 : x4_1 < (l0.length : Int) := of_decide_eq_true aA
     obtain ⟨ad511, e511, hx511_0⟩ := Kd.at_int HR0.out x4_1 p511 q511
     cases e511
     replace hx511_0 := (HB.out.cell (World.block_lt_of_cell? w _ hx511_0)).trans hx511_0
     replace p511 := eq_true p511
     replace q511 := eq_true q511
     go_wp2_with (first | ((with_reducible refine gC 74 rfl ?_); refine gL (some 21) Try.func74 #[.int .i64 (rd l0 x4_1)] ?_; (with_reducible refine (spec_Num.calls kj3 (rd l0 x4_1) t512 _ A9.out).mono ?_); rintro e w13 ⟨rfl, hb⟩; refine ⟨_, rfl, ?_⟩; have n_ := aT (rB HO_3 hb) (aM (below_step bH hb)); clear HO_3 HB; obtain ⟨HO_3, HB⟩ := n_; (try clear hb)) | ((with_reducible refine gate_builtin (b := .append) (xs := #[.tmp 24, .tmp 26]) rfl ?_); at_builtin; refine Kd.R_append Kd.string (w0 := w) w.heap.size rfl (.tmp 24) (.tmp 26) 63 9 (.string ⟨#[]⟩) 16 rfl Try.underlying63 info9 rfl (by decide) (by omega) u3 x3_1 t512 [.string t512] (fun _ => True) (fun _ => False) rfl rfl ?aP (fun _ hk => hk.elim) ?aF ?aO ?aB ?aS ?aL ?_; (case aP => exact rfl); (case aB => exact bH); (case aF => exact (fun _ _ => trivial)); (case aO => exact (kR HO_3.out)); (case aS => exact (below_size bH)); (case aL => have := LMc12.out; omega); intro v514 w14 ho hb hg hat; rw [← Ny513.out] at ho; have n_ := aT (hb) (aM (ho)); clear HB HO_3; obtain ⟨HB, HO515⟩ := n_; clear ho hb hg hat))
     go_roundg kj3
     case measure => have := HK1.out; have := HJ3.out; omega
     case rel => exact ⟨(y513), (wrap64 (x4_1 + 1)), eX, H', ⟨(by have := HK1.out; have := HJ3.out; omega)⟩, ⟨(kR HO515.out)⟩, ⟨bH⟩⟩
    rw [if_neg c12] at H
    exact absurd H (by simp)
   rw [if_neg c8] at H
   exact absurd H (by simp)
  rw [if_neg c7] at H
  exact absurd H (by simp)
 replace c6 := Bool.eq_false_iff.mpr c6
 subst c6
 rw [if_neg nF] at H
 obtain ⟨t516, A15, H⟩ := oB H
 obtain rfl := Option.some.inj H
 obtain ⟨Ao16, co16, eo16⟩ := Kd.R_slice HO_3.out
 subst eo16
 go_wp2_with (first | ((with_reducible refine gC 36 rfl ?_); refine gL (some 29) Try.func36 #[.slice Ao16 x3_1.length co16] ?_; (with_reducible refine (spec_List.calls kj3 _ _ x3_1 t516 _ ?side1 ?side2 A15.out).mono ?_); (case side1 => exact cA ((Kd.R_reads' HO_3.out).2.2)); (case side2 => exact (Kd.R_reads' HO_3.out).2.1); rintro e w17 ⟨rfl, hb⟩; refine ⟨_, rfl, ?_⟩; have n_ := aT (rB HO_3 hb) (aM (below_step bH hb)); clear HO_3 HB; obtain ⟨HO_3, HB⟩ := n_; (try clear hb)))
 go_ret
 exact ⟨eE, bH⟩

/-! ### spec_KeyTerm: function 38 -/
def spec_KeyTerm.f (k : Nat) (a0 : Int) : Option (ByteArray) := (spec_l1In.f a0 1 1000000).bind fun t517 => (if t517 = true then ((spec_Var.f k a0).bind fun t518 => (if 1 + t518.size ≤ 9223372036854775807 then (some ((⟨#[107]⟩ : ByteArray) ++ t518)) else (none))) else (some (⟨#[]⟩ : ByteArray)))
set_option maxHeartbeats 8000000 in
set_option maxRecDepth 100000 in
theorem spec_KeyTerm.calls (k : Nat) (a0 : Int) (r : ByteArray) (w : World) (h : spec_KeyTerm.f k a0 = some r) :
  Calls Try.prog 38 #[.int .i64 a0] w fun e w' => e = .returned (.string r) ∧ Below w.heap.size w w' := by
 have HB := Aside0.mk (Below.refl w.heap.size w)
 have H := h
 clear h
 unfold spec_KeyTerm.f at H
 obtain ⟨t517, A2, H⟩ := oB H
 by_cases c3 : t517 = true
 ·subst c3
  rw [if_pos rfl] at H
  obtain ⟨t518, A4, H⟩ := oB H
  by_cases c5 : 1 + t518.size ≤ 9223372036854775807
  ·rw [if_pos c5] at H
   have c5b0 := eq_true c5
   have c5b1 := decide_eq_true c5
   try have c5b2 : (9223372036854775807 < 1 + t518.size) = False := eq_false (Nat.not_lt.2 c5)
   obtain rfl := Option.some.inj H
   go_enter Try.func38, Try.ntmps38
   go_wp2_with (first | ((with_reducible refine gC 48 rfl ?_); refine gL (some 4) Try.func48 #[.int .i64 a0, .int .i64 1, .int .i64 1000000] ?_; (with_reducible refine (spec_l1In.calls a0 1 1000000 true _ A2.out).mono ?_); rintro e w' ⟨rfl, ⟨nd, rfl⟩⟩; refine ⟨_, rfl, ?_⟩) | ((with_reducible refine gC 73 rfl ?_); refine gL (some 7) Try.func73 #[.int .i64 a0] ?_; (with_reducible refine (spec_Var.calls k a0 t518 _ A4.out).mono ?_); rintro e w6 ⟨rfl, hb⟩; refine ⟨_, rfl, ?_⟩; have n_ := aM (below_step bH hb); clear HB; have HB := n_; clear n_; (try clear hb)))
   go_ret
   exact ⟨eE, bH⟩
  rw [if_neg c5] at H
  exact absurd H (by simp)
 replace c3 := Bool.eq_false_iff.mpr c3
 subst c3
 rw [if_neg nF] at H
 obtain rfl := Option.some.inj H
 go_enter Try.func38, Try.ntmps38
 go_wp2_with (first | ((with_reducible refine gC 48 rfl ?_); refine gL (some 4) Try.func48 #[.int .i64 a0, .int .i64 1, .int .i64 1000000] ?_; (with_reducible refine (spec_l1In.calls a0 1 1000000 false _ A2.out).mono ?_); rintro e w' ⟨rfl, ⟨nd, rfl⟩⟩; refine ⟨_, rfl, ?_⟩))
 go_ret
 exact ⟨eE, bH⟩

/-! ### spec_ShowRest: function 39 -/
def spec_ShowRest.f (k : Nat) (a0_0 : Int) (a0_1 : Int) (a0_2 : Int) : Option (ByteArray) := (spec_RestOk.f a0_0 a0_1 a0_2).bind fun t520 => (if t520 = true then ((spec_Nums.f k (([a0_0, a0_1, a0_2] : List Int))).bind fun t524 => (some t524)) else (some (⟨#[]⟩ : ByteArray)))
set_option maxHeartbeats 8000000 in
set_option maxRecDepth 100000 in
theorem spec_ShowRest.calls (k : Nat) (a0_0 : Int) (a0_1 : Int) (a0_2 : Int) (r : ByteArray) (w : World) (h : spec_ShowRest.f k a0_0 a0_1 a0_2 = some r) :
  Calls Try.prog 39 #[.agg #[.int .i64 a0_0, .int .i64 a0_1, .int .i64 a0_2]] w fun e w' => e = .returned (.string r) ∧ Below w.heap.size w w' := by
 have hu25 := Try.underlying25
 have HB := Aside0.mk (Below.refl w.heap.size w)
 have H := h
 clear h
 unfold spec_ShowRest.f at H
 obtain ⟨t520, A2, H⟩ := oB H
 by_cases c3 : t520 = true
 ·subst c3
  rw [if_pos rfl] at H
  obtain ⟨y521, hy521⟩ : ∃ y_ : List Int, y_ = (([a0_0, a0_1, a0_2] : List Int)) := ⟨_, rfl⟩
  replace H : ((spec_Nums.f k y521).bind fun t524 => (some t524)) = some r := by first | (rw [hy521]; with_reducible exact H) | (have H2_ := (Option.bind_some _ _).symm.trans H; rw [hy521]; with_reducible exact H2_) | (have H2_ := (Option.bind_some _ _).symm.trans H; with_reducible exact H2_) | with_reducible exact H | (rw [hy521]; exact H) | exact H
  have Ny521 := Aside0.mk hy521
  clear hy521
  obtain ⟨t524, A4, H⟩ := oB H
  obtain rfl := Option.some.inj H
  go_enter Try.func39, Try.ntmps39
  go_wp2_with (first | ((with_reducible refine gD 1 rfl ?_); refine bE #[.int .i64 a0_0, .int .i64 a0_1, .int .i64 a0_2] 25 ?_; intro gb519 hg w5 hbox hb; have n_ := aT (below_step bH hb) (aT (hbox) (aT ((bZ hg : w.heap.size ≤ gb519)) (aM ((bZ hg : w.heap.size ≤ gb519))))); clear HB; obtain ⟨HB, BK519, GW519, GE519⟩ := n_; clear hb hbox hg; obtain ⟨⟨hcz6_0, hcz6_1, hcz6_2⟩, hfz6_0, hfz6_1, hfz6_2⟩ := cF3 BK519) | ((with_reducible refine gC 21 rfl ?_); refine gL (some 4) Try.func21 #[.agg #[.int .i64 a0_0, .int .i64 a0_1, .int .i64 a0_2]] ?_; (with_reducible refine (spec_RestOk.calls a0_0 a0_1 a0_2 true _ A2.out).mono ?_); rintro e w7 ⟨rfl, hb⟩; refine ⟨_, rfl, ?_⟩; have n_ := aT (bB BK519 hb) (aM (below_step bS hb)); clear BK519 HB; obtain ⟨BK519, HB⟩ := n_; (try clear hb); obtain ⟨⟨hcz8_0, hcz8_1, hcz8_2⟩, hfz8_0, hfz8_1, hfz8_2⟩ := cF3 BK519) | ((with_reducible refine gate_dst (N := 12) rfl ?_); refine Kd.R_lit (Kd.int .i64) _ 3 ?hg (N := 12) ?hd (xs := ([a0_0, a0_1, a0_2] : List Int)) (inner := [.int .i64 a0_0, .int .i64 a0_1, .int .i64 a0_2]) (ok := fun _ => True) (okp := fun _ => True) ?hr ?hp (fun _ hk => hk) trivial (Below.refl _ _) (Nat.le_refl _) (by simp) ?_; (case hd => rfl); (case hg => rfl); (case hr => first | (go_simp; done) | (go_simp; rfl)); (case hp => exact (Reps.one (show Kd.M (Kd.int .i64) _ _ _ a0_0 [.int .i64 a0_0] from rfl) (Reps.one (show Kd.M (Kd.int .i64) _ _ _ a0_1 [.int .i64 a0_1] from rfl) (Reps.one (show Kd.M (Kd.int .i64) _ _ _ a0_2 [.int .i64 a0_2] from rfl) (Reps.none _ _))))); intro v522 w9 ho10 hb hg_ hnew_; clear hg_ hnew_; (first | rw [← Ny521.out] at ho10 | (simp only [Int.reduceToNat] at ho10; rw [← Ny521.out] at ho10)); have n_ := aT (Kd.R_lower ho10 (below_size bS)) (aT (bB BK519 hb) (aM (below_step bS hb))); clear BK519 HB; obtain ⟨HO523, BK519, HB⟩ := n_; clear hb ho10; obtain ⟨Ao11, co11, eo11⟩ := Kd.R_slice HO523.out; subst eo11) | ((with_reducible refine gC 37 rfl ?_); refine gL (some 13) Try.func37 #[.slice Ao11 y521.length co11] ?_; (with_reducible refine (spec_Nums.calls k _ _ y521 t524 _ ?side1 ?side2 A4.out).mono ?_); (case side1 => exact cA ((Kd.R_reads' HO523.out).2.2)); (case side2 => exact (Kd.R_reads' HO523.out).2.1); rintro e w12 ⟨rfl, hb⟩; refine ⟨_, rfl, ?_⟩; have n_ := aT (rB HO523 hb) (aT (bB BK519 hb) (aM (below_step bS hb))); clear HO523 BK519 HB; obtain ⟨HO523, BK519, HB⟩ := n_; (try clear hb)))
  go_ret
  exact ⟨eE, bS⟩
 replace c3 := Bool.eq_false_iff.mpr c3
 subst c3
 rw [if_neg nF] at H
 obtain rfl := Option.some.inj H
 go_enter Try.func39, Try.ntmps39
 go_wp2_with (first | ((with_reducible refine gD 1 rfl ?_); refine bE #[.int .i64 a0_0, .int .i64 a0_1, .int .i64 a0_2] 25 ?_; intro gb519 hg w13 hbox hb; have n_ := aT (below_step bH hb) (aT (hbox) (aT ((bZ hg : w.heap.size ≤ gb519)) (aM ((bZ hg : w.heap.size ≤ gb519))))); clear HB; obtain ⟨HB, BK519, GW519, GE519⟩ := n_; clear hb hbox hg; obtain ⟨⟨hcz14_0, hcz14_1, hcz14_2⟩, hfz14_0, hfz14_1, hfz14_2⟩ := cF3 BK519) | ((with_reducible refine gC 21 rfl ?_); refine gL (some 4) Try.func21 #[.agg #[.int .i64 a0_0, .int .i64 a0_1, .int .i64 a0_2]] ?_; (with_reducible refine (spec_RestOk.calls a0_0 a0_1 a0_2 false _ A2.out).mono ?_); rintro e w15 ⟨rfl, hb⟩; refine ⟨_, rfl, ?_⟩; have n_ := aT (bB BK519 hb) (aM (below_step bS hb)); clear BK519 HB; obtain ⟨BK519, HB⟩ := n_; (try clear hb)))
 go_ret
 exact ⟨eE, bS⟩

end Go.Proofs.Ytaldemgfndmmlaa.OFnTickets
-- wrapped
-- halved
-- squeezed
-- squeezed2
-- squeezed3
