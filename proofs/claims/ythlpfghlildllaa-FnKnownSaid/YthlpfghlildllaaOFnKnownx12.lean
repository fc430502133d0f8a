-- walks of this claim, written by a program of mine
import Derived.Test.YthlpfghlildllaaOFnKnownx0
import Derived.Test.YthlpfghlildllaaOFnKnownx10
import Derived.Test.YthlpfghlildllaaOFnKnownx11
namespace Go.Proofs.Ythlpfghlildllaa.OFnKnown
open Go.RowKit Go.Proofs.Ythlpfghlildllaa.OWord Go.Proofs.YthlpfghlildllaaW.PrintWords Go.Proofs.YthlpfghlildllaaW.PrintLast Go.Proofs.YthlpfghlildllaaW.PrintMore
attribute [local go_sem] max2_int min2_int max_two min_two max_three min_three max_four min_four   -- for this text's walks alone
set_option linter.unusedVariables false
set_option linter.unusedSimpArgs false

/-! ### impl_KnownOk: function 46 -/
mutual
def impl_KnownOk.l0 : Nat → List ByteArray → Int → Int → List ByteArray → List Int → Option (Bool)
 | 0, _, _, _, _, _ => none
 | k + 1, x8, x9, x10, x407000, x407001 => if x10 < x9 then (if 0 ≤ x10 then (if x10 < (x8.length : Int) then ((impl_TermOk.f k (rdOf ByteArray.empty x8 x10)).bind fun t408 => (if t408 = true then (if x10 ≤ (x407000.length : Int) then ((slices_Contains_string_string.f k (x407000.take (x10 : Int).toNat) (rdOf ByteArray.empty x8 x10)).bind fun t410 => (if t410 = true then (some false) else (impl_KnownOk.l0 k x8 x9 (wrap64 (x10 + 1)) x407000 x407001))) else (none)) else (some false))) else (none)) else (none)) else (impl_KnownOk.l1 k x407001 (x407001.length : Int) 0 x407000 x407001)
def impl_KnownOk.l1 : Nat → List Int → Int → Int → List ByteArray → List Int → Option (Bool)
 | 0, _, _, _, _, _ => none
 | k + 1, x28, x29, x30, x407000, x407001 => if x30 < x29 then (if 0 ≤ x30 then (if x30 < (x28.length : Int) then ((impl_isKey.f (rd x28 x30)).bind fun t412 => (if t412 = true then (impl_KnownOk.l1 k x28 x29 (wrap64 (x30 + 1)) x407000 x407001) else (some false))) else (none)) else (none)) else (if (x407000.length : Int) ≤ 60 then (if (x407001.length : Int) ≤ 40 then ((impl_rises.f k x407001).bind fun t413 => (some t413)) else (some false)) else (some false))
end
def impl_KnownOk.f (k : Nat) (l0_0 : List ByteArray) (l0_1 : List Int) : Option (Bool) := impl_KnownOk.l0 k l0_0 (l0_0.length : Int) 0 l0_0 l0_1
set_option maxHeartbeats 8000000 in
set_option maxRecDepth 100000 in
theorem impl_KnownOk.calls (k : Nat) (A0_0 : Option Addr) (c0_0 : Nat) (l0_0 : List ByteArray) (A0_1 : Option Addr) (c0_1 : Nat) (l0_1 : List Int) (r : Bool) (w : World) (hr0_0 : Kd.C Kd.string w A0_0 l0_0.length l0_0) (hc0_0 : l0_0.length ≤ c0_0) (hr0_1 : Kd.C (Kd.int .i64) w A0_1 l0_1.length l0_1) (hc0_1 : l0_1.length ≤ c0_1) (h : impl_KnownOk.f k l0_0 l0_1 = some r) :
  Calls Try.prog 46 #[.agg #[.slice A0_0 l0_0.length c0_0, .slice A0_1 l0_1.length c0_1]] w fun e w' => e = .returned (.bool r) ∧ Below w.heap.size w w' := by
 have hu27 := Try.underlying27
 have HR0_0 := Aside0.mk hr0_0
 have HC0_0 := Aside0.mk hc0_0
 clear hr0_0 hc0_0
 have HR0_1 := Aside0.mk hr0_1
 have HC0_1 := Aside0.mk hc0_1
 clear hr0_1 hc0_1
 have HB := Aside0.mk (Below.refl w.heap.size w)
 have H := h
 clear h
 unfold impl_KnownOk.f at H
 have H' := Aside0.mk H
 clear H
 go_enter Try.func46, Try.ntmps46
 go_wp2_with (first | ((with_reducible refine gate_dst (N := 1) rfl ?_); (try (refine gate_guard (by rfl) ?_; dsimp only)); refine box_event ?hg (N := 1) ?hd (cs := #[.slice A0_0 l0_0.length c0_0, .slice A0_1 l0_1.length c0_1]) (t := 27) ?hr ?_; (case hd => rfl); (case hg => rfl); (case hr => first | (go_simp; done) | (go_simp; rfl)); intro gb406 hg w2 hbox hb; have n_ := aT (below_step bH hb) (aT (hbox) (aT ((bZ hg : w.heap.size ≤ gb406)) (aM ((bZ hg : w.heap.size ≤ gb406))))); clear HB; obtain ⟨HB, BK406, GW406, GE406⟩ := n_; clear hb hbox hg; have hcz3_0 : w2.cell? ⟨gb406, 0, none⟩ = some (.slice A0_0 l0_0.length c0_0) := (blk_cell BK406.out 0).trans rfl; have hcz3_1 : w2.cell? ⟨gb406, 1, none⟩ = some (.slice A0_1 l0_1.length c0_1) := (blk_cell BK406.out 1).trans rfl; have hfz3_0 := blk_frozen BK406.out 0; have hfz3_1 := blk_frozen BK406.out 1))
 go_loopg [10] k (fun kq v10 w' => ∃ (x10_1 : Int), v10 = .int .i64 x10_1 ∧ Aside0 (impl_KnownOk.l0 kq l0_0 (l0_0.length : Int) x10_1 l0_0 l0_1 = some r) ∧ Aside0 (kq ≤ k) ∧ Aside0 (w'.heap[gb406]? = some (.cells #[(.slice A0_0 l0_0.length c0_0), (.slice A0_1 l0_1.length c0_1)] 27 (0, 0))) ∧ Aside0 (Below w.heap.size w w'))
 case atStart => exact ⟨(0), eX, H', ⟨Nat.le_refl _⟩, ⟨(kB BK406.out)⟩, ⟨bS⟩⟩
 case round =>
  clear H'
  try clear hcz3_0
  try clear hcz3_1
  try clear hfz3_0
  try clear hfz3_1
  obtain ⟨x10_1, rfl, HA, HK1, BK406, HB⟩ := hrel
  cases gk with
  | zero => exact absurd HA.out (by simp [impl_KnownOk.l0])
  | succ k1 =>
   have H := HA.out
   clear HA
   simp only [impl_KnownOk.l0] at H
   by_cases c4 : x10_1 < (l0_0.length : Int)
   ·rw [if_pos c4] at H
    have c4b0 := decide_eq_true c4
    clear c4
    by_cases c5 : 0 ≤ x10_1
    ·rw [if_pos c5] at H
     have c5b0 := decide_eq_true c5
     clear c5
     by_cases c6 : x10_1 < (l0_0.length : Int)
     ·rw [if_pos c6] at H
      have c6b0 := decide_eq_true c6
      clear c6
      obtain ⟨t408, A7, H⟩ := oB H
      by_cases c8 : t408 = true
      ·subst c8
       rw [if_pos rfl] at H
       have c9b0 := eq_true (of_decide_eq_true aA : 0 ≤ x10_1)
       by_cases c10 : x10_1 ≤ (l0_0.length : Int)
       ·rw [if_pos c10] at H
        have c10b0 := eq_true c10
        have c10b1 := decide_eq_true c10
        clear c10
        obtain ⟨t410, A11, H⟩ := oB H
        by_cases c12 : t410 = true
        ·subst c12
         rw [if_pos rfl] at H
         obtain rfl := Option.some.inj H
         have p407 : 0 ≤ (x10_1 : Int) := of_decide_eq_true aA
         have q407 : x10_1 < (l0_0.length : Int) := of_decide_eq_true aA
         obtain ⟨ad407, e407, hx407_0⟩ := Kd.at_string HR0_0.out x10_1 p407 q407
         cases e407
         replace hx407_0 := (HB.out.cell (World.block_lt_of_cell? w _ hx407_0)).trans hx407_0
         replace p407 := eq_true p407
         replace q407 := eq_true q407
         go_wp2_with (first | (refine gL 47 (some 16) Try.func47 #[.string (rdOf ByteArray.empty l0_0 x10_1)] ?_; (with_reducible refine (impl_TermOk.calls k1 (rdOf ByteArray.empty l0_0 x10_1) true _ A7.out).mono ?_); rintro e w13 ⟨rfl, hb⟩; refine ⟨_, rfl, ?_⟩; have n_ := aT (blk_below (kB BK406.out) hb) (aM (below_step bS hb)); clear BK406 HB; obtain ⟨BK406, HB⟩ := n_; (try clear hb); have hcz14_0 : w13.cell? ⟨gb406, 0, none⟩ = some (.slice (some ad407) l0_0.length c0_0) := (blk_cell BK406.out 0).trans rfl; have hcz14_1 : w13.cell? ⟨gb406, 1, none⟩ = some (.slice A0_1 l0_1.length c0_1) := (blk_cell BK406.out 1).trans rfl; have hfz14_0 := blk_frozen BK406.out 0; have hfz14_1 := blk_frozen BK406.out 1; obtain ⟨i015, hi015, _, hsz15, _⟩ := info_parts info9; obtain ⟨hcut15, hA15, hC15⟩ := print_take_of (P := Try.prog) Value.string (⟨#[]⟩ : ByteArray) 24 9 .i64 Try.underlying24 hi015 hsz15 (some ad407) c0_0 l0_0 x10_1 (of_decide_eq_true aA) (of_decide_eq_true aA) HC0_0.out; have HR409 := Aside0.mk (Kd.C_of_reads (h1 := fun _ => rfl) (hA15 _ (Kd.reads_of_C HR0_0.out))); have HC409 := Aside0.mk hC15; clear hA15 hC15 hi015 hsz15) | (go_at_call 56; (try rw [show (x10_1 : Int).toNat = (l0_0.take (x10_1 : Int).toNat).length from (by rw [List.length_take]; have h_ : (x10_1 : Int) ≤ (l0_0.length : Int) := of_decide_eq_true aA; omega)]); (with_reducible refine (slices_Contains_string_string.calls k1 _ _ (l0_0.take (x10_1 : Int).toNat) (rdOf ByteArray.empty l0_0 x10_1) true _ ?side1 ?side2 A11.out).mono ?_); (case side1 => exact cA (Kd.C_below HR409.out HB.out)); (case side2 => exact HC409.out); rintro e w' ⟨rfl, ⟨nd, rfl⟩⟩))
         go_ret
         exact ⟨eE, bS⟩
        replace c12 := Bool.eq_false_iff.mpr c12
        subst c12
        rw [if_neg nF] at H
        have H' := Aside0.mk H
        clear H
        have p407 : 0 ≤ (x10_1 : Int) := of_decide_eq_true aA
        have q407 : x10_1 < (l0_0.length : Int) := of_decide_eq_true aA
        obtain ⟨ad407, e407, hx407_0⟩ := Kd.at_string HR0_0.out x10_1 p407 q407
        cases e407
        replace hx407_0 := (HB.out.cell (World.block_lt_of_cell? w _ hx407_0)).trans hx407_0
        replace p407 := eq_true p407
        replace q407 := eq_true q407
        go_wp2_with (first | (refine gL 47 (some 16) Try.func47 #[.string (rdOf ByteArray.empty l0_0 x10_1)] ?_; (with_reducible refine (impl_TermOk.calls k1 (rdOf ByteArray.empty l0_0 x10_1) true _ A7.out).mono ?_); rintro e w16 ⟨rfl, hb⟩; refine ⟨_, rfl, ?_⟩; have n_ := aT (blk_below (kB BK406.out) hb) (aM (below_step bS hb)); clear BK406 HB; obtain ⟨BK406, HB⟩ := n_; (try clear hb); have hcz17_0 : w16.cell? ⟨gb406, 0, none⟩ = some (.slice (some ad407) l0_0.length c0_0) := (blk_cell BK406.out 0).trans rfl; have hcz17_1 : w16.cell? ⟨gb406, 1, none⟩ = some (.slice A0_1 l0_1.length c0_1) := (blk_cell BK406.out 1).trans rfl; have hfz17_0 := blk_frozen BK406.out 0; have hfz17_1 := blk_frozen BK406.out 1; obtain ⟨i018, hi018, _, hsz18, _⟩ := info_parts info9; obtain ⟨hcut18, hA18, hC18⟩ := print_take_of (P := Try.prog) Value.string (⟨#[]⟩ : ByteArray) 24 9 .i64 Try.underlying24 hi018 hsz18 (some ad407) c0_0 l0_0 x10_1 (of_decide_eq_true aA) (of_decide_eq_true aA) HC0_0.out; have HR409 := Aside0.mk (Kd.C_of_reads (h1 := fun _ => rfl) (hA18 _ (Kd.reads_of_C HR0_0.out))); have HC409 := Aside0.mk hC18; clear hA18 hC18 hi018 hsz18) | (go_at_call 56; (try rw [show (x10_1 : Int).toNat = (l0_0.take (x10_1 : Int).toNat).length from (by rw [List.length_take]; have h_ : (x10_1 : Int) ≤ (l0_0.length : Int) := of_decide_eq_true aA; omega)]); (with_reducible refine (slices_Contains_string_string.calls k1 _ _ (l0_0.take (x10_1 : Int).toNat) (rdOf ByteArray.empty l0_0 x10_1) false _ ?side1 ?side2 A11.out).mono ?_); (case side1 => exact cA (Kd.C_below HR409.out HB.out)); (case side2 => exact HC409.out); rintro e w' ⟨rfl, ⟨nd, rfl⟩⟩))
        go_roundg k1
        case measure => have := HK1.out; omega
        case rel => exact ⟨(wrap64 (x10_1 + 1)), eX, H', ⟨(by have := HK1.out; omega)⟩, ⟨(kB BK406.out)⟩, ⟨bS⟩⟩
       rw [if_neg c10] at H
       exact absurd H (by simp)
      replace c8 := Bool.eq_false_iff.mpr c8
      subst c8
      rw [if_neg nF] at H
      obtain rfl := Option.some.inj H
      have p407 : 0 ≤ (x10_1 : Int) := of_decide_eq_true aA
      have q407 : x10_1 < (l0_0.length : Int) := of_decide_eq_true aA
      obtain ⟨ad407, e407, hx407_0⟩ := Kd.at_string HR0_0.out x10_1 p407 q407
      cases e407
      replace hx407_0 := (HB.out.cell (World.block_lt_of_cell? w _ hx407_0)).trans hx407_0
      replace p407 := eq_true p407
      replace q407 := eq_true q407
      go_wp2_with (first | (refine gL 47 (some 16) Try.func47 #[.string (rdOf ByteArray.empty l0_0 x10_1)] ?_; (with_reducible refine (impl_TermOk.calls k1 (rdOf ByteArray.empty l0_0 x10_1) false _ A7.out).mono ?_); rintro e w19 ⟨rfl, hb⟩; refine ⟨_, rfl, ?_⟩; have n_ := aT (blk_below (kB BK406.out) hb) (aM (below_step bS hb)); clear BK406 HB; obtain ⟨BK406, HB⟩ := n_; (try clear hb)))
      go_ret
      exact ⟨eE, bS⟩
     rw [if_neg c6] at H
     exact absurd H (by simp)
    rw [if_neg c5] at H
    exact absurd H (by simp)
   rw [if_neg c4] at H
   have c4b0 := decide_eq_false c4
   clear c4
   have H' := Aside0.mk H
   clear H
   have hcz20_0 : wr.cell? ⟨gb406, 0, none⟩ = some (.slice A0_0 l0_0.length c0_0) := (blk_cell BK406.out 0).trans rfl
   have hcz20_1 : wr.cell? ⟨gb406, 1, none⟩ = some (.slice A0_1 l0_1.length c0_1) := (blk_cell BK406.out 1).trans rfl
   have hfz20_0 := blk_frozen BK406.out 0
   have hfz20_1 := blk_frozen BK406.out 1
   go_wp2
   go_loopg [30] k1 (fun kq v30 w' => ∃ (x30_2 : Int), v30 = .int .i64 x30_2 ∧ Aside0 (impl_KnownOk.l1 kq l0_1 (l0_1.length : Int) x30_2 l0_0 l0_1 = some r) ∧ Aside0 (kq ≤ k1) ∧ Aside0 (w'.heap[gb406]? = some (.cells #[(.slice A0_0 l0_0.length c0_0), (.slice A0_1 l0_1.length c0_1)] 27 (0, 0))) ∧ Aside0 (Below w.heap.size w w'))
   case atStart => exact ⟨(0), eX, H', ⟨Nat.le_refl _⟩, ⟨(kB BK406.out)⟩, ⟨bS⟩⟩
   case round =>
    clear H'
    try clear c4
    try clear c4b0
    try clear hcz20_0
    try clear hcz20_1
    try clear hcz3_0
    try clear hcz3_1
    try clear hfz20_0
    try clear hfz20_1
    try clear hfz3_0
    try clear hfz3_1
    obtain ⟨x30_2, rfl, HA, HK2, BK406, HB⟩ := hrel
    cases gk with
    | zero => exact absurd HA.out (by simp [impl_KnownOk.l1])
    | succ k2 =>
     have H := HA.out
     clear HA
     simp only [impl_KnownOk.l1] at H
     by_cases c21 : x30_2 < (l0_1.length : Int)
     ·rw [if_pos c21] at H
      have c21b0 := decide_eq_true c21
      clear c21
      by_cases c22 : 0 ≤ x30_2
      ·rw [if_pos c22] at H
       have c22b0 := decide_eq_true c22
       clear c22
       by_cases c23 : x30_2 < (l0_1.length : Int)
       ·rw [if_pos c23] at H
        have c23b0 := decide_eq_true c23
        clear c23
        obtain ⟨t412, A24, H⟩ := oB H
        by_cases c25 : t412 = true
        ·subst c25
         rw [if_pos rfl] at H
         have H' := Aside0.mk H
         clear H
         have p411 : 0 ≤ (x30_2 : Int) := of_decide_eq_true aA
         have q411 : x30_2 < (l0_1.length : Int) := of_decide_eq_true aA
         obtain ⟨ad411, e411, hx411_0⟩ := Kd.at_int HR0_1.out x30_2 p411 q411
         cases e411
         replace hx411_0 := (HB.out.cell (World.block_lt_of_cell? w _ hx411_0)).trans hx411_0
         replace p411 := eq_true p411
         replace q411 := eq_true q411
         go_wp2_with (first | (refine gL 57 (some 35) Try.func57 #[.int .i64 (rd l0_1 x30_2)] ?_; (with_reducible refine (impl_isKey.calls (rd l0_1 x30_2) true _ A24.out).mono ?_); rintro e w' ⟨rfl, ⟨nd, rfl⟩⟩; refine ⟨_, rfl, ?_⟩))
         go_roundg k2
         case measure => have := HK1.out; have := HK2.out; omega
         case rel => exact ⟨(wrap64 (x30_2 + 1)), eX, H', ⟨(by have := HK1.out; have := HK2.out; omega)⟩, ⟨(kB BK406.out)⟩, ⟨bS⟩⟩
        replace c25 := Bool.eq_false_iff.mpr c25
        subst c25
        rw [if_neg nF] at H
        obtain rfl := Option.some.inj H
        have p411 : 0 ≤ (x30_2 : Int) := of_decide_eq_true aA
        have q411 : x30_2 < (l0_1.length : Int) := of_decide_eq_true aA
        obtain ⟨ad411, e411, hx411_0⟩ := Kd.at_int HR0_1.out x30_2 p411 q411
        cases e411
        replace hx411_0 := (HB.out.cell (World.block_lt_of_cell? w _ hx411_0)).trans hx411_0
        replace p411 := eq_true p411
        replace q411 := eq_true q411
        go_wp2_with (first | (refine gL 57 (some 35) Try.func57 #[.int .i64 (rd l0_1 x30_2)] ?_; (with_reducible refine (impl_isKey.calls (rd l0_1 x30_2) false _ A24.out).mono ?_); rintro e w' ⟨rfl, ⟨nd, rfl⟩⟩; refine ⟨_, rfl, ?_⟩))
        go_ret
        exact ⟨eE, bS⟩
       rw [if_neg c23] at H
       exact absurd H (by simp)
      rw [if_neg c22] at H
      exact absurd H (by simp)
     rw [if_neg c21] at H
     have c21b0 := decide_eq_false c21
     clear c21
     by_cases c26 : (l0_0.length : Int) ≤ 60
     ·rw [if_pos c26] at H
      have c26b0 := decide_eq_true c26
      have c26b1 : decide (l0_0.length ≤ 60) = true := decide_eq_true (by omega)
      clear c26
      by_cases c27 : (l0_1.length : Int) ≤ 40
      ·rw [if_pos c27] at H
       have c27b0 := decide_eq_true c27
       have c27b1 : decide (l0_1.length ≤ 40) = true := decide_eq_true (by omega)
       clear c27
       obtain ⟨t413, A28, H⟩ := oB H
       obtain rfl := Option.some.inj H
       have hcz29_0 : wr.cell? ⟨gb406, 0, none⟩ = some (.slice A0_0 l0_0.length c0_0) := (blk_cell BK406.out 0).trans rfl
       have hcz29_1 : wr.cell? ⟨gb406, 1, none⟩ = some (.slice A0_1 l0_1.length c0_1) := (blk_cell BK406.out 1).trans rfl
       have hfz29_0 := blk_frozen BK406.out 0
       have hfz29_1 := blk_frozen BK406.out 1
       go_wp2_with (first | (go_at_call 76; (with_reducible refine (impl_rises.calls k2 _ _ l0_1 t413 _ ?side1 ?side2 A28.out).mono ?_); (case side1 => exact cA (Kd.C_below HR0_1.out HB.out)); (case side2 => exact HC0_1.out); rintro e w' ⟨rfl, ⟨nd, rfl⟩⟩))
       go_ret
       exact ⟨eE, bS⟩
      rw [if_neg c27] at H
      have c27b0 := decide_eq_false c27
      have c27b1 : decide (l0_1.length ≤ 40) = false := decide_eq_false (by omega)
      clear c27
      obtain rfl := Option.some.inj H
      have hcz30_0 : wr.cell? ⟨gb406, 0, none⟩ = some (.slice A0_0 l0_0.length c0_0) := (blk_cell BK406.out 0).trans rfl
      have hcz30_1 : wr.cell? ⟨gb406, 1, none⟩ = some (.slice A0_1 l0_1.length c0_1) := (blk_cell BK406.out 1).trans rfl
      have hfz30_0 := blk_frozen BK406.out 0
      have hfz30_1 := blk_frozen BK406.out 1
      go_wp2
      go_ret
      exact ⟨eE, bS⟩
     rw [if_neg c26] at H
     have c26b0 := decide_eq_false c26
     have c26b1 : decide (l0_0.length ≤ 60) = false := decide_eq_false (by omega)
     clear c26
     obtain rfl := Option.some.inj H
     have hcz31_0 : wr.cell? ⟨gb406, 0, none⟩ = some (.slice A0_0 l0_0.length c0_0) := (blk_cell BK406.out 0).trans rfl
     have hcz31_1 : wr.cell? ⟨gb406, 1, none⟩ = some (.slice A0_1 l0_1.length c0_1) := (blk_cell BK406.out 1).trans rfl
     have hfz31_0 := blk_frozen BK406.out 0
     have hfz31_1 := blk_frozen BK406.out 1
     go_wp2
     go_ret
     exact ⟨eE, bS⟩

/-! ### impl_isOf: function 94 -/
def impl_isOf.f (k : Nat) (a0 : ByteArray) (a1 : Int) : Option (Bool) := (impl_TermOk.f k a0).bind fun t414 => (if t414 = true then (if 0 < (a0.size : Int) then (some ((bt a0 0) == a1)) else (none)) else (some false))
set_option maxHeartbeats 8000000 in
set_option maxRecDepth 100000 in
theorem impl_isOf.calls (k : Nat) (a0 : ByteArray) (a1 : Int) (r : Bool) (w : World) (h : impl_isOf.f k a0 a1 = some r) :
  Calls Try.prog 94 #[.string a0, .int .u8 a1] w fun e w' => e = .returned (.bool r) ∧ Below w.heap.size w w' := by
 have HB := Aside0.mk (Below.refl w.heap.size w)
 have H := h
 clear h
 unfold impl_isOf.f at H
 obtain ⟨t414, A3, H⟩ := oB H
 by_cases c4 : t414 = true
 ·subst c4
  rw [if_pos rfl] at H
  by_cases c5 : 0 < (a0.size : Int)
  ·rw [if_pos c5] at H
   have c5b0 := decide_eq_true c5
   have c5b1 : decide (0 < a0.size) = true := decide_eq_true (by omega)
   clear c5
   obtain rfl := Option.some.inj H
   go_enter Try.func94, Try.ntmps94
   go_wp2_with (first | (refine gL 47 (some 6) Try.func47 #[.string a0] ?_; (with_reducible refine (impl_TermOk.calls k a0 true _ A3.out).mono ?_); rintro e w7 ⟨rfl, hb⟩; refine ⟨_, rfl, ?_⟩; have n_ := aM (below_step bH hb); clear HB; have HB := n_; clear n_; (try clear hb); have p6 : 0 ≤ (0 : Int) := (by omega); have q6 : 0 < a0.size := (by have : (0 : Int) < (a0.size : Int) := of_decide_eq_true aA; omega); have hx6 : ∀ h : 0 < a0.size, ((a0[0]'h).toNat : Int) = bt a0 0 := bt_at a0 0; clear p6; have qi6 : (0 < (a0.size : Int)) = True := eq_true (of_decide_eq_true aA); replace q6 := eq_true q6))
   go_ret
   exact ⟨eE, bH⟩
  rw [if_neg c5] at H
  exact absurd H (by simp)
 replace c4 := Bool.eq_false_iff.mpr c4
 subst c4
 rw [if_neg nF] at H
 obtain rfl := Option.some.inj H
 go_enter Try.func94, Try.ntmps94
 go_wp2_with (first | (refine gL 47 (some 6) Try.func47 #[.string a0] ?_; (with_reducible refine (impl_TermOk.calls k a0 false _ A3.out).mono ?_); rintro e w8 ⟨rfl, hb⟩; refine ⟨_, rfl, ?_⟩; have n_ := aM (below_step bH hb); clear HB; have HB := n_; clear n_; (try clear hb)))
 go_ret
 exact ⟨eE, bH⟩

/-! ### impl_sealed: function 80 -/
def impl_sealed.f (k : Nat) (a0 : ByteArray) : Option (Int × ByteArray × Bool) := (impl_isOf.f k a0 115).bind fun t415 => (if t415 = true then ((impl_varAt.f k a0 1).bind fun bt416 => (if 0 ≤ bt416.2 then (if bt416.2 ≤ (a0.size : Int) then (some (bt416.1, a0.extract (bt416.2 : Int).toNat a0.size, true)) else (none)) else (none))) else (some (0, (⟨#[]⟩ : ByteArray), false)))
set_option maxHeartbeats 8000000 in
set_option maxRecDepth 100000 in
theorem impl_sealed.calls (k : Nat) (a0 : ByteArray) (r1 : Int) (r2 : ByteArray) (r3 : Bool) (w : World) (h : impl_sealed.f k a0 = some (r1, r2, r3)) :
  Calls Try.prog 80 #[.string a0] w fun e w' => e = .returned (.tuple #[.int .i64 r1, .string r2, .bool r3]) ∧ Below w.heap.size w w' := by
 have HB := Aside0.mk (Below.refl w.heap.size w)
 have H := h
 clear h
 unfold impl_sealed.f at H
 obtain ⟨t415, A2, H⟩ := oB H
 by_cases c3 : t415 = true
 ·subst c3
  rw [if_pos rfl] at H
  obtain ⟨⟨t416, t417⟩, A4, H⟩ := oB H
  dsimp only at H
  by_cases c5 : 0 ≤ t417
  ·rw [if_pos c5] at H
   have c5b0 := eq_true c5
   have c5b1 := decide_eq_true c5
   clear c5
   by_cases c6 : t417 ≤ (a0.size : Int)
   ·rw [if_pos c6] at H
    have c6b0 := eq_true c6
    have c6b1 := decide_eq_true c6
    clear c6
    simp only [Option.some.injEq, Prod.mk.injEq] at H
    obtain ⟨rfl, rfl, rfl⟩ := H
    go_enter Try.func80, Try.ntmps80
    go_wp2_with (first | (go_at_call 94; (with_reducible refine (impl_isOf.calls k a0 115 true _ A2.out).mono ?_); rintro e w7 ⟨rfl, hb⟩; have n_ := aM (below_step bH hb); clear HB; have HB := n_; clear n_; (try clear hb)) | (go_at_call 93; (with_reducible refine (impl_varAt.calls k a0 1 t416 t417 _ A4.out).mono ?_); rintro e w8 ⟨rfl, hb⟩; have n_ := aM (below_step bH hb); clear HB; have HB := n_; clear n_; (try clear hb)))
    repeat (go_quiet (first | (go_at_call 94; (with_reducible refine (impl_isOf.calls k a0 115 true _ A2.out).mono ?_); rintro e w7 ⟨rfl, hb⟩; have n_ := aM (below_step bH hb); clear HB; have HB := n_; clear n_; (try clear hb)) | (go_at_call 93; (with_reducible refine (impl_varAt.calls k a0 1 t416 t417 _ A4.out).mono ?_); rintro e w8 ⟨rfl, hb⟩; have n_ := aM (below_step bH hb); clear HB; have HB := n_; clear n_; (try clear hb))); try go_wp2_with (first | (go_at_call 94; (with_reducible refine (impl_isOf.calls k a0 115 true _ A2.out).mono ?_); rintro e w7 ⟨rfl, hb⟩; have n_ := aM (below_step bH hb); clear HB; have HB := n_; clear n_; (try clear hb)) | (go_at_call 93; (with_reducible refine (impl_varAt.calls k a0 1 t416 t417 _ A4.out).mono ?_); rintro e w8 ⟨rfl, hb⟩; have n_ := aM (below_step bH hb); clear HB; have HB := n_; clear n_; (try clear hb))))
    go_ret3
    exact ⟨eE, bH⟩
   rw [if_neg c6] at H
   exact absurd H (by simp)
  rw [if_neg c5] at H
  exact absurd H (by simp)
 replace c3 := Bool.eq_false_iff.mpr c3
 subst c3
 rw [if_neg nF] at H
 simp only [Option.some.injEq, Prod.mk.injEq] at H
 obtain ⟨rfl, rfl, rfl⟩ := H
 go_enter Try.func80, Try.ntmps80
 go_wp2_with (first | (go_at_call 94; (with_reducible refine (impl_isOf.calls k a0 115 false _ A2.out).mono ?_); rintro e w9 ⟨rfl, hb⟩; have n_ := aM (below_step bH hb); clear HB; have HB := n_; clear n_; (try clear hb)))
 repeat (go_quiet (first | (go_at_call 94; (with_reducible refine (impl_isOf.calls k a0 115 false _ A2.out).mono ?_); rintro e w9 ⟨rfl, hb⟩; have n_ := aM (below_step bH hb); clear HB; have HB := n_; clear n_; (try clear hb))); try go_wp2_with (first | (go_at_call 94; (with_reducible refine (impl_isOf.calls k a0 115 false _ A2.out).mono ?_); rintro e w9 ⟨rfl, hb⟩; have n_ := aM (below_step bH hb); clear HB; have HB := n_; clear n_; (try clear hb))))
 go_ret3
 exact ⟨eE, bH⟩

/-! ### impl_ReadKey: function 81 -/
def impl_ReadKey.f (k : Nat) (a0 : ByteArray) : Option (Int × Bool) := (impl_isOf.f k a0 107).bind fun t418 => (if t418 = true then ((impl_varAt.f k a0 1).bind fun bt419 => (some (bt419.1, true))) else (some (0, false)))
set_option maxHeartbeats 8000000 in
set_option maxRecDepth 100000 in
theorem impl_ReadKey.calls (k : Nat) (a0 : ByteArray) (r1 : Int) (r2 : Bool) (w : World) (h : impl_ReadKey.f k a0 = some (r1, r2)) :
  Calls Try.prog 81 #[.string a0] w fun e w' => e = .returned (.tuple #[.int .i64 r1, .bool r2]) ∧ Below w.heap.size w w' := by
 have HB := Aside0.mk (Below.refl w.heap.size w)
 have H := h
 clear h
 unfold impl_ReadKey.f at H
 obtain ⟨t418, A2, H⟩ := oB H
 by_cases c3 : t418 = true
 ·subst c3
  rw [if_pos rfl] at H
  obtain ⟨⟨t419, t420⟩, A4, H⟩ := oB H
  dsimp only at H
  simp only [Option.some.injEq, Prod.mk.injEq] at H
  obtain ⟨rfl, rfl⟩ := H
  go_enter Try.func81, Try.ntmps81
  go_wp2_with (first | (refine gL 94 (some 7) Try.func94 #[.string a0, .int .u8 107] ?_; (with_reducible refine (impl_isOf.calls k a0 107 true _ A2.out).mono ?_); rintro e w5 ⟨rfl, hb⟩; refine ⟨_, rfl, ?_⟩; have n_ := aM (below_step bH hb); clear HB; have HB := n_; clear n_; (try clear hb)) | (refine gL 93 (some 11) Try.func93 #[.string a0, .int .i64 1] ?_; (with_reducible refine (impl_varAt.calls k a0 1 t419 t420 _ A4.out).mono ?_); rintro e w6 ⟨rfl, hb⟩; refine ⟨_, rfl, ?_⟩; have n_ := aM (below_step bH hb); clear HB; have HB := n_; clear n_; (try clear hb)))
  go_ret2
  exact ⟨eE, bH⟩
 replace c3 := Bool.eq_false_iff.mpr c3
 subst c3
 rw [if_neg nF] at H
 simp only [Option.some.injEq, Prod.mk.injEq] at H
 obtain ⟨rfl, rfl⟩ := H
 go_enter Try.func81, Try.ntmps81
 go_wp2_with (first | (refine gL 94 (some 7) Try.func94 #[.string a0, .int .u8 107] ?_; (with_reducible refine (impl_isOf.calls k a0 107 false _ A2.out).mono ?_); rintro e w7 ⟨rfl, hb⟩; refine ⟨_, rfl, ?_⟩; have n_ := aM (below_step bH hb); clear HB; have HB := n_; clear n_; (try clear hb)))
 go_ret2
 exact ⟨eE, bH⟩

/-! ### impl_Parts: function 82 -/
def impl_Parts.l0 : Nat → ByteArray → Int → List ByteArray → Int → Int → Option (List ByteArray × Bool)
 | 0, _, _, _, _, _ => none
 | k + 1, x0, x5, x6, x17, x18 => if x18 < x17 then ((impl_termAt.f k x0 x5 8).bind fun t427 => (if 0 ≤ x5 then (if x5 ≤ t427 then (if t427 ≤ (x0.size : Int) then (if x6.length < 8796093022208 then (impl_Parts.l0 k x0 t427 (x6 ++ [x0.extract (x5 : Int).toNat (t427 : Int).toNat]) x17 (wrap64 (x18 + 1))) else (none)) else (none)) else (none)) else (none))) else (some (x6, true))
def impl_Parts.f (k : Nat) (a0 : ByteArray) : Option (List ByteArray × Bool) := (impl_isOf.f k a0 108).bind fun t421 => (if t421 = true then ((impl_varAt.f k a0 1).bind fun bt422 => (impl_Parts.l0 k a0 bt422.2 (([] : List ByteArray)) bt422.1 0)) else (some (([] : List ByteArray), false)))
set_option maxHeartbeats 8000000 in
set_option maxRecDepth 100000 in
theorem impl_Parts.calls (k : Nat) (a0 : ByteArray) (r1 : List ByteArray) (r2 : Bool) (w : World) (h : impl_Parts.f k a0 = some (r1, r2)) :
  Calls Try.prog 82 #[.string a0] w fun e w' => ∃ v0_ : Value, e = .returned (.tuple #[v0_, .bool r2]) ∧ Kd.R Kd.string 9 w' w.heap.size (fun _ => True) v0_ r1 ∧ Below w.heap.size w w' := by
 have HB := Aside0.mk (Below.refl w.heap.size w)
 have H := h
 clear h
 unfold impl_Parts.f at H
 obtain ⟨t421, A2, H⟩ := oB H
 by_cases c3 : t421 = true
 ·subst c3
  rw [if_pos rfl] at H
  obtain ⟨⟨t422, t423⟩, A4, H⟩ := oB H
  dsimp only at H
  obtain ⟨y424, hy424⟩ : ∃ y_ : List ByteArray, y_ = (([] : List ByteArray)) := ⟨_, rfl⟩
  replace H : (impl_Parts.l0 k a0 t423 y424 t422 0) = some (r1, r2) := by first | (rw [hy424]; with_reducible exact H) | (have H2_ := (Option.bind_some _ _).symm.trans H; rw [hy424]; with_reducible exact H2_) | (have H2_ := (Option.bind_some _ _).symm.trans H; with_reducible exact H2_) | with_reducible exact H | (rw [hy424]; exact H) | exact H
  have Ny424 := Aside0.mk hy424
  clear hy424
  have H' := Aside0.mk H
  clear H
  go_enter Try.func82, Try.ntmps82
  go_wp2_with (first | (refine gL 94 (some 9) Try.func94 #[.string a0, .int .u8 108] ?_; (with_reducible refine (impl_isOf.calls k a0 108 true _ A2.out).mono ?_); rintro e w5 ⟨rfl, hb⟩; refine ⟨_, rfl, ?_⟩; have n_ := aM (below_step bH hb); clear HB; have HB := n_; clear n_; (try clear hb)) | (refine gL 93 (some 13) Try.func93 #[.string a0, .int .i64 1] ?_; (with_reducible refine (impl_varAt.calls k a0 1 t422 t423 _ A4.out).mono ?_); rintro e w6 ⟨rfl, hb⟩; refine ⟨_, rfl, ?_⟩; have n_ := aM (below_step bH hb); clear HB; have HB := n_; clear n_; (try clear hb)) | ((with_reducible refine gate_dst (N := 16) rfl ?_); refine Kd.R_lit Kd.string _ 9 ?hg (N := 16) ?hd (xs := ([] : List ByteArray)) (inner := []) (ok := fun _ => True) (okp := fun _ => True) ?hr ?hp (fun _ hk => hk) trivial (Below.refl _ _) (Nat.le_refl _) (by simp) ?_; (case hd => rfl); (case hg => rfl); (case hr => first | (go_simp; done) | (go_simp; rfl)); (case hp => exact (Reps.none _ _)); intro v425 w7 ho8 hb hg_ hnew_; clear hg_ hnew_; (first | rw [← Ny424.out] at ho8 | (simp only [Int.reduceToNat] at ho8; rw [← Ny424.out] at ho8)); have n_ := aT (Kd.R_lower ho8 (below_size bH)) (aM (below_step bH hb)); clear HB; obtain ⟨HO426, HB⟩ := n_; clear hb ho8))
  go_loopg [5, 6, 18] k (fun kq v5 v6 v18 w' => ∃ (x5_1 : Int) (x6_1 : List ByteArray) (x18_1 : Int), v5 = .int .i64 x5_1 ∧ v18 = .int .i64 x18_1 ∧ Aside0 (impl_Parts.l0 kq a0 x5_1 x6_1 t422 x18_1 = some (r1, r2)) ∧ Aside0 (kq ≤ k) ∧ Aside0 (Kd.R Kd.string 9 w' w.heap.size (fun _ => True) v6 x6_1) ∧ Aside0 (Below w.heap.size w w'))
  case atStart => exact ⟨(t423), (y424), (0), eX, eX, H', ⟨Nat.le_refl _⟩, ⟨(kR HO426.out)⟩, ⟨bH⟩⟩
  case round =>
   clear H'
   try clear c3
   obtain ⟨x5_1, x6_1, x18_1, rfl, rfl, HA, HK1, HO_6, HB⟩ := hrel
   cases gk with
   | zero => exact absurd HA.out (by simp [impl_Parts.l0])
   | succ k1 =>
    have H := HA.out
    clear HA
    simp only [impl_Parts.l0] at H
    by_cases c9 : x18_1 < t422
    ·rw [if_pos c9] at H
     have c9b0 := decide_eq_true c9
     clear c9
     obtain ⟨t427, A10, H⟩ := oB H
     by_cases c11 : 0 ≤ x5_1
     ·rw [if_pos c11] at H
      have c11b0 := eq_true c11
      have c11b1 := decide_eq_true c11
      clear c11
      by_cases c12 : x5_1 ≤ t427
      ·rw [if_pos c12] at H
       have c12b0 := eq_true c12
       have c12b1 := decide_eq_true c12
       clear c12
       by_cases c13 : t427 ≤ (a0.size : Int)
       ·rw [if_pos c13] at H
        have c13b0 := eq_true c13
        have c13b1 := decide_eq_true c13
        clear c13
        by_cases c14 : x6_1.length < 8796093022208
        ·rw [if_pos c14] at H
         have LMc14 := Aside0.mk c14
         clear c14
         obtain ⟨y428, hy428⟩ : ∃ y_ : List ByteArray, y_ = (x6_1 ++ [a0.extract (x5_1 : Int).toNat (t427 : Int).toNat]) := ⟨_, rfl⟩
         replace H : (impl_Parts.l0 k1 a0 t427 y428 t422 (wrap64 (x18_1 + 1))) = some (r1, r2) := by first | (rw [hy428]; with_reducible exact H) | (have H2_ := (Option.bind_some _ _).symm.trans H; rw [hy428]; with_reducible exact H2_) | (have H2_ := (Option.bind_some _ _).symm.trans H; with_reducible exact H2_) | with_reducible exact H | (rw [hy428]; exact H) | exact H
         have Ny428 := Aside0.mk hy428
         clear hy428
         have H' := Aside0.mk H
         clear H
         go_wp2_with (first | (refine gL 78 (some 22) Try.func78 #[.string a0, .int .i64 x5_1, .int .i64 8] ?_; (with_reducible refine (impl_termAt.calls k1 a0 x5_1 8 t427 _ A10.out).mono ?_); rintro e w15 ⟨rfl, hb⟩; refine ⟨_, rfl, ?_⟩; have n_ := aT (Kd.R_below (kR HO_6.out) hb) (aM (below_step bH hb)); clear HO_6 HB; obtain ⟨HO_6, HB⟩ := n_; (try clear hb)) | ((with_reducible refine gate_builtin (b := .append) (xs := #[.tmp 23, .tmp 28]) rfl ?_); at_builtin; refine Kd.R_append Kd.string (w0 := w) w.heap.size rfl (.tmp 23) (.tmp 28) 24 9 (.string ⟨#[]⟩) 16 rfl Try.underlying24 info9 rfl (by decide) (by omega) u6 x6_1 (a0.extract (x5_1 : Int).toNat (t427 : Int).toNat) [.string (a0.extract (x5_1 : Int).toNat (t427 : Int).toNat)] (fun _ => True) (fun _ => False) rfl rfl ?aP (fun _ hk => hk.elim) ?aF ?aO ?aB ?aS ?aL ?_; (case aP => exact rfl); (case aB => exact bH); (case aF => exact (fun _ _ => trivial)); (case aO => exact (kR HO_6.out)); (case aS => exact (below_size bH)); (case aL => have := LMc14.out; omega); intro v429 w16 ho hb hg hat; rw [← Ny428.out] at ho; have n_ := aT (hb) (aM (ho)); clear HB HO_6; obtain ⟨HB, HO430⟩ := n_; clear ho hb hg hat))
         go_roundg k1
         case measure => have := HK1.out; omega
         case rel => exact ⟨(t427), (y428), (wrap64 (x18_1 + 1)), eX, eX, H', ⟨(by have := HK1.out; omega)⟩, ⟨(kR HO430.out)⟩, ⟨bH⟩⟩
        rw [if_neg c14] at H
        exact absurd H (by simp)
       rw [if_neg c13] at H
       exact absurd H (by simp)
      rw [if_neg c12] at H
      exact absurd H (by simp)
     rw [if_neg c11] at H
     exact absurd H (by simp)
    rw [if_neg c9] at H
    have c9b0 := decide_eq_false c9
    clear c9
    simp only [Option.some.injEq, Prod.mk.injEq] at H
    obtain ⟨rfl, rfl⟩ := H
    go_wp2
    go_ret2
    exact ⟨_, eE, (kR HO_6.out), bH⟩
 replace c3 := Bool.eq_false_iff.mpr c3
 subst c3
 rw [if_neg nF] at H
 simp only [Option.some.injEq, Prod.mk.injEq] at H
 obtain ⟨rfl, rfl⟩ := H
 go_enter Try.func82, Try.ntmps82
 go_wp2_with (first | (refine gL 94 (some 9) Try.func94 #[.string a0, .int .u8 108] ?_; (with_reducible refine (impl_isOf.calls k a0 108 false _ A2.out).mono ?_); rintro e w17 ⟨rfl, hb⟩; refine ⟨_, rfl, ?_⟩; have n_ := aM (below_step bH hb); clear HB; have HB := n_; clear n_; (try clear hb)))
 go_ret2
 exact ⟨_, eE, (by first | exact Kd.R_nil _ _ _ _ _ | exact Kd.N_nil _ _ _ _ _ | exact Kd.V_nil _ _ _ _ _ | exact Kd.Q_nil _ _ _ _ _ | exact Kd.S_nil _ _ _ _ _), bH⟩

end Go.Proofs.Ythlpfghlildllaa.OFnKnown
-- wrapped
-- halved
-- squeezed
-- squeezed2
-- squeezed3
