-- walks of this claim, written by a program of mine
import Derived.Test.YthlpfghlildllaaOFnKnownx0
import Derived.Test.YthlpfghlildllaaOFnKnownx1
import Derived.Test.YthlpfghlildllaaOFnKnownx2
import Derived.Test.YthlpfghlildllaaOFnKnownx6
namespace Go.Proofs.Ythlpfghlildllaa.OFnKnown
open Go.RowKit Go.Proofs.Ythlpfghlildllaa.OWord Go.Proofs.YthlpfghlildllaaW.PrintWords Go.Proofs.YthlpfghlildllaaW.PrintLast Go.Proofs.YthlpfghlildllaaW.PrintMore
attribute [local go_sem] max2_int min2_int max_two min_two max_three min_three max_four min_four   -- for this text's walks alone
set_option linter.unusedVariables false
set_option linter.unusedSimpArgs false

/-! ### spec_KnownOk: function 11 -/
mutual
def spec_KnownOk.j0 : Nat → Bool → List ByteArray → List Int → Option (Bool)
 | 0, _, _, _ => none
 | k + 1, x14, x369000, x369001 => if x14 = true then (some false) else (spec_KnownOk.l0 k 0 x369000 x369001)
def spec_KnownOk.l0 : Nat → Int → List ByteArray → List Int → Option (Bool)
 | 0, _, _, _ => none
 | k + 1, x3, x369000, x369001 => if x3 < (x369000.length : Int) then (if 0 ≤ x3 then ((spec_TermOk.f k (rdOf ByteArray.empty x369000 x3)).bind fun t370 => (if t370 = true then (if x3 ≤ (x369000.length : Int) then ((spec_l3In.f k (x369000.take (x3 : Int).toNat) (rdOf ByteArray.empty x369000 x3)).bind fun t373 => (if t373 = true then (some false) else (spec_KnownOk.l0 k (wrap64 (x3 + 1)) x369000 x369001))) else (none)) else (some false))) else (none)) else (spec_KnownOk.l1 k 0 x369000 x369001)
def spec_KnownOk.l1 : Nat → Int → List ByteArray → List Int → Option (Bool)
 | 0, _, _, _ => none
 | k + 1, x4, x369000, x369001 => if x4 < (x369001.length : Int) then (if 0 ≤ x4 then ((spec_l1In.f (rd x369001 x4) 1 1000000).bind fun t375 => (if t375 = true then (if x4 > 0 then (if 0 ≤ (wrap64 (x4 - 1)) then (if (wrap64 (x4 - 1)) < (x369001.length : Int) then (if (rd x369001 (wrap64 (x4 - 1))) ≥ (rd x369001 x4) then (some false) else (spec_KnownOk.l1 k (wrap64 (x4 + 1)) x369000 x369001)) else (none)) else (none)) else (spec_KnownOk.l1 k (wrap64 (x4 + 1)) x369000 x369001)) else (some false))) else (none)) else (some true)
end
def spec_KnownOk.f (k : Nat) (l0_0 : List ByteArray) (l0_1 : List Int) : Option (Bool) := if (l0_0.length : Int) > 60 then (spec_KnownOk.j0 k true l0_0 l0_1) else (spec_KnownOk.j0 k (decide ((l0_1.length : Int) > 40)) l0_0 l0_1)
def spec_KnownOk.T6 : Bool × List (List Nat × List Nat) := (true, [([], []), ([0], [0]), ([], []), ([1, 2], [1, 2]), ([3], [3]), ([4], [4]), ([5], [5]), ([6, 5], [6]), ([7], [7]), ([8, 7], [7, 8]), ([7], [7]), ([9, 10, 7], [7, 9, 10]), ([7], [7]), ([12, 7], [7, 12]), ([7], [7]), ([13, 14, 7], [7, 13, 14]), ([15, 7], [7, 15]), ([11, 16, 7, 7], [7, 11, 16]), ([7, 17], [7, 17])])
def spec_KnownOk.B6 : List Nat := [0, 1, 0, 7, 15, 31, 63, 127, 255, 511, 255, 2047, 255, 4351, 255, 28927, 61695, 131071, 262143]
theorem spec_KnownOk.tab6 : rtab .any (opsOf Try.f11 6) = spec_KnownOk.T6 := by kernel_rfl
theorem spec_KnownOk.bits6 : waitsOk spec_KnownOk.T6.2 spec_KnownOk.B6 = true := by kernel_rfl
def spec_KnownOk.T11 : Bool × List (List Nat × List Nat) := (true, [([], []), ([0], [0]), ([], []), ([1, 2], [1, 2]), ([3], [3]), ([4], [4]), ([5], [5]), ([6, 5], [6]), ([7], [7]), ([8, 7], [7, 8]), ([9, 7, 7], [7, 9]), ([10], [10]), ([11, 10], [10, 11]), ([10], [10]), ([13, 10], [10, 13]), ([12, 14, 10], [10, 12, 14]), ([15, 10], [10, 15]), ([10], [10]), ([17, 10], [10, 17]), ([10], [10]), ([18, 19, 10], [10, 18, 19]), ([20, 10], [10, 20]), ([16, 21, 10], [10, 16, 21]), ([10, 22, 7], [7, 10, 22]), ([7, 23], [7, 23])])
def spec_KnownOk.B11 : List Nat := [0, 1, 0, 7, 15, 31, 63, 127, 255, 511, 1023, 2047, 4095, 2047, 10239, 32767, 65535, 2047, 133119, 2047, 919551, 1968127, 4194303, 8388607, 16777215]
theorem spec_KnownOk.tab11 : rtab .any (opsOf Try.f11 11) = spec_KnownOk.T11 := by kernel_rfl
theorem spec_KnownOk.bits11 : waitsOk spec_KnownOk.T11.2 spec_KnownOk.B11 = true := by kernel_rfl
set_option maxHeartbeats 8000000 in
set_option maxRecDepth 100000 in
theorem spec_KnownOk.calls (k : Nat) (A0_0 : Option Addr) (c0_0 : Nat) (l0_0 : List ByteArray) (A0_1 : Option Addr) (c0_1 : Nat) (l0_1 : List Int) (r : Bool) (w : World) (hr0_0 : Kd.C Kd.string w A0_0 l0_0.length l0_0) (hc0_0 : l0_0.length ≤ c0_0) (hr0_1 : Kd.C (Kd.int .i64) w A0_1 l0_1.length l0_1) (hc0_1 : l0_1.length ≤ c0_1) (h : spec_KnownOk.f k l0_0 l0_1 = some r) :
  Calls Try.prog 11 #[.agg #[.slice A0_0 l0_0.length c0_0, .slice A0_1 l0_1.length c0_1]] w fun e w' => e = .returned (.bool r) ∧ Below w.heap.size w w' := by
 have hu27 := Try.underlying27
 have HR0_0 := Aside0.mk hr0_0
 have HC0_0 := Aside0.mk hc0_0
 clear hr0_0 hc0_0
 have HR0_1 := Aside0.mk hr0_1
 have HC0_1 := Aside0.mk hc0_1
 clear hr0_1 hc0_1
 have HB := Aside0.mk (Below.refl w.heap.size w)
 have H := h
 clear h
 unfold spec_KnownOk.f at H
 have HC2 := Aside0.mk H
 clear H
 go_enter Try.func11, Try.ntmps11
 go_upto_region 1 with (first | ((with_reducible refine gate_dst (N := 1) rfl ?_); (try (refine gate_guard (by rfl) ?_; dsimp only)); refine box_event ?hg (N := 1) ?hd (cs := #[.slice A0_0 l0_0.length c0_0, .slice A0_1 l0_1.length c0_1]) (t := 27) ?hr ?_; (case hd => rfl); (case hg => rfl); (case hr => first | (go_simp; done) | (go_simp; rfl)); intro gb368 hg w3 hbox hb; have n_ := aT (below_step bH hb) (aT (hbox) (aT ((bZ hg : w.heap.size ≤ gb368)) (aM ((bZ hg : w.heap.size ≤ gb368))))); clear HB; obtain ⟨HB, BK368, GW368, GE368⟩ := n_; clear hb hbox hg))
 (try simp only [Act.put, List.setIfInBounds_toArray, List.set_cons_zero, List.set_cons_succ])
 go_cut [14] (fun v14 wc => ∃ (kq : Nat) (x14_1 : Bool), v14 = .bool x14_1 ∧ Aside0 (spec_KnownOk.j0 kq x14_1 l0_0 l0_1 = some r) ∧ Aside0 (kq ≤ k) ∧ Aside0 (wc.heap[gb368]? = some (.cells #[(.slice A0_0 l0_0.length c0_0), (.slice A0_1 l0_1.length c0_1)] 27 (0, 0))) ∧ Aside0 (Below w.heap.size w wc))
 case first =>
  have H := HC2.out
  clear HC2
  by_cases c4 : (l0_0.length : Int) > 60
  ·rw [if_pos c4] at H
   have c4b0 : decide (60 < (l0_0.length : Int)) = true := decide_eq_true c4
   have c4b1 : decide (60 < l0_0.length) = true := decide_eq_true (by omega)
   clear c4
   (first | rw [c4b0] | (simp only [i64_w, i32_w]; rw [c4b0]) | skip)
   have H' := Aside0.mk H
   clear H
   have hcz5_0 : w3.cell? ⟨gb368, 0, none⟩ = some (.slice A0_0 l0_0.length c0_0) := (blk_cell BK368.out 0).trans rfl
   have hcz5_1 : w3.cell? ⟨gb368, 1, none⟩ = some (.slice A0_1 l0_1.length c0_1) := (blk_cell BK368.out 1).trans rfl
   have hfz5_0 := blk_frozen BK368.out 0
   have hfz5_1 := blk_frozen BK368.out 1
   go_wp2
   go_meet
   case rel => exact ⟨_, (true), eX, H', ⟨(by first | omega | exact Nat.le_refl _)⟩, ⟨(kB BK368.out)⟩, ⟨bS⟩⟩
  rw [if_neg c4] at H
  have c4b0 : decide (60 < (l0_0.length : Int)) = false := decide_eq_false c4
  have c4b1 : decide (60 < l0_0.length) = false := decide_eq_false (by omega)
  clear c4
  (first | rw [c4b0] | (simp only [i64_w, i32_w]; rw [c4b0]) | skip)
  have H' := Aside0.mk H
  clear H
  have hcz6_0 : w3.cell? ⟨gb368, 0, none⟩ = some (.slice A0_0 l0_0.length c0_0) := (blk_cell BK368.out 0).trans rfl
  have hcz6_1 : w3.cell? ⟨gb368, 1, none⟩ = some (.slice A0_1 l0_1.length c0_1) := (blk_cell BK368.out 1).trans rfl
  have hfz6_0 := blk_frozen BK368.out 0
  have hfz6_1 := blk_frozen BK368.out 1
  go_wp2
  go_meet
  case rel => exact ⟨_, (decide ((l0_1.length : Int) > 40)), eX, H', ⟨(by first | omega | exact Nat.le_refl _)⟩, ⟨(kB BK368.out)⟩, ⟨bS⟩⟩
 case rest =>
  clear HC2
  obtain ⟨kq, x14_1, rfl, HA, HJ1, BK368, HB⟩ := hcut
  cases kq with
  | zero => exact absurd HA.out (by simp [spec_KnownOk.j0])
  | succ kj1 =>
   have H := HA.out
   clear HA
   simp only [spec_KnownOk.j0] at H
   by_cases c7 : x14_1 = true
   ·subst c7
    rw [if_pos rfl] at H
    obtain rfl := Option.some.inj H
    go_wp2
    go_ret
    exact ⟨eE, bS⟩
   replace c7 := Bool.eq_false_iff.mpr c7
   subst c7
   rw [if_neg nF] at H
   have H' := Aside0.mk H
   clear H
   go_wp2
   go_loopg [3] kj1 (fun kq v3 w' => ∃ (x3_2 : Int), v3 = .int .i64 x3_2 ∧ Aside0 (spec_KnownOk.l0 kq x3_2 l0_0 l0_1 = some r) ∧ Aside0 (kq ≤ kj1) ∧ Aside0 (w'.heap[gb368]? = some (.cells #[(.slice A0_0 l0_0.length c0_0), (.slice A0_1 l0_1.length c0_1)] 27 (0, 0))) ∧ Aside0 (Below w.heap.size w w'))
   case atStart => exact ⟨(0), eX, H', ⟨Nat.le_refl _⟩, ⟨(kB BK368.out)⟩, ⟨bS⟩⟩
   case round =>
    clear H'
    try clear c7
    obtain ⟨x3_2, rfl, HA, HK2, BK368, HB⟩ := hrel
    cases gk with
    | zero => exact absurd HA.out (by simp [spec_KnownOk.l0])
    | succ k2 =>
     have H := HA.out
     clear HA
     simp only [spec_KnownOk.l0] at H
     by_cases c8 : x3_2 < (l0_0.length : Int)
     ·rw [if_pos c8] at H
      have c8b0 := decide_eq_true c8
      clear c8
      by_cases c9 : 0 ≤ x3_2
      ·rw [if_pos c9] at H
       have c9b0 := decide_eq_true c9
       clear c9
       obtain ⟨t370, A10, H⟩ := oB H
       by_cases c11 : t370 = true
       ·subst c11
        rw [if_pos rfl] at H
        have c12b0 := eq_true (of_decide_eq_true aA : 0 ≤ x3_2)
        by_cases c13 : x3_2 ≤ (l0_0.length : Int)
        ·rw [if_pos c13] at H
         have c13b0 := eq_true c13
         have c13b1 := decide_eq_true c13
         clear c13
         obtain ⟨t373, A14, H⟩ := oB H
         by_cases c15 : t373 = true
         ·subst c15
          rw [if_pos rfl] at H
          obtain rfl := Option.some.inj H
          have hcz16_0 : wr.cell? ⟨gb368, 0, none⟩ = some (.slice A0_0 l0_0.length c0_0) := (blk_cell BK368.out 0).trans rfl
          have hcz16_1 : wr.cell? ⟨gb368, 1, none⟩ = some (.slice A0_1 l0_1.length c0_1) := (blk_cell BK368.out 1).trans rfl
          have hfz16_0 := blk_frozen BK368.out 0
          have hfz16_1 := blk_frozen BK368.out 1
          try go_wp2
          have n_ := aT (blk_drew BK368.out) (aM (below_drew1 HB.out))
          clear BK368 HB
          obtain ⟨BK368, HB⟩ := n_
          have p369 : 0 ≤ (x3_2 : Int) := of_decide_eq_true aA
          have q369 : x3_2 < (l0_0.length : Int) := of_decide_eq_true aA
          obtain ⟨ad369, e369, hx369_0⟩ := Kd.at_string HR0_0.out x3_2 p369 q369
          have hw369_0 := hx369_0
          cases e369
          replace hx369_0 := (HB.out.cell (World.block_lt_of_cell? w _ hx369_0)).trans hx369_0
          replace p369 := eq_true p369
          replace q369 := eq_true q369
          have p372 : 0 ≤ (x3_2 : Int) := of_decide_eq_true aA
          have q372 : x3_2 < (l0_0.length : Int) := of_decide_eq_true aA
          obtain ⟨ad372, e372, hx372_0⟩ := Kd.at_string HR0_0.out x3_2 p372 q372
          have hw372_0 := hx372_0
          obtain rfl : ad369 = ad372 := (by injection e372)
          replace hx372_0 := (HB.out.cell (World.block_lt_of_cell? w _ hx372_0)).trans hx372_0
          replace p372 := eq_true p372
          replace q372 := eq_true q372
          refine start_ (n := 19) (S := fun w' => w'.cell? ⟨gb368, 0, none⟩ = some (.slice (some ad369) l0_0.length c0_0) ∧ w'.cell? ⟨gb368, 1, none⟩ = some (.slice A0_1 l0_1.length c0_1) ∧ w'.cell? (ad369.add (x3_2).toNat) = some (.string (rdOf ByteArray.empty l0_0 x3_2)) ∧ w'.cell? (ad369.add (x3_2).toNat) = some (.string (rdOf ByteArray.empty l0_0 x3_2))) (ds := []) _ (by kernel_rfl) rfl rfl ⟨(blk_cell BK368.out 0).trans rfl, (blk_cell BK368.out 1).trans rfl, ((HB.out.cell (World.block_lt_of_cell? w _ hw369_0)).trans hw369_0), ((HB.out.cell (World.block_lt_of_cell? w _ hw372_0)).trans hw372_0)⟩ (fun hHeld => ?_); refine with_tabW spec_KnownOk.tab6 spec_KnownOk.bits6 (fun HT_ HW_ => ?_)
          generalize wr.drew = w17 at BK368 HB hx369_0 hx372_0 hHeld ⊢
          refine pU HT_ 0 (some 22) (mk 19 1) rfl rfl (h := ?_)
          refine pU HT_ 2 (some 24) (mk 19 5) rfl rfl (h := ?_)
          refine tU HT_ HW_ 1 (some 23) (mk 19 7) hHeld rfl rfl (by rintro w' ⟨s0, s1, s2, s3⟩; go_simp; with_reducible rfl) (h := ?_)
          refine pU HT_ 3 (some 25) (mk 19 15) rfl rfl (h := ?_)
          refine tU HT_ HW_ 4 (some 26) (mk 19 31) hHeld rfl rfl (by rintro w' ⟨s0, s1, s2, s3⟩; go_simp; with_reducible rfl) (h := ?_)
          refine one_ (i := 5) (N := some 27) (mk 19 63) rfl rfl (one_of HT_.out (by kernel_rfl)) (by decide) (fun K hK => ?_)
          refine goes_ Try.func12 (by kernel_rfl) rfl #[.string (rdOf ByteArray.empty l0_0 x3_2)] (by rfl) rfl rfl eA ?_
          with_reducible refine (spec_TermOk.calls k2 (rdOf ByteArray.empty l0_0 x3_2) true _ A10.out).mono ?_
          rintro e w18 ⟨rfl, hb⟩
          refine ⟨_, rfl, ?_⟩
          have n_ := aT (blk_below (kB BK368.out) hb) (aM (below_step bS hb))
          clear BK368 HB
          obtain ⟨BK368, HB⟩ := n_
          (try clear hb)
          obtain ⟨i019, hi019, _, hsz19, _⟩ := info_parts info9
          obtain ⟨hcut19, hA19, hC19⟩ := print_take_of (P := Try.prog) Value.string (⟨#[]⟩ : ByteArray) 24 9 .i64 Try.underlying24 hi019 hsz19 (some ad369) c0_0 l0_0 x3_2 (of_decide_eq_true aA) (of_decide_eq_true aA) HC0_0.out
          have HR371 := Aside0.mk (Kd.C_of_reads (h1 := fun _ => rfl) (hA19 _ (Kd.reads_of_C HR0_0.out)))
          have HC371 := Aside0.mk hC19
          clear hA19 hC19 hi019 hsz19
          refine hK.out _ _ ⟨(blk_cell BK368.out 0).trans rfl, (blk_cell BK368.out 1).trans rfl, ((HB.out.cell (World.block_lt_of_cell? w _ hw369_0)).trans hw369_0), ((HB.out.cell (World.block_lt_of_cell? w _ hw372_0)).trans hw372_0)⟩ (fun hHeld => ?_)
          clear hK K
          refine nO (some 27) (h := ?_)
          refine pU HT_ 6 (some 28) (mk 19 127) rfl rfl (h := ?_)
          refine pU HT_ 7 (some 29) (mk 19 255) rfl rfl (h := ?_)
          refine pU HT_ 8 (some 30) (mk 19 511) rfl rfl (h := ?_)
          refine pU HT_ 10 (some 32) (mk 19 1535) rfl rfl (h := ?_)
          refine pU HT_ 12 (some 34) (mk 19 5631) rfl rfl (h := ?_)
          refine pU HT_ 14 (some 36) (mk 19 22015) rfl rfl (h := ?_)
          refine tU HT_ HW_ 9 (some 31) (mk 19 22527) hHeld rfl rfl (by rintro w' ⟨s0, s1, s2, s3⟩; go_simp; with_reducible rfl) (h := ?_)
          refine pU HT_ 11 (some 33) (mk 19 24575) rfl rfl (h := ?_)
          refine tU HT_ HW_ 13 (some 35) (mk 19 32767) hHeld rfl rfl (by rintro w' ⟨s0, s1, s2, s3⟩; go_simp; with_reducible rfl) (h := ?_)
          refine pU HT_ 15 (some 37) (mk 19 65535) rfl rfl (h := ?_)
          refine tU HT_ HW_ 16 (some 38) (mk 19 131071) hHeld rfl rfl (by rintro w' ⟨s0, s1, s2, s3⟩; go_simp; with_reducible rfl) (h := ?_)
          refine one_ (i := 17) (N := some 39) (mk 19 262143) rfl rfl (one_of HT_.out (by kernel_rfl)) (by decide) (fun K hK => ?_)
          refine goes_ Try.func43 (by kernel_rfl) rfl #[.slice (some ad369) (l0_0.take (x3_2 : Int).toNat).length c0_0, .string (rdOf ByteArray.empty l0_0 x3_2)] (by rfl) rfl rfl (by (try simp only [List.map_toArray, List.map_cons, List.map_nil]); first | done | (rw [show (l0_0.take (x3_2 : Int).toNat).length = x3_2.toNat from (by rw [List.length_take]; have h_ : (x3_2 : Int) ≤ (l0_0.length : Int) := of_decide_eq_true aA; omega)] <;> rfl) | rfl | (simp only [List.length_drop, List.length_take]; rfl)) ?_
          with_reducible refine (spec_l3In.calls k2 _ _ (l0_0.take (x3_2 : Int).toNat) (rdOf ByteArray.empty l0_0 x3_2) true _ ?side1 ?side2 A14.out).mono ?_
          (case side1 => exact cA (Kd.C_below HR371.out HB.out))
          (case side2 => exact HC371.out)
          rintro e w' ⟨rfl, ⟨nd, rfl⟩⟩
          refine ⟨_, rfl, ?_⟩
          refine hK.out _ _ ⟨(blk_cell BK368.out 0).trans rfl, (blk_cell BK368.out 1).trans rfl, ((HB.out.cell (World.block_lt_of_cell? w _ hw369_0)).trans hw369_0), ((HB.out.cell (World.block_lt_of_cell? w _ hw372_0)).trans hw372_0)⟩ (fun hHeld => ?_)
          clear hK K
          refine nO (some 39) (h := ?_)
          refine pU HT_ 18 (some 40) (mk 19 524287) rfl rfl (h := ?_)
          refine done_ (done_of HT_.out (by kernel_rfl)) ?_
          try go_wp2
          go_ret
          exact ⟨eE, bS⟩
         replace c15 := Bool.eq_false_iff.mpr c15
         subst c15
         rw [if_neg nF] at H
         have H' := Aside0.mk H
         clear H
         have hcz20_0 : wr.cell? ⟨gb368, 0, none⟩ = some (.slice A0_0 l0_0.length c0_0) := (blk_cell BK368.out 0).trans rfl
         have hcz20_1 : wr.cell? ⟨gb368, 1, none⟩ = some (.slice A0_1 l0_1.length c0_1) := (blk_cell BK368.out 1).trans rfl
         have hfz20_0 := blk_frozen BK368.out 0
         have hfz20_1 := blk_frozen BK368.out 1
         try go_wp2
         have n_ := aT (blk_drew BK368.out) (aM (below_drew1 HB.out))
         clear BK368 HB
         obtain ⟨BK368, HB⟩ := n_
         have p369 : 0 ≤ (x3_2 : Int) := of_decide_eq_true aA
         have q369 : x3_2 < (l0_0.length : Int) := of_decide_eq_true aA
         obtain ⟨ad369, e369, hx369_0⟩ := Kd.at_string HR0_0.out x3_2 p369 q369
         have hw369_0 := hx369_0
         cases e369
         replace hx369_0 := (HB.out.cell (World.block_lt_of_cell? w _ hx369_0)).trans hx369_0
         replace p369 := eq_true p369
         replace q369 := eq_true q369
         have p372 : 0 ≤ (x3_2 : Int) := of_decide_eq_true aA
         have q372 : x3_2 < (l0_0.length : Int) := of_decide_eq_true aA
         obtain ⟨ad372, e372, hx372_0⟩ := Kd.at_string HR0_0.out x3_2 p372 q372
         have hw372_0 := hx372_0
         obtain rfl : ad369 = ad372 := (by injection e372)
         replace hx372_0 := (HB.out.cell (World.block_lt_of_cell? w _ hx372_0)).trans hx372_0
         replace p372 := eq_true p372
         replace q372 := eq_true q372
         refine start_ (n := 19) (S := fun w' => w'.cell? ⟨gb368, 0, none⟩ = some (.slice (some ad369) l0_0.length c0_0) ∧ w'.cell? ⟨gb368, 1, none⟩ = some (.slice A0_1 l0_1.length c0_1) ∧ w'.cell? (ad369.add (x3_2).toNat) = some (.string (rdOf ByteArray.empty l0_0 x3_2)) ∧ w'.cell? (ad369.add (x3_2).toNat) = some (.string (rdOf ByteArray.empty l0_0 x3_2))) (ds := []) _ (by kernel_rfl) rfl rfl ⟨(blk_cell BK368.out 0).trans rfl, (blk_cell BK368.out 1).trans rfl, ((HB.out.cell (World.block_lt_of_cell? w _ hw369_0)).trans hw369_0), ((HB.out.cell (World.block_lt_of_cell? w _ hw372_0)).trans hw372_0)⟩ (fun hHeld => ?_); refine with_tabW spec_KnownOk.tab6 spec_KnownOk.bits6 (fun HT_ HW_ => ?_)
         generalize wr.drew = w21 at BK368 HB hx369_0 hx372_0 hHeld ⊢
         refine pU HT_ 0 (some 22) (mk 19 1) rfl rfl (h := ?_)
         refine pU HT_ 2 (some 24) (mk 19 5) rfl rfl (h := ?_)
         refine tU HT_ HW_ 1 (some 23) (mk 19 7) hHeld rfl rfl (by rintro w' ⟨s0, s1, s2, s3⟩; go_simp; with_reducible rfl) (h := ?_)
         refine pU HT_ 3 (some 25) (mk 19 15) rfl rfl (h := ?_)
         refine tU HT_ HW_ 4 (some 26) (mk 19 31) hHeld rfl rfl (by rintro w' ⟨s0, s1, s2, s3⟩; go_simp; with_reducible rfl) (h := ?_)
         refine one_ (i := 5) (N := some 27) (mk 19 63) rfl rfl (one_of HT_.out (by kernel_rfl)) (by decide) (fun K hK => ?_)
         refine goes_ Try.func12 (by kernel_rfl) rfl #[.string (rdOf ByteArray.empty l0_0 x3_2)] (by rfl) rfl rfl eA ?_
         with_reducible refine (spec_TermOk.calls k2 (rdOf ByteArray.empty l0_0 x3_2) true _ A10.out).mono ?_
         rintro e w22 ⟨rfl, hb⟩
         refine ⟨_, rfl, ?_⟩
         have n_ := aT (blk_below (kB BK368.out) hb) (aM (below_step bS hb))
         clear BK368 HB
         obtain ⟨BK368, HB⟩ := n_
         (try clear hb)
         obtain ⟨i023, hi023, _, hsz23, _⟩ := info_parts info9
         obtain ⟨hcut23, hA23, hC23⟩ := print_take_of (P := Try.prog) Value.string (⟨#[]⟩ : ByteArray) 24 9 .i64 Try.underlying24 hi023 hsz23 (some ad369) c0_0 l0_0 x3_2 (of_decide_eq_true aA) (of_decide_eq_true aA) HC0_0.out
         have HR371 := Aside0.mk (Kd.C_of_reads (h1 := fun _ => rfl) (hA23 _ (Kd.reads_of_C HR0_0.out)))
         have HC371 := Aside0.mk hC23
         clear hA23 hC23 hi023 hsz23
         refine hK.out _ _ ⟨(blk_cell BK368.out 0).trans rfl, (blk_cell BK368.out 1).trans rfl, ((HB.out.cell (World.block_lt_of_cell? w _ hw369_0)).trans hw369_0), ((HB.out.cell (World.block_lt_of_cell? w _ hw372_0)).trans hw372_0)⟩ (fun hHeld => ?_)
         clear hK K
         refine nO (some 27) (h := ?_)
         refine pU HT_ 6 (some 28) (mk 19 127) rfl rfl (h := ?_)
         refine pU HT_ 7 (some 29) (mk 19 255) rfl rfl (h := ?_)
         refine pU HT_ 8 (some 30) (mk 19 511) rfl rfl (h := ?_)
         refine pU HT_ 10 (some 32) (mk 19 1535) rfl rfl (h := ?_)
         refine pU HT_ 12 (some 34) (mk 19 5631) rfl rfl (h := ?_)
         refine pU HT_ 14 (some 36) (mk 19 22015) rfl rfl (h := ?_)
         refine tU HT_ HW_ 9 (some 31) (mk 19 22527) hHeld rfl rfl (by rintro w' ⟨s0, s1, s2, s3⟩; go_simp; with_reducible rfl) (h := ?_)
         refine pU HT_ 11 (some 33) (mk 19 24575) rfl rfl (h := ?_)
         refine tU HT_ HW_ 13 (some 35) (mk 19 32767) hHeld rfl rfl (by rintro w' ⟨s0, s1, s2, s3⟩; go_simp; with_reducible rfl) (h := ?_)
         refine pU HT_ 15 (some 37) (mk 19 65535) rfl rfl (h := ?_)
         refine tU HT_ HW_ 16 (some 38) (mk 19 131071) hHeld rfl rfl (by rintro w' ⟨s0, s1, s2, s3⟩; go_simp; with_reducible rfl) (h := ?_)
         refine one_ (i := 17) (N := some 39) (mk 19 262143) rfl rfl (one_of HT_.out (by kernel_rfl)) (by decide) (fun K hK => ?_)
         refine goes_ Try.func43 (by kernel_rfl) rfl #[.slice (some ad369) (l0_0.take (x3_2 : Int).toNat).length c0_0, .string (rdOf ByteArray.empty l0_0 x3_2)] (by rfl) rfl rfl (by (try simp only [List.map_toArray, List.map_cons, List.map_nil]); first | done | (rw [show (l0_0.take (x3_2 : Int).toNat).length = x3_2.toNat from (by rw [List.length_take]; have h_ : (x3_2 : Int) ≤ (l0_0.length : Int) := of_decide_eq_true aA; omega)] <;> rfl) | rfl | (simp only [List.length_drop, List.length_take]; rfl)) ?_
         with_reducible refine (spec_l3In.calls k2 _ _ (l0_0.take (x3_2 : Int).toNat) (rdOf ByteArray.empty l0_0 x3_2) false _ ?side1 ?side2 A14.out).mono ?_
         (case side1 => exact cA (Kd.C_below HR371.out HB.out))
         (case side2 => exact HC371.out)
         rintro e w' ⟨rfl, ⟨nd, rfl⟩⟩
         refine ⟨_, rfl, ?_⟩
         refine hK.out _ _ ⟨(blk_cell BK368.out 0).trans rfl, (blk_cell BK368.out 1).trans rfl, ((HB.out.cell (World.block_lt_of_cell? w _ hw369_0)).trans hw369_0), ((HB.out.cell (World.block_lt_of_cell? w _ hw372_0)).trans hw372_0)⟩ (fun hHeld => ?_)
         clear hK K
         refine nO (some 39) (h := ?_)
         refine pU HT_ 18 (some 40) (mk 19 524287) rfl rfl (h := ?_)
         refine done_ (done_of HT_.out (by kernel_rfl)) ?_
         try go_wp2
         go_roundg k2
         case measure => have := HJ1.out; have := HK2.out; omega
         case rel => exact ⟨(wrap64 (x3_2 + 1)), eX, H', ⟨(by have := HJ1.out; have := HK2.out; omega)⟩, ⟨(kB BK368.out)⟩, ⟨bS⟩⟩
        rw [if_neg c13] at H
        exact absurd H (by simp)
       replace c11 := Bool.eq_false_iff.mpr c11
       subst c11
       rw [if_neg nF] at H
       obtain rfl := Option.some.inj H
       have hcz24_0 : wr.cell? ⟨gb368, 0, none⟩ = some (.slice A0_0 l0_0.length c0_0) := (blk_cell BK368.out 0).trans rfl
       have hcz24_1 : wr.cell? ⟨gb368, 1, none⟩ = some (.slice A0_1 l0_1.length c0_1) := (blk_cell BK368.out 1).trans rfl
       have hfz24_0 := blk_frozen BK368.out 0
       have hfz24_1 := blk_frozen BK368.out 1
       try go_wp2
       have n_ := aT (blk_drew BK368.out) (aM (below_drew1 HB.out))
       clear BK368 HB
       obtain ⟨BK368, HB⟩ := n_
       have p369 : 0 ≤ (x3_2 : Int) := of_decide_eq_true aA
       have q369 : x3_2 < (l0_0.length : Int) := of_decide_eq_true aA
       obtain ⟨ad369, e369, hx369_0⟩ := Kd.at_string HR0_0.out x3_2 p369 q369
       have hw369_0 := hx369_0
       cases e369
       replace hx369_0 := (HB.out.cell (World.block_lt_of_cell? w _ hx369_0)).trans hx369_0
       replace p369 := eq_true p369
       replace q369 := eq_true q369
       refine start_ (n := 19) (S := fun w' => w'.cell? ⟨gb368, 0, none⟩ = some (.slice (some ad369) l0_0.length c0_0) ∧ w'.cell? ⟨gb368, 1, none⟩ = some (.slice A0_1 l0_1.length c0_1) ∧ w'.cell? (ad369.add (x3_2).toNat) = some (.string (rdOf ByteArray.empty l0_0 x3_2))) (ds := []) _ (by kernel_rfl) rfl rfl ⟨(blk_cell BK368.out 0).trans rfl, (blk_cell BK368.out 1).trans rfl, ((HB.out.cell (World.block_lt_of_cell? w _ hw369_0)).trans hw369_0)⟩ (fun hHeld => ?_); refine with_tabW spec_KnownOk.tab6 spec_KnownOk.bits6 (fun HT_ HW_ => ?_)
       generalize wr.drew = w25 at BK368 HB hx369_0 hHeld ⊢
       refine pU HT_ 0 (some 22) (mk 19 1) rfl rfl (h := ?_)
       refine pU HT_ 2 (some 24) (mk 19 5) rfl rfl (h := ?_)
       refine tU HT_ HW_ 1 (some 23) (mk 19 7) hHeld rfl rfl (by rintro w' ⟨s0, s1, s2⟩; go_simp; with_reducible rfl) (h := ?_)
       refine pU HT_ 3 (some 25) (mk 19 15) rfl rfl (h := ?_)
       refine tU HT_ HW_ 4 (some 26) (mk 19 31) hHeld rfl rfl (by rintro w' ⟨s0, s1, s2⟩; go_simp; with_reducible rfl) (h := ?_)
       refine one_ (i := 5) (N := some 27) (mk 19 63) rfl rfl (one_of HT_.out (by kernel_rfl)) (by decide) (fun K hK => ?_)
       refine goes_ Try.func12 (by kernel_rfl) rfl #[.string (rdOf ByteArray.empty l0_0 x3_2)] (by rfl) rfl rfl eA ?_
       with_reducible refine (spec_TermOk.calls k2 (rdOf ByteArray.empty l0_0 x3_2) false _ A10.out).mono ?_
       rintro e w26 ⟨rfl, hb⟩
       refine ⟨_, rfl, ?_⟩
       have n_ := aT (blk_below (kB BK368.out) hb) (aM (below_step bS hb))
       clear BK368 HB
       obtain ⟨BK368, HB⟩ := n_
       (try clear hb)
       refine hK.out _ _ ⟨(blk_cell BK368.out 0).trans rfl, (blk_cell BK368.out 1).trans rfl, ((HB.out.cell (World.block_lt_of_cell? w _ hw369_0)).trans hw369_0)⟩ (fun hHeld => ?_)
       clear hK K
       refine nO (some 27) (h := ?_)
       refine pU HT_ 6 (some 28) (mk 19 127) rfl rfl (h := ?_)
       refine pU HT_ 7 (some 29) (mk 19 255) rfl rfl (h := ?_)
       refine pN HT_ 8 (some 30) (mk 19 511) rfl rfl (h := ?_)
       refine pN HT_ 9 (some 31) (mk 19 1023) rfl rfl (h := ?_)
       refine pN HT_ 10 (some 32) (mk 19 2047) rfl rfl (h := ?_)
       refine pN HT_ 11 (some 33) (mk 19 4095) rfl rfl (h := ?_)
       refine pN HT_ 12 (some 34) (mk 19 8191) rfl rfl (h := ?_)
       refine pN HT_ 13 (some 35) (mk 19 16383) rfl rfl (h := ?_)
       refine pN HT_ 14 (some 36) (mk 19 32767) rfl rfl (h := ?_)
       refine pN HT_ 15 (some 37) (mk 19 65535) rfl rfl (h := ?_)
       refine pN HT_ 16 (some 38) (mk 19 131071) rfl rfl (h := ?_)
       refine pN HT_ 17 (some 39) (mk 19 262143) rfl rfl (h := ?_)
       refine pU HT_ 18 (some 40) (mk 19 524287) rfl rfl (h := ?_)
       refine done_ (done_of HT_.out (by kernel_rfl)) ?_
       try go_wp2
       go_ret
       exact ⟨eE, bS⟩
      rw [if_neg c9] at H
      exact absurd H (by simp)
     rw [if_neg c8] at H
     have c8b0 := decide_eq_false c8
     clear c8
     have H' := Aside0.mk H
     clear H
     have hcz27_0 : wr.cell? ⟨gb368, 0, none⟩ = some (.slice A0_0 l0_0.length c0_0) := (blk_cell BK368.out 0).trans rfl
     have hcz27_1 : wr.cell? ⟨gb368, 1, none⟩ = some (.slice A0_1 l0_1.length c0_1) := (blk_cell BK368.out 1).trans rfl
     have hfz27_0 := blk_frozen BK368.out 0
     have hfz27_1 := blk_frozen BK368.out 1
     go_wp2
     go_loopg [4] k2 (fun kq v4 w' => ∃ (x4_3 : Int), v4 = .int .i64 x4_3 ∧ Aside0 (spec_KnownOk.l1 kq x4_3 l0_0 l0_1 = some r) ∧ Aside0 (kq ≤ k2) ∧ Aside0 (w'.heap[gb368]? = some (.cells #[(.slice A0_0 l0_0.length c0_0), (.slice A0_1 l0_1.length c0_1)] 27 (0, 0))) ∧ Aside0 (Below w.heap.size w w'))
     case atStart => exact ⟨(0), eX, H', ⟨Nat.le_refl _⟩, ⟨(kB BK368.out)⟩, ⟨bS⟩⟩
     case round =>
      clear H'
      try clear c8
      try clear c8b0
      try clear hcz27_0
      try clear hcz27_1
      try clear hfz27_0
      try clear hfz27_1
      obtain ⟨x4_3, rfl, HA, HK3, BK368, HB⟩ := hrel
      cases gk with
      | zero => exact absurd HA.out (by simp [spec_KnownOk.l1])
      | succ k3 =>
       have H := HA.out
       clear HA
       simp only [spec_KnownOk.l1] at H
       by_cases c28 : x4_3 < (l0_1.length : Int)
       ·rw [if_pos c28] at H
        have c28b0 := decide_eq_true c28
        clear c28
        by_cases c29 : 0 ≤ x4_3
        ·rw [if_pos c29] at H
         have c29b0 := decide_eq_true c29
         clear c29
         obtain ⟨t375, A30, H⟩ := oB H
         by_cases c31 : t375 = true
         ·subst c31
          rw [if_pos rfl] at H
          by_cases c32 : x4_3 > 0
          ·rw [if_pos c32] at H
           have c32b0 : decide (0 < x4_3) = true := decide_eq_true c32
           clear c32
           obtain ⟨ji33, hji33⟩ : ∃ j_ : Int, (wrap64 (x4_3 - 1)) = j_ := ⟨_, rfl⟩
           replace H : (if 0 ≤ (ji33) then (if (ji33) < (l0_1.length : Int) then (if (rd l0_1 (ji33)) ≥ (rd l0_1 x4_3) then (some false) else (spec_KnownOk.l1 k3 (wrap64 (x4_3 + 1)) l0_0 l0_1)) else (none)) else (none)) = some r := by first | (rw [hji33] at H; exact H) | (simp only [hji33] at H ⊢; exact H)
           (try rw [hji33] at A30)
           have hji33w : (IntKind.i64.wrap (x4_3 - 1)) = ji33 := (i64_w _).trans hji33
           by_cases c34 : 0 ≤ (ji33)
           ·rw [if_pos c34] at H
            have c34b0 := decide_eq_true c34
            clear c34
            by_cases c35 : (ji33) < (l0_1.length : Int)
            ·rw [if_pos c35] at H
             have c35b0 := decide_eq_true c35
             clear c35
             by_cases c36 : (rd l0_1 (ji33)) ≥ (rd l0_1 x4_3)
             ·rw [if_pos c36] at H
              have c36b0 : decide ((rd l0_1 x4_3) ≤ (rd l0_1 (ji33))) = true := decide_eq_true c36
              clear c36
              obtain rfl := Option.some.inj H
              have hcz37_0 : wr.cell? ⟨gb368, 0, none⟩ = some (.slice A0_0 l0_0.length c0_0) := (blk_cell BK368.out 0).trans rfl
              have hcz37_1 : wr.cell? ⟨gb368, 1, none⟩ = some (.slice A0_1 l0_1.length c0_1) := (blk_cell BK368.out 1).trans rfl
              have hfz37_0 := blk_frozen BK368.out 0
              have hfz37_1 := blk_frozen BK368.out 1
              try go_wp2
              have n_ := aT (blk_drew BK368.out) (aM (below_drew1 HB.out))
              clear BK368 HB
              obtain ⟨BK368, HB⟩ := n_
              have p374 : 0 ≤ (x4_3 : Int) := of_decide_eq_true aA
              have q374 : x4_3 < (l0_1.length : Int) := of_decide_eq_true aA
              obtain ⟨ad374, e374, hx374_0⟩ := Kd.at_int HR0_1.out x4_3 p374 q374
              have hw374_0 := hx374_0
              cases e374
              replace hx374_0 := (HB.out.cell (World.block_lt_of_cell? w _ hx374_0)).trans hx374_0
              replace p374 := eq_true p374
              replace q374 := eq_true q374
              have p376 : 0 ≤ ((ji33) : Int) := of_decide_eq_true aA
              have q376 : (ji33) < (l0_1.length : Int) := of_decide_eq_true aA
              obtain ⟨ad376, e376, hx376_0⟩ := Kd.at_int HR0_1.out (ji33) p376 q376
              have hw376_0 := hx376_0
              obtain rfl : ad374 = ad376 := (by injection e376)
              replace hx376_0 := (HB.out.cell (World.block_lt_of_cell? w _ hx376_0)).trans hx376_0
              replace p376 := eq_true p376
              replace q376 := eq_true q376
              have p377 : 0 ≤ (x4_3 : Int) := of_decide_eq_true aA
              have q377 : x4_3 < (l0_1.length : Int) := of_decide_eq_true aA
              obtain ⟨ad377, e377, hx377_0⟩ := Kd.at_int HR0_1.out x4_3 p377 q377
              have hw377_0 := hx377_0
              obtain rfl : ad374 = ad377 := (by injection e377)
              replace hx377_0 := (HB.out.cell (World.block_lt_of_cell? w _ hx377_0)).trans hx377_0
              replace p377 := eq_true p377
              replace q377 := eq_true q377
              refine start_ (n := 25) (S := fun w' => w'.cell? ⟨gb368, 0, none⟩ = some (.slice A0_0 l0_0.length c0_0) ∧ w'.cell? ⟨gb368, 1, none⟩ = some (.slice (some ad374) l0_1.length c0_1) ∧ w'.cell? (ad374.add (x4_3).toNat) = some (.int .i64 (rd l0_1 x4_3)) ∧ w'.cell? (ad374.add ((ji33)).toNat) = some (.int .i64 (rd l0_1 (ji33))) ∧ w'.cell? (ad374.add (x4_3).toNat) = some (.int .i64 (rd l0_1 x4_3))) (ds := []) _ (by kernel_rfl) rfl rfl ⟨(blk_cell BK368.out 0).trans rfl, (blk_cell BK368.out 1).trans rfl, ((HB.out.cell (World.block_lt_of_cell? w _ hw374_0)).trans hw374_0), ((HB.out.cell (World.block_lt_of_cell? w _ hw376_0)).trans hw376_0), ((HB.out.cell (World.block_lt_of_cell? w _ hw377_0)).trans hw377_0)⟩ (fun hHeld => ?_); refine with_tabW spec_KnownOk.tab11 spec_KnownOk.bits11 (fun HT_ HW_ => ?_)
              generalize wr.drew = w38 at BK368 HB hx374_0 hx376_0 hx377_0 hHeld ⊢
              refine pU HT_ 0 (some 48) (mk 25 1) rfl rfl (h := ?_)
              refine pU HT_ 2 (some 50) (mk 25 5) rfl rfl (h := ?_)
              refine tU HT_ HW_ 1 (some 49) (mk 25 7) hHeld rfl rfl (by rintro w' ⟨s0, s1, s2, s3, s4⟩; go_simp; with_reducible rfl) (h := ?_)
              refine pU HT_ 3 (some 51) (mk 25 15) rfl rfl (h := ?_)
              refine tU HT_ HW_ 4 (some 52) (mk 25 31) hHeld rfl rfl (by rintro w' ⟨s0, s1, s2, s3, s4⟩; go_simp; with_reducible rfl) (h := ?_)
              refine one_ (i := 5) (N := some 53) (mk 25 63) rfl rfl (one_of HT_.out (by kernel_rfl)) (by decide) (fun K hK => ?_)
              refine goes_ Try.func44 (by kernel_rfl) rfl #[.int .i64 (rd l0_1 x4_3), .int .i64 1, .int .i64 1000000] (by rfl) rfl rfl eA ?_
              with_reducible refine (spec_l1In.calls (rd l0_1 x4_3) 1 1000000 true _ A30.out).mono ?_
              rintro e w' ⟨rfl, ⟨nd, rfl⟩⟩
              refine ⟨_, rfl, ?_⟩
              refine hK.out _ _ ⟨(blk_cell BK368.out 0).trans rfl, (blk_cell BK368.out 1).trans rfl, ((HB.out.cell (World.block_lt_of_cell? w _ hw374_0)).trans hw374_0), ((HB.out.cell (World.block_lt_of_cell? w _ hw376_0)).trans hw376_0), ((HB.out.cell (World.block_lt_of_cell? w _ hw377_0)).trans hw377_0)⟩ (fun hHeld => ?_)
              clear hK K
              refine nO (some 53) (h := ?_)
              refine pU HT_ 6 (some 54) (mk 25 127) rfl rfl (h := ?_)
              refine pU HT_ 7 (some 55) (mk 25 255) rfl rfl (h := ?_)
              refine pU HT_ 8 (some 56) (mk 25 511) rfl rfl (h := ?_)
              refine pU HT_ 9 (some 57) (mk 25 1023) rfl rfl (h := ?_)
              refine pU HT_ 10 (some 58) (mk 25 2047) rfl rfl (h := ?_)
              refine pU HT_ 11 (some 59) (mk 25 4095) rfl rfl (h := ?_)
              refine pU HT_ 13 (some 61) (mk 25 12287) rfl rfl (h := ?_)
              refine pU HT_ 14 (some 62) (mk 25 28671) rfl rfl (h := ?_)
              refine pU HT_ 17 (some 65) (mk 25 159743) rfl rfl (h := ?_)
              refine pU HT_ 19 (some 67) (mk 25 684031) rfl rfl (h := ?_)
              refine tU HT_ HW_ 12 (some 60) (mk 25 688127) hHeld rfl rfl (by rintro w' ⟨s0, s1, s2, s3, s4⟩; go_simp; with_reducible rfl) (h := ?_)
              refine pU HT_ 15 (some 63) (mk 25 720895) rfl rfl (h := ?_)
              refine tU HT_ HW_ 16 (some 64) (mk 25 786431) hHeld rfl rfl (by rintro w' ⟨s0, s1, s2, s3, s4⟩; go_simp; with_reducible rfl) (h := ?_)
              refine tU HT_ HW_ 18 (some 66) (mk 25 1048575) hHeld rfl rfl (by rintro w' ⟨s0, s1, s2, s3, s4⟩; go_simp; with_reducible rfl) (h := ?_)
              refine pU HT_ 20 (some 68) (mk 25 2097151) rfl rfl (h := ?_)
              refine tU HT_ HW_ 21 (some 69) (mk 25 4194303) hHeld rfl rfl (by rintro w' ⟨s0, s1, s2, s3, s4⟩; go_simp; with_reducible rfl) (h := ?_)
              refine pU HT_ 22 (some 70) (mk 25 8388607) rfl rfl (h := ?_)
              refine pU HT_ 23 (some 71) (mk 25 16777215) rfl rfl (h := ?_)
              refine pU HT_ 24 (some 72) (mk 25 33554431) rfl rfl (h := ?_)
              refine done_ (done_of HT_.out (by kernel_rfl)) ?_
              try go_wp2
              go_ret
              exact ⟨(by first | rfl | (simp [errW_none, errW_some] <;> rfl) | (simp only [← hji33]; first | rfl | (simp [errW_none, errW_some] <;> rfl)) | (simp [*, errW_none, errW_some] <;> rfl)), bS⟩
             rw [if_neg c36] at H
             have c36b0 : decide ((rd l0_1 x4_3) ≤ (rd l0_1 (ji33))) = false := decide_eq_false c36
             clear c36
             have H' := Aside0.mk H
             clear H
             have hcz39_0 : wr.cell? ⟨gb368, 0, none⟩ = some (.slice A0_0 l0_0.length c0_0) := (blk_cell BK368.out 0).trans rfl
             have hcz39_1 : wr.cell? ⟨gb368, 1, none⟩ = some (.slice A0_1 l0_1.length c0_1) := (blk_cell BK368.out 1).trans rfl
             have hfz39_0 := blk_frozen BK368.out 0
             have hfz39_1 := blk_frozen BK368.out 1
             try go_wp2
             have n_ := aT (blk_drew BK368.out) (aM (below_drew1 HB.out))
             clear BK368 HB
             obtain ⟨BK368, HB⟩ := n_
             have p374 : 0 ≤ (x4_3 : Int) := of_decide_eq_true aA
             have q374 : x4_3 < (l0_1.length : Int) := of_decide_eq_true aA
             obtain ⟨ad374, e374, hx374_0⟩ := Kd.at_int HR0_1.out x4_3 p374 q374
             have hw374_0 := hx374_0
             cases e374
             replace hx374_0 := (HB.out.cell (World.block_lt_of_cell? w _ hx374_0)).trans hx374_0
             replace p374 := eq_true p374
             replace q374 := eq_true q374
             have p376 : 0 ≤ ((ji33) : Int) := of_decide_eq_true aA
             have q376 : (ji33) < (l0_1.length : Int) := of_decide_eq_true aA
             obtain ⟨ad376, e376, hx376_0⟩ := Kd.at_int HR0_1.out (ji33) p376 q376
             have hw376_0 := hx376_0
             obtain rfl : ad374 = ad376 := (by injection e376)
             replace hx376_0 := (HB.out.cell (World.block_lt_of_cell? w _ hx376_0)).trans hx376_0
             replace p376 := eq_true p376
             replace q376 := eq_true q376
             have p377 : 0 ≤ (x4_3 : Int) := of_decide_eq_true aA
             have q377 : x4_3 < (l0_1.length : Int) := of_decide_eq_true aA
             obtain ⟨ad377, e377, hx377_0⟩ := Kd.at_int HR0_1.out x4_3 p377 q377
             have hw377_0 := hx377_0
             obtain rfl : ad374 = ad377 := (by injection e377)
             replace hx377_0 := (HB.out.cell (World.block_lt_of_cell? w _ hx377_0)).trans hx377_0
             replace p377 := eq_true p377
             replace q377 := eq_true q377
             refine start_ (n := 25) (S := fun w' => w'.cell? ⟨gb368, 0, none⟩ = some (.slice A0_0 l0_0.length c0_0) ∧ w'.cell? ⟨gb368, 1, none⟩ = some (.slice (some ad374) l0_1.length c0_1) ∧ w'.cell? (ad374.add (x4_3).toNat) = some (.int .i64 (rd l0_1 x4_3)) ∧ w'.cell? (ad374.add ((ji33)).toNat) = some (.int .i64 (rd l0_1 (ji33))) ∧ w'.cell? (ad374.add (x4_3).toNat) = some (.int .i64 (rd l0_1 x4_3))) (ds := []) _ (by kernel_rfl) rfl rfl ⟨(blk_cell BK368.out 0).trans rfl, (blk_cell BK368.out 1).trans rfl, ((HB.out.cell (World.block_lt_of_cell? w _ hw374_0)).trans hw374_0), ((HB.out.cell (World.block_lt_of_cell? w _ hw376_0)).trans hw376_0), ((HB.out.cell (World.block_lt_of_cell? w _ hw377_0)).trans hw377_0)⟩ (fun hHeld => ?_); refine with_tabW spec_KnownOk.tab11 spec_KnownOk.bits11 (fun HT_ HW_ => ?_)
             generalize wr.drew = w40 at BK368 HB hx374_0 hx376_0 hx377_0 hHeld ⊢
             refine pU HT_ 0 (some 48) (mk 25 1) rfl rfl (h := ?_)
             refine pU HT_ 2 (some 50) (mk 25 5) rfl rfl (h := ?_)
             refine tU HT_ HW_ 1 (some 49) (mk 25 7) hHeld rfl rfl (by rintro w' ⟨s0, s1, s2, s3, s4⟩; go_simp; with_reducible rfl) (h := ?_)
             refine pU HT_ 3 (some 51) (mk 25 15) rfl rfl (h := ?_)
             refine tU HT_ HW_ 4 (some 52) (mk 25 31) hHeld rfl rfl (by rintro w' ⟨s0, s1, s2, s3, s4⟩; go_simp; with_reducible rfl) (h := ?_)
             refine one_ (i := 5) (N := some 53) (mk 25 63) rfl rfl (one_of HT_.out (by kernel_rfl)) (by decide) (fun K hK => ?_)
             refine goes_ Try.func44 (by kernel_rfl) rfl #[.int .i64 (rd l0_1 x4_3), .int .i64 1, .int .i64 1000000] (by rfl) rfl rfl eA ?_
             with_reducible refine (spec_l1In.calls (rd l0_1 x4_3) 1 1000000 true _ A30.out).mono ?_
             rintro e w' ⟨rfl, ⟨nd, rfl⟩⟩
             refine ⟨_, rfl, ?_⟩
             refine hK.out _ _ ⟨(blk_cell BK368.out 0).trans rfl, (blk_cell BK368.out 1).trans rfl, ((HB.out.cell (World.block_lt_of_cell? w _ hw374_0)).trans hw374_0), ((HB.out.cell (World.block_lt_of_cell? w _ hw376_0)).trans hw376_0), ((HB.out.cell (World.block_lt_of_cell? w _ hw377_0)).trans hw377_0)⟩ (fun hHeld => ?_)
             clear hK K
             refine nO (some 53) (h := ?_)
             refine pU HT_ 6 (some 54) (mk 25 127) rfl rfl (h := ?_)
             refine pU HT_ 7 (some 55) (mk 25 255) rfl rfl (h := ?_)
             refine pU HT_ 8 (some 56) (mk 25 511) rfl rfl (h := ?_)
             refine pU HT_ 9 (some 57) (mk 25 1023) rfl rfl (h := ?_)
             refine pU HT_ 10 (some 58) (mk 25 2047) rfl rfl (h := ?_)
             refine pU HT_ 11 (some 59) (mk 25 4095) rfl rfl (h := ?_)
             refine pU HT_ 13 (some 61) (mk 25 12287) rfl rfl (h := ?_)
             refine pU HT_ 14 (some 62) (mk 25 28671) rfl rfl (h := ?_)
             refine pU HT_ 17 (some 65) (mk 25 159743) rfl rfl (h := ?_)
             refine pU HT_ 19 (some 67) (mk 25 684031) rfl rfl (h := ?_)
             refine tU HT_ HW_ 12 (some 60) (mk 25 688127) hHeld rfl rfl (by rintro w' ⟨s0, s1, s2, s3, s4⟩; go_simp; with_reducible rfl) (h := ?_)
             refine pU HT_ 15 (some 63) (mk 25 720895) rfl rfl (h := ?_)
             refine tU HT_ HW_ 16 (some 64) (mk 25 786431) hHeld rfl rfl (by rintro w' ⟨s0, s1, s2, s3, s4⟩; go_simp; with_reducible rfl) (h := ?_)
             refine tU HT_ HW_ 18 (some 66) (mk 25 1048575) hHeld rfl rfl (by rintro w' ⟨s0, s1, s2, s3, s4⟩; go_simp; with_reducible rfl) (h := ?_)
             refine pU HT_ 20 (some 68) (mk 25 2097151) rfl rfl (h := ?_)
             refine tU HT_ HW_ 21 (some 69) (mk 25 4194303) hHeld rfl rfl (by rintro w' ⟨s0, s1, s2, s3, s4⟩; go_simp; with_reducible rfl) (h := ?_)
             refine pU HT_ 22 (some 70) (mk 25 8388607) rfl rfl (h := ?_)
             refine pU HT_ 23 (some 71) (mk 25 16777215) rfl rfl (h := ?_)
             refine pU HT_ 24 (some 72) (mk 25 33554431) rfl rfl (h := ?_)
             refine done_ (done_of HT_.out (by kernel_rfl)) ?_
             try go_wp2
             go_roundg k3
             case measure => have := HJ1.out; have := HK2.out; have := HK3.out; omega
             case rel => exact ⟨(wrap64 (x4_3 + 1)), eX, H', ⟨(by have := HJ1.out; have := HK2.out; have := HK3.out; omega)⟩, ⟨(kB BK368.out)⟩, ⟨bS⟩⟩
            rw [if_neg c35] at H
            exact absurd H (by simp)
           rw [if_neg c34] at H
           exact absurd H (by simp)
          rw [if_neg c32] at H
          have c32b0 : decide (0 < x4_3) = false := decide_eq_false c32
          clear c32
          have H' := Aside0.mk H
          clear H
          have hcz41_0 : wr.cell? ⟨gb368, 0, none⟩ = some (.slice A0_0 l0_0.length c0_0) := (blk_cell BK368.out 0).trans rfl
          have hcz41_1 : wr.cell? ⟨gb368, 1, none⟩ = some (.slice A0_1 l0_1.length c0_1) := (blk_cell BK368.out 1).trans rfl
          have hfz41_0 := blk_frozen BK368.out 0
          have hfz41_1 := blk_frozen BK368.out 1
          try go_wp2
          have n_ := aT (blk_drew BK368.out) (aM (below_drew1 HB.out))
          clear BK368 HB
          obtain ⟨BK368, HB⟩ := n_
          have p374 : 0 ≤ (x4_3 : Int) := of_decide_eq_true aA
          have q374 : x4_3 < (l0_1.length : Int) := of_decide_eq_true aA
          obtain ⟨ad374, e374, hx374_0⟩ := Kd.at_int HR0_1.out x4_3 p374 q374
          have hw374_0 := hx374_0
          cases e374
          replace hx374_0 := (HB.out.cell (World.block_lt_of_cell? w _ hx374_0)).trans hx374_0
          replace p374 := eq_true p374
          replace q374 := eq_true q374
          refine start_ (n := 25) (S := fun w' => w'.cell? ⟨gb368, 0, none⟩ = some (.slice A0_0 l0_0.length c0_0) ∧ w'.cell? ⟨gb368, 1, none⟩ = some (.slice (some ad374) l0_1.length c0_1) ∧ w'.cell? (ad374.add (x4_3).toNat) = some (.int .i64 (rd l0_1 x4_3))) (ds := []) _ (by kernel_rfl) rfl rfl ⟨(blk_cell BK368.out 0).trans rfl, (blk_cell BK368.out 1).trans rfl, ((HB.out.cell (World.block_lt_of_cell? w _ hw374_0)).trans hw374_0)⟩ (fun hHeld => ?_); refine with_tabW spec_KnownOk.tab11 spec_KnownOk.bits11 (fun HT_ HW_ => ?_)
          generalize wr.drew = w42 at BK368 HB hx374_0 hHeld ⊢
          refine pU HT_ 0 (some 48) (mk 25 1) rfl rfl (h := ?_)
          refine pU HT_ 2 (some 50) (mk 25 5) rfl rfl (h := ?_)
          refine tU HT_ HW_ 1 (some 49) (mk 25 7) hHeld rfl rfl (by rintro w' ⟨s0, s1, s2⟩; go_simp; with_reducible rfl) (h := ?_)
          refine pU HT_ 3 (some 51) (mk 25 15) rfl rfl (h := ?_)
          refine tU HT_ HW_ 4 (some 52) (mk 25 31) hHeld rfl rfl (by rintro w' ⟨s0, s1, s2⟩; go_simp; with_reducible rfl) (h := ?_)
          refine one_ (i := 5) (N := some 53) (mk 25 63) rfl rfl (one_of HT_.out (by kernel_rfl)) (by decide) (fun K hK => ?_)
          refine goes_ Try.func44 (by kernel_rfl) rfl #[.int .i64 (rd l0_1 x4_3), .int .i64 1, .int .i64 1000000] (by rfl) rfl rfl eA ?_
          with_reducible refine (spec_l1In.calls (rd l0_1 x4_3) 1 1000000 true _ A30.out).mono ?_
          rintro e w' ⟨rfl, ⟨nd, rfl⟩⟩
          refine ⟨_, rfl, ?_⟩
          refine hK.out _ _ ⟨(blk_cell BK368.out 0).trans rfl, (blk_cell BK368.out 1).trans rfl, ((HB.out.cell (World.block_lt_of_cell? w _ hw374_0)).trans hw374_0)⟩ (fun hHeld => ?_)
          clear hK K
          refine nO (some 53) (h := ?_)
          refine pU HT_ 6 (some 54) (mk 25 127) rfl rfl (h := ?_)
          refine pU HT_ 7 (some 55) (mk 25 255) rfl rfl (h := ?_)
          refine pU HT_ 8 (some 56) (mk 25 511) rfl rfl (h := ?_)
          refine pU HT_ 9 (some 57) (mk 25 1023) rfl rfl (h := ?_)
          refine pU HT_ 10 (some 58) (mk 25 2047) rfl rfl (h := ?_)
          refine pN HT_ 11 (some 59) (mk 25 4095) rfl rfl (h := ?_)
          refine pN HT_ 12 (some 60) (mk 25 8191) rfl rfl (h := ?_)
          refine pN HT_ 13 (some 61) (mk 25 16383) rfl rfl (h := ?_)
          refine pN HT_ 14 (some 62) (mk 25 32767) rfl rfl (h := ?_)
          refine pN HT_ 15 (some 63) (mk 25 65535) rfl rfl (h := ?_)
          refine pN HT_ 16 (some 64) (mk 25 131071) rfl rfl (h := ?_)
          refine pN HT_ 17 (some 65) (mk 25 262143) rfl rfl (h := ?_)
          refine pN HT_ 18 (some 66) (mk 25 524287) rfl rfl (h := ?_)
          refine pN HT_ 19 (some 67) (mk 25 1048575) rfl rfl (h := ?_)
          refine pN HT_ 20 (some 68) (mk 25 2097151) rfl rfl (h := ?_)
          refine pN HT_ 21 (some 69) (mk 25 4194303) rfl rfl (h := ?_)
          refine pN HT_ 22 (some 70) (mk 25 8388607) rfl rfl (h := ?_)
          refine pU HT_ 23 (some 71) (mk 25 16777215) rfl rfl (h := ?_)
          refine pU HT_ 24 (some 72) (mk 25 33554431) rfl rfl (h := ?_)
          refine done_ (done_of HT_.out (by kernel_rfl)) ?_
          try go_wp2
          go_roundg k3
          case measure => have := HJ1.out; have := HK2.out; have := HK3.out; omega
          case rel => exact ⟨(wrap64 (x4_3 + 1)), eX, H', ⟨(by have := HJ1.out; have := HK2.out; have := HK3.out; omega)⟩, ⟨(kB BK368.out)⟩, ⟨bS⟩⟩
         replace c31 := Bool.eq_false_iff.mpr c31
         subst c31
         rw [if_neg nF] at H
         obtain rfl := Option.some.inj H
         have hcz43_0 : wr.cell? ⟨gb368, 0, none⟩ = some (.slice A0_0 l0_0.length c0_0) := (blk_cell BK368.out 0).trans rfl
         have hcz43_1 : wr.cell? ⟨gb368, 1, none⟩ = some (.slice A0_1 l0_1.length c0_1) := (blk_cell BK368.out 1).trans rfl
         have hfz43_0 := blk_frozen BK368.out 0
         have hfz43_1 := blk_frozen BK368.out 1
         try go_wp2
         have n_ := aT (blk_drew BK368.out) (aM (below_drew1 HB.out))
         clear BK368 HB
         obtain ⟨BK368, HB⟩ := n_
         have p374 : 0 ≤ (x4_3 : Int) := of_decide_eq_true aA
         have q374 : x4_3 < (l0_1.length : Int) := of_decide_eq_true aA
         obtain ⟨ad374, e374, hx374_0⟩ := Kd.at_int HR0_1.out x4_3 p374 q374
         have hw374_0 := hx374_0
         cases e374
         replace hx374_0 := (HB.out.cell (World.block_lt_of_cell? w _ hx374_0)).trans hx374_0
         replace p374 := eq_true p374
         replace q374 := eq_true q374
         refine start_ (n := 25) (S := fun w' => w'.cell? ⟨gb368, 0, none⟩ = some (.slice A0_0 l0_0.length c0_0) ∧ w'.cell? ⟨gb368, 1, none⟩ = some (.slice (some ad374) l0_1.length c0_1) ∧ w'.cell? (ad374.add (x4_3).toNat) = some (.int .i64 (rd l0_1 x4_3))) (ds := []) _ (by kernel_rfl) rfl rfl ⟨(blk_cell BK368.out 0).trans rfl, (blk_cell BK368.out 1).trans rfl, ((HB.out.cell (World.block_lt_of_cell? w _ hw374_0)).trans hw374_0)⟩ (fun hHeld => ?_); refine with_tabW spec_KnownOk.tab11 spec_KnownOk.bits11 (fun HT_ HW_ => ?_)
         generalize wr.drew = w44 at BK368 HB hx374_0 hHeld ⊢
         refine pU HT_ 0 (some 48) (mk 25 1) rfl rfl (h := ?_)
         refine pU HT_ 2 (some 50) (mk 25 5) rfl rfl (h := ?_)
         refine tU HT_ HW_ 1 (some 49) (mk 25 7) hHeld rfl rfl (by rintro w' ⟨s0, s1, s2⟩; go_simp; with_reducible rfl) (h := ?_)
         refine pU HT_ 3 (some 51) (mk 25 15) rfl rfl (h := ?_)
         refine tU HT_ HW_ 4 (some 52) (mk 25 31) hHeld rfl rfl (by rintro w' ⟨s0, s1, s2⟩; go_simp; with_reducible rfl) (h := ?_)
         refine one_ (i := 5) (N := some 53) (mk 25 63) rfl rfl (one_of HT_.out (by kernel_rfl)) (by decide) (fun K hK => ?_)
         refine goes_ Try.func44 (by kernel_rfl) rfl #[.int .i64 (rd l0_1 x4_3), .int .i64 1, .int .i64 1000000] (by rfl) rfl rfl eA ?_
         with_reducible refine (spec_l1In.calls (rd l0_1 x4_3) 1 1000000 false _ A30.out).mono ?_
         rintro e w' ⟨rfl, ⟨nd, rfl⟩⟩
         refine ⟨_, rfl, ?_⟩
         refine hK.out _ _ ⟨(blk_cell BK368.out 0).trans rfl, (blk_cell BK368.out 1).trans rfl, ((HB.out.cell (World.block_lt_of_cell? w _ hw374_0)).trans hw374_0)⟩ (fun hHeld => ?_)
         clear hK K
         refine nO (some 53) (h := ?_)
         refine pU HT_ 6 (some 54) (mk 25 127) rfl rfl (h := ?_)
         refine pU HT_ 7 (some 55) (mk 25 255) rfl rfl (h := ?_)
         refine pN HT_ 8 (some 56) (mk 25 511) rfl rfl (h := ?_)
         refine pN HT_ 9 (some 57) (mk 25 1023) rfl rfl (h := ?_)
         refine pN HT_ 10 (some 58) (mk 25 2047) rfl rfl (h := ?_)
         refine pN HT_ 11 (some 59) (mk 25 4095) rfl rfl (h := ?_)
         refine pN HT_ 12 (some 60) (mk 25 8191) rfl rfl (h := ?_)
         refine pN HT_ 13 (some 61) (mk 25 16383) rfl rfl (h := ?_)
         refine pN HT_ 14 (some 62) (mk 25 32767) rfl rfl (h := ?_)
         refine pN HT_ 15 (some 63) (mk 25 65535) rfl rfl (h := ?_)
         refine pN HT_ 16 (some 64) (mk 25 131071) rfl rfl (h := ?_)
         refine pN HT_ 17 (some 65) (mk 25 262143) rfl rfl (h := ?_)
         refine pN HT_ 18 (some 66) (mk 25 524287) rfl rfl (h := ?_)
         refine pN HT_ 19 (some 67) (mk 25 1048575) rfl rfl (h := ?_)
         refine pN HT_ 20 (some 68) (mk 25 2097151) rfl rfl (h := ?_)
         refine pN HT_ 21 (some 69) (mk 25 4194303) rfl rfl (h := ?_)
         refine pN HT_ 22 (some 70) (mk 25 8388607) rfl rfl (h := ?_)
         refine pN HT_ 23 (some 71) (mk 25 16777215) rfl rfl (h := ?_)
         refine pU HT_ 24 (some 72) (mk 25 33554431) rfl rfl (h := ?_)
         refine done_ (done_of HT_.out (by kernel_rfl)) ?_
         try go_wp2
         go_ret
         exact ⟨eE, bS⟩
        rw [if_neg c29] at H
        exact absurd H (by simp)
       rw [if_neg c28] at H
       have c28b0 := decide_eq_false c28
       clear c28
       obtain rfl := Option.some.inj H
       have hcz45_0 : wr.cell? ⟨gb368, 0, none⟩ = some (.slice A0_0 l0_0.length c0_0) := (blk_cell BK368.out 0).trans rfl
       have hcz45_1 : wr.cell? ⟨gb368, 1, none⟩ = some (.slice A0_1 l0_1.length c0_1) := (blk_cell BK368.out 1).trans rfl
       have hfz45_0 := blk_frozen BK368.out 0
       have hfz45_1 := blk_frozen BK368.out 1
       go_wp2
       go_ret
       exact ⟨eE, bS⟩

end Go.Proofs.Ythlpfghlildllaa.OFnKnown
-- wrapped
-- halved
-- squeezed
-- squeezed2
-- squeezed3
