-- walks of this claim, written by a program of mine
import Derived.Test.YthlpfghlildllaaOFnKnownx0
import Derived.Test.YthlpfghlildllaaOFnKnownx6
import Derived.Test.YthlpfghlildllaaOFnKnownx14
namespace Go.Proofs.Ythlpfghlildllaa.OFnKnown
open Go.RowKit Go.Proofs.Ythlpfghlildllaa.OWord Go.Proofs.YthlpfghlildllaaW.PrintWords Go.Proofs.YthlpfghlildllaaW.PrintLast Go.Proofs.YthlpfghlildllaaW.PrintMore
attribute [local go_sem] max2_int min2_int max_two min_two max_three min_three max_four min_four   -- for this text's walks alone
set_option linter.unusedVariables false
set_option linter.unusedSimpArgs false

/-! ### spec_l3Close: function 50 -/
mutual
def spec_l3Close.l0 : Nat → List ByteArray → List Int → Option (List ByteArray × List Int)
 | 0, _, _ => none
 | k + 1, x4, x5 => spec_l3Close.l1 k x4 x5 (x4.length : Int) (x5.length : Int) 0
def spec_l3Close.l1 : Nat → List ByteArray → List Int → Int → Int → Int → Option (List ByteArray × List Int)
 | 0, _, _, _, _, _ => none
 | k + 1, x4, x5, x6, x7, x8 => if x8 < (x4.length : Int) then (if 0 ≤ x8 then ((spec_ReadKey.f k (rdOf ByteArray.empty x4 x8)).bind fun bt463 => (if bt463.2 = true then ((spec_l3Put.f k x5 bt463.1).bind fun t465 => (spec_l3Close.j2 k x4 t465 x6 x7 x8)) else (spec_l3Close.j2 k x4 x5 x6 x7 x8))) else (none)) else (if (x4.length : Int) = x6 then (if (x5.length : Int) = x7 then (some (x4, x5)) else (spec_l3Close.l0 k x4 x5)) else (spec_l3Close.l0 k x4 x5))
def spec_l3Close.j2 : Nat → List ByteArray → List Int → Int → Int → Int → Option (List ByteArray × List Int)
 | 0, _, _, _, _, _ => none
 | k + 1, x4, x5, x6, x7, x8 => if 0 ≤ x8 then (if x8 < (x4.length : Int) then ((spec_Parts.f k (rdOf ByteArray.empty x4 x8)).bind fun bt469 => (spec_l3Close.l2 k x4 x5 x6 x7 x8 bt469.1 0)) else (none)) else (none)
def spec_l3Close.l2 : Nat → List ByteArray → List Int → Int → Int → Int → List ByteArray → Int → Option (List ByteArray × List Int)
 | 0, _, _, _, _, _, _, _ => none
 | k + 1, x4, x5, x6, x7, x8, x11, x13 => if x13 < (x11.length : Int) then (if 0 ≤ x13 then ((spec_l3In.f k x4 (rdOf ByteArray.empty x11 x13)).bind fun t474 => (if t474 = true then (spec_l3Close.l2 k x4 x5 x6 x7 x8 x11 (wrap64 (x13 + 1))) else (if x4.length < 8796093022208 then (spec_l3Close.l2 k (x4 ++ [rdOf ByteArray.empty x11 x13]) x5 x6 x7 x8 x11 (wrap64 (x13 + 1))) else (none)))) else (none)) else (spec_l3Close.l3 k x4 x5 x6 x7 x8 0)
def spec_l3Close.l3 : Nat → List ByteArray → List Int → Int → Int → Int → Int → Option (List ByteArray × List Int)
 | 0, _, _, _, _, _, _ => none
 | k + 1, x4, x5, x6, x7, x8, x14 => if x14 < (x5.length : Int) then (if 0 ≤ x8 then (if x8 < (x4.length : Int) then (if 0 ≤ x14 then ((spec_Open.f k (rdOf ByteArray.empty x4 x8) (rd x5 x14)).bind fun bt481 => (if bt481.2 = true then ((spec_l3In.f k x4 bt481.1).bind fun t483 => (if t483 = true then (spec_l3Close.l3 k x4 x5 x6 x7 x8 (wrap64 (x14 + 1))) else (if x4.length < 8796093022208 then (spec_l3Close.l3 k (x4 ++ [bt481.1]) x5 x6 x7 x8 (wrap64 (x14 + 1))) else (none)))) else (spec_l3Close.l3 k x4 x5 x6 x7 x8 (wrap64 (x14 + 1))))) else (none)) else (none)) else (none)) else (spec_l3Close.l1 k x4 x5 x6 x7 (wrap64 (x8 + 1)))
end
def spec_l3Close.f (k : Nat) (l0_0 : List ByteArray) (l0_1 : List Int) : Option (List ByteArray × List Int) := (some (([] : List ByteArray) : List ByteArray)).bind fun y450 => (if y450.length + l0_0.length < 8796093022208 then ((some (([] : List Int) : List Int)).bind fun y456 => (if y456.length + l0_1.length < 17592186044416 then (spec_l3Close.l0 k (y450 ++ l0_0) (y456 ++ l0_1)) else (none))) else (none))
def spec_l3Close.T20 : Bool × List (List Nat × List Nat) := (true, [([], []), ([], []), ([0, 1], [0, 1]), ([2], [2]), ([], []), ([], []), ([4, 5], [4, 5]), ([6], [6]), ([3, 7], [3, 7]), ([8], [8]), ([9], [9]), ([9], [9]), ([10, 8, 0, 1, 2, 3, 4, 5, 6, 7, 8, 9, 10], [10]), ([11, 12, 0, 1, 2, 3, 4, 5, 6, 7, 8, 9, 10, 11, 12], [11])])
def spec_l3Close.B20 : List Nat := [0, 0, 3, 7, 0, 0, 48, 112, 255, 511, 1023, 1023, 2047, 8191]
theorem spec_l3Close.tab20 : rtab .any (opsOf Try.f50 20) = spec_l3Close.T20 := by kernel_rfl
theorem spec_l3Close.bits20 : waitsOk spec_l3Close.T20.2 spec_l3Close.B20 = true := by kernel_rfl
set_option maxHeartbeats 8000000 in
set_option maxRecDepth 100000 in
theorem spec_l3Close.calls (k : Nat) (A0_0 : Option Addr) (c0_0 : Nat) (l0_0 : List ByteArray) (A0_1 : Option Addr) (c0_1 : Nat) (l0_1 : List Int) (r1 : List ByteArray) (r2 : List Int) (w : World) (hr0_0 : Kd.C Kd.string w A0_0 l0_0.length l0_0) (hc0_0 : l0_0.length ≤ c0_0) (hr0_1 : Kd.C (Kd.int .i64) w A0_1 l0_1.length l0_1) (hc0_1 : l0_1.length ≤ c0_1) (h : spec_l3Close.f k l0_0 l0_1 = some (r1, r2)) :
  Calls Try.prog 50 #[.agg #[.slice A0_0 l0_0.length c0_0, .slice A0_1 l0_1.length c0_1]] w fun e w' => ∃ v0_ v1_ : Value, e = .returned (.tuple #[v0_, v1_]) ∧ Kd.R Kd.string 9 w' w.heap.size (fun _ => True) v0_ r1 ∧ Kd.R (Kd.int .i64) 3 w' w.heap.size (fun _ => True) v1_ r2 ∧ Below w.heap.size w w' := by
 have hu27 := Try.underlying27
 have HR0_0 := Aside0.mk hr0_0
 have HC0_0 := Aside0.mk hc0_0
 clear hr0_0 hc0_0
 have HR0_1 := Aside0.mk hr0_1
 have HC0_1 := Aside0.mk hc0_1
 clear hr0_1 hc0_1
 have HB := Aside0.mk (Below.refl w.heap.size w)
 have H := h
 clear h
 unfold spec_l3Close.f at H
 obtain ⟨y450, hy450⟩ : ∃ y_ : List ByteArray, y_ = (([] : List ByteArray)) := ⟨_, rfl⟩
 replace H : (if y450.length + l0_0.length < 8796093022208 then ((some (([] : List Int) : List Int)).bind fun y456 => (if y456.length + l0_1.length < 17592186044416 then (spec_l3Close.l0 k (y450 ++ l0_0) (y456 ++ l0_1)) else (none))) else (none)) = some (r1, r2) := by first | (rw [hy450]; with_reducible exact H) | (have H2_ := (Option.bind_some _ _).symm.trans H; rw [hy450]; with_reducible exact H2_) | (have H2_ := (Option.bind_some _ _).symm.trans H; with_reducible exact H2_) | with_reducible exact H | (rw [hy450]; exact H) | exact H
 have Ny450 := Aside0.mk hy450
 clear hy450
 by_cases c2 : y450.length + l0_0.length < 8796093022208
 ·rw [if_pos c2] at H
  have LMc2 := Aside0.mk c2
  clear c2
  obtain ⟨y453, hy453⟩ : ∃ y_ : List ByteArray, y_ = (y450 ++ l0_0) := ⟨_, rfl⟩
  replace H : ((some (([] : List Int) : List Int)).bind fun y456 => (if y456.length + l0_1.length < 17592186044416 then (spec_l3Close.l0 k y453 (y456 ++ l0_1)) else (none))) = some (r1, r2) := by first | (rw [hy453]; with_reducible exact H) | (have H2_ := (Option.bind_some _ _).symm.trans H; rw [hy453]; with_reducible exact H2_) | (have H2_ := (Option.bind_some _ _).symm.trans H; with_reducible exact H2_) | with_reducible exact H | (rw [hy453]; exact H) | exact H
  have Ny453 := Aside0.mk hy453
  clear hy453
  obtain ⟨y456, hy456⟩ : ∃ y_ : List Int, y_ = (([] : List Int)) := ⟨_, rfl⟩
  replace H : (if y456.length + l0_1.length < 17592186044416 then (spec_l3Close.l0 k y453 (y456 ++ l0_1)) else (none)) = some (r1, r2) := by first | (rw [hy456]; with_reducible exact H) | (have H2_ := (Option.bind_some _ _).symm.trans H; rw [hy456]; with_reducible exact H2_) | (have H2_ := (Option.bind_some _ _).symm.trans H; with_reducible exact H2_) | with_reducible exact H | (rw [hy456]; exact H) | exact H
  have Ny456 := Aside0.mk hy456
  clear hy456
  by_cases c3 : y456.length + l0_1.length < 17592186044416
  ·rw [if_pos c3] at H
   have LMc3 := Aside0.mk c3
   clear c3
   obtain ⟨y459, hy459⟩ : ∃ y_ : List Int, y_ = (y456 ++ l0_1) := ⟨_, rfl⟩
   replace H : (spec_l3Close.l0 k y453 y459) = some (r1, r2) := by first | (rw [hy459]; with_reducible exact H) | (have H2_ := (Option.bind_some _ _).symm.trans H; rw [hy459]; with_reducible exact H2_) | (have H2_ := (Option.bind_some _ _).symm.trans H; with_reducible exact H2_) | with_reducible exact H | (rw [hy459]; exact H) | exact H
   have Ny459 := Aside0.mk hy459
   clear hy459
   have H' := Aside0.mk H
   clear H
   go_enter Try.func50, Try.ntmps50
   go_wp2_with (first | ((with_reducible refine gate_dst (N := 1) rfl ?_); (try (refine gate_guard (by rfl) ?_; dsimp only)); refine box_event ?hg (N := 1) ?hd (cs := #[.slice A0_0 l0_0.length c0_0, .slice A0_1 l0_1.length c0_1]) (t := 27) ?hr ?_; (case hd => rfl); (case hg => rfl); (case hr => first | (go_simp; done) | (go_simp; rfl)); intro gb449 hg w4 hbox hb; have n_ := aT (below_step bH hb) (aT (hbox) (aT ((bZ hg : w.heap.size ≤ gb449)) (aM ((bZ hg : w.heap.size ≤ gb449))))); clear HB; obtain ⟨HB, BK449, GW449, GE449⟩ := n_; clear hb hbox hg) | ((with_reducible refine gate_dst (N := 17) rfl ?_); (try (refine gate_guard (by rfl) ?_; dsimp only)); refine Kd.R_lit Kd.string _ 9 ?hg (N := 17) ?hd (xs := ([] : List ByteArray)) (inner := []) (ok := fun _ => True) (okp := fun _ => True) ?hr ?hp (fun _ hk => hk) trivial (Below.refl _ _) (Nat.le_refl _) (by simp) ?_; (case hd => rfl); (case hg => rfl); (case hr => first | (go_simp; done) | (go_simp; rfl)); (case hp => exact (Reps.none _ _)); intro v451 w5 ho6 hb hg_ hnew_; clear hg_ hnew_; (first | rw [← Ny450.out] at ho6 | (simp only [Int.reduceToNat] at ho6; rw [← Ny450.out] at ho6)); have n_ := aT (Kd.R_lower ho6 (below_size bS)) (aT (blk_below (kB BK449.out) hb) (aM (below_step bS hb))); clear BK449 HB; obtain ⟨HO452, BK449, HB⟩ := n_; clear hb ho6; have hcz7_0 : w5.cell? ⟨gb449, 0, none⟩ = some (.slice A0_0 l0_0.length c0_0) := (blk_cell BK449.out 0).trans rfl; have hcz7_1 : w5.cell? ⟨gb449, 1, none⟩ = some (.slice A0_1 l0_1.length c0_1) := (blk_cell BK449.out 1).trans rfl; have hfz7_0 := blk_frozen BK449.out 0; have hfz7_1 := blk_frozen BK449.out 1) | ((with_reducible refine gate_builtin (b := .append) (xs := #[.tmp 17, .tmp 19]) rfl ?_); (try (refine gate_guard (by rfl) ?_; dsimp only)); at_builtin; refine Kd.R_append_rows Kd.string (w0 := w) w.heap.size rfl (.tmp 17) (.tmp 19) 24 9 (.string ⟨#[]⟩) 16 rfl Try.underlying24 info9 rfl (by decide) (by omega) v451 y450 l0_0 _ _ _ (fun _ => True) (fun _ => False) rfl rfl ?aO ?aR (fun _ _ h => h) (fun _ h => h.elim) ?aF ?aB ?aS ?aL ?_; (case aR => repeat (first | exact (Kd.C_below HR0_0.out HB.out) | (with_reducible refine Kd.C_alloc ?_ _) | (with_reducible refine Kd.C_drewN ?_ _) | (with_reducible refine Kd.C_drew ?_))); (case aB => exact bS); (case aF => exact (fun _ _ => trivial)); (case aO => exact (kR HO452.out)); (case aS => exact (below_size bS)); (case aL => have := LMc2.out; omega); intro v454 w8 ho hb hg hat; rw [← Ny453.out] at ho; have n_ := aT (blk_grown (g := gb449) (o := .cells #[.slice A0_0 l0_0.length c0_0, .slice A0_1 l0_1.length c0_1] 27 (0, 0)) (kB BK449.out) hg (Kd.R_ne HO452.out BK449.out (by decide))) (aT (hb) (aM (ho))); clear BK449 HB HO452; obtain ⟨BK449, HB, HO455⟩ := n_; clear ho hb hg hat) | ((with_reducible refine gate_dst (N := 21) rfl ?_); (try (refine gate_guard (by rfl) ?_; dsimp only)); refine Kd.R_lit (Kd.int .i64) _ 3 ?hg (N := 21) ?hd (xs := ([] : List Int)) (inner := []) (ok := fun _ => True) (okp := fun _ => True) ?hr ?hp (fun _ hk => hk) trivial (Below.refl _ _) (Nat.le_refl _) (by simp) ?_; (case hd => rfl); (case hg => rfl); (case hr => first | (go_simp; done) | (go_simp; rfl)); (case hp => exact (Reps.none _ _)); intro v457 w9 ho10 hb hg_ hnew_; clear hg_ hnew_; (first | rw [← Ny456.out] at ho10 | (simp only [Int.reduceToNat] at ho10; rw [← Ny456.out] at ho10)); have n_ := aT (Kd.R_below (kR HO455.out) hb) (aT (Kd.R_lower ho10 (below_size bS)) (aT (blk_below (kB BK449.out) hb) (aM (below_step bS hb)))); clear HO455 BK449 HB; obtain ⟨HO455, HO458, BK449, HB⟩ := n_; clear hb ho10; have hcz11_0 : w9.cell? ⟨gb449, 0, none⟩ = some (.slice A0_0 l0_0.length c0_0) := (blk_cell BK449.out 0).trans rfl; have hcz11_1 : w9.cell? ⟨gb449, 1, none⟩ = some (.slice A0_1 l0_1.length c0_1) := (blk_cell BK449.out 1).trans rfl; have hfz11_0 := blk_frozen BK449.out 0; have hfz11_1 := blk_frozen BK449.out 1) | ((with_reducible refine gate_builtin (b := .append) (xs := #[.tmp 21, .tmp 23]) rfl ?_); (try (refine gate_guard (by rfl) ?_; dsimp only)); at_builtin; refine Kd.R_append_rows (Kd.int .i64) (w0 := w) w.heap.size rfl (.tmp 21) (.tmp 23) 25 3 (.int .i64 0) 8 rfl Try.underlying25 info3 rfl (by decide) (by omega) v457 y456 l0_1 _ _ _ (fun _ => True) (fun _ => False) rfl rfl ?aO ?aR (fun _ _ h => h) (fun _ h => h.elim) ?aF ?aB ?aS ?aL ?_; (case aR => repeat (first | exact (Kd.C_below HR0_1.out HB.out) | (with_reducible refine Kd.C_alloc ?_ _) | (with_reducible refine Kd.C_drewN ?_ _) | (with_reducible refine Kd.C_drew ?_))); (case aB => exact bS); (case aF => exact (fun _ _ => trivial)); (case aO => exact (kR HO458.out)); (case aS => exact (below_size bS)); (case aL => have := LMc3.out; omega); intro v460 w12 ho hb hg hat; rw [← Ny459.out] at ho; have n_ := aT (blk_grown (g := gb449) (o := .cells #[.slice A0_0 l0_0.length c0_0, .slice A0_1 l0_1.length c0_1] 27 (0, 0)) (kB BK449.out) hg (Kd.R_ne HO458.out BK449.out (by decide))) (aT (Kd.R_over' (kR HO455.out) (Kd.R_typed (kR HO458.out)) (by decide) hg) (aT (hb) (aM (ho)))); clear BK449 HO455 HB HO458; obtain ⟨BK449, HO455, HB, HO461⟩ := n_; clear ho hb hg hat))
   go_loopg [4, 5] k (fun kq v4 v5 w' => ∃ (x4_1 : List ByteArray) (x5_1 : List Int), Aside0 (spec_l3Close.l0 kq x4_1 x5_1 = some (r1, r2)) ∧ Aside0 (kq ≤ k) ∧ Aside0 (Kd.R Kd.string 9 w' w.heap.size (fun _ => True) v4 x4_1) ∧ Aside0 (Kd.R (Kd.int .i64) 3 w' w.heap.size (fun _ => True) v5 x5_1) ∧ Aside0 (w'.heap[gb449]? = some (.cells #[(.slice A0_0 l0_0.length c0_0), (.slice A0_1 l0_1.length c0_1)] 27 (0, 0))) ∧ Aside0 (Below w.heap.size w w'))
   case atStart => exact ⟨(y453), (y459), H', ⟨Nat.le_refl _⟩, ⟨(kR HO455.out)⟩, ⟨(kR HO461.out)⟩, ⟨(kB BK449.out)⟩, ⟨bS⟩⟩
   case round =>
    clear H'
    try clear c2
    try clear c3
    try clear hcz11_0
    try clear hcz11_1
    try clear hcz7_0
    try clear hcz7_1
    try clear hfz11_0
    try clear hfz11_1
    try clear hfz7_0
    try clear hfz7_1
    obtain ⟨x4_1, x5_1, HA, HK1, HO_4, HO_5, BK449, HB⟩ := hrel
    cases gk with
    | zero => exact absurd HA.out (by simp [spec_l3Close.l0])
    | succ k1 =>
     have H := HA.out
     clear HA
     simp only [spec_l3Close.l0] at H
     have H' := Aside0.mk H
     clear H
     obtain ⟨Ao13, co13, eo13⟩ := Kd.R_slice HO_4.out
     subst eo13
     obtain ⟨Ao14, co14, eo14⟩ := Kd.R_slice HO_5.out
     subst eo14
     go_wp2
     go_loopg [4, 5, 8] k1 (fun kq v4 v5 v8 w' => ∃ (x4_2 : List ByteArray) (x5_2 : List Int) (x8_2 : Int), v8 = .int .i64 x8_2 ∧ Aside0 (spec_l3Close.l1 kq x4_2 x5_2 (x4_1.length : Int) (x5_1.length : Int) x8_2 = some (r1, r2)) ∧ Aside0 (kq ≤ k1) ∧ Aside0 (Kd.R Kd.string 9 w' w.heap.size (fun _ => True) v4 x4_2) ∧ Aside0 (Kd.R (Kd.int .i64) 3 w' w.heap.size (fun _ => True) v5 x5_2) ∧ Aside0 (w'.heap[gb449]? = some (.cells #[(.slice A0_0 l0_0.length c0_0), (.slice A0_1 l0_1.length c0_1)] 27 (0, 0))) ∧ Aside0 (Below w.heap.size w w'))
     case atStart => exact ⟨(x4_1), (x5_1), (0), eX, H', ⟨Nat.le_refl _⟩, ⟨(kR HO_4.out)⟩, ⟨(kR HO_5.out)⟩, ⟨(kB BK449.out)⟩, ⟨bS⟩⟩
     case round =>
      clear H'
      try clear c2
      try clear c3
      try clear hcz11_0
      try clear hcz11_1
      try clear hcz7_0
      try clear hcz7_1
      try clear hfz11_0
      try clear hfz11_1
      try clear hfz7_0
      try clear hfz7_1
      obtain ⟨x4_2, x5_2, x8_2, rfl, HA, HK2, HO_4, HO_5, BK449, HB⟩ := hrel
      cases gk with
      | zero => exact absurd HA.out (by simp [spec_l3Close.l1])
      | succ k2 =>
       have H := HA.out
       clear HA
       simp only [spec_l3Close.l1] at H
       by_cases c15 : x8_2 < (x4_2.length : Int)
       ·rw [if_pos c15] at H
        have c15b0 := decide_eq_true c15
        clear c15
        by_cases c16 : 0 ≤ x8_2
        ·rw [if_pos c16] at H
         have c16b0 := decide_eq_true c16
         clear c16
         obtain ⟨⟨t463, t464⟩, A17, H⟩ := oB H
         dsimp only at H
         have HC18 := Aside0.mk H
         clear H
         obtain ⟨Ao19, co19, eo19⟩ := Kd.R_slice HO_4.out
         subst eo19
         have p462 : 0 ≤ (x8_2 : Int) := of_decide_eq_true aA
         have q462 : x8_2 < (x4_2.length : Int) := of_decide_eq_true aA
         obtain ⟨ad462, e462, hx462_0⟩ := Kd.at_string (Kd.R_reads' HO_4.out).2.2 x8_2 p462 q462
         cases e462
         replace p462 := eq_true p462
         replace q462 := eq_true q462
         go_upto_if 43 with (first | (refine gL 83 (some 40) Try.func83 #[.string (rdOf ByteArray.empty x4_2 x8_2)] ?_; (with_reducible refine (spec_ReadKey.calls k2 (rdOf ByteArray.empty x4_2 x8_2) t463 t464 _ A17.out).mono ?_); rintro e w20 ⟨rfl, hb⟩; refine ⟨_, rfl, ?_⟩; have n_ := aT (Kd.R_below (kR HO_4.out) hb) (aT (Kd.R_below (kR HO_5.out) hb) (aT (blk_below (kB BK449.out) hb) (aM (below_step bS hb)))); clear HO_4 HO_5 BK449 HB; obtain ⟨HO_4, HO_5, BK449, HB⟩ := n_; (try clear hb)))
         (try simp only [Act.put, List.setIfInBounds_toArray, List.set_cons_zero, List.set_cons_succ])
         go_cut [5] (fun v5 wc => ∃ (kq : Nat) (x5_17 : List Int), Aside0 (spec_l3Close.j2 kq x4_2 x5_17 (x4_1.length : Int) (x5_1.length : Int) x8_2 = some (r1, r2)) ∧ Aside0 (kq ≤ k2) ∧ Aside0 (Kd.R Kd.string 9 wc w.heap.size (fun _ => True) (.slice (some ad462) x4_2.length co19) x4_2) ∧ Aside0 (Kd.R (Kd.int .i64) 3 wc w.heap.size (fun _ => True) v5 x5_17) ∧ Aside0 (wc.heap[gb449]? = some (.cells #[(.slice A0_0 l0_0.length c0_0), (.slice A0_1 l0_1.length c0_1)] 27 (0, 0))) ∧ Aside0 (Below w.heap.size w wc))
         case first =>
          have H := HC18.out
          clear HC18
          by_cases c21 : t464 = true
          ·subst c21
           rw [if_pos rfl] at H
           obtain ⟨t465, A22, H⟩ := oB H
           have H' := Aside0.mk H
           clear H
           obtain ⟨Ao23, co23, eo23⟩ := Kd.R_slice HO_5.out
           subst eo23
           go_wp2_with (first | (refine gL 66 (some 46) Try.func66 #[.slice Ao23 x5_2.length co23, .int .i64 t463] ?_; (with_reducible refine (spec_l3Put.calls k2 (fun k_ => some k_ = (.slice Ao23 x5_2.length co23 : Value).ownBlock) (.slice Ao23 x5_2.length co23) x5_2 t463 t465 w _ ?side1 ?side2 A22.out).mono ?_); (case side1 => repeat (first | (with_reducible first | exact HB.out | apply below_alloc | apply pw_below_drewN | apply below_drew1 | refine below_set ?_ GE449.out) | exact HB.out)); (case side2 => exact Kd.R_tight rfl HO_5.out); rintro e w24 ⟨v466, rfl, ho0, hb, hkp⟩; refine ⟨_, rfl, ?_⟩; have n_ := aT (Kd.R_mono (ok' := fun k_ => True) (Kd.R_keptB ((Kd.R_apart' HO_4.out (Kd.R_typed HO_5.out) (by decide))) hkp (fun k_ hk_ hs_ => (hk_.2) hs_)) (fun k_ hk_ => trivial)) (aT (blk_kept (kB BK449.out) hkp (fun hs_ => (fun e_ => (Kd.R_ne HO_5.out BK449.out (by decide)) e_) hs_)) (aT (Kd.R_mono (ok' := fun k_ => True) ho0 (fun k_ hk_ => trivial)) (aM (hb)))); clear HO_4 BK449 HB HO_5; obtain ⟨HO_4, BK449, HO467, HB⟩ := n_; (try clear hb); (try clear hkp); (try clear ho0)))
           go_meet
           case rel => exact ⟨_, (t465), H', ⟨(by have := HK1.out; have := HK2.out; first | omega | exact Nat.le_refl _)⟩, ⟨(kR HO_4.out)⟩, ⟨(kR HO467.out)⟩, ⟨(kB BK449.out)⟩, ⟨bS⟩⟩
          replace c21 := Bool.eq_false_iff.mpr c21
          subst c21
          rw [if_neg nF] at H
          have H' := Aside0.mk H
          clear H
          go_wp2
          go_meet
          case rel => exact ⟨_, (x5_2), H', ⟨(by have := HK1.out; have := HK2.out; first | omega | exact Nat.le_refl _)⟩, ⟨(kR HO_4.out)⟩, ⟨(kR HO_5.out)⟩, ⟨(kB BK449.out)⟩, ⟨bS⟩⟩
         case rest =>
          clear HC18
          try clear c2
          try clear c3
          try clear c15
          try clear c15b0
          try clear c16
          try clear c16b0
          try clear hcz11_0
          try clear hcz11_1
          try clear hcz7_0
          try clear hcz7_1
          try clear hfz11_0
          try clear hfz11_1
          try clear hfz7_0
          try clear hfz7_1
          try clear hx462_0
          try clear p462
          try clear q462
          obtain ⟨kq, x5_17, HA, HJ17, HO_4, HO_5, BK449, HB⟩ := hcut
          cases kq with
          | zero => exact absurd HA.out (by simp [spec_l3Close.j2])
          | succ kj17 =>
           have H := HA.out
           clear HA
           simp only [spec_l3Close.j2] at H
           by_cases c25 : 0 ≤ x8_2
           ·rw [if_pos c25] at H
            have c25b0 := decide_eq_true c25
            clear c25
            by_cases c26 : x8_2 < (x4_2.length : Int)
            ·rw [if_pos c26] at H
             have c26b0 := decide_eq_true c26
             clear c26
             obtain ⟨⟨t469, t470⟩, A27, H⟩ := oB H
             dsimp only at H
             have H' := Aside0.mk H
             clear H
             have p468 : 0 ≤ (x8_2 : Int) := of_decide_eq_true aA
             have q468 : x8_2 < (x4_2.length : Int) := of_decide_eq_true aA
             obtain ⟨ad468, e468, hx468_0⟩ := Kd.at_string (Kd.R_reads' HO_4.out).2.2 x8_2 p468 q468
             obtain rfl : ad462 = ad468 := (by injection e468)
             replace p468 := eq_true p468
             replace q468 := eq_true q468
             go_wp2_with (first | (refine gL 84 (some 52) Try.func84 #[.string (rdOf ByteArray.empty x4_2 x8_2)] ?_; (with_reducible refine (spec_Parts.calls kj17 (rdOf ByteArray.empty x4_2 x8_2) t469 t470 _ A27.out).mono ?_); rintro e w28 ⟨v471, rfl, ho0, hb⟩; refine ⟨_, rfl, ?_⟩; have n_ := aT (Kd.R_elder' (kR HO_4.out) (Kd.R_base ho0) hb) (aT (Kd.R_below (kR HO_5.out) hb) (aT (Kd.R_lower (Kd.R_new' ho0 (Kd.R_lt (kR HO_4.out))) (below_size bS)) (aT (blk_below (kB BK449.out) hb) (aM (below_step bS hb))))); clear HO_4 HO_5 BK449 HB; obtain ⟨HO_4, HO_5, HO472, BK449, HB⟩ := n_; (try clear hb); (try clear ho0)))
             go_loopg [4, 13] kj17 (fun kq v4 v13 w' => ∃ (x4_4 : List ByteArray) (x13_4 : Int), v13 = .int .i64 x13_4 ∧ Aside0 (spec_l3Close.l2 kq x4_4 x5_17 (x4_1.length : Int) (x5_1.length : Int) x8_2 t469 x13_4 = some (r1, r2)) ∧ Aside0 (kq ≤ kj17) ∧ Aside0 (Kd.R Kd.string 9 w' w.heap.size (fun k_ => some k_ ≠ (v471 : Value).ownBlock) v4 x4_4) ∧ Aside0 (Kd.R (Kd.int .i64) 3 w' w.heap.size (fun _ => True) u5 x5_17) ∧ Aside0 (Kd.R Kd.string 9 w' w.heap.size (fun k_ => some k_ ≠ (v4 : Value).ownBlock) v471 t469) ∧ Aside0 (w'.heap[gb449]? = some (.cells #[(.slice A0_0 l0_0.length c0_0), (.slice A0_1 l0_1.length c0_1)] 27 (0, 0))) ∧ Aside0 (Below w.heap.size w w'))
             case atStart => exact ⟨(x4_2), (0), eX, H', ⟨Nat.le_refl _⟩, ⟨(rM HO_4.out (fun _ hk => hk.2))⟩, ⟨(kR HO_5.out)⟩, ⟨(rM HO472.out (fun _ hk => hk.2))⟩, ⟨(kB BK449.out)⟩, ⟨bS⟩⟩
             case round =>
              clear H'
              try clear c2
              try clear c3
              try clear c15
              try clear c15b0
              try clear c16
              try clear c16b0
              try clear c25
              try clear c25b0
              try clear c26
              try clear c26b0
              try clear hcz11_0
              try clear hcz11_1
              try clear hcz7_0
              try clear hcz7_1
              try clear hfz11_0
              try clear hfz11_1
              try clear hfz7_0
              try clear hfz7_1
              try clear hx462_0
              try clear hx468_0
              try clear p462
              try clear p468
              try clear q462
              try clear q468
              obtain ⟨x4_4, x13_4, rfl, HA, HK4, HO_4, HO_5, HO_11, BK449, HB⟩ := hrel
              cases gk with
              | zero => exact absurd HA.out (by simp [spec_l3Close.l2])
              | succ k4 =>
               have H := HA.out
               clear HA
               simp only [spec_l3Close.l2] at H
               by_cases c29 : x13_4 < (t469.length : Int)
               ·rw [if_pos c29] at H
                have c29b0 := decide_eq_true c29
                clear c29
                by_cases c30 : 0 ≤ x13_4
                ·rw [if_pos c30] at H
                 have c30b0 := decide_eq_true c30
                 clear c30
                 obtain ⟨t474, A31, H⟩ := oB H
                 by_cases c32 : t474 = true
                 ·subst c32
                  rw [if_pos rfl] at H
                  have H' := Aside0.mk H
                  clear H
                  obtain ⟨Ao33, co33, eo33⟩ := Kd.R_slice HO_11.out
                  subst eo33
                  have p473 : 0 ≤ (x13_4 : Int) := of_decide_eq_true aA
                  have q473 : x13_4 < (t469.length : Int) := of_decide_eq_true aA
                  obtain ⟨ad473, e473, hx473_0⟩ := Kd.at_string (Kd.R_reads' HO_11.out).2.2 x13_4 p473 q473
                  cases e473
                  replace p473 := eq_true p473
                  replace q473 := eq_true q473
                  obtain ⟨Ao34, co34, eo34⟩ := Kd.R_slice HO_4.out
                  subst eo34
                  go_wp2_with (first | (refine gL 43 (some 66) Try.func43 #[.slice Ao34 x4_4.length co34, .string (rdOf ByteArray.empty t469 x13_4)] ?_; (with_reducible refine (spec_l3In.calls k4 _ _ x4_4 (rdOf ByteArray.empty t469 x13_4) true _ ?side1 ?side2 A31.out).mono ?_); (case side1 => exact cA ((Kd.R_reads' HO_4.out).2.2)); (case side2 => exact (Kd.R_reads' HO_4.out).2.1); rintro e w' ⟨rfl, ⟨nd, rfl⟩⟩; refine ⟨_, rfl, ?_⟩))
                  go_roundg k4
                  case measure => have := HK1.out; have := HK2.out; have := HJ17.out; have := HK4.out; omega
                  case rel => exact ⟨(x4_4), (wrap64 (x13_4 + 1)), eX, H', ⟨(by have := HK1.out; have := HK2.out; have := HJ17.out; have := HK4.out; omega)⟩, ⟨(kR HO_4.out)⟩, ⟨(kR HO_5.out)⟩, ⟨(kR HO_11.out)⟩, ⟨(kB BK449.out)⟩, ⟨bS⟩⟩
                 replace c32 := Bool.eq_false_iff.mpr c32
                 subst c32
                 rw [if_neg nF] at H
                 by_cases c35 : x4_4.length < 8796093022208
                 ·rw [if_pos c35] at H
                  have LMc35 := Aside0.mk c35
                  clear c35
                  obtain ⟨y476, hy476⟩ : ∃ y_ : List ByteArray, y_ = (x4_4 ++ [rdOf ByteArray.empty t469 x13_4]) := ⟨_, rfl⟩
                  replace H : (spec_l3Close.l2 k4 y476 x5_17 (x4_1.length : Int) (x5_1.length : Int) x8_2 t469 (wrap64 (x13_4 + 1))) = some (r1, r2) := by first | (rw [hy476]; with_reducible exact H) | (have H2_ := (Option.bind_some _ _).symm.trans H; rw [hy476]; with_reducible exact H2_) | (have H2_ := (Option.bind_some _ _).symm.trans H; with_reducible exact H2_) | with_reducible exact H | (rw [hy476]; exact H) | exact H
                  have Ny476 := Aside0.mk hy476
                  clear hy476
                  have H' := Aside0.mk H
                  clear H
                  obtain ⟨Ao36, co36, eo36⟩ := Kd.R_slice HO_11.out
                  subst eo36
                  have p473 : 0 ≤ (x13_4 : Int) := of_decide_eq_true aA
                  have q473 : x13_4 < (t469.length : Int) := of_decide_eq_true aA
                  obtain ⟨ad473, e473, hx473_0⟩ := Kd.at_string (Kd.R_reads' HO_11.out).2.2 x13_4 p473 q473
                  cases e473
                  replace p473 := eq_true p473
                  replace q473 := eq_true q473
                  obtain ⟨Ao37, co37, eo37⟩ := Kd.R_slice HO_4.out
                  subst eo37
                  go_wp2_with (first | (refine gL 43 (some 66) Try.func43 #[.slice Ao37 x4_4.length co37, .string (rdOf ByteArray.empty t469 x13_4)] ?_; (with_reducible refine (spec_l3In.calls k4 _ _ x4_4 (rdOf ByteArray.empty t469 x13_4) false _ ?side1 ?side2 A31.out).mono ?_); (case side1 => exact cA ((Kd.R_reads' HO_4.out).2.2)); (case side2 => exact (Kd.R_reads' HO_4.out).2.1); rintro e w' ⟨rfl, ⟨nd, rfl⟩⟩; refine ⟨_, rfl, ?_⟩; have p475 : 0 ≤ (x13_4 : Int) := of_decide_eq_true aA; have q475 : x13_4 < (t469.length : Int) := of_decide_eq_true aA; obtain ⟨ad475, e475, hx475_0⟩ := Kd.at_string (Kd.R_reads' HO_11.out).2.2 x13_4 p475 q475; obtain rfl : ad473 = ad475 := (by injection e475); replace p475 := eq_true p475; replace q475 := eq_true q475) | ((with_reducible refine gate_builtin (b := .append) (xs := #[.tmp 68, .tmp 73]) rfl ?_); (try (refine gate_guard (by rfl) ?_; dsimp only)); at_builtin; refine Kd.R_append Kd.string (w0 := w) w.heap.size rfl (.tmp 68) (.tmp 73) 24 9 (.string ⟨#[]⟩) 16 rfl Try.underlying24 info9 rfl (by decide) (by omega) (.slice Ao37 x4_4.length co37) x4_4 (rdOf ByteArray.empty t469 x13_4) [.string (rdOf ByteArray.empty t469 x13_4)] (fun k_ => some k_ ≠ (.slice (some ad473) t469.length co36 : Value).ownBlock) (fun _ => False) rfl rfl ?aP (fun _ hk => hk.elim) ?aF ?aO ?aB ?aS ?aL ?_; (case aP => exact rfl); (case aB => exact bS); (case aF => exact (fun k_ hk => Kd.fresh' (Kd.R_lt (kR HO_11.out)) k_ hk)); (case aO => exact (kR HO_4.out)); (case aS => exact (below_size bS)); (case aL => have := LMc35.out; omega); intro v477 w38 ho hb hg hat; rw [← Ny476.out] at ho; have n_ := aT (Kd.R_over' (kR HO_5.out) (Kd.R_typed (kR HO_4.out)) (by decide) hg) (aT (Kd.R_after (ok := (fun _ => True)) (rM HO_11.out (fun _ hk => ⟨trivial, hk⟩)) hg hat) (aT (blk_grown (g := gb449) (o := .cells #[.slice A0_0 l0_0.length c0_0, .slice A0_1 l0_1.length c0_1] 27 (0, 0)) (kB BK449.out) hg (Kd.R_ne HO_4.out BK449.out (by decide))) (aT (hb) (aM (ho))))); clear HO_5 HO_11 BK449 HB HO_4; obtain ⟨HO_5, HO_11, BK449, HB, HO478⟩ := n_; clear ho hb hg hat))
                  go_roundg k4
                  case measure => have := HK1.out; have := HK2.out; have := HJ17.out; have := HK4.out; omega
                  case rel => exact ⟨(y476), (wrap64 (x13_4 + 1)), eX, H', ⟨(by have := HK1.out; have := HK2.out; have := HJ17.out; have := HK4.out; omega)⟩, ⟨(kR HO478.out)⟩, ⟨(kR HO_5.out)⟩, ⟨(rM HO_11.out (fun _ hk => hk.2))⟩, ⟨(kB BK449.out)⟩, ⟨bS⟩⟩
                 rw [if_neg c35] at H
                 exact absurd H (by simp)
                rw [if_neg c30] at H
                exact absurd H (by simp)
               rw [if_neg c29] at H
               have c29b0 := decide_eq_false c29
               clear c29
               have H' := Aside0.mk H
               clear H
               obtain ⟨Ao39, co39, eo39⟩ := Kd.R_slice HO_11.out
               subst eo39
               go_wp2
               go_loopg [4, 14] k4 (fun kq v4 v14 w' => ∃ (x4_5 : List ByteArray) (x14_5 : Int), v14 = .int .i64 x14_5 ∧ Aside0 (spec_l3Close.l3 kq x4_5 x5_17 (x4_1.length : Int) (x5_1.length : Int) x8_2 x14_5 = some (r1, r2)) ∧ Aside0 (kq ≤ k4) ∧ Aside0 (Kd.R Kd.string 9 w' w.heap.size (fun _ => True) v4 x4_5) ∧ Aside0 (Kd.R (Kd.int .i64) 3 w' w.heap.size (fun _ => True) u5 x5_17) ∧ Aside0 (w'.heap[gb449]? = some (.cells #[(.slice A0_0 l0_0.length c0_0), (.slice A0_1 l0_1.length c0_1)] 27 (0, 0))) ∧ Aside0 (Below w.heap.size w w'))
               case atStart => exact ⟨(x4_4), (0), eX, H', ⟨Nat.le_refl _⟩, ⟨(rM HO_4.out (fun _ hk => trivial))⟩, ⟨(kR HO_5.out)⟩, ⟨(kB BK449.out)⟩, ⟨bS⟩⟩
               case round =>
                clear H'
                try clear c2
                try clear c3
                try clear c15
                try clear c15b0
                try clear c16
                try clear c16b0
                try clear c25
                try clear c25b0
                try clear c26
                try clear c26b0
                try clear c29
                try clear c29b0
                try clear hcz11_0
                try clear hcz11_1
                try clear hcz7_0
                try clear hcz7_1
                try clear hfz11_0
                try clear hfz11_1
                try clear hfz7_0
                try clear hfz7_1
                try clear hx462_0
                try clear hx468_0
                try clear p462
                try clear p468
                try clear q462
                try clear q468
                obtain ⟨x4_5, x14_5, rfl, HA, HK5, HO_4, HO_5, BK449, HB⟩ := hrel
                cases gk with
                | zero => exact absurd HA.out (by simp [spec_l3Close.l3])
                | succ k5 =>
                 have H := HA.out
                 clear HA
                 simp only [spec_l3Close.l3] at H
                 by_cases c40 : x14_5 < (x5_17.length : Int)
                 ·rw [if_pos c40] at H
                  have c40b0 := decide_eq_true c40
                  clear c40
                  by_cases c41 : 0 ≤ x8_2
                  ·rw [if_pos c41] at H
                   have c41b0 := decide_eq_true c41
                   clear c41
                   by_cases c42 : x8_2 < (x4_5.length : Int)
                   ·rw [if_pos c42] at H
                    have c42b0 := decide_eq_true c42
                    clear c42
                    by_cases c43 : 0 ≤ x14_5
                    ·rw [if_pos c43] at H
                     have c43b0 := decide_eq_true c43
                     clear c43
                     obtain ⟨⟨t481, t482⟩, A44, H⟩ := oB H
                     dsimp only at H
                     by_cases c45 : t482 = true
                     ·subst c45
                      rw [if_pos rfl] at H
                      obtain ⟨t483, A46, H⟩ := oB H
                      by_cases c47 : t483 = true
                      ·subst c47
                       rw [if_pos rfl] at H
                       have H' := Aside0.mk H
                       clear H
                       obtain ⟨Ao48, co48, eo48⟩ := Kd.R_slice HO_5.out
                       subst eo48
                       try go_wp2
                       have n_ := aT (Kd.R_drew HO_4.out) (aT (Kd.R_drew HO_5.out) (aT (blk_drew BK449.out) (aM (below_drew1 HB.out))))
                       clear HO_4 HO_5 BK449 HB
                       obtain ⟨HO_4, HO_5, BK449, HB⟩ := n_
                       obtain ⟨Ao50, co50, eo50⟩ := Kd.R_slice HO_4.out
                       (first | subst eo50 | (injection eo50 with f1_ f2_ f3_; have f4_ := f1_.symm; have f5_ := f3_.symm; clear f1_ f2_ f3_; subst f4_; subst f5_))
                       have p479 : 0 ≤ (x8_2 : Int) := of_decide_eq_true aA
                       have q479 : x8_2 < (x4_5.length : Int) := of_decide_eq_true aA
                       obtain ⟨ad479, e479, hx479_0⟩ := Kd.at_string (Kd.R_reads' HO_4.out).2.2 x8_2 p479 q479
                       cases e479
                       replace p479 := eq_true p479
                       replace q479 := eq_true q479
                       have p480 : 0 ≤ (x14_5 : Int) := of_decide_eq_true aA
                       have q480 : x14_5 < (x5_17.length : Int) := of_decide_eq_true aA
                       obtain ⟨ad480, e480, hx480_0⟩ := Kd.at_int (Kd.R_reads' HO_5.out).2.2 x14_5 p480 q480
                       cases e480
                       replace p480 := eq_true p480
                       replace q480 := eq_true q480
                       refine start_ (n := 14) (S := fun w' => w'.cell? (ad479.add (x8_2).toNat) = some (.string (rdOf ByteArray.empty x4_5 x8_2)) ∧ w'.cell? (ad480.add (x14_5).toNat) = some (.int .i64 (rd x5_17 x14_5))) (ds := []) _ (by kernel_rfl) rfl rfl ⟨hx479_0, hx480_0⟩ (fun hHeld => ?_); refine with_tabW spec_l3Close.tab20 spec_l3Close.bits20 (fun HT_ HW_ => ?_)
                       generalize wr.drew = w49 at HO_4 HO_5 BK449 HB hx479_0 hx480_0 hHeld ⊢
                       refine pU HT_ 0 (some 82) (mk 14 1) rfl rfl (h := ?_)
                       refine pU HT_ 1 (some 83) (mk 14 3) rfl rfl (h := ?_)
                       refine pU HT_ 2 (some 84) (mk 14 7) rfl rfl (h := ?_)
                       refine pU HT_ 4 (some 86) (mk 14 23) rfl rfl (h := ?_)
                       refine pU HT_ 5 (some 87) (mk 14 55) rfl rfl (h := ?_)
                       refine pU HT_ 6 (some 88) (mk 14 119) rfl rfl (h := ?_)
                       refine tU HT_ HW_ 3 (some 85) (mk 14 127) hHeld rfl rfl (by rintro w' ⟨s0, s1⟩; go_simp; with_reducible rfl) (h := ?_)
                       refine tU HT_ HW_ 7 (some 89) (mk 14 255) hHeld rfl rfl (by rintro w' ⟨s0, s1⟩; go_simp; with_reducible rfl) (h := ?_)
                       refine one_ (i := 8) (N := some 90) (mk 14 511) rfl rfl (one_of HT_.out (by kernel_rfl)) (by decide) (fun K hK => ?_)
                       refine goes_ Try.func85 (by kernel_rfl) rfl #[.string (rdOf ByteArray.empty x4_5 x8_2), .int .i64 (rd x5_17 x14_5)] (by rfl) rfl rfl eA ?_
                       with_reducible refine (spec_Open.calls k5 (rdOf ByteArray.empty x4_5 x8_2) (rd x5_17 x14_5) t481 true _ A44.out).mono ?_
                       rintro e w51 ⟨rfl, hb⟩
                       have HS0_ := (hb.cell (World.block_lt_of_cell? _ _ (hHeld.1))).trans (hHeld.1)
                       have HS1_ := (hb.cell (World.block_lt_of_cell? _ _ (hHeld.2))).trans (hHeld.2)
                       refine ⟨_, rfl, ?_⟩
                       have n_ := aT (Kd.R_below (kR HO_4.out) hb) (aT (Kd.R_below (kR HO_5.out) hb) (aT (blk_below (kB BK449.out) hb) (aM (below_step bS hb))))
                       clear HO_4 HO_5 BK449 HB
                       obtain ⟨HO_4, HO_5, BK449, HB⟩ := n_
                       (try clear hb)
                       (try clear hb2)
                       (try clear hk)
                       (try clear hi)
                       refine hK.out _ _ ⟨HS0_, HS1_⟩ (fun hHeld => ?_)
                       clear hK K
                       refine nO (some 90) (h := ?_)
                       refine pU HT_ 9 (some 81) (mk 14 1023) rfl rfl (h := ?_)
                       refine pU HT_ 10 (some 91) (mk 14 2047) rfl rfl (h := ?_)
                       refine pU HT_ 11 (some 92) (mk 14 4095) rfl rfl (h := ?_)
                       refine pU HT_ 12 (some 15) (mk 14 8191) rfl rfl (h := ?_)
                       refine pU HT_ 13 (some 16) (mk 14 16383) rfl rfl (h := ?_)
                       refine done_ (done_of HT_.out (by kernel_rfl)) ?_
                       try go_wp2_with (first | (go_at_call 43; (with_reducible refine (spec_l3In.calls k5 _ _ x4_5 t481 true _ ?side1 ?side2 A46.out).mono ?_); (case side1 => exact cA ((Kd.R_reads' HO_4.out).2.2)); (case side2 => exact (Kd.R_reads' HO_4.out).2.1); rintro e w' ⟨rfl, ⟨nd, rfl⟩⟩))
                       go_roundg k5
                       case measure => have := HK1.out; have := HK2.out; have := HJ17.out; have := HK4.out; have := HK5.out; omega
                       case rel => exact ⟨(x4_5), (wrap64 (x14_5 + 1)), eX, H', ⟨(by have := HK1.out; have := HK2.out; have := HJ17.out; have := HK4.out; have := HK5.out; omega)⟩, ⟨(kR HO_4.out)⟩, ⟨(kR HO_5.out)⟩, ⟨(kB BK449.out)⟩, ⟨bS⟩⟩
                      replace c47 := Bool.eq_false_iff.mpr c47
                      subst c47
                      rw [if_neg nF] at H
                      by_cases c52 : x4_5.length < 8796093022208
                      ·rw [if_pos c52] at H
                       have LMc52 := Aside0.mk c52
                       clear c52
                       obtain ⟨y484, hy484⟩ : ∃ y_ : List ByteArray, y_ = (x4_5 ++ [t481]) := ⟨_, rfl⟩
                       replace H : (spec_l3Close.l3 k5 y484 x5_17 (x4_1.length : Int) (x5_1.length : Int) x8_2 (wrap64 (x14_5 + 1))) = some (r1, r2) := by first | (rw [hy484]; with_reducible exact H) | (have H2_ := (Option.bind_some _ _).symm.trans H; rw [hy484]; with_reducible exact H2_) | (have H2_ := (Option.bind_some _ _).symm.trans H; with_reducible exact H2_) | with_reducible exact H | (rw [hy484]; exact H) | exact H
                       have Ny484 := Aside0.mk hy484
                       clear hy484
                       have H' := Aside0.mk H
                       clear H
                       obtain ⟨Ao53, co53, eo53⟩ := Kd.R_slice HO_5.out
                       subst eo53
                       try go_wp2
                       have n_ := aT (Kd.R_drew HO_4.out) (aT (Kd.R_drew HO_5.out) (aT (blk_drew BK449.out) (aM (below_drew1 HB.out))))
                       clear HO_4 HO_5 BK449 HB
                       obtain ⟨HO_4, HO_5, BK449, HB⟩ := n_
                       obtain ⟨Ao55, co55, eo55⟩ := Kd.R_slice HO_4.out
                       (first | subst eo55 | (injection eo55 with f1_ f2_ f3_; have f4_ := f1_.symm; have f5_ := f3_.symm; clear f1_ f2_ f3_; subst f4_; subst f5_))
                       have p479 : 0 ≤ (x8_2 : Int) := of_decide_eq_true aA
                       have q479 : x8_2 < (x4_5.length : Int) := of_decide_eq_true aA
                       obtain ⟨ad479, e479, hx479_0⟩ := Kd.at_string (Kd.R_reads' HO_4.out).2.2 x8_2 p479 q479
                       cases e479
                       replace p479 := eq_true p479
                       replace q479 := eq_true q479
                       have p480 : 0 ≤ (x14_5 : Int) := of_decide_eq_true aA
                       have q480 : x14_5 < (x5_17.length : Int) := of_decide_eq_true aA
                       obtain ⟨ad480, e480, hx480_0⟩ := Kd.at_int (Kd.R_reads' HO_5.out).2.2 x14_5 p480 q480
                       cases e480
                       replace p480 := eq_true p480
                       replace q480 := eq_true q480
                       refine start_ (n := 14) (S := fun w' => w'.cell? (ad479.add (x8_2).toNat) = some (.string (rdOf ByteArray.empty x4_5 x8_2)) ∧ w'.cell? (ad480.add (x14_5).toNat) = some (.int .i64 (rd x5_17 x14_5))) (ds := []) _ (by kernel_rfl) rfl rfl ⟨hx479_0, hx480_0⟩ (fun hHeld => ?_); refine with_tabW spec_l3Close.tab20 spec_l3Close.bits20 (fun HT_ HW_ => ?_)
                       generalize wr.drew = w54 at HO_4 HO_5 BK449 HB hx479_0 hx480_0 hHeld ⊢
                       refine pU HT_ 0 (some 82) (mk 14 1) rfl rfl (h := ?_)
                       refine pU HT_ 1 (some 83) (mk 14 3) rfl rfl (h := ?_)
                       refine pU HT_ 2 (some 84) (mk 14 7) rfl rfl (h := ?_)
                       refine pU HT_ 4 (some 86) (mk 14 23) rfl rfl (h := ?_)
                       refine pU HT_ 5 (some 87) (mk 14 55) rfl rfl (h := ?_)
                       refine pU HT_ 6 (some 88) (mk 14 119) rfl rfl (h := ?_)
                       refine tU HT_ HW_ 3 (some 85) (mk 14 127) hHeld rfl rfl (by rintro w' ⟨s0, s1⟩; go_simp; with_reducible rfl) (h := ?_)
                       refine tU HT_ HW_ 7 (some 89) (mk 14 255) hHeld rfl rfl (by rintro w' ⟨s0, s1⟩; go_simp; with_reducible rfl) (h := ?_)
                       refine one_ (i := 8) (N := some 90) (mk 14 511) rfl rfl (one_of HT_.out (by kernel_rfl)) (by decide) (fun K hK => ?_)
                       refine goes_ Try.func85 (by kernel_rfl) rfl #[.string (rdOf ByteArray.empty x4_5 x8_2), .int .i64 (rd x5_17 x14_5)] (by rfl) rfl rfl eA ?_
                       with_reducible refine (spec_Open.calls k5 (rdOf ByteArray.empty x4_5 x8_2) (rd x5_17 x14_5) t481 true _ A44.out).mono ?_
                       rintro e w56 ⟨rfl, hb⟩
                       have HS0_ := (hb.cell (World.block_lt_of_cell? _ _ (hHeld.1))).trans (hHeld.1)
                       have HS1_ := (hb.cell (World.block_lt_of_cell? _ _ (hHeld.2))).trans (hHeld.2)
                       refine ⟨_, rfl, ?_⟩
                       have n_ := aT (Kd.R_below (kR HO_4.out) hb) (aT (Kd.R_below (kR HO_5.out) hb) (aT (blk_below (kB BK449.out) hb) (aM (below_step bS hb))))
                       clear HO_4 HO_5 BK449 HB
                       obtain ⟨HO_4, HO_5, BK449, HB⟩ := n_
                       (try clear hb)
                       (try clear hb2)
                       (try clear hk)
                       (try clear hi)
                       refine hK.out _ _ ⟨HS0_, HS1_⟩ (fun hHeld => ?_)
                       clear hK K
                       refine nO (some 90) (h := ?_)
                       refine pU HT_ 9 (some 81) (mk 14 1023) rfl rfl (h := ?_)
                       refine pU HT_ 10 (some 91) (mk 14 2047) rfl rfl (h := ?_)
                       refine pU HT_ 11 (some 92) (mk 14 4095) rfl rfl (h := ?_)
                       refine pU HT_ 12 (some 15) (mk 14 8191) rfl rfl (h := ?_)
                       refine pU HT_ 13 (some 16) (mk 14 16383) rfl rfl (h := ?_)
                       refine done_ (done_of HT_.out (by kernel_rfl)) ?_
                       try go_wp2_with (first | (go_at_call 43; (with_reducible refine (spec_l3In.calls k5 _ _ x4_5 t481 false _ ?side1 ?side2 A46.out).mono ?_); (case side1 => exact cA ((Kd.R_reads' HO_4.out).2.2)); (case side2 => exact (Kd.R_reads' HO_4.out).2.1); rintro e w' ⟨rfl, ⟨nd, rfl⟩⟩) | ((with_reducible refine gate_builtin (b := .append) (xs := #[.tmp 100, .tmp 102]) rfl ?_); (try (refine gate_guard (by rfl) ?_; dsimp only)); at_builtin; refine Kd.R_append Kd.string (w0 := w) w.heap.size rfl (.tmp 100) (.tmp 102) 24 9 (.string ⟨#[]⟩) 16 rfl Try.underlying24 info9 rfl (by decide) (by omega) (.slice (some ad479) x4_5.length co55) x4_5 t481 [.string t481] (fun _ => True) (fun _ => False) rfl rfl ?aP (fun _ hk => hk.elim) ?aF ?aO ?aB ?aS ?aL ?_; (case aP => exact rfl); (case aB => exact bS); (case aF => exact (fun _ _ => trivial)); (case aO => exact (kR HO_4.out)); (case aS => exact (below_size bS)); (case aL => have := LMc52.out; omega); intro v485 w57 ho hb hg hat; rw [← Ny484.out] at ho; have n_ := aT (Kd.R_over' (kR HO_5.out) (Kd.R_typed (kR HO_4.out)) (by decide) hg) (aT (blk_grown (g := gb449) (o := .cells #[.slice A0_0 l0_0.length c0_0, .slice A0_1 l0_1.length c0_1] 27 (0, 0)) (kB BK449.out) hg (Kd.R_ne HO_4.out BK449.out (by decide))) (aT (hb) (aM (ho)))); clear HO_5 BK449 HB HO_4; obtain ⟨HO_5, BK449, HB, HO486⟩ := n_; clear ho hb hg hat))
                       go_roundg k5
                       case measure => have := HK1.out; have := HK2.out; have := HJ17.out; have := HK4.out; have := HK5.out; omega
                       case rel => exact ⟨(y484), (wrap64 (x14_5 + 1)), eX, H', ⟨(by have := HK1.out; have := HK2.out; have := HJ17.out; have := HK4.out; have := HK5.out; omega)⟩, ⟨(kR HO486.out)⟩, ⟨(kR HO_5.out)⟩, ⟨(kB BK449.out)⟩, ⟨bS⟩⟩
                      rw [if_neg c52] at H
                      exact absurd H (by simp)
                     replace c45 := Bool.eq_false_iff.mpr c45
                     subst c45
                     rw [if_neg nF] at H
                     have H' := Aside0.mk H
                     clear H
                     obtain ⟨Ao58, co58, eo58⟩ := Kd.R_slice HO_5.out
                     subst eo58
                     try go_wp2
                     have n_ := aT (Kd.R_drew HO_4.out) (aT (Kd.R_drew HO_5.out) (aT (blk_drew BK449.out) (aM (below_drew1 HB.out))))
                     clear HO_4 HO_5 BK449 HB
                     obtain ⟨HO_4, HO_5, BK449, HB⟩ := n_
                     obtain ⟨Ao60, co60, eo60⟩ := Kd.R_slice HO_4.out
                     (first | subst eo60 | (injection eo60 with f1_ f2_ f3_; have f4_ := f1_.symm; have f5_ := f3_.symm; clear f1_ f2_ f3_; subst f4_; subst f5_))
                     have p479 : 0 ≤ (x8_2 : Int) := of_decide_eq_true aA
                     have q479 : x8_2 < (x4_5.length : Int) := of_decide_eq_true aA
                     obtain ⟨ad479, e479, hx479_0⟩ := Kd.at_string (Kd.R_reads' HO_4.out).2.2 x8_2 p479 q479
                     cases e479
                     replace p479 := eq_true p479
                     replace q479 := eq_true q479
                     have p480 : 0 ≤ (x14_5 : Int) := of_decide_eq_true aA
                     have q480 : x14_5 < (x5_17.length : Int) := of_decide_eq_true aA
                     obtain ⟨ad480, e480, hx480_0⟩ := Kd.at_int (Kd.R_reads' HO_5.out).2.2 x14_5 p480 q480
                     cases e480
                     replace p480 := eq_true p480
                     replace q480 := eq_true q480
                     refine start_ (n := 14) (S := fun w' => w'.cell? (ad479.add (x8_2).toNat) = some (.string (rdOf ByteArray.empty x4_5 x8_2)) ∧ w'.cell? (ad480.add (x14_5).toNat) = some (.int .i64 (rd x5_17 x14_5))) (ds := []) _ (by kernel_rfl) rfl rfl ⟨hx479_0, hx480_0⟩ (fun hHeld => ?_); refine with_tabW spec_l3Close.tab20 spec_l3Close.bits20 (fun HT_ HW_ => ?_)
                     generalize wr.drew = w59 at HO_4 HO_5 BK449 HB hx479_0 hx480_0 hHeld ⊢
                     refine pU HT_ 0 (some 82) (mk 14 1) rfl rfl (h := ?_)
                     refine pU HT_ 1 (some 83) (mk 14 3) rfl rfl (h := ?_)
                     refine pU HT_ 2 (some 84) (mk 14 7) rfl rfl (h := ?_)
                     refine pU HT_ 4 (some 86) (mk 14 23) rfl rfl (h := ?_)
                     refine pU HT_ 5 (some 87) (mk 14 55) rfl rfl (h := ?_)
                     refine pU HT_ 6 (some 88) (mk 14 119) rfl rfl (h := ?_)
                     refine tU HT_ HW_ 3 (some 85) (mk 14 127) hHeld rfl rfl (by rintro w' ⟨s0, s1⟩; go_simp; with_reducible rfl) (h := ?_)
                     refine tU HT_ HW_ 7 (some 89) (mk 14 255) hHeld rfl rfl (by rintro w' ⟨s0, s1⟩; go_simp; with_reducible rfl) (h := ?_)
                     refine one_ (i := 8) (N := some 90) (mk 14 511) rfl rfl (one_of HT_.out (by kernel_rfl)) (by decide) (fun K hK => ?_)
                     refine goes_ Try.func85 (by kernel_rfl) rfl #[.string (rdOf ByteArray.empty x4_5 x8_2), .int .i64 (rd x5_17 x14_5)] (by rfl) rfl rfl eA ?_
                     with_reducible refine (spec_Open.calls k5 (rdOf ByteArray.empty x4_5 x8_2) (rd x5_17 x14_5) t481 false _ A44.out).mono ?_
                     rintro e w61 ⟨rfl, hb⟩
                     have HS0_ := (hb.cell (World.block_lt_of_cell? _ _ (hHeld.1))).trans (hHeld.1)
                     have HS1_ := (hb.cell (World.block_lt_of_cell? _ _ (hHeld.2))).trans (hHeld.2)
                     refine ⟨_, rfl, ?_⟩
                     have n_ := aT (Kd.R_below (kR HO_4.out) hb) (aT (Kd.R_below (kR HO_5.out) hb) (aT (blk_below (kB BK449.out) hb) (aM (below_step bS hb))))
                     clear HO_4 HO_5 BK449 HB
                     obtain ⟨HO_4, HO_5, BK449, HB⟩ := n_
                     (try clear hb)
                     (try clear hb2)
                     (try clear hk)
                     (try clear hi)
                     refine hK.out _ _ ⟨HS0_, HS1_⟩ (fun hHeld => ?_)
                     clear hK K
                     refine nO (some 90) (h := ?_)
                     refine pU HT_ 9 (some 81) (mk 14 1023) rfl rfl (h := ?_)
                     refine pU HT_ 10 (some 91) (mk 14 2047) rfl rfl (h := ?_)
                     refine pU HT_ 11 (some 92) (mk 14 4095) rfl rfl (h := ?_)
                     refine pU HT_ 12 (some 15) (mk 14 8191) rfl rfl (h := ?_)
                     refine pU HT_ 13 (some 16) (mk 14 16383) rfl rfl (h := ?_)
                     refine done_ (done_of HT_.out (by kernel_rfl)) ?_
                     try go_wp2
                     go_roundg k5
                     case measure => have := HK1.out; have := HK2.out; have := HJ17.out; have := HK4.out; have := HK5.out; omega
                     case rel => exact ⟨(x4_5), (wrap64 (x14_5 + 1)), eX, H', ⟨(by have := HK1.out; have := HK2.out; have := HJ17.out; have := HK4.out; have := HK5.out; omega)⟩, ⟨(kR HO_4.out)⟩, ⟨(kR HO_5.out)⟩, ⟨(kB BK449.out)⟩, ⟨bS⟩⟩
                    rw [if_neg c43] at H
                    exact absurd H (by simp)
                   rw [if_neg c42] at H
                   exact absurd H (by simp)
                  rw [if_neg c41] at H
                  exact absurd H (by simp)
                 rw [if_neg c40] at H
                 have c40b0 := decide_eq_false c40
                 clear c40
                 have H' := Aside0.mk H
                 clear H
                 obtain ⟨Ao62, co62, eo62⟩ := Kd.R_slice HO_5.out
                 subst eo62
                 go_wp2
                 go_roundg k5
                 case measure => have := HK1.out; have := HK2.out; have := HJ17.out; have := HK4.out; have := HK5.out; omega
                 case rel => exact ⟨(x4_5), (x5_17), (wrap64 (x8_2 + 1)), eX, H', ⟨(by have := HK1.out; have := HK2.out; have := HJ17.out; have := HK4.out; have := HK5.out; omega)⟩, ⟨(kR HO_4.out)⟩, ⟨(kR HO_5.out)⟩, ⟨(kB BK449.out)⟩, ⟨bS⟩⟩
            rw [if_neg c26] at H
            exact absurd H (by simp)
           rw [if_neg c25] at H
           exact absurd H (by simp)
        rw [if_neg c16] at H
        exact absurd H (by simp)
       rw [if_neg c15] at H
       have c15b0 : decide (x8_2 < (x4_2.length : Int)) = false := decide_eq_false c15
       clear c15
       by_cases c63 : (x4_2.length : Int) = (x4_1.length : Int)
       ·rw [if_pos c63] at H
        have c63b0 : ((x4_2.length : Int) == (x4_1.length : Int)) = true := beq_iff_eq.mpr c63
        have c63b1 : ((x4_2.length : Int) != (x4_1.length : Int)) = false := bne_eq_false_iff_eq.mpr c63
        have c63b2 : (x4_2.length == x4_1.length) = true := by first | simpa using c63 | (simp at c63 ⊢; omega)
        clear c63
        by_cases c64 : (x5_2.length : Int) = (x5_1.length : Int)
        ·rw [if_pos c64] at H
         have c64b0 : ((x5_2.length : Int) == (x5_1.length : Int)) = true := beq_iff_eq.mpr c64
         have c64b1 : ((x5_2.length : Int) != (x5_1.length : Int)) = false := bne_eq_false_iff_eq.mpr c64
         have c64b2 : (x5_2.length == x5_1.length) = true := by first | simpa using c64 | (simp at c64 ⊢; omega)
         clear c64
         simp only [Option.some.injEq, Prod.mk.injEq] at H
         obtain ⟨rfl, rfl⟩ := H
         obtain ⟨Ao65, co65, eo65⟩ := Kd.R_slice HO_4.out
         subst eo65
         obtain ⟨Ao66, co66, eo66⟩ := Kd.R_slice HO_5.out
         subst eo66
         go_wp2
         go_ret2
         exact ⟨_, _, eE, (kR HO_4.out), (kR HO_5.out), bS⟩
        rw [if_neg c64] at H
        have c64b0 : ((x5_2.length : Int) == (x5_1.length : Int)) = false := beq_eq_false_iff_ne.mpr c64
        have c64b1 : ((x5_2.length : Int) != (x5_1.length : Int)) = true := bne_iff_ne.mpr c64
        have c64b2 : (x5_2.length == x5_1.length) = false := by first | simpa using c64 | (simp at c64 ⊢; omega)
        have H' := Aside0.mk H
        clear H
        obtain ⟨Ao67, co67, eo67⟩ := Kd.R_slice HO_4.out
        subst eo67
        obtain ⟨Ao68, co68, eo68⟩ := Kd.R_slice HO_5.out
        subst eo68
        go_wp2
        go_roundg k2
        case measure => have := HK1.out; have := HK2.out; omega
        case rel => exact ⟨(x4_2), (x5_2), H', ⟨(by have := HK1.out; have := HK2.out; omega)⟩, ⟨(kR HO_4.out)⟩, ⟨(kR HO_5.out)⟩, ⟨(kB BK449.out)⟩, ⟨bS⟩⟩
       rw [if_neg c63] at H
       have c63b0 : ((x4_2.length : Int) == (x4_1.length : Int)) = false := beq_eq_false_iff_ne.mpr c63
       have c63b1 : ((x4_2.length : Int) != (x4_1.length : Int)) = true := bne_iff_ne.mpr c63
       have c63b2 : (x4_2.length == x4_1.length) = false := by first | simpa using c63 | (simp at c63 ⊢; omega)
       have H' := Aside0.mk H
       clear H
       obtain ⟨Ao69, co69, eo69⟩ := Kd.R_slice HO_4.out
       subst eo69
       go_wp2
       go_roundg k2
       case measure => have := HK1.out; have := HK2.out; omega
       case rel => exact ⟨(x4_2), (x5_2), H', ⟨(by have := HK1.out; have := HK2.out; omega)⟩, ⟨(kR HO_4.out)⟩, ⟨(kR HO_5.out)⟩, ⟨(kB BK449.out)⟩, ⟨bS⟩⟩
  rw [if_neg c3] at H
  exact absurd H (by simp)
 rw [if_neg c2] at H
 exact absurd H (by simp)

end Go.Proofs.Ythlpfghlildllaa.OFnKnown
-- wrapped
-- halved
-- squeezed
-- squeezed2
-- squeezed3
