-- walks of this claim, written by a program of mine
import Derived.Test.YthlpfghlildllaaOFnKnownx0
import Derived.Test.YthlpfghlildllaaOFnKnownx10
import Derived.Test.YthlpfghlildllaaOFnKnownx11
import Derived.Test.YthlpfghlildllaaOFnKnownx12
import Derived.Test.YthlpfghlildllaaOFnKnownx13
import Derived.Test.YthlpfghlildllaaOFnKnownx16
namespace Go.Proofs.Ythlpfghlildllaa.OFnKnown
open Go.RowKit Go.Proofs.Ythlpfghlildllaa.OWord Go.Proofs.YthlpfghlildllaaW.PrintWords Go.Proofs.YthlpfghlildllaaW.PrintLast Go.Proofs.YthlpfghlildllaaW.PrintMore
attribute [local go_sem] max2_int min2_int max_two min_two max_three min_three max_four min_four   -- for this text's walks alone
set_option linter.unusedVariables false
set_option linter.unusedSimpArgs false

/-! ### impl_copyKnown: function 55 -/
def impl_copyKnown.f (l0_0 : List ByteArray) (l0_1 : List Int) : Option (List ByteArray × List Int) := (impl_copyTexts.f l0_0).bind fun t519 => ((impl_copyInts.f l0_1).bind fun t522 => (some (t519, t522)))
def impl_copyKnown.T1 : Bool × List (List Nat × List Nat) := (true, [([], []), ([0], [0]), ([1], [1]), ([], []), ([3], [3]), ([4, 2], [4]), ([2, 5], [2, 5]), ([6, 5, 0, 1, 2, 3, 4, 5, 6], [6])])
def impl_copyKnown.B1 : List Nat := [0, 1, 3, 0, 8, 31, 63, 127]
theorem impl_copyKnown.tab1 : rtab .any (opsOf Try.f55 1) = impl_copyKnown.T1 := by kernel_rfl
theorem impl_copyKnown.bits1 : waitsOk impl_copyKnown.T1.2 impl_copyKnown.B1 = true := by kernel_rfl
set_option maxHeartbeats 8000000 in
set_option maxRecDepth 100000 in
theorem impl_copyKnown.calls (A0_0 : Option Addr) (c0_0 : Nat) (l0_0 : List ByteArray) (A0_1 : Option Addr) (c0_1 : Nat) (l0_1 : List Int) (r1 : List ByteArray) (r2 : List Int) (w : World) (hr0_0 : Kd.C Kd.string w A0_0 l0_0.length l0_0) (hc0_0 : l0_0.length ≤ c0_0) (hr0_1 : Kd.C (Kd.int .i64) w A0_1 l0_1.length l0_1) (hc0_1 : l0_1.length ≤ c0_1) (h : impl_copyKnown.f l0_0 l0_1 = some (r1, r2)) :
  Calls Try.prog 55 #[.agg #[.slice A0_0 l0_0.length c0_0, .slice A0_1 l0_1.length c0_1]] w fun e w' => ∃ v0_ v1_ : Value, e = .returned (.agg #[v0_, v1_]) ∧ Kd.R Kd.string 9 w' w.heap.size (fun _ => True) v0_ r1 ∧ Kd.R (Kd.int .i64) 3 w' w.heap.size (fun _ => True) v1_ r2 ∧ Below w.heap.size w w' := by
 have hu27 := Try.underlying27
 have HR0_0 := Aside0.mk hr0_0
 have HC0_0 := Aside0.mk hc0_0
 clear hr0_0 hc0_0
 have HR0_1 := Aside0.mk hr0_1
 have HC0_1 := Aside0.mk hc0_1
 clear hr0_1 hc0_1
 have HB := Aside0.mk (Below.refl w.heap.size w)
 have H := h
 clear h
 unfold impl_copyKnown.f at H
 obtain ⟨t519, A2, H⟩ := oB H
 obtain ⟨t522, A3, H⟩ := oB H
 simp only [Option.some.injEq, Prod.mk.injEq] at H
 obtain ⟨rfl, rfl⟩ := H
 go_enter Try.func55, Try.ntmps55
 try go_wp2_with (first | (refine bE 1 #[.slice A0_0 l0_0.length c0_0, .slice A0_1 l0_1.length c0_1] 27 ?_; intro gb517 hg w4 hbox hb; have n_ := aT (below_step bH hb) (aT (hbox) (aT ((bZ hg : w.heap.size ≤ gb517)) (aM ((bZ hg : w.heap.size ≤ gb517))))); clear HB; obtain ⟨HB, BK517, GW517, GE517⟩ := n_; clear hb hbox hg) | (refine bE 2 #[.slice none 0 0, .slice none 0 0] 27 ?_; intro gb518 hg w5 hbox hb; have n_ := aT (blk_below (kB BK517.out) hb) (aT (below_step bS hb) (aT (hbox) (aT ((bZ hg : w.heap.size ≤ gb518)) (aT ((bZ hg : w.heap.size ≤ gb518)) (aT ((nL hg BK517.out : gb517 ≠ gb518)) (aM ((nG hg BK517.out : gb518 ≠ gb517)))))))); clear BK517 HB; obtain ⟨BK517, HB, BK518, GW518, GE518, NB517_518, NB518_517⟩ := n_; clear hb hbox hg))
 have n_ := aT (blk_drew BK517.out) (aT (blk_drew BK518.out) (aM (below_drew1 HB.out)))
 clear BK517 BK518 HB
 obtain ⟨BK517, BK518, HB⟩ := n_
 refine start_ (n := 8) (S := fun w' => w'.cell? ⟨gb517, 0, none⟩ = some (.slice A0_0 l0_0.length c0_0) ∧ w'.cell? ⟨gb517, 1, none⟩ = some (.slice A0_1 l0_1.length c0_1)) (ds := []) _ (by kernel_rfl) rfl rfl ⟨(blk_cell BK517.out 0).trans rfl, (blk_cell BK517.out 1).trans rfl⟩ (fun hHeld => ?_); refine with_tabW impl_copyKnown.tab1 impl_copyKnown.bits1 (fun HT_ HW_ => ?_)
 generalize w5.drew = w6 at BK517 BK518 HB hHeld ⊢
 refine pU HT_ 0 (some 3) (mk 8 1) rfl rfl (h := ?_)
 refine pU HT_ 3 (some 6) (mk 8 9) rfl rfl (h := ?_)
 refine tU HT_ HW_ 1 (some 4) (mk 8 11) hHeld rfl rfl (by rintro w' ⟨s0, s1⟩; go_simp; with_reducible rfl) (h := ?_)
 refine tU HT_ HW_ 4 (some 7) (mk 8 27) hHeld rfl rfl (by rintro w' ⟨s0, s1⟩; go_simp; with_reducible rfl) (h := ?_)
 refine one_ (i := 2) (N := some 5) (mk 8 31) rfl rfl (one_of HT_.out (by kernel_rfl)) (by decide) (fun K hK => ?_)
 refine goes_ Try.func88 (by kernel_rfl) rfl #[.slice A0_0 l0_0.length c0_0] (by rfl) rfl rfl eA ?_
 with_reducible refine (impl_copyTexts.calls _ _ l0_0 t519 _ ?side1 ?side2 A2.out).mono ?_
 (case side1 => exact cA (Kd.C_below HR0_0.out HB.out))
 (case side2 => exact HC0_0.out)
 rintro e w7 ⟨v520, rfl, ho0, hb⟩
 refine ⟨_, rfl, ?_⟩
 have n_ := aT (Kd.R_lower ho0 (below_size bS)) (aT (blk_below (kB BK517.out) hb) (aT (blk_below (kB BK518.out) hb) (aM (below_step bS hb))))
 clear BK517 BK518 HB
 obtain ⟨HO521, BK517, BK518, HB⟩ := n_
 (try clear hb)
 (try clear ho0)
 refine hK.out _ _ ⟨(blk_cell BK517.out 0).trans rfl, (blk_cell BK517.out 1).trans rfl⟩ (fun hHeld => ?_)
 clear hK K
 refine nO (some 5) (h := ?_)
 refine one_ (i := 5) (N := some 8) (mk 8 63) rfl rfl (one_of HT_.out (by kernel_rfl)) (by decide) (fun K hK => ?_)
 refine goes_ Try.func89 (by kernel_rfl) rfl #[.slice A0_1 l0_1.length c0_1] (by rfl) rfl rfl eA ?_
 with_reducible refine (impl_copyInts.calls _ _ l0_1 t522 _ ?side1 ?side2 A3.out).mono ?_
 (case side1 => exact cA (Kd.C_below HR0_1.out HB.out))
 (case side2 => exact HC0_1.out)
 rintro e w8 ⟨v523, rfl, ho0, hb⟩
 refine ⟨_, rfl, ?_⟩
 have n_ := aT (Kd.R_below (kR HO521.out) hb) (aT (Kd.R_lower ho0 (below_size bS)) (aT (blk_below (kB BK517.out) hb) (aT (blk_below (kB BK518.out) hb) (aM (below_step bS hb)))))
 clear HO521 BK517 BK518 HB
 obtain ⟨HO521, HO524, BK517, BK518, HB⟩ := n_
 (try clear hb)
 (try clear ho0)
 obtain ⟨Ao9, co9, eo9⟩ := Kd.R_slice HO524.out
 (first | subst eo9 | (injection eo9 with f1_ f2_ f3_; have f4_ := f1_.symm; have f5_ := f3_.symm; clear f1_ f2_ f3_; subst f4_; subst f5_))
 obtain ⟨Ao10, co10, eo10⟩ := Kd.R_slice HO521.out
 (first | subst eo10 | (injection eo10 with f1_ f2_ f3_; have f4_ := f1_.symm; have f5_ := f3_.symm; clear f1_ f2_ f3_; subst f4_; subst f5_))
 refine hK.out _ _ ⟨(blk_cell BK517.out 0).trans rfl, (blk_cell BK517.out 1).trans rfl⟩ (fun hHeld => ?_)
 clear hK K
 refine nO (some 8) (h := ?_)
 refine pU HT_ 6 (some 9) (mk 8 127) rfl rfl (h := ?_)
 refine one_ (i := 7) (N := none) (mk 8 255) rfl rfl (one_of HT_.out (by kernel_rfl)) (by decide) (fun K hK => ?_)
 have hs11 : w8.cell? ⟨gb518, 0, none⟩ = some (.slice none 0 0) := (blk_cell BK518.out 0).trans rfl
 have hfs11 := blk_frozen BK518.out 0
 have hns11_0 := NB517_518.out
 have hms11_0 := NB518_517.out
 have hs12 : w8.cell? ⟨gb518, 1, none⟩ = some (.slice none 0 0) := (blk_cell BK518.out 1).trans rfl
 have hfs12 := blk_frozen BK518.out 1
 have hns12_0 := NB517_518.out
 have hms12_0 := NB518_517.out
 refine skip_ (w1 := ?_) (by rfl) rfl ?_ ?_
 rotate_left
 ·go_simp
  rfl
 refine hK.out _ _ ⟨((cell_far (p := ⟨gb518, _, none⟩) NB517_518.out _).trans (((cell_far (p := ⟨gb518, _, none⟩) NB517_518.out _).trans (hHeld.1)))), ((cell_far (p := ⟨gb518, _, none⟩) NB517_518.out _).trans (((cell_far (p := ⟨gb518, _, none⟩) NB517_518.out _).trans (hHeld.2))))⟩ (fun hHeld => ?_)
 clear hK K
 refine done_ (done_of HT_.out (by kernel_rfl)) ?_
 try go_wp2
 refine bodyPost_ret (results_cell_row rfl _ _ gb518 27 #[.slice Ao10 t519.length co10, .slice Ao9 t522.length co9] (0, 0) _ rfl (by (with_reducible repeat (first | refine blk_drewN ?_ _ | refine blk_drew ?_ | refine blk_alloc ?_ _)); refine blk_put (cs := #[.slice Ao10 t519.length co10, .slice none 0 0]) ?_ 1 _ rfl; (with_reducible repeat (first | refine blk_drewN ?_ _ | refine blk_drew ?_ | refine blk_alloc ?_ _)); refine blk_put (cs := #[.slice none 0 0, .slice none 0 0]) ?_ 0 _ rfl; (with_reducible repeat (first | refine blk_drewN ?_ _ | refine blk_drew ?_ | refine blk_alloc ?_ _)); exact BK518.out) Try.underlying27 rfl (by kernel_rfl)) rfl ?_
 exact ⟨_, _, eE, (rM (Kd.R_far (p := ⟨gb518, 1, none⟩) (Kd.R_far (p := ⟨gb518, 0, none⟩) (Kd.R_types HO521.out BK518.out (by decide)) (fun _ hk => hk.2) (.slice Ao10 t519.length co10)) (fun _ hk => hk.2) (.slice Ao9 t522.length co9)) (fun _ hk => trivial)), (rM (Kd.R_far (p := ⟨gb518, 1, none⟩) (Kd.R_far (p := ⟨gb518, 0, none⟩) (Kd.R_types HO524.out BK518.out (by decide)) (fun _ hk => hk.2) (.slice Ao10 t519.length co10)) (fun _ hk => hk.2) (.slice Ao9 t522.length co9)) (fun _ hk => trivial)), bS⟩

/-! ### impl_Learn: function 22 -/
def impl_Learn.f (k : Nat) (l0_0 : List ByteArray) (l0_1 : List Int) (a1 : ByteArray) : Option (List ByteArray × List Int) := (impl_KnownOk.f k l0_0 l0_1).bind fun t527 => (if t527 = true then ((impl_copyKnown.f l0_0 l0_1).bind fun bt528 => ((impl_TermOk.f k a1).bind fun t535 => (if t535 = true then ((slices_Contains_string_string.f k l0_0 a1).bind fun t536 => (if t536 = true then (some (bt528.1, bt528.2)) else (if (l0_0.length : Int) < 60 then (if bt528.1.length < 8796093022208 then (some ((bt528.1 ++ [a1]), bt528.2)) else (none)) else (some (bt528.1, bt528.2))))) else (some (bt528.1, bt528.2))))) else (some (([] : List ByteArray), ([] : List Int))))
set_option maxHeartbeats 8000000 in
set_option maxRecDepth 100000 in
theorem impl_Learn.calls (k : Nat) (A0_0 : Option Addr) (c0_0 : Nat) (l0_0 : List ByteArray) (A0_1 : Option Addr) (c0_1 : Nat) (l0_1 : List Int) (a1 : ByteArray) (r1 : List ByteArray) (r2 : List Int) (w : World) (hr0_0 : Kd.C Kd.string w A0_0 l0_0.length l0_0) (hc0_0 : l0_0.length ≤ c0_0) (hr0_1 : Kd.C (Kd.int .i64) w A0_1 l0_1.length l0_1) (hc0_1 : l0_1.length ≤ c0_1) (h : impl_Learn.f k l0_0 l0_1 a1 = some (r1, r2)) :
  Calls Try.prog 22 #[.agg #[.slice A0_0 l0_0.length c0_0, .slice A0_1 l0_1.length c0_1], .string a1] w fun e w' => ∃ v0_ v1_ : Value, e = .returned (.agg #[v0_, v1_]) ∧ Kd.R Kd.string 9 w' w.heap.size (fun _ => True) v0_ r1 ∧ Kd.R (Kd.int .i64) 3 w' w.heap.size (fun _ => True) v1_ r2 ∧ Below w.heap.size w w' := by
 have hu27 := Try.underlying27
 have HR0_0 := Aside0.mk hr0_0
 have HC0_0 := Aside0.mk hc0_0
 clear hr0_0 hc0_0
 have HR0_1 := Aside0.mk hr0_1
 have HC0_1 := Aside0.mk hc0_1
 clear hr0_1 hc0_1
 have HB := Aside0.mk (Below.refl w.heap.size w)
 have H := h
 clear h
 unfold impl_Learn.f at H
 obtain ⟨t527, A3, H⟩ := oB H
 by_cases c4 : t527 = true
 ·subst c4
  rw [if_pos rfl] at H
  obtain ⟨⟨t528, t531⟩, A5, H⟩ := oB H
  dsimp only at H
  obtain ⟨t535, A6, H⟩ := oB H
  by_cases c7 : t535 = true
  ·subst c7
   rw [if_pos rfl] at H
   obtain ⟨t536, A8, H⟩ := oB H
   by_cases c9 : t536 = true
   ·subst c9
    rw [if_pos rfl] at H
    simp only [Option.some.injEq, Prod.mk.injEq] at H
    obtain ⟨rfl, rfl⟩ := H
    go_enter Try.func22, Try.ntmps22
    go_wp2_with (first | ((with_reducible refine gate_dst (N := 2) rfl ?_); (try (refine gate_guard (by rfl) ?_; dsimp only)); refine box_event ?hg (N := 2) ?hd (cs := #[.slice A0_0 l0_0.length c0_0, .slice A0_1 l0_1.length c0_1]) (t := 27) ?hr ?_; (case hd => rfl); (case hg => rfl); (case hr => first | (go_simp; done) | (go_simp; rfl)); intro gb525 hg w10 hbox hb; have n_ := aT (below_step bH hb) (aT (hbox) (aT ((bZ hg : w.heap.size ≤ gb525)) (aM ((bZ hg : w.heap.size ≤ gb525))))); clear HB; obtain ⟨HB, BK525, GW525, GE525⟩ := n_; clear hb hbox hg) | ((with_reducible refine gate_dst (N := 4) rfl ?_); (try (refine gate_guard (by rfl) ?_; dsimp only)); refine box_event ?hg (N := 4) ?hd (cs := #[.slice none 0 0, .slice none 0 0]) (t := 27) ?hr ?_; (case hd => rfl); (case hg => rfl); (case hr => first | (go_simp; done) | (go_simp; rfl)); intro gb526 hg w11 hbox hb; have n_ := aT (blk_below (kB BK525.out) hb) (aT (below_step bS hb) (aT (hbox) (aT ((bZ hg : w.heap.size ≤ gb526)) (aT ((bZ hg : w.heap.size ≤ gb526)) (aT ((nL hg BK525.out : gb525 ≠ gb526)) (aM ((nG hg BK525.out : gb526 ≠ gb525)))))))); clear BK525 HB; obtain ⟨BK525, HB, BK526, GW526, GE526, NB525_526, NB526_525⟩ := n_; clear hb hbox hg; have hnb12 := NB525_526.out; have hnc12 := NB526_525.out; have hcz13_0 : w11.cell? ⟨gb525, 0, none⟩ = some (.slice A0_0 l0_0.length c0_0) := (blk_cell BK525.out 0).trans rfl; have hcz13_1 : w11.cell? ⟨gb525, 1, none⟩ = some (.slice A0_1 l0_1.length c0_1) := (blk_cell BK525.out 1).trans rfl; have hfz13_0 := blk_frozen BK525.out 0; have hfz13_1 := blk_frozen BK525.out 1) | (refine gL 46 (some 7) Try.func46 #[.agg #[.slice A0_0 l0_0.length c0_0, .slice A0_1 l0_1.length c0_1]] ?_; (with_reducible refine (impl_KnownOk.calls k _ _ l0_0 _ _ l0_1 true _ ?side1 ?side2 ?side3 ?side4 A3.out).mono ?_); (case side1 => exact cA (Kd.C_below HR0_0.out HB.out)); (case side2 => exact HC0_0.out); (case side3 => exact cA (Kd.C_below HR0_1.out HB.out)); (case side4 => exact HC0_1.out); rintro e w14 ⟨rfl, hb⟩; refine ⟨_, rfl, ?_⟩; have n_ := aT (blk_below (kB BK525.out) hb) (aT (blk_below (kB BK526.out) hb) (aM (below_step bS hb))); clear BK525 BK526 HB; obtain ⟨BK525, BK526, HB⟩ := n_; (try clear hb); have hcz15_0 : w14.cell? ⟨gb525, 0, none⟩ = some (.slice A0_0 l0_0.length c0_0) := (blk_cell BK525.out 0).trans rfl; have hcz15_1 : w14.cell? ⟨gb525, 1, none⟩ = some (.slice A0_1 l0_1.length c0_1) := (blk_cell BK525.out 1).trans rfl; have hfz15_0 := blk_frozen BK525.out 0; have hfz15_1 := blk_frozen BK525.out 1) | (refine gL 55 (some 11) Try.func55 #[.agg #[.slice A0_0 l0_0.length c0_0, .slice A0_1 l0_1.length c0_1]] ?_; (with_reducible refine (impl_copyKnown.calls _ _ l0_0 _ _ l0_1 t528 t531 _ ?side1 ?side2 ?side3 ?side4 A5.out).mono ?_); (case side1 => exact cA (Kd.C_below HR0_0.out HB.out)); (case side2 => exact HC0_0.out); (case side3 => exact cA (Kd.C_below HR0_1.out HB.out)); (case side4 => exact HC0_1.out); rintro e w16 ⟨v529, v532, rfl, ho0, ho1, hb⟩; refine ⟨_, rfl, ?_⟩; have n_ := aT (Kd.R_lower ho0 (below_size bS)) (aT (Kd.R_lower ho1 (below_size bS)) (aT (blk_below (kB BK525.out) hb) (aT (blk_below (kB BK526.out) hb) (aM (below_step bS hb))))); clear BK525 BK526 HB; obtain ⟨HO530, HO533, BK525, BK526, HB⟩ := n_; (try clear hb); (try clear ho0); (try clear ho1)) | ((with_reducible refine gate_dst (N := 5) rfl ?_); (try (refine gate_guard (by rfl) ?_; dsimp only)); refine box_event ?hg (N := 5) ?hd (cs := #[.slice none 0 0, .slice none 0 0]) (t := 27) ?hr ?_; (case hd => rfl); (case hg => rfl); (case hr => first | (go_simp; done) | (go_simp; rfl)); intro gb534 hg w17 hbox hb; have n_ := aT (Kd.R_below (kR HO530.out) hb) (aT (Kd.R_below (kR HO533.out) hb) (aT (blk_below (kB BK525.out) hb) (aT (blk_below (kB BK526.out) hb) (aT (below_step bS hb) (aT (hbox) (aT ((bZ hg : w.heap.size ≤ gb534)) (aT ((bZ hg : w.heap.size ≤ gb534)) (aT ((nL hg BK525.out : gb525 ≠ gb534)) (aT ((nG hg BK525.out : gb534 ≠ gb525)) (aT ((nL hg BK526.out : gb526 ≠ gb534)) (aM ((nG hg BK526.out : gb534 ≠ gb526))))))))))))); clear HO530 HO533 BK525 BK526 HB; obtain ⟨HO530, HO533, BK525, BK526, HB, BK534, GW534, GE534, NB525_534, NB534_525, NB526_534, NB534_526⟩ := n_; clear hb hbox hg; obtain ⟨Ao18, co18, eo18⟩ := Kd.R_slice HO530.out; subst eo18; have hnb19 := NB534_525.out; have hnc19 := NB525_534.out; have hnb20 := NB534_526.out; have hnc20 := NB526_534.out; have hcz21_0 : w17.cell? ⟨gb534, 0, none⟩ = some (.slice none 0 0) := (blk_cell BK534.out 0).trans rfl; have hcz21_1 : w17.cell? ⟨gb534, 1, none⟩ = some (.slice none 0 0) := (blk_cell BK534.out 1).trans rfl; have hfz21_0 := blk_frozen BK534.out 0; have hfz21_1 := blk_frozen BK534.out 1; obtain ⟨Ao22, co22, eo22⟩ := Kd.R_slice HO533.out; subst eo22) | (refine gL 47 (some 13) Try.func47 #[.string a1] ?_; (with_reducible refine (impl_TermOk.calls k a1 true _ A6.out).mono ?_); rintro e w23 ⟨rfl, hb⟩; refine ⟨_, rfl, ?_⟩; have n_ := aT (Kd.R_below (rF2 HO530.out BK534.out) hb) (aT (Kd.R_below (rF2 HO533.out BK534.out) hb) (aT (blk_below (g := gb525) (o := .cells #[.slice A0_0 l0_0.length c0_0, .slice A0_1 l0_1.length c0_1] 27 (0, 0)) (kF2 NB525_534.out BK525.out) hb) (aT (blk_below (g := gb526) (o := .cells #[.slice none 0 0, .slice none 0 0] 27 (0, 0)) (kF2 NB526_534.out BK526.out) hb) (aT (blk_below (g := gb534) (o := .cells #[.slice Ao18 t528.length co18, .slice Ao22 t531.length co22] 27 (0, 0)) (by (with_reducible repeat (first | refine blk_drewN ?_ _ | refine blk_drew ?_ | refine blk_alloc ?_ _)); refine blk_put (cs := #[.slice Ao18 t528.length co18, .slice none 0 0]) ?_ 1 _ rfl; (with_reducible repeat (first | refine blk_drewN ?_ _ | refine blk_drew ?_ | refine blk_alloc ?_ _)); refine blk_put (cs := #[.slice none 0 0, .slice none 0 0]) ?_ 0 _ rfl; (with_reducible repeat (first | refine blk_drewN ?_ _ | refine blk_drew ?_ | refine blk_alloc ?_ _)); exact BK534.out) hb) (aM (below_step bS hb)))))); clear HO530 HO533 BK525 BK526 BK534 HB; obtain ⟨HO530, HO533, BK525, BK526, BK534, HB⟩ := n_; (try clear hb); have hcz24_0 : w23.cell? ⟨gb525, 0, none⟩ = some (.slice A0_0 l0_0.length c0_0) := (blk_cell BK525.out 0).trans rfl; have hcz24_1 : w23.cell? ⟨gb525, 1, none⟩ = some (.slice A0_1 l0_1.length c0_1) := (blk_cell BK525.out 1).trans rfl; have hfz24_0 := blk_frozen BK525.out 0; have hfz24_1 := blk_frozen BK525.out 1) | (go_at_call 56; (with_reducible refine (slices_Contains_string_string.calls k _ _ l0_0 a1 true _ ?side1 ?side2 A8.out).mono ?_); (case side1 => exact cA (Kd.C_below HR0_0.out HB.out)); (case side2 => exact HC0_0.out); rintro e w' ⟨rfl, ⟨nd, rfl⟩⟩; (try (rw [drewN_self w23]; generalize hq_ : World.drewN w23 _ = w23; have n0_ : Aside0 (Kd.R Kd.string 9 w23 w.heap.size (fun _ => True) (.slice Ao18 t528.length co18) t528) := ⟨(by rw [← hq_]; exact (kR HO530.out))⟩; have n1_ : Aside0 (Kd.R (Kd.int .i64) 3 w23 w.heap.size (fun _ => True) (.slice Ao22 t531.length co22) t531) := ⟨(by rw [← hq_]; exact (kR HO533.out))⟩; have n2_ : Aside0 (w23.heap[gb525]? = some (.cells #[.slice A0_0 l0_0.length c0_0, .slice A0_1 l0_1.length c0_1] 27 (0, 0))) := ⟨(by rw [← hq_]; exact (kB BK525.out))⟩; have n3_ : Aside0 (w23.heap[gb526]? = some (.cells #[.slice none 0 0, .slice none 0 0] 27 (0, 0))) := ⟨(by rw [← hq_]; exact (kB BK526.out))⟩; have n4_ : Aside0 (w23.heap[gb534]? = some (.cells #[.slice Ao18 t528.length co18, .slice Ao22 t531.length co22] 27 (0, 0))) := ⟨(by rw [← hq_]; exact (kB BK534.out))⟩; have n5_ : Aside0 (Below w.heap.size w w23) := ⟨(by rw [← hq_]; exact bS)⟩; clear HO530 HO533 BK525 BK526 BK534 HB hq_; have HO530 := n0_; have HO533 := n1_; have BK525 := n2_; have BK526 := n3_; have BK534 := n4_; have HB := n5_; clear n0_ n1_ n2_ n3_ n4_ n5_)); have hcz25_0 : w23.cell? ⟨gb534, 0, none⟩ = some (.slice Ao18 t528.length co18) := (blk_cell BK534.out 0).trans rfl; have hcz25_1 : w23.cell? ⟨gb534, 1, none⟩ = some (.slice Ao22 t531.length co22) := (blk_cell BK534.out 1).trans rfl; have hfz25_0 := blk_frozen BK534.out 0; have hfz25_1 := blk_frozen BK534.out 1; have hcz26_0 : w23.cell? ⟨gb526, 0, none⟩ = some (.slice none 0 0) := (blk_cell BK526.out 0).trans rfl; have hcz26_1 : w23.cell? ⟨gb526, 1, none⟩ = some (.slice none 0 0) := (blk_cell BK526.out 1).trans rfl; have hfz26_0 := blk_frozen BK526.out 0; have hfz26_1 := blk_frozen BK526.out 1))
    refine bodyPost_ret (results_cell_row rfl _ _ gb526 27 #[.slice Ao18 t528.length co18, .slice Ao22 t531.length co22] (0, 0) _ rfl (by (with_reducible repeat (first | refine blk_drewN ?_ _ | refine blk_drew ?_ | refine blk_alloc ?_ _)); refine blk_put (cs := #[.slice Ao18 t528.length co18, .slice none 0 0]) ?_ 1 _ rfl; (with_reducible repeat (first | refine blk_drewN ?_ _ | refine blk_drew ?_ | refine blk_alloc ?_ _)); refine blk_put (cs := #[.slice none 0 0, .slice none 0 0]) ?_ 0 _ rfl; (with_reducible repeat (first | refine blk_drewN ?_ _ | refine blk_drew ?_ | refine blk_alloc ?_ _)); exact BK526.out) Try.underlying27 rfl (by kernel_rfl)) rfl ?_
    exact ⟨_, _, eE, (rM (Kd.R_far (p := ⟨gb526, 1, none⟩) (Kd.R_far (p := ⟨gb526, 0, none⟩) (Kd.R_types HO530.out BK526.out (by decide)) (fun _ hk => hk.2) (.slice Ao18 t528.length co18)) (fun _ hk => hk.2) (.slice Ao22 t531.length co22)) (fun _ hk => trivial)), (rM (Kd.R_far (p := ⟨gb526, 1, none⟩) (Kd.R_far (p := ⟨gb526, 0, none⟩) (Kd.R_types HO533.out BK526.out (by decide)) (fun _ hk => hk.2) (.slice Ao18 t528.length co18)) (fun _ hk => hk.2) (.slice Ao22 t531.length co22)) (fun _ hk => trivial)), bS⟩
   replace c9 := Bool.eq_false_iff.mpr c9
   subst c9
   rw [if_neg nF] at H
   by_cases c27 : (l0_0.length : Int) < 60
   ·rw [if_pos c27] at H
    have c27b0 := decide_eq_true c27
    have c27b1 : decide (l0_0.length < 60) = true := decide_eq_true (by omega)
    clear c27
    by_cases c28 : t528.length < 8796093022208
    ·rw [if_pos c28] at H
     have LMc28 := Aside0.mk c28
     clear c28
     obtain ⟨y537, hy537⟩ : ∃ y_ : List ByteArray, y_ = (t528 ++ [a1]) := ⟨_, rfl⟩
     replace H : (some (y537, t531)) = some (r1, r2) := by first | (rw [hy537]; with_reducible exact H) | (have H2_ := (Option.bind_some _ _).symm.trans H; rw [hy537]; with_reducible exact H2_) | (have H2_ := (Option.bind_some _ _).symm.trans H; with_reducible exact H2_) | with_reducible exact H | (rw [hy537]; exact H) | exact H
     have Ny537 := Aside0.mk hy537
     clear hy537
     simp only [Option.some.injEq, Prod.mk.injEq] at H
     obtain ⟨rfl, rfl⟩ := H
     go_enter Try.func22, Try.ntmps22
     go_wp2_with (first | ((with_reducible refine gate_dst (N := 2) rfl ?_); (try (refine gate_guard (by rfl) ?_; dsimp only)); refine box_event ?hg (N := 2) ?hd (cs := #[.slice A0_0 l0_0.length c0_0, .slice A0_1 l0_1.length c0_1]) (t := 27) ?hr ?_; (case hd => rfl); (case hg => rfl); (case hr => first | (go_simp; done) | (go_simp; rfl)); intro gb525 hg w29 hbox hb; have n_ := aT (below_step bH hb) (aT (hbox) (aT ((bZ hg : w.heap.size ≤ gb525)) (aM ((bZ hg : w.heap.size ≤ gb525))))); clear HB; obtain ⟨HB, BK525, GW525, GE525⟩ := n_; clear hb hbox hg) | ((with_reducible refine gate_dst (N := 4) rfl ?_); (try (refine gate_guard (by rfl) ?_; dsimp only)); refine box_event ?hg (N := 4) ?hd (cs := #[.slice none 0 0, .slice none 0 0]) (t := 27) ?hr ?_; (case hd => rfl); (case hg => rfl); (case hr => first | (go_simp; done) | (go_simp; rfl)); intro gb526 hg w30 hbox hb; have n_ := aT (blk_below (kB BK525.out) hb) (aT (below_step bS hb) (aT (hbox) (aT ((bZ hg : w.heap.size ≤ gb526)) (aT ((bZ hg : w.heap.size ≤ gb526)) (aT ((nL hg BK525.out : gb525 ≠ gb526)) (aM ((nG hg BK525.out : gb526 ≠ gb525)))))))); clear BK525 HB; obtain ⟨BK525, HB, BK526, GW526, GE526, NB525_526, NB526_525⟩ := n_; clear hb hbox hg; have hnb31 := NB525_526.out; have hnc31 := NB526_525.out; have hcz32_0 : w30.cell? ⟨gb525, 0, none⟩ = some (.slice A0_0 l0_0.length c0_0) := (blk_cell BK525.out 0).trans rfl; have hcz32_1 : w30.cell? ⟨gb525, 1, none⟩ = some (.slice A0_1 l0_1.length c0_1) := (blk_cell BK525.out 1).trans rfl; have hfz32_0 := blk_frozen BK525.out 0; have hfz32_1 := blk_frozen BK525.out 1) | (refine gL 46 (some 7) Try.func46 #[.agg #[.slice A0_0 l0_0.length c0_0, .slice A0_1 l0_1.length c0_1]] ?_; (with_reducible refine (impl_KnownOk.calls k _ _ l0_0 _ _ l0_1 true _ ?side1 ?side2 ?side3 ?side4 A3.out).mono ?_); (case side1 => exact cA (Kd.C_below HR0_0.out HB.out)); (case side2 => exact HC0_0.out); (case side3 => exact cA (Kd.C_below HR0_1.out HB.out)); (case side4 => exact HC0_1.out); rintro e w33 ⟨rfl, hb⟩; refine ⟨_, rfl, ?_⟩; have n_ := aT (blk_below (kB BK525.out) hb) (aT (blk_below (kB BK526.out) hb) (aM (below_step bS hb))); clear BK525 BK526 HB; obtain ⟨BK525, BK526, HB⟩ := n_; (try clear hb); have hcz34_0 : w33.cell? ⟨gb525, 0, none⟩ = some (.slice A0_0 l0_0.length c0_0) := (blk_cell BK525.out 0).trans rfl; have hcz34_1 : w33.cell? ⟨gb525, 1, none⟩ = some (.slice A0_1 l0_1.length c0_1) := (blk_cell BK525.out 1).trans rfl; have hfz34_0 := blk_frozen BK525.out 0; have hfz34_1 := blk_frozen BK525.out 1) | (refine gL 55 (some 11) Try.func55 #[.agg #[.slice A0_0 l0_0.length c0_0, .slice A0_1 l0_1.length c0_1]] ?_; (with_reducible refine (impl_copyKnown.calls _ _ l0_0 _ _ l0_1 t528 t531 _ ?side1 ?side2 ?side3 ?side4 A5.out).mono ?_); (case side1 => exact cA (Kd.C_below HR0_0.out HB.out)); (case side2 => exact HC0_0.out); (case side3 => exact cA (Kd.C_below HR0_1.out HB.out)); (case side4 => exact HC0_1.out); rintro e w35 ⟨v529, v532, rfl, ho0, ho1, hb⟩; refine ⟨_, rfl, ?_⟩; have n_ := aT (Kd.R_lower ho0 (below_size bS)) (aT (Kd.R_lower ho1 (below_size bS)) (aT (blk_below (kB BK525.out) hb) (aT (blk_below (kB BK526.out) hb) (aM (below_step bS hb))))); clear BK525 BK526 HB; obtain ⟨HO530, HO533, BK525, BK526, HB⟩ := n_; (try clear hb); (try clear ho0); (try clear ho1)) | ((with_reducible refine gate_dst (N := 5) rfl ?_); (try (refine gate_guard (by rfl) ?_; dsimp only)); refine box_event ?hg (N := 5) ?hd (cs := #[.slice none 0 0, .slice none 0 0]) (t := 27) ?hr ?_; (case hd => rfl); (case hg => rfl); (case hr => first | (go_simp; done) | (go_simp; rfl)); intro gb534 hg w36 hbox hb; have n_ := aT (Kd.R_below (kR HO530.out) hb) (aT (Kd.R_below (kR HO533.out) hb) (aT (blk_below (kB BK525.out) hb) (aT (blk_below (kB BK526.out) hb) (aT (below_step bS hb) (aT (hbox) (aT ((bZ hg : w.heap.size ≤ gb534)) (aT ((bZ hg : w.heap.size ≤ gb534)) (aT ((nL hg BK525.out : gb525 ≠ gb534)) (aT ((nG hg BK525.out : gb534 ≠ gb525)) (aT ((nL hg BK526.out : gb526 ≠ gb534)) (aM ((nG hg BK526.out : gb534 ≠ gb526))))))))))))); clear HO530 HO533 BK525 BK526 HB; obtain ⟨HO530, HO533, BK525, BK526, HB, BK534, GW534, GE534, NB525_534, NB534_525, NB526_534, NB534_526⟩ := n_; clear hb hbox hg; obtain ⟨Ao37, co37, eo37⟩ := Kd.R_slice HO530.out; subst eo37; have hnb38 := NB534_525.out; have hnc38 := NB525_534.out; have hnb39 := NB534_526.out; have hnc39 := NB526_534.out; have hcz40_0 : w36.cell? ⟨gb534, 0, none⟩ = some (.slice none 0 0) := (blk_cell BK534.out 0).trans rfl; have hcz40_1 : w36.cell? ⟨gb534, 1, none⟩ = some (.slice none 0 0) := (blk_cell BK534.out 1).trans rfl; have hfz40_0 := blk_frozen BK534.out 0; have hfz40_1 := blk_frozen BK534.out 1; obtain ⟨Ao41, co41, eo41⟩ := Kd.R_slice HO533.out; subst eo41) | (refine gL 47 (some 13) Try.func47 #[.string a1] ?_; (with_reducible refine (impl_TermOk.calls k a1 true _ A6.out).mono ?_); rintro e w42 ⟨rfl, hb⟩; refine ⟨_, rfl, ?_⟩; have n_ := aT (Kd.R_below (rF2 HO530.out BK534.out) hb) (aT (Kd.R_below (rF2 HO533.out BK534.out) hb) (aT (blk_below (g := gb525) (o := .cells #[.slice A0_0 l0_0.length c0_0, .slice A0_1 l0_1.length c0_1] 27 (0, 0)) (kF2 NB525_534.out BK525.out) hb) (aT (blk_below (g := gb526) (o := .cells #[.slice none 0 0, .slice none 0 0] 27 (0, 0)) (kF2 NB526_534.out BK526.out) hb) (aT (blk_below (g := gb534) (o := .cells #[.slice Ao37 t528.length co37, .slice Ao41 t531.length co41] 27 (0, 0)) (by (with_reducible repeat (first | refine blk_drewN ?_ _ | refine blk_drew ?_ | refine blk_alloc ?_ _)); refine blk_put (cs := #[.slice Ao37 t528.length co37, .slice none 0 0]) ?_ 1 _ rfl; (with_reducible repeat (first | refine blk_drewN ?_ _ | refine blk_drew ?_ | refine blk_alloc ?_ _)); refine blk_put (cs := #[.slice none 0 0, .slice none 0 0]) ?_ 0 _ rfl; (with_reducible repeat (first | refine blk_drewN ?_ _ | refine blk_drew ?_ | refine blk_alloc ?_ _)); exact BK534.out) hb) (aM (below_step bS hb)))))); clear HO530 HO533 BK525 BK526 BK534 HB; obtain ⟨HO530, HO533, BK525, BK526, BK534, HB⟩ := n_; (try clear hb); have hcz43_0 : w42.cell? ⟨gb525, 0, none⟩ = some (.slice A0_0 l0_0.length c0_0) := (blk_cell BK525.out 0).trans rfl; have hcz43_1 : w42.cell? ⟨gb525, 1, none⟩ = some (.slice A0_1 l0_1.length c0_1) := (blk_cell BK525.out 1).trans rfl; have hfz43_0 := blk_frozen BK525.out 0; have hfz43_1 := blk_frozen BK525.out 1) | (go_at_call 56; (with_reducible refine (slices_Contains_string_string.calls k _ _ l0_0 a1 false _ ?side1 ?side2 A8.out).mono ?_); (case side1 => exact cA (Kd.C_below HR0_0.out HB.out)); (case side2 => exact HC0_0.out); rintro e w' ⟨rfl, ⟨nd, rfl⟩⟩; (try (rw [drewN_self w42]; generalize hq_ : World.drewN w42 _ = w42; have n0_ : Aside0 (Kd.R Kd.string 9 w42 w.heap.size (fun _ => True) (.slice Ao37 t528.length co37) t528) := ⟨(by rw [← hq_]; exact (kR HO530.out))⟩; have n1_ : Aside0 (Kd.R (Kd.int .i64) 3 w42 w.heap.size (fun _ => True) (.slice Ao41 t531.length co41) t531) := ⟨(by rw [← hq_]; exact (kR HO533.out))⟩; have n2_ : Aside0 (w42.heap[gb525]? = some (.cells #[.slice A0_0 l0_0.length c0_0, .slice A0_1 l0_1.length c0_1] 27 (0, 0))) := ⟨(by rw [← hq_]; exact (kB BK525.out))⟩; have n3_ : Aside0 (w42.heap[gb526]? = some (.cells #[.slice none 0 0, .slice none 0 0] 27 (0, 0))) := ⟨(by rw [← hq_]; exact (kB BK526.out))⟩; have n4_ : Aside0 (w42.heap[gb534]? = some (.cells #[.slice Ao37 t528.length co37, .slice Ao41 t531.length co41] 27 (0, 0))) := ⟨(by rw [← hq_]; exact (kB BK534.out))⟩; have n5_ : Aside0 (Below w.heap.size w w42) := ⟨(by rw [← hq_]; exact bS)⟩; clear HO530 HO533 BK525 BK526 BK534 HB hq_; have HO530 := n0_; have HO533 := n1_; have BK525 := n2_; have BK526 := n3_; have BK534 := n4_; have HB := n5_; clear n0_ n1_ n2_ n3_ n4_ n5_)); have hcz44_0 : w42.cell? ⟨gb525, 0, none⟩ = some (.slice A0_0 l0_0.length c0_0) := (blk_cell BK525.out 0).trans rfl; have hcz44_1 : w42.cell? ⟨gb525, 1, none⟩ = some (.slice A0_1 l0_1.length c0_1) := (blk_cell BK525.out 1).trans rfl; have hfz44_0 := blk_frozen BK525.out 0; have hfz44_1 := blk_frozen BK525.out 1; have hcz45_0 : w42.cell? ⟨gb534, 0, none⟩ = some (.slice Ao37 t528.length co37) := (blk_cell BK534.out 0).trans rfl; have hcz45_1 : w42.cell? ⟨gb534, 1, none⟩ = some (.slice Ao41 t531.length co41) := (blk_cell BK534.out 1).trans rfl; have hfz45_0 := blk_frozen BK534.out 0; have hfz45_1 := blk_frozen BK534.out 1) | ((with_reducible refine gate_builtin (b := .append) (xs := #[.tmp 28, .tmp 30]) rfl ?_); (try (refine gate_guard (by rfl) ?_; dsimp only)); at_builtin; refine Kd.R_append Kd.string (w0 := w) w.heap.size rfl (.tmp 28) (.tmp 30) 24 9 (.string ⟨#[]⟩) 16 rfl Try.underlying24 info9 rfl (by decide) (by omega) (.slice Ao37 t528.length co37) t528 a1 [.string a1] (fun _ => True) (fun _ => False) rfl rfl ?aP (fun _ hk => hk.elim) ?aF ?aO ?aB ?aS ?aL ?_; (case aP => exact rfl); (case aB => exact bS); (case aF => exact (fun _ _ => trivial)); (case aO => exact (kR HO530.out)); (case aS => exact (below_size bS)); (case aL => have := LMc28.out; omega); intro v538 w46 ho hb hg hat; rw [← Ny537.out] at ho; have n_ := aT (blk_grown (g := gb525) (o := .cells #[.slice A0_0 l0_0.length c0_0, .slice A0_1 l0_1.length c0_1] 27 (0, 0)) (kB BK525.out) hg (Kd.R_ne HO530.out BK525.out (by decide))) (aT (blk_grown (g := gb526) (o := .cells #[.slice none 0 0, .slice none 0 0] 27 (0, 0)) (kB BK526.out) hg (Kd.R_ne HO530.out BK526.out (by decide))) (aT (Kd.R_over' (kR HO533.out) (Kd.R_typed (kR HO530.out)) (by decide) hg) (aT (blk_grown (g := gb534) (o := .cells #[.slice Ao37 t528.length co37, .slice Ao41 t531.length co41] 27 (0, 0)) (kB BK534.out) hg (Kd.R_ne HO530.out BK534.out (by decide))) (aT (hb) (aM (ho)))))); clear BK525 BK526 HO533 BK534 HB HO530; obtain ⟨BK525, BK526, HO533, BK534, HB, HO539⟩ := n_; clear ho hb hg hat; obtain ⟨Ao47, co47, eo47⟩ := Kd.R_slice HO539.out; subst eo47; have hcz48_0 : w46.cell? ⟨gb534, 0, none⟩ = some (.slice Ao37 t528.length co37) := (blk_cell BK534.out 0).trans rfl; have hcz48_1 : w46.cell? ⟨gb534, 1, none⟩ = some (.slice Ao41 t531.length co41) := (blk_cell BK534.out 1).trans rfl; have hfz48_0 := blk_frozen BK534.out 0; have hfz48_1 := blk_frozen BK534.out 1; have hcz49_0 : w46.cell? ⟨gb526, 0, none⟩ = some (.slice none 0 0) := (blk_cell BK526.out 0).trans rfl; have hcz49_1 : w46.cell? ⟨gb526, 1, none⟩ = some (.slice none 0 0) := (blk_cell BK526.out 1).trans rfl; have hfz49_0 := blk_frozen BK526.out 0; have hfz49_1 := blk_frozen BK526.out 1))
     refine bodyPost_ret (results_cell_row rfl _ _ gb526 27 #[.slice Ao47 y537.length co47, .slice Ao41 t531.length co41] (0, 0) _ rfl (by (with_reducible repeat (first | refine blk_drewN ?_ _ | refine blk_drew ?_ | refine blk_alloc ?_ _)); refine blk_put (cs := #[.slice Ao47 y537.length co47, .slice none 0 0]) ?_ 1 _ rfl; (with_reducible repeat (first | refine blk_drewN ?_ _ | refine blk_drew ?_ | refine blk_alloc ?_ _)); refine blk_put (cs := #[.slice none 0 0, .slice none 0 0]) ?_ 0 _ rfl; (with_reducible repeat (first | refine blk_drewN ?_ _ | refine blk_drew ?_ | refine blk_alloc ?_ _)); refine blk_far ?_ NB526_534.out _; (with_reducible repeat (first | refine blk_drewN ?_ _ | refine blk_drew ?_ | refine blk_alloc ?_ _)); exact BK526.out) Try.underlying27 rfl (by kernel_rfl)) rfl ?_
     exact ⟨_, _, eE, (rM (Kd.R_far (p := ⟨gb526, 1, none⟩) (Kd.R_far (p := ⟨gb526, 0, none⟩) (Kd.R_far (p := ⟨gb534, 0, none⟩) (Kd.R_types (Kd.R_types HO539.out BK534.out (by decide)) BK526.out (by decide)) (fun _ hk => hk.1.2) (.slice Ao47 y537.length co47)) (fun _ hk => hk.2) (.slice Ao47 y537.length co47)) (fun _ hk => hk.2) (.slice Ao41 t531.length co41)) (fun _ hk => trivial)), (rM (Kd.R_far (p := ⟨gb526, 1, none⟩) (Kd.R_far (p := ⟨gb526, 0, none⟩) (Kd.R_far (p := ⟨gb534, 0, none⟩) (Kd.R_types (Kd.R_types HO533.out BK534.out (by decide)) BK526.out (by decide)) (fun _ hk => hk.1.2) (.slice Ao47 y537.length co47)) (fun _ hk => hk.2) (.slice Ao47 y537.length co47)) (fun _ hk => hk.2) (.slice Ao41 t531.length co41)) (fun _ hk => trivial)), bS⟩
    rw [if_neg c28] at H
    exact absurd H (by simp)
   rw [if_neg c27] at H
   have c27b0 := decide_eq_false c27
   have c27b1 : decide (l0_0.length < 60) = false := decide_eq_false (by omega)
   clear c27
   simp only [Option.some.injEq, Prod.mk.injEq] at H
   obtain ⟨rfl, rfl⟩ := H
   go_enter Try.func22, Try.ntmps22
   go_wp2_with (first | ((with_reducible refine gate_dst (N := 2) rfl ?_); (try (refine gate_guard (by rfl) ?_; dsimp only)); refine box_event ?hg (N := 2) ?hd (cs := #[.slice A0_0 l0_0.length c0_0, .slice A0_1 l0_1.length c0_1]) (t := 27) ?hr ?_; (case hd => rfl); (case hg => rfl); (case hr => first | (go_simp; done) | (go_simp; rfl)); intro gb525 hg w50 hbox hb; have n_ := aT (below_step bH hb) (aT (hbox) (aT ((bZ hg : w.heap.size ≤ gb525)) (aM ((bZ hg : w.heap.size ≤ gb525))))); clear HB; obtain ⟨HB, BK525, GW525, GE525⟩ := n_; clear hb hbox hg) | ((with_reducible refine gate_dst (N := 4) rfl ?_); (try (refine gate_guard (by rfl) ?_; dsimp only)); refine box_event ?hg (N := 4) ?hd (cs := #[.slice none 0 0, .slice none 0 0]) (t := 27) ?hr ?_; (case hd => rfl); (case hg => rfl); (case hr => first | (go_simp; done) | (go_simp; rfl)); intro gb526 hg w51 hbox hb; have n_ := aT (blk_below (kB BK525.out) hb) (aT (below_step bS hb) (aT (hbox) (aT ((bZ hg : w.heap.size ≤ gb526)) (aT ((bZ hg : w.heap.size ≤ gb526)) (aT ((nL hg BK525.out : gb525 ≠ gb526)) (aM ((nG hg BK525.out : gb526 ≠ gb525)))))))); clear BK525 HB; obtain ⟨BK525, HB, BK526, GW526, GE526, NB525_526, NB526_525⟩ := n_; clear hb hbox hg; have hnb52 := NB525_526.out; have hnc52 := NB526_525.out; have hcz53_0 : w51.cell? ⟨gb525, 0, none⟩ = some (.slice A0_0 l0_0.length c0_0) := (blk_cell BK525.out 0).trans rfl; have hcz53_1 : w51.cell? ⟨gb525, 1, none⟩ = some (.slice A0_1 l0_1.length c0_1) := (blk_cell BK525.out 1).trans rfl; have hfz53_0 := blk_frozen BK525.out 0; have hfz53_1 := blk_frozen BK525.out 1) | (refine gL 46 (some 7) Try.func46 #[.agg #[.slice A0_0 l0_0.length c0_0, .slice A0_1 l0_1.length c0_1]] ?_; (with_reducible refine (impl_KnownOk.calls k _ _ l0_0 _ _ l0_1 true _ ?side1 ?side2 ?side3 ?side4 A3.out).mono ?_); (case side1 => exact cA (Kd.C_below HR0_0.out HB.out)); (case side2 => exact HC0_0.out); (case side3 => exact cA (Kd.C_below HR0_1.out HB.out)); (case side4 => exact HC0_1.out); rintro e w54 ⟨rfl, hb⟩; refine ⟨_, rfl, ?_⟩; have n_ := aT (blk_below (kB BK525.out) hb) (aT (blk_below (kB BK526.out) hb) (aM (below_step bS hb))); clear BK525 BK526 HB; obtain ⟨BK525, BK526, HB⟩ := n_; (try clear hb); have hcz55_0 : w54.cell? ⟨gb525, 0, none⟩ = some (.slice A0_0 l0_0.length c0_0) := (blk_cell BK525.out 0).trans rfl; have hcz55_1 : w54.cell? ⟨gb525, 1, none⟩ = some (.slice A0_1 l0_1.length c0_1) := (blk_cell BK525.out 1).trans rfl; have hfz55_0 := blk_frozen BK525.out 0; have hfz55_1 := blk_frozen BK525.out 1) | (refine gL 55 (some 11) Try.func55 #[.agg #[.slice A0_0 l0_0.length c0_0, .slice A0_1 l0_1.length c0_1]] ?_; (with_reducible refine (impl_copyKnown.calls _ _ l0_0 _ _ l0_1 t528 t531 _ ?side1 ?side2 ?side3 ?side4 A5.out).mono ?_); (case side1 => exact cA (Kd.C_below HR0_0.out HB.out)); (case side2 => exact HC0_0.out); (case side3 => exact cA (Kd.C_below HR0_1.out HB.out)); (case side4 => exact HC0_1.out); rintro e w56 ⟨v529, v532, rfl, ho0, ho1, hb⟩; refine ⟨_, rfl, ?_⟩; have n_ := aT (Kd.R_lower ho0 (below_size bS)) (aT (Kd.R_lower ho1 (below_size bS)) (aT (blk_below (kB BK525.out) hb) (aT (blk_below (kB BK526.out) hb) (aM (below_step bS hb))))); clear BK525 BK526 HB; obtain ⟨HO530, HO533, BK525, BK526, HB⟩ := n_; (try clear hb); (try clear ho0); (try clear ho1)) | ((with_reducible refine gate_dst (N := 5) rfl ?_); (try (refine gate_guard (by rfl) ?_; dsimp only)); refine box_event ?hg (N := 5) ?hd (cs := #[.slice none 0 0, .slice none 0 0]) (t := 27) ?hr ?_; (case hd => rfl); (case hg => rfl); (case hr => first | (go_simp; done) | (go_simp; rfl)); intro gb534 hg w57 hbox hb; have n_ := aT (Kd.R_below (kR HO530.out) hb) (aT (Kd.R_below (kR HO533.out) hb) (aT (blk_below (kB BK525.out) hb) (aT (blk_below (kB BK526.out) hb) (aT (below_step bS hb) (aT (hbox) (aT ((bZ hg : w.heap.size ≤ gb534)) (aT ((bZ hg : w.heap.size ≤ gb534)) (aT ((nL hg BK525.out : gb525 ≠ gb534)) (aT ((nG hg BK525.out : gb534 ≠ gb525)) (aT ((nL hg BK526.out : gb526 ≠ gb534)) (aM ((nG hg BK526.out : gb534 ≠ gb526))))))))))))); clear HO530 HO533 BK525 BK526 HB; obtain ⟨HO530, HO533, BK525, BK526, HB, BK534, GW534, GE534, NB525_534, NB534_525, NB526_534, NB534_526⟩ := n_; clear hb hbox hg; obtain ⟨Ao58, co58, eo58⟩ := Kd.R_slice HO530.out; subst eo58; have hnb59 := NB534_525.out; have hnc59 := NB525_534.out; have hnb60 := NB534_526.out; have hnc60 := NB526_534.out; have hcz61_0 : w57.cell? ⟨gb534, 0, none⟩ = some (.slice none 0 0) := (blk_cell BK534.out 0).trans rfl; have hcz61_1 : w57.cell? ⟨gb534, 1, none⟩ = some (.slice none 0 0) := (blk_cell BK534.out 1).trans rfl; have hfz61_0 := blk_frozen BK534.out 0; have hfz61_1 := blk_frozen BK534.out 1; obtain ⟨Ao62, co62, eo62⟩ := Kd.R_slice HO533.out; subst eo62) | (refine gL 47 (some 13) Try.func47 #[.string a1] ?_; (with_reducible refine (impl_TermOk.calls k a1 true _ A6.out).mono ?_); rintro e w63 ⟨rfl, hb⟩; refine ⟨_, rfl, ?_⟩; have n_ := aT (Kd.R_below (rF2 HO530.out BK534.out) hb) (aT (Kd.R_below (rF2 HO533.out BK534.out) hb) (aT (blk_below (g := gb525) (o := .cells #[.slice A0_0 l0_0.length c0_0, .slice A0_1 l0_1.length c0_1] 27 (0, 0)) (kF2 NB525_534.out BK525.out) hb) (aT (blk_below (g := gb526) (o := .cells #[.slice none 0 0, .slice none 0 0] 27 (0, 0)) (kF2 NB526_534.out BK526.out) hb) (aT (blk_below (g := gb534) (o := .cells #[.slice Ao58 t528.length co58, .slice Ao62 t531.length co62] 27 (0, 0)) (by (with_reducible repeat (first | refine blk_drewN ?_ _ | refine blk_drew ?_ | refine blk_alloc ?_ _)); refine blk_put (cs := #[.slice Ao58 t528.length co58, .slice none 0 0]) ?_ 1 _ rfl; (with_reducible repeat (first | refine blk_drewN ?_ _ | refine blk_drew ?_ | refine blk_alloc ?_ _)); refine blk_put (cs := #[.slice none 0 0, .slice none 0 0]) ?_ 0 _ rfl; (with_reducible repeat (first | refine blk_drewN ?_ _ | refine blk_drew ?_ | refine blk_alloc ?_ _)); exact BK534.out) hb) (aM (below_step bS hb)))))); clear HO530 HO533 BK525 BK526 BK534 HB; obtain ⟨HO530, HO533, BK525, BK526, BK534, HB⟩ := n_; (try clear hb); have hcz64_0 : w63.cell? ⟨gb525, 0, none⟩ = some (.slice A0_0 l0_0.length c0_0) := (blk_cell BK525.out 0).trans rfl; have hcz64_1 : w63.cell? ⟨gb525, 1, none⟩ = some (.slice A0_1 l0_1.length c0_1) := (blk_cell BK525.out 1).trans rfl; have hfz64_0 := blk_frozen BK525.out 0; have hfz64_1 := blk_frozen BK525.out 1) | (go_at_call 56; (with_reducible refine (slices_Contains_string_string.calls k _ _ l0_0 a1 false _ ?side1 ?side2 A8.out).mono ?_); (case side1 => exact cA (Kd.C_below HR0_0.out HB.out)); (case side2 => exact HC0_0.out); rintro e w' ⟨rfl, ⟨nd, rfl⟩⟩; (try (rw [drewN_self w63]; generalize hq_ : World.drewN w63 _ = w63; have n0_ : Aside0 (Kd.R Kd.string 9 w63 w.heap.size (fun _ => True) (.slice Ao58 t528.length co58) t528) := ⟨(by rw [← hq_]; exact (kR HO530.out))⟩; have n1_ : Aside0 (Kd.R (Kd.int .i64) 3 w63 w.heap.size (fun _ => True) (.slice Ao62 t531.length co62) t531) := ⟨(by rw [← hq_]; exact (kR HO533.out))⟩; have n2_ : Aside0 (w63.heap[gb525]? = some (.cells #[.slice A0_0 l0_0.length c0_0, .slice A0_1 l0_1.length c0_1] 27 (0, 0))) := ⟨(by rw [← hq_]; exact (kB BK525.out))⟩; have n3_ : Aside0 (w63.heap[gb526]? = some (.cells #[.slice none 0 0, .slice none 0 0] 27 (0, 0))) := ⟨(by rw [← hq_]; exact (kB BK526.out))⟩; have n4_ : Aside0 (w63.heap[gb534]? = some (.cells #[.slice Ao58 t528.length co58, .slice Ao62 t531.length co62] 27 (0, 0))) := ⟨(by rw [← hq_]; exact (kB BK534.out))⟩; have n5_ : Aside0 (Below w.heap.size w w63) := ⟨(by rw [← hq_]; exact bS)⟩; clear HO530 HO533 BK525 BK526 BK534 HB hq_; have HO530 := n0_; have HO533 := n1_; have BK525 := n2_; have BK526 := n3_; have BK534 := n4_; have HB := n5_; clear n0_ n1_ n2_ n3_ n4_ n5_)); have hcz65_0 : w63.cell? ⟨gb525, 0, none⟩ = some (.slice A0_0 l0_0.length c0_0) := (blk_cell BK525.out 0).trans rfl; have hcz65_1 : w63.cell? ⟨gb525, 1, none⟩ = some (.slice A0_1 l0_1.length c0_1) := (blk_cell BK525.out 1).trans rfl; have hfz65_0 := blk_frozen BK525.out 0; have hfz65_1 := blk_frozen BK525.out 1; have hcz66_0 : w63.cell? ⟨gb534, 0, none⟩ = some (.slice Ao58 t528.length co58) := (blk_cell BK534.out 0).trans rfl; have hcz66_1 : w63.cell? ⟨gb534, 1, none⟩ = some (.slice Ao62 t531.length co62) := (blk_cell BK534.out 1).trans rfl; have hfz66_0 := blk_frozen BK534.out 0; have hfz66_1 := blk_frozen BK534.out 1; have hcz67_0 : w63.cell? ⟨gb526, 0, none⟩ = some (.slice none 0 0) := (blk_cell BK526.out 0).trans rfl; have hcz67_1 : w63.cell? ⟨gb526, 1, none⟩ = some (.slice none 0 0) := (blk_cell BK526.out 1).trans rfl; have hfz67_0 := blk_frozen BK526.out 0; have hfz67_1 := blk_frozen BK526.out 1))
   refine bodyPost_ret (results_cell_row rfl _ _ gb526 27 #[.slice Ao58 t528.length co58, .slice Ao62 t531.length co62] (0, 0) _ rfl (by (with_reducible repeat (first | refine blk_drewN ?_ _ | refine blk_drew ?_ | refine blk_alloc ?_ _)); refine blk_put (cs := #[.slice Ao58 t528.length co58, .slice none 0 0]) ?_ 1 _ rfl; (with_reducible repeat (first | refine blk_drewN ?_ _ | refine blk_drew ?_ | refine blk_alloc ?_ _)); refine blk_put (cs := #[.slice none 0 0, .slice none 0 0]) ?_ 0 _ rfl; (with_reducible repeat (first | refine blk_drewN ?_ _ | refine blk_drew ?_ | refine blk_alloc ?_ _)); exact BK526.out) Try.underlying27 rfl (by kernel_rfl)) rfl ?_
   exact ⟨_, _, eE, (rM (Kd.R_far (p := ⟨gb526, 1, none⟩) (Kd.R_far (p := ⟨gb526, 0, none⟩) (Kd.R_types HO530.out BK526.out (by decide)) (fun _ hk => hk.2) (.slice Ao58 t528.length co58)) (fun _ hk => hk.2) (.slice Ao62 t531.length co62)) (fun _ hk => trivial)), (rM (Kd.R_far (p := ⟨gb526, 1, none⟩) (Kd.R_far (p := ⟨gb526, 0, none⟩) (Kd.R_types HO533.out BK526.out (by decide)) (fun _ hk => hk.2) (.slice Ao58 t528.length co58)) (fun _ hk => hk.2) (.slice Ao62 t531.length co62)) (fun _ hk => trivial)), bS⟩
  replace c7 := Bool.eq_false_iff.mpr c7
  subst c7
  rw [if_neg nF] at H
  simp only [Option.some.injEq, Prod.mk.injEq] at H
  obtain ⟨rfl, rfl⟩ := H
  go_enter Try.func22, Try.ntmps22
  go_wp2_with (first | ((with_reducible refine gate_dst (N := 2) rfl ?_); (try (refine gate_guard (by rfl) ?_; dsimp only)); refine box_event ?hg (N := 2) ?hd (cs := #[.slice A0_0 l0_0.length c0_0, .slice A0_1 l0_1.length c0_1]) (t := 27) ?hr ?_; (case hd => rfl); (case hg => rfl); (case hr => first | (go_simp; done) | (go_simp; rfl)); intro gb525 hg w68 hbox hb; have n_ := aT (below_step bH hb) (aT (hbox) (aT ((bZ hg : w.heap.size ≤ gb525)) (aM ((bZ hg : w.heap.size ≤ gb525))))); clear HB; obtain ⟨HB, BK525, GW525, GE525⟩ := n_; clear hb hbox hg) | ((with_reducible refine gate_dst (N := 4) rfl ?_); (try (refine gate_guard (by rfl) ?_; dsimp only)); refine box_event ?hg (N := 4) ?hd (cs := #[.slice none 0 0, .slice none 0 0]) (t := 27) ?hr ?_; (case hd => rfl); (case hg => rfl); (case hr => first | (go_simp; done) | (go_simp; rfl)); intro gb526 hg w69 hbox hb; have n_ := aT (blk_below (kB BK525.out) hb) (aT (below_step bS hb) (aT (hbox) (aT ((bZ hg : w.heap.size ≤ gb526)) (aT ((bZ hg : w.heap.size ≤ gb526)) (aT ((nL hg BK525.out : gb525 ≠ gb526)) (aM ((nG hg BK525.out : gb526 ≠ gb525)))))))); clear BK525 HB; obtain ⟨BK525, HB, BK526, GW526, GE526, NB525_526, NB526_525⟩ := n_; clear hb hbox hg; have hnb70 := NB525_526.out; have hnc70 := NB526_525.out; have hcz71_0 : w69.cell? ⟨gb525, 0, none⟩ = some (.slice A0_0 l0_0.length c0_0) := (blk_cell BK525.out 0).trans rfl; have hcz71_1 : w69.cell? ⟨gb525, 1, none⟩ = some (.slice A0_1 l0_1.length c0_1) := (blk_cell BK525.out 1).trans rfl; have hfz71_0 := blk_frozen BK525.out 0; have hfz71_1 := blk_frozen BK525.out 1) | (refine gL 46 (some 7) Try.func46 #[.agg #[.slice A0_0 l0_0.length c0_0, .slice A0_1 l0_1.length c0_1]] ?_; (with_reducible refine (impl_KnownOk.calls k _ _ l0_0 _ _ l0_1 true _ ?side1 ?side2 ?side3 ?side4 A3.out).mono ?_); (case side1 => exact cA (Kd.C_below HR0_0.out HB.out)); (case side2 => exact HC0_0.out); (case side3 => exact cA (Kd.C_below HR0_1.out HB.out)); (case side4 => exact HC0_1.out); rintro e w72 ⟨rfl, hb⟩; refine ⟨_, rfl, ?_⟩; have n_ := aT (blk_below (kB BK525.out) hb) (aT (blk_below (kB BK526.out) hb) (aM (below_step bS hb))); clear BK525 BK526 HB; obtain ⟨BK525, BK526, HB⟩ := n_; (try clear hb); have hcz73_0 : w72.cell? ⟨gb525, 0, none⟩ = some (.slice A0_0 l0_0.length c0_0) := (blk_cell BK525.out 0).trans rfl; have hcz73_1 : w72.cell? ⟨gb525, 1, none⟩ = some (.slice A0_1 l0_1.length c0_1) := (blk_cell BK525.out 1).trans rfl; have hfz73_0 := blk_frozen BK525.out 0; have hfz73_1 := blk_frozen BK525.out 1) | (refine gL 55 (some 11) Try.func55 #[.agg #[.slice A0_0 l0_0.length c0_0, .slice A0_1 l0_1.length c0_1]] ?_; (with_reducible refine (impl_copyKnown.calls _ _ l0_0 _ _ l0_1 t528 t531 _ ?side1 ?side2 ?side3 ?side4 A5.out).mono ?_); (case side1 => exact cA (Kd.C_below HR0_0.out HB.out)); (case side2 => exact HC0_0.out); (case side3 => exact cA (Kd.C_below HR0_1.out HB.out)); (case side4 => exact HC0_1.out); rintro e w74 ⟨v529, v532, rfl, ho0, ho1, hb⟩; refine ⟨_, rfl, ?_⟩; have n_ := aT (Kd.R_lower ho0 (below_size bS)) (aT (Kd.R_lower ho1 (below_size bS)) (aT (blk_below (kB BK525.out) hb) (aT (blk_below (kB BK526.out) hb) (aM (below_step bS hb))))); clear BK525 BK526 HB; obtain ⟨HO530, HO533, BK525, BK526, HB⟩ := n_; (try clear hb); (try clear ho0); (try clear ho1)) | ((with_reducible refine gate_dst (N := 5) rfl ?_); (try (refine gate_guard (by rfl) ?_; dsimp only)); refine box_event ?hg (N := 5) ?hd (cs := #[.slice none 0 0, .slice none 0 0]) (t := 27) ?hr ?_; (case hd => rfl); (case hg => rfl); (case hr => first | (go_simp; done) | (go_simp; rfl)); intro gb534 hg w75 hbox hb; have n_ := aT (Kd.R_below (kR HO530.out) hb) (aT (Kd.R_below (kR HO533.out) hb) (aT (blk_below (kB BK525.out) hb) (aT (blk_below (kB BK526.out) hb) (aT (below_step bS hb) (aT (hbox) (aT ((bZ hg : w.heap.size ≤ gb534)) (aT ((bZ hg : w.heap.size ≤ gb534)) (aT ((nL hg BK525.out : gb525 ≠ gb534)) (aT ((nG hg BK525.out : gb534 ≠ gb525)) (aT ((nL hg BK526.out : gb526 ≠ gb534)) (aM ((nG hg BK526.out : gb534 ≠ gb526))))))))))))); clear HO530 HO533 BK525 BK526 HB; obtain ⟨HO530, HO533, BK525, BK526, HB, BK534, GW534, GE534, NB525_534, NB534_525, NB526_534, NB534_526⟩ := n_; clear hb hbox hg; obtain ⟨Ao76, co76, eo76⟩ := Kd.R_slice HO530.out; subst eo76; have hnb77 := NB534_525.out; have hnc77 := NB525_534.out; have hnb78 := NB534_526.out; have hnc78 := NB526_534.out; have hcz79_0 : w75.cell? ⟨gb534, 0, none⟩ = some (.slice none 0 0) := (blk_cell BK534.out 0).trans rfl; have hcz79_1 : w75.cell? ⟨gb534, 1, none⟩ = some (.slice none 0 0) := (blk_cell BK534.out 1).trans rfl; have hfz79_0 := blk_frozen BK534.out 0; have hfz79_1 := blk_frozen BK534.out 1; obtain ⟨Ao80, co80, eo80⟩ := Kd.R_slice HO533.out; subst eo80) | (refine gL 47 (some 13) Try.func47 #[.string a1] ?_; (with_reducible refine (impl_TermOk.calls k a1 false _ A6.out).mono ?_); rintro e w81 ⟨rfl, hb⟩; refine ⟨_, rfl, ?_⟩; have n_ := aT (Kd.R_below (rF2 HO530.out BK534.out) hb) (aT (Kd.R_below (rF2 HO533.out BK534.out) hb) (aT (blk_below (g := gb525) (o := .cells #[.slice A0_0 l0_0.length c0_0, .slice A0_1 l0_1.length c0_1] 27 (0, 0)) (kF2 NB525_534.out BK525.out) hb) (aT (blk_below (g := gb526) (o := .cells #[.slice none 0 0, .slice none 0 0] 27 (0, 0)) (kF2 NB526_534.out BK526.out) hb) (aT (blk_below (g := gb534) (o := .cells #[.slice Ao76 t528.length co76, .slice Ao80 t531.length co80] 27 (0, 0)) (by (with_reducible repeat (first | refine blk_drewN ?_ _ | refine blk_drew ?_ | refine blk_alloc ?_ _)); refine blk_put (cs := #[.slice Ao76 t528.length co76, .slice none 0 0]) ?_ 1 _ rfl; (with_reducible repeat (first | refine blk_drewN ?_ _ | refine blk_drew ?_ | refine blk_alloc ?_ _)); refine blk_put (cs := #[.slice none 0 0, .slice none 0 0]) ?_ 0 _ rfl; (with_reducible repeat (first | refine blk_drewN ?_ _ | refine blk_drew ?_ | refine blk_alloc ?_ _)); exact BK534.out) hb) (aM (below_step bS hb)))))); clear HO530 HO533 BK525 BK526 BK534 HB; obtain ⟨HO530, HO533, BK525, BK526, BK534, HB⟩ := n_; (try clear hb); have hcz82_0 : w81.cell? ⟨gb534, 0, none⟩ = some (.slice Ao76 t528.length co76) := (blk_cell BK534.out 0).trans rfl; have hcz82_1 : w81.cell? ⟨gb534, 1, none⟩ = some (.slice Ao80 t531.length co80) := (blk_cell BK534.out 1).trans rfl; have hfz82_0 := blk_frozen BK534.out 0; have hfz82_1 := blk_frozen BK534.out 1; have hcz83_0 : w81.cell? ⟨gb526, 0, none⟩ = some (.slice none 0 0) := (blk_cell BK526.out 0).trans rfl; have hcz83_1 : w81.cell? ⟨gb526, 1, none⟩ = some (.slice none 0 0) := (blk_cell BK526.out 1).trans rfl; have hfz83_0 := blk_frozen BK526.out 0; have hfz83_1 := blk_frozen BK526.out 1))
  refine bodyPost_ret (results_cell_row rfl _ _ gb526 27 #[.slice Ao76 t528.length co76, .slice Ao80 t531.length co80] (0, 0) _ rfl (by (with_reducible repeat (first | refine blk_drewN ?_ _ | refine blk_drew ?_ | refine blk_alloc ?_ _)); refine blk_put (cs := #[.slice Ao76 t528.length co76, .slice none 0 0]) ?_ 1 _ rfl; (with_reducible repeat (first | refine blk_drewN ?_ _ | refine blk_drew ?_ | refine blk_alloc ?_ _)); refine blk_put (cs := #[.slice none 0 0, .slice none 0 0]) ?_ 0 _ rfl; (with_reducible repeat (first | refine blk_drewN ?_ _ | refine blk_drew ?_ | refine blk_alloc ?_ _)); exact BK526.out) Try.underlying27 rfl (by kernel_rfl)) rfl ?_
  exact ⟨_, _, eE, (rM (Kd.R_far (p := ⟨gb526, 1, none⟩) (Kd.R_far (p := ⟨gb526, 0, none⟩) (Kd.R_types HO530.out BK526.out (by decide)) (fun _ hk => hk.2) (.slice Ao76 t528.length co76)) (fun _ hk => hk.2) (.slice Ao80 t531.length co80)) (fun _ hk => trivial)), (rM (Kd.R_far (p := ⟨gb526, 1, none⟩) (Kd.R_far (p := ⟨gb526, 0, none⟩) (Kd.R_types HO533.out BK526.out (by decide)) (fun _ hk => hk.2) (.slice Ao76 t528.length co76)) (fun _ hk => hk.2) (.slice Ao80 t531.length co80)) (fun _ hk => trivial)), bS⟩
 replace c4 := Bool.eq_false_iff.mpr c4
 subst c4
 rw [if_neg nF] at H
 simp only [Option.some.injEq, Prod.mk.injEq] at H
 obtain ⟨rfl, rfl⟩ := H
 go_enter Try.func22, Try.ntmps22
 go_wp2_with (first | ((with_reducible refine gate_dst (N := 2) rfl ?_); (try (refine gate_guard (by rfl) ?_; dsimp only)); refine box_event ?hg (N := 2) ?hd (cs := #[.slice A0_0 l0_0.length c0_0, .slice A0_1 l0_1.length c0_1]) (t := 27) ?hr ?_; (case hd => rfl); (case hg => rfl); (case hr => first | (go_simp; done) | (go_simp; rfl)); intro gb525 hg w84 hbox hb; have n_ := aT (below_step bH hb) (aT (hbox) (aT ((bZ hg : w.heap.size ≤ gb525)) (aM ((bZ hg : w.heap.size ≤ gb525))))); clear HB; obtain ⟨HB, BK525, GW525, GE525⟩ := n_; clear hb hbox hg) | ((with_reducible refine gate_dst (N := 4) rfl ?_); (try (refine gate_guard (by rfl) ?_; dsimp only)); refine box_event ?hg (N := 4) ?hd (cs := #[.slice none 0 0, .slice none 0 0]) (t := 27) ?hr ?_; (case hd => rfl); (case hg => rfl); (case hr => first | (go_simp; done) | (go_simp; rfl)); intro gb526 hg w85 hbox hb; have n_ := aT (blk_below (kB BK525.out) hb) (aT (below_step bS hb) (aT (hbox) (aT ((bZ hg : w.heap.size ≤ gb526)) (aT ((bZ hg : w.heap.size ≤ gb526)) (aT ((nL hg BK525.out : gb525 ≠ gb526)) (aM ((nG hg BK525.out : gb526 ≠ gb525)))))))); clear BK525 HB; obtain ⟨BK525, HB, BK526, GW526, GE526, NB525_526, NB526_525⟩ := n_; clear hb hbox hg; have hnb86 := NB525_526.out; have hnc86 := NB526_525.out; have hcz87_0 : w85.cell? ⟨gb525, 0, none⟩ = some (.slice A0_0 l0_0.length c0_0) := (blk_cell BK525.out 0).trans rfl; have hcz87_1 : w85.cell? ⟨gb525, 1, none⟩ = some (.slice A0_1 l0_1.length c0_1) := (blk_cell BK525.out 1).trans rfl; have hfz87_0 := blk_frozen BK525.out 0; have hfz87_1 := blk_frozen BK525.out 1) | (refine gL 46 (some 7) Try.func46 #[.agg #[.slice A0_0 l0_0.length c0_0, .slice A0_1 l0_1.length c0_1]] ?_; (with_reducible refine (impl_KnownOk.calls k _ _ l0_0 _ _ l0_1 false _ ?side1 ?side2 ?side3 ?side4 A3.out).mono ?_); (case side1 => exact cA (Kd.C_below HR0_0.out HB.out)); (case side2 => exact HC0_0.out); (case side3 => exact cA (Kd.C_below HR0_1.out HB.out)); (case side4 => exact HC0_1.out); rintro e w88 ⟨rfl, hb⟩; refine ⟨_, rfl, ?_⟩; have n_ := aT (blk_below (kB BK525.out) hb) (aT (blk_below (kB BK526.out) hb) (aM (below_step bS hb))); clear BK525 BK526 HB; obtain ⟨BK525, BK526, HB⟩ := n_; (try clear hb); have hcz89_0 : w88.cell? ⟨gb526, 0, none⟩ = some (.slice none 0 0) := (blk_cell BK526.out 0).trans rfl; have hcz89_1 : w88.cell? ⟨gb526, 1, none⟩ = some (.slice none 0 0) := (blk_cell BK526.out 1).trans rfl; have hfz89_0 := blk_frozen BK526.out 0; have hfz89_1 := blk_frozen BK526.out 1))
 refine bodyPost_ret (results_cell_row rfl _ _ gb526 27 #[.slice none 0 0, .slice none 0 0] (0, 0) _ rfl (by (with_reducible repeat (first | refine blk_drewN ?_ _ | refine blk_drew ?_ | refine blk_alloc ?_ _)); refine blk_put (cs := #[.slice none 0 0, .slice none 0 0]) ?_ 1 _ rfl; (with_reducible repeat (first | refine blk_drewN ?_ _ | refine blk_drew ?_ | refine blk_alloc ?_ _)); refine blk_put (cs := #[.slice none 0 0, .slice none 0 0]) ?_ 0 _ rfl; (with_reducible repeat (first | refine blk_drewN ?_ _ | refine blk_drew ?_ | refine blk_alloc ?_ _)); exact BK526.out) Try.underlying27 rfl (by kernel_rfl)) rfl ?_
 exact ⟨_, _, eE, (by first | exact Kd.R_nil _ _ _ _ _ | exact Kd.N_nil _ _ _ _ _ | exact Kd.V_nil _ _ _ _ _ | exact Kd.Q_nil _ _ _ _ _ | exact Kd.S_nil _ _ _ _ _), (by first | exact Kd.R_nil _ _ _ _ _ | exact Kd.N_nil _ _ _ _ _ | exact Kd.V_nil _ _ _ _ _ | exact Kd.Q_nil _ _ _ _ _ | exact Kd.S_nil _ _ _ _ _), bS⟩

/-! ### impl_Sees: function 23 -/
def impl_Sees.f (k : Nat) (l0 : List ByteArray) (l1 : List Int) (t : ByteArray) : Option Bool :=
 (impl_KnownOk.f k l0 l1).bind fun ok => if ok = true then (if (t.size : Int) ≤ 1048576 then ((impl_sightOf.f k l0 l1).bind fun s => some (memB t s.1)) else none) else some false
set_option maxHeartbeats 2000000 in
set_option maxRecDepth 100000 in
theorem impl_Sees.calls (k : Nat) (A0_0 : Option Addr) (c0_0 : Nat) (l0_0 : List ByteArray) (A0_1 : Option Addr) (c0_1 : Nat) (l0_1 : List Int) (a1 : ByteArray) (r : Bool) (w : World) (hr0_0 : Kd.C Kd.string w A0_0 l0_0.length l0_0) (hc0_0 : l0_0.length ≤ c0_0) (hr0_1 : Kd.C (Kd.int .i64) w A0_1 l0_1.length l0_1) (hc0_1 : l0_1.length ≤ c0_1) (h : impl_Sees.f k l0_0 l0_1 a1 = some r) :
  Calls Try.prog 23 #[.agg #[.slice A0_0 l0_0.length c0_0, .slice A0_1 l0_1.length c0_1], .string a1] w fun e w' => e = .returned (.bool r) ∧ Below w.heap.size w w' := by
 have hu27 := Try.underlying27
 have hu71 := Try.underlying71
 unfold impl_Sees.f at h
 obtain ⟨ok, hok, h⟩ := Option.bind_eq_some_iff.mp h
 cases ok with
 | false =>
  obtain rfl := Option.some.inj h
  go_enter Try.func23, Try.ntmps23
  go_wp2_with (first
   | (refine bE 2 #[.slice A0_0 l0_0.length c0_0, .slice A0_1 l0_1.length c0_1] 27 ?_; intro gp hgp w1 hbp hb1; clear hgp; have hcp0 : w1.cell? ⟨gp, 0, none⟩ = some (.slice A0_0 l0_0.length c0_0) := (blk_cell hbp 0).trans rfl; have hcp1 : w1.cell? ⟨gp, 1, none⟩ = some (.slice A0_1 l0_1.length c0_1) := (blk_cell hbp 1).trans rfl)
   | (refine gL 46 (some 6) Try.func46 #[.agg #[.slice A0_0 l0_0.length c0_0, .slice A0_1 l0_1.length c0_1]] ?_; (with_reducible refine (impl_KnownOk.calls k _ _ _ _ _ _ false _ (Kd.C_below hr0_0 hb1) hc0_0 (Kd.C_below hr0_1 hb1) hc0_1 hok).mono ?_); rintro e w2 ⟨rfl, hb2⟩; refine ⟨_, rfl, ?_⟩; have hbp2 := blk_below hbp hb2; have hdp0 : w2.cell? ⟨gp, 0, none⟩ = some (.slice A0_0 l0_0.length c0_0) := (blk_cell hbp2 0).trans rfl; have hdp1 : w2.cell? ⟨gp, 1, none⟩ = some (.slice A0_1 l0_1.length c0_1) := (blk_cell hbp2 1).trans rfl))
  go_ret
  exact ⟨rfl, below_step hb1 hb2⟩
 | true =>
  simp only [if_true] at h
  have ht : (a1.size : Int) ≤ 1048576 := by
   by_cases hc : (a1.size : Int) ≤ 1048576
   ·exact hc
   rw [if_neg hc] at h; cases h
  rw [if_pos ht] at h
  obtain ⟨⟨S, R, C⟩, hs, h⟩ := Option.bind_eq_some_iff.mp h
  obtain rfl := Option.some.inj h
  by_cases hin : memB a1 S = true
  ·go_enter Try.func23, Try.ntmps23
   go_wp2_with (first
    | (refine bE 2 #[.slice A0_0 l0_0.length c0_0, .slice A0_1 l0_1.length c0_1] 27 ?_; intro gp hgp w1 hbp hb1; clear hgp; have hcp0 : w1.cell? ⟨gp, 0, none⟩ = some (.slice A0_0 l0_0.length c0_0) := (blk_cell hbp 0).trans rfl; have hcp1 : w1.cell? ⟨gp, 1, none⟩ = some (.slice A0_1 l0_1.length c0_1) := (blk_cell hbp 1).trans rfl)
    | (refine gL 46 (some 6) Try.func46 #[.agg #[.slice A0_0 l0_0.length c0_0, .slice A0_1 l0_1.length c0_1]] ?_; (with_reducible refine (impl_KnownOk.calls k _ _ _ _ _ _ true _ (Kd.C_below hr0_0 hb1) hc0_0 (Kd.C_below hr0_1 hb1) hc0_1 hok).mono ?_); rintro e w2 ⟨rfl, hb2⟩; refine ⟨_, rfl, ?_⟩; have hbp2 := blk_below hbp hb2; have hdp0 : w2.cell? ⟨gp, 0, none⟩ = some (.slice A0_0 l0_0.length c0_0) := (blk_cell hbp2 0).trans rfl; have hdp1 : w2.cell? ⟨gp, 1, none⟩ = some (.slice A0_1 l0_1.length c0_1) := (blk_cell hbp2 1).trans rfl; have hb12 := below_step hb1 hb2)
    | ((with_reducible refine gate_callee (f := 48) rfl ?_); (try (refine gate_guard (by rfl) ?_; dsimp only)); refine goesL_ (some 9) rfl rfl Try.func48 (by kernel_rfl) rfl #[.agg #[.slice A0_0 l0_0.length c0_0, .slice A0_1 l0_1.length c0_1]] rfl eA ?_; (with_reducible refine (impl_sightOf.calls k _ _ _ _ _ _ _ _ (Kd.C_below hr0_0 hb12) (Kd.C_below hr0_1 hb12) hs).mono ?_); rintro e w3 ⟨g, b1, b2, v, rfl, hSg⟩; refine ⟨_, rfl, ?_⟩; obtain ⟨he0, he1, he2, hef⟩ := hSg.cells)
    | (at_lookup; (try (refine gate_guard (by rfl) ?_; dsimp only)); refine MS.look1 hSg.2.1 rfl _ _ rfl a1 rfl rfl (by omega) (memB_in hin) ?_))
   go_ret
   exact ⟨rfl, below_step hb12 hSg.2.2.2.2.2⟩
  have hinf : memB a1 S = false := by simpa using hin
  go_enter Try.func23, Try.ntmps23
  go_wp2_with (first
   | (refine bE 2 #[.slice A0_0 l0_0.length c0_0, .slice A0_1 l0_1.length c0_1] 27 ?_; intro gp hgp w1 hbp hb1; clear hgp; have hcp0 : w1.cell? ⟨gp, 0, none⟩ = some (.slice A0_0 l0_0.length c0_0) := (blk_cell hbp 0).trans rfl; have hcp1 : w1.cell? ⟨gp, 1, none⟩ = some (.slice A0_1 l0_1.length c0_1) := (blk_cell hbp 1).trans rfl)
   | (refine gL 46 (some 6) Try.func46 #[.agg #[.slice A0_0 l0_0.length c0_0, .slice A0_1 l0_1.length c0_1]] ?_; (with_reducible refine (impl_KnownOk.calls k _ _ _ _ _ _ true _ (Kd.C_below hr0_0 hb1) hc0_0 (Kd.C_below hr0_1 hb1) hc0_1 hok).mono ?_); rintro e w2 ⟨rfl, hb2⟩; refine ⟨_, rfl, ?_⟩; have hbp2 := blk_below hbp hb2; have hdp0 : w2.cell? ⟨gp, 0, none⟩ = some (.slice A0_0 l0_0.length c0_0) := (blk_cell hbp2 0).trans rfl; have hdp1 : w2.cell? ⟨gp, 1, none⟩ = some (.slice A0_1 l0_1.length c0_1) := (blk_cell hbp2 1).trans rfl; have hb12 := below_step hb1 hb2)
   | ((with_reducible refine gate_callee (f := 48) rfl ?_); (try (refine gate_guard (by rfl) ?_; dsimp only)); refine goesL_ (some 9) rfl rfl Try.func48 (by kernel_rfl) rfl #[.agg #[.slice A0_0 l0_0.length c0_0, .slice A0_1 l0_1.length c0_1]] rfl eA ?_; (with_reducible refine (impl_sightOf.calls k _ _ _ _ _ _ _ _ (Kd.C_below hr0_0 hb12) (Kd.C_below hr0_1 hb12) hs).mono ?_); rintro e w3 ⟨g, b1, b2, v, rfl, hSg⟩; refine ⟨_, rfl, ?_⟩; obtain ⟨he0, he1, he2, hef⟩ := hSg.cells)
   | (at_lookup; (try (refine gate_guard (by rfl) ?_; dsimp only)); refine MS.look0 hSg.2.1 rfl _ _ rfl a1 rfl rfl (by omega) (memB_out hin) ?_))
  go_ret
  exact ⟨rfl, below_step hb12 hSg.2.2.2.2.2⟩

/-! ### laws_sameInts: function 24 -/
def laws_sameInts.l0 : Nat → List Int → List Int → Int → Option (Bool)
 | 0, _, _, _ => none
 | k + 1, x0, x1, x5 => if x5 < (x0.length : Int) then (if 0 ≤ x5 then (if x5 < (x1.length : Int) then (if (rd x0 x5) = (rd x1 x5) then (laws_sameInts.l0 k x0 x1 (wrap64 (x5 + 1))) else (some false)) else (none)) else (none)) else (some true)
def laws_sameInts.f (k : Nat) (l0 : List Int) (l1 : List Int) : Option (Bool) := if (l0.length : Int) = (l1.length : Int) then (laws_sameInts.l0 k l0 l1 0) else (some false)
set_option maxHeartbeats 8000000 in
set_option maxRecDepth 100000 in
theorem laws_sameInts.calls (k : Nat) (A0 : Option Addr) (c0 : Nat) (l0 : List Int) (A1 : Option Addr) (c1 : Nat) (l1 : List Int) (r : Bool) (w : World) (hr0 : Kd.C (Kd.int .i64) w A0 l0.length l0) (hc0 : l0.length ≤ c0) (hr1 : Kd.C (Kd.int .i64) w A1 l1.length l1) (hc1 : l1.length ≤ c1) (h : laws_sameInts.f k l0 l1 = some r) :
  Calls Try.prog 24 #[.slice A0 l0.length c0, .slice A1 l1.length c1] w fun e w' => e = .returned (.bool r) ∧ Drawn0 w w' := by
 have HR0 := Aside0.mk hr0
 have HC0 := Aside0.mk hc0
 clear hr0 hc0
 have HR1 := Aside0.mk hr1
 have HC1 := Aside0.mk hc1
 clear hr1 hc1
 have H := h
 clear h
 unfold laws_sameInts.f at H
 by_cases c3 : (l0.length : Int) = (l1.length : Int)
 ·rw [if_pos c3] at H
  have c3b0 : ((l0.length : Int) == (l1.length : Int)) = true := beq_iff_eq.mpr c3
  have c3b1 : ((l0.length : Int) != (l1.length : Int)) = false := bne_eq_false_iff_eq.mpr c3
  have c3b2 : (l0.length == l1.length) = true := by first | simpa using c3 | (simp at c3 ⊢; omega)
  clear c3
  have H' := Aside0.mk H
  clear H
  go_enter Try.func24, Try.ntmps24
  go_wp2
  repeat (go_quiet (fail); try go_wp2)
  go_loopg [5] k (fun kq v5 w' => ∃ (x5_1 : Int), v5 = .int .i64 x5_1 ∧ Aside0 (laws_sameInts.l0 kq l0 l1 x5_1 = some r) ∧ Aside0 (kq ≤ k) ∧ Drawn0 w w')
  case atStart => exact ⟨(0), eX, H', ⟨Nat.le_refl _⟩, (by repeat (first | exact Drawn0.refl _ | apply Drawn0.step))⟩
  case round =>
   clear H'
   try clear c1
   try clear c3
   try clear c3b0
   try clear c3b1
   try clear c3b2
   obtain ⟨x5_1, rfl, HA, HK1, ⟨m1, rfl⟩⟩ := hrel
   cases gk with
   | zero => exact absurd HA.out (by simp [laws_sameInts.l0])
   | succ k1 =>
    have H := HA.out
    clear HA
    simp only [laws_sameInts.l0] at H
    by_cases c4 : x5_1 < (l0.length : Int)
    ·rw [if_pos c4] at H
     have c4b0 := decide_eq_true c4
     clear c4
     by_cases c5 : 0 ≤ x5_1
     ·rw [if_pos c5] at H
      have c5b0 := decide_eq_true c5
      clear c5
      by_cases c6 : x5_1 < (l1.length : Int)
      ·rw [if_pos c6] at H
       have c6b0 := decide_eq_true c6
       clear c6
       by_cases c7 : (rd l0 x5_1) = (rd l1 x5_1)
       ·rw [if_pos c7] at H
        have c7b0 : ((rd l0 x5_1) == (rd l1 x5_1)) = true := beq_iff_eq.mpr c7
        have c7b1 : ((rd l0 x5_1) != (rd l1 x5_1)) = false := bne_eq_false_iff_eq.mpr c7
        clear c7
        have H' := Aside0.mk H
        clear H
        have p540 : 0 ≤ (x5_1 : Int) := of_decide_eq_true aA
        have q540 : x5_1 < (l0.length : Int) := of_decide_eq_true aA
        obtain ⟨ad540, e540, hx540_0⟩ := Kd.at_int HR0.out x5_1 p540 q540
        cases e540
        replace p540 := eq_true p540
        replace q540 := eq_true q540
        have p541 : 0 ≤ (x5_1 : Int) := of_decide_eq_true aA
        have q541 : x5_1 < (l1.length : Int) := of_decide_eq_true aA
        obtain ⟨ad541, e541, hx541_0⟩ := Kd.at_int HR1.out x5_1 p541 q541
        cases e541
        replace p541 := eq_true p541
        replace q541 := eq_true q541
        go_wp2
        repeat (go_quiet (fail); try go_wp2)
        go_roundg k1
        case measure => have := HK1.out; omega
        case rel => exact ⟨(wrap64 (x5_1 + 1)), eX, H', ⟨(by have := HK1.out; omega)⟩, (by repeat (first | exact Drawn0.refl _ | apply Drawn0.step))⟩
       rw [if_neg c7] at H
       have c7b0 : ((rd l0 x5_1) == (rd l1 x5_1)) = false := beq_eq_false_iff_ne.mpr c7
       have c7b1 : ((rd l0 x5_1) != (rd l1 x5_1)) = true := bne_iff_ne.mpr c7
       obtain rfl := Option.some.inj H
       have p540 : 0 ≤ (x5_1 : Int) := of_decide_eq_true aA
       have q540 : x5_1 < (l0.length : Int) := of_decide_eq_true aA
       obtain ⟨ad540, e540, hx540_0⟩ := Kd.at_int HR0.out x5_1 p540 q540
       cases e540
       replace p540 := eq_true p540
       replace q540 := eq_true q540
       have p541 : 0 ≤ (x5_1 : Int) := of_decide_eq_true aA
       have q541 : x5_1 < (l1.length : Int) := of_decide_eq_true aA
       obtain ⟨ad541, e541, hx541_0⟩ := Kd.at_int HR1.out x5_1 p541 q541
       cases e541
       replace p541 := eq_true p541
       replace q541 := eq_true q541
       go_wp2
       repeat (go_quiet (fail); try go_wp2)
       go_ret
       exact ⟨eX, (by repeat (first | exact Drawn0.refl _ | apply Drawn0.step))⟩
      rw [if_neg c6] at H
      exact absurd H (by simp)
     rw [if_neg c5] at H
     exact absurd H (by simp)
    rw [if_neg c4] at H
    have c4b0 := decide_eq_false c4
    clear c4
    obtain rfl := Option.some.inj H
    go_wp2
    repeat (go_quiet (fail); try go_wp2)
    go_ret
    exact ⟨eX, (by repeat (first | exact Drawn0.refl _ | apply Drawn0.step))⟩
 rw [if_neg c3] at H
 have c3b0 : ((l0.length : Int) == (l1.length : Int)) = false := beq_eq_false_iff_ne.mpr c3
 have c3b1 : ((l0.length : Int) != (l1.length : Int)) = true := bne_iff_ne.mpr c3
 have c3b2 : (l0.length == l1.length) = false := by first | simpa using c3 | (simp at c3 ⊢; omega)
 obtain rfl := Option.some.inj H
 go_enter Try.func24, Try.ntmps24
 go_wp2
 repeat (go_quiet (fail); try go_wp2)
 go_ret
 exact ⟨eX, (by repeat (first | exact Drawn0.refl _ | apply Drawn0.step))⟩

/-! ### slices_Index_int_int: function 91 -/
def slices_Index_int_int.l0 : Nat → List Int → Int → Int → Int → Option (Int)
 | 0, _, _, _, _ => none
 | k + 1, x0, x1, x7, x8 => if x8 < x7 then (if 0 ≤ x8 then (if x8 < (x0.length : Int) then (if x1 = (rd x0 x8) then (some x8) else (slices_Index_int_int.l0 k x0 x1 x7 (wrap64 (x8 + 1)))) else (none)) else (none)) else (some (-1))
def slices_Index_int_int.f (k : Nat) (l0 : List Int) (a1 : Int) : Option (Int) := slices_Index_int_int.l0 k l0 a1 (l0.length : Int) 0
set_option maxHeartbeats 8000000 in
set_option maxRecDepth 100000 in
theorem slices_Index_int_int.calls (k : Nat) (A0 : Option Addr) (c0 : Nat) (l0 : List Int) (a1 : Int) (r : Int) (w : World) (hr0 : Kd.C (Kd.int .i64) w A0 l0.length l0) (hc0 : l0.length ≤ c0) (h : slices_Index_int_int.f k l0 a1 = some r) :
  Calls Try.prog 91 #[.slice A0 l0.length c0, .int .i64 a1] w fun e w' => e = .returned (.int .i64 r) ∧ Drawn0 w w' := by
 have HR0 := Aside0.mk hr0
 have HC0 := Aside0.mk hc0
 clear hr0 hc0
 have H := h
 clear h
 unfold slices_Index_int_int.f at H
 have H' := Aside0.mk H
 clear H
 go_enter Try.func91, Try.ntmps91
 go_wp2
 go_loopg [8] k (fun kq v8 w' => ∃ (x8_1 : Int), v8 = .int .i64 x8_1 ∧ Aside0 (slices_Index_int_int.l0 kq l0 a1 (l0.length : Int) x8_1 = some r) ∧ Aside0 (kq ≤ k) ∧ Drawn0 w w')
 case atStart => exact ⟨(0), eX, H', ⟨Nat.le_refl _⟩, (by repeat (first | exact Drawn0.refl _ | apply Drawn0.step))⟩
 case round =>
  clear H'
  obtain ⟨x8_1, rfl, HA, HK1, ⟨m1, rfl⟩⟩ := hrel
  cases gk with
  | zero => exact absurd HA.out (by simp [slices_Index_int_int.l0])
  | succ k1 =>
   have H := HA.out
   clear HA
   simp only [slices_Index_int_int.l0] at H
   by_cases c3 : x8_1 < (l0.length : Int)
   ·rw [if_pos c3] at H
    have c3b0 := decide_eq_true c3
    clear c3
    by_cases c4 : 0 ≤ x8_1
    ·rw [if_pos c4] at H
     have c4b0 := decide_eq_true c4
     clear c4
     by_cases c5 : x8_1 < (l0.length : Int)
     ·rw [if_pos c5] at H
      have c5b0 := decide_eq_true c5
      clear c5
      by_cases c6 : a1 = (rd l0 x8_1)
      ·rw [if_pos c6] at H
       have c6b0 : (a1 == (rd l0 x8_1)) = true := beq_iff_eq.mpr c6
       have c6b1 : (a1 != (rd l0 x8_1)) = false := bne_eq_false_iff_eq.mpr c6
       clear c6
       obtain rfl := Option.some.inj H
       have p542 : 0 ≤ (x8_1 : Int) := of_decide_eq_true aA
       have q542 : x8_1 < (l0.length : Int) := of_decide_eq_true aA
       obtain ⟨ad542, e542, hx542_0⟩ := Kd.at_int HR0.out x8_1 p542 q542
       cases e542
       replace p542 := eq_true p542
       replace q542 := eq_true q542
       go_wp2
       go_ret
       exact ⟨eX, (by repeat (first | exact Drawn0.refl _ | apply Drawn0.step))⟩
      rw [if_neg c6] at H
      have c6b0 : (a1 == (rd l0 x8_1)) = false := beq_eq_false_iff_ne.mpr c6
      have c6b1 : (a1 != (rd l0 x8_1)) = true := bne_iff_ne.mpr c6
      have H' := Aside0.mk H
      clear H
      have p542 : 0 ≤ (x8_1 : Int) := of_decide_eq_true aA
      have q542 : x8_1 < (l0.length : Int) := of_decide_eq_true aA
      obtain ⟨ad542, e542, hx542_0⟩ := Kd.at_int HR0.out x8_1 p542 q542
      cases e542
      replace p542 := eq_true p542
      replace q542 := eq_true q542
      go_wp2
      go_roundg k1
      case measure => have := HK1.out; omega
      case rel => exact ⟨(wrap64 (x8_1 + 1)), eX, H', ⟨(by have := HK1.out; omega)⟩, (by repeat (first | exact Drawn0.refl _ | apply Drawn0.step))⟩
     rw [if_neg c5] at H
     exact absurd H (by simp)
    rw [if_neg c4] at H
    exact absurd H (by simp)
   rw [if_neg c3] at H
   have c3b0 := decide_eq_false c3
   clear c3
   obtain rfl := Option.some.inj H
   go_wp2
   go_ret
   exact ⟨eX, (by repeat (first | exact Drawn0.refl _ | apply Drawn0.step))⟩

/-! ### slices_Contains_int_int: function 58 -/
def slices_Contains_int_int.f (k : Nat) (l0 : List Int) (a1 : Int) : Option (Bool) := (slices_Index_int_int.f k l0 a1).bind fun t543 => (some (decide (t543 ≥ 0)))
set_option maxHeartbeats 8000000 in
set_option maxRecDepth 100000 in
theorem slices_Contains_int_int.calls (k : Nat) (A0 : Option Addr) (c0 : Nat) (l0 : List Int) (a1 : Int) (r : Bool) (w : World) (hr0 : Kd.C (Kd.int .i64) w A0 l0.length l0) (hc0 : l0.length ≤ c0) (h : slices_Contains_int_int.f k l0 a1 = some r) :
  Calls Try.prog 58 #[.slice A0 l0.length c0, .int .i64 a1] w fun e w' => e = .returned (.bool r) ∧ Drawn0 w w' := by
 have HR0 := Aside0.mk hr0
 have HC0 := Aside0.mk hc0
 clear hr0 hc0
 have H := h
 clear h
 unfold slices_Contains_int_int.f at H
 obtain ⟨t543, A3, H⟩ := oB H
 obtain rfl := Option.some.inj H
 go_enter Try.func58, Try.ntmps58
 go_wp2_with (first | (refine gL 91 (some 7) Try.func91 #[.slice A0 l0.length c0, .int .i64 a1] ?_; (with_reducible refine (slices_Index_int_int.calls k _ _ l0 a1 t543 _ ?side1 ?side2 A3.out).mono ?_); (case side1 => exact cA HR0.out); (case side2 => exact HC0.out); rintro e w' ⟨rfl, ⟨nd, rfl⟩⟩; refine ⟨_, rfl, ?_⟩))
 go_ret
 exact ⟨eX, (by repeat (first | exact Drawn0.refl _ | apply Drawn0.step))⟩

/-! ### impl_LearnKey: function 25 -/
def impl_LearnKey.f (k : Nat) (l0_0 : List ByteArray) (l0_1 : List Int) (a1 : Int) : Option (List ByteArray × List Int) := (impl_KnownOk.f k l0_0 l0_1).bind fun t546 => (if t546 = true then ((impl_copyKnown.f l0_0 l0_1).bind fun bt547 => ((impl_isKey.f a1).bind fun t554 => (if t554 = true then ((slices_Contains_int_int.f k l0_1 a1).bind fun t555 => (if t555 = true then (some (bt547.1, bt547.2)) else (if (l0_1.length : Int) < 40 then (if bt547.2.length < 17592186044416 then ((slices_Sort.f (bt547.2 ++ [a1])).bind fun t559 => (some (bt547.1, t559))) else (none)) else (some (bt547.1, bt547.2))))) else (some (bt547.1, bt547.2))))) else (some (([] : List ByteArray), ([] : List Int))))
set_option maxHeartbeats 8000000 in
set_option maxRecDepth 100000 in
theorem impl_LearnKey.calls (k : Nat) (A0_0 : Option Addr) (c0_0 : Nat) (l0_0 : List ByteArray) (A0_1 : Option Addr) (c0_1 : Nat) (l0_1 : List Int) (a1 : Int) (r1 : List ByteArray) (r2 : List Int) (w : World) (hr0_0 : Kd.C Kd.string w A0_0 l0_0.length l0_0) (hc0_0 : l0_0.length ≤ c0_0) (hr0_1 : Kd.C (Kd.int .i64) w A0_1 l0_1.length l0_1) (hc0_1 : l0_1.length ≤ c0_1) (h : impl_LearnKey.f k l0_0 l0_1 a1 = some (r1, r2)) :
  Calls Try.prog 25 #[.agg #[.slice A0_0 l0_0.length c0_0, .slice A0_1 l0_1.length c0_1], .int .i64 a1] w fun e w' => ∃ v0_ v1_ : Value, e = .returned (.agg #[v0_, v1_]) ∧ Kd.R Kd.string 9 w' w.heap.size (fun _ => True) v0_ r1 ∧ Kd.R (Kd.int .i64) 3 w' w.heap.size (fun _ => True) v1_ r2 ∧ Below w.heap.size w w' := by
 have hu27 := Try.underlying27
 have HR0_0 := Aside0.mk hr0_0
 have HC0_0 := Aside0.mk hc0_0
 clear hr0_0 hc0_0
 have HR0_1 := Aside0.mk hr0_1
 have HC0_1 := Aside0.mk hc0_1
 clear hr0_1 hc0_1
 have HB := Aside0.mk (Below.refl w.heap.size w)
 have H := h
 clear h
 unfold impl_LearnKey.f at H
 obtain ⟨t546, A3, H⟩ := oB H
 by_cases c4 : t546 = true
 ·subst c4
  rw [if_pos rfl] at H
  obtain ⟨⟨t547, t550⟩, A5, H⟩ := oB H
  dsimp only at H
  obtain ⟨t554, A6, H⟩ := oB H
  by_cases c7 : t554 = true
  ·subst c7
   rw [if_pos rfl] at H
   obtain ⟨t555, A8, H⟩ := oB H
   by_cases c9 : t555 = true
   ·subst c9
    rw [if_pos rfl] at H
    simp only [Option.some.injEq, Prod.mk.injEq] at H
    obtain ⟨rfl, rfl⟩ := H
    go_enter Try.func25, Try.ntmps25
    go_wp2_with (first | ((with_reducible refine gate_dst (N := 2) rfl ?_); (try (refine gate_guard (by rfl) ?_; dsimp only)); refine box_event ?hg (N := 2) ?hd (cs := #[.slice A0_0 l0_0.length c0_0, .slice A0_1 l0_1.length c0_1]) (t := 27) ?hr ?_; (case hd => rfl); (case hg => rfl); (case hr => first | (go_simp; done) | (go_simp; rfl)); intro gb544 hg w10 hbox hb; have n_ := aT (below_step bH hb) (aT (hbox) (aT ((bZ hg : w.heap.size ≤ gb544)) (aM ((bZ hg : w.heap.size ≤ gb544))))); clear HB; obtain ⟨HB, BK544, GW544, GE544⟩ := n_; clear hb hbox hg) | ((with_reducible refine gate_dst (N := 4) rfl ?_); (try (refine gate_guard (by rfl) ?_; dsimp only)); refine box_event ?hg (N := 4) ?hd (cs := #[.slice none 0 0, .slice none 0 0]) (t := 27) ?hr ?_; (case hd => rfl); (case hg => rfl); (case hr => first | (go_simp; done) | (go_simp; rfl)); intro gb545 hg w11 hbox hb; have n_ := aT (blk_below (kB BK544.out) hb) (aT (below_step bS hb) (aT (hbox) (aT ((bZ hg : w.heap.size ≤ gb545)) (aT ((bZ hg : w.heap.size ≤ gb545)) (aT ((nL hg BK544.out : gb544 ≠ gb545)) (aM ((nG hg BK544.out : gb545 ≠ gb544)))))))); clear BK544 HB; obtain ⟨BK544, HB, BK545, GW545, GE545, NB544_545, NB545_544⟩ := n_; clear hb hbox hg; have hnb12 := NB544_545.out; have hnc12 := NB545_544.out; have hcz13_0 : w11.cell? ⟨gb544, 0, none⟩ = some (.slice A0_0 l0_0.length c0_0) := (blk_cell BK544.out 0).trans rfl; have hcz13_1 : w11.cell? ⟨gb544, 1, none⟩ = some (.slice A0_1 l0_1.length c0_1) := (blk_cell BK544.out 1).trans rfl; have hfz13_0 := blk_frozen BK544.out 0; have hfz13_1 := blk_frozen BK544.out 1) | (refine gL 46 (some 7) Try.func46 #[.agg #[.slice A0_0 l0_0.length c0_0, .slice A0_1 l0_1.length c0_1]] ?_; (with_reducible refine (impl_KnownOk.calls k _ _ l0_0 _ _ l0_1 true _ ?side1 ?side2 ?side3 ?side4 A3.out).mono ?_); (case side1 => exact cA (Kd.C_below HR0_0.out HB.out)); (case side2 => exact HC0_0.out); (case side3 => exact cA (Kd.C_below HR0_1.out HB.out)); (case side4 => exact HC0_1.out); rintro e w14 ⟨rfl, hb⟩; refine ⟨_, rfl, ?_⟩; have n_ := aT (blk_below (kB BK544.out) hb) (aT (blk_below (kB BK545.out) hb) (aM (below_step bS hb))); clear BK544 BK545 HB; obtain ⟨BK544, BK545, HB⟩ := n_; (try clear hb); have hcz15_0 : w14.cell? ⟨gb544, 0, none⟩ = some (.slice A0_0 l0_0.length c0_0) := (blk_cell BK544.out 0).trans rfl; have hcz15_1 : w14.cell? ⟨gb544, 1, none⟩ = some (.slice A0_1 l0_1.length c0_1) := (blk_cell BK544.out 1).trans rfl; have hfz15_0 := blk_frozen BK544.out 0; have hfz15_1 := blk_frozen BK544.out 1) | (refine gL 55 (some 11) Try.func55 #[.agg #[.slice A0_0 l0_0.length c0_0, .slice A0_1 l0_1.length c0_1]] ?_; (with_reducible refine (impl_copyKnown.calls _ _ l0_0 _ _ l0_1 t547 t550 _ ?side1 ?side2 ?side3 ?side4 A5.out).mono ?_); (case side1 => exact cA (Kd.C_below HR0_0.out HB.out)); (case side2 => exact HC0_0.out); (case side3 => exact cA (Kd.C_below HR0_1.out HB.out)); (case side4 => exact HC0_1.out); rintro e w16 ⟨v548, v551, rfl, ho0, ho1, hb⟩; refine ⟨_, rfl, ?_⟩; have n_ := aT (Kd.R_lower ho0 (below_size bS)) (aT (Kd.R_lower ho1 (below_size bS)) (aT (blk_below (kB BK544.out) hb) (aT (blk_below (kB BK545.out) hb) (aM (below_step bS hb))))); clear BK544 BK545 HB; obtain ⟨HO549, HO552, BK544, BK545, HB⟩ := n_; (try clear hb); (try clear ho0); (try clear ho1)) | ((with_reducible refine gate_dst (N := 5) rfl ?_); (try (refine gate_guard (by rfl) ?_; dsimp only)); refine box_event ?hg (N := 5) ?hd (cs := #[.slice none 0 0, .slice none 0 0]) (t := 27) ?hr ?_; (case hd => rfl); (case hg => rfl); (case hr => first | (go_simp; done) | (go_simp; rfl)); intro gb553 hg w17 hbox hb; have n_ := aT (Kd.R_below (kR HO549.out) hb) (aT (Kd.R_below (kR HO552.out) hb) (aT (blk_below (kB BK544.out) hb) (aT (blk_below (kB BK545.out) hb) (aT (below_step bS hb) (aT (hbox) (aT ((bZ hg : w.heap.size ≤ gb553)) (aT ((bZ hg : w.heap.size ≤ gb553)) (aT ((nL hg BK544.out : gb544 ≠ gb553)) (aT ((nG hg BK544.out : gb553 ≠ gb544)) (aT ((nL hg BK545.out : gb545 ≠ gb553)) (aM ((nG hg BK545.out : gb553 ≠ gb545))))))))))))); clear HO549 HO552 BK544 BK545 HB; obtain ⟨HO549, HO552, BK544, BK545, HB, BK553, GW553, GE553, NB544_553, NB553_544, NB545_553, NB553_545⟩ := n_; clear hb hbox hg; obtain ⟨Ao18, co18, eo18⟩ := Kd.R_slice HO549.out; subst eo18; have hnb19 := NB553_544.out; have hnc19 := NB544_553.out; have hnb20 := NB553_545.out; have hnc20 := NB545_553.out; have hcz21_0 : w17.cell? ⟨gb553, 0, none⟩ = some (.slice none 0 0) := (blk_cell BK553.out 0).trans rfl; have hcz21_1 : w17.cell? ⟨gb553, 1, none⟩ = some (.slice none 0 0) := (blk_cell BK553.out 1).trans rfl; have hfz21_0 := blk_frozen BK553.out 0; have hfz21_1 := blk_frozen BK553.out 1; obtain ⟨Ao22, co22, eo22⟩ := Kd.R_slice HO552.out; subst eo22) | (refine gL 57 (some 13) Try.func57 #[.int .i64 a1] ?_; (with_reducible refine (impl_isKey.calls a1 true _ A6.out).mono ?_); rintro e w' ⟨rfl, ⟨nd, rfl⟩⟩; refine ⟨_, rfl, ?_⟩; have hcz23_0 : w17.cell? ⟨gb544, 0, none⟩ = some (.slice A0_0 l0_0.length c0_0) := (blk_cell BK544.out 0).trans rfl; have hcz23_1 : w17.cell? ⟨gb544, 1, none⟩ = some (.slice A0_1 l0_1.length c0_1) := (blk_cell BK544.out 1).trans rfl; have hfz23_0 := blk_frozen BK544.out 0; have hfz23_1 := blk_frozen BK544.out 1) | (go_at_call 58; (with_reducible refine (slices_Contains_int_int.calls k _ _ l0_1 a1 true _ ?side1 ?side2 A8.out).mono ?_); (case side1 => exact Kd.C_below HR0_1.out bS); (case side2 => exact HC0_1.out); rintro e w' ⟨rfl, ⟨nd, rfl⟩⟩; have hcz24_0 : w17.cell? ⟨gb545, 0, none⟩ = some (.slice none 0 0) := (blk_cell BK545.out 0).trans rfl; have hcz24_1 : w17.cell? ⟨gb545, 1, none⟩ = some (.slice none 0 0) := (blk_cell BK545.out 1).trans rfl; have hfz24_0 := blk_frozen BK545.out 0; have hfz24_1 := blk_frozen BK545.out 1))
    refine bodyPost_ret (results_cell_row rfl _ _ gb545 27 #[.slice Ao18 t547.length co18, .slice Ao22 t550.length co22] (0, 0) _ rfl (by (with_reducible repeat (first | refine blk_drewN ?_ _ | refine blk_drew ?_ | refine blk_alloc ?_ _)); refine blk_put (cs := #[.slice Ao18 t547.length co18, .slice none 0 0]) ?_ 1 _ rfl; (with_reducible repeat (first | refine blk_drewN ?_ _ | refine blk_drew ?_ | refine blk_alloc ?_ _)); refine blk_put (cs := #[.slice none 0 0, .slice none 0 0]) ?_ 0 _ rfl; (with_reducible repeat (first | refine blk_drewN ?_ _ | refine blk_drew ?_ | refine blk_alloc ?_ _)); refine blk_far ?_ NB545_553.out _; (with_reducible repeat (first | refine blk_drewN ?_ _ | refine blk_drew ?_ | refine blk_alloc ?_ _)); refine blk_far ?_ NB545_553.out _; (with_reducible repeat (first | refine blk_drewN ?_ _ | refine blk_drew ?_ | refine blk_alloc ?_ _)); exact BK545.out) Try.underlying27 rfl (by kernel_rfl)) rfl ?_
    exact ⟨_, _, eE, (rM (Kd.R_far (p := ⟨gb545, 1, none⟩) (Kd.R_far (p := ⟨gb545, 0, none⟩) (Kd.R_far (p := ⟨gb553, 1, none⟩) (Kd.R_far (p := ⟨gb553, 0, none⟩) (Kd.R_types (Kd.R_types HO549.out BK553.out (by decide)) BK545.out (by decide)) (fun _ hk => hk.1.2) (.slice Ao18 t547.length co18)) (fun _ hk => hk.1.2) (.slice Ao22 t550.length co22)) (fun _ hk => hk.2) (.slice Ao18 t547.length co18)) (fun _ hk => hk.2) (.slice Ao22 t550.length co22)) (fun _ hk => trivial)), (rM (Kd.R_far (p := ⟨gb545, 1, none⟩) (Kd.R_far (p := ⟨gb545, 0, none⟩) (Kd.R_far (p := ⟨gb553, 1, none⟩) (Kd.R_far (p := ⟨gb553, 0, none⟩) (Kd.R_types (Kd.R_types HO552.out BK553.out (by decide)) BK545.out (by decide)) (fun _ hk => hk.1.2) (.slice Ao18 t547.length co18)) (fun _ hk => hk.1.2) (.slice Ao22 t550.length co22)) (fun _ hk => hk.2) (.slice Ao18 t547.length co18)) (fun _ hk => hk.2) (.slice Ao22 t550.length co22)) (fun _ hk => trivial)), bS⟩
   replace c9 := Bool.eq_false_iff.mpr c9
   subst c9
   rw [if_neg nF] at H
   by_cases c25 : (l0_1.length : Int) < 40
   ·rw [if_pos c25] at H
    have c25b0 := decide_eq_true c25
    have c25b1 : decide (l0_1.length < 40) = true := decide_eq_true (by omega)
    clear c25
    by_cases c26 : t550.length < 17592186044416
    ·rw [if_pos c26] at H
     have LMc26 := Aside0.mk c26
     clear c26
     obtain ⟨y556, hy556⟩ : ∃ y_ : List Int, y_ = (t550 ++ [a1]) := ⟨_, rfl⟩
     replace H : ((slices_Sort.f y556).bind fun t559 => (some (t547, t559))) = some (r1, r2) := by first | (rw [hy556]; with_reducible exact H) | (have H2_ := (Option.bind_some _ _).symm.trans H; rw [hy556]; with_reducible exact H2_) | (have H2_ := (Option.bind_some _ _).symm.trans H; with_reducible exact H2_) | with_reducible exact H | (rw [hy556]; exact H) | exact H
     have Ny556 := Aside0.mk hy556
     clear hy556
     obtain ⟨t559, A27, H⟩ := oB H
     simp only [Option.some.injEq, Prod.mk.injEq] at H
     obtain ⟨rfl, rfl⟩ := H
     go_enter Try.func25, Try.ntmps25
     go_wp2_with (first | ((with_reducible refine gate_dst (N := 2) rfl ?_); (try (refine gate_guard (by rfl) ?_; dsimp only)); refine box_event ?hg (N := 2) ?hd (cs := #[.slice A0_0 l0_0.length c0_0, .slice A0_1 l0_1.length c0_1]) (t := 27) ?hr ?_; (case hd => rfl); (case hg => rfl); (case hr => first | (go_simp; done) | (go_simp; rfl)); intro gb544 hg w28 hbox hb; have n_ := aT (below_step bH hb) (aT (hbox) (aT ((bZ hg : w.heap.size ≤ gb544)) (aM ((bZ hg : w.heap.size ≤ gb544))))); clear HB; obtain ⟨HB, BK544, GW544, GE544⟩ := n_; clear hb hbox hg) | ((with_reducible refine gate_dst (N := 4) rfl ?_); (try (refine gate_guard (by rfl) ?_; dsimp only)); refine box_event ?hg (N := 4) ?hd (cs := #[.slice none 0 0, .slice none 0 0]) (t := 27) ?hr ?_; (case hd => rfl); (case hg => rfl); (case hr => first | (go_simp; done) | (go_simp; rfl)); intro gb545 hg w29 hbox hb; have n_ := aT (blk_below (kB BK544.out) hb) (aT (below_step bS hb) (aT (hbox) (aT ((bZ hg : w.heap.size ≤ gb545)) (aT ((bZ hg : w.heap.size ≤ gb545)) (aT ((nL hg BK544.out : gb544 ≠ gb545)) (aM ((nG hg BK544.out : gb545 ≠ gb544)))))))); clear BK544 HB; obtain ⟨BK544, HB, BK545, GW545, GE545, NB544_545, NB545_544⟩ := n_; clear hb hbox hg; have hnb30 := NB544_545.out; have hnc30 := NB545_544.out; have hcz31_0 : w29.cell? ⟨gb544, 0, none⟩ = some (.slice A0_0 l0_0.length c0_0) := (blk_cell BK544.out 0).trans rfl; have hcz31_1 : w29.cell? ⟨gb544, 1, none⟩ = some (.slice A0_1 l0_1.length c0_1) := (blk_cell BK544.out 1).trans rfl; have hfz31_0 := blk_frozen BK544.out 0; have hfz31_1 := blk_frozen BK544.out 1) | (refine gL 46 (some 7) Try.func46 #[.agg #[.slice A0_0 l0_0.length c0_0, .slice A0_1 l0_1.length c0_1]] ?_; (with_reducible refine (impl_KnownOk.calls k _ _ l0_0 _ _ l0_1 true _ ?side1 ?side2 ?side3 ?side4 A3.out).mono ?_); (case side1 => exact cA (Kd.C_below HR0_0.out HB.out)); (case side2 => exact HC0_0.out); (case side3 => exact cA (Kd.C_below HR0_1.out HB.out)); (case side4 => exact HC0_1.out); rintro e w32 ⟨rfl, hb⟩; refine ⟨_, rfl, ?_⟩; have n_ := aT (blk_below (kB BK544.out) hb) (aT (blk_below (kB BK545.out) hb) (aM (below_step bS hb))); clear BK544 BK545 HB; obtain ⟨BK544, BK545, HB⟩ := n_; (try clear hb); have hcz33_0 : w32.cell? ⟨gb544, 0, none⟩ = some (.slice A0_0 l0_0.length c0_0) := (blk_cell BK544.out 0).trans rfl; have hcz33_1 : w32.cell? ⟨gb544, 1, none⟩ = some (.slice A0_1 l0_1.length c0_1) := (blk_cell BK544.out 1).trans rfl; have hfz33_0 := blk_frozen BK544.out 0; have hfz33_1 := blk_frozen BK544.out 1) | (refine gL 55 (some 11) Try.func55 #[.agg #[.slice A0_0 l0_0.length c0_0, .slice A0_1 l0_1.length c0_1]] ?_; (with_reducible refine (impl_copyKnown.calls _ _ l0_0 _ _ l0_1 t547 t550 _ ?side1 ?side2 ?side3 ?side4 A5.out).mono ?_); (case side1 => exact cA (Kd.C_below HR0_0.out HB.out)); (case side2 => exact HC0_0.out); (case side3 => exact cA (Kd.C_below HR0_1.out HB.out)); (case side4 => exact HC0_1.out); rintro e w34 ⟨v548, v551, rfl, ho0, ho1, hb⟩; refine ⟨_, rfl, ?_⟩; have n_ := aT (Kd.R_lower ho0 (below_size bS)) (aT (Kd.R_lower ho1 (below_size bS)) (aT (blk_below (kB BK544.out) hb) (aT (blk_below (kB BK545.out) hb) (aM (below_step bS hb))))); clear BK544 BK545 HB; obtain ⟨HO549, HO552, BK544, BK545, HB⟩ := n_; (try clear hb); (try clear ho0); (try clear ho1)) | ((with_reducible refine gate_dst (N := 5) rfl ?_); (try (refine gate_guard (by rfl) ?_; dsimp only)); refine box_event ?hg (N := 5) ?hd (cs := #[.slice none 0 0, .slice none 0 0]) (t := 27) ?hr ?_; (case hd => rfl); (case hg => rfl); (case hr => first | (go_simp; done) | (go_simp; rfl)); intro gb553 hg w35 hbox hb; have n_ := aT (Kd.R_below (kR HO549.out) hb) (aT (Kd.R_below (kR HO552.out) hb) (aT (blk_below (kB BK544.out) hb) (aT (blk_below (kB BK545.out) hb) (aT (below_step bS hb) (aT (hbox) (aT ((bZ hg : w.heap.size ≤ gb553)) (aT ((bZ hg : w.heap.size ≤ gb553)) (aT ((nL hg BK544.out : gb544 ≠ gb553)) (aT ((nG hg BK544.out : gb553 ≠ gb544)) (aT ((nL hg BK545.out : gb545 ≠ gb553)) (aM ((nG hg BK545.out : gb553 ≠ gb545))))))))))))); clear HO549 HO552 BK544 BK545 HB; obtain ⟨HO549, HO552, BK544, BK545, HB, BK553, GW553, GE553, NB544_553, NB553_544, NB545_553, NB553_545⟩ := n_; clear hb hbox hg; obtain ⟨Ao36, co36, eo36⟩ := Kd.R_slice HO549.out; subst eo36; have hnb37 := NB553_544.out; have hnc37 := NB544_553.out; have hnb38 := NB553_545.out; have hnc38 := NB545_553.out; have hcz39_0 : w35.cell? ⟨gb553, 0, none⟩ = some (.slice none 0 0) := (blk_cell BK553.out 0).trans rfl; have hcz39_1 : w35.cell? ⟨gb553, 1, none⟩ = some (.slice none 0 0) := (blk_cell BK553.out 1).trans rfl; have hfz39_0 := blk_frozen BK553.out 0; have hfz39_1 := blk_frozen BK553.out 1; obtain ⟨Ao40, co40, eo40⟩ := Kd.R_slice HO552.out; subst eo40) | (refine gL 57 (some 13) Try.func57 #[.int .i64 a1] ?_; (with_reducible refine (impl_isKey.calls a1 true _ A6.out).mono ?_); rintro e w' ⟨rfl, ⟨nd, rfl⟩⟩; refine ⟨_, rfl, ?_⟩; have hcz41_0 : w35.cell? ⟨gb544, 0, none⟩ = some (.slice A0_0 l0_0.length c0_0) := (blk_cell BK544.out 0).trans rfl; have hcz41_1 : w35.cell? ⟨gb544, 1, none⟩ = some (.slice A0_1 l0_1.length c0_1) := (blk_cell BK544.out 1).trans rfl; have hfz41_0 := blk_frozen BK544.out 0; have hfz41_1 := blk_frozen BK544.out 1) | (go_at_call 58; (with_reducible refine (slices_Contains_int_int.calls k _ _ l0_1 a1 false _ ?side1 ?side2 A8.out).mono ?_); (case side1 => exact Kd.C_below HR0_1.out bS); (case side2 => exact HC0_1.out); rintro e w' ⟨rfl, ⟨nd, rfl⟩⟩) | ((with_reducible refine gate_builtin (b := .append) (xs := #[.tmp 28, .tmp 30]) rfl ?_); (try (refine gate_guard (by rfl) ?_; dsimp only)); at_builtin; refine Kd.R_append (Kd.int .i64) (w0 := w) w.heap.size rfl (.tmp 28) (.tmp 30) 25 3 (.int .i64 0) 8 rfl Try.underlying25 info3 rfl (by decide) (by omega) (.slice Ao40 t550.length co40) t550 a1 [.int .i64 a1] (fun _ => True) (fun _ => False) rfl (by first | (go_simp; done) | (go_simp; rfl)) ?aP (fun _ hk => hk.elim) ?aF ?aO ?aB ?aS ?aL ?_; (case aP => exact rfl); (case aB => exact bS); (case aF => exact (fun _ _ => trivial)); (case aO => exact (rM (Kd.R_far (p := ⟨gb553, 1, none⟩) (Kd.R_far (p := ⟨gb553, 0, none⟩) (Kd.R_types HO552.out BK553.out (by decide)) (fun _ hk => hk.2) (.slice Ao36 t547.length co36)) (fun _ hk => hk.2) (.slice Ao40 t550.length co40)) (fun _ hk => trivial))); (case aS => exact (below_size bS)); (case aL => have := LMc26.out; omega); intro v557 w42 ho hb hg hat; rw [← Ny556.out] at ho; have n_ := aT (blk_grown (g := gb544) (o := .cells #[.slice A0_0 l0_0.length c0_0, .slice A0_1 l0_1.length c0_1] 27 (0, 0)) (kF2 NB544_553.out BK544.out) hg (Kd.R_ne HO552.out BK544.out (by decide))) (aT (blk_grown (g := gb545) (o := .cells #[.slice none 0 0, .slice none 0 0] 27 (0, 0)) (kF2 NB545_553.out BK545.out) hg (Kd.R_ne HO552.out BK545.out (by decide))) (aT (Kd.R_over' (rF2 HO549.out BK553.out) (Kd.R_typed (rF2 HO552.out BK553.out)) (by decide) hg) (aT (blk_grown (g := gb553) (o := .cells #[.slice Ao36 t547.length co36, .slice Ao40 t550.length co40] 27 (0, 0)) (by (with_reducible repeat (first | refine blk_drewN ?_ _ | refine blk_drew ?_ | refine blk_alloc ?_ _)); refine blk_put (cs := #[.slice Ao36 t547.length co36, .slice none 0 0]) ?_ 1 _ rfl; (with_reducible repeat (first | refine blk_drewN ?_ _ | refine blk_drew ?_ | refine blk_alloc ?_ _)); refine blk_put (cs := #[.slice none 0 0, .slice none 0 0]) ?_ 0 _ rfl; (with_reducible repeat (first | refine blk_drewN ?_ _ | refine blk_drew ?_ | refine blk_alloc ?_ _)); exact BK553.out) hg (Kd.R_ne HO552.out BK553.out (by decide))) (aT (hb) (aM (ho)))))); clear BK544 BK545 HO549 BK553 HB HO552; obtain ⟨BK544, BK545, HO549, BK553, HB, HO558⟩ := n_; clear ho hb hg hat; obtain ⟨Ao43, co43, eo43⟩ := Kd.R_slice HO558.out; subst eo43; have hcz44_0 : w42.cell? ⟨gb553, 0, none⟩ = some (.slice Ao36 t547.length co36) := (blk_cell BK553.out 0).trans rfl; have hcz44_1 : w42.cell? ⟨gb553, 1, none⟩ = some (.slice Ao40 t550.length co40) := (blk_cell BK553.out 1).trans rfl; have hfz44_0 := blk_frozen BK553.out 0; have hfz44_1 := blk_frozen BK553.out 1) | ((with_reducible refine gate_store (t := 25) (p := 32) rfl ?_); refine store_event (t := 25) (p := 32) (v := ?vo_w45) (w1 := (w42.setCell ⟨gb553, 1, none⟩ (.slice Ao43 y556.length co43))) ?hg ?ho ?hn ?hr ?_; (case ho => rfl); (case hg => rfl); (case hn => rfl); (case hr => first | (go_simp; done) | (go_simp; rfl)); intro w45 hw; have n0_ : Aside0 (Kd.R Kd.string 9 w45 w.heap.size (fun _ => True) (.slice Ao36 t547.length co36) t547) := ⟨(by rw [hw]; exact (rM (Kd.R_far (p := ⟨gb553, 1, none⟩) (Kd.R_types HO549.out BK553.out (by decide)) (fun _ hk => hk.2) (.slice Ao43 y556.length co43)) (fun _ hk => trivial)))⟩; have n1_ : Aside0 (Kd.R (Kd.int .i64) 3 w45 w.heap.size (fun _ => True) (.slice Ao43 y556.length co43) y556) := ⟨(by rw [hw]; exact (rM (Kd.R_far (p := ⟨gb553, 1, none⟩) (Kd.R_types HO558.out BK553.out (by decide)) (fun _ hk => hk.2) (.slice Ao43 y556.length co43)) (fun _ hk => trivial)))⟩; have n2_ : Aside0 (w45.heap[gb544]? = some (.cells #[.slice A0_0 l0_0.length c0_0, .slice A0_1 l0_1.length c0_1] 27 (0, 0))) := ⟨(by rw [hw]; exact (kF1 NB544_553.out BK544.out))⟩; have n3_ : Aside0 (w45.heap[gb545]? = some (.cells #[.slice none 0 0, .slice none 0 0] 27 (0, 0))) := ⟨(by rw [hw]; exact (kF1 NB545_553.out BK545.out))⟩; have n4_ : Aside0 (w45.heap[gb553]? = some (.cells #[.slice Ao36 t547.length co36, .slice Ao43 y556.length co43] 27 (0, 0))) := ⟨(by rw [hw]; exact (by (with_reducible repeat (first | refine blk_drewN ?_ _ | refine blk_drew ?_ | refine blk_alloc ?_ _)); refine blk_put (cs := #[.slice Ao36 t547.length co36, .slice Ao40 t550.length co40]) ?_ 1 _ rfl; (with_reducible repeat (first | refine blk_drewN ?_ _ | refine blk_drew ?_ | refine blk_alloc ?_ _)); exact BK553.out))⟩; have n5_ : Aside0 (Below w.heap.size w w45) := ⟨(by rw [hw]; exact bS)⟩; clear hw; clear HO549; clear HO558; clear BK544; clear BK545; clear BK553; clear HB; have HO549 := n0_; have HO558 := n1_; have BK544 := n2_; have BK545 := n3_; have BK553 := n4_; have HB := n5_; clear n0_ n1_ n2_ n3_ n4_ n5_; have hcz46_0 : w45.cell? ⟨gb553, 0, none⟩ = some (.slice Ao36 t547.length co36) := (blk_cell BK553.out 0).trans rfl; have hcz46_1 : w45.cell? ⟨gb553, 1, none⟩ = some (.slice Ao43 y556.length co43) := (blk_cell BK553.out 1).trans rfl; have hfz46_0 := blk_frozen BK553.out 0; have hfz46_1 := blk_frozen BK553.out 1) | (refine gL 54 (some 35) Try.func54 #[.slice Ao43 y556.length co43] ?_; (with_reducible refine (slices_Sort.calls (fun k_ => some k_ = (.slice Ao43 y556.length co43 : Value).ownBlock) (.slice Ao43 y556.length co43) y556 t559 w _ ?side1 ?side2 A27.out).mono ?_); (case side1 => repeat (first | (with_reducible first | exact HB.out | apply below_alloc | apply pw_below_drewN | apply below_drew1 | refine below_set ?_ GE544.out | refine below_set ?_ GE545.out | refine below_set ?_ GE553.out) | exact HB.out)); (case side2 => exact Kd.R_tight rfl HO558.out); rintro e w47 ⟨rfl, hy0, hb, hkp⟩; refine ⟨_, rfl, ?_⟩; have n_ := aT (blk_kept (kB BK544.out) hkp (fun hs_ => (fun e_ => (Kd.R_ne HO558.out BK544.out (by decide)) e_) hs_)) (aT (blk_kept (kB BK545.out) hkp (fun hs_ => (fun e_ => (Kd.R_ne HO558.out BK545.out (by decide)) e_) hs_)) (aT (Kd.R_mono (ok' := fun k_ => True) (Kd.R_keptB ((Kd.R_apart' HO549.out (Kd.R_typed HO558.out) (by decide))) hkp (fun k_ hk_ hs_ => (hk_.2) hs_)) (fun k_ hk_ => trivial)) (aT (blk_kept (kB BK553.out) hkp (fun hs_ => (fun e_ => (Kd.R_ne HO558.out BK553.out (by decide)) e_) hs_)) (aT (Kd.R_reok rfl hy0 (fun k_ e_ => HO558.out.1 k_ e_)) (aM (hb)))))); clear BK544 BK545 HO549 BK553 HO558 HB; obtain ⟨BK544, BK545, HO549, BK553, HO558, HB⟩ := n_; (try clear hb); (try clear hkp); (try clear hy0); have hcz48_0 : w47.cell? ⟨gb553, 0, none⟩ = some (.slice Ao36 t547.length co36) := (blk_cell BK553.out 0).trans rfl; have hcz48_1 : w47.cell? ⟨gb553, 1, none⟩ = some (.slice Ao43 y556.length co43) := (blk_cell BK553.out 1).trans rfl; have hfz48_0 := blk_frozen BK553.out 0; have hfz48_1 := blk_frozen BK553.out 1; have hcz49_0 : w47.cell? ⟨gb545, 0, none⟩ = some (.slice none 0 0) := (blk_cell BK545.out 0).trans rfl; have hcz49_1 : w47.cell? ⟨gb545, 1, none⟩ = some (.slice none 0 0) := (blk_cell BK545.out 1).trans rfl; have hfz49_0 := blk_frozen BK545.out 0; have hfz49_1 := blk_frozen BK545.out 1))
     refine bodyPost_ret (results_cell_row rfl _ _ gb545 27 #[.slice Ao36 t547.length co36, .slice Ao43 y556.length co43] (0, 0) _ rfl (by (with_reducible repeat (first | refine blk_drewN ?_ _ | refine blk_drew ?_ | refine blk_alloc ?_ _)); refine blk_put (cs := #[.slice Ao36 t547.length co36, .slice none 0 0]) ?_ 1 _ rfl; (with_reducible repeat (first | refine blk_drewN ?_ _ | refine blk_drew ?_ | refine blk_alloc ?_ _)); refine blk_put (cs := #[.slice none 0 0, .slice none 0 0]) ?_ 0 _ rfl; (with_reducible repeat (first | refine blk_drewN ?_ _ | refine blk_drew ?_ | refine blk_alloc ?_ _)); exact BK545.out) Try.underlying27 rfl (by kernel_rfl)) rfl ?_
     exact ⟨_, _, eE, (rM (Kd.R_far (p := ⟨gb545, 1, none⟩) (Kd.R_far (p := ⟨gb545, 0, none⟩) (Kd.R_types HO549.out BK545.out (by decide)) (fun _ hk => hk.2) (.slice Ao36 t547.length co36)) (fun _ hk => hk.2) (.slice Ao43 y556.length co43)) (fun _ hk => trivial)), (rM (Kd.R_far (p := ⟨gb545, 1, none⟩) (Kd.R_far (p := ⟨gb545, 0, none⟩) (Kd.R_types HO558.out BK545.out (by decide)) (fun _ hk => hk.2) (.slice Ao36 t547.length co36)) (fun _ hk => hk.2) (.slice Ao43 y556.length co43)) (fun _ hk => trivial)), bS⟩
    rw [if_neg c26] at H
    exact absurd H (by simp)
   rw [if_neg c25] at H
   have c25b0 := decide_eq_false c25
   have c25b1 : decide (l0_1.length < 40) = false := decide_eq_false (by omega)
   clear c25
   simp only [Option.some.injEq, Prod.mk.injEq] at H
   obtain ⟨rfl, rfl⟩ := H
   go_enter Try.func25, Try.ntmps25
   go_wp2_with (first | ((with_reducible refine gate_dst (N := 2) rfl ?_); (try (refine gate_guard (by rfl) ?_; dsimp only)); refine box_event ?hg (N := 2) ?hd (cs := #[.slice A0_0 l0_0.length c0_0, .slice A0_1 l0_1.length c0_1]) (t := 27) ?hr ?_; (case hd => rfl); (case hg => rfl); (case hr => first | (go_simp; done) | (go_simp; rfl)); intro gb544 hg w50 hbox hb; have n_ := aT (below_step bH hb) (aT (hbox) (aT ((bZ hg : w.heap.size ≤ gb544)) (aM ((bZ hg : w.heap.size ≤ gb544))))); clear HB; obtain ⟨HB, BK544, GW544, GE544⟩ := n_; clear hb hbox hg) | ((with_reducible refine gate_dst (N := 4) rfl ?_); (try (refine gate_guard (by rfl) ?_; dsimp only)); refine box_event ?hg (N := 4) ?hd (cs := #[.slice none 0 0, .slice none 0 0]) (t := 27) ?hr ?_; (case hd => rfl); (case hg => rfl); (case hr => first | (go_simp; done) | (go_simp; rfl)); intro gb545 hg w51 hbox hb; have n_ := aT (blk_below (kB BK544.out) hb) (aT (below_step bS hb) (aT (hbox) (aT ((bZ hg : w.heap.size ≤ gb545)) (aT ((bZ hg : w.heap.size ≤ gb545)) (aT ((nL hg BK544.out : gb544 ≠ gb545)) (aM ((nG hg BK544.out : gb545 ≠ gb544)))))))); clear BK544 HB; obtain ⟨BK544, HB, BK545, GW545, GE545, NB544_545, NB545_544⟩ := n_; clear hb hbox hg; have hnb52 := NB544_545.out; have hnc52 := NB545_544.out; have hcz53_0 : w51.cell? ⟨gb544, 0, none⟩ = some (.slice A0_0 l0_0.length c0_0) := (blk_cell BK544.out 0).trans rfl; have hcz53_1 : w51.cell? ⟨gb544, 1, none⟩ = some (.slice A0_1 l0_1.length c0_1) := (blk_cell BK544.out 1).trans rfl; have hfz53_0 := blk_frozen BK544.out 0; have hfz53_1 := blk_frozen BK544.out 1) | (refine gL 46 (some 7) Try.func46 #[.agg #[.slice A0_0 l0_0.length c0_0, .slice A0_1 l0_1.length c0_1]] ?_; (with_reducible refine (impl_KnownOk.calls k _ _ l0_0 _ _ l0_1 true _ ?side1 ?side2 ?side3 ?side4 A3.out).mono ?_); (case side1 => exact cA (Kd.C_below HR0_0.out HB.out)); (case side2 => exact HC0_0.out); (case side3 => exact cA (Kd.C_below HR0_1.out HB.out)); (case side4 => exact HC0_1.out); rintro e w54 ⟨rfl, hb⟩; refine ⟨_, rfl, ?_⟩; have n_ := aT (blk_below (kB BK544.out) hb) (aT (blk_below (kB BK545.out) hb) (aM (below_step bS hb))); clear BK544 BK545 HB; obtain ⟨BK544, BK545, HB⟩ := n_; (try clear hb); have hcz55_0 : w54.cell? ⟨gb544, 0, none⟩ = some (.slice A0_0 l0_0.length c0_0) := (blk_cell BK544.out 0).trans rfl; have hcz55_1 : w54.cell? ⟨gb544, 1, none⟩ = some (.slice A0_1 l0_1.length c0_1) := (blk_cell BK544.out 1).trans rfl; have hfz55_0 := blk_frozen BK544.out 0; have hfz55_1 := blk_frozen BK544.out 1) | (refine gL 55 (some 11) Try.func55 #[.agg #[.slice A0_0 l0_0.length c0_0, .slice A0_1 l0_1.length c0_1]] ?_; (with_reducible refine (impl_copyKnown.calls _ _ l0_0 _ _ l0_1 t547 t550 _ ?side1 ?side2 ?side3 ?side4 A5.out).mono ?_); (case side1 => exact cA (Kd.C_below HR0_0.out HB.out)); (case side2 => exact HC0_0.out); (case side3 => exact cA (Kd.C_below HR0_1.out HB.out)); (case side4 => exact HC0_1.out); rintro e w56 ⟨v548, v551, rfl, ho0, ho1, hb⟩; refine ⟨_, rfl, ?_⟩; have n_ := aT (Kd.R_lower ho0 (below_size bS)) (aT (Kd.R_lower ho1 (below_size bS)) (aT (blk_below (kB BK544.out) hb) (aT (blk_below (kB BK545.out) hb) (aM (below_step bS hb))))); clear BK544 BK545 HB; obtain ⟨HO549, HO552, BK544, BK545, HB⟩ := n_; (try clear hb); (try clear ho0); (try clear ho1)) | ((with_reducible refine gate_dst (N := 5) rfl ?_); (try (refine gate_guard (by rfl) ?_; dsimp only)); refine box_event ?hg (N := 5) ?hd (cs := #[.slice none 0 0, .slice none 0 0]) (t := 27) ?hr ?_; (case hd => rfl); (case hg => rfl); (case hr => first | (go_simp; done) | (go_simp; rfl)); intro gb553 hg w57 hbox hb; have n_ := aT (Kd.R_below (kR HO549.out) hb) (aT (Kd.R_below (kR HO552.out) hb) (aT (blk_below (kB BK544.out) hb) (aT (blk_below (kB BK545.out) hb) (aT (below_step bS hb) (aT (hbox) (aT ((bZ hg : w.heap.size ≤ gb553)) (aT ((bZ hg : w.heap.size ≤ gb553)) (aT ((nL hg BK544.out : gb544 ≠ gb553)) (aT ((nG hg BK544.out : gb553 ≠ gb544)) (aT ((nL hg BK545.out : gb545 ≠ gb553)) (aM ((nG hg BK545.out : gb553 ≠ gb545))))))))))))); clear HO549 HO552 BK544 BK545 HB; obtain ⟨HO549, HO552, BK544, BK545, HB, BK553, GW553, GE553, NB544_553, NB553_544, NB545_553, NB553_545⟩ := n_; clear hb hbox hg; obtain ⟨Ao58, co58, eo58⟩ := Kd.R_slice HO549.out; subst eo58; have hnb59 := NB553_544.out; have hnc59 := NB544_553.out; have hnb60 := NB553_545.out; have hnc60 := NB545_553.out; have hcz61_0 : w57.cell? ⟨gb553, 0, none⟩ = some (.slice none 0 0) := (blk_cell BK553.out 0).trans rfl; have hcz61_1 : w57.cell? ⟨gb553, 1, none⟩ = some (.slice none 0 0) := (blk_cell BK553.out 1).trans rfl; have hfz61_0 := blk_frozen BK553.out 0; have hfz61_1 := blk_frozen BK553.out 1; obtain ⟨Ao62, co62, eo62⟩ := Kd.R_slice HO552.out; subst eo62) | (refine gL 57 (some 13) Try.func57 #[.int .i64 a1] ?_; (with_reducible refine (impl_isKey.calls a1 true _ A6.out).mono ?_); rintro e w' ⟨rfl, ⟨nd, rfl⟩⟩; refine ⟨_, rfl, ?_⟩; have hcz63_0 : w57.cell? ⟨gb544, 0, none⟩ = some (.slice A0_0 l0_0.length c0_0) := (blk_cell BK544.out 0).trans rfl; have hcz63_1 : w57.cell? ⟨gb544, 1, none⟩ = some (.slice A0_1 l0_1.length c0_1) := (blk_cell BK544.out 1).trans rfl; have hfz63_0 := blk_frozen BK544.out 0; have hfz63_1 := blk_frozen BK544.out 1) | (go_at_call 58; (with_reducible refine (slices_Contains_int_int.calls k _ _ l0_1 a1 false _ ?side1 ?side2 A8.out).mono ?_); (case side1 => exact Kd.C_below HR0_1.out bS); (case side2 => exact HC0_1.out); rintro e w' ⟨rfl, ⟨nd, rfl⟩⟩; have hcz64_0 : w57.cell? ⟨gb545, 0, none⟩ = some (.slice none 0 0) := (blk_cell BK545.out 0).trans rfl; have hcz64_1 : w57.cell? ⟨gb545, 1, none⟩ = some (.slice none 0 0) := (blk_cell BK545.out 1).trans rfl; have hfz64_0 := blk_frozen BK545.out 0; have hfz64_1 := blk_frozen BK545.out 1))
   refine bodyPost_ret (results_cell_row rfl _ _ gb545 27 #[.slice Ao58 t547.length co58, .slice Ao62 t550.length co62] (0, 0) _ rfl (by (with_reducible repeat (first | refine blk_drewN ?_ _ | refine blk_drew ?_ | refine blk_alloc ?_ _)); refine blk_put (cs := #[.slice Ao58 t547.length co58, .slice none 0 0]) ?_ 1 _ rfl; (with_reducible repeat (first | refine blk_drewN ?_ _ | refine blk_drew ?_ | refine blk_alloc ?_ _)); refine blk_put (cs := #[.slice none 0 0, .slice none 0 0]) ?_ 0 _ rfl; (with_reducible repeat (first | refine blk_drewN ?_ _ | refine blk_drew ?_ | refine blk_alloc ?_ _)); refine blk_far ?_ NB545_553.out _; (with_reducible repeat (first | refine blk_drewN ?_ _ | refine blk_drew ?_ | refine blk_alloc ?_ _)); refine blk_far ?_ NB545_553.out _; (with_reducible repeat (first | refine blk_drewN ?_ _ | refine blk_drew ?_ | refine blk_alloc ?_ _)); exact BK545.out) Try.underlying27 rfl (by kernel_rfl)) rfl ?_
   exact ⟨_, _, eE, (rM (Kd.R_far (p := ⟨gb545, 1, none⟩) (Kd.R_far (p := ⟨gb545, 0, none⟩) (Kd.R_far (p := ⟨gb553, 1, none⟩) (Kd.R_far (p := ⟨gb553, 0, none⟩) (Kd.R_types (Kd.R_types HO549.out BK553.out (by decide)) BK545.out (by decide)) (fun _ hk => hk.1.2) (.slice Ao58 t547.length co58)) (fun _ hk => hk.1.2) (.slice Ao62 t550.length co62)) (fun _ hk => hk.2) (.slice Ao58 t547.length co58)) (fun _ hk => hk.2) (.slice Ao62 t550.length co62)) (fun _ hk => trivial)), (rM (Kd.R_far (p := ⟨gb545, 1, none⟩) (Kd.R_far (p := ⟨gb545, 0, none⟩) (Kd.R_far (p := ⟨gb553, 1, none⟩) (Kd.R_far (p := ⟨gb553, 0, none⟩) (Kd.R_types (Kd.R_types HO552.out BK553.out (by decide)) BK545.out (by decide)) (fun _ hk => hk.1.2) (.slice Ao58 t547.length co58)) (fun _ hk => hk.1.2) (.slice Ao62 t550.length co62)) (fun _ hk => hk.2) (.slice Ao58 t547.length co58)) (fun _ hk => hk.2) (.slice Ao62 t550.length co62)) (fun _ hk => trivial)), bS⟩
  replace c7 := Bool.eq_false_iff.mpr c7
  subst c7
  rw [if_neg nF] at H
  simp only [Option.some.injEq, Prod.mk.injEq] at H
  obtain ⟨rfl, rfl⟩ := H
  go_enter Try.func25, Try.ntmps25
  go_wp2_with (first | ((with_reducible refine gate_dst (N := 2) rfl ?_); (try (refine gate_guard (by rfl) ?_; dsimp only)); refine box_event ?hg (N := 2) ?hd (cs := #[.slice A0_0 l0_0.length c0_0, .slice A0_1 l0_1.length c0_1]) (t := 27) ?hr ?_; (case hd => rfl); (case hg => rfl); (case hr => first | (go_simp; done) | (go_simp; rfl)); intro gb544 hg w65 hbox hb; have n_ := aT (below_step bH hb) (aT (hbox) (aT ((bZ hg : w.heap.size ≤ gb544)) (aM ((bZ hg : w.heap.size ≤ gb544))))); clear HB; obtain ⟨HB, BK544, GW544, GE544⟩ := n_; clear hb hbox hg) | ((with_reducible refine gate_dst (N := 4) rfl ?_); (try (refine gate_guard (by rfl) ?_; dsimp only)); refine box_event ?hg (N := 4) ?hd (cs := #[.slice none 0 0, .slice none 0 0]) (t := 27) ?hr ?_; (case hd => rfl); (case hg => rfl); (case hr => first | (go_simp; done) | (go_simp; rfl)); intro gb545 hg w66 hbox hb; have n_ := aT (blk_below (kB BK544.out) hb) (aT (below_step bS hb) (aT (hbox) (aT ((bZ hg : w.heap.size ≤ gb545)) (aT ((bZ hg : w.heap.size ≤ gb545)) (aT ((nL hg BK544.out : gb544 ≠ gb545)) (aM ((nG hg BK544.out : gb545 ≠ gb544)))))))); clear BK544 HB; obtain ⟨BK544, HB, BK545, GW545, GE545, NB544_545, NB545_544⟩ := n_; clear hb hbox hg; have hnb67 := NB544_545.out; have hnc67 := NB545_544.out; have hcz68_0 : w66.cell? ⟨gb544, 0, none⟩ = some (.slice A0_0 l0_0.length c0_0) := (blk_cell BK544.out 0).trans rfl; have hcz68_1 : w66.cell? ⟨gb544, 1, none⟩ = some (.slice A0_1 l0_1.length c0_1) := (blk_cell BK544.out 1).trans rfl; have hfz68_0 := blk_frozen BK544.out 0; have hfz68_1 := blk_frozen BK544.out 1) | (refine gL 46 (some 7) Try.func46 #[.agg #[.slice A0_0 l0_0.length c0_0, .slice A0_1 l0_1.length c0_1]] ?_; (with_reducible refine (impl_KnownOk.calls k _ _ l0_0 _ _ l0_1 true _ ?side1 ?side2 ?side3 ?side4 A3.out).mono ?_); (case side1 => exact cA (Kd.C_below HR0_0.out HB.out)); (case side2 => exact HC0_0.out); (case side3 => exact cA (Kd.C_below HR0_1.out HB.out)); (case side4 => exact HC0_1.out); rintro e w69 ⟨rfl, hb⟩; refine ⟨_, rfl, ?_⟩; have n_ := aT (blk_below (kB BK544.out) hb) (aT (blk_below (kB BK545.out) hb) (aM (below_step bS hb))); clear BK544 BK545 HB; obtain ⟨BK544, BK545, HB⟩ := n_; (try clear hb); have hcz70_0 : w69.cell? ⟨gb544, 0, none⟩ = some (.slice A0_0 l0_0.length c0_0) := (blk_cell BK544.out 0).trans rfl; have hcz70_1 : w69.cell? ⟨gb544, 1, none⟩ = some (.slice A0_1 l0_1.length c0_1) := (blk_cell BK544.out 1).trans rfl; have hfz70_0 := blk_frozen BK544.out 0; have hfz70_1 := blk_frozen BK544.out 1) | (refine gL 55 (some 11) Try.func55 #[.agg #[.slice A0_0 l0_0.length c0_0, .slice A0_1 l0_1.length c0_1]] ?_; (with_reducible refine (impl_copyKnown.calls _ _ l0_0 _ _ l0_1 t547 t550 _ ?side1 ?side2 ?side3 ?side4 A5.out).mono ?_); (case side1 => exact cA (Kd.C_below HR0_0.out HB.out)); (case side2 => exact HC0_0.out); (case side3 => exact cA (Kd.C_below HR0_1.out HB.out)); (case side4 => exact HC0_1.out); rintro e w71 ⟨v548, v551, rfl, ho0, ho1, hb⟩; refine ⟨_, rfl, ?_⟩; have n_ := aT (Kd.R_lower ho0 (below_size bS)) (aT (Kd.R_lower ho1 (below_size bS)) (aT (blk_below (kB BK544.out) hb) (aT (blk_below (kB BK545.out) hb) (aM (below_step bS hb))))); clear BK544 BK545 HB; obtain ⟨HO549, HO552, BK544, BK545, HB⟩ := n_; (try clear hb); (try clear ho0); (try clear ho1)) | ((with_reducible refine gate_dst (N := 5) rfl ?_); (try (refine gate_guard (by rfl) ?_; dsimp only)); refine box_event ?hg (N := 5) ?hd (cs := #[.slice none 0 0, .slice none 0 0]) (t := 27) ?hr ?_; (case hd => rfl); (case hg => rfl); (case hr => first | (go_simp; done) | (go_simp; rfl)); intro gb553 hg w72 hbox hb; have n_ := aT (Kd.R_below (kR HO549.out) hb) (aT (Kd.R_below (kR HO552.out) hb) (aT (blk_below (kB BK544.out) hb) (aT (blk_below (kB BK545.out) hb) (aT (below_step bS hb) (aT (hbox) (aT ((bZ hg : w.heap.size ≤ gb553)) (aT ((bZ hg : w.heap.size ≤ gb553)) (aT ((nL hg BK544.out : gb544 ≠ gb553)) (aT ((nG hg BK544.out : gb553 ≠ gb544)) (aT ((nL hg BK545.out : gb545 ≠ gb553)) (aM ((nG hg BK545.out : gb553 ≠ gb545))))))))))))); clear HO549 HO552 BK544 BK545 HB; obtain ⟨HO549, HO552, BK544, BK545, HB, BK553, GW553, GE553, NB544_553, NB553_544, NB545_553, NB553_545⟩ := n_; clear hb hbox hg; obtain ⟨Ao73, co73, eo73⟩ := Kd.R_slice HO549.out; subst eo73; have hnb74 := NB553_544.out; have hnc74 := NB544_553.out; have hnb75 := NB553_545.out; have hnc75 := NB545_553.out; have hcz76_0 : w72.cell? ⟨gb553, 0, none⟩ = some (.slice none 0 0) := (blk_cell BK553.out 0).trans rfl; have hcz76_1 : w72.cell? ⟨gb553, 1, none⟩ = some (.slice none 0 0) := (blk_cell BK553.out 1).trans rfl; have hfz76_0 := blk_frozen BK553.out 0; have hfz76_1 := blk_frozen BK553.out 1; obtain ⟨Ao77, co77, eo77⟩ := Kd.R_slice HO552.out; subst eo77) | (refine gL 57 (some 13) Try.func57 #[.int .i64 a1] ?_; (with_reducible refine (impl_isKey.calls a1 false _ A6.out).mono ?_); rintro e w' ⟨rfl, ⟨nd, rfl⟩⟩; refine ⟨_, rfl, ?_⟩; have hcz78_0 : w72.cell? ⟨gb545, 0, none⟩ = some (.slice none 0 0) := (blk_cell BK545.out 0).trans rfl; have hcz78_1 : w72.cell? ⟨gb545, 1, none⟩ = some (.slice none 0 0) := (blk_cell BK545.out 1).trans rfl; have hfz78_0 := blk_frozen BK545.out 0; have hfz78_1 := blk_frozen BK545.out 1))
  refine bodyPost_ret (results_cell_row rfl _ _ gb545 27 #[.slice Ao73 t547.length co73, .slice Ao77 t550.length co77] (0, 0) _ rfl (by (with_reducible repeat (first | refine blk_drewN ?_ _ | refine blk_drew ?_ | refine blk_alloc ?_ _)); refine blk_put (cs := #[.slice Ao73 t547.length co73, .slice none 0 0]) ?_ 1 _ rfl; (with_reducible repeat (first | refine blk_drewN ?_ _ | refine blk_drew ?_ | refine blk_alloc ?_ _)); refine blk_put (cs := #[.slice none 0 0, .slice none 0 0]) ?_ 0 _ rfl; (with_reducible repeat (first | refine blk_drewN ?_ _ | refine blk_drew ?_ | refine blk_alloc ?_ _)); refine blk_far ?_ NB545_553.out _; (with_reducible repeat (first | refine blk_drewN ?_ _ | refine blk_drew ?_ | refine blk_alloc ?_ _)); refine blk_far ?_ NB545_553.out _; (with_reducible repeat (first | refine blk_drewN ?_ _ | refine blk_drew ?_ | refine blk_alloc ?_ _)); exact BK545.out) Try.underlying27 rfl (by kernel_rfl)) rfl ?_
  exact ⟨_, _, eE, (rM (Kd.R_far (p := ⟨gb545, 1, none⟩) (Kd.R_far (p := ⟨gb545, 0, none⟩) (Kd.R_far (p := ⟨gb553, 1, none⟩) (Kd.R_far (p := ⟨gb553, 0, none⟩) (Kd.R_types (Kd.R_types HO549.out BK553.out (by decide)) BK545.out (by decide)) (fun _ hk => hk.1.2) (.slice Ao73 t547.length co73)) (fun _ hk => hk.1.2) (.slice Ao77 t550.length co77)) (fun _ hk => hk.2) (.slice Ao73 t547.length co73)) (fun _ hk => hk.2) (.slice Ao77 t550.length co77)) (fun _ hk => trivial)), (rM (Kd.R_far (p := ⟨gb545, 1, none⟩) (Kd.R_far (p := ⟨gb545, 0, none⟩) (Kd.R_far (p := ⟨gb553, 1, none⟩) (Kd.R_far (p := ⟨gb553, 0, none⟩) (Kd.R_types (Kd.R_types HO552.out BK553.out (by decide)) BK545.out (by decide)) (fun _ hk => hk.1.2) (.slice Ao73 t547.length co73)) (fun _ hk => hk.1.2) (.slice Ao77 t550.length co77)) (fun _ hk => hk.2) (.slice Ao73 t547.length co73)) (fun _ hk => hk.2) (.slice Ao77 t550.length co77)) (fun _ hk => trivial)), bS⟩
 replace c4 := Bool.eq_false_iff.mpr c4
 subst c4
 rw [if_neg nF] at H
 simp only [Option.some.injEq, Prod.mk.injEq] at H
 obtain ⟨rfl, rfl⟩ := H
 go_enter Try.func25, Try.ntmps25
 go_wp2_with (first | ((with_reducible refine gate_dst (N := 2) rfl ?_); (try (refine gate_guard (by rfl) ?_; dsimp only)); refine box_event ?hg (N := 2) ?hd (cs := #[.slice A0_0 l0_0.length c0_0, .slice A0_1 l0_1.length c0_1]) (t := 27) ?hr ?_; (case hd => rfl); (case hg => rfl); (case hr => first | (go_simp; done) | (go_simp; rfl)); intro gb544 hg w79 hbox hb; have n_ := aT (below_step bH hb) (aT (hbox) (aT ((bZ hg : w.heap.size ≤ gb544)) (aM ((bZ hg : w.heap.size ≤ gb544))))); clear HB; obtain ⟨HB, BK544, GW544, GE544⟩ := n_; clear hb hbox hg) | ((with_reducible refine gate_dst (N := 4) rfl ?_); (try (refine gate_guard (by rfl) ?_; dsimp only)); refine box_event ?hg (N := 4) ?hd (cs := #[.slice none 0 0, .slice none 0 0]) (t := 27) ?hr ?_; (case hd => rfl); (case hg => rfl); (case hr => first | (go_simp; done) | (go_simp; rfl)); intro gb545 hg w80 hbox hb; have n_ := aT (blk_below (kB BK544.out) hb) (aT (below_step bS hb) (aT (hbox) (aT ((bZ hg : w.heap.size ≤ gb545)) (aT ((bZ hg : w.heap.size ≤ gb545)) (aT ((nL hg BK544.out : gb544 ≠ gb545)) (aM ((nG hg BK544.out : gb545 ≠ gb544)))))))); clear BK544 HB; obtain ⟨BK544, HB, BK545, GW545, GE545, NB544_545, NB545_544⟩ := n_; clear hb hbox hg; have hnb81 := NB544_545.out; have hnc81 := NB545_544.out; have hcz82_0 : w80.cell? ⟨gb544, 0, none⟩ = some (.slice A0_0 l0_0.length c0_0) := (blk_cell BK544.out 0).trans rfl; have hcz82_1 : w80.cell? ⟨gb544, 1, none⟩ = some (.slice A0_1 l0_1.length c0_1) := (blk_cell BK544.out 1).trans rfl; have hfz82_0 := blk_frozen BK544.out 0; have hfz82_1 := blk_frozen BK544.out 1) | (refine gL 46 (some 7) Try.func46 #[.agg #[.slice A0_0 l0_0.length c0_0, .slice A0_1 l0_1.length c0_1]] ?_; (with_reducible refine (impl_KnownOk.calls k _ _ l0_0 _ _ l0_1 false _ ?side1 ?side2 ?side3 ?side4 A3.out).mono ?_); (case side1 => exact cA (Kd.C_below HR0_0.out HB.out)); (case side2 => exact HC0_0.out); (case side3 => exact cA (Kd.C_below HR0_1.out HB.out)); (case side4 => exact HC0_1.out); rintro e w83 ⟨rfl, hb⟩; refine ⟨_, rfl, ?_⟩; have n_ := aT (blk_below (kB BK544.out) hb) (aT (blk_below (kB BK545.out) hb) (aM (below_step bS hb))); clear BK544 BK545 HB; obtain ⟨BK544, BK545, HB⟩ := n_; (try clear hb); have hcz84_0 : w83.cell? ⟨gb545, 0, none⟩ = some (.slice none 0 0) := (blk_cell BK545.out 0).trans rfl; have hcz84_1 : w83.cell? ⟨gb545, 1, none⟩ = some (.slice none 0 0) := (blk_cell BK545.out 1).trans rfl; have hfz84_0 := blk_frozen BK545.out 0; have hfz84_1 := blk_frozen BK545.out 1))
 refine bodyPost_ret (results_cell_row rfl _ _ gb545 27 #[.slice none 0 0, .slice none 0 0] (0, 0) _ rfl (by (with_reducible repeat (first | refine blk_drewN ?_ _ | refine blk_drew ?_ | refine blk_alloc ?_ _)); refine blk_put (cs := #[.slice none 0 0, .slice none 0 0]) ?_ 1 _ rfl; (with_reducible repeat (first | refine blk_drewN ?_ _ | refine blk_drew ?_ | refine blk_alloc ?_ _)); refine blk_put (cs := #[.slice none 0 0, .slice none 0 0]) ?_ 0 _ rfl; (with_reducible repeat (first | refine blk_drewN ?_ _ | refine blk_drew ?_ | refine blk_alloc ?_ _)); exact BK545.out) Try.underlying27 rfl (by kernel_rfl)) rfl ?_
 exact ⟨_, _, eE, (by first | exact Kd.R_nil _ _ _ _ _ | exact Kd.N_nil _ _ _ _ _ | exact Kd.V_nil _ _ _ _ _ | exact Kd.Q_nil _ _ _ _ _ | exact Kd.S_nil _ _ _ _ _), (by first | exact Kd.R_nil _ _ _ _ _ | exact Kd.N_nil _ _ _ _ _ | exact Kd.V_nil _ _ _ _ _ | exact Kd.Q_nil _ _ _ _ _ | exact Kd.S_nil _ _ _ _ _), bS⟩

/-! ### laws_at: function 26 -/
def laws_at.f (l0 : List Int) (a1 : Int) : Option (Int) := if a1 < (l0.length : Int) then (if 0 ≤ a1 then (some (wrap64 (rd l0 a1))) else (none)) else (some (Int.tmod (wrap64 ((wrap64 (a1 * 37)) + (wrap64 ((l0.length : Int) * 11)))) 256))
set_option maxHeartbeats 8000000 in
set_option maxRecDepth 100000 in
theorem laws_at.calls (A0 : Option Addr) (c0 : Nat) (l0 : List Int) (a1 : Int) (r : Int) (w : World) (hr0 : Kd.C (Kd.int .u8) w A0 l0.length l0) (hc0 : l0.length ≤ c0) (h : laws_at.f l0 a1 = some r) :
  Calls Try.prog 26 #[.slice A0 l0.length c0, .int .i64 a1] w fun e w' => e = .returned (.int .i64 r) ∧ Drawn0 w w' := by
 have HR0 := Aside0.mk hr0
 have HC0 := Aside0.mk hc0
 clear hr0 hc0
 have H := h
 clear h
 unfold laws_at.f at H
 by_cases c3 : a1 < (l0.length : Int)
 ·rw [if_pos c3] at H
  have c3b0 := decide_eq_true c3
  clear c3
  by_cases c4 : 0 ≤ a1
  ·rw [if_pos c4] at H
   have c4b0 := decide_eq_true c4
   clear c4
   obtain rfl := Option.some.inj H
   have p560 : 0 ≤ (a1 : Int) := of_decide_eq_true aA
   have q560 : a1 < (l0.length : Int) := of_decide_eq_true aA
   obtain ⟨ad560, e560, hx560_0⟩ := Kd.at_int HR0.out a1 p560 q560
   cases e560
   replace p560 := eq_true p560
   replace q560 := eq_true q560
   go_enter Try.func26, Try.ntmps26
   go_wp2
   go_ret
   exact ⟨eX, (by repeat (first | exact Drawn0.refl _ | apply Drawn0.step))⟩
  rw [if_neg c4] at H
  exact absurd H (by simp)
 rw [if_neg c3] at H
 have c3b0 := decide_eq_false c3
 clear c3
 obtain rfl := Option.some.inj H
 go_enter Try.func26, Try.ntmps26
 go_wp2
 go_ret
 exact ⟨eX, (by repeat (first | exact Drawn0.refl _ | apply Drawn0.step))⟩

end Go.Proofs.Ythlpfghlildllaa.OFnKnown
-- wrapped
-- halved
-- squeezed
-- squeezed2
-- squeezed3
