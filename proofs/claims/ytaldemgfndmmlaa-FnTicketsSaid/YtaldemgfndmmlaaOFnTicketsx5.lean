-- walks of this claim, written by a program of mine
import Derived.Test.YtaldemgfndmmlaaOFnTicketsx0
import Derived.Test.YtaldemgfndmmlaaOFnTicketsx4
namespace Go.Proofs.Ytaldemgfndmmlaa.OFnTickets
open Go.RowKit Go.Proofs.Ytaldemgfndmmlaa.OWord Go.Proofs.YtaldemgfndmmlaaW.PrintWords Go.Proofs.YtaldemgfndmmlaaW.PrintLast Go.Proofs.YtaldemgfndmmlaaW.PrintMore
attribute [local go_sem] max2_int min2_int max_two min_two max_three min_three max_four min_four   -- for this text's walks alone
set_option linter.unusedVariables false
set_option linter.unusedSimpArgs false

/-! ### spec_l5DrawTicket: function 24 -/
mutual
def spec_l5DrawTicket.l0 : Nat → Int → List Int → Int → Int → Int → Int → Int → Int → Int → Int → List Int → Option (Int × Int × Int × Int × Int × Int × List Int × List Int × Int × Int)
 | 0, _, _, _, _, _, _, _, _, _, _, _ => none
 | k + 1, x4, x1000, x1001, x1002, x203000, x203001, x203002, x203003, x203004, x203005, x203006 => if x4 > 0 then ((spec_l1Below.f x1000 x1001 x1002 3).bind fun bt206 => (if x203006.length < 17592186044416 then (spec_l5DrawTicket.l0 k (wrap64 (x4 - 1)) x1000 bt206.2.1 bt206.2.2 x203000 x203001 x203002 x203003 x203004 x203005 (x203006 ++ [bt206.1])) else (none))) else ((spec_l1Below.f x1000 x1001 x1002 3).bind fun bt212 => (spec_l5DrawTicket.l1 k bt212.1 x1000 bt212.2.1 bt212.2.2 x203000 x203001 x203002 x203003 x203004 x203005 x203006 ([] : List Int)))
def spec_l5DrawTicket.l1 : Nat → Int → List Int → Int → Int → Int → Int → Int → Int → Int → Int → List Int → List Int → Option (Int × Int × Int × Int × Int × Int × List Int × List Int × Int × Int)
 | 0, _, _, _, _, _, _, _, _, _, _, _, _ => none
 | k + 1, x5, x1000, x1001, x1002, x203000, x203001, x203002, x203003, x203004, x203005, x203006, x203007 => if x5 > 0 then ((spec_l1Below.f x1000 x1001 x1002 3).bind fun bt215 => (if x203007.length < 17592186044416 then (spec_l5DrawTicket.l1 k (wrap64 (x5 - 1)) x1000 bt215.2.1 bt215.2.2 x203000 x203001 x203002 x203003 x203004 x203005 x203006 (x203007 ++ [bt215.1])) else (none))) else ((spec_l1Once.f x1000 x1001 x1002 10).bind fun bt221 => (if bt221.1 = true then ((spec_l1Below.f x1000 bt221.2.1 bt221.2.2 6).bind fun bt224 => (if bt224.1 = 0 then ((spec_l1PickInt.f x1000 bt224.2.1 bt224.2.2 (([(-1), 6] : List Int))).bind fun bt230 => (some (bt230.1, x203001, x203002, x203003, x203004, x203005, x203006, x203007, bt230.2.1, bt230.2.2))) else (if bt224.1 = 1 then ((spec_l1PickInt.f x1000 bt224.2.1 bt224.2.2 (([(-1), 3, 9, 13] : List Int))).bind fun bt236 => (some (x203000, bt236.1, x203002, x203003, x203004, x203005, x203006, x203007, bt236.2.1, bt236.2.2))) else (if bt224.1 = 2 then ((spec_l1PickInt.f x1000 bt224.2.1 bt224.2.2 (([0, 1000000, 1000001] : List Int))).bind fun bt242 => (some (x203000, x203001, bt242.1, x203003, x203004, x203005, x203006, x203007, bt242.2.1, bt242.2.2))) else (if bt224.1 = 3 then ((spec_l4Any.f x1000 bt224.2.1 bt224.2.2).bind fun bt245 => (some (x203000, x203001, x203002, bt245.1, bt245.2.1, bt245.2.2.1, x203006, x203007, bt245.2.2.2.1, bt245.2.2.2.2))) else (if bt224.1 = 4 then ((some (([0, 1, 2, 3] : List Int) : List Int)).bind fun y250 => (if x203006.length + y250.length < 17592186044416 then (some (x203000, x203001, x203002, x203003, x203004, x203005, (x203006 ++ y250), x203007, bt224.2.1, bt224.2.2)) else (none))) else ((some (([0, 1, 2] : List Int) : List Int)).bind fun y256 => (if x203007.length + y256.length < 17592186044416 then (some (x203000, x203001, x203002, x203003, x203004, x203005, x203006, (x203007 ++ y256), bt224.2.1, bt224.2.2)) else (none))))))))) else (some (x203000, x203001, x203002, x203003, x203004, x203005, x203006, x203007, bt221.2.1, bt221.2.2))))
end
def spec_l5DrawTicket.f (k : Nat) (s0_0 : List Int) (s0_1 : Int) (s0_2 : Int) : Option (Int × Int × Int × Int × Int × Int × List Int × List Int × Int × Int) := (spec_l1Below.f s0_0 s0_1 s0_2 6).bind fun bt185 => ((spec_l1PickInt.f s0_0 bt185.2.1 bt185.2.2 (([0, 1, 2, 10, 11, 12] : List Int))).bind fun bt191 => ((spec_l1Below.f s0_0 bt191.2.1 bt191.2.2 9).bind fun bt194 => ((spec_l4Rest.f s0_0 bt194.2.1 bt194.2.2).bind fun bt197 => ((spec_l1Below.f s0_0 bt197.2.2.2.1 bt197.2.2.2.2 3).bind fun bt203 => (spec_l5DrawTicket.l0 k bt203.1 s0_0 bt203.2.1 bt203.2.2 bt185.1 bt191.1 (wrap64 (101 + bt194.1)) bt197.1 bt197.2.1 bt197.2.2.1 ([] : List Int))))))
def spec_l5DrawTicket.T5 : Bool × List (List Nat × List Nat) := (true, [([], []), ([0], [0]), ([], []), ([2], [2]), ([3], [3]), ([1, 4, 3], [1, 4]), ([0, 1, 2, 3, 4, 5], []), ([6, 5, 5, 0, 1, 2, 3, 4, 5], [5, 6])])
def spec_l5DrawTicket.B5 : List Nat := [0, 1, 0, 4, 12, 31, 63, 127]
theorem spec_l5DrawTicket.tab5 : rtab .any (opsOf Try.f24 5) = spec_l5DrawTicket.T5 := by kernel_rfl
theorem spec_l5DrawTicket.bits5 : waitsOk spec_l5DrawTicket.T5.2 spec_l5DrawTicket.B5 = true := by kernel_rfl
def spec_l5DrawTicket.T9 : Bool × List (List Nat × List Nat) := (true, [([], []), ([0], [0]), ([], []), ([2], [2]), ([3], [3]), ([1, 4, 3], [1, 4]), ([0, 1, 2, 3, 4, 5], []), ([6, 5, 5, 0, 1, 2, 3, 4, 5], [5, 6])])
def spec_l5DrawTicket.B9 : List Nat := [0, 1, 0, 4, 12, 31, 63, 127]
theorem spec_l5DrawTicket.tab9 : rtab .any (opsOf Try.f24 9) = spec_l5DrawTicket.T9 := by kernel_rfl
theorem spec_l5DrawTicket.bits9 : waitsOk spec_l5DrawTicket.T9.2 spec_l5DrawTicket.B9 = true := by kernel_rfl
set_option maxHeartbeats 8000000 in
set_option maxRecDepth 100000 in
theorem spec_l5DrawTicket.calls (k : Nat) (g : Nat) (s0_0 : List Int) (s0_1 : Int) (s0_2 : Int) (r1 : Int) (r2 : Int) (r3 : Int) (r4 : Int) (r5 : Int) (r6 : Int) (r7 : List Int) (r8 : List Int) (r9 : Int) (r10 : Int) (w0 w : World) (hI : IsS79 w0 w g s0_0 s0_1 s0_2) (hB : Below w0.heap.size w0 w) (h : spec_l5DrawTicket.f k s0_0 s0_1 s0_2 = some (r1, r2, r3, r4, r5, r6, r7, r8, r9, r10)) :
  Calls Try.prog 24 #[.pointer (some ⟨g, 0, none⟩)] w fun e w' => ∃ v6_ v7_ : Value, e = .returned (.agg #[.int .i64 r1, .int .i64 r2, .int .i64 r3, .int .i64 r4, .int .i64 r5, .int .i64 r6, v6_, v7_]) ∧ Kd.R (Kd.int .i64) 3 w' w.heap.size (fun k_ => some k_ ≠ (v7_ : Value).ownBlock) v6_ r7 ∧ Kd.R (Kd.int .i64) 3 w' w.heap.size (fun k_ => some k_ ≠ (v6_ : Value).ownBlock) v7_ r8 ∧ IsS79 w0 w' g s0_0 r9 r10 ∧ Below w0.heap.size w0 w' ∧ KeepBut w w' g none := by
 have hu28 := Try.underlying28
 have hu25 := Try.underlying25
 have HI0 := Aside0.mk hI
 have HK := Aside0.mk (KeepBut.refl w g none)
 have HL := Aside0.mk hB.size
 clear hI
 have HW0 := Aside0.mk hB.size
 have HB := Aside0.mk hB
 clear hB
 have H := h
 clear h
 unfold spec_l5DrawTicket.f at H
 obtain ⟨⟨t185, t186, t187⟩, A2, H⟩ := oB H
 dsimp only at H
 obtain ⟨y188, hy188⟩ : ∃ y_ : List Int, y_ = (([0, 1, 2, 10, 11, 12] : List Int)) := ⟨_, rfl⟩
 replace H : ((spec_l1PickInt.f s0_0 t186 t187 y188).bind fun bt191 => ((spec_l1Below.f s0_0 bt191.2.1 bt191.2.2 9).bind fun bt194 => ((spec_l4Rest.f s0_0 bt194.2.1 bt194.2.2).bind fun bt197 => ((spec_l1Below.f s0_0 bt197.2.2.2.1 bt197.2.2.2.2 3).bind fun bt203 => (spec_l5DrawTicket.l0 k bt203.1 s0_0 bt203.2.1 bt203.2.2 t185 bt191.1 (wrap64 (101 + bt194.1)) bt197.1 bt197.2.1 bt197.2.2.1 ([] : List Int)))))) = some (r1, r2, r3, r4, r5, r6, r7, r8, r9, r10) := by first | (rw [hy188]; with_reducible exact H) | (have H2_ := (Option.bind_some _ _).symm.trans H; rw [hy188]; with_reducible exact H2_) | (have H2_ := (Option.bind_some _ _).symm.trans H; with_reducible exact H2_) | with_reducible exact H | (rw [hy188]; exact H) | exact H
 have Ny188 := Aside0.mk hy188
 clear hy188
 obtain ⟨⟨t191, t192, t193⟩, A3, H⟩ := oB H
 dsimp only at H
 obtain ⟨⟨t194, t195, t196⟩, A4, H⟩ := oB H
 dsimp only at H
 obtain ⟨⟨t197, t198, t199, t200, t201⟩, A5, H⟩ := oB H
 dsimp only at H
 obtain ⟨⟨t203, t204, t205⟩, A6, H⟩ := oB H
 dsimp only at H
 have H' := Aside0.mk H
 clear H
 go_enter Try.func24, Try.ntmps24
 go_wp2_with (first | ((with_reducible refine gD 2 rfl ?_); refine bE #[.int .i64 0, .int .i64 0, .int .i64 0, .int .i64 0, .int .i64 0, .int .i64 0, .slice none 0 0, .slice none 0 0] 28 ?_; intro gb184 hg w7 hbox hb; have n_ := aT (IsS79.below IsS79.qHI0 hb) (aT (KeepBut.trans kK (KeepBut.of_below hb g none) (.inl rfl)) (aT (below_step IsS79.bHI0 hb) (aT (hbox) (aT ((kZ hg : w.heap.size ≤ gb184)) (aT ((Nat.le_trans HW0.out (kZ hg : w.heap.size ≤ gb184) : w0.heap.size ≤ gb184)) (aT ((by rw [hg]; exact Nat.ne_of_lt (IsS79.lt (show IsS79 w0 _ g s0_0 s0_1 s0_2 from IsS79.qHI0)) : g ≠ gb184)) (aM ((by rw [hg]; exact Nat.ne_of_gt (IsS79.lt (show IsS79 w0 _ g s0_0 s0_1 s0_2 from IsS79.qHI0)) : gb184 ≠ g))))))))); clear HI0 HK HB; obtain ⟨HI0, HK, HB, BK184, GW184, GE184, NB0_184, NB184_0⟩ := n_; clear hb hbox hg) | ((with_reducible refine gC 50 rfl ?_); refine gL (some 7) Try.func50 #[.pointer (some ⟨g, 0, none⟩), .int .i64 6] ?_; (with_reducible refine (spec_l1Below.calls g s0_0 s0_1 s0_2 6 t185 t186 t187 w0 _ ?side1 ?side2 A2.out).mono ?_); (case side1 => exact IsS79.qHI0); (case side2 => exact IsS79.bHI0); rintro e w8 ⟨rfl, hi, hb, hk⟩; refine ⟨_, rfl, ?_⟩; have n_ := aT (kW hk BK184 NB184_0) (aT (KeepBut.trans kK hk (.inl rfl)) (aT (hb) (aM (hi)))); clear BK184 HK HB HI0; obtain ⟨BK184, HK, HB, HI0⟩ := n_; (try clear hb); (try clear hk); (try clear hi)) | ((with_reducible refine gate_dst (N := 9) rfl ?_); refine Kd.R_lit (Kd.int .i64) _ 3 ?hg (N := 9) ?hd (xs := ([0, 1, 2, 10, 11, 12] : List Int)) (inner := [.int .i64 0, .int .i64 1, .int .i64 2, .int .i64 10, .int .i64 11, .int .i64 12]) (ok := fun _ => True) (okp := fun _ => True) ?hr ?hp (fun _ hk => hk) trivial (Below.refl _ _) (Nat.le_refl _) (by simp) ?_; (case hd => rfl); (case hg => rfl); (case hr => first | (go_simp; done) | (go_simp; rfl)); (case hp => exact (Reps.one (show Kd.M (Kd.int .i64) _ _ _ 0 [.int .i64 0] from rfl) (Reps.one (show Kd.M (Kd.int .i64) _ _ _ 1 [.int .i64 1] from rfl) (Reps.one (show Kd.M (Kd.int .i64) _ _ _ 2 [.int .i64 2] from rfl) (Reps.one (show Kd.M (Kd.int .i64) _ _ _ 10 [.int .i64 10] from rfl) (Reps.one (show Kd.M (Kd.int .i64) _ _ _ 11 [.int .i64 11] from rfl) (Reps.one (show Kd.M (Kd.int .i64) _ _ _ 12 [.int .i64 12] from rfl) (Reps.none _ _)))))))); intro v189 w9 ho10 hb hg_ hnew_; clear hg_ hnew_; (first | rw [← Ny188.out] at ho10 | (simp only [Int.reduceToNat] at ho10; rw [← Ny188.out] at ho10)); have n_ := aT (Kd.R_lower ho10 kL) (aT (IsS79.below IsS79.qHI0 hb) (aT (bB BK184 hb) (aT (KeepBut.trans kK (KeepBut.of_below hb g none) (.inl rfl)) (aM (below_step IsS79.bHI0 hb))))); clear HI0 BK184 HK HB; obtain ⟨HO190, HI0, BK184, HK, HB⟩ := n_; clear hb ho10; obtain ⟨Ao11, co11, eo11⟩ := Kd.R_slice HO190.out; subst eo11) | ((with_reducible refine gC 49 rfl ?_); refine gL (some 10) Try.func49 #[.pointer (some ⟨g, 0, none⟩), .slice Ao11 y188.length co11] ?_; (with_reducible refine (spec_l1PickInt.calls g s0_0 t186 t187 _ _ y188 t191 t192 t193 w0 _ ?side1 ?side2 ?side3 ?side4 ?side5 A3.out).mono ?_); (case side1 => exact IsS79.qHI0); (case side2 => exact IsS79.bHI0); (case side3 => exact cA ((Kd.R_reads' HO190.out).2.2)); (case side4 => exact (Kd.R_reads' HO190.out).2.1); (case side5 => exact far_slice (IsS79.own_ne HI0.out HO190.out (by decide))); rintro e w12 ⟨rfl, hi, hb, hk⟩; refine ⟨_, rfl, ?_⟩; have n_ := aT (kW hk BK184 NB184_0) (aT (IsS79.rK hk (kR HO190.out) (show IsS79 w0 _ g s0_0 t186 t187 from IsS79.qHI0)) (aT (KeepBut.trans kK hk (.inl rfl)) (aT (hb) (aM (hi))))); clear BK184 HO190 HK HB HI0; obtain ⟨BK184, HO190, HK, HB, HI0⟩ := n_; (try clear hb); (try clear hk); (try clear hi)) | ((with_reducible refine gC 50 rfl ?_); refine gL (some 12) Try.func50 #[.pointer (some ⟨g, 0, none⟩), .int .i64 9] ?_; (with_reducible refine (spec_l1Below.calls g s0_0 t192 t193 9 t194 t195 t196 w0 _ ?side1 ?side2 A4.out).mono ?_); (case side1 => exact IsS79.qHI0); (case side2 => exact IsS79.bHI0); rintro e w13 ⟨rfl, hi, hb, hk⟩; refine ⟨_, rfl, ?_⟩; have n_ := aT (kW hk BK184 NB184_0) (aT (IsS79.rK hk (kR HO190.out) (show IsS79 w0 _ g s0_0 t192 t193 from IsS79.qHI0)) (aT (KeepBut.trans kK hk (.inl rfl)) (aT (hb) (aM (hi))))); clear BK184 HO190 HK HB HI0; obtain ⟨BK184, HO190, HK, HB, HI0⟩ := n_; (try clear hb); (try clear hk); (try clear hi)) | ((with_reducible refine gC 51 rfl ?_); refine gL (some 15) Try.func51 #[.pointer (some ⟨g, 0, none⟩)] ?_; (with_reducible refine (spec_l4Rest.calls g s0_0 t195 t196 t197 t198 t199 t200 t201 w0 _ ?side1 ?side2 A5.out).mono ?_); (case side1 => exact IsS79.qHI0); (case side2 => exact IsS79.bHI0); rintro e w14 ⟨rfl, hi, hb, hk⟩; refine ⟨_, rfl, ?_⟩; have n_ := aT (kW hk BK184 NB184_0) (aT (IsS79.rK hk (kR HO190.out) (show IsS79 w0 _ g s0_0 t195 t196 from IsS79.qHI0)) (aT (KeepBut.trans kK hk (.inl rfl)) (aT (hb) (aM (hi))))); clear BK184 HO190 HK HB HI0; obtain ⟨BK184, HO190, HK, HB, HI0⟩ := n_; (try clear hb); (try clear hk); (try clear hi)) | ((with_reducible refine gD 3 rfl ?_); refine bE #[.int .i64 0, .int .i64 0, .int .i64 0, .int .i64 0, .int .i64 0, .int .i64 0, .slice none 0 0, .slice none 0 0] 28 ?_; intro gb202 hg w15 hbox hb; have n_ := aT (rB HO190 hb) (aT (IsS79.below IsS79.qHI0 hb) (aT (bB BK184 hb) (aT (KeepBut.trans kK (KeepBut.of_below hb g none) (.inl rfl)) (aT (below_step IsS79.bHI0 hb) (aT (hbox) (aT ((kZ hg : w.heap.size ≤ gb202)) (aT ((Nat.le_trans HW0.out (kZ hg : w.heap.size ≤ gb202) : w0.heap.size ≤ gb202)) (aT (lB hg BK184) (aT (gB hg BK184) (aT ((by rw [hg]; exact Nat.ne_of_lt (IsS79.lt (show IsS79 w0 _ g s0_0 t200 t201 from IsS79.qHI0)) : g ≠ gb202)) (aM ((by rw [hg]; exact Nat.ne_of_gt (IsS79.lt (show IsS79 w0 _ g s0_0 t200 t201 from IsS79.qHI0)) : gb202 ≠ g))))))))))))); clear HO190 HI0 BK184 HK HB; obtain ⟨HO190, HI0, BK184, HK, HB, BK202, GW202, GE202, NB184_202, NB202_184, NB0_202, NB202_0⟩ := n_; clear hb hbox hg; have hnb16 := NB202_184.out; have hnc16 := NB184_202.out; have hnb17 := NB202_0.out; have hnc17 := NB0_202.out; obtain ⟨⟨hcz18_0, hcz18_1, hcz18_2, hcz18_3, hcz18_4, hcz18_5, hcz18_6, hcz18_7⟩, hfz18_0, hfz18_1, hfz18_2, hfz18_3, hfz18_4, hfz18_5, hfz18_6, hfz18_7⟩ := cF8 BK202) | ((with_reducible refine gC 50 rfl ?_); refine gL (some 18) Try.func50 #[.pointer (some ⟨g, 0, none⟩), .int .i64 3] ?_; (with_reducible refine (spec_l1Below.calls g s0_0 t200 t201 3 t203 t204 t205 w0 _ ?side1 ?side2 A6.out).mono ?_); (case side1 => exact IsS79.qHI0); (case side2 => exact IsS79.bHI0); rintro e w19 ⟨rfl, hi, hb, hk⟩; refine ⟨_, rfl, ?_⟩; have n_ := aT (kV hk NB184_202 BK184 NB184_0) (aT (IsS79.rK hk (rF8 HO190.out BK202.out) (show IsS79 w0 _ g s0_0 t200 t201 from IsS79.qHI0)) (aT (KeepBut.blk hk (g' := gb202) (o := .cells #[.int .i64 t185, .int .i64 t191, .int .i64 (wrap64 (101 + t194)), .int .i64 t197, .int .i64 t198, .int .i64 t199, .slice none 0 0, .slice none 0 0] 28 (0, 0)) (bP BK202) NB202_0.out (by simp)) (aT (KeepBut.trans kK hk (.inl rfl)) (aT (hb) (aM (hi)))))); clear BK184 HO190 BK202 HK HB HI0; obtain ⟨BK184, HO190, BK202, HK, HB, HI0⟩ := n_; (try clear hb); (try clear hk); (try clear hi)))
 go_loopg [4] k (fun kq v4 w' => ∃ (x4_1 : Int) (x1001_1 : Int) (x1002_1 : Int) (x203006_1 : List Int) (u203006 : Value), v4 = .int .i64 x4_1 ∧ Aside0 (spec_l5DrawTicket.l0 kq x4_1 s0_0 x1001_1 x1002_1 t185 t191 (wrap64 (101 + t194)) t197 t198 t199 x203006_1 = some (r1, r2, r3, r4, r5, r6, r7, r8, r9, r10)) ∧ Aside0 (kq ≤ k) ∧ Aside0 (Kd.R (Kd.int .i64) 3 w' w.heap.size (fun _ => True) u203006 x203006_1) ∧ Aside0 (w'.heap[gb184]? = some (.cells #[.int .i64 0, .int .i64 0, .int .i64 0, .int .i64 0, .int .i64 0, .int .i64 0, (.slice none 0 0), (.slice none 0 0)] 28 (0, 0))) ∧ Aside0 (w'.heap[gb202]? = some (.cells #[.int .i64 t185, .int .i64 t191, .int .i64 (wrap64 (101 + t194)), .int .i64 t197, .int .i64 t198, .int .i64 t199, u203006, (.slice none 0 0)] 28 (0, 0))) ∧ Aside0 (IsS79 w0 w' g s0_0 x1001_1 x1002_1) ∧ Aside0 (KeepBut w w' g none) ∧ Aside0 (Below w0.heap.size w0 w'))
 case atStart => exact ⟨(t203), (t204), (t205), (([] : List Int)), (.slice none 0 0), eX, H', ⟨Nat.le_refl _⟩, ⟨(by first | exact Kd.R_nil _ _ _ _ _ | exact Kd.N_nil _ _ _ _ _ | exact Kd.V_nil _ _ _ _ _ | exact Kd.Q_nil _ _ _ _ _ | exact Kd.S_nil _ _ _ _ _)⟩, ⟨(kB BK184.out)⟩, ⟨(kB BK202.out)⟩, ⟨IsS79.qHI0⟩, ⟨kK⟩, ⟨IsS79.bHI0⟩⟩
 clear H'
 try clear hcz18_0
 try clear hcz18_1
 try clear hcz18_2
 try clear hcz18_3
 try clear hcz18_4
 try clear hcz18_5
 try clear hcz18_6
 try clear hcz18_7
 try clear hfz18_0
 try clear hfz18_1
 try clear hfz18_2
 try clear hfz18_3
 try clear hfz18_4
 try clear hfz18_5
 try clear hfz18_6
 try clear hfz18_7
 obtain ⟨x4_1, x1001_1, x1002_1, x203006_1, u203006, rfl, HA, HK1, HO_203006, BK184, BK202, HI0, HK, HB⟩ := hrel
 obtain _ | k1 := gk
 ·exact absurd HA.out (by simp [spec_l5DrawTicket.l0])
 have H := HA.out
 clear HA
 simp only [spec_l5DrawTicket.l0] at H
 by_cases c20 : x4_1 > 0
 ·rw [if_pos c20] at H
  have c20b0 : decide (0 < x4_1) = true := decide_eq_true c20
  clear c20
  obtain ⟨⟨t206, t207, t208⟩, A21, H⟩ := oB H
  dsimp only at H
  by_cases c22 : x203006_1.length < 17592186044416
  ·rw [if_pos c22] at H
   have LMc22 := Aside0.mk c22
   clear c22
   obtain ⟨y209, hy209⟩ : ∃ y_ : List Int, y_ = (x203006_1 ++ [t206]) := ⟨_, rfl⟩
   replace H : (spec_l5DrawTicket.l0 k1 (wrap64 (x4_1 - 1)) s0_0 t207 t208 t185 t191 (wrap64 (101 + t194)) t197 t198 t199 y209) = some (r1, r2, r3, r4, r5, r6, r7, r8, r9, r10) := by first | (rw [hy209]; with_reducible exact H) | (have H2_ := (Option.bind_some _ _).symm.trans H; rw [hy209]; with_reducible exact H2_) | (have H2_ := (Option.bind_some _ _).symm.trans H; with_reducible exact H2_) | with_reducible exact H | (rw [hy209]; exact H) | exact H
   have Ny209 := Aside0.mk hy209
   clear hy209
   have H' := Aside0.mk H
   clear H
   try go_wp2
   have n_ := aT (Kd.R_drew HO_203006.out) (aT (blk_drew BK184.out) (aT (blk_drew BK202.out) (aT (IsS79.drew HI0.out) (aT (keep_drew HK.out) (aM (below_drew1 HB.out))))))
   clear HO_203006 BK184 BK202 HI0 HK HB
   obtain ⟨HO_203006, BK184, BK202, HI0, HK, HB⟩ := n_
   refine start_ (n := 8) (S := fun w' => w'.cell? ⟨gb202, 0, none⟩ = some (.int .i64 t185) ∧ w'.cell? ⟨gb202, 1, none⟩ = some (.int .i64 t191) ∧ w'.cell? ⟨gb202, 2, none⟩ = some (.int .i64 (wrap64 (101 + t194))) ∧ w'.cell? ⟨gb202, 3, none⟩ = some (.int .i64 t197) ∧ w'.cell? ⟨gb202, 4, none⟩ = some (.int .i64 t198) ∧ w'.cell? ⟨gb202, 5, none⟩ = some (.int .i64 t199) ∧ w'.cell? ⟨gb202, 6, none⟩ = some (u203006) ∧ w'.cell? ⟨gb202, 7, none⟩ = some (.slice none 0 0)) (ds := [7]) _ (by kernel_rfl) rfl rfl (cF8 BK202).1 (fun hHeld => ?_); refine with_tabW spec_l5DrawTicket.tab5 spec_l5DrawTicket.bits5 (fun HT_ HW_ => ?_)
   generalize wr.drew = w23 at HO_203006 BK184 BK202 HI0 HK HB hHeld ⊢
   refine pU HT_ 0 (some 23) (mk 8 1) rfl rfl (h := ?_)
   refine pU HT_ 2 (some 25) (mk 8 5) rfl rfl (h := ?_)
   refine tU HT_ HW_ 1 (some 24) (mk 8 7) hHeld rfl rfl (by rintro w' ⟨s0, s1, s2, s3, s4, s5, s6, s7⟩; go_simp; with_reducible rfl) (h := ?_)
   refine one_ (i := 3) (N := some 26) (mk 8 15) rfl rfl (one_of HT_.out (by kernel_rfl)) (by decide) (fun K hK => ?_)
   refine goes_ Try.func50 (by kernel_rfl) rfl #[.pointer (some ⟨g, 0, none⟩), .int .i64 3] (by rfl) rfl rfl eA ?_
   with_reducible refine (spec_l1Below.calls g s0_0 x1001_1 x1002_1 3 t206 t207 t208 w0 _ ?side1 ?side2 A21.out).mono ?_
   (case side1 => exact IsS79.qHI0)
   (case side2 => exact IsS79.bHI0)
   rintro e w24 ⟨rfl, hi, hb, hk⟩
   refine ⟨_, rfl, ?_⟩
   have n_ := aT (IsS79.rK hk (kR HO_203006.out) (show IsS79 w0 _ g s0_0 x1001_1 x1002_1 from IsS79.qHI0)) (aT (kW hk BK184 NB184_0) (aT (kW hk BK202 NB202_0) (aT (KeepBut.trans kK hk (.inl rfl)) (aT (hb) (aM (hi))))))
   clear HO_203006 BK184 BK202 HK HB HI0
   obtain ⟨HO_203006, BK184, BK202, HK, HB, HI0⟩ := n_
   (try clear hb)
   (try clear hb2)
   (try clear hk)
   (try clear hi)
   refine hK.out _ _ (cF8 BK202).1 (fun hHeld => ?_)
   clear hK K
   refine nO (some 26) (h := ?_)
   refine one_ (i := 4) (N := some 27) (mk 8 31) rfl rfl (one_of HT_.out (by kernel_rfl)) (by decide) (fun K hK => ?_)
   refine value_ (w1 := ?_) (v := ?_) (by rfl) rfl ?_ ?_
   rotate_left 2
   ·go_simp
    constructor
    ·rfl
    rfl
   refine hK.out _ _ ⟨(blk_cell (blk_alloc BK202.out _) 0).trans rfl, (blk_cell (blk_alloc BK202.out _) 1).trans rfl, (blk_cell (blk_alloc BK202.out _) 2).trans rfl, (blk_cell (blk_alloc BK202.out _) 3).trans rfl, (blk_cell (blk_alloc BK202.out _) 4).trans rfl, (blk_cell (blk_alloc BK202.out _) 5).trans rfl, (blk_cell (blk_alloc BK202.out _) 6).trans rfl, (blk_cell (blk_alloc BK202.out _) 7).trans rfl⟩ (fun hHeld => ?_)
   clear hK K
   refine nO (some 27) (h := ?_)
   refine one_ (i := 5) (N := some 28) (mk 8 63) rfl rfl (one_of HT_.out (by kernel_rfl)) (by decide) (fun K hK => ?_)
   refine Kd.R_append_step (Kd.int .i64) w.heap.size (by rfl) (.tmp 24) (.tmp 27) 26 3 (.int .i64 0) 8 rfl Try.underlying26 info3 rfl (by decide) (by omega) u203006 x203006_1 t206 [.int .i64 t206] (fun _ => True) (fun _ => False) rfl rfl ?aP (fun _ hk => hk.elim) ?aF ?aO (Below.refl _ _) ?aS ?aL ?_
   (case aP => exact rfl)
   (case aF => exact (fun _ _ => trivial))
   (case aO => exact (kR HO_203006.out))
   (case aS => exact kL)
   (case aL => have := LMc22.out; omega)
   intro v210 w25 ho hb hg hat
   rw [← Ny209.out] at ho
   have n0_ := Aside0.mk (blk_grown (g := gb184) (o := .cells #[.int .i64 0, .int .i64 0, .int .i64 0, .int .i64 0, .int .i64 0, .int .i64 0, .slice none 0 0, .slice none 0 0] 28 (0, 0)) (kB BK184.out) hg (Kd.R_ne HO_203006.out BK184.out (by decide)))
   have n1_ := Aside0.mk (blk_grown (g := gb202) (o := .cells #[.int .i64 t185, .int .i64 t191, .int .i64 (wrap64 (101 + t194)), .int .i64 t197, .int .i64 t198, .int .i64 t199, u203006, .slice none 0 0] 28 (0, 0)) (kB BK202.out) hg (Kd.R_ne HO_203006.out BK202.out (by decide)))
   have n2_ := Aside0.mk (IsS79.grown IsS79.qHI0 hg (IsS79.own_ne HI0.out HO_203006.out (by decide)))
   have n3_ := Aside0.mk (below_weaken IsS79.bHI0 HL.out hb)
   have n4_ := Aside0.mk (KeepBut.trans kK (KeepBut.of_grown hg g) (Kd.R_base2 HO_203006.out))
   have n5_ := Aside0.mk (ho)
   clear BK184 BK202 HI0 HB HK HO_203006
   have BK184 := n0_
   have BK202 := n1_
   have HI0 := n2_
   have HB := n3_
   have HK := n4_
   have HO211 := n5_
   clear n0_ n1_ n2_ n3_ n4_ n5_ ho hb hg hat
   obtain ⟨Ao26, co26, eo26⟩ := Kd.R_slice HO211.out
   (first | subst eo26 | (injection eo26 with f1_ f2_ f3_; have f4_ := f1_.symm; have f5_ := f3_.symm; clear f1_ f2_ f3_; subst f4_; subst f5_))
   refine hK.out _ _ (cF8 BK202).1 (fun hHeld => ?_)
   clear hK K
   refine nO (some 28) (h := ?_)
   refine pU HT_ 6 (some 29) (mk 8 127) rfl rfl (h := ?_)
   refine last_ (i := 7) (N := none) #[true, true, true, true, true, true, true, true] rfl rfl (one_of HT_.out (by kernel_rfl)) (by decide) (fun K hK => ?_)
   have hs27 : w25.cell? ⟨gb202, 6, none⟩ = some (u203006) := (blk_cell BK202.out 6).trans rfl
   have hfs27 := blk_frozen BK202.out 6
   have hns27_0 := NB184_202.out
   have hms27_0 := NB202_184.out
   refine skip_ (w1 := ?_) (by rfl) rfl ?_ ?_
   rotate_left
   ·go_simp
    rfl
   refine hK.out _ _ ?_
   clear hK K
   refine done_ (done_of HT_.out (by kernel_rfl)) ?_
   try go_wp2
   go_roundg k1
   case measure => have := HK1.out; omega
   case rel => exact ⟨(wrap64 (x4_1 - 1)), (t207), (t208), (y209), (.slice Ao26 y209.length co26), eX, H', ⟨(by have := HK1.out; omega)⟩, ⟨(rM (Kd.R_far (p := ⟨gb202, 6, none⟩) (Kd.R_types HO211.out BK202.out (by decide)) (fun _ hk => hk.2) (.slice Ao26 y209.length co26)) (fun _ hk => trivial))⟩, ⟨(kF1 NB184_202.out BK184.out)⟩, ⟨(bP BK202)⟩, ⟨IsS79.qHI0⟩, ⟨kK⟩, ⟨IsS79.bHI0⟩⟩
  rw [if_neg c22] at H
  exact absurd H (by simp)
 rw [if_neg c20] at H
 have c20b0 : decide (0 < x4_1) = false := decide_eq_false c20
 clear c20
 obtain ⟨⟨t212, t213, t214⟩, A28, H⟩ := oB H
 dsimp only at H
 have H' := Aside0.mk H
 clear H
 go_wp2_with (first | ((with_reducible refine gC 50 rfl ?_); refine gL (some 31) Try.func50 #[.pointer (some ⟨g, 0, none⟩), .int .i64 3] ?_; (with_reducible refine (spec_l1Below.calls g s0_0 x1001_1 x1002_1 3 t212 t213 t214 w0 _ ?side1 ?side2 A28.out).mono ?_); (case side1 => exact IsS79.qHI0); (case side2 => exact IsS79.bHI0); rintro e w29 ⟨rfl, hi, hb, hk⟩; refine ⟨_, rfl, ?_⟩; have n_ := aT (IsS79.rK hk (kR HO_203006.out) (show IsS79 w0 _ g s0_0 x1001_1 x1002_1 from IsS79.qHI0)) (aT (kW hk BK184 NB184_0) (aT (kW hk BK202 NB202_0) (aT (KeepBut.trans kK hk (.inl rfl)) (aT (hb) (aM (hi)))))); clear HO_203006 BK184 BK202 HK HB HI0; obtain ⟨HO_203006, BK184, BK202, HK, HB, HI0⟩ := n_; (try clear hb); (try clear hk); (try clear hi)))
 go_loopg [5] k1 (fun kq v5 w' => ∃ (x5_2 : Int) (x1001_2 : Int) (x1002_2 : Int) (x203007_2 : List Int) (u203007 : Value), v5 = .int .i64 x5_2 ∧ Aside0 (spec_l5DrawTicket.l1 kq x5_2 s0_0 x1001_2 x1002_2 t185 t191 (wrap64 (101 + t194)) t197 t198 t199 x203006_1 x203007_2 = some (r1, r2, r3, r4, r5, r6, r7, r8, r9, r10)) ∧ Aside0 (kq ≤ k1) ∧ Aside0 (Kd.R (Kd.int .i64) 3 w' w.heap.size (fun k_ => some k_ ≠ (u203007 : Value).ownBlock) u203006 x203006_1) ∧ Aside0 (Kd.R (Kd.int .i64) 3 w' w.heap.size (fun k_ => some k_ ≠ (u203006 : Value).ownBlock) u203007 x203007_2) ∧ Aside0 (w'.heap[gb184]? = some (.cells #[.int .i64 0, .int .i64 0, .int .i64 0, .int .i64 0, .int .i64 0, .int .i64 0, (.slice none 0 0), (.slice none 0 0)] 28 (0, 0))) ∧ Aside0 (w'.heap[gb202]? = some (.cells #[.int .i64 t185, .int .i64 t191, .int .i64 (wrap64 (101 + t194)), .int .i64 t197, .int .i64 t198, .int .i64 t199, u203006, u203007] 28 (0, 0))) ∧ Aside0 (IsS79 w0 w' g s0_0 x1001_2 x1002_2) ∧ Aside0 (KeepBut w w' g none) ∧ Aside0 (Below w0.heap.size w0 w'))
 case atStart => exact ⟨(t212), (t213), (t214), (([] : List Int)), (.slice none 0 0), eX, H', ⟨Nat.le_refl _⟩, ⟨(rM HO_203006.out (fun _ hk => (by simp [Value.ownBlock])))⟩, ⟨(by first | exact Kd.R_nil _ _ _ _ _ | exact Kd.N_nil _ _ _ _ _ | exact Kd.V_nil _ _ _ _ _ | exact Kd.Q_nil _ _ _ _ _ | exact Kd.S_nil _ _ _ _ _)⟩, ⟨(kB BK184.out)⟩, ⟨(kB BK202.out)⟩, ⟨IsS79.qHI0⟩, ⟨kK⟩, ⟨IsS79.bHI0⟩⟩
 clear H'
 try clear c20
 try clear c20b0
 try clear hcz18_0
 try clear hcz18_1
 try clear hcz18_2
 try clear hcz18_3
 try clear hcz18_4
 try clear hcz18_5
 try clear hcz18_6
 try clear hcz18_7
 try clear hfz18_0
 try clear hfz18_1
 try clear hfz18_2
 try clear hfz18_3
 try clear hfz18_4
 try clear hfz18_5
 try clear hfz18_6
 try clear hfz18_7
 obtain ⟨x5_2, x1001_2, x1002_2, x203007_2, u203007, rfl, HA, HK2, HO_203006, HO_203007, BK184, BK202, HI0, HK, HB⟩ := hrel
 obtain _ | k2 := gk
 ·exact absurd HA.out (by simp [spec_l5DrawTicket.l1])
 have H := HA.out
 clear HA
 simp only [spec_l5DrawTicket.l1] at H
 by_cases c30 : x5_2 > 0
 ·rw [if_pos c30] at H
  have c30b0 : decide (0 < x5_2) = true := decide_eq_true c30
  clear c30
  obtain ⟨⟨t215, t216, t217⟩, A31, H⟩ := oB H
  dsimp only at H
  by_cases c32 : x203007_2.length < 17592186044416
  ·rw [if_pos c32] at H
   have LMc32 := Aside0.mk c32
   clear c32
   obtain ⟨y218, hy218⟩ : ∃ y_ : List Int, y_ = (x203007_2 ++ [t215]) := ⟨_, rfl⟩
   replace H : (spec_l5DrawTicket.l1 k2 (wrap64 (x5_2 - 1)) s0_0 t216 t217 t185 t191 (wrap64 (101 + t194)) t197 t198 t199 x203006_1 y218) = some (r1, r2, r3, r4, r5, r6, r7, r8, r9, r10) := by first | (rw [hy218]; with_reducible exact H) | (have H2_ := (Option.bind_some _ _).symm.trans H; rw [hy218]; with_reducible exact H2_) | (have H2_ := (Option.bind_some _ _).symm.trans H; with_reducible exact H2_) | with_reducible exact H | (rw [hy218]; exact H) | exact H
   have Ny218 := Aside0.mk hy218
   clear hy218
   have H' := Aside0.mk H
   clear H
   try go_wp2
   have n_ := aT (Kd.R_drew HO_203006.out) (aT (Kd.R_drew HO_203007.out) (aT (blk_drew BK184.out) (aT (blk_drew BK202.out) (aT (IsS79.drew HI0.out) (aT (keep_drew HK.out) (aM (below_drew1 HB.out)))))))
   clear HO_203006 HO_203007 BK184 BK202 HI0 HK HB
   obtain ⟨HO_203006, HO_203007, BK184, BK202, HI0, HK, HB⟩ := n_
   refine start_ (n := 8) (S := fun w' => w'.cell? ⟨gb202, 0, none⟩ = some (.int .i64 t185) ∧ w'.cell? ⟨gb202, 1, none⟩ = some (.int .i64 t191) ∧ w'.cell? ⟨gb202, 2, none⟩ = some (.int .i64 (wrap64 (101 + t194))) ∧ w'.cell? ⟨gb202, 3, none⟩ = some (.int .i64 t197) ∧ w'.cell? ⟨gb202, 4, none⟩ = some (.int .i64 t198) ∧ w'.cell? ⟨gb202, 5, none⟩ = some (.int .i64 t199) ∧ w'.cell? ⟨gb202, 6, none⟩ = some (u203006) ∧ w'.cell? ⟨gb202, 7, none⟩ = some (u203007)) (ds := [7]) _ (by kernel_rfl) rfl rfl (cF8 BK202).1 (fun hHeld => ?_); refine with_tabW spec_l5DrawTicket.tab9 spec_l5DrawTicket.bits9 (fun HT_ HW_ => ?_)
   generalize wr.drew = w33 at HO_203006 HO_203007 BK184 BK202 HI0 HK HB hHeld ⊢
   refine pU HT_ 0 (some 36) (mk 8 1) rfl rfl (h := ?_)
   refine pU HT_ 2 (some 38) (mk 8 5) rfl rfl (h := ?_)
   refine tU HT_ HW_ 1 (some 37) (mk 8 7) hHeld rfl rfl (by rintro w' ⟨s0, s1, s2, s3, s4, s5, s6, s7⟩; go_simp; with_reducible rfl) (h := ?_)
   refine one_ (i := 3) (N := some 39) (mk 8 15) rfl rfl (one_of HT_.out (by kernel_rfl)) (by decide) (fun K hK => ?_)
   refine goes_ Try.func50 (by kernel_rfl) rfl #[.pointer (some ⟨g, 0, none⟩), .int .i64 3] (by rfl) rfl rfl eA ?_
   with_reducible refine (spec_l1Below.calls g s0_0 x1001_2 x1002_2 3 t215 t216 t217 w0 _ ?side1 ?side2 A31.out).mono ?_
   (case side1 => exact IsS79.qHI0)
   (case side2 => exact IsS79.bHI0)
   rintro e w34 ⟨rfl, hi, hb, hk⟩
   refine ⟨_, rfl, ?_⟩
   have n_ := aT (IsS79.rK hk (kR HO_203006.out) (show IsS79 w0 _ g s0_0 x1001_2 x1002_2 from IsS79.qHI0)) (aT (IsS79.rK hk (kR HO_203007.out) (show IsS79 w0 _ g s0_0 x1001_2 x1002_2 from IsS79.qHI0)) (aT (kW hk BK184 NB184_0) (aT (kW hk BK202 NB202_0) (aT (KeepBut.trans kK hk (.inl rfl)) (aT (hb) (aM (hi)))))))
   clear HO_203006 HO_203007 BK184 BK202 HK HB HI0
   obtain ⟨HO_203006, HO_203007, BK184, BK202, HK, HB, HI0⟩ := n_
   (try clear hb)
   (try clear hb2)
   (try clear hk)
   (try clear hi)
   refine hK.out _ _ (cF8 BK202).1 (fun hHeld => ?_)
   clear hK K
   refine nO (some 39) (h := ?_)
   refine one_ (i := 4) (N := some 40) (mk 8 31) rfl rfl (one_of HT_.out (by kernel_rfl)) (by decide) (fun K hK => ?_)
   refine value_ (w1 := ?_) (v := ?_) (by rfl) rfl ?_ ?_
   rotate_left 2
   ·go_simp
    constructor
    ·rfl
    rfl
   refine hK.out _ _ ⟨(blk_cell (blk_alloc BK202.out _) 0).trans rfl, (blk_cell (blk_alloc BK202.out _) 1).trans rfl, (blk_cell (blk_alloc BK202.out _) 2).trans rfl, (blk_cell (blk_alloc BK202.out _) 3).trans rfl, (blk_cell (blk_alloc BK202.out _) 4).trans rfl, (blk_cell (blk_alloc BK202.out _) 5).trans rfl, (blk_cell (blk_alloc BK202.out _) 6).trans rfl, (blk_cell (blk_alloc BK202.out _) 7).trans rfl⟩ (fun hHeld => ?_)
   clear hK K
   refine nO (some 40) (h := ?_)
   refine one_ (i := 5) (N := some 41) (mk 8 63) rfl rfl (one_of HT_.out (by kernel_rfl)) (by decide) (fun K hK => ?_)
   refine Kd.R_append_step (Kd.int .i64) w.heap.size (by rfl) (.tmp 37) (.tmp 40) 26 3 (.int .i64 0) 8 rfl Try.underlying26 info3 rfl (by decide) (by omega) u203007 x203007_2 t215 [.int .i64 t215] (fun k_ => some k_ ≠ (u203006 : Value).ownBlock) (fun _ => False) rfl rfl ?aP (fun _ hk => hk.elim) ?aF ?aO (Below.refl _ _) ?aS ?aL ?_
   (case aP => exact rfl)
   (case aF => exact (fun k_ hk => Kd.fresh' (Kd.R_lt (kR HO_203006.out)) k_ hk))
   (case aO => exact (kR HO_203007.out))
   (case aS => exact kL)
   (case aL => have := LMc32.out; omega)
   intro v219 w35 ho hb hg hat
   rw [← Ny218.out] at ho
   have n0_ := Aside0.mk (Kd.R_after (ok := (fun _ => True)) (rM HO_203006.out (fun _ hk => ⟨trivial, hk⟩)) hg hat)
   have n1_ := Aside0.mk (blk_grown (g := gb184) (o := .cells #[.int .i64 0, .int .i64 0, .int .i64 0, .int .i64 0, .int .i64 0, .int .i64 0, .slice none 0 0, .slice none 0 0] 28 (0, 0)) (kB BK184.out) hg (Kd.R_ne HO_203007.out BK184.out (by decide)))
   have n2_ := Aside0.mk (blk_grown (g := gb202) (o := .cells #[.int .i64 t185, .int .i64 t191, .int .i64 (wrap64 (101 + t194)), .int .i64 t197, .int .i64 t198, .int .i64 t199, u203006, u203007] 28 (0, 0)) (kB BK202.out) hg (Kd.R_ne HO_203007.out BK202.out (by decide)))
   have n3_ := Aside0.mk (IsS79.grown IsS79.qHI0 hg (IsS79.own_ne HI0.out HO_203007.out (by decide)))
   have n4_ := Aside0.mk (below_weaken IsS79.bHI0 HL.out hb)
   have n5_ := Aside0.mk (KeepBut.trans kK (KeepBut.of_grown hg g) (Kd.R_base2 HO_203007.out))
   have n6_ := Aside0.mk (ho)
   clear HO_203006 BK184 BK202 HI0 HB HK HO_203007
   have HO_203006 := n0_
   have BK184 := n1_
   have BK202 := n2_
   have HI0 := n3_
   have HB := n4_
   have HK := n5_
   have HO220 := n6_
   clear n0_ n1_ n2_ n3_ n4_ n5_ n6_ ho hb hg hat
   obtain ⟨Ao36, co36, eo36⟩ := Kd.R_slice HO220.out
   (first | subst eo36 | (injection eo36 with f1_ f2_ f3_; have f4_ := f1_.symm; have f5_ := f3_.symm; clear f1_ f2_ f3_; subst f4_; subst f5_))
   refine hK.out _ _ (cF8 BK202).1 (fun hHeld => ?_)
   clear hK K
   refine nO (some 41) (h := ?_)
   refine pU HT_ 6 (some 42) (mk 8 127) rfl rfl (h := ?_)
   refine last_ (i := 7) (N := none) #[true, true, true, true, true, true, true, true] rfl rfl (one_of HT_.out (by kernel_rfl)) (by decide) (fun K hK => ?_)
   have hs37 : w35.cell? ⟨gb202, 7, none⟩ = some (u203007) := (blk_cell BK202.out 7).trans rfl
   have hfs37 := blk_frozen BK202.out 7
   have hns37_0 := NB184_202.out
   have hms37_0 := NB202_184.out
   refine skip_ (w1 := ?_) (by rfl) rfl ?_ ?_
   rotate_left
   ·go_simp
    rfl
   refine hK.out _ _ ?_
   clear hK K
   refine done_ (done_of HT_.out (by kernel_rfl)) ?_
   try go_wp2
   go_roundg k2
   case measure => have := HK1.out; have := HK2.out; omega
   case rel => exact ⟨(wrap64 (x5_2 - 1)), (t216), (t217), (y218), (.slice Ao36 y218.length co36), eX, H', ⟨(by have := HK1.out; have := HK2.out; omega)⟩, ⟨(rM (Kd.R_far (p := ⟨gb202, 7, none⟩) (Kd.R_types HO_203006.out BK202.out (by decide)) (fun _ hk => hk.2) (.slice Ao36 y218.length co36)) (fun _ hk => hk.1.2))⟩, ⟨(rM (Kd.R_far (p := ⟨gb202, 7, none⟩) (Kd.R_types HO220.out BK202.out (by decide)) (fun _ hk => hk.2) (.slice Ao36 y218.length co36)) (fun _ hk => hk.1))⟩, ⟨(kF1 NB184_202.out BK184.out)⟩, ⟨(bP BK202)⟩, ⟨IsS79.qHI0⟩, ⟨kK⟩, ⟨IsS79.bHI0⟩⟩
  rw [if_neg c32] at H
  exact absurd H (by simp)
 rw [if_neg c30] at H
 have c30b0 : decide (0 < x5_2) = false := decide_eq_false c30
 clear c30
 obtain ⟨⟨t221, t222, t223⟩, A38, H⟩ := oB H
 dsimp only at H
 by_cases c39 : t221 = true
 ·subst c39
  rw [if_pos rfl] at H
  obtain ⟨⟨t224, t225, t226⟩, A40, H⟩ := oB H
  dsimp only at H
  by_cases c41 : t224 = 0
  ·rw [if_pos c41] at H
   have c41b0 : (t224 == 0) = true := beq_iff_eq.mpr c41
   have c41b1 : (t224 != 0) = false := bne_eq_false_iff_eq.mpr c41
   clear c41
   obtain ⟨y227, hy227⟩ : ∃ y_ : List Int, y_ = (([(-1), 6] : List Int)) := ⟨_, rfl⟩
   replace H : ((spec_l1PickInt.f s0_0 t225 t226 y227).bind fun bt230 => (some (bt230.1, t191, (wrap64 (101 + t194)), t197, t198, t199, x203006_1, x203007_2, bt230.2.1, bt230.2.2))) = some (r1, r2, r3, r4, r5, r6, r7, r8, r9, r10) := by first | (rw [hy227]; with_reducible exact H) | (have H2_ := (Option.bind_some _ _).symm.trans H; rw [hy227]; with_reducible exact H2_) | (have H2_ := (Option.bind_some _ _).symm.trans H; with_reducible exact H2_) | with_reducible exact H | (rw [hy227]; exact H) | exact H
   have Ny227 := Aside0.mk hy227
   clear hy227
   obtain ⟨⟨t230, t231, t232⟩, A42, H⟩ := oB H
   dsimp only at H
   simp only [Option.some.injEq, Prod.mk.injEq] at H
   obtain ⟨rfl, rfl, rfl, rfl, rfl, rfl, rfl, rfl, rfl, rfl⟩ := H
   go_wp2_with (first | ((with_reducible refine gC 52 rfl ?_); refine gL (some 44) Try.func52 #[.pointer (some ⟨g, 0, none⟩), .int .i64 10] ?_; (with_reducible refine (spec_l1Once.calls g s0_0 x1001_2 x1002_2 10 true t222 t223 w0 _ ?side1 ?side2 A38.out).mono ?_); (case side1 => exact IsS79.qHI0); (case side2 => exact IsS79.bHI0); rintro e w43 ⟨rfl, hi, hb, hk⟩; refine ⟨_, rfl, ?_⟩; have n_ := aT (IsS79.rK hk (kR HO_203006.out) (show IsS79 w0 _ g s0_0 x1001_2 x1002_2 from IsS79.qHI0)) (aT (IsS79.rK hk (kR HO_203007.out) (show IsS79 w0 _ g s0_0 x1001_2 x1002_2 from IsS79.qHI0)) (aT (kW hk BK184 NB184_0) (aT (kW hk BK202 NB202_0) (aT (KeepBut.trans kK hk (.inl rfl)) (aT (hb) (aM (hi))))))); clear HO_203006 HO_203007 BK184 BK202 HK HB HI0; obtain ⟨HO_203006, HO_203007, BK184, BK202, HK, HB, HI0⟩ := n_; (try clear hb); (try clear hk); (try clear hi)) | ((with_reducible refine gC 50 rfl ?_); refine gL (some 46) Try.func50 #[.pointer (some ⟨g, 0, none⟩), .int .i64 6] ?_; (with_reducible refine (spec_l1Below.calls g s0_0 t222 t223 6 t224 t225 t226 w0 _ ?side1 ?side2 A40.out).mono ?_); (case side1 => exact IsS79.qHI0); (case side2 => exact IsS79.bHI0); rintro e w44 ⟨rfl, hi, hb, hk⟩; refine ⟨_, rfl, ?_⟩; have n_ := aT (IsS79.rK hk (kR HO_203006.out) (show IsS79 w0 _ g s0_0 t222 t223 from IsS79.qHI0)) (aT (IsS79.rK hk (kR HO_203007.out) (show IsS79 w0 _ g s0_0 t222 t223 from IsS79.qHI0)) (aT (kW hk BK184 NB184_0) (aT (kW hk BK202 NB202_0) (aT (KeepBut.trans kK hk (.inl rfl)) (aT (hb) (aM (hi))))))); clear HO_203006 HO_203007 BK184 BK202 HK HB HI0; obtain ⟨HO_203006, HO_203007, BK184, BK202, HK, HB, HI0⟩ := n_; (try clear hb); (try clear hk); (try clear hi)) | ((with_reducible refine gate_dst (N := 55) rfl ?_); refine Kd.R_lit (Kd.int .i64) _ 3 ?hg (N := 55) ?hd (xs := ([(-1), 6] : List Int)) (inner := [.int .i64 (-1), .int .i64 6]) (ok := fun _ => True) (okp := fun _ => True) ?hr ?hp (fun _ hk => hk) trivial (Below.refl _ _) (Nat.le_refl _) (by simp) ?_; (case hd => rfl); (case hg => rfl); (case hr => first | (go_simp; done) | (go_simp; rfl)); (case hp => exact (Reps.one (show Kd.M (Kd.int .i64) _ _ _ (-1) [.int .i64 (-1)] from rfl) (Reps.one (show Kd.M (Kd.int .i64) _ _ _ 6 [.int .i64 6] from rfl) (Reps.none _ _)))); intro v228 w45 ho46 hb hg_ hnew_; clear hg_ hnew_; (first | rw [← Ny227.out] at ho46 | (simp only [Int.reduceToNat] at ho46; rw [← Ny227.out] at ho46)); have n_ := aT (Kd.R_elder' (kR HO_203006.out) (Kd.R_base ho46) hb) (aT (Kd.R_elder' (kR HO_203007.out) (Kd.R_base ho46) hb) (aT (Kd.R_lower (Kd.R_new' (Kd.R_new' ho46 (Kd.R_lt (kR HO_203006.out))) (Kd.R_lt (kR HO_203007.out))) kL) (aT (bB BK184 hb) (aT (bB BK202 hb) (aT (IsS79.below IsS79.qHI0 hb) (aT (KeepBut.trans kK (KeepBut.of_below hb g none) (.inl rfl)) (aM (below_step IsS79.bHI0 hb)))))))); clear HO_203006 HO_203007 BK184 BK202 HI0 HK HB; obtain ⟨HO_203006, HO_203007, HO229, BK184, BK202, HI0, HK, HB⟩ := n_; clear hb ho46; obtain ⟨Ao47, co47, eo47⟩ := Kd.R_slice HO229.out; subst eo47) | ((with_reducible refine gC 49 rfl ?_); refine gL (some 56) Try.func49 #[.pointer (some ⟨g, 0, none⟩), .slice Ao47 y227.length co47] ?_; (with_reducible refine (spec_l1PickInt.calls g s0_0 t225 t226 _ _ y227 t230 t231 t232 w0 _ ?side1 ?side2 ?side3 ?side4 ?side5 A42.out).mono ?_); (case side1 => exact IsS79.qHI0); (case side2 => exact IsS79.bHI0); (case side3 => exact cA ((Kd.R_reads' HO229.out).2.2)); (case side4 => exact (Kd.R_reads' HO229.out).2.1); (case side5 => exact far_slice (IsS79.own_ne HI0.out HO229.out (by decide))); rintro e w48 ⟨rfl, hi, hb, hk⟩; refine ⟨_, rfl, ?_⟩; have n_ := aT (IsS79.rK hk (kR HO_203006.out) (show IsS79 w0 _ g s0_0 t225 t226 from IsS79.qHI0)) (aT (IsS79.rK hk (kR HO_203007.out) (show IsS79 w0 _ g s0_0 t225 t226 from IsS79.qHI0)) (aT (kW hk BK184 NB184_0) (aT (kW hk BK202 NB202_0) (aT (IsS79.rK hk (kR HO229.out) (show IsS79 w0 _ g s0_0 t225 t226 from IsS79.qHI0)) (aT (KeepBut.trans kK hk (.inl rfl)) (aT (hb) (aM (hi)))))))); clear HO_203006 HO_203007 BK184 BK202 HO229 HK HB HI0; obtain ⟨HO_203006, HO_203007, BK184, BK202, HO229, HK, HB, HI0⟩ := n_; (try clear hb); (try clear hk); (try clear hi); have hnb49 := NB202_184.out; have hnc49 := NB184_202.out; have hnb50 := NB202_0.out; have hnc50 := NB0_202.out; obtain ⟨⟨hcz51_0, hcz51_1, hcz51_2, hcz51_3, hcz51_4, hcz51_5, hcz51_6, hcz51_7⟩, hfz51_0, hfz51_1, hfz51_2, hfz51_3, hfz51_4, hfz51_5, hfz51_6, hfz51_7⟩ := cF8 BK202; have hnb52 := NB184_0.out; have hnc52 := NB0_184.out; obtain ⟨⟨hcz53_0, hcz53_1, hcz53_2, hcz53_3, hcz53_4, hcz53_5, hcz53_6, hcz53_7⟩, hfz53_0, hfz53_1, hfz53_2, hfz53_3, hfz53_4, hfz53_5, hfz53_6, hfz53_7⟩ := cF8 BK184; obtain ⟨Ao54, co54, eo54⟩ := Kd.R_slice HO_203006.out; subst eo54; obtain ⟨Ao55, co55, eo55⟩ := Kd.R_slice HO_203007.out; subst eo55))
   refine bodyPost_ret (results_cell_row rfl _ _ gb184 28 #[.int .i64 t230, .int .i64 t191, .int .i64 (wrap64 (101 + t194)), .int .i64 t197, .int .i64 t198, .int .i64 t199, .slice Ao54 x203006_1.length co54, .slice Ao55 x203007_2.length co55] (0, 0) _ rfl (bQ BK184) Try.underlying28 rfl (by kernel_rfl)) rfl ?_
   exact ⟨_, _, eE, (rM (Kd.R_far (p := ⟨gb184, 7, none⟩) (Kd.R_far (p := ⟨gb184, 6, none⟩) (Kd.R_far (p := ⟨gb184, 5, none⟩) (Kd.R_far (p := ⟨gb184, 4, none⟩) (Kd.R_far (p := ⟨gb184, 3, none⟩) (Kd.R_far (p := ⟨gb184, 2, none⟩) (Kd.R_far (p := ⟨gb184, 1, none⟩) (Kd.R_far (p := ⟨gb184, 0, none⟩) (Kd.R_far (p := ⟨gb202, 0, none⟩) (Kd.R_types (Kd.R_types HO_203006.out BK202.out (by decide)) BK184.out (by decide)) (fun _ hk => hk.1.2) (.int .i64 t230)) (fun _ hk => hk.2) (.int .i64 t230)) (fun _ hk => hk.2) (.int .i64 t191)) (fun _ hk => hk.2) (.int .i64 (wrap64 (101 + t194)))) (fun _ hk => hk.2) (.int .i64 t197)) (fun _ hk => hk.2) (.int .i64 t198)) (fun _ hk => hk.2) (.int .i64 t199)) (fun _ hk => hk.2) (.slice Ao54 x203006_1.length co54)) (fun _ hk => hk.2) (.slice Ao55 x203007_2.length co55)) (fun _ hk => hk.1.1.1)), (rM (Kd.R_far (p := ⟨gb184, 7, none⟩) (Kd.R_far (p := ⟨gb184, 6, none⟩) (Kd.R_far (p := ⟨gb184, 5, none⟩) (Kd.R_far (p := ⟨gb184, 4, none⟩) (Kd.R_far (p := ⟨gb184, 3, none⟩) (Kd.R_far (p := ⟨gb184, 2, none⟩) (Kd.R_far (p := ⟨gb184, 1, none⟩) (Kd.R_far (p := ⟨gb184, 0, none⟩) (Kd.R_far (p := ⟨gb202, 0, none⟩) (Kd.R_types (Kd.R_types HO_203007.out BK202.out (by decide)) BK184.out (by decide)) (fun _ hk => hk.1.2) (.int .i64 t230)) (fun _ hk => hk.2) (.int .i64 t230)) (fun _ hk => hk.2) (.int .i64 t191)) (fun _ hk => hk.2) (.int .i64 (wrap64 (101 + t194)))) (fun _ hk => hk.2) (.int .i64 t197)) (fun _ hk => hk.2) (.int .i64 t198)) (fun _ hk => hk.2) (.int .i64 t199)) (fun _ hk => hk.2) (.slice Ao54 x203006_1.length co54)) (fun _ hk => hk.2) (.slice Ao55 x203007_2.length co55)) (fun _ hk => hk.1.1.1)), IsS79.qHI0, IsS79.bHI0, kK⟩
  rw [if_neg c41] at H
  have c41b0 : (t224 == 0) = false := beq_eq_false_iff_ne.mpr c41
  have c41b1 : (t224 != 0) = true := bne_iff_ne.mpr c41
  by_cases c56 : t224 = 1
  ·rw [if_pos c56] at H
   have c56b0 : (t224 == 1) = true := beq_iff_eq.mpr c56
   have c56b1 : (t224 != 1) = false := bne_eq_false_iff_eq.mpr c56
   clear c56
   obtain ⟨y233, hy233⟩ : ∃ y_ : List Int, y_ = (([(-1), 3, 9, 13] : List Int)) := ⟨_, rfl⟩
   replace H : ((spec_l1PickInt.f s0_0 t225 t226 y233).bind fun bt236 => (some (t185, bt236.1, (wrap64 (101 + t194)), t197, t198, t199, x203006_1, x203007_2, bt236.2.1, bt236.2.2))) = some (r1, r2, r3, r4, r5, r6, r7, r8, r9, r10) := by first | (rw [hy233]; with_reducible exact H) | (have H2_ := (Option.bind_some _ _).symm.trans H; rw [hy233]; with_reducible exact H2_) | (have H2_ := (Option.bind_some _ _).symm.trans H; with_reducible exact H2_) | with_reducible exact H | (rw [hy233]; exact H) | exact H
   have Ny233 := Aside0.mk hy233
   clear hy233
   obtain ⟨⟨t236, t237, t238⟩, A57, H⟩ := oB H
   dsimp only at H
   simp only [Option.some.injEq, Prod.mk.injEq] at H
   obtain ⟨rfl, rfl, rfl, rfl, rfl, rfl, rfl, rfl, rfl, rfl⟩ := H
   go_wp2_with (first | ((with_reducible refine gC 52 rfl ?_); refine gL (some 44) Try.func52 #[.pointer (some ⟨g, 0, none⟩), .int .i64 10] ?_; (with_reducible refine (spec_l1Once.calls g s0_0 x1001_2 x1002_2 10 true t222 t223 w0 _ ?side1 ?side2 A38.out).mono ?_); (case side1 => exact IsS79.qHI0); (case side2 => exact IsS79.bHI0); rintro e w58 ⟨rfl, hi, hb, hk⟩; refine ⟨_, rfl, ?_⟩; have n_ := aT (IsS79.rK hk (kR HO_203006.out) (show IsS79 w0 _ g s0_0 x1001_2 x1002_2 from IsS79.qHI0)) (aT (IsS79.rK hk (kR HO_203007.out) (show IsS79 w0 _ g s0_0 x1001_2 x1002_2 from IsS79.qHI0)) (aT (kW hk BK184 NB184_0) (aT (kW hk BK202 NB202_0) (aT (KeepBut.trans kK hk (.inl rfl)) (aT (hb) (aM (hi))))))); clear HO_203006 HO_203007 BK184 BK202 HK HB HI0; obtain ⟨HO_203006, HO_203007, BK184, BK202, HK, HB, HI0⟩ := n_; (try clear hb); (try clear hk); (try clear hi)) | ((with_reducible refine gC 50 rfl ?_); refine gL (some 46) Try.func50 #[.pointer (some ⟨g, 0, none⟩), .int .i64 6] ?_; (with_reducible refine (spec_l1Below.calls g s0_0 t222 t223 6 t224 t225 t226 w0 _ ?side1 ?side2 A40.out).mono ?_); (case side1 => exact IsS79.qHI0); (case side2 => exact IsS79.bHI0); rintro e w59 ⟨rfl, hi, hb, hk⟩; refine ⟨_, rfl, ?_⟩; have n_ := aT (IsS79.rK hk (kR HO_203006.out) (show IsS79 w0 _ g s0_0 t222 t223 from IsS79.qHI0)) (aT (IsS79.rK hk (kR HO_203007.out) (show IsS79 w0 _ g s0_0 t222 t223 from IsS79.qHI0)) (aT (kW hk BK184 NB184_0) (aT (kW hk BK202 NB202_0) (aT (KeepBut.trans kK hk (.inl rfl)) (aT (hb) (aM (hi))))))); clear HO_203006 HO_203007 BK184 BK202 HK HB HI0; obtain ⟨HO_203006, HO_203007, BK184, BK202, HK, HB, HI0⟩ := n_; (try clear hb); (try clear hk); (try clear hi)) | ((with_reducible refine gate_dst (N := 61) rfl ?_); refine Kd.R_lit (Kd.int .i64) _ 3 ?hg (N := 61) ?hd (xs := ([(-1), 3, 9, 13] : List Int)) (inner := [.int .i64 (-1), .int .i64 3, .int .i64 9, .int .i64 13]) (ok := fun _ => True) (okp := fun _ => True) ?hr ?hp (fun _ hk => hk) trivial (Below.refl _ _) (Nat.le_refl _) (by simp) ?_; (case hd => rfl); (case hg => rfl); (case hr => first | (go_simp; done) | (go_simp; rfl)); (case hp => exact (Reps.one (show Kd.M (Kd.int .i64) _ _ _ (-1) [.int .i64 (-1)] from rfl) (Reps.one (show Kd.M (Kd.int .i64) _ _ _ 3 [.int .i64 3] from rfl) (Reps.one (show Kd.M (Kd.int .i64) _ _ _ 9 [.int .i64 9] from rfl) (Reps.one (show Kd.M (Kd.int .i64) _ _ _ 13 [.int .i64 13] from rfl) (Reps.none _ _)))))); intro v234 w60 ho61 hb hg_ hnew_; clear hg_ hnew_; (first | rw [← Ny233.out] at ho61 | (simp only [Int.reduceToNat] at ho61; rw [← Ny233.out] at ho61)); have n_ := aT (Kd.R_elder' (kR HO_203006.out) (Kd.R_base ho61) hb) (aT (Kd.R_elder' (kR HO_203007.out) (Kd.R_base ho61) hb) (aT (Kd.R_lower (Kd.R_new' (Kd.R_new' ho61 (Kd.R_lt (kR HO_203006.out))) (Kd.R_lt (kR HO_203007.out))) kL) (aT (bB BK184 hb) (aT (bB BK202 hb) (aT (IsS79.below IsS79.qHI0 hb) (aT (KeepBut.trans kK (KeepBut.of_below hb g none) (.inl rfl)) (aM (below_step IsS79.bHI0 hb)))))))); clear HO_203006 HO_203007 BK184 BK202 HI0 HK HB; obtain ⟨HO_203006, HO_203007, HO235, BK184, BK202, HI0, HK, HB⟩ := n_; clear hb ho61; obtain ⟨Ao62, co62, eo62⟩ := Kd.R_slice HO235.out; subst eo62) | ((with_reducible refine gC 49 rfl ?_); refine gL (some 62) Try.func49 #[.pointer (some ⟨g, 0, none⟩), .slice Ao62 y233.length co62] ?_; (with_reducible refine (spec_l1PickInt.calls g s0_0 t225 t226 _ _ y233 t236 t237 t238 w0 _ ?side1 ?side2 ?side3 ?side4 ?side5 A57.out).mono ?_); (case side1 => exact IsS79.qHI0); (case side2 => exact IsS79.bHI0); (case side3 => exact cA ((Kd.R_reads' HO235.out).2.2)); (case side4 => exact (Kd.R_reads' HO235.out).2.1); (case side5 => exact far_slice (IsS79.own_ne HI0.out HO235.out (by decide))); rintro e w63 ⟨rfl, hi, hb, hk⟩; refine ⟨_, rfl, ?_⟩; have n_ := aT (IsS79.rK hk (kR HO_203006.out) (show IsS79 w0 _ g s0_0 t225 t226 from IsS79.qHI0)) (aT (IsS79.rK hk (kR HO_203007.out) (show IsS79 w0 _ g s0_0 t225 t226 from IsS79.qHI0)) (aT (kW hk BK184 NB184_0) (aT (kW hk BK202 NB202_0) (aT (IsS79.rK hk (kR HO235.out) (show IsS79 w0 _ g s0_0 t225 t226 from IsS79.qHI0)) (aT (KeepBut.trans kK hk (.inl rfl)) (aT (hb) (aM (hi)))))))); clear HO_203006 HO_203007 BK184 BK202 HO235 HK HB HI0; obtain ⟨HO_203006, HO_203007, BK184, BK202, HO235, HK, HB, HI0⟩ := n_; (try clear hb); (try clear hk); (try clear hi); have hnb64 := NB202_184.out; have hnc64 := NB184_202.out; have hnb65 := NB202_0.out; have hnc65 := NB0_202.out; obtain ⟨⟨hcz66_0, hcz66_1, hcz66_2, hcz66_3, hcz66_4, hcz66_5, hcz66_6, hcz66_7⟩, hfz66_0, hfz66_1, hfz66_2, hfz66_3, hfz66_4, hfz66_5, hfz66_6, hfz66_7⟩ := cF8 BK202; have hnb67 := NB184_0.out; have hnc67 := NB0_184.out; obtain ⟨⟨hcz68_0, hcz68_1, hcz68_2, hcz68_3, hcz68_4, hcz68_5, hcz68_6, hcz68_7⟩, hfz68_0, hfz68_1, hfz68_2, hfz68_3, hfz68_4, hfz68_5, hfz68_6, hfz68_7⟩ := cF8 BK184; obtain ⟨Ao69, co69, eo69⟩ := Kd.R_slice HO_203006.out; subst eo69; obtain ⟨Ao70, co70, eo70⟩ := Kd.R_slice HO_203007.out; subst eo70))
   refine bodyPost_ret (results_cell_row rfl _ _ gb184 28 #[.int .i64 t185, .int .i64 t236, .int .i64 (wrap64 (101 + t194)), .int .i64 t197, .int .i64 t198, .int .i64 t199, .slice Ao69 x203006_1.length co69, .slice Ao70 x203007_2.length co70] (0, 0) _ rfl (bQ BK184) Try.underlying28 rfl (by kernel_rfl)) rfl ?_
   exact ⟨_, _, eE, (rM (Kd.R_far (p := ⟨gb184, 7, none⟩) (Kd.R_far (p := ⟨gb184, 6, none⟩) (Kd.R_far (p := ⟨gb184, 5, none⟩) (Kd.R_far (p := ⟨gb184, 4, none⟩) (Kd.R_far (p := ⟨gb184, 3, none⟩) (Kd.R_far (p := ⟨gb184, 2, none⟩) (Kd.R_far (p := ⟨gb184, 1, none⟩) (Kd.R_far (p := ⟨gb184, 0, none⟩) (Kd.R_far (p := ⟨gb202, 1, none⟩) (Kd.R_types (Kd.R_types HO_203006.out BK202.out (by decide)) BK184.out (by decide)) (fun _ hk => hk.1.2) (.int .i64 t236)) (fun _ hk => hk.2) (.int .i64 t185)) (fun _ hk => hk.2) (.int .i64 t236)) (fun _ hk => hk.2) (.int .i64 (wrap64 (101 + t194)))) (fun _ hk => hk.2) (.int .i64 t197)) (fun _ hk => hk.2) (.int .i64 t198)) (fun _ hk => hk.2) (.int .i64 t199)) (fun _ hk => hk.2) (.slice Ao69 x203006_1.length co69)) (fun _ hk => hk.2) (.slice Ao70 x203007_2.length co70)) (fun _ hk => hk.1.1.1)), (rM (Kd.R_far (p := ⟨gb184, 7, none⟩) (Kd.R_far (p := ⟨gb184, 6, none⟩) (Kd.R_far (p := ⟨gb184, 5, none⟩) (Kd.R_far (p := ⟨gb184, 4, none⟩) (Kd.R_far (p := ⟨gb184, 3, none⟩) (Kd.R_far (p := ⟨gb184, 2, none⟩) (Kd.R_far (p := ⟨gb184, 1, none⟩) (Kd.R_far (p := ⟨gb184, 0, none⟩) (Kd.R_far (p := ⟨gb202, 1, none⟩) (Kd.R_types (Kd.R_types HO_203007.out BK202.out (by decide)) BK184.out (by decide)) (fun _ hk => hk.1.2) (.int .i64 t236)) (fun _ hk => hk.2) (.int .i64 t185)) (fun _ hk => hk.2) (.int .i64 t236)) (fun _ hk => hk.2) (.int .i64 (wrap64 (101 + t194)))) (fun _ hk => hk.2) (.int .i64 t197)) (fun _ hk => hk.2) (.int .i64 t198)) (fun _ hk => hk.2) (.int .i64 t199)) (fun _ hk => hk.2) (.slice Ao69 x203006_1.length co69)) (fun _ hk => hk.2) (.slice Ao70 x203007_2.length co70)) (fun _ hk => hk.1.1.1)), IsS79.qHI0, IsS79.bHI0, kK⟩
  rw [if_neg c56] at H
  have c56b0 : (t224 == 1) = false := beq_eq_false_iff_ne.mpr c56
  have c56b1 : (t224 != 1) = true := bne_iff_ne.mpr c56
  by_cases c71 : t224 = 2
  ·rw [if_pos c71] at H
   have c71b0 : (t224 == 2) = true := beq_iff_eq.mpr c71
   have c71b1 : (t224 != 2) = false := bne_eq_false_iff_eq.mpr c71
   clear c71
   obtain ⟨y239, hy239⟩ : ∃ y_ : List Int, y_ = (([0, 1000000, 1000001] : List Int)) := ⟨_, rfl⟩
   replace H : ((spec_l1PickInt.f s0_0 t225 t226 y239).bind fun bt242 => (some (t185, t191, bt242.1, t197, t198, t199, x203006_1, x203007_2, bt242.2.1, bt242.2.2))) = some (r1, r2, r3, r4, r5, r6, r7, r8, r9, r10) := by first | (rw [hy239]; with_reducible exact H) | (have H2_ := (Option.bind_some _ _).symm.trans H; rw [hy239]; with_reducible exact H2_) | (have H2_ := (Option.bind_some _ _).symm.trans H; with_reducible exact H2_) | with_reducible exact H | (rw [hy239]; exact H) | exact H
   have Ny239 := Aside0.mk hy239
   clear hy239
   obtain ⟨⟨t242, t243, t244⟩, A72, H⟩ := oB H
   dsimp only at H
   simp only [Option.some.injEq, Prod.mk.injEq] at H
   obtain ⟨rfl, rfl, rfl, rfl, rfl, rfl, rfl, rfl, rfl, rfl⟩ := H
   go_wp2_with (first | ((with_reducible refine gC 52 rfl ?_); refine gL (some 44) Try.func52 #[.pointer (some ⟨g, 0, none⟩), .int .i64 10] ?_; (with_reducible refine (spec_l1Once.calls g s0_0 x1001_2 x1002_2 10 true t222 t223 w0 _ ?side1 ?side2 A38.out).mono ?_); (case side1 => exact IsS79.qHI0); (case side2 => exact IsS79.bHI0); rintro e w73 ⟨rfl, hi, hb, hk⟩; refine ⟨_, rfl, ?_⟩; have n_ := aT (IsS79.rK hk (kR HO_203006.out) (show IsS79 w0 _ g s0_0 x1001_2 x1002_2 from IsS79.qHI0)) (aT (IsS79.rK hk (kR HO_203007.out) (show IsS79 w0 _ g s0_0 x1001_2 x1002_2 from IsS79.qHI0)) (aT (kW hk BK184 NB184_0) (aT (kW hk BK202 NB202_0) (aT (KeepBut.trans kK hk (.inl rfl)) (aT (hb) (aM (hi))))))); clear HO_203006 HO_203007 BK184 BK202 HK HB HI0; obtain ⟨HO_203006, HO_203007, BK184, BK202, HK, HB, HI0⟩ := n_; (try clear hb); (try clear hk); (try clear hi)) | ((with_reducible refine gC 50 rfl ?_); refine gL (some 46) Try.func50 #[.pointer (some ⟨g, 0, none⟩), .int .i64 6] ?_; (with_reducible refine (spec_l1Below.calls g s0_0 t222 t223 6 t224 t225 t226 w0 _ ?side1 ?side2 A40.out).mono ?_); (case side1 => exact IsS79.qHI0); (case side2 => exact IsS79.bHI0); rintro e w74 ⟨rfl, hi, hb, hk⟩; refine ⟨_, rfl, ?_⟩; have n_ := aT (IsS79.rK hk (kR HO_203006.out) (show IsS79 w0 _ g s0_0 t222 t223 from IsS79.qHI0)) (aT (IsS79.rK hk (kR HO_203007.out) (show IsS79 w0 _ g s0_0 t222 t223 from IsS79.qHI0)) (aT (kW hk BK184 NB184_0) (aT (kW hk BK202 NB202_0) (aT (KeepBut.trans kK hk (.inl rfl)) (aT (hb) (aM (hi))))))); clear HO_203006 HO_203007 BK184 BK202 HK HB HI0; obtain ⟨HO_203006, HO_203007, BK184, BK202, HK, HB, HI0⟩ := n_; (try clear hb); (try clear hk); (try clear hi)) | ((with_reducible refine gate_dst (N := 67) rfl ?_); refine Kd.R_lit (Kd.int .i64) _ 3 ?hg (N := 67) ?hd (xs := ([0, 1000000, 1000001] : List Int)) (inner := [.int .i64 0, .int .i64 1000000, .int .i64 1000001]) (ok := fun _ => True) (okp := fun _ => True) ?hr ?hp (fun _ hk => hk) trivial (Below.refl _ _) (Nat.le_refl _) (by simp) ?_; (case hd => rfl); (case hg => rfl); (case hr => first | (go_simp; done) | (go_simp; rfl)); (case hp => exact (Reps.one (show Kd.M (Kd.int .i64) _ _ _ 0 [.int .i64 0] from rfl) (Reps.one (show Kd.M (Kd.int .i64) _ _ _ 1000000 [.int .i64 1000000] from rfl) (Reps.one (show Kd.M (Kd.int .i64) _ _ _ 1000001 [.int .i64 1000001] from rfl) (Reps.none _ _))))); intro v240 w75 ho76 hb hg_ hnew_; clear hg_ hnew_; (first | rw [← Ny239.out] at ho76 | (simp only [Int.reduceToNat] at ho76; rw [← Ny239.out] at ho76)); have n_ := aT (Kd.R_elder' (kR HO_203006.out) (Kd.R_base ho76) hb) (aT (Kd.R_elder' (kR HO_203007.out) (Kd.R_base ho76) hb) (aT (Kd.R_lower (Kd.R_new' (Kd.R_new' ho76 (Kd.R_lt (kR HO_203006.out))) (Kd.R_lt (kR HO_203007.out))) kL) (aT (bB BK184 hb) (aT (bB BK202 hb) (aT (IsS79.below IsS79.qHI0 hb) (aT (KeepBut.trans kK (KeepBut.of_below hb g none) (.inl rfl)) (aM (below_step IsS79.bHI0 hb)))))))); clear HO_203006 HO_203007 BK184 BK202 HI0 HK HB; obtain ⟨HO_203006, HO_203007, HO241, BK184, BK202, HI0, HK, HB⟩ := n_; clear hb ho76; obtain ⟨Ao77, co77, eo77⟩ := Kd.R_slice HO241.out; subst eo77) | ((with_reducible refine gC 49 rfl ?_); refine gL (some 68) Try.func49 #[.pointer (some ⟨g, 0, none⟩), .slice Ao77 y239.length co77] ?_; (with_reducible refine (spec_l1PickInt.calls g s0_0 t225 t226 _ _ y239 t242 t243 t244 w0 _ ?side1 ?side2 ?side3 ?side4 ?side5 A72.out).mono ?_); (case side1 => exact IsS79.qHI0); (case side2 => exact IsS79.bHI0); (case side3 => exact cA ((Kd.R_reads' HO241.out).2.2)); (case side4 => exact (Kd.R_reads' HO241.out).2.1); (case side5 => exact far_slice (IsS79.own_ne HI0.out HO241.out (by decide))); rintro e w78 ⟨rfl, hi, hb, hk⟩; refine ⟨_, rfl, ?_⟩; have n_ := aT (IsS79.rK hk (kR HO_203006.out) (show IsS79 w0 _ g s0_0 t225 t226 from IsS79.qHI0)) (aT (IsS79.rK hk (kR HO_203007.out) (show IsS79 w0 _ g s0_0 t225 t226 from IsS79.qHI0)) (aT (kW hk BK184 NB184_0) (aT (kW hk BK202 NB202_0) (aT (IsS79.rK hk (kR HO241.out) (show IsS79 w0 _ g s0_0 t225 t226 from IsS79.qHI0)) (aT (KeepBut.trans kK hk (.inl rfl)) (aT (hb) (aM (hi)))))))); clear HO_203006 HO_203007 BK184 BK202 HO241 HK HB HI0; obtain ⟨HO_203006, HO_203007, BK184, BK202, HO241, HK, HB, HI0⟩ := n_; (try clear hb); (try clear hk); (try clear hi); have hnb79 := NB202_184.out; have hnc79 := NB184_202.out; have hnb80 := NB202_0.out; have hnc80 := NB0_202.out; obtain ⟨⟨hcz81_0, hcz81_1, hcz81_2, hcz81_3, hcz81_4, hcz81_5, hcz81_6, hcz81_7⟩, hfz81_0, hfz81_1, hfz81_2, hfz81_3, hfz81_4, hfz81_5, hfz81_6, hfz81_7⟩ := cF8 BK202; have hnb82 := NB184_0.out; have hnc82 := NB0_184.out; obtain ⟨⟨hcz83_0, hcz83_1, hcz83_2, hcz83_3, hcz83_4, hcz83_5, hcz83_6, hcz83_7⟩, hfz83_0, hfz83_1, hfz83_2, hfz83_3, hfz83_4, hfz83_5, hfz83_6, hfz83_7⟩ := cF8 BK184; obtain ⟨Ao84, co84, eo84⟩ := Kd.R_slice HO_203006.out; subst eo84; obtain ⟨Ao85, co85, eo85⟩ := Kd.R_slice HO_203007.out; subst eo85))
   refine bodyPost_ret (results_cell_row rfl _ _ gb184 28 #[.int .i64 t185, .int .i64 t191, .int .i64 t242, .int .i64 t197, .int .i64 t198, .int .i64 t199, .slice Ao84 x203006_1.length co84, .slice Ao85 x203007_2.length co85] (0, 0) _ rfl (bQ BK184) Try.underlying28 rfl (by kernel_rfl)) rfl ?_
   exact ⟨_, _, eE, (rM (Kd.R_far (p := ⟨gb184, 7, none⟩) (Kd.R_far (p := ⟨gb184, 6, none⟩) (Kd.R_far (p := ⟨gb184, 5, none⟩) (Kd.R_far (p := ⟨gb184, 4, none⟩) (Kd.R_far (p := ⟨gb184, 3, none⟩) (Kd.R_far (p := ⟨gb184, 2, none⟩) (Kd.R_far (p := ⟨gb184, 1, none⟩) (Kd.R_far (p := ⟨gb184, 0, none⟩) (Kd.R_far (p := ⟨gb202, 2, none⟩) (Kd.R_types (Kd.R_types HO_203006.out BK202.out (by decide)) BK184.out (by decide)) (fun _ hk => hk.1.2) (.int .i64 t242)) (fun _ hk => hk.2) (.int .i64 t185)) (fun _ hk => hk.2) (.int .i64 t191)) (fun _ hk => hk.2) (.int .i64 t242)) (fun _ hk => hk.2) (.int .i64 t197)) (fun _ hk => hk.2) (.int .i64 t198)) (fun _ hk => hk.2) (.int .i64 t199)) (fun _ hk => hk.2) (.slice Ao84 x203006_1.length co84)) (fun _ hk => hk.2) (.slice Ao85 x203007_2.length co85)) (fun _ hk => hk.1.1.1)), (rM (Kd.R_far (p := ⟨gb184, 7, none⟩) (Kd.R_far (p := ⟨gb184, 6, none⟩) (Kd.R_far (p := ⟨gb184, 5, none⟩) (Kd.R_far (p := ⟨gb184, 4, none⟩) (Kd.R_far (p := ⟨gb184, 3, none⟩) (Kd.R_far (p := ⟨gb184, 2, none⟩) (Kd.R_far (p := ⟨gb184, 1, none⟩) (Kd.R_far (p := ⟨gb184, 0, none⟩) (Kd.R_far (p := ⟨gb202, 2, none⟩) (Kd.R_types (Kd.R_types HO_203007.out BK202.out (by decide)) BK184.out (by decide)) (fun _ hk => hk.1.2) (.int .i64 t242)) (fun _ hk => hk.2) (.int .i64 t185)) (fun _ hk => hk.2) (.int .i64 t191)) (fun _ hk => hk.2) (.int .i64 t242)) (fun _ hk => hk.2) (.int .i64 t197)) (fun _ hk => hk.2) (.int .i64 t198)) (fun _ hk => hk.2) (.int .i64 t199)) (fun _ hk => hk.2) (.slice Ao84 x203006_1.length co84)) (fun _ hk => hk.2) (.slice Ao85 x203007_2.length co85)) (fun _ hk => hk.1.1.1)), IsS79.qHI0, IsS79.bHI0, kK⟩
  rw [if_neg c71] at H
  have c71b0 : (t224 == 2) = false := beq_eq_false_iff_ne.mpr c71
  have c71b1 : (t224 != 2) = true := bne_iff_ne.mpr c71
  by_cases c86 : t224 = 3
  ·rw [if_pos c86] at H
   have c86b0 : (t224 == 3) = true := beq_iff_eq.mpr c86
   have c86b1 : (t224 != 3) = false := bne_eq_false_iff_eq.mpr c86
   clear c86
   obtain ⟨⟨t245, t246, t247, t248, t249⟩, A87, H⟩ := oB H
   dsimp only at H
   simp only [Option.some.injEq, Prod.mk.injEq] at H
   obtain ⟨rfl, rfl, rfl, rfl, rfl, rfl, rfl, rfl, rfl, rfl⟩ := H
   go_wp2_with (first | ((with_reducible refine gC 52 rfl ?_); refine gL (some 44) Try.func52 #[.pointer (some ⟨g, 0, none⟩), .int .i64 10] ?_; (with_reducible refine (spec_l1Once.calls g s0_0 x1001_2 x1002_2 10 true t222 t223 w0 _ ?side1 ?side2 A38.out).mono ?_); (case side1 => exact IsS79.qHI0); (case side2 => exact IsS79.bHI0); rintro e w88 ⟨rfl, hi, hb, hk⟩; refine ⟨_, rfl, ?_⟩; have n_ := aT (IsS79.rK hk (kR HO_203006.out) (show IsS79 w0 _ g s0_0 x1001_2 x1002_2 from IsS79.qHI0)) (aT (IsS79.rK hk (kR HO_203007.out) (show IsS79 w0 _ g s0_0 x1001_2 x1002_2 from IsS79.qHI0)) (aT (kW hk BK184 NB184_0) (aT (kW hk BK202 NB202_0) (aT (KeepBut.trans kK hk (.inl rfl)) (aT (hb) (aM (hi))))))); clear HO_203006 HO_203007 BK184 BK202 HK HB HI0; obtain ⟨HO_203006, HO_203007, BK184, BK202, HK, HB, HI0⟩ := n_; (try clear hb); (try clear hk); (try clear hi)) | ((with_reducible refine gC 50 rfl ?_); refine gL (some 46) Try.func50 #[.pointer (some ⟨g, 0, none⟩), .int .i64 6] ?_; (with_reducible refine (spec_l1Below.calls g s0_0 t222 t223 6 t224 t225 t226 w0 _ ?side1 ?side2 A40.out).mono ?_); (case side1 => exact IsS79.qHI0); (case side2 => exact IsS79.bHI0); rintro e w89 ⟨rfl, hi, hb, hk⟩; refine ⟨_, rfl, ?_⟩; have n_ := aT (IsS79.rK hk (kR HO_203006.out) (show IsS79 w0 _ g s0_0 t222 t223 from IsS79.qHI0)) (aT (IsS79.rK hk (kR HO_203007.out) (show IsS79 w0 _ g s0_0 t222 t223 from IsS79.qHI0)) (aT (kW hk BK184 NB184_0) (aT (kW hk BK202 NB202_0) (aT (KeepBut.trans kK hk (.inl rfl)) (aT (hb) (aM (hi))))))); clear HO_203006 HO_203007 BK184 BK202 HK HB HI0; obtain ⟨HO_203006, HO_203007, BK184, BK202, HK, HB, HI0⟩ := n_; (try clear hb); (try clear hk); (try clear hi)) | ((with_reducible refine gC 46 rfl ?_); refine gL (some 73) Try.func46 #[.pointer (some ⟨g, 0, none⟩)] ?_; (with_reducible refine (spec_l4Any.calls g s0_0 t225 t226 t245 t246 t247 t248 t249 w0 _ ?side1 ?side2 A87.out).mono ?_); (case side1 => exact IsS79.qHI0); (case side2 => exact IsS79.bHI0); rintro e w90 ⟨rfl, hi, hb, hk⟩; refine ⟨_, rfl, ?_⟩; have n_ := aT (IsS79.rK hk (kR HO_203006.out) (show IsS79 w0 _ g s0_0 t225 t226 from IsS79.qHI0)) (aT (IsS79.rK hk (kR HO_203007.out) (show IsS79 w0 _ g s0_0 t225 t226 from IsS79.qHI0)) (aT (kW hk BK184 NB184_0) (aT (kW hk BK202 NB202_0) (aT (KeepBut.trans kK hk (.inl rfl)) (aT (hb) (aM (hi))))))); clear HO_203006 HO_203007 BK184 BK202 HK HB HI0; obtain ⟨HO_203006, HO_203007, BK184, BK202, HK, HB, HI0⟩ := n_; (try clear hb); (try clear hk); (try clear hi); have hnb91 := NB202_184.out; have hnc91 := NB184_202.out; have hnb92 := NB202_0.out; have hnc92 := NB0_202.out; obtain ⟨⟨hcz93_0, hcz93_1, hcz93_2, hcz93_3, hcz93_4, hcz93_5, hcz93_6, hcz93_7⟩, hfz93_0, hfz93_1, hfz93_2, hfz93_3, hfz93_4, hfz93_5, hfz93_6, hfz93_7⟩ := cF8 BK202; have hnb94 := NB184_0.out; have hnc94 := NB0_184.out; obtain ⟨⟨hcz95_0, hcz95_1, hcz95_2, hcz95_3, hcz95_4, hcz95_5, hcz95_6, hcz95_7⟩, hfz95_0, hfz95_1, hfz95_2, hfz95_3, hfz95_4, hfz95_5, hfz95_6, hfz95_7⟩ := cF8 BK184; obtain ⟨Ao96, co96, eo96⟩ := Kd.R_slice HO_203006.out; subst eo96; obtain ⟨Ao97, co97, eo97⟩ := Kd.R_slice HO_203007.out; subst eo97))
   refine bodyPost_ret (results_cell_row rfl _ _ gb184 28 #[.int .i64 t185, .int .i64 t191, .int .i64 (wrap64 (101 + t194)), .int .i64 t245, .int .i64 t246, .int .i64 t247, .slice Ao96 x203006_1.length co96, .slice Ao97 x203007_2.length co97] (0, 0) _ rfl (bQ BK184) Try.underlying28 rfl (by kernel_rfl)) rfl ?_
   exact ⟨_, _, eE, (rM (Kd.R_far (p := ⟨gb184, 7, none⟩) (Kd.R_far (p := ⟨gb184, 6, none⟩) (Kd.R_far (p := ⟨gb184, 5, none⟩) (Kd.R_far (p := ⟨gb184, 4, none⟩) (Kd.R_far (p := ⟨gb184, 3, none⟩) (Kd.R_far (p := ⟨gb184, 2, none⟩) (Kd.R_far (p := ⟨gb184, 1, none⟩) (Kd.R_far (p := ⟨gb184, 0, none⟩) (Kd.R_far (p := ⟨gb202, 5, none⟩) (Kd.R_far (p := ⟨gb202, 4, none⟩) (Kd.R_far (p := ⟨gb202, 3, none⟩) (Kd.R_types (Kd.R_types HO_203006.out BK202.out (by decide)) BK184.out (by decide)) (fun _ hk => hk.1.2) (.int .i64 t245)) (fun _ hk => hk.1.2) (.int .i64 t246)) (fun _ hk => hk.1.2) (.int .i64 t247)) (fun _ hk => hk.2) (.int .i64 t185)) (fun _ hk => hk.2) (.int .i64 t191)) (fun _ hk => hk.2) (.int .i64 (wrap64 (101 + t194)))) (fun _ hk => hk.2) (.int .i64 t245)) (fun _ hk => hk.2) (.int .i64 t246)) (fun _ hk => hk.2) (.int .i64 t247)) (fun _ hk => hk.2) (.slice Ao96 x203006_1.length co96)) (fun _ hk => hk.2) (.slice Ao97 x203007_2.length co97)) (fun _ hk => hk.1.1)), (rM (Kd.R_far (p := ⟨gb184, 7, none⟩) (Kd.R_far (p := ⟨gb184, 6, none⟩) (Kd.R_far (p := ⟨gb184, 5, none⟩) (Kd.R_far (p := ⟨gb184, 4, none⟩) (Kd.R_far (p := ⟨gb184, 3, none⟩) (Kd.R_far (p := ⟨gb184, 2, none⟩) (Kd.R_far (p := ⟨gb184, 1, none⟩) (Kd.R_far (p := ⟨gb184, 0, none⟩) (Kd.R_far (p := ⟨gb202, 5, none⟩) (Kd.R_far (p := ⟨gb202, 4, none⟩) (Kd.R_far (p := ⟨gb202, 3, none⟩) (Kd.R_types (Kd.R_types HO_203007.out BK202.out (by decide)) BK184.out (by decide)) (fun _ hk => hk.1.2) (.int .i64 t245)) (fun _ hk => hk.1.2) (.int .i64 t246)) (fun _ hk => hk.1.2) (.int .i64 t247)) (fun _ hk => hk.2) (.int .i64 t185)) (fun _ hk => hk.2) (.int .i64 t191)) (fun _ hk => hk.2) (.int .i64 (wrap64 (101 + t194)))) (fun _ hk => hk.2) (.int .i64 t245)) (fun _ hk => hk.2) (.int .i64 t246)) (fun _ hk => hk.2) (.int .i64 t247)) (fun _ hk => hk.2) (.slice Ao96 x203006_1.length co96)) (fun _ hk => hk.2) (.slice Ao97 x203007_2.length co97)) (fun _ hk => hk.1.1)), IsS79.qHI0, IsS79.bHI0, kK⟩
  rw [if_neg c86] at H
  have c86b0 : (t224 == 3) = false := beq_eq_false_iff_ne.mpr c86
  have c86b1 : (t224 != 3) = true := bne_iff_ne.mpr c86
  by_cases c98 : t224 = 4
  ·rw [if_pos c98] at H
   have c98b0 : (t224 == 4) = true := beq_iff_eq.mpr c98
   have c98b1 : (t224 != 4) = false := bne_eq_false_iff_eq.mpr c98
   clear c98
   obtain ⟨y250, hy250⟩ : ∃ y_ : List Int, y_ = (([0, 1, 2, 3] : List Int)) := ⟨_, rfl⟩
   replace H : (if x203006_1.length + y250.length < 17592186044416 then (some (t185, t191, (wrap64 (101 + t194)), t197, t198, t199, (x203006_1 ++ y250), x203007_2, t225, t226)) else (none)) = some (r1, r2, r3, r4, r5, r6, r7, r8, r9, r10) := by first | (rw [hy250]; with_reducible exact H) | (have H2_ := (Option.bind_some _ _).symm.trans H; rw [hy250]; with_reducible exact H2_) | (have H2_ := (Option.bind_some _ _).symm.trans H; with_reducible exact H2_) | with_reducible exact H | (rw [hy250]; exact H) | exact H
   have Ny250 := Aside0.mk hy250
   clear hy250
   by_cases c99 : x203006_1.length + y250.length < 17592186044416
   ·rw [if_pos c99] at H
    have LMc99 := Aside0.mk c99
    clear c99
    obtain ⟨y253, hy253⟩ : ∃ y_ : List Int, y_ = (x203006_1 ++ y250) := ⟨_, rfl⟩
    replace H : (some (t185, t191, (wrap64 (101 + t194)), t197, t198, t199, y253, x203007_2, t225, t226)) = some (r1, r2, r3, r4, r5, r6, r7, r8, r9, r10) := by first | (rw [hy253]; with_reducible exact H) | (have H2_ := (Option.bind_some _ _).symm.trans H; rw [hy253]; with_reducible exact H2_) | (have H2_ := (Option.bind_some _ _).symm.trans H; with_reducible exact H2_) | with_reducible exact H | (rw [hy253]; exact H) | exact H
    have Ny253 := Aside0.mk hy253
    clear hy253
    simp only [Option.some.injEq, Prod.mk.injEq] at H
    obtain ⟨rfl, rfl, rfl, rfl, rfl, rfl, rfl, rfl, rfl, rfl⟩ := H
    go_wp2_with (first | ((with_reducible refine gC 52 rfl ?_); refine gL (some 44) Try.func52 #[.pointer (some ⟨g, 0, none⟩), .int .i64 10] ?_; (with_reducible refine (spec_l1Once.calls g s0_0 x1001_2 x1002_2 10 true t222 t223 w0 _ ?side1 ?side2 A38.out).mono ?_); (case side1 => exact IsS79.qHI0); (case side2 => exact IsS79.bHI0); rintro e w100 ⟨rfl, hi, hb, hk⟩; refine ⟨_, rfl, ?_⟩; have n_ := aT (IsS79.rK hk (kR HO_203006.out) (show IsS79 w0 _ g s0_0 x1001_2 x1002_2 from IsS79.qHI0)) (aT (IsS79.rK hk (kR HO_203007.out) (show IsS79 w0 _ g s0_0 x1001_2 x1002_2 from IsS79.qHI0)) (aT (kW hk BK184 NB184_0) (aT (kW hk BK202 NB202_0) (aT (KeepBut.trans kK hk (.inl rfl)) (aT (hb) (aM (hi))))))); clear HO_203006 HO_203007 BK184 BK202 HK HB HI0; obtain ⟨HO_203006, HO_203007, BK184, BK202, HK, HB, HI0⟩ := n_; (try clear hb); (try clear hk); (try clear hi)) | ((with_reducible refine gC 50 rfl ?_); refine gL (some 46) Try.func50 #[.pointer (some ⟨g, 0, none⟩), .int .i64 6] ?_; (with_reducible refine (spec_l1Below.calls g s0_0 t222 t223 6 t224 t225 t226 w0 _ ?side1 ?side2 A40.out).mono ?_); (case side1 => exact IsS79.qHI0); (case side2 => exact IsS79.bHI0); rintro e w101 ⟨rfl, hi, hb, hk⟩; refine ⟨_, rfl, ?_⟩; have n_ := aT (IsS79.rK hk (kR HO_203006.out) (show IsS79 w0 _ g s0_0 t222 t223 from IsS79.qHI0)) (aT (IsS79.rK hk (kR HO_203007.out) (show IsS79 w0 _ g s0_0 t222 t223 from IsS79.qHI0)) (aT (kW hk BK184 NB184_0) (aT (kW hk BK202 NB202_0) (aT (KeepBut.trans kK hk (.inl rfl)) (aT (hb) (aM (hi))))))); clear HO_203006 HO_203007 BK184 BK202 HK HB HI0; obtain ⟨HO_203006, HO_203007, BK184, BK202, HK, HB, HI0⟩ := n_; (try clear hb); (try clear hk); (try clear hi); have hnb102 := NB202_184.out; have hnc102 := NB184_202.out; have hnb103 := NB202_0.out; have hnc103 := NB0_202.out; obtain ⟨⟨hcz104_0, hcz104_1, hcz104_2, hcz104_3, hcz104_4, hcz104_5, hcz104_6, hcz104_7⟩, hfz104_0, hfz104_1, hfz104_2, hfz104_3, hfz104_4, hfz104_5, hfz104_6, hfz104_7⟩ := cF8 BK202) | ((with_reducible refine gate_dst (N := 79) rfl ?_); refine Kd.R_lit (Kd.int .i64) _ 3 ?hg (N := 79) ?hd (xs := ([0, 1, 2, 3] : List Int)) (inner := [.int .i64 0, .int .i64 1, .int .i64 2, .int .i64 3]) (ok := fun _ => True) (okp := fun _ => True) ?hr ?hp (fun _ hk => hk) trivial (Below.refl _ _) (Nat.le_refl _) (by simp) ?_; (case hd => rfl); (case hg => rfl); (case hr => first | (go_simp; done) | (go_simp; rfl)); (case hp => exact (Reps.one (show Kd.M (Kd.int .i64) _ _ _ 0 [.int .i64 0] from rfl) (Reps.one (show Kd.M (Kd.int .i64) _ _ _ 1 [.int .i64 1] from rfl) (Reps.one (show Kd.M (Kd.int .i64) _ _ _ 2 [.int .i64 2] from rfl) (Reps.one (show Kd.M (Kd.int .i64) _ _ _ 3 [.int .i64 3] from rfl) (Reps.none _ _)))))); intro v251 w105 ho106 hb hg_ hnew_; clear hg_ hnew_; (first | rw [← Ny250.out] at ho106 | (simp only [Int.reduceToNat] at ho106; rw [← Ny250.out] at ho106)); have n_ := aT (Kd.R_elder' (kR HO_203006.out) (Kd.R_base ho106) hb) (aT (Kd.R_elder' (kR HO_203007.out) (Kd.R_base ho106) hb) (aT (Kd.R_lower (Kd.R_new' (Kd.R_new' ho106 (Kd.R_lt (kR HO_203006.out))) (Kd.R_lt (kR HO_203007.out))) kL) (aT (bB BK184 hb) (aT (bB BK202 hb) (aT (IsS79.below IsS79.qHI0 hb) (aT (KeepBut.trans kK (KeepBut.of_below hb g none) (.inl rfl)) (aM (below_step IsS79.bHI0 hb)))))))); clear HO_203006 HO_203007 BK184 BK202 HI0 HK HB; obtain ⟨HO_203006, HO_203007, HO252, BK184, BK202, HI0, HK, HB⟩ := n_; clear hb ho106; obtain ⟨Ao108, co108, eo108⟩ := Kd.R_slice HO252.out; subst eo108) | ((with_reducible refine gate_builtin (b := .append) (xs := #[.tmp 78, .tmp 79]) rfl ?_); at_builtin; refine Kd.R_append_rows (Kd.int .i64) w.heap.size rfl (.tmp 78) (.tmp 79) 26 3 (.int .i64 0) 8 rfl Try.underlying26 info3 rfl (by decide) (by omega) u203006 x203006_1 y250 _ _ _ (fun k_ => some k_ ≠ (u203007 : Value).ownBlock ∧ some k_ ≠ (.slice Ao108 y250.length co108 : Value).ownBlock) (fun _ => False) rfl rfl ?aO ?aR (fun _ _ h => h) (fun _ h => h.elim) ?aF (Below.refl _ _) ?aS ?aL ?_; (case aR => repeat (first | exact (Kd.R_reads' HO252.out).2.2 | (with_reducible refine Kd.C_alloc ?_ _) | (with_reducible refine Kd.C_drewN ?_ _) | (with_reducible refine Kd.C_drew ?_))); (case aF => exact (fun k_ hk => ⟨Kd.fresh' (Kd.R_lt (kR HO_203007.out)) k_ hk, Kd.fresh' (Kd.R_lt (kR HO252.out)) k_ hk⟩)); (case aO => exact (kR HO_203006.out)); (case aS => exact kL); (case aL => have := LMc99.out; omega); intro v254 w107 ho hb hg hat; rw [← Ny253.out] at ho; have n_ := aT (Kd.R_after (ok := (fun k_ => some k_ ≠ (.slice Ao108 y250.length co108 : Value).ownBlock)) (rM HO_203007.out (fun _ hk => ⟨hk.2, hk.1⟩)) hg hat) (aT (blk_grown (g := gb184) (o := .cells #[.int .i64 0, .int .i64 0, .int .i64 0, .int .i64 0, .int .i64 0, .int .i64 0, .slice none 0 0, .slice none 0 0] 28 (0, 0)) (kB BK184.out) hg (Kd.R_ne HO_203006.out BK184.out (by decide))) (aT (blk_grown (g := gb202) (o := .cells #[.int .i64 t185, .int .i64 t191, .int .i64 (wrap64 (101 + t194)), .int .i64 t197, .int .i64 t198, .int .i64 t199, u203006, u203007] 28 (0, 0)) (kB BK202.out) hg (Kd.R_ne HO_203006.out BK202.out (by decide))) (aT (IsS79.grown IsS79.qHI0 hg (IsS79.own_ne HI0.out HO_203006.out (by decide))) (aT (Kd.R_after (ok := (fun k_ => some k_ ≠ (u203007 : Value).ownBlock)) (rM HO252.out (fun _ hk => ⟨hk.2, hk.1.2⟩)) hg hat) (aT (below_weaken IsS79.bHI0 HL.out hb) (aT (KeepBut.trans kK (KeepBut.of_grown hg g) (Kd.R_base2 HO_203006.out)) (aM (ho)))))))); clear HO_203007 BK184 BK202 HI0 HO252 HB HK HO_203006; obtain ⟨HO_203007, BK184, BK202, HI0, HO252, HB, HK, HO255⟩ := n_; clear ho hb hg hat; obtain ⟨Ao109, co109, eo109⟩ := Kd.R_slice HO255.out; subst eo109; obtain ⟨⟨hcz110_0, hcz110_1, hcz110_2, hcz110_3, hcz110_4, hcz110_5, hcz110_6, hcz110_7⟩, hfz110_0, hfz110_1, hfz110_2, hfz110_3, hfz110_4, hfz110_5, hfz110_6, hfz110_7⟩ := cF8 BK202; have hnb111 := NB184_0.out; have hnc111 := NB0_184.out; obtain ⟨⟨hcz112_0, hcz112_1, hcz112_2, hcz112_3, hcz112_4, hcz112_5, hcz112_6, hcz112_7⟩, hfz112_0, hfz112_1, hfz112_2, hfz112_3, hfz112_4, hfz112_5, hfz112_6, hfz112_7⟩ := cF8 BK184; obtain ⟨Ao113, co113, eo113⟩ := Kd.R_slice HO_203007.out; subst eo113))
    refine bodyPost_ret (results_cell_row rfl _ _ gb184 28 #[.int .i64 t185, .int .i64 t191, .int .i64 (wrap64 (101 + t194)), .int .i64 t197, .int .i64 t198, .int .i64 t199, .slice Ao109 y253.length co109, .slice Ao113 x203007_2.length co113] (0, 0) _ rfl (bQ BK184) Try.underlying28 rfl (by kernel_rfl)) rfl ?_
    exact ⟨_, _, eE, (rM (Kd.R_far (p := ⟨gb184, 7, none⟩) (Kd.R_far (p := ⟨gb184, 6, none⟩) (Kd.R_far (p := ⟨gb184, 5, none⟩) (Kd.R_far (p := ⟨gb184, 4, none⟩) (Kd.R_far (p := ⟨gb184, 3, none⟩) (Kd.R_far (p := ⟨gb184, 2, none⟩) (Kd.R_far (p := ⟨gb184, 1, none⟩) (Kd.R_far (p := ⟨gb184, 0, none⟩) (Kd.R_far (p := ⟨gb202, 6, none⟩) (Kd.R_types (Kd.R_types HO255.out BK202.out (by decide)) BK184.out (by decide)) (fun _ hk => hk.1.2) (.slice Ao109 y253.length co109)) (fun _ hk => hk.2) (.int .i64 t185)) (fun _ hk => hk.2) (.int .i64 t191)) (fun _ hk => hk.2) (.int .i64 (wrap64 (101 + t194)))) (fun _ hk => hk.2) (.int .i64 t197)) (fun _ hk => hk.2) (.int .i64 t198)) (fun _ hk => hk.2) (.int .i64 t199)) (fun _ hk => hk.2) (.slice Ao109 y253.length co109)) (fun _ hk => hk.2) (.slice Ao113 x203007_2.length co113)) (fun _ hk => hk.1.1.1)), (rM (Kd.R_far (p := ⟨gb184, 7, none⟩) (Kd.R_far (p := ⟨gb184, 6, none⟩) (Kd.R_far (p := ⟨gb184, 5, none⟩) (Kd.R_far (p := ⟨gb184, 4, none⟩) (Kd.R_far (p := ⟨gb184, 3, none⟩) (Kd.R_far (p := ⟨gb184, 2, none⟩) (Kd.R_far (p := ⟨gb184, 1, none⟩) (Kd.R_far (p := ⟨gb184, 0, none⟩) (Kd.R_far (p := ⟨gb202, 6, none⟩) (Kd.R_types (Kd.R_types HO_203007.out BK202.out (by decide)) BK184.out (by decide)) (fun _ hk => hk.1.2) (.slice Ao109 y253.length co109)) (fun _ hk => hk.2) (.int .i64 t185)) (fun _ hk => hk.2) (.int .i64 t191)) (fun _ hk => hk.2) (.int .i64 (wrap64 (101 + t194)))) (fun _ hk => hk.2) (.int .i64 t197)) (fun _ hk => hk.2) (.int .i64 t198)) (fun _ hk => hk.2) (.int .i64 t199)) (fun _ hk => hk.2) (.slice Ao109 y253.length co109)) (fun _ hk => hk.2) (.slice Ao113 x203007_2.length co113)) (fun _ hk => hk.1.1.2)), IsS79.qHI0, IsS79.bHI0, kK⟩
   rw [if_neg c99] at H
   exact absurd H (by simp)
  rw [if_neg c98] at H
  have c98b0 : (t224 == 4) = false := beq_eq_false_iff_ne.mpr c98
  have c98b1 : (t224 != 4) = true := bne_iff_ne.mpr c98
  obtain ⟨y256, hy256⟩ : ∃ y_ : List Int, y_ = (([0, 1, 2] : List Int)) := ⟨_, rfl⟩
  replace H : (if x203007_2.length + y256.length < 17592186044416 then (some (t185, t191, (wrap64 (101 + t194)), t197, t198, t199, x203006_1, (x203007_2 ++ y256), t225, t226)) else (none)) = some (r1, r2, r3, r4, r5, r6, r7, r8, r9, r10) := by first | (rw [hy256]; with_reducible exact H) | (have H2_ := (Option.bind_some _ _).symm.trans H; rw [hy256]; with_reducible exact H2_) | (have H2_ := (Option.bind_some _ _).symm.trans H; with_reducible exact H2_) | with_reducible exact H | (rw [hy256]; exact H) | exact H
  have Ny256 := Aside0.mk hy256
  clear hy256
  by_cases c114 : x203007_2.length + y256.length < 17592186044416
  ·rw [if_pos c114] at H
   have LMc114 := Aside0.mk c114
   clear c114
   obtain ⟨y259, hy259⟩ : ∃ y_ : List Int, y_ = (x203007_2 ++ y256) := ⟨_, rfl⟩
   replace H : (some (t185, t191, (wrap64 (101 + t194)), t197, t198, t199, x203006_1, y259, t225, t226)) = some (r1, r2, r3, r4, r5, r6, r7, r8, r9, r10) := by first | (rw [hy259]; with_reducible exact H) | (have H2_ := (Option.bind_some _ _).symm.trans H; rw [hy259]; with_reducible exact H2_) | (have H2_ := (Option.bind_some _ _).symm.trans H; with_reducible exact H2_) | with_reducible exact H | (rw [hy259]; exact H) | exact H
   have Ny259 := Aside0.mk hy259
   clear hy259
   simp only [Option.some.injEq, Prod.mk.injEq] at H
   obtain ⟨rfl, rfl, rfl, rfl, rfl, rfl, rfl, rfl, rfl, rfl⟩ := H
   go_wp2_with (first | ((with_reducible refine gC 52 rfl ?_); refine gL (some 44) Try.func52 #[.pointer (some ⟨g, 0, none⟩), .int .i64 10] ?_; (with_reducible refine (spec_l1Once.calls g s0_0 x1001_2 x1002_2 10 true t222 t223 w0 _ ?side1 ?side2 A38.out).mono ?_); (case side1 => exact IsS79.qHI0); (case side2 => exact IsS79.bHI0); rintro e w115 ⟨rfl, hi, hb, hk⟩; refine ⟨_, rfl, ?_⟩; have n_ := aT (IsS79.rK hk (kR HO_203006.out) (show IsS79 w0 _ g s0_0 x1001_2 x1002_2 from IsS79.qHI0)) (aT (IsS79.rK hk (kR HO_203007.out) (show IsS79 w0 _ g s0_0 x1001_2 x1002_2 from IsS79.qHI0)) (aT (kW hk BK184 NB184_0) (aT (kW hk BK202 NB202_0) (aT (KeepBut.trans kK hk (.inl rfl)) (aT (hb) (aM (hi))))))); clear HO_203006 HO_203007 BK184 BK202 HK HB HI0; obtain ⟨HO_203006, HO_203007, BK184, BK202, HK, HB, HI0⟩ := n_; (try clear hb); (try clear hk); (try clear hi)) | ((with_reducible refine gC 50 rfl ?_); refine gL (some 46) Try.func50 #[.pointer (some ⟨g, 0, none⟩), .int .i64 6] ?_; (with_reducible refine (spec_l1Below.calls g s0_0 t222 t223 6 t224 t225 t226 w0 _ ?side1 ?side2 A40.out).mono ?_); (case side1 => exact IsS79.qHI0); (case side2 => exact IsS79.bHI0); rintro e w116 ⟨rfl, hi, hb, hk⟩; refine ⟨_, rfl, ?_⟩; have n_ := aT (IsS79.rK hk (kR HO_203006.out) (show IsS79 w0 _ g s0_0 t222 t223 from IsS79.qHI0)) (aT (IsS79.rK hk (kR HO_203007.out) (show IsS79 w0 _ g s0_0 t222 t223 from IsS79.qHI0)) (aT (kW hk BK184 NB184_0) (aT (kW hk BK202 NB202_0) (aT (KeepBut.trans kK hk (.inl rfl)) (aT (hb) (aM (hi))))))); clear HO_203006 HO_203007 BK184 BK202 HK HB HI0; obtain ⟨HO_203006, HO_203007, BK184, BK202, HK, HB, HI0⟩ := n_; (try clear hb); (try clear hk); (try clear hi); have hnb117 := NB202_184.out; have hnc117 := NB184_202.out; have hnb118 := NB202_0.out; have hnc118 := NB0_202.out; obtain ⟨⟨hcz119_0, hcz119_1, hcz119_2, hcz119_3, hcz119_4, hcz119_5, hcz119_6, hcz119_7⟩, hfz119_0, hfz119_1, hfz119_2, hfz119_3, hfz119_4, hfz119_5, hfz119_6, hfz119_7⟩ := cF8 BK202) | ((with_reducible refine gate_dst (N := 49) rfl ?_); refine Kd.R_lit (Kd.int .i64) _ 3 ?hg (N := 49) ?hd (xs := ([0, 1, 2] : List Int)) (inner := [.int .i64 0, .int .i64 1, .int .i64 2]) (ok := fun _ => True) (okp := fun _ => True) ?hr ?hp (fun _ hk => hk) trivial (Below.refl _ _) (Nat.le_refl _) (by simp) ?_; (case hd => rfl); (case hg => rfl); (case hr => first | (go_simp; done) | (go_simp; rfl)); (case hp => exact (Reps.one (show Kd.M (Kd.int .i64) _ _ _ 0 [.int .i64 0] from rfl) (Reps.one (show Kd.M (Kd.int .i64) _ _ _ 1 [.int .i64 1] from rfl) (Reps.one (show Kd.M (Kd.int .i64) _ _ _ 2 [.int .i64 2] from rfl) (Reps.none _ _))))); intro v257 w120 ho121 hb hg_ hnew_; clear hg_ hnew_; (first | rw [← Ny256.out] at ho121 | (simp only [Int.reduceToNat] at ho121; rw [← Ny256.out] at ho121)); have n_ := aT (Kd.R_elder' (kR HO_203006.out) (Kd.R_base ho121) hb) (aT (Kd.R_elder' (kR HO_203007.out) (Kd.R_base ho121) hb) (aT (Kd.R_lower (Kd.R_new' (Kd.R_new' ho121 (Kd.R_lt (kR HO_203006.out))) (Kd.R_lt (kR HO_203007.out))) kL) (aT (bB BK184 hb) (aT (bB BK202 hb) (aT (IsS79.below IsS79.qHI0 hb) (aT (KeepBut.trans kK (KeepBut.of_below hb g none) (.inl rfl)) (aM (below_step IsS79.bHI0 hb)))))))); clear HO_203006 HO_203007 BK184 BK202 HI0 HK HB; obtain ⟨HO_203006, HO_203007, HO258, BK184, BK202, HI0, HK, HB⟩ := n_; clear hb ho121; obtain ⟨Ao123, co123, eo123⟩ := Kd.R_slice HO258.out; subst eo123) | ((with_reducible refine gate_builtin (b := .append) (xs := #[.tmp 48, .tmp 49]) rfl ?_); at_builtin; refine Kd.R_append_rows (Kd.int .i64) w.heap.size rfl (.tmp 48) (.tmp 49) 26 3 (.int .i64 0) 8 rfl Try.underlying26 info3 rfl (by decide) (by omega) u203007 x203007_2 y256 _ _ _ (fun k_ => some k_ ≠ (u203006 : Value).ownBlock ∧ some k_ ≠ (.slice Ao123 y256.length co123 : Value).ownBlock) (fun _ => False) rfl rfl ?aO ?aR (fun _ _ h => h) (fun _ h => h.elim) ?aF (Below.refl _ _) ?aS ?aL ?_; (case aR => repeat (first | exact (Kd.R_reads' HO258.out).2.2 | (with_reducible refine Kd.C_alloc ?_ _) | (with_reducible refine Kd.C_drewN ?_ _) | (with_reducible refine Kd.C_drew ?_))); (case aF => exact (fun k_ hk => ⟨Kd.fresh' (Kd.R_lt (kR HO_203006.out)) k_ hk, Kd.fresh' (Kd.R_lt (kR HO258.out)) k_ hk⟩)); (case aO => exact (kR HO_203007.out)); (case aS => exact kL); (case aL => have := LMc114.out; omega); intro v260 w122 ho hb hg hat; rw [← Ny259.out] at ho; have n_ := aT (Kd.R_after (ok := (fun k_ => some k_ ≠ (.slice Ao123 y256.length co123 : Value).ownBlock)) (rM HO_203006.out (fun _ hk => ⟨hk.2, hk.1⟩)) hg hat) (aT (blk_grown (g := gb184) (o := .cells #[.int .i64 0, .int .i64 0, .int .i64 0, .int .i64 0, .int .i64 0, .int .i64 0, .slice none 0 0, .slice none 0 0] 28 (0, 0)) (kB BK184.out) hg (Kd.R_ne HO_203007.out BK184.out (by decide))) (aT (blk_grown (g := gb202) (o := .cells #[.int .i64 t185, .int .i64 t191, .int .i64 (wrap64 (101 + t194)), .int .i64 t197, .int .i64 t198, .int .i64 t199, u203006, u203007] 28 (0, 0)) (kB BK202.out) hg (Kd.R_ne HO_203007.out BK202.out (by decide))) (aT (IsS79.grown IsS79.qHI0 hg (IsS79.own_ne HI0.out HO_203007.out (by decide))) (aT (Kd.R_after (ok := (fun k_ => some k_ ≠ (u203006 : Value).ownBlock)) (rM HO258.out (fun _ hk => ⟨hk.1.2, hk.2⟩)) hg hat) (aT (below_weaken IsS79.bHI0 HL.out hb) (aT (KeepBut.trans kK (KeepBut.of_grown hg g) (Kd.R_base2 HO_203007.out)) (aM (ho)))))))); clear HO_203006 BK184 BK202 HI0 HO258 HB HK HO_203007; obtain ⟨HO_203006, BK184, BK202, HI0, HO258, HB, HK, HO261⟩ := n_; clear ho hb hg hat; obtain ⟨Ao124, co124, eo124⟩ := Kd.R_slice HO261.out; subst eo124; obtain ⟨⟨hcz125_0, hcz125_1, hcz125_2, hcz125_3, hcz125_4, hcz125_5, hcz125_6, hcz125_7⟩, hfz125_0, hfz125_1, hfz125_2, hfz125_3, hfz125_4, hfz125_5, hfz125_6, hfz125_7⟩ := cF8 BK202; have hnb126 := NB184_0.out; have hnc126 := NB0_184.out; obtain ⟨⟨hcz127_0, hcz127_1, hcz127_2, hcz127_3, hcz127_4, hcz127_5, hcz127_6, hcz127_7⟩, hfz127_0, hfz127_1, hfz127_2, hfz127_3, hfz127_4, hfz127_5, hfz127_6, hfz127_7⟩ := cF8 BK184; obtain ⟨Ao128, co128, eo128⟩ := Kd.R_slice HO_203006.out; subst eo128))
   refine bodyPost_ret (results_cell_row rfl _ _ gb184 28 #[.int .i64 t185, .int .i64 t191, .int .i64 (wrap64 (101 + t194)), .int .i64 t197, .int .i64 t198, .int .i64 t199, .slice Ao128 x203006_1.length co128, .slice Ao124 y259.length co124] (0, 0) _ rfl (bQ BK184) Try.underlying28 rfl (by kernel_rfl)) rfl ?_
   exact ⟨_, _, eE, (rM (Kd.R_far (p := ⟨gb184, 7, none⟩) (Kd.R_far (p := ⟨gb184, 6, none⟩) (Kd.R_far (p := ⟨gb184, 5, none⟩) (Kd.R_far (p := ⟨gb184, 4, none⟩) (Kd.R_far (p := ⟨gb184, 3, none⟩) (Kd.R_far (p := ⟨gb184, 2, none⟩) (Kd.R_far (p := ⟨gb184, 1, none⟩) (Kd.R_far (p := ⟨gb184, 0, none⟩) (Kd.R_far (p := ⟨gb202, 7, none⟩) (Kd.R_types (Kd.R_types HO_203006.out BK202.out (by decide)) BK184.out (by decide)) (fun _ hk => hk.1.2) (.slice Ao124 y259.length co124)) (fun _ hk => hk.2) (.int .i64 t185)) (fun _ hk => hk.2) (.int .i64 t191)) (fun _ hk => hk.2) (.int .i64 (wrap64 (101 + t194)))) (fun _ hk => hk.2) (.int .i64 t197)) (fun _ hk => hk.2) (.int .i64 t198)) (fun _ hk => hk.2) (.int .i64 t199)) (fun _ hk => hk.2) (.slice Ao128 x203006_1.length co128)) (fun _ hk => hk.2) (.slice Ao124 y259.length co124)) (fun _ hk => hk.1.1.2)), (rM (Kd.R_far (p := ⟨gb184, 7, none⟩) (Kd.R_far (p := ⟨gb184, 6, none⟩) (Kd.R_far (p := ⟨gb184, 5, none⟩) (Kd.R_far (p := ⟨gb184, 4, none⟩) (Kd.R_far (p := ⟨gb184, 3, none⟩) (Kd.R_far (p := ⟨gb184, 2, none⟩) (Kd.R_far (p := ⟨gb184, 1, none⟩) (Kd.R_far (p := ⟨gb184, 0, none⟩) (Kd.R_far (p := ⟨gb202, 7, none⟩) (Kd.R_types (Kd.R_types HO261.out BK202.out (by decide)) BK184.out (by decide)) (fun _ hk => hk.1.2) (.slice Ao124 y259.length co124)) (fun _ hk => hk.2) (.int .i64 t185)) (fun _ hk => hk.2) (.int .i64 t191)) (fun _ hk => hk.2) (.int .i64 (wrap64 (101 + t194)))) (fun _ hk => hk.2) (.int .i64 t197)) (fun _ hk => hk.2) (.int .i64 t198)) (fun _ hk => hk.2) (.int .i64 t199)) (fun _ hk => hk.2) (.slice Ao128 x203006_1.length co128)) (fun _ hk => hk.2) (.slice Ao124 y259.length co124)) (fun _ hk => hk.1.1.1)), IsS79.qHI0, IsS79.bHI0, kK⟩
  rw [if_neg c114] at H
  exact absurd H (by simp)
 replace c39 := Bool.eq_false_iff.mpr c39
 subst c39
 rw [if_neg nF] at H
 simp only [Option.some.injEq, Prod.mk.injEq] at H
 obtain ⟨rfl, rfl, rfl, rfl, rfl, rfl, rfl, rfl, rfl, rfl⟩ := H
 go_wp2_with (first | ((with_reducible refine gC 52 rfl ?_); refine gL (some 44) Try.func52 #[.pointer (some ⟨g, 0, none⟩), .int .i64 10] ?_; (with_reducible refine (spec_l1Once.calls g s0_0 x1001_2 x1002_2 10 false t222 t223 w0 _ ?side1 ?side2 A38.out).mono ?_); (case side1 => exact IsS79.qHI0); (case side2 => exact IsS79.bHI0); rintro e w129 ⟨rfl, hi, hb, hk⟩; refine ⟨_, rfl, ?_⟩; have n_ := aT (IsS79.rK hk (kR HO_203006.out) (show IsS79 w0 _ g s0_0 x1001_2 x1002_2 from IsS79.qHI0)) (aT (IsS79.rK hk (kR HO_203007.out) (show IsS79 w0 _ g s0_0 x1001_2 x1002_2 from IsS79.qHI0)) (aT (kW hk BK184 NB184_0) (aT (kW hk BK202 NB202_0) (aT (KeepBut.trans kK hk (.inl rfl)) (aT (hb) (aM (hi))))))); clear HO_203006 HO_203007 BK184 BK202 HK HB HI0; obtain ⟨HO_203006, HO_203007, BK184, BK202, HK, HB, HI0⟩ := n_; (try clear hb); (try clear hk); (try clear hi); have hnb130 := NB202_184.out; have hnc130 := NB184_202.out; have hnb131 := NB202_0.out; have hnc131 := NB0_202.out; obtain ⟨⟨hcz132_0, hcz132_1, hcz132_2, hcz132_3, hcz132_4, hcz132_5, hcz132_6, hcz132_7⟩, hfz132_0, hfz132_1, hfz132_2, hfz132_3, hfz132_4, hfz132_5, hfz132_6, hfz132_7⟩ := cF8 BK202; have hnb133 := NB184_0.out; have hnc133 := NB0_184.out; obtain ⟨⟨hcz134_0, hcz134_1, hcz134_2, hcz134_3, hcz134_4, hcz134_5, hcz134_6, hcz134_7⟩, hfz134_0, hfz134_1, hfz134_2, hfz134_3, hfz134_4, hfz134_5, hfz134_6, hfz134_7⟩ := cF8 BK184; obtain ⟨Ao135, co135, eo135⟩ := Kd.R_slice HO_203006.out; subst eo135; obtain ⟨Ao136, co136, eo136⟩ := Kd.R_slice HO_203007.out; subst eo136))
 refine bodyPost_ret (results_cell_row rfl _ _ gb184 28 #[.int .i64 t185, .int .i64 t191, .int .i64 (wrap64 (101 + t194)), .int .i64 t197, .int .i64 t198, .int .i64 t199, .slice Ao135 x203006_1.length co135, .slice Ao136 x203007_2.length co136] (0, 0) _ rfl (bP BK184) Try.underlying28 rfl (by kernel_rfl)) rfl ?_
 exact ⟨_, _, eE, (rM (Kd.R_far (p := ⟨gb184, 7, none⟩) (Kd.R_far (p := ⟨gb184, 6, none⟩) (Kd.R_far (p := ⟨gb184, 5, none⟩) (Kd.R_far (p := ⟨gb184, 4, none⟩) (Kd.R_far (p := ⟨gb184, 3, none⟩) (Kd.R_far (p := ⟨gb184, 2, none⟩) (Kd.R_far (p := ⟨gb184, 1, none⟩) (Kd.R_far (p := ⟨gb184, 0, none⟩) (Kd.R_types HO_203006.out BK184.out (by decide)) (fun _ hk => hk.2) (.int .i64 t185)) (fun _ hk => hk.2) (.int .i64 t191)) (fun _ hk => hk.2) (.int .i64 (wrap64 (101 + t194)))) (fun _ hk => hk.2) (.int .i64 t197)) (fun _ hk => hk.2) (.int .i64 t198)) (fun _ hk => hk.2) (.int .i64 t199)) (fun _ hk => hk.2) (.slice Ao135 x203006_1.length co135)) (fun _ hk => hk.2) (.slice Ao136 x203007_2.length co136)) (fun _ hk => hk.1)), (rM (Kd.R_far (p := ⟨gb184, 7, none⟩) (Kd.R_far (p := ⟨gb184, 6, none⟩) (Kd.R_far (p := ⟨gb184, 5, none⟩) (Kd.R_far (p := ⟨gb184, 4, none⟩) (Kd.R_far (p := ⟨gb184, 3, none⟩) (Kd.R_far (p := ⟨gb184, 2, none⟩) (Kd.R_far (p := ⟨gb184, 1, none⟩) (Kd.R_far (p := ⟨gb184, 0, none⟩) (Kd.R_types HO_203007.out BK184.out (by decide)) (fun _ hk => hk.2) (.int .i64 t185)) (fun _ hk => hk.2) (.int .i64 t191)) (fun _ hk => hk.2) (.int .i64 (wrap64 (101 + t194)))) (fun _ hk => hk.2) (.int .i64 t197)) (fun _ hk => hk.2) (.int .i64 t198)) (fun _ hk => hk.2) (.int .i64 t199)) (fun _ hk => hk.2) (.slice Ao135 x203006_1.length co135)) (fun _ hk => hk.2) (.slice Ao136 x203007_2.length co136)) (fun _ hk => hk.1)), IsS79.qHI0, IsS79.bHI0, kK⟩

/-! ### spec_DrawShowTicket: function 5 -/
def spec_DrawShowTicket.f (k : Nat) (l0 : List Int) : Option (Int × Int × Int × Int × Int × Int × List Int × List Int × Int) := (spec_l1New.f k l0).bind fun bt263 => ((spec_l5Key.f bt263.1 bt263.2.1 bt263.2.2).bind fun bt267 => ((spec_l5DrawTicket.f k bt263.1 bt267.2.1 bt267.2.2).bind fun bt270 => (some (bt270.1, bt270.2.1, bt270.2.2.1, bt270.2.2.2.1, bt270.2.2.2.2.1, bt270.2.2.2.2.2.1, bt270.2.2.2.2.2.2.1, bt270.2.2.2.2.2.2.2.1, bt267.1))))
set_option maxHeartbeats 8000000 in
set_option maxRecDepth 100000 in
theorem spec_DrawShowTicket.calls (k : Nat) (A0 : Option Addr) (c0 : Nat) (l0 : List Int) (r1 : Int) (r2 : Int) (r3 : Int) (r4 : Int) (r5 : Int) (r6 : Int) (r7 : List Int) (r8 : List Int) (r9 : Int) (w : World) (hr0 : Kd.C (Kd.int .u8) w A0 l0.length l0) (hc0 : l0.length ≤ c0) (h : spec_DrawShowTicket.f k l0 = some (r1, r2, r3, r4, r5, r6, r7, r8, r9)) :
  Calls Try.prog 5 #[.slice A0 l0.length c0] w fun e w' => ∃ v6_ v7_ : Value, e = .returned (.tuple #[.agg #[.int .i64 r1, .int .i64 r2, .int .i64 r3, .int .i64 r4, .int .i64 r5, .int .i64 r6, v6_, v7_], .int .i64 r9]) ∧ Kd.R (Kd.int .i64) 3 w' w.heap.size (fun k_ => some k_ ≠ (v7_ : Value).ownBlock) v6_ r7 ∧ Kd.R (Kd.int .i64) 3 w' w.heap.size (fun k_ => some k_ ≠ (v6_ : Value).ownBlock) v7_ r8 ∧ Below w.heap.size w w' := by
 have hu28 := Try.underlying28
 have HR0 := Aside0.mk hr0
 have HC0 := Aside0.mk hc0
 clear hr0 hc0
 have HB := Aside0.mk (Below.refl w.heap.size w)
 have H := h
 clear h
 unfold spec_DrawShowTicket.f at H
 obtain ⟨⟨t263, t264, t265⟩, A2, H⟩ := oB H
 dsimp only at H
 obtain ⟨⟨t267, t268, t269⟩, A3, H⟩ := oB H
 dsimp only at H
 obtain ⟨⟨t270, t271, t272, t273, t274, t275, t276, t279, t282, t283⟩, A4, H⟩ := oB H
 dsimp only at H
 simp only [Option.some.injEq, Prod.mk.injEq] at H
 obtain ⟨rfl, rfl, rfl, rfl, rfl, rfl, rfl, rfl, rfl⟩ := H
 go_enter Try.func5, Try.ntmps5
 go_wp2_with (first | ((with_reducible refine gD 2 rfl ?_); refine bE #[.int .i64 0, .int .i64 0, .int .i64 0, .int .i64 0, .int .i64 0, .int .i64 0, .slice none 0 0, .slice none 0 0] 28 ?_; intro gb262 hg w5 hbox hb; have n_ := aT (below_step bH hb) (aT (hbox) (aT ((bZ hg : w.heap.size ≤ gb262)) (aM ((bZ hg : w.heap.size ≤ gb262))))); clear HB; obtain ⟨HB, BK262, GW262, GE262⟩ := n_; clear hb hbox hg) | ((with_reducible refine gC 22 rfl ?_); refine gL (some 7) Try.func22 #[.slice A0 l0.length c0] ?_; (with_reducible refine (spec_l1New.calls k _ _ l0 t263 t264 t265 w _ ?side1 ?side2 ?side3 A2.out).mono ?_); (case side1 => repeat (first | (with_reducible first | exact HB.out | apply below_alloc | apply pw_below_drewN | apply below_drew1 | refine below_set ?_ GE262.out) | exact HB.out)); (case side2 => exact HR0.out); (case side3 => exact HC0.out); rintro e w6 ⟨g266, rfl, hi, hb, hb2⟩; refine ⟨_, rfl, ?_⟩; have n_ := aT (bB BK262 hb2) (aT (hb) (aT (hi) (aT (IsS79.ne_blk hi (bB BK262 hb2) (by decide)) (aM (Ne.symm (IsS79.ne_blk hi (bB BK262 hb2) (by decide))))))); clear BK262 HB; obtain ⟨BK262, HB, HI266, NB266_262, NB262_266⟩ := n_; (try clear hb); (try clear hb2); (try clear hi)) | ((with_reducible refine gC 23 rfl ?_); refine gL (some 9) Try.func23 #[.pointer (some ⟨g266, 0, none⟩)] ?_; (with_reducible refine (spec_l5Key.calls g266 t263 t264 t265 t267 t268 t269 w _ ?side1 ?side2 A3.out).mono ?_); (case side1 => exact IsS79.qHI266); (case side2 => exact IsS79.bHI266); rintro e w7 ⟨rfl, hi, hb, hk⟩; refine ⟨_, rfl, ?_⟩; have n_ := aT (kW hk BK262 NB262_266) (aT (hb) (aM (hi))); clear BK262 HB HI266; obtain ⟨BK262, HB, HI266⟩ := n_; (try clear hb); (try clear hk); (try clear hi)) | ((with_reducible refine gC 24 rfl ?_); refine gL (some 11) Try.func24 #[.pointer (some ⟨g266, 0, none⟩)] ?_; (with_reducible refine (spec_l5DrawTicket.calls k g266 t263 t268 t269 t270 t271 t272 t273 t274 t275 t276 t279 t282 t283 w _ ?side1 ?side2 A4.out).mono ?_); (case side1 => exact IsS79.qHI266); (case side2 => exact IsS79.bHI266); rintro e w8 ⟨v277, v280, rfl, ho0, ho1, hi, hb, hk⟩; refine ⟨_, rfl, ?_⟩; have n_ := aT (kW hk BK262 NB262_266) (aT (Kd.R_lower ho0 (below_size IsS79.bHI266)) (aT (Kd.R_lower ho1 (below_size IsS79.bHI266)) (aT (hb) (aM (hi))))); clear BK262 HB HI266; obtain ⟨BK262, HO278, HO281, HB, HI266⟩ := n_; (try clear hb); (try clear hk); (try clear hi); (try clear ho0); (try clear ho1); have hnb9 := NB262_266.out; have hnc9 := NB266_262.out; obtain ⟨⟨hcz10_0, hcz10_1, hcz10_2, hcz10_3, hcz10_4, hcz10_5, hcz10_6, hcz10_7⟩, hfz10_0, hfz10_1, hfz10_2, hfz10_3, hfz10_4, hfz10_5, hfz10_6, hfz10_7⟩ := cF8 BK262; obtain ⟨Ao11, co11, eo11⟩ := Kd.R_slice HO278.out; subst eo11; obtain ⟨Ao12, co12, eo12⟩ := Kd.R_slice HO281.out; subst eo12))
 refine bodyPost_ret (results_ct rfl _ _ gb262 28 #[.int .i64 t270, .int .i64 t271, .int .i64 t272, .int .i64 t273, .int .i64 t274, .int .i64 t275, .slice Ao11 t276.length co11, .slice Ao12 t279.length co12] (0, 0) _ rfl (bP BK262) Try.underlying28 rfl (by kernel_rfl)) rfl ?_
 exact ⟨_, _, eE, (rM (Kd.R_far (p := ⟨gb262, 7, none⟩) (Kd.R_far (p := ⟨gb262, 6, none⟩) (Kd.R_far (p := ⟨gb262, 5, none⟩) (Kd.R_far (p := ⟨gb262, 4, none⟩) (Kd.R_far (p := ⟨gb262, 3, none⟩) (Kd.R_far (p := ⟨gb262, 2, none⟩) (Kd.R_far (p := ⟨gb262, 1, none⟩) (Kd.R_far (p := ⟨gb262, 0, none⟩) (Kd.R_types HO278.out BK262.out (by decide)) (fun _ hk => hk.2) (.int .i64 t270)) (fun _ hk => hk.2) (.int .i64 t271)) (fun _ hk => hk.2) (.int .i64 t272)) (fun _ hk => hk.2) (.int .i64 t273)) (fun _ hk => hk.2) (.int .i64 t274)) (fun _ hk => hk.2) (.int .i64 t275)) (fun _ hk => hk.2) (.slice Ao11 t276.length co11)) (fun _ hk => hk.2) (.slice Ao12 t279.length co12)) (fun _ hk => hk.1)), (rM (Kd.R_far (p := ⟨gb262, 7, none⟩) (Kd.R_far (p := ⟨gb262, 6, none⟩) (Kd.R_far (p := ⟨gb262, 5, none⟩) (Kd.R_far (p := ⟨gb262, 4, none⟩) (Kd.R_far (p := ⟨gb262, 3, none⟩) (Kd.R_far (p := ⟨gb262, 2, none⟩) (Kd.R_far (p := ⟨gb262, 1, none⟩) (Kd.R_far (p := ⟨gb262, 0, none⟩) (Kd.R_types HO281.out BK262.out (by decide)) (fun _ hk => hk.2) (.int .i64 t270)) (fun _ hk => hk.2) (.int .i64 t271)) (fun _ hk => hk.2) (.int .i64 t272)) (fun _ hk => hk.2) (.int .i64 t273)) (fun _ hk => hk.2) (.int .i64 t274)) (fun _ hk => hk.2) (.int .i64 t275)) (fun _ hk => hk.2) (.slice Ao11 t276.length co11)) (fun _ hk => hk.2) (.slice Ao12 t279.length co12)) (fun _ hk => hk.1)), IsS79.bHI266⟩

/-! ### impl_within: function 76 -/
def impl_within.f (a0 : Int) (a1 : Int) (a2 : Int) : Option (Bool) := if a0 ≥ a1 then (some (decide (a0 ≤ a2))) else (some false)
set_option maxHeartbeats 8000000 in
set_option maxRecDepth 100000 in
theorem impl_within.calls (a0 : Int) (a1 : Int) (a2 : Int) (r : Bool) (w : World) (h : impl_within.f a0 a1 a2 = some r) :
  Calls Try.prog 76 #[.int .i64 a0, .int .i64 a1, .int .i64 a2] w fun e w' => e = .returned (.bool r) ∧ Drawn0 w w' := by
 have H := h
 clear h
 unfold impl_within.f at H
 by_cases c4 : a0 ≥ a1
 ·rw [if_pos c4] at H
  have c4b0 : decide (a1 ≤ a0) = true := decide_eq_true c4
  clear c4
  obtain rfl := Option.some.inj H
  go_enter Try.func76, Try.ntmps76
  go_wp2
  go_ret
  exact ⟨eX, (by repeat (first | exact Drawn0.refl _ | apply Drawn0.step))⟩
 rw [if_neg c4] at H
 have c4b0 : decide (a1 ≤ a0) = false := decide_eq_false c4
 clear c4
 obtain rfl := Option.some.inj H
 go_enter Try.func76, Try.ntmps76
 go_wp2
 go_ret
 exact ⟨eX, (by repeat (first | exact Drawn0.refl _ | apply Drawn0.step))⟩

/-! ### impl_isKey: function 55 -/
def impl_isKey.f (a0 : Int) : Option (Bool) := (impl_within.f a0 1 1000000).bind fun t284 => (some t284)
set_option maxHeartbeats 8000000 in
set_option maxRecDepth 100000 in
theorem impl_isKey.calls (a0 : Int) (r : Bool) (w : World) (h : impl_isKey.f a0 = some r) :
  Calls Try.prog 55 #[.int .i64 a0] w fun e w' => e = .returned (.bool r) ∧ Drawn0 w w' := by
 have H := h
 clear h
 unfold impl_isKey.f at H
 obtain ⟨t284, A2, H⟩ := oB H
 obtain rfl := Option.some.inj H
 go_enter Try.func55, Try.ntmps55
 go_wp2_with (first | ((with_reducible refine gC 76 rfl ?_); refine gL (some 4) Try.func76 #[.int .i64 a0, .int .i64 1, .int .i64 1000000] ?_; (with_reducible refine (impl_within.calls a0 1 1000000 t284 _ A2.out).mono ?_); rintro e w' ⟨rfl, ⟨nd, rfl⟩⟩; refine ⟨_, rfl, ?_⟩))
 go_ret
 exact ⟨eX, (by repeat (first | exact Drawn0.refl _ | apply Drawn0.step))⟩

end Go.Proofs.Ytaldemgfndmmlaa.OFnTickets
-- wrapped
-- halved
-- squeezed
-- squeezed2
-- squeezed3
