-- walks of this claim, written by a program of mine
import Derived.Test.YtaldemgfndmmlaaOFnTicketsx0
import Derived.Test.YtaldemgfndmmlaaOFnTicketsx1
import Derived.Test.YtaldemgfndmmlaaOFnTicketsx2
import Derived.Test.YtaldemgfndmmlaaOFnTicketsx3
import Derived.Test.YtaldemgfndmmlaaOFnTicketsx4
import Derived.Test.YtaldemgfndmmlaaOFnTicketsx5
import Derived.Test.YtaldemgfndmmlaaOFnTicketsx8
import Derived.Test.YtaldemgfndmmlaaOFnTicketsx9
import Derived.Test.YtaldemgfndmmlaaOFnTicketsx10
import Derived.Test.YtaldemgfndmmlaaOFnTicketsx11
import Derived.Test.YtaldemgfndmmlaaOFnTicketsx15
import Derived.Test.YtaldemgfndmmlaaOFnTicketsx16
import Derived.Test.YtaldemgfndmmlaaOFnTicketsx17
import Derived.Test.YtaldemgfndmmlaaOFnTicketsx18
import Derived.Test.YtaldemgfndmmlaaOFnTicketsx19
namespace Go.Proofs.Ytaldemgfndmmlaa.OFnTickets
open Go.RowKit Go.Proofs.Ytaldemgfndmmlaa.OWord Go.Proofs.YtaldemgfndmmlaaW.PrintWords Go.Proofs.YtaldemgfndmmlaaW.PrintLast Go.Proofs.YtaldemgfndmmlaaW.PrintMore
attribute [local go_sem] max2_int min2_int max_two min_two max_three min_three max_four min_four   -- for this text's walks alone
set_option linter.unusedVariables false
set_option linter.unusedSimpArgs false

attribute [local go_sem high] eqA25 eqA36 eqA43
/-! ### laws_FnTickets: function 3 -/
mutual
def laws_FnTickets.j0 : Nat → List Int → Int → ByteArray → Bool → Option (Bool)
 | 0, _, _, _, _ => none
 | k + 1, x0, x4, x5, x97 => if x97 = true then (some false) else ((spec_DrawShowAuth.f k x0).bind fun bt786 => ((impl_ShowAuth.f k bt786.1 bt786.2.1 bt786.2.2.1 bt786.2.2.2).bind fun t791 => ((impl_ReadAuth.f k t791 bt786.2.2.2).bind fun bt792 => ((spec_ShowAuth.f k bt786.1 bt786.2.1 bt786.2.2.1 bt786.2.2.2).bind fun t797 => (if (bt792.2.2.2 != (t797.toList != ([] : List UInt8))) = true then (laws_FnTickets.j1 k x0 x4 x5 bt786.2.2.2 t791 true) else (if bt792.2.2.2 = true then (laws_FnTickets.j1 k x0 x4 x5 bt786.2.2.2 t791 (!(bt792.1 == bt786.1) || (!(bt792.2.1 == bt786.2.1) || (!(bt792.2.2.1 == bt786.2.2.1))))) else (laws_FnTickets.j1 k x0 x4 x5 bt786.2.2.2 t791 false)))))))
def laws_FnTickets.j1 : Nat → List Int → Int → ByteArray → Int → ByteArray → Bool → Option (Bool)
 | 0, _, _, _, _, _, _ => none
 | k + 1, x0, x4, x5, x9, x10, x125 => if x125 = true then (some false) else ((spec_DrawShowGrant.f k x0).bind fun bt798 => ((impl_ShowGrant.f k bt798.1 bt798.2.1 bt798.2.2.1 bt798.2.2.2.1 bt798.2.2.2.2.1 bt798.2.2.2.2.2.1 bt798.2.2.2.2.2.2).bind fun t806 => ((impl_ReadGrant.f k t806 bt798.2.2.2.2.2.2).bind fun bt807 => ((spec_ShowGrant.f k bt798.1 bt798.2.1 bt798.2.2.1 bt798.2.2.2.1 bt798.2.2.2.2.1 bt798.2.2.2.2.2.1 bt798.2.2.2.2.2.2).bind fun t815 => (if (bt807.2.2.2.2.2.2 != (t815.toList != ([] : List UInt8))) = true then (laws_FnTickets.j2 k x0 x4 x5 x9 x10 bt798.2.2.2.2.2.2 t806 true) else (if bt807.2.2.2.2.2.2 = true then (laws_FnTickets.j2 k x0 x4 x5 x9 x10 bt798.2.2.2.2.2.2 t806 (!(bt807.1 == bt798.1) || (!(bt807.2.1 == bt798.2.1) || (!(bt807.2.2.1 == bt798.2.2.1) || ((!(bt807.2.2.2.1 == bt798.2.2.2.1) || (!(bt807.2.2.2.2.1 == bt798.2.2.2.2.1) || (!(bt807.2.2.2.2.2.1 == bt798.2.2.2.2.2.1))))))))) else (laws_FnTickets.j2 k x0 x4 x5 x9 x10 bt798.2.2.2.2.2.2 t806 false)))))))
def laws_FnTickets.j2 : Nat → List Int → Int → ByteArray → Int → ByteArray → Int → ByteArray → Bool → Option (Bool)
 | 0, _, _, _, _, _, _, _, _ => none
 | k + 1, x0, x4, x5, x9, x10, x14, x15, x153 => if x153 = true then (some false) else ((impl_ReadTicket.f k x5 (wrap64 (x4 + 1))).bind fun bt816 => ((impl_ReadAuth.f k x10 (wrap64 (x9 + 1))).bind fun bt830 => ((impl_ReadGrant.f k x15 (wrap64 (x14 + 1))).bind fun bt835 => ((impl_ReadGrant.f k x10 x9).bind fun bt843 => ((spec_DrawShowRest.f k x0).bind fun bt851 => ((impl_ShowRest.f k bt851.1 bt851.2.1 bt851.2.2).bind fun t855 => ((impl_ReadRest.f k t855).bind fun bt856 => (if bt816.2.2.2.2.2.2.2.2 = true then (some false) else (if bt830.2.2.2 = true then (some false) else (if bt835.2.2.2.2.2.2 = true then (some false) else (if bt843.2.2.2.2.2.2 = true then (some false) else ((spec_RestOk.f bt851.1 bt851.2.1 bt851.2.2).bind fun t861 => (if (bt856.2.2.2 == t861) = true then (if bt856.2.2.2 = true then (some (bt856.1 == bt851.1 && (bt856.2.1 == bt851.2.1 && (bt856.2.2.1 == bt851.2.2)))) else (some true)) else (some false))))))))))))))
end
def laws_FnTickets.f (k : Nat) (l0 : List Int) : Option (Bool) := (laws_big.f l0).bind fun t753 => (if t753 = true then (some true) else ((spec_DrawShowTicket.f k l0).bind fun bt754 => ((impl_ShowTicket.f k bt754.1 bt754.2.1 bt754.2.2.1 bt754.2.2.2.1 bt754.2.2.2.2.1 bt754.2.2.2.2.2.1 bt754.2.2.2.2.2.2.1 bt754.2.2.2.2.2.2.2.1 bt754.2.2.2.2.2.2.2.2).bind fun t768 => ((impl_ReadTicket.f k t768 bt754.2.2.2.2.2.2.2.2).bind fun bt769 => ((spec_ShowTicket.f k bt754.1 bt754.2.1 bt754.2.2.1 bt754.2.2.2.1 bt754.2.2.2.2.1 bt754.2.2.2.2.2.1 bt754.2.2.2.2.2.2.1 bt754.2.2.2.2.2.2.2.1 bt754.2.2.2.2.2.2.2.2).bind fun t783 => (if (bt769.2.2.2.2.2.2.2.2 != (t783.toList != ([] : List UInt8))) = true then (laws_FnTickets.j0 k l0 bt754.2.2.2.2.2.2.2.2 t768 true) else (if bt769.2.2.2.2.2.2.2.2 = true then (if bt769.1 = bt754.1 then (if bt769.2.1 = bt754.2.1 then (if bt769.2.2.1 = bt754.2.2.1 then (if (!(bt769.2.2.2.1 == bt754.2.2.2.1) || (!(bt769.2.2.2.2.1 == bt754.2.2.2.2.1) || (!(bt769.2.2.2.2.2.1 == bt754.2.2.2.2.2.1)))) = true then (laws_FnTickets.j0 k l0 bt754.2.2.2.2.2.2.2.2 t768 true) else ((laws_sameInts.f k bt769.2.2.2.2.2.2.1 bt754.2.2.2.2.2.2.1).bind fun t784 => (if t784 = true then ((laws_sameInts.f k bt769.2.2.2.2.2.2.2.1 bt754.2.2.2.2.2.2.2.1).bind fun t785 => (laws_FnTickets.j0 k l0 bt754.2.2.2.2.2.2.2.2 t768 (!t785))) else (laws_FnTickets.j0 k l0 bt754.2.2.2.2.2.2.2.2 t768 true)))) else (laws_FnTickets.j0 k l0 bt754.2.2.2.2.2.2.2.2 t768 true)) else (laws_FnTickets.j0 k l0 bt754.2.2.2.2.2.2.2.2 t768 true)) else (laws_FnTickets.j0 k l0 bt754.2.2.2.2.2.2.2.2 t768 true)) else (laws_FnTickets.j0 k l0 bt754.2.2.2.2.2.2.2.2 t768 false))))))))
theorem laws_FnTickets.oE1 {α0 β : Type} {x : Option (α0)} {f : α0 → Option β} {b : β} {p : Prop} (h : x.bind f = some b) (k : ∀ t0, Aside0 (x = some t0) → f t0 = some b → p) : p := by
  obtain ⟨a, h1, h2⟩ := Option.bind_eq_some_iff.mp h
  exact k a ⟨h1⟩ h2
theorem laws_FnTickets.oE3 {α0 α1 α2 β : Type} {x : Option (α0 × α1 × α2)} {f : (α0 × α1 × α2) → Option β} {b : β} {p : Prop} (h : x.bind f = some b) (k : ∀ t0 t1 t2, Aside0 (x = some (t0, t1, t2)) → f (t0, t1, t2) = some b → p) : p := by
  obtain ⟨a, h1, h2⟩ := Option.bind_eq_some_iff.mp h
  exact k a.1 a.2.1 a.2.2 ⟨h1⟩ h2
theorem laws_FnTickets.oE4 {α0 α1 α2 α3 β : Type} {x : Option (α0 × α1 × α2 × α3)} {f : (α0 × α1 × α2 × α3) → Option β} {b : β} {p : Prop} (h : x.bind f = some b) (k : ∀ t0 t1 t2 t3, Aside0 (x = some (t0, t1, t2, t3)) → f (t0, t1, t2, t3) = some b → p) : p := by
  obtain ⟨a, h1, h2⟩ := Option.bind_eq_some_iff.mp h
  exact k a.1 a.2.1 a.2.2.1 a.2.2.2 ⟨h1⟩ h2
theorem laws_FnTickets.oE7 {α0 α1 α2 α3 α4 α5 α6 β : Type} {x : Option (α0 × α1 × α2 × α3 × α4 × α5 × α6)} {f : (α0 × α1 × α2 × α3 × α4 × α5 × α6) → Option β} {b : β} {p : Prop} (h : x.bind f = some b) (k : ∀ t0 t1 t2 t3 t4 t5 t6, Aside0 (x = some (t0, t1, t2, t3, t4, t5, t6)) → f (t0, t1, t2, t3, t4, t5, t6) = some b → p) : p := by
  obtain ⟨a, h1, h2⟩ := Option.bind_eq_some_iff.mp h
  exact k a.1 a.2.1 a.2.2.1 a.2.2.2.1 a.2.2.2.2.1 a.2.2.2.2.2.1 a.2.2.2.2.2.2 ⟨h1⟩ h2
theorem laws_FnTickets.oE9 {α0 α1 α2 α3 α4 α5 α6 α7 α8 β : Type} {x : Option (α0 × α1 × α2 × α3 × α4 × α5 × α6 × α7 × α8)} {f : (α0 × α1 × α2 × α3 × α4 × α5 × α6 × α7 × α8) → Option β} {b : β} {p : Prop} (h : x.bind f = some b) (k : ∀ t0 t1 t2 t3 t4 t5 t6 t7 t8, Aside0 (x = some (t0, t1, t2, t3, t4, t5, t6, t7, t8)) → f (t0, t1, t2, t3, t4, t5, t6, t7, t8) = some b → p) : p := by
  obtain ⟨a, h1, h2⟩ := Option.bind_eq_some_iff.mp h
  exact k a.1 a.2.1 a.2.2.1 a.2.2.2.1 a.2.2.2.2.1 a.2.2.2.2.2.1 a.2.2.2.2.2.2.1 a.2.2.2.2.2.2.2.1 a.2.2.2.2.2.2.2.2 ⟨h1⟩ h2
theorem laws_FnTickets.xC0 {c : Value} {C : World → Prop} {K : Value → World → Prop} (k : ∀ w', C w' → K c w') : ∀ (e : Ending) (w' : World), (e = .returned c ∧ C w') → ∃ v, e = .returned v ∧ K v w' := by
  rintro e w' ⟨h1, h2⟩
  exact ⟨c, h1, k w' h2⟩
theorem laws_FnTickets.xC2 {g : Value → Value → Value} {A B : Value → Value → World → Prop} {C : World → Prop} {K : Value → World → Prop} (k : ∀ v u w', A v u w' → B v u w' → C w' → K (g v u) w') : ∀ (e : Ending) (w' : World), (∃ v u, e = .returned (g v u) ∧ A v u w' ∧ B v u w' ∧ C w') → ∃ v, e = .returned v ∧ K v w' := by
  rintro e w' ⟨v, u, h1, h2, h3, h4⟩
  exact ⟨g v u, h1, k v u w' h2 h3 h4⟩
theorem laws_FnTickets.n0 {k : Nat} {a : List Int} {b : Int} {c : ByteArray} {r : Bool} (h : laws_FnTickets.j0 k a b c true = some r) (hr : Aside0 (r = true)) : False := by
 cases k with
 | zero => simp [laws_FnTickets.j0] at h
 | succ k => rw [laws_FnTickets.j0, if_pos rfl, hr.out] at h; exact absurd h (by simp)
theorem laws_FnTickets.n1 {k : Nat} {a : List Int} {b : Int} {c : ByteArray} {d : Int} {e : ByteArray} {r : Bool} (h : laws_FnTickets.j1 k a b c d e true = some r) (hr : Aside0 (r = true)) : False := by
 cases k with
 | zero => simp [laws_FnTickets.j1] at h
 | succ k => rw [laws_FnTickets.j1, if_pos rfl, hr.out] at h; exact absurd h (by simp)
theorem laws_FnTickets.n2 {k : Nat} {a : List Int} {b : Int} {c : ByteArray} {d : Int} {e : ByteArray} {f : Int} {g : ByteArray} {r : Bool} (h : laws_FnTickets.j2 k a b c d e f g true = some r) (hr : Aside0 (r = true)) : False := by
 cases k with
 | zero => simp [laws_FnTickets.j2] at h
 | succ k => rw [laws_FnTickets.j2, if_pos rfl, hr.out] at h; exact absurd h (by simp)
set_option maxHeartbeats 64000000 in
set_option maxRecDepth 100000 in
theorem laws_FnTickets.calls (k : Nat) (A0 : Option Addr) (c0 : Nat) (l0 : List Int) (r : Bool) (w : World) (hr0 : Kd.C (Kd.int .u8) w A0 l0.length l0) (hc0 : l0.length ≤ c0) (h : laws_FnTickets.f k l0 = some r) (hr_true : Aside0 (r = true)) :
  Calls Try.prog 3 #[.slice A0 l0.length c0] w fun e w' => e = .returned (.bool r) ∧ Below w.heap.size w w' := by
 have hu28 := Try.underlying28
 have hu25 := Try.underlying25
 have hu36 := Try.underlying36
 have hu43 := Try.underlying43
 have HR0 := Aside0.mk hr0
 have HC0 := Aside0.mk hc0
 clear hr0 hc0
 have HB := Aside0.mk (Below.refl w.heap.size w)
 have H := h
 clear h
 unfold laws_FnTickets.f at H
 refine laws_FnTickets.oE1 H ?_
 clear H
 intro t753 A2 H
 by_cases c3 : t753 = true
 ·subst c3
  rw [if_pos rfl] at H
  obtain rfl := Option.some.inj H
  go_enter Try.func3, Try.ntmps3
  go_wp2_with (first | ((with_reducible refine gC 4 rfl ?_); refine gL (some 30) Try.func4 #[.slice A0 l0.length c0] ?_; (with_reducible refine (laws_big.calls _ _ l0 true _ ?side1 ?side2 A2.out).mono ?_); (case side1 => exact cA HR0.out); (case side2 => exact HC0.out); rintro e w' ⟨rfl, ⟨nd, rfl⟩⟩; refine ⟨_, rfl, ?_⟩))
  go_ret
  exact ⟨eE, bH⟩
 replace c3 := Bool.eq_false_iff.mpr c3
 subst c3
 rw [if_neg nF] at H
 refine laws_FnTickets.oE9 H ?_
 clear H
 intro t754 t755 t756 t757 t758 t759 t760 t763 t766 A4 H
 dsimp only at H
 refine laws_FnTickets.oE1 H ?_
 clear H
 intro t768 A5 H
 refine laws_FnTickets.oE9 H ?_
 clear H
 intro t769 t770 t771 t772 t773 t774 t775 t778 t781 A6 H
 dsimp only at H
 have HC7 := Aside0.mk H
 clear H
 go_enter Try.func3, Try.ntmps3
 go_upto_region 6 with (first | ((with_reducible refine gC 4 rfl ?_); refine gL (some 30) Try.func4 #[.slice A0 l0.length c0] ?_; (with_reducible refine (laws_big.calls _ _ l0 false _ ?side1 ?side2 A2.out).mono ?_); (case side1 => exact cA HR0.out); (case side2 => exact HC0.out); rintro e w' ⟨rfl, ⟨nd, rfl⟩⟩; refine ⟨_, rfl, ?_⟩) | ((with_reducible refine gC 5 rfl ?_); refine gL (some 33) Try.func5 #[.slice A0 l0.length c0] ?_; (with_reducible refine (spec_DrawShowTicket.calls k _ _ l0 t754 t755 t756 t757 t758 t759 t760 t763 t766 _ ?side1 ?side2 A4.out).mono ?_); (case side1 => exact cA HR0.out); (case side2 => exact HC0.out); refine laws_FnTickets.xC2 ?_; intro v761 v764 w8 ho0 ho1 hb; have n_ := aT (Kd.R_lower ho0 (below_size bH)) (aT (Kd.R_lower ho1 (below_size bH)) (aM (below_step bH hb))); clear HB; obtain ⟨HO762, HO765, HB⟩ := n_; (try clear hb); (try clear ho0); (try clear ho1)) | ((with_reducible refine gD 3 rfl ?_); refine bE #[.int .i64 0, .int .i64 0, .int .i64 0, .int .i64 0, .int .i64 0, .int .i64 0, .slice none 0 0, .slice none 0 0] 28 ?_; intro gb767 hg w9 hbox hb; have n_ := aT (rB HO762 hb) (aT (rB HO765 hb) (aT (below_step bH hb) (aT (hbox) (aT ((bZ hg : w.heap.size ≤ gb767)) (aM ((bZ hg : w.heap.size ≤ gb767))))))); clear HO762 HO765 HB; obtain ⟨HO762, HO765, HB, BK767, GW767, GE767⟩ := n_; clear hb hbox hg; have hcz10_0 : w9.cell? ⟨gb767, 0, none⟩ = some (.int .i64 0) := (blk_cell BK767.out 0).trans rfl; have hcz10_1 : w9.cell? ⟨gb767, 1, none⟩ = some (.int .i64 0) := (blk_cell BK767.out 1).trans rfl; have hcz10_2 : w9.cell? ⟨gb767, 2, none⟩ = some (.int .i64 0) := (blk_cell BK767.out 2).trans rfl; have hcz10_3 : w9.cell? ⟨gb767, 3, none⟩ = some (.int .i64 0) := (blk_cell BK767.out 3).trans rfl; have hcz10_4 : w9.cell? ⟨gb767, 4, none⟩ = some (.int .i64 0) := (blk_cell BK767.out 4).trans rfl; have hcz10_5 : w9.cell? ⟨gb767, 5, none⟩ = some (.int .i64 0) := (blk_cell BK767.out 5).trans rfl; have hcz10_6 : w9.cell? ⟨gb767, 6, none⟩ = some (.slice none 0 0) := (blk_cell BK767.out 6).trans rfl; have hcz10_7 : w9.cell? ⟨gb767, 7, none⟩ = some (.slice none 0 0) := (blk_cell BK767.out 7).trans rfl; have hfz10_0 := blk_frozen BK767.out 0; have hfz10_1 := blk_frozen BK767.out 1; have hfz10_2 := blk_frozen BK767.out 2; have hfz10_3 := blk_frozen BK767.out 3; have hfz10_4 := blk_frozen BK767.out 4; have hfz10_5 := blk_frozen BK767.out 5; have hfz10_6 := blk_frozen BK767.out 6; have hfz10_7 := blk_frozen BK767.out 7; obtain ⟨Ao11, co11, eo11⟩ := Kd.R_slice HO762.out; subst eo11; obtain ⟨Ao12, co12, eo12⟩ := Kd.R_slice HO765.out; subst eo12) | ((with_reducible refine gC 6 rfl ?_); refine gL (some 38) Try.func6 #[.agg #[.int .i64 t754, .int .i64 t755, .int .i64 t756, .int .i64 t757, .int .i64 t758, .int .i64 t759, .slice Ao11 t760.length co11, .slice Ao12 t763.length co12], .int .i64 t766] ?_; (with_reducible refine (impl_ShowTicket.calls k t754 t755 t756 t757 t758 t759 _ _ t760 _ _ t763 t766 t768 _ ?side1 ?side2 ?side3 ?side4 A5.out).mono ?_); (case side1 => refine (Kd.R_reads' (e := 3) (base := w.heap.size) (ok := fun k_ => some k_ ≠ (.slice Ao12 t763.length co12 : Value).ownBlock) (n := t760.length) (c := co11) ?_).2.2; exact (rF8 HO762.out BK767.out)); (case side2 => exact (Kd.R_reads' HO762.out).2.1); (case side3 => refine (Kd.R_reads' (e := 3) (base := w.heap.size) (ok := fun k_ => some k_ ≠ (.slice Ao11 t760.length co11 : Value).ownBlock) (n := t763.length) (c := co12) ?_).2.2; exact (rF8 HO765.out BK767.out)); (case side4 => exact (Kd.R_reads' HO765.out).2.1); refine laws_FnTickets.xC0 ?_; intro w13 hb; have n_ := aT (Kd.R_below (rF8 HO762.out BK767.out) hb) (aT (Kd.R_below (rF8 HO765.out BK767.out) hb) (aT (blk_below (g := gb767) (o := .cells #[.int .i64 t754, .int .i64 t755, .int .i64 t756, .int .i64 t757, .int .i64 t758, .int .i64 t759, .slice Ao11 t760.length co11, .slice Ao12 t763.length co12] 28 (0, 0)) (bP BK767) hb) (aM (below_step bS hb)))); clear HO762 HO765 BK767 HB; obtain ⟨HO762, HO765, BK767, HB⟩ := n_; (try clear hb)) | ((with_reducible refine gC 7 rfl ?_); refine gL (some 42) Try.func7 #[.string t768, .int .i64 t766] ?_; (with_reducible refine (impl_ReadTicket.calls k t768 t766 t769 t770 t771 t772 t773 t774 t775 t778 t781 _ A6.out).mono ?_); refine laws_FnTickets.xC2 ?_; intro v776 v779 w14 ho0 ho1 hb; have n_ := aT (Kd.R_mono (Kd.R_told (Kd.R_told (Kd.R_old (kR HO762.out) hb) (Kd.R_base ho0)) (Kd.R_base ho1)) (fun _ h_ => h_.1)) (aT (Kd.R_mono (Kd.R_told (Kd.R_told (Kd.R_old (kR HO765.out) hb) (Kd.R_base ho0)) (Kd.R_base ho1)) (fun _ h_ => h_.1)) (aT (Kd.R_lower (Kd.R_new' (Kd.R_new' ho0 (Kd.R_lt (kR HO762.out))) (Kd.R_lt (kR HO765.out))) (below_size bS)) (aT (Kd.R_lower (Kd.R_new' (Kd.R_new' ho1 (Kd.R_lt (kR HO762.out))) (Kd.R_lt (kR HO765.out))) (below_size bS)) (aT (bB BK767 hb) (aM (below_step bS hb)))))); clear HO762 HO765 BK767 HB; obtain ⟨HO762, HO765, HO777, HO780, BK767, HB⟩ := n_; (try clear hb); (try clear ho0); (try clear ho1)) | ((with_reducible refine gD 6 rfl ?_); refine bE #[.int .i64 0, .int .i64 0, .int .i64 0, .int .i64 0, .int .i64 0, .int .i64 0, .slice none 0 0, .slice none 0 0] 28 ?_; intro gb782 hg w15 hbox hb; have n_ := aT (rB HO762 hb) (aT (rB HO765 hb) (aT (rB HO777 hb) (aT (rB HO780 hb) (aT (bB BK767 hb) (aT (below_step bS hb) (aT (hbox) (aT ((bZ hg : w.heap.size ≤ gb782)) (aT ((bZ hg : w.heap.size ≤ gb782)) (aT (lB hg BK767) (aM (gB hg BK767))))))))))); clear HO762 HO765 HO777 HO780 BK767 HB; obtain ⟨HO762, HO765, HO777, HO780, BK767, HB, BK782, GW782, GE782, NB767_782, NB782_767⟩ := n_; clear hb hbox hg; have hnb16 := NB782_767.out; have hnc16 := NB767_782.out; have hcz17_0 : w15.cell? ⟨gb782, 0, none⟩ = some (.int .i64 0) := (blk_cell BK782.out 0).trans rfl; have hcz17_1 : w15.cell? ⟨gb782, 1, none⟩ = some (.int .i64 0) := (blk_cell BK782.out 1).trans rfl; have hcz17_2 : w15.cell? ⟨gb782, 2, none⟩ = some (.int .i64 0) := (blk_cell BK782.out 2).trans rfl; have hcz17_3 : w15.cell? ⟨gb782, 3, none⟩ = some (.int .i64 0) := (blk_cell BK782.out 3).trans rfl; have hcz17_4 : w15.cell? ⟨gb782, 4, none⟩ = some (.int .i64 0) := (blk_cell BK782.out 4).trans rfl; have hcz17_5 : w15.cell? ⟨gb782, 5, none⟩ = some (.int .i64 0) := (blk_cell BK782.out 5).trans rfl; have hcz17_6 : w15.cell? ⟨gb782, 6, none⟩ = some (.slice none 0 0) := (blk_cell BK782.out 6).trans rfl; have hcz17_7 : w15.cell? ⟨gb782, 7, none⟩ = some (.slice none 0 0) := (blk_cell BK782.out 7).trans rfl; have hfz17_0 := blk_frozen BK782.out 0; have hfz17_1 := blk_frozen BK782.out 1; have hfz17_2 := blk_frozen BK782.out 2; have hfz17_3 := blk_frozen BK782.out 3; have hfz17_4 := blk_frozen BK782.out 4; have hfz17_5 := blk_frozen BK782.out 5; have hfz17_6 := blk_frozen BK782.out 6; have hfz17_7 := blk_frozen BK782.out 7; obtain ⟨Ao18, co18, eo18⟩ := Kd.R_slice HO777.out; subst eo18; obtain ⟨Ao19, co19, eo19⟩ := Kd.R_slice HO780.out; subst eo19))
 (try simp only [Act.put, List.setIfInBounds_toArray, List.set_cons_zero, List.set_cons_succ])
 go_cut [97] (fun v97 wc => ∃ (kq : Nat) (x97_6 : Bool), v97 = .bool x97_6 ∧ Aside0 (laws_FnTickets.j0 kq l0 t766 t768 x97_6 = some r) ∧ Aside0 (kq ≤ k) ∧ Aside0 (Kd.R (Kd.int .i64) 3 wc w.heap.size (fun k_ => some k_ ≠ ((.slice Ao12 t763.length co12) : Value).ownBlock ∧ some k_ ≠ ((.slice Ao18 t775.length co18) : Value).ownBlock ∧ some k_ ≠ ((.slice Ao19 t778.length co19) : Value).ownBlock) (.slice Ao11 t760.length co11) t760) ∧ Aside0 (Kd.R (Kd.int .i64) 3 wc w.heap.size (fun k_ => some k_ ≠ ((.slice Ao11 t760.length co11) : Value).ownBlock ∧ some k_ ≠ ((.slice Ao18 t775.length co18) : Value).ownBlock ∧ some k_ ≠ ((.slice Ao19 t778.length co19) : Value).ownBlock) (.slice Ao12 t763.length co12) t763) ∧ Aside0 (Kd.R (Kd.int .i64) 3 wc w.heap.size (fun k_ => some k_ ≠ ((.slice Ao11 t760.length co11) : Value).ownBlock ∧ some k_ ≠ ((.slice Ao12 t763.length co12) : Value).ownBlock ∧ some k_ ≠ ((.slice Ao19 t778.length co19) : Value).ownBlock) (.slice Ao18 t775.length co18) t775) ∧ Aside0 (Kd.R (Kd.int .i64) 3 wc w.heap.size (fun k_ => some k_ ≠ ((.slice Ao11 t760.length co11) : Value).ownBlock ∧ some k_ ≠ ((.slice Ao12 t763.length co12) : Value).ownBlock ∧ some k_ ≠ ((.slice Ao18 t775.length co18) : Value).ownBlock) (.slice Ao19 t778.length co19) t778) ∧ Aside0 (wc.heap[gb767]? = some (.cells #[.int .i64 t754, .int .i64 t755, .int .i64 t756, .int .i64 t757, .int .i64 t758, .int .i64 t759, (.slice Ao11 t760.length co11), (.slice Ao12 t763.length co12)] 28 (0, 0))) ∧ Aside0 (wc.heap[gb782]? = some (.cells #[.int .i64 t769, .int .i64 t770, .int .i64 t771, .int .i64 t772, .int .i64 t773, .int .i64 t774, (.slice Ao18 t775.length co18), (.slice Ao19 t778.length co19)] 28 (0, 0))) ∧ Aside0 (Below w.heap.size w wc))
 case first =>
  have H := HC7.out
  clear HC7
  refine laws_FnTickets.oE1 H ?_
  clear H
  intro t783 A20 H
  by_cases c21 : (t781 != (t783.toList != ([] : List UInt8))) = true
  ·exact (laws_FnTickets.n0 (by rw [if_pos c21] at H; exact H) hr_true).elim
  rw [if_neg c21] at H
  by_cases c25 : t781 = true
  ·subst c25
   have d1 : ¬ t783.toList = ([] : List UInt8) := fun e_ => c21 (by rw [e_]; rfl)
   have n1 : (t783.toList != ([] : List UInt8)) = true := bne_iff_ne.mpr d1
   have e1 : t783.toList.isEmpty = false := by cases h_ : t783.toList.isEmpty with | false => rfl | true => exact absurd (List.isEmpty_iff.mp h_) d1
   have m1 : (t783.toList == ([] : List UInt8)) = false := beq_eq_false_iff_ne.mpr d1
   clear d1 c21
   rw [if_pos rfl] at H
   by_cases c26 : t769 = t754
   ·rw [if_pos c26] at H
    have c26b0 : (t769 == t754) = true := beq_iff_eq.mpr c26
    have c26b1 : (t769 != t754) = false := bne_eq_false_iff_eq.mpr c26
    clear c26
    by_cases c27 : t770 = t755
    ·rw [if_pos c27] at H
     have c27b0 : (t770 == t755) = true := beq_iff_eq.mpr c27
     have c27b1 : (t770 != t755) = false := bne_eq_false_iff_eq.mpr c27
     clear c27
     by_cases c28 : t771 = t756
     ·rw [if_pos c28] at H
      have c28b0 : (t771 == t756) = true := beq_iff_eq.mpr c28
      have c28b1 : (t771 != t756) = false := bne_eq_false_iff_eq.mpr c28
      clear c28
      by_cases c29 : (!(t772 == t757) || (!(t773 == t758) || (!(t774 == t759)))) = true
      ·rw [if_pos c29] at H
       have c29b0 : (!(t772 == t757) || (!(t773 == t758) || (!(t774 == t759)))) = true := c29
       clear c29
       exact (laws_FnTickets.n0 H hr_true).elim
      rw [if_neg c29] at H
      have c29b0 : (!(t772 == t757) || (!(t773 == t758) || (!(t774 == t759)))) = false := by simpa using c29
      clear c29
      refine laws_FnTickets.oE1 H ?_
      clear H
      intro t784 A35 H
      by_cases c36 : t784 = true
      ·subst c36
       rw [if_pos rfl] at H
       refine laws_FnTickets.oE1 H ?_
       clear H
       intro t785 A37 H
       cases t785 with
       | false => exact (laws_FnTickets.n0 H hr_true).elim
       | true =>
        have H' := Aside0.mk H
        clear H
        have hnb38 := NB767_782.out
        have hnc38 := NB782_767.out
        have hcz39_0 : w15.cell? ⟨gb767, 0, none⟩ = some (.int .i64 t754) := (blk_cell BK767.out 0).trans rfl
        have hcz39_1 : w15.cell? ⟨gb767, 1, none⟩ = some (.int .i64 t755) := (blk_cell BK767.out 1).trans rfl
        have hcz39_2 : w15.cell? ⟨gb767, 2, none⟩ = some (.int .i64 t756) := (blk_cell BK767.out 2).trans rfl
        have hcz39_3 : w15.cell? ⟨gb767, 3, none⟩ = some (.int .i64 t757) := (blk_cell BK767.out 3).trans rfl
        have hcz39_4 : w15.cell? ⟨gb767, 4, none⟩ = some (.int .i64 t758) := (blk_cell BK767.out 4).trans rfl
        have hcz39_5 : w15.cell? ⟨gb767, 5, none⟩ = some (.int .i64 t759) := (blk_cell BK767.out 5).trans rfl
        have hcz39_6 : w15.cell? ⟨gb767, 6, none⟩ = some (.slice Ao11 t760.length co11) := (blk_cell BK767.out 6).trans rfl
        have hcz39_7 : w15.cell? ⟨gb767, 7, none⟩ = some (.slice Ao12 t763.length co12) := (blk_cell BK767.out 7).trans rfl
        have hfz39_0 := blk_frozen BK767.out 0
        have hfz39_1 := blk_frozen BK767.out 1
        have hfz39_2 := blk_frozen BK767.out 2
        have hfz39_3 := blk_frozen BK767.out 3
        have hfz39_4 := blk_frozen BK767.out 4
        have hfz39_5 := blk_frozen BK767.out 5
        have hfz39_6 := blk_frozen BK767.out 6
        have hfz39_7 := blk_frozen BK767.out 7
        go_wp2_with (first | ((with_reducible refine gC 8 rfl ?_); refine gL (some 48) Try.func8 #[.agg #[.int .i64 t754, .int .i64 t755, .int .i64 t756, .int .i64 t757, .int .i64 t758, .int .i64 t759, .slice Ao11 t760.length co11, .slice Ao12 t763.length co12], .int .i64 t766] ?_; (with_reducible refine (spec_ShowTicket.calls k t754 t755 t756 t757 t758 t759 _ _ t760 _ _ t763 t766 t783 _ ?side1 ?side2 ?side3 ?side4 A20.out).mono ?_); (case side1 => refine (Kd.R_reads' (e := 3) (base := w.heap.size) (ok := fun k_ => ((some k_ ≠ (.slice Ao12 t763.length co12 : Value).ownBlock ∧ some k_ ≠ (.slice Ao18 t775.length co18 : Value).ownBlock) ∧ some k_ ≠ (.slice Ao19 t778.length co19 : Value).ownBlock)) (n := t760.length) (c := co11) ?_).2.2; exact (rF8 HO762.out BK782.out)); (case side2 => exact (Kd.R_reads' HO762.out).2.1); (case side3 => refine (Kd.R_reads' (e := 3) (base := w.heap.size) (ok := fun k_ => ((some k_ ≠ (.slice Ao11 t760.length co11 : Value).ownBlock ∧ some k_ ≠ (.slice Ao18 t775.length co18 : Value).ownBlock) ∧ some k_ ≠ (.slice Ao19 t778.length co19 : Value).ownBlock)) (n := t763.length) (c := co12) ?_).2.2; exact (rF8 HO765.out BK782.out)); (case side4 => exact (Kd.R_reads' HO765.out).2.1); refine laws_FnTickets.xC0 ?_; intro w40 hb; have n_ := aT (Kd.R_below (rF8 HO762.out BK782.out) hb) (aT (Kd.R_below (rF8 HO765.out BK782.out) hb) (aT (Kd.R_below (rF8 HO777.out BK782.out) hb) (aT (Kd.R_below (rF8 HO780.out BK782.out) hb) (aT (bF NB767_782 BK767 hb) (aT (blk_below (g := gb782) (o := .cells #[.int .i64 t769, .int .i64 t770, .int .i64 t771, .int .i64 t772, .int .i64 t773, .int .i64 t774, .slice Ao18 t775.length co18, .slice Ao19 t778.length co19] 28 (0, 0)) (bP BK782) hb) (aM (below_step bS hb))))))); clear HO762 HO765 HO777 HO780 BK767 BK782 HB; obtain ⟨HO762, HO765, HO777, HO780, BK767, BK782, HB⟩ := n_; (try clear hb); have hcz41_0 : w40.cell? ⟨gb782, 0, none⟩ = some (.int .i64 t769) := (blk_cell BK782.out 0).trans rfl; have hcz41_1 : w40.cell? ⟨gb782, 1, none⟩ = some (.int .i64 t770) := (blk_cell BK782.out 1).trans rfl; have hcz41_2 : w40.cell? ⟨gb782, 2, none⟩ = some (.int .i64 t771) := (blk_cell BK782.out 2).trans rfl; have hcz41_3 : w40.cell? ⟨gb782, 3, none⟩ = some (.int .i64 t772) := (blk_cell BK782.out 3).trans rfl; have hcz41_4 : w40.cell? ⟨gb782, 4, none⟩ = some (.int .i64 t773) := (blk_cell BK782.out 4).trans rfl; have hcz41_5 : w40.cell? ⟨gb782, 5, none⟩ = some (.int .i64 t774) := (blk_cell BK782.out 5).trans rfl; have hcz41_6 : w40.cell? ⟨gb782, 6, none⟩ = some (.slice Ao18 t775.length co18) := (blk_cell BK782.out 6).trans rfl; have hcz41_7 : w40.cell? ⟨gb782, 7, none⟩ = some (.slice Ao19 t778.length co19) := (blk_cell BK782.out 7).trans rfl; have hfz41_0 := blk_frozen BK782.out 0; have hfz41_1 := blk_frozen BK782.out 1; have hfz41_2 := blk_frozen BK782.out 2; have hfz41_3 := blk_frozen BK782.out 3; have hfz41_4 := blk_frozen BK782.out 4; have hfz41_5 := blk_frozen BK782.out 5; have hfz41_6 := blk_frozen BK782.out 6; have hfz41_7 := blk_frozen BK782.out 7; have hcz42_0 : w40.cell? ⟨gb767, 0, none⟩ = some (.int .i64 t754) := (blk_cell BK767.out 0).trans rfl; have hcz42_1 : w40.cell? ⟨gb767, 1, none⟩ = some (.int .i64 t755) := (blk_cell BK767.out 1).trans rfl; have hcz42_2 : w40.cell? ⟨gb767, 2, none⟩ = some (.int .i64 t756) := (blk_cell BK767.out 2).trans rfl; have hcz42_3 : w40.cell? ⟨gb767, 3, none⟩ = some (.int .i64 t757) := (blk_cell BK767.out 3).trans rfl; have hcz42_4 : w40.cell? ⟨gb767, 4, none⟩ = some (.int .i64 t758) := (blk_cell BK767.out 4).trans rfl; have hcz42_5 : w40.cell? ⟨gb767, 5, none⟩ = some (.int .i64 t759) := (blk_cell BK767.out 5).trans rfl; have hcz42_6 : w40.cell? ⟨gb767, 6, none⟩ = some (.slice Ao11 t760.length co11) := (blk_cell BK767.out 6).trans rfl; have hcz42_7 : w40.cell? ⟨gb767, 7, none⟩ = some (.slice Ao12 t763.length co12) := (blk_cell BK767.out 7).trans rfl; have hfz42_0 := blk_frozen BK767.out 0; have hfz42_1 := blk_frozen BK767.out 1; have hfz42_2 := blk_frozen BK767.out 2; have hfz42_3 := blk_frozen BK767.out 3; have hfz42_4 := blk_frozen BK767.out 4; have hfz42_5 := blk_frozen BK767.out 5; have hfz42_6 := blk_frozen BK767.out 6; have hfz42_7 := blk_frozen BK767.out 7) | (go_at_call 9; (with_reducible refine (laws_sameInts.calls k _ _ t775 _ _ t760 true _ ?side1 ?side2 ?side3 ?side4 A35.out).mono ?_); (case side1 => exact cA ((Kd.R_reads' HO777.out).2.2)); (case side2 => exact (Kd.R_reads' HO777.out).2.1); (case side3 => exact cA ((Kd.R_reads' HO762.out).2.2)); (case side4 => exact (Kd.R_reads' HO762.out).2.1); rintro e w' ⟨rfl, ⟨nd, rfl⟩⟩) | (go_at_call 9; (with_reducible refine (laws_sameInts.calls k _ _ t778 _ _ t763 true _ ?side1 ?side2 ?side3 ?side4 A37.out).mono ?_); (case side1 => exact cA ((Kd.R_reads' HO780.out).2.2)); (case side2 => exact (Kd.R_reads' HO780.out).2.1); (case side3 => exact cA ((Kd.R_reads' HO765.out).2.2)); (case side4 => exact (Kd.R_reads' HO765.out).2.1); rintro e w' ⟨rfl, ⟨nd, rfl⟩⟩))
        go_meet
        case rel => exact ⟨_, (!true), eX, H', ⟨(by first | omega | exact Nat.le_refl _)⟩, ⟨(rM HO762.out (fun _ hk => ⟨hk.1.1, ⟨hk.1.2, hk.2⟩⟩))⟩, ⟨(rM HO765.out (fun _ hk => ⟨hk.1.1, ⟨hk.1.2, hk.2⟩⟩))⟩, ⟨(rM HO777.out (fun _ hk => ⟨hk.1.2, ⟨hk.2, hk.1.1⟩⟩))⟩, ⟨(rM HO780.out (fun _ hk => ⟨hk.1.2, ⟨hk.2, hk.1.1⟩⟩))⟩, ⟨(kB BK767.out)⟩, ⟨(kB BK782.out)⟩, ⟨bS⟩⟩
      replace c36 := Bool.eq_false_iff.mpr c36
      subst c36
      rw [if_neg nF] at H
      exact (laws_FnTickets.n0 H hr_true).elim
     rw [if_neg c28] at H
     have c28b0 : (t771 == t756) = false := beq_eq_false_iff_ne.mpr c28
     have c28b1 : (t771 != t756) = true := bne_iff_ne.mpr c28
     exact (laws_FnTickets.n0 H hr_true).elim
    rw [if_neg c27] at H
    have c27b0 : (t770 == t755) = false := beq_eq_false_iff_ne.mpr c27
    have c27b1 : (t770 != t755) = true := bne_iff_ne.mpr c27
    exact (laws_FnTickets.n0 H hr_true).elim
   rw [if_neg c26] at H
   have c26b0 : (t769 == t754) = false := beq_eq_false_iff_ne.mpr c26
   have c26b1 : (t769 != t754) = true := bne_iff_ne.mpr c26
   exact (laws_FnTickets.n0 H hr_true).elim
  replace c25 := Bool.eq_false_iff.mpr c25
  subst c25
  have d1 : t783.toList = ([] : List UInt8) := by
   by_cases e_ : t783.toList = ([] : List UInt8)
   ·exact e_
   exact absurd (show (false != (t783.toList != ([] : List UInt8))) = true by rw [bne_iff_ne.mpr e_]; rfl) c21
  have n1 : (t783.toList != ([] : List UInt8)) = false := bne_eq_false_iff_eq.mpr d1
  have e1 : t783.toList.isEmpty = true := List.isEmpty_iff.mpr d1
  have m1 : (t783.toList == ([] : List UInt8)) = true := beq_iff_eq.mpr d1
  clear d1 c21
  rw [if_neg nF] at H
  have H' := Aside0.mk H
  clear H
  have hnb63 := NB767_782.out
  have hnc63 := NB782_767.out
  have hcz64_0 : w15.cell? ⟨gb767, 0, none⟩ = some (.int .i64 t754) := (blk_cell BK767.out 0).trans rfl
  have hcz64_1 : w15.cell? ⟨gb767, 1, none⟩ = some (.int .i64 t755) := (blk_cell BK767.out 1).trans rfl
  have hcz64_2 : w15.cell? ⟨gb767, 2, none⟩ = some (.int .i64 t756) := (blk_cell BK767.out 2).trans rfl
  have hcz64_3 : w15.cell? ⟨gb767, 3, none⟩ = some (.int .i64 t757) := (blk_cell BK767.out 3).trans rfl
  have hcz64_4 : w15.cell? ⟨gb767, 4, none⟩ = some (.int .i64 t758) := (blk_cell BK767.out 4).trans rfl
  have hcz64_5 : w15.cell? ⟨gb767, 5, none⟩ = some (.int .i64 t759) := (blk_cell BK767.out 5).trans rfl
  have hcz64_6 : w15.cell? ⟨gb767, 6, none⟩ = some (.slice Ao11 t760.length co11) := (blk_cell BK767.out 6).trans rfl
  have hcz64_7 : w15.cell? ⟨gb767, 7, none⟩ = some (.slice Ao12 t763.length co12) := (blk_cell BK767.out 7).trans rfl
  have hfz64_0 := blk_frozen BK767.out 0
  have hfz64_1 := blk_frozen BK767.out 1
  have hfz64_2 := blk_frozen BK767.out 2
  have hfz64_3 := blk_frozen BK767.out 3
  have hfz64_4 := blk_frozen BK767.out 4
  have hfz64_5 := blk_frozen BK767.out 5
  have hfz64_6 := blk_frozen BK767.out 6
  have hfz64_7 := blk_frozen BK767.out 7
  go_wp2_with (first | ((with_reducible refine gC 8 rfl ?_); refine gL (some 48) Try.func8 #[.agg #[.int .i64 t754, .int .i64 t755, .int .i64 t756, .int .i64 t757, .int .i64 t758, .int .i64 t759, .slice Ao11 t760.length co11, .slice Ao12 t763.length co12], .int .i64 t766] ?_; (with_reducible refine (spec_ShowTicket.calls k t754 t755 t756 t757 t758 t759 _ _ t760 _ _ t763 t766 t783 _ ?side1 ?side2 ?side3 ?side4 A20.out).mono ?_); (case side1 => refine (Kd.R_reads' (e := 3) (base := w.heap.size) (ok := fun k_ => ((some k_ ≠ (.slice Ao12 t763.length co12 : Value).ownBlock ∧ some k_ ≠ (.slice Ao18 t775.length co18 : Value).ownBlock) ∧ some k_ ≠ (.slice Ao19 t778.length co19 : Value).ownBlock)) (n := t760.length) (c := co11) ?_).2.2; exact (rF8 HO762.out BK782.out)); (case side2 => exact (Kd.R_reads' HO762.out).2.1); (case side3 => refine (Kd.R_reads' (e := 3) (base := w.heap.size) (ok := fun k_ => ((some k_ ≠ (.slice Ao11 t760.length co11 : Value).ownBlock ∧ some k_ ≠ (.slice Ao18 t775.length co18 : Value).ownBlock) ∧ some k_ ≠ (.slice Ao19 t778.length co19 : Value).ownBlock)) (n := t763.length) (c := co12) ?_).2.2; exact (rF8 HO765.out BK782.out)); (case side4 => exact (Kd.R_reads' HO765.out).2.1); refine laws_FnTickets.xC0 ?_; intro w65 hb; have n_ := aT (Kd.R_below (rF8 HO762.out BK782.out) hb) (aT (Kd.R_below (rF8 HO765.out BK782.out) hb) (aT (Kd.R_below (rF8 HO777.out BK782.out) hb) (aT (Kd.R_below (rF8 HO780.out BK782.out) hb) (aT (bF NB767_782 BK767 hb) (aT (blk_below (g := gb782) (o := .cells #[.int .i64 t769, .int .i64 t770, .int .i64 t771, .int .i64 t772, .int .i64 t773, .int .i64 t774, .slice Ao18 t775.length co18, .slice Ao19 t778.length co19] 28 (0, 0)) (bP BK782) hb) (aM (below_step bS hb))))))); clear HO762 HO765 HO777 HO780 BK767 BK782 HB; obtain ⟨HO762, HO765, HO777, HO780, BK767, BK782, HB⟩ := n_; (try clear hb)))
  go_meet
  case rel => exact ⟨_, (false), eX, H', ⟨(by first | omega | exact Nat.le_refl _)⟩, ⟨(rM HO762.out (fun _ hk => ⟨hk.1.1, ⟨hk.1.2, hk.2⟩⟩))⟩, ⟨(rM HO765.out (fun _ hk => ⟨hk.1.1, ⟨hk.1.2, hk.2⟩⟩))⟩, ⟨(rM HO777.out (fun _ hk => ⟨hk.1.2, ⟨hk.2, hk.1.1⟩⟩))⟩, ⟨(rM HO780.out (fun _ hk => ⟨hk.1.2, ⟨hk.2, hk.1.1⟩⟩))⟩, ⟨(kB BK767.out)⟩, ⟨(kB BK782.out)⟩, ⟨bS⟩⟩
 clear HC7
 try clear c3
 try clear hcz10_0
 try clear hcz10_1
 try clear hcz10_2
 try clear hcz10_3
 try clear hcz10_4
 try clear hcz10_5
 try clear hcz10_6
 try clear hcz10_7
 try clear hcz17_0
 try clear hcz17_1
 try clear hcz17_2
 try clear hcz17_3
 try clear hcz17_4
 try clear hcz17_5
 try clear hcz17_6
 try clear hcz17_7
 try clear hfz10_0
 try clear hfz10_1
 try clear hfz10_2
 try clear hfz10_3
 try clear hfz10_4
 try clear hfz10_5
 try clear hfz10_6
 try clear hfz10_7
 try clear hfz17_0
 try clear hfz17_1
 try clear hfz17_2
 try clear hfz17_3
 try clear hfz17_4
 try clear hfz17_5
 try clear hfz17_6
 try clear hfz17_7
 obtain ⟨kq, x97_6, rfl, hR_⟩ := hcut
 have HA := hR_.1
 have HJ6 := hR_.2.1
 have HO_768006 := hR_.2.2.1
 have HO_768007 := hR_.2.2.2.1
 have HO_783006 := hR_.2.2.2.2.1
 have HO_783007 := hR_.2.2.2.2.2.1
 have BK767 := hR_.2.2.2.2.2.2.1
 have BK782 := hR_.2.2.2.2.2.2.2.1
 have HB := hR_.2.2.2.2.2.2.2.2
 clear hR_
 obtain _ | kj6 := kq
 ·exact absurd HA.out (by simp [laws_FnTickets.j0])
 have H := HA.out
 clear HA
 simp only [laws_FnTickets.j0] at H
 by_cases c66 : x97_6 = true
 ·subst c66
  rw [if_pos rfl] at H
  rw [hr_true.out] at H
  exact absurd H (by simp)
 replace c66 := Bool.eq_false_iff.mpr c66
 subst c66
 rw [if_neg nF] at H
 refine laws_FnTickets.oE4 H ?_
 clear H
 intro t786 t787 t788 t789 A67 H
 dsimp only at H
 refine laws_FnTickets.oE1 H ?_
 clear H
 intro t791 A68 H
 refine laws_FnTickets.oE4 H ?_
 clear H
 intro t792 t793 t794 t795 A69 H
 dsimp only at H
 have HC70 := Aside0.mk H
 clear H
 go_upto_region 11 with (first | ((with_reducible refine gC 10 rfl ?_); refine gL (some 100) Try.func10 #[.slice A0 l0.length c0] ?_; (with_reducible refine (spec_DrawShowAuth.calls kj6 _ _ l0 t786 t787 t788 t789 _ ?side1 ?side2 A67.out).mono ?_); (case side1 => exact cA (Kd.C_below HR0.out HB.out)); (case side2 => exact HC0.out); refine laws_FnTickets.xC0 ?_; intro w71 hb; have n_ := aT (rB HO_768006 hb) (aT (rB HO_768007 hb) (aT (rB HO_783006 hb) (aT (rB HO_783007 hb) (aT (bB BK767 hb) (aT (bB BK782 hb) (aM (below_step bS hb))))))); clear HO_768006 HO_768007 HO_783006 HO_783007 BK767 BK782 HB; obtain ⟨HO_768006, HO_768007, HO_783006, HO_783007, BK767, BK782, HB⟩ := n_; (try clear hb)) | ((with_reducible refine gD 8 rfl ?_); refine bE #[.int .i64 0, .int .i64 0, .int .i64 0] 36 ?_; intro gb790 hg w72 hbox hb; have n_ := aT (rB HO_768006 hb) (aT (rB HO_768007 hb) (aT (rB HO_783006 hb) (aT (rB HO_783007 hb) (aT (bB BK767 hb) (aT (bB BK782 hb) (aT (below_step bS hb) (aT (hbox) (aT ((bZ hg : w.heap.size ≤ gb790)) (aT ((bZ hg : w.heap.size ≤ gb790)) (aT (lB hg BK767) (aT (gB hg BK767) (aT (lB hg BK782) (aM (gB hg BK782)))))))))))))); clear HO_768006 HO_768007 HO_783006 HO_783007 BK767 BK782 HB; obtain ⟨HO_768006, HO_768007, HO_783006, HO_783007, BK767, BK782, HB, BK790, GW790, GE790, NB767_790, NB790_767, NB782_790, NB790_782⟩ := n_; clear hb hbox hg; have hnb73 := NB790_767.out; have hnc73 := NB767_790.out; have hnb74 := NB790_782.out; have hnc74 := NB782_790.out; have hcz75_0 : w72.cell? ⟨gb790, 0, none⟩ = some (.int .i64 0) := (blk_cell BK790.out 0).trans rfl; have hcz75_1 : w72.cell? ⟨gb790, 1, none⟩ = some (.int .i64 0) := (blk_cell BK790.out 1).trans rfl; have hcz75_2 : w72.cell? ⟨gb790, 2, none⟩ = some (.int .i64 0) := (blk_cell BK790.out 2).trans rfl; have hfz75_0 := blk_frozen BK790.out 0; have hfz75_1 := blk_frozen BK790.out 1; have hfz75_2 := blk_frozen BK790.out 2) | ((with_reducible refine gC 11 rfl ?_); refine gL (some 105) Try.func11 #[.agg #[.int .i64 t786, .int .i64 t787, .int .i64 t788], .int .i64 t789] ?_; (with_reducible refine (impl_ShowAuth.calls kj6 t786 t787 t788 t789 t791 _ A68.out).mono ?_); refine laws_FnTickets.xC0 ?_; intro w76 hb; have n_ := aT (Kd.R_below (rF3 HO_768006.out BK790.out) hb) (aT (Kd.R_below (rF3 HO_768007.out BK790.out) hb) (aT (Kd.R_below (rF3 HO_783006.out BK790.out) hb) (aT (Kd.R_below (rF3 HO_783007.out BK790.out) hb) (aT (bF NB767_790 BK767 hb) (aT (bF NB782_790 BK782 hb) (aT (blk_below (g := gb790) (o := .cells #[.int .i64 t786, .int .i64 t787, .int .i64 t788] 36 (0, 0)) (bP BK790) hb) (aM (below_step bS hb)))))))); clear HO_768006 HO_768007 HO_783006 HO_783007 BK767 BK782 BK790 HB; obtain ⟨HO_768006, HO_768007, HO_783006, HO_783007, BK767, BK782, BK790, HB⟩ := n_; (try clear hb)) | ((with_reducible refine gC 12 rfl ?_); refine gL (some 109) Try.func12 #[.string t791, .int .i64 t789] ?_; (with_reducible refine (impl_ReadAuth.calls kj6 t791 t789 t792 t793 t794 t795 _ A69.out).mono ?_); refine laws_FnTickets.xC0 ?_; intro w77 hb; have n_ := aT (rB HO_768006 hb) (aT (rB HO_768007 hb) (aT (rB HO_783006 hb) (aT (rB HO_783007 hb) (aT (bB BK767 hb) (aT (bB BK782 hb) (aT (bB BK790 hb) (aM (below_step bS hb)))))))); clear HO_768006 HO_768007 HO_783006 HO_783007 BK767 BK782 BK790 HB; obtain ⟨HO_768006, HO_768007, HO_783006, HO_783007, BK767, BK782, BK790, HB⟩ := n_; (try clear hb)) | ((with_reducible refine gD 11 rfl ?_); refine bE #[.int .i64 0, .int .i64 0, .int .i64 0] 36 ?_; intro gb796 hg w78 hbox hb; have n_ := aT (rB HO_768006 hb) (aT (rB HO_768007 hb) (aT (rB HO_783006 hb) (aT (rB HO_783007 hb) (aT (bB BK767 hb) (aT (bB BK782 hb) (aT (bB BK790 hb) (aT (below_step bS hb) (aT (hbox) (aT ((bZ hg : w.heap.size ≤ gb796)) (aT ((bZ hg : w.heap.size ≤ gb796)) (aT (lB hg BK767) (aT (gB hg BK767) (aT (lB hg BK782) (aT (gB hg BK782) (aT (lB hg BK790) (aM (gB hg BK790))))))))))))))))); clear HO_768006 HO_768007 HO_783006 HO_783007 BK767 BK782 BK790 HB; obtain ⟨HO_768006, HO_768007, HO_783006, HO_783007, BK767, BK782, BK790, HB, BK796, GW796, GE796, NB767_796, NB796_767, NB782_796, NB796_782, NB790_796, NB796_790⟩ := n_; clear hb hbox hg; have hnb79 := NB796_767.out; have hnc79 := NB767_796.out; have hnb80 := NB796_782.out; have hnc80 := NB782_796.out; have hnb81 := NB796_790.out; have hnc81 := NB790_796.out; have hcz82_0 : w78.cell? ⟨gb796, 0, none⟩ = some (.int .i64 0) := (blk_cell BK796.out 0).trans rfl; have hcz82_1 : w78.cell? ⟨gb796, 1, none⟩ = some (.int .i64 0) := (blk_cell BK796.out 1).trans rfl; have hcz82_2 : w78.cell? ⟨gb796, 2, none⟩ = some (.int .i64 0) := (blk_cell BK796.out 2).trans rfl; have hfz82_0 := blk_frozen BK796.out 0; have hfz82_1 := blk_frozen BK796.out 1; have hfz82_2 := blk_frozen BK796.out 2))
 (try simp only [Act.put, List.setIfInBounds_toArray, List.set_cons_zero, List.set_cons_succ])
 go_cut [125] (fun v125 wc => ∃ (kq : Nat) (x125_69 : Bool), v125 = .bool x125_69 ∧ Aside0 (laws_FnTickets.j1 kq l0 t766 t768 t789 t791 x125_69 = some r) ∧ Aside0 (kq ≤ kj6) ∧ Aside0 (Kd.R (Kd.int .i64) 3 wc w.heap.size (fun k_ => some k_ ≠ ((.slice Ao12 t763.length co12) : Value).ownBlock ∧ some k_ ≠ ((.slice Ao18 t775.length co18) : Value).ownBlock ∧ some k_ ≠ ((.slice Ao19 t778.length co19) : Value).ownBlock) (.slice Ao11 t760.length co11) t760) ∧ Aside0 (Kd.R (Kd.int .i64) 3 wc w.heap.size (fun k_ => some k_ ≠ ((.slice Ao11 t760.length co11) : Value).ownBlock ∧ some k_ ≠ ((.slice Ao18 t775.length co18) : Value).ownBlock ∧ some k_ ≠ ((.slice Ao19 t778.length co19) : Value).ownBlock) (.slice Ao12 t763.length co12) t763) ∧ Aside0 (Kd.R (Kd.int .i64) 3 wc w.heap.size (fun k_ => some k_ ≠ ((.slice Ao11 t760.length co11) : Value).ownBlock ∧ some k_ ≠ ((.slice Ao12 t763.length co12) : Value).ownBlock ∧ some k_ ≠ ((.slice Ao19 t778.length co19) : Value).ownBlock) (.slice Ao18 t775.length co18) t775) ∧ Aside0 (Kd.R (Kd.int .i64) 3 wc w.heap.size (fun k_ => some k_ ≠ ((.slice Ao11 t760.length co11) : Value).ownBlock ∧ some k_ ≠ ((.slice Ao12 t763.length co12) : Value).ownBlock ∧ some k_ ≠ ((.slice Ao18 t775.length co18) : Value).ownBlock) (.slice Ao19 t778.length co19) t778) ∧ Aside0 (wc.heap[gb767]? = some (.cells #[.int .i64 t754, .int .i64 t755, .int .i64 t756, .int .i64 t757, .int .i64 t758, .int .i64 t759, (.slice Ao11 t760.length co11), (.slice Ao12 t763.length co12)] 28 (0, 0))) ∧ Aside0 (wc.heap[gb782]? = some (.cells #[.int .i64 t769, .int .i64 t770, .int .i64 t771, .int .i64 t772, .int .i64 t773, .int .i64 t774, (.slice Ao18 t775.length co18), (.slice Ao19 t778.length co19)] 28 (0, 0))) ∧ Aside0 (wc.heap[gb790]? = some (.cells #[.int .i64 t786, .int .i64 t787, .int .i64 t788] 36 (0, 0))) ∧ Aside0 (wc.heap[gb796]? = some (.cells #[.int .i64 t792, .int .i64 t793, .int .i64 t794] 36 (0, 0))) ∧ Aside0 (Below w.heap.size w wc))
 case first =>
  have H := HC70.out
  clear HC70
  refine laws_FnTickets.oE1 H ?_
  clear H
  intro t797 A83 H
  by_cases c84 : (t795 != (t797.toList != ([] : List UInt8))) = true
  ·exact (laws_FnTickets.n1 (by rw [if_pos c84] at H; exact H) hr_true).elim
  rw [if_neg c84] at H
  by_cases c90 : t795 = true
  ·subst c90
   have d1 : ¬ t797.toList = ([] : List UInt8) := fun e_ => c84 (by rw [e_]; rfl)
   have n1 : (t797.toList != ([] : List UInt8)) = true := bne_iff_ne.mpr d1
   have e1 : t797.toList.isEmpty = false := by cases h_ : t797.toList.isEmpty with | false => rfl | true => exact absurd (List.isEmpty_iff.mp h_) d1
   have m1 : (t797.toList == ([] : List UInt8)) = false := beq_eq_false_iff_ne.mpr d1
   clear d1 c84
   rw [if_pos rfl] at H
   by_cases cE : ((!(t792 == t786) || (!(t793 == t787) || (!(t794 == t788))))) = true
   ·rw [cE] at H
    exact (laws_FnTickets.n1 H hr_true).elim
   have cF : ((!(t792 == t786) || (!(t793 == t787) || (!(t794 == t788))))) = false := Bool.eq_false_iff.mpr cE
   rw [cF] at H
   have qs : t792 = t786 ∧ t793 = t787 ∧ t794 = t788 := by simpa using cF
   clear cE cF
   obtain ⟨q0_, q1_, q2_⟩ := qs
   replace q0_ := q0_.symm
   subst q0_
   replace q1_ := q1_.symm
   subst q1_
   replace q2_ := q2_.symm
   subst q2_
   have H' := Aside0.mk H
   clear H
   have hnb91 := NB790_767.out
   have hnc91 := NB767_790.out
   have hnb92 := NB790_782.out
   have hnc92 := NB782_790.out
   have hnb93 := NB790_796.out
   have hnc93 := NB796_790.out
   have hcz94_0 : w78.cell? ⟨gb790, 0, none⟩ = some (.int .i64 t786) := (blk_cell BK790.out 0).trans rfl
   have hcz94_1 : w78.cell? ⟨gb790, 1, none⟩ = some (.int .i64 t787) := (blk_cell BK790.out 1).trans rfl
   have hcz94_2 : w78.cell? ⟨gb790, 2, none⟩ = some (.int .i64 t788) := (blk_cell BK790.out 2).trans rfl
   have hfz94_0 := blk_frozen BK790.out 0
   have hfz94_1 := blk_frozen BK790.out 1
   have hfz94_2 := blk_frozen BK790.out 2
   go_wp2_with (first | ((with_reducible refine gC 13 rfl ?_); refine gL (some 115) Try.func13 #[.agg #[.int .i64 t786, .int .i64 t787, .int .i64 t788], .int .i64 t789] ?_; (with_reducible refine (spec_ShowAuth.calls kj6 t786 t787 t788 t789 t797 _ A83.out).mono ?_); refine laws_FnTickets.xC0 ?_; intro w95 hb; have n_ := aT (Kd.R_below (rF3 HO_768006.out BK796.out) hb) (aT (Kd.R_below (rF3 HO_768007.out BK796.out) hb) (aT (Kd.R_below (rF3 HO_783006.out BK796.out) hb) (aT (Kd.R_below (rF3 HO_783007.out BK796.out) hb) (aT (bF NB767_796 BK767 hb) (aT (bF NB782_796 BK782 hb) (aT (bF NB790_796 BK790 hb) (aT (blk_below (g := gb796) (o := .cells #[.int .i64 t786, .int .i64 t787, .int .i64 t788] 36 (0, 0)) (bP BK796) hb) (aM (below_step bS hb))))))))); clear HO_768006 HO_768007 HO_783006 HO_783007 BK767 BK782 BK790 BK796 HB; obtain ⟨HO_768006, HO_768007, HO_783006, HO_783007, BK767, BK782, BK790, BK796, HB⟩ := n_; (try clear hb); have hnb96 := NB796_767.out; have hnc96 := NB767_796.out; have hnb97 := NB796_782.out; have hnc97 := NB782_796.out; have hcz98_0 : w95.cell? ⟨gb796, 0, none⟩ = some (.int .i64 t786) := (blk_cell BK796.out 0).trans rfl; have hcz98_1 : w95.cell? ⟨gb796, 1, none⟩ = some (.int .i64 t787) := (blk_cell BK796.out 1).trans rfl; have hcz98_2 : w95.cell? ⟨gb796, 2, none⟩ = some (.int .i64 t788) := (blk_cell BK796.out 2).trans rfl; have hfz98_0 := blk_frozen BK796.out 0; have hfz98_1 := blk_frozen BK796.out 1; have hfz98_2 := blk_frozen BK796.out 2; have hcz99_0 : w95.cell? ⟨gb790, 0, none⟩ = some (.int .i64 t786) := (blk_cell BK790.out 0).trans rfl; have hcz99_1 : w95.cell? ⟨gb790, 1, none⟩ = some (.int .i64 t787) := (blk_cell BK790.out 1).trans rfl; have hcz99_2 : w95.cell? ⟨gb790, 2, none⟩ = some (.int .i64 t788) := (blk_cell BK790.out 2).trans rfl; have hfz99_0 := blk_frozen BK790.out 0; have hfz99_1 := blk_frozen BK790.out 1; have hfz99_2 := blk_frozen BK790.out 2))
   go_meet
   case rel => exact ⟨_, (false), eX, H', ⟨(by have := HJ6.out; first | omega | exact Nat.le_refl _)⟩, ⟨(kR HO_768006.out)⟩, ⟨(kR HO_768007.out)⟩, ⟨(kR HO_783006.out)⟩, ⟨(kR HO_783007.out)⟩, ⟨(kB BK767.out)⟩, ⟨(kB BK782.out)⟩, ⟨(kB BK790.out)⟩, ⟨(kB BK796.out)⟩, ⟨bS⟩⟩
  replace c90 := Bool.eq_false_iff.mpr c90
  subst c90
  have d1 : t797.toList = ([] : List UInt8) := by
   by_cases e_ : t797.toList = ([] : List UInt8)
   ·exact e_
   exact absurd (show (false != (t797.toList != ([] : List UInt8))) = true by rw [bne_iff_ne.mpr e_]; rfl) c84
  have n1 : (t797.toList != ([] : List UInt8)) = false := bne_eq_false_iff_eq.mpr d1
  have e1 : t797.toList.isEmpty = true := List.isEmpty_iff.mpr d1
  have m1 : (t797.toList == ([] : List UInt8)) = true := beq_iff_eq.mpr d1
  clear d1 c84
  rw [if_neg nF] at H
  have H' := Aside0.mk H
  clear H
  have hnb100 := NB790_767.out
  have hnc100 := NB767_790.out
  have hnb101 := NB790_782.out
  have hnc101 := NB782_790.out
  have hnb102 := NB790_796.out
  have hnc102 := NB796_790.out
  have hcz103_0 : w78.cell? ⟨gb790, 0, none⟩ = some (.int .i64 t786) := (blk_cell BK790.out 0).trans rfl
  have hcz103_1 : w78.cell? ⟨gb790, 1, none⟩ = some (.int .i64 t787) := (blk_cell BK790.out 1).trans rfl
  have hcz103_2 : w78.cell? ⟨gb790, 2, none⟩ = some (.int .i64 t788) := (blk_cell BK790.out 2).trans rfl
  have hfz103_0 := blk_frozen BK790.out 0
  have hfz103_1 := blk_frozen BK790.out 1
  have hfz103_2 := blk_frozen BK790.out 2
  go_wp2_with (first | ((with_reducible refine gC 13 rfl ?_); refine gL (some 115) Try.func13 #[.agg #[.int .i64 t786, .int .i64 t787, .int .i64 t788], .int .i64 t789] ?_; (with_reducible refine (spec_ShowAuth.calls kj6 t786 t787 t788 t789 t797 _ A83.out).mono ?_); refine laws_FnTickets.xC0 ?_; intro w104 hb; have n_ := aT (Kd.R_below (rF3 HO_768006.out BK796.out) hb) (aT (Kd.R_below (rF3 HO_768007.out BK796.out) hb) (aT (Kd.R_below (rF3 HO_783006.out BK796.out) hb) (aT (Kd.R_below (rF3 HO_783007.out BK796.out) hb) (aT (bF NB767_796 BK767 hb) (aT (bF NB782_796 BK782 hb) (aT (bF NB790_796 BK790 hb) (aT (blk_below (g := gb796) (o := .cells #[.int .i64 t792, .int .i64 t793, .int .i64 t794] 36 (0, 0)) (bP BK796) hb) (aM (below_step bS hb))))))))); clear HO_768006 HO_768007 HO_783006 HO_783007 BK767 BK782 BK790 BK796 HB; obtain ⟨HO_768006, HO_768007, HO_783006, HO_783007, BK767, BK782, BK790, BK796, HB⟩ := n_; (try clear hb)))
  go_meet
  case rel => exact ⟨_, (false), eX, H', ⟨(by have := HJ6.out; first | omega | exact Nat.le_refl _)⟩, ⟨(kR HO_768006.out)⟩, ⟨(kR HO_768007.out)⟩, ⟨(kR HO_783006.out)⟩, ⟨(kR HO_783007.out)⟩, ⟨(kB BK767.out)⟩, ⟨(kB BK782.out)⟩, ⟨(kB BK790.out)⟩, ⟨(kB BK796.out)⟩, ⟨bS⟩⟩
 clear HC70
 try clear c3
 try clear c66
 try clear hcz10_0
 try clear hcz10_1
 try clear hcz10_2
 try clear hcz10_3
 try clear hcz10_4
 try clear hcz10_5
 try clear hcz10_6
 try clear hcz10_7
 try clear hcz17_0
 try clear hcz17_1
 try clear hcz17_2
 try clear hcz17_3
 try clear hcz17_4
 try clear hcz17_5
 try clear hcz17_6
 try clear hcz17_7
 try clear hcz75_0
 try clear hcz75_1
 try clear hcz75_2
 try clear hcz82_0
 try clear hcz82_1
 try clear hcz82_2
 try clear hfz10_0
 try clear hfz10_1
 try clear hfz10_2
 try clear hfz10_3
 try clear hfz10_4
 try clear hfz10_5
 try clear hfz10_6
 try clear hfz10_7
 try clear hfz17_0
 try clear hfz17_1
 try clear hfz17_2
 try clear hfz17_3
 try clear hfz17_4
 try clear hfz17_5
 try clear hfz17_6
 try clear hfz17_7
 try clear hfz75_0
 try clear hfz75_1
 try clear hfz75_2
 try clear hfz82_0
 try clear hfz82_1
 try clear hfz82_2
 obtain ⟨kq, x125_69, rfl, hR_⟩ := hcut
 have HA := hR_.1
 have HJ69 := hR_.2.1
 have HO_768006 := hR_.2.2.1
 have HO_768007 := hR_.2.2.2.1
 have HO_783006 := hR_.2.2.2.2.1
 have HO_783007 := hR_.2.2.2.2.2.1
 have BK767 := hR_.2.2.2.2.2.2.1
 have BK782 := hR_.2.2.2.2.2.2.2.1
 have BK790 := hR_.2.2.2.2.2.2.2.2.1
 have BK796 := hR_.2.2.2.2.2.2.2.2.2.1
 have HB := hR_.2.2.2.2.2.2.2.2.2.2
 clear hR_
 obtain _ | kj69 := kq
 ·exact absurd HA.out (by simp [laws_FnTickets.j1])
 have H := HA.out
 clear HA
 simp only [laws_FnTickets.j1] at H
 by_cases c105 : x125_69 = true
 ·subst c105
  rw [if_pos rfl] at H
  rw [hr_true.out] at H
  exact absurd H (by simp)
 replace c105 := Bool.eq_false_iff.mpr c105
 subst c105
 rw [if_neg nF] at H
 refine laws_FnTickets.oE7 H ?_
 clear H
 intro t798 t799 t800 t801 t802 t803 t804 A106 H
 dsimp only at H
 refine laws_FnTickets.oE1 H ?_
 clear H
 intro t806 A107 H
 refine laws_FnTickets.oE7 H ?_
 clear H
 intro t807 t808 t809 t810 t811 t812 t813 A108 H
 dsimp only at H
 have HC109 := Aside0.mk H
 clear H
 go_upto_region 16 with (first | ((with_reducible refine gC 14 rfl ?_); refine gL (some 128) Try.func14 #[.slice A0 l0.length c0] ?_; (with_reducible refine (spec_DrawShowGrant.calls kj69 _ _ l0 t798 t799 t800 t801 t802 t803 t804 _ ?side1 ?side2 A106.out).mono ?_); (case side1 => exact cA (Kd.C_below HR0.out HB.out)); (case side2 => exact HC0.out); refine laws_FnTickets.xC0 ?_; intro w110 hb; have n_ := aT (rB HO_768006 hb) (aT (rB HO_768007 hb) (aT (rB HO_783006 hb) (aT (rB HO_783007 hb) (aT (bB BK767 hb) (aT (bB BK782 hb) (aT (bB BK790 hb) (aT (bB BK796 hb) (aM (below_step bS hb))))))))); clear HO_768006 HO_768007 HO_783006 HO_783007 BK767 BK782 BK790 BK796 HB; obtain ⟨HO_768006, HO_768007, HO_783006, HO_783007, BK767, BK782, BK790, BK796, HB⟩ := n_; (try clear hb)) | ((with_reducible refine gD 13 rfl ?_); refine bE #[.int .i64 0, .int .i64 0, .int .i64 0, .int .i64 0, .int .i64 0, .int .i64 0] 43 ?_; intro gb805 hg w111 hbox hb; have n_ := aT (rB HO_768006 hb) (aT (rB HO_768007 hb) (aT (rB HO_783006 hb) (aT (rB HO_783007 hb) (aT (bB BK767 hb) (aT (bB BK782 hb) (aT (bB BK790 hb) (aT (bB BK796 hb) (aT (below_step bS hb) (aT (hbox) (aT ((bZ hg : w.heap.size ≤ gb805)) (aT ((bZ hg : w.heap.size ≤ gb805)) (aT (lB hg BK767) (aT (gB hg BK767) (aT (lB hg BK782) (aT (gB hg BK782) (aT (lB hg BK790) (aT (gB hg BK790) (aT (lB hg BK796) (aM (gB hg BK796)))))))))))))))))))); clear HO_768006 HO_768007 HO_783006 HO_783007 BK767 BK782 BK790 BK796 HB; obtain ⟨HO_768006, HO_768007, HO_783006, HO_783007, BK767, BK782, BK790, BK796, HB, BK805, GW805, GE805, NB767_805, NB805_767, NB782_805, NB805_782, NB790_805, NB805_790, NB796_805, NB805_796⟩ := n_; clear hb hbox hg; have hnb112 := NB805_767.out; have hnc112 := NB767_805.out; have hnb113 := NB805_782.out; have hnc113 := NB782_805.out; have hnb114 := NB805_790.out; have hnc114 := NB790_805.out; have hnb115 := NB805_796.out; have hnc115 := NB796_805.out; have hcz116_0 : w111.cell? ⟨gb805, 0, none⟩ = some (.int .i64 0) := (blk_cell BK805.out 0).trans rfl; have hcz116_1 : w111.cell? ⟨gb805, 1, none⟩ = some (.int .i64 0) := (blk_cell BK805.out 1).trans rfl; have hcz116_2 : w111.cell? ⟨gb805, 2, none⟩ = some (.int .i64 0) := (blk_cell BK805.out 2).trans rfl; have hcz116_3 : w111.cell? ⟨gb805, 3, none⟩ = some (.int .i64 0) := (blk_cell BK805.out 3).trans rfl; have hcz116_4 : w111.cell? ⟨gb805, 4, none⟩ = some (.int .i64 0) := (blk_cell BK805.out 4).trans rfl; have hcz116_5 : w111.cell? ⟨gb805, 5, none⟩ = some (.int .i64 0) := (blk_cell BK805.out 5).trans rfl; have hfz116_0 := blk_frozen BK805.out 0; have hfz116_1 := blk_frozen BK805.out 1; have hfz116_2 := blk_frozen BK805.out 2; have hfz116_3 := blk_frozen BK805.out 3; have hfz116_4 := blk_frozen BK805.out 4; have hfz116_5 := blk_frozen BK805.out 5) | ((with_reducible refine gC 15 rfl ?_); refine gL (some 133) Try.func15 #[.agg #[.int .i64 t798, .int .i64 t799, .int .i64 t800, .int .i64 t801, .int .i64 t802, .int .i64 t803], .int .i64 t804] ?_; (with_reducible refine (impl_ShowGrant.calls kj69 t798 t799 t800 t801 t802 t803 t804 t806 _ A107.out).mono ?_); refine laws_FnTickets.xC0 ?_; intro w117 hb; have n_ := aT (Kd.R_below (rF6 HO_768006.out BK805.out) hb) (aT (Kd.R_below (rF6 HO_768007.out BK805.out) hb) (aT (Kd.R_below (rF6 HO_783006.out BK805.out) hb) (aT (Kd.R_below (rF6 HO_783007.out BK805.out) hb) (aT (bF NB767_805 BK767 hb) (aT (bF NB782_805 BK782 hb) (aT (bF NB790_805 BK790 hb) (aT (bF NB796_805 BK796 hb) (aT (blk_below (g := gb805) (o := .cells #[.int .i64 t798, .int .i64 t799, .int .i64 t800, .int .i64 t801, .int .i64 t802, .int .i64 t803] 43 (0, 0)) (bP BK805) hb) (aM (below_step bS hb)))))))))); clear HO_768006 HO_768007 HO_783006 HO_783007 BK767 BK782 BK790 BK796 BK805 HB; obtain ⟨HO_768006, HO_768007, HO_783006, HO_783007, BK767, BK782, BK790, BK796, BK805, HB⟩ := n_; (try clear hb)) | ((with_reducible refine gC 16 rfl ?_); refine gL (some 137) Try.func16 #[.string t806, .int .i64 t804] ?_; (with_reducible refine (impl_ReadGrant.calls kj69 t806 t804 t807 t808 t809 t810 t811 t812 t813 _ A108.out).mono ?_); refine laws_FnTickets.xC0 ?_; intro w118 hb; have n_ := aT (rB HO_768006 hb) (aT (rB HO_768007 hb) (aT (rB HO_783006 hb) (aT (rB HO_783007 hb) (aT (bB BK767 hb) (aT (bB BK782 hb) (aT (bB BK790 hb) (aT (bB BK796 hb) (aT (bB BK805 hb) (aM (below_step bS hb)))))))))); clear HO_768006 HO_768007 HO_783006 HO_783007 BK767 BK782 BK790 BK796 BK805 HB; obtain ⟨HO_768006, HO_768007, HO_783006, HO_783007, BK767, BK782, BK790, BK796, BK805, HB⟩ := n_; (try clear hb)) | ((with_reducible refine gD 16 rfl ?_); refine bE #[.int .i64 0, .int .i64 0, .int .i64 0, .int .i64 0, .int .i64 0, .int .i64 0] 43 ?_; intro gb814 hg w119 hbox hb; have n_ := aT (rB HO_768006 hb) (aT (rB HO_768007 hb) (aT (rB HO_783006 hb) (aT (rB HO_783007 hb) (aT (bB BK767 hb) (aT (bB BK782 hb) (aT (bB BK790 hb) (aT (bB BK796 hb) (aT (bB BK805 hb) (aT (below_step bS hb) (aT (hbox) (aT ((bZ hg : w.heap.size ≤ gb814)) (aT ((bZ hg : w.heap.size ≤ gb814)) (aT (lB hg BK767) (aT (gB hg BK767) (aT (lB hg BK782) (aT (gB hg BK782) (aT (lB hg BK790) (aT (gB hg BK790) (aT (lB hg BK796) (aT (gB hg BK796) (aT (lB hg BK805) (aM (gB hg BK805))))))))))))))))))))))); clear HO_768006 HO_768007 HO_783006 HO_783007 BK767 BK782 BK790 BK796 BK805 HB; obtain ⟨HO_768006, HO_768007, HO_783006, HO_783007, BK767, BK782, BK790, BK796, BK805, HB, BK814, GW814, GE814, NB767_814, NB814_767, NB782_814, NB814_782, NB790_814, NB814_790, NB796_814, NB814_796, NB805_814, NB814_805⟩ := n_; clear hb hbox hg; have hnb120 := NB814_767.out; have hnc120 := NB767_814.out; have hnb121 := NB814_782.out; have hnc121 := NB782_814.out; have hnb122 := NB814_790.out; have hnc122 := NB790_814.out; have hnb123 := NB814_796.out; have hnc123 := NB796_814.out; have hnb124 := NB814_805.out; have hnc124 := NB805_814.out; have hcz125_0 : w119.cell? ⟨gb814, 0, none⟩ = some (.int .i64 0) := (blk_cell BK814.out 0).trans rfl; have hcz125_1 : w119.cell? ⟨gb814, 1, none⟩ = some (.int .i64 0) := (blk_cell BK814.out 1).trans rfl; have hcz125_2 : w119.cell? ⟨gb814, 2, none⟩ = some (.int .i64 0) := (blk_cell BK814.out 2).trans rfl; have hcz125_3 : w119.cell? ⟨gb814, 3, none⟩ = some (.int .i64 0) := (blk_cell BK814.out 3).trans rfl; have hcz125_4 : w119.cell? ⟨gb814, 4, none⟩ = some (.int .i64 0) := (blk_cell BK814.out 4).trans rfl; have hcz125_5 : w119.cell? ⟨gb814, 5, none⟩ = some (.int .i64 0) := (blk_cell BK814.out 5).trans rfl; have hfz125_0 := blk_frozen BK814.out 0; have hfz125_1 := blk_frozen BK814.out 1; have hfz125_2 := blk_frozen BK814.out 2; have hfz125_3 := blk_frozen BK814.out 3; have hfz125_4 := blk_frozen BK814.out 4; have hfz125_5 := blk_frozen BK814.out 5))
 (try simp only [Act.put, List.setIfInBounds_toArray, List.set_cons_zero, List.set_cons_succ])
 go_cut [153] (fun v153 wc => ∃ (kq : Nat) (x153_108 : Bool), v153 = .bool x153_108 ∧ Aside0 (laws_FnTickets.j2 kq l0 t766 t768 t789 t791 t804 t806 x153_108 = some r) ∧ Aside0 (kq ≤ kj69) ∧ Aside0 (Kd.R (Kd.int .i64) 3 wc w.heap.size (fun k_ => some k_ ≠ ((.slice Ao12 t763.length co12) : Value).ownBlock ∧ some k_ ≠ ((.slice Ao18 t775.length co18) : Value).ownBlock ∧ some k_ ≠ ((.slice Ao19 t778.length co19) : Value).ownBlock) (.slice Ao11 t760.length co11) t760) ∧ Aside0 (Kd.R (Kd.int .i64) 3 wc w.heap.size (fun k_ => some k_ ≠ ((.slice Ao11 t760.length co11) : Value).ownBlock ∧ some k_ ≠ ((.slice Ao18 t775.length co18) : Value).ownBlock ∧ some k_ ≠ ((.slice Ao19 t778.length co19) : Value).ownBlock) (.slice Ao12 t763.length co12) t763) ∧ Aside0 (Kd.R (Kd.int .i64) 3 wc w.heap.size (fun k_ => some k_ ≠ ((.slice Ao11 t760.length co11) : Value).ownBlock ∧ some k_ ≠ ((.slice Ao12 t763.length co12) : Value).ownBlock ∧ some k_ ≠ ((.slice Ao19 t778.length co19) : Value).ownBlock) (.slice Ao18 t775.length co18) t775) ∧ Aside0 (Kd.R (Kd.int .i64) 3 wc w.heap.size (fun k_ => some k_ ≠ ((.slice Ao11 t760.length co11) : Value).ownBlock ∧ some k_ ≠ ((.slice Ao12 t763.length co12) : Value).ownBlock ∧ some k_ ≠ ((.slice Ao18 t775.length co18) : Value).ownBlock) (.slice Ao19 t778.length co19) t778) ∧ Aside0 (wc.heap[gb767]? = some (.cells #[.int .i64 t754, .int .i64 t755, .int .i64 t756, .int .i64 t757, .int .i64 t758, .int .i64 t759, (.slice Ao11 t760.length co11), (.slice Ao12 t763.length co12)] 28 (0, 0))) ∧ Aside0 (wc.heap[gb782]? = some (.cells #[.int .i64 t769, .int .i64 t770, .int .i64 t771, .int .i64 t772, .int .i64 t773, .int .i64 t774, (.slice Ao18 t775.length co18), (.slice Ao19 t778.length co19)] 28 (0, 0))) ∧ Aside0 (wc.heap[gb790]? = some (.cells #[.int .i64 t786, .int .i64 t787, .int .i64 t788] 36 (0, 0))) ∧ Aside0 (wc.heap[gb796]? = some (.cells #[.int .i64 t792, .int .i64 t793, .int .i64 t794] 36 (0, 0))) ∧ Aside0 (wc.heap[gb805]? = some (.cells #[.int .i64 t798, .int .i64 t799, .int .i64 t800, .int .i64 t801, .int .i64 t802, .int .i64 t803] 43 (0, 0))) ∧ Aside0 (wc.heap[gb814]? = some (.cells #[.int .i64 t807, .int .i64 t808, .int .i64 t809, .int .i64 t810, .int .i64 t811, .int .i64 t812] 43 (0, 0))) ∧ Aside0 (Below w.heap.size w wc))
 case first =>
  have H := HC109.out
  clear HC109
  refine laws_FnTickets.oE1 H ?_
  clear H
  intro t815 A126 H
  by_cases c127 : (t813 != (t815.toList != ([] : List UInt8))) = true
  ·exact (laws_FnTickets.n2 (by rw [if_pos c127] at H; exact H) hr_true).elim
  rw [if_neg c127] at H
  by_cases c135 : t813 = true
  ·subst c135
   have d1 : ¬ t815.toList = ([] : List UInt8) := fun e_ => c127 (by rw [e_]; rfl)
   have n1 : (t815.toList != ([] : List UInt8)) = true := bne_iff_ne.mpr d1
   have e1 : t815.toList.isEmpty = false := by cases h_ : t815.toList.isEmpty with | false => rfl | true => exact absurd (List.isEmpty_iff.mp h_) d1
   have m1 : (t815.toList == ([] : List UInt8)) = false := beq_eq_false_iff_ne.mpr d1
   clear d1 c127
   rw [if_pos rfl] at H
   by_cases cE : ((!(t807 == t798) || (!(t808 == t799) || (!(t809 == t800) || ((!(t810 == t801) || (!(t811 == t802) || (!(t812 == t803))))))))) = true
   ·rw [cE] at H
    exact (laws_FnTickets.n2 H hr_true).elim
   have cF : ((!(t807 == t798) || (!(t808 == t799) || (!(t809 == t800) || ((!(t810 == t801) || (!(t811 == t802) || (!(t812 == t803))))))))) = false := Bool.eq_false_iff.mpr cE
   rw [cF] at H
   have qs : t807 = t798 ∧ t808 = t799 ∧ t809 = t800 ∧ t810 = t801 ∧ t811 = t802 ∧ t812 = t803 := by simpa using cF
   clear cE cF
   obtain ⟨q0_, q1_, q2_, q3_, q4_, q5_⟩ := qs
   replace q0_ := q0_.symm
   subst q0_
   replace q1_ := q1_.symm
   subst q1_
   replace q2_ := q2_.symm
   subst q2_
   replace q3_ := q3_.symm
   subst q3_
   replace q4_ := q4_.symm
   subst q4_
   replace q5_ := q5_.symm
   subst q5_
   have H' := Aside0.mk H
   clear H
   have hnb136 := NB805_767.out
   have hnc136 := NB767_805.out
   have hnb137 := NB805_782.out
   have hnc137 := NB782_805.out
   have hnb138 := NB805_790.out
   have hnc138 := NB790_805.out
   have hnb139 := NB805_796.out
   have hnc139 := NB796_805.out
   have hnb140 := NB805_814.out
   have hnc140 := NB814_805.out
   have hcz141_0 : w119.cell? ⟨gb805, 0, none⟩ = some (.int .i64 t798) := (blk_cell BK805.out 0).trans rfl
   have hcz141_1 : w119.cell? ⟨gb805, 1, none⟩ = some (.int .i64 t799) := (blk_cell BK805.out 1).trans rfl
   have hcz141_2 : w119.cell? ⟨gb805, 2, none⟩ = some (.int .i64 t800) := (blk_cell BK805.out 2).trans rfl
   have hcz141_3 : w119.cell? ⟨gb805, 3, none⟩ = some (.int .i64 t801) := (blk_cell BK805.out 3).trans rfl
   have hcz141_4 : w119.cell? ⟨gb805, 4, none⟩ = some (.int .i64 t802) := (blk_cell BK805.out 4).trans rfl
   have hcz141_5 : w119.cell? ⟨gb805, 5, none⟩ = some (.int .i64 t803) := (blk_cell BK805.out 5).trans rfl
   have hfz141_0 := blk_frozen BK805.out 0
   have hfz141_1 := blk_frozen BK805.out 1
   have hfz141_2 := blk_frozen BK805.out 2
   have hfz141_3 := blk_frozen BK805.out 3
   have hfz141_4 := blk_frozen BK805.out 4
   have hfz141_5 := blk_frozen BK805.out 5
   go_wp2_with (first | ((with_reducible refine gC 17 rfl ?_); refine gL (some 143) Try.func17 #[.agg #[.int .i64 t798, .int .i64 t799, .int .i64 t800, .int .i64 t801, .int .i64 t802, .int .i64 t803], .int .i64 t804] ?_; (with_reducible refine (spec_ShowGrant.calls kj69 t798 t799 t800 t801 t802 t803 t804 t815 _ A126.out).mono ?_); refine laws_FnTickets.xC0 ?_; intro w142 hb; have n_ := aT (Kd.R_below (rF6 HO_768006.out BK814.out) hb) (aT (Kd.R_below (rF6 HO_768007.out BK814.out) hb) (aT (Kd.R_below (rF6 HO_783006.out BK814.out) hb) (aT (Kd.R_below (rF6 HO_783007.out BK814.out) hb) (aT (bF NB767_814 BK767 hb) (aT (bF NB782_814 BK782 hb) (aT (bF NB790_814 BK790 hb) (aT (bF NB796_814 BK796 hb) (aT (bF NB805_814 BK805 hb) (aT (blk_below (g := gb814) (o := .cells #[.int .i64 t798, .int .i64 t799, .int .i64 t800, .int .i64 t801, .int .i64 t802, .int .i64 t803] 43 (0, 0)) (bP BK814) hb) (aM (below_step bS hb))))))))))); clear HO_768006 HO_768007 HO_783006 HO_783007 BK767 BK782 BK790 BK796 BK805 BK814 HB; obtain ⟨HO_768006, HO_768007, HO_783006, HO_783007, BK767, BK782, BK790, BK796, BK805, BK814, HB⟩ := n_; (try clear hb); have hnb143 := NB814_767.out; have hnc143 := NB767_814.out; have hnb144 := NB814_782.out; have hnc144 := NB782_814.out; have hnb145 := NB814_790.out; have hnc145 := NB790_814.out; have hnb146 := NB814_796.out; have hnc146 := NB796_814.out; have hcz147_0 : w142.cell? ⟨gb814, 0, none⟩ = some (.int .i64 t798) := (blk_cell BK814.out 0).trans rfl; have hcz147_1 : w142.cell? ⟨gb814, 1, none⟩ = some (.int .i64 t799) := (blk_cell BK814.out 1).trans rfl; have hcz147_2 : w142.cell? ⟨gb814, 2, none⟩ = some (.int .i64 t800) := (blk_cell BK814.out 2).trans rfl; have hcz147_3 : w142.cell? ⟨gb814, 3, none⟩ = some (.int .i64 t801) := (blk_cell BK814.out 3).trans rfl; have hcz147_4 : w142.cell? ⟨gb814, 4, none⟩ = some (.int .i64 t802) := (blk_cell BK814.out 4).trans rfl; have hcz147_5 : w142.cell? ⟨gb814, 5, none⟩ = some (.int .i64 t803) := (blk_cell BK814.out 5).trans rfl; have hfz147_0 := blk_frozen BK814.out 0; have hfz147_1 := blk_frozen BK814.out 1; have hfz147_2 := blk_frozen BK814.out 2; have hfz147_3 := blk_frozen BK814.out 3; have hfz147_4 := blk_frozen BK814.out 4; have hfz147_5 := blk_frozen BK814.out 5; have hcz148_0 : w142.cell? ⟨gb805, 0, none⟩ = some (.int .i64 t798) := (blk_cell BK805.out 0).trans rfl; have hcz148_1 : w142.cell? ⟨gb805, 1, none⟩ = some (.int .i64 t799) := (blk_cell BK805.out 1).trans rfl; have hcz148_2 : w142.cell? ⟨gb805, 2, none⟩ = some (.int .i64 t800) := (blk_cell BK805.out 2).trans rfl; have hcz148_3 : w142.cell? ⟨gb805, 3, none⟩ = some (.int .i64 t801) := (blk_cell BK805.out 3).trans rfl; have hcz148_4 : w142.cell? ⟨gb805, 4, none⟩ = some (.int .i64 t802) := (blk_cell BK805.out 4).trans rfl; have hcz148_5 : w142.cell? ⟨gb805, 5, none⟩ = some (.int .i64 t803) := (blk_cell BK805.out 5).trans rfl; have hfz148_0 := blk_frozen BK805.out 0; have hfz148_1 := blk_frozen BK805.out 1; have hfz148_2 := blk_frozen BK805.out 2; have hfz148_3 := blk_frozen BK805.out 3; have hfz148_4 := blk_frozen BK805.out 4; have hfz148_5 := blk_frozen BK805.out 5))
   go_meet
   case rel => exact ⟨_, (false), eX, H', ⟨(by have := HJ6.out; have := HJ69.out; first | omega | exact Nat.le_refl _)⟩, ⟨(kR HO_768006.out)⟩, ⟨(kR HO_768007.out)⟩, ⟨(kR HO_783006.out)⟩, ⟨(kR HO_783007.out)⟩, ⟨(kB BK767.out)⟩, ⟨(kB BK782.out)⟩, ⟨(kB BK790.out)⟩, ⟨(kB BK796.out)⟩, ⟨(kB BK805.out)⟩, ⟨(kB BK814.out)⟩, ⟨bS⟩⟩
  replace c135 := Bool.eq_false_iff.mpr c135
  subst c135
  have d1 : t815.toList = ([] : List UInt8) := by
   by_cases e_ : t815.toList = ([] : List UInt8)
   ·exact e_
   exact absurd (show (false != (t815.toList != ([] : List UInt8))) = true by rw [bne_iff_ne.mpr e_]; rfl) c127
  have n1 : (t815.toList != ([] : List UInt8)) = false := bne_eq_false_iff_eq.mpr d1
  have e1 : t815.toList.isEmpty = true := List.isEmpty_iff.mpr d1
  have m1 : (t815.toList == ([] : List UInt8)) = true := beq_iff_eq.mpr d1
  clear d1 c127
  rw [if_neg nF] at H
  have H' := Aside0.mk H
  clear H
  have hnb149 := NB805_767.out
  have hnc149 := NB767_805.out
  have hnb150 := NB805_782.out
  have hnc150 := NB782_805.out
  have hnb151 := NB805_790.out
  have hnc151 := NB790_805.out
  have hnb152 := NB805_796.out
  have hnc152 := NB796_805.out
  have hnb153 := NB805_814.out
  have hnc153 := NB814_805.out
  have hcz154_0 : w119.cell? ⟨gb805, 0, none⟩ = some (.int .i64 t798) := (blk_cell BK805.out 0).trans rfl
  have hcz154_1 : w119.cell? ⟨gb805, 1, none⟩ = some (.int .i64 t799) := (blk_cell BK805.out 1).trans rfl
  have hcz154_2 : w119.cell? ⟨gb805, 2, none⟩ = some (.int .i64 t800) := (blk_cell BK805.out 2).trans rfl
  have hcz154_3 : w119.cell? ⟨gb805, 3, none⟩ = some (.int .i64 t801) := (blk_cell BK805.out 3).trans rfl
  have hcz154_4 : w119.cell? ⟨gb805, 4, none⟩ = some (.int .i64 t802) := (blk_cell BK805.out 4).trans rfl
  have hcz154_5 : w119.cell? ⟨gb805, 5, none⟩ = some (.int .i64 t803) := (blk_cell BK805.out 5).trans rfl
  have hfz154_0 := blk_frozen BK805.out 0
  have hfz154_1 := blk_frozen BK805.out 1
  have hfz154_2 := blk_frozen BK805.out 2
  have hfz154_3 := blk_frozen BK805.out 3
  have hfz154_4 := blk_frozen BK805.out 4
  have hfz154_5 := blk_frozen BK805.out 5
  go_wp2_with (first | ((with_reducible refine gC 17 rfl ?_); refine gL (some 143) Try.func17 #[.agg #[.int .i64 t798, .int .i64 t799, .int .i64 t800, .int .i64 t801, .int .i64 t802, .int .i64 t803], .int .i64 t804] ?_; (with_reducible refine (spec_ShowGrant.calls kj69 t798 t799 t800 t801 t802 t803 t804 t815 _ A126.out).mono ?_); refine laws_FnTickets.xC0 ?_; intro w155 hb; have n_ := aT (Kd.R_below (rF6 HO_768006.out BK814.out) hb) (aT (Kd.R_below (rF6 HO_768007.out BK814.out) hb) (aT (Kd.R_below (rF6 HO_783006.out BK814.out) hb) (aT (Kd.R_below (rF6 HO_783007.out BK814.out) hb) (aT (bF NB767_814 BK767 hb) (aT (bF NB782_814 BK782 hb) (aT (bF NB790_814 BK790 hb) (aT (bF NB796_814 BK796 hb) (aT (bF NB805_814 BK805 hb) (aT (blk_below (g := gb814) (o := .cells #[.int .i64 t807, .int .i64 t808, .int .i64 t809, .int .i64 t810, .int .i64 t811, .int .i64 t812] 43 (0, 0)) (bP BK814) hb) (aM (below_step bS hb))))))))))); clear HO_768006 HO_768007 HO_783006 HO_783007 BK767 BK782 BK790 BK796 BK805 BK814 HB; obtain ⟨HO_768006, HO_768007, HO_783006, HO_783007, BK767, BK782, BK790, BK796, BK805, BK814, HB⟩ := n_; (try clear hb)))
  go_meet
  case rel => exact ⟨_, (false), eX, H', ⟨(by have := HJ6.out; have := HJ69.out; first | omega | exact Nat.le_refl _)⟩, ⟨(kR HO_768006.out)⟩, ⟨(kR HO_768007.out)⟩, ⟨(kR HO_783006.out)⟩, ⟨(kR HO_783007.out)⟩, ⟨(kB BK767.out)⟩, ⟨(kB BK782.out)⟩, ⟨(kB BK790.out)⟩, ⟨(kB BK796.out)⟩, ⟨(kB BK805.out)⟩, ⟨(kB BK814.out)⟩, ⟨bS⟩⟩
 clear HC109
 try clear c3
 try clear c66
 try clear c105
 try clear hcz10_0
 try clear hcz10_1
 try clear hcz10_2
 try clear hcz10_3
 try clear hcz10_4
 try clear hcz10_5
 try clear hcz10_6
 try clear hcz10_7
 try clear hcz116_0
 try clear hcz116_1
 try clear hcz116_2
 try clear hcz116_3
 try clear hcz116_4
 try clear hcz116_5
 try clear hcz125_0
 try clear hcz125_1
 try clear hcz125_2
 try clear hcz125_3
 try clear hcz125_4
 try clear hcz125_5
 try clear hcz17_0
 try clear hcz17_1
 try clear hcz17_2
 try clear hcz17_3
 try clear hcz17_4
 try clear hcz17_5
 try clear hcz17_6
 try clear hcz17_7
 try clear hcz75_0
 try clear hcz75_1
 try clear hcz75_2
 try clear hcz82_0
 try clear hcz82_1
 try clear hcz82_2
 try clear hfz10_0
 try clear hfz10_1
 try clear hfz10_2
 try clear hfz10_3
 try clear hfz10_4
 try clear hfz10_5
 try clear hfz10_6
 try clear hfz10_7
 try clear hfz116_0
 try clear hfz116_1
 try clear hfz116_2
 try clear hfz116_3
 try clear hfz116_4
 try clear hfz116_5
 try clear hfz125_0
 try clear hfz125_1
 try clear hfz125_2
 try clear hfz125_3
 try clear hfz125_4
 try clear hfz125_5
 try clear hfz17_0
 try clear hfz17_1
 try clear hfz17_2
 try clear hfz17_3
 try clear hfz17_4
 try clear hfz17_5
 try clear hfz17_6
 try clear hfz17_7
 try clear hfz75_0
 try clear hfz75_1
 try clear hfz75_2
 try clear hfz82_0
 try clear hfz82_1
 try clear hfz82_2
 obtain ⟨kq, x153_108, rfl, hR_⟩ := hcut
 have HA := hR_.1
 have HJ108 := hR_.2.1
 have HO_768006 := hR_.2.2.1
 have HO_768007 := hR_.2.2.2.1
 have HO_783006 := hR_.2.2.2.2.1
 have HO_783007 := hR_.2.2.2.2.2.1
 have BK767 := hR_.2.2.2.2.2.2.1
 have BK782 := hR_.2.2.2.2.2.2.2.1
 have BK790 := hR_.2.2.2.2.2.2.2.2.1
 have BK796 := hR_.2.2.2.2.2.2.2.2.2.1
 have BK805 := hR_.2.2.2.2.2.2.2.2.2.2.1
 have BK814 := hR_.2.2.2.2.2.2.2.2.2.2.2.1
 have HB := hR_.2.2.2.2.2.2.2.2.2.2.2.2
 clear hR_
 obtain _ | kj108 := kq
 ·exact absurd HA.out (by simp [laws_FnTickets.j2])
 have H := HA.out
 clear HA
 simp only [laws_FnTickets.j2] at H
 by_cases c156 : x153_108 = true
 ·subst c156
  rw [if_pos rfl] at H
  rw [hr_true.out] at H
  exact absurd H (by simp)
 replace c156 := Bool.eq_false_iff.mpr c156
 subst c156
 rw [if_neg nF] at H
 refine laws_FnTickets.oE9 H ?_
 clear H
 intro t816 t817 t818 t819 t820 t821 t822 t825 t828 A157 H
 dsimp only at H
 refine laws_FnTickets.oE4 H ?_
 clear H
 intro t830 t831 t832 t833 A158 H
 dsimp only at H
 refine laws_FnTickets.oE7 H ?_
 clear H
 intro t835 t836 t837 t838 t839 t840 t841 A159 H
 dsimp only at H
 refine laws_FnTickets.oE7 H ?_
 clear H
 intro t843 t844 t845 t846 t847 t848 t849 A160 H
 dsimp only at H
 refine laws_FnTickets.oE3 H ?_
 clear H
 intro t851 t852 t853 A161 H
 dsimp only at H
 refine laws_FnTickets.oE1 H ?_
 clear H
 intro t855 A162 H
 refine laws_FnTickets.oE4 H ?_
 clear H
 intro t856 t857 t858 t859 A163 H
 dsimp only at H
 by_cases c164 : t828 = true
 ·subst c164
  rw [if_pos rfl] at H
  rw [hr_true.out] at H
  exact absurd H (by simp)
 replace c164 := Bool.eq_false_iff.mpr c164
 subst c164
 rw [if_neg nF] at H
 by_cases c165 : t833 = true
 ·subst c165
  rw [if_pos rfl] at H
  rw [hr_true.out] at H
  exact absurd H (by simp)
 replace c165 := Bool.eq_false_iff.mpr c165
 subst c165
 rw [if_neg nF] at H
 by_cases c166 : t841 = true
 ·subst c166
  rw [if_pos rfl] at H
  rw [hr_true.out] at H
  exact absurd H (by simp)
 replace c166 := Bool.eq_false_iff.mpr c166
 subst c166
 rw [if_neg nF] at H
 by_cases c167 : t849 = true
 ·subst c167
  rw [if_pos rfl] at H
  rw [hr_true.out] at H
  exact absurd H (by simp)
 replace c167 := Bool.eq_false_iff.mpr c167
 subst c167
 rw [if_neg nF] at H
 refine laws_FnTickets.oE1 H ?_
 clear H
 intro t861 A168 H
 have HC170 := Aside0.mk H
 clear H
 go_upto_region 24 with (first | ((with_reducible refine gC 7 rfl ?_); refine gL (some 158) Try.func7 #[.string t768, .int .i64 (wrap64 (t766 + 1))] ?_; (with_reducible refine (impl_ReadTicket.calls kj108 t768 (wrap64 (t766 + 1)) t816 t817 t818 t819 t820 t821 t822 t825 false _ A157.out).mono ?_); refine laws_FnTickets.xC2 ?_; intro v823 v826 w171 ho0 ho1 hb; have n_ := aT (Kd.R_mono (Kd.R_told (Kd.R_told (Kd.R_old (kR HO_768006.out) hb) (Kd.R_base ho0)) (Kd.R_base ho1)) (fun _ h_ => h_.1)) (aT (Kd.R_mono (Kd.R_told (Kd.R_told (Kd.R_old (kR HO_768007.out) hb) (Kd.R_base ho0)) (Kd.R_base ho1)) (fun _ h_ => h_.1)) (aT (Kd.R_mono (Kd.R_told (Kd.R_told (Kd.R_old (kR HO_783006.out) hb) (Kd.R_base ho0)) (Kd.R_base ho1)) (fun _ h_ => h_.1)) (aT (Kd.R_mono (Kd.R_told (Kd.R_told (Kd.R_old (kR HO_783007.out) hb) (Kd.R_base ho0)) (Kd.R_base ho1)) (fun _ h_ => h_.1)) (aT (Kd.R_lower (Kd.R_new' (Kd.R_new' (Kd.R_new' (Kd.R_new' ho0 (Kd.R_lt (kR HO_768006.out))) (Kd.R_lt (kR HO_768007.out))) (Kd.R_lt (kR HO_783006.out))) (Kd.R_lt (kR HO_783007.out))) (below_size bS)) (aT (Kd.R_lower (Kd.R_new' (Kd.R_new' (Kd.R_new' (Kd.R_new' ho1 (Kd.R_lt (kR HO_768006.out))) (Kd.R_lt (kR HO_768007.out))) (Kd.R_lt (kR HO_783006.out))) (Kd.R_lt (kR HO_783007.out))) (below_size bS)) (aT (bB BK767 hb) (aT (bB BK782 hb) (aT (bB BK790 hb) (aT (bB BK796 hb) (aT (bB BK805 hb) (aT (bB BK814 hb) (aM (below_step bS hb))))))))))))); clear HO_768006 HO_768007 HO_783006 HO_783007 BK767 BK782 BK790 BK796 BK805 BK814 HB; obtain ⟨HO_768006, HO_768007, HO_783006, HO_783007, HO824, HO827, BK767, BK782, BK790, BK796, BK805, BK814, HB⟩ := n_; (try clear hb); (try clear ho0); (try clear ho1)) | ((with_reducible refine gD 18 rfl ?_); refine bE #[.int .i64 0, .int .i64 0, .int .i64 0, .int .i64 0, .int .i64 0, .int .i64 0, .slice none 0 0, .slice none 0 0] 28 ?_; intro gb829 hg w172 hbox hb; have n_ := aT (rB HO_768006 hb) (aT (rB HO_768007 hb) (aT (rB HO_783006 hb) (aT (rB HO_783007 hb) (aT (rB HO824 hb) (aT (rB HO827 hb) (aT (bB BK767 hb) (aT (bB BK782 hb) (aT (bB BK790 hb) (aT (bB BK796 hb) (aT (bB BK805 hb) (aT (bB BK814 hb) (aT (below_step bS hb) (aT (hbox) (aT ((bZ hg : w.heap.size ≤ gb829)) (aT ((bZ hg : w.heap.size ≤ gb829)) (aT (lB hg BK767) (aT (gB hg BK767) (aT (lB hg BK782) (aT (gB hg BK782) (aT (lB hg BK790) (aT (gB hg BK790) (aT (lB hg BK796) (aT (gB hg BK796) (aT (lB hg BK805) (aT (gB hg BK805) (aT (lB hg BK814) (aM (gB hg BK814)))))))))))))))))))))))))))); clear HO_768006 HO_768007 HO_783006 HO_783007 HO824 HO827 BK767 BK782 BK790 BK796 BK805 BK814 HB; obtain ⟨HO_768006, HO_768007, HO_783006, HO_783007, HO824, HO827, BK767, BK782, BK790, BK796, BK805, BK814, HB, BK829, GW829, GE829, NB767_829, NB829_767, NB782_829, NB829_782, NB790_829, NB829_790, NB796_829, NB829_796, NB805_829, NB829_805, NB814_829, NB829_814⟩ := n_; clear hb hbox hg; have hnb173 := NB829_767.out; have hnc173 := NB767_829.out; have hnb174 := NB829_782.out; have hnc174 := NB782_829.out; have hnb175 := NB829_790.out; have hnc175 := NB790_829.out; have hnb176 := NB829_796.out; have hnc176 := NB796_829.out; have hnb177 := NB829_805.out; have hnc177 := NB805_829.out; have hnb178 := NB829_814.out; have hnc178 := NB814_829.out; have hcz179_0 : w172.cell? ⟨gb829, 0, none⟩ = some (.int .i64 0) := (blk_cell BK829.out 0).trans rfl; have hcz179_1 : w172.cell? ⟨gb829, 1, none⟩ = some (.int .i64 0) := (blk_cell BK829.out 1).trans rfl; have hcz179_2 : w172.cell? ⟨gb829, 2, none⟩ = some (.int .i64 0) := (blk_cell BK829.out 2).trans rfl; have hcz179_3 : w172.cell? ⟨gb829, 3, none⟩ = some (.int .i64 0) := (blk_cell BK829.out 3).trans rfl; have hcz179_4 : w172.cell? ⟨gb829, 4, none⟩ = some (.int .i64 0) := (blk_cell BK829.out 4).trans rfl; have hcz179_5 : w172.cell? ⟨gb829, 5, none⟩ = some (.int .i64 0) := (blk_cell BK829.out 5).trans rfl; have hcz179_6 : w172.cell? ⟨gb829, 6, none⟩ = some (.slice none 0 0) := (blk_cell BK829.out 6).trans rfl; have hcz179_7 : w172.cell? ⟨gb829, 7, none⟩ = some (.slice none 0 0) := (blk_cell BK829.out 7).trans rfl; have hfz179_0 := blk_frozen BK829.out 0; have hfz179_1 := blk_frozen BK829.out 1; have hfz179_2 := blk_frozen BK829.out 2; have hfz179_3 := blk_frozen BK829.out 3; have hfz179_4 := blk_frozen BK829.out 4; have hfz179_5 := blk_frozen BK829.out 5; have hfz179_6 := blk_frozen BK829.out 6; have hfz179_7 := blk_frozen BK829.out 7; obtain ⟨Ao180, co180, eo180⟩ := Kd.R_slice HO824.out; subst eo180; obtain ⟨Ao181, co181, eo181⟩ := Kd.R_slice HO827.out; subst eo181) | ((with_reducible refine gC 12 rfl ?_); refine gL (some 165) Try.func12 #[.string t791, .int .i64 (wrap64 (t789 + 1))] ?_; (with_reducible refine (impl_ReadAuth.calls kj108 t791 (wrap64 (t789 + 1)) t830 t831 t832 false _ A158.out).mono ?_); refine laws_FnTickets.xC0 ?_; intro w182 hb; have n_ := aT (Kd.R_below (rF8 HO_768006.out BK829.out) hb) (aT (Kd.R_below (rF8 HO_768007.out BK829.out) hb) (aT (Kd.R_below (rF8 HO_783006.out BK829.out) hb) (aT (Kd.R_below (rF8 HO_783007.out BK829.out) hb) (aT (Kd.R_below (rF8 HO824.out BK829.out) hb) (aT (Kd.R_below (rF8 HO827.out BK829.out) hb) (aT (bF NB767_829 BK767 hb) (aT (bF NB782_829 BK782 hb) (aT (bF NB790_829 BK790 hb) (aT (bF NB796_829 BK796 hb) (aT (bF NB805_829 BK805 hb) (aT (bF NB814_829 BK814 hb) (aT (blk_below (g := gb829) (o := .cells #[.int .i64 t816, .int .i64 t817, .int .i64 t818, .int .i64 t819, .int .i64 t820, .int .i64 t821, .slice Ao180 t822.length co180, .slice Ao181 t825.length co181] 28 (0, 0)) (bP BK829) hb) (aM (below_step bS hb)))))))))))))); clear HO_768006 HO_768007 HO_783006 HO_783007 HO824 HO827 BK767 BK782 BK790 BK796 BK805 BK814 BK829 HB; obtain ⟨HO_768006, HO_768007, HO_783006, HO_783007, HO824, HO827, BK767, BK782, BK790, BK796, BK805, BK814, BK829, HB⟩ := n_; (try clear hb)) | ((with_reducible refine gD 20 rfl ?_); refine bE #[.int .i64 0, .int .i64 0, .int .i64 0] 36 ?_; intro gb834 hg w183 hbox hb; have n_ := aT (rB HO_768006 hb) (aT (rB HO_768007 hb) (aT (rB HO_783006 hb) (aT (rB HO_783007 hb) (aT (rB HO824 hb) (aT (rB HO827 hb) (aT (bB BK767 hb) (aT (bB BK782 hb) (aT (bB BK790 hb) (aT (bB BK796 hb) (aT (bB BK805 hb) (aT (bB BK814 hb) (aT (bB BK829 hb) (aT (below_step bS hb) (aT (hbox) (aT ((bZ hg : w.heap.size ≤ gb834)) (aT ((bZ hg : w.heap.size ≤ gb834)) (aT (lB hg BK767) (aT (gB hg BK767) (aT (lB hg BK782) (aT (gB hg BK782) (aT (lB hg BK790) (aT (gB hg BK790) (aT (lB hg BK796) (aT (gB hg BK796) (aT (lB hg BK805) (aT (gB hg BK805) (aT (lB hg BK814) (aT (gB hg BK814) (aT (lB hg BK829) (aM (gB hg BK829))))))))))))))))))))))))))))))); clear HO_768006 HO_768007 HO_783006 HO_783007 HO824 HO827 BK767 BK782 BK790 BK796 BK805 BK814 BK829 HB; obtain ⟨HO_768006, HO_768007, HO_783006, HO_783007, HO824, HO827, BK767, BK782, BK790, BK796, BK805, BK814, BK829, HB, BK834, GW834, GE834, NB767_834, NB834_767, NB782_834, NB834_782, NB790_834, NB834_790, NB796_834, NB834_796, NB805_834, NB834_805, NB814_834, NB834_814, NB829_834, NB834_829⟩ := n_; clear hb hbox hg; have hnb184 := NB834_767.out; have hnc184 := NB767_834.out; have hnb185 := NB834_782.out; have hnc185 := NB782_834.out; have hnb186 := NB834_790.out; have hnc186 := NB790_834.out; have hnb187 := NB834_796.out; have hnc187 := NB796_834.out; have hnb188 := NB834_805.out; have hnc188 := NB805_834.out; have hnb189 := NB834_814.out; have hnc189 := NB814_834.out; have hnb190 := NB834_829.out; have hnc190 := NB829_834.out; have hcz191_0 : w183.cell? ⟨gb834, 0, none⟩ = some (.int .i64 0) := (blk_cell BK834.out 0).trans rfl; have hcz191_1 : w183.cell? ⟨gb834, 1, none⟩ = some (.int .i64 0) := (blk_cell BK834.out 1).trans rfl; have hcz191_2 : w183.cell? ⟨gb834, 2, none⟩ = some (.int .i64 0) := (blk_cell BK834.out 2).trans rfl; have hfz191_0 := blk_frozen BK834.out 0; have hfz191_1 := blk_frozen BK834.out 1; have hfz191_2 := blk_frozen BK834.out 2) | ((with_reducible refine gC 16 rfl ?_); refine gL (some 172) Try.func16 #[.string t806, .int .i64 (wrap64 (t804 + 1))] ?_; (with_reducible refine (impl_ReadGrant.calls kj108 t806 (wrap64 (t804 + 1)) t835 t836 t837 t838 t839 t840 false _ A159.out).mono ?_); refine laws_FnTickets.xC0 ?_; intro w192 hb; have n_ := aT (Kd.R_below (rF3 HO_768006.out BK834.out) hb) (aT (Kd.R_below (rF3 HO_768007.out BK834.out) hb) (aT (Kd.R_below (rF3 HO_783006.out BK834.out) hb) (aT (Kd.R_below (rF3 HO_783007.out BK834.out) hb) (aT (Kd.R_below (rF3 HO824.out BK834.out) hb) (aT (Kd.R_below (rF3 HO827.out BK834.out) hb) (aT (bF NB767_834 BK767 hb) (aT (bF NB782_834 BK782 hb) (aT (bF NB790_834 BK790 hb) (aT (bF NB796_834 BK796 hb) (aT (bF NB805_834 BK805 hb) (aT (bF NB814_834 BK814 hb) (aT (bF NB829_834 BK829 hb) (aT (blk_below (g := gb834) (o := .cells #[.int .i64 t830, .int .i64 t831, .int .i64 t832] 36 (0, 0)) (bP BK834) hb) (aM (below_step bS hb))))))))))))))); clear HO_768006 HO_768007 HO_783006 HO_783007 HO824 HO827 BK767 BK782 BK790 BK796 BK805 BK814 BK829 BK834 HB; obtain ⟨HO_768006, HO_768007, HO_783006, HO_783007, HO824, HO827, BK767, BK782, BK790, BK796, BK805, BK814, BK829, BK834, HB⟩ := n_; (try clear hb)) | ((with_reducible refine gD 22 rfl ?_); refine bE #[.int .i64 0, .int .i64 0, .int .i64 0, .int .i64 0, .int .i64 0, .int .i64 0] 43 ?_; intro gb842 hg w193 hbox hb; have n_ := aT (rB HO_768006 hb) (aT (rB HO_768007 hb) (aT (rB HO_783006 hb) (aT (rB HO_783007 hb) (aT (rB HO824 hb) (aT (rB HO827 hb) (aT (bB BK767 hb) (aT (bB BK782 hb) (aT (bB BK790 hb) (aT (bB BK796 hb) (aT (bB BK805 hb) (aT (bB BK814 hb) (aT (bB BK829 hb) (aT (bB BK834 hb) (aT (below_step bS hb) (aT (hbox) (aT ((bZ hg : w.heap.size ≤ gb842)) (aT ((bZ hg : w.heap.size ≤ gb842)) (aT (lB hg BK767) (aT (gB hg BK767) (aT (lB hg BK782) (aT (gB hg BK782) (aT (lB hg BK790) (aT (gB hg BK790) (aT (lB hg BK796) (aT (gB hg BK796) (aT (lB hg BK805) (aT (gB hg BK805) (aT (lB hg BK814) (aT (gB hg BK814) (aT (lB hg BK829) (aT (gB hg BK829) (aT (lB hg BK834) (aM (gB hg BK834)))))))))))))))))))))))))))))))))); clear HO_768006 HO_768007 HO_783006 HO_783007 HO824 HO827 BK767 BK782 BK790 BK796 BK805 BK814 BK829 BK834 HB; obtain ⟨HO_768006, HO_768007, HO_783006, HO_783007, HO824, HO827, BK767, BK782, BK790, BK796, BK805, BK814, BK829, BK834, HB, BK842, GW842, GE842, NB767_842, NB842_767, NB782_842, NB842_782, NB790_842, NB842_790, NB796_842, NB842_796, NB805_842, NB842_805, NB814_842, NB842_814, NB829_842, NB842_829, NB834_842, NB842_834⟩ := n_; clear hb hbox hg; have hnb194 := NB842_767.out; have hnc194 := NB767_842.out; have hnb195 := NB842_782.out; have hnc195 := NB782_842.out; have hnb196 := NB842_790.out; have hnc196 := NB790_842.out; have hnb197 := NB842_796.out; have hnc197 := NB796_842.out; have hnb198 := NB842_805.out; have hnc198 := NB805_842.out; have hnb199 := NB842_814.out; have hnc199 := NB814_842.out; have hnb200 := NB842_829.out; have hnc200 := NB829_842.out; have hnb201 := NB842_834.out; have hnc201 := NB834_842.out; have hcz202_0 : w193.cell? ⟨gb842, 0, none⟩ = some (.int .i64 0) := (blk_cell BK842.out 0).trans rfl; have hcz202_1 : w193.cell? ⟨gb842, 1, none⟩ = some (.int .i64 0) := (blk_cell BK842.out 1).trans rfl; have hcz202_2 : w193.cell? ⟨gb842, 2, none⟩ = some (.int .i64 0) := (blk_cell BK842.out 2).trans rfl; have hcz202_3 : w193.cell? ⟨gb842, 3, none⟩ = some (.int .i64 0) := (blk_cell BK842.out 3).trans rfl; have hcz202_4 : w193.cell? ⟨gb842, 4, none⟩ = some (.int .i64 0) := (blk_cell BK842.out 4).trans rfl; have hcz202_5 : w193.cell? ⟨gb842, 5, none⟩ = some (.int .i64 0) := (blk_cell BK842.out 5).trans rfl; have hfz202_0 := blk_frozen BK842.out 0; have hfz202_1 := blk_frozen BK842.out 1; have hfz202_2 := blk_frozen BK842.out 2; have hfz202_3 := blk_frozen BK842.out 3; have hfz202_4 := blk_frozen BK842.out 4; have hfz202_5 := blk_frozen BK842.out 5) | ((with_reducible refine gC 16 rfl ?_); refine gL (some 178) Try.func16 #[.string t791, .int .i64 t789] ?_; (with_reducible refine (impl_ReadGrant.calls kj108 t791 t789 t843 t844 t845 t846 t847 t848 false _ A160.out).mono ?_); refine laws_FnTickets.xC0 ?_; intro w203 hb; have n_ := aT (Kd.R_below (rF6 HO_768006.out BK842.out) hb) (aT (Kd.R_below (rF6 HO_768007.out BK842.out) hb) (aT (Kd.R_below (rF6 HO_783006.out BK842.out) hb) (aT (Kd.R_below (rF6 HO_783007.out BK842.out) hb) (aT (Kd.R_below (rF6 HO824.out BK842.out) hb) (aT (Kd.R_below (rF6 HO827.out BK842.out) hb) (aT (bF NB767_842 BK767 hb) (aT (bF NB782_842 BK782 hb) (aT (bF NB790_842 BK790 hb) (aT (bF NB796_842 BK796 hb) (aT (bF NB805_842 BK805 hb) (aT (bF NB814_842 BK814 hb) (aT (bF NB829_842 BK829 hb) (aT (bF NB834_842 BK834 hb) (aT (blk_below (g := gb842) (o := .cells #[.int .i64 t835, .int .i64 t836, .int .i64 t837, .int .i64 t838, .int .i64 t839, .int .i64 t840] 43 (0, 0)) (bP BK842) hb) (aM (below_step bS hb)))))))))))))))); clear HO_768006 HO_768007 HO_783006 HO_783007 HO824 HO827 BK767 BK782 BK790 BK796 BK805 BK814 BK829 BK834 BK842 HB; obtain ⟨HO_768006, HO_768007, HO_783006, HO_783007, HO824, HO827, BK767, BK782, BK790, BK796, BK805, BK814, BK829, BK834, BK842, HB⟩ := n_; (try clear hb)) | ((with_reducible refine gD 24 rfl ?_); refine bE #[.int .i64 0, .int .i64 0, .int .i64 0, .int .i64 0, .int .i64 0, .int .i64 0] 43 ?_; intro gb850 hg w204 hbox hb; have n_ := aT (rB HO_768006 hb) (aT (rB HO_768007 hb) (aT (rB HO_783006 hb) (aT (rB HO_783007 hb) (aT (rB HO824 hb) (aT (rB HO827 hb) (aT (bB BK767 hb) (aT (bB BK782 hb) (aT (bB BK790 hb) (aT (bB BK796 hb) (aT (bB BK805 hb) (aT (bB BK814 hb) (aT (bB BK829 hb) (aT (bB BK834 hb) (aT (bB BK842 hb) (aT (below_step bS hb) (aT (hbox) (aT ((bZ hg : w.heap.size ≤ gb850)) (aT ((bZ hg : w.heap.size ≤ gb850)) (aT (lB hg BK767) (aT (gB hg BK767) (aT (lB hg BK782) (aT (gB hg BK782) (aT (lB hg BK790) (aT (gB hg BK790) (aT (lB hg BK796) (aT (gB hg BK796) (aT (lB hg BK805) (aT (gB hg BK805) (aT (lB hg BK814) (aT (gB hg BK814) (aT (lB hg BK829) (aT (gB hg BK829) (aT (lB hg BK834) (aT (gB hg BK834) (aT (lB hg BK842) (aM (gB hg BK842))))))))))))))))))))))))))))))))))))); clear HO_768006 HO_768007 HO_783006 HO_783007 HO824 HO827 BK767 BK782 BK790 BK796 BK805 BK814 BK829 BK834 BK842 HB; obtain ⟨HO_768006, HO_768007, HO_783006, HO_783007, HO824, HO827, BK767, BK782, BK790, BK796, BK805, BK814, BK829, BK834, BK842, HB, BK850, GW850, GE850, NB767_850, NB850_767, NB782_850, NB850_782, NB790_850, NB850_790, NB796_850, NB850_796, NB805_850, NB850_805, NB814_850, NB850_814, NB829_850, NB850_829, NB834_850, NB850_834, NB842_850, NB850_842⟩ := n_; clear hb hbox hg; have hnb205 := NB850_767.out; have hnc205 := NB767_850.out; have hnb206 := NB850_782.out; have hnc206 := NB782_850.out; have hnb207 := NB850_790.out; have hnc207 := NB790_850.out; have hnb208 := NB850_796.out; have hnc208 := NB796_850.out; have hnb209 := NB850_805.out; have hnc209 := NB805_850.out; have hnb210 := NB850_814.out; have hnc210 := NB814_850.out; have hnb211 := NB850_829.out; have hnc211 := NB829_850.out; have hnb212 := NB850_834.out; have hnc212 := NB834_850.out; have hnb213 := NB850_842.out; have hnc213 := NB842_850.out; have hcz214_0 : w204.cell? ⟨gb850, 0, none⟩ = some (.int .i64 0) := (blk_cell BK850.out 0).trans rfl; have hcz214_1 : w204.cell? ⟨gb850, 1, none⟩ = some (.int .i64 0) := (blk_cell BK850.out 1).trans rfl; have hcz214_2 : w204.cell? ⟨gb850, 2, none⟩ = some (.int .i64 0) := (blk_cell BK850.out 2).trans rfl; have hcz214_3 : w204.cell? ⟨gb850, 3, none⟩ = some (.int .i64 0) := (blk_cell BK850.out 3).trans rfl; have hcz214_4 : w204.cell? ⟨gb850, 4, none⟩ = some (.int .i64 0) := (blk_cell BK850.out 4).trans rfl; have hcz214_5 : w204.cell? ⟨gb850, 5, none⟩ = some (.int .i64 0) := (blk_cell BK850.out 5).trans rfl; have hfz214_0 := blk_frozen BK850.out 0; have hfz214_1 := blk_frozen BK850.out 1; have hfz214_2 := blk_frozen BK850.out 2; have hfz214_3 := blk_frozen BK850.out 3; have hfz214_4 := blk_frozen BK850.out 4; have hfz214_5 := blk_frozen BK850.out 5) | ((with_reducible refine gC 18 rfl ?_); refine gL (some 182) Try.func18 #[.slice A0 l0.length c0] ?_; (with_reducible refine (spec_DrawShowRest.calls kj108 _ _ l0 t851 t852 t853 _ ?side1 ?side2 A161.out).mono ?_); (case side1 => exact Kd.C_below HR0.out bS); (case side2 => exact HC0.out); refine laws_FnTickets.xC0 ?_; intro w215 hb; have n_ := aT (Kd.R_below (rF6 HO_768006.out BK850.out) hb) (aT (Kd.R_below (rF6 HO_768007.out BK850.out) hb) (aT (Kd.R_below (rF6 HO_783006.out BK850.out) hb) (aT (Kd.R_below (rF6 HO_783007.out BK850.out) hb) (aT (Kd.R_below (rF6 HO824.out BK850.out) hb) (aT (Kd.R_below (rF6 HO827.out BK850.out) hb) (aT (bF NB767_850 BK767 hb) (aT (bF NB782_850 BK782 hb) (aT (bF NB790_850 BK790 hb) (aT (bF NB796_850 BK796 hb) (aT (bF NB805_850 BK805 hb) (aT (bF NB814_850 BK814 hb) (aT (bF NB829_850 BK829 hb) (aT (bF NB834_850 BK834 hb) (aT (bF NB842_850 BK842 hb) (aT (blk_below (g := gb850) (o := .cells #[.int .i64 t843, .int .i64 t844, .int .i64 t845, .int .i64 t846, .int .i64 t847, .int .i64 t848] 43 (0, 0)) (bP BK850) hb) (aM (below_step bS hb))))))))))))))))); clear HO_768006 HO_768007 HO_783006 HO_783007 HO824 HO827 BK767 BK782 BK790 BK796 BK805 BK814 BK829 BK834 BK842 BK850 HB; obtain ⟨HO_768006, HO_768007, HO_783006, HO_783007, HO824, HO827, BK767, BK782, BK790, BK796, BK805, BK814, BK829, BK834, BK842, BK850, HB⟩ := n_; (try clear hb)) | ((with_reducible refine gD 26 rfl ?_); refine bE #[.int .i64 0, .int .i64 0, .int .i64 0] 25 ?_; intro gb854 hg w216 hbox hb; have n_ := aT (rB HO_768006 hb) (aT (rB HO_768007 hb) (aT (rB HO_783006 hb) (aT (rB HO_783007 hb) (aT (rB HO824 hb) (aT (rB HO827 hb) (aT (bB BK767 hb) (aT (bB BK782 hb) (aT (bB BK790 hb) (aT (bB BK796 hb) (aT (bB BK805 hb) (aT (bB BK814 hb) (aT (bB BK829 hb) (aT (bB BK834 hb) (aT (bB BK842 hb) (aT (bB BK850 hb) (aT (below_step bS hb) (aT (hbox) (aT ((bZ hg : w.heap.size ≤ gb854)) (aT ((bZ hg : w.heap.size ≤ gb854)) (aT (lB hg BK767) (aT (gB hg BK767) (aT (lB hg BK782) (aT (gB hg BK782) (aT (lB hg BK790) (aT (gB hg BK790) (aT (lB hg BK796) (aT (gB hg BK796) (aT (lB hg BK805) (aT (gB hg BK805) (aT (lB hg BK814) (aT (gB hg BK814) (aT (lB hg BK829) (aT (gB hg BK829) (aT (lB hg BK834) (aT (gB hg BK834) (aT (lB hg BK842) (aT (gB hg BK842) (aT (lB hg BK850) (aM (gB hg BK850)))))))))))))))))))))))))))))))))))))))); clear HO_768006 HO_768007 HO_783006 HO_783007 HO824 HO827 BK767 BK782 BK790 BK796 BK805 BK814 BK829 BK834 BK842 BK850 HB; obtain ⟨HO_768006, HO_768007, HO_783006, HO_783007, HO824, HO827, BK767, BK782, BK790, BK796, BK805, BK814, BK829, BK834, BK842, BK850, HB, BK854, GW854, GE854, NB767_854, NB854_767, NB782_854, NB854_782, NB790_854, NB854_790, NB796_854, NB854_796, NB805_854, NB854_805, NB814_854, NB854_814, NB829_854, NB854_829, NB834_854, NB854_834, NB842_854, NB854_842, NB850_854, NB854_850⟩ := n_; clear hb hbox hg; have hnb217 := NB854_767.out; have hnc217 := NB767_854.out; have hnb218 := NB854_782.out; have hnc218 := NB782_854.out; have hnb219 := NB854_790.out; have hnc219 := NB790_854.out; have hnb220 := NB854_796.out; have hnc220 := NB796_854.out; have hnb221 := NB854_805.out; have hnc221 := NB805_854.out; have hnb222 := NB854_814.out; have hnc222 := NB814_854.out; have hnb223 := NB854_829.out; have hnc223 := NB829_854.out; have hnb224 := NB854_834.out; have hnc224 := NB834_854.out; have hnb225 := NB854_842.out; have hnc225 := NB842_854.out; have hnb226 := NB854_850.out; have hnc226 := NB850_854.out; have hcz227_0 : w216.cell? ⟨gb854, 0, none⟩ = some (.int .i64 0) := (blk_cell BK854.out 0).trans rfl; have hcz227_1 : w216.cell? ⟨gb854, 1, none⟩ = some (.int .i64 0) := (blk_cell BK854.out 1).trans rfl; have hcz227_2 : w216.cell? ⟨gb854, 2, none⟩ = some (.int .i64 0) := (blk_cell BK854.out 2).trans rfl; have hfz227_0 := blk_frozen BK854.out 0; have hfz227_1 := blk_frozen BK854.out 1; have hfz227_2 := blk_frozen BK854.out 2) | ((with_reducible refine gC 20 rfl ?_); refine gL (some 185) Try.func20 #[.agg #[.int .i64 t851, .int .i64 t852, .int .i64 t853]] ?_; (with_reducible refine (impl_ShowRest.calls kj108 t851 t852 t853 t855 _ A162.out).mono ?_); refine laws_FnTickets.xC0 ?_; intro w228 hb; have n_ := aT (Kd.R_below (rF3 HO_768006.out BK854.out) hb) (aT (Kd.R_below (rF3 HO_768007.out BK854.out) hb) (aT (Kd.R_below (rF3 HO_783006.out BK854.out) hb) (aT (Kd.R_below (rF3 HO_783007.out BK854.out) hb) (aT (Kd.R_below (rF3 HO824.out BK854.out) hb) (aT (Kd.R_below (rF3 HO827.out BK854.out) hb) (aT (bF NB767_854 BK767 hb) (aT (bF NB782_854 BK782 hb) (aT (bF NB790_854 BK790 hb) (aT (bF NB796_854 BK796 hb) (aT (bF NB805_854 BK805 hb) (aT (bF NB814_854 BK814 hb) (aT (bF NB829_854 BK829 hb) (aT (bF NB834_854 BK834 hb) (aT (bF NB842_854 BK842 hb) (aT (bF NB850_854 BK850 hb) (aT (blk_below (g := gb854) (o := .cells #[.int .i64 t851, .int .i64 t852, .int .i64 t853] 25 (0, 0)) (bP BK854) hb) (aM (below_step bS hb)))))))))))))))))); clear HO_768006 HO_768007 HO_783006 HO_783007 HO824 HO827 BK767 BK782 BK790 BK796 BK805 BK814 BK829 BK834 BK842 BK850 BK854 HB; obtain ⟨HO_768006, HO_768007, HO_783006, HO_783007, HO824, HO827, BK767, BK782, BK790, BK796, BK805, BK814, BK829, BK834, BK842, BK850, BK854, HB⟩ := n_; (try clear hb)) | ((with_reducible refine gC 19 rfl ?_); refine gL (some 186) Try.func19 #[.string t855] ?_; (with_reducible refine (impl_ReadRest.calls kj108 t855 t856 t857 t858 t859 _ A163.out).mono ?_); refine laws_FnTickets.xC0 ?_; intro w229 hb; have n_ := aT (rB HO_768006 hb) (aT (rB HO_768007 hb) (aT (rB HO_783006 hb) (aT (rB HO_783007 hb) (aT (rB HO824 hb) (aT (rB HO827 hb) (aT (bB BK767 hb) (aT (bB BK782 hb) (aT (bB BK790 hb) (aT (bB BK796 hb) (aT (bB BK805 hb) (aT (bB BK814 hb) (aT (bB BK829 hb) (aT (bB BK834 hb) (aT (bB BK842 hb) (aT (bB BK850 hb) (aT (bB BK854 hb) (aM (below_step bS hb)))))))))))))))))); clear HO_768006 HO_768007 HO_783006 HO_783007 HO824 HO827 BK767 BK782 BK790 BK796 BK805 BK814 BK829 BK834 BK842 BK850 BK854 HB; obtain ⟨HO_768006, HO_768007, HO_783006, HO_783007, HO824, HO827, BK767, BK782, BK790, BK796, BK805, BK814, BK829, BK834, BK842, BK850, BK854, HB⟩ := n_; (try clear hb)) | ((with_reducible refine gD 27 rfl ?_); refine bE #[.int .i64 0, .int .i64 0, .int .i64 0] 25 ?_; intro gb860 hg w230 hbox hb; have n_ := aT (rB HO_768006 hb) (aT (rB HO_768007 hb) (aT (rB HO_783006 hb) (aT (rB HO_783007 hb) (aT (rB HO824 hb) (aT (rB HO827 hb) (aT (bB BK767 hb) (aT (bB BK782 hb) (aT (bB BK790 hb) (aT (bB BK796 hb) (aT (bB BK805 hb) (aT (bB BK814 hb) (aT (bB BK829 hb) (aT (bB BK834 hb) (aT (bB BK842 hb) (aT (bB BK850 hb) (aT (bB BK854 hb) (aT (below_step bS hb) (aT (hbox) (aT ((bZ hg : w.heap.size ≤ gb860)) (aT ((bZ hg : w.heap.size ≤ gb860)) (aT (lB hg BK767) (aT (gB hg BK767) (aT (lB hg BK782) (aT (gB hg BK782) (aT (lB hg BK790) (aT (gB hg BK790) (aT (lB hg BK796) (aT (gB hg BK796) (aT (lB hg BK805) (aT (gB hg BK805) (aT (lB hg BK814) (aT (gB hg BK814) (aT (lB hg BK829) (aT (gB hg BK829) (aT (lB hg BK834) (aT (gB hg BK834) (aT (lB hg BK842) (aT (gB hg BK842) (aT (lB hg BK850) (aT (gB hg BK850) (aT (lB hg BK854) (aM (gB hg BK854))))))))))))))))))))))))))))))))))))))))))); clear HO_768006 HO_768007 HO_783006 HO_783007 HO824 HO827 BK767 BK782 BK790 BK796 BK805 BK814 BK829 BK834 BK842 BK850 BK854 HB; obtain ⟨HO_768006, HO_768007, HO_783006, HO_783007, HO824, HO827, BK767, BK782, BK790, BK796, BK805, BK814, BK829, BK834, BK842, BK850, BK854, HB, BK860, GW860, GE860, NB767_860, NB860_767, NB782_860, NB860_782, NB790_860, NB860_790, NB796_860, NB860_796, NB805_860, NB860_805, NB814_860, NB860_814, NB829_860, NB860_829, NB834_860, NB860_834, NB842_860, NB860_842, NB850_860, NB860_850, NB854_860, NB860_854⟩ := n_; clear hb hbox hg; have hnb231 := NB860_767.out; have hnc231 := NB767_860.out; have hnb232 := NB860_782.out; have hnc232 := NB782_860.out; have hnb233 := NB860_790.out; have hnc233 := NB790_860.out; have hnb234 := NB860_796.out; have hnc234 := NB796_860.out; have hnb235 := NB860_805.out; have hnc235 := NB805_860.out; have hnb236 := NB860_814.out; have hnc236 := NB814_860.out; have hnb237 := NB860_829.out; have hnc237 := NB829_860.out; have hnb238 := NB860_834.out; have hnc238 := NB834_860.out; have hnb239 := NB860_842.out; have hnc239 := NB842_860.out; have hnb240 := NB860_850.out; have hnc240 := NB850_860.out; have hnb241 := NB860_854.out; have hnc241 := NB854_860.out; have hcz242_0 : w230.cell? ⟨gb860, 0, none⟩ = some (.int .i64 0) := (blk_cell BK860.out 0).trans rfl; have hcz242_1 : w230.cell? ⟨gb860, 1, none⟩ = some (.int .i64 0) := (blk_cell BK860.out 1).trans rfl; have hcz242_2 : w230.cell? ⟨gb860, 2, none⟩ = some (.int .i64 0) := (blk_cell BK860.out 2).trans rfl; have hfz242_0 := blk_frozen BK860.out 0; have hfz242_1 := blk_frozen BK860.out 1; have hfz242_2 := blk_frozen BK860.out 2; have hcz243_0 : w230.cell? ⟨gb854, 0, none⟩ = some (.int .i64 t851) := (blk_cell BK854.out 0).trans rfl; have hcz243_1 : w230.cell? ⟨gb854, 1, none⟩ = some (.int .i64 t852) := (blk_cell BK854.out 1).trans rfl; have hcz243_2 : w230.cell? ⟨gb854, 2, none⟩ = some (.int .i64 t853) := (blk_cell BK854.out 2).trans rfl; have hfz243_0 := blk_frozen BK854.out 0; have hfz243_1 := blk_frozen BK854.out 1; have hfz243_2 := blk_frozen BK854.out 2))
 (try simp only [Act.put, List.setIfInBounds_toArray, List.set_cons_zero, List.set_cons_succ])
 have H := HC170.out
 clear HC170
 by_cases c169 : (t859 == t861) = true
 ·rw [if_pos c169] at H
  have c169b0 : (t859 == t861) = true := c169
  (try (have c169b1 : decide (t859 = t861) = true := by simpa using c169))
  (try (have c169b2 : (t859 == t861) = true := by simpa using c169))
  clear c169
  by_cases c170 : t859 = true
  ·subst c170
   rw [if_pos rfl] at H
   obtain rfl := Option.some.inj H
   go_wp2_with (first | (go_at_call 21; (with_reducible refine (spec_RestOk.calls t851 t852 t853 t861 _ A168.out).mono ?_); rintro e w244 ⟨rfl, hb⟩; have n_ := aT (Kd.R_below (rF3 HO_768006.out BK860.out) hb) (aT (Kd.R_below (rF3 HO_768007.out BK860.out) hb) (aT (Kd.R_below (rF3 HO_783006.out BK860.out) hb) (aT (Kd.R_below (rF3 HO_783007.out BK860.out) hb) (aT (Kd.R_below (rF3 HO824.out BK860.out) hb) (aT (Kd.R_below (rF3 HO827.out BK860.out) hb) (aT (bF NB767_860 BK767 hb) (aT (bF NB782_860 BK782 hb) (aT (bF NB790_860 BK790 hb) (aT (bF NB796_860 BK796 hb) (aT (bF NB805_860 BK805 hb) (aT (bF NB814_860 BK814 hb) (aT (bF NB829_860 BK829 hb) (aT (bF NB834_860 BK834 hb) (aT (bF NB842_860 BK842 hb) (aT (bF NB850_860 BK850 hb) (aT (bF NB854_860 BK854 hb) (aT (blk_below (g := gb860) (o := .cells #[.int .i64 t856, .int .i64 t857, .int .i64 t858] 25 (0, 0)) (bP BK860) hb) (aM (below_step bS hb))))))))))))))))))); clear HO_768006 HO_768007 HO_783006 HO_783007 HO824 HO827 BK767 BK782 BK790 BK796 BK805 BK814 BK829 BK834 BK842 BK850 BK854 BK860 HB; obtain ⟨HO_768006, HO_768007, HO_783006, HO_783007, HO824, HO827, BK767, BK782, BK790, BK796, BK805, BK814, BK829, BK834, BK842, BK850, BK854, BK860, HB⟩ := n_; (try clear hb); have hcz245_0 : w244.cell? ⟨gb860, 0, none⟩ = some (.int .i64 t856) := (blk_cell BK860.out 0).trans rfl; have hcz245_1 : w244.cell? ⟨gb860, 1, none⟩ = some (.int .i64 t857) := (blk_cell BK860.out 1).trans rfl; have hcz245_2 : w244.cell? ⟨gb860, 2, none⟩ = some (.int .i64 t858) := (blk_cell BK860.out 2).trans rfl; have hfz245_0 := blk_frozen BK860.out 0; have hfz245_1 := blk_frozen BK860.out 1; have hfz245_2 := blk_frozen BK860.out 2; have hcz246_0 : w244.cell? ⟨gb854, 0, none⟩ = some (.int .i64 t851) := (blk_cell BK854.out 0).trans rfl; have hcz246_1 : w244.cell? ⟨gb854, 1, none⟩ = some (.int .i64 t852) := (blk_cell BK854.out 1).trans rfl; have hcz246_2 : w244.cell? ⟨gb854, 2, none⟩ = some (.int .i64 t853) := (blk_cell BK854.out 2).trans rfl; have hfz246_0 := blk_frozen BK854.out 0; have hfz246_1 := blk_frozen BK854.out 1; have hfz246_2 := blk_frozen BK854.out 2))
   go_ret
   exact ⟨eE, bS⟩
  replace c170 := Bool.eq_false_iff.mpr c170
  subst c170
  rw [if_neg nF] at H
  obtain rfl := Option.some.inj H
  go_wp2_with (first | (go_at_call 21; (with_reducible refine (spec_RestOk.calls t851 t852 t853 t861 _ A168.out).mono ?_); rintro e w320 ⟨rfl, hb⟩; have n_ := aT (Kd.R_below (rF3 HO_768006.out BK860.out) hb) (aT (Kd.R_below (rF3 HO_768007.out BK860.out) hb) (aT (Kd.R_below (rF3 HO_783006.out BK860.out) hb) (aT (Kd.R_below (rF3 HO_783007.out BK860.out) hb) (aT (Kd.R_below (rF3 HO824.out BK860.out) hb) (aT (Kd.R_below (rF3 HO827.out BK860.out) hb) (aT (bF NB767_860 BK767 hb) (aT (bF NB782_860 BK782 hb) (aT (bF NB790_860 BK790 hb) (aT (bF NB796_860 BK796 hb) (aT (bF NB805_860 BK805 hb) (aT (bF NB814_860 BK814 hb) (aT (bF NB829_860 BK829 hb) (aT (bF NB834_860 BK834 hb) (aT (bF NB842_860 BK842 hb) (aT (bF NB850_860 BK850 hb) (aT (bF NB854_860 BK854 hb) (aT (blk_below (g := gb860) (o := .cells #[.int .i64 t856, .int .i64 t857, .int .i64 t858] 25 (0, 0)) (bP BK860) hb) (aM (below_step bS hb))))))))))))))))))); clear HO_768006 HO_768007 HO_783006 HO_783007 HO824 HO827 BK767 BK782 BK790 BK796 BK805 BK814 BK829 BK834 BK842 BK850 BK854 BK860 HB; obtain ⟨HO_768006, HO_768007, HO_783006, HO_783007, HO824, HO827, BK767, BK782, BK790, BK796, BK805, BK814, BK829, BK834, BK842, BK850, BK854, BK860, HB⟩ := n_; (try clear hb)))
  go_ret
  exact ⟨eE, bS⟩
 rw [if_neg c169] at H
 have c169b0 : (t859 == t861) = false := by simpa using c169
 (try (have c169b1 : decide (t859 = t861) = false := by simpa using c169))
 (try (have c169b2 : (t859 == t861) = false := by simpa using c169))
 (try (have c169b3 : ¬ (t859 = t861) := by simpa using c169))
 clear c169
 rw [hr_true.out] at H
 exact absurd H (by simp)

/-- THE ONE PURE STATEMENT of laws_FnTickets: yours. -/
def laws_FnTickets.Pure : Prop := ∀ (l0 : List Int), l0.length ≤ maxLen → l0.length * 1 ≤ 140737488351232 → (∀ x ∈ l0, (Lit.int .u8 x).wf = true) → ∃ k, laws_FnTickets.f k l0 = some true
theorem laws_FnTickets.walk (P : laws_FnTickets.Pure) (a0 : Option Addr) (len0 cap0 : Nat) (z0 : List Int) (w : World) (w0 : (a0 = none ∧ len0 = 0 ∧ cap0 = 0 ∧ z0 = []) ∨ ∃ x, a0 = some x ∧ len0 ≤ cap0 ∧ cap0 ≤ maxLen ∧ z0.length = cap0 ∧ (∀ i, i < z0.length → w.cell? (x.add i) = some (.int .u8 (z0.getD i 0))) ∧ ∀ n ∈ z0, (Lit.int .u8 n).wf = true) (y0 : len0 * 1 ≤ 140737488351232) :
  Calls Try.prog 3 #[.slice a0 len0 cap0] w fun e w' => e = .returned (.bool true) ∧ Below w.heap.size w w' := by
 obtain ⟨l0, rfl, hr0, hm0, hw0, hc0⟩ := ReadsInt.ofRowC w0
 obtain ⟨k, h⟩ := P l0 hm0 y0 hw0
 refine (laws_FnTickets.calls k _ _ l0 true w (Kd.C_of_reads (d := (0 : Int)) (h1 := fun _ => rfl) hr0) hc0 h ⟨rfl⟩).mono ?_
 rintro e w' ⟨rfl, hd⟩
 exact ⟨rfl, hd⟩

end Go.Proofs.Ytaldemgfndmmlaa.OFnTickets
-- wrapped
-- halved
-- squeezed
-- squeezed2
-- squeezed3
