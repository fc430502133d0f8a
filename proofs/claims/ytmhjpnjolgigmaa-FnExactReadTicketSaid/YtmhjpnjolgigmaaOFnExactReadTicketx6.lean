-- walks of this claim, written by a program of mine
import Derived.Test.YtmhjpnjolgigmaaOFnExactReadTicketx0
import Derived.Test.YtmhjpnjolgigmaaOFnExactReadTicketx1
import Derived.Test.YtmhjpnjolgigmaaOFnExactReadTicketx3
import Derived.Test.YtmhjpnjolgigmaaOFnExactReadTicketx4
import Derived.Test.YtmhjpnjolgigmaaOFnExactReadTicketx5
namespace Go.Proofs.Ytmhjpnjolgigmaa.OFnExactReadTicket
open Go.RowKit Go.Proofs.Ytmhjpnjolgigmaa.OWord Go.Proofs.YtmhjpnjolgigmaaW.PrintWords Go.Proofs.YtmhjpnjolgigmaaW.PrintLast Go.Proofs.YtmhjpnjolgigmaaW.PrintMore
attribute [local go_sem] max2_int min2_int max_two min_two max_three min_three max_four min_four   -- for this text's walks alone
set_option linter.unusedVariables false
set_option linter.unusedSimpArgs false

/-! ### spec_ReadTicket: function 26 -/
def spec_ReadTicket.j0 : Nat → List Int → Int → List Int → List Int → Bool → Int → Int → Int → Option (Int × Int × Int × Int × Int × Int × List Int × List Int × Bool)
 | 0, _, _, _, _, _, _, _, _ => none
 | k + 1, x10, x12, x16, x18, x93, x220000, x220001, x220002 => if x93 = true then (some (0, 0, 0, 0, 0, 0, ([] : List Int), ([] : List Int), false)) else (if 0 < (x10.length : Int) then (if 1 < (x10.length : Int) then ((spec_l5TicketOk.f k (rd x10 0) (rd x10 1) x12 x220000 x220001 x220002 x16 x18).bind fun t233 => (if t233 = true then (some (rd x10 0, rd x10 1, x12, x220000, x220001, x220002, x16, x18, true)) else (some (0, 0, 0, 0, 0, 0, ([] : List Int), ([] : List Int), false)))) else (none)) else (none))
def spec_ReadTicket.f (k : Nat) (a0 : ByteArray) (a1 : Int) : Option (Int × Int × Int × Int × Int × Int × List Int × List Int × Bool) := (spec_Open.f k a0 a1).bind fun bt200 => ((spec_Parts.f k bt200.1).bind fun bt202 => (if (bt202.1.length : Int) = 5 then (if 0 < (bt202.1.length : Int) then ((spec_ReadNums.f k (rdOf ByteArray.empty bt202.1 0)).bind fun bt207 => (if 1 < (bt202.1.length : Int) then ((spec_ReadKey.f k (rdOf ByteArray.empty bt202.1 1)).bind fun bt212 => (if 2 < (bt202.1.length : Int) then ((spec_ReadRest.f k (rdOf ByteArray.empty bt202.1 2)).bind fun bt215 => (if 3 < (bt202.1.length : Int) then ((spec_ReadNums.f k (rdOf ByteArray.empty bt202.1 3)).bind fun bt221 => (if 4 < (bt202.1.length : Int) then ((spec_ReadNums.f k (rdOf ByteArray.empty bt202.1 4)).bind fun bt226 => (if bt207.2 = true then (if bt212.2 = true then (if bt215.2.2.2 = true then (if bt221.2 = true then (if bt226.2 = true then (spec_ReadTicket.j0 k bt207.1 bt212.1 bt221.1 bt226.1 ((bt207.1.length : Int) != 2) bt215.1 bt215.2.1 bt215.2.2.1) else (spec_ReadTicket.j0 k bt207.1 bt212.1 bt221.1 bt226.1 true bt215.1 bt215.2.1 bt215.2.2.1)) else (spec_ReadTicket.j0 k bt207.1 bt212.1 bt221.1 bt226.1 true bt215.1 bt215.2.1 bt215.2.2.1)) else (spec_ReadTicket.j0 k bt207.1 bt212.1 bt221.1 bt226.1 true bt215.1 bt215.2.1 bt215.2.2.1)) else (spec_ReadTicket.j0 k bt207.1 bt212.1 bt221.1 bt226.1 true bt215.1 bt215.2.1 bt215.2.2.1)) else (spec_ReadTicket.j0 k bt207.1 bt212.1 bt221.1 bt226.1 true bt215.1 bt215.2.1 bt215.2.2.1))) else (none))) else (none))) else (none))) else (none))) else (none)) else (some (0, 0, 0, 0, 0, 0, ([] : List Int), ([] : List Int), false))))
theorem spec_ReadTicket.mono_l : ∀ k, (∀ y0 y1 y2 y3 y4 y5 y6 y7, LeO (spec_ReadTicket.j0 k y0 y1 y2 y3 y4 y5 y6 y7) (spec_ReadTicket.j0 (k + 1) y0 y1 y2 y3 y4 y5 y6 y7))
 | 0 => fun _ _ _ _ _ _ _ _ r h => by simp [spec_ReadTicket.j0] at h
 | k + 1 => by
  have ih0 := spec_ReadTicket.mono_l k
  ·intro y0 y1 y2 y3 y4 y5 y6 y7
   unfold spec_ReadTicket.j0
   repeat' first
   | (with_reducible exact ih0 _ _ _ _ _ _ _ _)
   | (with_reducible exact spec_Open.mono _ _ _)
   | (with_reducible exact spec_Parts.mono _ _)
   | (with_reducible exact spec_ReadKey.mono _ _)
   | (with_reducible exact spec_ReadNums.mono _ _)
   | (with_reducible exact spec_ReadRest.mono _ _)
   | (with_reducible exact spec_l5TicketOk.mono _ _ _ _ _ _ _ _ _)
   | (with_reducible exact LeO.refl _)
   | (with_reducible exact LeO.none _)
   | (with_reducible refine LeO.ite ?_ ?_)
   | (with_reducible refine LeO.bind ?_ (fun _ => ?_))
   | exact ih0 _ _ _ _ _ _ _ _
   | exact spec_Open.mono _ _ _
   | exact spec_Parts.mono _ _
   | exact spec_ReadKey.mono _ _
   | exact spec_ReadNums.mono _ _
   | exact spec_ReadRest.mono _ _
   | exact spec_l5TicketOk.mono _ _ _ _ _ _ _ _ _
   | exact LeO.none _
   | refine LeO.ite ?_ ?_
   | refine LeO.bind ?_ (fun _ => ?_)
theorem spec_ReadTicket.mono : ∀ a0 a1 k, LeO (spec_ReadTicket.f k a0 a1) (spec_ReadTicket.f (k + 1) a0 a1) := by
 intro a0 a1 k
 have ih0 := spec_ReadTicket.mono_l k
 unfold spec_ReadTicket.f
 repeat' first
   | (with_reducible exact ih0 _ _ _ _ _ _ _ _)
   | (with_reducible exact spec_Open.mono _ _ _)
   | (with_reducible exact spec_Parts.mono _ _)
   | (with_reducible exact spec_ReadKey.mono _ _)
   | (with_reducible exact spec_ReadNums.mono _ _)
   | (with_reducible exact spec_ReadRest.mono _ _)
   | (with_reducible exact spec_l5TicketOk.mono _ _ _ _ _ _ _ _ _)
   | (with_reducible exact LeO.refl _)
   | (with_reducible exact LeO.none _)
   | (with_reducible refine LeO.ite ?_ ?_)
   | (with_reducible refine LeO.bind ?_ (fun _ => ?_))
   | exact ih0 _ _ _ _ _ _ _ _
   | exact spec_Open.mono _ _ _
   | exact spec_Parts.mono _ _
   | exact spec_ReadKey.mono _ _
   | exact spec_ReadNums.mono _ _
   | exact spec_ReadRest.mono _ _
   | exact spec_l5TicketOk.mono _ _ _ _ _ _ _ _ _
   | exact LeO.none _
   | refine LeO.ite ?_ ?_
   | refine LeO.bind ?_ (fun _ => ?_)
def spec_ReadTicket.T12 : Bool × List (List Nat × List Nat) := (true, [([], []), ([0], [0]), ([1], [1]), ([], []), ([3], [3]), ([4], [4]), ([], []), ([], []), ([], []), ([], []), ([2, 5, 6, 7, 8, 9], [2, 5, 6, 7, 8, 9]), ([], []), ([11, 10, 0, 1, 2, 3, 4, 5, 6, 7, 8, 9, 10, 11], [10, 11])])
def spec_ReadTicket.B12 : List Nat := [0, 1, 3, 0, 8, 24, 0, 0, 0, 0, 1023, 0, 4095]
theorem spec_ReadTicket.tab12 : rtab .any (opsOf Try.f26 12) = spec_ReadTicket.T12 := by kernel_rfl
theorem spec_ReadTicket.bits12 : waitsOk spec_ReadTicket.T12.2 spec_ReadTicket.B12 = true := by kernel_rfl
set_option maxHeartbeats 8000000 in
set_option maxRecDepth 100000 in
theorem spec_ReadTicket.calls (k : Nat) (a0 : ByteArray) (a1 : Int) (r1 : Int) (r2 : Int) (r3 : Int) (r4 : Int) (r5 : Int) (r6 : Int) (r7 : List Int) (r8 : List Int) (r9 : Bool) (w : World) (h : spec_ReadTicket.f k a0 a1 = some (r1, r2, r3, r4, r5, r6, r7, r8, r9)) :
  Calls Try.prog 26 #[.string a0, .int .i64 a1] w fun e w' => ∃ v6_ v7_ : Value, e = .returned (.tuple #[.agg #[.int .i64 r1, .int .i64 r2, .int .i64 r3, .int .i64 r4, .int .i64 r5, .int .i64 r6, v6_, v7_], .bool r9]) ∧ Kd.R (Kd.int .i64) 3 w' w.heap.size (fun k_ => some k_ ≠ (v7_ : Value).ownBlock) v6_ r7 ∧ Kd.R (Kd.int .i64) 3 w' w.heap.size (fun k_ => some k_ ≠ (v6_ : Value).ownBlock) v7_ r8 ∧ Below w.heap.size w w' := by
 have hu52 := Try.underlying52
 have hu50 := Try.underlying50
 have HB := Aside0.mk (Below.refl w.heap.size w)
 have H : ((spec_Open.f k a0 a1).bind fun bt200 => ((spec_Parts.f k bt200.1).bind fun bt202 => (if (bt202.1.length : Int) = 5 then (if 0 < (bt202.1.length : Int) then ((spec_ReadNums.f k (rdOf ByteArray.empty bt202.1 0)).bind fun bt207 => (if 1 < (bt202.1.length : Int) then ((spec_ReadKey.f k (rdOf ByteArray.empty bt202.1 1)).bind fun bt212 => (if 2 < (bt202.1.length : Int) then ((spec_ReadRest.f k (rdOf ByteArray.empty bt202.1 2)).bind fun bt215 => (if 3 < (bt202.1.length : Int) then ((spec_ReadNums.f k (rdOf ByteArray.empty bt202.1 3)).bind fun bt221 => (if 4 < (bt202.1.length : Int) then ((spec_ReadNums.f k (rdOf ByteArray.empty bt202.1 4)).bind fun bt226 => (if bt207.2 = true then (if bt212.2 = true then (if bt215.2.2.2 = true then (if bt221.2 = true then (if bt226.2 = true then (spec_ReadTicket.j0 k bt207.1 bt212.1 bt221.1 bt226.1 ((bt207.1.length : Int) != 2) bt215.1 bt215.2.1 bt215.2.2.1) else (spec_ReadTicket.j0 k bt207.1 bt212.1 bt221.1 bt226.1 true bt215.1 bt215.2.1 bt215.2.2.1)) else (spec_ReadTicket.j0 k bt207.1 bt212.1 bt221.1 bt226.1 true bt215.1 bt215.2.1 bt215.2.2.1)) else (spec_ReadTicket.j0 k bt207.1 bt212.1 bt221.1 bt226.1 true bt215.1 bt215.2.1 bt215.2.2.1)) else (spec_ReadTicket.j0 k bt207.1 bt212.1 bt221.1 bt226.1 true bt215.1 bt215.2.1 bt215.2.2.1)) else (spec_ReadTicket.j0 k bt207.1 bt212.1 bt221.1 bt226.1 true bt215.1 bt215.2.1 bt215.2.2.1))) else (none))) else (none))) else (none))) else (none))) else (none)) else (some (0, 0, 0, 0, 0, 0, ([] : List Int), ([] : List Int), false))))) = some (r1, r2, r3, r4, r5, r6, r7, r8, r9) := h
 clear h
 replace H := Option.bind_eq_some_iff.mp H
 obtain ⟨⟨t200, t201⟩, A30, H⟩ := H
 replace H : ((spec_Parts.f k t200).bind fun bt202 => (if (bt202.1.length : Int) = 5 then (if 0 < (bt202.1.length : Int) then ((spec_ReadNums.f k (rdOf ByteArray.empty bt202.1 0)).bind fun bt207 => (if 1 < (bt202.1.length : Int) then ((spec_ReadKey.f k (rdOf ByteArray.empty bt202.1 1)).bind fun bt212 => (if 2 < (bt202.1.length : Int) then ((spec_ReadRest.f k (rdOf ByteArray.empty bt202.1 2)).bind fun bt215 => (if 3 < (bt202.1.length : Int) then ((spec_ReadNums.f k (rdOf ByteArray.empty bt202.1 3)).bind fun bt221 => (if 4 < (bt202.1.length : Int) then ((spec_ReadNums.f k (rdOf ByteArray.empty bt202.1 4)).bind fun bt226 => (if bt207.2 = true then (if bt212.2 = true then (if bt215.2.2.2 = true then (if bt221.2 = true then (if bt226.2 = true then (spec_ReadTicket.j0 k bt207.1 bt212.1 bt221.1 bt226.1 ((bt207.1.length : Int) != 2) bt215.1 bt215.2.1 bt215.2.2.1) else (spec_ReadTicket.j0 k bt207.1 bt212.1 bt221.1 bt226.1 true bt215.1 bt215.2.1 bt215.2.2.1)) else (spec_ReadTicket.j0 k bt207.1 bt212.1 bt221.1 bt226.1 true bt215.1 bt215.2.1 bt215.2.2.1)) else (spec_ReadTicket.j0 k bt207.1 bt212.1 bt221.1 bt226.1 true bt215.1 bt215.2.1 bt215.2.2.1)) else (spec_ReadTicket.j0 k bt207.1 bt212.1 bt221.1 bt226.1 true bt215.1 bt215.2.1 bt215.2.2.1)) else (spec_ReadTicket.j0 k bt207.1 bt212.1 bt221.1 bt226.1 true bt215.1 bt215.2.1 bt215.2.2.1))) else (none))) else (none))) else (none))) else (none))) else (none)) else (some (0, 0, 0, 0, 0, 0, ([] : List Int), ([] : List Int), false)))) = some (r1, r2, r3, r4, r5, r6, r7, r8, r9) := H
 have A3 := Aside0.mk A30
 clear A30
 replace H := Option.bind_eq_some_iff.mp H
 obtain ⟨⟨t202, t203⟩, A40, H⟩ := H
 replace H : (if (t202.length : Int) = 5 then (if 0 < (t202.length : Int) then ((spec_ReadNums.f k (rdOf ByteArray.empty t202 0)).bind fun bt207 => (if 1 < (t202.length : Int) then ((spec_ReadKey.f k (rdOf ByteArray.empty t202 1)).bind fun bt212 => (if 2 < (t202.length : Int) then ((spec_ReadRest.f k (rdOf ByteArray.empty t202 2)).bind fun bt215 => (if 3 < (t202.length : Int) then ((spec_ReadNums.f k (rdOf ByteArray.empty t202 3)).bind fun bt221 => (if 4 < (t202.length : Int) then ((spec_ReadNums.f k (rdOf ByteArray.empty t202 4)).bind fun bt226 => (if bt207.2 = true then (if bt212.2 = true then (if bt215.2.2.2 = true then (if bt221.2 = true then (if bt226.2 = true then (spec_ReadTicket.j0 k bt207.1 bt212.1 bt221.1 bt226.1 ((bt207.1.length : Int) != 2) bt215.1 bt215.2.1 bt215.2.2.1) else (spec_ReadTicket.j0 k bt207.1 bt212.1 bt221.1 bt226.1 true bt215.1 bt215.2.1 bt215.2.2.1)) else (spec_ReadTicket.j0 k bt207.1 bt212.1 bt221.1 bt226.1 true bt215.1 bt215.2.1 bt215.2.2.1)) else (spec_ReadTicket.j0 k bt207.1 bt212.1 bt221.1 bt226.1 true bt215.1 bt215.2.1 bt215.2.2.1)) else (spec_ReadTicket.j0 k bt207.1 bt212.1 bt221.1 bt226.1 true bt215.1 bt215.2.1 bt215.2.2.1)) else (spec_ReadTicket.j0 k bt207.1 bt212.1 bt221.1 bt226.1 true bt215.1 bt215.2.1 bt215.2.2.1))) else (none))) else (none))) else (none))) else (none))) else (none)) else (some (0, 0, 0, 0, 0, 0, ([] : List Int), ([] : List Int), false))) = some (r1, r2, r3, r4, r5, r6, r7, r8, r9) := H
 have A4 := Aside0.mk A40
 clear A40
 by_cases c5 : (t202.length : Int) = 5
 ·rw [if_pos c5] at H
  have c5b0 : ((t202.length : Int) == 5) = true := beq_iff_eq.mpr c5
  have c5b1 : ((t202.length : Int) != 5) = false := bne_eq_false_iff_eq.mpr c5
  clear c5
  by_cases c6 : 0 < (t202.length : Int)
  ·rw [if_pos c6] at H
   have c6b0 : decide (0 < (t202.length : Int)) = true := decide_eq_true c6
   have c6b1 : decide (0 < t202.length) = true := decide_eq_true (by omega)
   clear c6
   replace H := Option.bind_eq_some_iff.mp H
   obtain ⟨⟨t207, t208⟩, A70, H⟩ := H
   replace H : (if 1 < (t202.length : Int) then ((spec_ReadKey.f k (rdOf ByteArray.empty t202 1)).bind fun bt212 => (if 2 < (t202.length : Int) then ((spec_ReadRest.f k (rdOf ByteArray.empty t202 2)).bind fun bt215 => (if 3 < (t202.length : Int) then ((spec_ReadNums.f k (rdOf ByteArray.empty t202 3)).bind fun bt221 => (if 4 < (t202.length : Int) then ((spec_ReadNums.f k (rdOf ByteArray.empty t202 4)).bind fun bt226 => (if t208 = true then (if bt212.2 = true then (if bt215.2.2.2 = true then (if bt221.2 = true then (if bt226.2 = true then (spec_ReadTicket.j0 k t207 bt212.1 bt221.1 bt226.1 ((t207.length : Int) != 2) bt215.1 bt215.2.1 bt215.2.2.1) else (spec_ReadTicket.j0 k t207 bt212.1 bt221.1 bt226.1 true bt215.1 bt215.2.1 bt215.2.2.1)) else (spec_ReadTicket.j0 k t207 bt212.1 bt221.1 bt226.1 true bt215.1 bt215.2.1 bt215.2.2.1)) else (spec_ReadTicket.j0 k t207 bt212.1 bt221.1 bt226.1 true bt215.1 bt215.2.1 bt215.2.2.1)) else (spec_ReadTicket.j0 k t207 bt212.1 bt221.1 bt226.1 true bt215.1 bt215.2.1 bt215.2.2.1)) else (spec_ReadTicket.j0 k t207 bt212.1 bt221.1 bt226.1 true bt215.1 bt215.2.1 bt215.2.2.1))) else (none))) else (none))) else (none))) else (none)) = some (r1, r2, r3, r4, r5, r6, r7, r8, r9) := H
   have A7 := Aside0.mk A70
   clear A70
   by_cases c8 : 1 < (t202.length : Int)
   ·rw [if_pos c8] at H
    have c8b0 : decide (1 < (t202.length : Int)) = true := decide_eq_true c8
    have c8b1 : decide (1 < t202.length) = true := decide_eq_true (by omega)
    clear c8
    replace H := Option.bind_eq_some_iff.mp H
    obtain ⟨⟨t212, t213⟩, A90, H⟩ := H
    replace H : (if 2 < (t202.length : Int) then ((spec_ReadRest.f k (rdOf ByteArray.empty t202 2)).bind fun bt215 => (if 3 < (t202.length : Int) then ((spec_ReadNums.f k (rdOf ByteArray.empty t202 3)).bind fun bt221 => (if 4 < (t202.length : Int) then ((spec_ReadNums.f k (rdOf ByteArray.empty t202 4)).bind fun bt226 => (if t208 = true then (if t213 = true then (if bt215.2.2.2 = true then (if bt221.2 = true then (if bt226.2 = true then (spec_ReadTicket.j0 k t207 t212 bt221.1 bt226.1 ((t207.length : Int) != 2) bt215.1 bt215.2.1 bt215.2.2.1) else (spec_ReadTicket.j0 k t207 t212 bt221.1 bt226.1 true bt215.1 bt215.2.1 bt215.2.2.1)) else (spec_ReadTicket.j0 k t207 t212 bt221.1 bt226.1 true bt215.1 bt215.2.1 bt215.2.2.1)) else (spec_ReadTicket.j0 k t207 t212 bt221.1 bt226.1 true bt215.1 bt215.2.1 bt215.2.2.1)) else (spec_ReadTicket.j0 k t207 t212 bt221.1 bt226.1 true bt215.1 bt215.2.1 bt215.2.2.1)) else (spec_ReadTicket.j0 k t207 t212 bt221.1 bt226.1 true bt215.1 bt215.2.1 bt215.2.2.1))) else (none))) else (none))) else (none)) = some (r1, r2, r3, r4, r5, r6, r7, r8, r9) := H
    have A9 := Aside0.mk A90
    clear A90
    by_cases c10 : 2 < (t202.length : Int)
    ·rw [if_pos c10] at H
     have c10b0 : decide (2 < (t202.length : Int)) = true := decide_eq_true c10
     have c10b1 : decide (2 < t202.length) = true := decide_eq_true (by omega)
     clear c10
     replace H := Option.bind_eq_some_iff.mp H
     obtain ⟨⟨t215, t216, t217, t218⟩, A110, H⟩ := H
     replace H : (if 3 < (t202.length : Int) then ((spec_ReadNums.f k (rdOf ByteArray.empty t202 3)).bind fun bt221 => (if 4 < (t202.length : Int) then ((spec_ReadNums.f k (rdOf ByteArray.empty t202 4)).bind fun bt226 => (if t208 = true then (if t213 = true then (if t218 = true then (if bt221.2 = true then (if bt226.2 = true then (spec_ReadTicket.j0 k t207 t212 bt221.1 bt226.1 ((t207.length : Int) != 2) t215 t216 t217) else (spec_ReadTicket.j0 k t207 t212 bt221.1 bt226.1 true t215 t216 t217)) else (spec_ReadTicket.j0 k t207 t212 bt221.1 bt226.1 true t215 t216 t217)) else (spec_ReadTicket.j0 k t207 t212 bt221.1 bt226.1 true t215 t216 t217)) else (spec_ReadTicket.j0 k t207 t212 bt221.1 bt226.1 true t215 t216 t217)) else (spec_ReadTicket.j0 k t207 t212 bt221.1 bt226.1 true t215 t216 t217))) else (none))) else (none)) = some (r1, r2, r3, r4, r5, r6, r7, r8, r9) := H
     have A11 := Aside0.mk A110
     clear A110
     by_cases c12 : 3 < (t202.length : Int)
     ·rw [if_pos c12] at H
      have c12b0 : decide (3 < (t202.length : Int)) = true := decide_eq_true c12
      have c12b1 : decide (3 < t202.length) = true := decide_eq_true (by omega)
      clear c12
      replace H := Option.bind_eq_some_iff.mp H
      obtain ⟨⟨t221, t222⟩, A130, H⟩ := H
      replace H : (if 4 < (t202.length : Int) then ((spec_ReadNums.f k (rdOf ByteArray.empty t202 4)).bind fun bt226 => (if t208 = true then (if t213 = true then (if t218 = true then (if t222 = true then (if bt226.2 = true then (spec_ReadTicket.j0 k t207 t212 t221 bt226.1 ((t207.length : Int) != 2) t215 t216 t217) else (spec_ReadTicket.j0 k t207 t212 t221 bt226.1 true t215 t216 t217)) else (spec_ReadTicket.j0 k t207 t212 t221 bt226.1 true t215 t216 t217)) else (spec_ReadTicket.j0 k t207 t212 t221 bt226.1 true t215 t216 t217)) else (spec_ReadTicket.j0 k t207 t212 t221 bt226.1 true t215 t216 t217)) else (spec_ReadTicket.j0 k t207 t212 t221 bt226.1 true t215 t216 t217))) else (none)) = some (r1, r2, r3, r4, r5, r6, r7, r8, r9) := H
      have A13 := Aside0.mk A130
      clear A130
      by_cases c14 : 4 < (t202.length : Int)
      ·rw [if_pos c14] at H
       have c14b0 : decide (4 < (t202.length : Int)) = true := decide_eq_true c14
       have c14b1 : decide (4 < t202.length) = true := decide_eq_true (by omega)
       clear c14
       replace H := Option.bind_eq_some_iff.mp H
       obtain ⟨⟨t226, t227⟩, A150, H⟩ := H
       replace H : (if t208 = true then (if t213 = true then (if t218 = true then (if t222 = true then (if t227 = true then (spec_ReadTicket.j0 k t207 t212 t221 t226 ((t207.length : Int) != 2) t215 t216 t217) else (spec_ReadTicket.j0 k t207 t212 t221 t226 true t215 t216 t217)) else (spec_ReadTicket.j0 k t207 t212 t221 t226 true t215 t216 t217)) else (spec_ReadTicket.j0 k t207 t212 t221 t226 true t215 t216 t217)) else (spec_ReadTicket.j0 k t207 t212 t221 t226 true t215 t216 t217)) else (spec_ReadTicket.j0 k t207 t212 t221 t226 true t215 t216 t217)) = some (r1, r2, r3, r4, r5, r6, r7, r8, r9) := H
       have A15 := Aside0.mk A150
       clear A150
       have HC16 := Aside0.mk H
       clear H
       go_enter Try.func26, Try.ntmps26
       go_upto_region 10 with (first | ((with_reducible refine gate_dst (N := 4) rfl ?_); (try (refine gate_guard (by rfl) ?_; dsimp only)); refine box_event ?hg (N := 4) ?hd (cs := #[.int .i64 0, .int .i64 0, .int .i64 0, .int .i64 0, .int .i64 0, .int .i64 0, .slice none 0 0, .slice none 0 0]) (t := 52) ?hr ?_; (case hd => rfl); (case hg => rfl); (case hr => first | (go_simp; done) | (go_simp; rfl)); intro gb199 hg w17 hbox hb; have n0_ := Aside0.mk (below_step bH hb); have n1_ := Aside0.mk (hbox); have n2_ := Aside0.mk ((bZ hg : w.heap.size ≤ gb199)); have n3_ := Aside0.mk ((bZ hg : w.heap.size ≤ gb199)); clear HB; have HB := n0_; have BK199 := n1_; have GW199 := n2_; have GE199 := n3_; clear n0_ n1_ n2_ n3_; clear hb hbox hg) | ((with_reducible refine gate_callee (f := 85) rfl ?_); refine goesL_ (some 24) rfl rfl Try.func85 (by kernel_rfl) rfl #[.string a0, .int .i64 a1] rfl eA ?_; (with_reducible refine (spec_Open.calls k a0 a1 t200 t201 _ A3.out).mono ?_); rintro e w18 ⟨rfl, hb⟩; refine ⟨_, rfl, ?_⟩; have n0_ := Aside0.mk (blk_below (kB BK199.out) hb); have n1_ := Aside0.mk (below_step bS hb); clear BK199; clear HB; have BK199 := n0_; have HB := n1_; clear n0_ n1_; (try clear hb); (try clear hb2); (try clear hk); (try clear hi)) | ((with_reducible refine gate_callee (f := 86) rfl ?_); refine goesL_ (some 29) rfl rfl Try.func86 (by kernel_rfl) rfl #[.string t200] rfl eA ?_; (with_reducible refine (spec_Parts.calls k t200 t202 t203 _ A4.out).mono ?_); rintro e w19 ⟨v204, rfl, ho0, hb⟩; refine ⟨_, rfl, ?_⟩; have n0_ := Aside0.mk (Kd.R_lower ho0 (below_size bS)); have n1_ := Aside0.mk (blk_below (kB BK199.out) hb); have n2_ := Aside0.mk (below_step bS hb); clear BK199; clear HB; have HO205 := n0_; have BK199 := n1_; have HB := n2_; clear n0_ n1_ n2_; (try clear hb); (try clear hb2); (try clear hk); (try clear hi); (try clear ho0); obtain ⟨Ao20, co20, eo20⟩ := Kd.R_slice HO205.out; subst eo20; have p206 : 0 ≤ (0 : Int) := (by omega); have q206 : 0 < (t202.length : Int) := of_decide_eq_true aA; obtain ⟨ad206, e206, hx206_0⟩ := Kd.at_string (Kd.R_reads' HO205.out).2.2 0 p206 q206; cases e206; have qi206 : (0 < t202.length) = True := eq_true (by omega); (try rw [show ((0 : Int)).toNat = 0 from rfl] at hx206_0); (try rw [Addr.add_zero'] at hx206_0); replace p206 := eq_true p206; replace q206 := eq_true q206) | ((with_reducible refine gate_callee (f := 87) rfl ?_); refine goesL_ (some 40) rfl rfl Try.func87 (by kernel_rfl) rfl #[.string (rdOf ByteArray.empty t202 0)] rfl eA ?_; (with_reducible refine (spec_ReadNums.calls k (rdOf ByteArray.empty t202 0) t207 t208 _ A7.out).mono ?_); rintro e w21 ⟨v209, rfl, ho0, hb⟩; refine ⟨_, rfl, ?_⟩; have n0_ := Aside0.mk (Kd.R_below (kR HO205.out) hb); have n1_ := Aside0.mk (Kd.R_lower ho0 (below_size bS)); have n2_ := Aside0.mk (blk_below (kB BK199.out) hb); have n3_ := Aside0.mk (below_step bS hb); clear HO205; clear BK199; clear HB; have HO205 := n0_; have HO210 := n1_; have BK199 := n2_; have HB := n3_; clear n0_ n1_ n2_ n3_; (try clear hb); (try clear hb2); (try clear hk); (try clear hi); (try clear ho0); have p211 : 0 ≤ (1 : Int) := (by omega); have q211 : 1 < (t202.length : Int) := of_decide_eq_true aA; obtain ⟨ad211, e211, hx211_0⟩ := Kd.at_string (Kd.R_reads' HO205.out).2.2 1 p211 q211; obtain rfl : ad206 = ad211 := (by injection e211); (try simp only [show (1 : Int).toNat = 1 from rfl, Nat.reduceMul, Nat.reduceEqDiff, Go.Addr.add, ↓reduceIte] at hx211_0); have qi211 : (1 < t202.length) = True := eq_true (by omega); (try rw [show ((1 : Int)).toNat = 1 from rfl] at hx211_0); replace p211 := eq_true p211; replace q211 := eq_true q211) | ((with_reducible refine gate_callee (f := 88) rfl ?_); refine goesL_ (some 47) rfl rfl Try.func88 (by kernel_rfl) rfl #[.string (rdOf ByteArray.empty t202 1)] rfl eA ?_; (with_reducible refine (spec_ReadKey.calls k (rdOf ByteArray.empty t202 1) t212 t213 _ A9.out).mono ?_); rintro e w22 ⟨rfl, hb⟩; refine ⟨_, rfl, ?_⟩; have n0_ := Aside0.mk (Kd.R_below (kR HO205.out) hb); have n1_ := Aside0.mk (Kd.R_below (kR HO210.out) hb); have n2_ := Aside0.mk (blk_below (kB BK199.out) hb); have n3_ := Aside0.mk (below_step bS hb); clear HO205; clear HO210; clear BK199; clear HB; have HO205 := n0_; have HO210 := n1_; have BK199 := n2_; have HB := n3_; clear n0_ n1_ n2_ n3_; (try clear hb); (try clear hb2); (try clear hk); (try clear hi); have p214 : 0 ≤ (2 : Int) := (by omega); have q214 : 2 < (t202.length : Int) := of_decide_eq_true aA; obtain ⟨ad214, e214, hx214_0⟩ := Kd.at_string (Kd.R_reads' HO205.out).2.2 2 p214 q214; obtain rfl : ad206 = ad214 := (by injection e214); (try simp only [show (2 : Int).toNat = 2 from rfl, Nat.reduceMul, Nat.reduceEqDiff, Go.Addr.add, ↓reduceIte] at hx214_0); have qi214 : (2 < t202.length) = True := eq_true (by omega); (try rw [show ((2 : Int)).toNat = 2 from rfl] at hx214_0); replace p214 := eq_true p214; replace q214 := eq_true q214) | ((with_reducible refine gate_callee (f := 89) rfl ?_); refine goesL_ (some 54) rfl rfl Try.func89 (by kernel_rfl) rfl #[.string (rdOf ByteArray.empty t202 2)] rfl eA ?_; (with_reducible refine (spec_ReadRest.calls k (rdOf ByteArray.empty t202 2) t215 t216 t217 t218 _ A11.out).mono ?_); rintro e w23 ⟨rfl, hb⟩; refine ⟨_, rfl, ?_⟩; have n0_ := Aside0.mk (Kd.R_below (kR HO205.out) hb); have n1_ := Aside0.mk (Kd.R_below (kR HO210.out) hb); have n2_ := Aside0.mk (blk_below (kB BK199.out) hb); have n3_ := Aside0.mk (below_step bS hb); clear HO205; clear HO210; clear BK199; clear HB; have HO205 := n0_; have HO210 := n1_; have BK199 := n2_; have HB := n3_; clear n0_ n1_ n2_ n3_; (try clear hb); (try clear hb2); (try clear hk); (try clear hi)) | ((with_reducible refine gate_dst (N := 14) rfl ?_); (try (refine gate_guard (by rfl) ?_; dsimp only)); refine box_event ?hg (N := 14) ?hd (cs := #[.int .i64 0, .int .i64 0, .int .i64 0]) (t := 50) ?hr ?_; (case hd => rfl); (case hg => rfl); (case hr => first | (go_simp; done) | (go_simp; rfl)); intro gb219 hg w24 hbox hb; have n0_ := Aside0.mk (Kd.R_below (kR HO205.out) hb); have n1_ := Aside0.mk (Kd.R_below (kR HO210.out) hb); have n2_ := Aside0.mk (blk_below (kB BK199.out) hb); have n3_ := Aside0.mk (below_step bS hb); have n4_ := Aside0.mk (hbox); have n5_ := Aside0.mk ((bZ hg : w.heap.size ≤ gb219)); have n6_ := Aside0.mk ((bZ hg : w.heap.size ≤ gb219)); have n7_ := Aside0.mk ((nL hg BK199.out : gb199 ≠ gb219)); have n8_ := Aside0.mk ((nG hg BK199.out : gb219 ≠ gb199)); clear HO205; clear HO210; clear BK199; clear HB; have HO205 := n0_; have HO210 := n1_; have BK199 := n2_; have HB := n3_; have BK219 := n4_; have GW219 := n5_; have GE219 := n6_; have NB199_219 := n7_; have NB219_199 := n8_; clear n0_ n1_ n2_ n3_ n4_ n5_ n6_ n7_ n8_; clear hb hbox hg; have hnb25 := NB219_199.out; have hnc25 := NB199_219.out; have hcz26_0 : w24.cell? ⟨gb219, 0, none⟩ = some (.int .i64 0) := (blk_cell BK219.out 0).trans rfl; have hcz26_1 : w24.cell? ⟨gb219, 1, none⟩ = some (.int .i64 0) := (blk_cell BK219.out 1).trans rfl; have hcz26_2 : w24.cell? ⟨gb219, 2, none⟩ = some (.int .i64 0) := (blk_cell BK219.out 2).trans rfl; have hfz26_0 := blk_frozen BK219.out 0; have hfz26_1 := blk_frozen BK219.out 1; have hfz26_2 := blk_frozen BK219.out 2; have p220 : 0 ≤ (3 : Int) := (by omega); have q220 : 3 < (t202.length : Int) := of_decide_eq_true aA; obtain ⟨ad220, e220, hx220_0⟩ := Kd.at_string (Kd.R_reads' HO205.out).2.2 3 p220 q220; obtain rfl : ad206 = ad220 := (by injection e220); (try simp only [show (3 : Int).toNat = 3 from rfl, Nat.reduceMul, Nat.reduceEqDiff, Go.Addr.add, ↓reduceIte] at hx220_0); have qi220 : (3 < t202.length) = True := eq_true (by omega); (try rw [show ((3 : Int)).toNat = 3 from rfl] at hx220_0); have hn220_0 : ad206.block ≠ gb219 := Kd.own_blk (Kd.R_ne HO205.out BK219.out (by decide)); have hn220_1 : ad206.block ≠ gb219 := Kd.own_blk (Kd.R_ne HO205.out BK219.out (by decide)); have hn220_2 : ad206.block ≠ gb219 := Kd.own_blk (Kd.R_ne HO205.out BK219.out (by decide)); replace hx220_0 := (cell_far (p := ⟨gb219, 0, none⟩) (by first | (rw [add_block]; exact hn220_0) | (show (Addr.add _ _).block ≠ _; rw [add_block]; exact hn220_0) | exact hn220_0) (.int .i64 t215)).trans hx220_0; replace hx220_0 := (cell_far (p := ⟨gb219, 1, none⟩) (by first | (rw [add_block]; exact hn220_1) | (show (Addr.add _ _).block ≠ _; rw [add_block]; exact hn220_1) | exact hn220_1) (.int .i64 t216)).trans hx220_0; replace hx220_0 := (cell_far (p := ⟨gb219, 2, none⟩) (by first | (rw [add_block]; exact hn220_2) | (show (Addr.add _ _).block ≠ _; rw [add_block]; exact hn220_2) | exact hn220_2) (.int .i64 t217)).trans hx220_0; clear hn220_0; clear hn220_1; clear hn220_2; replace p220 := eq_true p220; replace q220 := eq_true q220) | ((with_reducible refine gate_callee (f := 87) rfl ?_); refine goesL_ (some 61) rfl rfl Try.func87 (by kernel_rfl) rfl #[.string (rdOf ByteArray.empty t202 3)] rfl eA ?_; (with_reducible refine (spec_ReadNums.calls k (rdOf ByteArray.empty t202 3) t221 t222 _ A13.out).mono ?_); rintro e w27 ⟨v223, rfl, ho0, hb⟩; refine ⟨_, rfl, ?_⟩; have n0_ := Aside0.mk (Kd.R_below (by (with_reducible repeat (first | apply Kd.R_alloc | apply Kd.R_drewN | apply Kd.R_drew)); exact (Kd.R_mono (Kd.R_far (p := ⟨gb219, 2, none⟩) (Kd.R_far (p := ⟨gb219, 1, none⟩) (Kd.R_far (p := ⟨gb219, 0, none⟩) (Kd.R_types HO205.out BK219.out (by decide)) (fun _ hk => hk.2) (.int .i64 t215)) (fun _ hk => hk.2) (.int .i64 t216)) (fun _ hk => hk.2) (.int .i64 t217)) (fun _ h_ => h_.1))) hb); have n1_ := Aside0.mk (Kd.R_elder' (by (with_reducible repeat (first | apply Kd.R_alloc | apply Kd.R_drewN | apply Kd.R_drew)); exact (Kd.R_mono (Kd.R_far (p := ⟨gb219, 2, none⟩) (Kd.R_far (p := ⟨gb219, 1, none⟩) (Kd.R_far (p := ⟨gb219, 0, none⟩) (Kd.R_types HO210.out BK219.out (by decide)) (fun _ hk => hk.2) (.int .i64 t215)) (fun _ hk => hk.2) (.int .i64 t216)) (fun _ hk => hk.2) (.int .i64 t217)) (fun _ h_ => h_.1))) (Kd.R_base ho0) hb); have n2_ := Aside0.mk (Kd.R_lower (Kd.R_new' ho0 (Kd.R_lt (by (with_reducible repeat (first | apply Kd.R_alloc | apply Kd.R_drewN | apply Kd.R_drew)); exact (Kd.R_mono (Kd.R_far (p := ⟨gb219, 2, none⟩) (Kd.R_far (p := ⟨gb219, 1, none⟩) (Kd.R_far (p := ⟨gb219, 0, none⟩) (Kd.R_types HO210.out BK219.out (by decide)) (fun _ hk => hk.2) (.int .i64 t215)) (fun _ hk => hk.2) (.int .i64 t216)) (fun _ hk => hk.2) (.int .i64 t217)) (fun _ h_ => h_.1))))) (below_size bS)); have n3_ := Aside0.mk (blk_below (g := gb199) (o := .cells #[.int .i64 0, .int .i64 0, .int .i64 0, .int .i64 0, .int .i64 0, .int .i64 0, .slice none 0 0, .slice none 0 0] 52 (0, 0)) (by (with_reducible repeat (first | refine blk_drewN ?_ _ | refine blk_drew ?_ | refine blk_alloc ?_ _)); refine blk_far ?_ NB199_219.out _; (with_reducible repeat (first | refine blk_drewN ?_ _ | refine blk_drew ?_ | refine blk_alloc ?_ _)); refine blk_far ?_ NB199_219.out _; (with_reducible repeat (first | refine blk_drewN ?_ _ | refine blk_drew ?_ | refine blk_alloc ?_ _)); refine blk_far ?_ NB199_219.out _; (with_reducible repeat (first | refine blk_drewN ?_ _ | refine blk_drew ?_ | refine blk_alloc ?_ _)); exact BK199.out) hb); have n4_ := Aside0.mk (blk_below (g := gb219) (o := .cells #[.int .i64 t215, .int .i64 t216, .int .i64 t217] 50 (0, 0)) (by (with_reducible repeat (first | refine blk_drewN ?_ _ | refine blk_drew ?_ | refine blk_alloc ?_ _)); refine blk_put (cs := #[.int .i64 t215, .int .i64 t216, .int .i64 0]) ?_ 2 _ rfl; (with_reducible repeat (first | refine blk_drewN ?_ _ | refine blk_drew ?_ | refine blk_alloc ?_ _)); refine blk_put (cs := #[.int .i64 t215, .int .i64 0, .int .i64 0]) ?_ 1 _ rfl; (with_reducible repeat (first | refine blk_drewN ?_ _ | refine blk_drew ?_ | refine blk_alloc ?_ _)); refine blk_put (cs := #[.int .i64 0, .int .i64 0, .int .i64 0]) ?_ 0 _ rfl; (with_reducible repeat (first | refine blk_drewN ?_ _ | refine blk_drew ?_ | refine blk_alloc ?_ _)); exact BK219.out) hb); have n5_ := Aside0.mk (below_step bS hb); clear HO205; clear HO210; clear BK199; clear BK219; clear HB; have HO205 := n0_; have HO210 := n1_; have HO224 := n2_; have BK199 := n3_; have BK219 := n4_; have HB := n5_; clear n0_ n1_ n2_ n3_ n4_ n5_; (try clear hb); (try clear hb2); (try clear hk); (try clear hi); (try clear ho0); have p225 : 0 ≤ (4 : Int) := (by omega); have q225 : 4 < (t202.length : Int) := of_decide_eq_true aA; obtain ⟨ad225, e225, hx225_0⟩ := Kd.at_string (Kd.R_reads' HO205.out).2.2 4 p225 q225; obtain rfl : ad206 = ad225 := (by injection e225); (try simp only [show (4 : Int).toNat = 4 from rfl, Nat.reduceMul, Nat.reduceEqDiff, Go.Addr.add, ↓reduceIte] at hx225_0); have qi225 : (4 < t202.length) = True := eq_true (by omega); (try rw [show ((4 : Int)).toNat = 4 from rfl] at hx225_0); replace p225 := eq_true p225; replace q225 := eq_true q225) | ((with_reducible refine gate_callee (f := 87) rfl ?_); refine goesL_ (some 68) rfl rfl Try.func87 (by kernel_rfl) rfl #[.string (rdOf ByteArray.empty t202 4)] rfl eA ?_; (with_reducible refine (spec_ReadNums.calls k (rdOf ByteArray.empty t202 4) t226 t227 _ A15.out).mono ?_); rintro e w28 ⟨v228, rfl, ho0, hb⟩; refine ⟨_, rfl, ?_⟩; have n0_ := Aside0.mk (Kd.R_below (kR HO205.out) hb); have n1_ := Aside0.mk (Kd.R_elder' (kR HO210.out) (Kd.R_base ho0) hb); have n2_ := Aside0.mk (Kd.R_elder' (kR HO224.out) (Kd.R_base ho0) hb); have n3_ := Aside0.mk (Kd.R_lower (Kd.R_new' (Kd.R_new' ho0 (Kd.R_lt (kR HO210.out))) (Kd.R_lt (kR HO224.out))) (below_size bS)); have n4_ := Aside0.mk (blk_below (kB BK199.out) hb); have n5_ := Aside0.mk (blk_below (kB BK219.out) hb); have n6_ := Aside0.mk (below_step bS hb); clear HO205; clear HO210; clear HO224; clear BK199; clear BK219; clear HB; have HO205 := n0_; have HO210 := n1_; have HO224 := n2_; have HO229 := n3_; have BK199 := n4_; have BK219 := n5_; have HB := n6_; clear n0_ n1_ n2_ n3_ n4_ n5_ n6_; (try clear hb); (try clear hb2); (try clear hk); (try clear hi); (try clear ho0)))
       (try simp only [Act.put, List.setIfInBounds_toArray, List.set_cons_zero, List.set_cons_succ])
       go_cut [93] (fun v93 wc => ∃ (kq : Nat) (x93_15 : Bool), v93 = .bool x93_15 ∧ Aside0 (spec_ReadTicket.j0 kq t207 t212 t221 t226 x93_15 t215 t216 t217 = some (r1, r2, r3, r4, r5, r6, r7, r8, r9)) ∧ Aside0 (kq ≤ k) ∧ Aside0 (Kd.R (Kd.int .i64) 3 wc w.heap.size (fun k_ => some k_ ≠ (v223 : Value).ownBlock ∧ some k_ ≠ (v228 : Value).ownBlock) v209 t207) ∧ Aside0 (Kd.R (Kd.int .i64) 3 wc w.heap.size (fun k_ => some k_ ≠ (v209 : Value).ownBlock ∧ some k_ ≠ (v228 : Value).ownBlock) v223 t221) ∧ Aside0 (Kd.R (Kd.int .i64) 3 wc w.heap.size (fun k_ => some k_ ≠ (v209 : Value).ownBlock ∧ some k_ ≠ (v223 : Value).ownBlock) v228 t226) ∧ Aside0 (wc.heap[gb199]? = some (.cells #[.int .i64 0, .int .i64 0, .int .i64 0, .int .i64 0, .int .i64 0, .int .i64 0, (.slice none 0 0), (.slice none 0 0)] 52 (0, 0))) ∧ Aside0 (wc.heap[gb219]? = some (.cells #[.int .i64 t215, .int .i64 t216, .int .i64 t217] 50 (0, 0))) ∧ Aside0 (Below w.heap.size w wc))
       case first =>
        have H := HC16.out
        clear HC16
        by_cases c29 : t208 = true
        ·subst c29
         have H1 : (if t213 = true then (if t218 = true then (if t222 = true then (if t227 = true then (spec_ReadTicket.j0 k t207 t212 t221 t226 ((t207.length : Int) != 2) t215 t216 t217) else (spec_ReadTicket.j0 k t207 t212 t221 t226 true t215 t216 t217)) else (spec_ReadTicket.j0 k t207 t212 t221 t226 true t215 t216 t217)) else (spec_ReadTicket.j0 k t207 t212 t221 t226 true t215 t216 t217)) else (spec_ReadTicket.j0 k t207 t212 t221 t226 true t215 t216 t217)) = some (r1, r2, r3, r4, r5, r6, r7, r8, r9) := by rw [if_pos rfl] at H; exact H
         clear H
         have H := H1
         clear H1
         by_cases c30 : t213 = true
         ·subst c30
          have H1 : (if t218 = true then (if t222 = true then (if t227 = true then (spec_ReadTicket.j0 k t207 t212 t221 t226 ((t207.length : Int) != 2) t215 t216 t217) else (spec_ReadTicket.j0 k t207 t212 t221 t226 true t215 t216 t217)) else (spec_ReadTicket.j0 k t207 t212 t221 t226 true t215 t216 t217)) else (spec_ReadTicket.j0 k t207 t212 t221 t226 true t215 t216 t217)) = some (r1, r2, r3, r4, r5, r6, r7, r8, r9) := by rw [if_pos rfl] at H; exact H
          clear H
          have H := H1
          clear H1
          by_cases c31 : t218 = true
          ·subst c31
           have H1 : (if t222 = true then (if t227 = true then (spec_ReadTicket.j0 k t207 t212 t221 t226 ((t207.length : Int) != 2) t215 t216 t217) else (spec_ReadTicket.j0 k t207 t212 t221 t226 true t215 t216 t217)) else (spec_ReadTicket.j0 k t207 t212 t221 t226 true t215 t216 t217)) = some (r1, r2, r3, r4, r5, r6, r7, r8, r9) := by rw [if_pos rfl] at H; exact H
           clear H
           have H := H1
           clear H1
           by_cases c32 : t222 = true
           ·subst c32
            have H1 : (if t227 = true then (spec_ReadTicket.j0 k t207 t212 t221 t226 ((t207.length : Int) != 2) t215 t216 t217) else (spec_ReadTicket.j0 k t207 t212 t221 t226 true t215 t216 t217)) = some (r1, r2, r3, r4, r5, r6, r7, r8, r9) := by rw [if_pos rfl] at H; exact H
            clear H
            have H := H1
            clear H1
            by_cases c33 : t227 = true
            ·subst c33
             have H1 : (spec_ReadTicket.j0 k t207 t212 t221 t226 ((t207.length : Int) != 2) t215 t216 t217) = some (r1, r2, r3, r4, r5, r6, r7, r8, r9) := by rw [if_pos rfl] at H; exact H
             clear H
             have H := H1
             clear H1
             have H' := Aside0.mk H
             clear H
             obtain ⟨Ao34, co34, eo34⟩ := Kd.R_slice HO210.out
             subst eo34
             go_wp2
             go_meet
             case rel => exact ⟨_, (((t207.length : Int) != 2)), eX, H', ⟨by first | omega | exact Nat.le_refl _⟩, ⟨by (with_reducible repeat (first | apply Kd.R_alloc | apply Kd.R_drewN | apply Kd.R_drew)); exact Kd.R_mono HO210.out (fun _ hk => ⟨hk.1.2, hk.2⟩)⟩, ⟨by (with_reducible repeat (first | apply Kd.R_alloc | apply Kd.R_drewN | apply Kd.R_drew)); exact Kd.R_mono HO224.out (fun _ hk => ⟨hk.1.2, hk.2⟩)⟩, ⟨by (with_reducible repeat (first | apply Kd.R_alloc | apply Kd.R_drewN | apply Kd.R_drew)); exact Kd.R_mono HO229.out (fun _ hk => ⟨hk.1.2, hk.2⟩)⟩, ⟨by (with_reducible repeat (first | refine blk_drewN ?_ _ | refine blk_drew ?_ | refine blk_alloc ?_ _)); exact BK199.out⟩, ⟨by (with_reducible repeat (first | refine blk_drewN ?_ _ | refine blk_drew ?_ | refine blk_alloc ?_ _)); exact BK219.out⟩, ⟨by repeat (first | (with_reducible first | exact HB.out | apply below_alloc | apply pw_below_drewN | apply below_drew1 | refine below_set ?_ GE199.out | refine below_set ?_ GE219.out) | exact HB.out)⟩⟩
            ·replace c33 := Bool.eq_false_iff.mpr c33
             subst c33
             have H1 : (spec_ReadTicket.j0 k t207 t212 t221 t226 true t215 t216 t217) = some (r1, r2, r3, r4, r5, r6, r7, r8, r9) := by rw [if_neg (show ¬ (false = true) by decide)] at H; exact H
             clear H
             have H := H1
             clear H1
             have H' := Aside0.mk H
             clear H
             go_wp2
             go_meet
             case rel => exact ⟨_, (true), eX, H', ⟨by first | omega | exact Nat.le_refl _⟩, ⟨by (with_reducible repeat (first | apply Kd.R_alloc | apply Kd.R_drewN | apply Kd.R_drew)); exact Kd.R_mono HO210.out (fun _ hk => ⟨hk.1.2, hk.2⟩)⟩, ⟨by (with_reducible repeat (first | apply Kd.R_alloc | apply Kd.R_drewN | apply Kd.R_drew)); exact Kd.R_mono HO224.out (fun _ hk => ⟨hk.1.2, hk.2⟩)⟩, ⟨by (with_reducible repeat (first | apply Kd.R_alloc | apply Kd.R_drewN | apply Kd.R_drew)); exact Kd.R_mono HO229.out (fun _ hk => ⟨hk.1.2, hk.2⟩)⟩, ⟨by (with_reducible repeat (first | refine blk_drewN ?_ _ | refine blk_drew ?_ | refine blk_alloc ?_ _)); exact BK199.out⟩, ⟨by (with_reducible repeat (first | refine blk_drewN ?_ _ | refine blk_drew ?_ | refine blk_alloc ?_ _)); exact BK219.out⟩, ⟨by repeat (first | (with_reducible first | exact HB.out | apply below_alloc | apply pw_below_drewN | apply below_drew1 | refine below_set ?_ GE199.out | refine below_set ?_ GE219.out) | exact HB.out)⟩⟩
           ·replace c32 := Bool.eq_false_iff.mpr c32
            subst c32
            have H1 : (spec_ReadTicket.j0 k t207 t212 t221 t226 true t215 t216 t217) = some (r1, r2, r3, r4, r5, r6, r7, r8, r9) := by rw [if_neg (show ¬ (false = true) by decide)] at H; exact H
            clear H
            have H := H1
            clear H1
            have H' := Aside0.mk H
            clear H
            go_wp2
            go_meet
            case rel => exact ⟨_, (true), eX, H', ⟨by first | omega | exact Nat.le_refl _⟩, ⟨by (with_reducible repeat (first | apply Kd.R_alloc | apply Kd.R_drewN | apply Kd.R_drew)); exact Kd.R_mono HO210.out (fun _ hk => ⟨hk.1.2, hk.2⟩)⟩, ⟨by (with_reducible repeat (first | apply Kd.R_alloc | apply Kd.R_drewN | apply Kd.R_drew)); exact Kd.R_mono HO224.out (fun _ hk => ⟨hk.1.2, hk.2⟩)⟩, ⟨by (with_reducible repeat (first | apply Kd.R_alloc | apply Kd.R_drewN | apply Kd.R_drew)); exact Kd.R_mono HO229.out (fun _ hk => ⟨hk.1.2, hk.2⟩)⟩, ⟨by (with_reducible repeat (first | refine blk_drewN ?_ _ | refine blk_drew ?_ | refine blk_alloc ?_ _)); exact BK199.out⟩, ⟨by (with_reducible repeat (first | refine blk_drewN ?_ _ | refine blk_drew ?_ | refine blk_alloc ?_ _)); exact BK219.out⟩, ⟨by repeat (first | (with_reducible first | exact HB.out | apply below_alloc | apply pw_below_drewN | apply below_drew1 | refine below_set ?_ GE199.out | refine below_set ?_ GE219.out) | exact HB.out)⟩⟩
          ·replace c31 := Bool.eq_false_iff.mpr c31
           subst c31
           have H1 : (spec_ReadTicket.j0 k t207 t212 t221 t226 true t215 t216 t217) = some (r1, r2, r3, r4, r5, r6, r7, r8, r9) := by rw [if_neg (show ¬ (false = true) by decide)] at H; exact H
           clear H
           have H := H1
           clear H1
           have H' := Aside0.mk H
           clear H
           go_wp2
           go_meet
           case rel => exact ⟨_, (true), eX, H', ⟨by first | omega | exact Nat.le_refl _⟩, ⟨by (with_reducible repeat (first | apply Kd.R_alloc | apply Kd.R_drewN | apply Kd.R_drew)); exact Kd.R_mono HO210.out (fun _ hk => ⟨hk.1.2, hk.2⟩)⟩, ⟨by (with_reducible repeat (first | apply Kd.R_alloc | apply Kd.R_drewN | apply Kd.R_drew)); exact Kd.R_mono HO224.out (fun _ hk => ⟨hk.1.2, hk.2⟩)⟩, ⟨by (with_reducible repeat (first | apply Kd.R_alloc | apply Kd.R_drewN | apply Kd.R_drew)); exact Kd.R_mono HO229.out (fun _ hk => ⟨hk.1.2, hk.2⟩)⟩, ⟨by (with_reducible repeat (first | refine blk_drewN ?_ _ | refine blk_drew ?_ | refine blk_alloc ?_ _)); exact BK199.out⟩, ⟨by (with_reducible repeat (first | refine blk_drewN ?_ _ | refine blk_drew ?_ | refine blk_alloc ?_ _)); exact BK219.out⟩, ⟨by repeat (first | (with_reducible first | exact HB.out | apply below_alloc | apply pw_below_drewN | apply below_drew1 | refine below_set ?_ GE199.out | refine below_set ?_ GE219.out) | exact HB.out)⟩⟩
         ·replace c30 := Bool.eq_false_iff.mpr c30
          subst c30
          have H1 : (spec_ReadTicket.j0 k t207 t212 t221 t226 true t215 t216 t217) = some (r1, r2, r3, r4, r5, r6, r7, r8, r9) := by rw [if_neg (show ¬ (false = true) by decide)] at H; exact H
          clear H
          have H := H1
          clear H1
          have H' := Aside0.mk H
          clear H
          go_wp2
          go_meet
          case rel => exact ⟨_, (true), eX, H', ⟨by first | omega | exact Nat.le_refl _⟩, ⟨by (with_reducible repeat (first | apply Kd.R_alloc | apply Kd.R_drewN | apply Kd.R_drew)); exact Kd.R_mono HO210.out (fun _ hk => ⟨hk.1.2, hk.2⟩)⟩, ⟨by (with_reducible repeat (first | apply Kd.R_alloc | apply Kd.R_drewN | apply Kd.R_drew)); exact Kd.R_mono HO224.out (fun _ hk => ⟨hk.1.2, hk.2⟩)⟩, ⟨by (with_reducible repeat (first | apply Kd.R_alloc | apply Kd.R_drewN | apply Kd.R_drew)); exact Kd.R_mono HO229.out (fun _ hk => ⟨hk.1.2, hk.2⟩)⟩, ⟨by (with_reducible repeat (first | refine blk_drewN ?_ _ | refine blk_drew ?_ | refine blk_alloc ?_ _)); exact BK199.out⟩, ⟨by (with_reducible repeat (first | refine blk_drewN ?_ _ | refine blk_drew ?_ | refine blk_alloc ?_ _)); exact BK219.out⟩, ⟨by repeat (first | (with_reducible first | exact HB.out | apply below_alloc | apply pw_below_drewN | apply below_drew1 | refine below_set ?_ GE199.out | refine below_set ?_ GE219.out) | exact HB.out)⟩⟩
        ·replace c29 := Bool.eq_false_iff.mpr c29
         subst c29
         have H1 : (spec_ReadTicket.j0 k t207 t212 t221 t226 true t215 t216 t217) = some (r1, r2, r3, r4, r5, r6, r7, r8, r9) := by rw [if_neg (show ¬ (false = true) by decide)] at H; exact H
         clear H
         have H := H1
         clear H1
         have H' := Aside0.mk H
         clear H
         go_wp2
         go_meet
         case rel => exact ⟨_, (true), eX, H', ⟨by first | omega | exact Nat.le_refl _⟩, ⟨by (with_reducible repeat (first | apply Kd.R_alloc | apply Kd.R_drewN | apply Kd.R_drew)); exact Kd.R_mono HO210.out (fun _ hk => ⟨hk.1.2, hk.2⟩)⟩, ⟨by (with_reducible repeat (first | apply Kd.R_alloc | apply Kd.R_drewN | apply Kd.R_drew)); exact Kd.R_mono HO224.out (fun _ hk => ⟨hk.1.2, hk.2⟩)⟩, ⟨by (with_reducible repeat (first | apply Kd.R_alloc | apply Kd.R_drewN | apply Kd.R_drew)); exact Kd.R_mono HO229.out (fun _ hk => ⟨hk.1.2, hk.2⟩)⟩, ⟨by (with_reducible repeat (first | refine blk_drewN ?_ _ | refine blk_drew ?_ | refine blk_alloc ?_ _)); exact BK199.out⟩, ⟨by (with_reducible repeat (first | refine blk_drewN ?_ _ | refine blk_drew ?_ | refine blk_alloc ?_ _)); exact BK219.out⟩, ⟨by repeat (first | (with_reducible first | exact HB.out | apply below_alloc | apply pw_below_drewN | apply below_drew1 | refine below_set ?_ GE199.out | refine below_set ?_ GE219.out) | exact HB.out)⟩⟩
       case rest =>
        clear HC16
        try clear c1
        try clear c2
        try clear p2
        try clear q2
        try clear hx2
        try clear qi2
        try clear c3
        try clear c5
        try clear c5b0
        try clear c5b1
        try clear c6
        try clear c6b0
        try clear c6b1
        try clear c8
        try clear c8b0
        try clear c8b1
        try clear c10
        try clear c10b0
        try clear c10b1
        try clear c12
        try clear c12b0
        try clear c12b1
        try clear c14
        try clear c14b0
        try clear c14b1
        try clear p20
        try clear q20
        try clear hx20
        try clear qi20
        try clear p21
        try clear q21
        try clear hx21
        try clear qi21
        try clear p22
        try clear q22
        try clear hx22
        try clear qi22
        try clear c25
        try clear c26
        try clear c29
        try clear c30
        try clear c31
        try clear c32
        try clear c33
        try clear hcz26_0
        try clear hcz26_1
        try clear hcz26_2
        try clear hfz26_0
        try clear hfz26_1
        try clear hfz26_2
        try clear hx206_0
        try clear hx211_0
        try clear hx214_0
        try clear hx220_0
        try clear hx225_0
        try clear p206
        try clear p211
        try clear p214
        try clear p220
        try clear p225
        try clear q206
        try clear q211
        try clear q214
        try clear q220
        try clear q225
        obtain ⟨kq, x93_15, rfl, HA, HJ15, HO_10, HO_16, HO_18, BK199, BK219, HB⟩ := hcut
        cases kq with
        | zero => exact absurd HA.out (by simp [spec_ReadTicket.j0])
        | succ kj15 =>
         have H := HA.out
         clear HA
         simp only [spec_ReadTicket.j0] at H
         by_cases c35 : x93_15 = true
         ·subst c35
          have H1 : (some (0, 0, 0, 0, 0, 0, ([] : List Int), ([] : List Int), false)) = some (r1, r2, r3, r4, r5, r6, r7, r8, r9) := by rw [if_pos rfl] at H; exact H
          clear H
          have H := H1
          clear H1
          simp only [Option.some.injEq, Prod.mk.injEq] at H
          obtain ⟨rfl, rfl, rfl, rfl, rfl, rfl, rfl, rfl, rfl⟩ := H
          have hnb36 := NB199_219.out
          have hnc36 := NB219_199.out
          have hcz37_0 : wc.cell? ⟨gb199, 0, none⟩ = some (.int .i64 0) := (blk_cell BK199.out 0).trans rfl
          have hcz37_1 : wc.cell? ⟨gb199, 1, none⟩ = some (.int .i64 0) := (blk_cell BK199.out 1).trans rfl
          have hcz37_2 : wc.cell? ⟨gb199, 2, none⟩ = some (.int .i64 0) := (blk_cell BK199.out 2).trans rfl
          have hcz37_3 : wc.cell? ⟨gb199, 3, none⟩ = some (.int .i64 0) := (blk_cell BK199.out 3).trans rfl
          have hcz37_4 : wc.cell? ⟨gb199, 4, none⟩ = some (.int .i64 0) := (blk_cell BK199.out 4).trans rfl
          have hcz37_5 : wc.cell? ⟨gb199, 5, none⟩ = some (.int .i64 0) := (blk_cell BK199.out 5).trans rfl
          have hcz37_6 : wc.cell? ⟨gb199, 6, none⟩ = some (.slice none 0 0) := (blk_cell BK199.out 6).trans rfl
          have hcz37_7 : wc.cell? ⟨gb199, 7, none⟩ = some (.slice none 0 0) := (blk_cell BK199.out 7).trans rfl
          have hfz37_0 := blk_frozen BK199.out 0
          have hfz37_1 := blk_frozen BK199.out 1
          have hfz37_2 := blk_frozen BK199.out 2
          have hfz37_3 := blk_frozen BK199.out 3
          have hfz37_4 := blk_frozen BK199.out 4
          have hfz37_5 := blk_frozen BK199.out 5
          have hfz37_6 := blk_frozen BK199.out 6
          have hfz37_7 := blk_frozen BK199.out 7
          go_wp2
          refine bodyPost_ret (results_ct rfl _ _ gb199 52 #[.int .i64 0, .int .i64 0, .int .i64 0, .int .i64 0, .int .i64 0, .int .i64 0, .slice none 0 0, .slice none 0 0] (0, 0) _ rfl (by (with_reducible repeat (first | refine blk_drewN ?_ _ | refine blk_drew ?_ | refine blk_alloc ?_ _)); refine blk_put (cs := #[.int .i64 0, .int .i64 0, .int .i64 0, .int .i64 0, .int .i64 0, .int .i64 0, .slice none 0 0, .slice none 0 0]) ?_ 7 _ rfl; (with_reducible repeat (first | refine blk_drewN ?_ _ | refine blk_drew ?_ | refine blk_alloc ?_ _)); refine blk_put (cs := #[.int .i64 0, .int .i64 0, .int .i64 0, .int .i64 0, .int .i64 0, .int .i64 0, .slice none 0 0, .slice none 0 0]) ?_ 6 _ rfl; (with_reducible repeat (first | refine blk_drewN ?_ _ | refine blk_drew ?_ | refine blk_alloc ?_ _)); refine blk_put (cs := #[.int .i64 0, .int .i64 0, .int .i64 0, .int .i64 0, .int .i64 0, .int .i64 0, .slice none 0 0, .slice none 0 0]) ?_ 5 _ rfl; (with_reducible repeat (first | refine blk_drewN ?_ _ | refine blk_drew ?_ | refine blk_alloc ?_ _)); refine blk_put (cs := #[.int .i64 0, .int .i64 0, .int .i64 0, .int .i64 0, .int .i64 0, .int .i64 0, .slice none 0 0, .slice none 0 0]) ?_ 4 _ rfl; (with_reducible repeat (first | refine blk_drewN ?_ _ | refine blk_drew ?_ | refine blk_alloc ?_ _)); refine blk_put (cs := #[.int .i64 0, .int .i64 0, .int .i64 0, .int .i64 0, .int .i64 0, .int .i64 0, .slice none 0 0, .slice none 0 0]) ?_ 3 _ rfl; (with_reducible repeat (first | refine blk_drewN ?_ _ | refine blk_drew ?_ | refine blk_alloc ?_ _)); refine blk_put (cs := #[.int .i64 0, .int .i64 0, .int .i64 0, .int .i64 0, .int .i64 0, .int .i64 0, .slice none 0 0, .slice none 0 0]) ?_ 2 _ rfl; (with_reducible repeat (first | refine blk_drewN ?_ _ | refine blk_drew ?_ | refine blk_alloc ?_ _)); refine blk_put (cs := #[.int .i64 0, .int .i64 0, .int .i64 0, .int .i64 0, .int .i64 0, .int .i64 0, .slice none 0 0, .slice none 0 0]) ?_ 1 _ rfl; (with_reducible repeat (first | refine blk_drewN ?_ _ | refine blk_drew ?_ | refine blk_alloc ?_ _)); refine blk_put (cs := #[.int .i64 0, .int .i64 0, .int .i64 0, .int .i64 0, .int .i64 0, .int .i64 0, .slice none 0 0, .slice none 0 0]) ?_ 0 _ rfl; (with_reducible repeat (first | refine blk_drewN ?_ _ | refine blk_drew ?_ | refine blk_alloc ?_ _)); exact BK199.out) Try.underlying52 rfl (by kernel_rfl)) rfl ?_
          exact ⟨_, _, by first | rfl | (simp [errW_none, errW_some] <;> rfl) | (simp [*, errW_none, errW_some] <;> rfl), by first | exact Kd.R_nil _ _ _ _ _ | exact Kd.N_nil _ _ _ _ _ | exact Kd.V_nil _ _ _ _ _ | exact Kd.Q_nil _ _ _ _ _ | exact Kd.S_nil _ _ _ _ _, by first | exact Kd.R_nil _ _ _ _ _ | exact Kd.N_nil _ _ _ _ _ | exact Kd.V_nil _ _ _ _ _ | exact Kd.Q_nil _ _ _ _ _ | exact Kd.S_nil _ _ _ _ _, bS⟩
         ·replace c35 := Bool.eq_false_iff.mpr c35
          subst c35
          have H1 : (if 0 < (t207.length : Int) then (if 1 < (t207.length : Int) then ((spec_l5TicketOk.f kj15 (rd t207 0) (rd t207 1) t212 t215 t216 t217 t221 t226).bind fun t233 => (if t233 = true then (some (rd t207 0, rd t207 1, t212, t215, t216, t217, t221, t226, true)) else (some (0, 0, 0, 0, 0, 0, ([] : List Int), ([] : List Int), false)))) else (none)) else (none)) = some (r1, r2, r3, r4, r5, r6, r7, r8, r9) := by rw [if_neg (show ¬ (false = true) by decide)] at H; exact H
          clear H
          have H := H1
          clear H1
          by_cases c38 : 0 < (t207.length : Int)
          ·rw [if_pos c38] at H
           have c38b0 : decide (0 < (t207.length : Int)) = true := decide_eq_true c38
           have c38b1 : decide (0 < t207.length) = true := decide_eq_true (by omega)
           clear c38
           by_cases c39 : 1 < (t207.length : Int)
           ·rw [if_pos c39] at H
            have c39b0 : decide (1 < (t207.length : Int)) = true := decide_eq_true c39
            have c39b1 : decide (1 < t207.length) = true := decide_eq_true (by omega)
            clear c39
            replace H := Option.bind_eq_some_iff.mp H
            obtain ⟨t233, A400, H⟩ := H
            replace H : (if t233 = true then (some (rd t207 0, rd t207 1, t212, t215, t216, t217, t221, t226, true)) else (some (0, 0, 0, 0, 0, 0, ([] : List Int), ([] : List Int), false))) = some (r1, r2, r3, r4, r5, r6, r7, r8, r9) := H
            have A40 := Aside0.mk A400
            clear A400
            by_cases c41 : t233 = true
            ·subst c41
             have H1 : (some (rd t207 0, rd t207 1, t212, t215, t216, t217, t221, t226, true)) = some (r1, r2, r3, r4, r5, r6, r7, r8, r9) := by rw [if_pos rfl] at H; exact H
             clear H
             have H := H1
             clear H1
             simp only [Option.some.injEq, Prod.mk.injEq] at H
             obtain ⟨rfl, rfl, rfl, rfl, rfl, rfl, rfl, rfl, rfl⟩ := H
             try go_wp2
             have n0_ := Aside0.mk (Kd.R_drew HO_10.out)
             have n1_ := Aside0.mk (Kd.R_drew HO_16.out)
             have n2_ := Aside0.mk (Kd.R_drew HO_18.out)
             have n3_ := Aside0.mk (blk_drew BK199.out)
             have n4_ := Aside0.mk (blk_drew BK219.out)
             have n5_ := Aside0.mk (below_drew1 HB.out)
             clear HO_10 HO_16 HO_18 BK199 BK219 HB
             have HO_10 := n0_
             have HO_16 := n1_
             have HO_18 := n2_
             have BK199 := n3_
             have BK219 := n4_
             have HB := n5_
             clear n0_ n1_ n2_ n3_ n4_ n5_
             obtain ⟨Ao43, co43, eo43⟩ := Kd.R_slice HO_10.out
             (first | subst eo43 | (injection eo43 with f1_ f2_ f3_; have f4_ := f1_.symm; have f5_ := f3_.symm; clear f1_ f2_ f3_; subst f4_; subst f5_))
             have p230 : 0 ≤ (0 : Int) := (by omega)
             have q230 : 0 < (t207.length : Int) := of_decide_eq_true aA
             obtain ⟨ad230, e230, hx230_0⟩ := Kd.at_int (Kd.R_reads' HO_10.out).2.2 0 p230 q230
             cases e230
             have qi230 : (0 < t207.length) = True := eq_true (by omega)
             (try rw [show ((0 : Int)).toNat = 0 from rfl] at hx230_0)
             (try rw [Addr.add_zero'] at hx230_0)
             replace p230 := eq_true p230
             replace q230 := eq_true q230
             have p231 : 0 ≤ (1 : Int) := (by omega)
             have q231 : 1 < (t207.length : Int) := of_decide_eq_true aA
             obtain ⟨ad231, e231, hx231_0⟩ := Kd.at_int (Kd.R_reads' HO_10.out).2.2 1 p231 q231
             obtain rfl : ad230 = ad231 := (by injection e231)
             (try simp only [show (1 : Int).toNat = 1 from rfl, Nat.reduceMul, Nat.reduceEqDiff, Go.Addr.add, ↓reduceIte] at hx231_0)
             have qi231 : (1 < t207.length) = True := eq_true (by omega)
             (try rw [show ((1 : Int)).toNat = 1 from rfl] at hx231_0)
             replace p231 := eq_true p231
             replace q231 := eq_true q231
             obtain ⟨Ao44, co44, eo44⟩ := Kd.R_slice HO_18.out
             (first | subst eo44 | (injection eo44 with f1_ f2_ f3_; have f4_ := f1_.symm; have f5_ := f3_.symm; clear f1_ f2_ f3_; subst f4_; subst f5_))
             obtain ⟨Ao45, co45, eo45⟩ := Kd.R_slice HO_16.out
             (first | subst eo45 | (injection eo45 with f1_ f2_ f3_; have f4_ := f1_.symm; have f5_ := f3_.symm; clear f1_ f2_ f3_; subst f4_; subst f5_))
             refine start_ (n := 13) (S := fun w' => w'.cell? ⟨gb219, 0, none⟩ = some (.int .i64 t215) ∧ w'.cell? ⟨gb219, 1, none⟩ = some (.int .i64 t216) ∧ w'.cell? ⟨gb219, 2, none⟩ = some (.int .i64 t217) ∧ w'.cell? ad230 = some (.int .i64 (rd t207 0)) ∧ w'.cell? ⟨ad230.block, ad230.off + 1, none⟩ = some (.int .i64 (rd t207 1))) (ds := []) #[false, false, false, false, false, false, false, false, false, false, false, false, false] (by kernel_rfl) rfl rfl ⟨(blk_cell BK219.out 0).trans rfl, (blk_cell BK219.out 1).trans rfl, (blk_cell BK219.out 2).trans rfl, hx230_0, hx231_0⟩ (fun hHeld => ?_); refine with_tabW spec_ReadTicket.tab12 spec_ReadTicket.bits12 (fun HT_ HW_ => ?_)
             generalize wc.drew = w42 at HO_10 HO_16 HO_18 BK199 BK219 HB hx230_0 hx231_0 hHeld ⊢
             refine pure_ (i := 0) (N := some 95) (v := ?_) (a' := ?_) #[true, false, false, false, false, false, false, false, false, false, false, false, false] rfl rfl (any_of HT_.out (by kernel_rfl)) (fun _ _ _ h => h) (Or.inl ⟨by rfl, ?_⟩) ?_ ?_
             rotate_left
             ·intro w'
              go_simp
              with_reducible rfl
             rotate_left
             ·simp only [Act.put, List.setIfInBounds_toArray, List.set_cons_zero, List.set_cons_succ, i64_w, i32_w]
              rfl
             refine pure_ (i := 1) (N := some 96) (v := ?_) (a' := ?_) #[true, true, false, false, false, false, false, false, false, false, false, false, false] rfl rfl (any_of HT_.out (by kernel_rfl)) (fun _ _ _ h => h) (Or.inl ⟨by rfl, ?_⟩) ?_ ?_
             rotate_left
             ·intro w'
              go_simp
              with_reducible rfl
             rotate_left
             ·simp only [Act.put, List.setIfInBounds_toArray, List.set_cons_zero, List.set_cons_succ, i64_w, i32_w]
              rfl
             refine pure_ (i := 3) (N := some 98) (v := ?_) (a' := ?_) #[true, true, false, true, false, false, false, false, false, false, false, false, false] rfl rfl (any_of HT_.out (by kernel_rfl)) (fun _ _ _ h => h) (Or.inl ⟨by rfl, ?_⟩) ?_ ?_
             rotate_left
             ·intro w'
              go_simp
              with_reducible rfl
             rotate_left
             ·simp only [Act.put, List.setIfInBounds_toArray, List.set_cons_zero, List.set_cons_succ, i64_w, i32_w]
              rfl
             refine pure_ (i := 4) (N := some 99) (v := ?_) (a' := ?_) #[true, true, false, true, true, false, false, false, false, false, false, false, false] rfl rfl (any_of HT_.out (by kernel_rfl)) (fun _ _ _ h => h) (Or.inl ⟨by rfl, ?_⟩) ?_ ?_
             rotate_left
             ·intro w'
              go_simp
              with_reducible rfl
             rotate_left
             ·simp only [Act.put, List.setIfInBounds_toArray, List.set_cons_zero, List.set_cons_succ, i64_w, i32_w]
              rfl
             refine pure_ (i := 6) (N := some 101) (v := ?_) (a' := ?_) #[true, true, false, true, true, false, true, false, false, false, false, false, false] rfl rfl (any_of HT_.out (by kernel_rfl)) (fun _ _ _ h => h) (Or.inl ⟨by rfl, ?_⟩) ?_ ?_
             rotate_left
             ·intro w'
              go_simp
              with_reducible rfl
             rotate_left
             ·simp only [Act.put, List.setIfInBounds_toArray, List.set_cons_zero, List.set_cons_succ, i64_w, i32_w]
              rfl
             refine pure_ (i := 8) (N := some 103) (v := ?_) (a' := ?_) #[true, true, false, true, true, false, true, false, true, false, false, false, false] rfl rfl (any_of HT_.out (by kernel_rfl)) (fun _ _ _ h => h) (Or.inl ⟨by rfl, ?_⟩) ?_ ?_
             rotate_left
             ·intro w'
              go_simp
              with_reducible rfl
             rotate_left
             ·simp only [Act.put, List.setIfInBounds_toArray, List.set_cons_zero, List.set_cons_succ, i64_w, i32_w]
              rfl
             refine pure_ (i := 9) (N := some 104) (v := ?_) (a' := ?_) #[true, true, false, true, true, false, true, false, true, true, false, false, false] rfl rfl (any_of HT_.out (by kernel_rfl)) (fun _ _ _ h => h) (Or.inl ⟨by rfl, ?_⟩) ?_ ?_
             rotate_left
             ·intro w'
              go_simp
              with_reducible rfl
             rotate_left
             ·simp only [Act.put, List.setIfInBounds_toArray, List.set_cons_zero, List.set_cons_succ, i64_w, i32_w]
              rfl
             refine take_ (i := 2) (N := some 97) (v := ?_) (a' := ?_) #[true, true, true, true, true, false, true, false, true, true, false, false, false] rfl rfl (take_ofW HT_.out HW_.out (by kernel_rfl)) (fun _ _ _ h => h) (Or.inl ⟨by rfl, ?_⟩) hHeld ?_ ?_
             rotate_left
             ·rintro w' ⟨s0, s1, s2, s3, s4⟩
              go_simp
              with_reducible rfl
             rotate_left
             ·simp only [Act.put, List.setIfInBounds_toArray, List.set_cons_zero, List.set_cons_succ, i64_w, i32_w]
              rfl
             refine take_ (i := 5) (N := some 100) (v := ?_) (a' := ?_) #[true, true, true, true, true, true, true, false, true, true, false, false, false] rfl rfl (take_ofW HT_.out HW_.out (by kernel_rfl)) (fun _ _ _ h => h) (Or.inl ⟨by rfl, ?_⟩) hHeld ?_ ?_
             rotate_left
             ·rintro w' ⟨s0, s1, s2, s3, s4⟩
              go_simp
              with_reducible rfl
             rotate_left
             ·simp only [Act.put, List.setIfInBounds_toArray, List.set_cons_zero, List.set_cons_succ, i64_w, i32_w]
              rfl
             refine take_ (i := 7) (N := some 102) (v := ?_) (a' := ?_) #[true, true, true, true, true, true, true, true, true, true, false, false, false] rfl rfl (take_ofW HT_.out HW_.out (by kernel_rfl)) (fun _ _ _ h => h) (Or.inl ⟨by rfl, ?_⟩) hHeld ?_ ?_
             rotate_left
             ·rintro w' ⟨s0, s1, s2, s3, s4⟩
              go_simp
              with_reducible rfl
             rotate_left
             ·simp only [Act.put, List.setIfInBounds_toArray, List.set_cons_zero, List.set_cons_succ, i64_w, i32_w]
              rfl
             refine pure_ (i := 10) (N := some 105) (v := ?_) (a' := ?_) #[true, true, true, true, true, true, true, true, true, true, true, false, false] rfl rfl (any_of HT_.out (by kernel_rfl)) (fun _ _ _ h => h) (Or.inl ⟨by rfl, ?_⟩) ?_ ?_
             rotate_left
             ·intro w'
              go_simp
              with_reducible rfl
             rotate_left
             ·simp only [Act.put, List.setIfInBounds_toArray, List.set_cons_zero, List.set_cons_succ, i64_w, i32_w]
              rfl
             refine one_ (i := 11) (N := some 20) #[true, true, true, true, true, true, true, true, true, true, true, true, false] rfl rfl (one_of HT_.out (by kernel_rfl)) (by decide) (fun K hK => ?_)
             refine box_step ?hg (N := 20) ?hd (cs := #[.int .i64 0, .int .i64 0, .int .i64 0, .int .i64 0, .int .i64 0, .int .i64 0, .slice none 0 0, .slice none 0 0]) (t := 52) ?hr ?_; (case hd => rfl); (case hg => rfl); (case hr => first | (go_simp; done) | (go_simp; rfl))
             intro gb232 hg w46 hbox hb
             have HS3_ := (hb.cell (World.block_lt_of_cell? _ _ (hHeld.2.2.2.1))).trans (hHeld.2.2.2.1)
             have HS4_ := (hb.cell (World.block_lt_of_cell? _ _ (hHeld.2.2.2.2))).trans (hHeld.2.2.2.2)
             have n0_ := Aside0.mk (Kd.R_below (kR HO_10.out) hb)
             have n1_ := Aside0.mk (Kd.R_below (kR HO_16.out) hb)
             have n2_ := Aside0.mk (Kd.R_below (kR HO_18.out) hb)
             have n3_ := Aside0.mk (blk_below (kB BK199.out) hb)
             have n4_ := Aside0.mk (blk_below (kB BK219.out) hb)
             have n5_ := Aside0.mk (below_step bS hb)
             have n6_ := Aside0.mk (hbox)
             have n7_ := Aside0.mk ((bZ hg : w.heap.size ≤ gb232))
             have n8_ := Aside0.mk ((bZ hg : w.heap.size ≤ gb232))
             have n9_ := Aside0.mk ((nL hg BK199.out : gb199 ≠ gb232))
             have n10_ := Aside0.mk ((nG hg BK199.out : gb232 ≠ gb199))
             have n11_ := Aside0.mk ((nL hg BK219.out : gb219 ≠ gb232))
             have n12_ := Aside0.mk ((nG hg BK219.out : gb232 ≠ gb219))
             clear HO_10 HO_16 HO_18 BK199 BK219 HB
             have HO_10 := n0_
             have HO_16 := n1_
             have HO_18 := n2_
             have BK199 := n3_
             have BK219 := n4_
             have HB := n5_
             have BK232 := n6_
             have GW232 := n7_
             have GE232 := n8_
             have NB199_232 := n9_
             have NB232_199 := n10_
             have NB219_232 := n11_
             have NB232_219 := n12_
             clear n0_ n1_ n2_ n3_ n4_ n5_ n6_ n7_ n8_ n9_ n10_ n11_ n12_ hb hbox hg
             refine hK.out _ _ ⟨(blk_cell BK219.out 0).trans rfl, (blk_cell BK219.out 1).trans rfl, (blk_cell BK219.out 2).trans rfl, HS3_, HS4_⟩ (fun hHeld => ?_)
             clear hK K
             refine norm_ (a' := ?_) ?_ ?_
             rotate_left
             ·show Act.put _ (some 20) _ = _
              simp only [Act.put, List.setIfInBounds_toArray, List.set_cons_zero, List.set_cons_succ, i64_w, i32_w]
              rfl
             refine one_ (i := 12) (N := none) #[true, true, true, true, true, true, true, true, true, true, true, true, true] rfl rfl (one_of HT_.out (by kernel_rfl)) (by decide) (fun K hK => ?_)
             have hs47 : w46.cell? ⟨gb232, 0, none⟩ = some (.int .i64 0) := (blk_cell BK232.out 0).trans rfl
             have hfs47 := blk_frozen BK232.out 0
             have hns47_0 := NB199_232.out
             have hns47_1 := NB219_232.out
             have hms47_0 := NB232_199.out
             have hms47_1 := NB232_219.out
             have hs48 : w46.cell? ⟨gb232, 1, none⟩ = some (.int .i64 0) := (blk_cell BK232.out 1).trans rfl
             have hfs48 := blk_frozen BK232.out 1
             have hns48_0 := NB199_232.out
             have hns48_1 := NB219_232.out
             have hms48_0 := NB232_199.out
             have hms48_1 := NB232_219.out
             have hs49 : w46.cell? ⟨gb232, 2, none⟩ = some (.int .i64 0) := (blk_cell BK232.out 2).trans rfl
             have hfs49 := blk_frozen BK232.out 2
             have hns49_0 := NB199_232.out
             have hns49_1 := NB219_232.out
             have hms49_0 := NB232_199.out
             have hms49_1 := NB232_219.out
             have hs50 : w46.cell? ⟨gb232, 3, none⟩ = some (.int .i64 0) := (blk_cell BK232.out 3).trans rfl
             have hfs50 := blk_frozen BK232.out 3
             have hns50_0 := NB199_232.out
             have hns50_1 := NB219_232.out
             have hms50_0 := NB232_199.out
             have hms50_1 := NB232_219.out
             have hs51 : w46.cell? ⟨gb232, 4, none⟩ = some (.int .i64 0) := (blk_cell BK232.out 4).trans rfl
             have hfs51 := blk_frozen BK232.out 4
             have hns51_0 := NB199_232.out
             have hns51_1 := NB219_232.out
             have hms51_0 := NB232_199.out
             have hms51_1 := NB232_219.out
             have hs52 : w46.cell? ⟨gb232, 5, none⟩ = some (.int .i64 0) := (blk_cell BK232.out 5).trans rfl
             have hfs52 := blk_frozen BK232.out 5
             have hns52_0 := NB199_232.out
             have hns52_1 := NB219_232.out
             have hms52_0 := NB232_199.out
             have hms52_1 := NB232_219.out
             have hs53 : w46.cell? ⟨gb232, 6, none⟩ = some (.slice none 0 0) := (blk_cell BK232.out 6).trans rfl
             have hfs53 := blk_frozen BK232.out 6
             have hns53_0 := NB199_232.out
             have hns53_1 := NB219_232.out
             have hms53_0 := NB232_199.out
             have hms53_1 := NB232_219.out
             have hs54 : w46.cell? ⟨gb232, 7, none⟩ = some (.slice none 0 0) := (blk_cell BK232.out 7).trans rfl
             have hfs54 := blk_frozen BK232.out 7
             have hns54_0 := NB199_232.out
             have hns54_1 := NB219_232.out
             have hms54_0 := NB232_199.out
             have hms54_1 := NB232_219.out
             refine skip_ (w1 := ?_) (by rfl) rfl ?_ ?_
             rotate_left
             ·go_simp
              rfl
             refine hK.out _ _ ⟨((cell_far (p := ⟨gb232, _, none⟩) NB219_232.out _).trans (((cell_far (p := ⟨gb232, _, none⟩) NB219_232.out _).trans (((cell_far (p := ⟨gb232, _, none⟩) NB219_232.out _).trans (((cell_far (p := ⟨gb232, _, none⟩) NB219_232.out _).trans (((cell_far (p := ⟨gb232, _, none⟩) NB219_232.out _).trans (((cell_far (p := ⟨gb232, _, none⟩) NB219_232.out _).trans (((cell_far (p := ⟨gb232, _, none⟩) NB219_232.out _).trans (((cell_far (p := ⟨gb232, _, none⟩) NB219_232.out _).trans (hHeld.1)))))))))))))))), ((cell_far (p := ⟨gb232, _, none⟩) NB219_232.out _).trans (((cell_far (p := ⟨gb232, _, none⟩) NB219_232.out _).trans (((cell_far (p := ⟨gb232, _, none⟩) NB219_232.out _).trans (((cell_far (p := ⟨gb232, _, none⟩) NB219_232.out _).trans (((cell_far (p := ⟨gb232, _, none⟩) NB219_232.out _).trans (((cell_far (p := ⟨gb232, _, none⟩) NB219_232.out _).trans (((cell_far (p := ⟨gb232, _, none⟩) NB219_232.out _).trans (((cell_far (p := ⟨gb232, _, none⟩) NB219_232.out _).trans (hHeld.2.1)))))))))))))))), ((cell_far (p := ⟨gb232, _, none⟩) NB219_232.out _).trans (((cell_far (p := ⟨gb232, _, none⟩) NB219_232.out _).trans (((cell_far (p := ⟨gb232, _, none⟩) NB219_232.out _).trans (((cell_far (p := ⟨gb232, _, none⟩) NB219_232.out _).trans (((cell_far (p := ⟨gb232, _, none⟩) NB219_232.out _).trans (((cell_far (p := ⟨gb232, _, none⟩) NB219_232.out _).trans (((cell_far (p := ⟨gb232, _, none⟩) NB219_232.out _).trans (((cell_far (p := ⟨gb232, _, none⟩) NB219_232.out _).trans (hHeld.2.2.1)))))))))))))))), ((cell_far (p := ⟨gb232, _, none⟩) (by try dsimp only; first | exact Kd.own_blk (Kd.R_ne HO_10.out BK232.out (by decide)) | (rw [add_block]; exact Kd.own_blk (Kd.R_ne HO_10.out BK232.out (by decide)))) _).trans (((cell_far (p := ⟨gb232, _, none⟩) (by try dsimp only; first | exact Kd.own_blk (Kd.R_ne HO_10.out BK232.out (by decide)) | (rw [add_block]; exact Kd.own_blk (Kd.R_ne HO_10.out BK232.out (by decide)))) _).trans (((cell_far (p := ⟨gb232, _, none⟩) (by try dsimp only; first | exact Kd.own_blk (Kd.R_ne HO_10.out BK232.out (by decide)) | (rw [add_block]; exact Kd.own_blk (Kd.R_ne HO_10.out BK232.out (by decide)))) _).trans (((cell_far (p := ⟨gb232, _, none⟩) (by try dsimp only; first | exact Kd.own_blk (Kd.R_ne HO_10.out BK232.out (by decide)) | (rw [add_block]; exact Kd.own_blk (Kd.R_ne HO_10.out BK232.out (by decide)))) _).trans (((cell_far (p := ⟨gb232, _, none⟩) (by try dsimp only; first | exact Kd.own_blk (Kd.R_ne HO_10.out BK232.out (by decide)) | (rw [add_block]; exact Kd.own_blk (Kd.R_ne HO_10.out BK232.out (by decide)))) _).trans (((cell_far (p := ⟨gb232, _, none⟩) (by try dsimp only; first | exact Kd.own_blk (Kd.R_ne HO_10.out BK232.out (by decide)) | (rw [add_block]; exact Kd.own_blk (Kd.R_ne HO_10.out BK232.out (by decide)))) _).trans (((cell_far (p := ⟨gb232, _, none⟩) (by try dsimp only; first | exact Kd.own_blk (Kd.R_ne HO_10.out BK232.out (by decide)) | (rw [add_block]; exact Kd.own_blk (Kd.R_ne HO_10.out BK232.out (by decide)))) _).trans (((cell_far (p := ⟨gb232, _, none⟩) (by try dsimp only; first | exact Kd.own_blk (Kd.R_ne HO_10.out BK232.out (by decide)) | (rw [add_block]; exact Kd.own_blk (Kd.R_ne HO_10.out BK232.out (by decide)))) _).trans (hHeld.2.2.2.1)))))))))))))))), ((cell_far (p := ⟨gb232, _, none⟩) (by try dsimp only; first | exact Kd.own_blk (Kd.R_ne HO_10.out BK232.out (by decide)) | (rw [add_block]; exact Kd.own_blk (Kd.R_ne HO_10.out BK232.out (by decide)))) _).trans (((cell_far (p := ⟨gb232, _, none⟩) (by try dsimp only; first | exact Kd.own_blk (Kd.R_ne HO_10.out BK232.out (by decide)) | (rw [add_block]; exact Kd.own_blk (Kd.R_ne HO_10.out BK232.out (by decide)))) _).trans (((cell_far (p := ⟨gb232, _, none⟩) (by try dsimp only; first | exact Kd.own_blk (Kd.R_ne HO_10.out BK232.out (by decide)) | (rw [add_block]; exact Kd.own_blk (Kd.R_ne HO_10.out BK232.out (by decide)))) _).trans (((cell_far (p := ⟨gb232, _, none⟩) (by try dsimp only; first | exact Kd.own_blk (Kd.R_ne HO_10.out BK232.out (by decide)) | (rw [add_block]; exact Kd.own_blk (Kd.R_ne HO_10.out BK232.out (by decide)))) _).trans (((cell_far (p := ⟨gb232, _, none⟩) (by try dsimp only; first | exact Kd.own_blk (Kd.R_ne HO_10.out BK232.out (by decide)) | (rw [add_block]; exact Kd.own_blk (Kd.R_ne HO_10.out BK232.out (by decide)))) _).trans (((cell_far (p := ⟨gb232, _, none⟩) (by try dsimp only; first | exact Kd.own_blk (Kd.R_ne HO_10.out BK232.out (by decide)) | (rw [add_block]; exact Kd.own_blk (Kd.R_ne HO_10.out BK232.out (by decide)))) _).trans (((cell_far (p := ⟨gb232, _, none⟩) (by try dsimp only; first | exact Kd.own_blk (Kd.R_ne HO_10.out BK232.out (by decide)) | (rw [add_block]; exact Kd.own_blk (Kd.R_ne HO_10.out BK232.out (by decide)))) _).trans (((cell_far (p := ⟨gb232, _, none⟩) (by try dsimp only; first | exact Kd.own_blk (Kd.R_ne HO_10.out BK232.out (by decide)) | (rw [add_block]; exact Kd.own_blk (Kd.R_ne HO_10.out BK232.out (by decide)))) _).trans (hHeld.2.2.2.2))))))))))))))))⟩ (fun hHeld => ?_)
             clear hK K
             refine done_ (done_of HT_.out (by kernel_rfl)) ?_
             have hnb55 := NB232_199.out
             have hnc55 := NB199_232.out
             have hnb56 := NB232_219.out
             have hnc56 := NB219_232.out
             have hcz57_0 : w46.cell? ⟨gb232, 0, none⟩ = some (.int .i64 0) := (blk_cell BK232.out 0).trans rfl
             have hcz57_1 : w46.cell? ⟨gb232, 1, none⟩ = some (.int .i64 0) := (blk_cell BK232.out 1).trans rfl
             have hcz57_2 : w46.cell? ⟨gb232, 2, none⟩ = some (.int .i64 0) := (blk_cell BK232.out 2).trans rfl
             have hcz57_3 : w46.cell? ⟨gb232, 3, none⟩ = some (.int .i64 0) := (blk_cell BK232.out 3).trans rfl
             have hcz57_4 : w46.cell? ⟨gb232, 4, none⟩ = some (.int .i64 0) := (blk_cell BK232.out 4).trans rfl
             have hcz57_5 : w46.cell? ⟨gb232, 5, none⟩ = some (.int .i64 0) := (blk_cell BK232.out 5).trans rfl
             have hcz57_6 : w46.cell? ⟨gb232, 6, none⟩ = some (.slice none 0 0) := (blk_cell BK232.out 6).trans rfl
             have hcz57_7 : w46.cell? ⟨gb232, 7, none⟩ = some (.slice none 0 0) := (blk_cell BK232.out 7).trans rfl
             have hfz57_0 := blk_frozen BK232.out 0
             have hfz57_1 := blk_frozen BK232.out 1
             have hfz57_2 := blk_frozen BK232.out 2
             have hfz57_3 := blk_frozen BK232.out 3
             have hfz57_4 := blk_frozen BK232.out 4
             have hfz57_5 := blk_frozen BK232.out 5
             have hfz57_6 := blk_frozen BK232.out 6
             have hfz57_7 := blk_frozen BK232.out 7
             try go_wp2_with (first | ((with_reducible refine gate_callee (f := 72) rfl ?_); refine goesL_ (some 107) rfl rfl Try.func72 (by kernel_rfl) rfl #[.agg #[.int .i64 (rd t207 0), .int .i64 (rd t207 1), .int .i64 t212, .int .i64 t215, .int .i64 t216, .int .i64 t217, .slice Ao45 t221.length co45, .slice Ao44 t226.length co44]] rfl eA ?_; (with_reducible refine (spec_l5TicketOk.calls kj15 (rd t207 0) (rd t207 1) t212 t215 t216 t217 _ _ t221 _ _ t226 true _ ?side1 ?side2 ?side3 ?side4 A40.out).mono ?_); (case side1 => refine (Kd.R_reads' (e := 3) (base := w.heap.size) (ok := fun k_ => (some k_ ≠ (.slice (some ad230) t207.length co43 : Value).ownBlock ∧ some k_ ≠ (.slice Ao44 t226.length co44 : Value).ownBlock)) (n := t221.length) (c := co45) ?_).2.2; exact (by (with_reducible repeat (first | apply Kd.R_alloc | apply Kd.R_drewN | apply Kd.R_drew)); exact (Kd.R_mono (Kd.R_far (p := ⟨gb232, 7, none⟩) (Kd.R_far (p := ⟨gb232, 6, none⟩) (Kd.R_far (p := ⟨gb232, 5, none⟩) (Kd.R_far (p := ⟨gb232, 4, none⟩) (Kd.R_far (p := ⟨gb232, 3, none⟩) (Kd.R_far (p := ⟨gb232, 2, none⟩) (Kd.R_far (p := ⟨gb232, 1, none⟩) (Kd.R_far (p := ⟨gb232, 0, none⟩) (Kd.R_types HO_16.out BK232.out (by decide)) (fun _ hk => hk.2) (.int .i64 (rd t207 0))) (fun _ hk => hk.2) (.int .i64 (rd t207 1))) (fun _ hk => hk.2) (.int .i64 t212)) (fun _ hk => hk.2) (.int .i64 t215)) (fun _ hk => hk.2) (.int .i64 t216)) (fun _ hk => hk.2) (.int .i64 t217)) (fun _ hk => hk.2) (.slice Ao45 t221.length co45)) (fun _ hk => hk.2) (.slice Ao44 t226.length co44)) (fun _ h_ => h_.1)))); (case side2 => exact (Kd.R_reads' HO_16.out).2.1); (case side3 => refine (Kd.R_reads' (e := 3) (base := w.heap.size) (ok := fun k_ => (some k_ ≠ (.slice (some ad230) t207.length co43 : Value).ownBlock ∧ some k_ ≠ (.slice Ao45 t221.length co45 : Value).ownBlock)) (n := t226.length) (c := co44) ?_).2.2; exact (by (with_reducible repeat (first | apply Kd.R_alloc | apply Kd.R_drewN | apply Kd.R_drew)); exact (Kd.R_mono (Kd.R_far (p := ⟨gb232, 7, none⟩) (Kd.R_far (p := ⟨gb232, 6, none⟩) (Kd.R_far (p := ⟨gb232, 5, none⟩) (Kd.R_far (p := ⟨gb232, 4, none⟩) (Kd.R_far (p := ⟨gb232, 3, none⟩) (Kd.R_far (p := ⟨gb232, 2, none⟩) (Kd.R_far (p := ⟨gb232, 1, none⟩) (Kd.R_far (p := ⟨gb232, 0, none⟩) (Kd.R_types HO_18.out BK232.out (by decide)) (fun _ hk => hk.2) (.int .i64 (rd t207 0))) (fun _ hk => hk.2) (.int .i64 (rd t207 1))) (fun _ hk => hk.2) (.int .i64 t212)) (fun _ hk => hk.2) (.int .i64 t215)) (fun _ hk => hk.2) (.int .i64 t216)) (fun _ hk => hk.2) (.int .i64 t217)) (fun _ hk => hk.2) (.slice Ao45 t221.length co45)) (fun _ hk => hk.2) (.slice Ao44 t226.length co44)) (fun _ h_ => h_.1)))); (case side4 => exact (Kd.R_reads' HO_18.out).2.1); rintro e w58 ⟨rfl, hb⟩; refine ⟨_, rfl, ?_⟩; have n0_ := Aside0.mk (Kd.R_below (by (with_reducible repeat (first | apply Kd.R_alloc | apply Kd.R_drewN | apply Kd.R_drew)); exact (Kd.R_mono (Kd.R_far (p := ⟨gb232, 7, none⟩) (Kd.R_far (p := ⟨gb232, 6, none⟩) (Kd.R_far (p := ⟨gb232, 5, none⟩) (Kd.R_far (p := ⟨gb232, 4, none⟩) (Kd.R_far (p := ⟨gb232, 3, none⟩) (Kd.R_far (p := ⟨gb232, 2, none⟩) (Kd.R_far (p := ⟨gb232, 1, none⟩) (Kd.R_far (p := ⟨gb232, 0, none⟩) (Kd.R_types HO_10.out BK232.out (by decide)) (fun _ hk => hk.2) (.int .i64 (rd t207 0))) (fun _ hk => hk.2) (.int .i64 (rd t207 1))) (fun _ hk => hk.2) (.int .i64 t212)) (fun _ hk => hk.2) (.int .i64 t215)) (fun _ hk => hk.2) (.int .i64 t216)) (fun _ hk => hk.2) (.int .i64 t217)) (fun _ hk => hk.2) (.slice Ao45 t221.length co45)) (fun _ hk => hk.2) (.slice Ao44 t226.length co44)) (fun _ h_ => h_.1))) hb); have n1_ := Aside0.mk (Kd.R_below (by (with_reducible repeat (first | apply Kd.R_alloc | apply Kd.R_drewN | apply Kd.R_drew)); exact (Kd.R_mono (Kd.R_far (p := ⟨gb232, 7, none⟩) (Kd.R_far (p := ⟨gb232, 6, none⟩) (Kd.R_far (p := ⟨gb232, 5, none⟩) (Kd.R_far (p := ⟨gb232, 4, none⟩) (Kd.R_far (p := ⟨gb232, 3, none⟩) (Kd.R_far (p := ⟨gb232, 2, none⟩) (Kd.R_far (p := ⟨gb232, 1, none⟩) (Kd.R_far (p := ⟨gb232, 0, none⟩) (Kd.R_types HO_16.out BK232.out (by decide)) (fun _ hk => hk.2) (.int .i64 (rd t207 0))) (fun _ hk => hk.2) (.int .i64 (rd t207 1))) (fun _ hk => hk.2) (.int .i64 t212)) (fun _ hk => hk.2) (.int .i64 t215)) (fun _ hk => hk.2) (.int .i64 t216)) (fun _ hk => hk.2) (.int .i64 t217)) (fun _ hk => hk.2) (.slice Ao45 t221.length co45)) (fun _ hk => hk.2) (.slice Ao44 t226.length co44)) (fun _ h_ => h_.1))) hb); have n2_ := Aside0.mk (Kd.R_below (by (with_reducible repeat (first | apply Kd.R_alloc | apply Kd.R_drewN | apply Kd.R_drew)); exact (Kd.R_mono (Kd.R_far (p := ⟨gb232, 7, none⟩) (Kd.R_far (p := ⟨gb232, 6, none⟩) (Kd.R_far (p := ⟨gb232, 5, none⟩) (Kd.R_far (p := ⟨gb232, 4, none⟩) (Kd.R_far (p := ⟨gb232, 3, none⟩) (Kd.R_far (p := ⟨gb232, 2, none⟩) (Kd.R_far (p := ⟨gb232, 1, none⟩) (Kd.R_far (p := ⟨gb232, 0, none⟩) (Kd.R_types HO_18.out BK232.out (by decide)) (fun _ hk => hk.2) (.int .i64 (rd t207 0))) (fun _ hk => hk.2) (.int .i64 (rd t207 1))) (fun _ hk => hk.2) (.int .i64 t212)) (fun _ hk => hk.2) (.int .i64 t215)) (fun _ hk => hk.2) (.int .i64 t216)) (fun _ hk => hk.2) (.int .i64 t217)) (fun _ hk => hk.2) (.slice Ao45 t221.length co45)) (fun _ hk => hk.2) (.slice Ao44 t226.length co44)) (fun _ h_ => h_.1))) hb); have n3_ := Aside0.mk (blk_below (g := gb199) (o := .cells #[.int .i64 0, .int .i64 0, .int .i64 0, .int .i64 0, .int .i64 0, .int .i64 0, .slice none 0 0, .slice none 0 0] 52 (0, 0)) (by (with_reducible repeat (first | refine blk_drewN ?_ _ | refine blk_drew ?_ | refine blk_alloc ?_ _)); refine blk_far ?_ NB199_232.out _; (with_reducible repeat (first | refine blk_drewN ?_ _ | refine blk_drew ?_ | refine blk_alloc ?_ _)); refine blk_far ?_ NB199_232.out _; (with_reducible repeat (first | refine blk_drewN ?_ _ | refine blk_drew ?_ | refine blk_alloc ?_ _)); refine blk_far ?_ NB199_232.out _; (with_reducible repeat (first | refine blk_drewN ?_ _ | refine blk_drew ?_ | refine blk_alloc ?_ _)); refine blk_far ?_ NB199_232.out _; (with_reducible repeat (first | refine blk_drewN ?_ _ | refine blk_drew ?_ | refine blk_alloc ?_ _)); refine blk_far ?_ NB199_232.out _; (with_reducible repeat (first | refine blk_drewN ?_ _ | refine blk_drew ?_ | refine blk_alloc ?_ _)); refine blk_far ?_ NB199_232.out _; (with_reducible repeat (first | refine blk_drewN ?_ _ | refine blk_drew ?_ | refine blk_alloc ?_ _)); refine blk_far ?_ NB199_232.out _; (with_reducible repeat (first | refine blk_drewN ?_ _ | refine blk_drew ?_ | refine blk_alloc ?_ _)); refine blk_far ?_ NB199_232.out _; (with_reducible repeat (first | refine blk_drewN ?_ _ | refine blk_drew ?_ | refine blk_alloc ?_ _)); exact BK199.out) hb); have n4_ := Aside0.mk (blk_below (g := gb219) (o := .cells #[.int .i64 t215, .int .i64 t216, .int .i64 t217] 50 (0, 0)) (by (with_reducible repeat (first | refine blk_drewN ?_ _ | refine blk_drew ?_ | refine blk_alloc ?_ _)); refine blk_far ?_ NB219_232.out _; (with_reducible repeat (first | refine blk_drewN ?_ _ | refine blk_drew ?_ | refine blk_alloc ?_ _)); refine blk_far ?_ NB219_232.out _; (with_reducible repeat (first | refine blk_drewN ?_ _ | refine blk_drew ?_ | refine blk_alloc ?_ _)); refine blk_far ?_ NB219_232.out _; (with_reducible repeat (first | refine blk_drewN ?_ _ | refine blk_drew ?_ | refine blk_alloc ?_ _)); refine blk_far ?_ NB219_232.out _; (with_reducible repeat (first | refine blk_drewN ?_ _ | refine blk_drew ?_ | refine blk_alloc ?_ _)); refine blk_far ?_ NB219_232.out _; (with_reducible repeat (first | refine blk_drewN ?_ _ | refine blk_drew ?_ | refine blk_alloc ?_ _)); refine blk_far ?_ NB219_232.out _; (with_reducible repeat (first | refine blk_drewN ?_ _ | refine blk_drew ?_ | refine blk_alloc ?_ _)); refine blk_far ?_ NB219_232.out _; (with_reducible repeat (first | refine blk_drewN ?_ _ | refine blk_drew ?_ | refine blk_alloc ?_ _)); refine blk_far ?_ NB219_232.out _; (with_reducible repeat (first | refine blk_drewN ?_ _ | refine blk_drew ?_ | refine blk_alloc ?_ _)); exact BK219.out) hb); have n5_ := Aside0.mk (blk_below (g := gb232) (o := .cells #[.int .i64 (rd t207 0), .int .i64 (rd t207 1), .int .i64 t212, .int .i64 t215, .int .i64 t216, .int .i64 t217, .slice Ao45 t221.length co45, .slice Ao44 t226.length co44] 52 (0, 0)) (by (with_reducible repeat (first | refine blk_drewN ?_ _ | refine blk_drew ?_ | refine blk_alloc ?_ _)); refine blk_put (cs := #[.int .i64 (rd t207 0), .int .i64 (rd t207 1), .int .i64 t212, .int .i64 t215, .int .i64 t216, .int .i64 t217, .slice Ao45 t221.length co45, .slice none 0 0]) ?_ 7 _ rfl; (with_reducible repeat (first | refine blk_drewN ?_ _ | refine blk_drew ?_ | refine blk_alloc ?_ _)); refine blk_put (cs := #[.int .i64 (rd t207 0), .int .i64 (rd t207 1), .int .i64 t212, .int .i64 t215, .int .i64 t216, .int .i64 t217, .slice none 0 0, .slice none 0 0]) ?_ 6 _ rfl; (with_reducible repeat (first | refine blk_drewN ?_ _ | refine blk_drew ?_ | refine blk_alloc ?_ _)); refine blk_put (cs := #[.int .i64 (rd t207 0), .int .i64 (rd t207 1), .int .i64 t212, .int .i64 t215, .int .i64 t216, .int .i64 0, .slice none 0 0, .slice none 0 0]) ?_ 5 _ rfl; (with_reducible repeat (first | refine blk_drewN ?_ _ | refine blk_drew ?_ | refine blk_alloc ?_ _)); refine blk_put (cs := #[.int .i64 (rd t207 0), .int .i64 (rd t207 1), .int .i64 t212, .int .i64 t215, .int .i64 0, .int .i64 0, .slice none 0 0, .slice none 0 0]) ?_ 4 _ rfl; (with_reducible repeat (first | refine blk_drewN ?_ _ | refine blk_drew ?_ | refine blk_alloc ?_ _)); refine blk_put (cs := #[.int .i64 (rd t207 0), .int .i64 (rd t207 1), .int .i64 t212, .int .i64 0, .int .i64 0, .int .i64 0, .slice none 0 0, .slice none 0 0]) ?_ 3 _ rfl; (with_reducible repeat (first | refine blk_drewN ?_ _ | refine blk_drew ?_ | refine blk_alloc ?_ _)); refine blk_put (cs := #[.int .i64 (rd t207 0), .int .i64 (rd t207 1), .int .i64 0, .int .i64 0, .int .i64 0, .int .i64 0, .slice none 0 0, .slice none 0 0]) ?_ 2 _ rfl; (with_reducible repeat (first | refine blk_drewN ?_ _ | refine blk_drew ?_ | refine blk_alloc ?_ _)); refine blk_put (cs := #[.int .i64 (rd t207 0), .int .i64 0, .int .i64 0, .int .i64 0, .int .i64 0, .int .i64 0, .slice none 0 0, .slice none 0 0]) ?_ 1 _ rfl; (with_reducible repeat (first | refine blk_drewN ?_ _ | refine blk_drew ?_ | refine blk_alloc ?_ _)); refine blk_put (cs := #[.int .i64 0, .int .i64 0, .int .i64 0, .int .i64 0, .int .i64 0, .int .i64 0, .slice none 0 0, .slice none 0 0]) ?_ 0 _ rfl; (with_reducible repeat (first | refine blk_drewN ?_ _ | refine blk_drew ?_ | refine blk_alloc ?_ _)); exact BK232.out) hb); have n6_ := Aside0.mk (below_step bS hb); clear HO_10; clear HO_16; clear HO_18; clear BK199; clear BK219; clear BK232; clear HB; have HO_10 := n0_; have HO_16 := n1_; have HO_18 := n2_; have BK199 := n3_; have BK219 := n4_; have BK232 := n5_; have HB := n6_; clear n0_ n1_ n2_ n3_ n4_ n5_ n6_; (try clear hb); (try clear hb2); (try clear hk); (try clear hi); have hcz59_0 : w58.cell? ⟨gb232, 0, none⟩ = some (.int .i64 (rd t207 0)) := (blk_cell BK232.out 0).trans rfl; have hcz59_1 : w58.cell? ⟨gb232, 1, none⟩ = some (.int .i64 (rd t207 1)) := (blk_cell BK232.out 1).trans rfl; have hcz59_2 : w58.cell? ⟨gb232, 2, none⟩ = some (.int .i64 t212) := (blk_cell BK232.out 2).trans rfl; have hcz59_3 : w58.cell? ⟨gb232, 3, none⟩ = some (.int .i64 t215) := (blk_cell BK232.out 3).trans rfl; have hcz59_4 : w58.cell? ⟨gb232, 4, none⟩ = some (.int .i64 t216) := (blk_cell BK232.out 4).trans rfl; have hcz59_5 : w58.cell? ⟨gb232, 5, none⟩ = some (.int .i64 t217) := (blk_cell BK232.out 5).trans rfl; have hcz59_6 : w58.cell? ⟨gb232, 6, none⟩ = some (.slice Ao45 t221.length co45) := (blk_cell BK232.out 6).trans rfl; have hcz59_7 : w58.cell? ⟨gb232, 7, none⟩ = some (.slice Ao44 t226.length co44) := (blk_cell BK232.out 7).trans rfl; have hfz59_0 := blk_frozen BK232.out 0; have hfz59_1 := blk_frozen BK232.out 1; have hfz59_2 := blk_frozen BK232.out 2; have hfz59_3 := blk_frozen BK232.out 3; have hfz59_4 := blk_frozen BK232.out 4; have hfz59_5 := blk_frozen BK232.out 5; have hfz59_6 := blk_frozen BK232.out 6; have hfz59_7 := blk_frozen BK232.out 7; have hnb60 := NB199_219.out; have hnc60 := NB219_199.out; have hcz61_0 : w58.cell? ⟨gb199, 0, none⟩ = some (.int .i64 0) := (blk_cell BK199.out 0).trans rfl; have hcz61_1 : w58.cell? ⟨gb199, 1, none⟩ = some (.int .i64 0) := (blk_cell BK199.out 1).trans rfl; have hcz61_2 : w58.cell? ⟨gb199, 2, none⟩ = some (.int .i64 0) := (blk_cell BK199.out 2).trans rfl; have hcz61_3 : w58.cell? ⟨gb199, 3, none⟩ = some (.int .i64 0) := (blk_cell BK199.out 3).trans rfl; have hcz61_4 : w58.cell? ⟨gb199, 4, none⟩ = some (.int .i64 0) := (blk_cell BK199.out 4).trans rfl; have hcz61_5 : w58.cell? ⟨gb199, 5, none⟩ = some (.int .i64 0) := (blk_cell BK199.out 5).trans rfl; have hcz61_6 : w58.cell? ⟨gb199, 6, none⟩ = some (.slice none 0 0) := (blk_cell BK199.out 6).trans rfl; have hcz61_7 : w58.cell? ⟨gb199, 7, none⟩ = some (.slice none 0 0) := (blk_cell BK199.out 7).trans rfl; have hfz61_0 := blk_frozen BK199.out 0; have hfz61_1 := blk_frozen BK199.out 1; have hfz61_2 := blk_frozen BK199.out 2; have hfz61_3 := blk_frozen BK199.out 3; have hfz61_4 := blk_frozen BK199.out 4; have hfz61_5 := blk_frozen BK199.out 5; have hfz61_6 := blk_frozen BK199.out 6; have hfz61_7 := blk_frozen BK199.out 7))
             refine bodyPost_ret (results_ct rfl _ _ gb199 52 #[.int .i64 (rd t207 0), .int .i64 (rd t207 1), .int .i64 t212, .int .i64 t215, .int .i64 t216, .int .i64 t217, .slice Ao45 t221.length co45, .slice Ao44 t226.length co44] (0, 0) _ rfl (by (with_reducible repeat (first | refine blk_drewN ?_ _ | refine blk_drew ?_ | refine blk_alloc ?_ _)); refine blk_put (cs := #[.int .i64 (rd t207 0), .int .i64 (rd t207 1), .int .i64 t212, .int .i64 t215, .int .i64 t216, .int .i64 t217, .slice Ao45 t221.length co45, .slice none 0 0]) ?_ 7 _ rfl; (with_reducible repeat (first | refine blk_drewN ?_ _ | refine blk_drew ?_ | refine blk_alloc ?_ _)); refine blk_put (cs := #[.int .i64 (rd t207 0), .int .i64 (rd t207 1), .int .i64 t212, .int .i64 t215, .int .i64 t216, .int .i64 t217, .slice none 0 0, .slice none 0 0]) ?_ 6 _ rfl; (with_reducible repeat (first | refine blk_drewN ?_ _ | refine blk_drew ?_ | refine blk_alloc ?_ _)); refine blk_put (cs := #[.int .i64 (rd t207 0), .int .i64 (rd t207 1), .int .i64 t212, .int .i64 t215, .int .i64 t216, .int .i64 0, .slice none 0 0, .slice none 0 0]) ?_ 5 _ rfl; (with_reducible repeat (first | refine blk_drewN ?_ _ | refine blk_drew ?_ | refine blk_alloc ?_ _)); refine blk_put (cs := #[.int .i64 (rd t207 0), .int .i64 (rd t207 1), .int .i64 t212, .int .i64 t215, .int .i64 0, .int .i64 0, .slice none 0 0, .slice none 0 0]) ?_ 4 _ rfl; (with_reducible repeat (first | refine blk_drewN ?_ _ | refine blk_drew ?_ | refine blk_alloc ?_ _)); refine blk_put (cs := #[.int .i64 (rd t207 0), .int .i64 (rd t207 1), .int .i64 t212, .int .i64 0, .int .i64 0, .int .i64 0, .slice none 0 0, .slice none 0 0]) ?_ 3 _ rfl; (with_reducible repeat (first | refine blk_drewN ?_ _ | refine blk_drew ?_ | refine blk_alloc ?_ _)); refine blk_put (cs := #[.int .i64 (rd t207 0), .int .i64 (rd t207 1), .int .i64 0, .int .i64 0, .int .i64 0, .int .i64 0, .slice none 0 0, .slice none 0 0]) ?_ 2 _ rfl; (with_reducible repeat (first | refine blk_drewN ?_ _ | refine blk_drew ?_ | refine blk_alloc ?_ _)); refine blk_put (cs := #[.int .i64 (rd t207 0), .int .i64 0, .int .i64 0, .int .i64 0, .int .i64 0, .int .i64 0, .slice none 0 0, .slice none 0 0]) ?_ 1 _ rfl; (with_reducible repeat (first | refine blk_drewN ?_ _ | refine blk_drew ?_ | refine blk_alloc ?_ _)); refine blk_put (cs := #[.int .i64 0, .int .i64 0, .int .i64 0, .int .i64 0, .int .i64 0, .int .i64 0, .slice none 0 0, .slice none 0 0]) ?_ 0 _ rfl; (with_reducible repeat (first | refine blk_drewN ?_ _ | refine blk_drew ?_ | refine blk_alloc ?_ _)); exact BK199.out) Try.underlying52 rfl (by kernel_rfl)) rfl ?_
             exact ⟨_, _, by first | rfl | (simp [errW_none, errW_some] <;> rfl) | (simp [*, errW_none, errW_some] <;> rfl), by (with_reducible repeat (first | apply Kd.R_alloc | apply Kd.R_drewN | apply Kd.R_drew)); exact Kd.R_mono (Kd.R_far (p := ⟨gb199, 7, none⟩) (Kd.R_far (p := ⟨gb199, 6, none⟩) (Kd.R_far (p := ⟨gb199, 5, none⟩) (Kd.R_far (p := ⟨gb199, 4, none⟩) (Kd.R_far (p := ⟨gb199, 3, none⟩) (Kd.R_far (p := ⟨gb199, 2, none⟩) (Kd.R_far (p := ⟨gb199, 1, none⟩) (Kd.R_far (p := ⟨gb199, 0, none⟩) (Kd.R_types HO_16.out BK199.out (by decide)) (fun _ hk => hk.2) (.int .i64 (rd t207 0))) (fun _ hk => hk.2) (.int .i64 (rd t207 1))) (fun _ hk => hk.2) (.int .i64 t212)) (fun _ hk => hk.2) (.int .i64 t215)) (fun _ hk => hk.2) (.int .i64 t216)) (fun _ hk => hk.2) (.int .i64 t217)) (fun _ hk => hk.2) (.slice Ao45 t221.length co45)) (fun _ hk => hk.2) (.slice Ao44 t226.length co44)) (fun _ hk => hk.1.2), by (with_reducible repeat (first | apply Kd.R_alloc | apply Kd.R_drewN | apply Kd.R_drew)); exact Kd.R_mono (Kd.R_far (p := ⟨gb199, 7, none⟩) (Kd.R_far (p := ⟨gb199, 6, none⟩) (Kd.R_far (p := ⟨gb199, 5, none⟩) (Kd.R_far (p := ⟨gb199, 4, none⟩) (Kd.R_far (p := ⟨gb199, 3, none⟩) (Kd.R_far (p := ⟨gb199, 2, none⟩) (Kd.R_far (p := ⟨gb199, 1, none⟩) (Kd.R_far (p := ⟨gb199, 0, none⟩) (Kd.R_types HO_18.out BK199.out (by decide)) (fun _ hk => hk.2) (.int .i64 (rd t207 0))) (fun _ hk => hk.2) (.int .i64 (rd t207 1))) (fun _ hk => hk.2) (.int .i64 t212)) (fun _ hk => hk.2) (.int .i64 t215)) (fun _ hk => hk.2) (.int .i64 t216)) (fun _ hk => hk.2) (.int .i64 t217)) (fun _ hk => hk.2) (.slice Ao45 t221.length co45)) (fun _ hk => hk.2) (.slice Ao44 t226.length co44)) (fun _ hk => hk.1.2), bS⟩
            ·replace c41 := Bool.eq_false_iff.mpr c41
             subst c41
             have H1 : (some (0, 0, 0, 0, 0, 0, ([] : List Int), ([] : List Int), false)) = some (r1, r2, r3, r4, r5, r6, r7, r8, r9) := by rw [if_neg (show ¬ (false = true) by decide)] at H; exact H
             clear H
             have H := H1
             clear H1
             simp only [Option.some.injEq, Prod.mk.injEq] at H
             obtain ⟨rfl, rfl, rfl, rfl, rfl, rfl, rfl, rfl, rfl⟩ := H
             try go_wp2
             have n0_ := Aside0.mk (Kd.R_drew HO_10.out)
             have n1_ := Aside0.mk (Kd.R_drew HO_16.out)
             have n2_ := Aside0.mk (Kd.R_drew HO_18.out)
             have n3_ := Aside0.mk (blk_drew BK199.out)
             have n4_ := Aside0.mk (blk_drew BK219.out)
             have n5_ := Aside0.mk (below_drew1 HB.out)
             clear HO_10 HO_16 HO_18 BK199 BK219 HB
             have HO_10 := n0_
             have HO_16 := n1_
             have HO_18 := n2_
             have BK199 := n3_
             have BK219 := n4_
             have HB := n5_
             clear n0_ n1_ n2_ n3_ n4_ n5_
             obtain ⟨Ao63, co63, eo63⟩ := Kd.R_slice HO_10.out
             (first | subst eo63 | (injection eo63 with f1_ f2_ f3_; have f4_ := f1_.symm; have f5_ := f3_.symm; clear f1_ f2_ f3_; subst f4_; subst f5_))
             have p230 : 0 ≤ (0 : Int) := (by omega)
             have q230 : 0 < (t207.length : Int) := of_decide_eq_true aA
             obtain ⟨ad230, e230, hx230_0⟩ := Kd.at_int (Kd.R_reads' HO_10.out).2.2 0 p230 q230
             cases e230
             have qi230 : (0 < t207.length) = True := eq_true (by omega)
             (try rw [show ((0 : Int)).toNat = 0 from rfl] at hx230_0)
             (try rw [Addr.add_zero'] at hx230_0)
             replace p230 := eq_true p230
             replace q230 := eq_true q230
             have p231 : 0 ≤ (1 : Int) := (by omega)
             have q231 : 1 < (t207.length : Int) := of_decide_eq_true aA
             obtain ⟨ad231, e231, hx231_0⟩ := Kd.at_int (Kd.R_reads' HO_10.out).2.2 1 p231 q231
             obtain rfl : ad230 = ad231 := (by injection e231)
             (try simp only [show (1 : Int).toNat = 1 from rfl, Nat.reduceMul, Nat.reduceEqDiff, Go.Addr.add, ↓reduceIte] at hx231_0)
             have qi231 : (1 < t207.length) = True := eq_true (by omega)
             (try rw [show ((1 : Int)).toNat = 1 from rfl] at hx231_0)
             replace p231 := eq_true p231
             replace q231 := eq_true q231
             obtain ⟨Ao64, co64, eo64⟩ := Kd.R_slice HO_18.out
             (first | subst eo64 | (injection eo64 with f1_ f2_ f3_; have f4_ := f1_.symm; have f5_ := f3_.symm; clear f1_ f2_ f3_; subst f4_; subst f5_))
             obtain ⟨Ao65, co65, eo65⟩ := Kd.R_slice HO_16.out
             (first | subst eo65 | (injection eo65 with f1_ f2_ f3_; have f4_ := f1_.symm; have f5_ := f3_.symm; clear f1_ f2_ f3_; subst f4_; subst f5_))
             refine start_ (n := 13) (S := fun w' => w'.cell? ⟨gb219, 0, none⟩ = some (.int .i64 t215) ∧ w'.cell? ⟨gb219, 1, none⟩ = some (.int .i64 t216) ∧ w'.cell? ⟨gb219, 2, none⟩ = some (.int .i64 t217) ∧ w'.cell? ad230 = some (.int .i64 (rd t207 0)) ∧ w'.cell? ⟨ad230.block, ad230.off + 1, none⟩ = some (.int .i64 (rd t207 1))) (ds := []) #[false, false, false, false, false, false, false, false, false, false, false, false, false] (by kernel_rfl) rfl rfl ⟨(blk_cell BK219.out 0).trans rfl, (blk_cell BK219.out 1).trans rfl, (blk_cell BK219.out 2).trans rfl, hx230_0, hx231_0⟩ (fun hHeld => ?_); refine with_tabW spec_ReadTicket.tab12 spec_ReadTicket.bits12 (fun HT_ HW_ => ?_)
             generalize wc.drew = w62 at HO_10 HO_16 HO_18 BK199 BK219 HB hx230_0 hx231_0 hHeld ⊢
             refine pure_ (i := 0) (N := some 95) (v := ?_) (a' := ?_) #[true, false, false, false, false, false, false, false, false, false, false, false, false] rfl rfl (any_of HT_.out (by kernel_rfl)) (fun _ _ _ h => h) (Or.inl ⟨by rfl, ?_⟩) ?_ ?_
             rotate_left
             ·intro w'
              go_simp
              with_reducible rfl
             rotate_left
             ·simp only [Act.put, List.setIfInBounds_toArray, List.set_cons_zero, List.set_cons_succ, i64_w, i32_w]
              rfl
             refine pure_ (i := 1) (N := some 96) (v := ?_) (a' := ?_) #[true, true, false, false, false, false, false, false, false, false, false, false, false] rfl rfl (any_of HT_.out (by kernel_rfl)) (fun _ _ _ h => h) (Or.inl ⟨by rfl, ?_⟩) ?_ ?_
             rotate_left
             ·intro w'
              go_simp
              with_reducible rfl
             rotate_left
             ·simp only [Act.put, List.setIfInBounds_toArray, List.set_cons_zero, List.set_cons_succ, i64_w, i32_w]
              rfl
             refine pure_ (i := 3) (N := some 98) (v := ?_) (a' := ?_) #[true, true, false, true, false, false, false, false, false, false, false, false, false] rfl rfl (any_of HT_.out (by kernel_rfl)) (fun _ _ _ h => h) (Or.inl ⟨by rfl, ?_⟩) ?_ ?_
             rotate_left
             ·intro w'
              go_simp
              with_reducible rfl
             rotate_left
             ·simp only [Act.put, List.setIfInBounds_toArray, List.set_cons_zero, List.set_cons_succ, i64_w, i32_w]
              rfl
             refine pure_ (i := 4) (N := some 99) (v := ?_) (a' := ?_) #[true, true, false, true, true, false, false, false, false, false, false, false, false] rfl rfl (any_of HT_.out (by kernel_rfl)) (fun _ _ _ h => h) (Or.inl ⟨by rfl, ?_⟩) ?_ ?_
             rotate_left
             ·intro w'
              go_simp
              with_reducible rfl
             rotate_left
             ·simp only [Act.put, List.setIfInBounds_toArray, List.set_cons_zero, List.set_cons_succ, i64_w, i32_w]
              rfl
             refine pure_ (i := 6) (N := some 101) (v := ?_) (a' := ?_) #[true, true, false, true, true, false, true, false, false, false, false, false, false] rfl rfl (any_of HT_.out (by kernel_rfl)) (fun _ _ _ h => h) (Or.inl ⟨by rfl, ?_⟩) ?_ ?_
             rotate_left
             ·intro w'
              go_simp
              with_reducible rfl
             rotate_left
             ·simp only [Act.put, List.setIfInBounds_toArray, List.set_cons_zero, List.set_cons_succ, i64_w, i32_w]
              rfl
             refine pure_ (i := 8) (N := some 103) (v := ?_) (a' := ?_) #[true, true, false, true, true, false, true, false, true, false, false, false, false] rfl rfl (any_of HT_.out (by kernel_rfl)) (fun _ _ _ h => h) (Or.inl ⟨by rfl, ?_⟩) ?_ ?_
             rotate_left
             ·intro w'
              go_simp
              with_reducible rfl
             rotate_left
             ·simp only [Act.put, List.setIfInBounds_toArray, List.set_cons_zero, List.set_cons_succ, i64_w, i32_w]
              rfl
             refine pure_ (i := 9) (N := some 104) (v := ?_) (a' := ?_) #[true, true, false, true, true, false, true, false, true, true, false, false, false] rfl rfl (any_of HT_.out (by kernel_rfl)) (fun _ _ _ h => h) (Or.inl ⟨by rfl, ?_⟩) ?_ ?_
             rotate_left
             ·intro w'
              go_simp
              with_reducible rfl
             rotate_left
             ·simp only [Act.put, List.setIfInBounds_toArray, List.set_cons_zero, List.set_cons_succ, i64_w, i32_w]
              rfl
             refine take_ (i := 2) (N := some 97) (v := ?_) (a' := ?_) #[true, true, true, true, true, false, true, false, true, true, false, false, false] rfl rfl (take_ofW HT_.out HW_.out (by kernel_rfl)) (fun _ _ _ h => h) (Or.inl ⟨by rfl, ?_⟩) hHeld ?_ ?_
             rotate_left
             ·rintro w' ⟨s0, s1, s2, s3, s4⟩
              go_simp
              with_reducible rfl
             rotate_left
             ·simp only [Act.put, List.setIfInBounds_toArray, List.set_cons_zero, List.set_cons_succ, i64_w, i32_w]
              rfl
             refine take_ (i := 5) (N := some 100) (v := ?_) (a' := ?_) #[true, true, true, true, true, true, true, false, true, true, false, false, false] rfl rfl (take_ofW HT_.out HW_.out (by kernel_rfl)) (fun _ _ _ h => h) (Or.inl ⟨by rfl, ?_⟩) hHeld ?_ ?_
             rotate_left
             ·rintro w' ⟨s0, s1, s2, s3, s4⟩
              go_simp
              with_reducible rfl
             rotate_left
             ·simp only [Act.put, List.setIfInBounds_toArray, List.set_cons_zero, List.set_cons_succ, i64_w, i32_w]
              rfl
             refine take_ (i := 7) (N := some 102) (v := ?_) (a' := ?_) #[true, true, true, true, true, true, true, true, true, true, false, false, false] rfl rfl (take_ofW HT_.out HW_.out (by kernel_rfl)) (fun _ _ _ h => h) (Or.inl ⟨by rfl, ?_⟩) hHeld ?_ ?_
             rotate_left
             ·rintro w' ⟨s0, s1, s2, s3, s4⟩
              go_simp
              with_reducible rfl
             rotate_left
             ·simp only [Act.put, List.setIfInBounds_toArray, List.set_cons_zero, List.set_cons_succ, i64_w, i32_w]
              rfl
             refine pure_ (i := 10) (N := some 105) (v := ?_) (a' := ?_) #[true, true, true, true, true, true, true, true, true, true, true, false, false] rfl rfl (any_of HT_.out (by kernel_rfl)) (fun _ _ _ h => h) (Or.inl ⟨by rfl, ?_⟩) ?_ ?_
             rotate_left
             ·intro w'
              go_simp
              with_reducible rfl
             rotate_left
             ·simp only [Act.put, List.setIfInBounds_toArray, List.set_cons_zero, List.set_cons_succ, i64_w, i32_w]
              rfl
             refine one_ (i := 11) (N := some 20) #[true, true, true, true, true, true, true, true, true, true, true, true, false] rfl rfl (one_of HT_.out (by kernel_rfl)) (by decide) (fun K hK => ?_)
             refine box_step ?hg (N := 20) ?hd (cs := #[.int .i64 0, .int .i64 0, .int .i64 0, .int .i64 0, .int .i64 0, .int .i64 0, .slice none 0 0, .slice none 0 0]) (t := 52) ?hr ?_; (case hd => rfl); (case hg => rfl); (case hr => first | (go_simp; done) | (go_simp; rfl))
             intro gb232 hg w66 hbox hb
             have HS3_ := (hb.cell (World.block_lt_of_cell? _ _ (hHeld.2.2.2.1))).trans (hHeld.2.2.2.1)
             have HS4_ := (hb.cell (World.block_lt_of_cell? _ _ (hHeld.2.2.2.2))).trans (hHeld.2.2.2.2)
             have n0_ := Aside0.mk (Kd.R_below (kR HO_10.out) hb)
             have n1_ := Aside0.mk (Kd.R_below (kR HO_16.out) hb)
             have n2_ := Aside0.mk (Kd.R_below (kR HO_18.out) hb)
             have n3_ := Aside0.mk (blk_below (kB BK199.out) hb)
             have n4_ := Aside0.mk (blk_below (kB BK219.out) hb)
             have n5_ := Aside0.mk (below_step bS hb)
             have n6_ := Aside0.mk (hbox)
             have n7_ := Aside0.mk ((bZ hg : w.heap.size ≤ gb232))
             have n8_ := Aside0.mk ((bZ hg : w.heap.size ≤ gb232))
             have n9_ := Aside0.mk ((nL hg BK199.out : gb199 ≠ gb232))
             have n10_ := Aside0.mk ((nG hg BK199.out : gb232 ≠ gb199))
             have n11_ := Aside0.mk ((nL hg BK219.out : gb219 ≠ gb232))
             have n12_ := Aside0.mk ((nG hg BK219.out : gb232 ≠ gb219))
             clear HO_10 HO_16 HO_18 BK199 BK219 HB
             have HO_10 := n0_
             have HO_16 := n1_
             have HO_18 := n2_
             have BK199 := n3_
             have BK219 := n4_
             have HB := n5_
             have BK232 := n6_
             have GW232 := n7_
             have GE232 := n8_
             have NB199_232 := n9_
             have NB232_199 := n10_
             have NB219_232 := n11_
             have NB232_219 := n12_
             clear n0_ n1_ n2_ n3_ n4_ n5_ n6_ n7_ n8_ n9_ n10_ n11_ n12_ hb hbox hg
             refine hK.out _ _ ⟨(blk_cell BK219.out 0).trans rfl, (blk_cell BK219.out 1).trans rfl, (blk_cell BK219.out 2).trans rfl, HS3_, HS4_⟩ (fun hHeld => ?_)
             clear hK K
             refine norm_ (a' := ?_) ?_ ?_
             rotate_left
             ·show Act.put _ (some 20) _ = _
              simp only [Act.put, List.setIfInBounds_toArray, List.set_cons_zero, List.set_cons_succ, i64_w, i32_w]
              rfl
             refine one_ (i := 12) (N := none) #[true, true, true, true, true, true, true, true, true, true, true, true, true] rfl rfl (one_of HT_.out (by kernel_rfl)) (by decide) (fun K hK => ?_)
             have hs67 : w66.cell? ⟨gb232, 0, none⟩ = some (.int .i64 0) := (blk_cell BK232.out 0).trans rfl
             have hfs67 := blk_frozen BK232.out 0
             have hns67_0 := NB199_232.out
             have hns67_1 := NB219_232.out
             have hms67_0 := NB232_199.out
             have hms67_1 := NB232_219.out
             have hs68 : w66.cell? ⟨gb232, 1, none⟩ = some (.int .i64 0) := (blk_cell BK232.out 1).trans rfl
             have hfs68 := blk_frozen BK232.out 1
             have hns68_0 := NB199_232.out
             have hns68_1 := NB219_232.out
             have hms68_0 := NB232_199.out
             have hms68_1 := NB232_219.out
             have hs69 : w66.cell? ⟨gb232, 2, none⟩ = some (.int .i64 0) := (blk_cell BK232.out 2).trans rfl
             have hfs69 := blk_frozen BK232.out 2
             have hns69_0 := NB199_232.out
             have hns69_1 := NB219_232.out
             have hms69_0 := NB232_199.out
             have hms69_1 := NB232_219.out
             have hs70 : w66.cell? ⟨gb232, 3, none⟩ = some (.int .i64 0) := (blk_cell BK232.out 3).trans rfl
             have hfs70 := blk_frozen BK232.out 3
             have hns70_0 := NB199_232.out
             have hns70_1 := NB219_232.out
             have hms70_0 := NB232_199.out
             have hms70_1 := NB232_219.out
             have hs71 : w66.cell? ⟨gb232, 4, none⟩ = some (.int .i64 0) := (blk_cell BK232.out 4).trans rfl
             have hfs71 := blk_frozen BK232.out 4
             have hns71_0 := NB199_232.out
             have hns71_1 := NB219_232.out
             have hms71_0 := NB232_199.out
             have hms71_1 := NB232_219.out
             have hs72 : w66.cell? ⟨gb232, 5, none⟩ = some (.int .i64 0) := (blk_cell BK232.out 5).trans rfl
             have hfs72 := blk_frozen BK232.out 5
             have hns72_0 := NB199_232.out
             have hns72_1 := NB219_232.out
             have hms72_0 := NB232_199.out
             have hms72_1 := NB232_219.out
             have hs73 : w66.cell? ⟨gb232, 6, none⟩ = some (.slice none 0 0) := (blk_cell BK232.out 6).trans rfl
             have hfs73 := blk_frozen BK232.out 6
             have hns73_0 := NB199_232.out
             have hns73_1 := NB219_232.out
             have hms73_0 := NB232_199.out
             have hms73_1 := NB232_219.out
             have hs74 : w66.cell? ⟨gb232, 7, none⟩ = some (.slice none 0 0) := (blk_cell BK232.out 7).trans rfl
             have hfs74 := blk_frozen BK232.out 7
             have hns74_0 := NB199_232.out
             have hns74_1 := NB219_232.out
             have hms74_0 := NB232_199.out
             have hms74_1 := NB232_219.out
             refine skip_ (w1 := ?_) (by rfl) rfl ?_ ?_
             rotate_left
             ·go_simp
              rfl
             refine hK.out _ _ ⟨((cell_far (p := ⟨gb232, _, none⟩) NB219_232.out _).trans (((cell_far (p := ⟨gb232, _, none⟩) NB219_232.out _).trans (((cell_far (p := ⟨gb232, _, none⟩) NB219_232.out _).trans (((cell_far (p := ⟨gb232, _, none⟩) NB219_232.out _).trans (((cell_far (p := ⟨gb232, _, none⟩) NB219_232.out _).trans (((cell_far (p := ⟨gb232, _, none⟩) NB219_232.out _).trans (((cell_far (p := ⟨gb232, _, none⟩) NB219_232.out _).trans (((cell_far (p := ⟨gb232, _, none⟩) NB219_232.out _).trans (hHeld.1)))))))))))))))), ((cell_far (p := ⟨gb232, _, none⟩) NB219_232.out _).trans (((cell_far (p := ⟨gb232, _, none⟩) NB219_232.out _).trans (((cell_far (p := ⟨gb232, _, none⟩) NB219_232.out _).trans (((cell_far (p := ⟨gb232, _, none⟩) NB219_232.out _).trans (((cell_far (p := ⟨gb232, _, none⟩) NB219_232.out _).trans (((cell_far (p := ⟨gb232, _, none⟩) NB219_232.out _).trans (((cell_far (p := ⟨gb232, _, none⟩) NB219_232.out _).trans (((cell_far (p := ⟨gb232, _, none⟩) NB219_232.out _).trans (hHeld.2.1)))))))))))))))), ((cell_far (p := ⟨gb232, _, none⟩) NB219_232.out _).trans (((cell_far (p := ⟨gb232, _, none⟩) NB219_232.out _).trans (((cell_far (p := ⟨gb232, _, none⟩) NB219_232.out _).trans (((cell_far (p := ⟨gb232, _, none⟩) NB219_232.out _).trans (((cell_far (p := ⟨gb232, _, none⟩) NB219_232.out _).trans (((cell_far (p := ⟨gb232, _, none⟩) NB219_232.out _).trans (((cell_far (p := ⟨gb232, _, none⟩) NB219_232.out _).trans (((cell_far (p := ⟨gb232, _, none⟩) NB219_232.out _).trans (hHeld.2.2.1)))))))))))))))), ((cell_far (p := ⟨gb232, _, none⟩) (by try dsimp only; first | exact Kd.own_blk (Kd.R_ne HO_10.out BK232.out (by decide)) | (rw [add_block]; exact Kd.own_blk (Kd.R_ne HO_10.out BK232.out (by decide)))) _).trans (((cell_far (p := ⟨gb232, _, none⟩) (by try dsimp only; first | exact Kd.own_blk (Kd.R_ne HO_10.out BK232.out (by decide)) | (rw [add_block]; exact Kd.own_blk (Kd.R_ne HO_10.out BK232.out (by decide)))) _).trans (((cell_far (p := ⟨gb232, _, none⟩) (by try dsimp only; first | exact Kd.own_blk (Kd.R_ne HO_10.out BK232.out (by decide)) | (rw [add_block]; exact Kd.own_blk (Kd.R_ne HO_10.out BK232.out (by decide)))) _).trans (((cell_far (p := ⟨gb232, _, none⟩) (by try dsimp only; first | exact Kd.own_blk (Kd.R_ne HO_10.out BK232.out (by decide)) | (rw [add_block]; exact Kd.own_blk (Kd.R_ne HO_10.out BK232.out (by decide)))) _).trans (((cell_far (p := ⟨gb232, _, none⟩) (by try dsimp only; first | exact Kd.own_blk (Kd.R_ne HO_10.out BK232.out (by decide)) | (rw [add_block]; exact Kd.own_blk (Kd.R_ne HO_10.out BK232.out (by decide)))) _).trans (((cell_far (p := ⟨gb232, _, none⟩) (by try dsimp only; first | exact Kd.own_blk (Kd.R_ne HO_10.out BK232.out (by decide)) | (rw [add_block]; exact Kd.own_blk (Kd.R_ne HO_10.out BK232.out (by decide)))) _).trans (((cell_far (p := ⟨gb232, _, none⟩) (by try dsimp only; first | exact Kd.own_blk (Kd.R_ne HO_10.out BK232.out (by decide)) | (rw [add_block]; exact Kd.own_blk (Kd.R_ne HO_10.out BK232.out (by decide)))) _).trans (((cell_far (p := ⟨gb232, _, none⟩) (by try dsimp only; first | exact Kd.own_blk (Kd.R_ne HO_10.out BK232.out (by decide)) | (rw [add_block]; exact Kd.own_blk (Kd.R_ne HO_10.out BK232.out (by decide)))) _).trans (hHeld.2.2.2.1)))))))))))))))), ((cell_far (p := ⟨gb232, _, none⟩) (by try dsimp only; first | exact Kd.own_blk (Kd.R_ne HO_10.out BK232.out (by decide)) | (rw [add_block]; exact Kd.own_blk (Kd.R_ne HO_10.out BK232.out (by decide)))) _).trans (((cell_far (p := ⟨gb232, _, none⟩) (by try dsimp only; first | exact Kd.own_blk (Kd.R_ne HO_10.out BK232.out (by decide)) | (rw [add_block]; exact Kd.own_blk (Kd.R_ne HO_10.out BK232.out (by decide)))) _).trans (((cell_far (p := ⟨gb232, _, none⟩) (by try dsimp only; first | exact Kd.own_blk (Kd.R_ne HO_10.out BK232.out (by decide)) | (rw [add_block]; exact Kd.own_blk (Kd.R_ne HO_10.out BK232.out (by decide)))) _).trans (((cell_far (p := ⟨gb232, _, none⟩) (by try dsimp only; first | exact Kd.own_blk (Kd.R_ne HO_10.out BK232.out (by decide)) | (rw [add_block]; exact Kd.own_blk (Kd.R_ne HO_10.out BK232.out (by decide)))) _).trans (((cell_far (p := ⟨gb232, _, none⟩) (by try dsimp only; first | exact Kd.own_blk (Kd.R_ne HO_10.out BK232.out (by decide)) | (rw [add_block]; exact Kd.own_blk (Kd.R_ne HO_10.out BK232.out (by decide)))) _).trans (((cell_far (p := ⟨gb232, _, none⟩) (by try dsimp only; first | exact Kd.own_blk (Kd.R_ne HO_10.out BK232.out (by decide)) | (rw [add_block]; exact Kd.own_blk (Kd.R_ne HO_10.out BK232.out (by decide)))) _).trans (((cell_far (p := ⟨gb232, _, none⟩) (by try dsimp only; first | exact Kd.own_blk (Kd.R_ne HO_10.out BK232.out (by decide)) | (rw [add_block]; exact Kd.own_blk (Kd.R_ne HO_10.out BK232.out (by decide)))) _).trans (((cell_far (p := ⟨gb232, _, none⟩) (by try dsimp only; first | exact Kd.own_blk (Kd.R_ne HO_10.out BK232.out (by decide)) | (rw [add_block]; exact Kd.own_blk (Kd.R_ne HO_10.out BK232.out (by decide)))) _).trans (hHeld.2.2.2.2))))))))))))))))⟩ (fun hHeld => ?_)
             clear hK K
             refine done_ (done_of HT_.out (by kernel_rfl)) ?_
             have hnb75 := NB232_199.out
             have hnc75 := NB199_232.out
             have hnb76 := NB232_219.out
             have hnc76 := NB219_232.out
             have hcz77_0 : w66.cell? ⟨gb232, 0, none⟩ = some (.int .i64 0) := (blk_cell BK232.out 0).trans rfl
             have hcz77_1 : w66.cell? ⟨gb232, 1, none⟩ = some (.int .i64 0) := (blk_cell BK232.out 1).trans rfl
             have hcz77_2 : w66.cell? ⟨gb232, 2, none⟩ = some (.int .i64 0) := (blk_cell BK232.out 2).trans rfl
             have hcz77_3 : w66.cell? ⟨gb232, 3, none⟩ = some (.int .i64 0) := (blk_cell BK232.out 3).trans rfl
             have hcz77_4 : w66.cell? ⟨gb232, 4, none⟩ = some (.int .i64 0) := (blk_cell BK232.out 4).trans rfl
             have hcz77_5 : w66.cell? ⟨gb232, 5, none⟩ = some (.int .i64 0) := (blk_cell BK232.out 5).trans rfl
             have hcz77_6 : w66.cell? ⟨gb232, 6, none⟩ = some (.slice none 0 0) := (blk_cell BK232.out 6).trans rfl
             have hcz77_7 : w66.cell? ⟨gb232, 7, none⟩ = some (.slice none 0 0) := (blk_cell BK232.out 7).trans rfl
             have hfz77_0 := blk_frozen BK232.out 0
             have hfz77_1 := blk_frozen BK232.out 1
             have hfz77_2 := blk_frozen BK232.out 2
             have hfz77_3 := blk_frozen BK232.out 3
             have hfz77_4 := blk_frozen BK232.out 4
             have hfz77_5 := blk_frozen BK232.out 5
             have hfz77_6 := blk_frozen BK232.out 6
             have hfz77_7 := blk_frozen BK232.out 7
             try go_wp2_with (first | ((with_reducible refine gate_callee (f := 72) rfl ?_); refine goesL_ (some 107) rfl rfl Try.func72 (by kernel_rfl) rfl #[.agg #[.int .i64 (rd t207 0), .int .i64 (rd t207 1), .int .i64 t212, .int .i64 t215, .int .i64 t216, .int .i64 t217, .slice Ao65 t221.length co65, .slice Ao64 t226.length co64]] rfl eA ?_; (with_reducible refine (spec_l5TicketOk.calls kj15 (rd t207 0) (rd t207 1) t212 t215 t216 t217 _ _ t221 _ _ t226 false _ ?side1 ?side2 ?side3 ?side4 A40.out).mono ?_); (case side1 => refine (Kd.R_reads' (e := 3) (base := w.heap.size) (ok := fun k_ => (some k_ ≠ (.slice (some ad230) t207.length co63 : Value).ownBlock ∧ some k_ ≠ (.slice Ao64 t226.length co64 : Value).ownBlock)) (n := t221.length) (c := co65) ?_).2.2; exact (by (with_reducible repeat (first | apply Kd.R_alloc | apply Kd.R_drewN | apply Kd.R_drew)); exact (Kd.R_mono (Kd.R_far (p := ⟨gb232, 7, none⟩) (Kd.R_far (p := ⟨gb232, 6, none⟩) (Kd.R_far (p := ⟨gb232, 5, none⟩) (Kd.R_far (p := ⟨gb232, 4, none⟩) (Kd.R_far (p := ⟨gb232, 3, none⟩) (Kd.R_far (p := ⟨gb232, 2, none⟩) (Kd.R_far (p := ⟨gb232, 1, none⟩) (Kd.R_far (p := ⟨gb232, 0, none⟩) (Kd.R_types HO_16.out BK232.out (by decide)) (fun _ hk => hk.2) (.int .i64 (rd t207 0))) (fun _ hk => hk.2) (.int .i64 (rd t207 1))) (fun _ hk => hk.2) (.int .i64 t212)) (fun _ hk => hk.2) (.int .i64 t215)) (fun _ hk => hk.2) (.int .i64 t216)) (fun _ hk => hk.2) (.int .i64 t217)) (fun _ hk => hk.2) (.slice Ao65 t221.length co65)) (fun _ hk => hk.2) (.slice Ao64 t226.length co64)) (fun _ h_ => h_.1)))); (case side2 => exact (Kd.R_reads' HO_16.out).2.1); (case side3 => refine (Kd.R_reads' (e := 3) (base := w.heap.size) (ok := fun k_ => (some k_ ≠ (.slice (some ad230) t207.length co63 : Value).ownBlock ∧ some k_ ≠ (.slice Ao65 t221.length co65 : Value).ownBlock)) (n := t226.length) (c := co64) ?_).2.2; exact (by (with_reducible repeat (first | apply Kd.R_alloc | apply Kd.R_drewN | apply Kd.R_drew)); exact (Kd.R_mono (Kd.R_far (p := ⟨gb232, 7, none⟩) (Kd.R_far (p := ⟨gb232, 6, none⟩) (Kd.R_far (p := ⟨gb232, 5, none⟩) (Kd.R_far (p := ⟨gb232, 4, none⟩) (Kd.R_far (p := ⟨gb232, 3, none⟩) (Kd.R_far (p := ⟨gb232, 2, none⟩) (Kd.R_far (p := ⟨gb232, 1, none⟩) (Kd.R_far (p := ⟨gb232, 0, none⟩) (Kd.R_types HO_18.out BK232.out (by decide)) (fun _ hk => hk.2) (.int .i64 (rd t207 0))) (fun _ hk => hk.2) (.int .i64 (rd t207 1))) (fun _ hk => hk.2) (.int .i64 t212)) (fun _ hk => hk.2) (.int .i64 t215)) (fun _ hk => hk.2) (.int .i64 t216)) (fun _ hk => hk.2) (.int .i64 t217)) (fun _ hk => hk.2) (.slice Ao65 t221.length co65)) (fun _ hk => hk.2) (.slice Ao64 t226.length co64)) (fun _ h_ => h_.1)))); (case side4 => exact (Kd.R_reads' HO_18.out).2.1); rintro e w78 ⟨rfl, hb⟩; refine ⟨_, rfl, ?_⟩; have n0_ := Aside0.mk (Kd.R_below (by (with_reducible repeat (first | apply Kd.R_alloc | apply Kd.R_drewN | apply Kd.R_drew)); exact (Kd.R_mono (Kd.R_far (p := ⟨gb232, 7, none⟩) (Kd.R_far (p := ⟨gb232, 6, none⟩) (Kd.R_far (p := ⟨gb232, 5, none⟩) (Kd.R_far (p := ⟨gb232, 4, none⟩) (Kd.R_far (p := ⟨gb232, 3, none⟩) (Kd.R_far (p := ⟨gb232, 2, none⟩) (Kd.R_far (p := ⟨gb232, 1, none⟩) (Kd.R_far (p := ⟨gb232, 0, none⟩) (Kd.R_types HO_10.out BK232.out (by decide)) (fun _ hk => hk.2) (.int .i64 (rd t207 0))) (fun _ hk => hk.2) (.int .i64 (rd t207 1))) (fun _ hk => hk.2) (.int .i64 t212)) (fun _ hk => hk.2) (.int .i64 t215)) (fun _ hk => hk.2) (.int .i64 t216)) (fun _ hk => hk.2) (.int .i64 t217)) (fun _ hk => hk.2) (.slice Ao65 t221.length co65)) (fun _ hk => hk.2) (.slice Ao64 t226.length co64)) (fun _ h_ => h_.1))) hb); have n1_ := Aside0.mk (Kd.R_below (by (with_reducible repeat (first | apply Kd.R_alloc | apply Kd.R_drewN | apply Kd.R_drew)); exact (Kd.R_mono (Kd.R_far (p := ⟨gb232, 7, none⟩) (Kd.R_far (p := ⟨gb232, 6, none⟩) (Kd.R_far (p := ⟨gb232, 5, none⟩) (Kd.R_far (p := ⟨gb232, 4, none⟩) (Kd.R_far (p := ⟨gb232, 3, none⟩) (Kd.R_far (p := ⟨gb232, 2, none⟩) (Kd.R_far (p := ⟨gb232, 1, none⟩) (Kd.R_far (p := ⟨gb232, 0, none⟩) (Kd.R_types HO_16.out BK232.out (by decide)) (fun _ hk => hk.2) (.int .i64 (rd t207 0))) (fun _ hk => hk.2) (.int .i64 (rd t207 1))) (fun _ hk => hk.2) (.int .i64 t212)) (fun _ hk => hk.2) (.int .i64 t215)) (fun _ hk => hk.2) (.int .i64 t216)) (fun _ hk => hk.2) (.int .i64 t217)) (fun _ hk => hk.2) (.slice Ao65 t221.length co65)) (fun _ hk => hk.2) (.slice Ao64 t226.length co64)) (fun _ h_ => h_.1))) hb); have n2_ := Aside0.mk (Kd.R_below (by (with_reducible repeat (first | apply Kd.R_alloc | apply Kd.R_drewN | apply Kd.R_drew)); exact (Kd.R_mono (Kd.R_far (p := ⟨gb232, 7, none⟩) (Kd.R_far (p := ⟨gb232, 6, none⟩) (Kd.R_far (p := ⟨gb232, 5, none⟩) (Kd.R_far (p := ⟨gb232, 4, none⟩) (Kd.R_far (p := ⟨gb232, 3, none⟩) (Kd.R_far (p := ⟨gb232, 2, none⟩) (Kd.R_far (p := ⟨gb232, 1, none⟩) (Kd.R_far (p := ⟨gb232, 0, none⟩) (Kd.R_types HO_18.out BK232.out (by decide)) (fun _ hk => hk.2) (.int .i64 (rd t207 0))) (fun _ hk => hk.2) (.int .i64 (rd t207 1))) (fun _ hk => hk.2) (.int .i64 t212)) (fun _ hk => hk.2) (.int .i64 t215)) (fun _ hk => hk.2) (.int .i64 t216)) (fun _ hk => hk.2) (.int .i64 t217)) (fun _ hk => hk.2) (.slice Ao65 t221.length co65)) (fun _ hk => hk.2) (.slice Ao64 t226.length co64)) (fun _ h_ => h_.1))) hb); have n3_ := Aside0.mk (blk_below (g := gb199) (o := .cells #[.int .i64 0, .int .i64 0, .int .i64 0, .int .i64 0, .int .i64 0, .int .i64 0, .slice none 0 0, .slice none 0 0] 52 (0, 0)) (by (with_reducible repeat (first | refine blk_drewN ?_ _ | refine blk_drew ?_ | refine blk_alloc ?_ _)); refine blk_far ?_ NB199_232.out _; (with_reducible repeat (first | refine blk_drewN ?_ _ | refine blk_drew ?_ | refine blk_alloc ?_ _)); refine blk_far ?_ NB199_232.out _; (with_reducible repeat (first | refine blk_drewN ?_ _ | refine blk_drew ?_ | refine blk_alloc ?_ _)); refine blk_far ?_ NB199_232.out _; (with_reducible repeat (first | refine blk_drewN ?_ _ | refine blk_drew ?_ | refine blk_alloc ?_ _)); refine blk_far ?_ NB199_232.out _; (with_reducible repeat (first | refine blk_drewN ?_ _ | refine blk_drew ?_ | refine blk_alloc ?_ _)); refine blk_far ?_ NB199_232.out _; (with_reducible repeat (first | refine blk_drewN ?_ _ | refine blk_drew ?_ | refine blk_alloc ?_ _)); refine blk_far ?_ NB199_232.out _; (with_reducible repeat (first | refine blk_drewN ?_ _ | refine blk_drew ?_ | refine blk_alloc ?_ _)); refine blk_far ?_ NB199_232.out _; (with_reducible repeat (first | refine blk_drewN ?_ _ | refine blk_drew ?_ | refine blk_alloc ?_ _)); refine blk_far ?_ NB199_232.out _; (with_reducible repeat (first | refine blk_drewN ?_ _ | refine blk_drew ?_ | refine blk_alloc ?_ _)); exact BK199.out) hb); have n4_ := Aside0.mk (blk_below (g := gb219) (o := .cells #[.int .i64 t215, .int .i64 t216, .int .i64 t217] 50 (0, 0)) (by (with_reducible repeat (first | refine blk_drewN ?_ _ | refine blk_drew ?_ | refine blk_alloc ?_ _)); refine blk_far ?_ NB219_232.out _; (with_reducible repeat (first | refine blk_drewN ?_ _ | refine blk_drew ?_ | refine blk_alloc ?_ _)); refine blk_far ?_ NB219_232.out _; (with_reducible repeat (first | refine blk_drewN ?_ _ | refine blk_drew ?_ | refine blk_alloc ?_ _)); refine blk_far ?_ NB219_232.out _; (with_reducible repeat (first | refine blk_drewN ?_ _ | refine blk_drew ?_ | refine blk_alloc ?_ _)); refine blk_far ?_ NB219_232.out _; (with_reducible repeat (first | refine blk_drewN ?_ _ | refine blk_drew ?_ | refine blk_alloc ?_ _)); refine blk_far ?_ NB219_232.out _; (with_reducible repeat (first | refine blk_drewN ?_ _ | refine blk_drew ?_ | refine blk_alloc ?_ _)); refine blk_far ?_ NB219_232.out _; (with_reducible repeat (first | refine blk_drewN ?_ _ | refine blk_drew ?_ | refine blk_alloc ?_ _)); refine blk_far ?_ NB219_232.out _; (with_reducible repeat (first | refine blk_drewN ?_ _ | refine blk_drew ?_ | refine blk_alloc ?_ _)); refine blk_far ?_ NB219_232.out _; (with_reducible repeat (first | refine blk_drewN ?_ _ | refine blk_drew ?_ | refine blk_alloc ?_ _)); exact BK219.out) hb); have n5_ := Aside0.mk (blk_below (g := gb232) (o := .cells #[.int .i64 (rd t207 0), .int .i64 (rd t207 1), .int .i64 t212, .int .i64 t215, .int .i64 t216, .int .i64 t217, .slice Ao65 t221.length co65, .slice Ao64 t226.length co64] 52 (0, 0)) (by (with_reducible repeat (first | refine blk_drewN ?_ _ | refine blk_drew ?_ | refine blk_alloc ?_ _)); refine blk_put (cs := #[.int .i64 (rd t207 0), .int .i64 (rd t207 1), .int .i64 t212, .int .i64 t215, .int .i64 t216, .int .i64 t217, .slice Ao65 t221.length co65, .slice none 0 0]) ?_ 7 _ rfl; (with_reducible repeat (first | refine blk_drewN ?_ _ | refine blk_drew ?_ | refine blk_alloc ?_ _)); refine blk_put (cs := #[.int .i64 (rd t207 0), .int .i64 (rd t207 1), .int .i64 t212, .int .i64 t215, .int .i64 t216, .int .i64 t217, .slice none 0 0, .slice none 0 0]) ?_ 6 _ rfl; (with_reducible repeat (first | refine blk_drewN ?_ _ | refine blk_drew ?_ | refine blk_alloc ?_ _)); refine blk_put (cs := #[.int .i64 (rd t207 0), .int .i64 (rd t207 1), .int .i64 t212, .int .i64 t215, .int .i64 t216, .int .i64 0, .slice none 0 0, .slice none 0 0]) ?_ 5 _ rfl; (with_reducible repeat (first | refine blk_drewN ?_ _ | refine blk_drew ?_ | refine blk_alloc ?_ _)); refine blk_put (cs := #[.int .i64 (rd t207 0), .int .i64 (rd t207 1), .int .i64 t212, .int .i64 t215, .int .i64 0, .int .i64 0, .slice none 0 0, .slice none 0 0]) ?_ 4 _ rfl; (with_reducible repeat (first | refine blk_drewN ?_ _ | refine blk_drew ?_ | refine blk_alloc ?_ _)); refine blk_put (cs := #[.int .i64 (rd t207 0), .int .i64 (rd t207 1), .int .i64 t212, .int .i64 0, .int .i64 0, .int .i64 0, .slice none 0 0, .slice none 0 0]) ?_ 3 _ rfl; (with_reducible repeat (first | refine blk_drewN ?_ _ | refine blk_drew ?_ | refine blk_alloc ?_ _)); refine blk_put (cs := #[.int .i64 (rd t207 0), .int .i64 (rd t207 1), .int .i64 0, .int .i64 0, .int .i64 0, .int .i64 0, .slice none 0 0, .slice none 0 0]) ?_ 2 _ rfl; (with_reducible repeat (first | refine blk_drewN ?_ _ | refine blk_drew ?_ | refine blk_alloc ?_ _)); refine blk_put (cs := #[.int .i64 (rd t207 0), .int .i64 0, .int .i64 0, .int .i64 0, .int .i64 0, .int .i64 0, .slice none 0 0, .slice none 0 0]) ?_ 1 _ rfl; (with_reducible repeat (first | refine blk_drewN ?_ _ | refine blk_drew ?_ | refine blk_alloc ?_ _)); refine blk_put (cs := #[.int .i64 0, .int .i64 0, .int .i64 0, .int .i64 0, .int .i64 0, .int .i64 0, .slice none 0 0, .slice none 0 0]) ?_ 0 _ rfl; (with_reducible repeat (first | refine blk_drewN ?_ _ | refine blk_drew ?_ | refine blk_alloc ?_ _)); exact BK232.out) hb); have n6_ := Aside0.mk (below_step bS hb); clear HO_10; clear HO_16; clear HO_18; clear BK199; clear BK219; clear BK232; clear HB; have HO_10 := n0_; have HO_16 := n1_; have HO_18 := n2_; have BK199 := n3_; have BK219 := n4_; have BK232 := n5_; have HB := n6_; clear n0_ n1_ n2_ n3_ n4_ n5_ n6_; (try clear hb); (try clear hb2); (try clear hk); (try clear hi); have hnb79 := NB199_219.out; have hnc79 := NB219_199.out; have hcz80_0 : w78.cell? ⟨gb199, 0, none⟩ = some (.int .i64 0) := (blk_cell BK199.out 0).trans rfl; have hcz80_1 : w78.cell? ⟨gb199, 1, none⟩ = some (.int .i64 0) := (blk_cell BK199.out 1).trans rfl; have hcz80_2 : w78.cell? ⟨gb199, 2, none⟩ = some (.int .i64 0) := (blk_cell BK199.out 2).trans rfl; have hcz80_3 : w78.cell? ⟨gb199, 3, none⟩ = some (.int .i64 0) := (blk_cell BK199.out 3).trans rfl; have hcz80_4 : w78.cell? ⟨gb199, 4, none⟩ = some (.int .i64 0) := (blk_cell BK199.out 4).trans rfl; have hcz80_5 : w78.cell? ⟨gb199, 5, none⟩ = some (.int .i64 0) := (blk_cell BK199.out 5).trans rfl; have hcz80_6 : w78.cell? ⟨gb199, 6, none⟩ = some (.slice none 0 0) := (blk_cell BK199.out 6).trans rfl; have hcz80_7 : w78.cell? ⟨gb199, 7, none⟩ = some (.slice none 0 0) := (blk_cell BK199.out 7).trans rfl; have hfz80_0 := blk_frozen BK199.out 0; have hfz80_1 := blk_frozen BK199.out 1; have hfz80_2 := blk_frozen BK199.out 2; have hfz80_3 := blk_frozen BK199.out 3; have hfz80_4 := blk_frozen BK199.out 4; have hfz80_5 := blk_frozen BK199.out 5; have hfz80_6 := blk_frozen BK199.out 6; have hfz80_7 := blk_frozen BK199.out 7))
             refine bodyPost_ret (results_ct rfl _ _ gb199 52 #[.int .i64 0, .int .i64 0, .int .i64 0, .int .i64 0, .int .i64 0, .int .i64 0, .slice none 0 0, .slice none 0 0] (0, 0) _ rfl (by (with_reducible repeat (first | refine blk_drewN ?_ _ | refine blk_drew ?_ | refine blk_alloc ?_ _)); refine blk_put (cs := #[.int .i64 0, .int .i64 0, .int .i64 0, .int .i64 0, .int .i64 0, .int .i64 0, .slice none 0 0, .slice none 0 0]) ?_ 7 _ rfl; (with_reducible repeat (first | refine blk_drewN ?_ _ | refine blk_drew ?_ | refine blk_alloc ?_ _)); refine blk_put (cs := #[.int .i64 0, .int .i64 0, .int .i64 0, .int .i64 0, .int .i64 0, .int .i64 0, .slice none 0 0, .slice none 0 0]) ?_ 6 _ rfl; (with_reducible repeat (first | refine blk_drewN ?_ _ | refine blk_drew ?_ | refine blk_alloc ?_ _)); refine blk_put (cs := #[.int .i64 0, .int .i64 0, .int .i64 0, .int .i64 0, .int .i64 0, .int .i64 0, .slice none 0 0, .slice none 0 0]) ?_ 5 _ rfl; (with_reducible repeat (first | refine blk_drewN ?_ _ | refine blk_drew ?_ | refine blk_alloc ?_ _)); refine blk_put (cs := #[.int .i64 0, .int .i64 0, .int .i64 0, .int .i64 0, .int .i64 0, .int .i64 0, .slice none 0 0, .slice none 0 0]) ?_ 4 _ rfl; (with_reducible repeat (first | refine blk_drewN ?_ _ | refine blk_drew ?_ | refine blk_alloc ?_ _)); refine blk_put (cs := #[.int .i64 0, .int .i64 0, .int .i64 0, .int .i64 0, .int .i64 0, .int .i64 0, .slice none 0 0, .slice none 0 0]) ?_ 3 _ rfl; (with_reducible repeat (first | refine blk_drewN ?_ _ | refine blk_drew ?_ | refine blk_alloc ?_ _)); refine blk_put (cs := #[.int .i64 0, .int .i64 0, .int .i64 0, .int .i64 0, .int .i64 0, .int .i64 0, .slice none 0 0, .slice none 0 0]) ?_ 2 _ rfl; (with_reducible repeat (first | refine blk_drewN ?_ _ | refine blk_drew ?_ | refine blk_alloc ?_ _)); refine blk_put (cs := #[.int .i64 0, .int .i64 0, .int .i64 0, .int .i64 0, .int .i64 0, .int .i64 0, .slice none 0 0, .slice none 0 0]) ?_ 1 _ rfl; (with_reducible repeat (first | refine blk_drewN ?_ _ | refine blk_drew ?_ | refine blk_alloc ?_ _)); refine blk_put (cs := #[.int .i64 0, .int .i64 0, .int .i64 0, .int .i64 0, .int .i64 0, .int .i64 0, .slice none 0 0, .slice none 0 0]) ?_ 0 _ rfl; (with_reducible repeat (first | refine blk_drewN ?_ _ | refine blk_drew ?_ | refine blk_alloc ?_ _)); exact BK199.out) Try.underlying52 rfl (by kernel_rfl)) rfl ?_
             exact ⟨_, _, by first | rfl | (simp [errW_none, errW_some] <;> rfl) | (simp [*, errW_none, errW_some] <;> rfl), by first | exact Kd.R_nil _ _ _ _ _ | exact Kd.N_nil _ _ _ _ _ | exact Kd.V_nil _ _ _ _ _ | exact Kd.Q_nil _ _ _ _ _ | exact Kd.S_nil _ _ _ _ _, by first | exact Kd.R_nil _ _ _ _ _ | exact Kd.N_nil _ _ _ _ _ | exact Kd.V_nil _ _ _ _ _ | exact Kd.Q_nil _ _ _ _ _ | exact Kd.S_nil _ _ _ _ _, bS⟩
           ·rw [if_neg c39] at H
            exact absurd H (by simp)
          ·rw [if_neg c38] at H
           exact absurd H (by simp)
      ·rw [if_neg c14] at H
       exact absurd H (by simp)
     ·rw [if_neg c12] at H
      exact absurd H (by simp)
    ·rw [if_neg c10] at H
     exact absurd H (by simp)
   ·rw [if_neg c8] at H
    exact absurd H (by simp)
  ·rw [if_neg c6] at H
   exact absurd H (by simp)
 ·rw [if_neg c5] at H
  have c5b0 : ((t202.length : Int) == 5) = false := beq_eq_false_iff_ne.mpr c5
  have c5b1 : ((t202.length : Int) != 5) = true := bne_iff_ne.mpr c5
  simp only [Option.some.injEq, Prod.mk.injEq] at H
  obtain ⟨rfl, rfl, rfl, rfl, rfl, rfl, rfl, rfl, rfl⟩ := H
  go_enter Try.func26, Try.ntmps26
  go_wp2_with (first | ((with_reducible refine gate_dst (N := 4) rfl ?_); (try (refine gate_guard (by rfl) ?_; dsimp only)); refine box_event ?hg (N := 4) ?hd (cs := #[.int .i64 0, .int .i64 0, .int .i64 0, .int .i64 0, .int .i64 0, .int .i64 0, .slice none 0 0, .slice none 0 0]) (t := 52) ?hr ?_; (case hd => rfl); (case hg => rfl); (case hr => first | (go_simp; done) | (go_simp; rfl)); intro gb199 hg w81 hbox hb; have n0_ := Aside0.mk (below_step bH hb); have n1_ := Aside0.mk (hbox); have n2_ := Aside0.mk ((bZ hg : w.heap.size ≤ gb199)); have n3_ := Aside0.mk ((bZ hg : w.heap.size ≤ gb199)); clear HB; have HB := n0_; have BK199 := n1_; have GW199 := n2_; have GE199 := n3_; clear n0_ n1_ n2_ n3_; clear hb hbox hg) | ((with_reducible refine gate_callee (f := 85) rfl ?_); refine goesL_ (some 24) rfl rfl Try.func85 (by kernel_rfl) rfl #[.string a0, .int .i64 a1] rfl eA ?_; (with_reducible refine (spec_Open.calls k a0 a1 t200 t201 _ A3.out).mono ?_); rintro e w82 ⟨rfl, hb⟩; refine ⟨_, rfl, ?_⟩; have n0_ := Aside0.mk (blk_below (kB BK199.out) hb); have n1_ := Aside0.mk (below_step bS hb); clear BK199; clear HB; have BK199 := n0_; have HB := n1_; clear n0_ n1_; (try clear hb); (try clear hb2); (try clear hk); (try clear hi)) | ((with_reducible refine gate_callee (f := 86) rfl ?_); refine goesL_ (some 29) rfl rfl Try.func86 (by kernel_rfl) rfl #[.string t200] rfl eA ?_; (with_reducible refine (spec_Parts.calls k t200 t202 t203 _ A4.out).mono ?_); rintro e w83 ⟨v204, rfl, ho0, hb⟩; refine ⟨_, rfl, ?_⟩; have n0_ := Aside0.mk (Kd.R_lower ho0 (below_size bS)); have n1_ := Aside0.mk (blk_below (kB BK199.out) hb); have n2_ := Aside0.mk (below_step bS hb); clear BK199; clear HB; have HO205 := n0_; have BK199 := n1_; have HB := n2_; clear n0_ n1_ n2_; (try clear hb); (try clear hb2); (try clear hk); (try clear hi); (try clear ho0); obtain ⟨Ao84, co84, eo84⟩ := Kd.R_slice HO205.out; subst eo84; have hcz85_0 : w83.cell? ⟨gb199, 0, none⟩ = some (.int .i64 0) := (blk_cell BK199.out 0).trans rfl; have hcz85_1 : w83.cell? ⟨gb199, 1, none⟩ = some (.int .i64 0) := (blk_cell BK199.out 1).trans rfl; have hcz85_2 : w83.cell? ⟨gb199, 2, none⟩ = some (.int .i64 0) := (blk_cell BK199.out 2).trans rfl; have hcz85_3 : w83.cell? ⟨gb199, 3, none⟩ = some (.int .i64 0) := (blk_cell BK199.out 3).trans rfl; have hcz85_4 : w83.cell? ⟨gb199, 4, none⟩ = some (.int .i64 0) := (blk_cell BK199.out 4).trans rfl; have hcz85_5 : w83.cell? ⟨gb199, 5, none⟩ = some (.int .i64 0) := (blk_cell BK199.out 5).trans rfl; have hcz85_6 : w83.cell? ⟨gb199, 6, none⟩ = some (.slice none 0 0) := (blk_cell BK199.out 6).trans rfl; have hcz85_7 : w83.cell? ⟨gb199, 7, none⟩ = some (.slice none 0 0) := (blk_cell BK199.out 7).trans rfl; have hfz85_0 := blk_frozen BK199.out 0; have hfz85_1 := blk_frozen BK199.out 1; have hfz85_2 := blk_frozen BK199.out 2; have hfz85_3 := blk_frozen BK199.out 3; have hfz85_4 := blk_frozen BK199.out 4; have hfz85_5 := blk_frozen BK199.out 5; have hfz85_6 := blk_frozen BK199.out 6; have hfz85_7 := blk_frozen BK199.out 7))
  refine bodyPost_ret (results_ct rfl _ _ gb199 52 #[.int .i64 0, .int .i64 0, .int .i64 0, .int .i64 0, .int .i64 0, .int .i64 0, .slice none 0 0, .slice none 0 0] (0, 0) _ rfl (by (with_reducible repeat (first | refine blk_drewN ?_ _ | refine blk_drew ?_ | refine blk_alloc ?_ _)); refine blk_put (cs := #[.int .i64 0, .int .i64 0, .int .i64 0, .int .i64 0, .int .i64 0, .int .i64 0, .slice none 0 0, .slice none 0 0]) ?_ 7 _ rfl; (with_reducible repeat (first | refine blk_drewN ?_ _ | refine blk_drew ?_ | refine blk_alloc ?_ _)); refine blk_put (cs := #[.int .i64 0, .int .i64 0, .int .i64 0, .int .i64 0, .int .i64 0, .int .i64 0, .slice none 0 0, .slice none 0 0]) ?_ 6 _ rfl; (with_reducible repeat (first | refine blk_drewN ?_ _ | refine blk_drew ?_ | refine blk_alloc ?_ _)); refine blk_put (cs := #[.int .i64 0, .int .i64 0, .int .i64 0, .int .i64 0, .int .i64 0, .int .i64 0, .slice none 0 0, .slice none 0 0]) ?_ 5 _ rfl; (with_reducible repeat (first | refine blk_drewN ?_ _ | refine blk_drew ?_ | refine blk_alloc ?_ _)); refine blk_put (cs := #[.int .i64 0, .int .i64 0, .int .i64 0, .int .i64 0, .int .i64 0, .int .i64 0, .slice none 0 0, .slice none 0 0]) ?_ 4 _ rfl; (with_reducible repeat (first | refine blk_drewN ?_ _ | refine blk_drew ?_ | refine blk_alloc ?_ _)); refine blk_put (cs := #[.int .i64 0, .int .i64 0, .int .i64 0, .int .i64 0, .int .i64 0, .int .i64 0, .slice none 0 0, .slice none 0 0]) ?_ 3 _ rfl; (with_reducible repeat (first | refine blk_drewN ?_ _ | refine blk_drew ?_ | refine blk_alloc ?_ _)); refine blk_put (cs := #[.int .i64 0, .int .i64 0, .int .i64 0, .int .i64 0, .int .i64 0, .int .i64 0, .slice none 0 0, .slice none 0 0]) ?_ 2 _ rfl; (with_reducible repeat (first | refine blk_drewN ?_ _ | refine blk_drew ?_ | refine blk_alloc ?_ _)); refine blk_put (cs := #[.int .i64 0, .int .i64 0, .int .i64 0, .int .i64 0, .int .i64 0, .int .i64 0, .slice none 0 0, .slice none 0 0]) ?_ 1 _ rfl; (with_reducible repeat (first | refine blk_drewN ?_ _ | refine blk_drew ?_ | refine blk_alloc ?_ _)); refine blk_put (cs := #[.int .i64 0, .int .i64 0, .int .i64 0, .int .i64 0, .int .i64 0, .int .i64 0, .slice none 0 0, .slice none 0 0]) ?_ 0 _ rfl; (with_reducible repeat (first | refine blk_drewN ?_ _ | refine blk_drew ?_ | refine blk_alloc ?_ _)); exact BK199.out) Try.underlying52 rfl (by kernel_rfl)) rfl ?_
  exact ⟨_, _, by first | rfl | (simp [errW_none, errW_some] <;> rfl) | (simp [*, errW_none, errW_some] <;> rfl), by first | exact Kd.R_nil _ _ _ _ _ | exact Kd.N_nil _ _ _ _ _ | exact Kd.V_nil _ _ _ _ _ | exact Kd.Q_nil _ _ _ _ _ | exact Kd.S_nil _ _ _ _ _, by first | exact Kd.R_nil _ _ _ _ _ | exact Kd.N_nil _ _ _ _ _ | exact Kd.V_nil _ _ _ _ _ | exact Kd.Q_nil _ _ _ _ _ | exact Kd.S_nil _ _ _ _ _, bS⟩

end Go.Proofs.Ytmhjpnjolgigmaa.OFnExactReadTicket
-- halved
-- squeezed
