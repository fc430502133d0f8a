/- FnExactShowTicket: for all arguments the law's call answers true and leaves them as they were; the row, out of the walk and the pure statement. -/
import Derived.Test.YtmhjpnjolgigmaaRows
import Derived.Test.YtmhjpnjolgigmaaOFnExactShowTicketx9
import Derived.Test.YtmhjpnjolgigmaaPureFnExactShowTicket
import Derived.Test.YtmhjpnjolgigmaaOOpen
import Derived.Test.YtmhjpnjolgigmaaVSized
import Derived.WalkKit
import Derived.ProofKit
import Derived.OpenShut
import Derived.ShutString
import Derived.ChangeOld
import Derived.Below
import Derived.SizedLaws
namespace Go.Proofs.Ytmhjpnjolgigmaa.fnExactShowTicket
open Go.ChangeShapes Go.WideShapes Go.ChangeAt Go.RowKit Go.Proofs.Ytmhjpnjolgigmaa.OFnExactShowTicket Go.Proofs.Ytmhjpnjolgigmaa.OOpen Go.Proofs.YtmhjpnjolgigmaaW.PrintWords Go.Proofs.YtmhjpnjolgigmaaW.PrintLast Go.Proofs.YtmhjpnjolgigmaaW.PrintMore
open Go.ChangeMaps (open_string shut_string)
set_option linter.unusedVariables false
set_option linter.unusedSimpArgs false
theorem own : ownKnob Try.prog.godebug = none := by kernel_rfl
theorem laidOut : laidOutB Try.prog = true := by kernel_rfl
theorem len3 {A : Type _} {l : List A} (h : l.length = 3) : ∃ c0 c1 c2, l = [c0, c1, c2] := by
  match l, h with
  | [c0, c1, c2], _ => exact ⟨c0, c1, c2, rfl⟩
theorem openT45 {H : Type} {enc : TypeId × Value → H} {w : World} {base : Nat} {spare : Nat → Bool} {held : Bool} {fuel : Nat} {cs : List Value} {x : DataW H × List MemPlace} (h : DataW.trod enc Try.prog w base spare held fuel 45 cs = some x) :
    ∃ (a_0 : Int) (a_1 : Int) (a_2 : Int), cs = [.int .i64 a_0, .int .i64 a_1, .int .i64 a_2] ∧ (Lit.int .i64 a_0).wf = true ∧ (Lit.int .i64 a_1).wf = true ∧ (Lit.int .i64 a_2).wf = true := by
  obtain ⟨xs, n, _, hx, hl, hlen, hg⟩ := DataW.trod_struct Try.underlying45 h
  have hl' : cs.length = 3 := hl.trans (by kernel_rfl)
  have e3 : Try.prog.cellsOf 3 = 1 := by kernel_rfl
  obtain ⟨c0, c1, c2, rfl⟩ := len3 hl'
  have hlen' : xs.length = 3 := hlen.trans (by kernel_rfl)
  clear hlen
  obtain ⟨y0, y1, y2, rfl⟩ := len3 hlen'
  have g0 : DataW.trod enc Try.prog w base spare held n 3 [c0] = some y0 := by simpa [e3] using hg 0 _ rfl
  obtain ⟨a_0, r0, w0⟩ := opens_int Try.underlying3 _ _ _ g0
  have g1 : DataW.trod enc Try.prog w base spare held n 3 [c1] = some y1 := by simpa [e3] using hg 1 _ rfl
  obtain ⟨a_1, r1, w1⟩ := opens_int Try.underlying3 _ _ _ g1
  have g2 : DataW.trod enc Try.prog w base spare held n 3 [c2] = some y2 := by simpa [e3] using hg 2 _ rfl
  obtain ⟨a_2, r2, w2⟩ := opens_int Try.underlying3 _ _ _ g2
  simp only [Kd.int, Kd.string, Kd.scalar, List.cons.injEq, and_true] at r0
  simp only [Kd.int, Kd.string, Kd.scalar, List.cons.injEq, and_true] at r1
  simp only [Kd.int, Kd.string, Kd.scalar, List.cons.injEq, and_true] at r2
  subst r0
  subst r1
  subst r2
  exact ⟨a_0, a_1, a_2, rfl, w0, w1, w2⟩
theorem len6 {A : Type _} {l : List A} (h : l.length = 6) : ∃ c0 c1 c2 c3 c4 c5, l = [c0, c1, c2, c3, c4, c5] := by
  match l, h with
  | [c0, c1, c2, c3, c4, c5], _ => exact ⟨c0, c1, c2, c3, c4, c5, rfl⟩
theorem len8 {A : Type _} {l : List A} (h : l.length = 8) : ∃ c0 c1 c2 c3 c4 c5 c6 c7, l = [c0, c1, c2, c3, c4, c5, c6, c7] := by
  match l, h with
  | [c0, c1, c2, c3, c4, c5, c6, c7], _ => exact ⟨c0, c1, c2, c3, c4, c5, c6, c7, rfl⟩
theorem openT47 {H : Type} {enc : TypeId × Value → H} {w : World} {base : Nat} {spare : Nat → Bool} {held : Bool} {fuel : Nat} {cs : List Value} {x : DataW H × List MemPlace} (h : DataW.trod enc Try.prog w base spare held fuel 47 cs = some x) :
    ∃ (a_0 : Int) (a_1 : Int) (a_2 : Int) (a_3_0 : Int) (a_3_1 : Int) (a_3_2 : Int) (A_4 : Option Addr) (c_4 : Nat) (l_4 : List Int) (A_5 : Option Addr) (c_5 : Nat) (l_5 : List Int), cs = [.int .i64 a_0, .int .i64 a_1, .int .i64 a_2, .int .i64 a_3_0, .int .i64 a_3_1, .int .i64 a_3_2, .slice A_4 l_4.length c_4, .slice A_5 l_5.length c_5] ∧ (Lit.int .i64 a_0).wf = true ∧ (Lit.int .i64 a_1).wf = true ∧ (Lit.int .i64 a_2).wf = true ∧ (Lit.int .i64 a_3_0).wf = true ∧ (Lit.int .i64 a_3_1).wf = true ∧ (Lit.int .i64 a_3_2).wf = true ∧ l_4.length ≤ c_4 ∧ (Kd.int .i64).C w A_4 l_4.length l_4 ∧ (∀ a ∈ l_4, (Lit.int .i64 a).wf = true) ∧ l_4.length ≤ maxLen ∧ l_5.length ≤ c_5 ∧ (Kd.int .i64).C w A_5 l_5.length l_5 ∧ (∀ a ∈ l_5, (Lit.int .i64 a).wf = true) ∧ l_5.length ≤ maxLen := by
  obtain ⟨xs, n, _, hx, hl, hlen, hg⟩ := DataW.trod_struct Try.underlying47 h
  have hl' : cs.length = 8 := hl.trans (by kernel_rfl)
  have e3 : Try.prog.cellsOf 3 = 1 := by kernel_rfl
  have e22 : Try.prog.cellsOf 22 = 1 := by kernel_rfl
  have e45 : Try.prog.cellsOf 45 = 3 := by kernel_rfl
  obtain ⟨c0, c1, c2, c3, c4, c5, c6, c7, rfl⟩ := len8 hl'
  have hlen' : xs.length = 6 := hlen.trans (by kernel_rfl)
  clear hlen
  obtain ⟨y0, y1, y2, y3, y4, y5, rfl⟩ := len6 hlen'
  have g0 : DataW.trod enc Try.prog w base spare held n 3 [c0] = some y0 := by simpa [e3, e22, e45] using hg 0 _ rfl
  obtain ⟨a_0, r0, w0⟩ := opens_int Try.underlying3 _ _ _ g0
  have g1 : DataW.trod enc Try.prog w base spare held n 3 [c1] = some y1 := by simpa [e3, e22, e45] using hg 1 _ rfl
  obtain ⟨a_1, r1, w1⟩ := opens_int Try.underlying3 _ _ _ g1
  have g2 : DataW.trod enc Try.prog w base spare held n 3 [c2] = some y2 := by simpa [e3, e22, e45] using hg 2 _ rfl
  obtain ⟨a_2, r2, w2⟩ := opens_int Try.underlying3 _ _ _ g2
  have g3 : DataW.trod enc Try.prog w base spare held n 45 [c3, c4, c5] = some y3 := by simpa [e3, e22, e45] using hg 3 _ rfl
  obtain ⟨a_3_0, a_3_1, a_3_2, r3, h3_0, h3_1, h3_2⟩ := openT45 g3
  have g4 : DataW.trod enc Try.prog w base spare held n 22 [c6] = some y4 := by simpa [e3, e22, e45] using hg 4 _ rfl
  obtain ⟨A_4, c_4, l_4, r4, u4, v4, w4, z4⟩ := opens_slice (d := (Kd.int .i64)) (good := fun a => (Lit.int .i64 a).wf = true) Try.underlying22 (by kernel_rfl) (opens_int Try.underlying3) _ _ _ g4
  have g5 : DataW.trod enc Try.prog w base spare held n 22 [c7] = some y5 := by simpa [e3, e22, e45] using hg 5 _ rfl
  obtain ⟨A_5, c_5, l_5, r5, u5, v5, w5, z5⟩ := opens_slice (d := (Kd.int .i64)) (good := fun a => (Lit.int .i64 a).wf = true) Try.underlying22 (by kernel_rfl) (opens_int Try.underlying3) _ _ _ g5
  simp only [Kd.int, Kd.string, Kd.scalar, List.cons.injEq, and_true] at r0
  simp only [Kd.int, Kd.string, Kd.scalar, List.cons.injEq, and_true] at r1
  simp only [Kd.int, Kd.string, Kd.scalar, List.cons.injEq, and_true] at r2
  simp only [Kd.int, Kd.string, Kd.scalar, List.cons.injEq, and_true] at r3
  simp only [Kd.int, Kd.string, Kd.scalar, List.cons.injEq, and_true] at r4
  simp only [Kd.int, Kd.string, Kd.scalar, List.cons.injEq, and_true] at r5
  subst r0
  subst r1
  subst r2
  obtain ⟨rfl, rfl, rfl⟩ := r3
  subst r4
  subst r5
  exact ⟨a_0, a_1, a_2, a_3_0, a_3_1, a_3_2, A_4, c_4, l_4, A_5, c_5, l_5, rfl, w0, w1, w2, h3_0, h3_1, h3_2, u4, v4, w4, z4, u5, v5, w5, z5⟩
set_option maxRecDepth 100000 in
theorem lifted (os : Os) (started : os.Started) (H : Type) (enc : TypeId × Value → H) :
    ReturnsInHanded {} Try.checked os 7 .any (Rows.fnExactShowTicketSpec.pre6 enc Try.prog Try.f7 Rows.fnExactShowTicketRow.domain false) (Rows.fnExactShowTicketSpec.post enc Try.prog Try.f7 false true false false) := by
  refine returnsInHanded_of_change_sized (C := Try.checked) own started (by kernel_rfl) Try.func7
    (ChangeSpec.witness6 (enc := enc) (C := Try.checked) false ⟨#[], #[.agg #[.int .i64 0, .int .i64 0, .int .i64 0, .int .i64 0, .int .i64 0, .int .i64 0, .slice none 0 0, .slice none 0 0], .int .i64 0], []⟩ 8 (by kernel_rfl) (by kernel_rfl) (by kernel_rfl) (by kernel_rfl)) ?_
  intro W base args ds gs before hval0 hW hcnd hsz0 _
  have hsz : (DataW.weightsEach Try.prog (Try.f7.params.toList ++ Rows.fnExactShowTicketSpec.plain.varTypes Try.prog) (ds ++ gs)).all (· ≤ reachBytes) = true := hsz0
  have hval : ∀ (j : Nat) t v, Try.f7.params[j]? = some t → args[j]? = some v → Value.okWide Try.prog W .any base t v := hval0
  have hW' := hW
  obtain ⟨p, q, hA0, hV, rfl, hfz, hnd⟩ := hW
  have hA : DataW.TrodAll enc Try.prog W 0 (fun _ => true) true Try.f7.params.toList args.toList ds p := hA0
  rw [Try.params7] at hA hval hsz
  obtain ⟨v0, vs0, d0, ds0, p0, q0, hargs, rfl, rfl, h0, r0⟩ := trodAll_cons hA
  obtain ⟨v1, vs1, d1, ds1, p1, q1, rfl, rfl, rfl, h1, r1⟩ := trodAll_cons r0
  obtain ⟨rfl, rfl, rfl⟩ := trodAll_nil r1
  obtain rfl : args = #[v0, v1] := by cases args; simp_all
  obtain ⟨rfl, rfl⟩ := trodVars_none hV
  have k0 := h0
  have lt0 : ∀ x ∈ p0, x.block < W.heap.size := by obtain ⟨m, hm⟩ := k0; exact DataW.trod_lt m _ _ _ hm
  obtain ⟨cs0, rfl, hsize0⟩ := okWide_struct Try.underlying47 (hval 0 47 v0 rfl rfl)
  obtain ⟨fuel0, hf0⟩ := h0
  obtain ⟨a0_0, a0_1, a0_2, a0_3_0, a0_3_1, a0_3_2, A0_4, c0_4, l0_4, A0_5, c0_5, l0_5, hcs0, g0_0, g0_1, g0_2, g0_3, g0_4, g0_5, g0_6, g0_7, g0_8, g0_9, g0_10, g0_11, g0_12, g0_13⟩ := openT47 hf0
  replace hcs0 := arr_of_list hcs0
  subst hcs0
  obtain ⟨a1, rfl, rfl, rfl, w1⟩ := open_int Try.underlying3 (hval 1 3 v1 rfl rfl) h1
  clear hA0 hval0 hsz0 hsz
  obtain ⟨k, hpure⟩ := Pure.FnExactShowTicket a0_0 a0_1 a0_2 a0_3_0 a0_3_1 a0_3_2 l0_4 l0_5 a1 g0_0 g0_1 g0_2 g0_3 g0_4 g0_5 g0_8 g0_9 g0_12 g0_13 w1
  refine (laws_FnExactShowTicket.calls k a0_0 a0_1 a0_2 a0_3_0 a0_3_1 a0_3_2 A0_4 c0_4 l0_4 A0_5 c0_5 l0_5 a1 true W g0_7 g0_6 g0_11 g0_10 hpure ⟨rfl⟩).mono fun e W' he => ?_
  obtain ⟨rfl, bel0⟩ := he
  have bel : Below W.heap.size W W' := bel0
  exact ⟨_, rfl, _, _, _, [], _, [], hW', trodAll_mk1 (shut_bool Try.underlying4 _), (trodAll_cons_mk (Below.trod laidOut (by kernel_rfl) (of_decide_eq_true (by kernel_rfl)) k0 bel lt0) (trodAll_cons_mk (shut_int Try.underlying3 w1) trodAll_mk0)), rfl, bel.frame _, fun h => by cases h⟩
theorem over : Rows.fnExactShowTicketRow.holds Try.pinned (OpenSpec.ofChange Rows.fnExactShowTicketSpec) :=
  OpenClaim.holds_of_wide 7 Try.f7 rfl rfl rfl rfl rfl rfl rfl ⟨rfl, rfl, rfl, rfl, rfl⟩ rfl rfl rfl rfl rfl (by kernel_rfl) Try.func7 (by kernel_rfl)
    (of_decide_eq_true (by kernel_rfl)) (by unfold Func.isWrapper; first | (rw [if_pos (by decide +kernel)]; kernel_rfl) | (rw [if_neg (by decide +kernel)]; exact ⟨rfl, rfl⟩))
    (fun os started H enc _ => lifted os started H enc)
theorem proved : Rows.FnExactShowTicketSaid := over
#print axioms proved
end Go.Proofs.Ytmhjpnjolgigmaa.fnExactShowTicket
namespace Go.Proofs.Ytmhjpnjolgigmaa
/-- The row, under a short name, for the claim. -/
theorem fnExactShowTicket_holds : Rows.FnExactShowTicketSaid := fnExactShowTicket.proved
end Go.Proofs.Ytmhjpnjolgigmaa
