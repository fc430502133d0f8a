/- FnExactNextHop: for all arguments the law's call answers true and leaves them as they were; the row, out of the walk and the pure statement. -/
import Derived.Test.YtmhjpnjolgigmaaRows
import Derived.Test.YtmhjpnjolgigmaaOFnExactNextHopx12
import Derived.Test.YtmhjpnjolgigmaaPureFnExactNextHop
import Derived.Test.YtmhjpnjolgigmaaOOpen
import Derived.Test.YtmhjpnjolgigmaaVSized
import Derived.WalkKit
import Derived.ProofKit
import Derived.OpenShut
import Derived.ShutString
import Derived.ChangeOld
import Derived.Below
import Derived.SizedLaws
namespace Go.Proofs.Ytmhjpnjolgigmaa.fnExactNextHop
open Go.ChangeShapes Go.WideShapes Go.ChangeAt Go.RowKit Go.Proofs.Ytmhjpnjolgigmaa.OFnExactNextHop Go.Proofs.Ytmhjpnjolgigmaa.OOpen Go.Proofs.YtmhjpnjolgigmaaW.PrintWords Go.Proofs.YtmhjpnjolgigmaaW.PrintLast Go.Proofs.YtmhjpnjolgigmaaW.PrintMore
open Go.ChangeMaps (open_string shut_string)
set_option linter.unusedVariables false
set_option linter.unusedSimpArgs false
theorem own : ownKnob Try.prog.godebug = none := by kernel_rfl
theorem laidOut : laidOutB Try.prog = true := by kernel_rfl
theorem len2 {A : Type _} {l : List A} (h : l.length = 2) : ∃ c0 c1, l = [c0, c1] := by
  match l, h with
  | [c0, c1], _ => exact ⟨c0, c1, rfl⟩
theorem openT127 {H : Type} {enc : TypeId × Value → H} {w : World} {base : Nat} {spare : Nat → Bool} {held : Bool} {fuel : Nat} {cs : List Value} {x : DataW H × List MemPlace} (h : DataW.trod enc Try.prog w base spare held fuel 127 cs = some x) :
    ∃ (a_0 : Int) (a_1 : Int), cs = [.int .i64 a_0, .int .i64 a_1] ∧ (Lit.int .i64 a_0).wf = true ∧ (Lit.int .i64 a_1).wf = true := by
  obtain ⟨xs, n, _, hx, hl, hlen, hg⟩ := DataW.trod_struct Try.underlying127 h
  have hl' : cs.length = 2 := hl.trans (by kernel_rfl)
  have e3 : Try.prog.cellsOf 3 = 1 := by kernel_rfl
  obtain ⟨c0, c1, rfl⟩ := len2 hl'
  have hlen' : xs.length = 2 := hlen.trans (by kernel_rfl)
  clear hlen
  obtain ⟨y0, y1, rfl⟩ := len2 hlen'
  have g0 : DataW.trod enc Try.prog w base spare held n 3 [c0] = some y0 := by simpa [e3] using hg 0 _ rfl
  obtain ⟨a_0, r0, w0⟩ := opens_int Try.underlying3 _ _ _ g0
  have g1 : DataW.trod enc Try.prog w base spare held n 3 [c1] = some y1 := by simpa [e3] using hg 1 _ rfl
  obtain ⟨a_1, r1, w1⟩ := opens_int Try.underlying3 _ _ _ g1
  simp only [Kd.int, Kd.string, Kd.scalar, List.cons.injEq, and_true] at r0
  simp only [Kd.int, Kd.string, Kd.scalar, List.cons.injEq, and_true] at r1
  subst r0
  subst r1
  exact ⟨a_0, a_1, rfl, w0, w1⟩
theorem opensT127 {H : Type} {enc : TypeId × Value → H} {w : World} {base : Nat} {spare : Nat → Bool} {held : Bool} : ∀ (fuel : Nat) (cs : List Value) (x : DataW H × List MemPlace), DataW.trod enc Try.prog w base spare held fuel 127 cs = some x → ∃ a : S127, k127.K w a cs ∧ ((Lit.int .i64 a.f0).wf = true ∧ (Lit.int .i64 a.f1).wf = true) := by
  intro fuel cs x h
  obtain ⟨a_0, a_1, rfl, w0, w1⟩ := openT127 h
  exact ⟨⟨a_0, a_1⟩, ⟨[_], [_], rfl, rfl, rfl⟩, w0, w1⟩
theorem len5 {A : Type _} {l : List A} (h : l.length = 5) : ∃ c0 c1 c2 c3 c4, l = [c0, c1, c2, c3, c4] := by
  match l, h with
  | [c0, c1, c2, c3, c4], _ => exact ⟨c0, c1, c2, c3, c4, rfl⟩
theorem openT25 {H : Type} {enc : TypeId × Value → H} {w : World} {base : Nat} {spare : Nat → Bool} {held : Bool} {fuel : Nat} {cs : List Value} {x : DataW H × List MemPlace} (h : DataW.trod enc Try.prog w base spare held fuel 25 cs = some x) :
    ∃ (A_0 : Option Addr) (c_0 : Nat) (l_0 : List Int) (A_1 : Option Addr) (c_1 : Nat) (l_1 : List Int) (A_2 : Option Addr) (c_2 : Nat) (l_2 : List S127) (A_3 : Option Addr) (c_3 : Nat) (l_3 : List S127) (a_4 : Int), cs = [.slice A_0 l_0.length c_0, .slice A_1 l_1.length c_1, .slice A_2 l_2.length c_2, .slice A_3 l_3.length c_3, .int .i64 a_4] ∧ l_0.length ≤ c_0 ∧ (Kd.int .i64).C w A_0 l_0.length l_0 ∧ (∀ a ∈ l_0, (Lit.int .i64 a).wf = true) ∧ l_0.length ≤ maxLen ∧ l_1.length ≤ c_1 ∧ (Kd.int .i64).C w A_1 l_1.length l_1 ∧ (∀ a ∈ l_1, (Lit.int .i64 a).wf = true) ∧ l_1.length ≤ maxLen ∧ l_2.length ≤ c_2 ∧ k127.C w A_2 l_2.length l_2 ∧ (∀ a ∈ l_2, (Lit.int .i64 a.f0).wf = true ∧ (Lit.int .i64 a.f1).wf = true) ∧ l_2.length ≤ maxLen ∧ l_3.length ≤ c_3 ∧ k127.C w A_3 l_3.length l_3 ∧ (∀ a ∈ l_3, (Lit.int .i64 a.f0).wf = true ∧ (Lit.int .i64 a.f1).wf = true) ∧ l_3.length ≤ maxLen ∧ (Lit.int .i64 a_4).wf = true := by
  obtain ⟨xs, n, _, hx, hl, hlen, hg⟩ := DataW.trod_struct Try.underlying25 h
  have hl' : cs.length = 5 := hl.trans (by kernel_rfl)
  have e3 : Try.prog.cellsOf 3 = 1 := by kernel_rfl
  have e22 : Try.prog.cellsOf 22 = 1 := by kernel_rfl
  have e23 : Try.prog.cellsOf 23 = 1 := by kernel_rfl
  obtain ⟨c0, c1, c2, c3, c4, rfl⟩ := len5 hl'
  have hlen' : xs.length = 5 := hlen.trans (by kernel_rfl)
  clear hlen
  obtain ⟨y0, y1, y2, y3, y4, rfl⟩ := len5 hlen'
  have g0 : DataW.trod enc Try.prog w base spare held n 22 [c0] = some y0 := by simpa [e3, e22, e23] using hg 0 _ rfl
  obtain ⟨A_0, c_0, l_0, r0, u0, v0, w0, z0⟩ := opens_slice (d := (Kd.int .i64)) (good := fun a => (Lit.int .i64 a).wf = true) Try.underlying22 (by kernel_rfl) (opens_int Try.underlying3) _ _ _ g0
  have g1 : DataW.trod enc Try.prog w base spare held n 22 [c1] = some y1 := by simpa [e3, e22, e23] using hg 1 _ rfl
  obtain ⟨A_1, c_1, l_1, r1, u1, v1, w1, z1⟩ := opens_slice (d := (Kd.int .i64)) (good := fun a => (Lit.int .i64 a).wf = true) Try.underlying22 (by kernel_rfl) (opens_int Try.underlying3) _ _ _ g1
  have g2 : DataW.trod enc Try.prog w base spare held n 23 [c2] = some y2 := by simpa [e3, e22, e23] using hg 2 _ rfl
  obtain ⟨A_2, c_2, l_2, r2, u2, v2, w2, z2⟩ := opens_slice (d := k127) (good := fun a => (Lit.int .i64 a.f0).wf = true ∧ (Lit.int .i64 a.f1).wf = true) Try.underlying23 (by kernel_rfl) (opensT127) _ _ _ g2
  have g3 : DataW.trod enc Try.prog w base spare held n 23 [c3] = some y3 := by simpa [e3, e22, e23] using hg 3 _ rfl
  obtain ⟨A_3, c_3, l_3, r3, u3, v3, w3, z3⟩ := opens_slice (d := k127) (good := fun a => (Lit.int .i64 a.f0).wf = true ∧ (Lit.int .i64 a.f1).wf = true) Try.underlying23 (by kernel_rfl) (opensT127) _ _ _ g3
  have g4 : DataW.trod enc Try.prog w base spare held n 3 [c4] = some y4 := by simpa [e3, e22, e23] using hg 4 _ rfl
  obtain ⟨a_4, r4, w4⟩ := opens_int Try.underlying3 _ _ _ g4
  simp only [Kd.int, Kd.string, Kd.scalar, List.cons.injEq, and_true] at r0
  simp only [Kd.int, Kd.string, Kd.scalar, List.cons.injEq, and_true] at r1
  simp only [Kd.int, Kd.string, Kd.scalar, List.cons.injEq, and_true] at r2
  simp only [Kd.int, Kd.string, Kd.scalar, List.cons.injEq, and_true] at r3
  simp only [Kd.int, Kd.string, Kd.scalar, List.cons.injEq, and_true] at r4
  subst r0
  subst r1
  subst r2
  subst r3
  subst r4
  exact ⟨A_0, c_0, l_0, A_1, c_1, l_1, A_2, c_2, l_2, A_3, c_3, l_3, a_4, rfl, u0, v0, w0, z0, u1, v1, w1, z1, u2, v2, w2, z2, u3, v3, w3, z3, w4⟩
set_option maxRecDepth 100000 in
theorem lifted (os : Os) (started : os.Started) (H : Type) (enc : TypeId × Value → H) :
    ReturnsInHanded {} Try.checked os 6 .any (Rows.fnExactNextHopSpec.pre6 enc Try.prog Try.f6 Rows.fnExactNextHopRow.domain false) (Rows.fnExactNextHopSpec.post enc Try.prog Try.f6 false true false false) := by
  refine returnsInHanded_of_change_sized (C := Try.checked) own started (by kernel_rfl) Try.func6
    (ChangeSpec.witness6 (enc := enc) (C := Try.checked) false ⟨#[], #[.agg #[.slice none 0 0, .slice none 0 0, .slice none 0 0, .slice none 0 0, .int .i64 0], .int .i64 0, .int .i64 0], []⟩ 8 (by kernel_rfl) (by kernel_rfl) (by kernel_rfl) (by kernel_rfl)) ?_
  intro W base args ds gs before hval0 hW hcnd hsz0 _
  have hsz : (DataW.weightsEach Try.prog (Try.f6.params.toList ++ Rows.fnExactNextHopSpec.plain.varTypes Try.prog) (ds ++ gs)).all (· ≤ reachBytes) = true := hsz0
  have hval : ∀ (j : Nat) t v, Try.f6.params[j]? = some t → args[j]? = some v → Value.okWide Try.prog W .any base t v := hval0
  have hW' := hW
  obtain ⟨p, q, hA0, hV, rfl, hfz, hnd⟩ := hW
  have hA : DataW.TrodAll enc Try.prog W 0 (fun _ => true) true Try.f6.params.toList args.toList ds p := hA0
  rw [Try.params6] at hA hval hsz
  obtain ⟨v0, vs0, d0, ds0, p0, q0, hargs, rfl, rfl, h0, r0⟩ := trodAll_cons hA
  obtain ⟨v1, vs1, d1, ds1, p1, q1, rfl, rfl, rfl, h1, r1⟩ := trodAll_cons r0
  obtain ⟨v2, vs2, d2, ds2, p2, q2, rfl, rfl, rfl, h2, r2⟩ := trodAll_cons r1
  obtain ⟨rfl, rfl, rfl⟩ := trodAll_nil r2
  obtain rfl : args = #[v0, v1, v2] := by cases args; simp_all
  obtain ⟨rfl, rfl⟩ := trodVars_none hV
  have k0 := h0
  have lt0 : ∀ x ∈ p0, x.block < W.heap.size := by obtain ⟨m, hm⟩ := k0; exact DataW.trod_lt m _ _ _ hm
  obtain ⟨cs0, rfl, hsize0⟩ := okWide_struct Try.underlying25 (hval 0 25 v0 rfl rfl)
  obtain ⟨fuel0, hf0⟩ := h0
  obtain ⟨A0_0, c0_0, l0_0, A0_1, c0_1, l0_1, A0_2, c0_2, l0_2, A0_3, c0_3, l0_3, a0_4, hcs0, g0_0, g0_1, g0_2, g0_3, g0_4, g0_5, g0_6, g0_7, g0_8, g0_9, g0_10, g0_11, g0_12, g0_13, g0_14, g0_15, g0_16⟩ := openT25 hf0
  replace hcs0 := arr_of_list hcs0
  subst hcs0
  obtain ⟨a1, rfl, rfl, rfl, w1⟩ := open_int Try.underlying3 (hval 1 3 v1 rfl rfl) h1
  obtain ⟨a2, rfl, rfl, rfl, w2⟩ := open_int Try.underlying3 (hval 2 3 v2 rfl rfl) h2
  clear hA0 hval0 hsz0 hsz
  obtain ⟨k, hpure⟩ := Pure.FnExactNextHop l0_0 l0_1 l0_2 l0_3 a0_4 a1 a2 g0_2 g0_3 g0_6 g0_7 g0_10 g0_11 g0_14 g0_15 g0_16 w1 w2
  refine (laws_FnExactNextHop.calls k A0_0 c0_0 l0_0 A0_1 c0_1 l0_1 A0_2 c0_2 l0_2 A0_3 c0_3 l0_3 a0_4 a1 a2 true W g0_1 g0_0 g0_5 g0_4 g0_9 g0_8 g0_13 g0_12 hpure ⟨rfl⟩).mono fun e W' he => ?_
  obtain ⟨rfl, bel0⟩ := he
  have bel : Below W.heap.size W W' := bel0
  exact ⟨_, rfl, _, _, _, [], _, [], hW', trodAll_mk1 (shut_bool Try.underlying4 _), (trodAll_cons_mk (Below.trod laidOut (by kernel_rfl) (of_decide_eq_true (by kernel_rfl)) k0 bel lt0) (trodAll_cons_mk (shut_int Try.underlying3 w1) (trodAll_cons_mk (shut_int Try.underlying3 w2) trodAll_mk0))), rfl, bel.frame _, fun h => by cases h⟩
theorem over : Rows.fnExactNextHopRow.holds Try.pinned (OpenSpec.ofChange Rows.fnExactNextHopSpec) :=
  OpenClaim.holds_of_wide 6 Try.f6 rfl rfl rfl rfl rfl rfl rfl ⟨rfl, rfl, rfl, rfl, rfl⟩ rfl rfl rfl rfl rfl (by kernel_rfl) Try.func6 (by kernel_rfl)
    (of_decide_eq_true (by kernel_rfl)) (by unfold Func.isWrapper; first | (rw [if_pos (by decide +kernel)]; kernel_rfl) | (rw [if_neg (by decide +kernel)]; exact ⟨rfl, rfl⟩))
    (fun os started H enc _ => lifted os started H enc)
theorem proved : Rows.FnExactNextHopSaid := over
#print axioms proved
end Go.Proofs.Ytmhjpnjolgigmaa.fnExactNextHop
namespace Go.Proofs.Ytmhjpnjolgigmaa
/-- The row, under a short name, for the claim. -/
theorem fnExactNextHop_holds : Rows.FnExactNextHopSaid := fnExactNextHop.proved
end Go.Proofs.Ytmhjpnjolgigmaa
