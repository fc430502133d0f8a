/- FnExactAskReq: for all arguments the law's call answers true and leaves them as they were; the row, out of the walk and the pure statement. -/
import Derived.Test.YtfgcgfioachocaaRows
import Derived.Test.YtfgcgfioachocaaOFnExactAskReqx7
import Derived.Test.YtfgcgfioachocaaPureFnExactAskReq
import Derived.Test.YtfgcgfioachocaaOOpen
import Derived.Test.YtfgcgfioachocaaWSized
import Derived.WalkKit
import Derived.ProofKit
import Derived.OpenShut
import Derived.ShutString
import Derived.ChangeOld
import Derived.Below
import Derived.SizedLaws
namespace Go.Proofs.Ytfgcgfioachocaa.fnExactAskReq
open Go.ChangeShapes Go.WideShapes Go.ChangeAt Go.RowKit Go.Proofs.Ytfgcgfioachocaa.OFnExactAskReq Go.Proofs.Ytfgcgfioachocaa.OOpen Go.Proofs.YtfgcgfioachocaaW.PrintWords Go.Proofs.YtfgcgfioachocaaW.PrintLast Go.Proofs.YtfgcgfioachocaaW.PrintMore
open Go.ChangeMaps (open_string shut_string)
set_option linter.unusedVariables false
set_option linter.unusedSimpArgs false
theorem own : ownKnob Try.prog.godebug = none := by kernel_rfl
theorem laidOut : laidOutB Try.prog = true := by kernel_rfl
theorem len3 {A : Type _} {l : List A} (h : l.length = 3) : ∃ c0 c1 c2, l = [c0, c1, c2] := by
  match l, h with
  | [c0, c1, c2], _ => exact ⟨c0, c1, c2, rfl⟩
theorem openT38 {H : Type} {enc : TypeId × Value → H} {w : World} {base : Nat} {spare : Nat → Bool} {held : Bool} {fuel : Nat} {cs : List Value} {x : DataW H × List MemPlace} (h : DataW.trod enc Try.prog w base spare held fuel 38 cs = some x) :
    ∃ (a_0 : Int) (a_1 : Int) (a_2 : Int), cs = [.int .i64 a_0, .int .i64 a_1, .int .i64 a_2] ∧ (Lit.int .i64 a_0).wf = true ∧ (Lit.int .i64 a_1).wf = true ∧ (Lit.int .i64 a_2).wf = true := by
  obtain ⟨xs, n, _, hx, hl, hlen, hg⟩ := DataW.trod_struct Try.underlying38 h
  have hl' : cs.length = 3 := hl.trans (by kernel_rfl)
  have e3 : Try.prog.cellsOf 3 = 1 := by kernel_rfl
  obtain ⟨c0, c1, c2, rfl⟩ := len3 hl'
  have hlen' : xs.length = 3 := hlen.trans (by kernel_rfl)
  clear hlen
  obtain ⟨y0, y1, y2, rfl⟩ := len3 hlen'
  have g0 : DataW.trod enc Try.prog w base spare held n 3 [c0] = some y0 := by simpa [e3] using hg 0 _ rfl
  obtain ⟨a_0, r0, w0⟩ := opens_int Try.underlying3 _ _ _ g0
  have g1 : DataW.trod enc Try.prog w base spare held n 3 [c1] = some y1 := by simpa [e3] using hg 1 _ rfl
  obtain ⟨a_1, r1, w1⟩ := opens_int Try.underlying3 _ _ _ g1
  have g2 : DataW.trod enc Try.prog w base spare held n 3 [c2] = some y2 := by simpa [e3] using hg 2 _ rfl
  obtain ⟨a_2, r2, w2⟩ := opens_int Try.underlying3 _ _ _ g2
  simp only [Kd.int, Kd.string, Kd.scalar, List.cons.injEq, and_true] at r0
  simp only [Kd.int, Kd.string, Kd.scalar, List.cons.injEq, and_true] at r1
  simp only [Kd.int, Kd.string, Kd.scalar, List.cons.injEq, and_true] at r2
  subst r0
  subst r1
  subst r2
  exact ⟨a_0, a_1, a_2, rfl, w0, w1, w2⟩
theorem openT28 {H : Type} {enc : TypeId × Value → H} {w : World} {base : Nat} {spare : Nat → Bool} {held : Bool} {fuel : Nat} {cs : List Value} {x : DataW H × List MemPlace} (h : DataW.trod enc Try.prog w base spare held fuel 28 cs = some x) :
    ∃ (a_0 : Int) (a_1 : Int) (a_2 : Int), cs = [.int .i64 a_0, .int .i64 a_1, .int .i64 a_2] ∧ (Lit.int .i64 a_0).wf = true ∧ (Lit.int .i64 a_1).wf = true ∧ (Lit.int .i64 a_2).wf = true := by
  obtain ⟨xs, n, _, hx, hl, hlen, hg⟩ := DataW.trod_struct Try.underlying28 h
  have hl' : cs.length = 3 := hl.trans (by kernel_rfl)
  have e3 : Try.prog.cellsOf 3 = 1 := by kernel_rfl
  obtain ⟨c0, c1, c2, rfl⟩ := len3 hl'
  have hlen' : xs.length = 3 := hlen.trans (by kernel_rfl)
  clear hlen
  obtain ⟨y0, y1, y2, rfl⟩ := len3 hlen'
  have g0 : DataW.trod enc Try.prog w base spare held n 3 [c0] = some y0 := by simpa [e3] using hg 0 _ rfl
  obtain ⟨a_0, r0, w0⟩ := opens_int Try.underlying3 _ _ _ g0
  have g1 : DataW.trod enc Try.prog w base spare held n 3 [c1] = some y1 := by simpa [e3] using hg 1 _ rfl
  obtain ⟨a_1, r1, w1⟩ := opens_int Try.underlying3 _ _ _ g1
  have g2 : DataW.trod enc Try.prog w base spare held n 3 [c2] = some y2 := by simpa [e3] using hg 2 _ rfl
  obtain ⟨a_2, r2, w2⟩ := opens_int Try.underlying3 _ _ _ g2
  simp only [Kd.int, Kd.string, Kd.scalar, List.cons.injEq, and_true] at r0
  simp only [Kd.int, Kd.string, Kd.scalar, List.cons.injEq, and_true] at r1
  simp only [Kd.int, Kd.string, Kd.scalar, List.cons.injEq, and_true] at r2
  subst r0
  subst r1
  subst r2
  exact ⟨a_0, a_1, a_2, rfl, w0, w1, w2⟩
set_option maxRecDepth 100000 in
theorem lifted (os : Os) (started : os.Started) (H : Type) (enc : TypeId × Value → H) :
    ReturnsInHanded {} Try.checked os 10 .any (Rows.fnExactAskReqSpec.pre6 enc Try.prog Try.f10 Rows.fnExactAskReqRow.domain false) (Rows.fnExactAskReqSpec.post enc Try.prog Try.f10 false true false false) := by
  refine returnsInHanded_of_change_sized (C := Try.checked) own started (by kernel_rfl) Try.func10
    (ChangeSpec.witness6 (enc := enc) (C := Try.checked) false ⟨#[], #[.string ByteArray.empty, .int .i64 0, .agg #[.int .i64 0, .int .i64 0, .int .i64 0], .int .i64 0, .agg #[.int .i64 0, .int .i64 0, .int .i64 0], .int .i64 0, .string ByteArray.empty], []⟩ 8 (by kernel_rfl) (by kernel_rfl) (by kernel_rfl) (by kernel_rfl)) ?_
  intro W base args ds gs before hval0 hW hcnd hsz0 _
  have hsz : (DataW.weightsEach Try.prog (Try.f10.params.toList ++ Rows.fnExactAskReqSpec.plain.varTypes Try.prog) (ds ++ gs)).all (· ≤ reachBytes) = true := hsz0
  have hval : ∀ (j : Nat) t v, Try.f10.params[j]? = some t → args[j]? = some v → Value.okWide Try.prog W .any base t v := hval0
  have hW' := hW
  obtain ⟨p, q, hA0, hV, rfl, hfz, hnd⟩ := hW
  have hA : DataW.TrodAll enc Try.prog W 0 (fun _ => true) true Try.f10.params.toList args.toList ds p := hA0
  rw [Try.params10] at hA hval hsz
  obtain ⟨v0, vs0, d0, ds0, p0, q0, hargs, rfl, rfl, h0, r0⟩ := trodAll_cons hA
  obtain ⟨v1, vs1, d1, ds1, p1, q1, rfl, rfl, rfl, h1, r1⟩ := trodAll_cons r0
  obtain ⟨v2, vs2, d2, ds2, p2, q2, rfl, rfl, rfl, h2, r2⟩ := trodAll_cons r1
  obtain ⟨v3, vs3, d3, ds3, p3, q3, rfl, rfl, rfl, h3, r3⟩ := trodAll_cons r2
  obtain ⟨v4, vs4, d4, ds4, p4, q4, rfl, rfl, rfl, h4, r4⟩ := trodAll_cons r3
  obtain ⟨v5, vs5, d5, ds5, p5, q5, rfl, rfl, rfl, h5, r5⟩ := trodAll_cons r4
  obtain ⟨v6, vs6, d6, ds6, p6, q6, rfl, rfl, rfl, h6, r6⟩ := trodAll_cons r5
  obtain ⟨rfl, rfl, rfl⟩ := trodAll_nil r6
  obtain rfl : args = #[v0, v1, v2, v3, v4, v5, v6] := by cases args; simp_all
  obtain ⟨rfl, rfl⟩ := trodVars_none hV
  obtain ⟨a0, rfl, rfl, rfl, y0⟩ := open_string Try.underlying9 (hval 0 9 v0 rfl rfl) h0
  have w0 : a0.size ≤ 140737488351232 := by
    have z := sized_string hsz (j := 0) (t := 9) rfl rfl
    rw [Array.length_toList] at z
    exact z
  obtain ⟨a1, rfl, rfl, rfl, w1⟩ := open_int Try.underlying3 (hval 1 3 v1 rfl rfl) h1
  have k2 := h2
  have lt2 : ∀ x ∈ p2, x.block < W.heap.size := by obtain ⟨m, hm⟩ := k2; exact DataW.trod_lt m _ _ _ hm
  obtain ⟨cs2, rfl, hsize2⟩ := okWide_struct Try.underlying38 (hval 2 38 v2 rfl rfl)
  obtain ⟨fuel2, hf2⟩ := h2
  obtain ⟨a2_0, a2_1, a2_2, hcs2, g2_0, g2_1, g2_2⟩ := openT38 hf2
  replace hcs2 := arr_of_list hcs2
  subst hcs2
  obtain ⟨a3, rfl, rfl, rfl, w3⟩ := open_int Try.underlying3 (hval 3 3 v3 rfl rfl) h3
  have k4 := h4
  have lt4 : ∀ x ∈ p4, x.block < W.heap.size := by obtain ⟨m, hm⟩ := k4; exact DataW.trod_lt m _ _ _ hm
  obtain ⟨cs4, rfl, hsize4⟩ := okWide_struct Try.underlying28 (hval 4 28 v4 rfl rfl)
  obtain ⟨fuel4, hf4⟩ := h4
  obtain ⟨a4_0, a4_1, a4_2, hcs4, g4_0, g4_1, g4_2⟩ := openT28 hf4
  replace hcs4 := arr_of_list hcs4
  subst hcs4
  obtain ⟨a5, rfl, rfl, rfl, w5⟩ := open_int Try.underlying3 (hval 5 3 v5 rfl rfl) h5
  obtain ⟨a6, rfl, rfl, rfl, y6⟩ := open_string Try.underlying9 (hval 6 9 v6 rfl rfl) h6
  have w6 : a6.size ≤ 140737488351232 := by
    have z := sized_string hsz (j := 6) (t := 9) rfl rfl
    rw [Array.length_toList] at z
    exact z
  clear hA0 hval0 hsz0 hsz
  obtain ⟨k, hpure⟩ := Pure.FnExactAskReq a0 a1 a2_0 a2_1 a2_2 a3 a4_0 a4_1 a4_2 a5 a6 w0 w1 g2_0 g2_1 g2_2 w3 g4_0 g4_1 g4_2 w5 w6
  refine (laws_FnExactAskReq.calls k a0 a1 a2_0 a2_1 a2_2 a3 a4_0 a4_1 a4_2 a5 a6 true W hpure ⟨rfl⟩).mono fun e W' he => ?_
  obtain ⟨rfl, bel0⟩ := he
  have bel : Below W.heap.size W W' := bel0
  exact ⟨_, rfl, _, _, _, [], _, [], hW', trodAll_mk1 (shut_bool Try.underlying4 _), (trodAll_cons_mk (shut_string Try.underlying9 y0) (trodAll_cons_mk (shut_int Try.underlying3 w1) (trodAll_cons_mk (Below.trod laidOut (by kernel_rfl) (of_decide_eq_true (by kernel_rfl)) k2 bel lt2) (trodAll_cons_mk (shut_int Try.underlying3 w3) (trodAll_cons_mk (Below.trod laidOut (by kernel_rfl) (of_decide_eq_true (by kernel_rfl)) k4 bel lt4) (trodAll_cons_mk (shut_int Try.underlying3 w5) (trodAll_cons_mk (shut_string Try.underlying9 y6) trodAll_mk0))))))), rfl, bel.frame _, fun h => by cases h⟩
theorem over : Rows.fnExactAskReqRow.holds Try.pinned (OpenSpec.ofChange Rows.fnExactAskReqSpec) :=
  OpenClaim.holds_of_wide 10 Try.f10 rfl rfl rfl rfl rfl rfl rfl ⟨rfl, rfl, rfl, rfl, rfl⟩ rfl rfl rfl rfl rfl (by kernel_rfl) Try.func10 (by kernel_rfl)
    (of_decide_eq_true (by kernel_rfl)) (by unfold Func.isWrapper; first | (rw [if_pos (by decide +kernel)]; kernel_rfl) | (rw [if_neg (by decide +kernel)]; exact ⟨rfl, rfl⟩))
    (fun os started H enc _ => lifted os started H enc)
theorem proved : Rows.FnExactAskReqSaid := over
#print axioms proved
end Go.Proofs.Ytfgcgfioachocaa.fnExactAskReq
namespace Go.Proofs.Ytfgcgfioachocaa
/-- The row, under a short name, for the claim. -/
theorem fnExactAskReq_holds : Rows.FnExactAskReqSaid := fnExactAskReq.proved
end Go.Proofs.Ytfgcgfioachocaa
