/- FnExactShowRest: for all arguments the law's call answers true and leaves them as they were; the row, out of the walk and the pure statement. -/
import Derived.Test.YtfgcgfioachocaaRows
import Derived.Test.YtfgcgfioachocaaPFnExactShowRestx5
import Derived.Test.YtfgcgfioachocaaPureFnExactShowRest
import Derived.Test.YtfgcgfioachocaaOOpen
import Derived.Test.YtfgcgfioachocaaWSized
import Derived.WalkKit
import Derived.ProofKit
import Derived.OpenShut
import Derived.ShutString
import Derived.ChangeOld
import Derived.Below
import Derived.SizedLaws
namespace Go.Proofs.Ytfgcgfioachocaa.fnExactShowRest
open Go.ChangeShapes Go.WideShapes Go.ChangeAt Go.RowKit Go.Proofs.Ytfgcgfioachocaa.PFnExactShowRest Go.Proofs.Ytfgcgfioachocaa.OOpen Go.Proofs.YtfgcgfioachocaaW.PrintWords Go.Proofs.YtfgcgfioachocaaW.PrintLast Go.Proofs.YtfgcgfioachocaaW.PrintMore
open Go.ChangeMaps (open_string shut_string)
set_option linter.unusedVariables false
set_option linter.unusedSimpArgs false
theorem own : ownKnob Try.prog.godebug = none := by kernel_rfl
theorem laidOut : laidOutB Try.prog = true := by kernel_rfl
theorem len3 {A : Type _} {l : List A} (h : l.length = 3) : ∃ c0 c1 c2, l = [c0, c1, c2] := by
  match l, h with
  | [c0, c1, c2], _ => exact ⟨c0, c1, c2, rfl⟩
theorem openT28 {H : Type} {enc : TypeId × Value → H} {w : World} {base : Nat} {spare : Nat → Bool} {held : Bool} {fuel : Nat} {cs : List Value} {x : DataW H × List MemPlace} (h : DataW.trod enc Try.prog w base spare held fuel 28 cs = some x) :
    ∃ (a_0 : Int) (a_1 : Int) (a_2 : Int), cs = [.int .i64 a_0, .int .i64 a_1, .int .i64 a_2] ∧ (Lit.int .i64 a_0).wf = true ∧ (Lit.int .i64 a_1).wf = true ∧ (Lit.int .i64 a_2).wf = true := by
  obtain ⟨xs, n, _, hx, hl, hlen, hg⟩ := DataW.trod_struct Try.underlying28 h
  have hl' : cs.length = 3 := hl.trans (by kernel_rfl)
  have e3 : Try.prog.cellsOf 3 = 1 := by kernel_rfl
  obtain ⟨c0, c1, c2, rfl⟩ := len3 hl'
  have hlen' : xs.length = 3 := hlen.trans (by kernel_rfl)
  clear hlen
  obtain ⟨y0, y1, y2, rfl⟩ := len3 hlen'
  have g0 : DataW.trod enc Try.prog w base spare held n 3 [c0] = some y0 := by simpa [e3] using hg 0 _ rfl
  obtain ⟨a_0, r0, w0⟩ := opens_int Try.underlying3 _ _ _ g0
  have g1 : DataW.trod enc Try.prog w base spare held n 3 [c1] = some y1 := by simpa [e3] using hg 1 _ rfl
  obtain ⟨a_1, r1, w1⟩ := opens_int Try.underlying3 _ _ _ g1
  have g2 : DataW.trod enc Try.prog w base spare held n 3 [c2] = some y2 := by simpa [e3] using hg 2 _ rfl
  obtain ⟨a_2, r2, w2⟩ := opens_int Try.underlying3 _ _ _ g2
  simp only [Kd.int, Kd.string, Kd.scalar, List.cons.injEq, and_true] at r0
  simp only [Kd.int, Kd.string, Kd.scalar, List.cons.injEq, and_true] at r1
  simp only [Kd.int, Kd.string, Kd.scalar, List.cons.injEq, and_true] at r2
  subst r0
  subst r1
  subst r2
  exact ⟨a_0, a_1, a_2, rfl, w0, w1, w2⟩
set_option maxRecDepth 100000 in
theorem lifted (os : Os) (started : os.Started) (H : Type) (enc : TypeId × Value → H) :
    ReturnsInHanded {} Try.checked os 4 .any (Rows.fnExactShowRestSpec.pre6 enc Try.prog Try.f4 Rows.fnExactShowRestRow.domain false) (Rows.fnExactShowRestSpec.post enc Try.prog Try.f4 false true false false) := by
  refine returnsInHanded_of_change_sized (C := Try.checked) own started (by kernel_rfl) Try.func4
    (ChangeSpec.witness6 (enc := enc) (C := Try.checked) false ⟨#[], #[.agg #[.int .i64 0, .int .i64 0, .int .i64 0]], []⟩ 8 (by kernel_rfl) (by kernel_rfl) (by kernel_rfl) (by kernel_rfl)) ?_
  intro W base args ds gs before hval0 hW hcnd hsz0 _
  have hsz : (DataW.weightsEach Try.prog (Try.f4.params.toList ++ Rows.fnExactShowRestSpec.plain.varTypes Try.prog) (ds ++ gs)).all (· ≤ reachBytes) = true := hsz0
  have hval : ∀ (j : Nat) t v, Try.f4.params[j]? = some t → args[j]? = some v → Value.okWide Try.prog W .any base t v := hval0
  have hW' := hW
  obtain ⟨p, q, hA0, hV, rfl, hfz, hnd⟩ := hW
  have hA : DataW.TrodAll enc Try.prog W 0 (fun _ => true) true Try.f4.params.toList args.toList ds p := hA0
  rw [Try.params4] at hA hval hsz
  obtain ⟨v0, vs0, d0, ds0, p0, q0, hargs, rfl, rfl, h0, r0⟩ := trodAll_cons hA
  obtain ⟨rfl, rfl, rfl⟩ := trodAll_nil r0
  obtain rfl : args = #[v0] := by cases args; simp_all
  obtain ⟨rfl, rfl⟩ := trodVars_none hV
  have k0 := h0
  have lt0 : ∀ x ∈ p0, x.block < W.heap.size := by obtain ⟨m, hm⟩ := k0; exact DataW.trod_lt m _ _ _ hm
  obtain ⟨cs0, rfl, hsize0⟩ := okWide_struct Try.underlying28 (hval 0 28 v0 rfl rfl)
  obtain ⟨fuel0, hf0⟩ := h0
  obtain ⟨a0_0, a0_1, a0_2, hcs0, g0_0, g0_1, g0_2⟩ := openT28 hf0
  replace hcs0 := arr_of_list hcs0
  subst hcs0
  clear hA0 hval0 hsz0 hsz
  obtain ⟨k, hpure⟩ := Pure.FnExactShowRest a0_0 a0_1 a0_2 g0_0 g0_1 g0_2
  refine (laws_FnExactShowRest.calls k a0_0 a0_1 a0_2 true W hpure).mono fun e W' he => ?_
  obtain ⟨rfl, bel0⟩ := he
  have bel : Below W.heap.size W W' := bel0
  exact ⟨_, rfl, _, _, _, [], _, [], hW', trodAll_mk1 (shut_bool Try.underlying4 _), (trodAll_cons_mk (Below.trod laidOut (by kernel_rfl) (of_decide_eq_true (by kernel_rfl)) k0 bel lt0) trodAll_mk0), rfl, bel.frame _, fun h => by cases h⟩
theorem over : Rows.fnExactShowRestRow.holds Try.pinned (OpenSpec.ofChange Rows.fnExactShowRestSpec) :=
  OpenClaim.holds_of_wide 4 Try.f4 rfl rfl rfl rfl rfl rfl rfl ⟨rfl, rfl, rfl, rfl, rfl⟩ rfl rfl rfl rfl rfl (by kernel_rfl) Try.func4 (by kernel_rfl)
    (of_decide_eq_true (by kernel_rfl)) (by unfold Func.isWrapper; first | (rw [if_pos (by decide +kernel)]; kernel_rfl) | (rw [if_neg (by decide +kernel)]; exact ⟨rfl, rfl⟩))
    (fun os started H enc _ => lifted os started H enc)
theorem proved : Rows.FnExactShowRestSaid := over
#print axioms proved
end Go.Proofs.Ytfgcgfioachocaa.fnExactShowRest
namespace Go.Proofs.Ytfgcgfioachocaa
/-- The row, under a short name, for the claim. -/
theorem fnExactShowRest_holds : Rows.FnExactShowRestSaid := fnExactShowRest.proved
end Go.Proofs.Ytfgcgfioachocaa
