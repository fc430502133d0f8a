/- FnExactCacheTry: for all arguments the law's call answers true and leaves them as they were; the row, out of the walk and the pure statement. -/
import Derived.Test.YtnpbafgnfdadhaaRows
import Derived.Test.YtnpbafgnfdadhaaOFnExactCacheTryx9
import Derived.Test.YtnpbafgnfdadhaaPureFnExactCacheTry
import Derived.Test.YtnpbafgnfdadhaaOOpen
import Derived.Test.YtnpbafgnfdadhaaVSized
import Derived.WalkKit
import Derived.ProofKit
import Derived.OpenShut
import Derived.ShutString
import Derived.ChangeOld
import Derived.Below
import Derived.SizedLaws
namespace Go.Proofs.Ytnpbafgnfdadhaa.fnExactCacheTry
open Go.ChangeShapes Go.WideShapes Go.ChangeAt Go.RowKit Go.Proofs.Ytnpbafgnfdadhaa.OFnExactCacheTry Go.Proofs.Ytnpbafgnfdadhaa.OOpen Go.Proofs.YtnpbafgnfdadhaaW.PrintWords Go.Proofs.YtnpbafgnfdadhaaW.PrintLast Go.Proofs.YtnpbafgnfdadhaaW.PrintMore
open Go.ChangeMaps (open_string shut_string)
set_option linter.unusedVariables false
set_option linter.unusedSimpArgs false
theorem own : ownKnob Try.prog.godebug = none := by kernel_rfl
theorem laidOut : laidOutB Try.prog = true := by kernel_rfl
theorem len3 {A : Type _} {l : List A} (h : l.length = 3) : ∃ c0 c1 c2, l = [c0, c1, c2] := by
  match l, h with
  | [c0, c1, c2], _ => exact ⟨c0, c1, c2, rfl⟩
theorem openT39 {H : Type} {enc : TypeId × Value → H} {w : World} {base : Nat} {spare : Nat → Bool} {held : Bool} {fuel : Nat} {cs : List Value} {x : DataW H × List MemPlace} (h : DataW.trod enc Try.prog w base spare held fuel 39 cs = some x) :
    ∃ (a_0 : Int) (a_1 : Int) (a_2 : Int), cs = [.int .i64 a_0, .int .i64 a_1, .int .i64 a_2] ∧ (Lit.int .i64 a_0).wf = true ∧ (Lit.int .i64 a_1).wf = true ∧ (Lit.int .i64 a_2).wf = true := by
  obtain ⟨xs, n, _, hx, hl, hlen, hg⟩ := DataW.trod_struct Try.underlying39 h
  have hl' : cs.length = 3 := hl.trans (by kernel_rfl)
  have e3 : Try.prog.cellsOf 3 = 1 := by kernel_rfl
  obtain ⟨c0, c1, c2, rfl⟩ := len3 hl'
  have hlen' : xs.length = 3 := hlen.trans (by kernel_rfl)
  clear hlen
  obtain ⟨y0, y1, y2, rfl⟩ := len3 hlen'
  have g0 : DataW.trod enc Try.prog w base spare held n 3 [c0] = some y0 := by simpa [e3] using hg 0 _ rfl
  obtain ⟨a_0, r0, w0⟩ := opens_int Try.underlying3 _ _ _ g0
  have g1 : DataW.trod enc Try.prog w base spare held n 3 [c1] = some y1 := by simpa [e3] using hg 1 _ rfl
  obtain ⟨a_1, r1, w1⟩ := opens_int Try.underlying3 _ _ _ g1
  have g2 : DataW.trod enc Try.prog w base spare held n 3 [c2] = some y2 := by simpa [e3] using hg 2 _ rfl
  obtain ⟨a_2, r2, w2⟩ := opens_int Try.underlying3 _ _ _ g2
  simp only [Kd.int, Kd.string, Kd.scalar, List.cons.injEq, and_true] at r0
  simp only [Kd.int, Kd.string, Kd.scalar, List.cons.injEq, and_true] at r1
  simp only [Kd.int, Kd.string, Kd.scalar, List.cons.injEq, and_true] at r2
  subst r0
  subst r1
  subst r2
  exact ⟨a_0, a_1, a_2, rfl, w0, w1, w2⟩
theorem opensT39 {H : Type} {enc : TypeId × Value → H} {w : World} {base : Nat} {spare : Nat → Bool} {held : Bool} : ∀ (fuel : Nat) (cs : List Value) (x : DataW H × List MemPlace), DataW.trod enc Try.prog w base spare held fuel 39 cs = some x → ∃ a : S39, k39.K w a cs ∧ ((Lit.int .i64 a.f0).wf = true ∧ (Lit.int .i64 a.f1).wf = true ∧ (Lit.int .i64 a.f2).wf = true) := by
  intro fuel cs x h
  obtain ⟨a_0, a_1, a_2, rfl, w0, w1, w2⟩ := openT39 h
  exact ⟨⟨a_0, a_1, a_2⟩, ⟨[_], [_, _], rfl, rfl, ⟨[_], [_], rfl, rfl, rfl⟩⟩, w0, w1, w2⟩
theorem len2 {A : Type _} {l : List A} (h : l.length = 2) : ∃ c0 c1, l = [c0, c1] := by
  match l, h with
  | [c0, c1], _ => exact ⟨c0, c1, rfl⟩
theorem openT38 {H : Type} {enc : TypeId × Value → H} {w : World} {base : Nat} {spare : Nat → Bool} {held : Bool} {fuel : Nat} {cs : List Value} {x : DataW H × List MemPlace} (h : DataW.trod enc Try.prog w base spare held fuel 38 cs = some x) :
    ∃ (a_0 : Int) (A_1 : Option Addr) (c_1 : Nat) (l_1 : List S39), cs = [.int .i64 a_0, .slice A_1 l_1.length c_1] ∧ (Lit.int .i64 a_0).wf = true ∧ l_1.length ≤ c_1 ∧ k39.C w A_1 l_1.length l_1 ∧ (∀ a ∈ l_1, (Lit.int .i64 a.f0).wf = true ∧ (Lit.int .i64 a.f1).wf = true ∧ (Lit.int .i64 a.f2).wf = true) ∧ l_1.length ≤ maxLen := by
  obtain ⟨xs, n, _, hx, hl, hlen, hg⟩ := DataW.trod_struct Try.underlying38 h
  have hl' : cs.length = 2 := hl.trans (by kernel_rfl)
  have e3 : Try.prog.cellsOf 3 = 1 := by kernel_rfl
  have e36 : Try.prog.cellsOf 36 = 1 := by kernel_rfl
  obtain ⟨c0, c1, rfl⟩ := len2 hl'
  have hlen' : xs.length = 2 := hlen.trans (by kernel_rfl)
  clear hlen
  obtain ⟨y0, y1, rfl⟩ := len2 hlen'
  have g0 : DataW.trod enc Try.prog w base spare held n 3 [c0] = some y0 := by simpa [e3, e36] using hg 0 _ rfl
  obtain ⟨a_0, r0, w0⟩ := opens_int Try.underlying3 _ _ _ g0
  have g1 : DataW.trod enc Try.prog w base spare held n 36 [c1] = some y1 := by simpa [e3, e36] using hg 1 _ rfl
  obtain ⟨A_1, c_1, l_1, r1, u1, v1, w1, z1⟩ := opens_slice (d := k39) (good := fun a => (Lit.int .i64 a.f0).wf = true ∧ (Lit.int .i64 a.f1).wf = true ∧ (Lit.int .i64 a.f2).wf = true) Try.underlying36 (by kernel_rfl) (opensT39) _ _ _ g1
  simp only [Kd.int, Kd.string, Kd.scalar, List.cons.injEq, and_true] at r0
  simp only [Kd.int, Kd.string, Kd.scalar, List.cons.injEq, and_true] at r1
  subst r0
  subst r1
  exact ⟨a_0, A_1, c_1, l_1, rfl, w0, u1, v1, w1, z1⟩
set_option maxRecDepth 100000 in
theorem lifted (os : Os) (started : os.Started) (H : Type) (enc : TypeId × Value → H) :
    ReturnsInHanded {} Try.checked os 4 .any (Rows.fnExactCacheTrySpec.pre6 enc Try.prog Try.f4 Rows.fnExactCacheTryRow.domain false) (Rows.fnExactCacheTrySpec.post enc Try.prog Try.f4 false true false false) := by
  refine returnsInHanded_of_change_sized (C := Try.checked) own started (by kernel_rfl) Try.func4
    (ChangeSpec.witness6 (enc := enc) (C := Try.checked) false ⟨#[], #[.agg #[.int .i64 0, .slice none 0 0], .agg #[.int .i64 0, .int .i64 0, .int .i64 0], .int .i64 0, .int .i64 0], []⟩ 8 (by kernel_rfl) (by kernel_rfl) (by kernel_rfl) (by kernel_rfl)) ?_
  intro W base args ds gs before hval0 hW hcnd hsz0 _
  have hsz : (DataW.weightsEach Try.prog (Try.f4.params.toList ++ Rows.fnExactCacheTrySpec.plain.varTypes Try.prog) (ds ++ gs)).all (· ≤ reachBytes) = true := hsz0
  have hval : ∀ (j : Nat) t v, Try.f4.params[j]? = some t → args[j]? = some v → Value.okWide Try.prog W .any base t v := hval0
  have hW' := hW
  obtain ⟨p, q, hA0, hV, rfl, hfz, hnd⟩ := hW
  have hA : DataW.TrodAll enc Try.prog W 0 (fun _ => true) true Try.f4.params.toList args.toList ds p := hA0
  rw [Try.params4] at hA hval hsz
  obtain ⟨v0, vs0, d0, ds0, p0, q0, hargs, rfl, rfl, h0, r0⟩ := trodAll_cons hA
  obtain ⟨v1, vs1, d1, ds1, p1, q1, rfl, rfl, rfl, h1, r1⟩ := trodAll_cons r0
  obtain ⟨v2, vs2, d2, ds2, p2, q2, rfl, rfl, rfl, h2, r2⟩ := trodAll_cons r1
  obtain ⟨v3, vs3, d3, ds3, p3, q3, rfl, rfl, rfl, h3, r3⟩ := trodAll_cons r2
  obtain ⟨rfl, rfl, rfl⟩ := trodAll_nil r3
  obtain rfl : args = #[v0, v1, v2, v3] := by cases args; simp_all
  obtain ⟨rfl, rfl⟩ := trodVars_none hV
  have k0 := h0
  have lt0 : ∀ x ∈ p0, x.block < W.heap.size := by obtain ⟨m, hm⟩ := k0; exact DataW.trod_lt m _ _ _ hm
  obtain ⟨cs0, rfl, hsize0⟩ := okWide_struct Try.underlying38 (hval 0 38 v0 rfl rfl)
  obtain ⟨fuel0, hf0⟩ := h0
  obtain ⟨a0_0, A0_1, c0_1, l0_1, hcs0, g0_0, g0_1, g0_2, g0_3, g0_4⟩ := openT38 hf0
  replace hcs0 := arr_of_list hcs0
  subst hcs0
  have k1 := h1
  have lt1 : ∀ x ∈ p1, x.block < W.heap.size := by obtain ⟨m, hm⟩ := k1; exact DataW.trod_lt m _ _ _ hm
  obtain ⟨cs1, rfl, hsize1⟩ := okWide_struct Try.underlying39 (hval 1 39 v1 rfl rfl)
  obtain ⟨fuel1, hf1⟩ := h1
  obtain ⟨a1_0, a1_1, a1_2, hcs1, g1_0, g1_1, g1_2⟩ := openT39 hf1
  replace hcs1 := arr_of_list hcs1
  subst hcs1
  obtain ⟨a2, rfl, rfl, rfl, w2⟩ := open_int Try.underlying3 (hval 2 3 v2 rfl rfl) h2
  obtain ⟨a3, rfl, rfl, rfl, w3⟩ := open_int Try.underlying3 (hval 3 3 v3 rfl rfl) h3
  clear hA0 hval0 hsz0 hsz
  obtain ⟨k, hpure⟩ := Pure.FnExactCacheTry a0_0 l0_1 a1_0 a1_1 a1_2 a2 a3 g0_0 g0_3 g0_4 g1_0 g1_1 g1_2 w2 w3
  refine (laws_FnExactCacheTry.calls k a0_0 A0_1 c0_1 l0_1 a1_0 a1_1 a1_2 a2 a3 true W g0_2 g0_1 hpure ⟨rfl⟩).mono fun e W' he => ?_
  obtain ⟨rfl, bel0⟩ := he
  have bel : Below W.heap.size W W' := bel0
  exact ⟨_, rfl, _, _, _, [], _, [], hW', trodAll_mk1 (shut_bool Try.underlying4 _), (trodAll_cons_mk (Below.trod laidOut (by kernel_rfl) (of_decide_eq_true (by kernel_rfl)) k0 bel lt0) (trodAll_cons_mk (Below.trod laidOut (by kernel_rfl) (of_decide_eq_true (by kernel_rfl)) k1 bel lt1) (trodAll_cons_mk (shut_int Try.underlying3 w2) (trodAll_cons_mk (shut_int Try.underlying3 w3) trodAll_mk0)))), rfl, bel.frame _, fun h => by cases h⟩
theorem over : Rows.fnExactCacheTryRow.holds Try.pinned (OpenSpec.ofChange Rows.fnExactCacheTrySpec) :=
  OpenClaim.holds_of_wide 4 Try.f4 rfl rfl rfl rfl rfl rfl rfl ⟨rfl, rfl, rfl, rfl, rfl⟩ rfl rfl rfl rfl rfl (by kernel_rfl) Try.func4 (by kernel_rfl)
    (of_decide_eq_true (by kernel_rfl)) (by unfold Func.isWrapper; first | (rw [if_pos (by decide +kernel)]; kernel_rfl) | (rw [if_neg (by decide +kernel)]; exact ⟨rfl, rfl⟩))
    (fun os started H enc _ => lifted os started H enc)
theorem proved : Rows.FnExactCacheTrySaid := over
#print axioms proved
end Go.Proofs.Ytnpbafgnfdadhaa.fnExactCacheTry
namespace Go.Proofs.Ytnpbafgnfdadhaa
/-- The row, under a short name, for the claim. -/
theorem fnExactCacheTry_holds : Rows.FnExactCacheTrySaid := fnExactCacheTry.proved
end Go.Proofs.Ytnpbafgnfdadhaa
