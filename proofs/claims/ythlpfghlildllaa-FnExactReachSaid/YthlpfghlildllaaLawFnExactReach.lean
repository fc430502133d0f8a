/- FnExactReach: for all arguments the law's call answers true and leaves them as they were; the row, out of the walk and the pure statement. -/
import Derived.Test.YthlpfghlildllaaRows
import Derived.Test.YthlpfghlildllaaOFnExactReachx12
import Derived.Test.YthlpfghlildllaaPureFnExactReach
import Derived.Test.YthlpfghlildllaaOOpen
import Derived.Test.YthlpfghlildllaaVSized
import Derived.WalkKit
import Derived.ProofKit
import Derived.OpenShut
import Derived.ShutString
import Derived.ChangeOld
import Derived.Below
import Derived.SizedLaws
namespace Go.Proofs.Ythlpfghlildllaa.fnExactReach
open Go.ChangeShapes Go.WideShapes Go.ChangeAt Go.RowKit Go.Proofs.Ythlpfghlildllaa.OFnExactReach Go.Proofs.Ythlpfghlildllaa.OOpen Go.Proofs.YthlpfghlildllaaW.PrintWords Go.Proofs.YthlpfghlildllaaW.PrintLast Go.Proofs.YthlpfghlildllaaW.PrintMore
open Go.ChangeMaps (open_string shut_string)
set_option linter.unusedVariables false
set_option linter.unusedSimpArgs false
theorem own : ownKnob Try.prog.godebug = none := by kernel_rfl
theorem laidOut : laidOutB Try.prog = true := by kernel_rfl
theorem len2 {A : Type _} {l : List A} (h : l.length = 2) : ∃ c0 c1, l = [c0, c1] := by
  match l, h with
  | [c0, c1], _ => exact ⟨c0, c1, rfl⟩
theorem openT42 {H : Type} {enc : TypeId × Value → H} {w : World} {base : Nat} {spare : Nat → Bool} {held : Bool} {fuel : Nat} {cs : List Value} {x : DataW H × List MemPlace} (h : DataW.trod enc Try.prog w base spare held fuel 42 cs = some x) :
    ∃ (A_0 : Option Addr) (c_0 : Nat) (l_0 : List ByteArray) (A_1 : Option Addr) (c_1 : Nat) (l_1 : List Int), cs = [.slice A_0 l_0.length c_0, .slice A_1 l_1.length c_1] ∧ l_0.length ≤ c_0 ∧ Kd.string.C w A_0 l_0.length l_0 ∧ (∀ a ∈ l_0, a.size ≤ maxLen) ∧ l_0.length ≤ maxLen ∧ l_1.length ≤ c_1 ∧ (Kd.int .i64).C w A_1 l_1.length l_1 ∧ (∀ a ∈ l_1, (Lit.int .i64 a).wf = true) ∧ l_1.length ≤ maxLen := by
  obtain ⟨xs, n, _, hx, hl, hlen, hg⟩ := DataW.trod_struct Try.underlying42 h
  have hl' : cs.length = 2 := hl.trans (by kernel_rfl)
  have e24 : Try.prog.cellsOf 24 = 1 := by kernel_rfl
  have e25 : Try.prog.cellsOf 25 = 1 := by kernel_rfl
  obtain ⟨c0, c1, rfl⟩ := len2 hl'
  have hlen' : xs.length = 2 := hlen.trans (by kernel_rfl)
  clear hlen
  obtain ⟨y0, y1, rfl⟩ := len2 hlen'
  have g0 : DataW.trod enc Try.prog w base spare held n 24 [c0] = some y0 := by simpa [e24, e25] using hg 0 _ rfl
  obtain ⟨A_0, c_0, l_0, r0, u0, v0, w0, z0⟩ := opens_slice (d := Kd.string) (good := fun a => a.size ≤ maxLen) Try.underlying24 (by kernel_rfl) (opens_string Try.underlying9) _ _ _ g0
  have g1 : DataW.trod enc Try.prog w base spare held n 25 [c1] = some y1 := by simpa [e24, e25] using hg 1 _ rfl
  obtain ⟨A_1, c_1, l_1, r1, u1, v1, w1, z1⟩ := opens_slice (d := (Kd.int .i64)) (good := fun a => (Lit.int .i64 a).wf = true) Try.underlying25 (by kernel_rfl) (opens_int Try.underlying3) _ _ _ g1
  simp only [Kd.int, Kd.string, Kd.scalar, List.cons.injEq, and_true] at r0
  simp only [Kd.int, Kd.string, Kd.scalar, List.cons.injEq, and_true] at r1
  subst r0
  subst r1
  exact ⟨A_0, c_0, l_0, A_1, c_1, l_1, rfl, u0, v0, w0, z0, u1, v1, w1, z1⟩
set_option maxRecDepth 100000 in
theorem lifted (os : Os) (started : os.Started) (H : Type) (enc : TypeId × Value → H) :
    ReturnsInHanded {} Try.checked os 8 .any (Rows.fnExactReachSpec.pre6 enc Try.prog Try.f8 Rows.fnExactReachRow.domain false) (Rows.fnExactReachSpec.post enc Try.prog Try.f8 false true false false) := by
  refine returnsInHanded_of_change_sized (C := Try.checked) own started (by kernel_rfl) Try.func8
    (ChangeSpec.witness6 (enc := enc) (C := Try.checked) false ⟨#[], #[.agg #[.slice none 0 0, .slice none 0 0]], []⟩ 8 (by kernel_rfl) (by kernel_rfl) (by kernel_rfl) (by kernel_rfl)) ?_
  intro W base args ds gs before hval0 hW hcnd hsz0 _
  have hsz : (DataW.weightsEach Try.prog (Try.f8.params.toList ++ Rows.fnExactReachSpec.plain.varTypes Try.prog) (ds ++ gs)).all (· ≤ reachBytes) = true := hsz0
  have hval : ∀ (j : Nat) t v, Try.f8.params[j]? = some t → args[j]? = some v → Value.okWide Try.prog W .any base t v := hval0
  have hW' := hW
  obtain ⟨p, q, hA0, hV, rfl, hfz, hnd⟩ := hW
  have hA : DataW.TrodAll enc Try.prog W 0 (fun _ => true) true Try.f8.params.toList args.toList ds p := hA0
  rw [Try.params8] at hA hval hsz
  obtain ⟨v0, vs0, d0, ds0, p0, q0, hargs, rfl, rfl, h0, r0⟩ := trodAll_cons hA
  obtain ⟨rfl, rfl, rfl⟩ := trodAll_nil r0
  obtain rfl : args = #[v0] := by cases args; simp_all
  obtain ⟨rfl, rfl⟩ := trodVars_none hV
  have k0 := h0
  have lt0 : ∀ x ∈ p0, x.block < W.heap.size := by obtain ⟨m, hm⟩ := k0; exact DataW.trod_lt m _ _ _ hm
  obtain ⟨cs0, rfl, hsize0⟩ := okWide_struct Try.underlying42 (hval 0 42 v0 rfl rfl)
  obtain ⟨fuel0, hf0⟩ := h0
  obtain ⟨A0_0, c0_0, l0_0, A0_1, c0_1, l0_1, hcs0, g0_0, g0_1, g0_2, g0_3, g0_4, g0_5, g0_6, g0_7⟩ := openT42 hf0
  replace hcs0 := arr_of_list hcs0
  subst hcs0
  clear hA0 hval0 hsz0 hsz
  obtain ⟨k, hpure⟩ := Pure.FnExactReach l0_0 l0_1 g0_2 g0_3 g0_6 g0_7
  refine (laws_FnExactReach.calls k A0_0 c0_0 l0_0 A0_1 c0_1 l0_1 true W g0_1 g0_0 g0_5 g0_4 hpure ⟨rfl⟩).mono fun e W' he => ?_
  obtain ⟨rfl, bel0⟩ := he
  have bel : Below W.heap.size W W' := bel0
  exact ⟨_, rfl, _, _, _, [], _, [], hW', trodAll_mk1 (shut_bool Try.underlying4 _), (trodAll_cons_mk (Below.trod laidOut (by kernel_rfl) (of_decide_eq_true (by kernel_rfl)) k0 bel lt0) trodAll_mk0), rfl, bel.frame _, fun h => by cases h⟩
theorem over : Rows.fnExactReachRow.holds Try.pinned (OpenSpec.ofChange Rows.fnExactReachSpec) :=
  OpenClaim.holds_of_wide 8 Try.f8 rfl rfl rfl rfl rfl rfl rfl ⟨rfl, rfl, rfl, rfl, rfl⟩ rfl rfl rfl rfl rfl (by kernel_rfl) Try.func8 (by kernel_rfl)
    (of_decide_eq_true (by kernel_rfl)) (by unfold Func.isWrapper; first | (rw [if_pos (by decide +kernel)]; kernel_rfl) | (rw [if_neg (by decide +kernel)]; exact ⟨rfl, rfl⟩))
    (fun os started H enc _ => lifted os started H enc)
theorem proved : Rows.FnExactReachSaid := over
#print axioms proved
end Go.Proofs.Ythlpfghlildllaa.fnExactReach
namespace Go.Proofs.Ythlpfghlildllaa
/-- The row, under a short name, for the claim. -/
theorem fnExactReach_holds : Rows.FnExactReachSaid := fnExactReach.proved
end Go.Proofs.Ythlpfghlildllaa
