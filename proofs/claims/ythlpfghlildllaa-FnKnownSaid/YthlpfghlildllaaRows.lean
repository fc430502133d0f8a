/-
  No cell of these rows narrows 'for every input' (looked for: loops, veiled, ifaces, maps, wideKeys, modest, calm, conditions, laid).
  DERIVED. THE GIVEN ROWS OF THIS SEAT. 6 by the template 'for every input the law returns true; each argument reads behind the call as it read before'; 0 by the template 'total and deterministic' (their statements: YthlpfghlildllaaTotals.lean).
  GIVEN WITH THE SEED: the statements are not yours to turn. If you find one false, say at which input.
  Laid BY PROGRAM, IN A SANDBOX (cutbox-rows.mjs): the forced cells as the released guide's own fill.sh prints them over the translation cf1294fcd86b1b4a… (all of the seat's roots in one cut). By AI agents, Wed Nov 11 2026. No macro, syntax, notation, axiom, sorry.
-/
import Derived.Test.YthlpfghlildllaaChecked
import GoSem.Claim
import GoSem.ClaimJoined
import GoSem.ClaimMapViews
import Derived.JoinedTies
import Derived.KernelRfl
namespace Go.Proofs.Ythlpfghlildllaa
/- THE CELL 'sum', in the pinned program and in every row, IS THE sha256 OF THE DUMP (.gsa) THAT YthlpfghlildllaaProg.lean LOADS. Nothing in Lean hashes anything: it is a label: what it is worth is what the hold of that sum in a sandbox is worth. -/
noncomputable def Try.pinned : Pinned := { name := "ythlpfghlildllaa", sum := "cf1294fcd86b1b4ab18376a004b66b8b651d12bc2587c36c035a4af2ad931571", checked := Try.checked }
namespace Rows
def none {H : Type} : Left H := { results := [], args := [] }

/-- 'laws.FnBuilt': WHATEVER THE INPUT: true; the input reads as it did. -/
def fnBuiltSpec : ChangeSpec := { name := "fnBuilt", fn := fun _ => fun
  | [d] => { results := [.lit (.bool true)], args := [d] }
  | _ => none }
def fnBuiltRow : OpenClaim := { program := "ythlpfghlildllaa", sum := "cf1294fcd86b1b4ab18376a004b66b8b651d12bc2587c36c035a4af2ad931571", func := "loop.example/g00769/laws.FnBuilt", spec := "fnBuilt", recurses := true, apart := false }
def FnBuiltSaid : Prop := fnBuiltRow.holds Try.pinned (OpenSpec.ofChange fnBuiltSpec)

/-- ITS FALSE NEIGHBOUR: 'it returns false'. Refute it at one input. -/
def fnBuiltWrong : ChangeSpec := { name := "fnBuilt", fn := fun _ => fun
  | [d] => { results := [.lit (.bool false)], args := [d] }
  | _ => none }
def FnBuiltWrongFalsely : Prop := fnBuiltRow.holds Try.pinned (OpenSpec.ofChange fnBuiltWrong)

/-- 'laws.FnKnown': WHATEVER THE INPUT: true; the input reads as it did. -/
def fnKnownSpec : ChangeSpec := { name := "fnKnown", fn := fun _ => fun
  | [d] => { results := [.lit (.bool true)], args := [d] }
  | _ => none }
def fnKnownRow : OpenClaim := { program := "ythlpfghlildllaa", sum := "cf1294fcd86b1b4ab18376a004b66b8b651d12bc2587c36c035a4af2ad931571", func := "loop.example/g00769/laws.FnKnown", spec := "fnKnown", recurses := true, apart := false }
def FnKnownSaid : Prop := fnKnownRow.holds Try.pinned (OpenSpec.ofChange fnKnownSpec)

/-- ITS FALSE NEIGHBOUR: 'it returns false'. Refute it at one input. -/
def fnKnownWrong : ChangeSpec := { name := "fnKnown", fn := fun _ => fun
  | [d] => { results := [.lit (.bool false)], args := [d] }
  | _ => none }
def FnKnownWrongFalsely : Prop := fnKnownRow.holds Try.pinned (OpenSpec.ofChange fnKnownWrong)

/-- 'laws.FnExactSees': WHATEVER THE INPUT: true; the input reads as it did. -/
def fnExactSeesSpec : ChangeSpec := { name := "fnExactSees", fn := fun _ => fun
  | [d1, d2] => { results := [.lit (.bool true)], args := [d1, d2] }
  | _ => none }
def fnExactSeesRow : OpenClaim := { program := "ythlpfghlildllaa", sum := "cf1294fcd86b1b4ab18376a004b66b8b651d12bc2587c36c035a4af2ad931571", func := "loop.example/g00769/laws.FnExactSees", spec := "fnExactSees", recurses := true, apart := false }
def FnExactSeesSaid : Prop := fnExactSeesRow.holds Try.pinned (OpenSpec.ofChange fnExactSeesSpec)

/-- ITS FALSE NEIGHBOUR: 'it returns false'. Refute it at one input. -/
def fnExactSeesWrong : ChangeSpec := { name := "fnExactSees", fn := fun _ => fun
  | [d1, d2] => { results := [.lit (.bool false)], args := [d1, d2] }
  | _ => none }
def FnExactSeesWrongFalsely : Prop := fnExactSeesRow.holds Try.pinned (OpenSpec.ofChange fnExactSeesWrong)

/-- 'laws.FnExactBuild': WHATEVER THE INPUT: true; the input reads as it did. -/
def fnExactBuildSpec : ChangeSpec := { name := "fnExactBuild", fn := fun _ => fun
  | [d1, d2] => { results := [.lit (.bool true)], args := [d1, d2] }
  | _ => none }
def fnExactBuildRow : OpenClaim := { program := "ythlpfghlildllaa", sum := "cf1294fcd86b1b4ab18376a004b66b8b651d12bc2587c36c035a4af2ad931571", func := "loop.example/g00769/laws.FnExactBuild", spec := "fnExactBuild", recurses := true, apart := false }
def FnExactBuildSaid : Prop := fnExactBuildRow.holds Try.pinned (OpenSpec.ofChange fnExactBuildSpec)

/-- ITS FALSE NEIGHBOUR: 'it returns false'. Refute it at one input. -/
def fnExactBuildWrong : ChangeSpec := { name := "fnExactBuild", fn := fun _ => fun
  | [d1, d2] => { results := [.lit (.bool false)], args := [d1, d2] }
  | _ => none }
def FnExactBuildWrongFalsely : Prop := fnExactBuildRow.holds Try.pinned (OpenSpec.ofChange fnExactBuildWrong)

/-- 'laws.FnExactLearnKey': WHATEVER THE INPUT: true; the input reads as it did. -/
def fnExactLearnKeySpec : ChangeSpec := { name := "fnExactLearnKey", fn := fun _ => fun
  | [d1, d2] => { results := [.lit (.bool true)], args := [d1, d2] }
  | _ => none }
def fnExactLearnKeyRow : OpenClaim := { program := "ythlpfghlildllaa", sum := "cf1294fcd86b1b4ab18376a004b66b8b651d12bc2587c36c035a4af2ad931571", func := "loop.example/g00769/laws.FnExactLearnKey", spec := "fnExactLearnKey", recurses := true, apart := false }
def FnExactLearnKeySaid : Prop := fnExactLearnKeyRow.holds Try.pinned (OpenSpec.ofChange fnExactLearnKeySpec)

/-- ITS FALSE NEIGHBOUR: 'it returns false'. Refute it at one input. -/
def fnExactLearnKeyWrong : ChangeSpec := { name := "fnExactLearnKey", fn := fun _ => fun
  | [d1, d2] => { results := [.lit (.bool false)], args := [d1, d2] }
  | _ => none }
def FnExactLearnKeyWrongFalsely : Prop := fnExactLearnKeyRow.holds Try.pinned (OpenSpec.ofChange fnExactLearnKeyWrong)

/-- 'laws.FnExactReach': WHATEVER THE INPUT: true; the input reads as it did. -/
def fnExactReachSpec : ChangeSpec := { name := "fnExactReach", fn := fun _ => fun
  | [d] => { results := [.lit (.bool true)], args := [d] }
  | _ => none }
def fnExactReachRow : OpenClaim := { program := "ythlpfghlildllaa", sum := "cf1294fcd86b1b4ab18376a004b66b8b651d12bc2587c36c035a4af2ad931571", func := "loop.example/g00769/laws.FnExactReach", spec := "fnExactReach", recurses := true, apart := false }
def FnExactReachSaid : Prop := fnExactReachRow.holds Try.pinned (OpenSpec.ofChange fnExactReachSpec)

/-- ITS FALSE NEIGHBOUR: 'it returns false'. Refute it at one input. -/
def fnExactReachWrong : ChangeSpec := { name := "fnExactReach", fn := fun _ => fun
  | [d] => { results := [.lit (.bool false)], args := [d] }
  | _ => none }
def FnExactReachWrongFalsely : Prop := fnExactReachRow.holds Try.pinned (OpenSpec.ofChange fnExactReachWrong)

/- THE SECOND FORM. 'bulk': how many values and letters a reading holds, each counted each time it is reached (what is shared counts as often as it is met; a slice's spare places count too). A statement '..UptoSaid' is the law's where the arguments, and the package variables that the reading takes, are together of bulk at most 1048576: NARROWER than '..Said'. Prove '..Said' where nothing that the law and all that it calls make is longer than what came in: it says more and counts as full. Else prove '..UptoSaid'. A law counts once. -/
mutual
def uptoBulk {H : Type} : DataW H → Nat
  | .lit (.string bytes) => bytes.length + 1
  | .lit _ => 1
  | .nil => 1
  | .ptr d => uptoBulk d + 1
  | .slice elems spare => uptoBulkAll elems + uptoBulkAll spare + 1
  | .agg parts => uptoBulkAll parts + 1
  | .iface _ d => uptoBulk d + 1
  | .map entries => uptoBulkEntries entries + 1
  | .held _ => 1
def uptoBulkAll {H : Type} : List (DataW H) → Nat
  | [] => 0
  | d :: r => uptoBulk d + uptoBulkAll r
def uptoBulkEntries {H : Type} : List (Lit × DataW H) → Nat
  | [] => 0
  | x :: r => uptoBulkEntry x + uptoBulkEntries r
def uptoBulkEntry {H : Type} : Lit × DataW H → Nat
  | (.string bytes, d) => bytes.length + uptoBulk d + 1
  | (_, d) => uptoBulk d + 1
 end
def uptoSmall : (H : Type) → List (DataW H) → Bool := fun _ ds => decide (uptoBulkAll ds ≤ 1048576)
def OpenSpec.upto (s : _root_.Go.ChangeSpec) : _root_.Go.OpenSpec := { _root_.Go.OpenSpec.ofChange s with cond := some uptoSmall }

/-- 'laws.FnBuilt', WHERE WHAT IT READS IS OF BULK AT MOST 1048576: true; the input reads as it did. -/
def fnBuiltUptoRow : OpenClaim := { program := "ythlpfghlildllaa", sum := "cf1294fcd86b1b4ab18376a004b66b8b651d12bc2587c36c035a4af2ad931571", func := "loop.example/g00769/laws.FnBuilt", spec := "fnBuilt", recurses := true, apart := false, narrowed := true }
def FnBuiltUptoSaid : Prop := fnBuiltUptoRow.holds Try.pinned (OpenSpec.upto fnBuiltSpec)

/-- 'laws.FnKnown', WHERE WHAT IT READS IS OF BULK AT MOST 1048576: true; the input reads as it did. -/
def fnKnownUptoRow : OpenClaim := { program := "ythlpfghlildllaa", sum := "cf1294fcd86b1b4ab18376a004b66b8b651d12bc2587c36c035a4af2ad931571", func := "loop.example/g00769/laws.FnKnown", spec := "fnKnown", recurses := true, apart := false, narrowed := true }
def FnKnownUptoSaid : Prop := fnKnownUptoRow.holds Try.pinned (OpenSpec.upto fnKnownSpec)

/-- 'laws.FnExactSees', WHERE WHAT IT READS IS OF BULK AT MOST 1048576: true; the input reads as it did. -/
def fnExactSeesUptoRow : OpenClaim := { program := "ythlpfghlildllaa", sum := "cf1294fcd86b1b4ab18376a004b66b8b651d12bc2587c36c035a4af2ad931571", func := "loop.example/g00769/laws.FnExactSees", spec := "fnExactSees", recurses := true, apart := false, narrowed := true }
def FnExactSeesUptoSaid : Prop := fnExactSeesUptoRow.holds Try.pinned (OpenSpec.upto fnExactSeesSpec)

/-- 'laws.FnExactBuild', WHERE WHAT IT READS IS OF BULK AT MOST 1048576: true; the input reads as it did. -/
def fnExactBuildUptoRow : OpenClaim := { program := "ythlpfghlildllaa", sum := "cf1294fcd86b1b4ab18376a004b66b8b651d12bc2587c36c035a4af2ad931571", func := "loop.example/g00769/laws.FnExactBuild", spec := "fnExactBuild", recurses := true, apart := false, narrowed := true }
def FnExactBuildUptoSaid : Prop := fnExactBuildUptoRow.holds Try.pinned (OpenSpec.upto fnExactBuildSpec)

/-- 'laws.FnExactLearnKey', WHERE WHAT IT READS IS OF BULK AT MOST 1048576: true; the input reads as it did. -/
def fnExactLearnKeyUptoRow : OpenClaim := { program := "ythlpfghlildllaa", sum := "cf1294fcd86b1b4ab18376a004b66b8b651d12bc2587c36c035a4af2ad931571", func := "loop.example/g00769/laws.FnExactLearnKey", spec := "fnExactLearnKey", recurses := true, apart := false, narrowed := true }
def FnExactLearnKeyUptoSaid : Prop := fnExactLearnKeyUptoRow.holds Try.pinned (OpenSpec.upto fnExactLearnKeySpec)

/-- 'laws.FnExactReach', WHERE WHAT IT READS IS OF BULK AT MOST 1048576: true; the input reads as it did. -/
def fnExactReachUptoRow : OpenClaim := { program := "ythlpfghlildllaa", sum := "cf1294fcd86b1b4ab18376a004b66b8b651d12bc2587c36c035a4af2ad931571", func := "loop.example/g00769/laws.FnExactReach", spec := "fnExactReach", recurses := true, apart := false, narrowed := true }
def FnExactReachUptoSaid : Prop := fnExactReachUptoRow.holds Try.pinned (OpenSpec.upto fnExactReachSpec)

end Rows
end Go.Proofs.Ythlpfghlildllaa
