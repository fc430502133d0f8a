/-
  No cell of these rows narrows 'for every input' (looked for: loops, veiled, ifaces, maps, wideKeys, modest, calm, conditions, laid).
  DERIVED. THE GIVEN ROWS OF THIS SEAT. 12 by the template 'for every input the law returns true; each argument reads behind the call as it read before'; 0 by the template 'total and deterministic' (their statements: YtfgcgfioachocaaTotals.lean).
  GIVEN WITH THE SEED: the statements are not yours to turn. If you find one false, say at which input.
  Laid BY PROGRAM, IN A SANDBOX (cutbox-rows.mjs): the forced cells as the released guide's own fill.sh prints them over the translation 5528582282f67236… (all of the seat's roots in one cut). By AI agents, Wed Nov 11 2026. No macro, syntax, notation, axiom, sorry.
-/
import Derived.Test.YtfgcgfioachocaaChecked
import GoSem.Claim
import GoSem.ClaimJoined
import GoSem.ClaimMapViews
import Derived.JoinedTies
import Derived.KernelRfl
namespace Go.Proofs.Ytfgcgfioachocaa
/- THE CELL 'sum', in the pinned program and in every row, IS THE sha256 OF THE DUMP (.gsa) THAT YtfgcgfioachocaaProg.lean LOADS. Nothing in Lean hashes anything: it is a label: what it is worth is what the hold of that sum in a sandbox is worth. -/
noncomputable def Try.pinned : Pinned := { name := "ytfgcgfioachocaa", sum := "5528582282f67236afa79df69ad2590df2272fd8c7fcb8a43a14217470997f06", checked := Try.checked }
namespace Rows
def none {H : Type} : Left H := { results := [], args := [] }

/-- 'laws.FnExactNums': WHATEVER THE INPUT: true; the input reads as it did. -/
def fnExactNumsSpec : ChangeSpec := { name := "fnExactNums", fn := fun _ => fun
  | [d] => { results := [.lit (.bool true)], args := [d] }
  | _ => none }
def fnExactNumsRow : OpenClaim := { program := "ytfgcgfioachocaa", sum := "5528582282f67236afa79df69ad2590df2272fd8c7fcb8a43a14217470997f06", func := "loop.example/g00769/laws.FnExactNums", spec := "fnExactNums", recurses := true, apart := false }
def FnExactNumsSaid : Prop := fnExactNumsRow.holds Try.pinned (OpenSpec.ofChange fnExactNumsSpec)

/-- ITS FALSE NEIGHBOUR: 'it returns false'. Refute it at one input. -/
def fnExactNumsWrong : ChangeSpec := { name := "fnExactNums", fn := fun _ => fun
  | [d] => { results := [.lit (.bool false)], args := [d] }
  | _ => none }
def FnExactNumsWrongFalsely : Prop := fnExactNumsRow.holds Try.pinned (OpenSpec.ofChange fnExactNumsWrong)

/-- 'laws.FnExactShowRest': WHATEVER THE INPUT: true; the input reads as it did. -/
def fnExactShowRestSpec : ChangeSpec := { name := "fnExactShowRest", fn := fun _ => fun
  | [d] => { results := [.lit (.bool true)], args := [d] }
  | _ => none }
def fnExactShowRestRow : OpenClaim := { program := "ytfgcgfioachocaa", sum := "5528582282f67236afa79df69ad2590df2272fd8c7fcb8a43a14217470997f06", func := "loop.example/g00769/laws.FnExactShowRest", spec := "fnExactShowRest", recurses := true, apart := false }
def FnExactShowRestSaid : Prop := fnExactShowRestRow.holds Try.pinned (OpenSpec.ofChange fnExactShowRestSpec)

/-- ITS FALSE NEIGHBOUR: 'it returns false'. Refute it at one input. -/
def fnExactShowRestWrong : ChangeSpec := { name := "fnExactShowRest", fn := fun _ => fun
  | [d] => { results := [.lit (.bool false)], args := [d] }
  | _ => none }
def FnExactShowRestWrongFalsely : Prop := fnExactShowRestRow.holds Try.pinned (OpenSpec.ofChange fnExactShowRestWrong)

/-- 'laws.FnExactReadNums': WHATEVER THE INPUT: true; the input reads as it did. -/
def fnExactReadNumsSpec : ChangeSpec := { name := "fnExactReadNums", fn := fun _ => fun
  | [d] => { results := [.lit (.bool true)], args := [d] }
  | _ => none }
def fnExactReadNumsRow : OpenClaim := { program := "ytfgcgfioachocaa", sum := "5528582282f67236afa79df69ad2590df2272fd8c7fcb8a43a14217470997f06", func := "loop.example/g00769/laws.FnExactReadNums", spec := "fnExactReadNums", recurses := true, apart := false }
def FnExactReadNumsSaid : Prop := fnExactReadNumsRow.holds Try.pinned (OpenSpec.ofChange fnExactReadNumsSpec)

/-- ITS FALSE NEIGHBOUR: 'it returns false'. Refute it at one input. -/
def fnExactReadNumsWrong : ChangeSpec := { name := "fnExactReadNums", fn := fun _ => fun
  | [d] => { results := [.lit (.bool false)], args := [d] }
  | _ => none }
def FnExactReadNumsWrongFalsely : Prop := fnExactReadNumsRow.holds Try.pinned (OpenSpec.ofChange fnExactReadNumsWrong)

/-- 'laws.FnExactShowAuth': WHATEVER THE INPUT: true; the input reads as it did. -/
def fnExactShowAuthSpec : ChangeSpec := { name := "fnExactShowAuth", fn := fun _ => fun
  | [d1, d2] => { results := [.lit (.bool true)], args := [d1, d2] }
  | _ => none }
def fnExactShowAuthRow : OpenClaim := { program := "ytfgcgfioachocaa", sum := "5528582282f67236afa79df69ad2590df2272fd8c7fcb8a43a14217470997f06", func := "loop.example/g00769/laws.FnExactShowAuth", spec := "fnExactShowAuth", recurses := true, apart := false }
def FnExactShowAuthSaid : Prop := fnExactShowAuthRow.holds Try.pinned (OpenSpec.ofChange fnExactShowAuthSpec)

/-- ITS FALSE NEIGHBOUR: 'it returns false'. Refute it at one input. -/
def fnExactShowAuthWrong : ChangeSpec := { name := "fnExactShowAuth", fn := fun _ => fun
  | [d1, d2] => { results := [.lit (.bool false)], args := [d1, d2] }
  | _ => none }
def FnExactShowAuthWrongFalsely : Prop := fnExactShowAuthRow.holds Try.pinned (OpenSpec.ofChange fnExactShowAuthWrong)

/-- 'laws.FnExactLoginReq': WHATEVER THE INPUT: true; the input reads as it did. -/
def fnExactLoginReqSpec : ChangeSpec := { name := "fnExactLoginReq", fn := fun _ => fun
  | [d1, d2, d3] => { results := [.lit (.bool true)], args := [d1, d2, d3] }
  | _ => none }
def fnExactLoginReqRow : OpenClaim := { program := "ytfgcgfioachocaa", sum := "5528582282f67236afa79df69ad2590df2272fd8c7fcb8a43a14217470997f06", func := "loop.example/g00769/laws.FnExactLoginReq", spec := "fnExactLoginReq", recurses := true, apart := false }
def FnExactLoginReqSaid : Prop := fnExactLoginReqRow.holds Try.pinned (OpenSpec.ofChange fnExactLoginReqSpec)

/-- ITS FALSE NEIGHBOUR: 'it returns false'. Refute it at one input. -/
def fnExactLoginReqWrong : ChangeSpec := { name := "fnExactLoginReq", fn := fun _ => fun
  | [d1, d2, d3] => { results := [.lit (.bool false)], args := [d1, d2, d3] }
  | _ => none }
def FnExactLoginReqWrongFalsely : Prop := fnExactLoginReqRow.holds Try.pinned (OpenSpec.ofChange fnExactLoginReqWrong)

/-- 'laws.FnExactReadRest': WHATEVER THE INPUT: true; the input reads as it did. -/
def fnExactReadRestSpec : ChangeSpec := { name := "fnExactReadRest", fn := fun _ => fun
  | [d] => { results := [.lit (.bool true)], args := [d] }
  | _ => none }
def fnExactReadRestRow : OpenClaim := { program := "ytfgcgfioachocaa", sum := "5528582282f67236afa79df69ad2590df2272fd8c7fcb8a43a14217470997f06", func := "loop.example/g00769/laws.FnExactReadRest", spec := "fnExactReadRest", recurses := true, apart := false }
def FnExactReadRestSaid : Prop := fnExactReadRestRow.holds Try.pinned (OpenSpec.ofChange fnExactReadRestSpec)

/-- ITS FALSE NEIGHBOUR: 'it returns false'. Refute it at one input. -/
def fnExactReadRestWrong : ChangeSpec := { name := "fnExactReadRest", fn := fun _ => fun
  | [d] => { results := [.lit (.bool false)], args := [d] }
  | _ => none }
def FnExactReadRestWrongFalsely : Prop := fnExactReadRestRow.holds Try.pinned (OpenSpec.ofChange fnExactReadRestWrong)

/-- 'laws.FnExactKnownOk': WHATEVER THE INPUT: true; the input reads as it did. -/
def fnExactKnownOkSpec : ChangeSpec := { name := "fnExactKnownOk", fn := fun _ => fun
  | [d] => { results := [.lit (.bool true)], args := [d] }
  | _ => none }
def fnExactKnownOkRow : OpenClaim := { program := "ytfgcgfioachocaa", sum := "5528582282f67236afa79df69ad2590df2272fd8c7fcb8a43a14217470997f06", func := "loop.example/g00769/laws.FnExactKnownOk", spec := "fnExactKnownOk", recurses := true, apart := false }
def FnExactKnownOkSaid : Prop := fnExactKnownOkRow.holds Try.pinned (OpenSpec.ofChange fnExactKnownOkSpec)

/-- ITS FALSE NEIGHBOUR: 'it returns false'. Refute it at one input. -/
def fnExactKnownOkWrong : ChangeSpec := { name := "fnExactKnownOk", fn := fun _ => fun
  | [d] => { results := [.lit (.bool false)], args := [d] }
  | _ => none }
def FnExactKnownOkWrongFalsely : Prop := fnExactKnownOkRow.holds Try.pinned (OpenSpec.ofChange fnExactKnownOkWrong)

/-- 'laws.FnExactAskReq': WHATEVER THE INPUT: true; the input reads as it did. -/
def fnExactAskReqSpec : ChangeSpec := { name := "fnExactAskReq", fn := fun _ => fun
  | [d1, d2, d3, d4, d5, d6, d7] => { results := [.lit (.bool true)], args := [d1, d2, d3, d4, d5, d6, d7] }
  | _ => none }
def fnExactAskReqRow : OpenClaim := { program := "ytfgcgfioachocaa", sum := "5528582282f67236afa79df69ad2590df2272fd8c7fcb8a43a14217470997f06", func := "loop.example/g00769/laws.FnExactAskReq", spec := "fnExactAskReq", recurses := true, apart := false }
def FnExactAskReqSaid : Prop := fnExactAskReqRow.holds Try.pinned (OpenSpec.ofChange fnExactAskReqSpec)

/-- ITS FALSE NEIGHBOUR: 'it returns false'. Refute it at one input. -/
def fnExactAskReqWrong : ChangeSpec := { name := "fnExactAskReq", fn := fun _ => fun
  | [d1, d2, d3, d4, d5, d6, d7] => { results := [.lit (.bool false)], args := [d1, d2, d3, d4, d5, d6, d7] }
  | _ => none }
def FnExactAskReqWrongFalsely : Prop := fnExactAskReqRow.holds Try.pinned (OpenSpec.ofChange fnExactAskReqWrong)

/-- 'laws.FnExactShowGrant': WHATEVER THE INPUT: true; the input reads as it did. -/
def fnExactShowGrantSpec : ChangeSpec := { name := "fnExactShowGrant", fn := fun _ => fun
  | [d1, d2] => { results := [.lit (.bool true)], args := [d1, d2] }
  | _ => none }
def fnExactShowGrantRow : OpenClaim := { program := "ytfgcgfioachocaa", sum := "5528582282f67236afa79df69ad2590df2272fd8c7fcb8a43a14217470997f06", func := "loop.example/g00769/laws.FnExactShowGrant", spec := "fnExactShowGrant", recurses := true, apart := false }
def FnExactShowGrantSaid : Prop := fnExactShowGrantRow.holds Try.pinned (OpenSpec.ofChange fnExactShowGrantSpec)

/-- ITS FALSE NEIGHBOUR: 'it returns false'. Refute it at one input. -/
def fnExactShowGrantWrong : ChangeSpec := { name := "fnExactShowGrant", fn := fun _ => fun
  | [d1, d2] => { results := [.lit (.bool false)], args := [d1, d2] }
  | _ => none }
def FnExactShowGrantWrongFalsely : Prop := fnExactShowGrantRow.holds Try.pinned (OpenSpec.ofChange fnExactShowGrantWrong)

/-- 'laws.FnExactApplyReq': WHATEVER THE INPUT: true; the input reads as it did. -/
def fnExactApplyReqSpec : ChangeSpec := { name := "fnExactApplyReq", fn := fun _ => fun
  | [d1, d2, d3] => { results := [.lit (.bool true)], args := [d1, d2, d3] }
  | _ => none }
def fnExactApplyReqRow : OpenClaim := { program := "ytfgcgfioachocaa", sum := "5528582282f67236afa79df69ad2590df2272fd8c7fcb8a43a14217470997f06", func := "loop.example/g00769/laws.FnExactApplyReq", spec := "fnExactApplyReq", recurses := true, apart := false }
def FnExactApplyReqSaid : Prop := fnExactApplyReqRow.holds Try.pinned (OpenSpec.ofChange fnExactApplyReqSpec)

/-- ITS FALSE NEIGHBOUR: 'it returns false'. Refute it at one input. -/
def fnExactApplyReqWrong : ChangeSpec := { name := "fnExactApplyReq", fn := fun _ => fun
  | [d1, d2, d3] => { results := [.lit (.bool false)], args := [d1, d2, d3] }
  | _ => none }
def FnExactApplyReqWrongFalsely : Prop := fnExactApplyReqRow.holds Try.pinned (OpenSpec.ofChange fnExactApplyReqWrong)

/-- 'laws.FnOneKind': WHATEVER THE INPUT: true; the input reads as it did. -/
def fnOneKindSpec : ChangeSpec := { name := "fnOneKind", fn := fun _ => fun
  | [d] => { results := [.lit (.bool true)], args := [d] }
  | _ => none }
def fnOneKindRow : OpenClaim := { program := "ytfgcgfioachocaa", sum := "5528582282f67236afa79df69ad2590df2272fd8c7fcb8a43a14217470997f06", func := "loop.example/g00769/laws.FnOneKind", spec := "fnOneKind", recurses := true, apart := false }
def FnOneKindSaid : Prop := fnOneKindRow.holds Try.pinned (OpenSpec.ofChange fnOneKindSpec)

/-- ITS FALSE NEIGHBOUR: 'it returns false'. Refute it at one input. -/
def fnOneKindWrong : ChangeSpec := { name := "fnOneKind", fn := fun _ => fun
  | [d] => { results := [.lit (.bool false)], args := [d] }
  | _ => none }
def FnOneKindWrongFalsely : Prop := fnOneKindRow.holds Try.pinned (OpenSpec.ofChange fnOneKindWrong)

/-- 'laws.FnExactReadAuth': WHATEVER THE INPUT: true; the input reads as it did. -/
def fnExactReadAuthSpec : ChangeSpec := { name := "fnExactReadAuth", fn := fun _ => fun
  | [d1, d2] => { results := [.lit (.bool true)], args := [d1, d2] }
  | _ => none }
def fnExactReadAuthRow : OpenClaim := { program := "ytfgcgfioachocaa", sum := "5528582282f67236afa79df69ad2590df2272fd8c7fcb8a43a14217470997f06", func := "loop.example/g00769/laws.FnExactReadAuth", spec := "fnExactReadAuth", recurses := true, apart := false }
def FnExactReadAuthSaid : Prop := fnExactReadAuthRow.holds Try.pinned (OpenSpec.ofChange fnExactReadAuthSpec)

/-- ITS FALSE NEIGHBOUR: 'it returns false'. Refute it at one input. -/
def fnExactReadAuthWrong : ChangeSpec := { name := "fnExactReadAuth", fn := fun _ => fun
  | [d1, d2] => { results := [.lit (.bool false)], args := [d1, d2] }
  | _ => none }
def FnExactReadAuthWrongFalsely : Prop := fnExactReadAuthRow.holds Try.pinned (OpenSpec.ofChange fnExactReadAuthWrong)

/- THE SECOND FORM. 'bulk': how many values and letters a reading holds, each counted each time it is reached (what is shared counts as often as it is met; a slice's spare places count too). A statement '..UptoSaid' is the law's where the arguments, and the package variables that the reading takes, are together of bulk at most 1048576: NARROWER than '..Said'. Prove '..Said' where nothing that the law and all that it calls make is longer than what came in: it says more and counts as full. Else prove '..UptoSaid'. A law counts once. -/
mutual
def uptoBulk {H : Type} : DataW H → Nat
  | .lit (.string bytes) => bytes.length + 1
  | .lit _ => 1
  | .nil => 1
  | .ptr d => uptoBulk d + 1
  | .slice elems spare => uptoBulkAll elems + uptoBulkAll spare + 1
  | .agg parts => uptoBulkAll parts + 1
  | .iface _ d => uptoBulk d + 1
  | .map entries => uptoBulkEntries entries + 1
  | .held _ => 1
def uptoBulkAll {H : Type} : List (DataW H) → Nat
  | [] => 0
  | d :: r => uptoBulk d + uptoBulkAll r
def uptoBulkEntries {H : Type} : List (Lit × DataW H) → Nat
  | [] => 0
  | x :: r => uptoBulkEntry x + uptoBulkEntries r
def uptoBulkEntry {H : Type} : Lit × DataW H → Nat
  | (.string bytes, d) => bytes.length + uptoBulk d + 1
  | (_, d) => uptoBulk d + 1
 end
def uptoSmall : (H : Type) → List (DataW H) → Bool := fun _ ds => decide (uptoBulkAll ds ≤ 1048576)
def OpenSpec.upto (s : _root_.Go.ChangeSpec) : _root_.Go.OpenSpec := { _root_.Go.OpenSpec.ofChange s with cond := some uptoSmall }

/-- 'laws.FnExactNums', WHERE WHAT IT READS IS OF BULK AT MOST 1048576: true; the input reads as it did. -/
def fnExactNumsUptoRow : OpenClaim := { program := "ytfgcgfioachocaa", sum := "5528582282f67236afa79df69ad2590df2272fd8c7fcb8a43a14217470997f06", func := "loop.example/g00769/laws.FnExactNums", spec := "fnExactNums", recurses := true, apart := false, narrowed := true }
def FnExactNumsUptoSaid : Prop := fnExactNumsUptoRow.holds Try.pinned (OpenSpec.upto fnExactNumsSpec)

/-- 'laws.FnExactShowRest', WHERE WHAT IT READS IS OF BULK AT MOST 1048576: true; the input reads as it did. -/
def fnExactShowRestUptoRow : OpenClaim := { program := "ytfgcgfioachocaa", sum := "5528582282f67236afa79df69ad2590df2272fd8c7fcb8a43a14217470997f06", func := "loop.example/g00769/laws.FnExactShowRest", spec := "fnExactShowRest", recurses := true, apart := false, narrowed := true }
def FnExactShowRestUptoSaid : Prop := fnExactShowRestUptoRow.holds Try.pinned (OpenSpec.upto fnExactShowRestSpec)

/-- 'laws.FnExactReadNums', WHERE WHAT IT READS IS OF BULK AT MOST 1048576: true; the input reads as it did. -/
def fnExactReadNumsUptoRow : OpenClaim := { program := "ytfgcgfioachocaa", sum := "5528582282f67236afa79df69ad2590df2272fd8c7fcb8a43a14217470997f06", func := "loop.example/g00769/laws.FnExactReadNums", spec := "fnExactReadNums", recurses := true, apart := false, narrowed := true }
def FnExactReadNumsUptoSaid : Prop := fnExactReadNumsUptoRow.holds Try.pinned (OpenSpec.upto fnExactReadNumsSpec)

/-- 'laws.FnExactShowAuth', WHERE WHAT IT READS IS OF BULK AT MOST 1048576: true; the input reads as it did. -/
def fnExactShowAuthUptoRow : OpenClaim := { program := "ytfgcgfioachocaa", sum := "5528582282f67236afa79df69ad2590df2272fd8c7fcb8a43a14217470997f06", func := "loop.example/g00769/laws.FnExactShowAuth", spec := "fnExactShowAuth", recurses := true, apart := false, narrowed := true }
def FnExactShowAuthUptoSaid : Prop := fnExactShowAuthUptoRow.holds Try.pinned (OpenSpec.upto fnExactShowAuthSpec)

/-- 'laws.FnExactLoginReq', WHERE WHAT IT READS IS OF BULK AT MOST 1048576: true; the input reads as it did. -/
def fnExactLoginReqUptoRow : OpenClaim := { program := "ytfgcgfioachocaa", sum := "5528582282f67236afa79df69ad2590df2272fd8c7fcb8a43a14217470997f06", func := "loop.example/g00769/laws.FnExactLoginReq", spec := "fnExactLoginReq", recurses := true, apart := false, narrowed := true }
def FnExactLoginReqUptoSaid : Prop := fnExactLoginReqUptoRow.holds Try.pinned (OpenSpec.upto fnExactLoginReqSpec)

/-- 'laws.FnExactReadRest', WHERE WHAT IT READS IS OF BULK AT MOST 1048576: true; the input reads as it did. -/
def fnExactReadRestUptoRow : OpenClaim := { program := "ytfgcgfioachocaa", sum := "5528582282f67236afa79df69ad2590df2272fd8c7fcb8a43a14217470997f06", func := "loop.example/g00769/laws.FnExactReadRest", spec := "fnExactReadRest", recurses := true, apart := false, narrowed := true }
def FnExactReadRestUptoSaid : Prop := fnExactReadRestUptoRow.holds Try.pinned (OpenSpec.upto fnExactReadRestSpec)

/-- 'laws.FnExactKnownOk', WHERE WHAT IT READS IS OF BULK AT MOST 1048576: true; the input reads as it did. -/
def fnExactKnownOkUptoRow : OpenClaim := { program := "ytfgcgfioachocaa", sum := "5528582282f67236afa79df69ad2590df2272fd8c7fcb8a43a14217470997f06", func := "loop.example/g00769/laws.FnExactKnownOk", spec := "fnExactKnownOk", recurses := true, apart := false, narrowed := true }
def FnExactKnownOkUptoSaid : Prop := fnExactKnownOkUptoRow.holds Try.pinned (OpenSpec.upto fnExactKnownOkSpec)

/-- 'laws.FnExactAskReq', WHERE WHAT IT READS IS OF BULK AT MOST 1048576: true; the input reads as it did. -/
def fnExactAskReqUptoRow : OpenClaim := { program := "ytfgcgfioachocaa", sum := "5528582282f67236afa79df69ad2590df2272fd8c7fcb8a43a14217470997f06", func := "loop.example/g00769/laws.FnExactAskReq", spec := "fnExactAskReq", recurses := true, apart := false, narrowed := true }
def FnExactAskReqUptoSaid : Prop := fnExactAskReqUptoRow.holds Try.pinned (OpenSpec.upto fnExactAskReqSpec)

/-- 'laws.FnExactShowGrant', WHERE WHAT IT READS IS OF BULK AT MOST 1048576: true; the input reads as it did. -/
def fnExactShowGrantUptoRow : OpenClaim := { program := "ytfgcgfioachocaa", sum := "5528582282f67236afa79df69ad2590df2272fd8c7fcb8a43a14217470997f06", func := "loop.example/g00769/laws.FnExactShowGrant", spec := "fnExactShowGrant", recurses := true, apart := false, narrowed := true }
def FnExactShowGrantUptoSaid : Prop := fnExactShowGrantUptoRow.holds Try.pinned (OpenSpec.upto fnExactShowGrantSpec)

/-- 'laws.FnExactApplyReq', WHERE WHAT IT READS IS OF BULK AT MOST 1048576: true; the input reads as it did. -/
def fnExactApplyReqUptoRow : OpenClaim := { program := "ytfgcgfioachocaa", sum := "5528582282f67236afa79df69ad2590df2272fd8c7fcb8a43a14217470997f06", func := "loop.example/g00769/laws.FnExactApplyReq", spec := "fnExactApplyReq", recurses := true, apart := false, narrowed := true }
def FnExactApplyReqUptoSaid : Prop := fnExactApplyReqUptoRow.holds Try.pinned (OpenSpec.upto fnExactApplyReqSpec)

/-- 'laws.FnOneKind', WHERE WHAT IT READS IS OF BULK AT MOST 1048576: true; the input reads as it did. -/
def fnOneKindUptoRow : OpenClaim := { program := "ytfgcgfioachocaa", sum := "5528582282f67236afa79df69ad2590df2272fd8c7fcb8a43a14217470997f06", func := "loop.example/g00769/laws.FnOneKind", spec := "fnOneKind", recurses := true, apart := false, narrowed := true }
def FnOneKindUptoSaid : Prop := fnOneKindUptoRow.holds Try.pinned (OpenSpec.upto fnOneKindSpec)

/-- 'laws.FnExactReadAuth', WHERE WHAT IT READS IS OF BULK AT MOST 1048576: true; the input reads as it did. -/
def fnExactReadAuthUptoRow : OpenClaim := { program := "ytfgcgfioachocaa", sum := "5528582282f67236afa79df69ad2590df2272fd8c7fcb8a43a14217470997f06", func := "loop.example/g00769/laws.FnExactReadAuth", spec := "fnExactReadAuth", recurses := true, apart := false, narrowed := true }
def FnExactReadAuthUptoSaid : Prop := fnExactReadAuthUptoRow.holds Try.pinned (OpenSpec.upto fnExactReadAuthSpec)

end Rows
end Go.Proofs.Ytfgcgfioachocaa
