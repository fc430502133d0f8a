/-
  No cell of these rows narrows 'for every input' (looked for: loops, veiled, ifaces, maps, wideKeys, modest, calm, conditions, laid).
  DERIVED. THE GIVEN ROWS OF THIS SEAT. 12 by the template 'for every input the law returns true; each argument reads behind the call as it read before'; 0 by the template 'total and deterministic' (their statements: YtcicpbneiofgbaaTotals.lean).
  GIVEN WITH THE SEED: the statements are not yours to turn. If you find one false, say at which input.
  Laid BY PROGRAM, IN A SANDBOX (cutbox-rows.mjs): the forced cells as the released guide's own fill.sh prints them over the translation 93424d74a353442d… (all of the seat's roots in one cut). By AI agents, Wed Nov 11 2026. No macro, syntax, notation, axiom, sorry.
-/
import Derived.Test.YtcicpbneiofgbaaChecked
import GoSem.Claim
import GoSem.ClaimJoined
import GoSem.ClaimMapViews
import Derived.JoinedTies
import Derived.KernelRfl
namespace Go.Proofs.Ytcicpbneiofgbaa
/- THE CELL 'sum', in the pinned program and in every row, IS THE sha256 OF THE DUMP (.gsa) THAT YtcicpbneiofgbaaProg.lean LOADS. Nothing in Lean hashes anything: it is a label: what it is worth is what the hold of that sum in a sandbox is worth. -/
noncomputable def Try.pinned : Pinned := { name := "ytcicpbneiofgbaa", sum := "93424d74a353442d388b0b91b952bf928c97d878360b9bdd2f94204b645c5e4f", checked := Try.checked }
namespace Rows
def none {H : Type} : Left H := { results := [], args := [] }

/-- 'laws.FnExactReadAtom': WHATEVER THE INPUT: true; the input reads as it did. -/
def fnExactReadAtomSpec : ChangeSpec := { name := "fnExactReadAtom", fn := fun _ => fun
  | [d] => { results := [.lit (.bool true)], args := [d] }
  | _ => none }
def fnExactReadAtomRow : OpenClaim := { program := "ytcicpbneiofgbaa", sum := "93424d74a353442d388b0b91b952bf928c97d878360b9bdd2f94204b645c5e4f", func := "loop.example/g00769/laws.FnExactReadAtom", spec := "fnExactReadAtom", recurses := true, apart := false }
def FnExactReadAtomSaid : Prop := fnExactReadAtomRow.holds Try.pinned (OpenSpec.ofChange fnExactReadAtomSpec)

/-- ITS FALSE NEIGHBOUR: 'it returns false'. Refute it at one input. -/
def fnExactReadAtomWrong : ChangeSpec := { name := "fnExactReadAtom", fn := fun _ => fun
  | [d] => { results := [.lit (.bool false)], args := [d] }
  | _ => none }
def FnExactReadAtomWrongFalsely : Prop := fnExactReadAtomRow.holds Try.pinned (OpenSpec.ofChange fnExactReadAtomWrong)

/-- 'laws.FnExactReadKey': WHATEVER THE INPUT: true; the input reads as it did. -/
def fnExactReadKeySpec : ChangeSpec := { name := "fnExactReadKey", fn := fun _ => fun
  | [d] => { results := [.lit (.bool true)], args := [d] }
  | _ => none }
def fnExactReadKeyRow : OpenClaim := { program := "ytcicpbneiofgbaa", sum := "93424d74a353442d388b0b91b952bf928c97d878360b9bdd2f94204b645c5e4f", func := "loop.example/g00769/laws.FnExactReadKey", spec := "fnExactReadKey", recurses := true, apart := false }
def FnExactReadKeySaid : Prop := fnExactReadKeyRow.holds Try.pinned (OpenSpec.ofChange fnExactReadKeySpec)

/-- ITS FALSE NEIGHBOUR: 'it returns false'. Refute it at one input. -/
def fnExactReadKeyWrong : ChangeSpec := { name := "fnExactReadKey", fn := fun _ => fun
  | [d] => { results := [.lit (.bool false)], args := [d] }
  | _ => none }
def FnExactReadKeyWrongFalsely : Prop := fnExactReadKeyRow.holds Try.pinned (OpenSpec.ofChange fnExactReadKeyWrong)

/-- 'laws.FnExactAtom': WHATEVER THE INPUT: true; the input reads as it did. -/
def fnExactAtomSpec : ChangeSpec := { name := "fnExactAtom", fn := fun _ => fun
  | [d] => { results := [.lit (.bool true)], args := [d] }
  | _ => none }
def fnExactAtomRow : OpenClaim := { program := "ytcicpbneiofgbaa", sum := "93424d74a353442d388b0b91b952bf928c97d878360b9bdd2f94204b645c5e4f", func := "loop.example/g00769/laws.FnExactAtom", spec := "fnExactAtom", recurses := true, apart := false }
def FnExactAtomSaid : Prop := fnExactAtomRow.holds Try.pinned (OpenSpec.ofChange fnExactAtomSpec)

/-- ITS FALSE NEIGHBOUR: 'it returns false'. Refute it at one input. -/
def fnExactAtomWrong : ChangeSpec := { name := "fnExactAtom", fn := fun _ => fun
  | [d] => { results := [.lit (.bool false)], args := [d] }
  | _ => none }
def FnExactAtomWrongFalsely : Prop := fnExactAtomRow.holds Try.pinned (OpenSpec.ofChange fnExactAtomWrong)

/-- 'laws.FnExactSeal': WHATEVER THE INPUT: true; the input reads as it did. -/
def fnExactSealSpec : ChangeSpec := { name := "fnExactSeal", fn := fun _ => fun
  | [d1, d2] => { results := [.lit (.bool true)], args := [d1, d2] }
  | _ => none }
def fnExactSealRow : OpenClaim := { program := "ytcicpbneiofgbaa", sum := "93424d74a353442d388b0b91b952bf928c97d878360b9bdd2f94204b645c5e4f", func := "loop.example/g00769/laws.FnExactSeal", spec := "fnExactSeal", recurses := true, apart := false }
def FnExactSealSaid : Prop := fnExactSealRow.holds Try.pinned (OpenSpec.ofChange fnExactSealSpec)

/-- ITS FALSE NEIGHBOUR: 'it returns false'. Refute it at one input. -/
def fnExactSealWrong : ChangeSpec := { name := "fnExactSeal", fn := fun _ => fun
  | [d1, d2] => { results := [.lit (.bool false)], args := [d1, d2] }
  | _ => none }
def FnExactSealWrongFalsely : Prop := fnExactSealRow.holds Try.pinned (OpenSpec.ofChange fnExactSealWrong)

/-- 'laws.FnExactOpen': WHATEVER THE INPUT: true; the input reads as it did. -/
def fnExactOpenSpec : ChangeSpec := { name := "fnExactOpen", fn := fun _ => fun
  | [d1, d2] => { results := [.lit (.bool true)], args := [d1, d2] }
  | _ => none }
def fnExactOpenRow : OpenClaim := { program := "ytcicpbneiofgbaa", sum := "93424d74a353442d388b0b91b952bf928c97d878360b9bdd2f94204b645c5e4f", func := "loop.example/g00769/laws.FnExactOpen", spec := "fnExactOpen", recurses := true, apart := false }
def FnExactOpenSaid : Prop := fnExactOpenRow.holds Try.pinned (OpenSpec.ofChange fnExactOpenSpec)

/-- ITS FALSE NEIGHBOUR: 'it returns false'. Refute it at one input. -/
def fnExactOpenWrong : ChangeSpec := { name := "fnExactOpen", fn := fun _ => fun
  | [d1, d2] => { results := [.lit (.bool false)], args := [d1, d2] }
  | _ => none }
def FnExactOpenWrongFalsely : Prop := fnExactOpenRow.holds Try.pinned (OpenSpec.ofChange fnExactOpenWrong)

/-- 'laws.FnExactReadNum': WHATEVER THE INPUT: true; the input reads as it did. -/
def fnExactReadNumSpec : ChangeSpec := { name := "fnExactReadNum", fn := fun _ => fun
  | [d] => { results := [.lit (.bool true)], args := [d] }
  | _ => none }
def fnExactReadNumRow : OpenClaim := { program := "ytcicpbneiofgbaa", sum := "93424d74a353442d388b0b91b952bf928c97d878360b9bdd2f94204b645c5e4f", func := "loop.example/g00769/laws.FnExactReadNum", spec := "fnExactReadNum", recurses := true, apart := false }
def FnExactReadNumSaid : Prop := fnExactReadNumRow.holds Try.pinned (OpenSpec.ofChange fnExactReadNumSpec)

/-- ITS FALSE NEIGHBOUR: 'it returns false'. Refute it at one input. -/
def fnExactReadNumWrong : ChangeSpec := { name := "fnExactReadNum", fn := fun _ => fun
  | [d] => { results := [.lit (.bool false)], args := [d] }
  | _ => none }
def FnExactReadNumWrongFalsely : Prop := fnExactReadNumRow.holds Try.pinned (OpenSpec.ofChange fnExactReadNumWrong)

/-- 'laws.FnExactNum': WHATEVER THE INPUT: true; the input reads as it did. -/
def fnExactNumSpec : ChangeSpec := { name := "fnExactNum", fn := fun _ => fun
  | [d] => { results := [.lit (.bool true)], args := [d] }
  | _ => none }
def fnExactNumRow : OpenClaim := { program := "ytcicpbneiofgbaa", sum := "93424d74a353442d388b0b91b952bf928c97d878360b9bdd2f94204b645c5e4f", func := "loop.example/g00769/laws.FnExactNum", spec := "fnExactNum", recurses := true, apart := false }
def FnExactNumSaid : Prop := fnExactNumRow.holds Try.pinned (OpenSpec.ofChange fnExactNumSpec)

/-- ITS FALSE NEIGHBOUR: 'it returns false'. Refute it at one input. -/
def fnExactNumWrong : ChangeSpec := { name := "fnExactNum", fn := fun _ => fun
  | [d] => { results := [.lit (.bool false)], args := [d] }
  | _ => none }
def FnExactNumWrongFalsely : Prop := fnExactNumRow.holds Try.pinned (OpenSpec.ofChange fnExactNumWrong)

/-- 'laws.FnExactCredOk': WHATEVER THE INPUT: true; the input reads as it did. -/
def fnExactCredOkSpec : ChangeSpec := { name := "fnExactCredOk", fn := fun _ => fun
  | [d] => { results := [.lit (.bool true)], args := [d] }
  | _ => none }
def fnExactCredOkRow : OpenClaim := { program := "ytcicpbneiofgbaa", sum := "93424d74a353442d388b0b91b952bf928c97d878360b9bdd2f94204b645c5e4f", func := "loop.example/g00769/laws.FnExactCredOk", spec := "fnExactCredOk", recurses := true, apart := false }
def FnExactCredOkSaid : Prop := fnExactCredOkRow.holds Try.pinned (OpenSpec.ofChange fnExactCredOkSpec)

/-- ITS FALSE NEIGHBOUR: 'it returns false'. Refute it at one input. -/
def fnExactCredOkWrong : ChangeSpec := { name := "fnExactCredOk", fn := fun _ => fun
  | [d] => { results := [.lit (.bool false)], args := [d] }
  | _ => none }
def FnExactCredOkWrongFalsely : Prop := fnExactCredOkRow.holds Try.pinned (OpenSpec.ofChange fnExactCredOkWrong)

/-- 'laws.FnExactList': WHATEVER THE INPUT: true; the input reads as it did. -/
def fnExactListSpec : ChangeSpec := { name := "fnExactList", fn := fun _ => fun
  | [d] => { results := [.lit (.bool true)], args := [d] }
  | _ => none }
def fnExactListRow : OpenClaim := { program := "ytcicpbneiofgbaa", sum := "93424d74a353442d388b0b91b952bf928c97d878360b9bdd2f94204b645c5e4f", func := "loop.example/g00769/laws.FnExactList", spec := "fnExactList", recurses := true, apart := false }
def FnExactListSaid : Prop := fnExactListRow.holds Try.pinned (OpenSpec.ofChange fnExactListSpec)

/-- ITS FALSE NEIGHBOUR: 'it returns false'. Refute it at one input. -/
def fnExactListWrong : ChangeSpec := { name := "fnExactList", fn := fun _ => fun
  | [d] => { results := [.lit (.bool false)], args := [d] }
  | _ => none }
def FnExactListWrongFalsely : Prop := fnExactListRow.holds Try.pinned (OpenSpec.ofChange fnExactListWrong)

/-- 'laws.FnExactParts': WHATEVER THE INPUT: true; the input reads as it did. -/
def fnExactPartsSpec : ChangeSpec := { name := "fnExactParts", fn := fun _ => fun
  | [d] => { results := [.lit (.bool true)], args := [d] }
  | _ => none }
def fnExactPartsRow : OpenClaim := { program := "ytcicpbneiofgbaa", sum := "93424d74a353442d388b0b91b952bf928c97d878360b9bdd2f94204b645c5e4f", func := "loop.example/g00769/laws.FnExactParts", spec := "fnExactParts", recurses := true, apart := false }
def FnExactPartsSaid : Prop := fnExactPartsRow.holds Try.pinned (OpenSpec.ofChange fnExactPartsSpec)

/-- ITS FALSE NEIGHBOUR: 'it returns false'. Refute it at one input. -/
def fnExactPartsWrong : ChangeSpec := { name := "fnExactParts", fn := fun _ => fun
  | [d] => { results := [.lit (.bool false)], args := [d] }
  | _ => none }
def FnExactPartsWrongFalsely : Prop := fnExactPartsRow.holds Try.pinned (OpenSpec.ofChange fnExactPartsWrong)

/-- 'laws.FnExactCacheTry': WHATEVER THE INPUT: true; the input reads as it did. -/
def fnExactCacheTrySpec : ChangeSpec := { name := "fnExactCacheTry", fn := fun _ => fun
  | [d1, d2, d3, d4] => { results := [.lit (.bool true)], args := [d1, d2, d3, d4] }
  | _ => none }
def fnExactCacheTryRow : OpenClaim := { program := "ytcicpbneiofgbaa", sum := "93424d74a353442d388b0b91b952bf928c97d878360b9bdd2f94204b645c5e4f", func := "loop.example/g00769/laws.FnExactCacheTry", spec := "fnExactCacheTry", apart := false }
def FnExactCacheTrySaid : Prop := fnExactCacheTryRow.holds Try.pinned (OpenSpec.ofChange fnExactCacheTrySpec)

/-- ITS FALSE NEIGHBOUR: 'it returns false'. Refute it at one input. -/
def fnExactCacheTryWrong : ChangeSpec := { name := "fnExactCacheTry", fn := fun _ => fun
  | [d1, d2, d3, d4] => { results := [.lit (.bool false)], args := [d1, d2, d3, d4] }
  | _ => none }
def FnExactCacheTryWrongFalsely : Prop := fnExactCacheTryRow.holds Try.pinned (OpenSpec.ofChange fnExactCacheTryWrong)

/-- 'laws.FnNumbers': WHATEVER THE INPUT: true; the input reads as it did. -/
def fnNumbersSpec : ChangeSpec := { name := "fnNumbers", fn := fun _ => fun
  | [d] => { results := [.lit (.bool true)], args := [d] }
  | _ => none }
def fnNumbersRow : OpenClaim := { program := "ytcicpbneiofgbaa", sum := "93424d74a353442d388b0b91b952bf928c97d878360b9bdd2f94204b645c5e4f", func := "loop.example/g00769/laws.FnNumbers", spec := "fnNumbers", apart := false }
def FnNumbersSaid : Prop := fnNumbersRow.holds Try.pinned (OpenSpec.ofChange fnNumbersSpec)

/-- ITS FALSE NEIGHBOUR: 'it returns false'. Refute it at one input. -/
def fnNumbersWrong : ChangeSpec := { name := "fnNumbers", fn := fun _ => fun
  | [d] => { results := [.lit (.bool false)], args := [d] }
  | _ => none }
def FnNumbersWrongFalsely : Prop := fnNumbersRow.holds Try.pinned (OpenSpec.ofChange fnNumbersWrong)

/- THE SECOND FORM. 'bulk': how many values and letters a reading holds, each counted each time it is reached (what is shared counts as often as it is met; a slice's spare places count too). A statement '..UptoSaid' is the law's where the arguments, and the package variables that the reading takes, are together of bulk at most 1048576: NARROWER than '..Said'. Prove '..Said' where nothing that the law and all that it calls make is longer than what came in: it says more and counts as full. Else prove '..UptoSaid'. A law counts once. -/
mutual
def uptoBulk {H : Type} : DataW H → Nat
  | .lit (.string bytes) => bytes.length + 1
  | .lit _ => 1
  | .nil => 1
  | .ptr d => uptoBulk d + 1
  | .slice elems spare => uptoBulkAll elems + uptoBulkAll spare + 1
  | .agg parts => uptoBulkAll parts + 1
  | .iface _ d => uptoBulk d + 1
  | .map entries => uptoBulkEntries entries + 1
  | .held _ => 1
def uptoBulkAll {H : Type} : List (DataW H) → Nat
  | [] => 0
  | d :: r => uptoBulk d + uptoBulkAll r
def uptoBulkEntries {H : Type} : List (Lit × DataW H) → Nat
  | [] => 0
  | x :: r => uptoBulkEntry x + uptoBulkEntries r
def uptoBulkEntry {H : Type} : Lit × DataW H → Nat
  | (.string bytes, d) => bytes.length + uptoBulk d + 1
  | (_, d) => uptoBulk d + 1
 end
def uptoSmall : (H : Type) → List (DataW H) → Bool := fun _ ds => decide (uptoBulkAll ds ≤ 1048576)
def OpenSpec.upto (s : _root_.Go.ChangeSpec) : _root_.Go.OpenSpec := { _root_.Go.OpenSpec.ofChange s with cond := some uptoSmall }

/-- 'laws.FnExactReadAtom', WHERE WHAT IT READS IS OF BULK AT MOST 1048576: true; the input reads as it did. -/
def fnExactReadAtomUptoRow : OpenClaim := { program := "ytcicpbneiofgbaa", sum := "93424d74a353442d388b0b91b952bf928c97d878360b9bdd2f94204b645c5e4f", func := "loop.example/g00769/laws.FnExactReadAtom", spec := "fnExactReadAtom", recurses := true, apart := false, narrowed := true }
def FnExactReadAtomUptoSaid : Prop := fnExactReadAtomUptoRow.holds Try.pinned (OpenSpec.upto fnExactReadAtomSpec)

/-- 'laws.FnExactReadKey', WHERE WHAT IT READS IS OF BULK AT MOST 1048576: true; the input reads as it did. -/
def fnExactReadKeyUptoRow : OpenClaim := { program := "ytcicpbneiofgbaa", sum := "93424d74a353442d388b0b91b952bf928c97d878360b9bdd2f94204b645c5e4f", func := "loop.example/g00769/laws.FnExactReadKey", spec := "fnExactReadKey", recurses := true, apart := false, narrowed := true }
def FnExactReadKeyUptoSaid : Prop := fnExactReadKeyUptoRow.holds Try.pinned (OpenSpec.upto fnExactReadKeySpec)

/-- 'laws.FnExactAtom', WHERE WHAT IT READS IS OF BULK AT MOST 1048576: true; the input reads as it did. -/
def fnExactAtomUptoRow : OpenClaim := { program := "ytcicpbneiofgbaa", sum := "93424d74a353442d388b0b91b952bf928c97d878360b9bdd2f94204b645c5e4f", func := "loop.example/g00769/laws.FnExactAtom", spec := "fnExactAtom", recurses := true, apart := false, narrowed := true }
def FnExactAtomUptoSaid : Prop := fnExactAtomUptoRow.holds Try.pinned (OpenSpec.upto fnExactAtomSpec)

/-- 'laws.FnExactSeal', WHERE WHAT IT READS IS OF BULK AT MOST 1048576: true; the input reads as it did. -/
def fnExactSealUptoRow : OpenClaim := { program := "ytcicpbneiofgbaa", sum := "93424d74a353442d388b0b91b952bf928c97d878360b9bdd2f94204b645c5e4f", func := "loop.example/g00769/laws.FnExactSeal", spec := "fnExactSeal", recurses := true, apart := false, narrowed := true }
def FnExactSealUptoSaid : Prop := fnExactSealUptoRow.holds Try.pinned (OpenSpec.upto fnExactSealSpec)

/-- 'laws.FnExactOpen', WHERE WHAT IT READS IS OF BULK AT MOST 1048576: true; the input reads as it did. -/
def fnExactOpenUptoRow : OpenClaim := { program := "ytcicpbneiofgbaa", sum := "93424d74a353442d388b0b91b952bf928c97d878360b9bdd2f94204b645c5e4f", func := "loop.example/g00769/laws.FnExactOpen", spec := "fnExactOpen", recurses := true, apart := false, narrowed := true }
def FnExactOpenUptoSaid : Prop := fnExactOpenUptoRow.holds Try.pinned (OpenSpec.upto fnExactOpenSpec)

/-- 'laws.FnExactReadNum', WHERE WHAT IT READS IS OF BULK AT MOST 1048576: true; the input reads as it did. -/
def fnExactReadNumUptoRow : OpenClaim := { program := "ytcicpbneiofgbaa", sum := "93424d74a353442d388b0b91b952bf928c97d878360b9bdd2f94204b645c5e4f", func := "loop.example/g00769/laws.FnExactReadNum", spec := "fnExactReadNum", recurses := true, apart := false, narrowed := true }
def FnExactReadNumUptoSaid : Prop := fnExactReadNumUptoRow.holds Try.pinned (OpenSpec.upto fnExactReadNumSpec)

/-- 'laws.FnExactNum', WHERE WHAT IT READS IS OF BULK AT MOST 1048576: true; the input reads as it did. -/
def fnExactNumUptoRow : OpenClaim := { program := "ytcicpbneiofgbaa", sum := "93424d74a353442d388b0b91b952bf928c97d878360b9bdd2f94204b645c5e4f", func := "loop.example/g00769/laws.FnExactNum", spec := "fnExactNum", recurses := true, apart := false, narrowed := true }
def FnExactNumUptoSaid : Prop := fnExactNumUptoRow.holds Try.pinned (OpenSpec.upto fnExactNumSpec)

/-- 'laws.FnExactCredOk', WHERE WHAT IT READS IS OF BULK AT MOST 1048576: true; the input reads as it did. -/
def fnExactCredOkUptoRow : OpenClaim := { program := "ytcicpbneiofgbaa", sum := "93424d74a353442d388b0b91b952bf928c97d878360b9bdd2f94204b645c5e4f", func := "loop.example/g00769/laws.FnExactCredOk", spec := "fnExactCredOk", recurses := true, apart := false, narrowed := true }
def FnExactCredOkUptoSaid : Prop := fnExactCredOkUptoRow.holds Try.pinned (OpenSpec.upto fnExactCredOkSpec)

/-- 'laws.FnExactList', WHERE WHAT IT READS IS OF BULK AT MOST 1048576: true; the input reads as it did. -/
def fnExactListUptoRow : OpenClaim := { program := "ytcicpbneiofgbaa", sum := "93424d74a353442d388b0b91b952bf928c97d878360b9bdd2f94204b645c5e4f", func := "loop.example/g00769/laws.FnExactList", spec := "fnExactList", recurses := true, apart := false, narrowed := true }
def FnExactListUptoSaid : Prop := fnExactListUptoRow.holds Try.pinned (OpenSpec.upto fnExactListSpec)

/-- 'laws.FnExactParts', WHERE WHAT IT READS IS OF BULK AT MOST 1048576: true; the input reads as it did. -/
def fnExactPartsUptoRow : OpenClaim := { program := "ytcicpbneiofgbaa", sum := "93424d74a353442d388b0b91b952bf928c97d878360b9bdd2f94204b645c5e4f", func := "loop.example/g00769/laws.FnExactParts", spec := "fnExactParts", recurses := true, apart := false, narrowed := true }
def FnExactPartsUptoSaid : Prop := fnExactPartsUptoRow.holds Try.pinned (OpenSpec.upto fnExactPartsSpec)

/-- 'laws.FnExactCacheTry', WHERE WHAT IT READS IS OF BULK AT MOST 1048576: true; the input reads as it did. -/
def fnExactCacheTryUptoRow : OpenClaim := { program := "ytcicpbneiofgbaa", sum := "93424d74a353442d388b0b91b952bf928c97d878360b9bdd2f94204b645c5e4f", func := "loop.example/g00769/laws.FnExactCacheTry", spec := "fnExactCacheTry", apart := false, narrowed := true }
def FnExactCacheTryUptoSaid : Prop := fnExactCacheTryUptoRow.holds Try.pinned (OpenSpec.upto fnExactCacheTrySpec)

/-- 'laws.FnNumbers', WHERE WHAT IT READS IS OF BULK AT MOST 1048576: true; the input reads as it did. -/
def fnNumbersUptoRow : OpenClaim := { program := "ytcicpbneiofgbaa", sum := "93424d74a353442d388b0b91b952bf928c97d878360b9bdd2f94204b645c5e4f", func := "loop.example/g00769/laws.FnNumbers", spec := "fnNumbers", apart := false, narrowed := true }
def FnNumbersUptoSaid : Prop := fnNumbersUptoRow.holds Try.pinned (OpenSpec.upto fnNumbersSpec)

end Rows
end Go.Proofs.Ytcicpbneiofgbaa
