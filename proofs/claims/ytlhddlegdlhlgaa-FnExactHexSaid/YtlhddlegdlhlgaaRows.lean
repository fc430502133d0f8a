/-
  No cell of these rows narrows 'for every input' (looked for: loops, veiled, ifaces, maps, wideKeys, modest, calm, conditions, laid).
  DERIVED. THE GIVEN ROWS OF THIS SEAT. 12 by the template 'for every input the law returns true; each argument reads behind the call as it read before'; 0 by the template 'total and deterministic' (their statements: YtlhddlegdlhlgaaTotals.lean).
  GIVEN WITH THE SEED: the statements are not yours to turn. If you find one false, say at which input.
  Laid BY PROGRAM, IN A SANDBOX (cutbox-rows.mjs): the forced cells as the released guide's own fill.sh prints them over the translation 69e8e41d285a1101… (all of the seat's roots in one cut). By AI agents, Wed Nov 11 2026. No macro, syntax, notation, axiom, sorry.
-/
import Derived.Test.YtlhddlegdlhlgaaChecked
import GoSem.Claim
import GoSem.ClaimJoined
import GoSem.ClaimMapViews
import Derived.JoinedTies
import Derived.KernelRfl
namespace Go.Proofs.Ytlhddlegdlhlgaa
/- THE CELL 'sum', in the pinned program and in every row, IS THE sha256 OF THE DUMP (.gsa) THAT YtlhddlegdlhlgaaProg.lean LOADS. Nothing in Lean hashes anything: it is a label: what it is worth is what the hold of that sum in a sandbox is worth. -/
noncomputable def Try.pinned : Pinned := { name := "ytlhddlegdlhlgaa", sum := "69e8e41d285a1101cd231fa46d32f1963ecfbf29aa1553c54123de89563f950a", checked := Try.checked }
namespace Rows
def none {H : Type} : Left H := { results := [], args := [] }

/-- 'laws.FnExactConstants': WHATEVER THE INPUT: true; the input reads as it did. -/
def fnExactConstantsSpec : ChangeSpec := { name := "fnExactConstants", fn := fun _ => fun
  | [] => { results := [.lit (.bool true)], args := [] }
  | _ => none }
def fnExactConstantsRow : OpenClaim := { program := "ytlhddlegdlhlgaa", sum := "69e8e41d285a1101cd231fa46d32f1963ecfbf29aa1553c54123de89563f950a", func := "loop.example/g00769/laws.FnExactConstants", spec := "fnExactConstants", apart := false }
def FnExactConstantsSaid : Prop := fnExactConstantsRow.holds Try.pinned (OpenSpec.ofChange fnExactConstantsSpec)

/-- ITS FALSE NEIGHBOUR: 'it returns false'. Refute it at one input. -/
def fnExactConstantsWrong : ChangeSpec := { name := "fnExactConstants", fn := fun _ => fun
  | [] => { results := [.lit (.bool false)], args := [] }
  | _ => none }
def FnExactConstantsWrongFalsely : Prop := fnExactConstantsRow.holds Try.pinned (OpenSpec.ofChange fnExactConstantsWrong)

/-- 'laws.FnExactCentreKey': WHATEVER THE INPUT: true; the input reads as it did. -/
def fnExactCentreKeySpec : ChangeSpec := { name := "fnExactCentreKey", fn := fun _ => fun
  | [d] => { results := [.lit (.bool true)], args := [d] }
  | _ => none }
def fnExactCentreKeyRow : OpenClaim := { program := "ytlhddlegdlhlgaa", sum := "69e8e41d285a1101cd231fa46d32f1963ecfbf29aa1553c54123de89563f950a", func := "loop.example/g00769/laws.FnExactCentreKey", spec := "fnExactCentreKey", apart := false }
def FnExactCentreKeySaid : Prop := fnExactCentreKeyRow.holds Try.pinned (OpenSpec.ofChange fnExactCentreKeySpec)

/-- ITS FALSE NEIGHBOUR: 'it returns false'. Refute it at one input. -/
def fnExactCentreKeyWrong : ChangeSpec := { name := "fnExactCentreKey", fn := fun _ => fun
  | [d] => { results := [.lit (.bool false)], args := [d] }
  | _ => none }
def FnExactCentreKeyWrongFalsely : Prop := fnExactCentreKeyRow.holds Try.pinned (OpenSpec.ofChange fnExactCentreKeyWrong)

/-- 'laws.FnExactLinkKey': WHATEVER THE INPUT: true; the input reads as it did. -/
def fnExactLinkKeySpec : ChangeSpec := { name := "fnExactLinkKey", fn := fun _ => fun
  | [d1, d2] => { results := [.lit (.bool true)], args := [d1, d2] }
  | _ => none }
def fnExactLinkKeyRow : OpenClaim := { program := "ytlhddlegdlhlgaa", sum := "69e8e41d285a1101cd231fa46d32f1963ecfbf29aa1553c54123de89563f950a", func := "loop.example/g00769/laws.FnExactLinkKey", spec := "fnExactLinkKey", apart := false }
def FnExactLinkKeySaid : Prop := fnExactLinkKeyRow.holds Try.pinned (OpenSpec.ofChange fnExactLinkKeySpec)

/-- ITS FALSE NEIGHBOUR: 'it returns false'. Refute it at one input. -/
def fnExactLinkKeyWrong : ChangeSpec := { name := "fnExactLinkKey", fn := fun _ => fun
  | [d1, d2] => { results := [.lit (.bool false)], args := [d1, d2] }
  | _ => none }
def FnExactLinkKeyWrongFalsely : Prop := fnExactLinkKeyRow.holds Try.pinned (OpenSpec.ofChange fnExactLinkKeyWrong)

/-- 'laws.FnExactHex': WHATEVER THE INPUT: true; the input reads as it did. -/
def fnExactHexSpec : ChangeSpec := { name := "fnExactHex", fn := fun _ => fun
  | [d] => { results := [.lit (.bool true)], args := [d] }
  | _ => none }
def fnExactHexRow : OpenClaim := { program := "ytlhddlegdlhlgaa", sum := "69e8e41d285a1101cd231fa46d32f1963ecfbf29aa1553c54123de89563f950a", func := "loop.example/g00769/laws.FnExactHex", spec := "fnExactHex", apart := false }
def FnExactHexSaid : Prop := fnExactHexRow.holds Try.pinned (OpenSpec.ofChange fnExactHexSpec)

/-- ITS FALSE NEIGHBOUR: 'it returns false'. Refute it at one input. -/
def fnExactHexWrong : ChangeSpec := { name := "fnExactHex", fn := fun _ => fun
  | [d] => { results := [.lit (.bool false)], args := [d] }
  | _ => none }
def FnExactHexWrongFalsely : Prop := fnExactHexRow.holds Try.pinned (OpenSpec.ofChange fnExactHexWrong)

/-- 'laws.FnExactRestOk': WHATEVER THE INPUT: true; the input reads as it did. -/
def fnExactRestOkSpec : ChangeSpec := { name := "fnExactRestOk", fn := fun _ => fun
  | [d] => { results := [.lit (.bool true)], args := [d] }
  | _ => none }
def fnExactRestOkRow : OpenClaim := { program := "ytlhddlegdlhlgaa", sum := "69e8e41d285a1101cd231fa46d32f1963ecfbf29aa1553c54123de89563f950a", func := "loop.example/g00769/laws.FnExactRestOk", spec := "fnExactRestOk", apart := false }
def FnExactRestOkSaid : Prop := fnExactRestOkRow.holds Try.pinned (OpenSpec.ofChange fnExactRestOkSpec)

/-- ITS FALSE NEIGHBOUR: 'it returns false'. Refute it at one input. -/
def fnExactRestOkWrong : ChangeSpec := { name := "fnExactRestOk", fn := fun _ => fun
  | [d] => { results := [.lit (.bool false)], args := [d] }
  | _ => none }
def FnExactRestOkWrongFalsely : Prop := fnExactRestOkRow.holds Try.pinned (OpenSpec.ofChange fnExactRestOkWrong)

/-- 'laws.FnExactPrincipalKey': WHATEVER THE INPUT: true; the input reads as it did. -/
def fnExactPrincipalKeySpec : ChangeSpec := { name := "fnExactPrincipalKey", fn := fun _ => fun
  | [d] => { results := [.lit (.bool true)], args := [d] }
  | _ => none }
def fnExactPrincipalKeyRow : OpenClaim := { program := "ytlhddlegdlhlgaa", sum := "69e8e41d285a1101cd231fa46d32f1963ecfbf29aa1553c54123de89563f950a", func := "loop.example/g00769/laws.FnExactPrincipalKey", spec := "fnExactPrincipalKey", apart := false }
def FnExactPrincipalKeySaid : Prop := fnExactPrincipalKeyRow.holds Try.pinned (OpenSpec.ofChange fnExactPrincipalKeySpec)

/-- ITS FALSE NEIGHBOUR: 'it returns false'. Refute it at one input. -/
def fnExactPrincipalKeyWrong : ChangeSpec := { name := "fnExactPrincipalKey", fn := fun _ => fun
  | [d] => { results := [.lit (.bool false)], args := [d] }
  | _ => none }
def FnExactPrincipalKeyWrongFalsely : Prop := fnExactPrincipalKeyRow.holds Try.pinned (OpenSpec.ofChange fnExactPrincipalKeyWrong)

/-- 'laws.FnExactReadFixed': WHATEVER THE INPUT: true; the input reads as it did. -/
def fnExactReadFixedSpec : ChangeSpec := { name := "fnExactReadFixed", fn := fun _ => fun
  | [d1, d2] => { results := [.lit (.bool true)], args := [d1, d2] }
  | _ => none }
def fnExactReadFixedRow : OpenClaim := { program := "ytlhddlegdlhlgaa", sum := "69e8e41d285a1101cd231fa46d32f1963ecfbf29aa1553c54123de89563f950a", func := "loop.example/g00769/laws.FnExactReadFixed", spec := "fnExactReadFixed", apart := false }
def FnExactReadFixedSaid : Prop := fnExactReadFixedRow.holds Try.pinned (OpenSpec.ofChange fnExactReadFixedSpec)

/-- ITS FALSE NEIGHBOUR: 'it returns false'. Refute it at one input. -/
def fnExactReadFixedWrong : ChangeSpec := { name := "fnExactReadFixed", fn := fun _ => fun
  | [d1, d2] => { results := [.lit (.bool false)], args := [d1, d2] }
  | _ => none }
def FnExactReadFixedWrongFalsely : Prop := fnExactReadFixedRow.holds Try.pinned (OpenSpec.ofChange fnExactReadFixedWrong)

/-- 'laws.FnCache': WHATEVER THE INPUT: true; the input reads as it did. -/
def fnCacheSpec : ChangeSpec := { name := "fnCache", fn := fun _ => fun
  | [d] => { results := [.lit (.bool true)], args := [d] }
  | _ => none }
def fnCacheRow : OpenClaim := { program := "ytlhddlegdlhlgaa", sum := "69e8e41d285a1101cd231fa46d32f1963ecfbf29aa1553c54123de89563f950a", func := "loop.example/g00769/laws.FnCache", spec := "fnCache", apart := false }
def FnCacheSaid : Prop := fnCacheRow.holds Try.pinned (OpenSpec.ofChange fnCacheSpec)

/-- ITS FALSE NEIGHBOUR: 'it returns false'. Refute it at one input. -/
def fnCacheWrong : ChangeSpec := { name := "fnCache", fn := fun _ => fun
  | [d] => { results := [.lit (.bool false)], args := [d] }
  | _ => none }
def FnCacheWrongFalsely : Prop := fnCacheRow.holds Try.pinned (OpenSpec.ofChange fnCacheWrong)

/-- 'laws.FnExactEntails': WHATEVER THE INPUT: true; the input reads as it did. -/
def fnExactEntailsSpec : ChangeSpec := { name := "fnExactEntails", fn := fun _ => fun
  | [d1, d2] => { results := [.lit (.bool true)], args := [d1, d2] }
  | _ => none }
def fnExactEntailsRow : OpenClaim := { program := "ytlhddlegdlhlgaa", sum := "69e8e41d285a1101cd231fa46d32f1963ecfbf29aa1553c54123de89563f950a", func := "loop.example/g00769/laws.FnExactEntails", spec := "fnExactEntails", apart := false }
def FnExactEntailsSaid : Prop := fnExactEntailsRow.holds Try.pinned (OpenSpec.ofChange fnExactEntailsSpec)

/-- ITS FALSE NEIGHBOUR: 'it returns false'. Refute it at one input. -/
def fnExactEntailsWrong : ChangeSpec := { name := "fnExactEntails", fn := fun _ => fun
  | [d1, d2] => { results := [.lit (.bool false)], args := [d1, d2] }
  | _ => none }
def FnExactEntailsWrongFalsely : Prop := fnExactEntailsRow.holds Try.pinned (OpenSpec.ofChange fnExactEntailsWrong)

/-- 'laws.FnExactPermits': WHATEVER THE INPUT: true; the input reads as it did. -/
def fnExactPermitsSpec : ChangeSpec := { name := "fnExactPermits", fn := fun _ => fun
  | [d1, d2, d3, d4] => { results := [.lit (.bool true)], args := [d1, d2, d3, d4] }
  | _ => none }
def fnExactPermitsRow : OpenClaim := { program := "ytlhddlegdlhlgaa", sum := "69e8e41d285a1101cd231fa46d32f1963ecfbf29aa1553c54123de89563f950a", func := "loop.example/g00769/laws.FnExactPermits", spec := "fnExactPermits", apart := false }
def FnExactPermitsSaid : Prop := fnExactPermitsRow.holds Try.pinned (OpenSpec.ofChange fnExactPermitsSpec)

/-- ITS FALSE NEIGHBOUR: 'it returns false'. Refute it at one input. -/
def fnExactPermitsWrong : ChangeSpec := { name := "fnExactPermits", fn := fun _ => fun
  | [d1, d2, d3, d4] => { results := [.lit (.bool false)], args := [d1, d2, d3, d4] }
  | _ => none }
def FnExactPermitsWrongFalsely : Prop := fnExactPermitsRow.holds Try.pinned (OpenSpec.ofChange fnExactPermitsWrong)

/-- 'laws.FnExactVar': WHATEVER THE INPUT: true; the input reads as it did. -/
def fnExactVarSpec : ChangeSpec := { name := "fnExactVar", fn := fun _ => fun
  | [d] => { results := [.lit (.bool true)], args := [d] }
  | _ => none }
def fnExactVarRow : OpenClaim := { program := "ytlhddlegdlhlgaa", sum := "69e8e41d285a1101cd231fa46d32f1963ecfbf29aa1553c54123de89563f950a", func := "loop.example/g00769/laws.FnExactVar", spec := "fnExactVar", apart := false }
def FnExactVarSaid : Prop := fnExactVarRow.holds Try.pinned (OpenSpec.ofChange fnExactVarSpec)

/-- ITS FALSE NEIGHBOUR: 'it returns false'. Refute it at one input. -/
def fnExactVarWrong : ChangeSpec := { name := "fnExactVar", fn := fun _ => fun
  | [d] => { results := [.lit (.bool false)], args := [d] }
  | _ => none }
def FnExactVarWrongFalsely : Prop := fnExactVarRow.holds Try.pinned (OpenSpec.ofChange fnExactVarWrong)

/-- 'laws.FnExactFixed': WHATEVER THE INPUT: true; the input reads as it did. -/
def fnExactFixedSpec : ChangeSpec := { name := "fnExactFixed", fn := fun _ => fun
  | [d1, d2] => { results := [.lit (.bool true)], args := [d1, d2] }
  | _ => none }
def fnExactFixedRow : OpenClaim := { program := "ytlhddlegdlhlgaa", sum := "69e8e41d285a1101cd231fa46d32f1963ecfbf29aa1553c54123de89563f950a", func := "loop.example/g00769/laws.FnExactFixed", spec := "fnExactFixed", apart := false }
def FnExactFixedSaid : Prop := fnExactFixedRow.holds Try.pinned (OpenSpec.ofChange fnExactFixedSpec)

/-- ITS FALSE NEIGHBOUR: 'it returns false'. Refute it at one input. -/
def fnExactFixedWrong : ChangeSpec := { name := "fnExactFixed", fn := fun _ => fun
  | [d1, d2] => { results := [.lit (.bool false)], args := [d1, d2] }
  | _ => none }
def FnExactFixedWrongFalsely : Prop := fnExactFixedRow.holds Try.pinned (OpenSpec.ofChange fnExactFixedWrong)

/- THE SECOND FORM. 'bulk': how many values and letters a reading holds, each counted each time it is reached (what is shared counts as often as it is met; a slice's spare places count too). A statement '..UptoSaid' is the law's where the arguments, and the package variables that the reading takes, are together of bulk at most 1048576: NARROWER than '..Said'. Prove '..Said' where nothing that the law and all that it calls make is longer than what came in: it says more and counts as full. Else prove '..UptoSaid'. A law counts once. -/
mutual
def uptoBulk {H : Type} : DataW H → Nat
  | .lit (.string bytes) => bytes.length + 1
  | .lit _ => 1
  | .nil => 1
  | .ptr d => uptoBulk d + 1
  | .slice elems spare => uptoBulkAll elems + uptoBulkAll spare + 1
  | .agg parts => uptoBulkAll parts + 1
  | .iface _ d => uptoBulk d + 1
  | .map entries => uptoBulkEntries entries + 1
  | .held _ => 1
def uptoBulkAll {H : Type} : List (DataW H) → Nat
  | [] => 0
  | d :: r => uptoBulk d + uptoBulkAll r
def uptoBulkEntries {H : Type} : List (Lit × DataW H) → Nat
  | [] => 0
  | x :: r => uptoBulkEntry x + uptoBulkEntries r
def uptoBulkEntry {H : Type} : Lit × DataW H → Nat
  | (.string bytes, d) => bytes.length + uptoBulk d + 1
  | (_, d) => uptoBulk d + 1
 end
def uptoSmall : (H : Type) → List (DataW H) → Bool := fun _ ds => decide (uptoBulkAll ds ≤ 1048576)
def OpenSpec.upto (s : _root_.Go.ChangeSpec) : _root_.Go.OpenSpec := { _root_.Go.OpenSpec.ofChange s with cond := some uptoSmall }

/-- 'laws.FnExactConstants', WHERE WHAT IT READS IS OF BULK AT MOST 1048576: true; the input reads as it did. -/
def fnExactConstantsUptoRow : OpenClaim := { program := "ytlhddlegdlhlgaa", sum := "69e8e41d285a1101cd231fa46d32f1963ecfbf29aa1553c54123de89563f950a", func := "loop.example/g00769/laws.FnExactConstants", spec := "fnExactConstants", apart := false, narrowed := true }
def FnExactConstantsUptoSaid : Prop := fnExactConstantsUptoRow.holds Try.pinned (OpenSpec.upto fnExactConstantsSpec)

/-- 'laws.FnExactCentreKey', WHERE WHAT IT READS IS OF BULK AT MOST 1048576: true; the input reads as it did. -/
def fnExactCentreKeyUptoRow : OpenClaim := { program := "ytlhddlegdlhlgaa", sum := "69e8e41d285a1101cd231fa46d32f1963ecfbf29aa1553c54123de89563f950a", func := "loop.example/g00769/laws.FnExactCentreKey", spec := "fnExactCentreKey", apart := false, narrowed := true }
def FnExactCentreKeyUptoSaid : Prop := fnExactCentreKeyUptoRow.holds Try.pinned (OpenSpec.upto fnExactCentreKeySpec)

/-- 'laws.FnExactLinkKey', WHERE WHAT IT READS IS OF BULK AT MOST 1048576: true; the input reads as it did. -/
def fnExactLinkKeyUptoRow : OpenClaim := { program := "ytlhddlegdlhlgaa", sum := "69e8e41d285a1101cd231fa46d32f1963ecfbf29aa1553c54123de89563f950a", func := "loop.example/g00769/laws.FnExactLinkKey", spec := "fnExactLinkKey", apart := false, narrowed := true }
def FnExactLinkKeyUptoSaid : Prop := fnExactLinkKeyUptoRow.holds Try.pinned (OpenSpec.upto fnExactLinkKeySpec)

/-- 'laws.FnExactHex', WHERE WHAT IT READS IS OF BULK AT MOST 1048576: true; the input reads as it did. -/
def fnExactHexUptoRow : OpenClaim := { program := "ytlhddlegdlhlgaa", sum := "69e8e41d285a1101cd231fa46d32f1963ecfbf29aa1553c54123de89563f950a", func := "loop.example/g00769/laws.FnExactHex", spec := "fnExactHex", apart := false, narrowed := true }
def FnExactHexUptoSaid : Prop := fnExactHexUptoRow.holds Try.pinned (OpenSpec.upto fnExactHexSpec)

/-- 'laws.FnExactRestOk', WHERE WHAT IT READS IS OF BULK AT MOST 1048576: true; the input reads as it did. -/
def fnExactRestOkUptoRow : OpenClaim := { program := "ytlhddlegdlhlgaa", sum := "69e8e41d285a1101cd231fa46d32f1963ecfbf29aa1553c54123de89563f950a", func := "loop.example/g00769/laws.FnExactRestOk", spec := "fnExactRestOk", apart := false, narrowed := true }
def FnExactRestOkUptoSaid : Prop := fnExactRestOkUptoRow.holds Try.pinned (OpenSpec.upto fnExactRestOkSpec)

/-- 'laws.FnExactPrincipalKey', WHERE WHAT IT READS IS OF BULK AT MOST 1048576: true; the input reads as it did. -/
def fnExactPrincipalKeyUptoRow : OpenClaim := { program := "ytlhddlegdlhlgaa", sum := "69e8e41d285a1101cd231fa46d32f1963ecfbf29aa1553c54123de89563f950a", func := "loop.example/g00769/laws.FnExactPrincipalKey", spec := "fnExactPrincipalKey", apart := false, narrowed := true }
def FnExactPrincipalKeyUptoSaid : Prop := fnExactPrincipalKeyUptoRow.holds Try.pinned (OpenSpec.upto fnExactPrincipalKeySpec)

/-- 'laws.FnExactReadFixed', WHERE WHAT IT READS IS OF BULK AT MOST 1048576: true; the input reads as it did. -/
def fnExactReadFixedUptoRow : OpenClaim := { program := "ytlhddlegdlhlgaa", sum := "69e8e41d285a1101cd231fa46d32f1963ecfbf29aa1553c54123de89563f950a", func := "loop.example/g00769/laws.FnExactReadFixed", spec := "fnExactReadFixed", apart := false, narrowed := true }
def FnExactReadFixedUptoSaid : Prop := fnExactReadFixedUptoRow.holds Try.pinned (OpenSpec.upto fnExactReadFixedSpec)

/-- 'laws.FnCache', WHERE WHAT IT READS IS OF BULK AT MOST 1048576: true; the input reads as it did. -/
def fnCacheUptoRow : OpenClaim := { program := "ytlhddlegdlhlgaa", sum := "69e8e41d285a1101cd231fa46d32f1963ecfbf29aa1553c54123de89563f950a", func := "loop.example/g00769/laws.FnCache", spec := "fnCache", apart := false, narrowed := true }
def FnCacheUptoSaid : Prop := fnCacheUptoRow.holds Try.pinned (OpenSpec.upto fnCacheSpec)

/-- 'laws.FnExactEntails', WHERE WHAT IT READS IS OF BULK AT MOST 1048576: true; the input reads as it did. -/
def fnExactEntailsUptoRow : OpenClaim := { program := "ytlhddlegdlhlgaa", sum := "69e8e41d285a1101cd231fa46d32f1963ecfbf29aa1553c54123de89563f950a", func := "loop.example/g00769/laws.FnExactEntails", spec := "fnExactEntails", apart := false, narrowed := true }
def FnExactEntailsUptoSaid : Prop := fnExactEntailsUptoRow.holds Try.pinned (OpenSpec.upto fnExactEntailsSpec)

/-- 'laws.FnExactPermits', WHERE WHAT IT READS IS OF BULK AT MOST 1048576: true; the input reads as it did. -/
def fnExactPermitsUptoRow : OpenClaim := { program := "ytlhddlegdlhlgaa", sum := "69e8e41d285a1101cd231fa46d32f1963ecfbf29aa1553c54123de89563f950a", func := "loop.example/g00769/laws.FnExactPermits", spec := "fnExactPermits", apart := false, narrowed := true }
def FnExactPermitsUptoSaid : Prop := fnExactPermitsUptoRow.holds Try.pinned (OpenSpec.upto fnExactPermitsSpec)

/-- 'laws.FnExactVar', WHERE WHAT IT READS IS OF BULK AT MOST 1048576: true; the input reads as it did. -/
def fnExactVarUptoRow : OpenClaim := { program := "ytlhddlegdlhlgaa", sum := "69e8e41d285a1101cd231fa46d32f1963ecfbf29aa1553c54123de89563f950a", func := "loop.example/g00769/laws.FnExactVar", spec := "fnExactVar", apart := false, narrowed := true }
def FnExactVarUptoSaid : Prop := fnExactVarUptoRow.holds Try.pinned (OpenSpec.upto fnExactVarSpec)

/-- 'laws.FnExactFixed', WHERE WHAT IT READS IS OF BULK AT MOST 1048576: true; the input reads as it did. -/
def fnExactFixedUptoRow : OpenClaim := { program := "ytlhddlegdlhlgaa", sum := "69e8e41d285a1101cd231fa46d32f1963ecfbf29aa1553c54123de89563f950a", func := "loop.example/g00769/laws.FnExactFixed", spec := "fnExactFixed", apart := false, narrowed := true }
def FnExactFixedUptoSaid : Prop := fnExactFixedUptoRow.holds Try.pinned (OpenSpec.upto fnExactFixedSpec)

end Rows
end Go.Proofs.Ytlhddlegdlhlgaa
