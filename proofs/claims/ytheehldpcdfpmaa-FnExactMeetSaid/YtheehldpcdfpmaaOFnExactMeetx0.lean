-- walks of this claim, written by a program of mine
import Derived.Test.YtheehldpcdfpmaaProg
import Derived.Below
import Derived.Deep.Draws
import Derived.Deep.AppendLies
import Derived.Maps.AppendAt
import Derived.OwnWalk
import Derived.Laws.BytesArg
import Derived.Laws.MakeOwn
import Derived.Laws.OwnMore
import Derived.Deep.OwnRows
import Derived.Tactics
import Derived.Lib.ConvBytes
import Derived.Laws.Slices
import Derived.WalkKit
import Derived.KernelRfl
import Derived.RowKit3
import Derived.Deep.LoopGhost
import Derived.Deep.QuietTactic
import Derived.BigQuiet
import Derived.WideLaws
import Derived.Deep.DeepCutAuto
import Derived.Deep.CutBlock
import Derived.Deep.RegionHeld3
import Derived.Laws.Rows
import Derived.Lib.AppendStr
import Derived.ArgAppend
import Derived.Laws.IdiomCopy
import Derived.OrdersHeld
import Derived.Laws.BitsLemmas
import Derived.RowKit
import Derived.Test.YtheehldpcdfpmaaWWords
import Derived.Test.YtheehldpcdfpmaaWLast
import Derived.Test.YtheehldpcdfpmaaWTab
import Derived.Test.YtheehldpcdfpmaaWFour
import Derived.Test.YtheehldpcdfpmaaWQPut
import Derived.Test.YtheehldpcdfpmaaWApart
import Derived.Test.YtheehldpcdfpmaaWArr
import Derived.Test.YtheehldpcdfpmaaWZeros
import Derived.Test.YtheehldpcdfpmaaWFoot
import Derived.Test.YtheehldpcdfpmaaWKept
import Derived.Test.YtheehldpcdfpmaaWShare
import Derived.Test.YtheehldpcdfpmaaWN
import Derived.Test.YtheehldpcdfpmaaWFootNe
import Derived.Test.YtheehldpcdfpmaaWAt
import Derived.Test.YtheehldpcdfpmaaWEqStruct
import Derived.Test.YtheehldpcdfpmaaWRepsOne
import Derived.Test.YtheehldpcdfpmaaWInv
import Derived.Test.YtheehldpcdfpmaaWInvWords
import Derived.Test.YtheehldpcdfpmaaWGuard
import Derived.Test.YtheehldpcdfpmaaWNEv
import Derived.Test.YtheehldpcdfpmaaWMore
import Derived.Test.YtheehldpcdfpmaaOWord
namespace Go.Proofs.Ytheehldpcdfpmaa.OFnExactMeet
open Go.RowKit Go.Proofs.Ytheehldpcdfpmaa.OWord Go.Proofs.YtheehldpcdfpmaaW.PrintWords Go.Proofs.YtheehldpcdfpmaaW.PrintLast Go.Proofs.YtheehldpcdfpmaaW.PrintMore
attribute [local go_sem] max2_int min2_int max_two min_two max_three min_three max_four min_four   -- for this text's walks alone
set_option linter.unusedVariables false
set_option linter.unusedSimpArgs false



def errW : Option Int → Value
  | none => .nilIface
  | some c => .iface 0 (.int .i64 c)
theorem errW_none : errW none = .nilIface := rfl
theorem errW_some (c : Int) : errW (some c) = .iface 0 (.int .i64 c) := rfl

-- the values' own types

end Go.Proofs.Ytheehldpcdfpmaa.OFnExactMeet
