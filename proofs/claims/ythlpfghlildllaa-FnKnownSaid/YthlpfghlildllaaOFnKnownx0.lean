-- walks of this claim, written by a program of mine
import Derived.Test.YthlpfghlildllaaProg
import Derived.Below
import Derived.Deep.Draws
import Derived.Deep.AppendLies
import Derived.Maps.AppendAt
import Derived.OwnWalk
import Derived.Laws.BytesArg
import Derived.Laws.MakeOwn
import Derived.Laws.OwnMore
import Derived.Deep.OwnRows
import Derived.Tactics
import Derived.Lib.ConvBytes
import Derived.Laws.Slices
import Derived.WalkKit
import Derived.KernelRfl
import Derived.RowKit3
import Derived.Deep.LoopGhost
import Derived.Deep.QuietTactic
import Derived.BigQuiet
import Derived.WideLaws
import Derived.Deep.DeepCutAuto
import Derived.Deep.CutBlock
import Derived.Deep.RegionHeld3
import Derived.Laws.Rows
import Derived.Lib.AppendStr
import Derived.ArgAppend
import Derived.Laws.IdiomCopy
import Derived.OrdersHeld
import Derived.Laws.BitsLemmas
import Derived.RowKit
import Derived.Test.YthlpfghlildllaaVWords
import Derived.Test.YthlpfghlildllaaVLast
import Derived.Test.YthlpfghlildllaaVTab
import Derived.Test.YthlpfghlildllaaVFour
import Derived.Test.YthlpfghlildllaaVQPut
import Derived.Test.YthlpfghlildllaaVApart
import Derived.Test.YthlpfghlildllaaVArr
import Derived.Test.YthlpfghlildllaaVZeros
import Derived.Test.YthlpfghlildllaaVFoot
import Derived.Test.YthlpfghlildllaaVKept
import Derived.Test.YthlpfghlildllaaVShare
import Derived.Test.YthlpfghlildllaaVN
import Derived.Test.YthlpfghlildllaaVFootNe
import Derived.Test.YthlpfghlildllaaVAt
import Derived.Test.YthlpfghlildllaaVEqStruct
import Derived.Test.YthlpfghlildllaaVRepsOne
import Derived.Test.YthlpfghlildllaaVInv
import Derived.Test.YthlpfghlildllaaVInvWords
import Derived.Test.YthlpfghlildllaaVGuard
import Derived.Test.YthlpfghlildllaaVNEv
import Derived.Test.YthlpfghlildllaaVMore
import Derived.Test.YthlpfghlildllaaOWord
import Derived.Test.YthlpfghlildllaaOSort
import Derived.Maps.OwnOps
import Derived.Maps.OwnSet
import Derived.Maps.RangeWalk
namespace Go.Proofs.Ythlpfghlildllaa.OFnKnown
open Go.RowKit Go.Proofs.Ythlpfghlildllaa.OWord Go.Proofs.YthlpfghlildllaaW.PrintWords Go.Proofs.YthlpfghlildllaaW.PrintLast Go.Proofs.YthlpfghlildllaaW.PrintMore
attribute [local go_sem] max2_int min2_int max_two min_two max_three min_three max_four min_four   -- for this text's walks alone
set_option linter.unusedVariables false
set_option linter.unusedSimpArgs false



def errW : Option Int → Value
 | none => .nilIface
 | some c => .iface 0 (.int .i64 c)
theorem errW_none : errW none = .nilIface := rfl
theorem errW_some (c : Int) : errW (some c) = .iface 0 (.int .i64 c) := rfl

theorem info3 : (Try.prog.info? 3).map (fun i => (i.zero, i.size, i.bytes)) = some (some (.int .i64 0), 1, 8) := by kernel_rfl
theorem info5 : (Try.prog.info? 5).map (fun i => (i.zero, i.size, i.bytes)) = some (some (.int .u8 0), 1, 1) := by kernel_rfl
theorem info9 : (Try.prog.info? 9).map (fun i => (i.zero, i.size, i.bytes)) = some (some (.string ⟨#[]⟩), 1, 16) := by kernel_rfl
-- the values' own types

end Go.Proofs.Ythlpfghlildllaa.OFnKnown
-- wrapped
-- halved
-- squeezed
-- squeezed2
-- squeezed3
