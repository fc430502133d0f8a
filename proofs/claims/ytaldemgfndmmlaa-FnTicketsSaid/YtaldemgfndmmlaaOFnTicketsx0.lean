-- walks of this claim, written by a program of mine
import Derived.Test.YtaldemgfndmmlaaProg
import Derived.Below
import Derived.Deep.Draws
import Derived.Deep.AppendLies
import Derived.Maps.AppendAt
import Derived.OwnWalk
import Derived.Laws.BytesArg
import Derived.Laws.MakeOwn
import Derived.Laws.OwnMore
import Derived.Deep.OwnRows
import Derived.Tactics
import Derived.Lib.ConvBytes
import Derived.Laws.Slices
import Derived.WalkKit
import Derived.KernelRfl
import Derived.RowKit3
import Derived.Deep.LoopGhost
import Derived.Deep.QuietTactic
import Derived.BigQuiet
import Derived.WideLaws
import Derived.Deep.DeepCutAuto
import Derived.Deep.CutBlock
import Derived.Deep.RegionHeld3
import Derived.Laws.Rows
import Derived.Lib.AppendStr
import Derived.ArgAppend
import Derived.Laws.IdiomCopy
import Derived.OrdersHeld
import Derived.Laws.BitsLemmas
import Derived.RowKit
import Derived.Test.YtaldemgfndmmlaaVWords
import Derived.Test.YtaldemgfndmmlaaVLast
import Derived.Test.YtaldemgfndmmlaaVTab
import Derived.Test.YtaldemgfndmmlaaVFour
import Derived.Test.YtaldemgfndmmlaaVQPut
import Derived.Test.YtaldemgfndmmlaaVApart
import Derived.Test.YtaldemgfndmmlaaVArr
import Derived.Test.YtaldemgfndmmlaaVZeros
import Derived.Test.YtaldemgfndmmlaaVFoot
import Derived.Test.YtaldemgfndmmlaaVKept
import Derived.Test.YtaldemgfndmmlaaVShare
import Derived.Test.YtaldemgfndmmlaaVN
import Derived.Test.YtaldemgfndmmlaaVFootNe
import Derived.Test.YtaldemgfndmmlaaVAt
import Derived.Test.YtaldemgfndmmlaaVEqStruct
import Derived.Test.YtaldemgfndmmlaaVRepsOne
import Derived.Test.YtaldemgfndmmlaaVInv
import Derived.Test.YtaldemgfndmmlaaVInvWords
import Derived.Test.YtaldemgfndmmlaaVGuard
import Derived.Test.YtaldemgfndmmlaaVNEv
import Derived.Test.YtaldemgfndmmlaaVMore
import Derived.Test.YtaldemgfndmmlaaOWord
namespace Go.Proofs.Ytaldemgfndmmlaa.OFnTickets
open Go.RowKit Go.Proofs.Ytaldemgfndmmlaa.OWord Go.Proofs.YtaldemgfndmmlaaW.PrintWords Go.Proofs.YtaldemgfndmmlaaW.PrintLast Go.Proofs.YtaldemgfndmmlaaW.PrintMore
attribute [local go_sem] max2_int min2_int max_two min_two max_three min_three max_four min_four   -- for this text's walks alone
set_option linter.unusedVariables false
set_option linter.unusedSimpArgs false



def errW : Option Int → Value
 | none => .nilIface
 | some c => .iface 0 (.int .i64 c)
theorem errW_none : errW none = .nilIface := rfl
theorem errW_some (c : Int) : errW (some c) = .iface 0 (.int .i64 c) := rfl

theorem info3 : (Try.prog.info? 3).map (fun i => (i.zero, i.size, i.bytes)) = some (some (.int .i64 0), 1, 8) := by kernel_rfl
theorem info5 : (Try.prog.info? 5).map (fun i => (i.zero, i.size, i.bytes)) = some (some (.int .u8 0), 1, 1) := by kernel_rfl
theorem info9 : (Try.prog.info? 9).map (fun i => (i.zero, i.size, i.bytes)) = some (some (.string ⟨#[]⟩), 1, 16) := by kernel_rfl
-- the values' own types

end Go.Proofs.Ytaldemgfndmmlaa.OFnTickets
-- wrapped
-- halved
-- squeezed
-- squeezed2
-- squeezed3
