/- Plain facts on drawn numbers, without any program; for all inputs. -/
import Derived.Test.YtaldemgfndmmlaaBase
namespace Go.Proofs.Ytaldemgfndmmlaa.Base
open Go.RowKit Go.Proofs.YtaldemgfndmmlaaW.PrintWords Go.Proofs.YtaldemgfndmmlaaW.PrintLast Go.Proofs.YtaldemgfndmmlaaW.PrintMore
theorem band255 (x : Int) : 0 ≤ Go.bits .and .i64 x 255 ∧ Go.bits .and .i64 x 255 ≤ 255 := by
  unfold Go.bits
  simp only []
  have h : (BitVec.ofInt IntKind.i64.bits x &&& BitVec.ofInt IntKind.i64.bits 255).toNat ≤ 255 := by
    rw [BitVec.toNat_and]
    have e : (BitVec.ofInt IntKind.i64.bits 255).toNat = 255 := by decide
    rw [e]
    exact Nat.and_le_right
  rw [wraps_i64 _ (by omega) (by omega)]
  omega
end Go.Proofs.Ytaldemgfndmmlaa.Base
