/-
  No cell of these rows narrows 'for every input' (looked for: loops, veiled, ifaces, maps, wideKeys, modest, calm, conditions, laid).
  DERIVED. THE GIVEN ROWS OF THIS SEAT. 7 by the template 'for every input the law returns true; each argument reads behind the call as it read before'; 0 by the template 'total and deterministic' (their statements: YtmhjpnjolgigmaaTotals.lean).
  GIVEN WITH THE SEED: the statements are not yours to turn. If you find one false, say at which input.
  Laid BY PROGRAM, IN A SANDBOX (cutbox-rows.mjs): the forced cells as the released guide's own fill.sh prints them over the translation 8a8e47f27a028271… (all of the seat's roots in one cut). By AI agents, Wed Nov 11 2026. No macro, syntax, notation, axiom, sorry.
-/
import Derived.Test.YtmhjpnjolgigmaaChecked
import GoSem.Claim
import GoSem.ClaimJoined
import GoSem.ClaimMapViews
import Derived.JoinedTies
import Derived.KernelRfl
namespace Go.Proofs.Ytmhjpnjolgigmaa
/- THE CELL 'sum', in the pinned program and in every row, IS THE sha256 OF THE DUMP (.gsa) THAT YtmhjpnjolgigmaaProg.lean LOADS. Nothing in Lean hashes anything: it is a label: what it is worth is what the hold of that sum in a sandbox is worth. -/
noncomputable def Try.pinned : Pinned := { name := "ytmhjpnjolgigmaa", sum := "8a8e47f27a028271d71eb3aa53b9062b86640637ae28949860bdbe8b08f20bc2", checked := Try.checked }
namespace Rows
def none {H : Type} : Left H := { results := [], args := [] }

/-- 'laws.FnExactConfigOk': WHATEVER THE INPUT: true; the input reads as it did. -/
def fnExactConfigOkSpec : ChangeSpec := { name := "fnExactConfigOk", fn := fun _ => fun
  | [d] => { results := [.lit (.bool true)], args := [d] }
  | _ => none }
def fnExactConfigOkRow : OpenClaim := { program := "ytmhjpnjolgigmaa", sum := "8a8e47f27a028271d71eb3aa53b9062b86640637ae28949860bdbe8b08f20bc2", func := "loop.example/g00769/laws.FnExactConfigOk", spec := "fnExactConfigOk", unfollowed := true, recurses := true, apart := false }
def FnExactConfigOkSaid : Prop := fnExactConfigOkRow.holds Try.pinned (OpenSpec.ofChange fnExactConfigOkSpec)

/-- ITS FALSE NEIGHBOUR: 'it returns false'. Refute it at one input. -/
def fnExactConfigOkWrong : ChangeSpec := { name := "fnExactConfigOk", fn := fun _ => fun
  | [d] => { results := [.lit (.bool false)], args := [d] }
  | _ => none }
def FnExactConfigOkWrongFalsely : Prop := fnExactConfigOkRow.holds Try.pinned (OpenSpec.ofChange fnExactConfigOkWrong)

/-- 'laws.FnExactRealmOf': WHATEVER THE INPUT: true; the input reads as it did. -/
def fnExactRealmOfSpec : ChangeSpec := { name := "fnExactRealmOf", fn := fun _ => fun
  | [d1, d2] => { results := [.lit (.bool true)], args := [d1, d2] }
  | _ => none }
def fnExactRealmOfRow : OpenClaim := { program := "ytmhjpnjolgigmaa", sum := "8a8e47f27a028271d71eb3aa53b9062b86640637ae28949860bdbe8b08f20bc2", func := "loop.example/g00769/laws.FnExactRealmOf", spec := "fnExactRealmOf", unfollowed := true, recurses := true, apart := false }
def FnExactRealmOfSaid : Prop := fnExactRealmOfRow.holds Try.pinned (OpenSpec.ofChange fnExactRealmOfSpec)

/-- ITS FALSE NEIGHBOUR: 'it returns false'. Refute it at one input. -/
def fnExactRealmOfWrong : ChangeSpec := { name := "fnExactRealmOf", fn := fun _ => fun
  | [d1, d2] => { results := [.lit (.bool false)], args := [d1, d2] }
  | _ => none }
def FnExactRealmOfWrongFalsely : Prop := fnExactRealmOfRow.holds Try.pinned (OpenSpec.ofChange fnExactRealmOfWrong)

/-- 'laws.FnWay': WHATEVER THE INPUT: true; the input reads as it did. -/
def fnWaySpec : ChangeSpec := { name := "fnWay", fn := fun _ => fun
  | [d] => { results := [.lit (.bool true)], args := [d] }
  | _ => none }
def fnWayRow : OpenClaim := { program := "ytmhjpnjolgigmaa", sum := "8a8e47f27a028271d71eb3aa53b9062b86640637ae28949860bdbe8b08f20bc2", func := "loop.example/g00769/laws.FnWay", spec := "fnWay", unfollowed := true, recurses := true, apart := false }
def FnWaySaid : Prop := fnWayRow.holds Try.pinned (OpenSpec.ofChange fnWaySpec)

/-- ITS FALSE NEIGHBOUR: 'it returns false'. Refute it at one input. -/
def fnWayWrong : ChangeSpec := { name := "fnWay", fn := fun _ => fun
  | [d] => { results := [.lit (.bool false)], args := [d] }
  | _ => none }
def FnWayWrongFalsely : Prop := fnWayRow.holds Try.pinned (OpenSpec.ofChange fnWayWrong)

/-- 'laws.FnExactNextHop': WHATEVER THE INPUT: true; the input reads as it did. -/
def fnExactNextHopSpec : ChangeSpec := { name := "fnExactNextHop", fn := fun _ => fun
  | [d1, d2, d3] => { results := [.lit (.bool true)], args := [d1, d2, d3] }
  | _ => none }
def fnExactNextHopRow : OpenClaim := { program := "ytmhjpnjolgigmaa", sum := "8a8e47f27a028271d71eb3aa53b9062b86640637ae28949860bdbe8b08f20bc2", func := "loop.example/g00769/laws.FnExactNextHop", spec := "fnExactNextHop", unfollowed := true, recurses := true, apart := false }
def FnExactNextHopSaid : Prop := fnExactNextHopRow.holds Try.pinned (OpenSpec.ofChange fnExactNextHopSpec)

/-- ITS FALSE NEIGHBOUR: 'it returns false'. Refute it at one input. -/
def fnExactNextHopWrong : ChangeSpec := { name := "fnExactNextHop", fn := fun _ => fun
  | [d1, d2, d3] => { results := [.lit (.bool false)], args := [d1, d2, d3] }
  | _ => none }
def FnExactNextHopWrongFalsely : Prop := fnExactNextHopRow.holds Try.pinned (OpenSpec.ofChange fnExactNextHopWrong)

/-- 'laws.FnExactShowTicket': WHATEVER THE INPUT: true; the input reads as it did. -/
def fnExactShowTicketSpec : ChangeSpec := { name := "fnExactShowTicket", fn := fun _ => fun
  | [d1, d2] => { results := [.lit (.bool true)], args := [d1, d2] }
  | _ => none }
def fnExactShowTicketRow : OpenClaim := { program := "ytmhjpnjolgigmaa", sum := "8a8e47f27a028271d71eb3aa53b9062b86640637ae28949860bdbe8b08f20bc2", func := "loop.example/g00769/laws.FnExactShowTicket", spec := "fnExactShowTicket", unfollowed := true, recurses := true, apart := false }
def FnExactShowTicketSaid : Prop := fnExactShowTicketRow.holds Try.pinned (OpenSpec.ofChange fnExactShowTicketSpec)

/-- ITS FALSE NEIGHBOUR: 'it returns false'. Refute it at one input. -/
def fnExactShowTicketWrong : ChangeSpec := { name := "fnExactShowTicket", fn := fun _ => fun
  | [d1, d2] => { results := [.lit (.bool false)], args := [d1, d2] }
  | _ => none }
def FnExactShowTicketWrongFalsely : Prop := fnExactShowTicketRow.holds Try.pinned (OpenSpec.ofChange fnExactShowTicketWrong)

/-- 'laws.FnExactReadTicket': WHATEVER THE INPUT: true; the input reads as it did. -/
def fnExactReadTicketSpec : ChangeSpec := { name := "fnExactReadTicket", fn := fun _ => fun
  | [d1, d2] => { results := [.lit (.bool true)], args := [d1, d2] }
  | _ => none }
def fnExactReadTicketRow : OpenClaim := { program := "ytmhjpnjolgigmaa", sum := "8a8e47f27a028271d71eb3aa53b9062b86640637ae28949860bdbe8b08f20bc2", func := "loop.example/g00769/laws.FnExactReadTicket", spec := "fnExactReadTicket", unfollowed := true, recurses := true, apart := false }
def FnExactReadTicketSaid : Prop := fnExactReadTicketRow.holds Try.pinned (OpenSpec.ofChange fnExactReadTicketSpec)

/-- ITS FALSE NEIGHBOUR: 'it returns false'. Refute it at one input. -/
def fnExactReadTicketWrong : ChangeSpec := { name := "fnExactReadTicket", fn := fun _ => fun
  | [d1, d2] => { results := [.lit (.bool false)], args := [d1, d2] }
  | _ => none }
def FnExactReadTicketWrongFalsely : Prop := fnExactReadTicketRow.holds Try.pinned (OpenSpec.ofChange fnExactReadTicketWrong)

/-- 'laws.FnTickets': WHATEVER THE INPUT: true; the input reads as it did. -/
def fnTicketsSpec : ChangeSpec := { name := "fnTickets", fn := fun _ => fun
  | [d] => { results := [.lit (.bool true)], args := [d] }
  | _ => none }
def fnTicketsRow : OpenClaim := { program := "ytmhjpnjolgigmaa", sum := "8a8e47f27a028271d71eb3aa53b9062b86640637ae28949860bdbe8b08f20bc2", func := "loop.example/g00769/laws.FnTickets", spec := "fnTickets", unfollowed := true, recurses := true, apart := false }
def FnTicketsSaid : Prop := fnTicketsRow.holds Try.pinned (OpenSpec.ofChange fnTicketsSpec)

/-- ITS FALSE NEIGHBOUR: 'it returns false'. Refute it at one input. -/
def fnTicketsWrong : ChangeSpec := { name := "fnTickets", fn := fun _ => fun
  | [d] => { results := [.lit (.bool false)], args := [d] }
  | _ => none }
def FnTicketsWrongFalsely : Prop := fnTicketsRow.holds Try.pinned (OpenSpec.ofChange fnTicketsWrong)

/- THE SECOND FORM. 'bulk': how many values and letters a reading holds, each counted each time it is reached (what is shared counts as often as it is met; a slice's spare places count too). A statement '..UptoSaid' is the law's where the arguments, and the package variables that the reading takes, are together of bulk at most 1048576: NARROWER than '..Said'. Prove '..Said' where nothing that the law and all that it calls make is longer than what came in: it says more and counts as full. Else prove '..UptoSaid'. A law counts once. -/
mutual
def uptoBulk {H : Type} : DataW H → Nat
  | .lit (.string bytes) => bytes.length + 1
  | .lit _ => 1
  | .nil => 1
  | .ptr d => uptoBulk d + 1
  | .slice elems spare => uptoBulkAll elems + uptoBulkAll spare + 1
  | .agg parts => uptoBulkAll parts + 1
  | .iface _ d => uptoBulk d + 1
  | .map entries => uptoBulkEntries entries + 1
  | .held _ => 1
def uptoBulkAll {H : Type} : List (DataW H) → Nat
  | [] => 0
  | d :: r => uptoBulk d + uptoBulkAll r
def uptoBulkEntries {H : Type} : List (Lit × DataW H) → Nat
  | [] => 0
  | x :: r => uptoBulkEntry x + uptoBulkEntries r
def uptoBulkEntry {H : Type} : Lit × DataW H → Nat
  | (.string bytes, d) => bytes.length + uptoBulk d + 1
  | (_, d) => uptoBulk d + 1
 end
def uptoSmall : (H : Type) → List (DataW H) → Bool := fun _ ds => decide (uptoBulkAll ds ≤ 1048576)
def OpenSpec.upto (s : _root_.Go.ChangeSpec) : _root_.Go.OpenSpec := { _root_.Go.OpenSpec.ofChange s with cond := some uptoSmall }

/-- 'laws.FnExactConfigOk', WHERE WHAT IT READS IS OF BULK AT MOST 1048576: true; the input reads as it did. -/
def fnExactConfigOkUptoRow : OpenClaim := { program := "ytmhjpnjolgigmaa", sum := "8a8e47f27a028271d71eb3aa53b9062b86640637ae28949860bdbe8b08f20bc2", func := "loop.example/g00769/laws.FnExactConfigOk", spec := "fnExactConfigOk", unfollowed := true, recurses := true, apart := false, narrowed := true }
def FnExactConfigOkUptoSaid : Prop := fnExactConfigOkUptoRow.holds Try.pinned (OpenSpec.upto fnExactConfigOkSpec)

/-- 'laws.FnExactRealmOf', WHERE WHAT IT READS IS OF BULK AT MOST 1048576: true; the input reads as it did. -/
def fnExactRealmOfUptoRow : OpenClaim := { program := "ytmhjpnjolgigmaa", sum := "8a8e47f27a028271d71eb3aa53b9062b86640637ae28949860bdbe8b08f20bc2", func := "loop.example/g00769/laws.FnExactRealmOf", spec := "fnExactRealmOf", unfollowed := true, recurses := true, apart := false, narrowed := true }
def FnExactRealmOfUptoSaid : Prop := fnExactRealmOfUptoRow.holds Try.pinned (OpenSpec.upto fnExactRealmOfSpec)

/-- 'laws.FnWay', WHERE WHAT IT READS IS OF BULK AT MOST 1048576: true; the input reads as it did. -/
def fnWayUptoRow : OpenClaim := { program := "ytmhjpnjolgigmaa", sum := "8a8e47f27a028271d71eb3aa53b9062b86640637ae28949860bdbe8b08f20bc2", func := "loop.example/g00769/laws.FnWay", spec := "fnWay", unfollowed := true, recurses := true, apart := false, narrowed := true }
def FnWayUptoSaid : Prop := fnWayUptoRow.holds Try.pinned (OpenSpec.upto fnWaySpec)

/-- 'laws.FnExactNextHop', WHERE WHAT IT READS IS OF BULK AT MOST 1048576: true; the input reads as it did. -/
def fnExactNextHopUptoRow : OpenClaim := { program := "ytmhjpnjolgigmaa", sum := "8a8e47f27a028271d71eb3aa53b9062b86640637ae28949860bdbe8b08f20bc2", func := "loop.example/g00769/laws.FnExactNextHop", spec := "fnExactNextHop", unfollowed := true, recurses := true, apart := false, narrowed := true }
def FnExactNextHopUptoSaid : Prop := fnExactNextHopUptoRow.holds Try.pinned (OpenSpec.upto fnExactNextHopSpec)

/-- 'laws.FnExactShowTicket', WHERE WHAT IT READS IS OF BULK AT MOST 1048576: true; the input reads as it did. -/
def fnExactShowTicketUptoRow : OpenClaim := { program := "ytmhjpnjolgigmaa", sum := "8a8e47f27a028271d71eb3aa53b9062b86640637ae28949860bdbe8b08f20bc2", func := "loop.example/g00769/laws.FnExactShowTicket", spec := "fnExactShowTicket", unfollowed := true, recurses := true, apart := false, narrowed := true }
def FnExactShowTicketUptoSaid : Prop := fnExactShowTicketUptoRow.holds Try.pinned (OpenSpec.upto fnExactShowTicketSpec)

/-- 'laws.FnExactReadTicket', WHERE WHAT IT READS IS OF BULK AT MOST 1048576: true; the input reads as it did. -/
def fnExactReadTicketUptoRow : OpenClaim := { program := "ytmhjpnjolgigmaa", sum := "8a8e47f27a028271d71eb3aa53b9062b86640637ae28949860bdbe8b08f20bc2", func := "loop.example/g00769/laws.FnExactReadTicket", spec := "fnExactReadTicket", unfollowed := true, recurses := true, apart := false, narrowed := true }
def FnExactReadTicketUptoSaid : Prop := fnExactReadTicketUptoRow.holds Try.pinned (OpenSpec.upto fnExactReadTicketSpec)

/-- 'laws.FnTickets', WHERE WHAT IT READS IS OF BULK AT MOST 1048576: true; the input reads as it did. -/
def fnTicketsUptoRow : OpenClaim := { program := "ytmhjpnjolgigmaa", sum := "8a8e47f27a028271d71eb3aa53b9062b86640637ae28949860bdbe8b08f20bc2", func := "loop.example/g00769/laws.FnTickets", spec := "fnTickets", unfollowed := true, recurses := true, apart := false, narrowed := true }
def FnTicketsUptoSaid : Prop := fnTicketsUptoRow.holds Try.pinned (OpenSpec.upto fnTicketsSpec)

end Rows
end Go.Proofs.Ytmhjpnjolgigmaa
