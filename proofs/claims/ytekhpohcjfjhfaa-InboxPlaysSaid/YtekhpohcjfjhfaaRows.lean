/-
  No cell of these rows narrows 'for every input' (looked for: loops, veiled, ifaces, maps, wideKeys, modest, calm, conditions, laid).
  DERIVED. THE GIVEN ROWS OF THIS SEAT. 13 by the template 'for every input the law returns true; each argument reads behind the call as it read before'; 0 by the template 'total and deterministic' (their statements: YtekhpohcjfjhfaaTotals.lean).
  GIVEN WITH THE SEED: the statements are not yours to turn. If you find one false, say at which input.
  Laid BY PROGRAM, IN A SANDBOX (cutbox-rows.mjs): the forced cells as the released guide's own fill.sh prints them over the translation 22e0625af369989e… (all of the seat's roots in one cut). By AI agents, Wed Nov 11 2026. No macro, syntax, notation, axiom, sorry.
-/
import Derived.Test.YtekhpohcjfjhfaaChecked
import GoSem.Claim
import GoSem.ClaimJoined
import GoSem.ClaimMapViews
import Derived.JoinedTies
import Derived.KernelRfl
namespace Go.Proofs.Ytekhpohcjfjhfaa
/- THE CELL 'sum', in the pinned program and in every row, IS THE sha256 OF THE DUMP (.gsa) THAT YtekhpohcjfjhfaaProg.lean LOADS. Nothing in Lean hashes anything: it is a label: what it is worth is what the hold of that sum in a sandbox is worth. -/
noncomputable def Try.pinned : Pinned := { name := "ytekhpohcjfjhfaa", sum := "22e0625af369989e49dd61dd2c7d14d0a13ec5e30a9d8f2f91c5cb3db01751a2", checked := Try.checked }
namespace Rows
def none {H : Type} : Left H := { results := [], args := [] }

/-- 'haulierlaw15.FlightAges': WHATEVER THE INPUT: true; the input reads as it did. -/
def flightAgesSpec : ChangeSpec := { name := "flightAges", fn := fun _ => fun
  | [d1, d2, d3, d4] => { results := [.lit (.bool true)], args := [d1, d2, d3, d4] }
  | _ => none }
def flightAgesRow : OpenClaim := { program := "ytekhpohcjfjhfaa", sum := "22e0625af369989e49dd61dd2c7d14d0a13ec5e30a9d8f2f91c5cb3db01751a2", func := "haulier/haulierlaw15.FlightAges", spec := "flightAges", unfollowed := true, recurses := true, apart := false }
def FlightAgesSaid : Prop := flightAgesRow.holds Try.pinned (OpenSpec.ofChange flightAgesSpec)

/-- ITS FALSE NEIGHBOUR: 'it returns false'. Refute it at one input. -/
def flightAgesWrong : ChangeSpec := { name := "flightAges", fn := fun _ => fun
  | [d1, d2, d3, d4] => { results := [.lit (.bool false)], args := [d1, d2, d3, d4] }
  | _ => none }
def FlightAgesWrongFalsely : Prop := flightAgesRow.holds Try.pinned (OpenSpec.ofChange flightAgesWrong)

/-- 'haulierlaw15.FlightPlays': WHATEVER THE INPUT: true; the input reads as it did. -/
def flightPlaysSpec : ChangeSpec := { name := "flightPlays", fn := fun _ => fun
  | [d1, d2, d3] => { results := [.lit (.bool true)], args := [d1, d2, d3] }
  | _ => none }
def flightPlaysRow : OpenClaim := { program := "ytekhpohcjfjhfaa", sum := "22e0625af369989e49dd61dd2c7d14d0a13ec5e30a9d8f2f91c5cb3db01751a2", func := "haulier/haulierlaw15.FlightPlays", spec := "flightPlays", unfollowed := true, recurses := true, apart := false }
def FlightPlaysSaid : Prop := flightPlaysRow.holds Try.pinned (OpenSpec.ofChange flightPlaysSpec)

/-- ITS FALSE NEIGHBOUR: 'it returns false'. Refute it at one input. -/
def flightPlaysWrong : ChangeSpec := { name := "flightPlays", fn := fun _ => fun
  | [d1, d2, d3] => { results := [.lit (.bool false)], args := [d1, d2, d3] }
  | _ => none }
def FlightPlaysWrongFalsely : Prop := flightPlaysRow.holds Try.pinned (OpenSpec.ofChange flightPlaysWrong)

/-- 'haulierlaw14.PlanWaits': WHATEVER THE INPUT: true; the input reads as it did. -/
def planWaitsSpec : ChangeSpec := { name := "planWaits", fn := fun _ => fun
  | [d1, d2, d3] => { results := [.lit (.bool true)], args := [d1, d2, d3] }
  | _ => none }
def planWaitsRow : OpenClaim := { program := "ytekhpohcjfjhfaa", sum := "22e0625af369989e49dd61dd2c7d14d0a13ec5e30a9d8f2f91c5cb3db01751a2", func := "haulier/haulierlaw14.PlanWaits", spec := "planWaits", apart := false }
def PlanWaitsSaid : Prop := planWaitsRow.holds Try.pinned (OpenSpec.ofChange planWaitsSpec)

/-- ITS FALSE NEIGHBOUR: 'it returns false'. Refute it at one input. -/
def planWaitsWrong : ChangeSpec := { name := "planWaits", fn := fun _ => fun
  | [d1, d2, d3] => { results := [.lit (.bool false)], args := [d1, d2, d3] }
  | _ => none }
def PlanWaitsWrongFalsely : Prop := planWaitsRow.holds Try.pinned (OpenSpec.ofChange planWaitsWrong)

/-- 'haulierlaw14.PlanAgain': WHATEVER THE INPUT: true; the input reads as it did. -/
def planAgainSpec : ChangeSpec := { name := "planAgain", fn := fun _ => fun
  | [d1, d2, d3, d4] => { results := [.lit (.bool true)], args := [d1, d2, d3, d4] }
  | _ => none }
def planAgainRow : OpenClaim := { program := "ytekhpohcjfjhfaa", sum := "22e0625af369989e49dd61dd2c7d14d0a13ec5e30a9d8f2f91c5cb3db01751a2", func := "haulier/haulierlaw14.PlanAgain", spec := "planAgain", unfollowed := true, recurses := true, apart := false }
def PlanAgainSaid : Prop := planAgainRow.holds Try.pinned (OpenSpec.ofChange planAgainSpec)

/-- ITS FALSE NEIGHBOUR: 'it returns false'. Refute it at one input. -/
def planAgainWrong : ChangeSpec := { name := "planAgain", fn := fun _ => fun
  | [d1, d2, d3, d4] => { results := [.lit (.bool false)], args := [d1, d2, d3, d4] }
  | _ => none }
def PlanAgainWrongFalsely : Prop := planAgainRow.holds Try.pinned (OpenSpec.ofChange planAgainWrong)

/-- 'haulierlaw14.PlanCovers': WHATEVER THE INPUT: true; the input reads as it did. -/
def planCoversSpec : ChangeSpec := { name := "planCovers", fn := fun _ => fun
  | [d1, d2, d3, d4] => { results := [.lit (.bool true)], args := [d1, d2, d3, d4] }
  | _ => none }
def planCoversRow : OpenClaim := { program := "ytekhpohcjfjhfaa", sum := "22e0625af369989e49dd61dd2c7d14d0a13ec5e30a9d8f2f91c5cb3db01751a2", func := "haulier/haulierlaw14.PlanCovers", spec := "planCovers", unfollowed := true, recurses := true, apart := false }
def PlanCoversSaid : Prop := planCoversRow.holds Try.pinned (OpenSpec.ofChange planCoversSpec)

/-- ITS FALSE NEIGHBOUR: 'it returns false'. Refute it at one input. -/
def planCoversWrong : ChangeSpec := { name := "planCovers", fn := fun _ => fun
  | [d1, d2, d3, d4] => { results := [.lit (.bool false)], args := [d1, d2, d3, d4] }
  | _ => none }
def PlanCoversWrongFalsely : Prop := planCoversRow.holds Try.pinned (OpenSpec.ofChange planCoversWrong)

/-- 'haulierlaw14.PlanPlays': WHATEVER THE INPUT: true; the input reads as it did. -/
def planPlaysSpec : ChangeSpec := { name := "planPlays", fn := fun _ => fun
  | [d1, d2, d3] => { results := [.lit (.bool true)], args := [d1, d2, d3] }
  | _ => none }
def planPlaysRow : OpenClaim := { program := "ytekhpohcjfjhfaa", sum := "22e0625af369989e49dd61dd2c7d14d0a13ec5e30a9d8f2f91c5cb3db01751a2", func := "haulier/haulierlaw14.PlanPlays", spec := "planPlays", unfollowed := true, recurses := true, apart := false }
def PlanPlaysSaid : Prop := planPlaysRow.holds Try.pinned (OpenSpec.ofChange planPlaysSpec)

/-- ITS FALSE NEIGHBOUR: 'it returns false'. Refute it at one input. -/
def planPlaysWrong : ChangeSpec := { name := "planPlays", fn := fun _ => fun
  | [d1, d2, d3] => { results := [.lit (.bool false)], args := [d1, d2, d3] }
  | _ => none }
def PlanPlaysWrongFalsely : Prop := planPlaysRow.holds Try.pinned (OpenSpec.ofChange planPlaysWrong)

/-- 'haulierlaw13.OutboxWhole': WHATEVER THE INPUT: true; the input reads as it did. -/
def outboxWholeSpec : ChangeSpec := { name := "outboxWhole", fn := fun _ => fun
  | [d1, d2, d3] => { results := [.lit (.bool true)], args := [d1, d2, d3] }
  | _ => none }
def outboxWholeRow : OpenClaim := { program := "ytekhpohcjfjhfaa", sum := "22e0625af369989e49dd61dd2c7d14d0a13ec5e30a9d8f2f91c5cb3db01751a2", func := "haulier/haulierlaw13.OutboxWhole", spec := "outboxWhole", apart := false }
def OutboxWholeSaid : Prop := outboxWholeRow.holds Try.pinned (OpenSpec.ofChange outboxWholeSpec)

/-- ITS FALSE NEIGHBOUR: 'it returns false'. Refute it at one input. -/
def outboxWholeWrong : ChangeSpec := { name := "outboxWhole", fn := fun _ => fun
  | [d1, d2, d3] => { results := [.lit (.bool false)], args := [d1, d2, d3] }
  | _ => none }
def OutboxWholeWrongFalsely : Prop := outboxWholeRow.holds Try.pinned (OpenSpec.ofChange outboxWholeWrong)

/-- 'haulierlaw05.RangesFirst': WHATEVER THE INPUT: true; the input reads as it did. -/
def rangesFirstSpec : ChangeSpec := { name := "rangesFirst", fn := fun _ => fun
  | [d] => { results := [.lit (.bool true)], args := [d] }
  | _ => none }
def rangesFirstRow : OpenClaim := { program := "ytekhpohcjfjhfaa", sum := "22e0625af369989e49dd61dd2c7d14d0a13ec5e30a9d8f2f91c5cb3db01751a2", func := "haulier/haulierlaw05.RangesFirst", spec := "rangesFirst", unfollowed := true, recurses := true, apart := false }
def RangesFirstSaid : Prop := rangesFirstRow.holds Try.pinned (OpenSpec.ofChange rangesFirstSpec)

/-- ITS FALSE NEIGHBOUR: 'it returns false'. Refute it at one input. -/
def rangesFirstWrong : ChangeSpec := { name := "rangesFirst", fn := fun _ => fun
  | [d] => { results := [.lit (.bool false)], args := [d] }
  | _ => none }
def RangesFirstWrongFalsely : Prop := rangesFirstRow.holds Try.pinned (OpenSpec.ofChange rangesFirstWrong)

/-- 'haulierlaw05.RangesOrder': WHATEVER THE INPUT: true; the input reads as it did. -/
def rangesOrderSpec : ChangeSpec := { name := "rangesOrder", fn := fun _ => fun
  | [d1, d2, d3] => { results := [.lit (.bool true)], args := [d1, d2, d3] }
  | _ => none }
def rangesOrderRow : OpenClaim := { program := "ytekhpohcjfjhfaa", sum := "22e0625af369989e49dd61dd2c7d14d0a13ec5e30a9d8f2f91c5cb3db01751a2", func := "haulier/haulierlaw05.RangesOrder", spec := "rangesOrder", unfollowed := true, recurses := true, apart := false }
def RangesOrderSaid : Prop := rangesOrderRow.holds Try.pinned (OpenSpec.ofChange rangesOrderSpec)

/-- ITS FALSE NEIGHBOUR: 'it returns false'. Refute it at one input. -/
def rangesOrderWrong : ChangeSpec := { name := "rangesOrder", fn := fun _ => fun
  | [d1, d2, d3] => { results := [.lit (.bool false)], args := [d1, d2, d3] }
  | _ => none }
def RangesOrderWrongFalsely : Prop := rangesOrderRow.holds Try.pinned (OpenSpec.ofChange rangesOrderWrong)

/-- 'haulierlaw16.InboxGaps': WHATEVER THE INPUT: true; the input reads as it did. -/
def inboxGapsSpec : ChangeSpec := { name := "inboxGaps", fn := fun _ => fun
  | [d1, d2, d3] => { results := [.lit (.bool true)], args := [d1, d2, d3] }
  | _ => none }
def inboxGapsRow : OpenClaim := { program := "ytekhpohcjfjhfaa", sum := "22e0625af369989e49dd61dd2c7d14d0a13ec5e30a9d8f2f91c5cb3db01751a2", func := "haulier/haulierlaw16.InboxGaps", spec := "inboxGaps", unfollowed := true, recurses := true, apart := false }
def InboxGapsSaid : Prop := inboxGapsRow.holds Try.pinned (OpenSpec.ofChange inboxGapsSpec)

/-- ITS FALSE NEIGHBOUR: 'it returns false'. Refute it at one input. -/
def inboxGapsWrong : ChangeSpec := { name := "inboxGaps", fn := fun _ => fun
  | [d1, d2, d3] => { results := [.lit (.bool false)], args := [d1, d2, d3] }
  | _ => none }
def InboxGapsWrongFalsely : Prop := inboxGapsRow.holds Try.pinned (OpenSpec.ofChange inboxGapsWrong)

/-- 'haulierlaw16.InboxWindow': WHATEVER THE INPUT: true; the input reads as it did. -/
def inboxWindowSpec : ChangeSpec := { name := "inboxWindow", fn := fun _ => fun
  | [d1, d2, d3] => { results := [.lit (.bool true)], args := [d1, d2, d3] }
  | _ => none }
def inboxWindowRow : OpenClaim := { program := "ytekhpohcjfjhfaa", sum := "22e0625af369989e49dd61dd2c7d14d0a13ec5e30a9d8f2f91c5cb3db01751a2", func := "haulier/haulierlaw16.InboxWindow", spec := "inboxWindow", unfollowed := true, recurses := true, apart := false }
def InboxWindowSaid : Prop := inboxWindowRow.holds Try.pinned (OpenSpec.ofChange inboxWindowSpec)

/-- ITS FALSE NEIGHBOUR: 'it returns false'. Refute it at one input. -/
def inboxWindowWrong : ChangeSpec := { name := "inboxWindow", fn := fun _ => fun
  | [d1, d2, d3] => { results := [.lit (.bool false)], args := [d1, d2, d3] }
  | _ => none }
def InboxWindowWrongFalsely : Prop := inboxWindowRow.holds Try.pinned (OpenSpec.ofChange inboxWindowWrong)

/-- 'haulierlaw16.InboxWhole': WHATEVER THE INPUT: true; the input reads as it did. -/
def inboxWholeSpec : ChangeSpec := { name := "inboxWhole", fn := fun _ => fun
  | [d1, d2, d3, d4] => { results := [.lit (.bool true)], args := [d1, d2, d3, d4] }
  | _ => none }
def inboxWholeRow : OpenClaim := { program := "ytekhpohcjfjhfaa", sum := "22e0625af369989e49dd61dd2c7d14d0a13ec5e30a9d8f2f91c5cb3db01751a2", func := "haulier/haulierlaw16.InboxWhole", spec := "inboxWhole", unfollowed := true, recurses := true, apart := false }
def InboxWholeSaid : Prop := inboxWholeRow.holds Try.pinned (OpenSpec.ofChange inboxWholeSpec)

/-- ITS FALSE NEIGHBOUR: 'it returns false'. Refute it at one input. -/
def inboxWholeWrong : ChangeSpec := { name := "inboxWhole", fn := fun _ => fun
  | [d1, d2, d3, d4] => { results := [.lit (.bool false)], args := [d1, d2, d3, d4] }
  | _ => none }
def InboxWholeWrongFalsely : Prop := inboxWholeRow.holds Try.pinned (OpenSpec.ofChange inboxWholeWrong)

/-- 'haulierlaw16.InboxPlays': WHATEVER THE INPUT: true; the input reads as it did. -/
def inboxPlaysSpec : ChangeSpec := { name := "inboxPlays", fn := fun _ => fun
  | [d1, d2] => { results := [.lit (.bool true)], args := [d1, d2] }
  | _ => none }
def inboxPlaysRow : OpenClaim := { program := "ytekhpohcjfjhfaa", sum := "22e0625af369989e49dd61dd2c7d14d0a13ec5e30a9d8f2f91c5cb3db01751a2", func := "haulier/haulierlaw16.InboxPlays", spec := "inboxPlays", unfollowed := true, recurses := true, apart := false }
def InboxPlaysSaid : Prop := inboxPlaysRow.holds Try.pinned (OpenSpec.ofChange inboxPlaysSpec)

/-- ITS FALSE NEIGHBOUR: 'it returns false'. Refute it at one input. -/
def inboxPlaysWrong : ChangeSpec := { name := "inboxPlays", fn := fun _ => fun
  | [d1, d2] => { results := [.lit (.bool false)], args := [d1, d2] }
  | _ => none }
def InboxPlaysWrongFalsely : Prop := inboxPlaysRow.holds Try.pinned (OpenSpec.ofChange inboxPlaysWrong)

/- THE SECOND FORM. 'bulk': how many values and letters a reading holds, each counted each time it is reached (what is shared counts as often as it is met; a slice's spare places count too). A statement '..UptoSaid' is the law's where the arguments, and the package variables that the reading takes, are together of bulk at most 1048576: NARROWER than '..Said'. Prove '..Said' where nothing that the law and all that it calls make is longer than what came in: it says more and counts as full. Else prove '..UptoSaid'. A law counts once. -/
mutual
def uptoBulk {H : Type} : DataW H → Nat
  | .lit (.string bytes) => bytes.length + 1
  | .lit _ => 1
  | .nil => 1
  | .ptr d => uptoBulk d + 1
  | .slice elems spare => uptoBulkAll elems + uptoBulkAll spare + 1
  | .agg parts => uptoBulkAll parts + 1
  | .iface _ d => uptoBulk d + 1
  | .map entries => uptoBulkEntries entries + 1
  | .held _ => 1
def uptoBulkAll {H : Type} : List (DataW H) → Nat
  | [] => 0
  | d :: r => uptoBulk d + uptoBulkAll r
def uptoBulkEntries {H : Type} : List (Lit × DataW H) → Nat
  | [] => 0
  | x :: r => uptoBulkEntry x + uptoBulkEntries r
def uptoBulkEntry {H : Type} : Lit × DataW H → Nat
  | (.string bytes, d) => bytes.length + uptoBulk d + 1
  | (_, d) => uptoBulk d + 1
 end
def uptoSmall : (H : Type) → List (DataW H) → Bool := fun _ ds => decide (uptoBulkAll ds ≤ 1048576)
def OpenSpec.upto (s : _root_.Go.ChangeSpec) : _root_.Go.OpenSpec := { _root_.Go.OpenSpec.ofChange s with cond := some uptoSmall }

/-- 'haulierlaw15.FlightAges', WHERE WHAT IT READS IS OF BULK AT MOST 1048576: true; the input reads as it did. -/
def flightAgesUptoRow : OpenClaim := { program := "ytekhpohcjfjhfaa", sum := "22e0625af369989e49dd61dd2c7d14d0a13ec5e30a9d8f2f91c5cb3db01751a2", func := "haulier/haulierlaw15.FlightAges", spec := "flightAges", unfollowed := true, recurses := true, apart := false, narrowed := true }
def FlightAgesUptoSaid : Prop := flightAgesUptoRow.holds Try.pinned (OpenSpec.upto flightAgesSpec)

/-- 'haulierlaw15.FlightPlays', WHERE WHAT IT READS IS OF BULK AT MOST 1048576: true; the input reads as it did. -/
def flightPlaysUptoRow : OpenClaim := { program := "ytekhpohcjfjhfaa", sum := "22e0625af369989e49dd61dd2c7d14d0a13ec5e30a9d8f2f91c5cb3db01751a2", func := "haulier/haulierlaw15.FlightPlays", spec := "flightPlays", unfollowed := true, recurses := true, apart := false, narrowed := true }
def FlightPlaysUptoSaid : Prop := flightPlaysUptoRow.holds Try.pinned (OpenSpec.upto flightPlaysSpec)

/-- 'haulierlaw14.PlanWaits', WHERE WHAT IT READS IS OF BULK AT MOST 1048576: true; the input reads as it did. -/
def planWaitsUptoRow : OpenClaim := { program := "ytekhpohcjfjhfaa", sum := "22e0625af369989e49dd61dd2c7d14d0a13ec5e30a9d8f2f91c5cb3db01751a2", func := "haulier/haulierlaw14.PlanWaits", spec := "planWaits", apart := false, narrowed := true }
def PlanWaitsUptoSaid : Prop := planWaitsUptoRow.holds Try.pinned (OpenSpec.upto planWaitsSpec)

/-- 'haulierlaw14.PlanAgain', WHERE WHAT IT READS IS OF BULK AT MOST 1048576: true; the input reads as it did. -/
def planAgainUptoRow : OpenClaim := { program := "ytekhpohcjfjhfaa", sum := "22e0625af369989e49dd61dd2c7d14d0a13ec5e30a9d8f2f91c5cb3db01751a2", func := "haulier/haulierlaw14.PlanAgain", spec := "planAgain", unfollowed := true, recurses := true, apart := false, narrowed := true }
def PlanAgainUptoSaid : Prop := planAgainUptoRow.holds Try.pinned (OpenSpec.upto planAgainSpec)

/-- 'haulierlaw14.PlanCovers', WHERE WHAT IT READS IS OF BULK AT MOST 1048576: true; the input reads as it did. -/
def planCoversUptoRow : OpenClaim := { program := "ytekhpohcjfjhfaa", sum := "22e0625af369989e49dd61dd2c7d14d0a13ec5e30a9d8f2f91c5cb3db01751a2", func := "haulier/haulierlaw14.PlanCovers", spec := "planCovers", unfollowed := true, recurses := true, apart := false, narrowed := true }
def PlanCoversUptoSaid : Prop := planCoversUptoRow.holds Try.pinned (OpenSpec.upto planCoversSpec)

/-- 'haulierlaw14.PlanPlays', WHERE WHAT IT READS IS OF BULK AT MOST 1048576: true; the input reads as it did. -/
def planPlaysUptoRow : OpenClaim := { program := "ytekhpohcjfjhfaa", sum := "22e0625af369989e49dd61dd2c7d14d0a13ec5e30a9d8f2f91c5cb3db01751a2", func := "haulier/haulierlaw14.PlanPlays", spec := "planPlays", unfollowed := true, recurses := true, apart := false, narrowed := true }
def PlanPlaysUptoSaid : Prop := planPlaysUptoRow.holds Try.pinned (OpenSpec.upto planPlaysSpec)

/-- 'haulierlaw13.OutboxWhole', WHERE WHAT IT READS IS OF BULK AT MOST 1048576: true; the input reads as it did. -/
def outboxWholeUptoRow : OpenClaim := { program := "ytekhpohcjfjhfaa", sum := "22e0625af369989e49dd61dd2c7d14d0a13ec5e30a9d8f2f91c5cb3db01751a2", func := "haulier/haulierlaw13.OutboxWhole", spec := "outboxWhole", apart := false, narrowed := true }
def OutboxWholeUptoSaid : Prop := outboxWholeUptoRow.holds Try.pinned (OpenSpec.upto outboxWholeSpec)

/-- 'haulierlaw05.RangesFirst', WHERE WHAT IT READS IS OF BULK AT MOST 1048576: true; the input reads as it did. -/
def rangesFirstUptoRow : OpenClaim := { program := "ytekhpohcjfjhfaa", sum := "22e0625af369989e49dd61dd2c7d14d0a13ec5e30a9d8f2f91c5cb3db01751a2", func := "haulier/haulierlaw05.RangesFirst", spec := "rangesFirst", unfollowed := true, recurses := true, apart := false, narrowed := true }
def RangesFirstUptoSaid : Prop := rangesFirstUptoRow.holds Try.pinned (OpenSpec.upto rangesFirstSpec)

/-- 'haulierlaw05.RangesOrder', WHERE WHAT IT READS IS OF BULK AT MOST 1048576: true; the input reads as it did. -/
def rangesOrderUptoRow : OpenClaim := { program := "ytekhpohcjfjhfaa", sum := "22e0625af369989e49dd61dd2c7d14d0a13ec5e30a9d8f2f91c5cb3db01751a2", func := "haulier/haulierlaw05.RangesOrder", spec := "rangesOrder", unfollowed := true, recurses := true, apart := false, narrowed := true }
def RangesOrderUptoSaid : Prop := rangesOrderUptoRow.holds Try.pinned (OpenSpec.upto rangesOrderSpec)

/-- 'haulierlaw16.InboxGaps', WHERE WHAT IT READS IS OF BULK AT MOST 1048576: true; the input reads as it did. -/
def inboxGapsUptoRow : OpenClaim := { program := "ytekhpohcjfjhfaa", sum := "22e0625af369989e49dd61dd2c7d14d0a13ec5e30a9d8f2f91c5cb3db01751a2", func := "haulier/haulierlaw16.InboxGaps", spec := "inboxGaps", unfollowed := true, recurses := true, apart := false, narrowed := true }
def InboxGapsUptoSaid : Prop := inboxGapsUptoRow.holds Try.pinned (OpenSpec.upto inboxGapsSpec)

/-- 'haulierlaw16.InboxWindow', WHERE WHAT IT READS IS OF BULK AT MOST 1048576: true; the input reads as it did. -/
def inboxWindowUptoRow : OpenClaim := { program := "ytekhpohcjfjhfaa", sum := "22e0625af369989e49dd61dd2c7d14d0a13ec5e30a9d8f2f91c5cb3db01751a2", func := "haulier/haulierlaw16.InboxWindow", spec := "inboxWindow", unfollowed := true, recurses := true, apart := false, narrowed := true }
def InboxWindowUptoSaid : Prop := inboxWindowUptoRow.holds Try.pinned (OpenSpec.upto inboxWindowSpec)

/-- 'haulierlaw16.InboxWhole', WHERE WHAT IT READS IS OF BULK AT MOST 1048576: true; the input reads as it did. -/
def inboxWholeUptoRow : OpenClaim := { program := "ytekhpohcjfjhfaa", sum := "22e0625af369989e49dd61dd2c7d14d0a13ec5e30a9d8f2f91c5cb3db01751a2", func := "haulier/haulierlaw16.InboxWhole", spec := "inboxWhole", unfollowed := true, recurses := true, apart := false, narrowed := true }
def InboxWholeUptoSaid : Prop := inboxWholeUptoRow.holds Try.pinned (OpenSpec.upto inboxWholeSpec)

/-- 'haulierlaw16.InboxPlays', WHERE WHAT IT READS IS OF BULK AT MOST 1048576: true; the input reads as it did. -/
def inboxPlaysUptoRow : OpenClaim := { program := "ytekhpohcjfjhfaa", sum := "22e0625af369989e49dd61dd2c7d14d0a13ec5e30a9d8f2f91c5cb3db01751a2", func := "haulier/haulierlaw16.InboxPlays", spec := "inboxPlays", unfollowed := true, recurses := true, apart := false, narrowed := true }
def InboxPlaysUptoSaid : Prop := inboxPlaysUptoRow.holds Try.pinned (OpenSpec.upto inboxPlaysSpec)

end Rows
end Go.Proofs.Ytekhpohcjfjhfaa
