/-
  No cell of these rows narrows 'for every input' (looked for: loops, veiled, ifaces, maps, wideKeys, modest, calm, conditions, laid).
  DERIVED. THE GIVEN ROWS OF THIS SEAT. 3 by the template 'for every input the law returns true; each argument reads behind the call as it read before'; 0 by the template 'total and deterministic' (their statements: YtjdiigkmogmkhaaTotals.lean).
  GIVEN WITH THE SEED: the statements are not yours to turn. If you find one false, say at which input.
  Laid BY PROGRAM, IN A SANDBOX (cutbox-rows.mjs): the forced cells as the released guide's own fill.sh prints them over the translation 46e12fae3b829607… (all of the seat's roots in one cut). By AI agents, Wed Nov 11 2026. No macro, syntax, notation, axiom, sorry.
-/
import Derived.Test.YtjdiigkmogmkhaaChecked
import GoSem.Claim
import GoSem.ClaimJoined
import GoSem.ClaimMapViews
import Derived.JoinedTies
import Derived.KernelRfl
namespace Go.Proofs.Ytjdiigkmogmkhaa
/- THE CELL 'sum', in the pinned program and in every row, IS THE sha256 OF THE DUMP (.gsa) THAT YtjdiigkmogmkhaaProg.lean LOADS. Nothing in Lean hashes anything: it is a label: what it is worth is what the hold of that sum in a sandbox is worth. -/
noncomputable def Try.pinned : Pinned := { name := "ytjdiigkmogmkhaa", sum := "46e12fae3b8296078fae4e0cced914d72dd6a30fc5aea9b19a4231da167c0c36", checked := Try.checked }
namespace Rows
def none {H : Type} : Left H := { results := [], args := [] }

/-- 'haulierlaw15.FlightTakes': WHATEVER THE INPUT: true; the input reads as it did. -/
def flightTakesSpec : ChangeSpec := { name := "flightTakes", fn := fun _ => fun
  | [d1, d2] => { results := [.lit (.bool true)], args := [d1, d2] }
  | _ => none }
def flightTakesRow : OpenClaim := { program := "ytjdiigkmogmkhaa", sum := "46e12fae3b8296078fae4e0cced914d72dd6a30fc5aea9b19a4231da167c0c36", func := "haulier/haulierlaw15.FlightTakes", spec := "flightTakes", unfollowed := true, recurses := true, apart := false }
def FlightTakesSaid : Prop := flightTakesRow.holds Try.pinned (OpenSpec.ofChange flightTakesSpec)

/-- ITS FALSE NEIGHBOUR: 'it returns false'. Refute it at one input. -/
def flightTakesWrong : ChangeSpec := { name := "flightTakes", fn := fun _ => fun
  | [d1, d2] => { results := [.lit (.bool false)], args := [d1, d2] }
  | _ => none }
def FlightTakesWrongFalsely : Prop := flightTakesRow.holds Try.pinned (OpenSpec.ofChange flightTakesWrong)

/-- 'haulierlaw15.FlightAges': WHATEVER THE INPUT: true; the input reads as it did. -/
def flightAgesSpec : ChangeSpec := { name := "flightAges", fn := fun _ => fun
  | [d1, d2, d3, d4] => { results := [.lit (.bool true)], args := [d1, d2, d3, d4] }
  | _ => none }
def flightAgesRow : OpenClaim := { program := "ytjdiigkmogmkhaa", sum := "46e12fae3b8296078fae4e0cced914d72dd6a30fc5aea9b19a4231da167c0c36", func := "haulier/haulierlaw15.FlightAges", spec := "flightAges", unfollowed := true, recurses := true, apart := false }
def FlightAgesSaid : Prop := flightAgesRow.holds Try.pinned (OpenSpec.ofChange flightAgesSpec)

/-- ITS FALSE NEIGHBOUR: 'it returns false'. Refute it at one input. -/
def flightAgesWrong : ChangeSpec := { name := "flightAges", fn := fun _ => fun
  | [d1, d2, d3, d4] => { results := [.lit (.bool false)], args := [d1, d2, d3, d4] }
  | _ => none }
def FlightAgesWrongFalsely : Prop := flightAgesRow.holds Try.pinned (OpenSpec.ofChange flightAgesWrong)

/-- 'haulierlaw16.InboxGaps': WHATEVER THE INPUT: true; the input reads as it did. -/
def inboxGapsSpec : ChangeSpec := { name := "inboxGaps", fn := fun _ => fun
  | [d1, d2, d3] => { results := [.lit (.bool true)], args := [d1, d2, d3] }
  | _ => none }
def inboxGapsRow : OpenClaim := { program := "ytjdiigkmogmkhaa", sum := "46e12fae3b8296078fae4e0cced914d72dd6a30fc5aea9b19a4231da167c0c36", func := "haulier/haulierlaw16.InboxGaps", spec := "inboxGaps", unfollowed := true, recurses := true, apart := false }
def InboxGapsSaid : Prop := inboxGapsRow.holds Try.pinned (OpenSpec.ofChange inboxGapsSpec)

/-- ITS FALSE NEIGHBOUR: 'it returns false'. Refute it at one input. -/
def inboxGapsWrong : ChangeSpec := { name := "inboxGaps", fn := fun _ => fun
  | [d1, d2, d3] => { results := [.lit (.bool false)], args := [d1, d2, d3] }
  | _ => none }
def InboxGapsWrongFalsely : Prop := inboxGapsRow.holds Try.pinned (OpenSpec.ofChange inboxGapsWrong)

/- THE SECOND FORM. 'bulk': how many values and letters a reading holds, each counted each time it is reached (what is shared counts as often as it is met; a slice's spare places count too). A statement '..UptoSaid' is the law's where the arguments, and the package variables that the reading takes, are together of bulk at most 1048576: NARROWER than '..Said'. Prove '..Said' where nothing that the law and all that it calls make is longer than what came in: it says more and counts as full. Else prove '..UptoSaid'. A law counts once. -/
mutual
def uptoBulk {H : Type} : DataW H → Nat
  | .lit (.string bytes) => bytes.length + 1
  | .lit _ => 1
  | .nil => 1
  | .ptr d => uptoBulk d + 1
  | .slice elems spare => uptoBulkAll elems + uptoBulkAll spare + 1
  | .agg parts => uptoBulkAll parts + 1
  | .iface _ d => uptoBulk d + 1
  | .map entries => uptoBulkEntries entries + 1
  | .held _ => 1
def uptoBulkAll {H : Type} : List (DataW H) → Nat
  | [] => 0
  | d :: r => uptoBulk d + uptoBulkAll r
def uptoBulkEntries {H : Type} : List (Lit × DataW H) → Nat
  | [] => 0
  | x :: r => uptoBulkEntry x + uptoBulkEntries r
def uptoBulkEntry {H : Type} : Lit × DataW H → Nat
  | (.string bytes, d) => bytes.length + uptoBulk d + 1
  | (_, d) => uptoBulk d + 1
 end
def uptoSmall : (H : Type) → List (DataW H) → Bool := fun _ ds => decide (uptoBulkAll ds ≤ 1048576)
def OpenSpec.upto (s : _root_.Go.ChangeSpec) : _root_.Go.OpenSpec := { _root_.Go.OpenSpec.ofChange s with cond := some uptoSmall }

/-- 'haulierlaw15.FlightTakes', WHERE WHAT IT READS IS OF BULK AT MOST 1048576: true; the input reads as it did. -/
def flightTakesUptoRow : OpenClaim := { program := "ytjdiigkmogmkhaa", sum := "46e12fae3b8296078fae4e0cced914d72dd6a30fc5aea9b19a4231da167c0c36", func := "haulier/haulierlaw15.FlightTakes", spec := "flightTakes", unfollowed := true, recurses := true, apart := false, narrowed := true }
def FlightTakesUptoSaid : Prop := flightTakesUptoRow.holds Try.pinned (OpenSpec.upto flightTakesSpec)

/-- 'haulierlaw15.FlightAges', WHERE WHAT IT READS IS OF BULK AT MOST 1048576: true; the input reads as it did. -/
def flightAgesUptoRow : OpenClaim := { program := "ytjdiigkmogmkhaa", sum := "46e12fae3b8296078fae4e0cced914d72dd6a30fc5aea9b19a4231da167c0c36", func := "haulier/haulierlaw15.FlightAges", spec := "flightAges", unfollowed := true, recurses := true, apart := false, narrowed := true }
def FlightAgesUptoSaid : Prop := flightAgesUptoRow.holds Try.pinned (OpenSpec.upto flightAgesSpec)

/-- 'haulierlaw16.InboxGaps', WHERE WHAT IT READS IS OF BULK AT MOST 1048576: true; the input reads as it did. -/
def inboxGapsUptoRow : OpenClaim := { program := "ytjdiigkmogmkhaa", sum := "46e12fae3b8296078fae4e0cced914d72dd6a30fc5aea9b19a4231da167c0c36", func := "haulier/haulierlaw16.InboxGaps", spec := "inboxGaps", unfollowed := true, recurses := true, apart := false, narrowed := true }
def InboxGapsUptoSaid : Prop := inboxGapsUptoRow.holds Try.pinned (OpenSpec.upto inboxGapsSpec)

end Rows
end Go.Proofs.Ytjdiigkmogmkhaa
