/-
  No cell of these rows narrows 'for every input' (looked for: loops, veiled, ifaces, maps, wideKeys, modest, calm, conditions, laid).
  DERIVED. THE GIVEN ROWS OF THIS SEAT. 4 by the template 'for every input the law returns true; each argument reads behind the call as it read before'; 0 by the template 'total and deterministic' (their statements: YtpfgkobmljfdcaaTotals.lean).
  GIVEN WITH THE SEED: the statements are not yours to turn. If you find one false, say at which input.
  Laid BY PROGRAM, IN A SANDBOX (cutbox-rows.mjs): the forced cells as the released guide's own fill.sh prints them over the translation 3a3837095071bb29… (all of the seat's roots in one cut). By AI agents, Wed Nov 11 2026. No macro, syntax, notation, axiom, sorry.
-/
import Derived.Test.YtpfgkobmljfdcaaChecked
import GoSem.Claim
import GoSem.ClaimJoined
import GoSem.ClaimMapViews
import Derived.JoinedTies
import Derived.KernelRfl
namespace Go.Proofs.Ytpfgkobmljfdcaa
/- THE CELL 'sum', in the pinned program and in every row, IS THE sha256 OF THE DUMP (.gsa) THAT YtpfgkobmljfdcaaProg.lean LOADS. Nothing in Lean hashes anything: it is a label: what it is worth is what the hold of that sum in a sandbox is worth. -/
noncomputable def Try.pinned : Pinned := { name := "ytpfgkobmljfdcaa", sum := "3a3837095071bb29081bcef4f89000934993e3e8597ecc2336685d5486d8710a", checked := Try.checked }
namespace Rows
def none {H : Type} : Left H := { results := [], args := [] }

/-- 'haulierlaw18.PathWays': WHATEVER THE INPUT: true; the input reads as it did. -/
def pathWaysSpec : ChangeSpec := { name := "pathWays", fn := fun _ => fun
  | [d1, d2] => { results := [.lit (.bool true)], args := [d1, d2] }
  | _ => none }
def pathWaysRow : OpenClaim := { program := "ytpfgkobmljfdcaa", sum := "3a3837095071bb29081bcef4f89000934993e3e8597ecc2336685d5486d8710a", func := "haulier/haulierlaw18.PathWays", spec := "pathWays", unfollowed := true, recurses := true, apart := false }
def PathWaysSaid : Prop := pathWaysRow.holds Try.pinned (OpenSpec.ofChange pathWaysSpec)

/-- ITS FALSE NEIGHBOUR: 'it returns false'. Refute it at one input. -/
def pathWaysWrong : ChangeSpec := { name := "pathWays", fn := fun _ => fun
  | [d1, d2] => { results := [.lit (.bool false)], args := [d1, d2] }
  | _ => none }
def PathWaysWrongFalsely : Prop := pathWaysRow.holds Try.pinned (OpenSpec.ofChange pathWaysWrong)

/-- 'haulierlaw18.PathLate': WHATEVER THE INPUT: true; the input reads as it did. -/
def pathLateSpec : ChangeSpec := { name := "pathLate", fn := fun _ => fun
  | [d1, d2] => { results := [.lit (.bool true)], args := [d1, d2] }
  | _ => none }
def pathLateRow : OpenClaim := { program := "ytpfgkobmljfdcaa", sum := "3a3837095071bb29081bcef4f89000934993e3e8597ecc2336685d5486d8710a", func := "haulier/haulierlaw18.PathLate", spec := "pathLate", unfollowed := true, recurses := true, apart := false }
def PathLateSaid : Prop := pathLateRow.holds Try.pinned (OpenSpec.ofChange pathLateSpec)

/-- ITS FALSE NEIGHBOUR: 'it returns false'. Refute it at one input. -/
def pathLateWrong : ChangeSpec := { name := "pathLate", fn := fun _ => fun
  | [d1, d2] => { results := [.lit (.bool false)], args := [d1, d2] }
  | _ => none }
def PathLateWrongFalsely : Prop := pathLateRow.holds Try.pinned (OpenSpec.ofChange pathLateWrong)

/-- 'haulierlaw18.PathState': WHATEVER THE INPUT: true; the input reads as it did. -/
def pathStateSpec : ChangeSpec := { name := "pathState", fn := fun _ => fun
  | [d1, d2] => { results := [.lit (.bool true)], args := [d1, d2] }
  | _ => none }
def pathStateRow : OpenClaim := { program := "ytpfgkobmljfdcaa", sum := "3a3837095071bb29081bcef4f89000934993e3e8597ecc2336685d5486d8710a", func := "haulier/haulierlaw18.PathState", spec := "pathState", unfollowed := true, recurses := true, apart := false }
def PathStateSaid : Prop := pathStateRow.holds Try.pinned (OpenSpec.ofChange pathStateSpec)

/-- ITS FALSE NEIGHBOUR: 'it returns false'. Refute it at one input. -/
def pathStateWrong : ChangeSpec := { name := "pathState", fn := fun _ => fun
  | [d1, d2] => { results := [.lit (.bool false)], args := [d1, d2] }
  | _ => none }
def PathStateWrongFalsely : Prop := pathStateRow.holds Try.pinned (OpenSpec.ofChange pathStateWrong)

/-- 'haulierlaw18.PathPlays': WHATEVER THE INPUT: true; the input reads as it did. -/
def pathPlaysSpec : ChangeSpec := { name := "pathPlays", fn := fun _ => fun
  | [d1, d2] => { results := [.lit (.bool true)], args := [d1, d2] }
  | _ => none }
def pathPlaysRow : OpenClaim := { program := "ytpfgkobmljfdcaa", sum := "3a3837095071bb29081bcef4f89000934993e3e8597ecc2336685d5486d8710a", func := "haulier/haulierlaw18.PathPlays", spec := "pathPlays", unfollowed := true, recurses := true, apart := false }
def PathPlaysSaid : Prop := pathPlaysRow.holds Try.pinned (OpenSpec.ofChange pathPlaysSpec)

/-- ITS FALSE NEIGHBOUR: 'it returns false'. Refute it at one input. -/
def pathPlaysWrong : ChangeSpec := { name := "pathPlays", fn := fun _ => fun
  | [d1, d2] => { results := [.lit (.bool false)], args := [d1, d2] }
  | _ => none }
def PathPlaysWrongFalsely : Prop := pathPlaysRow.holds Try.pinned (OpenSpec.ofChange pathPlaysWrong)

/- THE SECOND FORM. 'bulk': how many values and letters a reading holds, each counted each time it is reached (what is shared counts as often as it is met; a slice's spare places count too). A statement '..UptoSaid' is the law's where the arguments, and the package variables that the reading takes, are together of bulk at most 1048576: NARROWER than '..Said'. Prove '..Said' where nothing that the law and all that it calls make is longer than what came in: it says more and counts as full. Else prove '..UptoSaid'. A law counts once. -/
mutual
def uptoBulk {H : Type} : DataW H → Nat
  | .lit (.string bytes) => bytes.length + 1
  | .lit _ => 1
  | .nil => 1
  | .ptr d => uptoBulk d + 1
  | .slice elems spare => uptoBulkAll elems + uptoBulkAll spare + 1
  | .agg parts => uptoBulkAll parts + 1
  | .iface _ d => uptoBulk d + 1
  | .map entries => uptoBulkEntries entries + 1
  | .held _ => 1
def uptoBulkAll {H : Type} : List (DataW H) → Nat
  | [] => 0
  | d :: r => uptoBulk d + uptoBulkAll r
def uptoBulkEntries {H : Type} : List (Lit × DataW H) → Nat
  | [] => 0
  | x :: r => uptoBulkEntry x + uptoBulkEntries r
def uptoBulkEntry {H : Type} : Lit × DataW H → Nat
  | (.string bytes, d) => bytes.length + uptoBulk d + 1
  | (_, d) => uptoBulk d + 1
 end
def uptoSmall : (H : Type) → List (DataW H) → Bool := fun _ ds => decide (uptoBulkAll ds ≤ 1048576)
def OpenSpec.upto (s : _root_.Go.ChangeSpec) : _root_.Go.OpenSpec := { _root_.Go.OpenSpec.ofChange s with cond := some uptoSmall }

/-- 'haulierlaw18.PathWays', WHERE WHAT IT READS IS OF BULK AT MOST 1048576: true; the input reads as it did. -/
def pathWaysUptoRow : OpenClaim := { program := "ytpfgkobmljfdcaa", sum := "3a3837095071bb29081bcef4f89000934993e3e8597ecc2336685d5486d8710a", func := "haulier/haulierlaw18.PathWays", spec := "pathWays", unfollowed := true, recurses := true, apart := false, narrowed := true }
def PathWaysUptoSaid : Prop := pathWaysUptoRow.holds Try.pinned (OpenSpec.upto pathWaysSpec)

/-- 'haulierlaw18.PathLate', WHERE WHAT IT READS IS OF BULK AT MOST 1048576: true; the input reads as it did. -/
def pathLateUptoRow : OpenClaim := { program := "ytpfgkobmljfdcaa", sum := "3a3837095071bb29081bcef4f89000934993e3e8597ecc2336685d5486d8710a", func := "haulier/haulierlaw18.PathLate", spec := "pathLate", unfollowed := true, recurses := true, apart := false, narrowed := true }
def PathLateUptoSaid : Prop := pathLateUptoRow.holds Try.pinned (OpenSpec.upto pathLateSpec)

/-- 'haulierlaw18.PathState', WHERE WHAT IT READS IS OF BULK AT MOST 1048576: true; the input reads as it did. -/
def pathStateUptoRow : OpenClaim := { program := "ytpfgkobmljfdcaa", sum := "3a3837095071bb29081bcef4f89000934993e3e8597ecc2336685d5486d8710a", func := "haulier/haulierlaw18.PathState", spec := "pathState", unfollowed := true, recurses := true, apart := false, narrowed := true }
def PathStateUptoSaid : Prop := pathStateUptoRow.holds Try.pinned (OpenSpec.upto pathStateSpec)

/-- 'haulierlaw18.PathPlays', WHERE WHAT IT READS IS OF BULK AT MOST 1048576: true; the input reads as it did. -/
def pathPlaysUptoRow : OpenClaim := { program := "ytpfgkobmljfdcaa", sum := "3a3837095071bb29081bcef4f89000934993e3e8597ecc2336685d5486d8710a", func := "haulier/haulierlaw18.PathPlays", spec := "pathPlays", unfollowed := true, recurses := true, apart := false, narrowed := true }
def PathPlaysUptoSaid : Prop := pathPlaysUptoRow.holds Try.pinned (OpenSpec.upto pathPlaysSpec)

end Rows
end Go.Proofs.Ytpfgkobmljfdcaa
