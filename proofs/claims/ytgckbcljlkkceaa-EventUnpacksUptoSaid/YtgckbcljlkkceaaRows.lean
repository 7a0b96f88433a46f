/-
  No cell of these rows narrows 'for every input' (looked for: loops, veiled, ifaces, maps, wideKeys, modest, calm, conditions, laid).
  DERIVED. THE GIVEN ROWS OF THIS SEAT. 4 by the template 'for every input the law returns true; each argument reads behind the call as it read before'; 0 by the template 'total and deterministic' (their statements: YtgckbcljlkkceaaTotals.lean).
  GIVEN WITH THE SEED: the statements are not yours to turn. If you find one false, say at which input.
  Laid BY PROGRAM, IN A SANDBOX (cutbox-rows.mjs): the forced cells as the released guide's own fill.sh prints them over the translation a4eb8fb2ac9a7eb1… (all of the seat's roots in one cut). By AI agents, Wed Nov 11 2026. No macro, syntax, notation, axiom, sorry.
-/
import Derived.Test.YtgckbcljlkkceaaChecked
import GoSem.Claim
import GoSem.ClaimJoined
import GoSem.ClaimMapViews
import Derived.JoinedTies
import Derived.KernelRfl
namespace Go.Proofs.Ytgckbcljlkkceaa
/- THE CELL 'sum', in the pinned program and in every row, IS THE sha256 OF THE DUMP (.gsa) THAT YtgckbcljlkkceaaProg.lean LOADS. Nothing in Lean hashes anything: it is a label: what it is worth is what the hold of that sum in a sandbox is worth. -/
noncomputable def Try.pinned : Pinned := { name := "ytgckbcljlkkceaa", sum := "a4eb8fb2ac9a7eb1bec2b6975c4f1f8c5507993c1765f298b8c009e3c08a8ed8", checked := Try.checked }
namespace Rows
def none {H : Type} : Left H := { results := [], args := [] }

/-- 'haulierlaw07.EventPacks': WHATEVER THE INPUT: true; the input reads as it did. -/
def eventPacksSpec : ChangeSpec := { name := "eventPacks", fn := fun _ => fun
  | [d1, d2, d3, d4, d5] => { results := [.lit (.bool true)], args := [d1, d2, d3, d4, d5] }
  | _ => none }
def eventPacksRow : OpenClaim := { program := "ytgckbcljlkkceaa", sum := "a4eb8fb2ac9a7eb1bec2b6975c4f1f8c5507993c1765f298b8c009e3c08a8ed8", func := "haulier/haulierlaw07.EventPacks", spec := "eventPacks", unfollowed := true, recurses := true, apart := false }
def EventPacksSaid : Prop := eventPacksRow.holds Try.pinned (OpenSpec.ofChange eventPacksSpec)

/-- ITS FALSE NEIGHBOUR: 'it returns false'. Refute it at one input. -/
def eventPacksWrong : ChangeSpec := { name := "eventPacks", fn := fun _ => fun
  | [d1, d2, d3, d4, d5] => { results := [.lit (.bool false)], args := [d1, d2, d3, d4, d5] }
  | _ => none }
def EventPacksWrongFalsely : Prop := eventPacksRow.holds Try.pinned (OpenSpec.ofChange eventPacksWrong)

/-- 'haulierlaw07.EventUnpacks': WHATEVER THE INPUT: true; the input reads as it did. -/
def eventUnpacksSpec : ChangeSpec := { name := "eventUnpacks", fn := fun _ => fun
  | [d1, d2, d3, d4, d5, d6] => { results := [.lit (.bool true)], args := [d1, d2, d3, d4, d5, d6] }
  | _ => none }
def eventUnpacksRow : OpenClaim := { program := "ytgckbcljlkkceaa", sum := "a4eb8fb2ac9a7eb1bec2b6975c4f1f8c5507993c1765f298b8c009e3c08a8ed8", func := "haulier/haulierlaw07.EventUnpacks", spec := "eventUnpacks", unfollowed := true, recurses := true, apart := false }
def EventUnpacksSaid : Prop := eventUnpacksRow.holds Try.pinned (OpenSpec.ofChange eventUnpacksSpec)

/-- ITS FALSE NEIGHBOUR: 'it returns false'. Refute it at one input. -/
def eventUnpacksWrong : ChangeSpec := { name := "eventUnpacks", fn := fun _ => fun
  | [d1, d2, d3, d4, d5, d6] => { results := [.lit (.bool false)], args := [d1, d2, d3, d4, d5, d6] }
  | _ => none }
def EventUnpacksWrongFalsely : Prop := eventUnpacksRow.holds Try.pinned (OpenSpec.ofChange eventUnpacksWrong)

/-- 'haulierlaw07.EventBack': WHATEVER THE INPUT: true; the input reads as it did. -/
def eventBackSpec : ChangeSpec := { name := "eventBack", fn := fun _ => fun
  | [d1, d2, d3, d4] => { results := [.lit (.bool true)], args := [d1, d2, d3, d4] }
  | _ => none }
def eventBackRow : OpenClaim := { program := "ytgckbcljlkkceaa", sum := "a4eb8fb2ac9a7eb1bec2b6975c4f1f8c5507993c1765f298b8c009e3c08a8ed8", func := "haulier/haulierlaw07.EventBack", spec := "eventBack", unfollowed := true, recurses := true, apart := false }
def EventBackSaid : Prop := eventBackRow.holds Try.pinned (OpenSpec.ofChange eventBackSpec)

/-- ITS FALSE NEIGHBOUR: 'it returns false'. Refute it at one input. -/
def eventBackWrong : ChangeSpec := { name := "eventBack", fn := fun _ => fun
  | [d1, d2, d3, d4] => { results := [.lit (.bool false)], args := [d1, d2, d3, d4] }
  | _ => none }
def EventBackWrongFalsely : Prop := eventBackRow.holds Try.pinned (OpenSpec.ofChange eventBackWrong)

/-- 'haulierlaw18.PathPlays': WHATEVER THE INPUT: true; the input reads as it did. -/
def pathPlaysSpec : ChangeSpec := { name := "pathPlays", fn := fun _ => fun
  | [d1, d2] => { results := [.lit (.bool true)], args := [d1, d2] }
  | _ => none }
def pathPlaysRow : OpenClaim := { program := "ytgckbcljlkkceaa", sum := "a4eb8fb2ac9a7eb1bec2b6975c4f1f8c5507993c1765f298b8c009e3c08a8ed8", func := "haulier/haulierlaw18.PathPlays", spec := "pathPlays", unfollowed := true, recurses := true, apart := false }
def PathPlaysSaid : Prop := pathPlaysRow.holds Try.pinned (OpenSpec.ofChange pathPlaysSpec)

/-- ITS FALSE NEIGHBOUR: 'it returns false'. Refute it at one input. -/
def pathPlaysWrong : ChangeSpec := { name := "pathPlays", fn := fun _ => fun
  | [d1, d2] => { results := [.lit (.bool false)], args := [d1, d2] }
  | _ => none }
def PathPlaysWrongFalsely : Prop := pathPlaysRow.holds Try.pinned (OpenSpec.ofChange pathPlaysWrong)

/- THE SECOND FORM. 'bulk': how many values and letters a reading holds, each counted each time it is reached (what is shared counts as often as it is met; a slice's spare places count too). A statement '..UptoSaid' is the law's where the arguments, and the package variables that the reading takes, are together of bulk at most 1048576: NARROWER than '..Said'. Prove '..Said' where nothing that the law and all that it calls make is longer than what came in: it says more and counts as full. Else prove '..UptoSaid'. A law counts once. -/
mutual
def uptoBulk {H : Type} : DataW H → Nat
  | .lit (.string bytes) => bytes.length + 1
  | .lit _ => 1
  | .nil => 1
  | .ptr d => uptoBulk d + 1
  | .slice elems spare => uptoBulkAll elems + uptoBulkAll spare + 1
  | .agg parts => uptoBulkAll parts + 1
  | .iface _ d => uptoBulk d + 1
  | .map entries => uptoBulkEntries entries + 1
  | .held _ => 1
def uptoBulkAll {H : Type} : List (DataW H) → Nat
  | [] => 0
  | d :: r => uptoBulk d + uptoBulkAll r
def uptoBulkEntries {H : Type} : List (Lit × DataW H) → Nat
  | [] => 0
  | x :: r => uptoBulkEntry x + uptoBulkEntries r
def uptoBulkEntry {H : Type} : Lit × DataW H → Nat
  | (.string bytes, d) => bytes.length + uptoBulk d + 1
  | (_, d) => uptoBulk d + 1
 end
def uptoSmall : (H : Type) → List (DataW H) → Bool := fun _ ds => decide (uptoBulkAll ds ≤ 1048576)
def OpenSpec.upto (s : _root_.Go.ChangeSpec) : _root_.Go.OpenSpec := { _root_.Go.OpenSpec.ofChange s with cond := some uptoSmall }

/-- 'haulierlaw07.EventPacks', WHERE WHAT IT READS IS OF BULK AT MOST 1048576: true; the input reads as it did. -/
def eventPacksUptoRow : OpenClaim := { program := "ytgckbcljlkkceaa", sum := "a4eb8fb2ac9a7eb1bec2b6975c4f1f8c5507993c1765f298b8c009e3c08a8ed8", func := "haulier/haulierlaw07.EventPacks", spec := "eventPacks", unfollowed := true, recurses := true, apart := false, narrowed := true }
def EventPacksUptoSaid : Prop := eventPacksUptoRow.holds Try.pinned (OpenSpec.upto eventPacksSpec)

/-- 'haulierlaw07.EventUnpacks', WHERE WHAT IT READS IS OF BULK AT MOST 1048576: true; the input reads as it did. -/
def eventUnpacksUptoRow : OpenClaim := { program := "ytgckbcljlkkceaa", sum := "a4eb8fb2ac9a7eb1bec2b6975c4f1f8c5507993c1765f298b8c009e3c08a8ed8", func := "haulier/haulierlaw07.EventUnpacks", spec := "eventUnpacks", unfollowed := true, recurses := true, apart := false, narrowed := true }
def EventUnpacksUptoSaid : Prop := eventUnpacksUptoRow.holds Try.pinned (OpenSpec.upto eventUnpacksSpec)

/-- 'haulierlaw07.EventBack', WHERE WHAT IT READS IS OF BULK AT MOST 1048576: true; the input reads as it did. -/
def eventBackUptoRow : OpenClaim := { program := "ytgckbcljlkkceaa", sum := "a4eb8fb2ac9a7eb1bec2b6975c4f1f8c5507993c1765f298b8c009e3c08a8ed8", func := "haulier/haulierlaw07.EventBack", spec := "eventBack", unfollowed := true, recurses := true, apart := false, narrowed := true }
def EventBackUptoSaid : Prop := eventBackUptoRow.holds Try.pinned (OpenSpec.upto eventBackSpec)

/-- 'haulierlaw18.PathPlays', WHERE WHAT IT READS IS OF BULK AT MOST 1048576: true; the input reads as it did. -/
def pathPlaysUptoRow : OpenClaim := { program := "ytgckbcljlkkceaa", sum := "a4eb8fb2ac9a7eb1bec2b6975c4f1f8c5507993c1765f298b8c009e3c08a8ed8", func := "haulier/haulierlaw18.PathPlays", spec := "pathPlays", unfollowed := true, recurses := true, apart := false, narrowed := true }
def PathPlaysUptoSaid : Prop := pathPlaysUptoRow.holds Try.pinned (OpenSpec.upto pathPlaysSpec)

end Rows
end Go.Proofs.Ytgckbcljlkkceaa
