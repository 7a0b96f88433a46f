/-
  No cell of these rows narrows 'for every input' (looked for: loops, veiled, ifaces, maps, wideKeys, modest, calm, conditions, laid).
  DERIVED. THE GIVEN ROWS OF THIS SEAT. 12 by the template 'for every input the law returns true; each argument reads behind the call as it read before'; 0 by the template 'total and deterministic' (their statements: YtkibmjcooffglaaGreatTotals.lean).
  GIVEN WITH THE SEED: the statements are not yours to turn. If you find one false, say at which input.
  Laid BY PROGRAM, IN A SANDBOX (cutbox-rows.mjs): the forced cells as the released guide's own fill.sh prints them over the translation 258b0620245c38ff… (all of the seat's roots in one cut). By AI agents, Wed Nov 11 2026. No macro, syntax, notation, axiom, sorry.
-/
import Derived.Test.YtkibmjcooffglaaGreatChecked
import GoSem.Claim
import GoSem.ClaimJoined
import GoSem.ClaimMapViews
import Derived.JoinedTies
import Derived.KernelRfl
namespace Go.Proofs.YtkibmjcooffglaaGreat
/- THE CELL 'sum', in the pinned program and in every row, IS THE sha256 OF THE DUMP (.gsa) THAT YtkibmjcooffglaaGreatProg.lean LOADS. Nothing in Lean hashes anything: it is a label: what it is worth is what the hold of that sum in a sandbox is worth. -/
noncomputable def Tryz.pinned : Pinned := { name := "ytkibmjcooffglaagreat", sum := "258b0620245c38ff5c0ca3c88509b671f85954fd8bcd513caca5a7bcf97f047f", checked := Tryz.checked }
namespace Rows
def none {H : Type} : Left H := { results := [], args := [] }

/-- 'haulierlaw19.EndTurns': WHATEVER THE INPUT: true; the input reads as it did. -/
def endTurnsSpec : ChangeSpec := { name := "endTurns", fn := fun _ => fun
  | [d] => { results := [.lit (.bool true)], args := [d] }
  | _ => none }
def endTurnsRow : OpenClaim := { program := "ytkibmjcooffglaagreat", sum := "258b0620245c38ff5c0ca3c88509b671f85954fd8bcd513caca5a7bcf97f047f", func := "haulier/haulierlaw19.EndTurns", spec := "endTurns", inPlace := ["sync/atomic.AddInt64"], unfollowed := true, recurses := true, apart := false }
def EndTurnsSaid : Prop := endTurnsRow.holds Tryz.pinned (OpenSpec.ofChange endTurnsSpec)

/-- ITS FALSE NEIGHBOUR: 'it returns false'. Refute it at one input. -/
def endTurnsWrong : ChangeSpec := { name := "endTurns", fn := fun _ => fun
  | [d] => { results := [.lit (.bool false)], args := [d] }
  | _ => none }
def EndTurnsWrongFalsely : Prop := endTurnsRow.holds Tryz.pinned (OpenSpec.ofChange endTurnsWrong)

/-- 'haulierlaw19.EndSends': WHATEVER THE INPUT: true; the input reads as it did. -/
def endSendsSpec : ChangeSpec := { name := "endSends", fn := fun _ => fun
  | [d] => { results := [.lit (.bool true)], args := [d] }
  | _ => none }
def endSendsRow : OpenClaim := { program := "ytkibmjcooffglaagreat", sum := "258b0620245c38ff5c0ca3c88509b671f85954fd8bcd513caca5a7bcf97f047f", func := "haulier/haulierlaw19.EndSends", spec := "endSends", inPlace := ["sync/atomic.AddInt64"], unfollowed := true, recurses := true, apart := false }
def EndSendsSaid : Prop := endSendsRow.holds Tryz.pinned (OpenSpec.ofChange endSendsSpec)

/-- ITS FALSE NEIGHBOUR: 'it returns false'. Refute it at one input. -/
def endSendsWrong : ChangeSpec := { name := "endSends", fn := fun _ => fun
  | [d] => { results := [.lit (.bool false)], args := [d] }
  | _ => none }
def EndSendsWrongFalsely : Prop := endSendsRow.holds Tryz.pinned (OpenSpec.ofChange endSendsWrong)

/-- 'haulierlaw19.EndAnswers': WHATEVER THE INPUT: true; the input reads as it did. -/
def endAnswersSpec : ChangeSpec := { name := "endAnswers", fn := fun _ => fun
  | [d] => { results := [.lit (.bool true)], args := [d] }
  | _ => none }
def endAnswersRow : OpenClaim := { program := "ytkibmjcooffglaagreat", sum := "258b0620245c38ff5c0ca3c88509b671f85954fd8bcd513caca5a7bcf97f047f", func := "haulier/haulierlaw19.EndAnswers", spec := "endAnswers", inPlace := ["sync/atomic.AddInt64"], unfollowed := true, recurses := true, apart := false }
def EndAnswersSaid : Prop := endAnswersRow.holds Tryz.pinned (OpenSpec.ofChange endAnswersSpec)

/-- ITS FALSE NEIGHBOUR: 'it returns false'. Refute it at one input. -/
def endAnswersWrong : ChangeSpec := { name := "endAnswers", fn := fun _ => fun
  | [d] => { results := [.lit (.bool false)], args := [d] }
  | _ => none }
def EndAnswersWrongFalsely : Prop := endAnswersRow.holds Tryz.pinned (OpenSpec.ofChange endAnswersWrong)

/-- 'haulierlaw19.EndFalls': WHATEVER THE INPUT: true; the input reads as it did. -/
def endFallsSpec : ChangeSpec := { name := "endFalls", fn := fun _ => fun
  | [d] => { results := [.lit (.bool true)], args := [d] }
  | _ => none }
def endFallsRow : OpenClaim := { program := "ytkibmjcooffglaagreat", sum := "258b0620245c38ff5c0ca3c88509b671f85954fd8bcd513caca5a7bcf97f047f", func := "haulier/haulierlaw19.EndFalls", spec := "endFalls", inPlace := ["sync/atomic.AddInt64"], unfollowed := true, recurses := true, apart := false }
def EndFallsSaid : Prop := endFallsRow.holds Tryz.pinned (OpenSpec.ofChange endFallsSpec)

/-- ITS FALSE NEIGHBOUR: 'it returns false'. Refute it at one input. -/
def endFallsWrong : ChangeSpec := { name := "endFalls", fn := fun _ => fun
  | [d] => { results := [.lit (.bool false)], args := [d] }
  | _ => none }
def EndFallsWrongFalsely : Prop := endFallsRow.holds Tryz.pinned (OpenSpec.ofChange endFallsWrong)

/-- 'haulierlaw19.EndOwn': WHATEVER THE INPUT: true; the input reads as it did. -/
def endOwnSpec : ChangeSpec := { name := "endOwn", fn := fun _ => fun
  | [d] => { results := [.lit (.bool true)], args := [d] }
  | _ => none }
def endOwnRow : OpenClaim := { program := "ytkibmjcooffglaagreat", sum := "258b0620245c38ff5c0ca3c88509b671f85954fd8bcd513caca5a7bcf97f047f", func := "haulier/haulierlaw19.EndOwn", spec := "endOwn", inPlace := ["sync/atomic.AddInt64"], unfollowed := true, recurses := true, apart := false }
def EndOwnSaid : Prop := endOwnRow.holds Tryz.pinned (OpenSpec.ofChange endOwnSpec)

/-- ITS FALSE NEIGHBOUR: 'it returns false'. Refute it at one input. -/
def endOwnWrong : ChangeSpec := { name := "endOwn", fn := fun _ => fun
  | [d] => { results := [.lit (.bool false)], args := [d] }
  | _ => none }
def EndOwnWrongFalsely : Prop := endOwnRow.holds Tryz.pinned (OpenSpec.ofChange endOwnWrong)

/-- 'haulierlaw19.EndWaits': WHATEVER THE INPUT: true; the input reads as it did. -/
def endWaitsSpec : ChangeSpec := { name := "endWaits", fn := fun _ => fun
  | [d] => { results := [.lit (.bool true)], args := [d] }
  | _ => none }
def endWaitsRow : OpenClaim := { program := "ytkibmjcooffglaagreat", sum := "258b0620245c38ff5c0ca3c88509b671f85954fd8bcd513caca5a7bcf97f047f", func := "haulier/haulierlaw19.EndWaits", spec := "endWaits", inPlace := ["sync/atomic.AddInt64"], unfollowed := true, recurses := true, apart := false }
def EndWaitsSaid : Prop := endWaitsRow.holds Tryz.pinned (OpenSpec.ofChange endWaitsSpec)

/-- ITS FALSE NEIGHBOUR: 'it returns false'. Refute it at one input. -/
def endWaitsWrong : ChangeSpec := { name := "endWaits", fn := fun _ => fun
  | [d] => { results := [.lit (.bool false)], args := [d] }
  | _ => none }
def EndWaitsWrongFalsely : Prop := endWaitsRow.holds Tryz.pinned (OpenSpec.ofChange endWaitsWrong)

/-- 'haulierlaw19.EndAgain': WHATEVER THE INPUT: true; the input reads as it did. -/
def endAgainSpec : ChangeSpec := { name := "endAgain", fn := fun _ => fun
  | [d1, d2] => { results := [.lit (.bool true)], args := [d1, d2] }
  | _ => none }
def endAgainRow : OpenClaim := { program := "ytkibmjcooffglaagreat", sum := "258b0620245c38ff5c0ca3c88509b671f85954fd8bcd513caca5a7bcf97f047f", func := "haulier/haulierlaw19.EndAgain", spec := "endAgain", inPlace := ["sync/atomic.AddInt64"], unfollowed := true, recurses := true, apart := false }
def EndAgainSaid : Prop := endAgainRow.holds Tryz.pinned (OpenSpec.ofChange endAgainSpec)

/-- ITS FALSE NEIGHBOUR: 'it returns false'. Refute it at one input. -/
def endAgainWrong : ChangeSpec := { name := "endAgain", fn := fun _ => fun
  | [d1, d2] => { results := [.lit (.bool false)], args := [d1, d2] }
  | _ => none }
def EndAgainWrongFalsely : Prop := endAgainRow.holds Tryz.pinned (OpenSpec.ofChange endAgainWrong)

/-- 'haulierlaw19.EndSide': WHATEVER THE INPUT: true; the input reads as it did. -/
def endSideSpec : ChangeSpec := { name := "endSide", fn := fun _ => fun
  | [d1, d2] => { results := [.lit (.bool true)], args := [d1, d2] }
  | _ => none }
def endSideRow : OpenClaim := { program := "ytkibmjcooffglaagreat", sum := "258b0620245c38ff5c0ca3c88509b671f85954fd8bcd513caca5a7bcf97f047f", func := "haulier/haulierlaw19.EndSide", spec := "endSide", inPlace := ["sync/atomic.AddInt64"], unfollowed := true, recurses := true, apart := false }
def EndSideSaid : Prop := endSideRow.holds Tryz.pinned (OpenSpec.ofChange endSideSpec)

/-- ITS FALSE NEIGHBOUR: 'it returns false'. Refute it at one input. -/
def endSideWrong : ChangeSpec := { name := "endSide", fn := fun _ => fun
  | [d1, d2] => { results := [.lit (.bool false)], args := [d1, d2] }
  | _ => none }
def EndSideWrongFalsely : Prop := endSideRow.holds Tryz.pinned (OpenSpec.ofChange endSideWrong)

/-- 'haulierlaw19.EndJoins': WHATEVER THE INPUT: true; the input reads as it did. -/
def endJoinsSpec : ChangeSpec := { name := "endJoins", fn := fun _ => fun
  | [d1, d2] => { results := [.lit (.bool true)], args := [d1, d2] }
  | _ => none }
def endJoinsRow : OpenClaim := { program := "ytkibmjcooffglaagreat", sum := "258b0620245c38ff5c0ca3c88509b671f85954fd8bcd513caca5a7bcf97f047f", func := "haulier/haulierlaw19.EndJoins", spec := "endJoins", inPlace := ["sync/atomic.AddInt64"], unfollowed := true, recurses := true, apart := false }
def EndJoinsSaid : Prop := endJoinsRow.holds Tryz.pinned (OpenSpec.ofChange endJoinsSpec)

/-- ITS FALSE NEIGHBOUR: 'it returns false'. Refute it at one input. -/
def endJoinsWrong : ChangeSpec := { name := "endJoins", fn := fun _ => fun
  | [d1, d2] => { results := [.lit (.bool false)], args := [d1, d2] }
  | _ => none }
def EndJoinsWrongFalsely : Prop := endJoinsRow.holds Tryz.pinned (OpenSpec.ofChange endJoinsWrong)

/-- 'haulierlaw19.EndMeters': WHATEVER THE INPUT: true; the input reads as it did. -/
def endMetersSpec : ChangeSpec := { name := "endMeters", fn := fun _ => fun
  | [d] => { results := [.lit (.bool true)], args := [d] }
  | _ => none }
def endMetersRow : OpenClaim := { program := "ytkibmjcooffglaagreat", sum := "258b0620245c38ff5c0ca3c88509b671f85954fd8bcd513caca5a7bcf97f047f", func := "haulier/haulierlaw19.EndMeters", spec := "endMeters", inPlace := ["sync/atomic.AddInt64", "sync/atomic.LoadInt64"], unfollowed := true, recurses := true, apart := false }
def EndMetersSaid : Prop := endMetersRow.holds Tryz.pinned (OpenSpec.ofChange endMetersSpec)

/-- ITS FALSE NEIGHBOUR: 'it returns false'. Refute it at one input. -/
def endMetersWrong : ChangeSpec := { name := "endMeters", fn := fun _ => fun
  | [d] => { results := [.lit (.bool false)], args := [d] }
  | _ => none }
def EndMetersWrongFalsely : Prop := endMetersRow.holds Tryz.pinned (OpenSpec.ofChange endMetersWrong)

/-- 'haulierlaw19.EndStays': WHATEVER THE INPUT: true; the input reads as it did. -/
def endStaysSpec : ChangeSpec := { name := "endStays", fn := fun _ => fun
  | [d] => { results := [.lit (.bool true)], args := [d] }
  | _ => none }
def endStaysRow : OpenClaim := { program := "ytkibmjcooffglaagreat", sum := "258b0620245c38ff5c0ca3c88509b671f85954fd8bcd513caca5a7bcf97f047f", func := "haulier/haulierlaw19.EndStays", spec := "endStays", inPlace := ["sync/atomic.AddInt64"], unfollowed := true, recurses := true, apart := false }
def EndStaysSaid : Prop := endStaysRow.holds Tryz.pinned (OpenSpec.ofChange endStaysSpec)

/-- ITS FALSE NEIGHBOUR: 'it returns false'. Refute it at one input. -/
def endStaysWrong : ChangeSpec := { name := "endStays", fn := fun _ => fun
  | [d] => { results := [.lit (.bool false)], args := [d] }
  | _ => none }
def EndStaysWrongFalsely : Prop := endStaysRow.holds Tryz.pinned (OpenSpec.ofChange endStaysWrong)

/-- 'haulierlaw19.EndPlays': WHATEVER THE INPUT: true; the input reads as it did. -/
def endPlaysSpec : ChangeSpec := { name := "endPlays", fn := fun _ => fun
  | [d1, d2, d3] => { results := [.lit (.bool true)], args := [d1, d2, d3] }
  | _ => none }
def endPlaysRow : OpenClaim := { program := "ytkibmjcooffglaagreat", sum := "258b0620245c38ff5c0ca3c88509b671f85954fd8bcd513caca5a7bcf97f047f", func := "haulier/haulierlaw19.EndPlays", spec := "endPlays", inPlace := ["sync/atomic.AddInt64", "sync/atomic.LoadInt64"], unfollowed := true, recurses := true, apart := false }
def EndPlaysSaid : Prop := endPlaysRow.holds Tryz.pinned (OpenSpec.ofChange endPlaysSpec)

/-- ITS FALSE NEIGHBOUR: 'it returns false'. Refute it at one input. -/
def endPlaysWrong : ChangeSpec := { name := "endPlays", fn := fun _ => fun
  | [d1, d2, d3] => { results := [.lit (.bool false)], args := [d1, d2, d3] }
  | _ => none }
def EndPlaysWrongFalsely : Prop := endPlaysRow.holds Tryz.pinned (OpenSpec.ofChange endPlaysWrong)

/- THE SECOND FORM. 'bulk': how many values and letters a reading holds, each counted each time it is reached (what is shared counts as often as it is met; a slice's spare places count too). A statement '..UptoSaid' is the law's where the arguments, and the package variables that the reading takes, are together of bulk at most 1048576: NARROWER than '..Said'. Prove '..Said' where nothing that the law and all that it calls make is longer than what came in: it says more and counts as full. Else prove '..UptoSaid'. A law counts once. -/
mutual
def uptoBulk {H : Type} : DataW H → Nat
  | .lit (.string bytes) => bytes.length + 1
  | .lit _ => 1
  | .nil => 1
  | .ptr d => uptoBulk d + 1
  | .slice elems spare => uptoBulkAll elems + uptoBulkAll spare + 1
  | .agg parts => uptoBulkAll parts + 1
  | .iface _ d => uptoBulk d + 1
  | .map entries => uptoBulkEntries entries + 1
  | .held _ => 1
def uptoBulkAll {H : Type} : List (DataW H) → Nat
  | [] => 0
  | d :: r => uptoBulk d + uptoBulkAll r
def uptoBulkEntries {H : Type} : List (Lit × DataW H) → Nat
  | [] => 0
  | x :: r => uptoBulkEntry x + uptoBulkEntries r
def uptoBulkEntry {H : Type} : Lit × DataW H → Nat
  | (.string bytes, d) => bytes.length + uptoBulk d + 1
  | (_, d) => uptoBulk d + 1
 end
def uptoSmall : (H : Type) → List (DataW H) → Bool := fun _ ds => decide (uptoBulkAll ds ≤ 1048576)
def OpenSpec.upto (s : _root_.Go.ChangeSpec) : _root_.Go.OpenSpec := { _root_.Go.OpenSpec.ofChange s with cond := some uptoSmall }

/-- 'haulierlaw19.EndTurns', WHERE WHAT IT READS IS OF BULK AT MOST 1048576: true; the input reads as it did. -/
def endTurnsUptoRow : OpenClaim := { program := "ytkibmjcooffglaagreat", sum := "258b0620245c38ff5c0ca3c88509b671f85954fd8bcd513caca5a7bcf97f047f", func := "haulier/haulierlaw19.EndTurns", spec := "endTurns", inPlace := ["sync/atomic.AddInt64"], unfollowed := true, recurses := true, apart := false, narrowed := true }
def EndTurnsUptoSaid : Prop := endTurnsUptoRow.holds Tryz.pinned (OpenSpec.upto endTurnsSpec)

/-- 'haulierlaw19.EndSends', WHERE WHAT IT READS IS OF BULK AT MOST 1048576: true; the input reads as it did. -/
def endSendsUptoRow : OpenClaim := { program := "ytkibmjcooffglaagreat", sum := "258b0620245c38ff5c0ca3c88509b671f85954fd8bcd513caca5a7bcf97f047f", func := "haulier/haulierlaw19.EndSends", spec := "endSends", inPlace := ["sync/atomic.AddInt64"], unfollowed := true, recurses := true, apart := false, narrowed := true }
def EndSendsUptoSaid : Prop := endSendsUptoRow.holds Tryz.pinned (OpenSpec.upto endSendsSpec)

/-- 'haulierlaw19.EndAnswers', WHERE WHAT IT READS IS OF BULK AT MOST 1048576: true; the input reads as it did. -/
def endAnswersUptoRow : OpenClaim := { program := "ytkibmjcooffglaagreat", sum := "258b0620245c38ff5c0ca3c88509b671f85954fd8bcd513caca5a7bcf97f047f", func := "haulier/haulierlaw19.EndAnswers", spec := "endAnswers", inPlace := ["sync/atomic.AddInt64"], unfollowed := true, recurses := true, apart := false, narrowed := true }
def EndAnswersUptoSaid : Prop := endAnswersUptoRow.holds Tryz.pinned (OpenSpec.upto endAnswersSpec)

/-- 'haulierlaw19.EndFalls', WHERE WHAT IT READS IS OF BULK AT MOST 1048576: true; the input reads as it did. -/
def endFallsUptoRow : OpenClaim := { program := "ytkibmjcooffglaagreat", sum := "258b0620245c38ff5c0ca3c88509b671f85954fd8bcd513caca5a7bcf97f047f", func := "haulier/haulierlaw19.EndFalls", spec := "endFalls", inPlace := ["sync/atomic.AddInt64"], unfollowed := true, recurses := true, apart := false, narrowed := true }
def EndFallsUptoSaid : Prop := endFallsUptoRow.holds Tryz.pinned (OpenSpec.upto endFallsSpec)

/-- 'haulierlaw19.EndOwn', WHERE WHAT IT READS IS OF BULK AT MOST 1048576: true; the input reads as it did. -/
def endOwnUptoRow : OpenClaim := { program := "ytkibmjcooffglaagreat", sum := "258b0620245c38ff5c0ca3c88509b671f85954fd8bcd513caca5a7bcf97f047f", func := "haulier/haulierlaw19.EndOwn", spec := "endOwn", inPlace := ["sync/atomic.AddInt64"], unfollowed := true, recurses := true, apart := false, narrowed := true }
def EndOwnUptoSaid : Prop := endOwnUptoRow.holds Tryz.pinned (OpenSpec.upto endOwnSpec)

/-- 'haulierlaw19.EndWaits', WHERE WHAT IT READS IS OF BULK AT MOST 1048576: true; the input reads as it did. -/
def endWaitsUptoRow : OpenClaim := { program := "ytkibmjcooffglaagreat", sum := "258b0620245c38ff5c0ca3c88509b671f85954fd8bcd513caca5a7bcf97f047f", func := "haulier/haulierlaw19.EndWaits", spec := "endWaits", inPlace := ["sync/atomic.AddInt64"], unfollowed := true, recurses := true, apart := false, narrowed := true }
def EndWaitsUptoSaid : Prop := endWaitsUptoRow.holds Tryz.pinned (OpenSpec.upto endWaitsSpec)

/-- 'haulierlaw19.EndAgain', WHERE WHAT IT READS IS OF BULK AT MOST 1048576: true; the input reads as it did. -/
def endAgainUptoRow : OpenClaim := { program := "ytkibmjcooffglaagreat", sum := "258b0620245c38ff5c0ca3c88509b671f85954fd8bcd513caca5a7bcf97f047f", func := "haulier/haulierlaw19.EndAgain", spec := "endAgain", inPlace := ["sync/atomic.AddInt64"], unfollowed := true, recurses := true, apart := false, narrowed := true }
def EndAgainUptoSaid : Prop := endAgainUptoRow.holds Tryz.pinned (OpenSpec.upto endAgainSpec)

/-- 'haulierlaw19.EndSide', WHERE WHAT IT READS IS OF BULK AT MOST 1048576: true; the input reads as it did. -/
def endSideUptoRow : OpenClaim := { program := "ytkibmjcooffglaagreat", sum := "258b0620245c38ff5c0ca3c88509b671f85954fd8bcd513caca5a7bcf97f047f", func := "haulier/haulierlaw19.EndSide", spec := "endSide", inPlace := ["sync/atomic.AddInt64"], unfollowed := true, recurses := true, apart := false, narrowed := true }
def EndSideUptoSaid : Prop := endSideUptoRow.holds Tryz.pinned (OpenSpec.upto endSideSpec)

/-- 'haulierlaw19.EndJoins', WHERE WHAT IT READS IS OF BULK AT MOST 1048576: true; the input reads as it did. -/
def endJoinsUptoRow : OpenClaim := { program := "ytkibmjcooffglaagreat", sum := "258b0620245c38ff5c0ca3c88509b671f85954fd8bcd513caca5a7bcf97f047f", func := "haulier/haulierlaw19.EndJoins", spec := "endJoins", inPlace := ["sync/atomic.AddInt64"], unfollowed := true, recurses := true, apart := false, narrowed := true }
def EndJoinsUptoSaid : Prop := endJoinsUptoRow.holds Tryz.pinned (OpenSpec.upto endJoinsSpec)

/-- 'haulierlaw19.EndMeters', WHERE WHAT IT READS IS OF BULK AT MOST 1048576: true; the input reads as it did. -/
def endMetersUptoRow : OpenClaim := { program := "ytkibmjcooffglaagreat", sum := "258b0620245c38ff5c0ca3c88509b671f85954fd8bcd513caca5a7bcf97f047f", func := "haulier/haulierlaw19.EndMeters", spec := "endMeters", inPlace := ["sync/atomic.AddInt64", "sync/atomic.LoadInt64"], unfollowed := true, recurses := true, apart := false, narrowed := true }
def EndMetersUptoSaid : Prop := endMetersUptoRow.holds Tryz.pinned (OpenSpec.upto endMetersSpec)

/-- 'haulierlaw19.EndStays', WHERE WHAT IT READS IS OF BULK AT MOST 1048576: true; the input reads as it did. -/
def endStaysUptoRow : OpenClaim := { program := "ytkibmjcooffglaagreat", sum := "258b0620245c38ff5c0ca3c88509b671f85954fd8bcd513caca5a7bcf97f047f", func := "haulier/haulierlaw19.EndStays", spec := "endStays", inPlace := ["sync/atomic.AddInt64"], unfollowed := true, recurses := true, apart := false, narrowed := true }
def EndStaysUptoSaid : Prop := endStaysUptoRow.holds Tryz.pinned (OpenSpec.upto endStaysSpec)

/-- 'haulierlaw19.EndPlays', WHERE WHAT IT READS IS OF BULK AT MOST 1048576: true; the input reads as it did. -/
def endPlaysUptoRow : OpenClaim := { program := "ytkibmjcooffglaagreat", sum := "258b0620245c38ff5c0ca3c88509b671f85954fd8bcd513caca5a7bcf97f047f", func := "haulier/haulierlaw19.EndPlays", spec := "endPlays", inPlace := ["sync/atomic.AddInt64", "sync/atomic.LoadInt64"], unfollowed := true, recurses := true, apart := false, narrowed := true }
def EndPlaysUptoSaid : Prop := endPlaysUptoRow.holds Tryz.pinned (OpenSpec.upto endPlaysSpec)

end Rows
end Go.Proofs.YtkibmjcooffglaaGreat
