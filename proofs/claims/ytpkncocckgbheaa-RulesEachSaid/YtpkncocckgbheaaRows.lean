/-
  No cell of these rows narrows 'for every input' (looked for: loops, veiled, ifaces, maps, wideKeys, modest, calm, conditions, laid).
  DERIVED. THE GIVEN ROWS OF THIS SEAT. 4 by the template 'for every input the law returns true; each argument reads behind the call as it read before'; 0 by the template 'total and deterministic' (their statements: YtpkncocckgbheaaTotals.lean).
  GIVEN WITH THE SEED: the statements are not yours to turn. If you find one false, say at which input.
  Laid BY PROGRAM, IN A SANDBOX (cutbox-rows.mjs): the forced cells as the released guide's own fill.sh prints them over the translation dff8ebbaa0978bfa… (all of the seat's roots in one cut). By AI agents, Wed Nov 11 2026. No macro, syntax, notation, axiom, sorry.
-/
import Derived.Test.YtpkncocckgbheaaChecked
import GoSem.Claim
import GoSem.ClaimJoined
import GoSem.ClaimMapViews
import Derived.JoinedTies
import Derived.KernelRfl
namespace Go.Proofs.Ytpkncocckgbheaa
/- THE CELL 'sum', in the pinned program and in every row, IS THE sha256 OF THE DUMP (.gsa) THAT YtpkncocckgbheaaProg.lean LOADS. Nothing in Lean hashes anything: it is a label: what it is worth is what the hold of that sum in a sandbox is worth. -/
noncomputable def Try.pinned : Pinned := { name := "ytpkncocckgbheaa", sum := "dff8ebbaa0978bfaa73926427bce62e41e74f7e93332d736053f8be151604651", checked := Try.checked }
namespace Rows
def none {H : Type} : Left H := { results := [], args := [] }

/-- 'haulierlaw23.RulesEach': WHATEVER THE INPUT: true; the input reads as it did. -/
def rulesEachSpec : ChangeSpec := { name := "rulesEach", fn := fun _ => fun
  | [d] => { results := [.lit (.bool true)], args := [d] }
  | _ => none }
def rulesEachRow : OpenClaim := { program := "ytpkncocckgbheaa", sum := "dff8ebbaa0978bfaa73926427bce62e41e74f7e93332d736053f8be151604651", func := "haulier/haulierlaw23.RulesEach", spec := "rulesEach", unfollowed := true, recurses := true, plainKeys := false, apart := false }
def RulesEachSaid : Prop := rulesEachRow.holds Try.pinned (OpenSpec.ofChange rulesEachSpec)

/-- ITS FALSE NEIGHBOUR: 'it returns false'. Refute it at one input. -/
def rulesEachWrong : ChangeSpec := { name := "rulesEach", fn := fun _ => fun
  | [d] => { results := [.lit (.bool false)], args := [d] }
  | _ => none }
def RulesEachWrongFalsely : Prop := rulesEachRow.holds Try.pinned (OpenSpec.ofChange rulesEachWrong)

/-- 'haulierlaw23.RulesSide': WHATEVER THE INPUT: true; the input reads as it did. -/
def rulesSideSpec : ChangeSpec := { name := "rulesSide", fn := fun _ => fun
  | [d] => { results := [.lit (.bool true)], args := [d] }
  | _ => none }
def rulesSideRow : OpenClaim := { program := "ytpkncocckgbheaa", sum := "dff8ebbaa0978bfaa73926427bce62e41e74f7e93332d736053f8be151604651", func := "haulier/haulierlaw23.RulesSide", spec := "rulesSide", unfollowed := true, recurses := true, plainKeys := false, apart := false }
def RulesSideSaid : Prop := rulesSideRow.holds Try.pinned (OpenSpec.ofChange rulesSideSpec)

/-- ITS FALSE NEIGHBOUR: 'it returns false'. Refute it at one input. -/
def rulesSideWrong : ChangeSpec := { name := "rulesSide", fn := fun _ => fun
  | [d] => { results := [.lit (.bool false)], args := [d] }
  | _ => none }
def RulesSideWrongFalsely : Prop := rulesSideRow.holds Try.pinned (OpenSpec.ofChange rulesSideWrong)

/-- 'haulierlaw23.RulesLimits': WHATEVER THE INPUT: true; the input reads as it did. -/
def rulesLimitsSpec : ChangeSpec := { name := "rulesLimits", fn := fun _ => fun
  | [d1, d2] => { results := [.lit (.bool true)], args := [d1, d2] }
  | _ => none }
def rulesLimitsRow : OpenClaim := { program := "ytpkncocckgbheaa", sum := "dff8ebbaa0978bfaa73926427bce62e41e74f7e93332d736053f8be151604651", func := "haulier/haulierlaw23.RulesLimits", spec := "rulesLimits", unfollowed := true, recurses := true, plainKeys := false, apart := false }
def RulesLimitsSaid : Prop := rulesLimitsRow.holds Try.pinned (OpenSpec.ofChange rulesLimitsSpec)

/-- ITS FALSE NEIGHBOUR: 'it returns false'. Refute it at one input. -/
def rulesLimitsWrong : ChangeSpec := { name := "rulesLimits", fn := fun _ => fun
  | [d1, d2] => { results := [.lit (.bool false)], args := [d1, d2] }
  | _ => none }
def RulesLimitsWrongFalsely : Prop := rulesLimitsRow.holds Try.pinned (OpenSpec.ofChange rulesLimitsWrong)

/-- 'haulierlaw23.RulesReads': WHATEVER THE INPUT: true; the input reads as it did. -/
def rulesReadsSpec : ChangeSpec := { name := "rulesReads", fn := fun _ => fun
  | [d] => { results := [.lit (.bool true)], args := [d] }
  | _ => none }
def rulesReadsRow : OpenClaim := { program := "ytpkncocckgbheaa", sum := "dff8ebbaa0978bfaa73926427bce62e41e74f7e93332d736053f8be151604651", func := "haulier/haulierlaw23.RulesReads", spec := "rulesReads", unfollowed := true, recurses := true, plainKeys := false, apart := false }
def RulesReadsSaid : Prop := rulesReadsRow.holds Try.pinned (OpenSpec.ofChange rulesReadsSpec)

/-- ITS FALSE NEIGHBOUR: 'it returns false'. Refute it at one input. -/
def rulesReadsWrong : ChangeSpec := { name := "rulesReads", fn := fun _ => fun
  | [d] => { results := [.lit (.bool false)], args := [d] }
  | _ => none }
def RulesReadsWrongFalsely : Prop := rulesReadsRow.holds Try.pinned (OpenSpec.ofChange rulesReadsWrong)

/- THE SECOND FORM. 'bulk': how many values and letters a reading holds, each counted each time it is reached (what is shared counts as often as it is met; a slice's spare places count too). A statement '..UptoSaid' is the law's where the arguments, and the package variables that the reading takes, are together of bulk at most 1048576: NARROWER than '..Said'. Prove '..Said' where nothing that the law and all that it calls make is longer than what came in: it says more and counts as full. Else prove '..UptoSaid'. A law counts once. -/
mutual
def uptoBulk {H : Type} : DataW H → Nat
  | .lit (.string bytes) => bytes.length + 1
  | .lit _ => 1
  | .nil => 1
  | .ptr d => uptoBulk d + 1
  | .slice elems spare => uptoBulkAll elems + uptoBulkAll spare + 1
  | .agg parts => uptoBulkAll parts + 1
  | .iface _ d => uptoBulk d + 1
  | .map entries => uptoBulkEntries entries + 1
  | .held _ => 1
def uptoBulkAll {H : Type} : List (DataW H) → Nat
  | [] => 0
  | d :: r => uptoBulk d + uptoBulkAll r
def uptoBulkEntries {H : Type} : List (Lit × DataW H) → Nat
  | [] => 0
  | x :: r => uptoBulkEntry x + uptoBulkEntries r
def uptoBulkEntry {H : Type} : Lit × DataW H → Nat
  | (.string bytes, d) => bytes.length + uptoBulk d + 1
  | (_, d) => uptoBulk d + 1
 end
def uptoSmall : (H : Type) → List (DataW H) → Bool := fun _ ds => decide (uptoBulkAll ds ≤ 1048576)
def OpenSpec.upto (s : _root_.Go.ChangeSpec) : _root_.Go.OpenSpec := { _root_.Go.OpenSpec.ofChange s with cond := some uptoSmall }

/-- 'haulierlaw23.RulesEach', WHERE WHAT IT READS IS OF BULK AT MOST 1048576: true; the input reads as it did. -/
def rulesEachUptoRow : OpenClaim := { program := "ytpkncocckgbheaa", sum := "dff8ebbaa0978bfaa73926427bce62e41e74f7e93332d736053f8be151604651", func := "haulier/haulierlaw23.RulesEach", spec := "rulesEach", unfollowed := true, recurses := true, plainKeys := false, apart := false, narrowed := true }
def RulesEachUptoSaid : Prop := rulesEachUptoRow.holds Try.pinned (OpenSpec.upto rulesEachSpec)

/-- 'haulierlaw23.RulesSide', WHERE WHAT IT READS IS OF BULK AT MOST 1048576: true; the input reads as it did. -/
def rulesSideUptoRow : OpenClaim := { program := "ytpkncocckgbheaa", sum := "dff8ebbaa0978bfaa73926427bce62e41e74f7e93332d736053f8be151604651", func := "haulier/haulierlaw23.RulesSide", spec := "rulesSide", unfollowed := true, recurses := true, plainKeys := false, apart := false, narrowed := true }
def RulesSideUptoSaid : Prop := rulesSideUptoRow.holds Try.pinned (OpenSpec.upto rulesSideSpec)

/-- 'haulierlaw23.RulesLimits', WHERE WHAT IT READS IS OF BULK AT MOST 1048576: true; the input reads as it did. -/
def rulesLimitsUptoRow : OpenClaim := { program := "ytpkncocckgbheaa", sum := "dff8ebbaa0978bfaa73926427bce62e41e74f7e93332d736053f8be151604651", func := "haulier/haulierlaw23.RulesLimits", spec := "rulesLimits", unfollowed := true, recurses := true, plainKeys := false, apart := false, narrowed := true }
def RulesLimitsUptoSaid : Prop := rulesLimitsUptoRow.holds Try.pinned (OpenSpec.upto rulesLimitsSpec)

/-- 'haulierlaw23.RulesReads', WHERE WHAT IT READS IS OF BULK AT MOST 1048576: true; the input reads as it did. -/
def rulesReadsUptoRow : OpenClaim := { program := "ytpkncocckgbheaa", sum := "dff8ebbaa0978bfaa73926427bce62e41e74f7e93332d736053f8be151604651", func := "haulier/haulierlaw23.RulesReads", spec := "rulesReads", unfollowed := true, recurses := true, plainKeys := false, apart := false, narrowed := true }
def RulesReadsUptoSaid : Prop := rulesReadsUptoRow.holds Try.pinned (OpenSpec.upto rulesReadsSpec)

end Rows
end Go.Proofs.Ytpkncocckgbheaa
