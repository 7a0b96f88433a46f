/-
  No cell of these rows narrows 'for every input' (looked for: loops, veiled, ifaces, maps, wideKeys, modest, calm, conditions, laid).
  DERIVED. THE GIVEN ROWS OF THIS SEAT. 6 by the template 'for every input the law returns true; each argument reads behind the call as it read before'; 0 by the template 'total and deterministic' (their statements: YtmbimlnanfholabTotals.lean).
  GIVEN WITH THE SEED: the statements are not yours to turn. If you find one false, say at which input.
  Laid BY PROGRAM, IN A SANDBOX (cutbox-rows.mjs): the forced cells as the released guide's own fill.sh prints them over the translation 5e83cd98f2c1608f… (all of the seat's roots in one cut). By AI agents, Wed Nov 11 2026. No macro, syntax, notation, axiom, sorry.
-/
import Derived.Test.YtmbimlnanfholabChecked
import GoSem.Claim
import GoSem.ClaimJoined
import GoSem.ClaimMapViews
import Derived.JoinedTies
import Derived.KernelRfl
namespace Go.Proofs.Ytmbimlnanfholab
/- THE CELL 'sum', in the pinned program and in every row, IS THE sha256 OF THE DUMP (.gsa) THAT YtmbimlnanfholabProg.lean LOADS. Nothing in Lean hashes anything: it is a label: what it is worth is what the hold of that sum in a sandbox is worth. -/
noncomputable def Try.pinned : Pinned := { name := "ytmbimlnanfholab", sum := "5e83cd98f2c1608f0bee6ea8d694de797fe66bc7444b9e655533acc48b4a2c7e", checked := Try.checked }
namespace Rows
def none {H : Type} : Left H := { results := [], args := [] }

/-- 'haulierlaw13.OutboxOwn': WHATEVER THE INPUT: true; the input reads as it did. -/
def outboxOwnSpec : ChangeSpec := { name := "outboxOwn", fn := fun _ => fun
  | [d] => { results := [.lit (.bool true)], args := [d] }
  | _ => none }
def outboxOwnRow : OpenClaim := { program := "ytmbimlnanfholab", sum := "5e83cd98f2c1608f0bee6ea8d694de797fe66bc7444b9e655533acc48b4a2c7e", func := "haulier/haulierlaw13.OutboxOwn", spec := "outboxOwn", apart := false }
def OutboxOwnSaid : Prop := outboxOwnRow.holds Try.pinned (OpenSpec.ofChange outboxOwnSpec)

/-- ITS FALSE NEIGHBOUR: 'it returns false'. Refute it at one input. -/
def outboxOwnWrong : ChangeSpec := { name := "outboxOwn", fn := fun _ => fun
  | [d] => { results := [.lit (.bool false)], args := [d] }
  | _ => none }
def OutboxOwnWrongFalsely : Prop := outboxOwnRow.holds Try.pinned (OpenSpec.ofChange outboxOwnWrong)

/-- 'haulierlaw13.OutboxBounds': WHATEVER THE INPUT: true; the input reads as it did. -/
def outboxBoundsSpec : ChangeSpec := { name := "outboxBounds", fn := fun _ => fun
  | [d] => { results := [.lit (.bool true)], args := [d] }
  | _ => none }
def outboxBoundsRow : OpenClaim := { program := "ytmbimlnanfholab", sum := "5e83cd98f2c1608f0bee6ea8d694de797fe66bc7444b9e655533acc48b4a2c7e", func := "haulier/haulierlaw13.OutboxBounds", spec := "outboxBounds", apart := false }
def OutboxBoundsSaid : Prop := outboxBoundsRow.holds Try.pinned (OpenSpec.ofChange outboxBoundsSpec)

/-- ITS FALSE NEIGHBOUR: 'it returns false'. Refute it at one input. -/
def outboxBoundsWrong : ChangeSpec := { name := "outboxBounds", fn := fun _ => fun
  | [d] => { results := [.lit (.bool false)], args := [d] }
  | _ => none }
def OutboxBoundsWrongFalsely : Prop := outboxBoundsRow.holds Try.pinned (OpenSpec.ofChange outboxBoundsWrong)

/-- 'haulierlaw04.SpanForms': WHATEVER THE INPUT: true; the input reads as it did. -/
def spanFormsSpec : ChangeSpec := { name := "spanForms", fn := fun _ => fun
  | [d1, d2] => { results := [.lit (.bool true)], args := [d1, d2] }
  | _ => none }
def spanFormsRow : OpenClaim := { program := "ytmbimlnanfholab", sum := "5e83cd98f2c1608f0bee6ea8d694de797fe66bc7444b9e655533acc48b4a2c7e", func := "haulier/haulierlaw04.SpanForms", spec := "spanForms", apart := false }
def SpanFormsSaid : Prop := spanFormsRow.holds Try.pinned (OpenSpec.ofChange spanFormsSpec)

/-- ITS FALSE NEIGHBOUR: 'it returns false'. Refute it at one input. -/
def spanFormsWrong : ChangeSpec := { name := "spanForms", fn := fun _ => fun
  | [d1, d2] => { results := [.lit (.bool false)], args := [d1, d2] }
  | _ => none }
def SpanFormsWrongFalsely : Prop := spanFormsRow.holds Try.pinned (OpenSpec.ofChange spanFormsWrong)

/-- 'haulierlaw16.InboxFirst': WHATEVER THE INPUT: true; the input reads as it did. -/
def inboxFirstSpec : ChangeSpec := { name := "inboxFirst", fn := fun _ => fun
  | [d1, d2, d3, d4] => { results := [.lit (.bool true)], args := [d1, d2, d3, d4] }
  | _ => none }
def inboxFirstRow : OpenClaim := { program := "ytmbimlnanfholab", sum := "5e83cd98f2c1608f0bee6ea8d694de797fe66bc7444b9e655533acc48b4a2c7e", func := "haulier/haulierlaw16.InboxFirst", spec := "inboxFirst", unfollowed := true, recurses := true, apart := false }
def InboxFirstSaid : Prop := inboxFirstRow.holds Try.pinned (OpenSpec.ofChange inboxFirstSpec)

/-- ITS FALSE NEIGHBOUR: 'it returns false'. Refute it at one input. -/
def inboxFirstWrong : ChangeSpec := { name := "inboxFirst", fn := fun _ => fun
  | [d1, d2, d3, d4] => { results := [.lit (.bool false)], args := [d1, d2, d3, d4] }
  | _ => none }
def InboxFirstWrongFalsely : Prop := inboxFirstRow.holds Try.pinned (OpenSpec.ofChange inboxFirstWrong)

/-- 'haulierlaw07.EventErrors': WHATEVER THE INPUT: true; the input reads as it did. -/
def eventErrorsSpec : ChangeSpec := { name := "eventErrors", fn := fun _ => fun
  | [d] => { results := [.lit (.bool true)], args := [d] }
  | _ => none }
def eventErrorsRow : OpenClaim := { program := "ytmbimlnanfholab", sum := "5e83cd98f2c1608f0bee6ea8d694de797fe66bc7444b9e655533acc48b4a2c7e", func := "haulier/haulierlaw07.EventErrors", spec := "eventErrors", apart := false }
def EventErrorsSaid : Prop := eventErrorsRow.holds Try.pinned (OpenSpec.ofChange eventErrorsSpec)

/-- ITS FALSE NEIGHBOUR: 'it returns false'. Refute it at one input. -/
def eventErrorsWrong : ChangeSpec := { name := "eventErrors", fn := fun _ => fun
  | [d] => { results := [.lit (.bool false)], args := [d] }
  | _ => none }
def EventErrorsWrongFalsely : Prop := eventErrorsRow.holds Try.pinned (OpenSpec.ofChange eventErrorsWrong)

/-- 'haulierlaw07.EventForms': WHATEVER THE INPUT: true; the input reads as it did. -/
def eventFormsSpec : ChangeSpec := { name := "eventForms", fn := fun _ => fun
  | [d1, d2, d3] => { results := [.lit (.bool true)], args := [d1, d2, d3] }
  | _ => none }
def eventFormsRow : OpenClaim := { program := "ytmbimlnanfholab", sum := "5e83cd98f2c1608f0bee6ea8d694de797fe66bc7444b9e655533acc48b4a2c7e", func := "haulier/haulierlaw07.EventForms", spec := "eventForms", unfollowed := true, recurses := true, apart := false }
def EventFormsSaid : Prop := eventFormsRow.holds Try.pinned (OpenSpec.ofChange eventFormsSpec)

/-- ITS FALSE NEIGHBOUR: 'it returns false'. Refute it at one input. -/
def eventFormsWrong : ChangeSpec := { name := "eventForms", fn := fun _ => fun
  | [d1, d2, d3] => { results := [.lit (.bool false)], args := [d1, d2, d3] }
  | _ => none }
def EventFormsWrongFalsely : Prop := eventFormsRow.holds Try.pinned (OpenSpec.ofChange eventFormsWrong)

/- THE SECOND FORM. 'bulk': how many values and letters a reading holds, each counted each time it is reached (what is shared counts as often as it is met; a slice's spare places count too). A statement '..UptoSaid' is the law's where the arguments, and the package variables that the reading takes, are together of bulk at most 1048576: NARROWER than '..Said'. Prove '..Said' where nothing that the law and all that it calls make is longer than what came in: it says more and counts as full. Else prove '..UptoSaid'. A law counts once. -/
mutual
def uptoBulk {H : Type} : DataW H → Nat
  | .lit (.string bytes) => bytes.length + 1
  | .lit _ => 1
  | .nil => 1
  | .ptr d => uptoBulk d + 1
  | .slice elems spare => uptoBulkAll elems + uptoBulkAll spare + 1
  | .agg parts => uptoBulkAll parts + 1
  | .iface _ d => uptoBulk d + 1
  | .map entries => uptoBulkEntries entries + 1
  | .held _ => 1
def uptoBulkAll {H : Type} : List (DataW H) → Nat
  | [] => 0
  | d :: r => uptoBulk d + uptoBulkAll r
def uptoBulkEntries {H : Type} : List (Lit × DataW H) → Nat
  | [] => 0
  | x :: r => uptoBulkEntry x + uptoBulkEntries r
def uptoBulkEntry {H : Type} : Lit × DataW H → Nat
  | (.string bytes, d) => bytes.length + uptoBulk d + 1
  | (_, d) => uptoBulk d + 1
 end
def uptoSmall : (H : Type) → List (DataW H) → Bool := fun _ ds => decide (uptoBulkAll ds ≤ 1048576)
def OpenSpec.upto (s : _root_.Go.ChangeSpec) : _root_.Go.OpenSpec := { _root_.Go.OpenSpec.ofChange s with cond := some uptoSmall }

/-- 'haulierlaw13.OutboxOwn', WHERE WHAT IT READS IS OF BULK AT MOST 1048576: true; the input reads as it did. -/
def outboxOwnUptoRow : OpenClaim := { program := "ytmbimlnanfholab", sum := "5e83cd98f2c1608f0bee6ea8d694de797fe66bc7444b9e655533acc48b4a2c7e", func := "haulier/haulierlaw13.OutboxOwn", spec := "outboxOwn", apart := false, narrowed := true }
def OutboxOwnUptoSaid : Prop := outboxOwnUptoRow.holds Try.pinned (OpenSpec.upto outboxOwnSpec)

/-- 'haulierlaw13.OutboxBounds', WHERE WHAT IT READS IS OF BULK AT MOST 1048576: true; the input reads as it did. -/
def outboxBoundsUptoRow : OpenClaim := { program := "ytmbimlnanfholab", sum := "5e83cd98f2c1608f0bee6ea8d694de797fe66bc7444b9e655533acc48b4a2c7e", func := "haulier/haulierlaw13.OutboxBounds", spec := "outboxBounds", apart := false, narrowed := true }
def OutboxBoundsUptoSaid : Prop := outboxBoundsUptoRow.holds Try.pinned (OpenSpec.upto outboxBoundsSpec)

/-- 'haulierlaw04.SpanForms', WHERE WHAT IT READS IS OF BULK AT MOST 1048576: true; the input reads as it did. -/
def spanFormsUptoRow : OpenClaim := { program := "ytmbimlnanfholab", sum := "5e83cd98f2c1608f0bee6ea8d694de797fe66bc7444b9e655533acc48b4a2c7e", func := "haulier/haulierlaw04.SpanForms", spec := "spanForms", apart := false, narrowed := true }
def SpanFormsUptoSaid : Prop := spanFormsUptoRow.holds Try.pinned (OpenSpec.upto spanFormsSpec)

/-- 'haulierlaw16.InboxFirst', WHERE WHAT IT READS IS OF BULK AT MOST 1048576: true; the input reads as it did. -/
def inboxFirstUptoRow : OpenClaim := { program := "ytmbimlnanfholab", sum := "5e83cd98f2c1608f0bee6ea8d694de797fe66bc7444b9e655533acc48b4a2c7e", func := "haulier/haulierlaw16.InboxFirst", spec := "inboxFirst", unfollowed := true, recurses := true, apart := false, narrowed := true }
def InboxFirstUptoSaid : Prop := inboxFirstUptoRow.holds Try.pinned (OpenSpec.upto inboxFirstSpec)

/-- 'haulierlaw07.EventErrors', WHERE WHAT IT READS IS OF BULK AT MOST 1048576: true; the input reads as it did. -/
def eventErrorsUptoRow : OpenClaim := { program := "ytmbimlnanfholab", sum := "5e83cd98f2c1608f0bee6ea8d694de797fe66bc7444b9e655533acc48b4a2c7e", func := "haulier/haulierlaw07.EventErrors", spec := "eventErrors", apart := false, narrowed := true }
def EventErrorsUptoSaid : Prop := eventErrorsUptoRow.holds Try.pinned (OpenSpec.upto eventErrorsSpec)

/-- 'haulierlaw07.EventForms', WHERE WHAT IT READS IS OF BULK AT MOST 1048576: true; the input reads as it did. -/
def eventFormsUptoRow : OpenClaim := { program := "ytmbimlnanfholab", sum := "5e83cd98f2c1608f0bee6ea8d694de797fe66bc7444b9e655533acc48b4a2c7e", func := "haulier/haulierlaw07.EventForms", spec := "eventForms", unfollowed := true, recurses := true, apart := false, narrowed := true }
def EventFormsUptoSaid : Prop := eventFormsUptoRow.holds Try.pinned (OpenSpec.upto eventFormsSpec)

end Rows
end Go.Proofs.Ytmbimlnanfholab
