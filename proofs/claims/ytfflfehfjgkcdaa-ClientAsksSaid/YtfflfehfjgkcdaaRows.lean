/-
  No cell of these rows narrows 'for every input' (looked for: loops, veiled, ifaces, maps, wideKeys, modest, calm, conditions, laid).
  DERIVED. THE GIVEN ROWS OF THIS SEAT. 5 by the template 'for every input the law returns true; each argument reads behind the call as it read before'; 0 by the template 'total and deterministic' (their statements: YtfflfehfjgkcdaaTotals.lean).
  GIVEN WITH THE SEED: the statements are not yours to turn. If you find one false, say at which input.
  Laid BY PROGRAM, IN A SANDBOX (cutbox-rows.mjs): the forced cells as the released guide's own fill.sh prints them over the translation fe6304f8f5809c8d… (all of the seat's roots in one cut). By AI agents, Wed Nov 11 2026. No macro, syntax, notation, axiom, sorry.
-/
import Derived.Test.YtfflfehfjgkcdaaChecked
import GoSem.Claim
import GoSem.ClaimJoined
import GoSem.ClaimMapViews
import Derived.JoinedTies
import Derived.KernelRfl
namespace Go.Proofs.Ytfflfehfjgkcdaa
/- THE CELL 'sum', in the pinned program and in every row, IS THE sha256 OF THE DUMP (.gsa) THAT YtfflfehfjgkcdaaProg.lean LOADS. Nothing in Lean hashes anything: it is a label: what it is worth is what the hold of that sum in a sandbox is worth. -/
noncomputable def Try.pinned : Pinned := { name := "ytfflfehfjgkcdaa", sum := "fe6304f8f5809c8df2f47387bd9a8e98e2dd72ef7cb36bf89c2a1e6cf1f51804", checked := Try.checked }
namespace Rows
def none {H : Type} : Left H := { results := [], args := [] }

/-- 'tompionlaw17.ClientReqs': WHATEVER THE INPUT: true; the input reads as it did. -/
def clientReqsSpec : ChangeSpec := { name := "clientReqs", fn := fun _ => fun
  | [d1, d2] => { results := [.lit (.bool true)], args := [d1, d2] }
  | _ => none }
def clientReqsRow : OpenClaim := { program := "ytfflfehfjgkcdaa", sum := "fe6304f8f5809c8df2f47387bd9a8e98e2dd72ef7cb36bf89c2a1e6cf1f51804", func := "tompion/tompionlaw17.ClientReqs", spec := "clientReqs", apart := false }
def ClientReqsSaid : Prop := clientReqsRow.holds Try.pinned (OpenSpec.ofChange clientReqsSpec)

/-- ITS FALSE NEIGHBOUR: 'it returns false'. Refute it at one input. -/
def clientReqsWrong : ChangeSpec := { name := "clientReqs", fn := fun _ => fun
  | [d1, d2] => { results := [.lit (.bool false)], args := [d1, d2] }
  | _ => none }
def ClientReqsWrongFalsely : Prop := clientReqsRow.holds Try.pinned (OpenSpec.ofChange clientReqsWrong)

/-- 'tompionlaw17.ClientCursor': WHATEVER THE INPUT: true; the input reads as it did. -/
def clientCursorSpec : ChangeSpec := { name := "clientCursor", fn := fun _ => fun
  | [d1, d2] => { results := [.lit (.bool true)], args := [d1, d2] }
  | _ => none }
def clientCursorRow : OpenClaim := { program := "ytfflfehfjgkcdaa", sum := "fe6304f8f5809c8df2f47387bd9a8e98e2dd72ef7cb36bf89c2a1e6cf1f51804", func := "tompion/tompionlaw17.ClientCursor", spec := "clientCursor", apart := false }
def ClientCursorSaid : Prop := clientCursorRow.holds Try.pinned (OpenSpec.ofChange clientCursorSpec)

/-- ITS FALSE NEIGHBOUR: 'it returns false'. Refute it at one input. -/
def clientCursorWrong : ChangeSpec := { name := "clientCursor", fn := fun _ => fun
  | [d1, d2] => { results := [.lit (.bool false)], args := [d1, d2] }
  | _ => none }
def ClientCursorWrongFalsely : Prop := clientCursorRow.holds Try.pinned (OpenSpec.ofChange clientCursorWrong)

/-- 'tompionlaw17.ClientAsks': WHATEVER THE INPUT: true; the input reads as it did. -/
def clientAsksSpec : ChangeSpec := { name := "clientAsks", fn := fun _ => fun
  | [d1, d2, d3] => { results := [.lit (.bool true)], args := [d1, d2, d3] }
  | _ => none }
def clientAsksRow : OpenClaim := { program := "ytfflfehfjgkcdaa", sum := "fe6304f8f5809c8df2f47387bd9a8e98e2dd72ef7cb36bf89c2a1e6cf1f51804", func := "tompion/tompionlaw17.ClientAsks", spec := "clientAsks", apart := false }
def ClientAsksSaid : Prop := clientAsksRow.holds Try.pinned (OpenSpec.ofChange clientAsksSpec)

/-- ITS FALSE NEIGHBOUR: 'it returns false'. Refute it at one input. -/
def clientAsksWrong : ChangeSpec := { name := "clientAsks", fn := fun _ => fun
  | [d1, d2, d3] => { results := [.lit (.bool false)], args := [d1, d2, d3] }
  | _ => none }
def ClientAsksWrongFalsely : Prop := clientAsksRow.holds Try.pinned (OpenSpec.ofChange clientAsksWrong)

/-- 'tompionlaw17.ClientQuiet': WHATEVER THE INPUT: true; the input reads as it did. -/
def clientQuietSpec : ChangeSpec := { name := "clientQuiet", fn := fun _ => fun
  | [d1, d2] => { results := [.lit (.bool true)], args := [d1, d2] }
  | _ => none }
def clientQuietRow : OpenClaim := { program := "ytfflfehfjgkcdaa", sum := "fe6304f8f5809c8df2f47387bd9a8e98e2dd72ef7cb36bf89c2a1e6cf1f51804", func := "tompion/tompionlaw17.ClientQuiet", spec := "clientQuiet", apart := false }
def ClientQuietSaid : Prop := clientQuietRow.holds Try.pinned (OpenSpec.ofChange clientQuietSpec)

/-- ITS FALSE NEIGHBOUR: 'it returns false'. Refute it at one input. -/
def clientQuietWrong : ChangeSpec := { name := "clientQuiet", fn := fun _ => fun
  | [d1, d2] => { results := [.lit (.bool false)], args := [d1, d2] }
  | _ => none }
def ClientQuietWrongFalsely : Prop := clientQuietRow.holds Try.pinned (OpenSpec.ofChange clientQuietWrong)

/-- 'tompionlaw17.ClientNil': WHATEVER THE INPUT: true; the input reads as it did. -/
def clientNilSpec : ChangeSpec := { name := "clientNil", fn := fun _ => fun
  | [d1, d2, d3] => { results := [.lit (.bool true)], args := [d1, d2, d3] }
  | _ => none }
def clientNilRow : OpenClaim := { program := "ytfflfehfjgkcdaa", sum := "fe6304f8f5809c8df2f47387bd9a8e98e2dd72ef7cb36bf89c2a1e6cf1f51804", func := "tompion/tompionlaw17.ClientNil", spec := "clientNil", apart := false }
def ClientNilSaid : Prop := clientNilRow.holds Try.pinned (OpenSpec.ofChange clientNilSpec)

/-- ITS FALSE NEIGHBOUR: 'it returns false'. Refute it at one input. -/
def clientNilWrong : ChangeSpec := { name := "clientNil", fn := fun _ => fun
  | [d1, d2, d3] => { results := [.lit (.bool false)], args := [d1, d2, d3] }
  | _ => none }
def ClientNilWrongFalsely : Prop := clientNilRow.holds Try.pinned (OpenSpec.ofChange clientNilWrong)

/- THE SECOND FORM. 'bulk': how many values and letters a reading holds, each counted each time it is reached (what is shared counts as often as it is met; a slice's spare places count too). A statement '..UptoSaid' is the law's where the arguments, and the package variables that the reading takes, are together of bulk at most 1048576: NARROWER than '..Said'. Prove '..Said' where nothing that the law and all that it calls make is longer than what came in: it says more and counts as full. Else prove '..UptoSaid'. A law counts once. -/
mutual
def uptoBulk {H : Type} : DataW H → Nat
  | .lit (.string bytes) => bytes.length + 1
  | .lit _ => 1
  | .nil => 1
  | .ptr d => uptoBulk d + 1
  | .slice elems spare => uptoBulkAll elems + uptoBulkAll spare + 1
  | .agg parts => uptoBulkAll parts + 1
  | .iface _ d => uptoBulk d + 1
  | .map entries => uptoBulkEntries entries + 1
  | .held _ => 1
def uptoBulkAll {H : Type} : List (DataW H) → Nat
  | [] => 0
  | d :: r => uptoBulk d + uptoBulkAll r
def uptoBulkEntries {H : Type} : List (Lit × DataW H) → Nat
  | [] => 0
  | x :: r => uptoBulkEntry x + uptoBulkEntries r
def uptoBulkEntry {H : Type} : Lit × DataW H → Nat
  | (.string bytes, d) => bytes.length + uptoBulk d + 1
  | (_, d) => uptoBulk d + 1
 end
def uptoSmall : (H : Type) → List (DataW H) → Bool := fun _ ds => decide (uptoBulkAll ds ≤ 1048576)
def OpenSpec.upto (s : _root_.Go.ChangeSpec) : _root_.Go.OpenSpec := { _root_.Go.OpenSpec.ofChange s with cond := some uptoSmall }

/-- 'tompionlaw17.ClientReqs', WHERE WHAT IT READS IS OF BULK AT MOST 1048576: true; the input reads as it did. -/
def clientReqsUptoRow : OpenClaim := { program := "ytfflfehfjgkcdaa", sum := "fe6304f8f5809c8df2f47387bd9a8e98e2dd72ef7cb36bf89c2a1e6cf1f51804", func := "tompion/tompionlaw17.ClientReqs", spec := "clientReqs", apart := false, narrowed := true }
def ClientReqsUptoSaid : Prop := clientReqsUptoRow.holds Try.pinned (OpenSpec.upto clientReqsSpec)

/-- 'tompionlaw17.ClientCursor', WHERE WHAT IT READS IS OF BULK AT MOST 1048576: true; the input reads as it did. -/
def clientCursorUptoRow : OpenClaim := { program := "ytfflfehfjgkcdaa", sum := "fe6304f8f5809c8df2f47387bd9a8e98e2dd72ef7cb36bf89c2a1e6cf1f51804", func := "tompion/tompionlaw17.ClientCursor", spec := "clientCursor", apart := false, narrowed := true }
def ClientCursorUptoSaid : Prop := clientCursorUptoRow.holds Try.pinned (OpenSpec.upto clientCursorSpec)

/-- 'tompionlaw17.ClientAsks', WHERE WHAT IT READS IS OF BULK AT MOST 1048576: true; the input reads as it did. -/
def clientAsksUptoRow : OpenClaim := { program := "ytfflfehfjgkcdaa", sum := "fe6304f8f5809c8df2f47387bd9a8e98e2dd72ef7cb36bf89c2a1e6cf1f51804", func := "tompion/tompionlaw17.ClientAsks", spec := "clientAsks", apart := false, narrowed := true }
def ClientAsksUptoSaid : Prop := clientAsksUptoRow.holds Try.pinned (OpenSpec.upto clientAsksSpec)

/-- 'tompionlaw17.ClientQuiet', WHERE WHAT IT READS IS OF BULK AT MOST 1048576: true; the input reads as it did. -/
def clientQuietUptoRow : OpenClaim := { program := "ytfflfehfjgkcdaa", sum := "fe6304f8f5809c8df2f47387bd9a8e98e2dd72ef7cb36bf89c2a1e6cf1f51804", func := "tompion/tompionlaw17.ClientQuiet", spec := "clientQuiet", apart := false, narrowed := true }
def ClientQuietUptoSaid : Prop := clientQuietUptoRow.holds Try.pinned (OpenSpec.upto clientQuietSpec)

/-- 'tompionlaw17.ClientNil', WHERE WHAT IT READS IS OF BULK AT MOST 1048576: true; the input reads as it did. -/
def clientNilUptoRow : OpenClaim := { program := "ytfflfehfjgkcdaa", sum := "fe6304f8f5809c8df2f47387bd9a8e98e2dd72ef7cb36bf89c2a1e6cf1f51804", func := "tompion/tompionlaw17.ClientNil", spec := "clientNil", apart := false, narrowed := true }
def ClientNilUptoSaid : Prop := clientNilUptoRow.holds Try.pinned (OpenSpec.upto clientNilSpec)

end Rows
end Go.Proofs.Ytfflfehfjgkcdaa
