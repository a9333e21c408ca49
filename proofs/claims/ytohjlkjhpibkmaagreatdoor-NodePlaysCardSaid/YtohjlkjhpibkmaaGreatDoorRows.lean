/-
  NARROWER THAN 'FOR EVERY INPUT', by the rows' own cells (each row's printed sentence says how): NodeBounds: laid · NodeOne: laid · NodeMonotone: laid · NodeEpochs: laid · NodePlays: laid · NodeNobody: laid.
  DERIVED. THE GIVEN ROWS OF THIS SEAT. 6 by the template 'for every input the law returns true; each argument reads behind the call as it read before'; 0 by the template 'total and deterministic' (their statements: YtohjlkjhpibkmaaGreatDoorTotals.lean).
  GIVEN WITH THE SEED: the statements are not yours to turn. If you find one false, say at which input.
  Laid BY PROGRAM, IN A SANDBOX (cutbox-rows.mjs): the forced cells as the released guide's own fill.sh prints them over the translation 51b150486806dda0… (all of the seat's roots in one cut). By AI agents, Wed Nov 11 2026. No macro, syntax, notation, axiom, sorry.
-/
import Derived.Test.YtohjlkjhpibkmaaGreatDoorChecked
import GoSem.Claim
import GoSem.ClaimJoined
import GoSem.ClaimMapViews
import Derived.JoinedTies
import Derived.KernelRfl
namespace Go.Proofs.YtohjlkjhpibkmaaGreatDoor
/- THE CELL 'sum', in the pinned program and in every row, IS THE sha256 OF THE DUMP (.gsa) THAT YtohjlkjhpibkmaaGreatDoorProg.lean LOADS. Nothing in Lean hashes anything: it is a label: what it is worth is what the hold of that sum in a sandbox is worth. -/
noncomputable def Tryz.pinned : Pinned := { name := "ytohjlkjhpibkmaagreatdoor", sum := "51b150486806dda0552c71f0f0b01df7b317d78d8ecce63f846dd8c714bc6145", checked := Tryz.checked }
namespace Rows
def none {H : Type} : Left H := { results := [], args := [] }

/- WHAT THE LISTED PACKAGE-LEVEL VARIABLES READ AS WHEN THE CALL BEGINS. Each datum BY PROGRAM (the guide's laid-datum.mjs) off the statement by which the dump's own 'gosem.cut.vars' lays the variable. In a bare row this is a premise. The card (YtohjlkjhpibkmaaGreatDoorCards.lean) ties it to the program's text. -/
def laid_lockkeeper_push_widths {H : Type} : DataW H := .agg [.lit (.int .i64 1), .lit (.int .i64 4), .lit (.int .i64 2), .lit (.int .i64 2), .lit (.int .i64 1), .lit (.int .i64 1), .lit (.int .i64 1), .lit (.int .i64 1), .lit (.int .i64 1)]
def laid_lockkeeper_reply_names {H : Type} : DataW H := .agg [.lit (.string [103, 111, 111, 100]), .lit (.string [114, 101, 102, 117, 115, 101, 100]), .lit (.string [101, 120, 112, 105, 114, 101, 100]), .lit (.string [115, 112, 101, 110, 116]), .lit (.string [101, 118, 105, 99, 116, 101, 100]), .lit (.string [108, 97, 116, 101]), .lit (.string [102, 97, 105, 108, 101, 100]), .lit (.string [99, 117, 116]), .lit (.string [115, 116, 97, 114, 118, 101, 100]), .lit (.string [98, 114, 111, 107, 101, 110])]

/-- 'lockkeeperlaw35.NodeBounds': WHATEVER THE INPUT: true; the input reads as it did. -/
def nodeBoundsSpec : ChangeSpec := { name := "nodeBounds", fn := fun _ => fun
  | [d1, d2, d3] => { results := [.lit (.bool true)], args := [d1, d2, d3] }
  | _ => none }
def nodeBoundsRow : OpenClaim := { program := "ytohjlkjhpibkmaagreatdoor", sum := "51b150486806dda0552c71f0f0b01df7b317d78d8ecce63f846dd8c714bc6145", func := "lockkeeper/lockkeeperlaw35.NodeBounds", spec := "nodeBounds", unfollowed := true, recurses := true, named := ["lockkeeper/reply.names", "lockkeeper/push.widths"], apart := false, laid := [("lockkeeper/push.widths", laid_lockkeeper_push_widths), ("lockkeeper/reply.names", laid_lockkeeper_reply_names)] }
def NodeBoundsSaid : Prop := nodeBoundsRow.holds Tryz.pinned (OpenSpec.ofChange nodeBoundsSpec)

/-- ITS FALSE NEIGHBOUR: 'it returns false'. Refute it at one input. -/
def nodeBoundsWrong : ChangeSpec := { name := "nodeBounds", fn := fun _ => fun
  | [d1, d2, d3] => { results := [.lit (.bool false)], args := [d1, d2, d3] }
  | _ => none }
def NodeBoundsWrongFalsely : Prop := nodeBoundsRow.holds Tryz.pinned (OpenSpec.ofChange nodeBoundsWrong)

/-- 'lockkeeperlaw35.NodeOne': WHATEVER THE INPUT: true; the input reads as it did. -/
def nodeOneSpec : ChangeSpec := { name := "nodeOne", fn := fun _ => fun
  | [d1, d2, d3] => { results := [.lit (.bool true)], args := [d1, d2, d3] }
  | _ => none }
def nodeOneRow : OpenClaim := { program := "ytohjlkjhpibkmaagreatdoor", sum := "51b150486806dda0552c71f0f0b01df7b317d78d8ecce63f846dd8c714bc6145", func := "lockkeeper/lockkeeperlaw35.NodeOne", spec := "nodeOne", unfollowed := true, recurses := true, named := ["lockkeeper/reply.names", "lockkeeper/push.widths"], apart := false, laid := [("lockkeeper/push.widths", laid_lockkeeper_push_widths), ("lockkeeper/reply.names", laid_lockkeeper_reply_names)] }
def NodeOneSaid : Prop := nodeOneRow.holds Tryz.pinned (OpenSpec.ofChange nodeOneSpec)

/-- ITS FALSE NEIGHBOUR: 'it returns false'. Refute it at one input. -/
def nodeOneWrong : ChangeSpec := { name := "nodeOne", fn := fun _ => fun
  | [d1, d2, d3] => { results := [.lit (.bool false)], args := [d1, d2, d3] }
  | _ => none }
def NodeOneWrongFalsely : Prop := nodeOneRow.holds Tryz.pinned (OpenSpec.ofChange nodeOneWrong)

/-- 'lockkeeperlaw35.NodeMonotone': WHATEVER THE INPUT: true; the input reads as it did. -/
def nodeMonotoneSpec : ChangeSpec := { name := "nodeMonotone", fn := fun _ => fun
  | [d1, d2, d3] => { results := [.lit (.bool true)], args := [d1, d2, d3] }
  | _ => none }
def nodeMonotoneRow : OpenClaim := { program := "ytohjlkjhpibkmaagreatdoor", sum := "51b150486806dda0552c71f0f0b01df7b317d78d8ecce63f846dd8c714bc6145", func := "lockkeeper/lockkeeperlaw35.NodeMonotone", spec := "nodeMonotone", unfollowed := true, recurses := true, named := ["lockkeeper/reply.names", "lockkeeper/push.widths"], apart := false, laid := [("lockkeeper/push.widths", laid_lockkeeper_push_widths), ("lockkeeper/reply.names", laid_lockkeeper_reply_names)] }
def NodeMonotoneSaid : Prop := nodeMonotoneRow.holds Tryz.pinned (OpenSpec.ofChange nodeMonotoneSpec)

/-- ITS FALSE NEIGHBOUR: 'it returns false'. Refute it at one input. -/
def nodeMonotoneWrong : ChangeSpec := { name := "nodeMonotone", fn := fun _ => fun
  | [d1, d2, d3] => { results := [.lit (.bool false)], args := [d1, d2, d3] }
  | _ => none }
def NodeMonotoneWrongFalsely : Prop := nodeMonotoneRow.holds Tryz.pinned (OpenSpec.ofChange nodeMonotoneWrong)

/-- 'lockkeeperlaw35.NodeEpochs': WHATEVER THE INPUT: true; the input reads as it did. -/
def nodeEpochsSpec : ChangeSpec := { name := "nodeEpochs", fn := fun _ => fun
  | [d1, d2, d3] => { results := [.lit (.bool true)], args := [d1, d2, d3] }
  | _ => none }
def nodeEpochsRow : OpenClaim := { program := "ytohjlkjhpibkmaagreatdoor", sum := "51b150486806dda0552c71f0f0b01df7b317d78d8ecce63f846dd8c714bc6145", func := "lockkeeper/lockkeeperlaw35.NodeEpochs", spec := "nodeEpochs", unfollowed := true, recurses := true, named := ["lockkeeper/reply.names", "lockkeeper/push.widths"], apart := false, laid := [("lockkeeper/push.widths", laid_lockkeeper_push_widths), ("lockkeeper/reply.names", laid_lockkeeper_reply_names)] }
def NodeEpochsSaid : Prop := nodeEpochsRow.holds Tryz.pinned (OpenSpec.ofChange nodeEpochsSpec)

/-- ITS FALSE NEIGHBOUR: 'it returns false'. Refute it at one input. -/
def nodeEpochsWrong : ChangeSpec := { name := "nodeEpochs", fn := fun _ => fun
  | [d1, d2, d3] => { results := [.lit (.bool false)], args := [d1, d2, d3] }
  | _ => none }
def NodeEpochsWrongFalsely : Prop := nodeEpochsRow.holds Tryz.pinned (OpenSpec.ofChange nodeEpochsWrong)

/-- 'lockkeeperlaw35.NodePlays': WHATEVER THE INPUT: true; the input reads as it did. -/
def nodePlaysSpec : ChangeSpec := { name := "nodePlays", fn := fun _ => fun
  | [d1, d2, d3] => { results := [.lit (.bool true)], args := [d1, d2, d3] }
  | _ => none }
def nodePlaysRow : OpenClaim := { program := "ytohjlkjhpibkmaagreatdoor", sum := "51b150486806dda0552c71f0f0b01df7b317d78d8ecce63f846dd8c714bc6145", func := "lockkeeper/lockkeeperlaw35.NodePlays", spec := "nodePlays", unfollowed := true, recurses := true, named := ["lockkeeper/reply.names", "lockkeeper/push.widths"], apart := false, laid := [("lockkeeper/push.widths", laid_lockkeeper_push_widths), ("lockkeeper/reply.names", laid_lockkeeper_reply_names)] }
def NodePlaysSaid : Prop := nodePlaysRow.holds Tryz.pinned (OpenSpec.ofChange nodePlaysSpec)

/-- ITS FALSE NEIGHBOUR: 'it returns false'. Refute it at one input. -/
def nodePlaysWrong : ChangeSpec := { name := "nodePlays", fn := fun _ => fun
  | [d1, d2, d3] => { results := [.lit (.bool false)], args := [d1, d2, d3] }
  | _ => none }
def NodePlaysWrongFalsely : Prop := nodePlaysRow.holds Tryz.pinned (OpenSpec.ofChange nodePlaysWrong)

/-- 'lockkeeperlaw35.NodeNobody': WHATEVER THE INPUT: true; the input reads as it did. -/
def nodeNobodySpec : ChangeSpec := { name := "nodeNobody", fn := fun _ => fun
  | [d] => { results := [.lit (.bool true)], args := [d] }
  | _ => none }
def nodeNobodyRow : OpenClaim := { program := "ytohjlkjhpibkmaagreatdoor", sum := "51b150486806dda0552c71f0f0b01df7b317d78d8ecce63f846dd8c714bc6145", func := "lockkeeper/lockkeeperlaw35.NodeNobody", spec := "nodeNobody", unfollowed := true, recurses := true, named := ["lockkeeper/reply.names", "lockkeeper/push.widths"], apart := false, laid := [("lockkeeper/push.widths", laid_lockkeeper_push_widths), ("lockkeeper/reply.names", laid_lockkeeper_reply_names)] }
def NodeNobodySaid : Prop := nodeNobodyRow.holds Tryz.pinned (OpenSpec.ofChange nodeNobodySpec)

/-- ITS FALSE NEIGHBOUR: 'it returns false'. Refute it at one input. -/
def nodeNobodyWrong : ChangeSpec := { name := "nodeNobody", fn := fun _ => fun
  | [d] => { results := [.lit (.bool false)], args := [d] }
  | _ => none }
def NodeNobodyWrongFalsely : Prop := nodeNobodyRow.holds Tryz.pinned (OpenSpec.ofChange nodeNobodyWrong)

/- THE SECOND FORM. 'bulk': how many values and letters a reading holds, each counted each time it is reached (what is shared counts as often as it is met; a slice's spare places count too). A statement '..UptoSaid' is the law's where the arguments, and the package variables that the reading takes, are together of bulk at most 1048576: NARROWER than '..Said'. Prove '..Said' where nothing that the law and all that it calls make is longer than what came in: it says more and counts as full. Else prove '..UptoSaid'. A law counts once. -/
mutual
def uptoBulk {H : Type} : DataW H → Nat
  | .lit (.string bytes) => bytes.length + 1
  | .lit _ => 1
  | .nil => 1
  | .ptr d => uptoBulk d + 1
  | .slice elems spare => uptoBulkAll elems + uptoBulkAll spare + 1
  | .agg parts => uptoBulkAll parts + 1
  | .iface _ d => uptoBulk d + 1
  | .map entries => uptoBulkEntries entries + 1
  | .held _ => 1
def uptoBulkAll {H : Type} : List (DataW H) → Nat
  | [] => 0
  | d :: r => uptoBulk d + uptoBulkAll r
def uptoBulkEntries {H : Type} : List (Lit × DataW H) → Nat
  | [] => 0
  | x :: r => uptoBulkEntry x + uptoBulkEntries r
def uptoBulkEntry {H : Type} : Lit × DataW H → Nat
  | (.string bytes, d) => bytes.length + uptoBulk d + 1
  | (_, d) => uptoBulk d + 1
 end
def uptoSmall : (H : Type) → List (DataW H) → Bool := fun _ ds => decide (uptoBulkAll ds ≤ 1048576)
def OpenSpec.upto (s : _root_.Go.ChangeSpec) : _root_.Go.OpenSpec := { _root_.Go.OpenSpec.ofChange s with cond := some uptoSmall }

/-- 'lockkeeperlaw35.NodeBounds', WHERE WHAT IT READS IS OF BULK AT MOST 1048576: true; the input reads as it did. -/
def nodeBoundsUptoRow : OpenClaim := { program := "ytohjlkjhpibkmaagreatdoor", sum := "51b150486806dda0552c71f0f0b01df7b317d78d8ecce63f846dd8c714bc6145", func := "lockkeeper/lockkeeperlaw35.NodeBounds", spec := "nodeBounds", unfollowed := true, recurses := true, named := ["lockkeeper/reply.names", "lockkeeper/push.widths"], apart := false, laid := [("lockkeeper/push.widths", laid_lockkeeper_push_widths), ("lockkeeper/reply.names", laid_lockkeeper_reply_names)], narrowed := true }
def NodeBoundsUptoSaid : Prop := nodeBoundsUptoRow.holds Tryz.pinned (OpenSpec.upto nodeBoundsSpec)

/-- 'lockkeeperlaw35.NodeOne', WHERE WHAT IT READS IS OF BULK AT MOST 1048576: true; the input reads as it did. -/
def nodeOneUptoRow : OpenClaim := { program := "ytohjlkjhpibkmaagreatdoor", sum := "51b150486806dda0552c71f0f0b01df7b317d78d8ecce63f846dd8c714bc6145", func := "lockkeeper/lockkeeperlaw35.NodeOne", spec := "nodeOne", unfollowed := true, recurses := true, named := ["lockkeeper/reply.names", "lockkeeper/push.widths"], apart := false, laid := [("lockkeeper/push.widths", laid_lockkeeper_push_widths), ("lockkeeper/reply.names", laid_lockkeeper_reply_names)], narrowed := true }
def NodeOneUptoSaid : Prop := nodeOneUptoRow.holds Tryz.pinned (OpenSpec.upto nodeOneSpec)

/-- 'lockkeeperlaw35.NodeMonotone', WHERE WHAT IT READS IS OF BULK AT MOST 1048576: true; the input reads as it did. -/
def nodeMonotoneUptoRow : OpenClaim := { program := "ytohjlkjhpibkmaagreatdoor", sum := "51b150486806dda0552c71f0f0b01df7b317d78d8ecce63f846dd8c714bc6145", func := "lockkeeper/lockkeeperlaw35.NodeMonotone", spec := "nodeMonotone", unfollowed := true, recurses := true, named := ["lockkeeper/reply.names", "lockkeeper/push.widths"], apart := false, laid := [("lockkeeper/push.widths", laid_lockkeeper_push_widths), ("lockkeeper/reply.names", laid_lockkeeper_reply_names)], narrowed := true }
def NodeMonotoneUptoSaid : Prop := nodeMonotoneUptoRow.holds Tryz.pinned (OpenSpec.upto nodeMonotoneSpec)

/-- 'lockkeeperlaw35.NodeEpochs', WHERE WHAT IT READS IS OF BULK AT MOST 1048576: true; the input reads as it did. -/
def nodeEpochsUptoRow : OpenClaim := { program := "ytohjlkjhpibkmaagreatdoor", sum := "51b150486806dda0552c71f0f0b01df7b317d78d8ecce63f846dd8c714bc6145", func := "lockkeeper/lockkeeperlaw35.NodeEpochs", spec := "nodeEpochs", unfollowed := true, recurses := true, named := ["lockkeeper/reply.names", "lockkeeper/push.widths"], apart := false, laid := [("lockkeeper/push.widths", laid_lockkeeper_push_widths), ("lockkeeper/reply.names", laid_lockkeeper_reply_names)], narrowed := true }
def NodeEpochsUptoSaid : Prop := nodeEpochsUptoRow.holds Tryz.pinned (OpenSpec.upto nodeEpochsSpec)

/-- 'lockkeeperlaw35.NodePlays', WHERE WHAT IT READS IS OF BULK AT MOST 1048576: true; the input reads as it did. -/
def nodePlaysUptoRow : OpenClaim := { program := "ytohjlkjhpibkmaagreatdoor", sum := "51b150486806dda0552c71f0f0b01df7b317d78d8ecce63f846dd8c714bc6145", func := "lockkeeper/lockkeeperlaw35.NodePlays", spec := "nodePlays", unfollowed := true, recurses := true, named := ["lockkeeper/reply.names", "lockkeeper/push.widths"], apart := false, laid := [("lockkeeper/push.widths", laid_lockkeeper_push_widths), ("lockkeeper/reply.names", laid_lockkeeper_reply_names)], narrowed := true }
def NodePlaysUptoSaid : Prop := nodePlaysUptoRow.holds Tryz.pinned (OpenSpec.upto nodePlaysSpec)

/-- 'lockkeeperlaw35.NodeNobody', WHERE WHAT IT READS IS OF BULK AT MOST 1048576: true; the input reads as it did. -/
def nodeNobodyUptoRow : OpenClaim := { program := "ytohjlkjhpibkmaagreatdoor", sum := "51b150486806dda0552c71f0f0b01df7b317d78d8ecce63f846dd8c714bc6145", func := "lockkeeper/lockkeeperlaw35.NodeNobody", spec := "nodeNobody", unfollowed := true, recurses := true, named := ["lockkeeper/reply.names", "lockkeeper/push.widths"], apart := false, laid := [("lockkeeper/push.widths", laid_lockkeeper_push_widths), ("lockkeeper/reply.names", laid_lockkeeper_reply_names)], narrowed := true }
def NodeNobodyUptoSaid : Prop := nodeNobodyUptoRow.holds Tryz.pinned (OpenSpec.upto nodeNobodySpec)

end Rows
end Go.Proofs.YtohjlkjhpibkmaaGreatDoor
