/-
  No cell of these rows narrows 'for every input' (looked for: loops, veiled, ifaces, maps, wideKeys, modest, calm, conditions, laid).
  DERIVED. THE GIVEN ROWS OF THIS SEAT. 5 by the template 'for every input the law returns true; each argument reads behind the call as it read before'; 0 by the template 'total and deterministic' (their statements: YtghhjhjpccipaaaTotals.lean).
  GIVEN WITH THE SEED: the statements are not yours to turn. If you find one false, say at which input.
  Laid BY PROGRAM, IN A SANDBOX (cutbox-rows.mjs): the forced cells as the released guide's own fill.sh prints them over the translation 537f52b4ee07f9ca… (all of the seat's roots in one cut). By AI agents, Wed Nov 11 2026. No macro, syntax, notation, axiom, sorry.
-/
import Derived.Test.YtghhjhjpccipaaaChecked
import GoSem.Claim
import GoSem.ClaimJoined
import GoSem.ClaimMapViews
import Derived.JoinedTies
import Derived.KernelRfl
namespace Go.Proofs.Ytghhjhjpccipaaa
/- THE CELL 'sum', in the pinned program and in every row, IS THE sha256 OF THE DUMP (.gsa) THAT YtghhjhjpccipaaaProg.lean LOADS. Nothing in Lean hashes anything: it is a label: what it is worth is what the hold of that sum in a sandbox is worth. -/
noncomputable def Try.pinned : Pinned := { name := "ytghhjhjpccipaaa", sum := "537f52b4ee07f9ca4976c5930a886fd26ca112a0b9e0895fe7c85889d31d3833", checked := Try.checked }
namespace Rows
def none {H : Type} : Left H := { results := [], args := [] }

/-- 'lockkeeperlaw42.MonoRuns': WHATEVER THE INPUT: true; the input reads as it did. -/
def monoRunsSpec : ChangeSpec := { name := "monoRuns", fn := fun _ => fun
  | [d1, d2] => { results := [.lit (.bool true)], args := [d1, d2] }
  | _ => none }
def monoRunsRow : OpenClaim := { program := "ytghhjhjpccipaaa", sum := "537f52b4ee07f9ca4976c5930a886fd26ca112a0b9e0895fe7c85889d31d3833", func := "lockkeeper/lockkeeperlaw42.MonoRuns", spec := "monoRuns", unfollowed := true, recurses := true, plainKeys := false, apart := false }
def MonoRunsSaid : Prop := monoRunsRow.holds Try.pinned (OpenSpec.ofChange monoRunsSpec)

/-- ITS FALSE NEIGHBOUR: 'it returns false'. Refute it at one input. -/
def monoRunsWrong : ChangeSpec := { name := "monoRuns", fn := fun _ => fun
  | [d1, d2] => { results := [.lit (.bool false)], args := [d1, d2] }
  | _ => none }
def MonoRunsWrongFalsely : Prop := monoRunsRow.holds Try.pinned (OpenSpec.ofChange monoRunsWrong)

/-- 'lockkeeperlaw44.DwellReads': WHATEVER THE INPUT: true; the input reads as it did. -/
def dwellReadsSpec : ChangeSpec := { name := "dwellReads", fn := fun _ => fun
  | [d1, d2, d3] => { results := [.lit (.bool true)], args := [d1, d2, d3] }
  | _ => none }
def dwellReadsRow : OpenClaim := { program := "ytghhjhjpccipaaa", sum := "537f52b4ee07f9ca4976c5930a886fd26ca112a0b9e0895fe7c85889d31d3833", func := "lockkeeper/lockkeeperlaw44.DwellReads", spec := "dwellReads", unfollowed := true, recurses := true, plainKeys := false, apart := false }
def DwellReadsSaid : Prop := dwellReadsRow.holds Try.pinned (OpenSpec.ofChange dwellReadsSpec)

/-- ITS FALSE NEIGHBOUR: 'it returns false'. Refute it at one input. -/
def dwellReadsWrong : ChangeSpec := { name := "dwellReads", fn := fun _ => fun
  | [d1, d2, d3] => { results := [.lit (.bool false)], args := [d1, d2, d3] }
  | _ => none }
def DwellReadsWrongFalsely : Prop := dwellReadsRow.holds Try.pinned (OpenSpec.ofChange dwellReadsWrong)

/-- 'lockkeeperlaw41.LedgerReads': WHATEVER THE INPUT: true; the input reads as it did. -/
def ledgerReadsSpec : ChangeSpec := { name := "ledgerReads", fn := fun _ => fun
  | [d1, d2, d3] => { results := [.lit (.bool true)], args := [d1, d2, d3] }
  | _ => none }
def ledgerReadsRow : OpenClaim := { program := "ytghhjhjpccipaaa", sum := "537f52b4ee07f9ca4976c5930a886fd26ca112a0b9e0895fe7c85889d31d3833", func := "lockkeeper/lockkeeperlaw41.LedgerReads", spec := "ledgerReads", unfollowed := true, recurses := true, plainKeys := false, apart := false }
def LedgerReadsSaid : Prop := ledgerReadsRow.holds Try.pinned (OpenSpec.ofChange ledgerReadsSpec)

/-- ITS FALSE NEIGHBOUR: 'it returns false'. Refute it at one input. -/
def ledgerReadsWrong : ChangeSpec := { name := "ledgerReads", fn := fun _ => fun
  | [d1, d2, d3] => { results := [.lit (.bool false)], args := [d1, d2, d3] }
  | _ => none }
def LedgerReadsWrongFalsely : Prop := ledgerReadsRow.holds Try.pinned (OpenSpec.ofChange ledgerReadsWrong)

/-- 'lockkeeperlaw41.LedgerTells': WHATEVER THE INPUT: true; the input reads as it did. -/
def ledgerTellsSpec : ChangeSpec := { name := "ledgerTells", fn := fun _ => fun
  | [d1, d2] => { results := [.lit (.bool true)], args := [d1, d2] }
  | _ => none }
def ledgerTellsRow : OpenClaim := { program := "ytghhjhjpccipaaa", sum := "537f52b4ee07f9ca4976c5930a886fd26ca112a0b9e0895fe7c85889d31d3833", func := "lockkeeper/lockkeeperlaw41.LedgerTells", spec := "ledgerTells", unfollowed := true, recurses := true, plainKeys := false, apart := false }
def LedgerTellsSaid : Prop := ledgerTellsRow.holds Try.pinned (OpenSpec.ofChange ledgerTellsSpec)

/-- ITS FALSE NEIGHBOUR: 'it returns false'. Refute it at one input. -/
def ledgerTellsWrong : ChangeSpec := { name := "ledgerTells", fn := fun _ => fun
  | [d1, d2] => { results := [.lit (.bool false)], args := [d1, d2] }
  | _ => none }
def LedgerTellsWrongFalsely : Prop := ledgerTellsRow.holds Try.pinned (OpenSpec.ofChange ledgerTellsWrong)

/-- 'lockkeeperlaw43.ShedReads': WHATEVER THE INPUT: true; the input reads as it did. -/
def shedReadsSpec : ChangeSpec := { name := "shedReads", fn := fun _ => fun
  | [d1, d2, d3] => { results := [.lit (.bool true)], args := [d1, d2, d3] }
  | _ => none }
def shedReadsRow : OpenClaim := { program := "ytghhjhjpccipaaa", sum := "537f52b4ee07f9ca4976c5930a886fd26ca112a0b9e0895fe7c85889d31d3833", func := "lockkeeper/lockkeeperlaw43.ShedReads", spec := "shedReads", unfollowed := true, recurses := true, plainKeys := false, apart := false }
def ShedReadsSaid : Prop := shedReadsRow.holds Try.pinned (OpenSpec.ofChange shedReadsSpec)

/-- ITS FALSE NEIGHBOUR: 'it returns false'. Refute it at one input. -/
def shedReadsWrong : ChangeSpec := { name := "shedReads", fn := fun _ => fun
  | [d1, d2, d3] => { results := [.lit (.bool false)], args := [d1, d2, d3] }
  | _ => none }
def ShedReadsWrongFalsely : Prop := shedReadsRow.holds Try.pinned (OpenSpec.ofChange shedReadsWrong)

/- THE SECOND FORM. 'bulk': how many values and letters a reading holds, each counted each time it is reached (what is shared counts as often as it is met; a slice's spare places count too). A statement '..UptoSaid' is the law's where the arguments, and the package variables that the reading takes, are together of bulk at most 1048576: NARROWER than '..Said'. Prove '..Said' where nothing that the law and all that it calls make is longer than what came in: it says more and counts as full. Else prove '..UptoSaid'. A law counts once. -/
mutual
def uptoBulk {H : Type} : DataW H → Nat
  | .lit (.string bytes) => bytes.length + 1
  | .lit _ => 1
  | .nil => 1
  | .ptr d => uptoBulk d + 1
  | .slice elems spare => uptoBulkAll elems + uptoBulkAll spare + 1
  | .agg parts => uptoBulkAll parts + 1
  | .iface _ d => uptoBulk d + 1
  | .map entries => uptoBulkEntries entries + 1
  | .held _ => 1
def uptoBulkAll {H : Type} : List (DataW H) → Nat
  | [] => 0
  | d :: r => uptoBulk d + uptoBulkAll r
def uptoBulkEntries {H : Type} : List (Lit × DataW H) → Nat
  | [] => 0
  | x :: r => uptoBulkEntry x + uptoBulkEntries r
def uptoBulkEntry {H : Type} : Lit × DataW H → Nat
  | (.string bytes, d) => bytes.length + uptoBulk d + 1
  | (_, d) => uptoBulk d + 1
 end
def uptoSmall : (H : Type) → List (DataW H) → Bool := fun _ ds => decide (uptoBulkAll ds ≤ 1048576)
def OpenSpec.upto (s : _root_.Go.ChangeSpec) : _root_.Go.OpenSpec := { _root_.Go.OpenSpec.ofChange s with cond := some uptoSmall }

/-- 'lockkeeperlaw42.MonoRuns', WHERE WHAT IT READS IS OF BULK AT MOST 1048576: true; the input reads as it did. -/
def monoRunsUptoRow : OpenClaim := { program := "ytghhjhjpccipaaa", sum := "537f52b4ee07f9ca4976c5930a886fd26ca112a0b9e0895fe7c85889d31d3833", func := "lockkeeper/lockkeeperlaw42.MonoRuns", spec := "monoRuns", unfollowed := true, recurses := true, plainKeys := false, apart := false, narrowed := true }
def MonoRunsUptoSaid : Prop := monoRunsUptoRow.holds Try.pinned (OpenSpec.upto monoRunsSpec)

/-- 'lockkeeperlaw44.DwellReads', WHERE WHAT IT READS IS OF BULK AT MOST 1048576: true; the input reads as it did. -/
def dwellReadsUptoRow : OpenClaim := { program := "ytghhjhjpccipaaa", sum := "537f52b4ee07f9ca4976c5930a886fd26ca112a0b9e0895fe7c85889d31d3833", func := "lockkeeper/lockkeeperlaw44.DwellReads", spec := "dwellReads", unfollowed := true, recurses := true, plainKeys := false, apart := false, narrowed := true }
def DwellReadsUptoSaid : Prop := dwellReadsUptoRow.holds Try.pinned (OpenSpec.upto dwellReadsSpec)

/-- 'lockkeeperlaw41.LedgerReads', WHERE WHAT IT READS IS OF BULK AT MOST 1048576: true; the input reads as it did. -/
def ledgerReadsUptoRow : OpenClaim := { program := "ytghhjhjpccipaaa", sum := "537f52b4ee07f9ca4976c5930a886fd26ca112a0b9e0895fe7c85889d31d3833", func := "lockkeeper/lockkeeperlaw41.LedgerReads", spec := "ledgerReads", unfollowed := true, recurses := true, plainKeys := false, apart := false, narrowed := true }
def LedgerReadsUptoSaid : Prop := ledgerReadsUptoRow.holds Try.pinned (OpenSpec.upto ledgerReadsSpec)

/-- 'lockkeeperlaw41.LedgerTells', WHERE WHAT IT READS IS OF BULK AT MOST 1048576: true; the input reads as it did. -/
def ledgerTellsUptoRow : OpenClaim := { program := "ytghhjhjpccipaaa", sum := "537f52b4ee07f9ca4976c5930a886fd26ca112a0b9e0895fe7c85889d31d3833", func := "lockkeeper/lockkeeperlaw41.LedgerTells", spec := "ledgerTells", unfollowed := true, recurses := true, plainKeys := false, apart := false, narrowed := true }
def LedgerTellsUptoSaid : Prop := ledgerTellsUptoRow.holds Try.pinned (OpenSpec.upto ledgerTellsSpec)

/-- 'lockkeeperlaw43.ShedReads', WHERE WHAT IT READS IS OF BULK AT MOST 1048576: true; the input reads as it did. -/
def shedReadsUptoRow : OpenClaim := { program := "ytghhjhjpccipaaa", sum := "537f52b4ee07f9ca4976c5930a886fd26ca112a0b9e0895fe7c85889d31d3833", func := "lockkeeper/lockkeeperlaw43.ShedReads", spec := "shedReads", unfollowed := true, recurses := true, plainKeys := false, apart := false, narrowed := true }
def ShedReadsUptoSaid : Prop := shedReadsUptoRow.holds Try.pinned (OpenSpec.upto shedReadsSpec)

end Rows
end Go.Proofs.Ytghhjhjpccipaaa
