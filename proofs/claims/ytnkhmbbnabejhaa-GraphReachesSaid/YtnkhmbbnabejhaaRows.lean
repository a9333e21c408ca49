/-
  No cell of these rows narrows 'for every input' (looked for: loops, veiled, ifaces, maps, wideKeys, modest, calm, conditions, laid).
  DERIVED. THE GIVEN ROWS OF THIS SEAT. 8 by the template 'for every input the law returns true; each argument reads behind the call as it read before'; 0 by the template 'total and deterministic' (their statements: YtnkhmbbnabejhaaTotals.lean).
  GIVEN WITH THE SEED: the statements are not yours to turn. If you find one false, say at which input.
  Laid BY PROGRAM, IN A SANDBOX (cutbox-rows.mjs): the forced cells as the released guide's own fill.sh prints them over the translation d46bb8357bc5d10d… (all of the seat's roots in one cut). By AI agents, Wed Nov 11 2026. No macro, syntax, notation, axiom, sorry.
-/
import Derived.Test.YtnkhmbbnabejhaaChecked
import GoSem.Claim
import GoSem.ClaimJoined
import GoSem.ClaimMapViews
import Derived.JoinedTies
import Derived.KernelRfl
namespace Go.Proofs.Ytnkhmbbnabejhaa
/- THE CELL 'sum', in the pinned program and in every row, IS THE sha256 OF THE DUMP (.gsa) THAT YtnkhmbbnabejhaaProg.lean LOADS. Nothing in Lean hashes anything: it is a label: what it is worth is what the hold of that sum in a sandbox is worth. -/
noncomputable def Try.pinned : Pinned := { name := "ytnkhmbbnabejhaa", sum := "d46bb8357bc5d10d4c11b4f7273c1338d86e160ca3463c31b3992ff7c6dd944d", checked := Try.checked }
namespace Rows
def none {H : Type} : Left H := { results := [], args := [] }

/-- 'lockkeeperlaw32.JobOnce': WHATEVER THE INPUT: true; the input reads as it did. -/
def jobOnceSpec : ChangeSpec := { name := "jobOnce", fn := fun _ => fun
  | [d1, d2, d3] => { results := [.lit (.bool true)], args := [d1, d2, d3] }
  | _ => none }
def jobOnceRow : OpenClaim := { program := "ytnkhmbbnabejhaa", sum := "d46bb8357bc5d10d4c11b4f7273c1338d86e160ca3463c31b3992ff7c6dd944d", func := "lockkeeper/lockkeeperlaw32.JobOnce", spec := "jobOnce", unfollowed := true, recurses := true, apart := false }
def JobOnceSaid : Prop := jobOnceRow.holds Try.pinned (OpenSpec.ofChange jobOnceSpec)

/-- ITS FALSE NEIGHBOUR: 'it returns false'. Refute it at one input. -/
def jobOnceWrong : ChangeSpec := { name := "jobOnce", fn := fun _ => fun
  | [d1, d2, d3] => { results := [.lit (.bool false)], args := [d1, d2, d3] }
  | _ => none }
def JobOnceWrongFalsely : Prop := jobOnceRow.holds Try.pinned (OpenSpec.ofChange jobOnceWrong)

/-- 'lockkeeperlaw34.WaitOne': WHATEVER THE INPUT: true; the input reads as it did. -/
def waitOneSpec : ChangeSpec := { name := "waitOne", fn := fun _ => fun
  | [d1, d2] => { results := [.lit (.bool true)], args := [d1, d2] }
  | _ => none }
def waitOneRow : OpenClaim := { program := "ytnkhmbbnabejhaa", sum := "d46bb8357bc5d10d4c11b4f7273c1338d86e160ca3463c31b3992ff7c6dd944d", func := "lockkeeper/lockkeeperlaw34.WaitOne", spec := "waitOne", unfollowed := true, recurses := true, apart := false }
def WaitOneSaid : Prop := waitOneRow.holds Try.pinned (OpenSpec.ofChange waitOneSpec)

/-- ITS FALSE NEIGHBOUR: 'it returns false'. Refute it at one input. -/
def waitOneWrong : ChangeSpec := { name := "waitOne", fn := fun _ => fun
  | [d1, d2] => { results := [.lit (.bool false)], args := [d1, d2] }
  | _ => none }
def WaitOneWrongFalsely : Prop := waitOneRow.holds Try.pinned (OpenSpec.ofChange waitOneWrong)

/-- 'lockkeeperlaw34.WaitPlays': WHATEVER THE INPUT: true; the input reads as it did. -/
def waitPlaysSpec : ChangeSpec := { name := "waitPlays", fn := fun _ => fun
  | [d] => { results := [.lit (.bool true)], args := [d] }
  | _ => none }
def waitPlaysRow : OpenClaim := { program := "ytnkhmbbnabejhaa", sum := "d46bb8357bc5d10d4c11b4f7273c1338d86e160ca3463c31b3992ff7c6dd944d", func := "lockkeeper/lockkeeperlaw34.WaitPlays", spec := "waitPlays", unfollowed := true, recurses := true, apart := false }
def WaitPlaysSaid : Prop := waitPlaysRow.holds Try.pinned (OpenSpec.ofChange waitPlaysSpec)

/-- ITS FALSE NEIGHBOUR: 'it returns false'. Refute it at one input. -/
def waitPlaysWrong : ChangeSpec := { name := "waitPlays", fn := fun _ => fun
  | [d] => { results := [.lit (.bool false)], args := [d] }
  | _ => none }
def WaitPlaysWrongFalsely : Prop := waitPlaysRow.holds Try.pinned (OpenSpec.ofChange waitPlaysWrong)

/-- 'lockkeeperlaw34.WaitNobody': WHATEVER THE INPUT: true; the input reads as it did. -/
def waitNobodySpec : ChangeSpec := { name := "waitNobody", fn := fun _ => fun
  | [d1, d2] => { results := [.lit (.bool true)], args := [d1, d2] }
  | _ => none }
def waitNobodyRow : OpenClaim := { program := "ytnkhmbbnabejhaa", sum := "d46bb8357bc5d10d4c11b4f7273c1338d86e160ca3463c31b3992ff7c6dd944d", func := "lockkeeper/lockkeeperlaw34.WaitNobody", spec := "waitNobody", unfollowed := true, recurses := true, apart := false }
def WaitNobodySaid : Prop := waitNobodyRow.holds Try.pinned (OpenSpec.ofChange waitNobodySpec)

/-- ITS FALSE NEIGHBOUR: 'it returns false'. Refute it at one input. -/
def waitNobodyWrong : ChangeSpec := { name := "waitNobody", fn := fun _ => fun
  | [d1, d2] => { results := [.lit (.bool false)], args := [d1, d2] }
  | _ => none }
def WaitNobodyWrongFalsely : Prop := waitNobodyRow.holds Try.pinned (OpenSpec.ofChange waitNobodyWrong)

/-- 'lockkeeperlaw32.JobGoes': WHATEVER THE INPUT: true; the input reads as it did. -/
def jobGoesSpec : ChangeSpec := { name := "jobGoes", fn := fun _ => fun
  | [d1, d2, d3] => { results := [.lit (.bool true)], args := [d1, d2, d3] }
  | _ => none }
def jobGoesRow : OpenClaim := { program := "ytnkhmbbnabejhaa", sum := "d46bb8357bc5d10d4c11b4f7273c1338d86e160ca3463c31b3992ff7c6dd944d", func := "lockkeeper/lockkeeperlaw32.JobGoes", spec := "jobGoes", unfollowed := true, recurses := true, apart := false }
def JobGoesSaid : Prop := jobGoesRow.holds Try.pinned (OpenSpec.ofChange jobGoesSpec)

/-- ITS FALSE NEIGHBOUR: 'it returns false'. Refute it at one input. -/
def jobGoesWrong : ChangeSpec := { name := "jobGoes", fn := fun _ => fun
  | [d1, d2, d3] => { results := [.lit (.bool false)], args := [d1, d2, d3] }
  | _ => none }
def JobGoesWrongFalsely : Prop := jobGoesRow.holds Try.pinned (OpenSpec.ofChange jobGoesWrong)

/-- 'lockkeeperlaw29.GraphTells': WHATEVER THE INPUT: true; the input reads as it did. -/
def graphTellsSpec : ChangeSpec := { name := "graphTells", fn := fun _ => fun
  | [d1, d2] => { results := [.lit (.bool true)], args := [d1, d2] }
  | _ => none }
def graphTellsRow : OpenClaim := { program := "ytnkhmbbnabejhaa", sum := "d46bb8357bc5d10d4c11b4f7273c1338d86e160ca3463c31b3992ff7c6dd944d", func := "lockkeeper/lockkeeperlaw29.GraphTells", spec := "graphTells", unfollowed := true, recurses := true, apart := false }
def GraphTellsSaid : Prop := graphTellsRow.holds Try.pinned (OpenSpec.ofChange graphTellsSpec)

/-- ITS FALSE NEIGHBOUR: 'it returns false'. Refute it at one input. -/
def graphTellsWrong : ChangeSpec := { name := "graphTells", fn := fun _ => fun
  | [d1, d2] => { results := [.lit (.bool false)], args := [d1, d2] }
  | _ => none }
def GraphTellsWrongFalsely : Prop := graphTellsRow.holds Try.pinned (OpenSpec.ofChange graphTellsWrong)

/-- 'lockkeeperlaw29.GraphOrders': WHATEVER THE INPUT: true; the input reads as it did. -/
def graphOrdersSpec : ChangeSpec := { name := "graphOrders", fn := fun _ => fun
  | [d] => { results := [.lit (.bool true)], args := [d] }
  | _ => none }
def graphOrdersRow : OpenClaim := { program := "ytnkhmbbnabejhaa", sum := "d46bb8357bc5d10d4c11b4f7273c1338d86e160ca3463c31b3992ff7c6dd944d", func := "lockkeeper/lockkeeperlaw29.GraphOrders", spec := "graphOrders", unfollowed := true, recurses := true, apart := false }
def GraphOrdersSaid : Prop := graphOrdersRow.holds Try.pinned (OpenSpec.ofChange graphOrdersSpec)

/-- ITS FALSE NEIGHBOUR: 'it returns false'. Refute it at one input. -/
def graphOrdersWrong : ChangeSpec := { name := "graphOrders", fn := fun _ => fun
  | [d] => { results := [.lit (.bool false)], args := [d] }
  | _ => none }
def GraphOrdersWrongFalsely : Prop := graphOrdersRow.holds Try.pinned (OpenSpec.ofChange graphOrdersWrong)

/-- 'lockkeeperlaw29.GraphReaches': WHATEVER THE INPUT: true; the input reads as it did. -/
def graphReachesSpec : ChangeSpec := { name := "graphReaches", fn := fun _ => fun
  | [d] => { results := [.lit (.bool true)], args := [d] }
  | _ => none }
def graphReachesRow : OpenClaim := { program := "ytnkhmbbnabejhaa", sum := "d46bb8357bc5d10d4c11b4f7273c1338d86e160ca3463c31b3992ff7c6dd944d", func := "lockkeeper/lockkeeperlaw29.GraphReaches", spec := "graphReaches", unfollowed := true, recurses := true, apart := false }
def GraphReachesSaid : Prop := graphReachesRow.holds Try.pinned (OpenSpec.ofChange graphReachesSpec)

/-- ITS FALSE NEIGHBOUR: 'it returns false'. Refute it at one input. -/
def graphReachesWrong : ChangeSpec := { name := "graphReaches", fn := fun _ => fun
  | [d] => { results := [.lit (.bool false)], args := [d] }
  | _ => none }
def GraphReachesWrongFalsely : Prop := graphReachesRow.holds Try.pinned (OpenSpec.ofChange graphReachesWrong)

/- THE SECOND FORM. 'bulk': how many values and letters a reading holds, each counted each time it is reached (what is shared counts as often as it is met; a slice's spare places count too). A statement '..UptoSaid' is the law's where the arguments, and the package variables that the reading takes, are together of bulk at most 1048576: NARROWER than '..Said'. Prove '..Said' where nothing that the law and all that it calls make is longer than what came in: it says more and counts as full. Else prove '..UptoSaid'. A law counts once. -/
mutual
def uptoBulk {H : Type} : DataW H → Nat
  | .lit (.string bytes) => bytes.length + 1
  | .lit _ => 1
  | .nil => 1
  | .ptr d => uptoBulk d + 1
  | .slice elems spare => uptoBulkAll elems + uptoBulkAll spare + 1
  | .agg parts => uptoBulkAll parts + 1
  | .iface _ d => uptoBulk d + 1
  | .map entries => uptoBulkEntries entries + 1
  | .held _ => 1
def uptoBulkAll {H : Type} : List (DataW H) → Nat
  | [] => 0
  | d :: r => uptoBulk d + uptoBulkAll r
def uptoBulkEntries {H : Type} : List (Lit × DataW H) → Nat
  | [] => 0
  | x :: r => uptoBulkEntry x + uptoBulkEntries r
def uptoBulkEntry {H : Type} : Lit × DataW H → Nat
  | (.string bytes, d) => bytes.length + uptoBulk d + 1
  | (_, d) => uptoBulk d + 1
 end
def uptoSmall : (H : Type) → List (DataW H) → Bool := fun _ ds => decide (uptoBulkAll ds ≤ 1048576)
def OpenSpec.upto (s : _root_.Go.ChangeSpec) : _root_.Go.OpenSpec := { _root_.Go.OpenSpec.ofChange s with cond := some uptoSmall }

/-- 'lockkeeperlaw32.JobOnce', WHERE WHAT IT READS IS OF BULK AT MOST 1048576: true; the input reads as it did. -/
def jobOnceUptoRow : OpenClaim := { program := "ytnkhmbbnabejhaa", sum := "d46bb8357bc5d10d4c11b4f7273c1338d86e160ca3463c31b3992ff7c6dd944d", func := "lockkeeper/lockkeeperlaw32.JobOnce", spec := "jobOnce", unfollowed := true, recurses := true, apart := false, narrowed := true }
def JobOnceUptoSaid : Prop := jobOnceUptoRow.holds Try.pinned (OpenSpec.upto jobOnceSpec)

/-- 'lockkeeperlaw34.WaitOne', WHERE WHAT IT READS IS OF BULK AT MOST 1048576: true; the input reads as it did. -/
def waitOneUptoRow : OpenClaim := { program := "ytnkhmbbnabejhaa", sum := "d46bb8357bc5d10d4c11b4f7273c1338d86e160ca3463c31b3992ff7c6dd944d", func := "lockkeeper/lockkeeperlaw34.WaitOne", spec := "waitOne", unfollowed := true, recurses := true, apart := false, narrowed := true }
def WaitOneUptoSaid : Prop := waitOneUptoRow.holds Try.pinned (OpenSpec.upto waitOneSpec)

/-- 'lockkeeperlaw34.WaitPlays', WHERE WHAT IT READS IS OF BULK AT MOST 1048576: true; the input reads as it did. -/
def waitPlaysUptoRow : OpenClaim := { program := "ytnkhmbbnabejhaa", sum := "d46bb8357bc5d10d4c11b4f7273c1338d86e160ca3463c31b3992ff7c6dd944d", func := "lockkeeper/lockkeeperlaw34.WaitPlays", spec := "waitPlays", unfollowed := true, recurses := true, apart := false, narrowed := true }
def WaitPlaysUptoSaid : Prop := waitPlaysUptoRow.holds Try.pinned (OpenSpec.upto waitPlaysSpec)

/-- 'lockkeeperlaw34.WaitNobody', WHERE WHAT IT READS IS OF BULK AT MOST 1048576: true; the input reads as it did. -/
def waitNobodyUptoRow : OpenClaim := { program := "ytnkhmbbnabejhaa", sum := "d46bb8357bc5d10d4c11b4f7273c1338d86e160ca3463c31b3992ff7c6dd944d", func := "lockkeeper/lockkeeperlaw34.WaitNobody", spec := "waitNobody", unfollowed := true, recurses := true, apart := false, narrowed := true }
def WaitNobodyUptoSaid : Prop := waitNobodyUptoRow.holds Try.pinned (OpenSpec.upto waitNobodySpec)

/-- 'lockkeeperlaw32.JobGoes', WHERE WHAT IT READS IS OF BULK AT MOST 1048576: true; the input reads as it did. -/
def jobGoesUptoRow : OpenClaim := { program := "ytnkhmbbnabejhaa", sum := "d46bb8357bc5d10d4c11b4f7273c1338d86e160ca3463c31b3992ff7c6dd944d", func := "lockkeeper/lockkeeperlaw32.JobGoes", spec := "jobGoes", unfollowed := true, recurses := true, apart := false, narrowed := true }
def JobGoesUptoSaid : Prop := jobGoesUptoRow.holds Try.pinned (OpenSpec.upto jobGoesSpec)

/-- 'lockkeeperlaw29.GraphTells', WHERE WHAT IT READS IS OF BULK AT MOST 1048576: true; the input reads as it did. -/
def graphTellsUptoRow : OpenClaim := { program := "ytnkhmbbnabejhaa", sum := "d46bb8357bc5d10d4c11b4f7273c1338d86e160ca3463c31b3992ff7c6dd944d", func := "lockkeeper/lockkeeperlaw29.GraphTells", spec := "graphTells", unfollowed := true, recurses := true, apart := false, narrowed := true }
def GraphTellsUptoSaid : Prop := graphTellsUptoRow.holds Try.pinned (OpenSpec.upto graphTellsSpec)

/-- 'lockkeeperlaw29.GraphOrders', WHERE WHAT IT READS IS OF BULK AT MOST 1048576: true; the input reads as it did. -/
def graphOrdersUptoRow : OpenClaim := { program := "ytnkhmbbnabejhaa", sum := "d46bb8357bc5d10d4c11b4f7273c1338d86e160ca3463c31b3992ff7c6dd944d", func := "lockkeeper/lockkeeperlaw29.GraphOrders", spec := "graphOrders", unfollowed := true, recurses := true, apart := false, narrowed := true }
def GraphOrdersUptoSaid : Prop := graphOrdersUptoRow.holds Try.pinned (OpenSpec.upto graphOrdersSpec)

/-- 'lockkeeperlaw29.GraphReaches', WHERE WHAT IT READS IS OF BULK AT MOST 1048576: true; the input reads as it did. -/
def graphReachesUptoRow : OpenClaim := { program := "ytnkhmbbnabejhaa", sum := "d46bb8357bc5d10d4c11b4f7273c1338d86e160ca3463c31b3992ff7c6dd944d", func := "lockkeeper/lockkeeperlaw29.GraphReaches", spec := "graphReaches", unfollowed := true, recurses := true, apart := false, narrowed := true }
def GraphReachesUptoSaid : Prop := graphReachesUptoRow.holds Try.pinned (OpenSpec.upto graphReachesSpec)

end Rows
end Go.Proofs.Ytnkhmbbnabejhaa
