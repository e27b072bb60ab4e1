/-
  No cell of these rows narrows 'for every input' (looked for: loops, veiled, ifaces, maps, wideKeys, modest, calm, conditions, laid).
  DERIVED. THE GIVEN ROWS OF THIS SEAT. 6 by the template 'for every input the law returns true; each argument reads behind the call as it read before'; 0 by the template 'total and deterministic' (their statements: YtcjochjiegiliaaGreatTotals.lean).
  GIVEN WITH THE SEED: the statements are not yours to turn. If you find one false, say at which input.
  Laid BY PROGRAM, IN A SANDBOX (cutbox-rows.mjs): the forced cells as the released guide's own fill.sh prints them over the translation b0a66f7652e1a6e1… (all of the seat's roots in one cut). By AI agents, Wed Nov 11 2026. No macro, syntax, notation, axiom, sorry.
-/
import Derived.Test.YtcjochjiegiliaaGreatChecked
import GoSem.Claim
import GoSem.ClaimJoined
import GoSem.ClaimMapViews
import Derived.JoinedTies
import Derived.KernelRfl
namespace Go.Proofs.YtcjochjiegiliaaGreat
/- THE CELL 'sum', in the pinned program and in every row, IS THE sha256 OF THE DUMP (.gsa) THAT YtcjochjiegiliaaGreatProg.lean LOADS. Nothing in Lean hashes anything: it is a label: what it is worth is what the hold of that sum in a sandbox is worth. -/
noncomputable def Tryz.pinned : Pinned := { name := "ytcjochjiegiliaagreat", sum := "b0a66f7652e1a6e1874baa00f7ad6c8c73b71061e2e49cf356abef7ce9ad6b82", checked := Tryz.checked }
namespace Rows
def none {H : Type} : Left H := { results := [], args := [] }

/-- 'fretworklaw23.WorkerChecks': WHATEVER THE INPUT: true; the input reads as it did. -/
def workerChecksSpec : ChangeSpec := { name := "workerChecks", fn := fun _ => fun
  | [d1, d2, d3] => { results := [.lit (.bool true)], args := [d1, d2, d3] }
  | _ => none }
def workerChecksRow : OpenClaim := { program := "ytcjochjiegiliaagreat", sum := "b0a66f7652e1a6e1874baa00f7ad6c8c73b71061e2e49cf356abef7ce9ad6b82", func := "fretwork/fretworklaw23.WorkerChecks", spec := "workerChecks", unfollowed := true, recurses := true, plainKeys := false, apart := false }
def WorkerChecksSaid : Prop := workerChecksRow.holds Tryz.pinned (OpenSpec.ofChange workerChecksSpec)

/-- ITS FALSE NEIGHBOUR: 'it returns false'. Refute it at one input. -/
def workerChecksWrong : ChangeSpec := { name := "workerChecks", fn := fun _ => fun
  | [d1, d2, d3] => { results := [.lit (.bool false)], args := [d1, d2, d3] }
  | _ => none }
def WorkerChecksWrongFalsely : Prop := workerChecksRow.holds Tryz.pinned (OpenSpec.ofChange workerChecksWrong)

/-- 'fretworklaw25.PlayWrong': WHATEVER THE INPUT: true; the input reads as it did. -/
def playWrongSpec : ChangeSpec := { name := "playWrong", fn := fun _ => fun
  | [d1, d2, d3] => { results := [.lit (.bool true)], args := [d1, d2, d3] }
  | _ => none }
def playWrongRow : OpenClaim := { program := "ytcjochjiegiliaagreat", sum := "b0a66f7652e1a6e1874baa00f7ad6c8c73b71061e2e49cf356abef7ce9ad6b82", func := "fretwork/fretworklaw25.PlayWrong", spec := "playWrong", unfollowed := true, recurses := true, plainKeys := false, apart := false }
def PlayWrongSaid : Prop := playWrongRow.holds Tryz.pinned (OpenSpec.ofChange playWrongSpec)

/-- ITS FALSE NEIGHBOUR: 'it returns false'. Refute it at one input. -/
def playWrongWrong : ChangeSpec := { name := "playWrong", fn := fun _ => fun
  | [d1, d2, d3] => { results := [.lit (.bool false)], args := [d1, d2, d3] }
  | _ => none }
def PlayWrongWrongFalsely : Prop := playWrongRow.holds Tryz.pinned (OpenSpec.ofChange playWrongWrong)

/-- 'fretworklaw36.ReplayBytes': WHATEVER THE INPUT: true; the input reads as it did. -/
def replayBytesSpec : ChangeSpec := { name := "replayBytes", fn := fun _ => fun
  | [d1, d2] => { results := [.lit (.bool true)], args := [d1, d2] }
  | _ => none }
def replayBytesRow : OpenClaim := { program := "ytcjochjiegiliaagreat", sum := "b0a66f7652e1a6e1874baa00f7ad6c8c73b71061e2e49cf356abef7ce9ad6b82", func := "fretwork/fretworklaw36.ReplayBytes", spec := "replayBytes", unfollowed := true, recurses := true, plainKeys := false, apart := false }
def ReplayBytesSaid : Prop := replayBytesRow.holds Tryz.pinned (OpenSpec.ofChange replayBytesSpec)

/-- ITS FALSE NEIGHBOUR: 'it returns false'. Refute it at one input. -/
def replayBytesWrong : ChangeSpec := { name := "replayBytes", fn := fun _ => fun
  | [d1, d2] => { results := [.lit (.bool false)], args := [d1, d2] }
  | _ => none }
def ReplayBytesWrongFalsely : Prop := replayBytesRow.holds Tryz.pinned (OpenSpec.ofChange replayBytesWrong)

/-- 'fretworklaw36.ReplayBack': WHATEVER THE INPUT: true; the input reads as it did. -/
def replayBackSpec : ChangeSpec := { name := "replayBack", fn := fun _ => fun
  | [d1, d2, d3] => { results := [.lit (.bool true)], args := [d1, d2, d3] }
  | _ => none }
def replayBackRow : OpenClaim := { program := "ytcjochjiegiliaagreat", sum := "b0a66f7652e1a6e1874baa00f7ad6c8c73b71061e2e49cf356abef7ce9ad6b82", func := "fretwork/fretworklaw36.ReplayBack", spec := "replayBack", unfollowed := true, recurses := true, plainKeys := false, apart := false }
def ReplayBackSaid : Prop := replayBackRow.holds Tryz.pinned (OpenSpec.ofChange replayBackSpec)

/-- ITS FALSE NEIGHBOUR: 'it returns false'. Refute it at one input. -/
def replayBackWrong : ChangeSpec := { name := "replayBack", fn := fun _ => fun
  | [d1, d2, d3] => { results := [.lit (.bool false)], args := [d1, d2, d3] }
  | _ => none }
def ReplayBackWrongFalsely : Prop := replayBackRow.holds Tryz.pinned (OpenSpec.ofChange replayBackWrong)

/-- 'fretworklaw31.IndepAsks': WHATEVER THE INPUT: true; the input reads as it did. -/
def indepAsksSpec : ChangeSpec := { name := "indepAsks", fn := fun _ => fun
  | [d1, d2, d3] => { results := [.lit (.bool true)], args := [d1, d2, d3] }
  | _ => none }
def indepAsksRow : OpenClaim := { program := "ytcjochjiegiliaagreat", sum := "b0a66f7652e1a6e1874baa00f7ad6c8c73b71061e2e49cf356abef7ce9ad6b82", func := "fretwork/fretworklaw31.IndepAsks", spec := "indepAsks", unfollowed := true, recurses := true, plainKeys := false, apart := false }
def IndepAsksSaid : Prop := indepAsksRow.holds Tryz.pinned (OpenSpec.ofChange indepAsksSpec)

/-- ITS FALSE NEIGHBOUR: 'it returns false'. Refute it at one input. -/
def indepAsksWrong : ChangeSpec := { name := "indepAsks", fn := fun _ => fun
  | [d1, d2, d3] => { results := [.lit (.bool false)], args := [d1, d2, d3] }
  | _ => none }
def IndepAsksWrongFalsely : Prop := indepAsksRow.holds Tryz.pinned (OpenSpec.ofChange indepAsksWrong)

/-- 'fretworklaw31.IndepJoins': WHATEVER THE INPUT: true; the input reads as it did. -/
def indepJoinsSpec : ChangeSpec := { name := "indepJoins", fn := fun _ => fun
  | [d1, d2] => { results := [.lit (.bool true)], args := [d1, d2] }
  | _ => none }
def indepJoinsRow : OpenClaim := { program := "ytcjochjiegiliaagreat", sum := "b0a66f7652e1a6e1874baa00f7ad6c8c73b71061e2e49cf356abef7ce9ad6b82", func := "fretwork/fretworklaw31.IndepJoins", spec := "indepJoins", unfollowed := true, recurses := true, plainKeys := false, apart := false }
def IndepJoinsSaid : Prop := indepJoinsRow.holds Tryz.pinned (OpenSpec.ofChange indepJoinsSpec)

/-- ITS FALSE NEIGHBOUR: 'it returns false'. Refute it at one input. -/
def indepJoinsWrong : ChangeSpec := { name := "indepJoins", fn := fun _ => fun
  | [d1, d2] => { results := [.lit (.bool false)], args := [d1, d2] }
  | _ => none }
def IndepJoinsWrongFalsely : Prop := indepJoinsRow.holds Tryz.pinned (OpenSpec.ofChange indepJoinsWrong)

/- THE SECOND FORM. 'bulk': how many values and letters a reading holds, each counted each time it is reached (what is shared counts as often as it is met; a slice's spare places count too). A statement '..UptoSaid' is the law's where the arguments, and the package variables that the reading takes, are together of bulk at most 1048576: NARROWER than '..Said'. Prove '..Said' where nothing that the law and all that it calls make is longer than what came in: it says more and counts as full. Else prove '..UptoSaid'. A law counts once. -/
mutual
def uptoBulk {H : Type} : DataW H → Nat
  | .lit (.string bytes) => bytes.length + 1
  | .lit _ => 1
  | .nil => 1
  | .ptr d => uptoBulk d + 1
  | .slice elems spare => uptoBulkAll elems + uptoBulkAll spare + 1
  | .agg parts => uptoBulkAll parts + 1
  | .iface _ d => uptoBulk d + 1
  | .map entries => uptoBulkEntries entries + 1
  | .held _ => 1
def uptoBulkAll {H : Type} : List (DataW H) → Nat
  | [] => 0
  | d :: r => uptoBulk d + uptoBulkAll r
def uptoBulkEntries {H : Type} : List (Lit × DataW H) → Nat
  | [] => 0
  | x :: r => uptoBulkEntry x + uptoBulkEntries r
def uptoBulkEntry {H : Type} : Lit × DataW H → Nat
  | (.string bytes, d) => bytes.length + uptoBulk d + 1
  | (_, d) => uptoBulk d + 1
 end
def uptoSmall : (H : Type) → List (DataW H) → Bool := fun _ ds => decide (uptoBulkAll ds ≤ 1048576)
def OpenSpec.upto (s : _root_.Go.ChangeSpec) : _root_.Go.OpenSpec := { _root_.Go.OpenSpec.ofChange s with cond := some uptoSmall }

/-- 'fretworklaw23.WorkerChecks', WHERE WHAT IT READS IS OF BULK AT MOST 1048576: true; the input reads as it did. -/
def workerChecksUptoRow : OpenClaim := { program := "ytcjochjiegiliaagreat", sum := "b0a66f7652e1a6e1874baa00f7ad6c8c73b71061e2e49cf356abef7ce9ad6b82", func := "fretwork/fretworklaw23.WorkerChecks", spec := "workerChecks", unfollowed := true, recurses := true, plainKeys := false, apart := false, narrowed := true }
def WorkerChecksUptoSaid : Prop := workerChecksUptoRow.holds Tryz.pinned (OpenSpec.upto workerChecksSpec)

/-- 'fretworklaw25.PlayWrong', WHERE WHAT IT READS IS OF BULK AT MOST 1048576: true; the input reads as it did. -/
def playWrongUptoRow : OpenClaim := { program := "ytcjochjiegiliaagreat", sum := "b0a66f7652e1a6e1874baa00f7ad6c8c73b71061e2e49cf356abef7ce9ad6b82", func := "fretwork/fretworklaw25.PlayWrong", spec := "playWrong", unfollowed := true, recurses := true, plainKeys := false, apart := false, narrowed := true }
def PlayWrongUptoSaid : Prop := playWrongUptoRow.holds Tryz.pinned (OpenSpec.upto playWrongSpec)

/-- 'fretworklaw36.ReplayBytes', WHERE WHAT IT READS IS OF BULK AT MOST 1048576: true; the input reads as it did. -/
def replayBytesUptoRow : OpenClaim := { program := "ytcjochjiegiliaagreat", sum := "b0a66f7652e1a6e1874baa00f7ad6c8c73b71061e2e49cf356abef7ce9ad6b82", func := "fretwork/fretworklaw36.ReplayBytes", spec := "replayBytes", unfollowed := true, recurses := true, plainKeys := false, apart := false, narrowed := true }
def ReplayBytesUptoSaid : Prop := replayBytesUptoRow.holds Tryz.pinned (OpenSpec.upto replayBytesSpec)

/-- 'fretworklaw36.ReplayBack', WHERE WHAT IT READS IS OF BULK AT MOST 1048576: true; the input reads as it did. -/
def replayBackUptoRow : OpenClaim := { program := "ytcjochjiegiliaagreat", sum := "b0a66f7652e1a6e1874baa00f7ad6c8c73b71061e2e49cf356abef7ce9ad6b82", func := "fretwork/fretworklaw36.ReplayBack", spec := "replayBack", unfollowed := true, recurses := true, plainKeys := false, apart := false, narrowed := true }
def ReplayBackUptoSaid : Prop := replayBackUptoRow.holds Tryz.pinned (OpenSpec.upto replayBackSpec)

/-- 'fretworklaw31.IndepAsks', WHERE WHAT IT READS IS OF BULK AT MOST 1048576: true; the input reads as it did. -/
def indepAsksUptoRow : OpenClaim := { program := "ytcjochjiegiliaagreat", sum := "b0a66f7652e1a6e1874baa00f7ad6c8c73b71061e2e49cf356abef7ce9ad6b82", func := "fretwork/fretworklaw31.IndepAsks", spec := "indepAsks", unfollowed := true, recurses := true, plainKeys := false, apart := false, narrowed := true }
def IndepAsksUptoSaid : Prop := indepAsksUptoRow.holds Tryz.pinned (OpenSpec.upto indepAsksSpec)

/-- 'fretworklaw31.IndepJoins', WHERE WHAT IT READS IS OF BULK AT MOST 1048576: true; the input reads as it did. -/
def indepJoinsUptoRow : OpenClaim := { program := "ytcjochjiegiliaagreat", sum := "b0a66f7652e1a6e1874baa00f7ad6c8c73b71061e2e49cf356abef7ce9ad6b82", func := "fretwork/fretworklaw31.IndepJoins", spec := "indepJoins", unfollowed := true, recurses := true, plainKeys := false, apart := false, narrowed := true }
def IndepJoinsUptoSaid : Prop := indepJoinsUptoRow.holds Tryz.pinned (OpenSpec.upto indepJoinsSpec)

end Rows
end Go.Proofs.YtcjochjiegiliaaGreat
