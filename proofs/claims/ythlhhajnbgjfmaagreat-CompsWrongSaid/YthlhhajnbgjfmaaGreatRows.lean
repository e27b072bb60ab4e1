/-
  No cell of these rows narrows 'for every input' (looked for: loops, veiled, ifaces, maps, wideKeys, modest, calm, conditions, laid).
  DERIVED. THE GIVEN ROWS OF THIS SEAT. 12 by the template 'for every input the law returns true; each argument reads behind the call as it read before'; 0 by the template 'total and deterministic' (their statements: YthlhhajnbgjfmaaGreatTotals.lean).
  GIVEN WITH THE SEED: the statements are not yours to turn. If you find one false, say at which input.
  Laid BY PROGRAM, IN A SANDBOX (cutbox-rows.mjs): the forced cells as the released guide's own fill.sh prints them over the translation 67a39ba53a2a29fc… (all of the seat's roots in one cut). By AI agents, Wed Nov 11 2026. No macro, syntax, notation, axiom, sorry.
-/
import Derived.Test.YthlhhajnbgjfmaaGreatChecked
import GoSem.Claim
import GoSem.ClaimJoined
import GoSem.ClaimMapViews
import Derived.JoinedTies
import Derived.KernelRfl
namespace Go.Proofs.YthlhhajnbgjfmaaGreat
/- THE CELL 'sum', in the pinned program and in every row, IS THE sha256 OF THE DUMP (.gsa) THAT YthlhhajnbgjfmaaGreatProg.lean LOADS. Nothing in Lean hashes anything: it is a label: what it is worth is what the hold of that sum in a sandbox is worth. -/
noncomputable def Tryz.pinned : Pinned := { name := "ythlhhajnbgjfmaagreat", sum := "67a39ba53a2a29fcf8ba1c94e76f665e3f1dc0f5d8976c9d2efa60b71d3db3f6", checked := Tryz.checked }
namespace Rows
def none {H : Type} : Left H := { results := [], args := [] }

/-- 'fretworklaw27.HopsRuns': WHATEVER THE INPUT: true; the input reads as it did. -/
def hopsRunsSpec : ChangeSpec := { name := "hopsRuns", fn := fun _ => fun
  | [d] => { results := [.lit (.bool true)], args := [d] }
  | _ => none }
def hopsRunsRow : OpenClaim := { program := "ythlhhajnbgjfmaagreat", sum := "67a39ba53a2a29fcf8ba1c94e76f665e3f1dc0f5d8976c9d2efa60b71d3db3f6", func := "fretwork/fretworklaw27.HopsRuns", spec := "hopsRuns", unfollowed := true, recurses := true, plainKeys := false, apart := false }
def HopsRunsSaid : Prop := hopsRunsRow.holds Tryz.pinned (OpenSpec.ofChange hopsRunsSpec)

/-- ITS FALSE NEIGHBOUR: 'it returns false'. Refute it at one input. -/
def hopsRunsWrong : ChangeSpec := { name := "hopsRuns", fn := fun _ => fun
  | [d] => { results := [.lit (.bool false)], args := [d] }
  | _ => none }
def HopsRunsWrongFalsely : Prop := hopsRunsRow.holds Tryz.pinned (OpenSpec.ofChange hopsRunsWrong)

/-- 'fretworklaw27.HopsWrong': WHATEVER THE INPUT: true; the input reads as it did. -/
def hopsWrongSpec : ChangeSpec := { name := "hopsWrong", fn := fun _ => fun
  | [d1, d2] => { results := [.lit (.bool true)], args := [d1, d2] }
  | _ => none }
def hopsWrongRow : OpenClaim := { program := "ythlhhajnbgjfmaagreat", sum := "67a39ba53a2a29fcf8ba1c94e76f665e3f1dc0f5d8976c9d2efa60b71d3db3f6", func := "fretwork/fretworklaw27.HopsWrong", spec := "hopsWrong", unfollowed := true, recurses := true, plainKeys := false, apart := false }
def HopsWrongSaid : Prop := hopsWrongRow.holds Tryz.pinned (OpenSpec.ofChange hopsWrongSpec)

/-- ITS FALSE NEIGHBOUR: 'it returns false'. Refute it at one input. -/
def hopsWrongWrong : ChangeSpec := { name := "hopsWrong", fn := fun _ => fun
  | [d1, d2] => { results := [.lit (.bool false)], args := [d1, d2] }
  | _ => none }
def HopsWrongWrongFalsely : Prop := hopsWrongRow.holds Tryz.pinned (OpenSpec.ofChange hopsWrongWrong)

/-- 'fretworklaw29.CompsRuns': WHATEVER THE INPUT: true; the input reads as it did. -/
def compsRunsSpec : ChangeSpec := { name := "compsRuns", fn := fun _ => fun
  | [d] => { results := [.lit (.bool true)], args := [d] }
  | _ => none }
def compsRunsRow : OpenClaim := { program := "ythlhhajnbgjfmaagreat", sum := "67a39ba53a2a29fcf8ba1c94e76f665e3f1dc0f5d8976c9d2efa60b71d3db3f6", func := "fretwork/fretworklaw29.CompsRuns", spec := "compsRuns", unfollowed := true, recurses := true, plainKeys := false, apart := false }
def CompsRunsSaid : Prop := compsRunsRow.holds Tryz.pinned (OpenSpec.ofChange compsRunsSpec)

/-- ITS FALSE NEIGHBOUR: 'it returns false'. Refute it at one input. -/
def compsRunsWrong : ChangeSpec := { name := "compsRuns", fn := fun _ => fun
  | [d] => { results := [.lit (.bool false)], args := [d] }
  | _ => none }
def CompsRunsWrongFalsely : Prop := compsRunsRow.holds Tryz.pinned (OpenSpec.ofChange compsRunsWrong)

/-- 'fretworklaw29.CompsWrong': WHATEVER THE INPUT: true; the input reads as it did. -/
def compsWrongSpec : ChangeSpec := { name := "compsWrong", fn := fun _ => fun
  | [d1, d2, d3] => { results := [.lit (.bool true)], args := [d1, d2, d3] }
  | _ => none }
def compsWrongRow : OpenClaim := { program := "ythlhhajnbgjfmaagreat", sum := "67a39ba53a2a29fcf8ba1c94e76f665e3f1dc0f5d8976c9d2efa60b71d3db3f6", func := "fretwork/fretworklaw29.CompsWrong", spec := "compsWrong", unfollowed := true, recurses := true, plainKeys := false, apart := false }
def CompsWrongSaid : Prop := compsWrongRow.holds Tryz.pinned (OpenSpec.ofChange compsWrongSpec)

/-- ITS FALSE NEIGHBOUR: 'it returns false'. Refute it at one input. -/
def compsWrongWrong : ChangeSpec := { name := "compsWrong", fn := fun _ => fun
  | [d1, d2, d3] => { results := [.lit (.bool false)], args := [d1, d2, d3] }
  | _ => none }
def CompsWrongWrongFalsely : Prop := compsWrongRow.holds Tryz.pinned (OpenSpec.ofChange compsWrongWrong)

/-- 'fretworklaw28.PathsRuns': WHATEVER THE INPUT: true; the input reads as it did. -/
def pathsRunsSpec : ChangeSpec := { name := "pathsRuns", fn := fun _ => fun
  | [d] => { results := [.lit (.bool true)], args := [d] }
  | _ => none }
def pathsRunsRow : OpenClaim := { program := "ythlhhajnbgjfmaagreat", sum := "67a39ba53a2a29fcf8ba1c94e76f665e3f1dc0f5d8976c9d2efa60b71d3db3f6", func := "fretwork/fretworklaw28.PathsRuns", spec := "pathsRuns", unfollowed := true, recurses := true, plainKeys := false, apart := false }
def PathsRunsSaid : Prop := pathsRunsRow.holds Tryz.pinned (OpenSpec.ofChange pathsRunsSpec)

/-- ITS FALSE NEIGHBOUR: 'it returns false'. Refute it at one input. -/
def pathsRunsWrong : ChangeSpec := { name := "pathsRuns", fn := fun _ => fun
  | [d] => { results := [.lit (.bool false)], args := [d] }
  | _ => none }
def PathsRunsWrongFalsely : Prop := pathsRunsRow.holds Tryz.pinned (OpenSpec.ofChange pathsRunsWrong)

/-- 'fretworklaw28.PathsWrong': WHATEVER THE INPUT: true; the input reads as it did. -/
def pathsWrongSpec : ChangeSpec := { name := "pathsWrong", fn := fun _ => fun
  | [d1, d2, d3] => { results := [.lit (.bool true)], args := [d1, d2, d3] }
  | _ => none }
def pathsWrongRow : OpenClaim := { program := "ythlhhajnbgjfmaagreat", sum := "67a39ba53a2a29fcf8ba1c94e76f665e3f1dc0f5d8976c9d2efa60b71d3db3f6", func := "fretwork/fretworklaw28.PathsWrong", spec := "pathsWrong", unfollowed := true, recurses := true, plainKeys := false, apart := false }
def PathsWrongSaid : Prop := pathsWrongRow.holds Tryz.pinned (OpenSpec.ofChange pathsWrongSpec)

/-- ITS FALSE NEIGHBOUR: 'it returns false'. Refute it at one input. -/
def pathsWrongWrong : ChangeSpec := { name := "pathsWrong", fn := fun _ => fun
  | [d1, d2, d3] => { results := [.lit (.bool false)], args := [d1, d2, d3] }
  | _ => none }
def PathsWrongWrongFalsely : Prop := pathsWrongRow.holds Tryz.pinned (OpenSpec.ofChange pathsWrongWrong)

/-- 'fretworklaw31.IndepRuns': WHATEVER THE INPUT: true; the input reads as it did. -/
def indepRunsSpec : ChangeSpec := { name := "indepRuns", fn := fun _ => fun
  | [d1, d2] => { results := [.lit (.bool true)], args := [d1, d2] }
  | _ => none }
def indepRunsRow : OpenClaim := { program := "ythlhhajnbgjfmaagreat", sum := "67a39ba53a2a29fcf8ba1c94e76f665e3f1dc0f5d8976c9d2efa60b71d3db3f6", func := "fretwork/fretworklaw31.IndepRuns", spec := "indepRuns", unfollowed := true, recurses := true, plainKeys := false, apart := false }
def IndepRunsSaid : Prop := indepRunsRow.holds Tryz.pinned (OpenSpec.ofChange indepRunsSpec)

/-- ITS FALSE NEIGHBOUR: 'it returns false'. Refute it at one input. -/
def indepRunsWrong : ChangeSpec := { name := "indepRuns", fn := fun _ => fun
  | [d1, d2] => { results := [.lit (.bool false)], args := [d1, d2] }
  | _ => none }
def IndepRunsWrongFalsely : Prop := indepRunsRow.holds Tryz.pinned (OpenSpec.ofChange indepRunsWrong)

/-- 'fretworklaw31.IndepWrong': WHATEVER THE INPUT: true; the input reads as it did. -/
def indepWrongSpec : ChangeSpec := { name := "indepWrong", fn := fun _ => fun
  | [d1, d2, d3] => { results := [.lit (.bool true)], args := [d1, d2, d3] }
  | _ => none }
def indepWrongRow : OpenClaim := { program := "ythlhhajnbgjfmaagreat", sum := "67a39ba53a2a29fcf8ba1c94e76f665e3f1dc0f5d8976c9d2efa60b71d3db3f6", func := "fretwork/fretworklaw31.IndepWrong", spec := "indepWrong", unfollowed := true, recurses := true, plainKeys := false, apart := false }
def IndepWrongSaid : Prop := indepWrongRow.holds Tryz.pinned (OpenSpec.ofChange indepWrongSpec)

/-- ITS FALSE NEIGHBOUR: 'it returns false'. Refute it at one input. -/
def indepWrongWrong : ChangeSpec := { name := "indepWrong", fn := fun _ => fun
  | [d1, d2, d3] => { results := [.lit (.bool false)], args := [d1, d2, d3] }
  | _ => none }
def IndepWrongWrongFalsely : Prop := indepWrongRow.holds Tryz.pinned (OpenSpec.ofChange indepWrongWrong)

/-- 'fretworklaw31.IndepFirst': WHATEVER THE INPUT: true; the input reads as it did. -/
def indepFirstSpec : ChangeSpec := { name := "indepFirst", fn := fun _ => fun
  | [d] => { results := [.lit (.bool true)], args := [d] }
  | _ => none }
def indepFirstRow : OpenClaim := { program := "ythlhhajnbgjfmaagreat", sum := "67a39ba53a2a29fcf8ba1c94e76f665e3f1dc0f5d8976c9d2efa60b71d3db3f6", func := "fretwork/fretworklaw31.IndepFirst", spec := "indepFirst", unfollowed := true, recurses := true, plainKeys := false, apart := false }
def IndepFirstSaid : Prop := indepFirstRow.holds Tryz.pinned (OpenSpec.ofChange indepFirstSpec)

/-- ITS FALSE NEIGHBOUR: 'it returns false'. Refute it at one input. -/
def indepFirstWrong : ChangeSpec := { name := "indepFirst", fn := fun _ => fun
  | [d] => { results := [.lit (.bool false)], args := [d] }
  | _ => none }
def IndepFirstWrongFalsely : Prop := indepFirstRow.holds Tryz.pinned (OpenSpec.ofChange indepFirstWrong)

/-- 'fretworklaw23.WorkerAlone': WHATEVER THE INPUT: true; the input reads as it did. -/
def workerAloneSpec : ChangeSpec := { name := "workerAlone", fn := fun _ => fun
  | [d] => { results := [.lit (.bool true)], args := [d] }
  | _ => none }
def workerAloneRow : OpenClaim := { program := "ythlhhajnbgjfmaagreat", sum := "67a39ba53a2a29fcf8ba1c94e76f665e3f1dc0f5d8976c9d2efa60b71d3db3f6", func := "fretwork/fretworklaw23.WorkerAlone", spec := "workerAlone", unfollowed := true, recurses := true, plainKeys := false, apart := false }
def WorkerAloneSaid : Prop := workerAloneRow.holds Tryz.pinned (OpenSpec.ofChange workerAloneSpec)

/-- ITS FALSE NEIGHBOUR: 'it returns false'. Refute it at one input. -/
def workerAloneWrong : ChangeSpec := { name := "workerAlone", fn := fun _ => fun
  | [d] => { results := [.lit (.bool false)], args := [d] }
  | _ => none }
def WorkerAloneWrongFalsely : Prop := workerAloneRow.holds Tryz.pinned (OpenSpec.ofChange workerAloneWrong)

/-- 'fretworklaw24.GridFair': WHATEVER THE INPUT: true; the input reads as it did. -/
def gridFairSpec : ChangeSpec := { name := "gridFair", fn := fun _ => fun
  | [d] => { results := [.lit (.bool true)], args := [d] }
  | _ => none }
def gridFairRow : OpenClaim := { program := "ythlhhajnbgjfmaagreat", sum := "67a39ba53a2a29fcf8ba1c94e76f665e3f1dc0f5d8976c9d2efa60b71d3db3f6", func := "fretwork/fretworklaw24.GridFair", spec := "gridFair", unfollowed := true, recurses := true, plainKeys := false, apart := false }
def GridFairSaid : Prop := gridFairRow.holds Tryz.pinned (OpenSpec.ofChange gridFairSpec)

/-- ITS FALSE NEIGHBOUR: 'it returns false'. Refute it at one input. -/
def gridFairWrong : ChangeSpec := { name := "gridFair", fn := fun _ => fun
  | [d] => { results := [.lit (.bool false)], args := [d] }
  | _ => none }
def GridFairWrongFalsely : Prop := gridFairRow.holds Tryz.pinned (OpenSpec.ofChange gridFairWrong)

/-- 'fretworklaw25.PlayFair': WHATEVER THE INPUT: true; the input reads as it did. -/
def playFairSpec : ChangeSpec := { name := "playFair", fn := fun _ => fun
  | [d] => { results := [.lit (.bool true)], args := [d] }
  | _ => none }
def playFairRow : OpenClaim := { program := "ythlhhajnbgjfmaagreat", sum := "67a39ba53a2a29fcf8ba1c94e76f665e3f1dc0f5d8976c9d2efa60b71d3db3f6", func := "fretwork/fretworklaw25.PlayFair", spec := "playFair", unfollowed := true, recurses := true, plainKeys := false, apart := false }
def PlayFairSaid : Prop := playFairRow.holds Tryz.pinned (OpenSpec.ofChange playFairSpec)

/-- ITS FALSE NEIGHBOUR: 'it returns false'. Refute it at one input. -/
def playFairWrong : ChangeSpec := { name := "playFair", fn := fun _ => fun
  | [d] => { results := [.lit (.bool false)], args := [d] }
  | _ => none }
def PlayFairWrongFalsely : Prop := playFairRow.holds Tryz.pinned (OpenSpec.ofChange playFairWrong)

/- THE SECOND FORM. 'bulk': how many values and letters a reading holds, each counted each time it is reached (what is shared counts as often as it is met; a slice's spare places count too). A statement '..UptoSaid' is the law's where the arguments, and the package variables that the reading takes, are together of bulk at most 1048576: NARROWER than '..Said'. Prove '..Said' where nothing that the law and all that it calls make is longer than what came in: it says more and counts as full. Else prove '..UptoSaid'. A law counts once. -/
mutual
def uptoBulk {H : Type} : DataW H → Nat
  | .lit (.string bytes) => bytes.length + 1
  | .lit _ => 1
  | .nil => 1
  | .ptr d => uptoBulk d + 1
  | .slice elems spare => uptoBulkAll elems + uptoBulkAll spare + 1
  | .agg parts => uptoBulkAll parts + 1
  | .iface _ d => uptoBulk d + 1
  | .map entries => uptoBulkEntries entries + 1
  | .held _ => 1
def uptoBulkAll {H : Type} : List (DataW H) → Nat
  | [] => 0
  | d :: r => uptoBulk d + uptoBulkAll r
def uptoBulkEntries {H : Type} : List (Lit × DataW H) → Nat
  | [] => 0
  | x :: r => uptoBulkEntry x + uptoBulkEntries r
def uptoBulkEntry {H : Type} : Lit × DataW H → Nat
  | (.string bytes, d) => bytes.length + uptoBulk d + 1
  | (_, d) => uptoBulk d + 1
 end
def uptoSmall : (H : Type) → List (DataW H) → Bool := fun _ ds => decide (uptoBulkAll ds ≤ 1048576)
def OpenSpec.upto (s : _root_.Go.ChangeSpec) : _root_.Go.OpenSpec := { _root_.Go.OpenSpec.ofChange s with cond := some uptoSmall }

/-- 'fretworklaw27.HopsRuns', WHERE WHAT IT READS IS OF BULK AT MOST 1048576: true; the input reads as it did. -/
def hopsRunsUptoRow : OpenClaim := { program := "ythlhhajnbgjfmaagreat", sum := "67a39ba53a2a29fcf8ba1c94e76f665e3f1dc0f5d8976c9d2efa60b71d3db3f6", func := "fretwork/fretworklaw27.HopsRuns", spec := "hopsRuns", unfollowed := true, recurses := true, plainKeys := false, apart := false, narrowed := true }
def HopsRunsUptoSaid : Prop := hopsRunsUptoRow.holds Tryz.pinned (OpenSpec.upto hopsRunsSpec)

/-- 'fretworklaw27.HopsWrong', WHERE WHAT IT READS IS OF BULK AT MOST 1048576: true; the input reads as it did. -/
def hopsWrongUptoRow : OpenClaim := { program := "ythlhhajnbgjfmaagreat", sum := "67a39ba53a2a29fcf8ba1c94e76f665e3f1dc0f5d8976c9d2efa60b71d3db3f6", func := "fretwork/fretworklaw27.HopsWrong", spec := "hopsWrong", unfollowed := true, recurses := true, plainKeys := false, apart := false, narrowed := true }
def HopsWrongUptoSaid : Prop := hopsWrongUptoRow.holds Tryz.pinned (OpenSpec.upto hopsWrongSpec)

/-- 'fretworklaw29.CompsRuns', WHERE WHAT IT READS IS OF BULK AT MOST 1048576: true; the input reads as it did. -/
def compsRunsUptoRow : OpenClaim := { program := "ythlhhajnbgjfmaagreat", sum := "67a39ba53a2a29fcf8ba1c94e76f665e3f1dc0f5d8976c9d2efa60b71d3db3f6", func := "fretwork/fretworklaw29.CompsRuns", spec := "compsRuns", unfollowed := true, recurses := true, plainKeys := false, apart := false, narrowed := true }
def CompsRunsUptoSaid : Prop := compsRunsUptoRow.holds Tryz.pinned (OpenSpec.upto compsRunsSpec)

/-- 'fretworklaw29.CompsWrong', WHERE WHAT IT READS IS OF BULK AT MOST 1048576: true; the input reads as it did. -/
def compsWrongUptoRow : OpenClaim := { program := "ythlhhajnbgjfmaagreat", sum := "67a39ba53a2a29fcf8ba1c94e76f665e3f1dc0f5d8976c9d2efa60b71d3db3f6", func := "fretwork/fretworklaw29.CompsWrong", spec := "compsWrong", unfollowed := true, recurses := true, plainKeys := false, apart := false, narrowed := true }
def CompsWrongUptoSaid : Prop := compsWrongUptoRow.holds Tryz.pinned (OpenSpec.upto compsWrongSpec)

/-- 'fretworklaw28.PathsRuns', WHERE WHAT IT READS IS OF BULK AT MOST 1048576: true; the input reads as it did. -/
def pathsRunsUptoRow : OpenClaim := { program := "ythlhhajnbgjfmaagreat", sum := "67a39ba53a2a29fcf8ba1c94e76f665e3f1dc0f5d8976c9d2efa60b71d3db3f6", func := "fretwork/fretworklaw28.PathsRuns", spec := "pathsRuns", unfollowed := true, recurses := true, plainKeys := false, apart := false, narrowed := true }
def PathsRunsUptoSaid : Prop := pathsRunsUptoRow.holds Tryz.pinned (OpenSpec.upto pathsRunsSpec)

/-- 'fretworklaw28.PathsWrong', WHERE WHAT IT READS IS OF BULK AT MOST 1048576: true; the input reads as it did. -/
def pathsWrongUptoRow : OpenClaim := { program := "ythlhhajnbgjfmaagreat", sum := "67a39ba53a2a29fcf8ba1c94e76f665e3f1dc0f5d8976c9d2efa60b71d3db3f6", func := "fretwork/fretworklaw28.PathsWrong", spec := "pathsWrong", unfollowed := true, recurses := true, plainKeys := false, apart := false, narrowed := true }
def PathsWrongUptoSaid : Prop := pathsWrongUptoRow.holds Tryz.pinned (OpenSpec.upto pathsWrongSpec)

/-- 'fretworklaw31.IndepRuns', WHERE WHAT IT READS IS OF BULK AT MOST 1048576: true; the input reads as it did. -/
def indepRunsUptoRow : OpenClaim := { program := "ythlhhajnbgjfmaagreat", sum := "67a39ba53a2a29fcf8ba1c94e76f665e3f1dc0f5d8976c9d2efa60b71d3db3f6", func := "fretwork/fretworklaw31.IndepRuns", spec := "indepRuns", unfollowed := true, recurses := true, plainKeys := false, apart := false, narrowed := true }
def IndepRunsUptoSaid : Prop := indepRunsUptoRow.holds Tryz.pinned (OpenSpec.upto indepRunsSpec)

/-- 'fretworklaw31.IndepWrong', WHERE WHAT IT READS IS OF BULK AT MOST 1048576: true; the input reads as it did. -/
def indepWrongUptoRow : OpenClaim := { program := "ythlhhajnbgjfmaagreat", sum := "67a39ba53a2a29fcf8ba1c94e76f665e3f1dc0f5d8976c9d2efa60b71d3db3f6", func := "fretwork/fretworklaw31.IndepWrong", spec := "indepWrong", unfollowed := true, recurses := true, plainKeys := false, apart := false, narrowed := true }
def IndepWrongUptoSaid : Prop := indepWrongUptoRow.holds Tryz.pinned (OpenSpec.upto indepWrongSpec)

/-- 'fretworklaw31.IndepFirst', WHERE WHAT IT READS IS OF BULK AT MOST 1048576: true; the input reads as it did. -/
def indepFirstUptoRow : OpenClaim := { program := "ythlhhajnbgjfmaagreat", sum := "67a39ba53a2a29fcf8ba1c94e76f665e3f1dc0f5d8976c9d2efa60b71d3db3f6", func := "fretwork/fretworklaw31.IndepFirst", spec := "indepFirst", unfollowed := true, recurses := true, plainKeys := false, apart := false, narrowed := true }
def IndepFirstUptoSaid : Prop := indepFirstUptoRow.holds Tryz.pinned (OpenSpec.upto indepFirstSpec)

/-- 'fretworklaw23.WorkerAlone', WHERE WHAT IT READS IS OF BULK AT MOST 1048576: true; the input reads as it did. -/
def workerAloneUptoRow : OpenClaim := { program := "ythlhhajnbgjfmaagreat", sum := "67a39ba53a2a29fcf8ba1c94e76f665e3f1dc0f5d8976c9d2efa60b71d3db3f6", func := "fretwork/fretworklaw23.WorkerAlone", spec := "workerAlone", unfollowed := true, recurses := true, plainKeys := false, apart := false, narrowed := true }
def WorkerAloneUptoSaid : Prop := workerAloneUptoRow.holds Tryz.pinned (OpenSpec.upto workerAloneSpec)

/-- 'fretworklaw24.GridFair', WHERE WHAT IT READS IS OF BULK AT MOST 1048576: true; the input reads as it did. -/
def gridFairUptoRow : OpenClaim := { program := "ythlhhajnbgjfmaagreat", sum := "67a39ba53a2a29fcf8ba1c94e76f665e3f1dc0f5d8976c9d2efa60b71d3db3f6", func := "fretwork/fretworklaw24.GridFair", spec := "gridFair", unfollowed := true, recurses := true, plainKeys := false, apart := false, narrowed := true }
def GridFairUptoSaid : Prop := gridFairUptoRow.holds Tryz.pinned (OpenSpec.upto gridFairSpec)

/-- 'fretworklaw25.PlayFair', WHERE WHAT IT READS IS OF BULK AT MOST 1048576: true; the input reads as it did. -/
def playFairUptoRow : OpenClaim := { program := "ythlhhajnbgjfmaagreat", sum := "67a39ba53a2a29fcf8ba1c94e76f665e3f1dc0f5d8976c9d2efa60b71d3db3f6", func := "fretwork/fretworklaw25.PlayFair", spec := "playFair", unfollowed := true, recurses := true, plainKeys := false, apart := false, narrowed := true }
def PlayFairUptoSaid : Prop := playFairUptoRow.holds Tryz.pinned (OpenSpec.upto playFairSpec)

end Rows
end Go.Proofs.YthlhhajnbgjfmaaGreat
