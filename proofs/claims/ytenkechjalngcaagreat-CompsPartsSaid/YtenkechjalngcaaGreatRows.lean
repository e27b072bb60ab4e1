/-
  No cell of these rows narrows 'for every input' (looked for: loops, veiled, ifaces, maps, wideKeys, modest, calm, conditions, laid).
  DERIVED. THE GIVEN ROWS OF THIS SEAT. 7 by the template 'for every input the law returns true; each argument reads behind the call as it read before'; 0 by the template 'total and deterministic' (their statements: YtenkechjalngcaaGreatTotals.lean).
  GIVEN WITH THE SEED: the statements are not yours to turn. If you find one false, say at which input.
  Laid BY PROGRAM, IN A SANDBOX (cutbox-rows.mjs): the forced cells as the released guide's own fill.sh prints them over the translation 5a7980ee4413922a… (all of the seat's roots in one cut). By AI agents, Wed Nov 11 2026. No macro, syntax, notation, axiom, sorry.
-/
import Derived.Test.YtenkechjalngcaaGreatChecked
import GoSem.Claim
import GoSem.ClaimJoined
import GoSem.ClaimMapViews
import Derived.JoinedTies
import Derived.KernelRfl
namespace Go.Proofs.YtenkechjalngcaaGreat
/- THE CELL 'sum', in the pinned program and in every row, IS THE sha256 OF THE DUMP (.gsa) THAT YtenkechjalngcaaGreatProg.lean LOADS. Nothing in Lean hashes anything: it is a label: what it is worth is what the hold of that sum in a sandbox is worth. -/
noncomputable def Tryz.pinned : Pinned := { name := "ytenkechjalngcaagreat", sum := "5a7980ee4413922a8ba8a4312600d69f8c4aa7cfe8452ddbea4d58867b64dd73", checked := Tryz.checked }
namespace Rows
def none {H : Type} : Left H := { results := [], args := [] }

/-- 'fretworklaw29.CompsAsks': WHATEVER THE INPUT: true; the input reads as it did. -/
def compsAsksSpec : ChangeSpec := { name := "compsAsks", fn := fun _ => fun
  | [d1, d2, d3] => { results := [.lit (.bool true)], args := [d1, d2, d3] }
  | _ => none }
def compsAsksRow : OpenClaim := { program := "ytenkechjalngcaagreat", sum := "5a7980ee4413922a8ba8a4312600d69f8c4aa7cfe8452ddbea4d58867b64dd73", func := "fretwork/fretworklaw29.CompsAsks", spec := "compsAsks", unfollowed := true, recurses := true, plainKeys := false, apart := false }
def CompsAsksSaid : Prop := compsAsksRow.holds Tryz.pinned (OpenSpec.ofChange compsAsksSpec)

/-- ITS FALSE NEIGHBOUR: 'it returns false'. Refute it at one input. -/
def compsAsksWrong : ChangeSpec := { name := "compsAsks", fn := fun _ => fun
  | [d1, d2, d3] => { results := [.lit (.bool false)], args := [d1, d2, d3] }
  | _ => none }
def CompsAsksWrongFalsely : Prop := compsAsksRow.holds Tryz.pinned (OpenSpec.ofChange compsAsksWrong)

/-- 'fretworklaw29.CompsOnly': WHATEVER THE INPUT: true; the input reads as it did. -/
def compsOnlySpec : ChangeSpec := { name := "compsOnly", fn := fun _ => fun
  | [d1, d2, d3] => { results := [.lit (.bool true)], args := [d1, d2, d3] }
  | _ => none }
def compsOnlyRow : OpenClaim := { program := "ytenkechjalngcaagreat", sum := "5a7980ee4413922a8ba8a4312600d69f8c4aa7cfe8452ddbea4d58867b64dd73", func := "fretwork/fretworklaw29.CompsOnly", spec := "compsOnly", unfollowed := true, recurses := true, plainKeys := false, apart := false }
def CompsOnlySaid : Prop := compsOnlyRow.holds Tryz.pinned (OpenSpec.ofChange compsOnlySpec)

/-- ITS FALSE NEIGHBOUR: 'it returns false'. Refute it at one input. -/
def compsOnlyWrong : ChangeSpec := { name := "compsOnly", fn := fun _ => fun
  | [d1, d2, d3] => { results := [.lit (.bool false)], args := [d1, d2, d3] }
  | _ => none }
def CompsOnlyWrongFalsely : Prop := compsOnlyRow.holds Tryz.pinned (OpenSpec.ofChange compsOnlyWrong)

/-- 'fretworklaw29.CompsJoins': WHATEVER THE INPUT: true; the input reads as it did. -/
def compsJoinsSpec : ChangeSpec := { name := "compsJoins", fn := fun _ => fun
  | [d1, d2] => { results := [.lit (.bool true)], args := [d1, d2] }
  | _ => none }
def compsJoinsRow : OpenClaim := { program := "ytenkechjalngcaagreat", sum := "5a7980ee4413922a8ba8a4312600d69f8c4aa7cfe8452ddbea4d58867b64dd73", func := "fretwork/fretworklaw29.CompsJoins", spec := "compsJoins", unfollowed := true, recurses := true, plainKeys := false, apart := false }
def CompsJoinsSaid : Prop := compsJoinsRow.holds Tryz.pinned (OpenSpec.ofChange compsJoinsSpec)

/-- ITS FALSE NEIGHBOUR: 'it returns false'. Refute it at one input. -/
def compsJoinsWrong : ChangeSpec := { name := "compsJoins", fn := fun _ => fun
  | [d1, d2] => { results := [.lit (.bool false)], args := [d1, d2] }
  | _ => none }
def CompsJoinsWrongFalsely : Prop := compsJoinsRow.holds Tryz.pinned (OpenSpec.ofChange compsJoinsWrong)

/-- 'fretworklaw27.HopsOnly': WHATEVER THE INPUT: true; the input reads as it did. -/
def hopsOnlySpec : ChangeSpec := { name := "hopsOnly", fn := fun _ => fun
  | [d1, d2, d3] => { results := [.lit (.bool true)], args := [d1, d2, d3] }
  | _ => none }
def hopsOnlyRow : OpenClaim := { program := "ytenkechjalngcaagreat", sum := "5a7980ee4413922a8ba8a4312600d69f8c4aa7cfe8452ddbea4d58867b64dd73", func := "fretwork/fretworklaw27.HopsOnly", spec := "hopsOnly", unfollowed := true, recurses := true, plainKeys := false, apart := false }
def HopsOnlySaid : Prop := hopsOnlyRow.holds Tryz.pinned (OpenSpec.ofChange hopsOnlySpec)

/-- ITS FALSE NEIGHBOUR: 'it returns false'. Refute it at one input. -/
def hopsOnlyWrong : ChangeSpec := { name := "hopsOnly", fn := fun _ => fun
  | [d1, d2, d3] => { results := [.lit (.bool false)], args := [d1, d2, d3] }
  | _ => none }
def HopsOnlyWrongFalsely : Prop := hopsOnlyRow.holds Tryz.pinned (OpenSpec.ofChange hopsOnlyWrong)

/-- 'fretworklaw27.HopsWays': WHATEVER THE INPUT: true; the input reads as it did. -/
def hopsWaysSpec : ChangeSpec := { name := "hopsWays", fn := fun _ => fun
  | [d1, d2] => { results := [.lit (.bool true)], args := [d1, d2] }
  | _ => none }
def hopsWaysRow : OpenClaim := { program := "ytenkechjalngcaagreat", sum := "5a7980ee4413922a8ba8a4312600d69f8c4aa7cfe8452ddbea4d58867b64dd73", func := "fretwork/fretworklaw27.HopsWays", spec := "hopsWays", unfollowed := true, recurses := true, plainKeys := false, apart := false }
def HopsWaysSaid : Prop := hopsWaysRow.holds Tryz.pinned (OpenSpec.ofChange hopsWaysSpec)

/-- ITS FALSE NEIGHBOUR: 'it returns false'. Refute it at one input. -/
def hopsWaysWrong : ChangeSpec := { name := "hopsWays", fn := fun _ => fun
  | [d1, d2] => { results := [.lit (.bool false)], args := [d1, d2] }
  | _ => none }
def HopsWaysWrongFalsely : Prop := hopsWaysRow.holds Tryz.pinned (OpenSpec.ofChange hopsWaysWrong)

/-- 'fretworklaw29.CompsParts': WHATEVER THE INPUT: true; the input reads as it did. -/
def compsPartsSpec : ChangeSpec := { name := "compsParts", fn := fun _ => fun
  | [d1, d2] => { results := [.lit (.bool true)], args := [d1, d2] }
  | _ => none }
def compsPartsRow : OpenClaim := { program := "ytenkechjalngcaagreat", sum := "5a7980ee4413922a8ba8a4312600d69f8c4aa7cfe8452ddbea4d58867b64dd73", func := "fretwork/fretworklaw29.CompsParts", spec := "compsParts", unfollowed := true, recurses := true, plainKeys := false, apart := false }
def CompsPartsSaid : Prop := compsPartsRow.holds Tryz.pinned (OpenSpec.ofChange compsPartsSpec)

/-- ITS FALSE NEIGHBOUR: 'it returns false'. Refute it at one input. -/
def compsPartsWrong : ChangeSpec := { name := "compsParts", fn := fun _ => fun
  | [d1, d2] => { results := [.lit (.bool false)], args := [d1, d2] }
  | _ => none }
def CompsPartsWrongFalsely : Prop := compsPartsRow.holds Tryz.pinned (OpenSpec.ofChange compsPartsWrong)

/-- 'fretworklaw27.HopsChecks': WHATEVER THE INPUT: true; the input reads as it did. -/
def hopsChecksSpec : ChangeSpec := { name := "hopsChecks", fn := fun _ => fun
  | [d1, d2, d3] => { results := [.lit (.bool true)], args := [d1, d2, d3] }
  | _ => none }
def hopsChecksRow : OpenClaim := { program := "ytenkechjalngcaagreat", sum := "5a7980ee4413922a8ba8a4312600d69f8c4aa7cfe8452ddbea4d58867b64dd73", func := "fretwork/fretworklaw27.HopsChecks", spec := "hopsChecks", unfollowed := true, recurses := true, plainKeys := false, apart := false }
def HopsChecksSaid : Prop := hopsChecksRow.holds Tryz.pinned (OpenSpec.ofChange hopsChecksSpec)

/-- ITS FALSE NEIGHBOUR: 'it returns false'. Refute it at one input. -/
def hopsChecksWrong : ChangeSpec := { name := "hopsChecks", fn := fun _ => fun
  | [d1, d2, d3] => { results := [.lit (.bool false)], args := [d1, d2, d3] }
  | _ => none }
def HopsChecksWrongFalsely : Prop := hopsChecksRow.holds Tryz.pinned (OpenSpec.ofChange hopsChecksWrong)

/- THE SECOND FORM. 'bulk': how many values and letters a reading holds, each counted each time it is reached (what is shared counts as often as it is met; a slice's spare places count too). A statement '..UptoSaid' is the law's where the arguments, and the package variables that the reading takes, are together of bulk at most 1048576: NARROWER than '..Said'. Prove '..Said' where nothing that the law and all that it calls make is longer than what came in: it says more and counts as full. Else prove '..UptoSaid'. A law counts once. -/
mutual
def uptoBulk {H : Type} : DataW H → Nat
  | .lit (.string bytes) => bytes.length + 1
  | .lit _ => 1
  | .nil => 1
  | .ptr d => uptoBulk d + 1
  | .slice elems spare => uptoBulkAll elems + uptoBulkAll spare + 1
  | .agg parts => uptoBulkAll parts + 1
  | .iface _ d => uptoBulk d + 1
  | .map entries => uptoBulkEntries entries + 1
  | .held _ => 1
def uptoBulkAll {H : Type} : List (DataW H) → Nat
  | [] => 0
  | d :: r => uptoBulk d + uptoBulkAll r
def uptoBulkEntries {H : Type} : List (Lit × DataW H) → Nat
  | [] => 0
  | x :: r => uptoBulkEntry x + uptoBulkEntries r
def uptoBulkEntry {H : Type} : Lit × DataW H → Nat
  | (.string bytes, d) => bytes.length + uptoBulk d + 1
  | (_, d) => uptoBulk d + 1
 end
def uptoSmall : (H : Type) → List (DataW H) → Bool := fun _ ds => decide (uptoBulkAll ds ≤ 1048576)
def OpenSpec.upto (s : _root_.Go.ChangeSpec) : _root_.Go.OpenSpec := { _root_.Go.OpenSpec.ofChange s with cond := some uptoSmall }

/-- 'fretworklaw29.CompsAsks', WHERE WHAT IT READS IS OF BULK AT MOST 1048576: true; the input reads as it did. -/
def compsAsksUptoRow : OpenClaim := { program := "ytenkechjalngcaagreat", sum := "5a7980ee4413922a8ba8a4312600d69f8c4aa7cfe8452ddbea4d58867b64dd73", func := "fretwork/fretworklaw29.CompsAsks", spec := "compsAsks", unfollowed := true, recurses := true, plainKeys := false, apart := false, narrowed := true }
def CompsAsksUptoSaid : Prop := compsAsksUptoRow.holds Tryz.pinned (OpenSpec.upto compsAsksSpec)

/-- 'fretworklaw29.CompsOnly', WHERE WHAT IT READS IS OF BULK AT MOST 1048576: true; the input reads as it did. -/
def compsOnlyUptoRow : OpenClaim := { program := "ytenkechjalngcaagreat", sum := "5a7980ee4413922a8ba8a4312600d69f8c4aa7cfe8452ddbea4d58867b64dd73", func := "fretwork/fretworklaw29.CompsOnly", spec := "compsOnly", unfollowed := true, recurses := true, plainKeys := false, apart := false, narrowed := true }
def CompsOnlyUptoSaid : Prop := compsOnlyUptoRow.holds Tryz.pinned (OpenSpec.upto compsOnlySpec)

/-- 'fretworklaw29.CompsJoins', WHERE WHAT IT READS IS OF BULK AT MOST 1048576: true; the input reads as it did. -/
def compsJoinsUptoRow : OpenClaim := { program := "ytenkechjalngcaagreat", sum := "5a7980ee4413922a8ba8a4312600d69f8c4aa7cfe8452ddbea4d58867b64dd73", func := "fretwork/fretworklaw29.CompsJoins", spec := "compsJoins", unfollowed := true, recurses := true, plainKeys := false, apart := false, narrowed := true }
def CompsJoinsUptoSaid : Prop := compsJoinsUptoRow.holds Tryz.pinned (OpenSpec.upto compsJoinsSpec)

/-- 'fretworklaw27.HopsOnly', WHERE WHAT IT READS IS OF BULK AT MOST 1048576: true; the input reads as it did. -/
def hopsOnlyUptoRow : OpenClaim := { program := "ytenkechjalngcaagreat", sum := "5a7980ee4413922a8ba8a4312600d69f8c4aa7cfe8452ddbea4d58867b64dd73", func := "fretwork/fretworklaw27.HopsOnly", spec := "hopsOnly", unfollowed := true, recurses := true, plainKeys := false, apart := false, narrowed := true }
def HopsOnlyUptoSaid : Prop := hopsOnlyUptoRow.holds Tryz.pinned (OpenSpec.upto hopsOnlySpec)

/-- 'fretworklaw27.HopsWays', WHERE WHAT IT READS IS OF BULK AT MOST 1048576: true; the input reads as it did. -/
def hopsWaysUptoRow : OpenClaim := { program := "ytenkechjalngcaagreat", sum := "5a7980ee4413922a8ba8a4312600d69f8c4aa7cfe8452ddbea4d58867b64dd73", func := "fretwork/fretworklaw27.HopsWays", spec := "hopsWays", unfollowed := true, recurses := true, plainKeys := false, apart := false, narrowed := true }
def HopsWaysUptoSaid : Prop := hopsWaysUptoRow.holds Tryz.pinned (OpenSpec.upto hopsWaysSpec)

/-- 'fretworklaw29.CompsParts', WHERE WHAT IT READS IS OF BULK AT MOST 1048576: true; the input reads as it did. -/
def compsPartsUptoRow : OpenClaim := { program := "ytenkechjalngcaagreat", sum := "5a7980ee4413922a8ba8a4312600d69f8c4aa7cfe8452ddbea4d58867b64dd73", func := "fretwork/fretworklaw29.CompsParts", spec := "compsParts", unfollowed := true, recurses := true, plainKeys := false, apart := false, narrowed := true }
def CompsPartsUptoSaid : Prop := compsPartsUptoRow.holds Tryz.pinned (OpenSpec.upto compsPartsSpec)

/-- 'fretworklaw27.HopsChecks', WHERE WHAT IT READS IS OF BULK AT MOST 1048576: true; the input reads as it did. -/
def hopsChecksUptoRow : OpenClaim := { program := "ytenkechjalngcaagreat", sum := "5a7980ee4413922a8ba8a4312600d69f8c4aa7cfe8452ddbea4d58867b64dd73", func := "fretwork/fretworklaw27.HopsChecks", spec := "hopsChecks", unfollowed := true, recurses := true, plainKeys := false, apart := false, narrowed := true }
def HopsChecksUptoSaid : Prop := hopsChecksUptoRow.holds Tryz.pinned (OpenSpec.upto hopsChecksSpec)

end Rows
end Go.Proofs.YtenkechjalngcaaGreat
