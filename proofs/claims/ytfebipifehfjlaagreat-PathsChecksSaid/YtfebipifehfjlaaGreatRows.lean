/-
  No cell of these rows narrows 'for every input' (looked for: loops, veiled, ifaces, maps, wideKeys, modest, calm, conditions, laid).
  DERIVED. THE GIVEN ROWS OF THIS SEAT. 3 by the template 'for every input the law returns true; each argument reads behind the call as it read before'; 0 by the template 'total and deterministic' (their statements: YtfebipifehfjlaaGreatTotals.lean).
  GIVEN WITH THE SEED: the statements are not yours to turn. If you find one false, say at which input.
  Laid BY PROGRAM, IN A SANDBOX (cutbox-rows.mjs): the forced cells as the released guide's own fill.sh prints them over the translation 0d053829782cfaa0… (all of the seat's roots in one cut). By AI agents, Wed Nov 11 2026. No macro, syntax, notation, axiom, sorry.
-/
import Derived.Test.YtfebipifehfjlaaGreatChecked
import GoSem.Claim
import GoSem.ClaimJoined
import GoSem.ClaimMapViews
import Derived.JoinedTies
import Derived.KernelRfl
namespace Go.Proofs.YtfebipifehfjlaaGreat
/- THE CELL 'sum', in the pinned program and in every row, IS THE sha256 OF THE DUMP (.gsa) THAT YtfebipifehfjlaaGreatProg.lean LOADS. Nothing in Lean hashes anything: it is a label: what it is worth is what the hold of that sum in a sandbox is worth. -/
noncomputable def Tryz.pinned : Pinned := { name := "ytfebipifehfjlaagreat", sum := "0d053829782cfaa0549aa696c09b95b206d6a287ffc57ce384d060ef214f2d0e", checked := Tryz.checked }
namespace Rows
def none {H : Type} : Left H := { results := [], args := [] }

/-- 'fretworklaw28.PathsChecks': WHATEVER THE INPUT: true; the input reads as it did. -/
def pathsChecksSpec : ChangeSpec := { name := "pathsChecks", fn := fun _ => fun
  | [d1, d2, d3] => { results := [.lit (.bool true)], args := [d1, d2, d3] }
  | _ => none }
def pathsChecksRow : OpenClaim := { program := "ytfebipifehfjlaagreat", sum := "0d053829782cfaa0549aa696c09b95b206d6a287ffc57ce384d060ef214f2d0e", func := "fretwork/fretworklaw28.PathsChecks", spec := "pathsChecks", unfollowed := true, recurses := true, plainKeys := false, apart := false }
def PathsChecksSaid : Prop := pathsChecksRow.holds Tryz.pinned (OpenSpec.ofChange pathsChecksSpec)

/-- ITS FALSE NEIGHBOUR: 'it returns false'. Refute it at one input. -/
def pathsChecksWrong : ChangeSpec := { name := "pathsChecks", fn := fun _ => fun
  | [d1, d2, d3] => { results := [.lit (.bool false)], args := [d1, d2, d3] }
  | _ => none }
def PathsChecksWrongFalsely : Prop := pathsChecksRow.holds Tryz.pinned (OpenSpec.ofChange pathsChecksWrong)

/-- 'fretworklaw28.PathsOnly': WHATEVER THE INPUT: true; the input reads as it did. -/
def pathsOnlySpec : ChangeSpec := { name := "pathsOnly", fn := fun _ => fun
  | [d1, d2, d3] => { results := [.lit (.bool true)], args := [d1, d2, d3] }
  | _ => none }
def pathsOnlyRow : OpenClaim := { program := "ytfebipifehfjlaagreat", sum := "0d053829782cfaa0549aa696c09b95b206d6a287ffc57ce384d060ef214f2d0e", func := "fretwork/fretworklaw28.PathsOnly", spec := "pathsOnly", unfollowed := true, recurses := true, plainKeys := false, apart := false }
def PathsOnlySaid : Prop := pathsOnlyRow.holds Tryz.pinned (OpenSpec.ofChange pathsOnlySpec)

/-- ITS FALSE NEIGHBOUR: 'it returns false'. Refute it at one input. -/
def pathsOnlyWrong : ChangeSpec := { name := "pathsOnly", fn := fun _ => fun
  | [d1, d2, d3] => { results := [.lit (.bool false)], args := [d1, d2, d3] }
  | _ => none }
def PathsOnlyWrongFalsely : Prop := pathsOnlyRow.holds Tryz.pinned (OpenSpec.ofChange pathsOnlyWrong)

/-- 'fretworklaw28.PathsWays': WHATEVER THE INPUT: true; the input reads as it did. -/
def pathsWaysSpec : ChangeSpec := { name := "pathsWays", fn := fun _ => fun
  | [d1, d2, d3] => { results := [.lit (.bool true)], args := [d1, d2, d3] }
  | _ => none }
def pathsWaysRow : OpenClaim := { program := "ytfebipifehfjlaagreat", sum := "0d053829782cfaa0549aa696c09b95b206d6a287ffc57ce384d060ef214f2d0e", func := "fretwork/fretworklaw28.PathsWays", spec := "pathsWays", unfollowed := true, recurses := true, plainKeys := false, apart := false }
def PathsWaysSaid : Prop := pathsWaysRow.holds Tryz.pinned (OpenSpec.ofChange pathsWaysSpec)

/-- ITS FALSE NEIGHBOUR: 'it returns false'. Refute it at one input. -/
def pathsWaysWrong : ChangeSpec := { name := "pathsWays", fn := fun _ => fun
  | [d1, d2, d3] => { results := [.lit (.bool false)], args := [d1, d2, d3] }
  | _ => none }
def PathsWaysWrongFalsely : Prop := pathsWaysRow.holds Tryz.pinned (OpenSpec.ofChange pathsWaysWrong)

/- THE SECOND FORM. 'bulk': how many values and letters a reading holds, each counted each time it is reached (what is shared counts as often as it is met; a slice's spare places count too). A statement '..UptoSaid' is the law's where the arguments, and the package variables that the reading takes, are together of bulk at most 1048576: NARROWER than '..Said'. Prove '..Said' where nothing that the law and all that it calls make is longer than what came in: it says more and counts as full. Else prove '..UptoSaid'. A law counts once. -/
mutual
def uptoBulk {H : Type} : DataW H → Nat
  | .lit (.string bytes) => bytes.length + 1
  | .lit _ => 1
  | .nil => 1
  | .ptr d => uptoBulk d + 1
  | .slice elems spare => uptoBulkAll elems + uptoBulkAll spare + 1
  | .agg parts => uptoBulkAll parts + 1
  | .iface _ d => uptoBulk d + 1
  | .map entries => uptoBulkEntries entries + 1
  | .held _ => 1
def uptoBulkAll {H : Type} : List (DataW H) → Nat
  | [] => 0
  | d :: r => uptoBulk d + uptoBulkAll r
def uptoBulkEntries {H : Type} : List (Lit × DataW H) → Nat
  | [] => 0
  | x :: r => uptoBulkEntry x + uptoBulkEntries r
def uptoBulkEntry {H : Type} : Lit × DataW H → Nat
  | (.string bytes, d) => bytes.length + uptoBulk d + 1
  | (_, d) => uptoBulk d + 1
 end
def uptoSmall : (H : Type) → List (DataW H) → Bool := fun _ ds => decide (uptoBulkAll ds ≤ 1048576)
def OpenSpec.upto (s : _root_.Go.ChangeSpec) : _root_.Go.OpenSpec := { _root_.Go.OpenSpec.ofChange s with cond := some uptoSmall }

/-- 'fretworklaw28.PathsChecks', WHERE WHAT IT READS IS OF BULK AT MOST 1048576: true; the input reads as it did. -/
def pathsChecksUptoRow : OpenClaim := { program := "ytfebipifehfjlaagreat", sum := "0d053829782cfaa0549aa696c09b95b206d6a287ffc57ce384d060ef214f2d0e", func := "fretwork/fretworklaw28.PathsChecks", spec := "pathsChecks", unfollowed := true, recurses := true, plainKeys := false, apart := false, narrowed := true }
def PathsChecksUptoSaid : Prop := pathsChecksUptoRow.holds Tryz.pinned (OpenSpec.upto pathsChecksSpec)

/-- 'fretworklaw28.PathsOnly', WHERE WHAT IT READS IS OF BULK AT MOST 1048576: true; the input reads as it did. -/
def pathsOnlyUptoRow : OpenClaim := { program := "ytfebipifehfjlaagreat", sum := "0d053829782cfaa0549aa696c09b95b206d6a287ffc57ce384d060ef214f2d0e", func := "fretwork/fretworklaw28.PathsOnly", spec := "pathsOnly", unfollowed := true, recurses := true, plainKeys := false, apart := false, narrowed := true }
def PathsOnlyUptoSaid : Prop := pathsOnlyUptoRow.holds Tryz.pinned (OpenSpec.upto pathsOnlySpec)

/-- 'fretworklaw28.PathsWays', WHERE WHAT IT READS IS OF BULK AT MOST 1048576: true; the input reads as it did. -/
def pathsWaysUptoRow : OpenClaim := { program := "ytfebipifehfjlaagreat", sum := "0d053829782cfaa0549aa696c09b95b206d6a287ffc57ce384d060ef214f2d0e", func := "fretwork/fretworklaw28.PathsWays", spec := "pathsWays", unfollowed := true, recurses := true, plainKeys := false, apart := false, narrowed := true }
def PathsWaysUptoSaid : Prop := pathsWaysUptoRow.holds Tryz.pinned (OpenSpec.upto pathsWaysSpec)

end Rows
end Go.Proofs.YtfebipifehfjlaaGreat
