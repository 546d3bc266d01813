/-
  No cell of these rows narrows 'for every input' (looked for: loops, veiled, ifaces, maps, wideKeys, modest, calm, conditions, laid).
  DERIVED. THE GIVEN ROWS OF THIS SEAT. 4 by the template 'for every input the law returns true; each argument reads behind the call as it read before'; 0 by the template 'total and deterministic' (their statements: YtokambhemoeloaaTotals.lean).
  GIVEN WITH THE SEED: the statements are not yours to turn. If you find one false, say at which input.
  Laid BY PROGRAM, IN A SANDBOX (cutbox-rows.mjs): the forced cells as the released guide's own fill.sh prints them over the translation 4d4e3efe58c63758… (all of the seat's roots in one cut). By AI agents, Wed Nov 11 2026. No macro, syntax, notation, axiom, sorry.
-/
import Derived.Test.YtokambhemoeloaaChecked
import GoSem.Claim
import GoSem.ClaimJoined
import GoSem.ClaimMapViews
import Derived.JoinedTies
import Derived.KernelRfl
namespace Go.Proofs.Ytokambhemoeloaa
/- THE CELL 'sum', in the pinned program and in every row, IS THE sha256 OF THE DUMP (.gsa) THAT YtokambhemoeloaaProg.lean LOADS. Nothing in Lean hashes anything: it is a label: what it is worth is what the hold of that sum in a sandbox is worth. -/
noncomputable def Try.pinned : Pinned := { name := "ytokambhemoeloaa", sum := "4d4e3efe58c637582d2d49999241338fe9218fbb5ca56f5edf7133d3a09954f1", checked := Try.checked }
namespace Rows
def none {H : Type} : Left H := { results := [], args := [] }

/-- 'skymosaiclaw32.DepsSets': WHATEVER THE INPUT: true; the input reads as it did. -/
def depsSetsSpec : ChangeSpec := { name := "depsSets", fn := fun _ => fun
  | [d1, d2] => { results := [.lit (.bool true)], args := [d1, d2] }
  | _ => none }
def depsSetsRow : OpenClaim := { program := "ytokambhemoeloaa", sum := "4d4e3efe58c637582d2d49999241338fe9218fbb5ca56f5edf7133d3a09954f1", func := "skymosaic/skymosaiclaw32.DepsSets", spec := "depsSets", inPlace := ["slices.overlaps[skymosaic/api.Key]"], unfollowed := true, recurses := true, plainKeys := false, apart := false }
def DepsSetsSaid : Prop := depsSetsRow.holds Try.pinned (OpenSpec.ofChange depsSetsSpec)

/-- ITS FALSE NEIGHBOUR: 'it returns false'. Refute it at one input. -/
def depsSetsWrong : ChangeSpec := { name := "depsSets", fn := fun _ => fun
  | [d1, d2] => { results := [.lit (.bool false)], args := [d1, d2] }
  | _ => none }
def DepsSetsWrongFalsely : Prop := depsSetsRow.holds Try.pinned (OpenSpec.ofChange depsSetsWrong)

/-- 'skymosaiclaw32.DepsAffected': WHATEVER THE INPUT: true; the input reads as it did. -/
def depsAffectedSpec : ChangeSpec := { name := "depsAffected", fn := fun _ => fun
  | [d1, d2, d3, d4] => { results := [.lit (.bool true)], args := [d1, d2, d3, d4] }
  | _ => none }
def depsAffectedRow : OpenClaim := { program := "ytokambhemoeloaa", sum := "4d4e3efe58c637582d2d49999241338fe9218fbb5ca56f5edf7133d3a09954f1", func := "skymosaic/skymosaiclaw32.DepsAffected", spec := "depsAffected", inPlace := ["slices.overlaps[skymosaic/api.Key]"], unfollowed := true, recurses := true, plainKeys := false, apart := false }
def DepsAffectedSaid : Prop := depsAffectedRow.holds Try.pinned (OpenSpec.ofChange depsAffectedSpec)

/-- ITS FALSE NEIGHBOUR: 'it returns false'. Refute it at one input. -/
def depsAffectedWrong : ChangeSpec := { name := "depsAffected", fn := fun _ => fun
  | [d1, d2, d3, d4] => { results := [.lit (.bool false)], args := [d1, d2, d3, d4] }
  | _ => none }
def DepsAffectedWrongFalsely : Prop := depsAffectedRow.holds Try.pinned (OpenSpec.ofChange depsAffectedWrong)

/-- 'skymosaiclaw32.DepsClosed': WHATEVER THE INPUT: true; the input reads as it did. -/
def depsClosedSpec : ChangeSpec := { name := "depsClosed", fn := fun _ => fun
  | [d1, d2] => { results := [.lit (.bool true)], args := [d1, d2] }
  | _ => none }
def depsClosedRow : OpenClaim := { program := "ytokambhemoeloaa", sum := "4d4e3efe58c637582d2d49999241338fe9218fbb5ca56f5edf7133d3a09954f1", func := "skymosaic/skymosaiclaw32.DepsClosed", spec := "depsClosed", inPlace := ["slices.overlaps[skymosaic/api.Key]"], unfollowed := true, recurses := true, plainKeys := false, apart := false }
def DepsClosedSaid : Prop := depsClosedRow.holds Try.pinned (OpenSpec.ofChange depsClosedSpec)

/-- ITS FALSE NEIGHBOUR: 'it returns false'. Refute it at one input. -/
def depsClosedWrong : ChangeSpec := { name := "depsClosed", fn := fun _ => fun
  | [d1, d2] => { results := [.lit (.bool false)], args := [d1, d2] }
  | _ => none }
def DepsClosedWrongFalsely : Prop := depsClosedRow.holds Try.pinned (OpenSpec.ofChange depsClosedWrong)

/-- 'skymosaiclaw32.DepsCopies': WHATEVER THE INPUT: true; the input reads as it did. -/
def depsCopiesSpec : ChangeSpec := { name := "depsCopies", fn := fun _ => fun
  | [d1, d2] => { results := [.lit (.bool true)], args := [d1, d2] }
  | _ => none }
def depsCopiesRow : OpenClaim := { program := "ytokambhemoeloaa", sum := "4d4e3efe58c637582d2d49999241338fe9218fbb5ca56f5edf7133d3a09954f1", func := "skymosaic/skymosaiclaw32.DepsCopies", spec := "depsCopies", inPlace := ["slices.overlaps[skymosaic/api.Key]"], unfollowed := true, recurses := true, plainKeys := false, apart := false }
def DepsCopiesSaid : Prop := depsCopiesRow.holds Try.pinned (OpenSpec.ofChange depsCopiesSpec)

/-- ITS FALSE NEIGHBOUR: 'it returns false'. Refute it at one input. -/
def depsCopiesWrong : ChangeSpec := { name := "depsCopies", fn := fun _ => fun
  | [d1, d2] => { results := [.lit (.bool false)], args := [d1, d2] }
  | _ => none }
def DepsCopiesWrongFalsely : Prop := depsCopiesRow.holds Try.pinned (OpenSpec.ofChange depsCopiesWrong)

/- THE SECOND FORM. 'bulk': how many values and letters a reading holds, each counted each time it is reached (what is shared counts as often as it is met; a slice's spare places count too). A statement '..UptoSaid' is the law's where the arguments, and the package variables that the reading takes, are together of bulk at most 1048576: NARROWER than '..Said'. Prove '..Said' where nothing that the law and all that it calls make is longer than what came in: it says more and counts as full. Else prove '..UptoSaid'. A law counts once. -/
mutual
def uptoBulk {H : Type} : DataW H → Nat
  | .lit (.string bytes) => bytes.length + 1
  | .lit _ => 1
  | .nil => 1
  | .ptr d => uptoBulk d + 1
  | .slice elems spare => uptoBulkAll elems + uptoBulkAll spare + 1
  | .agg parts => uptoBulkAll parts + 1
  | .iface _ d => uptoBulk d + 1
  | .map entries => uptoBulkEntries entries + 1
  | .held _ => 1
def uptoBulkAll {H : Type} : List (DataW H) → Nat
  | [] => 0
  | d :: r => uptoBulk d + uptoBulkAll r
def uptoBulkEntries {H : Type} : List (Lit × DataW H) → Nat
  | [] => 0
  | x :: r => uptoBulkEntry x + uptoBulkEntries r
def uptoBulkEntry {H : Type} : Lit × DataW H → Nat
  | (.string bytes, d) => bytes.length + uptoBulk d + 1
  | (_, d) => uptoBulk d + 1
 end
def uptoSmall : (H : Type) → List (DataW H) → Bool := fun _ ds => decide (uptoBulkAll ds ≤ 1048576)
def OpenSpec.upto (s : _root_.Go.ChangeSpec) : _root_.Go.OpenSpec := { _root_.Go.OpenSpec.ofChange s with cond := some uptoSmall }

/-- 'skymosaiclaw32.DepsSets', WHERE WHAT IT READS IS OF BULK AT MOST 1048576: true; the input reads as it did. -/
def depsSetsUptoRow : OpenClaim := { program := "ytokambhemoeloaa", sum := "4d4e3efe58c637582d2d49999241338fe9218fbb5ca56f5edf7133d3a09954f1", func := "skymosaic/skymosaiclaw32.DepsSets", spec := "depsSets", inPlace := ["slices.overlaps[skymosaic/api.Key]"], unfollowed := true, recurses := true, plainKeys := false, apart := false, narrowed := true }
def DepsSetsUptoSaid : Prop := depsSetsUptoRow.holds Try.pinned (OpenSpec.upto depsSetsSpec)

/-- 'skymosaiclaw32.DepsAffected', WHERE WHAT IT READS IS OF BULK AT MOST 1048576: true; the input reads as it did. -/
def depsAffectedUptoRow : OpenClaim := { program := "ytokambhemoeloaa", sum := "4d4e3efe58c637582d2d49999241338fe9218fbb5ca56f5edf7133d3a09954f1", func := "skymosaic/skymosaiclaw32.DepsAffected", spec := "depsAffected", inPlace := ["slices.overlaps[skymosaic/api.Key]"], unfollowed := true, recurses := true, plainKeys := false, apart := false, narrowed := true }
def DepsAffectedUptoSaid : Prop := depsAffectedUptoRow.holds Try.pinned (OpenSpec.upto depsAffectedSpec)

/-- 'skymosaiclaw32.DepsClosed', WHERE WHAT IT READS IS OF BULK AT MOST 1048576: true; the input reads as it did. -/
def depsClosedUptoRow : OpenClaim := { program := "ytokambhemoeloaa", sum := "4d4e3efe58c637582d2d49999241338fe9218fbb5ca56f5edf7133d3a09954f1", func := "skymosaic/skymosaiclaw32.DepsClosed", spec := "depsClosed", inPlace := ["slices.overlaps[skymosaic/api.Key]"], unfollowed := true, recurses := true, plainKeys := false, apart := false, narrowed := true }
def DepsClosedUptoSaid : Prop := depsClosedUptoRow.holds Try.pinned (OpenSpec.upto depsClosedSpec)

/-- 'skymosaiclaw32.DepsCopies', WHERE WHAT IT READS IS OF BULK AT MOST 1048576: true; the input reads as it did. -/
def depsCopiesUptoRow : OpenClaim := { program := "ytokambhemoeloaa", sum := "4d4e3efe58c637582d2d49999241338fe9218fbb5ca56f5edf7133d3a09954f1", func := "skymosaic/skymosaiclaw32.DepsCopies", spec := "depsCopies", inPlace := ["slices.overlaps[skymosaic/api.Key]"], unfollowed := true, recurses := true, plainKeys := false, apart := false, narrowed := true }
def DepsCopiesUptoSaid : Prop := depsCopiesUptoRow.holds Try.pinned (OpenSpec.upto depsCopiesSpec)

end Rows
end Go.Proofs.Ytokambhemoeloaa
