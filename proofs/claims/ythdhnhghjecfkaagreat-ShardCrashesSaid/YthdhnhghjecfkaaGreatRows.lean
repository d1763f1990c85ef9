/-
  No cell of these rows narrows 'for every input' (looked for: loops, veiled, ifaces, maps, wideKeys, modest, calm, conditions, laid).
  DERIVED. THE GIVEN ROWS OF THIS SEAT. 4 by the template 'for every input the law returns true; each argument reads behind the call as it read before'; 0 by the template 'total and deterministic' (their statements: YthdhnhghjecfkaaGreatTotals.lean).
  GIVEN WITH THE SEED: the statements are not yours to turn. If you find one false, say at which input.
  Laid BY PROGRAM, IN A SANDBOX (cutbox-rows.mjs): the forced cells as the released guide's own fill.sh prints them over the translation e26480fee7efe873… (all of the seat's roots in one cut). By AI agents, Wed Nov 11 2026. No macro, syntax, notation, axiom, sorry.
-/
import Derived.Test.YthdhnhghjecfkaaGreatChecked
import GoSem.Claim
import GoSem.ClaimJoined
import GoSem.ClaimMapViews
import Derived.JoinedTies
import Derived.KernelRfl
namespace Go.Proofs.YthdhnhghjecfkaaGreat
/- THE CELL 'sum', in the pinned program and in every row, IS THE sha256 OF THE DUMP (.gsa) THAT YthdhnhghjecfkaaGreatProg.lean LOADS. Nothing in Lean hashes anything: it is a label: what it is worth is what the hold of that sum in a sandbox is worth. -/
noncomputable def Tryz.pinned : Pinned := { name := "ythdhnhghjecfkaagreat", sum := "e26480fee7efe87318efd953acbe31c0dafbfdbe8a54bb3e30a83f0ac001398a", checked := Tryz.checked }
namespace Rows
def none {H : Type} : Left H := { results := [], args := [] }

/-- 'latecomerlaw37.ShardExactlyOnce': WHATEVER THE INPUT: true; the input reads as it did. -/
def shardExactlyOnceSpec : ChangeSpec := { name := "shardExactlyOnce", fn := fun _ => fun
  | [d1, d2] => { results := [.lit (.bool true)], args := [d1, d2] }
  | _ => none }
def shardExactlyOnceRow : OpenClaim := { program := "ythdhnhghjecfkaagreat", sum := "e26480fee7efe87318efd953acbe31c0dafbfdbe8a54bb3e30a83f0ac001398a", func := "latecomer/latecomerlaw37.ShardExactlyOnce", spec := "shardExactlyOnce", inPlace := ["slices.overlaps[latecomer/api.Reader]"], unfollowed := true, recurses := true, plainKeys := false, apart := false }
def ShardExactlyOnceSaid : Prop := shardExactlyOnceRow.holds Tryz.pinned (OpenSpec.ofChange shardExactlyOnceSpec)

/-- ITS FALSE NEIGHBOUR: 'it returns false'. Refute it at one input. -/
def shardExactlyOnceWrong : ChangeSpec := { name := "shardExactlyOnce", fn := fun _ => fun
  | [d1, d2] => { results := [.lit (.bool false)], args := [d1, d2] }
  | _ => none }
def ShardExactlyOnceWrongFalsely : Prop := shardExactlyOnceRow.holds Tryz.pinned (OpenSpec.ofChange shardExactlyOnceWrong)

/-- 'latecomerlaw37.ShardCrashes': WHATEVER THE INPUT: true; the input reads as it did. -/
def shardCrashesSpec : ChangeSpec := { name := "shardCrashes", fn := fun _ => fun
  | [d1, d2, d3, d4, d5, d6] => { results := [.lit (.bool true)], args := [d1, d2, d3, d4, d5, d6] }
  | _ => none }
def shardCrashesRow : OpenClaim := { program := "ythdhnhghjecfkaagreat", sum := "e26480fee7efe87318efd953acbe31c0dafbfdbe8a54bb3e30a83f0ac001398a", func := "latecomer/latecomerlaw37.ShardCrashes", spec := "shardCrashes", inPlace := ["slices.overlaps[latecomer/api.Reader]"], unfollowed := true, recurses := true, plainKeys := false, apart := false }
def ShardCrashesSaid : Prop := shardCrashesRow.holds Tryz.pinned (OpenSpec.ofChange shardCrashesSpec)

/-- ITS FALSE NEIGHBOUR: 'it returns false'. Refute it at one input. -/
def shardCrashesWrong : ChangeSpec := { name := "shardCrashes", fn := fun _ => fun
  | [d1, d2, d3, d4, d5, d6] => { results := [.lit (.bool false)], args := [d1, d2, d3, d4, d5, d6] }
  | _ => none }
def ShardCrashesWrongFalsely : Prop := shardCrashesRow.holds Tryz.pinned (OpenSpec.ofChange shardCrashesWrong)

/-- 'latecomerlaw37.ShardMoves': WHATEVER THE INPUT: true; the input reads as it did. -/
def shardMovesSpec : ChangeSpec := { name := "shardMoves", fn := fun _ => fun
  | [d1, d2, d3, d4] => { results := [.lit (.bool true)], args := [d1, d2, d3, d4] }
  | _ => none }
def shardMovesRow : OpenClaim := { program := "ythdhnhghjecfkaagreat", sum := "e26480fee7efe87318efd953acbe31c0dafbfdbe8a54bb3e30a83f0ac001398a", func := "latecomer/latecomerlaw37.ShardMoves", spec := "shardMoves", inPlace := ["slices.overlaps[latecomer/api.Reader]"], unfollowed := true, recurses := true, plainKeys := false, apart := false }
def ShardMovesSaid : Prop := shardMovesRow.holds Tryz.pinned (OpenSpec.ofChange shardMovesSpec)

/-- ITS FALSE NEIGHBOUR: 'it returns false'. Refute it at one input. -/
def shardMovesWrong : ChangeSpec := { name := "shardMoves", fn := fun _ => fun
  | [d1, d2, d3, d4] => { results := [.lit (.bool false)], args := [d1, d2, d3, d4] }
  | _ => none }
def ShardMovesWrongFalsely : Prop := shardMovesRow.holds Tryz.pinned (OpenSpec.ofChange shardMovesWrong)

/-- 'latecomerlaw37.ShardApart': WHATEVER THE INPUT: true; the input reads as it did. -/
def shardApartSpec : ChangeSpec := { name := "shardApart", fn := fun _ => fun
  | [d1, d2, d3, d4] => { results := [.lit (.bool true)], args := [d1, d2, d3, d4] }
  | _ => none }
def shardApartRow : OpenClaim := { program := "ythdhnhghjecfkaagreat", sum := "e26480fee7efe87318efd953acbe31c0dafbfdbe8a54bb3e30a83f0ac001398a", func := "latecomer/latecomerlaw37.ShardApart", spec := "shardApart", inPlace := ["slices.overlaps[latecomer/api.Reader]"], unfollowed := true, recurses := true, plainKeys := false, apart := false }
def ShardApartSaid : Prop := shardApartRow.holds Tryz.pinned (OpenSpec.ofChange shardApartSpec)

/-- ITS FALSE NEIGHBOUR: 'it returns false'. Refute it at one input. -/
def shardApartWrong : ChangeSpec := { name := "shardApart", fn := fun _ => fun
  | [d1, d2, d3, d4] => { results := [.lit (.bool false)], args := [d1, d2, d3, d4] }
  | _ => none }
def ShardApartWrongFalsely : Prop := shardApartRow.holds Tryz.pinned (OpenSpec.ofChange shardApartWrong)

/- THE SECOND FORM. 'bulk': how many values and letters a reading holds, each counted each time it is reached (what is shared counts as often as it is met; a slice's spare places count too). A statement '..UptoSaid' is the law's where the arguments, and the package variables that the reading takes, are together of bulk at most 1048576: NARROWER than '..Said'. Prove '..Said' where nothing that the law and all that it calls make is longer than what came in: it says more and counts as full. Else prove '..UptoSaid'. A law counts once. -/
mutual
def uptoBulk {H : Type} : DataW H → Nat
  | .lit (.string bytes) => bytes.length + 1
  | .lit _ => 1
  | .nil => 1
  | .ptr d => uptoBulk d + 1
  | .slice elems spare => uptoBulkAll elems + uptoBulkAll spare + 1
  | .agg parts => uptoBulkAll parts + 1
  | .iface _ d => uptoBulk d + 1
  | .map entries => uptoBulkEntries entries + 1
  | .held _ => 1
def uptoBulkAll {H : Type} : List (DataW H) → Nat
  | [] => 0
  | d :: r => uptoBulk d + uptoBulkAll r
def uptoBulkEntries {H : Type} : List (Lit × DataW H) → Nat
  | [] => 0
  | x :: r => uptoBulkEntry x + uptoBulkEntries r
def uptoBulkEntry {H : Type} : Lit × DataW H → Nat
  | (.string bytes, d) => bytes.length + uptoBulk d + 1
  | (_, d) => uptoBulk d + 1
 end
def uptoSmall : (H : Type) → List (DataW H) → Bool := fun _ ds => decide (uptoBulkAll ds ≤ 1048576)
def OpenSpec.upto (s : _root_.Go.ChangeSpec) : _root_.Go.OpenSpec := { _root_.Go.OpenSpec.ofChange s with cond := some uptoSmall }

/-- 'latecomerlaw37.ShardExactlyOnce', WHERE WHAT IT READS IS OF BULK AT MOST 1048576: true; the input reads as it did. -/
def shardExactlyOnceUptoRow : OpenClaim := { program := "ythdhnhghjecfkaagreat", sum := "e26480fee7efe87318efd953acbe31c0dafbfdbe8a54bb3e30a83f0ac001398a", func := "latecomer/latecomerlaw37.ShardExactlyOnce", spec := "shardExactlyOnce", inPlace := ["slices.overlaps[latecomer/api.Reader]"], unfollowed := true, recurses := true, plainKeys := false, apart := false, narrowed := true }
def ShardExactlyOnceUptoSaid : Prop := shardExactlyOnceUptoRow.holds Tryz.pinned (OpenSpec.upto shardExactlyOnceSpec)

/-- 'latecomerlaw37.ShardCrashes', WHERE WHAT IT READS IS OF BULK AT MOST 1048576: true; the input reads as it did. -/
def shardCrashesUptoRow : OpenClaim := { program := "ythdhnhghjecfkaagreat", sum := "e26480fee7efe87318efd953acbe31c0dafbfdbe8a54bb3e30a83f0ac001398a", func := "latecomer/latecomerlaw37.ShardCrashes", spec := "shardCrashes", inPlace := ["slices.overlaps[latecomer/api.Reader]"], unfollowed := true, recurses := true, plainKeys := false, apart := false, narrowed := true }
def ShardCrashesUptoSaid : Prop := shardCrashesUptoRow.holds Tryz.pinned (OpenSpec.upto shardCrashesSpec)

/-- 'latecomerlaw37.ShardMoves', WHERE WHAT IT READS IS OF BULK AT MOST 1048576: true; the input reads as it did. -/
def shardMovesUptoRow : OpenClaim := { program := "ythdhnhghjecfkaagreat", sum := "e26480fee7efe87318efd953acbe31c0dafbfdbe8a54bb3e30a83f0ac001398a", func := "latecomer/latecomerlaw37.ShardMoves", spec := "shardMoves", inPlace := ["slices.overlaps[latecomer/api.Reader]"], unfollowed := true, recurses := true, plainKeys := false, apart := false, narrowed := true }
def ShardMovesUptoSaid : Prop := shardMovesUptoRow.holds Tryz.pinned (OpenSpec.upto shardMovesSpec)

/-- 'latecomerlaw37.ShardApart', WHERE WHAT IT READS IS OF BULK AT MOST 1048576: true; the input reads as it did. -/
def shardApartUptoRow : OpenClaim := { program := "ythdhnhghjecfkaagreat", sum := "e26480fee7efe87318efd953acbe31c0dafbfdbe8a54bb3e30a83f0ac001398a", func := "latecomer/latecomerlaw37.ShardApart", spec := "shardApart", inPlace := ["slices.overlaps[latecomer/api.Reader]"], unfollowed := true, recurses := true, plainKeys := false, apart := false, narrowed := true }
def ShardApartUptoSaid : Prop := shardApartUptoRow.holds Tryz.pinned (OpenSpec.upto shardApartSpec)

end Rows
end Go.Proofs.YthdhnhghjecfkaaGreat
