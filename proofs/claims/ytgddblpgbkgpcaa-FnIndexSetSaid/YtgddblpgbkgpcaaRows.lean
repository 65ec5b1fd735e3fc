/-
  No cell of these rows narrows 'for every input' (looked for: loops, veiled, ifaces, maps, wideKeys, modest, calm, conditions, laid).
  DERIVED. THE GIVEN ROWS OF THIS SEAT. 12 by the template 'for every input the law returns true; each argument reads behind the call as it read before'; 0 by the template 'total and deterministic' (their statements: YtgddblpgbkgpcaaTotals.lean).
  GIVEN WITH THE SEED: the statements are not yours to turn. If you find one false, say at which input.
  Laid BY PROGRAM, IN A SANDBOX (cutbox-rows.mjs): the forced cells as the released guide's own fill.sh prints them over the translation 47baa4a783205b6f… (all of the seat's roots in one cut). By AI agents, Wed Nov 11 2026. No macro, syntax, notation, axiom, sorry.
-/
import Derived.Test.YtgddblpgbkgpcaaChecked
import GoSem.Claim
import GoSem.ClaimJoined
import GoSem.ClaimMapViews
import Derived.JoinedTies
import Derived.KernelRfl
namespace Go.Proofs.Ytgddblpgbkgpcaa
/- THE CELL 'sum', in the pinned program and in every row, IS THE sha256 OF THE DUMP (.gsa) THAT YtgddblpgbkgpcaaProg.lean LOADS. Nothing in Lean hashes anything: it is a label: what it is worth is what the hold of that sum in a sandbox is worth. -/
noncomputable def Try.pinned : Pinned := { name := "ytgddblpgbkgpcaa", sum := "47baa4a783205b6f613fd23a3761544f4a1cd320a6245bce2a16005144af62c9", checked := Try.checked }
namespace Rows
def none {H : Type} : Left H := { results := [], args := [] }

/-- 'laws.FnHeapReach': WHATEVER THE INPUT: true; the input reads as it did. -/
def fnHeapReachSpec : ChangeSpec := { name := "fnHeapReach", fn := fun _ => fun
  | [d] => { results := [.lit (.bool true)], args := [d] }
  | _ => none }
def fnHeapReachRow : OpenClaim := { program := "ytgddblpgbkgpcaa", sum := "47baa4a783205b6f613fd23a3761544f4a1cd320a6245bce2a16005144af62c9", func := "loop.example/slowworm/laws.FnHeapReach", spec := "fnHeapReach", unfollowed := true, recurses := true, apart := false }
def FnHeapReachSaid : Prop := fnHeapReachRow.holds Try.pinned (OpenSpec.ofChange fnHeapReachSpec)

/-- ITS FALSE NEIGHBOUR: 'it returns false'. Refute it at one input. -/
def fnHeapReachWrong : ChangeSpec := { name := "fnHeapReach", fn := fun _ => fun
  | [d] => { results := [.lit (.bool false)], args := [d] }
  | _ => none }
def FnHeapReachWrongFalsely : Prop := fnHeapReachRow.holds Try.pinned (OpenSpec.ofChange fnHeapReachWrong)

/-- 'laws.FnHeapTwo': WHATEVER THE INPUT: true; the input reads as it did. -/
def fnHeapTwoSpec : ChangeSpec := { name := "fnHeapTwo", fn := fun _ => fun
  | [d] => { results := [.lit (.bool true)], args := [d] }
  | _ => none }
def fnHeapTwoRow : OpenClaim := { program := "ytgddblpgbkgpcaa", sum := "47baa4a783205b6f613fd23a3761544f4a1cd320a6245bce2a16005144af62c9", func := "loop.example/slowworm/laws.FnHeapTwo", spec := "fnHeapTwo", unfollowed := true, recurses := true, apart := false }
def FnHeapTwoSaid : Prop := fnHeapTwoRow.holds Try.pinned (OpenSpec.ofChange fnHeapTwoSpec)

/-- ITS FALSE NEIGHBOUR: 'it returns false'. Refute it at one input. -/
def fnHeapTwoWrong : ChangeSpec := { name := "fnHeapTwo", fn := fun _ => fun
  | [d] => { results := [.lit (.bool false)], args := [d] }
  | _ => none }
def FnHeapTwoWrongFalsely : Prop := fnHeapTwoRow.holds Try.pinned (OpenSpec.ofChange fnHeapTwoWrong)

/-- 'laws.FnHeapTruth': WHATEVER THE INPUT: true; the input reads as it did. -/
def fnHeapTruthSpec : ChangeSpec := { name := "fnHeapTruth", fn := fun _ => fun
  | [d] => { results := [.lit (.bool true)], args := [d] }
  | _ => none }
def fnHeapTruthRow : OpenClaim := { program := "ytgddblpgbkgpcaa", sum := "47baa4a783205b6f613fd23a3761544f4a1cd320a6245bce2a16005144af62c9", func := "loop.example/slowworm/laws.FnHeapTruth", spec := "fnHeapTruth", inPlace := ["internal/abi.NoEscape"], recurses := true, apart := false }
def FnHeapTruthSaid : Prop := fnHeapTruthRow.holds Try.pinned (OpenSpec.ofChange fnHeapTruthSpec)

/-- ITS FALSE NEIGHBOUR: 'it returns false'. Refute it at one input. -/
def fnHeapTruthWrong : ChangeSpec := { name := "fnHeapTruth", fn := fun _ => fun
  | [d] => { results := [.lit (.bool false)], args := [d] }
  | _ => none }
def FnHeapTruthWrongFalsely : Prop := fnHeapTruthRow.holds Try.pinned (OpenSpec.ofChange fnHeapTruthWrong)

/-- 'laws.FnHeapSwept': WHATEVER THE INPUT: true; the input reads as it did. -/
def fnHeapSweptSpec : ChangeSpec := { name := "fnHeapSwept", fn := fun _ => fun
  | [d] => { results := [.lit (.bool true)], args := [d] }
  | _ => none }
def fnHeapSweptRow : OpenClaim := { program := "ytgddblpgbkgpcaa", sum := "47baa4a783205b6f613fd23a3761544f4a1cd320a6245bce2a16005144af62c9", func := "loop.example/slowworm/laws.FnHeapSwept", spec := "fnHeapSwept", unfollowed := true, recurses := true, apart := false }
def FnHeapSweptSaid : Prop := fnHeapSweptRow.holds Try.pinned (OpenSpec.ofChange fnHeapSweptSpec)

/-- ITS FALSE NEIGHBOUR: 'it returns false'. Refute it at one input. -/
def fnHeapSweptWrong : ChangeSpec := { name := "fnHeapSwept", fn := fun _ => fun
  | [d] => { results := [.lit (.bool false)], args := [d] }
  | _ => none }
def FnHeapSweptWrongFalsely : Prop := fnHeapSweptRow.holds Try.pinned (OpenSpec.ofChange fnHeapSweptWrong)

/-- 'laws.FnHeapSweep': WHATEVER THE INPUT: true; the input reads as it did. -/
def fnHeapSweepSpec : ChangeSpec := { name := "fnHeapSweep", fn := fun _ => fun
  | [d] => { results := [.lit (.bool true)], args := [d] }
  | _ => none }
def fnHeapSweepRow : OpenClaim := { program := "ytgddblpgbkgpcaa", sum := "47baa4a783205b6f613fd23a3761544f4a1cd320a6245bce2a16005144af62c9", func := "loop.example/slowworm/laws.FnHeapSweep", spec := "fnHeapSweep", unfollowed := true, recurses := true, apart := false }
def FnHeapSweepSaid : Prop := fnHeapSweepRow.holds Try.pinned (OpenSpec.ofChange fnHeapSweepSpec)

/-- ITS FALSE NEIGHBOUR: 'it returns false'. Refute it at one input. -/
def fnHeapSweepWrong : ChangeSpec := { name := "fnHeapSweep", fn := fun _ => fun
  | [d] => { results := [.lit (.bool false)], args := [d] }
  | _ => none }
def FnHeapSweepWrongFalsely : Prop := fnHeapSweepRow.holds Try.pinned (OpenSpec.ofChange fnHeapSweepWrong)

/-- 'laws.FnHeapShow': WHATEVER THE INPUT: true; the input reads as it did. -/
def fnHeapShowSpec : ChangeSpec := { name := "fnHeapShow", fn := fun _ => fun
  | [d] => { results := [.lit (.bool true)], args := [d] }
  | _ => none }
def fnHeapShowRow : OpenClaim := { program := "ytgddblpgbkgpcaa", sum := "47baa4a783205b6f613fd23a3761544f4a1cd320a6245bce2a16005144af62c9", func := "loop.example/slowworm/laws.FnHeapShow", spec := "fnHeapShow", inPlace := ["internal/abi.NoEscape"], unfollowed := true, recurses := true, apart := false }
def FnHeapShowSaid : Prop := fnHeapShowRow.holds Try.pinned (OpenSpec.ofChange fnHeapShowSpec)

/-- ITS FALSE NEIGHBOUR: 'it returns false'. Refute it at one input. -/
def fnHeapShowWrong : ChangeSpec := { name := "fnHeapShow", fn := fun _ => fun
  | [d] => { results := [.lit (.bool false)], args := [d] }
  | _ => none }
def FnHeapShowWrongFalsely : Prop := fnHeapShowRow.holds Try.pinned (OpenSpec.ofChange fnHeapShowWrong)

/-- 'laws.FnDoIndex': WHATEVER THE INPUT: true; the input reads as it did. -/
def fnDoIndexSpec : ChangeSpec := { name := "fnDoIndex", fn := fun _ => fun
  | [d] => { results := [.lit (.bool true)], args := [d] }
  | _ => none }
def fnDoIndexRow : OpenClaim := { program := "ytgddblpgbkgpcaa", sum := "47baa4a783205b6f613fd23a3761544f4a1cd320a6245bce2a16005144af62c9", func := "loop.example/slowworm/laws.FnDoIndex", spec := "fnDoIndex", apart := false }
def FnDoIndexSaid : Prop := fnDoIndexRow.holds Try.pinned (OpenSpec.ofChange fnDoIndexSpec)

/-- ITS FALSE NEIGHBOUR: 'it returns false'. Refute it at one input. -/
def fnDoIndexWrong : ChangeSpec := { name := "fnDoIndex", fn := fun _ => fun
  | [d] => { results := [.lit (.bool false)], args := [d] }
  | _ => none }
def FnDoIndexWrongFalsely : Prop := fnDoIndexRow.holds Try.pinned (OpenSpec.ofChange fnDoIndexWrong)

/-- 'laws.FnDoSetIndex': WHATEVER THE INPUT: true; the input reads as it did. -/
def fnDoSetIndexSpec : ChangeSpec := { name := "fnDoSetIndex", fn := fun _ => fun
  | [d] => { results := [.lit (.bool true)], args := [d] }
  | _ => none }
def fnDoSetIndexRow : OpenClaim := { program := "ytgddblpgbkgpcaa", sum := "47baa4a783205b6f613fd23a3761544f4a1cd320a6245bce2a16005144af62c9", func := "loop.example/slowworm/laws.FnDoSetIndex", spec := "fnDoSetIndex", apart := false }
def FnDoSetIndexSaid : Prop := fnDoSetIndexRow.holds Try.pinned (OpenSpec.ofChange fnDoSetIndexSpec)

/-- ITS FALSE NEIGHBOUR: 'it returns false'. Refute it at one input. -/
def fnDoSetIndexWrong : ChangeSpec := { name := "fnDoSetIndex", fn := fun _ => fun
  | [d] => { results := [.lit (.bool false)], args := [d] }
  | _ => none }
def FnDoSetIndexWrongFalsely : Prop := fnDoSetIndexRow.holds Try.pinned (OpenSpec.ofChange fnDoSetIndexWrong)

/-- 'laws.FnIndexSet': WHATEVER THE INPUT: true; the input reads as it did. -/
def fnIndexSetSpec : ChangeSpec := { name := "fnIndexSet", fn := fun _ => fun
  | [d] => { results := [.lit (.bool true)], args := [d] }
  | _ => none }
def fnIndexSetRow : OpenClaim := { program := "ytgddblpgbkgpcaa", sum := "47baa4a783205b6f613fd23a3761544f4a1cd320a6245bce2a16005144af62c9", func := "loop.example/slowworm/laws.FnIndexSet", spec := "fnIndexSet", apart := false }
def FnIndexSetSaid : Prop := fnIndexSetRow.holds Try.pinned (OpenSpec.ofChange fnIndexSetSpec)

/-- ITS FALSE NEIGHBOUR: 'it returns false'. Refute it at one input. -/
def fnIndexSetWrong : ChangeSpec := { name := "fnIndexSet", fn := fun _ => fun
  | [d] => { results := [.lit (.bool false)], args := [d] }
  | _ => none }
def FnIndexSetWrongFalsely : Prop := fnIndexSetRow.holds Try.pinned (OpenSpec.ofChange fnIndexSetWrong)

/-- 'laws.FnHeapPickled': WHATEVER THE INPUT: true; the input reads as it did. -/
def fnHeapPickledSpec : ChangeSpec := { name := "fnHeapPickled", fn := fun _ => fun
  | [d] => { results := [.lit (.bool true)], args := [d] }
  | _ => none }
def fnHeapPickledRow : OpenClaim := { program := "ytgddblpgbkgpcaa", sum := "47baa4a783205b6f613fd23a3761544f4a1cd320a6245bce2a16005144af62c9", func := "loop.example/slowworm/laws.FnHeapPickled", spec := "fnHeapPickled", unfollowed := true, recurses := true, apart := false }
def FnHeapPickledSaid : Prop := fnHeapPickledRow.holds Try.pinned (OpenSpec.ofChange fnHeapPickledSpec)

/-- ITS FALSE NEIGHBOUR: 'it returns false'. Refute it at one input. -/
def fnHeapPickledWrong : ChangeSpec := { name := "fnHeapPickled", fn := fun _ => fun
  | [d] => { results := [.lit (.bool false)], args := [d] }
  | _ => none }
def FnHeapPickledWrongFalsely : Prop := fnHeapPickledRow.holds Try.pinned (OpenSpec.ofChange fnHeapPickledWrong)

/-- 'laws.FnHeapReached': WHATEVER THE INPUT: true; the input reads as it did. -/
def fnHeapReachedSpec : ChangeSpec := { name := "fnHeapReached", fn := fun _ => fun
  | [d] => { results := [.lit (.bool true)], args := [d] }
  | _ => none }
def fnHeapReachedRow : OpenClaim := { program := "ytgddblpgbkgpcaa", sum := "47baa4a783205b6f613fd23a3761544f4a1cd320a6245bce2a16005144af62c9", func := "loop.example/slowworm/laws.FnHeapReached", spec := "fnHeapReached", unfollowed := true, recurses := true, apart := false }
def FnHeapReachedSaid : Prop := fnHeapReachedRow.holds Try.pinned (OpenSpec.ofChange fnHeapReachedSpec)

/-- ITS FALSE NEIGHBOUR: 'it returns false'. Refute it at one input. -/
def fnHeapReachedWrong : ChangeSpec := { name := "fnHeapReached", fn := fun _ => fun
  | [d] => { results := [.lit (.bool false)], args := [d] }
  | _ => none }
def FnHeapReachedWrongFalsely : Prop := fnHeapReachedRow.holds Try.pinned (OpenSpec.ofChange fnHeapReachedWrong)

/-- 'laws.FnPickleAll': WHATEVER THE INPUT: true; the input reads as it did. -/
def fnPickleAllSpec : ChangeSpec := { name := "fnPickleAll", fn := fun _ => fun
  | [d] => { results := [.lit (.bool true)], args := [d] }
  | _ => none }
def fnPickleAllRow : OpenClaim := { program := "ytgddblpgbkgpcaa", sum := "47baa4a783205b6f613fd23a3761544f4a1cd320a6245bce2a16005144af62c9", func := "loop.example/slowworm/laws.FnPickleAll", spec := "fnPickleAll", recurses := true, apart := false }
def FnPickleAllSaid : Prop := fnPickleAllRow.holds Try.pinned (OpenSpec.ofChange fnPickleAllSpec)

/-- ITS FALSE NEIGHBOUR: 'it returns false'. Refute it at one input. -/
def fnPickleAllWrong : ChangeSpec := { name := "fnPickleAll", fn := fun _ => fun
  | [d] => { results := [.lit (.bool false)], args := [d] }
  | _ => none }
def FnPickleAllWrongFalsely : Prop := fnPickleAllRow.holds Try.pinned (OpenSpec.ofChange fnPickleAllWrong)

/- THE SECOND FORM. 'bulk': how many values and letters a reading holds, each counted each time it is reached (what is shared counts as often as it is met; a slice's spare places count too). A statement '..UptoSaid' is the law's where the arguments, and the package variables that the reading takes, are together of bulk at most 1048576: NARROWER than '..Said'. Prove '..Said' where nothing that the law and all that it calls make is longer than what came in: it says more and counts as full. Else prove '..UptoSaid'. A law counts once. -/
mutual
def uptoBulk {H : Type} : DataW H → Nat
  | .lit (.string bytes) => bytes.length + 1
  | .lit _ => 1
  | .nil => 1
  | .ptr d => uptoBulk d + 1
  | .slice elems spare => uptoBulkAll elems + uptoBulkAll spare + 1
  | .agg parts => uptoBulkAll parts + 1
  | .iface _ d => uptoBulk d + 1
  | .map entries => uptoBulkEntries entries + 1
  | .held _ => 1
def uptoBulkAll {H : Type} : List (DataW H) → Nat
  | [] => 0
  | d :: r => uptoBulk d + uptoBulkAll r
def uptoBulkEntries {H : Type} : List (Lit × DataW H) → Nat
  | [] => 0
  | x :: r => uptoBulkEntry x + uptoBulkEntries r
def uptoBulkEntry {H : Type} : Lit × DataW H → Nat
  | (.string bytes, d) => bytes.length + uptoBulk d + 1
  | (_, d) => uptoBulk d + 1
 end
def uptoSmall : (H : Type) → List (DataW H) → Bool := fun _ ds => decide (uptoBulkAll ds ≤ 1048576)
def OpenSpec.upto (s : _root_.Go.ChangeSpec) : _root_.Go.OpenSpec := { _root_.Go.OpenSpec.ofChange s with cond := some uptoSmall }

/-- 'laws.FnHeapReach', WHERE WHAT IT READS IS OF BULK AT MOST 1048576: true; the input reads as it did. -/
def fnHeapReachUptoRow : OpenClaim := { program := "ytgddblpgbkgpcaa", sum := "47baa4a783205b6f613fd23a3761544f4a1cd320a6245bce2a16005144af62c9", func := "loop.example/slowworm/laws.FnHeapReach", spec := "fnHeapReach", unfollowed := true, recurses := true, apart := false, narrowed := true }
def FnHeapReachUptoSaid : Prop := fnHeapReachUptoRow.holds Try.pinned (OpenSpec.upto fnHeapReachSpec)

/-- 'laws.FnHeapTwo', WHERE WHAT IT READS IS OF BULK AT MOST 1048576: true; the input reads as it did. -/
def fnHeapTwoUptoRow : OpenClaim := { program := "ytgddblpgbkgpcaa", sum := "47baa4a783205b6f613fd23a3761544f4a1cd320a6245bce2a16005144af62c9", func := "loop.example/slowworm/laws.FnHeapTwo", spec := "fnHeapTwo", unfollowed := true, recurses := true, apart := false, narrowed := true }
def FnHeapTwoUptoSaid : Prop := fnHeapTwoUptoRow.holds Try.pinned (OpenSpec.upto fnHeapTwoSpec)

/-- 'laws.FnHeapTruth', WHERE WHAT IT READS IS OF BULK AT MOST 1048576: true; the input reads as it did. -/
def fnHeapTruthUptoRow : OpenClaim := { program := "ytgddblpgbkgpcaa", sum := "47baa4a783205b6f613fd23a3761544f4a1cd320a6245bce2a16005144af62c9", func := "loop.example/slowworm/laws.FnHeapTruth", spec := "fnHeapTruth", inPlace := ["internal/abi.NoEscape"], recurses := true, apart := false, narrowed := true }
def FnHeapTruthUptoSaid : Prop := fnHeapTruthUptoRow.holds Try.pinned (OpenSpec.upto fnHeapTruthSpec)

/-- 'laws.FnHeapSwept', WHERE WHAT IT READS IS OF BULK AT MOST 1048576: true; the input reads as it did. -/
def fnHeapSweptUptoRow : OpenClaim := { program := "ytgddblpgbkgpcaa", sum := "47baa4a783205b6f613fd23a3761544f4a1cd320a6245bce2a16005144af62c9", func := "loop.example/slowworm/laws.FnHeapSwept", spec := "fnHeapSwept", unfollowed := true, recurses := true, apart := false, narrowed := true }
def FnHeapSweptUptoSaid : Prop := fnHeapSweptUptoRow.holds Try.pinned (OpenSpec.upto fnHeapSweptSpec)

/-- 'laws.FnHeapSweep', WHERE WHAT IT READS IS OF BULK AT MOST 1048576: true; the input reads as it did. -/
def fnHeapSweepUptoRow : OpenClaim := { program := "ytgddblpgbkgpcaa", sum := "47baa4a783205b6f613fd23a3761544f4a1cd320a6245bce2a16005144af62c9", func := "loop.example/slowworm/laws.FnHeapSweep", spec := "fnHeapSweep", unfollowed := true, recurses := true, apart := false, narrowed := true }
def FnHeapSweepUptoSaid : Prop := fnHeapSweepUptoRow.holds Try.pinned (OpenSpec.upto fnHeapSweepSpec)

/-- 'laws.FnHeapShow', WHERE WHAT IT READS IS OF BULK AT MOST 1048576: true; the input reads as it did. -/
def fnHeapShowUptoRow : OpenClaim := { program := "ytgddblpgbkgpcaa", sum := "47baa4a783205b6f613fd23a3761544f4a1cd320a6245bce2a16005144af62c9", func := "loop.example/slowworm/laws.FnHeapShow", spec := "fnHeapShow", inPlace := ["internal/abi.NoEscape"], unfollowed := true, recurses := true, apart := false, narrowed := true }
def FnHeapShowUptoSaid : Prop := fnHeapShowUptoRow.holds Try.pinned (OpenSpec.upto fnHeapShowSpec)

/-- 'laws.FnDoIndex', WHERE WHAT IT READS IS OF BULK AT MOST 1048576: true; the input reads as it did. -/
def fnDoIndexUptoRow : OpenClaim := { program := "ytgddblpgbkgpcaa", sum := "47baa4a783205b6f613fd23a3761544f4a1cd320a6245bce2a16005144af62c9", func := "loop.example/slowworm/laws.FnDoIndex", spec := "fnDoIndex", apart := false, narrowed := true }
def FnDoIndexUptoSaid : Prop := fnDoIndexUptoRow.holds Try.pinned (OpenSpec.upto fnDoIndexSpec)

/-- 'laws.FnDoSetIndex', WHERE WHAT IT READS IS OF BULK AT MOST 1048576: true; the input reads as it did. -/
def fnDoSetIndexUptoRow : OpenClaim := { program := "ytgddblpgbkgpcaa", sum := "47baa4a783205b6f613fd23a3761544f4a1cd320a6245bce2a16005144af62c9", func := "loop.example/slowworm/laws.FnDoSetIndex", spec := "fnDoSetIndex", apart := false, narrowed := true }
def FnDoSetIndexUptoSaid : Prop := fnDoSetIndexUptoRow.holds Try.pinned (OpenSpec.upto fnDoSetIndexSpec)

/-- 'laws.FnIndexSet', WHERE WHAT IT READS IS OF BULK AT MOST 1048576: true; the input reads as it did. -/
def fnIndexSetUptoRow : OpenClaim := { program := "ytgddblpgbkgpcaa", sum := "47baa4a783205b6f613fd23a3761544f4a1cd320a6245bce2a16005144af62c9", func := "loop.example/slowworm/laws.FnIndexSet", spec := "fnIndexSet", apart := false, narrowed := true }
def FnIndexSetUptoSaid : Prop := fnIndexSetUptoRow.holds Try.pinned (OpenSpec.upto fnIndexSetSpec)

/-- 'laws.FnHeapPickled', WHERE WHAT IT READS IS OF BULK AT MOST 1048576: true; the input reads as it did. -/
def fnHeapPickledUptoRow : OpenClaim := { program := "ytgddblpgbkgpcaa", sum := "47baa4a783205b6f613fd23a3761544f4a1cd320a6245bce2a16005144af62c9", func := "loop.example/slowworm/laws.FnHeapPickled", spec := "fnHeapPickled", unfollowed := true, recurses := true, apart := false, narrowed := true }
def FnHeapPickledUptoSaid : Prop := fnHeapPickledUptoRow.holds Try.pinned (OpenSpec.upto fnHeapPickledSpec)

/-- 'laws.FnHeapReached', WHERE WHAT IT READS IS OF BULK AT MOST 1048576: true; the input reads as it did. -/
def fnHeapReachedUptoRow : OpenClaim := { program := "ytgddblpgbkgpcaa", sum := "47baa4a783205b6f613fd23a3761544f4a1cd320a6245bce2a16005144af62c9", func := "loop.example/slowworm/laws.FnHeapReached", spec := "fnHeapReached", unfollowed := true, recurses := true, apart := false, narrowed := true }
def FnHeapReachedUptoSaid : Prop := fnHeapReachedUptoRow.holds Try.pinned (OpenSpec.upto fnHeapReachedSpec)

/-- 'laws.FnPickleAll', WHERE WHAT IT READS IS OF BULK AT MOST 1048576: true; the input reads as it did. -/
def fnPickleAllUptoRow : OpenClaim := { program := "ytgddblpgbkgpcaa", sum := "47baa4a783205b6f613fd23a3761544f4a1cd320a6245bce2a16005144af62c9", func := "loop.example/slowworm/laws.FnPickleAll", spec := "fnPickleAll", recurses := true, apart := false, narrowed := true }
def FnPickleAllUptoSaid : Prop := fnPickleAllUptoRow.holds Try.pinned (OpenSpec.upto fnPickleAllSpec)

end Rows
end Go.Proofs.Ytgddblpgbkgpcaa
