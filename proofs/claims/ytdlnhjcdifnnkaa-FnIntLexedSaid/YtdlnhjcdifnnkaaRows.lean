/-
  No cell of these rows narrows 'for every input' (looked for: loops, veiled, ifaces, maps, wideKeys, modest, calm, conditions, laid).
  DERIVED. THE GIVEN ROWS OF THIS SEAT. 3 by the template 'for every input the law returns true; each argument reads behind the call as it read before'; 0 by the template 'total and deterministic' (their statements: YtdlnhjcdifnnkaaTotals.lean).
  GIVEN WITH THE SEED: the statements are not yours to turn. If you find one false, say at which input.
  Laid BY PROGRAM, IN A SANDBOX (cutbox-rows.mjs): the forced cells as the released guide's own fill.sh prints them over the translation 827e9c182c16b4f5… (all of the seat's roots in one cut). By AI agents, Wed Nov 11 2026. No macro, syntax, notation, axiom, sorry.
-/
import Derived.Test.YtdlnhjcdifnnkaaChecked
import GoSem.Claim
import GoSem.ClaimJoined
import GoSem.ClaimMapViews
import Derived.JoinedTies
import Derived.KernelRfl
namespace Go.Proofs.Ytdlnhjcdifnnkaa
/- THE CELL 'sum', in the pinned program and in every row, IS THE sha256 OF THE DUMP (.gsa) THAT YtdlnhjcdifnnkaaProg.lean LOADS. Nothing in Lean hashes anything: it is a label: what it is worth is what the hold of that sum in a sandbox is worth. -/
noncomputable def Try.pinned : Pinned := { name := "ytdlnhjcdifnnkaa", sum := "827e9c182c16b4f540f32626ca2702905994bf2136ffe2a500209466dcb518bd", checked := Try.checked }
namespace Rows
def none {H : Type} : Left H := { results := [], args := [] }

/-- 'laws.FnExprOk': WHATEVER THE INPUT: true; the input reads as it did. -/
def fnExprOkSpec : ChangeSpec := { name := "fnExprOk", fn := fun _ => fun
  | [d] => { results := [.lit (.bool true)], args := [d] }
  | _ => none }
def fnExprOkRow : OpenClaim := { program := "ytdlnhjcdifnnkaa", sum := "827e9c182c16b4f540f32626ca2702905994bf2136ffe2a500209466dcb518bd", func := "loop.example/slowworm/laws.FnExprOk", spec := "fnExprOk", inPlace := ["internal/abi.NoEscape", "internal/bytealg.MakeNoZero"], unfollowed := true, recurses := true, apart := false }
def FnExprOkSaid : Prop := fnExprOkRow.holds Try.pinned (OpenSpec.ofChange fnExprOkSpec)

/-- ITS FALSE NEIGHBOUR: 'it returns false'. Refute it at one input. -/
def fnExprOkWrong : ChangeSpec := { name := "fnExprOk", fn := fun _ => fun
  | [d] => { results := [.lit (.bool false)], args := [d] }
  | _ => none }
def FnExprOkWrongFalsely : Prop := fnExprOkRow.holds Try.pinned (OpenSpec.ofChange fnExprOkWrong)

/-- 'laws.FnExprSame': WHATEVER THE INPUT: true; the input reads as it did. -/
def fnExprSameSpec : ChangeSpec := { name := "fnExprSame", fn := fun _ => fun
  | [d] => { results := [.lit (.bool true)], args := [d] }
  | _ => none }
def fnExprSameRow : OpenClaim := { program := "ytdlnhjcdifnnkaa", sum := "827e9c182c16b4f540f32626ca2702905994bf2136ffe2a500209466dcb518bd", func := "loop.example/slowworm/laws.FnExprSame", spec := "fnExprSame", inPlace := ["internal/abi.NoEscape", "internal/bytealg.MakeNoZero"], unfollowed := true, recurses := true, apart := false }
def FnExprSameSaid : Prop := fnExprSameRow.holds Try.pinned (OpenSpec.ofChange fnExprSameSpec)

/-- ITS FALSE NEIGHBOUR: 'it returns false'. Refute it at one input. -/
def fnExprSameWrong : ChangeSpec := { name := "fnExprSame", fn := fun _ => fun
  | [d] => { results := [.lit (.bool false)], args := [d] }
  | _ => none }
def FnExprSameWrongFalsely : Prop := fnExprSameRow.holds Try.pinned (OpenSpec.ofChange fnExprSameWrong)

/-- 'laws.FnIntLexed': WHATEVER THE INPUT: true; the input reads as it did. -/
def fnIntLexedSpec : ChangeSpec := { name := "fnIntLexed", fn := fun _ => fun
  | [d] => { results := [.lit (.bool true)], args := [d] }
  | _ => none }
def fnIntLexedRow : OpenClaim := { program := "ytdlnhjcdifnnkaa", sum := "827e9c182c16b4f540f32626ca2702905994bf2136ffe2a500209466dcb518bd", func := "loop.example/slowworm/laws.FnIntLexed", spec := "fnIntLexed", inPlace := ["internal/abi.NoEscape", "internal/bytealg.IndexByteString"], unfollowed := true, recurses := true, apart := false }
def FnIntLexedSaid : Prop := fnIntLexedRow.holds Try.pinned (OpenSpec.ofChange fnIntLexedSpec)

/-- ITS FALSE NEIGHBOUR: 'it returns false'. Refute it at one input. -/
def fnIntLexedWrong : ChangeSpec := { name := "fnIntLexed", fn := fun _ => fun
  | [d] => { results := [.lit (.bool false)], args := [d] }
  | _ => none }
def FnIntLexedWrongFalsely : Prop := fnIntLexedRow.holds Try.pinned (OpenSpec.ofChange fnIntLexedWrong)

/- THE SECOND FORM. 'bulk': how many values and letters a reading holds, each counted each time it is reached (what is shared counts as often as it is met; a slice's spare places count too). A statement '..UptoSaid' is the law's where the arguments, and the package variables that the reading takes, are together of bulk at most 1048576: NARROWER than '..Said'. Prove '..Said' where nothing that the law and all that it calls make is longer than what came in: it says more and counts as full. Else prove '..UptoSaid'. A law counts once. -/
mutual
def uptoBulk {H : Type} : DataW H → Nat
  | .lit (.string bytes) => bytes.length + 1
  | .lit _ => 1
  | .nil => 1
  | .ptr d => uptoBulk d + 1
  | .slice elems spare => uptoBulkAll elems + uptoBulkAll spare + 1
  | .agg parts => uptoBulkAll parts + 1
  | .iface _ d => uptoBulk d + 1
  | .map entries => uptoBulkEntries entries + 1
  | .held _ => 1
def uptoBulkAll {H : Type} : List (DataW H) → Nat
  | [] => 0
  | d :: r => uptoBulk d + uptoBulkAll r
def uptoBulkEntries {H : Type} : List (Lit × DataW H) → Nat
  | [] => 0
  | x :: r => uptoBulkEntry x + uptoBulkEntries r
def uptoBulkEntry {H : Type} : Lit × DataW H → Nat
  | (.string bytes, d) => bytes.length + uptoBulk d + 1
  | (_, d) => uptoBulk d + 1
 end
def uptoSmall : (H : Type) → List (DataW H) → Bool := fun _ ds => decide (uptoBulkAll ds ≤ 1048576)
def OpenSpec.upto (s : _root_.Go.ChangeSpec) : _root_.Go.OpenSpec := { _root_.Go.OpenSpec.ofChange s with cond := some uptoSmall }

/-- 'laws.FnExprOk', WHERE WHAT IT READS IS OF BULK AT MOST 1048576: true; the input reads as it did. -/
def fnExprOkUptoRow : OpenClaim := { program := "ytdlnhjcdifnnkaa", sum := "827e9c182c16b4f540f32626ca2702905994bf2136ffe2a500209466dcb518bd", func := "loop.example/slowworm/laws.FnExprOk", spec := "fnExprOk", inPlace := ["internal/abi.NoEscape", "internal/bytealg.MakeNoZero"], unfollowed := true, recurses := true, apart := false, narrowed := true }
def FnExprOkUptoSaid : Prop := fnExprOkUptoRow.holds Try.pinned (OpenSpec.upto fnExprOkSpec)

/-- 'laws.FnExprSame', WHERE WHAT IT READS IS OF BULK AT MOST 1048576: true; the input reads as it did. -/
def fnExprSameUptoRow : OpenClaim := { program := "ytdlnhjcdifnnkaa", sum := "827e9c182c16b4f540f32626ca2702905994bf2136ffe2a500209466dcb518bd", func := "loop.example/slowworm/laws.FnExprSame", spec := "fnExprSame", inPlace := ["internal/abi.NoEscape", "internal/bytealg.MakeNoZero"], unfollowed := true, recurses := true, apart := false, narrowed := true }
def FnExprSameUptoSaid : Prop := fnExprSameUptoRow.holds Try.pinned (OpenSpec.upto fnExprSameSpec)

/-- 'laws.FnIntLexed', WHERE WHAT IT READS IS OF BULK AT MOST 1048576: true; the input reads as it did. -/
def fnIntLexedUptoRow : OpenClaim := { program := "ytdlnhjcdifnnkaa", sum := "827e9c182c16b4f540f32626ca2702905994bf2136ffe2a500209466dcb518bd", func := "loop.example/slowworm/laws.FnIntLexed", spec := "fnIntLexed", inPlace := ["internal/abi.NoEscape", "internal/bytealg.IndexByteString"], unfollowed := true, recurses := true, apart := false, narrowed := true }
def FnIntLexedUptoSaid : Prop := fnIntLexedUptoRow.holds Try.pinned (OpenSpec.upto fnIntLexedSpec)

end Rows
end Go.Proofs.Ytdlnhjcdifnnkaa
