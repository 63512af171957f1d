/-
  No cell of these rows narrows 'for every input' (looked for: loops, veiled, ifaces, maps, wideKeys, modest, calm, conditions, laid).
  DERIVED. THE GIVEN ROWS OF THIS SEAT. 6 by the template 'for every input the law returns true; each argument reads behind the call as it read before'; 0 by the template 'total and deterministic' (their statements: YthnembgbooaplaaTotals.lean).
  GIVEN WITH THE SEED: the statements are not yours to turn. If you find one false, say at which input.
  Laid BY PROGRAM, IN A SANDBOX (cutbox-rows.mjs): the forced cells as the released guide's own fill.sh prints them over the translation b4dc49383200bb8c… (all of the seat's roots in one cut). By AI agents, Wed Nov 11 2026. No macro, syntax, notation, axiom, sorry.
-/
import Derived.Test.YthnembgbooaplaaChecked
import GoSem.Claim
import GoSem.ClaimJoined
import GoSem.ClaimMapViews
import Derived.JoinedTies
import Derived.KernelRfl
namespace Go.Proofs.Ythnembgbooaplaa
/- THE CELL 'sum', in the pinned program and in every row, IS THE sha256 OF THE DUMP (.gsa) THAT YthnembgbooaplaaProg.lean LOADS. Nothing in Lean hashes anything: it is a label: what it is worth is what the hold of that sum in a sandbox is worth. -/
noncomputable def Try.pinned : Pinned := { name := "ythnembgbooaplaa", sum := "b4dc49383200bb8c93b41a81047a76c0021d9930caee92c9c30ac6b032de6676", checked := Try.checked }
namespace Rows
def none {H : Type} : Left H := { results := [], args := [] }

/-- 'laws.FnExactBodyIn': WHATEVER THE INPUT: true; the input reads as it did. -/
def fnExactBodyInSpec : ChangeSpec := { name := "fnExactBodyIn", fn := fun _ => fun
  | [d] => { results := [.lit (.bool true)], args := [d] }
  | _ => none }
def fnExactBodyInRow : OpenClaim := { program := "ythnembgbooaplaa", sum := "b4dc49383200bb8c93b41a81047a76c0021d9930caee92c9c30ac6b032de6676", func := "loop.example/g00963/laws.FnExactBodyIn", spec := "fnExactBodyIn", inPlace := ["internal/bytealg.IndexByteString"], apart := false }
def FnExactBodyInSaid : Prop := fnExactBodyInRow.holds Try.pinned (OpenSpec.ofChange fnExactBodyInSpec)

/-- ITS FALSE NEIGHBOUR: 'it returns false'. Refute it at one input. -/
def fnExactBodyInWrong : ChangeSpec := { name := "fnExactBodyIn", fn := fun _ => fun
  | [d] => { results := [.lit (.bool false)], args := [d] }
  | _ => none }
def FnExactBodyInWrongFalsely : Prop := fnExactBodyInRow.holds Try.pinned (OpenSpec.ofChange fnExactBodyInWrong)

/-- 'laws.FnExactNumberText': WHATEVER THE INPUT: true; the input reads as it did. -/
def fnExactNumberTextSpec : ChangeSpec := { name := "fnExactNumberText", fn := fun _ => fun
  | [d] => { results := [.lit (.bool true)], args := [d] }
  | _ => none }
def fnExactNumberTextRow : OpenClaim := { program := "ythnembgbooaplaa", sum := "b4dc49383200bb8c93b41a81047a76c0021d9930caee92c9c30ac6b032de6676", func := "loop.example/g00963/laws.FnExactNumberText", spec := "fnExactNumberText", inPlace := ["internal/abi.NoEscape", "internal/bytealg.MakeNoZero"], apart := false }
def FnExactNumberTextSaid : Prop := fnExactNumberTextRow.holds Try.pinned (OpenSpec.ofChange fnExactNumberTextSpec)

/-- ITS FALSE NEIGHBOUR: 'it returns false'. Refute it at one input. -/
def fnExactNumberTextWrong : ChangeSpec := { name := "fnExactNumberText", fn := fun _ => fun
  | [d] => { results := [.lit (.bool false)], args := [d] }
  | _ => none }
def FnExactNumberTextWrongFalsely : Prop := fnExactNumberTextRow.holds Try.pinned (OpenSpec.ofChange fnExactNumberTextWrong)

/-- 'laws.FnExactNumberOf': WHATEVER THE INPUT: true; the input reads as it did. -/
def fnExactNumberOfSpec : ChangeSpec := { name := "fnExactNumberOf", fn := fun _ => fun
  | [d] => { results := [.lit (.bool true)], args := [d] }
  | _ => none }
def fnExactNumberOfRow : OpenClaim := { program := "ythnembgbooaplaa", sum := "b4dc49383200bb8c93b41a81047a76c0021d9930caee92c9c30ac6b032de6676", func := "loop.example/g00963/laws.FnExactNumberOf", spec := "fnExactNumberOf", inPlace := ["internal/bytealg.CountString", "internal/bytealg.IndexByteString", "internal/bytealg.IndexString", "internal/abi.NoEscape", "internal/bytealg.MakeNoZero"], named := ["internal/bytealg.MaxLen"], apart := false }
def FnExactNumberOfSaid : Prop := fnExactNumberOfRow.holds Try.pinned (OpenSpec.ofChange fnExactNumberOfSpec)

/-- ITS FALSE NEIGHBOUR: 'it returns false'. Refute it at one input. -/
def fnExactNumberOfWrong : ChangeSpec := { name := "fnExactNumberOf", fn := fun _ => fun
  | [d] => { results := [.lit (.bool false)], args := [d] }
  | _ => none }
def FnExactNumberOfWrongFalsely : Prop := fnExactNumberOfRow.holds Try.pinned (OpenSpec.ofChange fnExactNumberOfWrong)

/-- 'laws.FnExactHmacOk': WHATEVER THE INPUT: true; the input reads as it did. -/
def fnExactHmacOkSpec : ChangeSpec := { name := "fnExactHmacOk", fn := fun _ => fun
  | [d1, d2, d3] => { results := [.lit (.bool true)], args := [d1, d2, d3] }
  | _ => none }
def fnExactHmacOkRow : OpenClaim := { program := "ythnembgbooaplaa", sum := "b4dc49383200bb8c93b41a81047a76c0021d9930caee92c9c30ac6b032de6676", func := "loop.example/g00963/laws.FnExactHmacOk", spec := "fnExactHmacOk", inPlace := ["internal/abi.NoEscape", "internal/bytealg.MakeNoZero"], apart := false }
def FnExactHmacOkSaid : Prop := fnExactHmacOkRow.holds Try.pinned (OpenSpec.ofChange fnExactHmacOkSpec)

/-- ITS FALSE NEIGHBOUR: 'it returns false'. Refute it at one input. -/
def fnExactHmacOkWrong : ChangeSpec := { name := "fnExactHmacOk", fn := fun _ => fun
  | [d1, d2, d3] => { results := [.lit (.bool false)], args := [d1, d2, d3] }
  | _ => none }
def FnExactHmacOkWrongFalsely : Prop := fnExactHmacOkRow.holds Try.pinned (OpenSpec.ofChange fnExactHmacOkWrong)

/-- 'laws.FnExactVerified': WHATEVER THE INPUT: true; the input reads as it did. -/
def fnExactVerifiedSpec : ChangeSpec := { name := "fnExactVerified", fn := fun _ => fun
  | [d1, d2] => { results := [.lit (.bool true)], args := [d1, d2] }
  | _ => none }
def fnExactVerifiedRow : OpenClaim := { program := "ythnembgbooaplaa", sum := "b4dc49383200bb8c93b41a81047a76c0021d9930caee92c9c30ac6b032de6676", func := "loop.example/g00963/laws.FnExactVerified", spec := "fnExactVerified", inPlace := ["internal/bytealg.IndexByteString", "internal/abi.NoEscape", "internal/bytealg.MakeNoZero"], apart := false }
def FnExactVerifiedSaid : Prop := fnExactVerifiedRow.holds Try.pinned (OpenSpec.ofChange fnExactVerifiedSpec)

/-- ITS FALSE NEIGHBOUR: 'it returns false'. Refute it at one input. -/
def fnExactVerifiedWrong : ChangeSpec := { name := "fnExactVerified", fn := fun _ => fun
  | [d1, d2] => { results := [.lit (.bool false)], args := [d1, d2] }
  | _ => none }
def FnExactVerifiedWrongFalsely : Prop := fnExactVerifiedRow.holds Try.pinned (OpenSpec.ofChange fnExactVerifiedWrong)

/-- 'laws.FnMarks': WHATEVER THE INPUT: true; the input reads as it did. -/
def fnMarksSpec : ChangeSpec := { name := "fnMarks", fn := fun _ => fun
  | [d] => { results := [.lit (.bool true)], args := [d] }
  | _ => none }
def fnMarksRow : OpenClaim := { program := "ythnembgbooaplaa", sum := "b4dc49383200bb8c93b41a81047a76c0021d9930caee92c9c30ac6b032de6676", func := "loop.example/g00963/laws.FnMarks", spec := "fnMarks", inPlace := ["internal/abi.NoEscape", "internal/bytealg.MakeNoZero"], apart := false }
def FnMarksSaid : Prop := fnMarksRow.holds Try.pinned (OpenSpec.ofChange fnMarksSpec)

/-- ITS FALSE NEIGHBOUR: 'it returns false'. Refute it at one input. -/
def fnMarksWrong : ChangeSpec := { name := "fnMarks", fn := fun _ => fun
  | [d] => { results := [.lit (.bool false)], args := [d] }
  | _ => none }
def FnMarksWrongFalsely : Prop := fnMarksRow.holds Try.pinned (OpenSpec.ofChange fnMarksWrong)

/- THE SECOND FORM. 'bulk': how many values and letters a reading holds, each counted each time it is reached (what is shared counts as often as it is met; a slice's spare places count too). A statement '..UptoSaid' is the law's where the arguments, and the package variables that the reading takes, are together of bulk at most 1048576: NARROWER than '..Said'. Prove '..Said' where nothing that the law and all that it calls make is longer than what came in: it says more and counts as full. Else prove '..UptoSaid'. A law counts once. -/
mutual
def uptoBulk {H : Type} : DataW H → Nat
  | .lit (.string bytes) => bytes.length + 1
  | .lit _ => 1
  | .nil => 1
  | .ptr d => uptoBulk d + 1
  | .slice elems spare => uptoBulkAll elems + uptoBulkAll spare + 1
  | .agg parts => uptoBulkAll parts + 1
  | .iface _ d => uptoBulk d + 1
  | .map entries => uptoBulkEntries entries + 1
  | .held _ => 1
def uptoBulkAll {H : Type} : List (DataW H) → Nat
  | [] => 0
  | d :: r => uptoBulk d + uptoBulkAll r
def uptoBulkEntries {H : Type} : List (Lit × DataW H) → Nat
  | [] => 0
  | x :: r => uptoBulkEntry x + uptoBulkEntries r
def uptoBulkEntry {H : Type} : Lit × DataW H → Nat
  | (.string bytes, d) => bytes.length + uptoBulk d + 1
  | (_, d) => uptoBulk d + 1
 end
def uptoSmall : (H : Type) → List (DataW H) → Bool := fun _ ds => decide (uptoBulkAll ds ≤ 1048576)
def OpenSpec.upto (s : _root_.Go.ChangeSpec) : _root_.Go.OpenSpec := { _root_.Go.OpenSpec.ofChange s with cond := some uptoSmall }

/-- 'laws.FnExactBodyIn', WHERE WHAT IT READS IS OF BULK AT MOST 1048576: true; the input reads as it did. -/
def fnExactBodyInUptoRow : OpenClaim := { program := "ythnembgbooaplaa", sum := "b4dc49383200bb8c93b41a81047a76c0021d9930caee92c9c30ac6b032de6676", func := "loop.example/g00963/laws.FnExactBodyIn", spec := "fnExactBodyIn", inPlace := ["internal/bytealg.IndexByteString"], apart := false, narrowed := true }
def FnExactBodyInUptoSaid : Prop := fnExactBodyInUptoRow.holds Try.pinned (OpenSpec.upto fnExactBodyInSpec)

/-- 'laws.FnExactNumberText', WHERE WHAT IT READS IS OF BULK AT MOST 1048576: true; the input reads as it did. -/
def fnExactNumberTextUptoRow : OpenClaim := { program := "ythnembgbooaplaa", sum := "b4dc49383200bb8c93b41a81047a76c0021d9930caee92c9c30ac6b032de6676", func := "loop.example/g00963/laws.FnExactNumberText", spec := "fnExactNumberText", inPlace := ["internal/abi.NoEscape", "internal/bytealg.MakeNoZero"], apart := false, narrowed := true }
def FnExactNumberTextUptoSaid : Prop := fnExactNumberTextUptoRow.holds Try.pinned (OpenSpec.upto fnExactNumberTextSpec)

/-- 'laws.FnExactNumberOf', WHERE WHAT IT READS IS OF BULK AT MOST 1048576: true; the input reads as it did. -/
def fnExactNumberOfUptoRow : OpenClaim := { program := "ythnembgbooaplaa", sum := "b4dc49383200bb8c93b41a81047a76c0021d9930caee92c9c30ac6b032de6676", func := "loop.example/g00963/laws.FnExactNumberOf", spec := "fnExactNumberOf", inPlace := ["internal/bytealg.CountString", "internal/bytealg.IndexByteString", "internal/bytealg.IndexString", "internal/abi.NoEscape", "internal/bytealg.MakeNoZero"], named := ["internal/bytealg.MaxLen"], apart := false, narrowed := true }
def FnExactNumberOfUptoSaid : Prop := fnExactNumberOfUptoRow.holds Try.pinned (OpenSpec.upto fnExactNumberOfSpec)

/-- 'laws.FnExactHmacOk', WHERE WHAT IT READS IS OF BULK AT MOST 1048576: true; the input reads as it did. -/
def fnExactHmacOkUptoRow : OpenClaim := { program := "ythnembgbooaplaa", sum := "b4dc49383200bb8c93b41a81047a76c0021d9930caee92c9c30ac6b032de6676", func := "loop.example/g00963/laws.FnExactHmacOk", spec := "fnExactHmacOk", inPlace := ["internal/abi.NoEscape", "internal/bytealg.MakeNoZero"], apart := false, narrowed := true }
def FnExactHmacOkUptoSaid : Prop := fnExactHmacOkUptoRow.holds Try.pinned (OpenSpec.upto fnExactHmacOkSpec)

/-- 'laws.FnExactVerified', WHERE WHAT IT READS IS OF BULK AT MOST 1048576: true; the input reads as it did. -/
def fnExactVerifiedUptoRow : OpenClaim := { program := "ythnembgbooaplaa", sum := "b4dc49383200bb8c93b41a81047a76c0021d9930caee92c9c30ac6b032de6676", func := "loop.example/g00963/laws.FnExactVerified", spec := "fnExactVerified", inPlace := ["internal/bytealg.IndexByteString", "internal/abi.NoEscape", "internal/bytealg.MakeNoZero"], apart := false, narrowed := true }
def FnExactVerifiedUptoSaid : Prop := fnExactVerifiedUptoRow.holds Try.pinned (OpenSpec.upto fnExactVerifiedSpec)

/-- 'laws.FnMarks', WHERE WHAT IT READS IS OF BULK AT MOST 1048576: true; the input reads as it did. -/
def fnMarksUptoRow : OpenClaim := { program := "ythnembgbooaplaa", sum := "b4dc49383200bb8c93b41a81047a76c0021d9930caee92c9c30ac6b032de6676", func := "loop.example/g00963/laws.FnMarks", spec := "fnMarks", inPlace := ["internal/abi.NoEscape", "internal/bytealg.MakeNoZero"], apart := false, narrowed := true }
def FnMarksUptoSaid : Prop := fnMarksUptoRow.holds Try.pinned (OpenSpec.upto fnMarksSpec)

end Rows
end Go.Proofs.Ythnembgbooaplaa
