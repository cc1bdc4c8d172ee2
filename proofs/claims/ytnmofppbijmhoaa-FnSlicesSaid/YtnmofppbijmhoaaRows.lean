/-
  No cell of these rows narrows 'for every input' (looked for: loops, veiled, ifaces, maps, wideKeys, modest, calm, conditions, laid).
  DERIVED. THE GIVEN ROWS OF THIS SEAT. 9 by the template 'for every input the law returns true; each argument reads behind the call as it read before'; 0 by the template 'total and deterministic' (their statements: YtnmofppbijmhoaaTotals.lean).
  GIVEN WITH THE SEED: the statements are not yours to turn. If you find one false, say at which input.
  Laid BY PROGRAM, IN A SANDBOX (cutbox-rows.mjs): the forced cells as the released guide's own fill.sh prints them over the translation 7ea2bbb556ec275f… (all of the seat's roots in one cut). By AI agents, Wed Nov 11 2026. No macro, syntax, notation, axiom, sorry.
-/
import Derived.Test.YtnmofppbijmhoaaChecked
import GoSem.Claim
import GoSem.ClaimJoined
import GoSem.ClaimMapViews
import Derived.JoinedTies
import Derived.KernelRfl
namespace Go.Proofs.Ytnmofppbijmhoaa
/- THE CELL 'sum', in the pinned program and in every row, IS THE sha256 OF THE DUMP (.gsa) THAT YtnmofppbijmhoaaProg.lean LOADS. Nothing in Lean hashes anything: it is a label: what it is worth is what the hold of that sum in a sandbox is worth. -/
noncomputable def Try.pinned : Pinned := { name := "ytnmofppbijmhoaa", sum := "7ea2bbb556ec275fd7b9195aa39c51ad0039ecdcc33011c39094c7b3dbed22c5", checked := Try.checked }
namespace Rows
def none {H : Type} : Left H := { results := [], args := [] }

/-- 'laws.FnLacks': WHATEVER THE INPUT: true; the input reads as it did. -/
def fnLacksSpec : ChangeSpec := { name := "fnLacks", fn := fun _ => fun
  | [d] => { results := [.lit (.bool true)], args := [d] }
  | _ => none }
def fnLacksRow : OpenClaim := { program := "ytnmofppbijmhoaa", sum := "7ea2bbb556ec275fd7b9195aa39c51ad0039ecdcc33011c39094c7b3dbed22c5", func := "loop.example/g00487/laws.FnLacks", spec := "fnLacks", inPlace := ["internal/bytealg.abigen_runtime_cmpstring"], apart := false }
def FnLacksSaid : Prop := fnLacksRow.holds Try.pinned (OpenSpec.ofChange fnLacksSpec)

/-- ITS FALSE NEIGHBOUR: 'it returns false'. Refute it at one input. -/
def fnLacksWrong : ChangeSpec := { name := "fnLacks", fn := fun _ => fun
  | [d] => { results := [.lit (.bool false)], args := [d] }
  | _ => none }
def FnLacksWrongFalsely : Prop := fnLacksRow.holds Try.pinned (OpenSpec.ofChange fnLacksWrong)

/-- 'laws.FnJoinEach': WHATEVER THE INPUT: true; the input reads as it did. -/
def fnJoinEachSpec : ChangeSpec := { name := "fnJoinEach", fn := fun _ => fun
  | [d] => { results := [.lit (.bool true)], args := [d] }
  | _ => none }
def fnJoinEachRow : OpenClaim := { program := "ytnmofppbijmhoaa", sum := "7ea2bbb556ec275fd7b9195aa39c51ad0039ecdcc33011c39094c7b3dbed22c5", func := "loop.example/g00487/laws.FnJoinEach", spec := "fnJoinEach", inPlace := ["internal/bytealg.abigen_runtime_cmpstring"], apart := false }
def FnJoinEachSaid : Prop := fnJoinEachRow.holds Try.pinned (OpenSpec.ofChange fnJoinEachSpec)

/-- ITS FALSE NEIGHBOUR: 'it returns false'. Refute it at one input. -/
def fnJoinEachWrong : ChangeSpec := { name := "fnJoinEach", fn := fun _ => fun
  | [d] => { results := [.lit (.bool false)], args := [d] }
  | _ => none }
def FnJoinEachWrongFalsely : Prop := fnJoinEachRow.holds Try.pinned (OpenSpec.ofChange fnJoinEachWrong)

/-- 'laws.FnSingles': WHATEVER THE INPUT: true; the input reads as it did. -/
def fnSinglesSpec : ChangeSpec := { name := "fnSingles", fn := fun _ => fun
  | [d] => { results := [.lit (.bool true)], args := [d] }
  | _ => none }
def fnSinglesRow : OpenClaim := { program := "ytnmofppbijmhoaa", sum := "7ea2bbb556ec275fd7b9195aa39c51ad0039ecdcc33011c39094c7b3dbed22c5", func := "loop.example/g00487/laws.FnSingles", spec := "fnSingles", inPlace := ["internal/bytealg.abigen_runtime_cmpstring"], apart := false }
def FnSinglesSaid : Prop := fnSinglesRow.holds Try.pinned (OpenSpec.ofChange fnSinglesSpec)

/-- ITS FALSE NEIGHBOUR: 'it returns false'. Refute it at one input. -/
def fnSinglesWrong : ChangeSpec := { name := "fnSingles", fn := fun _ => fun
  | [d] => { results := [.lit (.bool false)], args := [d] }
  | _ => none }
def FnSinglesWrongFalsely : Prop := fnSinglesRow.holds Try.pinned (OpenSpec.ofChange fnSinglesWrong)

/-- 'laws.FnLeq': WHATEVER THE INPUT: true; the input reads as it did. -/
def fnLeqSpec : ChangeSpec := { name := "fnLeq", fn := fun _ => fun
  | [d] => { results := [.lit (.bool true)], args := [d] }
  | _ => none }
def fnLeqRow : OpenClaim := { program := "ytnmofppbijmhoaa", sum := "7ea2bbb556ec275fd7b9195aa39c51ad0039ecdcc33011c39094c7b3dbed22c5", func := "loop.example/g00487/laws.FnLeq", spec := "fnLeq", inPlace := ["internal/bytealg.abigen_runtime_cmpstring"], apart := false }
def FnLeqSaid : Prop := fnLeqRow.holds Try.pinned (OpenSpec.ofChange fnLeqSpec)

/-- ITS FALSE NEIGHBOUR: 'it returns false'. Refute it at one input. -/
def fnLeqWrong : ChangeSpec := { name := "fnLeq", fn := fun _ => fun
  | [d] => { results := [.lit (.bool false)], args := [d] }
  | _ => none }
def FnLeqWrongFalsely : Prop := fnLeqRow.holds Try.pinned (OpenSpec.ofChange fnLeqWrong)

/-- 'laws.FnLeaves': WHATEVER THE INPUT: true; the input reads as it did. -/
def fnLeavesSpec : ChangeSpec := { name := "fnLeaves", fn := fun _ => fun
  | [d] => { results := [.lit (.bool true)], args := [d] }
  | _ => none }
def fnLeavesRow : OpenClaim := { program := "ytnmofppbijmhoaa", sum := "7ea2bbb556ec275fd7b9195aa39c51ad0039ecdcc33011c39094c7b3dbed22c5", func := "loop.example/g00487/laws.FnLeaves", spec := "fnLeaves", apart := false }
def FnLeavesSaid : Prop := fnLeavesRow.holds Try.pinned (OpenSpec.ofChange fnLeavesSpec)

/-- ITS FALSE NEIGHBOUR: 'it returns false'. Refute it at one input. -/
def fnLeavesWrong : ChangeSpec := { name := "fnLeaves", fn := fun _ => fun
  | [d] => { results := [.lit (.bool false)], args := [d] }
  | _ => none }
def FnLeavesWrongFalsely : Prop := fnLeavesRow.holds Try.pinned (OpenSpec.ofChange fnLeavesWrong)

/-- 'laws.FnMaxInc': WHATEVER THE INPUT: true; the input reads as it did. -/
def fnMaxIncSpec : ChangeSpec := { name := "fnMaxInc", fn := fun _ => fun
  | [d] => { results := [.lit (.bool true)], args := [d] }
  | _ => none }
def fnMaxIncRow : OpenClaim := { program := "ytnmofppbijmhoaa", sum := "7ea2bbb556ec275fd7b9195aa39c51ad0039ecdcc33011c39094c7b3dbed22c5", func := "loop.example/g00487/laws.FnMaxInc", spec := "fnMaxInc", inPlace := ["internal/bytealg.abigen_runtime_cmpstring"], apart := false }
def FnMaxIncSaid : Prop := fnMaxIncRow.holds Try.pinned (OpenSpec.ofChange fnMaxIncSpec)

/-- ITS FALSE NEIGHBOUR: 'it returns false'. Refute it at one input. -/
def fnMaxIncWrong : ChangeSpec := { name := "fnMaxInc", fn := fun _ => fun
  | [d] => { results := [.lit (.bool false)], args := [d] }
  | _ => none }
def FnMaxIncWrongFalsely : Prop := fnMaxIncRow.holds Try.pinned (OpenSpec.ofChange fnMaxIncWrong)

/-- 'laws.FnSaid': WHATEVER THE INPUT: true; the input reads as it did. -/
def fnSaidSpec : ChangeSpec := { name := "fnSaid", fn := fun _ => fun
  | [d] => { results := [.lit (.bool true)], args := [d] }
  | _ => none }
def fnSaidRow : OpenClaim := { program := "ytnmofppbijmhoaa", sum := "7ea2bbb556ec275fd7b9195aa39c51ad0039ecdcc33011c39094c7b3dbed22c5", func := "loop.example/g00487/laws.FnSaid", spec := "fnSaid", inPlace := ["internal/bytealg.abigen_runtime_cmpstring"], apart := false }
def FnSaidSaid : Prop := fnSaidRow.holds Try.pinned (OpenSpec.ofChange fnSaidSpec)

/-- ITS FALSE NEIGHBOUR: 'it returns false'. Refute it at one input. -/
def fnSaidWrong : ChangeSpec := { name := "fnSaid", fn := fun _ => fun
  | [d] => { results := [.lit (.bool false)], args := [d] }
  | _ => none }
def FnSaidWrongFalsely : Prop := fnSaidRow.holds Try.pinned (OpenSpec.ofChange fnSaidWrong)

/-- 'laws.FnSlices': WHATEVER THE INPUT: true; the input reads as it did. -/
def fnSlicesSpec : ChangeSpec := { name := "fnSlices", fn := fun _ => fun
  | [d] => { results := [.lit (.bool true)], args := [d] }
  | _ => none }
def fnSlicesRow : OpenClaim := { program := "ytnmofppbijmhoaa", sum := "7ea2bbb556ec275fd7b9195aa39c51ad0039ecdcc33011c39094c7b3dbed22c5", func := "loop.example/g00487/laws.FnSlices", spec := "fnSlices", inPlace := ["internal/bytealg.abigen_runtime_cmpstring"], apart := false }
def FnSlicesSaid : Prop := fnSlicesRow.holds Try.pinned (OpenSpec.ofChange fnSlicesSpec)

/-- ITS FALSE NEIGHBOUR: 'it returns false'. Refute it at one input. -/
def fnSlicesWrong : ChangeSpec := { name := "fnSlices", fn := fun _ => fun
  | [d] => { results := [.lit (.bool false)], args := [d] }
  | _ => none }
def FnSlicesWrongFalsely : Prop := fnSlicesRow.holds Try.pinned (OpenSpec.ofChange fnSlicesWrong)

/-- 'laws.FnTouched': WHATEVER THE INPUT: true; the input reads as it did. -/
def fnTouchedSpec : ChangeSpec := { name := "fnTouched", fn := fun _ => fun
  | [d] => { results := [.lit (.bool true)], args := [d] }
  | _ => none }
def fnTouchedRow : OpenClaim := { program := "ytnmofppbijmhoaa", sum := "7ea2bbb556ec275fd7b9195aa39c51ad0039ecdcc33011c39094c7b3dbed22c5", func := "loop.example/g00487/laws.FnTouched", spec := "fnTouched", inPlace := ["internal/bytealg.abigen_runtime_cmpstring"], apart := false }
def FnTouchedSaid : Prop := fnTouchedRow.holds Try.pinned (OpenSpec.ofChange fnTouchedSpec)

/-- ITS FALSE NEIGHBOUR: 'it returns false'. Refute it at one input. -/
def fnTouchedWrong : ChangeSpec := { name := "fnTouched", fn := fun _ => fun
  | [d] => { results := [.lit (.bool false)], args := [d] }
  | _ => none }
def FnTouchedWrongFalsely : Prop := fnTouchedRow.holds Try.pinned (OpenSpec.ofChange fnTouchedWrong)

/- THE SECOND FORM. 'bulk': how many values and letters a reading holds, each counted each time it is reached (what is shared counts as often as it is met; a slice's spare places count too). A statement '..UptoSaid' is the law's where the arguments, and the package variables that the reading takes, are together of bulk at most 1048576: NARROWER than '..Said'. Prove '..Said' where nothing that the law and all that it calls make is longer than what came in: it says more and counts as full. Else prove '..UptoSaid'. A law counts once. -/
mutual
def uptoBulk {H : Type} : DataW H → Nat
  | .lit (.string bytes) => bytes.length + 1
  | .lit _ => 1
  | .nil => 1
  | .ptr d => uptoBulk d + 1
  | .slice elems spare => uptoBulkAll elems + uptoBulkAll spare + 1
  | .agg parts => uptoBulkAll parts + 1
  | .iface _ d => uptoBulk d + 1
  | .map entries => uptoBulkEntries entries + 1
  | .held _ => 1
def uptoBulkAll {H : Type} : List (DataW H) → Nat
  | [] => 0
  | d :: r => uptoBulk d + uptoBulkAll r
def uptoBulkEntries {H : Type} : List (Lit × DataW H) → Nat
  | [] => 0
  | x :: r => uptoBulkEntry x + uptoBulkEntries r
def uptoBulkEntry {H : Type} : Lit × DataW H → Nat
  | (.string bytes, d) => bytes.length + uptoBulk d + 1
  | (_, d) => uptoBulk d + 1
 end
def uptoSmall : (H : Type) → List (DataW H) → Bool := fun _ ds => decide (uptoBulkAll ds ≤ 1048576)
def OpenSpec.upto (s : _root_.Go.ChangeSpec) : _root_.Go.OpenSpec := { _root_.Go.OpenSpec.ofChange s with cond := some uptoSmall }

/-- 'laws.FnLacks', WHERE WHAT IT READS IS OF BULK AT MOST 1048576: true; the input reads as it did. -/
def fnLacksUptoRow : OpenClaim := { program := "ytnmofppbijmhoaa", sum := "7ea2bbb556ec275fd7b9195aa39c51ad0039ecdcc33011c39094c7b3dbed22c5", func := "loop.example/g00487/laws.FnLacks", spec := "fnLacks", inPlace := ["internal/bytealg.abigen_runtime_cmpstring"], apart := false, narrowed := true }
def FnLacksUptoSaid : Prop := fnLacksUptoRow.holds Try.pinned (OpenSpec.upto fnLacksSpec)

/-- 'laws.FnJoinEach', WHERE WHAT IT READS IS OF BULK AT MOST 1048576: true; the input reads as it did. -/
def fnJoinEachUptoRow : OpenClaim := { program := "ytnmofppbijmhoaa", sum := "7ea2bbb556ec275fd7b9195aa39c51ad0039ecdcc33011c39094c7b3dbed22c5", func := "loop.example/g00487/laws.FnJoinEach", spec := "fnJoinEach", inPlace := ["internal/bytealg.abigen_runtime_cmpstring"], apart := false, narrowed := true }
def FnJoinEachUptoSaid : Prop := fnJoinEachUptoRow.holds Try.pinned (OpenSpec.upto fnJoinEachSpec)

/-- 'laws.FnSingles', WHERE WHAT IT READS IS OF BULK AT MOST 1048576: true; the input reads as it did. -/
def fnSinglesUptoRow : OpenClaim := { program := "ytnmofppbijmhoaa", sum := "7ea2bbb556ec275fd7b9195aa39c51ad0039ecdcc33011c39094c7b3dbed22c5", func := "loop.example/g00487/laws.FnSingles", spec := "fnSingles", inPlace := ["internal/bytealg.abigen_runtime_cmpstring"], apart := false, narrowed := true }
def FnSinglesUptoSaid : Prop := fnSinglesUptoRow.holds Try.pinned (OpenSpec.upto fnSinglesSpec)

/-- 'laws.FnLeq', WHERE WHAT IT READS IS OF BULK AT MOST 1048576: true; the input reads as it did. -/
def fnLeqUptoRow : OpenClaim := { program := "ytnmofppbijmhoaa", sum := "7ea2bbb556ec275fd7b9195aa39c51ad0039ecdcc33011c39094c7b3dbed22c5", func := "loop.example/g00487/laws.FnLeq", spec := "fnLeq", inPlace := ["internal/bytealg.abigen_runtime_cmpstring"], apart := false, narrowed := true }
def FnLeqUptoSaid : Prop := fnLeqUptoRow.holds Try.pinned (OpenSpec.upto fnLeqSpec)

/-- 'laws.FnLeaves', WHERE WHAT IT READS IS OF BULK AT MOST 1048576: true; the input reads as it did. -/
def fnLeavesUptoRow : OpenClaim := { program := "ytnmofppbijmhoaa", sum := "7ea2bbb556ec275fd7b9195aa39c51ad0039ecdcc33011c39094c7b3dbed22c5", func := "loop.example/g00487/laws.FnLeaves", spec := "fnLeaves", apart := false, narrowed := true }
def FnLeavesUptoSaid : Prop := fnLeavesUptoRow.holds Try.pinned (OpenSpec.upto fnLeavesSpec)

/-- 'laws.FnMaxInc', WHERE WHAT IT READS IS OF BULK AT MOST 1048576: true; the input reads as it did. -/
def fnMaxIncUptoRow : OpenClaim := { program := "ytnmofppbijmhoaa", sum := "7ea2bbb556ec275fd7b9195aa39c51ad0039ecdcc33011c39094c7b3dbed22c5", func := "loop.example/g00487/laws.FnMaxInc", spec := "fnMaxInc", inPlace := ["internal/bytealg.abigen_runtime_cmpstring"], apart := false, narrowed := true }
def FnMaxIncUptoSaid : Prop := fnMaxIncUptoRow.holds Try.pinned (OpenSpec.upto fnMaxIncSpec)

/-- 'laws.FnSaid', WHERE WHAT IT READS IS OF BULK AT MOST 1048576: true; the input reads as it did. -/
def fnSaidUptoRow : OpenClaim := { program := "ytnmofppbijmhoaa", sum := "7ea2bbb556ec275fd7b9195aa39c51ad0039ecdcc33011c39094c7b3dbed22c5", func := "loop.example/g00487/laws.FnSaid", spec := "fnSaid", inPlace := ["internal/bytealg.abigen_runtime_cmpstring"], apart := false, narrowed := true }
def FnSaidUptoSaid : Prop := fnSaidUptoRow.holds Try.pinned (OpenSpec.upto fnSaidSpec)

/-- 'laws.FnSlices', WHERE WHAT IT READS IS OF BULK AT MOST 1048576: true; the input reads as it did. -/
def fnSlicesUptoRow : OpenClaim := { program := "ytnmofppbijmhoaa", sum := "7ea2bbb556ec275fd7b9195aa39c51ad0039ecdcc33011c39094c7b3dbed22c5", func := "loop.example/g00487/laws.FnSlices", spec := "fnSlices", inPlace := ["internal/bytealg.abigen_runtime_cmpstring"], apart := false, narrowed := true }
def FnSlicesUptoSaid : Prop := fnSlicesUptoRow.holds Try.pinned (OpenSpec.upto fnSlicesSpec)

/-- 'laws.FnTouched', WHERE WHAT IT READS IS OF BULK AT MOST 1048576: true; the input reads as it did. -/
def fnTouchedUptoRow : OpenClaim := { program := "ytnmofppbijmhoaa", sum := "7ea2bbb556ec275fd7b9195aa39c51ad0039ecdcc33011c39094c7b3dbed22c5", func := "loop.example/g00487/laws.FnTouched", spec := "fnTouched", inPlace := ["internal/bytealg.abigen_runtime_cmpstring"], apart := false, narrowed := true }
def FnTouchedUptoSaid : Prop := fnTouchedUptoRow.holds Try.pinned (OpenSpec.upto fnTouchedSpec)

end Rows
end Go.Proofs.Ytnmofppbijmhoaa
