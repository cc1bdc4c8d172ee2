/-
  No cell of these rows narrows 'for every input' (looked for: loops, veiled, ifaces, maps, wideKeys, modest, calm, conditions, laid).
  DERIVED. THE GIVEN ROWS OF THIS SEAT. 10 by the template 'for every input the law returns true; each argument reads behind the call as it read before'; 0 by the template 'total and deterministic' (their statements: YtgapdegniepjiaaTotals.lean).
  GIVEN WITH THE SEED: the statements are not yours to turn. If you find one false, say at which input.
  Laid BY PROGRAM, IN A SANDBOX (cutbox-rows.mjs): the forced cells as the released guide's own fill.sh prints them over the translation d2f0ae69d04ee5be… (all of the seat's roots in one cut). By AI agents, Wed Nov 11 2026. No macro, syntax, notation, axiom, sorry.
-/
import Derived.Test.YtgapdegniepjiaaChecked
import GoSem.Claim
import GoSem.ClaimJoined
import GoSem.ClaimMapViews
import Derived.JoinedTies
import Derived.KernelRfl
namespace Go.Proofs.Ytgapdegniepjiaa
/- THE CELL 'sum', in the pinned program and in every row, IS THE sha256 OF THE DUMP (.gsa) THAT YtgapdegniepjiaaProg.lean LOADS. Nothing in Lean hashes anything: it is a label: what it is worth is what the hold of that sum in a sandbox is worth. -/
noncomputable def Try.pinned : Pinned := { name := "ytgapdegniepjiaa", sum := "d2f0ae69d04ee5beac8929a5b3ce0355f4e27d60aa0e5b7717ac31ceea0931fd", checked := Try.checked }
namespace Rows
def none {H : Type} : Left H := { results := [], args := [] }

/-- 'laws.FnExactStateBytes': WHATEVER THE INPUT: true; the input reads as it did. -/
def fnExactStateBytesSpec : ChangeSpec := { name := "fnExactStateBytes", fn := fun _ => fun
  | [d] => { results := [.lit (.bool true)], args := [d] }
  | _ => none }
def fnExactStateBytesRow : OpenClaim := { program := "ytgapdegniepjiaa", sum := "d2f0ae69d04ee5beac8929a5b3ce0355f4e27d60aa0e5b7717ac31ceea0931fd", func := "loop.example/g00487/laws.FnExactStateBytes", spec := "fnExactStateBytes", apart := false }
def FnExactStateBytesSaid : Prop := fnExactStateBytesRow.holds Try.pinned (OpenSpec.ofChange fnExactStateBytesSpec)

/-- ITS FALSE NEIGHBOUR: 'it returns false'. Refute it at one input. -/
def fnExactStateBytesWrong : ChangeSpec := { name := "fnExactStateBytes", fn := fun _ => fun
  | [d] => { results := [.lit (.bool false)], args := [d] }
  | _ => none }
def FnExactStateBytesWrongFalsely : Prop := fnExactStateBytesRow.holds Try.pinned (OpenSpec.ofChange fnExactStateBytesWrong)

/-- 'laws.FnExactLeafSum': WHATEVER THE INPUT: true; the input reads as it did. -/
def fnExactLeafSumSpec : ChangeSpec := { name := "fnExactLeafSum", fn := fun _ => fun
  | [d1, d2] => { results := [.lit (.bool true)], args := [d1, d2] }
  | _ => none }
def fnExactLeafSumRow : OpenClaim := { program := "ytgapdegniepjiaa", sum := "d2f0ae69d04ee5beac8929a5b3ce0355f4e27d60aa0e5b7717ac31ceea0931fd", func := "loop.example/g00487/laws.FnExactLeafSum", spec := "fnExactLeafSum", apart := false }
def FnExactLeafSumSaid : Prop := fnExactLeafSumRow.holds Try.pinned (OpenSpec.ofChange fnExactLeafSumSpec)

/-- ITS FALSE NEIGHBOUR: 'it returns false'. Refute it at one input. -/
def fnExactLeafSumWrong : ChangeSpec := { name := "fnExactLeafSum", fn := fun _ => fun
  | [d1, d2] => { results := [.lit (.bool false)], args := [d1, d2] }
  | _ => none }
def FnExactLeafSumWrongFalsely : Prop := fnExactLeafSumRow.holds Try.pinned (OpenSpec.ofChange fnExactLeafSumWrong)

/-- 'laws.FnExactSayGone': WHATEVER THE INPUT: true; the input reads as it did. -/
def fnExactSayGoneSpec : ChangeSpec := { name := "fnExactSayGone", fn := fun _ => fun
  | [d1, d2] => { results := [.lit (.bool true)], args := [d1, d2] }
  | _ => none }
def fnExactSayGoneRow : OpenClaim := { program := "ytgapdegniepjiaa", sum := "d2f0ae69d04ee5beac8929a5b3ce0355f4e27d60aa0e5b7717ac31ceea0931fd", func := "loop.example/g00487/laws.FnExactSayGone", spec := "fnExactSayGone", apart := false }
def FnExactSayGoneSaid : Prop := fnExactSayGoneRow.holds Try.pinned (OpenSpec.ofChange fnExactSayGoneSpec)

/-- ITS FALSE NEIGHBOUR: 'it returns false'. Refute it at one input. -/
def fnExactSayGoneWrong : ChangeSpec := { name := "fnExactSayGone", fn := fun _ => fun
  | [d1, d2] => { results := [.lit (.bool false)], args := [d1, d2] }
  | _ => none }
def FnExactSayGoneWrongFalsely : Prop := fnExactSayGoneRow.holds Try.pinned (OpenSpec.ofChange fnExactSayGoneWrong)

/-- 'laws.FnExactSayBeat': WHATEVER THE INPUT: true; the input reads as it did. -/
def fnExactSayBeatSpec : ChangeSpec := { name := "fnExactSayBeat", fn := fun _ => fun
  | [d1, d2] => { results := [.lit (.bool true)], args := [d1, d2] }
  | _ => none }
def fnExactSayBeatRow : OpenClaim := { program := "ytgapdegniepjiaa", sum := "d2f0ae69d04ee5beac8929a5b3ce0355f4e27d60aa0e5b7717ac31ceea0931fd", func := "loop.example/g00487/laws.FnExactSayBeat", spec := "fnExactSayBeat", apart := false }
def FnExactSayBeatSaid : Prop := fnExactSayBeatRow.holds Try.pinned (OpenSpec.ofChange fnExactSayBeatSpec)

/-- ITS FALSE NEIGHBOUR: 'it returns false'. Refute it at one input. -/
def fnExactSayBeatWrong : ChangeSpec := { name := "fnExactSayBeat", fn := fun _ => fun
  | [d1, d2] => { results := [.lit (.bool false)], args := [d1, d2] }
  | _ => none }
def FnExactSayBeatWrongFalsely : Prop := fnExactSayBeatRow.holds Try.pinned (OpenSpec.ofChange fnExactSayBeatWrong)

/-- 'laws.FnExactSaySet': WHATEVER THE INPUT: true; the input reads as it did. -/
def fnExactSaySetSpec : ChangeSpec := { name := "fnExactSaySet", fn := fun _ => fun
  | [d1, d2, d3] => { results := [.lit (.bool true)], args := [d1, d2, d3] }
  | _ => none }
def fnExactSaySetRow : OpenClaim := { program := "ytgapdegniepjiaa", sum := "d2f0ae69d04ee5beac8929a5b3ce0355f4e27d60aa0e5b7717ac31ceea0931fd", func := "loop.example/g00487/laws.FnExactSaySet", spec := "fnExactSaySet", apart := false }
def FnExactSaySetSaid : Prop := fnExactSaySetRow.holds Try.pinned (OpenSpec.ofChange fnExactSaySetSpec)

/-- ITS FALSE NEIGHBOUR: 'it returns false'. Refute it at one input. -/
def fnExactSaySetWrong : ChangeSpec := { name := "fnExactSaySet", fn := fun _ => fun
  | [d1, d2, d3] => { results := [.lit (.bool false)], args := [d1, d2, d3] }
  | _ => none }
def FnExactSaySetWrongFalsely : Prop := fnExactSaySetRow.holds Try.pinned (OpenSpec.ofChange fnExactSaySetWrong)

/-- 'laws.FnExactSayJoin': WHATEVER THE INPUT: true; the input reads as it did. -/
def fnExactSayJoinSpec : ChangeSpec := { name := "fnExactSayJoin", fn := fun _ => fun
  | [d1, d2] => { results := [.lit (.bool true)], args := [d1, d2] }
  | _ => none }
def fnExactSayJoinRow : OpenClaim := { program := "ytgapdegniepjiaa", sum := "d2f0ae69d04ee5beac8929a5b3ce0355f4e27d60aa0e5b7717ac31ceea0931fd", func := "loop.example/g00487/laws.FnExactSayJoin", spec := "fnExactSayJoin", apart := false }
def FnExactSayJoinSaid : Prop := fnExactSayJoinRow.holds Try.pinned (OpenSpec.ofChange fnExactSayJoinSpec)

/-- ITS FALSE NEIGHBOUR: 'it returns false'. Refute it at one input. -/
def fnExactSayJoinWrong : ChangeSpec := { name := "fnExactSayJoin", fn := fun _ => fun
  | [d1, d2] => { results := [.lit (.bool false)], args := [d1, d2] }
  | _ => none }
def FnExactSayJoinWrongFalsely : Prop := fnExactSayJoinRow.holds Try.pinned (OpenSpec.ofChange fnExactSayJoinWrong)

/-- 'laws.FnExactLacks': WHATEVER THE INPUT: true; the input reads as it did. -/
def fnExactLacksSpec : ChangeSpec := { name := "fnExactLacks", fn := fun _ => fun
  | [d1, d2] => { results := [.lit (.bool true)], args := [d1, d2] }
  | _ => none }
def fnExactLacksRow : OpenClaim := { program := "ytgapdegniepjiaa", sum := "d2f0ae69d04ee5beac8929a5b3ce0355f4e27d60aa0e5b7717ac31ceea0931fd", func := "loop.example/g00487/laws.FnExactLacks", spec := "fnExactLacks", inPlace := ["internal/bytealg.abigen_runtime_cmpstring"], apart := false }
def FnExactLacksSaid : Prop := fnExactLacksRow.holds Try.pinned (OpenSpec.ofChange fnExactLacksSpec)

/-- ITS FALSE NEIGHBOUR: 'it returns false'. Refute it at one input. -/
def fnExactLacksWrong : ChangeSpec := { name := "fnExactLacks", fn := fun _ => fun
  | [d1, d2] => { results := [.lit (.bool false)], args := [d1, d2] }
  | _ => none }
def FnExactLacksWrongFalsely : Prop := fnExactLacksRow.holds Try.pinned (OpenSpec.ofChange fnExactLacksWrong)

/-- 'laws.FnExactSlice': WHATEVER THE INPUT: true; the input reads as it did. -/
def fnExactSliceSpec : ChangeSpec := { name := "fnExactSlice", fn := fun _ => fun
  | [d1, d2] => { results := [.lit (.bool true)], args := [d1, d2] }
  | _ => none }
def fnExactSliceRow : OpenClaim := { program := "ytgapdegniepjiaa", sum := "d2f0ae69d04ee5beac8929a5b3ce0355f4e27d60aa0e5b7717ac31ceea0931fd", func := "loop.example/g00487/laws.FnExactSlice", spec := "fnExactSlice", apart := false }
def FnExactSliceSaid : Prop := fnExactSliceRow.holds Try.pinned (OpenSpec.ofChange fnExactSliceSpec)

/-- ITS FALSE NEIGHBOUR: 'it returns false'. Refute it at one input. -/
def fnExactSliceWrong : ChangeSpec := { name := "fnExactSlice", fn := fun _ => fun
  | [d1, d2] => { results := [.lit (.bool false)], args := [d1, d2] }
  | _ => none }
def FnExactSliceWrongFalsely : Prop := fnExactSliceRow.holds Try.pinned (OpenSpec.ofChange fnExactSliceWrong)

/-- 'laws.FnExactStateJoin': WHATEVER THE INPUT: true; the input reads as it did. -/
def fnExactStateJoinSpec : ChangeSpec := { name := "fnExactStateJoin", fn := fun _ => fun
  | [d1, d2] => { results := [.lit (.bool true)], args := [d1, d2] }
  | _ => none }
def fnExactStateJoinRow : OpenClaim := { program := "ytgapdegniepjiaa", sum := "d2f0ae69d04ee5beac8929a5b3ce0355f4e27d60aa0e5b7717ac31ceea0931fd", func := "loop.example/g00487/laws.FnExactStateJoin", spec := "fnExactStateJoin", inPlace := ["internal/bytealg.abigen_runtime_cmpstring"], apart := false }
def FnExactStateJoinSaid : Prop := fnExactStateJoinRow.holds Try.pinned (OpenSpec.ofChange fnExactStateJoinSpec)

/-- ITS FALSE NEIGHBOUR: 'it returns false'. Refute it at one input. -/
def fnExactStateJoinWrong : ChangeSpec := { name := "fnExactStateJoin", fn := fun _ => fun
  | [d1, d2] => { results := [.lit (.bool false)], args := [d1, d2] }
  | _ => none }
def FnExactStateJoinWrongFalsely : Prop := fnExactStateJoinRow.holds Try.pinned (OpenSpec.ofChange fnExactStateJoinWrong)

/-- 'laws.FnExactTreeOf': WHATEVER THE INPUT: true; the input reads as it did. -/
def fnExactTreeOfSpec : ChangeSpec := { name := "fnExactTreeOf", fn := fun _ => fun
  | [d] => { results := [.lit (.bool true)], args := [d] }
  | _ => none }
def fnExactTreeOfRow : OpenClaim := { program := "ytgapdegniepjiaa", sum := "d2f0ae69d04ee5beac8929a5b3ce0355f4e27d60aa0e5b7717ac31ceea0931fd", func := "loop.example/g00487/laws.FnExactTreeOf", spec := "fnExactTreeOf", apart := false }
def FnExactTreeOfSaid : Prop := fnExactTreeOfRow.holds Try.pinned (OpenSpec.ofChange fnExactTreeOfSpec)

/-- ITS FALSE NEIGHBOUR: 'it returns false'. Refute it at one input. -/
def fnExactTreeOfWrong : ChangeSpec := { name := "fnExactTreeOf", fn := fun _ => fun
  | [d] => { results := [.lit (.bool false)], args := [d] }
  | _ => none }
def FnExactTreeOfWrongFalsely : Prop := fnExactTreeOfRow.holds Try.pinned (OpenSpec.ofChange fnExactTreeOfWrong)

/- THE SECOND FORM. 'bulk': how many values and letters a reading holds, each counted each time it is reached (what is shared counts as often as it is met; a slice's spare places count too). A statement '..UptoSaid' is the law's where the arguments, and the package variables that the reading takes, are together of bulk at most 1048576: NARROWER than '..Said'. Prove '..Said' where nothing that the law and all that it calls make is longer than what came in: it says more and counts as full. Else prove '..UptoSaid'. A law counts once. -/
mutual
def uptoBulk {H : Type} : DataW H → Nat
  | .lit (.string bytes) => bytes.length + 1
  | .lit _ => 1
  | .nil => 1
  | .ptr d => uptoBulk d + 1
  | .slice elems spare => uptoBulkAll elems + uptoBulkAll spare + 1
  | .agg parts => uptoBulkAll parts + 1
  | .iface _ d => uptoBulk d + 1
  | .map entries => uptoBulkEntries entries + 1
  | .held _ => 1
def uptoBulkAll {H : Type} : List (DataW H) → Nat
  | [] => 0
  | d :: r => uptoBulk d + uptoBulkAll r
def uptoBulkEntries {H : Type} : List (Lit × DataW H) → Nat
  | [] => 0
  | x :: r => uptoBulkEntry x + uptoBulkEntries r
def uptoBulkEntry {H : Type} : Lit × DataW H → Nat
  | (.string bytes, d) => bytes.length + uptoBulk d + 1
  | (_, d) => uptoBulk d + 1
 end
def uptoSmall : (H : Type) → List (DataW H) → Bool := fun _ ds => decide (uptoBulkAll ds ≤ 1048576)
def OpenSpec.upto (s : _root_.Go.ChangeSpec) : _root_.Go.OpenSpec := { _root_.Go.OpenSpec.ofChange s with cond := some uptoSmall }

/-- 'laws.FnExactStateBytes', WHERE WHAT IT READS IS OF BULK AT MOST 1048576: true; the input reads as it did. -/
def fnExactStateBytesUptoRow : OpenClaim := { program := "ytgapdegniepjiaa", sum := "d2f0ae69d04ee5beac8929a5b3ce0355f4e27d60aa0e5b7717ac31ceea0931fd", func := "loop.example/g00487/laws.FnExactStateBytes", spec := "fnExactStateBytes", apart := false, narrowed := true }
def FnExactStateBytesUptoSaid : Prop := fnExactStateBytesUptoRow.holds Try.pinned (OpenSpec.upto fnExactStateBytesSpec)

/-- 'laws.FnExactLeafSum', WHERE WHAT IT READS IS OF BULK AT MOST 1048576: true; the input reads as it did. -/
def fnExactLeafSumUptoRow : OpenClaim := { program := "ytgapdegniepjiaa", sum := "d2f0ae69d04ee5beac8929a5b3ce0355f4e27d60aa0e5b7717ac31ceea0931fd", func := "loop.example/g00487/laws.FnExactLeafSum", spec := "fnExactLeafSum", apart := false, narrowed := true }
def FnExactLeafSumUptoSaid : Prop := fnExactLeafSumUptoRow.holds Try.pinned (OpenSpec.upto fnExactLeafSumSpec)

/-- 'laws.FnExactSayGone', WHERE WHAT IT READS IS OF BULK AT MOST 1048576: true; the input reads as it did. -/
def fnExactSayGoneUptoRow : OpenClaim := { program := "ytgapdegniepjiaa", sum := "d2f0ae69d04ee5beac8929a5b3ce0355f4e27d60aa0e5b7717ac31ceea0931fd", func := "loop.example/g00487/laws.FnExactSayGone", spec := "fnExactSayGone", apart := false, narrowed := true }
def FnExactSayGoneUptoSaid : Prop := fnExactSayGoneUptoRow.holds Try.pinned (OpenSpec.upto fnExactSayGoneSpec)

/-- 'laws.FnExactSayBeat', WHERE WHAT IT READS IS OF BULK AT MOST 1048576: true; the input reads as it did. -/
def fnExactSayBeatUptoRow : OpenClaim := { program := "ytgapdegniepjiaa", sum := "d2f0ae69d04ee5beac8929a5b3ce0355f4e27d60aa0e5b7717ac31ceea0931fd", func := "loop.example/g00487/laws.FnExactSayBeat", spec := "fnExactSayBeat", apart := false, narrowed := true }
def FnExactSayBeatUptoSaid : Prop := fnExactSayBeatUptoRow.holds Try.pinned (OpenSpec.upto fnExactSayBeatSpec)

/-- 'laws.FnExactSaySet', WHERE WHAT IT READS IS OF BULK AT MOST 1048576: true; the input reads as it did. -/
def fnExactSaySetUptoRow : OpenClaim := { program := "ytgapdegniepjiaa", sum := "d2f0ae69d04ee5beac8929a5b3ce0355f4e27d60aa0e5b7717ac31ceea0931fd", func := "loop.example/g00487/laws.FnExactSaySet", spec := "fnExactSaySet", apart := false, narrowed := true }
def FnExactSaySetUptoSaid : Prop := fnExactSaySetUptoRow.holds Try.pinned (OpenSpec.upto fnExactSaySetSpec)

/-- 'laws.FnExactSayJoin', WHERE WHAT IT READS IS OF BULK AT MOST 1048576: true; the input reads as it did. -/
def fnExactSayJoinUptoRow : OpenClaim := { program := "ytgapdegniepjiaa", sum := "d2f0ae69d04ee5beac8929a5b3ce0355f4e27d60aa0e5b7717ac31ceea0931fd", func := "loop.example/g00487/laws.FnExactSayJoin", spec := "fnExactSayJoin", apart := false, narrowed := true }
def FnExactSayJoinUptoSaid : Prop := fnExactSayJoinUptoRow.holds Try.pinned (OpenSpec.upto fnExactSayJoinSpec)

/-- 'laws.FnExactLacks', WHERE WHAT IT READS IS OF BULK AT MOST 1048576: true; the input reads as it did. -/
def fnExactLacksUptoRow : OpenClaim := { program := "ytgapdegniepjiaa", sum := "d2f0ae69d04ee5beac8929a5b3ce0355f4e27d60aa0e5b7717ac31ceea0931fd", func := "loop.example/g00487/laws.FnExactLacks", spec := "fnExactLacks", inPlace := ["internal/bytealg.abigen_runtime_cmpstring"], apart := false, narrowed := true }
def FnExactLacksUptoSaid : Prop := fnExactLacksUptoRow.holds Try.pinned (OpenSpec.upto fnExactLacksSpec)

/-- 'laws.FnExactSlice', WHERE WHAT IT READS IS OF BULK AT MOST 1048576: true; the input reads as it did. -/
def fnExactSliceUptoRow : OpenClaim := { program := "ytgapdegniepjiaa", sum := "d2f0ae69d04ee5beac8929a5b3ce0355f4e27d60aa0e5b7717ac31ceea0931fd", func := "loop.example/g00487/laws.FnExactSlice", spec := "fnExactSlice", apart := false, narrowed := true }
def FnExactSliceUptoSaid : Prop := fnExactSliceUptoRow.holds Try.pinned (OpenSpec.upto fnExactSliceSpec)

/-- 'laws.FnExactStateJoin', WHERE WHAT IT READS IS OF BULK AT MOST 1048576: true; the input reads as it did. -/
def fnExactStateJoinUptoRow : OpenClaim := { program := "ytgapdegniepjiaa", sum := "d2f0ae69d04ee5beac8929a5b3ce0355f4e27d60aa0e5b7717ac31ceea0931fd", func := "loop.example/g00487/laws.FnExactStateJoin", spec := "fnExactStateJoin", inPlace := ["internal/bytealg.abigen_runtime_cmpstring"], apart := false, narrowed := true }
def FnExactStateJoinUptoSaid : Prop := fnExactStateJoinUptoRow.holds Try.pinned (OpenSpec.upto fnExactStateJoinSpec)

/-- 'laws.FnExactTreeOf', WHERE WHAT IT READS IS OF BULK AT MOST 1048576: true; the input reads as it did. -/
def fnExactTreeOfUptoRow : OpenClaim := { program := "ytgapdegniepjiaa", sum := "d2f0ae69d04ee5beac8929a5b3ce0355f4e27d60aa0e5b7717ac31ceea0931fd", func := "loop.example/g00487/laws.FnExactTreeOf", spec := "fnExactTreeOf", apart := false, narrowed := true }
def FnExactTreeOfUptoSaid : Prop := fnExactTreeOfUptoRow.holds Try.pinned (OpenSpec.upto fnExactTreeOfSpec)

end Rows
end Go.Proofs.Ytgapdegniepjiaa
