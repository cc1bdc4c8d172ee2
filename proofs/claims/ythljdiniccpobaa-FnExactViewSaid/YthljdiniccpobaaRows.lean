/-
  No cell of these rows narrows 'for every input' (looked for: loops, veiled, ifaces, maps, wideKeys, modest, calm, conditions, laid).
  DERIVED. THE GIVEN ROWS OF THIS SEAT. 12 by the template 'for every input the law returns true; each argument reads behind the call as it read before'; 0 by the template 'total and deterministic' (their statements: YthljdiniccpobaaTotals.lean).
  GIVEN WITH THE SEED: the statements are not yours to turn. If you find one false, say at which input.
  Laid BY PROGRAM, IN A SANDBOX (cutbox-rows.mjs): the forced cells as the released guide's own fill.sh prints them over the translation c601101cbb5a19ed… (all of the seat's roots in one cut). By AI agents, Wed Nov 11 2026. No macro, syntax, notation, axiom, sorry.
-/
import Derived.Test.YthljdiniccpobaaChecked
import GoSem.Claim
import GoSem.ClaimJoined
import GoSem.ClaimMapViews
import Derived.JoinedTies
import Derived.KernelRfl
namespace Go.Proofs.Ythljdiniccpobaa
/- THE CELL 'sum', in the pinned program and in every row, IS THE sha256 OF THE DUMP (.gsa) THAT YthljdiniccpobaaProg.lean LOADS. Nothing in Lean hashes anything: it is a label: what it is worth is what the hold of that sum in a sandbox is worth. -/
noncomputable def Try.pinned : Pinned := { name := "ythljdiniccpobaa", sum := "c601101cbb5a19ed0c789bdfb0366fd42618c9b1efccf20bee433edaa38b9f3f", checked := Try.checked }
namespace Rows
def none {H : Type} : Left H := { results := [], args := [] }

/-- 'laws.FnExactEntryMax': WHATEVER THE INPUT: true; the input reads as it did. -/
def fnExactEntryMaxSpec : ChangeSpec := { name := "fnExactEntryMax", fn := fun _ => fun
  | [d1, d2] => { results := [.lit (.bool true)], args := [d1, d2] }
  | _ => none }
def fnExactEntryMaxRow : OpenClaim := { program := "ythljdiniccpobaa", sum := "c601101cbb5a19ed0c789bdfb0366fd42618c9b1efccf20bee433edaa38b9f3f", func := "loop.example/g00487/laws.FnExactEntryMax", spec := "fnExactEntryMax", inPlace := ["internal/bytealg.abigen_runtime_cmpstring"], apart := false }
def FnExactEntryMaxSaid : Prop := fnExactEntryMaxRow.holds Try.pinned (OpenSpec.ofChange fnExactEntryMaxSpec)

/-- ITS FALSE NEIGHBOUR: 'it returns false'. Refute it at one input. -/
def fnExactEntryMaxWrong : ChangeSpec := { name := "fnExactEntryMax", fn := fun _ => fun
  | [d1, d2] => { results := [.lit (.bool false)], args := [d1, d2] }
  | _ => none }
def FnExactEntryMaxWrongFalsely : Prop := fnExactEntryMaxRow.holds Try.pinned (OpenSpec.ofChange fnExactEntryMaxWrong)

/-- 'laws.FnNumbers': WHATEVER THE INPUT: true; the input reads as it did. -/
def fnNumbersSpec : ChangeSpec := { name := "fnNumbers", fn := fun _ => fun
  | [d] => { results := [.lit (.bool true)], args := [d] }
  | _ => none }
def fnNumbersRow : OpenClaim := { program := "ythljdiniccpobaa", sum := "c601101cbb5a19ed0c789bdfb0366fd42618c9b1efccf20bee433edaa38b9f3f", func := "loop.example/g00487/laws.FnNumbers", spec := "fnNumbers", apart := false }
def FnNumbersSaid : Prop := fnNumbersRow.holds Try.pinned (OpenSpec.ofChange fnNumbersSpec)

/-- ITS FALSE NEIGHBOUR: 'it returns false'. Refute it at one input. -/
def fnNumbersWrong : ChangeSpec := { name := "fnNumbers", fn := fun _ => fun
  | [d] => { results := [.lit (.bool false)], args := [d] }
  | _ => none }
def FnNumbersWrongFalsely : Prop := fnNumbersRow.holds Try.pinned (OpenSpec.ofChange fnNumbersWrong)

/-- 'laws.FnOrder': WHATEVER THE INPUT: true; the input reads as it did. -/
def fnOrderSpec : ChangeSpec := { name := "fnOrder", fn := fun _ => fun
  | [d] => { results := [.lit (.bool true)], args := [d] }
  | _ => none }
def fnOrderRow : OpenClaim := { program := "ythljdiniccpobaa", sum := "c601101cbb5a19ed0c789bdfb0366fd42618c9b1efccf20bee433edaa38b9f3f", func := "loop.example/g00487/laws.FnOrder", spec := "fnOrder", inPlace := ["internal/bytealg.abigen_runtime_cmpstring"], apart := false }
def FnOrderSaid : Prop := fnOrderRow.holds Try.pinned (OpenSpec.ofChange fnOrderSpec)

/-- ITS FALSE NEIGHBOUR: 'it returns false'. Refute it at one input. -/
def fnOrderWrong : ChangeSpec := { name := "fnOrder", fn := fun _ => fun
  | [d] => { results := [.lit (.bool false)], args := [d] }
  | _ => none }
def FnOrderWrongFalsely : Prop := fnOrderRow.holds Try.pinned (OpenSpec.ofChange fnOrderWrong)

/-- 'laws.FnExactEntryOf': WHATEVER THE INPUT: true; the input reads as it did. -/
def fnExactEntryOfSpec : ChangeSpec := { name := "fnExactEntryOf", fn := fun _ => fun
  | [d1, d2] => { results := [.lit (.bool true)], args := [d1, d2] }
  | _ => none }
def fnExactEntryOfRow : OpenClaim := { program := "ythljdiniccpobaa", sum := "c601101cbb5a19ed0c789bdfb0366fd42618c9b1efccf20bee433edaa38b9f3f", func := "loop.example/g00487/laws.FnExactEntryOf", spec := "fnExactEntryOf", apart := false }
def FnExactEntryOfSaid : Prop := fnExactEntryOfRow.holds Try.pinned (OpenSpec.ofChange fnExactEntryOfSpec)

/-- ITS FALSE NEIGHBOUR: 'it returns false'. Refute it at one input. -/
def fnExactEntryOfWrong : ChangeSpec := { name := "fnExactEntryOf", fn := fun _ => fun
  | [d1, d2] => { results := [.lit (.bool false)], args := [d1, d2] }
  | _ => none }
def FnExactEntryOfWrongFalsely : Prop := fnExactEntryOfRow.holds Try.pinned (OpenSpec.ofChange fnExactEntryOfWrong)

/-- 'laws.FnExactFloorOf': WHATEVER THE INPUT: true; the input reads as it did. -/
def fnExactFloorOfSpec : ChangeSpec := { name := "fnExactFloorOf", fn := fun _ => fun
  | [d1, d2] => { results := [.lit (.bool true)], args := [d1, d2] }
  | _ => none }
def fnExactFloorOfRow : OpenClaim := { program := "ythljdiniccpobaa", sum := "c601101cbb5a19ed0c789bdfb0366fd42618c9b1efccf20bee433edaa38b9f3f", func := "loop.example/g00487/laws.FnExactFloorOf", spec := "fnExactFloorOf", apart := false }
def FnExactFloorOfSaid : Prop := fnExactFloorOfRow.holds Try.pinned (OpenSpec.ofChange fnExactFloorOfSpec)

/-- ITS FALSE NEIGHBOUR: 'it returns false'. Refute it at one input. -/
def fnExactFloorOfWrong : ChangeSpec := { name := "fnExactFloorOf", fn := fun _ => fun
  | [d1, d2] => { results := [.lit (.bool false)], args := [d1, d2] }
  | _ => none }
def FnExactFloorOfWrongFalsely : Prop := fnExactFloorOfRow.holds Try.pinned (OpenSpec.ofChange fnExactFloorOfWrong)

/-- 'laws.FnExactStateSame': WHATEVER THE INPUT: true; the input reads as it did. -/
def fnExactStateSameSpec : ChangeSpec := { name := "fnExactStateSame", fn := fun _ => fun
  | [d1, d2] => { results := [.lit (.bool true)], args := [d1, d2] }
  | _ => none }
def fnExactStateSameRow : OpenClaim := { program := "ythljdiniccpobaa", sum := "c601101cbb5a19ed0c789bdfb0366fd42618c9b1efccf20bee433edaa38b9f3f", func := "loop.example/g00487/laws.FnExactStateSame", spec := "fnExactStateSame", apart := false }
def FnExactStateSameSaid : Prop := fnExactStateSameRow.holds Try.pinned (OpenSpec.ofChange fnExactStateSameSpec)

/-- ITS FALSE NEIGHBOUR: 'it returns false'. Refute it at one input. -/
def fnExactStateSameWrong : ChangeSpec := { name := "fnExactStateSame", fn := fun _ => fun
  | [d1, d2] => { results := [.lit (.bool false)], args := [d1, d2] }
  | _ => none }
def FnExactStateSameWrongFalsely : Prop := fnExactStateSameRow.holds Try.pinned (OpenSpec.ofChange fnExactStateSameWrong)

/-- 'laws.FnExactStateOk': WHATEVER THE INPUT: true; the input reads as it did. -/
def fnExactStateOkSpec : ChangeSpec := { name := "fnExactStateOk", fn := fun _ => fun
  | [d] => { results := [.lit (.bool true)], args := [d] }
  | _ => none }
def fnExactStateOkRow : OpenClaim := { program := "ythljdiniccpobaa", sum := "c601101cbb5a19ed0c789bdfb0366fd42618c9b1efccf20bee433edaa38b9f3f", func := "loop.example/g00487/laws.FnExactStateOk", spec := "fnExactStateOk", apart := false }
def FnExactStateOkSaid : Prop := fnExactStateOkRow.holds Try.pinned (OpenSpec.ofChange fnExactStateOkSpec)

/-- ITS FALSE NEIGHBOUR: 'it returns false'. Refute it at one input. -/
def fnExactStateOkWrong : ChangeSpec := { name := "fnExactStateOk", fn := fun _ => fun
  | [d] => { results := [.lit (.bool false)], args := [d] }
  | _ => none }
def FnExactStateOkWrongFalsely : Prop := fnExactStateOkRow.holds Try.pinned (OpenSpec.ofChange fnExactStateOkWrong)

/-- 'laws.FnExactSingle': WHATEVER THE INPUT: true; the input reads as it did. -/
def fnExactSingleSpec : ChangeSpec := { name := "fnExactSingle", fn := fun _ => fun
  | [d1, d2] => { results := [.lit (.bool true)], args := [d1, d2] }
  | _ => none }
def fnExactSingleRow : OpenClaim := { program := "ythljdiniccpobaa", sum := "c601101cbb5a19ed0c789bdfb0366fd42618c9b1efccf20bee433edaa38b9f3f", func := "loop.example/g00487/laws.FnExactSingle", spec := "fnExactSingle", apart := false }
def FnExactSingleSaid : Prop := fnExactSingleRow.holds Try.pinned (OpenSpec.ofChange fnExactSingleSpec)

/-- ITS FALSE NEIGHBOUR: 'it returns false'. Refute it at one input. -/
def fnExactSingleWrong : ChangeSpec := { name := "fnExactSingle", fn := fun _ => fun
  | [d1, d2] => { results := [.lit (.bool false)], args := [d1, d2] }
  | _ => none }
def FnExactSingleWrongFalsely : Prop := fnExactSingleRow.holds Try.pinned (OpenSpec.ofChange fnExactSingleWrong)

/-- 'laws.FnExactGoneAt': WHATEVER THE INPUT: true; the input reads as it did. -/
def fnExactGoneAtSpec : ChangeSpec := { name := "fnExactGoneAt", fn := fun _ => fun
  | [d1, d2] => { results := [.lit (.bool true)], args := [d1, d2] }
  | _ => none }
def fnExactGoneAtRow : OpenClaim := { program := "ythljdiniccpobaa", sum := "c601101cbb5a19ed0c789bdfb0366fd42618c9b1efccf20bee433edaa38b9f3f", func := "loop.example/g00487/laws.FnExactGoneAt", spec := "fnExactGoneAt", apart := false }
def FnExactGoneAtSaid : Prop := fnExactGoneAtRow.holds Try.pinned (OpenSpec.ofChange fnExactGoneAtSpec)

/-- ITS FALSE NEIGHBOUR: 'it returns false'. Refute it at one input. -/
def fnExactGoneAtWrong : ChangeSpec := { name := "fnExactGoneAt", fn := fun _ => fun
  | [d1, d2] => { results := [.lit (.bool false)], args := [d1, d2] }
  | _ => none }
def FnExactGoneAtWrongFalsely : Prop := fnExactGoneAtRow.holds Try.pinned (OpenSpec.ofChange fnExactGoneAtWrong)

/-- 'laws.FnExactLookup': WHATEVER THE INPUT: true; the input reads as it did. -/
def fnExactLookupSpec : ChangeSpec := { name := "fnExactLookup", fn := fun _ => fun
  | [d1, d2] => { results := [.lit (.bool true)], args := [d1, d2] }
  | _ => none }
def fnExactLookupRow : OpenClaim := { program := "ythljdiniccpobaa", sum := "c601101cbb5a19ed0c789bdfb0366fd42618c9b1efccf20bee433edaa38b9f3f", func := "loop.example/g00487/laws.FnExactLookup", spec := "fnExactLookup", apart := false }
def FnExactLookupSaid : Prop := fnExactLookupRow.holds Try.pinned (OpenSpec.ofChange fnExactLookupSpec)

/-- ITS FALSE NEIGHBOUR: 'it returns false'. Refute it at one input. -/
def fnExactLookupWrong : ChangeSpec := { name := "fnExactLookup", fn := fun _ => fun
  | [d1, d2] => { results := [.lit (.bool false)], args := [d1, d2] }
  | _ => none }
def FnExactLookupWrongFalsely : Prop := fnExactLookupRow.holds Try.pinned (OpenSpec.ofChange fnExactLookupWrong)

/-- 'laws.FnExactView': WHATEVER THE INPUT: true; the input reads as it did. -/
def fnExactViewSpec : ChangeSpec := { name := "fnExactView", fn := fun _ => fun
  | [d] => { results := [.lit (.bool true)], args := [d] }
  | _ => none }
def fnExactViewRow : OpenClaim := { program := "ythljdiniccpobaa", sum := "c601101cbb5a19ed0c789bdfb0366fd42618c9b1efccf20bee433edaa38b9f3f", func := "loop.example/g00487/laws.FnExactView", spec := "fnExactView", apart := false }
def FnExactViewSaid : Prop := fnExactViewRow.holds Try.pinned (OpenSpec.ofChange fnExactViewSpec)

/-- ITS FALSE NEIGHBOUR: 'it returns false'. Refute it at one input. -/
def fnExactViewWrong : ChangeSpec := { name := "fnExactView", fn := fun _ => fun
  | [d] => { results := [.lit (.bool false)], args := [d] }
  | _ => none }
def FnExactViewWrongFalsely : Prop := fnExactViewRow.holds Try.pinned (OpenSpec.ofChange fnExactViewWrong)

/-- 'laws.FnExactStateLeq': WHATEVER THE INPUT: true; the input reads as it did. -/
def fnExactStateLeqSpec : ChangeSpec := { name := "fnExactStateLeq", fn := fun _ => fun
  | [d1, d2] => { results := [.lit (.bool true)], args := [d1, d2] }
  | _ => none }
def fnExactStateLeqRow : OpenClaim := { program := "ythljdiniccpobaa", sum := "c601101cbb5a19ed0c789bdfb0366fd42618c9b1efccf20bee433edaa38b9f3f", func := "loop.example/g00487/laws.FnExactStateLeq", spec := "fnExactStateLeq", inPlace := ["internal/bytealg.abigen_runtime_cmpstring"], apart := false }
def FnExactStateLeqSaid : Prop := fnExactStateLeqRow.holds Try.pinned (OpenSpec.ofChange fnExactStateLeqSpec)

/-- ITS FALSE NEIGHBOUR: 'it returns false'. Refute it at one input. -/
def fnExactStateLeqWrong : ChangeSpec := { name := "fnExactStateLeq", fn := fun _ => fun
  | [d1, d2] => { results := [.lit (.bool false)], args := [d1, d2] }
  | _ => none }
def FnExactStateLeqWrongFalsely : Prop := fnExactStateLeqRow.holds Try.pinned (OpenSpec.ofChange fnExactStateLeqWrong)

/- THE SECOND FORM. 'bulk': how many values and letters a reading holds, each counted each time it is reached (what is shared counts as often as it is met; a slice's spare places count too). A statement '..UptoSaid' is the law's where the arguments, and the package variables that the reading takes, are together of bulk at most 1048576: NARROWER than '..Said'. Prove '..Said' where nothing that the law and all that it calls make is longer than what came in: it says more and counts as full. Else prove '..UptoSaid'. A law counts once. -/
mutual
def uptoBulk {H : Type} : DataW H → Nat
  | .lit (.string bytes) => bytes.length + 1
  | .lit _ => 1
  | .nil => 1
  | .ptr d => uptoBulk d + 1
  | .slice elems spare => uptoBulkAll elems + uptoBulkAll spare + 1
  | .agg parts => uptoBulkAll parts + 1
  | .iface _ d => uptoBulk d + 1
  | .map entries => uptoBulkEntries entries + 1
  | .held _ => 1
def uptoBulkAll {H : Type} : List (DataW H) → Nat
  | [] => 0
  | d :: r => uptoBulk d + uptoBulkAll r
def uptoBulkEntries {H : Type} : List (Lit × DataW H) → Nat
  | [] => 0
  | x :: r => uptoBulkEntry x + uptoBulkEntries r
def uptoBulkEntry {H : Type} : Lit × DataW H → Nat
  | (.string bytes, d) => bytes.length + uptoBulk d + 1
  | (_, d) => uptoBulk d + 1
 end
def uptoSmall : (H : Type) → List (DataW H) → Bool := fun _ ds => decide (uptoBulkAll ds ≤ 1048576)
def OpenSpec.upto (s : _root_.Go.ChangeSpec) : _root_.Go.OpenSpec := { _root_.Go.OpenSpec.ofChange s with cond := some uptoSmall }

/-- 'laws.FnExactEntryMax', WHERE WHAT IT READS IS OF BULK AT MOST 1048576: true; the input reads as it did. -/
def fnExactEntryMaxUptoRow : OpenClaim := { program := "ythljdiniccpobaa", sum := "c601101cbb5a19ed0c789bdfb0366fd42618c9b1efccf20bee433edaa38b9f3f", func := "loop.example/g00487/laws.FnExactEntryMax", spec := "fnExactEntryMax", inPlace := ["internal/bytealg.abigen_runtime_cmpstring"], apart := false, narrowed := true }
def FnExactEntryMaxUptoSaid : Prop := fnExactEntryMaxUptoRow.holds Try.pinned (OpenSpec.upto fnExactEntryMaxSpec)

/-- 'laws.FnNumbers', WHERE WHAT IT READS IS OF BULK AT MOST 1048576: true; the input reads as it did. -/
def fnNumbersUptoRow : OpenClaim := { program := "ythljdiniccpobaa", sum := "c601101cbb5a19ed0c789bdfb0366fd42618c9b1efccf20bee433edaa38b9f3f", func := "loop.example/g00487/laws.FnNumbers", spec := "fnNumbers", apart := false, narrowed := true }
def FnNumbersUptoSaid : Prop := fnNumbersUptoRow.holds Try.pinned (OpenSpec.upto fnNumbersSpec)

/-- 'laws.FnOrder', WHERE WHAT IT READS IS OF BULK AT MOST 1048576: true; the input reads as it did. -/
def fnOrderUptoRow : OpenClaim := { program := "ythljdiniccpobaa", sum := "c601101cbb5a19ed0c789bdfb0366fd42618c9b1efccf20bee433edaa38b9f3f", func := "loop.example/g00487/laws.FnOrder", spec := "fnOrder", inPlace := ["internal/bytealg.abigen_runtime_cmpstring"], apart := false, narrowed := true }
def FnOrderUptoSaid : Prop := fnOrderUptoRow.holds Try.pinned (OpenSpec.upto fnOrderSpec)

/-- 'laws.FnExactEntryOf', WHERE WHAT IT READS IS OF BULK AT MOST 1048576: true; the input reads as it did. -/
def fnExactEntryOfUptoRow : OpenClaim := { program := "ythljdiniccpobaa", sum := "c601101cbb5a19ed0c789bdfb0366fd42618c9b1efccf20bee433edaa38b9f3f", func := "loop.example/g00487/laws.FnExactEntryOf", spec := "fnExactEntryOf", apart := false, narrowed := true }
def FnExactEntryOfUptoSaid : Prop := fnExactEntryOfUptoRow.holds Try.pinned (OpenSpec.upto fnExactEntryOfSpec)

/-- 'laws.FnExactFloorOf', WHERE WHAT IT READS IS OF BULK AT MOST 1048576: true; the input reads as it did. -/
def fnExactFloorOfUptoRow : OpenClaim := { program := "ythljdiniccpobaa", sum := "c601101cbb5a19ed0c789bdfb0366fd42618c9b1efccf20bee433edaa38b9f3f", func := "loop.example/g00487/laws.FnExactFloorOf", spec := "fnExactFloorOf", apart := false, narrowed := true }
def FnExactFloorOfUptoSaid : Prop := fnExactFloorOfUptoRow.holds Try.pinned (OpenSpec.upto fnExactFloorOfSpec)

/-- 'laws.FnExactStateSame', WHERE WHAT IT READS IS OF BULK AT MOST 1048576: true; the input reads as it did. -/
def fnExactStateSameUptoRow : OpenClaim := { program := "ythljdiniccpobaa", sum := "c601101cbb5a19ed0c789bdfb0366fd42618c9b1efccf20bee433edaa38b9f3f", func := "loop.example/g00487/laws.FnExactStateSame", spec := "fnExactStateSame", apart := false, narrowed := true }
def FnExactStateSameUptoSaid : Prop := fnExactStateSameUptoRow.holds Try.pinned (OpenSpec.upto fnExactStateSameSpec)

/-- 'laws.FnExactStateOk', WHERE WHAT IT READS IS OF BULK AT MOST 1048576: true; the input reads as it did. -/
def fnExactStateOkUptoRow : OpenClaim := { program := "ythljdiniccpobaa", sum := "c601101cbb5a19ed0c789bdfb0366fd42618c9b1efccf20bee433edaa38b9f3f", func := "loop.example/g00487/laws.FnExactStateOk", spec := "fnExactStateOk", apart := false, narrowed := true }
def FnExactStateOkUptoSaid : Prop := fnExactStateOkUptoRow.holds Try.pinned (OpenSpec.upto fnExactStateOkSpec)

/-- 'laws.FnExactSingle', WHERE WHAT IT READS IS OF BULK AT MOST 1048576: true; the input reads as it did. -/
def fnExactSingleUptoRow : OpenClaim := { program := "ythljdiniccpobaa", sum := "c601101cbb5a19ed0c789bdfb0366fd42618c9b1efccf20bee433edaa38b9f3f", func := "loop.example/g00487/laws.FnExactSingle", spec := "fnExactSingle", apart := false, narrowed := true }
def FnExactSingleUptoSaid : Prop := fnExactSingleUptoRow.holds Try.pinned (OpenSpec.upto fnExactSingleSpec)

/-- 'laws.FnExactGoneAt', WHERE WHAT IT READS IS OF BULK AT MOST 1048576: true; the input reads as it did. -/
def fnExactGoneAtUptoRow : OpenClaim := { program := "ythljdiniccpobaa", sum := "c601101cbb5a19ed0c789bdfb0366fd42618c9b1efccf20bee433edaa38b9f3f", func := "loop.example/g00487/laws.FnExactGoneAt", spec := "fnExactGoneAt", apart := false, narrowed := true }
def FnExactGoneAtUptoSaid : Prop := fnExactGoneAtUptoRow.holds Try.pinned (OpenSpec.upto fnExactGoneAtSpec)

/-- 'laws.FnExactLookup', WHERE WHAT IT READS IS OF BULK AT MOST 1048576: true; the input reads as it did. -/
def fnExactLookupUptoRow : OpenClaim := { program := "ythljdiniccpobaa", sum := "c601101cbb5a19ed0c789bdfb0366fd42618c9b1efccf20bee433edaa38b9f3f", func := "loop.example/g00487/laws.FnExactLookup", spec := "fnExactLookup", apart := false, narrowed := true }
def FnExactLookupUptoSaid : Prop := fnExactLookupUptoRow.holds Try.pinned (OpenSpec.upto fnExactLookupSpec)

/-- 'laws.FnExactView', WHERE WHAT IT READS IS OF BULK AT MOST 1048576: true; the input reads as it did. -/
def fnExactViewUptoRow : OpenClaim := { program := "ythljdiniccpobaa", sum := "c601101cbb5a19ed0c789bdfb0366fd42618c9b1efccf20bee433edaa38b9f3f", func := "loop.example/g00487/laws.FnExactView", spec := "fnExactView", apart := false, narrowed := true }
def FnExactViewUptoSaid : Prop := fnExactViewUptoRow.holds Try.pinned (OpenSpec.upto fnExactViewSpec)

/-- 'laws.FnExactStateLeq', WHERE WHAT IT READS IS OF BULK AT MOST 1048576: true; the input reads as it did. -/
def fnExactStateLeqUptoRow : OpenClaim := { program := "ythljdiniccpobaa", sum := "c601101cbb5a19ed0c789bdfb0366fd42618c9b1efccf20bee433edaa38b9f3f", func := "loop.example/g00487/laws.FnExactStateLeq", spec := "fnExactStateLeq", inPlace := ["internal/bytealg.abigen_runtime_cmpstring"], apart := false, narrowed := true }
def FnExactStateLeqUptoSaid : Prop := fnExactStateLeqUptoRow.holds Try.pinned (OpenSpec.upto fnExactStateLeqSpec)

end Rows
end Go.Proofs.Ythljdiniccpobaa
