/- What the rows list of the library's variables: the table that Itoa reads stands in each world that meets the list, and one such world is shown. No condition. -/
import Derived.Test.YtomlglpmljngfaaDoorRows
import Derived.Test.YtomlglpmljngfaaDoorHandIo
import Derived.Stop.LaidErr
import Derived.Lib.LaidTab
import Derived.LaidLaws
import Derived.SevenTiedAt
namespace Go.Proofs.YtomlglpmljngfaaDoor.Laid
open Go.RowKit
def tabs : List (String × DataW Unit) := [("math/bits.deBruijn32tab", Rows.laid_math_bits_deBruijn32tab), ("math/bits.deBruijn64tab", Rows.laid_math_bits_deBruijn64tab), ("internal/strconv.uint64pow10", Rows.laid_internal_strconv_uint64pow10)]
theorem ti {W : World} (h : laidMet Tryd.prog tabs W) : HandIo.TI W :=
  Lib.tabIs_of_head (name := "internal/strconv.uint64pow10") (k := .u64) (zs := Lib.pow10Tab) (g := 2) (t := 146) (e := 124) (n := 20) (by kernel_rfl) (by kernel_rfl) Tryd.underlying146 Tryd.underlying124 (by kernel_rfl) (by kernel_rfl) (laidMet.tail (laidMet.tail h))
/-- A listed table's cells. -/
def cellsOf : DataW Unit → Array Value
  | .agg l => (l.map fun | .lit (.int k z) => Value.int k z | _ => Value.bool false).toArray
  | _ => #[]
/-- The settled world with the three tables as their initialisers lay them. -/
noncomputable def laidWorld (os : Os) : World :=
  let w0 := World.holding Tryd.prog os ⟨#[], #[], []⟩
  { w0 with heap := ((w0.heap.modify 6 fun
      | .cells _ t frozen => .cells (cellsOf Rows.laid_math_bits_deBruijn32tab) t frozen
      | o => o).modify 7 fun
      | .cells _ t frozen => .cells (cellsOf Rows.laid_math_bits_deBruijn64tab) t frozen
      | o => o).modify 2 fun
      | .cells _ t frozen => .cells (cellsOf Rows.laid_internal_strconv_uint64pow10) t frozen
      | o => o }
theorem laid_met (os : Os) (args : Array Value) : laidMet Tryd.prog tabs ((laidWorld os).forCall (fun _ _ => 0) ⟨#[], args, []⟩).memory :=
  laidMet_of_run' 8 (by kernel_rfl) (by kernel_rfl)
/-- No parameter of these types wants a stand-in. -/
theorem noStandIn {ps : Array TypeId} {f : Nat → Option TypeId} (h : ∀ (j : Nat) t, f j = some t → ps[j]? = some t) (hp : ps.all (fun t => !Tryd.prog.wantsStandIn t) = true) (j : Nat) (t : TypeId) (ht : f j = some t) : Tryd.prog.wantsStandIn t = false := by
  have hm := Array.mem_of_getElem? (h j t ht)
  have := (Array.all_eq_true'.1 hp) t hm
  simpa using this
end Go.Proofs.YtomlglpmljngfaaDoor.Laid
