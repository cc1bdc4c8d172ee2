/- What strconv.Itoa, strings.Join and strings.Split do at this program, in the walks' own form; what the library's variables hold stays as it is. No condition but each theorem's own. -/
import Derived.Test.YtomlglpmljngfaaDoorHandLib
import Derived.Test.YtomlglpmljngfaaDoorZ
import Derived.Lib.SmallJoins
import Derived.Lib.AppendIntMem
namespace Go.Proofs.YtomlglpmljngfaaDoor.HandIo
open Go.RowKit Go.Proofs.YtomlglpmljngfaaDoorW.PrintWords Go.Proofs.YtomlglpmljngfaaDoorW.PrintLast Go.Proofs.YtomlglpmljngfaaDoor.Z
/-- The table that Itoa reads. -/
def TI (w : World) : Prop := Lib.TabIs Tryd.prog w "internal/strconv.uint64pow10" .u64 Lib.pow10Tab
/-- The variable that Split reads. -/
def TS (w : World) : Prop := ∃ m, w.cell? ⟨3, 0, none⟩ = some (.int .i64 m)
theorem pow10_named : ∃ g, Tryd.prog.globalNamed "internal/strconv.uint64pow10" = some g := Option.isSome_iff_exists.1 (by kernel_rfl)
theorem TI.below {w w' : World} (h : TI w) (b : Below w.heap.size w w') : TI w' := by
  obtain ⟨g, hg⟩ := pow10_named
  exact Joins.tab_stays hg h b (Nat.le_refl _)
theorem TS.below {w w' : World} (h : TS w) (b : Below w.heap.size w w') : TS w' := by
  obtain ⟨m, hm⟩ := h
  exact ⟨m, (b.cell (World.block_lt_of_cell? w _ hm)).trans hm⟩
theorem itoa (n : Int) (h0 : -9223372036854775808 ≤ n) (h1 : n ≤ 9223372036854775807) (w : World) (hT : TI w) :
    Calls Tryd.prog 37 #[.int .i64 n] w fun e w' => e = .returned (.string ⟨(Lib.itoa n).toArray⟩) ∧ Below w.heap.size w w' := by
  refine (HandLib.strconv_Itoa n h0 h1 w hT).mono ?_
  rintro e w' ⟨rfl, k, os, rfl⟩
  exact ⟨rfl, Lib.below_grow _ _ (Nat.le_refl _) k os⟩
theorem join (A : Option Addr) (c : Nat) (l : List ByteArray) (s : ByteArray) (w : World) (hr : Kd.C Kd.string w A l.length l) (hc : l.length ≤ c) (hN : l.length ≤ 140737488355328) (hl : (Lib.join (l.map (·.data.toList)) s.data.toList).length ≤ 140737488355328) :
    Calls Tryd.prog 44 #[.slice A l.length c, .string s] w fun e w' => e = .returned (.string ⟨(Lib.join (l.map (·.data.toList)) s.data.toList).toArray⟩) ∧ Below w.heap.size w w' := by
  cases l with
  | nil =>
    refine (HandLib.strings_Join_none A c s w).mono ?_
    rintro e w' ⟨rfl, rfl⟩
    exact ⟨rfl, Below.refl _ _⟩
  | cons x r =>
    obtain ⟨ad, rfl, hcell⟩ := hr.2.2 (by simp)
    have H : ∀ (j : Nat) p, (x :: r)[j]? = some p → w.cell? (ad.add j) = some (.string p) := fun j p hp => by
      obtain ⟨cs, h1, h2, h3⟩ := hcell j p hp
      have h2' : cs = [Value.string p] := h2
      have := h3 0 (.string p) (by rw [h2']; rfl)
      simpa [show Kd.string.sz = 1 from rfl] using this
    obtain ⟨b, o, sp⟩ := ad
    have h0 := H 0 x rfl
    rw [show Addr.add ⟨b, o, sp⟩ 0 = ⟨b, o, sp⟩ from rfl] at h0
    have hsp : sp = none := by
      cases sp with
      | none => rfl
      | some q =>
        unfold World.cell? at h0
        split at h0 <;> simp at h0
    subst hsp
    exact HandLib.strings_Join b o c (x :: r) s w (fun j y hy => by have := H j y hy; rwa [Addr.add_lit] at this) (World.block_lt_of_cell? w _ h0) hN hc hl
theorem split (s sep : ByteArray) (w : World) (hS : TS w) (hs : s.size < 4294967281) (h1 : 1 ≤ sep.size) :
    Calls Tryd.prog 38 #[.string s, .string sep] w fun e w' => ∃ v : Value, e = .returned (v) ∧ Kd.R Kd.string 9 w' w.heap.size (fun _ => True) v (Lib.splitB sep 0 (Lib.countB s sep) s) ∧ Below w.heap.size w w' := by
  obtain ⟨m, hm⟩ := hS
  have hlen := Lib.splitB_all sep h1 0 _ s rfl
  have hle := Lib.countB_le sep h1 s.size s (Nat.le_refl _)
  refine (HandLib.strings_Split s sep m w hs hm h1).mono ?_
  rintro e w' ⟨rfl, rfl⟩
  refine ⟨_, rfl, ⟨fun _ _ => trivial, (Lib.splitB sep 0 (Lib.countB s sep) s).map Value.string, ⟨by rw [List.length_map]; exact (Nat.mul_one _).symm, .inr ⟨w.heap.size, Lib.countB s sep + 1, _, by rw [hlen], Nat.le_refl _, heap_alloc_new w _, by rw [hlen]; exact Nat.le_refl _, by unfold maxLen; omega, ?_, ?_⟩⟩, ?_⟩, below_alloc (Below.refl _ _) _⟩
  · simp [hlen, show Kd.string.sz = 1 from rfl]
  · simp [hlen, show Kd.string.sz = 1 from rfl]
    rw [← hlen, ← List.length_map (f := Value.string), List.take_length]
  · refine ⟨by rw [List.length_map]; exact (Nat.mul_one _).symm, fun j p hp => ?_⟩
    show _ = [Value.string p]
    simp only [show Kd.string.sz = 1 from rfl, Nat.mul_one]
    have hj := (List.getElem?_eq_some_iff.1 hp).1
    rw [List.drop_eq_getElem_cons (by simpa using hj)]
    simp only [List.take_succ_cons, List.take_zero, List.getElem_map]
    rw [(List.getElem?_eq_some_iff.1 hp).2]
theorem zsz (u : UInt8) : (⟨#[u]⟩ : ByteArray).size = 1 := rfl
theorem zT {p : Prop} (h : p := by first | exact HT.out | exact Go.Proofs.YtomlglpmljngfaaDoor.HandIo.TI.below HT.out zB | exact Go.Proofs.YtomlglpmljngfaaDoor.HandIo.TS.below HT.out zB) : p := h
end Go.Proofs.YtomlglpmljngfaaDoor.HandIo
