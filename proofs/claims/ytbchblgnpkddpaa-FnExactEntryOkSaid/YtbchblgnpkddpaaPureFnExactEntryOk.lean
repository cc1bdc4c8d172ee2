/- The program's EntryOk gives what the reference's gives, for every entry. -/
import Derived.Test.YtbchblgnpkddpaaPFnExactEntryOkx1
namespace Go.Proofs.Ytbchblgnpkddpaa.Pure
open Go.RowKit Go.Proofs.Ytbchblgnpkddpaa.PFnExactEntryOk Go.Proofs.YtbchblgnpkddpaaW.PrintWords Go.Proofs.YtbchblgnpkddpaaW.PrintLast
set_option linter.unusedVariables false
set_option linter.unusedSimpArgs false

theorem w64 {n : Int} (h0 : -9223372036854775808 ≤ n) (h1 : n ≤ 9223372036854775807) : wrap64 n = n := by
  unfold wrap64; omega
theorem tmod_pos {a b : Int} (h : 0 ≤ a) : Int.tmod a b = a % b := Int.tmod_eq_emod_of_nonneg h
theorem tdiv_pos {a b : Int} (h : 0 ≤ a) : Int.tdiv a b = a / b := Int.tdiv_eq_ediv_of_nonneg h
theorem evSome {α : Type} (r : α) : Ev (fun _ => some r) r := Ev.now r
theorem evEq {α : Type} {g f : Nat → Option α} {r : α} (k : Ev f r) (h : ∀ k, g k = f k) : Ev g r := Ev.congr h k
theorem evStep {α : Type} {g f : Nat → Option α} {r : α} (k : Ev f r) (h : ∀ k, g (k + 1) = f k) : Ev g r := Ev.step h k
theorem evRet {α : Type} {g : Nat → Option α} {r : α} (h : ∀ k, g (k + 1) = some r) : Ev g r := Ev.step h (Ev.now r)
theorem rd_nat {l : List Int} {i : Nat} (h : i < l.length) : rd l (i : Int) = l[i] := by
  unfold rd; simp [List.getD_eq_getElem?_getD, h]
theorem wf_i64 {a : Int} (h : (Lit.int .i64 a).wf = true) : -9223372036854775808 ≤ a ∧ a ≤ 9223372036854775807 := by
  simp [Lit.wf, IntKind.min, IntKind.max, IntKind.bits, IntKind.signed] at h; omega
theorem wf_u8 {a : Int} (h : (Lit.int .u8 a).wf = true) : 0 ≤ a ∧ a < 256 := by
  simp [Lit.wf, IntKind.min, IntKind.max, IntKind.bits, IntKind.signed] at h; omega

theorem spec_l1In_eq (a b c : Int) : spec_l1In.f a b c = some (decide (b ≤ a ∧ a ≤ c)) := by
  unfold spec_l1In.f
  by_cases h : a ≥ b
  · rw [if_pos h]; simp [show b ≤ a from h]
  · rw [if_neg h]; simp [show ¬ b ≤ a from h]
theorem impl_within_eq (a b c : Int) : impl_within.f a b c = some (decide (b ≤ a ∧ a ≤ c)) := by
  unfold impl_within.f
  by_cases h : a ≥ b
  · rw [if_pos h]; simp [show b ≤ a from h]
  · rw [if_neg h]; simp [show ¬ b ≤ a from h]

def entryOkB (i r b v : Int) (s : ByteArray) : Bool := decide (1 ≤ i ∧ i ≤ 1000) && (decide (0 ≤ r ∧ r ≤ 1) && (decide (0 ≤ b ∧ b ≤ 100000) && (decide (0 ≤ v ∧ v ≤ 1000) && decide ((s.size : Int) ≤ 8))))
theorem ite_some {b c : Bool} : (if b = true then some c else some false) = some (b && c) := by cases b <;> rfl
theorem spec_EntryOk_eq (i r b v : Int) (s : ByteArray) : spec_EntryOk.f i r b v s = some (entryOkB i r b v s) := by
  simp only [spec_EntryOk.f, spec_l1In_eq, Option.bind_some, ite_some, entryOkB]
theorem impl_EntryOk_eq (i r b v : Int) (s : ByteArray) : impl_EntryOk.f i r b v s = some (entryOkB i r b v s) := by
  simp only [impl_EntryOk.f, impl_within_eq, Option.bind_some, ite_some, entryOkB]

theorem FnExactEntryOk : laws_FnExactEntryOk.Pure := by
  intro i r b v s _ _ _ _ _
  have h : ∃ n, laws_szEntry.f i r b v s 1048576 = some n := by
    unfold laws_szEntry.f
    split <;> exact ⟨_, rfl⟩
  obtain ⟨n, hn⟩ := h
  simp only [laws_FnExactEntryOk.f, hn, Option.bind_some, laws_toEntry.f, spec_EntryOk_eq, impl_EntryOk_eq, bne_self_eq_false]
  split <;> rfl

end Go.Proofs.Ytbchblgnpkddpaa.Pure
