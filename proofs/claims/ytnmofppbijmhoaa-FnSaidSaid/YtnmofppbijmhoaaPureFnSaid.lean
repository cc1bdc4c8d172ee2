/- What the law FnSaid computes is true for every code: what is said is news of its one node alone. No condition. -/
import Derived.Shelf.Small.Strs
import Derived.Test.YtnmofppbijmhoaaPlFnSaid
namespace Go.Proofs.Ytnmofppbijmhoaa.Pure
open Go.RowKit Go.Proofs.Ytnmofppbijmhoaa.P Go.Proofs.YtnmofppbijmhoaaW.PrintWords Go.Proofs.YtnmofppbijmhoaaW.PrintLast
set_option linter.unusedVariables false
set_option linter.unusedSimpArgs false
theorem w64 {n : Int} (h0 : -9223372036854775808 ≤ n) (h1 : n ≤ 9223372036854775807) : wrap64 n = n := by
 unfold wrap64; omega
theorem tmod_pos {a b : Int} (h : 0 ≤ a) : Int.tmod a b = a % b := Int.tmod_eq_emod_of_nonneg h
theorem evSome {α : Type} (r : α) : Ev (fun _ => some r) r := Ev.now r
theorem evEq {α : Type} {g f : Nat → Option α} {r : α} (k : Ev f r) (h : ∀ k, g k = f k) : Ev g r := Ev.congr h k
theorem evStep {α : Type} {g f : Nat → Option α} {r : α} (k : Ev f r) (h : ∀ k, g (k + 1) = f k) : Ev g r := Ev.step h k
theorem evRet {α : Type} {g : Nat → Option α} {r : α} (h : ∀ k, g (k + 1) = some r) : Ev g r := Ev.step h (Ev.now r)
theorem rd_nat {l : List Int} {i : Nat} (h : i < l.length) : rd l (i : Int) = l[i] := by
 unfold rd; simp [List.getD_eq_getElem?_getD, h]
theorem wf_u8 {a : Int} (h : (Lit.int .u8 a).wf = true) : 0 ≤ a ∧ a < 256 := by
 simp [Lit.wf, IntKind.min, IntKind.max, IntKind.bits, IntKind.signed] at h; omega
theorem evSucc {α : Type} {g : Nat → Option α} {r : α} (h : Ev (fun k => g (k + 1)) r) : Ev g r := Ev.step (f := fun k => g (k + 1)) (fun _ => rfl) h
theorem rdI {l : List S44} {i : Nat} (h : i < l.length) : rd_T44 l (i : Int) = l[i] := by
 unfold rd_T44; simp [List.getD_eq_getElem?_getD, h]
theorem rdF {l : List S58} {i : Nat} (h : i < l.length) : rd_T58 l (i : Int) = l[i] := by
 unfold rd_T58; simp [List.getD_eq_getElem?_getD, h]
def entOf : List S44 → Int → Int × Int × Int × Int × ByteArray × Bool
 | [], _ => (0, 0, 0, 0, (⟨#[]⟩ : ByteArray), false)
 | x :: r, a => if x.f0 = a then (x.f1.f0, x.f1.f1, x.f1.f2, x.f1.f3, x.f1.f4, true) else entOf r a
theorem spec_EntryOf_l (l : List S44) (fl : List S58) (a : Int) (hl : l.length ≤ 2097152) : ∀ (d i : Nat), i + d = l.length → Ev (fun k => spec_EntryOf.l0 k a (i : Int) l fl) (entOf (l.drop i) a) := by
 intro d
 induction d with
 | zero =>
  intro i h
  rw [List.drop_eq_nil_of_le (by omega)]
  exact evRet fun k => by simp only [spec_EntryOf.l0]; rw [if_neg (by omega)]; rfl
 | succ d ih =>
  intro i h
  have hi : i < l.length := by omega
  rw [List.drop_eq_getElem_cons hi]
  by_cases he : l[i].f0 = a
  ·refine evRet fun k => ?_
   simp only [spec_EntryOf.l0, entOf]
   rw [if_pos (by omega), if_pos (by omega), rdI hi, if_pos he, if_pos he]
  ·have := ih (i + 1) (by omega)
   simp only [entOf]
   rw [if_neg he]
   refine evStep this fun k => ?_
   simp only [spec_EntryOf.l0]
   rw [if_pos (by omega), if_pos (by omega), rdI hi, if_neg he, w64 (by omega) (by omega)]
   rfl
theorem spec_EntryOf_ev (l : List S44) (fl : List S58) (a : Int) (hl : l.length ≤ 2097152) : Ev (fun k => spec_EntryOf.f k l fl a) (entOf l a) :=
 evEq (spec_EntryOf_l l fl a hl l.length 0 (by omega)) fun k => rfl
theorem impl_EntryOf_l (l : List S44) (a : Int) (hl : l.length ≤ 2097152) : ∀ (d i : Nat), i + d = l.length → Ev (fun k => impl_EntryOf.l0 k a l (l.length : Int) (i : Int)) (entOf (l.drop i) a) := by
 intro d
 induction d with
 | zero =>
  intro i h
  rw [List.drop_eq_nil_of_le (by omega)]
  exact evRet fun k => by simp only [impl_EntryOf.l0]; rw [if_neg (by omega)]; rfl
 | succ d ih =>
  intro i h
  have hi : i < l.length := by omega
  rw [List.drop_eq_getElem_cons hi]
  by_cases he : l[i].f0 = a
  ·refine evRet fun k => ?_
   simp only [impl_EntryOf.l0, entOf]
   rw [if_pos (by omega), if_pos (by omega), if_pos (by omega), rdI hi, if_pos he, if_pos he]
  ·have := ih (i + 1) (by omega)
   simp only [entOf]
   rw [if_neg he]
   refine evStep this fun k => ?_
   simp only [impl_EntryOf.l0]
   rw [if_pos (by omega), if_pos (by omega), if_pos (by omega), rdI hi, if_neg he, w64 (by omega) (by omega)]
   rfl
theorem impl_EntryOf_ev (l : List S44) (fl : List S58) (a : Int) (hl : l.length ≤ 2097152) : Ev (fun k => impl_EntryOf.f k l fl a) (entOf l a) :=
 evEq (impl_EntryOf_l l a hl l.length 0 (by omega)) fun k => rfl
def floOf : List S58 → Int → Int
 | [], _ => 0
 | x :: r, a => if x.f0 = a then x.f1 else floOf r a
theorem spec_FloorOf_l (l : List S58) (il : List S44) (a : Int) (hl : l.length ≤ 2097152) : ∀ (d i : Nat), i + d = l.length → Ev (fun k => spec_FloorOf.l0 k a (i : Int) il l) (floOf (l.drop i) a) := by
 intro d
 induction d with
 | zero =>
  intro i h
  rw [List.drop_eq_nil_of_le (by omega)]
  exact evRet fun k => by simp only [spec_FloorOf.l0]; rw [if_neg (by omega)]; rfl
 | succ d ih =>
  intro i h
  have hi : i < l.length := by omega
  rw [List.drop_eq_getElem_cons hi]
  by_cases he : l[i].f0 = a
  ·refine evRet fun k => ?_
   simp only [spec_FloorOf.l0, floOf]
   rw [if_pos (by omega), if_pos (by omega), rdF hi, if_pos he, if_pos he]
  ·have := ih (i + 1) (by omega)
   simp only [floOf]
   rw [if_neg he]
   refine evStep this fun k => ?_
   simp only [spec_FloorOf.l0]
   rw [if_pos (by omega), if_pos (by omega), rdF hi, if_neg he, w64 (by omega) (by omega)]
   rfl
theorem spec_FloorOf_ev (l : List S58) (il : List S44) (a : Int) (hl : l.length ≤ 2097152) : Ev (fun k => spec_FloorOf.f k il l a) (floOf l a) :=
 evEq (spec_FloorOf_l l il a hl l.length 0 (by omega)) fun k => rfl
theorem impl_FloorOf_l (l : List S58) (a : Int) (hl : l.length ≤ 2097152) : ∀ (d i : Nat), i + d = l.length → Ev (fun k => impl_FloorOf.l0 k a l (l.length : Int) (i : Int)) (floOf (l.drop i) a) := by
 intro d
 induction d with
 | zero =>
  intro i h
  rw [List.drop_eq_nil_of_le (by omega)]
  exact evRet fun k => by simp only [impl_FloorOf.l0]; rw [if_neg (by omega)]; rfl
 | succ d ih =>
  intro i h
  have hi : i < l.length := by omega
  rw [List.drop_eq_getElem_cons hi]
  by_cases he : l[i].f0 = a
  ·refine evRet fun k => ?_
   simp only [impl_FloorOf.l0, floOf]
   rw [if_pos (by omega), if_pos (by omega), if_pos (by omega), rdF hi, if_pos he, if_pos he]
  ·have := ih (i + 1) (by omega)
   simp only [floOf]
   rw [if_neg he]
   refine evStep this fun k => ?_
   simp only [impl_FloorOf.l0]
   rw [if_pos (by omega), if_pos (by omega), if_pos (by omega), rdF hi, if_neg he, w64 (by omega) (by omega)]
   rfl
theorem impl_FloorOf_ev (l : List S58) (il : List S44) (a : Int) (hl : l.length ≤ 2097152) : Ev (fun k => impl_FloorOf.f k il l a) (floOf l a) :=
 evEq (impl_FloorOf_l l a hl l.length 0 (by omega)) fun k => rfl
theorem spec_l1In_eq (a b c : Int) : spec_l1In.f a b c = some (decide (b ≤ a ∧ a ≤ c)) := by
 unfold spec_l1In.f
 by_cases h : a ≥ b
 ·rw [if_pos h]; simp [show b ≤ a from h]
 ·rw [if_neg h]; simp [show ¬ b ≤ a from h]
theorem impl_within_eq (a b c : Int) : impl_within.f a b c = some (decide (b ≤ a ∧ a ≤ c)) := by
 unfold impl_within.f
 by_cases h : a ≥ b
 ·rw [if_pos h]; simp [show b ≤ a from h]
 ·rw [if_neg h]; simp [show ¬ b ≤ a from h]
def entryOkB (i r b v : Int) (s : ByteArray) : Bool := decide (1 ≤ i ∧ i ≤ 1000) && (decide (0 ≤ r ∧ r ≤ 1) && (decide (0 ≤ b ∧ b ≤ 100000) && (decide (0 ≤ v ∧ v ≤ 1000) && decide ((s.size : Int) ≤ 8))))
theorem ite_some {b c : Bool} : (if b = true then some c else some false) = some (b && c) := by cases b <;> rfl
theorem spec_EntryOk_eq (i r b v : Int) (s : ByteArray) : spec_EntryOk.f i r b v s = some (entryOkB i r b v s) := by
 simp only [spec_EntryOk.f, spec_l1In_eq, Option.bind_some, ite_some, entryOkB]
theorem impl_EntryOk_eq (i r b v : Int) (s : ByteArray) : impl_EntryOk.f i r b v s = some (entryOkB i r b v s) := by
 simp only [impl_EntryOk.f, impl_within_eq, Option.bind_some, ite_some, entryOkB]
def nodeB (a : Int) : Bool := decide (0 ≤ a ∧ a ≤ 4)
def okI (b : List S58) : Option Int → List S44 → Bool
 | _, [] => true
 | p, x :: r => nodeB x.f0 && (!(match p with | none => false | some q => decide (x.f0 ≤ q)) && (entryOkB x.f1.f0 x.f1.f1 x.f1.f2 x.f1.f3 x.f1.f4 && (!(decide (x.f1.f0 ≤ floOf b x.f0)) && okI b (some x.f0) r)))
def okF : Option Int → List S58 → Bool
 | _, [] => true
 | p, x :: r => nodeB x.f0 && (!(match p with | none => false | some q => decide (x.f0 ≤ q)) && (decide (1 ≤ x.f1 ∧ x.f1 ≤ 1000) && okF (some x.f0) r))
def okS (a : List S44) (b : List S58) : Bool := okI b none a && okF none b
def prevI (a : List S44) : Nat → Option Int
 | 0 => none
 | i + 1 => (a[i]?).map (·.f0)
def prevF (a : List S58) : Nat → Option Int
 | 0 => none
 | i + 1 => (a[i]?).map (·.f0)
theorem spec_l3Node_eq (a : Int) : spec_l3Node.f a = some (nodeB a) := by
 simp only [spec_l3Node.f, spec_l1In_eq, Option.bind_some, nodeB]
theorem impl_isNode_eq (a : Int) : impl_isNode.f a = some (nodeB a) := by
 simp only [impl_isNode.f, impl_within_eq, Option.bind_some, nodeB]
theorem spec_Ok_l1 (a : List S44) (b : List S58) (hb : b.length ≤ 2097152) : ∀ (m i : Nat), i + m = b.length → Ev (fun k => spec_StateOk.l1 k (i : Int) a b) (okF (prevF b i) (b.drop i)) := by
 intro m
 induction m with
 | zero =>
  intro i h
  rw [List.drop_eq_nil_of_le (by omega)]
  exact evRet fun k => by simp only [spec_StateOk.l1]; rw [if_neg (by omega)]; simp only [okF]
 | succ m ih =>
  intro i h
  have hi : i < b.length := by omega
  have hx := ih (i + 1) (by omega)
  rw [List.drop_eq_getElem_cons hi]
  simp only [okF]
  refine evSucc ?_
  simp only [spec_StateOk.l1, rdF hi, spec_l3Node_eq, spec_l1In_eq, Option.bind_some]
  simp only [if_pos (show (i : Int) < (b.length : Int) by omega), if_pos (show (0 : Int) ≤ (i : Int) by omega), w64 (show (-9223372036854775808 : Int) ≤ (i : Int) + 1 by omega) (by omega)]
  have hp : prevF b (i + 1) = some b[i].f0 := by simp [prevF, hi]
  rw [hp] at hx
  by_cases c1 : nodeB b[i].f0 = true
  ·simp only [if_pos c1]
   simp only [c1, Bool.true_and]
   cases i with
   | zero =>
    simp only [if_neg (show ¬ ((0 : Nat) : Int) > 0 by omega), prevF, Bool.not_false, Bool.true_and]
    by_cases c3 : decide ((1 : Int) ≤ b[0].f1 ∧ b[0].f1 ≤ 1000) = true
    ·simp only [if_pos c3]; simp only [c3, Bool.true_and]; exact hx
    ·simp only [if_neg c3]; simp only [Bool.not_eq_true] at c3; simp only [c3, Bool.false_and]; exact evSome _
   | succ j =>
    have hj : j < b.length := by omega
    have e1 : (((j + 1 : Nat) : Int)) - 1 = (j : Int) := by omega
    simp only [if_pos (show ((j + 1 : Nat) : Int) > 0 by omega), e1, w64 (show (-9223372036854775808 : Int) ≤ (j : Int) by omega) (by omega), if_pos (show (0 : Int) ≤ (j : Int) by omega), if_pos (show (j : Int) < (b.length : Int) by omega), rdF hj]
    have hp2 : prevF b (j + 1) = some b[j].f0 := by simp [prevF, hj]
    simp only [hp2]
    by_cases c2 : b[j + 1].f0 ≤ b[j].f0
    ·simp only [if_pos c2, decide_eq_true c2, Bool.not_true, Bool.false_and]; exact evSome _
    ·simp only [if_neg c2, decide_eq_false c2, Bool.not_false, Bool.true_and]
     by_cases c3 : decide (1 ≤ b[j + 1].f1 ∧ b[j + 1].f1 ≤ 1000) = true
     ·simp only [if_pos c3]; simp only [c3, Bool.true_and]; exact hx
     ·simp only [if_neg c3]; simp only [Bool.not_eq_true] at c3; simp only [c3, Bool.false_and]; exact evSome _
  ·simp only [if_neg c1]; simp only [Bool.not_eq_true] at c1; simp only [c1, Bool.false_and]; exact evSome _
theorem spec_Ok_l0 (a : List S44) (b : List S58) (ha : a.length ≤ 2097152) (hb : b.length ≤ 2097152) : ∀ (m i : Nat), i + m = a.length → Ev (fun k => spec_StateOk.l0 k (i : Int) a b) (okI b (prevI a i) (a.drop i) && okF none b) := by
 intro m
 induction m with
 | zero =>
  intro i h
  rw [List.drop_eq_nil_of_le (by omega)]
  refine evSucc ?_
  simp only [spec_StateOk.l0]
  simp only [if_neg (show ¬ (i : Int) < (a.length : Int) by omega)]
  simpa [okI, prevF] using spec_Ok_l1 a b hb b.length 0 (by omega)
 | succ m ih =>
  intro i h
  have hi : i < a.length := by omega
  have hx := ih (i + 1) (by omega)
  rw [List.drop_eq_getElem_cons hi]
  simp only [okI]
  refine evSucc ?_
  simp only [spec_StateOk.l0, rdI hi, spec_l3Node_eq, spec_EntryOk_eq, Option.bind_some]
  simp only [if_pos (show (i : Int) < (a.length : Int) by omega), if_pos (show (0 : Int) ≤ (i : Int) by omega), w64 (show (-9223372036854775808 : Int) ≤ (i : Int) + 1 by omega) (by omega)]
  have hp : prevI a (i + 1) = some a[i].f0 := by simp [prevI, hi]
  rw [hp] at hx
  have tail : Ev (fun k => if entryOkB a[i].f1.f0 a[i].f1.f1 a[i].f1.f2 a[i].f1.f3 a[i].f1.f4 = true then ((spec_FloorOf.f k a b a[i].f0).bind fun t => if a[i].f1.f0 ≤ t then some false else spec_StateOk.l0 k ((i : Int) + 1) a b) else some false)
    ((entryOkB a[i].f1.f0 a[i].f1.f1 a[i].f1.f2 a[i].f1.f3 a[i].f1.f4 && (!(decide (a[i].f1.f0 ≤ floOf b a[i].f0)) && okI b (some a[i].f0) (a.drop (i + 1)))) && okF none b) := by
   by_cases c1 : entryOkB a[i].f1.f0 a[i].f1.f1 a[i].f1.f2 a[i].f1.f3 a[i].f1.f4 = true
   ·simp only [if_pos c1]
    simp only [c1, Bool.true_and]
    refine Ev.bind (spec_FloorOf_ev b a a[i].f0 hb) ?_
    by_cases c2 : a[i].f1.f0 ≤ floOf b a[i].f0
    ·simp only [if_pos c2, decide_eq_true c2, Bool.not_true, Bool.false_and]; exact evSome _
    ·simp only [if_neg c2, decide_eq_false c2, Bool.not_false, Bool.true_and]; exact hx
   ·simp only [if_neg c1]; simp only [Bool.not_eq_true] at c1; simp only [c1, Bool.false_and]; exact evSome _
  by_cases c1 : nodeB a[i].f0 = true
  ·simp only [if_pos c1]
   simp only [c1, Bool.true_and]
   cases i with
   | zero =>
    simp only [if_neg (show ¬ ((0 : Nat) : Int) > 0 by omega), prevI, Bool.not_false, Bool.true_and]
    exact tail
   | succ j =>
    have hj : j < a.length := by omega
    have e1 : (((j + 1 : Nat) : Int)) - 1 = (j : Int) := by omega
    simp only [if_pos (show ((j + 1 : Nat) : Int) > 0 by omega), e1, w64 (show (-9223372036854775808 : Int) ≤ (j : Int) by omega) (by omega), if_pos (show (0 : Int) ≤ (j : Int) by omega), if_pos (show (j : Int) < (a.length : Int) by omega), rdI hj]
    have hp2 : prevI a (j + 1) = some a[j].f0 := by simp [prevI, hj]
    simp only [hp2]
    by_cases c2 : a[j + 1].f0 ≤ a[j].f0
    ·simp only [if_pos c2, decide_eq_true c2, Bool.not_true, Bool.false_and]; exact evSome _
    ·simp only [if_neg c2, decide_eq_false c2, Bool.not_false, Bool.true_and]
     exact tail
  ·simp only [if_neg c1]; simp only [Bool.not_eq_true] at c1; simp only [c1, Bool.false_and]; exact evSome _
theorem spec_StateOk_ev (a : List S44) (b : List S58) (ha : a.length ≤ 2097152) (hb : b.length ≤ 2097152) : Ev (fun k => spec_StateOk.f k a b) (okS a b) := by
 have := spec_Ok_l0 a b ha hb a.length 0 (by omega)
 simpa [spec_StateOk.f, okS, prevI] using this
theorem impl_Ok_l1 (a : List S44) (b : List S58) (ha : a.length ≤ 2097152) (hb : b.length ≤ 2097152) : ∀ (m i : Nat), i + m = a.length → Ev (fun k => impl_StateOk.l1 k a (a.length : Int) (i : Int) a b) (okI b (prevI a i) (a.drop i)) := by
 intro m
 induction m with
 | zero =>
  intro i h
  rw [List.drop_eq_nil_of_le (by omega)]
  exact evRet fun k => by simp only [impl_StateOk.l1]; rw [if_neg (by omega)]; simp only [okI]
 | succ m ih =>
  intro i h
  have hi : i < a.length := by omega
  have hx := ih (i + 1) (by omega)
  rw [List.drop_eq_getElem_cons hi]
  simp only [okI]
  refine evSucc ?_
  simp only [impl_StateOk.l1, rdI hi, impl_isNode_eq, impl_EntryOk_eq, Option.bind_some]
  simp only [if_pos (show (i : Int) < (a.length : Int) by omega), if_pos (show (0 : Int) ≤ (i : Int) by omega), w64 (show (-9223372036854775808 : Int) ≤ (i : Int) + 1 by omega) (by omega)]
  have hp : prevI a (i + 1) = some a[i].f0 := by simp [prevI, hi]
  rw [hp] at hx
  by_cases c1 : nodeB a[i].f0 = true
  ·simp only [if_pos c1]
   simp only [c1, Bool.true_and]
   by_cases c2 : entryOkB a[i].f1.f0 a[i].f1.f1 a[i].f1.f2 a[i].f1.f3 a[i].f1.f4 = true
   ·simp only [if_pos c2]
    simp only [c2, Bool.true_and]
    refine Ev.bind (impl_FloorOf_ev b a a[i].f0 hb) ?_
    by_cases c3 : a[i].f1.f0 ≤ floOf b a[i].f0
    ·simp only [if_pos c3, decide_eq_true c3, Bool.not_true, Bool.false_and, Bool.and_false]; exact evSome _
    ·simp only [if_neg c3, decide_eq_false c3, Bool.not_false, Bool.true_and]
     cases i with
     | zero =>
      simp only [if_neg (show ¬ ((0 : Nat) : Int) > 0 by omega), prevI, Bool.not_false, Bool.true_and]
      exact hx
     | succ j =>
      have hj : j < a.length := by omega
      have e1 : (((j + 1 : Nat) : Int)) - 1 = (j : Int) := by omega
      simp only [if_pos (show ((j + 1 : Nat) : Int) > 0 by omega), e1, w64 (show (-9223372036854775808 : Int) ≤ (j : Int) by omega) (by omega), if_pos (show (0 : Int) ≤ (j : Int) by omega), if_pos (show (j : Int) < (a.length : Int) by omega), rdI hj]
      have hp2 : prevI a (j + 1) = some a[j].f0 := by simp [prevI, hj]
      simp only [hp2]
      by_cases c4 : a[j + 1].f0 ≤ a[j].f0
      ·simp only [if_pos (show a[j].f0 ≥ a[j + 1].f0 from c4), decide_eq_true c4, Bool.not_true, Bool.false_and]; exact evSome _
      ·simp only [if_neg (show ¬ a[j].f0 ≥ a[j + 1].f0 from c4), decide_eq_false c4, Bool.not_false, Bool.true_and]
       exact hx
   ·simp only [if_neg c2]; simp only [Bool.not_eq_true] at c2; simp only [c2, Bool.false_and, Bool.and_false]; exact evSome _
  ·simp only [if_neg c1]; simp only [Bool.not_eq_true] at c1; simp only [c1, Bool.false_and]; exact evSome _
theorem impl_Ok_l0 (a : List S44) (b : List S58) (ha : a.length ≤ 2097152) (hb : b.length ≤ 2097152) : ∀ (m i : Nat), i + m = b.length → Ev (fun k => impl_StateOk.l0 k b (b.length : Int) (i : Int) a b) (okF (prevF b i) (b.drop i) && okI b none a) := by
 intro m
 induction m with
 | zero =>
  intro i h
  rw [List.drop_eq_nil_of_le (by omega)]
  refine evSucc ?_
  simp only [impl_StateOk.l0]
  simp only [if_neg (show ¬ (i : Int) < (b.length : Int) by omega)]
  simpa [okF, prevI] using impl_Ok_l1 a b ha hb a.length 0 (by omega)
 | succ m ih =>
  intro i h
  have hi : i < b.length := by omega
  have hx := ih (i + 1) (by omega)
  rw [List.drop_eq_getElem_cons hi]
  simp only [okF]
  refine evSucc ?_
  simp only [impl_StateOk.l0, rdF hi, impl_isNode_eq, impl_within_eq, Option.bind_some]
  simp only [if_pos (show (i : Int) < (b.length : Int) by omega), if_pos (show (0 : Int) ≤ (i : Int) by omega), w64 (show (-9223372036854775808 : Int) ≤ (i : Int) + 1 by omega) (by omega)]
  have hp : prevF b (i + 1) = some b[i].f0 := by simp [prevF, hi]
  rw [hp] at hx
  by_cases c1 : nodeB b[i].f0 = true
  ·simp only [if_pos c1]
   simp only [c1, Bool.true_and]
   by_cases c3 : decide (1 ≤ b[i].f1 ∧ b[i].f1 ≤ 1000) = true
   ·simp only [if_pos c3]; simp only [c3, Bool.true_and]
    cases i with
    | zero =>
     simp only [if_neg (show ¬ ((0 : Nat) : Int) > 0 by omega), prevF, Bool.not_false, Bool.true_and]
     exact hx
    | succ j =>
     have hj : j < b.length := by omega
     have e1 : (((j + 1 : Nat) : Int)) - 1 = (j : Int) := by omega
     simp only [if_pos (show ((j + 1 : Nat) : Int) > 0 by omega), e1, w64 (show (-9223372036854775808 : Int) ≤ (j : Int) by omega) (by omega), if_pos (show (0 : Int) ≤ (j : Int) by omega), if_pos (show (j : Int) < (b.length : Int) by omega), rdF hj]
     have hp2 : prevF b (j + 1) = some b[j].f0 := by simp [prevF, hj]
     simp only [hp2]
     by_cases c2 : b[j + 1].f0 ≤ b[j].f0
     ·simp only [if_pos (show b[j].f0 ≥ b[j + 1].f0 from c2), decide_eq_true c2, Bool.not_true, Bool.false_and]; exact evSome _
     ·simp only [if_neg (show ¬ b[j].f0 ≥ b[j + 1].f0 from c2), decide_eq_false c2, Bool.not_false, Bool.true_and]
      exact hx
   ·simp only [if_neg c3]; simp only [Bool.not_eq_true] at c3; simp only [c3, Bool.false_and, Bool.and_false]; exact evSome _
  ·simp only [if_neg c1]; simp only [Bool.not_eq_true] at c1; simp only [c1, Bool.false_and]; exact evSome _
theorem impl_StateOk_ev (a : List S44) (b : List S58) (ha : a.length ≤ 2097152) (hb : b.length ≤ 2097152) : Ev (fun k => impl_StateOk.f k a b) (okS a b) := by
 have := impl_Ok_l0 a b ha hb b.length 0 (by omega)
 rw [Bool.and_comm] at this
 simpa [impl_StateOk.f, okS, prevF] using this
def sameI : List S44 → List S44 → Bool
 | [], _ => true
 | _ :: _, [] => true
 | x :: r, y :: q => if (!((x.f0 == y.f0)) || ((!((x.f1.f0 == y.f1.f0)) || (!((x.f1.f1 == y.f1.f1)) || (!((x.f1.f2 == y.f1.f2)) || (!((x.f1.f3 == y.f1.f3)) || (!((x.f1.f4.toList == y.f1.f4.toList))))))))) = true then false else sameI r q
def sameF : List S58 → List S58 → Bool
 | [], _ => true
 | _ :: _, [] => true
 | x :: r, y :: q => if (!((x.f0 == y.f0)) || (!((x.f1 == y.f1)))) = true then false else sameF r q
def sameS (a : List S44) (b : List S58) (c : List S44) (d : List S58) : Bool :=
 decide (a.length = c.length) && (decide (b.length = d.length) && (sameI a c && sameF b d))
theorem impl_Item_l0 (a c : List S44) (hl2 : a.length = c.length) (ha : a.length ≤ 2097152) : ∀ (m i : Nat), i + m = a.length → Ev (fun k => impl_Item.l0 k a c (a.length : Int) (i : Int)) (sameI (a.drop i) (c.drop i)) := by
 intro m
 induction m with
 | zero =>
  intro i h
  rw [List.drop_eq_nil_of_le (by omega)]
  refine evSucc ?_
  simp only [impl_Item.l0]
  simp only [if_neg (show ¬ (i : Int) < (a.length : Int) by omega)]
  exact evSome _
 | succ m ih =>
  intro i h
  have hi : i < a.length := by omega
  have hj : i < c.length := by omega
  have := ih (i + 1) (by omega)
  rw [List.drop_eq_getElem_cons hi, List.drop_eq_getElem_cons hj]
  simp only [sameI]
  refine evSucc ?_
  simp only [impl_Item.l0, rdI hi, rdI hj]
  simp only [if_pos (show (i : Int) < (a.length : Int) by omega), if_pos (show (0 : Int) ≤ (i : Int) by omega), if_pos (show (i : Int) < (c.length : Int) by omega), w64 (show (-9223372036854775808 : Int) ≤ (i : Int) + 1 by omega) (by omega)]
  split
  ·exact evSome _
  ·exact this
theorem impl_Floor_l0 (b d : List S58) (hl2 : b.length = d.length) (hb : b.length ≤ 2097152) : ∀ (m i : Nat), i + m = b.length → Ev (fun k => impl_Floor.l0 k b d (b.length : Int) (i : Int)) (sameF (b.drop i) (d.drop i)) := by
 intro m
 induction m with
 | zero =>
  intro i h
  rw [List.drop_eq_nil_of_le (by omega)]
  refine evSucc ?_
  simp only [impl_Floor.l0]
  simp only [if_neg (show ¬ (i : Int) < (b.length : Int) by omega)]
  exact evSome _
 | succ m ih =>
  intro i h
  have hi : i < b.length := by omega
  have hj : i < d.length := by omega
  have := ih (i + 1) (by omega)
  rw [List.drop_eq_getElem_cons hi, List.drop_eq_getElem_cons hj]
  simp only [sameF]
  refine evSucc ?_
  simp only [impl_Floor.l0, rdF hi, rdF hj]
  simp only [if_pos (show (i : Int) < (b.length : Int) by omega), if_pos (show (0 : Int) ≤ (i : Int) by omega), if_pos (show (i : Int) < (d.length : Int) by omega), w64 (show (-9223372036854775808 : Int) ≤ (i : Int) + 1 by omega) (by omega)]
  split
  ·exact evSome _
  ·exact this
theorem impl_Item_ev (a c : List S44) (ha : a.length ≤ 2097152) : Ev (fun k => impl_Item.f k a c) (decide (a.length = c.length) && sameI a c) := by
 simp only [impl_Item.f]
 by_cases h1 : a.length = c.length
 ·simp only [if_pos (show (a.length : Int) = (c.length : Int) by omega)]
  have := impl_Item_l0 a c h1 ha a.length 0 (by omega)
  simpa [h1] using this
 ·simp only [if_neg (show ¬ (a.length : Int) = (c.length : Int) by omega)]
  simp only [h1, decide_false, Bool.false_and]; exact evSome _
theorem impl_Floor_ev (b d : List S58) (hb : b.length ≤ 2097152) : Ev (fun k => impl_Floor.f k b d) (decide (b.length = d.length) && sameF b d) := by
 simp only [impl_Floor.f]
 by_cases h1 : b.length = d.length
 ·simp only [if_pos (show (b.length : Int) = (d.length : Int) by omega)]
  have := impl_Floor_l0 b d h1 hb b.length 0 (by omega)
  simpa [h1] using this
 ·simp only [if_neg (show ¬ (b.length : Int) = (d.length : Int) by omega)]
  simp only [h1, decide_false, Bool.false_and]; exact evSome _
theorem impl_StateSame_ev (a c : List S44) (b d : List S58) (ha : a.length ≤ 2097152) (hb : b.length ≤ 2097152) : Ev (fun k => impl_StateSame.f k a b c d) (sameS a b c d) := by
 simp only [impl_StateSame.f]
 refine Ev.bind (impl_Item_ev a c ha) ?_
 by_cases h1 : (decide (a.length = c.length) && sameI a c) = true
 ·simp only [if_pos h1]
  refine Ev.bind (impl_Floor_ev b d hb) ?_
  have e : sameS a b c d = (decide (b.length = d.length) && sameF b d) := by
   simp only [Bool.and_eq_true, decide_eq_true_eq] at h1
   simp [sameS, h1.1, h1.2]
  rw [e]; exact evSome _
 ·simp only [if_neg h1]
  have e : sameS a b c d = false := by
   simp only [sameS]
   cases hd : decide (a.length = c.length) <;> cases hi : sameI a c <;> simp_all
  rw [e]; exact evSome _
def cmpI (a b : Int) : Int := if a < b then -1 else if a > b then 1 else 0
def nz : List Int → Int → Int
 | [], t => t
 | x :: r, t => if x = 0 then nz r t else x
def ecmp (a0 a1 a2 a3 : Int) (a4 : ByteArray) (b0 b1 b2 b3 : Int) (b4 : ByteArray) : Int := nz [cmpI a0 b0, cmpI a1 b1, cmpI a2 b2, cmpI a3 b3] (Lib.compareBytes a4.data.toList b4.data.toList)
theorem u8_lt_or (a b : UInt8) : a < b ∨ a = b ∨ b < a := by
 rcases Nat.lt_trichotomy a.toNat b.toNat with h | h | h
 ·exact .inl (UInt8.lt_iff_toNat_lt.2 h)
 ·exact .inr (.inl (UInt8.toNat_inj.1 h))
 ·exact .inr (.inr (UInt8.lt_iff_toNat_lt.2 h))
theorem u8_irrefl (a : UInt8) : ¬ a < a := fun h => Nat.lt_irrefl _ (UInt8.lt_iff_toNat_lt.1 h)
theorem u8_asymm {a b : UInt8} (h : a < b) : ¬ b < a := fun h2 => Nat.lt_asymm (UInt8.lt_iff_toNat_lt.1 h) (UInt8.lt_iff_toNat_lt.1 h2)
theorem cmpB_eq : ∀ (x y : List UInt8), Lib.compareBytes x y = if Op.bytesLess x y = true then -1 else if (!(x == y)) = true then 1 else 0
 | [], [] => by simp [Lib.compareBytes, Op.bytesLess]
 | [], b :: q => by simp [Lib.compareBytes, Op.bytesLess]
 | a :: p, [] => by simp [Lib.compareBytes, Op.bytesLess]
 | a :: p, b :: q => by
  unfold Lib.compareBytes Op.bytesLess
  rw [cmpB_eq p q]
  rcases u8_lt_or a b with h | h | h
  ·simp [h]
  ·subst h; simp [u8_irrefl]
  ·have h1 := u8_asymm h
   have h2 : a ≠ b := fun e => by subst e; exact u8_irrefl _ h
   simp [h, h1, h2]
theorem spec_l2Cmp_eq (a b : Int) : spec_l2Cmp.f a b = some (cmpI a b) := by
 simp only [spec_l2Cmp.f, spec_l1Bit.f, cmpI]
 by_cases h : a < b
 ·rw [if_pos h, if_pos h]
 ·rw [if_neg h, if_neg h]
  by_cases h2 : a > b
  ·simp [h2]
  ·simp [h2]
theorem cmp_Compare_eq (a b : Int) : cmp_Compare_int.f a b = some (cmpI a b) := by
 simp only [cmp_Compare_int.f, cmp_isNaN_int.f, cmpI, Option.bind_some, bne_self_eq_false]
 by_cases h : a < b
 ·simp [h]
 ·by_cases h2 : a > b
  ·simp [h, h2]
  ·simp [h, h2]
theorem cmp_Or_l (l : List Int) (hl : l.length ≤ 1099511627776) : ∀ (d i : Nat), i + d = l.length → Ev (fun k => cmp_Or_int.l0 k 0 l (l.length : Int) (i : Int)) (nz (l.drop i) 0) := by
 intro d
 induction d with
 | zero =>
  intro i h
  rw [List.drop_eq_nil_of_le (by omega)]
  exact evRet fun k => by simp only [cmp_Or_int.l0]; rw [if_neg (by omega)]; rfl
 | succ d ih =>
  intro i h
  have hi : i < l.length := by omega
  rw [List.drop_eq_getElem_cons hi]
  by_cases hz : l[i] = 0
  ·have := ih (i + 1) (by omega)
   refine evStep (by simpa only [nz, if_pos hz] using this) fun k => ?_
   simp only [cmp_Or_int.l0]
   rw [if_pos (by omega), if_pos (by omega), if_pos (by omega), rd_nat hi, if_pos hz, w64 (by omega) (by omega)]
   rfl
  ·refine evRet fun k => ?_
   simp only [cmp_Or_int.l0]
   rw [if_pos (by omega), if_pos (by omega), if_pos (by omega), rd_nat hi, if_neg hz]
   simp only [nz, if_neg hz]
theorem cmp_Or_ev (l : List Int) (hl : l.length ≤ 1099511627776) : Ev (fun k => cmp_Or_int.f k l) (nz l 0) :=
 evEq (cmp_Or_l l hl l.length 0 (by omega)) fun k => rfl
theorem nz_snoc (t : Int) : ∀ (l : List Int), nz (l ++ [t]) 0 = nz l t
 | [] => by simp only [List.nil_append, nz]; split <;> simp_all
 | x :: r => by simp only [List.cons_append, nz, nz_snoc t r]
theorem impl_EntryCmp_ev (a0 a1 a2 a3 : Int) (a4 : ByteArray) (b0 b1 b2 b3 : Int) (b4 : ByteArray) : Ev (fun k => impl_EntryCmp.f k a0 a1 a2 a3 a4 b0 b1 b2 b3 b4) (ecmp a0 a1 a2 a3 a4 b0 b1 b2 b3 b4) := by
 simp only [impl_EntryCmp.f, cmp_Compare_eq, strings_Compare.f, Option.bind_some]
 refine Ev.bind (cmp_Or_ev _ (by simp)) ?_
 have : nz [cmpI a0 b0, cmpI a1 b1, cmpI a2 b2, cmpI a3 b3, Lib.compareBytes a4.data.toList b4.data.toList] 0 = ecmp a0 a1 a2 a3 a4 b0 b1 b2 b3 b4 := nz_snoc (Lib.compareBytes a4.data.toList b4.data.toList) [cmpI a0 b0, cmpI a1 b1, cmpI a2 b2, cmpI a3 b3]
 rw [this]
 exact evSome _
theorem spec_EntryCmp_l (l : List Int) (hl : l.length ≤ 1099511627776) (a0 a1 a2 a3 : Int) (a4 : ByteArray) (b0 b1 b2 b3 : Int) (b4 : ByteArray) : ∀ (d i : Nat), i + d = l.length →
  Ev (fun k => spec_EntryCmp.l0 k l (i : Int) a0 a1 a2 a3 a4 b0 b1 b2 b3 b4) (nz (l.drop i) (Lib.compareBytes a4.data.toList b4.data.toList)) := by
 intro d
 induction d with
 | zero =>
  intro i h
  rw [List.drop_eq_nil_of_le (by omega)]
  refine evRet fun k => ?_
  simp only [spec_EntryCmp.l0]
  rw [if_neg (by omega)]
  simp only [nz, cmpB_eq, Lib.toList_data, spec_l1Bit.f]
  by_cases h1 : Op.bytesLess a4.data.toList b4.data.toList = true
  ·rw [if_pos h1, if_pos h1]
  ·rw [if_neg h1, if_neg h1]
   split <;> rfl
 | succ d ih =>
  intro i h
  have hi : i < l.length := by omega
  rw [List.drop_eq_getElem_cons hi]
  by_cases hz : l[i] = 0
  ·have := ih (i + 1) (by omega)
   refine evStep (by simpa only [nz, if_pos hz] using this) fun k => ?_
   simp only [spec_EntryCmp.l0]
   rw [if_pos (by omega), if_pos (by omega), rd_nat hi, if_pos hz, w64 (by omega) (by omega)]
   rfl
  ·refine evRet fun k => ?_
   simp only [spec_EntryCmp.l0]
   rw [if_pos (by omega), if_pos (by omega), rd_nat hi, if_neg hz]
   simp only [nz, if_neg hz]
theorem spec_EntryCmp_ev (a0 a1 a2 a3 : Int) (a4 : ByteArray) (b0 b1 b2 b3 : Int) (b4 : ByteArray) : Ev (fun k => spec_EntryCmp.f k a0 a1 a2 a3 a4 b0 b1 b2 b3 b4) (ecmp a0 a1 a2 a3 a4 b0 b1 b2 b3 b4) := by
 simp only [spec_EntryCmp.f, spec_l2Cmp_eq, Option.bind_some]
 exact spec_EntryCmp_l [cmpI a0 b0, cmpI a1 b1, cmpI a2 b2, cmpI a3 b3] (by simp) a0 a1 a2 a3 a4 b0 b1 b2 b3 b4 4 0 (by simp)
abbrev EntT := Int × Int × Int × Int × ByteArray × Bool
theorem cmpI_neg (a b : Int) : cmpI b a = - cmpI a b := by
 unfold cmpI
 by_cases h : a < b
 ·simp [h, show ¬ b < a by omega]
 ·by_cases h2 : b < a
  ·simp [h, h2]
  ·simp [h, h2]
theorem cmpBytes_neg : ∀ (x y : List UInt8), Lib.compareBytes y x = - Lib.compareBytes x y
 | [], [] => by simp [Lib.compareBytes]
 | [], b :: q => by simp [Lib.compareBytes]
 | a :: p, [] => by simp [Lib.compareBytes]
 | a :: p, b :: q => by
  unfold Lib.compareBytes
  rw [cmpBytes_neg p q]
  rcases u8_lt_or a b with h | h | h
  ·have h1 := u8_asymm h
   have h2 : a ≠ b := fun e => by subst e; exact u8_irrefl _ h
   simp [h, h1, h2, h2.symm]
  ·subst h; simp [u8_irrefl]
  ·have h1 := u8_asymm h
   have h2 : a ≠ b := fun e => by subst e; exact u8_irrefl _ h
   simp [h, h1, h2, h2.symm]
theorem ecmp_neg (a0 a1 a2 a3 : Int) (a4 : ByteArray) (b0 b1 b2 b3 : Int) (b4 : ByteArray) : ecmp b0 b1 b2 b3 b4 a0 a1 a2 a3 a4 = - ecmp a0 a1 a2 a3 a4 b0 b1 b2 b3 b4 := by
 simp only [ecmp, nz, cmpI_neg a0 b0, cmpI_neg a1 b1, cmpI_neg a2 b2, cmpI_neg a3 b3, cmpBytes_neg a4.data.toList b4.data.toList, Int.neg_eq_zero]
 repeat (split <;> try rfl)
theorem ent_inc (b : List S58) (a : Int) : ∀ (l : List S44) (p : Option Int), okI b p l = true → (entOf l a).2.2.2.2.2 = true → 1 ≤ (entOf l a).1
 | [], _, _, h => by simp [entOf] at h
 | x :: r, p, h, h2 => by
  simp only [okI, Bool.and_eq_true] at h
  obtain ⟨_, _, h3, _, h4⟩ := h
  simp only [entOf] at h2 ⊢
  by_cases e : x.f0 = a
  ·rw [if_pos e]
   simp only [entryOkB, Bool.and_eq_true, decide_eq_true_eq] at h3
   exact h3.1.1
  ·rw [if_neg e] at h2 ⊢
   exact ent_inc b a r (some x.f0) h4 h2
theorem ent_none (a : Int) : ∀ (l : List S44), ¬ (entOf l a).2.2.2.2.2 = true → entOf l a = (0, 0, 0, 0, (⟨#[]⟩ : ByteArray), false)
 | [], _ => rfl
 | x :: r, h => by
  simp only [entOf] at h ⊢
  by_cases e : x.f0 = a
  ·rw [if_pos e] at h; exact absurd rfl h
  ·rw [if_neg e] at h ⊢
   exact ent_none a r h
theorem flo_nonneg (a : Int) : ∀ (l : List S58) (p : Option Int), okF p l = true → 0 ≤ floOf l a
 | [], _, _ => by simp [floOf]
 | x :: r, p, h => by
  simp only [okF, Bool.and_eq_true, decide_eq_true_eq] at h
  simp only [floOf]
  split
  ·omega
  ·exact flo_nonneg a r (some x.f0) h.2.2.2
def maxI (a b : Int) : Int := if a > b then a else b
theorem spec_l1Max_eq (a b : Int) : spec_l1Max.f a b = some (maxI a b) := by
 unfold spec_l1Max.f maxI; split <;> rfl
theorem mx_eq (a b : Int) : mx a b = maxI a b := by
 unfold mx maxI; split <;> split <;> omega
def maxE (x y : EntT) : Int × Int × Int × Int × ByteArray :=
 if ecmp x.1 x.2.1 x.2.2.1 x.2.2.2.1 x.2.2.2.2.1 y.1 y.2.1 y.2.2.1 y.2.2.2.1 y.2.2.2.2.1 < 0 then (y.1, y.2.1, y.2.2.1, y.2.2.2.1, y.2.2.2.2.1) else (x.1, x.2.1, x.2.2.1, x.2.2.2.1, x.2.2.2.2.1)
theorem impl_EntryMax_ev (x y : EntT) : Ev (fun k => impl_EntryMax.f k x.1 x.2.1 x.2.2.1 x.2.2.2.1 x.2.2.2.2.1 y.1 y.2.1 y.2.2.1 y.2.2.2.1 y.2.2.2.2.1) (maxE x y) := by
 simp only [impl_EntryMax.f, maxE]
 refine Ev.bind (impl_EntryCmp_ev _ _ _ _ _ _ _ _ _ _) ?_
 split
 ·exact evSome _
 ·exact evSome _
def addI (i fl : Int) (e : Int × Int × Int × Int × ByteArray) : List S44 := if e.1 > fl then [⟨i, ⟨e.1, e.2.1, e.2.2.1, e.2.2.2.1, e.2.2.2.2⟩⟩] else []
def addF (i fl : Int) : List S58 := if fl > 0 then [⟨i, fl⟩] else []
def joinR (a : List S44) (b : List S58) (c : List S44) (e : List S58) : Nat → Int → List S44 → List S58 → List S44 × List S58
 | 0, _, x, y => (x, y)
 | n + 1, i, x, y => joinR a b c e n (i + 1) (x ++ addI i (maxI (floOf b i) (floOf e i)) (maxE (entOf a i) (entOf c i))) (y ++ addF i (maxI (floOf b i) (floOf e i)))
theorem addI_len (i fl : Int) (e : Int × Int × Int × Int × ByteArray) : (addI i fl e).length ≤ 1 := by unfold addI; split <;> simp
theorem addF_len (i fl : Int) : (addF i fl).length ≤ 1 := by unfold addF; split <;> simp
theorem joinR_len (a : List S44) (b : List S58) (c : List S44) (e : List S58) : ∀ (n : Nat) (i : Int) (x : List S44) (y : List S58), (joinR a b c e n i x y).1.length ≤ x.length + n ∧ (joinR a b c e n i x y).2.length ≤ y.length + n
 | 0, _, _, _ => ⟨Nat.le_refl _, Nat.le_refl _⟩
 | n + 1, i, x, y => by
  have h := joinR_len a b c e n (i + 1) (x ++ addI i (maxI (floOf b i) (floOf e i)) (maxE (entOf a i) (entOf c i))) (y ++ addF i (maxI (floOf b i) (floOf e i)))
  have h1 := addI_len i (maxI (floOf b i) (floOf e i)) (maxE (entOf a i) (entOf c i))
  have h2 := addF_len i (maxI (floOf b i) (floOf e i))
  simp only [List.length_append] at h
  simp only [joinR]
  omega
theorem impl_join_l (a : List S44) (b : List S58) (c : List S44) (e : List S58) (ha : a.length ≤ 2097152) (hb : b.length ≤ 2097152) (hc : c.length ≤ 2097152) (he : e.length ≤ 2097152) :
  ∀ (n : Nat) (i : Nat) (x : List S44) (y : List S58), i + n = 5 → x.length ≤ i → y.length ≤ i → Ev (fun k => impl_stateJoin.l0 k (i : Int) a b c e x y) (joinR a b c e n (i : Int) x y) := by
 intro n
 induction n with
 | zero =>
  intro i x y h _ _
  exact evRet fun k => by simp only [impl_stateJoin.l0]; rw [if_neg (by omega)]; rfl
 | succ n ih =>
  intro i x y h hx hy
  have h1 := addI_len i (maxI (floOf b i) (floOf e i)) (maxE (entOf a i) (entOf c i))
  have h2 := addF_len i (maxI (floOf b i) (floOf e i))
  have hr := ih (i + 1) (x ++ addI i (maxI (floOf b i) (floOf e i)) (maxE (entOf a i) (entOf c i))) (y ++ addF i (maxI (floOf b i) (floOf e i))) (by omega) (by rw [List.length_append]; omega) (by rw [List.length_append]; omega)
  simp only [joinR]
  refine evSucc ?_
  simp only [impl_stateJoin.l0, mx_eq]
  simp only [if_pos (show (i : Int) < 5 by omega), w64 (show (-9223372036854775808 : Int) ≤ (i : Int) + 1 by omega) (by omega), if_pos (show x.length < 2513169434916 by omega), if_pos (show y.length < 8796093022208 by omega)]
  refine Ev.bind (impl_EntryOf_ev a b i ha) ?_
  refine Ev.bind (impl_EntryOf_ev c e i hc) ?_
  refine Ev.bind (impl_EntryMax_ev (entOf a i) (entOf c i)) ?_
  refine Ev.bind (impl_FloorOf_ev b a i hb) ?_
  refine Ev.bind (impl_FloorOf_ev e c i he) ?_
  by_cases c1 : (maxE (entOf a i) (entOf c i)).1 > maxI (floOf b i) (floOf e i)
  ·simp only [if_pos c1, Option.bind_some]
   simp only [addI, if_pos c1] at hr ⊢
   by_cases c2 : maxI (floOf b i) (floOf e i) > 0
   ·simp only [if_pos c2]
    simp only [addF, if_pos c2] at hr ⊢
    exact hr
   ·simp only [if_neg c2]
    simp only [addF, if_neg c2, List.append_nil] at hr ⊢
    exact hr
  ·simp only [if_neg c1]
   simp only [addI, if_neg c1, List.append_nil] at hr ⊢
   by_cases c2 : maxI (floOf b i) (floOf e i) > 0
   ·simp only [if_pos c2]
    simp only [addF, if_pos c2] at hr ⊢
    exact hr
   ·simp only [if_neg c2]
    simp only [addF, if_neg c2, List.append_nil] at hr ⊢
    exact hr
def joinS (a : List S44) (b : List S58) (c : List S44) (e : List S58) : List S44 × List S58 := joinR a b c e 5 0 [] []
theorem impl_stateJoin_ev (a : List S44) (b : List S58) (c : List S44) (e : List S58) (ha : a.length ≤ 2097152) (hb : b.length ≤ 2097152) (hc : c.length ≤ 2097152) (he : e.length ≤ 2097152) : Ev (fun k => impl_stateJoin.f k a b c e) (joinS a b c e) :=
 impl_join_l a b c e ha hb hc he 5 0 [] [] (by omega) (by simp) (by simp)
theorem joinS_len (a : List S44) (b : List S58) (c : List S44) (e : List S58) : (joinS a b c e).1.length ≤ 5 ∧ (joinS a b c e).2.length ≤ 5 := by
 have := joinR_len a b c e 5 0 [] []
 simpa [joinS] using this
theorem spec_join_l (a : List S44) (b : List S58) (c : List S44) (e : List S58) (ha : a.length ≤ 2097152) (hb : b.length ≤ 2097152) (hc : c.length ≤ 2097152) (he : e.length ≤ 2097152) (o1 : okS a b = true) (o2 : okS c e = true) :
  ∀ (n : Nat) (i : Nat) (x : List S44) (y : List S58), i + n = 5 → x.length ≤ i → y.length ≤ i → Ev (fun k => spec_l3Join.l0 k (i : Int) a b c e x y) (joinR a b c e n (i : Int) x y) := by
 intro n
 induction n with
 | zero =>
  intro i x y h _ _
  exact evRet fun k => by simp only [spec_l3Join.l0]; rw [if_neg (by omega)]; rfl
 | succ n ih =>
  intro i x y h hx hy
  have h1 := addI_len i (maxI (floOf b i) (floOf e i)) (maxE (entOf a i) (entOf c i))
  have h2 := addF_len i (maxI (floOf b i) (floOf e i))
  have hr := ih (i + 1) (x ++ addI i (maxI (floOf b i) (floOf e i)) (maxE (entOf a i) (entOf c i))) (y ++ addF i (maxI (floOf b i) (floOf e i))) (by omega) (by rw [List.length_append]; omega) (by rw [List.length_append]; omega)
  simp only [okS, Bool.and_eq_true] at o1 o2
  have fa := flo_nonneg i b none o1.2
  have fc := flo_nonneg i e none o2.2
  have hmx : 0 ≤ maxI (floOf b i) (floOf e i) := by unfold maxI; split <;> omega
  have j3 : ∀ (z : Bool) (y' : List S58), (if z = true then ((entOf c i).1, (entOf c i).2.1, (entOf c i).2.2.1, (entOf c i).2.2.2.1, (entOf c i).2.2.2.2.1) else ((entOf a i).1, (entOf a i).2.1, (entOf a i).2.2.1, (entOf a i).2.2.2.1, (entOf a i).2.2.2.2.1)) = maxE (entOf a i) (entOf c i) →
    Ev (fun k => spec_l3Join.l0 k ((i : Int) + 1) a b c e (x ++ addI i (maxI (floOf b i) (floOf e i)) (maxE (entOf a i) (entOf c i))) y') (joinR a b c e n ((i : Int) + 1) (x ++ addI i (maxI (floOf b i) (floOf e i)) (maxE (entOf a i) (entOf c i))) (y ++ addF i (maxI (floOf b i) (floOf e i)))) →
    Ev (fun k => spec_l3Join.j3 k (i : Int) (maxI (floOf b i) (floOf e i)) z a b c e x y' (entOf c i).1 (entOf c i).2.1 (entOf c i).2.2.1 (entOf c i).2.2.2.1 (entOf c i).2.2.2.2.1 (entOf a i).1 (entOf a i).2.1 (entOf a i).2.2.1 (entOf a i).2.2.2.1 (entOf a i).2.2.2.2.1)
     (joinR a b c e n ((i : Int) + 1) (x ++ addI i (maxI (floOf b i) (floOf e i)) (maxE (entOf a i) (entOf c i))) (y ++ addF i (maxI (floOf b i) (floOf e i)))) := by
   intro z y' hz hv
   refine evSucc ?_
   simp only [spec_l3Join.j3]
   simp only [w64 (show (-9223372036854775808 : Int) ≤ (i : Int) + 1 by omega) (by omega), if_pos (show x.length < 2513169434916 by omega)]
   rw [← hz] at hv
   rw [← hz]
   cases z
   ·simp only [Bool.false_eq_true, if_false] at hv ⊢
    by_cases c1 : (entOf a i).1 > maxI (floOf b i) (floOf e i)
    ·simp only [if_pos c1]
     simp only [addI, if_pos c1] at hv ⊢
     exact hv
    ·simp only [if_neg c1]
     simp only [addI, if_neg c1, List.append_nil] at hv ⊢
     exact hv
   ·simp only [if_true] at hv ⊢
    by_cases c1 : (entOf c i).1 > maxI (floOf b i) (floOf e i)
    ·simp only [if_pos c1]
     simp only [addI, if_pos c1] at hv ⊢
     exact hv
    ·simp only [if_neg c1]
     simp only [addI, if_neg c1, List.append_nil] at hv ⊢
     exact hv
  have j1 : ∀ (y' : List S58),
    Ev (fun k => spec_l3Join.l0 k ((i : Int) + 1) a b c e (x ++ addI i (maxI (floOf b i) (floOf e i)) (maxE (entOf a i) (entOf c i))) y') (joinR a b c e n ((i : Int) + 1) (x ++ addI i (maxI (floOf b i) (floOf e i)) (maxE (entOf a i) (entOf c i))) (y ++ addF i (maxI (floOf b i) (floOf e i)))) →
    Ev (fun k => spec_l3Join.j1 k (i : Int) (maxI (floOf b i) (floOf e i)) a b c e x y')
     (joinR a b c e n ((i : Int) + 1) (x ++ addI i (maxI (floOf b i) (floOf e i)) (maxE (entOf a i) (entOf c i))) (y ++ addF i (maxI (floOf b i) (floOf e i)))) := by
   intro y' hv
   refine evSucc ?_
   simp only [spec_l3Join.j1]
   refine Ev.bind (spec_EntryOf_ev a b i ha) ?_
   refine Ev.bind (spec_EntryOf_ev c e i hc) ?_
   by_cases ca : (entOf a i).2.2.2.2.2 = true
   ·simp only [if_pos ca]
    refine evSucc ?_
    simp only [spec_l3Join.j2, Bool.false_eq_true, if_false]
    simp only [if_pos ca]
    have ia := ent_inc b i a none o1.1 ca
    by_cases cc : (entOf c i).2.2.2.2.2 = true
    ·simp only [if_pos cc]
     refine Ev.bind (spec_EntryCmp_ev _ _ _ _ _ _ _ _ _ _) ?_
     refine j3 _ y' ?_ hv
     have hn := ecmp_neg (entOf a i).1 (entOf a i).2.1 (entOf a i).2.2.1 (entOf a i).2.2.2.1 (entOf a i).2.2.2.2.1 (entOf c i).1 (entOf c i).2.1 (entOf c i).2.2.1 (entOf c i).2.2.2.1 (entOf c i).2.2.2.2.1
     unfold maxE
     simp only [decide_eq_true_eq]
     by_cases q : ecmp (entOf a i).1 (entOf a i).2.1 (entOf a i).2.2.1 (entOf a i).2.2.2.1 (entOf a i).2.2.2.2.1 (entOf c i).1 (entOf c i).2.1 (entOf c i).2.2.1 (entOf c i).2.2.2.1 (entOf c i).2.2.2.2.1 < 0
     ·rw [if_pos q, if_pos (by omega)]
     ·rw [if_neg q, if_neg (by omega)]
    ·simp only [if_neg cc]
     refine j3 false y' ?_ hv
     have e0 := ent_none i c cc
     unfold maxE
     rw [e0]
     have q : ¬ ecmp (entOf a i).1 (entOf a i).2.1 (entOf a i).2.2.1 (entOf a i).2.2.2.1 (entOf a i).2.2.2.2.1 0 0 0 0 (⟨#[]⟩ : ByteArray) < 0 := by
      have : cmpI (entOf a i).1 0 = 1 := by unfold cmpI; rw [if_neg (by omega), if_pos (by omega)]
      simp [ecmp, nz, this]
     rw [if_neg q]; rfl
   ·simp only [if_neg ca]
    have e0 := ent_none i a ca
    by_cases cc : (entOf c i).2.2.2.2.2 = true
    ·refine evSucc ?_
     simp only [spec_l3Join.j2, cc, Bool.not_true, Bool.false_eq_true, if_false]
     simp only [if_neg ca]
     refine j3 true y' ?_ hv
     have ic := ent_inc e i c none o2.1 cc
     unfold maxE
     rw [e0]
     have q : ecmp 0 0 0 0 (⟨#[]⟩ : ByteArray) (entOf c i).1 (entOf c i).2.1 (entOf c i).2.2.1 (entOf c i).2.2.2.1 (entOf c i).2.2.2.2.1 < 0 := by
      have : cmpI 0 (entOf c i).1 = -1 := by unfold cmpI; rw [if_pos (by omega)]
      simp [ecmp, nz, this]
     rw [if_pos q]; rfl
    ·have e1 := ent_none i c cc
     have hm : maxE (entOf a i) (entOf c i) = (0, 0, 0, 0, (⟨#[]⟩ : ByteArray)) := by
      rw [e0, e1]; unfold maxE; split <;> rfl
     have hA : addI i (maxI (floOf b i) (floOf e i)) (maxE (entOf a i) (entOf c i)) = [] := by
      rw [hm]; unfold addI; rw [if_neg (by show ¬ (0 : Int) > _; omega)]
     rw [hA, List.append_nil] at hv ⊢
     refine evSucc ?_
     simp only [Bool.not_eq_true] at cc
     simp only [spec_l3Join.j2, cc, Bool.not_false, if_true]
     simp only [w64 (show (-9223372036854775808 : Int) ≤ (i : Int) + 1 by omega) (by omega)]
     exact hv
  simp only [joinR]
  refine evSucc ?_
  simp only [spec_l3Join.l0, spec_l1Max_eq, Option.bind_some]
  simp only [if_pos (show (i : Int) < 5 by omega), if_pos (show y.length < 8796093022208 by omega)]
  refine Ev.bind (spec_FloorOf_ev b a i hb) ?_
  refine Ev.bind (spec_FloorOf_ev e c i he) ?_
  by_cases c2 : maxI (floOf b i) (floOf e i) > 0
  ·simp only [if_pos c2]
   refine j1 _ ?_
   simp only [addF, if_pos c2] at hr ⊢
   exact hr
  ·simp only [if_neg c2]
   refine j1 _ ?_
   simp only [addF, if_neg c2, List.append_nil] at hr ⊢
   exact hr
theorem spec_l3Join_ev (a : List S44) (b : List S58) (c : List S44) (e : List S58) (ha : a.length ≤ 2097152) (hb : b.length ≤ 2097152) (hc : c.length ≤ 2097152) (he : e.length ≤ 2097152) (o1 : okS a b = true) (o2 : okS c e = true) : Ev (fun k => spec_l3Join.f k a b c e) (joinS a b c e) :=
 spec_join_l a b c e ha hb hc he o1 o2 5 0 [] [] (by omega) (by simp) (by simp)
def joinO (a : List S44) (b : List S58) (c : List S44) (e : List S58) : List S44 × List S58 × Bool :=
 if okS a b = true then (if okS c e = true then ((joinS a b c e).1, (joinS a b c e).2, true) else ([], [], false)) else ([], [], false)
theorem impl_StateJoin_ev (a : List S44) (b : List S58) (c : List S44) (e : List S58) (ha : a.length ≤ 2097152) (hb : b.length ≤ 2097152) (hc : c.length ≤ 2097152) (he : e.length ≤ 2097152) : Ev (fun k => impl_StateJoin.f k a b c e) (joinO a b c e) := by
 simp only [impl_StateJoin.f, joinO]
 refine Ev.bind (impl_StateOk_ev a b ha hb) ?_
 by_cases o1 : okS a b = true
 ·simp only [if_pos o1]
  refine Ev.bind (impl_StateOk_ev c e hc he) ?_
  by_cases o2 : okS c e = true
  ·simp only [if_pos o2]
   refine Ev.bind (impl_stateJoin_ev a b c e ha hb hc he) ?_
   exact evSome _
  ·simp only [if_neg o2]; exact evSome _
 ·simp only [if_neg o1]; exact evSome _
abbrev E5 := Int × Int × Int × Int × ByteArray
def ent5 (x : EntT) : E5 := (x.1, x.2.1, x.2.2.1, x.2.2.2.1, x.2.2.2.2.1)
def ec (x y : E5) : Int := ecmp x.1 x.2.1 x.2.2.1 x.2.2.2.1 x.2.2.2.2 y.1 y.2.1 y.2.2.1 y.2.2.2.1 y.2.2.2.2
def mxE (x y : E5) : E5 := if ec x y < 0 then y else x
theorem maxE_eq (x y : EntT) : maxE x y = mxE (ent5 x) (ent5 y) := rfl
theorem cmpI_zero {a b : Int} (h : cmpI a b = 0) : a = b := by
 unfold cmpI at h
 by_cases h1 : a < b
 ·rw [if_pos h1] at h; omega
 ·rw [if_neg h1] at h
  by_cases h2 : a > b
  ·rw [if_pos h2] at h; omega
  ·omega
theorem cmpI_self (a : Int) : cmpI a a = 0 := by unfold cmpI; simp
theorem cmpB_zero : ∀ {x y : List UInt8}, Lib.compareBytes x y = 0 → x = y
 | [], [], _ => rfl
 | [], b :: q, h => by simp [Lib.compareBytes] at h
 | a :: p, [], h => by simp [Lib.compareBytes] at h
 | a :: p, b :: q, h => by
  unfold Lib.compareBytes at h
  rcases u8_lt_or a b with h1 | h1 | h1
  ·simp [h1] at h
  ·subst h1
   simp [u8_irrefl] at h
   rw [cmpB_zero h]
  ·have h2 := u8_asymm h1
   simp [h1, h2] at h
theorem cmpB_self : ∀ (x : List UInt8), Lib.compareBytes x x = 0
 | [] => by simp [Lib.compareBytes]
 | a :: p => by unfold Lib.compareBytes; simp [u8_irrefl, cmpB_self p]
theorem ec_unf (x y : E5) : ec x y = if cmpI x.1 y.1 ≠ 0 then cmpI x.1 y.1 else if cmpI x.2.1 y.2.1 ≠ 0 then cmpI x.2.1 y.2.1 else if cmpI x.2.2.1 y.2.2.1 ≠ 0 then cmpI x.2.2.1 y.2.2.1 else if cmpI x.2.2.2.1 y.2.2.2.1 ≠ 0 then cmpI x.2.2.2.1 y.2.2.2.1 else Lib.compareBytes x.2.2.2.2.data.toList y.2.2.2.2.data.toList := by
 unfold ec ecmp
 simp only [nz]
 repeat (first | (split <;> (try simp_all; done)) | rfl)
theorem ec_neg (x y : E5) : ec y x = - ec x y := ecmp_neg _ _ _ _ _ _ _ _ _ _
theorem ec_self (x : E5) : ec x x = 0 := by rw [ec_unf]; simp [cmpI_self, cmpB_self]
theorem bytes_ext {a b : ByteArray} (h : a.data.toList = b.data.toList) : a = b := by
 cases a; cases b
 simp at h
 congr
theorem ec_zero {x y : E5} (h : ec x y = 0) : x = y := by
 rw [ec_unf] at h
 by_cases h1 : cmpI x.1 y.1 = 0
 ·rw [if_neg (by simp [h1])] at h
  by_cases h2 : cmpI x.2.1 y.2.1 = 0
  ·rw [if_neg (by simp [h2])] at h
   by_cases h3 : cmpI x.2.2.1 y.2.2.1 = 0
   ·rw [if_neg (by simp [h3])] at h
    by_cases h4 : cmpI x.2.2.2.1 y.2.2.2.1 = 0
    ·rw [if_neg (by simp [h4])] at h
     have h5 := bytes_ext (cmpB_zero h)
     obtain ⟨a, b, c, d, s⟩ := x
     obtain ⟨a', b', c', d', s'⟩ := y
     simp only at h1 h2 h3 h4 h5
     rw [cmpI_zero h1, cmpI_zero h2, cmpI_zero h3, cmpI_zero h4, h5]
    ·rw [if_pos h4] at h; exact absurd h h4
   ·rw [if_pos h3] at h; exact absurd h h3
  ·rw [if_pos h2] at h; exact absurd h h2
 ·rw [if_pos h1] at h; exact absurd h h1
theorem ec_lt_iff (x y : E5) : ec x y < 0 ↔ (x.1 < y.1 ∨ x.1 = y.1 ∧ (x.2.1 < y.2.1 ∨ x.2.1 = y.2.1 ∧ (x.2.2.1 < y.2.2.1 ∨ x.2.2.1 = y.2.2.1 ∧ (x.2.2.2.1 < y.2.2.2.1 ∨ x.2.2.2.1 = y.2.2.2.1 ∧ Lib.compareBytes x.2.2.2.2.data.toList y.2.2.2.2.data.toList < 0)))) := by
 have key : ∀ (a b : Int) (r : Int) (p : Prop), (r < 0 ↔ p) → ((if cmpI a b ≠ 0 then cmpI a b else r) < 0 ↔ (a < b ∨ a = b ∧ p)) := by
  intro a b r p hp
  unfold cmpI
  by_cases h1 : a < b
  ·simp [h1]
  ·by_cases h2 : a > b
   ·simp [h1, h2]; omega
   ·have e : a = b := by omega
    subst e
    simp [hp]
 rw [ec_unf]
 exact key _ _ _ _ (key _ _ _ _ (key _ _ _ _ (key _ _ _ _ Iff.rfl)))
/-- x is y or behind it. -/
def leE (x y : E5) : Prop := ¬ ec y x < 0
theorem leE_refl (x : E5) : leE x x := by unfold leE; rw [ec_self]; omega
theorem leE_antisymm {x y : E5} (h : leE x y) (h2 : leE y x) : x = y := by
 unfold leE at h h2
 have := ec_neg x y
 exact ec_zero (by omega)
theorem mxE_left (x y : E5) : leE x (mxE x y) := by
 unfold mxE
 split
 ·rename_i h
  unfold leE
  have := ec_neg x y
  omega
 ·exact leE_refl x
theorem mxE_right (x y : E5) : leE y (mxE x y) := by
 unfold mxE
 split
 ·exact leE_refl y
 ·rename_i h; exact h
theorem mxE_or (x y : E5) : mxE x y = x ∨ mxE x y = y := by unfold mxE; split <;> simp
theorem mxE_lub {x y z : E5} (h : leE x z) (h2 : leE y z) : leE (mxE x y) z := by rcases mxE_or x y with e | e <;> rw [e] <;> assumption
theorem mxE_comm (x y : E5) : mxE x y = mxE y x := leE_antisymm (mxE_lub (mxE_right y x) (mxE_left y x)) (mxE_lub (mxE_right x y) (mxE_left x y))
theorem mxE_of_le {x y : E5} (h : leE x y) : mxE x y = y := leE_antisymm (mxE_lub h (leE_refl _)) (mxE_right _ _)
def zeroE : E5 := (0, 0, 0, 0, (⟨#[]⟩ : ByteArray))
theorem leE_zero {x : E5} (h : 1 ≤ x.1 ∨ x = zeroE) : leE zeroE x := by
 rcases h with h | rfl
 ·unfold leE
  rw [ec_lt_iff]
  rintro (h1 | ⟨h1, _⟩)
  ·simp only [zeroE] at h1; omega
  ·simp only [zeroE] at h1; omega
 ·exact leE_refl _
theorem maxI_comm (a b : Int) : maxI a b = maxI b a := by unfold maxI; split <;> split <;> omega
theorem maxI_le {a b : Int} : a ≤ maxI a b ∧ b ≤ maxI a b ∧ (maxI a b = a ∨ maxI a b = b) := by unfold maxI; split <;> omega
theorem flo_bd (a : Int) : ∀ (l : List S58) (p : Option Int), okF p l = true → 0 ≤ floOf l a ∧ floOf l a ≤ 1000
 | [], _, _ => by simp [floOf]
 | x :: r, p, h => by
  simp only [okF, Bool.and_eq_true, decide_eq_true_eq] at h
  simp only [floOf]
  split
  ·omega
  ·exact flo_bd a r (some x.f0) h.2.2.2
def kI (g : Int → Option E5) : Nat → Int → List S44
 | 0, _ => []
 | n + 1, i => (match g i with | some e => [⟨i, ⟨e.1, e.2.1, e.2.2.1, e.2.2.2.1, e.2.2.2.2⟩⟩] | none => []) ++ kI g n (i + 1)
def kF (f : Int → Int) : Nat → Int → List S58
 | 0, _ => []
 | n + 1, i => (if f i > 0 then [⟨i, f i⟩] else []) ++ kF f n (i + 1)
def oE (l : List S44) (a : Int) : Option E5 := if (entOf l a).2.2.2.2.2 = true then some (ent5 (entOf l a)) else none
theorem oE_nil (a : Int) : oE [] a = none := rfl
theorem oE_cons (x : S44) (l : List S44) (a : Int) : oE (x :: l) a = if x.f0 = a then some (x.f1.f0, x.f1.f1, x.f1.f2, x.f1.f3, x.f1.f4) else oE l a := by
 have h : entOf (x :: l) a = if x.f0 = a then (x.f1.f0, x.f1.f1, x.f1.f2, x.f1.f3, x.f1.f4, true) else entOf l a := rfl
 unfold oE
 rw [h]
 by_cases e : x.f0 = a
 ·simp only [if_pos e, if_true]; rfl
 ·simp only [if_neg e]
theorem oE_mem {l : List S44} {a : Int} {e : E5} (h : oE l a = some e) : ∃ x ∈ l, x.f0 = a ∧ e = (x.f1.f0, x.f1.f1, x.f1.f2, x.f1.f3, x.f1.f4) := by
 induction l with
 | nil => simp [oE_nil] at h
 | cons x l ih =>
  rw [oE_cons] at h
  by_cases c : x.f0 = a
  ·rw [if_pos c] at h
   exact ⟨x, List.mem_cons_self, c, (Option.some.inj h).symm⟩
  ·rw [if_neg c] at h
   obtain ⟨y, hy, h1⟩ := ih h
   exact ⟨y, List.mem_cons_of_mem _ hy, h1⟩
theorem oE_none {l : List S44} {a : Int} (h : ∀ x ∈ l, x.f0 ≠ a) : oE l a = none := by
 cases e : oE l a with
 | none => rfl
 | some v => obtain ⟨x, hx, h1, _⟩ := oE_mem e; exact absurd h1 (h x hx)
theorem ent_of (l : List S44) (a : Int) : entOf l a = match oE l a with | some e => (e.1, e.2.1, e.2.2.1, e.2.2.2.1, e.2.2.2.2, true) | none => (0, 0, 0, 0, (⟨#[]⟩ : ByteArray), false) := by
 unfold oE
 by_cases c : (entOf l a).2.2.2.2.2 = true
 ·rw [if_pos c]
  revert c
  generalize entOf l a = z
  obtain ⟨a1, a2, a3, a4, a5, a6⟩ := z
  intro c
  simp only at c
  subst c
  rfl
 ·rw [if_neg c]; exact ent_none a l c
def eZ (o : Option E5) : E5 := o.getD zeroE
theorem ent5_of (l : List S44) (a : Int) : ent5 (entOf l a) = eZ (oE l a) := by
 rw [ent_of]
 cases oE l a <;> rfl
/-- The ids lie in their order. -/
theorem okI_mem (b : List S58) : ∀ (l : List S44) (p : Option Int), okI b p l = true → ∀ x ∈ l, (0 ≤ x.f0 ∧ x.f0 ≤ 4) ∧ (∀ q, p = some q → q < x.f0) ∧ entryOkB x.f1.f0 x.f1.f1 x.f1.f2 x.f1.f3 x.f1.f4 = true ∧ floOf b x.f0 < x.f1.f0
 | [], _, _, x, hx => by simp at hx
 | y :: r, p, h, x, hx => by
  simp only [okI, Bool.and_eq_true, Bool.not_eq_true', decide_eq_false_iff_not] at h
  obtain ⟨h1, h2, h3, h4, h5⟩ := h
  have hy : ∀ q, p = some q → q < y.f0 := by
   intro q e
   subst e
   simp only [decide_eq_false_iff_not] at h2
   omega
  rcases List.mem_cons.1 hx with rfl | hx
  ·exact ⟨by simpa [nodeB] using h1, hy, h3, by omega⟩
  ·obtain ⟨z1, z2, z3⟩ := okI_mem b r (some y.f0) h5 x hx
   exact ⟨z1, fun q e => Int.lt_trans (hy q e) (z2 _ rfl), z3⟩
theorem okF_mem : ∀ (l : List S58) (p : Option Int), okF p l = true → ∀ x ∈ l, (0 ≤ x.f0 ∧ x.f0 ≤ 4) ∧ (∀ q, p = some q → q < x.f0) ∧ 1 ≤ x.f1 ∧ x.f1 ≤ 1000
 | [], _, _, x, hx => by simp at hx
 | y :: r, p, h, x, hx => by
  simp only [okF, Bool.and_eq_true, Bool.not_eq_true', decide_eq_true_eq] at h
  obtain ⟨h1, h2, h3, h5⟩ := h
  have hy : ∀ q, p = some q → q < y.f0 := by
   intro q e
   subst e
   simp only [decide_eq_false_iff_not] at h2
   omega
  rcases List.mem_cons.1 hx with rfl | hx
  ·exact ⟨by simpa [nodeB] using h1, hy, h3⟩
  ·obtain ⟨z1, z2, z3⟩ := okF_mem r (some y.f0) h5 x hx
   exact ⟨z1, fun q e => Int.lt_trans (hy q e) (z2 _ rfl), z3⟩
theorem kI_congr {g g' : Int → Option E5} : ∀ (n : Nat) (i : Int), (∀ j, i ≤ j → j < i + n → g j = g' j) → kI g n i = kI g' n i
 | 0, _, _ => rfl
 | n + 1, i, h => by
  simp only [kI]
  rw [h i (Int.le_refl _) (by omega), kI_congr n (i + 1) (fun j h1 h2 => h j (by omega) (by omega))]
theorem kF_congr {g g' : Int → Int} : ∀ (n : Nat) (i : Int), (∀ j, i ≤ j → j < i + n → g j = g' j) → kF g n i = kF g' n i
 | 0, _, _ => rfl
 | n + 1, i, h => by
  simp only [kF]
  rw [h i (Int.le_refl _) (by omega), kF_congr n (i + 1) (fun j h1 h2 => h j (by omega) (by omega))]
theorem kI_of (b : List S58) : ∀ (n : Nat) (i : Int) (l : List S44) (p : Option Int), i + n = 5 → okI b p l = true → (∀ x ∈ l, i ≤ x.f0) → l = kI (oE l) n i
 | 0, i, [], _, _, _, _ => rfl
 | 0, i, x :: l, p, h, ho, hi => by
  have h1 := hi x List.mem_cons_self
  have h2 := (okI_mem b _ p ho x List.mem_cons_self).1
  omega
 | n + 1, i, [], p, h, ho, hi => by
  simp only [kI, oE_nil, List.nil_append]
  have := kI_of b n (i + 1) [] p (by omega) ho (by simp)
  rw [← this]
 | n + 1, i, x :: l, p, h, ho, hi => by
  have ho2 : okI b (some x.f0) l = true := by simp only [okI, Bool.and_eq_true] at ho; exact ho.2.2.2.2
  have hm := okI_mem b l (some x.f0) ho2
  by_cases c : x.f0 = i
  ·have h1 := kI_of b n (i + 1) l (some x.f0) (by omega) ho2 (fun y hy => by have := (hm y hy).2.1 _ rfl; omega)
   simp only [kI]
   rw [oE_cons, if_pos c]
   simp only [List.singleton_append]
   rw [kI_congr (g' := oE l) n (i + 1) (fun j hj _ => by rw [oE_cons, if_neg (by omega)]), ← h1, ← c]
  ·have hx := hi x List.mem_cons_self
   have h1 := kI_of b n (i + 1) (x :: l) p (by omega) ho (fun y hy => by
    rcases List.mem_cons.1 hy with rfl | hy
    ·omega
    ·have := (hm y hy).2.1 _ rfl; omega)
   simp only [kI]
   rw [oE_none (l := x :: l) (a := i) (fun y hy => by
    rcases List.mem_cons.1 hy with rfl | hy
    ·exact c
    ·have := (hm y hy).2.1 _ rfl; omega)]
   simp only [List.nil_append]
   exact h1
theorem flo_cons (x : S58) (l : List S58) (a : Int) : floOf (x :: l) a = if x.f0 = a then x.f1 else floOf l a := rfl
theorem flo_zero {l : List S58} {a : Int} (h : ∀ x ∈ l, x.f0 ≠ a) : floOf l a = 0 := by
 induction l with
 | nil => rfl
 | cons x l ih => rw [flo_cons, if_neg (h x List.mem_cons_self)]; exact ih (fun y hy => h y (List.mem_cons_of_mem _ hy))
theorem kF_of : ∀ (n : Nat) (i : Int) (l : List S58) (p : Option Int), i + n = 5 → okF p l = true → (∀ x ∈ l, i ≤ x.f0) → l = kF (floOf l) n i
 | 0, i, [], _, _, _, _ => rfl
 | 0, i, x :: l, p, h, ho, hi => by
  have h1 := hi x List.mem_cons_self
  have h2 := (okF_mem _ p ho x List.mem_cons_self).1
  omega
 | n + 1, i, [], p, h, ho, hi => by
  simp only [kF]
  have := kF_of n (i + 1) [] p (by omega) ho (by simp)
  rw [← this]; simp [floOf]
 | n + 1, i, x :: l, p, h, ho, hi => by
  have ho2 : okF (some x.f0) l = true := by simp only [okF, Bool.and_eq_true] at ho; exact ho.2.2.2
  have hm := okF_mem l (some x.f0) ho2
  have hx1 := (okF_mem (x :: l) p ho x List.mem_cons_self).2.2
  by_cases c : x.f0 = i
  ·have h1 := kF_of n (i + 1) l (some x.f0) (by omega) ho2 (fun y hy => by have := (hm y hy).2.1 _ rfl; omega)
   simp only [kF]
   rw [flo_cons, if_pos c, if_pos (by omega)]
   simp only [List.singleton_append]
   rw [kF_congr (g' := floOf l) n (i + 1) (fun j hj _ => by rw [flo_cons, if_neg (by omega)]), ← h1, ← c]
  ·have hx := hi x List.mem_cons_self
   have h1 := kF_of n (i + 1) (x :: l) p (by omega) ho (fun y hy => by
    rcases List.mem_cons.1 hy with rfl | hy
    ·omega
    ·have := (hm y hy).2.1 _ rfl; omega)
   simp only [kF]
   rw [flo_zero (l := x :: l) (a := i) (fun y hy => by
    rcases List.mem_cons.1 hy with rfl | hy
    ·exact c
    ·have := (hm y hy).2.1 _ rfl; omega)]
   rw [if_neg (by omega)]
   simp only [List.nil_append]
   exact h1
theorem ok_items {a : List S44} {b : List S58} (h : okS a b = true) : a = kI (oE a) 5 0 := by
 simp only [okS, Bool.and_eq_true] at h
 exact kI_of b 5 0 a none (by omega) h.1 (fun x hx => (okI_mem b a none h.1 x hx).1.1)
theorem ok_floors {a : List S44} {b : List S58} (h : okS a b = true) : b = kF (floOf b) 5 0 := by
 simp only [okS, Bool.and_eq_true] at h
 exact kF_of 5 0 b none (by omega) h.2 (fun x hx => (okF_mem b none h.2 x hx).1.1)
theorem oE_kI (g : Int → Option E5) : ∀ (n : Nat) (i a : Int), oE (kI g n i) a = if i ≤ a ∧ a < i + n then g a else none
 | 0, i, a => by simp only [kI, oE_nil]; rw [if_neg (by omega)]
 | n + 1, i, a => by
  have ih := oE_kI g n (i + 1) a
  simp only [kI]
  by_cases c : i = a
  ·subst c
   rw [if_pos (by omega)]
   cases h : g i with
   | none => simp only [List.nil_append]; rw [ih, if_neg (by omega)]
   | some e => simp only [List.singleton_append]; rw [oE_cons, if_pos rfl]
  ·have e : oE (kI g n (i + 1)) a = if i ≤ a ∧ a < i + (n + 1 : Nat) then g a else none := by
    rw [ih]
    by_cases d : i + 1 ≤ a ∧ a < i + 1 + n
    ·rw [if_pos d, if_pos (by omega)]
    ·rw [if_neg d, if_neg (by omega)]
   cases h : g i with
   | none => simp only [List.nil_append]; exact e
   | some e' => simp only [List.singleton_append]; rw [oE_cons, if_neg c]; exact e
theorem flo_kF (f : Int → Int) (hf : ∀ j, 0 ≤ f j) : ∀ (n : Nat) (i a : Int), floOf (kF f n i) a = if i ≤ a ∧ a < i + n then f a else 0
 | 0, i, a => by simp only [kF]; rw [if_neg (by omega)]; rfl
 | n + 1, i, a => by
  have ih := flo_kF f hf n (i + 1) a
  have h0 := hf i
  simp only [kF]
  by_cases c : i = a
  ·subst c
   rw [if_pos (show i ≤ i ∧ i < i + (n + 1 : Nat) by omega)]
   by_cases h : f i > 0
   ·rw [if_pos h]; simp only [List.singleton_append]; rw [flo_cons, if_pos rfl]
   ·rw [if_neg h]; simp only [List.nil_append]; rw [ih, if_neg (by omega)]; omega
  ·have e : floOf (kF f n (i + 1)) a = if i ≤ a ∧ a < i + (n + 1 : Nat) then f a else 0 := by
    rw [ih]
    by_cases d : i + 1 ≤ a ∧ a < i + 1 + n
    ·rw [if_pos d, if_pos (by omega)]
    ·rw [if_neg d, if_neg (by omega)]
   by_cases h : f i > 0
   ·rw [if_pos h]; simp only [List.singleton_append]; rw [flo_cons, if_neg c]; exact e
   ·rw [if_neg h]; simp only [List.nil_append]; exact e
theorem kI_len (g : Int → Option E5) : ∀ (n : Nat) (i : Int), (kI g n i).length ≤ n
 | 0, _ => by simp [kI]
 | n + 1, i => by
  have := kI_len g n (i + 1)
  simp only [kI]
  cases g i <;> simp <;> omega
theorem kF_len (f : Int → Int) : ∀ (n : Nat) (i : Int), (kF f n i).length ≤ n
 | 0, _ => by simp [kF]
 | n + 1, i => by
  have := kF_len f n (i + 1)
  simp only [kF]
  split <;> simp <;> omega
theorem ok_len {a : List S44} {b : List S58} (h : okS a b = true) : a.length ≤ 5 ∧ b.length ≤ 5 := by
 constructor
 ·rw [ok_items h]; exact kI_len _ _ _
 ·rw [ok_floors h]; exact kF_len _ _ _
/-- A right entry over its floor, for each node. -/
def okP (g : Int → Option E5) (f : Int → Int) : Prop := ∀ i, (∀ e, g i = some e → entryOkB e.1 e.2.1 e.2.2.1 e.2.2.2.1 e.2.2.2.2 = true ∧ f i < e.1) ∧ 0 ≤ f i ∧ f i ≤ 1000
theorem okI_kI {b : List S58} {g : Int → Option E5} {f : Int → Int} (hg : okP g f) (hb : ∀ i, 0 ≤ i → i ≤ 4 → floOf b i = f i) : ∀ (n : Nat) (i : Int) (p : Option Int), 0 ≤ i → i + n = 5 → (∀ q, p = some q → q < i) → okI b p (kI g n i) = true
 | 0, _, _, _, _, _ => rfl
 | n + 1, i, p, h0, h5, hp => by
  simp only [kI]
  cases h : g i with
  | none => simp only [List.nil_append]; exact okI_kI hg hb n (i + 1) p (by omega) (by omega) (fun q e => by have := hp q e; omega)
  | some e =>
   obtain ⟨h1, h2⟩ := (hg i).1 e h
   simp only [List.singleton_append, okI, Bool.and_eq_true]
   refine ⟨by simp [nodeB]; omega, ?_, h1, ?_, okI_kI hg hb n (i + 1) (some i) (by omega) (by omega) (fun q e => by have := Option.some.inj e; omega)⟩
   ·cases p with
    | none => rfl
    | some q => have := hp q rfl; simp; omega
   ·rw [hb i h0 (by omega)]; simp; omega
theorem okF_kF {f : Int → Int} (hf : ∀ i, 0 ≤ f i ∧ f i ≤ 1000) : ∀ (n : Nat) (i : Int) (p : Option Int), 0 ≤ i → i + n = 5 → (∀ q, p = some q → q < i) → okF p (kF f n i) = true
 | 0, _, _, _, _, _ => rfl
 | n + 1, i, p, h0, h5, hp => by
  have h1 := hf i
  simp only [kF]
  by_cases h : f i > 0
  ·rw [if_pos h]
   simp only [List.singleton_append, okF, Bool.and_eq_true]
   refine ⟨by simp [nodeB]; omega, ?_, by simp; omega, okF_kF hf n (i + 1) (some i) (by omega) (by omega) (fun q e => by have := Option.some.inj e; omega)⟩
   cases p with
   | none => rfl
   | some q => have := hp q rfl; simp; omega
  ·rw [if_neg h]; simp only [List.nil_append]; exact okF_kF hf n (i + 1) p (by omega) (by omega) (fun q e => by have := hp q e; omega)
theorem ok_mk {g : Int → Option E5} {f : Int → Int} (h : okP g f) : okS (kI g 5 0) (kF f 5 0) = true := by
 simp only [okS, Bool.and_eq_true]
 refine ⟨okI_kI h (fun i h0 h4 => ?_) 5 0 none (by omega) (by omega) (fun q e => by cases e), okF_kF (fun i => (h i).2) 5 0 none (by omega) (by omega) (fun q e => by cases e)⟩
 rw [flo_kF f (fun j => (h j).2.1), if_pos (by omega)]
theorem okP_of {a : List S44} {b : List S58} (h : okS a b = true) : okP (oE a) (floOf b) := by
 simp only [okS, Bool.and_eq_true] at h
 intro i
 refine ⟨fun e he => ?_, flo_bd i b none h.2⟩
 obtain ⟨x, hx, h1, rfl⟩ := oE_mem he
 obtain ⟨_, _, h3, h4⟩ := okI_mem b a none h.1 x hx
 exact ⟨h3, by rw [← h1]; exact h4⟩
/-- What the join holds. -/
def jE (x y : Option E5) (f : Int) : Option E5 := if (mxE (eZ x) (eZ y)).1 > f then some (mxE (eZ x) (eZ y)) else none
def jF (a b : Int) : Int := maxI a b
theorem joinR_eq (a : List S44) (b : List S58) (c : List S44) (e : List S58) : ∀ (n : Nat) (i : Int) (x : List S44) (y : List S58),
  joinR a b c e n i x y = (x ++ kI (fun j => jE (oE a j) (oE c j) (jF (floOf b j) (floOf e j))) n i, y ++ kF (fun j => jF (floOf b j) (floOf e j)) n i)
 | 0, i, x, y => by simp [joinR, kI, kF]
 | n + 1, i, x, y => by
  simp only [joinR]
  rw [joinR_eq a b c e n (i + 1)]
  simp only [kI, kF, List.append_assoc, maxE_eq, ent5_of]
  congr 2
  ·congr 1
   unfold addI jE jF
   by_cases h : (mxE (eZ (oE a i)) (eZ (oE c i))).1 > maxI (floOf b i) (floOf e i)
   ·rw [if_pos h, if_pos h]
   ·rw [if_neg h, if_neg h]
theorem joinS_eq (a : List S44) (b : List S58) (c : List S44) (e : List S58) : joinS a b c e = (kI (fun j => jE (oE a j) (oE c j) (jF (floOf b j) (floOf e j))) 5 0, kF (fun j => jF (floOf b j) (floOf e j)) 5 0) := by
 unfold joinS; rw [joinR_eq]; simp
theorem jE_some {x y : Option E5} {f : Int} {e : E5} (hf : 0 ≤ f) (h : jE x y f = some e) : (x = some e ∨ y = some e) ∧ f < e.1 := by
 unfold jE at h
 by_cases c : (mxE (eZ x) (eZ y)).1 > f
 ·rw [if_pos c] at h
  have h := Option.some.inj h
  refine ⟨?_, by rw [h] at c; exact c⟩
  rcases mxE_or (eZ x) (eZ y) with h1 | h1
  ·left
   rw [h1] at h c
   cases x with
   | none => simp [eZ, zeroE] at c; omega
   | some v => exact congrArg some h
  ·right
   rw [h1] at h c
   cases y with
   | none => simp [eZ, zeroE] at c; omega
   | some v => exact congrArg some h
 ·rw [if_neg c] at h; cases h
theorem okP_join {g g' : Int → Option E5} {f f' : Int → Int} (h : okP g f) (h' : okP g' f') : okP (fun j => jE (g j) (g' j) (jF (f j) (f' j))) (fun j => jF (f j) (f' j)) := by
 intro i
 have h1 := (h i).2
 have h2 := (h' i).2
 have h3 := maxI_le (a := f i) (b := f' i)
 have h4 : 0 ≤ jF (f i) (f' i) ∧ jF (f i) (f' i) ≤ 1000 := by unfold jF; omega
 refine ⟨fun e he => ?_, h4⟩
 obtain ⟨h5, h6⟩ := jE_some h4.1 he
 rcases h5 with h5 | h5
 ·exact ⟨((h i).1 e h5).1, h6⟩
 ·exact ⟨((h' i).1 e h5).1, h6⟩
theorem join_ok {a : List S44} {b : List S58} {c : List S44} {e : List S58} (h : okS a b = true) (h' : okS c e = true) : okS (joinS a b c e).1 (joinS a b c e).2 = true := by
 rw [joinS_eq]
 exact ok_mk (okP_join (okP_of h) (okP_of h'))
theorem join_E {a : List S44} {b : List S58} {c : List S44} {e : List S58} {i : Int} (h0 : 0 ≤ i) (h4 : i ≤ 4) : oE (joinS a b c e).1 i = jE (oE a i) (oE c i) (jF (floOf b i) (floOf e i)) := by
 rw [joinS_eq]; simp only; rw [oE_kI, if_pos (by omega)]
theorem okP_zero {g : Int → Option E5} {f : Int → Int} (h : okP g f) (i : Int) : leE zeroE (eZ (g i)) := by
 cases e : g i with
 | none => exact leE_refl _
 | some v =>
  have := (h i).1 v e
  have h2 := (h i).2
  exact leE_zero (.inl (by simp only [eZ, Option.getD_some]; omega))
theorem jE_comm (x y : Option E5) (f : Int) : jE x y f = jE y x f := by unfold jE; rw [mxE_comm]
theorem join_comm {a : List S44} {b : List S58} {c : List S44} {e : List S58} : joinS a b c e = joinS c e a b := by
 rw [joinS_eq, joinS_eq]
 congr 2
 ·funext j; rw [jE_comm]; unfold jF; rw [maxI_comm]
 ·funext j; unfold jF; rw [maxI_comm]
/-- One that is beneath what is there changes nothing. -/
theorem jE_le {x y : Option E5} {f : Int} (hf : 0 ≤ f) (h : leE (eZ y) (eZ x)) (hx : ∀ e, x = some e → f < e.1) : jE x y f = x := by
 unfold jE
 rw [mxE_comm, mxE_of_le h]
 cases x with
 | none => rw [if_neg (by simp [eZ, zeroE]; omega)]
 | some v => rw [if_pos (by have := hx v rfl; simpa [eZ] using this)]; rfl
theorem sameI_self : ∀ (l : List S44), sameI l l = true
 | [] => rfl
 | x :: l => by simp [sameI, sameI_self l]
theorem sameF_self : ∀ (l : List S58), sameF l l = true
 | [] => rfl
 | x :: l => by simp [sameF, sameF_self l]
theorem sameS_self (a : List S44) (b : List S58) : sameS a b a b = true := by simp [sameS, sameI_self, sameF_self]
def viewI (l : List S44) : List S44 := l.filter fun x => decide (x.f1.f1 = 0)
def viewR (l : List S44) (fl : List S58) : List S44 := if okS l fl = true then viewI l else []
theorem viewI_len (l : List S44) : (viewI l).length ≤ l.length := List.length_filter_le _ _
theorem spec_View_l (l : List S44) (fl : List S58) (hl : l.length ≤ 2097152) : ∀ (d i : Nat) (acc : List S44), i + d = l.length → acc.length ≤ i → Ev (fun k => spec_View.l0 k acc (i : Int) l fl) (acc ++ viewI (l.drop i)) := by
 intro d
 induction d with
 | zero =>
  intro i acc h _
  rw [List.drop_eq_nil_of_le (by omega)]
  refine evRet fun k => ?_
  simp only [spec_View.l0]; rw [if_neg (by omega)]; simp [viewI]
 | succ d ih =>
  intro i acc h ha
  have hi : i < l.length := by omega
  rw [List.drop_eq_getElem_cons hi]
  refine evSucc ?_
  simp only [spec_View.l0, rdI hi]
  simp only [if_pos (show (i : Int) < (l.length : Int) by omega), if_pos (show (0 : Int) ≤ (i : Int) by omega), w64 (show (-9223372036854775808 : Int) ≤ (i : Int) + 1 by omega) (by omega), if_pos (show acc.length < 2513169434916 by omega)]
  by_cases h0 : l[i].f1.f1 = 0
  ·simp only [if_pos h0]
   have e : viewI (l[i] :: l.drop (i + 1)) = l[i] :: viewI (l.drop (i + 1)) := by simp only [viewI]; rw [List.filter_cons_of_pos (by simpa using h0)]
   rw [e]
   have := ih (i + 1) (acc ++ [l[i]]) (by omega) (by simp; omega)
   rw [List.append_assoc, List.singleton_append] at this
   exact this
  ·simp only [if_neg h0]
   have e : viewI (l[i] :: l.drop (i + 1)) = viewI (l.drop (i + 1)) := by simp only [viewI]; rw [List.filter_cons_of_neg (by simpa using h0)]
   rw [e]
   exact ih (i + 1) acc (by omega) (by omega)
theorem spec_View_ev (l : List S44) (fl : List S58) (hl : l.length ≤ 2097152) (hf : fl.length ≤ 2097152) : Ev (fun k => spec_View.f k l fl) (viewR l fl) := by
 simp only [spec_View.f, Option.bind_some]
 refine Ev.bind (spec_StateOk_ev l fl hl hf) ?_
 by_cases h : okS l fl = true
 ·simp only [if_pos h, viewR]
  exact spec_View_l l fl hl l.length 0 [] (by omega) (by simp)
 ·simp only [if_neg h, viewR]; exact evSome _
theorem impl_View_l (l : List S44) (hl : l.length ≤ 2097152) : ∀ (d i : Nat) (acc : List S44), i + d = l.length → acc.length ≤ i → Ev (fun k => impl_View.l0 k acc l (l.length : Int) (i : Int)) (acc ++ viewI (l.drop i)) := by
 intro d
 induction d with
 | zero =>
  intro i acc h _
  rw [List.drop_eq_nil_of_le (by omega)]
  refine evRet fun k => ?_
  simp only [impl_View.l0]; rw [if_neg (by omega)]; simp [viewI]
 | succ d ih =>
  intro i acc h ha
  have hi : i < l.length := by omega
  rw [List.drop_eq_getElem_cons hi]
  refine evSucc ?_
  simp only [impl_View.l0, rdI hi]
  simp only [if_pos (show (i : Int) < (l.length : Int) by omega), if_pos (show (0 : Int) ≤ (i : Int) by omega), w64 (show (-9223372036854775808 : Int) ≤ (i : Int) + 1 by omega) (by omega), if_pos (show acc.length < 2513169434916 by omega)]
  by_cases h0 : l[i].f1.f1 = 0
  ·simp only [if_pos h0]
   have e : viewI (l[i] :: l.drop (i + 1)) = l[i] :: viewI (l.drop (i + 1)) := by simp only [viewI]; rw [List.filter_cons_of_pos (by simpa using h0)]
   rw [e]
   have := ih (i + 1) (acc ++ [l[i]]) (by omega) (by simp; omega)
   rw [List.append_assoc, List.singleton_append] at this
   exact this
  ·simp only [if_neg h0]
   have e : viewI (l[i] :: l.drop (i + 1)) = viewI (l.drop (i + 1)) := by simp only [viewI]; rw [List.filter_cons_of_neg (by simpa using h0)]
   rw [e]
   exact ih (i + 1) acc (by omega) (by omega)
theorem impl_View_ev (l : List S44) (fl : List S58) (hl : l.length ≤ 2097152) (hf : fl.length ≤ 2097152) : Ev (fun k => impl_View.f k l fl) (viewR l fl) := by
 simp only [impl_View.f, Option.bind_some]
 refine Ev.bind (impl_StateOk_ev l fl hl hf) ?_
 by_cases h : okS l fl = true
 ·simp only [if_pos h, viewR]
  exact impl_View_l l hl l.length 0 [] (by omega) (by simp)
 ·simp only [if_neg h, viewR]; exact evSome _
theorem viewR_len (l : List S44) (fl : List S58) : (viewR l fl).length ≤ l.length := by
 unfold viewR; split
 ·exact viewI_len l
 ·simp
theorem spec_Lookup_ev (l : List S44) (fl : List S58) (a : Int) (hl : l.length ≤ 2097152) (hf : fl.length ≤ 2097152) : Ev (fun k => spec_Lookup.f k l fl a) (entOf (viewR l fl) a) := by
 simp only [spec_Lookup.f]
 refine Ev.bind (spec_View_ev l fl hl hf) ?_
 refine Ev.bind (spec_EntryOf_ev _ [] a (by have := viewR_len l fl; omega)) ?_
 exact evSome _
theorem impl_Lookup_ev (l : List S44) (fl : List S58) (a : Int) (hl : l.length ≤ 2097152) (hf : fl.length ≤ 2097152) : Ev (fun k => impl_Lookup.f k l fl a) (entOf (viewR l fl) a) := by
 simp only [impl_Lookup.f]
 refine Ev.bind (impl_View_ev l fl hl hf) ?_
 refine Ev.bind (impl_EntryOf_ev _ [] a (by have := viewR_len l fl; omega)) ?_
 exact evSome _
def upR (l : List S44) (fl : List S58) (a : Int) : Int × Int × Int × Int × ByteArray × Int :=
 if (okS l fl && nodeB a) = true then (if (entOf (viewR l fl) a).2.2.2.2.2 = true then ((entOf (viewR l fl) a).1, (entOf (viewR l fl) a).2.1, (entOf (viewR l fl) a).2.2.1, (entOf (viewR l fl) a).2.2.2.1, (entOf (viewR l fl) a).2.2.2.2.1, 0) else (0, 0, 0, 0, (⟨#[]⟩ : ByteArray), 3)) else (0, 0, 0, 0, (⟨#[]⟩ : ByteArray), 1)
theorem impl_present_ev (l : List S44) (fl : List S58) (a : Int) (hl : l.length ≤ 2097152) (hf : fl.length ≤ 2097152) : Ev (fun k => impl_present.f k l fl a) (upR l fl a) := by
 simp only [impl_present.f, impl_isNode_eq, Option.bind_some]
 refine Ev.bind (impl_StateOk_ev l fl hl hf) ?_
 cases h : okS l fl
 ·simp only [Bool.false_eq_true, if_false]
  refine evSucc ?_
  simp only [impl_present.j0, if_true, upR, h, Bool.false_and, Bool.false_eq_true, if_false]
  exact evSome _
 ·simp only [if_true]
  refine evSucc ?_
  cases hn : nodeB a
  ·simp only [impl_present.j0, upR, h, hn, Bool.not_false, Bool.and_false, if_true, Bool.false_eq_true, if_false]
   exact evSome _
  ·simp only [impl_present.j0, upR, h, hn, Bool.not_true, Bool.and_self, if_true, Bool.false_eq_true, if_false]
   refine Ev.bind (impl_Lookup_ev l fl a hl hf) ?_
   by_cases q : (entOf (viewR l fl) a).2.2.2.2.2 = true
   ·simp only [if_pos q]; exact evSome _
   ·simp only [if_neg q]; exact evSome _
theorem ent_ok (b : List S58) (a : Int) : ∀ (l : List S44) (p : Option Int), okI b p l = true → (entOf (viewI l) a).2.2.2.2.2 = true → entryOkB (entOf (viewI l) a).1 (entOf (viewI l) a).2.1 (entOf (viewI l) a).2.2.1 (entOf (viewI l) a).2.2.2.1 (entOf (viewI l) a).2.2.2.2.1 = true
 | [], _, _, h => by simp [entOf, viewI] at h
 | x :: r, p, h, h2 => by
  simp only [okI, Bool.and_eq_true] at h
  obtain ⟨_, _, h3, _, h4⟩ := h
  by_cases v : x.f1.f1 = 0
  ·have e : viewI (x :: r) = x :: viewI r := by simp only [viewI]; rw [List.filter_cons_of_pos (by simpa using v)]
   rw [e] at h2 ⊢
   simp only [entOf] at h2 ⊢
   by_cases e : x.f0 = a
   ·rw [if_pos e]; exact h3
   ·rw [if_neg e] at h2 ⊢
    exact ent_ok b a r (some x.f0) h4 h2
  ·have e : viewI (x :: r) = viewI r := by simp only [viewI]; rw [List.filter_cons_of_neg (by simpa using v)]
   rw [e] at h2 ⊢
   exact ent_ok b a r (some x.f0) h4 h2
theorem up_ok (l : List S44) (fl : List S58) (a : Int) (h : (upR l fl a).2.2.2.2.2 = 0) : nodeB a = true ∧ entryOkB (upR l fl a).1 (upR l fl a).2.1 (upR l fl a).2.2.1 (upR l fl a).2.2.2.1 (upR l fl a).2.2.2.2.1 = true := by
 unfold upR at h ⊢
 by_cases c : (okS l fl && nodeB a) = true
 ·rw [if_pos c] at h ⊢
  simp only [Bool.and_eq_true] at c
  by_cases q : (entOf (viewR l fl) a).2.2.2.2.2 = true
  ·rw [if_pos q] at h ⊢
   refine ⟨c.2, ?_⟩
   have hv : viewR l fl = viewI l := by unfold viewR; rw [if_pos c.1]
   rw [hv] at q ⊢
   have o := c.1
   simp only [okS, Bool.and_eq_true] at o
   exact ent_ok fl a l none o.1 q
  ·rw [if_neg q] at h; exact absurd h (by simp)
 ·rw [if_neg c] at h; exact absurd h (by simp)
theorem okS_one (a i r b v : Int) (s : ByteArray) (hn : nodeB a = true) (he : entryOkB i r b v s = true) : okS [⟨a, ⟨i, r, b, v, s⟩⟩] [] = true := by
 have hi : ¬ i ≤ 0 := by simp only [entryOkB, Bool.and_eq_true, decide_eq_true_eq] at he; omega
 simp [okS, okI, okF, hn, he, floOf, hi]
def oneR (a i r b v : Int) (s : ByteArray) : List S44 × List S58 × Int := ([⟨a, ⟨i, r, b, v, s⟩⟩], [], 0)
theorem spec_l5One_ev (a i r b v : Int) (s : ByteArray) (hn : nodeB a = true) (he : entryOkB i r b v s = true) : Ev (fun k => spec_l5One.f k a i r b v s) (oneR a i r b v s) := by
 simp only [spec_l5One.f, spec_Single.f, Option.bind_some]
 have h : Ev (fun k => (spec_StateOk.f k [⟨a, ⟨i, r, b, v, s⟩⟩] []).bind fun t => if t = true then some (([⟨a, ⟨i, r, b, v, s⟩⟩] : List S44), ([] : List S58), true) else some ([], [], false)) ([⟨a, ⟨i, r, b, v, s⟩⟩], [], true) := by
  refine Ev.bind (spec_StateOk_ev _ _ (by simp) (by simp)) ?_
  simp only [if_pos (okS_one a i r b v s hn he)]
  exact evSome _
 refine Ev.bind h ?_
 exact evSome _
theorem impl_saying_eq (a i r b v : Int) (s : ByteArray) : impl_saying.f a i r b v s = some (oneR a i r b v s) := rfl
theorem spec_l5Up_ev (l : List S44) (fl : List S58) (a : Int) (hl : l.length ≤ 2097152) (hf : fl.length ≤ 2097152) : Ev (fun k => spec_l5Up.f k l fl a) (upR l fl a) := by
 simp only [spec_l5Up.f, spec_l3Node_eq, Option.bind_some]
 refine Ev.bind (spec_StateOk_ev l fl hl hf) ?_
 cases h : okS l fl
 ·simp only [Bool.false_eq_true, if_false]
  refine evSucc ?_
  simp only [spec_l5Up.j0, if_true, upR, h, Bool.false_and, Bool.false_eq_true, if_false]
  exact evSome _
 ·simp only [if_true]
  refine evSucc ?_
  cases hn : nodeB a
  ·simp only [spec_l5Up.j0, upR, h, hn, Bool.not_false, Bool.and_false, if_true, Bool.false_eq_true, if_false]
   exact evSome _
  ·simp only [spec_l5Up.j0, upR, h, hn, Bool.not_true, Bool.and_self, if_true, Bool.false_eq_true, if_false]
   refine Ev.bind (spec_Lookup_ev l fl a hl hf) ?_
   by_cases q : (entOf (viewR l fl) a).2.2.2.2.2 = true
   ·simp only [if_pos q]; exact evSome _
   ·simp only [if_neg q]; exact evSome _
theorem ent_flag (b : List S58) (a : Int) : ∀ (l : List S44) (p : Option Int), okI b p l = true → (entOf l a).2.2.2.2.2 = true → (entOf l a).2.1 = 0 ∨ (entOf l a).2.1 = 1
 | [], _, _, h => by simp [entOf] at h
 | x :: r, p, h, h2 => by
  simp only [okI, Bool.and_eq_true] at h
  obtain ⟨_, _, h3, _, h4⟩ := h
  simp only [entOf] at h2 ⊢
  by_cases e : x.f0 = a
  ·rw [if_pos e]
   simp only [entryOkB, Bool.and_eq_true, decide_eq_true_eq] at h3
   obtain ⟨_, h5, _⟩ := h3
   show x.f1.f1 = 0 ∨ x.f1.f1 = 1
   omega
  ·rw [if_neg e] at h2 ⊢
   exact ent_flag b a r (some x.f0) h4 h2
def goneA (l : List S44) (fl : List S58) (a : Int) : Int :=
 if okS l fl = true then (if (entOf l a).2.2.2.2.2 = true then (if (entOf l a).2.1 = 0 then wrap64 ((entOf l a).1 - 1) else (entOf l a).1) else floOf fl a) else 0
theorem impl_GoneAt_ev (l : List S44) (fl : List S58) (a : Int) (hl : l.length ≤ 2097152) (hf : fl.length ≤ 2097152) : Ev (fun k => impl_GoneAt.f k l fl a) (goneA l fl a) := by
 simp only [impl_GoneAt.f]
 refine Ev.bind (impl_StateOk_ev l fl hl hf) ?_
 by_cases h : okS l fl = true
 ·simp only [if_pos h, goneA]
  refine Ev.bind (impl_EntryOf_ev l fl a hl) ?_
  by_cases h2 : (entOf l a).2.2.2.2.2 = true
  ·simp only [if_pos h2]
   have hk : okI fl none l = true := by simp only [okS, Bool.and_eq_true] at h; exact h.1
   have := ent_flag fl a l none hk h2
   by_cases h3 : (entOf l a).2.1 = 0
   ·simp only [if_pos h3, if_neg (show ¬ (entOf l a).2.1 = 1 by omega)]; exact evSome _
   ·simp only [if_neg h3, if_pos (show (entOf l a).2.1 = 1 by omega)]; exact evSome _
  ·simp only [if_neg h2]
   refine Ev.bind (impl_FloorOf_ev fl l a hf) ?_
   exact evSome _
 ·simp only [if_neg h, goneA]; exact evSome _
theorem ent_flo (b : List S58) (a : Int) : ∀ (l : List S44) (p : Option Int), okI b p l = true → (entOf l a).2.2.2.2.2 = true → floOf b a < (entOf l a).1 ∧ (entOf l a).1 ≤ 1000
 | [], _, _, h => by simp [entOf] at h
 | x :: r, p, h, h2 => by
  simp only [okI, Bool.and_eq_true] at h
  obtain ⟨_, _, h3, h5, h4⟩ := h
  simp only [entOf] at h2 ⊢
  by_cases e : x.f0 = a
  ·rw [if_pos e]
   simp only [entryOkB, Bool.and_eq_true, decide_eq_true_eq] at h3
   simp only [Bool.not_eq_true', decide_eq_false_iff_not, e] at h5
   exact ⟨by show floOf b a < x.f1.f0; omega, h3.1.2⟩
  ·rw [if_neg e] at h2 ⊢
   exact ent_flo b a r (some x.f0) h4 h2
theorem flo_le (a : Int) : ∀ (l : List S58) (p : Option Int), okF p l = true → 0 ≤ floOf l a ∧ floOf l a ≤ 1000
 | [], _, _ => by simp [floOf]
 | x :: r, p, h => by
  simp only [okF, Bool.and_eq_true, decide_eq_true_eq] at h
  simp only [floOf]
  split
  ·omega
  ·exact flo_le a r (some x.f0) h.2.2.2
theorem ent_no (a : Int) : ∀ (l : List S44), ¬ (entOf l a).2.2.2.2.2 = true → entOf l a = (0, 0, 0, 0, (⟨#[]⟩ : ByteArray), false)
 | [], _ => rfl
 | x :: r, h => by
  simp only [entOf] at h ⊢
  by_cases e : x.f0 = a
  ·rw [if_pos e] at h; exact absurd rfl h
  ·rw [if_neg e] at h ⊢
   exact ent_no a r h
def topI (l : List S44) (fl : List S58) (a : Int) : Int := if (entOf l a).2.2.2.2.2 = true then (entOf l a).1 else floOf fl a
def saidR (l : List S44) (fl : List S58) (a : Int) : List S44 × List S58 × Int :=
 if (upR l fl a).2.2.2.2.2 = 1 then ([], [], 1) else (if (upR l fl a).2.2.2.2.2 = 0 then ([], [], 2) else (if topI l fl a = 1000 then ([], [], 4) else oneR a (topI l fl a + 1) 0 0 0 (⟨#[]⟩ : ByteArray)))
theorem top_bound (l : List S44) (fl : List S58) (a : Int) (h : okS l fl = true) : 0 ≤ topI l fl a ∧ topI l fl a ≤ 1000 := by
 simp only [okS, Bool.and_eq_true] at h
 have hf := flo_le a fl none h.2
 unfold topI
 split
 ·rename_i q
  have := ent_flo fl a l none h.1 q
  omega
 ·exact hf
theorem impl_Say_ev (l : List S44) (fl : List S58) (a : Int) (hl : l.length ≤ 2097152) (hf : fl.length ≤ 2097152) : Ev (fun k => impl_SayJoin.f k l fl a) (saidR l fl a) := by
 simp only [impl_SayJoin.f, saidR, impl_saying_eq, Option.bind_some]
 refine Ev.bind (impl_present_ev l fl a hl hf) ?_
 by_cases h : (upR l fl a).2.2.2.2.2 = 1
 ·simp only [if_pos h]; exact evSome _
 simp only [if_neg h]
 by_cases h0 : (upR l fl a).2.2.2.2.2 = 0
 ·simp only [if_pos h0]; exact evSome _
 simp only [if_neg h0]
 have ho : okS l fl = true := by
  cases q : okS l fl
  ·exact absurd (by simp [upR, q]) h
  ·rfl
 have hb := top_bound l fl a ho
 refine Ev.bind (impl_FloorOf_ev fl l a hf) ?_
 refine Ev.bind (impl_EntryOf_ev l fl a hl) ?_
 unfold topI at hb ⊢
 by_cases q : (entOf l a).2.2.2.2.2 = true
 ·simp only [if_pos q] at hb ⊢
  by_cases z : (entOf l a).1 = 1000
  ·simp only [if_pos z]; exact evSome _
  ·simp only [if_neg z]; rw [w64 (by omega) (by omega)]; exact evSome _
 ·simp only [if_neg q] at hb ⊢
  by_cases z : floOf fl a = 1000
  ·simp only [if_pos z]; exact evSome _
  ·simp only [if_neg z]; rw [w64 (by omega) (by omega)]; exact evSome _
theorem spec_Say_ev (l : List S44) (fl : List S58) (a : Int) (hl : l.length ≤ 2097152) (hf : fl.length ≤ 2097152) : Ev (fun k => spec_SayJoin.f k l fl a) (saidR l fl a) := by
 simp only [spec_SayJoin.f, spec_l3Node_eq, Option.bind_some]
 refine Ev.bind (spec_StateOk_ev l fl hl hf) ?_
 cases h : okS l fl
 ·simp only [Bool.false_eq_true, if_false]
  refine evSucc ?_
  have e : saidR l fl a = ([], [], 1) := by simp [saidR, upR, h]
  rw [e]
  simp only [spec_SayJoin.j0, if_true]
  exact evSome _
 ·simp only [if_true]
  refine evSucc ?_
  cases hn : nodeB a
  ·have e : saidR l fl a = ([], [], 1) := by simp [saidR, upR, hn]
   rw [e]
   simp only [spec_SayJoin.j0, Bool.not_false, if_true]
   exact evSome _
  ·simp only [spec_SayJoin.j0, Bool.not_true, Bool.false_eq_true, if_false]
   refine Ev.bind (spec_Lookup_ev l fl a hl hf) ?_
   by_cases q : (entOf (viewR l fl) a).2.2.2.2.2 = true
   ·simp only [if_pos q]
    have e : saidR l fl a = ([], [], 2) := by simp [saidR, upR, h, hn, q]
    rw [e]; exact evSome _
   ·simp only [if_neg q]
    have hb := top_bound l fl a h
    refine Ev.bind (spec_EntryOf_ev l fl a hl) ?_
    refine Ev.bind (spec_FloorOf_ev fl l a hf) ?_
    have ho := h
    simp only [okS, Bool.and_eq_true] at ho
    have ef := flo_le a fl none ho.2
    have em : spec_l1Max.f (entOf l a).1 (floOf fl a) = some (topI l fl a) := by
     unfold spec_l1Max.f topI
     by_cases z : (entOf l a).2.2.2.2.2 = true
     ·have := ent_flo fl a l none ho.1 z
      rw [if_pos z, if_pos (by omega)]
     ·have := ent_no a l z
      rw [if_neg z, this, if_neg (by show ¬ (0 : Int) > _; omega)]
    simp only [em, Option.bind_some]
    have e : saidR l fl a = if topI l fl a = 1000 then ([], [], 4) else oneR a (topI l fl a + 1) 0 0 0 (⟨#[]⟩ : ByteArray) := by simp [saidR, upR, h, hn, q]
    rw [e]
    by_cases z : topI l fl a = 1000
    ·simp only [if_pos z]; exact evSome _
    ·simp only [if_neg z]
     rw [w64 (by omega) (by omega)]
     refine Ev.bind (spec_l5One_ev _ _ _ _ _ _ hn (by simp only [entryOkB, Bool.and_eq_true, decide_eq_true_eq]; refine ⟨by omega, by omega, by omega, by omega, by simp [ByteArray.size]⟩)) ?_
     exact evSome _
def beatR (l : List S44) (fl : List S58) (a : Int) : List S44 × List S58 × Int :=
 if (upR l fl a).2.2.2.2.2 = 0 then (if (upR l fl a).2.2.1 = 100000 then ([], [], 4) else (oneR a (upR l fl a).1 (upR l fl a).2.1 ((upR l fl a).2.2.1 + 1) (upR l fl a).2.2.2.1 (upR l fl a).2.2.2.2.1)) else ([], [], (upR l fl a).2.2.2.2.2)
theorem spec_Beat_ev (l : List S44) (fl : List S58) (a : Int) (hl : l.length ≤ 2097152) (hf : fl.length ≤ 2097152) : Ev (fun k => spec_SayBeat.f k l fl a) (beatR l fl a) := by
 simp only [spec_SayBeat.f, beatR]
 refine Ev.bind (spec_l5Up_ev l fl a hl hf) ?_
 by_cases h : (upR l fl a).2.2.2.2.2 = 0
 ·simp only [if_pos h]
  obtain ⟨h1, h2⟩ := up_ok l fl a h
  have h3 := h2
  simp only [entryOkB, Bool.and_eq_true, decide_eq_true_eq] at h3
  by_cases q0 : (upR l fl a).2.2.1 = 100000
  ·simp only [if_pos q0]; exact evSome _
  simp only [if_neg q0]
  rw [w64 (n := (upR l fl a).2.2.1 + 1) (by omega) (by omega)]
  refine Ev.bind (spec_l5One_ev _ _ _ _ _ _ h1 (by simp only [entryOkB, Bool.and_eq_true, decide_eq_true_eq]; omega)) ?_
  exact evSome _
 ·simp only [if_neg h]; exact evSome _
theorem impl_Beat_ev (l : List S44) (fl : List S58) (a : Int) (hl : l.length ≤ 2097152) (hf : fl.length ≤ 2097152) : Ev (fun k => impl_SayBeat.f k l fl a) (beatR l fl a) := by
 simp only [impl_SayBeat.f, beatR, impl_saying_eq, Option.bind_some]
 refine Ev.bind (impl_present_ev l fl a hl hf) ?_
 by_cases h : (upR l fl a).2.2.2.2.2 = 0
 ·simp only [if_pos h]
  obtain ⟨h1, h2⟩ := up_ok l fl a h
  have h3 := h2
  simp only [entryOkB, Bool.and_eq_true, decide_eq_true_eq] at h3
  by_cases q0 : (upR l fl a).2.2.1 = 100000
  ·simp only [if_pos q0]; exact evSome _
  simp only [if_neg q0]
  rw [w64 (n := (upR l fl a).2.2.1 + 1) (by omega) (by omega)]
  exact evSome _
 ·simp only [if_neg h]; exact evSome _
def setR (l : List S44) (fl : List S58) (a : Int) (s : ByteArray) : List S44 × List S58 × Int :=
 if (upR l fl a).2.2.2.2.2 = 0 then (if (upR l fl a).2.2.2.1 = 1000 then ([], [], 4) else (if (s.size : Int) > 8 then ([], [], 4) else (oneR a (upR l fl a).1 (upR l fl a).2.1 (upR l fl a).2.2.1 ((upR l fl a).2.2.2.1 + 1) s))) else ([], [], (upR l fl a).2.2.2.2.2)
theorem spec_Set_ev (l : List S44) (fl : List S58) (a : Int) (s : ByteArray) (hl : l.length ≤ 2097152) (hf : fl.length ≤ 2097152) : Ev (fun k => spec_SaySet.f k l fl a s) (setR l fl a s) := by
 simp only [spec_SaySet.f, setR]
 refine Ev.bind (spec_l5Up_ev l fl a hl hf) ?_
 by_cases h : (upR l fl a).2.2.2.2.2 = 0
 ·simp only [if_pos h]
  obtain ⟨h1, h2⟩ := up_ok l fl a h
  have h3 := h2
  simp only [entryOkB, Bool.and_eq_true, decide_eq_true_eq] at h3
  by_cases q0 : (upR l fl a).2.2.2.1 = 1000
  ·simp only [if_pos q0]; exact evSome _
  simp only [if_neg q0]
  by_cases q1 : (s.size : Int) > 8
  ·simp only [if_pos q1]; exact evSome _
  simp only [if_neg q1]
  rw [w64 (n := (upR l fl a).2.2.2.1 + 1) (by omega) (by omega)]
  refine Ev.bind (spec_l5One_ev _ _ _ _ _ _ h1 (by simp only [entryOkB, Bool.and_eq_true, decide_eq_true_eq]; omega)) ?_
  exact evSome _
 ·simp only [if_neg h]; exact evSome _
theorem impl_Set_ev (l : List S44) (fl : List S58) (a : Int) (s : ByteArray) (hl : l.length ≤ 2097152) (hf : fl.length ≤ 2097152) : Ev (fun k => impl_SaySet.f k l fl a s) (setR l fl a s) := by
 simp only [impl_SaySet.f, setR, impl_saying_eq, Option.bind_some]
 refine Ev.bind (impl_present_ev l fl a hl hf) ?_
 by_cases h : (upR l fl a).2.2.2.2.2 = 0
 ·simp only [if_pos h]
  obtain ⟨h1, h2⟩ := up_ok l fl a h
  have h3 := h2
  simp only [entryOkB, Bool.and_eq_true, decide_eq_true_eq] at h3
  by_cases q0 : (upR l fl a).2.2.2.1 = 1000
  ·simp only [if_pos q0]; exact evSome _
  simp only [if_neg q0]
  by_cases q1 : (s.size : Int) > 8
  ·simp only [if_pos q1]; exact evSome _
  simp only [if_neg q1]
  rw [w64 (n := (upR l fl a).2.2.2.1 + 1) (by omega) (by omega)]
  exact evSome _
 ·simp only [if_neg h]; exact evSome _
def goneR (l : List S44) (fl : List S58) (a : Int) : List S44 × List S58 × Int :=
 if (upR l fl a).2.2.2.2.2 = 0 then oneR a (upR l fl a).1 1 (upR l fl a).2.2.1 (upR l fl a).2.2.2.1 (upR l fl a).2.2.2.2.1 else ([], [], (upR l fl a).2.2.2.2.2)
theorem spec_Gone_ev (l : List S44) (fl : List S58) (a : Int) (hl : l.length ≤ 2097152) (hf : fl.length ≤ 2097152) : Ev (fun k => spec_SayGone.f k l fl a) (goneR l fl a) := by
 simp only [spec_SayGone.f, goneR]
 refine Ev.bind (spec_l5Up_ev l fl a hl hf) ?_
 by_cases h : (upR l fl a).2.2.2.2.2 = 0
 ·simp only [if_pos h]
  obtain ⟨h1, h2⟩ := up_ok l fl a h
  refine Ev.bind (spec_l5One_ev _ _ _ _ _ _ h1 (by simp only [entryOkB, Bool.and_eq_true, decide_eq_true_eq] at h2 ⊢; omega)) ?_
  exact evSome _
 ·simp only [if_neg h]; exact evSome _
theorem impl_Gone_ev (l : List S44) (fl : List S58) (a : Int) (hl : l.length ≤ 2097152) (hf : fl.length ≤ 2097152) : Ev (fun k => impl_SayGone.f k l fl a) (goneR l fl a) := by
 simp only [impl_SayGone.f, goneR, impl_saying_eq, Option.bind_some]
 refine Ev.bind (impl_present_ev l fl a hl hf) ?_
 by_cases h : (upR l fl a).2.2.2.2.2 = 0
 ·simp only [if_pos h]; exact evSome _
 ·simp only [if_neg h]; exact evSome _
theorem and255 (x : Int) : 0 ≤ Go.bits .and .i64 x 255 ∧ Go.bits .and .i64 x 255 ≤ 255 := by
 have e : Go.bits .and .i64 x 255 = IntKind.i64.wrap (((BitVec.ofInt 64 x &&& BitVec.ofInt 64 255).toNat : Nat) : Int) := rfl
 have h : (BitVec.ofInt 64 x &&& BitVec.ofInt 64 255).toNat ≤ 255 := by
  rw [BitVec.toNat_and]
  exact Nat.and_le_right
 rw [e, IntKind.wrap_i64]
 omega
theorem byte_ok (b : List Int) (hb : b.length ≤ 140737488351232) (i h : Int) (h0 : 0 ≤ i) (h1 : i ≤ (b.length : Int)) : ∃ r i' h', spec_l1Byte.f b i h = some (r, i', h') ∧ 0 ≤ r ∧ r ≤ 255 ∧ 0 ≤ i' ∧ i' ≤ (b.length : Int) := by
 unfold spec_l1Byte.f
 by_cases c : i < (b.length : Int)
 ·rw [if_pos c, if_pos h0]
  refine ⟨_, _, _, rfl, (and255 _).1, (and255 _).2, ?_, ?_⟩
  ·rw [w64 (by omega) (by omega)]; omega
  ·rw [w64 (by omega) (by omega)]; omega
 ·rw [if_neg c]
  exact ⟨_, _, _, rfl, (and255 _).1, (and255 _).2, h0, h1⟩
theorem below_ok (b : List Int) (hb : b.length ≤ 140737488351232) (i h n : Int) (h0 : 0 ≤ i) (h1 : i ≤ (b.length : Int)) (hn : 0 < n) (hn2 : n ≤ 256) : ∃ r i' h', spec_l1Below.f b i h n = some (r, i', h') ∧ 0 ≤ r ∧ r < n ∧ 0 ≤ i' ∧ i' ≤ (b.length : Int) := by
 obtain ⟨r, i', h', e, r0, r1, c0, c1⟩ := byte_ok b hb i h h0 h1
 refine ⟨Int.tmod r n, i', h', ?_, Int.tmod_nonneg _ r0, Int.tmod_lt_of_pos _ hn, c0, c1⟩
 unfold spec_l1Below.f
 rw [if_neg (by omega), if_pos hn2, e]
 simp only [Option.bind_some]
 rw [if_neg (by omega)]
theorem pick_ok (b : List Int) (hb : b.length ≤ 140737488351232) (i h : Int) (h0 : 0 ≤ i) (h1 : i ≤ (b.length : Int)) (l : List ByteArray) (hl : 0 < l.length) (hl2 : l.length ≤ 256) : ∃ s i' h', spec_l1Pick.f b i h l = some (s, i', h') ∧ s ∈ l ∧ 0 ≤ i' ∧ i' ≤ (b.length : Int) := by
 obtain ⟨r, i', h', e, r0, r1, c0, c1⟩ := below_ok b hb i h l.length h0 h1 (by omega) (by omega)
 refine ⟨rdOf ByteArray.empty l r, i', h', ?_, ?_, c0, c1⟩
 ·unfold spec_l1Pick.f
  rw [e]
  simp only [Option.bind_some]
  rw [if_pos r0, if_pos r1]
 ·unfold rdOf
  rw [List.getD_eq_getElem?_getD, List.getElem?_eq_getElem (show r.toNat < l.length by omega)]
  exact List.getElem_mem _
theorem pickInt_ok (b : List Int) (hb : b.length ≤ 140737488351232) (i h : Int) (h0 : 0 ≤ i) (h1 : i ≤ (b.length : Int)) (l : List Int) (hl : 0 < l.length) (hl2 : l.length ≤ 256) : ∃ s i' h', spec_l1PickInt.f b i h l = some (s, i', h') ∧ s ∈ l ∧ 0 ≤ i' ∧ i' ≤ (b.length : Int) := by
 obtain ⟨r, i', h', e, r0, r1, c0, c1⟩ := below_ok b hb i h l.length h0 h1 (by omega) (by omega)
 refine ⟨rd l r, i', h', ?_, ?_, c0, c1⟩
 ·unfold spec_l1PickInt.f
  rw [e]
  simp only [Option.bind_some]
  rw [if_pos r0, if_pos r1]
 ·unfold rd
  rw [List.getD_eq_getElem?_getD, List.getElem?_eq_getElem (show r.toNat < l.length by omega)]
  exact List.getElem_mem _
theorem right_ok (b : List Int) (hb : b.length ≤ 140737488351232) (i h : Int) (h0 : 0 ≤ i) (h1 : i ≤ (b.length : Int)) : ∃ e0 e1 e2 e3 s i' h', spec_l2Right.f b i h = some (e0, e1, e2, e3, s, i', h') ∧ entryOkB e0 e1 e2 e3 s = true ∧ 0 ≤ i' ∧ i' ≤ (b.length : Int) := by
 obtain ⟨r1, i1, k1, e1, a1, b1, c1, d1⟩ := below_ok b hb i h 3 h0 h1 (by omega) (by omega)
 obtain ⟨r2, i2, k2, e2, a2, b2, c2, d2⟩ := below_ok b hb i1 k1 2 c1 d1 (by omega) (by omega)
 obtain ⟨r3, i3, k3, e3, a3, b3, c3, d3⟩ := below_ok b hb i2 k2 3 c2 d2 (by omega) (by omega)
 obtain ⟨r4, i4, k4, e4, a4, b4, c4, d4⟩ := below_ok b hb i3 k3 3 c3 d3 (by omega) (by omega)
 obtain ⟨s, i5, k5, e5, a5, c5, d5⟩ := pick_ok b hb i4 k4 c4 d4 [(⟨#[]⟩ : ByteArray), (⟨#[97]⟩ : ByteArray), (⟨#[98]⟩ : ByteArray), (⟨#[97, 98]⟩ : ByteArray), (⟨#[49, 50, 51, 52, 53, 54, 55, 56]⟩ : ByteArray)] (by simp) (by simp)
 refine ⟨wrap64 (1 + r1), r2, r3, r4, s, i5, k5, ?_, ?_, c5, d5⟩
 ·unfold spec_l2Right.f
  rw [e1]; simp only [Option.bind_some]
  rw [e2]; simp only [Option.bind_some]
  rw [e3]; simp only [Option.bind_some]
  rw [e4]; simp only [Option.bind_some]
  rw [e5]; simp only [Option.bind_some]
 ·rw [w64 (by omega) (by omega)]
  have hs : (s.size : Int) ≤ 8 := by
   simp only [List.mem_cons, List.not_mem_nil, or_false] at a5
   rcases a5 with rfl | rfl | rfl | rfl | rfl <;> simp [ByteArray.size]
  simp only [entryOkB, Bool.and_eq_true, decide_eq_true_eq]
  omega
theorem draw_ok (b : List Int) (hb : b.length ≤ 140737488351232) (i h : Int) (h0 : 0 ≤ i) (h1 : i ≤ (b.length : Int)) : ∃ e0 e1 e2 e3 s i' h', spec_l2Draw.f b i h = some (e0, e1, e2, e3, s, i', h') ∧ 0 ≤ i' ∧ i' ≤ (b.length : Int) := by
 obtain ⟨r0, r1, r2, r3, s, i1, k1, e1, _, c1, d1⟩ := right_ok b hb i h h0 h1
 obtain ⟨q, i2, k2, e2, a2, b2, c2, d2⟩ := below_ok b hb i1 k1 14 c1 d1 (by omega) (by omega)
 unfold spec_l2Draw.f
 rw [e1]; simp only [Option.bind_some]
 rw [e2]; simp only [Option.bind_some]
 by_cases q0 : q = 0
 ·rw [if_pos q0]
  obtain ⟨z, i3, k3, e3, _, c3, d3⟩ := pickInt_ok b hb i2 k2 c2 d2 [0, 1000, 1001, (-1)] (by simp) (by simp)
  rw [e3]; exact ⟨_, _, _, _, _, _, _, rfl, c3, d3⟩
 rw [if_neg q0]
 by_cases q1 : q = 1
 ·rw [if_pos q1]
  obtain ⟨z, i3, k3, e3, _, c3, d3⟩ := pickInt_ok b hb i2 k2 c2 d2 [(-1), 2] (by simp) (by simp)
  rw [e3]; exact ⟨_, _, _, _, _, _, _, rfl, c3, d3⟩
 rw [if_neg q1]
 by_cases q2 : q = 2
 ·rw [if_pos q2]
  obtain ⟨z, i3, k3, e3, _, c3, d3⟩ := pickInt_ok b hb i2 k2 c2 d2 [(-1), 100000, 100001] (by simp) (by simp)
  rw [e3]; exact ⟨_, _, _, _, _, _, _, rfl, c3, d3⟩
 rw [if_neg q2]
 by_cases q3 : q = 3
 ·rw [if_pos q3]
  obtain ⟨z, i3, k3, e3, _, c3, d3⟩ := pickInt_ok b hb i2 k2 c2 d2 [(-1), 1000, 1001] (by simp) (by simp)
  rw [e3]; exact ⟨_, _, _, _, _, _, _, rfl, c3, d3⟩
 rw [if_neg q3]
 by_cases q4 : q = 4
 ·rw [if_pos q4]; exact ⟨_, _, _, _, _, _, _, rfl, c2, d2⟩
 ·rw [if_neg q4]; exact ⟨_, _, _, _, _, _, _, rfl, c2, d2⟩
theorem ok_nil : okS [] [] = true := rfl
theorem ok_one {a i r b v : Int} {s : ByteArray} (hn : 0 ≤ a ∧ a ≤ 4) (he : entryOkB i r b v s = true) : okS [⟨a, ⟨i, r, b, v, s⟩⟩] [] = true := by
 have hi : ¬ i ≤ 0 := by simp only [entryOkB, Bool.and_eq_true, decide_eq_true_eq] at he; omega
 simp [okS, okI, okF, nodeB, hn, he, floOf, hi]
theorem ok_floor {a i : Int} (hn : 0 ≤ a ∧ a ≤ 4) (hi : 1 ≤ i ∧ i ≤ 1000) : okS [] [⟨a, i⟩] = true := by simp [okS, okI, okF, nodeB, hn, hi]
theorem spec_Single_ev (a i r b v : Int) (s : ByteArray) (h : okS [⟨a, ⟨i, r, b, v, s⟩⟩] [] = true) : Ev (fun k => spec_Single.f k a i r b v s) ([⟨a, ⟨i, r, b, v, s⟩⟩], [], true) := by
 simp only [spec_Single.f, Option.bind_some]
 refine Ev.bind (spec_StateOk_ev _ _ (by simp) (by simp)) ?_
 simp only [if_pos h]
 exact evSome _
theorem l3Right_l1 (b : List Int) (hb : b.length ≤ 140737488351232) (n : Int) (hn : n ≤ 3) : ∀ (d : Nat) (j i h : Int) (x : List S44) (y : List S58), 0 ≤ j → j + d = n ∨ n < j + d ∧ d = 0 → 0 ≤ i → i ≤ (b.length : Int) → okS x y = true →
  ∃ x' y' i' h', Ev (fun k => spec_l3Right.l1 k n j b i h x y) (x', y', i', h') ∧ okS x' y' = true ∧ 0 ≤ i' ∧ i' ≤ (b.length : Int) := by
 intro d
 induction d with
 | zero =>
  intro j i h x y hj hd h0 h1 ho
  exact ⟨x, y, i, h, evRet fun k => by simp only [spec_l3Right.l1]; rw [if_neg (by omega)], ho, h0, h1⟩
 | succ d ih =>
  intro j i h x y hj hd h0 h1 ho
  obtain ⟨r1, i1, k1, e1, a1, b1, c1, d1⟩ := below_ok b hb i h 5 h0 h1 (by omega) (by omega)
  obtain ⟨r2, i2, k2, e2, a2, b2, c2, d2⟩ := below_ok b hb i1 k1 2 c1 d1 (by omega) (by omega)
  have hfl := ok_floor (a := r1) (i := 1 + r2) ⟨a1, by omega⟩ ⟨by omega, by omega⟩
  have hl := ok_len ho
  obtain ⟨x', y', i', h', hv, o2, c3, d3⟩ := ih (j + 1) i2 k2 (joinS x y [] [⟨r1, 1 + r2⟩]).1 (joinS x y [] [⟨r1, 1 + r2⟩]).2 (by omega) (by omega) c2 d2 (join_ok ho hfl)
  refine ⟨x', y', i', h', ?_, o2, c3, d3⟩
  refine evSucc ?_
  simp only [spec_l3Right.l1, e1, e2, Option.bind_some]
  simp only [if_pos (show j < n by omega), w64 (n := 1 + r2) (by omega) (by omega), w64 (n := j + 1) (by omega) (by omega)]
  refine Ev.bind (spec_l3Join_ev x y [] [⟨r1, 1 + r2⟩] (by omega) (by omega) (by simp) (by simp) ho hfl) ?_
  exact hv
theorem l3Right_l0 (b : List Int) (hb : b.length ≤ 140737488351232) (n : Int) (hn : n ≤ 7) : ∀ (d : Nat) (j i h : Int) (x : List S44) (y : List S58), 0 ≤ j → j + d = n ∨ n < j + d ∧ d = 0 → 0 ≤ i → i ≤ (b.length : Int) → okS x y = true →
  ∃ x' y' i' h', Ev (fun k => spec_l3Right.l0 k n j b i h x y) (x', y', i', h') ∧ okS x' y' = true ∧ 0 ≤ i' ∧ i' ≤ (b.length : Int) := by
 intro d
 induction d with
 | zero =>
  intro j i h x y hj hd h0 h1 ho
  obtain ⟨r1, i1, k1, e1, a1, b1, c1, d1⟩ := below_ok b hb i h 3 h0 h1 (by omega) (by omega)
  obtain ⟨x', y', i', h', hv, z⟩ := l3Right_l1 b hb r1 (by omega) r1.toNat 0 i1 k1 x y (by omega) (by omega) c1 d1 ho
  refine ⟨x', y', i', h', ?_, z⟩
  refine evSucc ?_
  simp only [spec_l3Right.l0, e1, Option.bind_some]
  simp only [if_neg (show ¬ j < n by omega)]
  exact hv
 | succ d ih =>
  intro j i h x y hj hd h0 h1 ho
  obtain ⟨r1, i1, k1, e1, a1, b1, c1, d1⟩ := below_ok b hb i h 5 h0 h1 (by omega) (by omega)
  obtain ⟨t0, t1, t2, t3, s, i2, k2, e2, a2, c2, d2⟩ := right_ok b hb i1 k1 c1 d1
  have hone := ok_one (a := r1) ⟨a1, by omega⟩ a2
  have hl := ok_len ho
  obtain ⟨x', y', i', h', hv, o2, c3, d3⟩ := ih (j + 1) i2 k2 (joinS x y [⟨r1, ⟨t0, t1, t2, t3, s⟩⟩] []).1 (joinS x y [⟨r1, ⟨t0, t1, t2, t3, s⟩⟩] []).2 (by omega) (by omega) c2 d2 (join_ok ho hone)
  refine ⟨x', y', i', h', ?_, o2, c3, d3⟩
  refine evSucc ?_
  simp only [spec_l3Right.l0, e1, e2, Option.bind_some]
  simp only [if_pos (show j < n by omega), w64 (n := j + 1) (by omega) (by omega)]
  refine Ev.bind (spec_Single_ev _ _ _ _ _ _ hone) ?_
  refine Ev.bind (spec_l3Join_ev x y _ [] (by omega) (by omega) (by simp) (by simp) ho hone) ?_
  exact hv
theorem l3Right_ok (b : List Int) (hb : b.length ≤ 140737488351232) (i h : Int) (h0 : 0 ≤ i) (h1 : i ≤ (b.length : Int)) :
  ∃ x' y' i' h', Ev (fun k => spec_l3Right.f k b i h) (x', y', i', h') ∧ okS x' y' = true ∧ 0 ≤ i' ∧ i' ≤ (b.length : Int) := by
 obtain ⟨r1, i1, k1, e1, a1, b1, c1, d1⟩ := below_ok b hb i h 7 h0 h1 (by omega) (by omega)
 obtain ⟨x', y', i', h', hv, z⟩ := l3Right_l0 b hb r1 (by omega) r1.toNat 0 i1 k1 [] [] (by omega) (by omega) c1 d1 ok_nil
 refine ⟨x', y', i', h', ?_, z⟩
 simp only [spec_l3Right.f, e1, Option.bind_some]
 exact hv
theorem l3Draw_ok (b : List Int) (hb : b.length ≤ 140737488351232) (i h : Int) (h0 : 0 ≤ i) (h1 : i ≤ (b.length : Int)) :
  ∃ x' y' i' h', Ev (fun k => spec_l3Draw.f k b i h) (x', y', i', h') ∧ x'.length ≤ 6 ∧ y'.length ≤ 6 ∧ 0 ≤ i' ∧ i' ≤ (b.length : Int) := by
 obtain ⟨x, y, i1, k1, hv, ho, c1, d1⟩ := l3Right_ok b hb i h h0 h1
 have hl := ok_len ho
 obtain ⟨q, i2, k2, e2, a2, b2, c2, d2⟩ := below_ok b hb i1 k1 14 c1 d1 (by omega) (by omega)
 simp only [spec_l3Draw.f]
 by_cases q0 : q = 0
 ·obtain ⟨r1, i3, k3, e3, _, _, c3, d3⟩ := below_ok b hb i2 k2 7 c2 d2 (by omega) (by omega)
  obtain ⟨t0, t1, t2, t3, s, i4, k4, e4, c4, d4⟩ := draw_ok b hb i3 k3 c3 d3
  refine ⟨x ++ [⟨wrap64 (r1 - 1), ⟨t0, t1, t2, t3, s⟩⟩], y, i4, k4, ?_, by simp; omega, by omega, c4, d4⟩
  refine Ev.bind hv ?_
  simp only [e2, Option.bind_some, if_pos q0, e3, e4, if_pos (show x.length < 2513169434916 by omega)]
  exact evSome _
 by_cases q1 : q = 1
 ·obtain ⟨r1, i3, k3, e3, _, _, c3, d3⟩ := below_ok b hb i2 k2 7 c2 d2 (by omega) (by omega)
  obtain ⟨t0, i4, k4, e4, _, c4, d4⟩ := pickInt_ok b hb i3 k3 c3 d3 [0, 1, 5, 1001] (by simp) (by simp)
  refine ⟨x, y ++ [⟨wrap64 (r1 - 1), t0⟩], i4, k4, ?_, by omega, by simp; omega, c4, d4⟩
  refine Ev.bind hv ?_
  simp only [e2, Option.bind_some, if_neg q0, if_pos q1, e3, e4, if_pos (show y.length < 8796093022208 by omega)]
  exact evSome _
 by_cases q2 : q = 2
 ·by_cases hx : (x.length : Int) > 0
  ·obtain ⟨r1, i3, k3, e3, a3, b3, c3, d3⟩ := below_ok b hb i2 k2 (x.length : Int) c2 d2 (by omega) (by omega)
   obtain ⟨t0, t1, t2, t3, s, i4, k4, e4, c4, d4⟩ := draw_ok b hb i3 k3 c3 d3
   refine ⟨x.set r1.toNat ⟨(rd_T44 x r1).f0, ⟨t0, t1, t2, t3, s⟩⟩, y, i4, k4, ?_, ?_, by omega, c4, d4⟩
   ·refine Ev.bind hv ?_
    simp only [e2, Option.bind_some, if_neg q0, if_neg q1, if_pos q2, if_pos hx, e3, e4, if_pos a3, if_pos b3]
    exact evSome _
   ·rw [List.length_set]; omega
  ·refine ⟨x, y, i2, k2, ?_, by omega, by omega, c2, d2⟩
   refine Ev.bind hv ?_
   simp only [e2, Option.bind_some, if_neg q0, if_neg q1, if_pos q2, if_neg hx]
   exact evSome _
 by_cases q3 : q = 3
 ·by_cases hx : (x.length : Int) > 1
  ·refine ⟨x.set (0 : Int).toNat ⟨(rd_T44 x 1).f0, ⟨(rd_T44 x 1).f1.f0, (rd_T44 x 1).f1.f1, (rd_T44 x 1).f1.f2, (rd_T44 x 1).f1.f3, (rd_T44 x 1).f1.f4⟩⟩, y, i2, k2, ?_, ?_, by omega, c2, d2⟩
   ·refine Ev.bind hv ?_
    simp only [e2, Option.bind_some, if_neg q0, if_neg q1, if_neg q2, if_pos q3, if_pos hx, if_pos (show (1 : Int) < (x.length : Int) by omega), if_pos (show (0 : Int) < (x.length : Int) by omega)]
    exact evSome _
   ·rw [List.length_set]; omega
  ·refine ⟨x, y, i2, k2, ?_, by omega, by omega, c2, d2⟩
   refine Ev.bind hv ?_
   simp only [e2, Option.bind_some, if_neg q0, if_neg q1, if_neg q2, if_pos q3, if_neg hx]
   exact evSome _
 refine ⟨x, y, i2, k2, ?_, by omega, by omega, c2, d2⟩
 refine Ev.bind hv ?_
 simp only [e2, Option.bind_some, if_neg q0, if_neg q1, if_neg q2, if_neg q3]
 exact evSome _
theorem l1New_l (b : List Int) (hb : b.length ≤ 140737488351232) : ∀ (d j : Nat) (h : Int), j + d = b.length → ∃ h', Ev (fun k => spec_l1New.l0 k b h (j : Int)) (b, 0, h') := by
 intro d
 induction d with
 | zero =>
  intro j h e
  exact ⟨h, evRet fun k => by simp only [spec_l1New.l0]; rw [if_neg (by omega)]⟩
 | succ d ih =>
  intro j h e
  by_cases c : (j : Int) < 4000
  ·obtain ⟨h', hv⟩ := ih (j + 1) (Go.bits .and .i64 (wrap64 ((wrap64 ((wrap64 (h * 131)) + (wrap64 (rd b (j : Int))))) + 7)) 1073741823) (by omega)
   refine ⟨h', evStep hv fun k => ?_⟩
   simp only [spec_l1New.l0]
   rw [if_pos (by omega), if_pos c, if_pos (by omega), w64 (n := (j : Int) + 1) (by omega) (by omega)]
   rfl
  ·exact ⟨h, evRet fun k => by simp only [spec_l1New.l0]; rw [if_pos (by omega), if_neg c]⟩
theorem l1New_ok (b : List Int) (hb : b.length ≤ 140737488351232) : ∃ h', Ev (fun k => spec_l1New.f k b) (b, 0, h') := by
 obtain ⟨h', hv⟩ := l1New_l b hb b.length 0 (wrap64 (26583 + (b.length : Int))) (by omega)
 exact ⟨h', hv⟩
theorem l5j0_ok (b : List Int) (hb : b.length ≤ 140737488351232) (q : Int) (t : Bool) (i h : Int) (x : List S44) (y : List S58) (h0 : 0 ≤ i) (h1 : i ≤ (b.length : Int)) (ht : t = true → 0 < x.length) (hx : x.length ≤ 6) (hy : y.length ≤ 6) :
  ∃ x' y' q', Ev (fun k => spec_l5Two.j0 k q t b i h x y) (x', y', q') ∧ x'.length ≤ 6 ∧ y'.length ≤ 6 := by
 cases t with
 | false =>
  exact ⟨x, y, q, evRet fun k => by simp only [spec_l5Two.j0, Bool.false_eq_true, if_false], hx, hy⟩
 | true =>
  have hpos := ht rfl
  obtain ⟨r, i1, k1, e1, a1, b1, c1, d1⟩ := below_ok b hb i h (x.length : Int) h0 h1 (by omega) (by omega)
  obtain ⟨s, i2, k2, e2, a2, b2, c2, d2⟩ := below_ok b hb i1 k1 6 c1 d1 (by omega) (by omega)
  by_cases s0 : s = 0
  ·refine ⟨x.set r.toNat (⟨(rd_T44 x r).f0, ⟨1000, (rd_T44 x r).f1.f1, (rd_T44 x r).f1.f2, (rd_T44 x r).f1.f3, (rd_T44 x r).f1.f4⟩⟩), y, (rd_T44 x r).f0, evRet fun k => ?_, by rw [List.length_set]; omega, hy⟩
   simp only [spec_l5Two.j0, if_true, e1, Option.bind_some, if_pos a1, if_pos b1, e2, if_pos s0]
  by_cases s1 : s = 1
  ·refine ⟨x.set r.toNat (⟨(rd_T44 x r).f0, ⟨(rd_T44 x r).f1.f0, (rd_T44 x r).f1.f1, 100000, (rd_T44 x r).f1.f3, (rd_T44 x r).f1.f4⟩⟩), y, (rd_T44 x r).f0, evRet fun k => ?_, by rw [List.length_set]; omega, hy⟩
   simp only [spec_l5Two.j0, if_true, e1, Option.bind_some, if_pos a1, if_pos b1, e2, if_neg s0, if_pos s1]
  by_cases s2 : s = 2
  ·refine ⟨x.set r.toNat (⟨(rd_T44 x r).f0, ⟨(rd_T44 x r).f1.f0, (rd_T44 x r).f1.f1, (rd_T44 x r).f1.f2, 1000, (rd_T44 x r).f1.f4⟩⟩), y, (rd_T44 x r).f0, evRet fun k => ?_, by rw [List.length_set]; omega, hy⟩
   simp only [spec_l5Two.j0, if_true, e1, Option.bind_some, if_pos a1, if_pos b1, e2, if_neg s0, if_neg s1, if_pos s2]
  refine ⟨x, y, (rd_T44 x r).f0, evRet fun k => ?_, hx, hy⟩
  simp only [spec_l5Two.j0, if_true, e1, Option.bind_some, if_pos a1, if_pos b1, e2, if_neg s0, if_neg s1, if_neg s2]
theorem l5Two_ok (b : List Int) (hb : b.length ≤ 140737488351232) : ∃ x y q, Ev (fun k => spec_l5Two.f k b) (x, y, q) ∧ x.length ≤ 6 ∧ y.length ≤ 6 := by
 obtain ⟨h0, e0⟩ := l1New_ok b hb
 obtain ⟨x, y, i1, k1, e1, l1, m1, c1, d1⟩ := l3Draw_ok b hb 0 h0 (by omega) (by omega)
 obtain ⟨q, i2, k2, e2, _, _, c2, d2⟩ := below_ok b hb i1 k1 7 c1 d1 (by omega) (by omega)
 simp only [spec_l5Two.f]
 by_cases hx : (x.length : Int) > 0
 ·obtain ⟨r, i3, k3, e3, a3, b3, c3, d3⟩ := below_ok b hb i2 k2 2 c2 d2 (by omega) (by omega)
  obtain ⟨x', y', q', hv, z⟩ := l5j0_ok b hb (wrap64 (q - 1)) (r == 0) i3 k3 x y c3 d3 (fun _ => by omega) l1 m1
  refine ⟨x', y', q', ?_, z⟩
  refine Ev.bind e0 ?_
  refine Ev.bind e1 ?_
  simp only [e2, Option.bind_some, if_pos hx, spec_l1Once.f, e3]
  exact hv
 ·obtain ⟨x', y', q', hv, z⟩ := l5j0_ok b hb (wrap64 (q - 1)) false i2 k2 x y c2 d2 (fun h => by cases h) l1 m1
  refine ⟨x', y', q', ?_, z⟩
  refine Ev.bind e0 ?_
  refine Ev.bind e1 ?_
  simp only [e2, Option.bind_some, if_neg hx]
  exact hv
theorem drawSay_ok (b : List Int) (hb : b.length ≤ 140737488351232) : ∃ x y q, Ev (fun k => spec_DrawSayJoin.f k b) (x, y, q) ∧ x.length ≤ 6 ∧ y.length ≤ 6 := by
 obtain ⟨x, y, q, hv, z⟩ := l5Two_ok b hb
 refine ⟨x, y, q, ?_, z⟩
 simp only [spec_DrawSayJoin.f]
 refine Ev.bind hv ?_
 exact evSome _
theorem joinO_ok {a : List S44} {b : List S58} {c : List S44} {e : List S58} (h : okS a b = true) (h' : okS c e = true) : joinO a b c e = ((joinS a b c e).1, (joinS a b c e).2, true) := by
 unfold joinO; rw [if_pos h, if_pos h']
def leqS (a : List S44) (b : List S58) (c : List S44) (e : List S58) : Bool :=
 if okS a b = true then (if okS c e = true then sameS (joinS a b c e).1 (joinS a b c e).2 c e else false) else false
theorem impl_StateLeq_ev (a : List S44) (b : List S58) (c : List S44) (e : List S58) (ha : a.length ≤ 2097152) (hb : b.length ≤ 2097152) (hc : c.length ≤ 2097152) (he : e.length ≤ 2097152) : Ev (fun k => impl_StateLeq.f k a b c e) (leqS a b c e) := by
 simp only [impl_StateLeq.f, leqS]
 refine Ev.bind (impl_StateJoin_ev a b c e ha hb hc he) ?_
 have hj := joinS_len a b c e
 by_cases o1 : okS a b = true
 ·by_cases o2 : okS c e = true
  ·simp only [joinO, if_pos o1, if_pos o2, if_true]
   refine Ev.bind (impl_StateSame_ev _ _ _ _ (by omega) (by omega)) ?_
   exact evSome _
  ·simp only [joinO, if_pos o1, if_neg o2, Bool.false_eq_true, if_false]; exact evSome _
 ·simp only [joinO, if_neg o1, Bool.false_eq_true, if_false]; exact evSome _
theorem sameI_eq : ∀ (l m : List S44), l.length = m.length → sameI l m = true → l = m
 | [], [], _, _ => rfl
 | [], _ :: _, h, _ => by simp at h
 | _ :: _, [], h, _ => by simp at h
 | x :: r, y :: q, h, e => by
  unfold sameI at e
  split at e
  ·cases e
  ·rename_i c
   have ih := sameI_eq r q (by simpa using h) e
   obtain ⟨x0, ⟨x1, x2, x3, x4, x5⟩⟩ := x
   obtain ⟨y0, ⟨y1, y2, y3, y4, y5⟩⟩ := y
   simp only [Bool.not_eq_true, Bool.or_eq_false_iff, Bool.not_eq_false', beq_iff_eq] at c
   obtain ⟨c0, c1, c2, c3, c4, c5⟩ := c
   rw [Lib.toList_data, Lib.toList_data] at c5
   have c6 := bytes_ext c5
   subst c0 c1 c2 c3 c4 c6 ih
   rfl
theorem sameF_eq : ∀ (l m : List S58), l.length = m.length → sameF l m = true → l = m
 | [], [], _, _ => rfl
 | [], _ :: _, h, _ => by simp at h
 | _ :: _, [], h, _ => by simp at h
 | x :: r, y :: q, h, e => by
  unfold sameF at e
  split at e
  ·cases e
  ·rename_i c
   have ih := sameF_eq r q (by simpa using h) e
   obtain ⟨x0, x1⟩ := x
   obtain ⟨y0, y1⟩ := y
   simp only [Bool.not_eq_true, Bool.or_eq_false_iff, Bool.not_eq_false', beq_iff_eq] at c
   obtain ⟨c0, c1⟩ := c
   subst c0 c1 ih
   rfl
theorem leq_iff (a : List S44) (b : List S58) (c : List S44) (e : List S58) : leqS a b c e = true ↔ okS a b = true ∧ okS c e = true ∧ joinS a b c e = (c, e) := by
 unfold leqS
 constructor
 ·intro h
  split at h
  ·rename_i o1
   split at h
   ·rename_i o2
    simp only [sameS, Bool.and_eq_true, decide_eq_true_eq] at h
    obtain ⟨h1, h2, h3, h4⟩ := h
    exact ⟨o1, o2, Prod.ext (sameI_eq _ _ h1 h3) (sameF_eq _ _ h2 h4)⟩
   ·cases h
  ·cases h
 ·rintro ⟨o1, o2, h⟩
  rw [if_pos o1, if_pos o2, h]
  exact sameS_self c e
theorem big_eq (l : List Int) : laws_big.f l = some (decide ((l.length : Int) > 1048576)) := rfl
theorem viewI_kI (g : Int → Option E5) : ∀ (n : Nat) (i : Int), viewI (kI g n i) = kI (fun j => (g j).filter fun v => decide (v.2.1 = 0)) n i
 | 0, _ => rfl
 | n + 1, i => by
  simp only [kI]
  rw [show ∀ x y : List S44, viewI (x ++ y) = viewI x ++ viewI y from fun x y => List.filter_append .., viewI_kI g n (i + 1)]
  congr 1
  cases hg : g i with
  | none => rfl
  | some v =>
   by_cases h : v.2.1 = 0
   ·have e : (some v : Option E5).filter (fun v => decide (v.2.1 = 0)) = some v := by simp [Option.filter, h]
    rw [e]
    show List.filter _ [_] = _
    rw [List.filter_cons_of_pos (by simpa using h)]; rfl
   ·have e : (some v : Option E5).filter (fun v => decide (v.2.1 = 0)) = none := by simp [Option.filter, h]
    rw [e]
    show List.filter _ [_] = _
    rw [List.filter_cons_of_neg (by simpa using h)]; rfl
theorem view_E {a : List S44} {b : List S58} (ho : okS a b = true) {j : Int} (h0 : 0 ≤ j) (h4 : j ≤ 4) : oE (viewR a b) j = (oE a j).filter fun v => decide (v.2.1 = 0) := by
 unfold viewR
 rw [if_pos ho]
 conv => lhs; rw [ok_items ho]
 rw [viewI_kI, oE_kI, if_pos (by omega)]
section
variable {a : List S44} {b : List S58} {q : Int} {v : E5}
/-- A valid entry of q that is behind what was there, and above the floor. -/
def News (a : List S44) (b : List S58) (q : Int) (v : E5) : Prop := entryOkB v.1 v.2.1 v.2.2.1 v.2.2.2.1 v.2.2.2.2 = true ∧ ec (eZ (oE a q)) v < 0 ∧ floOf b q < v.1
theorem news_one (hq : 0 ≤ q ∧ q ≤ 4) (hn : News a b q v) : okS [(⟨q, ⟨v.1, v.2.1, v.2.2.1, v.2.2.2.1, v.2.2.2.2⟩⟩ : S44)] [] = true := ok_one hq hn.1
theorem news_E (hq : 0 ≤ q ∧ q ≤ 4) (hn : News a b q v) (ho : okS a b = true) : oE (joinS a b [(⟨q, ⟨v.1, v.2.1, v.2.2.1, v.2.2.2.1, v.2.2.2.2⟩⟩ : S44)] []).1 q = some v := by
 obtain ⟨n1, n2, n3⟩ := hn
 obtain ⟨p1, p2, p3⟩ := (okP_of ho) q
 have ef : jF (floOf b q) (floOf [] q) = floOf b q := by
  show maxI (floOf b q) 0 = _
  unfold maxI
  split <;> omega
 rw [join_E hq.1 hq.2, ef, oE_cons, if_pos rfl]
 unfold jE
 have e2 : eZ (some v) = v := rfl
 have e3 : mxE (eZ (oE a q)) v = v := by unfold mxE; rw [if_pos n2]
 rw [show (some (v.1, v.2.1, v.2.2.1, v.2.2.2.1, v.2.2.2.2) : Option E5) = some v from rfl, e2, e3, if_pos n3]
theorem news_other (hq : 0 ≤ q ∧ q ≤ 4) (hn : News a b q v) (ho : okS a b = true) {j : Int} (h0 : 0 ≤ j) (h4 : j ≤ 4) (hj : j ≠ q) : oE (joinS a b [(⟨q, ⟨v.1, v.2.1, v.2.2.1, v.2.2.2.1, v.2.2.2.2⟩⟩ : S44)] []).1 j = oE a j := by
 obtain ⟨p1, p2, p3⟩ := (okP_of ho) j
 have e : oE [(⟨q, ⟨v.1, v.2.1, v.2.2.1, v.2.2.2.1, v.2.2.2.2⟩⟩ : S44)] j = none := by rw [oE_cons, if_neg (fun h => hj h.symm)]; rfl
 have ef : jF (floOf b j) (floOf [] j) = floOf b j := by
  show maxI (floOf b j) 0 = _
  unfold maxI
  split <;> omega
 rw [join_E h0 h4, e, ef]
 exact jE_le p2 (okP_zero (okP_of ho) j) (fun v hv => (p1 v hv).2)
theorem news_ent {a c : List S44} {j : Int} (h : oE a j = oE c j) : entOf a j = entOf c j := by rw [ent_of, ent_of, h]
theorem news_leq (hq : 0 ≤ q ∧ q ≤ 4) (hn : News a b q v) (ho : okS a b = true) : leqS [(⟨q, ⟨v.1, v.2.1, v.2.2.1, v.2.2.2.1, v.2.2.2.2⟩⟩ : S44)] [] a b = false := by
 refine Bool.eq_false_iff.2 fun h => ?_
 obtain ⟨_, _, j⟩ := (leq_iff _ _ _ _).1 h
 rw [join_comm] at j
 have e := news_E hq hn ho
 rw [j] at e
 have n2 := hn.2.1
 rw [show oE a q = some v from e] at n2
 have e2 : eZ (some v) = v := rfl
 rw [e2, ec_self] at n2
 omega
theorem news_view (hq : 0 ≤ q ∧ q ≤ 4) (hn : News a b q v) (ho : okS a b = true) : entOf (viewR (joinS a b [(⟨q, ⟨v.1, v.2.1, v.2.2.1, v.2.2.2.1, v.2.2.2.2⟩⟩ : S44)] []).1 (joinS a b [(⟨q, ⟨v.1, v.2.1, v.2.2.1, v.2.2.2.1, v.2.2.2.2⟩⟩ : S44)] []).2) q = if v.2.1 = 0 then (v.1, v.2.1, v.2.2.1, v.2.2.2.1, v.2.2.2.2, true) else (0, 0, 0, 0, (⟨#[]⟩ : ByteArray), false) := by
 have oj := join_ok ho (news_one hq hn)
 rw [ent_of, view_E oj hq.1 hq.2, news_E hq hn ho]
 by_cases h : v.2.1 = 0
 ·rw [if_pos h]; simp [Option.filter, h]
 ·rw [if_neg h]; simp [Option.filter, h]
end
def Says (K : Int) (a : List S44) (b : List S58) (q : Int) (R : List S44 × List S58 × Int) : Prop :=
 (R.2.2 ≠ 0 ∧ R.1 = []) ∨ (∃ v : E5, R = ([⟨q, ⟨v.1, v.2.1, v.2.2.1, v.2.2.2.1, v.2.2.2.2⟩⟩], [], 0) ∧ okS a b = true ∧ (0 ≤ q ∧ q ≤ 4) ∧ News a b q v ∧ (K = 3 → v.2.1 = 1) ∧ (K ≠ 3 → v.2.1 = 0) ∧ (K = 0 → goneA a b q < v.1) ∧ (K = 2 → v.2.2.2.2 = (⟨#[110, 101, 119]⟩ : ByteArray)))
theorem node_in {q : Int} (h : nodeB q = true) : 0 ≤ q ∧ q ≤ 4 := by simpa [nodeB] using h
theorem gone_le (x : List S44) (y : List S58) (q : Int) (ho : okS x y = true) : goneA x y q ≤ topI x y q := by
 have tb := top_bound x y q ho
 unfold goneA topI at *
 rw [if_pos ho]
 by_cases c : (entOf x q).2.2.2.2.2 = true
 ·rw [if_pos c] at tb ⊢
  rw [if_pos c]
  split
  ·rw [w64 (by omega) (by omega)]; omega
  ·omega
 ·rw [if_neg c] at tb ⊢
  rw [if_neg c]
  omega
theorem top_E (a : List S44) (b : List S58) (q : Int) (ho : okS a b = true) : (eZ (oE a q)).1 ≤ topI a b q ∧ floOf b q ≤ topI a b q := by
 have e := ent_of a q
 obtain ⟨p1, p2, p3⟩ := (okP_of ho) q
 unfold topI
 cases h : oE a q with
 | none =>
  rw [h] at e
  rw [e]
  simp [eZ, zeroE]
  omega
 | some v =>
  rw [h] at e
  rw [e]
  have := (p1 v h).2
  simp [eZ]
  omega
theorem said_Says (a : List S44) (b : List S58) (q : Int) : Says 0 a b q (saidR a b q) := by
 unfold Says
 by_cases hg : (okS a b && nodeB q) = true
 ·have hh := hg
  rw [Bool.and_eq_true] at hh
  obtain ⟨ho, hn⟩ := hh
  by_cases hup : (entOf (viewR a b) q).2.2.2.2.2 = true
  ·have es : saidR a b q = ([], [], 2) := by unfold saidR upR; rw [if_pos hg, if_pos hup]; simp
   rw [es]
   exact Or.inl ⟨by simp, rfl⟩
  ·have es : saidR a b q = if topI a b q = 1000 then ([], [], 4) else oneR q (topI a b q + 1) 0 0 0 (⟨#[]⟩ : ByteArray) := by unfold saidR upR; rw [if_pos hg, if_neg hup]; simp
   rw [es]
   by_cases t : topI a b q = 1000
   ·rw [if_pos t]
    exact Or.inl ⟨by simp, rfl⟩
   ·rw [if_neg t]
    have tb := top_bound a b q ho
    have te := top_E a b q ho
    have gl := gone_le a b q ho
    refine Or.inr ⟨(topI a b q + 1, 0, 0, 0, (⟨#[]⟩ : ByteArray)), rfl, ho, node_in hn, ⟨?_, ?_, ?_⟩, fun h => absurd h (by decide), fun _ => rfl, fun _ => ?_, fun h => absurd h (by decide)⟩
    ·simp only [entryOkB, Bool.and_eq_true, decide_eq_true_eq]
     refine ⟨by omega, by omega, by omega, by omega, by simp [ByteArray.size]⟩
    ·refine (ec_lt_iff _ _).2 (.inl ?_)
     show (eZ (oE a q)).1 < topI a b q + 1
     omega
    ·show floOf b q < topI a b q + 1
     omega
    ·show goneA a b q < topI a b q + 1
     omega
 ·have es : saidR a b q = ([], [], 1) := by unfold saidR upR; rw [if_neg hg]; simp
  rw [es]
  exact Or.inl ⟨by simp, rfl⟩
theorem up_E {a : List S44} {b : List S58} {q : Int} (h : (upR a b q).2.2.2.2.2 = 0) : okS a b = true ∧ (0 ≤ q ∧ q ≤ 4) ∧ oE a q = some ((upR a b q).1, (upR a b q).2.1, (upR a b q).2.2.1, (upR a b q).2.2.2.1, (upR a b q).2.2.2.2.1) ∧ (upR a b q).2.1 = 0 ∧ entryOkB (upR a b q).1 (upR a b q).2.1 (upR a b q).2.2.1 (upR a b q).2.2.2.1 (upR a b q).2.2.2.2.1 = true := by
 have hk := up_ok a b q h
 by_cases hg : (okS a b && nodeB q) = true
 ·have hh := hg
  rw [Bool.and_eq_true] at hh
  obtain ⟨ho, hn⟩ := hh
  have hq := node_in hn
  by_cases hup : (entOf (viewR a b) q).2.2.2.2.2 = true
  ·have es : upR a b q = ((entOf (viewR a b) q).1, (entOf (viewR a b) q).2.1, (entOf (viewR a b) q).2.2.1, (entOf (viewR a b) q).2.2.2.1, (entOf (viewR a b) q).2.2.2.2.1, 0) := by unfold upR; rw [if_pos hg, if_pos hup]
   have hE := view_E ho hq.1 hq.2
   have e := ent_of (viewR a b) q
   cases c : oE (viewR a b) q with
   | none =>
    rw [c] at e
    rw [e] at hup
    exact absurd hup (by simp)
   | some v =>
    rw [c] at e hE
    have hs : oE a q = some v ∧ v.2.1 = 0 := by
     cases d : oE a q with
     | none => rw [d] at hE; simp at hE
     | some u =>
      rw [d] at hE
      by_cases z : u.2.1 = 0
      ·simp [Option.filter, z] at hE
       rw [hE]
       exact ⟨rfl, z⟩
      ·simp [Option.filter, z] at hE
    rw [es, e] at hk ⊢
    exact ⟨ho, hq, hs.1, hs.2, hk.2⟩
  ·have es : upR a b q = (0, 0, 0, 0, (⟨#[]⟩ : ByteArray), 3) := by unfold upR; rw [if_pos hg, if_neg hup]
   rw [es] at h
   exact absurd h (by decide)
 ·have es : upR a b q = (0, 0, 0, 0, (⟨#[]⟩ : ByteArray), 1) := by unfold upR; rw [if_neg hg]
  rw [es] at h
  exact absurd h (by decide)
theorem beat_Says (a : List S44) (b : List S58) (q : Int) : Says 1 a b q (beatR a b q) := by
 unfold Says beatR
 by_cases h : (upR a b q).2.2.2.2.2 = 0
 ·rw [if_pos h]
  obtain ⟨ho, hq, hE, h0, hk⟩ := up_E h
  by_cases c : (upR a b q).2.2.1 = 100000
  ·rw [if_pos c]
   exact Or.inl ⟨by simp, rfl⟩
  ·rw [if_neg c]
   obtain ⟨p1, p2, p3⟩ := (okP_of ho) q
   have pf := (p1 _ hE).2
   simp only [entryOkB, Bool.and_eq_true, decide_eq_true_eq] at hk
   refine Or.inr ⟨((upR a b q).1, (upR a b q).2.1, (upR a b q).2.2.1 + 1, (upR a b q).2.2.2.1, (upR a b q).2.2.2.2.1), rfl, ho, hq, ⟨?_, ?_, pf⟩, fun h => absurd h (by decide), fun _ => h0, fun h => absurd h (by decide), fun h => absurd h (by decide)⟩
   ·simp only [entryOkB, Bool.and_eq_true, decide_eq_true_eq]
    refine ⟨by omega, by omega, by omega, by omega, by omega⟩
   ·rw [hE]
    exact (ec_lt_iff _ _).2 (.inr ⟨rfl, .inr ⟨rfl, .inl (by show (upR a b q).2.2.1 < (upR a b q).2.2.1 + 1; omega)⟩⟩)
 ·rw [if_neg h]
  exact Or.inl ⟨h, rfl⟩
theorem set_Says (a : List S44) (b : List S58) (q : Int) : Says 2 a b q (setR a b q (⟨#[110, 101, 119]⟩ : ByteArray)) := by
 unfold Says setR
 by_cases h : (upR a b q).2.2.2.2.2 = 0
 ·rw [if_pos h]
  obtain ⟨ho, hq, hE, h0, hk⟩ := up_E h
  by_cases c : (upR a b q).2.2.2.1 = 1000
  ·rw [if_pos c]
   exact Or.inl ⟨by simp, rfl⟩
  ·rw [if_neg c, if_neg (by simp [ByteArray.size])]
   obtain ⟨p1, p2, p3⟩ := (okP_of ho) q
   have pf := (p1 _ hE).2
   simp only [entryOkB, Bool.and_eq_true, decide_eq_true_eq] at hk
   refine Or.inr ⟨((upR a b q).1, (upR a b q).2.1, (upR a b q).2.2.1, (upR a b q).2.2.2.1 + 1, (⟨#[110, 101, 119]⟩ : ByteArray)), rfl, ho, hq, ⟨?_, ?_, pf⟩, fun h => absurd h (by decide), fun _ => h0, fun h => absurd h (by decide), fun _ => rfl⟩
   ·simp only [entryOkB, Bool.and_eq_true, decide_eq_true_eq]
    refine ⟨by omega, by omega, by omega, by omega, by simp [ByteArray.size]⟩
   ·rw [hE]
    exact (ec_lt_iff _ _).2 (.inr ⟨rfl, .inr ⟨rfl, .inr ⟨rfl, .inl (by show (upR a b q).2.2.2.1 < (upR a b q).2.2.2.1 + 1; omega)⟩⟩⟩)
 ·rw [if_neg h]
  exact Or.inl ⟨h, rfl⟩
theorem gone_Says (a : List S44) (b : List S58) (q : Int) : Says 3 a b q (goneR a b q) := by
 unfold Says goneR
 by_cases h : (upR a b q).2.2.2.2.2 = 0
 ·rw [if_pos h]
  obtain ⟨ho, hq, hE, h0, hk⟩ := up_E h
  obtain ⟨p1, p2, p3⟩ := (okP_of ho) q
  have pf := (p1 _ hE).2
  simp only [entryOkB, Bool.and_eq_true, decide_eq_true_eq] at hk
  refine Or.inr ⟨((upR a b q).1, 1, (upR a b q).2.2.1, (upR a b q).2.2.2.1, (upR a b q).2.2.2.2.1), rfl, ho, hq, ⟨?_, ?_, pf⟩, fun _ => rfl, fun h => absurd rfl h, fun h => absurd h (by decide), fun h => absurd h (by decide)⟩
  ·simp only [entryOkB, Bool.and_eq_true, decide_eq_true_eq]
   refine ⟨by omega, by omega, by omega, by omega, by omega⟩
  ·rw [hE]
   exact (ec_lt_iff _ _).2 (.inr ⟨rfl, .inl (by show (upR a b q).2.1 < 1; omega)⟩)
 ·rw [if_neg h]
  exact Or.inl ⟨h, rfl⟩
theorem ne5r (x : Int × Int × Int × Int × ByteArray × Bool) : (!(x.1 == x.1) || (!(x.2.1 == x.2.1) || (!(x.2.2.1 == x.2.2.1) || (!(x.2.2.2.1 == x.2.2.2.1) || (!(x.2.2.2.2.1.toList == x.2.2.2.2.1.toList)))))) = false := by simp
theorem said_l0 (a : List S44) (b : List S58) (c : List S44) (e : List S58) (q : Int) (ha : a.length ≤ 2097152) (hc : c.length ≤ 2097152) (h : ∀ j : Int, 0 ≤ j → j ≤ 4 → j ≠ q → oE c j = oE a j) : ∀ (d : Nat) (i : Int), 0 ≤ i → i + d = 5 → Ev (fun k => laws_FnSaid.l0 k q i a b c e) true := by
 intro d
 induction d with
 | zero =>
  intro i h0 h5
  refine evRet fun k => ?_
  simp only [laws_FnSaid.l0]
  rw [if_neg (by omega)]
 | succ d ih =>
  intro i h0 h5
  refine evSucc ?_
  simp only [laws_FnSaid.l0, if_pos (show i < 5 by omega)]
  refine Ev.bind (impl_EntryOf_ev a b i ha) ?_
  refine Ev.bind (impl_EntryOf_ev c e i hc) ?_
  rw [w64 (by omega) (by omega)]
  by_cases z : i = q
  ·simp only [if_pos z]
   exact ih (i + 1) (by omega) (by omega)
  ·simp only [if_neg z]
   rw [news_ent (h i h0 (by omega) z)]
   simp only [bne_self_eq_false, Bool.false_eq_true, if_false, ne5r]
   exact ih (i + 1) (by omega) (by omega)
theorem said_j2 (K : Int) (a : List S44) (b : List S58) (q : Int) (R : List S44 × List S58 × Int) (ha : a.length ≤ 2097152) (hb : b.length ≤ 2097152) (h : Says K a b q R) : Ev (fun k => laws_FnSaid.j2 k q K R.2.2 R.2.2 a b R.1 R.2.1) true := by
 rcases h with ⟨h1, h2⟩ | ⟨v, rfl, ho, hq, hn, k3, kn, k0, k2⟩
 ·refine evRet fun k => ?_
  simp only [laws_FnSaid.j2, if_true, if_neg h1, h2]
  rfl
 ·have h1 := news_one hq hn
  have nj := joinS_len a b [(⟨q, ⟨v.1, v.2.1, v.2.2.1, v.2.2.2.1, v.2.2.2.2⟩⟩ : S44)] []
  refine evSucc ?_
  simp only [laws_FnSaid.j2, if_true]
  refine Ev.bind (impl_StateJoin_ev a b _ [] ha hb (by simp) (by simp)) ?_
  rw [joinO_ok ho h1]
  simp only [if_true]
  refine Ev.bind (impl_StateLeq_ev _ [] a b (by simp) (by simp) ha hb) ?_
  rw [news_leq hq hn ho]
  have e0 : (((rd_T44 [(⟨q, ⟨v.1, v.2.1, v.2.2.1, v.2.2.2.1, v.2.2.2.2⟩⟩ : S44)] 0).f0) != q) = false := by
   show (q != q) = false
   simp
  simp only [Bool.false_eq_true, if_false, List.length_cons, List.length_nil, if_pos (show ((0 + 1 : Nat) : Int) = 1 from rfl), if_pos (show (0 : Int) < ((0 + 1 : Nat) : Int) by omega), e0]
  refine evSucc ?_
  simp only [laws_FnSaid.j3, Bool.false_eq_true, if_false]
  refine Ev.bind (impl_Lookup_ev _ _ q (Nat.le_trans nj.1 (by omega)) (Nat.le_trans nj.2 (by omega))) ?_
  rw [news_view hq hn ho]
  have hj4 : Ev (fun k => laws_FnSaid.j4 k q false a b (joinS a b [(⟨q, ⟨v.1, v.2.1, v.2.2.1, v.2.2.2.1, v.2.2.2.2⟩⟩ : S44)] []).1 (joinS a b [⟨q, ⟨v.1, v.2.1, v.2.2.1, v.2.2.2.1, v.2.2.2.2⟩⟩] []).2) true := by
   refine evSucc ?_
   simp only [laws_FnSaid.j4, Bool.false_eq_true, if_false]
   exact said_l0 a b _ _ q ha (Nat.le_trans nj.1 (by omega)) (fun j j0 j4 jq => news_other hq hn ho j0 j4 jq) 5 0 (by omega) (by omega)
  by_cases c3 : K = 3
  ·subst c3
   rw [if_neg (by rw [k3 rfl]; omega)]
   simp only [show (false != ((3 : Int) != 3)) = false from rfl, Bool.false_eq_true, if_false, if_neg (show ¬ (3 : Int) = 0 by omega), if_neg (show ¬ (3 : Int) = 2 by omega)]
   exact hj4
  ·rw [if_pos (kn c3)]
   have e3 : (true != (K != 3)) = false := by simp [c3]
   simp only [e3, Bool.false_eq_true, if_false]
   by_cases c0 : K = 0
   ·subst c0
    simp only [if_true]
    refine Ev.bind (impl_GoneAt_ev a b q ha hb) ?_
    have := k0 rfl
    simp only [if_neg (show ¬ v.1 ≤ goneA a b q by omega), if_neg (show ¬ (0 : Int) = 2 by omega)]
    exact hj4
   ·simp only [if_neg c0]
    by_cases c2 : K = 2
    ·simp only [if_pos c2]
     have ek : (v.2.2.2.2.toList != ([110, 101, 119] : List UInt8)) = false := by rw [k2 c2, Lib.toList_data]; rfl
     rw [ek]
     exact hj4
    ·simp only [if_neg c2]
     exact hj4
theorem FnSaid : laws_FnSaid.Pure := by
 intro l hl hl2 hw
 apply Ev.rounds
 have hb : l.length ≤ 140737488351232 := by omega
 simp only [laws_FnSaid.f, big_eq, Option.bind_some]
 by_cases hbig : (l.length : Int) > 1048576
 ·simp only [decide_eq_true hbig, if_true]; exact evSome _
 simp only [decide_eq_false hbig, Bool.false_eq_true, if_false]
 obtain ⟨x, y, q, hd, l1, m1⟩ := drawSay_ok l hb
 refine Ev.bind hd ?_
 have ht : ∃ t, laws_at0.f l 7 = some t ∧ 0 ≤ t := by
  unfold laws_at0.f
  by_cases c : (7 : Int) < (l.length : Int)
  ·rw [if_pos c, if_pos (by omega)]
   have hx := wf_u8 (hw (rd l 7) (by
    show rd l ((7 : Nat) : Int) ∈ l
    rw [rd_nat (by omega)]
    exact List.getElem_mem _))
   exact ⟨_, rfl, by rw [w64 (by omega) (by omega)]; omega⟩
  ·rw [if_neg c]
   refine ⟨_, rfl, ?_⟩
   rw [w64 (n := 7 * 7) (by omega) (by omega), w64 (by omega) (by omega)]
   exact Int.tmod_nonneg _ (by omega)
 obtain ⟨t, et, t0⟩ := ht
 simp only [et, Option.bind_some, tmod_pos t0]
 have r0 : 0 ≤ t % 4 := by omega
 have r4 : t % 4 < 4 := by omega
 have eK : rd [0, 1, 2, 3] (t % 4) = t % 4 := by
  have hc : t % 4 = 0 ∨ t % 4 = 1 ∨ t % 4 = 2 ∨ t % 4 = 3 := by omega
  rcases hc with h | h | h | h <;> rw [h] <;> rfl
 simp only [if_pos r0, if_pos (show t % 4 < (([0, 1, 2, 3] : List Int).length : Int) from r4), eK]
 refine Ev.bind (impl_Say_ev x y q (by omega) (by omega)) ?_
 refine Ev.bind (spec_Say_ev x y q (by omega) (by omega)) ?_
 generalize t % 4 = K at r0 r4
 have hk : K = 0 ∨ K = 1 ∨ K = 2 ∨ K = 3 := by omega
 rcases hk with rfl | rfl | rfl | rfl
 ·simp only [if_neg (show ¬ (0 : Int) = 1 by omega)]
  refine evSucc ?_
  simp only [laws_FnSaid.j0, if_neg (show ¬ (0 : Int) = 2 by omega)]
  refine evSucc ?_
  simp only [laws_FnSaid.j1, if_neg (show ¬ (0 : Int) = 3 by omega)]
  exact said_j2 0 x y q _ (by omega) (by omega) (said_Says x y q)
 ·simp only [if_true]
  refine Ev.bind (impl_Beat_ev x y q (by omega) (by omega)) ?_
  refine Ev.bind (spec_Beat_ev x y q (by omega) (by omega)) ?_
  refine evSucc ?_
  simp only [laws_FnSaid.j0, if_neg (show ¬ (1 : Int) = 2 by omega)]
  refine evSucc ?_
  simp only [laws_FnSaid.j1, if_neg (show ¬ (1 : Int) = 3 by omega)]
  exact said_j2 1 x y q _ (by omega) (by omega) (beat_Says x y q)
 ·simp only [if_neg (show ¬ (2 : Int) = 1 by omega)]
  refine evSucc ?_
  simp only [laws_FnSaid.j0, if_true]
  refine Ev.bind (impl_Set_ev x y q _ (by omega) (by omega)) ?_
  refine Ev.bind (spec_Set_ev x y q _ (by omega) (by omega)) ?_
  refine evSucc ?_
  simp only [laws_FnSaid.j1, if_neg (show ¬ (2 : Int) = 3 by omega)]
  exact said_j2 2 x y q _ (by omega) (by omega) (set_Says x y q)
 ·simp only [if_neg (show ¬ (3 : Int) = 1 by omega)]
  refine evSucc ?_
  simp only [laws_FnSaid.j0, if_neg (show ¬ (3 : Int) = 2 by omega)]
  refine evSucc ?_
  simp only [laws_FnSaid.j1, if_true]
  refine Ev.bind (impl_Gone_ev x y q (by omega) (by omega)) ?_
  refine Ev.bind (spec_Gone_ev x y q (by omega) (by omega)) ?_
  exact said_j2 3 x y q _ (by omega) (by omega) (gone_Says x y q)
end Go.Proofs.Ytnmofppbijmhoaa.Pure
