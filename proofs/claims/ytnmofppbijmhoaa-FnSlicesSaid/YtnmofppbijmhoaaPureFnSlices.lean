/- What the law FnSlices computes is true for every argument it takes. No condition. -/
import Derived.Shelf.Small.Strs
import Derived.Test.YtnmofppbijmhoaaPlFnSlices
namespace Go.Proofs.Ytnmofppbijmhoaa.Pure
open Go.RowKit Go.Proofs.Ytnmofppbijmhoaa.P Go.Proofs.YtnmofppbijmhoaaW.PrintWords Go.Proofs.YtnmofppbijmhoaaW.PrintLast
set_option linter.unusedVariables false
set_option linter.unusedSimpArgs false
theorem w64 {n : Int} (h0 : -9223372036854775808 ≤ n) (h1 : n ≤ 9223372036854775807) : wrap64 n = n := by
 unfold wrap64; omega
theorem tmod_pos {a b : Int} (h : 0 ≤ a) : Int.tmod a b = a % b := Int.tmod_eq_emod_of_nonneg h
theorem tdiv_pos {a b : Int} (h : 0 ≤ a) : Int.tdiv a b = a / b := Int.tdiv_eq_ediv_of_nonneg h
theorem evSome {α : Type} (r : α) : Ev (fun _ => some r) r := Ev.now r
theorem evEq {α : Type} {g f : Nat → Option α} {r : α} (k : Ev f r) (h : ∀ k, g k = f k) : Ev g r := Ev.congr h k
theorem evStep {α : Type} {g f : Nat → Option α} {r : α} (k : Ev f r) (h : ∀ k, g (k + 1) = f k) : Ev g r := Ev.step h k
theorem evRet {α : Type} {g : Nat → Option α} {r : α} (h : ∀ k, g (k + 1) = some r) : Ev g r := Ev.step h (Ev.now r)
theorem rd_nat {l : List Int} {i : Nat} (h : i < l.length) : rd l (i : Int) = l[i] := by
 unfold rd; simp [List.getD_eq_getElem?_getD, h]
theorem evSucc {α : Type} {g : Nat → Option α} {r : α} (h : Ev (fun k => g (k + 1)) r) : Ev g r := Ev.step (f := fun k => g (k + 1)) (fun _ => rfl) h
theorem rdI {l : List S44} {i : Nat} (h : i < l.length) : rd_T44 l (i : Int) = l[i] := by
 unfold rd_T44; simp [List.getD_eq_getElem?_getD, h]
theorem rdF {l : List S58} {i : Nat} (h : i < l.length) : rd_T58 l (i : Int) = l[i] := by
 unfold rd_T58; simp [List.getD_eq_getElem?_getD, h]
def entOf : List S44 → Int → Int × Int × Int × Int × ByteArray × Bool
 | [], _ => (0, 0, 0, 0, (⟨#[]⟩ : ByteArray), false)
 | x :: r, a => if x.f0 = a then (x.f1.f0, x.f1.f1, x.f1.f2, x.f1.f3, x.f1.f4, true) else entOf r a
theorem spec_EntryOf_l (l : List S44) (fl : List S58) (a : Int) (hl : l.length ≤ 2097152) : ∀ (d i : Nat), i + d = l.length → Ev (fun k => spec_EntryOf.l0 k a (i : Int) l fl) (entOf (l.drop i) a) := by
 intro d
 induction d with
 | zero =>
  intro i h
  rw [List.drop_eq_nil_of_le (by omega)]
  exact evRet fun k => by simp only [spec_EntryOf.l0]; rw [if_neg (by omega)]; rfl
 | succ d ih =>
  intro i h
  have hi : i < l.length := by omega
  rw [List.drop_eq_getElem_cons hi]
  by_cases he : l[i].f0 = a
  ·refine evRet fun k => ?_
   simp only [spec_EntryOf.l0, entOf]
   rw [if_pos (by omega), if_pos (by omega), rdI hi, if_pos he, if_pos he]
  ·have := ih (i + 1) (by omega)
   simp only [entOf]
   rw [if_neg he]
   refine evStep this fun k => ?_
   simp only [spec_EntryOf.l0]
   rw [if_pos (by omega), if_pos (by omega), rdI hi, if_neg he, w64 (by omega) (by omega)]
   rfl
theorem spec_EntryOf_ev (l : List S44) (fl : List S58) (a : Int) (hl : l.length ≤ 2097152) : Ev (fun k => spec_EntryOf.f k l fl a) (entOf l a) :=
 evEq (spec_EntryOf_l l fl a hl l.length 0 (by omega)) fun k => rfl
theorem impl_EntryOf_l (l : List S44) (a : Int) (hl : l.length ≤ 2097152) : ∀ (d i : Nat), i + d = l.length → Ev (fun k => impl_EntryOf.l0 k a l (l.length : Int) (i : Int)) (entOf (l.drop i) a) := by
 intro d
 induction d with
 | zero =>
  intro i h
  rw [List.drop_eq_nil_of_le (by omega)]
  exact evRet fun k => by simp only [impl_EntryOf.l0]; rw [if_neg (by omega)]; rfl
 | succ d ih =>
  intro i h
  have hi : i < l.length := by omega
  rw [List.drop_eq_getElem_cons hi]
  by_cases he : l[i].f0 = a
  ·refine evRet fun k => ?_
   simp only [impl_EntryOf.l0, entOf]
   rw [if_pos (by omega), if_pos (by omega), if_pos (by omega), rdI hi, if_pos he, if_pos he]
  ·have := ih (i + 1) (by omega)
   simp only [entOf]
   rw [if_neg he]
   refine evStep this fun k => ?_
   simp only [impl_EntryOf.l0]
   rw [if_pos (by omega), if_pos (by omega), if_pos (by omega), rdI hi, if_neg he, w64 (by omega) (by omega)]
   rfl
theorem impl_EntryOf_ev (l : List S44) (fl : List S58) (a : Int) (hl : l.length ≤ 2097152) : Ev (fun k => impl_EntryOf.f k l fl a) (entOf l a) :=
 evEq (impl_EntryOf_l l a hl l.length 0 (by omega)) fun k => rfl
def floOf : List S58 → Int → Int
 | [], _ => 0
 | x :: r, a => if x.f0 = a then x.f1 else floOf r a
theorem spec_FloorOf_l (l : List S58) (il : List S44) (a : Int) (hl : l.length ≤ 2097152) : ∀ (d i : Nat), i + d = l.length → Ev (fun k => spec_FloorOf.l0 k a (i : Int) il l) (floOf (l.drop i) a) := by
 intro d
 induction d with
 | zero =>
  intro i h
  rw [List.drop_eq_nil_of_le (by omega)]
  exact evRet fun k => by simp only [spec_FloorOf.l0]; rw [if_neg (by omega)]; rfl
 | succ d ih =>
  intro i h
  have hi : i < l.length := by omega
  rw [List.drop_eq_getElem_cons hi]
  by_cases he : l[i].f0 = a
  ·refine evRet fun k => ?_
   simp only [spec_FloorOf.l0, floOf]
   rw [if_pos (by omega), if_pos (by omega), rdF hi, if_pos he, if_pos he]
  ·have := ih (i + 1) (by omega)
   simp only [floOf]
   rw [if_neg he]
   refine evStep this fun k => ?_
   simp only [spec_FloorOf.l0]
   rw [if_pos (by omega), if_pos (by omega), rdF hi, if_neg he, w64 (by omega) (by omega)]
   rfl
theorem spec_FloorOf_ev (l : List S58) (il : List S44) (a : Int) (hl : l.length ≤ 2097152) : Ev (fun k => spec_FloorOf.f k il l a) (floOf l a) :=
 evEq (spec_FloorOf_l l il a hl l.length 0 (by omega)) fun k => rfl
theorem impl_FloorOf_l (l : List S58) (a : Int) (hl : l.length ≤ 2097152) : ∀ (d i : Nat), i + d = l.length → Ev (fun k => impl_FloorOf.l0 k a l (l.length : Int) (i : Int)) (floOf (l.drop i) a) := by
 intro d
 induction d with
 | zero =>
  intro i h
  rw [List.drop_eq_nil_of_le (by omega)]
  exact evRet fun k => by simp only [impl_FloorOf.l0]; rw [if_neg (by omega)]; rfl
 | succ d ih =>
  intro i h
  have hi : i < l.length := by omega
  rw [List.drop_eq_getElem_cons hi]
  by_cases he : l[i].f0 = a
  ·refine evRet fun k => ?_
   simp only [impl_FloorOf.l0, floOf]
   rw [if_pos (by omega), if_pos (by omega), if_pos (by omega), rdF hi, if_pos he, if_pos he]
  ·have := ih (i + 1) (by omega)
   simp only [floOf]
   rw [if_neg he]
   refine evStep this fun k => ?_
   simp only [impl_FloorOf.l0]
   rw [if_pos (by omega), if_pos (by omega), if_pos (by omega), rdF hi, if_neg he, w64 (by omega) (by omega)]
   rfl
theorem impl_FloorOf_ev (l : List S58) (il : List S44) (a : Int) (hl : l.length ≤ 2097152) : Ev (fun k => impl_FloorOf.f k il l a) (floOf l a) :=
 evEq (impl_FloorOf_l l a hl l.length 0 (by omega)) fun k => rfl
theorem spec_l1In_eq (a b c : Int) : spec_l1In.f a b c = some (decide (b ≤ a ∧ a ≤ c)) := by
 unfold spec_l1In.f
 by_cases h : a ≥ b
 ·rw [if_pos h]; simp [show b ≤ a from h]
 ·rw [if_neg h]; simp [show ¬ b ≤ a from h]
theorem impl_within_eq (a b c : Int) : impl_within.f a b c = some (decide (b ≤ a ∧ a ≤ c)) := by
 unfold impl_within.f
 by_cases h : a ≥ b
 ·rw [if_pos h]; simp [show b ≤ a from h]
 ·rw [if_neg h]; simp [show ¬ b ≤ a from h]
def entryOkB (i r b v : Int) (s : ByteArray) : Bool := decide (1 ≤ i ∧ i ≤ 1000) && (decide (0 ≤ r ∧ r ≤ 1) && (decide (0 ≤ b ∧ b ≤ 100000) && (decide (0 ≤ v ∧ v ≤ 1000) && decide ((s.size : Int) ≤ 8))))
theorem ite_some {b c : Bool} : (if b = true then some c else some false) = some (b && c) := by cases b <;> rfl
theorem spec_EntryOk_eq (i r b v : Int) (s : ByteArray) : spec_EntryOk.f i r b v s = some (entryOkB i r b v s) := by
 simp only [spec_EntryOk.f, spec_l1In_eq, Option.bind_some, ite_some, entryOkB]
theorem impl_EntryOk_eq (i r b v : Int) (s : ByteArray) : impl_EntryOk.f i r b v s = some (entryOkB i r b v s) := by
 simp only [impl_EntryOk.f, impl_within_eq, Option.bind_some, ite_some, entryOkB]
def nodeB (a : Int) : Bool := decide (0 ≤ a ∧ a ≤ 4)
def okI (b : List S58) : Option Int → List S44 → Bool
 | _, [] => true
 | p, x :: r => nodeB x.f0 && (!(match p with | none => false | some q => decide (x.f0 ≤ q)) && (entryOkB x.f1.f0 x.f1.f1 x.f1.f2 x.f1.f3 x.f1.f4 && (!(decide (x.f1.f0 ≤ floOf b x.f0)) && okI b (some x.f0) r)))
def okF : Option Int → List S58 → Bool
 | _, [] => true
 | p, x :: r => nodeB x.f0 && (!(match p with | none => false | some q => decide (x.f0 ≤ q)) && (decide (1 ≤ x.f1 ∧ x.f1 ≤ 1000) && okF (some x.f0) r))
def okS (a : List S44) (b : List S58) : Bool := okI b none a && okF none b
def prevI (a : List S44) : Nat → Option Int
 | 0 => none
 | i + 1 => (a[i]?).map (·.f0)
def prevF (a : List S58) : Nat → Option Int
 | 0 => none
 | i + 1 => (a[i]?).map (·.f0)
theorem spec_l3Node_eq (a : Int) : spec_l3Node.f a = some (nodeB a) := by
 simp only [spec_l3Node.f, spec_l1In_eq, Option.bind_some, nodeB]
theorem impl_isNode_eq (a : Int) : impl_isNode.f a = some (nodeB a) := by
 simp only [impl_isNode.f, impl_within_eq, Option.bind_some, nodeB]
theorem spec_Ok_l1 (a : List S44) (b : List S58) (hb : b.length ≤ 2097152) : ∀ (m i : Nat), i + m = b.length → Ev (fun k => spec_StateOk.l1 k (i : Int) a b) (okF (prevF b i) (b.drop i)) := by
 intro m
 induction m with
 | zero =>
  intro i h
  rw [List.drop_eq_nil_of_le (by omega)]
  exact evRet fun k => by simp only [spec_StateOk.l1]; rw [if_neg (by omega)]; simp only [okF]
 | succ m ih =>
  intro i h
  have hi : i < b.length := by omega
  have hx := ih (i + 1) (by omega)
  rw [List.drop_eq_getElem_cons hi]
  simp only [okF]
  refine evSucc ?_
  simp only [spec_StateOk.l1, rdF hi, spec_l3Node_eq, spec_l1In_eq, Option.bind_some]
  simp only [if_pos (show (i : Int) < (b.length : Int) by omega), if_pos (show (0 : Int) ≤ (i : Int) by omega), w64 (show (-9223372036854775808 : Int) ≤ (i : Int) + 1 by omega) (by omega)]
  have hp : prevF b (i + 1) = some b[i].f0 := by simp [prevF, hi]
  rw [hp] at hx
  by_cases c1 : nodeB b[i].f0 = true
  ·simp only [if_pos c1]
   simp only [c1, Bool.true_and]
   cases i with
   | zero =>
    simp only [if_neg (show ¬ ((0 : Nat) : Int) > 0 by omega), prevF, Bool.not_false, Bool.true_and]
    by_cases c3 : decide ((1 : Int) ≤ b[0].f1 ∧ b[0].f1 ≤ 1000) = true
    ·simp only [if_pos c3]; simp only [c3, Bool.true_and]; exact hx
    ·simp only [if_neg c3]; simp only [Bool.not_eq_true] at c3; simp only [c3, Bool.false_and]; exact evSome _
   | succ j =>
    have hj : j < b.length := by omega
    have e1 : (((j + 1 : Nat) : Int)) - 1 = (j : Int) := by omega
    simp only [if_pos (show ((j + 1 : Nat) : Int) > 0 by omega), e1, w64 (show (-9223372036854775808 : Int) ≤ (j : Int) by omega) (by omega), if_pos (show (0 : Int) ≤ (j : Int) by omega), if_pos (show (j : Int) < (b.length : Int) by omega), rdF hj]
    have hp2 : prevF b (j + 1) = some b[j].f0 := by simp [prevF, hj]
    simp only [hp2]
    by_cases c2 : b[j + 1].f0 ≤ b[j].f0
    ·simp only [if_pos c2, decide_eq_true c2, Bool.not_true, Bool.false_and]; exact evSome _
    ·simp only [if_neg c2, decide_eq_false c2, Bool.not_false, Bool.true_and]
     by_cases c3 : decide (1 ≤ b[j + 1].f1 ∧ b[j + 1].f1 ≤ 1000) = true
     ·simp only [if_pos c3]; simp only [c3, Bool.true_and]; exact hx
     ·simp only [if_neg c3]; simp only [Bool.not_eq_true] at c3; simp only [c3, Bool.false_and]; exact evSome _
  ·simp only [if_neg c1]; simp only [Bool.not_eq_true] at c1; simp only [c1, Bool.false_and]; exact evSome _
theorem spec_Ok_l0 (a : List S44) (b : List S58) (ha : a.length ≤ 2097152) (hb : b.length ≤ 2097152) : ∀ (m i : Nat), i + m = a.length → Ev (fun k => spec_StateOk.l0 k (i : Int) a b) (okI b (prevI a i) (a.drop i) && okF none b) := by
 intro m
 induction m with
 | zero =>
  intro i h
  rw [List.drop_eq_nil_of_le (by omega)]
  refine evSucc ?_
  simp only [spec_StateOk.l0]
  simp only [if_neg (show ¬ (i : Int) < (a.length : Int) by omega)]
  simpa [okI, prevF] using spec_Ok_l1 a b hb b.length 0 (by omega)
 | succ m ih =>
  intro i h
  have hi : i < a.length := by omega
  have hx := ih (i + 1) (by omega)
  rw [List.drop_eq_getElem_cons hi]
  simp only [okI]
  refine evSucc ?_
  simp only [spec_StateOk.l0, rdI hi, spec_l3Node_eq, spec_EntryOk_eq, Option.bind_some]
  simp only [if_pos (show (i : Int) < (a.length : Int) by omega), if_pos (show (0 : Int) ≤ (i : Int) by omega), w64 (show (-9223372036854775808 : Int) ≤ (i : Int) + 1 by omega) (by omega)]
  have hp : prevI a (i + 1) = some a[i].f0 := by simp [prevI, hi]
  rw [hp] at hx
  have tail : Ev (fun k => if entryOkB a[i].f1.f0 a[i].f1.f1 a[i].f1.f2 a[i].f1.f3 a[i].f1.f4 = true then ((spec_FloorOf.f k a b a[i].f0).bind fun t => if a[i].f1.f0 ≤ t then some false else spec_StateOk.l0 k ((i : Int) + 1) a b) else some false)
    ((entryOkB a[i].f1.f0 a[i].f1.f1 a[i].f1.f2 a[i].f1.f3 a[i].f1.f4 && (!(decide (a[i].f1.f0 ≤ floOf b a[i].f0)) && okI b (some a[i].f0) (a.drop (i + 1)))) && okF none b) := by
   by_cases c1 : entryOkB a[i].f1.f0 a[i].f1.f1 a[i].f1.f2 a[i].f1.f3 a[i].f1.f4 = true
   ·simp only [if_pos c1]
    simp only [c1, Bool.true_and]
    refine Ev.bind (spec_FloorOf_ev b a a[i].f0 hb) ?_
    by_cases c2 : a[i].f1.f0 ≤ floOf b a[i].f0
    ·simp only [if_pos c2, decide_eq_true c2, Bool.not_true, Bool.false_and]; exact evSome _
    ·simp only [if_neg c2, decide_eq_false c2, Bool.not_false, Bool.true_and]; exact hx
   ·simp only [if_neg c1]; simp only [Bool.not_eq_true] at c1; simp only [c1, Bool.false_and]; exact evSome _
  by_cases c1 : nodeB a[i].f0 = true
  ·simp only [if_pos c1]
   simp only [c1, Bool.true_and]
   cases i with
   | zero =>
    simp only [if_neg (show ¬ ((0 : Nat) : Int) > 0 by omega), prevI, Bool.not_false, Bool.true_and]
    exact tail
   | succ j =>
    have hj : j < a.length := by omega
    have e1 : (((j + 1 : Nat) : Int)) - 1 = (j : Int) := by omega
    simp only [if_pos (show ((j + 1 : Nat) : Int) > 0 by omega), e1, w64 (show (-9223372036854775808 : Int) ≤ (j : Int) by omega) (by omega), if_pos (show (0 : Int) ≤ (j : Int) by omega), if_pos (show (j : Int) < (a.length : Int) by omega), rdI hj]
    have hp2 : prevI a (j + 1) = some a[j].f0 := by simp [prevI, hj]
    simp only [hp2]
    by_cases c2 : a[j + 1].f0 ≤ a[j].f0
    ·simp only [if_pos c2, decide_eq_true c2, Bool.not_true, Bool.false_and]; exact evSome _
    ·simp only [if_neg c2, decide_eq_false c2, Bool.not_false, Bool.true_and]
     exact tail
  ·simp only [if_neg c1]; simp only [Bool.not_eq_true] at c1; simp only [c1, Bool.false_and]; exact evSome _
theorem spec_StateOk_ev (a : List S44) (b : List S58) (ha : a.length ≤ 2097152) (hb : b.length ≤ 2097152) : Ev (fun k => spec_StateOk.f k a b) (okS a b) := by
 have := spec_Ok_l0 a b ha hb a.length 0 (by omega)
 simpa [spec_StateOk.f, okS, prevI] using this
theorem impl_Ok_l1 (a : List S44) (b : List S58) (ha : a.length ≤ 2097152) (hb : b.length ≤ 2097152) : ∀ (m i : Nat), i + m = a.length → Ev (fun k => impl_StateOk.l1 k a (a.length : Int) (i : Int) a b) (okI b (prevI a i) (a.drop i)) := by
 intro m
 induction m with
 | zero =>
  intro i h
  rw [List.drop_eq_nil_of_le (by omega)]
  exact evRet fun k => by simp only [impl_StateOk.l1]; rw [if_neg (by omega)]; simp only [okI]
 | succ m ih =>
  intro i h
  have hi : i < a.length := by omega
  have hx := ih (i + 1) (by omega)
  rw [List.drop_eq_getElem_cons hi]
  simp only [okI]
  refine evSucc ?_
  simp only [impl_StateOk.l1, rdI hi, impl_isNode_eq, impl_EntryOk_eq, Option.bind_some]
  simp only [if_pos (show (i : Int) < (a.length : Int) by omega), if_pos (show (0 : Int) ≤ (i : Int) by omega), w64 (show (-9223372036854775808 : Int) ≤ (i : Int) + 1 by omega) (by omega)]
  have hp : prevI a (i + 1) = some a[i].f0 := by simp [prevI, hi]
  rw [hp] at hx
  by_cases c1 : nodeB a[i].f0 = true
  ·simp only [if_pos c1]
   simp only [c1, Bool.true_and]
   by_cases c2 : entryOkB a[i].f1.f0 a[i].f1.f1 a[i].f1.f2 a[i].f1.f3 a[i].f1.f4 = true
   ·simp only [if_pos c2]
    simp only [c2, Bool.true_and]
    refine Ev.bind (impl_FloorOf_ev b a a[i].f0 hb) ?_
    by_cases c3 : a[i].f1.f0 ≤ floOf b a[i].f0
    ·simp only [if_pos c3, decide_eq_true c3, Bool.not_true, Bool.false_and, Bool.and_false]; exact evSome _
    ·simp only [if_neg c3, decide_eq_false c3, Bool.not_false, Bool.true_and]
     cases i with
     | zero =>
      simp only [if_neg (show ¬ ((0 : Nat) : Int) > 0 by omega), prevI, Bool.not_false, Bool.true_and]
      exact hx
     | succ j =>
      have hj : j < a.length := by omega
      have e1 : (((j + 1 : Nat) : Int)) - 1 = (j : Int) := by omega
      simp only [if_pos (show ((j + 1 : Nat) : Int) > 0 by omega), e1, w64 (show (-9223372036854775808 : Int) ≤ (j : Int) by omega) (by omega), if_pos (show (0 : Int) ≤ (j : Int) by omega), if_pos (show (j : Int) < (a.length : Int) by omega), rdI hj]
      have hp2 : prevI a (j + 1) = some a[j].f0 := by simp [prevI, hj]
      simp only [hp2]
      by_cases c4 : a[j + 1].f0 ≤ a[j].f0
      ·simp only [if_pos (show a[j].f0 ≥ a[j + 1].f0 from c4), decide_eq_true c4, Bool.not_true, Bool.false_and]; exact evSome _
      ·simp only [if_neg (show ¬ a[j].f0 ≥ a[j + 1].f0 from c4), decide_eq_false c4, Bool.not_false, Bool.true_and]
       exact hx
   ·simp only [if_neg c2]; simp only [Bool.not_eq_true] at c2; simp only [c2, Bool.false_and, Bool.and_false]; exact evSome _
  ·simp only [if_neg c1]; simp only [Bool.not_eq_true] at c1; simp only [c1, Bool.false_and]; exact evSome _
theorem impl_Ok_l0 (a : List S44) (b : List S58) (ha : a.length ≤ 2097152) (hb : b.length ≤ 2097152) : ∀ (m i : Nat), i + m = b.length → Ev (fun k => impl_StateOk.l0 k b (b.length : Int) (i : Int) a b) (okF (prevF b i) (b.drop i) && okI b none a) := by
 intro m
 induction m with
 | zero =>
  intro i h
  rw [List.drop_eq_nil_of_le (by omega)]
  refine evSucc ?_
  simp only [impl_StateOk.l0]
  simp only [if_neg (show ¬ (i : Int) < (b.length : Int) by omega)]
  simpa [okF, prevI] using impl_Ok_l1 a b ha hb a.length 0 (by omega)
 | succ m ih =>
  intro i h
  have hi : i < b.length := by omega
  have hx := ih (i + 1) (by omega)
  rw [List.drop_eq_getElem_cons hi]
  simp only [okF]
  refine evSucc ?_
  simp only [impl_StateOk.l0, rdF hi, impl_isNode_eq, impl_within_eq, Option.bind_some]
  simp only [if_pos (show (i : Int) < (b.length : Int) by omega), if_pos (show (0 : Int) ≤ (i : Int) by omega), w64 (show (-9223372036854775808 : Int) ≤ (i : Int) + 1 by omega) (by omega)]
  have hp : prevF b (i + 1) = some b[i].f0 := by simp [prevF, hi]
  rw [hp] at hx
  by_cases c1 : nodeB b[i].f0 = true
  ·simp only [if_pos c1]
   simp only [c1, Bool.true_and]
   by_cases c3 : decide (1 ≤ b[i].f1 ∧ b[i].f1 ≤ 1000) = true
   ·simp only [if_pos c3]; simp only [c3, Bool.true_and]
    cases i with
    | zero =>
     simp only [if_neg (show ¬ ((0 : Nat) : Int) > 0 by omega), prevF, Bool.not_false, Bool.true_and]
     exact hx
    | succ j =>
     have hj : j < b.length := by omega
     have e1 : (((j + 1 : Nat) : Int)) - 1 = (j : Int) := by omega
     simp only [if_pos (show ((j + 1 : Nat) : Int) > 0 by omega), e1, w64 (show (-9223372036854775808 : Int) ≤ (j : Int) by omega) (by omega), if_pos (show (0 : Int) ≤ (j : Int) by omega), if_pos (show (j : Int) < (b.length : Int) by omega), rdF hj]
     have hp2 : prevF b (j + 1) = some b[j].f0 := by simp [prevF, hj]
     simp only [hp2]
     by_cases c2 : b[j + 1].f0 ≤ b[j].f0
     ·simp only [if_pos (show b[j].f0 ≥ b[j + 1].f0 from c2), decide_eq_true c2, Bool.not_true, Bool.false_and]; exact evSome _
     ·simp only [if_neg (show ¬ b[j].f0 ≥ b[j + 1].f0 from c2), decide_eq_false c2, Bool.not_false, Bool.true_and]
      exact hx
   ·simp only [if_neg c3]; simp only [Bool.not_eq_true] at c3; simp only [c3, Bool.false_and, Bool.and_false]; exact evSome _
  ·simp only [if_neg c1]; simp only [Bool.not_eq_true] at c1; simp only [c1, Bool.false_and]; exact evSome _
theorem impl_StateOk_ev (a : List S44) (b : List S58) (ha : a.length ≤ 2097152) (hb : b.length ≤ 2097152) : Ev (fun k => impl_StateOk.f k a b) (okS a b) := by
 have := impl_Ok_l0 a b ha hb b.length 0 (by omega)
 rw [Bool.and_comm] at this
 simpa [impl_StateOk.f, okS, prevF] using this
def sameI : List S44 → List S44 → Bool
 | [], _ => true
 | _ :: _, [] => true
 | x :: r, y :: q => if (!((x.f0 == y.f0)) || ((!((x.f1.f0 == y.f1.f0)) || (!((x.f1.f1 == y.f1.f1)) || (!((x.f1.f2 == y.f1.f2)) || (!((x.f1.f3 == y.f1.f3)) || (!((x.f1.f4.toList == y.f1.f4.toList))))))))) = true then false else sameI r q
def sameF : List S58 → List S58 → Bool
 | [], _ => true
 | _ :: _, [] => true
 | x :: r, y :: q => if (!((x.f0 == y.f0)) || (!((x.f1 == y.f1)))) = true then false else sameF r q
def sameS (a : List S44) (b : List S58) (c : List S44) (d : List S58) : Bool :=
 decide (a.length = c.length) && (decide (b.length = d.length) && (sameI a c && sameF b d))
theorem spec_Same_l1 (a c : List S44) (b d : List S58) (hl : b.length = d.length) (hb : b.length ≤ 2097152) : ∀ (m i : Nat), i + m = b.length → Ev (fun k => spec_StateSame.l1 k (i : Int) a b c d) (sameF (b.drop i) (d.drop i)) := by
 intro m
 induction m with
 | zero =>
  intro i h
  rw [List.drop_eq_nil_of_le (by omega)]
  exact evRet fun k => by simp only [spec_StateSame.l1]; rw [if_neg (by omega)]; rfl
 | succ m ih =>
  intro i h
  have hi : i < b.length := by omega
  have hj : i < d.length := by omega
  have := ih (i + 1) (by omega)
  rw [List.drop_eq_getElem_cons hi, List.drop_eq_getElem_cons hj]
  simp only [sameF]
  refine evSucc ?_
  simp only [spec_StateSame.l1, rdF hi, rdF hj]
  simp only [if_pos (show (i : Int) < (b.length : Int) by omega), if_pos (show (0 : Int) ≤ (i : Int) by omega), if_pos (show (i : Int) < (d.length : Int) by omega), w64 (show (-9223372036854775808 : Int) ≤ (i : Int) + 1 by omega) (by omega)]
  split
  ·exact evSome _
  ·exact this
theorem spec_Same_l0 (a c : List S44) (b d : List S58) (hl : b.length = d.length) (hb : b.length ≤ 2097152) (hl2 : a.length = c.length) (ha : a.length ≤ 2097152) : ∀ (m i : Nat), i + m = a.length → Ev (fun k => spec_StateSame.l0 k (i : Int) a b c d) (sameI (a.drop i) (c.drop i) && sameF b d) := by
 intro m
 induction m with
 | zero =>
  intro i h
  rw [List.drop_eq_nil_of_le (by omega)]
  refine evSucc ?_
  simp only [spec_StateSame.l0]
  simp only [if_neg (show ¬ (i : Int) < (a.length : Int) by omega)]
  simpa [sameI] using spec_Same_l1 a c b d hl hb b.length 0 (by omega)
 | succ m ih =>
  intro i h
  have hi : i < a.length := by omega
  have hj : i < c.length := by omega
  have := ih (i + 1) (by omega)
  rw [List.drop_eq_getElem_cons hi, List.drop_eq_getElem_cons hj]
  simp only [sameI]
  refine evSucc ?_
  simp only [spec_StateSame.l0, rdI hi, rdI hj]
  simp only [if_pos (show (i : Int) < (a.length : Int) by omega), if_pos (show (0 : Int) ≤ (i : Int) by omega), if_pos (show (i : Int) < (c.length : Int) by omega), w64 (show (-9223372036854775808 : Int) ≤ (i : Int) + 1 by omega) (by omega)]
  split
  ·exact evSome _
  ·exact this
theorem spec_StateSame_ev (a c : List S44) (b d : List S58) (ha : a.length ≤ 2097152) (hb : b.length ≤ 2097152) : Ev (fun k => spec_StateSame.f k a b c d) (sameS a b c d) := by
 simp only [spec_StateSame.f]
 by_cases h1 : a.length = c.length
 ·simp only [if_pos (show (a.length : Int) = (c.length : Int) by omega)]
  refine evSucc ?_
  simp only [spec_StateSame.j0]
  by_cases h2 : b.length = d.length
  ·have := spec_Same_l0 a c b d h2 hb h1 ha a.length 0 (by omega)
   simpa [sameS, h1, h2] using this
  ·have : ((b.length : Int) != (d.length : Int)) = true := by simp; omega
   simp only [this, if_true]
   have e : sameS a b c d = false := by simp [sameS, h2]
   rw [e]; exact evSome _
 ·simp only [if_neg (show ¬ (a.length : Int) = (c.length : Int) by omega)]
  refine evSucc ?_
  simp only [spec_StateSame.j0, if_true]
  have e : sameS a b c d = false := by simp [sameS, h1]
  rw [e]; exact evSome _
theorem impl_Item_l0 (a c : List S44) (hl2 : a.length = c.length) (ha : a.length ≤ 2097152) : ∀ (m i : Nat), i + m = a.length → Ev (fun k => impl_Item.l0 k a c (a.length : Int) (i : Int)) (sameI (a.drop i) (c.drop i)) := by
 intro m
 induction m with
 | zero =>
  intro i h
  rw [List.drop_eq_nil_of_le (by omega)]
  refine evSucc ?_
  simp only [impl_Item.l0]
  simp only [if_neg (show ¬ (i : Int) < (a.length : Int) by omega)]
  exact evSome _
 | succ m ih =>
  intro i h
  have hi : i < a.length := by omega
  have hj : i < c.length := by omega
  have := ih (i + 1) (by omega)
  rw [List.drop_eq_getElem_cons hi, List.drop_eq_getElem_cons hj]
  simp only [sameI]
  refine evSucc ?_
  simp only [impl_Item.l0, rdI hi, rdI hj]
  simp only [if_pos (show (i : Int) < (a.length : Int) by omega), if_pos (show (0 : Int) ≤ (i : Int) by omega), if_pos (show (i : Int) < (c.length : Int) by omega), w64 (show (-9223372036854775808 : Int) ≤ (i : Int) + 1 by omega) (by omega)]
  split
  ·exact evSome _
  ·exact this
theorem impl_Floor_l0 (b d : List S58) (hl2 : b.length = d.length) (hb : b.length ≤ 2097152) : ∀ (m i : Nat), i + m = b.length → Ev (fun k => impl_Floor.l0 k b d (b.length : Int) (i : Int)) (sameF (b.drop i) (d.drop i)) := by
 intro m
 induction m with
 | zero =>
  intro i h
  rw [List.drop_eq_nil_of_le (by omega)]
  refine evSucc ?_
  simp only [impl_Floor.l0]
  simp only [if_neg (show ¬ (i : Int) < (b.length : Int) by omega)]
  exact evSome _
 | succ m ih =>
  intro i h
  have hi : i < b.length := by omega
  have hj : i < d.length := by omega
  have := ih (i + 1) (by omega)
  rw [List.drop_eq_getElem_cons hi, List.drop_eq_getElem_cons hj]
  simp only [sameF]
  refine evSucc ?_
  simp only [impl_Floor.l0, rdF hi, rdF hj]
  simp only [if_pos (show (i : Int) < (b.length : Int) by omega), if_pos (show (0 : Int) ≤ (i : Int) by omega), if_pos (show (i : Int) < (d.length : Int) by omega), w64 (show (-9223372036854775808 : Int) ≤ (i : Int) + 1 by omega) (by omega)]
  split
  ·exact evSome _
  ·exact this
theorem impl_Item_ev (a c : List S44) (ha : a.length ≤ 2097152) : Ev (fun k => impl_Item.f k a c) (decide (a.length = c.length) && sameI a c) := by
 simp only [impl_Item.f]
 by_cases h1 : a.length = c.length
 ·simp only [if_pos (show (a.length : Int) = (c.length : Int) by omega)]
  have := impl_Item_l0 a c h1 ha a.length 0 (by omega)
  simpa [h1] using this
 ·simp only [if_neg (show ¬ (a.length : Int) = (c.length : Int) by omega)]
  simp only [h1, decide_false, Bool.false_and]; exact evSome _
theorem impl_Floor_ev (b d : List S58) (hb : b.length ≤ 2097152) : Ev (fun k => impl_Floor.f k b d) (decide (b.length = d.length) && sameF b d) := by
 simp only [impl_Floor.f]
 by_cases h1 : b.length = d.length
 ·simp only [if_pos (show (b.length : Int) = (d.length : Int) by omega)]
  have := impl_Floor_l0 b d h1 hb b.length 0 (by omega)
  simpa [h1] using this
 ·simp only [if_neg (show ¬ (b.length : Int) = (d.length : Int) by omega)]
  simp only [h1, decide_false, Bool.false_and]; exact evSome _
theorem impl_StateSame_ev (a c : List S44) (b d : List S58) (ha : a.length ≤ 2097152) (hb : b.length ≤ 2097152) : Ev (fun k => impl_StateSame.f k a b c d) (sameS a b c d) := by
 simp only [impl_StateSame.f]
 refine Ev.bind (impl_Item_ev a c ha) ?_
 by_cases h1 : (decide (a.length = c.length) && sameI a c) = true
 ·simp only [if_pos h1]
  refine Ev.bind (impl_Floor_ev b d hb) ?_
  have e : sameS a b c d = (decide (b.length = d.length) && sameF b d) := by
   simp only [Bool.and_eq_true, decide_eq_true_eq] at h1
   simp [sameS, h1.1, h1.2]
  rw [e]; exact evSome _
 ·simp only [if_neg h1]
  have e : sameS a b c d = false := by
   simp only [sameS]
   cases hd : decide (a.length = c.length) <;> cases hi : sameI a c <;> simp_all
  rw [e]; exact evSome _
def cmpI (a b : Int) : Int := if a < b then -1 else if a > b then 1 else 0
def nz : List Int → Int → Int
 | [], t => t
 | x :: r, t => if x = 0 then nz r t else x
def ecmp (a0 a1 a2 a3 : Int) (a4 : ByteArray) (b0 b1 b2 b3 : Int) (b4 : ByteArray) : Int := nz [cmpI a0 b0, cmpI a1 b1, cmpI a2 b2, cmpI a3 b3] (Lib.compareBytes a4.data.toList b4.data.toList)
theorem u8_lt_or (a b : UInt8) : a < b ∨ a = b ∨ b < a := by
 rcases Nat.lt_trichotomy a.toNat b.toNat with h | h | h
 ·exact .inl (UInt8.lt_iff_toNat_lt.2 h)
 ·exact .inr (.inl (UInt8.toNat_inj.1 h))
 ·exact .inr (.inr (UInt8.lt_iff_toNat_lt.2 h))
theorem u8_irrefl (a : UInt8) : ¬ a < a := fun h => Nat.lt_irrefl _ (UInt8.lt_iff_toNat_lt.1 h)
theorem u8_asymm {a b : UInt8} (h : a < b) : ¬ b < a := fun h2 => Nat.lt_asymm (UInt8.lt_iff_toNat_lt.1 h) (UInt8.lt_iff_toNat_lt.1 h2)
theorem cmpB_eq : ∀ (x y : List UInt8), Lib.compareBytes x y = if Op.bytesLess x y = true then -1 else if (!(x == y)) = true then 1 else 0
 | [], [] => by simp [Lib.compareBytes, Op.bytesLess]
 | [], b :: q => by simp [Lib.compareBytes, Op.bytesLess]
 | a :: p, [] => by simp [Lib.compareBytes, Op.bytesLess]
 | a :: p, b :: q => by
  unfold Lib.compareBytes Op.bytesLess
  rw [cmpB_eq p q]
  rcases u8_lt_or a b with h | h | h
  ·simp [h]
  ·subst h; simp [u8_irrefl]
  ·have h1 := u8_asymm h
   have h2 : a ≠ b := fun e => by subst e; exact u8_irrefl _ h
   simp [h, h1, h2]
theorem spec_l2Cmp_eq (a b : Int) : spec_l2Cmp.f a b = some (cmpI a b) := by
 simp only [spec_l2Cmp.f, spec_l1Bit.f, cmpI]
 by_cases h : a < b
 ·rw [if_pos h, if_pos h]
 ·rw [if_neg h, if_neg h]
  by_cases h2 : a > b
  ·simp [h2]
  ·simp [h2]
theorem cmp_Compare_eq (a b : Int) : cmp_Compare_int.f a b = some (cmpI a b) := by
 simp only [cmp_Compare_int.f, cmp_isNaN_int.f, cmpI, Option.bind_some, bne_self_eq_false]
 by_cases h : a < b
 ·simp [h]
 ·by_cases h2 : a > b
  ·simp [h, h2]
  ·simp [h, h2]
theorem cmp_Or_l (l : List Int) (hl : l.length ≤ 1099511627776) : ∀ (d i : Nat), i + d = l.length → Ev (fun k => cmp_Or_int.l0 k 0 l (l.length : Int) (i : Int)) (nz (l.drop i) 0) := by
 intro d
 induction d with
 | zero =>
  intro i h
  rw [List.drop_eq_nil_of_le (by omega)]
  exact evRet fun k => by simp only [cmp_Or_int.l0]; rw [if_neg (by omega)]; rfl
 | succ d ih =>
  intro i h
  have hi : i < l.length := by omega
  rw [List.drop_eq_getElem_cons hi]
  by_cases hz : l[i] = 0
  ·have := ih (i + 1) (by omega)
   refine evStep (by simpa only [nz, if_pos hz] using this) fun k => ?_
   simp only [cmp_Or_int.l0]
   rw [if_pos (by omega), if_pos (by omega), if_pos (by omega), rd_nat hi, if_pos hz, w64 (by omega) (by omega)]
   rfl
  ·refine evRet fun k => ?_
   simp only [cmp_Or_int.l0]
   rw [if_pos (by omega), if_pos (by omega), if_pos (by omega), rd_nat hi, if_neg hz]
   simp only [nz, if_neg hz]
theorem cmp_Or_ev (l : List Int) (hl : l.length ≤ 1099511627776) : Ev (fun k => cmp_Or_int.f k l) (nz l 0) :=
 evEq (cmp_Or_l l hl l.length 0 (by omega)) fun k => rfl
theorem nz_snoc (t : Int) : ∀ (l : List Int), nz (l ++ [t]) 0 = nz l t
 | [] => by simp only [List.nil_append, nz]; split <;> simp_all
 | x :: r => by simp only [List.cons_append, nz, nz_snoc t r]
theorem impl_EntryCmp_ev (a0 a1 a2 a3 : Int) (a4 : ByteArray) (b0 b1 b2 b3 : Int) (b4 : ByteArray) : Ev (fun k => impl_EntryCmp.f k a0 a1 a2 a3 a4 b0 b1 b2 b3 b4) (ecmp a0 a1 a2 a3 a4 b0 b1 b2 b3 b4) := by
 simp only [impl_EntryCmp.f, cmp_Compare_eq, strings_Compare.f, Option.bind_some]
 refine Ev.bind (cmp_Or_ev _ (by simp)) ?_
 have : nz [cmpI a0 b0, cmpI a1 b1, cmpI a2 b2, cmpI a3 b3, Lib.compareBytes a4.data.toList b4.data.toList] 0 = ecmp a0 a1 a2 a3 a4 b0 b1 b2 b3 b4 := nz_snoc (Lib.compareBytes a4.data.toList b4.data.toList) [cmpI a0 b0, cmpI a1 b1, cmpI a2 b2, cmpI a3 b3]
 rw [this]
 exact evSome _
theorem spec_EntryCmp_l (l : List Int) (hl : l.length ≤ 1099511627776) (a0 a1 a2 a3 : Int) (a4 : ByteArray) (b0 b1 b2 b3 : Int) (b4 : ByteArray) : ∀ (d i : Nat), i + d = l.length →
  Ev (fun k => spec_EntryCmp.l0 k l (i : Int) a0 a1 a2 a3 a4 b0 b1 b2 b3 b4) (nz (l.drop i) (Lib.compareBytes a4.data.toList b4.data.toList)) := by
 intro d
 induction d with
 | zero =>
  intro i h
  rw [List.drop_eq_nil_of_le (by omega)]
  refine evRet fun k => ?_
  simp only [spec_EntryCmp.l0]
  rw [if_neg (by omega)]
  simp only [nz, cmpB_eq, Lib.toList_data, spec_l1Bit.f]
  by_cases h1 : Op.bytesLess a4.data.toList b4.data.toList = true
  ·rw [if_pos h1, if_pos h1]
  ·rw [if_neg h1, if_neg h1]
   split <;> rfl
 | succ d ih =>
  intro i h
  have hi : i < l.length := by omega
  rw [List.drop_eq_getElem_cons hi]
  by_cases hz : l[i] = 0
  ·have := ih (i + 1) (by omega)
   refine evStep (by simpa only [nz, if_pos hz] using this) fun k => ?_
   simp only [spec_EntryCmp.l0]
   rw [if_pos (by omega), if_pos (by omega), rd_nat hi, if_pos hz, w64 (by omega) (by omega)]
   rfl
  ·refine evRet fun k => ?_
   simp only [spec_EntryCmp.l0]
   rw [if_pos (by omega), if_pos (by omega), rd_nat hi, if_neg hz]
   simp only [nz, if_neg hz]
theorem spec_EntryCmp_ev (a0 a1 a2 a3 : Int) (a4 : ByteArray) (b0 b1 b2 b3 : Int) (b4 : ByteArray) : Ev (fun k => spec_EntryCmp.f k a0 a1 a2 a3 a4 b0 b1 b2 b3 b4) (ecmp a0 a1 a2 a3 a4 b0 b1 b2 b3 b4) := by
 simp only [spec_EntryCmp.f, spec_l2Cmp_eq, Option.bind_some]
 exact spec_EntryCmp_l [cmpI a0 b0, cmpI a1 b1, cmpI a2 b2, cmpI a3 b3] (by simp) a0 a1 a2 a3 a4 b0 b1 b2 b3 b4 4 0 (by simp)
abbrev EntT := Int × Int × Int × Int × ByteArray × Bool
theorem cmpI_neg (a b : Int) : cmpI b a = - cmpI a b := by
 unfold cmpI
 by_cases h : a < b
 ·simp [h, show ¬ b < a by omega]
 ·by_cases h2 : b < a
  ·simp [h, h2]
  ·simp [h, h2]
theorem cmpBytes_neg : ∀ (x y : List UInt8), Lib.compareBytes y x = - Lib.compareBytes x y
 | [], [] => by simp [Lib.compareBytes]
 | [], b :: q => by simp [Lib.compareBytes]
 | a :: p, [] => by simp [Lib.compareBytes]
 | a :: p, b :: q => by
  unfold Lib.compareBytes
  rw [cmpBytes_neg p q]
  rcases u8_lt_or a b with h | h | h
  ·have h1 := u8_asymm h
   have h2 : a ≠ b := fun e => by subst e; exact u8_irrefl _ h
   simp [h, h1, h2, h2.symm]
  ·subst h; simp [u8_irrefl]
  ·have h1 := u8_asymm h
   have h2 : a ≠ b := fun e => by subst e; exact u8_irrefl _ h
   simp [h, h1, h2, h2.symm]
theorem ecmp_neg (a0 a1 a2 a3 : Int) (a4 : ByteArray) (b0 b1 b2 b3 : Int) (b4 : ByteArray) : ecmp b0 b1 b2 b3 b4 a0 a1 a2 a3 a4 = - ecmp a0 a1 a2 a3 a4 b0 b1 b2 b3 b4 := by
 simp only [ecmp, nz, cmpI_neg a0 b0, cmpI_neg a1 b1, cmpI_neg a2 b2, cmpI_neg a3 b3, cmpBytes_neg a4.data.toList b4.data.toList, Int.neg_eq_zero]
 repeat (split <;> try rfl)
theorem ent_inc (b : List S58) (a : Int) : ∀ (l : List S44) (p : Option Int), okI b p l = true → (entOf l a).2.2.2.2.2 = true → 1 ≤ (entOf l a).1
 | [], _, _, h => by simp [entOf] at h
 | x :: r, p, h, h2 => by
  simp only [okI, Bool.and_eq_true] at h
  obtain ⟨_, _, h3, _, h4⟩ := h
  simp only [entOf] at h2 ⊢
  by_cases e : x.f0 = a
  ·rw [if_pos e]
   simp only [entryOkB, Bool.and_eq_true, decide_eq_true_eq] at h3
   exact h3.1.1
  ·rw [if_neg e] at h2 ⊢
   exact ent_inc b a r (some x.f0) h4 h2
theorem ent_none (a : Int) : ∀ (l : List S44), ¬ (entOf l a).2.2.2.2.2 = true → entOf l a = (0, 0, 0, 0, (⟨#[]⟩ : ByteArray), false)
 | [], _ => rfl
 | x :: r, h => by
  simp only [entOf] at h ⊢
  by_cases e : x.f0 = a
  ·rw [if_pos e] at h; exact absurd rfl h
  ·rw [if_neg e] at h ⊢
   exact ent_none a r h
theorem flo_nonneg (a : Int) : ∀ (l : List S58) (p : Option Int), okF p l = true → 0 ≤ floOf l a
 | [], _, _ => by simp [floOf]
 | x :: r, p, h => by
  simp only [okF, Bool.and_eq_true, decide_eq_true_eq] at h
  simp only [floOf]
  split
  ·omega
  ·exact flo_nonneg a r (some x.f0) h.2.2.2
def maxI (a b : Int) : Int := if a > b then a else b
theorem spec_l1Max_eq (a b : Int) : spec_l1Max.f a b = some (maxI a b) := by
 unfold spec_l1Max.f maxI; split <;> rfl
theorem mx_eq (a b : Int) : mx a b = maxI a b := by
 unfold mx maxI; split <;> split <;> omega
def maxE (x y : EntT) : Int × Int × Int × Int × ByteArray :=
 if ecmp x.1 x.2.1 x.2.2.1 x.2.2.2.1 x.2.2.2.2.1 y.1 y.2.1 y.2.2.1 y.2.2.2.1 y.2.2.2.2.1 < 0 then (y.1, y.2.1, y.2.2.1, y.2.2.2.1, y.2.2.2.2.1) else (x.1, x.2.1, x.2.2.1, x.2.2.2.1, x.2.2.2.2.1)
theorem impl_EntryMax_ev (x y : EntT) : Ev (fun k => impl_EntryMax.f k x.1 x.2.1 x.2.2.1 x.2.2.2.1 x.2.2.2.2.1 y.1 y.2.1 y.2.2.1 y.2.2.2.1 y.2.2.2.2.1) (maxE x y) := by
 simp only [impl_EntryMax.f, maxE]
 refine Ev.bind (impl_EntryCmp_ev _ _ _ _ _ _ _ _ _ _) ?_
 split
 ·exact evSome _
 ·exact evSome _
def addI (i fl : Int) (e : Int × Int × Int × Int × ByteArray) : List S44 := if e.1 > fl then [⟨i, ⟨e.1, e.2.1, e.2.2.1, e.2.2.2.1, e.2.2.2.2⟩⟩] else []
def addF (i fl : Int) : List S58 := if fl > 0 then [⟨i, fl⟩] else []
def joinR (a : List S44) (b : List S58) (c : List S44) (e : List S58) : Nat → Int → List S44 → List S58 → List S44 × List S58
 | 0, _, x, y => (x, y)
 | n + 1, i, x, y => joinR a b c e n (i + 1) (x ++ addI i (maxI (floOf b i) (floOf e i)) (maxE (entOf a i) (entOf c i))) (y ++ addF i (maxI (floOf b i) (floOf e i)))
theorem addI_len (i fl : Int) (e : Int × Int × Int × Int × ByteArray) : (addI i fl e).length ≤ 1 := by unfold addI; split <;> simp
theorem addF_len (i fl : Int) : (addF i fl).length ≤ 1 := by unfold addF; split <;> simp
theorem joinR_len (a : List S44) (b : List S58) (c : List S44) (e : List S58) : ∀ (n : Nat) (i : Int) (x : List S44) (y : List S58), (joinR a b c e n i x y).1.length ≤ x.length + n ∧ (joinR a b c e n i x y).2.length ≤ y.length + n
 | 0, _, _, _ => ⟨Nat.le_refl _, Nat.le_refl _⟩
 | n + 1, i, x, y => by
  have h := joinR_len a b c e n (i + 1) (x ++ addI i (maxI (floOf b i) (floOf e i)) (maxE (entOf a i) (entOf c i))) (y ++ addF i (maxI (floOf b i) (floOf e i)))
  have h1 := addI_len i (maxI (floOf b i) (floOf e i)) (maxE (entOf a i) (entOf c i))
  have h2 := addF_len i (maxI (floOf b i) (floOf e i))
  simp only [List.length_append] at h
  simp only [joinR]
  omega
theorem impl_join_l (a : List S44) (b : List S58) (c : List S44) (e : List S58) (ha : a.length ≤ 2097152) (hb : b.length ≤ 2097152) (hc : c.length ≤ 2097152) (he : e.length ≤ 2097152) :
  ∀ (n : Nat) (i : Nat) (x : List S44) (y : List S58), i + n = 5 → x.length ≤ i → y.length ≤ i → Ev (fun k => impl_stateJoin.l0 k (i : Int) a b c e x y) (joinR a b c e n (i : Int) x y) := by
 intro n
 induction n with
 | zero =>
  intro i x y h _ _
  exact evRet fun k => by simp only [impl_stateJoin.l0]; rw [if_neg (by omega)]; rfl
 | succ n ih =>
  intro i x y h hx hy
  have h1 := addI_len i (maxI (floOf b i) (floOf e i)) (maxE (entOf a i) (entOf c i))
  have h2 := addF_len i (maxI (floOf b i) (floOf e i))
  have hr := ih (i + 1) (x ++ addI i (maxI (floOf b i) (floOf e i)) (maxE (entOf a i) (entOf c i))) (y ++ addF i (maxI (floOf b i) (floOf e i))) (by omega) (by rw [List.length_append]; omega) (by rw [List.length_append]; omega)
  simp only [joinR]
  refine evSucc ?_
  simp only [impl_stateJoin.l0, mx_eq]
  simp only [if_pos (show (i : Int) < 5 by omega), w64 (show (-9223372036854775808 : Int) ≤ (i : Int) + 1 by omega) (by omega), if_pos (show x.length < 2513169434916 by omega), if_pos (show y.length < 8796093022208 by omega)]
  refine Ev.bind (impl_EntryOf_ev a b i ha) ?_
  refine Ev.bind (impl_EntryOf_ev c e i hc) ?_
  refine Ev.bind (impl_EntryMax_ev (entOf a i) (entOf c i)) ?_
  refine Ev.bind (impl_FloorOf_ev b a i hb) ?_
  refine Ev.bind (impl_FloorOf_ev e c i he) ?_
  by_cases c1 : (maxE (entOf a i) (entOf c i)).1 > maxI (floOf b i) (floOf e i)
  ·simp only [if_pos c1, Option.bind_some]
   simp only [addI, if_pos c1] at hr ⊢
   by_cases c2 : maxI (floOf b i) (floOf e i) > 0
   ·simp only [if_pos c2]
    simp only [addF, if_pos c2] at hr ⊢
    exact hr
   ·simp only [if_neg c2]
    simp only [addF, if_neg c2, List.append_nil] at hr ⊢
    exact hr
  ·simp only [if_neg c1]
   simp only [addI, if_neg c1, List.append_nil] at hr ⊢
   by_cases c2 : maxI (floOf b i) (floOf e i) > 0
   ·simp only [if_pos c2]
    simp only [addF, if_pos c2] at hr ⊢
    exact hr
   ·simp only [if_neg c2]
    simp only [addF, if_neg c2, List.append_nil] at hr ⊢
    exact hr
def joinS (a : List S44) (b : List S58) (c : List S44) (e : List S58) : List S44 × List S58 := joinR a b c e 5 0 [] []
theorem impl_stateJoin_ev (a : List S44) (b : List S58) (c : List S44) (e : List S58) (ha : a.length ≤ 2097152) (hb : b.length ≤ 2097152) (hc : c.length ≤ 2097152) (he : e.length ≤ 2097152) : Ev (fun k => impl_stateJoin.f k a b c e) (joinS a b c e) :=
 impl_join_l a b c e ha hb hc he 5 0 [] [] (by omega) (by simp) (by simp)
theorem joinS_len (a : List S44) (b : List S58) (c : List S44) (e : List S58) : (joinS a b c e).1.length ≤ 5 ∧ (joinS a b c e).2.length ≤ 5 := by
 have := joinR_len a b c e 5 0 [] []
 simpa [joinS] using this
theorem spec_join_l (a : List S44) (b : List S58) (c : List S44) (e : List S58) (ha : a.length ≤ 2097152) (hb : b.length ≤ 2097152) (hc : c.length ≤ 2097152) (he : e.length ≤ 2097152) (o1 : okS a b = true) (o2 : okS c e = true) :
  ∀ (n : Nat) (i : Nat) (x : List S44) (y : List S58), i + n = 5 → x.length ≤ i → y.length ≤ i → Ev (fun k => spec_l3Join.l0 k (i : Int) a b c e x y) (joinR a b c e n (i : Int) x y) := by
 intro n
 induction n with
 | zero =>
  intro i x y h _ _
  exact evRet fun k => by simp only [spec_l3Join.l0]; rw [if_neg (by omega)]; rfl
 | succ n ih =>
  intro i x y h hx hy
  have h1 := addI_len i (maxI (floOf b i) (floOf e i)) (maxE (entOf a i) (entOf c i))
  have h2 := addF_len i (maxI (floOf b i) (floOf e i))
  have hr := ih (i + 1) (x ++ addI i (maxI (floOf b i) (floOf e i)) (maxE (entOf a i) (entOf c i))) (y ++ addF i (maxI (floOf b i) (floOf e i))) (by omega) (by rw [List.length_append]; omega) (by rw [List.length_append]; omega)
  simp only [okS, Bool.and_eq_true] at o1 o2
  have fa := flo_nonneg i b none o1.2
  have fc := flo_nonneg i e none o2.2
  have hmx : 0 ≤ maxI (floOf b i) (floOf e i) := by unfold maxI; split <;> omega
  have j3 : ∀ (z : Bool) (y' : List S58), (if z = true then ((entOf c i).1, (entOf c i).2.1, (entOf c i).2.2.1, (entOf c i).2.2.2.1, (entOf c i).2.2.2.2.1) else ((entOf a i).1, (entOf a i).2.1, (entOf a i).2.2.1, (entOf a i).2.2.2.1, (entOf a i).2.2.2.2.1)) = maxE (entOf a i) (entOf c i) →
    Ev (fun k => spec_l3Join.l0 k ((i : Int) + 1) a b c e (x ++ addI i (maxI (floOf b i) (floOf e i)) (maxE (entOf a i) (entOf c i))) y') (joinR a b c e n ((i : Int) + 1) (x ++ addI i (maxI (floOf b i) (floOf e i)) (maxE (entOf a i) (entOf c i))) (y ++ addF i (maxI (floOf b i) (floOf e i)))) →
    Ev (fun k => spec_l3Join.j3 k (i : Int) (maxI (floOf b i) (floOf e i)) z a b c e x y' (entOf c i).1 (entOf c i).2.1 (entOf c i).2.2.1 (entOf c i).2.2.2.1 (entOf c i).2.2.2.2.1 (entOf a i).1 (entOf a i).2.1 (entOf a i).2.2.1 (entOf a i).2.2.2.1 (entOf a i).2.2.2.2.1)
     (joinR a b c e n ((i : Int) + 1) (x ++ addI i (maxI (floOf b i) (floOf e i)) (maxE (entOf a i) (entOf c i))) (y ++ addF i (maxI (floOf b i) (floOf e i)))) := by
   intro z y' hz hv
   refine evSucc ?_
   simp only [spec_l3Join.j3]
   simp only [w64 (show (-9223372036854775808 : Int) ≤ (i : Int) + 1 by omega) (by omega), if_pos (show x.length < 2513169434916 by omega)]
   rw [← hz] at hv
   rw [← hz]
   cases z
   ·simp only [Bool.false_eq_true, if_false] at hv ⊢
    by_cases c1 : (entOf a i).1 > maxI (floOf b i) (floOf e i)
    ·simp only [if_pos c1]
     simp only [addI, if_pos c1] at hv ⊢
     exact hv
    ·simp only [if_neg c1]
     simp only [addI, if_neg c1, List.append_nil] at hv ⊢
     exact hv
   ·simp only [if_true] at hv ⊢
    by_cases c1 : (entOf c i).1 > maxI (floOf b i) (floOf e i)
    ·simp only [if_pos c1]
     simp only [addI, if_pos c1] at hv ⊢
     exact hv
    ·simp only [if_neg c1]
     simp only [addI, if_neg c1, List.append_nil] at hv ⊢
     exact hv
  have j1 : ∀ (y' : List S58),
    Ev (fun k => spec_l3Join.l0 k ((i : Int) + 1) a b c e (x ++ addI i (maxI (floOf b i) (floOf e i)) (maxE (entOf a i) (entOf c i))) y') (joinR a b c e n ((i : Int) + 1) (x ++ addI i (maxI (floOf b i) (floOf e i)) (maxE (entOf a i) (entOf c i))) (y ++ addF i (maxI (floOf b i) (floOf e i)))) →
    Ev (fun k => spec_l3Join.j1 k (i : Int) (maxI (floOf b i) (floOf e i)) a b c e x y')
     (joinR a b c e n ((i : Int) + 1) (x ++ addI i (maxI (floOf b i) (floOf e i)) (maxE (entOf a i) (entOf c i))) (y ++ addF i (maxI (floOf b i) (floOf e i)))) := by
   intro y' hv
   refine evSucc ?_
   simp only [spec_l3Join.j1]
   refine Ev.bind (spec_EntryOf_ev a b i ha) ?_
   refine Ev.bind (spec_EntryOf_ev c e i hc) ?_
   by_cases ca : (entOf a i).2.2.2.2.2 = true
   ·simp only [if_pos ca]
    refine evSucc ?_
    simp only [spec_l3Join.j2, Bool.false_eq_true, if_false]
    simp only [if_pos ca]
    have ia := ent_inc b i a none o1.1 ca
    by_cases cc : (entOf c i).2.2.2.2.2 = true
    ·simp only [if_pos cc]
     refine Ev.bind (spec_EntryCmp_ev _ _ _ _ _ _ _ _ _ _) ?_
     refine j3 _ y' ?_ hv
     have hn := ecmp_neg (entOf a i).1 (entOf a i).2.1 (entOf a i).2.2.1 (entOf a i).2.2.2.1 (entOf a i).2.2.2.2.1 (entOf c i).1 (entOf c i).2.1 (entOf c i).2.2.1 (entOf c i).2.2.2.1 (entOf c i).2.2.2.2.1
     unfold maxE
     simp only [decide_eq_true_eq]
     by_cases q : ecmp (entOf a i).1 (entOf a i).2.1 (entOf a i).2.2.1 (entOf a i).2.2.2.1 (entOf a i).2.2.2.2.1 (entOf c i).1 (entOf c i).2.1 (entOf c i).2.2.1 (entOf c i).2.2.2.1 (entOf c i).2.2.2.2.1 < 0
     ·rw [if_pos q, if_pos (by omega)]
     ·rw [if_neg q, if_neg (by omega)]
    ·simp only [if_neg cc]
     refine j3 false y' ?_ hv
     have e0 := ent_none i c cc
     unfold maxE
     rw [e0]
     have q : ¬ ecmp (entOf a i).1 (entOf a i).2.1 (entOf a i).2.2.1 (entOf a i).2.2.2.1 (entOf a i).2.2.2.2.1 0 0 0 0 (⟨#[]⟩ : ByteArray) < 0 := by
      have : cmpI (entOf a i).1 0 = 1 := by unfold cmpI; rw [if_neg (by omega), if_pos (by omega)]
      simp [ecmp, nz, this]
     rw [if_neg q]; rfl
   ·simp only [if_neg ca]
    have e0 := ent_none i a ca
    by_cases cc : (entOf c i).2.2.2.2.2 = true
    ·refine evSucc ?_
     simp only [spec_l3Join.j2, cc, Bool.not_true, Bool.false_eq_true, if_false]
     simp only [if_neg ca]
     refine j3 true y' ?_ hv
     have ic := ent_inc e i c none o2.1 cc
     unfold maxE
     rw [e0]
     have q : ecmp 0 0 0 0 (⟨#[]⟩ : ByteArray) (entOf c i).1 (entOf c i).2.1 (entOf c i).2.2.1 (entOf c i).2.2.2.1 (entOf c i).2.2.2.2.1 < 0 := by
      have : cmpI 0 (entOf c i).1 = -1 := by unfold cmpI; rw [if_pos (by omega)]
      simp [ecmp, nz, this]
     rw [if_pos q]; rfl
    ·have e1 := ent_none i c cc
     have hm : maxE (entOf a i) (entOf c i) = (0, 0, 0, 0, (⟨#[]⟩ : ByteArray)) := by
      rw [e0, e1]; unfold maxE; split <;> rfl
     have hA : addI i (maxI (floOf b i) (floOf e i)) (maxE (entOf a i) (entOf c i)) = [] := by
      rw [hm]; unfold addI; rw [if_neg (by show ¬ (0 : Int) > _; omega)]
     rw [hA, List.append_nil] at hv ⊢
     refine evSucc ?_
     simp only [Bool.not_eq_true] at cc
     simp only [spec_l3Join.j2, cc, Bool.not_false, if_true]
     simp only [w64 (show (-9223372036854775808 : Int) ≤ (i : Int) + 1 by omega) (by omega)]
     exact hv
  simp only [joinR]
  refine evSucc ?_
  simp only [spec_l3Join.l0, spec_l1Max_eq, Option.bind_some]
  simp only [if_pos (show (i : Int) < 5 by omega), if_pos (show y.length < 8796093022208 by omega)]
  refine Ev.bind (spec_FloorOf_ev b a i hb) ?_
  refine Ev.bind (spec_FloorOf_ev e c i he) ?_
  by_cases c2 : maxI (floOf b i) (floOf e i) > 0
  ·simp only [if_pos c2]
   refine j1 _ ?_
   simp only [addF, if_pos c2] at hr ⊢
   exact hr
  ·simp only [if_neg c2]
   refine j1 _ ?_
   simp only [addF, if_neg c2, List.append_nil] at hr ⊢
   exact hr
theorem spec_l3Join_ev (a : List S44) (b : List S58) (c : List S44) (e : List S58) (ha : a.length ≤ 2097152) (hb : b.length ≤ 2097152) (hc : c.length ≤ 2097152) (he : e.length ≤ 2097152) (o1 : okS a b = true) (o2 : okS c e = true) : Ev (fun k => spec_l3Join.f k a b c e) (joinS a b c e) :=
 spec_join_l a b c e ha hb hc he o1 o2 5 0 [] [] (by omega) (by simp) (by simp)
def joinO (a : List S44) (b : List S58) (c : List S44) (e : List S58) : List S44 × List S58 × Bool :=
 if okS a b = true then (if okS c e = true then ((joinS a b c e).1, (joinS a b c e).2, true) else ([], [], false)) else ([], [], false)
theorem impl_StateJoin_ev (a : List S44) (b : List S58) (c : List S44) (e : List S58) (ha : a.length ≤ 2097152) (hb : b.length ≤ 2097152) (hc : c.length ≤ 2097152) (he : e.length ≤ 2097152) : Ev (fun k => impl_StateJoin.f k a b c e) (joinO a b c e) := by
 simp only [impl_StateJoin.f, joinO]
 refine Ev.bind (impl_StateOk_ev a b ha hb) ?_
 by_cases o1 : okS a b = true
 ·simp only [if_pos o1]
  refine Ev.bind (impl_StateOk_ev c e hc he) ?_
  by_cases o2 : okS c e = true
  ·simp only [if_pos o2]
   refine Ev.bind (impl_stateJoin_ev a b c e ha hb hc he) ?_
   exact evSome _
  ·simp only [if_neg o2]; exact evSome _
 ·simp only [if_neg o1]; exact evSome _
abbrev E5 := Int × Int × Int × Int × ByteArray
def ent5 (x : EntT) : E5 := (x.1, x.2.1, x.2.2.1, x.2.2.2.1, x.2.2.2.2.1)
def ec (x y : E5) : Int := ecmp x.1 x.2.1 x.2.2.1 x.2.2.2.1 x.2.2.2.2 y.1 y.2.1 y.2.2.1 y.2.2.2.1 y.2.2.2.2
def mxE (x y : E5) : E5 := if ec x y < 0 then y else x
theorem maxE_eq (x y : EntT) : maxE x y = mxE (ent5 x) (ent5 y) := rfl
theorem cmpI_zero {a b : Int} (h : cmpI a b = 0) : a = b := by
 unfold cmpI at h
 by_cases h1 : a < b
 ·rw [if_pos h1] at h; omega
 ·rw [if_neg h1] at h
  by_cases h2 : a > b
  ·rw [if_pos h2] at h; omega
  ·omega
theorem cmpI_self (a : Int) : cmpI a a = 0 := by unfold cmpI; simp
theorem cmpB_zero : ∀ {x y : List UInt8}, Lib.compareBytes x y = 0 → x = y
 | [], [], _ => rfl
 | [], b :: q, h => by simp [Lib.compareBytes] at h
 | a :: p, [], h => by simp [Lib.compareBytes] at h
 | a :: p, b :: q, h => by
  unfold Lib.compareBytes at h
  rcases u8_lt_or a b with h1 | h1 | h1
  ·simp [h1] at h
  ·subst h1
   simp [u8_irrefl] at h
   rw [cmpB_zero h]
  ·have h2 := u8_asymm h1
   simp [h1, h2] at h
theorem cmpB_self : ∀ (x : List UInt8), Lib.compareBytes x x = 0
 | [] => by simp [Lib.compareBytes]
 | a :: p => by unfold Lib.compareBytes; simp [u8_irrefl, cmpB_self p]
theorem ec_unf (x y : E5) : ec x y = if cmpI x.1 y.1 ≠ 0 then cmpI x.1 y.1 else if cmpI x.2.1 y.2.1 ≠ 0 then cmpI x.2.1 y.2.1 else if cmpI x.2.2.1 y.2.2.1 ≠ 0 then cmpI x.2.2.1 y.2.2.1 else if cmpI x.2.2.2.1 y.2.2.2.1 ≠ 0 then cmpI x.2.2.2.1 y.2.2.2.1 else Lib.compareBytes x.2.2.2.2.data.toList y.2.2.2.2.data.toList := by
 unfold ec ecmp
 simp only [nz]
 repeat (first | (split <;> (try simp_all; done)) | rfl)
theorem ec_neg (x y : E5) : ec y x = - ec x y := ecmp_neg _ _ _ _ _ _ _ _ _ _
theorem ec_self (x : E5) : ec x x = 0 := by rw [ec_unf]; simp [cmpI_self, cmpB_self]
theorem bytes_ext {a b : ByteArray} (h : a.data.toList = b.data.toList) : a = b := by
 cases a; cases b
 simp at h
 congr
theorem ec_zero {x y : E5} (h : ec x y = 0) : x = y := by
 rw [ec_unf] at h
 by_cases h1 : cmpI x.1 y.1 = 0
 ·rw [if_neg (by simp [h1])] at h
  by_cases h2 : cmpI x.2.1 y.2.1 = 0
  ·rw [if_neg (by simp [h2])] at h
   by_cases h3 : cmpI x.2.2.1 y.2.2.1 = 0
   ·rw [if_neg (by simp [h3])] at h
    by_cases h4 : cmpI x.2.2.2.1 y.2.2.2.1 = 0
    ·rw [if_neg (by simp [h4])] at h
     have h5 := bytes_ext (cmpB_zero h)
     obtain ⟨a, b, c, d, s⟩ := x
     obtain ⟨a', b', c', d', s'⟩ := y
     simp only at h1 h2 h3 h4 h5
     rw [cmpI_zero h1, cmpI_zero h2, cmpI_zero h3, cmpI_zero h4, h5]
    ·rw [if_pos h4] at h; exact absurd h h4
   ·rw [if_pos h3] at h; exact absurd h h3
  ·rw [if_pos h2] at h; exact absurd h h2
 ·rw [if_pos h1] at h; exact absurd h h1
theorem ec_lt_iff (x y : E5) : ec x y < 0 ↔ (x.1 < y.1 ∨ x.1 = y.1 ∧ (x.2.1 < y.2.1 ∨ x.2.1 = y.2.1 ∧ (x.2.2.1 < y.2.2.1 ∨ x.2.2.1 = y.2.2.1 ∧ (x.2.2.2.1 < y.2.2.2.1 ∨ x.2.2.2.1 = y.2.2.2.1 ∧ Lib.compareBytes x.2.2.2.2.data.toList y.2.2.2.2.data.toList < 0)))) := by
 have key : ∀ (a b : Int) (r : Int) (p : Prop), (r < 0 ↔ p) → ((if cmpI a b ≠ 0 then cmpI a b else r) < 0 ↔ (a < b ∨ a = b ∧ p)) := by
  intro a b r p hp
  unfold cmpI
  by_cases h1 : a < b
  ·simp [h1]
  ·by_cases h2 : a > b
   ·simp [h1, h2]; omega
   ·have e : a = b := by omega
    subst e
    simp [hp]
 rw [ec_unf]
 exact key _ _ _ _ (key _ _ _ _ (key _ _ _ _ (key _ _ _ _ Iff.rfl)))
/-- x is y or behind it. -/
def leE (x y : E5) : Prop := ¬ ec y x < 0
theorem leE_refl (x : E5) : leE x x := by unfold leE; rw [ec_self]; omega
theorem leE_antisymm {x y : E5} (h : leE x y) (h2 : leE y x) : x = y := by
 unfold leE at h h2
 have := ec_neg x y
 exact ec_zero (by omega)
theorem mxE_left (x y : E5) : leE x (mxE x y) := by
 unfold mxE
 split
 ·rename_i h
  unfold leE
  have := ec_neg x y
  omega
 ·exact leE_refl x
theorem mxE_right (x y : E5) : leE y (mxE x y) := by
 unfold mxE
 split
 ·exact leE_refl y
 ·rename_i h; exact h
theorem mxE_or (x y : E5) : mxE x y = x ∨ mxE x y = y := by unfold mxE; split <;> simp
theorem mxE_lub {x y z : E5} (h : leE x z) (h2 : leE y z) : leE (mxE x y) z := by rcases mxE_or x y with e | e <;> rw [e] <;> assumption
theorem mxE_comm (x y : E5) : mxE x y = mxE y x := leE_antisymm (mxE_lub (mxE_right y x) (mxE_left y x)) (mxE_lub (mxE_right x y) (mxE_left x y))
theorem mxE_of_le {x y : E5} (h : leE x y) : mxE x y = y := leE_antisymm (mxE_lub h (leE_refl _)) (mxE_right _ _)
def zeroE : E5 := (0, 0, 0, 0, (⟨#[]⟩ : ByteArray))
theorem leE_zero {x : E5} (h : 1 ≤ x.1 ∨ x = zeroE) : leE zeroE x := by
 rcases h with h | rfl
 ·unfold leE
  rw [ec_lt_iff]
  rintro (h1 | ⟨h1, _⟩)
  ·simp only [zeroE] at h1; omega
  ·simp only [zeroE] at h1; omega
 ·exact leE_refl _
theorem maxI_le {a b : Int} : a ≤ maxI a b ∧ b ≤ maxI a b ∧ (maxI a b = a ∨ maxI a b = b) := by unfold maxI; split <;> omega
theorem flo_bd (a : Int) : ∀ (l : List S58) (p : Option Int), okF p l = true → 0 ≤ floOf l a ∧ floOf l a ≤ 1000
 | [], _, _ => by simp [floOf]
 | x :: r, p, h => by
  simp only [okF, Bool.and_eq_true, decide_eq_true_eq] at h
  simp only [floOf]
  split
  ·omega
  ·exact flo_bd a r (some x.f0) h.2.2.2
def kI (g : Int → Option E5) : Nat → Int → List S44
 | 0, _ => []
 | n + 1, i => (match g i with | some e => [⟨i, ⟨e.1, e.2.1, e.2.2.1, e.2.2.2.1, e.2.2.2.2⟩⟩] | none => []) ++ kI g n (i + 1)
def kF (f : Int → Int) : Nat → Int → List S58
 | 0, _ => []
 | n + 1, i => (if f i > 0 then [⟨i, f i⟩] else []) ++ kF f n (i + 1)
def oE (l : List S44) (a : Int) : Option E5 := if (entOf l a).2.2.2.2.2 = true then some (ent5 (entOf l a)) else none
theorem oE_nil (a : Int) : oE [] a = none := rfl
theorem oE_cons (x : S44) (l : List S44) (a : Int) : oE (x :: l) a = if x.f0 = a then some (x.f1.f0, x.f1.f1, x.f1.f2, x.f1.f3, x.f1.f4) else oE l a := by
 have h : entOf (x :: l) a = if x.f0 = a then (x.f1.f0, x.f1.f1, x.f1.f2, x.f1.f3, x.f1.f4, true) else entOf l a := rfl
 unfold oE
 rw [h]
 by_cases e : x.f0 = a
 ·simp only [if_pos e, if_true]; rfl
 ·simp only [if_neg e]
theorem oE_mem {l : List S44} {a : Int} {e : E5} (h : oE l a = some e) : ∃ x ∈ l, x.f0 = a ∧ e = (x.f1.f0, x.f1.f1, x.f1.f2, x.f1.f3, x.f1.f4) := by
 induction l with
 | nil => simp [oE_nil] at h
 | cons x l ih =>
  rw [oE_cons] at h
  by_cases c : x.f0 = a
  ·rw [if_pos c] at h
   exact ⟨x, List.mem_cons_self, c, (Option.some.inj h).symm⟩
  ·rw [if_neg c] at h
   obtain ⟨y, hy, h1⟩ := ih h
   exact ⟨y, List.mem_cons_of_mem _ hy, h1⟩
theorem oE_none {l : List S44} {a : Int} (h : ∀ x ∈ l, x.f0 ≠ a) : oE l a = none := by
 cases e : oE l a with
 | none => rfl
 | some v => obtain ⟨x, hx, h1, _⟩ := oE_mem e; exact absurd h1 (h x hx)
theorem ent_of (l : List S44) (a : Int) : entOf l a = match oE l a with | some e => (e.1, e.2.1, e.2.2.1, e.2.2.2.1, e.2.2.2.2, true) | none => (0, 0, 0, 0, (⟨#[]⟩ : ByteArray), false) := by
 unfold oE
 by_cases c : (entOf l a).2.2.2.2.2 = true
 ·rw [if_pos c]
  revert c
  generalize entOf l a = z
  obtain ⟨a1, a2, a3, a4, a5, a6⟩ := z
  intro c
  simp only at c
  subst c
  rfl
 ·rw [if_neg c]; exact ent_none a l c
def eZ (o : Option E5) : E5 := o.getD zeroE
theorem ent5_of (l : List S44) (a : Int) : ent5 (entOf l a) = eZ (oE l a) := by
 rw [ent_of]
 cases oE l a <;> rfl
/-- The ids lie in their order. -/
theorem okI_mem (b : List S58) : ∀ (l : List S44) (p : Option Int), okI b p l = true → ∀ x ∈ l, (0 ≤ x.f0 ∧ x.f0 ≤ 4) ∧ (∀ q, p = some q → q < x.f0) ∧ entryOkB x.f1.f0 x.f1.f1 x.f1.f2 x.f1.f3 x.f1.f4 = true ∧ floOf b x.f0 < x.f1.f0
 | [], _, _, x, hx => by simp at hx
 | y :: r, p, h, x, hx => by
  simp only [okI, Bool.and_eq_true, Bool.not_eq_true', decide_eq_false_iff_not] at h
  obtain ⟨h1, h2, h3, h4, h5⟩ := h
  have hy : ∀ q, p = some q → q < y.f0 := by
   intro q e
   subst e
   simp only [decide_eq_false_iff_not] at h2
   omega
  rcases List.mem_cons.1 hx with rfl | hx
  ·exact ⟨by simpa [nodeB] using h1, hy, h3, by omega⟩
  ·obtain ⟨z1, z2, z3⟩ := okI_mem b r (some y.f0) h5 x hx
   exact ⟨z1, fun q e => Int.lt_trans (hy q e) (z2 _ rfl), z3⟩
theorem okF_mem : ∀ (l : List S58) (p : Option Int), okF p l = true → ∀ x ∈ l, (0 ≤ x.f0 ∧ x.f0 ≤ 4) ∧ (∀ q, p = some q → q < x.f0) ∧ 1 ≤ x.f1 ∧ x.f1 ≤ 1000
 | [], _, _, x, hx => by simp at hx
 | y :: r, p, h, x, hx => by
  simp only [okF, Bool.and_eq_true, Bool.not_eq_true', decide_eq_true_eq] at h
  obtain ⟨h1, h2, h3, h5⟩ := h
  have hy : ∀ q, p = some q → q < y.f0 := by
   intro q e
   subst e
   simp only [decide_eq_false_iff_not] at h2
   omega
  rcases List.mem_cons.1 hx with rfl | hx
  ·exact ⟨by simpa [nodeB] using h1, hy, h3⟩
  ·obtain ⟨z1, z2, z3⟩ := okF_mem r (some y.f0) h5 x hx
   exact ⟨z1, fun q e => Int.lt_trans (hy q e) (z2 _ rfl), z3⟩
theorem kI_congr {g g' : Int → Option E5} : ∀ (n : Nat) (i : Int), (∀ j, i ≤ j → j < i + n → g j = g' j) → kI g n i = kI g' n i
 | 0, _, _ => rfl
 | n + 1, i, h => by
  simp only [kI]
  rw [h i (Int.le_refl _) (by omega), kI_congr n (i + 1) (fun j h1 h2 => h j (by omega) (by omega))]
theorem kF_congr {g g' : Int → Int} : ∀ (n : Nat) (i : Int), (∀ j, i ≤ j → j < i + n → g j = g' j) → kF g n i = kF g' n i
 | 0, _, _ => rfl
 | n + 1, i, h => by
  simp only [kF]
  rw [h i (Int.le_refl _) (by omega), kF_congr n (i + 1) (fun j h1 h2 => h j (by omega) (by omega))]
theorem kI_of (b : List S58) : ∀ (n : Nat) (i : Int) (l : List S44) (p : Option Int), i + n = 5 → okI b p l = true → (∀ x ∈ l, i ≤ x.f0) → l = kI (oE l) n i
 | 0, i, [], _, _, _, _ => rfl
 | 0, i, x :: l, p, h, ho, hi => by
  have h1 := hi x List.mem_cons_self
  have h2 := (okI_mem b _ p ho x List.mem_cons_self).1
  omega
 | n + 1, i, [], p, h, ho, hi => by
  simp only [kI, oE_nil, List.nil_append]
  have := kI_of b n (i + 1) [] p (by omega) ho (by simp)
  rw [← this]
 | n + 1, i, x :: l, p, h, ho, hi => by
  have ho2 : okI b (some x.f0) l = true := by simp only [okI, Bool.and_eq_true] at ho; exact ho.2.2.2.2
  have hm := okI_mem b l (some x.f0) ho2
  by_cases c : x.f0 = i
  ·have h1 := kI_of b n (i + 1) l (some x.f0) (by omega) ho2 (fun y hy => by have := (hm y hy).2.1 _ rfl; omega)
   simp only [kI]
   rw [oE_cons, if_pos c]
   simp only [List.singleton_append]
   rw [kI_congr (g' := oE l) n (i + 1) (fun j hj _ => by rw [oE_cons, if_neg (by omega)]), ← h1, ← c]
  ·have hx := hi x List.mem_cons_self
   have h1 := kI_of b n (i + 1) (x :: l) p (by omega) ho (fun y hy => by
    rcases List.mem_cons.1 hy with rfl | hy
    ·omega
    ·have := (hm y hy).2.1 _ rfl; omega)
   simp only [kI]
   rw [oE_none (l := x :: l) (a := i) (fun y hy => by
    rcases List.mem_cons.1 hy with rfl | hy
    ·exact c
    ·have := (hm y hy).2.1 _ rfl; omega)]
   simp only [List.nil_append]
   exact h1
theorem flo_cons (x : S58) (l : List S58) (a : Int) : floOf (x :: l) a = if x.f0 = a then x.f1 else floOf l a := rfl
theorem flo_zero {l : List S58} {a : Int} (h : ∀ x ∈ l, x.f0 ≠ a) : floOf l a = 0 := by
 induction l with
 | nil => rfl
 | cons x l ih => rw [flo_cons, if_neg (h x List.mem_cons_self)]; exact ih (fun y hy => h y (List.mem_cons_of_mem _ hy))
theorem kF_of : ∀ (n : Nat) (i : Int) (l : List S58) (p : Option Int), i + n = 5 → okF p l = true → (∀ x ∈ l, i ≤ x.f0) → l = kF (floOf l) n i
 | 0, i, [], _, _, _, _ => rfl
 | 0, i, x :: l, p, h, ho, hi => by
  have h1 := hi x List.mem_cons_self
  have h2 := (okF_mem _ p ho x List.mem_cons_self).1
  omega
 | n + 1, i, [], p, h, ho, hi => by
  simp only [kF]
  have := kF_of n (i + 1) [] p (by omega) ho (by simp)
  rw [← this]; simp [floOf]
 | n + 1, i, x :: l, p, h, ho, hi => by
  have ho2 : okF (some x.f0) l = true := by simp only [okF, Bool.and_eq_true] at ho; exact ho.2.2.2
  have hm := okF_mem l (some x.f0) ho2
  have hx1 := (okF_mem (x :: l) p ho x List.mem_cons_self).2.2
  by_cases c : x.f0 = i
  ·have h1 := kF_of n (i + 1) l (some x.f0) (by omega) ho2 (fun y hy => by have := (hm y hy).2.1 _ rfl; omega)
   simp only [kF]
   rw [flo_cons, if_pos c, if_pos (by omega)]
   simp only [List.singleton_append]
   rw [kF_congr (g' := floOf l) n (i + 1) (fun j hj _ => by rw [flo_cons, if_neg (by omega)]), ← h1, ← c]
  ·have hx := hi x List.mem_cons_self
   have h1 := kF_of n (i + 1) (x :: l) p (by omega) ho (fun y hy => by
    rcases List.mem_cons.1 hy with rfl | hy
    ·omega
    ·have := (hm y hy).2.1 _ rfl; omega)
   simp only [kF]
   rw [flo_zero (l := x :: l) (a := i) (fun y hy => by
    rcases List.mem_cons.1 hy with rfl | hy
    ·exact c
    ·have := (hm y hy).2.1 _ rfl; omega)]
   rw [if_neg (by omega)]
   simp only [List.nil_append]
   exact h1
theorem ok_items {a : List S44} {b : List S58} (h : okS a b = true) : a = kI (oE a) 5 0 := by
 simp only [okS, Bool.and_eq_true] at h
 exact kI_of b 5 0 a none (by omega) h.1 (fun x hx => (okI_mem b a none h.1 x hx).1.1)
theorem ok_floors {a : List S44} {b : List S58} (h : okS a b = true) : b = kF (floOf b) 5 0 := by
 simp only [okS, Bool.and_eq_true] at h
 exact kF_of 5 0 b none (by omega) h.2 (fun x hx => (okF_mem b none h.2 x hx).1.1)
theorem oE_kI (g : Int → Option E5) : ∀ (n : Nat) (i a : Int), oE (kI g n i) a = if i ≤ a ∧ a < i + n then g a else none
 | 0, i, a => by simp only [kI, oE_nil]; rw [if_neg (by omega)]
 | n + 1, i, a => by
  have ih := oE_kI g n (i + 1) a
  simp only [kI]
  by_cases c : i = a
  ·subst c
   rw [if_pos (by omega)]
   cases h : g i with
   | none => simp only [List.nil_append]; rw [ih, if_neg (by omega)]
   | some e => simp only [List.singleton_append]; rw [oE_cons, if_pos rfl]
  ·have e : oE (kI g n (i + 1)) a = if i ≤ a ∧ a < i + (n + 1 : Nat) then g a else none := by
    rw [ih]
    by_cases d : i + 1 ≤ a ∧ a < i + 1 + n
    ·rw [if_pos d, if_pos (by omega)]
    ·rw [if_neg d, if_neg (by omega)]
   cases h : g i with
   | none => simp only [List.nil_append]; exact e
   | some e' => simp only [List.singleton_append]; rw [oE_cons, if_neg c]; exact e
theorem flo_kF (f : Int → Int) (hf : ∀ j, 0 ≤ f j) : ∀ (n : Nat) (i a : Int), floOf (kF f n i) a = if i ≤ a ∧ a < i + n then f a else 0
 | 0, i, a => by simp only [kF]; rw [if_neg (by omega)]; rfl
 | n + 1, i, a => by
  have ih := flo_kF f hf n (i + 1) a
  have h0 := hf i
  simp only [kF]
  by_cases c : i = a
  ·subst c
   rw [if_pos (show i ≤ i ∧ i < i + (n + 1 : Nat) by omega)]
   by_cases h : f i > 0
   ·rw [if_pos h]; simp only [List.singleton_append]; rw [flo_cons, if_pos rfl]
   ·rw [if_neg h]; simp only [List.nil_append]; rw [ih, if_neg (by omega)]; omega
  ·have e : floOf (kF f n (i + 1)) a = if i ≤ a ∧ a < i + (n + 1 : Nat) then f a else 0 := by
    rw [ih]
    by_cases d : i + 1 ≤ a ∧ a < i + 1 + n
    ·rw [if_pos d, if_pos (by omega)]
    ·rw [if_neg d, if_neg (by omega)]
   by_cases h : f i > 0
   ·rw [if_pos h]; simp only [List.singleton_append]; rw [flo_cons, if_neg c]; exact e
   ·rw [if_neg h]; simp only [List.nil_append]; exact e
theorem kI_len (g : Int → Option E5) : ∀ (n : Nat) (i : Int), (kI g n i).length ≤ n
 | 0, _ => by simp [kI]
 | n + 1, i => by
  have := kI_len g n (i + 1)
  simp only [kI]
  cases g i <;> simp <;> omega
theorem kF_len (f : Int → Int) : ∀ (n : Nat) (i : Int), (kF f n i).length ≤ n
 | 0, _ => by simp [kF]
 | n + 1, i => by
  have := kF_len f n (i + 1)
  simp only [kF]
  split <;> simp <;> omega
theorem ok_len {a : List S44} {b : List S58} (h : okS a b = true) : a.length ≤ 5 ∧ b.length ≤ 5 := by
 constructor
 ·rw [ok_items h]; exact kI_len _ _ _
 ·rw [ok_floors h]; exact kF_len _ _ _
/-- A right entry over its floor, for each node. -/
def okP (g : Int → Option E5) (f : Int → Int) : Prop := ∀ i, (∀ e, g i = some e → entryOkB e.1 e.2.1 e.2.2.1 e.2.2.2.1 e.2.2.2.2 = true ∧ f i < e.1) ∧ 0 ≤ f i ∧ f i ≤ 1000
theorem okI_kI {b : List S58} {g : Int → Option E5} {f : Int → Int} (hg : okP g f) (hb : ∀ i, 0 ≤ i → i ≤ 4 → floOf b i = f i) : ∀ (n : Nat) (i : Int) (p : Option Int), 0 ≤ i → i + n = 5 → (∀ q, p = some q → q < i) → okI b p (kI g n i) = true
 | 0, _, _, _, _, _ => rfl
 | n + 1, i, p, h0, h5, hp => by
  simp only [kI]
  cases h : g i with
  | none => simp only [List.nil_append]; exact okI_kI hg hb n (i + 1) p (by omega) (by omega) (fun q e => by have := hp q e; omega)
  | some e =>
   obtain ⟨h1, h2⟩ := (hg i).1 e h
   simp only [List.singleton_append, okI, Bool.and_eq_true]
   refine ⟨by simp [nodeB]; omega, ?_, h1, ?_, okI_kI hg hb n (i + 1) (some i) (by omega) (by omega) (fun q e => by have := Option.some.inj e; omega)⟩
   ·cases p with
    | none => rfl
    | some q => have := hp q rfl; simp; omega
   ·rw [hb i h0 (by omega)]; simp; omega
theorem okF_kF {f : Int → Int} (hf : ∀ i, 0 ≤ f i ∧ f i ≤ 1000) : ∀ (n : Nat) (i : Int) (p : Option Int), 0 ≤ i → i + n = 5 → (∀ q, p = some q → q < i) → okF p (kF f n i) = true
 | 0, _, _, _, _, _ => rfl
 | n + 1, i, p, h0, h5, hp => by
  have h1 := hf i
  simp only [kF]
  by_cases h : f i > 0
  ·rw [if_pos h]
   simp only [List.singleton_append, okF, Bool.and_eq_true]
   refine ⟨by simp [nodeB]; omega, ?_, by simp; omega, okF_kF hf n (i + 1) (some i) (by omega) (by omega) (fun q e => by have := Option.some.inj e; omega)⟩
   cases p with
   | none => rfl
   | some q => have := hp q rfl; simp; omega
  ·rw [if_neg h]; simp only [List.nil_append]; exact okF_kF hf n (i + 1) p (by omega) (by omega) (fun q e => by have := hp q e; omega)
theorem ok_mk {g : Int → Option E5} {f : Int → Int} (h : okP g f) : okS (kI g 5 0) (kF f 5 0) = true := by
 simp only [okS, Bool.and_eq_true]
 refine ⟨okI_kI h (fun i h0 h4 => ?_) 5 0 none (by omega) (by omega) (fun q e => by cases e), okF_kF (fun i => (h i).2) 5 0 none (by omega) (by omega) (fun q e => by cases e)⟩
 rw [flo_kF f (fun j => (h j).2.1), if_pos (by omega)]
theorem okP_of {a : List S44} {b : List S58} (h : okS a b = true) : okP (oE a) (floOf b) := by
 simp only [okS, Bool.and_eq_true] at h
 intro i
 refine ⟨fun e he => ?_, flo_bd i b none h.2⟩
 obtain ⟨x, hx, h1, rfl⟩ := oE_mem he
 obtain ⟨_, _, h3, h4⟩ := okI_mem b a none h.1 x hx
 exact ⟨h3, by rw [← h1]; exact h4⟩
/-- Two right states that hold the same are the same. -/
theorem ok_ext {a a' : List S44} {b b' : List S58} (h : okS a b = true) (h' : okS a' b' = true) (hi : ∀ i, 0 ≤ i → i ≤ 4 → oE a i = oE a' i) (hf : ∀ i, 0 ≤ i → i ≤ 4 → floOf b i = floOf b' i) : a = a' ∧ b = b' := by
 constructor
 ·rw [ok_items h, ok_items h']; exact kI_congr 5 0 (fun j h1 h2 => hi j h1 (by omega))
 ·rw [ok_floors h, ok_floors h']; exact kF_congr 5 0 (fun j h1 h2 => hf j h1 (by omega))
/-- What the join holds. -/
def jE (x y : Option E5) (f : Int) : Option E5 := if (mxE (eZ x) (eZ y)).1 > f then some (mxE (eZ x) (eZ y)) else none
def jF (a b : Int) : Int := maxI a b
theorem joinR_eq (a : List S44) (b : List S58) (c : List S44) (e : List S58) : ∀ (n : Nat) (i : Int) (x : List S44) (y : List S58),
  joinR a b c e n i x y = (x ++ kI (fun j => jE (oE a j) (oE c j) (jF (floOf b j) (floOf e j))) n i, y ++ kF (fun j => jF (floOf b j) (floOf e j)) n i)
 | 0, i, x, y => by simp [joinR, kI, kF]
 | n + 1, i, x, y => by
  simp only [joinR]
  rw [joinR_eq a b c e n (i + 1)]
  simp only [kI, kF, List.append_assoc, maxE_eq, ent5_of]
  congr 2
  ·congr 1
   unfold addI jE jF
   by_cases h : (mxE (eZ (oE a i)) (eZ (oE c i))).1 > maxI (floOf b i) (floOf e i)
   ·rw [if_pos h, if_pos h]
   ·rw [if_neg h, if_neg h]
theorem joinS_eq (a : List S44) (b : List S58) (c : List S44) (e : List S58) : joinS a b c e = (kI (fun j => jE (oE a j) (oE c j) (jF (floOf b j) (floOf e j))) 5 0, kF (fun j => jF (floOf b j) (floOf e j)) 5 0) := by
 unfold joinS; rw [joinR_eq]; simp
theorem jE_some {x y : Option E5} {f : Int} {e : E5} (hf : 0 ≤ f) (h : jE x y f = some e) : (x = some e ∨ y = some e) ∧ f < e.1 := by
 unfold jE at h
 by_cases c : (mxE (eZ x) (eZ y)).1 > f
 ·rw [if_pos c] at h
  have h := Option.some.inj h
  refine ⟨?_, by rw [h] at c; exact c⟩
  rcases mxE_or (eZ x) (eZ y) with h1 | h1
  ·left
   rw [h1] at h c
   cases x with
   | none => simp [eZ, zeroE] at c; omega
   | some v => exact congrArg some h
  ·right
   rw [h1] at h c
   cases y with
   | none => simp [eZ, zeroE] at c; omega
   | some v => exact congrArg some h
 ·rw [if_neg c] at h; cases h
theorem okP_join {g g' : Int → Option E5} {f f' : Int → Int} (h : okP g f) (h' : okP g' f') : okP (fun j => jE (g j) (g' j) (jF (f j) (f' j))) (fun j => jF (f j) (f' j)) := by
 intro i
 have h1 := (h i).2
 have h2 := (h' i).2
 have h3 := maxI_le (a := f i) (b := f' i)
 have h4 : 0 ≤ jF (f i) (f' i) ∧ jF (f i) (f' i) ≤ 1000 := by unfold jF; omega
 refine ⟨fun e he => ?_, h4⟩
 obtain ⟨h5, h6⟩ := jE_some h4.1 he
 rcases h5 with h5 | h5
 ·exact ⟨((h i).1 e h5).1, h6⟩
 ·exact ⟨((h' i).1 e h5).1, h6⟩
theorem join_ok {a : List S44} {b : List S58} {c : List S44} {e : List S58} (h : okS a b = true) (h' : okS c e = true) : okS (joinS a b c e).1 (joinS a b c e).2 = true := by
 rw [joinS_eq]
 exact ok_mk (okP_join (okP_of h) (okP_of h'))
theorem join_E {a : List S44} {b : List S58} {c : List S44} {e : List S58} {i : Int} (h0 : 0 ≤ i) (h4 : i ≤ 4) : oE (joinS a b c e).1 i = jE (oE a i) (oE c i) (jF (floOf b i) (floOf e i)) := by
 rw [joinS_eq]; simp only; rw [oE_kI, if_pos (by omega)]
theorem join_F {a : List S44} {b : List S58} {c : List S44} {e : List S58} (h : okS a b = true) (h' : okS c e = true) {i : Int} (h0 : 0 ≤ i) (h4 : i ≤ 4) : floOf (joinS a b c e).2 i = jF (floOf b i) (floOf e i) := by
 rw [joinS_eq]; simp only
 rw [flo_kF _ (fun j => ((okP_join (okP_of h) (okP_of h')) j).2.1), if_pos (by omega)]
theorem okP_zero {g : Int → Option E5} {f : Int → Int} (h : okP g f) (i : Int) : leE zeroE (eZ (g i)) := by
 cases e : g i with
 | none => exact leE_refl _
 | some v =>
  have := (h i).1 v e
  have h2 := (h i).2
  exact leE_zero (.inl (by simp only [eZ, Option.getD_some]; omega))
theorem jE_comm (x y : Option E5) (f : Int) : jE x y f = jE y x f := by unfold jE; rw [mxE_comm]
/-- One that is beneath what is there changes nothing. -/
theorem jE_le {x y : Option E5} {f : Int} (hf : 0 ≤ f) (h : leE (eZ y) (eZ x)) (hx : ∀ e, x = some e → f < e.1) : jE x y f = x := by
 unfold jE
 rw [mxE_comm, mxE_of_le h]
 cases x with
 | none => rw [if_neg (by simp [eZ, zeroE]; omega)]
 | some v => rw [if_pos (by have := hx v rfl; simpa [eZ] using this)]; rfl
theorem sameI_self : ∀ (l : List S44), sameI l l = true
 | [] => rfl
 | x :: l => by simp [sameI, sameI_self l]
theorem sameF_self : ∀ (l : List S58), sameF l l = true
 | [] => rfl
 | x :: l => by simp [sameF, sameF_self l]
theorem sameS_self (a : List S44) (b : List S58) : sameS a b a b = true := by simp [sameS, sameI_self, sameF_self]
theorem and255 (x : Int) : 0 ≤ Go.bits .and .i64 x 255 ∧ Go.bits .and .i64 x 255 ≤ 255 := by
 have e : Go.bits .and .i64 x 255 = IntKind.i64.wrap (((BitVec.ofInt 64 x &&& BitVec.ofInt 64 255).toNat : Nat) : Int) := rfl
 have h : (BitVec.ofInt 64 x &&& BitVec.ofInt 64 255).toNat ≤ 255 := by
  rw [BitVec.toNat_and]
  exact Nat.and_le_right
 rw [e, IntKind.wrap_i64]
 omega
theorem byte_ok (b : List Int) (hb : b.length ≤ 140737488351232) (i h : Int) (h0 : 0 ≤ i) (h1 : i ≤ (b.length : Int)) : ∃ r i' h', spec_l1Byte.f b i h = some (r, i', h') ∧ 0 ≤ r ∧ r ≤ 255 ∧ 0 ≤ i' ∧ i' ≤ (b.length : Int) := by
 unfold spec_l1Byte.f
 by_cases c : i < (b.length : Int)
 ·rw [if_pos c, if_pos h0]
  refine ⟨_, _, _, rfl, (and255 _).1, (and255 _).2, ?_, ?_⟩
  ·rw [w64 (by omega) (by omega)]; omega
  ·rw [w64 (by omega) (by omega)]; omega
 ·rw [if_neg c]
  exact ⟨_, _, _, rfl, (and255 _).1, (and255 _).2, h0, h1⟩
theorem below_ok (b : List Int) (hb : b.length ≤ 140737488351232) (i h n : Int) (h0 : 0 ≤ i) (h1 : i ≤ (b.length : Int)) (hn : 0 < n) (hn2 : n ≤ 256) : ∃ r i' h', spec_l1Below.f b i h n = some (r, i', h') ∧ 0 ≤ r ∧ r < n ∧ 0 ≤ i' ∧ i' ≤ (b.length : Int) := by
 obtain ⟨r, i', h', e, r0, r1, c0, c1⟩ := byte_ok b hb i h h0 h1
 refine ⟨Int.tmod r n, i', h', ?_, Int.tmod_nonneg _ r0, Int.tmod_lt_of_pos _ hn, c0, c1⟩
 unfold spec_l1Below.f
 rw [if_neg (by omega), if_pos hn2, e]
 simp only [Option.bind_some]
 rw [if_neg (by omega)]
theorem pick_ok (b : List Int) (hb : b.length ≤ 140737488351232) (i h : Int) (h0 : 0 ≤ i) (h1 : i ≤ (b.length : Int)) (l : List ByteArray) (hl : 0 < l.length) (hl2 : l.length ≤ 256) : ∃ s i' h', spec_l1Pick.f b i h l = some (s, i', h') ∧ s ∈ l ∧ 0 ≤ i' ∧ i' ≤ (b.length : Int) := by
 obtain ⟨r, i', h', e, r0, r1, c0, c1⟩ := below_ok b hb i h l.length h0 h1 (by omega) (by omega)
 refine ⟨rdOf ByteArray.empty l r, i', h', ?_, ?_, c0, c1⟩
 ·unfold spec_l1Pick.f
  rw [e]
  simp only [Option.bind_some]
  rw [if_pos r0, if_pos r1]
 ·unfold rdOf
  rw [List.getD_eq_getElem?_getD, List.getElem?_eq_getElem (show r.toNat < l.length by omega)]
  exact List.getElem_mem _
theorem pickInt_ok (b : List Int) (hb : b.length ≤ 140737488351232) (i h : Int) (h0 : 0 ≤ i) (h1 : i ≤ (b.length : Int)) (l : List Int) (hl : 0 < l.length) (hl2 : l.length ≤ 256) : ∃ s i' h', spec_l1PickInt.f b i h l = some (s, i', h') ∧ s ∈ l ∧ 0 ≤ i' ∧ i' ≤ (b.length : Int) := by
 obtain ⟨r, i', h', e, r0, r1, c0, c1⟩ := below_ok b hb i h l.length h0 h1 (by omega) (by omega)
 refine ⟨rd l r, i', h', ?_, ?_, c0, c1⟩
 ·unfold spec_l1PickInt.f
  rw [e]
  simp only [Option.bind_some]
  rw [if_pos r0, if_pos r1]
 ·unfold rd
  rw [List.getD_eq_getElem?_getD, List.getElem?_eq_getElem (show r.toNat < l.length by omega)]
  exact List.getElem_mem _
theorem right_ok (b : List Int) (hb : b.length ≤ 140737488351232) (i h : Int) (h0 : 0 ≤ i) (h1 : i ≤ (b.length : Int)) : ∃ e0 e1 e2 e3 s i' h', spec_l2Right.f b i h = some (e0, e1, e2, e3, s, i', h') ∧ entryOkB e0 e1 e2 e3 s = true ∧ 0 ≤ i' ∧ i' ≤ (b.length : Int) := by
 obtain ⟨r1, i1, k1, e1, a1, b1, c1, d1⟩ := below_ok b hb i h 3 h0 h1 (by omega) (by omega)
 obtain ⟨r2, i2, k2, e2, a2, b2, c2, d2⟩ := below_ok b hb i1 k1 2 c1 d1 (by omega) (by omega)
 obtain ⟨r3, i3, k3, e3, a3, b3, c3, d3⟩ := below_ok b hb i2 k2 3 c2 d2 (by omega) (by omega)
 obtain ⟨r4, i4, k4, e4, a4, b4, c4, d4⟩ := below_ok b hb i3 k3 3 c3 d3 (by omega) (by omega)
 obtain ⟨s, i5, k5, e5, a5, c5, d5⟩ := pick_ok b hb i4 k4 c4 d4 [(⟨#[]⟩ : ByteArray), (⟨#[97]⟩ : ByteArray), (⟨#[98]⟩ : ByteArray), (⟨#[97, 98]⟩ : ByteArray), (⟨#[49, 50, 51, 52, 53, 54, 55, 56]⟩ : ByteArray)] (by simp) (by simp)
 refine ⟨wrap64 (1 + r1), r2, r3, r4, s, i5, k5, ?_, ?_, c5, d5⟩
 ·unfold spec_l2Right.f
  rw [e1]; simp only [Option.bind_some]
  rw [e2]; simp only [Option.bind_some]
  rw [e3]; simp only [Option.bind_some]
  rw [e4]; simp only [Option.bind_some]
  rw [e5]; simp only [Option.bind_some]
 ·rw [w64 (by omega) (by omega)]
  have hs : (s.size : Int) ≤ 8 := by
   simp only [List.mem_cons, List.not_mem_nil, or_false] at a5
   rcases a5 with rfl | rfl | rfl | rfl | rfl <;> simp [ByteArray.size]
  simp only [entryOkB, Bool.and_eq_true, decide_eq_true_eq]
  omega
theorem draw_ok (b : List Int) (hb : b.length ≤ 140737488351232) (i h : Int) (h0 : 0 ≤ i) (h1 : i ≤ (b.length : Int)) : ∃ e0 e1 e2 e3 s i' h', spec_l2Draw.f b i h = some (e0, e1, e2, e3, s, i', h') ∧ 0 ≤ i' ∧ i' ≤ (b.length : Int) := by
 obtain ⟨r0, r1, r2, r3, s, i1, k1, e1, _, c1, d1⟩ := right_ok b hb i h h0 h1
 obtain ⟨q, i2, k2, e2, a2, b2, c2, d2⟩ := below_ok b hb i1 k1 14 c1 d1 (by omega) (by omega)
 unfold spec_l2Draw.f
 rw [e1]; simp only [Option.bind_some]
 rw [e2]; simp only [Option.bind_some]
 by_cases q0 : q = 0
 ·rw [if_pos q0]
  obtain ⟨z, i3, k3, e3, _, c3, d3⟩ := pickInt_ok b hb i2 k2 c2 d2 [0, 1000, 1001, (-1)] (by simp) (by simp)
  rw [e3]; exact ⟨_, _, _, _, _, _, _, rfl, c3, d3⟩
 rw [if_neg q0]
 by_cases q1 : q = 1
 ·rw [if_pos q1]
  obtain ⟨z, i3, k3, e3, _, c3, d3⟩ := pickInt_ok b hb i2 k2 c2 d2 [(-1), 2] (by simp) (by simp)
  rw [e3]; exact ⟨_, _, _, _, _, _, _, rfl, c3, d3⟩
 rw [if_neg q1]
 by_cases q2 : q = 2
 ·rw [if_pos q2]
  obtain ⟨z, i3, k3, e3, _, c3, d3⟩ := pickInt_ok b hb i2 k2 c2 d2 [(-1), 100000, 100001] (by simp) (by simp)
  rw [e3]; exact ⟨_, _, _, _, _, _, _, rfl, c3, d3⟩
 rw [if_neg q2]
 by_cases q3 : q = 3
 ·rw [if_pos q3]
  obtain ⟨z, i3, k3, e3, _, c3, d3⟩ := pickInt_ok b hb i2 k2 c2 d2 [(-1), 1000, 1001] (by simp) (by simp)
  rw [e3]; exact ⟨_, _, _, _, _, _, _, rfl, c3, d3⟩
 rw [if_neg q3]
 by_cases q4 : q = 4
 ·rw [if_pos q4]; exact ⟨_, _, _, _, _, _, _, rfl, c2, d2⟩
 ·rw [if_neg q4]; exact ⟨_, _, _, _, _, _, _, rfl, c2, d2⟩
theorem ok_nil : okS [] [] = true := rfl
theorem ok_one {a i r b v : Int} {s : ByteArray} (hn : 0 ≤ a ∧ a ≤ 4) (he : entryOkB i r b v s = true) : okS [⟨a, ⟨i, r, b, v, s⟩⟩] [] = true := by
 have hi : ¬ i ≤ 0 := by simp only [entryOkB, Bool.and_eq_true, decide_eq_true_eq] at he; omega
 simp [okS, okI, okF, nodeB, hn, he, floOf, hi]
theorem ok_floor {a i : Int} (hn : 0 ≤ a ∧ a ≤ 4) (hi : 1 ≤ i ∧ i ≤ 1000) : okS [] [⟨a, i⟩] = true := by simp [okS, okI, okF, nodeB, hn, hi]
theorem spec_Single_ev (a i r b v : Int) (s : ByteArray) (h : okS [⟨a, ⟨i, r, b, v, s⟩⟩] [] = true) : Ev (fun k => spec_Single.f k a i r b v s) ([⟨a, ⟨i, r, b, v, s⟩⟩], [], true) := by
 simp only [spec_Single.f, Option.bind_some]
 refine Ev.bind (spec_StateOk_ev _ _ (by simp) (by simp)) ?_
 simp only [if_pos h]
 exact evSome _
theorem l3Right_l1 (b : List Int) (hb : b.length ≤ 140737488351232) (n : Int) (hn : n ≤ 3) : ∀ (d : Nat) (j i h : Int) (x : List S44) (y : List S58), 0 ≤ j → j + d = n ∨ n < j + d ∧ d = 0 → 0 ≤ i → i ≤ (b.length : Int) → okS x y = true →
  ∃ x' y' i' h', Ev (fun k => spec_l3Right.l1 k n j b i h x y) (x', y', i', h') ∧ okS x' y' = true ∧ 0 ≤ i' ∧ i' ≤ (b.length : Int) := by
 intro d
 induction d with
 | zero =>
  intro j i h x y hj hd h0 h1 ho
  exact ⟨x, y, i, h, evRet fun k => by simp only [spec_l3Right.l1]; rw [if_neg (by omega)], ho, h0, h1⟩
 | succ d ih =>
  intro j i h x y hj hd h0 h1 ho
  obtain ⟨r1, i1, k1, e1, a1, b1, c1, d1⟩ := below_ok b hb i h 5 h0 h1 (by omega) (by omega)
  obtain ⟨r2, i2, k2, e2, a2, b2, c2, d2⟩ := below_ok b hb i1 k1 2 c1 d1 (by omega) (by omega)
  have hfl := ok_floor (a := r1) (i := 1 + r2) ⟨a1, by omega⟩ ⟨by omega, by omega⟩
  have hl := ok_len ho
  obtain ⟨x', y', i', h', hv, o2, c3, d3⟩ := ih (j + 1) i2 k2 (joinS x y [] [⟨r1, 1 + r2⟩]).1 (joinS x y [] [⟨r1, 1 + r2⟩]).2 (by omega) (by omega) c2 d2 (join_ok ho hfl)
  refine ⟨x', y', i', h', ?_, o2, c3, d3⟩
  refine evSucc ?_
  simp only [spec_l3Right.l1, e1, e2, Option.bind_some]
  simp only [if_pos (show j < n by omega), w64 (n := 1 + r2) (by omega) (by omega), w64 (n := j + 1) (by omega) (by omega)]
  refine Ev.bind (spec_l3Join_ev x y [] [⟨r1, 1 + r2⟩] (by omega) (by omega) (by simp) (by simp) ho hfl) ?_
  exact hv
theorem l3Right_l0 (b : List Int) (hb : b.length ≤ 140737488351232) (n : Int) (hn : n ≤ 7) : ∀ (d : Nat) (j i h : Int) (x : List S44) (y : List S58), 0 ≤ j → j + d = n ∨ n < j + d ∧ d = 0 → 0 ≤ i → i ≤ (b.length : Int) → okS x y = true →
  ∃ x' y' i' h', Ev (fun k => spec_l3Right.l0 k n j b i h x y) (x', y', i', h') ∧ okS x' y' = true ∧ 0 ≤ i' ∧ i' ≤ (b.length : Int) := by
 intro d
 induction d with
 | zero =>
  intro j i h x y hj hd h0 h1 ho
  obtain ⟨r1, i1, k1, e1, a1, b1, c1, d1⟩ := below_ok b hb i h 3 h0 h1 (by omega) (by omega)
  obtain ⟨x', y', i', h', hv, z⟩ := l3Right_l1 b hb r1 (by omega) r1.toNat 0 i1 k1 x y (by omega) (by omega) c1 d1 ho
  refine ⟨x', y', i', h', ?_, z⟩
  refine evSucc ?_
  simp only [spec_l3Right.l0, e1, Option.bind_some]
  simp only [if_neg (show ¬ j < n by omega)]
  exact hv
 | succ d ih =>
  intro j i h x y hj hd h0 h1 ho
  obtain ⟨r1, i1, k1, e1, a1, b1, c1, d1⟩ := below_ok b hb i h 5 h0 h1 (by omega) (by omega)
  obtain ⟨t0, t1, t2, t3, s, i2, k2, e2, a2, c2, d2⟩ := right_ok b hb i1 k1 c1 d1
  have hone := ok_one (a := r1) ⟨a1, by omega⟩ a2
  have hl := ok_len ho
  obtain ⟨x', y', i', h', hv, o2, c3, d3⟩ := ih (j + 1) i2 k2 (joinS x y [⟨r1, ⟨t0, t1, t2, t3, s⟩⟩] []).1 (joinS x y [⟨r1, ⟨t0, t1, t2, t3, s⟩⟩] []).2 (by omega) (by omega) c2 d2 (join_ok ho hone)
  refine ⟨x', y', i', h', ?_, o2, c3, d3⟩
  refine evSucc ?_
  simp only [spec_l3Right.l0, e1, e2, Option.bind_some]
  simp only [if_pos (show j < n by omega), w64 (n := j + 1) (by omega) (by omega)]
  refine Ev.bind (spec_Single_ev _ _ _ _ _ _ hone) ?_
  refine Ev.bind (spec_l3Join_ev x y _ [] (by omega) (by omega) (by simp) (by simp) ho hone) ?_
  exact hv
theorem l3Right_ok (b : List Int) (hb : b.length ≤ 140737488351232) (i h : Int) (h0 : 0 ≤ i) (h1 : i ≤ (b.length : Int)) :
  ∃ x' y' i' h', Ev (fun k => spec_l3Right.f k b i h) (x', y', i', h') ∧ okS x' y' = true ∧ 0 ≤ i' ∧ i' ≤ (b.length : Int) := by
 obtain ⟨r1, i1, k1, e1, a1, b1, c1, d1⟩ := below_ok b hb i h 7 h0 h1 (by omega) (by omega)
 obtain ⟨x', y', i', h', hv, z⟩ := l3Right_l0 b hb r1 (by omega) r1.toNat 0 i1 k1 [] [] (by omega) (by omega) c1 d1 ok_nil
 refine ⟨x', y', i', h', ?_, z⟩
 simp only [spec_l3Right.f, e1, Option.bind_some]
 exact hv
theorem l3Draw_ok (b : List Int) (hb : b.length ≤ 140737488351232) (i h : Int) (h0 : 0 ≤ i) (h1 : i ≤ (b.length : Int)) :
  ∃ x' y' i' h', Ev (fun k => spec_l3Draw.f k b i h) (x', y', i', h') ∧ x'.length ≤ 6 ∧ y'.length ≤ 6 ∧ 0 ≤ i' ∧ i' ≤ (b.length : Int) := by
 obtain ⟨x, y, i1, k1, hv, ho, c1, d1⟩ := l3Right_ok b hb i h h0 h1
 have hl := ok_len ho
 obtain ⟨q, i2, k2, e2, a2, b2, c2, d2⟩ := below_ok b hb i1 k1 14 c1 d1 (by omega) (by omega)
 simp only [spec_l3Draw.f]
 by_cases q0 : q = 0
 ·obtain ⟨r1, i3, k3, e3, _, _, c3, d3⟩ := below_ok b hb i2 k2 7 c2 d2 (by omega) (by omega)
  obtain ⟨t0, t1, t2, t3, s, i4, k4, e4, c4, d4⟩ := draw_ok b hb i3 k3 c3 d3
  refine ⟨x ++ [⟨wrap64 (r1 - 1), ⟨t0, t1, t2, t3, s⟩⟩], y, i4, k4, ?_, by simp; omega, by omega, c4, d4⟩
  refine Ev.bind hv ?_
  simp only [e2, Option.bind_some, if_pos q0, e3, e4, if_pos (show x.length < 2513169434916 by omega)]
  exact evSome _
 by_cases q1 : q = 1
 ·obtain ⟨r1, i3, k3, e3, _, _, c3, d3⟩ := below_ok b hb i2 k2 7 c2 d2 (by omega) (by omega)
  obtain ⟨t0, i4, k4, e4, _, c4, d4⟩ := pickInt_ok b hb i3 k3 c3 d3 [0, 1, 5, 1001] (by simp) (by simp)
  refine ⟨x, y ++ [⟨wrap64 (r1 - 1), t0⟩], i4, k4, ?_, by omega, by simp; omega, c4, d4⟩
  refine Ev.bind hv ?_
  simp only [e2, Option.bind_some, if_neg q0, if_pos q1, e3, e4, if_pos (show y.length < 8796093022208 by omega)]
  exact evSome _
 by_cases q2 : q = 2
 ·by_cases hx : (x.length : Int) > 0
  ·obtain ⟨r1, i3, k3, e3, a3, b3, c3, d3⟩ := below_ok b hb i2 k2 (x.length : Int) c2 d2 (by omega) (by omega)
   obtain ⟨t0, t1, t2, t3, s, i4, k4, e4, c4, d4⟩ := draw_ok b hb i3 k3 c3 d3
   refine ⟨x.set r1.toNat ⟨(rd_T44 x r1).f0, ⟨t0, t1, t2, t3, s⟩⟩, y, i4, k4, ?_, ?_, by omega, c4, d4⟩
   ·refine Ev.bind hv ?_
    simp only [e2, Option.bind_some, if_neg q0, if_neg q1, if_pos q2, if_pos hx, e3, e4, if_pos a3, if_pos b3]
    exact evSome _
   ·rw [List.length_set]; omega
  ·refine ⟨x, y, i2, k2, ?_, by omega, by omega, c2, d2⟩
   refine Ev.bind hv ?_
   simp only [e2, Option.bind_some, if_neg q0, if_neg q1, if_pos q2, if_neg hx]
   exact evSome _
 by_cases q3 : q = 3
 ·by_cases hx : (x.length : Int) > 1
  ·refine ⟨x.set (0 : Int).toNat ⟨(rd_T44 x 1).f0, ⟨(rd_T44 x 1).f1.f0, (rd_T44 x 1).f1.f1, (rd_T44 x 1).f1.f2, (rd_T44 x 1).f1.f3, (rd_T44 x 1).f1.f4⟩⟩, y, i2, k2, ?_, ?_, by omega, c2, d2⟩
   ·refine Ev.bind hv ?_
    simp only [e2, Option.bind_some, if_neg q0, if_neg q1, if_neg q2, if_pos q3, if_pos hx, if_pos (show (1 : Int) < (x.length : Int) by omega), if_pos (show (0 : Int) < (x.length : Int) by omega)]
    exact evSome _
   ·rw [List.length_set]; omega
  ·refine ⟨x, y, i2, k2, ?_, by omega, by omega, c2, d2⟩
   refine Ev.bind hv ?_
   simp only [e2, Option.bind_some, if_neg q0, if_neg q1, if_neg q2, if_pos q3, if_neg hx]
   exact evSome _
 refine ⟨x, y, i2, k2, ?_, by omega, by omega, c2, d2⟩
 refine Ev.bind hv ?_
 simp only [e2, Option.bind_some, if_neg q0, if_neg q1, if_neg q2, if_neg q3]
 exact evSome _
theorem l1New_l (b : List Int) (hb : b.length ≤ 140737488351232) : ∀ (d j : Nat) (h : Int), j + d = b.length → ∃ h', Ev (fun k => spec_l1New.l0 k b h (j : Int)) (b, 0, h') := by
 intro d
 induction d with
 | zero =>
  intro j h e
  exact ⟨h, evRet fun k => by simp only [spec_l1New.l0]; rw [if_neg (by omega)]⟩
 | succ d ih =>
  intro j h e
  by_cases c : (j : Int) < 4000
  ·obtain ⟨h', hv⟩ := ih (j + 1) (Go.bits .and .i64 (wrap64 ((wrap64 ((wrap64 (h * 131)) + (wrap64 (rd b (j : Int))))) + 7)) 1073741823) (by omega)
   refine ⟨h', evStep hv fun k => ?_⟩
   simp only [spec_l1New.l0]
   rw [if_pos (by omega), if_pos c, if_pos (by omega), w64 (n := (j : Int) + 1) (by omega) (by omega)]
   rfl
  ·exact ⟨h, evRet fun k => by simp only [spec_l1New.l0]; rw [if_pos (by omega), if_neg c]⟩
theorem l1New_ok (b : List Int) (hb : b.length ≤ 140737488351232) : ∃ h', Ev (fun k => spec_l1New.f k b) (b, 0, h') := by
 obtain ⟨h', hv⟩ := l1New_l b hb b.length 0 (wrap64 (26583 + (b.length : Int))) (by omega)
 exact ⟨h', hv⟩
theorem l3Two_ok (b : List Int) (hb : b.length ≤ 140737488351232) : ∃ x y x' y', Ev (fun k => spec_l3Two.f k b) (x, y, x', y') ∧ x.length ≤ 6 ∧ y.length ≤ 6 ∧ x'.length ≤ 6 ∧ y'.length ≤ 6 := by
 obtain ⟨h0, e0⟩ := l1New_ok b hb
 obtain ⟨x, y, i1, k1, e1, l1, m1, c1, d1⟩ := l3Draw_ok b hb 0 h0 (by omega) (by omega)
 obtain ⟨x', y', i2, k2, e2, l2, m2, c2, d2⟩ := l3Draw_ok b hb i1 k1 c1 d1
 obtain ⟨q, i3, k3, e3, _, _, c3, d3⟩ := below_ok b hb i2 k2 5 c2 d2 (by omega) (by omega)
 simp only [spec_l3Two.f]
 by_cases q0 : q = 0
 ·refine ⟨x, y, x, y, ?_, l1, m1, l1, m1⟩
  refine Ev.bind e0 ?_
  refine Ev.bind e1 ?_
  refine Ev.bind e2 ?_
  simp only [e3, Option.bind_some, if_pos q0, spec_l3Copy.f, List.length_nil, if_pos (show 0 + x.length < 2513169434916 by omega), if_pos (show 0 + y.length < 8796093022208 by omega), List.nil_append]
  exact evSome _
 by_cases q1 : q = 1
 ·by_cases o1 : okS x y = true
  ·by_cases o2 : okS x' y' = true
   ·have hl := joinS_len x y x' y'
    refine ⟨x, y, (joinS x y x' y').1, (joinS x y x' y').2, ?_, l1, m1, by omega, by omega⟩
    refine Ev.bind e0 ?_
    refine Ev.bind e1 ?_
    refine Ev.bind e2 ?_
    simp only [e3, Option.bind_some, if_neg q0, if_pos q1]
    refine Ev.bind (spec_StateOk_ev x y (by omega) (by omega)) ?_
    simp only [if_pos o1]
    refine Ev.bind (spec_StateOk_ev x' y' (by omega) (by omega)) ?_
    simp only [if_pos o2]
    refine Ev.bind (spec_l3Join_ev x y x' y' (by omega) (by omega) (by omega) (by omega) o1 o2) ?_
    exact evSome _
   ·refine ⟨x, y, x', y', ?_, l1, m1, l2, m2⟩
    refine Ev.bind e0 ?_
    refine Ev.bind e1 ?_
    refine Ev.bind e2 ?_
    simp only [e3, Option.bind_some, if_neg q0, if_pos q1]
    refine Ev.bind (spec_StateOk_ev x y (by omega) (by omega)) ?_
    simp only [if_pos o1]
    refine Ev.bind (spec_StateOk_ev x' y' (by omega) (by omega)) ?_
    simp only [if_neg o2]
    exact evSome _
  ·refine ⟨x, y, x', y', ?_, l1, m1, l2, m2⟩
   refine Ev.bind e0 ?_
   refine Ev.bind e1 ?_
   refine Ev.bind e2 ?_
   simp only [e3, Option.bind_some, if_neg q0, if_pos q1]
   refine Ev.bind (spec_StateOk_ev x y (by omega) (by omega)) ?_
   simp only [if_neg o1]
   exact evSome _
 refine ⟨x, y, x', y', ?_, l1, m1, l2, m2⟩
 refine Ev.bind e0 ?_
 refine Ev.bind e1 ?_
 refine Ev.bind e2 ?_
 simp only [e3, Option.bind_some, if_neg q0, if_neg q1]
 exact evSome _
theorem joinO_ok {a : List S44} {b : List S58} {c : List S44} {e : List S58} (h : okS a b = true) (h' : okS c e = true) : joinO a b c e = ((joinS a b c e).1, (joinS a b c e).2, true) := by
 unfold joinO; rw [if_pos h, if_pos h']
def putN (n : Nat) : List Int := if h : n < 128 then [(n : Int)] else ((n % 128 + 128 : Nat) : Int) :: putN (n / 128)
termination_by n
decreasing_by omega
def putNum (a : Int) : List Int := if 0 ≤ a ∧ a ≤ 2147483647 then putN a.toNat else []
theorem spec_PutNum_l0 : ∀ (n : Nat) (acc : List Int), acc.length + n < 140737488355328 → Ev (fun k => spec_PutNum.l0 k (n : Int) acc) (acc ++ putN n) := by
 intro n
 induction n using Nat.strongRecOn with
 | ind n ih =>
  intro acc h
  rw [putN]
  by_cases hn : n < 128
  ·rw [dif_pos hn]
   refine evRet fun k => ?_
   simp only [spec_PutNum.l0]
   rw [if_neg (by omega), if_pos (by omega), show (n : Int) % 256 = n by omega]
  ·rw [dif_neg hn]
   have h1 := ih (n / 128) (by omega) (acc ++ [((n % 128 + 128 : Nat) : Int)]) (by simp only [List.length_append, List.length_singleton]; omega)
   rw [List.append_assoc, List.singleton_append] at h1
   refine evStep h1 fun k => ?_
   simp only [spec_PutNum.l0]
   rw [if_pos (by omega), if_pos (by omega), tdiv_pos (by omega), tmod_pos (by omega), w64 (n := (n : Int) / 128) (by omega) (by omega), w64 (n := (n : Int) % 128 + 128) (by omega) (by omega),
    show ((n : Int) % 128 + 128) % 256 = ((n % 128 + 128 : Nat) : Int) by omega]
   rfl
theorem impl_PutNum_l0 : ∀ (n : Nat) (acc : List Int), acc.length + n < 140737488355328 → Ev (fun k => impl_PutNum.l0 k (n : Int) acc) (acc ++ putN n) := by
 intro n
 induction n using Nat.strongRecOn with
 | ind n ih =>
  intro acc h
  rw [putN]
  by_cases hn : n < 128
  ·rw [dif_pos hn]
   refine evRet fun k => ?_
   simp only [impl_PutNum.l0]
   rw [if_neg (by omega), if_pos (by omega), show (n : Int) % 256 = n by omega]
  ·rw [dif_neg hn]
   have h1 := ih (n / 128) (by omega) (acc ++ [((n % 128 + 128 : Nat) : Int)]) (by simp only [List.length_append, List.length_singleton]; omega)
   rw [List.append_assoc, List.singleton_append] at h1
   refine evStep h1 fun k => ?_
   simp only [impl_PutNum.l0]
   rw [if_pos (by omega), if_pos (by omega), tdiv_pos (by omega), tmod_pos (by omega), w64 (n := (n : Int) / 128) (by omega) (by omega), w64 (n := (n : Int) % 128 + 128) (by omega) (by omega),
    show ((n : Int) % 128 + 128) % 256 = ((n % 128 + 128 : Nat) : Int) by omega]
   rfl
theorem spec_PutNum_ev (a : Int) : Ev (fun k => spec_PutNum.f k a) (putNum a) := by
 unfold putNum
 simp only [spec_PutNum.f, spec_l1In.f, Option.bind_some]
 by_cases h : 0 ≤ a ∧ a ≤ 2147483647
 ·have := spec_PutNum_l0 a.toNat [] (by simp only [List.length_nil]; omega)
  simp only [Int.toNat_of_nonneg h.1, List.nil_append] at this
  rw [if_pos h]
  simp only [if_pos (show a ≥ 0 from h.1), decide_eq_true h.2, Option.bind_some, if_true]
  exact this
 ·rw [if_neg h]
  by_cases h0 : a ≥ 0
  ·simp only [if_pos h0, decide_eq_false (show ¬ a ≤ 2147483647 from fun h1 => h ⟨h0, h1⟩), Option.bind_some]; exact evSome _
  ·simp only [if_neg h0, Option.bind_some]; exact evSome _
theorem impl_PutNum_ev (a : Int) : Ev (fun k => impl_PutNum.f k a) (putNum a) := by
 unfold putNum
 simp only [impl_PutNum.f, impl_within.f, Option.bind_some]
 by_cases h : 0 ≤ a ∧ a ≤ 2147483647
 ·have := impl_PutNum_l0 a.toNat [] (by simp only [List.length_nil]; omega)
  simp only [Int.toNat_of_nonneg h.1, List.nil_append] at this
  rw [if_pos h]
  simp only [if_pos (show a ≥ 0 from h.1), decide_eq_true h.2, Option.bind_some, if_true]
  exact this
 ·rw [if_neg h]
  by_cases h0 : a ≥ 0
  ·simp only [if_pos h0, decide_eq_false (show ¬ a ≤ 2147483647 from fun h1 => h ⟨h0, h1⟩), Option.bind_some]; exact evSome _
  ·simp only [if_neg h0, Option.bind_some]; exact evSome _
theorem putN_len : ∀ (n : Nat), (putN n).length ≤ n + 1 := by
 intro n
 induction n using Nat.strongRecOn with
 | ind n ih =>
  rw [putN]
  by_cases hn : n < 128
  ·rw [dif_pos hn]; simp
  ·rw [dif_neg hn]; have := ih (n / 128) (by omega); simp only [List.length_cons]; omega
theorem putNum_len (a : Int) : (putNum a).length ≤ 2147483648 := by
 unfold putNum
 split
 ·have := putN_len a.toNat; omega
 ·simp
def crcBit (x : Int) : Int := if Int.tmod x 2 = 1 then Go.bits .xor .i64 (wrap64 (Int.tdiv x 2)) 3988292384 else wrap64 (Int.tdiv x 2)
def crcBits : Nat → Int → Int
 | 0, x => x
 | n + 1, x => crcBits n (crcBit x)
def crcStep (x b : Int) : Int := crcBits 8 (Go.bits .xor .i64 x (wrap64 b))
def crc (l : List Int) : Int := Go.bits .xor .i64 (l.foldl crcStep 4294967295) 4294967295
theorem spec_Crc_l1 (x : List Int) (j r : Int) : ∀ (d i : Nat) (s : Int), i + d = 8 → Ev (fun k => spec_Crc.l0 k x (crcBits d s) (wrap64 (j + 1))) r →
  Ev (fun k => spec_Crc.l1 k x s j (i : Int)) r := by
 intro d
 induction d with
 | zero => intro i s h hr; exact evStep hr fun k => by simp only [spec_Crc.l1]; rw [if_neg (by omega)]; rfl
 | succ d ih =>
  intro i s h hr
  refine evStep (ih (i + 1) (crcBit s) (by omega) hr) fun k => ?_
  simp only [spec_Crc.l1]
  rw [if_pos (by omega), w64 (n := (i : Int) + 1) (by omega) (by omega)]
  unfold crcBit
  split <;> rfl
theorem spec_Crc_l0 (x : List Int) (hx : x.length ≤ 1099511627776) : ∀ (d i : Nat) (s : Int), i + d = x.length → 
  Ev (fun k => spec_Crc.l0 k x s (i : Int)) (Go.bits .xor .i64 ((x.drop i).foldl crcStep s) 4294967295) := by
 intro d
 induction d with
 | zero => 
  intro i s h
  rw [List.drop_eq_nil_of_le (by omega)]
  exact evRet fun k => by simp only [spec_Crc.l0]; rw [if_neg (by omega)]; rfl
 | succ d ih =>
  intro i s h
  have hi : i < x.length := by omega
  have h1 := ih (i + 1) (crcStep s x[i]) (by omega)
  rw [List.drop_eq_getElem_cons hi, List.foldl_cons]
  have h2 := spec_Crc_l1 x (i : Int) _ 8 0 (Go.bits .xor .i64 s (wrap64 x[i])) (by omega) (by rw [w64 (n := (i : Int) + 1) (by omega) (by omega)]; exact h1)
  refine evStep h2 fun k => ?_
  simp only [spec_Crc.l0]
  rw [if_pos (by omega), if_pos (by omega), rd_nat hi]
  rfl
theorem spec_Crc_ev (x : List Int) (hx : x.length ≤ 1099511627776) : Ev (fun k => spec_Crc.f k x) (crc x) := by
 have := spec_Crc_l0 x hx x.length 0 4294967295 (by omega)
 rw [List.drop_zero] at this
 exact evEq this fun k => rfl
theorem impl_Crc_l1 (x : List Int) (n j r : Int) : ∀ (d i : Nat) (s : Int), i + d = 8 → Ev (fun k => impl_Crc.l0 k (crcBits d s) x n (wrap64 (j + 1))) r →
  Ev (fun k => impl_Crc.l1 k s x n j (i : Int)) r := by
 intro d
 induction d with
 | zero => intro i s h hr; exact evStep hr fun k => by simp only [impl_Crc.l1]; rw [if_neg (by omega)]; rfl
 | succ d ih =>
  intro i s h hr
  refine evStep (ih (i + 1) (crcBit s) (by omega) hr) fun k => ?_
  simp only [impl_Crc.l1]
  rw [if_pos (by omega), w64 (n := (i : Int) + 1) (by omega) (by omega)]
  unfold crcBit
  split <;> rfl
theorem impl_Crc_l0 (x : List Int) (hx : x.length ≤ 1099511627776) : ∀ (d i : Nat) (s : Int), i + d = x.length → 
  Ev (fun k => impl_Crc.l0 k s x (x.length : Int) (i : Int)) (Go.bits .xor .i64 ((x.drop i).foldl crcStep s) 4294967295) := by
 intro d
 induction d with
 | zero => 
  intro i s h
  rw [List.drop_eq_nil_of_le (by omega)]
  exact evRet fun k => by simp only [impl_Crc.l0]; rw [if_neg (by omega)]; rfl
 | succ d ih =>
  intro i s h
  have hi : i < x.length := by omega
  have h1 := ih (i + 1) (crcStep s x[i]) (by omega)
  rw [List.drop_eq_getElem_cons hi, List.foldl_cons]
  have h2 := impl_Crc_l1 x (x.length : Int) (i : Int) _ 8 0 (Go.bits .xor .i64 s (wrap64 x[i])) (by omega) (by rw [w64 (n := (i : Int) + 1) (by omega) (by omega)]; exact h1)
  refine evStep h2 fun k => ?_
  simp only [impl_Crc.l0]
  rw [if_pos (by omega), if_pos (by omega), if_pos (by omega), rd_nat hi]
  rfl
theorem impl_Crc_ev (x : List Int) (hx : x.length ≤ 1099511627776) : Ev (fun k => impl_Crc.f k x) (crc x) := by
 have := impl_Crc_l0 x hx x.length 0 4294967295 (by omega)
 rw [List.drop_zero] at this
 exact evEq this fun k => rfl
def Byte (l : List Int) : Prop := ∀ x ∈ l, 0 ≤ x ∧ x < 256
theorem xor64 {m n : Nat} (hm : m < 4294967296) (hn : n < 4294967296) : Go.bits .xor .i64 (m : Int) (n : Int) = ((m ^^^ n : Nat) : Int) := by
 have e : Go.bits .xor .i64 (m : Int) (n : Int) = IntKind.i64.wrap (((BitVec.ofInt 64 (m : Int) ^^^ BitVec.ofInt 64 (n : Int)).toNat : Nat) : Int) := rfl
 have h : (BitVec.ofInt 64 (m : Int) ^^^ BitVec.ofInt 64 (n : Int)).toNat = m ^^^ n := by
  rw [BitVec.toNat_xor, BitVec.ofInt_natCast, BitVec.ofInt_natCast, BitVec.toNat_ofNat, BitVec.toNat_ofNat, Nat.mod_eq_of_lt (by omega), Nat.mod_eq_of_lt (by omega)]
 have hx : m ^^^ n < 2 ^ 32 := Nat.xor_lt_two_pow (by omega) (by omega)
 rw [e, h, IntKind.wrap_i64]
 omega
theorem xor_inj {a b p : Nat} (h : a ^^^ p = b ^^^ p) : a = b := by
 have := congrArg (· ^^^ p) h
 simpa [Nat.xor_assoc] using this
def cb (m : Nat) : Nat := if m % 2 = 1 then (m / 2) ^^^ 3988292384 else m / 2
theorem cb_lt {m : Nat} (h : m < 4294967296) : cb m < 4294967296 := by
 unfold cb
 split
 ·exact Nat.xor_lt_two_pow (n := 32) (by omega) (by omega)
 ·omega
theorem crcBit_nat {m : Nat} (h : m < 4294967296) : crcBit (m : Int) = (cb m : Int) := by
 unfold crcBit cb
 rw [tmod_pos (by omega), tdiv_pos (by omega), w64 (by omega) (by omega)]
 by_cases c : m % 2 = 1
 ·rw [if_pos (by omega), if_pos c, show (m : Int) / 2 = ((m / 2 : Nat) : Int) by omega]
  exact xor64 (m := m / 2) (n := 3988292384) (by omega) (by omega)
 ·rw [if_neg (by omega), if_neg c]
  omega
theorem cb_far {a b : Nat} (ha : a < 2147483648) (hb : b < 2147483648) : a ^^^ 3988292384 ≠ b := by
 intro h
 have h1 : (a ^^^ 3988292384) ^^^ a = b ^^^ a := by rw [h]
 have h2 : (a ^^^ 3988292384) ^^^ a = 3988292384 := by
  rw [Nat.xor_comm a 3988292384, Nat.xor_assoc, Nat.xor_self, Nat.xor_zero]
 have h3 : b ^^^ a < 2 ^ 31 := Nat.xor_lt_two_pow (by omega) (by omega)
 omega
theorem cb_inj {a b : Nat} (ha : a < 4294967296) (hb : b < 4294967296) (h : cb a = cb b) : a = b := by
 unfold cb at h
 by_cases c : a % 2 = 1
 ·rw [if_pos c] at h
  by_cases c2 : b % 2 = 1
  ·rw [if_pos c2] at h
   have := xor_inj h
   omega
  ·rw [if_neg c2] at h
   exact absurd h (cb_far (by omega) (by omega))
 ·rw [if_neg c] at h
  by_cases c2 : b % 2 = 1
  ·rw [if_pos c2] at h
   exact absurd h.symm (cb_far (by omega) (by omega))
  ·rw [if_neg c2] at h
   omega
theorem crcBits_inj : ∀ (d : Nat) {a b : Nat}, a < 4294967296 → b < 4294967296 → (∃ a' : Nat, a' < 4294967296 ∧ crcBits d (a : Int) = (a' : Int)) ∧ (crcBits d (a : Int) = crcBits d (b : Int) → a = b)
 | 0, a, b, ha, hb => ⟨⟨a, ha, rfl⟩, fun h => by simp only [crcBits] at h; omega⟩
 | d + 1, a, b, ha, hb => by
  have ih := crcBits_inj d (cb_lt ha) (cb_lt hb)
  simp only [crcBits, crcBit_nat ha, crcBit_nat hb]
  exact ⟨ih.1, fun h => cb_inj ha hb (ih.2 h)⟩
theorem crcStep_inj {a b x y : Nat} (ha : a < 4294967296) (hb : b < 4294967296) (hx : x < 256) (hy : y < 256) : (∃ a' : Nat, a' < 4294967296 ∧ crcStep (a : Int) (x : Int) = (a' : Int)) ∧ (crcStep (a : Int) (x : Int) = crcStep (b : Int) (y : Int) → a ^^^ x = b ^^^ y) := by
 unfold crcStep
 rw [w64 (n := (x : Int)) (by omega) (by omega), w64 (n := (y : Int)) (by omega) (by omega), xor64 ha (by omega), xor64 hb (by omega)]
 exact crcBits_inj 8 (Nat.xor_lt_two_pow (n := 32) (by omega) (by omega)) (Nat.xor_lt_two_pow (n := 32) (by omega) (by omega))
theorem crcFold : ∀ (l : List Int), Byte l → ∀ {a b : Nat}, a < 4294967296 → b < 4294967296 → (∃ a' : Nat, a' < 4294967296 ∧ l.foldl crcStep (a : Int) = (a' : Int)) ∧ (l.foldl crcStep (a : Int) = l.foldl crcStep (b : Int) → a = b)
 | [], _, a, b, ha, hb => ⟨⟨a, ha, rfl⟩, fun h => by simp only [List.foldl_nil] at h; omega⟩
 | v :: r, hB, a, b, ha, hb => by
  obtain ⟨v0, v1⟩ := hB v (List.mem_cons_self ..)
  obtain ⟨x, rfl⟩ : ∃ x : Nat, v = (x : Int) := ⟨v.toNat, by omega⟩
  have hr : Byte r := fun z hz => hB z (List.mem_cons_of_mem _ hz)
  obtain ⟨⟨a', la, ea⟩, inj⟩ := crcStep_inj (a := a) (b := b) (x := x) (y := x) ha hb (by omega) (by omega)
  obtain ⟨⟨b', lb, eb⟩, _⟩ := crcStep_inj (a := b) (b := b) (x := x) (y := x) hb hb (by omega) (by omega)
  have ih := crcFold r hr la lb
  simp only [List.foldl_cons, ea, eb]
  refine ⟨ih.1, fun h => ?_⟩
  have e := ih.2 h
  rw [ea, eb, e] at inj
  exact xor_inj (inj rfl)
theorem crc_ge {l : List Int} (hB : Byte l) : 0 ≤ crc l := by
 obtain ⟨⟨a, la, ea⟩, _⟩ := crcFold l hB (a := 4294967295) (b := 4294967295) (by omega) (by omega)
 unfold crc
 rw [show (4294967295 : Int) = ((4294967295 : Nat) : Int) from rfl, ea, xor64 la (by omega)]
 exact Int.natCast_nonneg _
def leafOf (a : Int) : Int := if nodeB a = true then Int.tmod (crc (putNum a)) 4 else -1
theorem spec_LeafOf_ev (a : Int) : Ev (fun k => spec_LeafOf.f k a) (leafOf a) := by
 have hl := putNum_len a
 unfold leafOf
 simp only [spec_LeafOf.f, spec_l3Node_eq, Option.bind_some]
 by_cases h : nodeB a = true
 ·simp only [h, if_true]
  refine Ev.bind (spec_PutNum_ev a) ?_
  refine Ev.bind (spec_Crc_ev _ (by omega)) ?_
  exact evSome _
 ·simp only [h]; exact evSome _
theorem impl_LeafOf_ev (a : Int) : Ev (fun k => impl_LeafOf.f k a) (leafOf a) := by
 have hl := putNum_len a
 unfold leafOf
 simp only [impl_LeafOf.f, impl_isNode_eq, Option.bind_some]
 by_cases h : nodeB a = true
 ·simp only [h, if_true]
  refine Ev.bind (impl_PutNum_ev a) ?_
  refine Ev.bind (impl_Crc_ev _ (by omega)) ?_
  exact evSome _
 ·simp only [h]; exact evSome _
theorem spec_Has_l (l : List Int) (a : Int) (hl : l.length ≤ 1099511627776) : ∀ (d i : Nat), i + d = l.length → Ev (fun k => spec_l1Has.l0 k l a (i : Int)) ((l.drop i).contains a) := by
 intro d
 induction d with
 | zero =>
  intro i h
  rw [List.drop_eq_nil_of_le (by omega)]
  exact evRet fun k => by simp only [spec_l1Has.l0]; rw [if_neg (by omega)]; rfl
 | succ d ih =>
  intro i h
  have hi : i < l.length := by omega
  rw [List.drop_eq_getElem_cons hi, List.contains_cons]
  refine evSucc ?_
  simp only [spec_l1Has.l0, rd_nat hi]
  simp only [if_pos (show (i : Int) < (l.length : Int) by omega), if_pos (show (0 : Int) ≤ (i : Int) by omega), w64 (show (-9223372036854775808 : Int) ≤ (i : Int) + 1 by omega) (by omega)]
  by_cases e : l[i] = a
  ·simp only [if_pos e, e, beq_self_eq_true, Bool.true_or]; exact evSome _
  ·simp only [if_neg e, beq_eq_false_iff_ne.2 (Ne.symm e), Bool.false_or]; exact ih (i + 1) (by omega)
theorem spec_Has_ev (l : List Int) (a : Int) (hl : l.length ≤ 1099511627776) : Ev (fun k => spec_l1Has.f k l a) (l.contains a) := by
 have h := spec_Has_l l a hl l.length 0 (by omega)
 rw [List.drop_zero] at h
 exact h
theorem impl_Index_l (l : List Int) (a : Int) (hl : l.length ≤ 1099511627776) : ∀ (d i : Nat), i + d = l.length → ∃ r, Ev (fun k => slices_Index_int_int.l0 k l a (l.length : Int) (i : Int)) r ∧ decide (r ≥ 0) = (l.drop i).contains a := by
 intro d
 induction d with
 | zero =>
  intro i h
  refine ⟨-1, evRet fun k => by simp only [slices_Index_int_int.l0]; rw [if_neg (by omega)], ?_⟩
  rw [List.drop_eq_nil_of_le (by omega)]; rfl
 | succ d ih =>
  intro i h
  have hi : i < l.length := by omega
  rw [List.drop_eq_getElem_cons hi, List.contains_cons]
  by_cases e : a = l[i]
  ·refine ⟨(i : Int), ?_, ?_⟩
   ·refine evRet fun k => ?_
    simp only [slices_Index_int_int.l0, rd_nat hi]
    rw [if_pos (by omega), if_pos (by omega), if_pos (by omega), if_pos e]
   ·simp only [← e, beq_self_eq_true, Bool.true_or, decide_eq_true_eq]; omega
  ·obtain ⟨r, hr, h2⟩ := ih (i + 1) (by omega)
   refine ⟨r, ?_, ?_⟩
   ·refine evSucc ?_
    simp only [slices_Index_int_int.l0, rd_nat hi]
    simp only [if_pos (show (i : Int) < (l.length : Int) by omega), if_pos (show (0 : Int) ≤ (i : Int) by omega), w64 (show (-9223372036854775808 : Int) ≤ (i : Int) + 1 by omega) (by omega), if_neg e]
    exact hr
   ·simp only [beq_eq_false_iff_ne.2 e, Bool.false_or]; exact h2
theorem impl_Contains_ev (l : List Int) (a : Int) (hl : l.length ≤ 1099511627776) : Ev (fun k => slices_Contains_int_int.f k l a) (l.contains a) := by
 obtain ⟨r, hr, h2⟩ := impl_Index_l l a hl l.length 0 (by omega)
 simp only [slices_Contains_int_int.f]
 refine Ev.bind hr ?_
 rw [List.drop_zero] at h2
 rw [← h2]
 exact evSome _
def sliceI (m : List Int) (l : List S44) : List S44 := l.filter fun x => m.contains (leafOf x.f0)
def sliceF (m : List Int) (l : List S58) : List S58 := l.filter fun x => m.contains (leafOf x.f0)
def sliceR (l : List S44) (fl : List S58) (m : List Int) : List S44 × List S58 := if okS l fl = true then (sliceI m l, sliceF m fl) else ([], [])
theorem sliceI_len (m : List Int) (l : List S44) : (sliceI m l).length ≤ l.length := List.length_filter_le _ _
theorem sliceF_len (m : List Int) (l : List S58) : (sliceF m l).length ≤ l.length := List.length_filter_le _ _
theorem sliceR_len (l : List S44) (fl : List S58) (m : List Int) : (sliceR l fl m).1.length ≤ l.length ∧ (sliceR l fl m).2.length ≤ fl.length := by
 unfold sliceR
 split
 ·exact ⟨sliceI_len _ _, sliceF_len _ _⟩
 ·simp
theorem sliceI_pos {m : List Int} {x : S44} {l : List S44} (h : m.contains (leafOf x.f0) = true) : sliceI m (x :: l) = x :: sliceI m l := by unfold sliceI; rw [List.filter_cons_of_pos (by exact h)]
theorem sliceI_neg {m : List Int} {x : S44} {l : List S44} (h : ¬ m.contains (leafOf x.f0) = true) : sliceI m (x :: l) = sliceI m l := by unfold sliceI; rw [List.filter_cons_of_neg (by exact h)]
theorem sliceF_pos {m : List Int} {x : S58} {l : List S58} (h : m.contains (leafOf x.f0) = true) : sliceF m (x :: l) = x :: sliceF m l := by unfold sliceF; rw [List.filter_cons_of_pos (by exact h)]
theorem sliceF_neg {m : List Int} {x : S58} {l : List S58} (h : ¬ m.contains (leafOf x.f0) = true) : sliceF m (x :: l) = sliceF m l := by unfold sliceF; rw [List.filter_cons_of_neg (by exact h)]
theorem spec_Slice_l1 (l : List S44) (fl : List S58) (m : List Int) (hf : fl.length ≤ 2097152) (hm : m.length ≤ 1099511627776) (il : List S44) : ∀ (d i : Nat) (acc : List S58), i + d = fl.length → acc.length ≤ i →
  Ev (fun k => spec_l6Slice.l1 k m (i : Int) l fl il acc) (il, acc ++ sliceF m (fl.drop i)) := by
 intro d
 induction d with
 | zero =>
  intro i acc h _
  rw [List.drop_eq_nil_of_le (by omega)]
  exact evRet fun k => by simp only [spec_l6Slice.l1]; rw [if_neg (by omega)]; simp [sliceF]
 | succ d ih =>
  intro i acc h ha
  have hi : i < fl.length := by omega
  rw [List.drop_eq_getElem_cons hi]
  refine evSucc ?_
  simp only [spec_l6Slice.l1, rdF hi]
  simp only [if_pos (show (i : Int) < (fl.length : Int) by omega), if_pos (show (0 : Int) ≤ (i : Int) by omega), w64 (show (-9223372036854775808 : Int) ≤ (i : Int) + 1 by omega) (by omega), if_pos (show acc.length < 8796093022208 by omega)]
  refine Ev.bind (spec_LeafOf_ev _) ?_
  refine Ev.bind (spec_Has_ev m _ hm) ?_
  by_cases c : m.contains (leafOf fl[i].f0) = true
  ·simp only [if_pos c, sliceF_pos c]
   have := ih (i + 1) (acc ++ [fl[i]]) (by omega) (by simp; omega)
   rw [List.append_assoc, List.singleton_append] at this
   exact this
  ·simp only [if_neg c, sliceF_neg c]
   exact ih (i + 1) acc (by omega) (by omega)
theorem spec_Slice_l0 (l : List S44) (fl : List S58) (m : List Int) (hl : l.length ≤ 2097152) (hf : fl.length ≤ 2097152) (hm : m.length ≤ 1099511627776) : ∀ (d i : Nat) (acc : List S44), i + d = l.length → acc.length ≤ i →
  Ev (fun k => spec_l6Slice.l0 k m (i : Int) l fl acc) (acc ++ sliceI m (l.drop i), sliceF m fl) := by
 intro d
 induction d with
 | zero =>
  intro i acc h _
  rw [List.drop_eq_nil_of_le (by omega)]
  have e := spec_Slice_l1 l fl m hf hm acc fl.length 0 [] (by omega) (by simp)
  refine evSucc ?_
  simp only [spec_l6Slice.l0]
  simp only [if_neg (show ¬ (i : Int) < (l.length : Int) by omega)]
  simpa [sliceI] using e
 | succ d ih =>
  intro i acc h ha
  have hi : i < l.length := by omega
  rw [List.drop_eq_getElem_cons hi]
  refine evSucc ?_
  simp only [spec_l6Slice.l0, rdI hi]
  simp only [if_pos (show (i : Int) < (l.length : Int) by omega), if_pos (show (0 : Int) ≤ (i : Int) by omega), w64 (show (-9223372036854775808 : Int) ≤ (i : Int) + 1 by omega) (by omega), if_pos (show acc.length < 2513169434916 by omega)]
  refine Ev.bind (spec_LeafOf_ev _) ?_
  refine Ev.bind (spec_Has_ev m _ hm) ?_
  by_cases c : m.contains (leafOf l[i].f0) = true
  ·simp only [if_pos c, sliceI_pos c]
   have := ih (i + 1) (acc ++ [l[i]]) (by omega) (by simp; omega)
   rw [List.append_assoc, List.singleton_append] at this
   exact this
  ·simp only [if_neg c, sliceI_neg c]
   exact ih (i + 1) acc (by omega) (by omega)
theorem spec_l6Slice_ev (l : List S44) (fl : List S58) (m : List Int) (hl : l.length ≤ 2097152) (hf : fl.length ≤ 2097152) (hm : m.length ≤ 1099511627776) : Ev (fun k => spec_l6Slice.f k l fl m) (sliceI m l, sliceF m fl) := by
 have h := spec_Slice_l0 l fl m hl hf hm l.length 0 [] (by omega) (by simp)
 rw [List.drop_zero, List.nil_append] at h
 exact h
theorem impl_Slice_l1 (l : List S44) (fl : List S58) (m : List Int) (hf : fl.length ≤ 2097152) (hm : m.length ≤ 1099511627776) (il : List S44) : ∀ (d i : Nat) (acc : List S58), i + d = fl.length → acc.length ≤ i →
  Ev (fun k => impl_Slice.l1 k m fl (fl.length : Int) (i : Int) il acc) (il, acc ++ sliceF m (fl.drop i)) := by
 intro d
 induction d with
 | zero =>
  intro i acc h _
  rw [List.drop_eq_nil_of_le (by omega)]
  exact evRet fun k => by simp only [impl_Slice.l1]; rw [if_neg (by omega)]; simp [sliceF]
 | succ d ih =>
  intro i acc h ha
  have hi : i < fl.length := by omega
  rw [List.drop_eq_getElem_cons hi]
  refine evSucc ?_
  simp only [impl_Slice.l1, rdF hi]
  simp only [if_pos (show (i : Int) < (fl.length : Int) by omega), if_pos (show (0 : Int) ≤ (i : Int) by omega), w64 (show (-9223372036854775808 : Int) ≤ (i : Int) + 1 by omega) (by omega), if_pos (show acc.length < 8796093022208 by omega)]
  refine Ev.bind (impl_LeafOf_ev _) ?_
  refine Ev.bind (impl_Contains_ev m _ hm) ?_
  by_cases c : m.contains (leafOf fl[i].f0) = true
  ·simp only [if_pos c, sliceF_pos c]
   have := ih (i + 1) (acc ++ [fl[i]]) (by omega) (by simp; omega)
   rw [List.append_assoc, List.singleton_append] at this
   exact this
  ·simp only [if_neg c, sliceF_neg c]
   exact ih (i + 1) acc (by omega) (by omega)
theorem impl_Slice_l0 (l : List S44) (fl : List S58) (m : List Int) (hl : l.length ≤ 2097152) (hf : fl.length ≤ 2097152) (hm : m.length ≤ 1099511627776) : ∀ (d i : Nat) (acc : List S44), i + d = l.length → acc.length ≤ i →
  Ev (fun k => impl_Slice.l0 k m l (l.length : Int) (i : Int) l fl acc) (acc ++ sliceI m (l.drop i), sliceF m fl) := by
 intro d
 induction d with
 | zero =>
  intro i acc h _
  rw [List.drop_eq_nil_of_le (by omega)]
  have e := impl_Slice_l1 l fl m hf hm acc fl.length 0 [] (by omega) (by simp)
  refine evSucc ?_
  simp only [impl_Slice.l0]
  simp only [if_neg (show ¬ (i : Int) < (l.length : Int) by omega)]
  simpa [sliceI] using e
 | succ d ih =>
  intro i acc h ha
  have hi : i < l.length := by omega
  rw [List.drop_eq_getElem_cons hi]
  refine evSucc ?_
  simp only [impl_Slice.l0, rdI hi]
  simp only [if_pos (show (i : Int) < (l.length : Int) by omega), if_pos (show (0 : Int) ≤ (i : Int) by omega), w64 (show (-9223372036854775808 : Int) ≤ (i : Int) + 1 by omega) (by omega), if_pos (show acc.length < 2513169434916 by omega)]
  refine Ev.bind (impl_LeafOf_ev _) ?_
  refine Ev.bind (impl_Contains_ev m _ hm) ?_
  by_cases c : m.contains (leafOf l[i].f0) = true
  ·simp only [if_pos c, sliceI_pos c]
   have := ih (i + 1) (acc ++ [l[i]]) (by omega) (by simp; omega)
   rw [List.append_assoc, List.singleton_append] at this
   exact this
  ·simp only [if_neg c, sliceI_neg c]
   exact ih (i + 1) acc (by omega) (by omega)
theorem impl_Slice_ev (l : List S44) (fl : List S58) (m : List Int) (hl : l.length ≤ 2097152) (hf : fl.length ≤ 2097152) (hm : m.length ≤ 1099511627776) : Ev (fun k => impl_Slice.f k l fl m) (sliceR l fl m) := by
 simp only [impl_Slice.f, sliceR]
 refine Ev.bind (impl_StateOk_ev l fl hl hf) ?_
 by_cases h : okS l fl = true
 ·simp only [if_pos h]
  have h := impl_Slice_l0 l fl m hl hf hm l.length 0 [] (by omega) (by simp)
  rw [List.drop_zero, List.nil_append] at h
  exact h
 ·simp only [if_neg h]; exact evSome _
theorem spec_Slice_ev (l : List S44) (fl : List S58) (m : List Int) (hl : l.length ≤ 2097152) (hf : fl.length ≤ 2097152) (hm : m.length ≤ 1099511627776) : Ev (fun k => spec_Slice.f k l fl m) (sliceR l fl m) := by
 simp only [spec_Slice.f, sliceR]
 refine Ev.bind (spec_StateOk_ev l fl hl hf) ?_
 by_cases h : okS l fl = true
 ·simp only [if_pos h]
  refine Ev.bind (spec_l6Slice_ev l fl m hl hf hm) ?_
  exact evSome _
 ·simp only [if_neg h]; exact evSome _
theorem bytesOf_len (s : ByteArray) : (bytesOf s).length = s.size := by unfold bytesOf; rw [List.length_map, Array.length_toList]; rfl
theorem rdLL {l : List (List Int)} {i : Nat} (h : i < l.length) : rd_L6 l (i : Int) = l[i] := by
 unfold rd_L6; simp [List.getD_eq_getElem?_getD, h]
theorem joined_l (l : List (List Int)) (hl : l.length ≤ 1099511627776) : ∀ (d i : Nat) (acc : List Int), i + d = l.length → acc.length + (l.drop i).flatten.length < 140737488355328 →
  Ev (fun k => impl_joined.l0 k acc l (l.length : Int) (i : Int)) (acc ++ (l.drop i).flatten) := by
 intro d
 induction d with
 | zero =>
  intro i acc h _
  rw [List.drop_eq_nil_of_le (by omega)]
  exact evRet fun k => by simp only [impl_joined.l0]; rw [if_neg (by omega)]; simp
 | succ d ih =>
  intro i acc h hb
  have hi : i < l.length := by omega
  rw [List.drop_eq_getElem_cons hi, List.flatten_cons] at hb ⊢
  rw [List.length_append] at hb
  have := ih (i + 1) (acc ++ l[i]) (by omega) (by rw [List.length_append]; omega)
  rw [List.append_assoc] at this
  refine evSucc ?_
  simp only [impl_joined.l0, rdLL hi]
  simp only [if_pos (show (i : Int) < (l.length : Int) by omega), if_pos (show (0 : Int) ≤ (i : Int) by omega), w64 (show (-9223372036854775808 : Int) ≤ (i : Int) + 1 by omega) (by omega), if_pos (show acc.length + l[i].length < 140737488355328 by omega)]
  exact this
theorem joined_ev (l : List (List Int)) (hl : l.length ≤ 1099511627776) (hb : l.flatten.length < 140737488355328) : Ev (fun k => impl_joined.f k l) l.flatten := by
 have h := joined_l l hl l.length 0 [] (by omega) (by rw [List.drop_zero]; simpa using hb)
 rw [List.drop_zero, List.nil_append] at h
 exact h
def putText (s : ByteArray) : List Int := putNum (s.size : Int) ++ bytesOf s
theorem impl_PutText_ev (s : ByteArray) (hs : s.size ≤ 1099511627776) : Ev (fun k => impl_PutText.f k s) (putText s) := by
 have h1 := putNum_len (s.size : Int)
 have h2 := bytesOf_len s
 simp only [impl_PutText.f]
 refine Ev.bind (impl_PutNum_ev _) ?_
 simp only [if_pos (show (putNum (s.size : Int)).length + s.size < 140737488355328 by omega)]
 have := joined_ev [putNum (s.size : Int), bytesOf s] (by simp) (by simp; omega)
 simpa [putText] using this
def itemB (x : S44) : List Int := putNum x.f0 ++ (putNum x.f1.f0 ++ (putNum x.f1.f1 ++ (putNum x.f1.f2 ++ (putNum x.f1.f3 ++ putText x.f1.f4))))
def floorB (x : S58) : List Int := putNum x.f0 ++ putNum x.f1
def itemsB : List S44 → List Int
 | [] => []
 | x :: l => itemB x ++ itemsB l
def floorsB : List S58 → List Int
 | [] => []
 | x :: l => floorB x ++ floorsB l
def stateB (a : List S44) (b : List S58) : List Int := putNum (a.length : Int) ++ (itemsB a ++ (putNum (b.length : Int) ++ floorsB b))
theorem itemB_len (x : S44) (h : x.f1.f4.size ≤ 8) : (itemB x).length ≤ 20000000000 := by
 have h0 := putNum_len x.f0
 have h1 := putNum_len x.f1.f0
 have h2 := putNum_len x.f1.f1
 have h3 := putNum_len x.f1.f2
 have h4 := putNum_len x.f1.f3
 have h5 := putNum_len (x.f1.f4.size : Int)
 have h6 := bytesOf_len x.f1.f4
 simp only [itemB, putText, List.length_append]
 omega
theorem floorB_len (x : S58) : (floorB x).length ≤ 5000000000 := by
 have h0 := putNum_len x.f0
 have h1 := putNum_len x.f1
 simp only [floorB, List.length_append]
 omega
theorem itemsB_len : ∀ (l : List S44), (∀ x ∈ l, x.f1.f4.size ≤ 8) → (itemsB l).length ≤ 20000000000 * l.length
 | [], _ => by simp [itemsB]
 | x :: l, h => by
  have h1 := itemB_len x (h x List.mem_cons_self)
  have h2 := itemsB_len l (fun y hy => h y (List.mem_cons_of_mem _ hy))
  simp only [itemsB, List.length_append, List.length_cons]
  omega
theorem floorsB_len : ∀ (l : List S58), (floorsB l).length ≤ 5000000000 * l.length
 | [] => by simp [floorsB]
 | x :: l => by
  have h1 := floorB_len x
  have h2 := floorsB_len l
  simp only [floorsB, List.length_append, List.length_cons]
  omega
theorem stateB_len (a : List S44) (b : List S58) (ha : a.length ≤ 5) (hb : b.length ≤ 5) (h : ∀ x ∈ a, x.f1.f4.size ≤ 8) : (stateB a b).length ≤ 200000000000 := by
 have h1 := putNum_len (a.length : Int)
 have h2 := putNum_len (b.length : Int)
 have h3 := itemsB_len a h
 have h4 := floorsB_len b
 simp only [stateB, List.length_append]
 omega
def numsB : List Int → List Int
 | [] => []
 | n :: l => putNum n ++ numsB l
theorem impl_Bytes_l1 (b : List S58) (hb : b.length ≤ 5) : ∀ (d i : Nat) (acc : List Int), i + d = b.length → acc.length ≤ 200000000000 + 5000000000 * i →
  Ev (fun k => impl_StateBytes.l1 k acc b (b.length : Int) (i : Int)) (acc ++ floorsB (b.drop i)) := by
 intro d
 induction d with
 | zero =>
  intro i acc h _
  rw [List.drop_eq_nil_of_le (by omega)]
  exact evRet fun k => by simp only [impl_StateBytes.l1]; rw [if_neg (by omega)]; simp [floorsB]
 | succ d ih =>
  intro i acc h hacc
  have hi : i < b.length := by omega
  have h0 := putNum_len b[i].f0
  have h1 := putNum_len b[i].f1
  rw [List.drop_eq_getElem_cons hi]
  have := ih (i + 1) (acc ++ floorB b[i]) (by omega) (by have := floorB_len b[i]; rw [List.length_append]; omega)
  simp only [floorsB]
  rw [List.append_assoc] at this
  refine evSucc ?_
  simp only [impl_StateBytes.l1, rdF hi]
  simp only [if_pos (show (i : Int) < (b.length : Int) by omega), if_pos (show (0 : Int) ≤ (i : Int) by omega), w64 (show (-9223372036854775808 : Int) ≤ (i : Int) + 1 by omega) (by omega)]
  refine Ev.bind (impl_PutNum_ev _) ?_
  refine Ev.bind (impl_PutNum_ev _) ?_
  refine Ev.bind (joined_ev [acc, putNum b[i].f0, putNum b[i].f1] (by simp) (by simp; omega)) ?_
  have e : [acc, putNum b[i].f0, putNum b[i].f1].flatten = acc ++ floorB b[i] := by simp [floorB]
  rw [e]
  exact this
theorem impl_Bytes_l0 (a : List S44) (b : List S58) (ha : a.length ≤ 5) (hb : b.length ≤ 5) (hs : ∀ x ∈ a, x.f1.f4.size ≤ 8) : ∀ (d i : Nat) (acc : List Int), i + d = a.length → acc.length ≤ 10000000000 + 20000000000 * i →
  Ev (fun k => impl_StateBytes.l0 k acc a (a.length : Int) (i : Int) a b) (acc ++ (itemsB (a.drop i) ++ (putNum (b.length : Int) ++ floorsB b))) := by
 intro d
 induction d with
 | zero =>
  intro i acc h hacc
  have h0 := putNum_len (b.length : Int)
  rw [List.drop_eq_nil_of_le (by omega)]
  simp only [itemsB, List.nil_append]
  have hz := impl_Bytes_l1 b hb b.length 0 (acc ++ putNum (b.length : Int)) (by omega) (by rw [List.length_append]; omega)
  rw [List.drop_zero, List.append_assoc] at hz
  refine evSucc ?_
  simp only [impl_StateBytes.l0]
  simp only [if_neg (show ¬ (i : Int) < (a.length : Int) by omega)]
  refine Ev.bind (impl_PutNum_ev _) ?_
  refine Ev.bind (joined_ev [acc, putNum (b.length : Int)] (by simp) (by simp; omega)) ?_
  have e : [acc, putNum (b.length : Int)].flatten = acc ++ putNum (b.length : Int) := by simp
  rw [e]
  exact hz
 | succ d ih =>
  intro i acc h hacc
  have hi : i < a.length := by omega
  have hsz := hs a[i] (List.getElem_mem hi)
  have hl := itemB_len a[i] hsz
  have hx := ih (i + 1) (acc ++ itemB a[i]) (by omega) (by rw [List.length_append]; omega)
  rw [List.drop_eq_getElem_cons hi]
  simp only [itemsB]
  simp only [List.append_assoc] at hx ⊢
  have e : [acc, putNum a[i].f0, putNum a[i].f1.f0, putNum a[i].f1.f1, putNum a[i].f1.f2, putNum a[i].f1.f3, putText a[i].f1.f4].flatten = acc ++ itemB a[i] := by simp [itemB]
  refine evSucc ?_
  simp only [impl_StateBytes.l0, rdI hi]
  simp only [if_pos (show (i : Int) < (a.length : Int) by omega), if_pos (show (0 : Int) ≤ (i : Int) by omega), w64 (show (-9223372036854775808 : Int) ≤ (i : Int) + 1 by omega) (by omega)]
  refine Ev.bind (impl_PutNum_ev _) ?_
  refine Ev.bind (impl_PutNum_ev _) ?_
  refine Ev.bind (impl_PutNum_ev _) ?_
  refine Ev.bind (impl_PutNum_ev _) ?_
  refine Ev.bind (impl_PutNum_ev _) ?_
  refine Ev.bind (impl_PutText_ev _ (by omega)) ?_
  refine Ev.bind (joined_ev _ (by simp) (by rw [e, List.length_append]; omega)) ?_
  rw [e]
  exact hx
def bytesR (a : List S44) (b : List S58) : List Int := if okS a b = true then stateB a b else []
theorem okI_size (b : List S58) : ∀ (l : List S44) (p : Option Int), okI b p l = true → ∀ x ∈ l, x.f1.f4.size ≤ 8
 | [], _, _, x, hx => by simp at hx
 | y :: r, p, h, x, hx => by
  simp only [okI, Bool.and_eq_true] at h
  obtain ⟨h1, h2, h3, h4, h5⟩ := h
  rcases List.mem_cons.1 hx with rfl | hx
  ·simp only [entryOkB, Bool.and_eq_true, decide_eq_true_eq] at h3; omega
  ·exact okI_size b r (some y.f0) h5 x hx
theorem ok_size {a : List S44} {b : List S58} (h : okS a b = true) : ∀ x ∈ a, x.f1.f4.size ≤ 8 := by
 simp only [okS, Bool.and_eq_true] at h
 exact okI_size b a none h.1
theorem okI_gt (b : List S58) : ∀ (l : List S44) (q : Int), okI b (some q) l = true → ∀ x ∈ l, q < x.f0
 | [], _, _, x, hx => by simp at hx
 | y :: r, q, h, x, hx => by
  simp only [okI, Bool.and_eq_true, Bool.not_eq_true', decide_eq_false_iff_not] at h
  obtain ⟨h1, h2, h3, h4, h5⟩ := h
  rcases List.mem_cons.1 hx with rfl | hx
  ·omega
  ·have := okI_gt b r y.f0 h5 x hx; omega
theorem okF_gt : ∀ (l : List S58) (q : Int), okF (some q) l = true → ∀ x ∈ l, q < x.f0
 | [], _, _, x, hx => by simp at hx
 | y :: r, q, h, x, hx => by
  simp only [okF, Bool.and_eq_true, Bool.not_eq_true', decide_eq_false_iff_not] at h
  obtain ⟨h1, h2, h3, h5⟩ := h
  rcases List.mem_cons.1 hx with rfl | hx
  ·omega
  ·have := okF_gt r y.f0 h5 x hx; omega
theorem okI_node (b : List S58) : ∀ (l : List S44) (p : Option Int), okI b p l = true → ∀ x ∈ l, 0 ≤ x.f0 ∧ x.f0 ≤ 4
 | [], _, _, x, hx => by simp at hx
 | y :: r, p, h, x, hx => by
  simp only [okI, Bool.and_eq_true] at h
  obtain ⟨h1, h2, h3, h4, h5⟩ := h
  rcases List.mem_cons.1 hx with rfl | hx
  ·simpa [nodeB] using h1
  ·exact okI_node b r (some y.f0) h5 x hx
theorem okF_node : ∀ (l : List S58) (p : Option Int), okF p l = true → ∀ x ∈ l, 0 ≤ x.f0 ∧ x.f0 ≤ 4
 | [], _, _, x, hx => by simp at hx
 | y :: r, p, h, x, hx => by
  simp only [okF, Bool.and_eq_true] at h
  obtain ⟨h1, h2, h3, h5⟩ := h
  rcases List.mem_cons.1 hx with rfl | hx
  ·simpa [nodeB] using h1
  ·exact okF_node r (some y.f0) h5 x hx
theorem okI_cnt (b : List S58) : ∀ (l : List S44) (p : Option Int) (n : Nat), okI b p l = true → (∀ x ∈ l, 5 - (n : Int) ≤ x.f0) → l.length ≤ n
 | [], _, _, _, _ => by simp
 | y :: r, p, 0, h, hx => by
  have h1 := hx y List.mem_cons_self
  simp only [okI, Bool.and_eq_true, nodeB, decide_eq_true_eq] at h
  omega
 | y :: r, p, n + 1, h, hx => by
  have h1 := hx y List.mem_cons_self
  have h0 : nodeB y.f0 = true := by simp only [okI, Bool.and_eq_true] at h; exact h.1
  simp only [nodeB, decide_eq_true_eq] at h0
  have h5 : okI b (some y.f0) r = true := by simp only [okI, Bool.and_eq_true] at h; exact h.2.2.2.2
  have := okI_cnt b r (some y.f0) n h5 (fun x hx => by have := okI_gt b r y.f0 h5 x hx; omega)
  simp only [List.length_cons]; omega
theorem okF_cnt : ∀ (l : List S58) (p : Option Int) (n : Nat), okF p l = true → (∀ x ∈ l, 5 - (n : Int) ≤ x.f0) → l.length ≤ n
 | [], _, _, _, _ => by simp
 | y :: r, p, 0, h, hx => by
  have h1 := hx y List.mem_cons_self
  simp only [okF, Bool.and_eq_true, nodeB, decide_eq_true_eq] at h
  omega
 | y :: r, p, n + 1, h, hx => by
  have h1 := hx y List.mem_cons_self
  have h0 : nodeB y.f0 = true := by simp only [okF, Bool.and_eq_true] at h; exact h.1
  simp only [nodeB, decide_eq_true_eq] at h0
  have h5 : okF (some y.f0) r = true := by simp only [okF, Bool.and_eq_true] at h; exact h.2.2.2
  have := okF_cnt r (some y.f0) n h5 (fun x hx => by have := okF_gt r y.f0 h5 x hx; omega)
  simp only [List.length_cons]; omega
theorem ok_cnt {a : List S44} {b : List S58} (h : okS a b = true) : a.length ≤ 5 ∧ b.length ≤ 5 := by
 simp only [okS, Bool.and_eq_true] at h
 refine ⟨okI_cnt b a none 5 h.1 (fun x hx => ?_), okF_cnt b none 5 h.2 (fun x hx => ?_)⟩
 ·have := okI_node b a none h.1 x hx; omega
 ·have := okF_node b none h.2 x hx; omega
theorem impl_StateBytes_ev (a : List S44) (b : List S58) (ha : a.length ≤ 2097152) (hb : b.length ≤ 2097152) : Ev (fun k => impl_StateBytes.f k a b) (bytesR a b) := by
 simp only [impl_StateBytes.f, bytesR]
 refine Ev.bind (impl_StateOk_ev a b ha hb) ?_
 by_cases h : okS a b = true
 ·obtain ⟨h1, h2⟩ := ok_cnt h
  have h0 := putNum_len (a.length : Int)
  simp only [if_pos h]
  refine Ev.bind (impl_PutNum_ev _) ?_
  have hz := impl_Bytes_l0 a b h1 h2 (ok_size h) a.length 0 (putNum (a.length : Int)) (by omega) (by omega)
  rw [List.drop_zero] at hz
  exact hz
 ·simp only [if_neg h]; exact evSome _
theorem flo_slice (m : List Int) (a : Int) (ha : m.contains (leafOf a) = true) : ∀ (l : List S58), floOf (sliceF m l) a = floOf l a
 | [] => rfl
 | x :: l => by
  by_cases c : m.contains (leafOf x.f0) = true
  ·rw [sliceF_pos c]
   simp only [floOf]
   rw [flo_slice m a ha l]
  ·rw [sliceF_neg c, flo_slice m a ha l]
   simp only [floOf]
   by_cases e : x.f0 = a
   ·rw [e] at c; exact absurd ha c
   ·rw [if_neg e]
theorem okI_none (b : List S58) : ∀ (l : List S44) (p : Option Int) (q : Option Int), (∀ y, q = some y → ∃ z, p = some z ∧ y ≤ z) → okI b p l = true → okI b q l = true
 | [], _, _, _, _ => rfl
 | x :: l, p, q, hq, h => by
  simp only [okI, Bool.and_eq_true] at h ⊢
  refine ⟨h.1, ?_, h.2.2.1, h.2.2.2.1, h.2.2.2.2⟩
  cases q with
  | none => rfl
  | some y =>
   obtain ⟨z, hz, hle⟩ := hq y rfl
   have h2 := h.2.1
   subst hz
   simp only [Bool.not_eq_true', decide_eq_false_iff_not] at h2 ⊢
   omega
theorem okF_none : ∀ (l : List S58) (p : Option Int) (q : Option Int), (∀ y, q = some y → ∃ z, p = some z ∧ y ≤ z) → okF p l = true → okF q l = true
 | [], _, _, _, _ => rfl
 | x :: l, p, q, hq, h => by
  simp only [okF, Bool.and_eq_true] at h ⊢
  refine ⟨h.1, ?_, h.2.2.1, h.2.2.2⟩
  cases q with
  | none => rfl
  | some y =>
   obtain ⟨z, hz, hle⟩ := hq y rfl
   have h2 := h.2.1
   subst hz
   simp only [Bool.not_eq_true', decide_eq_false_iff_not] at h2 ⊢
   omega
theorem okI_slice (m : List Int) (b : List S58) : ∀ (l : List S44) (p : Option Int), okI b p l = true → okI (sliceF m b) p (sliceI m l) = true
 | [], _, _ => rfl
 | x :: l, p, h => by
  have hh := h
  simp only [okI, Bool.and_eq_true, Bool.not_eq_true', decide_eq_false_iff_not] at h
  obtain ⟨h1, h2, h3, h4, h5⟩ := h
  by_cases c : m.contains (leafOf x.f0) = true
  ·rw [sliceI_pos c]
   simp only [okI, Bool.and_eq_true, Bool.not_eq_true', decide_eq_false_iff_not]
   refine ⟨h1, h2, h3, ?_, okI_slice m b l (some x.f0) h5⟩
   rw [flo_slice m x.f0 c b]; exact h4
  ·rw [sliceI_neg c]
   refine okI_none (sliceF m b) _ (some x.f0) p (fun y hy => ⟨x.f0, rfl, ?_⟩) (okI_slice m b l (some x.f0) h5)
   subst hy
   simp only [decide_eq_false_iff_not] at h2
   omega
theorem okF_slice (m : List Int) : ∀ (l : List S58) (p : Option Int), okF p l = true → okF p (sliceF m l) = true
 | [], _, _ => rfl
 | x :: l, p, h => by
  simp only [okF, Bool.and_eq_true, Bool.not_eq_true'] at h
  obtain ⟨h1, h2, h3, h5⟩ := h
  by_cases c : m.contains (leafOf x.f0) = true
  ·rw [sliceF_pos c]
   simp only [okF, Bool.and_eq_true, Bool.not_eq_true']
   exact ⟨h1, h2, h3, okF_slice m l (some x.f0) h5⟩
  ·rw [sliceF_neg c]
   refine okF_none _ (some x.f0) p (fun y hy => ⟨x.f0, rfl, ?_⟩) (okF_slice m l (some x.f0) h5)
   subst hy
   simp only [decide_eq_false_iff_not] at h2
   omega
theorem ok_slice {a : List S44} {b : List S58} (m : List Int) (h : okS a b = true) : okS (sliceI m a) (sliceF m b) = true := by
 simp only [okS, Bool.and_eq_true] at h ⊢
 exact ⟨okI_slice m b a none h.1, okF_slice m b none h.2⟩
def sumR (a : List S44) (b : List S58) (q : Int) : Int := if (okS a b && decide (0 ≤ q ∧ q ≤ 3)) = true then Int.tmod (crc (stateB (sliceI [q] a) (sliceF [q] b))) 1024 else 0
theorem impl_LeafSum_ev (a : List S44) (b : List S58) (q : Int) (ha : a.length ≤ 2097152) (hb : b.length ≤ 2097152) : Ev (fun k => impl_LeafSum.f k a b q) (sumR a b q) := by
 simp only [impl_LeafSum.f, sumR]
 refine Ev.bind (impl_StateOk_ev a b ha hb) ?_
 cases h : okS a b
 ·simp only [Bool.false_eq_true, if_false, Bool.false_and]
  refine evSucc ?_
  simp only [impl_LeafSum.j0, if_true]
  exact evSome _
 ·simp only [if_true, Bool.true_and, impl_within_eq, Option.bind_some]
  refine evSucc ?_
  by_cases c : 0 ≤ q ∧ q ≤ 3
  ·simp only [impl_LeafSum.j0, decide_eq_true c, Bool.not_true, Bool.false_eq_true, if_false, if_true]
   have o := ok_slice [q] h
   have o1 := ok_cnt o
   have o2 := stateB_len _ _ o1.1 o1.2 (ok_size o)
   have o3 : (stateB (sliceI [q] a) (sliceF [q] b)).length ≤ 1099511627776 := by omega
   have hS := impl_Slice_ev a b [q] ha hb (by simp)
   have e : sliceR a b [q] = (sliceI [q] a, sliceF [q] b) := by unfold sliceR; rw [if_pos h]
   rw [e] at hS
   refine Ev.bind hS ?_
   have hB := impl_StateBytes_ev (sliceI [q] a) (sliceF [q] b) (by omega) (by omega)
   have e2 : bytesR (sliceI [q] a) (sliceF [q] b) = stateB (sliceI [q] a) (sliceF [q] b) := by unfold bytesR; rw [if_pos o]
   rw [e2] at hB
   refine Ev.bind hB ?_
   refine Ev.bind (impl_Crc_ev _ o3) ?_
   exact evSome _
  ·simp only [impl_LeafSum.j0, decide_eq_false c, Bool.not_false, Bool.false_eq_true, if_false, if_true]
   exact evSome _
theorem entOf_slice (m : List Int) (q : Int) (h : m.contains (leafOf q) = true) : ∀ l : List S44, entOf (sliceI m l) q = entOf l q
 | [] => rfl
 | x :: l => by
  have e : ∀ r, entOf (x :: r) q = if x.f0 = q then (x.f1.f0, x.f1.f1, x.f1.f2, x.f1.f3, x.f1.f4, true) else entOf r q := fun _ => rfl
  by_cases c : m.contains (leafOf x.f0) = true
  ·rw [sliceI_pos c, e, e, entOf_slice m q h l]
  ·rw [sliceI_neg c, e, entOf_slice m q h l, if_neg (fun hx => c (by rw [hx]; exact h))]
theorem entOf_noslice (m : List Int) (q : Int) (h : ¬ m.contains (leafOf q) = true) : ∀ l : List S44, (entOf (sliceI m l) q).2.2.2.2.2 = false
 | [] => rfl
 | x :: l => by
  have e : ∀ r, entOf (x :: r) q = if x.f0 = q then (x.f1.f0, x.f1.f1, x.f1.f2, x.f1.f3, x.f1.f4, true) else entOf r q := fun _ => rfl
  by_cases c : m.contains (leafOf x.f0) = true
  ·rw [sliceI_pos c, e, if_neg (fun hx => h (by rw [← hx]; exact c))]
   exact entOf_noslice m q h l
  ·rw [sliceI_neg c]
   exact entOf_noslice m q h l
theorem putNum_small {q : Int} (h0 : 0 ≤ q) (h4 : q ≤ 4) : putNum q = [q] := by
 unfold putNum
 rw [if_pos (by omega), putN, dif_pos (by omega), Int.toNat_of_nonneg h0]
theorem leafOf_in {q : Int} (h0 : 0 ≤ q) (h4 : q ≤ 4) : 0 ≤ leafOf q ∧ leafOf q ≤ 3 := by
 have hB : Byte [q] := fun x hx => by simp at hx; omega
 have hc := crc_ge hB
 unfold leafOf
 rw [if_pos (by simp [nodeB]; omega), putNum_small h0 h4, tmod_pos hc]
 omega
def rootR (l : List Int) : Int := Int.tmod (crc (numsB l)) 1024
theorem impl_root_l (l : List Int) (hl : l.length ≤ 4) : ∀ (d i : Nat) (acc : List Int), i + d = l.length → acc.length ≤ 2147483648 * i →
  Ev (fun k => impl_rootOf.l0 k acc l (l.length : Int) (i : Int)) (Int.tmod (crc (acc ++ numsB (l.drop i))) 1024) := by
 intro d
 induction d with
 | zero =>
  intro i acc h hacc
  rw [List.drop_eq_nil_of_le (by omega)]
  simp only [numsB, List.append_nil]
  refine evSucc ?_
  simp only [impl_rootOf.l0]
  simp only [if_neg (show ¬ (i : Int) < (l.length : Int) by omega)]
  refine Ev.bind (impl_Crc_ev _ (by omega)) ?_
  exact evSome _
 | succ d ih =>
  intro i acc h hacc
  have hi : i < l.length := by omega
  have h0 := putNum_len l[i]
  have hx := ih (i + 1) (acc ++ putNum l[i]) (by omega) (by rw [List.length_append]; omega)
  rw [List.drop_eq_getElem_cons hi]
  simp only [numsB]
  rw [List.append_assoc] at hx
  refine evSucc ?_
  simp only [impl_rootOf.l0, rd_nat hi]
  simp only [if_pos (show (i : Int) < (l.length : Int) by omega), if_pos (show (0 : Int) ≤ (i : Int) by omega), w64 (show (-9223372036854775808 : Int) ≤ (i : Int) + 1 by omega) (by omega)]
  refine Ev.bind (impl_PutNum_ev _) ?_
  have e : [acc, putNum l[i]].flatten = acc ++ putNum l[i] := by simp
  refine Ev.bind (joined_ev [acc, putNum l[i]] (by simp) (by rw [e, List.length_append]; omega)) ?_
  rw [e]
  exact hx
theorem impl_root_ev (l : List Int) (hl : l.length ≤ 4) : Ev (fun k => impl_rootOf.f k l) (rootR l) := by
 have h := impl_root_l l hl l.length 0 [] (by omega) (by simp)
 rw [List.drop_zero, List.nil_append] at h
 exact h
def leavesR (a : List S44) (b : List S58) : List Int := [sumR a b 0, sumR a b 1, sumR a b 2, sumR a b 3]
def treeR (a : List S44) (b : List S58) : List Int × Int := if okS a b = true then (leavesR a b, rootR (leavesR a b)) else ([], 0)
theorem impl_TreeOf_ev (a : List S44) (b : List S58) (ha : a.length ≤ 2097152) (hb : b.length ≤ 2097152) : Ev (fun k => impl_TreeOf.f k a b) (treeR a b) := by
 simp only [impl_TreeOf.f, treeR]
 refine Ev.bind (impl_StateOk_ev a b ha hb) ?_
 by_cases h : okS a b = true
 ·simp only [if_pos h]
  have step : ∀ (i j : Int) (x : List Int) (z : Int) (r : List Int × Int), i < 4 → -1 ≤ i → j = i + 1 → x.length ≤ 4 → Ev (fun k => impl_TreeOf.l0 k j a b (x ++ [sumR a b i]) z) r → Ev (fun k => impl_TreeOf.l0 k i a b x z) r := by
   intro i j x z r h1 h2 hj hx hv
   subst hj
   refine evSucc ?_
   simp only [impl_TreeOf.l0]
   simp only [if_pos h1, w64 (show (-9223372036854775808 : Int) ≤ i + 1 by omega) (by omega), if_pos (show x.length < 17592186044416 by omega)]
   refine Ev.bind (impl_LeafSum_ev a b i ha hb) ?_
   exact hv
  refine step 0 1 _ _ _ (by omega) (by omega) (by omega) (by simp) ?_
  refine step 1 2 _ _ _ (by omega) (by omega) (by omega) (by simp) ?_
  refine step 2 3 _ _ _ (by omega) (by omega) (by omega) (by simp) ?_
  refine step 3 4 _ _ _ (by omega) (by omega) (by omega) (by simp) ?_
  refine evSucc ?_
  simp only [impl_TreeOf.l0]
  simp only [if_neg (show ¬ (4 : Int) < 4 by omega)]
  refine Ev.bind (impl_root_ev (leavesR a b) (by simp [leavesR])) ?_
  exact evSome _
 ·simp only [if_neg h]; exact evSome _
theorem byte_app {x y : List Int} (h : Byte x) (h' : Byte y) : Byte (x ++ y) := fun z hz => (List.mem_append.1 hz).elim (h z) (h' z)
theorem byte_putN : ∀ (n : Nat), Byte (putN n) := by
 intro n
 induction n using Nat.strongRecOn with
 | _ n ih =>
  rw [putN]
  split
  ·intro x hx
   simp at hx
   omega
  ·intro x hx
   rcases List.mem_cons.1 hx with rfl | hx
   ·omega
   ·exact ih (n / 128) (by omega) x hx
theorem byte_putNum (a : Int) : Byte (putNum a) := by
 unfold putNum
 split
 ·exact byte_putN _
 ·intro x hx; simp at hx
theorem oE_slice (m : List Int) (l : List S44) (a : Int) : oE (sliceI m l) a = if m.contains (leafOf a) = true then oE l a else none := by
 by_cases c : m.contains (leafOf a) = true
 ·rw [if_pos c]; unfold oE; rw [entOf_slice m a c l]
 ·rw [if_neg c]; unfold oE; rw [entOf_noslice m a c l]; simp
theorem flo_noslice (m : List Int) (a : Int) (ha : ¬ m.contains (leafOf a) = true) : ∀ (l : List S58), floOf (sliceF m l) a = 0
 | [] => rfl
 | x :: l => by
  by_cases c : m.contains (leafOf x.f0) = true
  ·rw [sliceF_pos c]
   simp only [floOf]
   rw [if_neg (fun e => ha (by rw [← e]; exact c))]
   exact flo_noslice m a ha l
  ·rw [sliceF_neg c]
   exact flo_noslice m a ha l
theorem contains_snoc (m : List Int) (q z : Int) : (m ++ [q]).contains z = (m.contains z || decide (z = q)) := by
 simp
theorem join_slices {a : List S44} {b : List S58} (h : okS a b = true) {m : List Int} {q : Int} (hq : ¬ m.contains q = true) : joinS (sliceI m a) (sliceF m b) (sliceI [q] a) (sliceF [q] b) = (sliceI (m ++ [q]) a, sliceF (m ++ [q]) b) := by
 have o1 := ok_slice m h
 have o2 := ok_slice [q] h
 have o3 := ok_slice (m ++ [q]) h
 have f0 : ∀ j, jF (floOf b j) 0 = floOf b j := fun j => by have := (okP_of h j).2; unfold jF maxI; split <;> omega
 have f1 : ∀ j, jF 0 (floOf b j) = floOf b j := fun j => by have := (okP_of h j).2; unfold jF maxI; split <;> omega
 have e0 : ∀ j, jE (oE a j) none (floOf b j) = oE a j := fun j => jE_le (okP_of h j).2.1 (okP_zero (okP_of h) j) (fun v hv => ((okP_of h j).1 v hv).2)
 have c1 : ∀ z : Int, ([q] : List Int).contains z = decide (z = q) := fun z => by simp
 have hh := ok_ext (join_ok o1 o2) o3 (fun j h0 h4 => ?_) (fun j h0 h4 => ?_)
 ·exact Prod.ext hh.1 hh.2
 ·rw [join_E h0 h4, oE_slice, oE_slice, oE_slice, contains_snoc]
  by_cases c : m.contains (leafOf j) = true
  ·have n : ¬ leafOf j = q := fun e => hq (by rw [← e]; exact c)
   rw [flo_slice m j c b, flo_noslice [q] j (by rw [c1, decide_eq_false n]; simp) b, f0, if_pos c, if_neg (by rw [c1, decide_eq_false n]; simp), if_pos (by rw [c]; rfl)]
   exact e0 j
  ·rw [flo_noslice m j c b, if_neg c]
   by_cases n : leafOf j = q
   ·rw [flo_slice [q] j (by rw [c1, decide_eq_true n]) b, f1, if_pos (by rw [c1, decide_eq_true n]), if_pos (by rw [decide_eq_true n, Bool.or_true]), jE_comm]
    exact e0 j
   ·rw [flo_noslice [q] j (by rw [c1, decide_eq_false n]; simp) b, if_neg (by rw [c1, decide_eq_false n]; simp), if_neg (by rw [decide_eq_false n, Bool.or_false]; exact c)]
    rfl
 ·rw [join_F o1 o2 h0 h4]
  by_cases c : m.contains (leafOf j) = true
  ·have n : ¬ leafOf j = q := fun e => hq (by rw [← e]; exact c)
   rw [flo_slice m j c b, flo_noslice [q] j (by rw [c1, decide_eq_false n]; simp) b, f0, flo_slice (m ++ [q]) j (by rw [contains_snoc, c]; rfl) b]
  ·rw [flo_noslice m j c b]
   by_cases n : leafOf j = q
   ·rw [flo_slice [q] j (by rw [c1, decide_eq_true n]) b, f1, flo_slice (m ++ [q]) j (by rw [contains_snoc, decide_eq_true n, Bool.or_true]) b]
   ·rw [flo_noslice [q] j (by rw [c1, decide_eq_false n]; simp) b, flo_noslice (m ++ [q]) j (by rw [contains_snoc, decide_eq_false n, Bool.or_false]; exact c) b]
    rfl
theorem four_in {q : Int} (h : 0 ≤ q ∧ q ≤ 4) : ([0, 1, 2, 3] : List Int).contains (leafOf q) = true := by
 obtain ⟨q0, q3⟩ := leafOf_in h.1 h.2
 rcases (show leafOf q = 0 ∨ leafOf q = 1 ∨ leafOf q = 2 ∨ leafOf q = 3 by omega) with e | e | e | e <;> rw [e] <;> rfl
theorem slice_all {a : List S44} {b : List S58} (h : okS a b = true) : sliceI [0, 1, 2, 3] a = a ∧ sliceF [0, 1, 2, 3] b = b := by
 simp only [okS, Bool.and_eq_true] at h
 constructor
 ·exact List.filter_eq_self.2 fun x hx => four_in (okI_mem b a none h.1 x hx).1
 ·exact List.filter_eq_self.2 fun x hx => four_in (okF_mem b none h.2 x hx).1
theorem slice_none (a : List S44) (b : List S58) : sliceI [] a = [] ∧ sliceF [] b = [] := by
 constructor
 ·exact List.filter_eq_nil_iff.2 fun x _ => by simp
 ·exact List.filter_eq_nil_iff.2 fun x _ => by simp
theorem byte_text (s : ByteArray) : Byte (putText s) := by
 unfold putText
 refine byte_app (byte_putNum _) fun x hx => ?_
 unfold bytesOf at hx
 obtain ⟨c, _, rfl⟩ := List.mem_map.1 hx
 have := c.toNat_lt
 exact ⟨by omega, by omega⟩
theorem byte_itemsB : ∀ l : List S44, Byte (itemsB l)
 | [] => fun x hx => by simp [itemsB] at hx
 | x :: l => byte_app (byte_app (byte_putNum _) (byte_app (byte_putNum _) (byte_app (byte_putNum _) (byte_app (byte_putNum _) (byte_app (byte_putNum _) (byte_text _)))))) (byte_itemsB l)
theorem byte_floorsB : ∀ l : List S58, Byte (floorsB l)
 | [] => fun x hx => by simp [floorsB] at hx
 | x :: l => byte_app (byte_app (byte_putNum _) (byte_putNum _)) (byte_floorsB l)
theorem byte_stateB (a : List S44) (b : List S58) : Byte (stateB a b) := byte_app (byte_putNum _) (byte_app (byte_itemsB a) (byte_app (byte_putNum _) (byte_floorsB b)))
theorem nums_back : ∀ {l : List Int}, Byte l → (strOfNums l).data.toList.map (fun c => (c.toNat : Int)) = l := by
 intro l h
 have e : (strOfNums l).data.toList = l.map (fun x => UInt8.ofNat x.toNat) := by simp [strOfNums]
 rw [e, List.map_map]
 refine (List.map_congr_left fun x hx => ?_).trans (List.map_id l)
 obtain ⟨h0, h1⟩ := h x hx
 show ((UInt8.ofNat x.toNat).toNat : Int) = x
 rw [UInt8.toNat_ofNat']
 omega
theorem nums_inj {l l' : List Int} (h : Byte l) (h' : Byte l') (e : (strOfNums l).toList = (strOfNums l').toList) : l = l' := by
 rw [Lib.toList_data, Lib.toList_data] at e
 rw [← nums_back h, ← nums_back h', e]
theorem big_eq (l : List Int) : laws_big.f l = some (decide ((l.length : Int) > 1048576)) := rfl
theorem leaves_l (b : List Int) (hb : b.length ≤ 140737488351232) (n : Int) (hn : n < 4) : ∀ (d i : Nat) (m : List Int) (p h : Int), n ≤ (i : Int) + d → m.length ≤ i → i ≤ 4 → 0 ≤ p → p ≤ (b.length : Int) → ∃ m' p' h', Ev (fun k => spec_l6Leaves.l0 k m n (i : Int) b p h) (m', p', h') ∧ m'.length ≤ 4 := by
 intro d
 induction d with
 | zero =>
  intro i m p h hi hm h4 p0 p1
  exact ⟨m, p, h, evRet fun k => by simp only [spec_l6Leaves.l0]; rw [if_neg (by omega)], by omega⟩
 | succ d ih =>
  intro i m p h hi hm h4 p0 p1
  by_cases c : (i : Int) < n
  ·obtain ⟨q, p2, k2, e2, _, _, c2, d2⟩ := below_ok b hb p h 6 p0 p1 (by omega) (by omega)
   obtain ⟨m', p', h', hv, hl⟩ := ih (i + 1) (m ++ [wrap64 (q - 1)]) p2 k2 (by omega) (by simp; omega) (by omega) c2 d2
   refine ⟨m', p', h', evSucc ?_, hl⟩
   simp only [spec_l6Leaves.l0]
   simp only [if_pos c, e2, Option.bind_some, if_pos (show m.length < 17592186044416 by omega), w64 (show (-9223372036854775808 : Int) ≤ (i : Int) + 1 by omega) (by omega)]
   exact hv
  ·exact ⟨m, p, h, evRet fun k => by simp only [spec_l6Leaves.l0]; rw [if_neg c], by omega⟩
theorem drawSlice_ok (b : List Int) (hb : b.length ≤ 140737488351232) : ∃ x y m, Ev (fun k => spec_DrawSlice.f k b) (x, y, m) ∧ x.length ≤ 6 ∧ y.length ≤ 6 ∧ m.length ≤ 4 := by
 obtain ⟨h0, e0⟩ := l1New_ok b hb
 obtain ⟨x, y, i1, k1, e1, l1, m1, c1, d1⟩ := l3Draw_ok b hb 0 h0 (by omega) (by omega)
 obtain ⟨n, i2, k2, e2, n0, n1, c2, d2⟩ := below_ok b hb i1 k1 4 c1 d1 (by omega) (by omega)
 obtain ⟨m, p, h, hv, hl⟩ := leaves_l b hb n n1 4 0 [] i2 k2 (by omega) (by simp) (by omega) c2 d2
 refine ⟨x, y, m, ?_, l1, m1, hl⟩
 have hL : Ev (fun k => spec_l6Leaves.f k b i1 k1) (m, p, h) := by
  simp only [spec_l6Leaves.f, e2, Option.bind_some]
  exact hv
 simp only [spec_DrawSlice.f]
 refine Ev.bind e0 ?_
 refine Ev.bind e1 ?_
 refine Ev.bind hL ?_
 exact evSome _
section
variable {a : List S44} {b : List S58} {t u : List S44} {t' u' : List S58}
theorem slices_end (ho : okS a b = true) (i : Int) (x y : List Int) (xr yr : Int) : Ev (fun k => laws_FnSlices.j2 k i false a b a b t t' u u' x xr y yr) true := by
 have hl := ok_len ho
 refine evSucc ?_
 simp only [laws_FnSlices.j2, Bool.false_eq_true, if_false]
 refine Ev.bind (impl_StateSame_ev a a b b (by omega) (by omega)) ?_
 simp only [sameS_self, if_true]
 refine Ev.bind (impl_TreeOf_ev a b (by omega) (by omega)) ?_
 have e : treeR a b = (leavesR a b, rootR (leavesR a b)) := if_pos ho
 rw [e]
 exact evSome _
theorem slices_l1 (ho : okS a b = true) (ht : okS t t' = true) (hu : okS u u' = true) (xr yr : Int) : ∀ (d i : Nat), i + d = 4 → Ev (fun k => laws_FnSlices.l1 k (i : Int) a b a b t t' u u' (leavesR t t') xr (leavesR u u') yr) true := by
 have lt := ok_len ht
 have lu := ok_len hu
 have e4 : (leavesR t t').length = 4 := rfl
 have f4 : (leavesR u u').length = 4 := rfl
 intro d
 induction d with
 | zero =>
  intro i h
  refine evSucc ?_
  simp only [laws_FnSlices.l1, e4]
  simp only [if_neg (show ¬ (i : Int) < ((4 : Nat) : Int) by omega)]
  exact slices_end ho _ _ _ _ _
 | succ d ih =>
  intro i h
  have hx := ih (i + 1) (by omega)
  have hi : (i : Int) < ((4 : Nat) : Int) := by omega
  have hw : wrap64 ((i : Int) + 1) = ((i + 1 : Nat) : Int) := by rw [w64 (by omega) (by omega)]; omega
  have s1 : sliceR t t' [(i : Int)] = (sliceI [(i : Int)] t, sliceF [(i : Int)] t') := if_pos ht
  have s2 : sliceR u u' [(i : Int)] = (sliceI [(i : Int)] u, sliceF [(i : Int)] u') := if_pos hu
  have o1 := ok_slice [(i : Int)] ht
  have o2 := ok_slice [(i : Int)] hu
  have n1 := ok_len o1
  have n2 := ok_len o2
  have b1 : bytesR (sliceI [(i : Int)] t) (sliceF [(i : Int)] t') = stateB (sliceI [(i : Int)] t) (sliceF [(i : Int)] t') := if_pos o1
  have b2 : bytesR (sliceI [(i : Int)] u) (sliceF [(i : Int)] u') = stateB (sliceI [(i : Int)] u) (sliceF [(i : Int)] u') := if_pos o2
  refine evSucc ?_
  simp only [laws_FnSlices.l1, e4, f4]
  simp only [if_pos hi, decide_eq_true hi]
  refine evSucc ?_
  simp only [laws_FnSlices.j2, if_true]
  refine Ev.bind (impl_Slice_ev t t' [(i : Int)] (by omega) (by omega) (by simp)) ?_
  rw [s1]
  refine Ev.bind (impl_StateBytes_ev (sliceI [(i : Int)] t) (sliceF [(i : Int)] t') (by omega) (by omega)) ?_
  refine Ev.bind (impl_Slice_ev u u' [(i : Int)] (by omega) (by omega) (by simp)) ?_
  rw [s2]
  refine Ev.bind (impl_StateBytes_ev (sliceI [(i : Int)] u) (sliceF [(i : Int)] u') (by omega) (by omega)) ?_
  rw [b1, b2, hw]
  by_cases c : (strOfNums (stateB (sliceI [(i : Int)] t) (sliceF [(i : Int)] t'))).toList = (strOfNums (stateB (sliceI [(i : Int)] u) (sliceF [(i : Int)] u'))).toList
  ·have hs := nums_inj (byte_stateB _ _) (byte_stateB _ _) c
   have hr : rd (leavesR t t') (i : Int) = rd (leavesR u u') (i : Int) := by
    have q : sumR t t' (i : Int) = sumR u u' (i : Int) := by unfold sumR; rw [ht, hu, hs]
    rcases (show i = 0 ∨ i = 1 ∨ i = 2 ∨ i = 3 by omega) with rfl | rfl | rfl | rfl <;> exact q
   simp only [if_pos c, e4, f4, if_pos (show (0 : Int) ≤ (i : Int) by omega), if_pos hi, if_pos hr]
   exact hx
  ·simp only [if_neg c]
   exact hx
theorem slices_step (ho : okS a b = true) (l : List Int) {m : List Int} {i j : Int} (hm : ¬ m.contains i = true) (h0 : 0 ≤ i) (h4 : i < 4) (hj : j = i + 1) (h : Ev (fun k => laws_FnSlices.l0 k l j a b (sliceI (m ++ [i]) a) (sliceF (m ++ [i]) b)) true) : Ev (fun k => laws_FnSlices.l0 k l i a b (sliceI m a) (sliceF m b)) true := by
 have hl := ok_len ho
 have o1 := ok_slice m ho
 have o2 := ok_slice [i] ho
 have n1 := ok_len o1
 have n2 := ok_len o2
 have s1 : sliceR a b [i] = (sliceI [i] a, sliceF [i] b) := if_pos ho
 refine evSucc ?_
 simp only [laws_FnSlices.l0]
 simp only [if_pos h4, w64 (show (-9223372036854775808 : Int) ≤ i + 1 by omega) (by omega)]
 refine Ev.bind (impl_Slice_ev a b [i] (by omega) (by omega) (by simp)) ?_
 rw [s1]
 refine Ev.bind (impl_StateJoin_ev (sliceI m a) (sliceF m b) (sliceI [i] a) (sliceF [i] b) (by omega) (by omega) (by omega) (by omega)) ?_
 rw [joinO_ok o1 o2, join_slices ho hm, ← hj]
 exact h
theorem slices_l0 (ho : okS a b = true) (l : List Int) (hb : l.length ≤ 140737488351232) : Ev (fun k => laws_FnSlices.l0 k l 0 a b [] []) true := by
 have z := slices_step ho l (m := []) (i := 0) (j := 1) (by simp) (by omega) (by omega) (by omega)
 rw [(slice_none a b).1, (slice_none a b).2] at z
 refine z ?_
 refine slices_step ho l (m := [0]) (j := 2) (by simp) (by omega) (by omega) (by omega) ?_
 refine slices_step ho l (m := [0, 1]) (j := 3) (by simp) (by omega) (by omega) (by omega) ?_
 refine slices_step ho l (m := [0, 1, 2]) (j := 4) (by simp) (by omega) (by omega) (by omega) ?_
 rw [show ([0, 1, 2] ++ [3] : List Int) = [0, 1, 2, 3] from rfl, (slice_all ho).1, (slice_all ho).2]
 obtain ⟨t, t', u, u', hd, l1, l2, l3, l4⟩ := l3Two_ok l hb
 have hd2 : Ev (fun k => spec_DrawStateJoin.f k l) (t, t', u, u') := by
  simp only [spec_DrawStateJoin.f]
  refine Ev.bind hd ?_
  exact evSome _
 refine evSucc ?_
 simp only [laws_FnSlices.l0]
 simp only [if_neg (show ¬ (4 : Int) < 4 by omega)]
 refine Ev.bind hd2 ?_
 refine Ev.bind (impl_TreeOf_ev t t' (by omega) (by omega)) ?_
 refine Ev.bind (impl_TreeOf_ev u u' (by omega) (by omega)) ?_
 by_cases ht : okS t t' = true
 ·have e1 : treeR t t' = (leavesR t t', rootR (leavesR t t')) := if_pos ht
  by_cases hu : okS u u' = true
  ·have e2 : treeR u u' = (leavesR u u', rootR (leavesR u u')) := if_pos hu
   rw [e1, e2]
   exact slices_l1 ho ht hu _ _ 4 0 (by omega)
  ·have e2 : treeR u u' = ([], 0) := if_neg hu
   rw [e1, e2]
   refine evSucc ?_
   simp only [laws_FnSlices.l1, List.length_nil]
   simp only [decide_eq_false (show ¬ (0 : Int) < ((0 : Nat) : Int) by omega), ite_self]
   exact slices_end ho _ _ _ _ _
 ·have e1 : treeR t t' = ([], 0) := if_neg ht
  rw [e1]
  refine evSucc ?_
  simp only [laws_FnSlices.l1, List.length_nil]
  simp only [if_neg (show ¬ (0 : Int) < ((0 : Nat) : Int) by omega)]
  exact slices_end ho _ _ _ _ _
end
theorem FnSlices : laws_FnSlices.Pure := by
 intro l hl hl2 _
 apply Ev.rounds
 have hb : l.length ≤ 140737488351232 := by omega
 simp only [laws_FnSlices.f, big_eq, Option.bind_some]
 by_cases hbig : (l.length : Int) > 1048576
 ·simp only [decide_eq_true hbig, if_true]; exact evSome _
 simp only [decide_eq_false hbig, Bool.false_eq_true, if_false]
 obtain ⟨x, y, m, hd, l1, l2, l3⟩ := drawSlice_ok l hb
 have hs := sliceR_len x y m
 refine Ev.bind hd ?_
 refine Ev.bind (impl_Slice_ev x y m (by omega) (by omega) (by omega)) ?_
 refine Ev.bind (spec_Slice_ev x y m (by omega) (by omega) (by omega)) ?_
 refine Ev.bind (spec_StateSame_ev _ _ _ _ (by omega) (by omega)) ?_
 simp only [sameS_self, if_true]
 refine Ev.bind (spec_StateOk_ev x y (by omega) (by omega)) ?_
 by_cases ho : okS x y = true
 ·simp only [if_pos ho]
  exact slices_l0 ho l hb
 ·simp only [if_neg ho]
  refine Ev.bind (impl_StateBytes_ev x y (by omega) (by omega)) ?_
  have e1 : bytesR x y = [] := if_neg ho
  have e2 : treeR x y = ([], 0) := if_neg ho
  rw [e1]
  simp only [List.length_nil, if_pos (show ((0 : Nat) : Int) = 0 from rfl)]
  refine Ev.bind (impl_TreeOf_ev x y (by omega) (by omega)) ?_
  rw [e2]
  exact evSome _
end Go.Proofs.Ytnmofppbijmhoaa.Pure
