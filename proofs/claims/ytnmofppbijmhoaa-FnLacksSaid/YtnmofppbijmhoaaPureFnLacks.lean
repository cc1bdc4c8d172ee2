/- What the law FnLacks computes is true for every code: the join with what is lacking is the join with all. No condition. -/
import Derived.Shelf.Small.Strs
import Derived.Test.YtnmofppbijmhoaaPlFnLacks
namespace Go.Proofs.Ytnmofppbijmhoaa.Pure
open Go.RowKit Go.Proofs.Ytnmofppbijmhoaa.P Go.Proofs.YtnmofppbijmhoaaW.PrintWords Go.Proofs.YtnmofppbijmhoaaW.PrintLast
set_option linter.unusedVariables false
set_option linter.unusedSimpArgs false
theorem w64 {n : Int} (h0 : -9223372036854775808 ≤ n) (h1 : n ≤ 9223372036854775807) : wrap64 n = n := by
 unfold wrap64; omega
theorem evSome {α : Type} (r : α) : Ev (fun _ => some r) r := Ev.now r
theorem evEq {α : Type} {g f : Nat → Option α} {r : α} (k : Ev f r) (h : ∀ k, g k = f k) : Ev g r := Ev.congr h k
theorem evStep {α : Type} {g f : Nat → Option α} {r : α} (k : Ev f r) (h : ∀ k, g (k + 1) = f k) : Ev g r := Ev.step h k
theorem evRet {α : Type} {g : Nat → Option α} {r : α} (h : ∀ k, g (k + 1) = some r) : Ev g r := Ev.step h (Ev.now r)
theorem rd_nat {l : List Int} {i : Nat} (h : i < l.length) : rd l (i : Int) = l[i] := by
 unfold rd; simp [List.getD_eq_getElem?_getD, h]
theorem evSucc {α : Type} {g : Nat → Option α} {r : α} (h : Ev (fun k => g (k + 1)) r) : Ev g r := Ev.step (f := fun k => g (k + 1)) (fun _ => rfl) h
theorem rdI {l : List S44} {i : Nat} (h : i < l.length) : rd_T44 l (i : Int) = l[i] := by
 unfold rd_T44; simp [List.getD_eq_getElem?_getD, h]
theorem rdF {l : List S58} {i : Nat} (h : i < l.length) : rd_T58 l (i : Int) = l[i] := by
 unfold rd_T58; simp [List.getD_eq_getElem?_getD, h]
def entOf : List S44 → Int → Int × Int × Int × Int × ByteArray × Bool
 | [], _ => (0, 0, 0, 0, (⟨#[]⟩ : ByteArray), false)
 | x :: r, a => if x.f0 = a then (x.f1.f0, x.f1.f1, x.f1.f2, x.f1.f3, x.f1.f4, true) else entOf r a
theorem spec_EntryOf_l (l : List S44) (fl : List S58) (a : Int) (hl : l.length ≤ 2097152) : ∀ (d i : Nat), i + d = l.length → Ev (fun k => spec_EntryOf.l0 k a (i : Int) l fl) (entOf (l.drop i) a) := by
 intro d
 induction d with
 | zero =>
  intro i h
  rw [List.drop_eq_nil_of_le (by omega)]
  exact evRet fun k => by simp only [spec_EntryOf.l0]; rw [if_neg (by omega)]; rfl
 | succ d ih =>
  intro i h
  have hi : i < l.length := by omega
  rw [List.drop_eq_getElem_cons hi]
  by_cases he : l[i].f0 = a
  ·refine evRet fun k => ?_
   simp only [spec_EntryOf.l0, entOf]
   rw [if_pos (by omega), if_pos (by omega), rdI hi, if_pos he, if_pos he]
  ·have := ih (i + 1) (by omega)
   simp only [entOf]
   rw [if_neg he]
   refine evStep this fun k => ?_
   simp only [spec_EntryOf.l0]
   rw [if_pos (by omega), if_pos (by omega), rdI hi, if_neg he, w64 (by omega) (by omega)]
   rfl
theorem spec_EntryOf_ev (l : List S44) (fl : List S58) (a : Int) (hl : l.length ≤ 2097152) : Ev (fun k => spec_EntryOf.f k l fl a) (entOf l a) :=
 evEq (spec_EntryOf_l l fl a hl l.length 0 (by omega)) fun k => rfl
theorem impl_EntryOf_l (l : List S44) (a : Int) (hl : l.length ≤ 2097152) : ∀ (d i : Nat), i + d = l.length → Ev (fun k => impl_EntryOf.l0 k a l (l.length : Int) (i : Int)) (entOf (l.drop i) a) := by
 intro d
 induction d with
 | zero =>
  intro i h
  rw [List.drop_eq_nil_of_le (by omega)]
  exact evRet fun k => by simp only [impl_EntryOf.l0]; rw [if_neg (by omega)]; rfl
 | succ d ih =>
  intro i h
  have hi : i < l.length := by omega
  rw [List.drop_eq_getElem_cons hi]
  by_cases he : l[i].f0 = a
  ·refine evRet fun k => ?_
   simp only [impl_EntryOf.l0, entOf]
   rw [if_pos (by omega), if_pos (by omega), if_pos (by omega), rdI hi, if_pos he, if_pos he]
  ·have := ih (i + 1) (by omega)
   simp only [entOf]
   rw [if_neg he]
   refine evStep this fun k => ?_
   simp only [impl_EntryOf.l0]
   rw [if_pos (by omega), if_pos (by omega), if_pos (by omega), rdI hi, if_neg he, w64 (by omega) (by omega)]
   rfl
theorem impl_EntryOf_ev (l : List S44) (fl : List S58) (a : Int) (hl : l.length ≤ 2097152) : Ev (fun k => impl_EntryOf.f k l fl a) (entOf l a) :=
 evEq (impl_EntryOf_l l a hl l.length 0 (by omega)) fun k => rfl
def floOf : List S58 → Int → Int
 | [], _ => 0
 | x :: r, a => if x.f0 = a then x.f1 else floOf r a
theorem spec_FloorOf_l (l : List S58) (il : List S44) (a : Int) (hl : l.length ≤ 2097152) : ∀ (d i : Nat), i + d = l.length → Ev (fun k => spec_FloorOf.l0 k a (i : Int) il l) (floOf (l.drop i) a) := by
 intro d
 induction d with
 | zero =>
  intro i h
  rw [List.drop_eq_nil_of_le (by omega)]
  exact evRet fun k => by simp only [spec_FloorOf.l0]; rw [if_neg (by omega)]; rfl
 | succ d ih =>
  intro i h
  have hi : i < l.length := by omega
  rw [List.drop_eq_getElem_cons hi]
  by_cases he : l[i].f0 = a
  ·refine evRet fun k => ?_
   simp only [spec_FloorOf.l0, floOf]
   rw [if_pos (by omega), if_pos (by omega), rdF hi, if_pos he, if_pos he]
  ·have := ih (i + 1) (by omega)
   simp only [floOf]
   rw [if_neg he]
   refine evStep this fun k => ?_
   simp only [spec_FloorOf.l0]
   rw [if_pos (by omega), if_pos (by omega), rdF hi, if_neg he, w64 (by omega) (by omega)]
   rfl
theorem spec_FloorOf_ev (l : List S58) (il : List S44) (a : Int) (hl : l.length ≤ 2097152) : Ev (fun k => spec_FloorOf.f k il l a) (floOf l a) :=
 evEq (spec_FloorOf_l l il a hl l.length 0 (by omega)) fun k => rfl
theorem impl_FloorOf_l (l : List S58) (a : Int) (hl : l.length ≤ 2097152) : ∀ (d i : Nat), i + d = l.length → Ev (fun k => impl_FloorOf.l0 k a l (l.length : Int) (i : Int)) (floOf (l.drop i) a) := by
 intro d
 induction d with
 | zero =>
  intro i h
  rw [List.drop_eq_nil_of_le (by omega)]
  exact evRet fun k => by simp only [impl_FloorOf.l0]; rw [if_neg (by omega)]; rfl
 | succ d ih =>
  intro i h
  have hi : i < l.length := by omega
  rw [List.drop_eq_getElem_cons hi]
  by_cases he : l[i].f0 = a
  ·refine evRet fun k => ?_
   simp only [impl_FloorOf.l0, floOf]
   rw [if_pos (by omega), if_pos (by omega), if_pos (by omega), rdF hi, if_pos he, if_pos he]
  ·have := ih (i + 1) (by omega)
   simp only [floOf]
   rw [if_neg he]
   refine evStep this fun k => ?_
   simp only [impl_FloorOf.l0]
   rw [if_pos (by omega), if_pos (by omega), if_pos (by omega), rdF hi, if_neg he, w64 (by omega) (by omega)]
   rfl
theorem impl_FloorOf_ev (l : List S58) (il : List S44) (a : Int) (hl : l.length ≤ 2097152) : Ev (fun k => impl_FloorOf.f k il l a) (floOf l a) :=
 evEq (impl_FloorOf_l l a hl l.length 0 (by omega)) fun k => rfl
theorem spec_l1In_eq (a b c : Int) : spec_l1In.f a b c = some (decide (b ≤ a ∧ a ≤ c)) := by
 unfold spec_l1In.f
 by_cases h : a ≥ b
 ·rw [if_pos h]; simp [show b ≤ a from h]
 ·rw [if_neg h]; simp [show ¬ b ≤ a from h]
theorem impl_within_eq (a b c : Int) : impl_within.f a b c = some (decide (b ≤ a ∧ a ≤ c)) := by
 unfold impl_within.f
 by_cases h : a ≥ b
 ·rw [if_pos h]; simp [show b ≤ a from h]
 ·rw [if_neg h]; simp [show ¬ b ≤ a from h]
def entryOkB (i r b v : Int) (s : ByteArray) : Bool := decide (1 ≤ i ∧ i ≤ 1000) && (decide (0 ≤ r ∧ r ≤ 1) && (decide (0 ≤ b ∧ b ≤ 100000) && (decide (0 ≤ v ∧ v ≤ 1000) && decide ((s.size : Int) ≤ 8))))
theorem ite_some {b c : Bool} : (if b = true then some c else some false) = some (b && c) := by cases b <;> rfl
theorem spec_EntryOk_eq (i r b v : Int) (s : ByteArray) : spec_EntryOk.f i r b v s = some (entryOkB i r b v s) := by
 simp only [spec_EntryOk.f, spec_l1In_eq, Option.bind_some, ite_some, entryOkB]
theorem impl_EntryOk_eq (i r b v : Int) (s : ByteArray) : impl_EntryOk.f i r b v s = some (entryOkB i r b v s) := by
 simp only [impl_EntryOk.f, impl_within_eq, Option.bind_some, ite_some, entryOkB]
def nodeB (a : Int) : Bool := decide (0 ≤ a ∧ a ≤ 4)
def okI (b : List S58) : Option Int → List S44 → Bool
 | _, [] => true
 | p, x :: r => nodeB x.f0 && (!(match p with | none => false | some q => decide (x.f0 ≤ q)) && (entryOkB x.f1.f0 x.f1.f1 x.f1.f2 x.f1.f3 x.f1.f4 && (!(decide (x.f1.f0 ≤ floOf b x.f0)) && okI b (some x.f0) r)))
def okF : Option Int → List S58 → Bool
 | _, [] => true
 | p, x :: r => nodeB x.f0 && (!(match p with | none => false | some q => decide (x.f0 ≤ q)) && (decide (1 ≤ x.f1 ∧ x.f1 ≤ 1000) && okF (some x.f0) r))
def okS (a : List S44) (b : List S58) : Bool := okI b none a && okF none b
def prevI (a : List S44) : Nat → Option Int
 | 0 => none
 | i + 1 => (a[i]?).map (·.f0)
def prevF (a : List S58) : Nat → Option Int
 | 0 => none
 | i + 1 => (a[i]?).map (·.f0)
theorem spec_l3Node_eq (a : Int) : spec_l3Node.f a = some (nodeB a) := by
 simp only [spec_l3Node.f, spec_l1In_eq, Option.bind_some, nodeB]
theorem impl_isNode_eq (a : Int) : impl_isNode.f a = some (nodeB a) := by
 simp only [impl_isNode.f, impl_within_eq, Option.bind_some, nodeB]
theorem spec_Ok_l1 (a : List S44) (b : List S58) (hb : b.length ≤ 2097152) : ∀ (m i : Nat), i + m = b.length → Ev (fun k => spec_StateOk.l1 k (i : Int) a b) (okF (prevF b i) (b.drop i)) := by
 intro m
 induction m with
 | zero =>
  intro i h
  rw [List.drop_eq_nil_of_le (by omega)]
  exact evRet fun k => by simp only [spec_StateOk.l1]; rw [if_neg (by omega)]; simp only [okF]
 | succ m ih =>
  intro i h
  have hi : i < b.length := by omega
  have hx := ih (i + 1) (by omega)
  rw [List.drop_eq_getElem_cons hi]
  simp only [okF]
  refine evSucc ?_
  simp only [spec_StateOk.l1, rdF hi, spec_l3Node_eq, spec_l1In_eq, Option.bind_some]
  simp only [if_pos (show (i : Int) < (b.length : Int) by omega), if_pos (show (0 : Int) ≤ (i : Int) by omega), w64 (show (-9223372036854775808 : Int) ≤ (i : Int) + 1 by omega) (by omega)]
  have hp : prevF b (i + 1) = some b[i].f0 := by simp [prevF, hi]
  rw [hp] at hx
  by_cases c1 : nodeB b[i].f0 = true
  ·simp only [if_pos c1]
   simp only [c1, Bool.true_and]
   cases i with
   | zero =>
    simp only [if_neg (show ¬ ((0 : Nat) : Int) > 0 by omega), prevF, Bool.not_false, Bool.true_and]
    by_cases c3 : decide ((1 : Int) ≤ b[0].f1 ∧ b[0].f1 ≤ 1000) = true
    ·simp only [if_pos c3]; simp only [c3, Bool.true_and]; exact hx
    ·simp only [if_neg c3]; simp only [Bool.not_eq_true] at c3; simp only [c3, Bool.false_and]; exact evSome _
   | succ j =>
    have hj : j < b.length := by omega
    have e1 : (((j + 1 : Nat) : Int)) - 1 = (j : Int) := by omega
    simp only [if_pos (show ((j + 1 : Nat) : Int) > 0 by omega), e1, w64 (show (-9223372036854775808 : Int) ≤ (j : Int) by omega) (by omega), if_pos (show (0 : Int) ≤ (j : Int) by omega), if_pos (show (j : Int) < (b.length : Int) by omega), rdF hj]
    have hp2 : prevF b (j + 1) = some b[j].f0 := by simp [prevF, hj]
    simp only [hp2]
    by_cases c2 : b[j + 1].f0 ≤ b[j].f0
    ·simp only [if_pos c2, decide_eq_true c2, Bool.not_true, Bool.false_and]; exact evSome _
    ·simp only [if_neg c2, decide_eq_false c2, Bool.not_false, Bool.true_and]
     by_cases c3 : decide (1 ≤ b[j + 1].f1 ∧ b[j + 1].f1 ≤ 1000) = true
     ·simp only [if_pos c3]; simp only [c3, Bool.true_and]; exact hx
     ·simp only [if_neg c3]; simp only [Bool.not_eq_true] at c3; simp only [c3, Bool.false_and]; exact evSome _
  ·simp only [if_neg c1]; simp only [Bool.not_eq_true] at c1; simp only [c1, Bool.false_and]; exact evSome _
theorem spec_Ok_l0 (a : List S44) (b : List S58) (ha : a.length ≤ 2097152) (hb : b.length ≤ 2097152) : ∀ (m i : Nat), i + m = a.length → Ev (fun k => spec_StateOk.l0 k (i : Int) a b) (okI b (prevI a i) (a.drop i) && okF none b) := by
 intro m
 induction m with
 | zero =>
  intro i h
  rw [List.drop_eq_nil_of_le (by omega)]
  refine evSucc ?_
  simp only [spec_StateOk.l0]
  simp only [if_neg (show ¬ (i : Int) < (a.length : Int) by omega)]
  simpa [okI, prevF] using spec_Ok_l1 a b hb b.length 0 (by omega)
 | succ m ih =>
  intro i h
  have hi : i < a.length := by omega
  have hx := ih (i + 1) (by omega)
  rw [List.drop_eq_getElem_cons hi]
  simp only [okI]
  refine evSucc ?_
  simp only [spec_StateOk.l0, rdI hi, spec_l3Node_eq, spec_EntryOk_eq, Option.bind_some]
  simp only [if_pos (show (i : Int) < (a.length : Int) by omega), if_pos (show (0 : Int) ≤ (i : Int) by omega), w64 (show (-9223372036854775808 : Int) ≤ (i : Int) + 1 by omega) (by omega)]
  have hp : prevI a (i + 1) = some a[i].f0 := by simp [prevI, hi]
  rw [hp] at hx
  have tail : Ev (fun k => if entryOkB a[i].f1.f0 a[i].f1.f1 a[i].f1.f2 a[i].f1.f3 a[i].f1.f4 = true then ((spec_FloorOf.f k a b a[i].f0).bind fun t => if a[i].f1.f0 ≤ t then some false else spec_StateOk.l0 k ((i : Int) + 1) a b) else some false)
    ((entryOkB a[i].f1.f0 a[i].f1.f1 a[i].f1.f2 a[i].f1.f3 a[i].f1.f4 && (!(decide (a[i].f1.f0 ≤ floOf b a[i].f0)) && okI b (some a[i].f0) (a.drop (i + 1)))) && okF none b) := by
   by_cases c1 : entryOkB a[i].f1.f0 a[i].f1.f1 a[i].f1.f2 a[i].f1.f3 a[i].f1.f4 = true
   ·simp only [if_pos c1]
    simp only [c1, Bool.true_and]
    refine Ev.bind (spec_FloorOf_ev b a a[i].f0 hb) ?_
    by_cases c2 : a[i].f1.f0 ≤ floOf b a[i].f0
    ·simp only [if_pos c2, decide_eq_true c2, Bool.not_true, Bool.false_and]; exact evSome _
    ·simp only [if_neg c2, decide_eq_false c2, Bool.not_false, Bool.true_and]; exact hx
   ·simp only [if_neg c1]; simp only [Bool.not_eq_true] at c1; simp only [c1, Bool.false_and]; exact evSome _
  by_cases c1 : nodeB a[i].f0 = true
  ·simp only [if_pos c1]
   simp only [c1, Bool.true_and]
   cases i with
   | zero =>
    simp only [if_neg (show ¬ ((0 : Nat) : Int) > 0 by omega), prevI, Bool.not_false, Bool.true_and]
    exact tail
   | succ j =>
    have hj : j < a.length := by omega
    have e1 : (((j + 1 : Nat) : Int)) - 1 = (j : Int) := by omega
    simp only [if_pos (show ((j + 1 : Nat) : Int) > 0 by omega), e1, w64 (show (-9223372036854775808 : Int) ≤ (j : Int) by omega) (by omega), if_pos (show (0 : Int) ≤ (j : Int) by omega), if_pos (show (j : Int) < (a.length : Int) by omega), rdI hj]
    have hp2 : prevI a (j + 1) = some a[j].f0 := by simp [prevI, hj]
    simp only [hp2]
    by_cases c2 : a[j + 1].f0 ≤ a[j].f0
    ·simp only [if_pos c2, decide_eq_true c2, Bool.not_true, Bool.false_and]; exact evSome _
    ·simp only [if_neg c2, decide_eq_false c2, Bool.not_false, Bool.true_and]
     exact tail
  ·simp only [if_neg c1]; simp only [Bool.not_eq_true] at c1; simp only [c1, Bool.false_and]; exact evSome _
theorem spec_StateOk_ev (a : List S44) (b : List S58) (ha : a.length ≤ 2097152) (hb : b.length ≤ 2097152) : Ev (fun k => spec_StateOk.f k a b) (okS a b) := by
 have := spec_Ok_l0 a b ha hb a.length 0 (by omega)
 simpa [spec_StateOk.f, okS, prevI] using this
theorem impl_Ok_l1 (a : List S44) (b : List S58) (ha : a.length ≤ 2097152) (hb : b.length ≤ 2097152) : ∀ (m i : Nat), i + m = a.length → Ev (fun k => impl_StateOk.l1 k a (a.length : Int) (i : Int) a b) (okI b (prevI a i) (a.drop i)) := by
 intro m
 induction m with
 | zero =>
  intro i h
  rw [List.drop_eq_nil_of_le (by omega)]
  exact evRet fun k => by simp only [impl_StateOk.l1]; rw [if_neg (by omega)]; simp only [okI]
 | succ m ih =>
  intro i h
  have hi : i < a.length := by omega
  have hx := ih (i + 1) (by omega)
  rw [List.drop_eq_getElem_cons hi]
  simp only [okI]
  refine evSucc ?_
  simp only [impl_StateOk.l1, rdI hi, impl_isNode_eq, impl_EntryOk_eq, Option.bind_some]
  simp only [if_pos (show (i : Int) < (a.length : Int) by omega), if_pos (show (0 : Int) ≤ (i : Int) by omega), w64 (show (-9223372036854775808 : Int) ≤ (i : Int) + 1 by omega) (by omega)]
  have hp : prevI a (i + 1) = some a[i].f0 := by simp [prevI, hi]
  rw [hp] at hx
  by_cases c1 : nodeB a[i].f0 = true
  ·simp only [if_pos c1]
   simp only [c1, Bool.true_and]
   by_cases c2 : entryOkB a[i].f1.f0 a[i].f1.f1 a[i].f1.f2 a[i].f1.f3 a[i].f1.f4 = true
   ·simp only [if_pos c2]
    simp only [c2, Bool.true_and]
    refine Ev.bind (impl_FloorOf_ev b a a[i].f0 hb) ?_
    by_cases c3 : a[i].f1.f0 ≤ floOf b a[i].f0
    ·simp only [if_pos c3, decide_eq_true c3, Bool.not_true, Bool.false_and, Bool.and_false]; exact evSome _
    ·simp only [if_neg c3, decide_eq_false c3, Bool.not_false, Bool.true_and]
     cases i with
     | zero =>
      simp only [if_neg (show ¬ ((0 : Nat) : Int) > 0 by omega), prevI, Bool.not_false, Bool.true_and]
      exact hx
     | succ j =>
      have hj : j < a.length := by omega
      have e1 : (((j + 1 : Nat) : Int)) - 1 = (j : Int) := by omega
      simp only [if_pos (show ((j + 1 : Nat) : Int) > 0 by omega), e1, w64 (show (-9223372036854775808 : Int) ≤ (j : Int) by omega) (by omega), if_pos (show (0 : Int) ≤ (j : Int) by omega), if_pos (show (j : Int) < (a.length : Int) by omega), rdI hj]
      have hp2 : prevI a (j + 1) = some a[j].f0 := by simp [prevI, hj]
      simp only [hp2]
      by_cases c4 : a[j + 1].f0 ≤ a[j].f0
      ·simp only [if_pos (show a[j].f0 ≥ a[j + 1].f0 from c4), decide_eq_true c4, Bool.not_true, Bool.false_and]; exact evSome _
      ·simp only [if_neg (show ¬ a[j].f0 ≥ a[j + 1].f0 from c4), decide_eq_false c4, Bool.not_false, Bool.true_and]
       exact hx
   ·simp only [if_neg c2]; simp only [Bool.not_eq_true] at c2; simp only [c2, Bool.false_and, Bool.and_false]; exact evSome _
  ·simp only [if_neg c1]; simp only [Bool.not_eq_true] at c1; simp only [c1, Bool.false_and]; exact evSome _
theorem impl_Ok_l0 (a : List S44) (b : List S58) (ha : a.length ≤ 2097152) (hb : b.length ≤ 2097152) : ∀ (m i : Nat), i + m = b.length → Ev (fun k => impl_StateOk.l0 k b (b.length : Int) (i : Int) a b) (okF (prevF b i) (b.drop i) && okI b none a) := by
 intro m
 induction m with
 | zero =>
  intro i h
  rw [List.drop_eq_nil_of_le (by omega)]
  refine evSucc ?_
  simp only [impl_StateOk.l0]
  simp only [if_neg (show ¬ (i : Int) < (b.length : Int) by omega)]
  simpa [okF, prevI] using impl_Ok_l1 a b ha hb a.length 0 (by omega)
 | succ m ih =>
  intro i h
  have hi : i < b.length := by omega
  have hx := ih (i + 1) (by omega)
  rw [List.drop_eq_getElem_cons hi]
  simp only [okF]
  refine evSucc ?_
  simp only [impl_StateOk.l0, rdF hi, impl_isNode_eq, impl_within_eq, Option.bind_some]
  simp only [if_pos (show (i : Int) < (b.length : Int) by omega), if_pos (show (0 : Int) ≤ (i : Int) by omega), w64 (show (-9223372036854775808 : Int) ≤ (i : Int) + 1 by omega) (by omega)]
  have hp : prevF b (i + 1) = some b[i].f0 := by simp [prevF, hi]
  rw [hp] at hx
  by_cases c1 : nodeB b[i].f0 = true
  ·simp only [if_pos c1]
   simp only [c1, Bool.true_and]
   by_cases c3 : decide (1 ≤ b[i].f1 ∧ b[i].f1 ≤ 1000) = true
   ·simp only [if_pos c3]; simp only [c3, Bool.true_and]
    cases i with
    | zero =>
     simp only [if_neg (show ¬ ((0 : Nat) : Int) > 0 by omega), prevF, Bool.not_false, Bool.true_and]
     exact hx
    | succ j =>
     have hj : j < b.length := by omega
     have e1 : (((j + 1 : Nat) : Int)) - 1 = (j : Int) := by omega
     simp only [if_pos (show ((j + 1 : Nat) : Int) > 0 by omega), e1, w64 (show (-9223372036854775808 : Int) ≤ (j : Int) by omega) (by omega), if_pos (show (0 : Int) ≤ (j : Int) by omega), if_pos (show (j : Int) < (b.length : Int) by omega), rdF hj]
     have hp2 : prevF b (j + 1) = some b[j].f0 := by simp [prevF, hj]
     simp only [hp2]
     by_cases c2 : b[j + 1].f0 ≤ b[j].f0
     ·simp only [if_pos (show b[j].f0 ≥ b[j + 1].f0 from c2), decide_eq_true c2, Bool.not_true, Bool.false_and]; exact evSome _
     ·simp only [if_neg (show ¬ b[j].f0 ≥ b[j + 1].f0 from c2), decide_eq_false c2, Bool.not_false, Bool.true_and]
      exact hx
   ·simp only [if_neg c3]; simp only [Bool.not_eq_true] at c3; simp only [c3, Bool.false_and, Bool.and_false]; exact evSome _
  ·simp only [if_neg c1]; simp only [Bool.not_eq_true] at c1; simp only [c1, Bool.false_and]; exact evSome _
theorem impl_StateOk_ev (a : List S44) (b : List S58) (ha : a.length ≤ 2097152) (hb : b.length ≤ 2097152) : Ev (fun k => impl_StateOk.f k a b) (okS a b) := by
 have := impl_Ok_l0 a b ha hb b.length 0 (by omega)
 rw [Bool.and_comm] at this
 simpa [impl_StateOk.f, okS, prevF] using this
def sameI : List S44 → List S44 → Bool
 | [], _ => true
 | _ :: _, [] => true
 | x :: r, y :: q => if (!((x.f0 == y.f0)) || ((!((x.f1.f0 == y.f1.f0)) || (!((x.f1.f1 == y.f1.f1)) || (!((x.f1.f2 == y.f1.f2)) || (!((x.f1.f3 == y.f1.f3)) || (!((x.f1.f4.toList == y.f1.f4.toList))))))))) = true then false else sameI r q
def sameF : List S58 → List S58 → Bool
 | [], _ => true
 | _ :: _, [] => true
 | x :: r, y :: q => if (!((x.f0 == y.f0)) || (!((x.f1 == y.f1)))) = true then false else sameF r q
def sameS (a : List S44) (b : List S58) (c : List S44) (d : List S58) : Bool :=
 decide (a.length = c.length) && (decide (b.length = d.length) && (sameI a c && sameF b d))
theorem spec_Same_l1 (a c : List S44) (b d : List S58) (hl : b.length = d.length) (hb : b.length ≤ 2097152) : ∀ (m i : Nat), i + m = b.length → Ev (fun k => spec_StateSame.l1 k (i : Int) a b c d) (sameF (b.drop i) (d.drop i)) := by
 intro m
 induction m with
 | zero =>
  intro i h
  rw [List.drop_eq_nil_of_le (by omega)]
  exact evRet fun k => by simp only [spec_StateSame.l1]; rw [if_neg (by omega)]; rfl
 | succ m ih =>
  intro i h
  have hi : i < b.length := by omega
  have hj : i < d.length := by omega
  have := ih (i + 1) (by omega)
  rw [List.drop_eq_getElem_cons hi, List.drop_eq_getElem_cons hj]
  simp only [sameF]
  refine evSucc ?_
  simp only [spec_StateSame.l1, rdF hi, rdF hj]
  simp only [if_pos (show (i : Int) < (b.length : Int) by omega), if_pos (show (0 : Int) ≤ (i : Int) by omega), if_pos (show (i : Int) < (d.length : Int) by omega), w64 (show (-9223372036854775808 : Int) ≤ (i : Int) + 1 by omega) (by omega)]
  split
  ·exact evSome _
  ·exact this
theorem spec_Same_l0 (a c : List S44) (b d : List S58) (hl : b.length = d.length) (hb : b.length ≤ 2097152) (hl2 : a.length = c.length) (ha : a.length ≤ 2097152) : ∀ (m i : Nat), i + m = a.length → Ev (fun k => spec_StateSame.l0 k (i : Int) a b c d) (sameI (a.drop i) (c.drop i) && sameF b d) := by
 intro m
 induction m with
 | zero =>
  intro i h
  rw [List.drop_eq_nil_of_le (by omega)]
  refine evSucc ?_
  simp only [spec_StateSame.l0]
  simp only [if_neg (show ¬ (i : Int) < (a.length : Int) by omega)]
  simpa [sameI] using spec_Same_l1 a c b d hl hb b.length 0 (by omega)
 | succ m ih =>
  intro i h
  have hi : i < a.length := by omega
  have hj : i < c.length := by omega
  have := ih (i + 1) (by omega)
  rw [List.drop_eq_getElem_cons hi, List.drop_eq_getElem_cons hj]
  simp only [sameI]
  refine evSucc ?_
  simp only [spec_StateSame.l0, rdI hi, rdI hj]
  simp only [if_pos (show (i : Int) < (a.length : Int) by omega), if_pos (show (0 : Int) ≤ (i : Int) by omega), if_pos (show (i : Int) < (c.length : Int) by omega), w64 (show (-9223372036854775808 : Int) ≤ (i : Int) + 1 by omega) (by omega)]
  split
  ·exact evSome _
  ·exact this
theorem spec_StateSame_ev (a c : List S44) (b d : List S58) (ha : a.length ≤ 2097152) (hb : b.length ≤ 2097152) : Ev (fun k => spec_StateSame.f k a b c d) (sameS a b c d) := by
 simp only [spec_StateSame.f]
 by_cases h1 : a.length = c.length
 ·simp only [if_pos (show (a.length : Int) = (c.length : Int) by omega)]
  refine evSucc ?_
  simp only [spec_StateSame.j0]
  by_cases h2 : b.length = d.length
  ·have := spec_Same_l0 a c b d h2 hb h1 ha a.length 0 (by omega)
   simpa [sameS, h1, h2] using this
  ·have : ((b.length : Int) != (d.length : Int)) = true := by simp; omega
   simp only [this, if_true]
   have e : sameS a b c d = false := by simp [sameS, h2]
   rw [e]; exact evSome _
 ·simp only [if_neg (show ¬ (a.length : Int) = (c.length : Int) by omega)]
  refine evSucc ?_
  simp only [spec_StateSame.j0, if_true]
  have e : sameS a b c d = false := by simp [sameS, h1]
  rw [e]; exact evSome _
theorem impl_Item_l0 (a c : List S44) (hl2 : a.length = c.length) (ha : a.length ≤ 2097152) : ∀ (m i : Nat), i + m = a.length → Ev (fun k => impl_Item.l0 k a c (a.length : Int) (i : Int)) (sameI (a.drop i) (c.drop i)) := by
 intro m
 induction m with
 | zero =>
  intro i h
  rw [List.drop_eq_nil_of_le (by omega)]
  refine evSucc ?_
  simp only [impl_Item.l0]
  simp only [if_neg (show ¬ (i : Int) < (a.length : Int) by omega)]
  exact evSome _
 | succ m ih =>
  intro i h
  have hi : i < a.length := by omega
  have hj : i < c.length := by omega
  have := ih (i + 1) (by omega)
  rw [List.drop_eq_getElem_cons hi, List.drop_eq_getElem_cons hj]
  simp only [sameI]
  refine evSucc ?_
  simp only [impl_Item.l0, rdI hi, rdI hj]
  simp only [if_pos (show (i : Int) < (a.length : Int) by omega), if_pos (show (0 : Int) ≤ (i : Int) by omega), if_pos (show (i : Int) < (c.length : Int) by omega), w64 (show (-9223372036854775808 : Int) ≤ (i : Int) + 1 by omega) (by omega)]
  split
  ·exact evSome _
  ·exact this
theorem impl_Floor_l0 (b d : List S58) (hl2 : b.length = d.length) (hb : b.length ≤ 2097152) : ∀ (m i : Nat), i + m = b.length → Ev (fun k => impl_Floor.l0 k b d (b.length : Int) (i : Int)) (sameF (b.drop i) (d.drop i)) := by
 intro m
 induction m with
 | zero =>
  intro i h
  rw [List.drop_eq_nil_of_le (by omega)]
  refine evSucc ?_
  simp only [impl_Floor.l0]
  simp only [if_neg (show ¬ (i : Int) < (b.length : Int) by omega)]
  exact evSome _
 | succ m ih =>
  intro i h
  have hi : i < b.length := by omega
  have hj : i < d.length := by omega
  have := ih (i + 1) (by omega)
  rw [List.drop_eq_getElem_cons hi, List.drop_eq_getElem_cons hj]
  simp only [sameF]
  refine evSucc ?_
  simp only [impl_Floor.l0, rdF hi, rdF hj]
  simp only [if_pos (show (i : Int) < (b.length : Int) by omega), if_pos (show (0 : Int) ≤ (i : Int) by omega), if_pos (show (i : Int) < (d.length : Int) by omega), w64 (show (-9223372036854775808 : Int) ≤ (i : Int) + 1 by omega) (by omega)]
  split
  ·exact evSome _
  ·exact this
theorem impl_Item_ev (a c : List S44) (ha : a.length ≤ 2097152) : Ev (fun k => impl_Item.f k a c) (decide (a.length = c.length) && sameI a c) := by
 simp only [impl_Item.f]
 by_cases h1 : a.length = c.length
 ·simp only [if_pos (show (a.length : Int) = (c.length : Int) by omega)]
  have := impl_Item_l0 a c h1 ha a.length 0 (by omega)
  simpa [h1] using this
 ·simp only [if_neg (show ¬ (a.length : Int) = (c.length : Int) by omega)]
  simp only [h1, decide_false, Bool.false_and]; exact evSome _
theorem impl_Floor_ev (b d : List S58) (hb : b.length ≤ 2097152) : Ev (fun k => impl_Floor.f k b d) (decide (b.length = d.length) && sameF b d) := by
 simp only [impl_Floor.f]
 by_cases h1 : b.length = d.length
 ·simp only [if_pos (show (b.length : Int) = (d.length : Int) by omega)]
  have := impl_Floor_l0 b d h1 hb b.length 0 (by omega)
  simpa [h1] using this
 ·simp only [if_neg (show ¬ (b.length : Int) = (d.length : Int) by omega)]
  simp only [h1, decide_false, Bool.false_and]; exact evSome _
theorem impl_StateSame_ev (a c : List S44) (b d : List S58) (ha : a.length ≤ 2097152) (hb : b.length ≤ 2097152) : Ev (fun k => impl_StateSame.f k a b c d) (sameS a b c d) := by
 simp only [impl_StateSame.f]
 refine Ev.bind (impl_Item_ev a c ha) ?_
 by_cases h1 : (decide (a.length = c.length) && sameI a c) = true
 ·simp only [if_pos h1]
  refine Ev.bind (impl_Floor_ev b d hb) ?_
  have e : sameS a b c d = (decide (b.length = d.length) && sameF b d) := by
   simp only [Bool.and_eq_true, decide_eq_true_eq] at h1
   simp [sameS, h1.1, h1.2]
  rw [e]; exact evSome _
 ·simp only [if_neg h1]
  have e : sameS a b c d = false := by
   simp only [sameS]
   cases hd : decide (a.length = c.length) <;> cases hi : sameI a c <;> simp_all
  rw [e]; exact evSome _
def cmpI (a b : Int) : Int := if a < b then -1 else if a > b then 1 else 0
def nz : List Int → Int → Int
 | [], t => t
 | x :: r, t => if x = 0 then nz r t else x
def ecmp (a0 a1 a2 a3 : Int) (a4 : ByteArray) (b0 b1 b2 b3 : Int) (b4 : ByteArray) : Int := nz [cmpI a0 b0, cmpI a1 b1, cmpI a2 b2, cmpI a3 b3] (Lib.compareBytes a4.data.toList b4.data.toList)
theorem u8_lt_or (a b : UInt8) : a < b ∨ a = b ∨ b < a := by
 rcases Nat.lt_trichotomy a.toNat b.toNat with h | h | h
 ·exact .inl (UInt8.lt_iff_toNat_lt.2 h)
 ·exact .inr (.inl (UInt8.toNat_inj.1 h))
 ·exact .inr (.inr (UInt8.lt_iff_toNat_lt.2 h))
theorem u8_irrefl (a : UInt8) : ¬ a < a := fun h => Nat.lt_irrefl _ (UInt8.lt_iff_toNat_lt.1 h)
theorem u8_asymm {a b : UInt8} (h : a < b) : ¬ b < a := fun h2 => Nat.lt_asymm (UInt8.lt_iff_toNat_lt.1 h) (UInt8.lt_iff_toNat_lt.1 h2)
theorem cmpB_eq : ∀ (x y : List UInt8), Lib.compareBytes x y = if Op.bytesLess x y = true then -1 else if (!(x == y)) = true then 1 else 0
 | [], [] => by simp [Lib.compareBytes, Op.bytesLess]
 | [], b :: q => by simp [Lib.compareBytes, Op.bytesLess]
 | a :: p, [] => by simp [Lib.compareBytes, Op.bytesLess]
 | a :: p, b :: q => by
  unfold Lib.compareBytes Op.bytesLess
  rw [cmpB_eq p q]
  rcases u8_lt_or a b with h | h | h
  ·simp [h]
  ·subst h; simp [u8_irrefl]
  ·have h1 := u8_asymm h
   have h2 : a ≠ b := fun e => by subst e; exact u8_irrefl _ h
   simp [h, h1, h2]
theorem spec_l2Cmp_eq (a b : Int) : spec_l2Cmp.f a b = some (cmpI a b) := by
 simp only [spec_l2Cmp.f, spec_l1Bit.f, cmpI]
 by_cases h : a < b
 ·rw [if_pos h, if_pos h]
 ·rw [if_neg h, if_neg h]
  by_cases h2 : a > b
  ·simp [h2]
  ·simp [h2]
theorem cmp_Compare_eq (a b : Int) : cmp_Compare_int.f a b = some (cmpI a b) := by
 simp only [cmp_Compare_int.f, cmp_isNaN_int.f, cmpI, Option.bind_some, bne_self_eq_false]
 by_cases h : a < b
 ·simp [h]
 ·by_cases h2 : a > b
  ·simp [h, h2]
  ·simp [h, h2]
theorem cmp_Or_l (l : List Int) (hl : l.length ≤ 1099511627776) : ∀ (d i : Nat), i + d = l.length → Ev (fun k => cmp_Or_int.l0 k 0 l (l.length : Int) (i : Int)) (nz (l.drop i) 0) := by
 intro d
 induction d with
 | zero =>
  intro i h
  rw [List.drop_eq_nil_of_le (by omega)]
  exact evRet fun k => by simp only [cmp_Or_int.l0]; rw [if_neg (by omega)]; rfl
 | succ d ih =>
  intro i h
  have hi : i < l.length := by omega
  rw [List.drop_eq_getElem_cons hi]
  by_cases hz : l[i] = 0
  ·have := ih (i + 1) (by omega)
   refine evStep (by simpa only [nz, if_pos hz] using this) fun k => ?_
   simp only [cmp_Or_int.l0]
   rw [if_pos (by omega), if_pos (by omega), if_pos (by omega), rd_nat hi, if_pos hz, w64 (by omega) (by omega)]
   rfl
  ·refine evRet fun k => ?_
   simp only [cmp_Or_int.l0]
   rw [if_pos (by omega), if_pos (by omega), if_pos (by omega), rd_nat hi, if_neg hz]
   simp only [nz, if_neg hz]
theorem cmp_Or_ev (l : List Int) (hl : l.length ≤ 1099511627776) : Ev (fun k => cmp_Or_int.f k l) (nz l 0) :=
 evEq (cmp_Or_l l hl l.length 0 (by omega)) fun k => rfl
theorem nz_snoc (t : Int) : ∀ (l : List Int), nz (l ++ [t]) 0 = nz l t
 | [] => by simp only [List.nil_append, nz]; split <;> simp_all
 | x :: r => by simp only [List.cons_append, nz, nz_snoc t r]
theorem impl_EntryCmp_ev (a0 a1 a2 a3 : Int) (a4 : ByteArray) (b0 b1 b2 b3 : Int) (b4 : ByteArray) : Ev (fun k => impl_EntryCmp.f k a0 a1 a2 a3 a4 b0 b1 b2 b3 b4) (ecmp a0 a1 a2 a3 a4 b0 b1 b2 b3 b4) := by
 simp only [impl_EntryCmp.f, cmp_Compare_eq, strings_Compare.f, Option.bind_some]
 refine Ev.bind (cmp_Or_ev _ (by simp)) ?_
 have : nz [cmpI a0 b0, cmpI a1 b1, cmpI a2 b2, cmpI a3 b3, Lib.compareBytes a4.data.toList b4.data.toList] 0 = ecmp a0 a1 a2 a3 a4 b0 b1 b2 b3 b4 := nz_snoc (Lib.compareBytes a4.data.toList b4.data.toList) [cmpI a0 b0, cmpI a1 b1, cmpI a2 b2, cmpI a3 b3]
 rw [this]
 exact evSome _
theorem spec_EntryCmp_l (l : List Int) (hl : l.length ≤ 1099511627776) (a0 a1 a2 a3 : Int) (a4 : ByteArray) (b0 b1 b2 b3 : Int) (b4 : ByteArray) : ∀ (d i : Nat), i + d = l.length →
  Ev (fun k => spec_EntryCmp.l0 k l (i : Int) a0 a1 a2 a3 a4 b0 b1 b2 b3 b4) (nz (l.drop i) (Lib.compareBytes a4.data.toList b4.data.toList)) := by
 intro d
 induction d with
 | zero =>
  intro i h
  rw [List.drop_eq_nil_of_le (by omega)]
  refine evRet fun k => ?_
  simp only [spec_EntryCmp.l0]
  rw [if_neg (by omega)]
  simp only [nz, cmpB_eq, Lib.toList_data, spec_l1Bit.f]
  by_cases h1 : Op.bytesLess a4.data.toList b4.data.toList = true
  ·rw [if_pos h1, if_pos h1]
  ·rw [if_neg h1, if_neg h1]
   split <;> rfl
 | succ d ih =>
  intro i h
  have hi : i < l.length := by omega
  rw [List.drop_eq_getElem_cons hi]
  by_cases hz : l[i] = 0
  ·have := ih (i + 1) (by omega)
   refine evStep (by simpa only [nz, if_pos hz] using this) fun k => ?_
   simp only [spec_EntryCmp.l0]
   rw [if_pos (by omega), if_pos (by omega), rd_nat hi, if_pos hz, w64 (by omega) (by omega)]
   rfl
  ·refine evRet fun k => ?_
   simp only [spec_EntryCmp.l0]
   rw [if_pos (by omega), if_pos (by omega), rd_nat hi, if_neg hz]
   simp only [nz, if_neg hz]
theorem spec_EntryCmp_ev (a0 a1 a2 a3 : Int) (a4 : ByteArray) (b0 b1 b2 b3 : Int) (b4 : ByteArray) : Ev (fun k => spec_EntryCmp.f k a0 a1 a2 a3 a4 b0 b1 b2 b3 b4) (ecmp a0 a1 a2 a3 a4 b0 b1 b2 b3 b4) := by
 simp only [spec_EntryCmp.f, spec_l2Cmp_eq, Option.bind_some]
 exact spec_EntryCmp_l [cmpI a0 b0, cmpI a1 b1, cmpI a2 b2, cmpI a3 b3] (by simp) a0 a1 a2 a3 a4 b0 b1 b2 b3 b4 4 0 (by simp)
abbrev EntT := Int × Int × Int × Int × ByteArray × Bool
theorem cmpI_neg (a b : Int) : cmpI b a = - cmpI a b := by
 unfold cmpI
 by_cases h : a < b
 ·simp [h, show ¬ b < a by omega]
 ·by_cases h2 : b < a
  ·simp [h, h2]
  ·simp [h, h2]
theorem cmpBytes_neg : ∀ (x y : List UInt8), Lib.compareBytes y x = - Lib.compareBytes x y
 | [], [] => by simp [Lib.compareBytes]
 | [], b :: q => by simp [Lib.compareBytes]
 | a :: p, [] => by simp [Lib.compareBytes]
 | a :: p, b :: q => by
  unfold Lib.compareBytes
  rw [cmpBytes_neg p q]
  rcases u8_lt_or a b with h | h | h
  ·have h1 := u8_asymm h
   have h2 : a ≠ b := fun e => by subst e; exact u8_irrefl _ h
   simp [h, h1, h2, h2.symm]
  ·subst h; simp [u8_irrefl]
  ·have h1 := u8_asymm h
   have h2 : a ≠ b := fun e => by subst e; exact u8_irrefl _ h
   simp [h, h1, h2, h2.symm]
theorem ecmp_neg (a0 a1 a2 a3 : Int) (a4 : ByteArray) (b0 b1 b2 b3 : Int) (b4 : ByteArray) : ecmp b0 b1 b2 b3 b4 a0 a1 a2 a3 a4 = - ecmp a0 a1 a2 a3 a4 b0 b1 b2 b3 b4 := by
 simp only [ecmp, nz, cmpI_neg a0 b0, cmpI_neg a1 b1, cmpI_neg a2 b2, cmpI_neg a3 b3, cmpBytes_neg a4.data.toList b4.data.toList, Int.neg_eq_zero]
 repeat (split <;> try rfl)
theorem ent_inc (b : List S58) (a : Int) : ∀ (l : List S44) (p : Option Int), okI b p l = true → (entOf l a).2.2.2.2.2 = true → 1 ≤ (entOf l a).1
 | [], _, _, h => by simp [entOf] at h
 | x :: r, p, h, h2 => by
  simp only [okI, Bool.and_eq_true] at h
  obtain ⟨_, _, h3, _, h4⟩ := h
  simp only [entOf] at h2 ⊢
  by_cases e : x.f0 = a
  ·rw [if_pos e]
   simp only [entryOkB, Bool.and_eq_true, decide_eq_true_eq] at h3
   exact h3.1.1
  ·rw [if_neg e] at h2 ⊢
   exact ent_inc b a r (some x.f0) h4 h2
theorem ent_none (a : Int) : ∀ (l : List S44), ¬ (entOf l a).2.2.2.2.2 = true → entOf l a = (0, 0, 0, 0, (⟨#[]⟩ : ByteArray), false)
 | [], _ => rfl
 | x :: r, h => by
  simp only [entOf] at h ⊢
  by_cases e : x.f0 = a
  ·rw [if_pos e] at h; exact absurd rfl h
  ·rw [if_neg e] at h ⊢
   exact ent_none a r h
theorem flo_nonneg (a : Int) : ∀ (l : List S58) (p : Option Int), okF p l = true → 0 ≤ floOf l a
 | [], _, _ => by simp [floOf]
 | x :: r, p, h => by
  simp only [okF, Bool.and_eq_true, decide_eq_true_eq] at h
  simp only [floOf]
  split
  ·omega
  ·exact flo_nonneg a r (some x.f0) h.2.2.2
def maxI (a b : Int) : Int := if a > b then a else b
theorem spec_l1Max_eq (a b : Int) : spec_l1Max.f a b = some (maxI a b) := by
 unfold spec_l1Max.f maxI; split <;> rfl
theorem mx_eq (a b : Int) : mx a b = maxI a b := by
 unfold mx maxI; split <;> split <;> omega
def maxE (x y : EntT) : Int × Int × Int × Int × ByteArray :=
 if ecmp x.1 x.2.1 x.2.2.1 x.2.2.2.1 x.2.2.2.2.1 y.1 y.2.1 y.2.2.1 y.2.2.2.1 y.2.2.2.2.1 < 0 then (y.1, y.2.1, y.2.2.1, y.2.2.2.1, y.2.2.2.2.1) else (x.1, x.2.1, x.2.2.1, x.2.2.2.1, x.2.2.2.2.1)
theorem impl_EntryMax_ev (x y : EntT) : Ev (fun k => impl_EntryMax.f k x.1 x.2.1 x.2.2.1 x.2.2.2.1 x.2.2.2.2.1 y.1 y.2.1 y.2.2.1 y.2.2.2.1 y.2.2.2.2.1) (maxE x y) := by
 simp only [impl_EntryMax.f, maxE]
 refine Ev.bind (impl_EntryCmp_ev _ _ _ _ _ _ _ _ _ _) ?_
 split
 ·exact evSome _
 ·exact evSome _
def addI (i fl : Int) (e : Int × Int × Int × Int × ByteArray) : List S44 := if e.1 > fl then [⟨i, ⟨e.1, e.2.1, e.2.2.1, e.2.2.2.1, e.2.2.2.2⟩⟩] else []
def addF (i fl : Int) : List S58 := if fl > 0 then [⟨i, fl⟩] else []
def joinR (a : List S44) (b : List S58) (c : List S44) (e : List S58) : Nat → Int → List S44 → List S58 → List S44 × List S58
 | 0, _, x, y => (x, y)
 | n + 1, i, x, y => joinR a b c e n (i + 1) (x ++ addI i (maxI (floOf b i) (floOf e i)) (maxE (entOf a i) (entOf c i))) (y ++ addF i (maxI (floOf b i) (floOf e i)))
theorem addI_len (i fl : Int) (e : Int × Int × Int × Int × ByteArray) : (addI i fl e).length ≤ 1 := by unfold addI; split <;> simp
theorem addF_len (i fl : Int) : (addF i fl).length ≤ 1 := by unfold addF; split <;> simp
theorem joinR_len (a : List S44) (b : List S58) (c : List S44) (e : List S58) : ∀ (n : Nat) (i : Int) (x : List S44) (y : List S58), (joinR a b c e n i x y).1.length ≤ x.length + n ∧ (joinR a b c e n i x y).2.length ≤ y.length + n
 | 0, _, _, _ => ⟨Nat.le_refl _, Nat.le_refl _⟩
 | n + 1, i, x, y => by
  have h := joinR_len a b c e n (i + 1) (x ++ addI i (maxI (floOf b i) (floOf e i)) (maxE (entOf a i) (entOf c i))) (y ++ addF i (maxI (floOf b i) (floOf e i)))
  have h1 := addI_len i (maxI (floOf b i) (floOf e i)) (maxE (entOf a i) (entOf c i))
  have h2 := addF_len i (maxI (floOf b i) (floOf e i))
  simp only [List.length_append] at h
  simp only [joinR]
  omega
theorem impl_join_l (a : List S44) (b : List S58) (c : List S44) (e : List S58) (ha : a.length ≤ 2097152) (hb : b.length ≤ 2097152) (hc : c.length ≤ 2097152) (he : e.length ≤ 2097152) :
  ∀ (n : Nat) (i : Nat) (x : List S44) (y : List S58), i + n = 5 → x.length ≤ i → y.length ≤ i → Ev (fun k => impl_stateJoin.l0 k (i : Int) a b c e x y) (joinR a b c e n (i : Int) x y) := by
 intro n
 induction n with
 | zero =>
  intro i x y h _ _
  exact evRet fun k => by simp only [impl_stateJoin.l0]; rw [if_neg (by omega)]; rfl
 | succ n ih =>
  intro i x y h hx hy
  have h1 := addI_len i (maxI (floOf b i) (floOf e i)) (maxE (entOf a i) (entOf c i))
  have h2 := addF_len i (maxI (floOf b i) (floOf e i))
  have hr := ih (i + 1) (x ++ addI i (maxI (floOf b i) (floOf e i)) (maxE (entOf a i) (entOf c i))) (y ++ addF i (maxI (floOf b i) (floOf e i))) (by omega) (by rw [List.length_append]; omega) (by rw [List.length_append]; omega)
  simp only [joinR]
  refine evSucc ?_
  simp only [impl_stateJoin.l0, mx_eq]
  simp only [if_pos (show (i : Int) < 5 by omega), w64 (show (-9223372036854775808 : Int) ≤ (i : Int) + 1 by omega) (by omega), if_pos (show x.length < 2513169434916 by omega), if_pos (show y.length < 8796093022208 by omega)]
  refine Ev.bind (impl_EntryOf_ev a b i ha) ?_
  refine Ev.bind (impl_EntryOf_ev c e i hc) ?_
  refine Ev.bind (impl_EntryMax_ev (entOf a i) (entOf c i)) ?_
  refine Ev.bind (impl_FloorOf_ev b a i hb) ?_
  refine Ev.bind (impl_FloorOf_ev e c i he) ?_
  by_cases c1 : (maxE (entOf a i) (entOf c i)).1 > maxI (floOf b i) (floOf e i)
  ·simp only [if_pos c1, Option.bind_some]
   simp only [addI, if_pos c1] at hr ⊢
   by_cases c2 : maxI (floOf b i) (floOf e i) > 0
   ·simp only [if_pos c2]
    simp only [addF, if_pos c2] at hr ⊢
    exact hr
   ·simp only [if_neg c2]
    simp only [addF, if_neg c2, List.append_nil] at hr ⊢
    exact hr
  ·simp only [if_neg c1]
   simp only [addI, if_neg c1, List.append_nil] at hr ⊢
   by_cases c2 : maxI (floOf b i) (floOf e i) > 0
   ·simp only [if_pos c2]
    simp only [addF, if_pos c2] at hr ⊢
    exact hr
   ·simp only [if_neg c2]
    simp only [addF, if_neg c2, List.append_nil] at hr ⊢
    exact hr
def joinS (a : List S44) (b : List S58) (c : List S44) (e : List S58) : List S44 × List S58 := joinR a b c e 5 0 [] []
theorem impl_stateJoin_ev (a : List S44) (b : List S58) (c : List S44) (e : List S58) (ha : a.length ≤ 2097152) (hb : b.length ≤ 2097152) (hc : c.length ≤ 2097152) (he : e.length ≤ 2097152) : Ev (fun k => impl_stateJoin.f k a b c e) (joinS a b c e) :=
 impl_join_l a b c e ha hb hc he 5 0 [] [] (by omega) (by simp) (by simp)
theorem joinS_len (a : List S44) (b : List S58) (c : List S44) (e : List S58) : (joinS a b c e).1.length ≤ 5 ∧ (joinS a b c e).2.length ≤ 5 := by
 have := joinR_len a b c e 5 0 [] []
 simpa [joinS] using this
theorem spec_join_l (a : List S44) (b : List S58) (c : List S44) (e : List S58) (ha : a.length ≤ 2097152) (hb : b.length ≤ 2097152) (hc : c.length ≤ 2097152) (he : e.length ≤ 2097152) (o1 : okS a b = true) (o2 : okS c e = true) :
  ∀ (n : Nat) (i : Nat) (x : List S44) (y : List S58), i + n = 5 → x.length ≤ i → y.length ≤ i → Ev (fun k => spec_l3Join.l0 k (i : Int) a b c e x y) (joinR a b c e n (i : Int) x y) := by
 intro n
 induction n with
 | zero =>
  intro i x y h _ _
  exact evRet fun k => by simp only [spec_l3Join.l0]; rw [if_neg (by omega)]; rfl
 | succ n ih =>
  intro i x y h hx hy
  have h1 := addI_len i (maxI (floOf b i) (floOf e i)) (maxE (entOf a i) (entOf c i))
  have h2 := addF_len i (maxI (floOf b i) (floOf e i))
  have hr := ih (i + 1) (x ++ addI i (maxI (floOf b i) (floOf e i)) (maxE (entOf a i) (entOf c i))) (y ++ addF i (maxI (floOf b i) (floOf e i))) (by omega) (by rw [List.length_append]; omega) (by rw [List.length_append]; omega)
  simp only [okS, Bool.and_eq_true] at o1 o2
  have fa := flo_nonneg i b none o1.2
  have fc := flo_nonneg i e none o2.2
  have hmx : 0 ≤ maxI (floOf b i) (floOf e i) := by unfold maxI; split <;> omega
  have j3 : ∀ (z : Bool) (y' : List S58), (if z = true then ((entOf c i).1, (entOf c i).2.1, (entOf c i).2.2.1, (entOf c i).2.2.2.1, (entOf c i).2.2.2.2.1) else ((entOf a i).1, (entOf a i).2.1, (entOf a i).2.2.1, (entOf a i).2.2.2.1, (entOf a i).2.2.2.2.1)) = maxE (entOf a i) (entOf c i) →
    Ev (fun k => spec_l3Join.l0 k ((i : Int) + 1) a b c e (x ++ addI i (maxI (floOf b i) (floOf e i)) (maxE (entOf a i) (entOf c i))) y') (joinR a b c e n ((i : Int) + 1) (x ++ addI i (maxI (floOf b i) (floOf e i)) (maxE (entOf a i) (entOf c i))) (y ++ addF i (maxI (floOf b i) (floOf e i)))) →
    Ev (fun k => spec_l3Join.j3 k (i : Int) (maxI (floOf b i) (floOf e i)) z a b c e x y' (entOf c i).1 (entOf c i).2.1 (entOf c i).2.2.1 (entOf c i).2.2.2.1 (entOf c i).2.2.2.2.1 (entOf a i).1 (entOf a i).2.1 (entOf a i).2.2.1 (entOf a i).2.2.2.1 (entOf a i).2.2.2.2.1)
     (joinR a b c e n ((i : Int) + 1) (x ++ addI i (maxI (floOf b i) (floOf e i)) (maxE (entOf a i) (entOf c i))) (y ++ addF i (maxI (floOf b i) (floOf e i)))) := by
   intro z y' hz hv
   refine evSucc ?_
   simp only [spec_l3Join.j3]
   simp only [w64 (show (-9223372036854775808 : Int) ≤ (i : Int) + 1 by omega) (by omega), if_pos (show x.length < 2513169434916 by omega)]
   rw [← hz] at hv
   rw [← hz]
   cases z
   ·simp only [Bool.false_eq_true, if_false] at hv ⊢
    by_cases c1 : (entOf a i).1 > maxI (floOf b i) (floOf e i)
    ·simp only [if_pos c1]
     simp only [addI, if_pos c1] at hv ⊢
     exact hv
    ·simp only [if_neg c1]
     simp only [addI, if_neg c1, List.append_nil] at hv ⊢
     exact hv
   ·simp only [if_true] at hv ⊢
    by_cases c1 : (entOf c i).1 > maxI (floOf b i) (floOf e i)
    ·simp only [if_pos c1]
     simp only [addI, if_pos c1] at hv ⊢
     exact hv
    ·simp only [if_neg c1]
     simp only [addI, if_neg c1, List.append_nil] at hv ⊢
     exact hv
  have j1 : ∀ (y' : List S58),
    Ev (fun k => spec_l3Join.l0 k ((i : Int) + 1) a b c e (x ++ addI i (maxI (floOf b i) (floOf e i)) (maxE (entOf a i) (entOf c i))) y') (joinR a b c e n ((i : Int) + 1) (x ++ addI i (maxI (floOf b i) (floOf e i)) (maxE (entOf a i) (entOf c i))) (y ++ addF i (maxI (floOf b i) (floOf e i)))) →
    Ev (fun k => spec_l3Join.j1 k (i : Int) (maxI (floOf b i) (floOf e i)) a b c e x y')
     (joinR a b c e n ((i : Int) + 1) (x ++ addI i (maxI (floOf b i) (floOf e i)) (maxE (entOf a i) (entOf c i))) (y ++ addF i (maxI (floOf b i) (floOf e i)))) := by
   intro y' hv
   refine evSucc ?_
   simp only [spec_l3Join.j1]
   refine Ev.bind (spec_EntryOf_ev a b i ha) ?_
   refine Ev.bind (spec_EntryOf_ev c e i hc) ?_
   by_cases ca : (entOf a i).2.2.2.2.2 = true
   ·simp only [if_pos ca]
    refine evSucc ?_
    simp only [spec_l3Join.j2, Bool.false_eq_true, if_false]
    simp only [if_pos ca]
    have ia := ent_inc b i a none o1.1 ca
    by_cases cc : (entOf c i).2.2.2.2.2 = true
    ·simp only [if_pos cc]
     refine Ev.bind (spec_EntryCmp_ev _ _ _ _ _ _ _ _ _ _) ?_
     refine j3 _ y' ?_ hv
     have hn := ecmp_neg (entOf a i).1 (entOf a i).2.1 (entOf a i).2.2.1 (entOf a i).2.2.2.1 (entOf a i).2.2.2.2.1 (entOf c i).1 (entOf c i).2.1 (entOf c i).2.2.1 (entOf c i).2.2.2.1 (entOf c i).2.2.2.2.1
     unfold maxE
     simp only [decide_eq_true_eq]
     by_cases q : ecmp (entOf a i).1 (entOf a i).2.1 (entOf a i).2.2.1 (entOf a i).2.2.2.1 (entOf a i).2.2.2.2.1 (entOf c i).1 (entOf c i).2.1 (entOf c i).2.2.1 (entOf c i).2.2.2.1 (entOf c i).2.2.2.2.1 < 0
     ·rw [if_pos q, if_pos (by omega)]
     ·rw [if_neg q, if_neg (by omega)]
    ·simp only [if_neg cc]
     refine j3 false y' ?_ hv
     have e0 := ent_none i c cc
     unfold maxE
     rw [e0]
     have q : ¬ ecmp (entOf a i).1 (entOf a i).2.1 (entOf a i).2.2.1 (entOf a i).2.2.2.1 (entOf a i).2.2.2.2.1 0 0 0 0 (⟨#[]⟩ : ByteArray) < 0 := by
      have : cmpI (entOf a i).1 0 = 1 := by unfold cmpI; rw [if_neg (by omega), if_pos (by omega)]
      simp [ecmp, nz, this]
     rw [if_neg q]; rfl
   ·simp only [if_neg ca]
    have e0 := ent_none i a ca
    by_cases cc : (entOf c i).2.2.2.2.2 = true
    ·refine evSucc ?_
     simp only [spec_l3Join.j2, cc, Bool.not_true, Bool.false_eq_true, if_false]
     simp only [if_neg ca]
     refine j3 true y' ?_ hv
     have ic := ent_inc e i c none o2.1 cc
     unfold maxE
     rw [e0]
     have q : ecmp 0 0 0 0 (⟨#[]⟩ : ByteArray) (entOf c i).1 (entOf c i).2.1 (entOf c i).2.2.1 (entOf c i).2.2.2.1 (entOf c i).2.2.2.2.1 < 0 := by
      have : cmpI 0 (entOf c i).1 = -1 := by unfold cmpI; rw [if_pos (by omega)]
      simp [ecmp, nz, this]
     rw [if_pos q]; rfl
    ·have e1 := ent_none i c cc
     have hm : maxE (entOf a i) (entOf c i) = (0, 0, 0, 0, (⟨#[]⟩ : ByteArray)) := by
      rw [e0, e1]; unfold maxE; split <;> rfl
     have hA : addI i (maxI (floOf b i) (floOf e i)) (maxE (entOf a i) (entOf c i)) = [] := by
      rw [hm]; unfold addI; rw [if_neg (by show ¬ (0 : Int) > _; omega)]
     rw [hA, List.append_nil] at hv ⊢
     refine evSucc ?_
     simp only [Bool.not_eq_true] at cc
     simp only [spec_l3Join.j2, cc, Bool.not_false, if_true]
     simp only [w64 (show (-9223372036854775808 : Int) ≤ (i : Int) + 1 by omega) (by omega)]
     exact hv
  simp only [joinR]
  refine evSucc ?_
  simp only [spec_l3Join.l0, spec_l1Max_eq, Option.bind_some]
  simp only [if_pos (show (i : Int) < 5 by omega), if_pos (show y.length < 8796093022208 by omega)]
  refine Ev.bind (spec_FloorOf_ev b a i hb) ?_
  refine Ev.bind (spec_FloorOf_ev e c i he) ?_
  by_cases c2 : maxI (floOf b i) (floOf e i) > 0
  ·simp only [if_pos c2]
   refine j1 _ ?_
   simp only [addF, if_pos c2] at hr ⊢
   exact hr
  ·simp only [if_neg c2]
   refine j1 _ ?_
   simp only [addF, if_neg c2, List.append_nil] at hr ⊢
   exact hr
theorem spec_l3Join_ev (a : List S44) (b : List S58) (c : List S44) (e : List S58) (ha : a.length ≤ 2097152) (hb : b.length ≤ 2097152) (hc : c.length ≤ 2097152) (he : e.length ≤ 2097152) (o1 : okS a b = true) (o2 : okS c e = true) : Ev (fun k => spec_l3Join.f k a b c e) (joinS a b c e) :=
 spec_join_l a b c e ha hb hc he o1 o2 5 0 [] [] (by omega) (by simp) (by simp)
def joinO (a : List S44) (b : List S58) (c : List S44) (e : List S58) : List S44 × List S58 × Bool :=
 if okS a b = true then (if okS c e = true then ((joinS a b c e).1, (joinS a b c e).2, true) else ([], [], false)) else ([], [], false)
theorem impl_StateJoin_ev (a : List S44) (b : List S58) (c : List S44) (e : List S58) (ha : a.length ≤ 2097152) (hb : b.length ≤ 2097152) (hc : c.length ≤ 2097152) (he : e.length ≤ 2097152) : Ev (fun k => impl_StateJoin.f k a b c e) (joinO a b c e) := by
 simp only [impl_StateJoin.f, joinO]
 refine Ev.bind (impl_StateOk_ev a b ha hb) ?_
 by_cases o1 : okS a b = true
 ·simp only [if_pos o1]
  refine Ev.bind (impl_StateOk_ev c e hc he) ?_
  by_cases o2 : okS c e = true
  ·simp only [if_pos o2]
   refine Ev.bind (impl_stateJoin_ev a b c e ha hb hc he) ?_
   exact evSome _
  ·simp only [if_neg o2]; exact evSome _
 ·simp only [if_neg o1]; exact evSome _
abbrev E5 := Int × Int × Int × Int × ByteArray
def ent5 (x : EntT) : E5 := (x.1, x.2.1, x.2.2.1, x.2.2.2.1, x.2.2.2.2.1)
def ec (x y : E5) : Int := ecmp x.1 x.2.1 x.2.2.1 x.2.2.2.1 x.2.2.2.2 y.1 y.2.1 y.2.2.1 y.2.2.2.1 y.2.2.2.2
def mxE (x y : E5) : E5 := if ec x y < 0 then y else x
theorem maxE_eq (x y : EntT) : maxE x y = mxE (ent5 x) (ent5 y) := rfl
theorem cmpI_zero {a b : Int} (h : cmpI a b = 0) : a = b := by
 unfold cmpI at h
 by_cases h1 : a < b
 ·rw [if_pos h1] at h; omega
 ·rw [if_neg h1] at h
  by_cases h2 : a > b
  ·rw [if_pos h2] at h; omega
  ·omega
theorem cmpI_self (a : Int) : cmpI a a = 0 := by unfold cmpI; simp
theorem cmpB_zero : ∀ {x y : List UInt8}, Lib.compareBytes x y = 0 → x = y
 | [], [], _ => rfl
 | [], b :: q, h => by simp [Lib.compareBytes] at h
 | a :: p, [], h => by simp [Lib.compareBytes] at h
 | a :: p, b :: q, h => by
  unfold Lib.compareBytes at h
  rcases u8_lt_or a b with h1 | h1 | h1
  ·simp [h1] at h
  ·subst h1
   simp [u8_irrefl] at h
   rw [cmpB_zero h]
  ·have h2 := u8_asymm h1
   simp [h1, h2] at h
theorem cmpB_self : ∀ (x : List UInt8), Lib.compareBytes x x = 0
 | [] => by simp [Lib.compareBytes]
 | a :: p => by unfold Lib.compareBytes; simp [u8_irrefl, cmpB_self p]
theorem u8_trans {a b c : UInt8} (h : a < b) (h2 : b < c) : a < c := UInt8.lt_iff_toNat_lt.2 (Nat.lt_trans (UInt8.lt_iff_toNat_lt.1 h) (UInt8.lt_iff_toNat_lt.1 h2))
/-- What is less goes on. -/
theorem cmpB_trans : ∀ {x y z : List UInt8}, Lib.compareBytes x y < 0 → Lib.compareBytes y z < 0 → Lib.compareBytes x z < 0
 | [], [], _, h, _ => by simp [Lib.compareBytes] at h
 | [], b :: q, [], _, h => by simp [Lib.compareBytes] at h
 | [], b :: q, c :: r, _, _ => by simp [Lib.compareBytes]
 | a :: p, [], _, h, _ => by simp [Lib.compareBytes] at h
 | a :: p, b :: q, [], _, h => by simp [Lib.compareBytes] at h
 | a :: p, b :: q, c :: r, h, h2 => by
  unfold Lib.compareBytes at h h2 ⊢
  rcases u8_lt_or a b with h1 | h1 | h1
  ·rcases u8_lt_or b c with h3 | h3 | h3
   ·simp [u8_trans h1 h3]
   ·subst h3; simp [h1]
   ·simp [h3, u8_asymm h3] at h2
  ·subst h1
   rcases u8_lt_or a c with h3 | h3 | h3
   ·simp [h3]
   ·subst h3
    simp [u8_irrefl] at h h2 ⊢
    exact cmpB_trans h h2
   ·simp [h3, u8_asymm h3] at h2
  ·simp [h1, u8_asymm h1] at h
theorem ec_unf (x y : E5) : ec x y = if cmpI x.1 y.1 ≠ 0 then cmpI x.1 y.1 else if cmpI x.2.1 y.2.1 ≠ 0 then cmpI x.2.1 y.2.1 else if cmpI x.2.2.1 y.2.2.1 ≠ 0 then cmpI x.2.2.1 y.2.2.1 else if cmpI x.2.2.2.1 y.2.2.2.1 ≠ 0 then cmpI x.2.2.2.1 y.2.2.2.1 else Lib.compareBytes x.2.2.2.2.data.toList y.2.2.2.2.data.toList := by
 unfold ec ecmp
 simp only [nz]
 repeat (first | (split <;> (try simp_all; done)) | rfl)
theorem ec_neg (x y : E5) : ec y x = - ec x y := ecmp_neg _ _ _ _ _ _ _ _ _ _
theorem ec_self (x : E5) : ec x x = 0 := by rw [ec_unf]; simp [cmpI_self, cmpB_self]
theorem bytes_ext {a b : ByteArray} (h : a.data.toList = b.data.toList) : a = b := by
 cases a; cases b
 simp at h
 congr
theorem ec_zero {x y : E5} (h : ec x y = 0) : x = y := by
 rw [ec_unf] at h
 by_cases h1 : cmpI x.1 y.1 = 0
 ·rw [if_neg (by simp [h1])] at h
  by_cases h2 : cmpI x.2.1 y.2.1 = 0
  ·rw [if_neg (by simp [h2])] at h
   by_cases h3 : cmpI x.2.2.1 y.2.2.1 = 0
   ·rw [if_neg (by simp [h3])] at h
    by_cases h4 : cmpI x.2.2.2.1 y.2.2.2.1 = 0
    ·rw [if_neg (by simp [h4])] at h
     have h5 := bytes_ext (cmpB_zero h)
     obtain ⟨a, b, c, d, s⟩ := x
     obtain ⟨a', b', c', d', s'⟩ := y
     simp only at h1 h2 h3 h4 h5
     rw [cmpI_zero h1, cmpI_zero h2, cmpI_zero h3, cmpI_zero h4, h5]
    ·rw [if_pos h4] at h; exact absurd h h4
   ·rw [if_pos h3] at h; exact absurd h h3
  ·rw [if_pos h2] at h; exact absurd h h2
 ·rw [if_pos h1] at h; exact absurd h h1
theorem ec_lt_iff (x y : E5) : ec x y < 0 ↔ (x.1 < y.1 ∨ x.1 = y.1 ∧ (x.2.1 < y.2.1 ∨ x.2.1 = y.2.1 ∧ (x.2.2.1 < y.2.2.1 ∨ x.2.2.1 = y.2.2.1 ∧ (x.2.2.2.1 < y.2.2.2.1 ∨ x.2.2.2.1 = y.2.2.2.1 ∧ Lib.compareBytes x.2.2.2.2.data.toList y.2.2.2.2.data.toList < 0)))) := by
 have key : ∀ (a b : Int) (r : Int) (p : Prop), (r < 0 ↔ p) → ((if cmpI a b ≠ 0 then cmpI a b else r) < 0 ↔ (a < b ∨ a = b ∧ p)) := by
  intro a b r p hp
  unfold cmpI
  by_cases h1 : a < b
  ·simp [h1]
  ·by_cases h2 : a > b
   ·simp [h1, h2]; omega
   ·have e : a = b := by omega
    subst e
    simp [hp]
 rw [ec_unf]
 exact key _ _ _ _ (key _ _ _ _ (key _ _ _ _ (key _ _ _ _ Iff.rfl)))
theorem ec_trans {x y z : E5} (h : ec x y < 0) (h2 : ec y z < 0) : ec x z < 0 := by
 rw [ec_lt_iff] at h h2 ⊢
 rcases h with h | ⟨e1, h⟩
 ·rcases h2 with h2 | ⟨e2, _⟩ <;> left <;> omega
 ·rcases h2 with h2 | ⟨e2, h2⟩
  ·left; omega
  ·right; refine ⟨by omega, ?_⟩
   rcases h with h | ⟨e3, h⟩
   ·rcases h2 with h2 | ⟨e4, _⟩ <;> left <;> omega
   ·rcases h2 with h2 | ⟨e4, h2⟩
    ·left; omega
    ·right; refine ⟨by omega, ?_⟩
     rcases h with h | ⟨e5, h⟩
     ·rcases h2 with h2 | ⟨e6, _⟩ <;> left <;> omega
     ·rcases h2 with h2 | ⟨e6, h2⟩
      ·left; omega
      ·right; refine ⟨by omega, ?_⟩
       rcases h with h | ⟨e7, h⟩
       ·rcases h2 with h2 | ⟨e8, _⟩ <;> left <;> omega
       ·rcases h2 with h2 | ⟨e8, h2⟩
        ·left; omega
        ·right; exact ⟨by omega, cmpB_trans h h2⟩
/-- x is y or behind it. -/
def leE (x y : E5) : Prop := ¬ ec y x < 0
theorem leE_refl (x : E5) : leE x x := by unfold leE; rw [ec_self]; omega
theorem leE_antisymm {x y : E5} (h : leE x y) (h2 : leE y x) : x = y := by
 unfold leE at h h2
 have := ec_neg x y
 exact ec_zero (by omega)
theorem leE_trans {x y z : E5} (h : leE x y) (h2 : leE y z) : leE x z := by
 unfold leE at *
 intro h3
 by_cases h4 : ec y z < 0
 ·exact h (ec_trans h4 h3)
 ·have e : y = z := leE_antisymm (by unfold leE; exact h2) (by unfold leE; exact h4)
  subst e
  exact h h3
theorem leE_inc {x y : E5} (h : leE x y) : x.1 ≤ y.1 := by
 unfold leE at h
 rw [ec_lt_iff] at h
 have : ¬ y.1 < x.1 := fun h1 => h (.inl h1)
 omega
theorem mxE_left (x y : E5) : leE x (mxE x y) := by
 unfold mxE
 split
 ·rename_i h
  unfold leE
  have := ec_neg x y
  omega
 ·exact leE_refl x
theorem mxE_right (x y : E5) : leE y (mxE x y) := by
 unfold mxE
 split
 ·exact leE_refl y
 ·rename_i h; exact h
theorem mxE_or (x y : E5) : mxE x y = x ∨ mxE x y = y := by unfold mxE; split <;> simp
theorem mxE_lub {x y z : E5} (h : leE x z) (h2 : leE y z) : leE (mxE x y) z := by rcases mxE_or x y with e | e <;> rw [e] <;> assumption
theorem mxE_comm (x y : E5) : mxE x y = mxE y x := leE_antisymm (mxE_lub (mxE_right y x) (mxE_left y x)) (mxE_lub (mxE_right x y) (mxE_left x y))
theorem mxE_assoc (x y z : E5) : mxE (mxE x y) z = mxE x (mxE y z) :=
 leE_antisymm (mxE_lub (mxE_lub (mxE_left _ _) (leE_trans (mxE_left y z) (mxE_right _ _))) (leE_trans (mxE_right y z) (mxE_right _ _)))
  (mxE_lub (leE_trans (mxE_left x y) (mxE_left _ _)) (mxE_lub (leE_trans (mxE_right x y) (mxE_left _ _)) (mxE_right _ _)))
theorem mxE_self (x : E5) : mxE x x = x := by rcases mxE_or x x with e | e <;> exact e
theorem mxE_of_le {x y : E5} (h : leE x y) : mxE x y = y := leE_antisymm (mxE_lub h (leE_refl _)) (mxE_right _ _)
def zeroE : E5 := (0, 0, 0, 0, (⟨#[]⟩ : ByteArray))
theorem leE_zero {x : E5} (h : 1 ≤ x.1 ∨ x = zeroE) : leE zeroE x := by
 rcases h with h | rfl
 ·unfold leE
  rw [ec_lt_iff]
  rintro (h1 | ⟨h1, _⟩)
  ·simp only [zeroE] at h1; omega
  ·simp only [zeroE] at h1; omega
 ·exact leE_refl _
theorem maxI_comm (a b : Int) : maxI a b = maxI b a := by unfold maxI; split <;> split <;> omega
theorem maxI_assoc (a b c : Int) : maxI (maxI a b) c = maxI a (maxI b c) := by unfold maxI; repeat' split <;> omega
theorem maxI_le {a b : Int} : a ≤ maxI a b ∧ b ≤ maxI a b ∧ (maxI a b = a ∨ maxI a b = b) := by unfold maxI; split <;> omega
theorem flo_bd (a : Int) : ∀ (l : List S58) (p : Option Int), okF p l = true → 0 ≤ floOf l a ∧ floOf l a ≤ 1000
 | [], _, _ => by simp [floOf]
 | x :: r, p, h => by
  simp only [okF, Bool.and_eq_true, decide_eq_true_eq] at h
  simp only [floOf]
  split
  ·omega
  ·exact flo_bd a r (some x.f0) h.2.2.2
def kI (g : Int → Option E5) : Nat → Int → List S44
 | 0, _ => []
 | n + 1, i => (match g i with | some e => [⟨i, ⟨e.1, e.2.1, e.2.2.1, e.2.2.2.1, e.2.2.2.2⟩⟩] | none => []) ++ kI g n (i + 1)
def kF (f : Int → Int) : Nat → Int → List S58
 | 0, _ => []
 | n + 1, i => (if f i > 0 then [⟨i, f i⟩] else []) ++ kF f n (i + 1)
def oE (l : List S44) (a : Int) : Option E5 := if (entOf l a).2.2.2.2.2 = true then some (ent5 (entOf l a)) else none
theorem oE_nil (a : Int) : oE [] a = none := rfl
theorem oE_cons (x : S44) (l : List S44) (a : Int) : oE (x :: l) a = if x.f0 = a then some (x.f1.f0, x.f1.f1, x.f1.f2, x.f1.f3, x.f1.f4) else oE l a := by
 have h : entOf (x :: l) a = if x.f0 = a then (x.f1.f0, x.f1.f1, x.f1.f2, x.f1.f3, x.f1.f4, true) else entOf l a := rfl
 unfold oE
 rw [h]
 by_cases e : x.f0 = a
 ·simp only [if_pos e, if_true]; rfl
 ·simp only [if_neg e]
theorem oE_mem {l : List S44} {a : Int} {e : E5} (h : oE l a = some e) : ∃ x ∈ l, x.f0 = a ∧ e = (x.f1.f0, x.f1.f1, x.f1.f2, x.f1.f3, x.f1.f4) := by
 induction l with
 | nil => simp [oE_nil] at h
 | cons x l ih =>
  rw [oE_cons] at h
  by_cases c : x.f0 = a
  ·rw [if_pos c] at h
   exact ⟨x, List.mem_cons_self, c, (Option.some.inj h).symm⟩
  ·rw [if_neg c] at h
   obtain ⟨y, hy, h1⟩ := ih h
   exact ⟨y, List.mem_cons_of_mem _ hy, h1⟩
theorem oE_none {l : List S44} {a : Int} (h : ∀ x ∈ l, x.f0 ≠ a) : oE l a = none := by
 cases e : oE l a with
 | none => rfl
 | some v => obtain ⟨x, hx, h1, _⟩ := oE_mem e; exact absurd h1 (h x hx)
theorem ent_of (l : List S44) (a : Int) : entOf l a = match oE l a with | some e => (e.1, e.2.1, e.2.2.1, e.2.2.2.1, e.2.2.2.2, true) | none => (0, 0, 0, 0, (⟨#[]⟩ : ByteArray), false) := by
 unfold oE
 by_cases c : (entOf l a).2.2.2.2.2 = true
 ·rw [if_pos c]
  revert c
  generalize entOf l a = z
  obtain ⟨a1, a2, a3, a4, a5, a6⟩ := z
  intro c
  simp only at c
  subst c
  rfl
 ·rw [if_neg c]; exact ent_none a l c
def eZ (o : Option E5) : E5 := o.getD zeroE
theorem ent5_of (l : List S44) (a : Int) : ent5 (entOf l a) = eZ (oE l a) := by
 rw [ent_of]
 cases oE l a <;> rfl
/-- The ids lie in their order. -/
theorem okI_mem (b : List S58) : ∀ (l : List S44) (p : Option Int), okI b p l = true → ∀ x ∈ l, (0 ≤ x.f0 ∧ x.f0 ≤ 4) ∧ (∀ q, p = some q → q < x.f0) ∧ entryOkB x.f1.f0 x.f1.f1 x.f1.f2 x.f1.f3 x.f1.f4 = true ∧ floOf b x.f0 < x.f1.f0
 | [], _, _, x, hx => by simp at hx
 | y :: r, p, h, x, hx => by
  simp only [okI, Bool.and_eq_true, Bool.not_eq_true', decide_eq_false_iff_not] at h
  obtain ⟨h1, h2, h3, h4, h5⟩ := h
  have hy : ∀ q, p = some q → q < y.f0 := by
   intro q e
   subst e
   simp only [decide_eq_false_iff_not] at h2
   omega
  rcases List.mem_cons.1 hx with rfl | hx
  ·exact ⟨by simpa [nodeB] using h1, hy, h3, by omega⟩
  ·obtain ⟨z1, z2, z3⟩ := okI_mem b r (some y.f0) h5 x hx
   exact ⟨z1, fun q e => Int.lt_trans (hy q e) (z2 _ rfl), z3⟩
theorem okF_mem : ∀ (l : List S58) (p : Option Int), okF p l = true → ∀ x ∈ l, (0 ≤ x.f0 ∧ x.f0 ≤ 4) ∧ (∀ q, p = some q → q < x.f0) ∧ 1 ≤ x.f1 ∧ x.f1 ≤ 1000
 | [], _, _, x, hx => by simp at hx
 | y :: r, p, h, x, hx => by
  simp only [okF, Bool.and_eq_true, Bool.not_eq_true', decide_eq_true_eq] at h
  obtain ⟨h1, h2, h3, h5⟩ := h
  have hy : ∀ q, p = some q → q < y.f0 := by
   intro q e
   subst e
   simp only [decide_eq_false_iff_not] at h2
   omega
  rcases List.mem_cons.1 hx with rfl | hx
  ·exact ⟨by simpa [nodeB] using h1, hy, h3⟩
  ·obtain ⟨z1, z2, z3⟩ := okF_mem r (some y.f0) h5 x hx
   exact ⟨z1, fun q e => Int.lt_trans (hy q e) (z2 _ rfl), z3⟩
theorem kI_congr {g g' : Int → Option E5} : ∀ (n : Nat) (i : Int), (∀ j, i ≤ j → j < i + n → g j = g' j) → kI g n i = kI g' n i
 | 0, _, _ => rfl
 | n + 1, i, h => by
  simp only [kI]
  rw [h i (Int.le_refl _) (by omega), kI_congr n (i + 1) (fun j h1 h2 => h j (by omega) (by omega))]
theorem kF_congr {g g' : Int → Int} : ∀ (n : Nat) (i : Int), (∀ j, i ≤ j → j < i + n → g j = g' j) → kF g n i = kF g' n i
 | 0, _, _ => rfl
 | n + 1, i, h => by
  simp only [kF]
  rw [h i (Int.le_refl _) (by omega), kF_congr n (i + 1) (fun j h1 h2 => h j (by omega) (by omega))]
theorem kI_of (b : List S58) : ∀ (n : Nat) (i : Int) (l : List S44) (p : Option Int), i + n = 5 → okI b p l = true → (∀ x ∈ l, i ≤ x.f0) → l = kI (oE l) n i
 | 0, i, [], _, _, _, _ => rfl
 | 0, i, x :: l, p, h, ho, hi => by
  have h1 := hi x List.mem_cons_self
  have h2 := (okI_mem b _ p ho x List.mem_cons_self).1
  omega
 | n + 1, i, [], p, h, ho, hi => by
  simp only [kI, oE_nil, List.nil_append]
  have := kI_of b n (i + 1) [] p (by omega) ho (by simp)
  rw [← this]
 | n + 1, i, x :: l, p, h, ho, hi => by
  have ho2 : okI b (some x.f0) l = true := by simp only [okI, Bool.and_eq_true] at ho; exact ho.2.2.2.2
  have hm := okI_mem b l (some x.f0) ho2
  by_cases c : x.f0 = i
  ·have h1 := kI_of b n (i + 1) l (some x.f0) (by omega) ho2 (fun y hy => by have := (hm y hy).2.1 _ rfl; omega)
   simp only [kI]
   rw [oE_cons, if_pos c]
   simp only [List.singleton_append]
   rw [kI_congr (g' := oE l) n (i + 1) (fun j hj _ => by rw [oE_cons, if_neg (by omega)]), ← h1, ← c]
  ·have hx := hi x List.mem_cons_self
   have h1 := kI_of b n (i + 1) (x :: l) p (by omega) ho (fun y hy => by
    rcases List.mem_cons.1 hy with rfl | hy
    ·omega
    ·have := (hm y hy).2.1 _ rfl; omega)
   simp only [kI]
   rw [oE_none (l := x :: l) (a := i) (fun y hy => by
    rcases List.mem_cons.1 hy with rfl | hy
    ·exact c
    ·have := (hm y hy).2.1 _ rfl; omega)]
   simp only [List.nil_append]
   exact h1
theorem flo_cons (x : S58) (l : List S58) (a : Int) : floOf (x :: l) a = if x.f0 = a then x.f1 else floOf l a := rfl
theorem flo_zero {l : List S58} {a : Int} (h : ∀ x ∈ l, x.f0 ≠ a) : floOf l a = 0 := by
 induction l with
 | nil => rfl
 | cons x l ih => rw [flo_cons, if_neg (h x List.mem_cons_self)]; exact ih (fun y hy => h y (List.mem_cons_of_mem _ hy))
theorem kF_of : ∀ (n : Nat) (i : Int) (l : List S58) (p : Option Int), i + n = 5 → okF p l = true → (∀ x ∈ l, i ≤ x.f0) → l = kF (floOf l) n i
 | 0, i, [], _, _, _, _ => rfl
 | 0, i, x :: l, p, h, ho, hi => by
  have h1 := hi x List.mem_cons_self
  have h2 := (okF_mem _ p ho x List.mem_cons_self).1
  omega
 | n + 1, i, [], p, h, ho, hi => by
  simp only [kF]
  have := kF_of n (i + 1) [] p (by omega) ho (by simp)
  rw [← this]; simp [floOf]
 | n + 1, i, x :: l, p, h, ho, hi => by
  have ho2 : okF (some x.f0) l = true := by simp only [okF, Bool.and_eq_true] at ho; exact ho.2.2.2
  have hm := okF_mem l (some x.f0) ho2
  have hx1 := (okF_mem (x :: l) p ho x List.mem_cons_self).2.2
  by_cases c : x.f0 = i
  ·have h1 := kF_of n (i + 1) l (some x.f0) (by omega) ho2 (fun y hy => by have := (hm y hy).2.1 _ rfl; omega)
   simp only [kF]
   rw [flo_cons, if_pos c, if_pos (by omega)]
   simp only [List.singleton_append]
   rw [kF_congr (g' := floOf l) n (i + 1) (fun j hj _ => by rw [flo_cons, if_neg (by omega)]), ← h1, ← c]
  ·have hx := hi x List.mem_cons_self
   have h1 := kF_of n (i + 1) (x :: l) p (by omega) ho (fun y hy => by
    rcases List.mem_cons.1 hy with rfl | hy
    ·omega
    ·have := (hm y hy).2.1 _ rfl; omega)
   simp only [kF]
   rw [flo_zero (l := x :: l) (a := i) (fun y hy => by
    rcases List.mem_cons.1 hy with rfl | hy
    ·exact c
    ·have := (hm y hy).2.1 _ rfl; omega)]
   rw [if_neg (by omega)]
   simp only [List.nil_append]
   exact h1
theorem ok_items {a : List S44} {b : List S58} (h : okS a b = true) : a = kI (oE a) 5 0 := by
 simp only [okS, Bool.and_eq_true] at h
 exact kI_of b 5 0 a none (by omega) h.1 (fun x hx => (okI_mem b a none h.1 x hx).1.1)
theorem ok_floors {a : List S44} {b : List S58} (h : okS a b = true) : b = kF (floOf b) 5 0 := by
 simp only [okS, Bool.and_eq_true] at h
 exact kF_of 5 0 b none (by omega) h.2 (fun x hx => (okF_mem b none h.2 x hx).1.1)
theorem oE_kI (g : Int → Option E5) : ∀ (n : Nat) (i a : Int), oE (kI g n i) a = if i ≤ a ∧ a < i + n then g a else none
 | 0, i, a => by simp only [kI, oE_nil]; rw [if_neg (by omega)]
 | n + 1, i, a => by
  have ih := oE_kI g n (i + 1) a
  simp only [kI]
  by_cases c : i = a
  ·subst c
   rw [if_pos (by omega)]
   cases h : g i with
   | none => simp only [List.nil_append]; rw [ih, if_neg (by omega)]
   | some e => simp only [List.singleton_append]; rw [oE_cons, if_pos rfl]
  ·have e : oE (kI g n (i + 1)) a = if i ≤ a ∧ a < i + (n + 1 : Nat) then g a else none := by
    rw [ih]
    by_cases d : i + 1 ≤ a ∧ a < i + 1 + n
    ·rw [if_pos d, if_pos (by omega)]
    ·rw [if_neg d, if_neg (by omega)]
   cases h : g i with
   | none => simp only [List.nil_append]; exact e
   | some e' => simp only [List.singleton_append]; rw [oE_cons, if_neg c]; exact e
theorem flo_kF (f : Int → Int) (hf : ∀ j, 0 ≤ f j) : ∀ (n : Nat) (i a : Int), floOf (kF f n i) a = if i ≤ a ∧ a < i + n then f a else 0
 | 0, i, a => by simp only [kF]; rw [if_neg (by omega)]; rfl
 | n + 1, i, a => by
  have ih := flo_kF f hf n (i + 1) a
  have h0 := hf i
  simp only [kF]
  by_cases c : i = a
  ·subst c
   rw [if_pos (show i ≤ i ∧ i < i + (n + 1 : Nat) by omega)]
   by_cases h : f i > 0
   ·rw [if_pos h]; simp only [List.singleton_append]; rw [flo_cons, if_pos rfl]
   ·rw [if_neg h]; simp only [List.nil_append]; rw [ih, if_neg (by omega)]; omega
  ·have e : floOf (kF f n (i + 1)) a = if i ≤ a ∧ a < i + (n + 1 : Nat) then f a else 0 := by
    rw [ih]
    by_cases d : i + 1 ≤ a ∧ a < i + 1 + n
    ·rw [if_pos d, if_pos (by omega)]
    ·rw [if_neg d, if_neg (by omega)]
   by_cases h : f i > 0
   ·rw [if_pos h]; simp only [List.singleton_append]; rw [flo_cons, if_neg c]; exact e
   ·rw [if_neg h]; simp only [List.nil_append]; exact e
theorem kI_len (g : Int → Option E5) : ∀ (n : Nat) (i : Int), (kI g n i).length ≤ n
 | 0, _ => by simp [kI]
 | n + 1, i => by
  have := kI_len g n (i + 1)
  simp only [kI]
  cases g i <;> simp <;> omega
theorem kF_len (f : Int → Int) : ∀ (n : Nat) (i : Int), (kF f n i).length ≤ n
 | 0, _ => by simp [kF]
 | n + 1, i => by
  have := kF_len f n (i + 1)
  simp only [kF]
  split <;> simp <;> omega
theorem ok_len {a : List S44} {b : List S58} (h : okS a b = true) : a.length ≤ 5 ∧ b.length ≤ 5 := by
 constructor
 ·rw [ok_items h]; exact kI_len _ _ _
 ·rw [ok_floors h]; exact kF_len _ _ _
/-- A right entry over its floor, for each node. -/
def okP (g : Int → Option E5) (f : Int → Int) : Prop := ∀ i, (∀ e, g i = some e → entryOkB e.1 e.2.1 e.2.2.1 e.2.2.2.1 e.2.2.2.2 = true ∧ f i < e.1) ∧ 0 ≤ f i ∧ f i ≤ 1000
theorem okI_kI {b : List S58} {g : Int → Option E5} {f : Int → Int} (hg : okP g f) (hb : ∀ i, 0 ≤ i → i ≤ 4 → floOf b i = f i) : ∀ (n : Nat) (i : Int) (p : Option Int), 0 ≤ i → i + n = 5 → (∀ q, p = some q → q < i) → okI b p (kI g n i) = true
 | 0, _, _, _, _, _ => rfl
 | n + 1, i, p, h0, h5, hp => by
  simp only [kI]
  cases h : g i with
  | none => simp only [List.nil_append]; exact okI_kI hg hb n (i + 1) p (by omega) (by omega) (fun q e => by have := hp q e; omega)
  | some e =>
   obtain ⟨h1, h2⟩ := (hg i).1 e h
   simp only [List.singleton_append, okI, Bool.and_eq_true]
   refine ⟨by simp [nodeB]; omega, ?_, h1, ?_, okI_kI hg hb n (i + 1) (some i) (by omega) (by omega) (fun q e => by have := Option.some.inj e; omega)⟩
   ·cases p with
    | none => rfl
    | some q => have := hp q rfl; simp; omega
   ·rw [hb i h0 (by omega)]; simp; omega
theorem okF_kF {f : Int → Int} (hf : ∀ i, 0 ≤ f i ∧ f i ≤ 1000) : ∀ (n : Nat) (i : Int) (p : Option Int), 0 ≤ i → i + n = 5 → (∀ q, p = some q → q < i) → okF p (kF f n i) = true
 | 0, _, _, _, _, _ => rfl
 | n + 1, i, p, h0, h5, hp => by
  have h1 := hf i
  simp only [kF]
  by_cases h : f i > 0
  ·rw [if_pos h]
   simp only [List.singleton_append, okF, Bool.and_eq_true]
   refine ⟨by simp [nodeB]; omega, ?_, by simp; omega, okF_kF hf n (i + 1) (some i) (by omega) (by omega) (fun q e => by have := Option.some.inj e; omega)⟩
   cases p with
   | none => rfl
   | some q => have := hp q rfl; simp; omega
  ·rw [if_neg h]; simp only [List.nil_append]; exact okF_kF hf n (i + 1) p (by omega) (by omega) (fun q e => by have := hp q e; omega)
theorem ok_mk {g : Int → Option E5} {f : Int → Int} (h : okP g f) : okS (kI g 5 0) (kF f 5 0) = true := by
 simp only [okS, Bool.and_eq_true]
 refine ⟨okI_kI h (fun i h0 h4 => ?_) 5 0 none (by omega) (by omega) (fun q e => by cases e), okF_kF (fun i => (h i).2) 5 0 none (by omega) (by omega) (fun q e => by cases e)⟩
 rw [flo_kF f (fun j => (h j).2.1), if_pos (by omega)]
theorem okP_of {a : List S44} {b : List S58} (h : okS a b = true) : okP (oE a) (floOf b) := by
 simp only [okS, Bool.and_eq_true] at h
 intro i
 refine ⟨fun e he => ?_, flo_bd i b none h.2⟩
 obtain ⟨x, hx, h1, rfl⟩ := oE_mem he
 obtain ⟨_, _, h3, h4⟩ := okI_mem b a none h.1 x hx
 exact ⟨h3, by rw [← h1]; exact h4⟩
/-- Two right states that hold the same are the same. -/
theorem ok_ext {a a' : List S44} {b b' : List S58} (h : okS a b = true) (h' : okS a' b' = true) (hi : ∀ i, 0 ≤ i → i ≤ 4 → oE a i = oE a' i) (hf : ∀ i, 0 ≤ i → i ≤ 4 → floOf b i = floOf b' i) : a = a' ∧ b = b' := by
 constructor
 ·rw [ok_items h, ok_items h']; exact kI_congr 5 0 (fun j h1 h2 => hi j h1 (by omega))
 ·rw [ok_floors h, ok_floors h']; exact kF_congr 5 0 (fun j h1 h2 => hf j h1 (by omega))
/-- What the join holds. -/
def jE (x y : Option E5) (f : Int) : Option E5 := if (mxE (eZ x) (eZ y)).1 > f then some (mxE (eZ x) (eZ y)) else none
def jF (a b : Int) : Int := maxI a b
theorem joinR_eq (a : List S44) (b : List S58) (c : List S44) (e : List S58) : ∀ (n : Nat) (i : Int) (x : List S44) (y : List S58),
  joinR a b c e n i x y = (x ++ kI (fun j => jE (oE a j) (oE c j) (jF (floOf b j) (floOf e j))) n i, y ++ kF (fun j => jF (floOf b j) (floOf e j)) n i)
 | 0, i, x, y => by simp [joinR, kI, kF]
 | n + 1, i, x, y => by
  simp only [joinR]
  rw [joinR_eq a b c e n (i + 1)]
  simp only [kI, kF, List.append_assoc, maxE_eq, ent5_of]
  congr 2
  ·congr 1
   unfold addI jE jF
   by_cases h : (mxE (eZ (oE a i)) (eZ (oE c i))).1 > maxI (floOf b i) (floOf e i)
   ·rw [if_pos h, if_pos h]
   ·rw [if_neg h, if_neg h]
theorem joinS_eq (a : List S44) (b : List S58) (c : List S44) (e : List S58) : joinS a b c e = (kI (fun j => jE (oE a j) (oE c j) (jF (floOf b j) (floOf e j))) 5 0, kF (fun j => jF (floOf b j) (floOf e j)) 5 0) := by
 unfold joinS; rw [joinR_eq]; simp
theorem jE_some {x y : Option E5} {f : Int} {e : E5} (hf : 0 ≤ f) (h : jE x y f = some e) : (x = some e ∨ y = some e) ∧ f < e.1 := by
 unfold jE at h
 by_cases c : (mxE (eZ x) (eZ y)).1 > f
 ·rw [if_pos c] at h
  have h := Option.some.inj h
  refine ⟨?_, by rw [h] at c; exact c⟩
  rcases mxE_or (eZ x) (eZ y) with h1 | h1
  ·left
   rw [h1] at h c
   cases x with
   | none => simp [eZ, zeroE] at c; omega
   | some v => exact congrArg some h
  ·right
   rw [h1] at h c
   cases y with
   | none => simp [eZ, zeroE] at c; omega
   | some v => exact congrArg some h
 ·rw [if_neg c] at h; cases h
theorem okP_join {g g' : Int → Option E5} {f f' : Int → Int} (h : okP g f) (h' : okP g' f') : okP (fun j => jE (g j) (g' j) (jF (f j) (f' j))) (fun j => jF (f j) (f' j)) := by
 intro i
 have h1 := (h i).2
 have h2 := (h' i).2
 have h3 := maxI_le (a := f i) (b := f' i)
 have h4 : 0 ≤ jF (f i) (f' i) ∧ jF (f i) (f' i) ≤ 1000 := by unfold jF; omega
 refine ⟨fun e he => ?_, h4⟩
 obtain ⟨h5, h6⟩ := jE_some h4.1 he
 rcases h5 with h5 | h5
 ·exact ⟨((h i).1 e h5).1, h6⟩
 ·exact ⟨((h' i).1 e h5).1, h6⟩
theorem join_ok {a : List S44} {b : List S58} {c : List S44} {e : List S58} (h : okS a b = true) (h' : okS c e = true) : okS (joinS a b c e).1 (joinS a b c e).2 = true := by
 rw [joinS_eq]
 exact ok_mk (okP_join (okP_of h) (okP_of h'))
theorem join_E {a : List S44} {b : List S58} {c : List S44} {e : List S58} {i : Int} (h0 : 0 ≤ i) (h4 : i ≤ 4) : oE (joinS a b c e).1 i = jE (oE a i) (oE c i) (jF (floOf b i) (floOf e i)) := by
 rw [joinS_eq]; simp only; rw [oE_kI, if_pos (by omega)]
theorem join_F {a : List S44} {b : List S58} {c : List S44} {e : List S58} (h : okS a b = true) (h' : okS c e = true) {i : Int} (h0 : 0 ≤ i) (h4 : i ≤ 4) : floOf (joinS a b c e).2 i = jF (floOf b i) (floOf e i) := by
 rw [joinS_eq]; simp only
 rw [flo_kF _ (fun j => ((okP_join (okP_of h) (okP_of h')) j).2.1), if_pos (by omega)]
theorem okP_zero {g : Int → Option E5} {f : Int → Int} (h : okP g f) (i : Int) : leE zeroE (eZ (g i)) := by
 cases e : g i with
 | none => exact leE_refl _
 | some v =>
  have := (h i).1 v e
  have h2 := (h i).2
  exact leE_zero (.inl (by simp only [eZ, Option.getD_some]; omega))
theorem jE_comm (x y : Option E5) (f : Int) : jE x y f = jE y x f := by unfold jE; rw [mxE_comm]
/-- Three: what falls beneath the floor on the way would fall at the end, too. -/
theorem jE_assoc {x y z : Option E5} {f g : Int} (hx : leE zeroE (eZ x)) (hy : leE zeroE (eZ y)) (hz : leE zeroE (eZ z)) (h : f ≤ g) : jE (jE x y f) z g = if (mxE (mxE (eZ x) (eZ y)) (eZ z)).1 > g then some (mxE (mxE (eZ x) (eZ y)) (eZ z)) else none := by
 unfold jE
 by_cases c : (mxE (eZ x) (eZ y)).1 > f
 ·rw [if_pos c]; rfl
 ·rw [if_neg c]
  have e0 : mxE (eZ none) (eZ z) = eZ z := mxE_of_le hz
  rw [e0]
  rcases mxE_or (mxE (eZ x) (eZ y)) (eZ z) with h1 | h1
  ·rw [h1]
   have h2 := leE_inc (mxE_right (mxE (eZ x) (eZ y)) (eZ z))
   rw [h1] at h2
   rw [if_neg (by omega), if_neg (by omega)]
  ·rw [h1]
theorem join_comm {a : List S44} {b : List S58} {c : List S44} {e : List S58} : joinS a b c e = joinS c e a b := by
 rw [joinS_eq, joinS_eq]
 congr 2
 ·funext j; rw [jE_comm]; unfold jF; rw [maxI_comm]
 ·funext j; unfold jF; rw [maxI_comm]
theorem join_assoc {a : List S44} {b : List S58} {c : List S44} {e : List S58} {p : List S44} {q : List S58} (h1 : okS a b = true) (h2 : okS c e = true) (h3 : okS p q = true) :
  joinS (joinS a b c e).1 (joinS a b c e).2 p q = joinS a b (joinS c e p q).1 (joinS c e p q).2 := by
 have k1 := join_ok h1 h2
 have k2 := join_ok h2 h3
 have o1 := join_ok k1 h3
 have o2 := join_ok h1 k2
 have hh := ok_ext o1 o2 (fun i h0 h4 => ?_) (fun i h0 h4 => ?_)
 ·exact Prod.ext hh.1 hh.2
 ·have z1 := okP_zero (okP_of h1) i
  have z2 := okP_zero (okP_of h2) i
  have z3 := okP_zero (okP_of h3) i
  have m1 := maxI_le (a := floOf b i) (b := floOf e i)
  have m2 := maxI_le (a := maxI (floOf b i) (floOf e i)) (b := floOf q i)
  have m3 := maxI_le (a := floOf e i) (b := floOf q i)
  have m4 := maxI_le (a := floOf b i) (b := maxI (floOf e i) (floOf q i))
  rw [join_E h0 h4, join_E h0 h4, join_F h1 h2 h0 h4, join_E h0 h4, join_E h0 h4, join_F h2 h3 h0 h4]
  unfold jF
  rw [jE_assoc z1 z2 z3 m2.1, jE_comm (oE a i), jE_assoc z2 z3 z1 m4.2.1, maxI_assoc, mxE_assoc, mxE_comm (mxE (eZ (oE c i)) (eZ (oE p i)))]
 ·rw [join_F k1 h3 h0 h4, join_F h1 h2 h0 h4, join_F h1 k2 h0 h4, join_F h2 h3 h0 h4]
  unfold jF
  rw [maxI_assoc]
/-- One that is beneath what is there changes nothing. -/
theorem jE_le {x y : Option E5} {f : Int} (hf : 0 ≤ f) (h : leE (eZ y) (eZ x)) (hx : ∀ e, x = some e → f < e.1) : jE x y f = x := by
 unfold jE
 rw [mxE_comm, mxE_of_le h]
 cases x with
 | none => rw [if_neg (by simp [eZ, zeroE]; omega)]
 | some v => rw [if_pos (by have := hx v rfl; simpa [eZ] using this)]; rfl
theorem join_self {a : List S44} {b : List S58} (h : okS a b = true) : joinS a b a b = (a, b) := by
 have o := join_ok h h
 have hh := ok_ext o h (fun i h0 h4 => ?_) (fun i h0 h4 => ?_)
 ·exact Prod.ext hh.1 hh.2
 ·rw [join_E h0 h4]
  have e : jF (floOf b i) (floOf b i) = floOf b i := by unfold jF maxI; split <;> rfl
  rw [e]
  exact jE_le ((okP_of h) i).2.1 (leE_refl _) (fun v hv => ((okP_of h i).1 v hv).2)
 ·rw [join_F h h h0 h4]; unfold jF maxI; split <;> rfl
theorem sameI_self : ∀ (l : List S44), sameI l l = true
 | [] => rfl
 | x :: l => by simp [sameI, sameI_self l]
theorem sameF_self : ∀ (l : List S58), sameF l l = true
 | [] => rfl
 | x :: l => by simp [sameF, sameF_self l]
theorem sameS_self (a : List S44) (b : List S58) : sameS a b a b = true := by simp [sameS, sameI_self, sameF_self]
theorem and255 (x : Int) : 0 ≤ Go.bits .and .i64 x 255 ∧ Go.bits .and .i64 x 255 ≤ 255 := by
 have e : Go.bits .and .i64 x 255 = IntKind.i64.wrap (((BitVec.ofInt 64 x &&& BitVec.ofInt 64 255).toNat : Nat) : Int) := rfl
 have h : (BitVec.ofInt 64 x &&& BitVec.ofInt 64 255).toNat ≤ 255 := by
  rw [BitVec.toNat_and]
  exact Nat.and_le_right
 rw [e, IntKind.wrap_i64]
 omega
theorem byte_ok (b : List Int) (hb : b.length ≤ 140737488351232) (i h : Int) (h0 : 0 ≤ i) (h1 : i ≤ (b.length : Int)) : ∃ r i' h', spec_l1Byte.f b i h = some (r, i', h') ∧ 0 ≤ r ∧ r ≤ 255 ∧ 0 ≤ i' ∧ i' ≤ (b.length : Int) := by
 unfold spec_l1Byte.f
 by_cases c : i < (b.length : Int)
 ·rw [if_pos c, if_pos h0]
  refine ⟨_, _, _, rfl, (and255 _).1, (and255 _).2, ?_, ?_⟩
  ·rw [w64 (by omega) (by omega)]; omega
  ·rw [w64 (by omega) (by omega)]; omega
 ·rw [if_neg c]
  exact ⟨_, _, _, rfl, (and255 _).1, (and255 _).2, h0, h1⟩
theorem below_ok (b : List Int) (hb : b.length ≤ 140737488351232) (i h n : Int) (h0 : 0 ≤ i) (h1 : i ≤ (b.length : Int)) (hn : 0 < n) (hn2 : n ≤ 256) : ∃ r i' h', spec_l1Below.f b i h n = some (r, i', h') ∧ 0 ≤ r ∧ r < n ∧ 0 ≤ i' ∧ i' ≤ (b.length : Int) := by
 obtain ⟨r, i', h', e, r0, r1, c0, c1⟩ := byte_ok b hb i h h0 h1
 refine ⟨Int.tmod r n, i', h', ?_, Int.tmod_nonneg _ r0, Int.tmod_lt_of_pos _ hn, c0, c1⟩
 unfold spec_l1Below.f
 rw [if_neg (by omega), if_pos hn2, e]
 simp only [Option.bind_some]
 rw [if_neg (by omega)]
theorem pick_ok (b : List Int) (hb : b.length ≤ 140737488351232) (i h : Int) (h0 : 0 ≤ i) (h1 : i ≤ (b.length : Int)) (l : List ByteArray) (hl : 0 < l.length) (hl2 : l.length ≤ 256) : ∃ s i' h', spec_l1Pick.f b i h l = some (s, i', h') ∧ s ∈ l ∧ 0 ≤ i' ∧ i' ≤ (b.length : Int) := by
 obtain ⟨r, i', h', e, r0, r1, c0, c1⟩ := below_ok b hb i h l.length h0 h1 (by omega) (by omega)
 refine ⟨rdOf ByteArray.empty l r, i', h', ?_, ?_, c0, c1⟩
 ·unfold spec_l1Pick.f
  rw [e]
  simp only [Option.bind_some]
  rw [if_pos r0, if_pos r1]
 ·unfold rdOf
  rw [List.getD_eq_getElem?_getD, List.getElem?_eq_getElem (show r.toNat < l.length by omega)]
  exact List.getElem_mem _
theorem pickInt_ok (b : List Int) (hb : b.length ≤ 140737488351232) (i h : Int) (h0 : 0 ≤ i) (h1 : i ≤ (b.length : Int)) (l : List Int) (hl : 0 < l.length) (hl2 : l.length ≤ 256) : ∃ s i' h', spec_l1PickInt.f b i h l = some (s, i', h') ∧ s ∈ l ∧ 0 ≤ i' ∧ i' ≤ (b.length : Int) := by
 obtain ⟨r, i', h', e, r0, r1, c0, c1⟩ := below_ok b hb i h l.length h0 h1 (by omega) (by omega)
 refine ⟨rd l r, i', h', ?_, ?_, c0, c1⟩
 ·unfold spec_l1PickInt.f
  rw [e]
  simp only [Option.bind_some]
  rw [if_pos r0, if_pos r1]
 ·unfold rd
  rw [List.getD_eq_getElem?_getD, List.getElem?_eq_getElem (show r.toNat < l.length by omega)]
  exact List.getElem_mem _
theorem right_ok (b : List Int) (hb : b.length ≤ 140737488351232) (i h : Int) (h0 : 0 ≤ i) (h1 : i ≤ (b.length : Int)) : ∃ e0 e1 e2 e3 s i' h', spec_l2Right.f b i h = some (e0, e1, e2, e3, s, i', h') ∧ entryOkB e0 e1 e2 e3 s = true ∧ 0 ≤ i' ∧ i' ≤ (b.length : Int) := by
 obtain ⟨r1, i1, k1, e1, a1, b1, c1, d1⟩ := below_ok b hb i h 3 h0 h1 (by omega) (by omega)
 obtain ⟨r2, i2, k2, e2, a2, b2, c2, d2⟩ := below_ok b hb i1 k1 2 c1 d1 (by omega) (by omega)
 obtain ⟨r3, i3, k3, e3, a3, b3, c3, d3⟩ := below_ok b hb i2 k2 3 c2 d2 (by omega) (by omega)
 obtain ⟨r4, i4, k4, e4, a4, b4, c4, d4⟩ := below_ok b hb i3 k3 3 c3 d3 (by omega) (by omega)
 obtain ⟨s, i5, k5, e5, a5, c5, d5⟩ := pick_ok b hb i4 k4 c4 d4 [(⟨#[]⟩ : ByteArray), (⟨#[97]⟩ : ByteArray), (⟨#[98]⟩ : ByteArray), (⟨#[97, 98]⟩ : ByteArray), (⟨#[49, 50, 51, 52, 53, 54, 55, 56]⟩ : ByteArray)] (by simp) (by simp)
 refine ⟨wrap64 (1 + r1), r2, r3, r4, s, i5, k5, ?_, ?_, c5, d5⟩
 ·unfold spec_l2Right.f
  rw [e1]; simp only [Option.bind_some]
  rw [e2]; simp only [Option.bind_some]
  rw [e3]; simp only [Option.bind_some]
  rw [e4]; simp only [Option.bind_some]
  rw [e5]; simp only [Option.bind_some]
 ·rw [w64 (by omega) (by omega)]
  have hs : (s.size : Int) ≤ 8 := by
   simp only [List.mem_cons, List.not_mem_nil, or_false] at a5
   rcases a5 with rfl | rfl | rfl | rfl | rfl <;> simp [ByteArray.size]
  simp only [entryOkB, Bool.and_eq_true, decide_eq_true_eq]
  omega
theorem draw_ok (b : List Int) (hb : b.length ≤ 140737488351232) (i h : Int) (h0 : 0 ≤ i) (h1 : i ≤ (b.length : Int)) : ∃ e0 e1 e2 e3 s i' h', spec_l2Draw.f b i h = some (e0, e1, e2, e3, s, i', h') ∧ 0 ≤ i' ∧ i' ≤ (b.length : Int) := by
 obtain ⟨r0, r1, r2, r3, s, i1, k1, e1, _, c1, d1⟩ := right_ok b hb i h h0 h1
 obtain ⟨q, i2, k2, e2, a2, b2, c2, d2⟩ := below_ok b hb i1 k1 14 c1 d1 (by omega) (by omega)
 unfold spec_l2Draw.f
 rw [e1]; simp only [Option.bind_some]
 rw [e2]; simp only [Option.bind_some]
 by_cases q0 : q = 0
 ·rw [if_pos q0]
  obtain ⟨z, i3, k3, e3, _, c3, d3⟩ := pickInt_ok b hb i2 k2 c2 d2 [0, 1000, 1001, (-1)] (by simp) (by simp)
  rw [e3]; exact ⟨_, _, _, _, _, _, _, rfl, c3, d3⟩
 rw [if_neg q0]
 by_cases q1 : q = 1
 ·rw [if_pos q1]
  obtain ⟨z, i3, k3, e3, _, c3, d3⟩ := pickInt_ok b hb i2 k2 c2 d2 [(-1), 2] (by simp) (by simp)
  rw [e3]; exact ⟨_, _, _, _, _, _, _, rfl, c3, d3⟩
 rw [if_neg q1]
 by_cases q2 : q = 2
 ·rw [if_pos q2]
  obtain ⟨z, i3, k3, e3, _, c3, d3⟩ := pickInt_ok b hb i2 k2 c2 d2 [(-1), 100000, 100001] (by simp) (by simp)
  rw [e3]; exact ⟨_, _, _, _, _, _, _, rfl, c3, d3⟩
 rw [if_neg q2]
 by_cases q3 : q = 3
 ·rw [if_pos q3]
  obtain ⟨z, i3, k3, e3, _, c3, d3⟩ := pickInt_ok b hb i2 k2 c2 d2 [(-1), 1000, 1001] (by simp) (by simp)
  rw [e3]; exact ⟨_, _, _, _, _, _, _, rfl, c3, d3⟩
 rw [if_neg q3]
 by_cases q4 : q = 4
 ·rw [if_pos q4]; exact ⟨_, _, _, _, _, _, _, rfl, c2, d2⟩
 ·rw [if_neg q4]; exact ⟨_, _, _, _, _, _, _, rfl, c2, d2⟩
theorem ok_nil : okS [] [] = true := rfl
theorem ok_one {a i r b v : Int} {s : ByteArray} (hn : 0 ≤ a ∧ a ≤ 4) (he : entryOkB i r b v s = true) : okS [⟨a, ⟨i, r, b, v, s⟩⟩] [] = true := by
 have hi : ¬ i ≤ 0 := by simp only [entryOkB, Bool.and_eq_true, decide_eq_true_eq] at he; omega
 simp [okS, okI, okF, nodeB, hn, he, floOf, hi]
theorem ok_floor {a i : Int} (hn : 0 ≤ a ∧ a ≤ 4) (hi : 1 ≤ i ∧ i ≤ 1000) : okS [] [⟨a, i⟩] = true := by simp [okS, okI, okF, nodeB, hn, hi]
theorem spec_Single_ev (a i r b v : Int) (s : ByteArray) (h : okS [⟨a, ⟨i, r, b, v, s⟩⟩] [] = true) : Ev (fun k => spec_Single.f k a i r b v s) ([⟨a, ⟨i, r, b, v, s⟩⟩], [], true) := by
 simp only [spec_Single.f, Option.bind_some]
 refine Ev.bind (spec_StateOk_ev _ _ (by simp) (by simp)) ?_
 simp only [if_pos h]
 exact evSome _
theorem l3Right_l1 (b : List Int) (hb : b.length ≤ 140737488351232) (n : Int) (hn : n ≤ 3) : ∀ (d : Nat) (j i h : Int) (x : List S44) (y : List S58), 0 ≤ j → j + d = n ∨ n < j + d ∧ d = 0 → 0 ≤ i → i ≤ (b.length : Int) → okS x y = true →
  ∃ x' y' i' h', Ev (fun k => spec_l3Right.l1 k n j b i h x y) (x', y', i', h') ∧ okS x' y' = true ∧ 0 ≤ i' ∧ i' ≤ (b.length : Int) := by
 intro d
 induction d with
 | zero =>
  intro j i h x y hj hd h0 h1 ho
  exact ⟨x, y, i, h, evRet fun k => by simp only [spec_l3Right.l1]; rw [if_neg (by omega)], ho, h0, h1⟩
 | succ d ih =>
  intro j i h x y hj hd h0 h1 ho
  obtain ⟨r1, i1, k1, e1, a1, b1, c1, d1⟩ := below_ok b hb i h 5 h0 h1 (by omega) (by omega)
  obtain ⟨r2, i2, k2, e2, a2, b2, c2, d2⟩ := below_ok b hb i1 k1 2 c1 d1 (by omega) (by omega)
  have hfl := ok_floor (a := r1) (i := 1 + r2) ⟨a1, by omega⟩ ⟨by omega, by omega⟩
  have hl := ok_len ho
  obtain ⟨x', y', i', h', hv, o2, c3, d3⟩ := ih (j + 1) i2 k2 (joinS x y [] [⟨r1, 1 + r2⟩]).1 (joinS x y [] [⟨r1, 1 + r2⟩]).2 (by omega) (by omega) c2 d2 (join_ok ho hfl)
  refine ⟨x', y', i', h', ?_, o2, c3, d3⟩
  refine evSucc ?_
  simp only [spec_l3Right.l1, e1, e2, Option.bind_some]
  simp only [if_pos (show j < n by omega), w64 (n := 1 + r2) (by omega) (by omega), w64 (n := j + 1) (by omega) (by omega)]
  refine Ev.bind (spec_l3Join_ev x y [] [⟨r1, 1 + r2⟩] (by omega) (by omega) (by simp) (by simp) ho hfl) ?_
  exact hv
theorem l3Right_l0 (b : List Int) (hb : b.length ≤ 140737488351232) (n : Int) (hn : n ≤ 7) : ∀ (d : Nat) (j i h : Int) (x : List S44) (y : List S58), 0 ≤ j → j + d = n ∨ n < j + d ∧ d = 0 → 0 ≤ i → i ≤ (b.length : Int) → okS x y = true →
  ∃ x' y' i' h', Ev (fun k => spec_l3Right.l0 k n j b i h x y) (x', y', i', h') ∧ okS x' y' = true ∧ 0 ≤ i' ∧ i' ≤ (b.length : Int) := by
 intro d
 induction d with
 | zero =>
  intro j i h x y hj hd h0 h1 ho
  obtain ⟨r1, i1, k1, e1, a1, b1, c1, d1⟩ := below_ok b hb i h 3 h0 h1 (by omega) (by omega)
  obtain ⟨x', y', i', h', hv, z⟩ := l3Right_l1 b hb r1 (by omega) r1.toNat 0 i1 k1 x y (by omega) (by omega) c1 d1 ho
  refine ⟨x', y', i', h', ?_, z⟩
  refine evSucc ?_
  simp only [spec_l3Right.l0, e1, Option.bind_some]
  simp only [if_neg (show ¬ j < n by omega)]
  exact hv
 | succ d ih =>
  intro j i h x y hj hd h0 h1 ho
  obtain ⟨r1, i1, k1, e1, a1, b1, c1, d1⟩ := below_ok b hb i h 5 h0 h1 (by omega) (by omega)
  obtain ⟨t0, t1, t2, t3, s, i2, k2, e2, a2, c2, d2⟩ := right_ok b hb i1 k1 c1 d1
  have hone := ok_one (a := r1) ⟨a1, by omega⟩ a2
  have hl := ok_len ho
  obtain ⟨x', y', i', h', hv, o2, c3, d3⟩ := ih (j + 1) i2 k2 (joinS x y [⟨r1, ⟨t0, t1, t2, t3, s⟩⟩] []).1 (joinS x y [⟨r1, ⟨t0, t1, t2, t3, s⟩⟩] []).2 (by omega) (by omega) c2 d2 (join_ok ho hone)
  refine ⟨x', y', i', h', ?_, o2, c3, d3⟩
  refine evSucc ?_
  simp only [spec_l3Right.l0, e1, e2, Option.bind_some]
  simp only [if_pos (show j < n by omega), w64 (n := j + 1) (by omega) (by omega)]
  refine Ev.bind (spec_Single_ev _ _ _ _ _ _ hone) ?_
  refine Ev.bind (spec_l3Join_ev x y _ [] (by omega) (by omega) (by simp) (by simp) ho hone) ?_
  exact hv
theorem l3Right_ok (b : List Int) (hb : b.length ≤ 140737488351232) (i h : Int) (h0 : 0 ≤ i) (h1 : i ≤ (b.length : Int)) :
  ∃ x' y' i' h', Ev (fun k => spec_l3Right.f k b i h) (x', y', i', h') ∧ okS x' y' = true ∧ 0 ≤ i' ∧ i' ≤ (b.length : Int) := by
 obtain ⟨r1, i1, k1, e1, a1, b1, c1, d1⟩ := below_ok b hb i h 7 h0 h1 (by omega) (by omega)
 obtain ⟨x', y', i', h', hv, z⟩ := l3Right_l0 b hb r1 (by omega) r1.toNat 0 i1 k1 [] [] (by omega) (by omega) c1 d1 ok_nil
 refine ⟨x', y', i', h', ?_, z⟩
 simp only [spec_l3Right.f, e1, Option.bind_some]
 exact hv
theorem l3Draw_ok (b : List Int) (hb : b.length ≤ 140737488351232) (i h : Int) (h0 : 0 ≤ i) (h1 : i ≤ (b.length : Int)) :
  ∃ x' y' i' h', Ev (fun k => spec_l3Draw.f k b i h) (x', y', i', h') ∧ x'.length ≤ 6 ∧ y'.length ≤ 6 ∧ 0 ≤ i' ∧ i' ≤ (b.length : Int) := by
 obtain ⟨x, y, i1, k1, hv, ho, c1, d1⟩ := l3Right_ok b hb i h h0 h1
 have hl := ok_len ho
 obtain ⟨q, i2, k2, e2, a2, b2, c2, d2⟩ := below_ok b hb i1 k1 14 c1 d1 (by omega) (by omega)
 simp only [spec_l3Draw.f]
 by_cases q0 : q = 0
 ·obtain ⟨r1, i3, k3, e3, _, _, c3, d3⟩ := below_ok b hb i2 k2 7 c2 d2 (by omega) (by omega)
  obtain ⟨t0, t1, t2, t3, s, i4, k4, e4, c4, d4⟩ := draw_ok b hb i3 k3 c3 d3
  refine ⟨x ++ [⟨wrap64 (r1 - 1), ⟨t0, t1, t2, t3, s⟩⟩], y, i4, k4, ?_, by simp; omega, by omega, c4, d4⟩
  refine Ev.bind hv ?_
  simp only [e2, Option.bind_some, if_pos q0, e3, e4, if_pos (show x.length < 2513169434916 by omega)]
  exact evSome _
 by_cases q1 : q = 1
 ·obtain ⟨r1, i3, k3, e3, _, _, c3, d3⟩ := below_ok b hb i2 k2 7 c2 d2 (by omega) (by omega)
  obtain ⟨t0, i4, k4, e4, _, c4, d4⟩ := pickInt_ok b hb i3 k3 c3 d3 [0, 1, 5, 1001] (by simp) (by simp)
  refine ⟨x, y ++ [⟨wrap64 (r1 - 1), t0⟩], i4, k4, ?_, by omega, by simp; omega, c4, d4⟩
  refine Ev.bind hv ?_
  simp only [e2, Option.bind_some, if_neg q0, if_pos q1, e3, e4, if_pos (show y.length < 8796093022208 by omega)]
  exact evSome _
 by_cases q2 : q = 2
 ·by_cases hx : (x.length : Int) > 0
  ·obtain ⟨r1, i3, k3, e3, a3, b3, c3, d3⟩ := below_ok b hb i2 k2 (x.length : Int) c2 d2 (by omega) (by omega)
   obtain ⟨t0, t1, t2, t3, s, i4, k4, e4, c4, d4⟩ := draw_ok b hb i3 k3 c3 d3
   refine ⟨x.set r1.toNat ⟨(rd_T44 x r1).f0, ⟨t0, t1, t2, t3, s⟩⟩, y, i4, k4, ?_, ?_, by omega, c4, d4⟩
   ·refine Ev.bind hv ?_
    simp only [e2, Option.bind_some, if_neg q0, if_neg q1, if_pos q2, if_pos hx, e3, e4, if_pos a3, if_pos b3]
    exact evSome _
   ·rw [List.length_set]; omega
  ·refine ⟨x, y, i2, k2, ?_, by omega, by omega, c2, d2⟩
   refine Ev.bind hv ?_
   simp only [e2, Option.bind_some, if_neg q0, if_neg q1, if_pos q2, if_neg hx]
   exact evSome _
 by_cases q3 : q = 3
 ·by_cases hx : (x.length : Int) > 1
  ·refine ⟨x.set (0 : Int).toNat ⟨(rd_T44 x 1).f0, ⟨(rd_T44 x 1).f1.f0, (rd_T44 x 1).f1.f1, (rd_T44 x 1).f1.f2, (rd_T44 x 1).f1.f3, (rd_T44 x 1).f1.f4⟩⟩, y, i2, k2, ?_, ?_, by omega, c2, d2⟩
   ·refine Ev.bind hv ?_
    simp only [e2, Option.bind_some, if_neg q0, if_neg q1, if_neg q2, if_pos q3, if_pos hx, if_pos (show (1 : Int) < (x.length : Int) by omega), if_pos (show (0 : Int) < (x.length : Int) by omega)]
    exact evSome _
   ·rw [List.length_set]; omega
  ·refine ⟨x, y, i2, k2, ?_, by omega, by omega, c2, d2⟩
   refine Ev.bind hv ?_
   simp only [e2, Option.bind_some, if_neg q0, if_neg q1, if_neg q2, if_pos q3, if_neg hx]
   exact evSome _
 refine ⟨x, y, i2, k2, ?_, by omega, by omega, c2, d2⟩
 refine Ev.bind hv ?_
 simp only [e2, Option.bind_some, if_neg q0, if_neg q1, if_neg q2, if_neg q3]
 exact evSome _
theorem l1New_l (b : List Int) (hb : b.length ≤ 140737488351232) : ∀ (d j : Nat) (h : Int), j + d = b.length → ∃ h', Ev (fun k => spec_l1New.l0 k b h (j : Int)) (b, 0, h') := by
 intro d
 induction d with
 | zero =>
  intro j h e
  exact ⟨h, evRet fun k => by simp only [spec_l1New.l0]; rw [if_neg (by omega)]⟩
 | succ d ih =>
  intro j h e
  by_cases c : (j : Int) < 4000
  ·obtain ⟨h', hv⟩ := ih (j + 1) (Go.bits .and .i64 (wrap64 ((wrap64 ((wrap64 (h * 131)) + (wrap64 (rd b (j : Int))))) + 7)) 1073741823) (by omega)
   refine ⟨h', evStep hv fun k => ?_⟩
   simp only [spec_l1New.l0]
   rw [if_pos (by omega), if_pos c, if_pos (by omega), w64 (n := (j : Int) + 1) (by omega) (by omega)]
   rfl
  ·exact ⟨h, evRet fun k => by simp only [spec_l1New.l0]; rw [if_pos (by omega), if_neg c]⟩
theorem l1New_ok (b : List Int) (hb : b.length ≤ 140737488351232) : ∃ h', Ev (fun k => spec_l1New.f k b) (b, 0, h') := by
 obtain ⟨h', hv⟩ := l1New_l b hb b.length 0 (wrap64 (26583 + (b.length : Int))) (by omega)
 exact ⟨h', hv⟩
theorem l3Two_ok (b : List Int) (hb : b.length ≤ 140737488351232) : ∃ x y x' y', Ev (fun k => spec_l3Two.f k b) (x, y, x', y') ∧ x.length ≤ 6 ∧ y.length ≤ 6 ∧ x'.length ≤ 6 ∧ y'.length ≤ 6 := by
 obtain ⟨h0, e0⟩ := l1New_ok b hb
 obtain ⟨x, y, i1, k1, e1, l1, m1, c1, d1⟩ := l3Draw_ok b hb 0 h0 (by omega) (by omega)
 obtain ⟨x', y', i2, k2, e2, l2, m2, c2, d2⟩ := l3Draw_ok b hb i1 k1 c1 d1
 obtain ⟨q, i3, k3, e3, _, _, c3, d3⟩ := below_ok b hb i2 k2 5 c2 d2 (by omega) (by omega)
 simp only [spec_l3Two.f]
 by_cases q0 : q = 0
 ·refine ⟨x, y, x, y, ?_, l1, m1, l1, m1⟩
  refine Ev.bind e0 ?_
  refine Ev.bind e1 ?_
  refine Ev.bind e2 ?_
  simp only [e3, Option.bind_some, if_pos q0, spec_l3Copy.f, List.length_nil, if_pos (show 0 + x.length < 2513169434916 by omega), if_pos (show 0 + y.length < 8796093022208 by omega), List.nil_append]
  exact evSome _
 by_cases q1 : q = 1
 ·by_cases o1 : okS x y = true
  ·by_cases o2 : okS x' y' = true
   ·have hl := joinS_len x y x' y'
    refine ⟨x, y, (joinS x y x' y').1, (joinS x y x' y').2, ?_, l1, m1, by omega, by omega⟩
    refine Ev.bind e0 ?_
    refine Ev.bind e1 ?_
    refine Ev.bind e2 ?_
    simp only [e3, Option.bind_some, if_neg q0, if_pos q1]
    refine Ev.bind (spec_StateOk_ev x y (by omega) (by omega)) ?_
    simp only [if_pos o1]
    refine Ev.bind (spec_StateOk_ev x' y' (by omega) (by omega)) ?_
    simp only [if_pos o2]
    refine Ev.bind (spec_l3Join_ev x y x' y' (by omega) (by omega) (by omega) (by omega) o1 o2) ?_
    exact evSome _
   ·refine ⟨x, y, x', y', ?_, l1, m1, l2, m2⟩
    refine Ev.bind e0 ?_
    refine Ev.bind e1 ?_
    refine Ev.bind e2 ?_
    simp only [e3, Option.bind_some, if_neg q0, if_pos q1]
    refine Ev.bind (spec_StateOk_ev x y (by omega) (by omega)) ?_
    simp only [if_pos o1]
    refine Ev.bind (spec_StateOk_ev x' y' (by omega) (by omega)) ?_
    simp only [if_neg o2]
    exact evSome _
  ·refine ⟨x, y, x', y', ?_, l1, m1, l2, m2⟩
   refine Ev.bind e0 ?_
   refine Ev.bind e1 ?_
   refine Ev.bind e2 ?_
   simp only [e3, Option.bind_some, if_neg q0, if_pos q1]
   refine Ev.bind (spec_StateOk_ev x y (by omega) (by omega)) ?_
   simp only [if_neg o1]
   exact evSome _
 refine ⟨x, y, x', y', ?_, l1, m1, l2, m2⟩
 refine Ev.bind e0 ?_
 refine Ev.bind e1 ?_
 refine Ev.bind e2 ?_
 simp only [e3, Option.bind_some, if_neg q0, if_neg q1]
 exact evSome _
theorem joinO_ok {a : List S44} {b : List S58} {c : List S44} {e : List S58} (h : okS a b = true) (h' : okS c e = true) : joinO a b c e = ((joinS a b c e).1, (joinS a b c e).2, true) := by
 unfold joinO; rw [if_pos h, if_pos h']
def leqS (a : List S44) (b : List S58) (c : List S44) (e : List S58) : Bool :=
 if okS a b = true then (if okS c e = true then sameS (joinS a b c e).1 (joinS a b c e).2 c e else false) else false
theorem impl_StateLeq_ev (a : List S44) (b : List S58) (c : List S44) (e : List S58) (ha : a.length ≤ 2097152) (hb : b.length ≤ 2097152) (hc : c.length ≤ 2097152) (he : e.length ≤ 2097152) : Ev (fun k => impl_StateLeq.f k a b c e) (leqS a b c e) := by
 simp only [impl_StateLeq.f, leqS]
 refine Ev.bind (impl_StateJoin_ev a b c e ha hb hc he) ?_
 have hj := joinS_len a b c e
 by_cases o1 : okS a b = true
 ·by_cases o2 : okS c e = true
  ·simp only [joinO, if_pos o1, if_pos o2, if_true]
   refine Ev.bind (impl_StateSame_ev _ _ _ _ (by omega) (by omega)) ?_
   exact evSome _
  ·simp only [joinO, if_pos o1, if_neg o2, Bool.false_eq_true, if_false]; exact evSome _
 ·simp only [joinO, if_neg o1, Bool.false_eq_true, if_false]; exact evSome _
theorem sameI_eq : ∀ (l m : List S44), l.length = m.length → sameI l m = true → l = m
 | [], [], _, _ => rfl
 | [], _ :: _, h, _ => by simp at h
 | _ :: _, [], h, _ => by simp at h
 | x :: r, y :: q, h, e => by
  unfold sameI at e
  split at e
  ·cases e
  ·rename_i c
   have ih := sameI_eq r q (by simpa using h) e
   obtain ⟨x0, ⟨x1, x2, x3, x4, x5⟩⟩ := x
   obtain ⟨y0, ⟨y1, y2, y3, y4, y5⟩⟩ := y
   simp only [Bool.not_eq_true, Bool.or_eq_false_iff, Bool.not_eq_false', beq_iff_eq] at c
   obtain ⟨c0, c1, c2, c3, c4, c5⟩ := c
   rw [Lib.toList_data, Lib.toList_data] at c5
   have c6 := bytes_ext c5
   subst c0 c1 c2 c3 c4 c6 ih
   rfl
theorem sameF_eq : ∀ (l m : List S58), l.length = m.length → sameF l m = true → l = m
 | [], [], _, _ => rfl
 | [], _ :: _, h, _ => by simp at h
 | _ :: _, [], h, _ => by simp at h
 | x :: r, y :: q, h, e => by
  unfold sameF at e
  split at e
  ·cases e
  ·rename_i c
   have ih := sameF_eq r q (by simpa using h) e
   obtain ⟨x0, x1⟩ := x
   obtain ⟨y0, y1⟩ := y
   simp only [Bool.not_eq_true, Bool.or_eq_false_iff, Bool.not_eq_false', beq_iff_eq] at c
   obtain ⟨c0, c1⟩ := c
   subst c0 c1 ih
   rfl
theorem leq_iff (a : List S44) (b : List S58) (c : List S44) (e : List S58) : leqS a b c e = true ↔ okS a b = true ∧ okS c e = true ∧ joinS a b c e = (c, e) := by
 unfold leqS
 constructor
 ·intro h
  split at h
  ·rename_i o1
   split at h
   ·rename_i o2
    simp only [sameS, Bool.and_eq_true, decide_eq_true_eq] at h
    obtain ⟨h1, h2, h3, h4⟩ := h
    exact ⟨o1, o2, Prod.ext (sameI_eq _ _ h1 h3) (sameF_eq _ _ h2 h4)⟩
   ·cases h
  ·cases h
 ·rintro ⟨o1, o2, h⟩
  rw [if_pos o1, if_pos o2, h]
  exact sameS_self c e
abbrev EntL := Int × Int × Int × Int × ByteArray × Bool
def cmpE (x : S44) (y : EntL) : Int := ecmp x.f1.f0 x.f1.f1 x.f1.f2 x.f1.f3 x.f1.f4 y.1 y.2.1 y.2.2.1 y.2.2.2.1 y.2.2.2.2.1
def lackP (a : List S44) (b : List S58) (x : S44) : Bool := (!(entOf a x.f0).2.2.2.2.2 || decide (cmpE x (entOf a x.f0) > 0)) && decide (x.f1.f0 > floOf b x.f0)
def lacksI (a : List S44) (b : List S58) (l : List S44) : List S44 := l.filter (lackP a b)
def lacksF (b : List S58) (l : List S58) : List S58 := l.filter fun x => decide (x.f1 > floOf b x.f0)
def lacksR (a : List S44) (b : List S58) (c : List S44) (e : List S58) : List S44 × List S58 := if (okS a b && okS c e) = true then (lacksI a b c, lacksF b e) else ([], [])
theorem lacksR_len (a : List S44) (b : List S58) (c : List S44) (e : List S58) : (lacksR a b c e).1.length ≤ c.length ∧ (lacksR a b c e).2.length ≤ e.length := by
 unfold lacksR
 split
 ·exact ⟨List.length_filter_le _ _, List.length_filter_le _ _⟩
 ·simp
theorem lacksI_pos {a : List S44} {b : List S58} {x : S44} {l : List S44} (h : lackP a b x = true) : lacksI a b (x :: l) = x :: lacksI a b l := by unfold lacksI; rw [List.filter_cons_of_pos h]
theorem lacksI_neg {a : List S44} {b : List S58} {x : S44} {l : List S44} (h : lackP a b x = false) : lacksI a b (x :: l) = lacksI a b l := by unfold lacksI; rw [List.filter_cons_of_neg (by rw [h]; exact Bool.false_ne_true)]
theorem lacksF_pos {b : List S58} {x : S58} {l : List S58} (h : x.f1 > floOf b x.f0) : lacksF b (x :: l) = x :: lacksF b l := by unfold lacksF; rw [List.filter_cons_of_pos (by simpa using h)]
theorem lacksF_neg {b : List S58} {x : S58} {l : List S58} (h : ¬ x.f1 > floOf b x.f0) : lacksF b (x :: l) = lacksF b l := by unfold lacksF; rw [List.filter_cons_of_neg (by simpa using h)]
theorem spec_Lacks_l1 (a : List S44) (b : List S58) (c : List S44) (e : List S58) (hb : b.length ≤ 2097152) (he : e.length ≤ 2097152) (il : List S44) : ∀ (d i : Nat) (acc : List S58), i + d = e.length → acc.length ≤ i →
  Ev (fun k => spec_Lacks.l1 k (i : Int) a b c e il acc) (il, acc ++ lacksF b (e.drop i)) := by
 intro d
 induction d with
 | zero =>
  intro i acc h _
  rw [List.drop_eq_nil_of_le (by omega)]
  exact evRet fun k => by simp only [spec_Lacks.l1]; rw [if_neg (by omega)]; simp [lacksF]
 | succ d ih =>
  intro i acc h ha
  have hi : i < e.length := by omega
  rw [List.drop_eq_getElem_cons hi]
  refine evSucc ?_
  simp only [spec_Lacks.l1, rdF hi]
  simp only [if_pos (show (i : Int) < (e.length : Int) by omega), if_pos (show (0 : Int) ≤ (i : Int) by omega), w64 (show (-9223372036854775808 : Int) ≤ (i : Int) + 1 by omega) (by omega), if_pos (show acc.length < 8796093022208 by omega)]
  refine Ev.bind (spec_FloorOf_ev b a _ hb) ?_
  by_cases q : e[i].f1 > floOf b e[i].f0
  ·simp only [if_pos q, lacksF_pos q]
   have := ih (i + 1) (acc ++ [e[i]]) (by omega) (by simp; omega)
   rw [List.append_assoc, List.singleton_append] at this
   exact this
  ·simp only [if_neg q, lacksF_neg q]
   exact ih (i + 1) acc (by omega) (by omega)
theorem spec_Lacks_l0 (a : List S44) (b : List S58) (c : List S44) (e : List S58) (ha : a.length ≤ 2097152) (hb : b.length ≤ 2097152) (hc : c.length ≤ 2097152) (he : e.length ≤ 2097152) : ∀ (d i : Nat) (acc : List S44), i + d = c.length → acc.length ≤ i →
  Ev (fun k => spec_Lacks.l0 k (i : Int) a b c e acc) (acc ++ lacksI a b (c.drop i), lacksF b e) := by
 intro d
 induction d with
 | zero =>
  intro i acc h _
  rw [List.drop_eq_nil_of_le (by omega)]
  have z := spec_Lacks_l1 a b c e hb he acc e.length 0 [] (by omega) (by simp)
  refine evSucc ?_
  simp only [spec_Lacks.l0]
  simp only [if_neg (show ¬ (i : Int) < (c.length : Int) by omega)]
  simpa [lacksI] using z
 | succ d ih =>
  intro i acc h hacc
  have hi : i < c.length := by omega
  rw [List.drop_eq_getElem_cons hi]
  have y1 := ih (i + 1) (acc ++ [c[i]]) (by omega) (by simp; omega)
  rw [List.append_assoc, List.singleton_append] at y1
  have y2 := ih (i + 1) acc (by omega) (by omega)
  refine evSucc ?_
  simp only [spec_Lacks.l0, rdI hi]
  simp only [if_pos (show (i : Int) < (c.length : Int) by omega), if_pos (show (0 : Int) ≤ (i : Int) by omega), w64 (show (-9223372036854775808 : Int) ≤ (i : Int) + 1 by omega) (by omega), if_pos (show acc.length < 2513169434916 by omega)]
  refine Ev.bind (spec_EntryOf_ev a b _ ha) ?_
  by_cases q : (entOf a c[i].f0).2.2.2.2.2 = true
  ·simp only [if_pos q]
   refine Ev.bind (spec_EntryCmp_ev _ _ _ _ _ _ _ _ _ _) ?_
   by_cases z : cmpE c[i] (entOf a c[i].f0) > 0
   ·have z' := z
    unfold cmpE at z'
    simp only [if_pos z']
    refine Ev.bind (spec_FloorOf_ev b a _ hb) ?_
    by_cases t : c[i].f1.f0 > floOf b c[i].f0
    ·have p : lackP a b c[i] = true := by unfold lackP; simp only [q, decide_eq_true z, decide_eq_true t]; rfl
     simp only [if_pos t, lacksI_pos p]
     exact y1
    ·have p : lackP a b c[i] = false := by unfold lackP; simp only [q, decide_eq_true z, decide_eq_false t]; rfl
     simp only [if_neg t, lacksI_neg p]
     exact y2
   ·have p : lackP a b c[i] = false := by unfold lackP; simp only [q, decide_eq_false z]; rfl
    unfold cmpE at z
    simp only [if_neg z, lacksI_neg p]
    exact y2
  ·simp only [if_neg q]
   refine Ev.bind (spec_FloorOf_ev b a _ hb) ?_
   simp only [Bool.not_eq_true] at q
   by_cases t : c[i].f1.f0 > floOf b c[i].f0
   ·have p : lackP a b c[i] = true := by unfold lackP; simp only [q, decide_eq_true t]; rfl
    simp only [if_pos t, lacksI_pos p]
    exact y1
   ·have p : lackP a b c[i] = false := by unfold lackP; simp only [q, decide_eq_false t]; rfl
    simp only [if_neg t, lacksI_neg p]
    exact y2
theorem impl_Newer_ev (a0 a1 a2 a3 : Int) (a4 : ByteArray) (b0 b1 b2 b3 : Int) (b4 : ByteArray) : Ev (fun k => impl_Newer.f k a0 a1 a2 a3 a4 b0 b1 b2 b3 b4) (decide (ecmp a0 a1 a2 a3 a4 b0 b1 b2 b3 b4 > 0)) := by
 simp only [impl_Newer.f]
 refine Ev.bind (impl_EntryCmp_ev _ _ _ _ _ _ _ _ _ _) ?_
 exact evSome _
theorem impl_Lacks_l1 (a : List S44) (b : List S58) (e : List S58) (hb : b.length ≤ 2097152) (he : e.length ≤ 2097152) (il : List S44) : ∀ (d i : Nat) (acc : List S58), i + d = e.length → acc.length ≤ i →
  Ev (fun k => impl_Lacks.l1 k e (e.length : Int) (i : Int) a b il acc) (il, acc ++ lacksF b (e.drop i)) := by
 intro d
 induction d with
 | zero =>
  intro i acc h _
  rw [List.drop_eq_nil_of_le (by omega)]
  exact evRet fun k => by simp only [impl_Lacks.l1]; rw [if_neg (by omega)]; simp [lacksF]
 | succ d ih =>
  intro i acc h ha
  have hi : i < e.length := by omega
  rw [List.drop_eq_getElem_cons hi]
  refine evSucc ?_
  simp only [impl_Lacks.l1, rdF hi]
  simp only [if_pos (show (i : Int) < (e.length : Int) by omega), if_pos (show (0 : Int) ≤ (i : Int) by omega), w64 (show (-9223372036854775808 : Int) ≤ (i : Int) + 1 by omega) (by omega), if_pos (show acc.length < 8796093022208 by omega)]
  refine Ev.bind (impl_FloorOf_ev b a _ hb) ?_
  by_cases q : e[i].f1 > floOf b e[i].f0
  ·simp only [if_pos q, lacksF_pos q]
   have := ih (i + 1) (acc ++ [e[i]]) (by omega) (by simp; omega)
   rw [List.append_assoc, List.singleton_append] at this
   exact this
  ·simp only [if_neg q, lacksF_neg q]
   exact ih (i + 1) acc (by omega) (by omega)
theorem impl_Lacks_l0 (a : List S44) (b : List S58) (c : List S44) (e : List S58) (ha : a.length ≤ 2097152) (hb : b.length ≤ 2097152) (hc : c.length ≤ 2097152) (he : e.length ≤ 2097152) : ∀ (d i : Nat) (acc : List S44), i + d = c.length → acc.length ≤ i →
  Ev (fun k => impl_Lacks.l0 k c (c.length : Int) (i : Int) a b c e acc) (acc ++ lacksI a b (c.drop i), lacksF b e) := by
 intro d
 induction d with
 | zero =>
  intro i acc h _
  rw [List.drop_eq_nil_of_le (by omega)]
  have z := impl_Lacks_l1 a b e hb he acc e.length 0 [] (by omega) (by simp)
  refine evSucc ?_
  simp only [impl_Lacks.l0]
  simp only [if_neg (show ¬ (i : Int) < (c.length : Int) by omega)]
  simpa [lacksI] using z
 | succ d ih =>
  intro i acc h hacc
  have hi : i < c.length := by omega
  rw [List.drop_eq_getElem_cons hi]
  have y1 := ih (i + 1) (acc ++ [c[i]]) (by omega) (by simp; omega)
  rw [List.append_assoc, List.singleton_append] at y1
  have y2 := ih (i + 1) acc (by omega) (by omega)
  refine evSucc ?_
  simp only [impl_Lacks.l0, rdI hi]
  simp only [if_pos (show (i : Int) < (c.length : Int) by omega), if_pos (show (0 : Int) ≤ (i : Int) by omega), w64 (show (-9223372036854775808 : Int) ≤ (i : Int) + 1 by omega) (by omega), if_pos (show acc.length < 2513169434916 by omega)]
  refine Ev.bind (impl_EntryOf_ev a b _ ha) ?_
  by_cases q : (entOf a c[i].f0).2.2.2.2.2 = true
  ·simp only [if_pos q]
   refine Ev.bind (impl_Newer_ev _ _ _ _ _ _ _ _ _ _) ?_
   simp only [decide_eq_true_eq]
   by_cases z : cmpE c[i] (entOf a c[i].f0) > 0
   ·have z' := z
    unfold cmpE at z'
    simp only [if_pos z']
    refine Ev.bind (impl_FloorOf_ev b a _ hb) ?_
    by_cases t : c[i].f1.f0 > floOf b c[i].f0
    ·have p : lackP a b c[i] = true := by unfold lackP; simp only [q, decide_eq_true z, decide_eq_true t]; rfl
     simp only [if_pos t, lacksI_pos p]
     exact y1
    ·have p : lackP a b c[i] = false := by unfold lackP; simp only [q, decide_eq_true z, decide_eq_false t]; rfl
     simp only [if_neg t, lacksI_neg p]
     exact y2
   ·have p : lackP a b c[i] = false := by unfold lackP; simp only [q, decide_eq_false z]; rfl
    unfold cmpE at z
    simp only [if_neg z, lacksI_neg p]
    exact y2
  ·simp only [if_neg q]
   refine Ev.bind (impl_FloorOf_ev b a _ hb) ?_
   simp only [Bool.not_eq_true] at q
   by_cases t : c[i].f1.f0 > floOf b c[i].f0
   ·have p : lackP a b c[i] = true := by unfold lackP; simp only [q, decide_eq_true t]; rfl
    simp only [if_pos t, lacksI_pos p]
    exact y1
   ·have p : lackP a b c[i] = false := by unfold lackP; simp only [q, decide_eq_false t]; rfl
    simp only [if_neg t, lacksI_neg p]
    exact y2
theorem spec_Lacks_ev (a : List S44) (b : List S58) (c : List S44) (e : List S58) (ha : a.length ≤ 2097152) (hb : b.length ≤ 2097152) (hc : c.length ≤ 2097152) (he : e.length ≤ 2097152) : Ev (fun k => spec_Lacks.f k a b c e) (lacksR a b c e) := by
 simp only [spec_Lacks.f, lacksR]
 refine Ev.bind (spec_StateOk_ev a b ha hb) ?_
 cases o1 : okS a b
 ·simp only [Bool.false_eq_true, if_false, Bool.false_and]
  refine evSucc ?_
  simp only [spec_Lacks.j0, if_true]
  exact evSome _
 ·simp only [if_true, Bool.true_and]
  refine Ev.bind (spec_StateOk_ev c e hc he) ?_
  refine evSucc ?_
  cases o2 : okS c e
  ·simp only [spec_Lacks.j0, Bool.not_false, if_true, Bool.false_eq_true, if_false]
   exact evSome _
  ·simp only [spec_Lacks.j0, Bool.not_true, if_true, Bool.false_eq_true, if_false]
   have h := spec_Lacks_l0 a b c e ha hb hc he c.length 0 [] (by omega) (by simp)
   rw [List.drop_zero, List.nil_append] at h
   exact h
theorem impl_Lacks_ev (a : List S44) (b : List S58) (c : List S44) (e : List S58) (ha : a.length ≤ 2097152) (hb : b.length ≤ 2097152) (hc : c.length ≤ 2097152) (he : e.length ≤ 2097152) : Ev (fun k => impl_Lacks.f k a b c e) (lacksR a b c e) := by
 simp only [impl_Lacks.f, lacksR]
 refine Ev.bind (impl_StateOk_ev a b ha hb) ?_
 cases o1 : okS a b
 ·simp only [Bool.false_eq_true, if_false, Bool.false_and]
  refine evSucc ?_
  simp only [impl_Lacks.j0, if_true]
  exact evSome _
 ·simp only [if_true, Bool.true_and]
  refine Ev.bind (impl_StateOk_ev c e hc he) ?_
  refine evSucc ?_
  cases o2 : okS c e
  ·simp only [impl_Lacks.j0, Bool.not_false, if_true, Bool.false_eq_true, if_false]
   exact evSome _
  ·simp only [impl_Lacks.j0, Bool.not_true, if_true, Bool.false_eq_true, if_false]
   have h := impl_Lacks_l0 a b c e ha hb hc he c.length 0 [] (by omega) (by simp)
   rw [List.drop_zero, List.nil_append] at h
   exact h
/-- What another one lacks, node by node. -/
def lE (x y : Option E5) (f : Int) : Option E5 := match y with
 | none => none
 | some v => if (((x.isNone || decide (ec v (eZ x) > 0)) && decide (v.1 > f)) = true) then some v else none
def lF (f g : Int) : Int := if g > f then g else 0
theorem lackP_eq (a : List S44) (b : List S58) (i : Int) (v : E5) : lackP a b ⟨i, ⟨v.1, v.2.1, v.2.2.1, v.2.2.2.1, v.2.2.2.2⟩⟩ = (((oE a i).isNone || decide (ec v (eZ (oE a i)) > 0)) && decide (v.1 > floOf b i)) := by
 have h1 : (!(entOf a i).2.2.2.2.2) = (oE a i).isNone := by rw [ent_of]; cases oE a i <;> rfl
 have h2 : cmpE ⟨i, ⟨v.1, v.2.1, v.2.2.1, v.2.2.2.1, v.2.2.2.2⟩⟩ (entOf a i) = ec v (eZ (oE a i)) := by rw [← ent5_of]; rfl
 unfold lackP
 simp only [h1, h2]
theorem lacksI_kI (a : List S44) (b : List S58) (g : Int → Option E5) : ∀ (n : Nat) (i : Int), lacksI a b (kI g n i) = kI (fun j => lE (oE a j) (g j) (floOf b j)) n i
 | 0, _ => rfl
 | n + 1, i => by
  simp only [kI]
  rw [show ∀ x y : List S44, lacksI a b (x ++ y) = lacksI a b x ++ lacksI a b y from fun x y => List.filter_append .., lacksI_kI a b g n (i + 1)]
  congr 1
  cases hg : g i with
  | none => rfl
  | some v =>
   simp only [lE]
   by_cases h : (((oE a i).isNone || decide (ec v (eZ (oE a i)) > 0)) && decide (v.1 > floOf b i)) = true
   ·rw [if_pos h, lacksI_pos (by rw [lackP_eq]; exact h)]; rfl
   ·rw [if_neg h, lacksI_neg (by rw [lackP_eq]; exact Bool.eq_false_iff.2 h)]; rfl
theorem lacksF_kF (b : List S58) (f : Int → Int) (hb : ∀ j, 0 ≤ floOf b j) : ∀ (n : Nat) (i : Int), lacksF b (kF f n i) = kF (fun j => lF (floOf b j) (f j)) n i
 | 0, _ => rfl
 | n + 1, i => by
  have hbi := hb i
  simp only [kF]
  rw [show ∀ x y : List S58, lacksF b (x ++ y) = lacksF b x ++ lacksF b y from fun x y => List.filter_append .., lacksF_kF b f hb n (i + 1)]
  congr 1
  unfold lF
  by_cases h : f i > 0
  ·by_cases h2 : f i > floOf b i
   ·rw [if_pos h, lacksF_pos h2, if_pos h2, if_pos h]; rfl
   ·rw [if_pos h, lacksF_neg h2, if_neg h2, if_neg (by omega)]; rfl
  ·rw [if_neg h, if_neg (show ¬ f i > floOf b i by omega), if_neg (by omega)]; rfl
theorem lE_some {x y : Option E5} {f : Int} {v : E5} (h : lE x y f = some v) : y = some v := by
 unfold lE at h
 split at h
 ·cases h
 ·split at h
  ·exact h
  ·cases h
section
variable {a c : List S44} {b e : List S58}
theorem lacks_eq (h : okS a b = true) (h' : okS c e = true) : lacksI a b c = kI (fun j => lE (oE a j) (oE c j) (floOf b j)) 5 0 ∧ lacksF b e = kF (fun j => lF (floOf b j) (floOf e j)) 5 0 :=
 ⟨(congrArg (lacksI a b) (ok_items h')).trans (lacksI_kI a b _ 5 0), (congrArg (lacksF b) (ok_floors h')).trans (lacksF_kF b _ (fun j => ((okP_of h) j).2.1) 5 0)⟩
theorem lacks_okP (h : okS a b = true) (h' : okS c e = true) : okP (fun j => lE (oE a j) (oE c j) (floOf b j)) (fun j => lF (floOf b j) (floOf e j)) := by
 intro i
 obtain ⟨p1, p2, p3⟩ := (okP_of h') i
 refine ⟨fun v hv => ?_, ?_, ?_⟩
 ·obtain ⟨q1, q2⟩ := p1 v (lE_some hv)
  refine ⟨q1, ?_⟩
  simp only [lF]
  split <;> omega
 ·simp only [lF]; split <;> omega
 ·simp only [lF]; split <;> omega
theorem lacks_ok (h : okS a b = true) (h' : okS c e = true) : okS (lacksI a b c) (lacksF b e) = true := by
 obtain ⟨e1, e2⟩ := lacks_eq h h'
 rw [e1, e2]
 exact ok_mk (lacks_okP h h')
theorem lacks_E (h : okS a b = true) (h' : okS c e = true) {i : Int} (h0 : 0 ≤ i) (h4 : i ≤ 4) : oE (lacksI a b c) i = lE (oE a i) (oE c i) (floOf b i) := by
 rw [(lacks_eq h h').1, oE_kI, if_pos (by omega)]
theorem lacks_F (h : okS a b = true) (h' : okS c e = true) {i : Int} (h0 : 0 ≤ i) (h4 : i ≤ 4) : floOf (lacksF b e) i = lF (floOf b i) (floOf e i) := by
 rw [(lacks_eq h h').2, flo_kF _ (fun j => ((lacks_okP h h') j).2.1), if_pos (by omega)]
theorem mxE_zero {x : E5} (h : leE zeroE x) : mxE x zeroE = x := by rw [mxE_comm]; exact mxE_of_le h
theorem leE_of_inc {x y : E5} (h : x.1 < y.1) : leE x y := by
 have : ec x y < 0 := (ec_lt_iff x y).2 (.inl h)
 have := ec_neg x y
 unfold leE
 omega
/-- Joined with what it lacks, it is joined with all. -/
theorem lacks_join (h : okS a b = true) (h' : okS c e = true) : joinS a b (lacksI a b c) (lacksF b e) = joinS a b c e := by
 have o := lacks_ok h h'
 have hh := ok_ext (join_ok h o) (join_ok h h') (fun i h0 h4 => ?_) (fun i h0 h4 => ?_)
 ·exact Prod.ext hh.1 hh.2
 ·rw [join_E h0 h4, join_E h0 h4, lacks_E h h' h0 h4, lacks_F h h' h0 h4]
  obtain ⟨p1, p2, p3⟩ := (okP_of h) i
  obtain ⟨q1, q2, q3⟩ := (okP_of h') i
  have z := okP_zero (okP_of h) i
  have ef : jF (floOf b i) (lF (floOf b i) (floOf e i)) = jF (floOf b i) (floOf e i) := by
   unfold jF lF maxI
   repeat' split
   all_goals omega
  have eg : floOf b i ≤ jF (floOf b i) (floOf e i) := by unfold jF maxI; split <;> omega
  rw [ef]
  cases hy : oE c i with
  | none => rfl
  | some v =>
   simp only [lE]
   by_cases k : ((((oE a i).isNone || decide (ec v (eZ (oE a i)) > 0)) && decide (v.1 > floOf b i)) = true)
   ·rw [if_pos k]
   ·rw [if_neg k]
    have zv : leE zeroE v := by have := okP_zero (okP_of h') i; rw [hy] at this; exact this
    cases hx : oE a i with
    | none =>
     rw [hx] at k
     simp at k
     have e1 : eZ (none : Option E5) = zeroE := rfl
     have e2 : eZ (some v) = v := rfl
     unfold jE
     rw [e1, e2, mxE_self, mxE_of_le zv, if_neg (show ¬ zeroE.1 > jF (floOf b i) (floOf e i) by simp only [zeroE]; omega), if_neg (by omega)]
    | some u =>
     rw [hx] at k
     simp [eZ] at k
     have hu := (p1 u hx).2
     have le : leE v u := by
      unfold leE
      have hn := ec_neg v u
      by_cases t : v.1 > floOf b i
      ·intro t2
       have := k (by omega)
       omega
      ·exact leE_of_inc (by omega)
     have e1 : eZ (some u) = u := rfl
     have e2 : eZ (some v) = v := rfl
     have e3 : eZ (none : Option E5) = zeroE := rfl
     have zu : leE zeroE u := by rw [hx] at z; exact z
     unfold jE
     rw [e1, e2, e3, mxE_zero zu, mxE_comm u v, mxE_of_le le]
 ·rw [join_F h o h0 h4, join_F h h' h0 h4, lacks_F h h' h0 h4]
  obtain ⟨p1, p2, p3⟩ := (okP_of h) i
  unfold jF lF maxI
  repeat' split
  all_goals omega
/-- What it lacks is beneath what it is taken from. -/
theorem lacks_leq (h : okS a b = true) (h' : okS c e = true) : joinS (lacksI a b c) (lacksF b e) c e = (c, e) := by
 have o := lacks_ok h h'
 have hh := ok_ext (join_ok o h') h' (fun i h0 h4 => ?_) (fun i h0 h4 => ?_)
 ·exact Prod.ext hh.1 hh.2
 ·rw [join_E h0 h4, lacks_E h h' h0 h4, lacks_F h h' h0 h4]
  obtain ⟨p1, p2, p3⟩ := (okP_of h) i
  obtain ⟨q1, q2, q3⟩ := (okP_of h') i
  have ef : jF (lF (floOf b i) (floOf e i)) (floOf e i) = floOf e i := by
   unfold jF lF maxI
   repeat' split
   all_goals omega
  rw [ef]
  have zc := okP_zero (okP_of h') i
  have sw : ∀ x y f, jE x y f = jE y x f := jE_comm
  rw [sw]
  refine jE_le q2 ?_ (fun v hv => (q1 v hv).2)
  cases hy : oE c i with
  | none => exact leE_refl _
  | some v =>
   simp only [lE]
   split
   ·exact leE_refl _
   ·rw [hy] at zc; exact zc
 ·rw [join_F o h' h0 h4, lacks_F h h' h0 h4]
  obtain ⟨q1, q2, q3⟩ := (okP_of h') i
  unfold jF lF maxI
  repeat' split
  all_goals omega
/-- The join lacks nothing of it. -/
theorem lacks_none (h : okS a b = true) (h' : okS c e = true) : lacksI (joinS a b c e).1 (joinS a b c e).2 c = [] ∧ lacksF (joinS a b c e).2 e = [] := by
 have o := join_ok h h'
 obtain ⟨e1, e2⟩ := lacks_eq o h'
 constructor
 ·rw [e1, kI_congr (g' := fun _ => none) 5 0 (fun i h0 h4 => ?_)]
  ·rfl
  ·obtain ⟨q1, q2, q3⟩ := (okP_of h') i
   rw [join_E h0 (by omega), join_F h h' h0 (by omega)]
   cases hy : oE c i with
   | none => rfl
   | some v =>
    simp only [lE]
    have hm := mxE_right (eZ (oE a i)) v
    have e2 : eZ (some v) = v := rfl
    refine if_neg ?_
    unfold jE
    rw [e2]
    by_cases t : (mxE (eZ (oE a i)) v).1 > jF (floOf b i) (floOf e i)
    ·rw [if_pos t]
     have hn := ec_neg v (mxE (eZ (oE a i)) v)
     unfold leE at hm
     rw [show eZ (some (mxE (eZ (oE a i)) v)) = mxE (eZ (oE a i)) v from rfl]
     simp
     omega
    ·have := leE_inc hm
     simp
     intro _
     omega
 ·rw [e2, kF_congr (g' := fun _ => 0) 5 0 (fun i h0 h4 => ?_)]
  ·rfl
  ·rw [join_F h h' h0 (by omega)]
   unfold jF lF maxI
   repeat' split
   all_goals omega
end
theorem big_eq (l : List Int) : laws_big.f l = some (decide ((l.length : Int) > 1048576)) := rfl
theorem FnLacks : laws_FnLacks.Pure := by
 intro l hl hl2 _
 apply Ev.rounds
 have hb : l.length ≤ 140737488351232 := by omega
 simp only [laws_FnLacks.f, big_eq, Option.bind_some]
 by_cases hbig : (l.length : Int) > 1048576
 ·simp only [decide_eq_true hbig, if_true]; exact evSome _
 simp only [decide_eq_false hbig, Bool.false_eq_true, if_false]
 obtain ⟨x, y, x', y', hv, l1, m1, l2, m2⟩ := l3Two_ok l hb
 have hd : Ev (fun k => spec_DrawLacks.f k l) (x, y, x', y') := by
  simp only [spec_DrawLacks.f]
  refine Ev.bind hv ?_
  exact evSome _
 refine Ev.bind hd ?_
 obtain ⟨r1, r2⟩ := lacksR_len x y x' y'
 refine Ev.bind (impl_Lacks_ev x y x' y' (by omega) (by omega) (by omega) (by omega)) ?_
 refine Ev.bind (spec_Lacks_ev x y x' y' (by omega) (by omega) (by omega) (by omega)) ?_
 refine Ev.bind (spec_StateSame_ev _ _ _ _ (by omega) (by omega)) ?_
 simp only [sameS_self, if_true]
 refine Ev.bind (spec_StateOk_ev x y (by omega) (by omega)) ?_
 have hno : ¬ (okS x y = true ∧ okS x' y' = true) → Ev (fun k => laws_FnLacks.j0 k true x y x' y' (lacksR x y x' y').1 (lacksR x y x' y').2) true := fun ho => by
  refine evSucc ?_
  have e : lacksR x y x' y' = ([], []) := by unfold lacksR; rw [if_neg (by simpa using ho)]
  simp only [laws_FnLacks.j0, if_true, e, List.length_nil]
  refine Ev.bind (impl_StateLeq_ev x y x' y' (by omega) (by omega) (by omega) (by omega)) ?_
  have e2 : leqS x y x' y' = false := Bool.eq_false_iff.2 fun h => ho ⟨((leq_iff x y x' y').1 h).1, ((leq_iff x y x' y').1 h).2.1⟩
  rw [e2]
  exact evSome _
 by_cases o1 : okS x y = true
 ·simp only [if_pos o1]
  refine Ev.bind (spec_StateOk_ev x' y' (by omega) (by omega)) ?_
  by_cases o2 : okS x' y' = true
  ·rw [o2]
   have e : lacksR x y x' y' = (lacksI x y x', lacksF y y') := by unfold lacksR; rw [if_pos (by simp [o1, o2])]
   rw [e] at r1 r2 ⊢
   have od := lacks_ok o1 o2
   have j1 := join_ok o1 o2
   have n1 := ok_len j1
   have n2 := ok_len od
   have n3 := joinS_len x y x' y'
   obtain ⟨z1, z2⟩ := lacks_none o1 o2
   refine evSucc ?_
   simp only [laws_FnLacks.j0, Bool.not_true, Bool.false_eq_true, if_false]
   refine Ev.bind (impl_StateJoin_ev x y (lacksI x y x') (lacksF y y') (by omega) (by omega) (by omega) (by omega)) ?_
   refine Ev.bind (impl_StateJoin_ev x y x' y' (by omega) (by omega) (by omega) (by omega)) ?_
   rw [joinO_ok o1 od, joinO_ok o1 o2, lacks_join o1 o2]
   refine Ev.bind (impl_Lacks_ev _ _ x' y' (by show (joinS x y x' y').1.length ≤ _; omega) (by show (joinS x y x' y').2.length ≤ _; omega) (by omega) (by omega)) ?_
   have e3 : lacksR (joinS x y x' y').1 (joinS x y x' y').2 x' y' = ([], []) := by unfold lacksR; rw [if_pos (by simp [j1, o2]), z1, z2]
   simp only [if_true, e3]
   refine Ev.bind (impl_StateSame_ev _ _ _ _ (by show (joinS x y x' y').1.length ≤ _; omega) (by show (joinS x y x' y').2.length ≤ _; omega)) ?_
   simp only [sameS_self, if_true]
   refine Ev.bind (impl_StateLeq_ev x y _ _ (by omega) (by omega) (by show (joinS x y x' y').1.length ≤ _; omega) (by show (joinS x y x' y').2.length ≤ _; omega)) ?_
   have q1 : leqS x y (joinS x y x' y').1 (joinS x y x' y').2 = true := (leq_iff _ _ _ _).2 ⟨o1, j1, by rw [← join_assoc o1 o1 o2, join_self o1]⟩
   have q2 : leqS x' y' (joinS x y x' y').1 (joinS x y x' y').2 = true := (leq_iff _ _ _ _).2 ⟨o2, j1, by rw [join_comm (a := x) (b := y), ← join_assoc o2 o2 o1, join_self o2]⟩
   have q3 : leqS (lacksI x y x') (lacksF y y') x' y' = true := (leq_iff _ _ _ _).2 ⟨od, o2, lacks_leq o1 o2⟩
   simp only [q1, if_true]
   refine Ev.bind (impl_StateLeq_ev x' y' _ _ (by omega) (by omega) (by show (joinS x y x' y').1.length ≤ _; omega) (by show (joinS x y x' y').2.length ≤ _; omega)) ?_
   simp only [q2, if_true, List.length_nil]
   simp only [if_pos (show wrap64 (((0 : Nat) : Int) + ((0 : Nat) : Int)) = 0 by rw [w64 (by omega) (by omega)]; rfl)]
   refine Ev.bind (impl_StateLeq_ev _ _ x' y' (by omega) (by omega) (by omega) (by omega)) ?_
   rw [q3]
   exact evSome _
  ·rw [Bool.eq_false_iff.2 o2]
   exact hno (fun h => o2 h.2)
 ·simp only [if_neg o1]
  exact hno (fun h => o1 h.1)
end Go.Proofs.Ytnmofppbijmhoaa.Pure
