/- What the law FnOverStays computes is true for every argument it takes. No condition. -/
import Derived.Shelf.Small.Strs
import Derived.Test.YtomlglpmljngfaaDoorPlFnOverStays
namespace Go.Proofs.YtomlglpmljngfaaDoor.Pure
open Go.RowKit Go.Proofs.YtomlglpmljngfaaDoor.P Go.Proofs.YtomlglpmljngfaaDoorW.PrintWords Go.Proofs.YtomlglpmljngfaaDoorW.PrintLast
set_option linter.unusedVariables false
set_option linter.unusedSimpArgs false
theorem w64 {n : Int} (h0 : -9223372036854775808 ≤ n) (h1 : n ≤ 9223372036854775807) : wrap64 n = n := by
 unfold wrap64; omega
theorem tmod_pos {a b : Int} (h : 0 ≤ a) : Int.tmod a b = a % b := Int.tmod_eq_emod_of_nonneg h
theorem evSome {α : Type} (r : α) : Ev (fun _ => some r) r := Ev.now r
theorem evEq {α : Type} {g f : Nat → Option α} {r : α} (k : Ev f r) (h : ∀ k, g k = f k) : Ev g r := Ev.congr h k
theorem evStep {α : Type} {g f : Nat → Option α} {r : α} (k : Ev f r) (h : ∀ k, g (k + 1) = f k) : Ev g r := Ev.step h k
theorem evRet {α : Type} {g : Nat → Option α} {r : α} (h : ∀ k, g (k + 1) = some r) : Ev g r := Ev.step h (Ev.now r)
theorem rd_nat {l : List Int} {i : Nat} (h : i < l.length) : rd l (i : Int) = l[i] := by
 unfold rd; simp [List.getD_eq_getElem?_getD, h]
theorem evSucc {α : Type} {g : Nat → Option α} {r : α} (h : Ev (fun k => g (k + 1)) r) : Ev g r := Ev.step (f := fun k => g (k + 1)) (fun _ => rfl) h
theorem rdI {l : List S63} {i : Nat} (h : i < l.length) : rd_T63 l (i : Int) = l[i] := by
 unfold rd_T63; simp [List.getD_eq_getElem?_getD, h]
theorem rdF {l : List S68} {i : Nat} (h : i < l.length) : rd_T68 l (i : Int) = l[i] := by
 unfold rd_T68; simp [List.getD_eq_getElem?_getD, h]
def entOf : List S63 → Int → Int × Int × Int × Int × ByteArray × Bool
 | [], _ => (0, 0, 0, 0, (⟨#[]⟩ : ByteArray), false)
 | x :: r, a => if x.f0 = a then (x.f1.f0, x.f1.f1, x.f1.f2, x.f1.f3, x.f1.f4, true) else entOf r a
theorem spec_EntryOf_l (l : List S63) (fl : List S68) (a : Int) (hl : l.length ≤ 2097152) : ∀ (d i : Nat), i + d = l.length → Ev (fun k => spec_EntryOf.l0 k a (i : Int) l fl) (entOf (l.drop i) a) := by
 intro d
 induction d with
 | zero =>
  intro i h
  rw [List.drop_eq_nil_of_le (by omega)]
  exact evRet fun k => by simp only [spec_EntryOf.l0]; rw [if_neg (by omega)]; rfl
 | succ d ih =>
  intro i h
  have hi : i < l.length := by omega
  rw [List.drop_eq_getElem_cons hi]
  by_cases he : l[i].f0 = a
  ·refine evRet fun k => ?_
   simp only [spec_EntryOf.l0, entOf]
   rw [if_pos (by omega), if_pos (by omega), rdI hi, if_pos he, if_pos he]
  ·have := ih (i + 1) (by omega)
   simp only [entOf]
   rw [if_neg he]
   refine evStep this fun k => ?_
   simp only [spec_EntryOf.l0]
   rw [if_pos (by omega), if_pos (by omega), rdI hi, if_neg he, w64 (by omega) (by omega)]
   rfl
theorem spec_EntryOf_ev (l : List S63) (fl : List S68) (a : Int) (hl : l.length ≤ 2097152) : Ev (fun k => spec_EntryOf.f k l fl a) (entOf l a) :=
 evEq (spec_EntryOf_l l fl a hl l.length 0 (by omega)) fun k => rfl
theorem impl_EntryOf_l (l : List S63) (a : Int) (hl : l.length ≤ 2097152) : ∀ (d i : Nat), i + d = l.length → Ev (fun k => impl_EntryOf.l0 k a l (l.length : Int) (i : Int)) (entOf (l.drop i) a) := by
 intro d
 induction d with
 | zero =>
  intro i h
  rw [List.drop_eq_nil_of_le (by omega)]
  exact evRet fun k => by simp only [impl_EntryOf.l0]; rw [if_neg (by omega)]; rfl
 | succ d ih =>
  intro i h
  have hi : i < l.length := by omega
  rw [List.drop_eq_getElem_cons hi]
  by_cases he : l[i].f0 = a
  ·refine evRet fun k => ?_
   simp only [impl_EntryOf.l0, entOf]
   rw [if_pos (by omega), if_pos (by omega), if_pos (by omega), rdI hi, if_pos he, if_pos he]
  ·have := ih (i + 1) (by omega)
   simp only [entOf]
   rw [if_neg he]
   refine evStep this fun k => ?_
   simp only [impl_EntryOf.l0]
   rw [if_pos (by omega), if_pos (by omega), if_pos (by omega), rdI hi, if_neg he, w64 (by omega) (by omega)]
   rfl
theorem impl_EntryOf_ev (l : List S63) (fl : List S68) (a : Int) (hl : l.length ≤ 2097152) : Ev (fun k => impl_EntryOf.f k l fl a) (entOf l a) :=
 evEq (impl_EntryOf_l l a hl l.length 0 (by omega)) fun k => rfl
def floOf : List S68 → Int → Int
 | [], _ => 0
 | x :: r, a => if x.f0 = a then x.f1 else floOf r a
theorem spec_FloorOf_l (l : List S68) (il : List S63) (a : Int) (hl : l.length ≤ 2097152) : ∀ (d i : Nat), i + d = l.length → Ev (fun k => spec_FloorOf.l0 k a (i : Int) il l) (floOf (l.drop i) a) := by
 intro d
 induction d with
 | zero =>
  intro i h
  rw [List.drop_eq_nil_of_le (by omega)]
  exact evRet fun k => by simp only [spec_FloorOf.l0]; rw [if_neg (by omega)]; rfl
 | succ d ih =>
  intro i h
  have hi : i < l.length := by omega
  rw [List.drop_eq_getElem_cons hi]
  by_cases he : l[i].f0 = a
  ·refine evRet fun k => ?_
   simp only [spec_FloorOf.l0, floOf]
   rw [if_pos (by omega), if_pos (by omega), rdF hi, if_pos he, if_pos he]
  ·have := ih (i + 1) (by omega)
   simp only [floOf]
   rw [if_neg he]
   refine evStep this fun k => ?_
   simp only [spec_FloorOf.l0]
   rw [if_pos (by omega), if_pos (by omega), rdF hi, if_neg he, w64 (by omega) (by omega)]
   rfl
theorem spec_FloorOf_ev (l : List S68) (il : List S63) (a : Int) (hl : l.length ≤ 2097152) : Ev (fun k => spec_FloorOf.f k il l a) (floOf l a) :=
 evEq (spec_FloorOf_l l il a hl l.length 0 (by omega)) fun k => rfl
theorem impl_FloorOf_l (l : List S68) (a : Int) (hl : l.length ≤ 2097152) : ∀ (d i : Nat), i + d = l.length → Ev (fun k => impl_FloorOf.l0 k a l (l.length : Int) (i : Int)) (floOf (l.drop i) a) := by
 intro d
 induction d with
 | zero =>
  intro i h
  rw [List.drop_eq_nil_of_le (by omega)]
  exact evRet fun k => by simp only [impl_FloorOf.l0]; rw [if_neg (by omega)]; rfl
 | succ d ih =>
  intro i h
  have hi : i < l.length := by omega
  rw [List.drop_eq_getElem_cons hi]
  by_cases he : l[i].f0 = a
  ·refine evRet fun k => ?_
   simp only [impl_FloorOf.l0, floOf]
   rw [if_pos (by omega), if_pos (by omega), if_pos (by omega), rdF hi, if_pos he, if_pos he]
  ·have := ih (i + 1) (by omega)
   simp only [floOf]
   rw [if_neg he]
   refine evStep this fun k => ?_
   simp only [impl_FloorOf.l0]
   rw [if_pos (by omega), if_pos (by omega), if_pos (by omega), rdF hi, if_neg he, w64 (by omega) (by omega)]
   rfl
theorem impl_FloorOf_ev (l : List S68) (il : List S63) (a : Int) (hl : l.length ≤ 2097152) : Ev (fun k => impl_FloorOf.f k il l a) (floOf l a) :=
 evEq (impl_FloorOf_l l a hl l.length 0 (by omega)) fun k => rfl
theorem spec_l1In_eq (a b c : Int) : spec_l1In.f a b c = some (decide (b ≤ a ∧ a ≤ c)) := by
 unfold spec_l1In.f
 by_cases h : a ≥ b
 ·rw [if_pos h]; simp [show b ≤ a from h]
 ·rw [if_neg h]; simp [show ¬ b ≤ a from h]
theorem impl_within_eq (a b c : Int) : impl_within.f a b c = some (decide (b ≤ a ∧ a ≤ c)) := by
 unfold impl_within.f
 by_cases h : a ≥ b
 ·rw [if_pos h]; simp [show b ≤ a from h]
 ·rw [if_neg h]; simp [show ¬ b ≤ a from h]
def entryOkB (i r b v : Int) (s : ByteArray) : Bool := decide (1 ≤ i ∧ i ≤ 1000) && (decide (0 ≤ r ∧ r ≤ 1) && (decide (0 ≤ b ∧ b ≤ 100000) && (decide (0 ≤ v ∧ v ≤ 1000) && decide ((s.size : Int) ≤ 8))))
theorem ite_some {b c : Bool} : (if b = true then some c else some false) = some (b && c) := by cases b <;> rfl
theorem spec_EntryOk_eq (i r b v : Int) (s : ByteArray) : spec_EntryOk.f i r b v s = some (entryOkB i r b v s) := by
 simp only [spec_EntryOk.f, spec_l1In_eq, Option.bind_some, ite_some, entryOkB]
theorem impl_EntryOk_eq (i r b v : Int) (s : ByteArray) : impl_EntryOk.f i r b v s = some (entryOkB i r b v s) := by
 simp only [impl_EntryOk.f, impl_within_eq, Option.bind_some, ite_some, entryOkB]
def nodeB (a : Int) : Bool := decide (0 ≤ a ∧ a ≤ 4)
def okI (b : List S68) : Option Int → List S63 → Bool
 | _, [] => true
 | p, x :: r => nodeB x.f0 && (!(match p with | none => false | some q => decide (x.f0 ≤ q)) && (entryOkB x.f1.f0 x.f1.f1 x.f1.f2 x.f1.f3 x.f1.f4 && (!(decide (x.f1.f0 ≤ floOf b x.f0)) && okI b (some x.f0) r)))
def okF : Option Int → List S68 → Bool
 | _, [] => true
 | p, x :: r => nodeB x.f0 && (!(match p with | none => false | some q => decide (x.f0 ≤ q)) && (decide (1 ≤ x.f1 ∧ x.f1 ≤ 1000) && okF (some x.f0) r))
def okS (a : List S63) (b : List S68) : Bool := okI b none a && okF none b
def prevI (a : List S63) : Nat → Option Int
 | 0 => none
 | i + 1 => (a[i]?).map (·.f0)
def prevF (a : List S68) : Nat → Option Int
 | 0 => none
 | i + 1 => (a[i]?).map (·.f0)
theorem spec_l3Node_eq (a : Int) : spec_l3Node.f a = some (nodeB a) := by
 simp only [spec_l3Node.f, spec_l1In_eq, Option.bind_some, nodeB]
theorem impl_isNode_eq (a : Int) : impl_isNode.f a = some (nodeB a) := by
 simp only [impl_isNode.f, impl_within_eq, Option.bind_some, nodeB]
theorem spec_Ok_l1 (a : List S63) (b : List S68) (hb : b.length ≤ 2097152) : ∀ (m i : Nat), i + m = b.length → Ev (fun k => spec_StateOk.l1 k (i : Int) a b) (okF (prevF b i) (b.drop i)) := by
 intro m
 induction m with
 | zero =>
  intro i h
  rw [List.drop_eq_nil_of_le (by omega)]
  exact evRet fun k => by simp only [spec_StateOk.l1]; rw [if_neg (by omega)]; simp only [okF]
 | succ m ih =>
  intro i h
  have hi : i < b.length := by omega
  have hx := ih (i + 1) (by omega)
  rw [List.drop_eq_getElem_cons hi]
  simp only [okF]
  refine evSucc ?_
  simp only [spec_StateOk.l1, rdF hi, spec_l3Node_eq, spec_l1In_eq, Option.bind_some]
  simp only [if_pos (show (i : Int) < (b.length : Int) by omega), if_pos (show (0 : Int) ≤ (i : Int) by omega), w64 (show (-9223372036854775808 : Int) ≤ (i : Int) + 1 by omega) (by omega)]
  have hp : prevF b (i + 1) = some b[i].f0 := by simp [prevF, hi]
  rw [hp] at hx
  by_cases c1 : nodeB b[i].f0 = true
  ·simp only [if_pos c1]
   simp only [c1, Bool.true_and]
   cases i with
   | zero =>
    simp only [if_neg (show ¬ ((0 : Nat) : Int) > 0 by omega), prevF, Bool.not_false, Bool.true_and]
    by_cases c3 : decide ((1 : Int) ≤ b[0].f1 ∧ b[0].f1 ≤ 1000) = true
    ·simp only [if_pos c3]; simp only [c3, Bool.true_and]; exact hx
    ·simp only [if_neg c3]; simp only [Bool.not_eq_true] at c3; simp only [c3, Bool.false_and]; exact evSome _
   | succ j =>
    have hj : j < b.length := by omega
    have e1 : (((j + 1 : Nat) : Int)) - 1 = (j : Int) := by omega
    simp only [if_pos (show ((j + 1 : Nat) : Int) > 0 by omega), e1, w64 (show (-9223372036854775808 : Int) ≤ (j : Int) by omega) (by omega), if_pos (show (0 : Int) ≤ (j : Int) by omega), if_pos (show (j : Int) < (b.length : Int) by omega), rdF hj]
    have hp2 : prevF b (j + 1) = some b[j].f0 := by simp [prevF, hj]
    simp only [hp2]
    by_cases c2 : b[j + 1].f0 ≤ b[j].f0
    ·simp only [if_pos c2, decide_eq_true c2, Bool.not_true, Bool.false_and]; exact evSome _
    ·simp only [if_neg c2, decide_eq_false c2, Bool.not_false, Bool.true_and]
     by_cases c3 : decide (1 ≤ b[j + 1].f1 ∧ b[j + 1].f1 ≤ 1000) = true
     ·simp only [if_pos c3]; simp only [c3, Bool.true_and]; exact hx
     ·simp only [if_neg c3]; simp only [Bool.not_eq_true] at c3; simp only [c3, Bool.false_and]; exact evSome _
  ·simp only [if_neg c1]; simp only [Bool.not_eq_true] at c1; simp only [c1, Bool.false_and]; exact evSome _
theorem spec_Ok_l0 (a : List S63) (b : List S68) (ha : a.length ≤ 2097152) (hb : b.length ≤ 2097152) : ∀ (m i : Nat), i + m = a.length → Ev (fun k => spec_StateOk.l0 k (i : Int) a b) (okI b (prevI a i) (a.drop i) && okF none b) := by
 intro m
 induction m with
 | zero =>
  intro i h
  rw [List.drop_eq_nil_of_le (by omega)]
  refine evSucc ?_
  simp only [spec_StateOk.l0]
  simp only [if_neg (show ¬ (i : Int) < (a.length : Int) by omega)]
  simpa [okI, prevF] using spec_Ok_l1 a b hb b.length 0 (by omega)
 | succ m ih =>
  intro i h
  have hi : i < a.length := by omega
  have hx := ih (i + 1) (by omega)
  rw [List.drop_eq_getElem_cons hi]
  simp only [okI]
  refine evSucc ?_
  simp only [spec_StateOk.l0, rdI hi, spec_l3Node_eq, spec_EntryOk_eq, Option.bind_some]
  simp only [if_pos (show (i : Int) < (a.length : Int) by omega), if_pos (show (0 : Int) ≤ (i : Int) by omega), w64 (show (-9223372036854775808 : Int) ≤ (i : Int) + 1 by omega) (by omega)]
  have hp : prevI a (i + 1) = some a[i].f0 := by simp [prevI, hi]
  rw [hp] at hx
  have tail : Ev (fun k => if entryOkB a[i].f1.f0 a[i].f1.f1 a[i].f1.f2 a[i].f1.f3 a[i].f1.f4 = true then ((spec_FloorOf.f k a b a[i].f0).bind fun t => if a[i].f1.f0 ≤ t then some false else spec_StateOk.l0 k ((i : Int) + 1) a b) else some false)
    ((entryOkB a[i].f1.f0 a[i].f1.f1 a[i].f1.f2 a[i].f1.f3 a[i].f1.f4 && (!(decide (a[i].f1.f0 ≤ floOf b a[i].f0)) && okI b (some a[i].f0) (a.drop (i + 1)))) && okF none b) := by
   by_cases c1 : entryOkB a[i].f1.f0 a[i].f1.f1 a[i].f1.f2 a[i].f1.f3 a[i].f1.f4 = true
   ·simp only [if_pos c1]
    simp only [c1, Bool.true_and]
    refine Ev.bind (spec_FloorOf_ev b a a[i].f0 hb) ?_
    by_cases c2 : a[i].f1.f0 ≤ floOf b a[i].f0
    ·simp only [if_pos c2, decide_eq_true c2, Bool.not_true, Bool.false_and]; exact evSome _
    ·simp only [if_neg c2, decide_eq_false c2, Bool.not_false, Bool.true_and]; exact hx
   ·simp only [if_neg c1]; simp only [Bool.not_eq_true] at c1; simp only [c1, Bool.false_and]; exact evSome _
  by_cases c1 : nodeB a[i].f0 = true
  ·simp only [if_pos c1]
   simp only [c1, Bool.true_and]
   cases i with
   | zero =>
    simp only [if_neg (show ¬ ((0 : Nat) : Int) > 0 by omega), prevI, Bool.not_false, Bool.true_and]
    exact tail
   | succ j =>
    have hj : j < a.length := by omega
    have e1 : (((j + 1 : Nat) : Int)) - 1 = (j : Int) := by omega
    simp only [if_pos (show ((j + 1 : Nat) : Int) > 0 by omega), e1, w64 (show (-9223372036854775808 : Int) ≤ (j : Int) by omega) (by omega), if_pos (show (0 : Int) ≤ (j : Int) by omega), if_pos (show (j : Int) < (a.length : Int) by omega), rdI hj]
    have hp2 : prevI a (j + 1) = some a[j].f0 := by simp [prevI, hj]
    simp only [hp2]
    by_cases c2 : a[j + 1].f0 ≤ a[j].f0
    ·simp only [if_pos c2, decide_eq_true c2, Bool.not_true, Bool.false_and]; exact evSome _
    ·simp only [if_neg c2, decide_eq_false c2, Bool.not_false, Bool.true_and]
     exact tail
  ·simp only [if_neg c1]; simp only [Bool.not_eq_true] at c1; simp only [c1, Bool.false_and]; exact evSome _
theorem spec_StateOk_ev (a : List S63) (b : List S68) (ha : a.length ≤ 2097152) (hb : b.length ≤ 2097152) : Ev (fun k => spec_StateOk.f k a b) (okS a b) := by
 have := spec_Ok_l0 a b ha hb a.length 0 (by omega)
 simpa [spec_StateOk.f, okS, prevI] using this
theorem impl_Ok_l1 (a : List S63) (b : List S68) (ha : a.length ≤ 2097152) (hb : b.length ≤ 2097152) : ∀ (m i : Nat), i + m = a.length → Ev (fun k => impl_StateOk.l1 k a (a.length : Int) (i : Int) a b) (okI b (prevI a i) (a.drop i)) := by
 intro m
 induction m with
 | zero =>
  intro i h
  rw [List.drop_eq_nil_of_le (by omega)]
  exact evRet fun k => by simp only [impl_StateOk.l1]; rw [if_neg (by omega)]; simp only [okI]
 | succ m ih =>
  intro i h
  have hi : i < a.length := by omega
  have hx := ih (i + 1) (by omega)
  rw [List.drop_eq_getElem_cons hi]
  simp only [okI]
  refine evSucc ?_
  simp only [impl_StateOk.l1, rdI hi, impl_isNode_eq, impl_EntryOk_eq, Option.bind_some]
  simp only [if_pos (show (i : Int) < (a.length : Int) by omega), if_pos (show (0 : Int) ≤ (i : Int) by omega), w64 (show (-9223372036854775808 : Int) ≤ (i : Int) + 1 by omega) (by omega)]
  have hp : prevI a (i + 1) = some a[i].f0 := by simp [prevI, hi]
  rw [hp] at hx
  by_cases c1 : nodeB a[i].f0 = true
  ·simp only [if_pos c1]
   simp only [c1, Bool.true_and]
   by_cases c2 : entryOkB a[i].f1.f0 a[i].f1.f1 a[i].f1.f2 a[i].f1.f3 a[i].f1.f4 = true
   ·simp only [if_pos c2]
    simp only [c2, Bool.true_and]
    refine Ev.bind (impl_FloorOf_ev b a a[i].f0 hb) ?_
    by_cases c3 : a[i].f1.f0 ≤ floOf b a[i].f0
    ·simp only [if_pos c3, decide_eq_true c3, Bool.not_true, Bool.false_and, Bool.and_false]; exact evSome _
    ·simp only [if_neg c3, decide_eq_false c3, Bool.not_false, Bool.true_and]
     cases i with
     | zero =>
      simp only [if_neg (show ¬ ((0 : Nat) : Int) > 0 by omega), prevI, Bool.not_false, Bool.true_and]
      exact hx
     | succ j =>
      have hj : j < a.length := by omega
      have e1 : (((j + 1 : Nat) : Int)) - 1 = (j : Int) := by omega
      simp only [if_pos (show ((j + 1 : Nat) : Int) > 0 by omega), e1, w64 (show (-9223372036854775808 : Int) ≤ (j : Int) by omega) (by omega), if_pos (show (0 : Int) ≤ (j : Int) by omega), if_pos (show (j : Int) < (a.length : Int) by omega), rdI hj]
      have hp2 : prevI a (j + 1) = some a[j].f0 := by simp [prevI, hj]
      simp only [hp2]
      by_cases c4 : a[j + 1].f0 ≤ a[j].f0
      ·simp only [if_pos (show a[j].f0 ≥ a[j + 1].f0 from c4), decide_eq_true c4, Bool.not_true, Bool.false_and]; exact evSome _
      ·simp only [if_neg (show ¬ a[j].f0 ≥ a[j + 1].f0 from c4), decide_eq_false c4, Bool.not_false, Bool.true_and]
       exact hx
   ·simp only [if_neg c2]; simp only [Bool.not_eq_true] at c2; simp only [c2, Bool.false_and, Bool.and_false]; exact evSome _
  ·simp only [if_neg c1]; simp only [Bool.not_eq_true] at c1; simp only [c1, Bool.false_and]; exact evSome _
theorem impl_Ok_l0 (a : List S63) (b : List S68) (ha : a.length ≤ 2097152) (hb : b.length ≤ 2097152) : ∀ (m i : Nat), i + m = b.length → Ev (fun k => impl_StateOk.l0 k b (b.length : Int) (i : Int) a b) (okF (prevF b i) (b.drop i) && okI b none a) := by
 intro m
 induction m with
 | zero =>
  intro i h
  rw [List.drop_eq_nil_of_le (by omega)]
  refine evSucc ?_
  simp only [impl_StateOk.l0]
  simp only [if_neg (show ¬ (i : Int) < (b.length : Int) by omega)]
  simpa [okF, prevI] using impl_Ok_l1 a b ha hb a.length 0 (by omega)
 | succ m ih =>
  intro i h
  have hi : i < b.length := by omega
  have hx := ih (i + 1) (by omega)
  rw [List.drop_eq_getElem_cons hi]
  simp only [okF]
  refine evSucc ?_
  simp only [impl_StateOk.l0, rdF hi, impl_isNode_eq, impl_within_eq, Option.bind_some]
  simp only [if_pos (show (i : Int) < (b.length : Int) by omega), if_pos (show (0 : Int) ≤ (i : Int) by omega), w64 (show (-9223372036854775808 : Int) ≤ (i : Int) + 1 by omega) (by omega)]
  have hp : prevF b (i + 1) = some b[i].f0 := by simp [prevF, hi]
  rw [hp] at hx
  by_cases c1 : nodeB b[i].f0 = true
  ·simp only [if_pos c1]
   simp only [c1, Bool.true_and]
   by_cases c3 : decide (1 ≤ b[i].f1 ∧ b[i].f1 ≤ 1000) = true
   ·simp only [if_pos c3]; simp only [c3, Bool.true_and]
    cases i with
    | zero =>
     simp only [if_neg (show ¬ ((0 : Nat) : Int) > 0 by omega), prevF, Bool.not_false, Bool.true_and]
     exact hx
    | succ j =>
     have hj : j < b.length := by omega
     have e1 : (((j + 1 : Nat) : Int)) - 1 = (j : Int) := by omega
     simp only [if_pos (show ((j + 1 : Nat) : Int) > 0 by omega), e1, w64 (show (-9223372036854775808 : Int) ≤ (j : Int) by omega) (by omega), if_pos (show (0 : Int) ≤ (j : Int) by omega), if_pos (show (j : Int) < (b.length : Int) by omega), rdF hj]
     have hp2 : prevF b (j + 1) = some b[j].f0 := by simp [prevF, hj]
     simp only [hp2]
     by_cases c2 : b[j + 1].f0 ≤ b[j].f0
     ·simp only [if_pos (show b[j].f0 ≥ b[j + 1].f0 from c2), decide_eq_true c2, Bool.not_true, Bool.false_and]; exact evSome _
     ·simp only [if_neg (show ¬ b[j].f0 ≥ b[j + 1].f0 from c2), decide_eq_false c2, Bool.not_false, Bool.true_and]
      exact hx
   ·simp only [if_neg c3]; simp only [Bool.not_eq_true] at c3; simp only [c3, Bool.false_and, Bool.and_false]; exact evSome _
  ·simp only [if_neg c1]; simp only [Bool.not_eq_true] at c1; simp only [c1, Bool.false_and]; exact evSome _
theorem impl_StateOk_ev (a : List S63) (b : List S68) (ha : a.length ≤ 2097152) (hb : b.length ≤ 2097152) : Ev (fun k => impl_StateOk.f k a b) (okS a b) := by
 have := impl_Ok_l0 a b ha hb b.length 0 (by omega)
 rw [Bool.and_comm] at this
 simpa [impl_StateOk.f, okS, prevF] using this
def cmpI (a b : Int) : Int := if a < b then -1 else if a > b then 1 else 0
def nz : List Int → Int → Int
 | [], t => t
 | x :: r, t => if x = 0 then nz r t else x
def ecmp (a0 a1 a2 a3 : Int) (a4 : ByteArray) (b0 b1 b2 b3 : Int) (b4 : ByteArray) : Int := nz [cmpI a0 b0, cmpI a1 b1, cmpI a2 b2, cmpI a3 b3] (Lib.compareBytes a4.data.toList b4.data.toList)
theorem u8_lt_or (a b : UInt8) : a < b ∨ a = b ∨ b < a := by
 rcases Nat.lt_trichotomy a.toNat b.toNat with h | h | h
 ·exact .inl (UInt8.lt_iff_toNat_lt.2 h)
 ·exact .inr (.inl (UInt8.toNat_inj.1 h))
 ·exact .inr (.inr (UInt8.lt_iff_toNat_lt.2 h))
theorem u8_irrefl (a : UInt8) : ¬ a < a := fun h => Nat.lt_irrefl _ (UInt8.lt_iff_toNat_lt.1 h)
theorem u8_asymm {a b : UInt8} (h : a < b) : ¬ b < a := fun h2 => Nat.lt_asymm (UInt8.lt_iff_toNat_lt.1 h) (UInt8.lt_iff_toNat_lt.1 h2)
theorem cmpB_eq : ∀ (x y : List UInt8), Lib.compareBytes x y = if Op.bytesLess x y = true then -1 else if (!(x == y)) = true then 1 else 0
 | [], [] => by simp [Lib.compareBytes, Op.bytesLess]
 | [], b :: q => by simp [Lib.compareBytes, Op.bytesLess]
 | a :: p, [] => by simp [Lib.compareBytes, Op.bytesLess]
 | a :: p, b :: q => by
  unfold Lib.compareBytes Op.bytesLess
  rw [cmpB_eq p q]
  rcases u8_lt_or a b with h | h | h
  ·simp [h]
  ·subst h; simp [u8_irrefl]
  ·have h1 := u8_asymm h
   have h2 : a ≠ b := fun e => by subst e; exact u8_irrefl _ h
   simp [h, h1, h2]
theorem spec_l2Cmp_eq (a b : Int) : spec_l2Cmp.f a b = some (cmpI a b) := by
 simp only [spec_l2Cmp.f, spec_l1Bit.f, cmpI]
 by_cases h : a < b
 ·rw [if_pos h, if_pos h]
 ·rw [if_neg h, if_neg h]
  by_cases h2 : a > b
  ·simp [h2]
  ·simp [h2]
theorem cmp_Compare_eq (a b : Int) : cmp_Compare_int.f a b = some (cmpI a b) := by
 simp only [cmp_Compare_int.f, cmp_isNaN_int.f, cmpI, Option.bind_some, bne_self_eq_false]
 by_cases h : a < b
 ·simp [h]
 ·by_cases h2 : a > b
  ·simp [h, h2]
  ·simp [h, h2]
theorem cmp_Or_l (l : List Int) (hl : l.length ≤ 1099511627776) : ∀ (d i : Nat), i + d = l.length → Ev (fun k => cmp_Or_int.l0 k 0 l (l.length : Int) (i : Int)) (nz (l.drop i) 0) := by
 intro d
 induction d with
 | zero =>
  intro i h
  rw [List.drop_eq_nil_of_le (by omega)]
  exact evRet fun k => by simp only [cmp_Or_int.l0]; rw [if_neg (by omega)]; rfl
 | succ d ih =>
  intro i h
  have hi : i < l.length := by omega
  rw [List.drop_eq_getElem_cons hi]
  by_cases hz : l[i] = 0
  ·have := ih (i + 1) (by omega)
   refine evStep (by simpa only [nz, if_pos hz] using this) fun k => ?_
   simp only [cmp_Or_int.l0]
   rw [if_pos (by omega), if_pos (by omega), if_pos (by omega), rd_nat hi, if_pos hz, w64 (by omega) (by omega)]
   rfl
  ·refine evRet fun k => ?_
   simp only [cmp_Or_int.l0]
   rw [if_pos (by omega), if_pos (by omega), if_pos (by omega), rd_nat hi, if_neg hz]
   simp only [nz, if_neg hz]
theorem cmp_Or_ev (l : List Int) (hl : l.length ≤ 1099511627776) : Ev (fun k => cmp_Or_int.f k l) (nz l 0) :=
 evEq (cmp_Or_l l hl l.length 0 (by omega)) fun k => rfl
theorem nz_snoc (t : Int) : ∀ (l : List Int), nz (l ++ [t]) 0 = nz l t
 | [] => by simp only [List.nil_append, nz]; split <;> simp_all
 | x :: r => by simp only [List.cons_append, nz, nz_snoc t r]
theorem impl_EntryCmp_ev (a0 a1 a2 a3 : Int) (a4 : ByteArray) (b0 b1 b2 b3 : Int) (b4 : ByteArray) : Ev (fun k => impl_EntryCmp.f k a0 a1 a2 a3 a4 b0 b1 b2 b3 b4) (ecmp a0 a1 a2 a3 a4 b0 b1 b2 b3 b4) := by
 simp only [impl_EntryCmp.f, cmp_Compare_eq, strings_Compare.f, Option.bind_some]
 refine Ev.bind (cmp_Or_ev _ (by simp)) ?_
 have : nz [cmpI a0 b0, cmpI a1 b1, cmpI a2 b2, cmpI a3 b3, Lib.compareBytes a4.data.toList b4.data.toList] 0 = ecmp a0 a1 a2 a3 a4 b0 b1 b2 b3 b4 := nz_snoc (Lib.compareBytes a4.data.toList b4.data.toList) [cmpI a0 b0, cmpI a1 b1, cmpI a2 b2, cmpI a3 b3]
 rw [this]
 exact evSome _
theorem spec_EntryCmp_l (l : List Int) (hl : l.length ≤ 1099511627776) (a0 a1 a2 a3 : Int) (a4 : ByteArray) (b0 b1 b2 b3 : Int) (b4 : ByteArray) : ∀ (d i : Nat), i + d = l.length →
  Ev (fun k => spec_EntryCmp.l0 k l (i : Int) a0 a1 a2 a3 a4 b0 b1 b2 b3 b4) (nz (l.drop i) (Lib.compareBytes a4.data.toList b4.data.toList)) := by
 intro d
 induction d with
 | zero =>
  intro i h
  rw [List.drop_eq_nil_of_le (by omega)]
  refine evRet fun k => ?_
  simp only [spec_EntryCmp.l0]
  rw [if_neg (by omega)]
  simp only [nz, cmpB_eq, Lib.toList_data, spec_l1Bit.f]
  by_cases h1 : Op.bytesLess a4.data.toList b4.data.toList = true
  ·rw [if_pos h1, if_pos h1]
  ·rw [if_neg h1, if_neg h1]
   split <;> rfl
 | succ d ih =>
  intro i h
  have hi : i < l.length := by omega
  rw [List.drop_eq_getElem_cons hi]
  by_cases hz : l[i] = 0
  ·have := ih (i + 1) (by omega)
   refine evStep (by simpa only [nz, if_pos hz] using this) fun k => ?_
   simp only [spec_EntryCmp.l0]
   rw [if_pos (by omega), if_pos (by omega), rd_nat hi, if_pos hz, w64 (by omega) (by omega)]
   rfl
  ·refine evRet fun k => ?_
   simp only [spec_EntryCmp.l0]
   rw [if_pos (by omega), if_pos (by omega), rd_nat hi, if_neg hz]
   simp only [nz, if_neg hz]
theorem spec_EntryCmp_ev (a0 a1 a2 a3 : Int) (a4 : ByteArray) (b0 b1 b2 b3 : Int) (b4 : ByteArray) : Ev (fun k => spec_EntryCmp.f k a0 a1 a2 a3 a4 b0 b1 b2 b3 b4) (ecmp a0 a1 a2 a3 a4 b0 b1 b2 b3 b4) := by
 simp only [spec_EntryCmp.f, spec_l2Cmp_eq, Option.bind_some]
 exact spec_EntryCmp_l [cmpI a0 b0, cmpI a1 b1, cmpI a2 b2, cmpI a3 b3] (by simp) a0 a1 a2 a3 a4 b0 b1 b2 b3 b4 4 0 (by simp)
abbrev EntT := Int × Int × Int × Int × ByteArray × Bool
theorem cmpI_neg (a b : Int) : cmpI b a = - cmpI a b := by
 unfold cmpI
 by_cases h : a < b
 ·simp [h, show ¬ b < a by omega]
 ·by_cases h2 : b < a
  ·simp [h, h2]
  ·simp [h, h2]
theorem cmpBytes_neg : ∀ (x y : List UInt8), Lib.compareBytes y x = - Lib.compareBytes x y
 | [], [] => by simp [Lib.compareBytes]
 | [], b :: q => by simp [Lib.compareBytes]
 | a :: p, [] => by simp [Lib.compareBytes]
 | a :: p, b :: q => by
  unfold Lib.compareBytes
  rw [cmpBytes_neg p q]
  rcases u8_lt_or a b with h | h | h
  ·have h1 := u8_asymm h
   have h2 : a ≠ b := fun e => by subst e; exact u8_irrefl _ h
   simp [h, h1, h2, h2.symm]
  ·subst h; simp [u8_irrefl]
  ·have h1 := u8_asymm h
   have h2 : a ≠ b := fun e => by subst e; exact u8_irrefl _ h
   simp [h, h1, h2, h2.symm]
theorem ecmp_neg (a0 a1 a2 a3 : Int) (a4 : ByteArray) (b0 b1 b2 b3 : Int) (b4 : ByteArray) : ecmp b0 b1 b2 b3 b4 a0 a1 a2 a3 a4 = - ecmp a0 a1 a2 a3 a4 b0 b1 b2 b3 b4 := by
 simp only [ecmp, nz, cmpI_neg a0 b0, cmpI_neg a1 b1, cmpI_neg a2 b2, cmpI_neg a3 b3, cmpBytes_neg a4.data.toList b4.data.toList, Int.neg_eq_zero]
 repeat (split <;> try rfl)
theorem ent_inc (b : List S68) (a : Int) : ∀ (l : List S63) (p : Option Int), okI b p l = true → (entOf l a).2.2.2.2.2 = true → 1 ≤ (entOf l a).1
 | [], _, _, h => by simp [entOf] at h
 | x :: r, p, h, h2 => by
  simp only [okI, Bool.and_eq_true] at h
  obtain ⟨_, _, h3, _, h4⟩ := h
  simp only [entOf] at h2 ⊢
  by_cases e : x.f0 = a
  ·rw [if_pos e]
   simp only [entryOkB, Bool.and_eq_true, decide_eq_true_eq] at h3
   exact h3.1.1
  ·rw [if_neg e] at h2 ⊢
   exact ent_inc b a r (some x.f0) h4 h2
theorem ent_none (a : Int) : ∀ (l : List S63), ¬ (entOf l a).2.2.2.2.2 = true → entOf l a = (0, 0, 0, 0, (⟨#[]⟩ : ByteArray), false)
 | [], _ => rfl
 | x :: r, h => by
  simp only [entOf] at h ⊢
  by_cases e : x.f0 = a
  ·rw [if_pos e] at h; exact absurd rfl h
  ·rw [if_neg e] at h ⊢
   exact ent_none a r h
theorem flo_nonneg (a : Int) : ∀ (l : List S68) (p : Option Int), okF p l = true → 0 ≤ floOf l a
 | [], _, _ => by simp [floOf]
 | x :: r, p, h => by
  simp only [okF, Bool.and_eq_true, decide_eq_true_eq] at h
  simp only [floOf]
  split
  ·omega
  ·exact flo_nonneg a r (some x.f0) h.2.2.2
def maxI (a b : Int) : Int := if a > b then a else b
theorem spec_l1Max_eq (a b : Int) : spec_l1Max.f a b = some (maxI a b) := by
 unfold spec_l1Max.f maxI; split <;> rfl
theorem mx_eq (a b : Int) : mx a b = maxI a b := by
 unfold mx maxI; split <;> split <;> omega
def maxE (x y : EntT) : Int × Int × Int × Int × ByteArray :=
 if ecmp x.1 x.2.1 x.2.2.1 x.2.2.2.1 x.2.2.2.2.1 y.1 y.2.1 y.2.2.1 y.2.2.2.1 y.2.2.2.2.1 < 0 then (y.1, y.2.1, y.2.2.1, y.2.2.2.1, y.2.2.2.2.1) else (x.1, x.2.1, x.2.2.1, x.2.2.2.1, x.2.2.2.2.1)
theorem impl_EntryMax_ev (x y : EntT) : Ev (fun k => impl_EntryMax.f k x.1 x.2.1 x.2.2.1 x.2.2.2.1 x.2.2.2.2.1 y.1 y.2.1 y.2.2.1 y.2.2.2.1 y.2.2.2.2.1) (maxE x y) := by
 simp only [impl_EntryMax.f, maxE]
 refine Ev.bind (impl_EntryCmp_ev _ _ _ _ _ _ _ _ _ _) ?_
 split
 ·exact evSome _
 ·exact evSome _
def addI (i fl : Int) (e : Int × Int × Int × Int × ByteArray) : List S63 := if e.1 > fl then [⟨i, ⟨e.1, e.2.1, e.2.2.1, e.2.2.2.1, e.2.2.2.2⟩⟩] else []
def addF (i fl : Int) : List S68 := if fl > 0 then [⟨i, fl⟩] else []
def joinR (a : List S63) (b : List S68) (c : List S63) (e : List S68) : Nat → Int → List S63 → List S68 → List S63 × List S68
 | 0, _, x, y => (x, y)
 | n + 1, i, x, y => joinR a b c e n (i + 1) (x ++ addI i (maxI (floOf b i) (floOf e i)) (maxE (entOf a i) (entOf c i))) (y ++ addF i (maxI (floOf b i) (floOf e i)))
theorem addI_len (i fl : Int) (e : Int × Int × Int × Int × ByteArray) : (addI i fl e).length ≤ 1 := by unfold addI; split <;> simp
theorem addF_len (i fl : Int) : (addF i fl).length ≤ 1 := by unfold addF; split <;> simp
theorem joinR_len (a : List S63) (b : List S68) (c : List S63) (e : List S68) : ∀ (n : Nat) (i : Int) (x : List S63) (y : List S68), (joinR a b c e n i x y).1.length ≤ x.length + n ∧ (joinR a b c e n i x y).2.length ≤ y.length + n
 | 0, _, _, _ => ⟨Nat.le_refl _, Nat.le_refl _⟩
 | n + 1, i, x, y => by
  have h := joinR_len a b c e n (i + 1) (x ++ addI i (maxI (floOf b i) (floOf e i)) (maxE (entOf a i) (entOf c i))) (y ++ addF i (maxI (floOf b i) (floOf e i)))
  have h1 := addI_len i (maxI (floOf b i) (floOf e i)) (maxE (entOf a i) (entOf c i))
  have h2 := addF_len i (maxI (floOf b i) (floOf e i))
  simp only [List.length_append] at h
  simp only [joinR]
  omega
theorem impl_join_l (a : List S63) (b : List S68) (c : List S63) (e : List S68) (ha : a.length ≤ 2097152) (hb : b.length ≤ 2097152) (hc : c.length ≤ 2097152) (he : e.length ≤ 2097152) :
  ∀ (n : Nat) (i : Nat) (x : List S63) (y : List S68), i + n = 5 → x.length ≤ i → y.length ≤ i → Ev (fun k => impl_stateJoin.l0 k (i : Int) a b c e x y) (joinR a b c e n (i : Int) x y) := by
 intro n
 induction n with
 | zero =>
  intro i x y h _ _
  exact evRet fun k => by simp only [impl_stateJoin.l0]; rw [if_neg (by omega)]; rfl
 | succ n ih =>
  intro i x y h hx hy
  have h1 := addI_len i (maxI (floOf b i) (floOf e i)) (maxE (entOf a i) (entOf c i))
  have h2 := addF_len i (maxI (floOf b i) (floOf e i))
  have hr := ih (i + 1) (x ++ addI i (maxI (floOf b i) (floOf e i)) (maxE (entOf a i) (entOf c i))) (y ++ addF i (maxI (floOf b i) (floOf e i))) (by omega) (by rw [List.length_append]; omega) (by rw [List.length_append]; omega)
  simp only [joinR]
  refine evSucc ?_
  simp only [impl_stateJoin.l0, mx_eq]
  simp only [if_pos (show (i : Int) < 5 by omega), w64 (show (-9223372036854775808 : Int) ≤ (i : Int) + 1 by omega) (by omega), if_pos (show x.length < 2513169434916 by omega), if_pos (show y.length < 8796093022208 by omega)]
  refine Ev.bind (impl_EntryOf_ev a b i ha) ?_
  refine Ev.bind (impl_EntryOf_ev c e i hc) ?_
  refine Ev.bind (impl_EntryMax_ev (entOf a i) (entOf c i)) ?_
  refine Ev.bind (impl_FloorOf_ev b a i hb) ?_
  refine Ev.bind (impl_FloorOf_ev e c i he) ?_
  by_cases c1 : (maxE (entOf a i) (entOf c i)).1 > maxI (floOf b i) (floOf e i)
  ·simp only [if_pos c1, Option.bind_some]
   simp only [addI, if_pos c1] at hr ⊢
   by_cases c2 : maxI (floOf b i) (floOf e i) > 0
   ·simp only [if_pos c2]
    simp only [addF, if_pos c2] at hr ⊢
    exact hr
   ·simp only [if_neg c2]
    simp only [addF, if_neg c2, List.append_nil] at hr ⊢
    exact hr
  ·simp only [if_neg c1]
   simp only [addI, if_neg c1, List.append_nil] at hr ⊢
   by_cases c2 : maxI (floOf b i) (floOf e i) > 0
   ·simp only [if_pos c2]
    simp only [addF, if_pos c2] at hr ⊢
    exact hr
   ·simp only [if_neg c2]
    simp only [addF, if_neg c2, List.append_nil] at hr ⊢
    exact hr
def joinS (a : List S63) (b : List S68) (c : List S63) (e : List S68) : List S63 × List S68 := joinR a b c e 5 0 [] []
theorem impl_stateJoin_ev (a : List S63) (b : List S68) (c : List S63) (e : List S68) (ha : a.length ≤ 2097152) (hb : b.length ≤ 2097152) (hc : c.length ≤ 2097152) (he : e.length ≤ 2097152) : Ev (fun k => impl_stateJoin.f k a b c e) (joinS a b c e) :=
 impl_join_l a b c e ha hb hc he 5 0 [] [] (by omega) (by simp) (by simp)
theorem joinS_len (a : List S63) (b : List S68) (c : List S63) (e : List S68) : (joinS a b c e).1.length ≤ 5 ∧ (joinS a b c e).2.length ≤ 5 := by
 have := joinR_len a b c e 5 0 [] []
 simpa [joinS] using this
theorem spec_join_l (a : List S63) (b : List S68) (c : List S63) (e : List S68) (ha : a.length ≤ 2097152) (hb : b.length ≤ 2097152) (hc : c.length ≤ 2097152) (he : e.length ≤ 2097152) (o1 : okS a b = true) (o2 : okS c e = true) :
  ∀ (n : Nat) (i : Nat) (x : List S63) (y : List S68), i + n = 5 → x.length ≤ i → y.length ≤ i → Ev (fun k => spec_l3Join.l0 k (i : Int) a b c e x y) (joinR a b c e n (i : Int) x y) := by
 intro n
 induction n with
 | zero =>
  intro i x y h _ _
  exact evRet fun k => by simp only [spec_l3Join.l0]; rw [if_neg (by omega)]; rfl
 | succ n ih =>
  intro i x y h hx hy
  have h1 := addI_len i (maxI (floOf b i) (floOf e i)) (maxE (entOf a i) (entOf c i))
  have h2 := addF_len i (maxI (floOf b i) (floOf e i))
  have hr := ih (i + 1) (x ++ addI i (maxI (floOf b i) (floOf e i)) (maxE (entOf a i) (entOf c i))) (y ++ addF i (maxI (floOf b i) (floOf e i))) (by omega) (by rw [List.length_append]; omega) (by rw [List.length_append]; omega)
  simp only [okS, Bool.and_eq_true] at o1 o2
  have fa := flo_nonneg i b none o1.2
  have fc := flo_nonneg i e none o2.2
  have hmx : 0 ≤ maxI (floOf b i) (floOf e i) := by unfold maxI; split <;> omega
  have j3 : ∀ (z : Bool) (y' : List S68), (if z = true then ((entOf c i).1, (entOf c i).2.1, (entOf c i).2.2.1, (entOf c i).2.2.2.1, (entOf c i).2.2.2.2.1) else ((entOf a i).1, (entOf a i).2.1, (entOf a i).2.2.1, (entOf a i).2.2.2.1, (entOf a i).2.2.2.2.1)) = maxE (entOf a i) (entOf c i) →
    Ev (fun k => spec_l3Join.l0 k ((i : Int) + 1) a b c e (x ++ addI i (maxI (floOf b i) (floOf e i)) (maxE (entOf a i) (entOf c i))) y') (joinR a b c e n ((i : Int) + 1) (x ++ addI i (maxI (floOf b i) (floOf e i)) (maxE (entOf a i) (entOf c i))) (y ++ addF i (maxI (floOf b i) (floOf e i)))) →
    Ev (fun k => spec_l3Join.j3 k (i : Int) (maxI (floOf b i) (floOf e i)) z a b c e x y' (entOf c i).1 (entOf c i).2.1 (entOf c i).2.2.1 (entOf c i).2.2.2.1 (entOf c i).2.2.2.2.1 (entOf a i).1 (entOf a i).2.1 (entOf a i).2.2.1 (entOf a i).2.2.2.1 (entOf a i).2.2.2.2.1)
     (joinR a b c e n ((i : Int) + 1) (x ++ addI i (maxI (floOf b i) (floOf e i)) (maxE (entOf a i) (entOf c i))) (y ++ addF i (maxI (floOf b i) (floOf e i)))) := by
   intro z y' hz hv
   refine evSucc ?_
   simp only [spec_l3Join.j3]
   simp only [w64 (show (-9223372036854775808 : Int) ≤ (i : Int) + 1 by omega) (by omega), if_pos (show x.length < 2513169434916 by omega)]
   rw [← hz] at hv
   rw [← hz]
   cases z
   ·simp only [Bool.false_eq_true, if_false] at hv ⊢
    by_cases c1 : (entOf a i).1 > maxI (floOf b i) (floOf e i)
    ·simp only [if_pos c1]
     simp only [addI, if_pos c1] at hv ⊢
     exact hv
    ·simp only [if_neg c1]
     simp only [addI, if_neg c1, List.append_nil] at hv ⊢
     exact hv
   ·simp only [if_true] at hv ⊢
    by_cases c1 : (entOf c i).1 > maxI (floOf b i) (floOf e i)
    ·simp only [if_pos c1]
     simp only [addI, if_pos c1] at hv ⊢
     exact hv
    ·simp only [if_neg c1]
     simp only [addI, if_neg c1, List.append_nil] at hv ⊢
     exact hv
  have j1 : ∀ (y' : List S68),
    Ev (fun k => spec_l3Join.l0 k ((i : Int) + 1) a b c e (x ++ addI i (maxI (floOf b i) (floOf e i)) (maxE (entOf a i) (entOf c i))) y') (joinR a b c e n ((i : Int) + 1) (x ++ addI i (maxI (floOf b i) (floOf e i)) (maxE (entOf a i) (entOf c i))) (y ++ addF i (maxI (floOf b i) (floOf e i)))) →
    Ev (fun k => spec_l3Join.j1 k (i : Int) (maxI (floOf b i) (floOf e i)) a b c e x y')
     (joinR a b c e n ((i : Int) + 1) (x ++ addI i (maxI (floOf b i) (floOf e i)) (maxE (entOf a i) (entOf c i))) (y ++ addF i (maxI (floOf b i) (floOf e i)))) := by
   intro y' hv
   refine evSucc ?_
   simp only [spec_l3Join.j1]
   refine Ev.bind (spec_EntryOf_ev a b i ha) ?_
   refine Ev.bind (spec_EntryOf_ev c e i hc) ?_
   by_cases ca : (entOf a i).2.2.2.2.2 = true
   ·simp only [if_pos ca]
    refine evSucc ?_
    simp only [spec_l3Join.j2, Bool.false_eq_true, if_false]
    simp only [if_pos ca]
    have ia := ent_inc b i a none o1.1 ca
    by_cases cc : (entOf c i).2.2.2.2.2 = true
    ·simp only [if_pos cc]
     refine Ev.bind (spec_EntryCmp_ev _ _ _ _ _ _ _ _ _ _) ?_
     refine j3 _ y' ?_ hv
     have hn := ecmp_neg (entOf a i).1 (entOf a i).2.1 (entOf a i).2.2.1 (entOf a i).2.2.2.1 (entOf a i).2.2.2.2.1 (entOf c i).1 (entOf c i).2.1 (entOf c i).2.2.1 (entOf c i).2.2.2.1 (entOf c i).2.2.2.2.1
     unfold maxE
     simp only [decide_eq_true_eq]
     by_cases q : ecmp (entOf a i).1 (entOf a i).2.1 (entOf a i).2.2.1 (entOf a i).2.2.2.1 (entOf a i).2.2.2.2.1 (entOf c i).1 (entOf c i).2.1 (entOf c i).2.2.1 (entOf c i).2.2.2.1 (entOf c i).2.2.2.2.1 < 0
     ·rw [if_pos q, if_pos (by omega)]
     ·rw [if_neg q, if_neg (by omega)]
    ·simp only [if_neg cc]
     refine j3 false y' ?_ hv
     have e0 := ent_none i c cc
     unfold maxE
     rw [e0]
     have q : ¬ ecmp (entOf a i).1 (entOf a i).2.1 (entOf a i).2.2.1 (entOf a i).2.2.2.1 (entOf a i).2.2.2.2.1 0 0 0 0 (⟨#[]⟩ : ByteArray) < 0 := by
      have : cmpI (entOf a i).1 0 = 1 := by unfold cmpI; rw [if_neg (by omega), if_pos (by omega)]
      simp [ecmp, nz, this]
     rw [if_neg q]; rfl
   ·simp only [if_neg ca]
    have e0 := ent_none i a ca
    by_cases cc : (entOf c i).2.2.2.2.2 = true
    ·refine evSucc ?_
     simp only [spec_l3Join.j2, cc, Bool.not_true, Bool.false_eq_true, if_false]
     simp only [if_neg ca]
     refine j3 true y' ?_ hv
     have ic := ent_inc e i c none o2.1 cc
     unfold maxE
     rw [e0]
     have q : ecmp 0 0 0 0 (⟨#[]⟩ : ByteArray) (entOf c i).1 (entOf c i).2.1 (entOf c i).2.2.1 (entOf c i).2.2.2.1 (entOf c i).2.2.2.2.1 < 0 := by
      have : cmpI 0 (entOf c i).1 = -1 := by unfold cmpI; rw [if_pos (by omega)]
      simp [ecmp, nz, this]
     rw [if_pos q]; rfl
    ·have e1 := ent_none i c cc
     have hm : maxE (entOf a i) (entOf c i) = (0, 0, 0, 0, (⟨#[]⟩ : ByteArray)) := by
      rw [e0, e1]; unfold maxE; split <;> rfl
     have hA : addI i (maxI (floOf b i) (floOf e i)) (maxE (entOf a i) (entOf c i)) = [] := by
      rw [hm]; unfold addI; rw [if_neg (by show ¬ (0 : Int) > _; omega)]
     rw [hA, List.append_nil] at hv ⊢
     refine evSucc ?_
     simp only [Bool.not_eq_true] at cc
     simp only [spec_l3Join.j2, cc, Bool.not_false, if_true]
     simp only [w64 (show (-9223372036854775808 : Int) ≤ (i : Int) + 1 by omega) (by omega)]
     exact hv
  simp only [joinR]
  refine evSucc ?_
  simp only [spec_l3Join.l0, spec_l1Max_eq, Option.bind_some]
  simp only [if_pos (show (i : Int) < 5 by omega), if_pos (show y.length < 8796093022208 by omega)]
  refine Ev.bind (spec_FloorOf_ev b a i hb) ?_
  refine Ev.bind (spec_FloorOf_ev e c i he) ?_
  by_cases c2 : maxI (floOf b i) (floOf e i) > 0
  ·simp only [if_pos c2]
   refine j1 _ ?_
   simp only [addF, if_pos c2] at hr ⊢
   exact hr
  ·simp only [if_neg c2]
   refine j1 _ ?_
   simp only [addF, if_neg c2, List.append_nil] at hr ⊢
   exact hr
theorem spec_l3Join_ev (a : List S63) (b : List S68) (c : List S63) (e : List S68) (ha : a.length ≤ 2097152) (hb : b.length ≤ 2097152) (hc : c.length ≤ 2097152) (he : e.length ≤ 2097152) (o1 : okS a b = true) (o2 : okS c e = true) : Ev (fun k => spec_l3Join.f k a b c e) (joinS a b c e) :=
 spec_join_l a b c e ha hb hc he o1 o2 5 0 [] [] (by omega) (by simp) (by simp)
def joinO (a : List S63) (b : List S68) (c : List S63) (e : List S68) : List S63 × List S68 × Bool :=
 if okS a b = true then (if okS c e = true then ((joinS a b c e).1, (joinS a b c e).2, true) else ([], [], false)) else ([], [], false)
theorem impl_StateJoin_ev (a : List S63) (b : List S68) (c : List S63) (e : List S68) (ha : a.length ≤ 2097152) (hb : b.length ≤ 2097152) (hc : c.length ≤ 2097152) (he : e.length ≤ 2097152) : Ev (fun k => impl_StateJoin.f k a b c e) (joinO a b c e) := by
 simp only [impl_StateJoin.f, joinO]
 refine Ev.bind (impl_StateOk_ev a b ha hb) ?_
 by_cases o1 : okS a b = true
 ·simp only [if_pos o1]
  refine Ev.bind (impl_StateOk_ev c e hc he) ?_
  by_cases o2 : okS c e = true
  ·simp only [if_pos o2]
   refine Ev.bind (impl_stateJoin_ev a b c e ha hb hc he) ?_
   exact evSome _
  ·simp only [if_neg o2]; exact evSome _
 ·simp only [if_neg o1]; exact evSome _
theorem spec_StateJoin_ev (a : List S63) (b : List S68) (c : List S63) (e : List S68) (ha : a.length ≤ 2097152) (hb : b.length ≤ 2097152) (hc : c.length ≤ 2097152) (he : e.length ≤ 2097152) : Ev (fun k => spec_StateJoin.f k a b c e) (joinO a b c e) := by
 simp only [spec_StateJoin.f, joinO]
 refine Ev.bind (spec_StateOk_ev a b ha hb) ?_
 by_cases o1 : okS a b = true
 ·simp only [if_pos o1]
  refine Ev.bind (spec_StateOk_ev c e hc he) ?_
  by_cases o2 : okS c e = true
  ·simp only [if_pos o2]
   refine Ev.bind (spec_l3Join_ev a b c e ha hb hc he o1 o2) ?_
   exact evSome _
  ·simp only [if_neg o2]; exact evSome _
 ·simp only [if_neg o1]; exact evSome _
abbrev E5 := Int × Int × Int × Int × ByteArray
def ent5 (x : EntT) : E5 := (x.1, x.2.1, x.2.2.1, x.2.2.2.1, x.2.2.2.2.1)
def ec (x y : E5) : Int := ecmp x.1 x.2.1 x.2.2.1 x.2.2.2.1 x.2.2.2.2 y.1 y.2.1 y.2.2.1 y.2.2.2.1 y.2.2.2.2
def mxE (x y : E5) : E5 := if ec x y < 0 then y else x
theorem maxE_eq (x y : EntT) : maxE x y = mxE (ent5 x) (ent5 y) := rfl
theorem cmpI_self (a : Int) : cmpI a a = 0 := by unfold cmpI; simp
theorem cmpB_self : ∀ (x : List UInt8), Lib.compareBytes x x = 0
 | [] => by simp [Lib.compareBytes]
 | a :: p => by unfold Lib.compareBytes; simp [u8_irrefl, cmpB_self p]
theorem ec_unf (x y : E5) : ec x y = if cmpI x.1 y.1 ≠ 0 then cmpI x.1 y.1 else if cmpI x.2.1 y.2.1 ≠ 0 then cmpI x.2.1 y.2.1 else if cmpI x.2.2.1 y.2.2.1 ≠ 0 then cmpI x.2.2.1 y.2.2.1 else if cmpI x.2.2.2.1 y.2.2.2.1 ≠ 0 then cmpI x.2.2.2.1 y.2.2.2.1 else Lib.compareBytes x.2.2.2.2.data.toList y.2.2.2.2.data.toList := by
 unfold ec ecmp
 simp only [nz]
 repeat (first | (split <;> (try simp_all; done)) | rfl)
theorem ec_neg (x y : E5) : ec y x = - ec x y := ecmp_neg _ _ _ _ _ _ _ _ _ _
theorem ec_self (x : E5) : ec x x = 0 := by rw [ec_unf]; simp [cmpI_self, cmpB_self]
theorem ec_lt_iff (x y : E5) : ec x y < 0 ↔ (x.1 < y.1 ∨ x.1 = y.1 ∧ (x.2.1 < y.2.1 ∨ x.2.1 = y.2.1 ∧ (x.2.2.1 < y.2.2.1 ∨ x.2.2.1 = y.2.2.1 ∧ (x.2.2.2.1 < y.2.2.2.1 ∨ x.2.2.2.1 = y.2.2.2.1 ∧ Lib.compareBytes x.2.2.2.2.data.toList y.2.2.2.2.data.toList < 0)))) := by
 have key : ∀ (a b : Int) (r : Int) (p : Prop), (r < 0 ↔ p) → ((if cmpI a b ≠ 0 then cmpI a b else r) < 0 ↔ (a < b ∨ a = b ∧ p)) := by
  intro a b r p hp
  unfold cmpI
  by_cases h1 : a < b
  ·simp [h1]
  ·by_cases h2 : a > b
   ·simp [h1, h2]; omega
   ·have e : a = b := by omega
    subst e
    simp [hp]
 rw [ec_unf]
 exact key _ _ _ _ (key _ _ _ _ (key _ _ _ _ (key _ _ _ _ Iff.rfl)))
/-- x is y or behind it. -/
def leE (x y : E5) : Prop := ¬ ec y x < 0
theorem leE_refl (x : E5) : leE x x := by unfold leE; rw [ec_self]; omega
theorem mxE_left (x y : E5) : leE x (mxE x y) := by
 unfold mxE
 split
 ·rename_i h
  unfold leE
  have := ec_neg x y
  omega
 ·exact leE_refl x
theorem mxE_or (x y : E5) : mxE x y = x ∨ mxE x y = y := by unfold mxE; split <;> simp
def zeroE : E5 := (0, 0, 0, 0, (⟨#[]⟩ : ByteArray))
theorem maxI_le {a b : Int} : a ≤ maxI a b ∧ b ≤ maxI a b ∧ (maxI a b = a ∨ maxI a b = b) := by unfold maxI; split <;> omega
theorem flo_bd (a : Int) : ∀ (l : List S68) (p : Option Int), okF p l = true → 0 ≤ floOf l a ∧ floOf l a ≤ 1000
 | [], _, _ => by simp [floOf]
 | x :: r, p, h => by
  simp only [okF, Bool.and_eq_true, decide_eq_true_eq] at h
  simp only [floOf]
  split
  ·omega
  ·exact flo_bd a r (some x.f0) h.2.2.2
def kI (g : Int → Option E5) : Nat → Int → List S63
 | 0, _ => []
 | n + 1, i => (match g i with | some e => [⟨i, ⟨e.1, e.2.1, e.2.2.1, e.2.2.2.1, e.2.2.2.2⟩⟩] | none => []) ++ kI g n (i + 1)
def kF (f : Int → Int) : Nat → Int → List S68
 | 0, _ => []
 | n + 1, i => (if f i > 0 then [⟨i, f i⟩] else []) ++ kF f n (i + 1)
def oE (l : List S63) (a : Int) : Option E5 := if (entOf l a).2.2.2.2.2 = true then some (ent5 (entOf l a)) else none
theorem oE_nil (a : Int) : oE [] a = none := rfl
theorem oE_cons (x : S63) (l : List S63) (a : Int) : oE (x :: l) a = if x.f0 = a then some (x.f1.f0, x.f1.f1, x.f1.f2, x.f1.f3, x.f1.f4) else oE l a := by
 have h : entOf (x :: l) a = if x.f0 = a then (x.f1.f0, x.f1.f1, x.f1.f2, x.f1.f3, x.f1.f4, true) else entOf l a := rfl
 unfold oE
 rw [h]
 by_cases e : x.f0 = a
 ·simp only [if_pos e, if_true]; rfl
 ·simp only [if_neg e]
theorem oE_mem {l : List S63} {a : Int} {e : E5} (h : oE l a = some e) : ∃ x ∈ l, x.f0 = a ∧ e = (x.f1.f0, x.f1.f1, x.f1.f2, x.f1.f3, x.f1.f4) := by
 induction l with
 | nil => simp [oE_nil] at h
 | cons x l ih =>
  rw [oE_cons] at h
  by_cases c : x.f0 = a
  ·rw [if_pos c] at h
   exact ⟨x, List.mem_cons_self, c, (Option.some.inj h).symm⟩
  ·rw [if_neg c] at h
   obtain ⟨y, hy, h1⟩ := ih h
   exact ⟨y, List.mem_cons_of_mem _ hy, h1⟩
theorem oE_none {l : List S63} {a : Int} (h : ∀ x ∈ l, x.f0 ≠ a) : oE l a = none := by
 cases e : oE l a with
 | none => rfl
 | some v => obtain ⟨x, hx, h1, _⟩ := oE_mem e; exact absurd h1 (h x hx)
theorem ent_of (l : List S63) (a : Int) : entOf l a = match oE l a with | some e => (e.1, e.2.1, e.2.2.1, e.2.2.2.1, e.2.2.2.2, true) | none => (0, 0, 0, 0, (⟨#[]⟩ : ByteArray), false) := by
 unfold oE
 by_cases c : (entOf l a).2.2.2.2.2 = true
 ·rw [if_pos c]
  revert c
  generalize entOf l a = z
  obtain ⟨a1, a2, a3, a4, a5, a6⟩ := z
  intro c
  simp only at c
  subst c
  rfl
 ·rw [if_neg c]; exact ent_none a l c
def eZ (o : Option E5) : E5 := o.getD zeroE
theorem ent5_of (l : List S63) (a : Int) : ent5 (entOf l a) = eZ (oE l a) := by
 rw [ent_of]
 cases oE l a <;> rfl
/-- The ids lie in their order. -/
theorem okI_mem (b : List S68) : ∀ (l : List S63) (p : Option Int), okI b p l = true → ∀ x ∈ l, (0 ≤ x.f0 ∧ x.f0 ≤ 4) ∧ (∀ q, p = some q → q < x.f0) ∧ entryOkB x.f1.f0 x.f1.f1 x.f1.f2 x.f1.f3 x.f1.f4 = true ∧ floOf b x.f0 < x.f1.f0
 | [], _, _, x, hx => by simp at hx
 | y :: r, p, h, x, hx => by
  simp only [okI, Bool.and_eq_true, Bool.not_eq_true', decide_eq_false_iff_not] at h
  obtain ⟨h1, h2, h3, h4, h5⟩ := h
  have hy : ∀ q, p = some q → q < y.f0 := by
   intro q e
   subst e
   simp only [decide_eq_false_iff_not] at h2
   omega
  rcases List.mem_cons.1 hx with rfl | hx
  ·exact ⟨by simpa [nodeB] using h1, hy, h3, by omega⟩
  ·obtain ⟨z1, z2, z3⟩ := okI_mem b r (some y.f0) h5 x hx
   exact ⟨z1, fun q e => Int.lt_trans (hy q e) (z2 _ rfl), z3⟩
theorem okF_mem : ∀ (l : List S68) (p : Option Int), okF p l = true → ∀ x ∈ l, (0 ≤ x.f0 ∧ x.f0 ≤ 4) ∧ (∀ q, p = some q → q < x.f0) ∧ 1 ≤ x.f1 ∧ x.f1 ≤ 1000
 | [], _, _, x, hx => by simp at hx
 | y :: r, p, h, x, hx => by
  simp only [okF, Bool.and_eq_true, Bool.not_eq_true', decide_eq_true_eq] at h
  obtain ⟨h1, h2, h3, h5⟩ := h
  have hy : ∀ q, p = some q → q < y.f0 := by
   intro q e
   subst e
   simp only [decide_eq_false_iff_not] at h2
   omega
  rcases List.mem_cons.1 hx with rfl | hx
  ·exact ⟨by simpa [nodeB] using h1, hy, h3⟩
  ·obtain ⟨z1, z2, z3⟩ := okF_mem r (some y.f0) h5 x hx
   exact ⟨z1, fun q e => Int.lt_trans (hy q e) (z2 _ rfl), z3⟩
theorem kI_congr {g g' : Int → Option E5} : ∀ (n : Nat) (i : Int), (∀ j, i ≤ j → j < i + n → g j = g' j) → kI g n i = kI g' n i
 | 0, _, _ => rfl
 | n + 1, i, h => by
  simp only [kI]
  rw [h i (Int.le_refl _) (by omega), kI_congr n (i + 1) (fun j h1 h2 => h j (by omega) (by omega))]
theorem kF_congr {g g' : Int → Int} : ∀ (n : Nat) (i : Int), (∀ j, i ≤ j → j < i + n → g j = g' j) → kF g n i = kF g' n i
 | 0, _, _ => rfl
 | n + 1, i, h => by
  simp only [kF]
  rw [h i (Int.le_refl _) (by omega), kF_congr n (i + 1) (fun j h1 h2 => h j (by omega) (by omega))]
theorem kI_of (b : List S68) : ∀ (n : Nat) (i : Int) (l : List S63) (p : Option Int), i + n = 5 → okI b p l = true → (∀ x ∈ l, i ≤ x.f0) → l = kI (oE l) n i
 | 0, i, [], _, _, _, _ => rfl
 | 0, i, x :: l, p, h, ho, hi => by
  have h1 := hi x List.mem_cons_self
  have h2 := (okI_mem b _ p ho x List.mem_cons_self).1
  omega
 | n + 1, i, [], p, h, ho, hi => by
  simp only [kI, oE_nil, List.nil_append]
  have := kI_of b n (i + 1) [] p (by omega) ho (by simp)
  rw [← this]
 | n + 1, i, x :: l, p, h, ho, hi => by
  have ho2 : okI b (some x.f0) l = true := by simp only [okI, Bool.and_eq_true] at ho; exact ho.2.2.2.2
  have hm := okI_mem b l (some x.f0) ho2
  by_cases c : x.f0 = i
  ·have h1 := kI_of b n (i + 1) l (some x.f0) (by omega) ho2 (fun y hy => by have := (hm y hy).2.1 _ rfl; omega)
   simp only [kI]
   rw [oE_cons, if_pos c]
   simp only [List.singleton_append]
   rw [kI_congr (g' := oE l) n (i + 1) (fun j hj _ => by rw [oE_cons, if_neg (by omega)]), ← h1, ← c]
  ·have hx := hi x List.mem_cons_self
   have h1 := kI_of b n (i + 1) (x :: l) p (by omega) ho (fun y hy => by
    rcases List.mem_cons.1 hy with rfl | hy
    ·omega
    ·have := (hm y hy).2.1 _ rfl; omega)
   simp only [kI]
   rw [oE_none (l := x :: l) (a := i) (fun y hy => by
    rcases List.mem_cons.1 hy with rfl | hy
    ·exact c
    ·have := (hm y hy).2.1 _ rfl; omega)]
   simp only [List.nil_append]
   exact h1
theorem flo_cons (x : S68) (l : List S68) (a : Int) : floOf (x :: l) a = if x.f0 = a then x.f1 else floOf l a := rfl
theorem flo_zero {l : List S68} {a : Int} (h : ∀ x ∈ l, x.f0 ≠ a) : floOf l a = 0 := by
 induction l with
 | nil => rfl
 | cons x l ih => rw [flo_cons, if_neg (h x List.mem_cons_self)]; exact ih (fun y hy => h y (List.mem_cons_of_mem _ hy))
theorem kF_of : ∀ (n : Nat) (i : Int) (l : List S68) (p : Option Int), i + n = 5 → okF p l = true → (∀ x ∈ l, i ≤ x.f0) → l = kF (floOf l) n i
 | 0, i, [], _, _, _, _ => rfl
 | 0, i, x :: l, p, h, ho, hi => by
  have h1 := hi x List.mem_cons_self
  have h2 := (okF_mem _ p ho x List.mem_cons_self).1
  omega
 | n + 1, i, [], p, h, ho, hi => by
  simp only [kF]
  have := kF_of n (i + 1) [] p (by omega) ho (by simp)
  rw [← this]; simp [floOf]
 | n + 1, i, x :: l, p, h, ho, hi => by
  have ho2 : okF (some x.f0) l = true := by simp only [okF, Bool.and_eq_true] at ho; exact ho.2.2.2
  have hm := okF_mem l (some x.f0) ho2
  have hx1 := (okF_mem (x :: l) p ho x List.mem_cons_self).2.2
  by_cases c : x.f0 = i
  ·have h1 := kF_of n (i + 1) l (some x.f0) (by omega) ho2 (fun y hy => by have := (hm y hy).2.1 _ rfl; omega)
   simp only [kF]
   rw [flo_cons, if_pos c, if_pos (by omega)]
   simp only [List.singleton_append]
   rw [kF_congr (g' := floOf l) n (i + 1) (fun j hj _ => by rw [flo_cons, if_neg (by omega)]), ← h1, ← c]
  ·have hx := hi x List.mem_cons_self
   have h1 := kF_of n (i + 1) (x :: l) p (by omega) ho (fun y hy => by
    rcases List.mem_cons.1 hy with rfl | hy
    ·omega
    ·have := (hm y hy).2.1 _ rfl; omega)
   simp only [kF]
   rw [flo_zero (l := x :: l) (a := i) (fun y hy => by
    rcases List.mem_cons.1 hy with rfl | hy
    ·exact c
    ·have := (hm y hy).2.1 _ rfl; omega)]
   rw [if_neg (by omega)]
   simp only [List.nil_append]
   exact h1
theorem ok_items {a : List S63} {b : List S68} (h : okS a b = true) : a = kI (oE a) 5 0 := by
 simp only [okS, Bool.and_eq_true] at h
 exact kI_of b 5 0 a none (by omega) h.1 (fun x hx => (okI_mem b a none h.1 x hx).1.1)
theorem ok_floors {a : List S63} {b : List S68} (h : okS a b = true) : b = kF (floOf b) 5 0 := by
 simp only [okS, Bool.and_eq_true] at h
 exact kF_of 5 0 b none (by omega) h.2 (fun x hx => (okF_mem b none h.2 x hx).1.1)
theorem oE_kI (g : Int → Option E5) : ∀ (n : Nat) (i a : Int), oE (kI g n i) a = if i ≤ a ∧ a < i + n then g a else none
 | 0, i, a => by simp only [kI, oE_nil]; rw [if_neg (by omega)]
 | n + 1, i, a => by
  have ih := oE_kI g n (i + 1) a
  simp only [kI]
  by_cases c : i = a
  ·subst c
   rw [if_pos (by omega)]
   cases h : g i with
   | none => simp only [List.nil_append]; rw [ih, if_neg (by omega)]
   | some e => simp only [List.singleton_append]; rw [oE_cons, if_pos rfl]
  ·have e : oE (kI g n (i + 1)) a = if i ≤ a ∧ a < i + (n + 1 : Nat) then g a else none := by
    rw [ih]
    by_cases d : i + 1 ≤ a ∧ a < i + 1 + n
    ·rw [if_pos d, if_pos (by omega)]
    ·rw [if_neg d, if_neg (by omega)]
   cases h : g i with
   | none => simp only [List.nil_append]; exact e
   | some e' => simp only [List.singleton_append]; rw [oE_cons, if_neg c]; exact e
theorem flo_kF (f : Int → Int) (hf : ∀ j, 0 ≤ f j) : ∀ (n : Nat) (i a : Int), floOf (kF f n i) a = if i ≤ a ∧ a < i + n then f a else 0
 | 0, i, a => by simp only [kF]; rw [if_neg (by omega)]; rfl
 | n + 1, i, a => by
  have ih := flo_kF f hf n (i + 1) a
  have h0 := hf i
  simp only [kF]
  by_cases c : i = a
  ·subst c
   rw [if_pos (show i ≤ i ∧ i < i + (n + 1 : Nat) by omega)]
   by_cases h : f i > 0
   ·rw [if_pos h]; simp only [List.singleton_append]; rw [flo_cons, if_pos rfl]
   ·rw [if_neg h]; simp only [List.nil_append]; rw [ih, if_neg (by omega)]; omega
  ·have e : floOf (kF f n (i + 1)) a = if i ≤ a ∧ a < i + (n + 1 : Nat) then f a else 0 := by
    rw [ih]
    by_cases d : i + 1 ≤ a ∧ a < i + 1 + n
    ·rw [if_pos d, if_pos (by omega)]
    ·rw [if_neg d, if_neg (by omega)]
   by_cases h : f i > 0
   ·rw [if_pos h]; simp only [List.singleton_append]; rw [flo_cons, if_neg c]; exact e
   ·rw [if_neg h]; simp only [List.nil_append]; exact e
theorem kI_len (g : Int → Option E5) : ∀ (n : Nat) (i : Int), (kI g n i).length ≤ n
 | 0, _ => by simp [kI]
 | n + 1, i => by
  have := kI_len g n (i + 1)
  simp only [kI]
  cases g i <;> simp <;> omega
theorem kF_len (f : Int → Int) : ∀ (n : Nat) (i : Int), (kF f n i).length ≤ n
 | 0, _ => by simp [kF]
 | n + 1, i => by
  have := kF_len f n (i + 1)
  simp only [kF]
  split <;> simp <;> omega
theorem ok_len {a : List S63} {b : List S68} (h : okS a b = true) : a.length ≤ 5 ∧ b.length ≤ 5 := by
 constructor
 ·rw [ok_items h]; exact kI_len _ _ _
 ·rw [ok_floors h]; exact kF_len _ _ _
/-- A right entry over its floor, for each node. -/
def okP (g : Int → Option E5) (f : Int → Int) : Prop := ∀ i, (∀ e, g i = some e → entryOkB e.1 e.2.1 e.2.2.1 e.2.2.2.1 e.2.2.2.2 = true ∧ f i < e.1) ∧ 0 ≤ f i ∧ f i ≤ 1000
theorem okI_kI {b : List S68} {g : Int → Option E5} {f : Int → Int} (hg : okP g f) (hb : ∀ i, 0 ≤ i → i ≤ 4 → floOf b i = f i) : ∀ (n : Nat) (i : Int) (p : Option Int), 0 ≤ i → i + n = 5 → (∀ q, p = some q → q < i) → okI b p (kI g n i) = true
 | 0, _, _, _, _, _ => rfl
 | n + 1, i, p, h0, h5, hp => by
  simp only [kI]
  cases h : g i with
  | none => simp only [List.nil_append]; exact okI_kI hg hb n (i + 1) p (by omega) (by omega) (fun q e => by have := hp q e; omega)
  | some e =>
   obtain ⟨h1, h2⟩ := (hg i).1 e h
   simp only [List.singleton_append, okI, Bool.and_eq_true]
   refine ⟨by simp [nodeB]; omega, ?_, h1, ?_, okI_kI hg hb n (i + 1) (some i) (by omega) (by omega) (fun q e => by have := Option.some.inj e; omega)⟩
   ·cases p with
    | none => rfl
    | some q => have := hp q rfl; simp; omega
   ·rw [hb i h0 (by omega)]; simp; omega
theorem okF_kF {f : Int → Int} (hf : ∀ i, 0 ≤ f i ∧ f i ≤ 1000) : ∀ (n : Nat) (i : Int) (p : Option Int), 0 ≤ i → i + n = 5 → (∀ q, p = some q → q < i) → okF p (kF f n i) = true
 | 0, _, _, _, _, _ => rfl
 | n + 1, i, p, h0, h5, hp => by
  have h1 := hf i
  simp only [kF]
  by_cases h : f i > 0
  ·rw [if_pos h]
   simp only [List.singleton_append, okF, Bool.and_eq_true]
   refine ⟨by simp [nodeB]; omega, ?_, by simp; omega, okF_kF hf n (i + 1) (some i) (by omega) (by omega) (fun q e => by have := Option.some.inj e; omega)⟩
   cases p with
   | none => rfl
   | some q => have := hp q rfl; simp; omega
  ·rw [if_neg h]; simp only [List.nil_append]; exact okF_kF hf n (i + 1) p (by omega) (by omega) (fun q e => by have := hp q e; omega)
theorem ok_mk {g : Int → Option E5} {f : Int → Int} (h : okP g f) : okS (kI g 5 0) (kF f 5 0) = true := by
 simp only [okS, Bool.and_eq_true]
 refine ⟨okI_kI h (fun i h0 h4 => ?_) 5 0 none (by omega) (by omega) (fun q e => by cases e), okF_kF (fun i => (h i).2) 5 0 none (by omega) (by omega) (fun q e => by cases e)⟩
 rw [flo_kF f (fun j => (h j).2.1), if_pos (by omega)]
theorem okP_of {a : List S63} {b : List S68} (h : okS a b = true) : okP (oE a) (floOf b) := by
 simp only [okS, Bool.and_eq_true] at h
 intro i
 refine ⟨fun e he => ?_, flo_bd i b none h.2⟩
 obtain ⟨x, hx, h1, rfl⟩ := oE_mem he
 obtain ⟨_, _, h3, h4⟩ := okI_mem b a none h.1 x hx
 exact ⟨h3, by rw [← h1]; exact h4⟩
/-- What the join holds. -/
def jE (x y : Option E5) (f : Int) : Option E5 := if (mxE (eZ x) (eZ y)).1 > f then some (mxE (eZ x) (eZ y)) else none
def jF (a b : Int) : Int := maxI a b
theorem joinR_eq (a : List S63) (b : List S68) (c : List S63) (e : List S68) : ∀ (n : Nat) (i : Int) (x : List S63) (y : List S68),
  joinR a b c e n i x y = (x ++ kI (fun j => jE (oE a j) (oE c j) (jF (floOf b j) (floOf e j))) n i, y ++ kF (fun j => jF (floOf b j) (floOf e j)) n i)
 | 0, i, x, y => by simp [joinR, kI, kF]
 | n + 1, i, x, y => by
  simp only [joinR]
  rw [joinR_eq a b c e n (i + 1)]
  simp only [kI, kF, List.append_assoc, maxE_eq, ent5_of]
  congr 2
  ·congr 1
   unfold addI jE jF
   by_cases h : (mxE (eZ (oE a i)) (eZ (oE c i))).1 > maxI (floOf b i) (floOf e i)
   ·rw [if_pos h, if_pos h]
   ·rw [if_neg h, if_neg h]
theorem joinS_eq (a : List S63) (b : List S68) (c : List S63) (e : List S68) : joinS a b c e = (kI (fun j => jE (oE a j) (oE c j) (jF (floOf b j) (floOf e j))) 5 0, kF (fun j => jF (floOf b j) (floOf e j)) 5 0) := by
 unfold joinS; rw [joinR_eq]; simp
theorem jE_some {x y : Option E5} {f : Int} {e : E5} (hf : 0 ≤ f) (h : jE x y f = some e) : (x = some e ∨ y = some e) ∧ f < e.1 := by
 unfold jE at h
 by_cases c : (mxE (eZ x) (eZ y)).1 > f
 ·rw [if_pos c] at h
  have h := Option.some.inj h
  refine ⟨?_, by rw [h] at c; exact c⟩
  rcases mxE_or (eZ x) (eZ y) with h1 | h1
  ·left
   rw [h1] at h c
   cases x with
   | none => simp [eZ, zeroE] at c; omega
   | some v => exact congrArg some h
  ·right
   rw [h1] at h c
   cases y with
   | none => simp [eZ, zeroE] at c; omega
   | some v => exact congrArg some h
 ·rw [if_neg c] at h; cases h
theorem okP_join {g g' : Int → Option E5} {f f' : Int → Int} (h : okP g f) (h' : okP g' f') : okP (fun j => jE (g j) (g' j) (jF (f j) (f' j))) (fun j => jF (f j) (f' j)) := by
 intro i
 have h1 := (h i).2
 have h2 := (h' i).2
 have h3 := maxI_le (a := f i) (b := f' i)
 have h4 : 0 ≤ jF (f i) (f' i) ∧ jF (f i) (f' i) ≤ 1000 := by unfold jF; omega
 refine ⟨fun e he => ?_, h4⟩
 obtain ⟨h5, h6⟩ := jE_some h4.1 he
 rcases h5 with h5 | h5
 ·exact ⟨((h i).1 e h5).1, h6⟩
 ·exact ⟨((h' i).1 e h5).1, h6⟩
theorem join_ok {a : List S63} {b : List S68} {c : List S63} {e : List S68} (h : okS a b = true) (h' : okS c e = true) : okS (joinS a b c e).1 (joinS a b c e).2 = true := by
 rw [joinS_eq]
 exact ok_mk (okP_join (okP_of h) (okP_of h'))
theorem join_E {a : List S63} {b : List S68} {c : List S63} {e : List S68} {i : Int} (h0 : 0 ≤ i) (h4 : i ≤ 4) : oE (joinS a b c e).1 i = jE (oE a i) (oE c i) (jF (floOf b i) (floOf e i)) := by
 rw [joinS_eq]; simp only; rw [oE_kI, if_pos (by omega)]
theorem join_F {a : List S63} {b : List S68} {c : List S63} {e : List S68} (h : okS a b = true) (h' : okS c e = true) {i : Int} (h0 : 0 ≤ i) (h4 : i ≤ 4) : floOf (joinS a b c e).2 i = jF (floOf b i) (floOf e i) := by
 rw [joinS_eq]; simp only
 rw [flo_kF _ (fun j => ((okP_join (okP_of h) (okP_of h')) j).2.1), if_pos (by omega)]
def viewI (l : List S63) : List S63 := l.filter fun x => decide (x.f1.f1 = 0)
def viewR (l : List S63) (fl : List S68) : List S63 := if okS l fl = true then viewI l else []
theorem viewI_len (l : List S63) : (viewI l).length ≤ l.length := List.length_filter_le _ _
theorem spec_View_l (l : List S63) (fl : List S68) (hl : l.length ≤ 2097152) : ∀ (d i : Nat) (acc : List S63), i + d = l.length → acc.length ≤ i → Ev (fun k => spec_View.l0 k acc (i : Int) l fl) (acc ++ viewI (l.drop i)) := by
 intro d
 induction d with
 | zero =>
  intro i acc h _
  rw [List.drop_eq_nil_of_le (by omega)]
  refine evRet fun k => ?_
  simp only [spec_View.l0]; rw [if_neg (by omega)]; simp [viewI]
 | succ d ih =>
  intro i acc h ha
  have hi : i < l.length := by omega
  rw [List.drop_eq_getElem_cons hi]
  refine evSucc ?_
  simp only [spec_View.l0, rdI hi]
  simp only [if_pos (show (i : Int) < (l.length : Int) by omega), if_pos (show (0 : Int) ≤ (i : Int) by omega), w64 (show (-9223372036854775808 : Int) ≤ (i : Int) + 1 by omega) (by omega), if_pos (show acc.length < 2513169434916 by omega)]
  by_cases h0 : l[i].f1.f1 = 0
  ·simp only [if_pos h0]
   have e : viewI (l[i] :: l.drop (i + 1)) = l[i] :: viewI (l.drop (i + 1)) := by simp only [viewI]; rw [List.filter_cons_of_pos (by simpa using h0)]
   rw [e]
   have := ih (i + 1) (acc ++ [l[i]]) (by omega) (by simp; omega)
   rw [List.append_assoc, List.singleton_append] at this
   exact this
  ·simp only [if_neg h0]
   have e : viewI (l[i] :: l.drop (i + 1)) = viewI (l.drop (i + 1)) := by simp only [viewI]; rw [List.filter_cons_of_neg (by simpa using h0)]
   rw [e]
   exact ih (i + 1) acc (by omega) (by omega)
theorem spec_View_ev (l : List S63) (fl : List S68) (hl : l.length ≤ 2097152) (hf : fl.length ≤ 2097152) : Ev (fun k => spec_View.f k l fl) (viewR l fl) := by
 simp only [spec_View.f, Option.bind_some]
 refine Ev.bind (spec_StateOk_ev l fl hl hf) ?_
 by_cases h : okS l fl = true
 ·simp only [if_pos h, viewR]
  exact spec_View_l l fl hl l.length 0 [] (by omega) (by simp)
 ·simp only [if_neg h, viewR]; exact evSome _
theorem impl_View_l (l : List S63) (hl : l.length ≤ 2097152) : ∀ (d i : Nat) (acc : List S63), i + d = l.length → acc.length ≤ i → Ev (fun k => impl_View.l0 k acc l (l.length : Int) (i : Int)) (acc ++ viewI (l.drop i)) := by
 intro d
 induction d with
 | zero =>
  intro i acc h _
  rw [List.drop_eq_nil_of_le (by omega)]
  refine evRet fun k => ?_
  simp only [impl_View.l0]; rw [if_neg (by omega)]; simp [viewI]
 | succ d ih =>
  intro i acc h ha
  have hi : i < l.length := by omega
  rw [List.drop_eq_getElem_cons hi]
  refine evSucc ?_
  simp only [impl_View.l0, rdI hi]
  simp only [if_pos (show (i : Int) < (l.length : Int) by omega), if_pos (show (0 : Int) ≤ (i : Int) by omega), w64 (show (-9223372036854775808 : Int) ≤ (i : Int) + 1 by omega) (by omega), if_pos (show acc.length < 2513169434916 by omega)]
  by_cases h0 : l[i].f1.f1 = 0
  ·simp only [if_pos h0]
   have e : viewI (l[i] :: l.drop (i + 1)) = l[i] :: viewI (l.drop (i + 1)) := by simp only [viewI]; rw [List.filter_cons_of_pos (by simpa using h0)]
   rw [e]
   have := ih (i + 1) (acc ++ [l[i]]) (by omega) (by simp; omega)
   rw [List.append_assoc, List.singleton_append] at this
   exact this
  ·simp only [if_neg h0]
   have e : viewI (l[i] :: l.drop (i + 1)) = viewI (l.drop (i + 1)) := by simp only [viewI]; rw [List.filter_cons_of_neg (by simpa using h0)]
   rw [e]
   exact ih (i + 1) acc (by omega) (by omega)
theorem impl_View_ev (l : List S63) (fl : List S68) (hl : l.length ≤ 2097152) (hf : fl.length ≤ 2097152) : Ev (fun k => impl_View.f k l fl) (viewR l fl) := by
 simp only [impl_View.f, Option.bind_some]
 refine Ev.bind (impl_StateOk_ev l fl hl hf) ?_
 by_cases h : okS l fl = true
 ·simp only [if_pos h, viewR]
  exact impl_View_l l hl l.length 0 [] (by omega) (by simp)
 ·simp only [if_neg h, viewR]; exact evSome _
theorem viewR_len (l : List S63) (fl : List S68) : (viewR l fl).length ≤ l.length := by
 unfold viewR; split
 ·exact viewI_len l
 ·simp
theorem impl_Lookup_ev (l : List S63) (fl : List S68) (a : Int) (hl : l.length ≤ 2097152) (hf : fl.length ≤ 2097152) : Ev (fun k => impl_Lookup.f k l fl a) (entOf (viewR l fl) a) := by
 simp only [impl_Lookup.f]
 refine Ev.bind (impl_View_ev l fl hl hf) ?_
 refine Ev.bind (impl_EntryOf_ev _ [] a (by have := viewR_len l fl; omega)) ?_
 exact evSome _
theorem ent_flag (b : List S68) (a : Int) : ∀ (l : List S63) (p : Option Int), okI b p l = true → (entOf l a).2.2.2.2.2 = true → (entOf l a).2.1 = 0 ∨ (entOf l a).2.1 = 1
 | [], _, _, h => by simp [entOf] at h
 | x :: r, p, h, h2 => by
  simp only [okI, Bool.and_eq_true] at h
  obtain ⟨_, _, h3, _, h4⟩ := h
  simp only [entOf] at h2 ⊢
  by_cases e : x.f0 = a
  ·rw [if_pos e]
   simp only [entryOkB, Bool.and_eq_true, decide_eq_true_eq] at h3
   obtain ⟨_, h5, _⟩ := h3
   show x.f1.f1 = 0 ∨ x.f1.f1 = 1
   omega
  ·rw [if_neg e] at h2 ⊢
   exact ent_flag b a r (some x.f0) h4 h2
def goneA (l : List S63) (fl : List S68) (a : Int) : Int :=
 if okS l fl = true then (if (entOf l a).2.2.2.2.2 = true then (if (entOf l a).2.1 = 0 then wrap64 ((entOf l a).1 - 1) else (entOf l a).1) else floOf fl a) else 0
theorem impl_GoneAt_ev (l : List S63) (fl : List S68) (a : Int) (hl : l.length ≤ 2097152) (hf : fl.length ≤ 2097152) : Ev (fun k => impl_GoneAt.f k l fl a) (goneA l fl a) := by
 simp only [impl_GoneAt.f]
 refine Ev.bind (impl_StateOk_ev l fl hl hf) ?_
 by_cases h : okS l fl = true
 ·simp only [if_pos h, goneA]
  refine Ev.bind (impl_EntryOf_ev l fl a hl) ?_
  by_cases h2 : (entOf l a).2.2.2.2.2 = true
  ·simp only [if_pos h2]
   have hk : okI fl none l = true := by simp only [okS, Bool.and_eq_true] at h; exact h.1
   have := ent_flag fl a l none hk h2
   by_cases h3 : (entOf l a).2.1 = 0
   ·simp only [if_pos h3, if_neg (show ¬ (entOf l a).2.1 = 1 by omega)]; exact evSome _
   ·simp only [if_neg h3, if_pos (show (entOf l a).2.1 = 1 by omega)]; exact evSome _
  ·simp only [if_neg h2]
   refine Ev.bind (impl_FloorOf_ev fl l a hf) ?_
   exact evSome _
 ·simp only [if_neg h, goneA]; exact evSome _
def bs (l : List UInt8) : ByteArray := ⟨l.toArray⟩
theorem bs_data (x : ByteArray) : bs x.data.toList = x := by
 cases x
 simp [bs]
theorem bs_app (a b : List UInt8) : bs a ++ bs b = bs (a ++ b) := by
 apply ByteArray.ext
 simp [bs]
theorem bs_size (l : List UInt8) : (bs l).size = l.length := by simp [bs, ByteArray.size]
theorem ba_assoc (a b c : ByteArray) : a ++ b ++ c = a ++ (b ++ c) := ByteArray.append_assoc
theorem ba_size (a b : ByteArray) : (a ++ b).size = a.size + b.size := ByteArray.size_append
theorem ba_nil (a : ByteArray) : a ++ (⟨#[]⟩ : ByteArray) = a := by
 apply ByteArray.ext
 simp
def decD (u : Nat) : List UInt8 := if u = 0 then [] else Lib.decDigits u
theorem decD_step {u : Nat} (h : 0 < u) : decD u = decD (u / 10) ++ [UInt8.ofNat (48 + u % 10)] := by
 unfold decD
 rw [if_neg (by omega), Lib.decDigits]
 by_cases c : u < 10
 ·rw [dif_pos c, if_pos (by omega), show u % 10 = u by omega]; rfl
 ·rw [dif_neg c, if_neg (by omega)]
theorem decD_len : ∀ (d u : Nat), u < 10 ^ d → (decD u).length ≤ d := by
 intro d
 induction d with
 | zero =>
  intro u h
  rw [show u = 0 by omega]; simp [decD]
 | succ d ih =>
  intro u h
  by_cases c : u = 0
  ·rw [c]; simp [decD]
  ·rw [decD_step (by omega), List.length_append]
   have := ih (u / 10) (by rw [Nat.pow_succ] at h; omega)
   simp
   omega
def dig (n : Int) : ByteArray := bs (Lib.itoa n)
def finD (b : Bool) (s : ByteArray) : ByteArray := if b = true then (⟨#[45]⟩ : ByteArray) ++ s else s
theorem digit_str {q : Int} (h0 : 0 ≤ q) (h1 : q < 10) : strOfNums [(wrap64 (48 + q)) % 256] = bs [UInt8.ofNat (48 + q.toNat)] := by
 rw [w64 (by omega) (by omega)]
 have e : ((48 + q) % 256).toNat = 48 + q.toNat := by omega
 simp [strOfNums, bs, e]
theorem spec_Digits_l : ∀ (d : Nat) (x : Int) (b : Bool) (acc : ByteArray), x.natAbs < 10 ^ d → acc.size + d ≤ 40 → -9223372036854775808 ≤ x → x ≤ 9223372036854775807 → Ev (fun k => spec_Digits.l0 k x b acc) (finD b (bs (decD x.natAbs) ++ acc)) := by
 have fin0 : ∀ (b : Bool) (acc : ByteArray), acc.size ≤ 40 → Ev (fun k => spec_Digits.l0 k 0 b acc) (finD b (bs (decD (0 : Int).natAbs) ++ acc)) := by
  intro b acc ha
  have e : bs (decD (0 : Int).natAbs) ++ acc = acc := by
   apply ByteArray.ext
   simp [bs, decD]
  rw [e]
  refine evRet fun k => ?_
  simp only [spec_Digits.l0, if_true]
  cases b
  ·rfl
  ·simp only [if_true, finD, if_pos (show 1 + acc.size ≤ 9223372036854775807 by omega)]
 intro d
 induction d with
 | zero =>
  intro x b acc h ha _ _
  obtain rfl : x = 0 := by omega
  exact fin0 b acc (by omega)
 | succ d ih =>
  intro x b acc h ha l0 l1
  by_cases h0 : x = 0
  ·subst h0
   exact fin0 b acc (by omega)
  ·have hd : x.natAbs / 10 < 10 ^ d := by rw [Nat.pow_succ] at h; omega
   have key : ∀ q : Int, 0 ≤ q → q.toNat = x.natAbs % 10 → (strOfNums [(wrap64 (48 + q)) % 256]).size + acc.size ≤ 9223372036854775807 ∧ Ev (fun k => spec_Digits.l0 k (wrap64 (Int.tdiv x 10)) b (strOfNums [(wrap64 (48 + q)) % 256] ++ acc)) (finD b (bs (decD x.natAbs) ++ acc)) := by
    intro q q0 qe
    have e1 := digit_str q0 (by omega)
    have ea : (Int.tdiv x 10).natAbs = x.natAbs / 10 := by
     rw [Int.natAbs_tdiv]; rfl
    have eb : -9223372036854775808 ≤ Int.tdiv x 10 ∧ Int.tdiv x 10 ≤ 9223372036854775807 := by omega
    have es : (strOfNums [(wrap64 (48 + q)) % 256]).size = 1 := by rw [e1, bs_size]; rfl
    have := ih (Int.tdiv x 10) b (strOfNums [(wrap64 (48 + q)) % 256] ++ acc) (by rw [ea]; exact hd) (by rw [ba_size, es]; omega) eb.1 eb.2
    refine ⟨by omega, ?_⟩
    rw [w64 eb.1 eb.2]
    rw [ea, e1, ← ba_assoc, bs_app, qe, ← decD_step (by omega)] at this
    rw [e1, qe]
    exact this
   refine evSucc ?_
   simp only [spec_Digits.l0, if_neg h0, Option.bind_some]
   by_cases hm : Int.tmod x 10 < 0
   ·have hx : x < 0 := Decidable.byContradiction fun hx => by have := Int.tmod_nonneg 10 (show 0 ≤ x by omega); omega
    have hy : Int.tmod x 10 = -((x.natAbs % 10 : Nat) : Int) := by
     have e : x = -((x.natAbs : Nat) : Int) := by omega
     conv => lhs; rw [e, Int.neg_tmod, tmod_pos (by omega)]
     omega
    obtain ⟨k1, k2⟩ := key (-(Int.tmod x 10)) (by omega) (by omega)
    simp only [if_pos hm, w64 (n := -(Int.tmod x 10)) (by omega) (by omega), if_pos k1]
    exact k2
   ·have hy : Int.tmod x 10 = ((x.natAbs % 10 : Nat) : Int) := by
     by_cases hx : 0 ≤ x
     ·rw [tmod_pos hx]; omega
     ·have e : x = -((x.natAbs : Nat) : Int) := by omega
      have e2 : Int.tmod x 10 = -((x.natAbs : Int) % 10) := by
       conv => lhs; rw [e, Int.neg_tmod, tmod_pos (by omega)]
      omega
    obtain ⟨k1, k2⟩ := key (Int.tmod x 10) (by omega) (by omega)
    simp only [if_neg hm, if_pos k1]
    exact k2
theorem dig_size {n : Int} (h0 : -9223372036854775808 ≤ n) (h1 : n ≤ 9223372036854775807) : (dig n).size ≤ 20 := by
 unfold dig Lib.itoa
 have h : ∀ u : Nat, u < 10 ^ 19 → (Lib.decDigits u).length ≤ 19 := fun u hu => by
  by_cases c : u = 0
  ·rw [c, Lib.decDigits, dif_pos (by omega)]; simp
  ·have := decD_len 19 u hu
   unfold decD at this
   rwa [if_neg c] at this
 split
 ·rw [bs_size]
  have := h n.natAbs (by omega)
  simp
  omega
 ·rw [bs_size]
  have := h n.toNat (by omega)
  omega
theorem spec_Digits_ev (n : Int) (h0 : -9223372036854775808 ≤ n) (h1 : n ≤ 9223372036854775807) : Ev (fun k => spec_Digits.f k n) (dig n) := by
 simp only [spec_Digits.f]
 by_cases c : n = 0
 ·subst c
  simp only [if_true]
  have e : dig 0 = (⟨#[48]⟩ : ByteArray) := by
   unfold dig Lib.itoa
   rw [if_neg (by omega), Lib.decDigits, dif_pos (by decide)]
   rfl
  rw [e]
  exact evSome _
 ·simp only [if_neg c]
  have := spec_Digits_l 19 n (decide (n < 0)) (⟨#[]⟩ : ByteArray) (by omega) (by simp [ByteArray.size]) h0 h1
  have e : finD (decide (n < 0)) (bs (decD n.natAbs) ++ (⟨#[]⟩ : ByteArray)) = dig n := by
   rw [ba_nil]
   have hz : ¬ n.natAbs = 0 := by omega
   unfold finD dig Lib.itoa decD
   rw [if_neg hz]
   by_cases d : n < 0
   ·rw [decide_eq_true d, if_pos rfl, if_pos d]
    exact bs_app [45] (Lib.decDigits n.natAbs)
   ·rw [decide_eq_false d, if_neg (by simp), if_neg d, show n.natAbs = n.toNat by omega]
  rw [e] at this
  exact this
theorem impl_Digits_eq (n : Int) (h0 : -9223372036854775808 ≤ n) (h1 : n ≤ 9223372036854775807) : impl_Digits.f n = some (dig n) := by
 unfold impl_Digits.f strconv_Itoa.f
 rw [if_pos ⟨h0, h1⟩]
 rfl
def rankB (r : Int) : ByteArray := if r = 0 then (⟨#[117]⟩ : ByteArray) else if r = 1 then (⟨#[103]⟩ : ByteArray) else (⟨#[63]⟩ : ByteArray)
def entW (a x b c s : ByteArray) : ByteArray := (((((a ++ x) ++ b) ++ (⟨#[46]⟩ : ByteArray)) ++ c) ++ (⟨#[58]⟩ : ByteArray)) ++ s
def entT (i r b v : Int) (s : ByteArray) : ByteArray := entW (dig i) (rankB r) (dig b) (dig v) s
theorem one_size (u : UInt8) : (⟨#[u]⟩ : ByteArray).size = 1 := rfl
theorem rankB_size (r : Int) : (rankB r).size = 1 := by
 unfold rankB
 split
 ·rfl
 ·split <;> rfl
theorem entT_size {i r b v : Int} {s : ByteArray} (hi : -9223372036854775808 ≤ i ∧ i ≤ 9223372036854775807) (hb : -9223372036854775808 ≤ b ∧ b ≤ 9223372036854775807) (hv : -9223372036854775808 ≤ v ∧ v ≤ 9223372036854775807) : (entT i r b v s).size ≤ 70 + s.size := by
 have h1 := dig_size hi.1 hi.2
 have h2 := dig_size hb.1 hb.2
 have h3 := dig_size hv.1 hv.2
 have h4 := rankB_size r
 unfold entT entW
 simp only [ba_size, one_size]
 omega
section
variable {i r b v : Int} {s : ByteArray}
theorem spec_EntryText_ev (hi : -9223372036854775808 ≤ i ∧ i ≤ 9223372036854775807) (hb : -9223372036854775808 ≤ b ∧ b ≤ 9223372036854775807) (hv : -9223372036854775808 ≤ v ∧ v ≤ 9223372036854775807) (hs : s.size ≤ 140737488351232) : Ev (fun k => spec_EntryText.f k i r b v s) (entT i r b v s) := by
 have h1 := dig_size hi.1 hi.2
 have h2 := dig_size hb.1 hb.2
 have h3 := dig_size hv.1 hv.2
 have main : ∀ x : ByteArray, x.size = 1 → (r ≠ 1 → rankB r = x) → Ev (fun k => spec_EntryText.j0 k x i r b v s) (entT i r b v s) := by
  intro x hx hr
  refine evSucc ?_
  by_cases c : r = 1
  ·simp only [spec_EntryText.j0, if_pos c]
   have e : rankB r = (⟨#[103]⟩ : ByteArray) := by unfold rankB; rw [if_neg (by omega), if_pos c]
   refine Ev.bind (spec_Digits_ev i hi.1 hi.2) ?_
   simp only [if_pos (show (dig i).size + 1 ≤ 9223372036854775807 by omega)]
   refine Ev.bind (spec_Digits_ev b hb.1 hb.2) ?_
   simp only [if_pos (show (dig i ++ (⟨#[103]⟩ : ByteArray)).size + (dig b).size ≤ 9223372036854775807 by simp only [ba_size, one_size]; omega), if_pos (show ((dig i ++ (⟨#[103]⟩ : ByteArray)) ++ dig b).size + 1 ≤ 9223372036854775807 by simp only [ba_size, one_size]; omega)]
   refine Ev.bind (spec_Digits_ev v hv.1 hv.2) ?_
   simp only [if_pos (show (((dig i ++ (⟨#[103]⟩ : ByteArray)) ++ dig b) ++ (⟨#[46]⟩ : ByteArray)).size + (dig v).size ≤ 9223372036854775807 by simp only [ba_size, one_size]; omega), if_pos (show ((((dig i ++ (⟨#[103]⟩ : ByteArray)) ++ dig b) ++ (⟨#[46]⟩ : ByteArray)) ++ dig v).size + 1 ≤ 9223372036854775807 by simp only [ba_size, one_size]; omega), if_pos (show (((((dig i ++ (⟨#[103]⟩ : ByteArray)) ++ dig b) ++ (⟨#[46]⟩ : ByteArray)) ++ dig v) ++ (⟨#[58]⟩ : ByteArray)).size + s.size ≤ 9223372036854775807 by simp only [ba_size, one_size]; omega)]
   unfold entT entW
   rw [e]
   exact evSome _
  ·simp only [spec_EntryText.j0, if_neg c]
   have e := hr c
   refine Ev.bind (spec_Digits_ev i hi.1 hi.2) ?_
   simp only [if_pos (show (dig i).size + x.size ≤ 9223372036854775807 by omega)]
   refine Ev.bind (spec_Digits_ev b hb.1 hb.2) ?_
   simp only [if_pos (show (dig i ++ x).size + (dig b).size ≤ 9223372036854775807 by simp only [ba_size]; omega), if_pos (show ((dig i ++ x) ++ dig b).size + 1 ≤ 9223372036854775807 by simp only [ba_size]; omega)]
   refine Ev.bind (spec_Digits_ev v hv.1 hv.2) ?_
   simp only [if_pos (show (((dig i ++ x) ++ dig b) ++ (⟨#[46]⟩ : ByteArray)).size + (dig v).size ≤ 9223372036854775807 by simp only [ba_size, one_size]; omega), if_pos (show ((((dig i ++ x) ++ dig b) ++ (⟨#[46]⟩ : ByteArray)) ++ dig v).size + 1 ≤ 9223372036854775807 by simp only [ba_size, one_size]; omega), if_pos (show (((((dig i ++ x) ++ dig b) ++ (⟨#[46]⟩ : ByteArray)) ++ dig v) ++ (⟨#[58]⟩ : ByteArray)).size + s.size ≤ 9223372036854775807 by simp only [ba_size, one_size]; omega)]
   unfold entT entW
   rw [e]
   exact evSome _
 simp only [spec_EntryText.f]
 by_cases c0 : r = 0
 ·simp only [if_pos c0]
  exact main _ rfl (fun _ => by unfold rankB; rw [if_pos c0])
 ·simp only [if_neg c0]
  exact main _ rfl (fun c1 => by unfold rankB; rw [if_neg c0, if_neg c1])
theorem impl_EntryText_eq (hi : -9223372036854775808 ≤ i ∧ i ≤ 9223372036854775807) (hb : -9223372036854775808 ≤ b ∧ b ≤ 9223372036854775807) (hv : -9223372036854775808 ≤ v ∧ v ≤ 9223372036854775807) (hs : s.size ≤ 140737488351232) : impl_EntryText.f i r b v s = some (entT i r b v s) := by
 have h1 := dig_size hi.1 hi.2
 have h2 := dig_size hb.1 hb.2
 have h3 := dig_size hv.1 hv.2
 have g : ∀ u : UInt8, (if (dig i).size + 1 ≤ 9223372036854775807 then (if (dig i ++ (⟨#[u]⟩ : ByteArray)).size + (dig b).size ≤ 9223372036854775807 then (if ((dig i ++ (⟨#[u]⟩ : ByteArray)) ++ dig b).size + 1 ≤ 9223372036854775807 then (if (((dig i ++ (⟨#[u]⟩ : ByteArray)) ++ dig b) ++ (⟨#[46]⟩ : ByteArray)).size + (dig v).size ≤ 9223372036854775807 then (if ((((dig i ++ (⟨#[u]⟩ : ByteArray)) ++ dig b) ++ (⟨#[46]⟩ : ByteArray)) ++ dig v).size + 1 ≤ 9223372036854775807 then (if (((((dig i ++ (⟨#[u]⟩ : ByteArray)) ++ dig b) ++ (⟨#[46]⟩ : ByteArray)) ++ dig v) ++ (⟨#[58]⟩ : ByteArray)).size + s.size ≤ 9223372036854775807 then (some ((((((dig i ++ (⟨#[u]⟩ : ByteArray)) ++ dig b) ++ (⟨#[46]⟩ : ByteArray)) ++ dig v) ++ (⟨#[58]⟩ : ByteArray)) ++ s)) else none) else none) else none) else none) else none) else none) = some (entW (dig i) (⟨#[u]⟩ : ByteArray) (dig b) (dig v) s) := by
  intro u
  rw [if_pos (by omega), if_pos (by simp only [ba_size, one_size]; omega), if_pos (by simp only [ba_size, one_size]; omega), if_pos (by simp only [ba_size, one_size]; omega), if_pos (by simp only [ba_size, one_size]; omega), if_pos (by simp only [ba_size, one_size]; omega)]
  rfl
 unfold impl_EntryText.f
 simp only [impl_Digits_eq i hi.1 hi.2, impl_Digits_eq b hb.1 hb.2, impl_Digits_eq v hv.1 hv.2, Option.bind_some, g]
 unfold entT rankB
 split
 ·rfl
 ·split <;> rfl
end
def joinB (ws : List ByteArray) : ByteArray := bs (Lib.join (ws.map (·.data.toList)) [32])
theorem joinTail_app (sep : List UInt8) (r q : List (List UInt8)) : Lib.joinTail sep (r ++ q) = Lib.joinTail sep r ++ Lib.joinTail sep q := by
 unfold Lib.joinTail
 rw [List.map_append, List.flatten_append]
theorem joinB_nil : joinB [] = (⟨#[]⟩ : ByteArray) := rfl
theorem joinB_one (w : ByteArray) : joinB [w] = w := by
 unfold joinB
 rw [List.map_cons, List.map_nil, Lib.join_one, bs_data]
theorem joinB_snoc (x : ByteArray) (r : List ByteArray) (w : ByteArray) : joinB ((x :: r) ++ [w]) = (joinB (x :: r) ++ (⟨#[32]⟩ : ByteArray)) ++ w := by
 have e : ((x :: r) ++ [w]).map (fun x => x.data.toList) = x.data.toList :: (r.map (fun x => x.data.toList) ++ [w.data.toList]) := by simp
 have e2 : Lib.joinTail [32] [w.data.toList] = [32] ++ w.data.toList := by simp [Lib.joinTail]
 unfold joinB
 rw [e, Lib.join_cons, joinTail_app, e2, List.map_cons, Lib.join_cons]
 show _ = bs _ ++ bs [32] ++ w
 rw [bs_app]
 conv => rhs; rw [← bs_data w]
 rw [bs_app]
 congr 1
 simp
theorem joinB_size (B : Nat) : ∀ (n : Nat) (ws : List ByteArray), ws.length = n → (∀ w ∈ ws, w.size ≤ B) → (joinB ws).size ≤ (B + 1) * n := by
 intro n
 induction n with
 | zero =>
  intro ws h _
  rw [List.length_eq_zero_iff.1 h, joinB_nil]
  exact Nat.zero_le _
 | succ n ih =>
  intro ws h hB
  obtain ⟨r, w, rfl⟩ : ∃ r w, ws = r ++ [w] := ⟨ws.dropLast, ws.getLast (by intro e; rw [e] at h; simp at h), (List.dropLast_concat_getLast _).symm⟩
  have hr : r.length = n := by simp at h; omega
  have h1 := ih r hr (fun v hv => hB v (by simp [hv]))
  have h2 := hB w (by simp)
  rw [Nat.mul_succ]
  cases r with
  | nil =>
   rw [List.nil_append, joinB_one]
   omega
  | cons x r =>
   rw [joinB_snoc, ba_size, ba_size, one_size]
   omega
theorem joinB_ne {x : ByteArray} {r : List ByteArray} (h : 0 < x.size) : (joinB (x :: r)).toList ≠ [] := by
 rw [Lib.toList_data]
 unfold joinB
 rw [List.map_cons, Lib.join_cons]
 have : x.data.toList ≠ [] := by
  intro e
  have : x.data.toList.length = 0 := by rw [e]; rfl
  rw [Array.length_toList] at this
  have : x.size = 0 := this
  omega
 simp [bs, this]
def wI (x : S63) : ByteArray := (dig x.f0 ++ (⟨#[61]⟩ : ByteArray)) ++ entT x.f1.f0 x.f1.f1 x.f1.f2 x.f1.f3 x.f1.f4
def wF (x : S68) : ByteArray := (((⟨#[45]⟩ : ByteArray) ++ dig x.f0) ++ (⟨#[60]⟩ : ByteArray)) ++ dig x.f1
def i64B (n : Int) : Prop := -9223372036854775808 ≤ n ∧ n ≤ 9223372036854775807
def intsI (x : S63) : Prop := i64B x.f0 ∧ i64B x.f1.f0 ∧ i64B x.f1.f2 ∧ i64B x.f1.f3 ∧ x.f1.f4.size ≤ 1048576
def intsF (x : S68) : Prop := i64B x.f0 ∧ i64B x.f1
def stateT (a : List S63) (b : List S68) : ByteArray := joinB (a.map wI ++ b.map wF)
theorem wI_size {x : S63} (h : intsI x) : 0 < (wI x).size ∧ (wI x).size ≤ 1100000 ∧ (dig x.f0).size ≤ 20 ∧ (entT x.f1.f0 x.f1.f1 x.f1.f2 x.f1.f3 x.f1.f4).size ≤ 1050000 := by
 obtain ⟨h0, h1, h2, h3, h4⟩ := h
 have e1 := dig_size h0.1 h0.2
 have e2 := entT_size (r := x.f1.f1) (s := x.f1.f4) h1 h2 h3
 unfold wI
 rw [ba_size, ba_size, one_size]
 omega
theorem wF_size {x : S68} (h : intsF x) : 0 < (wF x).size ∧ (wF x).size ≤ 1100000 ∧ (dig x.f0).size ≤ 20 ∧ (dig x.f1).size ≤ 20 := by
 have e1 := dig_size h.1.1 h.1.2
 have e2 := dig_size h.2.1 h.2.2
 unfold wF
 rw [ba_size, ba_size, ba_size, one_size, one_size]
 omega
section
variable {a : List S63} {b : List S68}
theorem spec_StateText_l1 (hb : b.length ≤ 2097152) (hB : ∀ x ∈ b, intsF x) : ∀ (d j : Nat) (ws : List ByteArray), j + d = b.length → (∀ w ∈ ws, 0 < w.size) → (joinB ws).size ≤ 2000000 * (2097152 + j) → Ev (fun k => spec_StateText.l1 k (joinB ws) (j : Int) a b) (joinB (ws ++ (b.drop j).map wF)) := by
 intro d
 induction d with
 | zero =>
  intro j ws h _ _
  rw [List.drop_eq_nil_of_le (by omega), List.map_nil, List.append_nil]
  refine evRet fun k => ?_
  simp only [spec_StateText.l1]
  rw [if_neg (by omega)]
 | succ d ih =>
  intro j ws h hp hs
  have hj : j < b.length := by omega
  have hx := hB _ (List.getElem_mem hj)
  obtain ⟨p0, p1, p2, p3⟩ := wF_size hx
  have next := ih (j + 1) (ws ++ [wF b[j]]) (by omega) (fun w hw => by rcases List.mem_append.1 hw with hw | hw; exact hp w hw; simp at hw; rw [hw]; exact p0)
  rw [List.drop_eq_getElem_cons hj, List.map_cons]
  have e2 : ws ++ [wF b[j]] ++ (b.drop (j + 1)).map wF = ws ++ wF b[j] :: (b.drop (j + 1)).map wF := by simp
  rw [e2] at next
  refine evSucc ?_
  simp only [spec_StateText.l1, if_pos (show (j : Int) < (b.length : Int) by omega), if_pos (show (0 : Int) ≤ (j : Int) by omega), rdF hj, w64 (n := (j : Int) + 1) (by omega) (by omega)]
  cases ws with
  | nil =>
   simp only [joinB_nil, show ((⟨#[]⟩ : ByteArray).toList = ([] : List UInt8)) from by rw [Lib.toList_data], if_true]
   have ez : (⟨#[]⟩ : ByteArray).size = 0 := rfl
   have el : ∀ y : ByteArray, (⟨#[]⟩ : ByteArray) ++ y = y := fun y => by apply ByteArray.ext; simp
   simp only [el, ez, if_pos (show 0 + 1 ≤ 9223372036854775807 by omega)]
   refine Ev.bind (spec_Digits_ev _ hx.1.1 hx.1.2) ?_
   simp only [if_pos (show (⟨#[45]⟩ : ByteArray).size + (dig b[j].f0).size ≤ 9223372036854775807 by rw [one_size]; omega), if_pos (show ((⟨#[45]⟩ : ByteArray) ++ dig b[j].f0).size + 1 ≤ 9223372036854775807 by rw [ba_size, one_size]; omega)]
   refine Ev.bind (spec_Digits_ev _ hx.2.1 hx.2.2) ?_
   simp only [if_pos (show (((⟨#[45]⟩ : ByteArray) ++ dig b[j].f0) ++ (⟨#[60]⟩ : ByteArray)).size + (dig b[j].f1).size ≤ 9223372036854775807 by rw [ba_size, ba_size, one_size, one_size]; omega)]
   rw [List.nil_append, joinB_one] at next
   exact next (by omega)
  | cons x r =>
   have hne := joinB_ne (r := r) (hp x (by simp))
   rw [joinB_snoc] at next
   simp only [if_neg hne, if_pos (show (joinB (x :: r)).size + 1 ≤ 9223372036854775807 by omega), if_pos (show (joinB (x :: r) ++ (⟨#[32]⟩ : ByteArray)).size + 1 ≤ 9223372036854775807 by rw [ba_size, one_size]; omega)]
   refine Ev.bind (spec_Digits_ev _ hx.1.1 hx.1.2) ?_
   simp only [if_pos (show ((joinB (x :: r) ++ (⟨#[32]⟩ : ByteArray)) ++ (⟨#[45]⟩ : ByteArray)).size + (dig b[j].f0).size ≤ 9223372036854775807 by rw [ba_size, ba_size, one_size, one_size]; omega), if_pos (show (((joinB (x :: r) ++ (⟨#[32]⟩ : ByteArray)) ++ (⟨#[45]⟩ : ByteArray)) ++ dig b[j].f0).size + 1 ≤ 9223372036854775807 by rw [ba_size, ba_size, ba_size, one_size, one_size]; omega)]
   refine Ev.bind (spec_Digits_ev _ hx.2.1 hx.2.2) ?_
   simp only [if_pos (show ((((joinB (x :: r) ++ (⟨#[32]⟩ : ByteArray)) ++ (⟨#[45]⟩ : ByteArray)) ++ dig b[j].f0) ++ (⟨#[60]⟩ : ByteArray)).size + (dig b[j].f1).size ≤ 9223372036854775807 by rw [ba_size, ba_size, ba_size, ba_size, one_size, one_size, one_size]; omega)]
   have e3 : (joinB (x :: r) ++ (⟨#[32]⟩ : ByteArray)) ++ wF b[j] = ((((joinB (x :: r) ++ (⟨#[32]⟩ : ByteArray)) ++ (⟨#[45]⟩ : ByteArray)) ++ dig b[j].f0) ++ (⟨#[60]⟩ : ByteArray)) ++ dig b[j].f1 := by
    unfold wF
    simp only [ba_assoc]
   rw [← e3]
   exact next (by rw [ba_size, ba_size, one_size]; omega)
theorem spec_StateText_l0 (ha : a.length ≤ 2097152) (hb : b.length ≤ 2097152) (hA : ∀ x ∈ a, intsI x) (hB : ∀ x ∈ b, intsF x) : ∀ (d i : Nat) (ws : List ByteArray), i + d = a.length → (∀ w ∈ ws, 0 < w.size) → (joinB ws).size ≤ 2000000 * i → Ev (fun k => spec_StateText.l0 k (joinB ws) (i : Int) a b) (joinB (ws ++ ((a.drop i).map wI ++ b.map wF))) := by
 intro d
 induction d with
 | zero =>
  intro i ws h hp hs
  rw [List.drop_eq_nil_of_le (by omega), List.map_nil, List.nil_append]
  refine evSucc ?_
  simp only [spec_StateText.l0, if_neg (show ¬ (i : Int) < (a.length : Int) by omega)]
  exact spec_StateText_l1 hb hB b.length 0 ws (by omega) hp (by omega)
 | succ d ih =>
  intro i ws h hp hs
  have hi : i < a.length := by omega
  have hx := hA _ (List.getElem_mem hi)
  obtain ⟨p0, p1, p2, p3⟩ := wI_size hx
  have next := ih (i + 1) (ws ++ [wI a[i]]) (by omega) (fun w hw => by rcases List.mem_append.1 hw with hw | hw; exact hp w hw; simp at hw; rw [hw]; exact p0)
  rw [List.drop_eq_getElem_cons hi, List.map_cons]
  have e2 : ws ++ [wI a[i]] ++ ((a.drop (i + 1)).map wI ++ b.map wF) = ws ++ (wI a[i] :: (a.drop (i + 1)).map wI ++ b.map wF) := by simp
  rw [e2] at next
  refine evSucc ?_
  simp only [spec_StateText.l0, if_pos (show (i : Int) < (a.length : Int) by omega), if_pos (show (0 : Int) ≤ (i : Int) by omega), rdI hi, w64 (n := (i : Int) + 1) (by omega) (by omega)]
  cases ws with
  | nil =>
   simp only [joinB_nil, show ((⟨#[]⟩ : ByteArray).toList = ([] : List UInt8)) from by rw [Lib.toList_data], if_true]
   have ez : (⟨#[]⟩ : ByteArray).size = 0 := rfl
   have el : ∀ y : ByteArray, (⟨#[]⟩ : ByteArray) ++ y = y := fun y => by apply ByteArray.ext; simp
   simp only [el, ez]
   refine Ev.bind (spec_Digits_ev _ hx.1.1 hx.1.2) ?_
   simp only [if_pos (show 0 + (dig a[i].f0).size ≤ 9223372036854775807 by omega), if_pos (show (dig a[i].f0).size + 1 ≤ 9223372036854775807 by omega)]
   refine Ev.bind (spec_EntryText_ev hx.2.1 hx.2.2.1 hx.2.2.2.1 (by have := hx.2.2.2.2; omega)) ?_
   simp only [if_pos (show (dig a[i].f0 ++ (⟨#[61]⟩ : ByteArray)).size + (entT a[i].f1.f0 a[i].f1.f1 a[i].f1.f2 a[i].f1.f3 a[i].f1.f4).size ≤ 9223372036854775807 by rw [ba_size, one_size]; omega)]
   rw [List.nil_append, joinB_one] at next
   exact next (by omega)
  | cons x r =>
   have hne := joinB_ne (r := r) (hp x (by simp))
   rw [joinB_snoc] at next
   simp only [if_neg hne, if_pos (show (joinB (x :: r)).size + 1 ≤ 9223372036854775807 by omega)]
   refine Ev.bind (spec_Digits_ev _ hx.1.1 hx.1.2) ?_
   simp only [if_pos (show (joinB (x :: r) ++ (⟨#[32]⟩ : ByteArray)).size + (dig a[i].f0).size ≤ 9223372036854775807 by rw [ba_size, one_size]; omega), if_pos (show ((joinB (x :: r) ++ (⟨#[32]⟩ : ByteArray)) ++ dig a[i].f0).size + 1 ≤ 9223372036854775807 by rw [ba_size, ba_size, one_size]; omega)]
   refine Ev.bind (spec_EntryText_ev hx.2.1 hx.2.2.1 hx.2.2.2.1 (by have := hx.2.2.2.2; omega)) ?_
   simp only [if_pos (show (((joinB (x :: r) ++ (⟨#[32]⟩ : ByteArray)) ++ dig a[i].f0) ++ (⟨#[61]⟩ : ByteArray)).size + (entT a[i].f1.f0 a[i].f1.f1 a[i].f1.f2 a[i].f1.f3 a[i].f1.f4).size ≤ 9223372036854775807 by rw [ba_size, ba_size, ba_size, one_size, one_size]; omega)]
   have e3 : (joinB (x :: r) ++ (⟨#[32]⟩ : ByteArray)) ++ wI a[i] = (((joinB (x :: r) ++ (⟨#[32]⟩ : ByteArray)) ++ dig a[i].f0) ++ (⟨#[61]⟩ : ByteArray)) ++ entT a[i].f1.f0 a[i].f1.f1 a[i].f1.f2 a[i].f1.f3 a[i].f1.f4 := by
    unfold wI
    simp only [ba_assoc]
   rw [← e3]
   exact next (by rw [ba_size, ba_size, one_size]; omega)
theorem spec_StateText_ev (ha : a.length ≤ 2097152) (hb : b.length ≤ 2097152) (hA : ∀ x ∈ a, intsI x) (hB : ∀ x ∈ b, intsF x) : Ev (fun k => spec_StateText.f k a b) (stateT a b) := by
 have := spec_StateText_l0 ha hb hA hB a.length 0 [] (by omega) (fun w hw => by simp at hw) (by rw [joinB_nil]; exact Nat.zero_le _)
 rw [joinB_nil] at this
 exact this
theorem join_eq (ws : List ByteArray) (hn : ws.length ≤ 4194304) (hB : ∀ w ∈ ws, w.size ≤ 1100000) : strings_Join.f ws (⟨#[32]⟩ : ByteArray) = some (joinB ws) := by
 have h := joinB_size 1100000 ws.length ws rfl hB
 have e : (joinB ws).size = (Lib.join (ws.map (·.data.toList)) [32]).length := bs_size _
 unfold strings_Join.f
 rw [if_pos]
 ·rfl
 ·refine ⟨by omega, ?_⟩
  show (Lib.join (ws.map (·.data.toList)) [32]).length ≤ _
  omega
theorem impl_StateText_l1 (hb : b.length ≤ 2097152) (hB : ∀ x ∈ b, intsF x) : ∀ (d j : Nat) (ws : List ByteArray), j + d = b.length → ws.length ≤ 2097152 + j → (∀ w ∈ ws, w.size ≤ 1100000) → Ev (fun k => impl_StateText.l1 k ws b (b.length : Int) (j : Int)) (joinB (ws ++ (b.drop j).map wF)) := by
 intro d
 induction d with
 | zero =>
  intro j ws h hl hs
  rw [List.drop_eq_nil_of_le (by omega), List.map_nil, List.append_nil]
  refine evRet fun k => ?_
  simp only [impl_StateText.l1]
  rw [if_neg (by omega), join_eq ws (by omega) hs]
  rfl
 | succ d ih =>
  intro j ws h hl hs
  have hj : j < b.length := by omega
  have hx := hB _ (List.getElem_mem hj)
  obtain ⟨p0, p1, p2, p3⟩ := wF_size hx
  have next := ih (j + 1) (ws ++ [wF b[j]]) (by omega) (by simp; omega) (fun w hw => by rcases List.mem_append.1 hw with hw | hw; exact hs w hw; simp at hw; rw [hw]; exact p1)
  rw [List.drop_eq_getElem_cons hj, List.map_cons]
  have e2 : ws ++ [wF b[j]] ++ (b.drop (j + 1)).map wF = ws ++ wF b[j] :: (b.drop (j + 1)).map wF := by simp
  rw [e2] at next
  refine evSucc ?_
  simp only [impl_StateText.l1, if_pos (show (j : Int) < (b.length : Int) by omega), if_pos (show (0 : Int) ≤ (j : Int) by omega), rdF hj, w64 (n := (j : Int) + 1) (by omega) (by omega), impl_Digits_eq _ hx.1.1 hx.1.2, impl_Digits_eq _ hx.2.1 hx.2.2, Option.bind_some]
  simp only [if_pos (show 1 + (dig b[j].f0).size ≤ 9223372036854775807 by omega), if_pos (show ((⟨#[45]⟩ : ByteArray) ++ dig b[j].f0).size + 1 ≤ 9223372036854775807 by rw [ba_size, one_size]; omega), if_pos (show (((⟨#[45]⟩ : ByteArray) ++ dig b[j].f0) ++ (⟨#[60]⟩ : ByteArray)).size + (dig b[j].f1).size ≤ 9223372036854775807 by rw [ba_size, ba_size, one_size, one_size]; omega), if_pos (show ws.length < 8796093022208 by omega)]
  exact next
theorem impl_StateText_l0 (ha : a.length ≤ 2097152) (hb : b.length ≤ 2097152) (hA : ∀ x ∈ a, intsI x) (hB : ∀ x ∈ b, intsF x) : ∀ (d i : Nat) (ws : List ByteArray), i + d = a.length → ws.length ≤ i → (∀ w ∈ ws, w.size ≤ 1100000) → Ev (fun k => impl_StateText.l0 k ws a (a.length : Int) (i : Int) a b) (joinB (ws ++ ((a.drop i).map wI ++ b.map wF))) := by
 intro d
 induction d with
 | zero =>
  intro i ws h hl hs
  rw [List.drop_eq_nil_of_le (by omega), List.map_nil, List.nil_append]
  refine evSucc ?_
  simp only [impl_StateText.l0, if_neg (show ¬ (i : Int) < (a.length : Int) by omega)]
  exact impl_StateText_l1 hb hB b.length 0 ws (by omega) (by omega) hs
 | succ d ih =>
  intro i ws h hl hs
  have hi : i < a.length := by omega
  have hx := hA _ (List.getElem_mem hi)
  obtain ⟨p0, p1, p2, p3⟩ := wI_size hx
  have next := ih (i + 1) (ws ++ [wI a[i]]) (by omega) (by simp; omega) (fun w hw => by rcases List.mem_append.1 hw with hw | hw; exact hs w hw; simp at hw; rw [hw]; exact p1)
  rw [List.drop_eq_getElem_cons hi, List.map_cons]
  have e2 : ws ++ [wI a[i]] ++ ((a.drop (i + 1)).map wI ++ b.map wF) = ws ++ (wI a[i] :: (a.drop (i + 1)).map wI ++ b.map wF) := by simp
  rw [e2] at next
  refine evSucc ?_
  simp only [impl_StateText.l0, if_pos (show (i : Int) < (a.length : Int) by omega), if_pos (show (0 : Int) ≤ (i : Int) by omega), rdI hi, w64 (n := (i : Int) + 1) (by omega) (by omega), impl_Digits_eq _ hx.1.1 hx.1.2, impl_EntryText_eq hx.2.1 hx.2.2.1 hx.2.2.2.1 (show a[i].f1.f4.size ≤ 140737488351232 by have := hx.2.2.2.2; omega), Option.bind_some]
  simp only [if_pos (show (dig a[i].f0).size + 1 ≤ 9223372036854775807 by omega), if_pos (show (dig a[i].f0 ++ (⟨#[61]⟩ : ByteArray)).size + (entT a[i].f1.f0 a[i].f1.f1 a[i].f1.f2 a[i].f1.f3 a[i].f1.f4).size ≤ 9223372036854775807 by rw [ba_size, one_size]; omega), if_pos (show ws.length < 8796093022208 by omega)]
  exact next
theorem impl_StateText_ev (ha : a.length ≤ 2097152) (hb : b.length ≤ 2097152) (hA : ∀ x ∈ a, intsI x) (hB : ∀ x ∈ b, intsF x) : Ev (fun k => impl_StateText.f k a b) (stateT a b) :=
 impl_StateText_l0 ha hb hA hB a.length 0 [] (by omega) (by simp) (fun w hw => by simp at hw)
end
theorem view_mem {a : List S63} {b : List S68} {x : S63} (h : x ∈ viewR a b) : x ∈ a ∧ x.f1.f1 = 0 := by
 unfold viewR at h
 split at h
 ·have := List.mem_filter.1 h
  exact ⟨this.1, by simpa using this.2⟩
 ·simp at h
def viewT (a : List S63) (b : List S68) : ByteArray := stateT (viewR a b) []
section
variable {a : List S63} {b : List S68}
theorem spec_ViewText_ev (ha : a.length ≤ 2097152) (hb : b.length ≤ 2097152) (hA : ∀ x ∈ a, intsI x) : Ev (fun k => spec_ViewText.f k a b) (viewT a b) := by
 simp only [spec_ViewText.f]
 refine Ev.bind (spec_View_ev a b ha hb) ?_
 have hl := viewR_len a b
 refine Ev.bind (spec_StateText_ev (by omega) (by simp) (fun x hx => hA x (view_mem hx).1) (fun x hx => by simp at hx)) ?_
 exact evSome _
theorem impl_ViewText_ev (ha : a.length ≤ 2097152) (hb : b.length ≤ 2097152) (hA : ∀ x ∈ a, intsI x) : Ev (fun k => impl_ViewText.f k a b) (viewT a b) := by
 simp only [impl_ViewText.f]
 refine Ev.bind (impl_View_ev a b ha hb) ?_
 have hl := viewR_len a b
 refine Ev.bind (impl_StateText_ev (by omega) (by simp) (fun x hx => hA x (view_mem hx).1) (fun x hx => by simp at hx)) ?_
 exact evSome _
end
theorem and255 (x : Int) : 0 ≤ Go.bits .and .i64 x 255 ∧ Go.bits .and .i64 x 255 ≤ 255 := by
 have e : Go.bits .and .i64 x 255 = IntKind.i64.wrap (((BitVec.ofInt 64 x &&& BitVec.ofInt 64 255).toNat : Nat) : Int) := rfl
 have h : (BitVec.ofInt 64 x &&& BitVec.ofInt 64 255).toNat ≤ 255 := by
  rw [BitVec.toNat_and]
  exact Nat.and_le_right
 rw [e, IntKind.wrap_i64]
 omega
theorem byte_ok (b : List Int) (hb : b.length ≤ 140737488351232) (i h : Int) (h0 : 0 ≤ i) (h1 : i ≤ (b.length : Int)) : ∃ r i' h', spec_l1Byte.f b i h = some (r, i', h') ∧ 0 ≤ r ∧ r ≤ 255 ∧ 0 ≤ i' ∧ i' ≤ (b.length : Int) := by
 unfold spec_l1Byte.f
 by_cases c : i < (b.length : Int)
 ·rw [if_pos c, if_pos h0]
  refine ⟨_, _, _, rfl, (and255 _).1, (and255 _).2, ?_, ?_⟩
  ·rw [w64 (by omega) (by omega)]; omega
  ·rw [w64 (by omega) (by omega)]; omega
 ·rw [if_neg c]
  exact ⟨_, _, _, rfl, (and255 _).1, (and255 _).2, h0, h1⟩
theorem below_ok (b : List Int) (hb : b.length ≤ 140737488351232) (i h n : Int) (h0 : 0 ≤ i) (h1 : i ≤ (b.length : Int)) (hn : 0 < n) (hn2 : n ≤ 256) : ∃ r i' h', spec_l1Below.f b i h n = some (r, i', h') ∧ 0 ≤ r ∧ r < n ∧ 0 ≤ i' ∧ i' ≤ (b.length : Int) := by
 obtain ⟨r, i', h', e, r0, r1, c0, c1⟩ := byte_ok b hb i h h0 h1
 refine ⟨Int.tmod r n, i', h', ?_, Int.tmod_nonneg _ r0, Int.tmod_lt_of_pos _ hn, c0, c1⟩
 unfold spec_l1Below.f
 rw [if_neg (by omega), if_pos hn2, e]
 simp only [Option.bind_some]
 rw [if_neg (by omega)]
theorem pick_ok (b : List Int) (hb : b.length ≤ 140737488351232) (i h : Int) (h0 : 0 ≤ i) (h1 : i ≤ (b.length : Int)) (l : List ByteArray) (hl : 0 < l.length) (hl2 : l.length ≤ 256) : ∃ s i' h', spec_l1Pick.f b i h l = some (s, i', h') ∧ s ∈ l ∧ 0 ≤ i' ∧ i' ≤ (b.length : Int) := by
 obtain ⟨r, i', h', e, r0, r1, c0, c1⟩ := below_ok b hb i h l.length h0 h1 (by omega) (by omega)
 refine ⟨rdOf ByteArray.empty l r, i', h', ?_, ?_, c0, c1⟩
 ·unfold spec_l1Pick.f
  rw [e]
  simp only [Option.bind_some]
  rw [if_pos r0, if_pos r1]
 ·unfold rdOf
  rw [List.getD_eq_getElem?_getD, List.getElem?_eq_getElem (show r.toNat < l.length by omega)]
  exact List.getElem_mem _
theorem pickInt_ok (b : List Int) (hb : b.length ≤ 140737488351232) (i h : Int) (h0 : 0 ≤ i) (h1 : i ≤ (b.length : Int)) (l : List Int) (hl : 0 < l.length) (hl2 : l.length ≤ 256) : ∃ s i' h', spec_l1PickInt.f b i h l = some (s, i', h') ∧ s ∈ l ∧ 0 ≤ i' ∧ i' ≤ (b.length : Int) := by
 obtain ⟨r, i', h', e, r0, r1, c0, c1⟩ := below_ok b hb i h l.length h0 h1 (by omega) (by omega)
 refine ⟨rd l r, i', h', ?_, ?_, c0, c1⟩
 ·unfold spec_l1PickInt.f
  rw [e]
  simp only [Option.bind_some]
  rw [if_pos r0, if_pos r1]
 ·unfold rd
  rw [List.getD_eq_getElem?_getD, List.getElem?_eq_getElem (show r.toNat < l.length by omega)]
  exact List.getElem_mem _
theorem right_ok (b : List Int) (hb : b.length ≤ 140737488351232) (i h : Int) (h0 : 0 ≤ i) (h1 : i ≤ (b.length : Int)) : ∃ e0 e1 e2 e3 s i' h', spec_l2Right.f b i h = some (e0, e1, e2, e3, s, i', h') ∧ entryOkB e0 e1 e2 e3 s = true ∧ 0 ≤ i' ∧ i' ≤ (b.length : Int) := by
 obtain ⟨r1, i1, k1, e1, a1, b1, c1, d1⟩ := below_ok b hb i h 3 h0 h1 (by omega) (by omega)
 obtain ⟨r2, i2, k2, e2, a2, b2, c2, d2⟩ := below_ok b hb i1 k1 2 c1 d1 (by omega) (by omega)
 obtain ⟨r3, i3, k3, e3, a3, b3, c3, d3⟩ := below_ok b hb i2 k2 3 c2 d2 (by omega) (by omega)
 obtain ⟨r4, i4, k4, e4, a4, b4, c4, d4⟩ := below_ok b hb i3 k3 3 c3 d3 (by omega) (by omega)
 obtain ⟨s, i5, k5, e5, a5, c5, d5⟩ := pick_ok b hb i4 k4 c4 d4 [(⟨#[]⟩ : ByteArray), (⟨#[97]⟩ : ByteArray), (⟨#[98]⟩ : ByteArray), (⟨#[97, 98]⟩ : ByteArray), (⟨#[49, 50, 51, 52, 53, 54, 55, 56]⟩ : ByteArray)] (by simp) (by simp)
 refine ⟨wrap64 (1 + r1), r2, r3, r4, s, i5, k5, ?_, ?_, c5, d5⟩
 ·unfold spec_l2Right.f
  rw [e1]; simp only [Option.bind_some]
  rw [e2]; simp only [Option.bind_some]
  rw [e3]; simp only [Option.bind_some]
  rw [e4]; simp only [Option.bind_some]
  rw [e5]; simp only [Option.bind_some]
 ·rw [w64 (by omega) (by omega)]
  have hs : (s.size : Int) ≤ 8 := by
   simp only [List.mem_cons, List.not_mem_nil, or_false] at a5
   rcases a5 with rfl | rfl | rfl | rfl | rfl <;> simp [ByteArray.size]
  simp only [entryOkB, Bool.and_eq_true, decide_eq_true_eq]
  omega
theorem draw_ok (b : List Int) (hb : b.length ≤ 140737488351232) (i h : Int) (h0 : 0 ≤ i) (h1 : i ≤ (b.length : Int)) : ∃ e0 e1 e2 e3 s i' h', spec_l2Draw.f b i h = some (e0, e1, e2, e3, s, i', h') ∧ 0 ≤ i' ∧ i' ≤ (b.length : Int) := by
 obtain ⟨r0, r1, r2, r3, s, i1, k1, e1, _, c1, d1⟩ := right_ok b hb i h h0 h1
 obtain ⟨q, i2, k2, e2, a2, b2, c2, d2⟩ := below_ok b hb i1 k1 14 c1 d1 (by omega) (by omega)
 unfold spec_l2Draw.f
 rw [e1]; simp only [Option.bind_some]
 rw [e2]; simp only [Option.bind_some]
 by_cases q0 : q = 0
 ·rw [if_pos q0]
  obtain ⟨z, i3, k3, e3, _, c3, d3⟩ := pickInt_ok b hb i2 k2 c2 d2 [0, 1000, 1001, (-1)] (by simp) (by simp)
  rw [e3]; exact ⟨_, _, _, _, _, _, _, rfl, c3, d3⟩
 rw [if_neg q0]
 by_cases q1 : q = 1
 ·rw [if_pos q1]
  obtain ⟨z, i3, k3, e3, _, c3, d3⟩ := pickInt_ok b hb i2 k2 c2 d2 [(-1), 2] (by simp) (by simp)
  rw [e3]; exact ⟨_, _, _, _, _, _, _, rfl, c3, d3⟩
 rw [if_neg q1]
 by_cases q2 : q = 2
 ·rw [if_pos q2]
  obtain ⟨z, i3, k3, e3, _, c3, d3⟩ := pickInt_ok b hb i2 k2 c2 d2 [(-1), 100000, 100001] (by simp) (by simp)
  rw [e3]; exact ⟨_, _, _, _, _, _, _, rfl, c3, d3⟩
 rw [if_neg q2]
 by_cases q3 : q = 3
 ·rw [if_pos q3]
  obtain ⟨z, i3, k3, e3, _, c3, d3⟩ := pickInt_ok b hb i2 k2 c2 d2 [(-1), 1000, 1001] (by simp) (by simp)
  rw [e3]; exact ⟨_, _, _, _, _, _, _, rfl, c3, d3⟩
 rw [if_neg q3]
 by_cases q4 : q = 4
 ·rw [if_pos q4]; exact ⟨_, _, _, _, _, _, _, rfl, c2, d2⟩
 ·rw [if_neg q4]; exact ⟨_, _, _, _, _, _, _, rfl, c2, d2⟩
theorem ok_nil : okS [] [] = true := rfl
theorem ok_one {a i r b v : Int} {s : ByteArray} (hn : 0 ≤ a ∧ a ≤ 4) (he : entryOkB i r b v s = true) : okS [⟨a, ⟨i, r, b, v, s⟩⟩] [] = true := by
 have hi : ¬ i ≤ 0 := by simp only [entryOkB, Bool.and_eq_true, decide_eq_true_eq] at he; omega
 simp [okS, okI, okF, nodeB, hn, he, floOf, hi]
theorem ok_floor {a i : Int} (hn : 0 ≤ a ∧ a ≤ 4) (hi : 1 ≤ i ∧ i ≤ 1000) : okS [] [⟨a, i⟩] = true := by simp [okS, okI, okF, nodeB, hn, hi]
theorem spec_Single_ev (a i r b v : Int) (s : ByteArray) (h : okS [⟨a, ⟨i, r, b, v, s⟩⟩] [] = true) : Ev (fun k => spec_Single.f k a i r b v s) ([⟨a, ⟨i, r, b, v, s⟩⟩], [], true) := by
 simp only [spec_Single.f, Option.bind_some]
 refine Ev.bind (spec_StateOk_ev _ _ (by simp) (by simp)) ?_
 simp only [if_pos h]
 exact evSome _
theorem l3Right_l1 (b : List Int) (hb : b.length ≤ 140737488351232) (n : Int) (hn : n ≤ 3) : ∀ (d : Nat) (j i h : Int) (x : List S63) (y : List S68), 0 ≤ j → j + d = n ∨ n < j + d ∧ d = 0 → 0 ≤ i → i ≤ (b.length : Int) → okS x y = true →
  ∃ x' y' i' h', Ev (fun k => spec_l3Right.l1 k n j b i h x y) (x', y', i', h') ∧ okS x' y' = true ∧ 0 ≤ i' ∧ i' ≤ (b.length : Int) := by
 intro d
 induction d with
 | zero =>
  intro j i h x y hj hd h0 h1 ho
  exact ⟨x, y, i, h, evRet fun k => by simp only [spec_l3Right.l1]; rw [if_neg (by omega)], ho, h0, h1⟩
 | succ d ih =>
  intro j i h x y hj hd h0 h1 ho
  obtain ⟨r1, i1, k1, e1, a1, b1, c1, d1⟩ := below_ok b hb i h 5 h0 h1 (by omega) (by omega)
  obtain ⟨r2, i2, k2, e2, a2, b2, c2, d2⟩ := below_ok b hb i1 k1 2 c1 d1 (by omega) (by omega)
  have hfl := ok_floor (a := r1) (i := 1 + r2) ⟨a1, by omega⟩ ⟨by omega, by omega⟩
  have hl := ok_len ho
  obtain ⟨x', y', i', h', hv, o2, c3, d3⟩ := ih (j + 1) i2 k2 (joinS x y [] [⟨r1, 1 + r2⟩]).1 (joinS x y [] [⟨r1, 1 + r2⟩]).2 (by omega) (by omega) c2 d2 (join_ok ho hfl)
  refine ⟨x', y', i', h', ?_, o2, c3, d3⟩
  refine evSucc ?_
  simp only [spec_l3Right.l1, e1, e2, Option.bind_some]
  simp only [if_pos (show j < n by omega), w64 (n := 1 + r2) (by omega) (by omega), w64 (n := j + 1) (by omega) (by omega)]
  refine Ev.bind (spec_l3Join_ev x y [] [⟨r1, 1 + r2⟩] (by omega) (by omega) (by simp) (by simp) ho hfl) ?_
  exact hv
theorem l3Right_l0 (b : List Int) (hb : b.length ≤ 140737488351232) (n : Int) (hn : n ≤ 7) : ∀ (d : Nat) (j i h : Int) (x : List S63) (y : List S68), 0 ≤ j → j + d = n ∨ n < j + d ∧ d = 0 → 0 ≤ i → i ≤ (b.length : Int) → okS x y = true →
  ∃ x' y' i' h', Ev (fun k => spec_l3Right.l0 k n j b i h x y) (x', y', i', h') ∧ okS x' y' = true ∧ 0 ≤ i' ∧ i' ≤ (b.length : Int) := by
 intro d
 induction d with
 | zero =>
  intro j i h x y hj hd h0 h1 ho
  obtain ⟨r1, i1, k1, e1, a1, b1, c1, d1⟩ := below_ok b hb i h 3 h0 h1 (by omega) (by omega)
  obtain ⟨x', y', i', h', hv, z⟩ := l3Right_l1 b hb r1 (by omega) r1.toNat 0 i1 k1 x y (by omega) (by omega) c1 d1 ho
  refine ⟨x', y', i', h', ?_, z⟩
  refine evSucc ?_
  simp only [spec_l3Right.l0, e1, Option.bind_some]
  simp only [if_neg (show ¬ j < n by omega)]
  exact hv
 | succ d ih =>
  intro j i h x y hj hd h0 h1 ho
  obtain ⟨r1, i1, k1, e1, a1, b1, c1, d1⟩ := below_ok b hb i h 5 h0 h1 (by omega) (by omega)
  obtain ⟨t0, t1, t2, t3, s, i2, k2, e2, a2, c2, d2⟩ := right_ok b hb i1 k1 c1 d1
  have hone := ok_one (a := r1) ⟨a1, by omega⟩ a2
  have hl := ok_len ho
  obtain ⟨x', y', i', h', hv, o2, c3, d3⟩ := ih (j + 1) i2 k2 (joinS x y [⟨r1, ⟨t0, t1, t2, t3, s⟩⟩] []).1 (joinS x y [⟨r1, ⟨t0, t1, t2, t3, s⟩⟩] []).2 (by omega) (by omega) c2 d2 (join_ok ho hone)
  refine ⟨x', y', i', h', ?_, o2, c3, d3⟩
  refine evSucc ?_
  simp only [spec_l3Right.l0, e1, e2, Option.bind_some]
  simp only [if_pos (show j < n by omega), w64 (n := j + 1) (by omega) (by omega)]
  refine Ev.bind (spec_Single_ev _ _ _ _ _ _ hone) ?_
  refine Ev.bind (spec_l3Join_ev x y _ [] (by omega) (by omega) (by simp) (by simp) ho hone) ?_
  exact hv
theorem l3Right_ok (b : List Int) (hb : b.length ≤ 140737488351232) (i h : Int) (h0 : 0 ≤ i) (h1 : i ≤ (b.length : Int)) :
  ∃ x' y' i' h', Ev (fun k => spec_l3Right.f k b i h) (x', y', i', h') ∧ okS x' y' = true ∧ 0 ≤ i' ∧ i' ≤ (b.length : Int) := by
 obtain ⟨r1, i1, k1, e1, a1, b1, c1, d1⟩ := below_ok b hb i h 7 h0 h1 (by omega) (by omega)
 obtain ⟨x', y', i', h', hv, z⟩ := l3Right_l0 b hb r1 (by omega) r1.toNat 0 i1 k1 [] [] (by omega) (by omega) c1 d1 ok_nil
 refine ⟨x', y', i', h', ?_, z⟩
 simp only [spec_l3Right.f, e1, Option.bind_some]
 exact hv
theorem l3Draw_ok (b : List Int) (hb : b.length ≤ 140737488351232) (i h : Int) (h0 : 0 ≤ i) (h1 : i ≤ (b.length : Int)) :
  ∃ x' y' i' h', Ev (fun k => spec_l3Draw.f k b i h) (x', y', i', h') ∧ x'.length ≤ 6 ∧ y'.length ≤ 6 ∧ 0 ≤ i' ∧ i' ≤ (b.length : Int) := by
 obtain ⟨x, y, i1, k1, hv, ho, c1, d1⟩ := l3Right_ok b hb i h h0 h1
 have hl := ok_len ho
 obtain ⟨q, i2, k2, e2, a2, b2, c2, d2⟩ := below_ok b hb i1 k1 14 c1 d1 (by omega) (by omega)
 simp only [spec_l3Draw.f]
 by_cases q0 : q = 0
 ·obtain ⟨r1, i3, k3, e3, _, _, c3, d3⟩ := below_ok b hb i2 k2 7 c2 d2 (by omega) (by omega)
  obtain ⟨t0, t1, t2, t3, s, i4, k4, e4, c4, d4⟩ := draw_ok b hb i3 k3 c3 d3
  refine ⟨x ++ [⟨wrap64 (r1 - 1), ⟨t0, t1, t2, t3, s⟩⟩], y, i4, k4, ?_, by simp; omega, by omega, c4, d4⟩
  refine Ev.bind hv ?_
  simp only [e2, Option.bind_some, if_pos q0, e3, e4, if_pos (show x.length < 2513169434916 by omega)]
  exact evSome _
 by_cases q1 : q = 1
 ·obtain ⟨r1, i3, k3, e3, _, _, c3, d3⟩ := below_ok b hb i2 k2 7 c2 d2 (by omega) (by omega)
  obtain ⟨t0, i4, k4, e4, _, c4, d4⟩ := pickInt_ok b hb i3 k3 c3 d3 [0, 1, 5, 1001] (by simp) (by simp)
  refine ⟨x, y ++ [⟨wrap64 (r1 - 1), t0⟩], i4, k4, ?_, by omega, by simp; omega, c4, d4⟩
  refine Ev.bind hv ?_
  simp only [e2, Option.bind_some, if_neg q0, if_pos q1, e3, e4, if_pos (show y.length < 8796093022208 by omega)]
  exact evSome _
 by_cases q2 : q = 2
 ·by_cases hx : (x.length : Int) > 0
  ·obtain ⟨r1, i3, k3, e3, a3, b3, c3, d3⟩ := below_ok b hb i2 k2 (x.length : Int) c2 d2 (by omega) (by omega)
   obtain ⟨t0, t1, t2, t3, s, i4, k4, e4, c4, d4⟩ := draw_ok b hb i3 k3 c3 d3
   refine ⟨x.set r1.toNat ⟨(rd_T63 x r1).f0, ⟨t0, t1, t2, t3, s⟩⟩, y, i4, k4, ?_, ?_, by omega, c4, d4⟩
   ·refine Ev.bind hv ?_
    simp only [e2, Option.bind_some, if_neg q0, if_neg q1, if_pos q2, if_pos hx, e3, e4, if_pos a3, if_pos b3]
    exact evSome _
   ·rw [List.length_set]; omega
  ·refine ⟨x, y, i2, k2, ?_, by omega, by omega, c2, d2⟩
   refine Ev.bind hv ?_
   simp only [e2, Option.bind_some, if_neg q0, if_neg q1, if_pos q2, if_neg hx]
   exact evSome _
 by_cases q3 : q = 3
 ·by_cases hx : (x.length : Int) > 1
  ·refine ⟨x.set (0 : Int).toNat ⟨(rd_T63 x 1).f0, ⟨(rd_T63 x 1).f1.f0, (rd_T63 x 1).f1.f1, (rd_T63 x 1).f1.f2, (rd_T63 x 1).f1.f3, (rd_T63 x 1).f1.f4⟩⟩, y, i2, k2, ?_, ?_, by omega, c2, d2⟩
   ·refine Ev.bind hv ?_
    simp only [e2, Option.bind_some, if_neg q0, if_neg q1, if_neg q2, if_pos q3, if_pos hx, if_pos (show (1 : Int) < (x.length : Int) by omega), if_pos (show (0 : Int) < (x.length : Int) by omega)]
    exact evSome _
   ·rw [List.length_set]; omega
  ·refine ⟨x, y, i2, k2, ?_, by omega, by omega, c2, d2⟩
   refine Ev.bind hv ?_
   simp only [e2, Option.bind_some, if_neg q0, if_neg q1, if_neg q2, if_pos q3, if_neg hx]
   exact evSome _
 refine ⟨x, y, i2, k2, ?_, by omega, by omega, c2, d2⟩
 refine Ev.bind hv ?_
 simp only [e2, Option.bind_some, if_neg q0, if_neg q1, if_neg q2, if_neg q3]
 exact evSome _
theorem l1New_l (b : List Int) (hb : b.length ≤ 140737488351232) : ∀ (d j : Nat) (h : Int), j + d = b.length → ∃ h', Ev (fun k => spec_l1New.l0 k b h (j : Int)) (b, 0, h') := by
 intro d
 induction d with
 | zero =>
  intro j h e
  exact ⟨h, evRet fun k => by simp only [spec_l1New.l0]; rw [if_neg (by omega)]⟩
 | succ d ih =>
  intro j h e
  by_cases c : (j : Int) < 4000
  ·obtain ⟨h', hv⟩ := ih (j + 1) (Go.bits .and .i64 (wrap64 ((wrap64 ((wrap64 (h * 131)) + (wrap64 (rd b (j : Int))))) + 7)) 1073741823) (by omega)
   refine ⟨h', evStep hv fun k => ?_⟩
   simp only [spec_l1New.l0]
   rw [if_pos (by omega), if_pos c, if_pos (by omega), w64 (n := (j : Int) + 1) (by omega) (by omega)]
   rfl
  ·exact ⟨h, evRet fun k => by simp only [spec_l1New.l0]; rw [if_pos (by omega), if_neg c]⟩
theorem l1New_ok (b : List Int) (hb : b.length ≤ 140737488351232) : ∃ h', Ev (fun k => spec_l1New.f k b) (b, 0, h') := by
 obtain ⟨h', hv⟩ := l1New_l b hb b.length 0 (wrap64 (26583 + (b.length : Int))) (by omega)
 exact ⟨h', hv⟩
theorem l3Two_ok (b : List Int) (hb : b.length ≤ 140737488351232) : ∃ x y x' y', Ev (fun k => spec_l3Two.f k b) (x, y, x', y') ∧ x.length ≤ 6 ∧ y.length ≤ 6 ∧ x'.length ≤ 6 ∧ y'.length ≤ 6 := by
 obtain ⟨h0, e0⟩ := l1New_ok b hb
 obtain ⟨x, y, i1, k1, e1, l1, m1, c1, d1⟩ := l3Draw_ok b hb 0 h0 (by omega) (by omega)
 obtain ⟨x', y', i2, k2, e2, l2, m2, c2, d2⟩ := l3Draw_ok b hb i1 k1 c1 d1
 obtain ⟨q, i3, k3, e3, _, _, c3, d3⟩ := below_ok b hb i2 k2 5 c2 d2 (by omega) (by omega)
 simp only [spec_l3Two.f]
 by_cases q0 : q = 0
 ·refine ⟨x, y, x, y, ?_, l1, m1, l1, m1⟩
  refine Ev.bind e0 ?_
  refine Ev.bind e1 ?_
  refine Ev.bind e2 ?_
  simp only [e3, Option.bind_some, if_pos q0, spec_l3Copy.f, List.length_nil, if_pos (show 0 + x.length < 2513169434916 by omega), if_pos (show 0 + y.length < 8796093022208 by omega), List.nil_append]
  exact evSome _
 by_cases q1 : q = 1
 ·by_cases o1 : okS x y = true
  ·by_cases o2 : okS x' y' = true
   ·have hl := joinS_len x y x' y'
    refine ⟨x, y, (joinS x y x' y').1, (joinS x y x' y').2, ?_, l1, m1, by omega, by omega⟩
    refine Ev.bind e0 ?_
    refine Ev.bind e1 ?_
    refine Ev.bind e2 ?_
    simp only [e3, Option.bind_some, if_neg q0, if_pos q1]
    refine Ev.bind (spec_StateOk_ev x y (by omega) (by omega)) ?_
    simp only [if_pos o1]
    refine Ev.bind (spec_StateOk_ev x' y' (by omega) (by omega)) ?_
    simp only [if_pos o2]
    refine Ev.bind (spec_l3Join_ev x y x' y' (by omega) (by omega) (by omega) (by omega) o1 o2) ?_
    exact evSome _
   ·refine ⟨x, y, x', y', ?_, l1, m1, l2, m2⟩
    refine Ev.bind e0 ?_
    refine Ev.bind e1 ?_
    refine Ev.bind e2 ?_
    simp only [e3, Option.bind_some, if_neg q0, if_pos q1]
    refine Ev.bind (spec_StateOk_ev x y (by omega) (by omega)) ?_
    simp only [if_pos o1]
    refine Ev.bind (spec_StateOk_ev x' y' (by omega) (by omega)) ?_
    simp only [if_neg o2]
    exact evSome _
  ·refine ⟨x, y, x', y', ?_, l1, m1, l2, m2⟩
   refine Ev.bind e0 ?_
   refine Ev.bind e1 ?_
   refine Ev.bind e2 ?_
   simp only [e3, Option.bind_some, if_neg q0, if_pos q1]
   refine Ev.bind (spec_StateOk_ev x y (by omega) (by omega)) ?_
   simp only [if_neg o1]
   exact evSome _
 refine ⟨x, y, x', y', ?_, l1, m1, l2, m2⟩
 refine Ev.bind e0 ?_
 refine Ev.bind e1 ?_
 refine Ev.bind e2 ?_
 simp only [e3, Option.bind_some, if_neg q0, if_neg q1]
 exact evSome _
theorem joinO_ok {a : List S63} {b : List S68} {c : List S63} {e : List S68} (h : okS a b = true) (h' : okS c e = true) : joinO a b c e = ((joinS a b c e).1, (joinS a b c e).2, true) := by
 unfold joinO; rw [if_pos h, if_pos h']
theorem joinO_no {a : List S63} {b : List S68} {c : List S63} {e : List S68} (h : ¬ (okS a b = true ∧ okS c e = true)) : joinO a b c e = ([], [], false) := by
 unfold joinO
 by_cases h1 : okS a b = true
 ·rw [if_pos h1, if_neg (fun h2 => h ⟨h1, h2⟩)]
 ·rw [if_neg h1]
theorem big_eq (l : List Int) : laws_big.f l = some (decide ((l.length : Int) > 1048576)) := rfl
theorem viewI_kI (g : Int → Option E5) : ∀ (n : Nat) (i : Int), viewI (kI g n i) = kI (fun j => (g j).filter fun v => decide (v.2.1 = 0)) n i
 | 0, _ => rfl
 | n + 1, i => by
  simp only [kI]
  rw [show ∀ x y : List S63, viewI (x ++ y) = viewI x ++ viewI y from fun x y => List.filter_append .., viewI_kI g n (i + 1)]
  congr 1
  cases hg : g i with
  | none => rfl
  | some v =>
   by_cases h : v.2.1 = 0
   ·have e : (some v : Option E5).filter (fun v => decide (v.2.1 = 0)) = some v := by simp [Option.filter, h]
    rw [e]
    show List.filter _ [_] = _
    rw [List.filter_cons_of_pos (by simpa using h)]; rfl
   ·have e : (some v : Option E5).filter (fun v => decide (v.2.1 = 0)) = none := by simp [Option.filter, h]
    rw [e]
    show List.filter _ [_] = _
    rw [List.filter_cons_of_neg (by simpa using h)]; rfl
theorem view_E {a : List S63} {b : List S68} (ho : okS a b = true) {j : Int} (h0 : 0 ≤ j) (h4 : j ≤ 4) : oE (viewR a b) j = (oE a j).filter fun v => decide (v.2.1 = 0) := by
 unfold viewR
 rw [if_pos ho]
 conv => lhs; rw [ok_items ho]
 rw [viewI_kI, oE_kI, if_pos (by omega)]
theorem leE_rank {x y : E5} (h : leE x y) : x.1 ≤ y.1 ∧ (x.1 = y.1 → x.2.1 ≤ y.2.1) := by
 unfold leE at h
 rw [ec_lt_iff] at h
 exact ⟨Int.not_lt.1 (fun hh => h (.inl hh)), fun e => Int.not_lt.1 (fun hh => h (.inr ⟨e.symm, .inl hh⟩))⟩
def gE (x : Option E5) (f : Int) : Int := match x with
 | some v => if v.2.1 = 0 then v.1 - 1 else v.1
 | none => f
theorem gone_E {a : List S63} {b : List S68} (ho : okS a b = true) (q : Int) : goneA a b q = gE (oE a q) (floOf b q) := by
 unfold goneA
 rw [if_pos ho, ent_of]
 obtain ⟨p1, p2, p3⟩ := (okP_of ho) q
 cases h : oE a q with
 | none => simp [gE]
 | some v =>
  have hk := (p1 v h).1
  simp only [entryOkB, Bool.and_eq_true, decide_eq_true_eq] at hk
  simp only [gE, if_true]
  by_cases c : v.2.1 = 0
  ·rw [if_pos c, if_pos c, w64 (by omega) (by omega)]
  ·rw [if_neg c, if_neg c]
theorem over_E {x y : Option E5} {f g : Int} (hx : ∀ v, x = some v → entryOkB v.1 v.2.1 v.2.2.1 v.2.2.2.1 v.2.2.2.2 = true ∧ f < v.1) (f0 : 0 ≤ f) (g0 : 0 ≤ g) : gE x f ≤ gE (jE x y (jF f g)) (jF f g) ∧ (∀ m, jE x y (jF f g) = some m → m.2.1 = 0 → gE x f < m.1) := by
 have hF : f ≤ jF f g := by unfold jF maxI; split <;> omega
 have hl := leE_rank (mxE_left (eZ x) (eZ y))
 unfold jE
 by_cases c : (mxE (eZ x) (eZ y)).1 > jF f g
 ·rw [if_pos c]
  generalize mxE (eZ x) (eZ y) = m at c hl
  cases x with
  | none =>
   simp only [gE]
   refine ⟨by split <;> omega, fun m' hm hr => ?_⟩
   obtain rfl := Option.some.inj hm
   omega
  | some v =>
   obtain ⟨h1, h2⟩ := hx v rfl
   simp only [entryOkB, Bool.and_eq_true, decide_eq_true_eq] at h1
   have e : eZ (some v) = v := rfl
   rw [e] at hl
   obtain ⟨l1, l2⟩ := hl
   simp only [gE]
   constructor
   ·by_cases d : v.1 = m.1
    ·have := l2 d
     split <;> split <;> omega
    ·split <;> split <;> omega
   ·intro m' hm hr
    obtain rfl := Option.some.inj hm
    by_cases d : v.1 = m.1
    ·have := l2 d
     split <;> omega
    ·split <;> omega
 ·rw [if_neg c]
  refine ⟨?_, fun m hm => by cases hm⟩
  cases x with
  | none => exact hF
  | some v =>
   have e : eZ (some v) = v := rfl
   rw [e] at hl
   simp only [gE]
   have := hl.1
   rw [e] at c
   split <;> omega
theorem ok_ints {a : List S63} {b : List S68} (ho : okS a b = true) : ∀ x ∈ a, intsI x := by
 intro x hx
 simp only [okS, Bool.and_eq_true] at ho
 obtain ⟨h1, _, h3, _⟩ := okI_mem b a none ho.1 x hx
 simp only [entryOkB, Bool.and_eq_true, decide_eq_true_eq] at h3
 unfold intsI i64B
 omega
theorem over_l1 (c : List S63) (e : List S68) (hc : c.length ≤ 2097152) (he : e.length ≤ 2097152) (hA : ∀ x ∈ c, intsI x) (v : List S63) (hl : v.length ≤ 2097152) (hv : ∀ x ∈ v, x.f1.f1 = 0) : ∀ (d i : Nat), i + d = v.length → Ev (fun k => laws_FnOverStays.l1 k v (i : Int) c e) true := by
 intro d
 induction d with
 | zero =>
  intro i h
  refine evSucc ?_
  simp only [laws_FnOverStays.l1, if_neg (show ¬ (i : Int) < (v.length : Int) by omega)]
  refine Ev.bind (impl_ViewText_ev hc he hA) ?_
  refine Ev.bind (spec_ViewText_ev hc he hA) ?_
  rw [beq_self_eq_true]
  exact evSome _
 | succ d ih =>
  intro i h
  have hi : i < v.length := by omega
  have := ih (i + 1) (by omega)
  refine evSucc ?_
  simp only [laws_FnOverStays.l1, if_pos (show (i : Int) < (v.length : Int) by omega), if_pos (show (0 : Int) ≤ (i : Int) by omega), rdI hi, if_pos (hv _ (List.getElem_mem hi)), w64 (n := (i : Int) + 1) (by omega) (by omega)]
  exact this
theorem over_l0 (a : List S63) (b : List S68) (c : List S63) (e : List S68) (ho : okS a b = true) (h' : okS c e = true) : ∀ (d : Nat) (i : Int), 0 ≤ i → i + d = 5 → Ev (fun k => laws_FnOverStays.l0 k i a b (joinS a b c e).1 (joinS a b c e).2) true := by
 have oj := join_ok ho h'
 have nj := joinS_len a b c e
 have na := ok_len ho
 intro d
 induction d with
 | zero =>
  intro i h0 h5
  refine evSucc ?_
  simp only [laws_FnOverStays.l0, if_neg (show ¬ i < 5 by omega)]
  refine Ev.bind (impl_View_ev _ _ (Nat.le_trans nj.1 (by omega)) (Nat.le_trans nj.2 (by omega))) ?_
  have hl := viewR_len (joinS a b c e).1 (joinS a b c e).2
  exact over_l1 _ _ (Nat.le_trans nj.1 (by omega)) (Nat.le_trans nj.2 (by omega)) (ok_ints oj) _ (Nat.le_trans hl (Nat.le_trans nj.1 (by omega))) (fun x hx => (view_mem hx).2) (viewR (joinS a b c e).1 (joinS a b c e).2).length 0 (by omega)
 | succ d ih =>
  intro i h0 h5
  have next := ih (i + 1) (by omega) (by omega)
  have hE := join_E (a := a) (b := b) (c := c) (e := e) h0 (show i ≤ 4 by omega)
  have hF := join_F ho h' h0 (show i ≤ 4 by omega)
  obtain ⟨p1, p2, p3⟩ := (okP_of ho) i
  obtain ⟨q1, q2, q3⟩ := (okP_of h') i
  obtain ⟨g1, g2⟩ := over_E (x := oE a i) (y := oE c i) (f := floOf b i) (g := floOf e i) p1 p2 q2
  rw [← hE, ← hF] at g1
  rw [← hE] at g2
  rw [← gone_E ho, ← gone_E oj] at g1
  rw [← gone_E ho] at g2
  refine evSucc ?_
  simp only [laws_FnOverStays.l0, if_pos (show i < 5 by omega)]
  refine Ev.bind (impl_Lookup_ev _ _ i (Nat.le_trans nj.1 (by omega)) (Nat.le_trans nj.2 (by omega))) ?_
  refine Ev.bind (impl_GoneAt_ev _ _ i (Nat.le_trans nj.1 (by omega)) (Nat.le_trans nj.2 (by omega))) ?_
  refine Ev.bind (impl_GoneAt_ev a b i (by omega) (by omega)) ?_
  simp only [if_neg (show ¬ goneA (joinS a b c e).1 (joinS a b c e).2 i < goneA a b i by omega), w64 (n := i + 1) (by omega) (by omega)]
  rw [ent_of, view_E oj h0 (by omega)]
  cases hj : oE (joinS a b c e).1 i with
  | none =>
   simp
   exact next
  | some m =>
   by_cases z : m.2.1 = 0
   ·have := g2 m hj z
    simp only [Option.filter, z, decide_true, if_true]
    refine Ev.bind (impl_GoneAt_ev a b i (by omega) (by omega)) ?_
    simp only [if_neg (show ¬ m.1 ≤ goneA a b i by omega)]
    exact next
   ·simp [Option.filter, z]
    exact next
theorem FnOverStays : laws_FnOverStays.Pure := by
 intro l hl hl2 _
 apply Ev.rounds
 have hb : l.length ≤ 140737488351232 := by omega
 simp only [laws_FnOverStays.f, big_eq, Option.bind_some]
 by_cases hbig : (l.length : Int) > 1048576
 ·simp only [decide_eq_true hbig, if_true]; exact evSome _
 simp only [decide_eq_false hbig, Bool.false_eq_true, if_false]
 obtain ⟨x, y, x', y', hd, l1, m1, l2, m2⟩ := l3Two_ok l hb
 have hd2 : Ev (fun k => spec_DrawStateJoin.f k l) (x, y, x', y') := by
  simp only [spec_DrawStateJoin.f]
  refine Ev.bind hd ?_
  exact evSome _
 refine Ev.bind hd2 ?_
 refine Ev.bind (impl_StateJoin_ev x y x' y' (by omega) (by omega) (by omega) (by omega)) ?_
 refine Ev.bind (spec_StateJoin_ev x y x' y' (by omega) (by omega) (by omega) (by omega)) ?_
 simp only [bne_self_eq_false, Bool.false_eq_true, if_false]
 by_cases h : okS x y = true ∧ okS x' y' = true
 ·rw [joinO_ok h.1 h.2]
  simp only [if_true]
  exact over_l0 x y x' y' h.1 h.2 5 0 (by omega) (by omega)
 ·rw [joinO_no h]
  simp only [Bool.false_eq_true, if_false]
  exact evSome _
end Go.Proofs.YtomlglpmljngfaaDoor.Pure
