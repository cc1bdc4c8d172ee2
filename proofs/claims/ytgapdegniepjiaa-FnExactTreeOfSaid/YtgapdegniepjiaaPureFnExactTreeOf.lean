/- The plain law of FnExactTreeOf. -/
import Derived.Test.YtgapdegniepjiaaPlFnExactTreeOf
namespace Go.Proofs.Ytgapdegniepjiaa.Pure
open Go.RowKit Go.Proofs.Ytgapdegniepjiaa.P Go.Proofs.YtgapdegniepjiaaW.PrintWords Go.Proofs.YtgapdegniepjiaaW.PrintLast
set_option linter.unusedVariables false
set_option linter.unusedSimpArgs false
theorem w64 {n : Int} (h0 : -9223372036854775808 ≤ n) (h1 : n ≤ 9223372036854775807) : wrap64 n = n := by
 unfold wrap64; omega
theorem tmod_pos {a b : Int} (h : 0 ≤ a) : Int.tmod a b = a % b := Int.tmod_eq_emod_of_nonneg h
theorem tdiv_pos {a b : Int} (h : 0 ≤ a) : Int.tdiv a b = a / b := Int.tdiv_eq_ediv_of_nonneg h
theorem evSome {α : Type} (r : α) : Ev (fun _ => some r) r := Ev.now r
theorem evEq {α : Type} {g f : Nat → Option α} {r : α} (k : Ev f r) (h : ∀ k, g k = f k) : Ev g r := Ev.congr h k
theorem evStep {α : Type} {g f : Nat → Option α} {r : α} (k : Ev f r) (h : ∀ k, g (k + 1) = f k) : Ev g r := Ev.step h k
theorem evRet {α : Type} {g : Nat → Option α} {r : α} (h : ∀ k, g (k + 1) = some r) : Ev g r := Ev.step h (Ev.now r)
theorem rd_nat {l : List Int} {i : Nat} (h : i < l.length) : rd l (i : Int) = l[i] := by
 unfold rd; simp [List.getD_eq_getElem?_getD, h]
theorem evSucc {α : Type} {g : Nat → Option α} {r : α} (h : Ev (fun k => g (k + 1)) r) : Ev g r := Ev.step (f := fun k => g (k + 1)) (fun _ => rfl) h
def convI (x : S94) : S68 := ⟨x.f0, ⟨x.f1.f0, x.f1.f1, x.f1.f2, x.f1.f3, x.f1.f4⟩⟩
def convF (x : S98) : S72 := ⟨x.f0, x.f1⟩
theorem rdLI {l : List S94} {i : Nat} (h : i < l.length) : rd_T94 l (i : Int) = l[i] := by
 unfold rd_T94; simp [List.getD_eq_getElem?_getD, h]
theorem rdLF {l : List S98} {i : Nat} (h : i < l.length) : rd_T98 l (i : Int) = l[i] := by
 unfold rd_T98; simp [List.getD_eq_getElem?_getD, h]
theorem rdI {l : List S68} {i : Nat} (h : i < l.length) : rd_T68 l (i : Int) = l[i] := by
 unfold rd_T68; simp [List.getD_eq_getElem?_getD, h]
theorem rdF {l : List S72} {i : Nat} (h : i < l.length) : rd_T72 l (i : Int) = l[i] := by
 unfold rd_T72; simp [List.getD_eq_getElem?_getD, h]
theorem toItemS_l (x : List S94) (hx : x.length ≤ 1048576) : ∀ (d i : Nat) (y : List S68), i + d = x.length → y.length = x.length →
  Ev (fun k => laws_toItemS.l0 k x y (i : Int)) (y.take i ++ (x.drop i).map convI) := by
 intro d
 induction d with
 | zero =>
  intro i y h hy
  have e : y.take i ++ (x.drop i).map convI = y := by
   rw [List.drop_eq_nil_of_le (by omega), List.take_of_length_le (by omega), List.map_nil, List.append_nil]
  rw [e]
  refine evRet fun k => ?_
  simp only [laws_toItemS.l0]; rw [if_neg (by omega)]
 | succ d ih =>
  intro i y h hy
  have hi : i < x.length := by omega
  have := ih (i + 1) (y.set i (convI x[i])) (by omega) (by simpa using hy)
  have e : (y.set i (convI x[i])).take (i + 1) ++ (x.drop (i + 1)).map convI = y.take i ++ (x.drop i).map convI := by
   rw [List.drop_eq_getElem_cons hi, List.take_succ_eq_append_getElem (by simp; omega), List.take_set_of_le (Nat.le_refl i)]
   simp only [List.map_cons, List.getElem_set_self, List.append_assoc, List.singleton_append, List.cons_append, List.nil_append]
  rw [e] at this
  refine evStep this fun k => ?_
  simp only [laws_toItemS.l0, laws_toItem.f, laws_toEntry.f, Option.bind_some]
  rw [if_pos (by omega), if_pos (by omega), if_pos (by omega), rdLI hi, w64 (by omega) (by omega)]
  rfl
theorem toItemS_ev (x : List S94) (hx : x.length ≤ 1048576) : Ev (fun k => laws_toItemS.f k x) (x.map convI) := by
 have := toItemS_l x hx x.length 0 (List.replicate x.length z68) (by omega) (by simp)
 simp only [List.take_zero, List.drop_zero, List.nil_append] at this
 refine evEq this fun k => ?_
 simp only [laws_toItemS.f]
 rw [if_pos (by omega), if_pos (by omega)]
 rfl
theorem toFloorS_l (x : List S98) (hx : x.length ≤ 1048576) : ∀ (d i : Nat) (y : List S72), i + d = x.length → y.length = x.length →
  Ev (fun k => laws_toFloorS.l0 k x y (i : Int)) (y.take i ++ (x.drop i).map convF) := by
 intro d
 induction d with
 | zero =>
  intro i y h hy
  have e : y.take i ++ (x.drop i).map convF = y := by
   rw [List.drop_eq_nil_of_le (by omega), List.take_of_length_le (by omega), List.map_nil, List.append_nil]
  rw [e]
  refine evRet fun k => ?_
  simp only [laws_toFloorS.l0]; rw [if_neg (by omega)]
 | succ d ih =>
  intro i y h hy
  have hi : i < x.length := by omega
  have := ih (i + 1) (y.set i (convF x[i])) (by omega) (by simpa using hy)
  have e : (y.set i (convF x[i])).take (i + 1) ++ (x.drop (i + 1)).map convF = y.take i ++ (x.drop i).map convF := by
   rw [List.drop_eq_getElem_cons hi, List.take_succ_eq_append_getElem (by simp; omega), List.take_set_of_le (Nat.le_refl i)]
   simp only [List.map_cons, List.getElem_set_self, List.append_assoc, List.singleton_append, List.cons_append, List.nil_append]
  rw [e] at this
  refine evStep this fun k => ?_
  simp only [laws_toFloorS.l0, laws_toFloor.f, Option.bind_some]
  rw [if_pos (by omega), if_pos (by omega), if_pos (by omega), rdLF hi, w64 (by omega) (by omega)]
  rfl
theorem toFloorS_ev (x : List S98) (hx : x.length ≤ 1048576) : Ev (fun k => laws_toFloorS.f k x) (x.map convF) := by
 have := toFloorS_l x hx x.length 0 (List.replicate x.length z72) (by omega) (by simp)
 simp only [List.take_zero, List.drop_zero, List.nil_append] at this
 refine evEq this fun k => ?_
 simp only [laws_toFloorS.f]
 rw [if_pos (by omega), if_pos (by omega)]
 rfl
theorem toState_ev (x : List S94) (y : List S98) (hx : x.length ≤ 1048576) (hy : y.length ≤ 1048576) : Ev (fun k => laws_toState.f k x y) (x.map convI, y.map convF) := by
 simp only [laws_toState.f]
 refine Ev.bind (toItemS_ev x hx) ?_
 refine Ev.bind (toFloorS_ev y hy) ?_
 exact evSome _
theorem szItemS_l (x : List S94) (hx : x.length ≤ 1048576) (hs : ∀ v ∈ x, v.f1.f4.size ≤ 140737488351232) : ∀ (d i : Nat) (n : Int), i + d = x.length → 0 ≤ n → n ≤ 1048576 →
  ∃ m, Ev (fun k => laws_szItemS.l0 k x n (i : Int)) m ∧ m ≤ n := by
 intro d
 induction d with
 | zero =>
  intro i n h _ _
  refine ⟨n, evRet fun k => ?_, Int.le_refl _⟩
  simp only [laws_szItemS.l0]; rw [if_neg (by omega)]
 | succ d ih =>
  intro i n h h0 h1
  have hi : i < x.length := by omega
  have hsz := hs _ (List.getElem_mem hi)
  by_cases hneg : n - (x[i].f1.f4.size : Int) < 0
  ·refine ⟨-1, evRet fun k => ?_, by omega⟩
   simp only [laws_szItemS.l0, laws_szItem.f, laws_szEntry.f]
   rw [if_pos (by omega), if_pos (by omega), rdLI hi, w64 (by omega) (by omega), if_pos hneg]
   rfl
  ·obtain ⟨m, hm, hle⟩ := ih (i + 1) (n - (x[i].f1.f4.size : Int)) (by omega) (by omega) (by omega)
   refine ⟨m, evStep hm fun k => ?_, by omega⟩
   simp only [laws_szItemS.l0, laws_szItem.f, laws_szEntry.f]
   rw [if_pos (by omega), if_pos (by omega), rdLI hi, w64 (n := n - _) (by omega) (by omega), if_neg hneg]
   simp only [Option.bind_some]
   rw [if_neg hneg]
   simp only [Option.bind_some]
   rw [if_neg hneg, w64 (by omega) (by omega)]
   rfl
theorem szItemS_ev (x : List S94) (hx : x.length ≤ 140737488351232) (hs : ∀ v ∈ x, v.f1.f4.size ≤ 140737488351232) (n : Int) (h0 : 0 ≤ n) (h1 : n ≤ 1048576) :
  ∃ m, Ev (fun k => laws_szItemS.f k x n) m ∧ m ≤ n ∧ (0 ≤ m → x.length ≤ 1048576) := by
 by_cases hneg : n - (x.length : Int) < 0
 ·refine ⟨-1, evEq (evSome _) fun k => ?_, by omega, by omega⟩
  simp only [laws_szItemS.f]; rw [w64 (by omega) (by omega), if_pos hneg]
 ·obtain ⟨m, hm, hle⟩ := szItemS_l x (by omega) hs x.length 0 (n - (x.length : Int)) (by omega) (by omega) (by omega)
  refine ⟨m, evEq hm fun k => ?_, by omega, by omega⟩
  simp only [laws_szItemS.f]; rw [w64 (by omega) (by omega), if_neg hneg]
  rfl
theorem szState_ev (x : List S94) (y : List S98) (hx : x.length ≤ 140737488351232) (hy : y.length ≤ 140737488351232) (hs : ∀ v ∈ x, v.f1.f4.size ≤ 140737488351232) (n : Int) (h0 : 0 ≤ n) (h1 : n ≤ 1048576) :
  ∃ m, Ev (fun k => laws_szState.f k x y n) m ∧ m ≤ n ∧ (0 ≤ m → x.length ≤ 1048576 ∧ y.length ≤ 1048576) := by
 obtain ⟨m, hm, hle, hb⟩ := szItemS_ev x hx hs n h0 h1
 by_cases hn : m < 0
 ·refine ⟨-1, ?_, by omega, by omega⟩
  simp only [laws_szState.f]
  refine Ev.bind hm ?_
  simp only [if_pos hn]; exact evSome _
 ·by_cases hneg : m - (y.length : Int) < 0
  ·refine ⟨-1, ?_, by omega, by omega⟩
   simp only [laws_szState.f, laws_szFloorS.f]
   refine Ev.bind hm ?_
   simp only [if_neg hn]
   rw [w64 (by omega) (by omega)]
   simp only [if_pos hneg, Option.bind_some]; exact evSome _
  ·refine ⟨m - (y.length : Int), ?_, by omega, fun _ => ⟨hb (by omega), by omega⟩⟩
   simp only [laws_szState.f, laws_szFloorS.f]
   refine Ev.bind hm ?_
   simp only [if_neg hn]
   rw [w64 (by omega) (by omega)]
   simp only [if_neg hneg, Option.bind_some]; exact evSome _
theorem eqEntry_self (a b c d : Int) (s : ByteArray) : laws_eqEntry.f a b c d s a b c d s = some true := by
 simp only [laws_eqEntry.f, if_true]
theorem eqItemS_l (x : List S68) (hx : x.length ≤ 2097152) : ∀ (d i : Nat), i + d = x.length → Ev (fun k => laws_eqItemS.l0 k x x (i : Int)) true := by
 intro d
 induction d with
 | zero =>
  intro i h
  refine evRet fun k => ?_
  simp only [laws_eqItemS.l0]; rw [if_neg (by omega)]
 | succ d ih =>
  intro i h
  refine evStep (ih (i + 1) (by omega)) fun k => ?_
  simp only [laws_eqItemS.l0, laws_eqItem.f, eqEntry_self, Option.bind_some, if_true]
  rw [if_pos (by omega), if_pos (by omega), if_pos (by omega), w64 (by omega) (by omega)]
  rfl
theorem eqItemS_ev (x : List S68) (hx : x.length ≤ 2097152) : Ev (fun k => laws_eqItemS.f k x x) true := by
 refine evEq (eqItemS_l x hx x.length 0 (by omega)) fun k => ?_
 simp only [laws_eqItemS.f, if_true]; rfl
theorem eqFloorS_l (x : List S72) (hx : x.length ≤ 2097152) : ∀ (d i : Nat), i + d = x.length → Ev (fun k => laws_eqFloorS.l0 k x x (i : Int)) true := by
 intro d
 induction d with
 | zero =>
  intro i h
  refine evRet fun k => ?_
  simp only [laws_eqFloorS.l0]; rw [if_neg (by omega)]
 | succ d ih =>
  intro i h
  refine evStep (ih (i + 1) (by omega)) fun k => ?_
  simp only [laws_eqFloorS.l0, laws_eqFloor.f, Option.bind_some, if_true]
  rw [if_pos (by omega), if_pos (by omega), if_pos (by omega), w64 (by omega) (by omega)]
  rfl
theorem eqFloorS_ev (x : List S72) (hx : x.length ≤ 2097152) : Ev (fun k => laws_eqFloorS.f k x x) true := by
 refine evEq (eqFloorS_l x hx x.length 0 (by omega)) fun k => ?_
 simp only [laws_eqFloorS.f, if_true]; rfl
theorem eqState_ev (x : List S68) (y : List S72) (hx : x.length ≤ 2097152) (hy : y.length ≤ 2097152) : Ev (fun k => laws_eqState.f k x y x y) true := by
 simp only [laws_eqState.f]
 refine Ev.bind (eqItemS_ev x hx) ?_
 simp only [if_true]
 refine Ev.bind (eqFloorS_ev y hy) ?_
 simp only [if_true]
 exact evSome _
def floOf : List S72 → Int → Int
 | [], _ => 0
 | x :: r, a => if x.f0 = a then x.f1 else floOf r a
theorem spec_FloorOf_l (l : List S72) (il : List S68) (a : Int) (hl : l.length ≤ 2097152) : ∀ (d i : Nat), i + d = l.length → Ev (fun k => spec_FloorOf.l0 k a (i : Int) il l) (floOf (l.drop i) a) := by
 intro d
 induction d with
 | zero =>
  intro i h
  rw [List.drop_eq_nil_of_le (by omega)]
  exact evRet fun k => by simp only [spec_FloorOf.l0]; rw [if_neg (by omega)]; rfl
 | succ d ih =>
  intro i h
  have hi : i < l.length := by omega
  rw [List.drop_eq_getElem_cons hi]
  by_cases he : l[i].f0 = a
  ·refine evRet fun k => ?_
   simp only [spec_FloorOf.l0, floOf]
   rw [if_pos (by omega), if_pos (by omega), rdF hi, if_pos he, if_pos he]
  ·have := ih (i + 1) (by omega)
   simp only [floOf]
   rw [if_neg he]
   refine evStep this fun k => ?_
   simp only [spec_FloorOf.l0]
   rw [if_pos (by omega), if_pos (by omega), rdF hi, if_neg he, w64 (by omega) (by omega)]
   rfl
theorem spec_FloorOf_ev (l : List S72) (il : List S68) (a : Int) (hl : l.length ≤ 2097152) : Ev (fun k => spec_FloorOf.f k il l a) (floOf l a) :=
 evEq (spec_FloorOf_l l il a hl l.length 0 (by omega)) fun k => rfl
theorem impl_FloorOf_l (l : List S72) (a : Int) (hl : l.length ≤ 2097152) : ∀ (d i : Nat), i + d = l.length → Ev (fun k => impl_FloorOf.l0 k a l (l.length : Int) (i : Int)) (floOf (l.drop i) a) := by
 intro d
 induction d with
 | zero =>
  intro i h
  rw [List.drop_eq_nil_of_le (by omega)]
  exact evRet fun k => by simp only [impl_FloorOf.l0]; rw [if_neg (by omega)]; rfl
 | succ d ih =>
  intro i h
  have hi : i < l.length := by omega
  rw [List.drop_eq_getElem_cons hi]
  by_cases he : l[i].f0 = a
  ·refine evRet fun k => ?_
   simp only [impl_FloorOf.l0, floOf]
   rw [if_pos (by omega), if_pos (by omega), if_pos (by omega), rdF hi, if_pos he, if_pos he]
  ·have := ih (i + 1) (by omega)
   simp only [floOf]
   rw [if_neg he]
   refine evStep this fun k => ?_
   simp only [impl_FloorOf.l0]
   rw [if_pos (by omega), if_pos (by omega), if_pos (by omega), rdF hi, if_neg he, w64 (by omega) (by omega)]
   rfl
theorem impl_FloorOf_ev (l : List S72) (il : List S68) (a : Int) (hl : l.length ≤ 2097152) : Ev (fun k => impl_FloorOf.f k il l a) (floOf l a) :=
 evEq (impl_FloorOf_l l a hl l.length 0 (by omega)) fun k => rfl
theorem spec_l1In_eq (a b c : Int) : spec_l1In.f a b c = some (decide (b ≤ a ∧ a ≤ c)) := by
 unfold spec_l1In.f
 by_cases h : a ≥ b
 ·rw [if_pos h]; simp [show b ≤ a from h]
 ·rw [if_neg h]; simp [show ¬ b ≤ a from h]
theorem impl_within_eq (a b c : Int) : impl_within.f a b c = some (decide (b ≤ a ∧ a ≤ c)) := by
 unfold impl_within.f
 by_cases h : a ≥ b
 ·rw [if_pos h]; simp [show b ≤ a from h]
 ·rw [if_neg h]; simp [show ¬ b ≤ a from h]
def entryOkB (i r b v : Int) (s : ByteArray) : Bool := decide (1 ≤ i ∧ i ≤ 1000) && (decide (0 ≤ r ∧ r ≤ 1) && (decide (0 ≤ b ∧ b ≤ 100000) && (decide (0 ≤ v ∧ v ≤ 1000) && decide ((s.size : Int) ≤ 8))))
theorem ite_some {b c : Bool} : (if b = true then some c else some false) = some (b && c) := by cases b <;> rfl
theorem spec_EntryOk_eq (i r b v : Int) (s : ByteArray) : spec_EntryOk.f i r b v s = some (entryOkB i r b v s) := by
 simp only [spec_EntryOk.f, spec_l1In_eq, Option.bind_some, ite_some, entryOkB]
theorem impl_EntryOk_eq (i r b v : Int) (s : ByteArray) : impl_EntryOk.f i r b v s = some (entryOkB i r b v s) := by
 simp only [impl_EntryOk.f, impl_within_eq, Option.bind_some, ite_some, entryOkB]
def nodeB (a : Int) : Bool := decide (0 ≤ a ∧ a ≤ 4)
def okI (b : List S72) : Option Int → List S68 → Bool
 | _, [] => true
 | p, x :: r => nodeB x.f0 && (!(match p with | none => false | some q => decide (x.f0 ≤ q)) && (entryOkB x.f1.f0 x.f1.f1 x.f1.f2 x.f1.f3 x.f1.f4 && (!(decide (x.f1.f0 ≤ floOf b x.f0)) && okI b (some x.f0) r)))
def okF : Option Int → List S72 → Bool
 | _, [] => true
 | p, x :: r => nodeB x.f0 && (!(match p with | none => false | some q => decide (x.f0 ≤ q)) && (decide (1 ≤ x.f1 ∧ x.f1 ≤ 1000) && okF (some x.f0) r))
def okS (a : List S68) (b : List S72) : Bool := okI b none a && okF none b
def prevI (a : List S68) : Nat → Option Int
 | 0 => none
 | i + 1 => (a[i]?).map (·.f0)
def prevF (a : List S72) : Nat → Option Int
 | 0 => none
 | i + 1 => (a[i]?).map (·.f0)
theorem spec_l3Node_eq (a : Int) : spec_l3Node.f a = some (nodeB a) := by
 simp only [spec_l3Node.f, spec_l1In_eq, Option.bind_some, nodeB]
theorem impl_isNode_eq (a : Int) : impl_isNode.f a = some (nodeB a) := by
 simp only [impl_isNode.f, impl_within_eq, Option.bind_some, nodeB]
theorem spec_Ok_l1 (a : List S68) (b : List S72) (hb : b.length ≤ 2097152) : ∀ (m i : Nat), i + m = b.length → Ev (fun k => spec_StateOk.l1 k (i : Int) a b) (okF (prevF b i) (b.drop i)) := by
 intro m
 induction m with
 | zero =>
  intro i h
  rw [List.drop_eq_nil_of_le (by omega)]
  exact evRet fun k => by simp only [spec_StateOk.l1]; rw [if_neg (by omega)]; simp only [okF]
 | succ m ih =>
  intro i h
  have hi : i < b.length := by omega
  have hx := ih (i + 1) (by omega)
  rw [List.drop_eq_getElem_cons hi]
  simp only [okF]
  refine evSucc ?_
  simp only [spec_StateOk.l1, rdF hi, spec_l3Node_eq, spec_l1In_eq, Option.bind_some]
  simp only [if_pos (show (i : Int) < (b.length : Int) by omega), if_pos (show (0 : Int) ≤ (i : Int) by omega), w64 (show (-9223372036854775808 : Int) ≤ (i : Int) + 1 by omega) (by omega)]
  have hp : prevF b (i + 1) = some b[i].f0 := by simp [prevF, hi]
  rw [hp] at hx
  by_cases c1 : nodeB b[i].f0 = true
  ·simp only [if_pos c1]
   simp only [c1, Bool.true_and]
   cases i with
   | zero =>
    simp only [if_neg (show ¬ ((0 : Nat) : Int) > 0 by omega), prevF, Bool.not_false, Bool.true_and]
    by_cases c3 : decide ((1 : Int) ≤ b[0].f1 ∧ b[0].f1 ≤ 1000) = true
    ·simp only [if_pos c3]; simp only [c3, Bool.true_and]; exact hx
    ·simp only [if_neg c3]; simp only [Bool.not_eq_true] at c3; simp only [c3, Bool.false_and]; exact evSome _
   | succ j =>
    have hj : j < b.length := by omega
    have e1 : (((j + 1 : Nat) : Int)) - 1 = (j : Int) := by omega
    simp only [if_pos (show ((j + 1 : Nat) : Int) > 0 by omega), e1, w64 (show (-9223372036854775808 : Int) ≤ (j : Int) by omega) (by omega), if_pos (show (0 : Int) ≤ (j : Int) by omega), if_pos (show (j : Int) < (b.length : Int) by omega), rdF hj]
    have hp2 : prevF b (j + 1) = some b[j].f0 := by simp [prevF, hj]
    simp only [hp2]
    by_cases c2 : b[j + 1].f0 ≤ b[j].f0
    ·simp only [if_pos c2, decide_eq_true c2, Bool.not_true, Bool.false_and]; exact evSome _
    ·simp only [if_neg c2, decide_eq_false c2, Bool.not_false, Bool.true_and]
     by_cases c3 : decide (1 ≤ b[j + 1].f1 ∧ b[j + 1].f1 ≤ 1000) = true
     ·simp only [if_pos c3]; simp only [c3, Bool.true_and]; exact hx
     ·simp only [if_neg c3]; simp only [Bool.not_eq_true] at c3; simp only [c3, Bool.false_and]; exact evSome _
  ·simp only [if_neg c1]; simp only [Bool.not_eq_true] at c1; simp only [c1, Bool.false_and]; exact evSome _
theorem spec_Ok_l0 (a : List S68) (b : List S72) (ha : a.length ≤ 2097152) (hb : b.length ≤ 2097152) : ∀ (m i : Nat), i + m = a.length → Ev (fun k => spec_StateOk.l0 k (i : Int) a b) (okI b (prevI a i) (a.drop i) && okF none b) := by
 intro m
 induction m with
 | zero =>
  intro i h
  rw [List.drop_eq_nil_of_le (by omega)]
  refine evSucc ?_
  simp only [spec_StateOk.l0]
  simp only [if_neg (show ¬ (i : Int) < (a.length : Int) by omega)]
  simpa [okI, prevF] using spec_Ok_l1 a b hb b.length 0 (by omega)
 | succ m ih =>
  intro i h
  have hi : i < a.length := by omega
  have hx := ih (i + 1) (by omega)
  rw [List.drop_eq_getElem_cons hi]
  simp only [okI]
  refine evSucc ?_
  simp only [spec_StateOk.l0, rdI hi, spec_l3Node_eq, spec_EntryOk_eq, Option.bind_some]
  simp only [if_pos (show (i : Int) < (a.length : Int) by omega), if_pos (show (0 : Int) ≤ (i : Int) by omega), w64 (show (-9223372036854775808 : Int) ≤ (i : Int) + 1 by omega) (by omega)]
  have hp : prevI a (i + 1) = some a[i].f0 := by simp [prevI, hi]
  rw [hp] at hx
  have tail : Ev (fun k => if entryOkB a[i].f1.f0 a[i].f1.f1 a[i].f1.f2 a[i].f1.f3 a[i].f1.f4 = true then ((spec_FloorOf.f k a b a[i].f0).bind fun t => if a[i].f1.f0 ≤ t then some false else spec_StateOk.l0 k ((i : Int) + 1) a b) else some false)
    ((entryOkB a[i].f1.f0 a[i].f1.f1 a[i].f1.f2 a[i].f1.f3 a[i].f1.f4 && (!(decide (a[i].f1.f0 ≤ floOf b a[i].f0)) && okI b (some a[i].f0) (a.drop (i + 1)))) && okF none b) := by
   by_cases c1 : entryOkB a[i].f1.f0 a[i].f1.f1 a[i].f1.f2 a[i].f1.f3 a[i].f1.f4 = true
   ·simp only [if_pos c1]
    simp only [c1, Bool.true_and]
    refine Ev.bind (spec_FloorOf_ev b a a[i].f0 hb) ?_
    by_cases c2 : a[i].f1.f0 ≤ floOf b a[i].f0
    ·simp only [if_pos c2, decide_eq_true c2, Bool.not_true, Bool.false_and]; exact evSome _
    ·simp only [if_neg c2, decide_eq_false c2, Bool.not_false, Bool.true_and]; exact hx
   ·simp only [if_neg c1]; simp only [Bool.not_eq_true] at c1; simp only [c1, Bool.false_and]; exact evSome _
  by_cases c1 : nodeB a[i].f0 = true
  ·simp only [if_pos c1]
   simp only [c1, Bool.true_and]
   cases i with
   | zero =>
    simp only [if_neg (show ¬ ((0 : Nat) : Int) > 0 by omega), prevI, Bool.not_false, Bool.true_and]
    exact tail
   | succ j =>
    have hj : j < a.length := by omega
    have e1 : (((j + 1 : Nat) : Int)) - 1 = (j : Int) := by omega
    simp only [if_pos (show ((j + 1 : Nat) : Int) > 0 by omega), e1, w64 (show (-9223372036854775808 : Int) ≤ (j : Int) by omega) (by omega), if_pos (show (0 : Int) ≤ (j : Int) by omega), if_pos (show (j : Int) < (a.length : Int) by omega), rdI hj]
    have hp2 : prevI a (j + 1) = some a[j].f0 := by simp [prevI, hj]
    simp only [hp2]
    by_cases c2 : a[j + 1].f0 ≤ a[j].f0
    ·simp only [if_pos c2, decide_eq_true c2, Bool.not_true, Bool.false_and]; exact evSome _
    ·simp only [if_neg c2, decide_eq_false c2, Bool.not_false, Bool.true_and]
     exact tail
  ·simp only [if_neg c1]; simp only [Bool.not_eq_true] at c1; simp only [c1, Bool.false_and]; exact evSome _
theorem spec_StateOk_ev (a : List S68) (b : List S72) (ha : a.length ≤ 2097152) (hb : b.length ≤ 2097152) : Ev (fun k => spec_StateOk.f k a b) (okS a b) := by
 have := spec_Ok_l0 a b ha hb a.length 0 (by omega)
 simpa [spec_StateOk.f, okS, prevI] using this
theorem impl_Ok_l1 (a : List S68) (b : List S72) (ha : a.length ≤ 2097152) (hb : b.length ≤ 2097152) : ∀ (m i : Nat), i + m = a.length → Ev (fun k => impl_StateOk.l1 k a (a.length : Int) (i : Int) a b) (okI b (prevI a i) (a.drop i)) := by
 intro m
 induction m with
 | zero =>
  intro i h
  rw [List.drop_eq_nil_of_le (by omega)]
  exact evRet fun k => by simp only [impl_StateOk.l1]; rw [if_neg (by omega)]; simp only [okI]
 | succ m ih =>
  intro i h
  have hi : i < a.length := by omega
  have hx := ih (i + 1) (by omega)
  rw [List.drop_eq_getElem_cons hi]
  simp only [okI]
  refine evSucc ?_
  simp only [impl_StateOk.l1, rdI hi, impl_isNode_eq, impl_EntryOk_eq, Option.bind_some]
  simp only [if_pos (show (i : Int) < (a.length : Int) by omega), if_pos (show (0 : Int) ≤ (i : Int) by omega), w64 (show (-9223372036854775808 : Int) ≤ (i : Int) + 1 by omega) (by omega)]
  have hp : prevI a (i + 1) = some a[i].f0 := by simp [prevI, hi]
  rw [hp] at hx
  by_cases c1 : nodeB a[i].f0 = true
  ·simp only [if_pos c1]
   simp only [c1, Bool.true_and]
   by_cases c2 : entryOkB a[i].f1.f0 a[i].f1.f1 a[i].f1.f2 a[i].f1.f3 a[i].f1.f4 = true
   ·simp only [if_pos c2]
    simp only [c2, Bool.true_and]
    refine Ev.bind (impl_FloorOf_ev b a a[i].f0 hb) ?_
    by_cases c3 : a[i].f1.f0 ≤ floOf b a[i].f0
    ·simp only [if_pos c3, decide_eq_true c3, Bool.not_true, Bool.false_and, Bool.and_false]; exact evSome _
    ·simp only [if_neg c3, decide_eq_false c3, Bool.not_false, Bool.true_and]
     cases i with
     | zero =>
      simp only [if_neg (show ¬ ((0 : Nat) : Int) > 0 by omega), prevI, Bool.not_false, Bool.true_and]
      exact hx
     | succ j =>
      have hj : j < a.length := by omega
      have e1 : (((j + 1 : Nat) : Int)) - 1 = (j : Int) := by omega
      simp only [if_pos (show ((j + 1 : Nat) : Int) > 0 by omega), e1, w64 (show (-9223372036854775808 : Int) ≤ (j : Int) by omega) (by omega), if_pos (show (0 : Int) ≤ (j : Int) by omega), if_pos (show (j : Int) < (a.length : Int) by omega), rdI hj]
      have hp2 : prevI a (j + 1) = some a[j].f0 := by simp [prevI, hj]
      simp only [hp2]
      by_cases c4 : a[j + 1].f0 ≤ a[j].f0
      ·simp only [if_pos (show a[j].f0 ≥ a[j + 1].f0 from c4), decide_eq_true c4, Bool.not_true, Bool.false_and]; exact evSome _
      ·simp only [if_neg (show ¬ a[j].f0 ≥ a[j + 1].f0 from c4), decide_eq_false c4, Bool.not_false, Bool.true_and]
       exact hx
   ·simp only [if_neg c2]; simp only [Bool.not_eq_true] at c2; simp only [c2, Bool.false_and, Bool.and_false]; exact evSome _
  ·simp only [if_neg c1]; simp only [Bool.not_eq_true] at c1; simp only [c1, Bool.false_and]; exact evSome _
theorem impl_Ok_l0 (a : List S68) (b : List S72) (ha : a.length ≤ 2097152) (hb : b.length ≤ 2097152) : ∀ (m i : Nat), i + m = b.length → Ev (fun k => impl_StateOk.l0 k b (b.length : Int) (i : Int) a b) (okF (prevF b i) (b.drop i) && okI b none a) := by
 intro m
 induction m with
 | zero =>
  intro i h
  rw [List.drop_eq_nil_of_le (by omega)]
  refine evSucc ?_
  simp only [impl_StateOk.l0]
  simp only [if_neg (show ¬ (i : Int) < (b.length : Int) by omega)]
  simpa [okF, prevI] using impl_Ok_l1 a b ha hb a.length 0 (by omega)
 | succ m ih =>
  intro i h
  have hi : i < b.length := by omega
  have hx := ih (i + 1) (by omega)
  rw [List.drop_eq_getElem_cons hi]
  simp only [okF]
  refine evSucc ?_
  simp only [impl_StateOk.l0, rdF hi, impl_isNode_eq, impl_within_eq, Option.bind_some]
  simp only [if_pos (show (i : Int) < (b.length : Int) by omega), if_pos (show (0 : Int) ≤ (i : Int) by omega), w64 (show (-9223372036854775808 : Int) ≤ (i : Int) + 1 by omega) (by omega)]
  have hp : prevF b (i + 1) = some b[i].f0 := by simp [prevF, hi]
  rw [hp] at hx
  by_cases c1 : nodeB b[i].f0 = true
  ·simp only [if_pos c1]
   simp only [c1, Bool.true_and]
   by_cases c3 : decide (1 ≤ b[i].f1 ∧ b[i].f1 ≤ 1000) = true
   ·simp only [if_pos c3]; simp only [c3, Bool.true_and]
    cases i with
    | zero =>
     simp only [if_neg (show ¬ ((0 : Nat) : Int) > 0 by omega), prevF, Bool.not_false, Bool.true_and]
     exact hx
    | succ j =>
     have hj : j < b.length := by omega
     have e1 : (((j + 1 : Nat) : Int)) - 1 = (j : Int) := by omega
     simp only [if_pos (show ((j + 1 : Nat) : Int) > 0 by omega), e1, w64 (show (-9223372036854775808 : Int) ≤ (j : Int) by omega) (by omega), if_pos (show (0 : Int) ≤ (j : Int) by omega), if_pos (show (j : Int) < (b.length : Int) by omega), rdF hj]
     have hp2 : prevF b (j + 1) = some b[j].f0 := by simp [prevF, hj]
     simp only [hp2]
     by_cases c2 : b[j + 1].f0 ≤ b[j].f0
     ·simp only [if_pos (show b[j].f0 ≥ b[j + 1].f0 from c2), decide_eq_true c2, Bool.not_true, Bool.false_and]; exact evSome _
     ·simp only [if_neg (show ¬ b[j].f0 ≥ b[j + 1].f0 from c2), decide_eq_false c2, Bool.not_false, Bool.true_and]
      exact hx
   ·simp only [if_neg c3]; simp only [Bool.not_eq_true] at c3; simp only [c3, Bool.false_and, Bool.and_false]; exact evSome _
  ·simp only [if_neg c1]; simp only [Bool.not_eq_true] at c1; simp only [c1, Bool.false_and]; exact evSome _
theorem impl_StateOk_ev (a : List S68) (b : List S72) (ha : a.length ≤ 2097152) (hb : b.length ≤ 2097152) : Ev (fun k => impl_StateOk.f k a b) (okS a b) := by
 have := impl_Ok_l0 a b ha hb b.length 0 (by omega)
 rw [Bool.and_comm] at this
 simpa [impl_StateOk.f, okS, prevF] using this
theorem markText_l : ∀ (d : Nat) (n : Int) (acc : ByteArray), n ≤ (d : Int) → acc.size + d ≤ 9223372036854775806 → ∃ t, Ev (fun k => laws_markText.l0 k n acc) t := by
 intro d
 induction d with
 | zero =>
  intro n acc hn hs
  refine ⟨(⟨#[109]⟩ : ByteArray) ++ acc, evRet fun k => ?_⟩
  simp only [laws_markText.l0]; rw [if_neg (by omega), if_pos (by omega)]
 | succ d ih =>
  intro n acc hn hs
  by_cases h : n > 0
  ·have hd : Int.tdiv n 10 = n / 10 := tdiv_pos (by omega)
   obtain ⟨t, ht⟩ := ih (n / 10) ((strOfNums [(wrap64 (48 + (Int.tmod n 10))) % 256]) ++ acc) (by omega) (by
    rw [ByteArray.size_append]
    have : (strOfNums [(wrap64 (48 + (Int.tmod n 10))) % 256]).size = 1 := by simp [strOfNums, ByteArray.size]
    omega)
   refine ⟨t, evStep ht fun k => ?_⟩
   have : (strOfNums [(wrap64 (48 + (Int.tmod n 10))) % 256]).size = 1 := by simp [strOfNums, ByteArray.size]
   simp only [laws_markText.l0, Option.bind_some]
   rw [if_pos h, if_pos (by omega), hd, w64 (n := n / 10) (by omega) (by omega)]
  ·refine ⟨(⟨#[109]⟩ : ByteArray) ++ acc, evRet fun k => ?_⟩
   simp only [laws_markText.l0]; rw [if_neg h, if_pos (by omega)]
theorem markText_ex (n : Int) (h : n ≤ 1099511627776) : ∃ t, Ev (fun k => laws_markText.f k n) t := by
 by_cases h0 : n ≤ 0
 ·exact ⟨_, evEq (evSome _) fun k => by simp only [laws_markText.f]; rw [if_pos h0]⟩
 ·obtain ⟨t, ht⟩ := markText_l 1099511627776 n (⟨#[]⟩ : ByteArray) (by omega) (by simp [ByteArray.size])
  exact ⟨t, evEq ht fun k => by simp only [laws_markText.f]; rw [if_neg h0]⟩
open Classical in
noncomputable def markT (n : Int) : ByteArray := if h : ∃ t, Ev (fun k => laws_markText.f k n) t then Classical.choose h else ⟨#[]⟩
theorem markT_ev (n : Int) (h : n ≤ 1099511627776) : Ev (fun k => laws_markText.f k n) (markT n) := by
 have := markText_ex n h
 unfold markT
 rw [dif_pos this]
 exact Classical.choose_spec this
noncomputable def markIt (m : Int) : S68 := ⟨m, ⟨m + 1, m + 2, m + 3, m + 4, markT (m + 5)⟩⟩
noncomputable def markIs : Nat → Int → List S68
 | 0, _ => []
 | n + 1, m => markIt m :: markIs n (m + 6)
def markFs : Nat → Int → List S72
 | 0, _ => []
 | n + 1, m => ⟨m, m + 1⟩ :: markFs n (m + 2)
theorem setI_take {α : Type} {l : List α} {i : Nat} {v : α} (h : i < l.length) : (l.set i v).take (i + 1) = l.take i ++ [v] := by
 rw [List.take_succ_eq_append_getElem (by simpa using h), List.take_set_of_le (Nat.le_refl i), List.getElem_set_self]
theorem markItemS_l : ∀ (d i : Nat) (l : List S68) (m : Int), i + d = l.length → l.length ≤ 2097152 → 0 ≤ m → m + 6 * (d : Int) ≤ 1099511627776 →
  Ev (fun k => laws_markItemS.l0 k l m (i : Int)) (m + 6 * (d : Int), l.take i ++ markIs d m) := by
 intro d
 induction d with
 | zero =>
  intro i l m h _ _ _
  refine evRet fun k => ?_
  simp only [laws_markItemS.l0]; rw [if_neg (by omega), List.take_of_length_le (by omega)]; simp [markIs]
 | succ d ih =>
  intro i l m h hl h0 h1
  have hi : i < l.length := by omega
  have hx := ih (i + 1) (l.set i (markIt m)) (m + 6) (by simp; omega) (by simpa using hl) (by omega) (by omega)
  rw [setI_take hi, List.append_assoc, List.singleton_append, show m + 6 + 6 * (d : Int) = m + 6 * ((d + 1 : Nat) : Int) by omega] at hx
  refine evSucc ?_
  simp only [laws_markItemS.l0, Option.bind_some, rdI hi]
  simp only [if_pos (show (i : Int) < (l.length : Int) by omega), if_pos (show (0 : Int) ≤ (i : Int) by omega), w64 (show (-9223372036854775808 : Int) ≤ (i : Int) + 1 by omega) (by omega)]
  simp only [Int.toNat_natCast]
  have hr : ∀ v : S68, rd_T68 (l.set i v) (i : Int) = v := fun v => by
   rw [rdI (by simpa using hi), List.getElem_set_self]
  simp only [hr, List.set_set]
  simp only [w64 (n := m + 1) (by omega) (by omega), w64 (n := m + 1 + 1) (by omega) (by omega), w64 (n := m + 1 + 1 + 1) (by omega) (by omega), w64 (n := m + 1 + 1 + 1 + 1) (by omega) (by omega), w64 (n := m + 1 + 1 + 1 + 1 + 1) (by omega) (by omega), w64 (n := m + 1 + 1 + 1 + 1 + 1 + 1) (by omega) (by omega)]
  have e1 : m + 1 + 1 = m + 2 := by omega
  have e2 : m + 2 + 1 = m + 3 := by omega
  have e3 : m + 3 + 1 = m + 4 := by omega
  have e4 : m + 4 + 1 = m + 5 := by omega
  have e5 : m + 5 + 1 = m + 6 := by omega
  simp only [e1, e2, e3, e4, e5]
  refine Ev.bind (markT_ev (m + 5) (by omega)) ?_
  exact hx
theorem markItemS_ev (l : List S68) (m : Int) (hl : l.length ≤ 2097152) (h0 : 0 ≤ m) (h1 : m ≤ 1000000000) : Ev (fun k => laws_markItemS.f k l m) (m + 6 * (l.length : Int), markIs l.length m) := by
 have := markItemS_l l.length 0 l m (by omega) hl h0 (by omega)
 simpa [laws_markItemS.f] using this
theorem markFloorS_l : ∀ (d i : Nat) (l : List S72) (m : Int), i + d = l.length → l.length ≤ 2097152 → 0 ≤ m → m + 2 * (d : Int) ≤ 1099511627776 →
  Ev (fun k => laws_markFloorS.l0 k l m (i : Int)) (m + 2 * (d : Int), l.take i ++ markFs d m) := by
 intro d
 induction d with
 | zero =>
  intro i l m h _ _ _
  refine evRet fun k => ?_
  simp only [laws_markFloorS.l0]; rw [if_neg (by omega), List.take_of_length_le (by omega)]; simp [markFs]
 | succ d ih =>
  intro i l m h hl h0 h1
  have hi : i < l.length := by omega
  have hx := ih (i + 1) (l.set i ⟨m, m + 1⟩) (m + 2) (by simp; omega) (by simpa using hl) (by omega) (by omega)
  rw [setI_take hi, List.append_assoc, List.singleton_append, show m + 2 + 2 * (d : Int) = m + 2 * ((d + 1 : Nat) : Int) by omega] at hx
  refine evSucc ?_
  simp only [laws_markFloorS.l0, Option.bind_some, rdF hi]
  simp only [if_pos (show (i : Int) < (l.length : Int) by omega), if_pos (show (0 : Int) ≤ (i : Int) by omega), w64 (show (-9223372036854775808 : Int) ≤ (i : Int) + 1 by omega) (by omega)]
  simp only [Int.toNat_natCast]
  have hr : ∀ v : S72, rd_T72 (l.set i v) (i : Int) = v := fun v => by
   rw [rdF (by simpa using hi), List.getElem_set_self]
  simp only [hr, List.set_set]
  simp only [w64 (n := m + 1) (by omega) (by omega), w64 (n := m + 1 + 1) (by omega) (by omega)]
  have e1 : m + 1 + 1 = m + 2 := by omega
  simp only [e1]
  exact hx
theorem markFloorS_ev (l : List S72) (m : Int) (hl : l.length ≤ 2097152) (h0 : 0 ≤ m) (h1 : m ≤ 1000000000) : Ev (fun k => laws_markFloorS.f k l m) (m + 2 * (l.length : Int), markFs l.length m) := by
 have := markFloorS_l l.length 0 l m (by omega) hl h0 (by omega)
 simpa [laws_markFloorS.f] using this
theorem markState_ev (l : List S68) (fl : List S72) (m : Int) (hl : l.length ≤ 2097152) (hf : fl.length ≤ 2097152) (h0 : 0 ≤ m) (h1 : m ≤ 100000000) :
  Ev (fun k => laws_markState.f k l fl m) (m + 6 * (l.length : Int) + 2 * (fl.length : Int), markIs l.length m, markFs fl.length (m + 6 * (l.length : Int))) := by
 simp only [laws_markState.f]
 refine Ev.bind (markItemS_ev l m hl h0 (by omega)) ?_
 refine Ev.bind (markFloorS_ev fl _ hf (by show 0 ≤ m + _; omega) (by show m + _ ≤ _; omega)) ?_
 exact evSome _
theorem eqIntS_l (x : List Int) (hx : x.length ≤ 1099511627776) : ∀ (d i : Nat), i + d = x.length →
  Ev (fun k => laws_eqIntS.l0 k x x (i : Int)) true := by
 intro d
 induction d with
 | zero => 
  intro i h
  refine evRet fun k => ?_
  simp only [laws_eqIntS.l0]; rw [if_neg (by omega)]
 | succ d ih =>
  intro i h
  refine evStep (ih (i + 1) (by omega)) fun k => ?_
  simp only [laws_eqIntS.l0]
  rw [if_pos (by omega), if_pos (by omega), if_pos (by omega), if_pos trivial, w64 (by omega) (by omega)]
  rfl
theorem eqIntS_ev (x : List Int) (hx : x.length ≤ 1099511627776) : Ev (fun k => laws_eqIntS.f k x x) true := by
 refine evEq (eqIntS_l x hx x.length 0 (by omega)) fun k => ?_
 simp only [laws_eqIntS.f]
 rw [if_pos trivial]
 rfl
def markI (n : Nat) (m : Int) : List Int := (List.range n).map fun (j : Nat) => (m + (j : Int))
theorem markI_get {n : Nat} {m : Int} {i : Nat} (h : i < (markI n m).length) : (markI n m)[i] = (m + (i : Int)) := by
 simp only [markI, List.getElem_map, List.getElem_range]
theorem markI_len (n : Nat) (m : Int) : (markI n m).length = n := by unfold markI; simp
theorem markIntS_l (m : Int) (hm0 : 0 ≤ m) (hm1 : m ≤ 1099511627776) : ∀ (d i : Nat) (x : List Int), x.length ≤ 1099511627776 → i + d = x.length → (∀ j (h : j < x.length), j < i → x[j] = (m + (j : Int))) →
  Ev (fun k => laws_markIntS.l0 k x (m + (i : Int)) (i : Int)) (m + (x.length : Int), markI x.length m) := by
 intro d
 induction d with
 | zero =>
  intro i x hx h hj
  have e : markI x.length m = x := by
   apply List.ext_getElem (markI_len _ _)
   intro j h1 h2
   rw [markI_get, hj j h2 (by omega)]
  rw [e]
  refine evRet fun k => ?_
  simp only [laws_markIntS.l0]; rw [if_neg (by omega), show (i : Int) = x.length by omega]
 | succ d ih =>
  intro i x hx h hj
  have hi : i < x.length := by omega
  have h1 := ih (i + 1) (x.set i ((m + (i : Int)))) (by simpa using hx) (by simp; omega) (by
   intro j h1 h2
   simp only [List.length_set] at h1
   rw [List.getElem_set]
   split
   ·rename_i e; rw [e]
   ·exact hj j h1 (by omega))
  rw [List.length_set] at h1
  refine evStep h1 fun k => ?_
  simp only [laws_markIntS.l0]
  rw [if_pos (by omega), if_pos (by omega), w64 (n := m + (i : Int) + 1) (by omega) (by omega), w64 (n := (i : Int) + 1) (by omega) (by omega), show m + (i : Int) + 1 = m + ((i + 1 : Nat) : Int) by omega]
  rfl
theorem markIntS_ev (x : List Int) (hx : x.length ≤ 1099511627776) (m : Int) (hm0 : 0 ≤ m) (hm1 : m ≤ 1099511627776) : Ev (fun k => laws_markIntS.f k x m) (m + (x.length : Int), markI x.length m) := by
 have := markIntS_l m hm0 hm1 x.length 0 x hx (by omega) (fun j _ h => absurd h (by omega))
 exact evEq this fun k => by simp only [laws_markIntS.f]; simp
theorem heldIntS_l (m : Int) (hm0 : 0 ≤ m) (hm1 : m ≤ 1099511627776) (n : Nat) (hn : n ≤ 1099511627776) : ∀ (d i : Nat), i + d = n →
  Ev (fun k => laws_heldIntS.l0 k (markI n m) (m + (i : Int)) (i : Int)) (m + (n : Int)) := by
 intro d
 induction d with
 | zero =>
  intro i h
  refine evRet fun k => ?_
  simp only [laws_heldIntS.l0]; rw [if_neg (by rw [markI_len]; omega), show (i : Int) = n by omega]
 | succ d ih =>
  intro i h
  have hi : i < (markI n m).length := by rw [markI_len]; omega
  refine evStep (ih (i + 1) (by omega)) fun k => ?_
  simp only [laws_heldIntS.l0]
  rw [if_pos (by omega), if_pos (by omega), if_pos (by rw [rd_nat hi, markI_get]), w64 (n := m + (i : Int) + 1) (by omega) (by omega), w64 (n := (i : Int) + 1) (by omega) (by omega), show m + (i : Int) + 1 = m + ((i + 1 : Nat) : Int) by omega]
  rfl
theorem heldIntS_ev (n : Nat) (hn : n ≤ 1099511627776) (m : Int) (hm0 : 0 ≤ m) (hm1 : m ≤ 1099511627776) : Ev (fun k => laws_heldIntS.f k (markI n m) m) (m + (n : Int)) := by
 have := heldIntS_l m hm0 hm1 n hn n 0 (by omega)
 exact evEq this fun k => by simp only [laws_heldIntS.f]; simp
def putN (n : Nat) : List Int := if h : n < 128 then [(n : Int)] else ((n % 128 + 128 : Nat) : Int) :: putN (n / 128)
termination_by n
decreasing_by omega
def putNum (a : Int) : List Int := if 0 ≤ a ∧ a ≤ 2147483647 then putN a.toNat else []
theorem spec_PutNum_l0 : ∀ (n : Nat) (acc : List Int), acc.length + n < 140737488355328 → Ev (fun k => spec_PutNum.l0 k (n : Int) acc) (acc ++ putN n) := by
 intro n
 induction n using Nat.strongRecOn with
 | ind n ih =>
  intro acc h
  rw [putN]
  by_cases hn : n < 128
  ·rw [dif_pos hn]
   refine evRet fun k => ?_
   simp only [spec_PutNum.l0]
   rw [if_neg (by omega), if_pos (by omega), show (n : Int) % 256 = n by omega]
  ·rw [dif_neg hn]
   have h1 := ih (n / 128) (by omega) (acc ++ [((n % 128 + 128 : Nat) : Int)]) (by simp only [List.length_append, List.length_singleton]; omega)
   rw [List.append_assoc, List.singleton_append] at h1
   refine evStep h1 fun k => ?_
   simp only [spec_PutNum.l0]
   rw [if_pos (by omega), if_pos (by omega), tdiv_pos (by omega), tmod_pos (by omega), w64 (n := (n : Int) / 128) (by omega) (by omega), w64 (n := (n : Int) % 128 + 128) (by omega) (by omega),
    show ((n : Int) % 128 + 128) % 256 = ((n % 128 + 128 : Nat) : Int) by omega]
   rfl
theorem impl_PutNum_l0 : ∀ (n : Nat) (acc : List Int), acc.length + n < 140737488355328 → Ev (fun k => impl_PutNum.l0 k (n : Int) acc) (acc ++ putN n) := by
 intro n
 induction n using Nat.strongRecOn with
 | ind n ih =>
  intro acc h
  rw [putN]
  by_cases hn : n < 128
  ·rw [dif_pos hn]
   refine evRet fun k => ?_
   simp only [impl_PutNum.l0]
   rw [if_neg (by omega), if_pos (by omega), show (n : Int) % 256 = n by omega]
  ·rw [dif_neg hn]
   have h1 := ih (n / 128) (by omega) (acc ++ [((n % 128 + 128 : Nat) : Int)]) (by simp only [List.length_append, List.length_singleton]; omega)
   rw [List.append_assoc, List.singleton_append] at h1
   refine evStep h1 fun k => ?_
   simp only [impl_PutNum.l0]
   rw [if_pos (by omega), if_pos (by omega), tdiv_pos (by omega), tmod_pos (by omega), w64 (n := (n : Int) / 128) (by omega) (by omega), w64 (n := (n : Int) % 128 + 128) (by omega) (by omega),
    show ((n : Int) % 128 + 128) % 256 = ((n % 128 + 128 : Nat) : Int) by omega]
   rfl
theorem spec_PutNum_ev (a : Int) : Ev (fun k => spec_PutNum.f k a) (putNum a) := by
 unfold putNum
 simp only [spec_PutNum.f, spec_l1In.f, Option.bind_some]
 by_cases h : 0 ≤ a ∧ a ≤ 2147483647
 ·have := spec_PutNum_l0 a.toNat [] (by simp only [List.length_nil]; omega)
  simp only [Int.toNat_of_nonneg h.1, List.nil_append] at this
  rw [if_pos h]
  simp only [if_pos (show a ≥ 0 from h.1), decide_eq_true h.2, Option.bind_some, if_true]
  exact this
 ·rw [if_neg h]
  by_cases h0 : a ≥ 0
  ·simp only [if_pos h0, decide_eq_false (show ¬ a ≤ 2147483647 from fun h1 => h ⟨h0, h1⟩), Option.bind_some]; exact evSome _
  ·simp only [if_neg h0, Option.bind_some]; exact evSome _
theorem impl_PutNum_ev (a : Int) : Ev (fun k => impl_PutNum.f k a) (putNum a) := by
 unfold putNum
 simp only [impl_PutNum.f, impl_within.f, Option.bind_some]
 by_cases h : 0 ≤ a ∧ a ≤ 2147483647
 ·have := impl_PutNum_l0 a.toNat [] (by simp only [List.length_nil]; omega)
  simp only [Int.toNat_of_nonneg h.1, List.nil_append] at this
  rw [if_pos h]
  simp only [if_pos (show a ≥ 0 from h.1), decide_eq_true h.2, Option.bind_some, if_true]
  exact this
 ·rw [if_neg h]
  by_cases h0 : a ≥ 0
  ·simp only [if_pos h0, decide_eq_false (show ¬ a ≤ 2147483647 from fun h1 => h ⟨h0, h1⟩), Option.bind_some]; exact evSome _
  ·simp only [if_neg h0, Option.bind_some]; exact evSome _
theorem putN_len : ∀ (n : Nat), (putN n).length ≤ n + 1 := by
 intro n
 induction n using Nat.strongRecOn with
 | ind n ih =>
  rw [putN]
  by_cases hn : n < 128
  ·rw [dif_pos hn]; simp
  ·rw [dif_neg hn]; have := ih (n / 128) (by omega); simp only [List.length_cons]; omega
theorem putNum_len (a : Int) : (putNum a).length ≤ 2147483648 := by
 unfold putNum
 split
 ·have := putN_len a.toNat; omega
 ·simp
def crcBit (x : Int) : Int := if Int.tmod x 2 = 1 then Go.bits .xor .i64 (wrap64 (Int.tdiv x 2)) 3988292384 else wrap64 (Int.tdiv x 2)
def crcBits : Nat → Int → Int
 | 0, x => x
 | n + 1, x => crcBits n (crcBit x)
def crcStep (x b : Int) : Int := crcBits 8 (Go.bits .xor .i64 x (wrap64 b))
def crc (l : List Int) : Int := Go.bits .xor .i64 (l.foldl crcStep 4294967295) 4294967295
theorem spec_Crc_l1 (x : List Int) (j r : Int) : ∀ (d i : Nat) (s : Int), i + d = 8 → Ev (fun k => spec_Crc.l0 k x (crcBits d s) (wrap64 (j + 1))) r →
  Ev (fun k => spec_Crc.l1 k x s j (i : Int)) r := by
 intro d
 induction d with
 | zero => intro i s h hr; exact evStep hr fun k => by simp only [spec_Crc.l1]; rw [if_neg (by omega)]; rfl
 | succ d ih =>
  intro i s h hr
  refine evStep (ih (i + 1) (crcBit s) (by omega) hr) fun k => ?_
  simp only [spec_Crc.l1]
  rw [if_pos (by omega), w64 (n := (i : Int) + 1) (by omega) (by omega)]
  unfold crcBit
  split <;> rfl
theorem spec_Crc_l0 (x : List Int) (hx : x.length ≤ 1099511627776) : ∀ (d i : Nat) (s : Int), i + d = x.length → 
  Ev (fun k => spec_Crc.l0 k x s (i : Int)) (Go.bits .xor .i64 ((x.drop i).foldl crcStep s) 4294967295) := by
 intro d
 induction d with
 | zero => 
  intro i s h
  rw [List.drop_eq_nil_of_le (by omega)]
  exact evRet fun k => by simp only [spec_Crc.l0]; rw [if_neg (by omega)]; rfl
 | succ d ih =>
  intro i s h
  have hi : i < x.length := by omega
  have h1 := ih (i + 1) (crcStep s x[i]) (by omega)
  rw [List.drop_eq_getElem_cons hi, List.foldl_cons]
  have h2 := spec_Crc_l1 x (i : Int) _ 8 0 (Go.bits .xor .i64 s (wrap64 x[i])) (by omega) (by rw [w64 (n := (i : Int) + 1) (by omega) (by omega)]; exact h1)
  refine evStep h2 fun k => ?_
  simp only [spec_Crc.l0]
  rw [if_pos (by omega), if_pos (by omega), rd_nat hi]
  rfl
theorem spec_Crc_ev (x : List Int) (hx : x.length ≤ 1099511627776) : Ev (fun k => spec_Crc.f k x) (crc x) := by
 have := spec_Crc_l0 x hx x.length 0 4294967295 (by omega)
 rw [List.drop_zero] at this
 exact evEq this fun k => rfl
theorem impl_Crc_l1 (x : List Int) (n j r : Int) : ∀ (d i : Nat) (s : Int), i + d = 8 → Ev (fun k => impl_Crc.l0 k (crcBits d s) x n (wrap64 (j + 1))) r →
  Ev (fun k => impl_Crc.l1 k s x n j (i : Int)) r := by
 intro d
 induction d with
 | zero => intro i s h hr; exact evStep hr fun k => by simp only [impl_Crc.l1]; rw [if_neg (by omega)]; rfl
 | succ d ih =>
  intro i s h hr
  refine evStep (ih (i + 1) (crcBit s) (by omega) hr) fun k => ?_
  simp only [impl_Crc.l1]
  rw [if_pos (by omega), w64 (n := (i : Int) + 1) (by omega) (by omega)]
  unfold crcBit
  split <;> rfl
theorem impl_Crc_l0 (x : List Int) (hx : x.length ≤ 1099511627776) : ∀ (d i : Nat) (s : Int), i + d = x.length → 
  Ev (fun k => impl_Crc.l0 k s x (x.length : Int) (i : Int)) (Go.bits .xor .i64 ((x.drop i).foldl crcStep s) 4294967295) := by
 intro d
 induction d with
 | zero => 
  intro i s h
  rw [List.drop_eq_nil_of_le (by omega)]
  exact evRet fun k => by simp only [impl_Crc.l0]; rw [if_neg (by omega)]; rfl
 | succ d ih =>
  intro i s h
  have hi : i < x.length := by omega
  have h1 := ih (i + 1) (crcStep s x[i]) (by omega)
  rw [List.drop_eq_getElem_cons hi, List.foldl_cons]
  have h2 := impl_Crc_l1 x (x.length : Int) (i : Int) _ 8 0 (Go.bits .xor .i64 s (wrap64 x[i])) (by omega) (by rw [w64 (n := (i : Int) + 1) (by omega) (by omega)]; exact h1)
  refine evStep h2 fun k => ?_
  simp only [impl_Crc.l0]
  rw [if_pos (by omega), if_pos (by omega), if_pos (by omega), rd_nat hi]
  rfl
theorem impl_Crc_ev (x : List Int) (hx : x.length ≤ 1099511627776) : Ev (fun k => impl_Crc.f k x) (crc x) := by
 have := impl_Crc_l0 x hx x.length 0 4294967295 (by omega)
 rw [List.drop_zero] at this
 exact evEq this fun k => rfl
def leafOf (a : Int) : Int := if nodeB a = true then Int.tmod (crc (putNum a)) 4 else -1
theorem spec_LeafOf_ev (a : Int) : Ev (fun k => spec_LeafOf.f k a) (leafOf a) := by
 have hl := putNum_len a
 unfold leafOf
 simp only [spec_LeafOf.f, spec_l3Node_eq, Option.bind_some]
 by_cases h : nodeB a = true
 ·simp only [h, if_true]
  refine Ev.bind (spec_PutNum_ev a) ?_
  refine Ev.bind (spec_Crc_ev _ (by omega)) ?_
  exact evSome _
 ·simp only [h]; exact evSome _
theorem impl_LeafOf_ev (a : Int) : Ev (fun k => impl_LeafOf.f k a) (leafOf a) := by
 have hl := putNum_len a
 unfold leafOf
 simp only [impl_LeafOf.f, impl_isNode_eq, Option.bind_some]
 by_cases h : nodeB a = true
 ·simp only [h, if_true]
  refine Ev.bind (impl_PutNum_ev a) ?_
  refine Ev.bind (impl_Crc_ev _ (by omega)) ?_
  exact evSome _
 ·simp only [h]; exact evSome _
theorem spec_Has_l (l : List Int) (a : Int) (hl : l.length ≤ 1099511627776) : ∀ (d i : Nat), i + d = l.length → Ev (fun k => spec_l1Has.l0 k l a (i : Int)) ((l.drop i).contains a) := by
 intro d
 induction d with
 | zero =>
  intro i h
  rw [List.drop_eq_nil_of_le (by omega)]
  exact evRet fun k => by simp only [spec_l1Has.l0]; rw [if_neg (by omega)]; rfl
 | succ d ih =>
  intro i h
  have hi : i < l.length := by omega
  rw [List.drop_eq_getElem_cons hi, List.contains_cons]
  refine evSucc ?_
  simp only [spec_l1Has.l0, rd_nat hi]
  simp only [if_pos (show (i : Int) < (l.length : Int) by omega), if_pos (show (0 : Int) ≤ (i : Int) by omega), w64 (show (-9223372036854775808 : Int) ≤ (i : Int) + 1 by omega) (by omega)]
  by_cases e : l[i] = a
  ·simp only [if_pos e, e, beq_self_eq_true, Bool.true_or]; exact evSome _
  ·simp only [if_neg e, beq_eq_false_iff_ne.2 (Ne.symm e), Bool.false_or]; exact ih (i + 1) (by omega)
theorem spec_Has_ev (l : List Int) (a : Int) (hl : l.length ≤ 1099511627776) : Ev (fun k => spec_l1Has.f k l a) (l.contains a) := by
 have h := spec_Has_l l a hl l.length 0 (by omega)
 rw [List.drop_zero] at h
 exact h
theorem impl_Index_l (l : List Int) (a : Int) (hl : l.length ≤ 1099511627776) : ∀ (d i : Nat), i + d = l.length → ∃ r, Ev (fun k => slices_Index_int_int.l0 k l a (l.length : Int) (i : Int)) r ∧ decide (r ≥ 0) = (l.drop i).contains a := by
 intro d
 induction d with
 | zero =>
  intro i h
  refine ⟨-1, evRet fun k => by simp only [slices_Index_int_int.l0]; rw [if_neg (by omega)], ?_⟩
  rw [List.drop_eq_nil_of_le (by omega)]; rfl
 | succ d ih =>
  intro i h
  have hi : i < l.length := by omega
  rw [List.drop_eq_getElem_cons hi, List.contains_cons]
  by_cases e : a = l[i]
  ·refine ⟨(i : Int), ?_, ?_⟩
   ·refine evRet fun k => ?_
    simp only [slices_Index_int_int.l0, rd_nat hi]
    rw [if_pos (by omega), if_pos (by omega), if_pos (by omega), if_pos e]
   ·simp only [← e, beq_self_eq_true, Bool.true_or, decide_eq_true_eq]; omega
  ·obtain ⟨r, hr, h2⟩ := ih (i + 1) (by omega)
   refine ⟨r, ?_, ?_⟩
   ·refine evSucc ?_
    simp only [slices_Index_int_int.l0, rd_nat hi]
    simp only [if_pos (show (i : Int) < (l.length : Int) by omega), if_pos (show (0 : Int) ≤ (i : Int) by omega), w64 (show (-9223372036854775808 : Int) ≤ (i : Int) + 1 by omega) (by omega), if_neg e]
    exact hr
   ·simp only [beq_eq_false_iff_ne.2 e, Bool.false_or]; exact h2
theorem impl_Contains_ev (l : List Int) (a : Int) (hl : l.length ≤ 1099511627776) : Ev (fun k => slices_Contains_int_int.f k l a) (l.contains a) := by
 obtain ⟨r, hr, h2⟩ := impl_Index_l l a hl l.length 0 (by omega)
 simp only [slices_Contains_int_int.f]
 refine Ev.bind hr ?_
 rw [List.drop_zero] at h2
 rw [← h2]
 exact evSome _
def sliceI (m : List Int) (l : List S68) : List S68 := l.filter fun x => m.contains (leafOf x.f0)
def sliceF (m : List Int) (l : List S72) : List S72 := l.filter fun x => m.contains (leafOf x.f0)
def sliceR (l : List S68) (fl : List S72) (m : List Int) : List S68 × List S72 := if okS l fl = true then (sliceI m l, sliceF m fl) else ([], [])
theorem sliceI_pos {m : List Int} {x : S68} {l : List S68} (h : m.contains (leafOf x.f0) = true) : sliceI m (x :: l) = x :: sliceI m l := by unfold sliceI; rw [List.filter_cons_of_pos (by exact h)]
theorem sliceI_neg {m : List Int} {x : S68} {l : List S68} (h : ¬ m.contains (leafOf x.f0) = true) : sliceI m (x :: l) = sliceI m l := by unfold sliceI; rw [List.filter_cons_of_neg (by exact h)]
theorem sliceF_pos {m : List Int} {x : S72} {l : List S72} (h : m.contains (leafOf x.f0) = true) : sliceF m (x :: l) = x :: sliceF m l := by unfold sliceF; rw [List.filter_cons_of_pos (by exact h)]
theorem sliceF_neg {m : List Int} {x : S72} {l : List S72} (h : ¬ m.contains (leafOf x.f0) = true) : sliceF m (x :: l) = sliceF m l := by unfold sliceF; rw [List.filter_cons_of_neg (by exact h)]
theorem spec_Slice_l1 (l : List S68) (fl : List S72) (m : List Int) (hf : fl.length ≤ 2097152) (hm : m.length ≤ 1099511627776) (il : List S68) : ∀ (d i : Nat) (acc : List S72), i + d = fl.length → acc.length ≤ i →
  Ev (fun k => spec_l6Slice.l1 k m (i : Int) l fl il acc) (il, acc ++ sliceF m (fl.drop i)) := by
 intro d
 induction d with
 | zero =>
  intro i acc h _
  rw [List.drop_eq_nil_of_le (by omega)]
  exact evRet fun k => by simp only [spec_l6Slice.l1]; rw [if_neg (by omega)]; simp [sliceF]
 | succ d ih =>
  intro i acc h ha
  have hi : i < fl.length := by omega
  rw [List.drop_eq_getElem_cons hi]
  refine evSucc ?_
  simp only [spec_l6Slice.l1, rdF hi]
  simp only [if_pos (show (i : Int) < (fl.length : Int) by omega), if_pos (show (0 : Int) ≤ (i : Int) by omega), w64 (show (-9223372036854775808 : Int) ≤ (i : Int) + 1 by omega) (by omega), if_pos (show acc.length < 8796093022208 by omega)]
  refine Ev.bind (spec_LeafOf_ev _) ?_
  refine Ev.bind (spec_Has_ev m _ hm) ?_
  by_cases c : m.contains (leafOf fl[i].f0) = true
  ·simp only [if_pos c, sliceF_pos c]
   have := ih (i + 1) (acc ++ [fl[i]]) (by omega) (by simp; omega)
   rw [List.append_assoc, List.singleton_append] at this
   exact this
  ·simp only [if_neg c, sliceF_neg c]
   exact ih (i + 1) acc (by omega) (by omega)
theorem spec_Slice_l0 (l : List S68) (fl : List S72) (m : List Int) (hl : l.length ≤ 2097152) (hf : fl.length ≤ 2097152) (hm : m.length ≤ 1099511627776) : ∀ (d i : Nat) (acc : List S68), i + d = l.length → acc.length ≤ i →
  Ev (fun k => spec_l6Slice.l0 k m (i : Int) l fl acc) (acc ++ sliceI m (l.drop i), sliceF m fl) := by
 intro d
 induction d with
 | zero =>
  intro i acc h _
  rw [List.drop_eq_nil_of_le (by omega)]
  have e := spec_Slice_l1 l fl m hf hm acc fl.length 0 [] (by omega) (by simp)
  refine evSucc ?_
  simp only [spec_l6Slice.l0]
  simp only [if_neg (show ¬ (i : Int) < (l.length : Int) by omega)]
  simpa [sliceI] using e
 | succ d ih =>
  intro i acc h ha
  have hi : i < l.length := by omega
  rw [List.drop_eq_getElem_cons hi]
  refine evSucc ?_
  simp only [spec_l6Slice.l0, rdI hi]
  simp only [if_pos (show (i : Int) < (l.length : Int) by omega), if_pos (show (0 : Int) ≤ (i : Int) by omega), w64 (show (-9223372036854775808 : Int) ≤ (i : Int) + 1 by omega) (by omega), if_pos (show acc.length < 2513169434916 by omega)]
  refine Ev.bind (spec_LeafOf_ev _) ?_
  refine Ev.bind (spec_Has_ev m _ hm) ?_
  by_cases c : m.contains (leafOf l[i].f0) = true
  ·simp only [if_pos c, sliceI_pos c]
   have := ih (i + 1) (acc ++ [l[i]]) (by omega) (by simp; omega)
   rw [List.append_assoc, List.singleton_append] at this
   exact this
  ·simp only [if_neg c, sliceI_neg c]
   exact ih (i + 1) acc (by omega) (by omega)
theorem spec_l6Slice_ev (l : List S68) (fl : List S72) (m : List Int) (hl : l.length ≤ 2097152) (hf : fl.length ≤ 2097152) (hm : m.length ≤ 1099511627776) : Ev (fun k => spec_l6Slice.f k l fl m) (sliceI m l, sliceF m fl) := by
 have h := spec_Slice_l0 l fl m hl hf hm l.length 0 [] (by omega) (by simp)
 rw [List.drop_zero, List.nil_append] at h
 exact h
theorem impl_Slice_l1 (l : List S68) (fl : List S72) (m : List Int) (hf : fl.length ≤ 2097152) (hm : m.length ≤ 1099511627776) (il : List S68) : ∀ (d i : Nat) (acc : List S72), i + d = fl.length → acc.length ≤ i →
  Ev (fun k => impl_Slice.l1 k m fl (fl.length : Int) (i : Int) il acc) (il, acc ++ sliceF m (fl.drop i)) := by
 intro d
 induction d with
 | zero =>
  intro i acc h _
  rw [List.drop_eq_nil_of_le (by omega)]
  exact evRet fun k => by simp only [impl_Slice.l1]; rw [if_neg (by omega)]; simp [sliceF]
 | succ d ih =>
  intro i acc h ha
  have hi : i < fl.length := by omega
  rw [List.drop_eq_getElem_cons hi]
  refine evSucc ?_
  simp only [impl_Slice.l1, rdF hi]
  simp only [if_pos (show (i : Int) < (fl.length : Int) by omega), if_pos (show (0 : Int) ≤ (i : Int) by omega), w64 (show (-9223372036854775808 : Int) ≤ (i : Int) + 1 by omega) (by omega), if_pos (show acc.length < 8796093022208 by omega)]
  refine Ev.bind (impl_LeafOf_ev _) ?_
  refine Ev.bind (impl_Contains_ev m _ hm) ?_
  by_cases c : m.contains (leafOf fl[i].f0) = true
  ·simp only [if_pos c, sliceF_pos c]
   have := ih (i + 1) (acc ++ [fl[i]]) (by omega) (by simp; omega)
   rw [List.append_assoc, List.singleton_append] at this
   exact this
  ·simp only [if_neg c, sliceF_neg c]
   exact ih (i + 1) acc (by omega) (by omega)
theorem impl_Slice_l0 (l : List S68) (fl : List S72) (m : List Int) (hl : l.length ≤ 2097152) (hf : fl.length ≤ 2097152) (hm : m.length ≤ 1099511627776) : ∀ (d i : Nat) (acc : List S68), i + d = l.length → acc.length ≤ i →
  Ev (fun k => impl_Slice.l0 k m l (l.length : Int) (i : Int) l fl acc) (acc ++ sliceI m (l.drop i), sliceF m fl) := by
 intro d
 induction d with
 | zero =>
  intro i acc h _
  rw [List.drop_eq_nil_of_le (by omega)]
  have e := impl_Slice_l1 l fl m hf hm acc fl.length 0 [] (by omega) (by simp)
  refine evSucc ?_
  simp only [impl_Slice.l0]
  simp only [if_neg (show ¬ (i : Int) < (l.length : Int) by omega)]
  simpa [sliceI] using e
 | succ d ih =>
  intro i acc h ha
  have hi : i < l.length := by omega
  rw [List.drop_eq_getElem_cons hi]
  refine evSucc ?_
  simp only [impl_Slice.l0, rdI hi]
  simp only [if_pos (show (i : Int) < (l.length : Int) by omega), if_pos (show (0 : Int) ≤ (i : Int) by omega), w64 (show (-9223372036854775808 : Int) ≤ (i : Int) + 1 by omega) (by omega), if_pos (show acc.length < 2513169434916 by omega)]
  refine Ev.bind (impl_LeafOf_ev _) ?_
  refine Ev.bind (impl_Contains_ev m _ hm) ?_
  by_cases c : m.contains (leafOf l[i].f0) = true
  ·simp only [if_pos c, sliceI_pos c]
   have := ih (i + 1) (acc ++ [l[i]]) (by omega) (by simp; omega)
   rw [List.append_assoc, List.singleton_append] at this
   exact this
  ·simp only [if_neg c, sliceI_neg c]
   exact ih (i + 1) acc (by omega) (by omega)
theorem impl_Slice_ev (l : List S68) (fl : List S72) (m : List Int) (hl : l.length ≤ 2097152) (hf : fl.length ≤ 2097152) (hm : m.length ≤ 1099511627776) : Ev (fun k => impl_Slice.f k l fl m) (sliceR l fl m) := by
 simp only [impl_Slice.f, sliceR]
 refine Ev.bind (impl_StateOk_ev l fl hl hf) ?_
 by_cases h : okS l fl = true
 ·simp only [if_pos h]
  have h := impl_Slice_l0 l fl m hl hf hm l.length 0 [] (by omega) (by simp)
  rw [List.drop_zero, List.nil_append] at h
  exact h
 ·simp only [if_neg h]; exact evSome _
theorem bytesOf_len (s : ByteArray) : (bytesOf s).length = s.size := by unfold bytesOf; rw [List.length_map, Array.length_toList]; rfl
theorem rdLL {l : List (List Int)} {i : Nat} (h : i < l.length) : rd_L9 l (i : Int) = l[i] := by
 unfold rd_L9; simp [List.getD_eq_getElem?_getD, h]
theorem joined_l (l : List (List Int)) (hl : l.length ≤ 1099511627776) : ∀ (d i : Nat) (acc : List Int), i + d = l.length → acc.length + (l.drop i).flatten.length < 140737488355328 →
  Ev (fun k => impl_joined.l0 k acc l (l.length : Int) (i : Int)) (acc ++ (l.drop i).flatten) := by
 intro d
 induction d with
 | zero =>
  intro i acc h _
  rw [List.drop_eq_nil_of_le (by omega)]
  exact evRet fun k => by simp only [impl_joined.l0]; rw [if_neg (by omega)]; simp
 | succ d ih =>
  intro i acc h hb
  have hi : i < l.length := by omega
  rw [List.drop_eq_getElem_cons hi, List.flatten_cons] at hb ⊢
  rw [List.length_append] at hb
  have := ih (i + 1) (acc ++ l[i]) (by omega) (by rw [List.length_append]; omega)
  rw [List.append_assoc] at this
  refine evSucc ?_
  simp only [impl_joined.l0, rdLL hi]
  simp only [if_pos (show (i : Int) < (l.length : Int) by omega), if_pos (show (0 : Int) ≤ (i : Int) by omega), w64 (show (-9223372036854775808 : Int) ≤ (i : Int) + 1 by omega) (by omega), if_pos (show acc.length + l[i].length < 140737488355328 by omega)]
  exact this
theorem joined_ev (l : List (List Int)) (hl : l.length ≤ 1099511627776) (hb : l.flatten.length < 140737488355328) : Ev (fun k => impl_joined.f k l) l.flatten := by
 have h := joined_l l hl l.length 0 [] (by omega) (by rw [List.drop_zero]; simpa using hb)
 rw [List.drop_zero, List.nil_append] at h
 exact h
def putText (s : ByteArray) : List Int := putNum (s.size : Int) ++ bytesOf s
theorem spec_PutText_ev (s : ByteArray) (hs : s.size ≤ 1099511627776) : Ev (fun k => spec_PutText.f k s) (putText s) := by
 have := putNum_len (s.size : Int)
 simp only [spec_PutText.f]
 refine Ev.bind (spec_PutNum_ev _) ?_
 simp only [if_pos (show (putNum (s.size : Int)).length + s.size < 140737488355328 by omega)]
 exact evSome _
theorem impl_PutText_ev (s : ByteArray) (hs : s.size ≤ 1099511627776) : Ev (fun k => impl_PutText.f k s) (putText s) := by
 have h1 := putNum_len (s.size : Int)
 have h2 := bytesOf_len s
 simp only [impl_PutText.f]
 refine Ev.bind (impl_PutNum_ev _) ?_
 simp only [if_pos (show (putNum (s.size : Int)).length + s.size < 140737488355328 by omega)]
 have := joined_ev [putNum (s.size : Int), bytesOf s] (by simp) (by simp; omega)
 simpa [putText] using this
def itemB (x : S68) : List Int := putNum x.f0 ++ (putNum x.f1.f0 ++ (putNum x.f1.f1 ++ (putNum x.f1.f2 ++ (putNum x.f1.f3 ++ putText x.f1.f4))))
def floorB (x : S72) : List Int := putNum x.f0 ++ putNum x.f1
def itemsB : List S68 → List Int
 | [] => []
 | x :: l => itemB x ++ itemsB l
def floorsB : List S72 → List Int
 | [] => []
 | x :: l => floorB x ++ floorsB l
def stateB (a : List S68) (b : List S72) : List Int := putNum (a.length : Int) ++ (itemsB a ++ (putNum (b.length : Int) ++ floorsB b))
theorem itemB_len (x : S68) (h : x.f1.f4.size ≤ 8) : (itemB x).length ≤ 20000000000 := by
 have h0 := putNum_len x.f0
 have h1 := putNum_len x.f1.f0
 have h2 := putNum_len x.f1.f1
 have h3 := putNum_len x.f1.f2
 have h4 := putNum_len x.f1.f3
 have h5 := putNum_len (x.f1.f4.size : Int)
 have h6 := bytesOf_len x.f1.f4
 simp only [itemB, putText, List.length_append]
 omega
theorem floorB_len (x : S72) : (floorB x).length ≤ 5000000000 := by
 have h0 := putNum_len x.f0
 have h1 := putNum_len x.f1
 simp only [floorB, List.length_append]
 omega
theorem itemsB_len : ∀ (l : List S68), (∀ x ∈ l, x.f1.f4.size ≤ 8) → (itemsB l).length ≤ 20000000000 * l.length
 | [], _ => by simp [itemsB]
 | x :: l, h => by
  have h1 := itemB_len x (h x List.mem_cons_self)
  have h2 := itemsB_len l (fun y hy => h y (List.mem_cons_of_mem _ hy))
  simp only [itemsB, List.length_append, List.length_cons]
  omega
theorem floorsB_len : ∀ (l : List S72), (floorsB l).length ≤ 5000000000 * l.length
 | [] => by simp [floorsB]
 | x :: l => by
  have h1 := floorB_len x
  have h2 := floorsB_len l
  simp only [floorsB, List.length_append, List.length_cons]
  omega
theorem stateB_len (a : List S68) (b : List S72) (ha : a.length ≤ 5) (hb : b.length ≤ 5) (h : ∀ x ∈ a, x.f1.f4.size ≤ 8) : (stateB a b).length ≤ 200000000000 := by
 have h1 := putNum_len (a.length : Int)
 have h2 := putNum_len (b.length : Int)
 have h3 := itemsB_len a h
 have h4 := floorsB_len b
 simp only [stateB, List.length_append]
 omega
theorem spec_Bytes_l2 (a : List S68) (b : List S72) (hb : b.length ≤ 5) : ∀ (d i : Nat) (acc : List Int), i + d = b.length → acc.length ≤ 200000000000 + 5000000000 * i →
  Ev (fun k => spec_l6Bytes.l2 k acc (i : Int) a b) (acc ++ floorsB (b.drop i)) := by
 intro d
 induction d with
 | zero =>
  intro i acc h _
  rw [List.drop_eq_nil_of_le (by omega)]
  exact evRet fun k => by simp only [spec_l6Bytes.l2]; rw [if_neg (by omega)]; simp [floorsB]
 | succ d ih =>
  intro i acc h hacc
  have hi : i < b.length := by omega
  have h0 := putNum_len b[i].f0
  have h1 := putNum_len b[i].f1
  rw [List.drop_eq_getElem_cons hi]
  have := ih (i + 1) (acc ++ putNum b[i].f0 ++ putNum b[i].f1) (by omega) (by simp only [List.length_append]; omega)
  simp only [floorsB, floorB]
  simp only [List.append_assoc] at this ⊢
  refine evSucc ?_
  simp only [spec_l6Bytes.l2, rdF hi, Option.bind_some]
  simp only [if_pos (show (i : Int) < (b.length : Int) by omega), if_pos (show (0 : Int) ≤ (i : Int) by omega), w64 (show (-9223372036854775808 : Int) ≤ (i : Int) + 1 by omega) (by omega)]
  refine Ev.bind (spec_PutNum_ev _) ?_
  simp only [if_pos (show acc.length + (putNum b[i].f0).length < 140737488355328 by omega)]
  refine Ev.bind (spec_PutNum_ev _) ?_
  simp only [if_pos (show (acc ++ putNum b[i].f0).length + (putNum b[i].f1).length < 140737488355328 by simp only [List.length_append]; omega), List.append_assoc]
  exact this
def numsB : List Int → List Int
 | [] => []
 | n :: l => putNum n ++ numsB l
theorem spec_Bytes_l1 (a : List S68) (b : List S72) (i' : Int) (e0 e1 e2 e3 : Int) (s : ByteArray) (hs : s.size ≤ 8) (ns : List Int) (r : List Int) : ∀ (d i : Nat) (acc : List Int), i + d = ns.length → ns.length ≤ 5 → acc.length + 2147483648 * d ≤ 300000000000 →
  Ev (fun k => spec_l6Bytes.l0 k (acc ++ (numsB (ns.drop i) ++ putText s)) (wrap64 (i' + 1)) a b) r →
  Ev (fun k => spec_l6Bytes.l1 k acc i' ns (i : Int) a b e0 e1 e2 e3 s) r := by
 intro d
 induction d with
 | zero =>
  intro i acc h hn hacc hv
  have h5 := putNum_len (s.size : Int)
  have h6 := bytesOf_len s
  have h7 : (putText s).length ≤ 3000000000 := by simp only [putText, List.length_append]; omega
  rw [List.drop_eq_nil_of_le (by omega)] at hv
  simp only [numsB, List.nil_append] at hv
  refine evSucc ?_
  simp only [spec_l6Bytes.l1]
  simp only [if_neg (show ¬ (i : Int) < (ns.length : Int) by omega)]
  refine Ev.bind (spec_PutText_ev s (by omega)) ?_
  simp only [if_pos (show acc.length + (putText s).length < 140737488355328 by omega)]
  exact hv
 | succ d ih =>
  intro i acc h hn hacc hv
  have hi : i < ns.length := by omega
  have h0 := putNum_len ns[i]
  rw [List.drop_eq_getElem_cons hi] at hv
  simp only [numsB, List.append_assoc] at hv
  refine evSucc ?_
  simp only [spec_l6Bytes.l1, rd_nat hi]
  simp only [if_pos (show (i : Int) < (ns.length : Int) by omega), if_pos (show (0 : Int) ≤ (i : Int) by omega), w64 (show (-9223372036854775808 : Int) ≤ (i : Int) + 1 by omega) (by omega)]
  refine Ev.bind (spec_PutNum_ev _) ?_
  simp only [if_pos (show acc.length + (putNum ns[i]).length < 140737488355328 by omega)]
  exact ih (i + 1) (acc ++ putNum ns[i]) (by omega) hn (by rw [List.length_append]; omega) (by simpa only [List.append_assoc] using hv)
theorem spec_Bytes_l0 (a : List S68) (b : List S72) (ha : a.length ≤ 5) (hb : b.length ≤ 5) (hs : ∀ x ∈ a, x.f1.f4.size ≤ 8) : ∀ (d i : Nat) (acc : List Int), i + d = a.length → acc.length ≤ 10000000000 + 20000000000 * i →
  Ev (fun k => spec_l6Bytes.l0 k acc (i : Int) a b) (acc ++ (itemsB (a.drop i) ++ (putNum (b.length : Int) ++ floorsB b))) := by
 intro d
 induction d with
 | zero =>
  intro i acc h hacc
  have h0 := putNum_len (b.length : Int)
  rw [List.drop_eq_nil_of_le (by omega)]
  simp only [itemsB, List.nil_append]
  have hz := spec_Bytes_l2 a b hb b.length 0 (acc ++ putNum (b.length : Int)) (by omega) (by rw [List.length_append]; omega)
  rw [List.drop_zero, List.append_assoc] at hz
  refine evSucc ?_
  simp only [spec_l6Bytes.l0]
  simp only [if_neg (show ¬ (i : Int) < (a.length : Int) by omega)]
  refine Ev.bind (spec_PutNum_ev _) ?_
  simp only [if_pos (show acc.length + (putNum (b.length : Int)).length < 140737488355328 by omega)]
  exact hz
 | succ d ih =>
  intro i acc h hacc
  have hi : i < a.length := by omega
  have hsz := hs a[i] (List.getElem_mem hi)
  have hl := itemB_len a[i] hsz
  have hx := ih (i + 1) (acc ++ itemB a[i]) (by omega) (by rw [List.length_append]; omega)
  rw [List.drop_eq_getElem_cons hi]
  simp only [itemsB]
  simp only [List.append_assoc] at hx ⊢
  refine evSucc ?_
  simp only [spec_l6Bytes.l0, rdI hi]
  simp only [if_pos (show (i : Int) < (a.length : Int) by omega), if_pos (show (0 : Int) ≤ (i : Int) by omega)]
  refine spec_Bytes_l1 a b i _ _ _ _ _ hsz _ _ 5 0 acc (by simp) (by simp) (by omega) ?_
  have e : acc ++ (numsB (List.drop 0 [a[i].f0, a[i].f1.f0, a[i].f1.f1, a[i].f1.f2, a[i].f1.f3]) ++ putText a[i].f1.f4) = acc ++ itemB a[i] := by simp [numsB, itemB]
  rw [e, w64 (by omega) (by omega)]
  exact hx
theorem spec_Bytes_ev (a : List S68) (b : List S72) (ha : a.length ≤ 5) (hb : b.length ≤ 5) (hs : ∀ x ∈ a, x.f1.f4.size ≤ 8) : Ev (fun k => spec_l6Bytes.f k a b) (stateB a b) := by
 have h0 := putNum_len (a.length : Int)
 simp only [spec_l6Bytes.f, stateB]
 refine Ev.bind (spec_PutNum_ev _) ?_
 have h := spec_Bytes_l0 a b ha hb hs a.length 0 (putNum (a.length : Int)) (by omega) (by omega)
 rw [List.drop_zero] at h
 exact h
theorem impl_Bytes_l1 (b : List S72) (hb : b.length ≤ 5) : ∀ (d i : Nat) (acc : List Int), i + d = b.length → acc.length ≤ 200000000000 + 5000000000 * i →
  Ev (fun k => impl_StateBytes.l1 k acc b (b.length : Int) (i : Int)) (acc ++ floorsB (b.drop i)) := by
 intro d
 induction d with
 | zero =>
  intro i acc h _
  rw [List.drop_eq_nil_of_le (by omega)]
  exact evRet fun k => by simp only [impl_StateBytes.l1]; rw [if_neg (by omega)]; simp [floorsB]
 | succ d ih =>
  intro i acc h hacc
  have hi : i < b.length := by omega
  have h0 := putNum_len b[i].f0
  have h1 := putNum_len b[i].f1
  rw [List.drop_eq_getElem_cons hi]
  have := ih (i + 1) (acc ++ floorB b[i]) (by omega) (by have := floorB_len b[i]; rw [List.length_append]; omega)
  simp only [floorsB]
  rw [List.append_assoc] at this
  refine evSucc ?_
  simp only [impl_StateBytes.l1, rdF hi]
  simp only [if_pos (show (i : Int) < (b.length : Int) by omega), if_pos (show (0 : Int) ≤ (i : Int) by omega), w64 (show (-9223372036854775808 : Int) ≤ (i : Int) + 1 by omega) (by omega)]
  refine Ev.bind (impl_PutNum_ev _) ?_
  refine Ev.bind (impl_PutNum_ev _) ?_
  refine Ev.bind (joined_ev [acc, putNum b[i].f0, putNum b[i].f1] (by simp) (by simp; omega)) ?_
  have e : [acc, putNum b[i].f0, putNum b[i].f1].flatten = acc ++ floorB b[i] := by simp [floorB]
  rw [e]
  exact this
theorem impl_Bytes_l0 (a : List S68) (b : List S72) (ha : a.length ≤ 5) (hb : b.length ≤ 5) (hs : ∀ x ∈ a, x.f1.f4.size ≤ 8) : ∀ (d i : Nat) (acc : List Int), i + d = a.length → acc.length ≤ 10000000000 + 20000000000 * i →
  Ev (fun k => impl_StateBytes.l0 k acc a (a.length : Int) (i : Int) a b) (acc ++ (itemsB (a.drop i) ++ (putNum (b.length : Int) ++ floorsB b))) := by
 intro d
 induction d with
 | zero =>
  intro i acc h hacc
  have h0 := putNum_len (b.length : Int)
  rw [List.drop_eq_nil_of_le (by omega)]
  simp only [itemsB, List.nil_append]
  have hz := impl_Bytes_l1 b hb b.length 0 (acc ++ putNum (b.length : Int)) (by omega) (by rw [List.length_append]; omega)
  rw [List.drop_zero, List.append_assoc] at hz
  refine evSucc ?_
  simp only [impl_StateBytes.l0]
  simp only [if_neg (show ¬ (i : Int) < (a.length : Int) by omega)]
  refine Ev.bind (impl_PutNum_ev _) ?_
  refine Ev.bind (joined_ev [acc, putNum (b.length : Int)] (by simp) (by simp; omega)) ?_
  have e : [acc, putNum (b.length : Int)].flatten = acc ++ putNum (b.length : Int) := by simp
  rw [e]
  exact hz
 | succ d ih =>
  intro i acc h hacc
  have hi : i < a.length := by omega
  have hsz := hs a[i] (List.getElem_mem hi)
  have hl := itemB_len a[i] hsz
  have hx := ih (i + 1) (acc ++ itemB a[i]) (by omega) (by rw [List.length_append]; omega)
  rw [List.drop_eq_getElem_cons hi]
  simp only [itemsB]
  simp only [List.append_assoc] at hx ⊢
  have e : [acc, putNum a[i].f0, putNum a[i].f1.f0, putNum a[i].f1.f1, putNum a[i].f1.f2, putNum a[i].f1.f3, putText a[i].f1.f4].flatten = acc ++ itemB a[i] := by simp [itemB]
  refine evSucc ?_
  simp only [impl_StateBytes.l0, rdI hi]
  simp only [if_pos (show (i : Int) < (a.length : Int) by omega), if_pos (show (0 : Int) ≤ (i : Int) by omega), w64 (show (-9223372036854775808 : Int) ≤ (i : Int) + 1 by omega) (by omega)]
  refine Ev.bind (impl_PutNum_ev _) ?_
  refine Ev.bind (impl_PutNum_ev _) ?_
  refine Ev.bind (impl_PutNum_ev _) ?_
  refine Ev.bind (impl_PutNum_ev _) ?_
  refine Ev.bind (impl_PutNum_ev _) ?_
  refine Ev.bind (impl_PutText_ev _ (by omega)) ?_
  refine Ev.bind (joined_ev _ (by simp) (by rw [e, List.length_append]; omega)) ?_
  rw [e]
  exact hx
def bytesR (a : List S68) (b : List S72) : List Int := if okS a b = true then stateB a b else []
theorem okI_size (b : List S72) : ∀ (l : List S68) (p : Option Int), okI b p l = true → ∀ x ∈ l, x.f1.f4.size ≤ 8
 | [], _, _, x, hx => by simp at hx
 | y :: r, p, h, x, hx => by
  simp only [okI, Bool.and_eq_true] at h
  obtain ⟨h1, h2, h3, h4, h5⟩ := h
  rcases List.mem_cons.1 hx with rfl | hx
  ·simp only [entryOkB, Bool.and_eq_true, decide_eq_true_eq] at h3; omega
  ·exact okI_size b r (some y.f0) h5 x hx
theorem ok_size {a : List S68} {b : List S72} (h : okS a b = true) : ∀ x ∈ a, x.f1.f4.size ≤ 8 := by
 simp only [okS, Bool.and_eq_true] at h
 exact okI_size b a none h.1
theorem okI_gt (b : List S72) : ∀ (l : List S68) (q : Int), okI b (some q) l = true → ∀ x ∈ l, q < x.f0
 | [], _, _, x, hx => by simp at hx
 | y :: r, q, h, x, hx => by
  simp only [okI, Bool.and_eq_true, Bool.not_eq_true', decide_eq_false_iff_not] at h
  obtain ⟨h1, h2, h3, h4, h5⟩ := h
  rcases List.mem_cons.1 hx with rfl | hx
  ·omega
  ·have := okI_gt b r y.f0 h5 x hx; omega
theorem okF_gt : ∀ (l : List S72) (q : Int), okF (some q) l = true → ∀ x ∈ l, q < x.f0
 | [], _, _, x, hx => by simp at hx
 | y :: r, q, h, x, hx => by
  simp only [okF, Bool.and_eq_true, Bool.not_eq_true', decide_eq_false_iff_not] at h
  obtain ⟨h1, h2, h3, h5⟩ := h
  rcases List.mem_cons.1 hx with rfl | hx
  ·omega
  ·have := okF_gt r y.f0 h5 x hx; omega
theorem okI_node (b : List S72) : ∀ (l : List S68) (p : Option Int), okI b p l = true → ∀ x ∈ l, 0 ≤ x.f0 ∧ x.f0 ≤ 4
 | [], _, _, x, hx => by simp at hx
 | y :: r, p, h, x, hx => by
  simp only [okI, Bool.and_eq_true] at h
  obtain ⟨h1, h2, h3, h4, h5⟩ := h
  rcases List.mem_cons.1 hx with rfl | hx
  ·simpa [nodeB] using h1
  ·exact okI_node b r (some y.f0) h5 x hx
theorem okF_node : ∀ (l : List S72) (p : Option Int), okF p l = true → ∀ x ∈ l, 0 ≤ x.f0 ∧ x.f0 ≤ 4
 | [], _, _, x, hx => by simp at hx
 | y :: r, p, h, x, hx => by
  simp only [okF, Bool.and_eq_true] at h
  obtain ⟨h1, h2, h3, h5⟩ := h
  rcases List.mem_cons.1 hx with rfl | hx
  ·simpa [nodeB] using h1
  ·exact okF_node r (some y.f0) h5 x hx
theorem okI_cnt (b : List S72) : ∀ (l : List S68) (p : Option Int) (n : Nat), okI b p l = true → (∀ x ∈ l, 5 - (n : Int) ≤ x.f0) → l.length ≤ n
 | [], _, _, _, _ => by simp
 | y :: r, p, 0, h, hx => by
  have h1 := hx y List.mem_cons_self
  simp only [okI, Bool.and_eq_true, nodeB, decide_eq_true_eq] at h
  omega
 | y :: r, p, n + 1, h, hx => by
  have h1 := hx y List.mem_cons_self
  have h0 : nodeB y.f0 = true := by simp only [okI, Bool.and_eq_true] at h; exact h.1
  simp only [nodeB, decide_eq_true_eq] at h0
  have h5 : okI b (some y.f0) r = true := by simp only [okI, Bool.and_eq_true] at h; exact h.2.2.2.2
  have := okI_cnt b r (some y.f0) n h5 (fun x hx => by have := okI_gt b r y.f0 h5 x hx; omega)
  simp only [List.length_cons]; omega
theorem okF_cnt : ∀ (l : List S72) (p : Option Int) (n : Nat), okF p l = true → (∀ x ∈ l, 5 - (n : Int) ≤ x.f0) → l.length ≤ n
 | [], _, _, _, _ => by simp
 | y :: r, p, 0, h, hx => by
  have h1 := hx y List.mem_cons_self
  simp only [okF, Bool.and_eq_true, nodeB, decide_eq_true_eq] at h
  omega
 | y :: r, p, n + 1, h, hx => by
  have h1 := hx y List.mem_cons_self
  have h0 : nodeB y.f0 = true := by simp only [okF, Bool.and_eq_true] at h; exact h.1
  simp only [nodeB, decide_eq_true_eq] at h0
  have h5 : okF (some y.f0) r = true := by simp only [okF, Bool.and_eq_true] at h; exact h.2.2.2
  have := okF_cnt r (some y.f0) n h5 (fun x hx => by have := okF_gt r y.f0 h5 x hx; omega)
  simp only [List.length_cons]; omega
theorem ok_cnt {a : List S68} {b : List S72} (h : okS a b = true) : a.length ≤ 5 ∧ b.length ≤ 5 := by
 simp only [okS, Bool.and_eq_true] at h
 refine ⟨okI_cnt b a none 5 h.1 (fun x hx => ?_), okF_cnt b none 5 h.2 (fun x hx => ?_)⟩
 ·have := okI_node b a none h.1 x hx; omega
 ·have := okF_node b none h.2 x hx; omega
theorem impl_StateBytes_ev (a : List S68) (b : List S72) (ha : a.length ≤ 2097152) (hb : b.length ≤ 2097152) : Ev (fun k => impl_StateBytes.f k a b) (bytesR a b) := by
 simp only [impl_StateBytes.f, bytesR]
 refine Ev.bind (impl_StateOk_ev a b ha hb) ?_
 by_cases h : okS a b = true
 ·obtain ⟨h1, h2⟩ := ok_cnt h
  have h0 := putNum_len (a.length : Int)
  simp only [if_pos h]
  refine Ev.bind (impl_PutNum_ev _) ?_
  have hz := impl_Bytes_l0 a b h1 h2 (ok_size h) a.length 0 (putNum (a.length : Int)) (by omega) (by omega)
  rw [List.drop_zero] at hz
  exact hz
 ·simp only [if_neg h]; exact evSome _
theorem flo_slice (m : List Int) (a : Int) (ha : m.contains (leafOf a) = true) : ∀ (l : List S72), floOf (sliceF m l) a = floOf l a
 | [] => rfl
 | x :: l => by
  by_cases c : m.contains (leafOf x.f0) = true
  ·rw [sliceF_pos c]
   simp only [floOf]
   rw [flo_slice m a ha l]
  ·rw [sliceF_neg c, flo_slice m a ha l]
   simp only [floOf]
   by_cases e : x.f0 = a
   ·rw [e] at c; exact absurd ha c
   ·rw [if_neg e]
theorem okI_none (b : List S72) : ∀ (l : List S68) (p : Option Int) (q : Option Int), (∀ y, q = some y → ∃ z, p = some z ∧ y ≤ z) → okI b p l = true → okI b q l = true
 | [], _, _, _, _ => rfl
 | x :: l, p, q, hq, h => by
  simp only [okI, Bool.and_eq_true] at h ⊢
  refine ⟨h.1, ?_, h.2.2.1, h.2.2.2.1, h.2.2.2.2⟩
  cases q with
  | none => rfl
  | some y =>
   obtain ⟨z, hz, hle⟩ := hq y rfl
   have h2 := h.2.1
   subst hz
   simp only [Bool.not_eq_true', decide_eq_false_iff_not] at h2 ⊢
   omega
theorem okF_none : ∀ (l : List S72) (p : Option Int) (q : Option Int), (∀ y, q = some y → ∃ z, p = some z ∧ y ≤ z) → okF p l = true → okF q l = true
 | [], _, _, _, _ => rfl
 | x :: l, p, q, hq, h => by
  simp only [okF, Bool.and_eq_true] at h ⊢
  refine ⟨h.1, ?_, h.2.2.1, h.2.2.2⟩
  cases q with
  | none => rfl
  | some y =>
   obtain ⟨z, hz, hle⟩ := hq y rfl
   have h2 := h.2.1
   subst hz
   simp only [Bool.not_eq_true', decide_eq_false_iff_not] at h2 ⊢
   omega
theorem okI_slice (m : List Int) (b : List S72) : ∀ (l : List S68) (p : Option Int), okI b p l = true → okI (sliceF m b) p (sliceI m l) = true
 | [], _, _ => rfl
 | x :: l, p, h => by
  have hh := h
  simp only [okI, Bool.and_eq_true, Bool.not_eq_true', decide_eq_false_iff_not] at h
  obtain ⟨h1, h2, h3, h4, h5⟩ := h
  by_cases c : m.contains (leafOf x.f0) = true
  ·rw [sliceI_pos c]
   simp only [okI, Bool.and_eq_true, Bool.not_eq_true', decide_eq_false_iff_not]
   refine ⟨h1, h2, h3, ?_, okI_slice m b l (some x.f0) h5⟩
   rw [flo_slice m x.f0 c b]; exact h4
  ·rw [sliceI_neg c]
   refine okI_none (sliceF m b) _ (some x.f0) p (fun y hy => ⟨x.f0, rfl, ?_⟩) (okI_slice m b l (some x.f0) h5)
   subst hy
   simp only [decide_eq_false_iff_not] at h2
   omega
theorem okF_slice (m : List Int) : ∀ (l : List S72) (p : Option Int), okF p l = true → okF p (sliceF m l) = true
 | [], _, _ => rfl
 | x :: l, p, h => by
  simp only [okF, Bool.and_eq_true, Bool.not_eq_true'] at h
  obtain ⟨h1, h2, h3, h5⟩ := h
  by_cases c : m.contains (leafOf x.f0) = true
  ·rw [sliceF_pos c]
   simp only [okF, Bool.and_eq_true, Bool.not_eq_true']
   exact ⟨h1, h2, h3, okF_slice m l (some x.f0) h5⟩
  ·rw [sliceF_neg c]
   refine okF_none _ (some x.f0) p (fun y hy => ⟨x.f0, rfl, ?_⟩) (okF_slice m l (some x.f0) h5)
   subst hy
   simp only [decide_eq_false_iff_not] at h2
   omega
theorem ok_slice {a : List S68} {b : List S72} (m : List Int) (h : okS a b = true) : okS (sliceI m a) (sliceF m b) = true := by
 simp only [okS, Bool.and_eq_true] at h ⊢
 exact ⟨okI_slice m b a none h.1, okF_slice m b none h.2⟩
def sumR (a : List S68) (b : List S72) (q : Int) : Int := if (okS a b && decide (0 ≤ q ∧ q ≤ 3)) = true then Int.tmod (crc (stateB (sliceI [q] a) (sliceF [q] b))) 1024 else 0
theorem spec_LeafSum_ev (a : List S68) (b : List S72) (q : Int) (ha : a.length ≤ 2097152) (hb : b.length ≤ 2097152) : Ev (fun k => spec_LeafSum.f k a b q) (sumR a b q) := by
 simp only [spec_LeafSum.f, sumR]
 refine Ev.bind (spec_StateOk_ev a b ha hb) ?_
 cases h : okS a b
 ·simp only [Bool.false_eq_true, if_false, Bool.false_and]
  refine evSucc ?_
  simp only [spec_LeafSum.j0, if_true]
  exact evSome _
 ·simp only [if_true, Bool.true_and, spec_l1In_eq, Option.bind_some]
  refine evSucc ?_
  by_cases c : 0 ≤ q ∧ q ≤ 3
  ·simp only [spec_LeafSum.j0, decide_eq_true c, Bool.not_true, Bool.false_eq_true, if_false, if_true]
   have o := ok_slice [q] h
   have o1 := ok_cnt o
   have o2 := stateB_len _ _ o1.1 o1.2 (ok_size o)
   have o3 : (stateB (sliceI [q] a) (sliceF [q] b)).length ≤ 1099511627776 := by omega
   refine Ev.bind (spec_l6Slice_ev a b [q] ha hb (by simp)) ?_
   refine Ev.bind (spec_Bytes_ev _ _ o1.1 o1.2 (ok_size o)) ?_
   refine Ev.bind (spec_Crc_ev _ o3) ?_
   exact evSome _
  ·simp only [spec_LeafSum.j0, decide_eq_false c, Bool.not_false, Bool.false_eq_true, if_false, if_true]
   exact evSome _
theorem impl_LeafSum_ev (a : List S68) (b : List S72) (q : Int) (ha : a.length ≤ 2097152) (hb : b.length ≤ 2097152) : Ev (fun k => impl_LeafSum.f k a b q) (sumR a b q) := by
 simp only [impl_LeafSum.f, sumR]
 refine Ev.bind (impl_StateOk_ev a b ha hb) ?_
 cases h : okS a b
 ·simp only [Bool.false_eq_true, if_false, Bool.false_and]
  refine evSucc ?_
  simp only [impl_LeafSum.j0, if_true]
  exact evSome _
 ·simp only [if_true, Bool.true_and, impl_within_eq, Option.bind_some]
  refine evSucc ?_
  by_cases c : 0 ≤ q ∧ q ≤ 3
  ·simp only [impl_LeafSum.j0, decide_eq_true c, Bool.not_true, Bool.false_eq_true, if_false, if_true]
   have o := ok_slice [q] h
   have o1 := ok_cnt o
   have o2 := stateB_len _ _ o1.1 o1.2 (ok_size o)
   have o3 : (stateB (sliceI [q] a) (sliceF [q] b)).length ≤ 1099511627776 := by omega
   have hS := impl_Slice_ev a b [q] ha hb (by simp)
   have e : sliceR a b [q] = (sliceI [q] a, sliceF [q] b) := by unfold sliceR; rw [if_pos h]
   rw [e] at hS
   refine Ev.bind hS ?_
   have hB := impl_StateBytes_ev (sliceI [q] a) (sliceF [q] b) (by omega) (by omega)
   have e2 : bytesR (sliceI [q] a) (sliceF [q] b) = stateB (sliceI [q] a) (sliceF [q] b) := by unfold bytesR; rw [if_pos o]
   rw [e2] at hB
   refine Ev.bind hB ?_
   refine Ev.bind (impl_Crc_ev _ o3) ?_
   exact evSome _
  ·simp only [impl_LeafSum.j0, decide_eq_false c, Bool.not_false, Bool.false_eq_true, if_false, if_true]
   exact evSome _
def rootR (l : List Int) : Int := Int.tmod (crc (numsB l)) 1024
theorem spec_Root_l (l : List Int) (hl : l.length ≤ 4) : ∀ (d i : Nat) (acc : List Int), i + d = l.length → acc.length ≤ 2147483648 * i →
  Ev (fun k => spec_l6Root.l0 k l acc (i : Int)) (Int.tmod (crc (acc ++ numsB (l.drop i))) 1024) := by
 intro d
 induction d with
 | zero =>
  intro i acc h hacc
  rw [List.drop_eq_nil_of_le (by omega)]
  simp only [numsB, List.append_nil]
  refine evSucc ?_
  simp only [spec_l6Root.l0]
  simp only [if_neg (show ¬ (i : Int) < (l.length : Int) by omega)]
  refine Ev.bind (spec_Crc_ev _ (by omega)) ?_
  exact evSome _
 | succ d ih =>
  intro i acc h hacc
  have hi : i < l.length := by omega
  have h0 := putNum_len l[i]
  have hx := ih (i + 1) (acc ++ putNum l[i]) (by omega) (by rw [List.length_append]; omega)
  rw [List.drop_eq_getElem_cons hi]
  simp only [numsB]
  rw [List.append_assoc] at hx
  refine evSucc ?_
  simp only [spec_l6Root.l0, rd_nat hi]
  simp only [if_pos (show (i : Int) < (l.length : Int) by omega), if_pos (show (0 : Int) ≤ (i : Int) by omega), w64 (show (-9223372036854775808 : Int) ≤ (i : Int) + 1 by omega) (by omega)]
  refine Ev.bind (spec_PutNum_ev _) ?_
  simp only [if_pos (show acc.length + (putNum l[i]).length < 140737488355328 by omega)]
  exact hx
theorem spec_Root_ev (l : List Int) (hl : l.length ≤ 4) : Ev (fun k => spec_l6Root.f k l) (rootR l) := by
 have h := spec_Root_l l hl l.length 0 [] (by omega) (by simp)
 rw [List.drop_zero, List.nil_append] at h
 exact h
theorem impl_root_l (l : List Int) (hl : l.length ≤ 4) : ∀ (d i : Nat) (acc : List Int), i + d = l.length → acc.length ≤ 2147483648 * i →
  Ev (fun k => impl_rootOf.l0 k acc l (l.length : Int) (i : Int)) (Int.tmod (crc (acc ++ numsB (l.drop i))) 1024) := by
 intro d
 induction d with
 | zero =>
  intro i acc h hacc
  rw [List.drop_eq_nil_of_le (by omega)]
  simp only [numsB, List.append_nil]
  refine evSucc ?_
  simp only [impl_rootOf.l0]
  simp only [if_neg (show ¬ (i : Int) < (l.length : Int) by omega)]
  refine Ev.bind (impl_Crc_ev _ (by omega)) ?_
  exact evSome _
 | succ d ih =>
  intro i acc h hacc
  have hi : i < l.length := by omega
  have h0 := putNum_len l[i]
  have hx := ih (i + 1) (acc ++ putNum l[i]) (by omega) (by rw [List.length_append]; omega)
  rw [List.drop_eq_getElem_cons hi]
  simp only [numsB]
  rw [List.append_assoc] at hx
  refine evSucc ?_
  simp only [impl_rootOf.l0, rd_nat hi]
  simp only [if_pos (show (i : Int) < (l.length : Int) by omega), if_pos (show (0 : Int) ≤ (i : Int) by omega), w64 (show (-9223372036854775808 : Int) ≤ (i : Int) + 1 by omega) (by omega)]
  refine Ev.bind (impl_PutNum_ev _) ?_
  have e : [acc, putNum l[i]].flatten = acc ++ putNum l[i] := by simp
  refine Ev.bind (joined_ev [acc, putNum l[i]] (by simp) (by rw [e, List.length_append]; omega)) ?_
  rw [e]
  exact hx
theorem impl_root_ev (l : List Int) (hl : l.length ≤ 4) : Ev (fun k => impl_rootOf.f k l) (rootR l) := by
 have h := impl_root_l l hl l.length 0 [] (by omega) (by simp)
 rw [List.drop_zero, List.nil_append] at h
 exact h
def leavesR (a : List S68) (b : List S72) : List Int := [sumR a b 0, sumR a b 1, sumR a b 2, sumR a b 3]
def treeR (a : List S68) (b : List S72) : List Int × Int := if okS a b = true then (leavesR a b, rootR (leavesR a b)) else ([], 0)
theorem treeR_len (a : List S68) (b : List S72) : (treeR a b).1.length ≤ 4 := by unfold treeR; split <;> simp [leavesR]
theorem spec_TreeOf_ev (a : List S68) (b : List S72) (ha : a.length ≤ 2097152) (hb : b.length ≤ 2097152) : Ev (fun k => spec_TreeOf.f k a b) (treeR a b) := by
 simp only [spec_TreeOf.f, treeR]
 refine Ev.bind (spec_StateOk_ev a b ha hb) ?_
 by_cases h : okS a b = true
 ·simp only [if_pos h]
  have step : ∀ (i j : Int) (x : List Int) (z : Int) (r : List Int × Int), i < 4 → -1 ≤ i → j = i + 1 → x.length ≤ 4 → Ev (fun k => spec_TreeOf.l0 k j a b (x ++ [sumR a b i]) z) r → Ev (fun k => spec_TreeOf.l0 k i a b x z) r := by
   intro i j x z r h1 h2 hj hx hv
   subst hj
   refine evSucc ?_
   simp only [spec_TreeOf.l0]
   simp only [if_pos h1, w64 (show (-9223372036854775808 : Int) ≤ i + 1 by omega) (by omega), if_pos (show x.length < 17592186044416 by omega)]
   refine Ev.bind (spec_LeafSum_ev a b i ha hb) ?_
   exact hv
  refine step 0 1 _ _ _ (by omega) (by omega) (by omega) (by simp) ?_
  refine step 1 2 _ _ _ (by omega) (by omega) (by omega) (by simp) ?_
  refine step 2 3 _ _ _ (by omega) (by omega) (by omega) (by simp) ?_
  refine step 3 4 _ _ _ (by omega) (by omega) (by omega) (by simp) ?_
  refine evSucc ?_
  simp only [spec_TreeOf.l0]
  simp only [if_neg (show ¬ (4 : Int) < 4 by omega)]
  refine Ev.bind (spec_Root_ev (leavesR a b) (by simp [leavesR])) ?_
  exact evSome _
 ·simp only [if_neg h]; exact evSome _
theorem impl_TreeOf_ev (a : List S68) (b : List S72) (ha : a.length ≤ 2097152) (hb : b.length ≤ 2097152) : Ev (fun k => impl_TreeOf.f k a b) (treeR a b) := by
 simp only [impl_TreeOf.f, treeR]
 refine Ev.bind (impl_StateOk_ev a b ha hb) ?_
 by_cases h : okS a b = true
 ·simp only [if_pos h]
  have step : ∀ (i j : Int) (x : List Int) (z : Int) (r : List Int × Int), i < 4 → -1 ≤ i → j = i + 1 → x.length ≤ 4 → Ev (fun k => impl_TreeOf.l0 k j a b (x ++ [sumR a b i]) z) r → Ev (fun k => impl_TreeOf.l0 k i a b x z) r := by
   intro i j x z r h1 h2 hj hx hv
   subst hj
   refine evSucc ?_
   simp only [impl_TreeOf.l0]
   simp only [if_pos h1, w64 (show (-9223372036854775808 : Int) ≤ i + 1 by omega) (by omega), if_pos (show x.length < 17592186044416 by omega)]
   refine Ev.bind (impl_LeafSum_ev a b i ha hb) ?_
   exact hv
  refine step 0 1 _ _ _ (by omega) (by omega) (by omega) (by simp) ?_
  refine step 1 2 _ _ _ (by omega) (by omega) (by omega) (by simp) ?_
  refine step 2 3 _ _ _ (by omega) (by omega) (by omega) (by simp) ?_
  refine step 3 4 _ _ _ (by omega) (by omega) (by omega) (by simp) ?_
  refine evSucc ?_
  simp only [impl_TreeOf.l0]
  simp only [if_neg (show ¬ (4 : Int) < 4 by omega)]
  refine Ev.bind (impl_root_ev (leavesR a b) (by simp [leavesR])) ?_
  exact evSome _
 ·simp only [if_neg h]; exact evSome _
theorem eqTree_ev (l : List Int) (r : Int) (hl : l.length ≤ 1099511627776) : Ev (fun k => laws_eqTree.f k l r l r) true := by
 simp only [laws_eqTree.f]
 refine Ev.bind (eqIntS_ev l hl) ?_
 simp only [if_true]
 exact evSome _
theorem markTree_ev (l : List Int) (r : Int) (hl : l.length ≤ 1099511627776) (m : Int) (hm0 : 0 ≤ m) (hm1 : m ≤ 1099511627776) : Ev (fun k => laws_markTree.f k l r m) (m + (l.length : Int), markI l.length m) := by
 simp only [laws_markTree.f]
 refine Ev.bind (markIntS_ev l hl m hm0 hm1) ?_
 exact evSome _
theorem heldTree_ev (n : Nat) (r : Int) (hn : n ≤ 1099511627776) (m : Int) (hm0 : 0 ≤ m) (hm1 : m ≤ 1099511627776) : Ev (fun k => laws_heldTree.f k (markI n m) r m) (m + (n : Int)) := by
 simp only [laws_heldTree.f]
 refine Ev.bind (heldIntS_ev n hn m hm0 hm1) ?_
 simp only [if_neg (show ¬ m + (n : Int) < 0 by omega)]
 exact evSome _
theorem FnExactTreeOf : laws_FnExactTreeOf.Pure := by
 intro l fl hl _ hs hf _ _
 apply Ev.rounds
 obtain ⟨n, hn, _, hn2⟩ := szState_ev l fl (by simp [maxLen] at *; omega) (by simp [maxLen] at *; omega) (fun v hv => (hs v hv).2.2.2.2.2) 1048576 (by omega) (by omega)
 simp only [laws_FnExactTreeOf.f]
 refine Ev.bind hn ?_
 by_cases hn0 : n < 0
 ·simp only [if_pos hn0]; exact evSome _
 simp only [if_neg hn0]
 obtain ⟨b1, b2⟩ := hn2 (by omega)
 have c3 : (l.map convI).length ≤ 2097152 := by simp; omega
 have c4 : (fl.map convF).length ≤ 2097152 := by simp; omega
 have hb := treeR_len (l.map convI) (fl.map convF)
 have hb2 : (treeR (l.map convI) (fl.map convF)).1.length ≤ 1099511627776 := by omega
 refine Ev.bind (toState_ev l fl b1 b2) ?_
 refine Ev.bind (spec_TreeOf_ev _ _ c3 c4) ?_
 refine Ev.bind (toState_ev l fl b1 b2) ?_
 refine Ev.bind (impl_TreeOf_ev _ _ c3 c4) ?_
 refine Ev.bind (eqTree_ev _ _ hb2) ?_
 simp only [if_true]
 refine Ev.bind (toState_ev l fl b1 b2) ?_
 refine Ev.bind (eqState_ev _ _ c3 c4) ?_
 simp only [if_true]
 refine Ev.bind (markState_ev _ _ 1 c3 c4 (by omega) (by omega)) ?_
 simp only [if_neg (show ¬ 1 + 6 * ((l.map convI).length : Int) + 2 * ((fl.map convF).length : Int) < 0 by omega)]
 refine Ev.bind (eqTree_ev _ _ hb2) ?_
 refine evSucc ?_
 simp only [laws_FnExactTreeOf.j0, Bool.not_true, Bool.false_eq_true, if_false]
 refine Ev.bind (markTree_ev _ _ hb2 1 (by omega) (by omega)) ?_
 refine Ev.bind (heldTree_ev _ _ hb2 1 (by omega) (by omega)) ?_
 simp only [if_neg (show ¬ 1 + ((treeR (l.map convI) (fl.map convF)).1.length : Int) < 0 by omega), if_true]
 refine Ev.bind (toState_ev l fl b1 b2) ?_
 refine Ev.bind (impl_TreeOf_ev _ _ c3 c4) ?_
 refine Ev.bind (eqTree_ev _ _ hb2) ?_
 simp only [if_true]
 refine Ev.bind (heldTree_ev _ _ hb2 1 (by omega) (by omega)) ?_
 simp only [if_neg (show ¬ 1 + ((treeR (l.map convI) (fl.map convF)).1.length : Int) < 0 by omega), if_true]
 exact evSome _
end Go.Proofs.Ytgapdegniepjiaa.Pure
