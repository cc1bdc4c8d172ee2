/- The plain law of FnExactLacks. -/
import Derived.Test.YtgapdegniepjiaaPlFnExactLacks
namespace Go.Proofs.Ytgapdegniepjiaa.Pure
open Go.RowKit Go.Proofs.Ytgapdegniepjiaa.P Go.Proofs.YtgapdegniepjiaaW.PrintWords Go.Proofs.YtgapdegniepjiaaW.PrintLast
set_option linter.unusedVariables false
set_option linter.unusedSimpArgs false

theorem w64 {n : Int} (h0 : -9223372036854775808 ≤ n) (h1 : n ≤ 9223372036854775807) : wrap64 n = n := by
  unfold wrap64; omega
theorem tmod_pos {a b : Int} (h : 0 ≤ a) : Int.tmod a b = a % b := Int.tmod_eq_emod_of_nonneg h
theorem tdiv_pos {a b : Int} (h : 0 ≤ a) : Int.tdiv a b = a / b := Int.tdiv_eq_ediv_of_nonneg h
theorem evSome {α : Type} (r : α) : Ev (fun _ => some r) r := Ev.now r
theorem evEq {α : Type} {g f : Nat → Option α} {r : α} (k : Ev f r) (h : ∀ k, g k = f k) : Ev g r := Ev.congr h k
theorem evStep {α : Type} {g f : Nat → Option α} {r : α} (k : Ev f r) (h : ∀ k, g (k + 1) = f k) : Ev g r := Ev.step h k
theorem evRet {α : Type} {g : Nat → Option α} {r : α} (h : ∀ k, g (k + 1) = some r) : Ev g r := Ev.step h (Ev.now r)
theorem rd_nat {l : List Int} {i : Nat} (h : i < l.length) : rd l (i : Int) = l[i] := by
  unfold rd; simp [List.getD_eq_getElem?_getD, h]
theorem wf_i64 {a : Int} (h : (Lit.int .i64 a).wf = true) : -9223372036854775808 ≤ a ∧ a ≤ 9223372036854775807 := by
  simp [Lit.wf, IntKind.min, IntKind.max, IntKind.bits, IntKind.signed] at h; omega
theorem wf_u8 {a : Int} (h : (Lit.int .u8 a).wf = true) : 0 ≤ a ∧ a < 256 := by
  simp [Lit.wf, IntKind.min, IntKind.max, IntKind.bits, IntKind.signed] at h; omega

theorem evSucc {α : Type} {g : Nat → Option α} {r : α} (h : Ev (fun k => g (k + 1)) r) : Ev g r := Ev.step (f := fun k => g (k + 1)) (fun _ => rfl) h
def convI (x : S94) : S68 := ⟨x.f0, ⟨x.f1.f0, x.f1.f1, x.f1.f2, x.f1.f3, x.f1.f4⟩⟩
def convF (x : S98) : S72 := ⟨x.f0, x.f1⟩
theorem rdLI {l : List S94} {i : Nat} (h : i < l.length) : rd_T94 l (i : Int) = l[i] := by
  unfold rd_T94; simp [List.getD_eq_getElem?_getD, h]
theorem rdLF {l : List S98} {i : Nat} (h : i < l.length) : rd_T98 l (i : Int) = l[i] := by
  unfold rd_T98; simp [List.getD_eq_getElem?_getD, h]
theorem rdI {l : List S68} {i : Nat} (h : i < l.length) : rd_T68 l (i : Int) = l[i] := by
  unfold rd_T68; simp [List.getD_eq_getElem?_getD, h]
theorem rdF {l : List S72} {i : Nat} (h : i < l.length) : rd_T72 l (i : Int) = l[i] := by
  unfold rd_T72; simp [List.getD_eq_getElem?_getD, h]
theorem toItemS_l (x : List S94) (hx : x.length ≤ 1048576) : ∀ (d i : Nat) (y : List S68), i + d = x.length → y.length = x.length →
    Ev (fun k => laws_toItemS.l0 k x y (i : Int)) (y.take i ++ (x.drop i).map convI) := by
  intro d
  induction d with
  | zero =>
    intro i y h hy
    have e : y.take i ++ (x.drop i).map convI = y := by
      rw [List.drop_eq_nil_of_le (by omega), List.take_of_length_le (by omega), List.map_nil, List.append_nil]
    rw [e]
    refine evRet fun k => ?_
    simp only [laws_toItemS.l0]; rw [if_neg (by omega)]
  | succ d ih =>
    intro i y h hy
    have hi : i < x.length := by omega
    have := ih (i + 1) (y.set i (convI x[i])) (by omega) (by simpa using hy)
    have e : (y.set i (convI x[i])).take (i + 1) ++ (x.drop (i + 1)).map convI = y.take i ++ (x.drop i).map convI := by
      rw [List.drop_eq_getElem_cons hi, List.take_succ_eq_append_getElem (by simp; omega), List.take_set_of_le (Nat.le_refl i)]
      simp only [List.map_cons, List.getElem_set_self, List.append_assoc, List.singleton_append, List.cons_append, List.nil_append]
    rw [e] at this
    refine evStep this fun k => ?_
    simp only [laws_toItemS.l0, laws_toItem.f, laws_toEntry.f, Option.bind_some]
    rw [if_pos (by omega), if_pos (by omega), if_pos (by omega), rdLI hi, w64 (by omega) (by omega)]
    rfl
theorem toItemS_ev (x : List S94) (hx : x.length ≤ 1048576) : Ev (fun k => laws_toItemS.f k x) (x.map convI) := by
  have := toItemS_l x hx x.length 0 (List.replicate x.length z68) (by omega) (by simp)
  simp only [List.take_zero, List.drop_zero, List.nil_append] at this
  refine evEq this fun k => ?_
  simp only [laws_toItemS.f]
  rw [if_pos (by omega), if_pos (by omega)]
  rfl
theorem toFloorS_l (x : List S98) (hx : x.length ≤ 1048576) : ∀ (d i : Nat) (y : List S72), i + d = x.length → y.length = x.length →
    Ev (fun k => laws_toFloorS.l0 k x y (i : Int)) (y.take i ++ (x.drop i).map convF) := by
  intro d
  induction d with
  | zero =>
    intro i y h hy
    have e : y.take i ++ (x.drop i).map convF = y := by
      rw [List.drop_eq_nil_of_le (by omega), List.take_of_length_le (by omega), List.map_nil, List.append_nil]
    rw [e]
    refine evRet fun k => ?_
    simp only [laws_toFloorS.l0]; rw [if_neg (by omega)]
  | succ d ih =>
    intro i y h hy
    have hi : i < x.length := by omega
    have := ih (i + 1) (y.set i (convF x[i])) (by omega) (by simpa using hy)
    have e : (y.set i (convF x[i])).take (i + 1) ++ (x.drop (i + 1)).map convF = y.take i ++ (x.drop i).map convF := by
      rw [List.drop_eq_getElem_cons hi, List.take_succ_eq_append_getElem (by simp; omega), List.take_set_of_le (Nat.le_refl i)]
      simp only [List.map_cons, List.getElem_set_self, List.append_assoc, List.singleton_append, List.cons_append, List.nil_append]
    rw [e] at this
    refine evStep this fun k => ?_
    simp only [laws_toFloorS.l0, laws_toFloor.f, Option.bind_some]
    rw [if_pos (by omega), if_pos (by omega), if_pos (by omega), rdLF hi, w64 (by omega) (by omega)]
    rfl
theorem toFloorS_ev (x : List S98) (hx : x.length ≤ 1048576) : Ev (fun k => laws_toFloorS.f k x) (x.map convF) := by
  have := toFloorS_l x hx x.length 0 (List.replicate x.length z72) (by omega) (by simp)
  simp only [List.take_zero, List.drop_zero, List.nil_append] at this
  refine evEq this fun k => ?_
  simp only [laws_toFloorS.f]
  rw [if_pos (by omega), if_pos (by omega)]
  rfl
theorem toState_ev (x : List S94) (y : List S98) (hx : x.length ≤ 1048576) (hy : y.length ≤ 1048576) : Ev (fun k => laws_toState.f k x y) (x.map convI, y.map convF) := by
  simp only [laws_toState.f]
  refine Ev.bind (toItemS_ev x hx) ?_
  refine Ev.bind (toFloorS_ev y hy) ?_
  exact evSome _
theorem szItemS_l (x : List S94) (hx : x.length ≤ 1048576) (hs : ∀ v ∈ x, v.f1.f4.size ≤ 140737488351232) : ∀ (d i : Nat) (n : Int), i + d = x.length → 0 ≤ n → n ≤ 1048576 →
    ∃ m, Ev (fun k => laws_szItemS.l0 k x n (i : Int)) m ∧ m ≤ n := by
  intro d
  induction d with
  | zero =>
    intro i n h _ _
    refine ⟨n, evRet fun k => ?_, Int.le_refl _⟩
    simp only [laws_szItemS.l0]; rw [if_neg (by omega)]
  | succ d ih =>
    intro i n h h0 h1
    have hi : i < x.length := by omega
    have hsz := hs _ (List.getElem_mem hi)
    by_cases hneg : n - (x[i].f1.f4.size : Int) < 0
    · refine ⟨-1, evRet fun k => ?_, by omega⟩
      simp only [laws_szItemS.l0, laws_szItem.f, laws_szEntry.f]
      rw [if_pos (by omega), if_pos (by omega), rdLI hi, w64 (by omega) (by omega), if_pos hneg]
      rfl
    · obtain ⟨m, hm, hle⟩ := ih (i + 1) (n - (x[i].f1.f4.size : Int)) (by omega) (by omega) (by omega)
      refine ⟨m, evStep hm fun k => ?_, by omega⟩
      simp only [laws_szItemS.l0, laws_szItem.f, laws_szEntry.f]
      rw [if_pos (by omega), if_pos (by omega), rdLI hi, w64 (n := n - _) (by omega) (by omega), if_neg hneg]
      simp only [Option.bind_some]
      rw [if_neg hneg]
      simp only [Option.bind_some]
      rw [if_neg hneg, w64 (by omega) (by omega)]
      rfl
theorem szItemS_ev (x : List S94) (hx : x.length ≤ 140737488351232) (hs : ∀ v ∈ x, v.f1.f4.size ≤ 140737488351232) (n : Int) (h0 : 0 ≤ n) (h1 : n ≤ 1048576) :
    ∃ m, Ev (fun k => laws_szItemS.f k x n) m ∧ m ≤ n ∧ (0 ≤ m → x.length ≤ 1048576) := by
  by_cases hneg : n - (x.length : Int) < 0
  · refine ⟨-1, evEq (evSome _) fun k => ?_, by omega, by omega⟩
    simp only [laws_szItemS.f]; rw [w64 (by omega) (by omega), if_pos hneg]
  · obtain ⟨m, hm, hle⟩ := szItemS_l x (by omega) hs x.length 0 (n - (x.length : Int)) (by omega) (by omega) (by omega)
    refine ⟨m, evEq hm fun k => ?_, by omega, by omega⟩
    simp only [laws_szItemS.f]; rw [w64 (by omega) (by omega), if_neg hneg]
    rfl
theorem szState_ev (x : List S94) (y : List S98) (hx : x.length ≤ 140737488351232) (hy : y.length ≤ 140737488351232) (hs : ∀ v ∈ x, v.f1.f4.size ≤ 140737488351232) (n : Int) (h0 : 0 ≤ n) (h1 : n ≤ 1048576) :
    ∃ m, Ev (fun k => laws_szState.f k x y n) m ∧ m ≤ n ∧ (0 ≤ m → x.length ≤ 1048576 ∧ y.length ≤ 1048576) := by
  obtain ⟨m, hm, hle, hb⟩ := szItemS_ev x hx hs n h0 h1
  by_cases hn : m < 0
  · refine ⟨-1, ?_, by omega, by omega⟩
    simp only [laws_szState.f]
    refine Ev.bind hm ?_
    simp only [if_pos hn]; exact evSome _
  · by_cases hneg : m - (y.length : Int) < 0
    · refine ⟨-1, ?_, by omega, by omega⟩
      simp only [laws_szState.f, laws_szFloorS.f]
      refine Ev.bind hm ?_
      simp only [if_neg hn]
      rw [w64 (by omega) (by omega)]
      simp only [if_pos hneg, Option.bind_some]; exact evSome _
    · refine ⟨m - (y.length : Int), ?_, by omega, fun _ => ⟨hb (by omega), by omega⟩⟩
      simp only [laws_szState.f, laws_szFloorS.f]
      refine Ev.bind hm ?_
      simp only [if_neg hn]
      rw [w64 (by omega) (by omega)]
      simp only [if_neg hneg, Option.bind_some]; exact evSome _
theorem eqEntry_self (a b c d : Int) (s : ByteArray) : laws_eqEntry.f a b c d s a b c d s = some true := by
  simp only [laws_eqEntry.f, if_true]
theorem eqItemS_l (x : List S68) (hx : x.length ≤ 2097152) : ∀ (d i : Nat), i + d = x.length → Ev (fun k => laws_eqItemS.l0 k x x (i : Int)) true := by
  intro d
  induction d with
  | zero =>
    intro i h
    refine evRet fun k => ?_
    simp only [laws_eqItemS.l0]; rw [if_neg (by omega)]
  | succ d ih =>
    intro i h
    refine evStep (ih (i + 1) (by omega)) fun k => ?_
    simp only [laws_eqItemS.l0, laws_eqItem.f, eqEntry_self, Option.bind_some, if_true]
    rw [if_pos (by omega), if_pos (by omega), if_pos (by omega), w64 (by omega) (by omega)]
    rfl
theorem eqItemS_ev (x : List S68) (hx : x.length ≤ 2097152) : Ev (fun k => laws_eqItemS.f k x x) true := by
  refine evEq (eqItemS_l x hx x.length 0 (by omega)) fun k => ?_
  simp only [laws_eqItemS.f, if_true]; rfl
theorem eqFloorS_l (x : List S72) (hx : x.length ≤ 2097152) : ∀ (d i : Nat), i + d = x.length → Ev (fun k => laws_eqFloorS.l0 k x x (i : Int)) true := by
  intro d
  induction d with
  | zero =>
    intro i h
    refine evRet fun k => ?_
    simp only [laws_eqFloorS.l0]; rw [if_neg (by omega)]
  | succ d ih =>
    intro i h
    refine evStep (ih (i + 1) (by omega)) fun k => ?_
    simp only [laws_eqFloorS.l0, laws_eqFloor.f, Option.bind_some, if_true]
    rw [if_pos (by omega), if_pos (by omega), if_pos (by omega), w64 (by omega) (by omega)]
    rfl
theorem eqFloorS_ev (x : List S72) (hx : x.length ≤ 2097152) : Ev (fun k => laws_eqFloorS.f k x x) true := by
  refine evEq (eqFloorS_l x hx x.length 0 (by omega)) fun k => ?_
  simp only [laws_eqFloorS.f, if_true]; rfl
theorem eqState_ev (x : List S68) (y : List S72) (hx : x.length ≤ 2097152) (hy : y.length ≤ 2097152) : Ev (fun k => laws_eqState.f k x y x y) true := by
  simp only [laws_eqState.f]
  refine Ev.bind (eqItemS_ev x hx) ?_
  simp only [if_true]
  refine Ev.bind (eqFloorS_ev y hy) ?_
  simp only [if_true]
  exact evSome _

def entOf : List S68 → Int → Int × Int × Int × Int × ByteArray × Bool
  | [], _ => (0, 0, 0, 0, (⟨#[]⟩ : ByteArray), false)
  | x :: r, a => if x.f0 = a then (x.f1.f0, x.f1.f1, x.f1.f2, x.f1.f3, x.f1.f4, true) else entOf r a
theorem spec_EntryOf_l (l : List S68) (fl : List S72) (a : Int) (hl : l.length ≤ 2097152) : ∀ (d i : Nat), i + d = l.length → Ev (fun k => spec_EntryOf.l0 k a (i : Int) l fl) (entOf (l.drop i) a) := by
  intro d
  induction d with
  | zero =>
    intro i h
    rw [List.drop_eq_nil_of_le (by omega)]
    exact evRet fun k => by simp only [spec_EntryOf.l0]; rw [if_neg (by omega)]; rfl
  | succ d ih =>
    intro i h
    have hi : i < l.length := by omega
    rw [List.drop_eq_getElem_cons hi]
    by_cases he : l[i].f0 = a
    · refine evRet fun k => ?_
      simp only [spec_EntryOf.l0, entOf]
      rw [if_pos (by omega), if_pos (by omega), rdI hi, if_pos he, if_pos he]
    · have := ih (i + 1) (by omega)
      simp only [entOf]
      rw [if_neg he]
      refine evStep this fun k => ?_
      simp only [spec_EntryOf.l0]
      rw [if_pos (by omega), if_pos (by omega), rdI hi, if_neg he, w64 (by omega) (by omega)]
      rfl
theorem spec_EntryOf_ev (l : List S68) (fl : List S72) (a : Int) (hl : l.length ≤ 2097152) : Ev (fun k => spec_EntryOf.f k l fl a) (entOf l a) :=
  evEq (spec_EntryOf_l l fl a hl l.length 0 (by omega)) fun k => rfl
theorem impl_EntryOf_l (l : List S68) (a : Int) (hl : l.length ≤ 2097152) : ∀ (d i : Nat), i + d = l.length → Ev (fun k => impl_EntryOf.l0 k a l (l.length : Int) (i : Int)) (entOf (l.drop i) a) := by
  intro d
  induction d with
  | zero =>
    intro i h
    rw [List.drop_eq_nil_of_le (by omega)]
    exact evRet fun k => by simp only [impl_EntryOf.l0]; rw [if_neg (by omega)]; rfl
  | succ d ih =>
    intro i h
    have hi : i < l.length := by omega
    rw [List.drop_eq_getElem_cons hi]
    by_cases he : l[i].f0 = a
    · refine evRet fun k => ?_
      simp only [impl_EntryOf.l0, entOf]
      rw [if_pos (by omega), if_pos (by omega), if_pos (by omega), rdI hi, if_pos he, if_pos he]
    · have := ih (i + 1) (by omega)
      simp only [entOf]
      rw [if_neg he]
      refine evStep this fun k => ?_
      simp only [impl_EntryOf.l0]
      rw [if_pos (by omega), if_pos (by omega), if_pos (by omega), rdI hi, if_neg he, w64 (by omega) (by omega)]
      rfl
theorem impl_EntryOf_ev (l : List S68) (fl : List S72) (a : Int) (hl : l.length ≤ 2097152) : Ev (fun k => impl_EntryOf.f k l fl a) (entOf l a) :=
  evEq (impl_EntryOf_l l a hl l.length 0 (by omega)) fun k => rfl

def floOf : List S72 → Int → Int
  | [], _ => 0
  | x :: r, a => if x.f0 = a then x.f1 else floOf r a
theorem spec_FloorOf_l (l : List S72) (il : List S68) (a : Int) (hl : l.length ≤ 2097152) : ∀ (d i : Nat), i + d = l.length → Ev (fun k => spec_FloorOf.l0 k a (i : Int) il l) (floOf (l.drop i) a) := by
  intro d
  induction d with
  | zero =>
    intro i h
    rw [List.drop_eq_nil_of_le (by omega)]
    exact evRet fun k => by simp only [spec_FloorOf.l0]; rw [if_neg (by omega)]; rfl
  | succ d ih =>
    intro i h
    have hi : i < l.length := by omega
    rw [List.drop_eq_getElem_cons hi]
    by_cases he : l[i].f0 = a
    · refine evRet fun k => ?_
      simp only [spec_FloorOf.l0, floOf]
      rw [if_pos (by omega), if_pos (by omega), rdF hi, if_pos he, if_pos he]
    · have := ih (i + 1) (by omega)
      simp only [floOf]
      rw [if_neg he]
      refine evStep this fun k => ?_
      simp only [spec_FloorOf.l0]
      rw [if_pos (by omega), if_pos (by omega), rdF hi, if_neg he, w64 (by omega) (by omega)]
      rfl
theorem spec_FloorOf_ev (l : List S72) (il : List S68) (a : Int) (hl : l.length ≤ 2097152) : Ev (fun k => spec_FloorOf.f k il l a) (floOf l a) :=
  evEq (spec_FloorOf_l l il a hl l.length 0 (by omega)) fun k => rfl
theorem impl_FloorOf_l (l : List S72) (a : Int) (hl : l.length ≤ 2097152) : ∀ (d i : Nat), i + d = l.length → Ev (fun k => impl_FloorOf.l0 k a l (l.length : Int) (i : Int)) (floOf (l.drop i) a) := by
  intro d
  induction d with
  | zero =>
    intro i h
    rw [List.drop_eq_nil_of_le (by omega)]
    exact evRet fun k => by simp only [impl_FloorOf.l0]; rw [if_neg (by omega)]; rfl
  | succ d ih =>
    intro i h
    have hi : i < l.length := by omega
    rw [List.drop_eq_getElem_cons hi]
    by_cases he : l[i].f0 = a
    · refine evRet fun k => ?_
      simp only [impl_FloorOf.l0, floOf]
      rw [if_pos (by omega), if_pos (by omega), if_pos (by omega), rdF hi, if_pos he, if_pos he]
    · have := ih (i + 1) (by omega)
      simp only [floOf]
      rw [if_neg he]
      refine evStep this fun k => ?_
      simp only [impl_FloorOf.l0]
      rw [if_pos (by omega), if_pos (by omega), if_pos (by omega), rdF hi, if_neg he, w64 (by omega) (by omega)]
      rfl
theorem impl_FloorOf_ev (l : List S72) (il : List S68) (a : Int) (hl : l.length ≤ 2097152) : Ev (fun k => impl_FloorOf.f k il l a) (floOf l a) :=
  evEq (impl_FloorOf_l l a hl l.length 0 (by omega)) fun k => rfl

theorem spec_l1In_eq (a b c : Int) : spec_l1In.f a b c = some (decide (b ≤ a ∧ a ≤ c)) := by
  unfold spec_l1In.f
  by_cases h : a ≥ b
  · rw [if_pos h]; simp [show b ≤ a from h]
  · rw [if_neg h]; simp [show ¬ b ≤ a from h]
theorem impl_within_eq (a b c : Int) : impl_within.f a b c = some (decide (b ≤ a ∧ a ≤ c)) := by
  unfold impl_within.f
  by_cases h : a ≥ b
  · rw [if_pos h]; simp [show b ≤ a from h]
  · rw [if_neg h]; simp [show ¬ b ≤ a from h]

def entryOkB (i r b v : Int) (s : ByteArray) : Bool := decide (1 ≤ i ∧ i ≤ 1000) && (decide (0 ≤ r ∧ r ≤ 1) && (decide (0 ≤ b ∧ b ≤ 100000) && (decide (0 ≤ v ∧ v ≤ 1000) && decide ((s.size : Int) ≤ 8))))
theorem ite_some {b c : Bool} : (if b = true then some c else some false) = some (b && c) := by cases b <;> rfl
theorem spec_EntryOk_eq (i r b v : Int) (s : ByteArray) : spec_EntryOk.f i r b v s = some (entryOkB i r b v s) := by
  simp only [spec_EntryOk.f, spec_l1In_eq, Option.bind_some, ite_some, entryOkB]
theorem impl_EntryOk_eq (i r b v : Int) (s : ByteArray) : impl_EntryOk.f i r b v s = some (entryOkB i r b v s) := by
  simp only [impl_EntryOk.f, impl_within_eq, Option.bind_some, ite_some, entryOkB]

def nodeB (a : Int) : Bool := decide (0 ≤ a ∧ a ≤ 4)
def okI (b : List S72) : Option Int → List S68 → Bool
  | _, [] => true
  | p, x :: r => nodeB x.f0 && (!(match p with | none => false | some q => decide (x.f0 ≤ q)) && (entryOkB x.f1.f0 x.f1.f1 x.f1.f2 x.f1.f3 x.f1.f4 && (!(decide (x.f1.f0 ≤ floOf b x.f0)) && okI b (some x.f0) r)))
def okF : Option Int → List S72 → Bool
  | _, [] => true
  | p, x :: r => nodeB x.f0 && (!(match p with | none => false | some q => decide (x.f0 ≤ q)) && (decide (1 ≤ x.f1 ∧ x.f1 ≤ 1000) && okF (some x.f0) r))
def okS (a : List S68) (b : List S72) : Bool := okI b none a && okF none b
def prevI (a : List S68) : Nat → Option Int
  | 0 => none
  | i + 1 => (a[i]?).map (·.f0)
def prevF (a : List S72) : Nat → Option Int
  | 0 => none
  | i + 1 => (a[i]?).map (·.f0)
theorem spec_l3Node_eq (a : Int) : spec_l3Node.f a = some (nodeB a) := by
  simp only [spec_l3Node.f, spec_l1In_eq, Option.bind_some, nodeB]
theorem impl_isNode_eq (a : Int) : impl_isNode.f a = some (nodeB a) := by
  simp only [impl_isNode.f, impl_within_eq, Option.bind_some, nodeB]
theorem spec_Ok_l1 (a : List S68) (b : List S72) (hb : b.length ≤ 2097152) : ∀ (m i : Nat), i + m = b.length → Ev (fun k => spec_StateOk.l1 k (i : Int) a b) (okF (prevF b i) (b.drop i)) := by
  intro m
  induction m with
  | zero =>
    intro i h
    rw [List.drop_eq_nil_of_le (by omega)]
    exact evRet fun k => by simp only [spec_StateOk.l1]; rw [if_neg (by omega)]; simp only [okF]
  | succ m ih =>
    intro i h
    have hi : i < b.length := by omega
    have hx := ih (i + 1) (by omega)
    rw [List.drop_eq_getElem_cons hi]
    simp only [okF]
    refine evSucc ?_
    simp only [spec_StateOk.l1, rdF hi, spec_l3Node_eq, spec_l1In_eq, Option.bind_some]
    simp only [if_pos (show (i : Int) < (b.length : Int) by omega), if_pos (show (0 : Int) ≤ (i : Int) by omega), w64 (show (-9223372036854775808 : Int) ≤ (i : Int) + 1 by omega) (by omega)]
    have hp : prevF b (i + 1) = some b[i].f0 := by simp [prevF, hi]
    rw [hp] at hx
    by_cases c1 : nodeB b[i].f0 = true
    · simp only [if_pos c1]
      simp only [c1, Bool.true_and]
      cases i with
      | zero =>
        simp only [if_neg (show ¬ ((0 : Nat) : Int) > 0 by omega), prevF, Bool.not_false, Bool.true_and]
        by_cases c3 : decide ((1 : Int) ≤ b[0].f1 ∧ b[0].f1 ≤ 1000) = true
        · simp only [if_pos c3]; simp only [c3, Bool.true_and]; exact hx
        · simp only [if_neg c3]; simp only [Bool.not_eq_true] at c3; simp only [c3, Bool.false_and]; exact evSome _
      | succ j =>
        have hj : j < b.length := by omega
        have e1 : (((j + 1 : Nat) : Int)) - 1 = (j : Int) := by omega
        simp only [if_pos (show ((j + 1 : Nat) : Int) > 0 by omega), e1, w64 (show (-9223372036854775808 : Int) ≤ (j : Int) by omega) (by omega), if_pos (show (0 : Int) ≤ (j : Int) by omega), if_pos (show (j : Int) < (b.length : Int) by omega), rdF hj]
        have hp2 : prevF b (j + 1) = some b[j].f0 := by simp [prevF, hj]
        simp only [hp2]
        by_cases c2 : b[j + 1].f0 ≤ b[j].f0
        · simp only [if_pos c2, decide_eq_true c2, Bool.not_true, Bool.false_and]; exact evSome _
        · simp only [if_neg c2, decide_eq_false c2, Bool.not_false, Bool.true_and]
          by_cases c3 : decide (1 ≤ b[j + 1].f1 ∧ b[j + 1].f1 ≤ 1000) = true
          · simp only [if_pos c3]; simp only [c3, Bool.true_and]; exact hx
          · simp only [if_neg c3]; simp only [Bool.not_eq_true] at c3; simp only [c3, Bool.false_and]; exact evSome _
    · simp only [if_neg c1]; simp only [Bool.not_eq_true] at c1; simp only [c1, Bool.false_and]; exact evSome _
theorem spec_Ok_l0 (a : List S68) (b : List S72) (ha : a.length ≤ 2097152) (hb : b.length ≤ 2097152) : ∀ (m i : Nat), i + m = a.length → Ev (fun k => spec_StateOk.l0 k (i : Int) a b) (okI b (prevI a i) (a.drop i) && okF none b) := by
  intro m
  induction m with
  | zero =>
    intro i h
    rw [List.drop_eq_nil_of_le (by omega)]
    refine evSucc ?_
    simp only [spec_StateOk.l0]
    simp only [if_neg (show ¬ (i : Int) < (a.length : Int) by omega)]
    simpa [okI, prevF] using spec_Ok_l1 a b hb b.length 0 (by omega)
  | succ m ih =>
    intro i h
    have hi : i < a.length := by omega
    have hx := ih (i + 1) (by omega)
    rw [List.drop_eq_getElem_cons hi]
    simp only [okI]
    refine evSucc ?_
    simp only [spec_StateOk.l0, rdI hi, spec_l3Node_eq, spec_EntryOk_eq, Option.bind_some]
    simp only [if_pos (show (i : Int) < (a.length : Int) by omega), if_pos (show (0 : Int) ≤ (i : Int) by omega), w64 (show (-9223372036854775808 : Int) ≤ (i : Int) + 1 by omega) (by omega)]
    have hp : prevI a (i + 1) = some a[i].f0 := by simp [prevI, hi]
    rw [hp] at hx
    have tail : Ev (fun k => if entryOkB a[i].f1.f0 a[i].f1.f1 a[i].f1.f2 a[i].f1.f3 a[i].f1.f4 = true then ((spec_FloorOf.f k a b a[i].f0).bind fun t => if a[i].f1.f0 ≤ t then some false else spec_StateOk.l0 k ((i : Int) + 1) a b) else some false)
        ((entryOkB a[i].f1.f0 a[i].f1.f1 a[i].f1.f2 a[i].f1.f3 a[i].f1.f4 && (!(decide (a[i].f1.f0 ≤ floOf b a[i].f0)) && okI b (some a[i].f0) (a.drop (i + 1)))) && okF none b) := by
      by_cases c1 : entryOkB a[i].f1.f0 a[i].f1.f1 a[i].f1.f2 a[i].f1.f3 a[i].f1.f4 = true
      · simp only [if_pos c1]
        simp only [c1, Bool.true_and]
        refine Ev.bind (spec_FloorOf_ev b a a[i].f0 hb) ?_
        by_cases c2 : a[i].f1.f0 ≤ floOf b a[i].f0
        · simp only [if_pos c2, decide_eq_true c2, Bool.not_true, Bool.false_and]; exact evSome _
        · simp only [if_neg c2, decide_eq_false c2, Bool.not_false, Bool.true_and]; exact hx
      · simp only [if_neg c1]; simp only [Bool.not_eq_true] at c1; simp only [c1, Bool.false_and]; exact evSome _
    by_cases c1 : nodeB a[i].f0 = true
    · simp only [if_pos c1]
      simp only [c1, Bool.true_and]
      cases i with
      | zero =>
        simp only [if_neg (show ¬ ((0 : Nat) : Int) > 0 by omega), prevI, Bool.not_false, Bool.true_and]
        exact tail
      | succ j =>
        have hj : j < a.length := by omega
        have e1 : (((j + 1 : Nat) : Int)) - 1 = (j : Int) := by omega
        simp only [if_pos (show ((j + 1 : Nat) : Int) > 0 by omega), e1, w64 (show (-9223372036854775808 : Int) ≤ (j : Int) by omega) (by omega), if_pos (show (0 : Int) ≤ (j : Int) by omega), if_pos (show (j : Int) < (a.length : Int) by omega), rdI hj]
        have hp2 : prevI a (j + 1) = some a[j].f0 := by simp [prevI, hj]
        simp only [hp2]
        by_cases c2 : a[j + 1].f0 ≤ a[j].f0
        · simp only [if_pos c2, decide_eq_true c2, Bool.not_true, Bool.false_and]; exact evSome _
        · simp only [if_neg c2, decide_eq_false c2, Bool.not_false, Bool.true_and]
          exact tail
    · simp only [if_neg c1]; simp only [Bool.not_eq_true] at c1; simp only [c1, Bool.false_and]; exact evSome _
theorem spec_StateOk_ev (a : List S68) (b : List S72) (ha : a.length ≤ 2097152) (hb : b.length ≤ 2097152) : Ev (fun k => spec_StateOk.f k a b) (okS a b) := by
  have := spec_Ok_l0 a b ha hb a.length 0 (by omega)
  simpa [spec_StateOk.f, okS, prevI] using this
theorem impl_Ok_l1 (a : List S68) (b : List S72) (ha : a.length ≤ 2097152) (hb : b.length ≤ 2097152) : ∀ (m i : Nat), i + m = a.length → Ev (fun k => impl_StateOk.l1 k a (a.length : Int) (i : Int) a b) (okI b (prevI a i) (a.drop i)) := by
  intro m
  induction m with
  | zero =>
    intro i h
    rw [List.drop_eq_nil_of_le (by omega)]
    exact evRet fun k => by simp only [impl_StateOk.l1]; rw [if_neg (by omega)]; simp only [okI]
  | succ m ih =>
    intro i h
    have hi : i < a.length := by omega
    have hx := ih (i + 1) (by omega)
    rw [List.drop_eq_getElem_cons hi]
    simp only [okI]
    refine evSucc ?_
    simp only [impl_StateOk.l1, rdI hi, impl_isNode_eq, impl_EntryOk_eq, Option.bind_some]
    simp only [if_pos (show (i : Int) < (a.length : Int) by omega), if_pos (show (0 : Int) ≤ (i : Int) by omega), w64 (show (-9223372036854775808 : Int) ≤ (i : Int) + 1 by omega) (by omega)]
    have hp : prevI a (i + 1) = some a[i].f0 := by simp [prevI, hi]
    rw [hp] at hx
    by_cases c1 : nodeB a[i].f0 = true
    · simp only [if_pos c1]
      simp only [c1, Bool.true_and]
      by_cases c2 : entryOkB a[i].f1.f0 a[i].f1.f1 a[i].f1.f2 a[i].f1.f3 a[i].f1.f4 = true
      · simp only [if_pos c2]
        simp only [c2, Bool.true_and]
        refine Ev.bind (impl_FloorOf_ev b a a[i].f0 hb) ?_
        by_cases c3 : a[i].f1.f0 ≤ floOf b a[i].f0
        · simp only [if_pos c3, decide_eq_true c3, Bool.not_true, Bool.false_and, Bool.and_false]; exact evSome _
        · simp only [if_neg c3, decide_eq_false c3, Bool.not_false, Bool.true_and]
          cases i with
          | zero =>
            simp only [if_neg (show ¬ ((0 : Nat) : Int) > 0 by omega), prevI, Bool.not_false, Bool.true_and]
            exact hx
          | succ j =>
            have hj : j < a.length := by omega
            have e1 : (((j + 1 : Nat) : Int)) - 1 = (j : Int) := by omega
            simp only [if_pos (show ((j + 1 : Nat) : Int) > 0 by omega), e1, w64 (show (-9223372036854775808 : Int) ≤ (j : Int) by omega) (by omega), if_pos (show (0 : Int) ≤ (j : Int) by omega), if_pos (show (j : Int) < (a.length : Int) by omega), rdI hj]
            have hp2 : prevI a (j + 1) = some a[j].f0 := by simp [prevI, hj]
            simp only [hp2]
            by_cases c4 : a[j + 1].f0 ≤ a[j].f0
            · simp only [if_pos (show a[j].f0 ≥ a[j + 1].f0 from c4), decide_eq_true c4, Bool.not_true, Bool.false_and]; exact evSome _
            · simp only [if_neg (show ¬ a[j].f0 ≥ a[j + 1].f0 from c4), decide_eq_false c4, Bool.not_false, Bool.true_and]
              exact hx
      · simp only [if_neg c2]; simp only [Bool.not_eq_true] at c2; simp only [c2, Bool.false_and, Bool.and_false]; exact evSome _
    · simp only [if_neg c1]; simp only [Bool.not_eq_true] at c1; simp only [c1, Bool.false_and]; exact evSome _
theorem impl_Ok_l0 (a : List S68) (b : List S72) (ha : a.length ≤ 2097152) (hb : b.length ≤ 2097152) : ∀ (m i : Nat), i + m = b.length → Ev (fun k => impl_StateOk.l0 k b (b.length : Int) (i : Int) a b) (okF (prevF b i) (b.drop i) && okI b none a) := by
  intro m
  induction m with
  | zero =>
    intro i h
    rw [List.drop_eq_nil_of_le (by omega)]
    refine evSucc ?_
    simp only [impl_StateOk.l0]
    simp only [if_neg (show ¬ (i : Int) < (b.length : Int) by omega)]
    simpa [okF, prevI] using impl_Ok_l1 a b ha hb a.length 0 (by omega)
  | succ m ih =>
    intro i h
    have hi : i < b.length := by omega
    have hx := ih (i + 1) (by omega)
    rw [List.drop_eq_getElem_cons hi]
    simp only [okF]
    refine evSucc ?_
    simp only [impl_StateOk.l0, rdF hi, impl_isNode_eq, impl_within_eq, Option.bind_some]
    simp only [if_pos (show (i : Int) < (b.length : Int) by omega), if_pos (show (0 : Int) ≤ (i : Int) by omega), w64 (show (-9223372036854775808 : Int) ≤ (i : Int) + 1 by omega) (by omega)]
    have hp : prevF b (i + 1) = some b[i].f0 := by simp [prevF, hi]
    rw [hp] at hx
    by_cases c1 : nodeB b[i].f0 = true
    · simp only [if_pos c1]
      simp only [c1, Bool.true_and]
      by_cases c3 : decide (1 ≤ b[i].f1 ∧ b[i].f1 ≤ 1000) = true
      · simp only [if_pos c3]; simp only [c3, Bool.true_and]
        cases i with
        | zero =>
          simp only [if_neg (show ¬ ((0 : Nat) : Int) > 0 by omega), prevF, Bool.not_false, Bool.true_and]
          exact hx
        | succ j =>
          have hj : j < b.length := by omega
          have e1 : (((j + 1 : Nat) : Int)) - 1 = (j : Int) := by omega
          simp only [if_pos (show ((j + 1 : Nat) : Int) > 0 by omega), e1, w64 (show (-9223372036854775808 : Int) ≤ (j : Int) by omega) (by omega), if_pos (show (0 : Int) ≤ (j : Int) by omega), if_pos (show (j : Int) < (b.length : Int) by omega), rdF hj]
          have hp2 : prevF b (j + 1) = some b[j].f0 := by simp [prevF, hj]
          simp only [hp2]
          by_cases c2 : b[j + 1].f0 ≤ b[j].f0
          · simp only [if_pos (show b[j].f0 ≥ b[j + 1].f0 from c2), decide_eq_true c2, Bool.not_true, Bool.false_and]; exact evSome _
          · simp only [if_neg (show ¬ b[j].f0 ≥ b[j + 1].f0 from c2), decide_eq_false c2, Bool.not_false, Bool.true_and]
            exact hx
      · simp only [if_neg c3]; simp only [Bool.not_eq_true] at c3; simp only [c3, Bool.false_and, Bool.and_false]; exact evSome _
    · simp only [if_neg c1]; simp only [Bool.not_eq_true] at c1; simp only [c1, Bool.false_and]; exact evSome _
theorem impl_StateOk_ev (a : List S68) (b : List S72) (ha : a.length ≤ 2097152) (hb : b.length ≤ 2097152) : Ev (fun k => impl_StateOk.f k a b) (okS a b) := by
  have := impl_Ok_l0 a b ha hb b.length 0 (by omega)
  rw [Bool.and_comm] at this
  simpa [impl_StateOk.f, okS, prevF] using this

def cmpI (a b : Int) : Int := if a < b then -1 else if a > b then 1 else 0
def nz : List Int → Int → Int
  | [], t => t
  | x :: r, t => if x = 0 then nz r t else x
def ecmp (a0 a1 a2 a3 : Int) (a4 : ByteArray) (b0 b1 b2 b3 : Int) (b4 : ByteArray) : Int := nz [cmpI a0 b0, cmpI a1 b1, cmpI a2 b2, cmpI a3 b3] (Lib.compareBytes a4.data.toList b4.data.toList)
theorem u8_lt_or (a b : UInt8) : a < b ∨ a = b ∨ b < a := by
  rcases Nat.lt_trichotomy a.toNat b.toNat with h | h | h
  · exact .inl (UInt8.lt_iff_toNat_lt.2 h)
  · exact .inr (.inl (UInt8.toNat_inj.1 h))
  · exact .inr (.inr (UInt8.lt_iff_toNat_lt.2 h))
theorem u8_irrefl (a : UInt8) : ¬ a < a := fun h => Nat.lt_irrefl _ (UInt8.lt_iff_toNat_lt.1 h)
theorem u8_asymm {a b : UInt8} (h : a < b) : ¬ b < a := fun h2 => Nat.lt_asymm (UInt8.lt_iff_toNat_lt.1 h) (UInt8.lt_iff_toNat_lt.1 h2)
theorem cmpB_eq : ∀ (x y : List UInt8), Lib.compareBytes x y = if Op.bytesLess x y = true then -1 else if (!(x == y)) = true then 1 else 0
  | [], [] => by simp [Lib.compareBytes, Op.bytesLess]
  | [], b :: q => by simp [Lib.compareBytes, Op.bytesLess]
  | a :: p, [] => by simp [Lib.compareBytes, Op.bytesLess]
  | a :: p, b :: q => by
    unfold Lib.compareBytes Op.bytesLess
    rw [cmpB_eq p q]
    rcases u8_lt_or a b with h | h | h
    · simp [h]
    · subst h; simp [u8_irrefl]
    · have h1 := u8_asymm h
      have h2 : a ≠ b := fun e => by subst e; exact u8_irrefl _ h
      simp [h, h1, h2]
theorem spec_l2Cmp_eq (a b : Int) : spec_l2Cmp.f a b = some (cmpI a b) := by
  simp only [spec_l2Cmp.f, spec_l1Bit.f, cmpI]
  by_cases h : a < b
  · rw [if_pos h, if_pos h]
  · rw [if_neg h, if_neg h]
    by_cases h2 : a > b
    · simp [h2]
    · simp [h2]
theorem cmp_Compare_eq (a b : Int) : cmp_Compare_int.f a b = some (cmpI a b) := by
  simp only [cmp_Compare_int.f, cmp_isNaN_int.f, cmpI, Option.bind_some, bne_self_eq_false]
  by_cases h : a < b
  · simp [h]
  · by_cases h2 : a > b
    · simp [h, h2]
    · simp [h, h2]
theorem cmp_Or_l (l : List Int) (hl : l.length ≤ 1099511627776) : ∀ (d i : Nat), i + d = l.length → Ev (fun k => cmp_Or_int.l0 k 0 l (l.length : Int) (i : Int)) (nz (l.drop i) 0) := by
  intro d
  induction d with
  | zero =>
    intro i h
    rw [List.drop_eq_nil_of_le (by omega)]
    exact evRet fun k => by simp only [cmp_Or_int.l0]; rw [if_neg (by omega)]; rfl
  | succ d ih =>
    intro i h
    have hi : i < l.length := by omega
    rw [List.drop_eq_getElem_cons hi]
    by_cases hz : l[i] = 0
    · have := ih (i + 1) (by omega)
      refine evStep (by simpa only [nz, if_pos hz] using this) fun k => ?_
      simp only [cmp_Or_int.l0]
      rw [if_pos (by omega), if_pos (by omega), if_pos (by omega), rd_nat hi, if_pos hz, w64 (by omega) (by omega)]
      rfl
    · refine evRet fun k => ?_
      simp only [cmp_Or_int.l0]
      rw [if_pos (by omega), if_pos (by omega), if_pos (by omega), rd_nat hi, if_neg hz]
      simp only [nz, if_neg hz]
theorem cmp_Or_ev (l : List Int) (hl : l.length ≤ 1099511627776) : Ev (fun k => cmp_Or_int.f k l) (nz l 0) :=
  evEq (cmp_Or_l l hl l.length 0 (by omega)) fun k => rfl
theorem nz_snoc (t : Int) : ∀ (l : List Int), nz (l ++ [t]) 0 = nz l t
  | [] => by simp only [List.nil_append, nz]; split <;> simp_all
  | x :: r => by simp only [List.cons_append, nz, nz_snoc t r]
theorem impl_EntryCmp_ev (a0 a1 a2 a3 : Int) (a4 : ByteArray) (b0 b1 b2 b3 : Int) (b4 : ByteArray) : Ev (fun k => impl_EntryCmp.f k a0 a1 a2 a3 a4 b0 b1 b2 b3 b4) (ecmp a0 a1 a2 a3 a4 b0 b1 b2 b3 b4) := by
  simp only [impl_EntryCmp.f, cmp_Compare_eq, strings_Compare.f, Option.bind_some]
  refine Ev.bind (cmp_Or_ev _ (by simp)) ?_
  have : nz [cmpI a0 b0, cmpI a1 b1, cmpI a2 b2, cmpI a3 b3, Lib.compareBytes a4.data.toList b4.data.toList] 0 = ecmp a0 a1 a2 a3 a4 b0 b1 b2 b3 b4 := nz_snoc (Lib.compareBytes a4.data.toList b4.data.toList) [cmpI a0 b0, cmpI a1 b1, cmpI a2 b2, cmpI a3 b3]
  rw [this]
  exact evSome _
theorem spec_EntryCmp_l (l : List Int) (hl : l.length ≤ 1099511627776) (a0 a1 a2 a3 : Int) (a4 : ByteArray) (b0 b1 b2 b3 : Int) (b4 : ByteArray) : ∀ (d i : Nat), i + d = l.length →
    Ev (fun k => spec_EntryCmp.l0 k l (i : Int) a0 a1 a2 a3 a4 b0 b1 b2 b3 b4) (nz (l.drop i) (Lib.compareBytes a4.data.toList b4.data.toList)) := by
  intro d
  induction d with
  | zero =>
    intro i h
    rw [List.drop_eq_nil_of_le (by omega)]
    refine evRet fun k => ?_
    simp only [spec_EntryCmp.l0]
    rw [if_neg (by omega)]
    simp only [nz, cmpB_eq, Lib.toList_data, spec_l1Bit.f]
    by_cases h1 : Op.bytesLess a4.data.toList b4.data.toList = true
    · rw [if_pos h1, if_pos h1]
    · rw [if_neg h1, if_neg h1]
      split <;> rfl
  | succ d ih =>
    intro i h
    have hi : i < l.length := by omega
    rw [List.drop_eq_getElem_cons hi]
    by_cases hz : l[i] = 0
    · have := ih (i + 1) (by omega)
      refine evStep (by simpa only [nz, if_pos hz] using this) fun k => ?_
      simp only [spec_EntryCmp.l0]
      rw [if_pos (by omega), if_pos (by omega), rd_nat hi, if_pos hz, w64 (by omega) (by omega)]
      rfl
    · refine evRet fun k => ?_
      simp only [spec_EntryCmp.l0]
      rw [if_pos (by omega), if_pos (by omega), rd_nat hi, if_neg hz]
      simp only [nz, if_neg hz]
theorem spec_EntryCmp_ev (a0 a1 a2 a3 : Int) (a4 : ByteArray) (b0 b1 b2 b3 : Int) (b4 : ByteArray) : Ev (fun k => spec_EntryCmp.f k a0 a1 a2 a3 a4 b0 b1 b2 b3 b4) (ecmp a0 a1 a2 a3 a4 b0 b1 b2 b3 b4) := by
  simp only [spec_EntryCmp.f, spec_l2Cmp_eq, Option.bind_some]
  exact spec_EntryCmp_l [cmpI a0 b0, cmpI a1 b1, cmpI a2 b2, cmpI a3 b3] (by simp) a0 a1 a2 a3 a4 b0 b1 b2 b3 b4 4 0 (by simp)
theorem szEntry_some (i r b v : Int) (s : ByteArray) (n : Int) : ∃ m, laws_szEntry.f i r b v s n = some m := by
  unfold laws_szEntry.f
  split <;> exact ⟨_, rfl⟩

theorem markText_l : ∀ (d : Nat) (n : Int) (acc : ByteArray), n ≤ (d : Int) → acc.size + d ≤ 9223372036854775806 → ∃ t, Ev (fun k => laws_markText.l0 k n acc) t := by
  intro d
  induction d with
  | zero =>
    intro n acc hn hs
    refine ⟨(⟨#[109]⟩ : ByteArray) ++ acc, evRet fun k => ?_⟩
    simp only [laws_markText.l0]; rw [if_neg (by omega), if_pos (by omega)]
  | succ d ih =>
    intro n acc hn hs
    by_cases h : n > 0
    · have hd : Int.tdiv n 10 = n / 10 := tdiv_pos (by omega)
      obtain ⟨t, ht⟩ := ih (n / 10) ((strOfNums [(wrap64 (48 + (Int.tmod n 10))) % 256]) ++ acc) (by omega) (by
        rw [ByteArray.size_append]
        have : (strOfNums [(wrap64 (48 + (Int.tmod n 10))) % 256]).size = 1 := by simp [strOfNums, ByteArray.size]
        omega)
      refine ⟨t, evStep ht fun k => ?_⟩
      have : (strOfNums [(wrap64 (48 + (Int.tmod n 10))) % 256]).size = 1 := by simp [strOfNums, ByteArray.size]
      simp only [laws_markText.l0, Option.bind_some]
      rw [if_pos h, if_pos (by omega), hd, w64 (n := n / 10) (by omega) (by omega)]
    · refine ⟨(⟨#[109]⟩ : ByteArray) ++ acc, evRet fun k => ?_⟩
      simp only [laws_markText.l0]; rw [if_neg h, if_pos (by omega)]
theorem markText_ex (n : Int) (h : n ≤ 1099511627776) : ∃ t, Ev (fun k => laws_markText.f k n) t := by
  by_cases h0 : n ≤ 0
  · exact ⟨_, evEq (evSome _) fun k => by simp only [laws_markText.f]; rw [if_pos h0]⟩
  · obtain ⟨t, ht⟩ := markText_l 1099511627776 n (⟨#[]⟩ : ByteArray) (by omega) (by simp [ByteArray.size])
    exact ⟨t, evEq ht fun k => by simp only [laws_markText.f]; rw [if_neg h0]⟩
open Classical in
noncomputable def markT (n : Int) : ByteArray := if h : ∃ t, Ev (fun k => laws_markText.f k n) t then Classical.choose h else ⟨#[]⟩
theorem markT_ev (n : Int) (h : n ≤ 1099511627776) : Ev (fun k => laws_markText.f k n) (markT n) := by
  have := markText_ex n h
  unfold markT
  rw [dif_pos this]
  exact Classical.choose_spec this
noncomputable def markIt (m : Int) : S68 := ⟨m, ⟨m + 1, m + 2, m + 3, m + 4, markT (m + 5)⟩⟩
noncomputable def markIs : Nat → Int → List S68
  | 0, _ => []
  | n + 1, m => markIt m :: markIs n (m + 6)
def markFs : Nat → Int → List S72
  | 0, _ => []
  | n + 1, m => ⟨m, m + 1⟩ :: markFs n (m + 2)
theorem markIs_len : ∀ n m, (markIs n m).length = n
  | 0, _ => rfl
  | n + 1, m => by simp only [markIs, List.length_cons, markIs_len n]
theorem markFs_len : ∀ n m, (markFs n m).length = n
  | 0, _ => rfl
  | n + 1, m => by simp only [markFs, List.length_cons, markFs_len n]
theorem setI_take {α : Type} {l : List α} {i : Nat} {v : α} (h : i < l.length) : (l.set i v).take (i + 1) = l.take i ++ [v] := by
  rw [List.take_succ_eq_append_getElem (by simpa using h), List.take_set_of_le (Nat.le_refl i), List.getElem_set_self]
theorem markItemS_l : ∀ (d i : Nat) (l : List S68) (m : Int), i + d = l.length → l.length ≤ 2097152 → 0 ≤ m → m + 6 * (d : Int) ≤ 1099511627776 →
    Ev (fun k => laws_markItemS.l0 k l m (i : Int)) (m + 6 * (d : Int), l.take i ++ markIs d m) := by
  intro d
  induction d with
  | zero =>
    intro i l m h _ _ _
    refine evRet fun k => ?_
    simp only [laws_markItemS.l0]; rw [if_neg (by omega), List.take_of_length_le (by omega)]; simp [markIs]
  | succ d ih =>
    intro i l m h hl h0 h1
    have hi : i < l.length := by omega
    have hx := ih (i + 1) (l.set i (markIt m)) (m + 6) (by simp; omega) (by simpa using hl) (by omega) (by omega)
    rw [setI_take hi, List.append_assoc, List.singleton_append, show m + 6 + 6 * (d : Int) = m + 6 * ((d + 1 : Nat) : Int) by omega] at hx
    refine evSucc ?_
    simp only [laws_markItemS.l0, Option.bind_some, rdI hi]
    simp only [if_pos (show (i : Int) < (l.length : Int) by omega), if_pos (show (0 : Int) ≤ (i : Int) by omega), w64 (show (-9223372036854775808 : Int) ≤ (i : Int) + 1 by omega) (by omega)]
    simp only [Int.toNat_natCast]
    have hr : ∀ v : S68, rd_T68 (l.set i v) (i : Int) = v := fun v => by
      rw [rdI (by simpa using hi), List.getElem_set_self]
    simp only [hr, List.set_set]
    simp only [w64 (n := m + 1) (by omega) (by omega), w64 (n := m + 1 + 1) (by omega) (by omega), w64 (n := m + 1 + 1 + 1) (by omega) (by omega), w64 (n := m + 1 + 1 + 1 + 1) (by omega) (by omega), w64 (n := m + 1 + 1 + 1 + 1 + 1) (by omega) (by omega), w64 (n := m + 1 + 1 + 1 + 1 + 1 + 1) (by omega) (by omega)]
    have e1 : m + 1 + 1 = m + 2 := by omega
    have e2 : m + 2 + 1 = m + 3 := by omega
    have e3 : m + 3 + 1 = m + 4 := by omega
    have e4 : m + 4 + 1 = m + 5 := by omega
    have e5 : m + 5 + 1 = m + 6 := by omega
    simp only [e1, e2, e3, e4, e5]
    refine Ev.bind (markT_ev (m + 5) (by omega)) ?_
    exact hx
theorem markItemS_ev (l : List S68) (m : Int) (hl : l.length ≤ 2097152) (h0 : 0 ≤ m) (h1 : m ≤ 1000000000) : Ev (fun k => laws_markItemS.f k l m) (m + 6 * (l.length : Int), markIs l.length m) := by
  have := markItemS_l l.length 0 l m (by omega) hl h0 (by omega)
  simpa [laws_markItemS.f] using this
theorem markFloorS_l : ∀ (d i : Nat) (l : List S72) (m : Int), i + d = l.length → l.length ≤ 2097152 → 0 ≤ m → m + 2 * (d : Int) ≤ 1099511627776 →
    Ev (fun k => laws_markFloorS.l0 k l m (i : Int)) (m + 2 * (d : Int), l.take i ++ markFs d m) := by
  intro d
  induction d with
  | zero =>
    intro i l m h _ _ _
    refine evRet fun k => ?_
    simp only [laws_markFloorS.l0]; rw [if_neg (by omega), List.take_of_length_le (by omega)]; simp [markFs]
  | succ d ih =>
    intro i l m h hl h0 h1
    have hi : i < l.length := by omega
    have hx := ih (i + 1) (l.set i ⟨m, m + 1⟩) (m + 2) (by simp; omega) (by simpa using hl) (by omega) (by omega)
    rw [setI_take hi, List.append_assoc, List.singleton_append, show m + 2 + 2 * (d : Int) = m + 2 * ((d + 1 : Nat) : Int) by omega] at hx
    refine evSucc ?_
    simp only [laws_markFloorS.l0, Option.bind_some, rdF hi]
    simp only [if_pos (show (i : Int) < (l.length : Int) by omega), if_pos (show (0 : Int) ≤ (i : Int) by omega), w64 (show (-9223372036854775808 : Int) ≤ (i : Int) + 1 by omega) (by omega)]
    simp only [Int.toNat_natCast]
    have hr : ∀ v : S72, rd_T72 (l.set i v) (i : Int) = v := fun v => by
      rw [rdF (by simpa using hi), List.getElem_set_self]
    simp only [hr, List.set_set]
    simp only [w64 (n := m + 1) (by omega) (by omega), w64 (n := m + 1 + 1) (by omega) (by omega)]
    have e1 : m + 1 + 1 = m + 2 := by omega
    simp only [e1]
    exact hx
theorem markFloorS_ev (l : List S72) (m : Int) (hl : l.length ≤ 2097152) (h0 : 0 ≤ m) (h1 : m ≤ 1000000000) : Ev (fun k => laws_markFloorS.f k l m) (m + 2 * (l.length : Int), markFs l.length m) := by
  have := markFloorS_l l.length 0 l m (by omega) hl h0 (by omega)
  simpa [laws_markFloorS.f] using this
theorem markState_ev (l : List S68) (fl : List S72) (m : Int) (hl : l.length ≤ 2097152) (hf : fl.length ≤ 2097152) (h0 : 0 ≤ m) (h1 : m ≤ 100000000) :
    Ev (fun k => laws_markState.f k l fl m) (m + 6 * (l.length : Int) + 2 * (fl.length : Int), markIs l.length m, markFs fl.length (m + 6 * (l.length : Int))) := by
  simp only [laws_markState.f]
  refine Ev.bind (markItemS_ev l m hl h0 (by omega)) ?_
  refine Ev.bind (markFloorS_ev fl _ hf (by show 0 ≤ m + _; omega) (by show m + _ ≤ _; omega)) ?_
  exact evSome _
theorem heldItemS_l (l : List S68) (hl : l.length ≤ 2097152) : ∀ (d i : Nat) (m : Int), i + d = l.length → l.drop i = markIs d m → 0 ≤ m → m + 6 * (d : Int) ≤ 1099511627776 →
    Ev (fun k => laws_heldItemS.l0 k l m (i : Int)) (m + 6 * (d : Int)) := by
  intro d
  induction d with
  | zero =>
    intro i m h _ _ _
    refine evRet fun k => ?_
    simp only [laws_heldItemS.l0]; rw [if_neg (by omega)]; simp
  | succ d ih =>
    intro i m h hd h0 h1
    have hi : i < l.length := by omega
    rw [List.drop_eq_getElem_cons hi] at hd
    simp only [markIs, List.cons.injEq] at hd
    obtain ⟨he, hd⟩ := hd
    have hx := ih (i + 1) (m + 6) (by omega) hd (by omega) (by omega)
    rw [show m + 6 + 6 * (d : Int) = m + 6 * ((d + 1 : Nat) : Int) by omega] at hx
    refine evSucc ?_
    simp only [laws_heldItemS.l0, rdI hi, he, markIt]
    simp only [if_pos (show (i : Int) < (l.length : Int) by omega), if_pos (show (0 : Int) ≤ (i : Int) by omega), w64 (show (-9223372036854775808 : Int) ≤ (i : Int) + 1 by omega) (by omega)]
    simp only [w64 (n := m + 1) (by omega) (by omega), w64 (n := m + 1 + 1) (by omega) (by omega), w64 (n := m + 1 + 1 + 1) (by omega) (by omega), w64 (n := m + 1 + 1 + 1 + 1) (by omega) (by omega), w64 (n := m + 1 + 1 + 1 + 1 + 1) (by omega) (by omega), w64 (n := m + 1 + 1 + 1 + 1 + 1 + 1) (by omega) (by omega)]
    have e1 : m + 1 + 1 = m + 2 := by omega
    have e2 : m + 2 + 1 = m + 3 := by omega
    have e3 : m + 3 + 1 = m + 4 := by omega
    have e4 : m + 4 + 1 = m + 5 := by omega
    have e5 : m + 5 + 1 = m + 6 := by omega
    simp only [e1, e2, e3, e4, e5, if_true]
    refine Ev.bind (markT_ev (m + 5) (by omega)) ?_
    simp only [if_true]
    exact hx
theorem heldItemS_ev (n : Nat) (m : Int) (hn : n ≤ 2097152) (h0 : 0 ≤ m) (h1 : m ≤ 1000000000) : Ev (fun k => laws_heldItemS.f k (markIs n m) m) (m + 6 * (n : Int)) := by
  have := heldItemS_l (markIs n m) (by rw [markIs_len]; omega) n 0 m (by rw [markIs_len]; omega) rfl h0 (by omega)
  simpa [laws_heldItemS.f] using this
theorem heldFloorS_l (l : List S72) (hl : l.length ≤ 2097152) : ∀ (d i : Nat) (m : Int), i + d = l.length → l.drop i = markFs d m → 0 ≤ m → m + 2 * (d : Int) ≤ 1099511627776 →
    Ev (fun k => laws_heldFloorS.l0 k l m (i : Int)) (m + 2 * (d : Int)) := by
  intro d
  induction d with
  | zero =>
    intro i m h _ _ _
    refine evRet fun k => ?_
    simp only [laws_heldFloorS.l0]; rw [if_neg (by omega)]; simp
  | succ d ih =>
    intro i m h hd h0 h1
    have hi : i < l.length := by omega
    rw [List.drop_eq_getElem_cons hi] at hd
    simp only [markFs, List.cons.injEq] at hd
    obtain ⟨he, hd⟩ := hd
    have hx := ih (i + 1) (m + 2) (by omega) hd (by omega) (by omega)
    rw [show m + 2 + 2 * (d : Int) = m + 2 * ((d + 1 : Nat) : Int) by omega] at hx
    refine evSucc ?_
    simp only [laws_heldFloorS.l0, rdF hi, he]
    simp only [if_pos (show (i : Int) < (l.length : Int) by omega), if_pos (show (0 : Int) ≤ (i : Int) by omega), w64 (show (-9223372036854775808 : Int) ≤ (i : Int) + 1 by omega) (by omega)]
    simp only [w64 (n := m + 1) (by omega) (by omega), w64 (n := m + 1 + 1) (by omega) (by omega)]
    have e1 : m + 1 + 1 = m + 2 := by omega
    simp only [e1, if_true]
    exact hx
theorem heldFloorS_ev (n : Nat) (m : Int) (hn : n ≤ 2097152) (h0 : 0 ≤ m) (h1 : m ≤ 1000000000) : Ev (fun k => laws_heldFloorS.f k (markFs n m) m) (m + 2 * (n : Int)) := by
  have := heldFloorS_l (markFs n m) (by rw [markFs_len]; omega) n 0 m (by rw [markFs_len]; omega) rfl h0 (by omega)
  simpa [laws_heldFloorS.f] using this
theorem heldState_ev (n q : Nat) (m : Int) (hn : n ≤ 2097152) (hq : q ≤ 2097152) (h0 : 0 ≤ m) (h1 : m ≤ 100000000) :
    Ev (fun k => laws_heldState.f k (markIs n m) (markFs q (m + 6 * (n : Int))) m) (m + 6 * (n : Int) + 2 * (q : Int)) := by
  simp only [laws_heldState.f]
  refine Ev.bind (heldItemS_ev n m hn h0 (by omega)) ?_
  simp only [if_neg (show ¬ m + 6 * (n : Int) < 0 by omega)]
  refine Ev.bind (heldFloorS_ev q _ hq (by omega) (by omega)) ?_
  simp only [if_neg (show ¬ m + 6 * (n : Int) + 2 * (q : Int) < 0 by omega)]
  exact evSome _

abbrev EntL := Int × Int × Int × Int × ByteArray × Bool
def cmpE (x : S68) (y : EntL) : Int := ecmp x.f1.f0 x.f1.f1 x.f1.f2 x.f1.f3 x.f1.f4 y.1 y.2.1 y.2.2.1 y.2.2.2.1 y.2.2.2.2.1
def lackP (a : List S68) (b : List S72) (x : S68) : Bool := (!(entOf a x.f0).2.2.2.2.2 || decide (cmpE x (entOf a x.f0) > 0)) && decide (x.f1.f0 > floOf b x.f0)
def lacksI (a : List S68) (b : List S72) (l : List S68) : List S68 := l.filter (lackP a b)
def lacksF (b : List S72) (l : List S72) : List S72 := l.filter fun x => decide (x.f1 > floOf b x.f0)
def lacksR (a : List S68) (b : List S72) (c : List S68) (e : List S72) : List S68 × List S72 := if (okS a b && okS c e) = true then (lacksI a b c, lacksF b e) else ([], [])
theorem lacksR_len (a : List S68) (b : List S72) (c : List S68) (e : List S72) : (lacksR a b c e).1.length ≤ c.length ∧ (lacksR a b c e).2.length ≤ e.length := by
  unfold lacksR
  split
  · exact ⟨List.length_filter_le _ _, List.length_filter_le _ _⟩
  · simp
theorem lacksI_pos {a : List S68} {b : List S72} {x : S68} {l : List S68} (h : lackP a b x = true) : lacksI a b (x :: l) = x :: lacksI a b l := by unfold lacksI; rw [List.filter_cons_of_pos h]
theorem lacksI_neg {a : List S68} {b : List S72} {x : S68} {l : List S68} (h : lackP a b x = false) : lacksI a b (x :: l) = lacksI a b l := by unfold lacksI; rw [List.filter_cons_of_neg (by rw [h]; exact Bool.false_ne_true)]
theorem lacksF_pos {b : List S72} {x : S72} {l : List S72} (h : x.f1 > floOf b x.f0) : lacksF b (x :: l) = x :: lacksF b l := by unfold lacksF; rw [List.filter_cons_of_pos (by simpa using h)]
theorem lacksF_neg {b : List S72} {x : S72} {l : List S72} (h : ¬ x.f1 > floOf b x.f0) : lacksF b (x :: l) = lacksF b l := by unfold lacksF; rw [List.filter_cons_of_neg (by simpa using h)]
theorem spec_Lacks_l1 (a : List S68) (b : List S72) (c : List S68) (e : List S72) (hb : b.length ≤ 2097152) (he : e.length ≤ 2097152) (il : List S68) : ∀ (d i : Nat) (acc : List S72), i + d = e.length → acc.length ≤ i →
    Ev (fun k => spec_Lacks.l1 k (i : Int) a b c e il acc) (il, acc ++ lacksF b (e.drop i)) := by
  intro d
  induction d with
  | zero =>
    intro i acc h _
    rw [List.drop_eq_nil_of_le (by omega)]
    exact evRet fun k => by simp only [spec_Lacks.l1]; rw [if_neg (by omega)]; simp [lacksF]
  | succ d ih =>
    intro i acc h ha
    have hi : i < e.length := by omega
    rw [List.drop_eq_getElem_cons hi]
    refine evSucc ?_
    simp only [spec_Lacks.l1, rdF hi]
    simp only [if_pos (show (i : Int) < (e.length : Int) by omega), if_pos (show (0 : Int) ≤ (i : Int) by omega), w64 (show (-9223372036854775808 : Int) ≤ (i : Int) + 1 by omega) (by omega), if_pos (show acc.length < 8796093022208 by omega)]
    refine Ev.bind (spec_FloorOf_ev b a _ hb) ?_
    by_cases q : e[i].f1 > floOf b e[i].f0
    · simp only [if_pos q, lacksF_pos q]
      have := ih (i + 1) (acc ++ [e[i]]) (by omega) (by simp; omega)
      rw [List.append_assoc, List.singleton_append] at this
      exact this
    · simp only [if_neg q, lacksF_neg q]
      exact ih (i + 1) acc (by omega) (by omega)
theorem spec_Lacks_l0 (a : List S68) (b : List S72) (c : List S68) (e : List S72) (ha : a.length ≤ 2097152) (hb : b.length ≤ 2097152) (hc : c.length ≤ 2097152) (he : e.length ≤ 2097152) : ∀ (d i : Nat) (acc : List S68), i + d = c.length → acc.length ≤ i →
    Ev (fun k => spec_Lacks.l0 k (i : Int) a b c e acc) (acc ++ lacksI a b (c.drop i), lacksF b e) := by
  intro d
  induction d with
  | zero =>
    intro i acc h _
    rw [List.drop_eq_nil_of_le (by omega)]
    have z := spec_Lacks_l1 a b c e hb he acc e.length 0 [] (by omega) (by simp)
    refine evSucc ?_
    simp only [spec_Lacks.l0]
    simp only [if_neg (show ¬ (i : Int) < (c.length : Int) by omega)]
    simpa [lacksI] using z
  | succ d ih =>
    intro i acc h hacc
    have hi : i < c.length := by omega
    rw [List.drop_eq_getElem_cons hi]
    have y1 := ih (i + 1) (acc ++ [c[i]]) (by omega) (by simp; omega)
    rw [List.append_assoc, List.singleton_append] at y1
    have y2 := ih (i + 1) acc (by omega) (by omega)
    refine evSucc ?_
    simp only [spec_Lacks.l0, rdI hi]
    simp only [if_pos (show (i : Int) < (c.length : Int) by omega), if_pos (show (0 : Int) ≤ (i : Int) by omega), w64 (show (-9223372036854775808 : Int) ≤ (i : Int) + 1 by omega) (by omega), if_pos (show acc.length < 2513169434916 by omega)]
    refine Ev.bind (spec_EntryOf_ev a b _ ha) ?_
    by_cases q : (entOf a c[i].f0).2.2.2.2.2 = true
    · simp only [if_pos q]
      refine Ev.bind (spec_EntryCmp_ev _ _ _ _ _ _ _ _ _ _) ?_
      by_cases z : cmpE c[i] (entOf a c[i].f0) > 0
      · have z' := z
        unfold cmpE at z'
        simp only [if_pos z']
        refine Ev.bind (spec_FloorOf_ev b a _ hb) ?_
        by_cases t : c[i].f1.f0 > floOf b c[i].f0
        · have p : lackP a b c[i] = true := by unfold lackP; simp only [q, decide_eq_true z, decide_eq_true t]; rfl
          simp only [if_pos t, lacksI_pos p]
          exact y1
        · have p : lackP a b c[i] = false := by unfold lackP; simp only [q, decide_eq_true z, decide_eq_false t]; rfl
          simp only [if_neg t, lacksI_neg p]
          exact y2
      · have p : lackP a b c[i] = false := by unfold lackP; simp only [q, decide_eq_false z]; rfl
        unfold cmpE at z
        simp only [if_neg z, lacksI_neg p]
        exact y2
    · simp only [if_neg q]
      refine Ev.bind (spec_FloorOf_ev b a _ hb) ?_
      simp only [Bool.not_eq_true] at q
      by_cases t : c[i].f1.f0 > floOf b c[i].f0
      · have p : lackP a b c[i] = true := by unfold lackP; simp only [q, decide_eq_true t]; rfl
        simp only [if_pos t, lacksI_pos p]
        exact y1
      · have p : lackP a b c[i] = false := by unfold lackP; simp only [q, decide_eq_false t]; rfl
        simp only [if_neg t, lacksI_neg p]
        exact y2
theorem impl_Newer_ev (a0 a1 a2 a3 : Int) (a4 : ByteArray) (b0 b1 b2 b3 : Int) (b4 : ByteArray) : Ev (fun k => impl_Newer.f k a0 a1 a2 a3 a4 b0 b1 b2 b3 b4) (decide (ecmp a0 a1 a2 a3 a4 b0 b1 b2 b3 b4 > 0)) := by
  simp only [impl_Newer.f]
  refine Ev.bind (impl_EntryCmp_ev _ _ _ _ _ _ _ _ _ _) ?_
  exact evSome _
theorem impl_Lacks_l1 (a : List S68) (b : List S72) (e : List S72) (hb : b.length ≤ 2097152) (he : e.length ≤ 2097152) (il : List S68) : ∀ (d i : Nat) (acc : List S72), i + d = e.length → acc.length ≤ i →
    Ev (fun k => impl_Lacks.l1 k e (e.length : Int) (i : Int) a b il acc) (il, acc ++ lacksF b (e.drop i)) := by
  intro d
  induction d with
  | zero =>
    intro i acc h _
    rw [List.drop_eq_nil_of_le (by omega)]
    exact evRet fun k => by simp only [impl_Lacks.l1]; rw [if_neg (by omega)]; simp [lacksF]
  | succ d ih =>
    intro i acc h ha
    have hi : i < e.length := by omega
    rw [List.drop_eq_getElem_cons hi]
    refine evSucc ?_
    simp only [impl_Lacks.l1, rdF hi]
    simp only [if_pos (show (i : Int) < (e.length : Int) by omega), if_pos (show (0 : Int) ≤ (i : Int) by omega), w64 (show (-9223372036854775808 : Int) ≤ (i : Int) + 1 by omega) (by omega), if_pos (show acc.length < 8796093022208 by omega)]
    refine Ev.bind (impl_FloorOf_ev b a _ hb) ?_
    by_cases q : e[i].f1 > floOf b e[i].f0
    · simp only [if_pos q, lacksF_pos q]
      have := ih (i + 1) (acc ++ [e[i]]) (by omega) (by simp; omega)
      rw [List.append_assoc, List.singleton_append] at this
      exact this
    · simp only [if_neg q, lacksF_neg q]
      exact ih (i + 1) acc (by omega) (by omega)
theorem impl_Lacks_l0 (a : List S68) (b : List S72) (c : List S68) (e : List S72) (ha : a.length ≤ 2097152) (hb : b.length ≤ 2097152) (hc : c.length ≤ 2097152) (he : e.length ≤ 2097152) : ∀ (d i : Nat) (acc : List S68), i + d = c.length → acc.length ≤ i →
    Ev (fun k => impl_Lacks.l0 k c (c.length : Int) (i : Int) a b c e acc) (acc ++ lacksI a b (c.drop i), lacksF b e) := by
  intro d
  induction d with
  | zero =>
    intro i acc h _
    rw [List.drop_eq_nil_of_le (by omega)]
    have z := impl_Lacks_l1 a b e hb he acc e.length 0 [] (by omega) (by simp)
    refine evSucc ?_
    simp only [impl_Lacks.l0]
    simp only [if_neg (show ¬ (i : Int) < (c.length : Int) by omega)]
    simpa [lacksI] using z
  | succ d ih =>
    intro i acc h hacc
    have hi : i < c.length := by omega
    rw [List.drop_eq_getElem_cons hi]
    have y1 := ih (i + 1) (acc ++ [c[i]]) (by omega) (by simp; omega)
    rw [List.append_assoc, List.singleton_append] at y1
    have y2 := ih (i + 1) acc (by omega) (by omega)
    refine evSucc ?_
    simp only [impl_Lacks.l0, rdI hi]
    simp only [if_pos (show (i : Int) < (c.length : Int) by omega), if_pos (show (0 : Int) ≤ (i : Int) by omega), w64 (show (-9223372036854775808 : Int) ≤ (i : Int) + 1 by omega) (by omega), if_pos (show acc.length < 2513169434916 by omega)]
    refine Ev.bind (impl_EntryOf_ev a b _ ha) ?_
    by_cases q : (entOf a c[i].f0).2.2.2.2.2 = true
    · simp only [if_pos q]
      refine Ev.bind (impl_Newer_ev _ _ _ _ _ _ _ _ _ _) ?_
      simp only [decide_eq_true_eq]
      by_cases z : cmpE c[i] (entOf a c[i].f0) > 0
      · have z' := z
        unfold cmpE at z'
        simp only [if_pos z']
        refine Ev.bind (impl_FloorOf_ev b a _ hb) ?_
        by_cases t : c[i].f1.f0 > floOf b c[i].f0
        · have p : lackP a b c[i] = true := by unfold lackP; simp only [q, decide_eq_true z, decide_eq_true t]; rfl
          simp only [if_pos t, lacksI_pos p]
          exact y1
        · have p : lackP a b c[i] = false := by unfold lackP; simp only [q, decide_eq_true z, decide_eq_false t]; rfl
          simp only [if_neg t, lacksI_neg p]
          exact y2
      · have p : lackP a b c[i] = false := by unfold lackP; simp only [q, decide_eq_false z]; rfl
        unfold cmpE at z
        simp only [if_neg z, lacksI_neg p]
        exact y2
    · simp only [if_neg q]
      refine Ev.bind (impl_FloorOf_ev b a _ hb) ?_
      simp only [Bool.not_eq_true] at q
      by_cases t : c[i].f1.f0 > floOf b c[i].f0
      · have p : lackP a b c[i] = true := by unfold lackP; simp only [q, decide_eq_true t]; rfl
        simp only [if_pos t, lacksI_pos p]
        exact y1
      · have p : lackP a b c[i] = false := by unfold lackP; simp only [q, decide_eq_false t]; rfl
        simp only [if_neg t, lacksI_neg p]
        exact y2
theorem spec_Lacks_ev (a : List S68) (b : List S72) (c : List S68) (e : List S72) (ha : a.length ≤ 2097152) (hb : b.length ≤ 2097152) (hc : c.length ≤ 2097152) (he : e.length ≤ 2097152) : Ev (fun k => spec_Lacks.f k a b c e) (lacksR a b c e) := by
  simp only [spec_Lacks.f, lacksR]
  refine Ev.bind (spec_StateOk_ev a b ha hb) ?_
  cases o1 : okS a b
  · simp only [Bool.false_eq_true, if_false, Bool.false_and]
    refine evSucc ?_
    simp only [spec_Lacks.j0, if_true]
    exact evSome _
  · simp only [if_true, Bool.true_and]
    refine Ev.bind (spec_StateOk_ev c e hc he) ?_
    refine evSucc ?_
    cases o2 : okS c e
    · simp only [spec_Lacks.j0, Bool.not_false, if_true, Bool.false_eq_true, if_false]
      exact evSome _
    · simp only [spec_Lacks.j0, Bool.not_true, if_true, Bool.false_eq_true, if_false]
      have h := spec_Lacks_l0 a b c e ha hb hc he c.length 0 [] (by omega) (by simp)
      rw [List.drop_zero, List.nil_append] at h
      exact h
theorem impl_Lacks_ev (a : List S68) (b : List S72) (c : List S68) (e : List S72) (ha : a.length ≤ 2097152) (hb : b.length ≤ 2097152) (hc : c.length ≤ 2097152) (he : e.length ≤ 2097152) : Ev (fun k => impl_Lacks.f k a b c e) (lacksR a b c e) := by
  simp only [impl_Lacks.f, lacksR]
  refine Ev.bind (impl_StateOk_ev a b ha hb) ?_
  cases o1 : okS a b
  · simp only [Bool.false_eq_true, if_false, Bool.false_and]
    refine evSucc ?_
    simp only [impl_Lacks.j0, if_true]
    exact evSome _
  · simp only [if_true, Bool.true_and]
    refine Ev.bind (impl_StateOk_ev c e hc he) ?_
    refine evSucc ?_
    cases o2 : okS c e
    · simp only [impl_Lacks.j0, Bool.not_false, if_true, Bool.false_eq_true, if_false]
      exact evSome _
    · simp only [impl_Lacks.j0, Bool.not_true, if_true, Bool.false_eq_true, if_false]
      have h := impl_Lacks_l0 a b c e ha hb hc he c.length 0 [] (by omega) (by simp)
      rw [List.drop_zero, List.nil_append] at h
      exact h

theorem FnExactLacks : laws_FnExactLacks.Pure := by
  intro l fl p fp hl _ hs hf _ _ hp _ hps hpf _ _
  apply Ev.rounds
  obtain ⟨n, hn, hle, hn2⟩ := szState_ev l fl (by simp [maxLen] at *; omega) (by simp [maxLen] at *; omega) (fun v hv => (hs v hv).2.2.2.2.2) 1048576 (by omega) (by omega)
  simp only [laws_FnExactLacks.f]
  refine Ev.bind hn ?_
  by_cases hn0 : n < 0
  · simp only [if_pos hn0]; exact evSome _
  simp only [if_neg hn0]
  obtain ⟨b1, b2⟩ := hn2 (by omega)
  obtain ⟨m, hm, _, hm2⟩ := szState_ev p fp (by simp [maxLen] at *; omega) (by simp [maxLen] at *; omega) (fun v hv => (hps v hv).2.2.2.2.2) n (by omega) (by omega)
  refine Ev.bind hm ?_
  by_cases hm0 : m < 0
  · simp only [if_pos hm0]; exact evSome _
  simp only [if_neg hm0]
  obtain ⟨b3, b4⟩ := hm2 (by omega)
  have c1 : (l.map convI).length ≤ 2097152 := by simp; omega
  have c2 : (fl.map convF).length ≤ 2097152 := by simp; omega
  have c3 : (p.map convI).length ≤ 2097152 := by simp; omega
  have c4 : (fp.map convF).length ≤ 2097152 := by simp; omega
  obtain ⟨j1, j2⟩ := lacksR_len (l.map convI) (fl.map convF) (p.map convI) (fp.map convF)
  have j3 : (lacksR (l.map convI) (fl.map convF) (p.map convI) (fp.map convF)).1.length ≤ 2097152 := by omega
  have j4 : (lacksR (l.map convI) (fl.map convF) (p.map convI) (fp.map convF)).2.length ≤ 2097152 := by omega
  refine Ev.bind (toState_ev l fl b1 b2) ?_
  refine Ev.bind (toState_ev p fp b3 b4) ?_
  refine Ev.bind (spec_Lacks_ev _ _ _ _ c1 c2 c3 c4) ?_
  refine Ev.bind (toState_ev l fl b1 b2) ?_
  refine Ev.bind (toState_ev p fp b3 b4) ?_
  refine Ev.bind (impl_Lacks_ev _ _ _ _ c1 c2 c3 c4) ?_
  refine Ev.bind (eqState_ev _ _ j3 j4) ?_
  simp only [if_true]
  refine Ev.bind (toState_ev l fl b1 b2) ?_
  refine Ev.bind (eqState_ev _ _ c1 c2) ?_
  simp only [if_true]
  refine Ev.bind (toState_ev p fp b3 b4) ?_
  refine Ev.bind (eqState_ev _ _ c3 c4) ?_
  simp only [if_true]
  refine Ev.bind (markState_ev _ _ 1 c1 c2 (by omega) (by omega)) ?_
  refine Ev.bind (markState_ev _ _ _ c3 c4 (by show 0 ≤ 1 + _ + _; omega) (by show 1 + _ + _ ≤ _; omega)) ?_
  simp only [if_neg (show ¬ 1 + 6 * ((l.map convI).length : Int) + 2 * ((fl.map convF).length : Int) + 6 * ((p.map convI).length : Int) + 2 * ((fp.map convF).length : Int) < 0 by omega)]
  refine Ev.bind (eqState_ev _ _ j3 j4) ?_
  refine evSucc ?_
  simp only [laws_FnExactLacks.j0, Bool.not_true, Bool.false_eq_true, if_false]
  refine Ev.bind (markState_ev _ _ 1 j3 j4 (by omega) (by omega)) ?_
  refine Ev.bind (heldState_ev _ _ 1 j3 j4 (by omega) (by omega)) ?_
  simp only [if_neg (show ¬ 1 + 6 * ((lacksR (l.map convI) (fl.map convF) (p.map convI) (fp.map convF)).1.length : Int) + 2 * ((lacksR (l.map convI) (fl.map convF) (p.map convI) (fp.map convF)).2.length : Int) < 0 by omega), if_true]
  refine Ev.bind (toState_ev l fl b1 b2) ?_
  refine Ev.bind (toState_ev p fp b3 b4) ?_
  refine Ev.bind (impl_Lacks_ev _ _ _ _ c1 c2 c3 c4) ?_
  refine Ev.bind (eqState_ev _ _ j3 j4) ?_
  simp only [if_true]
  refine Ev.bind (heldState_ev _ _ 1 j3 j4 (by omega) (by omega)) ?_
  simp only [if_neg (show ¬ 1 + 6 * ((lacksR (l.map convI) (fl.map convF) (p.map convI) (fp.map convF)).1.length : Int) + 2 * ((lacksR (l.map convI) (fl.map convF) (p.map convI) (fp.map convF)).2.length : Int) < 0 by omega), if_true]
  exact evSome _

end Go.Proofs.Ytgapdegniepjiaa.Pure
