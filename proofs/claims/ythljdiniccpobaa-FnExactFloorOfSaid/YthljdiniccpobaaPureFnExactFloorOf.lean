/- The plain law of FnExactFloorOf. -/
import Derived.Test.YthljdiniccpobaaPlFnExactFloorOf
namespace Go.Proofs.Ythljdiniccpobaa.Pure
open Go.RowKit Go.Proofs.Ythljdiniccpobaa.P Go.Proofs.YthljdiniccpobaaW.PrintWords Go.Proofs.YthljdiniccpobaaW.PrintLast
set_option linter.unusedVariables false
set_option linter.unusedSimpArgs false

theorem w64 {n : Int} (h0 : -9223372036854775808 ≤ n) (h1 : n ≤ 9223372036854775807) : wrap64 n = n := by
  unfold wrap64; omega
theorem tmod_pos {a b : Int} (h : 0 ≤ a) : Int.tmod a b = a % b := Int.tmod_eq_emod_of_nonneg h
theorem tdiv_pos {a b : Int} (h : 0 ≤ a) : Int.tdiv a b = a / b := Int.tdiv_eq_ediv_of_nonneg h
theorem evSome {α : Type} (r : α) : Ev (fun _ => some r) r := Ev.now r
theorem evEq {α : Type} {g f : Nat → Option α} {r : α} (k : Ev f r) (h : ∀ k, g k = f k) : Ev g r := Ev.congr h k
theorem evStep {α : Type} {g f : Nat → Option α} {r : α} (k : Ev f r) (h : ∀ k, g (k + 1) = f k) : Ev g r := Ev.step h k
theorem evRet {α : Type} {g : Nat → Option α} {r : α} (h : ∀ k, g (k + 1) = some r) : Ev g r := Ev.step h (Ev.now r)
theorem rd_nat {l : List Int} {i : Nat} (h : i < l.length) : rd l (i : Int) = l[i] := by
  unfold rd; simp [List.getD_eq_getElem?_getD, h]
theorem wf_i64 {a : Int} (h : (Lit.int .i64 a).wf = true) : -9223372036854775808 ≤ a ∧ a ≤ 9223372036854775807 := by
  simp [Lit.wf, IntKind.min, IntKind.max, IntKind.bits, IntKind.signed] at h; omega
theorem wf_u8 {a : Int} (h : (Lit.int .u8 a).wf = true) : 0 ≤ a ∧ a < 256 := by
  simp [Lit.wf, IntKind.min, IntKind.max, IntKind.bits, IntKind.signed] at h; omega

theorem evSucc {α : Type} {g : Nat → Option α} {r : α} (h : Ev (fun k => g (k + 1)) r) : Ev g r := Ev.step (f := fun k => g (k + 1)) (fun _ => rfl) h
def convI (x : S105) : S84 := ⟨x.f0, ⟨x.f1.f0, x.f1.f1, x.f1.f2, x.f1.f3, x.f1.f4⟩⟩
def convF (x : S108) : S89 := ⟨x.f0, x.f1⟩
theorem rdLI {l : List S105} {i : Nat} (h : i < l.length) : rd_T105 l (i : Int) = l[i] := by
  unfold rd_T105; simp [List.getD_eq_getElem?_getD, h]
theorem rdLF {l : List S108} {i : Nat} (h : i < l.length) : rd_T108 l (i : Int) = l[i] := by
  unfold rd_T108; simp [List.getD_eq_getElem?_getD, h]
theorem rdI {l : List S84} {i : Nat} (h : i < l.length) : rd_T84 l (i : Int) = l[i] := by
  unfold rd_T84; simp [List.getD_eq_getElem?_getD, h]
theorem rdF {l : List S89} {i : Nat} (h : i < l.length) : rd_T89 l (i : Int) = l[i] := by
  unfold rd_T89; simp [List.getD_eq_getElem?_getD, h]
theorem toItemS_l (x : List S105) (hx : x.length ≤ 1048576) : ∀ (d i : Nat) (y : List S84), i + d = x.length → y.length = x.length →
    Ev (fun k => laws_toItemS.l0 k x y (i : Int)) (y.take i ++ (x.drop i).map convI) := by
  intro d
  induction d with
  | zero =>
    intro i y h hy
    have e : y.take i ++ (x.drop i).map convI = y := by
      rw [List.drop_eq_nil_of_le (by omega), List.take_of_length_le (by omega), List.map_nil, List.append_nil]
    rw [e]
    refine evRet fun k => ?_
    simp only [laws_toItemS.l0]; rw [if_neg (by omega)]
  | succ d ih =>
    intro i y h hy
    have hi : i < x.length := by omega
    have := ih (i + 1) (y.set i (convI x[i])) (by omega) (by simpa using hy)
    have e : (y.set i (convI x[i])).take (i + 1) ++ (x.drop (i + 1)).map convI = y.take i ++ (x.drop i).map convI := by
      rw [List.drop_eq_getElem_cons hi, List.take_succ_eq_append_getElem (by simp; omega), List.take_set_of_le (Nat.le_refl i)]
      simp only [List.map_cons, List.getElem_set_self, List.append_assoc, List.singleton_append, List.cons_append, List.nil_append]
    rw [e] at this
    refine evStep this fun k => ?_
    simp only [laws_toItemS.l0, laws_toItem.f, laws_toEntry.f, Option.bind_some]
    rw [if_pos (by omega), if_pos (by omega), if_pos (by omega), rdLI hi, w64 (by omega) (by omega)]
    rfl
theorem toItemS_ev (x : List S105) (hx : x.length ≤ 1048576) : Ev (fun k => laws_toItemS.f k x) (x.map convI) := by
  have := toItemS_l x hx x.length 0 (List.replicate x.length z84) (by omega) (by simp)
  simp only [List.take_zero, List.drop_zero, List.nil_append] at this
  refine evEq this fun k => ?_
  simp only [laws_toItemS.f]
  rw [if_pos (by omega), if_pos (by omega)]
  rfl
theorem toFloorS_l (x : List S108) (hx : x.length ≤ 1048576) : ∀ (d i : Nat) (y : List S89), i + d = x.length → y.length = x.length →
    Ev (fun k => laws_toFloorS.l0 k x y (i : Int)) (y.take i ++ (x.drop i).map convF) := by
  intro d
  induction d with
  | zero =>
    intro i y h hy
    have e : y.take i ++ (x.drop i).map convF = y := by
      rw [List.drop_eq_nil_of_le (by omega), List.take_of_length_le (by omega), List.map_nil, List.append_nil]
    rw [e]
    refine evRet fun k => ?_
    simp only [laws_toFloorS.l0]; rw [if_neg (by omega)]
  | succ d ih =>
    intro i y h hy
    have hi : i < x.length := by omega
    have := ih (i + 1) (y.set i (convF x[i])) (by omega) (by simpa using hy)
    have e : (y.set i (convF x[i])).take (i + 1) ++ (x.drop (i + 1)).map convF = y.take i ++ (x.drop i).map convF := by
      rw [List.drop_eq_getElem_cons hi, List.take_succ_eq_append_getElem (by simp; omega), List.take_set_of_le (Nat.le_refl i)]
      simp only [List.map_cons, List.getElem_set_self, List.append_assoc, List.singleton_append, List.cons_append, List.nil_append]
    rw [e] at this
    refine evStep this fun k => ?_
    simp only [laws_toFloorS.l0, laws_toFloor.f, Option.bind_some]
    rw [if_pos (by omega), if_pos (by omega), if_pos (by omega), rdLF hi, w64 (by omega) (by omega)]
    rfl
theorem toFloorS_ev (x : List S108) (hx : x.length ≤ 1048576) : Ev (fun k => laws_toFloorS.f k x) (x.map convF) := by
  have := toFloorS_l x hx x.length 0 (List.replicate x.length z89) (by omega) (by simp)
  simp only [List.take_zero, List.drop_zero, List.nil_append] at this
  refine evEq this fun k => ?_
  simp only [laws_toFloorS.f]
  rw [if_pos (by omega), if_pos (by omega)]
  rfl
theorem toState_ev (x : List S105) (y : List S108) (hx : x.length ≤ 1048576) (hy : y.length ≤ 1048576) : Ev (fun k => laws_toState.f k x y) (x.map convI, y.map convF) := by
  simp only [laws_toState.f]
  refine Ev.bind (toItemS_ev x hx) ?_
  refine Ev.bind (toFloorS_ev y hy) ?_
  exact evSome _
theorem szItemS_l (x : List S105) (hx : x.length ≤ 1048576) (hs : ∀ v ∈ x, v.f1.f4.size ≤ 140737488351232) : ∀ (d i : Nat) (n : Int), i + d = x.length → 0 ≤ n → n ≤ 1048576 →
    ∃ m, Ev (fun k => laws_szItemS.l0 k x n (i : Int)) m ∧ m ≤ n := by
  intro d
  induction d with
  | zero =>
    intro i n h _ _
    refine ⟨n, evRet fun k => ?_, Int.le_refl _⟩
    simp only [laws_szItemS.l0]; rw [if_neg (by omega)]
  | succ d ih =>
    intro i n h h0 h1
    have hi : i < x.length := by omega
    have hsz := hs _ (List.getElem_mem hi)
    by_cases hneg : n - (x[i].f1.f4.size : Int) < 0
    · refine ⟨-1, evRet fun k => ?_, by omega⟩
      simp only [laws_szItemS.l0, laws_szItem.f, laws_szEntry.f]
      rw [if_pos (by omega), if_pos (by omega), rdLI hi, w64 (by omega) (by omega), if_pos hneg]
      rfl
    · obtain ⟨m, hm, hle⟩ := ih (i + 1) (n - (x[i].f1.f4.size : Int)) (by omega) (by omega) (by omega)
      refine ⟨m, evStep hm fun k => ?_, by omega⟩
      simp only [laws_szItemS.l0, laws_szItem.f, laws_szEntry.f]
      rw [if_pos (by omega), if_pos (by omega), rdLI hi, w64 (n := n - _) (by omega) (by omega), if_neg hneg]
      simp only [Option.bind_some]
      rw [if_neg hneg]
      simp only [Option.bind_some]
      rw [if_neg hneg, w64 (by omega) (by omega)]
      rfl
theorem szItemS_ev (x : List S105) (hx : x.length ≤ 140737488351232) (hs : ∀ v ∈ x, v.f1.f4.size ≤ 140737488351232) (n : Int) (h0 : 0 ≤ n) (h1 : n ≤ 1048576) :
    ∃ m, Ev (fun k => laws_szItemS.f k x n) m ∧ m ≤ n ∧ (0 ≤ m → x.length ≤ 1048576) := by
  by_cases hneg : n - (x.length : Int) < 0
  · refine ⟨-1, evEq (evSome _) fun k => ?_, by omega, by omega⟩
    simp only [laws_szItemS.f]; rw [w64 (by omega) (by omega), if_pos hneg]
  · obtain ⟨m, hm, hle⟩ := szItemS_l x (by omega) hs x.length 0 (n - (x.length : Int)) (by omega) (by omega) (by omega)
    refine ⟨m, evEq hm fun k => ?_, by omega, by omega⟩
    simp only [laws_szItemS.f]; rw [w64 (by omega) (by omega), if_neg hneg]
    rfl
theorem szState_ev (x : List S105) (y : List S108) (hx : x.length ≤ 140737488351232) (hy : y.length ≤ 140737488351232) (hs : ∀ v ∈ x, v.f1.f4.size ≤ 140737488351232) (n : Int) (h0 : 0 ≤ n) (h1 : n ≤ 1048576) :
    ∃ m, Ev (fun k => laws_szState.f k x y n) m ∧ m ≤ n ∧ (0 ≤ m → x.length ≤ 1048576 ∧ y.length ≤ 1048576) := by
  obtain ⟨m, hm, hle, hb⟩ := szItemS_ev x hx hs n h0 h1
  by_cases hn : m < 0
  · refine ⟨-1, ?_, by omega, by omega⟩
    simp only [laws_szState.f]
    refine Ev.bind hm ?_
    simp only [if_pos hn]; exact evSome _
  · by_cases hneg : m - (y.length : Int) < 0
    · refine ⟨-1, ?_, by omega, by omega⟩
      simp only [laws_szState.f, laws_szFloorS.f]
      refine Ev.bind hm ?_
      simp only [if_neg hn]
      rw [w64 (by omega) (by omega)]
      simp only [if_pos hneg, Option.bind_some]; exact evSome _
    · refine ⟨m - (y.length : Int), ?_, by omega, fun _ => ⟨hb (by omega), by omega⟩⟩
      simp only [laws_szState.f, laws_szFloorS.f]
      refine Ev.bind hm ?_
      simp only [if_neg hn]
      rw [w64 (by omega) (by omega)]
      simp only [if_neg hneg, Option.bind_some]; exact evSome _
theorem eqEntry_self (a b c d : Int) (s : ByteArray) : laws_eqEntry.f a b c d s a b c d s = some true := by
  simp only [laws_eqEntry.f, if_true]
theorem eqItemS_l (x : List S84) (hx : x.length ≤ 2097152) : ∀ (d i : Nat), i + d = x.length → Ev (fun k => laws_eqItemS.l0 k x x (i : Int)) true := by
  intro d
  induction d with
  | zero =>
    intro i h
    refine evRet fun k => ?_
    simp only [laws_eqItemS.l0]; rw [if_neg (by omega)]
  | succ d ih =>
    intro i h
    refine evStep (ih (i + 1) (by omega)) fun k => ?_
    simp only [laws_eqItemS.l0, laws_eqItem.f, eqEntry_self, Option.bind_some, if_true]
    rw [if_pos (by omega), if_pos (by omega), if_pos (by omega), w64 (by omega) (by omega)]
    rfl
theorem eqItemS_ev (x : List S84) (hx : x.length ≤ 2097152) : Ev (fun k => laws_eqItemS.f k x x) true := by
  refine evEq (eqItemS_l x hx x.length 0 (by omega)) fun k => ?_
  simp only [laws_eqItemS.f, if_true]; rfl
theorem eqFloorS_l (x : List S89) (hx : x.length ≤ 2097152) : ∀ (d i : Nat), i + d = x.length → Ev (fun k => laws_eqFloorS.l0 k x x (i : Int)) true := by
  intro d
  induction d with
  | zero =>
    intro i h
    refine evRet fun k => ?_
    simp only [laws_eqFloorS.l0]; rw [if_neg (by omega)]
  | succ d ih =>
    intro i h
    refine evStep (ih (i + 1) (by omega)) fun k => ?_
    simp only [laws_eqFloorS.l0, laws_eqFloor.f, Option.bind_some, if_true]
    rw [if_pos (by omega), if_pos (by omega), if_pos (by omega), w64 (by omega) (by omega)]
    rfl
theorem eqFloorS_ev (x : List S89) (hx : x.length ≤ 2097152) : Ev (fun k => laws_eqFloorS.f k x x) true := by
  refine evEq (eqFloorS_l x hx x.length 0 (by omega)) fun k => ?_
  simp only [laws_eqFloorS.f, if_true]; rfl
theorem eqState_ev (x : List S84) (y : List S89) (hx : x.length ≤ 2097152) (hy : y.length ≤ 2097152) : Ev (fun k => laws_eqState.f k x y x y) true := by
  simp only [laws_eqState.f]
  refine Ev.bind (eqItemS_ev x hx) ?_
  simp only [if_true]
  refine Ev.bind (eqFloorS_ev y hy) ?_
  simp only [if_true]
  exact evSome _

def floOf : List S89 → Int → Int
  | [], _ => 0
  | x :: r, a => if x.f0 = a then x.f1 else floOf r a
theorem spec_FloorOf_l (l : List S89) (il : List S84) (a : Int) (hl : l.length ≤ 2097152) : ∀ (d i : Nat), i + d = l.length → Ev (fun k => spec_FloorOf.l0 k a (i : Int) il l) (floOf (l.drop i) a) := by
  intro d
  induction d with
  | zero =>
    intro i h
    rw [List.drop_eq_nil_of_le (by omega)]
    exact evRet fun k => by simp only [spec_FloorOf.l0]; rw [if_neg (by omega)]; rfl
  | succ d ih =>
    intro i h
    have hi : i < l.length := by omega
    rw [List.drop_eq_getElem_cons hi]
    by_cases he : l[i].f0 = a
    · refine evRet fun k => ?_
      simp only [spec_FloorOf.l0, floOf]
      rw [if_pos (by omega), if_pos (by omega), rdF hi, if_pos he, if_pos he]
    · have := ih (i + 1) (by omega)
      simp only [floOf]
      rw [if_neg he]
      refine evStep this fun k => ?_
      simp only [spec_FloorOf.l0]
      rw [if_pos (by omega), if_pos (by omega), rdF hi, if_neg he, w64 (by omega) (by omega)]
      rfl
theorem spec_FloorOf_ev (l : List S89) (il : List S84) (a : Int) (hl : l.length ≤ 2097152) : Ev (fun k => spec_FloorOf.f k il l a) (floOf l a) :=
  evEq (spec_FloorOf_l l il a hl l.length 0 (by omega)) fun k => rfl
theorem impl_FloorOf_l (l : List S89) (a : Int) (hl : l.length ≤ 2097152) : ∀ (d i : Nat), i + d = l.length → Ev (fun k => impl_FloorOf.l0 k a l (l.length : Int) (i : Int)) (floOf (l.drop i) a) := by
  intro d
  induction d with
  | zero =>
    intro i h
    rw [List.drop_eq_nil_of_le (by omega)]
    exact evRet fun k => by simp only [impl_FloorOf.l0]; rw [if_neg (by omega)]; rfl
  | succ d ih =>
    intro i h
    have hi : i < l.length := by omega
    rw [List.drop_eq_getElem_cons hi]
    by_cases he : l[i].f0 = a
    · refine evRet fun k => ?_
      simp only [impl_FloorOf.l0, floOf]
      rw [if_pos (by omega), if_pos (by omega), if_pos (by omega), rdF hi, if_pos he, if_pos he]
    · have := ih (i + 1) (by omega)
      simp only [floOf]
      rw [if_neg he]
      refine evStep this fun k => ?_
      simp only [impl_FloorOf.l0]
      rw [if_pos (by omega), if_pos (by omega), if_pos (by omega), rdF hi, if_neg he, w64 (by omega) (by omega)]
      rfl
theorem impl_FloorOf_ev (l : List S89) (il : List S84) (a : Int) (hl : l.length ≤ 2097152) : Ev (fun k => impl_FloorOf.f k il l a) (floOf l a) :=
  evEq (impl_FloorOf_l l a hl l.length 0 (by omega)) fun k => rfl

theorem FnExactFloorOf : laws_FnExactFloorOf.Pure := by
  intro l fl a hl _ hs hf _ _ _
  apply Ev.rounds
  obtain ⟨n, hn, _, hn2⟩ := szState_ev l fl (by simp [maxLen] at *; omega) (by simp [maxLen] at *; omega) (fun v hv => (hs v hv).2.2.2.2.2) 1048576 (by omega) (by omega)
  simp only [laws_FnExactFloorOf.f]
  refine Ev.bind hn ?_
  by_cases hn0 : n < 0
  · simp only [if_pos hn0]; exact evSome _
  simp only [if_neg hn0]
  obtain ⟨b1, b2⟩ := hn2 (by omega)
  refine Ev.bind (toState_ev l fl b1 b2) ?_
  refine Ev.bind (spec_FloorOf_ev _ _ a (by simp; omega)) ?_
  refine Ev.bind (toState_ev l fl b1 b2) ?_
  refine Ev.bind (impl_FloorOf_ev _ _ a (by simp; omega)) ?_
  simp only [if_true]
  refine Ev.bind (toState_ev l fl b1 b2) ?_
  refine Ev.bind (eqState_ev _ _ (by simp; omega) (by simp; omega)) ?_
  simp only [if_true]
  exact evSome _

end Go.Proofs.Ythljdiniccpobaa.Pure
