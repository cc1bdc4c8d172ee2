/- The plain law of FnExactStateSame. -/
import Derived.Test.YthljdiniccpobaaPlFnExactStateSame
namespace Go.Proofs.Ythljdiniccpobaa.Pure
open Go.RowKit Go.Proofs.Ythljdiniccpobaa.P Go.Proofs.YthljdiniccpobaaW.PrintWords Go.Proofs.YthljdiniccpobaaW.PrintLast
set_option linter.unusedVariables false
set_option linter.unusedSimpArgs false

theorem w64 {n : Int} (h0 : -9223372036854775808 ≤ n) (h1 : n ≤ 9223372036854775807) : wrap64 n = n := by
  unfold wrap64; omega
theorem tmod_pos {a b : Int} (h : 0 ≤ a) : Int.tmod a b = a % b := Int.tmod_eq_emod_of_nonneg h
theorem tdiv_pos {a b : Int} (h : 0 ≤ a) : Int.tdiv a b = a / b := Int.tdiv_eq_ediv_of_nonneg h
theorem evSome {α : Type} (r : α) : Ev (fun _ => some r) r := Ev.now r
theorem evEq {α : Type} {g f : Nat → Option α} {r : α} (k : Ev f r) (h : ∀ k, g k = f k) : Ev g r := Ev.congr h k
theorem evStep {α : Type} {g f : Nat → Option α} {r : α} (k : Ev f r) (h : ∀ k, g (k + 1) = f k) : Ev g r := Ev.step h k
theorem evRet {α : Type} {g : Nat → Option α} {r : α} (h : ∀ k, g (k + 1) = some r) : Ev g r := Ev.step h (Ev.now r)
theorem rd_nat {l : List Int} {i : Nat} (h : i < l.length) : rd l (i : Int) = l[i] := by
  unfold rd; simp [List.getD_eq_getElem?_getD, h]
theorem wf_i64 {a : Int} (h : (Lit.int .i64 a).wf = true) : -9223372036854775808 ≤ a ∧ a ≤ 9223372036854775807 := by
  simp [Lit.wf, IntKind.min, IntKind.max, IntKind.bits, IntKind.signed] at h; omega
theorem wf_u8 {a : Int} (h : (Lit.int .u8 a).wf = true) : 0 ≤ a ∧ a < 256 := by
  simp [Lit.wf, IntKind.min, IntKind.max, IntKind.bits, IntKind.signed] at h; omega

theorem evSucc {α : Type} {g : Nat → Option α} {r : α} (h : Ev (fun k => g (k + 1)) r) : Ev g r := Ev.step (f := fun k => g (k + 1)) (fun _ => rfl) h
def convI (x : S105) : S84 := ⟨x.f0, ⟨x.f1.f0, x.f1.f1, x.f1.f2, x.f1.f3, x.f1.f4⟩⟩
def convF (x : S108) : S89 := ⟨x.f0, x.f1⟩
theorem rdLI {l : List S105} {i : Nat} (h : i < l.length) : rd_T105 l (i : Int) = l[i] := by
  unfold rd_T105; simp [List.getD_eq_getElem?_getD, h]
theorem rdLF {l : List S108} {i : Nat} (h : i < l.length) : rd_T108 l (i : Int) = l[i] := by
  unfold rd_T108; simp [List.getD_eq_getElem?_getD, h]
theorem rdI {l : List S84} {i : Nat} (h : i < l.length) : rd_T84 l (i : Int) = l[i] := by
  unfold rd_T84; simp [List.getD_eq_getElem?_getD, h]
theorem rdF {l : List S89} {i : Nat} (h : i < l.length) : rd_T89 l (i : Int) = l[i] := by
  unfold rd_T89; simp [List.getD_eq_getElem?_getD, h]
theorem toItemS_l (x : List S105) (hx : x.length ≤ 1048576) : ∀ (d i : Nat) (y : List S84), i + d = x.length → y.length = x.length →
    Ev (fun k => laws_toItemS.l0 k x y (i : Int)) (y.take i ++ (x.drop i).map convI) := by
  intro d
  induction d with
  | zero =>
    intro i y h hy
    have e : y.take i ++ (x.drop i).map convI = y := by
      rw [List.drop_eq_nil_of_le (by omega), List.take_of_length_le (by omega), List.map_nil, List.append_nil]
    rw [e]
    refine evRet fun k => ?_
    simp only [laws_toItemS.l0]; rw [if_neg (by omega)]
  | succ d ih =>
    intro i y h hy
    have hi : i < x.length := by omega
    have := ih (i + 1) (y.set i (convI x[i])) (by omega) (by simpa using hy)
    have e : (y.set i (convI x[i])).take (i + 1) ++ (x.drop (i + 1)).map convI = y.take i ++ (x.drop i).map convI := by
      rw [List.drop_eq_getElem_cons hi, List.take_succ_eq_append_getElem (by simp; omega), List.take_set_of_le (Nat.le_refl i)]
      simp only [List.map_cons, List.getElem_set_self, List.append_assoc, List.singleton_append, List.cons_append, List.nil_append]
    rw [e] at this
    refine evStep this fun k => ?_
    simp only [laws_toItemS.l0, laws_toItem.f, laws_toEntry.f, Option.bind_some]
    rw [if_pos (by omega), if_pos (by omega), if_pos (by omega), rdLI hi, w64 (by omega) (by omega)]
    rfl
theorem toItemS_ev (x : List S105) (hx : x.length ≤ 1048576) : Ev (fun k => laws_toItemS.f k x) (x.map convI) := by
  have := toItemS_l x hx x.length 0 (List.replicate x.length z84) (by omega) (by simp)
  simp only [List.take_zero, List.drop_zero, List.nil_append] at this
  refine evEq this fun k => ?_
  simp only [laws_toItemS.f]
  rw [if_pos (by omega), if_pos (by omega)]
  rfl
theorem toFloorS_l (x : List S108) (hx : x.length ≤ 1048576) : ∀ (d i : Nat) (y : List S89), i + d = x.length → y.length = x.length →
    Ev (fun k => laws_toFloorS.l0 k x y (i : Int)) (y.take i ++ (x.drop i).map convF) := by
  intro d
  induction d with
  | zero =>
    intro i y h hy
    have e : y.take i ++ (x.drop i).map convF = y := by
      rw [List.drop_eq_nil_of_le (by omega), List.take_of_length_le (by omega), List.map_nil, List.append_nil]
    rw [e]
    refine evRet fun k => ?_
    simp only [laws_toFloorS.l0]; rw [if_neg (by omega)]
  | succ d ih =>
    intro i y h hy
    have hi : i < x.length := by omega
    have := ih (i + 1) (y.set i (convF x[i])) (by omega) (by simpa using hy)
    have e : (y.set i (convF x[i])).take (i + 1) ++ (x.drop (i + 1)).map convF = y.take i ++ (x.drop i).map convF := by
      rw [List.drop_eq_getElem_cons hi, List.take_succ_eq_append_getElem (by simp; omega), List.take_set_of_le (Nat.le_refl i)]
      simp only [List.map_cons, List.getElem_set_self, List.append_assoc, List.singleton_append, List.cons_append, List.nil_append]
    rw [e] at this
    refine evStep this fun k => ?_
    simp only [laws_toFloorS.l0, laws_toFloor.f, Option.bind_some]
    rw [if_pos (by omega), if_pos (by omega), if_pos (by omega), rdLF hi, w64 (by omega) (by omega)]
    rfl
theorem toFloorS_ev (x : List S108) (hx : x.length ≤ 1048576) : Ev (fun k => laws_toFloorS.f k x) (x.map convF) := by
  have := toFloorS_l x hx x.length 0 (List.replicate x.length z89) (by omega) (by simp)
  simp only [List.take_zero, List.drop_zero, List.nil_append] at this
  refine evEq this fun k => ?_
  simp only [laws_toFloorS.f]
  rw [if_pos (by omega), if_pos (by omega)]
  rfl
theorem toState_ev (x : List S105) (y : List S108) (hx : x.length ≤ 1048576) (hy : y.length ≤ 1048576) : Ev (fun k => laws_toState.f k x y) (x.map convI, y.map convF) := by
  simp only [laws_toState.f]
  refine Ev.bind (toItemS_ev x hx) ?_
  refine Ev.bind (toFloorS_ev y hy) ?_
  exact evSome _
theorem szItemS_l (x : List S105) (hx : x.length ≤ 1048576) (hs : ∀ v ∈ x, v.f1.f4.size ≤ 140737488351232) : ∀ (d i : Nat) (n : Int), i + d = x.length → 0 ≤ n → n ≤ 1048576 →
    ∃ m, Ev (fun k => laws_szItemS.l0 k x n (i : Int)) m ∧ m ≤ n := by
  intro d
  induction d with
  | zero =>
    intro i n h _ _
    refine ⟨n, evRet fun k => ?_, Int.le_refl _⟩
    simp only [laws_szItemS.l0]; rw [if_neg (by omega)]
  | succ d ih =>
    intro i n h h0 h1
    have hi : i < x.length := by omega
    have hsz := hs _ (List.getElem_mem hi)
    by_cases hneg : n - (x[i].f1.f4.size : Int) < 0
    · refine ⟨-1, evRet fun k => ?_, by omega⟩
      simp only [laws_szItemS.l0, laws_szItem.f, laws_szEntry.f]
      rw [if_pos (by omega), if_pos (by omega), rdLI hi, w64 (by omega) (by omega), if_pos hneg]
      rfl
    · obtain ⟨m, hm, hle⟩ := ih (i + 1) (n - (x[i].f1.f4.size : Int)) (by omega) (by omega) (by omega)
      refine ⟨m, evStep hm fun k => ?_, by omega⟩
      simp only [laws_szItemS.l0, laws_szItem.f, laws_szEntry.f]
      rw [if_pos (by omega), if_pos (by omega), rdLI hi, w64 (n := n - _) (by omega) (by omega), if_neg hneg]
      simp only [Option.bind_some]
      rw [if_neg hneg]
      simp only [Option.bind_some]
      rw [if_neg hneg, w64 (by omega) (by omega)]
      rfl
theorem szItemS_ev (x : List S105) (hx : x.length ≤ 140737488351232) (hs : ∀ v ∈ x, v.f1.f4.size ≤ 140737488351232) (n : Int) (h0 : 0 ≤ n) (h1 : n ≤ 1048576) :
    ∃ m, Ev (fun k => laws_szItemS.f k x n) m ∧ m ≤ n ∧ (0 ≤ m → x.length ≤ 1048576) := by
  by_cases hneg : n - (x.length : Int) < 0
  · refine ⟨-1, evEq (evSome _) fun k => ?_, by omega, by omega⟩
    simp only [laws_szItemS.f]; rw [w64 (by omega) (by omega), if_pos hneg]
  · obtain ⟨m, hm, hle⟩ := szItemS_l x (by omega) hs x.length 0 (n - (x.length : Int)) (by omega) (by omega) (by omega)
    refine ⟨m, evEq hm fun k => ?_, by omega, by omega⟩
    simp only [laws_szItemS.f]; rw [w64 (by omega) (by omega), if_neg hneg]
    rfl
theorem szState_ev (x : List S105) (y : List S108) (hx : x.length ≤ 140737488351232) (hy : y.length ≤ 140737488351232) (hs : ∀ v ∈ x, v.f1.f4.size ≤ 140737488351232) (n : Int) (h0 : 0 ≤ n) (h1 : n ≤ 1048576) :
    ∃ m, Ev (fun k => laws_szState.f k x y n) m ∧ m ≤ n ∧ (0 ≤ m → x.length ≤ 1048576 ∧ y.length ≤ 1048576) := by
  obtain ⟨m, hm, hle, hb⟩ := szItemS_ev x hx hs n h0 h1
  by_cases hn : m < 0
  · refine ⟨-1, ?_, by omega, by omega⟩
    simp only [laws_szState.f]
    refine Ev.bind hm ?_
    simp only [if_pos hn]; exact evSome _
  · by_cases hneg : m - (y.length : Int) < 0
    · refine ⟨-1, ?_, by omega, by omega⟩
      simp only [laws_szState.f, laws_szFloorS.f]
      refine Ev.bind hm ?_
      simp only [if_neg hn]
      rw [w64 (by omega) (by omega)]
      simp only [if_pos hneg, Option.bind_some]; exact evSome _
    · refine ⟨m - (y.length : Int), ?_, by omega, fun _ => ⟨hb (by omega), by omega⟩⟩
      simp only [laws_szState.f, laws_szFloorS.f]
      refine Ev.bind hm ?_
      simp only [if_neg hn]
      rw [w64 (by omega) (by omega)]
      simp only [if_neg hneg, Option.bind_some]; exact evSome _
theorem eqEntry_self (a b c d : Int) (s : ByteArray) : laws_eqEntry.f a b c d s a b c d s = some true := by
  simp only [laws_eqEntry.f, if_true]
theorem eqItemS_l (x : List S84) (hx : x.length ≤ 2097152) : ∀ (d i : Nat), i + d = x.length → Ev (fun k => laws_eqItemS.l0 k x x (i : Int)) true := by
  intro d
  induction d with
  | zero =>
    intro i h
    refine evRet fun k => ?_
    simp only [laws_eqItemS.l0]; rw [if_neg (by omega)]
  | succ d ih =>
    intro i h
    refine evStep (ih (i + 1) (by omega)) fun k => ?_
    simp only [laws_eqItemS.l0, laws_eqItem.f, eqEntry_self, Option.bind_some, if_true]
    rw [if_pos (by omega), if_pos (by omega), if_pos (by omega), w64 (by omega) (by omega)]
    rfl
theorem eqItemS_ev (x : List S84) (hx : x.length ≤ 2097152) : Ev (fun k => laws_eqItemS.f k x x) true := by
  refine evEq (eqItemS_l x hx x.length 0 (by omega)) fun k => ?_
  simp only [laws_eqItemS.f, if_true]; rfl
theorem eqFloorS_l (x : List S89) (hx : x.length ≤ 2097152) : ∀ (d i : Nat), i + d = x.length → Ev (fun k => laws_eqFloorS.l0 k x x (i : Int)) true := by
  intro d
  induction d with
  | zero =>
    intro i h
    refine evRet fun k => ?_
    simp only [laws_eqFloorS.l0]; rw [if_neg (by omega)]
  | succ d ih =>
    intro i h
    refine evStep (ih (i + 1) (by omega)) fun k => ?_
    simp only [laws_eqFloorS.l0, laws_eqFloor.f, Option.bind_some, if_true]
    rw [if_pos (by omega), if_pos (by omega), if_pos (by omega), w64 (by omega) (by omega)]
    rfl
theorem eqFloorS_ev (x : List S89) (hx : x.length ≤ 2097152) : Ev (fun k => laws_eqFloorS.f k x x) true := by
  refine evEq (eqFloorS_l x hx x.length 0 (by omega)) fun k => ?_
  simp only [laws_eqFloorS.f, if_true]; rfl
theorem eqState_ev (x : List S84) (y : List S89) (hx : x.length ≤ 2097152) (hy : y.length ≤ 2097152) : Ev (fun k => laws_eqState.f k x y x y) true := by
  simp only [laws_eqState.f]
  refine Ev.bind (eqItemS_ev x hx) ?_
  simp only [if_true]
  refine Ev.bind (eqFloorS_ev y hy) ?_
  simp only [if_true]
  exact evSome _

def sameI : List S84 → List S84 → Bool
  | [], _ => true
  | _ :: _, [] => true
  | x :: r, y :: q => if (!((x.f0 == y.f0)) || ((!((x.f1.f0 == y.f1.f0)) || (!((x.f1.f1 == y.f1.f1)) || (!((x.f1.f2 == y.f1.f2)) || (!((x.f1.f3 == y.f1.f3)) || (!((x.f1.f4.toList == y.f1.f4.toList))))))))) = true then false else sameI r q
def sameF : List S89 → List S89 → Bool
  | [], _ => true
  | _ :: _, [] => true
  | x :: r, y :: q => if (!((x.f0 == y.f0)) || (!((x.f1 == y.f1)))) = true then false else sameF r q
def sameS (a : List S84) (b : List S89) (c : List S84) (d : List S89) : Bool :=
  decide (a.length = c.length) && (decide (b.length = d.length) && (sameI a c && sameF b d))
theorem spec_Same_l1 (a c : List S84) (b d : List S89) (hl : b.length = d.length) (hb : b.length ≤ 2097152) : ∀ (m i : Nat), i + m = b.length → Ev (fun k => spec_StateSame.l1 k (i : Int) a b c d) (sameF (b.drop i) (d.drop i)) := by
  intro m
  induction m with
  | zero =>
    intro i h
    rw [List.drop_eq_nil_of_le (by omega)]
    exact evRet fun k => by simp only [spec_StateSame.l1]; rw [if_neg (by omega)]; rfl
  | succ m ih =>
    intro i h
    have hi : i < b.length := by omega
    have hj : i < d.length := by omega
    have := ih (i + 1) (by omega)
    rw [List.drop_eq_getElem_cons hi, List.drop_eq_getElem_cons hj]
    simp only [sameF]
    refine evSucc ?_
    simp only [spec_StateSame.l1, rdF hi, rdF hj]
    simp only [if_pos (show (i : Int) < (b.length : Int) by omega), if_pos (show (0 : Int) ≤ (i : Int) by omega), if_pos (show (i : Int) < (d.length : Int) by omega), w64 (show (-9223372036854775808 : Int) ≤ (i : Int) + 1 by omega) (by omega)]
    split
    · exact evSome _
    · exact this
theorem spec_Same_l0 (a c : List S84) (b d : List S89) (hl : b.length = d.length) (hb : b.length ≤ 2097152) (hl2 : a.length = c.length) (ha : a.length ≤ 2097152) : ∀ (m i : Nat), i + m = a.length → Ev (fun k => spec_StateSame.l0 k (i : Int) a b c d) (sameI (a.drop i) (c.drop i) && sameF b d) := by
  intro m
  induction m with
  | zero =>
    intro i h
    rw [List.drop_eq_nil_of_le (by omega)]
    refine evSucc ?_
    simp only [spec_StateSame.l0]
    simp only [if_neg (show ¬ (i : Int) < (a.length : Int) by omega)]
    simpa [sameI] using spec_Same_l1 a c b d hl hb b.length 0 (by omega)
  | succ m ih =>
    intro i h
    have hi : i < a.length := by omega
    have hj : i < c.length := by omega
    have := ih (i + 1) (by omega)
    rw [List.drop_eq_getElem_cons hi, List.drop_eq_getElem_cons hj]
    simp only [sameI]
    refine evSucc ?_
    simp only [spec_StateSame.l0, rdI hi, rdI hj]
    simp only [if_pos (show (i : Int) < (a.length : Int) by omega), if_pos (show (0 : Int) ≤ (i : Int) by omega), if_pos (show (i : Int) < (c.length : Int) by omega), w64 (show (-9223372036854775808 : Int) ≤ (i : Int) + 1 by omega) (by omega)]
    split
    · exact evSome _
    · exact this
theorem spec_StateSame_ev (a c : List S84) (b d : List S89) (ha : a.length ≤ 2097152) (hb : b.length ≤ 2097152) : Ev (fun k => spec_StateSame.f k a b c d) (sameS a b c d) := by
  simp only [spec_StateSame.f]
  by_cases h1 : a.length = c.length
  · simp only [if_pos (show (a.length : Int) = (c.length : Int) by omega)]
    refine evSucc ?_
    simp only [spec_StateSame.j0]
    by_cases h2 : b.length = d.length
    · have := spec_Same_l0 a c b d h2 hb h1 ha a.length 0 (by omega)
      simpa [sameS, h1, h2] using this
    · have : ((b.length : Int) != (d.length : Int)) = true := by simp; omega
      simp only [this, if_true]
      have e : sameS a b c d = false := by simp [sameS, h2]
      rw [e]; exact evSome _
  · simp only [if_neg (show ¬ (a.length : Int) = (c.length : Int) by omega)]
    refine evSucc ?_
    simp only [spec_StateSame.j0, if_true]
    have e : sameS a b c d = false := by simp [sameS, h1]
    rw [e]; exact evSome _
theorem impl_Item_l0 (a c : List S84) (hl2 : a.length = c.length) (ha : a.length ≤ 2097152) : ∀ (m i : Nat), i + m = a.length → Ev (fun k => impl_Item.l0 k a c (a.length : Int) (i : Int)) (sameI (a.drop i) (c.drop i)) := by
  intro m
  induction m with
  | zero =>
    intro i h
    rw [List.drop_eq_nil_of_le (by omega)]
    refine evSucc ?_
    simp only [impl_Item.l0]
    simp only [if_neg (show ¬ (i : Int) < (a.length : Int) by omega)]
    exact evSome _
  | succ m ih =>
    intro i h
    have hi : i < a.length := by omega
    have hj : i < c.length := by omega
    have := ih (i + 1) (by omega)
    rw [List.drop_eq_getElem_cons hi, List.drop_eq_getElem_cons hj]
    simp only [sameI]
    refine evSucc ?_
    simp only [impl_Item.l0, rdI hi, rdI hj]
    simp only [if_pos (show (i : Int) < (a.length : Int) by omega), if_pos (show (0 : Int) ≤ (i : Int) by omega), if_pos (show (i : Int) < (c.length : Int) by omega), w64 (show (-9223372036854775808 : Int) ≤ (i : Int) + 1 by omega) (by omega)]
    split
    · exact evSome _
    · exact this
theorem impl_Floor_l0 (b d : List S89) (hl2 : b.length = d.length) (hb : b.length ≤ 2097152) : ∀ (m i : Nat), i + m = b.length → Ev (fun k => impl_Floor.l0 k b d (b.length : Int) (i : Int)) (sameF (b.drop i) (d.drop i)) := by
  intro m
  induction m with
  | zero =>
    intro i h
    rw [List.drop_eq_nil_of_le (by omega)]
    refine evSucc ?_
    simp only [impl_Floor.l0]
    simp only [if_neg (show ¬ (i : Int) < (b.length : Int) by omega)]
    exact evSome _
  | succ m ih =>
    intro i h
    have hi : i < b.length := by omega
    have hj : i < d.length := by omega
    have := ih (i + 1) (by omega)
    rw [List.drop_eq_getElem_cons hi, List.drop_eq_getElem_cons hj]
    simp only [sameF]
    refine evSucc ?_
    simp only [impl_Floor.l0, rdF hi, rdF hj]
    simp only [if_pos (show (i : Int) < (b.length : Int) by omega), if_pos (show (0 : Int) ≤ (i : Int) by omega), if_pos (show (i : Int) < (d.length : Int) by omega), w64 (show (-9223372036854775808 : Int) ≤ (i : Int) + 1 by omega) (by omega)]
    split
    · exact evSome _
    · exact this
theorem impl_Item_ev (a c : List S84) (ha : a.length ≤ 2097152) : Ev (fun k => impl_Item.f k a c) (decide (a.length = c.length) && sameI a c) := by
  simp only [impl_Item.f]
  by_cases h1 : a.length = c.length
  · simp only [if_pos (show (a.length : Int) = (c.length : Int) by omega)]
    have := impl_Item_l0 a c h1 ha a.length 0 (by omega)
    simpa [h1] using this
  · simp only [if_neg (show ¬ (a.length : Int) = (c.length : Int) by omega)]
    simp only [h1, decide_false, Bool.false_and]; exact evSome _
theorem impl_Floor_ev (b d : List S89) (hb : b.length ≤ 2097152) : Ev (fun k => impl_Floor.f k b d) (decide (b.length = d.length) && sameF b d) := by
  simp only [impl_Floor.f]
  by_cases h1 : b.length = d.length
  · simp only [if_pos (show (b.length : Int) = (d.length : Int) by omega)]
    have := impl_Floor_l0 b d h1 hb b.length 0 (by omega)
    simpa [h1] using this
  · simp only [if_neg (show ¬ (b.length : Int) = (d.length : Int) by omega)]
    simp only [h1, decide_false, Bool.false_and]; exact evSome _
theorem impl_StateSame_ev (a c : List S84) (b d : List S89) (ha : a.length ≤ 2097152) (hb : b.length ≤ 2097152) : Ev (fun k => impl_StateSame.f k a b c d) (sameS a b c d) := by
  simp only [impl_StateSame.f]
  refine Ev.bind (impl_Item_ev a c ha) ?_
  by_cases h1 : (decide (a.length = c.length) && sameI a c) = true
  · simp only [if_pos h1]
    refine Ev.bind (impl_Floor_ev b d hb) ?_
    have e : sameS a b c d = (decide (b.length = d.length) && sameF b d) := by
      simp only [Bool.and_eq_true, decide_eq_true_eq] at h1
      simp [sameS, h1.1, h1.2]
    rw [e]; exact evSome _
  · simp only [if_neg h1]
    have e : sameS a b c d = false := by
      simp only [sameS]
      cases hd : decide (a.length = c.length) <;> cases hi : sameI a c <;> simp_all
    rw [e]; exact evSome _

theorem FnExactStateSame : laws_FnExactStateSame.Pure := by
  intro l fl p fp hl _ hs hf _ _ hp _ hps hpf _ _
  apply Ev.rounds
  obtain ⟨n, hn, hle, hn2⟩ := szState_ev l fl (by simp [maxLen] at *; omega) (by simp [maxLen] at *; omega) (fun v hv => (hs v hv).2.2.2.2.2) 1048576 (by omega) (by omega)
  simp only [laws_FnExactStateSame.f]
  refine Ev.bind hn ?_
  by_cases hn0 : n < 0
  · simp only [if_pos hn0]; exact evSome _
  simp only [if_neg hn0]
  obtain ⟨b1, b2⟩ := hn2 (by omega)
  obtain ⟨m, hm, _, hm2⟩ := szState_ev p fp (by simp [maxLen] at *; omega) (by simp [maxLen] at *; omega) (fun v hv => (hps v hv).2.2.2.2.2) n (by omega) (by omega)
  refine Ev.bind hm ?_
  by_cases hm0 : m < 0
  · simp only [if_pos hm0]; exact evSome _
  simp only [if_neg hm0]
  obtain ⟨b3, b4⟩ := hm2 (by omega)
  refine Ev.bind (toState_ev l fl b1 b2) ?_
  refine Ev.bind (toState_ev p fp b3 b4) ?_
  refine Ev.bind (spec_StateSame_ev _ _ _ _ (by simp; omega) (by simp; omega)) ?_
  refine Ev.bind (toState_ev l fl b1 b2) ?_
  refine Ev.bind (toState_ev p fp b3 b4) ?_
  refine Ev.bind (impl_StateSame_ev _ _ _ _ (by simp; omega) (by simp; omega)) ?_
  simp only [bne_self_eq_false, Bool.false_eq_true, if_false]
  refine Ev.bind (toState_ev l fl b1 b2) ?_
  refine Ev.bind (eqState_ev _ _ (by simp; omega) (by simp; omega)) ?_
  simp only [if_true]
  refine Ev.bind (toState_ev p fp b3 b4) ?_
  refine Ev.bind (eqState_ev _ _ (by simp; omega) (by simp; omega)) ?_
  simp only [if_true]
  exact evSome _

end Go.Proofs.Ythljdiniccpobaa.Pure
