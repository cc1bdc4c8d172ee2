/- What the law FnExactStateText computes is true for every state. No condition. -/
import Derived.Test.YtomlglpmljngfaaDoorPlFnExactStateText
namespace Go.Proofs.YtomlglpmljngfaaDoor.Pure
open Go.RowKit Go.Proofs.YtomlglpmljngfaaDoor.P Go.Proofs.YtomlglpmljngfaaDoorW.PrintWords Go.Proofs.YtomlglpmljngfaaDoorW.PrintLast
set_option linter.unusedVariables false
set_option linter.unusedSimpArgs false
theorem w64 {n : Int} (h0 : -9223372036854775808 ≤ n) (h1 : n ≤ 9223372036854775807) : wrap64 n = n := by
 unfold wrap64; omega
theorem tmod_pos {a b : Int} (h : 0 ≤ a) : Int.tmod a b = a % b := Int.tmod_eq_emod_of_nonneg h
theorem evSome {α : Type} (r : α) : Ev (fun _ => some r) r := Ev.now r
theorem evEq {α : Type} {g f : Nat → Option α} {r : α} (k : Ev f r) (h : ∀ k, g k = f k) : Ev g r := Ev.congr h k
theorem evStep {α : Type} {g f : Nat → Option α} {r : α} (k : Ev f r) (h : ∀ k, g (k + 1) = f k) : Ev g r := Ev.step h k
theorem evRet {α : Type} {g : Nat → Option α} {r : α} (h : ∀ k, g (k + 1) = some r) : Ev g r := Ev.step h (Ev.now r)
theorem wf_i64 {a : Int} (h : (Lit.int .i64 a).wf = true) : -9223372036854775808 ≤ a ∧ a ≤ 9223372036854775807 := by
 simp [Lit.wf, IntKind.min, IntKind.max, IntKind.bits, IntKind.signed] at h; omega
theorem evSucc {α : Type} {g : Nat → Option α} {r : α} (h : Ev (fun k => g (k + 1)) r) : Ev g r := Ev.step (f := fun k => g (k + 1)) (fun _ => rfl) h
def convI (x : S84) : S63 := ⟨x.f0, ⟨x.f1.f0, x.f1.f1, x.f1.f2, x.f1.f3, x.f1.f4⟩⟩
def convF (x : S87) : S68 := ⟨x.f0, x.f1⟩
theorem rdLI {l : List S84} {i : Nat} (h : i < l.length) : rd_T84 l (i : Int) = l[i] := by
 unfold rd_T84; simp [List.getD_eq_getElem?_getD, h]
theorem rdLF {l : List S87} {i : Nat} (h : i < l.length) : rd_T87 l (i : Int) = l[i] := by
 unfold rd_T87; simp [List.getD_eq_getElem?_getD, h]
theorem rdI {l : List S63} {i : Nat} (h : i < l.length) : rd_T63 l (i : Int) = l[i] := by
 unfold rd_T63; simp [List.getD_eq_getElem?_getD, h]
theorem rdF {l : List S68} {i : Nat} (h : i < l.length) : rd_T68 l (i : Int) = l[i] := by
 unfold rd_T68; simp [List.getD_eq_getElem?_getD, h]
theorem toItemS_l (x : List S84) (hx : x.length ≤ 1048576) : ∀ (d i : Nat) (y : List S63), i + d = x.length → y.length = x.length →
  Ev (fun k => laws_toItemS.l0 k x y (i : Int)) (y.take i ++ (x.drop i).map convI) := by
 intro d
 induction d with
 | zero =>
  intro i y h hy
  have e : y.take i ++ (x.drop i).map convI = y := by
   rw [List.drop_eq_nil_of_le (by omega), List.take_of_length_le (by omega), List.map_nil, List.append_nil]
  rw [e]
  refine evRet fun k => ?_
  simp only [laws_toItemS.l0]; rw [if_neg (by omega)]
 | succ d ih =>
  intro i y h hy
  have hi : i < x.length := by omega
  have := ih (i + 1) (y.set i (convI x[i])) (by omega) (by simpa using hy)
  have e : (y.set i (convI x[i])).take (i + 1) ++ (x.drop (i + 1)).map convI = y.take i ++ (x.drop i).map convI := by
   rw [List.drop_eq_getElem_cons hi, List.take_succ_eq_append_getElem (by simp; omega), List.take_set_of_le (Nat.le_refl i)]
   simp only [List.map_cons, List.getElem_set_self, List.append_assoc, List.singleton_append, List.cons_append, List.nil_append]
  rw [e] at this
  refine evStep this fun k => ?_
  simp only [laws_toItemS.l0, laws_toItem.f, laws_toEntry.f, Option.bind_some]
  rw [if_pos (by omega), if_pos (by omega), if_pos (by omega), rdLI hi, w64 (by omega) (by omega)]
  rfl
theorem toItemS_ev (x : List S84) (hx : x.length ≤ 1048576) : Ev (fun k => laws_toItemS.f k x) (x.map convI) := by
 have := toItemS_l x hx x.length 0 (List.replicate x.length z63) (by omega) (by simp)
 simp only [List.take_zero, List.drop_zero, List.nil_append] at this
 refine evEq this fun k => ?_
 simp only [laws_toItemS.f]
 rw [if_pos (by omega), if_pos (by omega)]
 rfl
theorem toFloorS_l (x : List S87) (hx : x.length ≤ 1048576) : ∀ (d i : Nat) (y : List S68), i + d = x.length → y.length = x.length →
  Ev (fun k => laws_toFloorS.l0 k x y (i : Int)) (y.take i ++ (x.drop i).map convF) := by
 intro d
 induction d with
 | zero =>
  intro i y h hy
  have e : y.take i ++ (x.drop i).map convF = y := by
   rw [List.drop_eq_nil_of_le (by omega), List.take_of_length_le (by omega), List.map_nil, List.append_nil]
  rw [e]
  refine evRet fun k => ?_
  simp only [laws_toFloorS.l0]; rw [if_neg (by omega)]
 | succ d ih =>
  intro i y h hy
  have hi : i < x.length := by omega
  have := ih (i + 1) (y.set i (convF x[i])) (by omega) (by simpa using hy)
  have e : (y.set i (convF x[i])).take (i + 1) ++ (x.drop (i + 1)).map convF = y.take i ++ (x.drop i).map convF := by
   rw [List.drop_eq_getElem_cons hi, List.take_succ_eq_append_getElem (by simp; omega), List.take_set_of_le (Nat.le_refl i)]
   simp only [List.map_cons, List.getElem_set_self, List.append_assoc, List.singleton_append, List.cons_append, List.nil_append]
  rw [e] at this
  refine evStep this fun k => ?_
  simp only [laws_toFloorS.l0, laws_toFloor.f, Option.bind_some]
  rw [if_pos (by omega), if_pos (by omega), if_pos (by omega), rdLF hi, w64 (by omega) (by omega)]
  rfl
theorem toFloorS_ev (x : List S87) (hx : x.length ≤ 1048576) : Ev (fun k => laws_toFloorS.f k x) (x.map convF) := by
 have := toFloorS_l x hx x.length 0 (List.replicate x.length z68) (by omega) (by simp)
 simp only [List.take_zero, List.drop_zero, List.nil_append] at this
 refine evEq this fun k => ?_
 simp only [laws_toFloorS.f]
 rw [if_pos (by omega), if_pos (by omega)]
 rfl
theorem toState_ev (x : List S84) (y : List S87) (hx : x.length ≤ 1048576) (hy : y.length ≤ 1048576) : Ev (fun k => laws_toState.f k x y) (x.map convI, y.map convF) := by
 simp only [laws_toState.f]
 refine Ev.bind (toItemS_ev x hx) ?_
 refine Ev.bind (toFloorS_ev y hy) ?_
 exact evSome _
theorem eqEntry_self (a b c d : Int) (s : ByteArray) : laws_eqEntry.f a b c d s a b c d s = some true := by
 simp only [laws_eqEntry.f, if_true]
theorem eqItemS_l (x : List S63) (hx : x.length ≤ 2097152) : ∀ (d i : Nat), i + d = x.length → Ev (fun k => laws_eqItemS.l0 k x x (i : Int)) true := by
 intro d
 induction d with
 | zero =>
  intro i h
  refine evRet fun k => ?_
  simp only [laws_eqItemS.l0]; rw [if_neg (by omega)]
 | succ d ih =>
  intro i h
  refine evStep (ih (i + 1) (by omega)) fun k => ?_
  simp only [laws_eqItemS.l0, laws_eqItem.f, eqEntry_self, Option.bind_some, if_true]
  rw [if_pos (by omega), if_pos (by omega), if_pos (by omega), w64 (by omega) (by omega)]
  rfl
theorem eqItemS_ev (x : List S63) (hx : x.length ≤ 2097152) : Ev (fun k => laws_eqItemS.f k x x) true := by
 refine evEq (eqItemS_l x hx x.length 0 (by omega)) fun k => ?_
 simp only [laws_eqItemS.f, if_true]; rfl
theorem eqFloorS_l (x : List S68) (hx : x.length ≤ 2097152) : ∀ (d i : Nat), i + d = x.length → Ev (fun k => laws_eqFloorS.l0 k x x (i : Int)) true := by
 intro d
 induction d with
 | zero =>
  intro i h
  refine evRet fun k => ?_
  simp only [laws_eqFloorS.l0]; rw [if_neg (by omega)]
 | succ d ih =>
  intro i h
  refine evStep (ih (i + 1) (by omega)) fun k => ?_
  simp only [laws_eqFloorS.l0, laws_eqFloor.f, Option.bind_some, if_true]
  rw [if_pos (by omega), if_pos (by omega), if_pos (by omega), w64 (by omega) (by omega)]
  rfl
theorem eqFloorS_ev (x : List S68) (hx : x.length ≤ 2097152) : Ev (fun k => laws_eqFloorS.f k x x) true := by
 refine evEq (eqFloorS_l x hx x.length 0 (by omega)) fun k => ?_
 simp only [laws_eqFloorS.f, if_true]; rfl
theorem eqState_ev (x : List S63) (y : List S68) (hx : x.length ≤ 2097152) (hy : y.length ≤ 2097152) : Ev (fun k => laws_eqState.f k x y x y) true := by
 simp only [laws_eqState.f]
 refine Ev.bind (eqItemS_ev x hx) ?_
 simp only [if_true]
 refine Ev.bind (eqFloorS_ev y hy) ?_
 simp only [if_true]
 exact evSome _
theorem szItemS_l2 (x : List S84) (hx : x.length ≤ 1048576) (hs : ∀ v ∈ x, v.f1.f4.size ≤ 140737488351232) : ∀ (d i : Nat) (n : Int), i + d = x.length → 0 ≤ n → n ≤ 1048576 →
  ∃ m, Ev (fun k => laws_szItemS.l0 k x n (i : Int)) m ∧ m ≤ n ∧ (0 ≤ m → ∀ v ∈ x.drop i, v.f1.f4.size ≤ 1048576) := by
 intro d
 induction d with
 | zero =>
  intro i n h _ _
  refine ⟨n, evRet fun k => ?_, Int.le_refl _, fun _ v hv => by rw [List.drop_eq_nil_of_le (by omega)] at hv; simp at hv⟩
  simp only [laws_szItemS.l0]; rw [if_neg (by omega)]
 | succ d ih =>
  intro i n h h0 h1
  have hi : i < x.length := by omega
  have hsz := hs _ (List.getElem_mem hi)
  by_cases hneg : n - (x[i].f1.f4.size : Int) < 0
  ·refine ⟨-1, evRet fun k => ?_, by omega, by omega⟩
   simp only [laws_szItemS.l0, laws_szItem.f, laws_szEntry.f]
   rw [if_pos (by omega), if_pos (by omega), rdLI hi, w64 (by omega) (by omega), if_pos hneg]
   rfl
  ·obtain ⟨m, hm, hle, hz⟩ := ih (i + 1) (n - (x[i].f1.f4.size : Int)) (by omega) (by omega) (by omega)
   refine ⟨m, evStep hm fun k => ?_, by omega, fun h0 v hv => by
    rw [List.drop_eq_getElem_cons hi] at hv
    rcases List.mem_cons.1 hv with rfl | hv
    ·omega
    ·exact hz h0 v hv⟩
   simp only [laws_szItemS.l0, laws_szItem.f, laws_szEntry.f]
   rw [if_pos (by omega), if_pos (by omega), rdLI hi, w64 (n := n - _) (by omega) (by omega), if_neg hneg]
   simp only [Option.bind_some]
   rw [if_neg hneg]
   simp only [Option.bind_some]
   rw [if_neg hneg, w64 (by omega) (by omega)]
   rfl
theorem szItemS_ev2 (x : List S84) (hx : x.length ≤ 140737488351232) (hs : ∀ v ∈ x, v.f1.f4.size ≤ 140737488351232) (n : Int) (h0 : 0 ≤ n) (h1 : n ≤ 1048576) :
  ∃ m, Ev (fun k => laws_szItemS.f k x n) m ∧ m ≤ n ∧ (0 ≤ m → x.length ≤ 1048576 ∧ ∀ v ∈ x, v.f1.f4.size ≤ 1048576) := by
 by_cases hneg : n - (x.length : Int) < 0
 ·refine ⟨-1, evEq (evSome _) fun k => ?_, by omega, by omega⟩
  simp only [laws_szItemS.f]; rw [w64 (by omega) (by omega), if_pos hneg]
 ·obtain ⟨m, hm, hle, hz⟩ := szItemS_l2 x (by omega) hs x.length 0 (n - (x.length : Int)) (by omega) (by omega) (by omega)
  refine ⟨m, evEq hm fun k => ?_, by omega, fun h => ⟨by omega, fun v hv => hz h v (by simpa using hv)⟩⟩
  simp only [laws_szItemS.f]; rw [w64 (by omega) (by omega), if_neg hneg]
  rfl
theorem szState_ev2 (x : List S84) (y : List S87) (hx : x.length ≤ 140737488351232) (hy : y.length ≤ 140737488351232) (hs : ∀ v ∈ x, v.f1.f4.size ≤ 140737488351232) (n : Int) (h0 : 0 ≤ n) (h1 : n ≤ 1048576) :
  ∃ m, Ev (fun k => laws_szState.f k x y n) m ∧ m ≤ n ∧ (0 ≤ m → x.length ≤ 1048576 ∧ y.length ≤ 1048576 ∧ ∀ v ∈ x, v.f1.f4.size ≤ 1048576) := by
 obtain ⟨m, hm, hle, hb⟩ := szItemS_ev2 x hx hs n h0 h1
 by_cases hn : m < 0
 ·refine ⟨-1, ?_, by omega, by omega⟩
  simp only [laws_szState.f]
  refine Ev.bind hm ?_
  simp only [if_pos hn]; exact evSome _
 ·by_cases hneg : m - (y.length : Int) < 0
  ·refine ⟨-1, ?_, by omega, by omega⟩
   simp only [laws_szState.f, laws_szFloorS.f]
   refine Ev.bind hm ?_
   simp only [if_neg hn]
   rw [w64 (by omega) (by omega)]
   simp only [if_pos hneg, Option.bind_some]; exact evSome _
  ·refine ⟨m - (y.length : Int), ?_, by omega, fun _ => ⟨(hb (by omega)).1, by omega, (hb (by omega)).2⟩⟩
   simp only [laws_szState.f, laws_szFloorS.f]
   refine Ev.bind hm ?_
   simp only [if_neg hn]
   rw [w64 (by omega) (by omega)]
   simp only [if_neg hneg, Option.bind_some]; exact evSome _
def bs (l : List UInt8) : ByteArray := ⟨l.toArray⟩
theorem bs_data (x : ByteArray) : bs x.data.toList = x := by
 cases x
 simp [bs]
theorem bs_app (a b : List UInt8) : bs a ++ bs b = bs (a ++ b) := by
 apply ByteArray.ext
 simp [bs]
theorem bs_size (l : List UInt8) : (bs l).size = l.length := by simp [bs, ByteArray.size]
theorem ba_assoc (a b c : ByteArray) : a ++ b ++ c = a ++ (b ++ c) := ByteArray.append_assoc
theorem ba_size (a b : ByteArray) : (a ++ b).size = a.size + b.size := ByteArray.size_append
theorem ba_nil (a : ByteArray) : a ++ (⟨#[]⟩ : ByteArray) = a := by
 apply ByteArray.ext
 simp
def decD (u : Nat) : List UInt8 := if u = 0 then [] else Lib.decDigits u
theorem decD_step {u : Nat} (h : 0 < u) : decD u = decD (u / 10) ++ [UInt8.ofNat (48 + u % 10)] := by
 unfold decD
 rw [if_neg (by omega), Lib.decDigits]
 by_cases c : u < 10
 ·rw [dif_pos c, if_pos (by omega), show u % 10 = u by omega]; rfl
 ·rw [dif_neg c, if_neg (by omega)]
theorem decD_len : ∀ (d u : Nat), u < 10 ^ d → (decD u).length ≤ d := by
 intro d
 induction d with
 | zero =>
  intro u h
  rw [show u = 0 by omega]; simp [decD]
 | succ d ih =>
  intro u h
  by_cases c : u = 0
  ·rw [c]; simp [decD]
  ·rw [decD_step (by omega), List.length_append]
   have := ih (u / 10) (by rw [Nat.pow_succ] at h; omega)
   simp
   omega
def dig (n : Int) : ByteArray := bs (Lib.itoa n)
def finD (b : Bool) (s : ByteArray) : ByteArray := if b = true then (⟨#[45]⟩ : ByteArray) ++ s else s
theorem digit_str {q : Int} (h0 : 0 ≤ q) (h1 : q < 10) : strOfNums [(wrap64 (48 + q)) % 256] = bs [UInt8.ofNat (48 + q.toNat)] := by
 rw [w64 (by omega) (by omega)]
 have e : ((48 + q) % 256).toNat = 48 + q.toNat := by omega
 simp [strOfNums, bs, e]
theorem spec_Digits_l : ∀ (d : Nat) (x : Int) (b : Bool) (acc : ByteArray), x.natAbs < 10 ^ d → acc.size + d ≤ 40 → -9223372036854775808 ≤ x → x ≤ 9223372036854775807 → Ev (fun k => spec_Digits.l0 k x b acc) (finD b (bs (decD x.natAbs) ++ acc)) := by
 have fin0 : ∀ (b : Bool) (acc : ByteArray), acc.size ≤ 40 → Ev (fun k => spec_Digits.l0 k 0 b acc) (finD b (bs (decD (0 : Int).natAbs) ++ acc)) := by
  intro b acc ha
  have e : bs (decD (0 : Int).natAbs) ++ acc = acc := by
   apply ByteArray.ext
   simp [bs, decD]
  rw [e]
  refine evRet fun k => ?_
  simp only [spec_Digits.l0, if_true]
  cases b
  ·rfl
  ·simp only [if_true, finD, if_pos (show 1 + acc.size ≤ 9223372036854775807 by omega)]
 intro d
 induction d with
 | zero =>
  intro x b acc h ha _ _
  obtain rfl : x = 0 := by omega
  exact fin0 b acc (by omega)
 | succ d ih =>
  intro x b acc h ha l0 l1
  by_cases h0 : x = 0
  ·subst h0
   exact fin0 b acc (by omega)
  ·have hd : x.natAbs / 10 < 10 ^ d := by rw [Nat.pow_succ] at h; omega
   have key : ∀ q : Int, 0 ≤ q → q.toNat = x.natAbs % 10 → (strOfNums [(wrap64 (48 + q)) % 256]).size + acc.size ≤ 9223372036854775807 ∧ Ev (fun k => spec_Digits.l0 k (wrap64 (Int.tdiv x 10)) b (strOfNums [(wrap64 (48 + q)) % 256] ++ acc)) (finD b (bs (decD x.natAbs) ++ acc)) := by
    intro q q0 qe
    have e1 := digit_str q0 (by omega)
    have ea : (Int.tdiv x 10).natAbs = x.natAbs / 10 := by
     rw [Int.natAbs_tdiv]; rfl
    have eb : -9223372036854775808 ≤ Int.tdiv x 10 ∧ Int.tdiv x 10 ≤ 9223372036854775807 := by omega
    have es : (strOfNums [(wrap64 (48 + q)) % 256]).size = 1 := by rw [e1, bs_size]; rfl
    have := ih (Int.tdiv x 10) b (strOfNums [(wrap64 (48 + q)) % 256] ++ acc) (by rw [ea]; exact hd) (by rw [ba_size, es]; omega) eb.1 eb.2
    refine ⟨by omega, ?_⟩
    rw [w64 eb.1 eb.2]
    rw [ea, e1, ← ba_assoc, bs_app, qe, ← decD_step (by omega)] at this
    rw [e1, qe]
    exact this
   refine evSucc ?_
   simp only [spec_Digits.l0, if_neg h0, Option.bind_some]
   by_cases hm : Int.tmod x 10 < 0
   ·have hx : x < 0 := Decidable.byContradiction fun hx => by have := Int.tmod_nonneg 10 (show 0 ≤ x by omega); omega
    have hy : Int.tmod x 10 = -((x.natAbs % 10 : Nat) : Int) := by
     have e : x = -((x.natAbs : Nat) : Int) := by omega
     conv => lhs; rw [e, Int.neg_tmod, tmod_pos (by omega)]
     omega
    obtain ⟨k1, k2⟩ := key (-(Int.tmod x 10)) (by omega) (by omega)
    simp only [if_pos hm, w64 (n := -(Int.tmod x 10)) (by omega) (by omega), if_pos k1]
    exact k2
   ·have hy : Int.tmod x 10 = ((x.natAbs % 10 : Nat) : Int) := by
     by_cases hx : 0 ≤ x
     ·rw [tmod_pos hx]; omega
     ·have e : x = -((x.natAbs : Nat) : Int) := by omega
      have e2 : Int.tmod x 10 = -((x.natAbs : Int) % 10) := by
       conv => lhs; rw [e, Int.neg_tmod, tmod_pos (by omega)]
      omega
    obtain ⟨k1, k2⟩ := key (Int.tmod x 10) (by omega) (by omega)
    simp only [if_neg hm, if_pos k1]
    exact k2
theorem dig_size {n : Int} (h0 : -9223372036854775808 ≤ n) (h1 : n ≤ 9223372036854775807) : (dig n).size ≤ 20 := by
 unfold dig Lib.itoa
 have h : ∀ u : Nat, u < 10 ^ 19 → (Lib.decDigits u).length ≤ 19 := fun u hu => by
  by_cases c : u = 0
  ·rw [c, Lib.decDigits, dif_pos (by omega)]; simp
  ·have := decD_len 19 u hu
   unfold decD at this
   rwa [if_neg c] at this
 split
 ·rw [bs_size]
  have := h n.natAbs (by omega)
  simp
  omega
 ·rw [bs_size]
  have := h n.toNat (by omega)
  omega
theorem spec_Digits_ev (n : Int) (h0 : -9223372036854775808 ≤ n) (h1 : n ≤ 9223372036854775807) : Ev (fun k => spec_Digits.f k n) (dig n) := by
 simp only [spec_Digits.f]
 by_cases c : n = 0
 ·subst c
  simp only [if_true]
  have e : dig 0 = (⟨#[48]⟩ : ByteArray) := by
   unfold dig Lib.itoa
   rw [if_neg (by omega), Lib.decDigits, dif_pos (by decide)]
   rfl
  rw [e]
  exact evSome _
 ·simp only [if_neg c]
  have := spec_Digits_l 19 n (decide (n < 0)) (⟨#[]⟩ : ByteArray) (by omega) (by simp [ByteArray.size]) h0 h1
  have e : finD (decide (n < 0)) (bs (decD n.natAbs) ++ (⟨#[]⟩ : ByteArray)) = dig n := by
   rw [ba_nil]
   have hz : ¬ n.natAbs = 0 := by omega
   unfold finD dig Lib.itoa decD
   rw [if_neg hz]
   by_cases d : n < 0
   ·rw [decide_eq_true d, if_pos rfl, if_pos d]
    exact bs_app [45] (Lib.decDigits n.natAbs)
   ·rw [decide_eq_false d, if_neg (by simp), if_neg d, show n.natAbs = n.toNat by omega]
  rw [e] at this
  exact this
theorem impl_Digits_eq (n : Int) (h0 : -9223372036854775808 ≤ n) (h1 : n ≤ 9223372036854775807) : impl_Digits.f n = some (dig n) := by
 unfold impl_Digits.f strconv_Itoa.f
 rw [if_pos ⟨h0, h1⟩]
 rfl
def rankB (r : Int) : ByteArray := if r = 0 then (⟨#[117]⟩ : ByteArray) else if r = 1 then (⟨#[103]⟩ : ByteArray) else (⟨#[63]⟩ : ByteArray)
def entW (a x b c s : ByteArray) : ByteArray := (((((a ++ x) ++ b) ++ (⟨#[46]⟩ : ByteArray)) ++ c) ++ (⟨#[58]⟩ : ByteArray)) ++ s
def entT (i r b v : Int) (s : ByteArray) : ByteArray := entW (dig i) (rankB r) (dig b) (dig v) s
theorem one_size (u : UInt8) : (⟨#[u]⟩ : ByteArray).size = 1 := rfl
theorem rankB_size (r : Int) : (rankB r).size = 1 := by
 unfold rankB
 split
 ·rfl
 ·split <;> rfl
theorem entT_size {i r b v : Int} {s : ByteArray} (hi : -9223372036854775808 ≤ i ∧ i ≤ 9223372036854775807) (hb : -9223372036854775808 ≤ b ∧ b ≤ 9223372036854775807) (hv : -9223372036854775808 ≤ v ∧ v ≤ 9223372036854775807) : (entT i r b v s).size ≤ 70 + s.size := by
 have h1 := dig_size hi.1 hi.2
 have h2 := dig_size hb.1 hb.2
 have h3 := dig_size hv.1 hv.2
 have h4 := rankB_size r
 unfold entT entW
 simp only [ba_size, one_size]
 omega
section
variable {i r b v : Int} {s : ByteArray}
theorem spec_EntryText_ev (hi : -9223372036854775808 ≤ i ∧ i ≤ 9223372036854775807) (hb : -9223372036854775808 ≤ b ∧ b ≤ 9223372036854775807) (hv : -9223372036854775808 ≤ v ∧ v ≤ 9223372036854775807) (hs : s.size ≤ 140737488351232) : Ev (fun k => spec_EntryText.f k i r b v s) (entT i r b v s) := by
 have h1 := dig_size hi.1 hi.2
 have h2 := dig_size hb.1 hb.2
 have h3 := dig_size hv.1 hv.2
 have main : ∀ x : ByteArray, x.size = 1 → (r ≠ 1 → rankB r = x) → Ev (fun k => spec_EntryText.j0 k x i r b v s) (entT i r b v s) := by
  intro x hx hr
  refine evSucc ?_
  by_cases c : r = 1
  ·simp only [spec_EntryText.j0, if_pos c]
   have e : rankB r = (⟨#[103]⟩ : ByteArray) := by unfold rankB; rw [if_neg (by omega), if_pos c]
   refine Ev.bind (spec_Digits_ev i hi.1 hi.2) ?_
   simp only [if_pos (show (dig i).size + 1 ≤ 9223372036854775807 by omega)]
   refine Ev.bind (spec_Digits_ev b hb.1 hb.2) ?_
   simp only [if_pos (show (dig i ++ (⟨#[103]⟩ : ByteArray)).size + (dig b).size ≤ 9223372036854775807 by simp only [ba_size, one_size]; omega), if_pos (show ((dig i ++ (⟨#[103]⟩ : ByteArray)) ++ dig b).size + 1 ≤ 9223372036854775807 by simp only [ba_size, one_size]; omega)]
   refine Ev.bind (spec_Digits_ev v hv.1 hv.2) ?_
   simp only [if_pos (show (((dig i ++ (⟨#[103]⟩ : ByteArray)) ++ dig b) ++ (⟨#[46]⟩ : ByteArray)).size + (dig v).size ≤ 9223372036854775807 by simp only [ba_size, one_size]; omega), if_pos (show ((((dig i ++ (⟨#[103]⟩ : ByteArray)) ++ dig b) ++ (⟨#[46]⟩ : ByteArray)) ++ dig v).size + 1 ≤ 9223372036854775807 by simp only [ba_size, one_size]; omega), if_pos (show (((((dig i ++ (⟨#[103]⟩ : ByteArray)) ++ dig b) ++ (⟨#[46]⟩ : ByteArray)) ++ dig v) ++ (⟨#[58]⟩ : ByteArray)).size + s.size ≤ 9223372036854775807 by simp only [ba_size, one_size]; omega)]
   unfold entT entW
   rw [e]
   exact evSome _
  ·simp only [spec_EntryText.j0, if_neg c]
   have e := hr c
   refine Ev.bind (spec_Digits_ev i hi.1 hi.2) ?_
   simp only [if_pos (show (dig i).size + x.size ≤ 9223372036854775807 by omega)]
   refine Ev.bind (spec_Digits_ev b hb.1 hb.2) ?_
   simp only [if_pos (show (dig i ++ x).size + (dig b).size ≤ 9223372036854775807 by simp only [ba_size]; omega), if_pos (show ((dig i ++ x) ++ dig b).size + 1 ≤ 9223372036854775807 by simp only [ba_size]; omega)]
   refine Ev.bind (spec_Digits_ev v hv.1 hv.2) ?_
   simp only [if_pos (show (((dig i ++ x) ++ dig b) ++ (⟨#[46]⟩ : ByteArray)).size + (dig v).size ≤ 9223372036854775807 by simp only [ba_size, one_size]; omega), if_pos (show ((((dig i ++ x) ++ dig b) ++ (⟨#[46]⟩ : ByteArray)) ++ dig v).size + 1 ≤ 9223372036854775807 by simp only [ba_size, one_size]; omega), if_pos (show (((((dig i ++ x) ++ dig b) ++ (⟨#[46]⟩ : ByteArray)) ++ dig v) ++ (⟨#[58]⟩ : ByteArray)).size + s.size ≤ 9223372036854775807 by simp only [ba_size, one_size]; omega)]
   unfold entT entW
   rw [e]
   exact evSome _
 simp only [spec_EntryText.f]
 by_cases c0 : r = 0
 ·simp only [if_pos c0]
  exact main _ rfl (fun _ => by unfold rankB; rw [if_pos c0])
 ·simp only [if_neg c0]
  exact main _ rfl (fun c1 => by unfold rankB; rw [if_neg c0, if_neg c1])
theorem impl_EntryText_eq (hi : -9223372036854775808 ≤ i ∧ i ≤ 9223372036854775807) (hb : -9223372036854775808 ≤ b ∧ b ≤ 9223372036854775807) (hv : -9223372036854775808 ≤ v ∧ v ≤ 9223372036854775807) (hs : s.size ≤ 140737488351232) : impl_EntryText.f i r b v s = some (entT i r b v s) := by
 have h1 := dig_size hi.1 hi.2
 have h2 := dig_size hb.1 hb.2
 have h3 := dig_size hv.1 hv.2
 have g : ∀ u : UInt8, (if (dig i).size + 1 ≤ 9223372036854775807 then (if (dig i ++ (⟨#[u]⟩ : ByteArray)).size + (dig b).size ≤ 9223372036854775807 then (if ((dig i ++ (⟨#[u]⟩ : ByteArray)) ++ dig b).size + 1 ≤ 9223372036854775807 then (if (((dig i ++ (⟨#[u]⟩ : ByteArray)) ++ dig b) ++ (⟨#[46]⟩ : ByteArray)).size + (dig v).size ≤ 9223372036854775807 then (if ((((dig i ++ (⟨#[u]⟩ : ByteArray)) ++ dig b) ++ (⟨#[46]⟩ : ByteArray)) ++ dig v).size + 1 ≤ 9223372036854775807 then (if (((((dig i ++ (⟨#[u]⟩ : ByteArray)) ++ dig b) ++ (⟨#[46]⟩ : ByteArray)) ++ dig v) ++ (⟨#[58]⟩ : ByteArray)).size + s.size ≤ 9223372036854775807 then (some ((((((dig i ++ (⟨#[u]⟩ : ByteArray)) ++ dig b) ++ (⟨#[46]⟩ : ByteArray)) ++ dig v) ++ (⟨#[58]⟩ : ByteArray)) ++ s)) else none) else none) else none) else none) else none) else none) = some (entW (dig i) (⟨#[u]⟩ : ByteArray) (dig b) (dig v) s) := by
  intro u
  rw [if_pos (by omega), if_pos (by simp only [ba_size, one_size]; omega), if_pos (by simp only [ba_size, one_size]; omega), if_pos (by simp only [ba_size, one_size]; omega), if_pos (by simp only [ba_size, one_size]; omega), if_pos (by simp only [ba_size, one_size]; omega)]
  rfl
 unfold impl_EntryText.f
 simp only [impl_Digits_eq i hi.1 hi.2, impl_Digits_eq b hb.1 hb.2, impl_Digits_eq v hv.1 hv.2, Option.bind_some, g]
 unfold entT rankB
 split
 ·rfl
 ·split <;> rfl
end
def joinB (ws : List ByteArray) : ByteArray := bs (Lib.join (ws.map (·.data.toList)) [32])
theorem joinTail_app (sep : List UInt8) (r q : List (List UInt8)) : Lib.joinTail sep (r ++ q) = Lib.joinTail sep r ++ Lib.joinTail sep q := by
 unfold Lib.joinTail
 rw [List.map_append, List.flatten_append]
theorem joinB_nil : joinB [] = (⟨#[]⟩ : ByteArray) := rfl
theorem joinB_one (w : ByteArray) : joinB [w] = w := by
 unfold joinB
 rw [List.map_cons, List.map_nil, Lib.join_one, bs_data]
theorem joinB_snoc (x : ByteArray) (r : List ByteArray) (w : ByteArray) : joinB ((x :: r) ++ [w]) = (joinB (x :: r) ++ (⟨#[32]⟩ : ByteArray)) ++ w := by
 have e : ((x :: r) ++ [w]).map (fun x => x.data.toList) = x.data.toList :: (r.map (fun x => x.data.toList) ++ [w.data.toList]) := by simp
 have e2 : Lib.joinTail [32] [w.data.toList] = [32] ++ w.data.toList := by simp [Lib.joinTail]
 unfold joinB
 rw [e, Lib.join_cons, joinTail_app, e2, List.map_cons, Lib.join_cons]
 show _ = bs _ ++ bs [32] ++ w
 rw [bs_app]
 conv => rhs; rw [← bs_data w]
 rw [bs_app]
 congr 1
 simp
theorem joinB_size (B : Nat) : ∀ (n : Nat) (ws : List ByteArray), ws.length = n → (∀ w ∈ ws, w.size ≤ B) → (joinB ws).size ≤ (B + 1) * n := by
 intro n
 induction n with
 | zero =>
  intro ws h _
  rw [List.length_eq_zero_iff.1 h, joinB_nil]
  exact Nat.zero_le _
 | succ n ih =>
  intro ws h hB
  obtain ⟨r, w, rfl⟩ : ∃ r w, ws = r ++ [w] := ⟨ws.dropLast, ws.getLast (by intro e; rw [e] at h; simp at h), (List.dropLast_concat_getLast _).symm⟩
  have hr : r.length = n := by simp at h; omega
  have h1 := ih r hr (fun v hv => hB v (by simp [hv]))
  have h2 := hB w (by simp)
  rw [Nat.mul_succ]
  cases r with
  | nil =>
   rw [List.nil_append, joinB_one]
   omega
  | cons x r =>
   rw [joinB_snoc, ba_size, ba_size, one_size]
   omega
theorem joinB_ne {x : ByteArray} {r : List ByteArray} (h : 0 < x.size) : (joinB (x :: r)).toList ≠ [] := by
 rw [Lib.toList_data]
 unfold joinB
 rw [List.map_cons, Lib.join_cons]
 have : x.data.toList ≠ [] := by
  intro e
  have : x.data.toList.length = 0 := by rw [e]; rfl
  rw [Array.length_toList] at this
  have : x.size = 0 := this
  omega
 simp [bs, this]
def wI (x : S63) : ByteArray := (dig x.f0 ++ (⟨#[61]⟩ : ByteArray)) ++ entT x.f1.f0 x.f1.f1 x.f1.f2 x.f1.f3 x.f1.f4
def wF (x : S68) : ByteArray := (((⟨#[45]⟩ : ByteArray) ++ dig x.f0) ++ (⟨#[60]⟩ : ByteArray)) ++ dig x.f1
def i64B (n : Int) : Prop := -9223372036854775808 ≤ n ∧ n ≤ 9223372036854775807
def intsI (x : S63) : Prop := i64B x.f0 ∧ i64B x.f1.f0 ∧ i64B x.f1.f2 ∧ i64B x.f1.f3 ∧ x.f1.f4.size ≤ 1048576
def intsF (x : S68) : Prop := i64B x.f0 ∧ i64B x.f1
def stateT (a : List S63) (b : List S68) : ByteArray := joinB (a.map wI ++ b.map wF)
theorem wI_size {x : S63} (h : intsI x) : 0 < (wI x).size ∧ (wI x).size ≤ 1100000 ∧ (dig x.f0).size ≤ 20 ∧ (entT x.f1.f0 x.f1.f1 x.f1.f2 x.f1.f3 x.f1.f4).size ≤ 1050000 := by
 obtain ⟨h0, h1, h2, h3, h4⟩ := h
 have e1 := dig_size h0.1 h0.2
 have e2 := entT_size (r := x.f1.f1) (s := x.f1.f4) h1 h2 h3
 unfold wI
 rw [ba_size, ba_size, one_size]
 omega
theorem wF_size {x : S68} (h : intsF x) : 0 < (wF x).size ∧ (wF x).size ≤ 1100000 ∧ (dig x.f0).size ≤ 20 ∧ (dig x.f1).size ≤ 20 := by
 have e1 := dig_size h.1.1 h.1.2
 have e2 := dig_size h.2.1 h.2.2
 unfold wF
 rw [ba_size, ba_size, ba_size, one_size, one_size]
 omega
section
variable {a : List S63} {b : List S68}
theorem spec_StateText_l1 (hb : b.length ≤ 2097152) (hB : ∀ x ∈ b, intsF x) : ∀ (d j : Nat) (ws : List ByteArray), j + d = b.length → (∀ w ∈ ws, 0 < w.size) → (joinB ws).size ≤ 2000000 * (2097152 + j) → Ev (fun k => spec_StateText.l1 k (joinB ws) (j : Int) a b) (joinB (ws ++ (b.drop j).map wF)) := by
 intro d
 induction d with
 | zero =>
  intro j ws h _ _
  rw [List.drop_eq_nil_of_le (by omega), List.map_nil, List.append_nil]
  refine evRet fun k => ?_
  simp only [spec_StateText.l1]
  rw [if_neg (by omega)]
 | succ d ih =>
  intro j ws h hp hs
  have hj : j < b.length := by omega
  have hx := hB _ (List.getElem_mem hj)
  obtain ⟨p0, p1, p2, p3⟩ := wF_size hx
  have next := ih (j + 1) (ws ++ [wF b[j]]) (by omega) (fun w hw => by rcases List.mem_append.1 hw with hw | hw; exact hp w hw; simp at hw; rw [hw]; exact p0)
  rw [List.drop_eq_getElem_cons hj, List.map_cons]
  have e2 : ws ++ [wF b[j]] ++ (b.drop (j + 1)).map wF = ws ++ wF b[j] :: (b.drop (j + 1)).map wF := by simp
  rw [e2] at next
  refine evSucc ?_
  simp only [spec_StateText.l1, if_pos (show (j : Int) < (b.length : Int) by omega), if_pos (show (0 : Int) ≤ (j : Int) by omega), rdF hj, w64 (n := (j : Int) + 1) (by omega) (by omega)]
  cases ws with
  | nil =>
   simp only [joinB_nil, show ((⟨#[]⟩ : ByteArray).toList = ([] : List UInt8)) from by rw [Lib.toList_data], if_true]
   have ez : (⟨#[]⟩ : ByteArray).size = 0 := rfl
   have el : ∀ y : ByteArray, (⟨#[]⟩ : ByteArray) ++ y = y := fun y => by apply ByteArray.ext; simp
   simp only [el, ez, if_pos (show 0 + 1 ≤ 9223372036854775807 by omega)]
   refine Ev.bind (spec_Digits_ev _ hx.1.1 hx.1.2) ?_
   simp only [if_pos (show (⟨#[45]⟩ : ByteArray).size + (dig b[j].f0).size ≤ 9223372036854775807 by rw [one_size]; omega), if_pos (show ((⟨#[45]⟩ : ByteArray) ++ dig b[j].f0).size + 1 ≤ 9223372036854775807 by rw [ba_size, one_size]; omega)]
   refine Ev.bind (spec_Digits_ev _ hx.2.1 hx.2.2) ?_
   simp only [if_pos (show (((⟨#[45]⟩ : ByteArray) ++ dig b[j].f0) ++ (⟨#[60]⟩ : ByteArray)).size + (dig b[j].f1).size ≤ 9223372036854775807 by rw [ba_size, ba_size, one_size, one_size]; omega)]
   rw [List.nil_append, joinB_one] at next
   exact next (by omega)
  | cons x r =>
   have hne := joinB_ne (r := r) (hp x (by simp))
   rw [joinB_snoc] at next
   simp only [if_neg hne, if_pos (show (joinB (x :: r)).size + 1 ≤ 9223372036854775807 by omega), if_pos (show (joinB (x :: r) ++ (⟨#[32]⟩ : ByteArray)).size + 1 ≤ 9223372036854775807 by rw [ba_size, one_size]; omega)]
   refine Ev.bind (spec_Digits_ev _ hx.1.1 hx.1.2) ?_
   simp only [if_pos (show ((joinB (x :: r) ++ (⟨#[32]⟩ : ByteArray)) ++ (⟨#[45]⟩ : ByteArray)).size + (dig b[j].f0).size ≤ 9223372036854775807 by rw [ba_size, ba_size, one_size, one_size]; omega), if_pos (show (((joinB (x :: r) ++ (⟨#[32]⟩ : ByteArray)) ++ (⟨#[45]⟩ : ByteArray)) ++ dig b[j].f0).size + 1 ≤ 9223372036854775807 by rw [ba_size, ba_size, ba_size, one_size, one_size]; omega)]
   refine Ev.bind (spec_Digits_ev _ hx.2.1 hx.2.2) ?_
   simp only [if_pos (show ((((joinB (x :: r) ++ (⟨#[32]⟩ : ByteArray)) ++ (⟨#[45]⟩ : ByteArray)) ++ dig b[j].f0) ++ (⟨#[60]⟩ : ByteArray)).size + (dig b[j].f1).size ≤ 9223372036854775807 by rw [ba_size, ba_size, ba_size, ba_size, one_size, one_size, one_size]; omega)]
   have e3 : (joinB (x :: r) ++ (⟨#[32]⟩ : ByteArray)) ++ wF b[j] = ((((joinB (x :: r) ++ (⟨#[32]⟩ : ByteArray)) ++ (⟨#[45]⟩ : ByteArray)) ++ dig b[j].f0) ++ (⟨#[60]⟩ : ByteArray)) ++ dig b[j].f1 := by
    unfold wF
    simp only [ba_assoc]
   rw [← e3]
   exact next (by rw [ba_size, ba_size, one_size]; omega)
theorem spec_StateText_l0 (ha : a.length ≤ 2097152) (hb : b.length ≤ 2097152) (hA : ∀ x ∈ a, intsI x) (hB : ∀ x ∈ b, intsF x) : ∀ (d i : Nat) (ws : List ByteArray), i + d = a.length → (∀ w ∈ ws, 0 < w.size) → (joinB ws).size ≤ 2000000 * i → Ev (fun k => spec_StateText.l0 k (joinB ws) (i : Int) a b) (joinB (ws ++ ((a.drop i).map wI ++ b.map wF))) := by
 intro d
 induction d with
 | zero =>
  intro i ws h hp hs
  rw [List.drop_eq_nil_of_le (by omega), List.map_nil, List.nil_append]
  refine evSucc ?_
  simp only [spec_StateText.l0, if_neg (show ¬ (i : Int) < (a.length : Int) by omega)]
  exact spec_StateText_l1 hb hB b.length 0 ws (by omega) hp (by omega)
 | succ d ih =>
  intro i ws h hp hs
  have hi : i < a.length := by omega
  have hx := hA _ (List.getElem_mem hi)
  obtain ⟨p0, p1, p2, p3⟩ := wI_size hx
  have next := ih (i + 1) (ws ++ [wI a[i]]) (by omega) (fun w hw => by rcases List.mem_append.1 hw with hw | hw; exact hp w hw; simp at hw; rw [hw]; exact p0)
  rw [List.drop_eq_getElem_cons hi, List.map_cons]
  have e2 : ws ++ [wI a[i]] ++ ((a.drop (i + 1)).map wI ++ b.map wF) = ws ++ (wI a[i] :: (a.drop (i + 1)).map wI ++ b.map wF) := by simp
  rw [e2] at next
  refine evSucc ?_
  simp only [spec_StateText.l0, if_pos (show (i : Int) < (a.length : Int) by omega), if_pos (show (0 : Int) ≤ (i : Int) by omega), rdI hi, w64 (n := (i : Int) + 1) (by omega) (by omega)]
  cases ws with
  | nil =>
   simp only [joinB_nil, show ((⟨#[]⟩ : ByteArray).toList = ([] : List UInt8)) from by rw [Lib.toList_data], if_true]
   have ez : (⟨#[]⟩ : ByteArray).size = 0 := rfl
   have el : ∀ y : ByteArray, (⟨#[]⟩ : ByteArray) ++ y = y := fun y => by apply ByteArray.ext; simp
   simp only [el, ez]
   refine Ev.bind (spec_Digits_ev _ hx.1.1 hx.1.2) ?_
   simp only [if_pos (show 0 + (dig a[i].f0).size ≤ 9223372036854775807 by omega), if_pos (show (dig a[i].f0).size + 1 ≤ 9223372036854775807 by omega)]
   refine Ev.bind (spec_EntryText_ev hx.2.1 hx.2.2.1 hx.2.2.2.1 (by have := hx.2.2.2.2; omega)) ?_
   simp only [if_pos (show (dig a[i].f0 ++ (⟨#[61]⟩ : ByteArray)).size + (entT a[i].f1.f0 a[i].f1.f1 a[i].f1.f2 a[i].f1.f3 a[i].f1.f4).size ≤ 9223372036854775807 by rw [ba_size, one_size]; omega)]
   rw [List.nil_append, joinB_one] at next
   exact next (by omega)
  | cons x r =>
   have hne := joinB_ne (r := r) (hp x (by simp))
   rw [joinB_snoc] at next
   simp only [if_neg hne, if_pos (show (joinB (x :: r)).size + 1 ≤ 9223372036854775807 by omega)]
   refine Ev.bind (spec_Digits_ev _ hx.1.1 hx.1.2) ?_
   simp only [if_pos (show (joinB (x :: r) ++ (⟨#[32]⟩ : ByteArray)).size + (dig a[i].f0).size ≤ 9223372036854775807 by rw [ba_size, one_size]; omega), if_pos (show ((joinB (x :: r) ++ (⟨#[32]⟩ : ByteArray)) ++ dig a[i].f0).size + 1 ≤ 9223372036854775807 by rw [ba_size, ba_size, one_size]; omega)]
   refine Ev.bind (spec_EntryText_ev hx.2.1 hx.2.2.1 hx.2.2.2.1 (by have := hx.2.2.2.2; omega)) ?_
   simp only [if_pos (show (((joinB (x :: r) ++ (⟨#[32]⟩ : ByteArray)) ++ dig a[i].f0) ++ (⟨#[61]⟩ : ByteArray)).size + (entT a[i].f1.f0 a[i].f1.f1 a[i].f1.f2 a[i].f1.f3 a[i].f1.f4).size ≤ 9223372036854775807 by rw [ba_size, ba_size, ba_size, one_size, one_size]; omega)]
   have e3 : (joinB (x :: r) ++ (⟨#[32]⟩ : ByteArray)) ++ wI a[i] = (((joinB (x :: r) ++ (⟨#[32]⟩ : ByteArray)) ++ dig a[i].f0) ++ (⟨#[61]⟩ : ByteArray)) ++ entT a[i].f1.f0 a[i].f1.f1 a[i].f1.f2 a[i].f1.f3 a[i].f1.f4 := by
    unfold wI
    simp only [ba_assoc]
   rw [← e3]
   exact next (by rw [ba_size, ba_size, one_size]; omega)
theorem spec_StateText_ev (ha : a.length ≤ 2097152) (hb : b.length ≤ 2097152) (hA : ∀ x ∈ a, intsI x) (hB : ∀ x ∈ b, intsF x) : Ev (fun k => spec_StateText.f k a b) (stateT a b) := by
 have := spec_StateText_l0 ha hb hA hB a.length 0 [] (by omega) (fun w hw => by simp at hw) (by rw [joinB_nil]; exact Nat.zero_le _)
 rw [joinB_nil] at this
 exact this
theorem join_eq (ws : List ByteArray) (hn : ws.length ≤ 4194304) (hB : ∀ w ∈ ws, w.size ≤ 1100000) : strings_Join.f ws (⟨#[32]⟩ : ByteArray) = some (joinB ws) := by
 have h := joinB_size 1100000 ws.length ws rfl hB
 have e : (joinB ws).size = (Lib.join (ws.map (·.data.toList)) [32]).length := bs_size _
 unfold strings_Join.f
 rw [if_pos]
 ·rfl
 ·refine ⟨by omega, ?_⟩
  show (Lib.join (ws.map (·.data.toList)) [32]).length ≤ _
  omega
theorem impl_StateText_l1 (hb : b.length ≤ 2097152) (hB : ∀ x ∈ b, intsF x) : ∀ (d j : Nat) (ws : List ByteArray), j + d = b.length → ws.length ≤ 2097152 + j → (∀ w ∈ ws, w.size ≤ 1100000) → Ev (fun k => impl_StateText.l1 k ws b (b.length : Int) (j : Int)) (joinB (ws ++ (b.drop j).map wF)) := by
 intro d
 induction d with
 | zero =>
  intro j ws h hl hs
  rw [List.drop_eq_nil_of_le (by omega), List.map_nil, List.append_nil]
  refine evRet fun k => ?_
  simp only [impl_StateText.l1]
  rw [if_neg (by omega), join_eq ws (by omega) hs]
  rfl
 | succ d ih =>
  intro j ws h hl hs
  have hj : j < b.length := by omega
  have hx := hB _ (List.getElem_mem hj)
  obtain ⟨p0, p1, p2, p3⟩ := wF_size hx
  have next := ih (j + 1) (ws ++ [wF b[j]]) (by omega) (by simp; omega) (fun w hw => by rcases List.mem_append.1 hw with hw | hw; exact hs w hw; simp at hw; rw [hw]; exact p1)
  rw [List.drop_eq_getElem_cons hj, List.map_cons]
  have e2 : ws ++ [wF b[j]] ++ (b.drop (j + 1)).map wF = ws ++ wF b[j] :: (b.drop (j + 1)).map wF := by simp
  rw [e2] at next
  refine evSucc ?_
  simp only [impl_StateText.l1, if_pos (show (j : Int) < (b.length : Int) by omega), if_pos (show (0 : Int) ≤ (j : Int) by omega), rdF hj, w64 (n := (j : Int) + 1) (by omega) (by omega), impl_Digits_eq _ hx.1.1 hx.1.2, impl_Digits_eq _ hx.2.1 hx.2.2, Option.bind_some]
  simp only [if_pos (show 1 + (dig b[j].f0).size ≤ 9223372036854775807 by omega), if_pos (show ((⟨#[45]⟩ : ByteArray) ++ dig b[j].f0).size + 1 ≤ 9223372036854775807 by rw [ba_size, one_size]; omega), if_pos (show (((⟨#[45]⟩ : ByteArray) ++ dig b[j].f0) ++ (⟨#[60]⟩ : ByteArray)).size + (dig b[j].f1).size ≤ 9223372036854775807 by rw [ba_size, ba_size, one_size, one_size]; omega), if_pos (show ws.length < 8796093022208 by omega)]
  exact next
theorem impl_StateText_l0 (ha : a.length ≤ 2097152) (hb : b.length ≤ 2097152) (hA : ∀ x ∈ a, intsI x) (hB : ∀ x ∈ b, intsF x) : ∀ (d i : Nat) (ws : List ByteArray), i + d = a.length → ws.length ≤ i → (∀ w ∈ ws, w.size ≤ 1100000) → Ev (fun k => impl_StateText.l0 k ws a (a.length : Int) (i : Int) a b) (joinB (ws ++ ((a.drop i).map wI ++ b.map wF))) := by
 intro d
 induction d with
 | zero =>
  intro i ws h hl hs
  rw [List.drop_eq_nil_of_le (by omega), List.map_nil, List.nil_append]
  refine evSucc ?_
  simp only [impl_StateText.l0, if_neg (show ¬ (i : Int) < (a.length : Int) by omega)]
  exact impl_StateText_l1 hb hB b.length 0 ws (by omega) (by omega) hs
 | succ d ih =>
  intro i ws h hl hs
  have hi : i < a.length := by omega
  have hx := hA _ (List.getElem_mem hi)
  obtain ⟨p0, p1, p2, p3⟩ := wI_size hx
  have next := ih (i + 1) (ws ++ [wI a[i]]) (by omega) (by simp; omega) (fun w hw => by rcases List.mem_append.1 hw with hw | hw; exact hs w hw; simp at hw; rw [hw]; exact p1)
  rw [List.drop_eq_getElem_cons hi, List.map_cons]
  have e2 : ws ++ [wI a[i]] ++ ((a.drop (i + 1)).map wI ++ b.map wF) = ws ++ (wI a[i] :: (a.drop (i + 1)).map wI ++ b.map wF) := by simp
  rw [e2] at next
  refine evSucc ?_
  simp only [impl_StateText.l0, if_pos (show (i : Int) < (a.length : Int) by omega), if_pos (show (0 : Int) ≤ (i : Int) by omega), rdI hi, w64 (n := (i : Int) + 1) (by omega) (by omega), impl_Digits_eq _ hx.1.1 hx.1.2, impl_EntryText_eq hx.2.1 hx.2.2.1 hx.2.2.2.1 (show a[i].f1.f4.size ≤ 140737488351232 by have := hx.2.2.2.2; omega), Option.bind_some]
  simp only [if_pos (show (dig a[i].f0).size + 1 ≤ 9223372036854775807 by omega), if_pos (show (dig a[i].f0 ++ (⟨#[61]⟩ : ByteArray)).size + (entT a[i].f1.f0 a[i].f1.f1 a[i].f1.f2 a[i].f1.f3 a[i].f1.f4).size ≤ 9223372036854775807 by rw [ba_size, one_size]; omega), if_pos (show ws.length < 8796093022208 by omega)]
  exact next
theorem impl_StateText_ev (ha : a.length ≤ 2097152) (hb : b.length ≤ 2097152) (hA : ∀ x ∈ a, intsI x) (hB : ∀ x ∈ b, intsF x) : Ev (fun k => impl_StateText.f k a b) (stateT a b) :=
 impl_StateText_l0 ha hb hA hB a.length 0 [] (by omega) (by simp) (fun w hw => by simp at hw)
end
theorem FnExactStateText : laws_FnExactStateText.Pure := by
 intro l fl hl _ hs hf _ hsf
 apply Ev.rounds
 obtain ⟨n, hn, _, hn2⟩ := szState_ev2 l fl (by simp [maxLen] at *; omega) (by simp [maxLen] at *; omega) (fun v hv => (hs v hv).2.2.2.2.2) 1048576 (by omega) (by omega)
 simp only [laws_FnExactStateText.f]
 refine Ev.bind hn ?_
 by_cases hn0 : n < 0
 ·simp only [if_pos hn0]; exact evSome _
 simp only [if_neg hn0]
 obtain ⟨b1, b2, b3⟩ := hn2 (by omega)
 have hA : ∀ x ∈ l.map convI, intsI x := fun x hx => by
  obtain ⟨v, hv, rfl⟩ := List.mem_map.1 hx
  obtain ⟨h0, h1, _, h2, h3, _⟩ := hs v hv
  exact ⟨wf_i64 h0, wf_i64 h1, wf_i64 h2, wf_i64 h3, b3 v hv⟩
 have hB : ∀ x ∈ fl.map convF, intsF x := fun x hx => by
  obtain ⟨v, hv, rfl⟩ := List.mem_map.1 hx
  obtain ⟨h0, h1⟩ := hsf v hv
  exact ⟨wf_i64 h0, wf_i64 h1⟩
 refine Ev.bind (toState_ev l fl b1 b2) ?_
 refine Ev.bind (spec_StateText_ev (by simp; omega) (by simp; omega) hA hB) ?_
 refine Ev.bind (toState_ev l fl b1 b2) ?_
 refine Ev.bind (impl_StateText_ev (by simp; omega) (by simp; omega) hA hB) ?_
 simp only [if_true]
 refine Ev.bind (toState_ev l fl b1 b2) ?_
 refine Ev.bind (eqState_ev _ _ (by simp; omega) (by simp; omega)) ?_
 simp only [if_true]
 exact evSome _
end Go.Proofs.YtomlglpmljngfaaDoor.Pure
