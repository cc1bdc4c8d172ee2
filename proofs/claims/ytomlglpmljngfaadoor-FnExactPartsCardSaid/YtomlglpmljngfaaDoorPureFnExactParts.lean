/- What the law FnExactParts computes is true for every text and byte. No condition. -/
import Derived.Test.YtomlglpmljngfaaDoorPlFnExactParts
namespace Go.Proofs.YtomlglpmljngfaaDoor.Pure
open Go.RowKit Go.Proofs.YtomlglpmljngfaaDoor.P Go.Proofs.YtomlglpmljngfaaDoorW.PrintWords Go.Proofs.YtomlglpmljngfaaDoorW.PrintLast
set_option linter.unusedVariables false
set_option linter.unusedSimpArgs false
theorem w64 {n : Int} (h0 : -9223372036854775808 ≤ n) (h1 : n ≤ 9223372036854775807) : wrap64 n = n := by
 unfold wrap64; omega
theorem tdiv_pos {a b : Int} (h : 0 ≤ a) : Int.tdiv a b = a / b := Int.tdiv_eq_ediv_of_nonneg h
theorem evSome {α : Type} (r : α) : Ev (fun _ => some r) r := Ev.now r
theorem evEq {α : Type} {g f : Nat → Option α} {r : α} (k : Ev f r) (h : ∀ k, g k = f k) : Ev g r := Ev.congr h k
theorem evStep {α : Type} {g f : Nat → Option α} {r : α} (k : Ev f r) (h : ∀ k, g (k + 1) = f k) : Ev g r := Ev.step h k
theorem evRet {α : Type} {g : Nat → Option α} {r : α} (h : ∀ k, g (k + 1) = some r) : Ev g r := Ev.step h (Ev.now r)
theorem wf_u8 {a : Int} (h : (Lit.int .u8 a).wf = true) : 0 ≤ a ∧ a < 256 := by
 simp [Lit.wf, IntKind.min, IntKind.max, IntKind.bits, IntKind.signed] at h; omega
theorem evSucc {α : Type} {g : Nat → Option α} {r : α} (h : Ev (fun k => g (k + 1)) r) : Ev g r := Ev.step (f := fun k => g (k + 1)) (fun _ => rfl) h
def bs (l : List UInt8) : ByteArray := ⟨l.toArray⟩
theorem bs_data (x : ByteArray) : bs x.data.toList = x := by
 cases x
 simp [bs]
theorem bs_size (l : List UInt8) : (bs l).size = l.length := by simp [bs, ByteArray.size]
theorem markText_l : ∀ (d : Nat) (n : Int) (acc : ByteArray), n ≤ (d : Int) → acc.size + d ≤ 9223372036854775806 → ∃ t, Ev (fun k => laws_markText.l0 k n acc) t := by
 intro d
 induction d with
 | zero =>
  intro n acc hn hs
  refine ⟨(⟨#[109]⟩ : ByteArray) ++ acc, evRet fun k => ?_⟩
  simp only [laws_markText.l0]; rw [if_neg (by omega), if_pos (by omega)]
 | succ d ih =>
  intro n acc hn hs
  by_cases h : n > 0
  ·have hd : Int.tdiv n 10 = n / 10 := tdiv_pos (by omega)
   obtain ⟨t, ht⟩ := ih (n / 10) ((strOfNums [(wrap64 (48 + (Int.tmod n 10))) % 256]) ++ acc) (by omega) (by
    rw [ByteArray.size_append]
    have : (strOfNums [(wrap64 (48 + (Int.tmod n 10))) % 256]).size = 1 := by simp [strOfNums, ByteArray.size]
    omega)
   refine ⟨t, evStep ht fun k => ?_⟩
   have : (strOfNums [(wrap64 (48 + (Int.tmod n 10))) % 256]).size = 1 := by simp [strOfNums, ByteArray.size]
   simp only [laws_markText.l0, Option.bind_some]
   rw [if_pos h, if_pos (by omega), hd, w64 (n := n / 10) (by omega) (by omega)]
  ·refine ⟨(⟨#[109]⟩ : ByteArray) ++ acc, evRet fun k => ?_⟩
   simp only [laws_markText.l0]; rw [if_neg h, if_pos (by omega)]
theorem markText_ex (n : Int) (h : n ≤ 1099511627776) : ∃ t, Ev (fun k => laws_markText.f k n) t := by
 by_cases h0 : n ≤ 0
 ·exact ⟨_, evEq (evSome _) fun k => by simp only [laws_markText.f]; rw [if_pos h0]⟩
 ·obtain ⟨t, ht⟩ := markText_l 1099511627776 n (⟨#[]⟩ : ByteArray) (by omega) (by simp [ByteArray.size])
  exact ⟨t, evEq ht fun k => by simp only [laws_markText.f]; rw [if_neg h0]⟩
open Classical in
noncomputable def markT (n : Int) : ByteArray := if h : ∃ t, Ev (fun k => laws_markText.f k n) t then Classical.choose h else ⟨#[]⟩
theorem markT_ev (n : Int) (h : n ≤ 1099511627776) : Ev (fun k => laws_markText.f k n) (markT n) := by
 have := markText_ex n h
 unfold markT
 rw [dif_pos this]
 exact Classical.choose_spec this
theorem setI_take {α : Type} {l : List α} {i : Nat} {v : α} (h : i < l.length) : (l.set i v).take (i + 1) = l.take i ++ [v] := by
 rw [List.take_succ_eq_append_getElem (by simpa using h), List.take_set_of_le (Nat.le_refl i), List.getElem_set_self]
def spl (c : UInt8) : List UInt8 → List (List UInt8)
 | [] => [[]]
 | b :: l => if b = c then [] :: spl c l else match spl c l with
  | p :: r => (b :: p) :: r
  | [] => [[b]]
theorem spl_len (c : UInt8) : ∀ l : List UInt8, (spl c l).length ≤ l.length + 1
 | [] => by simp [spl]
 | b :: l => by
  have ih := spl_len c l
  unfold spl
  split
  ·simp; omega
  ·split
   ·rename_i p r e
    rw [e] at ih
    simp at ih ⊢
    omega
   ·simp
theorem spl_ne (c : UInt8) (l : List UInt8) : spl c l ≠ [] := by
 cases l with
 | nil => simp [spl]
 | cons b l =>
  unfold spl
  split
  ·simp
  ·split <;> simp
theorem index_byte (c : UInt8) : ∀ l : List UInt8, (c ∉ l → Lib.index l [c] = -1) ∧ (c ∈ l → 0 ≤ Lib.index l [c])
 | [] => by simp [Lib.index]
 | b :: l => by
  obtain ⟨h1, h2⟩ := index_byte c l
  have e : [c].isPrefixOf (b :: l) = (c == b) := by simp [List.isPrefixOf]
  unfold Lib.index
  rw [e]
  by_cases d : c = b
  ·subst d
   simp
  ·have d2 : (c == b) = false := by simpa using d
   rw [d2]
   constructor
   ·intro hn
    have hn' : c ∉ l := fun hc => hn (List.mem_cons_of_mem _ hc)
    rw [h1 hn']
    simp
   ·intro hc
    have hc' : c ∈ l := by
     rcases List.mem_cons.1 hc with h | h
     ·exact absurd h d
     ·exact h
    have := h2 hc'
    have e2 : (Lib.index l [c] == -1) = false := by simp; omega
    rw [e2]
    simp
    omega
theorem splitK_spl (c : UInt8) : ∀ l : List UInt8, Lib.splitK [c] 0 (l.count c) l = spl c l
 | [] => rfl
 | b :: l => by
  have ih := splitK_spl c l
  have e : [c].isPrefixOf (b :: l) = (c == b) := by simp [List.isPrefixOf]
  by_cases d : b = c
  ·subst d
   rw [List.count_cons_self]
   have ei : Lib.index (b :: l) [b] = 0 := by unfold Lib.index; rw [e]; simp
   unfold Lib.splitK
   rw [ei]
   simp only [spl, if_true]
   rw [← ih]
   simp
  ·rw [List.count_cons_of_ne d]
   have ei : Lib.index (b :: l) [c] = if Lib.index l [c] == -1 then -1 else Lib.index l [c] + 1 := by
    conv => lhs; unfold Lib.index
    rw [e, show (c == b) = false by simp; exact fun h => d h.symm]
    simp
   simp only [spl, if_neg d]
   rw [← ih]
   cases hk : l.count c with
   | zero => rfl
   | succ k =>
    have hc : c ∈ l := by rw [← List.count_pos_iff]; omega
    have hi := (index_byte c l).2 hc
    have h1 : (Lib.index l [c] == -1) = false := by simp; omega
    unfold Lib.splitK
    rw [ei, h1]
    simp only [Bool.false_eq_true, if_false]
    have h2 : (Lib.index l [c] + 1 == -1) = false := by simp; omega
    rw [h2]
    simp only [Bool.false_eq_true, if_false]
    have h3 : (Lib.index l [c] + 1).toNat = (Lib.index l [c]).toNat + 1 := by omega
    rw [h3]
    simp
def partsR (s : ByteArray) (x : Int) : List ByteArray := (spl (UInt8.ofNat x.toNat) s.data.toList).map bs
theorem bs_map_data : ∀ l : List ByteArray, (l.map (fun x => x.data.toList)).map bs = l
 | [] => rfl
 | x :: l => by
  rw [List.map_cons, List.map_cons, bs_map_data l, bs_data]
theorem sep_eq (x : Int) : strOfNums [x] = bs [UInt8.ofNat x.toNat] := by simp [strOfNums, bs]
theorem impl_Parts_eq (s : ByteArray) (x : Int) (hs : s.size ≤ 1048576) : impl_Parts.f s x = some (partsR s x) := by
 unfold impl_Parts.f strings_Split.f
 rw [sep_eq, if_pos ⟨by omega, by rw [bs_size]; simp⟩, Option.bind_some]
 congr 1
 have h := Lib.splitB_data (bs [UInt8.ofNat x.toNat]) 0 (Lib.countB s (bs [UInt8.ofNat x.toNat])) s
 have hc : Lib.countB s (bs [UInt8.ofNat x.toNat]) = s.data.toList.count (UInt8.ofNat x.toNat) := by
  unfold Lib.countB
  exact Lib.count_one _ _
 rw [hc] at h ⊢
 have h2 := splitK_spl (UInt8.ofNat x.toNat) s.data.toList
 rw [show (bs [UInt8.ofNat x.toNat]).data.toList = [UInt8.ofNat x.toNat] from by simp [bs], h2] at h
 unfold partsR
 rw [← h, bs_map_data]
theorem bt_nat {s : ByteArray} {i : Nat} (h : i < s.size) : bt s (i : Int) = ((s.data.toList[i]'(by rw [Array.length_toList]; exact h)).toNat : Int) := by
 unfold bt
 rw [dif_pos (by simpa using h)]
 simp
 rfl
theorem spec_Parts_l (s : ByteArray) (x : Int) (hs : s.size ≤ 1048576) (h0 : 0 ≤ x) (h1 : x < 256) : ∀ (d i f : Nat) (acc : List ByteArray), i + d = s.size → f ≤ i → acc.length ≤ i →
  Ev (fun k => spec_Parts.l0 k s x acc (f : Int) (i : Int)) (acc ++ (match spl (UInt8.ofNat x.toNat) (s.data.toList.drop i) with | p :: r => bs ((s.data.toList.take i).drop f ++ p) :: r.map bs | [] => [])) := by
 have hl : s.data.toList.length = s.size := Array.length_toList
 intro d
 induction d with
 | zero =>
  intro i f acc h hf ha
  rw [List.drop_eq_nil_of_le (by omega)]
  have hi : i = s.size := by omega
  refine evSucc ?_
  simp only [spec_Parts.l0, if_pos (show (i : Int) ≤ (s.size : Int) by omega), if_pos (show (i : Int) = (s.size : Int) by omega), if_pos (show (0 : Int) ≤ (f : Int) by omega), if_pos (show (f : Int) ≤ (i : Int) by omega), if_pos (show acc.length < 8796093022208 by omega), w64 (n := (i : Int) + 1) (by omega) (by omega)]
  refine evSucc ?_
  simp only [spec_Parts.l0, if_neg (show ¬ (i : Int) + 1 ≤ (s.size : Int) by omega)]
  have e : s.extract (f : Int).toNat (i : Int).toNat = bs ((s.data.toList.take i).drop f ++ []) := by
   rw [← bs_data (s.extract _ _), Lib.extract_data, List.append_nil]
   congr 1
   rw [List.drop_take]
   simp
  rw [e]
  simp only [spl, List.map_nil]
  exact evSome _
 | succ d ih =>
  intro i f acc h hf ha
  have hi : i < s.size := by omega
  have hil : i < s.data.toList.length := by omega
  rw [List.drop_eq_getElem_cons hil]
  have hb := bt_nat hi
  refine evSucc ?_
  simp only [spec_Parts.l0, if_pos (show (i : Int) ≤ (s.size : Int) by omega), if_neg (show ¬ (i : Int) = (s.size : Int) by omega), if_pos (show (0 : Int) ≤ (i : Int) by omega), if_pos (show (i : Int) < (s.size : Int) by omega), if_pos (show (0 : Int) ≤ (f : Int) by omega), if_pos (show (f : Int) ≤ (i : Int) by omega), if_pos (show acc.length < 8796093022208 by omega), w64 (n := (i : Int) + 1) (by omega) (by omega)]
  by_cases c : s.data.toList[i] = UInt8.ofNat x.toNat
  ·have hc : bt s (i : Int) = x := by
    rw [hb, c, UInt8.toNat_ofNat']
    omega
   simp only [if_pos hc]
   have next := ih (i + 1) (i + 1) (acc ++ [s.extract (f : Int).toNat (i : Int).toNat]) (by omega) (by omega) (by simp; omega)
   have e : s.extract (f : Int).toNat (i : Int).toNat = bs ((s.data.toList.take i).drop f ++ []) := by
    rw [← bs_data (s.extract _ _), Lib.extract_data, List.append_nil]
    congr 1
    rw [List.drop_take]
    simp
   rw [e] at next ⊢
   unfold spl
   rw [if_pos c]
   simp only [List.map]
   have e3 : (List.take (i + 1) s.data.toList).drop (i + 1) = [] := List.drop_eq_nil_of_le (by rw [List.length_take]; omega)
   rw [e3] at next
   have e4 : ∀ z : List (List UInt8), z ≠ [] → (match z with | p :: r => bs ([] ++ p) :: r.map bs | [] => []) = z.map bs := fun z hz => by cases z with | nil => exact absurd rfl hz | cons p r => rfl
   rw [e4 _ (spl_ne _ _)] at next
   rw [List.append_assoc] at next
   exact next
  ·have hc : ¬ bt s (i : Int) = x := by
    rw [hb]
    intro hh
    apply c
    apply UInt8.toNat_inj.1
    rw [UInt8.toNat_ofNat']
    omega
   simp only [if_neg hc]
   have next := ih (i + 1) f acc (by omega) (by omega) (by omega)
   have e3 : (List.take (i + 1) s.data.toList).drop f = (List.take i s.data.toList).drop f ++ [s.data.toList[i]] := by
    rw [List.take_succ_eq_append_getElem hil, List.drop_append_of_le_length (by rw [List.length_take]; omega)]
   rw [e3] at next
   unfold spl
   rw [if_neg c]
   cases hz : spl (UInt8.ofNat x.toNat) (s.data.toList.drop (i + 1)) with
   | nil => exact absurd hz (spl_ne _ _)
   | cons p r =>
    rw [hz] at next
    simp only [List.append_assoc, List.singleton_append] at next
    exact next
theorem spec_Parts_ev (s : ByteArray) (x : Int) (hs : s.size ≤ 1048576) (h0 : 0 ≤ x) (h1 : x < 256) : Ev (fun k => spec_Parts.f k s x) (partsR s x) := by
 have := spec_Parts_l s x hs h0 h1 s.size 0 0 [] (by omega) (by omega) (by simp)
 rw [List.drop_zero, List.nil_append] at this
 have e4 : ∀ z : List (List UInt8), z ≠ [] → (match z with | p :: r => bs ((s.data.toList.take 0).drop 0 ++ p) :: r.map bs | [] => []) = z.map bs := fun z hz => by cases z with | nil => exact absurd rfl hz | cons p r => rfl
 rw [e4 _ (spl_ne _ _)] at this
 exact this
theorem rdS {l : List ByteArray} {i : Nat} (h : i < l.length) : rdOf ByteArray.empty l (i : Int) = l[i] := by
 unfold rdOf
 simp [List.getD_eq_getElem?_getD, h]
theorem eqStringS_l (l : List ByteArray) (hl : l.length ≤ 2097152) : ∀ (d i : Nat), i + d = l.length → Ev (fun k => laws_eqStringS.l0 k l l (i : Int)) true := by
 intro d
 induction d with
 | zero =>
  intro i h
  exact evRet fun k => by simp only [laws_eqStringS.l0]; rw [if_neg (by omega)]
 | succ d ih =>
  intro i h
  refine evStep (ih (i + 1) (by omega)) fun k => ?_
  simp only [laws_eqStringS.l0]
  rw [if_pos (by omega), if_pos (by omega), if_pos (by omega), if_pos trivial, w64 (by omega) (by omega)]
  rfl
theorem eqStringS_ev (l : List ByteArray) (hl : l.length ≤ 2097152) : Ev (fun k => laws_eqStringS.f k l l) true := by
 simp only [laws_eqStringS.f, if_true]
 exact eqStringS_l l hl l.length 0 (by omega)
noncomputable def markSs : Nat → Int → List ByteArray
 | 0, _ => []
 | n + 1, m => markT m :: markSs n (m + 1)
theorem markSs_len : ∀ (n : Nat) (m : Int), (markSs n m).length = n
 | 0, _ => rfl
 | n + 1, m => by simp [markSs, markSs_len n]
theorem markStringS_l : ∀ (d i : Nat) (l : List ByteArray) (m : Int), i + d = l.length → l.length ≤ 2097152 → 0 ≤ m → m + (d : Int) ≤ 1099511627776 → Ev (fun k => laws_markStringS.l0 k l m (i : Int)) (m + (d : Int), l.take i ++ markSs d m) := by
 intro d
 induction d with
 | zero =>
  intro i l m h hl h0 hm
  rw [List.take_of_length_le (by omega), markSs, List.append_nil]
  refine evRet fun k => ?_
  simp only [laws_markStringS.l0]
  rw [if_neg (by omega)]
  simp
 | succ d ih =>
  intro i l m h hl h0 hm
  have hi : i < l.length := by omega
  have next := ih (i + 1) (l.set i (markT m)) (m + 1) (by rw [List.length_set]; omega) (by rw [List.length_set]; omega) (by omega) (by omega)
  rw [setI_take hi] at next
  refine evSucc ?_
  simp only [laws_markStringS.l0, if_pos (show (i : Int) < (l.length : Int) by omega)]
  refine Ev.bind (markT_ev m (by omega)) ?_
  simp only [if_pos (show (0 : Int) ≤ (i : Int) by omega), w64 (n := m + 1) (by omega) (by omega), w64 (n := (i : Int) + 1) (by omega) (by omega)]
  have e : m + 1 + (d : Int) = m + ((d + 1 : Nat) : Int) := by omega
  rw [e, List.append_assoc] at next
  exact next
theorem heldStringS_l (l : List ByteArray) (hl : l.length ≤ 2097152) : ∀ (d i : Nat) (m : Int), i + d = l.length → l.drop i = markSs d m → 0 ≤ m → m + (d : Int) ≤ 1099511627776 → Ev (fun k => laws_heldStringS.l0 k l m (i : Int)) (m + (d : Int)) := by
 intro d
 induction d with
 | zero =>
  intro i m h _ _ _
  refine evRet fun k => ?_
  simp only [laws_heldStringS.l0]
  rw [if_neg (by omega)]
  simp
 | succ d ih =>
  intro i m h he h0 hm
  have hi : i < l.length := by omega
  rw [List.drop_eq_getElem_cons hi, markSs] at he
  obtain ⟨e1, e2⟩ := List.cons.inj he
  have next := ih (i + 1) (m + 1) (by omega) e2 (by omega) (by omega)
  refine evSucc ?_
  simp only [laws_heldStringS.l0, if_pos (show (i : Int) < (l.length : Int) by omega), if_pos (show (0 : Int) ≤ (i : Int) by omega), rdS hi, e1]
  refine Ev.bind (markT_ev m (by omega)) ?_
  simp only [if_true, w64 (n := m + 1) (by omega) (by omega), w64 (n := (i : Int) + 1) (by omega) (by omega)]
  have e : m + 1 + (d : Int) = m + ((d + 1 : Nat) : Int) := by omega
  rw [e] at next
  exact next
theorem FnExactParts : laws_FnExactParts.Pure := by
 intro s x _ hx
 apply Ev.rounds
 obtain ⟨x0, x1⟩ := wf_u8 hx
 simp only [laws_FnExactParts.f]
 by_cases c : (s.size : Int) > 1048576
 ·simp only [if_pos c]; exact evSome _
 simp only [if_neg c, impl_Parts_eq s x (by omega), Option.bind_some]
 have hl : (partsR s x).length ≤ 1048577 := by
  unfold partsR
  rw [List.length_map]
  have := spl_len (UInt8.ofNat x.toNat) s.data.toList
  have e0 : s.data.toList.length = s.size := Array.length_toList
  omega
 refine Ev.bind (spec_Parts_ev s x (by omega) x0 x1) ?_
 refine Ev.bind (eqStringS_ev _ (by omega)) ?_
 simp only [if_true]
 have hm := markStringS_l (partsR s x).length 0 (partsR s x) 1 (by omega) (by omega) (by omega) (by omega)
 rw [List.take_zero, List.nil_append] at hm
 have hh := heldStringS_l (markSs (partsR s x).length 1) (by rw [markSs_len]; omega) (partsR s x).length 0 1 (by rw [markSs_len]; omega) (by rw [List.drop_zero]) (by omega) (by omega)
 have hh2 : Ev (fun k => laws_heldStringS.f k (markSs (partsR s x).length 1) 1) (1 + ((partsR s x).length : Int)) := hh
 have hm2 : Ev (fun k => laws_markStringS.f k (partsR s x) 1) (1 + ((partsR s x).length : Int), markSs (partsR s x).length 1) := hm
 refine Ev.bind hm2 ?_
 refine Ev.bind hh2 ?_
 simp only [if_neg (show ¬ 1 + ((partsR s x).length : Int) < 0 by omega), if_true]
 refine Ev.bind (eqStringS_ev _ (by omega)) ?_
 simp only [if_true]
 refine Ev.bind hh2 ?_
 simp only [if_neg (show ¬ 1 + ((partsR s x).length : Int) < 0 by omega), if_true]
 exact evSome _
end Go.Proofs.YtomlglpmljngfaaDoor.Pure
