/- What the law FnExactNumber computes is true for every string. No condition. -/
import Derived.Test.YtomlglpmljngfaaDoorPlFnExactNumber
namespace Go.Proofs.YtomlglpmljngfaaDoor.Pure
open Go.RowKit Go.Proofs.YtomlglpmljngfaaDoor.P Go.Proofs.YtomlglpmljngfaaDoorW.PrintWords Go.Proofs.YtomlglpmljngfaaDoorW.PrintLast
set_option linter.unusedVariables false
set_option linter.unusedSimpArgs false
theorem w64 {n : Int} (h0 : -9223372036854775808 ≤ n) (h1 : n ≤ 9223372036854775807) : wrap64 n = n := by
 unfold wrap64; omega
theorem tmod_pos {a b : Int} (h : 0 ≤ a) : Int.tmod a b = a % b := Int.tmod_eq_emod_of_nonneg h
theorem evSome {α : Type} (r : α) : Ev (fun _ => some r) r := Ev.now r
theorem evRet {α : Type} {g : Nat → Option α} {r : α} (h : ∀ k, g (k + 1) = some r) : Ev g r := Ev.step h (Ev.now r)
theorem evSucc {α : Type} {g : Nat → Option α} {r : α} (h : Ev (fun k => g (k + 1)) r) : Ev g r := Ev.step (f := fun k => g (k + 1)) (fun _ => rfl) h
def bs (l : List UInt8) : ByteArray := ⟨l.toArray⟩
theorem bs_app (a b : List UInt8) : bs a ++ bs b = bs (a ++ b) := by
 apply ByteArray.ext
 simp [bs]
theorem bs_size (l : List UInt8) : (bs l).size = l.length := by simp [bs, ByteArray.size]
theorem ba_assoc (a b c : ByteArray) : a ++ b ++ c = a ++ (b ++ c) := ByteArray.append_assoc
theorem ba_size (a b : ByteArray) : (a ++ b).size = a.size + b.size := ByteArray.size_append
theorem ba_nil (a : ByteArray) : a ++ (⟨#[]⟩ : ByteArray) = a := by
 apply ByteArray.ext
 simp
def decD (u : Nat) : List UInt8 := if u = 0 then [] else Lib.decDigits u
theorem decD_step {u : Nat} (h : 0 < u) : decD u = decD (u / 10) ++ [UInt8.ofNat (48 + u % 10)] := by
 unfold decD
 rw [if_neg (by omega), Lib.decDigits]
 by_cases c : u < 10
 ·rw [dif_pos c, if_pos (by omega), show u % 10 = u by omega]; rfl
 ·rw [dif_neg c, if_neg (by omega)]
theorem decD_len : ∀ (d u : Nat), u < 10 ^ d → (decD u).length ≤ d := by
 intro d
 induction d with
 | zero =>
  intro u h
  rw [show u = 0 by omega]; simp [decD]
 | succ d ih =>
  intro u h
  by_cases c : u = 0
  ·rw [c]; simp [decD]
  ·rw [decD_step (by omega), List.length_append]
   have := ih (u / 10) (by rw [Nat.pow_succ] at h; omega)
   simp
   omega
def dig (n : Int) : ByteArray := bs (Lib.itoa n)
def finD (b : Bool) (s : ByteArray) : ByteArray := if b = true then (⟨#[45]⟩ : ByteArray) ++ s else s
theorem digit_str {q : Int} (h0 : 0 ≤ q) (h1 : q < 10) : strOfNums [(wrap64 (48 + q)) % 256] = bs [UInt8.ofNat (48 + q.toNat)] := by
 rw [w64 (by omega) (by omega)]
 have e : ((48 + q) % 256).toNat = 48 + q.toNat := by omega
 simp [strOfNums, bs, e]
theorem spec_Digits_l : ∀ (d : Nat) (x : Int) (b : Bool) (acc : ByteArray), x.natAbs < 10 ^ d → acc.size + d ≤ 40 → -9223372036854775808 ≤ x → x ≤ 9223372036854775807 → Ev (fun k => spec_Digits.l0 k x b acc) (finD b (bs (decD x.natAbs) ++ acc)) := by
 have fin0 : ∀ (b : Bool) (acc : ByteArray), acc.size ≤ 40 → Ev (fun k => spec_Digits.l0 k 0 b acc) (finD b (bs (decD (0 : Int).natAbs) ++ acc)) := by
  intro b acc ha
  have e : bs (decD (0 : Int).natAbs) ++ acc = acc := by
   apply ByteArray.ext
   simp [bs, decD]
  rw [e]
  refine evRet fun k => ?_
  simp only [spec_Digits.l0, if_true]
  cases b
  ·rfl
  ·simp only [if_true, finD, if_pos (show 1 + acc.size ≤ 9223372036854775807 by omega)]
 intro d
 induction d with
 | zero =>
  intro x b acc h ha _ _
  obtain rfl : x = 0 := by omega
  exact fin0 b acc (by omega)
 | succ d ih =>
  intro x b acc h ha l0 l1
  by_cases h0 : x = 0
  ·subst h0
   exact fin0 b acc (by omega)
  ·have hd : x.natAbs / 10 < 10 ^ d := by rw [Nat.pow_succ] at h; omega
   have key : ∀ q : Int, 0 ≤ q → q.toNat = x.natAbs % 10 → (strOfNums [(wrap64 (48 + q)) % 256]).size + acc.size ≤ 9223372036854775807 ∧ Ev (fun k => spec_Digits.l0 k (wrap64 (Int.tdiv x 10)) b (strOfNums [(wrap64 (48 + q)) % 256] ++ acc)) (finD b (bs (decD x.natAbs) ++ acc)) := by
    intro q q0 qe
    have e1 := digit_str q0 (by omega)
    have ea : (Int.tdiv x 10).natAbs = x.natAbs / 10 := by
     rw [Int.natAbs_tdiv]; rfl
    have eb : -9223372036854775808 ≤ Int.tdiv x 10 ∧ Int.tdiv x 10 ≤ 9223372036854775807 := by omega
    have es : (strOfNums [(wrap64 (48 + q)) % 256]).size = 1 := by rw [e1, bs_size]; rfl
    have := ih (Int.tdiv x 10) b (strOfNums [(wrap64 (48 + q)) % 256] ++ acc) (by rw [ea]; exact hd) (by rw [ba_size, es]; omega) eb.1 eb.2
    refine ⟨by omega, ?_⟩
    rw [w64 eb.1 eb.2]
    rw [ea, e1, ← ba_assoc, bs_app, qe, ← decD_step (by omega)] at this
    rw [e1, qe]
    exact this
   refine evSucc ?_
   simp only [spec_Digits.l0, if_neg h0, Option.bind_some]
   by_cases hm : Int.tmod x 10 < 0
   ·have hx : x < 0 := Decidable.byContradiction fun hx => by have := Int.tmod_nonneg 10 (show 0 ≤ x by omega); omega
    have hy : Int.tmod x 10 = -((x.natAbs % 10 : Nat) : Int) := by
     have e : x = -((x.natAbs : Nat) : Int) := by omega
     conv => lhs; rw [e, Int.neg_tmod, tmod_pos (by omega)]
     omega
    obtain ⟨k1, k2⟩ := key (-(Int.tmod x 10)) (by omega) (by omega)
    simp only [if_pos hm, w64 (n := -(Int.tmod x 10)) (by omega) (by omega), if_pos k1]
    exact k2
   ·have hy : Int.tmod x 10 = ((x.natAbs % 10 : Nat) : Int) := by
     by_cases hx : 0 ≤ x
     ·rw [tmod_pos hx]; omega
     ·have e : x = -((x.natAbs : Nat) : Int) := by omega
      have e2 : Int.tmod x 10 = -((x.natAbs : Int) % 10) := by
       conv => lhs; rw [e, Int.neg_tmod, tmod_pos (by omega)]
      omega
    obtain ⟨k1, k2⟩ := key (Int.tmod x 10) (by omega) (by omega)
    simp only [if_neg hm, if_pos k1]
    exact k2
theorem spec_Digits_ev (n : Int) (h0 : -9223372036854775808 ≤ n) (h1 : n ≤ 9223372036854775807) : Ev (fun k => spec_Digits.f k n) (dig n) := by
 simp only [spec_Digits.f]
 by_cases c : n = 0
 ·subst c
  simp only [if_true]
  have e : dig 0 = (⟨#[48]⟩ : ByteArray) := by
   unfold dig Lib.itoa
   rw [if_neg (by omega), Lib.decDigits, dif_pos (by decide)]
   rfl
  rw [e]
  exact evSome _
 ·simp only [if_neg c]
  have := spec_Digits_l 19 n (decide (n < 0)) (⟨#[]⟩ : ByteArray) (by omega) (by simp [ByteArray.size]) h0 h1
  have e : finD (decide (n < 0)) (bs (decD n.natAbs) ++ (⟨#[]⟩ : ByteArray)) = dig n := by
   rw [ba_nil]
   have hz : ¬ n.natAbs = 0 := by omega
   unfold finD dig Lib.itoa decD
   rw [if_neg hz]
   by_cases d : n < 0
   ·rw [decide_eq_true d, if_pos rfl, if_pos d]
    exact bs_app [45] (Lib.decDigits n.natAbs)
   ·rw [decide_eq_false d, if_neg (by simp), if_neg d, show n.natAbs = n.toNat by omega]
  rw [e] at this
  exact this
theorem bt_nat {s : ByteArray} {i : Nat} (h : i < s.size) : bt s (i : Int) = ((s.data.toList[i]'(by rw [Array.length_toList]; exact h)).toNat : Int) := by
 unfold bt
 rw [dif_pos (by simpa using h)]
 simp
 rfl
def numS : List UInt8 → Int → Option Int
 | [], a => some a
 | c :: r, a => if (c.toNat : Int) < 48 then none else if (c.toNat : Int) > 57 then none else numS r (10 * a + c.toNat - 48)
theorem numS_app : ∀ (l : List UInt8) (a n : Int) (c : UInt8), 48 ≤ c.toNat → c.toNat ≤ 57 → numS l a = some n → numS (l ++ [c]) a = some (10 * n + c.toNat - 48)
 | [], a, n, c, h0, h1, h => by
  simp only [numS, Option.some.injEq] at h
  subst h
  simp only [List.nil_append, numS, if_neg (show ¬ (c.toNat : Int) < 48 by omega), if_neg (show ¬ (c.toNat : Int) > 57 by omega)]
 | d :: l, a, n, c, h0, h1, h => by
  rw [List.cons_append]
  simp only [numS] at h ⊢
  by_cases e0 : (d.toNat : Int) < 48
  ·rw [if_pos e0] at h; cases h
  ·rw [if_neg e0] at h ⊢
   by_cases e1 : (d.toNat : Int) > 57
   ·rw [if_pos e1] at h; cases h
   ·rw [if_neg e1] at h ⊢
    exact numS_app l _ n c h0 h1 h
theorem numS_bd : ∀ (l : List UInt8) (a n : Int) (i : Nat), 0 ≤ a → a + 1 ≤ 10 ^ i → numS l a = some n → 0 ≤ n ∧ n + 1 ≤ 10 ^ (i + l.length)
 | [], a, n, i, h0, h1, h => by
  simp only [numS, Option.some.injEq] at h
  subst h
  exact ⟨h0, h1⟩
 | c :: l, a, n, i, h0, h1, h => by
  simp only [numS] at h
  by_cases e0 : (c.toNat : Int) < 48
  ·rw [if_pos e0] at h; cases h
  ·rw [if_neg e0] at h
   by_cases e1 : (c.toNat : Int) > 57
   ·rw [if_pos e1] at h; cases h
   ·rw [if_neg e1] at h
    have := numS_bd l _ n (i + 1) (by omega) (by rw [Int.pow_succ]; omega) h
    rw [List.length_cons, show i + (l.length + 1) = i + 1 + l.length by omega]
    exact this
theorem byte_dig {q : Nat} (h : q < 10) : (UInt8.ofNat (48 + q)).toNat = 48 + q := by
 rw [UInt8.toNat_ofNat']
 omega
theorem dec_dig : ∀ (v : Nat) (c : UInt8), c ∈ Lib.decDigits v → 48 ≤ c.toNat ∧ c.toNat ≤ 57 := by
 intro v
 induction v using Nat.strongRecOn with
 | ind v ih =>
  intro c h
  rw [Lib.decDigits] at h
  by_cases e : v < 10
  ·rw [dif_pos e] at h
   rw [List.mem_singleton.1 h, byte_dig e]
   omega
  ·rw [dif_neg e] at h
   rcases List.mem_append.1 h with h | h
   ·exact ih (v / 10) (by omega) c h
   ·rw [List.mem_singleton.1 h, byte_dig (by omega)]
    omega
theorem dec_ne (v : Nat) : Lib.decDigits v ≠ [] := by
 rw [Lib.decDigits]
 split <;> simp
theorem numS_dec : ∀ v : Nat, numS (Lib.decDigits v) 0 = some (v : Int) := by
 intro v
 induction v using Nat.strongRecOn with
 | ind v ih =>
  rw [Lib.decDigits]
  by_cases e : v < 10
  ·rw [dif_pos e]
   have b := byte_dig e
   have := numS_app [] 0 0 (UInt8.ofNat (48 + v)) (by omega) (by omega) rfl
   rw [List.nil_append, b] at this
   rw [this]
   congr 1
   omega
  ·rw [dif_neg e]
   have b := byte_dig (q := v % 10) (by omega)
   have := numS_app _ 0 _ (UInt8.ofNat (48 + v % 10)) (by omega) (by omega) (ih (v / 10) (by omega))
   rw [b] at this
   rw [this]
   congr 1
   omega
theorem parse_app : ∀ (l : List UInt8) (a u : Nat) (c : UInt8), 48 ≤ c.toNat → c.toNat ≤ 57 → u ≤ 1000000 → Lib.parseUint10 a l = .ok u → Lib.parseUint10 a (l ++ [c]) = .ok (u * 10 + (c.toNat - 48))
 | [], a, u, c, h0, h1, hu, h => by
  simp only [Lib.parseUint10] at h
  injection h with h
  subst h
  simp only [List.nil_append, Lib.parseUint10, if_pos (And.intro h0 h1), if_neg (show ¬ 1844674407370955162 ≤ a by omega), if_neg (show ¬ 18446744073709551616 ≤ a * 10 + (c.toNat - 48) by omega)]
 | d :: l, a, u, c, h0, h1, hu, h => by
  rw [List.cons_append]
  simp only [Lib.parseUint10] at h ⊢
  by_cases e0 : 48 ≤ d.toNat ∧ d.toNat ≤ 57
  ·rw [if_pos e0] at h ⊢
   by_cases e1 : 1844674407370955162 ≤ a
   ·rw [if_pos e1] at h; cases h
   ·rw [if_neg e1] at h ⊢
    by_cases e2 : 18446744073709551616 ≤ a * 10 + (d.toNat - 48)
    ·rw [if_pos e2] at h; cases h
    ·rw [if_neg e2] at h ⊢
     exact parse_app l _ u c h0 h1 hu h
  ·rw [if_neg e0] at h; cases h
theorem parse_dec : ∀ v : Nat, v ≤ 1000000 → Lib.parseUint10 0 (Lib.decDigits v) = .ok v := by
 intro v
 induction v using Nat.strongRecOn with
 | ind v ih =>
  intro hv
  rw [Lib.decDigits]
  by_cases e : v < 10
  ·rw [dif_pos e]
   have b := byte_dig e
   have := parse_app [] 0 0 (UInt8.ofNat (48 + v)) (by omega) (by omega) (by omega) rfl
   rw [List.nil_append, b] at this
   rw [this]
   congr 1
   omega
  ·rw [dif_neg e]
   have b := byte_dig (q := v % 10) (by omega)
   have := parse_app _ 0 _ (UInt8.ofNat (48 + v % 10)) (by omega) (by omega) (by omega) (ih (v / 10) (by omega) (by omega))
   rw [b] at this
   rw [this]
   congr 1
   omega
theorem itoa_nat {v : Int} (h : 0 ≤ v) : Lib.itoa v = Lib.decDigits v.toNat := by
 unfold Lib.itoa
 rw [if_neg (by omega)]
theorem atoi_itoa {v : Int} (h0 : 0 ≤ v) (h1 : v ≤ 999999) : Lib.atoiAll (Lib.itoa v) = .ok v := by
 rw [itoa_nat h0]
 have hp := parse_dec v.toNat (by omega)
 have hn := dec_ne v.toNat
 have hd := dec_dig v.toNat
 generalize Lib.decDigits v.toNat = l at hp hn hd
 cases l with
 | nil => exact absurd rfl hn
 | cons c r =>
  obtain ⟨c0, c1⟩ := hd c (List.mem_cons_self ..)
  simp only [Lib.atoiAll]
  rw [if_neg (show ¬ (c.toNat = 43 ∨ c.toNat = 45) by omega)]
  unfold Lib.parseMag
  rw [if_neg (by simp), hp]
  simp only [show ¬ c.toNat = 45 by omega, not_false_eq_true, true_and, false_and, if_false]
  rw [if_neg (by omega), Int.toNat_of_nonneg h0]
theorem p10 {i : Nat} (h : i ≤ 6) : (10 : Int) ^ i ≤ 1000000 := by
 rcases (show i = 0 ∨ i = 1 ∨ i = 2 ∨ i = 3 ∨ i = 4 ∨ i = 5 ∨ i = 6 by omega) with rfl | rfl | rfl | rfl | rfl | rfl | rfl <;> decide
def numT (s : ByteArray) : Option Int → Int × Bool
 | none => (0, false)
 | some n => if (dig n).toList = s.toList then (n, true) else (0, false)
theorem dig_list (n : Int) : (dig n).toList = Lib.itoa n := by
 rw [Lib.toList_data]
 unfold dig bs
 simp
theorem numR_yes {s : ByteArray} {v : Int} (h0 : 0 ≤ v) (h1 : v ≤ 999999) (h : Lib.itoa v = s.data.toList) : HandIo.numR s = (v, true) := by
 unfold HandIo.numR
 rw [← h, atoi_itoa h0 h1]
 exact if_pos ⟨⟨h0, h1⟩, rfl⟩
theorem numR_no {s : ByteArray} (h : ∀ v : Int, 0 ≤ v → v ≤ 999999 → ¬ Lib.itoa v = s.data.toList) : HandIo.numR s = (0, false) := by
 unfold HandIo.numR
 split
 ·rename_i v hv
  rw [if_neg (fun z => h v z.1.1 z.1.2 z.2)]
 ·rfl
theorem numT_eq {s : ByteArray} (hs : s.size ≤ 6) : numT s (numS s.data.toList 0) = HandIo.numR s := by
 have e0 : s.data.toList.length = s.size := Array.length_toList
 by_cases h : ∃ v : Int, (0 ≤ v ∧ v ≤ 999999) ∧ Lib.itoa v = s.data.toList
 ·obtain ⟨v, ⟨h0, h1⟩, e⟩ := h
  rw [numR_yes h0 h1 e, ← e, itoa_nat h0, numS_dec, Int.toNat_of_nonneg h0]
  refine if_pos ?_
  rw [dig_list, Lib.toList_data, e]
 ·rw [numR_no (fun v h0 h1 e => h ⟨v, ⟨h0, h1⟩, e⟩)]
  cases hn : numS s.data.toList 0 with
  | none => rfl
  | some n =>
   obtain ⟨b0, b1⟩ := numS_bd _ 0 n 0 (by omega) (by omega) hn
   have hp : (10 : Int) ^ (0 + s.data.toList.length) ≤ 1000000 := p10 (by omega)
   unfold numT
   refine if_neg fun z => h ⟨n, ⟨b0, by omega⟩, ?_⟩
   rw [dig_list, Lib.toList_data] at z
   exact z
theorem dec_len6 {v : Nat} (h : v ≤ 999999) : (Lib.decDigits v).length ≤ 6 := by
 by_cases c : v = 0
 ·rw [c, Lib.decDigits, dif_pos (by omega)]; simp
 ·have := decD_len 6 v (by omega)
  unfold decD at this
  rwa [if_neg c] at this
theorem numR_far {s : ByteArray} (h : s.size < 1 ∨ 6 < s.size) : HandIo.numR s = (0, false) := by
 have e0 : s.data.toList.length = s.size := Array.length_toList
 refine numR_no fun v h0 h1 e => ?_
 rw [itoa_nat h0] at e
 have l := dec_len6 (v := v.toNat) (by omega)
 have n : (Lib.decDigits v.toNat).length ≠ 0 := fun z => dec_ne v.toNat (List.length_eq_zero_iff.1 z)
 rw [e, e0] at l n
 omega
theorem spec_Number_l (s : ByteArray) : ∀ (d i : Nat) (a : Int), i + d = s.size → s.size ≤ 6 → 0 ≤ a → a + 1 ≤ 10 ^ i → Ev (fun k => spec_Number.l0 k s a i) (numT s (numS (s.data.toList.drop i) a)) := by
 have e0 : s.data.toList.length = s.size := Array.length_toList
 intro d
 induction d with
 | zero =>
  intro i a hi hs a0 a1
  have hp : (10 : Int) ^ i ≤ 1000000 := p10 (by omega)
  rw [List.drop_eq_nil_of_le (by omega)]
  refine evSucc ?_
  simp only [spec_Number.l0, if_neg (show ¬ (i : Int) < (s.size : Int) by omega)]
  refine Ev.bind (spec_Digits_ev a (by omega) (by omega)) ?_
  have e : numT s (numS [] a) = if (dig a).toList = s.toList then (a, true) else (0, false) := rfl
  rw [e]
  by_cases c : (dig a).toList = s.toList
  ·simp only [if_pos c]; exact evSome _
  ·simp only [if_neg c]; exact evSome _
 | succ d ih =>
  intro i a hi hs a0 a1
  have hp : (10 : Int) ^ i ≤ 1000000 := p10 (by omega)
  have hl : i < s.data.toList.length := by omega
  have hb := bt_nat (s := s) (i := i) (by omega)
  rw [List.drop_eq_getElem_cons hl]
  refine evSucc ?_
  simp only [spec_Number.l0, if_pos (show (i : Int) < (s.size : Int) by omega), if_pos (show (0 : Int) ≤ (i : Int) by omega), hb]
  generalize s.data.toList[i] = c
  simp only [numS]
  have hc : c.toNat < 256 := c.toNat_lt
  by_cases c0 : (c.toNat : Int) < 48
  ·simp only [if_pos c0]; exact evSome _
  ·by_cases c1 : (c.toNat : Int) > 57
   ·simp only [if_neg c0, if_pos c1]; exact evSome _
   ·simp only [if_neg c0, if_neg c1]
    rw [w64 (n := (c.toNat : Int)) (by omega) (by omega), w64 (n := 10 * a) (by omega) (by omega), w64 (n := 10 * a + (c.toNat : Int)) (by omega) (by omega), w64 (n := 10 * a + (c.toNat : Int) - 48) (by omega) (by omega), w64 (n := (i : Int) + 1) (by omega) (by omega), show (i : Int) + 1 = ((i + 1 : Nat) : Int) by omega]
    exact ih (i + 1) _ (by omega) hs (by omega) (by rw [Int.pow_succ]; omega)
theorem spec_Number_ev (s : ByteArray) (h : s.size ≤ 1048576) : Ev (fun k => spec_Number.f k s) (HandIo.numR s) := by
 have far : s.size < 1 ∨ 6 < s.size → Ev (fun k => spec_Number.j0 k s true) (HandIo.numR s) := fun z => by
  rw [numR_far z]
  exact evRet fun k => by simp only [spec_Number.j0, if_true]
 simp only [spec_Number.f]
 by_cases c0 : (s.size : Int) < 1
 ·simp only [if_pos c0]
  exact far (by omega)
 ·simp only [if_neg c0]
  by_cases c1 : (s.size : Int) > 6
  ·rw [decide_eq_true c1]
   exact far (by omega)
  ·rw [decide_eq_false c1, ← numT_eq (s := s) (by omega)]
   refine evSucc ?_
   simp only [spec_Number.j0, Bool.false_eq_true, if_false]
   have := spec_Number_l s s.size 0 0 (by omega) (by omega) (by omega) (by omega)
   rw [List.drop_zero] at this
   exact this
theorem FnExactNumber : laws_FnExactNumber.Pure := by
 intro s _
 apply Ev.rounds
 simp only [laws_FnExactNumber.f]
 by_cases c : (s.size : Int) > 1048576
 ·simp only [if_pos c]; exact evSome _
 simp only [if_neg c]
 refine Ev.bind (spec_Number_ev s (by omega)) ?_
 simp only [impl_Number.f, if_pos (show s.size ≤ 281474976710656 by omega), Option.bind_some, if_true, bne_self_eq_false, Bool.false_eq_true, if_false]
 exact evSome _
end Go.Proofs.YtomlglpmljngfaaDoor.Pure
