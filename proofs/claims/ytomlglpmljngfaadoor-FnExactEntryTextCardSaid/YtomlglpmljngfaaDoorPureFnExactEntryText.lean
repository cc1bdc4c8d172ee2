/- What the law FnExactEntryText computes is true for every entry. No condition. -/
import Derived.Test.YtomlglpmljngfaaDoorPlFnExactEntryText
namespace Go.Proofs.YtomlglpmljngfaaDoor.Pure
open Go.RowKit Go.Proofs.YtomlglpmljngfaaDoor.P Go.Proofs.YtomlglpmljngfaaDoorW.PrintWords Go.Proofs.YtomlglpmljngfaaDoorW.PrintLast
set_option linter.unusedVariables false
set_option linter.unusedSimpArgs false
theorem w64 {n : Int} (h0 : -9223372036854775808 ≤ n) (h1 : n ≤ 9223372036854775807) : wrap64 n = n := by
 unfold wrap64; omega
theorem tmod_pos {a b : Int} (h : 0 ≤ a) : Int.tmod a b = a % b := Int.tmod_eq_emod_of_nonneg h
theorem evSome {α : Type} (r : α) : Ev (fun _ => some r) r := Ev.now r
theorem evRet {α : Type} {g : Nat → Option α} {r : α} (h : ∀ k, g (k + 1) = some r) : Ev g r := Ev.step h (Ev.now r)
theorem wf_i64 {a : Int} (h : (Lit.int .i64 a).wf = true) : -9223372036854775808 ≤ a ∧ a ≤ 9223372036854775807 := by
 simp [Lit.wf, IntKind.min, IntKind.max, IntKind.bits, IntKind.signed] at h; omega
theorem evSucc {α : Type} {g : Nat → Option α} {r : α} (h : Ev (fun k => g (k + 1)) r) : Ev g r := Ev.step (f := fun k => g (k + 1)) (fun _ => rfl) h
def bs (l : List UInt8) : ByteArray := ⟨l.toArray⟩
theorem bs_app (a b : List UInt8) : bs a ++ bs b = bs (a ++ b) := by
 apply ByteArray.ext
 simp [bs]
theorem bs_size (l : List UInt8) : (bs l).size = l.length := by simp [bs, ByteArray.size]
theorem ba_assoc (a b c : ByteArray) : a ++ b ++ c = a ++ (b ++ c) := ByteArray.append_assoc
theorem ba_size (a b : ByteArray) : (a ++ b).size = a.size + b.size := ByteArray.size_append
theorem ba_nil (a : ByteArray) : a ++ (⟨#[]⟩ : ByteArray) = a := by
 apply ByteArray.ext
 simp
def decD (u : Nat) : List UInt8 := if u = 0 then [] else Lib.decDigits u
theorem decD_step {u : Nat} (h : 0 < u) : decD u = decD (u / 10) ++ [UInt8.ofNat (48 + u % 10)] := by
 unfold decD
 rw [if_neg (by omega), Lib.decDigits]
 by_cases c : u < 10
 ·rw [dif_pos c, if_pos (by omega), show u % 10 = u by omega]; rfl
 ·rw [dif_neg c, if_neg (by omega)]
theorem decD_len : ∀ (d u : Nat), u < 10 ^ d → (decD u).length ≤ d := by
 intro d
 induction d with
 | zero =>
  intro u h
  rw [show u = 0 by omega]; simp [decD]
 | succ d ih =>
  intro u h
  by_cases c : u = 0
  ·rw [c]; simp [decD]
  ·rw [decD_step (by omega), List.length_append]
   have := ih (u / 10) (by rw [Nat.pow_succ] at h; omega)
   simp
   omega
def dig (n : Int) : ByteArray := bs (Lib.itoa n)
def finD (b : Bool) (s : ByteArray) : ByteArray := if b = true then (⟨#[45]⟩ : ByteArray) ++ s else s
theorem digit_str {q : Int} (h0 : 0 ≤ q) (h1 : q < 10) : strOfNums [(wrap64 (48 + q)) % 256] = bs [UInt8.ofNat (48 + q.toNat)] := by
 rw [w64 (by omega) (by omega)]
 have e : ((48 + q) % 256).toNat = 48 + q.toNat := by omega
 simp [strOfNums, bs, e]
theorem spec_Digits_l : ∀ (d : Nat) (x : Int) (b : Bool) (acc : ByteArray), x.natAbs < 10 ^ d → acc.size + d ≤ 40 → -9223372036854775808 ≤ x → x ≤ 9223372036854775807 → Ev (fun k => spec_Digits.l0 k x b acc) (finD b (bs (decD x.natAbs) ++ acc)) := by
 have fin0 : ∀ (b : Bool) (acc : ByteArray), acc.size ≤ 40 → Ev (fun k => spec_Digits.l0 k 0 b acc) (finD b (bs (decD (0 : Int).natAbs) ++ acc)) := by
  intro b acc ha
  have e : bs (decD (0 : Int).natAbs) ++ acc = acc := by
   apply ByteArray.ext
   simp [bs, decD]
  rw [e]
  refine evRet fun k => ?_
  simp only [spec_Digits.l0, if_true]
  cases b
  ·rfl
  ·simp only [if_true, finD, if_pos (show 1 + acc.size ≤ 9223372036854775807 by omega)]
 intro d
 induction d with
 | zero =>
  intro x b acc h ha _ _
  obtain rfl : x = 0 := by omega
  exact fin0 b acc (by omega)
 | succ d ih =>
  intro x b acc h ha l0 l1
  by_cases h0 : x = 0
  ·subst h0
   exact fin0 b acc (by omega)
  ·have hd : x.natAbs / 10 < 10 ^ d := by rw [Nat.pow_succ] at h; omega
   have key : ∀ q : Int, 0 ≤ q → q.toNat = x.natAbs % 10 → (strOfNums [(wrap64 (48 + q)) % 256]).size + acc.size ≤ 9223372036854775807 ∧ Ev (fun k => spec_Digits.l0 k (wrap64 (Int.tdiv x 10)) b (strOfNums [(wrap64 (48 + q)) % 256] ++ acc)) (finD b (bs (decD x.natAbs) ++ acc)) := by
    intro q q0 qe
    have e1 := digit_str q0 (by omega)
    have ea : (Int.tdiv x 10).natAbs = x.natAbs / 10 := by
     rw [Int.natAbs_tdiv]; rfl
    have eb : -9223372036854775808 ≤ Int.tdiv x 10 ∧ Int.tdiv x 10 ≤ 9223372036854775807 := by omega
    have es : (strOfNums [(wrap64 (48 + q)) % 256]).size = 1 := by rw [e1, bs_size]; rfl
    have := ih (Int.tdiv x 10) b (strOfNums [(wrap64 (48 + q)) % 256] ++ acc) (by rw [ea]; exact hd) (by rw [ba_size, es]; omega) eb.1 eb.2
    refine ⟨by omega, ?_⟩
    rw [w64 eb.1 eb.2]
    rw [ea, e1, ← ba_assoc, bs_app, qe, ← decD_step (by omega)] at this
    rw [e1, qe]
    exact this
   refine evSucc ?_
   simp only [spec_Digits.l0, if_neg h0, Option.bind_some]
   by_cases hm : Int.tmod x 10 < 0
   ·have hx : x < 0 := Decidable.byContradiction fun hx => by have := Int.tmod_nonneg 10 (show 0 ≤ x by omega); omega
    have hy : Int.tmod x 10 = -((x.natAbs % 10 : Nat) : Int) := by
     have e : x = -((x.natAbs : Nat) : Int) := by omega
     conv => lhs; rw [e, Int.neg_tmod, tmod_pos (by omega)]
     omega
    obtain ⟨k1, k2⟩ := key (-(Int.tmod x 10)) (by omega) (by omega)
    simp only [if_pos hm, w64 (n := -(Int.tmod x 10)) (by omega) (by omega), if_pos k1]
    exact k2
   ·have hy : Int.tmod x 10 = ((x.natAbs % 10 : Nat) : Int) := by
     by_cases hx : 0 ≤ x
     ·rw [tmod_pos hx]; omega
     ·have e : x = -((x.natAbs : Nat) : Int) := by omega
      have e2 : Int.tmod x 10 = -((x.natAbs : Int) % 10) := by
       conv => lhs; rw [e, Int.neg_tmod, tmod_pos (by omega)]
      omega
    obtain ⟨k1, k2⟩ := key (Int.tmod x 10) (by omega) (by omega)
    simp only [if_neg hm, if_pos k1]
    exact k2
theorem dig_size {n : Int} (h0 : -9223372036854775808 ≤ n) (h1 : n ≤ 9223372036854775807) : (dig n).size ≤ 20 := by
 unfold dig Lib.itoa
 have h : ∀ u : Nat, u < 10 ^ 19 → (Lib.decDigits u).length ≤ 19 := fun u hu => by
  by_cases c : u = 0
  ·rw [c, Lib.decDigits, dif_pos (by omega)]; simp
  ·have := decD_len 19 u hu
   unfold decD at this
   rwa [if_neg c] at this
 split
 ·rw [bs_size]
  have := h n.natAbs (by omega)
  simp
  omega
 ·rw [bs_size]
  have := h n.toNat (by omega)
  omega
theorem spec_Digits_ev (n : Int) (h0 : -9223372036854775808 ≤ n) (h1 : n ≤ 9223372036854775807) : Ev (fun k => spec_Digits.f k n) (dig n) := by
 simp only [spec_Digits.f]
 by_cases c : n = 0
 ·subst c
  simp only [if_true]
  have e : dig 0 = (⟨#[48]⟩ : ByteArray) := by
   unfold dig Lib.itoa
   rw [if_neg (by omega), Lib.decDigits, dif_pos (by decide)]
   rfl
  rw [e]
  exact evSome _
 ·simp only [if_neg c]
  have := spec_Digits_l 19 n (decide (n < 0)) (⟨#[]⟩ : ByteArray) (by omega) (by simp [ByteArray.size]) h0 h1
  have e : finD (decide (n < 0)) (bs (decD n.natAbs) ++ (⟨#[]⟩ : ByteArray)) = dig n := by
   rw [ba_nil]
   have hz : ¬ n.natAbs = 0 := by omega
   unfold finD dig Lib.itoa decD
   rw [if_neg hz]
   by_cases d : n < 0
   ·rw [decide_eq_true d, if_pos rfl, if_pos d]
    exact bs_app [45] (Lib.decDigits n.natAbs)
   ·rw [decide_eq_false d, if_neg (by simp), if_neg d, show n.natAbs = n.toNat by omega]
  rw [e] at this
  exact this
theorem impl_Digits_eq (n : Int) (h0 : -9223372036854775808 ≤ n) (h1 : n ≤ 9223372036854775807) : impl_Digits.f n = some (dig n) := by
 unfold impl_Digits.f strconv_Itoa.f
 rw [if_pos ⟨h0, h1⟩]
 rfl
def rankB (r : Int) : ByteArray := if r = 0 then (⟨#[117]⟩ : ByteArray) else if r = 1 then (⟨#[103]⟩ : ByteArray) else (⟨#[63]⟩ : ByteArray)
def entW (a x b c s : ByteArray) : ByteArray := (((((a ++ x) ++ b) ++ (⟨#[46]⟩ : ByteArray)) ++ c) ++ (⟨#[58]⟩ : ByteArray)) ++ s
def entT (i r b v : Int) (s : ByteArray) : ByteArray := entW (dig i) (rankB r) (dig b) (dig v) s
theorem one_size (u : UInt8) : (⟨#[u]⟩ : ByteArray).size = 1 := rfl
section
variable {i r b v : Int} {s : ByteArray}
theorem spec_EntryText_ev (hi : -9223372036854775808 ≤ i ∧ i ≤ 9223372036854775807) (hb : -9223372036854775808 ≤ b ∧ b ≤ 9223372036854775807) (hv : -9223372036854775808 ≤ v ∧ v ≤ 9223372036854775807) (hs : s.size ≤ 140737488351232) : Ev (fun k => spec_EntryText.f k i r b v s) (entT i r b v s) := by
 have h1 := dig_size hi.1 hi.2
 have h2 := dig_size hb.1 hb.2
 have h3 := dig_size hv.1 hv.2
 have main : ∀ x : ByteArray, x.size = 1 → (r ≠ 1 → rankB r = x) → Ev (fun k => spec_EntryText.j0 k x i r b v s) (entT i r b v s) := by
  intro x hx hr
  refine evSucc ?_
  by_cases c : r = 1
  ·simp only [spec_EntryText.j0, if_pos c]
   have e : rankB r = (⟨#[103]⟩ : ByteArray) := by unfold rankB; rw [if_neg (by omega), if_pos c]
   refine Ev.bind (spec_Digits_ev i hi.1 hi.2) ?_
   simp only [if_pos (show (dig i).size + 1 ≤ 9223372036854775807 by omega)]
   refine Ev.bind (spec_Digits_ev b hb.1 hb.2) ?_
   simp only [if_pos (show (dig i ++ (⟨#[103]⟩ : ByteArray)).size + (dig b).size ≤ 9223372036854775807 by simp only [ba_size, one_size]; omega), if_pos (show ((dig i ++ (⟨#[103]⟩ : ByteArray)) ++ dig b).size + 1 ≤ 9223372036854775807 by simp only [ba_size, one_size]; omega)]
   refine Ev.bind (spec_Digits_ev v hv.1 hv.2) ?_
   simp only [if_pos (show (((dig i ++ (⟨#[103]⟩ : ByteArray)) ++ dig b) ++ (⟨#[46]⟩ : ByteArray)).size + (dig v).size ≤ 9223372036854775807 by simp only [ba_size, one_size]; omega), if_pos (show ((((dig i ++ (⟨#[103]⟩ : ByteArray)) ++ dig b) ++ (⟨#[46]⟩ : ByteArray)) ++ dig v).size + 1 ≤ 9223372036854775807 by simp only [ba_size, one_size]; omega), if_pos (show (((((dig i ++ (⟨#[103]⟩ : ByteArray)) ++ dig b) ++ (⟨#[46]⟩ : ByteArray)) ++ dig v) ++ (⟨#[58]⟩ : ByteArray)).size + s.size ≤ 9223372036854775807 by simp only [ba_size, one_size]; omega)]
   unfold entT entW
   rw [e]
   exact evSome _
  ·simp only [spec_EntryText.j0, if_neg c]
   have e := hr c
   refine Ev.bind (spec_Digits_ev i hi.1 hi.2) ?_
   simp only [if_pos (show (dig i).size + x.size ≤ 9223372036854775807 by omega)]
   refine Ev.bind (spec_Digits_ev b hb.1 hb.2) ?_
   simp only [if_pos (show (dig i ++ x).size + (dig b).size ≤ 9223372036854775807 by simp only [ba_size]; omega), if_pos (show ((dig i ++ x) ++ dig b).size + 1 ≤ 9223372036854775807 by simp only [ba_size]; omega)]
   refine Ev.bind (spec_Digits_ev v hv.1 hv.2) ?_
   simp only [if_pos (show (((dig i ++ x) ++ dig b) ++ (⟨#[46]⟩ : ByteArray)).size + (dig v).size ≤ 9223372036854775807 by simp only [ba_size, one_size]; omega), if_pos (show ((((dig i ++ x) ++ dig b) ++ (⟨#[46]⟩ : ByteArray)) ++ dig v).size + 1 ≤ 9223372036854775807 by simp only [ba_size, one_size]; omega), if_pos (show (((((dig i ++ x) ++ dig b) ++ (⟨#[46]⟩ : ByteArray)) ++ dig v) ++ (⟨#[58]⟩ : ByteArray)).size + s.size ≤ 9223372036854775807 by simp only [ba_size, one_size]; omega)]
   unfold entT entW
   rw [e]
   exact evSome _
 simp only [spec_EntryText.f]
 by_cases c0 : r = 0
 ·simp only [if_pos c0]
  exact main _ rfl (fun _ => by unfold rankB; rw [if_pos c0])
 ·simp only [if_neg c0]
  exact main _ rfl (fun c1 => by unfold rankB; rw [if_neg c0, if_neg c1])
theorem impl_EntryText_eq (hi : -9223372036854775808 ≤ i ∧ i ≤ 9223372036854775807) (hb : -9223372036854775808 ≤ b ∧ b ≤ 9223372036854775807) (hv : -9223372036854775808 ≤ v ∧ v ≤ 9223372036854775807) (hs : s.size ≤ 140737488351232) : impl_EntryText.f i r b v s = some (entT i r b v s) := by
 have h1 := dig_size hi.1 hi.2
 have h2 := dig_size hb.1 hb.2
 have h3 := dig_size hv.1 hv.2
 have g : ∀ u : UInt8, (if (dig i).size + 1 ≤ 9223372036854775807 then (if (dig i ++ (⟨#[u]⟩ : ByteArray)).size + (dig b).size ≤ 9223372036854775807 then (if ((dig i ++ (⟨#[u]⟩ : ByteArray)) ++ dig b).size + 1 ≤ 9223372036854775807 then (if (((dig i ++ (⟨#[u]⟩ : ByteArray)) ++ dig b) ++ (⟨#[46]⟩ : ByteArray)).size + (dig v).size ≤ 9223372036854775807 then (if ((((dig i ++ (⟨#[u]⟩ : ByteArray)) ++ dig b) ++ (⟨#[46]⟩ : ByteArray)) ++ dig v).size + 1 ≤ 9223372036854775807 then (if (((((dig i ++ (⟨#[u]⟩ : ByteArray)) ++ dig b) ++ (⟨#[46]⟩ : ByteArray)) ++ dig v) ++ (⟨#[58]⟩ : ByteArray)).size + s.size ≤ 9223372036854775807 then (some ((((((dig i ++ (⟨#[u]⟩ : ByteArray)) ++ dig b) ++ (⟨#[46]⟩ : ByteArray)) ++ dig v) ++ (⟨#[58]⟩ : ByteArray)) ++ s)) else none) else none) else none) else none) else none) else none) = some (entW (dig i) (⟨#[u]⟩ : ByteArray) (dig b) (dig v) s) := by
  intro u
  rw [if_pos (by omega), if_pos (by simp only [ba_size, one_size]; omega), if_pos (by simp only [ba_size, one_size]; omega), if_pos (by simp only [ba_size, one_size]; omega), if_pos (by simp only [ba_size, one_size]; omega), if_pos (by simp only [ba_size, one_size]; omega)]
  rfl
 unfold impl_EntryText.f
 simp only [impl_Digits_eq i hi.1 hi.2, impl_Digits_eq b hb.1 hb.2, impl_Digits_eq v hv.1 hv.2, Option.bind_some, g]
 unfold entT rankB
 split
 ·rfl
 ·split <;> rfl
end
theorem FnExactEntryText : laws_FnExactEntryText.Pure := by
 intro i r b v s hi _ hb hv hs
 apply Ev.rounds
 have hi := wf_i64 hi
 have hb := wf_i64 hb
 have hv := wf_i64 hv
 simp only [laws_FnExactEntryText.f, laws_toEntry.f, Option.bind_some, impl_EntryText_eq hi hb hv hs]
 unfold laws_szEntry.f
 rw [w64 (by omega) (by omega)]
 by_cases c : 1048576 - (s.size : Int) < 0
 ·simp only [if_pos c, Option.bind_some]
  simp only [if_pos (show (-1 : Int) < 0 by omega)]
  exact evSome _
 ·simp only [if_neg c, Option.bind_some]
  refine Ev.bind (spec_EntryText_ev hi hb hv hs) ?_
  simp only [if_true]
  exact evSome _
end Go.Proofs.YtomlglpmljngfaaDoor.Pure
