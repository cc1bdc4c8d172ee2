/- The plain law of FnOrder. -/
import Derived.Test.YtgjglbjdkikajaaPlFnOrder
namespace Go.Proofs.Ytgjglbjdkikajaa.Pure
open Go.RowKit Go.Proofs.Ytgjglbjdkikajaa.P Go.Proofs.YtgjglbjdkikajaaW.PrintWords Go.Proofs.YtgjglbjdkikajaaW.PrintLast
set_option linter.unusedVariables false
set_option linter.unusedSimpArgs false
theorem w64 {n : Int} (h0 : -9223372036854775808 ≤ n) (h1 : n ≤ 9223372036854775807) : wrap64 n = n := by
 unfold wrap64; omega
theorem evSome {α : Type} (r : α) : Ev (fun _ => some r) r := Ev.now r
theorem evEq {α : Type} {g f : Nat → Option α} {r : α} (k : Ev f r) (h : ∀ k, g k = f k) : Ev g r := Ev.congr h k
theorem evStep {α : Type} {g f : Nat → Option α} {r : α} (k : Ev f r) (h : ∀ k, g (k + 1) = f k) : Ev g r := Ev.step h k
theorem evRet {α : Type} {g : Nat → Option α} {r : α} (h : ∀ k, g (k + 1) = some r) : Ev g r := Ev.step h (Ev.now r)
theorem rd_nat {l : List Int} {i : Nat} (h : i < l.length) : rd l (i : Int) = l[i] := by
 unfold rd; simp [List.getD_eq_getElem?_getD, h]
theorem evSucc {α : Type} {g : Nat → Option α} {r : α} (h : Ev (fun k => g (k + 1)) r) : Ev g r := Ev.step (f := fun k => g (k + 1)) (fun _ => rfl) h
def entryOkB (i r b v : Int) (s : ByteArray) : Bool := decide (1 ≤ i ∧ i ≤ 1000) && (decide (0 ≤ r ∧ r ≤ 1) && (decide (0 ≤ b ∧ b ≤ 100000) && (decide (0 ≤ v ∧ v ≤ 1000) && decide ((s.size : Int) ≤ 8))))
def cmpI (a b : Int) : Int := if a < b then -1 else if a > b then 1 else 0
def nz : List Int → Int → Int
 | [], t => t
 | x :: r, t => if x = 0 then nz r t else x
def ecmp (a0 a1 a2 a3 : Int) (a4 : ByteArray) (b0 b1 b2 b3 : Int) (b4 : ByteArray) : Int := nz [cmpI a0 b0, cmpI a1 b1, cmpI a2 b2, cmpI a3 b3] (Lib.compareBytes a4.data.toList b4.data.toList)
theorem u8_lt_or (a b : UInt8) : a < b ∨ a = b ∨ b < a := by
 rcases Nat.lt_trichotomy a.toNat b.toNat with h | h | h
 ·exact .inl (UInt8.lt_iff_toNat_lt.2 h)
 ·exact .inr (.inl (UInt8.toNat_inj.1 h))
 ·exact .inr (.inr (UInt8.lt_iff_toNat_lt.2 h))
theorem u8_irrefl (a : UInt8) : ¬ a < a := fun h => Nat.lt_irrefl _ (UInt8.lt_iff_toNat_lt.1 h)
theorem u8_asymm {a b : UInt8} (h : a < b) : ¬ b < a := fun h2 => Nat.lt_asymm (UInt8.lt_iff_toNat_lt.1 h) (UInt8.lt_iff_toNat_lt.1 h2)
theorem cmpB_eq : ∀ (x y : List UInt8), Lib.compareBytes x y = if Op.bytesLess x y = true then -1 else if (!(x == y)) = true then 1 else 0
 | [], [] => by simp [Lib.compareBytes, Op.bytesLess]
 | [], b :: q => by simp [Lib.compareBytes, Op.bytesLess]
 | a :: p, [] => by simp [Lib.compareBytes, Op.bytesLess]
 | a :: p, b :: q => by
  unfold Lib.compareBytes Op.bytesLess
  rw [cmpB_eq p q]
  rcases u8_lt_or a b with h | h | h
  ·simp [h]
  ·subst h; simp [u8_irrefl]
  ·have h1 := u8_asymm h
   have h2 : a ≠ b := fun e => by subst e; exact u8_irrefl _ h
   simp [h, h1, h2]
theorem spec_l2Cmp_eq (a b : Int) : spec_l2Cmp.f a b = some (cmpI a b) := by
 simp only [spec_l2Cmp.f, spec_l1Bit.f, cmpI]
 by_cases h : a < b
 ·rw [if_pos h, if_pos h]
 ·rw [if_neg h, if_neg h]
  by_cases h2 : a > b
  ·simp [h2]
  ·simp [h2]
theorem cmp_Compare_eq (a b : Int) : cmp_Compare_int.f a b = some (cmpI a b) := by
 simp only [cmp_Compare_int.f, cmp_isNaN_int.f, cmpI, Option.bind_some, bne_self_eq_false]
 by_cases h : a < b
 ·simp [h]
 ·by_cases h2 : a > b
  ·simp [h, h2]
  ·simp [h, h2]
theorem cmp_Or_l (l : List Int) (hl : l.length ≤ 1099511627776) : ∀ (d i : Nat), i + d = l.length → Ev (fun k => cmp_Or_int.l0 k 0 l (l.length : Int) (i : Int)) (nz (l.drop i) 0) := by
 intro d
 induction d with
 | zero =>
  intro i h
  rw [List.drop_eq_nil_of_le (by omega)]
  exact evRet fun k => by simp only [cmp_Or_int.l0]; rw [if_neg (by omega)]; rfl
 | succ d ih =>
  intro i h
  have hi : i < l.length := by omega
  rw [List.drop_eq_getElem_cons hi]
  by_cases hz : l[i] = 0
  ·have := ih (i + 1) (by omega)
   refine evStep (by simpa only [nz, if_pos hz] using this) fun k => ?_
   simp only [cmp_Or_int.l0]
   rw [if_pos (by omega), if_pos (by omega), if_pos (by omega), rd_nat hi, if_pos hz, w64 (by omega) (by omega)]
   rfl
  ·refine evRet fun k => ?_
   simp only [cmp_Or_int.l0]
   rw [if_pos (by omega), if_pos (by omega), if_pos (by omega), rd_nat hi, if_neg hz]
   simp only [nz, if_neg hz]
theorem cmp_Or_ev (l : List Int) (hl : l.length ≤ 1099511627776) : Ev (fun k => cmp_Or_int.f k l) (nz l 0) :=
 evEq (cmp_Or_l l hl l.length 0 (by omega)) fun k => rfl
theorem nz_snoc (t : Int) : ∀ (l : List Int), nz (l ++ [t]) 0 = nz l t
 | [] => by simp only [List.nil_append, nz]; split <;> simp_all
 | x :: r => by simp only [List.cons_append, nz, nz_snoc t r]
theorem impl_EntryCmp_ev (a0 a1 a2 a3 : Int) (a4 : ByteArray) (b0 b1 b2 b3 : Int) (b4 : ByteArray) : Ev (fun k => impl_EntryCmp.f k a0 a1 a2 a3 a4 b0 b1 b2 b3 b4) (ecmp a0 a1 a2 a3 a4 b0 b1 b2 b3 b4) := by
 simp only [impl_EntryCmp.f, cmp_Compare_eq, strings_Compare.f, Option.bind_some]
 refine Ev.bind (cmp_Or_ev _ (by simp)) ?_
 have : nz [cmpI a0 b0, cmpI a1 b1, cmpI a2 b2, cmpI a3 b3, Lib.compareBytes a4.data.toList b4.data.toList] 0 = ecmp a0 a1 a2 a3 a4 b0 b1 b2 b3 b4 := nz_snoc (Lib.compareBytes a4.data.toList b4.data.toList) [cmpI a0 b0, cmpI a1 b1, cmpI a2 b2, cmpI a3 b3]
 rw [this]
 exact evSome _
theorem spec_EntryCmp_l (l : List Int) (hl : l.length ≤ 1099511627776) (a0 a1 a2 a3 : Int) (a4 : ByteArray) (b0 b1 b2 b3 : Int) (b4 : ByteArray) : ∀ (d i : Nat), i + d = l.length →
  Ev (fun k => spec_EntryCmp.l0 k l (i : Int) a0 a1 a2 a3 a4 b0 b1 b2 b3 b4) (nz (l.drop i) (Lib.compareBytes a4.data.toList b4.data.toList)) := by
 intro d
 induction d with
 | zero =>
  intro i h
  rw [List.drop_eq_nil_of_le (by omega)]
  refine evRet fun k => ?_
  simp only [spec_EntryCmp.l0]
  rw [if_neg (by omega)]
  simp only [nz, cmpB_eq, Lib.toList_data, spec_l1Bit.f]
  by_cases h1 : Op.bytesLess a4.data.toList b4.data.toList = true
  ·rw [if_pos h1, if_pos h1]
  ·rw [if_neg h1, if_neg h1]
   split <;> rfl
 | succ d ih =>
  intro i h
  have hi : i < l.length := by omega
  rw [List.drop_eq_getElem_cons hi]
  by_cases hz : l[i] = 0
  ·have := ih (i + 1) (by omega)
   refine evStep (by simpa only [nz, if_pos hz] using this) fun k => ?_
   simp only [spec_EntryCmp.l0]
   rw [if_pos (by omega), if_pos (by omega), rd_nat hi, if_pos hz, w64 (by omega) (by omega)]
   rfl
  ·refine evRet fun k => ?_
   simp only [spec_EntryCmp.l0]
   rw [if_pos (by omega), if_pos (by omega), rd_nat hi, if_neg hz]
   simp only [nz, if_neg hz]
theorem spec_EntryCmp_ev (a0 a1 a2 a3 : Int) (a4 : ByteArray) (b0 b1 b2 b3 : Int) (b4 : ByteArray) : Ev (fun k => spec_EntryCmp.f k a0 a1 a2 a3 a4 b0 b1 b2 b3 b4) (ecmp a0 a1 a2 a3 a4 b0 b1 b2 b3 b4) := by
 simp only [spec_EntryCmp.f, spec_l2Cmp_eq, Option.bind_some]
 exact spec_EntryCmp_l [cmpI a0 b0, cmpI a1 b1, cmpI a2 b2, cmpI a3 b3] (by simp) a0 a1 a2 a3 a4 b0 b1 b2 b3 b4 4 0 (by simp)
theorem cmpI_neg (a b : Int) : cmpI b a = - cmpI a b := by
 unfold cmpI
 by_cases h : a < b
 ·simp [h, show ¬ b < a by omega]
 ·by_cases h2 : b < a
  ·simp [h, h2]
  ·simp [h, h2]
theorem cmpBytes_neg : ∀ (x y : List UInt8), Lib.compareBytes y x = - Lib.compareBytes x y
 | [], [] => by simp [Lib.compareBytes]
 | [], b :: q => by simp [Lib.compareBytes]
 | a :: p, [] => by simp [Lib.compareBytes]
 | a :: p, b :: q => by
  unfold Lib.compareBytes
  rw [cmpBytes_neg p q]
  rcases u8_lt_or a b with h | h | h
  ·have h1 := u8_asymm h
   have h2 : a ≠ b := fun e => by subst e; exact u8_irrefl _ h
   simp [h, h1, h2, h2.symm]
  ·subst h; simp [u8_irrefl]
  ·have h1 := u8_asymm h
   have h2 : a ≠ b := fun e => by subst e; exact u8_irrefl _ h
   simp [h, h1, h2, h2.symm]
theorem ecmp_neg (a0 a1 a2 a3 : Int) (a4 : ByteArray) (b0 b1 b2 b3 : Int) (b4 : ByteArray) : ecmp b0 b1 b2 b3 b4 a0 a1 a2 a3 a4 = - ecmp a0 a1 a2 a3 a4 b0 b1 b2 b3 b4 := by
 simp only [ecmp, nz, cmpI_neg a0 b0, cmpI_neg a1 b1, cmpI_neg a2 b2, cmpI_neg a3 b3, cmpBytes_neg a4.data.toList b4.data.toList, Int.neg_eq_zero]
 repeat (split <;> try rfl)
abbrev E5 := Int × Int × Int × Int × ByteArray
def ec (x y : E5) : Int := ecmp x.1 x.2.1 x.2.2.1 x.2.2.2.1 x.2.2.2.2 y.1 y.2.1 y.2.2.1 y.2.2.2.1 y.2.2.2.2
def mxE (x y : E5) : E5 := if ec x y < 0 then y else x
theorem cmpI_range (a b : Int) : cmpI a b = -1 ∨ cmpI a b = 0 ∨ cmpI a b = 1 := by unfold cmpI; split <;> (try split) <;> simp
theorem cmpI_zero {a b : Int} (h : cmpI a b = 0) : a = b := by
 unfold cmpI at h
 by_cases h1 : a < b
 ·rw [if_pos h1] at h; omega
 ·rw [if_neg h1] at h
  by_cases h2 : a > b
  ·rw [if_pos h2] at h; omega
  ·omega
theorem cmpI_self (a : Int) : cmpI a a = 0 := by unfold cmpI; simp
theorem cmpB_range : ∀ (x y : List UInt8), Lib.compareBytes x y = -1 ∨ Lib.compareBytes x y = 0 ∨ Lib.compareBytes x y = 1
 | [], [] => by simp [Lib.compareBytes]
 | [], b :: q => by simp [Lib.compareBytes]
 | a :: p, [] => by simp [Lib.compareBytes]
 | a :: p, b :: q => by
  unfold Lib.compareBytes
  have := cmpB_range p q
  split
  ·simp
  ·split
   ·simp
   ·exact this
theorem cmpB_zero : ∀ {x y : List UInt8}, Lib.compareBytes x y = 0 → x = y
 | [], [], _ => rfl
 | [], b :: q, h => by simp [Lib.compareBytes] at h
 | a :: p, [], h => by simp [Lib.compareBytes] at h
 | a :: p, b :: q, h => by
  unfold Lib.compareBytes at h
  rcases u8_lt_or a b with h1 | h1 | h1
  ·simp [h1] at h
  ·subst h1
   simp [u8_irrefl] at h
   rw [cmpB_zero h]
  ·have h2 := u8_asymm h1
   simp [h1, h2] at h
theorem cmpB_self : ∀ (x : List UInt8), Lib.compareBytes x x = 0
 | [] => by simp [Lib.compareBytes]
 | a :: p => by unfold Lib.compareBytes; simp [u8_irrefl, cmpB_self p]
theorem u8_trans {a b c : UInt8} (h : a < b) (h2 : b < c) : a < c := UInt8.lt_iff_toNat_lt.2 (Nat.lt_trans (UInt8.lt_iff_toNat_lt.1 h) (UInt8.lt_iff_toNat_lt.1 h2))
/-- What is less goes on. -/
theorem cmpB_trans : ∀ {x y z : List UInt8}, Lib.compareBytes x y < 0 → Lib.compareBytes y z < 0 → Lib.compareBytes x z < 0
 | [], [], _, h, _ => by simp [Lib.compareBytes] at h
 | [], b :: q, [], _, h => by simp [Lib.compareBytes] at h
 | [], b :: q, c :: r, _, _ => by simp [Lib.compareBytes]
 | a :: p, [], _, h, _ => by simp [Lib.compareBytes] at h
 | a :: p, b :: q, [], _, h => by simp [Lib.compareBytes] at h
 | a :: p, b :: q, c :: r, h, h2 => by
  unfold Lib.compareBytes at h h2 ⊢
  rcases u8_lt_or a b with h1 | h1 | h1
  ·rcases u8_lt_or b c with h3 | h3 | h3
   ·simp [u8_trans h1 h3]
   ·subst h3; simp [h1]
   ·simp [h3, u8_asymm h3] at h2
  ·subst h1
   rcases u8_lt_or a c with h3 | h3 | h3
   ·simp [h3]
   ·subst h3
    simp [u8_irrefl] at h h2 ⊢
    exact cmpB_trans h h2
   ·simp [h3, u8_asymm h3] at h2
  ·simp [h1, u8_asymm h1] at h
theorem ec_unf (x y : E5) : ec x y = if cmpI x.1 y.1 ≠ 0 then cmpI x.1 y.1 else if cmpI x.2.1 y.2.1 ≠ 0 then cmpI x.2.1 y.2.1 else if cmpI x.2.2.1 y.2.2.1 ≠ 0 then cmpI x.2.2.1 y.2.2.1 else if cmpI x.2.2.2.1 y.2.2.2.1 ≠ 0 then cmpI x.2.2.2.1 y.2.2.2.1 else Lib.compareBytes x.2.2.2.2.data.toList y.2.2.2.2.data.toList := by
 unfold ec ecmp
 simp only [nz]
 repeat (first | (split <;> (try simp_all; done)) | rfl)
theorem ec_neg (x y : E5) : ec y x = - ec x y := ecmp_neg _ _ _ _ _ _ _ _ _ _
theorem ec_self (x : E5) : ec x x = 0 := by rw [ec_unf]; simp [cmpI_self, cmpB_self]
theorem bytes_ext {a b : ByteArray} (h : a.data.toList = b.data.toList) : a = b := by
 cases a; cases b
 simp at h
 congr
theorem ec_zero {x y : E5} (h : ec x y = 0) : x = y := by
 rw [ec_unf] at h
 by_cases h1 : cmpI x.1 y.1 = 0
 ·rw [if_neg (by simp [h1])] at h
  by_cases h2 : cmpI x.2.1 y.2.1 = 0
  ·rw [if_neg (by simp [h2])] at h
   by_cases h3 : cmpI x.2.2.1 y.2.2.1 = 0
   ·rw [if_neg (by simp [h3])] at h
    by_cases h4 : cmpI x.2.2.2.1 y.2.2.2.1 = 0
    ·rw [if_neg (by simp [h4])] at h
     have h5 := bytes_ext (cmpB_zero h)
     obtain ⟨a, b, c, d, s⟩ := x
     obtain ⟨a', b', c', d', s'⟩ := y
     simp only at h1 h2 h3 h4 h5
     rw [cmpI_zero h1, cmpI_zero h2, cmpI_zero h3, cmpI_zero h4, h5]
    ·rw [if_pos h4] at h; exact absurd h h4
   ·rw [if_pos h3] at h; exact absurd h h3
  ·rw [if_pos h2] at h; exact absurd h h2
 ·rw [if_pos h1] at h; exact absurd h h1
theorem ec_lt_iff (x y : E5) : ec x y < 0 ↔ (x.1 < y.1 ∨ x.1 = y.1 ∧ (x.2.1 < y.2.1 ∨ x.2.1 = y.2.1 ∧ (x.2.2.1 < y.2.2.1 ∨ x.2.2.1 = y.2.2.1 ∧ (x.2.2.2.1 < y.2.2.2.1 ∨ x.2.2.2.1 = y.2.2.2.1 ∧ Lib.compareBytes x.2.2.2.2.data.toList y.2.2.2.2.data.toList < 0)))) := by
 have key : ∀ (a b : Int) (r : Int) (p : Prop), (r < 0 ↔ p) → ((if cmpI a b ≠ 0 then cmpI a b else r) < 0 ↔ (a < b ∨ a = b ∧ p)) := by
  intro a b r p hp
  unfold cmpI
  by_cases h1 : a < b
  ·simp [h1]
  ·by_cases h2 : a > b
   ·simp [h1, h2]; omega
   ·have e : a = b := by omega
    subst e
    simp [hp]
 rw [ec_unf]
 exact key _ _ _ _ (key _ _ _ _ (key _ _ _ _ (key _ _ _ _ Iff.rfl)))
theorem ec_trans {x y z : E5} (h : ec x y < 0) (h2 : ec y z < 0) : ec x z < 0 := by
 rw [ec_lt_iff] at h h2 ⊢
 rcases h with h | ⟨e1, h⟩
 ·rcases h2 with h2 | ⟨e2, _⟩ <;> left <;> omega
 ·rcases h2 with h2 | ⟨e2, h2⟩
  ·left; omega
  ·right; refine ⟨by omega, ?_⟩
   rcases h with h | ⟨e3, h⟩
   ·rcases h2 with h2 | ⟨e4, _⟩ <;> left <;> omega
   ·rcases h2 with h2 | ⟨e4, h2⟩
    ·left; omega
    ·right; refine ⟨by omega, ?_⟩
     rcases h with h | ⟨e5, h⟩
     ·rcases h2 with h2 | ⟨e6, _⟩ <;> left <;> omega
     ·rcases h2 with h2 | ⟨e6, h2⟩
      ·left; omega
      ·right; refine ⟨by omega, ?_⟩
       rcases h with h | ⟨e7, h⟩
       ·rcases h2 with h2 | ⟨e8, _⟩ <;> left <;> omega
       ·rcases h2 with h2 | ⟨e8, h2⟩
        ·left; omega
        ·right; exact ⟨by omega, cmpB_trans h h2⟩
/-- x is y or behind it. -/
def leE (x y : E5) : Prop := ¬ ec y x < 0
theorem leE_refl (x : E5) : leE x x := by unfold leE; rw [ec_self]; omega
theorem leE_antisymm {x y : E5} (h : leE x y) (h2 : leE y x) : x = y := by
 unfold leE at h h2
 have := ec_neg x y
 exact ec_zero (by omega)
theorem leE_trans {x y z : E5} (h : leE x y) (h2 : leE y z) : leE x z := by
 unfold leE at *
 intro h3
 by_cases h4 : ec y z < 0
 ·exact h (ec_trans h4 h3)
 ·have e : y = z := leE_antisymm (by unfold leE; exact h2) (by unfold leE; exact h4)
  subst e
  exact h h3
theorem mxE_left (x y : E5) : leE x (mxE x y) := by
 unfold mxE
 split
 ·rename_i h
  unfold leE
  have := ec_neg x y
  omega
 ·exact leE_refl x
theorem mxE_right (x y : E5) : leE y (mxE x y) := by
 unfold mxE
 split
 ·exact leE_refl y
 ·rename_i h; exact h
theorem mxE_or (x y : E5) : mxE x y = x ∨ mxE x y = y := by unfold mxE; split <;> simp
theorem mxE_lub {x y z : E5} (h : leE x z) (h2 : leE y z) : leE (mxE x y) z := by rcases mxE_or x y with e | e <;> rw [e] <;> assumption
theorem mxE_comm (x y : E5) : mxE x y = mxE y x := leE_antisymm (mxE_lub (mxE_right y x) (mxE_left y x)) (mxE_lub (mxE_right x y) (mxE_left x y))
theorem mxE_assoc (x y z : E5) : mxE (mxE x y) z = mxE x (mxE y z) :=
 leE_antisymm (mxE_lub (mxE_lub (mxE_left _ _) (leE_trans (mxE_left y z) (mxE_right _ _))) (leE_trans (mxE_right y z) (mxE_right _ _)))
  (mxE_lub (leE_trans (mxE_left x y) (mxE_left _ _)) (mxE_lub (leE_trans (mxE_right x y) (mxE_left _ _)) (mxE_right _ _)))
theorem mxE_self (x : E5) : mxE x x = x := by rcases mxE_or x x with e | e <;> exact e
theorem and255 (x : Int) : 0 ≤ Go.bits .and .i64 x 255 ∧ Go.bits .and .i64 x 255 ≤ 255 := by
 have e : Go.bits .and .i64 x 255 = IntKind.i64.wrap (((BitVec.ofInt 64 x &&& BitVec.ofInt 64 255).toNat : Nat) : Int) := rfl
 have h : (BitVec.ofInt 64 x &&& BitVec.ofInt 64 255).toNat ≤ 255 := by
  rw [BitVec.toNat_and]
  exact Nat.and_le_right
 rw [e, IntKind.wrap_i64]
 omega
theorem byte_ok (b : List Int) (hb : b.length ≤ 140737488351232) (i h : Int) (h0 : 0 ≤ i) (h1 : i ≤ (b.length : Int)) : ∃ r i' h', spec_l1Byte.f b i h = some (r, i', h') ∧ 0 ≤ r ∧ r ≤ 255 ∧ 0 ≤ i' ∧ i' ≤ (b.length : Int) := by
 unfold spec_l1Byte.f
 by_cases c : i < (b.length : Int)
 ·rw [if_pos c, if_pos h0]
  refine ⟨_, _, _, rfl, (and255 _).1, (and255 _).2, ?_, ?_⟩
  ·rw [w64 (by omega) (by omega)]; omega
  ·rw [w64 (by omega) (by omega)]; omega
 ·rw [if_neg c]
  exact ⟨_, _, _, rfl, (and255 _).1, (and255 _).2, h0, h1⟩
theorem below_ok (b : List Int) (hb : b.length ≤ 140737488351232) (i h n : Int) (h0 : 0 ≤ i) (h1 : i ≤ (b.length : Int)) (hn : 0 < n) (hn2 : n ≤ 256) : ∃ r i' h', spec_l1Below.f b i h n = some (r, i', h') ∧ 0 ≤ r ∧ r < n ∧ 0 ≤ i' ∧ i' ≤ (b.length : Int) := by
 obtain ⟨r, i', h', e, r0, r1, c0, c1⟩ := byte_ok b hb i h h0 h1
 refine ⟨Int.tmod r n, i', h', ?_, Int.tmod_nonneg _ r0, Int.tmod_lt_of_pos _ hn, c0, c1⟩
 unfold spec_l1Below.f
 rw [if_neg (by omega), if_pos hn2, e]
 simp only [Option.bind_some]
 rw [if_neg (by omega)]
theorem pick_ok (b : List Int) (hb : b.length ≤ 140737488351232) (i h : Int) (h0 : 0 ≤ i) (h1 : i ≤ (b.length : Int)) (l : List ByteArray) (hl : 0 < l.length) (hl2 : l.length ≤ 256) : ∃ s i' h', spec_l1Pick.f b i h l = some (s, i', h') ∧ s ∈ l ∧ 0 ≤ i' ∧ i' ≤ (b.length : Int) := by
 obtain ⟨r, i', h', e, r0, r1, c0, c1⟩ := below_ok b hb i h l.length h0 h1 (by omega) (by omega)
 refine ⟨rdOf ByteArray.empty l r, i', h', ?_, ?_, c0, c1⟩
 ·unfold spec_l1Pick.f
  rw [e]
  simp only [Option.bind_some]
  rw [if_pos r0, if_pos r1]
 ·unfold rdOf
  rw [List.getD_eq_getElem?_getD, List.getElem?_eq_getElem (show r.toNat < l.length by omega)]
  exact List.getElem_mem _
theorem pickInt_ok (b : List Int) (hb : b.length ≤ 140737488351232) (i h : Int) (h0 : 0 ≤ i) (h1 : i ≤ (b.length : Int)) (l : List Int) (hl : 0 < l.length) (hl2 : l.length ≤ 256) : ∃ s i' h', spec_l1PickInt.f b i h l = some (s, i', h') ∧ s ∈ l ∧ 0 ≤ i' ∧ i' ≤ (b.length : Int) := by
 obtain ⟨r, i', h', e, r0, r1, c0, c1⟩ := below_ok b hb i h l.length h0 h1 (by omega) (by omega)
 refine ⟨rd l r, i', h', ?_, ?_, c0, c1⟩
 ·unfold spec_l1PickInt.f
  rw [e]
  simp only [Option.bind_some]
  rw [if_pos r0, if_pos r1]
 ·unfold rd
  rw [List.getD_eq_getElem?_getD, List.getElem?_eq_getElem (show r.toNat < l.length by omega)]
  exact List.getElem_mem _
theorem right_ok (b : List Int) (hb : b.length ≤ 140737488351232) (i h : Int) (h0 : 0 ≤ i) (h1 : i ≤ (b.length : Int)) : ∃ e0 e1 e2 e3 s i' h', spec_l2Right.f b i h = some (e0, e1, e2, e3, s, i', h') ∧ entryOkB e0 e1 e2 e3 s = true ∧ 0 ≤ i' ∧ i' ≤ (b.length : Int) := by
 obtain ⟨r1, i1, k1, e1, a1, b1, c1, d1⟩ := below_ok b hb i h 3 h0 h1 (by omega) (by omega)
 obtain ⟨r2, i2, k2, e2, a2, b2, c2, d2⟩ := below_ok b hb i1 k1 2 c1 d1 (by omega) (by omega)
 obtain ⟨r3, i3, k3, e3, a3, b3, c3, d3⟩ := below_ok b hb i2 k2 3 c2 d2 (by omega) (by omega)
 obtain ⟨r4, i4, k4, e4, a4, b4, c4, d4⟩ := below_ok b hb i3 k3 3 c3 d3 (by omega) (by omega)
 obtain ⟨s, i5, k5, e5, a5, c5, d5⟩ := pick_ok b hb i4 k4 c4 d4 [(⟨#[]⟩ : ByteArray), (⟨#[97]⟩ : ByteArray), (⟨#[98]⟩ : ByteArray), (⟨#[97, 98]⟩ : ByteArray), (⟨#[49, 50, 51, 52, 53, 54, 55, 56]⟩ : ByteArray)] (by simp) (by simp)
 refine ⟨wrap64 (1 + r1), r2, r3, r4, s, i5, k5, ?_, ?_, c5, d5⟩
 ·unfold spec_l2Right.f
  rw [e1]; simp only [Option.bind_some]
  rw [e2]; simp only [Option.bind_some]
  rw [e3]; simp only [Option.bind_some]
  rw [e4]; simp only [Option.bind_some]
  rw [e5]; simp only [Option.bind_some]
 ·rw [w64 (by omega) (by omega)]
  have hs : (s.size : Int) ≤ 8 := by
   simp only [List.mem_cons, List.not_mem_nil, or_false] at a5
   rcases a5 with rfl | rfl | rfl | rfl | rfl <;> simp [ByteArray.size]
  simp only [entryOkB, Bool.and_eq_true, decide_eq_true_eq]
  omega
theorem draw_ok (b : List Int) (hb : b.length ≤ 140737488351232) (i h : Int) (h0 : 0 ≤ i) (h1 : i ≤ (b.length : Int)) : ∃ e0 e1 e2 e3 s i' h', spec_l2Draw.f b i h = some (e0, e1, e2, e3, s, i', h') ∧ 0 ≤ i' ∧ i' ≤ (b.length : Int) := by
 obtain ⟨r0, r1, r2, r3, s, i1, k1, e1, _, c1, d1⟩ := right_ok b hb i h h0 h1
 obtain ⟨q, i2, k2, e2, a2, b2, c2, d2⟩ := below_ok b hb i1 k1 14 c1 d1 (by omega) (by omega)
 unfold spec_l2Draw.f
 rw [e1]; simp only [Option.bind_some]
 rw [e2]; simp only [Option.bind_some]
 by_cases q0 : q = 0
 ·rw [if_pos q0]
  obtain ⟨z, i3, k3, e3, _, c3, d3⟩ := pickInt_ok b hb i2 k2 c2 d2 [0, 1000, 1001, (-1)] (by simp) (by simp)
  rw [e3]; exact ⟨_, _, _, _, _, _, _, rfl, c3, d3⟩
 rw [if_neg q0]
 by_cases q1 : q = 1
 ·rw [if_pos q1]
  obtain ⟨z, i3, k3, e3, _, c3, d3⟩ := pickInt_ok b hb i2 k2 c2 d2 [(-1), 2] (by simp) (by simp)
  rw [e3]; exact ⟨_, _, _, _, _, _, _, rfl, c3, d3⟩
 rw [if_neg q1]
 by_cases q2 : q = 2
 ·rw [if_pos q2]
  obtain ⟨z, i3, k3, e3, _, c3, d3⟩ := pickInt_ok b hb i2 k2 c2 d2 [(-1), 100000, 100001] (by simp) (by simp)
  rw [e3]; exact ⟨_, _, _, _, _, _, _, rfl, c3, d3⟩
 rw [if_neg q2]
 by_cases q3 : q = 3
 ·rw [if_pos q3]
  obtain ⟨z, i3, k3, e3, _, c3, d3⟩ := pickInt_ok b hb i2 k2 c2 d2 [(-1), 1000, 1001] (by simp) (by simp)
  rw [e3]; exact ⟨_, _, _, _, _, _, _, rfl, c3, d3⟩
 rw [if_neg q3]
 by_cases q4 : q = 4
 ·rw [if_pos q4]; exact ⟨_, _, _, _, _, _, _, rfl, c2, d2⟩
 ·rw [if_neg q4]; exact ⟨_, _, _, _, _, _, _, rfl, c2, d2⟩
theorem l1New_l (b : List Int) (hb : b.length ≤ 140737488351232) : ∀ (d j : Nat) (h : Int), j + d = b.length → ∃ h', Ev (fun k => spec_l1New.l0 k b h (j : Int)) (b, 0, h') := by
 intro d
 induction d with
 | zero =>
  intro j h e
  exact ⟨h, evRet fun k => by simp only [spec_l1New.l0]; rw [if_neg (by omega)]⟩
 | succ d ih =>
  intro j h e
  by_cases c : (j : Int) < 4000
  ·obtain ⟨h', hv⟩ := ih (j + 1) (Go.bits .and .i64 (wrap64 ((wrap64 ((wrap64 (h * 131)) + (wrap64 (rd b (j : Int))))) + 7)) 1073741823) (by omega)
   refine ⟨h', evStep hv fun k => ?_⟩
   simp only [spec_l1New.l0]
   rw [if_pos (by omega), if_pos c, if_pos (by omega), w64 (n := (j : Int) + 1) (by omega) (by omega)]
   rfl
  ·exact ⟨h, evRet fun k => by simp only [spec_l1New.l0]; rw [if_pos (by omega), if_neg c]⟩
theorem l1New_ok (b : List Int) (hb : b.length ≤ 140737488351232) : ∃ h', Ev (fun k => spec_l1New.f k b) (b, 0, h') := by
 obtain ⟨h', hv⟩ := l1New_l b hb b.length 0 (wrap64 (26583 + (b.length : Int))) (by omega)
 exact ⟨h', hv⟩
theorem big_eq (l : List Int) : laws_big.f l = some (decide ((l.length : Int) > 1048576)) := rfl
theorem evEx {α β : Type} {f : Nat → Option α} {g : Nat → α → Option β} {a : α} (h : Ev f a) (h2 : ∃ t, Ev (fun k => g k a) t) : ∃ t, Ev (fun k => (f k).bind (g k)) t := by
 obtain ⟨t, h3⟩ := h2
 exact ⟨t, Ev.bind h h3⟩
theorem once_ok (b : List Int) (hb : b.length ≤ 140737488351232) (i h n : Int) (h0 : 0 ≤ i) (h1 : i ≤ (b.length : Int)) (hn : 0 < n) (hn2 : n ≤ 256) : ∃ q i' h', spec_l1Once.f b i h n = some (q, i', h') ∧ 0 ≤ i' ∧ i' ≤ (b.length : Int) := by
 obtain ⟨r, i', h', e, _, _, c, d⟩ := below_ok b hb i h n h0 h1 hn hn2
 exact ⟨r == 0, i', h', by simp only [spec_l1Once.f, e, Option.bind_some], c, d⟩
theorem l2Two_ok (b : List Int) (hb : b.length ≤ 140737488351232) : ∃ a0 a1 a2 a3 a4 b0 b1 b2 b3 b4, Ev (fun k => spec_l2Two.f k b) (a0, a1, a2, a3, a4, b0, b1, b2, b3, b4) := by
 obtain ⟨h0, e0⟩ := l1New_ok b hb
 obtain ⟨a0, a1, a2, a3, a4, i1, k1, e1, c1, d1⟩ := draw_ok b hb 0 h0 (by omega) (by omega)
 obtain ⟨q, i2, k2, e2, c2, d2⟩ := once_ok b hb i1 k1 4 c1 d1 (by omega) (by omega)
 obtain ⟨b0, b1, b2, b3, b4, i3, k3, e3, c3, d3⟩ := draw_ok b hb i2 k2 c2 d2
 obtain ⟨q2, i4, k4, e4, c4, d4⟩ := once_ok b hb i3 k3 2 c3 d3 (by omega) (by omega)
 obtain ⟨q3, i5, k5, e5, c5, d5⟩ := once_ok b hb i4 k4 2 c4 d4 (by omega) (by omega)
 suffices h : ∃ t, Ev (fun k => spec_l2Two.f k b) t by
  obtain ⟨⟨_, _, _, _, _, _, _, _, _, _⟩, h⟩ := h
  exact ⟨_, _, _, _, _, _, _, _, _, _, h⟩
 simp only [spec_l2Two.f]
 cases q <;> cases q2 <;> cases q3 <;>
  (refine evEx e0 ?_; simp only [e1, e2, e3, e4, e5, Option.bind_some, Bool.false_eq_true, if_true, if_false]; exact ⟨_, evSome _⟩)
theorem eq5 (x y : E5) : (ec x y == 0) = (x.1 == y.1 && (x.2.1 == y.2.1 && (x.2.2.1 == y.2.2.1 && (x.2.2.2.1 == y.2.2.2.1 && (x.2.2.2.2.toList == y.2.2.2.2.toList))))) := by
 rw [Bool.eq_iff_iff]
 simp only [beq_iff_eq, Bool.and_eq_true]
 constructor
 ·intro h
  have := ec_zero h
  subst this
  simp
 ·rintro ⟨h1, h2, h3, h4, h5⟩
  obtain ⟨x0, x1, x2, x3, x4⟩ := x
  obtain ⟨y0, y1, y2, y3, y4⟩ := y
  simp only at h1 h2 h3 h4 h5
  have h6 : x4 = y4 := by
   rw [Lib.toList_data, Lib.toList_data] at h5
   exact bytes_ext h5
  subst h1 h2 h3 h4 h6
  exact ec_self _
theorem ne5 (x : E5) : (!(x.1 == x.1) || (!(x.2.1 == x.2.1) || (!(x.2.2.1 == x.2.2.1) || (!(x.2.2.2.1 == x.2.2.2.1) || (!(x.2.2.2.2.toList == x.2.2.2.2.toList)))))) = false := by simp
theorem max5_ev (x y : E5) : Ev (fun k => impl_EntryMax.f k x.1 x.2.1 x.2.2.1 x.2.2.2.1 x.2.2.2.2 y.1 y.2.1 y.2.2.1 y.2.2.2.1 y.2.2.2.2) (mxE x y) := by
 simp only [impl_EntryMax.f]
 refine Ev.bind (impl_EntryCmp_ev _ _ _ _ _ _ _ _ _ _) ?_
 by_cases h : ec x y < 0
 ·rw [show mxE x y = y from if_pos h]
  simp only [if_pos (show ecmp x.1 x.2.1 x.2.2.1 x.2.2.2.1 x.2.2.2.2 y.1 y.2.1 y.2.2.1 y.2.2.2.1 y.2.2.2.2 < 0 from h)]
  exact evSome _
 ·rw [show mxE x y = x from if_neg h]
  simp only [if_neg (show ¬ ecmp x.1 x.2.1 x.2.2.1 x.2.2.2.1 x.2.2.2.2 y.1 y.2.1 y.2.2.1 y.2.2.2.1 y.2.2.2.2 < 0 from h)]
  exact evSome _
theorem cmp5_ev (x y : E5) : Ev (fun k => impl_EntryCmp.f k x.1 x.2.1 x.2.2.1 x.2.2.2.1 x.2.2.2.2 y.1 y.2.1 y.2.2.1 y.2.2.2.1 y.2.2.2.2) (ec x y) := impl_EntryCmp_ev _ _ _ _ _ _ _ _ _ _
theorem scmp5_ev (x y : E5) : Ev (fun k => spec_EntryCmp.f k x.1 x.2.1 x.2.2.1 x.2.2.2.1 x.2.2.2.2 y.1 y.2.1 y.2.2.1 y.2.2.2.1 y.2.2.2.2) (ec x y) := spec_EntryCmp_ev _ _ _ _ _ _ _ _ _ _
theorem newer5_ev (x y : E5) : Ev (fun k => impl_Newer.f k x.1 x.2.1 x.2.2.1 x.2.2.2.1 x.2.2.2.2 y.1 y.2.1 y.2.2.1 y.2.2.2.1 y.2.2.2.2) (decide (ec x y > 0)) := by
 simp only [impl_Newer.f]
 refine Ev.bind (cmp5_ev x y) ?_
 exact evSome _
theorem ec_range (x y : E5) : -1 ≤ ec x y ∧ ec x y ≤ 1 := by
 rw [ec_unf]
 have h1 := cmpI_range x.1 y.1
 have h2 := cmpI_range x.2.1 y.2.1
 have h3 := cmpI_range x.2.2.1 y.2.2.1
 have h4 := cmpI_range x.2.2.2.1 y.2.2.2.1
 have h5 := cmpB_range x.2.2.2.2.data.toList y.2.2.2.2.data.toList
 repeat' split
 all_goals omega
theorem order_j2 (A B C : E5) : Ev (fun k => laws_FnOrder.j2 k (ec A B) false A.1 A.2.1 A.2.2.1 A.2.2.2.1 A.2.2.2.2 B.1 B.2.1 B.2.2.1 B.2.2.2.1 B.2.2.2.2 C.1 C.2.1 C.2.2.1 C.2.2.2.1 C.2.2.2.2) true := by
 refine evSucc ?_
 simp only [laws_FnOrder.j2, Bool.false_eq_true, if_false]
 by_cases h : ec A B < 0
 ·simp only [if_pos h]; exact evSome _
 simp only [if_neg h]
 refine Ev.bind (cmp5_ev B C) ?_
 by_cases h2 : ec B C < 0
 ·simp only [if_pos h2]; exact evSome _
 simp only [if_neg h2]
 refine Ev.bind (cmp5_ev A C) ?_
 have h3 : ¬ ec A C < 0 := leE_trans (show leE C B from h2) (show leE B A from h)
 rw [decide_eq_true (show ec A C ≥ 0 by omega)]
 exact evSome _
theorem order_j1 (A B C : E5) : Ev (fun k => laws_FnOrder.j1 k (ec A B) false A.1 A.2.1 A.2.2.1 A.2.2.2.1 A.2.2.2.2 B.1 B.2.1 B.2.2.1 B.2.2.2.1 B.2.2.2.2 C.1 C.2.1 C.2.2.1 C.2.2.2.1 C.2.2.2.2) true := by
 refine evSucc ?_
 simp only [laws_FnOrder.j1, Bool.false_eq_true, if_false]
 refine Ev.bind (max5_ev A B) ?_
 refine Ev.bind (max5_ev (mxE A B) C) ?_
 refine Ev.bind (max5_ev B C) ?_
 refine Ev.bind (max5_ev A (mxE B C)) ?_
 rw [mxE_assoc, ne5]
 simp only [Bool.false_eq_true, if_false]
 refine Ev.bind (max5_ev A A) ?_
 rw [mxE_self, ne5]
 exact order_j2 A B C
theorem order_j0 (A B C : E5) : Ev (fun k => laws_FnOrder.j0 k (ec A B) false A.1 A.2.1 A.2.2.1 A.2.2.2.1 A.2.2.2.2 B.1 B.2.1 B.2.2.1 B.2.2.2.1 B.2.2.2.2 C.1 C.2.1 C.2.2.1 C.2.2.2.1 C.2.2.2.2) true := by
 refine evSucc ?_
 simp only [laws_FnOrder.j0, Bool.false_eq_true, if_false]
 refine Ev.bind (max5_ev A B) ?_
 refine Ev.bind (max5_ev B A) ?_
 rw [mxE_comm B A, ne5]
 simp only [Bool.false_eq_true, if_false]
 have hl := mxE_left A B
 have hr := mxE_right A B
 refine Ev.bind (cmp5_ev (mxE A B) A) ?_
 simp only [if_neg (show ¬ ec (mxE A B) A < 0 from hl)]
 refine Ev.bind (cmp5_ev (mxE A B) B) ?_
 simp only [if_neg (show ¬ ec (mxE A B) B < 0 from hr)]
 rcases mxE_or A B with e | e
 ·rw [e, ne5]
  simp only [Bool.false_eq_true, if_false]
  exact order_j1 A B C
 ·rw [e, ne5]
  split
  ·exact order_j1 A B C
  ·exact order_j1 A B C
theorem FnOrder : laws_FnOrder.Pure := by
 intro l hl hl2 _
 apply Ev.rounds
 have hb : l.length ≤ 140737488351232 := by omega
 have hb2 : (l.drop 1).length ≤ 140737488351232 := by rw [List.length_drop]; omega
 simp only [laws_FnOrder.f, big_eq, Option.bind_some]
 by_cases hbig : (l.length : Int) > 1048576
 ·simp only [decide_eq_true hbig, if_true]; exact evSome _
 simp only [decide_eq_false hbig, Bool.false_eq_true, if_false]
 obtain ⟨a0, a1, a2, a3, a4, b0, b1, b2, b3, b4, hv⟩ := l2Two_ok l hb
 obtain ⟨c0, c1, c2, c3, c4, d0, d1, d2, d3, d4, hv2⟩ := l2Two_ok (l.drop 1) hb2
 have hd : Ev (fun k => spec_DrawEntryCmp.f k l) (a0, a1, a2, a3, a4, b0, b1, b2, b3, b4) := by
  simp only [spec_DrawEntryCmp.f]
  refine Ev.bind hv ?_
  exact evSome _
 have hd2 : Ev (fun k => spec_DrawEntryCmp.f k (l.drop 1)) (c0, c1, c2, c3, c4, d0, d1, d2, d3, d4) := by
  simp only [spec_DrawEntryCmp.f]
  refine Ev.bind hv2 ?_
  exact evSome _
 refine Ev.bind hd ?_
 refine Ev.bind hd2 ?_
 have hrg := ec_range (a0, a1, a2, a3, a4) (b0, b1, b2, b3, b4)
 have hng := ec_neg (a0, a1, a2, a3, a4) (b0, b1, b2, b3, b4)
 have hz := eq5 (a0, a1, a2, a3, a4) (b0, b1, b2, b3, b4)
 refine Ev.bind (cmp5_ev (a0, a1, a2, a3, a4) (b0, b1, b2, b3, b4)) ?_
 refine Ev.bind (scmp5_ev (a0, a1, a2, a3, a4) (b0, b1, b2, b3, b4)) ?_
 simp only [if_true]
 refine Ev.bind (cmp5_ev (b0, b1, b2, b3, b4) (a0, a1, a2, a3, a4)) ?_
 simp only [if_pos (show ec (b0, b1, b2, b3, b4) (a0, a1, a2, a3, a4) = wrap64 (-ec (a0, a1, a2, a3, a4) (b0, b1, b2, b3, b4)) by rw [hng, w64 (by omega) (by omega)])]
 simp only at hz
 simp only [hz, bne_self_eq_false, Bool.false_eq_true, if_false]
 refine Ev.bind (newer5_ev (a0, a1, a2, a3, a4) (b0, b1, b2, b3, b4)) ?_
 simp only [bne_self_eq_false]
 exact order_j0 (a0, a1, a2, a3, a4) (b0, b1, b2, b3, b4) (c0, c1, c2, c3, c4)
end Go.Proofs.Ytgjglbjdkikajaa.Pure
