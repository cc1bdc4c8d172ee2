/- The plain law of FnExactEntryMax. -/
import Derived.Test.YthljdiniccpobaaPlFnExactEntryMax
namespace Go.Proofs.Ythljdiniccpobaa.Pure
open Go.RowKit Go.Proofs.Ythljdiniccpobaa.P Go.Proofs.YthljdiniccpobaaW.PrintWords Go.Proofs.YthljdiniccpobaaW.PrintLast
set_option linter.unusedVariables false
set_option linter.unusedSimpArgs false

theorem w64 {n : Int} (h0 : -9223372036854775808 ≤ n) (h1 : n ≤ 9223372036854775807) : wrap64 n = n := by
  unfold wrap64; omega
theorem tmod_pos {a b : Int} (h : 0 ≤ a) : Int.tmod a b = a % b := Int.tmod_eq_emod_of_nonneg h
theorem tdiv_pos {a b : Int} (h : 0 ≤ a) : Int.tdiv a b = a / b := Int.tdiv_eq_ediv_of_nonneg h
theorem evSome {α : Type} (r : α) : Ev (fun _ => some r) r := Ev.now r
theorem evEq {α : Type} {g f : Nat → Option α} {r : α} (k : Ev f r) (h : ∀ k, g k = f k) : Ev g r := Ev.congr h k
theorem evStep {α : Type} {g f : Nat → Option α} {r : α} (k : Ev f r) (h : ∀ k, g (k + 1) = f k) : Ev g r := Ev.step h k
theorem evRet {α : Type} {g : Nat → Option α} {r : α} (h : ∀ k, g (k + 1) = some r) : Ev g r := Ev.step h (Ev.now r)
theorem rd_nat {l : List Int} {i : Nat} (h : i < l.length) : rd l (i : Int) = l[i] := by
  unfold rd; simp [List.getD_eq_getElem?_getD, h]
theorem wf_i64 {a : Int} (h : (Lit.int .i64 a).wf = true) : -9223372036854775808 ≤ a ∧ a ≤ 9223372036854775807 := by
  simp [Lit.wf, IntKind.min, IntKind.max, IntKind.bits, IntKind.signed] at h; omega
theorem wf_u8 {a : Int} (h : (Lit.int .u8 a).wf = true) : 0 ≤ a ∧ a < 256 := by
  simp [Lit.wf, IntKind.min, IntKind.max, IntKind.bits, IntKind.signed] at h; omega

def cmpI (a b : Int) : Int := if a < b then -1 else if a > b then 1 else 0
def nz : List Int → Int → Int
  | [], t => t
  | x :: r, t => if x = 0 then nz r t else x
def ecmp (a0 a1 a2 a3 : Int) (a4 : ByteArray) (b0 b1 b2 b3 : Int) (b4 : ByteArray) : Int := nz [cmpI a0 b0, cmpI a1 b1, cmpI a2 b2, cmpI a3 b3] (Lib.compareBytes a4.data.toList b4.data.toList)
theorem u8_lt_or (a b : UInt8) : a < b ∨ a = b ∨ b < a := by
  rcases Nat.lt_trichotomy a.toNat b.toNat with h | h | h
  · exact .inl (UInt8.lt_iff_toNat_lt.2 h)
  · exact .inr (.inl (UInt8.toNat_inj.1 h))
  · exact .inr (.inr (UInt8.lt_iff_toNat_lt.2 h))
theorem u8_irrefl (a : UInt8) : ¬ a < a := fun h => Nat.lt_irrefl _ (UInt8.lt_iff_toNat_lt.1 h)
theorem u8_asymm {a b : UInt8} (h : a < b) : ¬ b < a := fun h2 => Nat.lt_asymm (UInt8.lt_iff_toNat_lt.1 h) (UInt8.lt_iff_toNat_lt.1 h2)
theorem cmpB_eq : ∀ (x y : List UInt8), Lib.compareBytes x y = if Op.bytesLess x y = true then -1 else if (!(x == y)) = true then 1 else 0
  | [], [] => by simp [Lib.compareBytes, Op.bytesLess]
  | [], b :: q => by simp [Lib.compareBytes, Op.bytesLess]
  | a :: p, [] => by simp [Lib.compareBytes, Op.bytesLess]
  | a :: p, b :: q => by
    unfold Lib.compareBytes Op.bytesLess
    rw [cmpB_eq p q]
    rcases u8_lt_or a b with h | h | h
    · simp [h]
    · subst h; simp [u8_irrefl]
    · have h1 := u8_asymm h
      have h2 : a ≠ b := fun e => by subst e; exact u8_irrefl _ h
      simp [h, h1, h2]
theorem spec_l2Cmp_eq (a b : Int) : spec_l2Cmp.f a b = some (cmpI a b) := by
  simp only [spec_l2Cmp.f, spec_l1Bit.f, cmpI]
  by_cases h : a < b
  · rw [if_pos h, if_pos h]
  · rw [if_neg h, if_neg h]
    by_cases h2 : a > b
    · simp [h2]
    · simp [h2]
theorem cmp_Compare_eq (a b : Int) : cmp_Compare_int.f a b = some (cmpI a b) := by
  simp only [cmp_Compare_int.f, cmp_isNaN_int.f, cmpI, Option.bind_some, bne_self_eq_false]
  by_cases h : a < b
  · simp [h]
  · by_cases h2 : a > b
    · simp [h, h2]
    · simp [h, h2]
theorem cmp_Or_l (l : List Int) (hl : l.length ≤ 1099511627776) : ∀ (d i : Nat), i + d = l.length → Ev (fun k => cmp_Or_int.l0 k 0 l (l.length : Int) (i : Int)) (nz (l.drop i) 0) := by
  intro d
  induction d with
  | zero =>
    intro i h
    rw [List.drop_eq_nil_of_le (by omega)]
    exact evRet fun k => by simp only [cmp_Or_int.l0]; rw [if_neg (by omega)]; rfl
  | succ d ih =>
    intro i h
    have hi : i < l.length := by omega
    rw [List.drop_eq_getElem_cons hi]
    by_cases hz : l[i] = 0
    · have := ih (i + 1) (by omega)
      refine evStep (by simpa only [nz, if_pos hz] using this) fun k => ?_
      simp only [cmp_Or_int.l0]
      rw [if_pos (by omega), if_pos (by omega), if_pos (by omega), rd_nat hi, if_pos hz, w64 (by omega) (by omega)]
      rfl
    · refine evRet fun k => ?_
      simp only [cmp_Or_int.l0]
      rw [if_pos (by omega), if_pos (by omega), if_pos (by omega), rd_nat hi, if_neg hz]
      simp only [nz, if_neg hz]
theorem cmp_Or_ev (l : List Int) (hl : l.length ≤ 1099511627776) : Ev (fun k => cmp_Or_int.f k l) (nz l 0) :=
  evEq (cmp_Or_l l hl l.length 0 (by omega)) fun k => rfl
theorem nz_snoc (t : Int) : ∀ (l : List Int), nz (l ++ [t]) 0 = nz l t
  | [] => by simp only [List.nil_append, nz]; split <;> simp_all
  | x :: r => by simp only [List.cons_append, nz, nz_snoc t r]
theorem impl_EntryCmp_ev (a0 a1 a2 a3 : Int) (a4 : ByteArray) (b0 b1 b2 b3 : Int) (b4 : ByteArray) : Ev (fun k => impl_EntryCmp.f k a0 a1 a2 a3 a4 b0 b1 b2 b3 b4) (ecmp a0 a1 a2 a3 a4 b0 b1 b2 b3 b4) := by
  simp only [impl_EntryCmp.f, cmp_Compare_eq, strings_Compare.f, Option.bind_some]
  refine Ev.bind (cmp_Or_ev _ (by simp)) ?_
  have : nz [cmpI a0 b0, cmpI a1 b1, cmpI a2 b2, cmpI a3 b3, Lib.compareBytes a4.data.toList b4.data.toList] 0 = ecmp a0 a1 a2 a3 a4 b0 b1 b2 b3 b4 := nz_snoc (Lib.compareBytes a4.data.toList b4.data.toList) [cmpI a0 b0, cmpI a1 b1, cmpI a2 b2, cmpI a3 b3]
  rw [this]
  exact evSome _
theorem spec_EntryCmp_l (l : List Int) (hl : l.length ≤ 1099511627776) (a0 a1 a2 a3 : Int) (a4 : ByteArray) (b0 b1 b2 b3 : Int) (b4 : ByteArray) : ∀ (d i : Nat), i + d = l.length →
    Ev (fun k => spec_EntryCmp.l0 k l (i : Int) a0 a1 a2 a3 a4 b0 b1 b2 b3 b4) (nz (l.drop i) (Lib.compareBytes a4.data.toList b4.data.toList)) := by
  intro d
  induction d with
  | zero =>
    intro i h
    rw [List.drop_eq_nil_of_le (by omega)]
    refine evRet fun k => ?_
    simp only [spec_EntryCmp.l0]
    rw [if_neg (by omega)]
    simp only [nz, cmpB_eq, Lib.toList_data, spec_l1Bit.f]
    by_cases h1 : Op.bytesLess a4.data.toList b4.data.toList = true
    · rw [if_pos h1, if_pos h1]
    · rw [if_neg h1, if_neg h1]
      split <;> rfl
  | succ d ih =>
    intro i h
    have hi : i < l.length := by omega
    rw [List.drop_eq_getElem_cons hi]
    by_cases hz : l[i] = 0
    · have := ih (i + 1) (by omega)
      refine evStep (by simpa only [nz, if_pos hz] using this) fun k => ?_
      simp only [spec_EntryCmp.l0]
      rw [if_pos (by omega), if_pos (by omega), rd_nat hi, if_pos hz, w64 (by omega) (by omega)]
      rfl
    · refine evRet fun k => ?_
      simp only [spec_EntryCmp.l0]
      rw [if_pos (by omega), if_pos (by omega), rd_nat hi, if_neg hz]
      simp only [nz, if_neg hz]
theorem spec_EntryCmp_ev (a0 a1 a2 a3 : Int) (a4 : ByteArray) (b0 b1 b2 b3 : Int) (b4 : ByteArray) : Ev (fun k => spec_EntryCmp.f k a0 a1 a2 a3 a4 b0 b1 b2 b3 b4) (ecmp a0 a1 a2 a3 a4 b0 b1 b2 b3 b4) := by
  simp only [spec_EntryCmp.f, spec_l2Cmp_eq, Option.bind_some]
  exact spec_EntryCmp_l [cmpI a0 b0, cmpI a1 b1, cmpI a2 b2, cmpI a3 b3] (by simp) a0 a1 a2 a3 a4 b0 b1 b2 b3 b4 4 0 (by simp)
theorem szEntry_some (i r b v : Int) (s : ByteArray) (n : Int) : ∃ m, laws_szEntry.f i r b v s n = some m := by
  unfold laws_szEntry.f
  split <;> exact ⟨_, rfl⟩

def maxP (a0 a1 a2 a3 : Int) (a4 : ByteArray) (b0 b1 b2 b3 : Int) (b4 : ByteArray) : Int × Int × Int × Int × ByteArray :=
  if ecmp a0 a1 a2 a3 a4 b0 b1 b2 b3 b4 < 0 then (b0, b1, b2, b3, b4) else (a0, a1, a2, a3, a4)
theorem spec_Max_ev (a0 a1 a2 a3 : Int) (a4 : ByteArray) (b0 b1 b2 b3 : Int) (b4 : ByteArray) : Ev (fun k => spec_EntryMax.f k a0 a1 a2 a3 a4 b0 b1 b2 b3 b4) (maxP a0 a1 a2 a3 a4 b0 b1 b2 b3 b4) := by
  simp only [spec_EntryMax.f, maxP]
  refine Ev.bind (spec_EntryCmp_ev _ _ _ _ _ _ _ _ _ _) ?_
  split
  · exact evSome _
  · exact evSome _
theorem impl_Max_ev (a0 a1 a2 a3 : Int) (a4 : ByteArray) (b0 b1 b2 b3 : Int) (b4 : ByteArray) : Ev (fun k => impl_EntryMax.f k a0 a1 a2 a3 a4 b0 b1 b2 b3 b4) (maxP a0 a1 a2 a3 a4 b0 b1 b2 b3 b4) := by
  simp only [impl_EntryMax.f, maxP]
  refine Ev.bind (impl_EntryCmp_ev _ _ _ _ _ _ _ _ _ _) ?_
  split
  · exact evSome _
  · exact evSome _
theorem eqE_self (a b c d : Int) (s : ByteArray) : laws_eqEntry.f a b c d s a b c d s = some true := by
  simp only [laws_eqEntry.f, if_true]
theorem FnExactEntryMax : laws_FnExactEntryMax.Pure := by
  intro a0 a1 a2 a3 a4 b0 b1 b2 b3 b4 _ _ _ _ _ _ _ _ _ _
  apply Ev.rounds
  obtain ⟨n, hn⟩ := szEntry_some a0 a1 a2 a3 a4 1048576
  obtain ⟨m, hm⟩ := szEntry_some b0 b1 b2 b3 b4 n
  simp only [laws_FnExactEntryMax.f, hn, hm, Option.bind_some, laws_toEntry.f]
  split
  · exact evSome _
  split
  · exact evSome _
  refine Ev.bind (spec_Max_ev _ _ _ _ _ _ _ _ _ _) ?_
  refine Ev.bind (impl_Max_ev _ _ _ _ _ _ _ _ _ _) ?_
  simp only [eqE_self, Option.bind_some, if_true]
  exact evSome _

end Go.Proofs.Ythljdiniccpobaa.Pure
