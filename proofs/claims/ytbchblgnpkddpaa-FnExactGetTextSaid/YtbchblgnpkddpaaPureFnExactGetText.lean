/- The program's GetText gives what the reference's gives, for every slice of bytes and every offset. -/
import Derived.Test.YtbchblgnpkddpaaPFnExactGetTextx2
namespace Go.Proofs.Ytbchblgnpkddpaa.Pure
open Go.RowKit Go.Proofs.Ytbchblgnpkddpaa.PFnExactGetText Go.Proofs.YtbchblgnpkddpaaW.PrintWords Go.Proofs.YtbchblgnpkddpaaW.PrintLast
set_option linter.unusedVariables false
set_option linter.unusedSimpArgs false

theorem w64 {n : Int} (h0 : -9223372036854775808 ≤ n) (h1 : n ≤ 9223372036854775807) : wrap64 n = n := by
  unfold wrap64; omega
theorem tmod_pos {a b : Int} (h : 0 ≤ a) : Int.tmod a b = a % b := Int.tmod_eq_emod_of_nonneg h
theorem tdiv_pos {a b : Int} (h : 0 ≤ a) : Int.tdiv a b = a / b := Int.tdiv_eq_ediv_of_nonneg h
theorem evSome {α : Type} (r : α) : Ev (fun _ => some r) r := Ev.now r
theorem evEq {α : Type} {g f : Nat → Option α} {r : α} (k : Ev f r) (h : ∀ k, g k = f k) : Ev g r := Ev.congr h k
theorem evStep {α : Type} {g f : Nat → Option α} {r : α} (k : Ev f r) (h : ∀ k, g (k + 1) = f k) : Ev g r := Ev.step h k
theorem evRet {α : Type} {g : Nat → Option α} {r : α} (h : ∀ k, g (k + 1) = some r) : Ev g r := Ev.step h (Ev.now r)
theorem rd_nat {l : List Int} {i : Nat} (h : i < l.length) : rd l (i : Int) = l[i] := by
  unfold rd; simp [List.getD_eq_getElem?_getD, h]
theorem wf_i64 {a : Int} (h : (Lit.int .i64 a).wf = true) : -9223372036854775808 ≤ a ∧ a ≤ 9223372036854775807 := by
  simp [Lit.wf, IntKind.min, IntKind.max, IntKind.bits, IntKind.signed] at h; omega
theorem wf_u8 {a : Int} (h : (Lit.int .u8 a).wf = true) : 0 ≤ a ∧ a < 256 := by
  simp [Lit.wf, IntKind.min, IntKind.max, IntKind.bits, IntKind.signed] at h; omega

theorem toByteS_l (x : List Int) (hx : x.length ≤ 1099511627776) : ∀ (d i : Nat) (y : List Int), i + d = x.length → y.length = x.length →
    Ev (fun k => laws_toByteS.l0 k x y (i : Int)) (y.take i ++ x.drop i) := by
  intro d
  induction d with
  | zero =>
    intro i y h hy
    have e : y.take i ++ x.drop i = y := by
      rw [List.drop_eq_nil_of_le (by omega), List.take_of_length_le (by omega), List.append_nil]
    rw [e]
    refine evRet fun k => ?_
    simp only [laws_toByteS.l0]; rw [if_neg (by omega)]
  | succ d ih =>
    intro i y h hy
    have hi : i < x.length := by omega
    have := ih (i + 1) (y.set i x[i]) (by omega) (by simpa using hy)
    have e : (y.set i x[i]).take (i + 1) ++ x.drop (i + 1) = y.take i ++ x.drop i := by
      rw [List.drop_eq_getElem_cons hi, List.take_succ_eq_append_getElem (by simp; omega), List.take_set_of_le (Nat.le_refl i)]
      simp
    rw [e] at this
    refine evStep this fun k => ?_
    simp only [laws_toByteS.l0]
    rw [if_pos (by omega), if_pos (by omega), if_pos (by omega), rd_nat hi, w64 (by omega) (by omega)]
    rfl
theorem toByteS_ev (x : List Int) (hx : x.length ≤ 1099511627776) : Ev (fun k => laws_toByteS.f k x) x := by
  have := toByteS_l x hx x.length 0 (List.replicate x.length 0) (by omega) (by simp)
  simp only [List.take_zero, List.drop_zero, List.nil_append] at this
  refine evEq this fun k => ?_
  simp only [laws_toByteS.f]
  rw [if_pos (by omega), if_pos (by omega)]
  rfl

theorem eqByteS_l (x : List Int) (hx : x.length ≤ 1099511627776) : ∀ (d i : Nat), i + d = x.length →
    Ev (fun k => laws_eqByteS.l0 k x x (i : Int)) true := by
  intro d
  induction d with
  | zero => 
    intro i h
    refine evRet fun k => ?_
    simp only [laws_eqByteS.l0]; rw [if_neg (by omega)]
  | succ d ih =>
    intro i h
    refine evStep (ih (i + 1) (by omega)) fun k => ?_
    simp only [laws_eqByteS.l0]
    rw [if_pos (by omega), if_pos (by omega), if_pos (by omega), if_pos trivial, w64 (by omega) (by omega)]
    rfl
theorem eqByteS_ev (x : List Int) (hx : x.length ≤ 1099511627776) : Ev (fun k => laws_eqByteS.f k x x) true := by
  refine evEq (eqByteS_l x hx x.length 0 (by omega)) fun k => ?_
  simp only [laws_eqByteS.f]
  rw [if_pos trivial]
  rfl

def gnum (l : List Int) (a : Int) : Nat → Nat → Int → Int × Int × Bool
  | 0, _, _ => (0, 0, false)
  | d + 1, i, n => if a < 0 ∨ a + i ≥ l.length then (0, 0, false) else
    if rd l (a + i) ≥ 128 then gnum l a d (i + 1) (n + rd l (a + i) % 128 * 2 ^ (7 * i))
    else if (i > 0 ∧ rd l (a + i) = 0) ∨ n + rd l (a + i) % 128 * 2 ^ (7 * i) > 2147483647 then (0, 0, false)
    else (n + rd l (a + i) % 128 * 2 ^ (7 * i), a + i + 1, true)
def getNum (l : List Int) (a : Int) : Int × Int × Bool := gnum l a 5 0 0
def Byte (l : List Int) : Prop := ∀ x ∈ l, 0 ≤ x ∧ x < 256
theorem byte_of_wf {l : List Int} (h : ∀ x ∈ l, (Lit.int .u8 x).wf = true) : Byte l := fun x hx => wf_u8 (h x hx)
theorem rd_byte {l : List Int} (h : Byte l) (i : Int) : 0 ≤ rd l i ∧ rd l i < 256 := by
  unfold rd
  by_cases hi : i.toNat < l.length
  · rw [List.getD_eq_getElem?_getD, List.getElem?_eq_getElem hi]; exact h _ (List.getElem_mem hi)
  · rw [List.getD_eq_getElem?_getD, List.getElem?_eq_none (by omega)]; simp
theorem pow7 {i : Nat} (h : i < 5) : (2 : Int) ^ (7 * i) ≤ 268435456 ∧ 1 ≤ (2 : Int) ^ (7 * i) := by
  have : i = 0 ∨ i = 1 ∨ i = 2 ∨ i = 3 ∨ i = 4 := by omega
  rcases this with rfl | rfl | rfl | rfl | rfl <;> decide
theorem mul_le_of {c p : Int} (h0 : 0 ≤ c) (h1 : c ≤ 127) (hp : 1 ≤ p) : 0 ≤ c * p ∧ c * p ≤ 127 * p := ⟨Int.mul_nonneg h0 (by omega), Int.mul_le_mul_of_nonneg_right h1 (by omega)⟩
theorem shl7 {c : Int} {i : Nat} (h : i < 5) (h0 : 0 ≤ c) : shl .i64 (Int.tmod (wrap64 c) 128) (wrap64 (7 * (i : Int))) = if c < 256 then c % 128 * 2 ^ (7 * i) else shl .i64 (Int.tmod (wrap64 c) 128) (wrap64 (7 * (i : Int))) := by
  split
  · rename_i hc
    rw [w64 (n := c) (by omega) (by omega), w64 (n := 7 * (i : Int)) (by omega) (by omega), tmod_pos h0]
    unfold shl
    have e : min (7 * (i : Int)).toNat IntKind.i64.bits = 7 * i := by
      have : IntKind.i64.bits = 64 := rfl
      rw [this]; omega
    rw [e]
    obtain ⟨p1, p2⟩ := pow7 h
    obtain ⟨m1, m2⟩ := mul_le_of (c := c % 128) (by omega) (by omega) p2
    rw [IntKind.wrap_i64]
    generalize c % 128 * 2 ^ (7 * i) = z at *
    omega
  · rfl
theorem or7 {n z : Int} {i : Nat} (h : i < 5) (h0 : 0 ≤ n) (h1 : n < 2 ^ (7 * i)) (hz0 : 0 ≤ z) (hz1 : z ≤ 127) : Go.bits .or .i64 n (z * 2 ^ (7 * i)) = n + z * 2 ^ (7 * i) := by
  obtain ⟨a, rfl⟩ := Int.eq_ofNat_of_zero_le h0
  obtain ⟨b, rfl⟩ := Int.eq_ofNat_of_zero_le hz0
  have ha : a < 2 ^ (7 * i) := by exact_mod_cast h1
  have hb : b ≤ 127 := by omega
  have e : ((b : Int) * 2 ^ (7 * i)) = ((b * 2 ^ (7 * i) : Nat) : Int) := by simp
  have p1 : 2 ^ (7 * i) ≤ 268435456 := by
    have : i = 0 ∨ i = 1 ∨ i = 2 ∨ i = 3 ∨ i = 4 := by omega
    rcases this with rfl | rfl | rfl | rfl | rfl <;> decide
  have hm : b * 2 ^ (7 * i) ≤ 127 * 268435456 := Nat.mul_le_mul hb p1
  rw [e, (bits_nat .i64 62 (by decide) (fun n _ _ => by rw [IntKind.wrap_i64]; omega) a (b * 2 ^ (7 * i)) (by omega) (by omega)).2]
  rw [Nat.or_comm, Nat.mul_comm b, ← Nat.two_pow_add_eq_or_of_lt ha b]
  simp; omega
theorem spec_GetNum_l0 {l : List Int} (hb : Byte l) (hx : l.length ≤ 1099511627776) {a : Int} (ha0 : -9223372036854775808 ≤ a) (ha1 : a ≤ 9223372036854775807) :
    ∀ (d i : Nat) (n : Int), i + d = 5 → 0 ≤ n → n < 2 ^ (7 * i) → Ev (fun k => spec_GetNum.l0 k l a n (i : Int)) (gnum l a d i n) := by
  intro d
  induction d with
  | zero => intro i n h _ _; exact evRet fun k => by simp only [spec_GetNum.l0]; rw [if_neg (by omega)]; rfl
  | succ d ih =>
    intro i n h h0 h1
    have hi5 : i < 5 := by omega
    unfold gnum
    by_cases hout : a < 0 ∨ a + i ≥ l.length
    · rw [if_pos hout]
      have : Ev (fun k => spec_GetNum.j1 k l a n (i : Int) true) (0, 0, false) := evRet fun k => by simp only [spec_GetNum.j1]; rw [if_pos trivial]
      refine evStep this fun k => ?_
      simp only [spec_GetNum.l0]
      rw [if_pos (by omega)]
      by_cases hneg : a < 0
      · rw [if_pos hneg]
      · rw [if_neg hneg, w64 (by omega) (by omega), decide_eq_true (by omega)]
    · rw [if_neg hout]
      obtain ⟨c0, c1⟩ := rd_byte hb (a + i)
      have ew : wrap64 (a + (i : Int)) = a + i := w64 (by omega) (by omega)
      have es : shl .i64 (Int.tmod (wrap64 (rd l (a + i))) 128) (wrap64 (7 * (i : Int))) = rd l (a + i) % 128 * 2 ^ (7 * i) := by rw [shl7 hi5 c0, if_pos c1]
      have eo := or7 (z := rd l (a + i) % 128) hi5 h0 h1 (by omega) (by omega)
      obtain ⟨p1, p2⟩ := pow7 hi5
      obtain ⟨m1, m2⟩ := mul_le_of (c := rd l (a + i) % 128) (by omega) (by omega) p2
      have key : Ev (fun k => spec_GetNum.j1 k l a n (i : Int) false) (if rd l (a + i) ≥ 128 then gnum l a d (i + 1) (n + rd l (a + i) % 128 * 2 ^ (7 * i))
          else if (i > 0 ∧ rd l (a + i) = 0) ∨ n + rd l (a + i) % 128 * 2 ^ (7 * i) > 2147483647 then (0, 0, false)
          else (n + rd l (a + i) % 128 * 2 ^ (7 * i), a + i + 1, true)) := by
        by_cases hc : rd l (a + i) ≥ 128
        · rw [if_pos hc]
          have hstep := ih (i + 1) (n + rd l (a + i) % 128 * 2 ^ (7 * i)) (by omega) (by omega) (by
            rw [show 7 * (i + 1) = 7 * i + 7 by omega, Int.pow_add]
            generalize (2 : Int) ^ (7 * i) = p at *
            generalize rd l (a + i) % 128 * p = q at *
            omega)
          refine evStep hstep fun k => ?_
          simp only [spec_GetNum.j1]
          rw [if_neg (by simp), ew, if_pos (by omega), if_pos (by omega), if_pos (by rw [w64 (by omega) (by omega)]; omega), es, eo,
            if_neg (by rw [w64 (by omega) (by omega)]; omega), w64 (n := (i : Int) + 1) (by omega) (by omega)]
          rfl
        · rw [if_neg hc]
          refine evRet fun k => ?_
          simp only [spec_GetNum.j1]
          rw [if_neg (by simp), ew, if_pos (by omega), if_pos (by omega), if_pos (by rw [w64 (by omega) (by omega)]; omega), es, eo,
            if_pos (by rw [w64 (by omega) (by omega)]; omega)]
          rw [w64 (n := rd l (a + i)) (by omega) (by omega), w64 (n := a + i + 1) (by omega) (by omega)]
          by_cases hi0 : i > 0
          · rw [if_pos (by omega)]
            by_cases hz : rd l (a + i) = 0
            · rw [if_pos hz, if_pos (Or.inl ⟨hi0, hz⟩)]
            · rw [if_neg hz]
              by_cases hbig : n + rd l (a + i) % 128 * 2 ^ (7 * i) > 2147483647
              · rw [if_pos hbig, if_pos (Or.inr hbig)]
              · rw [if_neg hbig, if_neg (by rintro (⟨_, h⟩ | h) <;> contradiction)]
          · rw [if_neg (by omega)]
            by_cases hbig : n + rd l (a + i) % 128 * 2 ^ (7 * i) > 2147483647
            · rw [if_pos hbig, if_pos (Or.inr hbig)]
            · rw [if_neg hbig, if_neg (by rintro (⟨h, _⟩ | h) <;> contradiction)]
      refine evStep key fun k => ?_
      simp only [spec_GetNum.l0]
      rw [if_pos (by omega), if_neg (by omega), w64 (by omega) (by omega), decide_eq_false (by omega)]
theorem spec_GetNum_ev {l : List Int} (hb : Byte l) (hx : l.length ≤ 1099511627776) {a : Int} (ha0 : -9223372036854775808 ≤ a) (ha1 : a ≤ 9223372036854775807) :
    Ev (fun k => spec_GetNum.f k l a) (getNum l a) :=
  evEq (spec_GetNum_l0 hb hx ha0 ha1 5 0 0 (by omega) (by omega) (by decide)) fun k => rfl
theorem impl_GetNum_l0 {l : List Int} (hb : Byte l) (hx : l.length ≤ 1099511627776) {a : Int} (ha0 : 0 ≤ a) (ha1 : a < l.length) :
    ∀ (d i : Nat) (n : Int), i + d = 5 → 0 ≤ n → n < 2 ^ (7 * i) → Ev (fun k => impl_GetNum.l0 k l a n (i : Int)) (gnum l a d i n) := by
  intro d
  induction d with
  | zero => 
    intro i n h _ _
    have : Ev (fun k => impl_GetNum.j2 k l a n (i : Int) false) (0, 0, false) := evRet fun k => by simp only [impl_GetNum.j2]; rw [if_neg (by simp)]
    refine evStep this fun k => ?_
    simp only [impl_GetNum.l0]; rw [if_neg (by omega)]
  | succ d ih =>
    intro i n h h0 h1
    have hi5 : i < 5 := by omega
    unfold gnum
    have ew : wrap64 (a + (i : Int)) = a + i := w64 (by omega) (by omega)
    by_cases hout : a < 0 ∨ a + i ≥ l.length
    · rw [if_pos hout]
      have : Ev (fun k => impl_GetNum.j2 k l a n (i : Int) false) (0, 0, false) := evRet fun k => by simp only [impl_GetNum.j2]; rw [if_neg (by simp)]
      refine evStep this fun k => ?_
      simp only [impl_GetNum.l0]
      rw [if_pos (by omega), ew, decide_eq_false (by omega)]
    · rw [if_neg hout]
      obtain ⟨c0, c1⟩ := rd_byte hb (a + i)
      have es : shl .i64 (Int.tmod (wrap64 (rd l (a + i))) 128) (wrap64 (7 * (i : Int))) = rd l (a + i) % 128 * 2 ^ (7 * i) := by rw [shl7 hi5 c0, if_pos c1]
      obtain ⟨p1, p2⟩ := pow7 hi5
      obtain ⟨m1, m2⟩ := mul_le_of (c := rd l (a + i) % 128) (by omega) (by omega) p2
      have eo : wrap64 (n + rd l (a + i) % 128 * 2 ^ (7 * i)) = n + rd l (a + i) % 128 * 2 ^ (7 * i) := w64 (by omega) (by omega)
      have key : Ev (fun k => impl_GetNum.j2 k l a n (i : Int) true) (if rd l (a + i) ≥ 128 then gnum l a d (i + 1) (n + rd l (a + i) % 128 * 2 ^ (7 * i))
          else if (i > 0 ∧ rd l (a + i) = 0) ∨ n + rd l (a + i) % 128 * 2 ^ (7 * i) > 2147483647 then (0, 0, false)
          else (n + rd l (a + i) % 128 * 2 ^ (7 * i), a + i + 1, true)) := by
        by_cases hc : rd l (a + i) ≥ 128
        · rw [if_pos hc]
          have hstep := ih (i + 1) (n + rd l (a + i) % 128 * 2 ^ (7 * i)) (by omega) (by omega) (by
            rw [show 7 * (i + 1) = 7 * i + 7 by omega, Int.pow_add]
            generalize (2 : Int) ^ (7 * i) = p at *
            generalize rd l (a + i) % 128 * p = q at *
            omega)
          refine evStep hstep fun k => ?_
          simp only [impl_GetNum.j2]
          rw [if_pos trivial, ew, if_pos (by omega), if_pos (by omega), if_pos (by rw [w64 (by omega) (by omega)]; omega), es, eo,
            if_pos (by rw [w64 (by omega) (by omega)]; omega), w64 (n := (i : Int) + 1) (by omega) (by omega)]
          rfl
        · rw [if_neg hc]
          refine evRet fun k => ?_
          simp only [impl_GetNum.j2]
          rw [if_pos trivial, ew, if_pos (by omega), if_pos (by omega), if_pos (by rw [w64 (by omega) (by omega)]; omega), es, eo,
            if_neg (by rw [w64 (by omega) (by omega)]; omega)]
          rw [w64 (n := rd l (a + i)) (by omega) (by omega), w64 (n := a + i + 1) (by omega) (by omega)]
          by_cases hi0 : i > 0
          · rw [if_pos (by omega)]
            by_cases hz : rd l (a + i) = 0
            · rw [if_pos hz, if_pos (Or.inl ⟨hi0, hz⟩)]
            · rw [if_neg hz]
              by_cases hbig : n + rd l (a + i) % 128 * 2 ^ (7 * i) > 2147483647
              · rw [if_pos hbig, if_pos (Or.inr hbig)]
              · rw [if_neg hbig, if_neg (by rintro (⟨_, h⟩ | h) <;> contradiction)]
          · rw [if_neg (by omega)]
            by_cases hbig : n + rd l (a + i) % 128 * 2 ^ (7 * i) > 2147483647
            · rw [if_pos hbig, if_pos (Or.inr hbig)]
            · rw [if_neg hbig, if_neg (by rintro (⟨h, _⟩ | h) <;> contradiction)]
      refine evStep key fun k => ?_
      simp only [impl_GetNum.l0]
      rw [if_pos (by omega), ew, decide_eq_true (by omega)]
theorem impl_GetNum_ev {l : List Int} (hb : Byte l) (hx : l.length ≤ 1099511627776) {a : Int} :
    Ev (fun k => impl_GetNum.f k l a) (getNum l a) := by
  by_cases hout : a < 0 ∨ a ≥ l.length
  · have e : getNum l a = (0, 0, false) := by
      unfold getNum gnum
      rw [if_pos (by omega)]
    rw [e]
    have : Ev (fun k => impl_GetNum.j0 k l a true) (0, 0, false) := evRet fun k => by simp only [impl_GetNum.j0]; rw [if_pos trivial]
    refine evEq this fun k => ?_
    simp only [impl_GetNum.f]
    by_cases hneg : a < 0
    · rw [if_pos hneg]
    · rw [if_neg hneg, decide_eq_true (by omega)]
  · have := impl_GetNum_l0 hb hx (a := a) (by omega) (by omega) 5 0 0 (by omega) (by omega) (by decide)
    have h2 : Ev (fun k => impl_GetNum.j0 k l a false) (getNum l a) := evStep this fun k => by simp only [impl_GetNum.j0]; rw [if_neg (by simp)]; rfl
    refine evEq h2 fun k => ?_
    simp only [impl_GetNum.f]
    rw [if_neg (by omega), decide_eq_false (by omega)]

theorem gnum_bounds {l : List Int} (hb : Byte l) {a : Int} : ∀ (d i : Nat) (n : Int), i + d = 5 → 0 ≤ n → (gnum l a d i n).2.2 = true → 0 ≤ (gnum l a d i n).1 ∧ (gnum l a d i n).1 ≤ 2147483647 ∧ 0 ≤ a ∧ a + (i : Int) < (gnum l a d i n).2.1 ∧ (gnum l a d i n).2.1 ≤ (l.length : Int) := by
  intro d
  induction d with
  | zero => intro i n _ _ h; simp [gnum] at h
  | succ d ih =>
    intro i n hi h0
    unfold gnum
    by_cases hout : a < 0 ∨ a + i ≥ l.length
    · rw [if_pos hout]; intro h; simp at h
    · rw [if_neg hout]
      obtain ⟨c0, c1⟩ := rd_byte hb (a + i)
      obtain ⟨p1, p2⟩ := pow7 (i := i) (by omega)
      obtain ⟨m1, m2⟩ := mul_le_of (c := rd l (a + i) % 128) (by omega) (by omega) p2
      by_cases hc : rd l (a + i) ≥ 128
      · rw [if_pos hc]
        intro h
        obtain ⟨q1, q2, q3, q4, q5⟩ := ih (i + 1) _ (by omega) (by omega) h
        exact ⟨q1, q2, q3, by omega, q5⟩
      · rw [if_neg hc]
        by_cases hz : (i > 0 ∧ rd l (a + i) = 0) ∨ n + rd l (a + i) % 128 * 2 ^ (7 * i) > 2147483647
        · rw [if_pos hz]; intro h; simp at h
        · rw [if_neg hz]
          intro _
          refine ⟨by show 0 ≤ n + _; omega, ?_, by omega, by show a + (i : Int) < a + i + 1; omega, by show a + (i : Int) + 1 ≤ _; omega⟩
          show n + _ ≤ _
          have : ¬ n + rd l (a + i) % 128 * 2 ^ (7 * i) > 2147483647 := fun h => hz (Or.inr h)
          omega
def getText (l : List Int) (a : Int) : ByteArray × Int × Bool :=
  if (getNum l a).2.2 = true then
    if (getNum l a).1 > (l.length : Int) - (getNum l a).2.1 then (⟨#[]⟩, 0, false)
    else (strOfNums ((l.take ((getNum l a).2.1 + (getNum l a).1).toNat).drop ((getNum l a).2.1).toNat), (getNum l a).2.1 + (getNum l a).1, true)
  else (⟨#[]⟩, 0, false)
theorem spec_GetText_ev {l : List Int} (hb : Byte l) (hx : l.length ≤ 1099511627776) {a : Int} (ha0 : -9223372036854775808 ≤ a) (ha1 : a ≤ 9223372036854775807) :
    Ev (fun k => spec_GetText.f k l a) (getText l a) := by
  simp only [spec_GetText.f]
  refine Ev.bind (spec_GetNum_ev hb hx ha0 ha1) ?_
  unfold getText
  by_cases hok : (getNum l a).2.2 = true
  · obtain ⟨q1, q2, q3, q4, q5⟩ := gnum_bounds hb (a := a) 5 0 0 (by omega) (by omega) hok
    change 0 ≤ (getNum l a).1 at q1
    change (getNum l a).1 ≤ _ at q2
    change a + ((0 : Nat) : Int) < (getNum l a).2.1 at q4
    change (getNum l a).2.1 ≤ _ at q5
    simp only [if_pos hok]
    rw [w64 (n := (l.length : Int) - (getNum l a).2.1) (by omega) (by omega), w64 (n := (getNum l a).2.1 + (getNum l a).1) (by omega) (by omega)]
    by_cases hbig : (getNum l a).1 > (l.length : Int) - (getNum l a).2.1
    · simp only [if_pos hbig]; exact evSome _
    · simp only [if_neg hbig, if_pos (show 0 ≤ (getNum l a).2.1 by omega), if_pos (show (getNum l a).2.1 ≤ (getNum l a).2.1 + (getNum l a).1 by omega), if_pos (show (getNum l a).2.1 + (getNum l a).1 ≤ (l.length : Int) by omega)]
      exact evSome _
  · simp only [if_neg hok]; exact evSome _
theorem impl_GetText_ev {l : List Int} (hb : Byte l) (hx : l.length ≤ 1099511627776) {a : Int} :
    Ev (fun k => impl_GetText.f k l a) (getText l a) := by
  simp only [impl_GetText.f]
  refine Ev.bind (impl_GetNum_ev hb hx) ?_
  unfold getText
  by_cases hok : (getNum l a).2.2 = true
  · obtain ⟨q1, q2, q3, q4, q5⟩ := gnum_bounds hb (a := a) 5 0 0 (by omega) (by omega) hok
    change 0 ≤ (getNum l a).1 at q1
    change (getNum l a).1 ≤ _ at q2
    change a + ((0 : Nat) : Int) < (getNum l a).2.1 at q4
    change (getNum l a).2.1 ≤ _ at q5
    simp only [if_pos hok]
    rw [w64 (n := (l.length : Int) - (getNum l a).2.1) (by omega) (by omega), w64 (n := (getNum l a).2.1 + (getNum l a).1) (by omega) (by omega)]
    by_cases hbig : (getNum l a).1 > (l.length : Int) - (getNum l a).2.1
    · simp only [if_pos hbig]; exact evSome _
    · simp only [if_neg hbig, if_pos (show 0 ≤ (getNum l a).2.1 by omega), if_pos (show (getNum l a).2.1 ≤ (getNum l a).2.1 + (getNum l a).1 by omega), if_pos (show (getNum l a).2.1 + (getNum l a).1 ≤ (l.length : Int) by omega)]
      exact evSome _
  · simp only [if_neg hok]; exact evSome _

theorem FnExactGetText : laws_FnExactGetText.Pure := by
  intro x a hx _ hw ha
  apply Ev.rounds
  simp only [laws_FnExactGetText.f]
  by_cases hb : (x.length : Int) > 1048576
  · simp only [if_pos hb]; exact evSome _
  simp only [if_neg hb]
  have hs : x.length ≤ 1099511627776 := by omega
  have hy := byte_of_wf hw
  have ha' := wf_i64 ha
  refine Ev.bind (toByteS_ev x hs) ?_
  refine Ev.bind (spec_GetText_ev hy hs ha'.1 ha'.2) ?_
  refine Ev.bind (toByteS_ev x hs) ?_
  refine Ev.bind (impl_GetText_ev hy hs) ?_
  simp only [if_true, bne_self_eq_false]
  have : Ev (fun k => (laws_toByteS.f k x).bind fun t122 => ((laws_eqByteS.f k x t122).bind fun t125 => (if t125 = true then (some true) else (some false)))) true := by
    refine Ev.bind (toByteS_ev x hs) ?_
    refine Ev.bind (eqByteS_ev x hs) ?_
    exact evSome _
  exact evStep this fun k => by simp only [laws_FnExactGetText.j0]; rw [if_neg (by simp)]

end Go.Proofs.Ytbchblgnpkddpaa.Pure
