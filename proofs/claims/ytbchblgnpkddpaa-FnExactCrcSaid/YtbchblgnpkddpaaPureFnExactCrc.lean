/- The program's Crc gives what the reference's gives, for every slice of bytes. -/
import Derived.Test.YtbchblgnpkddpaaPFnExactCrcx1
namespace Go.Proofs.Ytbchblgnpkddpaa.Pure
open Go.RowKit Go.Proofs.Ytbchblgnpkddpaa.PFnExactCrc Go.Proofs.YtbchblgnpkddpaaW.PrintWords Go.Proofs.YtbchblgnpkddpaaW.PrintLast
set_option linter.unusedVariables false
set_option linter.unusedSimpArgs false

theorem w64 {n : Int} (h0 : -9223372036854775808 ≤ n) (h1 : n ≤ 9223372036854775807) : wrap64 n = n := by
  unfold wrap64; omega
theorem tmod_pos {a b : Int} (h : 0 ≤ a) : Int.tmod a b = a % b := Int.tmod_eq_emod_of_nonneg h
theorem tdiv_pos {a b : Int} (h : 0 ≤ a) : Int.tdiv a b = a / b := Int.tdiv_eq_ediv_of_nonneg h
theorem evSome {α : Type} (r : α) : Ev (fun _ => some r) r := Ev.now r
theorem evEq {α : Type} {g f : Nat → Option α} {r : α} (k : Ev f r) (h : ∀ k, g k = f k) : Ev g r := Ev.congr h k
theorem evStep {α : Type} {g f : Nat → Option α} {r : α} (k : Ev f r) (h : ∀ k, g (k + 1) = f k) : Ev g r := Ev.step h k
theorem evRet {α : Type} {g : Nat → Option α} {r : α} (h : ∀ k, g (k + 1) = some r) : Ev g r := Ev.step h (Ev.now r)
theorem rd_nat {l : List Int} {i : Nat} (h : i < l.length) : rd l (i : Int) = l[i] := by
  unfold rd; simp [List.getD_eq_getElem?_getD, h]

theorem toByteS_l (x : List Int) (hx : x.length ≤ 1099511627776) : ∀ (d i : Nat) (y : List Int), i + d = x.length → y.length = x.length →
    Ev (fun k => laws_toByteS.l0 k x y (i : Int)) (y.take i ++ x.drop i) := by
  intro d
  induction d with
  | zero =>
    intro i y h hy
    have e : y.take i ++ x.drop i = y := by
      rw [List.drop_eq_nil_of_le (by omega), List.take_of_length_le (by omega), List.append_nil]
    rw [e]
    refine evRet fun k => ?_
    simp only [laws_toByteS.l0]; rw [if_neg (by omega)]
  | succ d ih =>
    intro i y h hy
    have hi : i < x.length := by omega
    have := ih (i + 1) (y.set i x[i]) (by omega) (by simpa using hy)
    have e : (y.set i x[i]).take (i + 1) ++ x.drop (i + 1) = y.take i ++ x.drop i := by
      rw [List.drop_eq_getElem_cons hi, List.take_succ_eq_append_getElem (by simp; omega), List.take_set_of_le (Nat.le_refl i)]
      simp
    rw [e] at this
    refine evStep this fun k => ?_
    simp only [laws_toByteS.l0]
    rw [if_pos (by omega), if_pos (by omega), if_pos (by omega), rd_nat hi, w64 (by omega) (by omega)]
    rfl
theorem toByteS_ev (x : List Int) (hx : x.length ≤ 1099511627776) : Ev (fun k => laws_toByteS.f k x) x := by
  have := toByteS_l x hx x.length 0 (List.replicate x.length 0) (by omega) (by simp)
  simp only [List.take_zero, List.drop_zero, List.nil_append] at this
  refine evEq this fun k => ?_
  simp only [laws_toByteS.f]
  rw [if_pos (by omega), if_pos (by omega)]
  rfl
theorem eqByteS_l (x : List Int) (hx : x.length ≤ 1099511627776) : ∀ (d i : Nat), i + d = x.length →
    Ev (fun k => laws_eqByteS.l0 k x x (i : Int)) true := by
  intro d
  induction d with
  | zero => 
    intro i h
    refine evRet fun k => ?_
    simp only [laws_eqByteS.l0]; rw [if_neg (by omega)]
  | succ d ih =>
    intro i h
    refine evStep (ih (i + 1) (by omega)) fun k => ?_
    simp only [laws_eqByteS.l0]
    rw [if_pos (by omega), if_pos (by omega), if_pos (by omega), if_pos trivial, w64 (by omega) (by omega)]
    rfl
theorem eqByteS_ev (x : List Int) (hx : x.length ≤ 1099511627776) : Ev (fun k => laws_eqByteS.f k x x) true := by
  refine evEq (eqByteS_l x hx x.length 0 (by omega)) fun k => ?_
  simp only [laws_eqByteS.f]
  rw [if_pos trivial]
  rfl

def crcBit (x : Int) : Int := if Int.tmod x 2 = 1 then Go.bits .xor .i64 (wrap64 (Int.tdiv x 2)) 3988292384 else wrap64 (Int.tdiv x 2)
def crcBits : Nat → Int → Int
  | 0, x => x
  | n + 1, x => crcBits n (crcBit x)
def crcStep (x b : Int) : Int := crcBits 8 (Go.bits .xor .i64 x (wrap64 b))
def crc (l : List Int) : Int := Go.bits .xor .i64 (l.foldl crcStep 4294967295) 4294967295
theorem spec_Crc_l1 (x : List Int) (j r : Int) : ∀ (d i : Nat) (s : Int), i + d = 8 → Ev (fun k => spec_Crc.l0 k x (crcBits d s) (wrap64 (j + 1))) r →
    Ev (fun k => spec_Crc.l1 k x s j (i : Int)) r := by
  intro d
  induction d with
  | zero => intro i s h hr; exact evStep hr fun k => by simp only [spec_Crc.l1]; rw [if_neg (by omega)]; rfl
  | succ d ih =>
    intro i s h hr
    refine evStep (ih (i + 1) (crcBit s) (by omega) hr) fun k => ?_
    simp only [spec_Crc.l1]
    rw [if_pos (by omega), w64 (n := (i : Int) + 1) (by omega) (by omega)]
    unfold crcBit
    split <;> rfl
theorem spec_Crc_l0 (x : List Int) (hx : x.length ≤ 1099511627776) : ∀ (d i : Nat) (s : Int), i + d = x.length → 
    Ev (fun k => spec_Crc.l0 k x s (i : Int)) (Go.bits .xor .i64 ((x.drop i).foldl crcStep s) 4294967295) := by
  intro d
  induction d with
  | zero => 
    intro i s h
    rw [List.drop_eq_nil_of_le (by omega)]
    exact evRet fun k => by simp only [spec_Crc.l0]; rw [if_neg (by omega)]; rfl
  | succ d ih =>
    intro i s h
    have hi : i < x.length := by omega
    have h1 := ih (i + 1) (crcStep s x[i]) (by omega)
    rw [List.drop_eq_getElem_cons hi, List.foldl_cons]
    have h2 := spec_Crc_l1 x (i : Int) _ 8 0 (Go.bits .xor .i64 s (wrap64 x[i])) (by omega) (by rw [w64 (n := (i : Int) + 1) (by omega) (by omega)]; exact h1)
    refine evStep h2 fun k => ?_
    simp only [spec_Crc.l0]
    rw [if_pos (by omega), if_pos (by omega), rd_nat hi]
    rfl
theorem spec_Crc_ev (x : List Int) (hx : x.length ≤ 1099511627776) : Ev (fun k => spec_Crc.f k x) (crc x) := by
  have := spec_Crc_l0 x hx x.length 0 4294967295 (by omega)
  rw [List.drop_zero] at this
  exact evEq this fun k => rfl
theorem impl_Crc_l1 (x : List Int) (n j r : Int) : ∀ (d i : Nat) (s : Int), i + d = 8 → Ev (fun k => impl_Crc.l0 k (crcBits d s) x n (wrap64 (j + 1))) r →
    Ev (fun k => impl_Crc.l1 k s x n j (i : Int)) r := by
  intro d
  induction d with
  | zero => intro i s h hr; exact evStep hr fun k => by simp only [impl_Crc.l1]; rw [if_neg (by omega)]; rfl
  | succ d ih =>
    intro i s h hr
    refine evStep (ih (i + 1) (crcBit s) (by omega) hr) fun k => ?_
    simp only [impl_Crc.l1]
    rw [if_pos (by omega), w64 (n := (i : Int) + 1) (by omega) (by omega)]
    unfold crcBit
    split <;> rfl
theorem impl_Crc_l0 (x : List Int) (hx : x.length ≤ 1099511627776) : ∀ (d i : Nat) (s : Int), i + d = x.length → 
    Ev (fun k => impl_Crc.l0 k s x (x.length : Int) (i : Int)) (Go.bits .xor .i64 ((x.drop i).foldl crcStep s) 4294967295) := by
  intro d
  induction d with
  | zero => 
    intro i s h
    rw [List.drop_eq_nil_of_le (by omega)]
    exact evRet fun k => by simp only [impl_Crc.l0]; rw [if_neg (by omega)]; rfl
  | succ d ih =>
    intro i s h
    have hi : i < x.length := by omega
    have h1 := ih (i + 1) (crcStep s x[i]) (by omega)
    rw [List.drop_eq_getElem_cons hi, List.foldl_cons]
    have h2 := impl_Crc_l1 x (x.length : Int) (i : Int) _ 8 0 (Go.bits .xor .i64 s (wrap64 x[i])) (by omega) (by rw [w64 (n := (i : Int) + 1) (by omega) (by omega)]; exact h1)
    refine evStep h2 fun k => ?_
    simp only [impl_Crc.l0]
    rw [if_pos (by omega), if_pos (by omega), if_pos (by omega), rd_nat hi]
    rfl
theorem impl_Crc_ev (x : List Int) (hx : x.length ≤ 1099511627776) : Ev (fun k => impl_Crc.f k x) (crc x) := by
  have := impl_Crc_l0 x hx x.length 0 4294967295 (by omega)
  rw [List.drop_zero] at this
  exact evEq this fun k => rfl

theorem FnExactCrc : laws_FnExactCrc.Pure := by
  intro x hx _ _
  apply Ev.rounds
  simp only [laws_FnExactCrc.f]
  by_cases hb : (x.length : Int) > 1048576
  · simp only [if_pos hb]; exact evSome _
  simp only [if_neg hb]
  have hs : x.length ≤ 1099511627776 := by omega
  refine Ev.bind (toByteS_ev x hs) ?_
  refine Ev.bind (spec_Crc_ev x hs) ?_
  refine Ev.bind (toByteS_ev x hs) ?_
  refine Ev.bind (impl_Crc_ev x hs) ?_
  simp only [if_true]
  refine Ev.bind (toByteS_ev x hs) ?_
  refine Ev.bind (eqByteS_ev x hs) ?_
  exact evSome _

end Go.Proofs.Ytbchblgnpkddpaa.Pure
