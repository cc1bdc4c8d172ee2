/- The program's LeafOf gives what the reference's gives, for every number. -/
import Derived.Test.YtbchblgnpkddpaaPFnExactLeafOfx1
namespace Go.Proofs.Ytbchblgnpkddpaa.Pure
open Go.RowKit Go.Proofs.Ytbchblgnpkddpaa.PFnExactLeafOf Go.Proofs.YtbchblgnpkddpaaW.PrintWords Go.Proofs.YtbchblgnpkddpaaW.PrintLast
set_option linter.unusedVariables false
set_option linter.unusedSimpArgs false

theorem w64 {n : Int} (h0 : -9223372036854775808 ≤ n) (h1 : n ≤ 9223372036854775807) : wrap64 n = n := by
  unfold wrap64; omega
theorem tmod_pos {a b : Int} (h : 0 ≤ a) : Int.tmod a b = a % b := Int.tmod_eq_emod_of_nonneg h
theorem tdiv_pos {a b : Int} (h : 0 ≤ a) : Int.tdiv a b = a / b := Int.tdiv_eq_ediv_of_nonneg h
theorem evSome {α : Type} (r : α) : Ev (fun _ => some r) r := Ev.now r
theorem evEq {α : Type} {g f : Nat → Option α} {r : α} (k : Ev f r) (h : ∀ k, g k = f k) : Ev g r := Ev.congr h k
theorem evStep {α : Type} {g f : Nat → Option α} {r : α} (k : Ev f r) (h : ∀ k, g (k + 1) = f k) : Ev g r := Ev.step h k
theorem evRet {α : Type} {g : Nat → Option α} {r : α} (h : ∀ k, g (k + 1) = some r) : Ev g r := Ev.step h (Ev.now r)
theorem rd_nat {l : List Int} {i : Nat} (h : i < l.length) : rd l (i : Int) = l[i] := by
  unfold rd; simp [List.getD_eq_getElem?_getD, h]
theorem wf_i64 {a : Int} (h : (Lit.int .i64 a).wf = true) : -9223372036854775808 ≤ a ∧ a ≤ 9223372036854775807 := by
  simp [Lit.wf, IntKind.min, IntKind.max, IntKind.bits, IntKind.signed] at h; omega
theorem wf_u8 {a : Int} (h : (Lit.int .u8 a).wf = true) : 0 ≤ a ∧ a < 256 := by
  simp [Lit.wf, IntKind.min, IntKind.max, IntKind.bits, IntKind.signed] at h; omega

def crcBit (x : Int) : Int := if Int.tmod x 2 = 1 then Go.bits .xor .i64 (wrap64 (Int.tdiv x 2)) 3988292384 else wrap64 (Int.tdiv x 2)
def crcBits : Nat → Int → Int
  | 0, x => x
  | n + 1, x => crcBits n (crcBit x)
def crcStep (x b : Int) : Int := crcBits 8 (Go.bits .xor .i64 x (wrap64 b))
def crc (l : List Int) : Int := Go.bits .xor .i64 (l.foldl crcStep 4294967295) 4294967295
theorem spec_Crc_l1 (x : List Int) (j r : Int) : ∀ (d i : Nat) (s : Int), i + d = 8 → Ev (fun k => spec_Crc.l0 k x (crcBits d s) (wrap64 (j + 1))) r →
    Ev (fun k => spec_Crc.l1 k x s j (i : Int)) r := by
  intro d
  induction d with
  | zero => intro i s h hr; exact evStep hr fun k => by simp only [spec_Crc.l1]; rw [if_neg (by omega)]; rfl
  | succ d ih =>
    intro i s h hr
    refine evStep (ih (i + 1) (crcBit s) (by omega) hr) fun k => ?_
    simp only [spec_Crc.l1]
    rw [if_pos (by omega), w64 (n := (i : Int) + 1) (by omega) (by omega)]
    unfold crcBit
    split <;> rfl
theorem spec_Crc_l0 (x : List Int) (hx : x.length ≤ 1099511627776) : ∀ (d i : Nat) (s : Int), i + d = x.length → 
    Ev (fun k => spec_Crc.l0 k x s (i : Int)) (Go.bits .xor .i64 ((x.drop i).foldl crcStep s) 4294967295) := by
  intro d
  induction d with
  | zero => 
    intro i s h
    rw [List.drop_eq_nil_of_le (by omega)]
    exact evRet fun k => by simp only [spec_Crc.l0]; rw [if_neg (by omega)]; rfl
  | succ d ih =>
    intro i s h
    have hi : i < x.length := by omega
    have h1 := ih (i + 1) (crcStep s x[i]) (by omega)
    rw [List.drop_eq_getElem_cons hi, List.foldl_cons]
    have h2 := spec_Crc_l1 x (i : Int) _ 8 0 (Go.bits .xor .i64 s (wrap64 x[i])) (by omega) (by rw [w64 (n := (i : Int) + 1) (by omega) (by omega)]; exact h1)
    refine evStep h2 fun k => ?_
    simp only [spec_Crc.l0]
    rw [if_pos (by omega), if_pos (by omega), rd_nat hi]
    rfl
theorem spec_Crc_ev (x : List Int) (hx : x.length ≤ 1099511627776) : Ev (fun k => spec_Crc.f k x) (crc x) := by
  have := spec_Crc_l0 x hx x.length 0 4294967295 (by omega)
  rw [List.drop_zero] at this
  exact evEq this fun k => rfl
theorem impl_Crc_l1 (x : List Int) (n j r : Int) : ∀ (d i : Nat) (s : Int), i + d = 8 → Ev (fun k => impl_Crc.l0 k (crcBits d s) x n (wrap64 (j + 1))) r →
    Ev (fun k => impl_Crc.l1 k s x n j (i : Int)) r := by
  intro d
  induction d with
  | zero => intro i s h hr; exact evStep hr fun k => by simp only [impl_Crc.l1]; rw [if_neg (by omega)]; rfl
  | succ d ih =>
    intro i s h hr
    refine evStep (ih (i + 1) (crcBit s) (by omega) hr) fun k => ?_
    simp only [impl_Crc.l1]
    rw [if_pos (by omega), w64 (n := (i : Int) + 1) (by omega) (by omega)]
    unfold crcBit
    split <;> rfl
theorem impl_Crc_l0 (x : List Int) (hx : x.length ≤ 1099511627776) : ∀ (d i : Nat) (s : Int), i + d = x.length → 
    Ev (fun k => impl_Crc.l0 k s x (x.length : Int) (i : Int)) (Go.bits .xor .i64 ((x.drop i).foldl crcStep s) 4294967295) := by
  intro d
  induction d with
  | zero => 
    intro i s h
    rw [List.drop_eq_nil_of_le (by omega)]
    exact evRet fun k => by simp only [impl_Crc.l0]; rw [if_neg (by omega)]; rfl
  | succ d ih =>
    intro i s h
    have hi : i < x.length := by omega
    have h1 := ih (i + 1) (crcStep s x[i]) (by omega)
    rw [List.drop_eq_getElem_cons hi, List.foldl_cons]
    have h2 := impl_Crc_l1 x (x.length : Int) (i : Int) _ 8 0 (Go.bits .xor .i64 s (wrap64 x[i])) (by omega) (by rw [w64 (n := (i : Int) + 1) (by omega) (by omega)]; exact h1)
    refine evStep h2 fun k => ?_
    simp only [impl_Crc.l0]
    rw [if_pos (by omega), if_pos (by omega), if_pos (by omega), rd_nat hi]
    rfl
theorem impl_Crc_ev (x : List Int) (hx : x.length ≤ 1099511627776) : Ev (fun k => impl_Crc.f k x) (crc x) := by
  have := impl_Crc_l0 x hx x.length 0 4294967295 (by omega)
  rw [List.drop_zero] at this
  exact evEq this fun k => rfl

def putN (n : Nat) : List Int := if h : n < 128 then [(n : Int)] else ((n % 128 + 128 : Nat) : Int) :: putN (n / 128)
termination_by n
decreasing_by omega
def putNum (a : Int) : List Int := if 0 ≤ a ∧ a ≤ 2147483647 then putN a.toNat else []
theorem spec_PutNum_l0 : ∀ (n : Nat) (acc : List Int), acc.length + n < 140737488355328 → Ev (fun k => spec_PutNum.l0 k (n : Int) acc) (acc ++ putN n) := by
  intro n
  induction n using Nat.strongRecOn with
  | ind n ih =>
    intro acc h
    rw [putN]
    by_cases hn : n < 128
    · rw [dif_pos hn]
      refine evRet fun k => ?_
      simp only [spec_PutNum.l0]
      rw [if_neg (by omega), if_pos (by omega), show (n : Int) % 256 = n by omega]
    · rw [dif_neg hn]
      have h1 := ih (n / 128) (by omega) (acc ++ [((n % 128 + 128 : Nat) : Int)]) (by simp only [List.length_append, List.length_singleton]; omega)
      rw [List.append_assoc, List.singleton_append] at h1
      refine evStep h1 fun k => ?_
      simp only [spec_PutNum.l0]
      rw [if_pos (by omega), if_pos (by omega), tdiv_pos (by omega), tmod_pos (by omega), w64 (n := (n : Int) / 128) (by omega) (by omega), w64 (n := (n : Int) % 128 + 128) (by omega) (by omega),
        show ((n : Int) % 128 + 128) % 256 = ((n % 128 + 128 : Nat) : Int) by omega]
      rfl
theorem impl_PutNum_l0 : ∀ (n : Nat) (acc : List Int), acc.length + n < 140737488355328 → Ev (fun k => impl_PutNum.l0 k (n : Int) acc) (acc ++ putN n) := by
  intro n
  induction n using Nat.strongRecOn with
  | ind n ih =>
    intro acc h
    rw [putN]
    by_cases hn : n < 128
    · rw [dif_pos hn]
      refine evRet fun k => ?_
      simp only [impl_PutNum.l0]
      rw [if_neg (by omega), if_pos (by omega), show (n : Int) % 256 = n by omega]
    · rw [dif_neg hn]
      have h1 := ih (n / 128) (by omega) (acc ++ [((n % 128 + 128 : Nat) : Int)]) (by simp only [List.length_append, List.length_singleton]; omega)
      rw [List.append_assoc, List.singleton_append] at h1
      refine evStep h1 fun k => ?_
      simp only [impl_PutNum.l0]
      rw [if_pos (by omega), if_pos (by omega), tdiv_pos (by omega), tmod_pos (by omega), w64 (n := (n : Int) / 128) (by omega) (by omega), w64 (n := (n : Int) % 128 + 128) (by omega) (by omega),
        show ((n : Int) % 128 + 128) % 256 = ((n % 128 + 128 : Nat) : Int) by omega]
      rfl
theorem spec_PutNum_ev (a : Int) : Ev (fun k => spec_PutNum.f k a) (putNum a) := by
  unfold putNum
  simp only [spec_PutNum.f, spec_l1In.f, Option.bind_some]
  by_cases h : 0 ≤ a ∧ a ≤ 2147483647
  · have := spec_PutNum_l0 a.toNat [] (by simp only [List.length_nil]; omega)
    simp only [Int.toNat_of_nonneg h.1, List.nil_append] at this
    rw [if_pos h]
    simp only [if_pos (show a ≥ 0 from h.1), decide_eq_true h.2, Option.bind_some, if_true]
    exact this
  · rw [if_neg h]
    by_cases h0 : a ≥ 0
    · simp only [if_pos h0, decide_eq_false (show ¬ a ≤ 2147483647 from fun h1 => h ⟨h0, h1⟩), Option.bind_some]; exact evSome _
    · simp only [if_neg h0, Option.bind_some]; exact evSome _
theorem impl_PutNum_ev (a : Int) : Ev (fun k => impl_PutNum.f k a) (putNum a) := by
  unfold putNum
  simp only [impl_PutNum.f, impl_within.f, Option.bind_some]
  by_cases h : 0 ≤ a ∧ a ≤ 2147483647
  · have := impl_PutNum_l0 a.toNat [] (by simp only [List.length_nil]; omega)
    simp only [Int.toNat_of_nonneg h.1, List.nil_append] at this
    rw [if_pos h]
    simp only [if_pos (show a ≥ 0 from h.1), decide_eq_true h.2, Option.bind_some, if_true]
    exact this
  · rw [if_neg h]
    by_cases h0 : a ≥ 0
    · simp only [if_pos h0, decide_eq_false (show ¬ a ≤ 2147483647 from fun h1 => h ⟨h0, h1⟩), Option.bind_some]; exact evSome _
    · simp only [if_neg h0, Option.bind_some]; exact evSome _
theorem putN_len : ∀ (n : Nat), (putN n).length ≤ n + 1 := by
  intro n
  induction n using Nat.strongRecOn with
  | ind n ih =>
    rw [putN]
    by_cases hn : n < 128
    · rw [dif_pos hn]; simp
    · rw [dif_neg hn]; have := ih (n / 128) (by omega); simp only [List.length_cons]; omega
theorem putNum_len (a : Int) : (putNum a).length ≤ 2147483648 := by
  unfold putNum
  split
  · have := putN_len a.toNat; omega
  · simp

def node (a : Int) : Bool := decide (0 ≤ a ∧ a ≤ 4)
def leafOf (a : Int) : Int := if node a = true then Int.tmod (crc (putNum a)) 4 else -1
theorem spec_l3Node_eq (a : Int) : spec_l3Node.f a = some (node a) := by
  simp only [spec_l3Node.f, spec_l1In.f, node]
  by_cases h : a ≥ 0
  · rw [if_pos h]; simp [show 0 ≤ a from h]
  · rw [if_neg h]; simp [show ¬ 0 ≤ a from h]
theorem impl_isNode_eq (a : Int) : impl_isNode.f a = some (node a) := by
  simp only [impl_isNode.f, impl_within.f, node]
  by_cases h : a ≥ 0
  · rw [if_pos h]; simp [show 0 ≤ a from h]
  · rw [if_neg h]; simp [show ¬ 0 ≤ a from h]
theorem spec_LeafOf_ev (a : Int) : Ev (fun k => spec_LeafOf.f k a) (leafOf a) := by
  have hl := putNum_len a
  unfold leafOf
  simp only [spec_LeafOf.f, spec_l3Node_eq, Option.bind_some]
  by_cases h : node a = true
  · simp only [h, if_true]
    refine Ev.bind (spec_PutNum_ev a) ?_
    refine Ev.bind (spec_Crc_ev _ (by omega)) ?_
    exact evSome _
  · simp only [h]; exact evSome _
theorem impl_LeafOf_ev (a : Int) : Ev (fun k => impl_LeafOf.f k a) (leafOf a) := by
  have hl := putNum_len a
  unfold leafOf
  simp only [impl_LeafOf.f, impl_isNode_eq, Option.bind_some]
  by_cases h : node a = true
  · simp only [h, if_true]
    refine Ev.bind (impl_PutNum_ev a) ?_
    refine Ev.bind (impl_Crc_ev _ (by omega)) ?_
    exact evSome _
  · simp only [h]; exact evSome _
theorem FnExactLeafOf : laws_FnExactLeafOf.Pure := by
  intro a ha
  apply Ev.rounds
  simp only [laws_FnExactLeafOf.f]
  refine Ev.bind (spec_LeafOf_ev a) ?_
  refine Ev.bind (impl_LeafOf_ev a) ?_
  simp only [if_true]
  exact evSome _

end Go.Proofs.Ytbchblgnpkddpaa.Pure
