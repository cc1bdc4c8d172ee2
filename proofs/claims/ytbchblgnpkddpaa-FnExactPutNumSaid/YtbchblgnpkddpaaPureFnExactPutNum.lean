/- The program's PutNum gives what the reference's gives, for every number. -/
import Derived.Test.YtbchblgnpkddpaaPFnExactPutNumx1
namespace Go.Proofs.Ytbchblgnpkddpaa.Pure
open Go.RowKit Go.Proofs.Ytbchblgnpkddpaa.PFnExactPutNum Go.Proofs.YtbchblgnpkddpaaW.PrintWords Go.Proofs.YtbchblgnpkddpaaW.PrintLast
set_option linter.unusedVariables false
set_option linter.unusedSimpArgs false

theorem w64 {n : Int} (h0 : -9223372036854775808 ≤ n) (h1 : n ≤ 9223372036854775807) : wrap64 n = n := by
  unfold wrap64; omega
theorem tmod_pos {a b : Int} (h : 0 ≤ a) : Int.tmod a b = a % b := Int.tmod_eq_emod_of_nonneg h
theorem tdiv_pos {a b : Int} (h : 0 ≤ a) : Int.tdiv a b = a / b := Int.tdiv_eq_ediv_of_nonneg h
theorem evSome {α : Type} (r : α) : Ev (fun _ => some r) r := Ev.now r
theorem evEq {α : Type} {g f : Nat → Option α} {r : α} (k : Ev f r) (h : ∀ k, g k = f k) : Ev g r := Ev.congr h k
theorem evStep {α : Type} {g f : Nat → Option α} {r : α} (k : Ev f r) (h : ∀ k, g (k + 1) = f k) : Ev g r := Ev.step h k
theorem evRet {α : Type} {g : Nat → Option α} {r : α} (h : ∀ k, g (k + 1) = some r) : Ev g r := Ev.step h (Ev.now r)
theorem rd_nat {l : List Int} {i : Nat} (h : i < l.length) : rd l (i : Int) = l[i] := by
  unfold rd; simp [List.getD_eq_getElem?_getD, h]
theorem wf_i64 {a : Int} (h : (Lit.int .i64 a).wf = true) : -9223372036854775808 ≤ a ∧ a ≤ 9223372036854775807 := by
  simp [Lit.wf, IntKind.min, IntKind.max, IntKind.bits, IntKind.signed] at h; omega
theorem wf_u8 {a : Int} (h : (Lit.int .u8 a).wf = true) : 0 ≤ a ∧ a < 256 := by
  simp [Lit.wf, IntKind.min, IntKind.max, IntKind.bits, IntKind.signed] at h; omega

theorem eqByteS_l (x : List Int) (hx : x.length ≤ 1099511627776) : ∀ (d i : Nat), i + d = x.length →
    Ev (fun k => laws_eqByteS.l0 k x x (i : Int)) true := by
  intro d
  induction d with
  | zero => 
    intro i h
    refine evRet fun k => ?_
    simp only [laws_eqByteS.l0]; rw [if_neg (by omega)]
  | succ d ih =>
    intro i h
    refine evStep (ih (i + 1) (by omega)) fun k => ?_
    simp only [laws_eqByteS.l0]
    rw [if_pos (by omega), if_pos (by omega), if_pos (by omega), if_pos trivial, w64 (by omega) (by omega)]
    rfl
theorem eqByteS_ev (x : List Int) (hx : x.length ≤ 1099511627776) : Ev (fun k => laws_eqByteS.f k x x) true := by
  refine evEq (eqByteS_l x hx x.length 0 (by omega)) fun k => ?_
  simp only [laws_eqByteS.f]
  rw [if_pos trivial]
  rfl

def putN (n : Nat) : List Int := if h : n < 128 then [(n : Int)] else ((n % 128 + 128 : Nat) : Int) :: putN (n / 128)
termination_by n
decreasing_by omega
def putNum (a : Int) : List Int := if 0 ≤ a ∧ a ≤ 2147483647 then putN a.toNat else []
theorem spec_PutNum_l0 : ∀ (n : Nat) (acc : List Int), acc.length + n < 140737488355328 → Ev (fun k => spec_PutNum.l0 k (n : Int) acc) (acc ++ putN n) := by
  intro n
  induction n using Nat.strongRecOn with
  | ind n ih =>
    intro acc h
    rw [putN]
    by_cases hn : n < 128
    · rw [dif_pos hn]
      refine evRet fun k => ?_
      simp only [spec_PutNum.l0]
      rw [if_neg (by omega), if_pos (by omega), show (n : Int) % 256 = n by omega]
    · rw [dif_neg hn]
      have h1 := ih (n / 128) (by omega) (acc ++ [((n % 128 + 128 : Nat) : Int)]) (by simp only [List.length_append, List.length_singleton]; omega)
      rw [List.append_assoc, List.singleton_append] at h1
      refine evStep h1 fun k => ?_
      simp only [spec_PutNum.l0]
      rw [if_pos (by omega), if_pos (by omega), tdiv_pos (by omega), tmod_pos (by omega), w64 (n := (n : Int) / 128) (by omega) (by omega), w64 (n := (n : Int) % 128 + 128) (by omega) (by omega),
        show ((n : Int) % 128 + 128) % 256 = ((n % 128 + 128 : Nat) : Int) by omega]
      rfl
theorem impl_PutNum_l0 : ∀ (n : Nat) (acc : List Int), acc.length + n < 140737488355328 → Ev (fun k => impl_PutNum.l0 k (n : Int) acc) (acc ++ putN n) := by
  intro n
  induction n using Nat.strongRecOn with
  | ind n ih =>
    intro acc h
    rw [putN]
    by_cases hn : n < 128
    · rw [dif_pos hn]
      refine evRet fun k => ?_
      simp only [impl_PutNum.l0]
      rw [if_neg (by omega), if_pos (by omega), show (n : Int) % 256 = n by omega]
    · rw [dif_neg hn]
      have h1 := ih (n / 128) (by omega) (acc ++ [((n % 128 + 128 : Nat) : Int)]) (by simp only [List.length_append, List.length_singleton]; omega)
      rw [List.append_assoc, List.singleton_append] at h1
      refine evStep h1 fun k => ?_
      simp only [impl_PutNum.l0]
      rw [if_pos (by omega), if_pos (by omega), tdiv_pos (by omega), tmod_pos (by omega), w64 (n := (n : Int) / 128) (by omega) (by omega), w64 (n := (n : Int) % 128 + 128) (by omega) (by omega),
        show ((n : Int) % 128 + 128) % 256 = ((n % 128 + 128 : Nat) : Int) by omega]
      rfl
theorem spec_PutNum_ev (a : Int) : Ev (fun k => spec_PutNum.f k a) (putNum a) := by
  unfold putNum
  simp only [spec_PutNum.f, spec_l1In.f, Option.bind_some]
  by_cases h : 0 ≤ a ∧ a ≤ 2147483647
  · have := spec_PutNum_l0 a.toNat [] (by simp only [List.length_nil]; omega)
    simp only [Int.toNat_of_nonneg h.1, List.nil_append] at this
    rw [if_pos h]
    simp only [if_pos (show a ≥ 0 from h.1), decide_eq_true h.2, Option.bind_some, if_true]
    exact this
  · rw [if_neg h]
    by_cases h0 : a ≥ 0
    · simp only [if_pos h0, decide_eq_false (show ¬ a ≤ 2147483647 from fun h1 => h ⟨h0, h1⟩), Option.bind_some]; exact evSome _
    · simp only [if_neg h0, Option.bind_some]; exact evSome _
theorem impl_PutNum_ev (a : Int) : Ev (fun k => impl_PutNum.f k a) (putNum a) := by
  unfold putNum
  simp only [impl_PutNum.f, impl_within.f, Option.bind_some]
  by_cases h : 0 ≤ a ∧ a ≤ 2147483647
  · have := impl_PutNum_l0 a.toNat [] (by simp only [List.length_nil]; omega)
    simp only [Int.toNat_of_nonneg h.1, List.nil_append] at this
    rw [if_pos h]
    simp only [if_pos (show a ≥ 0 from h.1), decide_eq_true h.2, Option.bind_some, if_true]
    exact this
  · rw [if_neg h]
    by_cases h0 : a ≥ 0
    · simp only [if_pos h0, decide_eq_false (show ¬ a ≤ 2147483647 from fun h1 => h ⟨h0, h1⟩), Option.bind_some]; exact evSome _
    · simp only [if_neg h0, Option.bind_some]; exact evSome _
theorem putN_len : ∀ (n : Nat), (putN n).length ≤ n + 1 := by
  intro n
  induction n using Nat.strongRecOn with
  | ind n ih =>
    rw [putN]
    by_cases hn : n < 128
    · rw [dif_pos hn]; simp
    · rw [dif_neg hn]; have := ih (n / 128) (by omega); simp only [List.length_cons]; omega
theorem putNum_len (a : Int) : (putNum a).length ≤ 2147483648 := by
  unfold putNum
  split
  · have := putN_len a.toNat; omega
  · simp

def markL (n : Nat) (m : Int) : List Int := (List.range n).map fun (j : Nat) => (m + (j : Int)) % 256
theorem markL_get {n : Nat} {m : Int} {i : Nat} (h : i < (markL n m).length) : (markL n m)[i] = (m + (i : Int)) % 256 := by
  simp only [markL, List.getElem_map, List.getElem_range]
theorem markL_len (n : Nat) (m : Int) : (markL n m).length = n := by unfold markL; simp
theorem markByteS_l (m : Int) (hm0 : 0 ≤ m) (hm1 : m ≤ 1099511627776) : ∀ (d i : Nat) (x : List Int), x.length ≤ 1099511627776 → i + d = x.length → (∀ j (h : j < x.length), j < i → x[j] = (m + (j : Int)) % 256) →
    Ev (fun k => laws_markByteS.l0 k x (m + (i : Int)) (i : Int)) (m + (x.length : Int), markL x.length m) := by
  intro d
  induction d with
  | zero =>
    intro i x hx h hj
    have e : markL x.length m = x := by
      apply List.ext_getElem (markL_len _ _)
      intro j h1 h2
      rw [markL_get, hj j h2 (by omega)]
    rw [e]
    refine evRet fun k => ?_
    simp only [laws_markByteS.l0]; rw [if_neg (by omega), show (i : Int) = x.length by omega]
  | succ d ih =>
    intro i x hx h hj
    have hi : i < x.length := by omega
    have h1 := ih (i + 1) (x.set i ((m + (i : Int)) % 256)) (by simpa using hx) (by simp; omega) (by
      intro j h1 h2
      simp only [List.length_set] at h1
      rw [List.getElem_set]
      split
      · rename_i e; rw [e]
      · exact hj j h1 (by omega))
    rw [List.length_set] at h1
    refine evStep h1 fun k => ?_
    simp only [laws_markByteS.l0]
    rw [if_pos (by omega), if_pos (by omega), w64 (n := m + (i : Int) + 1) (by omega) (by omega), w64 (n := (i : Int) + 1) (by omega) (by omega), show m + (i : Int) + 1 = m + ((i + 1 : Nat) : Int) by omega]
    rfl
theorem markByteS_ev (x : List Int) (hx : x.length ≤ 1099511627776) (m : Int) (hm0 : 0 ≤ m) (hm1 : m ≤ 1099511627776) : Ev (fun k => laws_markByteS.f k x m) (m + (x.length : Int), markL x.length m) := by
  have := markByteS_l m hm0 hm1 x.length 0 x hx (by omega) (fun j _ h => absurd h (by omega))
  exact evEq this fun k => by simp only [laws_markByteS.f]; simp
theorem heldByteS_l (m : Int) (hm0 : 0 ≤ m) (hm1 : m ≤ 1099511627776) (n : Nat) (hn : n ≤ 1099511627776) : ∀ (d i : Nat), i + d = n →
    Ev (fun k => laws_heldByteS.l0 k (markL n m) (m + (i : Int)) (i : Int)) (m + (n : Int)) := by
  intro d
  induction d with
  | zero =>
    intro i h
    refine evRet fun k => ?_
    simp only [laws_heldByteS.l0]; rw [if_neg (by rw [markL_len]; omega), show (i : Int) = n by omega]
  | succ d ih =>
    intro i h
    have hi : i < (markL n m).length := by rw [markL_len]; omega
    refine evStep (ih (i + 1) (by omega)) fun k => ?_
    simp only [laws_heldByteS.l0]
    rw [if_pos (by omega), if_pos (by omega), if_pos (by rw [rd_nat hi, markL_get]), w64 (n := m + (i : Int) + 1) (by omega) (by omega), w64 (n := (i : Int) + 1) (by omega) (by omega), show m + (i : Int) + 1 = m + ((i + 1 : Nat) : Int) by omega]
    rfl
theorem heldByteS_ev (n : Nat) (hn : n ≤ 1099511627776) (m : Int) (hm0 : 0 ≤ m) (hm1 : m ≤ 1099511627776) : Ev (fun k => laws_heldByteS.f k (markL n m) m) (m + (n : Int)) := by
  have := heldByteS_l m hm0 hm1 n hn n 0 (by omega)
  exact evEq this fun k => by simp only [laws_heldByteS.f]; simp

theorem FnExactPutNum : laws_FnExactPutNum.Pure := by
  intro a ha
  apply Ev.rounds
  simp only [laws_FnExactPutNum.f]
  have hl := putNum_len a
  have hs : (putNum a).length ≤ 1099511627776 := by omega
  refine Ev.bind (spec_PutNum_ev a) ?_
  refine Ev.bind (impl_PutNum_ev a) ?_
  refine Ev.bind (eqByteS_ev _ hs) ?_
  simp only [if_true]
  refine Ev.bind (markByteS_ev _ hs 1 (by omega) (by omega)) ?_
  refine Ev.bind (heldByteS_ev _ hs 1 (by omega) (by omega)) ?_
  simp only [if_true]
  simp only [if_neg (show ¬ (1 + ((putNum a).length : Int) < 0) by omega)]
  refine Ev.bind (impl_PutNum_ev a) ?_
  refine Ev.bind (eqByteS_ev _ hs) ?_
  simp only [if_true]
  refine Ev.bind (heldByteS_ev _ hs 1 (by omega) (by omega)) ?_
  simp only [if_true]
  simp only [if_neg (show ¬ (1 + ((putNum a).length : Int) < 0) by omega)]
  exact evSome _

end Go.Proofs.Ytbchblgnpkddpaa.Pure
