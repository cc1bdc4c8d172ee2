/- The plain law of FnExactPutText. -/
import Derived.Test.YtgjglbjdkikajaaPlFnExactPutText
namespace Go.Proofs.Ytgjglbjdkikajaa.Pure
open Go.RowKit Go.Proofs.Ytgjglbjdkikajaa.P Go.Proofs.YtgjglbjdkikajaaW.PrintWords Go.Proofs.YtgjglbjdkikajaaW.PrintLast
set_option linter.unusedVariables false
set_option linter.unusedSimpArgs false
theorem w64 {n : Int} (h0 : -9223372036854775808 ≤ n) (h1 : n ≤ 9223372036854775807) : wrap64 n = n := by
 unfold wrap64; omega
theorem tmod_pos {a b : Int} (h : 0 ≤ a) : Int.tmod a b = a % b := Int.tmod_eq_emod_of_nonneg h
theorem tdiv_pos {a b : Int} (h : 0 ≤ a) : Int.tdiv a b = a / b := Int.tdiv_eq_ediv_of_nonneg h
theorem evSome {α : Type} (r : α) : Ev (fun _ => some r) r := Ev.now r
theorem evEq {α : Type} {g f : Nat → Option α} {r : α} (k : Ev f r) (h : ∀ k, g k = f k) : Ev g r := Ev.congr h k
theorem evStep {α : Type} {g f : Nat → Option α} {r : α} (k : Ev f r) (h : ∀ k, g (k + 1) = f k) : Ev g r := Ev.step h k
theorem evRet {α : Type} {g : Nat → Option α} {r : α} (h : ∀ k, g (k + 1) = some r) : Ev g r := Ev.step h (Ev.now r)
theorem rd_nat {l : List Int} {i : Nat} (h : i < l.length) : rd l (i : Int) = l[i] := by
 unfold rd; simp [List.getD_eq_getElem?_getD, h]
theorem evSucc {α : Type} {g : Nat → Option α} {r : α} (h : Ev (fun k => g (k + 1)) r) : Ev g r := Ev.step (f := fun k => g (k + 1)) (fun _ => rfl) h
theorem eqByteS_l (x : List Int) (hx : x.length ≤ 1099511627776) : ∀ (d i : Nat), i + d = x.length →
  Ev (fun k => laws_eqByteS.l0 k x x (i : Int)) true := by
 intro d
 induction d with
 | zero => 
  intro i h
  refine evRet fun k => ?_
  simp only [laws_eqByteS.l0]; rw [if_neg (by omega)]
 | succ d ih =>
  intro i h
  refine evStep (ih (i + 1) (by omega)) fun k => ?_
  simp only [laws_eqByteS.l0]
  rw [if_pos (by omega), if_pos (by omega), if_pos (by omega), if_pos trivial, w64 (by omega) (by omega)]
  rfl
theorem eqByteS_ev (x : List Int) (hx : x.length ≤ 1099511627776) : Ev (fun k => laws_eqByteS.f k x x) true := by
 refine evEq (eqByteS_l x hx x.length 0 (by omega)) fun k => ?_
 simp only [laws_eqByteS.f]
 rw [if_pos trivial]
 rfl
def markL (n : Nat) (m : Int) : List Int := (List.range n).map fun (j : Nat) => (m + (j : Int)) % 256
theorem markL_get {n : Nat} {m : Int} {i : Nat} (h : i < (markL n m).length) : (markL n m)[i] = (m + (i : Int)) % 256 := by
 simp only [markL, List.getElem_map, List.getElem_range]
theorem markL_len (n : Nat) (m : Int) : (markL n m).length = n := by unfold markL; simp
theorem markByteS_l (m : Int) (hm0 : 0 ≤ m) (hm1 : m ≤ 1099511627776) : ∀ (d i : Nat) (x : List Int), x.length ≤ 1099511627776 → i + d = x.length → (∀ j (h : j < x.length), j < i → x[j] = (m + (j : Int)) % 256) →
  Ev (fun k => laws_markByteS.l0 k x (m + (i : Int)) (i : Int)) (m + (x.length : Int), markL x.length m) := by
 intro d
 induction d with
 | zero =>
  intro i x hx h hj
  have e : markL x.length m = x := by
   apply List.ext_getElem (markL_len _ _)
   intro j h1 h2
   rw [markL_get, hj j h2 (by omega)]
  rw [e]
  refine evRet fun k => ?_
  simp only [laws_markByteS.l0]; rw [if_neg (by omega), show (i : Int) = x.length by omega]
 | succ d ih =>
  intro i x hx h hj
  have hi : i < x.length := by omega
  have h1 := ih (i + 1) (x.set i ((m + (i : Int)) % 256)) (by simpa using hx) (by simp; omega) (by
   intro j h1 h2
   simp only [List.length_set] at h1
   rw [List.getElem_set]
   split
   ·rename_i e; rw [e]
   ·exact hj j h1 (by omega))
  rw [List.length_set] at h1
  refine evStep h1 fun k => ?_
  simp only [laws_markByteS.l0]
  rw [if_pos (by omega), if_pos (by omega), w64 (n := m + (i : Int) + 1) (by omega) (by omega), w64 (n := (i : Int) + 1) (by omega) (by omega), show m + (i : Int) + 1 = m + ((i + 1 : Nat) : Int) by omega]
  rfl
theorem markByteS_ev (x : List Int) (hx : x.length ≤ 1099511627776) (m : Int) (hm0 : 0 ≤ m) (hm1 : m ≤ 1099511627776) : Ev (fun k => laws_markByteS.f k x m) (m + (x.length : Int), markL x.length m) := by
 have := markByteS_l m hm0 hm1 x.length 0 x hx (by omega) (fun j _ h => absurd h (by omega))
 exact evEq this fun k => by simp only [laws_markByteS.f]; simp
theorem heldByteS_l (m : Int) (hm0 : 0 ≤ m) (hm1 : m ≤ 1099511627776) (n : Nat) (hn : n ≤ 1099511627776) : ∀ (d i : Nat), i + d = n →
  Ev (fun k => laws_heldByteS.l0 k (markL n m) (m + (i : Int)) (i : Int)) (m + (n : Int)) := by
 intro d
 induction d with
 | zero =>
  intro i h
  refine evRet fun k => ?_
  simp only [laws_heldByteS.l0]; rw [if_neg (by rw [markL_len]; omega), show (i : Int) = n by omega]
 | succ d ih =>
  intro i h
  have hi : i < (markL n m).length := by rw [markL_len]; omega
  refine evStep (ih (i + 1) (by omega)) fun k => ?_
  simp only [laws_heldByteS.l0]
  rw [if_pos (by omega), if_pos (by omega), if_pos (by rw [rd_nat hi, markL_get]), w64 (n := m + (i : Int) + 1) (by omega) (by omega), w64 (n := (i : Int) + 1) (by omega) (by omega), show m + (i : Int) + 1 = m + ((i + 1 : Nat) : Int) by omega]
  rfl
theorem heldByteS_ev (n : Nat) (hn : n ≤ 1099511627776) (m : Int) (hm0 : 0 ≤ m) (hm1 : m ≤ 1099511627776) : Ev (fun k => laws_heldByteS.f k (markL n m) m) (m + (n : Int)) := by
 have := heldByteS_l m hm0 hm1 n hn n 0 (by omega)
 exact evEq this fun k => by simp only [laws_heldByteS.f]; simp
def putN (n : Nat) : List Int := if h : n < 128 then [(n : Int)] else ((n % 128 + 128 : Nat) : Int) :: putN (n / 128)
termination_by n
decreasing_by omega
def putNum (a : Int) : List Int := if 0 ≤ a ∧ a ≤ 2147483647 then putN a.toNat else []
theorem spec_PutNum_l0 : ∀ (n : Nat) (acc : List Int), acc.length + n < 140737488355328 → Ev (fun k => spec_PutNum.l0 k (n : Int) acc) (acc ++ putN n) := by
 intro n
 induction n using Nat.strongRecOn with
 | ind n ih =>
  intro acc h
  rw [putN]
  by_cases hn : n < 128
  ·rw [dif_pos hn]
   refine evRet fun k => ?_
   simp only [spec_PutNum.l0]
   rw [if_neg (by omega), if_pos (by omega), show (n : Int) % 256 = n by omega]
  ·rw [dif_neg hn]
   have h1 := ih (n / 128) (by omega) (acc ++ [((n % 128 + 128 : Nat) : Int)]) (by simp only [List.length_append, List.length_singleton]; omega)
   rw [List.append_assoc, List.singleton_append] at h1
   refine evStep h1 fun k => ?_
   simp only [spec_PutNum.l0]
   rw [if_pos (by omega), if_pos (by omega), tdiv_pos (by omega), tmod_pos (by omega), w64 (n := (n : Int) / 128) (by omega) (by omega), w64 (n := (n : Int) % 128 + 128) (by omega) (by omega),
    show ((n : Int) % 128 + 128) % 256 = ((n % 128 + 128 : Nat) : Int) by omega]
   rfl
theorem impl_PutNum_l0 : ∀ (n : Nat) (acc : List Int), acc.length + n < 140737488355328 → Ev (fun k => impl_PutNum.l0 k (n : Int) acc) (acc ++ putN n) := by
 intro n
 induction n using Nat.strongRecOn with
 | ind n ih =>
  intro acc h
  rw [putN]
  by_cases hn : n < 128
  ·rw [dif_pos hn]
   refine evRet fun k => ?_
   simp only [impl_PutNum.l0]
   rw [if_neg (by omega), if_pos (by omega), show (n : Int) % 256 = n by omega]
  ·rw [dif_neg hn]
   have h1 := ih (n / 128) (by omega) (acc ++ [((n % 128 + 128 : Nat) : Int)]) (by simp only [List.length_append, List.length_singleton]; omega)
   rw [List.append_assoc, List.singleton_append] at h1
   refine evStep h1 fun k => ?_
   simp only [impl_PutNum.l0]
   rw [if_pos (by omega), if_pos (by omega), tdiv_pos (by omega), tmod_pos (by omega), w64 (n := (n : Int) / 128) (by omega) (by omega), w64 (n := (n : Int) % 128 + 128) (by omega) (by omega),
    show ((n : Int) % 128 + 128) % 256 = ((n % 128 + 128 : Nat) : Int) by omega]
   rfl
theorem spec_PutNum_ev (a : Int) : Ev (fun k => spec_PutNum.f k a) (putNum a) := by
 unfold putNum
 simp only [spec_PutNum.f, spec_l1In.f, Option.bind_some]
 by_cases h : 0 ≤ a ∧ a ≤ 2147483647
 ·have := spec_PutNum_l0 a.toNat [] (by simp only [List.length_nil]; omega)
  simp only [Int.toNat_of_nonneg h.1, List.nil_append] at this
  rw [if_pos h]
  simp only [if_pos (show a ≥ 0 from h.1), decide_eq_true h.2, Option.bind_some, if_true]
  exact this
 ·rw [if_neg h]
  by_cases h0 : a ≥ 0
  ·simp only [if_pos h0, decide_eq_false (show ¬ a ≤ 2147483647 from fun h1 => h ⟨h0, h1⟩), Option.bind_some]; exact evSome _
  ·simp only [if_neg h0, Option.bind_some]; exact evSome _
theorem impl_PutNum_ev (a : Int) : Ev (fun k => impl_PutNum.f k a) (putNum a) := by
 unfold putNum
 simp only [impl_PutNum.f, impl_within.f, Option.bind_some]
 by_cases h : 0 ≤ a ∧ a ≤ 2147483647
 ·have := impl_PutNum_l0 a.toNat [] (by simp only [List.length_nil]; omega)
  simp only [Int.toNat_of_nonneg h.1, List.nil_append] at this
  rw [if_pos h]
  simp only [if_pos (show a ≥ 0 from h.1), decide_eq_true h.2, Option.bind_some, if_true]
  exact this
 ·rw [if_neg h]
  by_cases h0 : a ≥ 0
  ·simp only [if_pos h0, decide_eq_false (show ¬ a ≤ 2147483647 from fun h1 => h ⟨h0, h1⟩), Option.bind_some]; exact evSome _
  ·simp only [if_neg h0, Option.bind_some]; exact evSome _
theorem putN_len : ∀ (n : Nat), (putN n).length ≤ n + 1 := by
 intro n
 induction n using Nat.strongRecOn with
 | ind n ih =>
  rw [putN]
  by_cases hn : n < 128
  ·rw [dif_pos hn]; simp
  ·rw [dif_neg hn]; have := ih (n / 128) (by omega); simp only [List.length_cons]; omega
theorem putNum_len (a : Int) : (putNum a).length ≤ 2147483648 := by
 unfold putNum
 split
 ·have := putN_len a.toNat; omega
 ·simp
theorem bytesOf_len (s : ByteArray) : (bytesOf s).length = s.size := by unfold bytesOf; rw [List.length_map, Array.length_toList]; rfl
theorem rdLL {l : List (List Int)} {i : Nat} (h : i < l.length) : rd_L1 l (i : Int) = l[i] := by
 unfold rd_L1; simp [List.getD_eq_getElem?_getD, h]
theorem joined_l (l : List (List Int)) (hl : l.length ≤ 1099511627776) : ∀ (d i : Nat) (acc : List Int), i + d = l.length → acc.length + (l.drop i).flatten.length < 140737488355328 →
  Ev (fun k => impl_joined.l0 k acc l (l.length : Int) (i : Int)) (acc ++ (l.drop i).flatten) := by
 intro d
 induction d with
 | zero =>
  intro i acc h _
  rw [List.drop_eq_nil_of_le (by omega)]
  exact evRet fun k => by simp only [impl_joined.l0]; rw [if_neg (by omega)]; simp
 | succ d ih =>
  intro i acc h hb
  have hi : i < l.length := by omega
  rw [List.drop_eq_getElem_cons hi, List.flatten_cons] at hb ⊢
  rw [List.length_append] at hb
  have := ih (i + 1) (acc ++ l[i]) (by omega) (by rw [List.length_append]; omega)
  rw [List.append_assoc] at this
  refine evSucc ?_
  simp only [impl_joined.l0, rdLL hi]
  simp only [if_pos (show (i : Int) < (l.length : Int) by omega), if_pos (show (0 : Int) ≤ (i : Int) by omega), w64 (show (-9223372036854775808 : Int) ≤ (i : Int) + 1 by omega) (by omega), if_pos (show acc.length + l[i].length < 140737488355328 by omega)]
  exact this
theorem joined_ev (l : List (List Int)) (hl : l.length ≤ 1099511627776) (hb : l.flatten.length < 140737488355328) : Ev (fun k => impl_joined.f k l) l.flatten := by
 have h := joined_l l hl l.length 0 [] (by omega) (by rw [List.drop_zero]; simpa using hb)
 rw [List.drop_zero, List.nil_append] at h
 exact h
def putText (s : ByteArray) : List Int := putNum (s.size : Int) ++ bytesOf s
theorem spec_PutText_ev (s : ByteArray) (hs : s.size ≤ 1099511627776) : Ev (fun k => spec_PutText.f k s) (putText s) := by
 have := putNum_len (s.size : Int)
 simp only [spec_PutText.f]
 refine Ev.bind (spec_PutNum_ev _) ?_
 simp only [if_pos (show (putNum (s.size : Int)).length + s.size < 140737488355328 by omega)]
 exact evSome _
theorem impl_PutText_ev (s : ByteArray) (hs : s.size ≤ 1099511627776) : Ev (fun k => impl_PutText.f k s) (putText s) := by
 have h1 := putNum_len (s.size : Int)
 have h2 := bytesOf_len s
 simp only [impl_PutText.f]
 refine Ev.bind (impl_PutNum_ev _) ?_
 simp only [if_pos (show (putNum (s.size : Int)).length + s.size < 140737488355328 by omega)]
 have := joined_ev [putNum (s.size : Int), bytesOf s] (by simp) (by simp; omega)
 simpa [putText] using this
theorem putText_len (s : ByteArray) (hs : s.size ≤ 1048576) : (putText s).length ≤ 1099511627776 := by
 have h1 := putNum_len (s.size : Int)
 have h2 := bytesOf_len s
 simp only [putText, List.length_append]
 omega
theorem FnExactPutText : laws_FnExactPutText.Pure := by
 intro s _
 apply Ev.rounds
 simp only [laws_FnExactPutText.f]
 by_cases h : (s.size : Int) > 1048576
 ·simp only [if_pos h]; exact evSome _
 simp only [if_neg h]
 have hs : s.size ≤ 1099511627776 := by omega
 have hl := putText_len s (by omega)
 refine Ev.bind (spec_PutText_ev s hs) ?_
 refine Ev.bind (impl_PutText_ev s hs) ?_
 refine Ev.bind (eqByteS_ev _ hl) ?_
 simp only [if_true]
 refine Ev.bind (markByteS_ev _ hl 1 (by omega) (by omega)) ?_
 refine Ev.bind (heldByteS_ev _ hl 1 (by omega) (by omega)) ?_
 simp only [if_neg (show ¬ 1 + ((putText s).length : Int) < 0 by omega), if_true]
 refine Ev.bind (impl_PutText_ev s hs) ?_
 refine Ev.bind (eqByteS_ev _ hl) ?_
 simp only [if_true]
 refine Ev.bind (heldByteS_ev _ hl 1 (by omega) (by omega)) ?_
 simp only [if_neg (show ¬ 1 + ((putText s).length : Int) < 0 by omega), if_true]
 exact evSome _
end Go.Proofs.Ytgjglbjdkikajaa.Pure
