/- What the law FnNumbers computes is true for every code: numbers and texts are read as they were written, and a byte that turned turns the check sum. No condition. -/
import Derived.Shelf.Small.Strs
import Derived.Test.YtgjglbjdkikajaaPlFnNumbers
namespace Go.Proofs.Ytgjglbjdkikajaa.Pure
open Go.RowKit Go.Proofs.Ytgjglbjdkikajaa.P Go.Proofs.YtgjglbjdkikajaaW.PrintWords Go.Proofs.YtgjglbjdkikajaaW.PrintLast
set_option linter.unusedVariables false
set_option linter.unusedSimpArgs false
theorem w64 {n : Int} (h0 : -9223372036854775808 ≤ n) (h1 : n ≤ 9223372036854775807) : wrap64 n = n := by
  unfold wrap64; omega
theorem tmod_pos {a b : Int} (h : 0 ≤ a) : Int.tmod a b = a % b := Int.tmod_eq_emod_of_nonneg h
theorem tdiv_pos {a b : Int} (h : 0 ≤ a) : Int.tdiv a b = a / b := Int.tdiv_eq_ediv_of_nonneg h
theorem evSome {α : Type} (r : α) : Ev (fun _ => some r) r := Ev.now r
theorem evEq {α : Type} {g f : Nat → Option α} {r : α} (k : Ev f r) (h : ∀ k, g k = f k) : Ev g r := Ev.congr h k
theorem evStep {α : Type} {g f : Nat → Option α} {r : α} (k : Ev f r) (h : ∀ k, g (k + 1) = f k) : Ev g r := Ev.step h k
theorem evRet {α : Type} {g : Nat → Option α} {r : α} (h : ∀ k, g (k + 1) = some r) : Ev g r := Ev.step h (Ev.now r)
theorem rd_nat {l : List Int} {i : Nat} (h : i < l.length) : rd l (i : Int) = l[i] := by
  unfold rd; simp [List.getD_eq_getElem?_getD, h]
theorem wf_u8 {a : Int} (h : (Lit.int .u8 a).wf = true) : 0 ≤ a ∧ a < 256 := by
  simp [Lit.wf, IntKind.min, IntKind.max, IntKind.bits, IntKind.signed] at h; omega
theorem evSucc {α : Type} {g : Nat → Option α} {r : α} (h : Ev (fun k => g (k + 1)) r) : Ev g r := Ev.step (f := fun k => g (k + 1)) (fun _ => rfl) h
theorem and255 (x : Int) : 0 ≤ Go.bits .and .i64 x 255 ∧ Go.bits .and .i64 x 255 ≤ 255 := by
  have e : Go.bits .and .i64 x 255 = IntKind.i64.wrap (((BitVec.ofInt 64 x &&& BitVec.ofInt 64 255).toNat : Nat) : Int) := rfl
  have h : (BitVec.ofInt 64 x &&& BitVec.ofInt 64 255).toNat ≤ 255 := by
    rw [BitVec.toNat_and]
    exact Nat.and_le_right
  rw [e, IntKind.wrap_i64]
  omega
theorem byte_ok (b : List Int) (hb : b.length ≤ 140737488351232) (i h : Int) (h0 : 0 ≤ i) (h1 : i ≤ (b.length : Int)) : ∃ r i' h', spec_l1Byte.f b i h = some (r, i', h') ∧ 0 ≤ r ∧ r ≤ 255 ∧ 0 ≤ i' ∧ i' ≤ (b.length : Int) := by
  unfold spec_l1Byte.f
  by_cases c : i < (b.length : Int)
  · rw [if_pos c, if_pos h0]
    refine ⟨_, _, _, rfl, (and255 _).1, (and255 _).2, ?_, ?_⟩
    · rw [w64 (by omega) (by omega)]; omega
    · rw [w64 (by omega) (by omega)]; omega
  · rw [if_neg c]
    exact ⟨_, _, _, rfl, (and255 _).1, (and255 _).2, h0, h1⟩
theorem below_ok (b : List Int) (hb : b.length ≤ 140737488351232) (i h n : Int) (h0 : 0 ≤ i) (h1 : i ≤ (b.length : Int)) (hn : 0 < n) (hn2 : n ≤ 256) : ∃ r i' h', spec_l1Below.f b i h n = some (r, i', h') ∧ 0 ≤ r ∧ r < n ∧ 0 ≤ i' ∧ i' ≤ (b.length : Int) := by
  obtain ⟨r, i', h', e, r0, r1, c0, c1⟩ := byte_ok b hb i h h0 h1
  refine ⟨Int.tmod r n, i', h', ?_, Int.tmod_nonneg _ r0, Int.tmod_lt_of_pos _ hn, c0, c1⟩
  unfold spec_l1Below.f
  rw [if_neg (by omega), if_pos hn2, e]
  simp only [Option.bind_some]
  rw [if_neg (by omega)]
theorem pick_ok (b : List Int) (hb : b.length ≤ 140737488351232) (i h : Int) (h0 : 0 ≤ i) (h1 : i ≤ (b.length : Int)) (l : List ByteArray) (hl : 0 < l.length) (hl2 : l.length ≤ 256) : ∃ s i' h', spec_l1Pick.f b i h l = some (s, i', h') ∧ s ∈ l ∧ 0 ≤ i' ∧ i' ≤ (b.length : Int) := by
  obtain ⟨r, i', h', e, r0, r1, c0, c1⟩ := below_ok b hb i h l.length h0 h1 (by omega) (by omega)
  refine ⟨rdOf ByteArray.empty l r, i', h', ?_, ?_, c0, c1⟩
  · unfold spec_l1Pick.f
    rw [e]
    simp only [Option.bind_some]
    rw [if_pos r0, if_pos r1]
  · unfold rdOf
    rw [List.getD_eq_getElem?_getD, List.getElem?_eq_getElem (show r.toNat < l.length by omega)]
    exact List.getElem_mem _
theorem pickInt_ok (b : List Int) (hb : b.length ≤ 140737488351232) (i h : Int) (h0 : 0 ≤ i) (h1 : i ≤ (b.length : Int)) (l : List Int) (hl : 0 < l.length) (hl2 : l.length ≤ 256) : ∃ s i' h', spec_l1PickInt.f b i h l = some (s, i', h') ∧ s ∈ l ∧ 0 ≤ i' ∧ i' ≤ (b.length : Int) := by
  obtain ⟨r, i', h', e, r0, r1, c0, c1⟩ := below_ok b hb i h l.length h0 h1 (by omega) (by omega)
  refine ⟨rd l r, i', h', ?_, ?_, c0, c1⟩
  · unfold spec_l1PickInt.f
    rw [e]
    simp only [Option.bind_some]
    rw [if_pos r0, if_pos r1]
  · unfold rd
    rw [List.getD_eq_getElem?_getD, List.getElem?_eq_getElem (show r.toNat < l.length by omega)]
    exact List.getElem_mem _
theorem l1New_l (b : List Int) (hb : b.length ≤ 140737488351232) : ∀ (d j : Nat) (h : Int), j + d = b.length → ∃ h', Ev (fun k => spec_l1New.l0 k b h (j : Int)) (b, 0, h') := by
  intro d
  induction d with
  | zero =>
    intro j h e
    exact ⟨h, evRet fun k => by simp only [spec_l1New.l0]; rw [if_neg (by omega)]⟩
  | succ d ih =>
    intro j h e
    by_cases c : (j : Int) < 4000
    · obtain ⟨h', hv⟩ := ih (j + 1) (Go.bits .and .i64 (wrap64 ((wrap64 ((wrap64 (h * 131)) + (wrap64 (rd b (j : Int))))) + 7)) 1073741823) (by omega)
      refine ⟨h', evStep hv fun k => ?_⟩
      simp only [spec_l1New.l0]
      rw [if_pos (by omega), if_pos c, if_pos (by omega), w64 (n := (j : Int) + 1) (by omega) (by omega)]
      rfl
    · exact ⟨h, evRet fun k => by simp only [spec_l1New.l0]; rw [if_pos (by omega), if_neg c]⟩
theorem l1New_ok (b : List Int) (hb : b.length ≤ 140737488351232) : ∃ h', Ev (fun k => spec_l1New.f k b) (b, 0, h') := by
  obtain ⟨h', hv⟩ := l1New_l b hb b.length 0 (wrap64 (26583 + (b.length : Int))) (by omega)
  exact ⟨h', hv⟩
theorem big_eq (l : List Int) : laws_big.f l = some (decide ((l.length : Int) > 1048576)) := rfl
def putN (n : Nat) : List Int := if h : n < 128 then [(n : Int)] else ((n % 128 + 128 : Nat) : Int) :: putN (n / 128)
termination_by n
decreasing_by omega
def putNum (a : Int) : List Int := if 0 ≤ a ∧ a ≤ 2147483647 then putN a.toNat else []
theorem spec_PutNum_l0 : ∀ (n : Nat) (acc : List Int), acc.length + n < 140737488355328 → Ev (fun k => spec_PutNum.l0 k (n : Int) acc) (acc ++ putN n) := by
  intro n
  induction n using Nat.strongRecOn with
  | ind n ih =>
    intro acc h
    rw [putN]
    by_cases hn : n < 128
    · rw [dif_pos hn]
      refine evRet fun k => ?_
      simp only [spec_PutNum.l0]
      rw [if_neg (by omega), if_pos (by omega), show (n : Int) % 256 = n by omega]
    · rw [dif_neg hn]
      have h1 := ih (n / 128) (by omega) (acc ++ [((n % 128 + 128 : Nat) : Int)]) (by simp only [List.length_append, List.length_singleton]; omega)
      rw [List.append_assoc, List.singleton_append] at h1
      refine evStep h1 fun k => ?_
      simp only [spec_PutNum.l0]
      rw [if_pos (by omega), if_pos (by omega), tdiv_pos (by omega), tmod_pos (by omega), w64 (n := (n : Int) / 128) (by omega) (by omega), w64 (n := (n : Int) % 128 + 128) (by omega) (by omega),
        show ((n : Int) % 128 + 128) % 256 = ((n % 128 + 128 : Nat) : Int) by omega]
      rfl
theorem impl_PutNum_l0 : ∀ (n : Nat) (acc : List Int), acc.length + n < 140737488355328 → Ev (fun k => impl_PutNum.l0 k (n : Int) acc) (acc ++ putN n) := by
  intro n
  induction n using Nat.strongRecOn with
  | ind n ih =>
    intro acc h
    rw [putN]
    by_cases hn : n < 128
    · rw [dif_pos hn]
      refine evRet fun k => ?_
      simp only [impl_PutNum.l0]
      rw [if_neg (by omega), if_pos (by omega), show (n : Int) % 256 = n by omega]
    · rw [dif_neg hn]
      have h1 := ih (n / 128) (by omega) (acc ++ [((n % 128 + 128 : Nat) : Int)]) (by simp only [List.length_append, List.length_singleton]; omega)
      rw [List.append_assoc, List.singleton_append] at h1
      refine evStep h1 fun k => ?_
      simp only [impl_PutNum.l0]
      rw [if_pos (by omega), if_pos (by omega), tdiv_pos (by omega), tmod_pos (by omega), w64 (n := (n : Int) / 128) (by omega) (by omega), w64 (n := (n : Int) % 128 + 128) (by omega) (by omega),
        show ((n : Int) % 128 + 128) % 256 = ((n % 128 + 128 : Nat) : Int) by omega]
      rfl
theorem spec_PutNum_ev (a : Int) : Ev (fun k => spec_PutNum.f k a) (putNum a) := by
  unfold putNum
  simp only [spec_PutNum.f, spec_l1In.f, Option.bind_some]
  by_cases h : 0 ≤ a ∧ a ≤ 2147483647
  · have := spec_PutNum_l0 a.toNat [] (by simp only [List.length_nil]; omega)
    simp only [Int.toNat_of_nonneg h.1, List.nil_append] at this
    rw [if_pos h]
    simp only [if_pos (show a ≥ 0 from h.1), decide_eq_true h.2, Option.bind_some, if_true]
    exact this
  · rw [if_neg h]
    by_cases h0 : a ≥ 0
    · simp only [if_pos h0, decide_eq_false (show ¬ a ≤ 2147483647 from fun h1 => h ⟨h0, h1⟩), Option.bind_some]; exact evSome _
    · simp only [if_neg h0, Option.bind_some]; exact evSome _
theorem impl_PutNum_ev (a : Int) : Ev (fun k => impl_PutNum.f k a) (putNum a) := by
  unfold putNum
  simp only [impl_PutNum.f, impl_within.f, Option.bind_some]
  by_cases h : 0 ≤ a ∧ a ≤ 2147483647
  · have := impl_PutNum_l0 a.toNat [] (by simp only [List.length_nil]; omega)
    simp only [Int.toNat_of_nonneg h.1, List.nil_append] at this
    rw [if_pos h]
    simp only [if_pos (show a ≥ 0 from h.1), decide_eq_true h.2, Option.bind_some, if_true]
    exact this
  · rw [if_neg h]
    by_cases h0 : a ≥ 0
    · simp only [if_pos h0, decide_eq_false (show ¬ a ≤ 2147483647 from fun h1 => h ⟨h0, h1⟩), Option.bind_some]; exact evSome _
    · simp only [if_neg h0, Option.bind_some]; exact evSome _
theorem putN_len : ∀ (n : Nat), (putN n).length ≤ n + 1 := by
  intro n
  induction n using Nat.strongRecOn with
  | ind n ih =>
    rw [putN]
    by_cases hn : n < 128
    · rw [dif_pos hn]; simp
    · rw [dif_neg hn]; have := ih (n / 128) (by omega); simp only [List.length_cons]; omega
theorem putNum_len (a : Int) : (putNum a).length ≤ 2147483648 := by
  unfold putNum
  split
  · have := putN_len a.toNat; omega
  · simp
theorem bytesOf_len (s : ByteArray) : (bytesOf s).length = s.size := by unfold bytesOf; rw [List.length_map, Array.length_toList]; rfl
theorem rdLL {l : List (List Int)} {i : Nat} (h : i < l.length) : rd_L1 l (i : Int) = l[i] := by
  unfold rd_L1; simp [List.getD_eq_getElem?_getD, h]
theorem joined_l (l : List (List Int)) (hl : l.length ≤ 1099511627776) : ∀ (d i : Nat) (acc : List Int), i + d = l.length → acc.length + (l.drop i).flatten.length < 140737488355328 →
    Ev (fun k => impl_joined.l0 k acc l (l.length : Int) (i : Int)) (acc ++ (l.drop i).flatten) := by
  intro d
  induction d with
  | zero =>
    intro i acc h _
    rw [List.drop_eq_nil_of_le (by omega)]
    exact evRet fun k => by simp only [impl_joined.l0]; rw [if_neg (by omega)]; simp
  | succ d ih =>
    intro i acc h hb
    have hi : i < l.length := by omega
    rw [List.drop_eq_getElem_cons hi, List.flatten_cons] at hb ⊢
    rw [List.length_append] at hb
    have := ih (i + 1) (acc ++ l[i]) (by omega) (by rw [List.length_append]; omega)
    rw [List.append_assoc] at this
    refine evSucc ?_
    simp only [impl_joined.l0, rdLL hi]
    simp only [if_pos (show (i : Int) < (l.length : Int) by omega), if_pos (show (0 : Int) ≤ (i : Int) by omega), w64 (show (-9223372036854775808 : Int) ≤ (i : Int) + 1 by omega) (by omega), if_pos (show acc.length + l[i].length < 140737488355328 by omega)]
    exact this
theorem joined_ev (l : List (List Int)) (hl : l.length ≤ 1099511627776) (hb : l.flatten.length < 140737488355328) : Ev (fun k => impl_joined.f k l) l.flatten := by
  have h := joined_l l hl l.length 0 [] (by omega) (by rw [List.drop_zero]; simpa using hb)
  rw [List.drop_zero, List.nil_append] at h
  exact h
def putText (s : ByteArray) : List Int := putNum (s.size : Int) ++ bytesOf s
theorem impl_PutText_ev (s : ByteArray) (hs : s.size ≤ 1099511627776) : Ev (fun k => impl_PutText.f k s) (putText s) := by
  have h1 := putNum_len (s.size : Int)
  have h2 := bytesOf_len s
  simp only [impl_PutText.f]
  refine Ev.bind (impl_PutNum_ev _) ?_
  simp only [if_pos (show (putNum (s.size : Int)).length + s.size < 140737488355328 by omega)]
  have := joined_ev [putNum (s.size : Int), bytesOf s] (by simp) (by simp; omega)
  simpa [putText] using this
def crcBit (x : Int) : Int := if Int.tmod x 2 = 1 then Go.bits .xor .i64 (wrap64 (Int.tdiv x 2)) 3988292384 else wrap64 (Int.tdiv x 2)
def crcBits : Nat → Int → Int
  | 0, x => x
  | n + 1, x => crcBits n (crcBit x)
def crcStep (x b : Int) : Int := crcBits 8 (Go.bits .xor .i64 x (wrap64 b))
def crc (l : List Int) : Int := Go.bits .xor .i64 (l.foldl crcStep 4294967295) 4294967295
theorem impl_Crc_l1 (x : List Int) (n j r : Int) : ∀ (d i : Nat) (s : Int), i + d = 8 → Ev (fun k => impl_Crc.l0 k (crcBits d s) x n (wrap64 (j + 1))) r →
    Ev (fun k => impl_Crc.l1 k s x n j (i : Int)) r := by
  intro d
  induction d with
  | zero => intro i s h hr; exact evStep hr fun k => by simp only [impl_Crc.l1]; rw [if_neg (by omega)]; rfl
  | succ d ih =>
    intro i s h hr
    refine evStep (ih (i + 1) (crcBit s) (by omega) hr) fun k => ?_
    simp only [impl_Crc.l1]
    rw [if_pos (by omega), w64 (n := (i : Int) + 1) (by omega) (by omega)]
    unfold crcBit
    split <;> rfl
theorem impl_Crc_l0 (x : List Int) (hx : x.length ≤ 1099511627776) : ∀ (d i : Nat) (s : Int), i + d = x.length → 
    Ev (fun k => impl_Crc.l0 k s x (x.length : Int) (i : Int)) (Go.bits .xor .i64 ((x.drop i).foldl crcStep s) 4294967295) := by
  intro d
  induction d with
  | zero => 
    intro i s h
    rw [List.drop_eq_nil_of_le (by omega)]
    exact evRet fun k => by simp only [impl_Crc.l0]; rw [if_neg (by omega)]; rfl
  | succ d ih =>
    intro i s h
    have hi : i < x.length := by omega
    have h1 := ih (i + 1) (crcStep s x[i]) (by omega)
    rw [List.drop_eq_getElem_cons hi, List.foldl_cons]
    have h2 := impl_Crc_l1 x (x.length : Int) (i : Int) _ 8 0 (Go.bits .xor .i64 s (wrap64 x[i])) (by omega) (by rw [w64 (n := (i : Int) + 1) (by omega) (by omega)]; exact h1)
    refine evStep h2 fun k => ?_
    simp only [impl_Crc.l0]
    rw [if_pos (by omega), if_pos (by omega), if_pos (by omega), rd_nat hi]
    rfl
theorem impl_Crc_ev (x : List Int) (hx : x.length ≤ 1099511627776) : Ev (fun k => impl_Crc.f k x) (crc x) := by
  have := impl_Crc_l0 x hx x.length 0 4294967295 (by omega)
  rw [List.drop_zero] at this
  exact evEq this fun k => rfl
def gnum (l : List Int) (a : Int) : Nat → Nat → Int → Int × Int × Bool
  | 0, _, _ => (0, 0, false)
  | d + 1, i, n => if a < 0 ∨ a + i ≥ l.length then (0, 0, false) else
    if rd l (a + i) ≥ 128 then gnum l a d (i + 1) (n + rd l (a + i) % 128 * 2 ^ (7 * i))
    else if (i > 0 ∧ rd l (a + i) = 0) ∨ n + rd l (a + i) % 128 * 2 ^ (7 * i) > 2147483647 then (0, 0, false)
    else (n + rd l (a + i) % 128 * 2 ^ (7 * i), a + i + 1, true)
def getNum (l : List Int) (a : Int) : Int × Int × Bool := gnum l a 5 0 0
def Byte (l : List Int) : Prop := ∀ x ∈ l, 0 ≤ x ∧ x < 256
theorem byte_of_wf {l : List Int} (h : ∀ x ∈ l, (Lit.int .u8 x).wf = true) : Byte l := fun x hx => wf_u8 (h x hx)
theorem rd_byte {l : List Int} (h : Byte l) (i : Int) : 0 ≤ rd l i ∧ rd l i < 256 := by
  unfold rd
  by_cases hi : i.toNat < l.length
  · rw [List.getD_eq_getElem?_getD, List.getElem?_eq_getElem hi]; exact h _ (List.getElem_mem hi)
  · rw [List.getD_eq_getElem?_getD, List.getElem?_eq_none (by omega)]; simp
theorem pow7 {i : Nat} (h : i < 5) : (2 : Int) ^ (7 * i) ≤ 268435456 ∧ 1 ≤ (2 : Int) ^ (7 * i) := by
  have : i = 0 ∨ i = 1 ∨ i = 2 ∨ i = 3 ∨ i = 4 := by omega
  rcases this with rfl | rfl | rfl | rfl | rfl <;> decide
theorem mul_le_of {c p : Int} (h0 : 0 ≤ c) (h1 : c ≤ 127) (hp : 1 ≤ p) : 0 ≤ c * p ∧ c * p ≤ 127 * p := ⟨Int.mul_nonneg h0 (by omega), Int.mul_le_mul_of_nonneg_right h1 (by omega)⟩
theorem shl7 {c : Int} {i : Nat} (h : i < 5) (h0 : 0 ≤ c) : shl .i64 (Int.tmod (wrap64 c) 128) (wrap64 (7 * (i : Int))) = if c < 256 then c % 128 * 2 ^ (7 * i) else shl .i64 (Int.tmod (wrap64 c) 128) (wrap64 (7 * (i : Int))) := by
  split
  · rename_i hc
    rw [w64 (n := c) (by omega) (by omega), w64 (n := 7 * (i : Int)) (by omega) (by omega), tmod_pos h0]
    unfold shl
    have e : min (7 * (i : Int)).toNat IntKind.i64.bits = 7 * i := by
      have : IntKind.i64.bits = 64 := rfl
      rw [this]; omega
    rw [e]
    obtain ⟨p1, p2⟩ := pow7 h
    obtain ⟨m1, m2⟩ := mul_le_of (c := c % 128) (by omega) (by omega) p2
    rw [IntKind.wrap_i64]
    generalize c % 128 * 2 ^ (7 * i) = z at *
    omega
  · rfl
theorem impl_GetNum_l0 {l : List Int} (hb : Byte l) (hx : l.length ≤ 1099511627776) {a : Int} (ha0 : 0 ≤ a) (ha1 : a < l.length) :
    ∀ (d i : Nat) (n : Int), i + d = 5 → 0 ≤ n → n < 2 ^ (7 * i) → Ev (fun k => impl_GetNum.l0 k l a n (i : Int)) (gnum l a d i n) := by
  intro d
  induction d with
  | zero => 
    intro i n h _ _
    have : Ev (fun k => impl_GetNum.j2 k l a n (i : Int) false) (0, 0, false) := evRet fun k => by simp only [impl_GetNum.j2]; rw [if_neg (by simp)]
    refine evStep this fun k => ?_
    simp only [impl_GetNum.l0]; rw [if_neg (by omega)]
  | succ d ih =>
    intro i n h h0 h1
    have hi5 : i < 5 := by omega
    unfold gnum
    have ew : wrap64 (a + (i : Int)) = a + i := w64 (by omega) (by omega)
    by_cases hout : a < 0 ∨ a + i ≥ l.length
    · rw [if_pos hout]
      have : Ev (fun k => impl_GetNum.j2 k l a n (i : Int) false) (0, 0, false) := evRet fun k => by simp only [impl_GetNum.j2]; rw [if_neg (by simp)]
      refine evStep this fun k => ?_
      simp only [impl_GetNum.l0]
      rw [if_pos (by omega), ew, decide_eq_false (by omega)]
    · rw [if_neg hout]
      obtain ⟨c0, c1⟩ := rd_byte hb (a + i)
      have es : shl .i64 (Int.tmod (wrap64 (rd l (a + i))) 128) (wrap64 (7 * (i : Int))) = rd l (a + i) % 128 * 2 ^ (7 * i) := by rw [shl7 hi5 c0, if_pos c1]
      obtain ⟨p1, p2⟩ := pow7 hi5
      obtain ⟨m1, m2⟩ := mul_le_of (c := rd l (a + i) % 128) (by omega) (by omega) p2
      have eo : wrap64 (n + rd l (a + i) % 128 * 2 ^ (7 * i)) = n + rd l (a + i) % 128 * 2 ^ (7 * i) := w64 (by omega) (by omega)
      have key : Ev (fun k => impl_GetNum.j2 k l a n (i : Int) true) (if rd l (a + i) ≥ 128 then gnum l a d (i + 1) (n + rd l (a + i) % 128 * 2 ^ (7 * i))
          else if (i > 0 ∧ rd l (a + i) = 0) ∨ n + rd l (a + i) % 128 * 2 ^ (7 * i) > 2147483647 then (0, 0, false)
          else (n + rd l (a + i) % 128 * 2 ^ (7 * i), a + i + 1, true)) := by
        by_cases hc : rd l (a + i) ≥ 128
        · rw [if_pos hc]
          have hstep := ih (i + 1) (n + rd l (a + i) % 128 * 2 ^ (7 * i)) (by omega) (by omega) (by
            rw [show 7 * (i + 1) = 7 * i + 7 by omega, Int.pow_add]
            generalize (2 : Int) ^ (7 * i) = p at *
            generalize rd l (a + i) % 128 * p = q at *
            omega)
          refine evStep hstep fun k => ?_
          simp only [impl_GetNum.j2]
          rw [if_pos trivial, ew, if_pos (by omega), if_pos (by omega), if_pos (by rw [w64 (by omega) (by omega)]; omega), es, eo,
            if_pos (by rw [w64 (by omega) (by omega)]; omega), w64 (n := (i : Int) + 1) (by omega) (by omega)]
          rfl
        · rw [if_neg hc]
          refine evRet fun k => ?_
          simp only [impl_GetNum.j2]
          rw [if_pos trivial, ew, if_pos (by omega), if_pos (by omega), if_pos (by rw [w64 (by omega) (by omega)]; omega), es, eo,
            if_neg (by rw [w64 (by omega) (by omega)]; omega)]
          rw [w64 (n := rd l (a + i)) (by omega) (by omega), w64 (n := a + i + 1) (by omega) (by omega)]
          by_cases hi0 : i > 0
          · rw [if_pos (by omega)]
            by_cases hz : rd l (a + i) = 0
            · rw [if_pos hz, if_pos (Or.inl ⟨hi0, hz⟩)]
            · rw [if_neg hz]
              by_cases hbig : n + rd l (a + i) % 128 * 2 ^ (7 * i) > 2147483647
              · rw [if_pos hbig, if_pos (Or.inr hbig)]
              · rw [if_neg hbig, if_neg (by rintro (⟨_, h⟩ | h) <;> contradiction)]
          · rw [if_neg (by omega)]
            by_cases hbig : n + rd l (a + i) % 128 * 2 ^ (7 * i) > 2147483647
            · rw [if_pos hbig, if_pos (Or.inr hbig)]
            · rw [if_neg hbig, if_neg (by rintro (⟨h, _⟩ | h) <;> contradiction)]
      refine evStep key fun k => ?_
      simp only [impl_GetNum.l0]
      rw [if_pos (by omega), ew, decide_eq_true (by omega)]
theorem impl_GetNum_ev {l : List Int} (hb : Byte l) (hx : l.length ≤ 1099511627776) {a : Int} :
    Ev (fun k => impl_GetNum.f k l a) (getNum l a) := by
  by_cases hout : a < 0 ∨ a ≥ l.length
  · have e : getNum l a = (0, 0, false) := by
      unfold getNum gnum
      rw [if_pos (by omega)]
    rw [e]
    have : Ev (fun k => impl_GetNum.j0 k l a true) (0, 0, false) := evRet fun k => by simp only [impl_GetNum.j0]; rw [if_pos trivial]
    refine evEq this fun k => ?_
    simp only [impl_GetNum.f]
    by_cases hneg : a < 0
    · rw [if_pos hneg]
    · rw [if_neg hneg, decide_eq_true (by omega)]
  · have := impl_GetNum_l0 hb hx (a := a) (by omega) (by omega) 5 0 0 (by omega) (by omega) (by decide)
    have h2 : Ev (fun k => impl_GetNum.j0 k l a false) (getNum l a) := evStep this fun k => by simp only [impl_GetNum.j0]; rw [if_neg (by simp)]; rfl
    refine evEq h2 fun k => ?_
    simp only [impl_GetNum.f]
    rw [if_neg (by omega), decide_eq_false (by omega)]
theorem gnum_bounds {l : List Int} (hb : Byte l) {a : Int} : ∀ (d i : Nat) (n : Int), i + d = 5 → 0 ≤ n → (gnum l a d i n).2.2 = true → 0 ≤ (gnum l a d i n).1 ∧ (gnum l a d i n).1 ≤ 2147483647 ∧ 0 ≤ a ∧ a + (i : Int) < (gnum l a d i n).2.1 ∧ (gnum l a d i n).2.1 ≤ (l.length : Int) := by
  intro d
  induction d with
  | zero => intro i n _ _ h; simp [gnum] at h
  | succ d ih =>
    intro i n hi h0
    unfold gnum
    by_cases hout : a < 0 ∨ a + i ≥ l.length
    · rw [if_pos hout]; intro h; simp at h
    · rw [if_neg hout]
      obtain ⟨c0, c1⟩ := rd_byte hb (a + i)
      obtain ⟨p1, p2⟩ := pow7 (i := i) (by omega)
      obtain ⟨m1, m2⟩ := mul_le_of (c := rd l (a + i) % 128) (by omega) (by omega) p2
      by_cases hc : rd l (a + i) ≥ 128
      · rw [if_pos hc]
        intro h
        obtain ⟨q1, q2, q3, q4, q5⟩ := ih (i + 1) _ (by omega) (by omega) h
        exact ⟨q1, q2, q3, by omega, q5⟩
      · rw [if_neg hc]
        by_cases hz : (i > 0 ∧ rd l (a + i) = 0) ∨ n + rd l (a + i) % 128 * 2 ^ (7 * i) > 2147483647
        · rw [if_pos hz]; intro h; simp at h
        · rw [if_neg hz]
          intro _
          refine ⟨by show 0 ≤ n + _; omega, ?_, by omega, by show a + (i : Int) < a + i + 1; omega, by show a + (i : Int) + 1 ≤ _; omega⟩
          show n + _ ≤ _
          have : ¬ n + rd l (a + i) % 128 * 2 ^ (7 * i) > 2147483647 := fun h => hz (Or.inr h)
          omega
def getText (l : List Int) (a : Int) : ByteArray × Int × Bool :=
  if (getNum l a).2.2 = true then
    if (getNum l a).1 > (l.length : Int) - (getNum l a).2.1 then (⟨#[]⟩, 0, false)
    else (strOfNums ((l.take ((getNum l a).2.1 + (getNum l a).1).toNat).drop ((getNum l a).2.1).toNat), (getNum l a).2.1 + (getNum l a).1, true)
  else (⟨#[]⟩, 0, false)
theorem impl_GetText_ev {l : List Int} (hb : Byte l) (hx : l.length ≤ 1099511627776) {a : Int} :
    Ev (fun k => impl_GetText.f k l a) (getText l a) := by
  simp only [impl_GetText.f]
  refine Ev.bind (impl_GetNum_ev hb hx) ?_
  unfold getText
  by_cases hok : (getNum l a).2.2 = true
  · obtain ⟨q1, q2, q3, q4, q5⟩ := gnum_bounds hb (a := a) 5 0 0 (by omega) (by omega) hok
    change 0 ≤ (getNum l a).1 at q1
    change (getNum l a).1 ≤ _ at q2
    change a + ((0 : Nat) : Int) < (getNum l a).2.1 at q4
    change (getNum l a).2.1 ≤ _ at q5
    simp only [if_pos hok]
    rw [w64 (n := (l.length : Int) - (getNum l a).2.1) (by omega) (by omega), w64 (n := (getNum l a).2.1 + (getNum l a).1) (by omega) (by omega)]
    by_cases hbig : (getNum l a).1 > (l.length : Int) - (getNum l a).2.1
    · simp only [if_pos hbig]; exact evSome _
    · simp only [if_neg hbig, if_pos (show 0 ≤ (getNum l a).2.1 by omega), if_pos (show (getNum l a).2.1 ≤ (getNum l a).2.1 + (getNum l a).1 by omega), if_pos (show (getNum l a).2.1 + (getNum l a).1 ≤ (l.length : Int) by omega)]
      exact evSome _
  · simp only [if_neg hok]; exact evSome _
theorem xor64 {m n : Nat} (hm : m < 4294967296) (hn : n < 4294967296) : Go.bits .xor .i64 (m : Int) (n : Int) = ((m ^^^ n : Nat) : Int) := by
  have e : Go.bits .xor .i64 (m : Int) (n : Int) = IntKind.i64.wrap (((BitVec.ofInt 64 (m : Int) ^^^ BitVec.ofInt 64 (n : Int)).toNat : Nat) : Int) := rfl
  have h : (BitVec.ofInt 64 (m : Int) ^^^ BitVec.ofInt 64 (n : Int)).toNat = m ^^^ n := by
    rw [BitVec.toNat_xor, BitVec.ofInt_natCast, BitVec.ofInt_natCast, BitVec.toNat_ofNat, BitVec.toNat_ofNat, Nat.mod_eq_of_lt (by omega), Nat.mod_eq_of_lt (by omega)]
  have hx : m ^^^ n < 2 ^ 32 := Nat.xor_lt_two_pow (by omega) (by omega)
  rw [e, h, IntKind.wrap_i64]
  omega
theorem xor_inj {a b p : Nat} (h : a ^^^ p = b ^^^ p) : a = b := by
  have := congrArg (· ^^^ p) h
  simpa [Nat.xor_assoc] using this
theorem xor_injl {a b p : Nat} (h : p ^^^ a = p ^^^ b) : a = b := by
  rw [Nat.xor_comm p a, Nat.xor_comm p b] at h
  exact xor_inj h
def cb (m : Nat) : Nat := if m % 2 = 1 then (m / 2) ^^^ 3988292384 else m / 2
theorem cb_lt {m : Nat} (h : m < 4294967296) : cb m < 4294967296 := by
  unfold cb
  split
  · exact Nat.xor_lt_two_pow (n := 32) (by omega) (by omega)
  · omega
theorem crcBit_nat {m : Nat} (h : m < 4294967296) : crcBit (m : Int) = (cb m : Int) := by
  unfold crcBit cb
  rw [tmod_pos (by omega), tdiv_pos (by omega), w64 (by omega) (by omega)]
  by_cases c : m % 2 = 1
  · rw [if_pos (by omega), if_pos c, show (m : Int) / 2 = ((m / 2 : Nat) : Int) by omega]
    exact xor64 (m := m / 2) (n := 3988292384) (by omega) (by omega)
  · rw [if_neg (by omega), if_neg c]
    omega
theorem cb_far {a b : Nat} (ha : a < 2147483648) (hb : b < 2147483648) : a ^^^ 3988292384 ≠ b := by
  intro h
  have h1 : (a ^^^ 3988292384) ^^^ a = b ^^^ a := by rw [h]
  have h2 : (a ^^^ 3988292384) ^^^ a = 3988292384 := by
    rw [Nat.xor_comm a 3988292384, Nat.xor_assoc, Nat.xor_self, Nat.xor_zero]
  have h3 : b ^^^ a < 2 ^ 31 := Nat.xor_lt_two_pow (by omega) (by omega)
  omega
theorem cb_inj {a b : Nat} (ha : a < 4294967296) (hb : b < 4294967296) (h : cb a = cb b) : a = b := by
  unfold cb at h
  by_cases c : a % 2 = 1
  · rw [if_pos c] at h
    by_cases c2 : b % 2 = 1
    · rw [if_pos c2] at h
      have := xor_inj h
      omega
    · rw [if_neg c2] at h
      exact absurd h (cb_far (by omega) (by omega))
  · rw [if_neg c] at h
    by_cases c2 : b % 2 = 1
    · rw [if_pos c2] at h
      exact absurd h.symm (cb_far (by omega) (by omega))
    · rw [if_neg c2] at h
      omega
theorem crcBits_inj : ∀ (d : Nat) {a b : Nat}, a < 4294967296 → b < 4294967296 → (∃ a' : Nat, a' < 4294967296 ∧ crcBits d (a : Int) = (a' : Int)) ∧ (crcBits d (a : Int) = crcBits d (b : Int) → a = b)
  | 0, a, b, ha, hb => ⟨⟨a, ha, rfl⟩, fun h => by simp only [crcBits] at h; omega⟩
  | d + 1, a, b, ha, hb => by
    have ih := crcBits_inj d (cb_lt ha) (cb_lt hb)
    simp only [crcBits, crcBit_nat ha, crcBit_nat hb]
    exact ⟨ih.1, fun h => cb_inj ha hb (ih.2 h)⟩
theorem crcStep_inj {a b x y : Nat} (ha : a < 4294967296) (hb : b < 4294967296) (hx : x < 256) (hy : y < 256) : (∃ a' : Nat, a' < 4294967296 ∧ crcStep (a : Int) (x : Int) = (a' : Int)) ∧ (crcStep (a : Int) (x : Int) = crcStep (b : Int) (y : Int) → a ^^^ x = b ^^^ y) := by
  unfold crcStep
  rw [w64 (n := (x : Int)) (by omega) (by omega), w64 (n := (y : Int)) (by omega) (by omega), xor64 ha (by omega), xor64 hb (by omega)]
  exact crcBits_inj 8 (Nat.xor_lt_two_pow (n := 32) (by omega) (by omega)) (Nat.xor_lt_two_pow (n := 32) (by omega) (by omega))
theorem crcFold : ∀ (l : List Int), Byte l → ∀ {a b : Nat}, a < 4294967296 → b < 4294967296 → (∃ a' : Nat, a' < 4294967296 ∧ l.foldl crcStep (a : Int) = (a' : Int)) ∧ (l.foldl crcStep (a : Int) = l.foldl crcStep (b : Int) → a = b)
  | [], _, a, b, ha, hb => ⟨⟨a, ha, rfl⟩, fun h => by simp only [List.foldl_nil] at h; omega⟩
  | v :: r, hB, a, b, ha, hb => by
    obtain ⟨v0, v1⟩ := hB v (List.mem_cons_self ..)
    obtain ⟨x, rfl⟩ : ∃ x : Nat, v = (x : Int) := ⟨v.toNat, by omega⟩
    have hr : Byte r := fun z hz => hB z (List.mem_cons_of_mem _ hz)
    obtain ⟨⟨a', la, ea⟩, inj⟩ := crcStep_inj (a := a) (b := b) (x := x) (y := x) ha hb (by omega) (by omega)
    obtain ⟨⟨b', lb, eb⟩, _⟩ := crcStep_inj (a := b) (b := b) (x := x) (y := x) hb hb (by omega) (by omega)
    have ih := crcFold r hr la lb
    simp only [List.foldl_cons, ea, eb]
    refine ⟨ih.1, fun h => ?_⟩
    have e := ih.2 h
    rw [ea, eb, e] at inj
    exact xor_inj (inj rfl)
theorem crcFold_set : ∀ (l : List Int), Byte l → ∀ (i : Nat) (v : Int), 0 ≤ v → v < 256 → (h : i < l.length) → v ≠ l[i] → ∀ {a : Nat}, a < 4294967296 → (l.set i v).foldl crcStep (a : Int) ≠ l.foldl crcStep (a : Int)
  | [], _, i, v, _, _, h, _, a, _ => by simp at h
  | u :: r, hB, 0, v, v0, v1, h, hne, a, ha => by
    obtain ⟨u0, u1⟩ := hB u (List.mem_cons_self ..)
    have hr : Byte r := fun z hz => hB z (List.mem_cons_of_mem _ hz)
    obtain ⟨x, rfl⟩ : ∃ x : Nat, u = (x : Int) := ⟨u.toNat, by omega⟩
    obtain ⟨y, rfl⟩ : ∃ y : Nat, v = (y : Int) := ⟨v.toNat, by omega⟩
    simp only [List.getElem_cons_zero] at hne
    obtain ⟨⟨a', la, ea⟩, inj⟩ := crcStep_inj (a := a) (b := a) (x := y) (y := x) ha ha (by omega) (by omega)
    obtain ⟨⟨b', lb, eb⟩, _⟩ := crcStep_inj (a := a) (b := a) (x := x) (y := x) ha ha (by omega) (by omega)
    simp only [List.set_cons_zero, List.foldl_cons, ea, eb]
    intro e
    have e2 := (crcFold r hr la lb).2 e
    rw [ea, eb, e2] at inj
    have := xor_injl (inj rfl)
    omega
  | u :: r, hB, i + 1, v, v0, v1, h, hne, a, ha => by
    obtain ⟨u0, u1⟩ := hB u (List.mem_cons_self ..)
    have hr : Byte r := fun z hz => hB z (List.mem_cons_of_mem _ hz)
    obtain ⟨x, rfl⟩ : ∃ x : Nat, u = (x : Int) := ⟨u.toNat, by omega⟩
    obtain ⟨⟨a', la, ea⟩, _⟩ := crcStep_inj (a := a) (b := a) (x := x) (y := x) ha ha (by omega) (by omega)
    simp only [List.set_cons_succ, List.foldl_cons, ea]
    exact crcFold_set r hr i v v0 v1 (by simpa using h) (by simpa using hne) la
theorem crc_ge {l : List Int} (hB : Byte l) : 0 ≤ crc l := by
  obtain ⟨⟨a, la, ea⟩, _⟩ := crcFold l hB (a := 4294967295) (b := 4294967295) (by omega) (by omega)
  unfold crc
  rw [show (4294967295 : Int) = ((4294967295 : Nat) : Int) from rfl, ea, xor64 la (by omega)]
  exact Int.natCast_nonneg _
theorem crc_set {l : List Int} (hB : Byte l) (i : Nat) (v : Int) (v0 : 0 ≤ v) (v1 : v < 256) (h : i < l.length) (hne : v ≠ l[i]) : crc (l.set i v) ≠ crc l := by
  have hB2 : Byte (l.set i v) := fun z hz => by
    rcases List.mem_or_eq_of_mem_set hz with h1 | h1
    · exact hB z h1
    · subst h1; exact ⟨v0, v1⟩
  obtain ⟨⟨a, la, ea⟩, _⟩ := crcFold l hB (a := 4294967295) (b := 4294967295) (by omega) (by omega)
  obtain ⟨⟨b, lb, eb⟩, _⟩ := crcFold (l.set i v) hB2 (a := 4294967295) (b := 4294967295) (by omega) (by omega)
  have hd := crcFold_set l hB i v v0 v1 h hne (a := 4294967295) (by omega)
  unfold crc
  rw [ea, eb] at hd
  rw [show (4294967295 : Int) = ((4294967295 : Nat) : Int) from rfl, ea, eb, xor64 la (by omega), xor64 lb (by omega)]
  intro e
  have := xor_inj (a := b) (b := a) (p := 4294967295) (by exact_mod_cast e)
  omega
theorem pn0 : putNum 0 = [0] := by simp [putNum, putN]
theorem pn1 : putNum 1 = [1] := by simp [putNum, putN]
theorem pn2 : putNum 127 = [127] := by simp [putNum, putN]
theorem pn3 : putNum 128 = [128, 1] := by simp [putNum, putN]
theorem pn4 : putNum 300 = [172, 2] := by simp [putNum, putN]
theorem pn5 : putNum 16384 = [128, 128, 1] := by simp [putNum, putN]
theorem pn6 : putNum 2147483647 = [255, 255, 255, 255, 7] := by simp [putNum, putN]
theorem pn7 : putNum 2147483648 = [] := by simp [putNum]
theorem pn8 : putNum (-1) = [] := by simp [putNum]
theorem pn9 : putNum 9223372036854775807 = [] := by simp [putNum]
theorem pt0 : putText (⟨#[]⟩ : ByteArray) = [0] := by
  have e : (((⟨#[]⟩ : ByteArray).size : Nat) : Int) = 0 := rfl
  have e2 : bytesOf (⟨#[]⟩ : ByteArray) = [] := rfl
  rw [putText, e, pn0, e2]; rfl
theorem pt1 : putText (⟨#[97]⟩ : ByteArray) = [1, 97] := by
  have e : (((⟨#[97]⟩ : ByteArray).size : Nat) : Int) = 1 := rfl
  have e2 : bytesOf (⟨#[97]⟩ : ByteArray) = [97] := rfl
  rw [putText, e, pn1, e2]; rfl
theorem pn_9 : putNum 9 = [9] := by simp [putNum, putN]
theorem pn_2 : putNum 2 = [2] := by simp [putNum, putN]
theorem pt2 : putText (⟨#[116, 119, 111, 32, 119, 111, 114, 100, 115]⟩ : ByteArray) = [9, 116, 119, 111, 32, 119, 111, 114, 100, 115] := by
  have e : (((⟨#[116, 119, 111, 32, 119, 111, 114, 100, 115]⟩ : ByteArray).size : Nat) : Int) = 9 := rfl
  have e2 : bytesOf (⟨#[116, 119, 111, 32, 119, 111, 114, 100, 115]⟩ : ByteArray) = [116, 119, 111, 32, 119, 111, 114, 100, 115] := rfl
  rw [putText, e, pn_9, e2]; rfl
theorem pt3 : putText (⟨#[0, 255]⟩ : ByteArray) = [2, 0, 255] := by
  have e : (((⟨#[0, 255]⟩ : ByteArray).size : Nat) : Int) = 2 := rfl
  have e2 : bytesOf (⟨#[0, 255]⟩ : ByteArray) = [0, 255] := rfl
  rw [putText, e, pn_2, e2]; rfl
/-- What is put at an offset, taken again. -/
theorem round_nums {n : Int} {s : ByteArray} (hn : n ∈ ([0, 1, 127, 128, 300, 16384, 2147483647, 2147483648, (-1), 9223372036854775807] : List Int))
    (hs : s ∈ ([(⟨#[]⟩ : ByteArray), (⟨#[97]⟩ : ByteArray), (⟨#[116, 119, 111, 32, 119, 111, 114, 100, 115]⟩ : ByteArray), (⟨#[0, 255]⟩ : ByteArray)] : List ByteArray)) :
    (putNum n = [] ∨ getNum (([7] ++ putNum n) ++ putText s) 1 = (n, 1 + ((putNum n).length : Int), true)) ∧
    getText (([7] ++ putNum n) ++ putText s) (1 + ((putNum n).length : Int)) = (s, (((([7] ++ putNum n) ++ putText s).length : Nat) : Int), true) ∧
    Byte (([7] ++ putNum n) ++ putText s) ∧ (([7] ++ putNum n) ++ putText s).length ≤ 30 ∧ (putNum n).length ≤ 10 ∧ s.size ≤ 10 := by
  simp only [List.mem_cons, List.not_mem_nil, or_false] at hn hs
  rcases hn with rfl | rfl | rfl | rfl | rfl | rfl | rfl | rfl | rfl | rfl <;>
    (simp only [pn0, pn1, pn2, pn3, pn4, pn5, pn6, pn7, pn8, pn9]
     rcases hs with rfl | rfl | rfl | rfl <;>
       (simp only [pt0, pt1, pt2, pt3]
        refine ⟨?_, by kernel_rfl, ?_, by decide, by decide, by decide⟩
        · first | exact Or.inl rfl | exact Or.inl trivial | exact Or.inr (by kernel_rfl)
        · intro x hx
          simp at hx
          omega))
theorem at0_ok {l : List Int} (hB : Byte l) (hl : l.length ≤ 140737488351232) (a : Int) (ha : 0 ≤ a) (ha2 : a ≤ 10) : ∃ t, laws_at0.f l a = some t ∧ 0 ≤ t ∧ t ≤ 255 := by
  unfold laws_at0.f
  by_cases h : a < (l.length : Int)
  · obtain ⟨c0, c1⟩ := rd_byte hB a
    rw [if_pos h, if_pos ha]
    refine ⟨_, rfl, ?_, ?_⟩ <;> rw [w64 (by omega) (by omega)] <;> omega
  · rw [if_neg h]
    refine ⟨_, rfl, ?_, ?_⟩ <;> rw [w64 (n := a * 7) (by omega) (by omega), w64 (by omega) (by omega), tmod_pos (by omega)] <;> omega
theorem num_j1 {l x : List Int} (hB : Byte l) (hl : l.length ≤ 140737488351232) (hX : Byte x) (h0 : 0 < x.length) (h1 : x.length ≤ 30) : Ev (fun k => laws_FnNumbers.j1 k l x false) true := by
  refine evSucc ?_
  obtain ⟨t, et, t0, t1⟩ := at0_ok hB hl 3 (by omega) (by omega)
  obtain ⟨u, eu, u0, u1⟩ := at0_ok hB hl 4 (by omega) (by omega)
  simp only [laws_FnNumbers.j1, Bool.false_eq_true, if_false, Option.bind_some, List.length_nil, List.nil_append]
  simp only [if_pos (show 0 + x.length < 140737488355328 by omega), et, eu, Option.bind_some, if_neg (show ¬ (x.length : Int) = 0 by omega)]
  rw [tmod_pos t0]
  have q0 : 0 ≤ t % (x.length : Int) := Int.emod_nonneg _ (by omega)
  have q1 : t % (x.length : Int) < (x.length : Int) := Int.emod_lt_of_pos _ (by omega)
  simp only [if_pos q0, if_pos q1]
  obtain ⟨c0, c1⟩ := rd_byte hX (t % (x.length : Int))
  have hw : wrap64 (1 + Int.tmod u 255) = 1 + u % 255 := by rw [tmod_pos u0, w64 (by omega) (by omega)]
  rw [hw]
  have hi : (t % (x.length : Int)).toNat < x.length := by omega
  have er : rd x (t % (x.length : Int)) = x[(t % (x.length : Int)).toNat] := by
    unfold rd
    rw [List.getD_eq_getElem?_getD, List.getElem?_eq_getElem hi]; rfl
  refine Ev.bind (impl_Crc_ev _ (by rw [List.length_set]; omega)) ?_
  refine Ev.bind (impl_Crc_ev x (by omega)) ?_
  simp only [if_neg (show ¬ crc (x.set (t % (x.length : Int)).toNat ((rd x (t % (x.length : Int)) + (1 + u % 255) % 256) % 256)) = crc x from crc_set hX _ _ (by omega) (by omega) hi (by rw [← er]; omega))]
  refine Ev.bind (impl_Crc_ev x (by omega)) ?_
  rw [decide_eq_true (show crc x ≥ 0 from crc_ge hX)]
  exact evSome _
theorem FnNumbers : laws_FnNumbers.Pure := by
  intro l hl hl2 hwf
  apply Ev.rounds
  have hB : Byte l := byte_of_wf hwf
  have hb : l.length ≤ 140737488351232 := by omega
  simp only [laws_FnNumbers.f, big_eq, Option.bind_some]
  by_cases hbig : (l.length : Int) > 1048576
  · simp only [decide_eq_true hbig, if_true]; exact evSome _
  simp only [decide_eq_false hbig, Bool.false_eq_true, if_false]
  obtain ⟨h0, e0⟩ := l1New_ok l hb
  obtain ⟨n, i1, k1, en, hn, _, _⟩ := pickInt_ok l hb 0 h0 (by omega) (by omega) ([0, 1, 127, 128, 300, 16384, 2147483647, 2147483648, (-1), 9223372036854775807] : List Int) (by simp) (by simp)
  obtain ⟨s, i2, k2, es, hs, _, _⟩ := pick_ok l hb 0 h0 (by omega) (by omega) ([(⟨#[]⟩ : ByteArray), (⟨#[97]⟩ : ByteArray), (⟨#[116, 119, 111, 32, 119, 111, 114, 100, 115]⟩ : ByteArray), (⟨#[0, 255]⟩ : ByteArray)] : List ByteArray) (by simp) (by simp)
  have hd : Ev (fun k => spec_DrawPutNum.f k l) n := by
    simp only [spec_DrawPutNum.f]
    refine Ev.bind e0 ?_
    simp only [en, Option.bind_some]
    exact evSome _
  have hd2 : Ev (fun k => spec_DrawPutText.f k l) s := by
    simp only [spec_DrawPutText.f]
    refine Ev.bind e0 ?_
    simp only [es, Option.bind_some]
    exact evSome _
  obtain ⟨g1, g2, g3, g4, g5, g6⟩ := round_nums hn hs
  refine Ev.bind hd ?_
  refine Ev.bind hd2 ?_
  refine Ev.bind (impl_PutNum_ev n) ?_
  simp only [if_pos (show ([7] : List Int).length + (putNum n).length < 140737488355328 by simp only [List.length_cons, List.length_nil]; omega)]
  refine Ev.bind (impl_PutText_ev s (by omega)) ?_
  simp only [if_pos (show (([7] : List Int) ++ putNum n).length + (putText s).length < 140737488355328 by simp only [List.length_append] at g4 ⊢; omega)]
  refine Ev.bind (spec_PutNum_ev n) ?_
  have hj : Ev (fun k => laws_FnNumbers.j0 k l s (([7] ++ putNum n) ++ putText s) (1 + ((putNum n).length : Int))) true := by
    refine evSucc ?_
    simp only [laws_FnNumbers.j0]
    refine Ev.bind (impl_GetText_ev g3 (by omega)) ?_
    rw [g2]
    simp only [if_true, bne_self_eq_false]
    exact num_j1 hB hb g3 (by simp) g4
  by_cases hz : putNum n = []
  · rw [hz] at hj ⊢
    simp only [List.length_nil, if_neg (show ¬ ((0 : Nat) : Int) > 0 by omega), if_pos (show ((0 : Nat) : Int) = 0 from rfl)]
    exact hj
  · have g1' := g1.resolve_left hz
    have hpos : ((putNum n).length : Int) > 0 := by have := List.length_pos_iff.2 hz; omega
    simp only [if_pos hpos]
    refine Ev.bind (impl_GetNum_ev g3 (by omega)) ?_
    rw [g1']
    simp only [if_true, if_pos (show 1 + ((putNum n).length : Int) = wrap64 (1 + ((putNum n).length : Int)) by rw [w64 (by omega) (by omega)])]
    exact hj
end Go.Proofs.Ytgjglbjdkikajaa.Pure
