/- The program's Differ gives what the reference's gives, for all trees. -/
import Derived.Test.YtbchblgnpkddpaaPFnExactDifferx3
namespace Go.Proofs.Ytbchblgnpkddpaa.Pure
open Go.RowKit Go.Proofs.Ytbchblgnpkddpaa.PFnExactDiffer Go.Proofs.YtbchblgnpkddpaaW.PrintWords Go.Proofs.YtbchblgnpkddpaaW.PrintLast
set_option linter.unusedVariables false
set_option linter.unusedSimpArgs false

theorem w64 {n : Int} (h0 : -9223372036854775808 ≤ n) (h1 : n ≤ 9223372036854775807) : wrap64 n = n := by
  unfold wrap64; omega
theorem tmod_pos {a b : Int} (h : 0 ≤ a) : Int.tmod a b = a % b := Int.tmod_eq_emod_of_nonneg h
theorem tdiv_pos {a b : Int} (h : 0 ≤ a) : Int.tdiv a b = a / b := Int.tdiv_eq_ediv_of_nonneg h
theorem evSome {α : Type} (r : α) : Ev (fun _ => some r) r := Ev.now r
theorem evEq {α : Type} {g f : Nat → Option α} {r : α} (k : Ev f r) (h : ∀ k, g k = f k) : Ev g r := Ev.congr h k
theorem evStep {α : Type} {g f : Nat → Option α} {r : α} (k : Ev f r) (h : ∀ k, g (k + 1) = f k) : Ev g r := Ev.step h k
theorem evRet {α : Type} {g : Nat → Option α} {r : α} (h : ∀ k, g (k + 1) = some r) : Ev g r := Ev.step h (Ev.now r)
theorem rd_nat {l : List Int} {i : Nat} (h : i < l.length) : rd l (i : Int) = l[i] := by
  unfold rd; simp [List.getD_eq_getElem?_getD, h]
theorem wf_i64 {a : Int} (h : (Lit.int .i64 a).wf = true) : -9223372036854775808 ≤ a ∧ a ≤ 9223372036854775807 := by
  simp [Lit.wf, IntKind.min, IntKind.max, IntKind.bits, IntKind.signed] at h; omega
theorem wf_u8 {a : Int} (h : (Lit.int .u8 a).wf = true) : 0 ≤ a ∧ a < 256 := by
  simp [Lit.wf, IntKind.min, IntKind.max, IntKind.bits, IntKind.signed] at h; omega

theorem toIntS_l (x : List Int) (hx : x.length ≤ 1099511627776) : ∀ (d i : Nat) (y : List Int), i + d = x.length → y.length = x.length →
    Ev (fun k => laws_toIntS.l0 k x y (i : Int)) (y.take i ++ x.drop i) := by
  intro d
  induction d with
  | zero =>
    intro i y h hy
    have e : y.take i ++ x.drop i = y := by
      rw [List.drop_eq_nil_of_le (by omega), List.take_of_length_le (by omega), List.append_nil]
    rw [e]
    refine evRet fun k => ?_
    simp only [laws_toIntS.l0]; rw [if_neg (by omega)]
  | succ d ih =>
    intro i y h hy
    have hi : i < x.length := by omega
    have := ih (i + 1) (y.set i x[i]) (by omega) (by simpa using hy)
    have e : (y.set i x[i]).take (i + 1) ++ x.drop (i + 1) = y.take i ++ x.drop i := by
      rw [List.drop_eq_getElem_cons hi, List.take_succ_eq_append_getElem (by simp; omega), List.take_set_of_le (Nat.le_refl i)]
      simp
    rw [e] at this
    refine evStep this fun k => ?_
    simp only [laws_toIntS.l0]
    rw [if_pos (by omega), if_pos (by omega), if_pos (by omega), rd_nat hi, w64 (by omega) (by omega)]
    rfl
theorem toIntS_ev (x : List Int) (hx : x.length ≤ 1099511627776) : Ev (fun k => laws_toIntS.f k x) x := by
  have := toIntS_l x hx x.length 0 (List.replicate x.length 0) (by omega) (by simp)
  simp only [List.take_zero, List.drop_zero, List.nil_append] at this
  refine evEq this fun k => ?_
  simp only [laws_toIntS.f]
  rw [if_pos (by omega), if_pos (by omega)]
  rfl

theorem eqIntS_l (x : List Int) (hx : x.length ≤ 1099511627776) : ∀ (d i : Nat), i + d = x.length →
    Ev (fun k => laws_eqIntS.l0 k x x (i : Int)) true := by
  intro d
  induction d with
  | zero => 
    intro i h
    refine evRet fun k => ?_
    simp only [laws_eqIntS.l0]; rw [if_neg (by omega)]
  | succ d ih =>
    intro i h
    refine evStep (ih (i + 1) (by omega)) fun k => ?_
    simp only [laws_eqIntS.l0]
    rw [if_pos (by omega), if_pos (by omega), if_pos (by omega), if_pos trivial, w64 (by omega) (by omega)]
    rfl
theorem eqIntS_ev (x : List Int) (hx : x.length ≤ 1099511627776) : Ev (fun k => laws_eqIntS.f k x x) true := by
  refine evEq (eqIntS_l x hx x.length 0 (by omega)) fun k => ?_
  simp only [laws_eqIntS.f]
  rw [if_pos trivial]
  rfl

def markI (n : Nat) (m : Int) : List Int := (List.range n).map fun (j : Nat) => (m + (j : Int))
theorem markI_get {n : Nat} {m : Int} {i : Nat} (h : i < (markI n m).length) : (markI n m)[i] = (m + (i : Int)) := by
  simp only [markI, List.getElem_map, List.getElem_range]
theorem markI_len (n : Nat) (m : Int) : (markI n m).length = n := by unfold markI; simp
theorem markIntS_l (m : Int) (hm0 : 0 ≤ m) (hm1 : m ≤ 1099511627776) : ∀ (d i : Nat) (x : List Int), x.length ≤ 1099511627776 → i + d = x.length → (∀ j (h : j < x.length), j < i → x[j] = (m + (j : Int))) →
    Ev (fun k => laws_markIntS.l0 k x (m + (i : Int)) (i : Int)) (m + (x.length : Int), markI x.length m) := by
  intro d
  induction d with
  | zero =>
    intro i x hx h hj
    have e : markI x.length m = x := by
      apply List.ext_getElem (markI_len _ _)
      intro j h1 h2
      rw [markI_get, hj j h2 (by omega)]
    rw [e]
    refine evRet fun k => ?_
    simp only [laws_markIntS.l0]; rw [if_neg (by omega), show (i : Int) = x.length by omega]
  | succ d ih =>
    intro i x hx h hj
    have hi : i < x.length := by omega
    have h1 := ih (i + 1) (x.set i ((m + (i : Int)))) (by simpa using hx) (by simp; omega) (by
      intro j h1 h2
      simp only [List.length_set] at h1
      rw [List.getElem_set]
      split
      · rename_i e; rw [e]
      · exact hj j h1 (by omega))
    rw [List.length_set] at h1
    refine evStep h1 fun k => ?_
    simp only [laws_markIntS.l0]
    rw [if_pos (by omega), if_pos (by omega), w64 (n := m + (i : Int) + 1) (by omega) (by omega), w64 (n := (i : Int) + 1) (by omega) (by omega), show m + (i : Int) + 1 = m + ((i + 1 : Nat) : Int) by omega]
    rfl
theorem markIntS_ev (x : List Int) (hx : x.length ≤ 1099511627776) (m : Int) (hm0 : 0 ≤ m) (hm1 : m ≤ 1099511627776) : Ev (fun k => laws_markIntS.f k x m) (m + (x.length : Int), markI x.length m) := by
  have := markIntS_l m hm0 hm1 x.length 0 x hx (by omega) (fun j _ h => absurd h (by omega))
  exact evEq this fun k => by simp only [laws_markIntS.f]; simp
theorem heldIntS_l (m : Int) (hm0 : 0 ≤ m) (hm1 : m ≤ 1099511627776) (n : Nat) (hn : n ≤ 1099511627776) : ∀ (d i : Nat), i + d = n →
    Ev (fun k => laws_heldIntS.l0 k (markI n m) (m + (i : Int)) (i : Int)) (m + (n : Int)) := by
  intro d
  induction d with
  | zero =>
    intro i h
    refine evRet fun k => ?_
    simp only [laws_heldIntS.l0]; rw [if_neg (by rw [markI_len]; omega), show (i : Int) = n by omega]
  | succ d ih =>
    intro i h
    have hi : i < (markI n m).length := by rw [markI_len]; omega
    refine evStep (ih (i + 1) (by omega)) fun k => ?_
    simp only [laws_heldIntS.l0]
    rw [if_pos (by omega), if_pos (by omega), if_pos (by rw [rd_nat hi, markI_get]), w64 (n := m + (i : Int) + 1) (by omega) (by omega), w64 (n := (i : Int) + 1) (by omega) (by omega), show m + (i : Int) + 1 = m + ((i + 1 : Nat) : Int) by omega]
    rfl
theorem heldIntS_ev (n : Nat) (hn : n ≤ 1099511627776) (m : Int) (hm0 : 0 ≤ m) (hm1 : m ≤ 1099511627776) : Ev (fun k => laws_heldIntS.f k (markI n m) m) (m + (n : Int)) := by
  have := heldIntS_l m hm0 hm1 n hn n 0 (by omega)
  exact evEq this fun k => by simp only [laws_heldIntS.f]; simp

theorem toTree_ev (l : List Int) (r : Int) (hl : l.length ≤ 1099511627776) : Ev (fun k => laws_toTree.f k l r) (l, r) := by
  simp only [laws_toTree.f]
  refine Ev.bind (toIntS_ev l hl) ?_
  exact evSome _
theorem eqTree_ev (l : List Int) (r : Int) (hl : l.length ≤ 1099511627776) : Ev (fun k => laws_eqTree.f k l r l r) true := by
  simp only [laws_eqTree.f]
  refine Ev.bind (eqIntS_ev l hl) ?_
  simp only [if_true]
  exact evSome _
theorem markTree_ev (l : List Int) (r : Int) (hl : l.length ≤ 1099511627776) (m : Int) (hm0 : 0 ≤ m) (hm1 : m ≤ 1099511627776) : Ev (fun k => laws_markTree.f k l r m) (m + (l.length : Int), markI l.length m) := by
  simp only [laws_markTree.f]
  refine Ev.bind (markIntS_ev l hl m hm0 hm1) ?_
  exact evSome _
theorem szTree_some (l : List Int) (r n : Int) (h0 : 0 ≤ n) (h1 : n ≤ 1048576) (hl : l.length ≤ 140737488351232) : ∃ m, laws_szTree.f l r n = some m ∧ m ≤ n ∧ (0 ≤ m → l.length ≤ 1048576 ∧ m + (l.length : Int) = n) := by
  unfold laws_szTree.f laws_szIntS.f
  rw [w64 (by omega) (by omega)]
  by_cases h : n - (l.length : Int) < 0
  · rw [if_pos h]
    exact ⟨-1, by simp, by omega, by omega⟩
  · rw [if_neg h]
    exact ⟨n - (l.length : Int), by simp only [Option.bind_some]; rw [if_neg h], by omega, by omega⟩

def differB (l : List Int) (b : List Int) (i : Nat) : Bool := decide (l.length = 4) && decide (b.length = 4) && decide (rd l (i : Int) = rd b (i : Int))
def differ (l : List Int) (ra : Int) (b : List Int) (rb : Int) : List Int := if ra = rb then [] else ((List.range 4).filter fun (i : Nat) => !differB l b i).map fun (i : Nat) => (i : Int)
def differFrom (l b : List Int) : Nat → Nat → List Int
  | 0, _ => []
  | d + 1, i => if differB l b i = true then differFrom l b d (i + 1) else (i : Int) :: differFrom l b d (i + 1)
def differE (l : List Int) (ra : Int) (b : List Int) (rb : Int) : List Int := if ra = rb then [] else differFrom l b 4 0
theorem differFrom_len (l b : List Int) : ∀ (d i : Nat), (differFrom l b d i).length ≤ d
  | 0, _ => by simp [differFrom]
  | d + 1, i => by
    have := differFrom_len l b d (i + 1)
    unfold differFrom
    split
    · omega
    · simp only [List.length_cons]; omega
theorem differE_len (l : List Int) (ra : Int) (b : List Int) (rb : Int) : (differE l ra b rb).length ≤ 4 := by
  unfold differE
  split
  · simp
  · exact differFrom_len l b 4 0
theorem spec_Differ_l (l : List Int) (ra : Int) (b : List Int) (rb : Int) : ∀ (d i : Nat) (acc : List Int), i + d = 4 → acc.length ≤ i → Ev (fun k => spec_Differ.l0 k acc (i : Int) l ra b rb) (acc ++ differFrom l b d i) := by
  intro d
  induction d with
  | zero => intro i acc h _; exact evRet fun k => by simp only [spec_Differ.l0]; rw [if_neg (by omega)]; simp [differFrom]
  | succ d ih =>
    intro i acc h ha
    have hadd : Ev (fun k => spec_Differ.l0 k (acc ++ [(i : Int)]) (wrap64 ((i : Int) + 1)) l ra b rb) (acc ++ (i : Int) :: differFrom l b d (i + 1)) := by
      have := ih (i + 1) (acc ++ [(i : Int)]) (by omega) (by simp; omega)
      rw [List.append_assoc, List.singleton_append] at this
      rw [w64 (by omega) (by omega)]
      exact this
    have hskip : Ev (fun k => spec_Differ.l0 k acc (wrap64 ((i : Int) + 1)) l ra b rb) (acc ++ differFrom l b d (i + 1)) := by
      have := ih (i + 1) acc (by omega) (by omega)
      rw [w64 (by omega) (by omega)]
      exact this
    unfold differFrom
    by_cases hl : l.length = 4
    · by_cases hb : b.length = 4
      · by_cases he : rd l (i : Int) = rd b (i : Int)
        · rw [if_pos (by simp [differB, hl, hb, he])]
          refine evStep hskip fun k => ?_
          simp only [spec_Differ.l0]
          rw [if_pos (by omega), if_pos (by omega), if_pos (by omega), if_pos (by omega), if_pos (by omega), if_pos (by omega), if_pos he]
        · rw [if_neg (by simp [differB, hl, hb, he])]
          refine evStep hadd fun k => ?_
          simp only [spec_Differ.l0]
          rw [if_pos (by omega), if_pos (by omega), if_pos (by omega), if_pos (by omega), if_pos (by omega), if_pos (by omega), if_neg he, if_pos (by omega)]
      · rw [if_neg (by simp [differB, hb])]
        refine evStep hadd fun k => ?_
        simp only [spec_Differ.l0]
        rw [if_pos (by omega), if_pos (by omega), if_neg (by omega), if_pos (by omega)]
    · rw [if_neg (by simp [differB, hl])]
      refine evStep hadd fun k => ?_
      simp only [spec_Differ.l0]
      rw [if_pos (by omega), if_neg (by omega), if_pos (by omega)]
theorem spec_Differ_ev (l : List Int) (ra : Int) (b : List Int) (rb : Int) : Ev (fun k => spec_Differ.f k l ra b rb) (differE l ra b rb) := by
  simp only [spec_Differ.f, Option.bind_some]
  unfold differE
  by_cases h : ra = rb
  · simp only [if_pos h]; exact evSome _
  · simp only [if_neg h]
    exact spec_Differ_l l ra b rb 4 0 [] (by omega) (by simp)
theorem impl_Differ_l (l : List Int) (ra : Int) (b : List Int) (rb : Int) (hl : l.length = 4) (hb : b.length = 4) : ∀ (d i : Nat) (acc : List Int), i + d = 4 → acc.length ≤ i → Ev (fun k => impl_Differ.l0 k acc true (i : Int) l ra b rb) (acc ++ differFrom l b d i) := by
  intro d
  induction d with
  | zero => intro i acc h _; exact evRet fun k => by simp only [impl_Differ.l0]; rw [if_neg (by omega)]; simp [differFrom]
  | succ d ih =>
    intro i acc h ha
    unfold differFrom
    by_cases he : rd l (i : Int) = rd b (i : Int)
    · rw [if_pos (by simp [differB, hl, hb, he])]
      refine evStep (ih (i + 1) acc (by omega) (by omega)) fun k => ?_
      simp only [impl_Differ.l0]
      rw [if_pos (by omega), if_pos trivial, if_pos (by omega), if_pos (by omega), if_pos (by omega), if_pos he, w64 (by omega) (by omega)]
      rfl
    · rw [if_neg (by simp [differB, hl, hb, he])]
      have := ih (i + 1) (acc ++ [(i : Int)]) (by omega) (by simp; omega)
      rw [List.append_assoc, List.singleton_append] at this
      refine evStep this fun k => ?_
      simp only [impl_Differ.l0]
      rw [if_pos (by omega), if_pos trivial, if_pos (by omega), if_pos (by omega), if_pos (by omega), if_neg he, if_pos (by omega), w64 (by omega) (by omega)]
      rfl
theorem impl_Differ_n (l : List Int) (ra : Int) (b : List Int) (rb : Int) (hn : ¬ (l.length = 4 ∧ b.length = 4)) : ∀ (d i : Nat) (acc : List Int), i + d = 4 → acc.length ≤ i → Ev (fun k => impl_Differ.l0 k acc false (i : Int) l ra b rb) (acc ++ differFrom l b d i) := by
  intro d
  induction d with
  | zero => intro i acc h _; exact evRet fun k => by simp only [impl_Differ.l0]; rw [if_neg (by omega)]; simp [differFrom]
  | succ d ih =>
    intro i acc h ha
    unfold differFrom
    have hf : ¬ differB l b i = true := by
      intro h
      simp only [differB, Bool.and_eq_true, decide_eq_true_eq] at h
      exact hn h.1
    rw [if_neg hf]
    have := ih (i + 1) (acc ++ [(i : Int)]) (by omega) (by simp; omega)
    rw [List.append_assoc, List.singleton_append] at this
    refine evStep this fun k => ?_
    simp only [impl_Differ.l0]
    rw [if_pos (by omega), if_neg (by simp), if_pos (by omega), w64 (by omega) (by omega)]
    rfl
theorem impl_Differ_ev (l : List Int) (ra : Int) (b : List Int) (rb : Int) : Ev (fun k => impl_Differ.f k l ra b rb) (differE l ra b rb) := by
  simp only [impl_Differ.f, Option.bind_some]
  unfold differE
  by_cases h : ra = rb
  · simp only [if_pos h]; exact evSome _
  · simp only [if_neg h]
    by_cases hl : l.length = 4
    · simp only [if_pos (show (l.length : Int) = 4 by omega)]
      by_cases hb : b.length = 4
      · rw [show ((b.length : Int) == 4) = true from beq_iff_eq.2 (by omega)]
        exact evStep (impl_Differ_l l ra b rb hl hb 4 0 [] (by omega) (by simp)) fun k => by simp only [impl_Differ.j0]; rfl
      · rw [show ((b.length : Int) == 4) = false from beq_eq_false_iff_ne.2 (by omega)]
        exact evStep (impl_Differ_n l ra b rb (fun h => hb h.2) 4 0 [] (by omega) (by simp)) fun k => by simp only [impl_Differ.j0]; rfl
    · simp only [if_neg (show ¬ (l.length : Int) = 4 by omega)]
      exact evStep (impl_Differ_n l ra b rb (fun h => hl h.1) 4 0 [] (by omega) (by simp)) fun k => by simp only [impl_Differ.j0]; rfl

theorem FnExactDiffer : laws_FnExactDiffer.Pure := by
  intro l r b q _ hl _ _ _ hb _ _
  apply Ev.rounds
  obtain ⟨n, hn, hn1, hn2⟩ := szTree_some l r 1048576 (by omega) (by omega) (by omega)
  simp only [laws_FnExactDiffer.f, hn, Option.bind_some]
  by_cases hn0 : n < 0
  · simp only [if_pos hn0]; exact evSome _
  simp only [if_neg hn0]
  obtain ⟨hl1, hl2⟩ := hn2 (by omega)
  obtain ⟨m, hm, hm1, hm2⟩ := szTree_some b q n (by omega) (by omega) (by omega)
  simp only [hm, Option.bind_some]
  by_cases hm0 : m < 0
  · simp only [if_pos hm0]; exact evSome _
  simp only [if_neg hm0]
  obtain ⟨hb1, hb2⟩ := hm2 (by omega)
  have hd := differE_len l r b q
  refine Ev.bind (toTree_ev l r (by omega)) ?_
  refine Ev.bind (toTree_ev b q (by omega)) ?_
  refine Ev.bind (spec_Differ_ev l r b q) ?_
  refine Ev.bind (toTree_ev l r (by omega)) ?_
  refine Ev.bind (toTree_ev b q (by omega)) ?_
  refine Ev.bind (impl_Differ_ev l r b q) ?_
  refine Ev.bind (eqIntS_ev _ (by omega)) ?_
  simp only [if_true]
  refine Ev.bind (toTree_ev l r (by omega)) ?_
  refine Ev.bind (eqTree_ev l r (by omega)) ?_
  simp only [if_true]
  refine Ev.bind (toTree_ev b q (by omega)) ?_
  refine Ev.bind (eqTree_ev b q (by omega)) ?_
  simp only [if_true]
  refine Ev.bind (markTree_ev l r (by omega) 1 (by omega) (by omega)) ?_
  refine Ev.bind (markTree_ev b q (by omega) _ (by omega) (by omega)) ?_
  simp only [if_neg (show ¬ (1 + (l.length : Int) + (b.length : Int) < 0) by omega)]
  refine Ev.bind (eqIntS_ev _ (by omega)) ?_
  simp only [Bool.not_true]
  have key : Ev (fun k => (laws_markIntS.f k (differE l r b q) 1).bind fun bt197 => ((laws_heldIntS.f k bt197.2 1).bind fun t199 => (if t199 < 0 then (some false) else (if t199 = bt197.1 then ((laws_toTree.f k l r).bind fun bt200 => ((laws_toTree.f k b q).bind fun bt204 => ((impl_Differ.f k bt200.1 bt200.2 bt204.1 bt204.2).bind fun t208 => ((laws_eqIntS.f k t208 (differE l r b q)).bind fun t211 => (if t211 = true then ((laws_heldIntS.f k bt197.2 1).bind fun t212 => (if t212 < 0 then (some false) else (if t212 = bt197.1 then (some true) else (some false)))) else (some false)))))) else (some false))))) true := by
    refine Ev.bind (markIntS_ev _ (by omega) 1 (by omega) (by omega)) ?_
    refine Ev.bind (heldIntS_ev _ (by omega) 1 (by omega) (by omega)) ?_
    simp only [if_neg (show ¬ (1 + ((differE l r b q).length : Int) < 0) by omega), if_true]
    refine Ev.bind (toTree_ev l r (by omega)) ?_
    refine Ev.bind (toTree_ev b q (by omega)) ?_
    refine Ev.bind (impl_Differ_ev l r b q) ?_
    refine Ev.bind (eqIntS_ev _ (by omega)) ?_
    simp only [if_true]
    refine Ev.bind (heldIntS_ev _ (by omega) 1 (by omega) (by omega)) ?_
    simp only [if_neg (show ¬ (1 + ((differE l r b q).length : Int) < 0) by omega), if_true]
    exact evSome _
  exact evStep key fun k => by simp only [laws_FnExactDiffer.j0]; rw [if_neg (by simp)]

end Go.Proofs.Ytbchblgnpkddpaa.Pure
