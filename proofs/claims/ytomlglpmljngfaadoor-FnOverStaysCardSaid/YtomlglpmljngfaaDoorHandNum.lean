/- impl.Number at this program: the int that the text spells, where it is spelt as Itoa spells it and at most 999999; no other. No condition but each theorem's own. -/
import Derived.Test.YtomlglpmljngfaaDoorHandLibN
import Derived.Test.YtomlglpmljngfaaDoorHandIo
import Derived.Shelf.Strconv.AtoiAll
import Derived.Shelf.Strconv.ErrVarAll
import Derived.Lib.AtoiErrMem
import Derived.BigCall
namespace Go.Proofs.YtomlglpmljngfaaDoor.HandIo
open Go.RowKit Go.Proofs.YtomlglpmljngfaaDoorW.PrintWords
/-- The table that Itoa reads, and the two variables that Atoi reads. -/
def TN (w : World) : Prop := TI w ∧ (∃ tp p, w.var? Tryd.prog "strconv.ErrSyntax" = some #[.iface tp p]) ∧ (∃ tp p, w.var? Tryd.prog "strconv.ErrRange" = some #[.iface tp p])
def numR (s : ByteArray) : Int × Bool := match Lib.atoiAll s.data.toList with
  | .ok v => if (0 ≤ v ∧ v ≤ 999999) ∧ Lib.itoa v = s.data.toList then (v, true) else (0, false)
  | _ => (0, false)
theorem digits (n : Int) (h0 : -9223372036854775808 ≤ n) (h1 : n ≤ 9223372036854775807) (w : World) (hT : TI w) :
    Calls Tryd.prog 11 #[.int .i64 n] w fun e w' => e = .returned (.string ⟨(Lib.itoa n).toArray⟩) ∧ Below w.heap.size w w' := by
  go_enter Tryd.func11, Tryd.ntmps11
  go_wp2_with (go_at_call 37; refine (itoa n h0 h1 _ hT).mono ?_; rintro e w' ⟨rfl, hb⟩)
  go_ret
  exact ⟨rfl, hb⟩
theorem atoi_ok (s : ByteArray) (hmax : s.size ≤ 9223372036854775806) (v : Int) (h : Lib.atoiAll s.data.toList = .ok v) (w : World) :
    Calls Tryd.prog 47 #[.string s] w fun e w' => e = .returned (.tuple #[.int .i64 v, .nilIface]) ∧ Below w.heap.size w w' := by
  refine (Any.strconv_Atoi_ok HandLib.laysC172 s hmax v h w).mono ?_
  rintro e w' ⟨rfl, hw⟩
  refine ⟨rfl, ?_⟩
  rcases hw with rfl | ⟨t, rfl⟩
  · exact Below.refl _ _
  · exact Lib.bytesWorld_below _ _ _
theorem atoi_no (s : ByteArray) (hlim : s.size ≤ 281474976710656) (h : ∀ v, Lib.atoiAll s.data.toList ≠ .ok v) (w : World) (hT : TN w) :
    Calls Tryd.prog 47 #[.string s] w fun e w' => ∃ n t p, e = .returned (.tuple #[.int .i64 n, .iface t p]) ∧ Below w.heap.size w w' := by
  obtain ⟨_, ⟨tp, p, hv⟩, ⟨tq, q, hw⟩⟩ := hT
  rcases hc : Lib.atoiAll s.data.toList with v | _ | _
  · exact absurd hc (h v)
  · refine (Any.strconv_Atoi_syntax_var HandLib.laysC172 s hlim hc tp p w hv).mono ?_
    rintro e w' ⟨N, rfl, _, _, hb⟩
    exact ⟨_, _, _, rfl, hb⟩
  · refine (Any.strconv_Atoi_range_var HandLib.laysC172 s hlim hc tq q w hw).mono ?_
    rintro e w' ⟨N, rfl, _, _, hb⟩
    exact ⟨_, _, _, rfl, hb⟩
set_option maxRecDepth 100000 in
theorem number (s : ByteArray) (hlim : s.size ≤ 281474976710656) (w : World) (hT : TN w) :
    Calls Tryd.prog 27 #[.string s] w fun e w' => e = .returned (.tuple #[.int .i64 (numR s).1, .bool (numR s).2]) ∧ Below w.heap.size w w' := by
  by_cases hk : ∃ v, Lib.atoiAll s.data.toList = .ok v
  · obtain ⟨v, h⟩ := hk
    obtain ⟨vb0, vb1⟩ := Lib.atoiAll_bounds h
    by_cases hv : 0 ≤ v ∧ v ≤ 999999
    · have d1 : decide (0 ≤ v) = true := decide_eq_true hv.1
      have d2 : decide (v ≤ 999999) = true := decide_eq_true hv.2
      by_cases he : Lib.itoa v = s.data.toList
      · have hr : numR s = (v, true) := by simp only [numR, h, if_pos (show (0 ≤ v ∧ v ≤ 999999) ∧ Lib.itoa v = s.data.toList from ⟨hv, he⟩)]
        rw [hr]
        have es : (⟨(Lib.itoa v).toArray⟩ : ByteArray) = s := by rw [he]
        go_enter Tryd.func27, Tryd.ntmps27
        go_wp2_with (first | (go_at_call 47; refine (atoi_ok s (by omega) v h _).mono ?_; rintro e w1 ⟨rfl, hb⟩) | (go_at_call 11; refine (digits v (by omega) (by omega) _ (hT.1.below hb)).mono ?_; rintro e w2 ⟨rfl, hb2⟩; rw [es]) | go_in)
        go_ret2
        exact ⟨rfl, below_step hb hb2⟩
      · have hr : numR s = (0, false) := by simp only [numR, h, if_neg (show ¬ ((0 ≤ v ∧ v ≤ 999999) ∧ Lib.itoa v = s.data.toList) from fun z => he z.2)]
        rw [hr]
        have es : (Lib.itoa v == s.toList) = false := by
          rw [Lib.toList_data]
          simpa using he
        have es2 : ¬ Lib.itoa v = s.toList := by
          rw [Lib.toList_data]
          exact he
        go_enter Tryd.func27, Tryd.ntmps27
        go_wp2_with (first | (go_at_call 47; refine (atoi_ok s (by omega) v h _).mono ?_; rintro e w1 ⟨rfl, hb⟩) | (go_at_call 11; refine (digits v (by omega) (by omega) _ (hT.1.below hb)).mono ?_; rintro e w2 ⟨rfl, hb2⟩) | go_in)
        go_ret2
        exact ⟨rfl, below_step hb hb2⟩
    · have hr : numR s = (0, false) := by simp only [numR, h, if_neg (show ¬ ((0 ≤ v ∧ v ≤ 999999) ∧ Lib.itoa v = s.data.toList) from fun z => hv z.1)]
      rw [hr]
      by_cases h0 : 0 ≤ v
      · have d1 : decide (0 ≤ v) = true := decide_eq_true h0
        have d2 : decide (v ≤ 999999) = false := decide_eq_false (fun z => hv ⟨h0, z⟩)
        have d3 : 999999 < v := by omega
        go_enter Tryd.func27, Tryd.ntmps27
        go_wp2_with (first | (go_at_call 47; refine (atoi_ok s (by omega) v h _).mono ?_; rintro e w1 ⟨rfl, hb⟩) | (go_at_call 11; refine (digits v (by omega) (by omega) _ (hT.1.below hb)).mono ?_; rintro e w2 ⟨rfl, hb2⟩) | go_in)
        go_ret2
        exact ⟨rfl, hb⟩
      · have d1 : decide (0 ≤ v) = false := decide_eq_false h0
        have d3 : v < 0 := by omega
        go_enter Tryd.func27, Tryd.ntmps27
        go_wp2_with (first | (go_at_call 47; refine (atoi_ok s (by omega) v h _).mono ?_; rintro e w1 ⟨rfl, hb⟩) | (go_at_call 11; refine (digits v (by omega) (by omega) _ (hT.1.below hb)).mono ?_; rintro e w2 ⟨rfl, hb2⟩) | go_in)
        go_ret2
        exact ⟨rfl, hb⟩
  · have h : ∀ v, Lib.atoiAll s.data.toList ≠ .ok v := fun v hv => hk ⟨v, hv⟩
    have hr : numR s = (0, false) := by
      unfold numR
      split
      · rename_i v hv
        exact absurd hv (h v)
      · rfl
    rw [hr]
    go_enter Tryd.func27, Tryd.ntmps27
    go_wp2_with (first | (go_at_call 47; refine (atoi_no s hlim h _ hT).mono ?_; rintro e w1 ⟨n, t, p, rfl, hb⟩) | (go_at_call 11; fail) | go_in)
    go_ret2
    exact ⟨rfl, hb⟩
theorem TN.below {w w' : World} (h : TN w) (b : Below w.heap.size w w') : TN w' := by
  obtain ⟨h1, ⟨tp, p, h2⟩, ⟨tq, q, h3⟩⟩ := h
  obtain ⟨g, hg⟩ : ∃ g, Tryd.prog.globalNamed "strconv.ErrSyntax" = some g := Option.isSome_iff_exists.1 (by kernel_rfl)
  obtain ⟨g2, hg2⟩ : ∃ g, Tryd.prog.globalNamed "strconv.ErrRange" = some g := Option.isSome_iff_exists.1 (by kernel_rfl)
  exact ⟨h1.below b, ⟨tp, p, Joins.var_stays hg h2 b (Nat.le_refl _)⟩, ⟨tq, q, Joins.var_stays hg2 h3 b (Nat.le_refl _)⟩⟩
theorem zTN {p : Prop} (h : p := by first | exact HT.out | exact Go.Proofs.YtomlglpmljngfaaDoor.HandIo.TN.below HT.out zB) : p := h
end Go.Proofs.YtomlglpmljngfaaDoor.HandIo
