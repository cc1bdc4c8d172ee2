-- by a program of this session, for this seat
import Derived.Test.YtomlglpmljngfaaDoorZ
import Derived.Test.YtomlglpmljngfaaDoorP0
namespace Go.Proofs.YtomlglpmljngfaaDoor.P
open Go.RowKit Go.Proofs.YtomlglpmljngfaaDoorW.PrintWords Go.Proofs.YtomlglpmljngfaaDoorW.PrintLast Go.Proofs.YtomlglpmljngfaaDoorW.PrintMore Go.Proofs.YtomlglpmljngfaaDoor.Z
attribute [local go_sem] max2_int min2_int max_two min_two max_three min_three max_four min_four   -- for this text's walks alone
set_option linter.unusedVariables false
set_option linter.unusedSimpArgs false

/-! ### spec_l3Copy: function 72 -/
def spec_l3Copy.f (l0_0 : List (S63)) (l0_1 : List (S68)) : Option ((List (S63)) × (List (S68))) := (some (([] : List (S63)) : List (S63))).bind fun y648 => (if y648.length + l0_0.length < 2513169434916 then ((some (([] : List (S68)) : List (S68))).bind fun y654 => (if y654.length + l0_1.length < 8796093022208 then (some ((y648 ++ l0_0), (y654 ++ l0_1))) else (none))) else (none))
def spec_l3Copy.T1 : Bool × List (List Nat × List Nat) := (true, [([], []), ([], []), ([1], [1]), ([0, 2], [0, 2]), ([], []), ([], []), ([5], [5]), ([4, 6, 3], [4, 6]), ([3, 7], [3, 7]), ([8, 7, 0, 1, 2, 3, 4, 5, 6, 7, 8], [8])])
def spec_l3Copy.B1 : List Nat := [0, 0, 2, 7, 0, 0, 32, 127, 255, 511]
theorem spec_l3Copy.tab1 : rtab .any (opsOf Tryd.f72 1) = spec_l3Copy.T1 := by kernel_rfl
theorem spec_l3Copy.bits1 : waitsOk spec_l3Copy.T1.2 spec_l3Copy.B1 = true := by kernel_rfl
set_option maxHeartbeats 8000000 in
set_option maxRecDepth 100000 in
theorem spec_l3Copy.calls (A0_0 : Option Addr) (c0_0 : Nat) (l0_0 : List (S63)) (A0_1 : Option Addr) (c0_1 : Nat) (l0_1 : List (S68)) (r1 : List (S63)) (r2 : List (S68)) (w : World) (hr0_0 : Kd.C k63 w A0_0 l0_0.length l0_0) (hc0_0 : l0_0.length ≤ c0_0) (hr0_1 : Kd.C k68 w A0_1 l0_1.length l0_1) (hc0_1 : l0_1.length ≤ c0_1) (h : spec_l3Copy.f l0_0 l0_1 = some (r1, r2)) :
  Calls Tryd.prog 72 #[.agg #[.slice A0_0 l0_0.length c0_0, .slice A0_1 l0_1.length c0_1]] w fun e w' => ∃ v0_ v1_ : Value, e = .returned (.agg #[v0_, v1_]) ∧ Kd.R k63 63 w' w.heap.size (fun _ => True) v0_ r1 ∧ Kd.R k68 68 w' w.heap.size (fun _ => True) v1_ r2 ∧ Below w.heap.size w w' := by
 have hu45 := Tryd.underlying45; have HR0_0 := zm hr0_0; have HC0_0 := zm hc0_0; clear hr0_0 hc0_0; have HR0_1 := zm hr0_1; have HC0_1 := zm hc0_1; clear hr0_1 hc0_1; have HB := zm (Below.refl w.heap.size w); have H : ((some (([] : List (S63)) : List (S63))).bind fun y648 => (if y648.length + l0_0.length < 2513169434916 then ((some (([] : List (S68)) : List (S68))).bind fun y654 => (if y654.length + l0_1.length < 8796093022208 then (some ((y648 ++ l0_0), (y654 ++ l0_1))) else (none))) else (none))) = some (r1, r2) := h; clear h
 obtain ⟨y648, hy648⟩ : ∃ y_ : List (S63), y_ = (([] : List (S63))) := ⟨_, rfl⟩
 replace H : (if y648.length + l0_0.length < 2513169434916 then ((some (([] : List (S68)) : List (S68))).bind fun y654 => (if y654.length + l0_1.length < 8796093022208 then (some ((y648 ++ l0_0), (y654 ++ l0_1))) else (none))) else (none)) = some (r1, r2) := by first | (rw [hy648]; with_reducible exact H) | (have H2_ := (Option.bind_some _ _).symm.trans H; rw [hy648]; with_reducible exact H2_) | (have H2_ := (Option.bind_some _ _).symm.trans H; with_reducible exact H2_) | with_reducible exact H | (rw [hy648]; exact H) | exact H
 have Ny648 := zm hy648; clear hy648
 by_cases c2 : y648.length + l0_0.length < 2513169434916
 ·rw [if_pos c2] at H; have LMc2 := zm c2; clear c2
  obtain ⟨y651, hy651⟩ : ∃ y_ : List (S63), y_ = (y648 ++ l0_0) := ⟨_, rfl⟩
  replace H : ((some (([] : List (S68)) : List (S68))).bind fun y654 => (if y654.length + l0_1.length < 8796093022208 then (some (y651, (y654 ++ l0_1))) else (none))) = some (r1, r2) := by first | (rw [hy651]; with_reducible exact H) | (have H2_ := (Option.bind_some _ _).symm.trans H; rw [hy651]; with_reducible exact H2_) | (have H2_ := (Option.bind_some _ _).symm.trans H; with_reducible exact H2_) | with_reducible exact H | (rw [hy651]; exact H) | exact H
  have Ny651 := zm hy651; clear hy651
  obtain ⟨y654, hy654⟩ : ∃ y_ : List (S68), y_ = (([] : List (S68))) := ⟨_, rfl⟩
  replace H : (if y654.length + l0_1.length < 8796093022208 then (some (y651, (y654 ++ l0_1))) else (none)) = some (r1, r2) := by first | (rw [hy654]; with_reducible exact H) | (have H2_ := (Option.bind_some _ _).symm.trans H; rw [hy654]; with_reducible exact H2_) | (have H2_ := (Option.bind_some _ _).symm.trans H; with_reducible exact H2_) | with_reducible exact H | (rw [hy654]; exact H) | exact H
  have Ny654 := zm hy654; clear hy654
  by_cases c3 : y654.length + l0_1.length < 8796093022208
  ·rw [if_pos c3] at H; have LMc3 := zm c3; clear c3
   obtain ⟨y657, hy657⟩ : ∃ y_ : List (S68), y_ = (y654 ++ l0_1) := ⟨_, rfl⟩
   replace H : (some (y651, y657)) = some (r1, r2) := by first | (rw [hy657]; with_reducible exact H) | (have H2_ := (Option.bind_some _ _).symm.trans H; rw [hy657]; with_reducible exact H2_) | (have H2_ := (Option.bind_some _ _).symm.trans H; with_reducible exact H2_) | with_reducible exact H | (rw [hy657]; exact H) | exact H
   have Ny657 := zm hy657; clear hy657; simp only [Option.some.injEq, Prod.mk.injEq] at H; obtain ⟨rfl, rfl⟩ := H; go_enter Tryd.func72, Tryd.ntmps72
   try go_wp2_with (first | ((with_reducible refine gate_dst (N := 1) rfl ?_); refine zbox 1 #[.slice A0_0 l0_0.length c0_0, .slice A0_1 l0_1.length c0_1] 45 ?_; intro AH hg w4 hbox hb; have AB := zm (hbox); have AT := zge w hg zB; have AR := zge w hg zB; replace HB := zm (below_step zB hb); clear hb hbox hg) | ((with_reducible refine gate_dst (N := 2) rfl ?_); refine zbox 2 #[.slice none 0 0, .slice none 0 0] 45 ?_; intro AG hg w5 hbox hb; have AA := zm (hbox); have AU := zge w hg zB; have AS := zge w hg zB; replace HB := zm (below_step zB hb); have AF := zlt hg (zb AB); have AI := zgt hg (zb AB); replace AB := zy AB hb; clear hb hbox hg))
   replace AB := zq AB; replace AA := zq AA; replace HB := zm (below_drew1 HB.out)
   refine start_ (n := 10) (S := fun w' => w'.cell? ⟨AH, 0, none⟩ = some (.slice A0_0 l0_0.length c0_0) ∧ w'.cell? ⟨AH, 1, none⟩ = some (.slice A0_1 l0_1.length c0_1)) (ds := []) (zl 10 0) (by kernel_rfl) rfl rfl zS (fun hHeld => ?_); refine with_tabW spec_l3Copy.tab1 spec_l3Copy.bits1 (fun HT_ HW_ => ?_)
   generalize w5.drew = w6 at AB AA HB hHeld ⊢
   refine zu 1 4 10 2 ?_
   refine zu 5 8 10 34 ?_
   refine zv 2 5 10 38 ?_
   refine zv 6 9 10 102 ?_
   refine join_ (σ := Value × Value × Value) 3 #[true, true, true, true, true, true, true, false, false, false] (fun s_ => [(3, s_.1), (6, s_.2.1), (7, s_.2.2)]) (fun s_ w' => (w'.cell? ⟨AH, 0, none⟩ = some (.slice A0_0 l0_0.length c0_0) ∧ w'.cell? ⟨AH, 1, none⟩ = some (.slice A0_1 l0_1.length c0_1)) ∧ (Kd.R k63 63 w' w.heap.size (fun _ => True) s_.2.1 y651) ∧ (Kd.R k68 68 w' w.heap.size (fun _ => True) s_.2.2 y654) ∧ (w'.heap[AH]? = some (.cells #[.slice A0_0 l0_0.length c0_0, .slice A0_1 l0_1.length c0_1] 45 (0, 0))) ∧ (w'.heap[AG]? = some (.cells #[.slice none 0 0, .slice none 0 0] 45 (0, 0))) ∧ (Below w.heap.size w w')) ?_ ?_
   rotate_left
   ·intro hCont
    refine two_ (i := 0) (j := 4) (Ni := some 3) (Nj := some 7) #[true, true, true, false, false, true, true, false, false, false] #[false, true, true, false, true, true, true, false, false, false] rfl rfl rfl rfl (two_of HT_.out (by kernel_rfl)) (by decide) (by decide) (fun K hK => ?_) (fun K hK => ?_)
    ·skip
     refine Kd.R_lit_step k63 _ 63 ?hg (N := 3) ?hd (xs := ([] : List (S63))) (inner := []) (ok := fun _ => True) (okp := fun _ => True) ?hr ?hp (fun _ hk => hk) trivial (Below.refl _ _) (Nat.le_refl _) (by simp) ?_; (case hd => rfl); (case hg => rfl); (case hr => first | (go_simp; done) | (go_simp; rfl)); (case hp => exact (Reps.none _ _))
     intro v649 w7 ho8 hb hg_ hnew_; clear hg_ hnew_
     (first | rw [← Ny648.out] at ho8 | (simp only [Int.reduceToNat] at ho8; rw [← Ny648.out] at ho8))
     have AC := zm (Kd.R_lower ho8 (below_size zB)); replace AB := zy AB hb; replace AA := zy AA hb; replace HB := zm (below_step zB hb); clear hb ho8; refine hK.out _ _ zS (fun hHeld => ?_); clear hK K; refine zn (N := some 3) ?_
     refine two_ (i := 3) (j := 4) (Ni := some 6) (Nj := some 7) #[true, true, true, true, false, true, true, false, false, false] #[true, true, true, false, true, true, true, false, false, false] rfl rfl rfl rfl (two_of HT_.out (by kernel_rfl)) (by decide) (by decide) (fun K hK => ?_) (fun K hK => ?_)
     ·skip
      refine Kd.R_append_rows_step k63 (w0 := w) w.heap.size (by rfl) (.tmp 3) (.tmp 5) 42 63 (.agg #[(.int .i64 0), (.int .i64 0), (.int .i64 0), (.int .i64 0), (.int .i64 0), (.string ⟨#[]⟩)]) 56 rfl Tryd.underlying42 info63 rfl (by decide) (by omega) v649 y648 l0_0 _ _ _ (fun _ => True) (fun _ => False) rfl rfl ?aO ?aR (fun _ _ h => h) (fun _ h => h.elim) ?aF ?aB ?aS ?aL ?_
      (case aR => repeat (first | exact (Kd.C_below HR0_0.out HB.out) | (with_reducible refine Kd.C_alloc ?_ _) | (with_reducible refine Kd.C_drewN ?_ _) | (with_reducible refine Kd.C_drew ?_)))
      (case aB => exact zB)
      (case aF => exact (fun _ _ => trivial))
      (case aO => exact (zr AC))
      (case aS => exact (below_size zB))
      (case aL => have := LMc2.out; omega)
      intro v652 w9 ho hb hg hat; rw [← Ny651.out] at ho; replace AB := zgr hg (zb AB) (Kd.R_ne AC.out AB.out (by decide)); replace AA := zgr hg (zb AA) (Kd.R_ne AC.out AA.out (by decide)); replace HB := zm hb; have AE := zm (ho); clear AC; clear ho hb hg hat; refine hK.out _ _ zS (fun hHeld => ?_); clear hK K; refine zn (N := some 6) ?_; refine zo 4 (some 7) (zl 10 127) (fun K hK => ?_)
      refine Kd.R_lit_step k68 _ 68 ?hg (N := 7) ?hd (xs := ([] : List (S68))) (inner := []) (ok := fun _ => True) (okp := fun _ => True) ?hr ?hp (fun _ hk => hk) trivial (Below.refl _ _) (Nat.le_refl _) (by simp) ?_; (case hd => rfl); (case hg => rfl); (case hr => first | (go_simp; done) | (go_simp; rfl)); (case hp => exact (Reps.none _ _))
      intro v655 AV ho11 hb hg_ hnew_; clear hg_ hnew_
      (first | rw [← Ny654.out] at ho11 | (simp only [Int.reduceToNat] at ho11; rw [← Ny654.out] at ho11))
      replace AE := zw AE hb; have AD := zm (Kd.R_lower ho11 (below_size zB)); replace AB := zy AB hb; replace AA := zy AA hb; replace HB := zm (below_step zB hb); clear hb ho11; refine hK.out _ _ zS (fun hHeld => ?_); clear hK K; refine zn (N := some 7) ?_
      exact norm_ (by simp only [putAll, Act.put, List.setIfInBounds_toArray, List.set_cons_zero, List.set_cons_succ]) (hCont (v649, v652, v655) _ ⟨hHeld, (zr AE), (zr AD), (zb AB), (zb AA), zB⟩)
     ·skip
      refine Kd.R_lit_step k68 _ 68 ?hg (N := 7) ?hd (xs := ([] : List (S68))) (inner := []) (ok := fun _ => True) (okp := fun _ => True) ?hr ?hp (fun _ hk => hk) trivial (Below.refl _ _) (Nat.le_refl _) (by simp) ?_; (case hd => rfl); (case hg => rfl); (case hr => first | (go_simp; done) | (go_simp; rfl)); (case hp => exact (Reps.none _ _))
      intro v655 w9 ho10 hb hg_ hnew_; clear hg_ hnew_
      (first | rw [← Ny654.out] at ho10 | (simp only [Int.reduceToNat] at ho10; rw [← Ny654.out] at ho10))
      replace AC := zw AC hb; have AD := zm (Kd.R_lower ho10 (below_size zB)); replace AB := zy AB hb; replace AA := zy AA hb; replace HB := zm (below_step zB hb); clear hb ho10; refine hK.out _ _ zS (fun hHeld => ?_); clear hK K; refine zn (N := some 7) ?_; refine zo 3 (some 6) (zl 10 127) (fun K hK => ?_)
      refine Kd.R_append_rows_step k63 (w0 := w) w.heap.size (by rfl) (.tmp 3) (.tmp 5) 42 63 (.agg #[(.int .i64 0), (.int .i64 0), (.int .i64 0), (.int .i64 0), (.int .i64 0), (.string ⟨#[]⟩)]) 56 rfl Tryd.underlying42 info63 rfl (by decide) (by omega) v649 y648 l0_0 _ _ _ (fun _ => True) (fun _ => False) rfl rfl ?aO ?aR (fun _ _ h => h) (fun _ h => h.elim) ?aF ?aB ?aS ?aL ?_
      (case aR => repeat (first | exact (Kd.C_below HR0_0.out HB.out) | (with_reducible refine Kd.C_alloc ?_ _) | (with_reducible refine Kd.C_drewN ?_ _) | (with_reducible refine Kd.C_drew ?_)))
      (case aB => exact zB)
      (case aF => exact (fun _ _ => trivial))
      (case aO => exact (zr AC))
      (case aS => exact (below_size zB))
      (case aL => have := LMc2.out; omega)
      intro v652 AQ ho hb hg hat; rw [← Ny651.out] at ho; replace AB := zgr hg (zb AB) (Kd.R_ne AC.out AB.out (by decide)); replace AA := zgr hg (zb AA) (Kd.R_ne AC.out AA.out (by decide)); replace AD := zm (Kd.R_over' (zr AD) (Kd.R_typed (zr AC)) (by decide) hg); replace HB := zm hb; have AE := zm (ho); clear AC; clear ho hb hg hat; refine hK.out _ _ zS (fun hHeld => ?_); clear hK K; refine zn (N := some 6) ?_
      exact norm_ (by simp only [putAll, Act.put, List.setIfInBounds_toArray, List.set_cons_zero, List.set_cons_succ]) (hCont (v649, v652, v655) _ ⟨hHeld, (zr AE), (zr AD), (zb AB), (zb AA), zB⟩)
    ·skip
     refine Kd.R_lit_step k68 _ 68 ?hg (N := 7) ?hd (xs := ([] : List (S68))) (inner := []) (ok := fun _ => True) (okp := fun _ => True) ?hr ?hp (fun _ hk => hk) trivial (Below.refl _ _) (Nat.le_refl _) (by simp) ?_; (case hd => rfl); (case hg => rfl); (case hr => first | (go_simp; done) | (go_simp; rfl)); (case hp => exact (Reps.none _ _))
     intro v655 w7 ho8 hb hg_ hnew_; clear hg_ hnew_
     (first | rw [← Ny654.out] at ho8 | (simp only [Int.reduceToNat] at ho8; rw [← Ny654.out] at ho8))
     have AD := zm (Kd.R_lower ho8 (below_size zB)); replace AB := zy AB hb; replace AA := zy AA hb; replace HB := zm (below_step zB hb); clear hb ho8; refine hK.out _ _ zS (fun hHeld => ?_); clear hK K; refine zn (N := some 7) ?_; refine zo 0 (some 3) (zl 10 119) (fun K hK => ?_)
     refine Kd.R_lit_step k63 _ 63 ?hg (N := 3) ?hd (xs := ([] : List (S63))) (inner := []) (ok := fun _ => True) (okp := fun _ => True) ?hr ?hp (fun _ hk => hk) trivial (Below.refl _ _) (Nat.le_refl _) (by simp) ?_; (case hd => rfl); (case hg => rfl); (case hr => first | (go_simp; done) | (go_simp; rfl)); (case hp => exact (Reps.none _ _))
     intro v649 w9 ho10 hb hg_ hnew_; clear hg_ hnew_
     (first | rw [← Ny648.out] at ho10 | (simp only [Int.reduceToNat] at ho10; rw [← Ny648.out] at ho10))
     replace AD := zw AD hb; have AC := zm (Kd.R_lower ho10 (below_size zB)); replace AB := zy AB hb; replace AA := zy AA hb; replace HB := zm (below_step zB hb); clear hb ho10; refine hK.out _ _ zS (fun hHeld => ?_); clear hK K; refine zn (N := some 3) ?_; refine zo 3 (some 6) (zl 10 127) (fun K hK => ?_)
     refine Kd.R_append_rows_step k63 (w0 := w) w.heap.size (by rfl) (.tmp 3) (.tmp 5) 42 63 (.agg #[(.int .i64 0), (.int .i64 0), (.int .i64 0), (.int .i64 0), (.int .i64 0), (.string ⟨#[]⟩)]) 56 rfl Tryd.underlying42 info63 rfl (by decide) (by omega) v649 y648 l0_0 _ _ _ (fun _ => True) (fun _ => False) rfl rfl ?aO ?aR (fun _ _ h => h) (fun _ h => h.elim) ?aF ?aB ?aS ?aL ?_
     (case aR => repeat (first | exact (Kd.C_below HR0_0.out HB.out) | (with_reducible refine Kd.C_alloc ?_ _) | (with_reducible refine Kd.C_drewN ?_ _) | (with_reducible refine Kd.C_drew ?_)))
     (case aB => exact zB)
     (case aF => exact (fun _ _ => trivial))
     (case aO => exact (zr AC))
     (case aS => exact (below_size zB))
     (case aL => have := LMc2.out; omega)
     intro v652 AQ ho hb hg hat; rw [← Ny651.out] at ho; replace AB := zgr hg (zb AB) (Kd.R_ne AC.out AB.out (by decide)); replace AA := zgr hg (zb AA) (Kd.R_ne AC.out AA.out (by decide)); replace AD := zm (Kd.R_over' (zr AD) (Kd.R_typed (zr AC)) (by decide) hg); replace HB := zm hb; have AE := zm (ho); clear AC; clear ho hb hg hat; refine hK.out _ _ zS (fun hHeld => ?_); clear hK K; refine zn (N := some 6) ?_
     exact norm_ (by simp only [putAll, Act.put, List.setIfInBounds_toArray, List.set_cons_zero, List.set_cons_succ]) (hCont (v649, v652, v655) _ ⟨hHeld, (zr AE), (zr AD), (zb AB), (zb AA), zB⟩)
   rintro ⟨v649, v652, v655⟩ AJ ⟨hS_, h0_, h1_, h2_, h3_, h4_⟩; have n0_ : Aside0 (Kd.R k63 63 AJ w.heap.size (fun _ => True) v652 y651) := ⟨h0_⟩; have n1_ : Aside0 (Kd.R k68 68 AJ w.heap.size (fun _ => True) v655 y654) := ⟨h1_⟩; have n2_ : Aside0 (AJ.heap[AH]? = some (.cells #[.slice A0_0 l0_0.length c0_0, .slice A0_1 l0_1.length c0_1] 45 (0, 0))) := ⟨h2_⟩; have n3_ : Aside0 (AJ.heap[AG]? = some (.cells #[.slice none 0 0, .slice none 0 0] 45 (0, 0))) := ⟨h3_⟩; have n4_ : Aside0 (Below w.heap.size w AJ) := ⟨h4_⟩; clear AB; clear AA; clear HB; clear h0_ h1_ h2_ h3_ h4_; have AE := n0_; have AD := n1_; have AB := n2_; have AA := n3_; have HB := n4_; clear n0_ n1_ n2_ n3_ n4_; have hHeld : AJ.cell? ⟨AH, 0, none⟩ = some (.slice A0_0 l0_0.length c0_0) ∧ AJ.cell? ⟨AH, 1, none⟩ = some (.slice A0_1 l0_1.length c0_1) := hS_
   refine norm_ (a' := ?_) ?_ ?_
   rotate_left
   ·simp only [putAll, Act.put, List.setIfInBounds_toArray, List.set_cons_zero, List.set_cons_succ]
    rfl
   refine zo 7 (some 10) (zl 10 255) (fun K hK => ?_)
   refine Kd.R_append_rows_step k68 (w0 := w) w.heap.size (by rfl) (.tmp 7) (.tmp 9) 43 68 (.agg #[(.int .i64 0), (.int .i64 0)]) 16 rfl Tryd.underlying43 info68 rfl (by decide) (by omega) v655 y654 l0_1 _ _ _ (fun _ => True) (fun _ => False) rfl rfl ?aO ?aR (fun _ _ h => h) (fun _ h => h.elim) ?aF ?aB ?aS ?aL ?_
   (case aR => repeat (first | exact (Kd.C_below HR0_1.out HB.out) | (with_reducible refine Kd.C_alloc ?_ _) | (with_reducible refine Kd.C_drewN ?_ _) | (with_reducible refine Kd.C_drew ?_)))
   (case aB => exact zB)
   (case aF => exact (fun _ _ => trivial))
   (case aO => exact (zr AD))
   (case aS => exact (below_size zB))
   (case aL => have := LMc3.out; omega)
   intro v658 AL ho hb hg hat; rw [← Ny657.out] at ho; replace AB := zgr hg (zb AB) (Kd.R_ne AD.out AB.out (by decide)); replace AA := zgr hg (zb AA) (Kd.R_ne AD.out AA.out (by decide)); replace AE := zm (Kd.R_over' (zr AE) (Kd.R_typed (zr AD)) (by decide) hg); replace HB := zm hb; have AK := zm (ho); clear AD; clear ho hb hg hat; obtain ⟨AM, AO, eo14⟩ := Kd.R_slice AK.out
   (first | subst eo14 | (injection eo14 with f1_ f2_ f3_; have f4_ := f1_.symm; have f5_ := f3_.symm; clear f1_ f2_ f3_; subst f4_; subst f5_))
   obtain ⟨AN, AP, eo15⟩ := Kd.R_slice AE.out
   (first | subst eo15 | (injection eo15 with f1_ f2_ f3_; have f4_ := f1_.symm; have f5_ := f3_.symm; clear f1_ f2_ f3_; subst f4_; subst f5_))
   refine hK.out _ _ zS (fun hHeld => ?_); clear hK K; refine zn (N := some 10) ?_
   refine zu 8 11 10 511 ?_
   refine zo 9 none (zl 10 1023) (fun K hK => ?_); have hs16 : AL.cell? ⟨AG, 0, none⟩ = some (.slice none 0 0) := (blk_cell AA.out 0).trans rfl; have hfs16 := blk_frozen AA.out 0; have hns16_0 := AF.out; have hms16_0 := AI.out; have hs17 : AL.cell? ⟨AG, 1, none⟩ = some (.slice none 0 0) := (blk_cell AA.out 1).trans rfl; have hfs17 := blk_frozen AA.out 1; have hns17_0 := AF.out; have hms17_0 := AI.out
   refine skip_ (w1 := ?_) (by rfl) rfl ?_ ?_
   rotate_left
   ·go_simp
    rfl
   refine hK.out _ _ ⟨((cell_far (p := ⟨AG, _, none⟩) AF.out _).trans (((cell_far (p := ⟨AG, _, none⟩) AF.out _).trans (hHeld.1)))), ((cell_far (p := ⟨AG, _, none⟩) AF.out _).trans (((cell_far (p := ⟨AG, _, none⟩) AF.out _).trans (hHeld.2))))⟩ (fun hHeld => ?_); clear hK K
   refine done_ (done_of HT_.out (by kernel_rfl)) ?_
   try go_wp2
   refine bodyPost_ret (results_cell_row rfl _ _ AG 45 #[.slice AN y651.length AP, .slice AM y657.length AO] (0, 0) _ rfl (zput (zput (zb AA) 0) 1) Tryd.underlying45 rfl (by kernel_rfl)) rfl ?_
   exact ⟨_, _, zE, zrs <| Kd.R_mono (zfr (zfr (Kd.R_types AE.out AA.out (by decide)))) (fun _ hk => trivial), zrs <| Kd.R_mono (zfr (zfr (Kd.R_types AK.out AA.out (by decide)))) (fun _ hk => trivial), zB⟩
  ·rw [if_neg c3] at H
   exact absurd H (by simp)
 ·rw [if_neg c2] at H
  exact absurd H (by simp)

end Go.Proofs.YtomlglpmljngfaaDoor.P
