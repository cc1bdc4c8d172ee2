-- by a program of this session, for this seat
import Derived.Test.YtnmofppbijmhoaaZ
import Derived.Test.YtnmofppbijmhoaaP0
namespace Go.Proofs.Ytnmofppbijmhoaa.P
open Go.RowKit Go.Proofs.YtnmofppbijmhoaaW.PrintWords Go.Proofs.YtnmofppbijmhoaaW.PrintLast Go.Proofs.YtnmofppbijmhoaaW.PrintMore Go.Proofs.Ytnmofppbijmhoaa.Z
attribute [local go_sem] max2_int min2_int max_two min_two max_three min_three max_four min_four   -- for this text's walks alone
set_option linter.unusedVariables false
set_option linter.unusedSimpArgs false

/-! ### spec_l3Copy: function 100 -/
def spec_l3Copy.f (l0_0 : List (S44)) (l0_1 : List (S58)) : Option ((List (S44)) × (List (S58))) := (some (([] : List (S44)) : List (S44))).bind fun y363 => (if y363.length + l0_0.length < 2513169434916 then ((some (([] : List (S58)) : List (S58))).bind fun y369 => (if y369.length + l0_1.length < 8796093022208 then (some ((y363 ++ l0_0), (y369 ++ l0_1))) else (none))) else (none))
def spec_l3Copy.T1 : Bool × List (List Nat × List Nat) := (true, [([], []), ([], []), ([1], [1]), ([0, 2], [0, 2]), ([], []), ([], []), ([5], [5]), ([4, 6, 3], [4, 6]), ([3, 7], [3, 7]), ([8, 7, 0, 1, 2, 3, 4, 5, 6, 7, 8], [8])])
def spec_l3Copy.B1 : List Nat := [0, 0, 2, 7, 0, 0, 32, 127, 255, 511]
theorem spec_l3Copy.tab1 : rtab .any (opsOf Try.f100 1) = spec_l3Copy.T1 := by kernel_rfl
theorem spec_l3Copy.bits1 : waitsOk spec_l3Copy.T1.2 spec_l3Copy.B1 = true := by kernel_rfl
set_option maxHeartbeats 8000000 in
set_option maxRecDepth 100000 in
theorem spec_l3Copy.calls (A0_0 : Option Addr) (c0_0 : Nat) (l0_0 : List (S44)) (A0_1 : Option Addr) (c0_1 : Nat) (l0_1 : List (S58)) (r1 : List (S44)) (r2 : List (S58)) (w : World) (hr0_0 : Kd.C k44 w A0_0 l0_0.length l0_0) (hc0_0 : l0_0.length ≤ c0_0) (hr0_1 : Kd.C k58 w A0_1 l0_1.length l0_1) (hc0_1 : l0_1.length ≤ c0_1) (h : spec_l3Copy.f l0_0 l0_1 = some (r1, r2)) :
  Calls Try.prog 100 #[.agg #[.slice A0_0 l0_0.length c0_0, .slice A0_1 l0_1.length c0_1]] w fun e w' => ∃ v0_ v1_ : Value, e = .returned (.agg #[v0_, v1_]) ∧ Kd.R k44 44 w' w.heap.size (fun _ => True) v0_ r1 ∧ Kd.R k58 58 w' w.heap.size (fun _ => True) v1_ r2 ∧ Below w.heap.size w w' := by
 have hu27 := Try.underlying27; have HR0_0 := zm hr0_0; have HC0_0 := zm hc0_0; clear hr0_0 hc0_0; have HR0_1 := zm hr0_1; have HC0_1 := zm hc0_1; clear hr0_1 hc0_1; have HB := zm (Below.refl w.heap.size w); have H : ((some (([] : List (S44)) : List (S44))).bind fun y363 => (if y363.length + l0_0.length < 2513169434916 then ((some (([] : List (S58)) : List (S58))).bind fun y369 => (if y369.length + l0_1.length < 8796093022208 then (some ((y363 ++ l0_0), (y369 ++ l0_1))) else (none))) else (none))) = some (r1, r2) := h; clear h
 obtain ⟨y363, hy363⟩ : ∃ y_ : List (S44), y_ = (([] : List (S44))) := ⟨_, rfl⟩
 replace H : (if y363.length + l0_0.length < 2513169434916 then ((some (([] : List (S58)) : List (S58))).bind fun y369 => (if y369.length + l0_1.length < 8796093022208 then (some ((y363 ++ l0_0), (y369 ++ l0_1))) else (none))) else (none)) = some (r1, r2) := by first | (rw [hy363]; with_reducible exact H) | (have H2_ := (Option.bind_some _ _).symm.trans H; rw [hy363]; with_reducible exact H2_) | (have H2_ := (Option.bind_some _ _).symm.trans H; with_reducible exact H2_) | with_reducible exact H | (rw [hy363]; exact H) | exact H
 have Ny363 := zm hy363; clear hy363
 by_cases c2 : y363.length + l0_0.length < 2513169434916
 ·rw [if_pos c2] at H; have LMc2 := zm c2; clear c2
  obtain ⟨y366, hy366⟩ : ∃ y_ : List (S44), y_ = (y363 ++ l0_0) := ⟨_, rfl⟩
  replace H : ((some (([] : List (S58)) : List (S58))).bind fun y369 => (if y369.length + l0_1.length < 8796093022208 then (some (y366, (y369 ++ l0_1))) else (none))) = some (r1, r2) := by first | (rw [hy366]; with_reducible exact H) | (have H2_ := (Option.bind_some _ _).symm.trans H; rw [hy366]; with_reducible exact H2_) | (have H2_ := (Option.bind_some _ _).symm.trans H; with_reducible exact H2_) | with_reducible exact H | (rw [hy366]; exact H) | exact H
  have Ny366 := zm hy366; clear hy366
  obtain ⟨y369, hy369⟩ : ∃ y_ : List (S58), y_ = (([] : List (S58))) := ⟨_, rfl⟩
  replace H : (if y369.length + l0_1.length < 8796093022208 then (some (y366, (y369 ++ l0_1))) else (none)) = some (r1, r2) := by first | (rw [hy369]; with_reducible exact H) | (have H2_ := (Option.bind_some _ _).symm.trans H; rw [hy369]; with_reducible exact H2_) | (have H2_ := (Option.bind_some _ _).symm.trans H; with_reducible exact H2_) | with_reducible exact H | (rw [hy369]; exact H) | exact H
  have Ny369 := zm hy369; clear hy369
  by_cases c3 : y369.length + l0_1.length < 8796093022208
  ·rw [if_pos c3] at H; have LMc3 := zm c3; clear c3
   obtain ⟨y372, hy372⟩ : ∃ y_ : List (S58), y_ = (y369 ++ l0_1) := ⟨_, rfl⟩
   replace H : (some (y366, y372)) = some (r1, r2) := by first | (rw [hy372]; with_reducible exact H) | (have H2_ := (Option.bind_some _ _).symm.trans H; rw [hy372]; with_reducible exact H2_) | (have H2_ := (Option.bind_some _ _).symm.trans H; with_reducible exact H2_) | with_reducible exact H | (rw [hy372]; exact H) | exact H
   have Ny372 := zm hy372; clear hy372; simp only [Option.some.injEq, Prod.mk.injEq] at H; obtain ⟨rfl, rfl⟩ := H; go_enter Try.func100, Try.ntmps100
   try go_wp2_with (first | ((with_reducible refine gate_dst (N := 1) rfl ?_); refine zbox 1 #[.slice A0_0 l0_0.length c0_0, .slice A0_1 l0_1.length c0_1] 27 ?_; intro AH hg w4 hbox hb; have AB := zm (hbox); have AT := zge w hg zB; have AR := zge w hg zB; replace HB := zm (below_step zB hb); clear hb hbox hg) | ((with_reducible refine gate_dst (N := 2) rfl ?_); refine zbox 2 #[.slice none 0 0, .slice none 0 0] 27 ?_; intro AG hg w5 hbox hb; have AA := zm (hbox); have AU := zge w hg zB; have AS := zge w hg zB; replace HB := zm (below_step zB hb); have AF := zlt hg (zb AB); have AI := zgt hg (zb AB); replace AB := zy AB hb; clear hb hbox hg))
   replace AB := zq AB; replace AA := zq AA; replace HB := zm (below_drew1 HB.out)
   refine start_ (n := 10) (S := fun w' => w'.cell? ⟨AH, 0, none⟩ = some (.slice A0_0 l0_0.length c0_0) ∧ w'.cell? ⟨AH, 1, none⟩ = some (.slice A0_1 l0_1.length c0_1)) (ds := []) (zl 10 0) (by kernel_rfl) rfl rfl zS (fun hHeld => ?_); refine with_tabW spec_l3Copy.tab1 spec_l3Copy.bits1 (fun HT_ HW_ => ?_)
   generalize w5.drew = w6 at AB AA HB hHeld ⊢
   refine zu 1 4 10 2 ?_
   refine zu 5 8 10 34 ?_
   refine zv 2 5 10 38 ?_
   refine zv 6 9 10 102 ?_
   refine join_ (σ := Value × Value × Value) 3 #[true, true, true, true, true, true, true, false, false, false] (fun s_ => [(3, s_.1), (6, s_.2.1), (7, s_.2.2)]) (fun s_ w' => (w'.cell? ⟨AH, 0, none⟩ = some (.slice A0_0 l0_0.length c0_0) ∧ w'.cell? ⟨AH, 1, none⟩ = some (.slice A0_1 l0_1.length c0_1)) ∧ (Kd.R k44 44 w' w.heap.size (fun _ => True) s_.2.1 y366) ∧ (Kd.R k58 58 w' w.heap.size (fun _ => True) s_.2.2 y369) ∧ (w'.heap[AH]? = some (.cells #[.slice A0_0 l0_0.length c0_0, .slice A0_1 l0_1.length c0_1] 27 (0, 0))) ∧ (w'.heap[AG]? = some (.cells #[.slice none 0 0, .slice none 0 0] 27 (0, 0))) ∧ (Below w.heap.size w w')) ?_ ?_
   rotate_left
   ·intro hCont
    refine two_ (i := 0) (j := 4) (Ni := some 3) (Nj := some 7) #[true, true, true, false, false, true, true, false, false, false] #[false, true, true, false, true, true, true, false, false, false] rfl rfl rfl rfl (two_of HT_.out (by kernel_rfl)) (by decide) (by decide) (fun K hK => ?_) (fun K hK => ?_)
    ·skip
     refine Kd.R_lit_step k44 _ 44 ?hg (N := 3) ?hd (xs := ([] : List (S44))) (inner := []) (ok := fun _ => True) (okp := fun _ => True) ?hr ?hp (fun _ hk => hk) trivial (Below.refl _ _) (Nat.le_refl _) (by simp) ?_; (case hd => rfl); (case hg => rfl); (case hr => first | (go_simp; done) | (go_simp; rfl)); (case hp => exact (Reps.none _ _))
     intro v364 w7 ho8 hb hg_ hnew_; clear hg_ hnew_
     (first | rw [← Ny363.out] at ho8 | (simp only [Int.reduceToNat] at ho8; rw [← Ny363.out] at ho8))
     have AC := zm (Kd.R_lower ho8 (below_size zB)); replace AB := zy AB hb; replace AA := zy AA hb; replace HB := zm (below_step zB hb); clear hb ho8; refine hK.out _ _ zS (fun hHeld => ?_); clear hK K; refine zn (N := some 3) ?_
     refine two_ (i := 3) (j := 4) (Ni := some 6) (Nj := some 7) #[true, true, true, true, false, true, true, false, false, false] #[true, true, true, false, true, true, true, false, false, false] rfl rfl rfl rfl (two_of HT_.out (by kernel_rfl)) (by decide) (by decide) (fun K hK => ?_) (fun K hK => ?_)
     ·skip
      refine Kd.R_append_rows_step k44 (w0 := w) w.heap.size (by rfl) (.tmp 3) (.tmp 5) 24 44 (.agg #[(.int .i64 0), (.int .i64 0), (.int .i64 0), (.int .i64 0), (.int .i64 0), (.string ⟨#[]⟩)]) 56 rfl Try.underlying24 info44 rfl (by decide) (by omega) v364 y363 l0_0 _ _ _ (fun _ => True) (fun _ => False) rfl rfl ?aO ?aR (fun _ _ h => h) (fun _ h => h.elim) ?aF ?aB ?aS ?aL ?_
      (case aR => repeat (first | exact (Kd.C_below HR0_0.out HB.out) | (with_reducible refine Kd.C_alloc ?_ _) | (with_reducible refine Kd.C_drewN ?_ _) | (with_reducible refine Kd.C_drew ?_)))
      (case aB => exact zB)
      (case aF => exact (fun _ _ => trivial))
      (case aO => exact (zr AC))
      (case aS => exact (below_size zB))
      (case aL => have := LMc2.out; omega)
      intro v367 w9 ho hb hg hat; rw [← Ny366.out] at ho; replace AB := zgr hg (zb AB) (Kd.R_ne AC.out AB.out (by decide)); replace AA := zgr hg (zb AA) (Kd.R_ne AC.out AA.out (by decide)); replace HB := zm hb; have AE := zm (ho); clear AC; clear ho hb hg hat; refine hK.out _ _ zS (fun hHeld => ?_); clear hK K; refine zn (N := some 6) ?_; refine zo 4 (some 7) (zl 10 127) (fun K hK => ?_)
      refine Kd.R_lit_step k58 _ 58 ?hg (N := 7) ?hd (xs := ([] : List (S58))) (inner := []) (ok := fun _ => True) (okp := fun _ => True) ?hr ?hp (fun _ hk => hk) trivial (Below.refl _ _) (Nat.le_refl _) (by simp) ?_; (case hd => rfl); (case hg => rfl); (case hr => first | (go_simp; done) | (go_simp; rfl)); (case hp => exact (Reps.none _ _))
      intro v370 AV ho11 hb hg_ hnew_; clear hg_ hnew_
      (first | rw [← Ny369.out] at ho11 | (simp only [Int.reduceToNat] at ho11; rw [← Ny369.out] at ho11))
      replace AE := zw AE hb; have AD := zm (Kd.R_lower ho11 (below_size zB)); replace AB := zy AB hb; replace AA := zy AA hb; replace HB := zm (below_step zB hb); clear hb ho11; refine hK.out _ _ zS (fun hHeld => ?_); clear hK K; refine zn (N := some 7) ?_
      exact norm_ (by simp only [putAll, Act.put, List.setIfInBounds_toArray, List.set_cons_zero, List.set_cons_succ]) (hCont (v364, v367, v370) _ ⟨hHeld, (zr AE), (zr AD), (zb AB), (zb AA), zB⟩)
     ·skip
      refine Kd.R_lit_step k58 _ 58 ?hg (N := 7) ?hd (xs := ([] : List (S58))) (inner := []) (ok := fun _ => True) (okp := fun _ => True) ?hr ?hp (fun _ hk => hk) trivial (Below.refl _ _) (Nat.le_refl _) (by simp) ?_; (case hd => rfl); (case hg => rfl); (case hr => first | (go_simp; done) | (go_simp; rfl)); (case hp => exact (Reps.none _ _))
      intro v370 w9 ho10 hb hg_ hnew_; clear hg_ hnew_
      (first | rw [← Ny369.out] at ho10 | (simp only [Int.reduceToNat] at ho10; rw [← Ny369.out] at ho10))
      replace AC := zw AC hb; have AD := zm (Kd.R_lower ho10 (below_size zB)); replace AB := zy AB hb; replace AA := zy AA hb; replace HB := zm (below_step zB hb); clear hb ho10; refine hK.out _ _ zS (fun hHeld => ?_); clear hK K; refine zn (N := some 7) ?_; refine zo 3 (some 6) (zl 10 127) (fun K hK => ?_)
      refine Kd.R_append_rows_step k44 (w0 := w) w.heap.size (by rfl) (.tmp 3) (.tmp 5) 24 44 (.agg #[(.int .i64 0), (.int .i64 0), (.int .i64 0), (.int .i64 0), (.int .i64 0), (.string ⟨#[]⟩)]) 56 rfl Try.underlying24 info44 rfl (by decide) (by omega) v364 y363 l0_0 _ _ _ (fun _ => True) (fun _ => False) rfl rfl ?aO ?aR (fun _ _ h => h) (fun _ h => h.elim) ?aF ?aB ?aS ?aL ?_
      (case aR => repeat (first | exact (Kd.C_below HR0_0.out HB.out) | (with_reducible refine Kd.C_alloc ?_ _) | (with_reducible refine Kd.C_drewN ?_ _) | (with_reducible refine Kd.C_drew ?_)))
      (case aB => exact zB)
      (case aF => exact (fun _ _ => trivial))
      (case aO => exact (zr AC))
      (case aS => exact (below_size zB))
      (case aL => have := LMc2.out; omega)
      intro v367 AQ ho hb hg hat; rw [← Ny366.out] at ho; replace AB := zgr hg (zb AB) (Kd.R_ne AC.out AB.out (by decide)); replace AA := zgr hg (zb AA) (Kd.R_ne AC.out AA.out (by decide)); replace AD := zm (Kd.R_over' (zr AD) (Kd.R_typed (zr AC)) (by decide) hg); replace HB := zm hb; have AE := zm (ho); clear AC; clear ho hb hg hat; refine hK.out _ _ zS (fun hHeld => ?_); clear hK K; refine zn (N := some 6) ?_
      exact norm_ (by simp only [putAll, Act.put, List.setIfInBounds_toArray, List.set_cons_zero, List.set_cons_succ]) (hCont (v364, v367, v370) _ ⟨hHeld, (zr AE), (zr AD), (zb AB), (zb AA), zB⟩)
    ·skip
     refine Kd.R_lit_step k58 _ 58 ?hg (N := 7) ?hd (xs := ([] : List (S58))) (inner := []) (ok := fun _ => True) (okp := fun _ => True) ?hr ?hp (fun _ hk => hk) trivial (Below.refl _ _) (Nat.le_refl _) (by simp) ?_; (case hd => rfl); (case hg => rfl); (case hr => first | (go_simp; done) | (go_simp; rfl)); (case hp => exact (Reps.none _ _))
     intro v370 w7 ho8 hb hg_ hnew_; clear hg_ hnew_
     (first | rw [← Ny369.out] at ho8 | (simp only [Int.reduceToNat] at ho8; rw [← Ny369.out] at ho8))
     have AD := zm (Kd.R_lower ho8 (below_size zB)); replace AB := zy AB hb; replace AA := zy AA hb; replace HB := zm (below_step zB hb); clear hb ho8; refine hK.out _ _ zS (fun hHeld => ?_); clear hK K; refine zn (N := some 7) ?_; refine zo 0 (some 3) (zl 10 119) (fun K hK => ?_)
     refine Kd.R_lit_step k44 _ 44 ?hg (N := 3) ?hd (xs := ([] : List (S44))) (inner := []) (ok := fun _ => True) (okp := fun _ => True) ?hr ?hp (fun _ hk => hk) trivial (Below.refl _ _) (Nat.le_refl _) (by simp) ?_; (case hd => rfl); (case hg => rfl); (case hr => first | (go_simp; done) | (go_simp; rfl)); (case hp => exact (Reps.none _ _))
     intro v364 w9 ho10 hb hg_ hnew_; clear hg_ hnew_
     (first | rw [← Ny363.out] at ho10 | (simp only [Int.reduceToNat] at ho10; rw [← Ny363.out] at ho10))
     replace AD := zw AD hb; have AC := zm (Kd.R_lower ho10 (below_size zB)); replace AB := zy AB hb; replace AA := zy AA hb; replace HB := zm (below_step zB hb); clear hb ho10; refine hK.out _ _ zS (fun hHeld => ?_); clear hK K; refine zn (N := some 3) ?_; refine zo 3 (some 6) (zl 10 127) (fun K hK => ?_)
     refine Kd.R_append_rows_step k44 (w0 := w) w.heap.size (by rfl) (.tmp 3) (.tmp 5) 24 44 (.agg #[(.int .i64 0), (.int .i64 0), (.int .i64 0), (.int .i64 0), (.int .i64 0), (.string ⟨#[]⟩)]) 56 rfl Try.underlying24 info44 rfl (by decide) (by omega) v364 y363 l0_0 _ _ _ (fun _ => True) (fun _ => False) rfl rfl ?aO ?aR (fun _ _ h => h) (fun _ h => h.elim) ?aF ?aB ?aS ?aL ?_
     (case aR => repeat (first | exact (Kd.C_below HR0_0.out HB.out) | (with_reducible refine Kd.C_alloc ?_ _) | (with_reducible refine Kd.C_drewN ?_ _) | (with_reducible refine Kd.C_drew ?_)))
     (case aB => exact zB)
     (case aF => exact (fun _ _ => trivial))
     (case aO => exact (zr AC))
     (case aS => exact (below_size zB))
     (case aL => have := LMc2.out; omega)
     intro v367 AQ ho hb hg hat; rw [← Ny366.out] at ho; replace AB := zgr hg (zb AB) (Kd.R_ne AC.out AB.out (by decide)); replace AA := zgr hg (zb AA) (Kd.R_ne AC.out AA.out (by decide)); replace AD := zm (Kd.R_over' (zr AD) (Kd.R_typed (zr AC)) (by decide) hg); replace HB := zm hb; have AE := zm (ho); clear AC; clear ho hb hg hat; refine hK.out _ _ zS (fun hHeld => ?_); clear hK K; refine zn (N := some 6) ?_
     exact norm_ (by simp only [putAll, Act.put, List.setIfInBounds_toArray, List.set_cons_zero, List.set_cons_succ]) (hCont (v364, v367, v370) _ ⟨hHeld, (zr AE), (zr AD), (zb AB), (zb AA), zB⟩)
   rintro ⟨v364, v367, v370⟩ AJ ⟨hS_, h0_, h1_, h2_, h3_, h4_⟩; have n0_ : Aside0 (Kd.R k44 44 AJ w.heap.size (fun _ => True) v367 y366) := ⟨h0_⟩; have n1_ : Aside0 (Kd.R k58 58 AJ w.heap.size (fun _ => True) v370 y369) := ⟨h1_⟩; have n2_ : Aside0 (AJ.heap[AH]? = some (.cells #[.slice A0_0 l0_0.length c0_0, .slice A0_1 l0_1.length c0_1] 27 (0, 0))) := ⟨h2_⟩; have n3_ : Aside0 (AJ.heap[AG]? = some (.cells #[.slice none 0 0, .slice none 0 0] 27 (0, 0))) := ⟨h3_⟩; have n4_ : Aside0 (Below w.heap.size w AJ) := ⟨h4_⟩; clear AB; clear AA; clear HB; clear h0_ h1_ h2_ h3_ h4_; have AE := n0_; have AD := n1_; have AB := n2_; have AA := n3_; have HB := n4_; clear n0_ n1_ n2_ n3_ n4_; have hHeld : AJ.cell? ⟨AH, 0, none⟩ = some (.slice A0_0 l0_0.length c0_0) ∧ AJ.cell? ⟨AH, 1, none⟩ = some (.slice A0_1 l0_1.length c0_1) := hS_
   refine norm_ (a' := ?_) ?_ ?_
   rotate_left
   ·simp only [putAll, Act.put, List.setIfInBounds_toArray, List.set_cons_zero, List.set_cons_succ]
    rfl
   refine zo 7 (some 10) (zl 10 255) (fun K hK => ?_)
   refine Kd.R_append_rows_step k58 (w0 := w) w.heap.size (by rfl) (.tmp 7) (.tmp 9) 25 58 (.agg #[(.int .i64 0), (.int .i64 0)]) 16 rfl Try.underlying25 info58 rfl (by decide) (by omega) v370 y369 l0_1 _ _ _ (fun _ => True) (fun _ => False) rfl rfl ?aO ?aR (fun _ _ h => h) (fun _ h => h.elim) ?aF ?aB ?aS ?aL ?_
   (case aR => repeat (first | exact (Kd.C_below HR0_1.out HB.out) | (with_reducible refine Kd.C_alloc ?_ _) | (with_reducible refine Kd.C_drewN ?_ _) | (with_reducible refine Kd.C_drew ?_)))
   (case aB => exact zB)
   (case aF => exact (fun _ _ => trivial))
   (case aO => exact (zr AD))
   (case aS => exact (below_size zB))
   (case aL => have := LMc3.out; omega)
   intro v373 AL ho hb hg hat; rw [← Ny372.out] at ho; replace AB := zgr hg (zb AB) (Kd.R_ne AD.out AB.out (by decide)); replace AA := zgr hg (zb AA) (Kd.R_ne AD.out AA.out (by decide)); replace AE := zm (Kd.R_over' (zr AE) (Kd.R_typed (zr AD)) (by decide) hg); replace HB := zm hb; have AK := zm (ho); clear AD; clear ho hb hg hat; obtain ⟨AM, AO, eo14⟩ := Kd.R_slice AK.out
   (first | subst eo14 | (injection eo14 with f1_ f2_ f3_; have f4_ := f1_.symm; have f5_ := f3_.symm; clear f1_ f2_ f3_; subst f4_; subst f5_))
   obtain ⟨AN, AP, eo15⟩ := Kd.R_slice AE.out
   (first | subst eo15 | (injection eo15 with f1_ f2_ f3_; have f4_ := f1_.symm; have f5_ := f3_.symm; clear f1_ f2_ f3_; subst f4_; subst f5_))
   refine hK.out _ _ zS (fun hHeld => ?_); clear hK K; refine zn (N := some 10) ?_
   refine zu 8 11 10 511 ?_
   refine zo 9 none (zl 10 1023) (fun K hK => ?_); have hs16 : AL.cell? ⟨AG, 0, none⟩ = some (.slice none 0 0) := (blk_cell AA.out 0).trans rfl; have hfs16 := blk_frozen AA.out 0; have hns16_0 := AF.out; have hms16_0 := AI.out; have hs17 : AL.cell? ⟨AG, 1, none⟩ = some (.slice none 0 0) := (blk_cell AA.out 1).trans rfl; have hfs17 := blk_frozen AA.out 1; have hns17_0 := AF.out; have hms17_0 := AI.out
   refine skip_ (w1 := ?_) (by rfl) rfl ?_ ?_
   rotate_left
   ·go_simp
    rfl
   refine hK.out _ _ ⟨((cell_far (p := ⟨AG, _, none⟩) AF.out _).trans (((cell_far (p := ⟨AG, _, none⟩) AF.out _).trans (hHeld.1)))), ((cell_far (p := ⟨AG, _, none⟩) AF.out _).trans (((cell_far (p := ⟨AG, _, none⟩) AF.out _).trans (hHeld.2))))⟩ (fun hHeld => ?_); clear hK K
   refine done_ (done_of HT_.out (by kernel_rfl)) ?_
   try go_wp2
   refine bodyPost_ret (results_cell_row rfl _ _ AG 27 #[.slice AN y366.length AP, .slice AM y372.length AO] (0, 0) _ rfl (zput (zput (zb AA) 0) 1) Try.underlying27 rfl (by kernel_rfl)) rfl ?_
   exact ⟨_, _, zE, zrs <| Kd.R_mono (zfr (zfr (Kd.R_types AE.out AA.out (by decide)))) (fun _ hk => trivial), zrs <| Kd.R_mono (zfr (zfr (Kd.R_types AK.out AA.out (by decide)))) (fun _ hk => trivial), zB⟩
  ·rw [if_neg c3] at H
   exact absurd H (by simp)
 ·rw [if_neg c2] at H
  exact absurd H (by simp)

end Go.Proofs.Ytnmofppbijmhoaa.P
