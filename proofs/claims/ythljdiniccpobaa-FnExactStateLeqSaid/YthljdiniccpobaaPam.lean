-- by a program of this session, for this seat
import Derived.Test.YthljdiniccpobaaZ
import Derived.Test.YthljdiniccpobaaP0
import Derived.Test.YthljdiniccpobaaPag
import Derived.Test.YthljdiniccpobaaPac
import Derived.Test.YthljdiniccpobaaPai
namespace Go.Proofs.Ythljdiniccpobaa.P
open Go.RowKit Go.Proofs.YthljdiniccpobaaW.PrintWords Go.Proofs.YthljdiniccpobaaW.PrintLast Go.Proofs.YthljdiniccpobaaW.PrintMore Go.Proofs.Ythljdiniccpobaa.Z
attribute [local go_sem] max2_int min2_int max_two min_two max_three min_three max_four min_four   -- for this text's walks alone
set_option linter.unusedVariables false
set_option linter.unusedSimpArgs false

/-! ### spec_View: function 54 -/
def spec_View.l0 : Nat → List (S84) → Int → List (S84) → List (S89) → Option ((List (S84)))
 | 0, _, _, _, _ => none
 | k + 1, x3, x4, x573000, x573001 => if x4 < (x573000.length : Int) then (if 0 ≤ x4 then (if ((rd_T84 x573000 x4).f1.f1) = 0 then (if x3.length < 2513169434916 then (spec_View.l0 k (x3 ++ [(⟨(rd_T84 x573000 x4).f0, (⟨(rd_T84 x573000 x4).f1.f0, (rd_T84 x573000 x4).f1.f1, (rd_T84 x573000 x4).f1.f2, (rd_T84 x573000 x4).f1.f3, (rd_T84 x573000 x4).f1.f4⟩ : S25)⟩ : S84)]) (wrap64 (x4 + 1)) x573000 x573001) else (none)) else (spec_View.l0 k x3 (wrap64 (x4 + 1)) x573000 x573001)) else (none)) else (some x3)
def spec_View.f (k : Nat) (l0_0 : List (S84)) (l0_1 : List (S89)) : Option ((List (S84))) := (some (([] : List (S84)) : List (S84))).bind fun y573 => ((spec_StateOk.f k l0_0 l0_1).bind fun t576 => (if t576 = true then (spec_View.l0 k y573 0 l0_0 l0_1) else (some y573)))
theorem spec_View.mono_l : ∀ k, (∀ y0 y1 y2 y3, LeO (spec_View.l0 k y0 y1 y2 y3) (spec_View.l0 (k + 1) y0 y1 y2 y3))
 | 0 => fun _ _ _ _ r h => by simp [spec_View.l0] at h
 | k + 1 => by
  have ih0 := spec_View.mono_l k
  ·intro y0 y1 y2 y3
   unfold spec_View.l0
   repeat' first
   | (with_reducible exact ih0 _ _ _ _)
   | (with_reducible exact spec_StateOk.mono _ _ _)
   | (with_reducible exact LeO.refl _)
   | (with_reducible exact LeO.none _)
   | (with_reducible refine LeO.ite ?_ ?_)
   | (with_reducible refine LeO.bind ?_ (fun _ => ?_))
   | exact ih0 _ _ _ _
   | exact spec_StateOk.mono _ _ _
   | exact LeO.none _
   | refine LeO.ite ?_ ?_
   | refine LeO.bind ?_ (fun _ => ?_)
theorem spec_View.mono : ∀ a0 a1 k, LeO (spec_View.f k a0 a1) (spec_View.f (k + 1) a0 a1) := by
 intro a0 a1 k
 have ih0 := spec_View.mono_l k
 unfold spec_View.f
 repeat' first
   | (with_reducible exact ih0 _ _ _ _)
   | (with_reducible exact spec_StateOk.mono _ _ _)
   | (with_reducible exact LeO.refl _)
   | (with_reducible exact LeO.none _)
   | (with_reducible refine LeO.ite ?_ ?_)
   | (with_reducible refine LeO.bind ?_ (fun _ => ?_))
   | exact ih0 _ _ _ _
   | exact spec_StateOk.mono _ _ _
   | exact LeO.none _
   | refine LeO.ite ?_ ?_
   | refine LeO.bind ?_ (fun _ => ?_)
set_option maxHeartbeats 8000000 in
set_option maxRecDepth 100000 in
theorem spec_View.calls (k : Nat) (A0_0 : Option Addr) (c0_0 : Nat) (l0_0 : List (S84)) (A0_1 : Option Addr) (c0_1 : Nat) (l0_1 : List (S89)) (r : List (S84)) (w : World) (hr0_0 : Kd.C k84 w A0_0 l0_0.length l0_0) (hc0_0 : l0_0.length ≤ c0_0) (hr0_1 : Kd.C k89 w A0_1 l0_1.length l0_1) (hc0_1 : l0_1.length ≤ c0_1) (h : spec_View.f k l0_0 l0_1 = some r) :
  Calls Try.prog 54 #[.agg #[.slice A0_0 l0_0.length c0_0, .slice A0_1 l0_1.length c0_1]] w fun e w' => ∃ v0_ : Value, e = .returned (v0_) ∧ Kd.R k84 84 w' w.heap.size (fun _ => True) v0_ r ∧ Below w.heap.size w w' := by
 have hu55 := Try.underlying55
 have hu84 := Try.underlying84
 have HR0_0 := zm hr0_0
 have HC0_0 := zm hc0_0
 clear hr0_0 hc0_0
 have HR0_1 := zm hr0_1
 have HC0_1 := zm hc0_1
 clear hr0_1 hc0_1
 have HB := zm (Below.refl w.heap.size w)
 have H : ((some (([] : List (S84)) : List (S84))).bind fun y573 => ((spec_StateOk.f k l0_0 l0_1).bind fun t576 => (if t576 = true then (spec_View.l0 k y573 0 l0_0 l0_1) else (some y573)))) = some r := h
 clear h
 obtain ⟨y573, hy573⟩ : ∃ y_ : List (S84), y_ = (([] : List (S84))) := ⟨_, rfl⟩
 replace H : ((spec_StateOk.f k l0_0 l0_1).bind fun t576 => (if t576 = true then (spec_View.l0 k y573 0 l0_0 l0_1) else (some y573))) = some r := by first | (rw [hy573]; with_reducible exact H) | (have H2_ := (Option.bind_some _ _).symm.trans H; rw [hy573]; with_reducible exact H2_) | (have H2_ := (Option.bind_some _ _).symm.trans H; with_reducible exact H2_) | with_reducible exact H | (rw [hy573]; exact H) | exact H
 have Ny573 := zm hy573
 clear hy573
 replace H := Option.bind_eq_some_iff.mp H
 obtain ⟨t576, A20, H⟩ := H
 replace H : (if t576 = true then (spec_View.l0 k y573 0 l0_0 l0_1) else (some y573)) = some r := H
 have A2 := zm A20
 clear A20
 by_cases c3 : t576 = true
 ·subst c3
  have H1 : (spec_View.l0 k y573 0 l0_0 l0_1) = some r := by rw [if_pos rfl] at H; exact H
  clear H
  have H := H1
  clear H1
  have H' := zm H
  clear H
  go_enter Try.func54, Try.ntmps54
  go_wp2_with (first | ((with_reducible refine gate_dst (N := 1) rfl ?_); refine zbox 1 #[.slice A0_0 l0_0.length c0_0, .slice A0_1 l0_1.length c0_1] 55 ?_; intro gb572 hg w4 hbox hb; have BK572 := zm (hbox); have GW572 := zge w hg zB; have GE572 := zge w hg zB; replace HB := zm (below_step zB hb); clear hb hbox hg) | ((with_reducible refine gate_dst (N := 5) rfl ?_); refine Kd.R_lit k84 _ 84 ?hg (N := 5) ?hd (xs := ([] : List (S84))) (inner := []) (ok := fun _ => True) (okp := fun _ => True) ?hr ?hp (fun _ hk => hk) trivial (Below.refl _ _) (Nat.le_refl _) (by simp) ?_; (case hd => rfl); (case hg => rfl); (case hr => first | (go_simp; done) | (go_simp; rfl)); (case hp => exact (Reps.none _ _)); intro v574 w5 ho6 hb hg_ hnew_; clear hg_ hnew_; (first | rw [← Ny573.out] at ho6 | (simp only [Int.reduceToNat] at ho6; rw [← Ny573.out] at ho6)); have HO575 := zm (Kd.R_lower ho6 (below_size zB)); replace BK572 := zm (blk_below (zb BK572) hb); replace HB := zm (below_step zB hb); clear hb ho6; have hcz7_0 : w5.cell? ⟨gb572, 0, none⟩ = some (.slice A0_0 l0_0.length c0_0) := (blk_cell BK572.out 0).trans rfl; have hcz7_1 : w5.cell? ⟨gb572, 1, none⟩ = some (.slice A0_1 l0_1.length c0_1) := (blk_cell BK572.out 1).trans rfl; have hfz7_0 := blk_frozen BK572.out 0; have hfz7_1 := blk_frozen BK572.out 1) | ((with_reducible refine gate_callee (f := 44) rfl ?_); refine zg (some 7) #[.agg #[.slice A0_0 l0_0.length c0_0, .slice A0_1 l0_1.length c0_1]] Try.func44 ?_; (with_reducible refine (spec_StateOk.calls k _ _ l0_0 _ _ l0_1 true _ (zk (Kd.C_below HR0_0.out HB.out)) HC0_0.out (zk (Kd.C_below HR0_1.out HB.out)) HC0_1.out A2.out).mono ?_); rintro e w8 ⟨rfl, hb⟩; refine ⟨_, rfl, ?_⟩; replace HO575 := zm (Kd.R_below (zr HO575) hb); replace BK572 := zm (blk_below (zb BK572) hb); replace HB := zm (below_step zB hb); clear hb))
  go_loopg [3, 4] k (fun kq v3 v4 w' => ∃ (x3_1 : List (S84)) (x4_1 : Int), v4 = .int .i64 x4_1 ∧ Aside0 (spec_View.l0 kq x3_1 x4_1 l0_0 l0_1 = some r) ∧ Aside0 (kq ≤ k) ∧ Aside0 (Kd.R k84 84 w' w.heap.size (fun _ => True) v3 x3_1) ∧ Aside0 (w'.heap[gb572]? = some (.cells #[(.slice A0_0 l0_0.length c0_0), (.slice A0_1 l0_1.length c0_1)] 55 (0, 0))) ∧ Aside0 (Below w.heap.size w w'))
  case atStart => exact ⟨(y573), (0), zF, H', ⟨Nat.le_refl _⟩, ⟨zr HO575⟩, ⟨zb BK572⟩, ⟨zB⟩⟩
  case round =>
   clear H'
   try clear p2
   try clear c3
   try clear c4
   try clear c5
   try clear hcz7_0
   try clear hcz7_1
   try clear hfz7_0
   try clear hfz7_1
   obtain ⟨x3_1, x4_1, rfl, HA, HK1, HO_3, BK572, HB⟩ := hrel
   cases gk with
   | zero => exact absurd HA.out (by simp [spec_View.l0])
   | succ k1 =>
    have H := HA.out
    clear HA
    simp only [spec_View.l0] at H
    by_cases c9 : x4_1 < (l0_0.length : Int)
    ·rw [if_pos c9] at H
     have c9b0 : decide (x4_1 < (l0_0.length : Int)) = true := decide_eq_true c9
     clear c9
     by_cases c10 : 0 ≤ x4_1
     ·rw [if_pos c10] at H
      have c10b0 : decide (0 ≤ x4_1) = true := decide_eq_true c10
      clear c10
      by_cases c11 : ((rd_T84 l0_0 x4_1).f1.f1) = 0
      ·rw [if_pos c11] at H
       have c11b0 : (((rd_T84 l0_0 x4_1).f1.f1) == 0) = true := beq_iff_eq.mpr c11
       have c11b1 : (((rd_T84 l0_0 x4_1).f1.f1) != 0) = false := bne_eq_false_iff_eq.mpr c11
       clear c11
       by_cases c12 : x3_1.length < 2513169434916
       ·rw [if_pos c12] at H
        have LMc12 := zm c12
        clear c12
        obtain ⟨y579, hy579⟩ : ∃ y_ : List (S84), y_ = (x3_1 ++ [(⟨(rd_T84 l0_0 x4_1).f0, (⟨(rd_T84 l0_0 x4_1).f1.f0, (rd_T84 l0_0 x4_1).f1.f1, (rd_T84 l0_0 x4_1).f1.f2, (rd_T84 l0_0 x4_1).f1.f3, (rd_T84 l0_0 x4_1).f1.f4⟩ : S25)⟩ : S84)]) := ⟨_, rfl⟩
        replace H : (spec_View.l0 k1 y579 (wrap64 (x4_1 + 1)) l0_0 l0_1) = some r := by first | (rw [hy579]; with_reducible exact H) | (have H2_ := (Option.bind_some _ _).symm.trans H; rw [hy579]; with_reducible exact H2_) | (have H2_ := (Option.bind_some _ _).symm.trans H; with_reducible exact H2_) | with_reducible exact H | (rw [hy579]; exact H) | exact H
        have Ny579 := zm hy579
        clear hy579
        have H' := zm H
        clear H
        have hcz13_0 : wr.cell? ⟨gb572, 0, none⟩ = some (.slice A0_0 l0_0.length c0_0) := (blk_cell BK572.out 0).trans rfl
        have hcz13_1 : wr.cell? ⟨gb572, 1, none⟩ = some (.slice A0_1 l0_1.length c0_1) := (blk_cell BK572.out 1).trans rfl
        have hfz13_0 := blk_frozen BK572.out 0
        have hfz13_1 := blk_frozen BK572.out 1
        have p577 : 0 ≤ (x4_1 : Int) := zd
        have q577 : x4_1 < (l0_0.length : Int) := zd
        obtain ⟨ad577, e577, hx577_0, hx577_1, hx577_2, hx577_3, hx577_4, hx577_5⟩ := at_T84 (Kd.C_below HR0_0.out HB.out) x4_1 p577 q577
        cases e577
        replace p577 := eq_true p577
        replace q577 := eq_true q577
        have p578 : 0 ≤ (x4_1 : Int) := zd
        have q578 : x4_1 < (l0_0.length : Int) := zd
        obtain ⟨ad578, e578, hx578_0, hx578_1, hx578_2, hx578_3, hx578_4, hx578_5⟩ := at_T84 (Kd.C_below HR0_0.out HB.out) x4_1 p578 q578
        obtain rfl : ad577 = ad578 := (by injection e578)
        replace p578 := eq_true p578
        replace q578 := eq_true q578
        go_wp2_with (first | ((with_reducible refine gate_builtin (b := .append) (xs := #[.tmp 25, .tmp 31]) rfl ?_); at_builtin; refine Kd.R_append k84 (w0 := w) w.heap.size rfl (.tmp 25) (.tmp 31) 52 84 (.agg #[(.int .i64 0), (.int .i64 0), (.int .i64 0), (.int .i64 0), (.int .i64 0), (.string ⟨#[]⟩)]) 56 rfl Try.underlying52 info84 rfl (by decide) (by omega) u3 x3_1 (⟨(rd_T84 l0_0 x4_1).f0, (⟨(rd_T84 l0_0 x4_1).f1.f0, (rd_T84 l0_0 x4_1).f1.f1, (rd_T84 l0_0 x4_1).f1.f2, (rd_T84 l0_0 x4_1).f1.f3, (rd_T84 l0_0 x4_1).f1.f4⟩ : S25)⟩ : S84) [.int .i64 ((rd_T84 l0_0 x4_1).f0), .int .i64 ((rd_T84 l0_0 x4_1).f1.f0), .int .i64 ((rd_T84 l0_0 x4_1).f1.f1), .int .i64 ((rd_T84 l0_0 x4_1).f1.f2), .int .i64 ((rd_T84 l0_0 x4_1).f1.f3), .string ((rd_T84 l0_0 x4_1).f1.f4)] (fun _ => True) (fun _ => False) rfl rfl ?aP (fun _ hk => hk.elim) ?aF ?aO ?aB ?aS ?aL ?_; (case aP => exact k84_mkM _ _ _ (⟨(rd_T84 l0_0 x4_1).f0, (⟨(rd_T84 l0_0 x4_1).f1.f0, (rd_T84 l0_0 x4_1).f1.f1, (rd_T84 l0_0 x4_1).f1.f2, (rd_T84 l0_0 x4_1).f1.f3, (rd_T84 l0_0 x4_1).f1.f4⟩ : S25)⟩ : S84)); (case aB => exact zB); (case aF => exact (fun _ _ => trivial)); (case aO => exact (zr HO_3)); (case aS => exact (below_size zB)); (case aL => have := LMc12.out; omega); intro v580 w14 ho hb hg hat; rw [← Ny579.out] at ho; replace BK572 := zm (blk_grown (g := gb572) (o := .cells #[.slice (some ad577) l0_0.length c0_0, .slice A0_1 l0_1.length c0_1] 55 (0, 0)) (zb BK572) hg (Kd.R_ne HO_3.out BK572.out (by decide))); replace HB := zm (hb); have HO581 := zm (ho); clear HO_3; clear ho hb hg hat))
        go_roundg k1
        case measure => have := HK1.out; omega
        case rel => exact ⟨(y579), (wrap64 (x4_1 + 1)), zF, H', ⟨by have := HK1.out; omega⟩, ⟨zr HO581⟩, ⟨zb BK572⟩, ⟨zB⟩⟩
       ·rw [if_neg c12] at H
        exact absurd H (by simp)
      ·rw [if_neg c11] at H
       have c11b0 : (((rd_T84 l0_0 x4_1).f1.f1) == 0) = false := beq_eq_false_iff_ne.mpr c11
       have c11b1 : (((rd_T84 l0_0 x4_1).f1.f1) != 0) = true := bne_iff_ne.mpr c11
       have H' := zm H
       clear H
       have hcz15_0 : wr.cell? ⟨gb572, 0, none⟩ = some (.slice A0_0 l0_0.length c0_0) := (blk_cell BK572.out 0).trans rfl
       have hcz15_1 : wr.cell? ⟨gb572, 1, none⟩ = some (.slice A0_1 l0_1.length c0_1) := (blk_cell BK572.out 1).trans rfl
       have hfz15_0 := blk_frozen BK572.out 0
       have hfz15_1 := blk_frozen BK572.out 1
       have p577 : 0 ≤ (x4_1 : Int) := zd
       have q577 : x4_1 < (l0_0.length : Int) := zd
       obtain ⟨ad577, e577, hx577_0, hx577_1, hx577_2, hx577_3, hx577_4, hx577_5⟩ := at_T84 (Kd.C_below HR0_0.out HB.out) x4_1 p577 q577
       cases e577
       replace p577 := eq_true p577
       replace q577 := eq_true q577
       go_wp2
       go_roundg k1
       case measure => have := HK1.out; omega
       case rel => exact ⟨(x3_1), (wrap64 (x4_1 + 1)), zF, H', ⟨by have := HK1.out; omega⟩, ⟨zr HO_3⟩, ⟨zb BK572⟩, ⟨zB⟩⟩
     ·rw [if_neg c10] at H
      exact absurd H (by simp)
    ·rw [if_neg c9] at H
     have c9b0 : decide (x4_1 < (l0_0.length : Int)) = false := decide_eq_false c9
     clear c9
     obtain rfl := Option.some.inj H
     have hcz16_0 : wr.cell? ⟨gb572, 0, none⟩ = some (.slice A0_0 l0_0.length c0_0) := (blk_cell BK572.out 0).trans rfl
     have hcz16_1 : wr.cell? ⟨gb572, 1, none⟩ = some (.slice A0_1 l0_1.length c0_1) := (blk_cell BK572.out 1).trans rfl
     have hfz16_0 := blk_frozen BK572.out 0
     have hfz16_1 := blk_frozen BK572.out 1
     go_wp2
     go_ret
     exact ⟨_, zE, zr HO_3, zB⟩
 ·replace c3 := Bool.eq_false_iff.mpr c3
  subst c3
  have H1 : (some y573) = some r := by rw [if_neg (show ¬ (false = true) by decide)] at H; exact H
  clear H
  have H := H1
  clear H1
  obtain rfl := Option.some.inj H
  go_enter Try.func54, Try.ntmps54
  go_wp2_with (first | ((with_reducible refine gate_dst (N := 1) rfl ?_); refine zbox 1 #[.slice A0_0 l0_0.length c0_0, .slice A0_1 l0_1.length c0_1] 55 ?_; intro gb572 hg w17 hbox hb; have BK572 := zm (hbox); have GW572 := zge w hg zB; have GE572 := zge w hg zB; replace HB := zm (below_step zB hb); clear hb hbox hg) | ((with_reducible refine gate_dst (N := 5) rfl ?_); refine Kd.R_lit k84 _ 84 ?hg (N := 5) ?hd (xs := ([] : List (S84))) (inner := []) (ok := fun _ => True) (okp := fun _ => True) ?hr ?hp (fun _ hk => hk) trivial (Below.refl _ _) (Nat.le_refl _) (by simp) ?_; (case hd => rfl); (case hg => rfl); (case hr => first | (go_simp; done) | (go_simp; rfl)); (case hp => exact (Reps.none _ _)); intro v574 w18 ho19 hb hg_ hnew_; clear hg_ hnew_; (first | rw [← Ny573.out] at ho19 | (simp only [Int.reduceToNat] at ho19; rw [← Ny573.out] at ho19)); have HO575 := zm (Kd.R_lower ho19 (below_size zB)); replace BK572 := zm (blk_below (zb BK572) hb); replace HB := zm (below_step zB hb); clear hb ho19; have hcz20_0 : w18.cell? ⟨gb572, 0, none⟩ = some (.slice A0_0 l0_0.length c0_0) := (blk_cell BK572.out 0).trans rfl; have hcz20_1 : w18.cell? ⟨gb572, 1, none⟩ = some (.slice A0_1 l0_1.length c0_1) := (blk_cell BK572.out 1).trans rfl; have hfz20_0 := blk_frozen BK572.out 0; have hfz20_1 := blk_frozen BK572.out 1) | ((with_reducible refine gate_callee (f := 44) rfl ?_); refine zg (some 7) #[.agg #[.slice A0_0 l0_0.length c0_0, .slice A0_1 l0_1.length c0_1]] Try.func44 ?_; (with_reducible refine (spec_StateOk.calls k _ _ l0_0 _ _ l0_1 false _ (zk (Kd.C_below HR0_0.out HB.out)) HC0_0.out (zk (Kd.C_below HR0_1.out HB.out)) HC0_1.out A2.out).mono ?_); rintro e w21 ⟨rfl, hb⟩; refine ⟨_, rfl, ?_⟩; replace HO575 := zm (Kd.R_below (zr HO575) hb); replace BK572 := zm (blk_below (zb BK572) hb); replace HB := zm (below_step zB hb); clear hb))
  go_ret
  exact ⟨_, zE, zr HO575, zB⟩

/-! ### spec_Lookup: function 52 -/
def spec_Lookup.f (k : Nat) (l0_0 : List (S84)) (l0_1 : List (S89)) (a1 : Int) : Option (Int × Int × Int × Int × ByteArray × Bool) := (spec_View.f k l0_0 l0_1).bind fun t584 => ((spec_EntryOf.f k t584 ([] : List (S89)) a1).bind fun bt587 => (some (bt587.1, bt587.2.1, bt587.2.2.1, bt587.2.2.2.1, bt587.2.2.2.2.1, bt587.2.2.2.2.2)))
theorem spec_Lookup.mono : ∀ a0 a1 a2 k, LeO (spec_Lookup.f k a0 a1 a2) (spec_Lookup.f (k + 1) a0 a1 a2) := by
 intro a0 a1 a2 k
 unfold spec_Lookup.f
 repeat' first
   | (with_reducible exact spec_EntryOf.mono _ _ _ _)
   | (with_reducible exact spec_View.mono _ _ _)
   | (with_reducible exact LeO.refl _)
   | (with_reducible exact LeO.none _)
   | (with_reducible refine LeO.ite ?_ ?_)
   | (with_reducible refine LeO.bind ?_ (fun _ => ?_))
   | exact spec_EntryOf.mono _ _ _ _
   | exact spec_View.mono _ _ _
   | exact LeO.none _
   | refine LeO.ite ?_ ?_
   | refine LeO.bind ?_ (fun _ => ?_)
set_option maxHeartbeats 8000000 in
set_option maxRecDepth 100000 in
theorem spec_Lookup.calls (k : Nat) (A0_0 : Option Addr) (c0_0 : Nat) (l0_0 : List (S84)) (A0_1 : Option Addr) (c0_1 : Nat) (l0_1 : List (S89)) (a1 : Int) (r1 : Int) (r2 : Int) (r3 : Int) (r4 : Int) (r5 : ByteArray) (r6 : Bool) (w : World) (hr0_0 : Kd.C k84 w A0_0 l0_0.length l0_0) (hc0_0 : l0_0.length ≤ c0_0) (hr0_1 : Kd.C k89 w A0_1 l0_1.length l0_1) (hc0_1 : l0_1.length ≤ c0_1) (h : spec_Lookup.f k l0_0 l0_1 a1 = some (r1, r2, r3, r4, r5, r6)) :
  Calls Try.prog 52 #[.agg #[.slice A0_0 l0_0.length c0_0, .slice A0_1 l0_1.length c0_1], .int .i64 a1] w fun e w' => e = .returned (.tuple #[.agg #[.int .i64 r1, .int .i64 r2, .int .i64 r3, .int .i64 r4, .string r5], .bool r6]) ∧ Below w.heap.size w w' := by
 have hu55 := Try.underlying55
 have hu25 := Try.underlying25
 have HR0_0 := zm hr0_0
 have HC0_0 := zm hc0_0
 clear hr0_0 hc0_0
 have HR0_1 := zm hr0_1
 have HC0_1 := zm hc0_1
 clear hr0_1 hc0_1
 have HB := zm (Below.refl w.heap.size w)
 have H : ((spec_View.f k l0_0 l0_1).bind fun t584 => ((spec_EntryOf.f k t584 ([] : List (S89)) a1).bind fun bt587 => (some (bt587.1, bt587.2.1, bt587.2.2.1, bt587.2.2.2.1, bt587.2.2.2.2.1, bt587.2.2.2.2.2)))) = some (r1, r2, r3, r4, r5, r6) := h
 clear h
 replace H := Option.bind_eq_some_iff.mp H
 obtain ⟨t584, A30, H⟩ := H
 replace H : ((spec_EntryOf.f k t584 ([] : List (S89)) a1).bind fun bt587 => (some (bt587.1, bt587.2.1, bt587.2.2.1, bt587.2.2.2.1, bt587.2.2.2.2.1, bt587.2.2.2.2.2))) = some (r1, r2, r3, r4, r5, r6) := H
 have A3 := zm A30
 clear A30
 replace H := Option.bind_eq_some_iff.mp H
 obtain ⟨⟨t587, t588, t589, t590, t591, t592⟩, A40, H⟩ := H
 replace H : (some (t587, t588, t589, t590, t591, t592)) = some (r1, r2, r3, r4, r5, r6) := H
 have A4 := zm A40
 clear A40
 simp only [Option.some.injEq, Prod.mk.injEq] at H
 obtain ⟨rfl, rfl, rfl, rfl, rfl, rfl⟩ := H
 go_enter Try.func52, Try.ntmps52
 go_wp2_with (first | ((with_reducible refine gate_dst (N := 2) rfl ?_); refine zbox 2 #[.slice A0_0 l0_0.length c0_0, .slice A0_1 l0_1.length c0_1] 55 ?_; intro gb582 hg w5 hbox hb; have BK582 := zm (hbox); have GW582 := zge w hg zB; have GE582 := zge w hg zB; replace HB := zm (below_step zB hb); clear hb hbox hg) | ((with_reducible refine gate_dst (N := 4) rfl ?_); refine zbox 4 #[.int .i64 0, .int .i64 0, .int .i64 0, .int .i64 0, .string (⟨#[]⟩ : ByteArray)] 25 ?_; intro gb583 hg w6 hbox hb; have BK583 := zm (hbox); have GW583 := zge w hg zB; have GE583 := zge w hg zB; replace HB := zm (below_step zB hb); have NB582_583 := zlt hg (zb BK582); have NB583_582 := zgt hg (zb BK582); replace BK582 := zm (blk_below (zb BK582) hb); clear hb hbox hg; have hnb7 := NB582_583.out; have hnc7 := NB583_582.out; have hcz8_0 : w6.cell? ⟨gb582, 0, none⟩ = some (.slice A0_0 l0_0.length c0_0) := (blk_cell BK582.out 0).trans rfl; have hcz8_1 : w6.cell? ⟨gb582, 1, none⟩ = some (.slice A0_1 l0_1.length c0_1) := (blk_cell BK582.out 1).trans rfl; have hfz8_0 := blk_frozen BK582.out 0; have hfz8_1 := blk_frozen BK582.out 1) | ((with_reducible refine gate_callee (f := 54) rfl ?_); refine zg (some 7) #[.agg #[.slice A0_0 l0_0.length c0_0, .slice A0_1 l0_1.length c0_1]] Try.func54 ?_; (with_reducible refine (spec_View.calls k _ _ l0_0 _ _ l0_1 t584 _ (zk (Kd.C_below HR0_0.out HB.out)) HC0_0.out (zk (Kd.C_below HR0_1.out HB.out)) HC0_1.out A3.out).mono ?_); rintro e w9 ⟨v585, rfl, ho0, hb⟩; refine ⟨_, rfl, ?_⟩; have HO586 := zm (Kd.R_lower ho0 (below_size zB)); replace BK582 := zm (blk_below (zb BK582) hb); replace BK583 := zm (blk_below (zb BK583) hb); replace HB := zm (below_step zB hb); clear hb ho0; obtain ⟨Ao10, co10, eo10⟩ := Kd.R_slice HO586.out; subst eo10) | ((with_reducible refine gate_callee (f := 36) rfl ?_); refine zg (some 10) #[.agg #[.slice Ao10 t584.length co10, .slice none 0 0], .int .i64 a1] Try.func36 ?_; (refine (spec_EntryOf.calls k _ _ t584 _ _ ([] : List (S89)) a1 t587 t588 t589 t590 t591 t592 _ ?side1 ?side2 ?side3 ?side4 A4.out).mono ?_); (case side1 => repeat (first | exact (Kd.R_reads' HO586.out).2.2 | (with_reducible refine Kd.C_alloc ?_ _) | (with_reducible refine Kd.C_drewN ?_ _) | (with_reducible refine Kd.C_drew ?_))); (case side2 => exact (Kd.R_reads' HO586.out).2.1); (case side3 => exact Kd.C_nil _ _); (case side4 => exact Nat.le_refl _); rintro e w11 ⟨rfl, hb⟩; refine ⟨_, rfl, ?_⟩; replace HO586 := zm (Kd.R_below (zr HO586) hb); replace BK582 := zm (blk_below (zb BK582) hb); replace BK583 := zm (blk_below (zb BK583) hb); replace HB := zm (below_step zB hb); clear hb; have hcz12_0 : w11.cell? ⟨gb583, 0, none⟩ = some (.int .i64 0) := (blk_cell BK583.out 0).trans rfl; have hcz12_1 : w11.cell? ⟨gb583, 1, none⟩ = some (.int .i64 0) := (blk_cell BK583.out 1).trans rfl; have hcz12_2 : w11.cell? ⟨gb583, 2, none⟩ = some (.int .i64 0) := (blk_cell BK583.out 2).trans rfl; have hcz12_3 : w11.cell? ⟨gb583, 3, none⟩ = some (.int .i64 0) := (blk_cell BK583.out 3).trans rfl; have hcz12_4 : w11.cell? ⟨gb583, 4, none⟩ = some (.string (⟨#[]⟩ : ByteArray)) := (blk_cell BK583.out 4).trans rfl; have hfz12_0 := blk_frozen BK583.out 0; have hfz12_1 := blk_frozen BK583.out 1; have hfz12_2 := blk_frozen BK583.out 2; have hfz12_3 := blk_frozen BK583.out 3; have hfz12_4 := blk_frozen BK583.out 4))
 refine bodyPost_ret (results_ct rfl _ _ gb583 25 #[.int .i64 t587, .int .i64 t588, .int .i64 t589, .int .i64 t590, .string t591] (0, 0) _ rfl (zput (zput (zput (zput (zput (zb BK583) 0) 1) 2) 3) 4) Try.underlying25 rfl (by kernel_rfl)) rfl ?_
 exact ⟨zE, zB⟩

/-! ### impl_View: function 55 -/
def impl_View.l0 : Nat → List (S84) → List (S84) → Int → Int → Option ((List (S84)))
 | 0, _, _, _, _ => none
 | k + 1, x3, x12, x13, x14 => if x14 < x13 then (if 0 ≤ x14 then (if x14 < (x12.length : Int) then (if ((rd_T84 x12 x14).f1.f1) = 0 then (if x3.length < 2513169434916 then (impl_View.l0 k (x3 ++ [(⟨(rd_T84 x12 x14).f0, (⟨(rd_T84 x12 x14).f1.f0, (rd_T84 x12 x14).f1.f1, (rd_T84 x12 x14).f1.f2, (rd_T84 x12 x14).f1.f3, (rd_T84 x12 x14).f1.f4⟩ : S25)⟩ : S84)]) x12 x13 (wrap64 (x14 + 1))) else (none)) else (impl_View.l0 k x3 x12 x13 (wrap64 (x14 + 1)))) else (none)) else (none)) else (some x3)
def impl_View.f (k : Nat) (l0_0 : List (S84)) (l0_1 : List (S89)) : Option ((List (S84))) := (some (([] : List (S84)) : List (S84))).bind fun y594 => ((impl_StateOk.f k l0_0 l0_1).bind fun t597 => (if t597 = true then (impl_View.l0 k y594 l0_0 (l0_0.length : Int) 0) else (some y594)))
theorem impl_View.mono_l : ∀ k, (∀ y0 y1 y2 y3, LeO (impl_View.l0 k y0 y1 y2 y3) (impl_View.l0 (k + 1) y0 y1 y2 y3))
 | 0 => fun _ _ _ _ r h => by simp [impl_View.l0] at h
 | k + 1 => by
  have ih0 := impl_View.mono_l k
  ·intro y0 y1 y2 y3
   unfold impl_View.l0
   repeat' first
   | (with_reducible exact ih0 _ _ _ _)
   | (with_reducible exact impl_StateOk.mono _ _ _)
   | (with_reducible exact LeO.refl _)
   | (with_reducible exact LeO.none _)
   | (with_reducible refine LeO.ite ?_ ?_)
   | (with_reducible refine LeO.bind ?_ (fun _ => ?_))
   | exact ih0 _ _ _ _
   | exact impl_StateOk.mono _ _ _
   | exact LeO.none _
   | refine LeO.ite ?_ ?_
   | refine LeO.bind ?_ (fun _ => ?_)
theorem impl_View.mono : ∀ a0 a1 k, LeO (impl_View.f k a0 a1) (impl_View.f (k + 1) a0 a1) := by
 intro a0 a1 k
 have ih0 := impl_View.mono_l k
 unfold impl_View.f
 repeat' first
   | (with_reducible exact ih0 _ _ _ _)
   | (with_reducible exact impl_StateOk.mono _ _ _)
   | (with_reducible exact LeO.refl _)
   | (with_reducible exact LeO.none _)
   | (with_reducible refine LeO.ite ?_ ?_)
   | (with_reducible refine LeO.bind ?_ (fun _ => ?_))
   | exact ih0 _ _ _ _
   | exact impl_StateOk.mono _ _ _
   | exact LeO.none _
   | refine LeO.ite ?_ ?_
   | refine LeO.bind ?_ (fun _ => ?_)
set_option maxHeartbeats 8000000 in
set_option maxRecDepth 100000 in
theorem impl_View.calls (k : Nat) (A0_0 : Option Addr) (c0_0 : Nat) (l0_0 : List (S84)) (A0_1 : Option Addr) (c0_1 : Nat) (l0_1 : List (S89)) (r : List (S84)) (w : World) (hr0_0 : Kd.C k84 w A0_0 l0_0.length l0_0) (hc0_0 : l0_0.length ≤ c0_0) (hr0_1 : Kd.C k89 w A0_1 l0_1.length l0_1) (hc0_1 : l0_1.length ≤ c0_1) (h : impl_View.f k l0_0 l0_1 = some r) :
  Calls Try.prog 55 #[.agg #[.slice A0_0 l0_0.length c0_0, .slice A0_1 l0_1.length c0_1]] w fun e w' => ∃ v0_ : Value, e = .returned (v0_) ∧ Kd.R k84 84 w' w.heap.size (fun _ => True) v0_ r ∧ Below w.heap.size w w' := by
 have hu55 := Try.underlying55
 have hu84 := Try.underlying84
 have HR0_0 := zm hr0_0
 have HC0_0 := zm hc0_0
 clear hr0_0 hc0_0
 have HR0_1 := zm hr0_1
 have HC0_1 := zm hc0_1
 clear hr0_1 hc0_1
 have HB := zm (Below.refl w.heap.size w)
 have H : ((some (([] : List (S84)) : List (S84))).bind fun y594 => ((impl_StateOk.f k l0_0 l0_1).bind fun t597 => (if t597 = true then (impl_View.l0 k y594 l0_0 (l0_0.length : Int) 0) else (some y594)))) = some r := h
 clear h
 obtain ⟨y594, hy594⟩ : ∃ y_ : List (S84), y_ = (([] : List (S84))) := ⟨_, rfl⟩
 replace H : ((impl_StateOk.f k l0_0 l0_1).bind fun t597 => (if t597 = true then (impl_View.l0 k y594 l0_0 (l0_0.length : Int) 0) else (some y594))) = some r := by first | (rw [hy594]; with_reducible exact H) | (have H2_ := (Option.bind_some _ _).symm.trans H; rw [hy594]; with_reducible exact H2_) | (have H2_ := (Option.bind_some _ _).symm.trans H; with_reducible exact H2_) | with_reducible exact H | (rw [hy594]; exact H) | exact H
 have Ny594 := zm hy594
 clear hy594
 replace H := Option.bind_eq_some_iff.mp H
 obtain ⟨t597, A20, H⟩ := H
 replace H : (if t597 = true then (impl_View.l0 k y594 l0_0 (l0_0.length : Int) 0) else (some y594)) = some r := H
 have A2 := zm A20
 clear A20
 by_cases c3 : t597 = true
 ·subst c3
  have H1 : (impl_View.l0 k y594 l0_0 (l0_0.length : Int) 0) = some r := by rw [if_pos rfl] at H; exact H
  clear H
  have H := H1
  clear H1
  have H' := zm H
  clear H
  go_enter Try.func55, Try.ntmps55
  go_wp2_with (first | ((with_reducible refine gate_dst (N := 1) rfl ?_); refine zbox 1 #[.slice A0_0 l0_0.length c0_0, .slice A0_1 l0_1.length c0_1] 55 ?_; intro gb593 hg w4 hbox hb; have BK593 := zm (hbox); have GW593 := zge w hg zB; have GE593 := zge w hg zB; replace HB := zm (below_step zB hb); clear hb hbox hg) | ((with_reducible refine gate_dst (N := 6) rfl ?_); refine Kd.R_lit k84 _ 84 ?hg (N := 6) ?hd (xs := ([] : List (S84))) (inner := []) (ok := fun _ => True) (okp := fun _ => True) ?hr ?hp (fun _ hk => hk) trivial (Below.refl _ _) (Nat.le_refl _) (by simp) ?_; (case hd => rfl); (case hg => rfl); (case hr => first | (go_simp; done) | (go_simp; rfl)); (case hp => exact (Reps.none _ _)); intro v595 w5 ho6 hb hg_ hnew_; clear hg_ hnew_; (first | rw [← Ny594.out] at ho6 | (simp only [Int.reduceToNat] at ho6; rw [← Ny594.out] at ho6)); have HO596 := zm (Kd.R_lower ho6 (below_size zB)); replace BK593 := zm (blk_below (zb BK593) hb); replace HB := zm (below_step zB hb); clear hb ho6; have hcz7_0 : w5.cell? ⟨gb593, 0, none⟩ = some (.slice A0_0 l0_0.length c0_0) := (blk_cell BK593.out 0).trans rfl; have hcz7_1 : w5.cell? ⟨gb593, 1, none⟩ = some (.slice A0_1 l0_1.length c0_1) := (blk_cell BK593.out 1).trans rfl; have hfz7_0 := blk_frozen BK593.out 0; have hfz7_1 := blk_frozen BK593.out 1) | ((with_reducible refine gate_callee (f := 45) rfl ?_); refine zg (some 8) #[.agg #[.slice A0_0 l0_0.length c0_0, .slice A0_1 l0_1.length c0_1]] Try.func45 ?_; (with_reducible refine (impl_StateOk.calls k _ _ l0_0 _ _ l0_1 true _ (zk (Kd.C_below HR0_0.out HB.out)) HC0_0.out (zk (Kd.C_below HR0_1.out HB.out)) HC0_1.out A2.out).mono ?_); rintro e w8 ⟨rfl, hb⟩; refine ⟨_, rfl, ?_⟩; replace HO596 := zm (Kd.R_below (zr HO596) hb); replace BK593 := zm (blk_below (zb BK593) hb); replace HB := zm (below_step zB hb); clear hb; have hcz9_0 : w8.cell? ⟨gb593, 0, none⟩ = some (.slice A0_0 l0_0.length c0_0) := (blk_cell BK593.out 0).trans rfl; have hcz9_1 : w8.cell? ⟨gb593, 1, none⟩ = some (.slice A0_1 l0_1.length c0_1) := (blk_cell BK593.out 1).trans rfl; have hfz9_0 := blk_frozen BK593.out 0; have hfz9_1 := blk_frozen BK593.out 1))
  go_loopg [3, 14] k (fun kq v3 v14 w' => ∃ (x3_1 : List (S84)) (x14_1 : Int), v14 = .int .i64 x14_1 ∧ Aside0 (impl_View.l0 kq x3_1 l0_0 (l0_0.length : Int) x14_1 = some r) ∧ Aside0 (kq ≤ k) ∧ Aside0 (Kd.R k84 84 w' w.heap.size (fun _ => True) v3 x3_1) ∧ Aside0 (w'.heap[gb593]? = some (.cells #[(.slice A0_0 l0_0.length c0_0), (.slice A0_1 l0_1.length c0_1)] 55 (0, 0))) ∧ Aside0 (Below w.heap.size w w'))
  case atStart => exact ⟨(y594), (0), zF, H', ⟨Nat.le_refl _⟩, ⟨zr HO596⟩, ⟨zb BK593⟩, ⟨zB⟩⟩
  case round =>
   clear H'
   try clear p2
   try clear c3
   try clear c4
   try clear c5
   try clear hcz7_0
   try clear hcz7_1
   try clear hcz9_0
   try clear hcz9_1
   try clear hfz7_0
   try clear hfz7_1
   try clear hfz9_0
   try clear hfz9_1
   obtain ⟨x3_1, x14_1, rfl, HA, HK1, HO_3, BK593, HB⟩ := hrel
   cases gk with
   | zero => exact absurd HA.out (by simp [impl_View.l0])
   | succ k1 =>
    have H := HA.out
    clear HA
    simp only [impl_View.l0] at H
    by_cases c10 : x14_1 < (l0_0.length : Int)
    ·rw [if_pos c10] at H
     have c10b0 : decide (x14_1 < (l0_0.length : Int)) = true := decide_eq_true c10
     clear c10
     by_cases c11 : 0 ≤ x14_1
     ·rw [if_pos c11] at H
      have c11b0 : decide (0 ≤ x14_1) = true := decide_eq_true c11
      clear c11
      by_cases c12 : x14_1 < (l0_0.length : Int)
      ·rw [if_pos c12] at H
       have c12b0 : decide (x14_1 < (l0_0.length : Int)) = true := decide_eq_true c12
       clear c12
       by_cases c13 : ((rd_T84 l0_0 x14_1).f1.f1) = 0
       ·rw [if_pos c13] at H
        have c13b0 : (((rd_T84 l0_0 x14_1).f1.f1) == 0) = true := beq_iff_eq.mpr c13
        have c13b1 : (((rd_T84 l0_0 x14_1).f1.f1) != 0) = false := bne_eq_false_iff_eq.mpr c13
        clear c13
        by_cases c14 : x3_1.length < 2513169434916
        ·rw [if_pos c14] at H
         have LMc14 := zm c14
         clear c14
         obtain ⟨y600, hy600⟩ : ∃ y_ : List (S84), y_ = (x3_1 ++ [(⟨(rd_T84 l0_0 x14_1).f0, (⟨(rd_T84 l0_0 x14_1).f1.f0, (rd_T84 l0_0 x14_1).f1.f1, (rd_T84 l0_0 x14_1).f1.f2, (rd_T84 l0_0 x14_1).f1.f3, (rd_T84 l0_0 x14_1).f1.f4⟩ : S25)⟩ : S84)]) := ⟨_, rfl⟩
         replace H : (impl_View.l0 k1 y600 l0_0 (l0_0.length : Int) (wrap64 (x14_1 + 1))) = some r := by first | (rw [hy600]; with_reducible exact H) | (have H2_ := (Option.bind_some _ _).symm.trans H; rw [hy600]; with_reducible exact H2_) | (have H2_ := (Option.bind_some _ _).symm.trans H; with_reducible exact H2_) | with_reducible exact H | (rw [hy600]; exact H) | exact H
         have Ny600 := zm hy600
         clear hy600
         have H' := zm H
         clear H
         have p598 : 0 ≤ (x14_1 : Int) := zd
         have q598 : x14_1 < (l0_0.length : Int) := zd
         obtain ⟨ad598, e598, hx598_0, hx598_1, hx598_2, hx598_3, hx598_4, hx598_5⟩ := at_T84 (Kd.C_below HR0_0.out HB.out) x14_1 p598 q598
         cases e598
         replace p598 := eq_true p598
         replace q598 := eq_true q598
         go_wp2_with (first | ((with_reducible refine gate_dst (N := 5) rfl ?_); refine zbox 5 #[.int .i64 0, .int .i64 0, .int .i64 0, .int .i64 0, .int .i64 0, .string (⟨#[]⟩ : ByteArray)] 84 ?_; intro gb599 hg w15 hbox hb; replace HO_3 := zm (Kd.R_below (Kd.R_elderB (zr HO_3) gb599 (Nat.le_of_eq hg.symm)) hb); have BK599 := zm (hbox); have GW599 := zge w hg zB; have GE599 := zge w hg zB; replace HB := zm (below_step zB hb); have NB593_599 := zlt hg (zb BK593); have NB599_593 := zgt hg (zb BK593); replace BK593 := zm (blk_below (zb BK593) hb); clear hb hbox hg; have hnb16 := NB599_593.out; have hnc16 := NB593_599.out; have hcz17_0 : w15.cell? ⟨gb599, 0, none⟩ = some (.int .i64 0) := (blk_cell BK599.out 0).trans rfl; have hcz17_1 : w15.cell? ⟨gb599, 1, none⟩ = some (.int .i64 0) := (blk_cell BK599.out 1).trans rfl; have hcz17_2 : w15.cell? ⟨gb599, 2, none⟩ = some (.int .i64 0) := (blk_cell BK599.out 2).trans rfl; have hcz17_3 : w15.cell? ⟨gb599, 3, none⟩ = some (.int .i64 0) := (blk_cell BK599.out 3).trans rfl; have hcz17_4 : w15.cell? ⟨gb599, 4, none⟩ = some (.int .i64 0) := (blk_cell BK599.out 4).trans rfl; have hcz17_5 : w15.cell? ⟨gb599, 5, none⟩ = some (.string (⟨#[]⟩ : ByteArray)) := (blk_cell BK599.out 5).trans rfl; have hfz17_0 := blk_frozen BK599.out 0; have hfz17_1 := blk_frozen BK599.out 1; have hfz17_2 := blk_frozen BK599.out 2; have hfz17_3 := blk_frozen BK599.out 3; have hfz17_4 := blk_frozen BK599.out 4; have hfz17_5 := blk_frozen BK599.out 5) | ((with_reducible refine gate_builtin (b := .append) (xs := #[.tmp 22, .tmp 24]) rfl ?_); at_builtin; refine Kd.R_append k84 (w0 := w) w.heap.size rfl (.tmp 22) (.tmp 24) 52 84 (.agg #[(.int .i64 0), (.int .i64 0), (.int .i64 0), (.int .i64 0), (.int .i64 0), (.string ⟨#[]⟩)]) 56 rfl Try.underlying52 info84 rfl (by decide) (by omega) u3 x3_1 (⟨(rd_T84 l0_0 x14_1).f0, (⟨(rd_T84 l0_0 x14_1).f1.f0, (rd_T84 l0_0 x14_1).f1.f1, (rd_T84 l0_0 x14_1).f1.f2, (rd_T84 l0_0 x14_1).f1.f3, (rd_T84 l0_0 x14_1).f1.f4⟩ : S25)⟩ : S84) [.int .i64 ((rd_T84 l0_0 x14_1).f0), .int .i64 ((rd_T84 l0_0 x14_1).f1.f0), .int .i64 ((rd_T84 l0_0 x14_1).f1.f1), .int .i64 ((rd_T84 l0_0 x14_1).f1.f2), .int .i64 ((rd_T84 l0_0 x14_1).f1.f3), .string ((rd_T84 l0_0 x14_1).f1.f4)] (fun k_ => k_ ≠ gb599) (fun _ => False) rfl (by first | (go_simp; done) | (go_simp; rfl)) ?aP (fun _ hk => hk.elim) ?aF ?aO ?aB ?aS ?aL ?_; (case aP => exact k84_mkM _ _ _ (⟨(rd_T84 l0_0 x14_1).f0, (⟨(rd_T84 l0_0 x14_1).f1.f0, (rd_T84 l0_0 x14_1).f1.f1, (rd_T84 l0_0 x14_1).f1.f2, (rd_T84 l0_0 x14_1).f1.f3, (rd_T84 l0_0 x14_1).f1.f4⟩ : S25)⟩ : S84)); (case aB => exact zB); (case aF => exact (fun k_ hk => Kd.freshB (g := gb599) (o := .cells #[.int .i64 ((rd_T84 l0_0 x14_1).f0), .int .i64 ((rd_T84 l0_0 x14_1).f1.f0), .int .i64 ((rd_T84 l0_0 x14_1).f1.f1), .int .i64 ((rd_T84 l0_0 x14_1).f1.f2), .int .i64 ((rd_T84 l0_0 x14_1).f1.f3), .string ((rd_T84 l0_0 x14_1).f1.f4)] 84 (0, 0)) (zput (zput (zput (zput (zput (zput (zb BK599) 0) 1) 2) 3) 4) 5) k_ hk)); (case aO => exact (zrs <| Kd.R_mono (zfr (zfr (zfr (zfr (zfr (zfr (Kd.R_mono HO_3.out (fun k_ hk => (⟨hk, hk.2⟩ : _ ∧ k_ ≠ gb599))))))))) (fun _ hk => hk.1.2))); (case aS => exact (below_size zB)); (case aL => have := LMc14.out; omega); intro v601 w18 ho hb hg hat; rw [← Ny600.out] at ho; replace BK593 := zm (blk_grown (g := gb593) (o := .cells #[.slice (some ad598) l0_0.length c0_0, .slice A0_1 l0_1.length c0_1] 55 (0, 0)) (zfar (zfar (zfar (zfar (zfar (zfar (zb BK593) NB593_599) NB593_599) NB593_599) NB593_599) NB593_599) NB593_599) hg (Kd.R_ne HO_3.out BK593.out (by decide))); replace BK599 := zm (blk_grown (g := gb599) (o := .cells #[.int .i64 ((rd_T84 l0_0 x14_1).f0), .int .i64 ((rd_T84 l0_0 x14_1).f1.f0), .int .i64 ((rd_T84 l0_0 x14_1).f1.f1), .int .i64 ((rd_T84 l0_0 x14_1).f1.f2), .int .i64 ((rd_T84 l0_0 x14_1).f1.f3), .string ((rd_T84 l0_0 x14_1).f1.f4)] 84 (0, 0)) (zput (zput (zput (zput (zput (zput (zb BK599) 0) 1) 2) 3) 4) 5) hg (Kd.R_away HO_3.out (fun _ hk => hk.2))); replace HB := zm (hb); have HO602 := zm (ho); clear HO_3; clear ho hb hg hat))
         go_roundg k1
         case measure => have := HK1.out; omega
         case rel => exact ⟨(y600), (wrap64 (x14_1 + 1)), zF, H', ⟨by have := HK1.out; omega⟩, ⟨by (with_reducible repeat (first | apply Kd.R_alloc | apply Kd.R_drewN | apply Kd.R_drew)); exact Kd.R_mono HO602.out (fun _ hk => trivial)⟩, ⟨zb BK593⟩, ⟨zB⟩⟩
        ·rw [if_neg c14] at H
         exact absurd H (by simp)
       ·rw [if_neg c13] at H
        have c13b0 : (((rd_T84 l0_0 x14_1).f1.f1) == 0) = false := beq_eq_false_iff_ne.mpr c13
        have c13b1 : (((rd_T84 l0_0 x14_1).f1.f1) != 0) = true := bne_iff_ne.mpr c13
        have H' := zm H
        clear H
        have p598 : 0 ≤ (x14_1 : Int) := zd
        have q598 : x14_1 < (l0_0.length : Int) := zd
        obtain ⟨ad598, e598, hx598_0, hx598_1, hx598_2, hx598_3, hx598_4, hx598_5⟩ := at_T84 (Kd.C_below HR0_0.out HB.out) x14_1 p598 q598
        cases e598
        replace p598 := eq_true p598
        replace q598 := eq_true q598
        go_wp2_with (first | ((with_reducible refine gate_dst (N := 5) rfl ?_); refine zbox 5 #[.int .i64 0, .int .i64 0, .int .i64 0, .int .i64 0, .int .i64 0, .string (⟨#[]⟩ : ByteArray)] 84 ?_; intro gb599 hg w19 hbox hb; replace HO_3 := zm (Kd.R_below (Kd.R_elderB (zr HO_3) gb599 (Nat.le_of_eq hg.symm)) hb); have BK599 := zm (hbox); have GW599 := zge w hg zB; have GE599 := zge w hg zB; replace HB := zm (below_step zB hb); have NB593_599 := zlt hg (zb BK593); have NB599_593 := zgt hg (zb BK593); replace BK593 := zm (blk_below (zb BK593) hb); clear hb hbox hg; have hnb20 := NB599_593.out; have hnc20 := NB593_599.out; have hcz21_0 : w19.cell? ⟨gb599, 0, none⟩ = some (.int .i64 0) := (blk_cell BK599.out 0).trans rfl; have hcz21_1 : w19.cell? ⟨gb599, 1, none⟩ = some (.int .i64 0) := (blk_cell BK599.out 1).trans rfl; have hcz21_2 : w19.cell? ⟨gb599, 2, none⟩ = some (.int .i64 0) := (blk_cell BK599.out 2).trans rfl; have hcz21_3 : w19.cell? ⟨gb599, 3, none⟩ = some (.int .i64 0) := (blk_cell BK599.out 3).trans rfl; have hcz21_4 : w19.cell? ⟨gb599, 4, none⟩ = some (.int .i64 0) := (blk_cell BK599.out 4).trans rfl; have hcz21_5 : w19.cell? ⟨gb599, 5, none⟩ = some (.string (⟨#[]⟩ : ByteArray)) := (blk_cell BK599.out 5).trans rfl; have hfz21_0 := blk_frozen BK599.out 0; have hfz21_1 := blk_frozen BK599.out 1; have hfz21_2 := blk_frozen BK599.out 2; have hfz21_3 := blk_frozen BK599.out 3; have hfz21_4 := blk_frozen BK599.out 4; have hfz21_5 := blk_frozen BK599.out 5))
        go_roundg k1
        case measure => have := HK1.out; omega
        case rel => exact ⟨(x3_1), (wrap64 (x14_1 + 1)), zF, H', ⟨by have := HK1.out; omega⟩, ⟨zrs <| Kd.R_mono (zfr (zfr (zfr (zfr (zfr (zfr (Kd.R_mono HO_3.out (fun k_ hk => (⟨hk, hk.2⟩ : _ ∧ k_ ≠ gb599))))))))) (fun _ hk => trivial)⟩, ⟨zfar (zfar (zfar (zfar (zfar (zfar (zb BK593) NB593_599) NB593_599) NB593_599) NB593_599) NB593_599) NB593_599⟩, ⟨zB⟩⟩
      ·rw [if_neg c12] at H
       exact absurd H (by simp)
     ·rw [if_neg c11] at H
      exact absurd H (by simp)
    ·rw [if_neg c10] at H
     have c10b0 : decide (x14_1 < (l0_0.length : Int)) = false := decide_eq_false c10
     clear c10
     obtain rfl := Option.some.inj H
     go_wp2
     go_ret
     exact ⟨_, zE, zr HO_3, zB⟩
 ·replace c3 := Bool.eq_false_iff.mpr c3
  subst c3
  have H1 : (some y594) = some r := by rw [if_neg (show ¬ (false = true) by decide)] at H; exact H
  clear H
  have H := H1
  clear H1
  obtain rfl := Option.some.inj H
  go_enter Try.func55, Try.ntmps55
  go_wp2_with (first | ((with_reducible refine gate_dst (N := 1) rfl ?_); refine zbox 1 #[.slice A0_0 l0_0.length c0_0, .slice A0_1 l0_1.length c0_1] 55 ?_; intro gb593 hg w22 hbox hb; have BK593 := zm (hbox); have GW593 := zge w hg zB; have GE593 := zge w hg zB; replace HB := zm (below_step zB hb); clear hb hbox hg) | ((with_reducible refine gate_dst (N := 6) rfl ?_); refine Kd.R_lit k84 _ 84 ?hg (N := 6) ?hd (xs := ([] : List (S84))) (inner := []) (ok := fun _ => True) (okp := fun _ => True) ?hr ?hp (fun _ hk => hk) trivial (Below.refl _ _) (Nat.le_refl _) (by simp) ?_; (case hd => rfl); (case hg => rfl); (case hr => first | (go_simp; done) | (go_simp; rfl)); (case hp => exact (Reps.none _ _)); intro v595 w23 ho24 hb hg_ hnew_; clear hg_ hnew_; (first | rw [← Ny594.out] at ho24 | (simp only [Int.reduceToNat] at ho24; rw [← Ny594.out] at ho24)); have HO596 := zm (Kd.R_lower ho24 (below_size zB)); replace BK593 := zm (blk_below (zb BK593) hb); replace HB := zm (below_step zB hb); clear hb ho24; have hcz25_0 : w23.cell? ⟨gb593, 0, none⟩ = some (.slice A0_0 l0_0.length c0_0) := (blk_cell BK593.out 0).trans rfl; have hcz25_1 : w23.cell? ⟨gb593, 1, none⟩ = some (.slice A0_1 l0_1.length c0_1) := (blk_cell BK593.out 1).trans rfl; have hfz25_0 := blk_frozen BK593.out 0; have hfz25_1 := blk_frozen BK593.out 1) | ((with_reducible refine gate_callee (f := 45) rfl ?_); refine zg (some 8) #[.agg #[.slice A0_0 l0_0.length c0_0, .slice A0_1 l0_1.length c0_1]] Try.func45 ?_; (with_reducible refine (impl_StateOk.calls k _ _ l0_0 _ _ l0_1 false _ (zk (Kd.C_below HR0_0.out HB.out)) HC0_0.out (zk (Kd.C_below HR0_1.out HB.out)) HC0_1.out A2.out).mono ?_); rintro e w26 ⟨rfl, hb⟩; refine ⟨_, rfl, ?_⟩; replace HO596 := zm (Kd.R_below (zr HO596) hb); replace BK593 := zm (blk_below (zb BK593) hb); replace HB := zm (below_step zB hb); clear hb))
  go_ret
  exact ⟨_, zE, zr HO596, zB⟩

/-! ### impl_Lookup: function 53 -/
def impl_Lookup.f (k : Nat) (l0_0 : List (S84)) (l0_1 : List (S89)) (a1 : Int) : Option (Int × Int × Int × Int × ByteArray × Bool) := (impl_View.f k l0_0 l0_1).bind fun t605 => ((impl_EntryOf.f k t605 ([] : List (S89)) a1).bind fun bt608 => (some (bt608.1, bt608.2.1, bt608.2.2.1, bt608.2.2.2.1, bt608.2.2.2.2.1, bt608.2.2.2.2.2)))
theorem impl_Lookup.mono : ∀ a0 a1 a2 k, LeO (impl_Lookup.f k a0 a1 a2) (impl_Lookup.f (k + 1) a0 a1 a2) := by
 intro a0 a1 a2 k
 unfold impl_Lookup.f
 repeat' first
   | (with_reducible exact impl_EntryOf.mono _ _ _ _)
   | (with_reducible exact impl_View.mono _ _ _)
   | (with_reducible exact LeO.refl _)
   | (with_reducible exact LeO.none _)
   | (with_reducible refine LeO.ite ?_ ?_)
   | (with_reducible refine LeO.bind ?_ (fun _ => ?_))
   | exact impl_EntryOf.mono _ _ _ _
   | exact impl_View.mono _ _ _
   | exact LeO.none _
   | refine LeO.ite ?_ ?_
   | refine LeO.bind ?_ (fun _ => ?_)
set_option maxHeartbeats 8000000 in
set_option maxRecDepth 100000 in
theorem impl_Lookup.calls (k : Nat) (A0_0 : Option Addr) (c0_0 : Nat) (l0_0 : List (S84)) (A0_1 : Option Addr) (c0_1 : Nat) (l0_1 : List (S89)) (a1 : Int) (r1 : Int) (r2 : Int) (r3 : Int) (r4 : Int) (r5 : ByteArray) (r6 : Bool) (w : World) (hr0_0 : Kd.C k84 w A0_0 l0_0.length l0_0) (hc0_0 : l0_0.length ≤ c0_0) (hr0_1 : Kd.C k89 w A0_1 l0_1.length l0_1) (hc0_1 : l0_1.length ≤ c0_1) (h : impl_Lookup.f k l0_0 l0_1 a1 = some (r1, r2, r3, r4, r5, r6)) :
  Calls Try.prog 53 #[.agg #[.slice A0_0 l0_0.length c0_0, .slice A0_1 l0_1.length c0_1], .int .i64 a1] w fun e w' => e = .returned (.tuple #[.agg #[.int .i64 r1, .int .i64 r2, .int .i64 r3, .int .i64 r4, .string r5], .bool r6]) ∧ Below w.heap.size w w' := by
 have hu55 := Try.underlying55
 have hu25 := Try.underlying25
 have HR0_0 := zm hr0_0
 have HC0_0 := zm hc0_0
 clear hr0_0 hc0_0
 have HR0_1 := zm hr0_1
 have HC0_1 := zm hc0_1
 clear hr0_1 hc0_1
 have HB := zm (Below.refl w.heap.size w)
 have H : ((impl_View.f k l0_0 l0_1).bind fun t605 => ((impl_EntryOf.f k t605 ([] : List (S89)) a1).bind fun bt608 => (some (bt608.1, bt608.2.1, bt608.2.2.1, bt608.2.2.2.1, bt608.2.2.2.2.1, bt608.2.2.2.2.2)))) = some (r1, r2, r3, r4, r5, r6) := h
 clear h
 replace H := Option.bind_eq_some_iff.mp H
 obtain ⟨t605, A30, H⟩ := H
 replace H : ((impl_EntryOf.f k t605 ([] : List (S89)) a1).bind fun bt608 => (some (bt608.1, bt608.2.1, bt608.2.2.1, bt608.2.2.2.1, bt608.2.2.2.2.1, bt608.2.2.2.2.2))) = some (r1, r2, r3, r4, r5, r6) := H
 have A3 := zm A30
 clear A30
 replace H := Option.bind_eq_some_iff.mp H
 obtain ⟨⟨t608, t609, t610, t611, t612, t613⟩, A40, H⟩ := H
 replace H : (some (t608, t609, t610, t611, t612, t613)) = some (r1, r2, r3, r4, r5, r6) := H
 have A4 := zm A40
 clear A40
 simp only [Option.some.injEq, Prod.mk.injEq] at H
 obtain ⟨rfl, rfl, rfl, rfl, rfl, rfl⟩ := H
 go_enter Try.func53, Try.ntmps53
 go_wp2_with (first | ((with_reducible refine gate_dst (N := 2) rfl ?_); refine zbox 2 #[.slice A0_0 l0_0.length c0_0, .slice A0_1 l0_1.length c0_1] 55 ?_; intro gb603 hg w5 hbox hb; have BK603 := zm (hbox); have GW603 := zge w hg zB; have GE603 := zge w hg zB; replace HB := zm (below_step zB hb); clear hb hbox hg) | ((with_reducible refine gate_dst (N := 4) rfl ?_); refine zbox 4 #[.int .i64 0, .int .i64 0, .int .i64 0, .int .i64 0, .string (⟨#[]⟩ : ByteArray)] 25 ?_; intro gb604 hg w6 hbox hb; have BK604 := zm (hbox); have GW604 := zge w hg zB; have GE604 := zge w hg zB; replace HB := zm (below_step zB hb); have NB603_604 := zlt hg (zb BK603); have NB604_603 := zgt hg (zb BK603); replace BK603 := zm (blk_below (zb BK603) hb); clear hb hbox hg; have hnb7 := NB603_604.out; have hnc7 := NB604_603.out; have hcz8_0 : w6.cell? ⟨gb603, 0, none⟩ = some (.slice A0_0 l0_0.length c0_0) := (blk_cell BK603.out 0).trans rfl; have hcz8_1 : w6.cell? ⟨gb603, 1, none⟩ = some (.slice A0_1 l0_1.length c0_1) := (blk_cell BK603.out 1).trans rfl; have hfz8_0 := blk_frozen BK603.out 0; have hfz8_1 := blk_frozen BK603.out 1) | ((with_reducible refine gate_callee (f := 55) rfl ?_); refine zg (some 7) #[.agg #[.slice A0_0 l0_0.length c0_0, .slice A0_1 l0_1.length c0_1]] Try.func55 ?_; (with_reducible refine (impl_View.calls k _ _ l0_0 _ _ l0_1 t605 _ (zk (Kd.C_below HR0_0.out HB.out)) HC0_0.out (zk (Kd.C_below HR0_1.out HB.out)) HC0_1.out A3.out).mono ?_); rintro e w9 ⟨v606, rfl, ho0, hb⟩; refine ⟨_, rfl, ?_⟩; have HO607 := zm (Kd.R_lower ho0 (below_size zB)); replace BK603 := zm (blk_below (zb BK603) hb); replace BK604 := zm (blk_below (zb BK604) hb); replace HB := zm (below_step zB hb); clear hb ho0; obtain ⟨Ao10, co10, eo10⟩ := Kd.R_slice HO607.out; subst eo10) | ((with_reducible refine gate_callee (f := 38) rfl ?_); refine zg (some 10) #[.agg #[.slice Ao10 t605.length co10, .slice none 0 0], .int .i64 a1] Try.func38 ?_; (refine (impl_EntryOf.calls k _ _ t605 _ _ ([] : List (S89)) a1 t608 t609 t610 t611 t612 t613 _ ?side1 ?side2 ?side3 ?side4 A4.out).mono ?_); (case side1 => repeat (first | exact (Kd.R_reads' HO607.out).2.2 | (with_reducible refine Kd.C_alloc ?_ _) | (with_reducible refine Kd.C_drewN ?_ _) | (with_reducible refine Kd.C_drew ?_))); (case side2 => exact (Kd.R_reads' HO607.out).2.1); (case side3 => exact Kd.C_nil _ _); (case side4 => exact Nat.le_refl _); rintro e w11 ⟨rfl, hb⟩; refine ⟨_, rfl, ?_⟩; replace HO607 := zm (Kd.R_below (zr HO607) hb); replace BK603 := zm (blk_below (zb BK603) hb); replace BK604 := zm (blk_below (zb BK604) hb); replace HB := zm (below_step zB hb); clear hb; have hcz12_0 : w11.cell? ⟨gb604, 0, none⟩ = some (.int .i64 0) := (blk_cell BK604.out 0).trans rfl; have hcz12_1 : w11.cell? ⟨gb604, 1, none⟩ = some (.int .i64 0) := (blk_cell BK604.out 1).trans rfl; have hcz12_2 : w11.cell? ⟨gb604, 2, none⟩ = some (.int .i64 0) := (blk_cell BK604.out 2).trans rfl; have hcz12_3 : w11.cell? ⟨gb604, 3, none⟩ = some (.int .i64 0) := (blk_cell BK604.out 3).trans rfl; have hcz12_4 : w11.cell? ⟨gb604, 4, none⟩ = some (.string (⟨#[]⟩ : ByteArray)) := (blk_cell BK604.out 4).trans rfl; have hfz12_0 := blk_frozen BK604.out 0; have hfz12_1 := blk_frozen BK604.out 1; have hfz12_2 := blk_frozen BK604.out 2; have hfz12_3 := blk_frozen BK604.out 3; have hfz12_4 := blk_frozen BK604.out 4))
 refine bodyPost_ret (results_ct rfl _ _ gb604 25 #[.int .i64 t608, .int .i64 t609, .int .i64 t610, .int .i64 t611, .string t612] (0, 0) _ rfl (zput (zput (zput (zput (zput (zb BK604) 0) 1) 2) 3) 4) Try.underlying25 rfl (by kernel_rfl)) rfl ?_
 exact ⟨zE, zB⟩

/-! ### spec_l1Max: function 99 -/
def spec_l1Max.f (a0 : Int) (a1 : Int) : Option (Int) := if a0 > a1 then (some a0) else (some a1)
set_option maxHeartbeats 8000000 in
set_option maxRecDepth 100000 in
theorem spec_l1Max.calls (a0 : Int) (a1 : Int) (r : Int) (w : World) (h : spec_l1Max.f a0 a1 = some r) :
  Calls Try.prog 99 #[.int .i64 a0, .int .i64 a1] w fun e w' => e = .returned (.int .i64 r) ∧ Drawn0 w w' := by
 have H : (if a0 > a1 then (some a0) else (some a1)) = some r := h
 clear h
 by_cases c3 : a0 > a1
 ·rw [if_pos c3] at H
  have c3b0 : decide (a1 < a0) = true := decide_eq_true c3
  clear c3
  obtain rfl := Option.some.inj H
  go_enter Try.func99, Try.ntmps99
  go_wp2
  go_ret
  exact ⟨zF, zD⟩
 ·rw [if_neg c3] at H
  have c3b0 : decide (a1 < a0) = false := decide_eq_false c3
  clear c3
  obtain rfl := Option.some.inj H
  go_enter Try.func99, Try.ntmps99
  go_wp2
  go_ret
  exact ⟨zF, zD⟩

end Go.Proofs.Ythljdiniccpobaa.P
