-- by a program of this session, for this seat
import Derived.Test.YtgapdegniepjiaaZ
import Derived.Test.YtgapdegniepjiaaP0
import Derived.Test.YtgapdegniepjiaaPah
import Derived.Test.YtgapdegniepjiaaPao
namespace Go.Proofs.Ytgapdegniepjiaa.P
open Go.RowKit Go.Proofs.YtgapdegniepjiaaW.PrintWords Go.Proofs.YtgapdegniepjiaaW.PrintLast Go.Proofs.YtgapdegniepjiaaW.PrintMore Go.Proofs.Ytgapdegniepjiaa.Z
attribute [local go_sem] max2_int min2_int max_two min_two max_three min_three max_four min_four   -- for this text's walks alone
set_option linter.unusedVariables false
set_option linter.unusedSimpArgs false

/-! ### impl_Slice: function 37 -/
mutual
def impl_Slice.l0 : Nat → List Int → List (S68) → Int → Int → List (S68) → List (S72) → List (S68) → Option ((List (S68)) × (List (S72)))
 | 0, _, _, _, _, _, _, _ => none
 | k + 1, x1, x16, x17, x18, x679000, x679001, x681000 => if x18 < x17 then (if 0 ≤ x18 then (if x18 < (x16.length : Int) then ((impl_LeafOf.f k ((rd_T68 x16 x18).f0)).bind fun t684 => ((slices_Contains_int_int.f k x1 t684).bind fun t685 => (if t685 = true then (if x681000.length < 2513169434916 then (impl_Slice.l0 k x1 x16 x17 (wrap64 (x18 + 1)) x679000 x679001 (x681000 ++ [(⟨(rd_T68 x16 x18).f0, (⟨(rd_T68 x16 x18).f1.f0, (rd_T68 x16 x18).f1.f1, (rd_T68 x16 x18).f1.f2, (rd_T68 x16 x18).f1.f3, (rd_T68 x16 x18).f1.f4⟩ : S66)⟩ : S68)])) else (none)) else (impl_Slice.l0 k x1 x16 x17 (wrap64 (x18 + 1)) x679000 x679001 x681000)))) else (none)) else (none)) else (impl_Slice.l1 k x1 x679001 (x679001.length : Int) 0 x681000 ([] : List (S72)))
def impl_Slice.l1 : Nat → List Int → List (S72) → Int → Int → List (S68) → List (S72) → Option ((List (S68)) × (List (S72)))
 | 0, _, _, _, _, _, _ => none
 | k + 1, x1, x35, x36, x37, x681000, x681001 => if x37 < x36 then (if 0 ≤ x37 then (if x37 < (x35.length : Int) then ((impl_LeafOf.f k ((rd_T72 x35 x37).f0)).bind fun t691 => ((slices_Contains_int_int.f k x1 t691).bind fun t692 => (if t692 = true then (if x681001.length < 8796093022208 then (impl_Slice.l1 k x1 x35 x36 (wrap64 (x37 + 1)) x681000 (x681001 ++ [(⟨(rd_T72 x35 x37).f0, (rd_T72 x35 x37).f1⟩ : S72)])) else (none)) else (impl_Slice.l1 k x1 x35 x36 (wrap64 (x37 + 1)) x681000 x681001)))) else (none)) else (none)) else (some (x681000, x681001))
end
def impl_Slice.f (k : Nat) (l0_0 : List (S68)) (l0_1 : List (S72)) (l1 : List Int) : Option ((List (S68)) × (List (S72))) := (impl_StateOk.f k l0_0 l0_1).bind fun t681 => (if t681 = true then (impl_Slice.l0 k l1 l0_0 (l0_0.length : Int) 0 l0_0 l0_1 ([] : List (S68))) else (some (([] : List (S68)), ([] : List (S72)))))
theorem impl_Slice.mono_l : ∀ k, (∀ y0 y1 y2 y3 y4 y5 y6, LeO (impl_Slice.l0 k y0 y1 y2 y3 y4 y5 y6) (impl_Slice.l0 (k + 1) y0 y1 y2 y3 y4 y5 y6)) ∧ (∀ y0 y1 y2 y3 y4 y5, LeO (impl_Slice.l1 k y0 y1 y2 y3 y4 y5) (impl_Slice.l1 (k + 1) y0 y1 y2 y3 y4 y5))
 | 0 => ⟨fun _ _ _ _ _ _ _ r h => by simp [impl_Slice.l0] at h, fun _ _ _ _ _ _ r h => by simp [impl_Slice.l1] at h⟩
 | k + 1 => by
  obtain ⟨ih0, ih1⟩ := impl_Slice.mono_l k
  refine ⟨?_, ?_⟩
  ·intro y0 y1 y2 y3 y4 y5 y6
   unfold impl_Slice.l0
   repeat' first
   | (with_reducible exact ih0 _ _ _ _ _ _ _)
   | (with_reducible exact ih1 _ _ _ _ _ _)
   | (with_reducible exact impl_LeafOf.mono _ _)
   | (with_reducible exact impl_StateOk.mono _ _ _)
   | (with_reducible exact slices_Contains_int_int.mono _ _ _)
   | (with_reducible exact LeO.refl _)
   | (with_reducible exact LeO.none _)
   | (with_reducible refine LeO.ite ?_ ?_)
   | (with_reducible refine LeO.bind ?_ (fun _ => ?_))
   | exact ih0 _ _ _ _ _ _ _
   | exact ih1 _ _ _ _ _ _
   | exact impl_LeafOf.mono _ _
   | exact impl_StateOk.mono _ _ _
   | exact slices_Contains_int_int.mono _ _ _
   | exact LeO.none _
   | refine LeO.ite ?_ ?_
   | refine LeO.bind ?_ (fun _ => ?_)
  ·intro y0 y1 y2 y3 y4 y5
   unfold impl_Slice.l1
   repeat' first
   | (with_reducible exact ih0 _ _ _ _ _ _ _)
   | (with_reducible exact ih1 _ _ _ _ _ _)
   | (with_reducible exact impl_LeafOf.mono _ _)
   | (with_reducible exact impl_StateOk.mono _ _ _)
   | (with_reducible exact slices_Contains_int_int.mono _ _ _)
   | (with_reducible exact LeO.refl _)
   | (with_reducible exact LeO.none _)
   | (with_reducible refine LeO.ite ?_ ?_)
   | (with_reducible refine LeO.bind ?_ (fun _ => ?_))
   | exact ih0 _ _ _ _ _ _ _
   | exact ih1 _ _ _ _ _ _
   | exact impl_LeafOf.mono _ _
   | exact impl_StateOk.mono _ _ _
   | exact slices_Contains_int_int.mono _ _ _
   | exact LeO.none _
   | refine LeO.ite ?_ ?_
   | refine LeO.bind ?_ (fun _ => ?_)
theorem impl_Slice.mono : ∀ a0 a1 a2 k, LeO (impl_Slice.f k a0 a1 a2) (impl_Slice.f (k + 1) a0 a1 a2) := by
 intro a0 a1 a2 k
 obtain ⟨ih0, ih1⟩ := impl_Slice.mono_l k
 unfold impl_Slice.f
 repeat' first
   | (with_reducible exact ih0 _ _ _ _ _ _ _)
   | (with_reducible exact ih1 _ _ _ _ _ _)
   | (with_reducible exact impl_LeafOf.mono _ _)
   | (with_reducible exact impl_StateOk.mono _ _ _)
   | (with_reducible exact slices_Contains_int_int.mono _ _ _)
   | (with_reducible exact LeO.refl _)
   | (with_reducible exact LeO.none _)
   | (with_reducible refine LeO.ite ?_ ?_)
   | (with_reducible refine LeO.bind ?_ (fun _ => ?_))
   | exact ih0 _ _ _ _ _ _ _
   | exact ih1 _ _ _ _ _ _
   | exact impl_LeafOf.mono _ _
   | exact impl_StateOk.mono _ _ _
   | exact slices_Contains_int_int.mono _ _ _
   | exact LeO.none _
   | refine LeO.ite ?_ ?_
   | refine LeO.bind ?_ (fun _ => ?_)
set_option maxHeartbeats 8000000 in
set_option maxRecDepth 100000 in
theorem impl_Slice.calls (k : Nat) (A0_0 : Option Addr) (c0_0 : Nat) (l0_0 : List (S68)) (A0_1 : Option Addr) (c0_1 : Nat) (l0_1 : List (S72)) (A1 : Option Addr) (c1 : Nat) (l1 : List Int) (r1 : List (S68)) (r2 : List (S72)) (w : World) (hr0_0 : Kd.C k68 w A0_0 l0_0.length l0_0) (hc0_0 : l0_0.length ≤ c0_0) (hr0_1 : Kd.C k72 w A0_1 l0_1.length l0_1) (hc0_1 : l0_1.length ≤ c0_1) (hr1 : Kd.C (Kd.int .i64) w A1 l1.length l1) (hc1 : l1.length ≤ c1) (h : impl_Slice.f k l0_0 l0_1 l1 = some (r1, r2)) :
  Calls Try.prog 37 #[.agg #[.slice A0_0 l0_0.length c0_0, .slice A0_1 l0_1.length c0_1], .slice A1 l1.length c1] w fun e w' => ∃ v0_ v1_ : Value, e = .returned (.agg #[v0_, v1_]) ∧ Kd.R k68 68 w' w.heap.size (fun _ => True) v0_ r1 ∧ Kd.R k72 72 w' w.heap.size (fun _ => True) v1_ r2 ∧ Below w.heap.size w w' := by
 have hu32 := Try.underlying32
 have hu68 := Try.underlying68
 have hu72 := Try.underlying72
 have HR0_0 := zm hr0_0
 have HC0_0 := zm hc0_0
 clear hr0_0 hc0_0
 have HR0_1 := zm hr0_1
 have HC0_1 := zm hc0_1
 clear hr0_1 hc0_1
 have HR1 := zm hr1
 have HC1 := zm hc1
 clear hr1 hc1
 have HB := zm (Below.refl w.heap.size w)
 have H : ((impl_StateOk.f k l0_0 l0_1).bind fun t681 => (if t681 = true then (impl_Slice.l0 k l1 l0_0 (l0_0.length : Int) 0 l0_0 l0_1 ([] : List (S68))) else (some (([] : List (S68)), ([] : List (S72)))))) = some (r1, r2) := h
 clear h
 replace H := Option.bind_eq_some_iff.mp H
 obtain ⟨t681, A30, H⟩ := H
 replace H : (if t681 = true then (impl_Slice.l0 k l1 l0_0 (l0_0.length : Int) 0 l0_0 l0_1 ([] : List (S68))) else (some (([] : List (S68)), ([] : List (S72))))) = some (r1, r2) := H
 have A3 := zm A30
 clear A30
 by_cases c4 : t681 = true
 ·subst c4
  have H1 : (impl_Slice.l0 k l1 l0_0 (l0_0.length : Int) 0 l0_0 l0_1 ([] : List (S68))) = some (r1, r2) := by rw [if_pos rfl] at H; exact H
  clear H
  have H := H1
  clear H1
  have H' := zm H
  clear H
  go_enter Try.func37, Try.ntmps37
  go_wp2_with (first | ((with_reducible refine gate_dst (N := 2) rfl ?_); refine zbox 2 #[.slice A0_0 l0_0.length c0_0, .slice A0_1 l0_1.length c0_1] 32 ?_; intro gb678 hg w5 hbox hb; have BK678 := zm (hbox); have GW678 := zge w hg zB; have GE678 := zge w hg zB; replace HB := zm (below_step zB hb); clear hb hbox hg) | ((with_reducible refine gate_dst (N := 4) rfl ?_); refine zbox 4 #[.slice none 0 0, .slice none 0 0] 32 ?_; intro gb679 hg w6 hbox hb; have BK679 := zm (hbox); have GW679 := zge w hg zB; have GE679 := zge w hg zB; replace HB := zm (below_step zB hb); have NB678_679 := zlt hg (zb BK678); have NB679_678 := zgt hg (zb BK678); replace BK678 := zm (blk_below (zb BK678) hb); clear hb hbox hg) | ((with_reducible refine gate_dst (N := 5) rfl ?_); refine zbox 5 #[.slice none 0 0, .slice none 0 0] 32 ?_; intro gb680 hg w7 hbox hb; have BK680 := zm (hbox); have GW680 := zge w hg zB; have GE680 := zge w hg zB; replace HB := zm (below_step zB hb); have NB678_680 := zlt hg (zb BK678); have NB680_678 := zgt hg (zb BK678); replace BK678 := zm (blk_below (zb BK678) hb); have NB679_680 := zlt hg (zb BK679); have NB680_679 := zgt hg (zb BK679); replace BK679 := zm (blk_below (zb BK679) hb); clear hb hbox hg; have hnb8 := NB680_678.out; have hnc8 := NB678_680.out; have hnb9 := NB680_679.out; have hnc9 := NB679_680.out; have hcz10_0 : w7.cell? ⟨gb680, 0, none⟩ = some (.slice none 0 0) := (blk_cell BK680.out 0).trans rfl; have hcz10_1 : w7.cell? ⟨gb680, 1, none⟩ = some (.slice none 0 0) := (blk_cell BK680.out 1).trans rfl; have hfz10_0 := blk_frozen BK680.out 0; have hfz10_1 := blk_frozen BK680.out 1; have hnb11 := NB678_679.out; have hnc11 := NB679_678.out; have hcz12_0 : w7.cell? ⟨gb678, 0, none⟩ = some (.slice A0_0 l0_0.length c0_0) := (blk_cell BK678.out 0).trans rfl; have hcz12_1 : w7.cell? ⟨gb678, 1, none⟩ = some (.slice A0_1 l0_1.length c0_1) := (blk_cell BK678.out 1).trans rfl; have hfz12_0 := blk_frozen BK678.out 0; have hfz12_1 := blk_frozen BK678.out 1) | ((with_reducible refine gate_callee (f := 53) rfl ?_); refine zg (some 12) #[.agg #[.slice A0_0 l0_0.length c0_0, .slice A0_1 l0_1.length c0_1]] Try.func53 ?_; (with_reducible refine (impl_StateOk.calls k _ _ l0_0 _ _ l0_1 true _ ?side1 HC0_0.out ?side3 HC0_1.out A3.out).mono ?_); (case side1 => exact Kd.C_below HR0_0.out zB); (case side3 => exact Kd.C_below HR0_1.out zB); rintro e w13 ⟨rfl, hb⟩; refine ⟨_, rfl, ?_⟩; replace BK678 := zm (blk_below (g := gb678) (o := .cells #[.slice A0_0 l0_0.length c0_0, .slice A0_1 l0_1.length c0_1] 32 (0, 0)) (zfar (zfar (zb BK678) NB678_680) NB678_680) hb); replace BK679 := zm (blk_below (g := gb679) (o := .cells #[.slice none 0 0, .slice none 0 0] 32 (0, 0)) (zfar (zfar (zb BK679) NB679_680) NB679_680) hb); replace BK680 := zm (blk_below (g := gb680) (o := .cells #[.slice none 0 0, .slice none 0 0] 32 (0, 0)) (zput (zput (zb BK680) 0) 1) hb); replace HB := zm (below_step zB hb); clear hb; have hcz14_0 : w13.cell? ⟨gb678, 0, none⟩ = some (.slice A0_0 l0_0.length c0_0) := (blk_cell BK678.out 0).trans rfl; have hcz14_1 : w13.cell? ⟨gb678, 1, none⟩ = some (.slice A0_1 l0_1.length c0_1) := (blk_cell BK678.out 1).trans rfl; have hfz14_0 := blk_frozen BK678.out 0; have hfz14_1 := blk_frozen BK678.out 1))
  go_loopg [18] k (fun kq v18 w' => ∃ (x18_1 : Int) (x681000_1 : List (S68)) (u681000 : Value), v18 = .int .i64 x18_1 ∧ Aside0 (impl_Slice.l0 kq l1 l0_0 (l0_0.length : Int) x18_1 l0_0 l0_1 x681000_1 = some (r1, r2)) ∧ Aside0 (kq ≤ k) ∧ Aside0 (Kd.R k68 68 w' w.heap.size (fun _ => True) u681000 x681000_1) ∧ Aside0 (w'.heap[gb678]? = some (.cells #[(.slice A0_0 l0_0.length c0_0), (.slice A0_1 l0_1.length c0_1)] 32 (0, 0))) ∧ Aside0 (w'.heap[gb679]? = some (.cells #[(.slice none 0 0), (.slice none 0 0)] 32 (0, 0))) ∧ Aside0 (w'.heap[gb680]? = some (.cells #[u681000, (.slice none 0 0)] 32 (0, 0))) ∧ Aside0 (Below w.heap.size w w'))
  case atStart => exact ⟨(0), (([] : List (S68))), (.slice none 0 0), zF, H', ⟨Nat.le_refl _⟩, ⟨by first | exact Kd.R_nil _ _ _ _ _ | exact Kd.N_nil _ _ _ _ _ | exact Kd.V_nil _ _ _ _ _ | exact Kd.Q_nil _ _ _ _ _ | exact Kd.S_nil _ _ _ _ _⟩, ⟨zb BK678⟩, ⟨zb BK679⟩, ⟨zb BK680⟩, ⟨zB⟩⟩
  case round =>
   clear H'
   try clear c1
   try clear p2
   try clear c3
   try clear c4
   try clear c5
   try clear c8
   try clear c9
   try clear c11
   try clear hcz10_0
   try clear hcz10_1
   try clear hcz12_0
   try clear hcz12_1
   try clear hcz14_0
   try clear hcz14_1
   try clear hfz10_0
   try clear hfz10_1
   try clear hfz12_0
   try clear hfz12_1
   try clear hfz14_0
   try clear hfz14_1
   obtain ⟨x18_1, x681000_1, u681000, rfl, HA, HK1, HO_681000, BK678, BK679, BK680, HB⟩ := hrel
   cases gk with
   | zero => exact absurd HA.out (by simp [impl_Slice.l0])
   | succ k1 =>
    have H := HA.out
    clear HA
    simp only [impl_Slice.l0] at H
    by_cases c15 : x18_1 < (l0_0.length : Int)
    ·rw [if_pos c15] at H
     have c15b0 : decide (x18_1 < (l0_0.length : Int)) = true := decide_eq_true c15
     clear c15
     by_cases c16 : 0 ≤ x18_1
     ·rw [if_pos c16] at H
      have c16b0 : decide (0 ≤ x18_1) = true := decide_eq_true c16
      clear c16
      by_cases c17 : x18_1 < (l0_0.length : Int)
      ·rw [if_pos c17] at H
       have c17b0 : decide (x18_1 < (l0_0.length : Int)) = true := decide_eq_true c17
       clear c17
       replace H := Option.bind_eq_some_iff.mp H
       obtain ⟨t684, A180, H⟩ := H
       replace H : ((slices_Contains_int_int.f k1 l1 t684).bind fun t685 => (if t685 = true then (if x681000_1.length < 2513169434916 then (impl_Slice.l0 k1 l1 l0_0 (l0_0.length : Int) (wrap64 (x18_1 + 1)) l0_0 l0_1 (x681000_1 ++ [(⟨(rd_T68 l0_0 x18_1).f0, (⟨(rd_T68 l0_0 x18_1).f1.f0, (rd_T68 l0_0 x18_1).f1.f1, (rd_T68 l0_0 x18_1).f1.f2, (rd_T68 l0_0 x18_1).f1.f3, (rd_T68 l0_0 x18_1).f1.f4⟩ : S66)⟩ : S68)])) else (none)) else (impl_Slice.l0 k1 l1 l0_0 (l0_0.length : Int) (wrap64 (x18_1 + 1)) l0_0 l0_1 x681000_1))) = some (r1, r2) := H
       have A18 := zm A180
       clear A180
       replace H := Option.bind_eq_some_iff.mp H
       obtain ⟨t685, A190, H⟩ := H
       replace H : (if t685 = true then (if x681000_1.length < 2513169434916 then (impl_Slice.l0 k1 l1 l0_0 (l0_0.length : Int) (wrap64 (x18_1 + 1)) l0_0 l0_1 (x681000_1 ++ [(⟨(rd_T68 l0_0 x18_1).f0, (⟨(rd_T68 l0_0 x18_1).f1.f0, (rd_T68 l0_0 x18_1).f1.f1, (rd_T68 l0_0 x18_1).f1.f2, (rd_T68 l0_0 x18_1).f1.f3, (rd_T68 l0_0 x18_1).f1.f4⟩ : S66)⟩ : S68)])) else (none)) else (impl_Slice.l0 k1 l1 l0_0 (l0_0.length : Int) (wrap64 (x18_1 + 1)) l0_0 l0_1 x681000_1)) = some (r1, r2) := H
       have A19 := zm A190
       clear A190
       by_cases c20 : t685 = true
       ·subst c20
        have H1 : (if x681000_1.length < 2513169434916 then (impl_Slice.l0 k1 l1 l0_0 (l0_0.length : Int) (wrap64 (x18_1 + 1)) l0_0 l0_1 (x681000_1 ++ [(⟨(rd_T68 l0_0 x18_1).f0, (⟨(rd_T68 l0_0 x18_1).f1.f0, (rd_T68 l0_0 x18_1).f1.f1, (rd_T68 l0_0 x18_1).f1.f2, (rd_T68 l0_0 x18_1).f1.f3, (rd_T68 l0_0 x18_1).f1.f4⟩ : S66)⟩ : S68)])) else (none)) = some (r1, r2) := by rw [if_pos rfl] at H; exact H
        clear H
        have H := H1
        clear H1
        by_cases c21 : x681000_1.length < 2513169434916
        ·rw [if_pos c21] at H
         have LMc21 := zm c21
         clear c21
         obtain ⟨y686, hy686⟩ : ∃ y_ : List (S68), y_ = (x681000_1 ++ [(⟨(rd_T68 l0_0 x18_1).f0, (⟨(rd_T68 l0_0 x18_1).f1.f0, (rd_T68 l0_0 x18_1).f1.f1, (rd_T68 l0_0 x18_1).f1.f2, (rd_T68 l0_0 x18_1).f1.f3, (rd_T68 l0_0 x18_1).f1.f4⟩ : S66)⟩ : S68)]) := ⟨_, rfl⟩
         replace H : (impl_Slice.l0 k1 l1 l0_0 (l0_0.length : Int) (wrap64 (x18_1 + 1)) l0_0 l0_1 y686) = some (r1, r2) := by first | (rw [hy686]; with_reducible exact H) | (have H2_ := (Option.bind_some _ _).symm.trans H; rw [hy686]; with_reducible exact H2_) | (have H2_ := (Option.bind_some _ _).symm.trans H; with_reducible exact H2_) | with_reducible exact H | (rw [hy686]; exact H) | exact H
         have Ny686 := zm hy686
         clear hy686
         have H' := zm H
         clear H
         have p682 : 0 ≤ (x18_1 : Int) := zd
         have q682 : x18_1 < (l0_0.length : Int) := zd
         obtain ⟨ad682, e682, hx682_0, hx682_1, hx682_2, hx682_3, hx682_4, hx682_5⟩ := at_T68 (Kd.C_below HR0_0.out HB.out) x18_1 p682 q682
         cases e682
         replace p682 := eq_true p682
         replace q682 := eq_true q682
         go_wp2_with (first | ((with_reducible refine gate_dst (N := 7) rfl ?_); refine zbox 7 #[.int .i64 0, .int .i64 0, .int .i64 0, .int .i64 0, .int .i64 0, .string (⟨#[]⟩ : ByteArray)] 68 ?_; intro gb683 hg w22 hbox hb; replace HO_681000 := zm (Kd.R_below (Kd.R_elderB (zr HO_681000) gb683 (Nat.le_of_eq hg.symm)) hb); have BK683 := zm (hbox); have GW683 := zge w hg zB; have GE683 := zge w hg zB; replace HB := zm (below_step zB hb); have NB678_683 := zlt hg (zb BK678); have NB683_678 := zgt hg (zb BK678); replace BK678 := zm (blk_below (zb BK678) hb); have NB679_683 := zlt hg (zb BK679); have NB683_679 := zgt hg (zb BK679); replace BK679 := zm (blk_below (zb BK679) hb); have NB680_683 := zlt hg (zb BK680); have NB683_680 := zgt hg (zb BK680); replace BK680 := zm (blk_below (zb BK680) hb); clear hb hbox hg; have hnb23 := NB683_678.out; have hnc23 := NB678_683.out; have hnb24 := NB683_679.out; have hnc24 := NB679_683.out; have hnb25 := NB683_680.out; have hnc25 := NB680_683.out; have hcz26_0 : w22.cell? ⟨gb683, 0, none⟩ = some (.int .i64 0) := (blk_cell BK683.out 0).trans rfl; have hcz26_1 : w22.cell? ⟨gb683, 1, none⟩ = some (.int .i64 0) := (blk_cell BK683.out 1).trans rfl; have hcz26_2 : w22.cell? ⟨gb683, 2, none⟩ = some (.int .i64 0) := (blk_cell BK683.out 2).trans rfl; have hcz26_3 : w22.cell? ⟨gb683, 3, none⟩ = some (.int .i64 0) := (blk_cell BK683.out 3).trans rfl; have hcz26_4 : w22.cell? ⟨gb683, 4, none⟩ = some (.int .i64 0) := (blk_cell BK683.out 4).trans rfl; have hcz26_5 : w22.cell? ⟨gb683, 5, none⟩ = some (.string (⟨#[]⟩ : ByteArray)) := (blk_cell BK683.out 5).trans rfl; have hfz26_0 := blk_frozen BK683.out 0; have hfz26_1 := blk_frozen BK683.out 1; have hfz26_2 := blk_frozen BK683.out 2; have hfz26_3 := blk_frozen BK683.out 3; have hfz26_4 := blk_frozen BK683.out 4; have hfz26_5 := blk_frozen BK683.out 5) | ((with_reducible refine gate_callee (f := 82) rfl ?_); refine zg (some 25) #[.int .i64 ((rd_T68 l0_0 x18_1).f0)] Try.func82 ?_; (with_reducible refine (impl_LeafOf.calls k1 ((rd_T68 l0_0 x18_1).f0) t684 _ A18.out).mono ?_); rintro e w27 ⟨rfl, hb⟩; refine ⟨_, rfl, ?_⟩; replace HO_681000 := zm (Kd.R_below (zrs <| (Kd.R_mono (zfr (zfr (zfr (zfr (zfr (zfr (Kd.R_mono HO_681000.out (fun k_ hk => (⟨hk, hk.2⟩ : _ ∧ k_ ≠ gb683))))))))) (fun _ h_ => h_.1))) hb); replace BK678 := zm (blk_below (g := gb678) (o := .cells #[.slice (some ad682) l0_0.length c0_0, .slice A0_1 l0_1.length c0_1] 32 (0, 0)) (zfar (zfar (zfar (zfar (zfar (zfar (zb BK678) NB678_683) NB678_683) NB678_683) NB678_683) NB678_683) NB678_683) hb); replace BK679 := zm (blk_below (g := gb679) (o := .cells #[.slice none 0 0, .slice none 0 0] 32 (0, 0)) (zfar (zfar (zfar (zfar (zfar (zfar (zb BK679) NB679_683) NB679_683) NB679_683) NB679_683) NB679_683) NB679_683) hb); replace BK680 := zm (blk_below (g := gb680) (o := .cells #[u681000, .slice none 0 0] 32 (0, 0)) (zfar (zfar (zfar (zfar (zfar (zfar (zb BK680) NB680_683) NB680_683) NB680_683) NB680_683) NB680_683) NB680_683) hb); replace BK683 := zm (blk_below (g := gb683) (o := .cells #[.int .i64 ((rd_T68 l0_0 x18_1).f0), .int .i64 ((rd_T68 l0_0 x18_1).f1.f0), .int .i64 ((rd_T68 l0_0 x18_1).f1.f1), .int .i64 ((rd_T68 l0_0 x18_1).f1.f2), .int .i64 ((rd_T68 l0_0 x18_1).f1.f3), .string ((rd_T68 l0_0 x18_1).f1.f4)] 68 (0, 0)) (zput (zput (zput (zput (zput (zput (zb BK683) 0) 1) 2) 3) 4) 5) hb); replace HB := zm (below_step zB hb); clear hb) | ((with_reducible refine gate_callee (f := 81) rfl ?_); refine zg (some 26) #[.slice A1 l1.length c1, .int .i64 t684] Try.func81 ?_; (with_reducible refine (slices_Contains_int_int.calls k1 _ _ l1 t684 true _ (zk (Kd.C_below HR1.out HB.out)) HC1.out A19.out).mono ?_); rintro e w' ⟨rfl, ⟨nd, rfl⟩⟩; refine ⟨_, rfl, ?_⟩; (try (rw [drewN_self w27]; generalize hq_ : World.drewN w27 _ = w27; have n0_ := zm (Kd.R_at hq_ HO_681000.out); have n1_ := zm (blk_at hq_ BK678.out); have n2_ := zm (blk_at hq_ BK679.out); have n3_ := zm (blk_at hq_ BK680.out); have n4_ := zm (blk_at hq_ BK683.out); have n5_ := zm (below_at hq_ HB.out); clear hq_ HO_681000 BK678 BK679 BK680 BK683 HB; have HO_681000 := n0_; have BK678 := n1_; have BK679 := n2_; have BK680 := n3_; have BK683 := n4_; have HB := n5_; clear n0_ n1_ n2_ n3_ n4_ n5_)); have hnb28 := NB680_678.out; have hnc28 := NB678_680.out; have hnb29 := NB680_679.out; have hnc29 := NB679_680.out; have hcz30_0 : w27.cell? ⟨gb680, 0, none⟩ = some (u681000) := (blk_cell BK680.out 0).trans rfl; have hcz30_1 : w27.cell? ⟨gb680, 1, none⟩ = some (.slice none 0 0) := (blk_cell BK680.out 1).trans rfl; have hfz30_0 := blk_frozen BK680.out 0; have hfz30_1 := blk_frozen BK680.out 1; have hcz31_0 : w27.cell? ⟨gb683, 0, none⟩ = some (.int .i64 ((rd_T68 l0_0 x18_1).f0)) := (blk_cell BK683.out 0).trans rfl; have hcz31_1 : w27.cell? ⟨gb683, 1, none⟩ = some (.int .i64 ((rd_T68 l0_0 x18_1).f1.f0)) := (blk_cell BK683.out 1).trans rfl; have hcz31_2 : w27.cell? ⟨gb683, 2, none⟩ = some (.int .i64 ((rd_T68 l0_0 x18_1).f1.f1)) := (blk_cell BK683.out 2).trans rfl; have hcz31_3 : w27.cell? ⟨gb683, 3, none⟩ = some (.int .i64 ((rd_T68 l0_0 x18_1).f1.f2)) := (blk_cell BK683.out 3).trans rfl; have hcz31_4 : w27.cell? ⟨gb683, 4, none⟩ = some (.int .i64 ((rd_T68 l0_0 x18_1).f1.f3)) := (blk_cell BK683.out 4).trans rfl; have hcz31_5 : w27.cell? ⟨gb683, 5, none⟩ = some (.string ((rd_T68 l0_0 x18_1).f1.f4)) := (blk_cell BK683.out 5).trans rfl; have hfz31_0 := blk_frozen BK683.out 0; have hfz31_1 := blk_frozen BK683.out 1; have hfz31_2 := blk_frozen BK683.out 2; have hfz31_3 := blk_frozen BK683.out 3; have hfz31_4 := blk_frozen BK683.out 4; have hfz31_5 := blk_frozen BK683.out 5) | ((with_reducible refine gate_builtin (b := .append) (xs := #[.tmp 28, .tmp 30]) rfl ?_); at_builtin; refine Kd.R_append k68 (w0 := w) w.heap.size rfl (.tmp 28) (.tmp 30) 29 68 (.agg #[(.int .i64 0), (.int .i64 0), (.int .i64 0), (.int .i64 0), (.int .i64 0), (.string ⟨#[]⟩)]) 56 rfl Try.underlying29 info68 rfl (by decide) (by omega) u681000 x681000_1 (⟨(rd_T68 l0_0 x18_1).f0, (⟨(rd_T68 l0_0 x18_1).f1.f0, (rd_T68 l0_0 x18_1).f1.f1, (rd_T68 l0_0 x18_1).f1.f2, (rd_T68 l0_0 x18_1).f1.f3, (rd_T68 l0_0 x18_1).f1.f4⟩ : S66)⟩ : S68) [.int .i64 ((rd_T68 l0_0 x18_1).f0), .int .i64 ((rd_T68 l0_0 x18_1).f1.f0), .int .i64 ((rd_T68 l0_0 x18_1).f1.f1), .int .i64 ((rd_T68 l0_0 x18_1).f1.f2), .int .i64 ((rd_T68 l0_0 x18_1).f1.f3), .string ((rd_T68 l0_0 x18_1).f1.f4)] (fun k_ => k_ ≠ gb683) (fun _ => False) rfl rfl ?aP (fun _ hk => hk.elim) ?aF ?aO ?aB ?aS ?aL ?_; (case aP => exact k68_mkM _ _ _ (⟨(rd_T68 l0_0 x18_1).f0, (⟨(rd_T68 l0_0 x18_1).f1.f0, (rd_T68 l0_0 x18_1).f1.f1, (rd_T68 l0_0 x18_1).f1.f2, (rd_T68 l0_0 x18_1).f1.f3, (rd_T68 l0_0 x18_1).f1.f4⟩ : S66)⟩ : S68)); (case aB => exact zB); (case aF => exact (fun k_ hk => Kd.freshB (g := gb683) (o := .cells #[.int .i64 ((rd_T68 l0_0 x18_1).f0), .int .i64 ((rd_T68 l0_0 x18_1).f1.f0), .int .i64 ((rd_T68 l0_0 x18_1).f1.f1), .int .i64 ((rd_T68 l0_0 x18_1).f1.f2), .int .i64 ((rd_T68 l0_0 x18_1).f1.f3), .string ((rd_T68 l0_0 x18_1).f1.f4)] 68 (0, 0)) (zb BK683) k_ hk)); (case aO => exact (by (with_reducible repeat (first | apply Kd.R_alloc | apply Kd.R_drewN | apply Kd.R_drew)); exact Kd.R_mono HO_681000.out (fun _ hk => hk.2))); (case aS => exact (below_size zB)); (case aL => have := LMc21.out; omega); intro v687 w32 ho hb hg hat; rw [← Ny686.out] at ho; replace BK678 := zm (blk_grown (g := gb678) (o := .cells #[.slice (some ad682) l0_0.length c0_0, .slice A0_1 l0_1.length c0_1] 32 (0, 0)) (zb BK678) hg (Kd.R_ne HO_681000.out BK678.out (by decide))); replace BK679 := zm (blk_grown (g := gb679) (o := .cells #[.slice none 0 0, .slice none 0 0] 32 (0, 0)) (zb BK679) hg (Kd.R_ne HO_681000.out BK679.out (by decide))); replace BK680 := zm (blk_grown (g := gb680) (o := .cells #[u681000, .slice none 0 0] 32 (0, 0)) (zb BK680) hg (Kd.R_ne HO_681000.out BK680.out (by decide))); replace BK683 := zm (blk_grown (g := gb683) (o := .cells #[.int .i64 ((rd_T68 l0_0 x18_1).f0), .int .i64 ((rd_T68 l0_0 x18_1).f1.f0), .int .i64 ((rd_T68 l0_0 x18_1).f1.f1), .int .i64 ((rd_T68 l0_0 x18_1).f1.f2), .int .i64 ((rd_T68 l0_0 x18_1).f1.f3), .string ((rd_T68 l0_0 x18_1).f1.f4)] 68 (0, 0)) (zb BK683) hg (Kd.R_away HO_681000.out (fun _ hk => hk.2))); replace HB := zm (hb); have HO688 := zm (ho); clear HO_681000; clear ho hb hg hat; obtain ⟨Ao33, co33, eo33⟩ := Kd.R_slice HO688.out; subst eo33; have hcz34_0 : w32.cell? ⟨gb680, 0, none⟩ = some (u681000) := (blk_cell BK680.out 0).trans rfl; have hcz34_1 : w32.cell? ⟨gb680, 1, none⟩ = some (.slice none 0 0) := (blk_cell BK680.out 1).trans rfl; have hfz34_0 := blk_frozen BK680.out 0; have hfz34_1 := blk_frozen BK680.out 1))
         go_roundg k1
         case measure => have := HK1.out; omega
         case rel => exact ⟨(wrap64 (x18_1 + 1)), (y686), (.slice Ao33 y686.length co33), zF, H', ⟨by have := HK1.out; omega⟩, ⟨zrs <| Kd.R_mono (zfr (Kd.R_types HO688.out BK680.out (by decide))) (fun _ hk => trivial)⟩, ⟨zfar (zb BK678) NB678_680⟩, ⟨zfar (zb BK679) NB679_680⟩, ⟨zput (zb BK680) 0⟩, ⟨zB⟩⟩
        ·rw [if_neg c21] at H
         exact absurd H (by simp)
       ·replace c20 := Bool.eq_false_iff.mpr c20
        subst c20
        have H1 : (impl_Slice.l0 k1 l1 l0_0 (l0_0.length : Int) (wrap64 (x18_1 + 1)) l0_0 l0_1 x681000_1) = some (r1, r2) := by rw [if_neg (show ¬ (false = true) by decide)] at H; exact H
        clear H
        have H := H1
        clear H1
        have H' := zm H
        clear H
        have p682 : 0 ≤ (x18_1 : Int) := zd
        have q682 : x18_1 < (l0_0.length : Int) := zd
        obtain ⟨ad682, e682, hx682_0, hx682_1, hx682_2, hx682_3, hx682_4, hx682_5⟩ := at_T68 (Kd.C_below HR0_0.out HB.out) x18_1 p682 q682
        cases e682
        replace p682 := eq_true p682
        replace q682 := eq_true q682
        go_wp2_with (first | ((with_reducible refine gate_dst (N := 7) rfl ?_); refine zbox 7 #[.int .i64 0, .int .i64 0, .int .i64 0, .int .i64 0, .int .i64 0, .string (⟨#[]⟩ : ByteArray)] 68 ?_; intro gb683 hg w35 hbox hb; replace HO_681000 := zm (Kd.R_below (Kd.R_elderB (zr HO_681000) gb683 (Nat.le_of_eq hg.symm)) hb); have BK683 := zm (hbox); have GW683 := zge w hg zB; have GE683 := zge w hg zB; replace HB := zm (below_step zB hb); have NB678_683 := zlt hg (zb BK678); have NB683_678 := zgt hg (zb BK678); replace BK678 := zm (blk_below (zb BK678) hb); have NB679_683 := zlt hg (zb BK679); have NB683_679 := zgt hg (zb BK679); replace BK679 := zm (blk_below (zb BK679) hb); have NB680_683 := zlt hg (zb BK680); have NB683_680 := zgt hg (zb BK680); replace BK680 := zm (blk_below (zb BK680) hb); clear hb hbox hg; have hnb36 := NB683_678.out; have hnc36 := NB678_683.out; have hnb37 := NB683_679.out; have hnc37 := NB679_683.out; have hnb38 := NB683_680.out; have hnc38 := NB680_683.out; have hcz39_0 : w35.cell? ⟨gb683, 0, none⟩ = some (.int .i64 0) := (blk_cell BK683.out 0).trans rfl; have hcz39_1 : w35.cell? ⟨gb683, 1, none⟩ = some (.int .i64 0) := (blk_cell BK683.out 1).trans rfl; have hcz39_2 : w35.cell? ⟨gb683, 2, none⟩ = some (.int .i64 0) := (blk_cell BK683.out 2).trans rfl; have hcz39_3 : w35.cell? ⟨gb683, 3, none⟩ = some (.int .i64 0) := (blk_cell BK683.out 3).trans rfl; have hcz39_4 : w35.cell? ⟨gb683, 4, none⟩ = some (.int .i64 0) := (blk_cell BK683.out 4).trans rfl; have hcz39_5 : w35.cell? ⟨gb683, 5, none⟩ = some (.string (⟨#[]⟩ : ByteArray)) := (blk_cell BK683.out 5).trans rfl; have hfz39_0 := blk_frozen BK683.out 0; have hfz39_1 := blk_frozen BK683.out 1; have hfz39_2 := blk_frozen BK683.out 2; have hfz39_3 := blk_frozen BK683.out 3; have hfz39_4 := blk_frozen BK683.out 4; have hfz39_5 := blk_frozen BK683.out 5) | ((with_reducible refine gate_callee (f := 82) rfl ?_); refine zg (some 25) #[.int .i64 ((rd_T68 l0_0 x18_1).f0)] Try.func82 ?_; (with_reducible refine (impl_LeafOf.calls k1 ((rd_T68 l0_0 x18_1).f0) t684 _ A18.out).mono ?_); rintro e w40 ⟨rfl, hb⟩; refine ⟨_, rfl, ?_⟩; replace HO_681000 := zm (Kd.R_below (zrs <| (Kd.R_mono (zfr (zfr (zfr (zfr (zfr (zfr (Kd.R_mono HO_681000.out (fun k_ hk => (⟨hk, hk.2⟩ : _ ∧ k_ ≠ gb683))))))))) (fun _ h_ => h_.1))) hb); replace BK678 := zm (blk_below (g := gb678) (o := .cells #[.slice (some ad682) l0_0.length c0_0, .slice A0_1 l0_1.length c0_1] 32 (0, 0)) (zfar (zfar (zfar (zfar (zfar (zfar (zb BK678) NB678_683) NB678_683) NB678_683) NB678_683) NB678_683) NB678_683) hb); replace BK679 := zm (blk_below (g := gb679) (o := .cells #[.slice none 0 0, .slice none 0 0] 32 (0, 0)) (zfar (zfar (zfar (zfar (zfar (zfar (zb BK679) NB679_683) NB679_683) NB679_683) NB679_683) NB679_683) NB679_683) hb); replace BK680 := zm (blk_below (g := gb680) (o := .cells #[u681000, .slice none 0 0] 32 (0, 0)) (zfar (zfar (zfar (zfar (zfar (zfar (zb BK680) NB680_683) NB680_683) NB680_683) NB680_683) NB680_683) NB680_683) hb); replace BK683 := zm (blk_below (g := gb683) (o := .cells #[.int .i64 ((rd_T68 l0_0 x18_1).f0), .int .i64 ((rd_T68 l0_0 x18_1).f1.f0), .int .i64 ((rd_T68 l0_0 x18_1).f1.f1), .int .i64 ((rd_T68 l0_0 x18_1).f1.f2), .int .i64 ((rd_T68 l0_0 x18_1).f1.f3), .string ((rd_T68 l0_0 x18_1).f1.f4)] 68 (0, 0)) (zput (zput (zput (zput (zput (zput (zb BK683) 0) 1) 2) 3) 4) 5) hb); replace HB := zm (below_step zB hb); clear hb) | ((with_reducible refine gate_callee (f := 81) rfl ?_); refine zg (some 26) #[.slice A1 l1.length c1, .int .i64 t684] Try.func81 ?_; (with_reducible refine (slices_Contains_int_int.calls k1 _ _ l1 t684 false _ (zk (Kd.C_below HR1.out HB.out)) HC1.out A19.out).mono ?_); rintro e w' ⟨rfl, ⟨nd, rfl⟩⟩; refine ⟨_, rfl, ?_⟩))
        go_roundg k1
        case measure => have := HK1.out; omega
        case rel => exact ⟨(wrap64 (x18_1 + 1)), (x681000_1), (u681000), zF, H', ⟨by have := HK1.out; omega⟩, ⟨by (with_reducible repeat (first | apply Kd.R_alloc | apply Kd.R_drewN | apply Kd.R_drew)); exact Kd.R_mono HO_681000.out (fun _ hk => trivial)⟩, ⟨zb BK678⟩, ⟨zb BK679⟩, ⟨zb BK680⟩, ⟨zB⟩⟩
      ·rw [if_neg c17] at H
       exact absurd H (by simp)
     ·rw [if_neg c16] at H
      exact absurd H (by simp)
    ·rw [if_neg c15] at H
     have c15b0 : decide (x18_1 < (l0_0.length : Int)) = false := decide_eq_false c15
     clear c15
     have H' := zm H
     clear H
     have hnb41 := NB678_679.out
     have hnc41 := NB679_678.out
     have hnb42 := NB678_680.out
     have hnc42 := NB680_678.out
     have hcz43_0 : wr.cell? ⟨gb678, 0, none⟩ = some (.slice A0_0 l0_0.length c0_0) := (blk_cell BK678.out 0).trans rfl
     have hcz43_1 : wr.cell? ⟨gb678, 1, none⟩ = some (.slice A0_1 l0_1.length c0_1) := (blk_cell BK678.out 1).trans rfl
     have hfz43_0 := blk_frozen BK678.out 0
     have hfz43_1 := blk_frozen BK678.out 1
     go_wp2
     go_loopg [37] k1 (fun kq v37 w' => ∃ (x37_2 : Int) (x681001_2 : List (S72)) (u681001 : Value), v37 = .int .i64 x37_2 ∧ Aside0 (impl_Slice.l1 kq l1 l0_1 (l0_1.length : Int) x37_2 x681000_1 x681001_2 = some (r1, r2)) ∧ Aside0 (kq ≤ k1) ∧ Aside0 (Kd.R k68 68 w' w.heap.size (fun _ => True) u681000 x681000_1) ∧ Aside0 (Kd.R k72 72 w' w.heap.size (fun _ => True) u681001 x681001_2) ∧ Aside0 (w'.heap[gb678]? = some (.cells #[(.slice A0_0 l0_0.length c0_0), (.slice A0_1 l0_1.length c0_1)] 32 (0, 0))) ∧ Aside0 (w'.heap[gb679]? = some (.cells #[(.slice none 0 0), (.slice none 0 0)] 32 (0, 0))) ∧ Aside0 (w'.heap[gb680]? = some (.cells #[u681000, u681001] 32 (0, 0))) ∧ Aside0 (Below w.heap.size w w'))
     case atStart => exact ⟨(0), (([] : List (S72))), (.slice none 0 0), zF, H', ⟨Nat.le_refl _⟩, ⟨zr HO_681000⟩, ⟨by first | exact Kd.R_nil _ _ _ _ _ | exact Kd.N_nil _ _ _ _ _ | exact Kd.V_nil _ _ _ _ _ | exact Kd.Q_nil _ _ _ _ _ | exact Kd.S_nil _ _ _ _ _⟩, ⟨zb BK678⟩, ⟨zb BK679⟩, ⟨zb BK680⟩, ⟨zB⟩⟩
     case round =>
      clear H'
      try clear c1
      try clear c2
      try clear p2
      try clear c3
      try clear c4
      try clear c5
      try clear p6
      try clear q6
      try clear hx6
      try clear c8
      try clear c9
      try clear c11
      try clear c15
      try clear c15b0
      try clear c16
      try clear c16b0
      try clear c17
      try clear c17b0
      try clear c20
      try clear c21
      try clear c23
      try clear c24
      try clear c25
      try clear c28
      try clear c29
      try clear c36
      try clear c37
      try clear c38
      try clear c41
      try clear c42
      try clear hcz10_0
      try clear hcz10_1
      try clear hcz12_0
      try clear hcz12_1
      try clear hcz14_0
      try clear hcz14_1
      try clear hcz26_0
      try clear hcz26_1
      try clear hcz26_2
      try clear hcz26_3
      try clear hcz26_4
      try clear hcz26_5
      try clear hcz30_0
      try clear hcz30_1
      try clear hcz31_0
      try clear hcz31_1
      try clear hcz31_2
      try clear hcz31_3
      try clear hcz31_4
      try clear hcz31_5
      try clear hcz34_0
      try clear hcz34_1
      try clear hcz39_0
      try clear hcz39_1
      try clear hcz39_2
      try clear hcz39_3
      try clear hcz39_4
      try clear hcz39_5
      try clear hcz43_0
      try clear hcz43_1
      try clear hfz10_0
      try clear hfz10_1
      try clear hfz12_0
      try clear hfz12_1
      try clear hfz14_0
      try clear hfz14_1
      try clear hfz26_0
      try clear hfz26_1
      try clear hfz26_2
      try clear hfz26_3
      try clear hfz26_4
      try clear hfz26_5
      try clear hfz30_0
      try clear hfz30_1
      try clear hfz31_0
      try clear hfz31_1
      try clear hfz31_2
      try clear hfz31_3
      try clear hfz31_4
      try clear hfz31_5
      try clear hfz34_0
      try clear hfz34_1
      try clear hfz39_0
      try clear hfz39_1
      try clear hfz39_2
      try clear hfz39_3
      try clear hfz39_4
      try clear hfz39_5
      try clear hfz43_0
      try clear hfz43_1
      try clear hx682_0
      try clear hx682_1
      try clear hx682_2
      try clear hx682_3
      try clear hx682_4
      try clear hx682_5
      try clear p2
      try clear p682
      try clear q682
      obtain ⟨x37_2, x681001_2, u681001, rfl, HA, HK2, HO_681000, HO_681001, BK678, BK679, BK680, HB⟩ := hrel
      cases gk with
      | zero => exact absurd HA.out (by simp [impl_Slice.l1])
      | succ k2 =>
       have H := HA.out
       clear HA
       simp only [impl_Slice.l1] at H
       by_cases c44 : x37_2 < (l0_1.length : Int)
       ·rw [if_pos c44] at H
        have c44b0 : decide (x37_2 < (l0_1.length : Int)) = true := decide_eq_true c44
        clear c44
        by_cases c45 : 0 ≤ x37_2
        ·rw [if_pos c45] at H
         have c45b0 : decide (0 ≤ x37_2) = true := decide_eq_true c45
         clear c45
         by_cases c46 : x37_2 < (l0_1.length : Int)
         ·rw [if_pos c46] at H
          have c46b0 : decide (x37_2 < (l0_1.length : Int)) = true := decide_eq_true c46
          clear c46
          replace H := Option.bind_eq_some_iff.mp H
          obtain ⟨t691, A470, H⟩ := H
          replace H : ((slices_Contains_int_int.f k2 l1 t691).bind fun t692 => (if t692 = true then (if x681001_2.length < 8796093022208 then (impl_Slice.l1 k2 l1 l0_1 (l0_1.length : Int) (wrap64 (x37_2 + 1)) x681000_1 (x681001_2 ++ [(⟨(rd_T72 l0_1 x37_2).f0, (rd_T72 l0_1 x37_2).f1⟩ : S72)])) else (none)) else (impl_Slice.l1 k2 l1 l0_1 (l0_1.length : Int) (wrap64 (x37_2 + 1)) x681000_1 x681001_2))) = some (r1, r2) := H
          have A47 := zm A470
          clear A470
          replace H := Option.bind_eq_some_iff.mp H
          obtain ⟨t692, A480, H⟩ := H
          replace H : (if t692 = true then (if x681001_2.length < 8796093022208 then (impl_Slice.l1 k2 l1 l0_1 (l0_1.length : Int) (wrap64 (x37_2 + 1)) x681000_1 (x681001_2 ++ [(⟨(rd_T72 l0_1 x37_2).f0, (rd_T72 l0_1 x37_2).f1⟩ : S72)])) else (none)) else (impl_Slice.l1 k2 l1 l0_1 (l0_1.length : Int) (wrap64 (x37_2 + 1)) x681000_1 x681001_2)) = some (r1, r2) := H
          have A48 := zm A480
          clear A480
          by_cases c49 : t692 = true
          ·subst c49
           have H1 : (if x681001_2.length < 8796093022208 then (impl_Slice.l1 k2 l1 l0_1 (l0_1.length : Int) (wrap64 (x37_2 + 1)) x681000_1 (x681001_2 ++ [(⟨(rd_T72 l0_1 x37_2).f0, (rd_T72 l0_1 x37_2).f1⟩ : S72)])) else (none)) = some (r1, r2) := by rw [if_pos rfl] at H; exact H
           clear H
           have H := H1
           clear H1
           by_cases c50 : x681001_2.length < 8796093022208
           ·rw [if_pos c50] at H
            have LMc50 := zm c50
            clear c50
            obtain ⟨y693, hy693⟩ : ∃ y_ : List (S72), y_ = (x681001_2 ++ [(⟨(rd_T72 l0_1 x37_2).f0, (rd_T72 l0_1 x37_2).f1⟩ : S72)]) := ⟨_, rfl⟩
            replace H : (impl_Slice.l1 k2 l1 l0_1 (l0_1.length : Int) (wrap64 (x37_2 + 1)) x681000_1 y693) = some (r1, r2) := by first | (rw [hy693]; with_reducible exact H) | (have H2_ := (Option.bind_some _ _).symm.trans H; rw [hy693]; with_reducible exact H2_) | (have H2_ := (Option.bind_some _ _).symm.trans H; with_reducible exact H2_) | with_reducible exact H | (rw [hy693]; exact H) | exact H
            have Ny693 := zm hy693
            clear hy693
            have H' := zm H
            clear H
            have p689 : 0 ≤ (x37_2 : Int) := zd
            have q689 : x37_2 < (l0_1.length : Int) := zd
            obtain ⟨ad689, e689, hx689_0, hx689_1⟩ := at_T72 (Kd.C_below HR0_1.out HB.out) x37_2 p689 q689
            cases e689
            replace p689 := eq_true p689
            replace q689 := eq_true q689
            go_wp2_with (first | ((with_reducible refine gate_dst (N := 9) rfl ?_); refine zbox 9 #[.int .i64 0, .int .i64 0] 72 ?_; intro gb690 hg w51 hbox hb; replace HO_681000 := zm (Kd.R_below (zr HO_681000) hb); replace HO_681001 := zm (Kd.R_below (Kd.R_elderB (zr HO_681001) gb690 (Nat.le_of_eq hg.symm)) hb); have BK690 := zm (hbox); have GW690 := zge w hg zB; have GE690 := zge w hg zB; replace HB := zm (below_step zB hb); have NB678_690 := zlt hg (zb BK678); have NB690_678 := zgt hg (zb BK678); replace BK678 := zm (blk_below (zb BK678) hb); have NB679_690 := zlt hg (zb BK679); have NB690_679 := zgt hg (zb BK679); replace BK679 := zm (blk_below (zb BK679) hb); have NB680_690 := zlt hg (zb BK680); have NB690_680 := zgt hg (zb BK680); replace BK680 := zm (blk_below (zb BK680) hb); clear hb hbox hg; have hnb52 := NB690_678.out; have hnc52 := NB678_690.out; have hnb53 := NB690_679.out; have hnc53 := NB679_690.out; have hnb54 := NB690_680.out; have hnc54 := NB680_690.out; have hcz55_0 : w51.cell? ⟨gb690, 0, none⟩ = some (.int .i64 0) := (blk_cell BK690.out 0).trans rfl; have hcz55_1 : w51.cell? ⟨gb690, 1, none⟩ = some (.int .i64 0) := (blk_cell BK690.out 1).trans rfl; have hfz55_0 := blk_frozen BK690.out 0; have hfz55_1 := blk_frozen BK690.out 1) | ((with_reducible refine gate_callee (f := 82) rfl ?_); refine zg (some 44) #[.int .i64 ((rd_T72 l0_1 x37_2).f0)] Try.func82 ?_; (with_reducible refine (impl_LeafOf.calls k2 ((rd_T72 l0_1 x37_2).f0) t691 _ A47.out).mono ?_); rintro e w56 ⟨rfl, hb⟩; refine ⟨_, rfl, ?_⟩; replace HO_681000 := zm (Kd.R_below (zrs <| (Kd.R_mono (zfr (zfr (Kd.R_types HO_681000.out BK690.out (by decide)))) (fun _ h_ => h_.1))) hb); replace HO_681001 := zm (Kd.R_below (zrs <| (Kd.R_mono (zfr (zfr (Kd.R_mono HO_681001.out (fun k_ hk => (⟨hk, hk.2⟩ : _ ∧ k_ ≠ gb690))))) (fun _ h_ => h_.1))) hb); replace BK678 := zm (blk_below (g := gb678) (o := .cells #[.slice A0_0 l0_0.length c0_0, .slice (some ad689) l0_1.length c0_1] 32 (0, 0)) (zfar (zfar (zb BK678) NB678_690) NB678_690) hb); replace BK679 := zm (blk_below (g := gb679) (o := .cells #[.slice none 0 0, .slice none 0 0] 32 (0, 0)) (zfar (zfar (zb BK679) NB679_690) NB679_690) hb); replace BK680 := zm (blk_below (g := gb680) (o := .cells #[u681000, u681001] 32 (0, 0)) (zfar (zfar (zb BK680) NB680_690) NB680_690) hb); replace BK690 := zm (blk_below (g := gb690) (o := .cells #[.int .i64 ((rd_T72 l0_1 x37_2).f0), .int .i64 ((rd_T72 l0_1 x37_2).f1)] 72 (0, 0)) (zput (zput (zb BK690) 0) 1) hb); replace HB := zm (below_step zB hb); clear hb) | ((with_reducible refine gate_callee (f := 81) rfl ?_); refine zg (some 45) #[.slice A1 l1.length c1, .int .i64 t691] Try.func81 ?_; (with_reducible refine (slices_Contains_int_int.calls k2 _ _ l1 t691 true _ (zk (Kd.C_below HR1.out HB.out)) HC1.out A48.out).mono ?_); rintro e w' ⟨rfl, ⟨nd, rfl⟩⟩; refine ⟨_, rfl, ?_⟩; (try (rw [drewN_self w56]; generalize hq_ : World.drewN w56 _ = w56; have n0_ := zm (Kd.R_at hq_ HO_681000.out); have n1_ := zm (Kd.R_at hq_ HO_681001.out); have n2_ := zm (blk_at hq_ BK678.out); have n3_ := zm (blk_at hq_ BK679.out); have n4_ := zm (blk_at hq_ BK680.out); have n5_ := zm (blk_at hq_ BK690.out); have n6_ := zm (below_at hq_ HB.out); clear hq_ HO_681000 HO_681001 BK678 BK679 BK680 BK690 HB; have HO_681000 := n0_; have HO_681001 := n1_; have BK678 := n2_; have BK679 := n3_; have BK680 := n4_; have BK690 := n5_; have HB := n6_; clear n0_ n1_ n2_ n3_ n4_ n5_ n6_)); have hnb57 := NB680_678.out; have hnc57 := NB678_680.out; have hnb58 := NB680_679.out; have hnc58 := NB679_680.out; have hcz59_0 : w56.cell? ⟨gb680, 0, none⟩ = some (u681000) := (blk_cell BK680.out 0).trans rfl; have hcz59_1 : w56.cell? ⟨gb680, 1, none⟩ = some (u681001) := (blk_cell BK680.out 1).trans rfl; have hfz59_0 := blk_frozen BK680.out 0; have hfz59_1 := blk_frozen BK680.out 1; have hcz60_0 : w56.cell? ⟨gb690, 0, none⟩ = some (.int .i64 ((rd_T72 l0_1 x37_2).f0)) := (blk_cell BK690.out 0).trans rfl; have hcz60_1 : w56.cell? ⟨gb690, 1, none⟩ = some (.int .i64 ((rd_T72 l0_1 x37_2).f1)) := (blk_cell BK690.out 1).trans rfl; have hfz60_0 := blk_frozen BK690.out 0; have hfz60_1 := blk_frozen BK690.out 1) | ((with_reducible refine gate_builtin (b := .append) (xs := #[.tmp 47, .tmp 49]) rfl ?_); at_builtin; refine Kd.R_append k72 (w0 := w) w.heap.size rfl (.tmp 47) (.tmp 49) 30 72 (.agg #[(.int .i64 0), (.int .i64 0)]) 16 rfl Try.underlying30 info72 rfl (by decide) (by omega) u681001 x681001_2 (⟨(rd_T72 l0_1 x37_2).f0, (rd_T72 l0_1 x37_2).f1⟩ : S72) [.int .i64 ((rd_T72 l0_1 x37_2).f0), .int .i64 ((rd_T72 l0_1 x37_2).f1)] (fun k_ => k_ ≠ gb690) (fun _ => False) rfl rfl ?aP (fun _ hk => hk.elim) ?aF ?aO ?aB ?aS ?aL ?_; (case aP => exact k72_mkM _ _ _ (⟨(rd_T72 l0_1 x37_2).f0, (rd_T72 l0_1 x37_2).f1⟩ : S72)); (case aB => exact zB); (case aF => exact (fun k_ hk => Kd.freshB (g := gb690) (o := .cells #[.int .i64 ((rd_T72 l0_1 x37_2).f0), .int .i64 ((rd_T72 l0_1 x37_2).f1)] 72 (0, 0)) (zb BK690) k_ hk)); (case aO => exact (by (with_reducible repeat (first | apply Kd.R_alloc | apply Kd.R_drewN | apply Kd.R_drew)); exact Kd.R_mono HO_681001.out (fun _ hk => hk.2))); (case aS => exact (below_size zB)); (case aL => have := LMc50.out; omega); intro v694 w61 ho hb hg hat; rw [← Ny693.out] at ho; replace HO_681000 := zm (Kd.R_over' (zr HO_681000) (Kd.R_typed (zr HO_681001)) (by decide) hg); replace BK678 := zm (blk_grown (g := gb678) (o := .cells #[.slice A0_0 l0_0.length c0_0, .slice (some ad689) l0_1.length c0_1] 32 (0, 0)) (zb BK678) hg (Kd.R_ne HO_681001.out BK678.out (by decide))); replace BK679 := zm (blk_grown (g := gb679) (o := .cells #[.slice none 0 0, .slice none 0 0] 32 (0, 0)) (zb BK679) hg (Kd.R_ne HO_681001.out BK679.out (by decide))); replace BK680 := zm (blk_grown (g := gb680) (o := .cells #[u681000, u681001] 32 (0, 0)) (zb BK680) hg (Kd.R_ne HO_681001.out BK680.out (by decide))); replace BK690 := zm (blk_grown (g := gb690) (o := .cells #[.int .i64 ((rd_T72 l0_1 x37_2).f0), .int .i64 ((rd_T72 l0_1 x37_2).f1)] 72 (0, 0)) (zb BK690) hg (Kd.R_away HO_681001.out (fun _ hk => hk.2))); replace HB := zm (hb); have HO695 := zm (ho); clear HO_681001; clear ho hb hg hat; obtain ⟨Ao62, co62, eo62⟩ := Kd.R_slice HO695.out; subst eo62; have hcz63_0 : w61.cell? ⟨gb680, 0, none⟩ = some (u681000) := (blk_cell BK680.out 0).trans rfl; have hcz63_1 : w61.cell? ⟨gb680, 1, none⟩ = some (u681001) := (blk_cell BK680.out 1).trans rfl; have hfz63_0 := blk_frozen BK680.out 0; have hfz63_1 := blk_frozen BK680.out 1))
            go_roundg k2
            case measure => have := HK1.out; have := HK2.out; omega
            case rel => exact ⟨(wrap64 (x37_2 + 1)), (y693), (.slice Ao62 y693.length co62), zF, H', ⟨by have := HK1.out; have := HK2.out; omega⟩, ⟨zrs <| Kd.R_mono (zfr (Kd.R_types HO_681000.out BK680.out (by decide))) (fun _ hk => trivial)⟩, ⟨zrs <| Kd.R_mono (zfr (Kd.R_types HO695.out BK680.out (by decide))) (fun _ hk => trivial)⟩, ⟨zfar (zb BK678) NB678_680⟩, ⟨zfar (zb BK679) NB679_680⟩, ⟨zput (zb BK680) 1⟩, ⟨zB⟩⟩
           ·rw [if_neg c50] at H
            exact absurd H (by simp)
          ·replace c49 := Bool.eq_false_iff.mpr c49
           subst c49
           have H1 : (impl_Slice.l1 k2 l1 l0_1 (l0_1.length : Int) (wrap64 (x37_2 + 1)) x681000_1 x681001_2) = some (r1, r2) := by rw [if_neg (show ¬ (false = true) by decide)] at H; exact H
           clear H
           have H := H1
           clear H1
           have H' := zm H
           clear H
           have p689 : 0 ≤ (x37_2 : Int) := zd
           have q689 : x37_2 < (l0_1.length : Int) := zd
           obtain ⟨ad689, e689, hx689_0, hx689_1⟩ := at_T72 (Kd.C_below HR0_1.out HB.out) x37_2 p689 q689
           cases e689
           replace p689 := eq_true p689
           replace q689 := eq_true q689
           go_wp2_with (first | ((with_reducible refine gate_dst (N := 9) rfl ?_); refine zbox 9 #[.int .i64 0, .int .i64 0] 72 ?_; intro gb690 hg w64 hbox hb; replace HO_681000 := zm (Kd.R_below (zr HO_681000) hb); replace HO_681001 := zm (Kd.R_below (Kd.R_elderB (zr HO_681001) gb690 (Nat.le_of_eq hg.symm)) hb); have BK690 := zm (hbox); have GW690 := zge w hg zB; have GE690 := zge w hg zB; replace HB := zm (below_step zB hb); have NB678_690 := zlt hg (zb BK678); have NB690_678 := zgt hg (zb BK678); replace BK678 := zm (blk_below (zb BK678) hb); have NB679_690 := zlt hg (zb BK679); have NB690_679 := zgt hg (zb BK679); replace BK679 := zm (blk_below (zb BK679) hb); have NB680_690 := zlt hg (zb BK680); have NB690_680 := zgt hg (zb BK680); replace BK680 := zm (blk_below (zb BK680) hb); clear hb hbox hg; have hnb65 := NB690_678.out; have hnc65 := NB678_690.out; have hnb66 := NB690_679.out; have hnc66 := NB679_690.out; have hnb67 := NB690_680.out; have hnc67 := NB680_690.out; have hcz68_0 : w64.cell? ⟨gb690, 0, none⟩ = some (.int .i64 0) := (blk_cell BK690.out 0).trans rfl; have hcz68_1 : w64.cell? ⟨gb690, 1, none⟩ = some (.int .i64 0) := (blk_cell BK690.out 1).trans rfl; have hfz68_0 := blk_frozen BK690.out 0; have hfz68_1 := blk_frozen BK690.out 1) | ((with_reducible refine gate_callee (f := 82) rfl ?_); refine zg (some 44) #[.int .i64 ((rd_T72 l0_1 x37_2).f0)] Try.func82 ?_; (with_reducible refine (impl_LeafOf.calls k2 ((rd_T72 l0_1 x37_2).f0) t691 _ A47.out).mono ?_); rintro e w69 ⟨rfl, hb⟩; refine ⟨_, rfl, ?_⟩; replace HO_681000 := zm (Kd.R_below (zrs <| (Kd.R_mono (zfr (zfr (Kd.R_types HO_681000.out BK690.out (by decide)))) (fun _ h_ => h_.1))) hb); replace HO_681001 := zm (Kd.R_below (zrs <| (Kd.R_mono (zfr (zfr (Kd.R_mono HO_681001.out (fun k_ hk => (⟨hk, hk.2⟩ : _ ∧ k_ ≠ gb690))))) (fun _ h_ => h_.1))) hb); replace BK678 := zm (blk_below (g := gb678) (o := .cells #[.slice A0_0 l0_0.length c0_0, .slice (some ad689) l0_1.length c0_1] 32 (0, 0)) (zfar (zfar (zb BK678) NB678_690) NB678_690) hb); replace BK679 := zm (blk_below (g := gb679) (o := .cells #[.slice none 0 0, .slice none 0 0] 32 (0, 0)) (zfar (zfar (zb BK679) NB679_690) NB679_690) hb); replace BK680 := zm (blk_below (g := gb680) (o := .cells #[u681000, u681001] 32 (0, 0)) (zfar (zfar (zb BK680) NB680_690) NB680_690) hb); replace BK690 := zm (blk_below (g := gb690) (o := .cells #[.int .i64 ((rd_T72 l0_1 x37_2).f0), .int .i64 ((rd_T72 l0_1 x37_2).f1)] 72 (0, 0)) (zput (zput (zb BK690) 0) 1) hb); replace HB := zm (below_step zB hb); clear hb) | ((with_reducible refine gate_callee (f := 81) rfl ?_); refine zg (some 45) #[.slice A1 l1.length c1, .int .i64 t691] Try.func81 ?_; (with_reducible refine (slices_Contains_int_int.calls k2 _ _ l1 t691 false _ (zk (Kd.C_below HR1.out HB.out)) HC1.out A48.out).mono ?_); rintro e w' ⟨rfl, ⟨nd, rfl⟩⟩; refine ⟨_, rfl, ?_⟩))
           go_roundg k2
           case measure => have := HK1.out; have := HK2.out; omega
           case rel => exact ⟨(wrap64 (x37_2 + 1)), (x681001_2), (u681001), zF, H', ⟨by have := HK1.out; have := HK2.out; omega⟩, ⟨zr HO_681000⟩, ⟨by (with_reducible repeat (first | apply Kd.R_alloc | apply Kd.R_drewN | apply Kd.R_drew)); exact Kd.R_mono HO_681001.out (fun _ hk => trivial)⟩, ⟨zb BK678⟩, ⟨zb BK679⟩, ⟨zb BK680⟩, ⟨zB⟩⟩
         ·rw [if_neg c46] at H
          exact absurd H (by simp)
        ·rw [if_neg c45] at H
         exact absurd H (by simp)
       ·rw [if_neg c44] at H
        have c44b0 : decide (x37_2 < (l0_1.length : Int)) = false := decide_eq_false c44
        clear c44
        simp only [Option.some.injEq, Prod.mk.injEq] at H
        obtain ⟨rfl, rfl⟩ := H
        have hnb70 := NB680_678.out
        have hnc70 := NB678_680.out
        have hnb71 := NB680_679.out
        have hnc71 := NB679_680.out
        have hcz72_0 : wr.cell? ⟨gb680, 0, none⟩ = some (u681000) := (blk_cell BK680.out 0).trans rfl
        have hcz72_1 : wr.cell? ⟨gb680, 1, none⟩ = some (u681001) := (blk_cell BK680.out 1).trans rfl
        have hfz72_0 := blk_frozen BK680.out 0
        have hfz72_1 := blk_frozen BK680.out 1
        obtain ⟨Ao73, co73, eo73⟩ := Kd.R_slice HO_681000.out
        subst eo73
        have hnb74 := NB679_678.out
        have hnc74 := NB678_679.out
        have hcz75_0 : wr.cell? ⟨gb679, 0, none⟩ = some (.slice none 0 0) := (blk_cell BK679.out 0).trans rfl
        have hcz75_1 : wr.cell? ⟨gb679, 1, none⟩ = some (.slice none 0 0) := (blk_cell BK679.out 1).trans rfl
        have hfz75_0 := blk_frozen BK679.out 0
        have hfz75_1 := blk_frozen BK679.out 1
        obtain ⟨Ao76, co76, eo76⟩ := Kd.R_slice HO_681001.out
        subst eo76
        go_wp2
        refine bodyPost_ret (results_cell_row rfl _ _ gb679 32 #[.slice Ao73 x681000_1.length co73, .slice Ao76 x681001_2.length co76] (0, 0) _ rfl (zput (zput (zb BK679) 0) 1) Try.underlying32 rfl (by kernel_rfl)) rfl ?_
        exact ⟨_, _, zE, zrs <| Kd.R_mono (zfr (zfr (Kd.R_types HO_681000.out BK679.out (by decide)))) (fun _ hk => trivial), zrs <| Kd.R_mono (zfr (zfr (Kd.R_types HO_681001.out BK679.out (by decide)))) (fun _ hk => trivial), zB⟩
 ·replace c4 := Bool.eq_false_iff.mpr c4
  subst c4
  have H1 : (some (([] : List (S68)), ([] : List (S72)))) = some (r1, r2) := by rw [if_neg (show ¬ (false = true) by decide)] at H; exact H
  clear H
  have H := H1
  clear H1
  simp only [Option.some.injEq, Prod.mk.injEq] at H
  obtain ⟨rfl, rfl⟩ := H
  go_enter Try.func37, Try.ntmps37
  go_wp2_with (first | ((with_reducible refine gate_dst (N := 2) rfl ?_); refine zbox 2 #[.slice A0_0 l0_0.length c0_0, .slice A0_1 l0_1.length c0_1] 32 ?_; intro gb678 hg w77 hbox hb; have BK678 := zm (hbox); have GW678 := zge w hg zB; have GE678 := zge w hg zB; replace HB := zm (below_step zB hb); clear hb hbox hg) | ((with_reducible refine gate_dst (N := 4) rfl ?_); refine zbox 4 #[.slice none 0 0, .slice none 0 0] 32 ?_; intro gb679 hg w78 hbox hb; have BK679 := zm (hbox); have GW679 := zge w hg zB; have GE679 := zge w hg zB; replace HB := zm (below_step zB hb); have NB678_679 := zlt hg (zb BK678); have NB679_678 := zgt hg (zb BK678); replace BK678 := zm (blk_below (zb BK678) hb); clear hb hbox hg) | ((with_reducible refine gate_dst (N := 5) rfl ?_); refine zbox 5 #[.slice none 0 0, .slice none 0 0] 32 ?_; intro gb680 hg w79 hbox hb; have BK680 := zm (hbox); have GW680 := zge w hg zB; have GE680 := zge w hg zB; replace HB := zm (below_step zB hb); have NB678_680 := zlt hg (zb BK678); have NB680_678 := zgt hg (zb BK678); replace BK678 := zm (blk_below (zb BK678) hb); have NB679_680 := zlt hg (zb BK679); have NB680_679 := zgt hg (zb BK679); replace BK679 := zm (blk_below (zb BK679) hb); clear hb hbox hg; have hnb80 := NB680_678.out; have hnc80 := NB678_680.out; have hnb81 := NB680_679.out; have hnc81 := NB679_680.out; have hcz82_0 : w79.cell? ⟨gb680, 0, none⟩ = some (.slice none 0 0) := (blk_cell BK680.out 0).trans rfl; have hcz82_1 : w79.cell? ⟨gb680, 1, none⟩ = some (.slice none 0 0) := (blk_cell BK680.out 1).trans rfl; have hfz82_0 := blk_frozen BK680.out 0; have hfz82_1 := blk_frozen BK680.out 1; have hnb83 := NB678_679.out; have hnc83 := NB679_678.out; have hcz84_0 : w79.cell? ⟨gb678, 0, none⟩ = some (.slice A0_0 l0_0.length c0_0) := (blk_cell BK678.out 0).trans rfl; have hcz84_1 : w79.cell? ⟨gb678, 1, none⟩ = some (.slice A0_1 l0_1.length c0_1) := (blk_cell BK678.out 1).trans rfl; have hfz84_0 := blk_frozen BK678.out 0; have hfz84_1 := blk_frozen BK678.out 1) | ((with_reducible refine gate_callee (f := 53) rfl ?_); refine zg (some 12) #[.agg #[.slice A0_0 l0_0.length c0_0, .slice A0_1 l0_1.length c0_1]] Try.func53 ?_; (with_reducible refine (impl_StateOk.calls k _ _ l0_0 _ _ l0_1 false _ ?side1 HC0_0.out ?side3 HC0_1.out A3.out).mono ?_); (case side1 => exact Kd.C_below HR0_0.out zB); (case side3 => exact Kd.C_below HR0_1.out zB); rintro e w85 ⟨rfl, hb⟩; refine ⟨_, rfl, ?_⟩; replace BK678 := zm (blk_below (g := gb678) (o := .cells #[.slice A0_0 l0_0.length c0_0, .slice A0_1 l0_1.length c0_1] 32 (0, 0)) (zfar (zfar (zb BK678) NB678_680) NB678_680) hb); replace BK679 := zm (blk_below (g := gb679) (o := .cells #[.slice none 0 0, .slice none 0 0] 32 (0, 0)) (zfar (zfar (zb BK679) NB679_680) NB679_680) hb); replace BK680 := zm (blk_below (g := gb680) (o := .cells #[.slice none 0 0, .slice none 0 0] 32 (0, 0)) (zput (zput (zb BK680) 0) 1) hb); replace HB := zm (below_step zB hb); clear hb; have hcz86_0 : w85.cell? ⟨gb680, 0, none⟩ = some (.slice none 0 0) := (blk_cell BK680.out 0).trans rfl; have hcz86_1 : w85.cell? ⟨gb680, 1, none⟩ = some (.slice none 0 0) := (blk_cell BK680.out 1).trans rfl; have hfz86_0 := blk_frozen BK680.out 0; have hfz86_1 := blk_frozen BK680.out 1; have hcz87_0 : w85.cell? ⟨gb679, 0, none⟩ = some (.slice none 0 0) := (blk_cell BK679.out 0).trans rfl; have hcz87_1 : w85.cell? ⟨gb679, 1, none⟩ = some (.slice none 0 0) := (blk_cell BK679.out 1).trans rfl; have hfz87_0 := blk_frozen BK679.out 0; have hfz87_1 := blk_frozen BK679.out 1))
  refine bodyPost_ret (results_cell_row rfl _ _ gb679 32 #[.slice none 0 0, .slice none 0 0] (0, 0) _ rfl (zput (zput (zb BK679) 0) 1) Try.underlying32 rfl (by kernel_rfl)) rfl ?_
  exact ⟨_, _, zE, by first | exact Kd.R_nil _ _ _ _ _ | exact Kd.N_nil _ _ _ _ _ | exact Kd.V_nil _ _ _ _ _ | exact Kd.Q_nil _ _ _ _ _ | exact Kd.S_nil _ _ _ _ _, by first | exact Kd.R_nil _ _ _ _ _ | exact Kd.N_nil _ _ _ _ _ | exact Kd.V_nil _ _ _ _ _ | exact Kd.Q_nil _ _ _ _ _ | exact Kd.S_nil _ _ _ _ _, zB⟩

/-! ### laws_eqIntS: function 38 -/
def laws_eqIntS.l0 : Nat → List Int → List Int → Int → Option (Bool)
 | 0, _, _, _ => none
 | k + 1, x0, x1, x5 => if x5 < (x0.length : Int) then (if 0 ≤ x5 then (if x5 < (x1.length : Int) then (if (rd x0 x5) = (rd x1 x5) then (laws_eqIntS.l0 k x0 x1 (wrap64 (x5 + 1))) else (some false)) else (none)) else (none)) else (some true)
def laws_eqIntS.f (k : Nat) (l0 : List Int) (l1 : List Int) : Option (Bool) := if (l0.length : Int) = (l1.length : Int) then (laws_eqIntS.l0 k l0 l1 0) else (some false)
theorem laws_eqIntS.mono_l : ∀ k, (∀ y0 y1 y2, LeO (laws_eqIntS.l0 k y0 y1 y2) (laws_eqIntS.l0 (k + 1) y0 y1 y2))
 | 0 => fun _ _ _ r h => by simp [laws_eqIntS.l0] at h
 | k + 1 => by
  have ih0 := laws_eqIntS.mono_l k
  ·intro y0 y1 y2
   unfold laws_eqIntS.l0
   repeat' first
   | (with_reducible exact ih0 _ _ _)
   | (with_reducible exact LeO.refl _)
   | (with_reducible exact LeO.none _)
   | (with_reducible refine LeO.ite ?_ ?_)
   | (with_reducible refine LeO.bind ?_ (fun _ => ?_))
   | exact ih0 _ _ _
   | exact LeO.none _
   | refine LeO.ite ?_ ?_
   | refine LeO.bind ?_ (fun _ => ?_)
theorem laws_eqIntS.mono : ∀ a0 a1 k, LeO (laws_eqIntS.f k a0 a1) (laws_eqIntS.f (k + 1) a0 a1) := by
 intro a0 a1 k
 have ih0 := laws_eqIntS.mono_l k
 unfold laws_eqIntS.f
 repeat' first
   | (with_reducible exact ih0 _ _ _)
   | (with_reducible exact LeO.refl _)
   | (with_reducible exact LeO.none _)
   | (with_reducible refine LeO.ite ?_ ?_)
   | (with_reducible refine LeO.bind ?_ (fun _ => ?_))
   | exact ih0 _ _ _
   | exact LeO.none _
   | refine LeO.ite ?_ ?_
   | refine LeO.bind ?_ (fun _ => ?_)
set_option maxHeartbeats 8000000 in
set_option maxRecDepth 100000 in
theorem laws_eqIntS.calls (k : Nat) (A0 : Option Addr) (c0 : Nat) (l0 : List Int) (A1 : Option Addr) (c1 : Nat) (l1 : List Int) (r : Bool) (w : World) (hr0 : Kd.C (Kd.int .i64) w A0 l0.length l0) (hc0 : l0.length ≤ c0) (hr1 : Kd.C (Kd.int .i64) w A1 l1.length l1) (hc1 : l1.length ≤ c1) (h : laws_eqIntS.f k l0 l1 = some r) :
  Calls Try.prog 38 #[.slice A0 l0.length c0, .slice A1 l1.length c1] w fun e w' => e = .returned (.bool r) ∧ Drawn0 w w' := by
 have HR0 := zm hr0
 have HC0 := zm hc0
 clear hr0 hc0
 have HR1 := zm hr1
 have HC1 := zm hc1
 clear hr1 hc1
 have H : (if (l0.length : Int) = (l1.length : Int) then (laws_eqIntS.l0 k l0 l1 0) else (some false)) = some r := h
 clear h
 by_cases c3 : (l0.length : Int) = (l1.length : Int)
 ·rw [if_pos c3] at H
  have c3b0 : ((l0.length : Int) == (l1.length : Int)) = true := beq_iff_eq.mpr c3
  have c3b1 : ((l0.length : Int) != (l1.length : Int)) = false := bne_eq_false_iff_eq.mpr c3
  have c3b2 : (l0.length == l1.length) = true := by first | simpa using c3 | (simp at c3 ⊢; omega)
  clear c3
  have H' := zm H
  clear H
  go_enter Try.func38, Try.ntmps38
  go_wp2
  repeat (go_quiet (fail); try go_wp2)
  go_loopg [5] k (fun kq v5 w' => ∃ (x5_1 : Int), v5 = .int .i64 x5_1 ∧ Aside0 (laws_eqIntS.l0 kq l0 l1 x5_1 = some r) ∧ Aside0 (kq ≤ k) ∧ Drawn0 w w')
  case atStart => exact ⟨(0), zF, H', ⟨Nat.le_refl _⟩, zD⟩
  case round =>
   clear H'
   try clear c1
   try clear p2
   try clear c3
   try clear c3b0
   try clear c3b1
   try clear c3b2
   obtain ⟨x5_1, rfl, HA, HK1, ⟨m1, rfl⟩⟩ := hrel
   cases gk with
   | zero => exact absurd HA.out (by simp [laws_eqIntS.l0])
   | succ k1 =>
    have H := HA.out
    clear HA
    simp only [laws_eqIntS.l0] at H
    by_cases c4 : x5_1 < (l0.length : Int)
    ·rw [if_pos c4] at H
     have c4b0 : decide (x5_1 < (l0.length : Int)) = true := decide_eq_true c4
     clear c4
     by_cases c5 : 0 ≤ x5_1
     ·rw [if_pos c5] at H
      have c5b0 : decide (0 ≤ x5_1) = true := decide_eq_true c5
      clear c5
      by_cases c6 : x5_1 < (l1.length : Int)
      ·rw [if_pos c6] at H
       have c6b0 : decide (x5_1 < (l1.length : Int)) = true := decide_eq_true c6
       clear c6
       by_cases c7 : (rd l0 x5_1) = (rd l1 x5_1)
       ·rw [if_pos c7] at H
        have c7b0 : ((rd l0 x5_1) == (rd l1 x5_1)) = true := beq_iff_eq.mpr c7
        have c7b1 : ((rd l0 x5_1) != (rd l1 x5_1)) = false := bne_eq_false_iff_eq.mpr c7
        clear c7
        have H' := zm H
        clear H
        have p696 : 0 ≤ (x5_1 : Int) := zd
        have q696 : x5_1 < (l0.length : Int) := zd
        obtain ⟨ad696, e696, hx696_0⟩ := Kd.at_int HR0.out x5_1 p696 q696
        cases e696
        replace p696 := eq_true p696
        replace q696 := eq_true q696
        have p697 : 0 ≤ (x5_1 : Int) := zd
        have q697 : x5_1 < (l1.length : Int) := zd
        obtain ⟨ad697, e697, hx697_0⟩ := Kd.at_int HR1.out x5_1 p697 q697
        cases e697
        replace p697 := eq_true p697
        replace q697 := eq_true q697
        go_wp2
        repeat (go_quiet (fail); try go_wp2)
        go_roundg k1
        case measure => have := HK1.out; omega
        case rel => exact ⟨(wrap64 (x5_1 + 1)), zF, H', ⟨by have := HK1.out; omega⟩, zD⟩
       ·rw [if_neg c7] at H
        have c7b0 : ((rd l0 x5_1) == (rd l1 x5_1)) = false := beq_eq_false_iff_ne.mpr c7
        have c7b1 : ((rd l0 x5_1) != (rd l1 x5_1)) = true := bne_iff_ne.mpr c7
        obtain rfl := Option.some.inj H
        have p696 : 0 ≤ (x5_1 : Int) := zd
        have q696 : x5_1 < (l0.length : Int) := zd
        obtain ⟨ad696, e696, hx696_0⟩ := Kd.at_int HR0.out x5_1 p696 q696
        cases e696
        replace p696 := eq_true p696
        replace q696 := eq_true q696
        have p697 : 0 ≤ (x5_1 : Int) := zd
        have q697 : x5_1 < (l1.length : Int) := zd
        obtain ⟨ad697, e697, hx697_0⟩ := Kd.at_int HR1.out x5_1 p697 q697
        cases e697
        replace p697 := eq_true p697
        replace q697 := eq_true q697
        go_wp2
        repeat (go_quiet (fail); try go_wp2)
        go_ret
        exact ⟨zF, zD⟩
      ·rw [if_neg c6] at H
       exact absurd H (by simp)
     ·rw [if_neg c5] at H
      exact absurd H (by simp)
    ·rw [if_neg c4] at H
     have c4b0 : decide (x5_1 < (l0.length : Int)) = false := decide_eq_false c4
     clear c4
     obtain rfl := Option.some.inj H
     go_wp2
     repeat (go_quiet (fail); try go_wp2)
     go_ret
     exact ⟨zF, zD⟩
 ·rw [if_neg c3] at H
  have c3b0 : ((l0.length : Int) == (l1.length : Int)) = false := beq_eq_false_iff_ne.mpr c3
  have c3b1 : ((l0.length : Int) != (l1.length : Int)) = true := bne_iff_ne.mpr c3
  have c3b2 : (l0.length == l1.length) = false := by first | simpa using c3 | (simp at c3 ⊢; omega)
  obtain rfl := Option.some.inj H
  go_enter Try.func38, Try.ntmps38
  go_wp2
  repeat (go_quiet (fail); try go_wp2)
  go_ret
  exact ⟨zF, zD⟩

/-! ### laws_markIntS: function 39 -/
def laws_markIntS.l0 : Nat → List Int → Int → Int → Option (Int × List Int)
 | 0, _, _, _ => none
 | k + 1, x0, x1, x5 => if x5 < (x0.length : Int) then (if 0 ≤ x5 then (laws_markIntS.l0 k (x0.set (x5 : Int).toNat x1) (wrap64 (x1 + 1)) (wrap64 (x5 + 1))) else (none)) else (some (x1, x0))
def laws_markIntS.f (k : Nat) (l0 : List Int) (a1 : Int) : Option (Int × List Int) := laws_markIntS.l0 k l0 a1 0
theorem laws_markIntS.mono_l : ∀ k, (∀ y0 y1 y2, LeO (laws_markIntS.l0 k y0 y1 y2) (laws_markIntS.l0 (k + 1) y0 y1 y2))
 | 0 => fun _ _ _ r h => by simp [laws_markIntS.l0] at h
 | k + 1 => by
  have ih0 := laws_markIntS.mono_l k
  ·intro y0 y1 y2
   unfold laws_markIntS.l0
   repeat' first
   | (with_reducible exact ih0 _ _ _)
   | (with_reducible exact LeO.refl _)
   | (with_reducible exact LeO.none _)
   | (with_reducible refine LeO.ite ?_ ?_)
   | (with_reducible refine LeO.bind ?_ (fun _ => ?_))
   | exact ih0 _ _ _
   | exact LeO.none _
   | refine LeO.ite ?_ ?_
   | refine LeO.bind ?_ (fun _ => ?_)
theorem laws_markIntS.mono : ∀ a0 a1 k, LeO (laws_markIntS.f k a0 a1) (laws_markIntS.f (k + 1) a0 a1) := by
 intro a0 a1 k
 have ih0 := laws_markIntS.mono_l k
 unfold laws_markIntS.f
 repeat' first
   | (with_reducible exact ih0 _ _ _)
   | (with_reducible exact LeO.refl _)
   | (with_reducible exact LeO.none _)
   | (with_reducible refine LeO.ite ?_ ?_)
   | (with_reducible refine LeO.bind ?_ (fun _ => ?_))
   | exact ih0 _ _ _
   | exact LeO.none _
   | refine LeO.ite ?_ ?_
   | refine LeO.bind ?_ (fun _ => ?_)
set_option maxHeartbeats 8000000 in
set_option maxRecDepth 100000 in
theorem laws_markIntS.calls (k : Nat) (P0_ : Nat → Prop) (u9000_ : Value) (l0 : List Int) (a1 : Int) (r1 : Int) (r2 : List Int) (w0 w : World) (hB : Below w0.heap.size w0 w) (ho0 : Kd.R (Kd.int .i64) 3 w w0.heap.size P0_ u9000_ l0) (h : laws_markIntS.f k l0 a1 = some (r1, r2)) :
  Calls Try.prog 39 #[u9000_, .int .i64 a1] w fun e w' => e = .returned (.int .i64 r1) ∧ Kd.R (Kd.int .i64) 3 w' w0.heap.size (fun k_ => (P0_ k_ ∨ w.heap.size ≤ k_)) u9000_ r2 ∧ Below w0.heap.size w0 w' ∧ Kept w w' (fun k_ => P0_ k_) := by
 have HO0 := zm (show Kd.R (Kd.int .i64) 3 w w0.heap.size (fun k_ => (P0_ k_ ∨ w.heap.size ≤ k_)) u9000_ l0 from Kd.R_mono ho0 (fun k_ hk => (.inl hk)))
 have HK := zm (Kept.refl w (fun k_ => P0_ k_))
 have HW0 := zm hB.size
 have HB := zm hB
 clear hB
 have H : (laws_markIntS.l0 k l0 a1 0) = some (r1, r2) := h
 clear h
 have H' := zm H
 clear H
 go_enter Try.func39, Try.ntmps39
 go_wp2
 go_loopg [1, 5] k (fun kq v1 v5 w' => ∃ (x0_1 : List Int) (x1_1 : Int) (x5_1 : Int), v1 = .int .i64 x1_1 ∧ v5 = .int .i64 x5_1 ∧ Aside0 (laws_markIntS.l0 kq x0_1 x1_1 x5_1 = some (r1, r2)) ∧ Aside0 (kq ≤ k) ∧ Aside0 (Kd.R (Kd.int .i64) 3 w' w0.heap.size (fun k_ => (P0_ k_ ∨ w.heap.size ≤ k_)) u9000_ x0_1) ∧ Aside0 (Kept w w' (fun k_ => P0_ k_)) ∧ Aside0 (Below w0.heap.size w0 w'))
 case atStart => exact ⟨(l0), (a1), (0), zF, zF, H', ⟨Nat.le_refl _⟩, ⟨zr HO0⟩, ⟨by repeat (first | (with_reducible first | exact HK.out | apply Kept.alloc | apply Kept.drewN | apply Kept.drew) | exact HK.out)⟩, ⟨zB⟩⟩
 case round =>
  clear H'
  try clear p2
  obtain ⟨x0_1, x1_1, x5_1, rfl, rfl, HA, HK1, HO_0, HK, HB⟩ := hrel
  cases gk with
  | zero => exact absurd HA.out (by simp [laws_markIntS.l0])
  | succ k1 =>
   have H := HA.out
   clear HA
   simp only [laws_markIntS.l0] at H
   by_cases c3 : x5_1 < (x0_1.length : Int)
   ·rw [if_pos c3] at H
    have c3b0 : decide (x5_1 < (x0_1.length : Int)) = true := decide_eq_true c3
    clear c3
    by_cases c4 : 0 ≤ x5_1
    ·rw [if_pos c4] at H
     have c4b0 : decide (0 ≤ x5_1) = true := decide_eq_true c4
     clear c4
     obtain ⟨y698, hy698⟩ : ∃ y_ : List Int, y_ = (x0_1.set (x5_1 : Int).toNat x1_1) := ⟨_, rfl⟩
     replace H : (laws_markIntS.l0 k1 y698 (wrap64 (x1_1 + 1)) (wrap64 (x5_1 + 1))) = some (r1, r2) := by first | (rw [hy698]; with_reducible exact H) | (have H2_ := (Option.bind_some _ _).symm.trans H; rw [hy698]; with_reducible exact H2_) | (have H2_ := (Option.bind_some _ _).symm.trans H; with_reducible exact H2_) | with_reducible exact H | (rw [hy698]; exact H) | exact H
     have Ny698 := zm hy698
     clear hy698
     have H' := zm H
     clear H
     obtain ⟨Ao6, co6, eo6⟩ := Kd.R_slice HO_0.out
     subst eo6
     have p5 : 0 ≤ (x5_1 : Int) := zd
     have q5 : (x5_1 : Int) < ((x0_1.length : Int) : Int) := zd
     obtain ⟨go5, co5, eo5, gb5, gl5, cl5, HG5⟩ := Kd.R_form HO_0.out (by omega)
     (first | cases eo5 | (injection eo5 with ea_ en_ ec_; (first | subst ea_ | (injection ea_ with ea_; subst ea_)); subst ec_; clear en_))
     have GB5 := zm gb5
     have GG5 := zm HG5
     clear gb5 gl5 HG5
     have HMgo5 := zm (show (P0_ go5 ∨ w.heap.size ≤ go5) from (HO_0.out.1 _ rfl))
     obtain ⟨hx5_0, hf5_0⟩ := Kd.R_celln 0 HO_0.out (x5_1 : Int) p5 q5
     replace p5 := eq_true p5
     replace q5 := eq_true q5
     have HP7 := Kd.R_putg HO_0.out (x5_1 : Int) x1_1
     go_wp2_with (first | ((with_reducible refine gate_store (t := 3) (p := 15) rfl ?_); refine store_event (t := 3) (p := 15) (v := ?vo_w8) (w1 := (wr.setCell ⟨go5, (x5_1 : Int).toNat, none⟩ (.int .i64 x1_1))) ?hg ?ho ?hn ?hr ?_; (case ho => rfl); (case hg => rfl); (case hn => rfl); (case hr => first | (go_simp; done) | (go_simp; rfl)); intro w8 hw; have hg : wr.grownBy w8 (some go5) := (by rw [hw]; exact HP7.2); have hp_ : Kd.R (Kd.int .i64) 3 w8 w0.heap.size (fun k_ => (P0_ k_ ∨ w.heap.size ≤ k_)) (.slice (some ⟨go5, 0, none⟩) x0_1.length co6) y698 := (by rw [hw, Ny698.out]; exact HP7.1); clear HP7; replace HB := zm ((by rw [hw]; exact below_set (HB.out) GB5.out : Below w0.heap.size w0 w8)); replace HK := zm (Kept.of_grown (S := (fun k_ => P0_ k_)) hg (by repeat (first | (with_reducible first | exact HK.out | apply Kept.alloc | apply Kept.drewN | apply Kept.drew) | exact HK.out)) (fun k_ e_ => (HO_0.out.1 k_ e_))); replace HO_0 := zm (hp_); clear hg hw hp_))
     go_roundg k1
     case measure => have := HK1.out; omega
     case rel => exact ⟨(y698), (wrap64 (x1_1 + 1)), (wrap64 (x5_1 + 1)), zF, zF, H', ⟨by have := HK1.out; omega⟩, ⟨zr HO_0⟩, ⟨by repeat (first | (with_reducible first | exact HK.out | apply Kept.alloc | apply Kept.drewN | apply Kept.drew) | exact HK.out)⟩, ⟨zB⟩⟩
    ·rw [if_neg c4] at H
     exact absurd H (by simp)
   ·rw [if_neg c3] at H
    have c3b0 : decide (x5_1 < (x0_1.length : Int)) = false := decide_eq_false c3
    clear c3
    simp only [Option.some.injEq, Prod.mk.injEq] at H
    obtain ⟨rfl, rfl⟩ := H
    obtain ⟨Ao9, co9, eo9⟩ := Kd.R_slice HO_0.out
    subst eo9
    go_wp2
    go_ret
    exact ⟨zE, zr HO_0, zB, by repeat (first | (with_reducible first | exact HK.out | apply Kept.alloc | apply Kept.drewN | apply Kept.drew) | exact HK.out)⟩

/-! ### spec_l1Max: function 75 -/
def spec_l1Max.f (a0 : Int) (a1 : Int) : Option (Int) := if a0 > a1 then (some a0) else (some a1)
set_option maxHeartbeats 8000000 in
set_option maxRecDepth 100000 in
theorem spec_l1Max.calls (a0 : Int) (a1 : Int) (r : Int) (w : World) (h : spec_l1Max.f a0 a1 = some r) :
  Calls Try.prog 75 #[.int .i64 a0, .int .i64 a1] w fun e w' => e = .returned (.int .i64 r) ∧ Drawn0 w w' := by
 have H : (if a0 > a1 then (some a0) else (some a1)) = some r := h
 clear h
 by_cases c3 : a0 > a1
 ·rw [if_pos c3] at H
  have c3b0 : decide (a1 < a0) = true := decide_eq_true c3
  clear c3
  obtain rfl := Option.some.inj H
  go_enter Try.func75, Try.ntmps75
  go_wp2
  go_ret
  exact ⟨zF, zD⟩
 ·rw [if_neg c3] at H
  have c3b0 : decide (a1 < a0) = false := decide_eq_false c3
  clear c3
  obtain rfl := Option.some.inj H
  go_enter Try.func75, Try.ntmps75
  go_wp2
  go_ret
  exact ⟨zF, zD⟩

end Go.Proofs.Ytgapdegniepjiaa.P
