-- by a program of this session, for this seat
import Derived.Test.YthljdiniccpobaaZ
import Derived.Test.YthljdiniccpobaaP0
import Derived.Test.YthljdiniccpobaaPab
import Derived.Test.YthljdiniccpobaaPac
import Derived.Test.YthljdiniccpobaaPae
namespace Go.Proofs.Ythljdiniccpobaa.P
open Go.RowKit Go.Proofs.YthljdiniccpobaaW.PrintWords Go.Proofs.YthljdiniccpobaaW.PrintLast Go.Proofs.YthljdiniccpobaaW.PrintMore Go.Proofs.Ythljdiniccpobaa.Z
attribute [local go_sem] max2_int min2_int max_two min_two max_three min_three max_four min_four   -- for this text's walks alone
set_option linter.unusedVariables false
set_option linter.unusedSimpArgs false

/-! ### impl_stateJoin: function 100 -/
def impl_stateJoin.l0 : Nat → Int → List (S84) → List (S89) → List (S84) → List (S89) → List (S84) → List (S89) → Option ((List (S84)) × (List (S89)))
 | 0, _, _, _, _, _, _, _ => none
 | k + 1, x6, x742000, x742001, x743000, x743001, x745000, x745001 => if x6 < 5 then ((impl_EntryOf.f k x742000 x742001 x6).bind fun bt745 => ((impl_EntryOf.f k x743000 x743001 x6).bind fun bt752 => ((impl_EntryMax.f k bt745.1 bt745.2.1 bt745.2.2.1 bt745.2.2.2.1 bt745.2.2.2.2.1 bt752.1 bt752.2.1 bt752.2.2.1 bt752.2.2.2.1 bt752.2.2.2.2.1).bind fun bt759 => ((impl_FloorOf.f k x742000 x742001 x6).bind fun t765 => ((impl_FloorOf.f k x743000 x743001 x6).bind fun t766 => (if bt759.1 > (mx t765 t766) then (if x745000.length < 2513169434916 then ((some (x745000 ++ [(⟨x6, (⟨bt759.1, bt759.2.1, bt759.2.2.1, bt759.2.2.2.1, bt759.2.2.2.2⟩ : S25)⟩ : S84)] : List (S84))).bind fun y767 => (if (mx t765 t766) > 0 then (if x745001.length < 8796093022208 then (impl_stateJoin.l0 k (wrap64 (x6 + 1)) x742000 x742001 x743000 x743001 y767 (x745001 ++ [(⟨x6, mx t765 t766⟩ : S89)])) else (none)) else (impl_stateJoin.l0 k (wrap64 (x6 + 1)) x742000 x742001 x743000 x743001 y767 x745001))) else (none)) else (if (mx t765 t766) > 0 then (if x745001.length < 8796093022208 then (impl_stateJoin.l0 k (wrap64 (x6 + 1)) x742000 x742001 x743000 x743001 x745000 (x745001 ++ [(⟨x6, mx t765 t766⟩ : S89)])) else (none)) else (impl_stateJoin.l0 k (wrap64 (x6 + 1)) x742000 x742001 x743000 x743001 x745000 x745001)))))))) else (some (x745000, x745001))
def impl_stateJoin.f (k : Nat) (l0_0 : List (S84)) (l0_1 : List (S89)) (l1_0 : List (S84)) (l1_1 : List (S89)) : Option ((List (S84)) × (List (S89))) := impl_stateJoin.l0 k 0 l0_0 l0_1 l1_0 l1_1 ([] : List (S84)) ([] : List (S89))
theorem impl_stateJoin.mono_l : ∀ k, (∀ y0 y1 y2 y3 y4 y5 y6, LeO (impl_stateJoin.l0 k y0 y1 y2 y3 y4 y5 y6) (impl_stateJoin.l0 (k + 1) y0 y1 y2 y3 y4 y5 y6))
 | 0 => fun _ _ _ _ _ _ _ r h => by simp [impl_stateJoin.l0] at h
 | k + 1 => by
  have ih0 := impl_stateJoin.mono_l k
  ·intro y0 y1 y2 y3 y4 y5 y6
   unfold impl_stateJoin.l0
   repeat' first
   | (with_reducible exact ih0 _ _ _ _ _ _ _)
   | (with_reducible exact impl_EntryMax.mono _ _ _ _ _ _ _ _ _ _ _)
   | (with_reducible exact impl_EntryOf.mono _ _ _ _)
   | (with_reducible exact impl_FloorOf.mono _ _ _ _)
   | (with_reducible exact LeO.refl _)
   | (with_reducible exact LeO.none _)
   | (with_reducible refine LeO.ite ?_ ?_)
   | (with_reducible refine LeO.bind ?_ (fun _ => ?_))
   | exact ih0 _ _ _ _ _ _ _
   | exact impl_EntryMax.mono _ _ _ _ _ _ _ _ _ _ _
   | exact impl_EntryOf.mono _ _ _ _
   | exact impl_FloorOf.mono _ _ _ _
   | exact LeO.none _
   | refine LeO.ite ?_ ?_
   | refine LeO.bind ?_ (fun _ => ?_)
theorem impl_stateJoin.mono : ∀ a0 a1 a2 a3 k, LeO (impl_stateJoin.f k a0 a1 a2 a3) (impl_stateJoin.f (k + 1) a0 a1 a2 a3) := by
 intro a0 a1 a2 a3 k
 have ih0 := impl_stateJoin.mono_l k
 unfold impl_stateJoin.f
 repeat' first
   | (with_reducible exact ih0 _ _ _ _ _ _ _)
   | (with_reducible exact impl_EntryMax.mono _ _ _ _ _ _ _ _ _ _ _)
   | (with_reducible exact impl_EntryOf.mono _ _ _ _)
   | (with_reducible exact impl_FloorOf.mono _ _ _ _)
   | (with_reducible exact LeO.refl _)
   | (with_reducible exact LeO.none _)
   | (with_reducible refine LeO.ite ?_ ?_)
   | (with_reducible refine LeO.bind ?_ (fun _ => ?_))
   | exact ih0 _ _ _ _ _ _ _
   | exact impl_EntryMax.mono _ _ _ _ _ _ _ _ _ _ _
   | exact impl_EntryOf.mono _ _ _ _
   | exact impl_FloorOf.mono _ _ _ _
   | exact LeO.none _
   | refine LeO.ite ?_ ?_
   | refine LeO.bind ?_ (fun _ => ?_)
def impl_stateJoin.T8 : Bool × List (List Nat × List Nat) := (true, [([], []), ([], []), ([0, 1], [0, 1]), ([], []), ([], []), ([3, 4, 2], [3, 4]), ([2, 5], [2, 5]), ([6, 5, 0, 1, 2, 3, 4, 5, 6], [6])])
def impl_stateJoin.B8 : List Nat := [0, 0, 3, 0, 0, 31, 63, 127]
theorem impl_stateJoin.tab8 : rtab .any (opsOf Try.f100 8) = impl_stateJoin.T8 := by kernel_rfl
theorem impl_stateJoin.bits8 : waitsOk impl_stateJoin.T8.2 impl_stateJoin.B8 = true := by kernel_rfl
set_option maxHeartbeats 8000000 in
set_option maxRecDepth 100000 in
theorem impl_stateJoin.calls (k : Nat) (A0_0 : Option Addr) (c0_0 : Nat) (l0_0 : List (S84)) (A0_1 : Option Addr) (c0_1 : Nat) (l0_1 : List (S89)) (A1_0 : Option Addr) (c1_0 : Nat) (l1_0 : List (S84)) (A1_1 : Option Addr) (c1_1 : Nat) (l1_1 : List (S89)) (r1 : List (S84)) (r2 : List (S89)) (w : World) (hr0_0 : Kd.C k84 w A0_0 l0_0.length l0_0) (hc0_0 : l0_0.length ≤ c0_0) (hr0_1 : Kd.C k89 w A0_1 l0_1.length l0_1) (hc0_1 : l0_1.length ≤ c0_1) (hr1_0 : Kd.C k84 w A1_0 l1_0.length l1_0) (hc1_0 : l1_0.length ≤ c1_0) (hr1_1 : Kd.C k89 w A1_1 l1_1.length l1_1) (hc1_1 : l1_1.length ≤ c1_1) (h : impl_stateJoin.f k l0_0 l0_1 l1_0 l1_1 = some (r1, r2)) :
  Calls Try.prog 100 #[.agg #[.slice A0_0 l0_0.length c0_0, .slice A0_1 l0_1.length c0_1], .agg #[.slice A1_0 l1_0.length c1_0, .slice A1_1 l1_1.length c1_1]] w fun e w' => ∃ v0_ v1_ : Value, e = .returned (.agg #[v0_, v1_]) ∧ Kd.R k84 84 w' w.heap.size (fun _ => True) v0_ r1 ∧ Kd.R k89 89 w' w.heap.size (fun _ => True) v1_ r2 ∧ Below w.heap.size w w' := by
 have hu55 := Try.underlying55
 have hu25 := Try.underlying25
 have hu84 := Try.underlying84
 have hu89 := Try.underlying89
 have HR0_0 := zm hr0_0
 have HC0_0 := zm hc0_0
 clear hr0_0 hc0_0
 have HR0_1 := zm hr0_1
 have HC0_1 := zm hc0_1
 clear hr0_1 hc0_1
 have HR1_0 := zm hr1_0
 have HC1_0 := zm hc1_0
 clear hr1_0 hc1_0
 have HR1_1 := zm hr1_1
 have HC1_1 := zm hc1_1
 clear hr1_1 hc1_1
 have HB := zm (Below.refl w.heap.size w)
 have H : (impl_stateJoin.l0 k 0 l0_0 l0_1 l1_0 l1_1 ([] : List (S84)) ([] : List (S89))) = some (r1, r2) := h
 clear h
 have H' := zm H
 clear H
 go_enter Try.func100, Try.ntmps100
 go_wp2_with (first | ((with_reducible refine gate_dst (N := 2) rfl ?_); refine zbox 2 #[.slice A0_0 l0_0.length c0_0, .slice A0_1 l0_1.length c0_1] 55 ?_; intro gb741 hg w3 hbox hb; have BK741 := zm (hbox); have GW741 := zge w hg zB; have GE741 := zge w hg zB; replace HB := zm (below_step zB hb); clear hb hbox hg) | ((with_reducible refine gate_dst (N := 3) rfl ?_); refine zbox 3 #[.slice A1_0 l1_0.length c1_0, .slice A1_1 l1_1.length c1_1] 55 ?_; intro gb742 hg w4 hbox hb; have BK742 := zm (hbox); have GW742 := zge w hg zB; have GE742 := zge w hg zB; replace HB := zm (below_step zB hb); have NB741_742 := zlt hg (zb BK741); have NB742_741 := zgt hg (zb BK741); replace BK741 := zm (blk_below (zb BK741) hb); clear hb hbox hg) | ((with_reducible refine gate_dst (N := 4) rfl ?_); refine zbox 4 #[.slice none 0 0, .slice none 0 0] 55 ?_; intro gb743 hg w5 hbox hb; have BK743 := zm (hbox); have GW743 := zge w hg zB; have GE743 := zge w hg zB; replace HB := zm (below_step zB hb); have NB741_743 := zlt hg (zb BK741); have NB743_741 := zgt hg (zb BK741); replace BK741 := zm (blk_below (zb BK741) hb); have NB742_743 := zlt hg (zb BK742); have NB743_742 := zgt hg (zb BK742); replace BK742 := zm (blk_below (zb BK742) hb); clear hb hbox hg) | ((with_reducible refine gate_dst (N := 5) rfl ?_); refine zbox 5 #[.slice none 0 0, .slice none 0 0] 55 ?_; intro gb744 hg w6 hbox hb; have BK744 := zm (hbox); have GW744 := zge w hg zB; have GE744 := zge w hg zB; replace HB := zm (below_step zB hb); have NB741_744 := zlt hg (zb BK741); have NB744_741 := zgt hg (zb BK741); replace BK741 := zm (blk_below (zb BK741) hb); have NB742_744 := zlt hg (zb BK742); have NB744_742 := zgt hg (zb BK742); replace BK742 := zm (blk_below (zb BK742) hb); have NB743_744 := zlt hg (zb BK743); have NB744_743 := zgt hg (zb BK743); replace BK743 := zm (blk_below (zb BK743) hb); clear hb hbox hg; have hnb7 := NB744_741.out; have hnc7 := NB741_744.out; have hnb8 := NB744_742.out; have hnc8 := NB742_744.out; have hnb9 := NB744_743.out; have hnc9 := NB743_744.out; have hcz10_0 : w6.cell? ⟨gb744, 0, none⟩ = some (.slice none 0 0) := (blk_cell BK744.out 0).trans rfl; have hcz10_1 : w6.cell? ⟨gb744, 1, none⟩ = some (.slice none 0 0) := (blk_cell BK744.out 1).trans rfl; have hfz10_0 := blk_frozen BK744.out 0; have hfz10_1 := blk_frozen BK744.out 1))
 go_loopg [6] k (fun kq v6 w' => ∃ (x6_1 : Int) (x745000_1 : List (S84)) (x745001_1 : List (S89)) (u745000 : Value) (u745001 : Value), v6 = .int .i64 x6_1 ∧ Aside0 (impl_stateJoin.l0 kq x6_1 l0_0 l0_1 l1_0 l1_1 x745000_1 x745001_1 = some (r1, r2)) ∧ Aside0 (kq ≤ k) ∧ Aside0 (Kd.R k84 84 w' w.heap.size (fun _ => True) u745000 x745000_1) ∧ Aside0 (Kd.R k89 89 w' w.heap.size (fun _ => True) u745001 x745001_1) ∧ Aside0 (w'.heap[gb741]? = some (.cells #[(.slice A0_0 l0_0.length c0_0), (.slice A0_1 l0_1.length c0_1)] 55 (0, 0))) ∧ Aside0 (w'.heap[gb742]? = some (.cells #[(.slice A1_0 l1_0.length c1_0), (.slice A1_1 l1_1.length c1_1)] 55 (0, 0))) ∧ Aside0 (w'.heap[gb743]? = some (.cells #[(.slice none 0 0), (.slice none 0 0)] 55 (0, 0))) ∧ Aside0 (w'.heap[gb744]? = some (.cells #[u745000, u745001] 55 (0, 0))) ∧ Aside0 (Below w.heap.size w w'))
 case atStart => exact ⟨(0), (([] : List (S84))), (([] : List (S89))), (.slice none 0 0), (.slice none 0 0), zF, H', ⟨Nat.le_refl _⟩, ⟨by first | exact Kd.R_nil _ _ _ _ _ | exact Kd.N_nil _ _ _ _ _ | exact Kd.V_nil _ _ _ _ _ | exact Kd.Q_nil _ _ _ _ _ | exact Kd.S_nil _ _ _ _ _⟩, ⟨by first | exact Kd.R_nil _ _ _ _ _ | exact Kd.N_nil _ _ _ _ _ | exact Kd.V_nil _ _ _ _ _ | exact Kd.Q_nil _ _ _ _ _ | exact Kd.S_nil _ _ _ _ _⟩, ⟨zfar (zfar (zb BK741) NB741_744) NB741_744⟩, ⟨zfar (zfar (zb BK742) NB742_744) NB742_744⟩, ⟨zfar (zfar (zb BK743) NB743_744) NB743_744⟩, ⟨zput (zput (zb BK744) 0) 1⟩, ⟨zB⟩⟩
 case round =>
  clear H'
  try clear c1
  try clear p2
  try clear c7
  try clear c8
  try clear c9
  try clear c10
  try clear hcz10_0
  try clear hcz10_1
  try clear hfz10_0
  try clear hfz10_1
  obtain ⟨x6_1, x745000_1, x745001_1, u745000, u745001, rfl, HA, HK1, HO_745000, HO_745001, BK741, BK742, BK743, BK744, HB⟩ := hrel
  cases gk with
  | zero => exact absurd HA.out (by simp [impl_stateJoin.l0])
  | succ k1 =>
   have H := HA.out
   clear HA
   simp only [impl_stateJoin.l0] at H
   by_cases c11 : x6_1 < 5
   ·rw [if_pos c11] at H
    have c11b0 : decide (x6_1 < 5) = true := decide_eq_true c11
    clear c11
    replace H := Option.bind_eq_some_iff.mp H
    obtain ⟨⟨t745, t746, t747, t748, t749, t750⟩, A120, H⟩ := H
    replace H : ((impl_EntryOf.f k1 l1_0 l1_1 x6_1).bind fun bt752 => ((impl_EntryMax.f k1 t745 t746 t747 t748 t749 bt752.1 bt752.2.1 bt752.2.2.1 bt752.2.2.2.1 bt752.2.2.2.2.1).bind fun bt759 => ((impl_FloorOf.f k1 l0_0 l0_1 x6_1).bind fun t765 => ((impl_FloorOf.f k1 l1_0 l1_1 x6_1).bind fun t766 => (if bt759.1 > (mx t765 t766) then (if x745000_1.length < 2513169434916 then ((some (x745000_1 ++ [(⟨x6_1, (⟨bt759.1, bt759.2.1, bt759.2.2.1, bt759.2.2.2.1, bt759.2.2.2.2⟩ : S25)⟩ : S84)] : List (S84))).bind fun y767 => (if (mx t765 t766) > 0 then (if x745001_1.length < 8796093022208 then (impl_stateJoin.l0 k1 (wrap64 (x6_1 + 1)) l0_0 l0_1 l1_0 l1_1 y767 (x745001_1 ++ [(⟨x6_1, mx t765 t766⟩ : S89)])) else (none)) else (impl_stateJoin.l0 k1 (wrap64 (x6_1 + 1)) l0_0 l0_1 l1_0 l1_1 y767 x745001_1))) else (none)) else (if (mx t765 t766) > 0 then (if x745001_1.length < 8796093022208 then (impl_stateJoin.l0 k1 (wrap64 (x6_1 + 1)) l0_0 l0_1 l1_0 l1_1 x745000_1 (x745001_1 ++ [(⟨x6_1, mx t765 t766⟩ : S89)])) else (none)) else (impl_stateJoin.l0 k1 (wrap64 (x6_1 + 1)) l0_0 l0_1 l1_0 l1_1 x745000_1 x745001_1))))))) = some (r1, r2) := H
    have A12 := zm A120
    clear A120
    replace H := Option.bind_eq_some_iff.mp H
    obtain ⟨⟨t752, t753, t754, t755, t756, t757⟩, A130, H⟩ := H
    replace H : ((impl_EntryMax.f k1 t745 t746 t747 t748 t749 t752 t753 t754 t755 t756).bind fun bt759 => ((impl_FloorOf.f k1 l0_0 l0_1 x6_1).bind fun t765 => ((impl_FloorOf.f k1 l1_0 l1_1 x6_1).bind fun t766 => (if bt759.1 > (mx t765 t766) then (if x745000_1.length < 2513169434916 then ((some (x745000_1 ++ [(⟨x6_1, (⟨bt759.1, bt759.2.1, bt759.2.2.1, bt759.2.2.2.1, bt759.2.2.2.2⟩ : S25)⟩ : S84)] : List (S84))).bind fun y767 => (if (mx t765 t766) > 0 then (if x745001_1.length < 8796093022208 then (impl_stateJoin.l0 k1 (wrap64 (x6_1 + 1)) l0_0 l0_1 l1_0 l1_1 y767 (x745001_1 ++ [(⟨x6_1, mx t765 t766⟩ : S89)])) else (none)) else (impl_stateJoin.l0 k1 (wrap64 (x6_1 + 1)) l0_0 l0_1 l1_0 l1_1 y767 x745001_1))) else (none)) else (if (mx t765 t766) > 0 then (if x745001_1.length < 8796093022208 then (impl_stateJoin.l0 k1 (wrap64 (x6_1 + 1)) l0_0 l0_1 l1_0 l1_1 x745000_1 (x745001_1 ++ [(⟨x6_1, mx t765 t766⟩ : S89)])) else (none)) else (impl_stateJoin.l0 k1 (wrap64 (x6_1 + 1)) l0_0 l0_1 l1_0 l1_1 x745000_1 x745001_1)))))) = some (r1, r2) := H
    have A13 := zm A130
    clear A130
    replace H := Option.bind_eq_some_iff.mp H
    obtain ⟨⟨t759, t760, t761, t762, t763⟩, A140, H⟩ := H
    replace H : ((impl_FloorOf.f k1 l0_0 l0_1 x6_1).bind fun t765 => ((impl_FloorOf.f k1 l1_0 l1_1 x6_1).bind fun t766 => (if t759 > (mx t765 t766) then (if x745000_1.length < 2513169434916 then ((some (x745000_1 ++ [(⟨x6_1, (⟨t759, t760, t761, t762, t763⟩ : S25)⟩ : S84)] : List (S84))).bind fun y767 => (if (mx t765 t766) > 0 then (if x745001_1.length < 8796093022208 then (impl_stateJoin.l0 k1 (wrap64 (x6_1 + 1)) l0_0 l0_1 l1_0 l1_1 y767 (x745001_1 ++ [(⟨x6_1, mx t765 t766⟩ : S89)])) else (none)) else (impl_stateJoin.l0 k1 (wrap64 (x6_1 + 1)) l0_0 l0_1 l1_0 l1_1 y767 x745001_1))) else (none)) else (if (mx t765 t766) > 0 then (if x745001_1.length < 8796093022208 then (impl_stateJoin.l0 k1 (wrap64 (x6_1 + 1)) l0_0 l0_1 l1_0 l1_1 x745000_1 (x745001_1 ++ [(⟨x6_1, mx t765 t766⟩ : S89)])) else (none)) else (impl_stateJoin.l0 k1 (wrap64 (x6_1 + 1)) l0_0 l0_1 l1_0 l1_1 x745000_1 x745001_1))))) = some (r1, r2) := H
    have A14 := zm A140
    clear A140
    replace H := Option.bind_eq_some_iff.mp H
    obtain ⟨t765, A150, H⟩ := H
    replace H : ((impl_FloorOf.f k1 l1_0 l1_1 x6_1).bind fun t766 => (if t759 > (mx t765 t766) then (if x745000_1.length < 2513169434916 then ((some (x745000_1 ++ [(⟨x6_1, (⟨t759, t760, t761, t762, t763⟩ : S25)⟩ : S84)] : List (S84))).bind fun y767 => (if (mx t765 t766) > 0 then (if x745001_1.length < 8796093022208 then (impl_stateJoin.l0 k1 (wrap64 (x6_1 + 1)) l0_0 l0_1 l1_0 l1_1 y767 (x745001_1 ++ [(⟨x6_1, mx t765 t766⟩ : S89)])) else (none)) else (impl_stateJoin.l0 k1 (wrap64 (x6_1 + 1)) l0_0 l0_1 l1_0 l1_1 y767 x745001_1))) else (none)) else (if (mx t765 t766) > 0 then (if x745001_1.length < 8796093022208 then (impl_stateJoin.l0 k1 (wrap64 (x6_1 + 1)) l0_0 l0_1 l1_0 l1_1 x745000_1 (x745001_1 ++ [(⟨x6_1, mx t765 t766⟩ : S89)])) else (none)) else (impl_stateJoin.l0 k1 (wrap64 (x6_1 + 1)) l0_0 l0_1 l1_0 l1_1 x745000_1 x745001_1)))) = some (r1, r2) := H
    have A15 := zm A150
    clear A150
    replace H := Option.bind_eq_some_iff.mp H
    obtain ⟨t766, A160, H⟩ := H
    replace H : (if t759 > (mx t765 t766) then (if x745000_1.length < 2513169434916 then ((some (x745000_1 ++ [(⟨x6_1, (⟨t759, t760, t761, t762, t763⟩ : S25)⟩ : S84)] : List (S84))).bind fun y767 => (if (mx t765 t766) > 0 then (if x745001_1.length < 8796093022208 then (impl_stateJoin.l0 k1 (wrap64 (x6_1 + 1)) l0_0 l0_1 l1_0 l1_1 y767 (x745001_1 ++ [(⟨x6_1, mx t765 t766⟩ : S89)])) else (none)) else (impl_stateJoin.l0 k1 (wrap64 (x6_1 + 1)) l0_0 l0_1 l1_0 l1_1 y767 x745001_1))) else (none)) else (if (mx t765 t766) > 0 then (if x745001_1.length < 8796093022208 then (impl_stateJoin.l0 k1 (wrap64 (x6_1 + 1)) l0_0 l0_1 l1_0 l1_1 x745000_1 (x745001_1 ++ [(⟨x6_1, mx t765 t766⟩ : S89)])) else (none)) else (impl_stateJoin.l0 k1 (wrap64 (x6_1 + 1)) l0_0 l0_1 l1_0 l1_1 x745000_1 x745001_1))) = some (r1, r2) := H
    have A16 := zm A160
    clear A160
    obtain ⟨ji17, hji17⟩ : ∃ j_ : Int, (mx t765 t766) = j_ := ⟨_, rfl⟩
    replace H : (if t759 > (ji17) then (if x745000_1.length < 2513169434916 then ((some (x745000_1 ++ [(⟨x6_1, (⟨t759, t760, t761, t762, t763⟩ : S25)⟩ : S84)] : List (S84))).bind fun y767 => (if (ji17) > 0 then (if x745001_1.length < 8796093022208 then (impl_stateJoin.l0 k1 (wrap64 (x6_1 + 1)) l0_0 l0_1 l1_0 l1_1 y767 (x745001_1 ++ [(⟨x6_1, ji17⟩ : S89)])) else (none)) else (impl_stateJoin.l0 k1 (wrap64 (x6_1 + 1)) l0_0 l0_1 l1_0 l1_1 y767 x745001_1))) else (none)) else (if (ji17) > 0 then (if x745001_1.length < 8796093022208 then (impl_stateJoin.l0 k1 (wrap64 (x6_1 + 1)) l0_0 l0_1 l1_0 l1_1 x745000_1 (x745001_1 ++ [(⟨x6_1, ji17⟩ : S89)])) else (none)) else (impl_stateJoin.l0 k1 (wrap64 (x6_1 + 1)) l0_0 l0_1 l1_0 l1_1 x745000_1 x745001_1))) = some (r1, r2) := by first | (rw [hji17] at H; exact H) | (simp only [hji17] at H ⊢; exact H)
    (try rw [hji17] at A12)
    (try rw [hji17] at A13)
    (try rw [hji17] at A14)
    (try rw [hji17] at A15)
    (try rw [hji17] at A16)
    have hji17_ : (if t765 < t766 then t766 else t765) = ji17 := hji17
    by_cases c18 : t759 > (ji17)
    ·rw [if_pos c18] at H
     have c18b0 : decide ((ji17) < t759) = true := decide_eq_true c18
     clear c18
     by_cases c19 : x745000_1.length < 2513169434916
     ·rw [if_pos c19] at H
      have LMc19 := zm c19
      clear c19
      obtain ⟨y767, hy767⟩ : ∃ y_ : List (S84), y_ = (x745000_1 ++ [(⟨x6_1, (⟨t759, t760, t761, t762, t763⟩ : S25)⟩ : S84)]) := ⟨_, rfl⟩
      replace H : (if (ji17) > 0 then (if x745001_1.length < 8796093022208 then (impl_stateJoin.l0 k1 (wrap64 (x6_1 + 1)) l0_0 l0_1 l1_0 l1_1 y767 (x745001_1 ++ [(⟨x6_1, ji17⟩ : S89)])) else (none)) else (impl_stateJoin.l0 k1 (wrap64 (x6_1 + 1)) l0_0 l0_1 l1_0 l1_1 y767 x745001_1)) = some (r1, r2) := by first | (rw [hy767]; with_reducible exact H) | (have H2_ := (Option.bind_some _ _).symm.trans H; rw [hy767]; with_reducible exact H2_) | (have H2_ := (Option.bind_some _ _).symm.trans H; with_reducible exact H2_) | with_reducible exact H | (rw [hy767]; exact H) | exact H
      have Ny767 := zm hy767
      clear hy767
      by_cases c20 : (ji17) > 0
      ·rw [if_pos c20] at H
       have c20b0 : decide (0 < (ji17)) = true := decide_eq_true c20
       clear c20
       by_cases c21 : x745001_1.length < 8796093022208
       ·rw [if_pos c21] at H
        have LMc21 := zm c21
        clear c21
        obtain ⟨y770, hy770⟩ : ∃ y_ : List (S89), y_ = (x745001_1 ++ [(⟨x6_1, ji17⟩ : S89)]) := ⟨_, rfl⟩
        replace H : (impl_stateJoin.l0 k1 (wrap64 (x6_1 + 1)) l0_0 l0_1 l1_0 l1_1 y767 y770) = some (r1, r2) := by first | (rw [hy770]; with_reducible exact H) | (have H2_ := (Option.bind_some _ _).symm.trans H; rw [hy770]; with_reducible exact H2_) | (have H2_ := (Option.bind_some _ _).symm.trans H; with_reducible exact H2_) | with_reducible exact H | (rw [hy770]; exact H) | exact H
        have Ny770 := zm hy770
        clear hy770
        have H' := zm H
        clear H
        have hnb22 := NB741_742.out
        have hnc22 := NB742_741.out
        have hnb23 := NB741_743.out
        have hnc23 := NB743_741.out
        have hnb24 := NB741_744.out
        have hnc24 := NB744_741.out
        have hcz25_0 : wr.cell? ⟨gb741, 0, none⟩ = some (.slice A0_0 l0_0.length c0_0) := (blk_cell BK741.out 0).trans rfl
        have hcz25_1 : wr.cell? ⟨gb741, 1, none⟩ = some (.slice A0_1 l0_1.length c0_1) := (blk_cell BK741.out 1).trans rfl
        have hfz25_0 := blk_frozen BK741.out 0
        have hfz25_1 := blk_frozen BK741.out 1
        try go_wp2_with (first | ((with_reducible refine gate_callee (f := 38) rfl ?_); refine zg (some 21) #[.agg #[.slice A0_0 l0_0.length c0_0, .slice A0_1 l0_1.length c0_1], .int .i64 x6_1] Try.func38 ?_; (with_reducible refine (impl_EntryOf.calls k1 _ _ l0_0 _ _ l0_1 x6_1 t745 t746 t747 t748 t749 t750 _ (zk (Kd.C_below HR0_0.out HB.out)) HC0_0.out (zk (Kd.C_below HR0_1.out HB.out)) HC0_1.out A12.out).mono ?_); rintro e w26 ⟨rfl, hb⟩; refine ⟨_, rfl, ?_⟩; replace HO_745000 := zm (Kd.R_below (zr HO_745000) hb); replace HO_745001 := zm (Kd.R_below (zr HO_745001) hb); replace BK741 := zm (blk_below (zb BK741) hb); replace BK742 := zm (blk_below (zb BK742) hb); replace BK743 := zm (blk_below (zb BK743) hb); replace BK744 := zm (blk_below (zb BK744) hb); replace HB := zm (below_step zB hb); clear hb) | ((with_reducible refine gate_dst (N := 7) rfl ?_); refine zbox 7 #[.int .i64 0, .int .i64 0, .int .i64 0, .int .i64 0, .string (⟨#[]⟩ : ByteArray)] 25 ?_; intro gb751 hg w27 hbox hb; replace HO_745000 := zm (Kd.R_below (zr HO_745000) hb); replace HO_745001 := zm (Kd.R_below (zr HO_745001) hb); have BK751 := zm (hbox); have GW751 := zge w hg zB; have GE751 := zge w hg zB; replace HB := zm (below_step zB hb); have NB741_751 := zlt hg (zb BK741); have NB751_741 := zgt hg (zb BK741); replace BK741 := zm (blk_below (zb BK741) hb); have NB742_751 := zlt hg (zb BK742); have NB751_742 := zgt hg (zb BK742); replace BK742 := zm (blk_below (zb BK742) hb); have NB743_751 := zlt hg (zb BK743); have NB751_743 := zgt hg (zb BK743); replace BK743 := zm (blk_below (zb BK743) hb); have NB744_751 := zlt hg (zb BK744); have NB751_744 := zgt hg (zb BK744); replace BK744 := zm (blk_below (zb BK744) hb); clear hb hbox hg; have hnb28 := NB751_741.out; have hnc28 := NB741_751.out; have hnb29 := NB751_742.out; have hnc29 := NB742_751.out; have hnb30 := NB751_743.out; have hnc30 := NB743_751.out; have hnb31 := NB751_744.out; have hnc31 := NB744_751.out; have hcz32_0 : w27.cell? ⟨gb751, 0, none⟩ = some (.int .i64 0) := (blk_cell BK751.out 0).trans rfl; have hcz32_1 : w27.cell? ⟨gb751, 1, none⟩ = some (.int .i64 0) := (blk_cell BK751.out 1).trans rfl; have hcz32_2 : w27.cell? ⟨gb751, 2, none⟩ = some (.int .i64 0) := (blk_cell BK751.out 2).trans rfl; have hcz32_3 : w27.cell? ⟨gb751, 3, none⟩ = some (.int .i64 0) := (blk_cell BK751.out 3).trans rfl; have hcz32_4 : w27.cell? ⟨gb751, 4, none⟩ = some (.string (⟨#[]⟩ : ByteArray)) := (blk_cell BK751.out 4).trans rfl; have hfz32_0 := blk_frozen BK751.out 0; have hfz32_1 := blk_frozen BK751.out 1; have hfz32_2 := blk_frozen BK751.out 2; have hfz32_3 := blk_frozen BK751.out 3; have hfz32_4 := blk_frozen BK751.out 4; have hnb33 := NB742_743.out; have hnc33 := NB743_742.out; have hnb34 := NB742_744.out; have hnc34 := NB744_742.out; have hcz35_0 : w27.cell? ⟨gb742, 0, none⟩ = some (.slice A1_0 l1_0.length c1_0) := (blk_cell BK742.out 0).trans rfl; have hcz35_1 : w27.cell? ⟨gb742, 1, none⟩ = some (.slice A1_1 l1_1.length c1_1) := (blk_cell BK742.out 1).trans rfl; have hfz35_0 := blk_frozen BK742.out 0; have hfz35_1 := blk_frozen BK742.out 1) | ((with_reducible refine gate_callee (f := 38) rfl ?_); refine zg (some 27) #[.agg #[.slice A1_0 l1_0.length c1_0, .slice A1_1 l1_1.length c1_1], .int .i64 x6_1] Try.func38 ?_; (with_reducible refine (impl_EntryOf.calls k1 _ _ l1_0 _ _ l1_1 x6_1 t752 t753 t754 t755 t756 t757 _ ?side1 HC1_0.out ?side3 HC1_1.out A13.out).mono ?_); (case side1 => exact Kd.C_below HR1_0.out zB); (case side3 => exact Kd.C_below HR1_1.out zB); rintro e w36 ⟨rfl, hb⟩; refine ⟨_, rfl, ?_⟩; replace HO_745000 := zm (Kd.R_below (zrs <| (Kd.R_mono (zfr (zfr (zfr (zfr (zfr (Kd.R_types HO_745000.out BK751.out (by decide))))))) (fun _ h_ => h_.1))) hb); replace HO_745001 := zm (Kd.R_below (zrs <| (Kd.R_mono (zfr (zfr (zfr (zfr (zfr (Kd.R_types HO_745001.out BK751.out (by decide))))))) (fun _ h_ => h_.1))) hb); replace BK741 := zm (blk_below (g := gb741) (o := .cells #[.slice A0_0 l0_0.length c0_0, .slice A0_1 l0_1.length c0_1] 55 (0, 0)) (zfar (zfar (zfar (zfar (zfar (zb BK741) NB741_751) NB741_751) NB741_751) NB741_751) NB741_751) hb); replace BK742 := zm (blk_below (g := gb742) (o := .cells #[.slice A1_0 l1_0.length c1_0, .slice A1_1 l1_1.length c1_1] 55 (0, 0)) (zfar (zfar (zfar (zfar (zfar (zb BK742) NB742_751) NB742_751) NB742_751) NB742_751) NB742_751) hb); replace BK743 := zm (blk_below (g := gb743) (o := .cells #[.slice none 0 0, .slice none 0 0] 55 (0, 0)) (zfar (zfar (zfar (zfar (zfar (zb BK743) NB743_751) NB743_751) NB743_751) NB743_751) NB743_751) hb); replace BK744 := zm (blk_below (g := gb744) (o := .cells #[u745000, u745001] 55 (0, 0)) (zfar (zfar (zfar (zfar (zfar (zb BK744) NB744_751) NB744_751) NB744_751) NB744_751) NB744_751) hb); replace BK751 := zm (blk_below (g := gb751) (o := .cells #[.int .i64 t745, .int .i64 t746, .int .i64 t747, .int .i64 t748, .string t749] 25 (0, 0)) (zput (zput (zput (zput (zput (zb BK751) 0) 1) 2) 3) 4) hb); replace HB := zm (below_step zB hb); clear hb) | ((with_reducible refine gate_dst (N := 9) rfl ?_); refine zbox 9 #[.int .i64 0, .int .i64 0, .int .i64 0, .int .i64 0, .string (⟨#[]⟩ : ByteArray)] 25 ?_; intro gb758 hg w37 hbox hb; replace HO_745000 := zm (Kd.R_below (zr HO_745000) hb); replace HO_745001 := zm (Kd.R_below (zr HO_745001) hb); have BK758 := zm (hbox); have GW758 := zge w hg zB; have GE758 := zge w hg zB; replace HB := zm (below_step zB hb); have NB741_758 := zlt hg (zb BK741); have NB758_741 := zgt hg (zb BK741); replace BK741 := zm (blk_below (zb BK741) hb); have NB742_758 := zlt hg (zb BK742); have NB758_742 := zgt hg (zb BK742); replace BK742 := zm (blk_below (zb BK742) hb); have NB743_758 := zlt hg (zb BK743); have NB758_743 := zgt hg (zb BK743); replace BK743 := zm (blk_below (zb BK743) hb); have NB744_758 := zlt hg (zb BK744); have NB758_744 := zgt hg (zb BK744); replace BK744 := zm (blk_below (zb BK744) hb); have NB751_758 := zlt hg (zb BK751); have NB758_751 := zgt hg (zb BK751); replace BK751 := zm (blk_below (zb BK751) hb); clear hb hbox hg; have hnb38 := NB758_741.out; have hnc38 := NB741_758.out; have hnb39 := NB758_742.out; have hnc39 := NB742_758.out; have hnb40 := NB758_743.out; have hnc40 := NB743_758.out; have hnb41 := NB758_744.out; have hnc41 := NB744_758.out; have hnb42 := NB758_751.out; have hnc42 := NB751_758.out; have hcz43_0 : w37.cell? ⟨gb758, 0, none⟩ = some (.int .i64 0) := (blk_cell BK758.out 0).trans rfl; have hcz43_1 : w37.cell? ⟨gb758, 1, none⟩ = some (.int .i64 0) := (blk_cell BK758.out 1).trans rfl; have hcz43_2 : w37.cell? ⟨gb758, 2, none⟩ = some (.int .i64 0) := (blk_cell BK758.out 2).trans rfl; have hcz43_3 : w37.cell? ⟨gb758, 3, none⟩ = some (.int .i64 0) := (blk_cell BK758.out 3).trans rfl; have hcz43_4 : w37.cell? ⟨gb758, 4, none⟩ = some (.string (⟨#[]⟩ : ByteArray)) := (blk_cell BK758.out 4).trans rfl; have hfz43_0 := blk_frozen BK758.out 0; have hfz43_1 := blk_frozen BK758.out 1; have hfz43_2 := blk_frozen BK758.out 2; have hfz43_3 := blk_frozen BK758.out 3; have hfz43_4 := blk_frozen BK758.out 4; have hcz44_0 : w37.cell? ⟨gb751, 0, none⟩ = some (.int .i64 t745) := (blk_cell BK751.out 0).trans rfl; have hcz44_1 : w37.cell? ⟨gb751, 1, none⟩ = some (.int .i64 t746) := (blk_cell BK751.out 1).trans rfl; have hcz44_2 : w37.cell? ⟨gb751, 2, none⟩ = some (.int .i64 t747) := (blk_cell BK751.out 2).trans rfl; have hcz44_3 : w37.cell? ⟨gb751, 3, none⟩ = some (.int .i64 t748) := (blk_cell BK751.out 3).trans rfl; have hcz44_4 : w37.cell? ⟨gb751, 4, none⟩ = some (.string t749) := (blk_cell BK751.out 4).trans rfl; have hfz44_0 := blk_frozen BK751.out 0; have hfz44_1 := blk_frozen BK751.out 1; have hfz44_2 := blk_frozen BK751.out 2; have hfz44_3 := blk_frozen BK751.out 3; have hfz44_4 := blk_frozen BK751.out 4) | ((with_reducible refine gate_callee (f := 18) rfl ?_); refine zg (some 32) #[.agg #[.int .i64 t745, .int .i64 t746, .int .i64 t747, .int .i64 t748, .string t749], .agg #[.int .i64 t752, .int .i64 t753, .int .i64 t754, .int .i64 t755, .string t756]] Try.func18 ?_; (with_reducible refine (impl_EntryMax.calls k1 t745 t746 t747 t748 t749 t752 t753 t754 t755 t756 t759 t760 t761 t762 t763 _ A14.out).mono ?_); rintro e w45 ⟨rfl, hb⟩; refine ⟨_, rfl, ?_⟩; replace HO_745000 := zm (Kd.R_below (zrs <| (Kd.R_mono (zfr (zfr (zfr (zfr (zfr (Kd.R_types HO_745000.out BK758.out (by decide))))))) (fun _ h_ => h_.1))) hb); replace HO_745001 := zm (Kd.R_below (zrs <| (Kd.R_mono (zfr (zfr (zfr (zfr (zfr (Kd.R_types HO_745001.out BK758.out (by decide))))))) (fun _ h_ => h_.1))) hb); replace BK741 := zm (blk_below (g := gb741) (o := .cells #[.slice A0_0 l0_0.length c0_0, .slice A0_1 l0_1.length c0_1] 55 (0, 0)) (zfar (zfar (zfar (zfar (zfar (zb BK741) NB741_758) NB741_758) NB741_758) NB741_758) NB741_758) hb); replace BK742 := zm (blk_below (g := gb742) (o := .cells #[.slice A1_0 l1_0.length c1_0, .slice A1_1 l1_1.length c1_1] 55 (0, 0)) (zfar (zfar (zfar (zfar (zfar (zb BK742) NB742_758) NB742_758) NB742_758) NB742_758) NB742_758) hb); replace BK743 := zm (blk_below (g := gb743) (o := .cells #[.slice none 0 0, .slice none 0 0] 55 (0, 0)) (zfar (zfar (zfar (zfar (zfar (zb BK743) NB743_758) NB743_758) NB743_758) NB743_758) NB743_758) hb); replace BK744 := zm (blk_below (g := gb744) (o := .cells #[u745000, u745001] 55 (0, 0)) (zfar (zfar (zfar (zfar (zfar (zb BK744) NB744_758) NB744_758) NB744_758) NB744_758) NB744_758) hb); replace BK751 := zm (blk_below (g := gb751) (o := .cells #[.int .i64 t745, .int .i64 t746, .int .i64 t747, .int .i64 t748, .string t749] 25 (0, 0)) (zfar (zfar (zfar (zfar (zfar (zb BK751) NB751_758) NB751_758) NB751_758) NB751_758) NB751_758) hb); replace BK758 := zm (blk_below (g := gb758) (o := .cells #[.int .i64 t752, .int .i64 t753, .int .i64 t754, .int .i64 t755, .string t756] 25 (0, 0)) (zput (zput (zput (zput (zput (zb BK758) 0) 1) 2) 3) 4) hb); replace HB := zm (below_step zB hb); clear hb) | ((with_reducible refine gate_dst (N := 11) rfl ?_); refine zbox 11 #[.int .i64 0, .int .i64 0, .int .i64 0, .int .i64 0, .string (⟨#[]⟩ : ByteArray)] 25 ?_; intro gb764 hg w46 hbox hb; replace HO_745000 := zm (Kd.R_below (zr HO_745000) hb); replace HO_745001 := zm (Kd.R_below (zr HO_745001) hb); have BK764 := zm (hbox); have GW764 := zge w hg zB; have GE764 := zge w hg zB; replace HB := zm (below_step zB hb); have NB741_764 := zlt hg (zb BK741); have NB764_741 := zgt hg (zb BK741); replace BK741 := zm (blk_below (zb BK741) hb); have NB742_764 := zlt hg (zb BK742); have NB764_742 := zgt hg (zb BK742); replace BK742 := zm (blk_below (zb BK742) hb); have NB743_764 := zlt hg (zb BK743); have NB764_743 := zgt hg (zb BK743); replace BK743 := zm (blk_below (zb BK743) hb); have NB744_764 := zlt hg (zb BK744); have NB764_744 := zgt hg (zb BK744); replace BK744 := zm (blk_below (zb BK744) hb); have NB751_764 := zlt hg (zb BK751); have NB764_751 := zgt hg (zb BK751); replace BK751 := zm (blk_below (zb BK751) hb); have NB758_764 := zlt hg (zb BK758); have NB764_758 := zgt hg (zb BK758); replace BK758 := zm (blk_below (zb BK758) hb); clear hb hbox hg; have hnb47 := NB764_741.out; have hnc47 := NB741_764.out; have hnb48 := NB764_742.out; have hnc48 := NB742_764.out; have hnb49 := NB764_743.out; have hnc49 := NB743_764.out; have hnb50 := NB764_744.out; have hnc50 := NB744_764.out; have hnb51 := NB764_751.out; have hnc51 := NB751_764.out; have hnb52 := NB764_758.out; have hnc52 := NB758_764.out; have hcz53_0 : w46.cell? ⟨gb764, 0, none⟩ = some (.int .i64 0) := (blk_cell BK764.out 0).trans rfl; have hcz53_1 : w46.cell? ⟨gb764, 1, none⟩ = some (.int .i64 0) := (blk_cell BK764.out 1).trans rfl; have hcz53_2 : w46.cell? ⟨gb764, 2, none⟩ = some (.int .i64 0) := (blk_cell BK764.out 2).trans rfl; have hcz53_3 : w46.cell? ⟨gb764, 3, none⟩ = some (.int .i64 0) := (blk_cell BK764.out 3).trans rfl; have hcz53_4 : w46.cell? ⟨gb764, 4, none⟩ = some (.string (⟨#[]⟩ : ByteArray)) := (blk_cell BK764.out 4).trans rfl; have hfz53_0 := blk_frozen BK764.out 0; have hfz53_1 := blk_frozen BK764.out 1; have hfz53_2 := blk_frozen BK764.out 2; have hfz53_3 := blk_frozen BK764.out 3; have hfz53_4 := blk_frozen BK764.out 4))
        obtain ⟨w54, hW_⟩ : ∃ q, q = (((((w46.setCell ⟨gb764, 0, none⟩ (.int .i64 t759)).setCell ⟨gb764, 1, none⟩ (.int .i64 t760)).setCell ⟨gb764, 2, none⟩ (.int .i64 t761)).setCell ⟨gb764, 3, none⟩ (.int .i64 t762)).setCell ⟨gb764, 4, none⟩ (.string t763)) := ⟨_, rfl⟩
        have n0_ : Aside0 (Kd.R k84 84 w54 w.heap.size (fun _ => True) u745000 x745000_1) := ⟨by rw [hW_]; exact zrs <| Kd.R_mono (zfr (zfr (zfr (zfr (zfr (Kd.R_types HO_745000.out BK764.out (by decide))))))) (fun _ hk => trivial)⟩
        have n1_ : Aside0 (Kd.R k89 89 w54 w.heap.size (fun _ => True) u745001 x745001_1) := ⟨by rw [hW_]; exact zrs <| Kd.R_mono (zfr (zfr (zfr (zfr (zfr (Kd.R_types HO_745001.out BK764.out (by decide))))))) (fun _ hk => trivial)⟩
        have n2_ : Aside0 (w54.heap[gb741]? = some (.cells #[.slice A0_0 l0_0.length c0_0, .slice A0_1 l0_1.length c0_1] 55 (0, 0))) := ⟨by rw [hW_]; exact zfar (zfar (zfar (zfar (zfar (zb BK741) NB741_764) NB741_764) NB741_764) NB741_764) NB741_764⟩
        have n3_ : Aside0 (w54.heap[gb742]? = some (.cells #[.slice A1_0 l1_0.length c1_0, .slice A1_1 l1_1.length c1_1] 55 (0, 0))) := ⟨by rw [hW_]; exact zfar (zfar (zfar (zfar (zfar (zb BK742) NB742_764) NB742_764) NB742_764) NB742_764) NB742_764⟩
        have n4_ : Aside0 (w54.heap[gb743]? = some (.cells #[.slice none 0 0, .slice none 0 0] 55 (0, 0))) := ⟨by rw [hW_]; exact zfar (zfar (zfar (zfar (zfar (zb BK743) NB743_764) NB743_764) NB743_764) NB743_764) NB743_764⟩
        have n5_ : Aside0 (w54.heap[gb744]? = some (.cells #[u745000, u745001] 55 (0, 0))) := ⟨by rw [hW_]; exact zfar (zfar (zfar (zfar (zfar (zb BK744) NB744_764) NB744_764) NB744_764) NB744_764) NB744_764⟩
        have n6_ : Aside0 (w54.heap[gb751]? = some (.cells #[.int .i64 t745, .int .i64 t746, .int .i64 t747, .int .i64 t748, .string t749] 25 (0, 0))) := ⟨by rw [hW_]; exact zfar (zfar (zfar (zfar (zfar (zb BK751) NB751_764) NB751_764) NB751_764) NB751_764) NB751_764⟩
        have n7_ : Aside0 (w54.heap[gb758]? = some (.cells #[.int .i64 t752, .int .i64 t753, .int .i64 t754, .int .i64 t755, .string t756] 25 (0, 0))) := ⟨by rw [hW_]; exact zfar (zfar (zfar (zfar (zfar (zb BK758) NB758_764) NB758_764) NB758_764) NB758_764) NB758_764⟩
        have n8_ : Aside0 (w54.heap[gb764]? = some (.cells #[.int .i64 t759, .int .i64 t760, .int .i64 t761, .int .i64 t762, .string t763] 25 (0, 0))) := ⟨by rw [hW_]; exact zput (zput (zput (zput (zput (zb BK764) 0) 1) 2) 3) 4⟩
        have n9_ : Aside0 (Below w.heap.size w w54) := ⟨by rw [hW_]; exact zB⟩
        rw [← hW_]
        clear hW_
        (try clear HO_745000)
        (try clear HO_745001)
        (try clear BK741)
        (try clear BK742)
        (try clear BK743)
        (try clear BK744)
        (try clear BK751)
        (try clear BK758)
        (try clear BK764)
        (try clear HB)
        have HO_745000 := n0_
        have HO_745001 := n1_
        have BK741 := n2_
        have BK742 := n3_
        have BK743 := n4_
        have BK744 := n5_
        have BK751 := n6_
        have BK758 := n7_
        have BK764 := n8_
        have HB := n9_
        clear n0_ n1_ n2_ n3_ n4_ n5_ n6_ n7_ n8_ n9_
        replace HO_745000 := zm (Kd.R_drew HO_745000.out)
        replace HO_745001 := zm (Kd.R_drew HO_745001.out)
        replace BK741 := zm (blk_drew BK741.out)
        replace BK742 := zm (blk_drew BK742.out)
        replace BK743 := zm (blk_drew BK743.out)
        replace BK744 := zm (blk_drew BK744.out)
        replace BK751 := zm (blk_drew BK751.out)
        replace BK758 := zm (blk_drew BK758.out)
        replace BK764 := zm (blk_drew BK764.out)
        replace HB := zm (below_drew1 HB.out)
        refine start_ (n := 8) (S := fun w' => w'.cell? ⟨gb741, 0, none⟩ = some (.slice A0_0 l0_0.length c0_0) ∧ w'.cell? ⟨gb741, 1, none⟩ = some (.slice A0_1 l0_1.length c0_1) ∧ w'.cell? ⟨gb742, 0, none⟩ = some (.slice A1_0 l1_0.length c1_0) ∧ w'.cell? ⟨gb742, 1, none⟩ = some (.slice A1_1 l1_1.length c1_1)) (ds := []) (zl 8 0) (by kernel_rfl) rfl rfl ⟨(blk_cell BK741.out 0).trans rfl, (blk_cell BK741.out 1).trans rfl, (blk_cell BK742.out 0).trans rfl, (blk_cell BK742.out 1).trans rfl⟩ (fun hHeld => ?_); refine with_tabW impl_stateJoin.tab8 impl_stateJoin.bits8 (fun HT_ HW_ => ?_)
        generalize w54.drew = w55 at HO_745000 HO_745001 BK741 BK742 BK743 BK744 BK751 BK758 BK764 HB hHeld ⊢
        refine zp 1 (some 34) (zl 8 2) ?_
        refine zp 4 (some 37) (zl 8 18) ?_
        refine zt 0 (some 33) (zl 8 19) ?_
        refine zt 3 (some 36) (zl 8 27) ?_
        refine zo 2 (some 35) (zl 8 31) (fun K hK => ?_)
        refine zgo #[.agg #[.slice A0_0 l0_0.length c0_0, .slice A0_1 l0_1.length c0_1], .int .i64 x6_1] Try.func41 ?_
        with_reducible refine (impl_FloorOf.calls k1 _ _ l0_0 _ _ l0_1 x6_1 t765 _ (zk (Kd.C_below HR0_0.out HB.out)) HC0_0.out (zk (Kd.C_below HR0_1.out HB.out)) HC0_1.out A15.out).mono ?_
        rintro e w56 ⟨rfl, hb⟩
        refine ⟨_, rfl, ?_⟩
        replace HO_745000 := zm (Kd.R_below (zr HO_745000) hb)
        replace HO_745001 := zm (Kd.R_below (zr HO_745001) hb)
        replace BK741 := zm (blk_below (zb BK741) hb)
        replace BK742 := zm (blk_below (zb BK742) hb)
        replace BK743 := zm (blk_below (zb BK743) hb)
        replace BK744 := zm (blk_below (zb BK744) hb)
        replace BK751 := zm (blk_below (zb BK751) hb)
        replace BK758 := zm (blk_below (zb BK758) hb)
        replace BK764 := zm (blk_below (zb BK764) hb)
        replace HB := zm (below_step zB hb)
        (try clear hb)
        (try clear hb2)
        (try clear hk)
        (try clear hi)
        refine hK.out _ _ ⟨(blk_cell BK741.out 0).trans rfl, (blk_cell BK741.out 1).trans rfl, (blk_cell BK742.out 0).trans rfl, (blk_cell BK742.out 1).trans rfl⟩ (fun hHeld => ?_)
        clear hK K
        refine zn ?_
        refine zo 5 (some 38) (zl 8 63) (fun K hK => ?_)
        refine zgo #[.agg #[.slice A1_0 l1_0.length c1_0, .slice A1_1 l1_1.length c1_1], .int .i64 x6_1] Try.func41 ?_
        with_reducible refine (impl_FloorOf.calls k1 _ _ l1_0 _ _ l1_1 x6_1 t766 _ (zk (Kd.C_below HR1_0.out HB.out)) HC1_0.out (zk (Kd.C_below HR1_1.out HB.out)) HC1_1.out A16.out).mono ?_
        rintro e w57 ⟨rfl, hb⟩
        refine ⟨_, rfl, ?_⟩
        replace HO_745000 := zm (Kd.R_below (zr HO_745000) hb)
        replace HO_745001 := zm (Kd.R_below (zr HO_745001) hb)
        replace BK741 := zm (blk_below (zb BK741) hb)
        replace BK742 := zm (blk_below (zb BK742) hb)
        replace BK743 := zm (blk_below (zb BK743) hb)
        replace BK744 := zm (blk_below (zb BK744) hb)
        replace BK751 := zm (blk_below (zb BK751) hb)
        replace BK758 := zm (blk_below (zb BK758) hb)
        replace BK764 := zm (blk_below (zb BK764) hb)
        replace HB := zm (below_step zB hb)
        (try clear hb)
        (try clear hb2)
        (try clear hk)
        (try clear hi)
        refine hK.out _ _ ⟨(blk_cell BK741.out 0).trans rfl, (blk_cell BK741.out 1).trans rfl, (blk_cell BK742.out 0).trans rfl, (blk_cell BK742.out 1).trans rfl⟩ (fun hHeld => ?_)
        clear hK K
        refine zn ?_
        refine zp 6 (some 39) (zl 8 127) ?_
        refine zp 7 (some 12) (zl 8 255) ?_
        refine done_ (done_of HT_.out (by kernel_rfl)) ?_
        have hcz58_0 : w57.cell? ⟨gb764, 0, none⟩ = some (.int .i64 t759) := (blk_cell BK764.out 0).trans rfl
        have hcz58_1 : w57.cell? ⟨gb764, 1, none⟩ = some (.int .i64 t760) := (blk_cell BK764.out 1).trans rfl
        have hcz58_2 : w57.cell? ⟨gb764, 2, none⟩ = some (.int .i64 t761) := (blk_cell BK764.out 2).trans rfl
        have hcz58_3 : w57.cell? ⟨gb764, 3, none⟩ = some (.int .i64 t762) := (blk_cell BK764.out 3).trans rfl
        have hcz58_4 : w57.cell? ⟨gb764, 4, none⟩ = some (.string t763) := (blk_cell BK764.out 4).trans rfl
        have hfz58_0 := blk_frozen BK764.out 0
        have hfz58_1 := blk_frozen BK764.out 1
        have hfz58_2 := blk_frozen BK764.out 2
        have hfz58_3 := blk_frozen BK764.out 3
        have hfz58_4 := blk_frozen BK764.out 4
        have hnb59 := NB744_743.out
        have hnc59 := NB743_744.out
        have hcz60_0 : w57.cell? ⟨gb744, 0, none⟩ = some (u745000) := (blk_cell BK744.out 0).trans rfl
        have hcz60_1 : w57.cell? ⟨gb744, 1, none⟩ = some (u745001) := (blk_cell BK744.out 1).trans rfl
        have hfz60_0 := blk_frozen BK744.out 0
        have hfz60_1 := blk_frozen BK744.out 1
        try go_wp2_with (first | ((with_reducible refine gate_builtin (b := .append) (xs := #[.tmp 45, .tmp 49]) rfl ?_); at_builtin; refine Kd.R_append k84 (w0 := w) w.heap.size rfl (.tmp 45) (.tmp 49) 52 84 (.agg #[(.int .i64 0), (.int .i64 0), (.int .i64 0), (.int .i64 0), (.int .i64 0), (.string ⟨#[]⟩)]) 56 rfl Try.underlying52 info84 rfl (by decide) (by omega) u745000 x745000_1 (⟨x6_1, (⟨t759, t760, t761, t762, t763⟩ : S25)⟩ : S84) [.int .i64 x6_1, .int .i64 t759, .int .i64 t760, .int .i64 t761, .int .i64 t762, .string t763] (fun _ => True) (fun _ => False) rfl rfl ?aP (fun _ hk => hk.elim) ?aF ?aO ?aB ?aS ?aL ?_; (case aP => exact k84_mkM _ _ _ (⟨x6_1, (⟨t759, t760, t761, t762, t763⟩ : S25)⟩ : S84)); (case aB => exact zB); (case aF => exact (fun _ _ => trivial)); (case aO => exact (zr HO_745000)); (case aS => exact (below_size zB)); (case aL => have := LMc19.out; omega); intro v768 w61 ho hb hg hat; rw [← Ny767.out] at ho; replace HO_745001 := zm (Kd.R_over' (zr HO_745001) (Kd.R_typed (zr HO_745000)) (by decide) hg); replace BK741 := zm (blk_grown (g := gb741) (o := .cells #[.slice A0_0 l0_0.length c0_0, .slice A0_1 l0_1.length c0_1] 55 (0, 0)) (zb BK741) hg (Kd.R_ne HO_745000.out BK741.out (by decide))); replace BK742 := zm (blk_grown (g := gb742) (o := .cells #[.slice A1_0 l1_0.length c1_0, .slice A1_1 l1_1.length c1_1] 55 (0, 0)) (zb BK742) hg (Kd.R_ne HO_745000.out BK742.out (by decide))); replace BK743 := zm (blk_grown (g := gb743) (o := .cells #[.slice none 0 0, .slice none 0 0] 55 (0, 0)) (zb BK743) hg (Kd.R_ne HO_745000.out BK743.out (by decide))); replace BK744 := zm (blk_grown (g := gb744) (o := .cells #[u745000, u745001] 55 (0, 0)) (zb BK744) hg (Kd.R_ne HO_745000.out BK744.out (by decide))); replace BK751 := zm (blk_grown (g := gb751) (o := .cells #[.int .i64 t745, .int .i64 t746, .int .i64 t747, .int .i64 t748, .string t749] 25 (0, 0)) (zb BK751) hg (Kd.R_ne HO_745000.out BK751.out (by decide))); replace BK758 := zm (blk_grown (g := gb758) (o := .cells #[.int .i64 t752, .int .i64 t753, .int .i64 t754, .int .i64 t755, .string t756] 25 (0, 0)) (zb BK758) hg (Kd.R_ne HO_745000.out BK758.out (by decide))); replace BK764 := zm (blk_grown (g := gb764) (o := .cells #[.int .i64 t759, .int .i64 t760, .int .i64 t761, .int .i64 t762, .string t763] 25 (0, 0)) (zb BK764) hg (Kd.R_ne HO_745000.out BK764.out (by decide))); replace HB := zm (hb); have HO769 := zm (ho); clear HO_745000; clear ho hb hg hat; obtain ⟨Ao62, co62, eo62⟩ := Kd.R_slice HO769.out; subst eo62; have hcz63_0 : w61.cell? ⟨gb744, 0, none⟩ = some (u745000) := (blk_cell BK744.out 0).trans rfl; have hcz63_1 : w61.cell? ⟨gb744, 1, none⟩ = some (u745001) := (blk_cell BK744.out 1).trans rfl; have hfz63_0 := blk_frozen BK744.out 0; have hfz63_1 := blk_frozen BK744.out 1) | ((with_reducible refine gate_builtin (b := .append) (xs := #[.tmp 55, .tmp 59]) rfl ?_); at_builtin; refine Kd.R_append k89 (w0 := w) w.heap.size rfl (.tmp 55) (.tmp 59) 53 89 (.agg #[(.int .i64 0), (.int .i64 0)]) 16 rfl Try.underlying53 info89 rfl (by decide) (by omega) u745001 x745001_1 (⟨x6_1, ji17⟩ : S89) [.int .i64 x6_1, .int .i64 ji17] (fun _ => True) (fun _ => False) rfl (by first | (go_simp; done) | (go_simp; rfl)) ?aP (fun _ hk => hk.elim) ?aF ?aO ?aB ?aS ?aL ?_; (case aP => exact k89_mkM _ _ _ (⟨x6_1, ji17⟩ : S89)); (case aB => exact zB); (case aF => exact (fun _ _ => trivial)); (case aO => exact (zrs <| Kd.R_mono (zfr (Kd.R_types HO_745001.out BK744.out (by decide))) (fun _ hk => trivial))); (case aS => exact (below_size zB)); (case aL => have := LMc21.out; omega); intro v771 w64 ho hb hg hat; rw [← Ny770.out] at ho; replace BK741 := zm (blk_grown (g := gb741) (o := .cells #[.slice A0_0 l0_0.length c0_0, .slice A0_1 l0_1.length c0_1] 55 (0, 0)) (zfar (zb BK741) NB741_744) hg (Kd.R_ne HO_745001.out BK741.out (by decide))); replace BK742 := zm (blk_grown (g := gb742) (o := .cells #[.slice A1_0 l1_0.length c1_0, .slice A1_1 l1_1.length c1_1] 55 (0, 0)) (zfar (zb BK742) NB742_744) hg (Kd.R_ne HO_745001.out BK742.out (by decide))); replace BK743 := zm (blk_grown (g := gb743) (o := .cells #[.slice none 0 0, .slice none 0 0] 55 (0, 0)) (zfar (zb BK743) NB743_744) hg (Kd.R_ne HO_745001.out BK743.out (by decide))); replace BK751 := zm (blk_grown (g := gb751) (o := .cells #[.int .i64 t745, .int .i64 t746, .int .i64 t747, .int .i64 t748, .string t749] 25 (0, 0)) (zfar (zb BK751) NB751_744) hg (Kd.R_ne HO_745001.out BK751.out (by decide))); replace BK758 := zm (blk_grown (g := gb758) (o := .cells #[.int .i64 t752, .int .i64 t753, .int .i64 t754, .int .i64 t755, .string t756] 25 (0, 0)) (zfar (zb BK758) NB758_744) hg (Kd.R_ne HO_745001.out BK758.out (by decide))); replace BK764 := zm (blk_grown (g := gb764) (o := .cells #[.int .i64 t759, .int .i64 t760, .int .i64 t761, .int .i64 t762, .string t763] 25 (0, 0)) (zfar (zb BK764) NB764_744) hg (Kd.R_ne HO_745001.out BK764.out (by decide))); replace HO769 := zm (Kd.R_over' (zrs <| (Kd.R_mono (zfr (Kd.R_types HO769.out BK744.out (by decide))) (fun _ h_ => h_.1))) (Kd.R_typed (zrs <| (Kd.R_mono (zfr (Kd.R_types HO_745001.out BK744.out (by decide))) (fun _ h_ => h_.1)))) (by decide) hg); replace BK744 := zm (blk_grown (g := gb744) (o := .cells #[.slice Ao62 y767.length co62, u745001] 55 (0, 0)) (zput (zb BK744) 0) hg (Kd.R_ne HO_745001.out BK744.out (by decide))); replace HB := zm (hb); have HO772 := zm (ho); clear HO_745001; clear ho hb hg hat; obtain ⟨Ao65, co65, eo65⟩ := Kd.R_slice HO772.out; subst eo65; have hcz66_0 : w64.cell? ⟨gb744, 0, none⟩ = some (.slice Ao62 y767.length co62) := (blk_cell BK744.out 0).trans rfl; have hcz66_1 : w64.cell? ⟨gb744, 1, none⟩ = some (u745001) := (blk_cell BK744.out 1).trans rfl; have hfz66_0 := blk_frozen BK744.out 0; have hfz66_1 := blk_frozen BK744.out 1))
        go_roundg k1
        case measure => have := HK1.out; omega
        case rel => exact ⟨(wrap64 (x6_1 + 1)), (y767), (y770), (.slice Ao62 y767.length co62), (.slice Ao65 y770.length co65), zF, H', ⟨by have := HK1.out; omega⟩, ⟨zrs <| Kd.R_mono (zfr (Kd.R_types HO769.out BK744.out (by decide))) (fun _ hk => trivial)⟩, ⟨zrs <| Kd.R_mono (zfr (Kd.R_types HO772.out BK744.out (by decide))) (fun _ hk => trivial)⟩, ⟨zfar (zb BK741) NB741_744⟩, ⟨zfar (zb BK742) NB742_744⟩, ⟨zfar (zb BK743) NB743_744⟩, ⟨zput (zb BK744) 1⟩, ⟨zB⟩⟩
       ·rw [if_neg c21] at H
        exact absurd H (by simp)
      ·rw [if_neg c20] at H
       have c20b0 : decide (0 < (ji17)) = false := decide_eq_false c20
       clear c20
       have H' := zm H
       clear H
       have hnb67 := NB741_742.out
       have hnc67 := NB742_741.out
       have hnb68 := NB741_743.out
       have hnc68 := NB743_741.out
       have hnb69 := NB741_744.out
       have hnc69 := NB744_741.out
       have hcz70_0 : wr.cell? ⟨gb741, 0, none⟩ = some (.slice A0_0 l0_0.length c0_0) := (blk_cell BK741.out 0).trans rfl
       have hcz70_1 : wr.cell? ⟨gb741, 1, none⟩ = some (.slice A0_1 l0_1.length c0_1) := (blk_cell BK741.out 1).trans rfl
       have hfz70_0 := blk_frozen BK741.out 0
       have hfz70_1 := blk_frozen BK741.out 1
       try go_wp2_with (first | ((with_reducible refine gate_callee (f := 38) rfl ?_); refine zg (some 21) #[.agg #[.slice A0_0 l0_0.length c0_0, .slice A0_1 l0_1.length c0_1], .int .i64 x6_1] Try.func38 ?_; (with_reducible refine (impl_EntryOf.calls k1 _ _ l0_0 _ _ l0_1 x6_1 t745 t746 t747 t748 t749 t750 _ (zk (Kd.C_below HR0_0.out HB.out)) HC0_0.out (zk (Kd.C_below HR0_1.out HB.out)) HC0_1.out A12.out).mono ?_); rintro e w71 ⟨rfl, hb⟩; refine ⟨_, rfl, ?_⟩; replace HO_745000 := zm (Kd.R_below (zr HO_745000) hb); replace HO_745001 := zm (Kd.R_below (zr HO_745001) hb); replace BK741 := zm (blk_below (zb BK741) hb); replace BK742 := zm (blk_below (zb BK742) hb); replace BK743 := zm (blk_below (zb BK743) hb); replace BK744 := zm (blk_below (zb BK744) hb); replace HB := zm (below_step zB hb); clear hb) | ((with_reducible refine gate_dst (N := 7) rfl ?_); refine zbox 7 #[.int .i64 0, .int .i64 0, .int .i64 0, .int .i64 0, .string (⟨#[]⟩ : ByteArray)] 25 ?_; intro gb751 hg w72 hbox hb; replace HO_745000 := zm (Kd.R_below (zr HO_745000) hb); replace HO_745001 := zm (Kd.R_below (zr HO_745001) hb); have BK751 := zm (hbox); have GW751 := zge w hg zB; have GE751 := zge w hg zB; replace HB := zm (below_step zB hb); have NB741_751 := zlt hg (zb BK741); have NB751_741 := zgt hg (zb BK741); replace BK741 := zm (blk_below (zb BK741) hb); have NB742_751 := zlt hg (zb BK742); have NB751_742 := zgt hg (zb BK742); replace BK742 := zm (blk_below (zb BK742) hb); have NB743_751 := zlt hg (zb BK743); have NB751_743 := zgt hg (zb BK743); replace BK743 := zm (blk_below (zb BK743) hb); have NB744_751 := zlt hg (zb BK744); have NB751_744 := zgt hg (zb BK744); replace BK744 := zm (blk_below (zb BK744) hb); clear hb hbox hg; have hnb73 := NB751_741.out; have hnc73 := NB741_751.out; have hnb74 := NB751_742.out; have hnc74 := NB742_751.out; have hnb75 := NB751_743.out; have hnc75 := NB743_751.out; have hnb76 := NB751_744.out; have hnc76 := NB744_751.out; have hcz77_0 : w72.cell? ⟨gb751, 0, none⟩ = some (.int .i64 0) := (blk_cell BK751.out 0).trans rfl; have hcz77_1 : w72.cell? ⟨gb751, 1, none⟩ = some (.int .i64 0) := (blk_cell BK751.out 1).trans rfl; have hcz77_2 : w72.cell? ⟨gb751, 2, none⟩ = some (.int .i64 0) := (blk_cell BK751.out 2).trans rfl; have hcz77_3 : w72.cell? ⟨gb751, 3, none⟩ = some (.int .i64 0) := (blk_cell BK751.out 3).trans rfl; have hcz77_4 : w72.cell? ⟨gb751, 4, none⟩ = some (.string (⟨#[]⟩ : ByteArray)) := (blk_cell BK751.out 4).trans rfl; have hfz77_0 := blk_frozen BK751.out 0; have hfz77_1 := blk_frozen BK751.out 1; have hfz77_2 := blk_frozen BK751.out 2; have hfz77_3 := blk_frozen BK751.out 3; have hfz77_4 := blk_frozen BK751.out 4; have hnb78 := NB742_743.out; have hnc78 := NB743_742.out; have hnb79 := NB742_744.out; have hnc79 := NB744_742.out; have hcz80_0 : w72.cell? ⟨gb742, 0, none⟩ = some (.slice A1_0 l1_0.length c1_0) := (blk_cell BK742.out 0).trans rfl; have hcz80_1 : w72.cell? ⟨gb742, 1, none⟩ = some (.slice A1_1 l1_1.length c1_1) := (blk_cell BK742.out 1).trans rfl; have hfz80_0 := blk_frozen BK742.out 0; have hfz80_1 := blk_frozen BK742.out 1) | ((with_reducible refine gate_callee (f := 38) rfl ?_); refine zg (some 27) #[.agg #[.slice A1_0 l1_0.length c1_0, .slice A1_1 l1_1.length c1_1], .int .i64 x6_1] Try.func38 ?_; (with_reducible refine (impl_EntryOf.calls k1 _ _ l1_0 _ _ l1_1 x6_1 t752 t753 t754 t755 t756 t757 _ ?side1 HC1_0.out ?side3 HC1_1.out A13.out).mono ?_); (case side1 => exact Kd.C_below HR1_0.out zB); (case side3 => exact Kd.C_below HR1_1.out zB); rintro e w81 ⟨rfl, hb⟩; refine ⟨_, rfl, ?_⟩; replace HO_745000 := zm (Kd.R_below (zrs <| (Kd.R_mono (zfr (zfr (zfr (zfr (zfr (Kd.R_types HO_745000.out BK751.out (by decide))))))) (fun _ h_ => h_.1))) hb); replace HO_745001 := zm (Kd.R_below (zrs <| (Kd.R_mono (zfr (zfr (zfr (zfr (zfr (Kd.R_types HO_745001.out BK751.out (by decide))))))) (fun _ h_ => h_.1))) hb); replace BK741 := zm (blk_below (g := gb741) (o := .cells #[.slice A0_0 l0_0.length c0_0, .slice A0_1 l0_1.length c0_1] 55 (0, 0)) (zfar (zfar (zfar (zfar (zfar (zb BK741) NB741_751) NB741_751) NB741_751) NB741_751) NB741_751) hb); replace BK742 := zm (blk_below (g := gb742) (o := .cells #[.slice A1_0 l1_0.length c1_0, .slice A1_1 l1_1.length c1_1] 55 (0, 0)) (zfar (zfar (zfar (zfar (zfar (zb BK742) NB742_751) NB742_751) NB742_751) NB742_751) NB742_751) hb); replace BK743 := zm (blk_below (g := gb743) (o := .cells #[.slice none 0 0, .slice none 0 0] 55 (0, 0)) (zfar (zfar (zfar (zfar (zfar (zb BK743) NB743_751) NB743_751) NB743_751) NB743_751) NB743_751) hb); replace BK744 := zm (blk_below (g := gb744) (o := .cells #[u745000, u745001] 55 (0, 0)) (zfar (zfar (zfar (zfar (zfar (zb BK744) NB744_751) NB744_751) NB744_751) NB744_751) NB744_751) hb); replace BK751 := zm (blk_below (g := gb751) (o := .cells #[.int .i64 t745, .int .i64 t746, .int .i64 t747, .int .i64 t748, .string t749] 25 (0, 0)) (zput (zput (zput (zput (zput (zb BK751) 0) 1) 2) 3) 4) hb); replace HB := zm (below_step zB hb); clear hb) | ((with_reducible refine gate_dst (N := 9) rfl ?_); refine zbox 9 #[.int .i64 0, .int .i64 0, .int .i64 0, .int .i64 0, .string (⟨#[]⟩ : ByteArray)] 25 ?_; intro gb758 hg w82 hbox hb; replace HO_745000 := zm (Kd.R_below (zr HO_745000) hb); replace HO_745001 := zm (Kd.R_below (zr HO_745001) hb); have BK758 := zm (hbox); have GW758 := zge w hg zB; have GE758 := zge w hg zB; replace HB := zm (below_step zB hb); have NB741_758 := zlt hg (zb BK741); have NB758_741 := zgt hg (zb BK741); replace BK741 := zm (blk_below (zb BK741) hb); have NB742_758 := zlt hg (zb BK742); have NB758_742 := zgt hg (zb BK742); replace BK742 := zm (blk_below (zb BK742) hb); have NB743_758 := zlt hg (zb BK743); have NB758_743 := zgt hg (zb BK743); replace BK743 := zm (blk_below (zb BK743) hb); have NB744_758 := zlt hg (zb BK744); have NB758_744 := zgt hg (zb BK744); replace BK744 := zm (blk_below (zb BK744) hb); have NB751_758 := zlt hg (zb BK751); have NB758_751 := zgt hg (zb BK751); replace BK751 := zm (blk_below (zb BK751) hb); clear hb hbox hg; have hnb83 := NB758_741.out; have hnc83 := NB741_758.out; have hnb84 := NB758_742.out; have hnc84 := NB742_758.out; have hnb85 := NB758_743.out; have hnc85 := NB743_758.out; have hnb86 := NB758_744.out; have hnc86 := NB744_758.out; have hnb87 := NB758_751.out; have hnc87 := NB751_758.out; have hcz88_0 : w82.cell? ⟨gb758, 0, none⟩ = some (.int .i64 0) := (blk_cell BK758.out 0).trans rfl; have hcz88_1 : w82.cell? ⟨gb758, 1, none⟩ = some (.int .i64 0) := (blk_cell BK758.out 1).trans rfl; have hcz88_2 : w82.cell? ⟨gb758, 2, none⟩ = some (.int .i64 0) := (blk_cell BK758.out 2).trans rfl; have hcz88_3 : w82.cell? ⟨gb758, 3, none⟩ = some (.int .i64 0) := (blk_cell BK758.out 3).trans rfl; have hcz88_4 : w82.cell? ⟨gb758, 4, none⟩ = some (.string (⟨#[]⟩ : ByteArray)) := (blk_cell BK758.out 4).trans rfl; have hfz88_0 := blk_frozen BK758.out 0; have hfz88_1 := blk_frozen BK758.out 1; have hfz88_2 := blk_frozen BK758.out 2; have hfz88_3 := blk_frozen BK758.out 3; have hfz88_4 := blk_frozen BK758.out 4; have hcz89_0 : w82.cell? ⟨gb751, 0, none⟩ = some (.int .i64 t745) := (blk_cell BK751.out 0).trans rfl; have hcz89_1 : w82.cell? ⟨gb751, 1, none⟩ = some (.int .i64 t746) := (blk_cell BK751.out 1).trans rfl; have hcz89_2 : w82.cell? ⟨gb751, 2, none⟩ = some (.int .i64 t747) := (blk_cell BK751.out 2).trans rfl; have hcz89_3 : w82.cell? ⟨gb751, 3, none⟩ = some (.int .i64 t748) := (blk_cell BK751.out 3).trans rfl; have hcz89_4 : w82.cell? ⟨gb751, 4, none⟩ = some (.string t749) := (blk_cell BK751.out 4).trans rfl; have hfz89_0 := blk_frozen BK751.out 0; have hfz89_1 := blk_frozen BK751.out 1; have hfz89_2 := blk_frozen BK751.out 2; have hfz89_3 := blk_frozen BK751.out 3; have hfz89_4 := blk_frozen BK751.out 4) | ((with_reducible refine gate_callee (f := 18) rfl ?_); refine zg (some 32) #[.agg #[.int .i64 t745, .int .i64 t746, .int .i64 t747, .int .i64 t748, .string t749], .agg #[.int .i64 t752, .int .i64 t753, .int .i64 t754, .int .i64 t755, .string t756]] Try.func18 ?_; (with_reducible refine (impl_EntryMax.calls k1 t745 t746 t747 t748 t749 t752 t753 t754 t755 t756 t759 t760 t761 t762 t763 _ A14.out).mono ?_); rintro e w90 ⟨rfl, hb⟩; refine ⟨_, rfl, ?_⟩; replace HO_745000 := zm (Kd.R_below (zrs <| (Kd.R_mono (zfr (zfr (zfr (zfr (zfr (Kd.R_types HO_745000.out BK758.out (by decide))))))) (fun _ h_ => h_.1))) hb); replace HO_745001 := zm (Kd.R_below (zrs <| (Kd.R_mono (zfr (zfr (zfr (zfr (zfr (Kd.R_types HO_745001.out BK758.out (by decide))))))) (fun _ h_ => h_.1))) hb); replace BK741 := zm (blk_below (g := gb741) (o := .cells #[.slice A0_0 l0_0.length c0_0, .slice A0_1 l0_1.length c0_1] 55 (0, 0)) (zfar (zfar (zfar (zfar (zfar (zb BK741) NB741_758) NB741_758) NB741_758) NB741_758) NB741_758) hb); replace BK742 := zm (blk_below (g := gb742) (o := .cells #[.slice A1_0 l1_0.length c1_0, .slice A1_1 l1_1.length c1_1] 55 (0, 0)) (zfar (zfar (zfar (zfar (zfar (zb BK742) NB742_758) NB742_758) NB742_758) NB742_758) NB742_758) hb); replace BK743 := zm (blk_below (g := gb743) (o := .cells #[.slice none 0 0, .slice none 0 0] 55 (0, 0)) (zfar (zfar (zfar (zfar (zfar (zb BK743) NB743_758) NB743_758) NB743_758) NB743_758) NB743_758) hb); replace BK744 := zm (blk_below (g := gb744) (o := .cells #[u745000, u745001] 55 (0, 0)) (zfar (zfar (zfar (zfar (zfar (zb BK744) NB744_758) NB744_758) NB744_758) NB744_758) NB744_758) hb); replace BK751 := zm (blk_below (g := gb751) (o := .cells #[.int .i64 t745, .int .i64 t746, .int .i64 t747, .int .i64 t748, .string t749] 25 (0, 0)) (zfar (zfar (zfar (zfar (zfar (zb BK751) NB751_758) NB751_758) NB751_758) NB751_758) NB751_758) hb); replace BK758 := zm (blk_below (g := gb758) (o := .cells #[.int .i64 t752, .int .i64 t753, .int .i64 t754, .int .i64 t755, .string t756] 25 (0, 0)) (zput (zput (zput (zput (zput (zb BK758) 0) 1) 2) 3) 4) hb); replace HB := zm (below_step zB hb); clear hb) | ((with_reducible refine gate_dst (N := 11) rfl ?_); refine zbox 11 #[.int .i64 0, .int .i64 0, .int .i64 0, .int .i64 0, .string (⟨#[]⟩ : ByteArray)] 25 ?_; intro gb764 hg w91 hbox hb; replace HO_745000 := zm (Kd.R_below (zr HO_745000) hb); replace HO_745001 := zm (Kd.R_below (zr HO_745001) hb); have BK764 := zm (hbox); have GW764 := zge w hg zB; have GE764 := zge w hg zB; replace HB := zm (below_step zB hb); have NB741_764 := zlt hg (zb BK741); have NB764_741 := zgt hg (zb BK741); replace BK741 := zm (blk_below (zb BK741) hb); have NB742_764 := zlt hg (zb BK742); have NB764_742 := zgt hg (zb BK742); replace BK742 := zm (blk_below (zb BK742) hb); have NB743_764 := zlt hg (zb BK743); have NB764_743 := zgt hg (zb BK743); replace BK743 := zm (blk_below (zb BK743) hb); have NB744_764 := zlt hg (zb BK744); have NB764_744 := zgt hg (zb BK744); replace BK744 := zm (blk_below (zb BK744) hb); have NB751_764 := zlt hg (zb BK751); have NB764_751 := zgt hg (zb BK751); replace BK751 := zm (blk_below (zb BK751) hb); have NB758_764 := zlt hg (zb BK758); have NB764_758 := zgt hg (zb BK758); replace BK758 := zm (blk_below (zb BK758) hb); clear hb hbox hg; have hnb92 := NB764_741.out; have hnc92 := NB741_764.out; have hnb93 := NB764_742.out; have hnc93 := NB742_764.out; have hnb94 := NB764_743.out; have hnc94 := NB743_764.out; have hnb95 := NB764_744.out; have hnc95 := NB744_764.out; have hnb96 := NB764_751.out; have hnc96 := NB751_764.out; have hnb97 := NB764_758.out; have hnc97 := NB758_764.out; have hcz98_0 : w91.cell? ⟨gb764, 0, none⟩ = some (.int .i64 0) := (blk_cell BK764.out 0).trans rfl; have hcz98_1 : w91.cell? ⟨gb764, 1, none⟩ = some (.int .i64 0) := (blk_cell BK764.out 1).trans rfl; have hcz98_2 : w91.cell? ⟨gb764, 2, none⟩ = some (.int .i64 0) := (blk_cell BK764.out 2).trans rfl; have hcz98_3 : w91.cell? ⟨gb764, 3, none⟩ = some (.int .i64 0) := (blk_cell BK764.out 3).trans rfl; have hcz98_4 : w91.cell? ⟨gb764, 4, none⟩ = some (.string (⟨#[]⟩ : ByteArray)) := (blk_cell BK764.out 4).trans rfl; have hfz98_0 := blk_frozen BK764.out 0; have hfz98_1 := blk_frozen BK764.out 1; have hfz98_2 := blk_frozen BK764.out 2; have hfz98_3 := blk_frozen BK764.out 3; have hfz98_4 := blk_frozen BK764.out 4))
       obtain ⟨w99, hW_⟩ : ∃ q, q = (((((w91.setCell ⟨gb764, 0, none⟩ (.int .i64 t759)).setCell ⟨gb764, 1, none⟩ (.int .i64 t760)).setCell ⟨gb764, 2, none⟩ (.int .i64 t761)).setCell ⟨gb764, 3, none⟩ (.int .i64 t762)).setCell ⟨gb764, 4, none⟩ (.string t763)) := ⟨_, rfl⟩
       have n0_ : Aside0 (Kd.R k84 84 w99 w.heap.size (fun _ => True) u745000 x745000_1) := ⟨by rw [hW_]; exact zrs <| Kd.R_mono (zfr (zfr (zfr (zfr (zfr (Kd.R_types HO_745000.out BK764.out (by decide))))))) (fun _ hk => trivial)⟩
       have n1_ : Aside0 (Kd.R k89 89 w99 w.heap.size (fun _ => True) u745001 x745001_1) := ⟨by rw [hW_]; exact zrs <| Kd.R_mono (zfr (zfr (zfr (zfr (zfr (Kd.R_types HO_745001.out BK764.out (by decide))))))) (fun _ hk => trivial)⟩
       have n2_ : Aside0 (w99.heap[gb741]? = some (.cells #[.slice A0_0 l0_0.length c0_0, .slice A0_1 l0_1.length c0_1] 55 (0, 0))) := ⟨by rw [hW_]; exact zfar (zfar (zfar (zfar (zfar (zb BK741) NB741_764) NB741_764) NB741_764) NB741_764) NB741_764⟩
       have n3_ : Aside0 (w99.heap[gb742]? = some (.cells #[.slice A1_0 l1_0.length c1_0, .slice A1_1 l1_1.length c1_1] 55 (0, 0))) := ⟨by rw [hW_]; exact zfar (zfar (zfar (zfar (zfar (zb BK742) NB742_764) NB742_764) NB742_764) NB742_764) NB742_764⟩
       have n4_ : Aside0 (w99.heap[gb743]? = some (.cells #[.slice none 0 0, .slice none 0 0] 55 (0, 0))) := ⟨by rw [hW_]; exact zfar (zfar (zfar (zfar (zfar (zb BK743) NB743_764) NB743_764) NB743_764) NB743_764) NB743_764⟩
       have n5_ : Aside0 (w99.heap[gb744]? = some (.cells #[u745000, u745001] 55 (0, 0))) := ⟨by rw [hW_]; exact zfar (zfar (zfar (zfar (zfar (zb BK744) NB744_764) NB744_764) NB744_764) NB744_764) NB744_764⟩
       have n6_ : Aside0 (w99.heap[gb751]? = some (.cells #[.int .i64 t745, .int .i64 t746, .int .i64 t747, .int .i64 t748, .string t749] 25 (0, 0))) := ⟨by rw [hW_]; exact zfar (zfar (zfar (zfar (zfar (zb BK751) NB751_764) NB751_764) NB751_764) NB751_764) NB751_764⟩
       have n7_ : Aside0 (w99.heap[gb758]? = some (.cells #[.int .i64 t752, .int .i64 t753, .int .i64 t754, .int .i64 t755, .string t756] 25 (0, 0))) := ⟨by rw [hW_]; exact zfar (zfar (zfar (zfar (zfar (zb BK758) NB758_764) NB758_764) NB758_764) NB758_764) NB758_764⟩
       have n8_ : Aside0 (w99.heap[gb764]? = some (.cells #[.int .i64 t759, .int .i64 t760, .int .i64 t761, .int .i64 t762, .string t763] 25 (0, 0))) := ⟨by rw [hW_]; exact zput (zput (zput (zput (zput (zb BK764) 0) 1) 2) 3) 4⟩
       have n9_ : Aside0 (Below w.heap.size w w99) := ⟨by rw [hW_]; exact zB⟩
       rw [← hW_]
       clear hW_
       (try clear HO_745000)
       (try clear HO_745001)
       (try clear BK741)
       (try clear BK742)
       (try clear BK743)
       (try clear BK744)
       (try clear BK751)
       (try clear BK758)
       (try clear BK764)
       (try clear HB)
       have HO_745000 := n0_
       have HO_745001 := n1_
       have BK741 := n2_
       have BK742 := n3_
       have BK743 := n4_
       have BK744 := n5_
       have BK751 := n6_
       have BK758 := n7_
       have BK764 := n8_
       have HB := n9_
       clear n0_ n1_ n2_ n3_ n4_ n5_ n6_ n7_ n8_ n9_
       replace HO_745000 := zm (Kd.R_drew HO_745000.out)
       replace HO_745001 := zm (Kd.R_drew HO_745001.out)
       replace BK741 := zm (blk_drew BK741.out)
       replace BK742 := zm (blk_drew BK742.out)
       replace BK743 := zm (blk_drew BK743.out)
       replace BK744 := zm (blk_drew BK744.out)
       replace BK751 := zm (blk_drew BK751.out)
       replace BK758 := zm (blk_drew BK758.out)
       replace BK764 := zm (blk_drew BK764.out)
       replace HB := zm (below_drew1 HB.out)
       refine start_ (n := 8) (S := fun w' => w'.cell? ⟨gb741, 0, none⟩ = some (.slice A0_0 l0_0.length c0_0) ∧ w'.cell? ⟨gb741, 1, none⟩ = some (.slice A0_1 l0_1.length c0_1) ∧ w'.cell? ⟨gb742, 0, none⟩ = some (.slice A1_0 l1_0.length c1_0) ∧ w'.cell? ⟨gb742, 1, none⟩ = some (.slice A1_1 l1_1.length c1_1)) (ds := []) (zl 8 0) (by kernel_rfl) rfl rfl ⟨(blk_cell BK741.out 0).trans rfl, (blk_cell BK741.out 1).trans rfl, (blk_cell BK742.out 0).trans rfl, (blk_cell BK742.out 1).trans rfl⟩ (fun hHeld => ?_); refine with_tabW impl_stateJoin.tab8 impl_stateJoin.bits8 (fun HT_ HW_ => ?_)
       generalize w99.drew = w100 at HO_745000 HO_745001 BK741 BK742 BK743 BK744 BK751 BK758 BK764 HB hHeld ⊢
       refine zp 1 (some 34) (zl 8 2) ?_
       refine zp 4 (some 37) (zl 8 18) ?_
       refine zt 0 (some 33) (zl 8 19) ?_
       refine zt 3 (some 36) (zl 8 27) ?_
       refine zo 2 (some 35) (zl 8 31) (fun K hK => ?_)
       refine zgo #[.agg #[.slice A0_0 l0_0.length c0_0, .slice A0_1 l0_1.length c0_1], .int .i64 x6_1] Try.func41 ?_
       with_reducible refine (impl_FloorOf.calls k1 _ _ l0_0 _ _ l0_1 x6_1 t765 _ (zk (Kd.C_below HR0_0.out HB.out)) HC0_0.out (zk (Kd.C_below HR0_1.out HB.out)) HC0_1.out A15.out).mono ?_
       rintro e w101 ⟨rfl, hb⟩
       refine ⟨_, rfl, ?_⟩
       replace HO_745000 := zm (Kd.R_below (zr HO_745000) hb)
       replace HO_745001 := zm (Kd.R_below (zr HO_745001) hb)
       replace BK741 := zm (blk_below (zb BK741) hb)
       replace BK742 := zm (blk_below (zb BK742) hb)
       replace BK743 := zm (blk_below (zb BK743) hb)
       replace BK744 := zm (blk_below (zb BK744) hb)
       replace BK751 := zm (blk_below (zb BK751) hb)
       replace BK758 := zm (blk_below (zb BK758) hb)
       replace BK764 := zm (blk_below (zb BK764) hb)
       replace HB := zm (below_step zB hb)
       (try clear hb)
       (try clear hb2)
       (try clear hk)
       (try clear hi)
       refine hK.out _ _ ⟨(blk_cell BK741.out 0).trans rfl, (blk_cell BK741.out 1).trans rfl, (blk_cell BK742.out 0).trans rfl, (blk_cell BK742.out 1).trans rfl⟩ (fun hHeld => ?_)
       clear hK K
       refine zn ?_
       refine zo 5 (some 38) (zl 8 63) (fun K hK => ?_)
       refine zgo #[.agg #[.slice A1_0 l1_0.length c1_0, .slice A1_1 l1_1.length c1_1], .int .i64 x6_1] Try.func41 ?_
       with_reducible refine (impl_FloorOf.calls k1 _ _ l1_0 _ _ l1_1 x6_1 t766 _ (zk (Kd.C_below HR1_0.out HB.out)) HC1_0.out (zk (Kd.C_below HR1_1.out HB.out)) HC1_1.out A16.out).mono ?_
       rintro e w102 ⟨rfl, hb⟩
       refine ⟨_, rfl, ?_⟩
       replace HO_745000 := zm (Kd.R_below (zr HO_745000) hb)
       replace HO_745001 := zm (Kd.R_below (zr HO_745001) hb)
       replace BK741 := zm (blk_below (zb BK741) hb)
       replace BK742 := zm (blk_below (zb BK742) hb)
       replace BK743 := zm (blk_below (zb BK743) hb)
       replace BK744 := zm (blk_below (zb BK744) hb)
       replace BK751 := zm (blk_below (zb BK751) hb)
       replace BK758 := zm (blk_below (zb BK758) hb)
       replace BK764 := zm (blk_below (zb BK764) hb)
       replace HB := zm (below_step zB hb)
       (try clear hb)
       (try clear hb2)
       (try clear hk)
       (try clear hi)
       refine hK.out _ _ ⟨(blk_cell BK741.out 0).trans rfl, (blk_cell BK741.out 1).trans rfl, (blk_cell BK742.out 0).trans rfl, (blk_cell BK742.out 1).trans rfl⟩ (fun hHeld => ?_)
       clear hK K
       refine zn ?_
       refine zp 6 (some 39) (zl 8 127) ?_
       refine zp 7 (some 12) (zl 8 255) ?_
       refine done_ (done_of HT_.out (by kernel_rfl)) ?_
       have hcz103_0 : w102.cell? ⟨gb764, 0, none⟩ = some (.int .i64 t759) := (blk_cell BK764.out 0).trans rfl
       have hcz103_1 : w102.cell? ⟨gb764, 1, none⟩ = some (.int .i64 t760) := (blk_cell BK764.out 1).trans rfl
       have hcz103_2 : w102.cell? ⟨gb764, 2, none⟩ = some (.int .i64 t761) := (blk_cell BK764.out 2).trans rfl
       have hcz103_3 : w102.cell? ⟨gb764, 3, none⟩ = some (.int .i64 t762) := (blk_cell BK764.out 3).trans rfl
       have hcz103_4 : w102.cell? ⟨gb764, 4, none⟩ = some (.string t763) := (blk_cell BK764.out 4).trans rfl
       have hfz103_0 := blk_frozen BK764.out 0
       have hfz103_1 := blk_frozen BK764.out 1
       have hfz103_2 := blk_frozen BK764.out 2
       have hfz103_3 := blk_frozen BK764.out 3
       have hfz103_4 := blk_frozen BK764.out 4
       have hnb104 := NB744_743.out
       have hnc104 := NB743_744.out
       have hcz105_0 : w102.cell? ⟨gb744, 0, none⟩ = some (u745000) := (blk_cell BK744.out 0).trans rfl
       have hcz105_1 : w102.cell? ⟨gb744, 1, none⟩ = some (u745001) := (blk_cell BK744.out 1).trans rfl
       have hfz105_0 := blk_frozen BK744.out 0
       have hfz105_1 := blk_frozen BK744.out 1
       try go_wp2_with (first | ((with_reducible refine gate_builtin (b := .append) (xs := #[.tmp 45, .tmp 49]) rfl ?_); at_builtin; refine Kd.R_append k84 (w0 := w) w.heap.size rfl (.tmp 45) (.tmp 49) 52 84 (.agg #[(.int .i64 0), (.int .i64 0), (.int .i64 0), (.int .i64 0), (.int .i64 0), (.string ⟨#[]⟩)]) 56 rfl Try.underlying52 info84 rfl (by decide) (by omega) u745000 x745000_1 (⟨x6_1, (⟨t759, t760, t761, t762, t763⟩ : S25)⟩ : S84) [.int .i64 x6_1, .int .i64 t759, .int .i64 t760, .int .i64 t761, .int .i64 t762, .string t763] (fun _ => True) (fun _ => False) rfl rfl ?aP (fun _ hk => hk.elim) ?aF ?aO ?aB ?aS ?aL ?_; (case aP => exact k84_mkM _ _ _ (⟨x6_1, (⟨t759, t760, t761, t762, t763⟩ : S25)⟩ : S84)); (case aB => exact zB); (case aF => exact (fun _ _ => trivial)); (case aO => exact (zr HO_745000)); (case aS => exact (below_size zB)); (case aL => have := LMc19.out; omega); intro v768 w106 ho hb hg hat; rw [← Ny767.out] at ho; replace HO_745001 := zm (Kd.R_over' (zr HO_745001) (Kd.R_typed (zr HO_745000)) (by decide) hg); replace BK741 := zm (blk_grown (g := gb741) (o := .cells #[.slice A0_0 l0_0.length c0_0, .slice A0_1 l0_1.length c0_1] 55 (0, 0)) (zb BK741) hg (Kd.R_ne HO_745000.out BK741.out (by decide))); replace BK742 := zm (blk_grown (g := gb742) (o := .cells #[.slice A1_0 l1_0.length c1_0, .slice A1_1 l1_1.length c1_1] 55 (0, 0)) (zb BK742) hg (Kd.R_ne HO_745000.out BK742.out (by decide))); replace BK743 := zm (blk_grown (g := gb743) (o := .cells #[.slice none 0 0, .slice none 0 0] 55 (0, 0)) (zb BK743) hg (Kd.R_ne HO_745000.out BK743.out (by decide))); replace BK744 := zm (blk_grown (g := gb744) (o := .cells #[u745000, u745001] 55 (0, 0)) (zb BK744) hg (Kd.R_ne HO_745000.out BK744.out (by decide))); replace BK751 := zm (blk_grown (g := gb751) (o := .cells #[.int .i64 t745, .int .i64 t746, .int .i64 t747, .int .i64 t748, .string t749] 25 (0, 0)) (zb BK751) hg (Kd.R_ne HO_745000.out BK751.out (by decide))); replace BK758 := zm (blk_grown (g := gb758) (o := .cells #[.int .i64 t752, .int .i64 t753, .int .i64 t754, .int .i64 t755, .string t756] 25 (0, 0)) (zb BK758) hg (Kd.R_ne HO_745000.out BK758.out (by decide))); replace BK764 := zm (blk_grown (g := gb764) (o := .cells #[.int .i64 t759, .int .i64 t760, .int .i64 t761, .int .i64 t762, .string t763] 25 (0, 0)) (zb BK764) hg (Kd.R_ne HO_745000.out BK764.out (by decide))); replace HB := zm (hb); have HO769 := zm (ho); clear HO_745000; clear ho hb hg hat; obtain ⟨Ao107, co107, eo107⟩ := Kd.R_slice HO769.out; subst eo107; have hcz108_0 : w106.cell? ⟨gb744, 0, none⟩ = some (u745000) := (blk_cell BK744.out 0).trans rfl; have hcz108_1 : w106.cell? ⟨gb744, 1, none⟩ = some (u745001) := (blk_cell BK744.out 1).trans rfl; have hfz108_0 := blk_frozen BK744.out 0; have hfz108_1 := blk_frozen BK744.out 1))
       go_roundg k1
       case measure => have := HK1.out; omega
       case rel => exact ⟨(wrap64 (x6_1 + 1)), (y767), (x745001_1), (.slice Ao107 y767.length co107), (u745001), zF, H', ⟨by have := HK1.out; omega⟩, ⟨zrs <| Kd.R_mono (zfr (Kd.R_types HO769.out BK744.out (by decide))) (fun _ hk => trivial)⟩, ⟨zrs <| Kd.R_mono (zfr (Kd.R_types HO_745001.out BK744.out (by decide))) (fun _ hk => trivial)⟩, ⟨zfar (zb BK741) NB741_744⟩, ⟨zfar (zb BK742) NB742_744⟩, ⟨zfar (zb BK743) NB743_744⟩, ⟨zput (zb BK744) 0⟩, ⟨zB⟩⟩
     ·rw [if_neg c19] at H
      exact absurd H (by simp)
    ·rw [if_neg c18] at H
     have c18b0 : decide ((ji17) < t759) = false := decide_eq_false c18
     clear c18
     by_cases c109 : (ji17) > 0
     ·rw [if_pos c109] at H
      have c109b0 : decide (0 < (ji17)) = true := decide_eq_true c109
      clear c109
      by_cases c110 : x745001_1.length < 8796093022208
      ·rw [if_pos c110] at H
       have LMc110 := zm c110
       clear c110
       obtain ⟨y773, hy773⟩ : ∃ y_ : List (S89), y_ = (x745001_1 ++ [(⟨x6_1, ji17⟩ : S89)]) := ⟨_, rfl⟩
       replace H : (impl_stateJoin.l0 k1 (wrap64 (x6_1 + 1)) l0_0 l0_1 l1_0 l1_1 x745000_1 y773) = some (r1, r2) := by first | (rw [hy773]; with_reducible exact H) | (have H2_ := (Option.bind_some _ _).symm.trans H; rw [hy773]; with_reducible exact H2_) | (have H2_ := (Option.bind_some _ _).symm.trans H; with_reducible exact H2_) | with_reducible exact H | (rw [hy773]; exact H) | exact H
       have Ny773 := zm hy773
       clear hy773
       have H' := zm H
       clear H
       have hnb111 := NB741_742.out
       have hnc111 := NB742_741.out
       have hnb112 := NB741_743.out
       have hnc112 := NB743_741.out
       have hnb113 := NB741_744.out
       have hnc113 := NB744_741.out
       have hcz114_0 : wr.cell? ⟨gb741, 0, none⟩ = some (.slice A0_0 l0_0.length c0_0) := (blk_cell BK741.out 0).trans rfl
       have hcz114_1 : wr.cell? ⟨gb741, 1, none⟩ = some (.slice A0_1 l0_1.length c0_1) := (blk_cell BK741.out 1).trans rfl
       have hfz114_0 := blk_frozen BK741.out 0
       have hfz114_1 := blk_frozen BK741.out 1
       try go_wp2_with (first | ((with_reducible refine gate_callee (f := 38) rfl ?_); refine zg (some 21) #[.agg #[.slice A0_0 l0_0.length c0_0, .slice A0_1 l0_1.length c0_1], .int .i64 x6_1] Try.func38 ?_; (with_reducible refine (impl_EntryOf.calls k1 _ _ l0_0 _ _ l0_1 x6_1 t745 t746 t747 t748 t749 t750 _ (zk (Kd.C_below HR0_0.out HB.out)) HC0_0.out (zk (Kd.C_below HR0_1.out HB.out)) HC0_1.out A12.out).mono ?_); rintro e w115 ⟨rfl, hb⟩; refine ⟨_, rfl, ?_⟩; replace HO_745000 := zm (Kd.R_below (zr HO_745000) hb); replace HO_745001 := zm (Kd.R_below (zr HO_745001) hb); replace BK741 := zm (blk_below (zb BK741) hb); replace BK742 := zm (blk_below (zb BK742) hb); replace BK743 := zm (blk_below (zb BK743) hb); replace BK744 := zm (blk_below (zb BK744) hb); replace HB := zm (below_step zB hb); clear hb) | ((with_reducible refine gate_dst (N := 7) rfl ?_); refine zbox 7 #[.int .i64 0, .int .i64 0, .int .i64 0, .int .i64 0, .string (⟨#[]⟩ : ByteArray)] 25 ?_; intro gb751 hg w116 hbox hb; replace HO_745000 := zm (Kd.R_below (zr HO_745000) hb); replace HO_745001 := zm (Kd.R_below (zr HO_745001) hb); have BK751 := zm (hbox); have GW751 := zge w hg zB; have GE751 := zge w hg zB; replace HB := zm (below_step zB hb); have NB741_751 := zlt hg (zb BK741); have NB751_741 := zgt hg (zb BK741); replace BK741 := zm (blk_below (zb BK741) hb); have NB742_751 := zlt hg (zb BK742); have NB751_742 := zgt hg (zb BK742); replace BK742 := zm (blk_below (zb BK742) hb); have NB743_751 := zlt hg (zb BK743); have NB751_743 := zgt hg (zb BK743); replace BK743 := zm (blk_below (zb BK743) hb); have NB744_751 := zlt hg (zb BK744); have NB751_744 := zgt hg (zb BK744); replace BK744 := zm (blk_below (zb BK744) hb); clear hb hbox hg; have hnb117 := NB751_741.out; have hnc117 := NB741_751.out; have hnb118 := NB751_742.out; have hnc118 := NB742_751.out; have hnb119 := NB751_743.out; have hnc119 := NB743_751.out; have hnb120 := NB751_744.out; have hnc120 := NB744_751.out; have hcz121_0 : w116.cell? ⟨gb751, 0, none⟩ = some (.int .i64 0) := (blk_cell BK751.out 0).trans rfl; have hcz121_1 : w116.cell? ⟨gb751, 1, none⟩ = some (.int .i64 0) := (blk_cell BK751.out 1).trans rfl; have hcz121_2 : w116.cell? ⟨gb751, 2, none⟩ = some (.int .i64 0) := (blk_cell BK751.out 2).trans rfl; have hcz121_3 : w116.cell? ⟨gb751, 3, none⟩ = some (.int .i64 0) := (blk_cell BK751.out 3).trans rfl; have hcz121_4 : w116.cell? ⟨gb751, 4, none⟩ = some (.string (⟨#[]⟩ : ByteArray)) := (blk_cell BK751.out 4).trans rfl; have hfz121_0 := blk_frozen BK751.out 0; have hfz121_1 := blk_frozen BK751.out 1; have hfz121_2 := blk_frozen BK751.out 2; have hfz121_3 := blk_frozen BK751.out 3; have hfz121_4 := blk_frozen BK751.out 4; have hnb122 := NB742_743.out; have hnc122 := NB743_742.out; have hnb123 := NB742_744.out; have hnc123 := NB744_742.out; have hcz124_0 : w116.cell? ⟨gb742, 0, none⟩ = some (.slice A1_0 l1_0.length c1_0) := (blk_cell BK742.out 0).trans rfl; have hcz124_1 : w116.cell? ⟨gb742, 1, none⟩ = some (.slice A1_1 l1_1.length c1_1) := (blk_cell BK742.out 1).trans rfl; have hfz124_0 := blk_frozen BK742.out 0; have hfz124_1 := blk_frozen BK742.out 1) | ((with_reducible refine gate_callee (f := 38) rfl ?_); refine zg (some 27) #[.agg #[.slice A1_0 l1_0.length c1_0, .slice A1_1 l1_1.length c1_1], .int .i64 x6_1] Try.func38 ?_; (with_reducible refine (impl_EntryOf.calls k1 _ _ l1_0 _ _ l1_1 x6_1 t752 t753 t754 t755 t756 t757 _ ?side1 HC1_0.out ?side3 HC1_1.out A13.out).mono ?_); (case side1 => exact Kd.C_below HR1_0.out zB); (case side3 => exact Kd.C_below HR1_1.out zB); rintro e w125 ⟨rfl, hb⟩; refine ⟨_, rfl, ?_⟩; replace HO_745000 := zm (Kd.R_below (zrs <| (Kd.R_mono (zfr (zfr (zfr (zfr (zfr (Kd.R_types HO_745000.out BK751.out (by decide))))))) (fun _ h_ => h_.1))) hb); replace HO_745001 := zm (Kd.R_below (zrs <| (Kd.R_mono (zfr (zfr (zfr (zfr (zfr (Kd.R_types HO_745001.out BK751.out (by decide))))))) (fun _ h_ => h_.1))) hb); replace BK741 := zm (blk_below (g := gb741) (o := .cells #[.slice A0_0 l0_0.length c0_0, .slice A0_1 l0_1.length c0_1] 55 (0, 0)) (zfar (zfar (zfar (zfar (zfar (zb BK741) NB741_751) NB741_751) NB741_751) NB741_751) NB741_751) hb); replace BK742 := zm (blk_below (g := gb742) (o := .cells #[.slice A1_0 l1_0.length c1_0, .slice A1_1 l1_1.length c1_1] 55 (0, 0)) (zfar (zfar (zfar (zfar (zfar (zb BK742) NB742_751) NB742_751) NB742_751) NB742_751) NB742_751) hb); replace BK743 := zm (blk_below (g := gb743) (o := .cells #[.slice none 0 0, .slice none 0 0] 55 (0, 0)) (zfar (zfar (zfar (zfar (zfar (zb BK743) NB743_751) NB743_751) NB743_751) NB743_751) NB743_751) hb); replace BK744 := zm (blk_below (g := gb744) (o := .cells #[u745000, u745001] 55 (0, 0)) (zfar (zfar (zfar (zfar (zfar (zb BK744) NB744_751) NB744_751) NB744_751) NB744_751) NB744_751) hb); replace BK751 := zm (blk_below (g := gb751) (o := .cells #[.int .i64 t745, .int .i64 t746, .int .i64 t747, .int .i64 t748, .string t749] 25 (0, 0)) (zput (zput (zput (zput (zput (zb BK751) 0) 1) 2) 3) 4) hb); replace HB := zm (below_step zB hb); clear hb) | ((with_reducible refine gate_dst (N := 9) rfl ?_); refine zbox 9 #[.int .i64 0, .int .i64 0, .int .i64 0, .int .i64 0, .string (⟨#[]⟩ : ByteArray)] 25 ?_; intro gb758 hg w126 hbox hb; replace HO_745000 := zm (Kd.R_below (zr HO_745000) hb); replace HO_745001 := zm (Kd.R_below (zr HO_745001) hb); have BK758 := zm (hbox); have GW758 := zge w hg zB; have GE758 := zge w hg zB; replace HB := zm (below_step zB hb); have NB741_758 := zlt hg (zb BK741); have NB758_741 := zgt hg (zb BK741); replace BK741 := zm (blk_below (zb BK741) hb); have NB742_758 := zlt hg (zb BK742); have NB758_742 := zgt hg (zb BK742); replace BK742 := zm (blk_below (zb BK742) hb); have NB743_758 := zlt hg (zb BK743); have NB758_743 := zgt hg (zb BK743); replace BK743 := zm (blk_below (zb BK743) hb); have NB744_758 := zlt hg (zb BK744); have NB758_744 := zgt hg (zb BK744); replace BK744 := zm (blk_below (zb BK744) hb); have NB751_758 := zlt hg (zb BK751); have NB758_751 := zgt hg (zb BK751); replace BK751 := zm (blk_below (zb BK751) hb); clear hb hbox hg; have hnb127 := NB758_741.out; have hnc127 := NB741_758.out; have hnb128 := NB758_742.out; have hnc128 := NB742_758.out; have hnb129 := NB758_743.out; have hnc129 := NB743_758.out; have hnb130 := NB758_744.out; have hnc130 := NB744_758.out; have hnb131 := NB758_751.out; have hnc131 := NB751_758.out; have hcz132_0 : w126.cell? ⟨gb758, 0, none⟩ = some (.int .i64 0) := (blk_cell BK758.out 0).trans rfl; have hcz132_1 : w126.cell? ⟨gb758, 1, none⟩ = some (.int .i64 0) := (blk_cell BK758.out 1).trans rfl; have hcz132_2 : w126.cell? ⟨gb758, 2, none⟩ = some (.int .i64 0) := (blk_cell BK758.out 2).trans rfl; have hcz132_3 : w126.cell? ⟨gb758, 3, none⟩ = some (.int .i64 0) := (blk_cell BK758.out 3).trans rfl; have hcz132_4 : w126.cell? ⟨gb758, 4, none⟩ = some (.string (⟨#[]⟩ : ByteArray)) := (blk_cell BK758.out 4).trans rfl; have hfz132_0 := blk_frozen BK758.out 0; have hfz132_1 := blk_frozen BK758.out 1; have hfz132_2 := blk_frozen BK758.out 2; have hfz132_3 := blk_frozen BK758.out 3; have hfz132_4 := blk_frozen BK758.out 4; have hcz133_0 : w126.cell? ⟨gb751, 0, none⟩ = some (.int .i64 t745) := (blk_cell BK751.out 0).trans rfl; have hcz133_1 : w126.cell? ⟨gb751, 1, none⟩ = some (.int .i64 t746) := (blk_cell BK751.out 1).trans rfl; have hcz133_2 : w126.cell? ⟨gb751, 2, none⟩ = some (.int .i64 t747) := (blk_cell BK751.out 2).trans rfl; have hcz133_3 : w126.cell? ⟨gb751, 3, none⟩ = some (.int .i64 t748) := (blk_cell BK751.out 3).trans rfl; have hcz133_4 : w126.cell? ⟨gb751, 4, none⟩ = some (.string t749) := (blk_cell BK751.out 4).trans rfl; have hfz133_0 := blk_frozen BK751.out 0; have hfz133_1 := blk_frozen BK751.out 1; have hfz133_2 := blk_frozen BK751.out 2; have hfz133_3 := blk_frozen BK751.out 3; have hfz133_4 := blk_frozen BK751.out 4) | ((with_reducible refine gate_callee (f := 18) rfl ?_); refine zg (some 32) #[.agg #[.int .i64 t745, .int .i64 t746, .int .i64 t747, .int .i64 t748, .string t749], .agg #[.int .i64 t752, .int .i64 t753, .int .i64 t754, .int .i64 t755, .string t756]] Try.func18 ?_; (with_reducible refine (impl_EntryMax.calls k1 t745 t746 t747 t748 t749 t752 t753 t754 t755 t756 t759 t760 t761 t762 t763 _ A14.out).mono ?_); rintro e w134 ⟨rfl, hb⟩; refine ⟨_, rfl, ?_⟩; replace HO_745000 := zm (Kd.R_below (zrs <| (Kd.R_mono (zfr (zfr (zfr (zfr (zfr (Kd.R_types HO_745000.out BK758.out (by decide))))))) (fun _ h_ => h_.1))) hb); replace HO_745001 := zm (Kd.R_below (zrs <| (Kd.R_mono (zfr (zfr (zfr (zfr (zfr (Kd.R_types HO_745001.out BK758.out (by decide))))))) (fun _ h_ => h_.1))) hb); replace BK741 := zm (blk_below (g := gb741) (o := .cells #[.slice A0_0 l0_0.length c0_0, .slice A0_1 l0_1.length c0_1] 55 (0, 0)) (zfar (zfar (zfar (zfar (zfar (zb BK741) NB741_758) NB741_758) NB741_758) NB741_758) NB741_758) hb); replace BK742 := zm (blk_below (g := gb742) (o := .cells #[.slice A1_0 l1_0.length c1_0, .slice A1_1 l1_1.length c1_1] 55 (0, 0)) (zfar (zfar (zfar (zfar (zfar (zb BK742) NB742_758) NB742_758) NB742_758) NB742_758) NB742_758) hb); replace BK743 := zm (blk_below (g := gb743) (o := .cells #[.slice none 0 0, .slice none 0 0] 55 (0, 0)) (zfar (zfar (zfar (zfar (zfar (zb BK743) NB743_758) NB743_758) NB743_758) NB743_758) NB743_758) hb); replace BK744 := zm (blk_below (g := gb744) (o := .cells #[u745000, u745001] 55 (0, 0)) (zfar (zfar (zfar (zfar (zfar (zb BK744) NB744_758) NB744_758) NB744_758) NB744_758) NB744_758) hb); replace BK751 := zm (blk_below (g := gb751) (o := .cells #[.int .i64 t745, .int .i64 t746, .int .i64 t747, .int .i64 t748, .string t749] 25 (0, 0)) (zfar (zfar (zfar (zfar (zfar (zb BK751) NB751_758) NB751_758) NB751_758) NB751_758) NB751_758) hb); replace BK758 := zm (blk_below (g := gb758) (o := .cells #[.int .i64 t752, .int .i64 t753, .int .i64 t754, .int .i64 t755, .string t756] 25 (0, 0)) (zput (zput (zput (zput (zput (zb BK758) 0) 1) 2) 3) 4) hb); replace HB := zm (below_step zB hb); clear hb) | ((with_reducible refine gate_dst (N := 11) rfl ?_); refine zbox 11 #[.int .i64 0, .int .i64 0, .int .i64 0, .int .i64 0, .string (⟨#[]⟩ : ByteArray)] 25 ?_; intro gb764 hg w135 hbox hb; replace HO_745000 := zm (Kd.R_below (zr HO_745000) hb); replace HO_745001 := zm (Kd.R_below (zr HO_745001) hb); have BK764 := zm (hbox); have GW764 := zge w hg zB; have GE764 := zge w hg zB; replace HB := zm (below_step zB hb); have NB741_764 := zlt hg (zb BK741); have NB764_741 := zgt hg (zb BK741); replace BK741 := zm (blk_below (zb BK741) hb); have NB742_764 := zlt hg (zb BK742); have NB764_742 := zgt hg (zb BK742); replace BK742 := zm (blk_below (zb BK742) hb); have NB743_764 := zlt hg (zb BK743); have NB764_743 := zgt hg (zb BK743); replace BK743 := zm (blk_below (zb BK743) hb); have NB744_764 := zlt hg (zb BK744); have NB764_744 := zgt hg (zb BK744); replace BK744 := zm (blk_below (zb BK744) hb); have NB751_764 := zlt hg (zb BK751); have NB764_751 := zgt hg (zb BK751); replace BK751 := zm (blk_below (zb BK751) hb); have NB758_764 := zlt hg (zb BK758); have NB764_758 := zgt hg (zb BK758); replace BK758 := zm (blk_below (zb BK758) hb); clear hb hbox hg; have hnb136 := NB764_741.out; have hnc136 := NB741_764.out; have hnb137 := NB764_742.out; have hnc137 := NB742_764.out; have hnb138 := NB764_743.out; have hnc138 := NB743_764.out; have hnb139 := NB764_744.out; have hnc139 := NB744_764.out; have hnb140 := NB764_751.out; have hnc140 := NB751_764.out; have hnb141 := NB764_758.out; have hnc141 := NB758_764.out; have hcz142_0 : w135.cell? ⟨gb764, 0, none⟩ = some (.int .i64 0) := (blk_cell BK764.out 0).trans rfl; have hcz142_1 : w135.cell? ⟨gb764, 1, none⟩ = some (.int .i64 0) := (blk_cell BK764.out 1).trans rfl; have hcz142_2 : w135.cell? ⟨gb764, 2, none⟩ = some (.int .i64 0) := (blk_cell BK764.out 2).trans rfl; have hcz142_3 : w135.cell? ⟨gb764, 3, none⟩ = some (.int .i64 0) := (blk_cell BK764.out 3).trans rfl; have hcz142_4 : w135.cell? ⟨gb764, 4, none⟩ = some (.string (⟨#[]⟩ : ByteArray)) := (blk_cell BK764.out 4).trans rfl; have hfz142_0 := blk_frozen BK764.out 0; have hfz142_1 := blk_frozen BK764.out 1; have hfz142_2 := blk_frozen BK764.out 2; have hfz142_3 := blk_frozen BK764.out 3; have hfz142_4 := blk_frozen BK764.out 4))
       obtain ⟨w143, hW_⟩ : ∃ q, q = (((((w135.setCell ⟨gb764, 0, none⟩ (.int .i64 t759)).setCell ⟨gb764, 1, none⟩ (.int .i64 t760)).setCell ⟨gb764, 2, none⟩ (.int .i64 t761)).setCell ⟨gb764, 3, none⟩ (.int .i64 t762)).setCell ⟨gb764, 4, none⟩ (.string t763)) := ⟨_, rfl⟩
       have n0_ : Aside0 (Kd.R k84 84 w143 w.heap.size (fun _ => True) u745000 x745000_1) := ⟨by rw [hW_]; exact zrs <| Kd.R_mono (zfr (zfr (zfr (zfr (zfr (Kd.R_types HO_745000.out BK764.out (by decide))))))) (fun _ hk => trivial)⟩
       have n1_ : Aside0 (Kd.R k89 89 w143 w.heap.size (fun _ => True) u745001 x745001_1) := ⟨by rw [hW_]; exact zrs <| Kd.R_mono (zfr (zfr (zfr (zfr (zfr (Kd.R_types HO_745001.out BK764.out (by decide))))))) (fun _ hk => trivial)⟩
       have n2_ : Aside0 (w143.heap[gb741]? = some (.cells #[.slice A0_0 l0_0.length c0_0, .slice A0_1 l0_1.length c0_1] 55 (0, 0))) := ⟨by rw [hW_]; exact zfar (zfar (zfar (zfar (zfar (zb BK741) NB741_764) NB741_764) NB741_764) NB741_764) NB741_764⟩
       have n3_ : Aside0 (w143.heap[gb742]? = some (.cells #[.slice A1_0 l1_0.length c1_0, .slice A1_1 l1_1.length c1_1] 55 (0, 0))) := ⟨by rw [hW_]; exact zfar (zfar (zfar (zfar (zfar (zb BK742) NB742_764) NB742_764) NB742_764) NB742_764) NB742_764⟩
       have n4_ : Aside0 (w143.heap[gb743]? = some (.cells #[.slice none 0 0, .slice none 0 0] 55 (0, 0))) := ⟨by rw [hW_]; exact zfar (zfar (zfar (zfar (zfar (zb BK743) NB743_764) NB743_764) NB743_764) NB743_764) NB743_764⟩
       have n5_ : Aside0 (w143.heap[gb744]? = some (.cells #[u745000, u745001] 55 (0, 0))) := ⟨by rw [hW_]; exact zfar (zfar (zfar (zfar (zfar (zb BK744) NB744_764) NB744_764) NB744_764) NB744_764) NB744_764⟩
       have n6_ : Aside0 (w143.heap[gb751]? = some (.cells #[.int .i64 t745, .int .i64 t746, .int .i64 t747, .int .i64 t748, .string t749] 25 (0, 0))) := ⟨by rw [hW_]; exact zfar (zfar (zfar (zfar (zfar (zb BK751) NB751_764) NB751_764) NB751_764) NB751_764) NB751_764⟩
       have n7_ : Aside0 (w143.heap[gb758]? = some (.cells #[.int .i64 t752, .int .i64 t753, .int .i64 t754, .int .i64 t755, .string t756] 25 (0, 0))) := ⟨by rw [hW_]; exact zfar (zfar (zfar (zfar (zfar (zb BK758) NB758_764) NB758_764) NB758_764) NB758_764) NB758_764⟩
       have n8_ : Aside0 (w143.heap[gb764]? = some (.cells #[.int .i64 t759, .int .i64 t760, .int .i64 t761, .int .i64 t762, .string t763] 25 (0, 0))) := ⟨by rw [hW_]; exact zput (zput (zput (zput (zput (zb BK764) 0) 1) 2) 3) 4⟩
       have n9_ : Aside0 (Below w.heap.size w w143) := ⟨by rw [hW_]; exact zB⟩
       rw [← hW_]
       clear hW_
       (try clear HO_745000)
       (try clear HO_745001)
       (try clear BK741)
       (try clear BK742)
       (try clear BK743)
       (try clear BK744)
       (try clear BK751)
       (try clear BK758)
       (try clear BK764)
       (try clear HB)
       have HO_745000 := n0_
       have HO_745001 := n1_
       have BK741 := n2_
       have BK742 := n3_
       have BK743 := n4_
       have BK744 := n5_
       have BK751 := n6_
       have BK758 := n7_
       have BK764 := n8_
       have HB := n9_
       clear n0_ n1_ n2_ n3_ n4_ n5_ n6_ n7_ n8_ n9_
       replace HO_745000 := zm (Kd.R_drew HO_745000.out)
       replace HO_745001 := zm (Kd.R_drew HO_745001.out)
       replace BK741 := zm (blk_drew BK741.out)
       replace BK742 := zm (blk_drew BK742.out)
       replace BK743 := zm (blk_drew BK743.out)
       replace BK744 := zm (blk_drew BK744.out)
       replace BK751 := zm (blk_drew BK751.out)
       replace BK758 := zm (blk_drew BK758.out)
       replace BK764 := zm (blk_drew BK764.out)
       replace HB := zm (below_drew1 HB.out)
       refine start_ (n := 8) (S := fun w' => w'.cell? ⟨gb741, 0, none⟩ = some (.slice A0_0 l0_0.length c0_0) ∧ w'.cell? ⟨gb741, 1, none⟩ = some (.slice A0_1 l0_1.length c0_1) ∧ w'.cell? ⟨gb742, 0, none⟩ = some (.slice A1_0 l1_0.length c1_0) ∧ w'.cell? ⟨gb742, 1, none⟩ = some (.slice A1_1 l1_1.length c1_1)) (ds := []) (zl 8 0) (by kernel_rfl) rfl rfl ⟨(blk_cell BK741.out 0).trans rfl, (blk_cell BK741.out 1).trans rfl, (blk_cell BK742.out 0).trans rfl, (blk_cell BK742.out 1).trans rfl⟩ (fun hHeld => ?_); refine with_tabW impl_stateJoin.tab8 impl_stateJoin.bits8 (fun HT_ HW_ => ?_)
       generalize w143.drew = w144 at HO_745000 HO_745001 BK741 BK742 BK743 BK744 BK751 BK758 BK764 HB hHeld ⊢
       refine zp 1 (some 34) (zl 8 2) ?_
       refine zp 4 (some 37) (zl 8 18) ?_
       refine zt 0 (some 33) (zl 8 19) ?_
       refine zt 3 (some 36) (zl 8 27) ?_
       refine zo 2 (some 35) (zl 8 31) (fun K hK => ?_)
       refine zgo #[.agg #[.slice A0_0 l0_0.length c0_0, .slice A0_1 l0_1.length c0_1], .int .i64 x6_1] Try.func41 ?_
       with_reducible refine (impl_FloorOf.calls k1 _ _ l0_0 _ _ l0_1 x6_1 t765 _ (zk (Kd.C_below HR0_0.out HB.out)) HC0_0.out (zk (Kd.C_below HR0_1.out HB.out)) HC0_1.out A15.out).mono ?_
       rintro e w145 ⟨rfl, hb⟩
       refine ⟨_, rfl, ?_⟩
       replace HO_745000 := zm (Kd.R_below (zr HO_745000) hb)
       replace HO_745001 := zm (Kd.R_below (zr HO_745001) hb)
       replace BK741 := zm (blk_below (zb BK741) hb)
       replace BK742 := zm (blk_below (zb BK742) hb)
       replace BK743 := zm (blk_below (zb BK743) hb)
       replace BK744 := zm (blk_below (zb BK744) hb)
       replace BK751 := zm (blk_below (zb BK751) hb)
       replace BK758 := zm (blk_below (zb BK758) hb)
       replace BK764 := zm (blk_below (zb BK764) hb)
       replace HB := zm (below_step zB hb)
       (try clear hb)
       (try clear hb2)
       (try clear hk)
       (try clear hi)
       refine hK.out _ _ ⟨(blk_cell BK741.out 0).trans rfl, (blk_cell BK741.out 1).trans rfl, (blk_cell BK742.out 0).trans rfl, (blk_cell BK742.out 1).trans rfl⟩ (fun hHeld => ?_)
       clear hK K
       refine zn ?_
       refine zo 5 (some 38) (zl 8 63) (fun K hK => ?_)
       refine zgo #[.agg #[.slice A1_0 l1_0.length c1_0, .slice A1_1 l1_1.length c1_1], .int .i64 x6_1] Try.func41 ?_
       with_reducible refine (impl_FloorOf.calls k1 _ _ l1_0 _ _ l1_1 x6_1 t766 _ (zk (Kd.C_below HR1_0.out HB.out)) HC1_0.out (zk (Kd.C_below HR1_1.out HB.out)) HC1_1.out A16.out).mono ?_
       rintro e w146 ⟨rfl, hb⟩
       refine ⟨_, rfl, ?_⟩
       replace HO_745000 := zm (Kd.R_below (zr HO_745000) hb)
       replace HO_745001 := zm (Kd.R_below (zr HO_745001) hb)
       replace BK741 := zm (blk_below (zb BK741) hb)
       replace BK742 := zm (blk_below (zb BK742) hb)
       replace BK743 := zm (blk_below (zb BK743) hb)
       replace BK744 := zm (blk_below (zb BK744) hb)
       replace BK751 := zm (blk_below (zb BK751) hb)
       replace BK758 := zm (blk_below (zb BK758) hb)
       replace BK764 := zm (blk_below (zb BK764) hb)
       replace HB := zm (below_step zB hb)
       (try clear hb)
       (try clear hb2)
       (try clear hk)
       (try clear hi)
       refine hK.out _ _ ⟨(blk_cell BK741.out 0).trans rfl, (blk_cell BK741.out 1).trans rfl, (blk_cell BK742.out 0).trans rfl, (blk_cell BK742.out 1).trans rfl⟩ (fun hHeld => ?_)
       clear hK K
       refine zn ?_
       refine zp 6 (some 39) (zl 8 127) ?_
       refine zp 7 (some 12) (zl 8 255) ?_
       refine done_ (done_of HT_.out (by kernel_rfl)) ?_
       have hcz147_0 : w146.cell? ⟨gb764, 0, none⟩ = some (.int .i64 t759) := (blk_cell BK764.out 0).trans rfl
       have hcz147_1 : w146.cell? ⟨gb764, 1, none⟩ = some (.int .i64 t760) := (blk_cell BK764.out 1).trans rfl
       have hcz147_2 : w146.cell? ⟨gb764, 2, none⟩ = some (.int .i64 t761) := (blk_cell BK764.out 2).trans rfl
       have hcz147_3 : w146.cell? ⟨gb764, 3, none⟩ = some (.int .i64 t762) := (blk_cell BK764.out 3).trans rfl
       have hcz147_4 : w146.cell? ⟨gb764, 4, none⟩ = some (.string t763) := (blk_cell BK764.out 4).trans rfl
       have hfz147_0 := blk_frozen BK764.out 0
       have hfz147_1 := blk_frozen BK764.out 1
       have hfz147_2 := blk_frozen BK764.out 2
       have hfz147_3 := blk_frozen BK764.out 3
       have hfz147_4 := blk_frozen BK764.out 4
       have hnb148 := NB744_743.out
       have hnc148 := NB743_744.out
       have hcz149_0 : w146.cell? ⟨gb744, 0, none⟩ = some (u745000) := (blk_cell BK744.out 0).trans rfl
       have hcz149_1 : w146.cell? ⟨gb744, 1, none⟩ = some (u745001) := (blk_cell BK744.out 1).trans rfl
       have hfz149_0 := blk_frozen BK744.out 0
       have hfz149_1 := blk_frozen BK744.out 1
       try go_wp2_with (first | ((with_reducible refine gate_builtin (b := .append) (xs := #[.tmp 55, .tmp 59]) rfl ?_); at_builtin; refine Kd.R_append k89 (w0 := w) w.heap.size rfl (.tmp 55) (.tmp 59) 53 89 (.agg #[(.int .i64 0), (.int .i64 0)]) 16 rfl Try.underlying53 info89 rfl (by decide) (by omega) u745001 x745001_1 (⟨x6_1, ji17⟩ : S89) [.int .i64 x6_1, .int .i64 ji17] (fun _ => True) (fun _ => False) rfl rfl ?aP (fun _ hk => hk.elim) ?aF ?aO ?aB ?aS ?aL ?_; (case aP => exact k89_mkM _ _ _ (⟨x6_1, ji17⟩ : S89)); (case aB => exact zB); (case aF => exact (fun _ _ => trivial)); (case aO => exact (zr HO_745001)); (case aS => exact (below_size zB)); (case aL => have := LMc110.out; omega); intro v774 w150 ho hb hg hat; rw [← Ny773.out] at ho; replace HO_745000 := zm (Kd.R_over' (zr HO_745000) (Kd.R_typed (zr HO_745001)) (by decide) hg); replace BK741 := zm (blk_grown (g := gb741) (o := .cells #[.slice A0_0 l0_0.length c0_0, .slice A0_1 l0_1.length c0_1] 55 (0, 0)) (zb BK741) hg (Kd.R_ne HO_745001.out BK741.out (by decide))); replace BK742 := zm (blk_grown (g := gb742) (o := .cells #[.slice A1_0 l1_0.length c1_0, .slice A1_1 l1_1.length c1_1] 55 (0, 0)) (zb BK742) hg (Kd.R_ne HO_745001.out BK742.out (by decide))); replace BK743 := zm (blk_grown (g := gb743) (o := .cells #[.slice none 0 0, .slice none 0 0] 55 (0, 0)) (zb BK743) hg (Kd.R_ne HO_745001.out BK743.out (by decide))); replace BK744 := zm (blk_grown (g := gb744) (o := .cells #[u745000, u745001] 55 (0, 0)) (zb BK744) hg (Kd.R_ne HO_745001.out BK744.out (by decide))); replace BK751 := zm (blk_grown (g := gb751) (o := .cells #[.int .i64 t745, .int .i64 t746, .int .i64 t747, .int .i64 t748, .string t749] 25 (0, 0)) (zb BK751) hg (Kd.R_ne HO_745001.out BK751.out (by decide))); replace BK758 := zm (blk_grown (g := gb758) (o := .cells #[.int .i64 t752, .int .i64 t753, .int .i64 t754, .int .i64 t755, .string t756] 25 (0, 0)) (zb BK758) hg (Kd.R_ne HO_745001.out BK758.out (by decide))); replace BK764 := zm (blk_grown (g := gb764) (o := .cells #[.int .i64 t759, .int .i64 t760, .int .i64 t761, .int .i64 t762, .string t763] 25 (0, 0)) (zb BK764) hg (Kd.R_ne HO_745001.out BK764.out (by decide))); replace HB := zm (hb); have HO775 := zm (ho); clear HO_745001; clear ho hb hg hat; obtain ⟨Ao151, co151, eo151⟩ := Kd.R_slice HO775.out; subst eo151; have hcz152_0 : w150.cell? ⟨gb744, 0, none⟩ = some (u745000) := (blk_cell BK744.out 0).trans rfl; have hcz152_1 : w150.cell? ⟨gb744, 1, none⟩ = some (u745001) := (blk_cell BK744.out 1).trans rfl; have hfz152_0 := blk_frozen BK744.out 0; have hfz152_1 := blk_frozen BK744.out 1))
       go_roundg k1
       case measure => have := HK1.out; omega
       case rel => exact ⟨(wrap64 (x6_1 + 1)), (x745000_1), (y773), (u745000), (.slice Ao151 y773.length co151), zF, H', ⟨by have := HK1.out; omega⟩, ⟨zrs <| Kd.R_mono (zfr (Kd.R_types HO_745000.out BK744.out (by decide))) (fun _ hk => trivial)⟩, ⟨zrs <| Kd.R_mono (zfr (Kd.R_types HO775.out BK744.out (by decide))) (fun _ hk => trivial)⟩, ⟨zfar (zb BK741) NB741_744⟩, ⟨zfar (zb BK742) NB742_744⟩, ⟨zfar (zb BK743) NB743_744⟩, ⟨zput (zb BK744) 1⟩, ⟨zB⟩⟩
      ·rw [if_neg c110] at H
       exact absurd H (by simp)
     ·rw [if_neg c109] at H
      have c109b0 : decide (0 < (ji17)) = false := decide_eq_false c109
      clear c109
      have H' := zm H
      clear H
      have hnb153 := NB741_742.out
      have hnc153 := NB742_741.out
      have hnb154 := NB741_743.out
      have hnc154 := NB743_741.out
      have hnb155 := NB741_744.out
      have hnc155 := NB744_741.out
      have hcz156_0 : wr.cell? ⟨gb741, 0, none⟩ = some (.slice A0_0 l0_0.length c0_0) := (blk_cell BK741.out 0).trans rfl
      have hcz156_1 : wr.cell? ⟨gb741, 1, none⟩ = some (.slice A0_1 l0_1.length c0_1) := (blk_cell BK741.out 1).trans rfl
      have hfz156_0 := blk_frozen BK741.out 0
      have hfz156_1 := blk_frozen BK741.out 1
      try go_wp2_with (first | ((with_reducible refine gate_callee (f := 38) rfl ?_); refine zg (some 21) #[.agg #[.slice A0_0 l0_0.length c0_0, .slice A0_1 l0_1.length c0_1], .int .i64 x6_1] Try.func38 ?_; (with_reducible refine (impl_EntryOf.calls k1 _ _ l0_0 _ _ l0_1 x6_1 t745 t746 t747 t748 t749 t750 _ (zk (Kd.C_below HR0_0.out HB.out)) HC0_0.out (zk (Kd.C_below HR0_1.out HB.out)) HC0_1.out A12.out).mono ?_); rintro e w157 ⟨rfl, hb⟩; refine ⟨_, rfl, ?_⟩; replace HO_745000 := zm (Kd.R_below (zr HO_745000) hb); replace HO_745001 := zm (Kd.R_below (zr HO_745001) hb); replace BK741 := zm (blk_below (zb BK741) hb); replace BK742 := zm (blk_below (zb BK742) hb); replace BK743 := zm (blk_below (zb BK743) hb); replace BK744 := zm (blk_below (zb BK744) hb); replace HB := zm (below_step zB hb); clear hb) | ((with_reducible refine gate_dst (N := 7) rfl ?_); refine zbox 7 #[.int .i64 0, .int .i64 0, .int .i64 0, .int .i64 0, .string (⟨#[]⟩ : ByteArray)] 25 ?_; intro gb751 hg w158 hbox hb; replace HO_745000 := zm (Kd.R_below (zr HO_745000) hb); replace HO_745001 := zm (Kd.R_below (zr HO_745001) hb); have BK751 := zm (hbox); have GW751 := zge w hg zB; have GE751 := zge w hg zB; replace HB := zm (below_step zB hb); have NB741_751 := zlt hg (zb BK741); have NB751_741 := zgt hg (zb BK741); replace BK741 := zm (blk_below (zb BK741) hb); have NB742_751 := zlt hg (zb BK742); have NB751_742 := zgt hg (zb BK742); replace BK742 := zm (blk_below (zb BK742) hb); have NB743_751 := zlt hg (zb BK743); have NB751_743 := zgt hg (zb BK743); replace BK743 := zm (blk_below (zb BK743) hb); have NB744_751 := zlt hg (zb BK744); have NB751_744 := zgt hg (zb BK744); replace BK744 := zm (blk_below (zb BK744) hb); clear hb hbox hg; have hnb159 := NB751_741.out; have hnc159 := NB741_751.out; have hnb160 := NB751_742.out; have hnc160 := NB742_751.out; have hnb161 := NB751_743.out; have hnc161 := NB743_751.out; have hnb162 := NB751_744.out; have hnc162 := NB744_751.out; have hcz163_0 : w158.cell? ⟨gb751, 0, none⟩ = some (.int .i64 0) := (blk_cell BK751.out 0).trans rfl; have hcz163_1 : w158.cell? ⟨gb751, 1, none⟩ = some (.int .i64 0) := (blk_cell BK751.out 1).trans rfl; have hcz163_2 : w158.cell? ⟨gb751, 2, none⟩ = some (.int .i64 0) := (blk_cell BK751.out 2).trans rfl; have hcz163_3 : w158.cell? ⟨gb751, 3, none⟩ = some (.int .i64 0) := (blk_cell BK751.out 3).trans rfl; have hcz163_4 : w158.cell? ⟨gb751, 4, none⟩ = some (.string (⟨#[]⟩ : ByteArray)) := (blk_cell BK751.out 4).trans rfl; have hfz163_0 := blk_frozen BK751.out 0; have hfz163_1 := blk_frozen BK751.out 1; have hfz163_2 := blk_frozen BK751.out 2; have hfz163_3 := blk_frozen BK751.out 3; have hfz163_4 := blk_frozen BK751.out 4; have hnb164 := NB742_743.out; have hnc164 := NB743_742.out; have hnb165 := NB742_744.out; have hnc165 := NB744_742.out; have hcz166_0 : w158.cell? ⟨gb742, 0, none⟩ = some (.slice A1_0 l1_0.length c1_0) := (blk_cell BK742.out 0).trans rfl; have hcz166_1 : w158.cell? ⟨gb742, 1, none⟩ = some (.slice A1_1 l1_1.length c1_1) := (blk_cell BK742.out 1).trans rfl; have hfz166_0 := blk_frozen BK742.out 0; have hfz166_1 := blk_frozen BK742.out 1) | ((with_reducible refine gate_callee (f := 38) rfl ?_); refine zg (some 27) #[.agg #[.slice A1_0 l1_0.length c1_0, .slice A1_1 l1_1.length c1_1], .int .i64 x6_1] Try.func38 ?_; (with_reducible refine (impl_EntryOf.calls k1 _ _ l1_0 _ _ l1_1 x6_1 t752 t753 t754 t755 t756 t757 _ ?side1 HC1_0.out ?side3 HC1_1.out A13.out).mono ?_); (case side1 => exact Kd.C_below HR1_0.out zB); (case side3 => exact Kd.C_below HR1_1.out zB); rintro e w167 ⟨rfl, hb⟩; refine ⟨_, rfl, ?_⟩; replace HO_745000 := zm (Kd.R_below (zrs <| (Kd.R_mono (zfr (zfr (zfr (zfr (zfr (Kd.R_types HO_745000.out BK751.out (by decide))))))) (fun _ h_ => h_.1))) hb); replace HO_745001 := zm (Kd.R_below (zrs <| (Kd.R_mono (zfr (zfr (zfr (zfr (zfr (Kd.R_types HO_745001.out BK751.out (by decide))))))) (fun _ h_ => h_.1))) hb); replace BK741 := zm (blk_below (g := gb741) (o := .cells #[.slice A0_0 l0_0.length c0_0, .slice A0_1 l0_1.length c0_1] 55 (0, 0)) (zfar (zfar (zfar (zfar (zfar (zb BK741) NB741_751) NB741_751) NB741_751) NB741_751) NB741_751) hb); replace BK742 := zm (blk_below (g := gb742) (o := .cells #[.slice A1_0 l1_0.length c1_0, .slice A1_1 l1_1.length c1_1] 55 (0, 0)) (zfar (zfar (zfar (zfar (zfar (zb BK742) NB742_751) NB742_751) NB742_751) NB742_751) NB742_751) hb); replace BK743 := zm (blk_below (g := gb743) (o := .cells #[.slice none 0 0, .slice none 0 0] 55 (0, 0)) (zfar (zfar (zfar (zfar (zfar (zb BK743) NB743_751) NB743_751) NB743_751) NB743_751) NB743_751) hb); replace BK744 := zm (blk_below (g := gb744) (o := .cells #[u745000, u745001] 55 (0, 0)) (zfar (zfar (zfar (zfar (zfar (zb BK744) NB744_751) NB744_751) NB744_751) NB744_751) NB744_751) hb); replace BK751 := zm (blk_below (g := gb751) (o := .cells #[.int .i64 t745, .int .i64 t746, .int .i64 t747, .int .i64 t748, .string t749] 25 (0, 0)) (zput (zput (zput (zput (zput (zb BK751) 0) 1) 2) 3) 4) hb); replace HB := zm (below_step zB hb); clear hb) | ((with_reducible refine gate_dst (N := 9) rfl ?_); refine zbox 9 #[.int .i64 0, .int .i64 0, .int .i64 0, .int .i64 0, .string (⟨#[]⟩ : ByteArray)] 25 ?_; intro gb758 hg w168 hbox hb; replace HO_745000 := zm (Kd.R_below (zr HO_745000) hb); replace HO_745001 := zm (Kd.R_below (zr HO_745001) hb); have BK758 := zm (hbox); have GW758 := zge w hg zB; have GE758 := zge w hg zB; replace HB := zm (below_step zB hb); have NB741_758 := zlt hg (zb BK741); have NB758_741 := zgt hg (zb BK741); replace BK741 := zm (blk_below (zb BK741) hb); have NB742_758 := zlt hg (zb BK742); have NB758_742 := zgt hg (zb BK742); replace BK742 := zm (blk_below (zb BK742) hb); have NB743_758 := zlt hg (zb BK743); have NB758_743 := zgt hg (zb BK743); replace BK743 := zm (blk_below (zb BK743) hb); have NB744_758 := zlt hg (zb BK744); have NB758_744 := zgt hg (zb BK744); replace BK744 := zm (blk_below (zb BK744) hb); have NB751_758 := zlt hg (zb BK751); have NB758_751 := zgt hg (zb BK751); replace BK751 := zm (blk_below (zb BK751) hb); clear hb hbox hg; have hnb169 := NB758_741.out; have hnc169 := NB741_758.out; have hnb170 := NB758_742.out; have hnc170 := NB742_758.out; have hnb171 := NB758_743.out; have hnc171 := NB743_758.out; have hnb172 := NB758_744.out; have hnc172 := NB744_758.out; have hnb173 := NB758_751.out; have hnc173 := NB751_758.out; have hcz174_0 : w168.cell? ⟨gb758, 0, none⟩ = some (.int .i64 0) := (blk_cell BK758.out 0).trans rfl; have hcz174_1 : w168.cell? ⟨gb758, 1, none⟩ = some (.int .i64 0) := (blk_cell BK758.out 1).trans rfl; have hcz174_2 : w168.cell? ⟨gb758, 2, none⟩ = some (.int .i64 0) := (blk_cell BK758.out 2).trans rfl; have hcz174_3 : w168.cell? ⟨gb758, 3, none⟩ = some (.int .i64 0) := (blk_cell BK758.out 3).trans rfl; have hcz174_4 : w168.cell? ⟨gb758, 4, none⟩ = some (.string (⟨#[]⟩ : ByteArray)) := (blk_cell BK758.out 4).trans rfl; have hfz174_0 := blk_frozen BK758.out 0; have hfz174_1 := blk_frozen BK758.out 1; have hfz174_2 := blk_frozen BK758.out 2; have hfz174_3 := blk_frozen BK758.out 3; have hfz174_4 := blk_frozen BK758.out 4; have hcz175_0 : w168.cell? ⟨gb751, 0, none⟩ = some (.int .i64 t745) := (blk_cell BK751.out 0).trans rfl; have hcz175_1 : w168.cell? ⟨gb751, 1, none⟩ = some (.int .i64 t746) := (blk_cell BK751.out 1).trans rfl; have hcz175_2 : w168.cell? ⟨gb751, 2, none⟩ = some (.int .i64 t747) := (blk_cell BK751.out 2).trans rfl; have hcz175_3 : w168.cell? ⟨gb751, 3, none⟩ = some (.int .i64 t748) := (blk_cell BK751.out 3).trans rfl; have hcz175_4 : w168.cell? ⟨gb751, 4, none⟩ = some (.string t749) := (blk_cell BK751.out 4).trans rfl; have hfz175_0 := blk_frozen BK751.out 0; have hfz175_1 := blk_frozen BK751.out 1; have hfz175_2 := blk_frozen BK751.out 2; have hfz175_3 := blk_frozen BK751.out 3; have hfz175_4 := blk_frozen BK751.out 4) | ((with_reducible refine gate_callee (f := 18) rfl ?_); refine zg (some 32) #[.agg #[.int .i64 t745, .int .i64 t746, .int .i64 t747, .int .i64 t748, .string t749], .agg #[.int .i64 t752, .int .i64 t753, .int .i64 t754, .int .i64 t755, .string t756]] Try.func18 ?_; (with_reducible refine (impl_EntryMax.calls k1 t745 t746 t747 t748 t749 t752 t753 t754 t755 t756 t759 t760 t761 t762 t763 _ A14.out).mono ?_); rintro e w176 ⟨rfl, hb⟩; refine ⟨_, rfl, ?_⟩; replace HO_745000 := zm (Kd.R_below (zrs <| (Kd.R_mono (zfr (zfr (zfr (zfr (zfr (Kd.R_types HO_745000.out BK758.out (by decide))))))) (fun _ h_ => h_.1))) hb); replace HO_745001 := zm (Kd.R_below (zrs <| (Kd.R_mono (zfr (zfr (zfr (zfr (zfr (Kd.R_types HO_745001.out BK758.out (by decide))))))) (fun _ h_ => h_.1))) hb); replace BK741 := zm (blk_below (g := gb741) (o := .cells #[.slice A0_0 l0_0.length c0_0, .slice A0_1 l0_1.length c0_1] 55 (0, 0)) (zfar (zfar (zfar (zfar (zfar (zb BK741) NB741_758) NB741_758) NB741_758) NB741_758) NB741_758) hb); replace BK742 := zm (blk_below (g := gb742) (o := .cells #[.slice A1_0 l1_0.length c1_0, .slice A1_1 l1_1.length c1_1] 55 (0, 0)) (zfar (zfar (zfar (zfar (zfar (zb BK742) NB742_758) NB742_758) NB742_758) NB742_758) NB742_758) hb); replace BK743 := zm (blk_below (g := gb743) (o := .cells #[.slice none 0 0, .slice none 0 0] 55 (0, 0)) (zfar (zfar (zfar (zfar (zfar (zb BK743) NB743_758) NB743_758) NB743_758) NB743_758) NB743_758) hb); replace BK744 := zm (blk_below (g := gb744) (o := .cells #[u745000, u745001] 55 (0, 0)) (zfar (zfar (zfar (zfar (zfar (zb BK744) NB744_758) NB744_758) NB744_758) NB744_758) NB744_758) hb); replace BK751 := zm (blk_below (g := gb751) (o := .cells #[.int .i64 t745, .int .i64 t746, .int .i64 t747, .int .i64 t748, .string t749] 25 (0, 0)) (zfar (zfar (zfar (zfar (zfar (zb BK751) NB751_758) NB751_758) NB751_758) NB751_758) NB751_758) hb); replace BK758 := zm (blk_below (g := gb758) (o := .cells #[.int .i64 t752, .int .i64 t753, .int .i64 t754, .int .i64 t755, .string t756] 25 (0, 0)) (zput (zput (zput (zput (zput (zb BK758) 0) 1) 2) 3) 4) hb); replace HB := zm (below_step zB hb); clear hb) | ((with_reducible refine gate_dst (N := 11) rfl ?_); refine zbox 11 #[.int .i64 0, .int .i64 0, .int .i64 0, .int .i64 0, .string (⟨#[]⟩ : ByteArray)] 25 ?_; intro gb764 hg w177 hbox hb; replace HO_745000 := zm (Kd.R_below (zr HO_745000) hb); replace HO_745001 := zm (Kd.R_below (zr HO_745001) hb); have BK764 := zm (hbox); have GW764 := zge w hg zB; have GE764 := zge w hg zB; replace HB := zm (below_step zB hb); have NB741_764 := zlt hg (zb BK741); have NB764_741 := zgt hg (zb BK741); replace BK741 := zm (blk_below (zb BK741) hb); have NB742_764 := zlt hg (zb BK742); have NB764_742 := zgt hg (zb BK742); replace BK742 := zm (blk_below (zb BK742) hb); have NB743_764 := zlt hg (zb BK743); have NB764_743 := zgt hg (zb BK743); replace BK743 := zm (blk_below (zb BK743) hb); have NB744_764 := zlt hg (zb BK744); have NB764_744 := zgt hg (zb BK744); replace BK744 := zm (blk_below (zb BK744) hb); have NB751_764 := zlt hg (zb BK751); have NB764_751 := zgt hg (zb BK751); replace BK751 := zm (blk_below (zb BK751) hb); have NB758_764 := zlt hg (zb BK758); have NB764_758 := zgt hg (zb BK758); replace BK758 := zm (blk_below (zb BK758) hb); clear hb hbox hg; have hnb178 := NB764_741.out; have hnc178 := NB741_764.out; have hnb179 := NB764_742.out; have hnc179 := NB742_764.out; have hnb180 := NB764_743.out; have hnc180 := NB743_764.out; have hnb181 := NB764_744.out; have hnc181 := NB744_764.out; have hnb182 := NB764_751.out; have hnc182 := NB751_764.out; have hnb183 := NB764_758.out; have hnc183 := NB758_764.out; have hcz184_0 : w177.cell? ⟨gb764, 0, none⟩ = some (.int .i64 0) := (blk_cell BK764.out 0).trans rfl; have hcz184_1 : w177.cell? ⟨gb764, 1, none⟩ = some (.int .i64 0) := (blk_cell BK764.out 1).trans rfl; have hcz184_2 : w177.cell? ⟨gb764, 2, none⟩ = some (.int .i64 0) := (blk_cell BK764.out 2).trans rfl; have hcz184_3 : w177.cell? ⟨gb764, 3, none⟩ = some (.int .i64 0) := (blk_cell BK764.out 3).trans rfl; have hcz184_4 : w177.cell? ⟨gb764, 4, none⟩ = some (.string (⟨#[]⟩ : ByteArray)) := (blk_cell BK764.out 4).trans rfl; have hfz184_0 := blk_frozen BK764.out 0; have hfz184_1 := blk_frozen BK764.out 1; have hfz184_2 := blk_frozen BK764.out 2; have hfz184_3 := blk_frozen BK764.out 3; have hfz184_4 := blk_frozen BK764.out 4))
      obtain ⟨w185, hW_⟩ : ∃ q, q = (((((w177.setCell ⟨gb764, 0, none⟩ (.int .i64 t759)).setCell ⟨gb764, 1, none⟩ (.int .i64 t760)).setCell ⟨gb764, 2, none⟩ (.int .i64 t761)).setCell ⟨gb764, 3, none⟩ (.int .i64 t762)).setCell ⟨gb764, 4, none⟩ (.string t763)) := ⟨_, rfl⟩
      have n0_ : Aside0 (Kd.R k84 84 w185 w.heap.size (fun _ => True) u745000 x745000_1) := ⟨by rw [hW_]; exact zrs <| Kd.R_mono (zfr (zfr (zfr (zfr (zfr (Kd.R_types HO_745000.out BK764.out (by decide))))))) (fun _ hk => trivial)⟩
      have n1_ : Aside0 (Kd.R k89 89 w185 w.heap.size (fun _ => True) u745001 x745001_1) := ⟨by rw [hW_]; exact zrs <| Kd.R_mono (zfr (zfr (zfr (zfr (zfr (Kd.R_types HO_745001.out BK764.out (by decide))))))) (fun _ hk => trivial)⟩
      have n2_ : Aside0 (w185.heap[gb741]? = some (.cells #[.slice A0_0 l0_0.length c0_0, .slice A0_1 l0_1.length c0_1] 55 (0, 0))) := ⟨by rw [hW_]; exact zfar (zfar (zfar (zfar (zfar (zb BK741) NB741_764) NB741_764) NB741_764) NB741_764) NB741_764⟩
      have n3_ : Aside0 (w185.heap[gb742]? = some (.cells #[.slice A1_0 l1_0.length c1_0, .slice A1_1 l1_1.length c1_1] 55 (0, 0))) := ⟨by rw [hW_]; exact zfar (zfar (zfar (zfar (zfar (zb BK742) NB742_764) NB742_764) NB742_764) NB742_764) NB742_764⟩
      have n4_ : Aside0 (w185.heap[gb743]? = some (.cells #[.slice none 0 0, .slice none 0 0] 55 (0, 0))) := ⟨by rw [hW_]; exact zfar (zfar (zfar (zfar (zfar (zb BK743) NB743_764) NB743_764) NB743_764) NB743_764) NB743_764⟩
      have n5_ : Aside0 (w185.heap[gb744]? = some (.cells #[u745000, u745001] 55 (0, 0))) := ⟨by rw [hW_]; exact zfar (zfar (zfar (zfar (zfar (zb BK744) NB744_764) NB744_764) NB744_764) NB744_764) NB744_764⟩
      have n6_ : Aside0 (w185.heap[gb751]? = some (.cells #[.int .i64 t745, .int .i64 t746, .int .i64 t747, .int .i64 t748, .string t749] 25 (0, 0))) := ⟨by rw [hW_]; exact zfar (zfar (zfar (zfar (zfar (zb BK751) NB751_764) NB751_764) NB751_764) NB751_764) NB751_764⟩
      have n7_ : Aside0 (w185.heap[gb758]? = some (.cells #[.int .i64 t752, .int .i64 t753, .int .i64 t754, .int .i64 t755, .string t756] 25 (0, 0))) := ⟨by rw [hW_]; exact zfar (zfar (zfar (zfar (zfar (zb BK758) NB758_764) NB758_764) NB758_764) NB758_764) NB758_764⟩
      have n8_ : Aside0 (w185.heap[gb764]? = some (.cells #[.int .i64 t759, .int .i64 t760, .int .i64 t761, .int .i64 t762, .string t763] 25 (0, 0))) := ⟨by rw [hW_]; exact zput (zput (zput (zput (zput (zb BK764) 0) 1) 2) 3) 4⟩
      have n9_ : Aside0 (Below w.heap.size w w185) := ⟨by rw [hW_]; exact zB⟩
      rw [← hW_]
      clear hW_
      (try clear HO_745000)
      (try clear HO_745001)
      (try clear BK741)
      (try clear BK742)
      (try clear BK743)
      (try clear BK744)
      (try clear BK751)
      (try clear BK758)
      (try clear BK764)
      (try clear HB)
      have HO_745000 := n0_
      have HO_745001 := n1_
      have BK741 := n2_
      have BK742 := n3_
      have BK743 := n4_
      have BK744 := n5_
      have BK751 := n6_
      have BK758 := n7_
      have BK764 := n8_
      have HB := n9_
      clear n0_ n1_ n2_ n3_ n4_ n5_ n6_ n7_ n8_ n9_
      replace HO_745000 := zm (Kd.R_drew HO_745000.out)
      replace HO_745001 := zm (Kd.R_drew HO_745001.out)
      replace BK741 := zm (blk_drew BK741.out)
      replace BK742 := zm (blk_drew BK742.out)
      replace BK743 := zm (blk_drew BK743.out)
      replace BK744 := zm (blk_drew BK744.out)
      replace BK751 := zm (blk_drew BK751.out)
      replace BK758 := zm (blk_drew BK758.out)
      replace BK764 := zm (blk_drew BK764.out)
      replace HB := zm (below_drew1 HB.out)
      refine start_ (n := 8) (S := fun w' => w'.cell? ⟨gb741, 0, none⟩ = some (.slice A0_0 l0_0.length c0_0) ∧ w'.cell? ⟨gb741, 1, none⟩ = some (.slice A0_1 l0_1.length c0_1) ∧ w'.cell? ⟨gb742, 0, none⟩ = some (.slice A1_0 l1_0.length c1_0) ∧ w'.cell? ⟨gb742, 1, none⟩ = some (.slice A1_1 l1_1.length c1_1)) (ds := []) (zl 8 0) (by kernel_rfl) rfl rfl ⟨(blk_cell BK741.out 0).trans rfl, (blk_cell BK741.out 1).trans rfl, (blk_cell BK742.out 0).trans rfl, (blk_cell BK742.out 1).trans rfl⟩ (fun hHeld => ?_); refine with_tabW impl_stateJoin.tab8 impl_stateJoin.bits8 (fun HT_ HW_ => ?_)
      generalize w185.drew = w186 at HO_745000 HO_745001 BK741 BK742 BK743 BK744 BK751 BK758 BK764 HB hHeld ⊢
      refine zp 1 (some 34) (zl 8 2) ?_
      refine zp 4 (some 37) (zl 8 18) ?_
      refine zt 0 (some 33) (zl 8 19) ?_
      refine zt 3 (some 36) (zl 8 27) ?_
      refine zo 2 (some 35) (zl 8 31) (fun K hK => ?_)
      refine zgo #[.agg #[.slice A0_0 l0_0.length c0_0, .slice A0_1 l0_1.length c0_1], .int .i64 x6_1] Try.func41 ?_
      with_reducible refine (impl_FloorOf.calls k1 _ _ l0_0 _ _ l0_1 x6_1 t765 _ (zk (Kd.C_below HR0_0.out HB.out)) HC0_0.out (zk (Kd.C_below HR0_1.out HB.out)) HC0_1.out A15.out).mono ?_
      rintro e w187 ⟨rfl, hb⟩
      refine ⟨_, rfl, ?_⟩
      replace HO_745000 := zm (Kd.R_below (zr HO_745000) hb)
      replace HO_745001 := zm (Kd.R_below (zr HO_745001) hb)
      replace BK741 := zm (blk_below (zb BK741) hb)
      replace BK742 := zm (blk_below (zb BK742) hb)
      replace BK743 := zm (blk_below (zb BK743) hb)
      replace BK744 := zm (blk_below (zb BK744) hb)
      replace BK751 := zm (blk_below (zb BK751) hb)
      replace BK758 := zm (blk_below (zb BK758) hb)
      replace BK764 := zm (blk_below (zb BK764) hb)
      replace HB := zm (below_step zB hb)
      (try clear hb)
      (try clear hb2)
      (try clear hk)
      (try clear hi)
      refine hK.out _ _ ⟨(blk_cell BK741.out 0).trans rfl, (blk_cell BK741.out 1).trans rfl, (blk_cell BK742.out 0).trans rfl, (blk_cell BK742.out 1).trans rfl⟩ (fun hHeld => ?_)
      clear hK K
      refine zn ?_
      refine zo 5 (some 38) (zl 8 63) (fun K hK => ?_)
      refine zgo #[.agg #[.slice A1_0 l1_0.length c1_0, .slice A1_1 l1_1.length c1_1], .int .i64 x6_1] Try.func41 ?_
      with_reducible refine (impl_FloorOf.calls k1 _ _ l1_0 _ _ l1_1 x6_1 t766 _ (zk (Kd.C_below HR1_0.out HB.out)) HC1_0.out (zk (Kd.C_below HR1_1.out HB.out)) HC1_1.out A16.out).mono ?_
      rintro e w188 ⟨rfl, hb⟩
      refine ⟨_, rfl, ?_⟩
      replace HO_745000 := zm (Kd.R_below (zr HO_745000) hb)
      replace HO_745001 := zm (Kd.R_below (zr HO_745001) hb)
      replace BK741 := zm (blk_below (zb BK741) hb)
      replace BK742 := zm (blk_below (zb BK742) hb)
      replace BK743 := zm (blk_below (zb BK743) hb)
      replace BK744 := zm (blk_below (zb BK744) hb)
      replace BK751 := zm (blk_below (zb BK751) hb)
      replace BK758 := zm (blk_below (zb BK758) hb)
      replace BK764 := zm (blk_below (zb BK764) hb)
      replace HB := zm (below_step zB hb)
      (try clear hb)
      (try clear hb2)
      (try clear hk)
      (try clear hi)
      refine hK.out _ _ ⟨(blk_cell BK741.out 0).trans rfl, (blk_cell BK741.out 1).trans rfl, (blk_cell BK742.out 0).trans rfl, (blk_cell BK742.out 1).trans rfl⟩ (fun hHeld => ?_)
      clear hK K
      refine zn ?_
      refine zp 6 (some 39) (zl 8 127) ?_
      refine zp 7 (some 12) (zl 8 255) ?_
      refine done_ (done_of HT_.out (by kernel_rfl)) ?_
      have hcz189_0 : w188.cell? ⟨gb764, 0, none⟩ = some (.int .i64 t759) := (blk_cell BK764.out 0).trans rfl
      have hcz189_1 : w188.cell? ⟨gb764, 1, none⟩ = some (.int .i64 t760) := (blk_cell BK764.out 1).trans rfl
      have hcz189_2 : w188.cell? ⟨gb764, 2, none⟩ = some (.int .i64 t761) := (blk_cell BK764.out 2).trans rfl
      have hcz189_3 : w188.cell? ⟨gb764, 3, none⟩ = some (.int .i64 t762) := (blk_cell BK764.out 3).trans rfl
      have hcz189_4 : w188.cell? ⟨gb764, 4, none⟩ = some (.string t763) := (blk_cell BK764.out 4).trans rfl
      have hfz189_0 := blk_frozen BK764.out 0
      have hfz189_1 := blk_frozen BK764.out 1
      have hfz189_2 := blk_frozen BK764.out 2
      have hfz189_3 := blk_frozen BK764.out 3
      have hfz189_4 := blk_frozen BK764.out 4
      try go_wp2
      go_roundg k1
      case measure => have := HK1.out; omega
      case rel => exact ⟨(wrap64 (x6_1 + 1)), (x745000_1), (x745001_1), (u745000), (u745001), zF, H', ⟨by have := HK1.out; omega⟩, ⟨zr HO_745000⟩, ⟨zr HO_745001⟩, ⟨zb BK741⟩, ⟨zb BK742⟩, ⟨zb BK743⟩, ⟨zb BK744⟩, ⟨zB⟩⟩
   ·rw [if_neg c11] at H
    have c11b0 : decide (x6_1 < 5) = false := decide_eq_false c11
    clear c11
    simp only [Option.some.injEq, Prod.mk.injEq] at H
    obtain ⟨rfl, rfl⟩ := H
    have hnb190 := NB744_741.out
    have hnc190 := NB741_744.out
    have hnb191 := NB744_742.out
    have hnc191 := NB742_744.out
    have hnb192 := NB744_743.out
    have hnc192 := NB743_744.out
    have hcz193_0 : wr.cell? ⟨gb744, 0, none⟩ = some (u745000) := (blk_cell BK744.out 0).trans rfl
    have hcz193_1 : wr.cell? ⟨gb744, 1, none⟩ = some (u745001) := (blk_cell BK744.out 1).trans rfl
    have hfz193_0 := blk_frozen BK744.out 0
    have hfz193_1 := blk_frozen BK744.out 1
    obtain ⟨Ao194, co194, eo194⟩ := Kd.R_slice HO_745000.out
    subst eo194
    have hnb195 := NB743_741.out
    have hnc195 := NB741_743.out
    have hnb196 := NB743_742.out
    have hnc196 := NB742_743.out
    have hcz197_0 : wr.cell? ⟨gb743, 0, none⟩ = some (.slice none 0 0) := (blk_cell BK743.out 0).trans rfl
    have hcz197_1 : wr.cell? ⟨gb743, 1, none⟩ = some (.slice none 0 0) := (blk_cell BK743.out 1).trans rfl
    have hfz197_0 := blk_frozen BK743.out 0
    have hfz197_1 := blk_frozen BK743.out 1
    obtain ⟨Ao198, co198, eo198⟩ := Kd.R_slice HO_745001.out
    subst eo198
    go_wp2
    refine bodyPost_ret (results_cell_row rfl _ _ gb743 55 #[.slice Ao194 x745000_1.length co194, .slice Ao198 x745001_1.length co198] (0, 0) _ rfl (zput (zput (zb BK743) 0) 1) Try.underlying55 rfl (by kernel_rfl)) rfl ?_
    exact ⟨_, _, zE, zrs <| Kd.R_mono (zfr (zfr (Kd.R_types HO_745000.out BK743.out (by decide)))) (fun _ hk => trivial), zrs <| Kd.R_mono (zfr (zfr (Kd.R_types HO_745001.out BK743.out (by decide)))) (fun _ hk => trivial), zB⟩

end Go.Proofs.Ythljdiniccpobaa.P
