-- by a program of this session, for this seat
import Derived.Test.YtgapdegniepjiaaZ
import Derived.Test.YtgapdegniepjiaaP0
import Derived.Test.YtgapdegniepjiaaPae
import Derived.Test.YtgapdegniepjiaaPad
namespace Go.Proofs.Ytgapdegniepjiaa.P
open Go.RowKit Go.Proofs.YtgapdegniepjiaaW.PrintWords Go.Proofs.YtgapdegniepjiaaW.PrintLast Go.Proofs.YtgapdegniepjiaaW.PrintMore Go.Proofs.Ytgapdegniepjiaa.Z
attribute [local go_sem] max2_int min2_int max_two min_two max_three min_three max_four min_four   -- for this text's walks alone
set_option linter.unusedVariables false
set_option linter.unusedSimpArgs false

/-! ### spec_EntryOf: function 74 -/
def spec_EntryOf.l0 : Nat → Int → Int → List (S68) → List (S72) → Option (Int × Int × Int × Int × ByteArray × Bool)
 | 0, _, _, _, _ => none
 | k + 1, x1, x6, x209000, x209001 => if x6 < (x209000.length : Int) then (if 0 ≤ x6 then (if ((rd_T68 x209000 x6).f0) = x1 then (some ((rd_T68 x209000 x6).f1.f0, (rd_T68 x209000 x6).f1.f1, (rd_T68 x209000 x6).f1.f2, (rd_T68 x209000 x6).f1.f3, (rd_T68 x209000 x6).f1.f4, true)) else (spec_EntryOf.l0 k x1 (wrap64 (x6 + 1)) x209000 x209001)) else (none)) else (some (0, 0, 0, 0, (⟨#[]⟩ : ByteArray), false))
def spec_EntryOf.f (k : Nat) (l0_0 : List (S68)) (l0_1 : List (S72)) (a1 : Int) : Option (Int × Int × Int × Int × ByteArray × Bool) := spec_EntryOf.l0 k a1 0 l0_0 l0_1
theorem spec_EntryOf.mono_l : ∀ k, (∀ y0 y1 y2 y3, LeO (spec_EntryOf.l0 k y0 y1 y2 y3) (spec_EntryOf.l0 (k + 1) y0 y1 y2 y3))
 | 0 => fun _ _ _ _ r h => by simp [spec_EntryOf.l0] at h
 | k + 1 => by
  have ih0 := spec_EntryOf.mono_l k
  ·intro y0 y1 y2 y3
   unfold spec_EntryOf.l0
   repeat' first
   | (with_reducible exact ih0 _ _ _ _)
   | (with_reducible exact LeO.refl _)
   | (with_reducible exact LeO.none _)
   | (with_reducible refine LeO.ite ?_ ?_)
   | (with_reducible refine LeO.bind ?_ (fun _ => ?_))
   | exact ih0 _ _ _ _
   | exact LeO.none _
   | refine LeO.ite ?_ ?_
   | refine LeO.bind ?_ (fun _ => ?_)
theorem spec_EntryOf.mono : ∀ a0 a1 a2 k, LeO (spec_EntryOf.f k a0 a1 a2) (spec_EntryOf.f (k + 1) a0 a1 a2) := by
 intro a0 a1 a2 k
 have ih0 := spec_EntryOf.mono_l k
 unfold spec_EntryOf.f
 repeat' first
   | (with_reducible exact ih0 _ _ _ _)
   | (with_reducible exact LeO.refl _)
   | (with_reducible exact LeO.none _)
   | (with_reducible refine LeO.ite ?_ ?_)
   | (with_reducible refine LeO.bind ?_ (fun _ => ?_))
   | exact ih0 _ _ _ _
   | exact LeO.none _
   | refine LeO.ite ?_ ?_
   | refine LeO.bind ?_ (fun _ => ?_)
set_option maxHeartbeats 8000000 in
set_option maxRecDepth 100000 in
theorem spec_EntryOf.calls (k : Nat) (A0_0 : Option Addr) (c0_0 : Nat) (l0_0 : List (S68)) (A0_1 : Option Addr) (c0_1 : Nat) (l0_1 : List (S72)) (a1 : Int) (r1 : Int) (r2 : Int) (r3 : Int) (r4 : Int) (r5 : ByteArray) (r6 : Bool) (w : World) (hr0_0 : Kd.C k68 w A0_0 l0_0.length l0_0) (hc0_0 : l0_0.length ≤ c0_0) (hr0_1 : Kd.C k72 w A0_1 l0_1.length l0_1) (hc0_1 : l0_1.length ≤ c0_1) (h : spec_EntryOf.f k l0_0 l0_1 a1 = some (r1, r2, r3, r4, r5, r6)) :
  Calls Try.prog 74 #[.agg #[.slice A0_0 l0_0.length c0_0, .slice A0_1 l0_1.length c0_1], .int .i64 a1] w fun e w' => e = .returned (.tuple #[.agg #[.int .i64 r1, .int .i64 r2, .int .i64 r3, .int .i64 r4, .string r5], .bool r6]) ∧ Below w.heap.size w w' := by
 have hu32 := Try.underlying32
 have hu66 := Try.underlying66
 have HR0_0 := zm hr0_0
 have HC0_0 := zm hc0_0
 clear hr0_0 hc0_0
 have HR0_1 := zm hr0_1
 have HC0_1 := zm hc0_1
 clear hr0_1 hc0_1
 have HB := zm (Below.refl w.heap.size w)
 have H : (spec_EntryOf.l0 k a1 0 l0_0 l0_1) = some (r1, r2, r3, r4, r5, r6) := h
 clear h
 have H' := zm H
 clear H
 go_enter Try.func74, Try.ntmps74
 go_wp2_with (first | ((with_reducible refine gate_dst (N := 2) rfl ?_); refine zbox 2 #[.slice A0_0 l0_0.length c0_0, .slice A0_1 l0_1.length c0_1] 32 ?_; intro gb208 hg w3 hbox hb; have BK208 := zm (hbox); have GW208 := zge w hg zB; have GE208 := zge w hg zB; replace HB := zm (below_step zB hb); clear hb hbox hg) | ((with_reducible refine gate_dst (N := 4) rfl ?_); refine zbox 4 #[.int .i64 0, .int .i64 0, .int .i64 0, .int .i64 0, .string (⟨#[]⟩ : ByteArray)] 66 ?_; intro gb209 hg w4 hbox hb; have BK209 := zm (hbox); have GW209 := zge w hg zB; have GE209 := zge w hg zB; replace HB := zm (below_step zB hb); have NB208_209 := zlt hg (zb BK208); have NB209_208 := zgt hg (zb BK208); replace BK208 := zm (blk_below (zb BK208) hb); clear hb hbox hg))
 go_loopg [6] k (fun kq v6 w' => ∃ (x6_1 : Int) (x210000_1 : Int) (x210001_1 : Int) (x210002_1 : Int) (x210003_1 : Int) (x210004_1 : ByteArray), v6 = .int .i64 x6_1 ∧ Aside0 (spec_EntryOf.l0 kq a1 x6_1 l0_0 l0_1 = some (r1, r2, r3, r4, r5, r6)) ∧ Aside0 (kq ≤ k) ∧ Aside0 (w'.heap[gb208]? = some (.cells #[(.slice A0_0 l0_0.length c0_0), (.slice A0_1 l0_1.length c0_1)] 32 (0, 0))) ∧ Aside0 (w'.heap[gb209]? = some (.cells #[.int .i64 x210000_1, .int .i64 x210001_1, .int .i64 x210002_1, .int .i64 x210003_1, .string x210004_1] 66 (0, 0))) ∧ Aside0 (Below w.heap.size w w'))
 case atStart => exact ⟨(0), (0), (0), (0), (0), ((⟨#[]⟩ : ByteArray)), zF, H', ⟨Nat.le_refl _⟩, ⟨zb BK208⟩, ⟨zb BK209⟩, ⟨zB⟩⟩
 case round =>
  clear H'
  try clear p2
  obtain ⟨x6_1, x210000_1, x210001_1, x210002_1, x210003_1, x210004_1, rfl, HA, HK1, BK208, BK209, HB⟩ := hrel
  cases gk with
  | zero => exact absurd HA.out (by simp [spec_EntryOf.l0])
  | succ k1 =>
   have H := HA.out
   clear HA
   simp only [spec_EntryOf.l0] at H
   by_cases c5 : x6_1 < (l0_0.length : Int)
   ·rw [if_pos c5] at H
    have c5b0 : decide (x6_1 < (l0_0.length : Int)) = true := decide_eq_true c5
    clear c5
    by_cases c6 : 0 ≤ x6_1
    ·rw [if_pos c6] at H
     have c6b0 : decide (0 ≤ x6_1) = true := decide_eq_true c6
     clear c6
     by_cases c7 : ((rd_T68 l0_0 x6_1).f0) = a1
     ·rw [if_pos c7] at H
      have c7b0 : (((rd_T68 l0_0 x6_1).f0) == a1) = true := beq_iff_eq.mpr c7
      have c7b1 : (((rd_T68 l0_0 x6_1).f0) != a1) = false := bne_eq_false_iff_eq.mpr c7
      clear c7
      simp only [Option.some.injEq, Prod.mk.injEq] at H
      obtain ⟨rfl, rfl, rfl, rfl, rfl, rfl⟩ := H
      have hnb8 := NB208_209.out
      have hnc8 := NB209_208.out
      have hcz9_0 : wr.cell? ⟨gb208, 0, none⟩ = some (.slice A0_0 l0_0.length c0_0) := (blk_cell BK208.out 0).trans rfl
      have hcz9_1 : wr.cell? ⟨gb208, 1, none⟩ = some (.slice A0_1 l0_1.length c0_1) := (blk_cell BK208.out 1).trans rfl
      have hfz9_0 := blk_frozen BK208.out 0
      have hfz9_1 := blk_frozen BK208.out 1
      have p210 : 0 ≤ (x6_1 : Int) := zd
      have q210 : x6_1 < (l0_0.length : Int) := zd
      obtain ⟨ad210, e210, hx210_0, hx210_1, hx210_2, hx210_3, hx210_4, hx210_5⟩ := at_T68 (Kd.C_below HR0_0.out HB.out) x6_1 p210 q210
      cases e210
      replace p210 := eq_true p210
      replace q210 := eq_true q210
      have p211 : 0 ≤ (x6_1 : Int) := zd
      have q211 : x6_1 < (l0_0.length : Int) := zd
      obtain ⟨ad211, e211, hx211_0, hx211_1, hx211_2, hx211_3, hx211_4, hx211_5⟩ := at_T68 (Kd.C_below HR0_0.out HB.out) x6_1 p211 q211
      obtain rfl : ad210 = ad211 := (by injection e211)
      replace p211 := eq_true p211
      replace q211 := eq_true q211
      have hcz10_0 : wr.cell? ⟨gb209, 0, none⟩ = some (.int .i64 x210000_1) := (blk_cell BK209.out 0).trans rfl
      have hcz10_1 : wr.cell? ⟨gb209, 1, none⟩ = some (.int .i64 x210001_1) := (blk_cell BK209.out 1).trans rfl
      have hcz10_2 : wr.cell? ⟨gb209, 2, none⟩ = some (.int .i64 x210002_1) := (blk_cell BK209.out 2).trans rfl
      have hcz10_3 : wr.cell? ⟨gb209, 3, none⟩ = some (.int .i64 x210003_1) := (blk_cell BK209.out 3).trans rfl
      have hcz10_4 : wr.cell? ⟨gb209, 4, none⟩ = some (.string x210004_1) := (blk_cell BK209.out 4).trans rfl
      have hfz10_0 := blk_frozen BK209.out 0
      have hfz10_1 := blk_frozen BK209.out 1
      have hfz10_2 := blk_frozen BK209.out 2
      have hfz10_3 := blk_frozen BK209.out 3
      have hfz10_4 := blk_frozen BK209.out 4
      go_wp2
      refine bodyPost_ret (results_ct rfl _ _ gb209 66 #[.int .i64 ((rd_T68 l0_0 x6_1).f1.f0), .int .i64 ((rd_T68 l0_0 x6_1).f1.f1), .int .i64 ((rd_T68 l0_0 x6_1).f1.f2), .int .i64 ((rd_T68 l0_0 x6_1).f1.f3), .string ((rd_T68 l0_0 x6_1).f1.f4)] (0, 0) _ rfl (zput (zput (zput (zput (zput (zb BK209) 0) 1) 2) 3) 4) Try.underlying66 rfl (by kernel_rfl)) rfl ?_
      exact ⟨zE, zB⟩
     ·rw [if_neg c7] at H
      have c7b0 : (((rd_T68 l0_0 x6_1).f0) == a1) = false := beq_eq_false_iff_ne.mpr c7
      have c7b1 : (((rd_T68 l0_0 x6_1).f0) != a1) = true := bne_iff_ne.mpr c7
      have H' := zm H
      clear H
      have hnb11 := NB208_209.out
      have hnc11 := NB209_208.out
      have hcz12_0 : wr.cell? ⟨gb208, 0, none⟩ = some (.slice A0_0 l0_0.length c0_0) := (blk_cell BK208.out 0).trans rfl
      have hcz12_1 : wr.cell? ⟨gb208, 1, none⟩ = some (.slice A0_1 l0_1.length c0_1) := (blk_cell BK208.out 1).trans rfl
      have hfz12_0 := blk_frozen BK208.out 0
      have hfz12_1 := blk_frozen BK208.out 1
      have p210 : 0 ≤ (x6_1 : Int) := zd
      have q210 : x6_1 < (l0_0.length : Int) := zd
      obtain ⟨ad210, e210, hx210_0, hx210_1, hx210_2, hx210_3, hx210_4, hx210_5⟩ := at_T68 (Kd.C_below HR0_0.out HB.out) x6_1 p210 q210
      cases e210
      replace p210 := eq_true p210
      replace q210 := eq_true q210
      go_wp2
      go_roundg k1
      case measure => have := HK1.out; omega
      case rel => exact ⟨(wrap64 (x6_1 + 1)), (x210000_1), (x210001_1), (x210002_1), (x210003_1), (x210004_1), zF, H', ⟨by have := HK1.out; omega⟩, ⟨zb BK208⟩, ⟨zb BK209⟩, ⟨zB⟩⟩
    ·rw [if_neg c6] at H
     exact absurd H (by simp)
   ·rw [if_neg c5] at H
    have c5b0 : decide (x6_1 < (l0_0.length : Int)) = false := decide_eq_false c5
    clear c5
    simp only [Option.some.injEq, Prod.mk.injEq] at H
    obtain ⟨rfl, rfl, rfl, rfl, rfl, rfl⟩ := H
    have hnb13 := NB208_209.out
    have hnc13 := NB209_208.out
    have hcz14_0 : wr.cell? ⟨gb208, 0, none⟩ = some (.slice A0_0 l0_0.length c0_0) := (blk_cell BK208.out 0).trans rfl
    have hcz14_1 : wr.cell? ⟨gb208, 1, none⟩ = some (.slice A0_1 l0_1.length c0_1) := (blk_cell BK208.out 1).trans rfl
    have hfz14_0 := blk_frozen BK208.out 0
    have hfz14_1 := blk_frozen BK208.out 1
    have hcz15_0 : wr.cell? ⟨gb209, 0, none⟩ = some (.int .i64 x210000_1) := (blk_cell BK209.out 0).trans rfl
    have hcz15_1 : wr.cell? ⟨gb209, 1, none⟩ = some (.int .i64 x210001_1) := (blk_cell BK209.out 1).trans rfl
    have hcz15_2 : wr.cell? ⟨gb209, 2, none⟩ = some (.int .i64 x210002_1) := (blk_cell BK209.out 2).trans rfl
    have hcz15_3 : wr.cell? ⟨gb209, 3, none⟩ = some (.int .i64 x210003_1) := (blk_cell BK209.out 3).trans rfl
    have hcz15_4 : wr.cell? ⟨gb209, 4, none⟩ = some (.string x210004_1) := (blk_cell BK209.out 4).trans rfl
    have hfz15_0 := blk_frozen BK209.out 0
    have hfz15_1 := blk_frozen BK209.out 1
    have hfz15_2 := blk_frozen BK209.out 2
    have hfz15_3 := blk_frozen BK209.out 3
    have hfz15_4 := blk_frozen BK209.out 4
    go_wp2
    refine bodyPost_ret (results_ct rfl _ _ gb209 66 #[.int .i64 0, .int .i64 0, .int .i64 0, .int .i64 0, .string (⟨#[]⟩ : ByteArray)] (0, 0) _ rfl (zput (zput (zput (zput (zput (zb BK209) 0) 1) 2) 3) 4) Try.underlying66 rfl (by kernel_rfl)) rfl ?_
    exact ⟨zE, zB⟩

/-! ### spec_View: function 103 -/
def spec_View.l0 : Nat → List (S68) → Int → List (S68) → List (S72) → Option ((List (S68)))
 | 0, _, _, _, _ => none
 | k + 1, x3, x4, x213000, x213001 => if x4 < (x213000.length : Int) then (if 0 ≤ x4 then (if ((rd_T68 x213000 x4).f1.f1) = 0 then (if x3.length < 2513169434916 then (spec_View.l0 k (x3 ++ [(⟨(rd_T68 x213000 x4).f0, (⟨(rd_T68 x213000 x4).f1.f0, (rd_T68 x213000 x4).f1.f1, (rd_T68 x213000 x4).f1.f2, (rd_T68 x213000 x4).f1.f3, (rd_T68 x213000 x4).f1.f4⟩ : S66)⟩ : S68)]) (wrap64 (x4 + 1)) x213000 x213001) else (none)) else (spec_View.l0 k x3 (wrap64 (x4 + 1)) x213000 x213001)) else (none)) else (some x3)
def spec_View.f (k : Nat) (l0_0 : List (S68)) (l0_1 : List (S72)) : Option ((List (S68))) := (some (([] : List (S68)) : List (S68))).bind fun y213 => ((spec_StateOk.f k l0_0 l0_1).bind fun t216 => (if t216 = true then (spec_View.l0 k y213 0 l0_0 l0_1) else (some y213)))
theorem spec_View.mono_l : ∀ k, (∀ y0 y1 y2 y3, LeO (spec_View.l0 k y0 y1 y2 y3) (spec_View.l0 (k + 1) y0 y1 y2 y3))
 | 0 => fun _ _ _ _ r h => by simp [spec_View.l0] at h
 | k + 1 => by
  have ih0 := spec_View.mono_l k
  ·intro y0 y1 y2 y3
   unfold spec_View.l0
   repeat' first
   | (with_reducible exact ih0 _ _ _ _)
   | (with_reducible exact spec_StateOk.mono _ _ _)
   | (with_reducible exact LeO.refl _)
   | (with_reducible exact LeO.none _)
   | (with_reducible refine LeO.ite ?_ ?_)
   | (with_reducible refine LeO.bind ?_ (fun _ => ?_))
   | exact ih0 _ _ _ _
   | exact spec_StateOk.mono _ _ _
   | exact LeO.none _
   | refine LeO.ite ?_ ?_
   | refine LeO.bind ?_ (fun _ => ?_)
theorem spec_View.mono : ∀ a0 a1 k, LeO (spec_View.f k a0 a1) (spec_View.f (k + 1) a0 a1) := by
 intro a0 a1 k
 have ih0 := spec_View.mono_l k
 unfold spec_View.f
 repeat' first
   | (with_reducible exact ih0 _ _ _ _)
   | (with_reducible exact spec_StateOk.mono _ _ _)
   | (with_reducible exact LeO.refl _)
   | (with_reducible exact LeO.none _)
   | (with_reducible refine LeO.ite ?_ ?_)
   | (with_reducible refine LeO.bind ?_ (fun _ => ?_))
   | exact ih0 _ _ _ _
   | exact spec_StateOk.mono _ _ _
   | exact LeO.none _
   | refine LeO.ite ?_ ?_
   | refine LeO.bind ?_ (fun _ => ?_)
set_option maxHeartbeats 8000000 in
set_option maxRecDepth 100000 in
theorem spec_View.calls (k : Nat) (A0_0 : Option Addr) (c0_0 : Nat) (l0_0 : List (S68)) (A0_1 : Option Addr) (c0_1 : Nat) (l0_1 : List (S72)) (r : List (S68)) (w : World) (hr0_0 : Kd.C k68 w A0_0 l0_0.length l0_0) (hc0_0 : l0_0.length ≤ c0_0) (hr0_1 : Kd.C k72 w A0_1 l0_1.length l0_1) (hc0_1 : l0_1.length ≤ c0_1) (h : spec_View.f k l0_0 l0_1 = some r) :
  Calls Try.prog 103 #[.agg #[.slice A0_0 l0_0.length c0_0, .slice A0_1 l0_1.length c0_1]] w fun e w' => ∃ v0_ : Value, e = .returned (v0_) ∧ Kd.R k68 68 w' w.heap.size (fun _ => True) v0_ r ∧ Below w.heap.size w w' := by
 have hu32 := Try.underlying32
 have hu68 := Try.underlying68
 have HR0_0 := zm hr0_0
 have HC0_0 := zm hc0_0
 clear hr0_0 hc0_0
 have HR0_1 := zm hr0_1
 have HC0_1 := zm hc0_1
 clear hr0_1 hc0_1
 have HB := zm (Below.refl w.heap.size w)
 have H : ((some (([] : List (S68)) : List (S68))).bind fun y213 => ((spec_StateOk.f k l0_0 l0_1).bind fun t216 => (if t216 = true then (spec_View.l0 k y213 0 l0_0 l0_1) else (some y213)))) = some r := h
 clear h
 obtain ⟨y213, hy213⟩ : ∃ y_ : List (S68), y_ = (([] : List (S68))) := ⟨_, rfl⟩
 replace H : ((spec_StateOk.f k l0_0 l0_1).bind fun t216 => (if t216 = true then (spec_View.l0 k y213 0 l0_0 l0_1) else (some y213))) = some r := by first | (rw [hy213]; with_reducible exact H) | (have H2_ := (Option.bind_some _ _).symm.trans H; rw [hy213]; with_reducible exact H2_) | (have H2_ := (Option.bind_some _ _).symm.trans H; with_reducible exact H2_) | with_reducible exact H | (rw [hy213]; exact H) | exact H
 have Ny213 := zm hy213
 clear hy213
 replace H := Option.bind_eq_some_iff.mp H
 obtain ⟨t216, A20, H⟩ := H
 replace H : (if t216 = true then (spec_View.l0 k y213 0 l0_0 l0_1) else (some y213)) = some r := H
 have A2 := zm A20
 clear A20
 by_cases c3 : t216 = true
 ·subst c3
  have H1 : (spec_View.l0 k y213 0 l0_0 l0_1) = some r := by rw [if_pos rfl] at H; exact H
  clear H
  have H := H1
  clear H1
  have H' := zm H
  clear H
  go_enter Try.func103, Try.ntmps103
  go_wp2_with (first | ((with_reducible refine gate_dst (N := 1) rfl ?_); refine zbox 1 #[.slice A0_0 l0_0.length c0_0, .slice A0_1 l0_1.length c0_1] 32 ?_; intro gb212 hg w4 hbox hb; have BK212 := zm (hbox); have GW212 := zge w hg zB; have GE212 := zge w hg zB; replace HB := zm (below_step zB hb); clear hb hbox hg) | ((with_reducible refine gate_dst (N := 5) rfl ?_); refine Kd.R_lit k68 _ 68 ?hg (N := 5) ?hd (xs := ([] : List (S68))) (inner := []) (ok := fun _ => True) (okp := fun _ => True) ?hr ?hp (fun _ hk => hk) trivial (Below.refl _ _) (Nat.le_refl _) (by simp) ?_; (case hd => rfl); (case hg => rfl); (case hr => first | (go_simp; done) | (go_simp; rfl)); (case hp => exact (Reps.none _ _)); intro v214 w5 ho6 hb hg_ hnew_; clear hg_ hnew_; (first | rw [← Ny213.out] at ho6 | (simp only [Int.reduceToNat] at ho6; rw [← Ny213.out] at ho6)); have HO215 := zm (Kd.R_lower ho6 (below_size zB)); replace BK212 := zm (blk_below (zb BK212) hb); replace HB := zm (below_step zB hb); clear hb ho6; have hcz7_0 : w5.cell? ⟨gb212, 0, none⟩ = some (.slice A0_0 l0_0.length c0_0) := (blk_cell BK212.out 0).trans rfl; have hcz7_1 : w5.cell? ⟨gb212, 1, none⟩ = some (.slice A0_1 l0_1.length c0_1) := (blk_cell BK212.out 1).trans rfl; have hfz7_0 := blk_frozen BK212.out 0; have hfz7_1 := blk_frozen BK212.out 1) | ((with_reducible refine gate_callee (f := 49) rfl ?_); refine zg (some 7) #[.agg #[.slice A0_0 l0_0.length c0_0, .slice A0_1 l0_1.length c0_1]] Try.func49 ?_; (with_reducible refine (spec_StateOk.calls k _ _ l0_0 _ _ l0_1 true _ (zk (Kd.C_below HR0_0.out HB.out)) HC0_0.out (zk (Kd.C_below HR0_1.out HB.out)) HC0_1.out A2.out).mono ?_); rintro e w8 ⟨rfl, hb⟩; refine ⟨_, rfl, ?_⟩; replace HO215 := zm (Kd.R_below (zr HO215) hb); replace BK212 := zm (blk_below (zb BK212) hb); replace HB := zm (below_step zB hb); clear hb))
  go_loopg [3, 4] k (fun kq v3 v4 w' => ∃ (x3_1 : List (S68)) (x4_1 : Int), v4 = .int .i64 x4_1 ∧ Aside0 (spec_View.l0 kq x3_1 x4_1 l0_0 l0_1 = some r) ∧ Aside0 (kq ≤ k) ∧ Aside0 (Kd.R k68 68 w' w.heap.size (fun _ => True) v3 x3_1) ∧ Aside0 (w'.heap[gb212]? = some (.cells #[(.slice A0_0 l0_0.length c0_0), (.slice A0_1 l0_1.length c0_1)] 32 (0, 0))) ∧ Aside0 (Below w.heap.size w w'))
  case atStart => exact ⟨(y213), (0), zF, H', ⟨Nat.le_refl _⟩, ⟨zr HO215⟩, ⟨zb BK212⟩, ⟨zB⟩⟩
  case round =>
   clear H'
   try clear c1
   try clear p2
   try clear c3
   try clear c4
   try clear hcz7_0
   try clear hcz7_1
   try clear hfz7_0
   try clear hfz7_1
   obtain ⟨x3_1, x4_1, rfl, HA, HK1, HO_3, BK212, HB⟩ := hrel
   cases gk with
   | zero => exact absurd HA.out (by simp [spec_View.l0])
   | succ k1 =>
    have H := HA.out
    clear HA
    simp only [spec_View.l0] at H
    by_cases c9 : x4_1 < (l0_0.length : Int)
    ·rw [if_pos c9] at H
     have c9b0 : decide (x4_1 < (l0_0.length : Int)) = true := decide_eq_true c9
     clear c9
     by_cases c10 : 0 ≤ x4_1
     ·rw [if_pos c10] at H
      have c10b0 : decide (0 ≤ x4_1) = true := decide_eq_true c10
      clear c10
      by_cases c11 : ((rd_T68 l0_0 x4_1).f1.f1) = 0
      ·rw [if_pos c11] at H
       have c11b0 : (((rd_T68 l0_0 x4_1).f1.f1) == 0) = true := beq_iff_eq.mpr c11
       have c11b1 : (((rd_T68 l0_0 x4_1).f1.f1) != 0) = false := bne_eq_false_iff_eq.mpr c11
       clear c11
       by_cases c12 : x3_1.length < 2513169434916
       ·rw [if_pos c12] at H
        have LMc12 := zm c12
        clear c12
        obtain ⟨y219, hy219⟩ : ∃ y_ : List (S68), y_ = (x3_1 ++ [(⟨(rd_T68 l0_0 x4_1).f0, (⟨(rd_T68 l0_0 x4_1).f1.f0, (rd_T68 l0_0 x4_1).f1.f1, (rd_T68 l0_0 x4_1).f1.f2, (rd_T68 l0_0 x4_1).f1.f3, (rd_T68 l0_0 x4_1).f1.f4⟩ : S66)⟩ : S68)]) := ⟨_, rfl⟩
        replace H : (spec_View.l0 k1 y219 (wrap64 (x4_1 + 1)) l0_0 l0_1) = some r := by first | (rw [hy219]; with_reducible exact H) | (have H2_ := (Option.bind_some _ _).symm.trans H; rw [hy219]; with_reducible exact H2_) | (have H2_ := (Option.bind_some _ _).symm.trans H; with_reducible exact H2_) | with_reducible exact H | (rw [hy219]; exact H) | exact H
        have Ny219 := zm hy219
        clear hy219
        have H' := zm H
        clear H
        have hcz13_0 : wr.cell? ⟨gb212, 0, none⟩ = some (.slice A0_0 l0_0.length c0_0) := (blk_cell BK212.out 0).trans rfl
        have hcz13_1 : wr.cell? ⟨gb212, 1, none⟩ = some (.slice A0_1 l0_1.length c0_1) := (blk_cell BK212.out 1).trans rfl
        have hfz13_0 := blk_frozen BK212.out 0
        have hfz13_1 := blk_frozen BK212.out 1
        have p217 : 0 ≤ (x4_1 : Int) := zd
        have q217 : x4_1 < (l0_0.length : Int) := zd
        obtain ⟨ad217, e217, hx217_0, hx217_1, hx217_2, hx217_3, hx217_4, hx217_5⟩ := at_T68 (Kd.C_below HR0_0.out HB.out) x4_1 p217 q217
        cases e217
        replace p217 := eq_true p217
        replace q217 := eq_true q217
        have p218 : 0 ≤ (x4_1 : Int) := zd
        have q218 : x4_1 < (l0_0.length : Int) := zd
        obtain ⟨ad218, e218, hx218_0, hx218_1, hx218_2, hx218_3, hx218_4, hx218_5⟩ := at_T68 (Kd.C_below HR0_0.out HB.out) x4_1 p218 q218
        obtain rfl : ad217 = ad218 := (by injection e218)
        replace p218 := eq_true p218
        replace q218 := eq_true q218
        go_wp2_with (first | ((with_reducible refine gate_builtin (b := .append) (xs := #[.tmp 25, .tmp 31]) rfl ?_); at_builtin; refine Kd.R_append k68 (w0 := w) w.heap.size rfl (.tmp 25) (.tmp 31) 29 68 (.agg #[(.int .i64 0), (.int .i64 0), (.int .i64 0), (.int .i64 0), (.int .i64 0), (.string ⟨#[]⟩)]) 56 rfl Try.underlying29 info68 rfl (by decide) (by omega) u3 x3_1 (⟨(rd_T68 l0_0 x4_1).f0, (⟨(rd_T68 l0_0 x4_1).f1.f0, (rd_T68 l0_0 x4_1).f1.f1, (rd_T68 l0_0 x4_1).f1.f2, (rd_T68 l0_0 x4_1).f1.f3, (rd_T68 l0_0 x4_1).f1.f4⟩ : S66)⟩ : S68) [.int .i64 ((rd_T68 l0_0 x4_1).f0), .int .i64 ((rd_T68 l0_0 x4_1).f1.f0), .int .i64 ((rd_T68 l0_0 x4_1).f1.f1), .int .i64 ((rd_T68 l0_0 x4_1).f1.f2), .int .i64 ((rd_T68 l0_0 x4_1).f1.f3), .string ((rd_T68 l0_0 x4_1).f1.f4)] (fun _ => True) (fun _ => False) rfl rfl ?aP (fun _ hk => hk.elim) ?aF ?aO ?aB ?aS ?aL ?_; (case aP => exact k68_mkM _ _ _ (⟨(rd_T68 l0_0 x4_1).f0, (⟨(rd_T68 l0_0 x4_1).f1.f0, (rd_T68 l0_0 x4_1).f1.f1, (rd_T68 l0_0 x4_1).f1.f2, (rd_T68 l0_0 x4_1).f1.f3, (rd_T68 l0_0 x4_1).f1.f4⟩ : S66)⟩ : S68)); (case aB => exact zB); (case aF => exact (fun _ _ => trivial)); (case aO => exact (zr HO_3)); (case aS => exact (below_size zB)); (case aL => have := LMc12.out; omega); intro v220 w14 ho hb hg hat; rw [← Ny219.out] at ho; replace BK212 := zm (blk_grown (g := gb212) (o := .cells #[.slice (some ad217) l0_0.length c0_0, .slice A0_1 l0_1.length c0_1] 32 (0, 0)) (zb BK212) hg (Kd.R_ne HO_3.out BK212.out (by decide))); replace HB := zm (hb); have HO221 := zm (ho); clear HO_3; clear ho hb hg hat))
        go_roundg k1
        case measure => have := HK1.out; omega
        case rel => exact ⟨(y219), (wrap64 (x4_1 + 1)), zF, H', ⟨by have := HK1.out; omega⟩, ⟨zr HO221⟩, ⟨zb BK212⟩, ⟨zB⟩⟩
       ·rw [if_neg c12] at H
        exact absurd H (by simp)
      ·rw [if_neg c11] at H
       have c11b0 : (((rd_T68 l0_0 x4_1).f1.f1) == 0) = false := beq_eq_false_iff_ne.mpr c11
       have c11b1 : (((rd_T68 l0_0 x4_1).f1.f1) != 0) = true := bne_iff_ne.mpr c11
       have H' := zm H
       clear H
       have hcz15_0 : wr.cell? ⟨gb212, 0, none⟩ = some (.slice A0_0 l0_0.length c0_0) := (blk_cell BK212.out 0).trans rfl
       have hcz15_1 : wr.cell? ⟨gb212, 1, none⟩ = some (.slice A0_1 l0_1.length c0_1) := (blk_cell BK212.out 1).trans rfl
       have hfz15_0 := blk_frozen BK212.out 0
       have hfz15_1 := blk_frozen BK212.out 1
       have p217 : 0 ≤ (x4_1 : Int) := zd
       have q217 : x4_1 < (l0_0.length : Int) := zd
       obtain ⟨ad217, e217, hx217_0, hx217_1, hx217_2, hx217_3, hx217_4, hx217_5⟩ := at_T68 (Kd.C_below HR0_0.out HB.out) x4_1 p217 q217
       cases e217
       replace p217 := eq_true p217
       replace q217 := eq_true q217
       go_wp2
       go_roundg k1
       case measure => have := HK1.out; omega
       case rel => exact ⟨(x3_1), (wrap64 (x4_1 + 1)), zF, H', ⟨by have := HK1.out; omega⟩, ⟨zr HO_3⟩, ⟨zb BK212⟩, ⟨zB⟩⟩
     ·rw [if_neg c10] at H
      exact absurd H (by simp)
    ·rw [if_neg c9] at H
     have c9b0 : decide (x4_1 < (l0_0.length : Int)) = false := decide_eq_false c9
     clear c9
     obtain rfl := Option.some.inj H
     have hcz16_0 : wr.cell? ⟨gb212, 0, none⟩ = some (.slice A0_0 l0_0.length c0_0) := (blk_cell BK212.out 0).trans rfl
     have hcz16_1 : wr.cell? ⟨gb212, 1, none⟩ = some (.slice A0_1 l0_1.length c0_1) := (blk_cell BK212.out 1).trans rfl
     have hfz16_0 := blk_frozen BK212.out 0
     have hfz16_1 := blk_frozen BK212.out 1
     go_wp2
     go_ret
     exact ⟨_, zE, zr HO_3, zB⟩
 ·replace c3 := Bool.eq_false_iff.mpr c3
  subst c3
  have H1 : (some y213) = some r := by rw [if_neg (show ¬ (false = true) by decide)] at H; exact H
  clear H
  have H := H1
  clear H1
  obtain rfl := Option.some.inj H
  go_enter Try.func103, Try.ntmps103
  go_wp2_with (first | ((with_reducible refine gate_dst (N := 1) rfl ?_); refine zbox 1 #[.slice A0_0 l0_0.length c0_0, .slice A0_1 l0_1.length c0_1] 32 ?_; intro gb212 hg w17 hbox hb; have BK212 := zm (hbox); have GW212 := zge w hg zB; have GE212 := zge w hg zB; replace HB := zm (below_step zB hb); clear hb hbox hg) | ((with_reducible refine gate_dst (N := 5) rfl ?_); refine Kd.R_lit k68 _ 68 ?hg (N := 5) ?hd (xs := ([] : List (S68))) (inner := []) (ok := fun _ => True) (okp := fun _ => True) ?hr ?hp (fun _ hk => hk) trivial (Below.refl _ _) (Nat.le_refl _) (by simp) ?_; (case hd => rfl); (case hg => rfl); (case hr => first | (go_simp; done) | (go_simp; rfl)); (case hp => exact (Reps.none _ _)); intro v214 w18 ho19 hb hg_ hnew_; clear hg_ hnew_; (first | rw [← Ny213.out] at ho19 | (simp only [Int.reduceToNat] at ho19; rw [← Ny213.out] at ho19)); have HO215 := zm (Kd.R_lower ho19 (below_size zB)); replace BK212 := zm (blk_below (zb BK212) hb); replace HB := zm (below_step zB hb); clear hb ho19; have hcz20_0 : w18.cell? ⟨gb212, 0, none⟩ = some (.slice A0_0 l0_0.length c0_0) := (blk_cell BK212.out 0).trans rfl; have hcz20_1 : w18.cell? ⟨gb212, 1, none⟩ = some (.slice A0_1 l0_1.length c0_1) := (blk_cell BK212.out 1).trans rfl; have hfz20_0 := blk_frozen BK212.out 0; have hfz20_1 := blk_frozen BK212.out 1) | ((with_reducible refine gate_callee (f := 49) rfl ?_); refine zg (some 7) #[.agg #[.slice A0_0 l0_0.length c0_0, .slice A0_1 l0_1.length c0_1]] Try.func49 ?_; (with_reducible refine (spec_StateOk.calls k _ _ l0_0 _ _ l0_1 false _ (zk (Kd.C_below HR0_0.out HB.out)) HC0_0.out (zk (Kd.C_below HR0_1.out HB.out)) HC0_1.out A2.out).mono ?_); rintro e w21 ⟨rfl, hb⟩; refine ⟨_, rfl, ?_⟩; replace HO215 := zm (Kd.R_below (zr HO215) hb); replace BK212 := zm (blk_below (zb BK212) hb); replace HB := zm (below_step zB hb); clear hb))
  go_ret
  exact ⟨_, zE, zr HO215, zB⟩

/-! ### spec_Lookup: function 73 -/
def spec_Lookup.f (k : Nat) (l0_0 : List (S68)) (l0_1 : List (S72)) (a1 : Int) : Option (Int × Int × Int × Int × ByteArray × Bool) := (spec_View.f k l0_0 l0_1).bind fun t224 => ((spec_EntryOf.f k t224 ([] : List (S72)) a1).bind fun bt227 => (some (bt227.1, bt227.2.1, bt227.2.2.1, bt227.2.2.2.1, bt227.2.2.2.2.1, bt227.2.2.2.2.2)))
theorem spec_Lookup.mono : ∀ a0 a1 a2 k, LeO (spec_Lookup.f k a0 a1 a2) (spec_Lookup.f (k + 1) a0 a1 a2) := by
 intro a0 a1 a2 k
 unfold spec_Lookup.f
 repeat' first
   | (with_reducible exact spec_EntryOf.mono _ _ _ _)
   | (with_reducible exact spec_View.mono _ _ _)
   | (with_reducible exact LeO.refl _)
   | (with_reducible exact LeO.none _)
   | (with_reducible refine LeO.ite ?_ ?_)
   | (with_reducible refine LeO.bind ?_ (fun _ => ?_))
   | exact spec_EntryOf.mono _ _ _ _
   | exact spec_View.mono _ _ _
   | exact LeO.none _
   | refine LeO.ite ?_ ?_
   | refine LeO.bind ?_ (fun _ => ?_)
set_option maxHeartbeats 8000000 in
set_option maxRecDepth 100000 in
theorem spec_Lookup.calls (k : Nat) (A0_0 : Option Addr) (c0_0 : Nat) (l0_0 : List (S68)) (A0_1 : Option Addr) (c0_1 : Nat) (l0_1 : List (S72)) (a1 : Int) (r1 : Int) (r2 : Int) (r3 : Int) (r4 : Int) (r5 : ByteArray) (r6 : Bool) (w : World) (hr0_0 : Kd.C k68 w A0_0 l0_0.length l0_0) (hc0_0 : l0_0.length ≤ c0_0) (hr0_1 : Kd.C k72 w A0_1 l0_1.length l0_1) (hc0_1 : l0_1.length ≤ c0_1) (h : spec_Lookup.f k l0_0 l0_1 a1 = some (r1, r2, r3, r4, r5, r6)) :
  Calls Try.prog 73 #[.agg #[.slice A0_0 l0_0.length c0_0, .slice A0_1 l0_1.length c0_1], .int .i64 a1] w fun e w' => e = .returned (.tuple #[.agg #[.int .i64 r1, .int .i64 r2, .int .i64 r3, .int .i64 r4, .string r5], .bool r6]) ∧ Below w.heap.size w w' := by
 have hu32 := Try.underlying32
 have hu66 := Try.underlying66
 have HR0_0 := zm hr0_0
 have HC0_0 := zm hc0_0
 clear hr0_0 hc0_0
 have HR0_1 := zm hr0_1
 have HC0_1 := zm hc0_1
 clear hr0_1 hc0_1
 have HB := zm (Below.refl w.heap.size w)
 have H : ((spec_View.f k l0_0 l0_1).bind fun t224 => ((spec_EntryOf.f k t224 ([] : List (S72)) a1).bind fun bt227 => (some (bt227.1, bt227.2.1, bt227.2.2.1, bt227.2.2.2.1, bt227.2.2.2.2.1, bt227.2.2.2.2.2)))) = some (r1, r2, r3, r4, r5, r6) := h
 clear h
 replace H := Option.bind_eq_some_iff.mp H
 obtain ⟨t224, A30, H⟩ := H
 replace H : ((spec_EntryOf.f k t224 ([] : List (S72)) a1).bind fun bt227 => (some (bt227.1, bt227.2.1, bt227.2.2.1, bt227.2.2.2.1, bt227.2.2.2.2.1, bt227.2.2.2.2.2))) = some (r1, r2, r3, r4, r5, r6) := H
 have A3 := zm A30
 clear A30
 replace H := Option.bind_eq_some_iff.mp H
 obtain ⟨⟨t227, t228, t229, t230, t231, t232⟩, A40, H⟩ := H
 replace H : (some (t227, t228, t229, t230, t231, t232)) = some (r1, r2, r3, r4, r5, r6) := H
 have A4 := zm A40
 clear A40
 simp only [Option.some.injEq, Prod.mk.injEq] at H
 obtain ⟨rfl, rfl, rfl, rfl, rfl, rfl⟩ := H
 go_enter Try.func73, Try.ntmps73
 go_wp2_with (first | ((with_reducible refine gate_dst (N := 2) rfl ?_); refine zbox 2 #[.slice A0_0 l0_0.length c0_0, .slice A0_1 l0_1.length c0_1] 32 ?_; intro gb222 hg w5 hbox hb; have BK222 := zm (hbox); have GW222 := zge w hg zB; have GE222 := zge w hg zB; replace HB := zm (below_step zB hb); clear hb hbox hg) | ((with_reducible refine gate_dst (N := 4) rfl ?_); refine zbox 4 #[.int .i64 0, .int .i64 0, .int .i64 0, .int .i64 0, .string (⟨#[]⟩ : ByteArray)] 66 ?_; intro gb223 hg w6 hbox hb; have BK223 := zm (hbox); have GW223 := zge w hg zB; have GE223 := zge w hg zB; replace HB := zm (below_step zB hb); have NB222_223 := zlt hg (zb BK222); have NB223_222 := zgt hg (zb BK222); replace BK222 := zm (blk_below (zb BK222) hb); clear hb hbox hg; have hnb7 := NB222_223.out; have hnc7 := NB223_222.out; have hcz8_0 : w6.cell? ⟨gb222, 0, none⟩ = some (.slice A0_0 l0_0.length c0_0) := (blk_cell BK222.out 0).trans rfl; have hcz8_1 : w6.cell? ⟨gb222, 1, none⟩ = some (.slice A0_1 l0_1.length c0_1) := (blk_cell BK222.out 1).trans rfl; have hfz8_0 := blk_frozen BK222.out 0; have hfz8_1 := blk_frozen BK222.out 1) | ((with_reducible refine gate_callee (f := 103) rfl ?_); refine zg (some 7) #[.agg #[.slice A0_0 l0_0.length c0_0, .slice A0_1 l0_1.length c0_1]] Try.func103 ?_; (with_reducible refine (spec_View.calls k _ _ l0_0 _ _ l0_1 t224 _ (zk (Kd.C_below HR0_0.out HB.out)) HC0_0.out (zk (Kd.C_below HR0_1.out HB.out)) HC0_1.out A3.out).mono ?_); rintro e w9 ⟨v225, rfl, ho0, hb⟩; refine ⟨_, rfl, ?_⟩; have HO226 := zm (Kd.R_lower ho0 (below_size zB)); replace BK222 := zm (blk_below (zb BK222) hb); replace BK223 := zm (blk_below (zb BK223) hb); replace HB := zm (below_step zB hb); clear hb ho0; obtain ⟨Ao10, co10, eo10⟩ := Kd.R_slice HO226.out; subst eo10) | ((with_reducible refine gate_callee (f := 74) rfl ?_); refine zg (some 10) #[.agg #[.slice Ao10 t224.length co10, .slice none 0 0], .int .i64 a1] Try.func74 ?_; (refine (spec_EntryOf.calls k _ _ t224 _ _ ([] : List (S72)) a1 t227 t228 t229 t230 t231 t232 _ ?side1 ?side2 ?side3 ?side4 A4.out).mono ?_); (case side1 => repeat (first | exact (Kd.R_reads' HO226.out).2.2 | (with_reducible refine Kd.C_alloc ?_ _) | (with_reducible refine Kd.C_drewN ?_ _) | (with_reducible refine Kd.C_drew ?_))); (case side2 => exact (Kd.R_reads' HO226.out).2.1); (case side3 => exact Kd.C_nil _ _); (case side4 => exact Nat.le_refl _); rintro e w11 ⟨rfl, hb⟩; refine ⟨_, rfl, ?_⟩; replace HO226 := zm (Kd.R_below (zr HO226) hb); replace BK222 := zm (blk_below (zb BK222) hb); replace BK223 := zm (blk_below (zb BK223) hb); replace HB := zm (below_step zB hb); clear hb; have hcz12_0 : w11.cell? ⟨gb223, 0, none⟩ = some (.int .i64 0) := (blk_cell BK223.out 0).trans rfl; have hcz12_1 : w11.cell? ⟨gb223, 1, none⟩ = some (.int .i64 0) := (blk_cell BK223.out 1).trans rfl; have hcz12_2 : w11.cell? ⟨gb223, 2, none⟩ = some (.int .i64 0) := (blk_cell BK223.out 2).trans rfl; have hcz12_3 : w11.cell? ⟨gb223, 3, none⟩ = some (.int .i64 0) := (blk_cell BK223.out 3).trans rfl; have hcz12_4 : w11.cell? ⟨gb223, 4, none⟩ = some (.string (⟨#[]⟩ : ByteArray)) := (blk_cell BK223.out 4).trans rfl; have hfz12_0 := blk_frozen BK223.out 0; have hfz12_1 := blk_frozen BK223.out 1; have hfz12_2 := blk_frozen BK223.out 2; have hfz12_3 := blk_frozen BK223.out 3; have hfz12_4 := blk_frozen BK223.out 4))
 refine bodyPost_ret (results_ct rfl _ _ gb223 66 #[.int .i64 t227, .int .i64 t228, .int .i64 t229, .int .i64 t230, .string t231] (0, 0) _ rfl (zput (zput (zput (zput (zput (zb BK223) 0) 1) 2) 3) 4) Try.underlying66 rfl (by kernel_rfl)) rfl ?_
 exact ⟨zE, zB⟩

/-! ### spec_l5Up: function 66 -/
def spec_l5Up.j0 : Nat → Int → Bool → List (S68) → List (S72) → Option (Int × Int × Int × Int × ByteArray × Int)
 | 0, _, _, _, _ => none
 | k + 1, x1, x15, x234000, x234001 => if x15 = true then (some (0, 0, 0, 0, (⟨#[]⟩ : ByteArray), 1)) else ((spec_Lookup.f k x234000 x234001 x1).bind fun bt237 => (if bt237.2.2.2.2.2 = true then (some (bt237.1, bt237.2.1, bt237.2.2.1, bt237.2.2.2.1, bt237.2.2.2.2.1, 0)) else (some (0, 0, 0, 0, (⟨#[]⟩ : ByteArray), 3))))
def spec_l5Up.f (k : Nat) (l0_0 : List (S68)) (l0_1 : List (S72)) (a1 : Int) : Option (Int × Int × Int × Int × ByteArray × Int) := (spec_StateOk.f k l0_0 l0_1).bind fun t235 => (if t235 = true then ((spec_l3Node.f a1).bind fun t236 => (spec_l5Up.j0 k a1 (!t236) l0_0 l0_1)) else (spec_l5Up.j0 k a1 true l0_0 l0_1))
theorem spec_l5Up.mono_l : ∀ k, (∀ y0 y1 y2 y3, LeO (spec_l5Up.j0 k y0 y1 y2 y3) (spec_l5Up.j0 (k + 1) y0 y1 y2 y3))
 | 0 => fun _ _ _ _ r h => by simp [spec_l5Up.j0] at h
 | k + 1 => by
  have ih0 := spec_l5Up.mono_l k
  ·intro y0 y1 y2 y3
   unfold spec_l5Up.j0
   repeat' first
   | (with_reducible exact ih0 _ _ _ _)
   | (with_reducible exact spec_Lookup.mono _ _ _ _)
   | (with_reducible exact spec_StateOk.mono _ _ _)
   | (with_reducible exact LeO.refl _)
   | (with_reducible exact LeO.none _)
   | (with_reducible refine LeO.ite ?_ ?_)
   | (with_reducible refine LeO.bind ?_ (fun _ => ?_))
   | exact ih0 _ _ _ _
   | exact spec_Lookup.mono _ _ _ _
   | exact spec_StateOk.mono _ _ _
   | exact LeO.none _
   | refine LeO.ite ?_ ?_
   | refine LeO.bind ?_ (fun _ => ?_)
theorem spec_l5Up.mono : ∀ a0 a1 a2 k, LeO (spec_l5Up.f k a0 a1 a2) (spec_l5Up.f (k + 1) a0 a1 a2) := by
 intro a0 a1 a2 k
 have ih0 := spec_l5Up.mono_l k
 unfold spec_l5Up.f
 repeat' first
   | (with_reducible exact ih0 _ _ _ _)
   | (with_reducible exact spec_Lookup.mono _ _ _ _)
   | (with_reducible exact spec_StateOk.mono _ _ _)
   | (with_reducible exact LeO.refl _)
   | (with_reducible exact LeO.none _)
   | (with_reducible refine LeO.ite ?_ ?_)
   | (with_reducible refine LeO.bind ?_ (fun _ => ?_))
   | exact ih0 _ _ _ _
   | exact spec_Lookup.mono _ _ _ _
   | exact spec_StateOk.mono _ _ _
   | exact LeO.none _
   | refine LeO.ite ?_ ?_
   | refine LeO.bind ?_ (fun _ => ?_)
set_option maxHeartbeats 8000000 in
set_option maxRecDepth 100000 in
theorem spec_l5Up.calls (k : Nat) (A0_0 : Option Addr) (c0_0 : Nat) (l0_0 : List (S68)) (A0_1 : Option Addr) (c0_1 : Nat) (l0_1 : List (S72)) (a1 : Int) (r1 : Int) (r2 : Int) (r3 : Int) (r4 : Int) (r5 : ByteArray) (r6 : Int) (w : World) (hr0_0 : Kd.C k68 w A0_0 l0_0.length l0_0) (hc0_0 : l0_0.length ≤ c0_0) (hr0_1 : Kd.C k72 w A0_1 l0_1.length l0_1) (hc0_1 : l0_1.length ≤ c0_1) (h : spec_l5Up.f k l0_0 l0_1 a1 = some (r1, r2, r3, r4, r5, r6)) :
  Calls Try.prog 66 #[.agg #[.slice A0_0 l0_0.length c0_0, .slice A0_1 l0_1.length c0_1], .int .i64 a1] w fun e w' => e = .returned (.tuple #[.agg #[.int .i64 r1, .int .i64 r2, .int .i64 r3, .int .i64 r4, .string r5], .int .i64 r6]) ∧ Below w.heap.size w w' := by
 have hu32 := Try.underlying32
 have hu66 := Try.underlying66
 have HR0_0 := zm hr0_0
 have HC0_0 := zm hc0_0
 clear hr0_0 hc0_0
 have HR0_1 := zm hr0_1
 have HC0_1 := zm hc0_1
 clear hr0_1 hc0_1
 have HB := zm (Below.refl w.heap.size w)
 have H : ((spec_StateOk.f k l0_0 l0_1).bind fun t235 => (if t235 = true then ((spec_l3Node.f a1).bind fun t236 => (spec_l5Up.j0 k a1 (!t236) l0_0 l0_1)) else (spec_l5Up.j0 k a1 true l0_0 l0_1))) = some (r1, r2, r3, r4, r5, r6) := h
 clear h
 have HC3 := zm H
 clear H
 go_enter Try.func66, Try.ntmps66
 go_upto_region 1 with (first | ((with_reducible refine gate_dst (N := 2) rfl ?_); refine zbox 2 #[.slice A0_0 l0_0.length c0_0, .slice A0_1 l0_1.length c0_1] 32 ?_; intro gb233 hg w4 hbox hb; have BK233 := zm (hbox); have GW233 := zge w hg zB; have GE233 := zge w hg zB; replace HB := zm (below_step zB hb); clear hb hbox hg) | ((with_reducible refine gate_dst (N := 4) rfl ?_); refine zbox 4 #[.int .i64 0, .int .i64 0, .int .i64 0, .int .i64 0, .string (⟨#[]⟩ : ByteArray)] 66 ?_; intro gb234 hg w5 hbox hb; have BK234 := zm (hbox); have GW234 := zge w hg zB; have GE234 := zge w hg zB; replace HB := zm (below_step zB hb); have NB233_234 := zlt hg (zb BK233); have NB234_233 := zgt hg (zb BK233); replace BK233 := zm (blk_below (zb BK233) hb); clear hb hbox hg))
 (try simp only [Act.put, List.setIfInBounds_toArray, List.set_cons_zero, List.set_cons_succ])
 go_cut [15] (fun v15 wc => ∃ (kq : Nat) (x15_2 : Bool), v15 = .bool x15_2 ∧ Aside0 (spec_l5Up.j0 kq a1 x15_2 l0_0 l0_1 = some (r1, r2, r3, r4, r5, r6)) ∧ Aside0 (kq ≤ k) ∧ Aside0 (wc.heap[gb233]? = some (.cells #[(.slice A0_0 l0_0.length c0_0), (.slice A0_1 l0_1.length c0_1)] 32 (0, 0))) ∧ Aside0 (wc.heap[gb234]? = some (.cells #[.int .i64 0, .int .i64 0, .int .i64 0, .int .i64 0, .string (⟨#[]⟩ : ByteArray)] 66 (0, 0))) ∧ Aside0 (Below w.heap.size w wc))
 case first =>
  have H := HC3.out
  clear HC3
  replace H := Option.bind_eq_some_iff.mp H
  obtain ⟨t235, A60, H⟩ := H
  replace H : (if t235 = true then ((spec_l3Node.f a1).bind fun t236 => (spec_l5Up.j0 k a1 (!t236) l0_0 l0_1)) else (spec_l5Up.j0 k a1 true l0_0 l0_1)) = some (r1, r2, r3, r4, r5, r6) := H
  have A6 := zm A60
  clear A60
  by_cases c7 : t235 = true
  ·subst c7
   have H1 : ((spec_l3Node.f a1).bind fun t236 => (spec_l5Up.j0 k a1 (!t236) l0_0 l0_1)) = some (r1, r2, r3, r4, r5, r6) := by rw [if_pos rfl] at H; exact H
   clear H
   have H := H1
   clear H1
   replace H := Option.bind_eq_some_iff.mp H
   obtain ⟨t236, A80, H⟩ := H
   replace H : (spec_l5Up.j0 k a1 (!t236) l0_0 l0_1) = some (r1, r2, r3, r4, r5, r6) := H
   have A8 := zm A80
   clear A80
   have H' := zm H
   clear H
   have hnb9 := NB233_234.out
   have hnc9 := NB234_233.out
   have hcz10_0 : w5.cell? ⟨gb233, 0, none⟩ = some (.slice A0_0 l0_0.length c0_0) := (blk_cell BK233.out 0).trans rfl
   have hcz10_1 : w5.cell? ⟨gb233, 1, none⟩ = some (.slice A0_1 l0_1.length c0_1) := (blk_cell BK233.out 1).trans rfl
   have hfz10_0 := blk_frozen BK233.out 0
   have hfz10_1 := blk_frozen BK233.out 1
   go_wp2_with (first | ((with_reducible refine gate_callee (f := 49) rfl ?_); refine zg (some 9) #[.agg #[.slice A0_0 l0_0.length c0_0, .slice A0_1 l0_1.length c0_1]] Try.func49 ?_; (with_reducible refine (spec_StateOk.calls k _ _ l0_0 _ _ l0_1 true _ (zk (Kd.C_below HR0_0.out HB.out)) HC0_0.out (zk (Kd.C_below HR0_1.out HB.out)) HC0_1.out A6.out).mono ?_); rintro e w11 ⟨rfl, hb⟩; refine ⟨_, rfl, ?_⟩; replace BK233 := zm (blk_below (zb BK233) hb); replace BK234 := zm (blk_below (zb BK234) hb); replace HB := zm (below_step zB hb); clear hb) | (go_at_call 72; (with_reducible refine (spec_l3Node.calls a1 t236 _ A8.out).mono ?_); rintro e w' ⟨rfl, ⟨nd, rfl⟩⟩))
   go_meet
   case rel => exact ⟨_, (!t236), zF, H', ⟨by first | omega | exact Nat.le_refl _⟩, ⟨zb BK233⟩, ⟨zb BK234⟩, ⟨zB⟩⟩
  ·replace c7 := Bool.eq_false_iff.mpr c7
   subst c7
   have H1 : (spec_l5Up.j0 k a1 true l0_0 l0_1) = some (r1, r2, r3, r4, r5, r6) := by rw [if_neg (show ¬ (false = true) by decide)] at H; exact H
   clear H
   have H := H1
   clear H1
   have H' := zm H
   clear H
   have hnb12 := NB233_234.out
   have hnc12 := NB234_233.out
   have hcz13_0 : w5.cell? ⟨gb233, 0, none⟩ = some (.slice A0_0 l0_0.length c0_0) := (blk_cell BK233.out 0).trans rfl
   have hcz13_1 : w5.cell? ⟨gb233, 1, none⟩ = some (.slice A0_1 l0_1.length c0_1) := (blk_cell BK233.out 1).trans rfl
   have hfz13_0 := blk_frozen BK233.out 0
   have hfz13_1 := blk_frozen BK233.out 1
   go_wp2_with (first | ((with_reducible refine gate_callee (f := 49) rfl ?_); refine zg (some 9) #[.agg #[.slice A0_0 l0_0.length c0_0, .slice A0_1 l0_1.length c0_1]] Try.func49 ?_; (with_reducible refine (spec_StateOk.calls k _ _ l0_0 _ _ l0_1 false _ (zk (Kd.C_below HR0_0.out HB.out)) HC0_0.out (zk (Kd.C_below HR0_1.out HB.out)) HC0_1.out A6.out).mono ?_); rintro e w14 ⟨rfl, hb⟩; refine ⟨_, rfl, ?_⟩; replace BK233 := zm (blk_below (zb BK233) hb); replace BK234 := zm (blk_below (zb BK234) hb); replace HB := zm (below_step zB hb); clear hb))
   go_meet
   case rel => exact ⟨_, (true), zF, H', ⟨by first | omega | exact Nat.le_refl _⟩, ⟨zb BK233⟩, ⟨zb BK234⟩, ⟨zB⟩⟩
 case rest =>
  clear HC3
  try clear c1
  try clear p2
  try clear c4
  try clear c6
  try clear c7
  try clear c9
  try clear c12
  try clear hcz10_0
  try clear hcz10_1
  try clear hcz13_0
  try clear hcz13_1
  try clear hfz10_0
  try clear hfz10_1
  try clear hfz13_0
  try clear hfz13_1
  obtain ⟨kq, x15_2, rfl, HA, HJ2, BK233, BK234, HB⟩ := hcut
  cases kq with
  | zero => exact absurd HA.out (by simp [spec_l5Up.j0])
  | succ kj2 =>
   have H := HA.out
   clear HA
   simp only [spec_l5Up.j0] at H
   by_cases c15 : x15_2 = true
   ·subst c15
    have H1 : (some (0, 0, 0, 0, (⟨#[]⟩ : ByteArray), 1)) = some (r1, r2, r3, r4, r5, r6) := by rw [if_pos rfl] at H; exact H
    clear H
    have H := H1
    clear H1
    simp only [Option.some.injEq, Prod.mk.injEq] at H
    obtain ⟨rfl, rfl, rfl, rfl, rfl, rfl⟩ := H
    have hnb16 := NB234_233.out
    have hnc16 := NB233_234.out
    have hcz17_0 : wc.cell? ⟨gb234, 0, none⟩ = some (.int .i64 0) := (blk_cell BK234.out 0).trans rfl
    have hcz17_1 : wc.cell? ⟨gb234, 1, none⟩ = some (.int .i64 0) := (blk_cell BK234.out 1).trans rfl
    have hcz17_2 : wc.cell? ⟨gb234, 2, none⟩ = some (.int .i64 0) := (blk_cell BK234.out 2).trans rfl
    have hcz17_3 : wc.cell? ⟨gb234, 3, none⟩ = some (.int .i64 0) := (blk_cell BK234.out 3).trans rfl
    have hcz17_4 : wc.cell? ⟨gb234, 4, none⟩ = some (.string (⟨#[]⟩ : ByteArray)) := (blk_cell BK234.out 4).trans rfl
    have hfz17_0 := blk_frozen BK234.out 0
    have hfz17_1 := blk_frozen BK234.out 1
    have hfz17_2 := blk_frozen BK234.out 2
    have hfz17_3 := blk_frozen BK234.out 3
    have hfz17_4 := blk_frozen BK234.out 4
    go_wp2
    refine bodyPost_ret (results_ct rfl _ _ gb234 66 #[.int .i64 0, .int .i64 0, .int .i64 0, .int .i64 0, .string (⟨#[]⟩ : ByteArray)] (0, 0) _ rfl (zput (zput (zput (zput (zput (zb BK234) 0) 1) 2) 3) 4) Try.underlying66 rfl (by kernel_rfl)) rfl ?_
    exact ⟨zE, zB⟩
   ·replace c15 := Bool.eq_false_iff.mpr c15
    subst c15
    have H1 : ((spec_Lookup.f kj2 l0_0 l0_1 a1).bind fun bt237 => (if bt237.2.2.2.2.2 = true then (some (bt237.1, bt237.2.1, bt237.2.2.1, bt237.2.2.2.1, bt237.2.2.2.2.1, 0)) else (some (0, 0, 0, 0, (⟨#[]⟩ : ByteArray), 3)))) = some (r1, r2, r3, r4, r5, r6) := by rw [if_neg (show ¬ (false = true) by decide)] at H; exact H
    clear H
    have H := H1
    clear H1
    replace H := Option.bind_eq_some_iff.mp H
    obtain ⟨⟨t237, t238, t239, t240, t241, t242⟩, A180, H⟩ := H
    replace H : (if t242 = true then (some (t237, t238, t239, t240, t241, 0)) else (some (0, 0, 0, 0, (⟨#[]⟩ : ByteArray), 3))) = some (r1, r2, r3, r4, r5, r6) := H
    have A18 := zm A180
    clear A180
    by_cases c19 : t242 = true
    ·subst c19
     have H1 : (some (t237, t238, t239, t240, t241, 0)) = some (r1, r2, r3, r4, r5, r6) := by rw [if_pos rfl] at H; exact H
     clear H
     have H := H1
     clear H1
     simp only [Option.some.injEq, Prod.mk.injEq] at H
     obtain ⟨rfl, rfl, rfl, rfl, rfl, rfl⟩ := H
     have hnb20 := NB233_234.out
     have hnc20 := NB234_233.out
     have hcz21_0 : wc.cell? ⟨gb233, 0, none⟩ = some (.slice A0_0 l0_0.length c0_0) := (blk_cell BK233.out 0).trans rfl
     have hcz21_1 : wc.cell? ⟨gb233, 1, none⟩ = some (.slice A0_1 l0_1.length c0_1) := (blk_cell BK233.out 1).trans rfl
     have hfz21_0 := blk_frozen BK233.out 0
     have hfz21_1 := blk_frozen BK233.out 1
     go_wp2_with (first | ((with_reducible refine gate_callee (f := 73) rfl ?_); refine zg (some 20) #[.agg #[.slice A0_0 l0_0.length c0_0, .slice A0_1 l0_1.length c0_1], .int .i64 a1] Try.func73 ?_; (with_reducible refine (spec_Lookup.calls kj2 _ _ l0_0 _ _ l0_1 a1 t237 t238 t239 t240 t241 true _ (zk (Kd.C_below HR0_0.out HB.out)) HC0_0.out (zk (Kd.C_below HR0_1.out HB.out)) HC0_1.out A18.out).mono ?_); rintro e w22 ⟨rfl, hb⟩; refine ⟨_, rfl, ?_⟩; replace BK233 := zm (blk_below (zb BK233) hb); replace BK234 := zm (blk_below (zb BK234) hb); replace HB := zm (below_step zB hb); clear hb) | ((with_reducible refine gate_dst (N := 6) rfl ?_); refine zbox 6 #[.int .i64 0, .int .i64 0, .int .i64 0, .int .i64 0, .string (⟨#[]⟩ : ByteArray)] 66 ?_; intro gb243 hg w23 hbox hb; have BK243 := zm (hbox); have GW243 := zge w hg zB; have GE243 := zge w hg zB; replace HB := zm (below_step zB hb); have NB233_243 := zlt hg (zb BK233); have NB243_233 := zgt hg (zb BK233); replace BK233 := zm (blk_below (zb BK233) hb); have NB234_243 := zlt hg (zb BK234); have NB243_234 := zgt hg (zb BK234); replace BK234 := zm (blk_below (zb BK234) hb); clear hb hbox hg; have hnb24 := NB243_233.out; have hnc24 := NB233_243.out; have hnb25 := NB243_234.out; have hnc25 := NB234_243.out; have hcz26_0 : w23.cell? ⟨gb243, 0, none⟩ = some (.int .i64 0) := (blk_cell BK243.out 0).trans rfl; have hcz26_1 : w23.cell? ⟨gb243, 1, none⟩ = some (.int .i64 0) := (blk_cell BK243.out 1).trans rfl; have hcz26_2 : w23.cell? ⟨gb243, 2, none⟩ = some (.int .i64 0) := (blk_cell BK243.out 2).trans rfl; have hcz26_3 : w23.cell? ⟨gb243, 3, none⟩ = some (.int .i64 0) := (blk_cell BK243.out 3).trans rfl; have hcz26_4 : w23.cell? ⟨gb243, 4, none⟩ = some (.string (⟨#[]⟩ : ByteArray)) := (blk_cell BK243.out 4).trans rfl; have hfz26_0 := blk_frozen BK243.out 0; have hfz26_1 := blk_frozen BK243.out 1; have hfz26_2 := blk_frozen BK243.out 2; have hfz26_3 := blk_frozen BK243.out 3; have hfz26_4 := blk_frozen BK243.out 4; have hcz27_0 : w23.cell? ⟨gb234, 0, none⟩ = some (.int .i64 0) := (blk_cell BK234.out 0).trans rfl; have hcz27_1 : w23.cell? ⟨gb234, 1, none⟩ = some (.int .i64 0) := (blk_cell BK234.out 1).trans rfl; have hcz27_2 : w23.cell? ⟨gb234, 2, none⟩ = some (.int .i64 0) := (blk_cell BK234.out 2).trans rfl; have hcz27_3 : w23.cell? ⟨gb234, 3, none⟩ = some (.int .i64 0) := (blk_cell BK234.out 3).trans rfl; have hcz27_4 : w23.cell? ⟨gb234, 4, none⟩ = some (.string (⟨#[]⟩ : ByteArray)) := (blk_cell BK234.out 4).trans rfl; have hfz27_0 := blk_frozen BK234.out 0; have hfz27_1 := blk_frozen BK234.out 1; have hfz27_2 := blk_frozen BK234.out 2; have hfz27_3 := blk_frozen BK234.out 3; have hfz27_4 := blk_frozen BK234.out 4))
     refine bodyPost_ret (results_ct rfl _ _ gb234 66 #[.int .i64 t237, .int .i64 t238, .int .i64 t239, .int .i64 t240, .string t241] (0, 0) _ rfl (zput (zput (zput (zput (zput (zfar (zfar (zfar (zfar (zfar (zb BK234) NB234_243) NB234_243) NB234_243) NB234_243) NB234_243) 0) 1) 2) 3) 4) Try.underlying66 rfl (by kernel_rfl)) rfl ?_
     exact ⟨zE, zB⟩
    ·replace c19 := Bool.eq_false_iff.mpr c19
     subst c19
     have H1 : (some (0, 0, 0, 0, (⟨#[]⟩ : ByteArray), 3)) = some (r1, r2, r3, r4, r5, r6) := by rw [if_neg (show ¬ (false = true) by decide)] at H; exact H
     clear H
     have H := H1
     clear H1
     simp only [Option.some.injEq, Prod.mk.injEq] at H
     obtain ⟨rfl, rfl, rfl, rfl, rfl, rfl⟩ := H
     have hnb28 := NB233_234.out
     have hnc28 := NB234_233.out
     have hcz29_0 : wc.cell? ⟨gb233, 0, none⟩ = some (.slice A0_0 l0_0.length c0_0) := (blk_cell BK233.out 0).trans rfl
     have hcz29_1 : wc.cell? ⟨gb233, 1, none⟩ = some (.slice A0_1 l0_1.length c0_1) := (blk_cell BK233.out 1).trans rfl
     have hfz29_0 := blk_frozen BK233.out 0
     have hfz29_1 := blk_frozen BK233.out 1
     go_wp2_with (first | ((with_reducible refine gate_callee (f := 73) rfl ?_); refine zg (some 20) #[.agg #[.slice A0_0 l0_0.length c0_0, .slice A0_1 l0_1.length c0_1], .int .i64 a1] Try.func73 ?_; (with_reducible refine (spec_Lookup.calls kj2 _ _ l0_0 _ _ l0_1 a1 t237 t238 t239 t240 t241 false _ (zk (Kd.C_below HR0_0.out HB.out)) HC0_0.out (zk (Kd.C_below HR0_1.out HB.out)) HC0_1.out A18.out).mono ?_); rintro e w30 ⟨rfl, hb⟩; refine ⟨_, rfl, ?_⟩; replace BK233 := zm (blk_below (zb BK233) hb); replace BK234 := zm (blk_below (zb BK234) hb); replace HB := zm (below_step zB hb); clear hb) | ((with_reducible refine gate_dst (N := 6) rfl ?_); refine zbox 6 #[.int .i64 0, .int .i64 0, .int .i64 0, .int .i64 0, .string (⟨#[]⟩ : ByteArray)] 66 ?_; intro gb243 hg w31 hbox hb; have BK243 := zm (hbox); have GW243 := zge w hg zB; have GE243 := zge w hg zB; replace HB := zm (below_step zB hb); have NB233_243 := zlt hg (zb BK233); have NB243_233 := zgt hg (zb BK233); replace BK233 := zm (blk_below (zb BK233) hb); have NB234_243 := zlt hg (zb BK234); have NB243_234 := zgt hg (zb BK234); replace BK234 := zm (blk_below (zb BK234) hb); clear hb hbox hg; have hnb32 := NB243_233.out; have hnc32 := NB233_243.out; have hnb33 := NB243_234.out; have hnc33 := NB234_243.out; have hcz34_0 : w31.cell? ⟨gb243, 0, none⟩ = some (.int .i64 0) := (blk_cell BK243.out 0).trans rfl; have hcz34_1 : w31.cell? ⟨gb243, 1, none⟩ = some (.int .i64 0) := (blk_cell BK243.out 1).trans rfl; have hcz34_2 : w31.cell? ⟨gb243, 2, none⟩ = some (.int .i64 0) := (blk_cell BK243.out 2).trans rfl; have hcz34_3 : w31.cell? ⟨gb243, 3, none⟩ = some (.int .i64 0) := (blk_cell BK243.out 3).trans rfl; have hcz34_4 : w31.cell? ⟨gb243, 4, none⟩ = some (.string (⟨#[]⟩ : ByteArray)) := (blk_cell BK243.out 4).trans rfl; have hfz34_0 := blk_frozen BK243.out 0; have hfz34_1 := blk_frozen BK243.out 1; have hfz34_2 := blk_frozen BK243.out 2; have hfz34_3 := blk_frozen BK243.out 3; have hfz34_4 := blk_frozen BK243.out 4; have hcz35_0 : w31.cell? ⟨gb234, 0, none⟩ = some (.int .i64 0) := (blk_cell BK234.out 0).trans rfl; have hcz35_1 : w31.cell? ⟨gb234, 1, none⟩ = some (.int .i64 0) := (blk_cell BK234.out 1).trans rfl; have hcz35_2 : w31.cell? ⟨gb234, 2, none⟩ = some (.int .i64 0) := (blk_cell BK234.out 2).trans rfl; have hcz35_3 : w31.cell? ⟨gb234, 3, none⟩ = some (.int .i64 0) := (blk_cell BK234.out 3).trans rfl; have hcz35_4 : w31.cell? ⟨gb234, 4, none⟩ = some (.string (⟨#[]⟩ : ByteArray)) := (blk_cell BK234.out 4).trans rfl; have hfz35_0 := blk_frozen BK234.out 0; have hfz35_1 := blk_frozen BK234.out 1; have hfz35_2 := blk_frozen BK234.out 2; have hfz35_3 := blk_frozen BK234.out 3; have hfz35_4 := blk_frozen BK234.out 4))
     refine bodyPost_ret (results_ct rfl _ _ gb234 66 #[.int .i64 0, .int .i64 0, .int .i64 0, .int .i64 0, .string (⟨#[]⟩ : ByteArray)] (0, 0) _ rfl (zput (zput (zput (zput (zput (zfar (zfar (zfar (zfar (zfar (zb BK234) NB234_243) NB234_243) NB234_243) NB234_243) NB234_243) 0) 1) 2) 3) 4) Try.underlying66 rfl (by kernel_rfl)) rfl ?_
     exact ⟨zE, zB⟩

/-! ### spec_Single: function 101 -/
def spec_Single.f (k : Nat) (a0 : Int) (a1_0 : Int) (a1_1 : Int) (a1_2 : Int) (a1_3 : Int) (a1_4 : ByteArray) : Option ((List (S68)) × (List (S72)) × Bool) := (some (([(⟨a0, (⟨a1_0, a1_1, a1_2, a1_3, a1_4⟩ : S66)⟩ : S68)] : List (S68)) : List (S68))).bind fun y246 => ((spec_StateOk.f k y246 ([] : List (S72))).bind fun t250 => (if t250 = true then (some (y246, ([] : List (S72)), true)) else (some (([] : List (S68)), ([] : List (S72)), false))))
theorem spec_Single.mono : ∀ a0 a1 a2 a3 a4 a5 k, LeO (spec_Single.f k a0 a1 a2 a3 a4 a5) (spec_Single.f (k + 1) a0 a1 a2 a3 a4 a5) := by
 intro a0 a1 a2 a3 a4 a5 k
 unfold spec_Single.f
 repeat' first
   | (with_reducible exact spec_StateOk.mono _ _ _)
   | (with_reducible exact LeO.refl _)
   | (with_reducible exact LeO.none _)
   | (with_reducible refine LeO.ite ?_ ?_)
   | (with_reducible refine LeO.bind ?_ (fun _ => ?_))
   | exact spec_StateOk.mono _ _ _
   | exact LeO.none _
   | refine LeO.ite ?_ ?_
   | refine LeO.bind ?_ (fun _ => ?_)
set_option maxHeartbeats 8000000 in
set_option maxRecDepth 100000 in
theorem spec_Single.calls (k : Nat) (a0 : Int) (a1_0 : Int) (a1_1 : Int) (a1_2 : Int) (a1_3 : Int) (a1_4 : ByteArray) (r1 : List (S68)) (r2 : List (S72)) (r3 : Bool) (w : World) (h : spec_Single.f k a0 a1_0 a1_1 a1_2 a1_3 a1_4 = some (r1, r2, r3)) :
  Calls Try.prog 101 #[.int .i64 a0, .agg #[.int .i64 a1_0, .int .i64 a1_1, .int .i64 a1_2, .int .i64 a1_3, .string a1_4]] w fun e w' => ∃ v0_ v1_ : Value, e = .returned (.tuple #[.agg #[v0_, v1_], .bool r3]) ∧ Kd.R k68 68 w' w.heap.size (fun _ => True) v0_ r1 ∧ Kd.R k72 72 w' w.heap.size (fun _ => True) v1_ r2 ∧ Below w.heap.size w w' := by
 have hu66 := Try.underlying66
 have hu32 := Try.underlying32
 have hu68 := Try.underlying68
 have HB := zm (Below.refl w.heap.size w)
 have H : ((some (([(⟨a0, (⟨a1_0, a1_1, a1_2, a1_3, a1_4⟩ : S66)⟩ : S68)] : List (S68)) : List (S68))).bind fun y246 => ((spec_StateOk.f k y246 ([] : List (S72))).bind fun t250 => (if t250 = true then (some (y246, ([] : List (S72)), true)) else (some (([] : List (S68)), ([] : List (S72)), false))))) = some (r1, r2, r3) := h
 clear h
 obtain ⟨y246, hy246⟩ : ∃ y_ : List (S68), y_ = (([(⟨a0, (⟨a1_0, a1_1, a1_2, a1_3, a1_4⟩ : S66)⟩ : S68)] : List (S68))) := ⟨_, rfl⟩
 replace H : ((spec_StateOk.f k y246 ([] : List (S72))).bind fun t250 => (if t250 = true then (some (y246, ([] : List (S72)), true)) else (some (([] : List (S68)), ([] : List (S72)), false)))) = some (r1, r2, r3) := by first | (rw [hy246]; with_reducible exact H) | (have H2_ := (Option.bind_some _ _).symm.trans H; rw [hy246]; with_reducible exact H2_) | (have H2_ := (Option.bind_some _ _).symm.trans H; with_reducible exact H2_) | with_reducible exact H | (rw [hy246]; exact H) | exact H
 have Ny246 := zm hy246
 clear hy246
 replace H := Option.bind_eq_some_iff.mp H
 obtain ⟨t250, A30, H⟩ := H
 replace H : (if t250 = true then (some (y246, ([] : List (S72)), true)) else (some (([] : List (S68)), ([] : List (S72)), false))) = some (r1, r2, r3) := H
 have A3 := zm A30
 clear A30
 by_cases c4 : t250 = true
 ·subst c4
  have H1 : (some (y246, ([] : List (S72)), true)) = some (r1, r2, r3) := by rw [if_pos rfl] at H; exact H
  clear H
  have H := H1
  clear H1
  simp only [Option.some.injEq, Prod.mk.injEq] at H
  obtain ⟨rfl, rfl, rfl⟩ := H
  go_enter Try.func101, Try.ntmps101
  go_wp2_with (first | ((with_reducible refine gate_dst (N := 3) rfl ?_); refine zbox 3 #[.int .i64 a1_0, .int .i64 a1_1, .int .i64 a1_2, .int .i64 a1_3, .string a1_4] 66 ?_; intro gb244 hg w5 hbox hb; have BK244 := zm (hbox); have GW244 := zge w hg zB; have GE244 := zge w hg zB; replace HB := zm (below_step zB hb); clear hb hbox hg) | ((with_reducible refine gate_dst (N := 4) rfl ?_); refine zbox 4 #[.slice none 0 0, .slice none 0 0] 32 ?_; intro gb245 hg w6 hbox hb; have BK245 := zm (hbox); have GW245 := zge w hg zB; have GE245 := zge w hg zB; replace HB := zm (below_step zB hb); have NB244_245 := zlt hg (zb BK244); have NB245_244 := zgt hg (zb BK244); replace BK244 := zm (blk_below (zb BK244) hb); clear hb hbox hg; have hnb7 := NB244_245.out; have hnc7 := NB245_244.out; have hcz8_0 : w6.cell? ⟨gb244, 0, none⟩ = some (.int .i64 a1_0) := (blk_cell BK244.out 0).trans rfl; have hcz8_1 : w6.cell? ⟨gb244, 1, none⟩ = some (.int .i64 a1_1) := (blk_cell BK244.out 1).trans rfl; have hcz8_2 : w6.cell? ⟨gb244, 2, none⟩ = some (.int .i64 a1_2) := (blk_cell BK244.out 2).trans rfl; have hcz8_3 : w6.cell? ⟨gb244, 3, none⟩ = some (.int .i64 a1_3) := (blk_cell BK244.out 3).trans rfl; have hcz8_4 : w6.cell? ⟨gb244, 4, none⟩ = some (.string a1_4) := (blk_cell BK244.out 4).trans rfl; have hfz8_0 := blk_frozen BK244.out 0; have hfz8_1 := blk_frozen BK244.out 1; have hfz8_2 := blk_frozen BK244.out 2; have hfz8_3 := blk_frozen BK244.out 3; have hfz8_4 := blk_frozen BK244.out 4) | ((with_reducible refine gate_dst (N := 10) rfl ?_); refine Kd.R_lit k68 _ 68 ?hg (N := 10) ?hd (xs := ([(⟨a0, (⟨a1_0, a1_1, a1_2, a1_3, a1_4⟩ : S66)⟩ : S68)] : List (S68))) (inner := [.int .i64 a0, .int .i64 a1_0, .int .i64 a1_1, .int .i64 a1_2, .int .i64 a1_3, .string a1_4]) (ok := fun _ => True) (okp := fun _ => True) ?hr ?hp (fun _ hk => hk) trivial (Below.refl _ _) (Nat.le_refl _) (by simp) ?_; (case hd => rfl); (case hg => rfl); (case hr => first | (go_simp; done) | (go_simp; rfl)); (case hp => exact (Reps.c6 (show Kd.M k68 _ _ _ (⟨a0, (⟨a1_0, a1_1, a1_2, a1_3, a1_4⟩ : S66)⟩ : S68) [.int .i64 a0, .int .i64 a1_0, .int .i64 a1_1, .int .i64 a1_2, .int .i64 a1_3, .string a1_4] from (k68_mkM _ _ _ (⟨a0, (⟨a1_0, a1_1, a1_2, a1_3, a1_4⟩ : S66)⟩ : S68) )) (Reps.none _ _))); intro v247 w9 ho10 hb hg_ hnew_; clear hg_ hnew_; (first | rw [← Ny246.out] at ho10 | (simp only [Int.reduceToNat] at ho10; rw [← Ny246.out] at ho10)); have HO248 := zm (Kd.R_lower ho10 (below_size zB)); replace BK244 := zm (blk_below (zb BK244) hb); replace BK245 := zm (blk_below (zb BK245) hb); replace HB := zm (below_step zB hb); clear hb ho10; obtain ⟨Ao11, co11, eo11⟩ := Kd.R_slice HO248.out; subst eo11) | ((with_reducible refine gate_dst (N := 6) rfl ?_); refine zbox 6 #[.slice none 0 0, .slice none 0 0] 32 ?_; intro gb249 hg w12 hbox hb; replace HO248 := zm (Kd.R_below (zr HO248) hb); have BK249 := zm (hbox); have GW249 := zge w hg zB; have GE249 := zge w hg zB; replace HB := zm (below_step zB hb); have NB244_249 := zlt hg (zb BK244); have NB249_244 := zgt hg (zb BK244); replace BK244 := zm (blk_below (zb BK244) hb); have NB245_249 := zlt hg (zb BK245); have NB249_245 := zgt hg (zb BK245); replace BK245 := zm (blk_below (zb BK245) hb); clear hb hbox hg; have hnb13 := NB249_244.out; have hnc13 := NB244_249.out; have hnb14 := NB249_245.out; have hnc14 := NB245_249.out; have hcz15_0 : w12.cell? ⟨gb249, 0, none⟩ = some (.slice none 0 0) := (blk_cell BK249.out 0).trans rfl; have hcz15_1 : w12.cell? ⟨gb249, 1, none⟩ = some (.slice none 0 0) := (blk_cell BK249.out 1).trans rfl; have hfz15_0 := blk_frozen BK249.out 0; have hfz15_1 := blk_frozen BK249.out 1) | ((with_reducible refine gate_callee (f := 49) rfl ?_); refine zg (some 13) #[.agg #[.slice Ao11 y246.length co11, .slice none 0 0]] Try.func49 ?_; (refine (spec_StateOk.calls k _ _ y246 _ _ ([] : List (S72)) true _ ?side1 ?side2 ?side3 ?side4 A3.out).mono ?_); (case side1 => refine (Kd.R_reads' (e := 68) (base := w.heap.size) (ok := fun k_ => True) (n := y246.length) (c := co11) ?_).2.2; exact (zrs <| (Kd.R_mono (zfr (zfr (Kd.R_types HO248.out BK249.out (by decide)))) (fun _ h_ => h_.1)))); (case side2 => exact (Kd.R_reads' HO248.out).2.1); (case side3 => exact Kd.C_nil _ _); (case side4 => exact Nat.le_refl _); rintro e w16 ⟨rfl, hb⟩; refine ⟨_, rfl, ?_⟩; replace HO248 := zm (Kd.R_below (zrs <| (Kd.R_mono (zfr (zfr (Kd.R_types HO248.out BK249.out (by decide)))) (fun _ h_ => h_.1))) hb); replace BK244 := zm (blk_below (g := gb244) (o := .cells #[.int .i64 a1_0, .int .i64 a1_1, .int .i64 a1_2, .int .i64 a1_3, .string a1_4] 66 (0, 0)) (zfar (zfar (zb BK244) NB244_249) NB244_249) hb); replace BK245 := zm (blk_below (g := gb245) (o := .cells #[.slice none 0 0, .slice none 0 0] 32 (0, 0)) (zfar (zfar (zb BK245) NB245_249) NB245_249) hb); replace BK249 := zm (blk_below (g := gb249) (o := .cells #[.slice Ao11 y246.length co11, .slice none 0 0] 32 (0, 0)) (zput (zput (zb BK249) 0) 1) hb); replace HB := zm (below_step zB hb); clear hb; have hcz17_0 : w16.cell? ⟨gb249, 0, none⟩ = some (.slice Ao11 y246.length co11) := (blk_cell BK249.out 0).trans rfl; have hcz17_1 : w16.cell? ⟨gb249, 1, none⟩ = some (.slice none 0 0) := (blk_cell BK249.out 1).trans rfl; have hfz17_0 := blk_frozen BK249.out 0; have hfz17_1 := blk_frozen BK249.out 1; have hcz18_0 : w16.cell? ⟨gb245, 0, none⟩ = some (.slice none 0 0) := (blk_cell BK245.out 0).trans rfl; have hcz18_1 : w16.cell? ⟨gb245, 1, none⟩ = some (.slice none 0 0) := (blk_cell BK245.out 1).trans rfl; have hfz18_0 := blk_frozen BK245.out 0; have hfz18_1 := blk_frozen BK245.out 1))
  refine bodyPost_ret (results_ct rfl _ _ gb245 32 #[.slice Ao11 y246.length co11, .slice none 0 0] (0, 0) _ rfl (zput (zput (zb BK245) 0) 1) Try.underlying32 rfl (by kernel_rfl)) rfl ?_
  exact ⟨_, _, zE, zrs <| Kd.R_mono (zfr (zfr (Kd.R_types HO248.out BK245.out (by decide)))) (fun _ hk => trivial), by first | exact Kd.R_nil _ _ _ _ _ | exact Kd.N_nil _ _ _ _ _ | exact Kd.V_nil _ _ _ _ _ | exact Kd.Q_nil _ _ _ _ _ | exact Kd.S_nil _ _ _ _ _, zB⟩
 ·replace c4 := Bool.eq_false_iff.mpr c4
  subst c4
  have H1 : (some (([] : List (S68)), ([] : List (S72)), false)) = some (r1, r2, r3) := by rw [if_neg (show ¬ (false = true) by decide)] at H; exact H
  clear H
  have H := H1
  clear H1
  simp only [Option.some.injEq, Prod.mk.injEq] at H
  obtain ⟨rfl, rfl, rfl⟩ := H
  go_enter Try.func101, Try.ntmps101
  go_wp2_with (first | ((with_reducible refine gate_dst (N := 3) rfl ?_); refine zbox 3 #[.int .i64 a1_0, .int .i64 a1_1, .int .i64 a1_2, .int .i64 a1_3, .string a1_4] 66 ?_; intro gb244 hg w19 hbox hb; have BK244 := zm (hbox); have GW244 := zge w hg zB; have GE244 := zge w hg zB; replace HB := zm (below_step zB hb); clear hb hbox hg) | ((with_reducible refine gate_dst (N := 4) rfl ?_); refine zbox 4 #[.slice none 0 0, .slice none 0 0] 32 ?_; intro gb245 hg w20 hbox hb; have BK245 := zm (hbox); have GW245 := zge w hg zB; have GE245 := zge w hg zB; replace HB := zm (below_step zB hb); have NB244_245 := zlt hg (zb BK244); have NB245_244 := zgt hg (zb BK244); replace BK244 := zm (blk_below (zb BK244) hb); clear hb hbox hg; have hnb21 := NB244_245.out; have hnc21 := NB245_244.out; have hcz22_0 : w20.cell? ⟨gb244, 0, none⟩ = some (.int .i64 a1_0) := (blk_cell BK244.out 0).trans rfl; have hcz22_1 : w20.cell? ⟨gb244, 1, none⟩ = some (.int .i64 a1_1) := (blk_cell BK244.out 1).trans rfl; have hcz22_2 : w20.cell? ⟨gb244, 2, none⟩ = some (.int .i64 a1_2) := (blk_cell BK244.out 2).trans rfl; have hcz22_3 : w20.cell? ⟨gb244, 3, none⟩ = some (.int .i64 a1_3) := (blk_cell BK244.out 3).trans rfl; have hcz22_4 : w20.cell? ⟨gb244, 4, none⟩ = some (.string a1_4) := (blk_cell BK244.out 4).trans rfl; have hfz22_0 := blk_frozen BK244.out 0; have hfz22_1 := blk_frozen BK244.out 1; have hfz22_2 := blk_frozen BK244.out 2; have hfz22_3 := blk_frozen BK244.out 3; have hfz22_4 := blk_frozen BK244.out 4) | ((with_reducible refine gate_dst (N := 10) rfl ?_); refine Kd.R_lit k68 _ 68 ?hg (N := 10) ?hd (xs := ([(⟨a0, (⟨a1_0, a1_1, a1_2, a1_3, a1_4⟩ : S66)⟩ : S68)] : List (S68))) (inner := [.int .i64 a0, .int .i64 a1_0, .int .i64 a1_1, .int .i64 a1_2, .int .i64 a1_3, .string a1_4]) (ok := fun _ => True) (okp := fun _ => True) ?hr ?hp (fun _ hk => hk) trivial (Below.refl _ _) (Nat.le_refl _) (by simp) ?_; (case hd => rfl); (case hg => rfl); (case hr => first | (go_simp; done) | (go_simp; rfl)); (case hp => exact (Reps.c6 (show Kd.M k68 _ _ _ (⟨a0, (⟨a1_0, a1_1, a1_2, a1_3, a1_4⟩ : S66)⟩ : S68) [.int .i64 a0, .int .i64 a1_0, .int .i64 a1_1, .int .i64 a1_2, .int .i64 a1_3, .string a1_4] from (k68_mkM _ _ _ (⟨a0, (⟨a1_0, a1_1, a1_2, a1_3, a1_4⟩ : S66)⟩ : S68) )) (Reps.none _ _))); intro v247 w23 ho24 hb hg_ hnew_; clear hg_ hnew_; (first | rw [← Ny246.out] at ho24 | (simp only [Int.reduceToNat] at ho24; rw [← Ny246.out] at ho24)); have HO248 := zm (Kd.R_lower ho24 (below_size zB)); replace BK244 := zm (blk_below (zb BK244) hb); replace BK245 := zm (blk_below (zb BK245) hb); replace HB := zm (below_step zB hb); clear hb ho24; obtain ⟨Ao25, co25, eo25⟩ := Kd.R_slice HO248.out; subst eo25) | ((with_reducible refine gate_dst (N := 6) rfl ?_); refine zbox 6 #[.slice none 0 0, .slice none 0 0] 32 ?_; intro gb249 hg w26 hbox hb; replace HO248 := zm (Kd.R_below (zr HO248) hb); have BK249 := zm (hbox); have GW249 := zge w hg zB; have GE249 := zge w hg zB; replace HB := zm (below_step zB hb); have NB244_249 := zlt hg (zb BK244); have NB249_244 := zgt hg (zb BK244); replace BK244 := zm (blk_below (zb BK244) hb); have NB245_249 := zlt hg (zb BK245); have NB249_245 := zgt hg (zb BK245); replace BK245 := zm (blk_below (zb BK245) hb); clear hb hbox hg; have hnb27 := NB249_244.out; have hnc27 := NB244_249.out; have hnb28 := NB249_245.out; have hnc28 := NB245_249.out; have hcz29_0 : w26.cell? ⟨gb249, 0, none⟩ = some (.slice none 0 0) := (blk_cell BK249.out 0).trans rfl; have hcz29_1 : w26.cell? ⟨gb249, 1, none⟩ = some (.slice none 0 0) := (blk_cell BK249.out 1).trans rfl; have hfz29_0 := blk_frozen BK249.out 0; have hfz29_1 := blk_frozen BK249.out 1) | ((with_reducible refine gate_callee (f := 49) rfl ?_); refine zg (some 13) #[.agg #[.slice Ao25 y246.length co25, .slice none 0 0]] Try.func49 ?_; (refine (spec_StateOk.calls k _ _ y246 _ _ ([] : List (S72)) false _ ?side1 ?side2 ?side3 ?side4 A3.out).mono ?_); (case side1 => refine (Kd.R_reads' (e := 68) (base := w.heap.size) (ok := fun k_ => True) (n := y246.length) (c := co25) ?_).2.2; exact (zrs <| (Kd.R_mono (zfr (zfr (Kd.R_types HO248.out BK249.out (by decide)))) (fun _ h_ => h_.1)))); (case side2 => exact (Kd.R_reads' HO248.out).2.1); (case side3 => exact Kd.C_nil _ _); (case side4 => exact Nat.le_refl _); rintro e w30 ⟨rfl, hb⟩; refine ⟨_, rfl, ?_⟩; replace HO248 := zm (Kd.R_below (zrs <| (Kd.R_mono (zfr (zfr (Kd.R_types HO248.out BK249.out (by decide)))) (fun _ h_ => h_.1))) hb); replace BK244 := zm (blk_below (g := gb244) (o := .cells #[.int .i64 a1_0, .int .i64 a1_1, .int .i64 a1_2, .int .i64 a1_3, .string a1_4] 66 (0, 0)) (zfar (zfar (zb BK244) NB244_249) NB244_249) hb); replace BK245 := zm (blk_below (g := gb245) (o := .cells #[.slice none 0 0, .slice none 0 0] 32 (0, 0)) (zfar (zfar (zb BK245) NB245_249) NB245_249) hb); replace BK249 := zm (blk_below (g := gb249) (o := .cells #[.slice Ao25 y246.length co25, .slice none 0 0] 32 (0, 0)) (zput (zput (zb BK249) 0) 1) hb); replace HB := zm (below_step zB hb); clear hb; have hcz31_0 : w30.cell? ⟨gb245, 0, none⟩ = some (.slice none 0 0) := (blk_cell BK245.out 0).trans rfl; have hcz31_1 : w30.cell? ⟨gb245, 1, none⟩ = some (.slice none 0 0) := (blk_cell BK245.out 1).trans rfl; have hfz31_0 := blk_frozen BK245.out 0; have hfz31_1 := blk_frozen BK245.out 1))
  refine bodyPost_ret (results_ct rfl _ _ gb245 32 #[.slice none 0 0, .slice none 0 0] (0, 0) _ rfl (zput (zput (zb BK245) 0) 1) Try.underlying32 rfl (by kernel_rfl)) rfl ?_
  exact ⟨_, _, zE, by first | exact Kd.R_nil _ _ _ _ _ | exact Kd.N_nil _ _ _ _ _ | exact Kd.V_nil _ _ _ _ _ | exact Kd.Q_nil _ _ _ _ _ | exact Kd.S_nil _ _ _ _ _, by first | exact Kd.R_nil _ _ _ _ _ | exact Kd.N_nil _ _ _ _ _ | exact Kd.V_nil _ _ _ _ _ | exact Kd.Q_nil _ _ _ _ _ | exact Kd.S_nil _ _ _ _ _, zB⟩

/-! ### spec_l5One: function 67 -/
def spec_l5One.f (k : Nat) (a0 : Int) (a1_0 : Int) (a1_1 : Int) (a1_2 : Int) (a1_3 : Int) (a1_4 : ByteArray) : Option ((List (S68)) × (List (S72)) × Int) := (spec_Single.f k a0 a1_0 a1_1 a1_2 a1_3 a1_4).bind fun bt253 => (some (bt253.1, bt253.2.1, 0))
theorem spec_l5One.mono : ∀ a0 a1 a2 a3 a4 a5 k, LeO (spec_l5One.f k a0 a1 a2 a3 a4 a5) (spec_l5One.f (k + 1) a0 a1 a2 a3 a4 a5) := by
 intro a0 a1 a2 a3 a4 a5 k
 unfold spec_l5One.f
 repeat' first
   | (with_reducible exact spec_Single.mono _ _ _ _ _ _ _)
   | (with_reducible exact LeO.refl _)
   | (with_reducible exact LeO.none _)
   | (with_reducible refine LeO.ite ?_ ?_)
   | (with_reducible refine LeO.bind ?_ (fun _ => ?_))
   | exact spec_Single.mono _ _ _ _ _ _ _
   | exact LeO.none _
   | refine LeO.ite ?_ ?_
   | refine LeO.bind ?_ (fun _ => ?_)
set_option maxHeartbeats 8000000 in
set_option maxRecDepth 100000 in
theorem spec_l5One.calls (k : Nat) (a0 : Int) (a1_0 : Int) (a1_1 : Int) (a1_2 : Int) (a1_3 : Int) (a1_4 : ByteArray) (r1 : List (S68)) (r2 : List (S72)) (r3 : Int) (w : World) (h : spec_l5One.f k a0 a1_0 a1_1 a1_2 a1_3 a1_4 = some (r1, r2, r3)) :
  Calls Try.prog 67 #[.int .i64 a0, .agg #[.int .i64 a1_0, .int .i64 a1_1, .int .i64 a1_2, .int .i64 a1_3, .string a1_4]] w fun e w' => ∃ v0_ v1_ : Value, e = .returned (.tuple #[.agg #[v0_, v1_], .int .i64 r3]) ∧ Kd.R k68 68 w' w.heap.size (fun _ => True) v0_ r1 ∧ Kd.R k72 72 w' w.heap.size (fun _ => True) v1_ r2 ∧ Below w.heap.size w w' := by
 have hu66 := Try.underlying66
 have hu32 := Try.underlying32
 have HB := zm (Below.refl w.heap.size w)
 have H : ((spec_Single.f k a0 a1_0 a1_1 a1_2 a1_3 a1_4).bind fun bt253 => (some (bt253.1, bt253.2.1, 0))) = some (r1, r2, r3) := h
 clear h
 replace H := Option.bind_eq_some_iff.mp H
 obtain ⟨⟨t253, t256, t259⟩, A30, H⟩ := H
 replace H : (some (t253, t256, 0)) = some (r1, r2, r3) := H
 have A3 := zm A30
 clear A30
 simp only [Option.some.injEq, Prod.mk.injEq] at H
 obtain ⟨rfl, rfl, rfl⟩ := H
 go_enter Try.func67, Try.ntmps67
 go_wp2_with (first | ((with_reducible refine gate_dst (N := 3) rfl ?_); refine zbox 3 #[.int .i64 a1_0, .int .i64 a1_1, .int .i64 a1_2, .int .i64 a1_3, .string a1_4] 66 ?_; intro gb251 hg w4 hbox hb; have BK251 := zm (hbox); have GW251 := zge w hg zB; have GE251 := zge w hg zB; replace HB := zm (below_step zB hb); clear hb hbox hg) | ((with_reducible refine gate_dst (N := 4) rfl ?_); refine zbox 4 #[.slice none 0 0, .slice none 0 0] 32 ?_; intro gb252 hg w5 hbox hb; have BK252 := zm (hbox); have GW252 := zge w hg zB; have GE252 := zge w hg zB; replace HB := zm (below_step zB hb); have NB251_252 := zlt hg (zb BK251); have NB252_251 := zgt hg (zb BK251); replace BK251 := zm (blk_below (zb BK251) hb); clear hb hbox hg; have hnb6 := NB251_252.out; have hnc6 := NB252_251.out; have hcz7_0 : w5.cell? ⟨gb251, 0, none⟩ = some (.int .i64 a1_0) := (blk_cell BK251.out 0).trans rfl; have hcz7_1 : w5.cell? ⟨gb251, 1, none⟩ = some (.int .i64 a1_1) := (blk_cell BK251.out 1).trans rfl; have hcz7_2 : w5.cell? ⟨gb251, 2, none⟩ = some (.int .i64 a1_2) := (blk_cell BK251.out 2).trans rfl; have hcz7_3 : w5.cell? ⟨gb251, 3, none⟩ = some (.int .i64 a1_3) := (blk_cell BK251.out 3).trans rfl; have hcz7_4 : w5.cell? ⟨gb251, 4, none⟩ = some (.string a1_4) := (blk_cell BK251.out 4).trans rfl; have hfz7_0 := blk_frozen BK251.out 0; have hfz7_1 := blk_frozen BK251.out 1; have hfz7_2 := blk_frozen BK251.out 2; have hfz7_3 := blk_frozen BK251.out 3; have hfz7_4 := blk_frozen BK251.out 4) | ((with_reducible refine gate_callee (f := 101) rfl ?_); refine zg (some 11) #[.int .i64 a0, .agg #[.int .i64 a1_0, .int .i64 a1_1, .int .i64 a1_2, .int .i64 a1_3, .string a1_4]] Try.func101 ?_; (with_reducible refine (spec_Single.calls k a0 a1_0 a1_1 a1_2 a1_3 a1_4 t253 t256 t259 _ A3.out).mono ?_); rintro e w8 ⟨v254, v257, rfl, ho0, ho1, hb⟩; refine ⟨_, rfl, ?_⟩; have HO255 := zm (Kd.R_lower ho0 (below_size zB)); have HO258 := zm (Kd.R_lower ho1 (below_size zB)); replace BK251 := zm (blk_below (zb BK251) hb); replace BK252 := zm (blk_below (zb BK252) hb); replace HB := zm (below_step zB hb); clear hb ho0 ho1) | ((with_reducible refine gate_dst (N := 6) rfl ?_); refine zbox 6 #[.slice none 0 0, .slice none 0 0] 32 ?_; intro gb260 hg w9 hbox hb; replace HO255 := zm (Kd.R_below (zr HO255) hb); replace HO258 := zm (Kd.R_below (zr HO258) hb); have BK260 := zm (hbox); have GW260 := zge w hg zB; have GE260 := zge w hg zB; replace HB := zm (below_step zB hb); have NB251_260 := zlt hg (zb BK251); have NB260_251 := zgt hg (zb BK251); replace BK251 := zm (blk_below (zb BK251) hb); have NB252_260 := zlt hg (zb BK252); have NB260_252 := zgt hg (zb BK252); replace BK252 := zm (blk_below (zb BK252) hb); clear hb hbox hg; obtain ⟨Ao10, co10, eo10⟩ := Kd.R_slice HO255.out; subst eo10; have hnb11 := NB260_251.out; have hnc11 := NB251_260.out; have hnb12 := NB260_252.out; have hnc12 := NB252_260.out; have hcz13_0 : w9.cell? ⟨gb260, 0, none⟩ = some (.slice none 0 0) := (blk_cell BK260.out 0).trans rfl; have hcz13_1 : w9.cell? ⟨gb260, 1, none⟩ = some (.slice none 0 0) := (blk_cell BK260.out 1).trans rfl; have hfz13_0 := blk_frozen BK260.out 0; have hfz13_1 := blk_frozen BK260.out 1; obtain ⟨Ao14, co14, eo14⟩ := Kd.R_slice HO258.out; subst eo14; have hcz15_0 : w9.cell? ⟨gb252, 0, none⟩ = some (.slice none 0 0) := (blk_cell BK252.out 0).trans rfl; have hcz15_1 : w9.cell? ⟨gb252, 1, none⟩ = some (.slice none 0 0) := (blk_cell BK252.out 1).trans rfl; have hfz15_0 := blk_frozen BK252.out 0; have hfz15_1 := blk_frozen BK252.out 1))
 refine bodyPost_ret (results_ct rfl _ _ gb252 32 #[.slice Ao10 t253.length co10, .slice Ao14 t256.length co14] (0, 0) _ rfl (zput (zput (zfar (zfar (zb BK252) NB252_260) NB252_260) 0) 1) Try.underlying32 rfl (by kernel_rfl)) rfl ?_
 exact ⟨_, _, zE, zrs <| Kd.R_mono (zfr (zfr (zfq (zfq (Kd.R_types (Kd.R_types HO255.out BK260.out (by decide)) BK252.out (by decide)) (fun _ hk => hk.1.2)) (fun _ hk => hk.1.2)))) (fun _ hk => trivial), zrs <| Kd.R_mono (zfr (zfr (zfq (zfq (Kd.R_types (Kd.R_types HO258.out BK260.out (by decide)) BK252.out (by decide)) (fun _ hk => hk.1.2)) (fun _ hk => hk.1.2)))) (fun _ hk => trivial), zB⟩

end Go.Proofs.Ytgapdegniepjiaa.P
