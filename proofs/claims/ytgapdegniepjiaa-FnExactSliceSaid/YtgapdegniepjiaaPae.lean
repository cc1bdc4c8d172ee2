-- by a program of this session, for this seat
import Derived.Test.YtgapdegniepjiaaZ
import Derived.Test.YtgapdegniepjiaaP0
import Derived.Test.YtgapdegniepjiaaPad
namespace Go.Proofs.Ytgapdegniepjiaa.P
open Go.RowKit Go.Proofs.YtgapdegniepjiaaW.PrintWords Go.Proofs.YtgapdegniepjiaaW.PrintLast Go.Proofs.YtgapdegniepjiaaW.PrintMore Go.Proofs.Ytgapdegniepjiaa.Z
attribute [local go_sem] max2_int min2_int max_two min_two max_three min_three max_four min_four   -- for this text's walks alone
set_option linter.unusedVariables false
set_option linter.unusedSimpArgs false

/-! ### spec_StateOk: function 49 -/
mutual
def spec_StateOk.l0 : Nat → Int → List (S68) → List (S72) → Option (Bool)
 | 0, _, _, _ => none
 | k + 1, x3, x194000, x194001 => if x3 < (x194000.length : Int) then (if 0 ≤ x3 then ((spec_l3Node.f ((rd_T68 x194000 x3).f0)).bind fun t196 => (if t196 = true then (if x3 > 0 then (if 0 ≤ (wrap64 (x3 - 1)) then (if (wrap64 (x3 - 1)) < (x194000.length : Int) then (if ((rd_T68 x194000 x3).f0) ≤ ((rd_T68 x194000 (wrap64 (x3 - 1))).f0) then (some false) else ((spec_EntryOk.f ((rd_T68 x194000 x3).f1.f0) ((rd_T68 x194000 x3).f1.f1) ((rd_T68 x194000 x3).f1.f2) ((rd_T68 x194000 x3).f1.f3) ((rd_T68 x194000 x3).f1.f4)).bind fun t198 => (if t198 = true then ((spec_FloorOf.f k x194000 x194001 ((rd_T68 x194000 x3).f0)).bind fun t199 => (if ((rd_T68 x194000 x3).f1.f0) ≤ t199 then (some false) else (spec_StateOk.l0 k (wrap64 (x3 + 1)) x194000 x194001))) else (some false)))) else (none)) else (none)) else ((spec_EntryOk.f ((rd_T68 x194000 x3).f1.f0) ((rd_T68 x194000 x3).f1.f1) ((rd_T68 x194000 x3).f1.f2) ((rd_T68 x194000 x3).f1.f3) ((rd_T68 x194000 x3).f1.f4)).bind fun t200 => (if t200 = true then ((spec_FloorOf.f k x194000 x194001 ((rd_T68 x194000 x3).f0)).bind fun t201 => (if ((rd_T68 x194000 x3).f1.f0) ≤ t201 then (some false) else (spec_StateOk.l0 k (wrap64 (x3 + 1)) x194000 x194001))) else (some false)))) else (some false))) else (none)) else (spec_StateOk.l1 k 0 x194000 x194001)
def spec_StateOk.l1 : Nat → Int → List (S68) → List (S72) → Option (Bool)
 | 0, _, _, _ => none
 | k + 1, x5, x194000, x194001 => if x5 < (x194001.length : Int) then (if 0 ≤ x5 then ((spec_l3Node.f ((rd_T72 x194001 x5).f0)).bind fun t204 => (if t204 = true then (if x5 > 0 then (if 0 ≤ (wrap64 (x5 - 1)) then (if (wrap64 (x5 - 1)) < (x194001.length : Int) then (if ((rd_T72 x194001 x5).f0) ≤ ((rd_T72 x194001 (wrap64 (x5 - 1))).f0) then (some false) else ((spec_l1In.f ((rd_T72 x194001 x5).f1) 1 1000).bind fun t206 => (if t206 = true then (spec_StateOk.l1 k (wrap64 (x5 + 1)) x194000 x194001) else (some false)))) else (none)) else (none)) else ((spec_l1In.f ((rd_T72 x194001 x5).f1) 1 1000).bind fun t207 => (if t207 = true then (spec_StateOk.l1 k (wrap64 (x5 + 1)) x194000 x194001) else (some false)))) else (some false))) else (none)) else (some true)
end
def spec_StateOk.f (k : Nat) (l0_0 : List (S68)) (l0_1 : List (S72)) : Option (Bool) := spec_StateOk.l0 k 0 l0_0 l0_1
theorem spec_StateOk.mono_l : ∀ k, (∀ y0 y1 y2, LeO (spec_StateOk.l0 k y0 y1 y2) (spec_StateOk.l0 (k + 1) y0 y1 y2)) ∧ (∀ y0 y1 y2, LeO (spec_StateOk.l1 k y0 y1 y2) (spec_StateOk.l1 (k + 1) y0 y1 y2))
 | 0 => ⟨fun _ _ _ r h => by simp [spec_StateOk.l0] at h, fun _ _ _ r h => by simp [spec_StateOk.l1] at h⟩
 | k + 1 => by
  obtain ⟨ih0, ih1⟩ := spec_StateOk.mono_l k
  refine ⟨?_, ?_⟩
  ·intro y0 y1 y2
   unfold spec_StateOk.l0
   repeat' first
   | (with_reducible exact ih0 _ _ _)
   | (with_reducible exact ih1 _ _ _)
   | (with_reducible exact spec_FloorOf.mono _ _ _ _)
   | (with_reducible exact LeO.refl _)
   | (with_reducible exact LeO.none _)
   | (with_reducible refine LeO.ite ?_ ?_)
   | (with_reducible refine LeO.bind ?_ (fun _ => ?_))
   | exact ih0 _ _ _
   | exact ih1 _ _ _
   | exact spec_FloorOf.mono _ _ _ _
   | exact LeO.none _
   | refine LeO.ite ?_ ?_
   | refine LeO.bind ?_ (fun _ => ?_)
  ·intro y0 y1 y2
   unfold spec_StateOk.l1
   repeat' first
   | (with_reducible exact ih0 _ _ _)
   | (with_reducible exact ih1 _ _ _)
   | (with_reducible exact spec_FloorOf.mono _ _ _ _)
   | (with_reducible exact LeO.refl _)
   | (with_reducible exact LeO.none _)
   | (with_reducible refine LeO.ite ?_ ?_)
   | (with_reducible refine LeO.bind ?_ (fun _ => ?_))
   | exact ih0 _ _ _
   | exact ih1 _ _ _
   | exact spec_FloorOf.mono _ _ _ _
   | exact LeO.none _
   | refine LeO.ite ?_ ?_
   | refine LeO.bind ?_ (fun _ => ?_)
theorem spec_StateOk.mono : ∀ a0 a1 k, LeO (spec_StateOk.f k a0 a1) (spec_StateOk.f (k + 1) a0 a1) := by
 intro a0 a1 k
 obtain ⟨ih0, ih1⟩ := spec_StateOk.mono_l k
 unfold spec_StateOk.f
 repeat' first
   | (with_reducible exact ih0 _ _ _)
   | (with_reducible exact ih1 _ _ _)
   | (with_reducible exact spec_FloorOf.mono _ _ _ _)
   | (with_reducible exact LeO.refl _)
   | (with_reducible exact LeO.none _)
   | (with_reducible refine LeO.ite ?_ ?_)
   | (with_reducible refine LeO.bind ?_ (fun _ => ?_))
   | exact ih0 _ _ _
   | exact ih1 _ _ _
   | exact spec_FloorOf.mono _ _ _ _
   | exact LeO.none _
   | refine LeO.ite ?_ ?_
   | refine LeO.bind ?_ (fun _ => ?_)
def spec_StateOk.T5 : Bool × List (List Nat × List Nat) := (true, [([], []), ([0], [0]), ([1], [1]), ([2], [2]), ([3, 2], [3]), ([4], [4]), ([5, 4], [4, 5]), ([6, 4, 4], [4, 6]), ([7], [7]), ([8, 7], [7, 8]), ([7], [7]), ([10, 7], [7, 10]), ([7], [7]), ([12, 7], [7, 12]), ([11, 13, 7], [7, 11, 13]), ([14, 7], [7, 14]), ([15, 7], [7, 15]), ([9, 16, 7], [7, 9, 16]), ([7, 17, 4], [4, 7, 17]), ([4, 18], [4, 18]), ([19, 7], [19]), ([20], [20]), ([21, 20], [20, 21]), ([22, 20, 20], [20, 22]), ([23, 20], [20, 23]), ([20, 24], [20, 24]), ([25, 23], [25]), ([26], [26]), ([27, 26], [26, 27]), ([28, 26], [26, 28]), ([26], [26]), ([26], [26]), ([31, 26], [26, 31]), ([30, 32, 26, 26], [26, 30, 32]), ([29, 33, 26], [26, 29, 33]), ([26, 34], [26, 34])])
def spec_StateOk.B5 : List Nat := [0, 1, 3, 7, 15, 31, 63, 127, 255, 511, 255, 1279, 255, 4351, 15615, 31999, 64767, 131071, 262143, 524287, 1048575, 2097151, 4194303, 8388607, 16777215, 33554431, 67108863, 134217727, 268435455, 536870911, 134217727, 134217727, 2281701375, 7650410495, 17179869183, 34359738367]
theorem spec_StateOk.tab5 : rtab .any (opsOf Try.f49 5) = spec_StateOk.T5 := by kernel_rfl
theorem spec_StateOk.bits5 : waitsOk spec_StateOk.T5.2 spec_StateOk.B5 = true := by kernel_rfl
def spec_StateOk.T11 : Bool × List (List Nat × List Nat) := (true, [([], []), ([0], [0]), ([1], [1]), ([2], [2]), ([3, 2], [3]), ([4], [4]), ([5, 4], [4, 5]), ([6, 4, 4], [4, 6]), ([7], [7]), ([8, 7], [7, 8]), ([7], [7]), ([10, 7], [7, 10]), ([7], [7]), ([12, 7], [7, 12]), ([11, 13, 7], [7, 11, 13]), ([14, 7], [7, 14]), ([15, 7], [7, 15]), ([9, 16, 7], [7, 9, 16]), ([7, 17, 4], [4, 7, 17]), ([4, 18], [4, 18]), ([19, 7], [19]), ([20], [20]), ([21, 20], [20, 21]), ([22, 20, 20], [20, 22]), ([23, 20], [20, 23]), ([20, 24], [20, 24])])
def spec_StateOk.B11 : List Nat := [0, 1, 3, 7, 15, 31, 63, 127, 255, 511, 255, 1279, 255, 4351, 15615, 31999, 64767, 131071, 262143, 524287, 1048575, 2097151, 4194303, 8388607, 16777215, 33554431]
theorem spec_StateOk.tab11 : rtab .any (opsOf Try.f49 11) = spec_StateOk.T11 := by kernel_rfl
theorem spec_StateOk.bits11 : waitsOk spec_StateOk.T11.2 spec_StateOk.B11 = true := by kernel_rfl
set_option maxHeartbeats 8000000 in
set_option maxRecDepth 100000 in
theorem spec_StateOk.calls (k : Nat) (A0_0 : Option Addr) (c0_0 : Nat) (l0_0 : List (S68)) (A0_1 : Option Addr) (c0_1 : Nat) (l0_1 : List (S72)) (r : Bool) (w : World) (hr0_0 : Kd.C k68 w A0_0 l0_0.length l0_0) (hc0_0 : l0_0.length ≤ c0_0) (hr0_1 : Kd.C k72 w A0_1 l0_1.length l0_1) (hc0_1 : l0_1.length ≤ c0_1) (h : spec_StateOk.f k l0_0 l0_1 = some r) :
  Calls Try.prog 49 #[.agg #[.slice A0_0 l0_0.length c0_0, .slice A0_1 l0_1.length c0_1]] w fun e w' => e = .returned (.bool r) ∧ Below w.heap.size w w' := by
 have hu32 := Try.underlying32
 have hu68 := Try.underlying68
 have hu66 := Try.underlying66
 have hu72 := Try.underlying72
 have HR0_0 := zm hr0_0
 have HC0_0 := zm hc0_0
 clear hr0_0 hc0_0
 have HR0_1 := zm hr0_1
 have HC0_1 := zm hc0_1
 clear hr0_1 hc0_1
 have HB := zm (Below.refl w.heap.size w)
 have H : (spec_StateOk.l0 k 0 l0_0 l0_1) = some r := h
 clear h
 have H' := zm H
 clear H
 go_enter Try.func49, Try.ntmps49
 go_wp2_with (first | ((with_reducible refine gate_dst (N := 1) rfl ?_); refine zbox 1 #[.slice A0_0 l0_0.length c0_0, .slice A0_1 l0_1.length c0_1] 32 ?_; intro gb193 hg w2 hbox hb; have BK193 := zm (hbox); have GW193 := zge w hg zB; have GE193 := zge w hg zB; replace HB := zm (below_step zB hb); clear hb hbox hg))
 go_loopg [3] k (fun kq v3 w' => ∃ (x3_1 : Int), v3 = .int .i64 x3_1 ∧ Aside0 (spec_StateOk.l0 kq x3_1 l0_0 l0_1 = some r) ∧ Aside0 (kq ≤ k) ∧ Aside0 (w'.heap[gb193]? = some (.cells #[(.slice A0_0 l0_0.length c0_0), (.slice A0_1 l0_1.length c0_1)] 32 (0, 0))) ∧ Aside0 (Below w.heap.size w w'))
 case atStart => exact ⟨(0), zF, H', ⟨Nat.le_refl _⟩, ⟨zb BK193⟩, ⟨zB⟩⟩
 case round =>
  clear H'
  try clear p2
  obtain ⟨x3_1, rfl, HA, HK1, BK193, HB⟩ := hrel
  cases gk with
  | zero => exact absurd HA.out (by simp [spec_StateOk.l0])
  | succ k1 =>
   have H := HA.out
   clear HA
   simp only [spec_StateOk.l0] at H
   by_cases c3 : x3_1 < (l0_0.length : Int)
   ·rw [if_pos c3] at H
    have c3b0 : decide (x3_1 < (l0_0.length : Int)) = true := decide_eq_true c3
    clear c3
    by_cases c4 : 0 ≤ x3_1
    ·rw [if_pos c4] at H
     have c4b0 : decide (0 ≤ x3_1) = true := decide_eq_true c4
     clear c4
     replace H := Option.bind_eq_some_iff.mp H
     obtain ⟨t196, A50, H⟩ := H
     replace H : (if t196 = true then (if x3_1 > 0 then (if 0 ≤ (wrap64 (x3_1 - 1)) then (if (wrap64 (x3_1 - 1)) < (l0_0.length : Int) then (if ((rd_T68 l0_0 x3_1).f0) ≤ ((rd_T68 l0_0 (wrap64 (x3_1 - 1))).f0) then (some false) else ((spec_EntryOk.f ((rd_T68 l0_0 x3_1).f1.f0) ((rd_T68 l0_0 x3_1).f1.f1) ((rd_T68 l0_0 x3_1).f1.f2) ((rd_T68 l0_0 x3_1).f1.f3) ((rd_T68 l0_0 x3_1).f1.f4)).bind fun t198 => (if t198 = true then ((spec_FloorOf.f k1 l0_0 l0_1 ((rd_T68 l0_0 x3_1).f0)).bind fun t199 => (if ((rd_T68 l0_0 x3_1).f1.f0) ≤ t199 then (some false) else (spec_StateOk.l0 k1 (wrap64 (x3_1 + 1)) l0_0 l0_1))) else (some false)))) else (none)) else (none)) else ((spec_EntryOk.f ((rd_T68 l0_0 x3_1).f1.f0) ((rd_T68 l0_0 x3_1).f1.f1) ((rd_T68 l0_0 x3_1).f1.f2) ((rd_T68 l0_0 x3_1).f1.f3) ((rd_T68 l0_0 x3_1).f1.f4)).bind fun t200 => (if t200 = true then ((spec_FloorOf.f k1 l0_0 l0_1 ((rd_T68 l0_0 x3_1).f0)).bind fun t201 => (if ((rd_T68 l0_0 x3_1).f1.f0) ≤ t201 then (some false) else (spec_StateOk.l0 k1 (wrap64 (x3_1 + 1)) l0_0 l0_1))) else (some false)))) else (some false)) = some r := H
     have A5 := zm A50
     clear A50
     by_cases c6 : t196 = true
     ·subst c6
      have H1 : (if x3_1 > 0 then (if 0 ≤ (wrap64 (x3_1 - 1)) then (if (wrap64 (x3_1 - 1)) < (l0_0.length : Int) then (if ((rd_T68 l0_0 x3_1).f0) ≤ ((rd_T68 l0_0 (wrap64 (x3_1 - 1))).f0) then (some false) else ((spec_EntryOk.f ((rd_T68 l0_0 x3_1).f1.f0) ((rd_T68 l0_0 x3_1).f1.f1) ((rd_T68 l0_0 x3_1).f1.f2) ((rd_T68 l0_0 x3_1).f1.f3) ((rd_T68 l0_0 x3_1).f1.f4)).bind fun t198 => (if t198 = true then ((spec_FloorOf.f k1 l0_0 l0_1 ((rd_T68 l0_0 x3_1).f0)).bind fun t199 => (if ((rd_T68 l0_0 x3_1).f1.f0) ≤ t199 then (some false) else (spec_StateOk.l0 k1 (wrap64 (x3_1 + 1)) l0_0 l0_1))) else (some false)))) else (none)) else (none)) else ((spec_EntryOk.f ((rd_T68 l0_0 x3_1).f1.f0) ((rd_T68 l0_0 x3_1).f1.f1) ((rd_T68 l0_0 x3_1).f1.f2) ((rd_T68 l0_0 x3_1).f1.f3) ((rd_T68 l0_0 x3_1).f1.f4)).bind fun t200 => (if t200 = true then ((spec_FloorOf.f k1 l0_0 l0_1 ((rd_T68 l0_0 x3_1).f0)).bind fun t201 => (if ((rd_T68 l0_0 x3_1).f1.f0) ≤ t201 then (some false) else (spec_StateOk.l0 k1 (wrap64 (x3_1 + 1)) l0_0 l0_1))) else (some false)))) = some r := by rw [if_pos rfl] at H; exact H
      clear H
      have H := H1
      clear H1
      by_cases c7 : x3_1 > 0
      ·rw [if_pos c7] at H
       have c7b0 : decide (0 < x3_1) = true := decide_eq_true c7
       clear c7
       obtain ⟨ji8, hji8⟩ : ∃ j_ : Int, (wrap64 (x3_1 - 1)) = j_ := ⟨_, rfl⟩
       replace H : (if 0 ≤ (ji8) then (if (ji8) < (l0_0.length : Int) then (if ((rd_T68 l0_0 x3_1).f0) ≤ ((rd_T68 l0_0 (ji8)).f0) then (some false) else ((spec_EntryOk.f ((rd_T68 l0_0 x3_1).f1.f0) ((rd_T68 l0_0 x3_1).f1.f1) ((rd_T68 l0_0 x3_1).f1.f2) ((rd_T68 l0_0 x3_1).f1.f3) ((rd_T68 l0_0 x3_1).f1.f4)).bind fun t198 => (if t198 = true then ((spec_FloorOf.f k1 l0_0 l0_1 ((rd_T68 l0_0 x3_1).f0)).bind fun t199 => (if ((rd_T68 l0_0 x3_1).f1.f0) ≤ t199 then (some false) else (spec_StateOk.l0 k1 (wrap64 (x3_1 + 1)) l0_0 l0_1))) else (some false)))) else (none)) else (none)) = some r := by first | (rw [hji8] at H; exact H) | (simp only [hji8] at H ⊢; exact H)
       (try rw [hji8] at A5)
       have hji8w : (IntKind.i64.wrap (x3_1 - 1)) = ji8 := (i64_w _).trans hji8
       by_cases c9 : 0 ≤ (ji8)
       ·rw [if_pos c9] at H
        have c9b0 : decide (0 ≤ (ji8)) = true := decide_eq_true c9
        clear c9
        by_cases c10 : (ji8) < (l0_0.length : Int)
        ·rw [if_pos c10] at H
         have c10b0 : decide ((ji8) < (l0_0.length : Int)) = true := decide_eq_true c10
         clear c10
         by_cases c11 : ((rd_T68 l0_0 x3_1).f0) ≤ ((rd_T68 l0_0 (ji8)).f0)
         ·rw [if_pos c11] at H
          have c11b0 : decide (((rd_T68 l0_0 x3_1).f0) ≤ ((rd_T68 l0_0 (ji8)).f0)) = true := decide_eq_true c11
          clear c11
          obtain rfl := Option.some.inj H
          have hcz12_0 : wr.cell? ⟨gb193, 0, none⟩ = some (.slice A0_0 l0_0.length c0_0) := (blk_cell BK193.out 0).trans rfl
          have hcz12_1 : wr.cell? ⟨gb193, 1, none⟩ = some (.slice A0_1 l0_1.length c0_1) := (blk_cell BK193.out 1).trans rfl
          have hfz12_0 := blk_frozen BK193.out 0
          have hfz12_1 := blk_frozen BK193.out 1
          have p194 : 0 ≤ (x3_1 : Int) := zd
          have q194 : x3_1 < (l0_0.length : Int) := zd
          obtain ⟨ad194, e194, hx194_0, hx194_1, hx194_2, hx194_3, hx194_4, hx194_5⟩ := at_T68 (Kd.C_below HR0_0.out HB.out) x3_1 p194 q194
          cases e194
          replace p194 := eq_true p194
          replace q194 := eq_true q194
          try go_wp2_with (first | ((with_reducible refine gate_dst (N := 4) rfl ?_); refine zbox 4 #[.int .i64 0, .int .i64 0, .int .i64 0, .int .i64 0, .int .i64 0, .string (⟨#[]⟩ : ByteArray)] 68 ?_; intro gb195 hg w13 hbox hb; have BK195 := zm (hbox); have GW195 := zge w hg zB; have GE195 := zge w hg zB; replace HB := zm (below_step zB hb); have NB193_195 := zlt hg (zb BK193); have NB195_193 := zgt hg (zb BK193); replace BK193 := zm (blk_below (zb BK193) hb); clear hb hbox hg; have hnb14 := NB195_193.out; have hnc14 := NB193_195.out; have hcz15_0 : w13.cell? ⟨gb195, 0, none⟩ = some (.int .i64 0) := (blk_cell BK195.out 0).trans rfl; have hcz15_1 : w13.cell? ⟨gb195, 1, none⟩ = some (.int .i64 0) := (blk_cell BK195.out 1).trans rfl; have hcz15_2 : w13.cell? ⟨gb195, 2, none⟩ = some (.int .i64 0) := (blk_cell BK195.out 2).trans rfl; have hcz15_3 : w13.cell? ⟨gb195, 3, none⟩ = some (.int .i64 0) := (blk_cell BK195.out 3).trans rfl; have hcz15_4 : w13.cell? ⟨gb195, 4, none⟩ = some (.int .i64 0) := (blk_cell BK195.out 4).trans rfl; have hcz15_5 : w13.cell? ⟨gb195, 5, none⟩ = some (.string (⟨#[]⟩ : ByteArray)) := (blk_cell BK195.out 5).trans rfl; have hfz15_0 := blk_frozen BK195.out 0; have hfz15_1 := blk_frozen BK195.out 1; have hfz15_2 := blk_frozen BK195.out 2; have hfz15_3 := blk_frozen BK195.out 3; have hfz15_4 := blk_frozen BK195.out 4; have hfz15_5 := blk_frozen BK195.out 5))
          obtain ⟨w16, hW_⟩ : ∃ q, q = ((((((w13.setCell ⟨gb195, 0, none⟩ (.int .i64 ((rd_T68 l0_0 x3_1).f0))).setCell ⟨gb195, 1, none⟩ (.int .i64 ((rd_T68 l0_0 x3_1).f1.f0))).setCell ⟨gb195, 2, none⟩ (.int .i64 ((rd_T68 l0_0 x3_1).f1.f1))).setCell ⟨gb195, 3, none⟩ (.int .i64 ((rd_T68 l0_0 x3_1).f1.f2))).setCell ⟨gb195, 4, none⟩ (.int .i64 ((rd_T68 l0_0 x3_1).f1.f3))).setCell ⟨gb195, 5, none⟩ (.string ((rd_T68 l0_0 x3_1).f1.f4))) := ⟨_, rfl⟩
          have n0_ : Aside0 (w16.heap[gb193]? = some (.cells #[.slice (some ad194) l0_0.length c0_0, .slice A0_1 l0_1.length c0_1] 32 (0, 0))) := ⟨by rw [hW_]; exact zfar (zfar (zfar (zfar (zfar (zfar (zb BK193) NB193_195) NB193_195) NB193_195) NB193_195) NB193_195) NB193_195⟩
          have n1_ : Aside0 (w16.heap[gb195]? = some (.cells #[.int .i64 ((rd_T68 l0_0 x3_1).f0), .int .i64 ((rd_T68 l0_0 x3_1).f1.f0), .int .i64 ((rd_T68 l0_0 x3_1).f1.f1), .int .i64 ((rd_T68 l0_0 x3_1).f1.f2), .int .i64 ((rd_T68 l0_0 x3_1).f1.f3), .string ((rd_T68 l0_0 x3_1).f1.f4)] 68 (0, 0))) := ⟨by rw [hW_]; exact zput (zput (zput (zput (zput (zput (zb BK195) 0) 1) 2) 3) 4) 5⟩
          have n2_ : Aside0 (Below w.heap.size w w16) := ⟨by rw [hW_]; exact zB⟩
          rw [← hW_]
          clear hW_
          (try clear BK193)
          (try clear BK195)
          (try clear HB)
          have BK193 := n0_
          have BK195 := n1_
          have HB := n2_
          clear n0_ n1_ n2_
          replace BK193 := zm (blk_drew BK193.out)
          replace BK195 := zm (blk_drew BK195.out)
          replace HB := zm (below_drew1 HB.out)
          have p197 : 0 ≤ ((ji8) : Int) := zd
          have q197 : (ji8) < (l0_0.length : Int) := zd
          obtain ⟨ad197, e197, hx197_0, hx197_1, hx197_2, hx197_3, hx197_4, hx197_5⟩ := at_T68 HR0_0.out (ji8) p197 q197
          have hw197_5 := hx197_5
          have hw197_4 := hx197_4
          have hw197_3 := hx197_3
          have hw197_2 := hx197_2
          have hw197_1 := hx197_1
          have hw197_0 := hx197_0
          obtain rfl : ad194 = ad197 := (by injection e197)
          replace hx197_0 := (HB.out.cell (World.block_lt_of_cell? w _ hx197_0)).trans hx197_0
          replace hx197_1 := (HB.out.cell (World.block_lt_of_cell? w _ hx197_1)).trans hx197_1
          replace hx197_2 := (HB.out.cell (World.block_lt_of_cell? w _ hx197_2)).trans hx197_2
          replace hx197_3 := (HB.out.cell (World.block_lt_of_cell? w _ hx197_3)).trans hx197_3
          replace hx197_4 := (HB.out.cell (World.block_lt_of_cell? w _ hx197_4)).trans hx197_4
          replace hx197_5 := (HB.out.cell (World.block_lt_of_cell? w _ hx197_5)).trans hx197_5
          replace p197 := eq_true p197
          replace q197 := eq_true q197
          refine start_ (n := 36) (S := fun w' => w'.cell? ⟨gb195, 0, none⟩ = some (.int .i64 ((rd_T68 l0_0 x3_1).f0)) ∧ w'.cell? ⟨gb195, 1, none⟩ = some (.int .i64 ((rd_T68 l0_0 x3_1).f1.f0)) ∧ w'.cell? ⟨gb195, 2, none⟩ = some (.int .i64 ((rd_T68 l0_0 x3_1).f1.f1)) ∧ w'.cell? ⟨gb195, 3, none⟩ = some (.int .i64 ((rd_T68 l0_0 x3_1).f1.f2)) ∧ w'.cell? ⟨gb195, 4, none⟩ = some (.int .i64 ((rd_T68 l0_0 x3_1).f1.f3)) ∧ w'.cell? ⟨gb195, 5, none⟩ = some (.string ((rd_T68 l0_0 x3_1).f1.f4)) ∧ w'.cell? ⟨gb193, 0, none⟩ = some (.slice (some ad194) l0_0.length c0_0) ∧ w'.cell? ⟨gb193, 1, none⟩ = some (.slice A0_1 l0_1.length c0_1) ∧ w'.cell? (ad194.add (((ji8)).toNat * 6)) = some (.int .i64 ((rd_T68 l0_0 (ji8)).f0)) ∧ w'.cell? ⟨(ad194.add (((ji8)).toNat * 6)).block, (ad194.add (((ji8)).toNat * 6)).off + 1, none⟩ = some (.int .i64 ((rd_T68 l0_0 (ji8)).f1.f0)) ∧ w'.cell? ⟨(ad194.add (((ji8)).toNat * 6)).block, (ad194.add (((ji8)).toNat * 6)).off + 2, none⟩ = some (.int .i64 ((rd_T68 l0_0 (ji8)).f1.f1)) ∧ w'.cell? ⟨(ad194.add (((ji8)).toNat * 6)).block, (ad194.add (((ji8)).toNat * 6)).off + 3, none⟩ = some (.int .i64 ((rd_T68 l0_0 (ji8)).f1.f2)) ∧ w'.cell? ⟨(ad194.add (((ji8)).toNat * 6)).block, (ad194.add (((ji8)).toNat * 6)).off + 4, none⟩ = some (.int .i64 ((rd_T68 l0_0 (ji8)).f1.f3)) ∧ w'.cell? ⟨(ad194.add (((ji8)).toNat * 6)).block, (ad194.add (((ji8)).toNat * 6)).off + 5, none⟩ = some (.string ((rd_T68 l0_0 (ji8)).f1.f4))) (ds := []) (zl 36 0) (by kernel_rfl) rfl rfl ⟨(blk_cell BK195.out 0).trans rfl, (blk_cell BK195.out 1).trans rfl, (blk_cell BK195.out 2).trans rfl, (blk_cell BK195.out 3).trans rfl, (blk_cell BK195.out 4).trans rfl, (blk_cell BK195.out 5).trans rfl, (blk_cell BK193.out 0).trans rfl, (blk_cell BK193.out 1).trans rfl, ((HB.out.cell (World.block_lt_of_cell? w _ hw197_0)).trans hw197_0), ((HB.out.cell (World.block_lt_of_cell? w _ hw197_1)).trans hw197_1), ((HB.out.cell (World.block_lt_of_cell? w _ hw197_2)).trans hw197_2), ((HB.out.cell (World.block_lt_of_cell? w _ hw197_3)).trans hw197_3), ((HB.out.cell (World.block_lt_of_cell? w _ hw197_4)).trans hw197_4), ((HB.out.cell (World.block_lt_of_cell? w _ hw197_5)).trans hw197_5)⟩ (fun hHeld => ?_); refine with_tabW spec_StateOk.tab5 spec_StateOk.bits5 (fun HT_ HW_ => ?_)
          generalize w16.drew = w17 at BK193 BK195 HB hx197_0 hx197_1 hx197_2 hx197_3 hx197_4 hx197_5 hHeld ⊢
          refine zp 0 (some 19) (zl 36 1) ?_
          refine zt 1 (some 20) (zl 36 3) ?_
          refine zo 2 (some 21) (zl 36 7) (fun K hK => ?_)
          refine zgo #[.int .i64 ((rd_T68 l0_0 x3_1).f0)] Try.func72 ?_
          with_reducible refine (spec_l3Node.calls ((rd_T68 l0_0 x3_1).f0) true _ A5.out).mono ?_
          rintro e w' ⟨rfl, ⟨nd, rfl⟩⟩
          refine ⟨_, rfl, ?_⟩
          refine hK.out _ _ ⟨(blk_cell BK195.out 0).trans rfl, (blk_cell BK195.out 1).trans rfl, (blk_cell BK195.out 2).trans rfl, (blk_cell BK195.out 3).trans rfl, (blk_cell BK195.out 4).trans rfl, (blk_cell BK195.out 5).trans rfl, (blk_cell BK193.out 0).trans rfl, (blk_cell BK193.out 1).trans rfl, ((HB.out.cell (World.block_lt_of_cell? w _ hw197_0)).trans hw197_0), ((HB.out.cell (World.block_lt_of_cell? w _ hw197_1)).trans hw197_1), ((HB.out.cell (World.block_lt_of_cell? w _ hw197_2)).trans hw197_2), ((HB.out.cell (World.block_lt_of_cell? w _ hw197_3)).trans hw197_3), ((HB.out.cell (World.block_lt_of_cell? w _ hw197_4)).trans hw197_4), ((HB.out.cell (World.block_lt_of_cell? w _ hw197_5)).trans hw197_5)⟩ (fun hHeld => ?_)
          clear hK K
          refine zn ?_
          refine zp 3 (some 22) (zl 36 15) ?_
          refine zp 4 (some 23) (zl 36 31) ?_
          refine zp 5 (some 24) (zl 36 63) ?_
          refine zp 6 (some 25) (zl 36 127) ?_
          refine zp 7 (some 26) (zl 36 255) ?_
          refine zp 8 (some 27) (zl 36 511) ?_
          refine zp 10 (some 29) (zl 36 1535) ?_
          refine zp 12 (some 31) (zl 36 5631) ?_
          refine zp 13 (some 32) (zl 36 13823) ?_
          refine zt 9 (some 28) (zl 36 14335) ?_
          refine zt 11 (some 30) (zl 36 16383) ?_
          refine zp 14 (some 33) (zl 36 32767) ?_
          refine zp 15 (some 34) (zl 36 65535) ?_
          refine zt 16 (some 35) (zl 36 131071) ?_
          refine zp 17 (some 36) (zl 36 262143) ?_
          refine zp 18 (some 37) (zl 36 524287) ?_
          refine zp 19 (some 38) (zl 36 1048575) ?_
          refine zp 20 (some 39) (zl 36 2097151) ?_
          refine zp 21 (some 40) (zl 36 4194303) ?_
          refine zp 22 (some 41) (zl 36 8388607) ?_
          refine zp 23 (some 42) (zl 36 16777215) ?_
          refine zp 24 (some 43) (zl 36 33554431) ?_
          refine zp 25 (some 44) (zl 36 67108863) ?_
          refine zp 26 (some 45) (zl 36 134217727) ?_
          refine zp 27 (some 46) (zl 36 268435455) ?_
          refine zp 28 (some 47) (zl 36 536870911) ?_
          refine zp 29 (some 48) (zl 36 1073741823) ?_
          refine zp 30 (some 49) (zl 36 2147483647) ?_
          refine zp 31 (some 50) (zl 36 4294967295) ?_
          refine zp 32 (some 51) (zl 36 8589934591) ?_
          refine zp 33 (some 52) (zl 36 17179869183) ?_
          refine zp 34 (some 53) (zl 36 34359738367) ?_
          refine zp 35 (some 54) (zl 36 68719476735) ?_
          refine done_ (done_of HT_.out (by kernel_rfl)) ?_
          try go_wp2
          go_ret
          exact ⟨by first | rfl | (simp [errW_none, errW_some] <;> rfl) | (simp only [← hji8]; first | rfl | (simp [errW_none, errW_some] <;> rfl)) | (simp [*, errW_none, errW_some] <;> rfl), zB⟩
         ·rw [if_neg c11] at H
          have c11b0 : decide (((rd_T68 l0_0 x3_1).f0) ≤ ((rd_T68 l0_0 (ji8)).f0)) = false := decide_eq_false c11
          clear c11
          replace H := Option.bind_eq_some_iff.mp H
          obtain ⟨t198, A180, H⟩ := H
          replace H : (if t198 = true then ((spec_FloorOf.f k1 l0_0 l0_1 ((rd_T68 l0_0 x3_1).f0)).bind fun t199 => (if ((rd_T68 l0_0 x3_1).f1.f0) ≤ t199 then (some false) else (spec_StateOk.l0 k1 (wrap64 (x3_1 + 1)) l0_0 l0_1))) else (some false)) = some r := H
          have A18 := zm A180
          clear A180
          by_cases c19 : t198 = true
          ·subst c19
           have H1 : ((spec_FloorOf.f k1 l0_0 l0_1 ((rd_T68 l0_0 x3_1).f0)).bind fun t199 => (if ((rd_T68 l0_0 x3_1).f1.f0) ≤ t199 then (some false) else (spec_StateOk.l0 k1 (wrap64 (x3_1 + 1)) l0_0 l0_1))) = some r := by rw [if_pos rfl] at H; exact H
           clear H
           have H := H1
           clear H1
           replace H := Option.bind_eq_some_iff.mp H
           obtain ⟨t199, A200, H⟩ := H
           replace H : (if ((rd_T68 l0_0 x3_1).f1.f0) ≤ t199 then (some false) else (spec_StateOk.l0 k1 (wrap64 (x3_1 + 1)) l0_0 l0_1)) = some r := H
           have A20 := zm A200
           clear A200
           by_cases c21 : ((rd_T68 l0_0 x3_1).f1.f0) ≤ t199
           ·rw [if_pos c21] at H
            have c21b0 : decide (((rd_T68 l0_0 x3_1).f1.f0) ≤ t199) = true := decide_eq_true c21
            clear c21
            obtain rfl := Option.some.inj H
            have hcz22_0 : wr.cell? ⟨gb193, 0, none⟩ = some (.slice A0_0 l0_0.length c0_0) := (blk_cell BK193.out 0).trans rfl
            have hcz22_1 : wr.cell? ⟨gb193, 1, none⟩ = some (.slice A0_1 l0_1.length c0_1) := (blk_cell BK193.out 1).trans rfl
            have hfz22_0 := blk_frozen BK193.out 0
            have hfz22_1 := blk_frozen BK193.out 1
            have p194 : 0 ≤ (x3_1 : Int) := zd
            have q194 : x3_1 < (l0_0.length : Int) := zd
            obtain ⟨ad194, e194, hx194_0, hx194_1, hx194_2, hx194_3, hx194_4, hx194_5⟩ := at_T68 (Kd.C_below HR0_0.out HB.out) x3_1 p194 q194
            cases e194
            replace p194 := eq_true p194
            replace q194 := eq_true q194
            try go_wp2_with (first | ((with_reducible refine gate_dst (N := 4) rfl ?_); refine zbox 4 #[.int .i64 0, .int .i64 0, .int .i64 0, .int .i64 0, .int .i64 0, .string (⟨#[]⟩ : ByteArray)] 68 ?_; intro gb195 hg w23 hbox hb; have BK195 := zm (hbox); have GW195 := zge w hg zB; have GE195 := zge w hg zB; replace HB := zm (below_step zB hb); have NB193_195 := zlt hg (zb BK193); have NB195_193 := zgt hg (zb BK193); replace BK193 := zm (blk_below (zb BK193) hb); clear hb hbox hg; have hnb24 := NB195_193.out; have hnc24 := NB193_195.out; have hcz25_0 : w23.cell? ⟨gb195, 0, none⟩ = some (.int .i64 0) := (blk_cell BK195.out 0).trans rfl; have hcz25_1 : w23.cell? ⟨gb195, 1, none⟩ = some (.int .i64 0) := (blk_cell BK195.out 1).trans rfl; have hcz25_2 : w23.cell? ⟨gb195, 2, none⟩ = some (.int .i64 0) := (blk_cell BK195.out 2).trans rfl; have hcz25_3 : w23.cell? ⟨gb195, 3, none⟩ = some (.int .i64 0) := (blk_cell BK195.out 3).trans rfl; have hcz25_4 : w23.cell? ⟨gb195, 4, none⟩ = some (.int .i64 0) := (blk_cell BK195.out 4).trans rfl; have hcz25_5 : w23.cell? ⟨gb195, 5, none⟩ = some (.string (⟨#[]⟩ : ByteArray)) := (blk_cell BK195.out 5).trans rfl; have hfz25_0 := blk_frozen BK195.out 0; have hfz25_1 := blk_frozen BK195.out 1; have hfz25_2 := blk_frozen BK195.out 2; have hfz25_3 := blk_frozen BK195.out 3; have hfz25_4 := blk_frozen BK195.out 4; have hfz25_5 := blk_frozen BK195.out 5))
            obtain ⟨w26, hW_⟩ : ∃ q, q = ((((((w23.setCell ⟨gb195, 0, none⟩ (.int .i64 ((rd_T68 l0_0 x3_1).f0))).setCell ⟨gb195, 1, none⟩ (.int .i64 ((rd_T68 l0_0 x3_1).f1.f0))).setCell ⟨gb195, 2, none⟩ (.int .i64 ((rd_T68 l0_0 x3_1).f1.f1))).setCell ⟨gb195, 3, none⟩ (.int .i64 ((rd_T68 l0_0 x3_1).f1.f2))).setCell ⟨gb195, 4, none⟩ (.int .i64 ((rd_T68 l0_0 x3_1).f1.f3))).setCell ⟨gb195, 5, none⟩ (.string ((rd_T68 l0_0 x3_1).f1.f4))) := ⟨_, rfl⟩
            have n0_ : Aside0 (w26.heap[gb193]? = some (.cells #[.slice (some ad194) l0_0.length c0_0, .slice A0_1 l0_1.length c0_1] 32 (0, 0))) := ⟨by rw [hW_]; exact zfar (zfar (zfar (zfar (zfar (zfar (zb BK193) NB193_195) NB193_195) NB193_195) NB193_195) NB193_195) NB193_195⟩
            have n1_ : Aside0 (w26.heap[gb195]? = some (.cells #[.int .i64 ((rd_T68 l0_0 x3_1).f0), .int .i64 ((rd_T68 l0_0 x3_1).f1.f0), .int .i64 ((rd_T68 l0_0 x3_1).f1.f1), .int .i64 ((rd_T68 l0_0 x3_1).f1.f2), .int .i64 ((rd_T68 l0_0 x3_1).f1.f3), .string ((rd_T68 l0_0 x3_1).f1.f4)] 68 (0, 0))) := ⟨by rw [hW_]; exact zput (zput (zput (zput (zput (zput (zb BK195) 0) 1) 2) 3) 4) 5⟩
            have n2_ : Aside0 (Below w.heap.size w w26) := ⟨by rw [hW_]; exact zB⟩
            rw [← hW_]
            clear hW_
            (try clear BK193)
            (try clear BK195)
            (try clear HB)
            have BK193 := n0_
            have BK195 := n1_
            have HB := n2_
            clear n0_ n1_ n2_
            replace BK193 := zm (blk_drew BK193.out)
            replace BK195 := zm (blk_drew BK195.out)
            replace HB := zm (below_drew1 HB.out)
            have p197 : 0 ≤ ((ji8) : Int) := zd
            have q197 : (ji8) < (l0_0.length : Int) := zd
            obtain ⟨ad197, e197, hx197_0, hx197_1, hx197_2, hx197_3, hx197_4, hx197_5⟩ := at_T68 HR0_0.out (ji8) p197 q197
            have hw197_5 := hx197_5
            have hw197_4 := hx197_4
            have hw197_3 := hx197_3
            have hw197_2 := hx197_2
            have hw197_1 := hx197_1
            have hw197_0 := hx197_0
            obtain rfl : ad194 = ad197 := (by injection e197)
            replace hx197_0 := (HB.out.cell (World.block_lt_of_cell? w _ hx197_0)).trans hx197_0
            replace hx197_1 := (HB.out.cell (World.block_lt_of_cell? w _ hx197_1)).trans hx197_1
            replace hx197_2 := (HB.out.cell (World.block_lt_of_cell? w _ hx197_2)).trans hx197_2
            replace hx197_3 := (HB.out.cell (World.block_lt_of_cell? w _ hx197_3)).trans hx197_3
            replace hx197_4 := (HB.out.cell (World.block_lt_of_cell? w _ hx197_4)).trans hx197_4
            replace hx197_5 := (HB.out.cell (World.block_lt_of_cell? w _ hx197_5)).trans hx197_5
            replace p197 := eq_true p197
            replace q197 := eq_true q197
            refine start_ (n := 36) (S := fun w' => w'.cell? ⟨gb195, 0, none⟩ = some (.int .i64 ((rd_T68 l0_0 x3_1).f0)) ∧ w'.cell? ⟨gb195, 1, none⟩ = some (.int .i64 ((rd_T68 l0_0 x3_1).f1.f0)) ∧ w'.cell? ⟨gb195, 2, none⟩ = some (.int .i64 ((rd_T68 l0_0 x3_1).f1.f1)) ∧ w'.cell? ⟨gb195, 3, none⟩ = some (.int .i64 ((rd_T68 l0_0 x3_1).f1.f2)) ∧ w'.cell? ⟨gb195, 4, none⟩ = some (.int .i64 ((rd_T68 l0_0 x3_1).f1.f3)) ∧ w'.cell? ⟨gb195, 5, none⟩ = some (.string ((rd_T68 l0_0 x3_1).f1.f4)) ∧ w'.cell? ⟨gb193, 0, none⟩ = some (.slice (some ad194) l0_0.length c0_0) ∧ w'.cell? ⟨gb193, 1, none⟩ = some (.slice A0_1 l0_1.length c0_1) ∧ w'.cell? (ad194.add (((ji8)).toNat * 6)) = some (.int .i64 ((rd_T68 l0_0 (ji8)).f0)) ∧ w'.cell? ⟨(ad194.add (((ji8)).toNat * 6)).block, (ad194.add (((ji8)).toNat * 6)).off + 1, none⟩ = some (.int .i64 ((rd_T68 l0_0 (ji8)).f1.f0)) ∧ w'.cell? ⟨(ad194.add (((ji8)).toNat * 6)).block, (ad194.add (((ji8)).toNat * 6)).off + 2, none⟩ = some (.int .i64 ((rd_T68 l0_0 (ji8)).f1.f1)) ∧ w'.cell? ⟨(ad194.add (((ji8)).toNat * 6)).block, (ad194.add (((ji8)).toNat * 6)).off + 3, none⟩ = some (.int .i64 ((rd_T68 l0_0 (ji8)).f1.f2)) ∧ w'.cell? ⟨(ad194.add (((ji8)).toNat * 6)).block, (ad194.add (((ji8)).toNat * 6)).off + 4, none⟩ = some (.int .i64 ((rd_T68 l0_0 (ji8)).f1.f3)) ∧ w'.cell? ⟨(ad194.add (((ji8)).toNat * 6)).block, (ad194.add (((ji8)).toNat * 6)).off + 5, none⟩ = some (.string ((rd_T68 l0_0 (ji8)).f1.f4))) (ds := []) (zl 36 0) (by kernel_rfl) rfl rfl ⟨(blk_cell BK195.out 0).trans rfl, (blk_cell BK195.out 1).trans rfl, (blk_cell BK195.out 2).trans rfl, (blk_cell BK195.out 3).trans rfl, (blk_cell BK195.out 4).trans rfl, (blk_cell BK195.out 5).trans rfl, (blk_cell BK193.out 0).trans rfl, (blk_cell BK193.out 1).trans rfl, ((HB.out.cell (World.block_lt_of_cell? w _ hw197_0)).trans hw197_0), ((HB.out.cell (World.block_lt_of_cell? w _ hw197_1)).trans hw197_1), ((HB.out.cell (World.block_lt_of_cell? w _ hw197_2)).trans hw197_2), ((HB.out.cell (World.block_lt_of_cell? w _ hw197_3)).trans hw197_3), ((HB.out.cell (World.block_lt_of_cell? w _ hw197_4)).trans hw197_4), ((HB.out.cell (World.block_lt_of_cell? w _ hw197_5)).trans hw197_5)⟩ (fun hHeld => ?_); refine with_tabW spec_StateOk.tab5 spec_StateOk.bits5 (fun HT_ HW_ => ?_)
            generalize w26.drew = w27 at BK193 BK195 HB hx197_0 hx197_1 hx197_2 hx197_3 hx197_4 hx197_5 hHeld ⊢
            refine zp 0 (some 19) (zl 36 1) ?_
            refine zt 1 (some 20) (zl 36 3) ?_
            refine zo 2 (some 21) (zl 36 7) (fun K hK => ?_)
            refine zgo #[.int .i64 ((rd_T68 l0_0 x3_1).f0)] Try.func72 ?_
            with_reducible refine (spec_l3Node.calls ((rd_T68 l0_0 x3_1).f0) true _ A5.out).mono ?_
            rintro e w' ⟨rfl, ⟨nd, rfl⟩⟩
            refine ⟨_, rfl, ?_⟩
            refine hK.out _ _ ⟨(blk_cell BK195.out 0).trans rfl, (blk_cell BK195.out 1).trans rfl, (blk_cell BK195.out 2).trans rfl, (blk_cell BK195.out 3).trans rfl, (blk_cell BK195.out 4).trans rfl, (blk_cell BK195.out 5).trans rfl, (blk_cell BK193.out 0).trans rfl, (blk_cell BK193.out 1).trans rfl, ((HB.out.cell (World.block_lt_of_cell? w _ hw197_0)).trans hw197_0), ((HB.out.cell (World.block_lt_of_cell? w _ hw197_1)).trans hw197_1), ((HB.out.cell (World.block_lt_of_cell? w _ hw197_2)).trans hw197_2), ((HB.out.cell (World.block_lt_of_cell? w _ hw197_3)).trans hw197_3), ((HB.out.cell (World.block_lt_of_cell? w _ hw197_4)).trans hw197_4), ((HB.out.cell (World.block_lt_of_cell? w _ hw197_5)).trans hw197_5)⟩ (fun hHeld => ?_)
            clear hK K
            refine zn ?_
            refine zp 3 (some 22) (zl 36 15) ?_
            refine zp 4 (some 23) (zl 36 31) ?_
            refine zp 5 (some 24) (zl 36 63) ?_
            refine zp 6 (some 25) (zl 36 127) ?_
            refine zp 7 (some 26) (zl 36 255) ?_
            refine zp 8 (some 27) (zl 36 511) ?_
            refine zp 10 (some 29) (zl 36 1535) ?_
            refine zp 12 (some 31) (zl 36 5631) ?_
            refine zp 13 (some 32) (zl 36 13823) ?_
            refine zt 9 (some 28) (zl 36 14335) ?_
            refine zt 11 (some 30) (zl 36 16383) ?_
            refine zp 14 (some 33) (zl 36 32767) ?_
            refine zp 15 (some 34) (zl 36 65535) ?_
            refine zt 16 (some 35) (zl 36 131071) ?_
            refine zp 17 (some 36) (zl 36 262143) ?_
            refine zp 18 (some 37) (zl 36 524287) ?_
            refine zp 19 (some 38) (zl 36 1048575) ?_
            refine zp 20 (some 39) (zl 36 2097151) ?_
            refine zp 21 (some 40) (zl 36 4194303) ?_
            refine zt 22 (some 41) (zl 36 8388607) ?_
            refine zo 23 (some 42) (zl 36 16777215) (fun K hK => ?_)
            refine zgo #[.agg #[.int .i64 ((rd_T68 l0_0 x3_1).f1.f0), .int .i64 ((rd_T68 l0_0 x3_1).f1.f1), .int .i64 ((rd_T68 l0_0 x3_1).f1.f2), .int .i64 ((rd_T68 l0_0 x3_1).f1.f3), .string ((rd_T68 l0_0 x3_1).f1.f4)]] Try.func89 ?_
            with_reducible refine (spec_EntryOk.calls ((rd_T68 l0_0 x3_1).f1.f0) ((rd_T68 l0_0 x3_1).f1.f1) ((rd_T68 l0_0 x3_1).f1.f2) ((rd_T68 l0_0 x3_1).f1.f3) ((rd_T68 l0_0 x3_1).f1.f4) true _ A18.out).mono ?_
            rintro e w28 ⟨rfl, hb⟩
            refine ⟨_, rfl, ?_⟩
            replace BK193 := zm (blk_below (zb BK193) hb)
            replace BK195 := zm (blk_below (zb BK195) hb)
            replace HB := zm (below_step zB hb)
            (try clear hb)
            (try clear hb2)
            (try clear hk)
            (try clear hi)
            refine hK.out _ _ ⟨(blk_cell BK195.out 0).trans rfl, (blk_cell BK195.out 1).trans rfl, (blk_cell BK195.out 2).trans rfl, (blk_cell BK195.out 3).trans rfl, (blk_cell BK195.out 4).trans rfl, (blk_cell BK195.out 5).trans rfl, (blk_cell BK193.out 0).trans rfl, (blk_cell BK193.out 1).trans rfl, ((HB.out.cell (World.block_lt_of_cell? w _ hw197_0)).trans hw197_0), ((HB.out.cell (World.block_lt_of_cell? w _ hw197_1)).trans hw197_1), ((HB.out.cell (World.block_lt_of_cell? w _ hw197_2)).trans hw197_2), ((HB.out.cell (World.block_lt_of_cell? w _ hw197_3)).trans hw197_3), ((HB.out.cell (World.block_lt_of_cell? w _ hw197_4)).trans hw197_4), ((HB.out.cell (World.block_lt_of_cell? w _ hw197_5)).trans hw197_5)⟩ (fun hHeld => ?_)
            clear hK K
            refine zn ?_
            refine zp 24 (some 43) (zl 36 33554431) ?_
            refine zp 25 (some 44) (zl 36 67108863) ?_
            refine zp 26 (some 45) (zl 36 134217727) ?_
            refine zp 27 (some 46) (zl 36 268435455) ?_
            refine zp 28 (some 47) (zl 36 536870911) ?_
            refine zp 31 (some 50) (zl 36 2684354559) ?_
            refine zt 29 (some 48) (zl 36 3221225471) ?_
            refine zt 30 (some 49) (zl 36 4294967295) ?_
            refine zt 32 (some 51) (zl 36 8589934591) ?_
            refine zo 33 (some 52) (zl 36 17179869183) (fun K hK => ?_)
            refine zgo #[.agg #[.slice (some ad194) l0_0.length c0_0, .slice A0_1 l0_1.length c0_1], .int .i64 ((rd_T68 l0_0 x3_1).f0)] Try.func76 ?_
            with_reducible refine (spec_FloorOf.calls k1 _ _ l0_0 _ _ l0_1 ((rd_T68 l0_0 x3_1).f0) t199 _ (zk (Kd.C_below HR0_0.out HB.out)) HC0_0.out (zk (Kd.C_below HR0_1.out HB.out)) HC0_1.out A20.out).mono ?_
            rintro e w29 ⟨rfl, hb⟩
            refine ⟨_, rfl, ?_⟩
            replace BK193 := zm (blk_below (zb BK193) hb)
            replace BK195 := zm (blk_below (zb BK195) hb)
            replace HB := zm (below_step zB hb)
            (try clear hb)
            (try clear hb2)
            (try clear hk)
            (try clear hi)
            refine hK.out _ _ ⟨(blk_cell BK195.out 0).trans rfl, (blk_cell BK195.out 1).trans rfl, (blk_cell BK195.out 2).trans rfl, (blk_cell BK195.out 3).trans rfl, (blk_cell BK195.out 4).trans rfl, (blk_cell BK195.out 5).trans rfl, (blk_cell BK193.out 0).trans rfl, (blk_cell BK193.out 1).trans rfl, ((HB.out.cell (World.block_lt_of_cell? w _ hw197_0)).trans hw197_0), ((HB.out.cell (World.block_lt_of_cell? w _ hw197_1)).trans hw197_1), ((HB.out.cell (World.block_lt_of_cell? w _ hw197_2)).trans hw197_2), ((HB.out.cell (World.block_lt_of_cell? w _ hw197_3)).trans hw197_3), ((HB.out.cell (World.block_lt_of_cell? w _ hw197_4)).trans hw197_4), ((HB.out.cell (World.block_lt_of_cell? w _ hw197_5)).trans hw197_5)⟩ (fun hHeld => ?_)
            clear hK K
            refine zn ?_
            refine zp 34 (some 53) (zl 36 34359738367) ?_
            refine zp 35 (some 54) (zl 36 68719476735) ?_
            refine done_ (done_of HT_.out (by kernel_rfl)) ?_
            try go_wp2
            go_ret
            exact ⟨by first | rfl | (simp [errW_none, errW_some] <;> rfl) | (simp only [← hji8]; first | rfl | (simp [errW_none, errW_some] <;> rfl)) | (simp [*, errW_none, errW_some] <;> rfl), zB⟩
           ·rw [if_neg c21] at H
            have c21b0 : decide (((rd_T68 l0_0 x3_1).f1.f0) ≤ t199) = false := decide_eq_false c21
            clear c21
            have H' := zm H
            clear H
            have hcz30_0 : wr.cell? ⟨gb193, 0, none⟩ = some (.slice A0_0 l0_0.length c0_0) := (blk_cell BK193.out 0).trans rfl
            have hcz30_1 : wr.cell? ⟨gb193, 1, none⟩ = some (.slice A0_1 l0_1.length c0_1) := (blk_cell BK193.out 1).trans rfl
            have hfz30_0 := blk_frozen BK193.out 0
            have hfz30_1 := blk_frozen BK193.out 1
            have p194 : 0 ≤ (x3_1 : Int) := zd
            have q194 : x3_1 < (l0_0.length : Int) := zd
            obtain ⟨ad194, e194, hx194_0, hx194_1, hx194_2, hx194_3, hx194_4, hx194_5⟩ := at_T68 (Kd.C_below HR0_0.out HB.out) x3_1 p194 q194
            cases e194
            replace p194 := eq_true p194
            replace q194 := eq_true q194
            try go_wp2_with (first | ((with_reducible refine gate_dst (N := 4) rfl ?_); refine zbox 4 #[.int .i64 0, .int .i64 0, .int .i64 0, .int .i64 0, .int .i64 0, .string (⟨#[]⟩ : ByteArray)] 68 ?_; intro gb195 hg w31 hbox hb; have BK195 := zm (hbox); have GW195 := zge w hg zB; have GE195 := zge w hg zB; replace HB := zm (below_step zB hb); have NB193_195 := zlt hg (zb BK193); have NB195_193 := zgt hg (zb BK193); replace BK193 := zm (blk_below (zb BK193) hb); clear hb hbox hg; have hnb32 := NB195_193.out; have hnc32 := NB193_195.out; have hcz33_0 : w31.cell? ⟨gb195, 0, none⟩ = some (.int .i64 0) := (blk_cell BK195.out 0).trans rfl; have hcz33_1 : w31.cell? ⟨gb195, 1, none⟩ = some (.int .i64 0) := (blk_cell BK195.out 1).trans rfl; have hcz33_2 : w31.cell? ⟨gb195, 2, none⟩ = some (.int .i64 0) := (blk_cell BK195.out 2).trans rfl; have hcz33_3 : w31.cell? ⟨gb195, 3, none⟩ = some (.int .i64 0) := (blk_cell BK195.out 3).trans rfl; have hcz33_4 : w31.cell? ⟨gb195, 4, none⟩ = some (.int .i64 0) := (blk_cell BK195.out 4).trans rfl; have hcz33_5 : w31.cell? ⟨gb195, 5, none⟩ = some (.string (⟨#[]⟩ : ByteArray)) := (blk_cell BK195.out 5).trans rfl; have hfz33_0 := blk_frozen BK195.out 0; have hfz33_1 := blk_frozen BK195.out 1; have hfz33_2 := blk_frozen BK195.out 2; have hfz33_3 := blk_frozen BK195.out 3; have hfz33_4 := blk_frozen BK195.out 4; have hfz33_5 := blk_frozen BK195.out 5))
            obtain ⟨w34, hW_⟩ : ∃ q, q = ((((((w31.setCell ⟨gb195, 0, none⟩ (.int .i64 ((rd_T68 l0_0 x3_1).f0))).setCell ⟨gb195, 1, none⟩ (.int .i64 ((rd_T68 l0_0 x3_1).f1.f0))).setCell ⟨gb195, 2, none⟩ (.int .i64 ((rd_T68 l0_0 x3_1).f1.f1))).setCell ⟨gb195, 3, none⟩ (.int .i64 ((rd_T68 l0_0 x3_1).f1.f2))).setCell ⟨gb195, 4, none⟩ (.int .i64 ((rd_T68 l0_0 x3_1).f1.f3))).setCell ⟨gb195, 5, none⟩ (.string ((rd_T68 l0_0 x3_1).f1.f4))) := ⟨_, rfl⟩
            have n0_ : Aside0 (w34.heap[gb193]? = some (.cells #[.slice (some ad194) l0_0.length c0_0, .slice A0_1 l0_1.length c0_1] 32 (0, 0))) := ⟨by rw [hW_]; exact zfar (zfar (zfar (zfar (zfar (zfar (zb BK193) NB193_195) NB193_195) NB193_195) NB193_195) NB193_195) NB193_195⟩
            have n1_ : Aside0 (w34.heap[gb195]? = some (.cells #[.int .i64 ((rd_T68 l0_0 x3_1).f0), .int .i64 ((rd_T68 l0_0 x3_1).f1.f0), .int .i64 ((rd_T68 l0_0 x3_1).f1.f1), .int .i64 ((rd_T68 l0_0 x3_1).f1.f2), .int .i64 ((rd_T68 l0_0 x3_1).f1.f3), .string ((rd_T68 l0_0 x3_1).f1.f4)] 68 (0, 0))) := ⟨by rw [hW_]; exact zput (zput (zput (zput (zput (zput (zb BK195) 0) 1) 2) 3) 4) 5⟩
            have n2_ : Aside0 (Below w.heap.size w w34) := ⟨by rw [hW_]; exact zB⟩
            rw [← hW_]
            clear hW_
            (try clear BK193)
            (try clear BK195)
            (try clear HB)
            have BK193 := n0_
            have BK195 := n1_
            have HB := n2_
            clear n0_ n1_ n2_
            replace BK193 := zm (blk_drew BK193.out)
            replace BK195 := zm (blk_drew BK195.out)
            replace HB := zm (below_drew1 HB.out)
            have p197 : 0 ≤ ((ji8) : Int) := zd
            have q197 : (ji8) < (l0_0.length : Int) := zd
            obtain ⟨ad197, e197, hx197_0, hx197_1, hx197_2, hx197_3, hx197_4, hx197_5⟩ := at_T68 HR0_0.out (ji8) p197 q197
            have hw197_5 := hx197_5
            have hw197_4 := hx197_4
            have hw197_3 := hx197_3
            have hw197_2 := hx197_2
            have hw197_1 := hx197_1
            have hw197_0 := hx197_0
            obtain rfl : ad194 = ad197 := (by injection e197)
            replace hx197_0 := (HB.out.cell (World.block_lt_of_cell? w _ hx197_0)).trans hx197_0
            replace hx197_1 := (HB.out.cell (World.block_lt_of_cell? w _ hx197_1)).trans hx197_1
            replace hx197_2 := (HB.out.cell (World.block_lt_of_cell? w _ hx197_2)).trans hx197_2
            replace hx197_3 := (HB.out.cell (World.block_lt_of_cell? w _ hx197_3)).trans hx197_3
            replace hx197_4 := (HB.out.cell (World.block_lt_of_cell? w _ hx197_4)).trans hx197_4
            replace hx197_5 := (HB.out.cell (World.block_lt_of_cell? w _ hx197_5)).trans hx197_5
            replace p197 := eq_true p197
            replace q197 := eq_true q197
            refine start_ (n := 36) (S := fun w' => w'.cell? ⟨gb195, 0, none⟩ = some (.int .i64 ((rd_T68 l0_0 x3_1).f0)) ∧ w'.cell? ⟨gb195, 1, none⟩ = some (.int .i64 ((rd_T68 l0_0 x3_1).f1.f0)) ∧ w'.cell? ⟨gb195, 2, none⟩ = some (.int .i64 ((rd_T68 l0_0 x3_1).f1.f1)) ∧ w'.cell? ⟨gb195, 3, none⟩ = some (.int .i64 ((rd_T68 l0_0 x3_1).f1.f2)) ∧ w'.cell? ⟨gb195, 4, none⟩ = some (.int .i64 ((rd_T68 l0_0 x3_1).f1.f3)) ∧ w'.cell? ⟨gb195, 5, none⟩ = some (.string ((rd_T68 l0_0 x3_1).f1.f4)) ∧ w'.cell? ⟨gb193, 0, none⟩ = some (.slice (some ad194) l0_0.length c0_0) ∧ w'.cell? ⟨gb193, 1, none⟩ = some (.slice A0_1 l0_1.length c0_1) ∧ w'.cell? (ad194.add (((ji8)).toNat * 6)) = some (.int .i64 ((rd_T68 l0_0 (ji8)).f0)) ∧ w'.cell? ⟨(ad194.add (((ji8)).toNat * 6)).block, (ad194.add (((ji8)).toNat * 6)).off + 1, none⟩ = some (.int .i64 ((rd_T68 l0_0 (ji8)).f1.f0)) ∧ w'.cell? ⟨(ad194.add (((ji8)).toNat * 6)).block, (ad194.add (((ji8)).toNat * 6)).off + 2, none⟩ = some (.int .i64 ((rd_T68 l0_0 (ji8)).f1.f1)) ∧ w'.cell? ⟨(ad194.add (((ji8)).toNat * 6)).block, (ad194.add (((ji8)).toNat * 6)).off + 3, none⟩ = some (.int .i64 ((rd_T68 l0_0 (ji8)).f1.f2)) ∧ w'.cell? ⟨(ad194.add (((ji8)).toNat * 6)).block, (ad194.add (((ji8)).toNat * 6)).off + 4, none⟩ = some (.int .i64 ((rd_T68 l0_0 (ji8)).f1.f3)) ∧ w'.cell? ⟨(ad194.add (((ji8)).toNat * 6)).block, (ad194.add (((ji8)).toNat * 6)).off + 5, none⟩ = some (.string ((rd_T68 l0_0 (ji8)).f1.f4))) (ds := []) (zl 36 0) (by kernel_rfl) rfl rfl ⟨(blk_cell BK195.out 0).trans rfl, (blk_cell BK195.out 1).trans rfl, (blk_cell BK195.out 2).trans rfl, (blk_cell BK195.out 3).trans rfl, (blk_cell BK195.out 4).trans rfl, (blk_cell BK195.out 5).trans rfl, (blk_cell BK193.out 0).trans rfl, (blk_cell BK193.out 1).trans rfl, ((HB.out.cell (World.block_lt_of_cell? w _ hw197_0)).trans hw197_0), ((HB.out.cell (World.block_lt_of_cell? w _ hw197_1)).trans hw197_1), ((HB.out.cell (World.block_lt_of_cell? w _ hw197_2)).trans hw197_2), ((HB.out.cell (World.block_lt_of_cell? w _ hw197_3)).trans hw197_3), ((HB.out.cell (World.block_lt_of_cell? w _ hw197_4)).trans hw197_4), ((HB.out.cell (World.block_lt_of_cell? w _ hw197_5)).trans hw197_5)⟩ (fun hHeld => ?_); refine with_tabW spec_StateOk.tab5 spec_StateOk.bits5 (fun HT_ HW_ => ?_)
            generalize w34.drew = w35 at BK193 BK195 HB hx197_0 hx197_1 hx197_2 hx197_3 hx197_4 hx197_5 hHeld ⊢
            refine zp 0 (some 19) (zl 36 1) ?_
            refine zt 1 (some 20) (zl 36 3) ?_
            refine zo 2 (some 21) (zl 36 7) (fun K hK => ?_)
            refine zgo #[.int .i64 ((rd_T68 l0_0 x3_1).f0)] Try.func72 ?_
            with_reducible refine (spec_l3Node.calls ((rd_T68 l0_0 x3_1).f0) true _ A5.out).mono ?_
            rintro e w' ⟨rfl, ⟨nd, rfl⟩⟩
            refine ⟨_, rfl, ?_⟩
            refine hK.out _ _ ⟨(blk_cell BK195.out 0).trans rfl, (blk_cell BK195.out 1).trans rfl, (blk_cell BK195.out 2).trans rfl, (blk_cell BK195.out 3).trans rfl, (blk_cell BK195.out 4).trans rfl, (blk_cell BK195.out 5).trans rfl, (blk_cell BK193.out 0).trans rfl, (blk_cell BK193.out 1).trans rfl, ((HB.out.cell (World.block_lt_of_cell? w _ hw197_0)).trans hw197_0), ((HB.out.cell (World.block_lt_of_cell? w _ hw197_1)).trans hw197_1), ((HB.out.cell (World.block_lt_of_cell? w _ hw197_2)).trans hw197_2), ((HB.out.cell (World.block_lt_of_cell? w _ hw197_3)).trans hw197_3), ((HB.out.cell (World.block_lt_of_cell? w _ hw197_4)).trans hw197_4), ((HB.out.cell (World.block_lt_of_cell? w _ hw197_5)).trans hw197_5)⟩ (fun hHeld => ?_)
            clear hK K
            refine zn ?_
            refine zp 3 (some 22) (zl 36 15) ?_
            refine zp 4 (some 23) (zl 36 31) ?_
            refine zp 5 (some 24) (zl 36 63) ?_
            refine zp 6 (some 25) (zl 36 127) ?_
            refine zp 7 (some 26) (zl 36 255) ?_
            refine zp 8 (some 27) (zl 36 511) ?_
            refine zp 10 (some 29) (zl 36 1535) ?_
            refine zp 12 (some 31) (zl 36 5631) ?_
            refine zp 13 (some 32) (zl 36 13823) ?_
            refine zt 9 (some 28) (zl 36 14335) ?_
            refine zt 11 (some 30) (zl 36 16383) ?_
            refine zp 14 (some 33) (zl 36 32767) ?_
            refine zp 15 (some 34) (zl 36 65535) ?_
            refine zt 16 (some 35) (zl 36 131071) ?_
            refine zp 17 (some 36) (zl 36 262143) ?_
            refine zp 18 (some 37) (zl 36 524287) ?_
            refine zp 19 (some 38) (zl 36 1048575) ?_
            refine zp 20 (some 39) (zl 36 2097151) ?_
            refine zp 21 (some 40) (zl 36 4194303) ?_
            refine zt 22 (some 41) (zl 36 8388607) ?_
            refine zo 23 (some 42) (zl 36 16777215) (fun K hK => ?_)
            refine zgo #[.agg #[.int .i64 ((rd_T68 l0_0 x3_1).f1.f0), .int .i64 ((rd_T68 l0_0 x3_1).f1.f1), .int .i64 ((rd_T68 l0_0 x3_1).f1.f2), .int .i64 ((rd_T68 l0_0 x3_1).f1.f3), .string ((rd_T68 l0_0 x3_1).f1.f4)]] Try.func89 ?_
            with_reducible refine (spec_EntryOk.calls ((rd_T68 l0_0 x3_1).f1.f0) ((rd_T68 l0_0 x3_1).f1.f1) ((rd_T68 l0_0 x3_1).f1.f2) ((rd_T68 l0_0 x3_1).f1.f3) ((rd_T68 l0_0 x3_1).f1.f4) true _ A18.out).mono ?_
            rintro e w36 ⟨rfl, hb⟩
            refine ⟨_, rfl, ?_⟩
            replace BK193 := zm (blk_below (zb BK193) hb)
            replace BK195 := zm (blk_below (zb BK195) hb)
            replace HB := zm (below_step zB hb)
            (try clear hb)
            (try clear hb2)
            (try clear hk)
            (try clear hi)
            refine hK.out _ _ ⟨(blk_cell BK195.out 0).trans rfl, (blk_cell BK195.out 1).trans rfl, (blk_cell BK195.out 2).trans rfl, (blk_cell BK195.out 3).trans rfl, (blk_cell BK195.out 4).trans rfl, (blk_cell BK195.out 5).trans rfl, (blk_cell BK193.out 0).trans rfl, (blk_cell BK193.out 1).trans rfl, ((HB.out.cell (World.block_lt_of_cell? w _ hw197_0)).trans hw197_0), ((HB.out.cell (World.block_lt_of_cell? w _ hw197_1)).trans hw197_1), ((HB.out.cell (World.block_lt_of_cell? w _ hw197_2)).trans hw197_2), ((HB.out.cell (World.block_lt_of_cell? w _ hw197_3)).trans hw197_3), ((HB.out.cell (World.block_lt_of_cell? w _ hw197_4)).trans hw197_4), ((HB.out.cell (World.block_lt_of_cell? w _ hw197_5)).trans hw197_5)⟩ (fun hHeld => ?_)
            clear hK K
            refine zn ?_
            refine zp 24 (some 43) (zl 36 33554431) ?_
            refine zp 25 (some 44) (zl 36 67108863) ?_
            refine zp 26 (some 45) (zl 36 134217727) ?_
            refine zp 27 (some 46) (zl 36 268435455) ?_
            refine zp 28 (some 47) (zl 36 536870911) ?_
            refine zp 31 (some 50) (zl 36 2684354559) ?_
            refine zt 29 (some 48) (zl 36 3221225471) ?_
            refine zt 30 (some 49) (zl 36 4294967295) ?_
            refine zt 32 (some 51) (zl 36 8589934591) ?_
            refine zo 33 (some 52) (zl 36 17179869183) (fun K hK => ?_)
            refine zgo #[.agg #[.slice (some ad194) l0_0.length c0_0, .slice A0_1 l0_1.length c0_1], .int .i64 ((rd_T68 l0_0 x3_1).f0)] Try.func76 ?_
            with_reducible refine (spec_FloorOf.calls k1 _ _ l0_0 _ _ l0_1 ((rd_T68 l0_0 x3_1).f0) t199 _ (zk (Kd.C_below HR0_0.out HB.out)) HC0_0.out (zk (Kd.C_below HR0_1.out HB.out)) HC0_1.out A20.out).mono ?_
            rintro e w37 ⟨rfl, hb⟩
            refine ⟨_, rfl, ?_⟩
            replace BK193 := zm (blk_below (zb BK193) hb)
            replace BK195 := zm (blk_below (zb BK195) hb)
            replace HB := zm (below_step zB hb)
            (try clear hb)
            (try clear hb2)
            (try clear hk)
            (try clear hi)
            refine hK.out _ _ ⟨(blk_cell BK195.out 0).trans rfl, (blk_cell BK195.out 1).trans rfl, (blk_cell BK195.out 2).trans rfl, (blk_cell BK195.out 3).trans rfl, (blk_cell BK195.out 4).trans rfl, (blk_cell BK195.out 5).trans rfl, (blk_cell BK193.out 0).trans rfl, (blk_cell BK193.out 1).trans rfl, ((HB.out.cell (World.block_lt_of_cell? w _ hw197_0)).trans hw197_0), ((HB.out.cell (World.block_lt_of_cell? w _ hw197_1)).trans hw197_1), ((HB.out.cell (World.block_lt_of_cell? w _ hw197_2)).trans hw197_2), ((HB.out.cell (World.block_lt_of_cell? w _ hw197_3)).trans hw197_3), ((HB.out.cell (World.block_lt_of_cell? w _ hw197_4)).trans hw197_4), ((HB.out.cell (World.block_lt_of_cell? w _ hw197_5)).trans hw197_5)⟩ (fun hHeld => ?_)
            clear hK K
            refine zn ?_
            refine zp 34 (some 53) (zl 36 34359738367) ?_
            refine zp 35 (some 54) (zl 36 68719476735) ?_
            refine done_ (done_of HT_.out (by kernel_rfl)) ?_
            try go_wp2
            go_roundg k1
            case measure => have := HK1.out; omega
            case rel => exact ⟨(wrap64 (x3_1 + 1)), zF, H', ⟨by have := HK1.out; omega⟩, ⟨zb BK193⟩, ⟨zB⟩⟩
          ·replace c19 := Bool.eq_false_iff.mpr c19
           subst c19
           have H1 : (some false) = some r := by rw [if_neg (show ¬ (false = true) by decide)] at H; exact H
           clear H
           have H := H1
           clear H1
           obtain rfl := Option.some.inj H
           have hcz38_0 : wr.cell? ⟨gb193, 0, none⟩ = some (.slice A0_0 l0_0.length c0_0) := (blk_cell BK193.out 0).trans rfl
           have hcz38_1 : wr.cell? ⟨gb193, 1, none⟩ = some (.slice A0_1 l0_1.length c0_1) := (blk_cell BK193.out 1).trans rfl
           have hfz38_0 := blk_frozen BK193.out 0
           have hfz38_1 := blk_frozen BK193.out 1
           have p194 : 0 ≤ (x3_1 : Int) := zd
           have q194 : x3_1 < (l0_0.length : Int) := zd
           obtain ⟨ad194, e194, hx194_0, hx194_1, hx194_2, hx194_3, hx194_4, hx194_5⟩ := at_T68 (Kd.C_below HR0_0.out HB.out) x3_1 p194 q194
           cases e194
           replace p194 := eq_true p194
           replace q194 := eq_true q194
           try go_wp2_with (first | ((with_reducible refine gate_dst (N := 4) rfl ?_); refine zbox 4 #[.int .i64 0, .int .i64 0, .int .i64 0, .int .i64 0, .int .i64 0, .string (⟨#[]⟩ : ByteArray)] 68 ?_; intro gb195 hg w39 hbox hb; have BK195 := zm (hbox); have GW195 := zge w hg zB; have GE195 := zge w hg zB; replace HB := zm (below_step zB hb); have NB193_195 := zlt hg (zb BK193); have NB195_193 := zgt hg (zb BK193); replace BK193 := zm (blk_below (zb BK193) hb); clear hb hbox hg; have hnb40 := NB195_193.out; have hnc40 := NB193_195.out; have hcz41_0 : w39.cell? ⟨gb195, 0, none⟩ = some (.int .i64 0) := (blk_cell BK195.out 0).trans rfl; have hcz41_1 : w39.cell? ⟨gb195, 1, none⟩ = some (.int .i64 0) := (blk_cell BK195.out 1).trans rfl; have hcz41_2 : w39.cell? ⟨gb195, 2, none⟩ = some (.int .i64 0) := (blk_cell BK195.out 2).trans rfl; have hcz41_3 : w39.cell? ⟨gb195, 3, none⟩ = some (.int .i64 0) := (blk_cell BK195.out 3).trans rfl; have hcz41_4 : w39.cell? ⟨gb195, 4, none⟩ = some (.int .i64 0) := (blk_cell BK195.out 4).trans rfl; have hcz41_5 : w39.cell? ⟨gb195, 5, none⟩ = some (.string (⟨#[]⟩ : ByteArray)) := (blk_cell BK195.out 5).trans rfl; have hfz41_0 := blk_frozen BK195.out 0; have hfz41_1 := blk_frozen BK195.out 1; have hfz41_2 := blk_frozen BK195.out 2; have hfz41_3 := blk_frozen BK195.out 3; have hfz41_4 := blk_frozen BK195.out 4; have hfz41_5 := blk_frozen BK195.out 5))
           obtain ⟨w42, hW_⟩ : ∃ q, q = ((((((w39.setCell ⟨gb195, 0, none⟩ (.int .i64 ((rd_T68 l0_0 x3_1).f0))).setCell ⟨gb195, 1, none⟩ (.int .i64 ((rd_T68 l0_0 x3_1).f1.f0))).setCell ⟨gb195, 2, none⟩ (.int .i64 ((rd_T68 l0_0 x3_1).f1.f1))).setCell ⟨gb195, 3, none⟩ (.int .i64 ((rd_T68 l0_0 x3_1).f1.f2))).setCell ⟨gb195, 4, none⟩ (.int .i64 ((rd_T68 l0_0 x3_1).f1.f3))).setCell ⟨gb195, 5, none⟩ (.string ((rd_T68 l0_0 x3_1).f1.f4))) := ⟨_, rfl⟩
           have n0_ : Aside0 (w42.heap[gb193]? = some (.cells #[.slice (some ad194) l0_0.length c0_0, .slice A0_1 l0_1.length c0_1] 32 (0, 0))) := ⟨by rw [hW_]; exact zfar (zfar (zfar (zfar (zfar (zfar (zb BK193) NB193_195) NB193_195) NB193_195) NB193_195) NB193_195) NB193_195⟩
           have n1_ : Aside0 (w42.heap[gb195]? = some (.cells #[.int .i64 ((rd_T68 l0_0 x3_1).f0), .int .i64 ((rd_T68 l0_0 x3_1).f1.f0), .int .i64 ((rd_T68 l0_0 x3_1).f1.f1), .int .i64 ((rd_T68 l0_0 x3_1).f1.f2), .int .i64 ((rd_T68 l0_0 x3_1).f1.f3), .string ((rd_T68 l0_0 x3_1).f1.f4)] 68 (0, 0))) := ⟨by rw [hW_]; exact zput (zput (zput (zput (zput (zput (zb BK195) 0) 1) 2) 3) 4) 5⟩
           have n2_ : Aside0 (Below w.heap.size w w42) := ⟨by rw [hW_]; exact zB⟩
           rw [← hW_]
           clear hW_
           (try clear BK193)
           (try clear BK195)
           (try clear HB)
           have BK193 := n0_
           have BK195 := n1_
           have HB := n2_
           clear n0_ n1_ n2_
           replace BK193 := zm (blk_drew BK193.out)
           replace BK195 := zm (blk_drew BK195.out)
           replace HB := zm (below_drew1 HB.out)
           have p197 : 0 ≤ ((ji8) : Int) := zd
           have q197 : (ji8) < (l0_0.length : Int) := zd
           obtain ⟨ad197, e197, hx197_0, hx197_1, hx197_2, hx197_3, hx197_4, hx197_5⟩ := at_T68 HR0_0.out (ji8) p197 q197
           have hw197_5 := hx197_5
           have hw197_4 := hx197_4
           have hw197_3 := hx197_3
           have hw197_2 := hx197_2
           have hw197_1 := hx197_1
           have hw197_0 := hx197_0
           obtain rfl : ad194 = ad197 := (by injection e197)
           replace hx197_0 := (HB.out.cell (World.block_lt_of_cell? w _ hx197_0)).trans hx197_0
           replace hx197_1 := (HB.out.cell (World.block_lt_of_cell? w _ hx197_1)).trans hx197_1
           replace hx197_2 := (HB.out.cell (World.block_lt_of_cell? w _ hx197_2)).trans hx197_2
           replace hx197_3 := (HB.out.cell (World.block_lt_of_cell? w _ hx197_3)).trans hx197_3
           replace hx197_4 := (HB.out.cell (World.block_lt_of_cell? w _ hx197_4)).trans hx197_4
           replace hx197_5 := (HB.out.cell (World.block_lt_of_cell? w _ hx197_5)).trans hx197_5
           replace p197 := eq_true p197
           replace q197 := eq_true q197
           refine start_ (n := 36) (S := fun w' => w'.cell? ⟨gb195, 0, none⟩ = some (.int .i64 ((rd_T68 l0_0 x3_1).f0)) ∧ w'.cell? ⟨gb195, 1, none⟩ = some (.int .i64 ((rd_T68 l0_0 x3_1).f1.f0)) ∧ w'.cell? ⟨gb195, 2, none⟩ = some (.int .i64 ((rd_T68 l0_0 x3_1).f1.f1)) ∧ w'.cell? ⟨gb195, 3, none⟩ = some (.int .i64 ((rd_T68 l0_0 x3_1).f1.f2)) ∧ w'.cell? ⟨gb195, 4, none⟩ = some (.int .i64 ((rd_T68 l0_0 x3_1).f1.f3)) ∧ w'.cell? ⟨gb195, 5, none⟩ = some (.string ((rd_T68 l0_0 x3_1).f1.f4)) ∧ w'.cell? ⟨gb193, 0, none⟩ = some (.slice (some ad194) l0_0.length c0_0) ∧ w'.cell? ⟨gb193, 1, none⟩ = some (.slice A0_1 l0_1.length c0_1) ∧ w'.cell? (ad194.add (((ji8)).toNat * 6)) = some (.int .i64 ((rd_T68 l0_0 (ji8)).f0)) ∧ w'.cell? ⟨(ad194.add (((ji8)).toNat * 6)).block, (ad194.add (((ji8)).toNat * 6)).off + 1, none⟩ = some (.int .i64 ((rd_T68 l0_0 (ji8)).f1.f0)) ∧ w'.cell? ⟨(ad194.add (((ji8)).toNat * 6)).block, (ad194.add (((ji8)).toNat * 6)).off + 2, none⟩ = some (.int .i64 ((rd_T68 l0_0 (ji8)).f1.f1)) ∧ w'.cell? ⟨(ad194.add (((ji8)).toNat * 6)).block, (ad194.add (((ji8)).toNat * 6)).off + 3, none⟩ = some (.int .i64 ((rd_T68 l0_0 (ji8)).f1.f2)) ∧ w'.cell? ⟨(ad194.add (((ji8)).toNat * 6)).block, (ad194.add (((ji8)).toNat * 6)).off + 4, none⟩ = some (.int .i64 ((rd_T68 l0_0 (ji8)).f1.f3)) ∧ w'.cell? ⟨(ad194.add (((ji8)).toNat * 6)).block, (ad194.add (((ji8)).toNat * 6)).off + 5, none⟩ = some (.string ((rd_T68 l0_0 (ji8)).f1.f4))) (ds := []) (zl 36 0) (by kernel_rfl) rfl rfl ⟨(blk_cell BK195.out 0).trans rfl, (blk_cell BK195.out 1).trans rfl, (blk_cell BK195.out 2).trans rfl, (blk_cell BK195.out 3).trans rfl, (blk_cell BK195.out 4).trans rfl, (blk_cell BK195.out 5).trans rfl, (blk_cell BK193.out 0).trans rfl, (blk_cell BK193.out 1).trans rfl, ((HB.out.cell (World.block_lt_of_cell? w _ hw197_0)).trans hw197_0), ((HB.out.cell (World.block_lt_of_cell? w _ hw197_1)).trans hw197_1), ((HB.out.cell (World.block_lt_of_cell? w _ hw197_2)).trans hw197_2), ((HB.out.cell (World.block_lt_of_cell? w _ hw197_3)).trans hw197_3), ((HB.out.cell (World.block_lt_of_cell? w _ hw197_4)).trans hw197_4), ((HB.out.cell (World.block_lt_of_cell? w _ hw197_5)).trans hw197_5)⟩ (fun hHeld => ?_); refine with_tabW spec_StateOk.tab5 spec_StateOk.bits5 (fun HT_ HW_ => ?_)
           generalize w42.drew = w43 at BK193 BK195 HB hx197_0 hx197_1 hx197_2 hx197_3 hx197_4 hx197_5 hHeld ⊢
           refine zp 0 (some 19) (zl 36 1) ?_
           refine zt 1 (some 20) (zl 36 3) ?_
           refine zo 2 (some 21) (zl 36 7) (fun K hK => ?_)
           refine zgo #[.int .i64 ((rd_T68 l0_0 x3_1).f0)] Try.func72 ?_
           with_reducible refine (spec_l3Node.calls ((rd_T68 l0_0 x3_1).f0) true _ A5.out).mono ?_
           rintro e w' ⟨rfl, ⟨nd, rfl⟩⟩
           refine ⟨_, rfl, ?_⟩
           refine hK.out _ _ ⟨(blk_cell BK195.out 0).trans rfl, (blk_cell BK195.out 1).trans rfl, (blk_cell BK195.out 2).trans rfl, (blk_cell BK195.out 3).trans rfl, (blk_cell BK195.out 4).trans rfl, (blk_cell BK195.out 5).trans rfl, (blk_cell BK193.out 0).trans rfl, (blk_cell BK193.out 1).trans rfl, ((HB.out.cell (World.block_lt_of_cell? w _ hw197_0)).trans hw197_0), ((HB.out.cell (World.block_lt_of_cell? w _ hw197_1)).trans hw197_1), ((HB.out.cell (World.block_lt_of_cell? w _ hw197_2)).trans hw197_2), ((HB.out.cell (World.block_lt_of_cell? w _ hw197_3)).trans hw197_3), ((HB.out.cell (World.block_lt_of_cell? w _ hw197_4)).trans hw197_4), ((HB.out.cell (World.block_lt_of_cell? w _ hw197_5)).trans hw197_5)⟩ (fun hHeld => ?_)
           clear hK K
           refine zn ?_
           refine zp 3 (some 22) (zl 36 15) ?_
           refine zp 4 (some 23) (zl 36 31) ?_
           refine zp 5 (some 24) (zl 36 63) ?_
           refine zp 6 (some 25) (zl 36 127) ?_
           refine zp 7 (some 26) (zl 36 255) ?_
           refine zp 8 (some 27) (zl 36 511) ?_
           refine zp 10 (some 29) (zl 36 1535) ?_
           refine zp 12 (some 31) (zl 36 5631) ?_
           refine zp 13 (some 32) (zl 36 13823) ?_
           refine zt 9 (some 28) (zl 36 14335) ?_
           refine zt 11 (some 30) (zl 36 16383) ?_
           refine zp 14 (some 33) (zl 36 32767) ?_
           refine zp 15 (some 34) (zl 36 65535) ?_
           refine zt 16 (some 35) (zl 36 131071) ?_
           refine zp 17 (some 36) (zl 36 262143) ?_
           refine zp 18 (some 37) (zl 36 524287) ?_
           refine zp 19 (some 38) (zl 36 1048575) ?_
           refine zp 20 (some 39) (zl 36 2097151) ?_
           refine zp 21 (some 40) (zl 36 4194303) ?_
           refine zt 22 (some 41) (zl 36 8388607) ?_
           refine zo 23 (some 42) (zl 36 16777215) (fun K hK => ?_)
           refine zgo #[.agg #[.int .i64 ((rd_T68 l0_0 x3_1).f1.f0), .int .i64 ((rd_T68 l0_0 x3_1).f1.f1), .int .i64 ((rd_T68 l0_0 x3_1).f1.f2), .int .i64 ((rd_T68 l0_0 x3_1).f1.f3), .string ((rd_T68 l0_0 x3_1).f1.f4)]] Try.func89 ?_
           with_reducible refine (spec_EntryOk.calls ((rd_T68 l0_0 x3_1).f1.f0) ((rd_T68 l0_0 x3_1).f1.f1) ((rd_T68 l0_0 x3_1).f1.f2) ((rd_T68 l0_0 x3_1).f1.f3) ((rd_T68 l0_0 x3_1).f1.f4) false _ A18.out).mono ?_
           rintro e w44 ⟨rfl, hb⟩
           refine ⟨_, rfl, ?_⟩
           replace BK193 := zm (blk_below (zb BK193) hb)
           replace BK195 := zm (blk_below (zb BK195) hb)
           replace HB := zm (below_step zB hb)
           (try clear hb)
           (try clear hb2)
           (try clear hk)
           (try clear hi)
           refine hK.out _ _ ⟨(blk_cell BK195.out 0).trans rfl, (blk_cell BK195.out 1).trans rfl, (blk_cell BK195.out 2).trans rfl, (blk_cell BK195.out 3).trans rfl, (blk_cell BK195.out 4).trans rfl, (blk_cell BK195.out 5).trans rfl, (blk_cell BK193.out 0).trans rfl, (blk_cell BK193.out 1).trans rfl, ((HB.out.cell (World.block_lt_of_cell? w _ hw197_0)).trans hw197_0), ((HB.out.cell (World.block_lt_of_cell? w _ hw197_1)).trans hw197_1), ((HB.out.cell (World.block_lt_of_cell? w _ hw197_2)).trans hw197_2), ((HB.out.cell (World.block_lt_of_cell? w _ hw197_3)).trans hw197_3), ((HB.out.cell (World.block_lt_of_cell? w _ hw197_4)).trans hw197_4), ((HB.out.cell (World.block_lt_of_cell? w _ hw197_5)).trans hw197_5)⟩ (fun hHeld => ?_)
           clear hK K
           refine zn ?_
           refine zp 24 (some 43) (zl 36 33554431) ?_
           refine zp 25 (some 44) (zl 36 67108863) ?_
           refine zp 26 (some 45) (zl 36 134217727) ?_
           refine zp 27 (some 46) (zl 36 268435455) ?_
           refine zp 28 (some 47) (zl 36 536870911) ?_
           refine zp 29 (some 48) (zl 36 1073741823) ?_
           refine zp 30 (some 49) (zl 36 2147483647) ?_
           refine zp 31 (some 50) (zl 36 4294967295) ?_
           refine zp 32 (some 51) (zl 36 8589934591) ?_
           refine zp 33 (some 52) (zl 36 17179869183) ?_
           refine zp 34 (some 53) (zl 36 34359738367) ?_
           refine zp 35 (some 54) (zl 36 68719476735) ?_
           refine done_ (done_of HT_.out (by kernel_rfl)) ?_
           try go_wp2
           go_ret
           exact ⟨by first | rfl | (simp [errW_none, errW_some] <;> rfl) | (simp only [← hji8]; first | rfl | (simp [errW_none, errW_some] <;> rfl)) | (simp [*, errW_none, errW_some] <;> rfl), zB⟩
        ·rw [if_neg c10] at H
         exact absurd H (by simp)
       ·rw [if_neg c9] at H
        exact absurd H (by simp)
      ·rw [if_neg c7] at H
       have c7b0 : decide (0 < x3_1) = false := decide_eq_false c7
       clear c7
       replace H := Option.bind_eq_some_iff.mp H
       obtain ⟨t200, A450, H⟩ := H
       replace H : (if t200 = true then ((spec_FloorOf.f k1 l0_0 l0_1 ((rd_T68 l0_0 x3_1).f0)).bind fun t201 => (if ((rd_T68 l0_0 x3_1).f1.f0) ≤ t201 then (some false) else (spec_StateOk.l0 k1 (wrap64 (x3_1 + 1)) l0_0 l0_1))) else (some false)) = some r := H
       have A45 := zm A450
       clear A450
       by_cases c46 : t200 = true
       ·subst c46
        have H1 : ((spec_FloorOf.f k1 l0_0 l0_1 ((rd_T68 l0_0 x3_1).f0)).bind fun t201 => (if ((rd_T68 l0_0 x3_1).f1.f0) ≤ t201 then (some false) else (spec_StateOk.l0 k1 (wrap64 (x3_1 + 1)) l0_0 l0_1))) = some r := by rw [if_pos rfl] at H; exact H
        clear H
        have H := H1
        clear H1
        replace H := Option.bind_eq_some_iff.mp H
        obtain ⟨t201, A470, H⟩ := H
        replace H : (if ((rd_T68 l0_0 x3_1).f1.f0) ≤ t201 then (some false) else (spec_StateOk.l0 k1 (wrap64 (x3_1 + 1)) l0_0 l0_1)) = some r := H
        have A47 := zm A470
        clear A470
        by_cases c48 : ((rd_T68 l0_0 x3_1).f1.f0) ≤ t201
        ·rw [if_pos c48] at H
         have c48b0 : decide (((rd_T68 l0_0 x3_1).f1.f0) ≤ t201) = true := decide_eq_true c48
         clear c48
         obtain rfl := Option.some.inj H
         have hcz49_0 : wr.cell? ⟨gb193, 0, none⟩ = some (.slice A0_0 l0_0.length c0_0) := (blk_cell BK193.out 0).trans rfl
         have hcz49_1 : wr.cell? ⟨gb193, 1, none⟩ = some (.slice A0_1 l0_1.length c0_1) := (blk_cell BK193.out 1).trans rfl
         have hfz49_0 := blk_frozen BK193.out 0
         have hfz49_1 := blk_frozen BK193.out 1
         have p194 : 0 ≤ (x3_1 : Int) := zd
         have q194 : x3_1 < (l0_0.length : Int) := zd
         obtain ⟨ad194, e194, hx194_0, hx194_1, hx194_2, hx194_3, hx194_4, hx194_5⟩ := at_T68 (Kd.C_below HR0_0.out HB.out) x3_1 p194 q194
         cases e194
         replace p194 := eq_true p194
         replace q194 := eq_true q194
         try go_wp2_with (first | ((with_reducible refine gate_dst (N := 4) rfl ?_); refine zbox 4 #[.int .i64 0, .int .i64 0, .int .i64 0, .int .i64 0, .int .i64 0, .string (⟨#[]⟩ : ByteArray)] 68 ?_; intro gb195 hg w50 hbox hb; have BK195 := zm (hbox); have GW195 := zge w hg zB; have GE195 := zge w hg zB; replace HB := zm (below_step zB hb); have NB193_195 := zlt hg (zb BK193); have NB195_193 := zgt hg (zb BK193); replace BK193 := zm (blk_below (zb BK193) hb); clear hb hbox hg; have hnb51 := NB195_193.out; have hnc51 := NB193_195.out; have hcz52_0 : w50.cell? ⟨gb195, 0, none⟩ = some (.int .i64 0) := (blk_cell BK195.out 0).trans rfl; have hcz52_1 : w50.cell? ⟨gb195, 1, none⟩ = some (.int .i64 0) := (blk_cell BK195.out 1).trans rfl; have hcz52_2 : w50.cell? ⟨gb195, 2, none⟩ = some (.int .i64 0) := (blk_cell BK195.out 2).trans rfl; have hcz52_3 : w50.cell? ⟨gb195, 3, none⟩ = some (.int .i64 0) := (blk_cell BK195.out 3).trans rfl; have hcz52_4 : w50.cell? ⟨gb195, 4, none⟩ = some (.int .i64 0) := (blk_cell BK195.out 4).trans rfl; have hcz52_5 : w50.cell? ⟨gb195, 5, none⟩ = some (.string (⟨#[]⟩ : ByteArray)) := (blk_cell BK195.out 5).trans rfl; have hfz52_0 := blk_frozen BK195.out 0; have hfz52_1 := blk_frozen BK195.out 1; have hfz52_2 := blk_frozen BK195.out 2; have hfz52_3 := blk_frozen BK195.out 3; have hfz52_4 := blk_frozen BK195.out 4; have hfz52_5 := blk_frozen BK195.out 5))
         obtain ⟨w53, hW_⟩ : ∃ q, q = ((((((w50.setCell ⟨gb195, 0, none⟩ (.int .i64 ((rd_T68 l0_0 x3_1).f0))).setCell ⟨gb195, 1, none⟩ (.int .i64 ((rd_T68 l0_0 x3_1).f1.f0))).setCell ⟨gb195, 2, none⟩ (.int .i64 ((rd_T68 l0_0 x3_1).f1.f1))).setCell ⟨gb195, 3, none⟩ (.int .i64 ((rd_T68 l0_0 x3_1).f1.f2))).setCell ⟨gb195, 4, none⟩ (.int .i64 ((rd_T68 l0_0 x3_1).f1.f3))).setCell ⟨gb195, 5, none⟩ (.string ((rd_T68 l0_0 x3_1).f1.f4))) := ⟨_, rfl⟩
         have n0_ : Aside0 (w53.heap[gb193]? = some (.cells #[.slice (some ad194) l0_0.length c0_0, .slice A0_1 l0_1.length c0_1] 32 (0, 0))) := ⟨by rw [hW_]; exact zfar (zfar (zfar (zfar (zfar (zfar (zb BK193) NB193_195) NB193_195) NB193_195) NB193_195) NB193_195) NB193_195⟩
         have n1_ : Aside0 (w53.heap[gb195]? = some (.cells #[.int .i64 ((rd_T68 l0_0 x3_1).f0), .int .i64 ((rd_T68 l0_0 x3_1).f1.f0), .int .i64 ((rd_T68 l0_0 x3_1).f1.f1), .int .i64 ((rd_T68 l0_0 x3_1).f1.f2), .int .i64 ((rd_T68 l0_0 x3_1).f1.f3), .string ((rd_T68 l0_0 x3_1).f1.f4)] 68 (0, 0))) := ⟨by rw [hW_]; exact zput (zput (zput (zput (zput (zput (zb BK195) 0) 1) 2) 3) 4) 5⟩
         have n2_ : Aside0 (Below w.heap.size w w53) := ⟨by rw [hW_]; exact zB⟩
         rw [← hW_]
         clear hW_
         (try clear BK193)
         (try clear BK195)
         (try clear HB)
         have BK193 := n0_
         have BK195 := n1_
         have HB := n2_
         clear n0_ n1_ n2_
         replace BK193 := zm (blk_drew BK193.out)
         replace BK195 := zm (blk_drew BK195.out)
         replace HB := zm (below_drew1 HB.out)
         refine start_ (n := 36) (S := fun w' => w'.cell? ⟨gb195, 0, none⟩ = some (.int .i64 ((rd_T68 l0_0 x3_1).f0)) ∧ w'.cell? ⟨gb195, 1, none⟩ = some (.int .i64 ((rd_T68 l0_0 x3_1).f1.f0)) ∧ w'.cell? ⟨gb195, 2, none⟩ = some (.int .i64 ((rd_T68 l0_0 x3_1).f1.f1)) ∧ w'.cell? ⟨gb195, 3, none⟩ = some (.int .i64 ((rd_T68 l0_0 x3_1).f1.f2)) ∧ w'.cell? ⟨gb195, 4, none⟩ = some (.int .i64 ((rd_T68 l0_0 x3_1).f1.f3)) ∧ w'.cell? ⟨gb195, 5, none⟩ = some (.string ((rd_T68 l0_0 x3_1).f1.f4)) ∧ w'.cell? ⟨gb193, 0, none⟩ = some (.slice (some ad194) l0_0.length c0_0) ∧ w'.cell? ⟨gb193, 1, none⟩ = some (.slice A0_1 l0_1.length c0_1)) (ds := []) (zl 36 0) (by kernel_rfl) rfl rfl ⟨(blk_cell BK195.out 0).trans rfl, (blk_cell BK195.out 1).trans rfl, (blk_cell BK195.out 2).trans rfl, (blk_cell BK195.out 3).trans rfl, (blk_cell BK195.out 4).trans rfl, (blk_cell BK195.out 5).trans rfl, (blk_cell BK193.out 0).trans rfl, (blk_cell BK193.out 1).trans rfl⟩ (fun hHeld => ?_); refine with_tabW spec_StateOk.tab5 spec_StateOk.bits5 (fun HT_ HW_ => ?_)
         generalize w53.drew = w54 at BK193 BK195 HB hHeld ⊢
         refine zp 0 (some 19) (zl 36 1) ?_
         refine zt 1 (some 20) (zl 36 3) ?_
         refine zo 2 (some 21) (zl 36 7) (fun K hK => ?_)
         refine zgo #[.int .i64 ((rd_T68 l0_0 x3_1).f0)] Try.func72 ?_
         with_reducible refine (spec_l3Node.calls ((rd_T68 l0_0 x3_1).f0) true _ A5.out).mono ?_
         rintro e w' ⟨rfl, ⟨nd, rfl⟩⟩
         refine ⟨_, rfl, ?_⟩
         refine hK.out _ _ ⟨(blk_cell BK195.out 0).trans rfl, (blk_cell BK195.out 1).trans rfl, (blk_cell BK195.out 2).trans rfl, (blk_cell BK195.out 3).trans rfl, (blk_cell BK195.out 4).trans rfl, (blk_cell BK195.out 5).trans rfl, (blk_cell BK193.out 0).trans rfl, (blk_cell BK193.out 1).trans rfl⟩ (fun hHeld => ?_)
         clear hK K
         refine zn ?_
         refine zp 3 (some 22) (zl 36 15) ?_
         refine zp 4 (some 23) (zl 36 31) ?_
         refine zp 5 (some 24) (zl 36 63) ?_
         refine zp 6 (some 25) (zl 36 127) ?_
         refine zp 7 (some 26) (zl 36 255) ?_
         refine zp 8 (some 27) (zl 36 511) ?_
         refine zp 9 (some 28) (zl 36 1023) ?_
         refine zp 10 (some 29) (zl 36 2047) ?_
         refine zp 11 (some 30) (zl 36 4095) ?_
         refine zp 12 (some 31) (zl 36 8191) ?_
         refine zp 13 (some 32) (zl 36 16383) ?_
         refine zp 14 (some 33) (zl 36 32767) ?_
         refine zp 15 (some 34) (zl 36 65535) ?_
         refine zp 16 (some 35) (zl 36 131071) ?_
         refine zp 17 (some 36) (zl 36 262143) ?_
         refine zp 18 (some 37) (zl 36 524287) ?_
         refine zp 19 (some 38) (zl 36 1048575) ?_
         refine zp 20 (some 39) (zl 36 2097151) ?_
         refine zp 21 (some 40) (zl 36 4194303) ?_
         refine zt 22 (some 41) (zl 36 8388607) ?_
         refine zo 23 (some 42) (zl 36 16777215) (fun K hK => ?_)
         refine zgo #[.agg #[.int .i64 ((rd_T68 l0_0 x3_1).f1.f0), .int .i64 ((rd_T68 l0_0 x3_1).f1.f1), .int .i64 ((rd_T68 l0_0 x3_1).f1.f2), .int .i64 ((rd_T68 l0_0 x3_1).f1.f3), .string ((rd_T68 l0_0 x3_1).f1.f4)]] Try.func89 ?_
         with_reducible refine (spec_EntryOk.calls ((rd_T68 l0_0 x3_1).f1.f0) ((rd_T68 l0_0 x3_1).f1.f1) ((rd_T68 l0_0 x3_1).f1.f2) ((rd_T68 l0_0 x3_1).f1.f3) ((rd_T68 l0_0 x3_1).f1.f4) true _ A45.out).mono ?_
         rintro e w55 ⟨rfl, hb⟩
         refine ⟨_, rfl, ?_⟩
         replace BK193 := zm (blk_below (zb BK193) hb)
         replace BK195 := zm (blk_below (zb BK195) hb)
         replace HB := zm (below_step zB hb)
         (try clear hb)
         (try clear hb2)
         (try clear hk)
         (try clear hi)
         refine hK.out _ _ ⟨(blk_cell BK195.out 0).trans rfl, (blk_cell BK195.out 1).trans rfl, (blk_cell BK195.out 2).trans rfl, (blk_cell BK195.out 3).trans rfl, (blk_cell BK195.out 4).trans rfl, (blk_cell BK195.out 5).trans rfl, (blk_cell BK193.out 0).trans rfl, (blk_cell BK193.out 1).trans rfl⟩ (fun hHeld => ?_)
         clear hK K
         refine zn ?_
         refine zp 24 (some 43) (zl 36 33554431) ?_
         refine zp 25 (some 44) (zl 36 67108863) ?_
         refine zp 26 (some 45) (zl 36 134217727) ?_
         refine zp 27 (some 46) (zl 36 268435455) ?_
         refine zp 28 (some 47) (zl 36 536870911) ?_
         refine zp 31 (some 50) (zl 36 2684354559) ?_
         refine zt 29 (some 48) (zl 36 3221225471) ?_
         refine zt 30 (some 49) (zl 36 4294967295) ?_
         refine zt 32 (some 51) (zl 36 8589934591) ?_
         refine zo 33 (some 52) (zl 36 17179869183) (fun K hK => ?_)
         refine zgo #[.agg #[.slice (some ad194) l0_0.length c0_0, .slice A0_1 l0_1.length c0_1], .int .i64 ((rd_T68 l0_0 x3_1).f0)] Try.func76 ?_
         with_reducible refine (spec_FloorOf.calls k1 _ _ l0_0 _ _ l0_1 ((rd_T68 l0_0 x3_1).f0) t201 _ (zk (Kd.C_below HR0_0.out HB.out)) HC0_0.out (zk (Kd.C_below HR0_1.out HB.out)) HC0_1.out A47.out).mono ?_
         rintro e w56 ⟨rfl, hb⟩
         refine ⟨_, rfl, ?_⟩
         replace BK193 := zm (blk_below (zb BK193) hb)
         replace BK195 := zm (blk_below (zb BK195) hb)
         replace HB := zm (below_step zB hb)
         (try clear hb)
         (try clear hb2)
         (try clear hk)
         (try clear hi)
         refine hK.out _ _ ⟨(blk_cell BK195.out 0).trans rfl, (blk_cell BK195.out 1).trans rfl, (blk_cell BK195.out 2).trans rfl, (blk_cell BK195.out 3).trans rfl, (blk_cell BK195.out 4).trans rfl, (blk_cell BK195.out 5).trans rfl, (blk_cell BK193.out 0).trans rfl, (blk_cell BK193.out 1).trans rfl⟩ (fun hHeld => ?_)
         clear hK K
         refine zn ?_
         refine zp 34 (some 53) (zl 36 34359738367) ?_
         refine zp 35 (some 54) (zl 36 68719476735) ?_
         refine done_ (done_of HT_.out (by kernel_rfl)) ?_
         try go_wp2
         go_ret
         exact ⟨zE, zB⟩
        ·rw [if_neg c48] at H
         have c48b0 : decide (((rd_T68 l0_0 x3_1).f1.f0) ≤ t201) = false := decide_eq_false c48
         clear c48
         have H' := zm H
         clear H
         have hcz57_0 : wr.cell? ⟨gb193, 0, none⟩ = some (.slice A0_0 l0_0.length c0_0) := (blk_cell BK193.out 0).trans rfl
         have hcz57_1 : wr.cell? ⟨gb193, 1, none⟩ = some (.slice A0_1 l0_1.length c0_1) := (blk_cell BK193.out 1).trans rfl
         have hfz57_0 := blk_frozen BK193.out 0
         have hfz57_1 := blk_frozen BK193.out 1
         have p194 : 0 ≤ (x3_1 : Int) := zd
         have q194 : x3_1 < (l0_0.length : Int) := zd
         obtain ⟨ad194, e194, hx194_0, hx194_1, hx194_2, hx194_3, hx194_4, hx194_5⟩ := at_T68 (Kd.C_below HR0_0.out HB.out) x3_1 p194 q194
         cases e194
         replace p194 := eq_true p194
         replace q194 := eq_true q194
         try go_wp2_with (first | ((with_reducible refine gate_dst (N := 4) rfl ?_); refine zbox 4 #[.int .i64 0, .int .i64 0, .int .i64 0, .int .i64 0, .int .i64 0, .string (⟨#[]⟩ : ByteArray)] 68 ?_; intro gb195 hg w58 hbox hb; have BK195 := zm (hbox); have GW195 := zge w hg zB; have GE195 := zge w hg zB; replace HB := zm (below_step zB hb); have NB193_195 := zlt hg (zb BK193); have NB195_193 := zgt hg (zb BK193); replace BK193 := zm (blk_below (zb BK193) hb); clear hb hbox hg; have hnb59 := NB195_193.out; have hnc59 := NB193_195.out; have hcz60_0 : w58.cell? ⟨gb195, 0, none⟩ = some (.int .i64 0) := (blk_cell BK195.out 0).trans rfl; have hcz60_1 : w58.cell? ⟨gb195, 1, none⟩ = some (.int .i64 0) := (blk_cell BK195.out 1).trans rfl; have hcz60_2 : w58.cell? ⟨gb195, 2, none⟩ = some (.int .i64 0) := (blk_cell BK195.out 2).trans rfl; have hcz60_3 : w58.cell? ⟨gb195, 3, none⟩ = some (.int .i64 0) := (blk_cell BK195.out 3).trans rfl; have hcz60_4 : w58.cell? ⟨gb195, 4, none⟩ = some (.int .i64 0) := (blk_cell BK195.out 4).trans rfl; have hcz60_5 : w58.cell? ⟨gb195, 5, none⟩ = some (.string (⟨#[]⟩ : ByteArray)) := (blk_cell BK195.out 5).trans rfl; have hfz60_0 := blk_frozen BK195.out 0; have hfz60_1 := blk_frozen BK195.out 1; have hfz60_2 := blk_frozen BK195.out 2; have hfz60_3 := blk_frozen BK195.out 3; have hfz60_4 := blk_frozen BK195.out 4; have hfz60_5 := blk_frozen BK195.out 5))
         obtain ⟨w61, hW_⟩ : ∃ q, q = ((((((w58.setCell ⟨gb195, 0, none⟩ (.int .i64 ((rd_T68 l0_0 x3_1).f0))).setCell ⟨gb195, 1, none⟩ (.int .i64 ((rd_T68 l0_0 x3_1).f1.f0))).setCell ⟨gb195, 2, none⟩ (.int .i64 ((rd_T68 l0_0 x3_1).f1.f1))).setCell ⟨gb195, 3, none⟩ (.int .i64 ((rd_T68 l0_0 x3_1).f1.f2))).setCell ⟨gb195, 4, none⟩ (.int .i64 ((rd_T68 l0_0 x3_1).f1.f3))).setCell ⟨gb195, 5, none⟩ (.string ((rd_T68 l0_0 x3_1).f1.f4))) := ⟨_, rfl⟩
         have n0_ : Aside0 (w61.heap[gb193]? = some (.cells #[.slice (some ad194) l0_0.length c0_0, .slice A0_1 l0_1.length c0_1] 32 (0, 0))) := ⟨by rw [hW_]; exact zfar (zfar (zfar (zfar (zfar (zfar (zb BK193) NB193_195) NB193_195) NB193_195) NB193_195) NB193_195) NB193_195⟩
         have n1_ : Aside0 (w61.heap[gb195]? = some (.cells #[.int .i64 ((rd_T68 l0_0 x3_1).f0), .int .i64 ((rd_T68 l0_0 x3_1).f1.f0), .int .i64 ((rd_T68 l0_0 x3_1).f1.f1), .int .i64 ((rd_T68 l0_0 x3_1).f1.f2), .int .i64 ((rd_T68 l0_0 x3_1).f1.f3), .string ((rd_T68 l0_0 x3_1).f1.f4)] 68 (0, 0))) := ⟨by rw [hW_]; exact zput (zput (zput (zput (zput (zput (zb BK195) 0) 1) 2) 3) 4) 5⟩
         have n2_ : Aside0 (Below w.heap.size w w61) := ⟨by rw [hW_]; exact zB⟩
         rw [← hW_]
         clear hW_
         (try clear BK193)
         (try clear BK195)
         (try clear HB)
         have BK193 := n0_
         have BK195 := n1_
         have HB := n2_
         clear n0_ n1_ n2_
         replace BK193 := zm (blk_drew BK193.out)
         replace BK195 := zm (blk_drew BK195.out)
         replace HB := zm (below_drew1 HB.out)
         refine start_ (n := 36) (S := fun w' => w'.cell? ⟨gb195, 0, none⟩ = some (.int .i64 ((rd_T68 l0_0 x3_1).f0)) ∧ w'.cell? ⟨gb195, 1, none⟩ = some (.int .i64 ((rd_T68 l0_0 x3_1).f1.f0)) ∧ w'.cell? ⟨gb195, 2, none⟩ = some (.int .i64 ((rd_T68 l0_0 x3_1).f1.f1)) ∧ w'.cell? ⟨gb195, 3, none⟩ = some (.int .i64 ((rd_T68 l0_0 x3_1).f1.f2)) ∧ w'.cell? ⟨gb195, 4, none⟩ = some (.int .i64 ((rd_T68 l0_0 x3_1).f1.f3)) ∧ w'.cell? ⟨gb195, 5, none⟩ = some (.string ((rd_T68 l0_0 x3_1).f1.f4)) ∧ w'.cell? ⟨gb193, 0, none⟩ = some (.slice (some ad194) l0_0.length c0_0) ∧ w'.cell? ⟨gb193, 1, none⟩ = some (.slice A0_1 l0_1.length c0_1)) (ds := []) (zl 36 0) (by kernel_rfl) rfl rfl ⟨(blk_cell BK195.out 0).trans rfl, (blk_cell BK195.out 1).trans rfl, (blk_cell BK195.out 2).trans rfl, (blk_cell BK195.out 3).trans rfl, (blk_cell BK195.out 4).trans rfl, (blk_cell BK195.out 5).trans rfl, (blk_cell BK193.out 0).trans rfl, (blk_cell BK193.out 1).trans rfl⟩ (fun hHeld => ?_); refine with_tabW spec_StateOk.tab5 spec_StateOk.bits5 (fun HT_ HW_ => ?_)
         generalize w61.drew = w62 at BK193 BK195 HB hHeld ⊢
         refine zp 0 (some 19) (zl 36 1) ?_
         refine zt 1 (some 20) (zl 36 3) ?_
         refine zo 2 (some 21) (zl 36 7) (fun K hK => ?_)
         refine zgo #[.int .i64 ((rd_T68 l0_0 x3_1).f0)] Try.func72 ?_
         with_reducible refine (spec_l3Node.calls ((rd_T68 l0_0 x3_1).f0) true _ A5.out).mono ?_
         rintro e w' ⟨rfl, ⟨nd, rfl⟩⟩
         refine ⟨_, rfl, ?_⟩
         refine hK.out _ _ ⟨(blk_cell BK195.out 0).trans rfl, (blk_cell BK195.out 1).trans rfl, (blk_cell BK195.out 2).trans rfl, (blk_cell BK195.out 3).trans rfl, (blk_cell BK195.out 4).trans rfl, (blk_cell BK195.out 5).trans rfl, (blk_cell BK193.out 0).trans rfl, (blk_cell BK193.out 1).trans rfl⟩ (fun hHeld => ?_)
         clear hK K
         refine zn ?_
         refine zp 3 (some 22) (zl 36 15) ?_
         refine zp 4 (some 23) (zl 36 31) ?_
         refine zp 5 (some 24) (zl 36 63) ?_
         refine zp 6 (some 25) (zl 36 127) ?_
         refine zp 7 (some 26) (zl 36 255) ?_
         refine zp 8 (some 27) (zl 36 511) ?_
         refine zp 9 (some 28) (zl 36 1023) ?_
         refine zp 10 (some 29) (zl 36 2047) ?_
         refine zp 11 (some 30) (zl 36 4095) ?_
         refine zp 12 (some 31) (zl 36 8191) ?_
         refine zp 13 (some 32) (zl 36 16383) ?_
         refine zp 14 (some 33) (zl 36 32767) ?_
         refine zp 15 (some 34) (zl 36 65535) ?_
         refine zp 16 (some 35) (zl 36 131071) ?_
         refine zp 17 (some 36) (zl 36 262143) ?_
         refine zp 18 (some 37) (zl 36 524287) ?_
         refine zp 19 (some 38) (zl 36 1048575) ?_
         refine zp 20 (some 39) (zl 36 2097151) ?_
         refine zp 21 (some 40) (zl 36 4194303) ?_
         refine zt 22 (some 41) (zl 36 8388607) ?_
         refine zo 23 (some 42) (zl 36 16777215) (fun K hK => ?_)
         refine zgo #[.agg #[.int .i64 ((rd_T68 l0_0 x3_1).f1.f0), .int .i64 ((rd_T68 l0_0 x3_1).f1.f1), .int .i64 ((rd_T68 l0_0 x3_1).f1.f2), .int .i64 ((rd_T68 l0_0 x3_1).f1.f3), .string ((rd_T68 l0_0 x3_1).f1.f4)]] Try.func89 ?_
         with_reducible refine (spec_EntryOk.calls ((rd_T68 l0_0 x3_1).f1.f0) ((rd_T68 l0_0 x3_1).f1.f1) ((rd_T68 l0_0 x3_1).f1.f2) ((rd_T68 l0_0 x3_1).f1.f3) ((rd_T68 l0_0 x3_1).f1.f4) true _ A45.out).mono ?_
         rintro e w63 ⟨rfl, hb⟩
         refine ⟨_, rfl, ?_⟩
         replace BK193 := zm (blk_below (zb BK193) hb)
         replace BK195 := zm (blk_below (zb BK195) hb)
         replace HB := zm (below_step zB hb)
         (try clear hb)
         (try clear hb2)
         (try clear hk)
         (try clear hi)
         refine hK.out _ _ ⟨(blk_cell BK195.out 0).trans rfl, (blk_cell BK195.out 1).trans rfl, (blk_cell BK195.out 2).trans rfl, (blk_cell BK195.out 3).trans rfl, (blk_cell BK195.out 4).trans rfl, (blk_cell BK195.out 5).trans rfl, (blk_cell BK193.out 0).trans rfl, (blk_cell BK193.out 1).trans rfl⟩ (fun hHeld => ?_)
         clear hK K
         refine zn ?_
         refine zp 24 (some 43) (zl 36 33554431) ?_
         refine zp 25 (some 44) (zl 36 67108863) ?_
         refine zp 26 (some 45) (zl 36 134217727) ?_
         refine zp 27 (some 46) (zl 36 268435455) ?_
         refine zp 28 (some 47) (zl 36 536870911) ?_
         refine zp 31 (some 50) (zl 36 2684354559) ?_
         refine zt 29 (some 48) (zl 36 3221225471) ?_
         refine zt 30 (some 49) (zl 36 4294967295) ?_
         refine zt 32 (some 51) (zl 36 8589934591) ?_
         refine zo 33 (some 52) (zl 36 17179869183) (fun K hK => ?_)
         refine zgo #[.agg #[.slice (some ad194) l0_0.length c0_0, .slice A0_1 l0_1.length c0_1], .int .i64 ((rd_T68 l0_0 x3_1).f0)] Try.func76 ?_
         with_reducible refine (spec_FloorOf.calls k1 _ _ l0_0 _ _ l0_1 ((rd_T68 l0_0 x3_1).f0) t201 _ (zk (Kd.C_below HR0_0.out HB.out)) HC0_0.out (zk (Kd.C_below HR0_1.out HB.out)) HC0_1.out A47.out).mono ?_
         rintro e w64 ⟨rfl, hb⟩
         refine ⟨_, rfl, ?_⟩
         replace BK193 := zm (blk_below (zb BK193) hb)
         replace BK195 := zm (blk_below (zb BK195) hb)
         replace HB := zm (below_step zB hb)
         (try clear hb)
         (try clear hb2)
         (try clear hk)
         (try clear hi)
         refine hK.out _ _ ⟨(blk_cell BK195.out 0).trans rfl, (blk_cell BK195.out 1).trans rfl, (blk_cell BK195.out 2).trans rfl, (blk_cell BK195.out 3).trans rfl, (blk_cell BK195.out 4).trans rfl, (blk_cell BK195.out 5).trans rfl, (blk_cell BK193.out 0).trans rfl, (blk_cell BK193.out 1).trans rfl⟩ (fun hHeld => ?_)
         clear hK K
         refine zn ?_
         refine zp 34 (some 53) (zl 36 34359738367) ?_
         refine zp 35 (some 54) (zl 36 68719476735) ?_
         refine done_ (done_of HT_.out (by kernel_rfl)) ?_
         try go_wp2
         go_roundg k1
         case measure => have := HK1.out; omega
         case rel => exact ⟨(wrap64 (x3_1 + 1)), zF, H', ⟨by have := HK1.out; omega⟩, ⟨zb BK193⟩, ⟨zB⟩⟩
       ·replace c46 := Bool.eq_false_iff.mpr c46
        subst c46
        have H1 : (some false) = some r := by rw [if_neg (show ¬ (false = true) by decide)] at H; exact H
        clear H
        have H := H1
        clear H1
        obtain rfl := Option.some.inj H
        have hcz65_0 : wr.cell? ⟨gb193, 0, none⟩ = some (.slice A0_0 l0_0.length c0_0) := (blk_cell BK193.out 0).trans rfl
        have hcz65_1 : wr.cell? ⟨gb193, 1, none⟩ = some (.slice A0_1 l0_1.length c0_1) := (blk_cell BK193.out 1).trans rfl
        have hfz65_0 := blk_frozen BK193.out 0
        have hfz65_1 := blk_frozen BK193.out 1
        have p194 : 0 ≤ (x3_1 : Int) := zd
        have q194 : x3_1 < (l0_0.length : Int) := zd
        obtain ⟨ad194, e194, hx194_0, hx194_1, hx194_2, hx194_3, hx194_4, hx194_5⟩ := at_T68 (Kd.C_below HR0_0.out HB.out) x3_1 p194 q194
        cases e194
        replace p194 := eq_true p194
        replace q194 := eq_true q194
        try go_wp2_with (first | ((with_reducible refine gate_dst (N := 4) rfl ?_); refine zbox 4 #[.int .i64 0, .int .i64 0, .int .i64 0, .int .i64 0, .int .i64 0, .string (⟨#[]⟩ : ByteArray)] 68 ?_; intro gb195 hg w66 hbox hb; have BK195 := zm (hbox); have GW195 := zge w hg zB; have GE195 := zge w hg zB; replace HB := zm (below_step zB hb); have NB193_195 := zlt hg (zb BK193); have NB195_193 := zgt hg (zb BK193); replace BK193 := zm (blk_below (zb BK193) hb); clear hb hbox hg; have hnb67 := NB195_193.out; have hnc67 := NB193_195.out; have hcz68_0 : w66.cell? ⟨gb195, 0, none⟩ = some (.int .i64 0) := (blk_cell BK195.out 0).trans rfl; have hcz68_1 : w66.cell? ⟨gb195, 1, none⟩ = some (.int .i64 0) := (blk_cell BK195.out 1).trans rfl; have hcz68_2 : w66.cell? ⟨gb195, 2, none⟩ = some (.int .i64 0) := (blk_cell BK195.out 2).trans rfl; have hcz68_3 : w66.cell? ⟨gb195, 3, none⟩ = some (.int .i64 0) := (blk_cell BK195.out 3).trans rfl; have hcz68_4 : w66.cell? ⟨gb195, 4, none⟩ = some (.int .i64 0) := (blk_cell BK195.out 4).trans rfl; have hcz68_5 : w66.cell? ⟨gb195, 5, none⟩ = some (.string (⟨#[]⟩ : ByteArray)) := (blk_cell BK195.out 5).trans rfl; have hfz68_0 := blk_frozen BK195.out 0; have hfz68_1 := blk_frozen BK195.out 1; have hfz68_2 := blk_frozen BK195.out 2; have hfz68_3 := blk_frozen BK195.out 3; have hfz68_4 := blk_frozen BK195.out 4; have hfz68_5 := blk_frozen BK195.out 5))
        obtain ⟨w69, hW_⟩ : ∃ q, q = ((((((w66.setCell ⟨gb195, 0, none⟩ (.int .i64 ((rd_T68 l0_0 x3_1).f0))).setCell ⟨gb195, 1, none⟩ (.int .i64 ((rd_T68 l0_0 x3_1).f1.f0))).setCell ⟨gb195, 2, none⟩ (.int .i64 ((rd_T68 l0_0 x3_1).f1.f1))).setCell ⟨gb195, 3, none⟩ (.int .i64 ((rd_T68 l0_0 x3_1).f1.f2))).setCell ⟨gb195, 4, none⟩ (.int .i64 ((rd_T68 l0_0 x3_1).f1.f3))).setCell ⟨gb195, 5, none⟩ (.string ((rd_T68 l0_0 x3_1).f1.f4))) := ⟨_, rfl⟩
        have n0_ : Aside0 (w69.heap[gb193]? = some (.cells #[.slice (some ad194) l0_0.length c0_0, .slice A0_1 l0_1.length c0_1] 32 (0, 0))) := ⟨by rw [hW_]; exact zfar (zfar (zfar (zfar (zfar (zfar (zb BK193) NB193_195) NB193_195) NB193_195) NB193_195) NB193_195) NB193_195⟩
        have n1_ : Aside0 (w69.heap[gb195]? = some (.cells #[.int .i64 ((rd_T68 l0_0 x3_1).f0), .int .i64 ((rd_T68 l0_0 x3_1).f1.f0), .int .i64 ((rd_T68 l0_0 x3_1).f1.f1), .int .i64 ((rd_T68 l0_0 x3_1).f1.f2), .int .i64 ((rd_T68 l0_0 x3_1).f1.f3), .string ((rd_T68 l0_0 x3_1).f1.f4)] 68 (0, 0))) := ⟨by rw [hW_]; exact zput (zput (zput (zput (zput (zput (zb BK195) 0) 1) 2) 3) 4) 5⟩
        have n2_ : Aside0 (Below w.heap.size w w69) := ⟨by rw [hW_]; exact zB⟩
        rw [← hW_]
        clear hW_
        (try clear BK193)
        (try clear BK195)
        (try clear HB)
        have BK193 := n0_
        have BK195 := n1_
        have HB := n2_
        clear n0_ n1_ n2_
        replace BK193 := zm (blk_drew BK193.out)
        replace BK195 := zm (blk_drew BK195.out)
        replace HB := zm (below_drew1 HB.out)
        refine start_ (n := 36) (S := fun w' => w'.cell? ⟨gb195, 0, none⟩ = some (.int .i64 ((rd_T68 l0_0 x3_1).f0)) ∧ w'.cell? ⟨gb195, 1, none⟩ = some (.int .i64 ((rd_T68 l0_0 x3_1).f1.f0)) ∧ w'.cell? ⟨gb195, 2, none⟩ = some (.int .i64 ((rd_T68 l0_0 x3_1).f1.f1)) ∧ w'.cell? ⟨gb195, 3, none⟩ = some (.int .i64 ((rd_T68 l0_0 x3_1).f1.f2)) ∧ w'.cell? ⟨gb195, 4, none⟩ = some (.int .i64 ((rd_T68 l0_0 x3_1).f1.f3)) ∧ w'.cell? ⟨gb195, 5, none⟩ = some (.string ((rd_T68 l0_0 x3_1).f1.f4))) (ds := []) (zl 36 0) (by kernel_rfl) rfl rfl ⟨(blk_cell BK195.out 0).trans rfl, (blk_cell BK195.out 1).trans rfl, (blk_cell BK195.out 2).trans rfl, (blk_cell BK195.out 3).trans rfl, (blk_cell BK195.out 4).trans rfl, (blk_cell BK195.out 5).trans rfl⟩ (fun hHeld => ?_); refine with_tabW spec_StateOk.tab5 spec_StateOk.bits5 (fun HT_ HW_ => ?_)
        generalize w69.drew = w70 at BK193 BK195 HB hHeld ⊢
        refine zp 0 (some 19) (zl 36 1) ?_
        refine zt 1 (some 20) (zl 36 3) ?_
        refine zo 2 (some 21) (zl 36 7) (fun K hK => ?_)
        refine zgo #[.int .i64 ((rd_T68 l0_0 x3_1).f0)] Try.func72 ?_
        with_reducible refine (spec_l3Node.calls ((rd_T68 l0_0 x3_1).f0) true _ A5.out).mono ?_
        rintro e w' ⟨rfl, ⟨nd, rfl⟩⟩
        refine ⟨_, rfl, ?_⟩
        refine hK.out _ _ ⟨(blk_cell BK195.out 0).trans rfl, (blk_cell BK195.out 1).trans rfl, (blk_cell BK195.out 2).trans rfl, (blk_cell BK195.out 3).trans rfl, (blk_cell BK195.out 4).trans rfl, (blk_cell BK195.out 5).trans rfl⟩ (fun hHeld => ?_)
        clear hK K
        refine zn ?_
        refine zp 3 (some 22) (zl 36 15) ?_
        refine zp 4 (some 23) (zl 36 31) ?_
        refine zp 5 (some 24) (zl 36 63) ?_
        refine zp 6 (some 25) (zl 36 127) ?_
        refine zp 7 (some 26) (zl 36 255) ?_
        refine zp 8 (some 27) (zl 36 511) ?_
        refine zp 9 (some 28) (zl 36 1023) ?_
        refine zp 10 (some 29) (zl 36 2047) ?_
        refine zp 11 (some 30) (zl 36 4095) ?_
        refine zp 12 (some 31) (zl 36 8191) ?_
        refine zp 13 (some 32) (zl 36 16383) ?_
        refine zp 14 (some 33) (zl 36 32767) ?_
        refine zp 15 (some 34) (zl 36 65535) ?_
        refine zp 16 (some 35) (zl 36 131071) ?_
        refine zp 17 (some 36) (zl 36 262143) ?_
        refine zp 18 (some 37) (zl 36 524287) ?_
        refine zp 19 (some 38) (zl 36 1048575) ?_
        refine zp 20 (some 39) (zl 36 2097151) ?_
        refine zp 21 (some 40) (zl 36 4194303) ?_
        refine zt 22 (some 41) (zl 36 8388607) ?_
        refine zo 23 (some 42) (zl 36 16777215) (fun K hK => ?_)
        refine zgo #[.agg #[.int .i64 ((rd_T68 l0_0 x3_1).f1.f0), .int .i64 ((rd_T68 l0_0 x3_1).f1.f1), .int .i64 ((rd_T68 l0_0 x3_1).f1.f2), .int .i64 ((rd_T68 l0_0 x3_1).f1.f3), .string ((rd_T68 l0_0 x3_1).f1.f4)]] Try.func89 ?_
        with_reducible refine (spec_EntryOk.calls ((rd_T68 l0_0 x3_1).f1.f0) ((rd_T68 l0_0 x3_1).f1.f1) ((rd_T68 l0_0 x3_1).f1.f2) ((rd_T68 l0_0 x3_1).f1.f3) ((rd_T68 l0_0 x3_1).f1.f4) false _ A45.out).mono ?_
        rintro e w71 ⟨rfl, hb⟩
        refine ⟨_, rfl, ?_⟩
        replace BK193 := zm (blk_below (zb BK193) hb)
        replace BK195 := zm (blk_below (zb BK195) hb)
        replace HB := zm (below_step zB hb)
        (try clear hb)
        (try clear hb2)
        (try clear hk)
        (try clear hi)
        refine hK.out _ _ ⟨(blk_cell BK195.out 0).trans rfl, (blk_cell BK195.out 1).trans rfl, (blk_cell BK195.out 2).trans rfl, (blk_cell BK195.out 3).trans rfl, (blk_cell BK195.out 4).trans rfl, (blk_cell BK195.out 5).trans rfl⟩ (fun hHeld => ?_)
        clear hK K
        refine zn ?_
        refine zp 24 (some 43) (zl 36 33554431) ?_
        refine zp 25 (some 44) (zl 36 67108863) ?_
        refine zp 26 (some 45) (zl 36 134217727) ?_
        refine zp 27 (some 46) (zl 36 268435455) ?_
        refine zp 28 (some 47) (zl 36 536870911) ?_
        refine zp 29 (some 48) (zl 36 1073741823) ?_
        refine zp 30 (some 49) (zl 36 2147483647) ?_
        refine zp 31 (some 50) (zl 36 4294967295) ?_
        refine zp 32 (some 51) (zl 36 8589934591) ?_
        refine zp 33 (some 52) (zl 36 17179869183) ?_
        refine zp 34 (some 53) (zl 36 34359738367) ?_
        refine zp 35 (some 54) (zl 36 68719476735) ?_
        refine done_ (done_of HT_.out (by kernel_rfl)) ?_
        try go_wp2
        go_ret
        exact ⟨zE, zB⟩
     ·replace c6 := Bool.eq_false_iff.mpr c6
      subst c6
      have H1 : (some false) = some r := by rw [if_neg (show ¬ (false = true) by decide)] at H; exact H
      clear H
      have H := H1
      clear H1
      obtain rfl := Option.some.inj H
      have hcz72_0 : wr.cell? ⟨gb193, 0, none⟩ = some (.slice A0_0 l0_0.length c0_0) := (blk_cell BK193.out 0).trans rfl
      have hcz72_1 : wr.cell? ⟨gb193, 1, none⟩ = some (.slice A0_1 l0_1.length c0_1) := (blk_cell BK193.out 1).trans rfl
      have hfz72_0 := blk_frozen BK193.out 0
      have hfz72_1 := blk_frozen BK193.out 1
      have p194 : 0 ≤ (x3_1 : Int) := zd
      have q194 : x3_1 < (l0_0.length : Int) := zd
      obtain ⟨ad194, e194, hx194_0, hx194_1, hx194_2, hx194_3, hx194_4, hx194_5⟩ := at_T68 (Kd.C_below HR0_0.out HB.out) x3_1 p194 q194
      cases e194
      replace p194 := eq_true p194
      replace q194 := eq_true q194
      try go_wp2_with (first | ((with_reducible refine gate_dst (N := 4) rfl ?_); refine zbox 4 #[.int .i64 0, .int .i64 0, .int .i64 0, .int .i64 0, .int .i64 0, .string (⟨#[]⟩ : ByteArray)] 68 ?_; intro gb195 hg w73 hbox hb; have BK195 := zm (hbox); have GW195 := zge w hg zB; have GE195 := zge w hg zB; replace HB := zm (below_step zB hb); have NB193_195 := zlt hg (zb BK193); have NB195_193 := zgt hg (zb BK193); replace BK193 := zm (blk_below (zb BK193) hb); clear hb hbox hg; have hnb74 := NB195_193.out; have hnc74 := NB193_195.out; have hcz75_0 : w73.cell? ⟨gb195, 0, none⟩ = some (.int .i64 0) := (blk_cell BK195.out 0).trans rfl; have hcz75_1 : w73.cell? ⟨gb195, 1, none⟩ = some (.int .i64 0) := (blk_cell BK195.out 1).trans rfl; have hcz75_2 : w73.cell? ⟨gb195, 2, none⟩ = some (.int .i64 0) := (blk_cell BK195.out 2).trans rfl; have hcz75_3 : w73.cell? ⟨gb195, 3, none⟩ = some (.int .i64 0) := (blk_cell BK195.out 3).trans rfl; have hcz75_4 : w73.cell? ⟨gb195, 4, none⟩ = some (.int .i64 0) := (blk_cell BK195.out 4).trans rfl; have hcz75_5 : w73.cell? ⟨gb195, 5, none⟩ = some (.string (⟨#[]⟩ : ByteArray)) := (blk_cell BK195.out 5).trans rfl; have hfz75_0 := blk_frozen BK195.out 0; have hfz75_1 := blk_frozen BK195.out 1; have hfz75_2 := blk_frozen BK195.out 2; have hfz75_3 := blk_frozen BK195.out 3; have hfz75_4 := blk_frozen BK195.out 4; have hfz75_5 := blk_frozen BK195.out 5))
      obtain ⟨w76, hW_⟩ : ∃ q, q = ((((((w73.setCell ⟨gb195, 0, none⟩ (.int .i64 ((rd_T68 l0_0 x3_1).f0))).setCell ⟨gb195, 1, none⟩ (.int .i64 ((rd_T68 l0_0 x3_1).f1.f0))).setCell ⟨gb195, 2, none⟩ (.int .i64 ((rd_T68 l0_0 x3_1).f1.f1))).setCell ⟨gb195, 3, none⟩ (.int .i64 ((rd_T68 l0_0 x3_1).f1.f2))).setCell ⟨gb195, 4, none⟩ (.int .i64 ((rd_T68 l0_0 x3_1).f1.f3))).setCell ⟨gb195, 5, none⟩ (.string ((rd_T68 l0_0 x3_1).f1.f4))) := ⟨_, rfl⟩
      have n0_ : Aside0 (w76.heap[gb193]? = some (.cells #[.slice (some ad194) l0_0.length c0_0, .slice A0_1 l0_1.length c0_1] 32 (0, 0))) := ⟨by rw [hW_]; exact zfar (zfar (zfar (zfar (zfar (zfar (zb BK193) NB193_195) NB193_195) NB193_195) NB193_195) NB193_195) NB193_195⟩
      have n1_ : Aside0 (w76.heap[gb195]? = some (.cells #[.int .i64 ((rd_T68 l0_0 x3_1).f0), .int .i64 ((rd_T68 l0_0 x3_1).f1.f0), .int .i64 ((rd_T68 l0_0 x3_1).f1.f1), .int .i64 ((rd_T68 l0_0 x3_1).f1.f2), .int .i64 ((rd_T68 l0_0 x3_1).f1.f3), .string ((rd_T68 l0_0 x3_1).f1.f4)] 68 (0, 0))) := ⟨by rw [hW_]; exact zput (zput (zput (zput (zput (zput (zb BK195) 0) 1) 2) 3) 4) 5⟩
      have n2_ : Aside0 (Below w.heap.size w w76) := ⟨by rw [hW_]; exact zB⟩
      rw [← hW_]
      clear hW_
      (try clear BK193)
      (try clear BK195)
      (try clear HB)
      have BK193 := n0_
      have BK195 := n1_
      have HB := n2_
      clear n0_ n1_ n2_
      replace BK193 := zm (blk_drew BK193.out)
      replace BK195 := zm (blk_drew BK195.out)
      replace HB := zm (below_drew1 HB.out)
      refine start_ (n := 36) (S := fun w' => w'.cell? ⟨gb195, 0, none⟩ = some (.int .i64 ((rd_T68 l0_0 x3_1).f0)) ∧ w'.cell? ⟨gb195, 1, none⟩ = some (.int .i64 ((rd_T68 l0_0 x3_1).f1.f0)) ∧ w'.cell? ⟨gb195, 2, none⟩ = some (.int .i64 ((rd_T68 l0_0 x3_1).f1.f1)) ∧ w'.cell? ⟨gb195, 3, none⟩ = some (.int .i64 ((rd_T68 l0_0 x3_1).f1.f2)) ∧ w'.cell? ⟨gb195, 4, none⟩ = some (.int .i64 ((rd_T68 l0_0 x3_1).f1.f3)) ∧ w'.cell? ⟨gb195, 5, none⟩ = some (.string ((rd_T68 l0_0 x3_1).f1.f4))) (ds := []) (zl 36 0) (by kernel_rfl) rfl rfl ⟨(blk_cell BK195.out 0).trans rfl, (blk_cell BK195.out 1).trans rfl, (blk_cell BK195.out 2).trans rfl, (blk_cell BK195.out 3).trans rfl, (blk_cell BK195.out 4).trans rfl, (blk_cell BK195.out 5).trans rfl⟩ (fun hHeld => ?_); refine with_tabW spec_StateOk.tab5 spec_StateOk.bits5 (fun HT_ HW_ => ?_)
      generalize w76.drew = w77 at BK193 BK195 HB hHeld ⊢
      refine zp 0 (some 19) (zl 36 1) ?_
      refine zt 1 (some 20) (zl 36 3) ?_
      refine zo 2 (some 21) (zl 36 7) (fun K hK => ?_)
      refine zgo #[.int .i64 ((rd_T68 l0_0 x3_1).f0)] Try.func72 ?_
      with_reducible refine (spec_l3Node.calls ((rd_T68 l0_0 x3_1).f0) false _ A5.out).mono ?_
      rintro e w' ⟨rfl, ⟨nd, rfl⟩⟩
      refine ⟨_, rfl, ?_⟩
      refine hK.out _ _ ⟨(blk_cell BK195.out 0).trans rfl, (blk_cell BK195.out 1).trans rfl, (blk_cell BK195.out 2).trans rfl, (blk_cell BK195.out 3).trans rfl, (blk_cell BK195.out 4).trans rfl, (blk_cell BK195.out 5).trans rfl⟩ (fun hHeld => ?_)
      clear hK K
      refine zn ?_
      refine zp 3 (some 22) (zl 36 15) ?_
      refine zp 4 (some 23) (zl 36 31) ?_
      refine zp 5 (some 24) (zl 36 63) ?_
      refine zp 6 (some 25) (zl 36 127) ?_
      refine zp 7 (some 26) (zl 36 255) ?_
      refine zp 8 (some 27) (zl 36 511) ?_
      refine zp 9 (some 28) (zl 36 1023) ?_
      refine zp 10 (some 29) (zl 36 2047) ?_
      refine zp 11 (some 30) (zl 36 4095) ?_
      refine zp 12 (some 31) (zl 36 8191) ?_
      refine zp 13 (some 32) (zl 36 16383) ?_
      refine zp 14 (some 33) (zl 36 32767) ?_
      refine zp 15 (some 34) (zl 36 65535) ?_
      refine zp 16 (some 35) (zl 36 131071) ?_
      refine zp 17 (some 36) (zl 36 262143) ?_
      refine zp 18 (some 37) (zl 36 524287) ?_
      refine zp 19 (some 38) (zl 36 1048575) ?_
      refine zp 20 (some 39) (zl 36 2097151) ?_
      refine zp 21 (some 40) (zl 36 4194303) ?_
      refine zp 22 (some 41) (zl 36 8388607) ?_
      refine zp 23 (some 42) (zl 36 16777215) ?_
      refine zp 24 (some 43) (zl 36 33554431) ?_
      refine zp 25 (some 44) (zl 36 67108863) ?_
      refine zp 26 (some 45) (zl 36 134217727) ?_
      refine zp 27 (some 46) (zl 36 268435455) ?_
      refine zp 28 (some 47) (zl 36 536870911) ?_
      refine zp 29 (some 48) (zl 36 1073741823) ?_
      refine zp 30 (some 49) (zl 36 2147483647) ?_
      refine zp 31 (some 50) (zl 36 4294967295) ?_
      refine zp 32 (some 51) (zl 36 8589934591) ?_
      refine zp 33 (some 52) (zl 36 17179869183) ?_
      refine zp 34 (some 53) (zl 36 34359738367) ?_
      refine zp 35 (some 54) (zl 36 68719476735) ?_
      refine done_ (done_of HT_.out (by kernel_rfl)) ?_
      try go_wp2
      go_ret
      exact ⟨zE, zB⟩
    ·rw [if_neg c4] at H
     exact absurd H (by simp)
   ·rw [if_neg c3] at H
    have c3b0 : decide (x3_1 < (l0_0.length : Int)) = false := decide_eq_false c3
    clear c3
    have H' := zm H
    clear H
    have hcz78_0 : wr.cell? ⟨gb193, 0, none⟩ = some (.slice A0_0 l0_0.length c0_0) := (blk_cell BK193.out 0).trans rfl
    have hcz78_1 : wr.cell? ⟨gb193, 1, none⟩ = some (.slice A0_1 l0_1.length c0_1) := (blk_cell BK193.out 1).trans rfl
    have hfz78_0 := blk_frozen BK193.out 0
    have hfz78_1 := blk_frozen BK193.out 1
    go_wp2
    go_loopg [5] k1 (fun kq v5 w' => ∃ (x5_2 : Int), v5 = .int .i64 x5_2 ∧ Aside0 (spec_StateOk.l1 kq x5_2 l0_0 l0_1 = some r) ∧ Aside0 (kq ≤ k1) ∧ Aside0 (w'.heap[gb193]? = some (.cells #[(.slice A0_0 l0_0.length c0_0), (.slice A0_1 l0_1.length c0_1)] 32 (0, 0))) ∧ Aside0 (Below w.heap.size w w'))
    case atStart => exact ⟨(0), zF, H', ⟨Nat.le_refl _⟩, ⟨zb BK193⟩, ⟨zB⟩⟩
    case round =>
     clear H'
     try clear p1
     try clear q1
     try clear hx1
     try clear p2
     try clear c3
     try clear c3b0
     try clear c4
     try clear c6
     try clear p6
     try clear c7
     try clear c8
     try clear p19
     try clear q19
     try clear hx19
     try clear c46
     try clear p64
     try clear c67
     try clear c72
     try clear c74
     try clear c76
     try clear hcz65_0
     try clear hcz65_1
     try clear hcz68_0
     try clear hcz68_1
     try clear hcz68_2
     try clear hcz68_3
     try clear hcz68_4
     try clear hcz68_5
     try clear hcz72_0
     try clear hcz72_1
     try clear hcz75_0
     try clear hcz75_1
     try clear hcz75_2
     try clear hcz75_3
     try clear hcz75_4
     try clear hcz75_5
     try clear hcz78_0
     try clear hcz78_1
     try clear hfz65_0
     try clear hfz65_1
     try clear hfz68_0
     try clear hfz68_1
     try clear hfz68_2
     try clear hfz68_3
     try clear hfz68_4
     try clear hfz68_5
     try clear hfz72_0
     try clear hfz72_1
     try clear hfz75_0
     try clear hfz75_1
     try clear hfz75_2
     try clear hfz75_3
     try clear hfz75_4
     try clear hfz75_5
     try clear hfz78_0
     try clear hfz78_1
     try clear hx194_0
     try clear hx194_1
     try clear hx194_2
     try clear hx194_3
     try clear hx194_4
     try clear hx194_5
     try clear p194
     try clear q194
     obtain ⟨x5_2, rfl, HA, HK2, BK193, HB⟩ := hrel
     cases gk with
     | zero => exact absurd HA.out (by simp [spec_StateOk.l1])
     | succ k2 =>
      have H := HA.out
      clear HA
      simp only [spec_StateOk.l1] at H
      by_cases c79 : x5_2 < (l0_1.length : Int)
      ·rw [if_pos c79] at H
       have c79b0 : decide (x5_2 < (l0_1.length : Int)) = true := decide_eq_true c79
       clear c79
       by_cases c80 : 0 ≤ x5_2
       ·rw [if_pos c80] at H
        have c80b0 : decide (0 ≤ x5_2) = true := decide_eq_true c80
        clear c80
        replace H := Option.bind_eq_some_iff.mp H
        obtain ⟨t204, A810, H⟩ := H
        replace H : (if t204 = true then (if x5_2 > 0 then (if 0 ≤ (wrap64 (x5_2 - 1)) then (if (wrap64 (x5_2 - 1)) < (l0_1.length : Int) then (if ((rd_T72 l0_1 x5_2).f0) ≤ ((rd_T72 l0_1 (wrap64 (x5_2 - 1))).f0) then (some false) else ((spec_l1In.f ((rd_T72 l0_1 x5_2).f1) 1 1000).bind fun t206 => (if t206 = true then (spec_StateOk.l1 k2 (wrap64 (x5_2 + 1)) l0_0 l0_1) else (some false)))) else (none)) else (none)) else ((spec_l1In.f ((rd_T72 l0_1 x5_2).f1) 1 1000).bind fun t207 => (if t207 = true then (spec_StateOk.l1 k2 (wrap64 (x5_2 + 1)) l0_0 l0_1) else (some false)))) else (some false)) = some r := H
        have A81 := zm A810
        clear A810
        by_cases c82 : t204 = true
        ·subst c82
         have H1 : (if x5_2 > 0 then (if 0 ≤ (wrap64 (x5_2 - 1)) then (if (wrap64 (x5_2 - 1)) < (l0_1.length : Int) then (if ((rd_T72 l0_1 x5_2).f0) ≤ ((rd_T72 l0_1 (wrap64 (x5_2 - 1))).f0) then (some false) else ((spec_l1In.f ((rd_T72 l0_1 x5_2).f1) 1 1000).bind fun t206 => (if t206 = true then (spec_StateOk.l1 k2 (wrap64 (x5_2 + 1)) l0_0 l0_1) else (some false)))) else (none)) else (none)) else ((spec_l1In.f ((rd_T72 l0_1 x5_2).f1) 1 1000).bind fun t207 => (if t207 = true then (spec_StateOk.l1 k2 (wrap64 (x5_2 + 1)) l0_0 l0_1) else (some false)))) = some r := by rw [if_pos rfl] at H; exact H
         clear H
         have H := H1
         clear H1
         by_cases c83 : x5_2 > 0
         ·rw [if_pos c83] at H
          have c83b0 : decide (0 < x5_2) = true := decide_eq_true c83
          clear c83
          obtain ⟨ji84, hji84⟩ : ∃ j_ : Int, (wrap64 (x5_2 - 1)) = j_ := ⟨_, rfl⟩
          replace H : (if 0 ≤ (ji84) then (if (ji84) < (l0_1.length : Int) then (if ((rd_T72 l0_1 x5_2).f0) ≤ ((rd_T72 l0_1 (ji84)).f0) then (some false) else ((spec_l1In.f ((rd_T72 l0_1 x5_2).f1) 1 1000).bind fun t206 => (if t206 = true then (spec_StateOk.l1 k2 (wrap64 (x5_2 + 1)) l0_0 l0_1) else (some false)))) else (none)) else (none)) = some r := by first | (rw [hji84] at H; exact H) | (simp only [hji84] at H ⊢; exact H)
          (try rw [hji84] at A81)
          have hji84w : (IntKind.i64.wrap (x5_2 - 1)) = ji84 := (i64_w _).trans hji84
          by_cases c85 : 0 ≤ (ji84)
          ·rw [if_pos c85] at H
           have c85b0 : decide (0 ≤ (ji84)) = true := decide_eq_true c85
           clear c85
           by_cases c86 : (ji84) < (l0_1.length : Int)
           ·rw [if_pos c86] at H
            have c86b0 : decide ((ji84) < (l0_1.length : Int)) = true := decide_eq_true c86
            clear c86
            by_cases c87 : ((rd_T72 l0_1 x5_2).f0) ≤ ((rd_T72 l0_1 (ji84)).f0)
            ·rw [if_pos c87] at H
             have c87b0 : decide (((rd_T72 l0_1 x5_2).f0) ≤ ((rd_T72 l0_1 (ji84)).f0)) = true := decide_eq_true c87
             clear c87
             obtain rfl := Option.some.inj H
             have hcz88_0 : wr.cell? ⟨gb193, 0, none⟩ = some (.slice A0_0 l0_0.length c0_0) := (blk_cell BK193.out 0).trans rfl
             have hcz88_1 : wr.cell? ⟨gb193, 1, none⟩ = some (.slice A0_1 l0_1.length c0_1) := (blk_cell BK193.out 1).trans rfl
             have hfz88_0 := blk_frozen BK193.out 0
             have hfz88_1 := blk_frozen BK193.out 1
             have p202 : 0 ≤ (x5_2 : Int) := zd
             have q202 : x5_2 < (l0_1.length : Int) := zd
             obtain ⟨ad202, e202, hx202_0, hx202_1⟩ := at_T72 (Kd.C_below HR0_1.out HB.out) x5_2 p202 q202
             cases e202
             replace p202 := eq_true p202
             replace q202 := eq_true q202
             try go_wp2_with (first | ((with_reducible refine gate_dst (N := 6) rfl ?_); refine zbox 6 #[.int .i64 0, .int .i64 0] 72 ?_; intro gb203 hg w89 hbox hb; have BK203 := zm (hbox); have GW203 := zge w hg zB; have GE203 := zge w hg zB; replace HB := zm (below_step zB hb); have NB193_203 := zlt hg (zb BK193); have NB203_193 := zgt hg (zb BK193); replace BK193 := zm (blk_below (zb BK193) hb); clear hb hbox hg; have hnb90 := NB203_193.out; have hnc90 := NB193_203.out; have hcz91_0 : w89.cell? ⟨gb203, 0, none⟩ = some (.int .i64 0) := (blk_cell BK203.out 0).trans rfl; have hcz91_1 : w89.cell? ⟨gb203, 1, none⟩ = some (.int .i64 0) := (blk_cell BK203.out 1).trans rfl; have hfz91_0 := blk_frozen BK203.out 0; have hfz91_1 := blk_frozen BK203.out 1))
             obtain ⟨w92, hW_⟩ : ∃ q, q = ((w89.setCell ⟨gb203, 0, none⟩ (.int .i64 ((rd_T72 l0_1 x5_2).f0))).setCell ⟨gb203, 1, none⟩ (.int .i64 ((rd_T72 l0_1 x5_2).f1))) := ⟨_, rfl⟩
             have n0_ : Aside0 (w92.heap[gb193]? = some (.cells #[.slice A0_0 l0_0.length c0_0, .slice (some ad202) l0_1.length c0_1] 32 (0, 0))) := ⟨by rw [hW_]; exact zfar (zfar (zb BK193) NB193_203) NB193_203⟩
             have n1_ : Aside0 (w92.heap[gb203]? = some (.cells #[.int .i64 ((rd_T72 l0_1 x5_2).f0), .int .i64 ((rd_T72 l0_1 x5_2).f1)] 72 (0, 0))) := ⟨by rw [hW_]; exact zput (zput (zb BK203) 0) 1⟩
             have n2_ : Aside0 (Below w.heap.size w w92) := ⟨by rw [hW_]; exact zB⟩
             rw [← hW_]
             clear hW_
             (try clear BK193)
             (try clear BK203)
             (try clear HB)
             have BK193 := n0_
             have BK203 := n1_
             have HB := n2_
             clear n0_ n1_ n2_
             replace BK193 := zm (blk_drew BK193.out)
             replace BK203 := zm (blk_drew BK203.out)
             replace HB := zm (below_drew1 HB.out)
             have p205 : 0 ≤ ((ji84) : Int) := zd
             have q205 : (ji84) < (l0_1.length : Int) := zd
             obtain ⟨ad205, e205, hx205_0, hx205_1⟩ := at_T72 HR0_1.out (ji84) p205 q205
             have hw205_1 := hx205_1
             have hw205_0 := hx205_0
             obtain rfl : ad202 = ad205 := (by injection e205)
             replace hx205_0 := (HB.out.cell (World.block_lt_of_cell? w _ hx205_0)).trans hx205_0
             replace hx205_1 := (HB.out.cell (World.block_lt_of_cell? w _ hx205_1)).trans hx205_1
             replace p205 := eq_true p205
             replace q205 := eq_true q205
             refine start_ (n := 26) (S := fun w' => w'.cell? ⟨gb203, 0, none⟩ = some (.int .i64 ((rd_T72 l0_1 x5_2).f0)) ∧ w'.cell? ⟨gb203, 1, none⟩ = some (.int .i64 ((rd_T72 l0_1 x5_2).f1)) ∧ w'.cell? ⟨gb193, 0, none⟩ = some (.slice A0_0 l0_0.length c0_0) ∧ w'.cell? ⟨gb193, 1, none⟩ = some (.slice (some ad202) l0_1.length c0_1) ∧ w'.cell? (ad202.add (((ji84)).toNat * 2)) = some (.int .i64 ((rd_T72 l0_1 (ji84)).f0)) ∧ w'.cell? ⟨(ad202.add (((ji84)).toNat * 2)).block, (ad202.add (((ji84)).toNat * 2)).off + 1, none⟩ = some (.int .i64 ((rd_T72 l0_1 (ji84)).f1))) (ds := []) (zl 26 0) (by kernel_rfl) rfl rfl ⟨(blk_cell BK203.out 0).trans rfl, (blk_cell BK203.out 1).trans rfl, (blk_cell BK193.out 0).trans rfl, (blk_cell BK193.out 1).trans rfl, ((HB.out.cell (World.block_lt_of_cell? w _ hw205_0)).trans hw205_0), ((HB.out.cell (World.block_lt_of_cell? w _ hw205_1)).trans hw205_1)⟩ (fun hHeld => ?_); refine with_tabW spec_StateOk.tab11 spec_StateOk.bits11 (fun HT_ HW_ => ?_)
             generalize w92.drew = w93 at BK193 BK203 HB hx205_0 hx205_1 hHeld ⊢
             refine zp 0 (some 67) (zl 26 1) ?_
             refine zt 1 (some 68) (zl 26 3) ?_
             refine zo 2 (some 69) (zl 26 7) (fun K hK => ?_)
             refine zgo #[.int .i64 ((rd_T72 l0_1 x5_2).f0)] Try.func72 ?_
             with_reducible refine (spec_l3Node.calls ((rd_T72 l0_1 x5_2).f0) true _ A81.out).mono ?_
             rintro e w' ⟨rfl, ⟨nd, rfl⟩⟩
             refine ⟨_, rfl, ?_⟩
             refine hK.out _ _ ⟨(blk_cell BK203.out 0).trans rfl, (blk_cell BK203.out 1).trans rfl, (blk_cell BK193.out 0).trans rfl, (blk_cell BK193.out 1).trans rfl, ((HB.out.cell (World.block_lt_of_cell? w _ hw205_0)).trans hw205_0), ((HB.out.cell (World.block_lt_of_cell? w _ hw205_1)).trans hw205_1)⟩ (fun hHeld => ?_)
             clear hK K
             refine zn ?_
             refine zp 3 (some 70) (zl 26 15) ?_
             refine zp 4 (some 71) (zl 26 31) ?_
             refine zp 5 (some 72) (zl 26 63) ?_
             refine zp 6 (some 73) (zl 26 127) ?_
             refine zp 7 (some 74) (zl 26 255) ?_
             refine zp 8 (some 75) (zl 26 511) ?_
             refine zp 10 (some 77) (zl 26 1535) ?_
             refine zp 12 (some 79) (zl 26 5631) ?_
             refine zp 13 (some 80) (zl 26 13823) ?_
             refine zt 9 (some 76) (zl 26 14335) ?_
             refine zt 11 (some 78) (zl 26 16383) ?_
             refine zp 14 (some 81) (zl 26 32767) ?_
             refine zp 15 (some 82) (zl 26 65535) ?_
             refine zt 16 (some 83) (zl 26 131071) ?_
             refine zp 17 (some 84) (zl 26 262143) ?_
             refine zp 18 (some 85) (zl 26 524287) ?_
             refine zp 19 (some 86) (zl 26 1048575) ?_
             refine zp 20 (some 87) (zl 26 2097151) ?_
             refine zp 21 (some 88) (zl 26 4194303) ?_
             refine zp 22 (some 89) (zl 26 8388607) ?_
             refine zp 23 (some 90) (zl 26 16777215) ?_
             refine zp 24 (some 91) (zl 26 33554431) ?_
             refine zp 25 (some 92) (zl 26 67108863) ?_
             refine done_ (done_of HT_.out (by kernel_rfl)) ?_
             try go_wp2
             go_ret
             exact ⟨by first | rfl | (simp [errW_none, errW_some] <;> rfl) | (simp only [← hji84]; first | rfl | (simp [errW_none, errW_some] <;> rfl)) | (simp [*, errW_none, errW_some] <;> rfl), zB⟩
            ·rw [if_neg c87] at H
             have c87b0 : decide (((rd_T72 l0_1 x5_2).f0) ≤ ((rd_T72 l0_1 (ji84)).f0)) = false := decide_eq_false c87
             clear c87
             replace H := Option.bind_eq_some_iff.mp H
             obtain ⟨t206, A940, H⟩ := H
             replace H : (if t206 = true then (spec_StateOk.l1 k2 (wrap64 (x5_2 + 1)) l0_0 l0_1) else (some false)) = some r := H
             have A94 := zm A940
             clear A940
             by_cases c95 : t206 = true
             ·subst c95
              have H1 : (spec_StateOk.l1 k2 (wrap64 (x5_2 + 1)) l0_0 l0_1) = some r := by rw [if_pos rfl] at H; exact H
              clear H
              have H := H1
              clear H1
              have H' := zm H
              clear H
              have hcz96_0 : wr.cell? ⟨gb193, 0, none⟩ = some (.slice A0_0 l0_0.length c0_0) := (blk_cell BK193.out 0).trans rfl
              have hcz96_1 : wr.cell? ⟨gb193, 1, none⟩ = some (.slice A0_1 l0_1.length c0_1) := (blk_cell BK193.out 1).trans rfl
              have hfz96_0 := blk_frozen BK193.out 0
              have hfz96_1 := blk_frozen BK193.out 1
              have p202 : 0 ≤ (x5_2 : Int) := zd
              have q202 : x5_2 < (l0_1.length : Int) := zd
              obtain ⟨ad202, e202, hx202_0, hx202_1⟩ := at_T72 (Kd.C_below HR0_1.out HB.out) x5_2 p202 q202
              cases e202
              replace p202 := eq_true p202
              replace q202 := eq_true q202
              try go_wp2_with (first | ((with_reducible refine gate_dst (N := 6) rfl ?_); refine zbox 6 #[.int .i64 0, .int .i64 0] 72 ?_; intro gb203 hg w97 hbox hb; have BK203 := zm (hbox); have GW203 := zge w hg zB; have GE203 := zge w hg zB; replace HB := zm (below_step zB hb); have NB193_203 := zlt hg (zb BK193); have NB203_193 := zgt hg (zb BK193); replace BK193 := zm (blk_below (zb BK193) hb); clear hb hbox hg; have hnb98 := NB203_193.out; have hnc98 := NB193_203.out; have hcz99_0 : w97.cell? ⟨gb203, 0, none⟩ = some (.int .i64 0) := (blk_cell BK203.out 0).trans rfl; have hcz99_1 : w97.cell? ⟨gb203, 1, none⟩ = some (.int .i64 0) := (blk_cell BK203.out 1).trans rfl; have hfz99_0 := blk_frozen BK203.out 0; have hfz99_1 := blk_frozen BK203.out 1))
              obtain ⟨w100, hW_⟩ : ∃ q, q = ((w97.setCell ⟨gb203, 0, none⟩ (.int .i64 ((rd_T72 l0_1 x5_2).f0))).setCell ⟨gb203, 1, none⟩ (.int .i64 ((rd_T72 l0_1 x5_2).f1))) := ⟨_, rfl⟩
              have n0_ : Aside0 (w100.heap[gb193]? = some (.cells #[.slice A0_0 l0_0.length c0_0, .slice (some ad202) l0_1.length c0_1] 32 (0, 0))) := ⟨by rw [hW_]; exact zfar (zfar (zb BK193) NB193_203) NB193_203⟩
              have n1_ : Aside0 (w100.heap[gb203]? = some (.cells #[.int .i64 ((rd_T72 l0_1 x5_2).f0), .int .i64 ((rd_T72 l0_1 x5_2).f1)] 72 (0, 0))) := ⟨by rw [hW_]; exact zput (zput (zb BK203) 0) 1⟩
              have n2_ : Aside0 (Below w.heap.size w w100) := ⟨by rw [hW_]; exact zB⟩
              rw [← hW_]
              clear hW_
              (try clear BK193)
              (try clear BK203)
              (try clear HB)
              have BK193 := n0_
              have BK203 := n1_
              have HB := n2_
              clear n0_ n1_ n2_
              replace BK193 := zm (blk_drew BK193.out)
              replace BK203 := zm (blk_drew BK203.out)
              replace HB := zm (below_drew1 HB.out)
              have p205 : 0 ≤ ((ji84) : Int) := zd
              have q205 : (ji84) < (l0_1.length : Int) := zd
              obtain ⟨ad205, e205, hx205_0, hx205_1⟩ := at_T72 HR0_1.out (ji84) p205 q205
              have hw205_1 := hx205_1
              have hw205_0 := hx205_0
              obtain rfl : ad202 = ad205 := (by injection e205)
              replace hx205_0 := (HB.out.cell (World.block_lt_of_cell? w _ hx205_0)).trans hx205_0
              replace hx205_1 := (HB.out.cell (World.block_lt_of_cell? w _ hx205_1)).trans hx205_1
              replace p205 := eq_true p205
              replace q205 := eq_true q205
              refine start_ (n := 26) (S := fun w' => w'.cell? ⟨gb203, 0, none⟩ = some (.int .i64 ((rd_T72 l0_1 x5_2).f0)) ∧ w'.cell? ⟨gb203, 1, none⟩ = some (.int .i64 ((rd_T72 l0_1 x5_2).f1)) ∧ w'.cell? ⟨gb193, 0, none⟩ = some (.slice A0_0 l0_0.length c0_0) ∧ w'.cell? ⟨gb193, 1, none⟩ = some (.slice (some ad202) l0_1.length c0_1) ∧ w'.cell? (ad202.add (((ji84)).toNat * 2)) = some (.int .i64 ((rd_T72 l0_1 (ji84)).f0)) ∧ w'.cell? ⟨(ad202.add (((ji84)).toNat * 2)).block, (ad202.add (((ji84)).toNat * 2)).off + 1, none⟩ = some (.int .i64 ((rd_T72 l0_1 (ji84)).f1))) (ds := []) (zl 26 0) (by kernel_rfl) rfl rfl ⟨(blk_cell BK203.out 0).trans rfl, (blk_cell BK203.out 1).trans rfl, (blk_cell BK193.out 0).trans rfl, (blk_cell BK193.out 1).trans rfl, ((HB.out.cell (World.block_lt_of_cell? w _ hw205_0)).trans hw205_0), ((HB.out.cell (World.block_lt_of_cell? w _ hw205_1)).trans hw205_1)⟩ (fun hHeld => ?_); refine with_tabW spec_StateOk.tab11 spec_StateOk.bits11 (fun HT_ HW_ => ?_)
              generalize w100.drew = w101 at BK193 BK203 HB hx205_0 hx205_1 hHeld ⊢
              refine zp 0 (some 67) (zl 26 1) ?_
              refine zt 1 (some 68) (zl 26 3) ?_
              refine zo 2 (some 69) (zl 26 7) (fun K hK => ?_)
              refine zgo #[.int .i64 ((rd_T72 l0_1 x5_2).f0)] Try.func72 ?_
              with_reducible refine (spec_l3Node.calls ((rd_T72 l0_1 x5_2).f0) true _ A81.out).mono ?_
              rintro e w' ⟨rfl, ⟨nd, rfl⟩⟩
              refine ⟨_, rfl, ?_⟩
              refine hK.out _ _ ⟨(blk_cell BK203.out 0).trans rfl, (blk_cell BK203.out 1).trans rfl, (blk_cell BK193.out 0).trans rfl, (blk_cell BK193.out 1).trans rfl, ((HB.out.cell (World.block_lt_of_cell? w _ hw205_0)).trans hw205_0), ((HB.out.cell (World.block_lt_of_cell? w _ hw205_1)).trans hw205_1)⟩ (fun hHeld => ?_)
              clear hK K
              refine zn ?_
              refine zp 3 (some 70) (zl 26 15) ?_
              refine zp 4 (some 71) (zl 26 31) ?_
              refine zp 5 (some 72) (zl 26 63) ?_
              refine zp 6 (some 73) (zl 26 127) ?_
              refine zp 7 (some 74) (zl 26 255) ?_
              refine zp 8 (some 75) (zl 26 511) ?_
              refine zp 10 (some 77) (zl 26 1535) ?_
              refine zp 12 (some 79) (zl 26 5631) ?_
              refine zp 13 (some 80) (zl 26 13823) ?_
              refine zt 9 (some 76) (zl 26 14335) ?_
              refine zt 11 (some 78) (zl 26 16383) ?_
              refine zp 14 (some 81) (zl 26 32767) ?_
              refine zp 15 (some 82) (zl 26 65535) ?_
              refine zt 16 (some 83) (zl 26 131071) ?_
              refine zp 17 (some 84) (zl 26 262143) ?_
              refine zp 18 (some 85) (zl 26 524287) ?_
              refine zp 19 (some 86) (zl 26 1048575) ?_
              refine zp 20 (some 87) (zl 26 2097151) ?_
              refine zp 21 (some 88) (zl 26 4194303) ?_
              refine zt 22 (some 89) (zl 26 8388607) ?_
              refine zo 23 (some 90) (zl 26 16777215) (fun K hK => ?_)
              refine zgo #[.int .i64 ((rd_T72 l0_1 x5_2).f1), .int .i64 1, .int .i64 1000] Try.func61 ?_
              with_reducible refine (spec_l1In.calls ((rd_T72 l0_1 x5_2).f1) 1 1000 true _ A94.out).mono ?_
              rintro e w' ⟨rfl, ⟨nd, rfl⟩⟩
              refine ⟨_, rfl, ?_⟩
              refine hK.out _ _ ⟨(blk_cell BK203.out 0).trans rfl, (blk_cell BK203.out 1).trans rfl, (blk_cell BK193.out 0).trans rfl, (blk_cell BK193.out 1).trans rfl, ((HB.out.cell (World.block_lt_of_cell? w _ hw205_0)).trans hw205_0), ((HB.out.cell (World.block_lt_of_cell? w _ hw205_1)).trans hw205_1)⟩ (fun hHeld => ?_)
              clear hK K
              refine zn ?_
              refine zp 24 (some 91) (zl 26 33554431) ?_
              refine zp 25 (some 92) (zl 26 67108863) ?_
              refine done_ (done_of HT_.out (by kernel_rfl)) ?_
              try go_wp2
              go_roundg k2
              case measure => have := HK1.out; have := HK2.out; omega
              case rel => exact ⟨(wrap64 (x5_2 + 1)), zF, H', ⟨by have := HK1.out; have := HK2.out; omega⟩, ⟨zb BK193⟩, ⟨zB⟩⟩
             ·replace c95 := Bool.eq_false_iff.mpr c95
              subst c95
              have H1 : (some false) = some r := by rw [if_neg (show ¬ (false = true) by decide)] at H; exact H
              clear H
              have H := H1
              clear H1
              obtain rfl := Option.some.inj H
              have hcz102_0 : wr.cell? ⟨gb193, 0, none⟩ = some (.slice A0_0 l0_0.length c0_0) := (blk_cell BK193.out 0).trans rfl
              have hcz102_1 : wr.cell? ⟨gb193, 1, none⟩ = some (.slice A0_1 l0_1.length c0_1) := (blk_cell BK193.out 1).trans rfl
              have hfz102_0 := blk_frozen BK193.out 0
              have hfz102_1 := blk_frozen BK193.out 1
              have p202 : 0 ≤ (x5_2 : Int) := zd
              have q202 : x5_2 < (l0_1.length : Int) := zd
              obtain ⟨ad202, e202, hx202_0, hx202_1⟩ := at_T72 (Kd.C_below HR0_1.out HB.out) x5_2 p202 q202
              cases e202
              replace p202 := eq_true p202
              replace q202 := eq_true q202
              try go_wp2_with (first | ((with_reducible refine gate_dst (N := 6) rfl ?_); refine zbox 6 #[.int .i64 0, .int .i64 0] 72 ?_; intro gb203 hg w103 hbox hb; have BK203 := zm (hbox); have GW203 := zge w hg zB; have GE203 := zge w hg zB; replace HB := zm (below_step zB hb); have NB193_203 := zlt hg (zb BK193); have NB203_193 := zgt hg (zb BK193); replace BK193 := zm (blk_below (zb BK193) hb); clear hb hbox hg; have hnb104 := NB203_193.out; have hnc104 := NB193_203.out; have hcz105_0 : w103.cell? ⟨gb203, 0, none⟩ = some (.int .i64 0) := (blk_cell BK203.out 0).trans rfl; have hcz105_1 : w103.cell? ⟨gb203, 1, none⟩ = some (.int .i64 0) := (blk_cell BK203.out 1).trans rfl; have hfz105_0 := blk_frozen BK203.out 0; have hfz105_1 := blk_frozen BK203.out 1))
              obtain ⟨w106, hW_⟩ : ∃ q, q = ((w103.setCell ⟨gb203, 0, none⟩ (.int .i64 ((rd_T72 l0_1 x5_2).f0))).setCell ⟨gb203, 1, none⟩ (.int .i64 ((rd_T72 l0_1 x5_2).f1))) := ⟨_, rfl⟩
              have n0_ : Aside0 (w106.heap[gb193]? = some (.cells #[.slice A0_0 l0_0.length c0_0, .slice (some ad202) l0_1.length c0_1] 32 (0, 0))) := ⟨by rw [hW_]; exact zfar (zfar (zb BK193) NB193_203) NB193_203⟩
              have n1_ : Aside0 (w106.heap[gb203]? = some (.cells #[.int .i64 ((rd_T72 l0_1 x5_2).f0), .int .i64 ((rd_T72 l0_1 x5_2).f1)] 72 (0, 0))) := ⟨by rw [hW_]; exact zput (zput (zb BK203) 0) 1⟩
              have n2_ : Aside0 (Below w.heap.size w w106) := ⟨by rw [hW_]; exact zB⟩
              rw [← hW_]
              clear hW_
              (try clear BK193)
              (try clear BK203)
              (try clear HB)
              have BK193 := n0_
              have BK203 := n1_
              have HB := n2_
              clear n0_ n1_ n2_
              replace BK193 := zm (blk_drew BK193.out)
              replace BK203 := zm (blk_drew BK203.out)
              replace HB := zm (below_drew1 HB.out)
              have p205 : 0 ≤ ((ji84) : Int) := zd
              have q205 : (ji84) < (l0_1.length : Int) := zd
              obtain ⟨ad205, e205, hx205_0, hx205_1⟩ := at_T72 HR0_1.out (ji84) p205 q205
              have hw205_1 := hx205_1
              have hw205_0 := hx205_0
              obtain rfl : ad202 = ad205 := (by injection e205)
              replace hx205_0 := (HB.out.cell (World.block_lt_of_cell? w _ hx205_0)).trans hx205_0
              replace hx205_1 := (HB.out.cell (World.block_lt_of_cell? w _ hx205_1)).trans hx205_1
              replace p205 := eq_true p205
              replace q205 := eq_true q205
              refine start_ (n := 26) (S := fun w' => w'.cell? ⟨gb203, 0, none⟩ = some (.int .i64 ((rd_T72 l0_1 x5_2).f0)) ∧ w'.cell? ⟨gb203, 1, none⟩ = some (.int .i64 ((rd_T72 l0_1 x5_2).f1)) ∧ w'.cell? ⟨gb193, 0, none⟩ = some (.slice A0_0 l0_0.length c0_0) ∧ w'.cell? ⟨gb193, 1, none⟩ = some (.slice (some ad202) l0_1.length c0_1) ∧ w'.cell? (ad202.add (((ji84)).toNat * 2)) = some (.int .i64 ((rd_T72 l0_1 (ji84)).f0)) ∧ w'.cell? ⟨(ad202.add (((ji84)).toNat * 2)).block, (ad202.add (((ji84)).toNat * 2)).off + 1, none⟩ = some (.int .i64 ((rd_T72 l0_1 (ji84)).f1))) (ds := []) (zl 26 0) (by kernel_rfl) rfl rfl ⟨(blk_cell BK203.out 0).trans rfl, (blk_cell BK203.out 1).trans rfl, (blk_cell BK193.out 0).trans rfl, (blk_cell BK193.out 1).trans rfl, ((HB.out.cell (World.block_lt_of_cell? w _ hw205_0)).trans hw205_0), ((HB.out.cell (World.block_lt_of_cell? w _ hw205_1)).trans hw205_1)⟩ (fun hHeld => ?_); refine with_tabW spec_StateOk.tab11 spec_StateOk.bits11 (fun HT_ HW_ => ?_)
              generalize w106.drew = w107 at BK193 BK203 HB hx205_0 hx205_1 hHeld ⊢
              refine zp 0 (some 67) (zl 26 1) ?_
              refine zt 1 (some 68) (zl 26 3) ?_
              refine zo 2 (some 69) (zl 26 7) (fun K hK => ?_)
              refine zgo #[.int .i64 ((rd_T72 l0_1 x5_2).f0)] Try.func72 ?_
              with_reducible refine (spec_l3Node.calls ((rd_T72 l0_1 x5_2).f0) true _ A81.out).mono ?_
              rintro e w' ⟨rfl, ⟨nd, rfl⟩⟩
              refine ⟨_, rfl, ?_⟩
              refine hK.out _ _ ⟨(blk_cell BK203.out 0).trans rfl, (blk_cell BK203.out 1).trans rfl, (blk_cell BK193.out 0).trans rfl, (blk_cell BK193.out 1).trans rfl, ((HB.out.cell (World.block_lt_of_cell? w _ hw205_0)).trans hw205_0), ((HB.out.cell (World.block_lt_of_cell? w _ hw205_1)).trans hw205_1)⟩ (fun hHeld => ?_)
              clear hK K
              refine zn ?_
              refine zp 3 (some 70) (zl 26 15) ?_
              refine zp 4 (some 71) (zl 26 31) ?_
              refine zp 5 (some 72) (zl 26 63) ?_
              refine zp 6 (some 73) (zl 26 127) ?_
              refine zp 7 (some 74) (zl 26 255) ?_
              refine zp 8 (some 75) (zl 26 511) ?_
              refine zp 10 (some 77) (zl 26 1535) ?_
              refine zp 12 (some 79) (zl 26 5631) ?_
              refine zp 13 (some 80) (zl 26 13823) ?_
              refine zt 9 (some 76) (zl 26 14335) ?_
              refine zt 11 (some 78) (zl 26 16383) ?_
              refine zp 14 (some 81) (zl 26 32767) ?_
              refine zp 15 (some 82) (zl 26 65535) ?_
              refine zt 16 (some 83) (zl 26 131071) ?_
              refine zp 17 (some 84) (zl 26 262143) ?_
              refine zp 18 (some 85) (zl 26 524287) ?_
              refine zp 19 (some 86) (zl 26 1048575) ?_
              refine zp 20 (some 87) (zl 26 2097151) ?_
              refine zp 21 (some 88) (zl 26 4194303) ?_
              refine zt 22 (some 89) (zl 26 8388607) ?_
              refine zo 23 (some 90) (zl 26 16777215) (fun K hK => ?_)
              refine zgo #[.int .i64 ((rd_T72 l0_1 x5_2).f1), .int .i64 1, .int .i64 1000] Try.func61 ?_
              with_reducible refine (spec_l1In.calls ((rd_T72 l0_1 x5_2).f1) 1 1000 false _ A94.out).mono ?_
              rintro e w' ⟨rfl, ⟨nd, rfl⟩⟩
              refine ⟨_, rfl, ?_⟩
              refine hK.out _ _ ⟨(blk_cell BK203.out 0).trans rfl, (blk_cell BK203.out 1).trans rfl, (blk_cell BK193.out 0).trans rfl, (blk_cell BK193.out 1).trans rfl, ((HB.out.cell (World.block_lt_of_cell? w _ hw205_0)).trans hw205_0), ((HB.out.cell (World.block_lt_of_cell? w _ hw205_1)).trans hw205_1)⟩ (fun hHeld => ?_)
              clear hK K
              refine zn ?_
              refine zp 24 (some 91) (zl 26 33554431) ?_
              refine zp 25 (some 92) (zl 26 67108863) ?_
              refine done_ (done_of HT_.out (by kernel_rfl)) ?_
              try go_wp2
              go_ret
              exact ⟨by first | rfl | (simp [errW_none, errW_some] <;> rfl) | (simp only [← hji84]; first | rfl | (simp [errW_none, errW_some] <;> rfl)) | (simp [*, errW_none, errW_some] <;> rfl), zB⟩
           ·rw [if_neg c86] at H
            exact absurd H (by simp)
          ·rw [if_neg c85] at H
           exact absurd H (by simp)
         ·rw [if_neg c83] at H
          have c83b0 : decide (0 < x5_2) = false := decide_eq_false c83
          clear c83
          replace H := Option.bind_eq_some_iff.mp H
          obtain ⟨t207, A1080, H⟩ := H
          replace H : (if t207 = true then (spec_StateOk.l1 k2 (wrap64 (x5_2 + 1)) l0_0 l0_1) else (some false)) = some r := H
          have A108 := zm A1080
          clear A1080
          by_cases c109 : t207 = true
          ·subst c109
           have H1 : (spec_StateOk.l1 k2 (wrap64 (x5_2 + 1)) l0_0 l0_1) = some r := by rw [if_pos rfl] at H; exact H
           clear H
           have H := H1
           clear H1
           have H' := zm H
           clear H
           have hcz110_0 : wr.cell? ⟨gb193, 0, none⟩ = some (.slice A0_0 l0_0.length c0_0) := (blk_cell BK193.out 0).trans rfl
           have hcz110_1 : wr.cell? ⟨gb193, 1, none⟩ = some (.slice A0_1 l0_1.length c0_1) := (blk_cell BK193.out 1).trans rfl
           have hfz110_0 := blk_frozen BK193.out 0
           have hfz110_1 := blk_frozen BK193.out 1
           have p202 : 0 ≤ (x5_2 : Int) := zd
           have q202 : x5_2 < (l0_1.length : Int) := zd
           obtain ⟨ad202, e202, hx202_0, hx202_1⟩ := at_T72 (Kd.C_below HR0_1.out HB.out) x5_2 p202 q202
           cases e202
           replace p202 := eq_true p202
           replace q202 := eq_true q202
           try go_wp2_with (first | ((with_reducible refine gate_dst (N := 6) rfl ?_); refine zbox 6 #[.int .i64 0, .int .i64 0] 72 ?_; intro gb203 hg w111 hbox hb; have BK203 := zm (hbox); have GW203 := zge w hg zB; have GE203 := zge w hg zB; replace HB := zm (below_step zB hb); have NB193_203 := zlt hg (zb BK193); have NB203_193 := zgt hg (zb BK193); replace BK193 := zm (blk_below (zb BK193) hb); clear hb hbox hg; have hnb112 := NB203_193.out; have hnc112 := NB193_203.out; have hcz113_0 : w111.cell? ⟨gb203, 0, none⟩ = some (.int .i64 0) := (blk_cell BK203.out 0).trans rfl; have hcz113_1 : w111.cell? ⟨gb203, 1, none⟩ = some (.int .i64 0) := (blk_cell BK203.out 1).trans rfl; have hfz113_0 := blk_frozen BK203.out 0; have hfz113_1 := blk_frozen BK203.out 1))
           obtain ⟨w114, hW_⟩ : ∃ q, q = ((w111.setCell ⟨gb203, 0, none⟩ (.int .i64 ((rd_T72 l0_1 x5_2).f0))).setCell ⟨gb203, 1, none⟩ (.int .i64 ((rd_T72 l0_1 x5_2).f1))) := ⟨_, rfl⟩
           have n0_ : Aside0 (w114.heap[gb193]? = some (.cells #[.slice A0_0 l0_0.length c0_0, .slice (some ad202) l0_1.length c0_1] 32 (0, 0))) := ⟨by rw [hW_]; exact zfar (zfar (zb BK193) NB193_203) NB193_203⟩
           have n1_ : Aside0 (w114.heap[gb203]? = some (.cells #[.int .i64 ((rd_T72 l0_1 x5_2).f0), .int .i64 ((rd_T72 l0_1 x5_2).f1)] 72 (0, 0))) := ⟨by rw [hW_]; exact zput (zput (zb BK203) 0) 1⟩
           have n2_ : Aside0 (Below w.heap.size w w114) := ⟨by rw [hW_]; exact zB⟩
           rw [← hW_]
           clear hW_
           (try clear BK193)
           (try clear BK203)
           (try clear HB)
           have BK193 := n0_
           have BK203 := n1_
           have HB := n2_
           clear n0_ n1_ n2_
           replace BK193 := zm (blk_drew BK193.out)
           replace BK203 := zm (blk_drew BK203.out)
           replace HB := zm (below_drew1 HB.out)
           refine start_ (n := 26) (S := fun w' => w'.cell? ⟨gb203, 0, none⟩ = some (.int .i64 ((rd_T72 l0_1 x5_2).f0)) ∧ w'.cell? ⟨gb203, 1, none⟩ = some (.int .i64 ((rd_T72 l0_1 x5_2).f1))) (ds := []) (zl 26 0) (by kernel_rfl) rfl rfl ⟨(blk_cell BK203.out 0).trans rfl, (blk_cell BK203.out 1).trans rfl⟩ (fun hHeld => ?_); refine with_tabW spec_StateOk.tab11 spec_StateOk.bits11 (fun HT_ HW_ => ?_)
           generalize w114.drew = w115 at BK193 BK203 HB hHeld ⊢
           refine zp 0 (some 67) (zl 26 1) ?_
           refine zt 1 (some 68) (zl 26 3) ?_
           refine zo 2 (some 69) (zl 26 7) (fun K hK => ?_)
           refine zgo #[.int .i64 ((rd_T72 l0_1 x5_2).f0)] Try.func72 ?_
           with_reducible refine (spec_l3Node.calls ((rd_T72 l0_1 x5_2).f0) true _ A81.out).mono ?_
           rintro e w' ⟨rfl, ⟨nd, rfl⟩⟩
           refine ⟨_, rfl, ?_⟩
           refine hK.out _ _ ⟨(blk_cell BK203.out 0).trans rfl, (blk_cell BK203.out 1).trans rfl⟩ (fun hHeld => ?_)
           clear hK K
           refine zn ?_
           refine zp 3 (some 70) (zl 26 15) ?_
           refine zp 4 (some 71) (zl 26 31) ?_
           refine zp 5 (some 72) (zl 26 63) ?_
           refine zp 6 (some 73) (zl 26 127) ?_
           refine zp 7 (some 74) (zl 26 255) ?_
           refine zp 8 (some 75) (zl 26 511) ?_
           refine zp 9 (some 76) (zl 26 1023) ?_
           refine zp 10 (some 77) (zl 26 2047) ?_
           refine zp 11 (some 78) (zl 26 4095) ?_
           refine zp 12 (some 79) (zl 26 8191) ?_
           refine zp 13 (some 80) (zl 26 16383) ?_
           refine zp 14 (some 81) (zl 26 32767) ?_
           refine zp 15 (some 82) (zl 26 65535) ?_
           refine zp 16 (some 83) (zl 26 131071) ?_
           refine zp 17 (some 84) (zl 26 262143) ?_
           refine zp 18 (some 85) (zl 26 524287) ?_
           refine zp 19 (some 86) (zl 26 1048575) ?_
           refine zp 20 (some 87) (zl 26 2097151) ?_
           refine zp 21 (some 88) (zl 26 4194303) ?_
           refine zt 22 (some 89) (zl 26 8388607) ?_
           refine zo 23 (some 90) (zl 26 16777215) (fun K hK => ?_)
           refine zgo #[.int .i64 ((rd_T72 l0_1 x5_2).f1), .int .i64 1, .int .i64 1000] Try.func61 ?_
           with_reducible refine (spec_l1In.calls ((rd_T72 l0_1 x5_2).f1) 1 1000 true _ A108.out).mono ?_
           rintro e w' ⟨rfl, ⟨nd, rfl⟩⟩
           refine ⟨_, rfl, ?_⟩
           refine hK.out _ _ ⟨(blk_cell BK203.out 0).trans rfl, (blk_cell BK203.out 1).trans rfl⟩ (fun hHeld => ?_)
           clear hK K
           refine zn ?_
           refine zp 24 (some 91) (zl 26 33554431) ?_
           refine zp 25 (some 92) (zl 26 67108863) ?_
           refine done_ (done_of HT_.out (by kernel_rfl)) ?_
           try go_wp2
           go_roundg k2
           case measure => have := HK1.out; have := HK2.out; omega
           case rel => exact ⟨(wrap64 (x5_2 + 1)), zF, H', ⟨by have := HK1.out; have := HK2.out; omega⟩, ⟨zb BK193⟩, ⟨zB⟩⟩
          ·replace c109 := Bool.eq_false_iff.mpr c109
           subst c109
           have H1 : (some false) = some r := by rw [if_neg (show ¬ (false = true) by decide)] at H; exact H
           clear H
           have H := H1
           clear H1
           obtain rfl := Option.some.inj H
           have hcz116_0 : wr.cell? ⟨gb193, 0, none⟩ = some (.slice A0_0 l0_0.length c0_0) := (blk_cell BK193.out 0).trans rfl
           have hcz116_1 : wr.cell? ⟨gb193, 1, none⟩ = some (.slice A0_1 l0_1.length c0_1) := (blk_cell BK193.out 1).trans rfl
           have hfz116_0 := blk_frozen BK193.out 0
           have hfz116_1 := blk_frozen BK193.out 1
           have p202 : 0 ≤ (x5_2 : Int) := zd
           have q202 : x5_2 < (l0_1.length : Int) := zd
           obtain ⟨ad202, e202, hx202_0, hx202_1⟩ := at_T72 (Kd.C_below HR0_1.out HB.out) x5_2 p202 q202
           cases e202
           replace p202 := eq_true p202
           replace q202 := eq_true q202
           try go_wp2_with (first | ((with_reducible refine gate_dst (N := 6) rfl ?_); refine zbox 6 #[.int .i64 0, .int .i64 0] 72 ?_; intro gb203 hg w117 hbox hb; have BK203 := zm (hbox); have GW203 := zge w hg zB; have GE203 := zge w hg zB; replace HB := zm (below_step zB hb); have NB193_203 := zlt hg (zb BK193); have NB203_193 := zgt hg (zb BK193); replace BK193 := zm (blk_below (zb BK193) hb); clear hb hbox hg; have hnb118 := NB203_193.out; have hnc118 := NB193_203.out; have hcz119_0 : w117.cell? ⟨gb203, 0, none⟩ = some (.int .i64 0) := (blk_cell BK203.out 0).trans rfl; have hcz119_1 : w117.cell? ⟨gb203, 1, none⟩ = some (.int .i64 0) := (blk_cell BK203.out 1).trans rfl; have hfz119_0 := blk_frozen BK203.out 0; have hfz119_1 := blk_frozen BK203.out 1))
           obtain ⟨w120, hW_⟩ : ∃ q, q = ((w117.setCell ⟨gb203, 0, none⟩ (.int .i64 ((rd_T72 l0_1 x5_2).f0))).setCell ⟨gb203, 1, none⟩ (.int .i64 ((rd_T72 l0_1 x5_2).f1))) := ⟨_, rfl⟩
           have n0_ : Aside0 (w120.heap[gb193]? = some (.cells #[.slice A0_0 l0_0.length c0_0, .slice (some ad202) l0_1.length c0_1] 32 (0, 0))) := ⟨by rw [hW_]; exact zfar (zfar (zb BK193) NB193_203) NB193_203⟩
           have n1_ : Aside0 (w120.heap[gb203]? = some (.cells #[.int .i64 ((rd_T72 l0_1 x5_2).f0), .int .i64 ((rd_T72 l0_1 x5_2).f1)] 72 (0, 0))) := ⟨by rw [hW_]; exact zput (zput (zb BK203) 0) 1⟩
           have n2_ : Aside0 (Below w.heap.size w w120) := ⟨by rw [hW_]; exact zB⟩
           rw [← hW_]
           clear hW_
           (try clear BK193)
           (try clear BK203)
           (try clear HB)
           have BK193 := n0_
           have BK203 := n1_
           have HB := n2_
           clear n0_ n1_ n2_
           replace BK193 := zm (blk_drew BK193.out)
           replace BK203 := zm (blk_drew BK203.out)
           replace HB := zm (below_drew1 HB.out)
           refine start_ (n := 26) (S := fun w' => w'.cell? ⟨gb203, 0, none⟩ = some (.int .i64 ((rd_T72 l0_1 x5_2).f0)) ∧ w'.cell? ⟨gb203, 1, none⟩ = some (.int .i64 ((rd_T72 l0_1 x5_2).f1))) (ds := []) (zl 26 0) (by kernel_rfl) rfl rfl ⟨(blk_cell BK203.out 0).trans rfl, (blk_cell BK203.out 1).trans rfl⟩ (fun hHeld => ?_); refine with_tabW spec_StateOk.tab11 spec_StateOk.bits11 (fun HT_ HW_ => ?_)
           generalize w120.drew = w121 at BK193 BK203 HB hHeld ⊢
           refine zp 0 (some 67) (zl 26 1) ?_
           refine zt 1 (some 68) (zl 26 3) ?_
           refine zo 2 (some 69) (zl 26 7) (fun K hK => ?_)
           refine zgo #[.int .i64 ((rd_T72 l0_1 x5_2).f0)] Try.func72 ?_
           with_reducible refine (spec_l3Node.calls ((rd_T72 l0_1 x5_2).f0) true _ A81.out).mono ?_
           rintro e w' ⟨rfl, ⟨nd, rfl⟩⟩
           refine ⟨_, rfl, ?_⟩
           refine hK.out _ _ ⟨(blk_cell BK203.out 0).trans rfl, (blk_cell BK203.out 1).trans rfl⟩ (fun hHeld => ?_)
           clear hK K
           refine zn ?_
           refine zp 3 (some 70) (zl 26 15) ?_
           refine zp 4 (some 71) (zl 26 31) ?_
           refine zp 5 (some 72) (zl 26 63) ?_
           refine zp 6 (some 73) (zl 26 127) ?_
           refine zp 7 (some 74) (zl 26 255) ?_
           refine zp 8 (some 75) (zl 26 511) ?_
           refine zp 9 (some 76) (zl 26 1023) ?_
           refine zp 10 (some 77) (zl 26 2047) ?_
           refine zp 11 (some 78) (zl 26 4095) ?_
           refine zp 12 (some 79) (zl 26 8191) ?_
           refine zp 13 (some 80) (zl 26 16383) ?_
           refine zp 14 (some 81) (zl 26 32767) ?_
           refine zp 15 (some 82) (zl 26 65535) ?_
           refine zp 16 (some 83) (zl 26 131071) ?_
           refine zp 17 (some 84) (zl 26 262143) ?_
           refine zp 18 (some 85) (zl 26 524287) ?_
           refine zp 19 (some 86) (zl 26 1048575) ?_
           refine zp 20 (some 87) (zl 26 2097151) ?_
           refine zp 21 (some 88) (zl 26 4194303) ?_
           refine zt 22 (some 89) (zl 26 8388607) ?_
           refine zo 23 (some 90) (zl 26 16777215) (fun K hK => ?_)
           refine zgo #[.int .i64 ((rd_T72 l0_1 x5_2).f1), .int .i64 1, .int .i64 1000] Try.func61 ?_
           with_reducible refine (spec_l1In.calls ((rd_T72 l0_1 x5_2).f1) 1 1000 false _ A108.out).mono ?_
           rintro e w' ⟨rfl, ⟨nd, rfl⟩⟩
           refine ⟨_, rfl, ?_⟩
           refine hK.out _ _ ⟨(blk_cell BK203.out 0).trans rfl, (blk_cell BK203.out 1).trans rfl⟩ (fun hHeld => ?_)
           clear hK K
           refine zn ?_
           refine zp 24 (some 91) (zl 26 33554431) ?_
           refine zp 25 (some 92) (zl 26 67108863) ?_
           refine done_ (done_of HT_.out (by kernel_rfl)) ?_
           try go_wp2
           go_ret
           exact ⟨zE, zB⟩
        ·replace c82 := Bool.eq_false_iff.mpr c82
         subst c82
         have H1 : (some false) = some r := by rw [if_neg (show ¬ (false = true) by decide)] at H; exact H
         clear H
         have H := H1
         clear H1
         obtain rfl := Option.some.inj H
         have hcz122_0 : wr.cell? ⟨gb193, 0, none⟩ = some (.slice A0_0 l0_0.length c0_0) := (blk_cell BK193.out 0).trans rfl
         have hcz122_1 : wr.cell? ⟨gb193, 1, none⟩ = some (.slice A0_1 l0_1.length c0_1) := (blk_cell BK193.out 1).trans rfl
         have hfz122_0 := blk_frozen BK193.out 0
         have hfz122_1 := blk_frozen BK193.out 1
         have p202 : 0 ≤ (x5_2 : Int) := zd
         have q202 : x5_2 < (l0_1.length : Int) := zd
         obtain ⟨ad202, e202, hx202_0, hx202_1⟩ := at_T72 (Kd.C_below HR0_1.out HB.out) x5_2 p202 q202
         cases e202
         replace p202 := eq_true p202
         replace q202 := eq_true q202
         try go_wp2_with (first | ((with_reducible refine gate_dst (N := 6) rfl ?_); refine zbox 6 #[.int .i64 0, .int .i64 0] 72 ?_; intro gb203 hg w123 hbox hb; have BK203 := zm (hbox); have GW203 := zge w hg zB; have GE203 := zge w hg zB; replace HB := zm (below_step zB hb); have NB193_203 := zlt hg (zb BK193); have NB203_193 := zgt hg (zb BK193); replace BK193 := zm (blk_below (zb BK193) hb); clear hb hbox hg; have hnb124 := NB203_193.out; have hnc124 := NB193_203.out; have hcz125_0 : w123.cell? ⟨gb203, 0, none⟩ = some (.int .i64 0) := (blk_cell BK203.out 0).trans rfl; have hcz125_1 : w123.cell? ⟨gb203, 1, none⟩ = some (.int .i64 0) := (blk_cell BK203.out 1).trans rfl; have hfz125_0 := blk_frozen BK203.out 0; have hfz125_1 := blk_frozen BK203.out 1))
         obtain ⟨w126, hW_⟩ : ∃ q, q = ((w123.setCell ⟨gb203, 0, none⟩ (.int .i64 ((rd_T72 l0_1 x5_2).f0))).setCell ⟨gb203, 1, none⟩ (.int .i64 ((rd_T72 l0_1 x5_2).f1))) := ⟨_, rfl⟩
         have n0_ : Aside0 (w126.heap[gb193]? = some (.cells #[.slice A0_0 l0_0.length c0_0, .slice (some ad202) l0_1.length c0_1] 32 (0, 0))) := ⟨by rw [hW_]; exact zfar (zfar (zb BK193) NB193_203) NB193_203⟩
         have n1_ : Aside0 (w126.heap[gb203]? = some (.cells #[.int .i64 ((rd_T72 l0_1 x5_2).f0), .int .i64 ((rd_T72 l0_1 x5_2).f1)] 72 (0, 0))) := ⟨by rw [hW_]; exact zput (zput (zb BK203) 0) 1⟩
         have n2_ : Aside0 (Below w.heap.size w w126) := ⟨by rw [hW_]; exact zB⟩
         rw [← hW_]
         clear hW_
         (try clear BK193)
         (try clear BK203)
         (try clear HB)
         have BK193 := n0_
         have BK203 := n1_
         have HB := n2_
         clear n0_ n1_ n2_
         replace BK193 := zm (blk_drew BK193.out)
         replace BK203 := zm (blk_drew BK203.out)
         replace HB := zm (below_drew1 HB.out)
         refine start_ (n := 26) (S := fun w' => w'.cell? ⟨gb203, 0, none⟩ = some (.int .i64 ((rd_T72 l0_1 x5_2).f0)) ∧ w'.cell? ⟨gb203, 1, none⟩ = some (.int .i64 ((rd_T72 l0_1 x5_2).f1))) (ds := []) (zl 26 0) (by kernel_rfl) rfl rfl ⟨(blk_cell BK203.out 0).trans rfl, (blk_cell BK203.out 1).trans rfl⟩ (fun hHeld => ?_); refine with_tabW spec_StateOk.tab11 spec_StateOk.bits11 (fun HT_ HW_ => ?_)
         generalize w126.drew = w127 at BK193 BK203 HB hHeld ⊢
         refine zp 0 (some 67) (zl 26 1) ?_
         refine zt 1 (some 68) (zl 26 3) ?_
         refine zo 2 (some 69) (zl 26 7) (fun K hK => ?_)
         refine zgo #[.int .i64 ((rd_T72 l0_1 x5_2).f0)] Try.func72 ?_
         with_reducible refine (spec_l3Node.calls ((rd_T72 l0_1 x5_2).f0) false _ A81.out).mono ?_
         rintro e w' ⟨rfl, ⟨nd, rfl⟩⟩
         refine ⟨_, rfl, ?_⟩
         refine hK.out _ _ ⟨(blk_cell BK203.out 0).trans rfl, (blk_cell BK203.out 1).trans rfl⟩ (fun hHeld => ?_)
         clear hK K
         refine zn ?_
         refine zp 3 (some 70) (zl 26 15) ?_
         refine zp 4 (some 71) (zl 26 31) ?_
         refine zp 5 (some 72) (zl 26 63) ?_
         refine zp 6 (some 73) (zl 26 127) ?_
         refine zp 7 (some 74) (zl 26 255) ?_
         refine zp 8 (some 75) (zl 26 511) ?_
         refine zp 9 (some 76) (zl 26 1023) ?_
         refine zp 10 (some 77) (zl 26 2047) ?_
         refine zp 11 (some 78) (zl 26 4095) ?_
         refine zp 12 (some 79) (zl 26 8191) ?_
         refine zp 13 (some 80) (zl 26 16383) ?_
         refine zp 14 (some 81) (zl 26 32767) ?_
         refine zp 15 (some 82) (zl 26 65535) ?_
         refine zp 16 (some 83) (zl 26 131071) ?_
         refine zp 17 (some 84) (zl 26 262143) ?_
         refine zp 18 (some 85) (zl 26 524287) ?_
         refine zp 19 (some 86) (zl 26 1048575) ?_
         refine zp 20 (some 87) (zl 26 2097151) ?_
         refine zp 21 (some 88) (zl 26 4194303) ?_
         refine zp 22 (some 89) (zl 26 8388607) ?_
         refine zp 23 (some 90) (zl 26 16777215) ?_
         refine zp 24 (some 91) (zl 26 33554431) ?_
         refine zp 25 (some 92) (zl 26 67108863) ?_
         refine done_ (done_of HT_.out (by kernel_rfl)) ?_
         try go_wp2
         go_ret
         exact ⟨zE, zB⟩
       ·rw [if_neg c80] at H
        exact absurd H (by simp)
      ·rw [if_neg c79] at H
       have c79b0 : decide (x5_2 < (l0_1.length : Int)) = false := decide_eq_false c79
       clear c79
       obtain rfl := Option.some.inj H
       have hcz128_0 : wr.cell? ⟨gb193, 0, none⟩ = some (.slice A0_0 l0_0.length c0_0) := (blk_cell BK193.out 0).trans rfl
       have hcz128_1 : wr.cell? ⟨gb193, 1, none⟩ = some (.slice A0_1 l0_1.length c0_1) := (blk_cell BK193.out 1).trans rfl
       have hfz128_0 := blk_frozen BK193.out 0
       have hfz128_1 := blk_frozen BK193.out 1
       go_wp2
       go_ret
       exact ⟨zE, zB⟩

end Go.Proofs.Ytgapdegniepjiaa.P
