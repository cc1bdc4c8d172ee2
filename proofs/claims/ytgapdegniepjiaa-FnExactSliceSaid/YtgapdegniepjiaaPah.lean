-- by a program of this session, for this seat
import Derived.Test.YtgapdegniepjiaaZ
import Derived.Test.YtgapdegniepjiaaP0
import Derived.Test.YtgapdegniepjiaaPag
namespace Go.Proofs.Ytgapdegniepjiaa.P
open Go.RowKit Go.Proofs.YtgapdegniepjiaaW.PrintWords Go.Proofs.YtgapdegniepjiaaW.PrintLast Go.Proofs.YtgapdegniepjiaaW.PrintMore Go.Proofs.Ytgapdegniepjiaa.Z
attribute [local go_sem] max2_int min2_int max_two min_two max_three min_three max_four min_four   -- for this text's walks alone
set_option linter.unusedVariables false
set_option linter.unusedSimpArgs false

/-! ### impl_StateOk: function 53 -/
mutual
def impl_StateOk.l0 : Nat → List (S72) → Int → Int → List (S68) → List (S72) → Option (Bool)
 | 0, _, _, _, _, _ => none
 | k + 1, x8, x9, x10, x287000, x287001 => if x10 < x9 then (if 0 ≤ x10 then (if x10 < (x8.length : Int) then ((impl_isNode.f ((rd_T72 x8 x10).f0)).bind fun t289 => (if t289 = true then ((impl_within.f ((rd_T72 x8 x10).f1) 1 1000).bind fun t290 => (if t290 = true then (if x10 > 0 then (if 0 ≤ (wrap64 (x10 - 1)) then (if (wrap64 (x10 - 1)) < (x287001.length : Int) then (if ((rd_T72 x287001 (wrap64 (x10 - 1))).f0) ≥ ((rd_T72 x8 x10).f0) then (some false) else (impl_StateOk.l0 k x8 x9 (wrap64 (x10 + 1)) x287000 x287001)) else (none)) else (none)) else (impl_StateOk.l0 k x8 x9 (wrap64 (x10 + 1)) x287000 x287001)) else (some false))) else (some false))) else (none)) else (none)) else (impl_StateOk.l1 k x287000 (x287000.length : Int) 0 x287000 x287001)
def impl_StateOk.l1 : Nat → List (S68) → Int → Int → List (S68) → List (S72) → Option (Bool)
 | 0, _, _, _, _, _ => none
 | k + 1, x43, x44, x45, x287000, x287001 => if x45 < x44 then (if 0 ≤ x45 then (if x45 < (x43.length : Int) then ((impl_isNode.f ((rd_T68 x43 x45).f0)).bind fun t294 => (if t294 = true then ((impl_EntryOk.f ((rd_T68 x43 x45).f1.f0) ((rd_T68 x43 x45).f1.f1) ((rd_T68 x43 x45).f1.f2) ((rd_T68 x43 x45).f1.f3) ((rd_T68 x43 x45).f1.f4)).bind fun t295 => (if t295 = true then ((impl_FloorOf.f k x287000 x287001 ((rd_T68 x43 x45).f0)).bind fun t296 => (if ((rd_T68 x43 x45).f1.f0) ≤ t296 then (some false) else (if x45 > 0 then (if 0 ≤ (wrap64 (x45 - 1)) then (if (wrap64 (x45 - 1)) < (x287000.length : Int) then (if ((rd_T68 x287000 (wrap64 (x45 - 1))).f0) ≥ ((rd_T68 x43 x45).f0) then (some false) else (impl_StateOk.l1 k x43 x44 (wrap64 (x45 + 1)) x287000 x287001)) else (none)) else (none)) else (impl_StateOk.l1 k x43 x44 (wrap64 (x45 + 1)) x287000 x287001)))) else (some false))) else (some false))) else (none)) else (none)) else (some true)
end
def impl_StateOk.f (k : Nat) (l0_0 : List (S68)) (l0_1 : List (S72)) : Option (Bool) := impl_StateOk.l0 k l0_1 (l0_1.length : Int) 0 l0_0 l0_1
theorem impl_StateOk.mono_l : ∀ k, (∀ y0 y1 y2 y3 y4, LeO (impl_StateOk.l0 k y0 y1 y2 y3 y4) (impl_StateOk.l0 (k + 1) y0 y1 y2 y3 y4)) ∧ (∀ y0 y1 y2 y3 y4, LeO (impl_StateOk.l1 k y0 y1 y2 y3 y4) (impl_StateOk.l1 (k + 1) y0 y1 y2 y3 y4))
 | 0 => ⟨fun _ _ _ _ _ r h => by simp [impl_StateOk.l0] at h, fun _ _ _ _ _ r h => by simp [impl_StateOk.l1] at h⟩
 | k + 1 => by
  obtain ⟨ih0, ih1⟩ := impl_StateOk.mono_l k
  refine ⟨?_, ?_⟩
  ·intro y0 y1 y2 y3 y4
   unfold impl_StateOk.l0
   repeat' first
   | (with_reducible exact ih0 _ _ _ _ _)
   | (with_reducible exact ih1 _ _ _ _ _)
   | (with_reducible exact impl_FloorOf.mono _ _ _ _)
   | (with_reducible exact LeO.refl _)
   | (with_reducible exact LeO.none _)
   | (with_reducible refine LeO.ite ?_ ?_)
   | (with_reducible refine LeO.bind ?_ (fun _ => ?_))
   | exact ih0 _ _ _ _ _
   | exact ih1 _ _ _ _ _
   | exact impl_FloorOf.mono _ _ _ _
   | exact LeO.none _
   | refine LeO.ite ?_ ?_
   | refine LeO.bind ?_ (fun _ => ?_)
  ·intro y0 y1 y2 y3 y4
   unfold impl_StateOk.l1
   repeat' first
   | (with_reducible exact ih0 _ _ _ _ _)
   | (with_reducible exact ih1 _ _ _ _ _)
   | (with_reducible exact impl_FloorOf.mono _ _ _ _)
   | (with_reducible exact LeO.refl _)
   | (with_reducible exact LeO.none _)
   | (with_reducible refine LeO.ite ?_ ?_)
   | (with_reducible refine LeO.bind ?_ (fun _ => ?_))
   | exact ih0 _ _ _ _ _
   | exact ih1 _ _ _ _ _
   | exact impl_FloorOf.mono _ _ _ _
   | exact LeO.none _
   | refine LeO.ite ?_ ?_
   | refine LeO.bind ?_ (fun _ => ?_)
theorem impl_StateOk.mono : ∀ a0 a1 k, LeO (impl_StateOk.f k a0 a1) (impl_StateOk.f (k + 1) a0 a1) := by
 intro a0 a1 k
 obtain ⟨ih0, ih1⟩ := impl_StateOk.mono_l k
 unfold impl_StateOk.f
 repeat' first
   | (with_reducible exact ih0 _ _ _ _ _)
   | (with_reducible exact ih1 _ _ _ _ _)
   | (with_reducible exact impl_FloorOf.mono _ _ _ _)
   | (with_reducible exact LeO.refl _)
   | (with_reducible exact LeO.none _)
   | (with_reducible refine LeO.ite ?_ ?_)
   | (with_reducible refine LeO.bind ?_ (fun _ => ?_))
   | exact ih0 _ _ _ _ _
   | exact ih1 _ _ _ _ _
   | exact impl_FloorOf.mono _ _ _ _
   | exact LeO.none _
   | refine LeO.ite ?_ ?_
   | refine LeO.bind ?_ (fun _ => ?_)
def impl_StateOk.T4 : Bool × List (List Nat × List Nat) := (true, [([], []), ([0], [0]), ([1], [1]), ([2], [2]), ([3, 2], [3]), ([4], [4]), ([5, 4], [4, 5]), ([6, 4, 4], [4, 6]), ([7, 4], [4, 7]), ([4, 8], [4, 8]), ([9, 7], [9]), ([10], [10]), ([11, 10], [10, 11]), ([12, 10, 10], [10, 12]), ([13], [13]), ([14, 13], [13, 14]), ([13], [13]), ([16, 13], [13, 16]), ([15, 17, 13], [13, 15, 17]), ([18, 13], [13, 18]), ([19, 13], [13, 19]), ([13], [13]), ([21, 13], [13, 21]), ([20, 22, 13], [13, 20, 22]), ([13, 23, 10], [10, 13, 23]), ([10, 24], [10, 24])])
def impl_StateOk.B4 : List Nat := [0, 1, 3, 7, 15, 31, 63, 127, 255, 511, 1023, 2047, 4095, 8191, 16383, 32767, 16383, 81919, 262143, 524287, 1048575, 16383, 2113535, 8388607, 16777215, 33554431]
theorem impl_StateOk.tab4 : rtab .any (opsOf Try.f53 4) = impl_StateOk.T4 := by kernel_rfl
theorem impl_StateOk.bits4 : waitsOk impl_StateOk.T4.2 impl_StateOk.B4 = true := by kernel_rfl
def impl_StateOk.T10 : Bool × List (List Nat × List Nat) := (true, [([], []), ([0], [0]), ([1], [1]), ([2], [2]), ([3, 2], [3]), ([4], [4]), ([5, 4], [4, 5]), ([6, 4, 4], [4, 6]), ([7, 4], [4, 7]), ([4, 8], [4, 8]), ([9, 7], [9]), ([10], [10]), ([11, 10], [10, 11]), ([12, 10], [10, 12]), ([10], [10]), ([10], [10]), ([15, 10], [10, 15]), ([14, 16, 10, 10], [10, 14, 16]), ([13, 17, 10], [10, 13, 17]), ([10, 18], [10, 18]), ([19, 17], [19]), ([20], [20]), ([21, 20], [20, 21]), ([22, 20, 20], [20, 22]), ([23], [23]), ([24, 23], [23, 24]), ([23], [23]), ([26, 23], [23, 26]), ([25, 27, 23], [23, 25, 27]), ([28, 23], [23, 28]), ([29, 23], [23, 29]), ([23], [23]), ([31, 23], [23, 31]), ([30, 32, 23], [23, 30, 32]), ([23, 33, 20], [20, 23, 33]), ([20, 34], [20, 34])])
def impl_StateOk.B10 : List Nat := [0, 1, 3, 7, 15, 31, 63, 127, 255, 511, 1023, 2047, 4095, 8191, 2047, 2047, 34815, 116735, 262143, 524287, 1048575, 2097151, 4194303, 8388607, 16777215, 33554431, 16777215, 83886079, 268435455, 536870911, 1073741823, 16777215, 2164260863, 8589934591, 17179869183, 34359738367]
theorem impl_StateOk.tab10 : rtab .any (opsOf Try.f53 10) = impl_StateOk.T10 := by kernel_rfl
theorem impl_StateOk.bits10 : waitsOk impl_StateOk.T10.2 impl_StateOk.B10 = true := by kernel_rfl
set_option maxHeartbeats 8000000 in
set_option maxRecDepth 100000 in
theorem impl_StateOk.calls (k : Nat) (A0_0 : Option Addr) (c0_0 : Nat) (l0_0 : List (S68)) (A0_1 : Option Addr) (c0_1 : Nat) (l0_1 : List (S72)) (r : Bool) (w : World) (hr0_0 : Kd.C k68 w A0_0 l0_0.length l0_0) (hc0_0 : l0_0.length ≤ c0_0) (hr0_1 : Kd.C k72 w A0_1 l0_1.length l0_1) (hc0_1 : l0_1.length ≤ c0_1) (h : impl_StateOk.f k l0_0 l0_1 = some r) :
  Calls Try.prog 53 #[.agg #[.slice A0_0 l0_0.length c0_0, .slice A0_1 l0_1.length c0_1]] w fun e w' => e = .returned (.bool r) ∧ Below w.heap.size w w' := by
 have hu32 := Try.underlying32
 have hu72 := Try.underlying72
 have hu68 := Try.underlying68
 have hu66 := Try.underlying66
 have HR0_0 := zm hr0_0
 have HC0_0 := zm hc0_0
 clear hr0_0 hc0_0
 have HR0_1 := zm hr0_1
 have HC0_1 := zm hc0_1
 clear hr0_1 hc0_1
 have HB := zm (Below.refl w.heap.size w)
 have H : (impl_StateOk.l0 k l0_1 (l0_1.length : Int) 0 l0_0 l0_1) = some r := h
 clear h
 have H' := zm H
 clear H
 go_enter Try.func53, Try.ntmps53
 go_wp2_with (first | ((with_reducible refine gate_dst (N := 1) rfl ?_); refine zbox 1 #[.slice A0_0 l0_0.length c0_0, .slice A0_1 l0_1.length c0_1] 32 ?_; intro gb286 hg w2 hbox hb; have BK286 := zm (hbox); have GW286 := zge w hg zB; have GE286 := zge w hg zB; replace HB := zm (below_step zB hb); clear hb hbox hg; have hcz3_0 : w2.cell? ⟨gb286, 0, none⟩ = some (.slice A0_0 l0_0.length c0_0) := (blk_cell BK286.out 0).trans rfl; have hcz3_1 : w2.cell? ⟨gb286, 1, none⟩ = some (.slice A0_1 l0_1.length c0_1) := (blk_cell BK286.out 1).trans rfl; have hfz3_0 := blk_frozen BK286.out 0; have hfz3_1 := blk_frozen BK286.out 1))
 go_loopg [10] k (fun kq v10 w' => ∃ (x10_1 : Int), v10 = .int .i64 x10_1 ∧ Aside0 (impl_StateOk.l0 kq l0_1 (l0_1.length : Int) x10_1 l0_0 l0_1 = some r) ∧ Aside0 (kq ≤ k) ∧ Aside0 (w'.heap[gb286]? = some (.cells #[(.slice A0_0 l0_0.length c0_0), (.slice A0_1 l0_1.length c0_1)] 32 (0, 0))) ∧ Aside0 (Below w.heap.size w w'))
 case atStart => exact ⟨(0), zF, H', ⟨Nat.le_refl _⟩, ⟨zb BK286⟩, ⟨zB⟩⟩
 case round =>
  clear H'
  try clear p2
  try clear hcz3_0
  try clear hcz3_1
  try clear hfz3_0
  try clear hfz3_1
  obtain ⟨x10_1, rfl, HA, HK1, BK286, HB⟩ := hrel
  cases gk with
  | zero => exact absurd HA.out (by simp [impl_StateOk.l0])
  | succ k1 =>
   have H := HA.out
   clear HA
   simp only [impl_StateOk.l0] at H
   by_cases c4 : x10_1 < (l0_1.length : Int)
   ·rw [if_pos c4] at H
    have c4b0 : decide (x10_1 < (l0_1.length : Int)) = true := decide_eq_true c4
    clear c4
    by_cases c5 : 0 ≤ x10_1
    ·rw [if_pos c5] at H
     have c5b0 : decide (0 ≤ x10_1) = true := decide_eq_true c5
     clear c5
     by_cases c6 : x10_1 < (l0_1.length : Int)
     ·rw [if_pos c6] at H
      have c6b0 : decide (x10_1 < (l0_1.length : Int)) = true := decide_eq_true c6
      clear c6
      replace H := Option.bind_eq_some_iff.mp H
      obtain ⟨t289, A70, H⟩ := H
      replace H : (if t289 = true then ((impl_within.f ((rd_T72 l0_1 x10_1).f1) 1 1000).bind fun t290 => (if t290 = true then (if x10_1 > 0 then (if 0 ≤ (wrap64 (x10_1 - 1)) then (if (wrap64 (x10_1 - 1)) < (l0_1.length : Int) then (if ((rd_T72 l0_1 (wrap64 (x10_1 - 1))).f0) ≥ ((rd_T72 l0_1 x10_1).f0) then (some false) else (impl_StateOk.l0 k1 l0_1 (l0_1.length : Int) (wrap64 (x10_1 + 1)) l0_0 l0_1)) else (none)) else (none)) else (impl_StateOk.l0 k1 l0_1 (l0_1.length : Int) (wrap64 (x10_1 + 1)) l0_0 l0_1)) else (some false))) else (some false)) = some r := H
      have A7 := zm A70
      clear A70
      by_cases c8 : t289 = true
      ·subst c8
       have H1 : ((impl_within.f ((rd_T72 l0_1 x10_1).f1) 1 1000).bind fun t290 => (if t290 = true then (if x10_1 > 0 then (if 0 ≤ (wrap64 (x10_1 - 1)) then (if (wrap64 (x10_1 - 1)) < (l0_1.length : Int) then (if ((rd_T72 l0_1 (wrap64 (x10_1 - 1))).f0) ≥ ((rd_T72 l0_1 x10_1).f0) then (some false) else (impl_StateOk.l0 k1 l0_1 (l0_1.length : Int) (wrap64 (x10_1 + 1)) l0_0 l0_1)) else (none)) else (none)) else (impl_StateOk.l0 k1 l0_1 (l0_1.length : Int) (wrap64 (x10_1 + 1)) l0_0 l0_1)) else (some false))) = some r := by rw [if_pos rfl] at H; exact H
       clear H
       have H := H1
       clear H1
       replace H := Option.bind_eq_some_iff.mp H
       obtain ⟨t290, A90, H⟩ := H
       replace H : (if t290 = true then (if x10_1 > 0 then (if 0 ≤ (wrap64 (x10_1 - 1)) then (if (wrap64 (x10_1 - 1)) < (l0_1.length : Int) then (if ((rd_T72 l0_1 (wrap64 (x10_1 - 1))).f0) ≥ ((rd_T72 l0_1 x10_1).f0) then (some false) else (impl_StateOk.l0 k1 l0_1 (l0_1.length : Int) (wrap64 (x10_1 + 1)) l0_0 l0_1)) else (none)) else (none)) else (impl_StateOk.l0 k1 l0_1 (l0_1.length : Int) (wrap64 (x10_1 + 1)) l0_0 l0_1)) else (some false)) = some r := H
       have A9 := zm A90
       clear A90
       by_cases c10 : t290 = true
       ·subst c10
        have H1 : (if x10_1 > 0 then (if 0 ≤ (wrap64 (x10_1 - 1)) then (if (wrap64 (x10_1 - 1)) < (l0_1.length : Int) then (if ((rd_T72 l0_1 (wrap64 (x10_1 - 1))).f0) ≥ ((rd_T72 l0_1 x10_1).f0) then (some false) else (impl_StateOk.l0 k1 l0_1 (l0_1.length : Int) (wrap64 (x10_1 + 1)) l0_0 l0_1)) else (none)) else (none)) else (impl_StateOk.l0 k1 l0_1 (l0_1.length : Int) (wrap64 (x10_1 + 1)) l0_0 l0_1)) = some r := by rw [if_pos rfl] at H; exact H
        clear H
        have H := H1
        clear H1
        by_cases c11 : x10_1 > 0
        ·rw [if_pos c11] at H
         have c11b0 : decide (0 < x10_1) = true := decide_eq_true c11
         clear c11
         obtain ⟨ji12, hji12⟩ : ∃ j_ : Int, (wrap64 (x10_1 - 1)) = j_ := ⟨_, rfl⟩
         replace H : (if 0 ≤ (ji12) then (if (ji12) < (l0_1.length : Int) then (if ((rd_T72 l0_1 (ji12)).f0) ≥ ((rd_T72 l0_1 x10_1).f0) then (some false) else (impl_StateOk.l0 k1 l0_1 (l0_1.length : Int) (wrap64 (x10_1 + 1)) l0_0 l0_1)) else (none)) else (none)) = some r := by first | (rw [hji12] at H; exact H) | (simp only [hji12] at H ⊢; exact H)
         (try rw [hji12] at A7)
         (try rw [hji12] at A9)
         have hji12w : (IntKind.i64.wrap (x10_1 - 1)) = ji12 := (i64_w _).trans hji12
         by_cases c13 : 0 ≤ (ji12)
         ·rw [if_pos c13] at H
          have c13b0 : decide (0 ≤ (ji12)) = true := decide_eq_true c13
          clear c13
          by_cases c14 : (ji12) < (l0_1.length : Int)
          ·rw [if_pos c14] at H
           have c14b0 : decide ((ji12) < (l0_1.length : Int)) = true := decide_eq_true c14
           clear c14
           by_cases c15 : ((rd_T72 l0_1 (ji12)).f0) ≥ ((rd_T72 l0_1 x10_1).f0)
           ·rw [if_pos c15] at H
            have c15b0 : decide (((rd_T72 l0_1 x10_1).f0) ≤ ((rd_T72 l0_1 (ji12)).f0)) = true := decide_eq_true c15
            clear c15
            obtain rfl := Option.some.inj H
            have p287 : 0 ≤ (x10_1 : Int) := zd
            have q287 : x10_1 < (l0_1.length : Int) := zd
            obtain ⟨ad287, e287, hx287_0, hx287_1⟩ := at_T72 (Kd.C_below HR0_1.out HB.out) x10_1 p287 q287
            cases e287
            replace p287 := eq_true p287
            replace q287 := eq_true q287
            try go_wp2_with (first | ((with_reducible refine gate_dst (N := 4) rfl ?_); refine zbox 4 #[.int .i64 0, .int .i64 0] 72 ?_; intro gb288 hg w16 hbox hb; have BK288 := zm (hbox); have GW288 := zge w hg zB; have GE288 := zge w hg zB; replace HB := zm (below_step zB hb); have NB286_288 := zlt hg (zb BK286); have NB288_286 := zgt hg (zb BK286); replace BK286 := zm (blk_below (zb BK286) hb); clear hb hbox hg; have hnb17 := NB288_286.out; have hnc17 := NB286_288.out; have hcz18_0 : w16.cell? ⟨gb288, 0, none⟩ = some (.int .i64 0) := (blk_cell BK288.out 0).trans rfl; have hcz18_1 : w16.cell? ⟨gb288, 1, none⟩ = some (.int .i64 0) := (blk_cell BK288.out 1).trans rfl; have hfz18_0 := blk_frozen BK288.out 0; have hfz18_1 := blk_frozen BK288.out 1))
            obtain ⟨w19, hW_⟩ : ∃ q, q = ((w16.setCell ⟨gb288, 0, none⟩ (.int .i64 ((rd_T72 l0_1 x10_1).f0))).setCell ⟨gb288, 1, none⟩ (.int .i64 ((rd_T72 l0_1 x10_1).f1))) := ⟨_, rfl⟩
            have n0_ : Aside0 (w19.heap[gb286]? = some (.cells #[.slice A0_0 l0_0.length c0_0, .slice (some ad287) l0_1.length c0_1] 32 (0, 0))) := ⟨by rw [hW_]; exact zfar (zfar (zb BK286) NB286_288) NB286_288⟩
            have n1_ : Aside0 (w19.heap[gb288]? = some (.cells #[.int .i64 ((rd_T72 l0_1 x10_1).f0), .int .i64 ((rd_T72 l0_1 x10_1).f1)] 72 (0, 0))) := ⟨by rw [hW_]; exact zput (zput (zb BK288) 0) 1⟩
            have n2_ : Aside0 (Below w.heap.size w w19) := ⟨by rw [hW_]; exact zB⟩
            rw [← hW_]
            clear hW_
            (try clear BK286)
            (try clear BK288)
            (try clear HB)
            have BK286 := n0_
            have BK288 := n1_
            have HB := n2_
            clear n0_ n1_ n2_
            replace BK286 := zm (blk_drew BK286.out)
            replace BK288 := zm (blk_drew BK288.out)
            replace HB := zm (below_drew1 HB.out)
            have p291 : 0 ≤ ((ji12) : Int) := zd
            have q291 : (ji12) < (l0_1.length : Int) := zd
            obtain ⟨ad291, e291, hx291_0, hx291_1⟩ := at_T72 HR0_1.out (ji12) p291 q291
            have hw291_1 := hx291_1
            have hw291_0 := hx291_0
            obtain rfl : ad287 = ad291 := (by injection e291)
            replace hx291_0 := (HB.out.cell (World.block_lt_of_cell? w _ hx291_0)).trans hx291_0
            replace hx291_1 := (HB.out.cell (World.block_lt_of_cell? w _ hx291_1)).trans hx291_1
            replace p291 := eq_true p291
            replace q291 := eq_true q291
            refine start_ (n := 26) (S := fun w' => w'.cell? ⟨gb288, 0, none⟩ = some (.int .i64 ((rd_T72 l0_1 x10_1).f0)) ∧ w'.cell? ⟨gb288, 1, none⟩ = some (.int .i64 ((rd_T72 l0_1 x10_1).f1)) ∧ w'.cell? ⟨gb286, 0, none⟩ = some (.slice A0_0 l0_0.length c0_0) ∧ w'.cell? ⟨gb286, 1, none⟩ = some (.slice (some ad287) l0_1.length c0_1) ∧ w'.cell? (ad287.add (((ji12)).toNat * 2)) = some (.int .i64 ((rd_T72 l0_1 (ji12)).f0)) ∧ w'.cell? ⟨(ad287.add (((ji12)).toNat * 2)).block, (ad287.add (((ji12)).toNat * 2)).off + 1, none⟩ = some (.int .i64 ((rd_T72 l0_1 (ji12)).f1))) (ds := []) (zl 26 0) (by kernel_rfl) rfl rfl ⟨(blk_cell BK288.out 0).trans rfl, (blk_cell BK288.out 1).trans rfl, (blk_cell BK286.out 0).trans rfl, (blk_cell BK286.out 1).trans rfl, ((HB.out.cell (World.block_lt_of_cell? w _ hw291_0)).trans hw291_0), ((HB.out.cell (World.block_lt_of_cell? w _ hw291_1)).trans hw291_1)⟩ (fun hHeld => ?_); refine with_tabW impl_StateOk.tab4 impl_StateOk.bits4 (fun HT_ HW_ => ?_)
            generalize w19.drew = w20 at BK286 BK288 HB hx291_0 hx291_1 hHeld ⊢
            refine zp 0 (some 15) (zl 26 1) ?_
            refine zt 1 (some 16) (zl 26 3) ?_
            refine zo 2 (some 17) (zl 26 7) (fun K hK => ?_)
            refine zgo #[.int .i64 ((rd_T72 l0_1 x10_1).f0)] Try.func94 ?_
            with_reducible refine (impl_isNode.calls ((rd_T72 l0_1 x10_1).f0) true _ A7.out).mono ?_
            rintro e w' ⟨rfl, ⟨nd, rfl⟩⟩
            refine ⟨_, rfl, ?_⟩
            refine hK.out _ _ ⟨(blk_cell BK288.out 0).trans rfl, (blk_cell BK288.out 1).trans rfl, (blk_cell BK286.out 0).trans rfl, (blk_cell BK286.out 1).trans rfl, ((HB.out.cell (World.block_lt_of_cell? w _ hw291_0)).trans hw291_0), ((HB.out.cell (World.block_lt_of_cell? w _ hw291_1)).trans hw291_1)⟩ (fun hHeld => ?_)
            clear hK K
            refine zn ?_
            refine zp 3 (some 18) (zl 26 15) ?_
            refine zp 4 (some 19) (zl 26 31) ?_
            refine zp 5 (some 20) (zl 26 63) ?_
            refine zt 6 (some 21) (zl 26 127) ?_
            refine zo 7 (some 22) (zl 26 255) (fun K hK => ?_)
            refine zgo #[.int .i64 ((rd_T72 l0_1 x10_1).f1), .int .i64 1, .int .i64 1000] Try.func64 ?_
            with_reducible refine (impl_within.calls ((rd_T72 l0_1 x10_1).f1) 1 1000 true _ A9.out).mono ?_
            rintro e w' ⟨rfl, ⟨nd, rfl⟩⟩
            refine ⟨_, rfl, ?_⟩
            refine hK.out _ _ ⟨(blk_cell BK288.out 0).trans rfl, (blk_cell BK288.out 1).trans rfl, (blk_cell BK286.out 0).trans rfl, (blk_cell BK286.out 1).trans rfl, ((HB.out.cell (World.block_lt_of_cell? w _ hw291_0)).trans hw291_0), ((HB.out.cell (World.block_lt_of_cell? w _ hw291_1)).trans hw291_1)⟩ (fun hHeld => ?_)
            clear hK K
            refine zn ?_
            refine zp 8 (some 23) (zl 26 511) ?_
            refine zp 9 (some 24) (zl 26 1023) ?_
            refine zp 10 (some 25) (zl 26 2047) ?_
            refine zp 11 (some 26) (zl 26 4095) ?_
            refine zp 12 (some 27) (zl 26 8191) ?_
            refine zp 13 (some 28) (zl 26 16383) ?_
            refine zp 14 (some 29) (zl 26 32767) ?_
            refine zp 16 (some 31) (zl 26 98303) ?_
            refine zp 17 (some 32) (zl 26 229375) ?_
            refine zp 21 (some 36) (zl 26 2326527) ?_
            refine zt 15 (some 30) (zl 26 2359295) ?_
            refine zp 18 (some 33) (zl 26 2621439) ?_
            refine zp 19 (some 34) (zl 26 3145727) ?_
            refine zt 20 (some 35) (zl 26 4194303) ?_
            refine zt 22 (some 37) (zl 26 8388607) ?_
            refine zp 23 (some 38) (zl 26 16777215) ?_
            refine zp 24 (some 39) (zl 26 33554431) ?_
            refine zp 25 (some 40) (zl 26 67108863) ?_
            refine done_ (done_of HT_.out (by kernel_rfl)) ?_
            try go_wp2
            go_ret
            exact ⟨by first | rfl | (simp [errW_none, errW_some] <;> rfl) | (simp only [← hji12]; first | rfl | (simp [errW_none, errW_some] <;> rfl)) | (simp [*, errW_none, errW_some] <;> rfl), zB⟩
           ·rw [if_neg c15] at H
            have c15b0 : decide (((rd_T72 l0_1 x10_1).f0) ≤ ((rd_T72 l0_1 (ji12)).f0)) = false := decide_eq_false c15
            clear c15
            have H' := zm H
            clear H
            have p287 : 0 ≤ (x10_1 : Int) := zd
            have q287 : x10_1 < (l0_1.length : Int) := zd
            obtain ⟨ad287, e287, hx287_0, hx287_1⟩ := at_T72 (Kd.C_below HR0_1.out HB.out) x10_1 p287 q287
            cases e287
            replace p287 := eq_true p287
            replace q287 := eq_true q287
            try go_wp2_with (first | ((with_reducible refine gate_dst (N := 4) rfl ?_); refine zbox 4 #[.int .i64 0, .int .i64 0] 72 ?_; intro gb288 hg w21 hbox hb; have BK288 := zm (hbox); have GW288 := zge w hg zB; have GE288 := zge w hg zB; replace HB := zm (below_step zB hb); have NB286_288 := zlt hg (zb BK286); have NB288_286 := zgt hg (zb BK286); replace BK286 := zm (blk_below (zb BK286) hb); clear hb hbox hg; have hnb22 := NB288_286.out; have hnc22 := NB286_288.out; have hcz23_0 : w21.cell? ⟨gb288, 0, none⟩ = some (.int .i64 0) := (blk_cell BK288.out 0).trans rfl; have hcz23_1 : w21.cell? ⟨gb288, 1, none⟩ = some (.int .i64 0) := (blk_cell BK288.out 1).trans rfl; have hfz23_0 := blk_frozen BK288.out 0; have hfz23_1 := blk_frozen BK288.out 1))
            obtain ⟨w24, hW_⟩ : ∃ q, q = ((w21.setCell ⟨gb288, 0, none⟩ (.int .i64 ((rd_T72 l0_1 x10_1).f0))).setCell ⟨gb288, 1, none⟩ (.int .i64 ((rd_T72 l0_1 x10_1).f1))) := ⟨_, rfl⟩
            have n0_ : Aside0 (w24.heap[gb286]? = some (.cells #[.slice A0_0 l0_0.length c0_0, .slice (some ad287) l0_1.length c0_1] 32 (0, 0))) := ⟨by rw [hW_]; exact zfar (zfar (zb BK286) NB286_288) NB286_288⟩
            have n1_ : Aside0 (w24.heap[gb288]? = some (.cells #[.int .i64 ((rd_T72 l0_1 x10_1).f0), .int .i64 ((rd_T72 l0_1 x10_1).f1)] 72 (0, 0))) := ⟨by rw [hW_]; exact zput (zput (zb BK288) 0) 1⟩
            have n2_ : Aside0 (Below w.heap.size w w24) := ⟨by rw [hW_]; exact zB⟩
            rw [← hW_]
            clear hW_
            (try clear BK286)
            (try clear BK288)
            (try clear HB)
            have BK286 := n0_
            have BK288 := n1_
            have HB := n2_
            clear n0_ n1_ n2_
            replace BK286 := zm (blk_drew BK286.out)
            replace BK288 := zm (blk_drew BK288.out)
            replace HB := zm (below_drew1 HB.out)
            have p291 : 0 ≤ ((ji12) : Int) := zd
            have q291 : (ji12) < (l0_1.length : Int) := zd
            obtain ⟨ad291, e291, hx291_0, hx291_1⟩ := at_T72 HR0_1.out (ji12) p291 q291
            have hw291_1 := hx291_1
            have hw291_0 := hx291_0
            obtain rfl : ad287 = ad291 := (by injection e291)
            replace hx291_0 := (HB.out.cell (World.block_lt_of_cell? w _ hx291_0)).trans hx291_0
            replace hx291_1 := (HB.out.cell (World.block_lt_of_cell? w _ hx291_1)).trans hx291_1
            replace p291 := eq_true p291
            replace q291 := eq_true q291
            refine start_ (n := 26) (S := fun w' => w'.cell? ⟨gb288, 0, none⟩ = some (.int .i64 ((rd_T72 l0_1 x10_1).f0)) ∧ w'.cell? ⟨gb288, 1, none⟩ = some (.int .i64 ((rd_T72 l0_1 x10_1).f1)) ∧ w'.cell? ⟨gb286, 0, none⟩ = some (.slice A0_0 l0_0.length c0_0) ∧ w'.cell? ⟨gb286, 1, none⟩ = some (.slice (some ad287) l0_1.length c0_1) ∧ w'.cell? (ad287.add (((ji12)).toNat * 2)) = some (.int .i64 ((rd_T72 l0_1 (ji12)).f0)) ∧ w'.cell? ⟨(ad287.add (((ji12)).toNat * 2)).block, (ad287.add (((ji12)).toNat * 2)).off + 1, none⟩ = some (.int .i64 ((rd_T72 l0_1 (ji12)).f1))) (ds := []) (zl 26 0) (by kernel_rfl) rfl rfl ⟨(blk_cell BK288.out 0).trans rfl, (blk_cell BK288.out 1).trans rfl, (blk_cell BK286.out 0).trans rfl, (blk_cell BK286.out 1).trans rfl, ((HB.out.cell (World.block_lt_of_cell? w _ hw291_0)).trans hw291_0), ((HB.out.cell (World.block_lt_of_cell? w _ hw291_1)).trans hw291_1)⟩ (fun hHeld => ?_); refine with_tabW impl_StateOk.tab4 impl_StateOk.bits4 (fun HT_ HW_ => ?_)
            generalize w24.drew = w25 at BK286 BK288 HB hx291_0 hx291_1 hHeld ⊢
            refine zp 0 (some 15) (zl 26 1) ?_
            refine zt 1 (some 16) (zl 26 3) ?_
            refine zo 2 (some 17) (zl 26 7) (fun K hK => ?_)
            refine zgo #[.int .i64 ((rd_T72 l0_1 x10_1).f0)] Try.func94 ?_
            with_reducible refine (impl_isNode.calls ((rd_T72 l0_1 x10_1).f0) true _ A7.out).mono ?_
            rintro e w' ⟨rfl, ⟨nd, rfl⟩⟩
            refine ⟨_, rfl, ?_⟩
            refine hK.out _ _ ⟨(blk_cell BK288.out 0).trans rfl, (blk_cell BK288.out 1).trans rfl, (blk_cell BK286.out 0).trans rfl, (blk_cell BK286.out 1).trans rfl, ((HB.out.cell (World.block_lt_of_cell? w _ hw291_0)).trans hw291_0), ((HB.out.cell (World.block_lt_of_cell? w _ hw291_1)).trans hw291_1)⟩ (fun hHeld => ?_)
            clear hK K
            refine zn ?_
            refine zp 3 (some 18) (zl 26 15) ?_
            refine zp 4 (some 19) (zl 26 31) ?_
            refine zp 5 (some 20) (zl 26 63) ?_
            refine zt 6 (some 21) (zl 26 127) ?_
            refine zo 7 (some 22) (zl 26 255) (fun K hK => ?_)
            refine zgo #[.int .i64 ((rd_T72 l0_1 x10_1).f1), .int .i64 1, .int .i64 1000] Try.func64 ?_
            with_reducible refine (impl_within.calls ((rd_T72 l0_1 x10_1).f1) 1 1000 true _ A9.out).mono ?_
            rintro e w' ⟨rfl, ⟨nd, rfl⟩⟩
            refine ⟨_, rfl, ?_⟩
            refine hK.out _ _ ⟨(blk_cell BK288.out 0).trans rfl, (blk_cell BK288.out 1).trans rfl, (blk_cell BK286.out 0).trans rfl, (blk_cell BK286.out 1).trans rfl, ((HB.out.cell (World.block_lt_of_cell? w _ hw291_0)).trans hw291_0), ((HB.out.cell (World.block_lt_of_cell? w _ hw291_1)).trans hw291_1)⟩ (fun hHeld => ?_)
            clear hK K
            refine zn ?_
            refine zp 8 (some 23) (zl 26 511) ?_
            refine zp 9 (some 24) (zl 26 1023) ?_
            refine zp 10 (some 25) (zl 26 2047) ?_
            refine zp 11 (some 26) (zl 26 4095) ?_
            refine zp 12 (some 27) (zl 26 8191) ?_
            refine zp 13 (some 28) (zl 26 16383) ?_
            refine zp 14 (some 29) (zl 26 32767) ?_
            refine zp 16 (some 31) (zl 26 98303) ?_
            refine zp 17 (some 32) (zl 26 229375) ?_
            refine zp 21 (some 36) (zl 26 2326527) ?_
            refine zt 15 (some 30) (zl 26 2359295) ?_
            refine zp 18 (some 33) (zl 26 2621439) ?_
            refine zp 19 (some 34) (zl 26 3145727) ?_
            refine zt 20 (some 35) (zl 26 4194303) ?_
            refine zt 22 (some 37) (zl 26 8388607) ?_
            refine zp 23 (some 38) (zl 26 16777215) ?_
            refine zp 24 (some 39) (zl 26 33554431) ?_
            refine zp 25 (some 40) (zl 26 67108863) ?_
            refine done_ (done_of HT_.out (by kernel_rfl)) ?_
            try go_wp2
            go_roundg k1
            case measure => have := HK1.out; omega
            case rel => exact ⟨(wrap64 (x10_1 + 1)), zF, H', ⟨by have := HK1.out; omega⟩, ⟨zb BK286⟩, ⟨zB⟩⟩
          ·rw [if_neg c14] at H
           exact absurd H (by simp)
         ·rw [if_neg c13] at H
          exact absurd H (by simp)
        ·rw [if_neg c11] at H
         have c11b0 : decide (0 < x10_1) = false := decide_eq_false c11
         clear c11
         have H' := zm H
         clear H
         have p287 : 0 ≤ (x10_1 : Int) := zd
         have q287 : x10_1 < (l0_1.length : Int) := zd
         obtain ⟨ad287, e287, hx287_0, hx287_1⟩ := at_T72 (Kd.C_below HR0_1.out HB.out) x10_1 p287 q287
         cases e287
         replace p287 := eq_true p287
         replace q287 := eq_true q287
         try go_wp2_with (first | ((with_reducible refine gate_dst (N := 4) rfl ?_); refine zbox 4 #[.int .i64 0, .int .i64 0] 72 ?_; intro gb288 hg w26 hbox hb; have BK288 := zm (hbox); have GW288 := zge w hg zB; have GE288 := zge w hg zB; replace HB := zm (below_step zB hb); have NB286_288 := zlt hg (zb BK286); have NB288_286 := zgt hg (zb BK286); replace BK286 := zm (blk_below (zb BK286) hb); clear hb hbox hg; have hnb27 := NB288_286.out; have hnc27 := NB286_288.out; have hcz28_0 : w26.cell? ⟨gb288, 0, none⟩ = some (.int .i64 0) := (blk_cell BK288.out 0).trans rfl; have hcz28_1 : w26.cell? ⟨gb288, 1, none⟩ = some (.int .i64 0) := (blk_cell BK288.out 1).trans rfl; have hfz28_0 := blk_frozen BK288.out 0; have hfz28_1 := blk_frozen BK288.out 1))
         obtain ⟨w29, hW_⟩ : ∃ q, q = ((w26.setCell ⟨gb288, 0, none⟩ (.int .i64 ((rd_T72 l0_1 x10_1).f0))).setCell ⟨gb288, 1, none⟩ (.int .i64 ((rd_T72 l0_1 x10_1).f1))) := ⟨_, rfl⟩
         have n0_ : Aside0 (w29.heap[gb286]? = some (.cells #[.slice A0_0 l0_0.length c0_0, .slice (some ad287) l0_1.length c0_1] 32 (0, 0))) := ⟨by rw [hW_]; exact zfar (zfar (zb BK286) NB286_288) NB286_288⟩
         have n1_ : Aside0 (w29.heap[gb288]? = some (.cells #[.int .i64 ((rd_T72 l0_1 x10_1).f0), .int .i64 ((rd_T72 l0_1 x10_1).f1)] 72 (0, 0))) := ⟨by rw [hW_]; exact zput (zput (zb BK288) 0) 1⟩
         have n2_ : Aside0 (Below w.heap.size w w29) := ⟨by rw [hW_]; exact zB⟩
         rw [← hW_]
         clear hW_
         (try clear BK286)
         (try clear BK288)
         (try clear HB)
         have BK286 := n0_
         have BK288 := n1_
         have HB := n2_
         clear n0_ n1_ n2_
         replace BK286 := zm (blk_drew BK286.out)
         replace BK288 := zm (blk_drew BK288.out)
         replace HB := zm (below_drew1 HB.out)
         refine start_ (n := 26) (S := fun w' => w'.cell? ⟨gb288, 0, none⟩ = some (.int .i64 ((rd_T72 l0_1 x10_1).f0)) ∧ w'.cell? ⟨gb288, 1, none⟩ = some (.int .i64 ((rd_T72 l0_1 x10_1).f1))) (ds := []) (zl 26 0) (by kernel_rfl) rfl rfl ⟨(blk_cell BK288.out 0).trans rfl, (blk_cell BK288.out 1).trans rfl⟩ (fun hHeld => ?_); refine with_tabW impl_StateOk.tab4 impl_StateOk.bits4 (fun HT_ HW_ => ?_)
         generalize w29.drew = w30 at BK286 BK288 HB hHeld ⊢
         refine zp 0 (some 15) (zl 26 1) ?_
         refine zt 1 (some 16) (zl 26 3) ?_
         refine zo 2 (some 17) (zl 26 7) (fun K hK => ?_)
         refine zgo #[.int .i64 ((rd_T72 l0_1 x10_1).f0)] Try.func94 ?_
         with_reducible refine (impl_isNode.calls ((rd_T72 l0_1 x10_1).f0) true _ A7.out).mono ?_
         rintro e w' ⟨rfl, ⟨nd, rfl⟩⟩
         refine ⟨_, rfl, ?_⟩
         refine hK.out _ _ ⟨(blk_cell BK288.out 0).trans rfl, (blk_cell BK288.out 1).trans rfl⟩ (fun hHeld => ?_)
         clear hK K
         refine zn ?_
         refine zp 3 (some 18) (zl 26 15) ?_
         refine zp 4 (some 19) (zl 26 31) ?_
         refine zp 5 (some 20) (zl 26 63) ?_
         refine zt 6 (some 21) (zl 26 127) ?_
         refine zo 7 (some 22) (zl 26 255) (fun K hK => ?_)
         refine zgo #[.int .i64 ((rd_T72 l0_1 x10_1).f1), .int .i64 1, .int .i64 1000] Try.func64 ?_
         with_reducible refine (impl_within.calls ((rd_T72 l0_1 x10_1).f1) 1 1000 true _ A9.out).mono ?_
         rintro e w' ⟨rfl, ⟨nd, rfl⟩⟩
         refine ⟨_, rfl, ?_⟩
         refine hK.out _ _ ⟨(blk_cell BK288.out 0).trans rfl, (blk_cell BK288.out 1).trans rfl⟩ (fun hHeld => ?_)
         clear hK K
         refine zn ?_
         refine zp 8 (some 23) (zl 26 511) ?_
         refine zp 9 (some 24) (zl 26 1023) ?_
         refine zp 10 (some 25) (zl 26 2047) ?_
         refine zp 11 (some 26) (zl 26 4095) ?_
         refine zp 12 (some 27) (zl 26 8191) ?_
         refine zp 13 (some 28) (zl 26 16383) ?_
         refine zp 14 (some 29) (zl 26 32767) ?_
         refine zp 15 (some 30) (zl 26 65535) ?_
         refine zp 16 (some 31) (zl 26 131071) ?_
         refine zp 17 (some 32) (zl 26 262143) ?_
         refine zp 18 (some 33) (zl 26 524287) ?_
         refine zp 19 (some 34) (zl 26 1048575) ?_
         refine zp 20 (some 35) (zl 26 2097151) ?_
         refine zp 21 (some 36) (zl 26 4194303) ?_
         refine zp 22 (some 37) (zl 26 8388607) ?_
         refine zp 23 (some 38) (zl 26 16777215) ?_
         refine zp 24 (some 39) (zl 26 33554431) ?_
         refine zp 25 (some 40) (zl 26 67108863) ?_
         refine done_ (done_of HT_.out (by kernel_rfl)) ?_
         try go_wp2
         go_roundg k1
         case measure => have := HK1.out; omega
         case rel => exact ⟨(wrap64 (x10_1 + 1)), zF, H', ⟨by have := HK1.out; omega⟩, ⟨zb BK286⟩, ⟨zB⟩⟩
       ·replace c10 := Bool.eq_false_iff.mpr c10
        subst c10
        have H1 : (some false) = some r := by rw [if_neg (show ¬ (false = true) by decide)] at H; exact H
        clear H
        have H := H1
        clear H1
        obtain rfl := Option.some.inj H
        have p287 : 0 ≤ (x10_1 : Int) := zd
        have q287 : x10_1 < (l0_1.length : Int) := zd
        obtain ⟨ad287, e287, hx287_0, hx287_1⟩ := at_T72 (Kd.C_below HR0_1.out HB.out) x10_1 p287 q287
        cases e287
        replace p287 := eq_true p287
        replace q287 := eq_true q287
        try go_wp2_with (first | ((with_reducible refine gate_dst (N := 4) rfl ?_); refine zbox 4 #[.int .i64 0, .int .i64 0] 72 ?_; intro gb288 hg w31 hbox hb; have BK288 := zm (hbox); have GW288 := zge w hg zB; have GE288 := zge w hg zB; replace HB := zm (below_step zB hb); have NB286_288 := zlt hg (zb BK286); have NB288_286 := zgt hg (zb BK286); replace BK286 := zm (blk_below (zb BK286) hb); clear hb hbox hg; have hnb32 := NB288_286.out; have hnc32 := NB286_288.out; have hcz33_0 : w31.cell? ⟨gb288, 0, none⟩ = some (.int .i64 0) := (blk_cell BK288.out 0).trans rfl; have hcz33_1 : w31.cell? ⟨gb288, 1, none⟩ = some (.int .i64 0) := (blk_cell BK288.out 1).trans rfl; have hfz33_0 := blk_frozen BK288.out 0; have hfz33_1 := blk_frozen BK288.out 1))
        obtain ⟨w34, hW_⟩ : ∃ q, q = ((w31.setCell ⟨gb288, 0, none⟩ (.int .i64 ((rd_T72 l0_1 x10_1).f0))).setCell ⟨gb288, 1, none⟩ (.int .i64 ((rd_T72 l0_1 x10_1).f1))) := ⟨_, rfl⟩
        have n0_ : Aside0 (w34.heap[gb286]? = some (.cells #[.slice A0_0 l0_0.length c0_0, .slice (some ad287) l0_1.length c0_1] 32 (0, 0))) := ⟨by rw [hW_]; exact zfar (zfar (zb BK286) NB286_288) NB286_288⟩
        have n1_ : Aside0 (w34.heap[gb288]? = some (.cells #[.int .i64 ((rd_T72 l0_1 x10_1).f0), .int .i64 ((rd_T72 l0_1 x10_1).f1)] 72 (0, 0))) := ⟨by rw [hW_]; exact zput (zput (zb BK288) 0) 1⟩
        have n2_ : Aside0 (Below w.heap.size w w34) := ⟨by rw [hW_]; exact zB⟩
        rw [← hW_]
        clear hW_
        (try clear BK286)
        (try clear BK288)
        (try clear HB)
        have BK286 := n0_
        have BK288 := n1_
        have HB := n2_
        clear n0_ n1_ n2_
        replace BK286 := zm (blk_drew BK286.out)
        replace BK288 := zm (blk_drew BK288.out)
        replace HB := zm (below_drew1 HB.out)
        refine start_ (n := 26) (S := fun w' => w'.cell? ⟨gb288, 0, none⟩ = some (.int .i64 ((rd_T72 l0_1 x10_1).f0)) ∧ w'.cell? ⟨gb288, 1, none⟩ = some (.int .i64 ((rd_T72 l0_1 x10_1).f1))) (ds := []) (zl 26 0) (by kernel_rfl) rfl rfl ⟨(blk_cell BK288.out 0).trans rfl, (blk_cell BK288.out 1).trans rfl⟩ (fun hHeld => ?_); refine with_tabW impl_StateOk.tab4 impl_StateOk.bits4 (fun HT_ HW_ => ?_)
        generalize w34.drew = w35 at BK286 BK288 HB hHeld ⊢
        refine zp 0 (some 15) (zl 26 1) ?_
        refine zt 1 (some 16) (zl 26 3) ?_
        refine zo 2 (some 17) (zl 26 7) (fun K hK => ?_)
        refine zgo #[.int .i64 ((rd_T72 l0_1 x10_1).f0)] Try.func94 ?_
        with_reducible refine (impl_isNode.calls ((rd_T72 l0_1 x10_1).f0) true _ A7.out).mono ?_
        rintro e w' ⟨rfl, ⟨nd, rfl⟩⟩
        refine ⟨_, rfl, ?_⟩
        refine hK.out _ _ ⟨(blk_cell BK288.out 0).trans rfl, (blk_cell BK288.out 1).trans rfl⟩ (fun hHeld => ?_)
        clear hK K
        refine zn ?_
        refine zp 3 (some 18) (zl 26 15) ?_
        refine zp 4 (some 19) (zl 26 31) ?_
        refine zp 5 (some 20) (zl 26 63) ?_
        refine zt 6 (some 21) (zl 26 127) ?_
        refine zo 7 (some 22) (zl 26 255) (fun K hK => ?_)
        refine zgo #[.int .i64 ((rd_T72 l0_1 x10_1).f1), .int .i64 1, .int .i64 1000] Try.func64 ?_
        with_reducible refine (impl_within.calls ((rd_T72 l0_1 x10_1).f1) 1 1000 false _ A9.out).mono ?_
        rintro e w' ⟨rfl, ⟨nd, rfl⟩⟩
        refine ⟨_, rfl, ?_⟩
        refine hK.out _ _ ⟨(blk_cell BK288.out 0).trans rfl, (blk_cell BK288.out 1).trans rfl⟩ (fun hHeld => ?_)
        clear hK K
        refine zn ?_
        refine zp 8 (some 23) (zl 26 511) ?_
        refine zp 9 (some 24) (zl 26 1023) ?_
        refine zp 10 (some 25) (zl 26 2047) ?_
        refine zp 11 (some 26) (zl 26 4095) ?_
        refine zp 12 (some 27) (zl 26 8191) ?_
        refine zp 13 (some 28) (zl 26 16383) ?_
        refine zp 14 (some 29) (zl 26 32767) ?_
        refine zp 15 (some 30) (zl 26 65535) ?_
        refine zp 16 (some 31) (zl 26 131071) ?_
        refine zp 17 (some 32) (zl 26 262143) ?_
        refine zp 18 (some 33) (zl 26 524287) ?_
        refine zp 19 (some 34) (zl 26 1048575) ?_
        refine zp 20 (some 35) (zl 26 2097151) ?_
        refine zp 21 (some 36) (zl 26 4194303) ?_
        refine zp 22 (some 37) (zl 26 8388607) ?_
        refine zp 23 (some 38) (zl 26 16777215) ?_
        refine zp 24 (some 39) (zl 26 33554431) ?_
        refine zp 25 (some 40) (zl 26 67108863) ?_
        refine done_ (done_of HT_.out (by kernel_rfl)) ?_
        try go_wp2
        go_ret
        exact ⟨zE, zB⟩
      ·replace c8 := Bool.eq_false_iff.mpr c8
       subst c8
       have H1 : (some false) = some r := by rw [if_neg (show ¬ (false = true) by decide)] at H; exact H
       clear H
       have H := H1
       clear H1
       obtain rfl := Option.some.inj H
       have p287 : 0 ≤ (x10_1 : Int) := zd
       have q287 : x10_1 < (l0_1.length : Int) := zd
       obtain ⟨ad287, e287, hx287_0, hx287_1⟩ := at_T72 (Kd.C_below HR0_1.out HB.out) x10_1 p287 q287
       cases e287
       replace p287 := eq_true p287
       replace q287 := eq_true q287
       try go_wp2_with (first | ((with_reducible refine gate_dst (N := 4) rfl ?_); refine zbox 4 #[.int .i64 0, .int .i64 0] 72 ?_; intro gb288 hg w36 hbox hb; have BK288 := zm (hbox); have GW288 := zge w hg zB; have GE288 := zge w hg zB; replace HB := zm (below_step zB hb); have NB286_288 := zlt hg (zb BK286); have NB288_286 := zgt hg (zb BK286); replace BK286 := zm (blk_below (zb BK286) hb); clear hb hbox hg; have hnb37 := NB288_286.out; have hnc37 := NB286_288.out; have hcz38_0 : w36.cell? ⟨gb288, 0, none⟩ = some (.int .i64 0) := (blk_cell BK288.out 0).trans rfl; have hcz38_1 : w36.cell? ⟨gb288, 1, none⟩ = some (.int .i64 0) := (blk_cell BK288.out 1).trans rfl; have hfz38_0 := blk_frozen BK288.out 0; have hfz38_1 := blk_frozen BK288.out 1))
       obtain ⟨w39, hW_⟩ : ∃ q, q = ((w36.setCell ⟨gb288, 0, none⟩ (.int .i64 ((rd_T72 l0_1 x10_1).f0))).setCell ⟨gb288, 1, none⟩ (.int .i64 ((rd_T72 l0_1 x10_1).f1))) := ⟨_, rfl⟩
       have n0_ : Aside0 (w39.heap[gb286]? = some (.cells #[.slice A0_0 l0_0.length c0_0, .slice (some ad287) l0_1.length c0_1] 32 (0, 0))) := ⟨by rw [hW_]; exact zfar (zfar (zb BK286) NB286_288) NB286_288⟩
       have n1_ : Aside0 (w39.heap[gb288]? = some (.cells #[.int .i64 ((rd_T72 l0_1 x10_1).f0), .int .i64 ((rd_T72 l0_1 x10_1).f1)] 72 (0, 0))) := ⟨by rw [hW_]; exact zput (zput (zb BK288) 0) 1⟩
       have n2_ : Aside0 (Below w.heap.size w w39) := ⟨by rw [hW_]; exact zB⟩
       rw [← hW_]
       clear hW_
       (try clear BK286)
       (try clear BK288)
       (try clear HB)
       have BK286 := n0_
       have BK288 := n1_
       have HB := n2_
       clear n0_ n1_ n2_
       replace BK286 := zm (blk_drew BK286.out)
       replace BK288 := zm (blk_drew BK288.out)
       replace HB := zm (below_drew1 HB.out)
       refine start_ (n := 26) (S := fun w' => w'.cell? ⟨gb288, 0, none⟩ = some (.int .i64 ((rd_T72 l0_1 x10_1).f0)) ∧ w'.cell? ⟨gb288, 1, none⟩ = some (.int .i64 ((rd_T72 l0_1 x10_1).f1))) (ds := []) (zl 26 0) (by kernel_rfl) rfl rfl ⟨(blk_cell BK288.out 0).trans rfl, (blk_cell BK288.out 1).trans rfl⟩ (fun hHeld => ?_); refine with_tabW impl_StateOk.tab4 impl_StateOk.bits4 (fun HT_ HW_ => ?_)
       generalize w39.drew = w40 at BK286 BK288 HB hHeld ⊢
       refine zp 0 (some 15) (zl 26 1) ?_
       refine zt 1 (some 16) (zl 26 3) ?_
       refine zo 2 (some 17) (zl 26 7) (fun K hK => ?_)
       refine zgo #[.int .i64 ((rd_T72 l0_1 x10_1).f0)] Try.func94 ?_
       with_reducible refine (impl_isNode.calls ((rd_T72 l0_1 x10_1).f0) false _ A7.out).mono ?_
       rintro e w' ⟨rfl, ⟨nd, rfl⟩⟩
       refine ⟨_, rfl, ?_⟩
       refine hK.out _ _ ⟨(blk_cell BK288.out 0).trans rfl, (blk_cell BK288.out 1).trans rfl⟩ (fun hHeld => ?_)
       clear hK K
       refine zn ?_
       refine zp 3 (some 18) (zl 26 15) ?_
       refine zp 4 (some 19) (zl 26 31) ?_
       refine zp 5 (some 20) (zl 26 63) ?_
       refine zp 6 (some 21) (zl 26 127) ?_
       refine zp 7 (some 22) (zl 26 255) ?_
       refine zp 8 (some 23) (zl 26 511) ?_
       refine zp 9 (some 24) (zl 26 1023) ?_
       refine zp 10 (some 25) (zl 26 2047) ?_
       refine zp 11 (some 26) (zl 26 4095) ?_
       refine zp 12 (some 27) (zl 26 8191) ?_
       refine zp 13 (some 28) (zl 26 16383) ?_
       refine zp 14 (some 29) (zl 26 32767) ?_
       refine zp 15 (some 30) (zl 26 65535) ?_
       refine zp 16 (some 31) (zl 26 131071) ?_
       refine zp 17 (some 32) (zl 26 262143) ?_
       refine zp 18 (some 33) (zl 26 524287) ?_
       refine zp 19 (some 34) (zl 26 1048575) ?_
       refine zp 20 (some 35) (zl 26 2097151) ?_
       refine zp 21 (some 36) (zl 26 4194303) ?_
       refine zp 22 (some 37) (zl 26 8388607) ?_
       refine zp 23 (some 38) (zl 26 16777215) ?_
       refine zp 24 (some 39) (zl 26 33554431) ?_
       refine zp 25 (some 40) (zl 26 67108863) ?_
       refine done_ (done_of HT_.out (by kernel_rfl)) ?_
       try go_wp2
       go_ret
       exact ⟨zE, zB⟩
     ·rw [if_neg c6] at H
      exact absurd H (by simp)
    ·rw [if_neg c5] at H
     exact absurd H (by simp)
   ·rw [if_neg c4] at H
    have c4b0 : decide (x10_1 < (l0_1.length : Int)) = false := decide_eq_false c4
    clear c4
    have H' := zm H
    clear H
    have hcz41_0 : wr.cell? ⟨gb286, 0, none⟩ = some (.slice A0_0 l0_0.length c0_0) := (blk_cell BK286.out 0).trans rfl
    have hcz41_1 : wr.cell? ⟨gb286, 1, none⟩ = some (.slice A0_1 l0_1.length c0_1) := (blk_cell BK286.out 1).trans rfl
    have hfz41_0 := blk_frozen BK286.out 0
    have hfz41_1 := blk_frozen BK286.out 1
    go_wp2
    go_loopg [45] k1 (fun kq v45 w' => ∃ (x45_2 : Int), v45 = .int .i64 x45_2 ∧ Aside0 (impl_StateOk.l1 kq l0_0 (l0_0.length : Int) x45_2 l0_0 l0_1 = some r) ∧ Aside0 (kq ≤ k1) ∧ Aside0 (w'.heap[gb286]? = some (.cells #[(.slice A0_0 l0_0.length c0_0), (.slice A0_1 l0_1.length c0_1)] 32 (0, 0))) ∧ Aside0 (Below w.heap.size w w'))
    case atStart => exact ⟨(0), zF, H', ⟨Nat.le_refl _⟩, ⟨zb BK286⟩, ⟨zB⟩⟩
    case round =>
     clear H'
     try clear c1
     try clear p2
     try clear q2
     try clear hx2
     try clear c3
     try clear c4
     try clear c4b0
     try clear c5
     try clear c6
     try clear p6
     try clear c8
     try clear c9
     try clear c10
     try clear p28
     try clear q28
     try clear hx28
     try clear c32
     try clear c37
     try clear hcz33_0
     try clear hcz33_1
     try clear hcz38_0
     try clear hcz38_1
     try clear hcz41_0
     try clear hcz41_1
     try clear hfz33_0
     try clear hfz33_1
     try clear hfz38_0
     try clear hfz38_1
     try clear hfz41_0
     try clear hfz41_1
     try clear hx287_0
     try clear hx287_1
     try clear p287
     try clear q287
     obtain ⟨x45_2, rfl, HA, HK2, BK286, HB⟩ := hrel
     cases gk with
     | zero => exact absurd HA.out (by simp [impl_StateOk.l1])
     | succ k2 =>
      have H := HA.out
      clear HA
      simp only [impl_StateOk.l1] at H
      by_cases c42 : x45_2 < (l0_0.length : Int)
      ·rw [if_pos c42] at H
       have c42b0 : decide (x45_2 < (l0_0.length : Int)) = true := decide_eq_true c42
       clear c42
       by_cases c43 : 0 ≤ x45_2
       ·rw [if_pos c43] at H
        have c43b0 : decide (0 ≤ x45_2) = true := decide_eq_true c43
        clear c43
        by_cases c44 : x45_2 < (l0_0.length : Int)
        ·rw [if_pos c44] at H
         have c44b0 : decide (x45_2 < (l0_0.length : Int)) = true := decide_eq_true c44
         clear c44
         replace H := Option.bind_eq_some_iff.mp H
         obtain ⟨t294, A450, H⟩ := H
         replace H : (if t294 = true then ((impl_EntryOk.f ((rd_T68 l0_0 x45_2).f1.f0) ((rd_T68 l0_0 x45_2).f1.f1) ((rd_T68 l0_0 x45_2).f1.f2) ((rd_T68 l0_0 x45_2).f1.f3) ((rd_T68 l0_0 x45_2).f1.f4)).bind fun t295 => (if t295 = true then ((impl_FloorOf.f k2 l0_0 l0_1 ((rd_T68 l0_0 x45_2).f0)).bind fun t296 => (if ((rd_T68 l0_0 x45_2).f1.f0) ≤ t296 then (some false) else (if x45_2 > 0 then (if 0 ≤ (wrap64 (x45_2 - 1)) then (if (wrap64 (x45_2 - 1)) < (l0_0.length : Int) then (if ((rd_T68 l0_0 (wrap64 (x45_2 - 1))).f0) ≥ ((rd_T68 l0_0 x45_2).f0) then (some false) else (impl_StateOk.l1 k2 l0_0 (l0_0.length : Int) (wrap64 (x45_2 + 1)) l0_0 l0_1)) else (none)) else (none)) else (impl_StateOk.l1 k2 l0_0 (l0_0.length : Int) (wrap64 (x45_2 + 1)) l0_0 l0_1)))) else (some false))) else (some false)) = some r := H
         have A45 := zm A450
         clear A450
         by_cases c46 : t294 = true
         ·subst c46
          have H1 : ((impl_EntryOk.f ((rd_T68 l0_0 x45_2).f1.f0) ((rd_T68 l0_0 x45_2).f1.f1) ((rd_T68 l0_0 x45_2).f1.f2) ((rd_T68 l0_0 x45_2).f1.f3) ((rd_T68 l0_0 x45_2).f1.f4)).bind fun t295 => (if t295 = true then ((impl_FloorOf.f k2 l0_0 l0_1 ((rd_T68 l0_0 x45_2).f0)).bind fun t296 => (if ((rd_T68 l0_0 x45_2).f1.f0) ≤ t296 then (some false) else (if x45_2 > 0 then (if 0 ≤ (wrap64 (x45_2 - 1)) then (if (wrap64 (x45_2 - 1)) < (l0_0.length : Int) then (if ((rd_T68 l0_0 (wrap64 (x45_2 - 1))).f0) ≥ ((rd_T68 l0_0 x45_2).f0) then (some false) else (impl_StateOk.l1 k2 l0_0 (l0_0.length : Int) (wrap64 (x45_2 + 1)) l0_0 l0_1)) else (none)) else (none)) else (impl_StateOk.l1 k2 l0_0 (l0_0.length : Int) (wrap64 (x45_2 + 1)) l0_0 l0_1)))) else (some false))) = some r := by rw [if_pos rfl] at H; exact H
          clear H
          have H := H1
          clear H1
          replace H := Option.bind_eq_some_iff.mp H
          obtain ⟨t295, A470, H⟩ := H
          replace H : (if t295 = true then ((impl_FloorOf.f k2 l0_0 l0_1 ((rd_T68 l0_0 x45_2).f0)).bind fun t296 => (if ((rd_T68 l0_0 x45_2).f1.f0) ≤ t296 then (some false) else (if x45_2 > 0 then (if 0 ≤ (wrap64 (x45_2 - 1)) then (if (wrap64 (x45_2 - 1)) < (l0_0.length : Int) then (if ((rd_T68 l0_0 (wrap64 (x45_2 - 1))).f0) ≥ ((rd_T68 l0_0 x45_2).f0) then (some false) else (impl_StateOk.l1 k2 l0_0 (l0_0.length : Int) (wrap64 (x45_2 + 1)) l0_0 l0_1)) else (none)) else (none)) else (impl_StateOk.l1 k2 l0_0 (l0_0.length : Int) (wrap64 (x45_2 + 1)) l0_0 l0_1)))) else (some false)) = some r := H
          have A47 := zm A470
          clear A470
          by_cases c48 : t295 = true
          ·subst c48
           have H1 : ((impl_FloorOf.f k2 l0_0 l0_1 ((rd_T68 l0_0 x45_2).f0)).bind fun t296 => (if ((rd_T68 l0_0 x45_2).f1.f0) ≤ t296 then (some false) else (if x45_2 > 0 then (if 0 ≤ (wrap64 (x45_2 - 1)) then (if (wrap64 (x45_2 - 1)) < (l0_0.length : Int) then (if ((rd_T68 l0_0 (wrap64 (x45_2 - 1))).f0) ≥ ((rd_T68 l0_0 x45_2).f0) then (some false) else (impl_StateOk.l1 k2 l0_0 (l0_0.length : Int) (wrap64 (x45_2 + 1)) l0_0 l0_1)) else (none)) else (none)) else (impl_StateOk.l1 k2 l0_0 (l0_0.length : Int) (wrap64 (x45_2 + 1)) l0_0 l0_1)))) = some r := by rw [if_pos rfl] at H; exact H
           clear H
           have H := H1
           clear H1
           replace H := Option.bind_eq_some_iff.mp H
           obtain ⟨t296, A490, H⟩ := H
           replace H : (if ((rd_T68 l0_0 x45_2).f1.f0) ≤ t296 then (some false) else (if x45_2 > 0 then (if 0 ≤ (wrap64 (x45_2 - 1)) then (if (wrap64 (x45_2 - 1)) < (l0_0.length : Int) then (if ((rd_T68 l0_0 (wrap64 (x45_2 - 1))).f0) ≥ ((rd_T68 l0_0 x45_2).f0) then (some false) else (impl_StateOk.l1 k2 l0_0 (l0_0.length : Int) (wrap64 (x45_2 + 1)) l0_0 l0_1)) else (none)) else (none)) else (impl_StateOk.l1 k2 l0_0 (l0_0.length : Int) (wrap64 (x45_2 + 1)) l0_0 l0_1))) = some r := H
           have A49 := zm A490
           clear A490
           by_cases c50 : ((rd_T68 l0_0 x45_2).f1.f0) ≤ t296
           ·rw [if_pos c50] at H
            have c50b0 : decide (((rd_T68 l0_0 x45_2).f1.f0) ≤ t296) = true := decide_eq_true c50
            clear c50
            obtain rfl := Option.some.inj H
            have p292 : 0 ≤ (x45_2 : Int) := zd
            have q292 : x45_2 < (l0_0.length : Int) := zd
            obtain ⟨ad292, e292, hx292_0, hx292_1, hx292_2, hx292_3, hx292_4, hx292_5⟩ := at_T68 (Kd.C_below HR0_0.out HB.out) x45_2 p292 q292
            cases e292
            replace p292 := eq_true p292
            replace q292 := eq_true q292
            try go_wp2_with (first | ((with_reducible refine gate_dst (N := 6) rfl ?_); refine zbox 6 #[.int .i64 0, .int .i64 0, .int .i64 0, .int .i64 0, .int .i64 0, .string (⟨#[]⟩ : ByteArray)] 68 ?_; intro gb293 hg w51 hbox hb; have BK293 := zm (hbox); have GW293 := zge w hg zB; have GE293 := zge w hg zB; replace HB := zm (below_step zB hb); have NB286_293 := zlt hg (zb BK286); have NB293_286 := zgt hg (zb BK286); replace BK286 := zm (blk_below (zb BK286) hb); clear hb hbox hg; have hnb52 := NB293_286.out; have hnc52 := NB286_293.out; have hcz53_0 : w51.cell? ⟨gb293, 0, none⟩ = some (.int .i64 0) := (blk_cell BK293.out 0).trans rfl; have hcz53_1 : w51.cell? ⟨gb293, 1, none⟩ = some (.int .i64 0) := (blk_cell BK293.out 1).trans rfl; have hcz53_2 : w51.cell? ⟨gb293, 2, none⟩ = some (.int .i64 0) := (blk_cell BK293.out 2).trans rfl; have hcz53_3 : w51.cell? ⟨gb293, 3, none⟩ = some (.int .i64 0) := (blk_cell BK293.out 3).trans rfl; have hcz53_4 : w51.cell? ⟨gb293, 4, none⟩ = some (.int .i64 0) := (blk_cell BK293.out 4).trans rfl; have hcz53_5 : w51.cell? ⟨gb293, 5, none⟩ = some (.string (⟨#[]⟩ : ByteArray)) := (blk_cell BK293.out 5).trans rfl; have hfz53_0 := blk_frozen BK293.out 0; have hfz53_1 := blk_frozen BK293.out 1; have hfz53_2 := blk_frozen BK293.out 2; have hfz53_3 := blk_frozen BK293.out 3; have hfz53_4 := blk_frozen BK293.out 4; have hfz53_5 := blk_frozen BK293.out 5))
            obtain ⟨w54, hW_⟩ : ∃ q, q = ((((((w51.setCell ⟨gb293, 0, none⟩ (.int .i64 ((rd_T68 l0_0 x45_2).f0))).setCell ⟨gb293, 1, none⟩ (.int .i64 ((rd_T68 l0_0 x45_2).f1.f0))).setCell ⟨gb293, 2, none⟩ (.int .i64 ((rd_T68 l0_0 x45_2).f1.f1))).setCell ⟨gb293, 3, none⟩ (.int .i64 ((rd_T68 l0_0 x45_2).f1.f2))).setCell ⟨gb293, 4, none⟩ (.int .i64 ((rd_T68 l0_0 x45_2).f1.f3))).setCell ⟨gb293, 5, none⟩ (.string ((rd_T68 l0_0 x45_2).f1.f4))) := ⟨_, rfl⟩
            have n0_ : Aside0 (w54.heap[gb286]? = some (.cells #[.slice (some ad292) l0_0.length c0_0, .slice A0_1 l0_1.length c0_1] 32 (0, 0))) := ⟨by rw [hW_]; exact zfar (zfar (zfar (zfar (zfar (zfar (zb BK286) NB286_293) NB286_293) NB286_293) NB286_293) NB286_293) NB286_293⟩
            have n1_ : Aside0 (w54.heap[gb293]? = some (.cells #[.int .i64 ((rd_T68 l0_0 x45_2).f0), .int .i64 ((rd_T68 l0_0 x45_2).f1.f0), .int .i64 ((rd_T68 l0_0 x45_2).f1.f1), .int .i64 ((rd_T68 l0_0 x45_2).f1.f2), .int .i64 ((rd_T68 l0_0 x45_2).f1.f3), .string ((rd_T68 l0_0 x45_2).f1.f4)] 68 (0, 0))) := ⟨by rw [hW_]; exact zput (zput (zput (zput (zput (zput (zb BK293) 0) 1) 2) 3) 4) 5⟩
            have n2_ : Aside0 (Below w.heap.size w w54) := ⟨by rw [hW_]; exact zB⟩
            rw [← hW_]
            clear hW_
            (try clear BK286)
            (try clear BK293)
            (try clear HB)
            have BK286 := n0_
            have BK293 := n1_
            have HB := n2_
            clear n0_ n1_ n2_
            replace BK286 := zm (blk_drew BK286.out)
            replace BK293 := zm (blk_drew BK293.out)
            replace HB := zm (below_drew1 HB.out)
            refine start_ (n := 36) (S := fun w' => w'.cell? ⟨gb293, 0, none⟩ = some (.int .i64 ((rd_T68 l0_0 x45_2).f0)) ∧ w'.cell? ⟨gb293, 1, none⟩ = some (.int .i64 ((rd_T68 l0_0 x45_2).f1.f0)) ∧ w'.cell? ⟨gb293, 2, none⟩ = some (.int .i64 ((rd_T68 l0_0 x45_2).f1.f1)) ∧ w'.cell? ⟨gb293, 3, none⟩ = some (.int .i64 ((rd_T68 l0_0 x45_2).f1.f2)) ∧ w'.cell? ⟨gb293, 4, none⟩ = some (.int .i64 ((rd_T68 l0_0 x45_2).f1.f3)) ∧ w'.cell? ⟨gb293, 5, none⟩ = some (.string ((rd_T68 l0_0 x45_2).f1.f4)) ∧ w'.cell? ⟨gb286, 0, none⟩ = some (.slice (some ad292) l0_0.length c0_0) ∧ w'.cell? ⟨gb286, 1, none⟩ = some (.slice A0_1 l0_1.length c0_1)) (ds := []) (zl 36 0) (by kernel_rfl) rfl rfl ⟨(blk_cell BK293.out 0).trans rfl, (blk_cell BK293.out 1).trans rfl, (blk_cell BK293.out 2).trans rfl, (blk_cell BK293.out 3).trans rfl, (blk_cell BK293.out 4).trans rfl, (blk_cell BK293.out 5).trans rfl, (blk_cell BK286.out 0).trans rfl, (blk_cell BK286.out 1).trans rfl⟩ (fun hHeld => ?_); refine with_tabW impl_StateOk.tab10 impl_StateOk.bits10 (fun HT_ HW_ => ?_)
            generalize w54.drew = w55 at BK286 BK293 HB hHeld ⊢
            refine zp 0 (some 50) (zl 36 1) ?_
            refine zt 1 (some 51) (zl 36 3) ?_
            refine zo 2 (some 52) (zl 36 7) (fun K hK => ?_)
            refine zgo #[.int .i64 ((rd_T68 l0_0 x45_2).f0)] Try.func94 ?_
            with_reducible refine (impl_isNode.calls ((rd_T68 l0_0 x45_2).f0) true _ A45.out).mono ?_
            rintro e w' ⟨rfl, ⟨nd, rfl⟩⟩
            refine ⟨_, rfl, ?_⟩
            refine hK.out _ _ ⟨(blk_cell BK293.out 0).trans rfl, (blk_cell BK293.out 1).trans rfl, (blk_cell BK293.out 2).trans rfl, (blk_cell BK293.out 3).trans rfl, (blk_cell BK293.out 4).trans rfl, (blk_cell BK293.out 5).trans rfl, (blk_cell BK286.out 0).trans rfl, (blk_cell BK286.out 1).trans rfl⟩ (fun hHeld => ?_)
            clear hK K
            refine zn ?_
            refine zp 3 (some 53) (zl 36 15) ?_
            refine zp 4 (some 54) (zl 36 31) ?_
            refine zp 5 (some 55) (zl 36 63) ?_
            refine zt 6 (some 56) (zl 36 127) ?_
            refine zo 7 (some 57) (zl 36 255) (fun K hK => ?_)
            refine zgo #[.agg #[.int .i64 ((rd_T68 l0_0 x45_2).f1.f0), .int .i64 ((rd_T68 l0_0 x45_2).f1.f1), .int .i64 ((rd_T68 l0_0 x45_2).f1.f2), .int .i64 ((rd_T68 l0_0 x45_2).f1.f3), .string ((rd_T68 l0_0 x45_2).f1.f4)]] Try.func95 ?_
            with_reducible refine (impl_EntryOk.calls ((rd_T68 l0_0 x45_2).f1.f0) ((rd_T68 l0_0 x45_2).f1.f1) ((rd_T68 l0_0 x45_2).f1.f2) ((rd_T68 l0_0 x45_2).f1.f3) ((rd_T68 l0_0 x45_2).f1.f4) true _ A47.out).mono ?_
            rintro e w56 ⟨rfl, hb⟩
            refine ⟨_, rfl, ?_⟩
            replace BK286 := zm (blk_below (zb BK286) hb)
            replace BK293 := zm (blk_below (zb BK293) hb)
            replace HB := zm (below_step zB hb)
            (try clear hb)
            (try clear hb2)
            (try clear hk)
            (try clear hi)
            refine hK.out _ _ ⟨(blk_cell BK293.out 0).trans rfl, (blk_cell BK293.out 1).trans rfl, (blk_cell BK293.out 2).trans rfl, (blk_cell BK293.out 3).trans rfl, (blk_cell BK293.out 4).trans rfl, (blk_cell BK293.out 5).trans rfl, (blk_cell BK286.out 0).trans rfl, (blk_cell BK286.out 1).trans rfl⟩ (fun hHeld => ?_)
            clear hK K
            refine zn ?_
            refine zp 8 (some 58) (zl 36 511) ?_
            refine zp 9 (some 59) (zl 36 1023) ?_
            refine zp 10 (some 60) (zl 36 2047) ?_
            refine zp 11 (some 61) (zl 36 4095) ?_
            refine zp 12 (some 62) (zl 36 8191) ?_
            refine zp 15 (some 65) (zl 36 40959) ?_
            refine zt 13 (some 63) (zl 36 49151) ?_
            refine zt 14 (some 64) (zl 36 65535) ?_
            refine zt 16 (some 66) (zl 36 131071) ?_
            refine zo 17 (some 67) (zl 36 262143) (fun K hK => ?_)
            refine zgo #[.agg #[.slice (some ad292) l0_0.length c0_0, .slice A0_1 l0_1.length c0_1], .int .i64 ((rd_T68 l0_0 x45_2).f0)] Try.func77 ?_
            with_reducible refine (impl_FloorOf.calls k2 _ _ l0_0 _ _ l0_1 ((rd_T68 l0_0 x45_2).f0) t296 _ (zk (Kd.C_below HR0_0.out HB.out)) HC0_0.out (zk (Kd.C_below HR0_1.out HB.out)) HC0_1.out A49.out).mono ?_
            rintro e w57 ⟨rfl, hb⟩
            refine ⟨_, rfl, ?_⟩
            replace BK286 := zm (blk_below (zb BK286) hb)
            replace BK293 := zm (blk_below (zb BK293) hb)
            replace HB := zm (below_step zB hb)
            (try clear hb)
            (try clear hb2)
            (try clear hk)
            (try clear hi)
            refine hK.out _ _ ⟨(blk_cell BK293.out 0).trans rfl, (blk_cell BK293.out 1).trans rfl, (blk_cell BK293.out 2).trans rfl, (blk_cell BK293.out 3).trans rfl, (blk_cell BK293.out 4).trans rfl, (blk_cell BK293.out 5).trans rfl, (blk_cell BK286.out 0).trans rfl, (blk_cell BK286.out 1).trans rfl⟩ (fun hHeld => ?_)
            clear hK K
            refine zn ?_
            refine zp 18 (some 68) (zl 36 524287) ?_
            refine zp 19 (some 69) (zl 36 1048575) ?_
            refine zp 20 (some 70) (zl 36 2097151) ?_
            refine zp 21 (some 71) (zl 36 4194303) ?_
            refine zp 22 (some 72) (zl 36 8388607) ?_
            refine zp 23 (some 73) (zl 36 16777215) ?_
            refine zp 24 (some 74) (zl 36 33554431) ?_
            refine zp 25 (some 75) (zl 36 67108863) ?_
            refine zp 26 (some 76) (zl 36 134217727) ?_
            refine zp 27 (some 77) (zl 36 268435455) ?_
            refine zp 28 (some 78) (zl 36 536870911) ?_
            refine zp 29 (some 79) (zl 36 1073741823) ?_
            refine zp 30 (some 80) (zl 36 2147483647) ?_
            refine zp 31 (some 81) (zl 36 4294967295) ?_
            refine zp 32 (some 82) (zl 36 8589934591) ?_
            refine zp 33 (some 83) (zl 36 17179869183) ?_
            refine zp 34 (some 84) (zl 36 34359738367) ?_
            refine zp 35 (some 85) (zl 36 68719476735) ?_
            refine done_ (done_of HT_.out (by kernel_rfl)) ?_
            try go_wp2
            go_ret
            exact ⟨zE, zB⟩
           ·rw [if_neg c50] at H
            have c50b0 : decide (((rd_T68 l0_0 x45_2).f1.f0) ≤ t296) = false := decide_eq_false c50
            clear c50
            by_cases c58 : x45_2 > 0
            ·rw [if_pos c58] at H
             have c58b0 : decide (0 < x45_2) = true := decide_eq_true c58
             clear c58
             obtain ⟨ji59, hji59⟩ : ∃ j_ : Int, (wrap64 (x45_2 - 1)) = j_ := ⟨_, rfl⟩
             replace H : (if 0 ≤ (ji59) then (if (ji59) < (l0_0.length : Int) then (if ((rd_T68 l0_0 (ji59)).f0) ≥ ((rd_T68 l0_0 x45_2).f0) then (some false) else (impl_StateOk.l1 k2 l0_0 (l0_0.length : Int) (wrap64 (x45_2 + 1)) l0_0 l0_1)) else (none)) else (none)) = some r := by first | (rw [hji59] at H; exact H) | (simp only [hji59] at H ⊢; exact H)
             (try rw [hji59] at A45)
             (try rw [hji59] at A47)
             (try rw [hji59] at A49)
             have hji59w : (IntKind.i64.wrap (x45_2 - 1)) = ji59 := (i64_w _).trans hji59
             by_cases c60 : 0 ≤ (ji59)
             ·rw [if_pos c60] at H
              have c60b0 : decide (0 ≤ (ji59)) = true := decide_eq_true c60
              clear c60
              by_cases c61 : (ji59) < (l0_0.length : Int)
              ·rw [if_pos c61] at H
               have c61b0 : decide ((ji59) < (l0_0.length : Int)) = true := decide_eq_true c61
               clear c61
               by_cases c62 : ((rd_T68 l0_0 (ji59)).f0) ≥ ((rd_T68 l0_0 x45_2).f0)
               ·rw [if_pos c62] at H
                have c62b0 : decide (((rd_T68 l0_0 x45_2).f0) ≤ ((rd_T68 l0_0 (ji59)).f0)) = true := decide_eq_true c62
                clear c62
                obtain rfl := Option.some.inj H
                have p292 : 0 ≤ (x45_2 : Int) := zd
                have q292 : x45_2 < (l0_0.length : Int) := zd
                obtain ⟨ad292, e292, hx292_0, hx292_1, hx292_2, hx292_3, hx292_4, hx292_5⟩ := at_T68 (Kd.C_below HR0_0.out HB.out) x45_2 p292 q292
                cases e292
                replace p292 := eq_true p292
                replace q292 := eq_true q292
                try go_wp2_with (first | ((with_reducible refine gate_dst (N := 6) rfl ?_); refine zbox 6 #[.int .i64 0, .int .i64 0, .int .i64 0, .int .i64 0, .int .i64 0, .string (⟨#[]⟩ : ByteArray)] 68 ?_; intro gb293 hg w63 hbox hb; have BK293 := zm (hbox); have GW293 := zge w hg zB; have GE293 := zge w hg zB; replace HB := zm (below_step zB hb); have NB286_293 := zlt hg (zb BK286); have NB293_286 := zgt hg (zb BK286); replace BK286 := zm (blk_below (zb BK286) hb); clear hb hbox hg; have hnb64 := NB293_286.out; have hnc64 := NB286_293.out; have hcz65_0 : w63.cell? ⟨gb293, 0, none⟩ = some (.int .i64 0) := (blk_cell BK293.out 0).trans rfl; have hcz65_1 : w63.cell? ⟨gb293, 1, none⟩ = some (.int .i64 0) := (blk_cell BK293.out 1).trans rfl; have hcz65_2 : w63.cell? ⟨gb293, 2, none⟩ = some (.int .i64 0) := (blk_cell BK293.out 2).trans rfl; have hcz65_3 : w63.cell? ⟨gb293, 3, none⟩ = some (.int .i64 0) := (blk_cell BK293.out 3).trans rfl; have hcz65_4 : w63.cell? ⟨gb293, 4, none⟩ = some (.int .i64 0) := (blk_cell BK293.out 4).trans rfl; have hcz65_5 : w63.cell? ⟨gb293, 5, none⟩ = some (.string (⟨#[]⟩ : ByteArray)) := (blk_cell BK293.out 5).trans rfl; have hfz65_0 := blk_frozen BK293.out 0; have hfz65_1 := blk_frozen BK293.out 1; have hfz65_2 := blk_frozen BK293.out 2; have hfz65_3 := blk_frozen BK293.out 3; have hfz65_4 := blk_frozen BK293.out 4; have hfz65_5 := blk_frozen BK293.out 5))
                obtain ⟨w66, hW_⟩ : ∃ q, q = ((((((w63.setCell ⟨gb293, 0, none⟩ (.int .i64 ((rd_T68 l0_0 x45_2).f0))).setCell ⟨gb293, 1, none⟩ (.int .i64 ((rd_T68 l0_0 x45_2).f1.f0))).setCell ⟨gb293, 2, none⟩ (.int .i64 ((rd_T68 l0_0 x45_2).f1.f1))).setCell ⟨gb293, 3, none⟩ (.int .i64 ((rd_T68 l0_0 x45_2).f1.f2))).setCell ⟨gb293, 4, none⟩ (.int .i64 ((rd_T68 l0_0 x45_2).f1.f3))).setCell ⟨gb293, 5, none⟩ (.string ((rd_T68 l0_0 x45_2).f1.f4))) := ⟨_, rfl⟩
                have n0_ : Aside0 (w66.heap[gb286]? = some (.cells #[.slice (some ad292) l0_0.length c0_0, .slice A0_1 l0_1.length c0_1] 32 (0, 0))) := ⟨by rw [hW_]; exact zfar (zfar (zfar (zfar (zfar (zfar (zb BK286) NB286_293) NB286_293) NB286_293) NB286_293) NB286_293) NB286_293⟩
                have n1_ : Aside0 (w66.heap[gb293]? = some (.cells #[.int .i64 ((rd_T68 l0_0 x45_2).f0), .int .i64 ((rd_T68 l0_0 x45_2).f1.f0), .int .i64 ((rd_T68 l0_0 x45_2).f1.f1), .int .i64 ((rd_T68 l0_0 x45_2).f1.f2), .int .i64 ((rd_T68 l0_0 x45_2).f1.f3), .string ((rd_T68 l0_0 x45_2).f1.f4)] 68 (0, 0))) := ⟨by rw [hW_]; exact zput (zput (zput (zput (zput (zput (zb BK293) 0) 1) 2) 3) 4) 5⟩
                have n2_ : Aside0 (Below w.heap.size w w66) := ⟨by rw [hW_]; exact zB⟩
                rw [← hW_]
                clear hW_
                (try clear BK286)
                (try clear BK293)
                (try clear HB)
                have BK286 := n0_
                have BK293 := n1_
                have HB := n2_
                clear n0_ n1_ n2_
                replace BK286 := zm (blk_drew BK286.out)
                replace BK293 := zm (blk_drew BK293.out)
                replace HB := zm (below_drew1 HB.out)
                have p297 : 0 ≤ ((ji59) : Int) := zd
                have q297 : (ji59) < (l0_0.length : Int) := zd
                obtain ⟨ad297, e297, hx297_0, hx297_1, hx297_2, hx297_3, hx297_4, hx297_5⟩ := at_T68 HR0_0.out (ji59) p297 q297
                have hw297_5 := hx297_5
                have hw297_4 := hx297_4
                have hw297_3 := hx297_3
                have hw297_2 := hx297_2
                have hw297_1 := hx297_1
                have hw297_0 := hx297_0
                obtain rfl : ad292 = ad297 := (by injection e297)
                replace hx297_0 := (HB.out.cell (World.block_lt_of_cell? w _ hx297_0)).trans hx297_0
                replace hx297_1 := (HB.out.cell (World.block_lt_of_cell? w _ hx297_1)).trans hx297_1
                replace hx297_2 := (HB.out.cell (World.block_lt_of_cell? w _ hx297_2)).trans hx297_2
                replace hx297_3 := (HB.out.cell (World.block_lt_of_cell? w _ hx297_3)).trans hx297_3
                replace hx297_4 := (HB.out.cell (World.block_lt_of_cell? w _ hx297_4)).trans hx297_4
                replace hx297_5 := (HB.out.cell (World.block_lt_of_cell? w _ hx297_5)).trans hx297_5
                replace p297 := eq_true p297
                replace q297 := eq_true q297
                refine start_ (n := 36) (S := fun w' => w'.cell? ⟨gb293, 0, none⟩ = some (.int .i64 ((rd_T68 l0_0 x45_2).f0)) ∧ w'.cell? ⟨gb293, 1, none⟩ = some (.int .i64 ((rd_T68 l0_0 x45_2).f1.f0)) ∧ w'.cell? ⟨gb293, 2, none⟩ = some (.int .i64 ((rd_T68 l0_0 x45_2).f1.f1)) ∧ w'.cell? ⟨gb293, 3, none⟩ = some (.int .i64 ((rd_T68 l0_0 x45_2).f1.f2)) ∧ w'.cell? ⟨gb293, 4, none⟩ = some (.int .i64 ((rd_T68 l0_0 x45_2).f1.f3)) ∧ w'.cell? ⟨gb293, 5, none⟩ = some (.string ((rd_T68 l0_0 x45_2).f1.f4)) ∧ w'.cell? ⟨gb286, 0, none⟩ = some (.slice (some ad292) l0_0.length c0_0) ∧ w'.cell? ⟨gb286, 1, none⟩ = some (.slice A0_1 l0_1.length c0_1) ∧ w'.cell? (ad292.add (((ji59)).toNat * 6)) = some (.int .i64 ((rd_T68 l0_0 (ji59)).f0)) ∧ w'.cell? ⟨(ad292.add (((ji59)).toNat * 6)).block, (ad292.add (((ji59)).toNat * 6)).off + 1, none⟩ = some (.int .i64 ((rd_T68 l0_0 (ji59)).f1.f0)) ∧ w'.cell? ⟨(ad292.add (((ji59)).toNat * 6)).block, (ad292.add (((ji59)).toNat * 6)).off + 2, none⟩ = some (.int .i64 ((rd_T68 l0_0 (ji59)).f1.f1)) ∧ w'.cell? ⟨(ad292.add (((ji59)).toNat * 6)).block, (ad292.add (((ji59)).toNat * 6)).off + 3, none⟩ = some (.int .i64 ((rd_T68 l0_0 (ji59)).f1.f2)) ∧ w'.cell? ⟨(ad292.add (((ji59)).toNat * 6)).block, (ad292.add (((ji59)).toNat * 6)).off + 4, none⟩ = some (.int .i64 ((rd_T68 l0_0 (ji59)).f1.f3)) ∧ w'.cell? ⟨(ad292.add (((ji59)).toNat * 6)).block, (ad292.add (((ji59)).toNat * 6)).off + 5, none⟩ = some (.string ((rd_T68 l0_0 (ji59)).f1.f4))) (ds := []) (zl 36 0) (by kernel_rfl) rfl rfl ⟨(blk_cell BK293.out 0).trans rfl, (blk_cell BK293.out 1).trans rfl, (blk_cell BK293.out 2).trans rfl, (blk_cell BK293.out 3).trans rfl, (blk_cell BK293.out 4).trans rfl, (blk_cell BK293.out 5).trans rfl, (blk_cell BK286.out 0).trans rfl, (blk_cell BK286.out 1).trans rfl, ((HB.out.cell (World.block_lt_of_cell? w _ hw297_0)).trans hw297_0), ((HB.out.cell (World.block_lt_of_cell? w _ hw297_1)).trans hw297_1), ((HB.out.cell (World.block_lt_of_cell? w _ hw297_2)).trans hw297_2), ((HB.out.cell (World.block_lt_of_cell? w _ hw297_3)).trans hw297_3), ((HB.out.cell (World.block_lt_of_cell? w _ hw297_4)).trans hw297_4), ((HB.out.cell (World.block_lt_of_cell? w _ hw297_5)).trans hw297_5)⟩ (fun hHeld => ?_); refine with_tabW impl_StateOk.tab10 impl_StateOk.bits10 (fun HT_ HW_ => ?_)
                generalize w66.drew = w67 at BK286 BK293 HB hx297_0 hx297_1 hx297_2 hx297_3 hx297_4 hx297_5 hHeld ⊢
                refine zp 0 (some 50) (zl 36 1) ?_
                refine zt 1 (some 51) (zl 36 3) ?_
                refine zo 2 (some 52) (zl 36 7) (fun K hK => ?_)
                refine zgo #[.int .i64 ((rd_T68 l0_0 x45_2).f0)] Try.func94 ?_
                with_reducible refine (impl_isNode.calls ((rd_T68 l0_0 x45_2).f0) true _ A45.out).mono ?_
                rintro e w' ⟨rfl, ⟨nd, rfl⟩⟩
                refine ⟨_, rfl, ?_⟩
                refine hK.out _ _ ⟨(blk_cell BK293.out 0).trans rfl, (blk_cell BK293.out 1).trans rfl, (blk_cell BK293.out 2).trans rfl, (blk_cell BK293.out 3).trans rfl, (blk_cell BK293.out 4).trans rfl, (blk_cell BK293.out 5).trans rfl, (blk_cell BK286.out 0).trans rfl, (blk_cell BK286.out 1).trans rfl, ((HB.out.cell (World.block_lt_of_cell? w _ hw297_0)).trans hw297_0), ((HB.out.cell (World.block_lt_of_cell? w _ hw297_1)).trans hw297_1), ((HB.out.cell (World.block_lt_of_cell? w _ hw297_2)).trans hw297_2), ((HB.out.cell (World.block_lt_of_cell? w _ hw297_3)).trans hw297_3), ((HB.out.cell (World.block_lt_of_cell? w _ hw297_4)).trans hw297_4), ((HB.out.cell (World.block_lt_of_cell? w _ hw297_5)).trans hw297_5)⟩ (fun hHeld => ?_)
                clear hK K
                refine zn ?_
                refine zp 3 (some 53) (zl 36 15) ?_
                refine zp 4 (some 54) (zl 36 31) ?_
                refine zp 5 (some 55) (zl 36 63) ?_
                refine zt 6 (some 56) (zl 36 127) ?_
                refine zo 7 (some 57) (zl 36 255) (fun K hK => ?_)
                refine zgo #[.agg #[.int .i64 ((rd_T68 l0_0 x45_2).f1.f0), .int .i64 ((rd_T68 l0_0 x45_2).f1.f1), .int .i64 ((rd_T68 l0_0 x45_2).f1.f2), .int .i64 ((rd_T68 l0_0 x45_2).f1.f3), .string ((rd_T68 l0_0 x45_2).f1.f4)]] Try.func95 ?_
                with_reducible refine (impl_EntryOk.calls ((rd_T68 l0_0 x45_2).f1.f0) ((rd_T68 l0_0 x45_2).f1.f1) ((rd_T68 l0_0 x45_2).f1.f2) ((rd_T68 l0_0 x45_2).f1.f3) ((rd_T68 l0_0 x45_2).f1.f4) true _ A47.out).mono ?_
                rintro e w68 ⟨rfl, hb⟩
                refine ⟨_, rfl, ?_⟩
                replace BK286 := zm (blk_below (zb BK286) hb)
                replace BK293 := zm (blk_below (zb BK293) hb)
                replace HB := zm (below_step zB hb)
                (try clear hb)
                (try clear hb2)
                (try clear hk)
                (try clear hi)
                refine hK.out _ _ ⟨(blk_cell BK293.out 0).trans rfl, (blk_cell BK293.out 1).trans rfl, (blk_cell BK293.out 2).trans rfl, (blk_cell BK293.out 3).trans rfl, (blk_cell BK293.out 4).trans rfl, (blk_cell BK293.out 5).trans rfl, (blk_cell BK286.out 0).trans rfl, (blk_cell BK286.out 1).trans rfl, ((HB.out.cell (World.block_lt_of_cell? w _ hw297_0)).trans hw297_0), ((HB.out.cell (World.block_lt_of_cell? w _ hw297_1)).trans hw297_1), ((HB.out.cell (World.block_lt_of_cell? w _ hw297_2)).trans hw297_2), ((HB.out.cell (World.block_lt_of_cell? w _ hw297_3)).trans hw297_3), ((HB.out.cell (World.block_lt_of_cell? w _ hw297_4)).trans hw297_4), ((HB.out.cell (World.block_lt_of_cell? w _ hw297_5)).trans hw297_5)⟩ (fun hHeld => ?_)
                clear hK K
                refine zn ?_
                refine zp 8 (some 58) (zl 36 511) ?_
                refine zp 9 (some 59) (zl 36 1023) ?_
                refine zp 10 (some 60) (zl 36 2047) ?_
                refine zp 11 (some 61) (zl 36 4095) ?_
                refine zp 12 (some 62) (zl 36 8191) ?_
                refine zp 15 (some 65) (zl 36 40959) ?_
                refine zt 13 (some 63) (zl 36 49151) ?_
                refine zt 14 (some 64) (zl 36 65535) ?_
                refine zt 16 (some 66) (zl 36 131071) ?_
                refine zo 17 (some 67) (zl 36 262143) (fun K hK => ?_)
                refine zgo #[.agg #[.slice (some ad292) l0_0.length c0_0, .slice A0_1 l0_1.length c0_1], .int .i64 ((rd_T68 l0_0 x45_2).f0)] Try.func77 ?_
                with_reducible refine (impl_FloorOf.calls k2 _ _ l0_0 _ _ l0_1 ((rd_T68 l0_0 x45_2).f0) t296 _ (zk (Kd.C_below HR0_0.out HB.out)) HC0_0.out (zk (Kd.C_below HR0_1.out HB.out)) HC0_1.out A49.out).mono ?_
                rintro e w69 ⟨rfl, hb⟩
                refine ⟨_, rfl, ?_⟩
                replace BK286 := zm (blk_below (zb BK286) hb)
                replace BK293 := zm (blk_below (zb BK293) hb)
                replace HB := zm (below_step zB hb)
                (try clear hb)
                (try clear hb2)
                (try clear hk)
                (try clear hi)
                refine hK.out _ _ ⟨(blk_cell BK293.out 0).trans rfl, (blk_cell BK293.out 1).trans rfl, (blk_cell BK293.out 2).trans rfl, (blk_cell BK293.out 3).trans rfl, (blk_cell BK293.out 4).trans rfl, (blk_cell BK293.out 5).trans rfl, (blk_cell BK286.out 0).trans rfl, (blk_cell BK286.out 1).trans rfl, ((HB.out.cell (World.block_lt_of_cell? w _ hw297_0)).trans hw297_0), ((HB.out.cell (World.block_lt_of_cell? w _ hw297_1)).trans hw297_1), ((HB.out.cell (World.block_lt_of_cell? w _ hw297_2)).trans hw297_2), ((HB.out.cell (World.block_lt_of_cell? w _ hw297_3)).trans hw297_3), ((HB.out.cell (World.block_lt_of_cell? w _ hw297_4)).trans hw297_4), ((HB.out.cell (World.block_lt_of_cell? w _ hw297_5)).trans hw297_5)⟩ (fun hHeld => ?_)
                clear hK K
                refine zn ?_
                refine zp 18 (some 68) (zl 36 524287) ?_
                refine zp 19 (some 69) (zl 36 1048575) ?_
                refine zp 20 (some 70) (zl 36 2097151) ?_
                refine zp 21 (some 71) (zl 36 4194303) ?_
                refine zp 22 (some 72) (zl 36 8388607) ?_
                refine zp 23 (some 73) (zl 36 16777215) ?_
                refine zp 24 (some 74) (zl 36 33554431) ?_
                refine zp 26 (some 76) (zl 36 100663295) ?_
                refine zp 27 (some 77) (zl 36 234881023) ?_
                refine zp 31 (some 81) (zl 36 2382364671) ?_
                refine zt 25 (some 75) (zl 36 2415919103) ?_
                refine zp 28 (some 78) (zl 36 2684354559) ?_
                refine zp 29 (some 79) (zl 36 3221225471) ?_
                refine zt 30 (some 80) (zl 36 4294967295) ?_
                refine zt 32 (some 82) (zl 36 8589934591) ?_
                refine zp 33 (some 83) (zl 36 17179869183) ?_
                refine zp 34 (some 84) (zl 36 34359738367) ?_
                refine zp 35 (some 85) (zl 36 68719476735) ?_
                refine done_ (done_of HT_.out (by kernel_rfl)) ?_
                try go_wp2
                go_ret
                exact ⟨by first | rfl | (simp [errW_none, errW_some] <;> rfl) | (simp only [← hji59]; first | rfl | (simp [errW_none, errW_some] <;> rfl)) | (simp [*, errW_none, errW_some] <;> rfl), zB⟩
               ·rw [if_neg c62] at H
                have c62b0 : decide (((rd_T68 l0_0 x45_2).f0) ≤ ((rd_T68 l0_0 (ji59)).f0)) = false := decide_eq_false c62
                clear c62
                have H' := zm H
                clear H
                have p292 : 0 ≤ (x45_2 : Int) := zd
                have q292 : x45_2 < (l0_0.length : Int) := zd
                obtain ⟨ad292, e292, hx292_0, hx292_1, hx292_2, hx292_3, hx292_4, hx292_5⟩ := at_T68 (Kd.C_below HR0_0.out HB.out) x45_2 p292 q292
                cases e292
                replace p292 := eq_true p292
                replace q292 := eq_true q292
                try go_wp2_with (first | ((with_reducible refine gate_dst (N := 6) rfl ?_); refine zbox 6 #[.int .i64 0, .int .i64 0, .int .i64 0, .int .i64 0, .int .i64 0, .string (⟨#[]⟩ : ByteArray)] 68 ?_; intro gb293 hg w70 hbox hb; have BK293 := zm (hbox); have GW293 := zge w hg zB; have GE293 := zge w hg zB; replace HB := zm (below_step zB hb); have NB286_293 := zlt hg (zb BK286); have NB293_286 := zgt hg (zb BK286); replace BK286 := zm (blk_below (zb BK286) hb); clear hb hbox hg; have hnb71 := NB293_286.out; have hnc71 := NB286_293.out; have hcz72_0 : w70.cell? ⟨gb293, 0, none⟩ = some (.int .i64 0) := (blk_cell BK293.out 0).trans rfl; have hcz72_1 : w70.cell? ⟨gb293, 1, none⟩ = some (.int .i64 0) := (blk_cell BK293.out 1).trans rfl; have hcz72_2 : w70.cell? ⟨gb293, 2, none⟩ = some (.int .i64 0) := (blk_cell BK293.out 2).trans rfl; have hcz72_3 : w70.cell? ⟨gb293, 3, none⟩ = some (.int .i64 0) := (blk_cell BK293.out 3).trans rfl; have hcz72_4 : w70.cell? ⟨gb293, 4, none⟩ = some (.int .i64 0) := (blk_cell BK293.out 4).trans rfl; have hcz72_5 : w70.cell? ⟨gb293, 5, none⟩ = some (.string (⟨#[]⟩ : ByteArray)) := (blk_cell BK293.out 5).trans rfl; have hfz72_0 := blk_frozen BK293.out 0; have hfz72_1 := blk_frozen BK293.out 1; have hfz72_2 := blk_frozen BK293.out 2; have hfz72_3 := blk_frozen BK293.out 3; have hfz72_4 := blk_frozen BK293.out 4; have hfz72_5 := blk_frozen BK293.out 5))
                obtain ⟨w73, hW_⟩ : ∃ q, q = ((((((w70.setCell ⟨gb293, 0, none⟩ (.int .i64 ((rd_T68 l0_0 x45_2).f0))).setCell ⟨gb293, 1, none⟩ (.int .i64 ((rd_T68 l0_0 x45_2).f1.f0))).setCell ⟨gb293, 2, none⟩ (.int .i64 ((rd_T68 l0_0 x45_2).f1.f1))).setCell ⟨gb293, 3, none⟩ (.int .i64 ((rd_T68 l0_0 x45_2).f1.f2))).setCell ⟨gb293, 4, none⟩ (.int .i64 ((rd_T68 l0_0 x45_2).f1.f3))).setCell ⟨gb293, 5, none⟩ (.string ((rd_T68 l0_0 x45_2).f1.f4))) := ⟨_, rfl⟩
                have n0_ : Aside0 (w73.heap[gb286]? = some (.cells #[.slice (some ad292) l0_0.length c0_0, .slice A0_1 l0_1.length c0_1] 32 (0, 0))) := ⟨by rw [hW_]; exact zfar (zfar (zfar (zfar (zfar (zfar (zb BK286) NB286_293) NB286_293) NB286_293) NB286_293) NB286_293) NB286_293⟩
                have n1_ : Aside0 (w73.heap[gb293]? = some (.cells #[.int .i64 ((rd_T68 l0_0 x45_2).f0), .int .i64 ((rd_T68 l0_0 x45_2).f1.f0), .int .i64 ((rd_T68 l0_0 x45_2).f1.f1), .int .i64 ((rd_T68 l0_0 x45_2).f1.f2), .int .i64 ((rd_T68 l0_0 x45_2).f1.f3), .string ((rd_T68 l0_0 x45_2).f1.f4)] 68 (0, 0))) := ⟨by rw [hW_]; exact zput (zput (zput (zput (zput (zput (zb BK293) 0) 1) 2) 3) 4) 5⟩
                have n2_ : Aside0 (Below w.heap.size w w73) := ⟨by rw [hW_]; exact zB⟩
                rw [← hW_]
                clear hW_
                (try clear BK286)
                (try clear BK293)
                (try clear HB)
                have BK286 := n0_
                have BK293 := n1_
                have HB := n2_
                clear n0_ n1_ n2_
                replace BK286 := zm (blk_drew BK286.out)
                replace BK293 := zm (blk_drew BK293.out)
                replace HB := zm (below_drew1 HB.out)
                have p297 : 0 ≤ ((ji59) : Int) := zd
                have q297 : (ji59) < (l0_0.length : Int) := zd
                obtain ⟨ad297, e297, hx297_0, hx297_1, hx297_2, hx297_3, hx297_4, hx297_5⟩ := at_T68 HR0_0.out (ji59) p297 q297
                have hw297_5 := hx297_5
                have hw297_4 := hx297_4
                have hw297_3 := hx297_3
                have hw297_2 := hx297_2
                have hw297_1 := hx297_1
                have hw297_0 := hx297_0
                obtain rfl : ad292 = ad297 := (by injection e297)
                replace hx297_0 := (HB.out.cell (World.block_lt_of_cell? w _ hx297_0)).trans hx297_0
                replace hx297_1 := (HB.out.cell (World.block_lt_of_cell? w _ hx297_1)).trans hx297_1
                replace hx297_2 := (HB.out.cell (World.block_lt_of_cell? w _ hx297_2)).trans hx297_2
                replace hx297_3 := (HB.out.cell (World.block_lt_of_cell? w _ hx297_3)).trans hx297_3
                replace hx297_4 := (HB.out.cell (World.block_lt_of_cell? w _ hx297_4)).trans hx297_4
                replace hx297_5 := (HB.out.cell (World.block_lt_of_cell? w _ hx297_5)).trans hx297_5
                replace p297 := eq_true p297
                replace q297 := eq_true q297
                refine start_ (n := 36) (S := fun w' => w'.cell? ⟨gb293, 0, none⟩ = some (.int .i64 ((rd_T68 l0_0 x45_2).f0)) ∧ w'.cell? ⟨gb293, 1, none⟩ = some (.int .i64 ((rd_T68 l0_0 x45_2).f1.f0)) ∧ w'.cell? ⟨gb293, 2, none⟩ = some (.int .i64 ((rd_T68 l0_0 x45_2).f1.f1)) ∧ w'.cell? ⟨gb293, 3, none⟩ = some (.int .i64 ((rd_T68 l0_0 x45_2).f1.f2)) ∧ w'.cell? ⟨gb293, 4, none⟩ = some (.int .i64 ((rd_T68 l0_0 x45_2).f1.f3)) ∧ w'.cell? ⟨gb293, 5, none⟩ = some (.string ((rd_T68 l0_0 x45_2).f1.f4)) ∧ w'.cell? ⟨gb286, 0, none⟩ = some (.slice (some ad292) l0_0.length c0_0) ∧ w'.cell? ⟨gb286, 1, none⟩ = some (.slice A0_1 l0_1.length c0_1) ∧ w'.cell? (ad292.add (((ji59)).toNat * 6)) = some (.int .i64 ((rd_T68 l0_0 (ji59)).f0)) ∧ w'.cell? ⟨(ad292.add (((ji59)).toNat * 6)).block, (ad292.add (((ji59)).toNat * 6)).off + 1, none⟩ = some (.int .i64 ((rd_T68 l0_0 (ji59)).f1.f0)) ∧ w'.cell? ⟨(ad292.add (((ji59)).toNat * 6)).block, (ad292.add (((ji59)).toNat * 6)).off + 2, none⟩ = some (.int .i64 ((rd_T68 l0_0 (ji59)).f1.f1)) ∧ w'.cell? ⟨(ad292.add (((ji59)).toNat * 6)).block, (ad292.add (((ji59)).toNat * 6)).off + 3, none⟩ = some (.int .i64 ((rd_T68 l0_0 (ji59)).f1.f2)) ∧ w'.cell? ⟨(ad292.add (((ji59)).toNat * 6)).block, (ad292.add (((ji59)).toNat * 6)).off + 4, none⟩ = some (.int .i64 ((rd_T68 l0_0 (ji59)).f1.f3)) ∧ w'.cell? ⟨(ad292.add (((ji59)).toNat * 6)).block, (ad292.add (((ji59)).toNat * 6)).off + 5, none⟩ = some (.string ((rd_T68 l0_0 (ji59)).f1.f4))) (ds := []) (zl 36 0) (by kernel_rfl) rfl rfl ⟨(blk_cell BK293.out 0).trans rfl, (blk_cell BK293.out 1).trans rfl, (blk_cell BK293.out 2).trans rfl, (blk_cell BK293.out 3).trans rfl, (blk_cell BK293.out 4).trans rfl, (blk_cell BK293.out 5).trans rfl, (blk_cell BK286.out 0).trans rfl, (blk_cell BK286.out 1).trans rfl, ((HB.out.cell (World.block_lt_of_cell? w _ hw297_0)).trans hw297_0), ((HB.out.cell (World.block_lt_of_cell? w _ hw297_1)).trans hw297_1), ((HB.out.cell (World.block_lt_of_cell? w _ hw297_2)).trans hw297_2), ((HB.out.cell (World.block_lt_of_cell? w _ hw297_3)).trans hw297_3), ((HB.out.cell (World.block_lt_of_cell? w _ hw297_4)).trans hw297_4), ((HB.out.cell (World.block_lt_of_cell? w _ hw297_5)).trans hw297_5)⟩ (fun hHeld => ?_); refine with_tabW impl_StateOk.tab10 impl_StateOk.bits10 (fun HT_ HW_ => ?_)
                generalize w73.drew = w74 at BK286 BK293 HB hx297_0 hx297_1 hx297_2 hx297_3 hx297_4 hx297_5 hHeld ⊢
                refine zp 0 (some 50) (zl 36 1) ?_
                refine zt 1 (some 51) (zl 36 3) ?_
                refine zo 2 (some 52) (zl 36 7) (fun K hK => ?_)
                refine zgo #[.int .i64 ((rd_T68 l0_0 x45_2).f0)] Try.func94 ?_
                with_reducible refine (impl_isNode.calls ((rd_T68 l0_0 x45_2).f0) true _ A45.out).mono ?_
                rintro e w' ⟨rfl, ⟨nd, rfl⟩⟩
                refine ⟨_, rfl, ?_⟩
                refine hK.out _ _ ⟨(blk_cell BK293.out 0).trans rfl, (blk_cell BK293.out 1).trans rfl, (blk_cell BK293.out 2).trans rfl, (blk_cell BK293.out 3).trans rfl, (blk_cell BK293.out 4).trans rfl, (blk_cell BK293.out 5).trans rfl, (blk_cell BK286.out 0).trans rfl, (blk_cell BK286.out 1).trans rfl, ((HB.out.cell (World.block_lt_of_cell? w _ hw297_0)).trans hw297_0), ((HB.out.cell (World.block_lt_of_cell? w _ hw297_1)).trans hw297_1), ((HB.out.cell (World.block_lt_of_cell? w _ hw297_2)).trans hw297_2), ((HB.out.cell (World.block_lt_of_cell? w _ hw297_3)).trans hw297_3), ((HB.out.cell (World.block_lt_of_cell? w _ hw297_4)).trans hw297_4), ((HB.out.cell (World.block_lt_of_cell? w _ hw297_5)).trans hw297_5)⟩ (fun hHeld => ?_)
                clear hK K
                refine zn ?_
                refine zp 3 (some 53) (zl 36 15) ?_
                refine zp 4 (some 54) (zl 36 31) ?_
                refine zp 5 (some 55) (zl 36 63) ?_
                refine zt 6 (some 56) (zl 36 127) ?_
                refine zo 7 (some 57) (zl 36 255) (fun K hK => ?_)
                refine zgo #[.agg #[.int .i64 ((rd_T68 l0_0 x45_2).f1.f0), .int .i64 ((rd_T68 l0_0 x45_2).f1.f1), .int .i64 ((rd_T68 l0_0 x45_2).f1.f2), .int .i64 ((rd_T68 l0_0 x45_2).f1.f3), .string ((rd_T68 l0_0 x45_2).f1.f4)]] Try.func95 ?_
                with_reducible refine (impl_EntryOk.calls ((rd_T68 l0_0 x45_2).f1.f0) ((rd_T68 l0_0 x45_2).f1.f1) ((rd_T68 l0_0 x45_2).f1.f2) ((rd_T68 l0_0 x45_2).f1.f3) ((rd_T68 l0_0 x45_2).f1.f4) true _ A47.out).mono ?_
                rintro e w75 ⟨rfl, hb⟩
                refine ⟨_, rfl, ?_⟩
                replace BK286 := zm (blk_below (zb BK286) hb)
                replace BK293 := zm (blk_below (zb BK293) hb)
                replace HB := zm (below_step zB hb)
                (try clear hb)
                (try clear hb2)
                (try clear hk)
                (try clear hi)
                refine hK.out _ _ ⟨(blk_cell BK293.out 0).trans rfl, (blk_cell BK293.out 1).trans rfl, (blk_cell BK293.out 2).trans rfl, (blk_cell BK293.out 3).trans rfl, (blk_cell BK293.out 4).trans rfl, (blk_cell BK293.out 5).trans rfl, (blk_cell BK286.out 0).trans rfl, (blk_cell BK286.out 1).trans rfl, ((HB.out.cell (World.block_lt_of_cell? w _ hw297_0)).trans hw297_0), ((HB.out.cell (World.block_lt_of_cell? w _ hw297_1)).trans hw297_1), ((HB.out.cell (World.block_lt_of_cell? w _ hw297_2)).trans hw297_2), ((HB.out.cell (World.block_lt_of_cell? w _ hw297_3)).trans hw297_3), ((HB.out.cell (World.block_lt_of_cell? w _ hw297_4)).trans hw297_4), ((HB.out.cell (World.block_lt_of_cell? w _ hw297_5)).trans hw297_5)⟩ (fun hHeld => ?_)
                clear hK K
                refine zn ?_
                refine zp 8 (some 58) (zl 36 511) ?_
                refine zp 9 (some 59) (zl 36 1023) ?_
                refine zp 10 (some 60) (zl 36 2047) ?_
                refine zp 11 (some 61) (zl 36 4095) ?_
                refine zp 12 (some 62) (zl 36 8191) ?_
                refine zp 15 (some 65) (zl 36 40959) ?_
                refine zt 13 (some 63) (zl 36 49151) ?_
                refine zt 14 (some 64) (zl 36 65535) ?_
                refine zt 16 (some 66) (zl 36 131071) ?_
                refine zo 17 (some 67) (zl 36 262143) (fun K hK => ?_)
                refine zgo #[.agg #[.slice (some ad292) l0_0.length c0_0, .slice A0_1 l0_1.length c0_1], .int .i64 ((rd_T68 l0_0 x45_2).f0)] Try.func77 ?_
                with_reducible refine (impl_FloorOf.calls k2 _ _ l0_0 _ _ l0_1 ((rd_T68 l0_0 x45_2).f0) t296 _ (zk (Kd.C_below HR0_0.out HB.out)) HC0_0.out (zk (Kd.C_below HR0_1.out HB.out)) HC0_1.out A49.out).mono ?_
                rintro e w76 ⟨rfl, hb⟩
                refine ⟨_, rfl, ?_⟩
                replace BK286 := zm (blk_below (zb BK286) hb)
                replace BK293 := zm (blk_below (zb BK293) hb)
                replace HB := zm (below_step zB hb)
                (try clear hb)
                (try clear hb2)
                (try clear hk)
                (try clear hi)
                refine hK.out _ _ ⟨(blk_cell BK293.out 0).trans rfl, (blk_cell BK293.out 1).trans rfl, (blk_cell BK293.out 2).trans rfl, (blk_cell BK293.out 3).trans rfl, (blk_cell BK293.out 4).trans rfl, (blk_cell BK293.out 5).trans rfl, (blk_cell BK286.out 0).trans rfl, (blk_cell BK286.out 1).trans rfl, ((HB.out.cell (World.block_lt_of_cell? w _ hw297_0)).trans hw297_0), ((HB.out.cell (World.block_lt_of_cell? w _ hw297_1)).trans hw297_1), ((HB.out.cell (World.block_lt_of_cell? w _ hw297_2)).trans hw297_2), ((HB.out.cell (World.block_lt_of_cell? w _ hw297_3)).trans hw297_3), ((HB.out.cell (World.block_lt_of_cell? w _ hw297_4)).trans hw297_4), ((HB.out.cell (World.block_lt_of_cell? w _ hw297_5)).trans hw297_5)⟩ (fun hHeld => ?_)
                clear hK K
                refine zn ?_
                refine zp 18 (some 68) (zl 36 524287) ?_
                refine zp 19 (some 69) (zl 36 1048575) ?_
                refine zp 20 (some 70) (zl 36 2097151) ?_
                refine zp 21 (some 71) (zl 36 4194303) ?_
                refine zp 22 (some 72) (zl 36 8388607) ?_
                refine zp 23 (some 73) (zl 36 16777215) ?_
                refine zp 24 (some 74) (zl 36 33554431) ?_
                refine zp 26 (some 76) (zl 36 100663295) ?_
                refine zp 27 (some 77) (zl 36 234881023) ?_
                refine zp 31 (some 81) (zl 36 2382364671) ?_
                refine zt 25 (some 75) (zl 36 2415919103) ?_
                refine zp 28 (some 78) (zl 36 2684354559) ?_
                refine zp 29 (some 79) (zl 36 3221225471) ?_
                refine zt 30 (some 80) (zl 36 4294967295) ?_
                refine zt 32 (some 82) (zl 36 8589934591) ?_
                refine zp 33 (some 83) (zl 36 17179869183) ?_
                refine zp 34 (some 84) (zl 36 34359738367) ?_
                refine zp 35 (some 85) (zl 36 68719476735) ?_
                refine done_ (done_of HT_.out (by kernel_rfl)) ?_
                try go_wp2
                go_roundg k2
                case measure => have := HK1.out; have := HK2.out; omega
                case rel => exact ⟨(wrap64 (x45_2 + 1)), zF, H', ⟨by have := HK1.out; have := HK2.out; omega⟩, ⟨zb BK286⟩, ⟨zB⟩⟩
              ·rw [if_neg c61] at H
               exact absurd H (by simp)
             ·rw [if_neg c60] at H
              exact absurd H (by simp)
            ·rw [if_neg c58] at H
             have c58b0 : decide (0 < x45_2) = false := decide_eq_false c58
             clear c58
             have H' := zm H
             clear H
             have p292 : 0 ≤ (x45_2 : Int) := zd
             have q292 : x45_2 < (l0_0.length : Int) := zd
             obtain ⟨ad292, e292, hx292_0, hx292_1, hx292_2, hx292_3, hx292_4, hx292_5⟩ := at_T68 (Kd.C_below HR0_0.out HB.out) x45_2 p292 q292
             cases e292
             replace p292 := eq_true p292
             replace q292 := eq_true q292
             try go_wp2_with (first | ((with_reducible refine gate_dst (N := 6) rfl ?_); refine zbox 6 #[.int .i64 0, .int .i64 0, .int .i64 0, .int .i64 0, .int .i64 0, .string (⟨#[]⟩ : ByteArray)] 68 ?_; intro gb293 hg w77 hbox hb; have BK293 := zm (hbox); have GW293 := zge w hg zB; have GE293 := zge w hg zB; replace HB := zm (below_step zB hb); have NB286_293 := zlt hg (zb BK286); have NB293_286 := zgt hg (zb BK286); replace BK286 := zm (blk_below (zb BK286) hb); clear hb hbox hg; have hnb78 := NB293_286.out; have hnc78 := NB286_293.out; have hcz79_0 : w77.cell? ⟨gb293, 0, none⟩ = some (.int .i64 0) := (blk_cell BK293.out 0).trans rfl; have hcz79_1 : w77.cell? ⟨gb293, 1, none⟩ = some (.int .i64 0) := (blk_cell BK293.out 1).trans rfl; have hcz79_2 : w77.cell? ⟨gb293, 2, none⟩ = some (.int .i64 0) := (blk_cell BK293.out 2).trans rfl; have hcz79_3 : w77.cell? ⟨gb293, 3, none⟩ = some (.int .i64 0) := (blk_cell BK293.out 3).trans rfl; have hcz79_4 : w77.cell? ⟨gb293, 4, none⟩ = some (.int .i64 0) := (blk_cell BK293.out 4).trans rfl; have hcz79_5 : w77.cell? ⟨gb293, 5, none⟩ = some (.string (⟨#[]⟩ : ByteArray)) := (blk_cell BK293.out 5).trans rfl; have hfz79_0 := blk_frozen BK293.out 0; have hfz79_1 := blk_frozen BK293.out 1; have hfz79_2 := blk_frozen BK293.out 2; have hfz79_3 := blk_frozen BK293.out 3; have hfz79_4 := blk_frozen BK293.out 4; have hfz79_5 := blk_frozen BK293.out 5))
             obtain ⟨w80, hW_⟩ : ∃ q, q = ((((((w77.setCell ⟨gb293, 0, none⟩ (.int .i64 ((rd_T68 l0_0 x45_2).f0))).setCell ⟨gb293, 1, none⟩ (.int .i64 ((rd_T68 l0_0 x45_2).f1.f0))).setCell ⟨gb293, 2, none⟩ (.int .i64 ((rd_T68 l0_0 x45_2).f1.f1))).setCell ⟨gb293, 3, none⟩ (.int .i64 ((rd_T68 l0_0 x45_2).f1.f2))).setCell ⟨gb293, 4, none⟩ (.int .i64 ((rd_T68 l0_0 x45_2).f1.f3))).setCell ⟨gb293, 5, none⟩ (.string ((rd_T68 l0_0 x45_2).f1.f4))) := ⟨_, rfl⟩
             have n0_ : Aside0 (w80.heap[gb286]? = some (.cells #[.slice (some ad292) l0_0.length c0_0, .slice A0_1 l0_1.length c0_1] 32 (0, 0))) := ⟨by rw [hW_]; exact zfar (zfar (zfar (zfar (zfar (zfar (zb BK286) NB286_293) NB286_293) NB286_293) NB286_293) NB286_293) NB286_293⟩
             have n1_ : Aside0 (w80.heap[gb293]? = some (.cells #[.int .i64 ((rd_T68 l0_0 x45_2).f0), .int .i64 ((rd_T68 l0_0 x45_2).f1.f0), .int .i64 ((rd_T68 l0_0 x45_2).f1.f1), .int .i64 ((rd_T68 l0_0 x45_2).f1.f2), .int .i64 ((rd_T68 l0_0 x45_2).f1.f3), .string ((rd_T68 l0_0 x45_2).f1.f4)] 68 (0, 0))) := ⟨by rw [hW_]; exact zput (zput (zput (zput (zput (zput (zb BK293) 0) 1) 2) 3) 4) 5⟩
             have n2_ : Aside0 (Below w.heap.size w w80) := ⟨by rw [hW_]; exact zB⟩
             rw [← hW_]
             clear hW_
             (try clear BK286)
             (try clear BK293)
             (try clear HB)
             have BK286 := n0_
             have BK293 := n1_
             have HB := n2_
             clear n0_ n1_ n2_
             replace BK286 := zm (blk_drew BK286.out)
             replace BK293 := zm (blk_drew BK293.out)
             replace HB := zm (below_drew1 HB.out)
             refine start_ (n := 36) (S := fun w' => w'.cell? ⟨gb293, 0, none⟩ = some (.int .i64 ((rd_T68 l0_0 x45_2).f0)) ∧ w'.cell? ⟨gb293, 1, none⟩ = some (.int .i64 ((rd_T68 l0_0 x45_2).f1.f0)) ∧ w'.cell? ⟨gb293, 2, none⟩ = some (.int .i64 ((rd_T68 l0_0 x45_2).f1.f1)) ∧ w'.cell? ⟨gb293, 3, none⟩ = some (.int .i64 ((rd_T68 l0_0 x45_2).f1.f2)) ∧ w'.cell? ⟨gb293, 4, none⟩ = some (.int .i64 ((rd_T68 l0_0 x45_2).f1.f3)) ∧ w'.cell? ⟨gb293, 5, none⟩ = some (.string ((rd_T68 l0_0 x45_2).f1.f4)) ∧ w'.cell? ⟨gb286, 0, none⟩ = some (.slice (some ad292) l0_0.length c0_0) ∧ w'.cell? ⟨gb286, 1, none⟩ = some (.slice A0_1 l0_1.length c0_1)) (ds := []) (zl 36 0) (by kernel_rfl) rfl rfl ⟨(blk_cell BK293.out 0).trans rfl, (blk_cell BK293.out 1).trans rfl, (blk_cell BK293.out 2).trans rfl, (blk_cell BK293.out 3).trans rfl, (blk_cell BK293.out 4).trans rfl, (blk_cell BK293.out 5).trans rfl, (blk_cell BK286.out 0).trans rfl, (blk_cell BK286.out 1).trans rfl⟩ (fun hHeld => ?_); refine with_tabW impl_StateOk.tab10 impl_StateOk.bits10 (fun HT_ HW_ => ?_)
             generalize w80.drew = w81 at BK286 BK293 HB hHeld ⊢
             refine zp 0 (some 50) (zl 36 1) ?_
             refine zt 1 (some 51) (zl 36 3) ?_
             refine zo 2 (some 52) (zl 36 7) (fun K hK => ?_)
             refine zgo #[.int .i64 ((rd_T68 l0_0 x45_2).f0)] Try.func94 ?_
             with_reducible refine (impl_isNode.calls ((rd_T68 l0_0 x45_2).f0) true _ A45.out).mono ?_
             rintro e w' ⟨rfl, ⟨nd, rfl⟩⟩
             refine ⟨_, rfl, ?_⟩
             refine hK.out _ _ ⟨(blk_cell BK293.out 0).trans rfl, (blk_cell BK293.out 1).trans rfl, (blk_cell BK293.out 2).trans rfl, (blk_cell BK293.out 3).trans rfl, (blk_cell BK293.out 4).trans rfl, (blk_cell BK293.out 5).trans rfl, (blk_cell BK286.out 0).trans rfl, (blk_cell BK286.out 1).trans rfl⟩ (fun hHeld => ?_)
             clear hK K
             refine zn ?_
             refine zp 3 (some 53) (zl 36 15) ?_
             refine zp 4 (some 54) (zl 36 31) ?_
             refine zp 5 (some 55) (zl 36 63) ?_
             refine zt 6 (some 56) (zl 36 127) ?_
             refine zo 7 (some 57) (zl 36 255) (fun K hK => ?_)
             refine zgo #[.agg #[.int .i64 ((rd_T68 l0_0 x45_2).f1.f0), .int .i64 ((rd_T68 l0_0 x45_2).f1.f1), .int .i64 ((rd_T68 l0_0 x45_2).f1.f2), .int .i64 ((rd_T68 l0_0 x45_2).f1.f3), .string ((rd_T68 l0_0 x45_2).f1.f4)]] Try.func95 ?_
             with_reducible refine (impl_EntryOk.calls ((rd_T68 l0_0 x45_2).f1.f0) ((rd_T68 l0_0 x45_2).f1.f1) ((rd_T68 l0_0 x45_2).f1.f2) ((rd_T68 l0_0 x45_2).f1.f3) ((rd_T68 l0_0 x45_2).f1.f4) true _ A47.out).mono ?_
             rintro e w82 ⟨rfl, hb⟩
             refine ⟨_, rfl, ?_⟩
             replace BK286 := zm (blk_below (zb BK286) hb)
             replace BK293 := zm (blk_below (zb BK293) hb)
             replace HB := zm (below_step zB hb)
             (try clear hb)
             (try clear hb2)
             (try clear hk)
             (try clear hi)
             refine hK.out _ _ ⟨(blk_cell BK293.out 0).trans rfl, (blk_cell BK293.out 1).trans rfl, (blk_cell BK293.out 2).trans rfl, (blk_cell BK293.out 3).trans rfl, (blk_cell BK293.out 4).trans rfl, (blk_cell BK293.out 5).trans rfl, (blk_cell BK286.out 0).trans rfl, (blk_cell BK286.out 1).trans rfl⟩ (fun hHeld => ?_)
             clear hK K
             refine zn ?_
             refine zp 8 (some 58) (zl 36 511) ?_
             refine zp 9 (some 59) (zl 36 1023) ?_
             refine zp 10 (some 60) (zl 36 2047) ?_
             refine zp 11 (some 61) (zl 36 4095) ?_
             refine zp 12 (some 62) (zl 36 8191) ?_
             refine zp 15 (some 65) (zl 36 40959) ?_
             refine zt 13 (some 63) (zl 36 49151) ?_
             refine zt 14 (some 64) (zl 36 65535) ?_
             refine zt 16 (some 66) (zl 36 131071) ?_
             refine zo 17 (some 67) (zl 36 262143) (fun K hK => ?_)
             refine zgo #[.agg #[.slice (some ad292) l0_0.length c0_0, .slice A0_1 l0_1.length c0_1], .int .i64 ((rd_T68 l0_0 x45_2).f0)] Try.func77 ?_
             with_reducible refine (impl_FloorOf.calls k2 _ _ l0_0 _ _ l0_1 ((rd_T68 l0_0 x45_2).f0) t296 _ (zk (Kd.C_below HR0_0.out HB.out)) HC0_0.out (zk (Kd.C_below HR0_1.out HB.out)) HC0_1.out A49.out).mono ?_
             rintro e w83 ⟨rfl, hb⟩
             refine ⟨_, rfl, ?_⟩
             replace BK286 := zm (blk_below (zb BK286) hb)
             replace BK293 := zm (blk_below (zb BK293) hb)
             replace HB := zm (below_step zB hb)
             (try clear hb)
             (try clear hb2)
             (try clear hk)
             (try clear hi)
             refine hK.out _ _ ⟨(blk_cell BK293.out 0).trans rfl, (blk_cell BK293.out 1).trans rfl, (blk_cell BK293.out 2).trans rfl, (blk_cell BK293.out 3).trans rfl, (blk_cell BK293.out 4).trans rfl, (blk_cell BK293.out 5).trans rfl, (blk_cell BK286.out 0).trans rfl, (blk_cell BK286.out 1).trans rfl⟩ (fun hHeld => ?_)
             clear hK K
             refine zn ?_
             refine zp 18 (some 68) (zl 36 524287) ?_
             refine zp 19 (some 69) (zl 36 1048575) ?_
             refine zp 20 (some 70) (zl 36 2097151) ?_
             refine zp 21 (some 71) (zl 36 4194303) ?_
             refine zp 22 (some 72) (zl 36 8388607) ?_
             refine zp 23 (some 73) (zl 36 16777215) ?_
             refine zp 24 (some 74) (zl 36 33554431) ?_
             refine zp 25 (some 75) (zl 36 67108863) ?_
             refine zp 26 (some 76) (zl 36 134217727) ?_
             refine zp 27 (some 77) (zl 36 268435455) ?_
             refine zp 28 (some 78) (zl 36 536870911) ?_
             refine zp 29 (some 79) (zl 36 1073741823) ?_
             refine zp 30 (some 80) (zl 36 2147483647) ?_
             refine zp 31 (some 81) (zl 36 4294967295) ?_
             refine zp 32 (some 82) (zl 36 8589934591) ?_
             refine zp 33 (some 83) (zl 36 17179869183) ?_
             refine zp 34 (some 84) (zl 36 34359738367) ?_
             refine zp 35 (some 85) (zl 36 68719476735) ?_
             refine done_ (done_of HT_.out (by kernel_rfl)) ?_
             try go_wp2
             go_roundg k2
             case measure => have := HK1.out; have := HK2.out; omega
             case rel => exact ⟨(wrap64 (x45_2 + 1)), zF, H', ⟨by have := HK1.out; have := HK2.out; omega⟩, ⟨zb BK286⟩, ⟨zB⟩⟩
          ·replace c48 := Bool.eq_false_iff.mpr c48
           subst c48
           have H1 : (some false) = some r := by rw [if_neg (show ¬ (false = true) by decide)] at H; exact H
           clear H
           have H := H1
           clear H1
           obtain rfl := Option.some.inj H
           have p292 : 0 ≤ (x45_2 : Int) := zd
           have q292 : x45_2 < (l0_0.length : Int) := zd
           obtain ⟨ad292, e292, hx292_0, hx292_1, hx292_2, hx292_3, hx292_4, hx292_5⟩ := at_T68 (Kd.C_below HR0_0.out HB.out) x45_2 p292 q292
           cases e292
           replace p292 := eq_true p292
           replace q292 := eq_true q292
           try go_wp2_with (first | ((with_reducible refine gate_dst (N := 6) rfl ?_); refine zbox 6 #[.int .i64 0, .int .i64 0, .int .i64 0, .int .i64 0, .int .i64 0, .string (⟨#[]⟩ : ByteArray)] 68 ?_; intro gb293 hg w84 hbox hb; have BK293 := zm (hbox); have GW293 := zge w hg zB; have GE293 := zge w hg zB; replace HB := zm (below_step zB hb); have NB286_293 := zlt hg (zb BK286); have NB293_286 := zgt hg (zb BK286); replace BK286 := zm (blk_below (zb BK286) hb); clear hb hbox hg; have hnb85 := NB293_286.out; have hnc85 := NB286_293.out; have hcz86_0 : w84.cell? ⟨gb293, 0, none⟩ = some (.int .i64 0) := (blk_cell BK293.out 0).trans rfl; have hcz86_1 : w84.cell? ⟨gb293, 1, none⟩ = some (.int .i64 0) := (blk_cell BK293.out 1).trans rfl; have hcz86_2 : w84.cell? ⟨gb293, 2, none⟩ = some (.int .i64 0) := (blk_cell BK293.out 2).trans rfl; have hcz86_3 : w84.cell? ⟨gb293, 3, none⟩ = some (.int .i64 0) := (blk_cell BK293.out 3).trans rfl; have hcz86_4 : w84.cell? ⟨gb293, 4, none⟩ = some (.int .i64 0) := (blk_cell BK293.out 4).trans rfl; have hcz86_5 : w84.cell? ⟨gb293, 5, none⟩ = some (.string (⟨#[]⟩ : ByteArray)) := (blk_cell BK293.out 5).trans rfl; have hfz86_0 := blk_frozen BK293.out 0; have hfz86_1 := blk_frozen BK293.out 1; have hfz86_2 := blk_frozen BK293.out 2; have hfz86_3 := blk_frozen BK293.out 3; have hfz86_4 := blk_frozen BK293.out 4; have hfz86_5 := blk_frozen BK293.out 5))
           obtain ⟨w87, hW_⟩ : ∃ q, q = ((((((w84.setCell ⟨gb293, 0, none⟩ (.int .i64 ((rd_T68 l0_0 x45_2).f0))).setCell ⟨gb293, 1, none⟩ (.int .i64 ((rd_T68 l0_0 x45_2).f1.f0))).setCell ⟨gb293, 2, none⟩ (.int .i64 ((rd_T68 l0_0 x45_2).f1.f1))).setCell ⟨gb293, 3, none⟩ (.int .i64 ((rd_T68 l0_0 x45_2).f1.f2))).setCell ⟨gb293, 4, none⟩ (.int .i64 ((rd_T68 l0_0 x45_2).f1.f3))).setCell ⟨gb293, 5, none⟩ (.string ((rd_T68 l0_0 x45_2).f1.f4))) := ⟨_, rfl⟩
           have n0_ : Aside0 (w87.heap[gb286]? = some (.cells #[.slice (some ad292) l0_0.length c0_0, .slice A0_1 l0_1.length c0_1] 32 (0, 0))) := ⟨by rw [hW_]; exact zfar (zfar (zfar (zfar (zfar (zfar (zb BK286) NB286_293) NB286_293) NB286_293) NB286_293) NB286_293) NB286_293⟩
           have n1_ : Aside0 (w87.heap[gb293]? = some (.cells #[.int .i64 ((rd_T68 l0_0 x45_2).f0), .int .i64 ((rd_T68 l0_0 x45_2).f1.f0), .int .i64 ((rd_T68 l0_0 x45_2).f1.f1), .int .i64 ((rd_T68 l0_0 x45_2).f1.f2), .int .i64 ((rd_T68 l0_0 x45_2).f1.f3), .string ((rd_T68 l0_0 x45_2).f1.f4)] 68 (0, 0))) := ⟨by rw [hW_]; exact zput (zput (zput (zput (zput (zput (zb BK293) 0) 1) 2) 3) 4) 5⟩
           have n2_ : Aside0 (Below w.heap.size w w87) := ⟨by rw [hW_]; exact zB⟩
           rw [← hW_]
           clear hW_
           (try clear BK286)
           (try clear BK293)
           (try clear HB)
           have BK286 := n0_
           have BK293 := n1_
           have HB := n2_
           clear n0_ n1_ n2_
           replace BK286 := zm (blk_drew BK286.out)
           replace BK293 := zm (blk_drew BK293.out)
           replace HB := zm (below_drew1 HB.out)
           refine start_ (n := 36) (S := fun w' => w'.cell? ⟨gb293, 0, none⟩ = some (.int .i64 ((rd_T68 l0_0 x45_2).f0)) ∧ w'.cell? ⟨gb293, 1, none⟩ = some (.int .i64 ((rd_T68 l0_0 x45_2).f1.f0)) ∧ w'.cell? ⟨gb293, 2, none⟩ = some (.int .i64 ((rd_T68 l0_0 x45_2).f1.f1)) ∧ w'.cell? ⟨gb293, 3, none⟩ = some (.int .i64 ((rd_T68 l0_0 x45_2).f1.f2)) ∧ w'.cell? ⟨gb293, 4, none⟩ = some (.int .i64 ((rd_T68 l0_0 x45_2).f1.f3)) ∧ w'.cell? ⟨gb293, 5, none⟩ = some (.string ((rd_T68 l0_0 x45_2).f1.f4))) (ds := []) (zl 36 0) (by kernel_rfl) rfl rfl ⟨(blk_cell BK293.out 0).trans rfl, (blk_cell BK293.out 1).trans rfl, (blk_cell BK293.out 2).trans rfl, (blk_cell BK293.out 3).trans rfl, (blk_cell BK293.out 4).trans rfl, (blk_cell BK293.out 5).trans rfl⟩ (fun hHeld => ?_); refine with_tabW impl_StateOk.tab10 impl_StateOk.bits10 (fun HT_ HW_ => ?_)
           generalize w87.drew = w88 at BK286 BK293 HB hHeld ⊢
           refine zp 0 (some 50) (zl 36 1) ?_
           refine zt 1 (some 51) (zl 36 3) ?_
           refine zo 2 (some 52) (zl 36 7) (fun K hK => ?_)
           refine zgo #[.int .i64 ((rd_T68 l0_0 x45_2).f0)] Try.func94 ?_
           with_reducible refine (impl_isNode.calls ((rd_T68 l0_0 x45_2).f0) true _ A45.out).mono ?_
           rintro e w' ⟨rfl, ⟨nd, rfl⟩⟩
           refine ⟨_, rfl, ?_⟩
           refine hK.out _ _ ⟨(blk_cell BK293.out 0).trans rfl, (blk_cell BK293.out 1).trans rfl, (blk_cell BK293.out 2).trans rfl, (blk_cell BK293.out 3).trans rfl, (blk_cell BK293.out 4).trans rfl, (blk_cell BK293.out 5).trans rfl⟩ (fun hHeld => ?_)
           clear hK K
           refine zn ?_
           refine zp 3 (some 53) (zl 36 15) ?_
           refine zp 4 (some 54) (zl 36 31) ?_
           refine zp 5 (some 55) (zl 36 63) ?_
           refine zt 6 (some 56) (zl 36 127) ?_
           refine zo 7 (some 57) (zl 36 255) (fun K hK => ?_)
           refine zgo #[.agg #[.int .i64 ((rd_T68 l0_0 x45_2).f1.f0), .int .i64 ((rd_T68 l0_0 x45_2).f1.f1), .int .i64 ((rd_T68 l0_0 x45_2).f1.f2), .int .i64 ((rd_T68 l0_0 x45_2).f1.f3), .string ((rd_T68 l0_0 x45_2).f1.f4)]] Try.func95 ?_
           with_reducible refine (impl_EntryOk.calls ((rd_T68 l0_0 x45_2).f1.f0) ((rd_T68 l0_0 x45_2).f1.f1) ((rd_T68 l0_0 x45_2).f1.f2) ((rd_T68 l0_0 x45_2).f1.f3) ((rd_T68 l0_0 x45_2).f1.f4) false _ A47.out).mono ?_
           rintro e w89 ⟨rfl, hb⟩
           refine ⟨_, rfl, ?_⟩
           replace BK286 := zm (blk_below (zb BK286) hb)
           replace BK293 := zm (blk_below (zb BK293) hb)
           replace HB := zm (below_step zB hb)
           (try clear hb)
           (try clear hb2)
           (try clear hk)
           (try clear hi)
           refine hK.out _ _ ⟨(blk_cell BK293.out 0).trans rfl, (blk_cell BK293.out 1).trans rfl, (blk_cell BK293.out 2).trans rfl, (blk_cell BK293.out 3).trans rfl, (blk_cell BK293.out 4).trans rfl, (blk_cell BK293.out 5).trans rfl⟩ (fun hHeld => ?_)
           clear hK K
           refine zn ?_
           refine zp 8 (some 58) (zl 36 511) ?_
           refine zp 9 (some 59) (zl 36 1023) ?_
           refine zp 10 (some 60) (zl 36 2047) ?_
           refine zp 11 (some 61) (zl 36 4095) ?_
           refine zp 12 (some 62) (zl 36 8191) ?_
           refine zp 13 (some 63) (zl 36 16383) ?_
           refine zp 14 (some 64) (zl 36 32767) ?_
           refine zp 15 (some 65) (zl 36 65535) ?_
           refine zp 16 (some 66) (zl 36 131071) ?_
           refine zp 17 (some 67) (zl 36 262143) ?_
           refine zp 18 (some 68) (zl 36 524287) ?_
           refine zp 19 (some 69) (zl 36 1048575) ?_
           refine zp 20 (some 70) (zl 36 2097151) ?_
           refine zp 21 (some 71) (zl 36 4194303) ?_
           refine zp 22 (some 72) (zl 36 8388607) ?_
           refine zp 23 (some 73) (zl 36 16777215) ?_
           refine zp 24 (some 74) (zl 36 33554431) ?_
           refine zp 25 (some 75) (zl 36 67108863) ?_
           refine zp 26 (some 76) (zl 36 134217727) ?_
           refine zp 27 (some 77) (zl 36 268435455) ?_
           refine zp 28 (some 78) (zl 36 536870911) ?_
           refine zp 29 (some 79) (zl 36 1073741823) ?_
           refine zp 30 (some 80) (zl 36 2147483647) ?_
           refine zp 31 (some 81) (zl 36 4294967295) ?_
           refine zp 32 (some 82) (zl 36 8589934591) ?_
           refine zp 33 (some 83) (zl 36 17179869183) ?_
           refine zp 34 (some 84) (zl 36 34359738367) ?_
           refine zp 35 (some 85) (zl 36 68719476735) ?_
           refine done_ (done_of HT_.out (by kernel_rfl)) ?_
           try go_wp2
           go_ret
           exact ⟨zE, zB⟩
         ·replace c46 := Bool.eq_false_iff.mpr c46
          subst c46
          have H1 : (some false) = some r := by rw [if_neg (show ¬ (false = true) by decide)] at H; exact H
          clear H
          have H := H1
          clear H1
          obtain rfl := Option.some.inj H
          have p292 : 0 ≤ (x45_2 : Int) := zd
          have q292 : x45_2 < (l0_0.length : Int) := zd
          obtain ⟨ad292, e292, hx292_0, hx292_1, hx292_2, hx292_3, hx292_4, hx292_5⟩ := at_T68 (Kd.C_below HR0_0.out HB.out) x45_2 p292 q292
          cases e292
          replace p292 := eq_true p292
          replace q292 := eq_true q292
          try go_wp2_with (first | ((with_reducible refine gate_dst (N := 6) rfl ?_); refine zbox 6 #[.int .i64 0, .int .i64 0, .int .i64 0, .int .i64 0, .int .i64 0, .string (⟨#[]⟩ : ByteArray)] 68 ?_; intro gb293 hg w90 hbox hb; have BK293 := zm (hbox); have GW293 := zge w hg zB; have GE293 := zge w hg zB; replace HB := zm (below_step zB hb); have NB286_293 := zlt hg (zb BK286); have NB293_286 := zgt hg (zb BK286); replace BK286 := zm (blk_below (zb BK286) hb); clear hb hbox hg; have hnb91 := NB293_286.out; have hnc91 := NB286_293.out; have hcz92_0 : w90.cell? ⟨gb293, 0, none⟩ = some (.int .i64 0) := (blk_cell BK293.out 0).trans rfl; have hcz92_1 : w90.cell? ⟨gb293, 1, none⟩ = some (.int .i64 0) := (blk_cell BK293.out 1).trans rfl; have hcz92_2 : w90.cell? ⟨gb293, 2, none⟩ = some (.int .i64 0) := (blk_cell BK293.out 2).trans rfl; have hcz92_3 : w90.cell? ⟨gb293, 3, none⟩ = some (.int .i64 0) := (blk_cell BK293.out 3).trans rfl; have hcz92_4 : w90.cell? ⟨gb293, 4, none⟩ = some (.int .i64 0) := (blk_cell BK293.out 4).trans rfl; have hcz92_5 : w90.cell? ⟨gb293, 5, none⟩ = some (.string (⟨#[]⟩ : ByteArray)) := (blk_cell BK293.out 5).trans rfl; have hfz92_0 := blk_frozen BK293.out 0; have hfz92_1 := blk_frozen BK293.out 1; have hfz92_2 := blk_frozen BK293.out 2; have hfz92_3 := blk_frozen BK293.out 3; have hfz92_4 := blk_frozen BK293.out 4; have hfz92_5 := blk_frozen BK293.out 5))
          obtain ⟨w93, hW_⟩ : ∃ q, q = ((((((w90.setCell ⟨gb293, 0, none⟩ (.int .i64 ((rd_T68 l0_0 x45_2).f0))).setCell ⟨gb293, 1, none⟩ (.int .i64 ((rd_T68 l0_0 x45_2).f1.f0))).setCell ⟨gb293, 2, none⟩ (.int .i64 ((rd_T68 l0_0 x45_2).f1.f1))).setCell ⟨gb293, 3, none⟩ (.int .i64 ((rd_T68 l0_0 x45_2).f1.f2))).setCell ⟨gb293, 4, none⟩ (.int .i64 ((rd_T68 l0_0 x45_2).f1.f3))).setCell ⟨gb293, 5, none⟩ (.string ((rd_T68 l0_0 x45_2).f1.f4))) := ⟨_, rfl⟩
          have n0_ : Aside0 (w93.heap[gb286]? = some (.cells #[.slice (some ad292) l0_0.length c0_0, .slice A0_1 l0_1.length c0_1] 32 (0, 0))) := ⟨by rw [hW_]; exact zfar (zfar (zfar (zfar (zfar (zfar (zb BK286) NB286_293) NB286_293) NB286_293) NB286_293) NB286_293) NB286_293⟩
          have n1_ : Aside0 (w93.heap[gb293]? = some (.cells #[.int .i64 ((rd_T68 l0_0 x45_2).f0), .int .i64 ((rd_T68 l0_0 x45_2).f1.f0), .int .i64 ((rd_T68 l0_0 x45_2).f1.f1), .int .i64 ((rd_T68 l0_0 x45_2).f1.f2), .int .i64 ((rd_T68 l0_0 x45_2).f1.f3), .string ((rd_T68 l0_0 x45_2).f1.f4)] 68 (0, 0))) := ⟨by rw [hW_]; exact zput (zput (zput (zput (zput (zput (zb BK293) 0) 1) 2) 3) 4) 5⟩
          have n2_ : Aside0 (Below w.heap.size w w93) := ⟨by rw [hW_]; exact zB⟩
          rw [← hW_]
          clear hW_
          (try clear BK286)
          (try clear BK293)
          (try clear HB)
          have BK286 := n0_
          have BK293 := n1_
          have HB := n2_
          clear n0_ n1_ n2_
          replace BK286 := zm (blk_drew BK286.out)
          replace BK293 := zm (blk_drew BK293.out)
          replace HB := zm (below_drew1 HB.out)
          refine start_ (n := 36) (S := fun w' => w'.cell? ⟨gb293, 0, none⟩ = some (.int .i64 ((rd_T68 l0_0 x45_2).f0)) ∧ w'.cell? ⟨gb293, 1, none⟩ = some (.int .i64 ((rd_T68 l0_0 x45_2).f1.f0)) ∧ w'.cell? ⟨gb293, 2, none⟩ = some (.int .i64 ((rd_T68 l0_0 x45_2).f1.f1)) ∧ w'.cell? ⟨gb293, 3, none⟩ = some (.int .i64 ((rd_T68 l0_0 x45_2).f1.f2)) ∧ w'.cell? ⟨gb293, 4, none⟩ = some (.int .i64 ((rd_T68 l0_0 x45_2).f1.f3)) ∧ w'.cell? ⟨gb293, 5, none⟩ = some (.string ((rd_T68 l0_0 x45_2).f1.f4))) (ds := []) (zl 36 0) (by kernel_rfl) rfl rfl ⟨(blk_cell BK293.out 0).trans rfl, (blk_cell BK293.out 1).trans rfl, (blk_cell BK293.out 2).trans rfl, (blk_cell BK293.out 3).trans rfl, (blk_cell BK293.out 4).trans rfl, (blk_cell BK293.out 5).trans rfl⟩ (fun hHeld => ?_); refine with_tabW impl_StateOk.tab10 impl_StateOk.bits10 (fun HT_ HW_ => ?_)
          generalize w93.drew = w94 at BK286 BK293 HB hHeld ⊢
          refine zp 0 (some 50) (zl 36 1) ?_
          refine zt 1 (some 51) (zl 36 3) ?_
          refine zo 2 (some 52) (zl 36 7) (fun K hK => ?_)
          refine zgo #[.int .i64 ((rd_T68 l0_0 x45_2).f0)] Try.func94 ?_
          with_reducible refine (impl_isNode.calls ((rd_T68 l0_0 x45_2).f0) false _ A45.out).mono ?_
          rintro e w' ⟨rfl, ⟨nd, rfl⟩⟩
          refine ⟨_, rfl, ?_⟩
          refine hK.out _ _ ⟨(blk_cell BK293.out 0).trans rfl, (blk_cell BK293.out 1).trans rfl, (blk_cell BK293.out 2).trans rfl, (blk_cell BK293.out 3).trans rfl, (blk_cell BK293.out 4).trans rfl, (blk_cell BK293.out 5).trans rfl⟩ (fun hHeld => ?_)
          clear hK K
          refine zn ?_
          refine zp 3 (some 53) (zl 36 15) ?_
          refine zp 4 (some 54) (zl 36 31) ?_
          refine zp 5 (some 55) (zl 36 63) ?_
          refine zp 6 (some 56) (zl 36 127) ?_
          refine zp 7 (some 57) (zl 36 255) ?_
          refine zp 8 (some 58) (zl 36 511) ?_
          refine zp 9 (some 59) (zl 36 1023) ?_
          refine zp 10 (some 60) (zl 36 2047) ?_
          refine zp 11 (some 61) (zl 36 4095) ?_
          refine zp 12 (some 62) (zl 36 8191) ?_
          refine zp 13 (some 63) (zl 36 16383) ?_
          refine zp 14 (some 64) (zl 36 32767) ?_
          refine zp 15 (some 65) (zl 36 65535) ?_
          refine zp 16 (some 66) (zl 36 131071) ?_
          refine zp 17 (some 67) (zl 36 262143) ?_
          refine zp 18 (some 68) (zl 36 524287) ?_
          refine zp 19 (some 69) (zl 36 1048575) ?_
          refine zp 20 (some 70) (zl 36 2097151) ?_
          refine zp 21 (some 71) (zl 36 4194303) ?_
          refine zp 22 (some 72) (zl 36 8388607) ?_
          refine zp 23 (some 73) (zl 36 16777215) ?_
          refine zp 24 (some 74) (zl 36 33554431) ?_
          refine zp 25 (some 75) (zl 36 67108863) ?_
          refine zp 26 (some 76) (zl 36 134217727) ?_
          refine zp 27 (some 77) (zl 36 268435455) ?_
          refine zp 28 (some 78) (zl 36 536870911) ?_
          refine zp 29 (some 79) (zl 36 1073741823) ?_
          refine zp 30 (some 80) (zl 36 2147483647) ?_
          refine zp 31 (some 81) (zl 36 4294967295) ?_
          refine zp 32 (some 82) (zl 36 8589934591) ?_
          refine zp 33 (some 83) (zl 36 17179869183) ?_
          refine zp 34 (some 84) (zl 36 34359738367) ?_
          refine zp 35 (some 85) (zl 36 68719476735) ?_
          refine done_ (done_of HT_.out (by kernel_rfl)) ?_
          try go_wp2
          go_ret
          exact ⟨zE, zB⟩
        ·rw [if_neg c44] at H
         exact absurd H (by simp)
       ·rw [if_neg c43] at H
        exact absurd H (by simp)
      ·rw [if_neg c42] at H
       have c42b0 : decide (x45_2 < (l0_0.length : Int)) = false := decide_eq_false c42
       clear c42
       obtain rfl := Option.some.inj H
       go_wp2
       go_ret
       exact ⟨zE, zB⟩

end Go.Proofs.Ytgapdegniepjiaa.P
