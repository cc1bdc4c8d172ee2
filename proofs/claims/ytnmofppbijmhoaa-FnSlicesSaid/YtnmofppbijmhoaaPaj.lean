-- by a program of this session, for this seat
import Derived.Test.YtnmofppbijmhoaaZ
import Derived.Test.YtnmofppbijmhoaaP0
import Derived.Test.YtnmofppbijmhoaaPai
namespace Go.Proofs.Ytnmofppbijmhoaa.P
open Go.RowKit Go.Proofs.YtnmofppbijmhoaaW.PrintWords Go.Proofs.YtnmofppbijmhoaaW.PrintLast Go.Proofs.YtnmofppbijmhoaaW.PrintMore Go.Proofs.Ytnmofppbijmhoaa.Z
attribute [local go_sem] max2_int min2_int max_two min_two max_three min_three max_four min_four   -- for this text's walks alone
set_option linter.unusedVariables false
set_option linter.unusedSimpArgs false

/-! ### impl_StateOk: function 27 -/
mutual
def impl_StateOk.l0 : Nat → List (S58) → Int → Int → List (S44) → List (S58) → Option (Bool)
 | 0, _, _, _, _, _ => none
 | k + 1, x8, x9, x10, x444000, x444001 => if x10 < x9 then (if 0 ≤ x10 then (if x10 < (x8.length : Int) then ((impl_isNode.f ((rd_T58 x8 x10).f0)).bind fun t446 => (if t446 = true then ((impl_within.f ((rd_T58 x8 x10).f1) 1 1000).bind fun t447 => (if t447 = true then (if x10 > 0 then (if 0 ≤ (wrap64 (x10 - 1)) then (if (wrap64 (x10 - 1)) < (x444001.length : Int) then (if ((rd_T58 x444001 (wrap64 (x10 - 1))).f0) ≥ ((rd_T58 x8 x10).f0) then (some false) else (impl_StateOk.l0 k x8 x9 (wrap64 (x10 + 1)) x444000 x444001)) else (none)) else (none)) else (impl_StateOk.l0 k x8 x9 (wrap64 (x10 + 1)) x444000 x444001)) else (some false))) else (some false))) else (none)) else (none)) else (impl_StateOk.l1 k x444000 (x444000.length : Int) 0 x444000 x444001)
def impl_StateOk.l1 : Nat → List (S44) → Int → Int → List (S44) → List (S58) → Option (Bool)
 | 0, _, _, _, _, _ => none
 | k + 1, x43, x44, x45, x444000, x444001 => if x45 < x44 then (if 0 ≤ x45 then (if x45 < (x43.length : Int) then ((impl_isNode.f ((rd_T44 x43 x45).f0)).bind fun t451 => (if t451 = true then ((impl_EntryOk.f ((rd_T44 x43 x45).f1.f0) ((rd_T44 x43 x45).f1.f1) ((rd_T44 x43 x45).f1.f2) ((rd_T44 x43 x45).f1.f3) ((rd_T44 x43 x45).f1.f4)).bind fun t452 => (if t452 = true then ((impl_FloorOf.f k x444000 x444001 ((rd_T44 x43 x45).f0)).bind fun t453 => (if ((rd_T44 x43 x45).f1.f0) ≤ t453 then (some false) else (if x45 > 0 then (if 0 ≤ (wrap64 (x45 - 1)) then (if (wrap64 (x45 - 1)) < (x444000.length : Int) then (if ((rd_T44 x444000 (wrap64 (x45 - 1))).f0) ≥ ((rd_T44 x43 x45).f0) then (some false) else (impl_StateOk.l1 k x43 x44 (wrap64 (x45 + 1)) x444000 x444001)) else (none)) else (none)) else (impl_StateOk.l1 k x43 x44 (wrap64 (x45 + 1)) x444000 x444001)))) else (some false))) else (some false))) else (none)) else (none)) else (some true)
end
def impl_StateOk.f (k : Nat) (l0_0 : List (S44)) (l0_1 : List (S58)) : Option (Bool) := impl_StateOk.l0 k l0_1 (l0_1.length : Int) 0 l0_0 l0_1
theorem impl_StateOk.mono_l : ∀ k, (∀ y0 y1 y2 y3 y4, LeO (impl_StateOk.l0 k y0 y1 y2 y3 y4) (impl_StateOk.l0 (k + 1) y0 y1 y2 y3 y4)) ∧ (∀ y0 y1 y2 y3 y4, LeO (impl_StateOk.l1 k y0 y1 y2 y3 y4) (impl_StateOk.l1 (k + 1) y0 y1 y2 y3 y4))
 | 0 => ⟨fun _ _ _ _ _ r h => by simp [impl_StateOk.l0] at h, fun _ _ _ _ _ r h => by simp [impl_StateOk.l1] at h⟩
 | k + 1 => by
  obtain ⟨ih0, ih1⟩ := impl_StateOk.mono_l k
  refine ⟨?_, ?_⟩
  ·intro y0 y1 y2 y3 y4
   unfold impl_StateOk.l0
   repeat' first | (with_reducible first | exact LeO.refl _ | exact LeO.none _ | refine LeO.ite ?_ ?_ | refine LeO.bind ?_ (fun _ => ?_) | apply ih0 | apply ih1 | apply impl_FloorOf.mono) | apply ih0 | apply ih1 | apply impl_FloorOf.mono | exact LeO.none _ | refine LeO.ite ?_ ?_ | refine LeO.bind ?_ (fun _ => ?_)
  ·intro y0 y1 y2 y3 y4
   unfold impl_StateOk.l1
   repeat' first | (with_reducible first | exact LeO.refl _ | exact LeO.none _ | refine LeO.ite ?_ ?_ | refine LeO.bind ?_ (fun _ => ?_) | apply ih0 | apply ih1 | apply impl_FloorOf.mono) | apply ih0 | apply ih1 | apply impl_FloorOf.mono | exact LeO.none _ | refine LeO.ite ?_ ?_ | refine LeO.bind ?_ (fun _ => ?_)
theorem impl_StateOk.mono : ∀ a0 a1 k, LeO (impl_StateOk.f k a0 a1) (impl_StateOk.f (k + 1) a0 a1) := by
 intro a0 a1 k; obtain ⟨ih0, ih1⟩ := impl_StateOk.mono_l k
 unfold impl_StateOk.f
 repeat' first | (with_reducible first | exact LeO.refl _ | exact LeO.none _ | refine LeO.ite ?_ ?_ | refine LeO.bind ?_ (fun _ => ?_) | apply ih0 | apply ih1 | apply impl_FloorOf.mono) | apply ih0 | apply ih1 | apply impl_FloorOf.mono | exact LeO.none _ | refine LeO.ite ?_ ?_ | refine LeO.bind ?_ (fun _ => ?_)
def impl_StateOk.T4 : Bool × List (List Nat × List Nat) := (true, [([], []), ([0], [0]), ([1], [1]), ([2], [2]), ([3, 2], [3]), ([4], [4]), ([5, 4], [4, 5]), ([6, 4, 4], [4, 6]), ([7, 4], [4, 7]), ([4, 8], [4, 8]), ([9, 7], [9]), ([10], [10]), ([11, 10], [10, 11]), ([12, 10, 10], [10, 12]), ([13], [13]), ([14, 13], [13, 14]), ([13], [13]), ([16, 13], [13, 16]), ([15, 17, 13], [13, 15, 17]), ([18, 13], [13, 18]), ([19, 13], [13, 19]), ([13], [13]), ([21, 13], [13, 21]), ([20, 22, 13], [13, 20, 22]), ([13, 23, 10], [10, 13, 23]), ([10, 24], [10, 24])])
def impl_StateOk.B4 : List Nat := [0, 1, 3, 7, 15, 31, 63, 127, 255, 511, 1023, 2047, 4095, 8191, 16383, 32767, 16383, 81919, 262143, 524287, 1048575, 16383, 2113535, 8388607, 16777215, 33554431]
theorem impl_StateOk.tab4 : rtab .any (opsOf Try.f27 4) = impl_StateOk.T4 := by kernel_rfl
theorem impl_StateOk.bits4 : waitsOk impl_StateOk.T4.2 impl_StateOk.B4 = true := by kernel_rfl
def impl_StateOk.T10 : Bool × List (List Nat × List Nat) := (true, [([], []), ([0], [0]), ([1], [1]), ([2], [2]), ([3, 2], [3]), ([4], [4]), ([5, 4], [4, 5]), ([6, 4, 4], [4, 6]), ([7, 4], [4, 7]), ([4, 8], [4, 8]), ([9, 7], [9]), ([10], [10]), ([11, 10], [10, 11]), ([12, 10], [10, 12]), ([10], [10]), ([10], [10]), ([15, 10], [10, 15]), ([14, 16, 10, 10], [10, 14, 16]), ([13, 17, 10], [10, 13, 17]), ([10, 18], [10, 18]), ([19, 17], [19]), ([20], [20]), ([21, 20], [20, 21]), ([22, 20, 20], [20, 22]), ([23], [23]), ([24, 23], [23, 24]), ([23], [23]), ([26, 23], [23, 26]), ([25, 27, 23], [23, 25, 27]), ([28, 23], [23, 28]), ([29, 23], [23, 29]), ([23], [23]), ([31, 23], [23, 31]), ([30, 32, 23], [23, 30, 32]), ([23, 33, 20], [20, 23, 33]), ([20, 34], [20, 34])])
def impl_StateOk.B10 : List Nat := [0, 1, 3, 7, 15, 31, 63, 127, 255, 511, 1023, 2047, 4095, 8191, 2047, 2047, 34815, 116735, 262143, 524287, 1048575, 2097151, 4194303, 8388607, 16777215, 33554431, 16777215, 83886079, 268435455, 536870911, 1073741823, 16777215, 2164260863, 8589934591, 17179869183, 34359738367]
theorem impl_StateOk.tab10 : rtab .any (opsOf Try.f27 10) = impl_StateOk.T10 := by kernel_rfl
theorem impl_StateOk.bits10 : waitsOk impl_StateOk.T10.2 impl_StateOk.B10 = true := by kernel_rfl
set_option maxHeartbeats 8000000 in
set_option maxRecDepth 100000 in
theorem impl_StateOk.calls (k : Nat) (A0_0 : Option Addr) (c0_0 : Nat) (l0_0 : List (S44)) (A0_1 : Option Addr) (c0_1 : Nat) (l0_1 : List (S58)) (r : Bool) (w : World) (hr0_0 : Kd.C k44 w A0_0 l0_0.length l0_0) (hc0_0 : l0_0.length ≤ c0_0) (hr0_1 : Kd.C k58 w A0_1 l0_1.length l0_1) (hc0_1 : l0_1.length ≤ c0_1) (h : impl_StateOk.f k l0_0 l0_1 = some r) :
  Calls Try.prog 27 #[.agg #[.slice A0_0 l0_0.length c0_0, .slice A0_1 l0_1.length c0_1]] w fun e w' => e = .returned (.bool r) ∧ Below w.heap.size w w' := by
 have hu27 := Try.underlying27; have hu58 := Try.underlying58; have hu44 := Try.underlying44; have hu36 := Try.underlying36; have HR0_0 := zm hr0_0; have HC0_0 := zm hc0_0; clear hr0_0 hc0_0; have HR0_1 := zm hr0_1; have HC0_1 := zm hc0_1; clear hr0_1 hc0_1; have HB := zm (Below.refl w.heap.size w); have H : (impl_StateOk.l0 k l0_1 (l0_1.length : Int) 0 l0_0 l0_1) = some r := h; clear h
 have H' := zm H
 clear H; go_enter Try.func27, Try.ntmps27
 go_wp2_with (first | ((with_reducible refine gate_dst (N := 1) rfl ?_); refine zbox 1 #[.slice A0_0 l0_0.length c0_0, .slice A0_1 l0_1.length c0_1] 27 ?_; intro AJ hg w2 hbox hb; have AB := zm (hbox); have D7 := zge w hg zB; have D6 := zge w hg zB; replace HB := zm (below_step zB hb); clear hb hbox hg; obtain ⟨BB, BC, BD, BE⟩ := zc2 AB))
 go_loopg [10] k (fun kq v10 w' => ∃ (AD : Int), v10 = .int .i64 AD ∧ Aside0 (impl_StateOk.l0 kq l0_1 (l0_1.length : Int) AD l0_0 l0_1 = some r) ∧ Aside0 (kq ≤ k) ∧ Aside0 (w'.heap[AJ]? = some (.cells #[(.slice A0_0 l0_0.length c0_0), (.slice A0_1 l0_1.length c0_1)] 27 (0, 0))) ∧ Aside0 (Below w.heap.size w w'))
 case atStart => exact ⟨(0), zF, H', ⟨Nat.le_refl _⟩, ⟨zb AB⟩, ⟨zB⟩⟩
 case round =>
  clear H'; (try clear BB); (try clear BC); (try clear BD); (try clear BE); obtain ⟨AD, rfl, HA, AP, AB, HB⟩ := hrel
  cases gk with
  | zero => exact absurd HA.out (by simp [impl_StateOk.l0])
  | succ k1 =>
   have H := HA.out; clear HA; simp only [impl_StateOk.l0] at H
   by_cases c4 : AD < (l0_1.length : Int)
   ·rw [if_pos c4] at H; have BA : decide (AD < (l0_1.length : Int)) = true := decide_eq_true c4; clear c4
    by_cases c5 : 0 ≤ AD
    ·rw [if_pos c5] at H; have Da : decide (0 ≤ AD) = true := decide_eq_true c5; clear c5
     by_cases c6 : AD < (l0_1.length : Int)
     ·rw [if_pos c6] at H; have Db : decide (AD < (l0_1.length : Int)) = true := decide_eq_true c6; clear c6; replace H := Option.bind_eq_some_iff.mp H; obtain ⟨BN, BL, H⟩ := H; (try dsimp only at H); have A7 := zm BL; clear BL
      by_cases c8 : BN = true
      ·subst c8; rw [if_pos rfl] at H; replace H := Option.bind_eq_some_iff.mp H; obtain ⟨BO, BM, H⟩ := H; (try dsimp only at H); have A9 := zm BM; clear BM
       by_cases Ac : BO = true
       ·subst Ac; rw [if_pos rfl] at H
        by_cases AU : AD > 0
        ·rw [if_pos AU] at H; have BF : decide (0 < AD) = true := decide_eq_true AU; clear AU
         obtain ⟨ji12, hji12⟩ : ∃ j_ : Int, (wrap64 (AD - 1)) = j_ := ⟨_, rfl⟩
         replace H : (if 0 ≤ (ji12) then (if (ji12) < (l0_1.length : Int) then (if ((rd_T58 l0_1 (ji12)).f0) ≥ ((rd_T58 l0_1 AD).f0) then (some false) else (impl_StateOk.l0 k1 l0_1 (l0_1.length : Int) (wrap64 (AD + 1)) l0_0 l0_1)) else (none)) else (none)) = some r := by first | (rw [hji12] at H; exact H) | (simp only [hji12] at H ⊢; exact H)
         (try rw [hji12] at A7)
         (try rw [hji12] at A9)
         have hji12w : (IntKind.i64.wrap (AD - 1)) = ji12 := (i64_w _).trans hji12
         by_cases Ad : 0 ≤ (ji12)
         ·rw [if_pos Ad] at H; have D8 : decide (0 ≤ (ji12)) = true := decide_eq_true Ad; clear Ad
          by_cases Ae : (ji12) < (l0_1.length : Int)
          ·rw [if_pos Ae] at H; have D9 : decide ((ji12) < (l0_1.length : Int)) = true := decide_eq_true Ae; clear Ae
           by_cases AV : ((rd_T58 l0_1 (ji12)).f0) ≥ ((rd_T58 l0_1 AD).f0)
           ·rw [if_pos AV] at H; have BG : decide (((rd_T58 l0_1 AD).f0) ≤ ((rd_T58 l0_1 (ji12)).f0)) = true := decide_eq_true AV; clear AV; obtain rfl := Option.some.inj H; have p444 : 0 ≤ (AD : Int) := zd; have q444 : AD < (l0_1.length : Int) := zd; obtain ⟨ad444, e444, hx444_0, hx444_1⟩ := at_T58 (Kd.C_below HR0_1.out HB.out) AD p444 q444; cases e444; replace p444 := eq_true p444; replace q444 := eq_true q444
            try go_wp2_with (first | ((with_reducible refine gate_dst (N := 4) rfl ?_); refine zbox 4 #[.int .i64 0, .int .i64 0] 58 ?_; intro AI hg Cv hbox hb; have AG := zm (hbox); have AR := zge w hg zB; have AQ := zge w hg zB; replace HB := zm (below_step zB hb); have AH := zlt hg (zb AB); have AL := zgt hg (zb AB); replace AB := zy AB hb; clear hb hbox hg; have DE := AL.out; have DP := AH.out; obtain ⟨BR, BS, CB, CC⟩ := zc2 AG))
            obtain ⟨Al, hW_⟩ : ∃ q, q = ((Cv.setCell ⟨AI, 0, none⟩ (.int .i64 ((rd_T58 l0_1 AD).f0))).setCell ⟨AI, 1, none⟩ (.int .i64 ((rd_T58 l0_1 AD).f1))) := ⟨_, rfl⟩
            have n0_ : Aside0 (Al.heap[AJ]? = some (.cells #[.slice A0_0 l0_0.length c0_0, .slice (some ad444) l0_1.length c0_1] 27 (0, 0))) := ⟨by rw [hW_]; exact zfar (zfar (zb AB) AH) AH⟩; have n1_ : Aside0 (Al.heap[AI]? = some (.cells #[.int .i64 ((rd_T58 l0_1 AD).f0), .int .i64 ((rd_T58 l0_1 AD).f1)] 58 (0, 0))) := ⟨by rw [hW_]; exact zput (zput (zb AG) 0) 1⟩; have n2_ : Aside0 (Below w.heap.size w Al) := ⟨by rw [hW_]; exact zB⟩
            rw [← hW_]
            clear hW_; (try clear AB); (try clear AG); (try clear HB); have AB := n0_; have AG := n1_; have HB := n2_; clear n0_ n1_ n2_; replace AB := zq AB; replace AG := zq AG; replace HB := zm (below_drew1 HB.out); have p448 : 0 ≤ ((ji12) : Int) := zd; have q448 : (ji12) < (l0_1.length : Int) := zd; obtain ⟨ad448, e448, hx448_0, hx448_1⟩ := at_T58 HR0_1.out (ji12) p448 q448; have hw448_1 := hx448_1; have hw448_0 := hx448_0
            obtain rfl : ad444 = ad448 := (by injection e448)
            replace hx448_0 := zx HB hx448_0; replace hx448_1 := zx HB hx448_1; replace p448 := eq_true p448; replace q448 := eq_true q448
            refine start_ (n := 26) (S := fun w' => w'.cell? ⟨AI, 0, none⟩ = some (.int .i64 ((rd_T58 l0_1 AD).f0)) ∧ w'.cell? ⟨AI, 1, none⟩ = some (.int .i64 ((rd_T58 l0_1 AD).f1)) ∧ w'.cell? ⟨AJ, 0, none⟩ = some (.slice A0_0 l0_0.length c0_0) ∧ w'.cell? ⟨AJ, 1, none⟩ = some (.slice (some ad444) l0_1.length c0_1) ∧ w'.cell? (ad444.add (((ji12)).toNat * 2)) = some (.int .i64 ((rd_T58 l0_1 (ji12)).f0)) ∧ w'.cell? ⟨(ad444.add (((ji12)).toNat * 2)).block, (ad444.add (((ji12)).toNat * 2)).off + 1, none⟩ = some (.int .i64 ((rd_T58 l0_1 (ji12)).f1))) (ds := []) (zl 26 0) (by kernel_rfl) rfl rfl zS (fun hHeld => ?_); refine with_tabW impl_StateOk.tab4 impl_StateOk.bits4 (fun HT_ HW_ => ?_)
            generalize Al.drew = Dc at AB AG HB hx448_0 hx448_1 hHeld ⊢
            refine zu 0 15 26 1 ?_
            refine zv 1 16 26 3 ?_
            refine zo 2 (some 17) (zl 26 7) (fun K hK => ?_); refine zgo #[.int .i64 ((rd_T58 l0_1 AD).f0)] Try.func74 ?_; (with_reducible refine (impl_isNode.calls ((rd_T58 l0_1 AD).f0) true _ A7.out).mono ?_); rintro e w' ⟨rfl, ⟨nd, rfl⟩⟩; refine ⟨_, rfl, ?_⟩; refine hK.out _ _ zS (fun hHeld => ?_); clear hK K; refine zn ?_
            refine zu 3 18 26 15 ?_
            refine zu 4 19 26 31 ?_
            refine zu 5 20 26 63 ?_
            refine zv 6 21 26 127 ?_
            refine zo 7 (some 22) (zl 26 255) (fun K hK => ?_); refine zgo #[.int .i64 ((rd_T58 l0_1 AD).f1), .int .i64 1, .int .i64 1000] Try.func75 ?_; (with_reducible refine (impl_within.calls ((rd_T58 l0_1 AD).f1) 1 1000 true _ A9.out).mono ?_); rintro e w' ⟨rfl, ⟨nd, rfl⟩⟩; refine ⟨_, rfl, ?_⟩; refine hK.out _ _ zS (fun hHeld => ?_); clear hK K; refine zn ?_
            refine zu 8 23 26 511 ?_
            refine zu 9 24 26 1023 ?_
            refine zu 10 25 26 2047 ?_
            refine zu 11 26 26 4095 ?_
            refine zu 12 27 26 8191 ?_
            refine zu 13 28 26 16383 ?_
            refine zu 14 29 26 32767 ?_
            refine zu 16 31 26 98303 ?_
            refine zu 17 32 26 229375 ?_
            refine zu 21 36 26 2326527 ?_
            refine zv 15 30 26 2359295 ?_
            refine zu 18 33 26 2621439 ?_
            refine zu 19 34 26 3145727 ?_
            refine zv 20 35 26 4194303 ?_
            refine zv 22 37 26 8388607 ?_
            refine zu 23 38 26 16777215 ?_
            refine zu 24 39 26 33554431 ?_
            refine zu 25 40 26 67108863 ?_
            refine done_ (done_of HT_.out (by kernel_rfl)) ?_
            try go_wp2
            go_ret
            exact ⟨by first | rfl | (simp [errW_none, errW_some] <;> rfl) | (simp only [← hji12]; first | rfl | (simp [errW_none, errW_some] <;> rfl)) | (simp [*, errW_none, errW_some] <;> rfl), zB⟩
           ·rw [if_neg AV] at H; have BG : decide (((rd_T58 l0_1 AD).f0) ≤ ((rd_T58 l0_1 (ji12)).f0)) = false := decide_eq_false AV; clear AV
            have H' := zm H
            clear H; have p444 : 0 ≤ (AD : Int) := zd; have q444 : AD < (l0_1.length : Int) := zd; obtain ⟨ad444, e444, hx444_0, hx444_1⟩ := at_T58 (Kd.C_below HR0_1.out HB.out) AD p444 q444; cases e444; replace p444 := eq_true p444; replace q444 := eq_true q444
            try go_wp2_with (first | ((with_reducible refine gate_dst (N := 4) rfl ?_); refine zbox 4 #[.int .i64 0, .int .i64 0] 58 ?_; intro AI hg Cw hbox hb; have AG := zm (hbox); have AR := zge w hg zB; have AQ := zge w hg zB; replace HB := zm (below_step zB hb); have AH := zlt hg (zb AB); have AL := zgt hg (zb AB); replace AB := zy AB hb; clear hb hbox hg; have DF := AL.out; have DQ := AH.out; obtain ⟨BT, BU, CD, CE⟩ := zc2 AG))
            obtain ⟨Am, hW_⟩ : ∃ q, q = ((Cw.setCell ⟨AI, 0, none⟩ (.int .i64 ((rd_T58 l0_1 AD).f0))).setCell ⟨AI, 1, none⟩ (.int .i64 ((rd_T58 l0_1 AD).f1))) := ⟨_, rfl⟩
            have n0_ : Aside0 (Am.heap[AJ]? = some (.cells #[.slice A0_0 l0_0.length c0_0, .slice (some ad444) l0_1.length c0_1] 27 (0, 0))) := ⟨by rw [hW_]; exact zfar (zfar (zb AB) AH) AH⟩; have n1_ : Aside0 (Am.heap[AI]? = some (.cells #[.int .i64 ((rd_T58 l0_1 AD).f0), .int .i64 ((rd_T58 l0_1 AD).f1)] 58 (0, 0))) := ⟨by rw [hW_]; exact zput (zput (zb AG) 0) 1⟩; have n2_ : Aside0 (Below w.heap.size w Am) := ⟨by rw [hW_]; exact zB⟩
            rw [← hW_]
            clear hW_; (try clear AB); (try clear AG); (try clear HB); have AB := n0_; have AG := n1_; have HB := n2_; clear n0_ n1_ n2_; replace AB := zq AB; replace AG := zq AG; replace HB := zm (below_drew1 HB.out); have p448 : 0 ≤ ((ji12) : Int) := zd; have q448 : (ji12) < (l0_1.length : Int) := zd; obtain ⟨ad448, e448, hx448_0, hx448_1⟩ := at_T58 HR0_1.out (ji12) p448 q448; have hw448_1 := hx448_1; have hw448_0 := hx448_0
            obtain rfl : ad444 = ad448 := (by injection e448)
            replace hx448_0 := zx HB hx448_0; replace hx448_1 := zx HB hx448_1; replace p448 := eq_true p448; replace q448 := eq_true q448
            refine start_ (n := 26) (S := fun w' => w'.cell? ⟨AI, 0, none⟩ = some (.int .i64 ((rd_T58 l0_1 AD).f0)) ∧ w'.cell? ⟨AI, 1, none⟩ = some (.int .i64 ((rd_T58 l0_1 AD).f1)) ∧ w'.cell? ⟨AJ, 0, none⟩ = some (.slice A0_0 l0_0.length c0_0) ∧ w'.cell? ⟨AJ, 1, none⟩ = some (.slice (some ad444) l0_1.length c0_1) ∧ w'.cell? (ad444.add (((ji12)).toNat * 2)) = some (.int .i64 ((rd_T58 l0_1 (ji12)).f0)) ∧ w'.cell? ⟨(ad444.add (((ji12)).toNat * 2)).block, (ad444.add (((ji12)).toNat * 2)).off + 1, none⟩ = some (.int .i64 ((rd_T58 l0_1 (ji12)).f1))) (ds := []) (zl 26 0) (by kernel_rfl) rfl rfl zS (fun hHeld => ?_); refine with_tabW impl_StateOk.tab4 impl_StateOk.bits4 (fun HT_ HW_ => ?_)
            generalize Am.drew = Dd at AB AG HB hx448_0 hx448_1 hHeld ⊢
            refine zu 0 15 26 1 ?_
            refine zv 1 16 26 3 ?_
            refine zo 2 (some 17) (zl 26 7) (fun K hK => ?_); refine zgo #[.int .i64 ((rd_T58 l0_1 AD).f0)] Try.func74 ?_; (with_reducible refine (impl_isNode.calls ((rd_T58 l0_1 AD).f0) true _ A7.out).mono ?_); rintro e w' ⟨rfl, ⟨nd, rfl⟩⟩; refine ⟨_, rfl, ?_⟩; refine hK.out _ _ zS (fun hHeld => ?_); clear hK K; refine zn ?_
            refine zu 3 18 26 15 ?_
            refine zu 4 19 26 31 ?_
            refine zu 5 20 26 63 ?_
            refine zv 6 21 26 127 ?_
            refine zo 7 (some 22) (zl 26 255) (fun K hK => ?_); refine zgo #[.int .i64 ((rd_T58 l0_1 AD).f1), .int .i64 1, .int .i64 1000] Try.func75 ?_; (with_reducible refine (impl_within.calls ((rd_T58 l0_1 AD).f1) 1 1000 true _ A9.out).mono ?_); rintro e w' ⟨rfl, ⟨nd, rfl⟩⟩; refine ⟨_, rfl, ?_⟩; refine hK.out _ _ zS (fun hHeld => ?_); clear hK K; refine zn ?_
            refine zu 8 23 26 511 ?_
            refine zu 9 24 26 1023 ?_
            refine zu 10 25 26 2047 ?_
            refine zu 11 26 26 4095 ?_
            refine zu 12 27 26 8191 ?_
            refine zu 13 28 26 16383 ?_
            refine zu 14 29 26 32767 ?_
            refine zu 16 31 26 98303 ?_
            refine zu 17 32 26 229375 ?_
            refine zu 21 36 26 2326527 ?_
            refine zv 15 30 26 2359295 ?_
            refine zu 18 33 26 2621439 ?_
            refine zu 19 34 26 3145727 ?_
            refine zv 20 35 26 4194303 ?_
            refine zv 22 37 26 8388607 ?_
            refine zu 23 38 26 16777215 ?_
            refine zu 24 39 26 33554431 ?_
            refine zu 25 40 26 67108863 ?_
            refine done_ (done_of HT_.out (by kernel_rfl)) ?_
            try go_wp2
            go_roundg k1
            case measure => have := AP.out; omega
            case rel => exact ⟨(wrap64 (AD + 1)), zF, H', ⟨by have := AP.out; omega⟩, ⟨zb AB⟩, ⟨zB⟩⟩
          ·rw [if_neg Ae] at H
           exact absurd H (by simp)
         ·rw [if_neg Ad] at H
          exact absurd H (by simp)
        ·rw [if_neg AU] at H; have BF : decide (0 < AD) = false := decide_eq_false AU; clear AU
         have H' := zm H
         clear H; have p444 : 0 ≤ (AD : Int) := zd; have q444 : AD < (l0_1.length : Int) := zd; obtain ⟨ad444, e444, hx444_0, hx444_1⟩ := at_T58 (Kd.C_below HR0_1.out HB.out) AD p444 q444; cases e444; replace p444 := eq_true p444; replace q444 := eq_true q444
         try go_wp2_with (first | ((with_reducible refine gate_dst (N := 4) rfl ?_); refine zbox 4 #[.int .i64 0, .int .i64 0] 58 ?_; intro AI hg Cx hbox hb; have AG := zm (hbox); have AR := zge w hg zB; have AQ := zge w hg zB; replace HB := zm (below_step zB hb); have AH := zlt hg (zb AB); have AL := zgt hg (zb AB); replace AB := zy AB hb; clear hb hbox hg; have DG := AL.out; have DR := AH.out; obtain ⟨BV, BW, CF, CG⟩ := zc2 AG))
         obtain ⟨An, hW_⟩ : ∃ q, q = ((Cx.setCell ⟨AI, 0, none⟩ (.int .i64 ((rd_T58 l0_1 AD).f0))).setCell ⟨AI, 1, none⟩ (.int .i64 ((rd_T58 l0_1 AD).f1))) := ⟨_, rfl⟩
         have n0_ : Aside0 (An.heap[AJ]? = some (.cells #[.slice A0_0 l0_0.length c0_0, .slice (some ad444) l0_1.length c0_1] 27 (0, 0))) := ⟨by rw [hW_]; exact zfar (zfar (zb AB) AH) AH⟩; have n1_ : Aside0 (An.heap[AI]? = some (.cells #[.int .i64 ((rd_T58 l0_1 AD).f0), .int .i64 ((rd_T58 l0_1 AD).f1)] 58 (0, 0))) := ⟨by rw [hW_]; exact zput (zput (zb AG) 0) 1⟩; have n2_ : Aside0 (Below w.heap.size w An) := ⟨by rw [hW_]; exact zB⟩
         rw [← hW_]
         clear hW_; (try clear AB); (try clear AG); (try clear HB); have AB := n0_; have AG := n1_; have HB := n2_; clear n0_ n1_ n2_; replace AB := zq AB; replace AG := zq AG; replace HB := zm (below_drew1 HB.out)
         refine start_ (n := 26) (S := fun w' => w'.cell? ⟨AI, 0, none⟩ = some (.int .i64 ((rd_T58 l0_1 AD).f0)) ∧ w'.cell? ⟨AI, 1, none⟩ = some (.int .i64 ((rd_T58 l0_1 AD).f1))) (ds := []) (zl 26 0) (by kernel_rfl) rfl rfl zS (fun hHeld => ?_); refine with_tabW impl_StateOk.tab4 impl_StateOk.bits4 (fun HT_ HW_ => ?_)
         generalize An.drew = De at AB AG HB hHeld ⊢
         refine zu 0 15 26 1 ?_
         refine zv 1 16 26 3 ?_
         refine zo 2 (some 17) (zl 26 7) (fun K hK => ?_); refine zgo #[.int .i64 ((rd_T58 l0_1 AD).f0)] Try.func74 ?_; (with_reducible refine (impl_isNode.calls ((rd_T58 l0_1 AD).f0) true _ A7.out).mono ?_); rintro e w' ⟨rfl, ⟨nd, rfl⟩⟩; refine ⟨_, rfl, ?_⟩; refine hK.out _ _ zS (fun hHeld => ?_); clear hK K; refine zn ?_
         refine zu 3 18 26 15 ?_
         refine zu 4 19 26 31 ?_
         refine zu 5 20 26 63 ?_
         refine zv 6 21 26 127 ?_
         refine zo 7 (some 22) (zl 26 255) (fun K hK => ?_); refine zgo #[.int .i64 ((rd_T58 l0_1 AD).f1), .int .i64 1, .int .i64 1000] Try.func75 ?_; (with_reducible refine (impl_within.calls ((rd_T58 l0_1 AD).f1) 1 1000 true _ A9.out).mono ?_); rintro e w' ⟨rfl, ⟨nd, rfl⟩⟩; refine ⟨_, rfl, ?_⟩; refine hK.out _ _ zS (fun hHeld => ?_); clear hK K; refine zn ?_
         refine zu 8 23 26 511 ?_
         refine zu 9 24 26 1023 ?_
         refine zu 10 25 26 2047 ?_
         refine zu 11 26 26 4095 ?_
         refine zu 12 27 26 8191 ?_
         refine zu 13 28 26 16383 ?_
         refine zu 14 29 26 32767 ?_
         refine zu 15 30 26 65535 ?_
         refine zu 16 31 26 131071 ?_
         refine zu 17 32 26 262143 ?_
         refine zu 18 33 26 524287 ?_
         refine zu 19 34 26 1048575 ?_
         refine zu 20 35 26 2097151 ?_
         refine zu 21 36 26 4194303 ?_
         refine zu 22 37 26 8388607 ?_
         refine zu 23 38 26 16777215 ?_
         refine zu 24 39 26 33554431 ?_
         refine zu 25 40 26 67108863 ?_
         refine done_ (done_of HT_.out (by kernel_rfl)) ?_
         try go_wp2
         go_roundg k1
         case measure => have := AP.out; omega
         case rel => exact ⟨(wrap64 (AD + 1)), zF, H', ⟨by have := AP.out; omega⟩, ⟨zb AB⟩, ⟨zB⟩⟩
       ·replace Ac := Bool.eq_false_iff.mpr Ac; subst Ac; rw [zff] at H; obtain rfl := Option.some.inj H; have p444 : 0 ≤ (AD : Int) := zd; have q444 : AD < (l0_1.length : Int) := zd; obtain ⟨ad444, e444, hx444_0, hx444_1⟩ := at_T58 (Kd.C_below HR0_1.out HB.out) AD p444 q444; cases e444; replace p444 := eq_true p444; replace q444 := eq_true q444
        try go_wp2_with (first | ((with_reducible refine gate_dst (N := 4) rfl ?_); refine zbox 4 #[.int .i64 0, .int .i64 0] 58 ?_; intro AI hg Cy hbox hb; have AG := zm (hbox); have AR := zge w hg zB; have AQ := zge w hg zB; replace HB := zm (below_step zB hb); have AH := zlt hg (zb AB); have AL := zgt hg (zb AB); replace AB := zy AB hb; clear hb hbox hg; have DH := AL.out; have DS := AH.out; obtain ⟨BX, BY, CH, CI⟩ := zc2 AG))
        obtain ⟨Ao, hW_⟩ : ∃ q, q = ((Cy.setCell ⟨AI, 0, none⟩ (.int .i64 ((rd_T58 l0_1 AD).f0))).setCell ⟨AI, 1, none⟩ (.int .i64 ((rd_T58 l0_1 AD).f1))) := ⟨_, rfl⟩
        have n0_ : Aside0 (Ao.heap[AJ]? = some (.cells #[.slice A0_0 l0_0.length c0_0, .slice (some ad444) l0_1.length c0_1] 27 (0, 0))) := ⟨by rw [hW_]; exact zfar (zfar (zb AB) AH) AH⟩; have n1_ : Aside0 (Ao.heap[AI]? = some (.cells #[.int .i64 ((rd_T58 l0_1 AD).f0), .int .i64 ((rd_T58 l0_1 AD).f1)] 58 (0, 0))) := ⟨by rw [hW_]; exact zput (zput (zb AG) 0) 1⟩; have n2_ : Aside0 (Below w.heap.size w Ao) := ⟨by rw [hW_]; exact zB⟩
        rw [← hW_]
        clear hW_; (try clear AB); (try clear AG); (try clear HB); have AB := n0_; have AG := n1_; have HB := n2_; clear n0_ n1_ n2_; replace AB := zq AB; replace AG := zq AG; replace HB := zm (below_drew1 HB.out)
        refine start_ (n := 26) (S := fun w' => w'.cell? ⟨AI, 0, none⟩ = some (.int .i64 ((rd_T58 l0_1 AD).f0)) ∧ w'.cell? ⟨AI, 1, none⟩ = some (.int .i64 ((rd_T58 l0_1 AD).f1))) (ds := []) (zl 26 0) (by kernel_rfl) rfl rfl zS (fun hHeld => ?_); refine with_tabW impl_StateOk.tab4 impl_StateOk.bits4 (fun HT_ HW_ => ?_)
        generalize Ao.drew = Df at AB AG HB hHeld ⊢
        refine zu 0 15 26 1 ?_
        refine zv 1 16 26 3 ?_
        refine zo 2 (some 17) (zl 26 7) (fun K hK => ?_); refine zgo #[.int .i64 ((rd_T58 l0_1 AD).f0)] Try.func74 ?_; (with_reducible refine (impl_isNode.calls ((rd_T58 l0_1 AD).f0) true _ A7.out).mono ?_); rintro e w' ⟨rfl, ⟨nd, rfl⟩⟩; refine ⟨_, rfl, ?_⟩; refine hK.out _ _ zS (fun hHeld => ?_); clear hK K; refine zn ?_
        refine zu 3 18 26 15 ?_
        refine zu 4 19 26 31 ?_
        refine zu 5 20 26 63 ?_
        refine zv 6 21 26 127 ?_
        refine zo 7 (some 22) (zl 26 255) (fun K hK => ?_); refine zgo #[.int .i64 ((rd_T58 l0_1 AD).f1), .int .i64 1, .int .i64 1000] Try.func75 ?_; (with_reducible refine (impl_within.calls ((rd_T58 l0_1 AD).f1) 1 1000 false _ A9.out).mono ?_); rintro e w' ⟨rfl, ⟨nd, rfl⟩⟩; refine ⟨_, rfl, ?_⟩; refine hK.out _ _ zS (fun hHeld => ?_); clear hK K; refine zn ?_
        refine zu 8 23 26 511 ?_
        refine zu 9 24 26 1023 ?_
        refine zu 10 25 26 2047 ?_
        refine zu 11 26 26 4095 ?_
        refine zu 12 27 26 8191 ?_
        refine zu 13 28 26 16383 ?_
        refine zu 14 29 26 32767 ?_
        refine zu 15 30 26 65535 ?_
        refine zu 16 31 26 131071 ?_
        refine zu 17 32 26 262143 ?_
        refine zu 18 33 26 524287 ?_
        refine zu 19 34 26 1048575 ?_
        refine zu 20 35 26 2097151 ?_
        refine zu 21 36 26 4194303 ?_
        refine zu 22 37 26 8388607 ?_
        refine zu 23 38 26 16777215 ?_
        refine zu 24 39 26 33554431 ?_
        refine zu 25 40 26 67108863 ?_
        refine done_ (done_of HT_.out (by kernel_rfl)) ?_
        try go_wp2
        go_ret
        exact ⟨zE, zB⟩
      ·replace c8 := Bool.eq_false_iff.mpr c8; subst c8; rw [zff] at H; obtain rfl := Option.some.inj H; have p444 : 0 ≤ (AD : Int) := zd; have q444 : AD < (l0_1.length : Int) := zd; obtain ⟨ad444, e444, hx444_0, hx444_1⟩ := at_T58 (Kd.C_below HR0_1.out HB.out) AD p444 q444; cases e444; replace p444 := eq_true p444; replace q444 := eq_true q444
       try go_wp2_with (first | ((with_reducible refine gate_dst (N := 4) rfl ?_); refine zbox 4 #[.int .i64 0, .int .i64 0] 58 ?_; intro AI hg Cz hbox hb; have AG := zm (hbox); have AR := zge w hg zB; have AQ := zge w hg zB; replace HB := zm (below_step zB hb); have AH := zlt hg (zb AB); have AL := zgt hg (zb AB); replace AB := zy AB hb; clear hb hbox hg; have DI := AL.out; have DT := AH.out; obtain ⟨BZ, Ba, CJ, CK⟩ := zc2 AG))
       obtain ⟨Ap, hW_⟩ : ∃ q, q = ((Cz.setCell ⟨AI, 0, none⟩ (.int .i64 ((rd_T58 l0_1 AD).f0))).setCell ⟨AI, 1, none⟩ (.int .i64 ((rd_T58 l0_1 AD).f1))) := ⟨_, rfl⟩
       have n0_ : Aside0 (Ap.heap[AJ]? = some (.cells #[.slice A0_0 l0_0.length c0_0, .slice (some ad444) l0_1.length c0_1] 27 (0, 0))) := ⟨by rw [hW_]; exact zfar (zfar (zb AB) AH) AH⟩; have n1_ : Aside0 (Ap.heap[AI]? = some (.cells #[.int .i64 ((rd_T58 l0_1 AD).f0), .int .i64 ((rd_T58 l0_1 AD).f1)] 58 (0, 0))) := ⟨by rw [hW_]; exact zput (zput (zb AG) 0) 1⟩; have n2_ : Aside0 (Below w.heap.size w Ap) := ⟨by rw [hW_]; exact zB⟩
       rw [← hW_]
       clear hW_; (try clear AB); (try clear AG); (try clear HB); have AB := n0_; have AG := n1_; have HB := n2_; clear n0_ n1_ n2_; replace AB := zq AB; replace AG := zq AG; replace HB := zm (below_drew1 HB.out)
       refine start_ (n := 26) (S := fun w' => w'.cell? ⟨AI, 0, none⟩ = some (.int .i64 ((rd_T58 l0_1 AD).f0)) ∧ w'.cell? ⟨AI, 1, none⟩ = some (.int .i64 ((rd_T58 l0_1 AD).f1))) (ds := []) (zl 26 0) (by kernel_rfl) rfl rfl zS (fun hHeld => ?_); refine with_tabW impl_StateOk.tab4 impl_StateOk.bits4 (fun HT_ HW_ => ?_)
       generalize Ap.drew = Dg at AB AG HB hHeld ⊢
       refine zu 0 15 26 1 ?_
       refine zv 1 16 26 3 ?_
       refine zo 2 (some 17) (zl 26 7) (fun K hK => ?_); refine zgo #[.int .i64 ((rd_T58 l0_1 AD).f0)] Try.func74 ?_; (with_reducible refine (impl_isNode.calls ((rd_T58 l0_1 AD).f0) false _ A7.out).mono ?_); rintro e w' ⟨rfl, ⟨nd, rfl⟩⟩; refine ⟨_, rfl, ?_⟩; refine hK.out _ _ zS (fun hHeld => ?_); clear hK K; refine zn ?_
       refine zu 3 18 26 15 ?_
       refine zu 4 19 26 31 ?_
       refine zu 5 20 26 63 ?_
       refine zu 6 21 26 127 ?_
       refine zu 7 22 26 255 ?_
       refine zu 8 23 26 511 ?_
       refine zu 9 24 26 1023 ?_
       refine zu 10 25 26 2047 ?_
       refine zu 11 26 26 4095 ?_
       refine zu 12 27 26 8191 ?_
       refine zu 13 28 26 16383 ?_
       refine zu 14 29 26 32767 ?_
       refine zu 15 30 26 65535 ?_
       refine zu 16 31 26 131071 ?_
       refine zu 17 32 26 262143 ?_
       refine zu 18 33 26 524287 ?_
       refine zu 19 34 26 1048575 ?_
       refine zu 20 35 26 2097151 ?_
       refine zu 21 36 26 4194303 ?_
       refine zu 22 37 26 8388607 ?_
       refine zu 23 38 26 16777215 ?_
       refine zu 24 39 26 33554431 ?_
       refine zu 25 40 26 67108863 ?_
       refine done_ (done_of HT_.out (by kernel_rfl)) ?_
       try go_wp2
       go_ret
       exact ⟨zE, zB⟩
     ·rw [if_neg c6] at H
      exact absurd H (by simp)
    ·rw [if_neg c5] at H
     exact absurd H (by simp)
   ·rw [if_neg c4] at H; have BA : decide (AD < (l0_1.length : Int)) = false := decide_eq_false c4; clear c4
    have H' := zm H
    clear H; obtain ⟨Aw, Ax, Ay, Az⟩ := zc2 AB
    go_wp2
    go_loopg [45] k1 (fun kq v45 w' => ∃ (AA : Int), v45 = .int .i64 AA ∧ Aside0 (impl_StateOk.l1 kq l0_0 (l0_0.length : Int) AA l0_0 l0_1 = some r) ∧ Aside0 (kq ≤ k1) ∧ Aside0 (w'.heap[AJ]? = some (.cells #[(.slice A0_0 l0_0.length c0_0), (.slice A0_1 l0_1.length c0_1)] 27 (0, 0))) ∧ Aside0 (Below w.heap.size w w'))
    case atStart => exact ⟨(0), zF, H', ⟨Nat.le_refl _⟩, ⟨zb AB⟩, ⟨zB⟩⟩
    case round =>
     clear H'; (try clear c4); (try clear BA); (try clear Aw); (try clear Ax); (try clear Ay); (try clear Az); obtain ⟨AA, rfl, HA, Ab, AB, HB⟩ := hrel
     cases gk with
     | zero => exact absurd HA.out (by simp [impl_StateOk.l1])
     | succ k2 =>
      have H := HA.out; clear HA; simp only [impl_StateOk.l1] at H
      by_cases AW : AA < (l0_0.length : Int)
      ·rw [if_pos AW] at H; have BH : decide (AA < (l0_0.length : Int)) = true := decide_eq_true AW; clear AW
       by_cases Af : 0 ≤ AA
       ·rw [if_pos Af] at H; have DA : decide (0 ≤ AA) = true := decide_eq_true Af; clear Af
        by_cases Ag : AA < (l0_0.length : Int)
        ·rw [if_pos Ag] at H; have DB : decide (AA < (l0_0.length : Int)) = true := decide_eq_true Ag; clear Ag; replace H := Option.bind_eq_some_iff.mp H; obtain ⟨BP, B0, H⟩ := H; (try dsimp only at H); have AS := zm B0; clear B0
         by_cases Ah : BP = true
         ·subst Ah; rw [if_pos rfl] at H; replace H := Option.bind_eq_some_iff.mp H; obtain ⟨BQ, B2, H⟩ := H; (try dsimp only at H); have AT := zm B2; clear B2
          by_cases Ai : BQ = true
          ·subst Ai; rw [if_pos rfl] at H; replace H := Option.bind_eq_some_iff.mp H; obtain ⟨AM, B3, H⟩ := H; (try dsimp only at H); have Aa := zm B3; clear B3
           by_cases AX : ((rd_T44 l0_0 AA).f1.f0) ≤ AM
           ·rw [if_pos AX] at H; have BI : decide (((rd_T44 l0_0 AA).f1.f0) ≤ AM) = true := decide_eq_true AX; clear AX; obtain rfl := Option.some.inj H; have p449 : 0 ≤ (AA : Int) := zd; have q449 : AA < (l0_0.length : Int) := zd; obtain ⟨ad449, e449, hx449_0, hx449_1, hx449_2, hx449_3, hx449_4, hx449_5⟩ := at_T44 (Kd.C_below HR0_0.out HB.out) AA p449 q449; cases e449; replace p449 := eq_true p449; replace q449 := eq_true q449
            try go_wp2_with (first | ((with_reducible refine gate_dst (N := 6) rfl ?_); refine zbox 6 #[.int .i64 0, .int .i64 0, .int .i64 0, .int .i64 0, .int .i64 0, .string (⟨#[]⟩ : ByteArray)] 44 ?_; intro AE hg D0 hbox hb; have AF := zm (hbox); have AO := zge w hg zB; have AN := zge w hg zB; replace HB := zm (below_step zB hb); have AC := zlt hg (zb AB); have AK := zgt hg (zb AB); replace AB := zy AB hb; clear hb hbox hg; have DJ := AK.out; have DU := AC.out; obtain ⟨Bb, Bc, Bd, Be, Bf, Bg, CL, CM, CN, CO, CP, CQ⟩ := zc6 AF))
            obtain ⟨Aq, hW_⟩ : ∃ q, q = ((((((D0.setCell ⟨AE, 0, none⟩ (.int .i64 ((rd_T44 l0_0 AA).f0))).setCell ⟨AE, 1, none⟩ (.int .i64 ((rd_T44 l0_0 AA).f1.f0))).setCell ⟨AE, 2, none⟩ (.int .i64 ((rd_T44 l0_0 AA).f1.f1))).setCell ⟨AE, 3, none⟩ (.int .i64 ((rd_T44 l0_0 AA).f1.f2))).setCell ⟨AE, 4, none⟩ (.int .i64 ((rd_T44 l0_0 AA).f1.f3))).setCell ⟨AE, 5, none⟩ (.string ((rd_T44 l0_0 AA).f1.f4))) := ⟨_, rfl⟩
            have n0_ : Aside0 (Aq.heap[AJ]? = some (.cells #[.slice (some ad449) l0_0.length c0_0, .slice A0_1 l0_1.length c0_1] 27 (0, 0))) := ⟨by rw [hW_]; exact zfar (zfar (zfar (zfar (zfar (zfar (zb AB) AC) AC) AC) AC) AC) AC⟩; have n1_ : Aside0 (Aq.heap[AE]? = some (.cells #[.int .i64 ((rd_T44 l0_0 AA).f0), .int .i64 ((rd_T44 l0_0 AA).f1.f0), .int .i64 ((rd_T44 l0_0 AA).f1.f1), .int .i64 ((rd_T44 l0_0 AA).f1.f2), .int .i64 ((rd_T44 l0_0 AA).f1.f3), .string ((rd_T44 l0_0 AA).f1.f4)] 44 (0, 0))) := ⟨by rw [hW_]; exact zput (zput (zput (zput (zput (zput (zb AF) 0) 1) 2) 3) 4) 5⟩; have n2_ : Aside0 (Below w.heap.size w Aq) := ⟨by rw [hW_]; exact zB⟩
            rw [← hW_]
            clear hW_; (try clear AB); (try clear AF); (try clear HB); have AB := n0_; have AF := n1_; have HB := n2_; clear n0_ n1_ n2_; replace AB := zq AB; replace AF := zq AF; replace HB := zm (below_drew1 HB.out)
            refine start_ (n := 36) (S := fun w' => w'.cell? ⟨AE, 0, none⟩ = some (.int .i64 ((rd_T44 l0_0 AA).f0)) ∧ w'.cell? ⟨AE, 1, none⟩ = some (.int .i64 ((rd_T44 l0_0 AA).f1.f0)) ∧ w'.cell? ⟨AE, 2, none⟩ = some (.int .i64 ((rd_T44 l0_0 AA).f1.f1)) ∧ w'.cell? ⟨AE, 3, none⟩ = some (.int .i64 ((rd_T44 l0_0 AA).f1.f2)) ∧ w'.cell? ⟨AE, 4, none⟩ = some (.int .i64 ((rd_T44 l0_0 AA).f1.f3)) ∧ w'.cell? ⟨AE, 5, none⟩ = some (.string ((rd_T44 l0_0 AA).f1.f4)) ∧ w'.cell? ⟨AJ, 0, none⟩ = some (.slice (some ad449) l0_0.length c0_0) ∧ w'.cell? ⟨AJ, 1, none⟩ = some (.slice A0_1 l0_1.length c0_1)) (ds := []) (zl 36 0) (by kernel_rfl) rfl rfl zS (fun hHeld => ?_); refine with_tabW impl_StateOk.tab10 impl_StateOk.bits10 (fun HT_ HW_ => ?_)
            generalize Aq.drew = Dh at AB AF HB hHeld ⊢
            refine zu 0 50 36 1 ?_
            refine zv 1 51 36 3 ?_
            refine zo 2 (some 52) (zl 36 7) (fun K hK => ?_); refine zgo #[.int .i64 ((rd_T44 l0_0 AA).f0)] Try.func74 ?_; (with_reducible refine (impl_isNode.calls ((rd_T44 l0_0 AA).f0) true _ AS.out).mono ?_); rintro e w' ⟨rfl, ⟨nd, rfl⟩⟩; refine ⟨_, rfl, ?_⟩; refine hK.out _ _ zS (fun hHeld => ?_); clear hK K; refine zn ?_
            refine zu 3 53 36 15 ?_
            refine zu 4 54 36 31 ?_
            refine zu 5 55 36 63 ?_
            refine zv 6 56 36 127 ?_
            refine zo 7 (some 57) (zl 36 255) (fun K hK => ?_); refine zgo #[.agg #[.int .i64 ((rd_T44 l0_0 AA).f1.f0), .int .i64 ((rd_T44 l0_0 AA).f1.f1), .int .i64 ((rd_T44 l0_0 AA).f1.f2), .int .i64 ((rd_T44 l0_0 AA).f1.f3), .string ((rd_T44 l0_0 AA).f1.f4)]] Try.func76 ?_; (with_reducible refine (impl_EntryOk.calls ((rd_T44 l0_0 AA).f1.f0) ((rd_T44 l0_0 AA).f1.f1) ((rd_T44 l0_0 AA).f1.f2) ((rd_T44 l0_0 AA).f1.f3) ((rd_T44 l0_0 AA).f1.f4) true _ AT.out).mono ?_); rintro e Di ⟨rfl, hb⟩; refine ⟨_, rfl, ?_⟩; replace AB := zy AB hb; replace AF := zy AF hb; replace HB := zm (below_step zB hb); (try clear hb); refine hK.out _ _ zS (fun hHeld => ?_); clear hK K; refine zn ?_
            refine zu 8 58 36 511 ?_
            refine zu 9 59 36 1023 ?_
            refine zu 10 60 36 2047 ?_
            refine zu 11 61 36 4095 ?_
            refine zu 12 62 36 8191 ?_
            refine zu 15 65 36 40959 ?_
            refine zv 13 63 36 49151 ?_
            refine zv 14 64 36 65535 ?_
            refine zv 16 66 36 131071 ?_
            refine zo 17 (some 67) (zl 36 262143) (fun K hK => ?_); refine zgo #[.agg #[.slice (some ad449) l0_0.length c0_0, .slice A0_1 l0_1.length c0_1], .int .i64 ((rd_T44 l0_0 AA).f0)] Try.func24 ?_; (with_reducible refine (impl_FloorOf.calls k2 _ _ l0_0 _ _ l0_1 ((rd_T44 l0_0 AA).f0) AM _ (zk (Kd.C_below HR0_0.out HB.out)) HC0_0.out (zk (Kd.C_below HR0_1.out HB.out)) HC0_1.out Aa.out).mono ?_); rintro e Dj ⟨rfl, hb⟩; refine ⟨_, rfl, ?_⟩; replace AB := zy AB hb; replace AF := zy AF hb; replace HB := zm (below_step zB hb); (try clear hb); refine hK.out _ _ zS (fun hHeld => ?_); clear hK K; refine zn ?_
            refine zu 18 68 36 524287 ?_
            refine zu 19 69 36 1048575 ?_
            refine zu 20 70 36 2097151 ?_
            refine zu 21 71 36 4194303 ?_
            refine zu 22 72 36 8388607 ?_
            refine zu 23 73 36 16777215 ?_
            refine zu 24 74 36 33554431 ?_
            refine zu 25 75 36 67108863 ?_
            refine zu 26 76 36 134217727 ?_
            refine zu 27 77 36 268435455 ?_
            refine zu 28 78 36 536870911 ?_
            refine zu 29 79 36 1073741823 ?_
            refine zu 30 80 36 2147483647 ?_
            refine zu 31 81 36 4294967295 ?_
            refine zu 32 82 36 8589934591 ?_
            refine zu 33 83 36 17179869183 ?_
            refine zu 34 84 36 34359738367 ?_
            refine zu 35 85 36 68719476735 ?_
            refine done_ (done_of HT_.out (by kernel_rfl)) ?_
            try go_wp2
            go_ret
            exact ⟨zE, zB⟩
           ·rw [if_neg AX] at H; have BI : decide (((rd_T44 l0_0 AA).f1.f0) ≤ AM) = false := decide_eq_false AX; clear AX
            by_cases AY : AA > 0
            ·rw [if_pos AY] at H; have BJ : decide (0 < AA) = true := decide_eq_true AY; clear AY
             obtain ⟨ji59, hji59⟩ : ∃ j_ : Int, (wrap64 (AA - 1)) = j_ := ⟨_, rfl⟩
             replace H : (if 0 ≤ (ji59) then (if (ji59) < (l0_0.length : Int) then (if ((rd_T44 l0_0 (ji59)).f0) ≥ ((rd_T44 l0_0 AA).f0) then (some false) else (impl_StateOk.l1 k2 l0_0 (l0_0.length : Int) (wrap64 (AA + 1)) l0_0 l0_1)) else (none)) else (none)) = some r := by first | (rw [hji59] at H; exact H) | (simp only [hji59] at H ⊢; exact H)
             (try rw [hji59] at AS)
             (try rw [hji59] at AT)
             (try rw [hji59] at Aa)
             have hji59w : (IntKind.i64.wrap (AA - 1)) = ji59 := (i64_w _).trans hji59
             by_cases Aj : 0 ≤ (ji59)
             ·rw [if_pos Aj] at H; have DC : decide (0 ≤ (ji59)) = true := decide_eq_true Aj; clear Aj
              by_cases Ak : (ji59) < (l0_0.length : Int)
              ·rw [if_pos Ak] at H; have DD : decide ((ji59) < (l0_0.length : Int)) = true := decide_eq_true Ak; clear Ak
               by_cases AZ : ((rd_T44 l0_0 (ji59)).f0) ≥ ((rd_T44 l0_0 AA).f0)
               ·rw [if_pos AZ] at H; have BK : decide (((rd_T44 l0_0 AA).f0) ≤ ((rd_T44 l0_0 (ji59)).f0)) = true := decide_eq_true AZ; clear AZ; obtain rfl := Option.some.inj H; have p449 : 0 ≤ (AA : Int) := zd; have q449 : AA < (l0_0.length : Int) := zd; obtain ⟨ad449, e449, hx449_0, hx449_1, hx449_2, hx449_3, hx449_4, hx449_5⟩ := at_T44 (Kd.C_below HR0_0.out HB.out) AA p449 q449; cases e449; replace p449 := eq_true p449; replace q449 := eq_true q449
                try go_wp2_with (first | ((with_reducible refine gate_dst (N := 6) rfl ?_); refine zbox 6 #[.int .i64 0, .int .i64 0, .int .i64 0, .int .i64 0, .int .i64 0, .string (⟨#[]⟩ : ByteArray)] 44 ?_; intro AE hg D1 hbox hb; have AF := zm (hbox); have AO := zge w hg zB; have AN := zge w hg zB; replace HB := zm (below_step zB hb); have AC := zlt hg (zb AB); have AK := zgt hg (zb AB); replace AB := zy AB hb; clear hb hbox hg; have DK := AK.out; have DV := AC.out; obtain ⟨Bh, Bi, Bj, Bk, Bl, Bm, CR, CS, CT, CU, CV, CW⟩ := zc6 AF))
                obtain ⟨Ar, hW_⟩ : ∃ q, q = ((((((D1.setCell ⟨AE, 0, none⟩ (.int .i64 ((rd_T44 l0_0 AA).f0))).setCell ⟨AE, 1, none⟩ (.int .i64 ((rd_T44 l0_0 AA).f1.f0))).setCell ⟨AE, 2, none⟩ (.int .i64 ((rd_T44 l0_0 AA).f1.f1))).setCell ⟨AE, 3, none⟩ (.int .i64 ((rd_T44 l0_0 AA).f1.f2))).setCell ⟨AE, 4, none⟩ (.int .i64 ((rd_T44 l0_0 AA).f1.f3))).setCell ⟨AE, 5, none⟩ (.string ((rd_T44 l0_0 AA).f1.f4))) := ⟨_, rfl⟩
                have n0_ : Aside0 (Ar.heap[AJ]? = some (.cells #[.slice (some ad449) l0_0.length c0_0, .slice A0_1 l0_1.length c0_1] 27 (0, 0))) := ⟨by rw [hW_]; exact zfar (zfar (zfar (zfar (zfar (zfar (zb AB) AC) AC) AC) AC) AC) AC⟩; have n1_ : Aside0 (Ar.heap[AE]? = some (.cells #[.int .i64 ((rd_T44 l0_0 AA).f0), .int .i64 ((rd_T44 l0_0 AA).f1.f0), .int .i64 ((rd_T44 l0_0 AA).f1.f1), .int .i64 ((rd_T44 l0_0 AA).f1.f2), .int .i64 ((rd_T44 l0_0 AA).f1.f3), .string ((rd_T44 l0_0 AA).f1.f4)] 44 (0, 0))) := ⟨by rw [hW_]; exact zput (zput (zput (zput (zput (zput (zb AF) 0) 1) 2) 3) 4) 5⟩; have n2_ : Aside0 (Below w.heap.size w Ar) := ⟨by rw [hW_]; exact zB⟩
                rw [← hW_]
                clear hW_; (try clear AB); (try clear AF); (try clear HB); have AB := n0_; have AF := n1_; have HB := n2_; clear n0_ n1_ n2_; replace AB := zq AB; replace AF := zq AF; replace HB := zm (below_drew1 HB.out); have p454 : 0 ≤ ((ji59) : Int) := zd; have q454 : (ji59) < (l0_0.length : Int) := zd; obtain ⟨ad454, e454, hx454_0, hx454_1, hx454_2, hx454_3, hx454_4, hx454_5⟩ := at_T44 HR0_0.out (ji59) p454 q454; have hw454_5 := hx454_5; have hw454_4 := hx454_4; have hw454_3 := hx454_3; have hw454_2 := hx454_2; have hw454_1 := hx454_1; have hw454_0 := hx454_0
                obtain rfl : ad449 = ad454 := (by injection e454)
                replace hx454_0 := zx HB hx454_0; replace hx454_1 := zx HB hx454_1; replace hx454_2 := zx HB hx454_2; replace hx454_3 := zx HB hx454_3; replace hx454_4 := zx HB hx454_4; replace hx454_5 := zx HB hx454_5; replace p454 := eq_true p454; replace q454 := eq_true q454
                refine start_ (n := 36) (S := fun w' => w'.cell? ⟨AE, 0, none⟩ = some (.int .i64 ((rd_T44 l0_0 AA).f0)) ∧ w'.cell? ⟨AE, 1, none⟩ = some (.int .i64 ((rd_T44 l0_0 AA).f1.f0)) ∧ w'.cell? ⟨AE, 2, none⟩ = some (.int .i64 ((rd_T44 l0_0 AA).f1.f1)) ∧ w'.cell? ⟨AE, 3, none⟩ = some (.int .i64 ((rd_T44 l0_0 AA).f1.f2)) ∧ w'.cell? ⟨AE, 4, none⟩ = some (.int .i64 ((rd_T44 l0_0 AA).f1.f3)) ∧ w'.cell? ⟨AE, 5, none⟩ = some (.string ((rd_T44 l0_0 AA).f1.f4)) ∧ w'.cell? ⟨AJ, 0, none⟩ = some (.slice (some ad449) l0_0.length c0_0) ∧ w'.cell? ⟨AJ, 1, none⟩ = some (.slice A0_1 l0_1.length c0_1) ∧ w'.cell? (ad449.add (((ji59)).toNat * 6)) = some (.int .i64 ((rd_T44 l0_0 (ji59)).f0)) ∧ w'.cell? ⟨(ad449.add (((ji59)).toNat * 6)).block, (ad449.add (((ji59)).toNat * 6)).off + 1, none⟩ = some (.int .i64 ((rd_T44 l0_0 (ji59)).f1.f0)) ∧ w'.cell? ⟨(ad449.add (((ji59)).toNat * 6)).block, (ad449.add (((ji59)).toNat * 6)).off + 2, none⟩ = some (.int .i64 ((rd_T44 l0_0 (ji59)).f1.f1)) ∧ w'.cell? ⟨(ad449.add (((ji59)).toNat * 6)).block, (ad449.add (((ji59)).toNat * 6)).off + 3, none⟩ = some (.int .i64 ((rd_T44 l0_0 (ji59)).f1.f2)) ∧ w'.cell? ⟨(ad449.add (((ji59)).toNat * 6)).block, (ad449.add (((ji59)).toNat * 6)).off + 4, none⟩ = some (.int .i64 ((rd_T44 l0_0 (ji59)).f1.f3)) ∧ w'.cell? ⟨(ad449.add (((ji59)).toNat * 6)).block, (ad449.add (((ji59)).toNat * 6)).off + 5, none⟩ = some (.string ((rd_T44 l0_0 (ji59)).f1.f4))) (ds := []) (zl 36 0) (by kernel_rfl) rfl rfl zS (fun hHeld => ?_); refine with_tabW impl_StateOk.tab10 impl_StateOk.bits10 (fun HT_ HW_ => ?_)
                generalize Ar.drew = Dk at AB AF HB hx454_0 hx454_1 hx454_2 hx454_3 hx454_4 hx454_5 hHeld ⊢
                refine zu 0 50 36 1 ?_
                refine zv 1 51 36 3 ?_
                refine zo 2 (some 52) (zl 36 7) (fun K hK => ?_); refine zgo #[.int .i64 ((rd_T44 l0_0 AA).f0)] Try.func74 ?_; (with_reducible refine (impl_isNode.calls ((rd_T44 l0_0 AA).f0) true _ AS.out).mono ?_); rintro e w' ⟨rfl, ⟨nd, rfl⟩⟩; refine ⟨_, rfl, ?_⟩; refine hK.out _ _ zS (fun hHeld => ?_); clear hK K; refine zn ?_
                refine zu 3 53 36 15 ?_
                refine zu 4 54 36 31 ?_
                refine zu 5 55 36 63 ?_
                refine zv 6 56 36 127 ?_
                refine zo 7 (some 57) (zl 36 255) (fun K hK => ?_); refine zgo #[.agg #[.int .i64 ((rd_T44 l0_0 AA).f1.f0), .int .i64 ((rd_T44 l0_0 AA).f1.f1), .int .i64 ((rd_T44 l0_0 AA).f1.f2), .int .i64 ((rd_T44 l0_0 AA).f1.f3), .string ((rd_T44 l0_0 AA).f1.f4)]] Try.func76 ?_; (with_reducible refine (impl_EntryOk.calls ((rd_T44 l0_0 AA).f1.f0) ((rd_T44 l0_0 AA).f1.f1) ((rd_T44 l0_0 AA).f1.f2) ((rd_T44 l0_0 AA).f1.f3) ((rd_T44 l0_0 AA).f1.f4) true _ AT.out).mono ?_); rintro e Dl ⟨rfl, hb⟩; refine ⟨_, rfl, ?_⟩; replace AB := zy AB hb; replace AF := zy AF hb; replace HB := zm (below_step zB hb); (try clear hb); refine hK.out _ _ zS (fun hHeld => ?_); clear hK K; refine zn ?_
                refine zu 8 58 36 511 ?_
                refine zu 9 59 36 1023 ?_
                refine zu 10 60 36 2047 ?_
                refine zu 11 61 36 4095 ?_
                refine zu 12 62 36 8191 ?_
                refine zu 15 65 36 40959 ?_
                refine zv 13 63 36 49151 ?_
                refine zv 14 64 36 65535 ?_
                refine zv 16 66 36 131071 ?_
                refine zo 17 (some 67) (zl 36 262143) (fun K hK => ?_); refine zgo #[.agg #[.slice (some ad449) l0_0.length c0_0, .slice A0_1 l0_1.length c0_1], .int .i64 ((rd_T44 l0_0 AA).f0)] Try.func24 ?_; (with_reducible refine (impl_FloorOf.calls k2 _ _ l0_0 _ _ l0_1 ((rd_T44 l0_0 AA).f0) AM _ (zk (Kd.C_below HR0_0.out HB.out)) HC0_0.out (zk (Kd.C_below HR0_1.out HB.out)) HC0_1.out Aa.out).mono ?_); rintro e Dm ⟨rfl, hb⟩; refine ⟨_, rfl, ?_⟩; replace AB := zy AB hb; replace AF := zy AF hb; replace HB := zm (below_step zB hb); (try clear hb); refine hK.out _ _ zS (fun hHeld => ?_); clear hK K; refine zn ?_
                refine zu 18 68 36 524287 ?_
                refine zu 19 69 36 1048575 ?_
                refine zu 20 70 36 2097151 ?_
                refine zu 21 71 36 4194303 ?_
                refine zu 22 72 36 8388607 ?_
                refine zu 23 73 36 16777215 ?_
                refine zu 24 74 36 33554431 ?_
                refine zu 26 76 36 100663295 ?_
                refine zu 27 77 36 234881023 ?_
                refine zu 31 81 36 2382364671 ?_
                refine zv 25 75 36 2415919103 ?_
                refine zu 28 78 36 2684354559 ?_
                refine zu 29 79 36 3221225471 ?_
                refine zv 30 80 36 4294967295 ?_
                refine zv 32 82 36 8589934591 ?_
                refine zu 33 83 36 17179869183 ?_
                refine zu 34 84 36 34359738367 ?_
                refine zu 35 85 36 68719476735 ?_
                refine done_ (done_of HT_.out (by kernel_rfl)) ?_
                try go_wp2
                go_ret
                exact ⟨by first | rfl | (simp [errW_none, errW_some] <;> rfl) | (simp only [← hji59]; first | rfl | (simp [errW_none, errW_some] <;> rfl)) | (simp [*, errW_none, errW_some] <;> rfl), zB⟩
               ·rw [if_neg AZ] at H; have BK : decide (((rd_T44 l0_0 AA).f0) ≤ ((rd_T44 l0_0 (ji59)).f0)) = false := decide_eq_false AZ; clear AZ
                have H' := zm H
                clear H; have p449 : 0 ≤ (AA : Int) := zd; have q449 : AA < (l0_0.length : Int) := zd; obtain ⟨ad449, e449, hx449_0, hx449_1, hx449_2, hx449_3, hx449_4, hx449_5⟩ := at_T44 (Kd.C_below HR0_0.out HB.out) AA p449 q449; cases e449; replace p449 := eq_true p449; replace q449 := eq_true q449
                try go_wp2_with (first | ((with_reducible refine gate_dst (N := 6) rfl ?_); refine zbox 6 #[.int .i64 0, .int .i64 0, .int .i64 0, .int .i64 0, .int .i64 0, .string (⟨#[]⟩ : ByteArray)] 44 ?_; intro AE hg D2 hbox hb; have AF := zm (hbox); have AO := zge w hg zB; have AN := zge w hg zB; replace HB := zm (below_step zB hb); have AC := zlt hg (zb AB); have AK := zgt hg (zb AB); replace AB := zy AB hb; clear hb hbox hg; have DL := AK.out; have DW := AC.out; obtain ⟨Bn, Bo, Bp, Bq, Br, Bs, CX, CY, CZ, Ca, Cb, Cc⟩ := zc6 AF))
                obtain ⟨As, hW_⟩ : ∃ q, q = ((((((D2.setCell ⟨AE, 0, none⟩ (.int .i64 ((rd_T44 l0_0 AA).f0))).setCell ⟨AE, 1, none⟩ (.int .i64 ((rd_T44 l0_0 AA).f1.f0))).setCell ⟨AE, 2, none⟩ (.int .i64 ((rd_T44 l0_0 AA).f1.f1))).setCell ⟨AE, 3, none⟩ (.int .i64 ((rd_T44 l0_0 AA).f1.f2))).setCell ⟨AE, 4, none⟩ (.int .i64 ((rd_T44 l0_0 AA).f1.f3))).setCell ⟨AE, 5, none⟩ (.string ((rd_T44 l0_0 AA).f1.f4))) := ⟨_, rfl⟩
                have n0_ : Aside0 (As.heap[AJ]? = some (.cells #[.slice (some ad449) l0_0.length c0_0, .slice A0_1 l0_1.length c0_1] 27 (0, 0))) := ⟨by rw [hW_]; exact zfar (zfar (zfar (zfar (zfar (zfar (zb AB) AC) AC) AC) AC) AC) AC⟩; have n1_ : Aside0 (As.heap[AE]? = some (.cells #[.int .i64 ((rd_T44 l0_0 AA).f0), .int .i64 ((rd_T44 l0_0 AA).f1.f0), .int .i64 ((rd_T44 l0_0 AA).f1.f1), .int .i64 ((rd_T44 l0_0 AA).f1.f2), .int .i64 ((rd_T44 l0_0 AA).f1.f3), .string ((rd_T44 l0_0 AA).f1.f4)] 44 (0, 0))) := ⟨by rw [hW_]; exact zput (zput (zput (zput (zput (zput (zb AF) 0) 1) 2) 3) 4) 5⟩; have n2_ : Aside0 (Below w.heap.size w As) := ⟨by rw [hW_]; exact zB⟩
                rw [← hW_]
                clear hW_; (try clear AB); (try clear AF); (try clear HB); have AB := n0_; have AF := n1_; have HB := n2_; clear n0_ n1_ n2_; replace AB := zq AB; replace AF := zq AF; replace HB := zm (below_drew1 HB.out); have p454 : 0 ≤ ((ji59) : Int) := zd; have q454 : (ji59) < (l0_0.length : Int) := zd; obtain ⟨ad454, e454, hx454_0, hx454_1, hx454_2, hx454_3, hx454_4, hx454_5⟩ := at_T44 HR0_0.out (ji59) p454 q454; have hw454_5 := hx454_5; have hw454_4 := hx454_4; have hw454_3 := hx454_3; have hw454_2 := hx454_2; have hw454_1 := hx454_1; have hw454_0 := hx454_0
                obtain rfl : ad449 = ad454 := (by injection e454)
                replace hx454_0 := zx HB hx454_0; replace hx454_1 := zx HB hx454_1; replace hx454_2 := zx HB hx454_2; replace hx454_3 := zx HB hx454_3; replace hx454_4 := zx HB hx454_4; replace hx454_5 := zx HB hx454_5; replace p454 := eq_true p454; replace q454 := eq_true q454
                refine start_ (n := 36) (S := fun w' => w'.cell? ⟨AE, 0, none⟩ = some (.int .i64 ((rd_T44 l0_0 AA).f0)) ∧ w'.cell? ⟨AE, 1, none⟩ = some (.int .i64 ((rd_T44 l0_0 AA).f1.f0)) ∧ w'.cell? ⟨AE, 2, none⟩ = some (.int .i64 ((rd_T44 l0_0 AA).f1.f1)) ∧ w'.cell? ⟨AE, 3, none⟩ = some (.int .i64 ((rd_T44 l0_0 AA).f1.f2)) ∧ w'.cell? ⟨AE, 4, none⟩ = some (.int .i64 ((rd_T44 l0_0 AA).f1.f3)) ∧ w'.cell? ⟨AE, 5, none⟩ = some (.string ((rd_T44 l0_0 AA).f1.f4)) ∧ w'.cell? ⟨AJ, 0, none⟩ = some (.slice (some ad449) l0_0.length c0_0) ∧ w'.cell? ⟨AJ, 1, none⟩ = some (.slice A0_1 l0_1.length c0_1) ∧ w'.cell? (ad449.add (((ji59)).toNat * 6)) = some (.int .i64 ((rd_T44 l0_0 (ji59)).f0)) ∧ w'.cell? ⟨(ad449.add (((ji59)).toNat * 6)).block, (ad449.add (((ji59)).toNat * 6)).off + 1, none⟩ = some (.int .i64 ((rd_T44 l0_0 (ji59)).f1.f0)) ∧ w'.cell? ⟨(ad449.add (((ji59)).toNat * 6)).block, (ad449.add (((ji59)).toNat * 6)).off + 2, none⟩ = some (.int .i64 ((rd_T44 l0_0 (ji59)).f1.f1)) ∧ w'.cell? ⟨(ad449.add (((ji59)).toNat * 6)).block, (ad449.add (((ji59)).toNat * 6)).off + 3, none⟩ = some (.int .i64 ((rd_T44 l0_0 (ji59)).f1.f2)) ∧ w'.cell? ⟨(ad449.add (((ji59)).toNat * 6)).block, (ad449.add (((ji59)).toNat * 6)).off + 4, none⟩ = some (.int .i64 ((rd_T44 l0_0 (ji59)).f1.f3)) ∧ w'.cell? ⟨(ad449.add (((ji59)).toNat * 6)).block, (ad449.add (((ji59)).toNat * 6)).off + 5, none⟩ = some (.string ((rd_T44 l0_0 (ji59)).f1.f4))) (ds := []) (zl 36 0) (by kernel_rfl) rfl rfl zS (fun hHeld => ?_); refine with_tabW impl_StateOk.tab10 impl_StateOk.bits10 (fun HT_ HW_ => ?_)
                generalize As.drew = Dn at AB AF HB hx454_0 hx454_1 hx454_2 hx454_3 hx454_4 hx454_5 hHeld ⊢
                refine zu 0 50 36 1 ?_
                refine zv 1 51 36 3 ?_
                refine zo 2 (some 52) (zl 36 7) (fun K hK => ?_); refine zgo #[.int .i64 ((rd_T44 l0_0 AA).f0)] Try.func74 ?_; (with_reducible refine (impl_isNode.calls ((rd_T44 l0_0 AA).f0) true _ AS.out).mono ?_); rintro e w' ⟨rfl, ⟨nd, rfl⟩⟩; refine ⟨_, rfl, ?_⟩; refine hK.out _ _ zS (fun hHeld => ?_); clear hK K; refine zn ?_
                refine zu 3 53 36 15 ?_
                refine zu 4 54 36 31 ?_
                refine zu 5 55 36 63 ?_
                refine zv 6 56 36 127 ?_
                refine zo 7 (some 57) (zl 36 255) (fun K hK => ?_); refine zgo #[.agg #[.int .i64 ((rd_T44 l0_0 AA).f1.f0), .int .i64 ((rd_T44 l0_0 AA).f1.f1), .int .i64 ((rd_T44 l0_0 AA).f1.f2), .int .i64 ((rd_T44 l0_0 AA).f1.f3), .string ((rd_T44 l0_0 AA).f1.f4)]] Try.func76 ?_; (with_reducible refine (impl_EntryOk.calls ((rd_T44 l0_0 AA).f1.f0) ((rd_T44 l0_0 AA).f1.f1) ((rd_T44 l0_0 AA).f1.f2) ((rd_T44 l0_0 AA).f1.f3) ((rd_T44 l0_0 AA).f1.f4) true _ AT.out).mono ?_); rintro e Do ⟨rfl, hb⟩; refine ⟨_, rfl, ?_⟩; replace AB := zy AB hb; replace AF := zy AF hb; replace HB := zm (below_step zB hb); (try clear hb); refine hK.out _ _ zS (fun hHeld => ?_); clear hK K; refine zn ?_
                refine zu 8 58 36 511 ?_
                refine zu 9 59 36 1023 ?_
                refine zu 10 60 36 2047 ?_
                refine zu 11 61 36 4095 ?_
                refine zu 12 62 36 8191 ?_
                refine zu 15 65 36 40959 ?_
                refine zv 13 63 36 49151 ?_
                refine zv 14 64 36 65535 ?_
                refine zv 16 66 36 131071 ?_
                refine zo 17 (some 67) (zl 36 262143) (fun K hK => ?_); refine zgo #[.agg #[.slice (some ad449) l0_0.length c0_0, .slice A0_1 l0_1.length c0_1], .int .i64 ((rd_T44 l0_0 AA).f0)] Try.func24 ?_; (with_reducible refine (impl_FloorOf.calls k2 _ _ l0_0 _ _ l0_1 ((rd_T44 l0_0 AA).f0) AM _ (zk (Kd.C_below HR0_0.out HB.out)) HC0_0.out (zk (Kd.C_below HR0_1.out HB.out)) HC0_1.out Aa.out).mono ?_); rintro e Dp ⟨rfl, hb⟩; refine ⟨_, rfl, ?_⟩; replace AB := zy AB hb; replace AF := zy AF hb; replace HB := zm (below_step zB hb); (try clear hb); refine hK.out _ _ zS (fun hHeld => ?_); clear hK K; refine zn ?_
                refine zu 18 68 36 524287 ?_
                refine zu 19 69 36 1048575 ?_
                refine zu 20 70 36 2097151 ?_
                refine zu 21 71 36 4194303 ?_
                refine zu 22 72 36 8388607 ?_
                refine zu 23 73 36 16777215 ?_
                refine zu 24 74 36 33554431 ?_
                refine zu 26 76 36 100663295 ?_
                refine zu 27 77 36 234881023 ?_
                refine zu 31 81 36 2382364671 ?_
                refine zv 25 75 36 2415919103 ?_
                refine zu 28 78 36 2684354559 ?_
                refine zu 29 79 36 3221225471 ?_
                refine zv 30 80 36 4294967295 ?_
                refine zv 32 82 36 8589934591 ?_
                refine zu 33 83 36 17179869183 ?_
                refine zu 34 84 36 34359738367 ?_
                refine zu 35 85 36 68719476735 ?_
                refine done_ (done_of HT_.out (by kernel_rfl)) ?_
                try go_wp2
                go_roundg k2
                case measure => have := AP.out; have := Ab.out; omega
                case rel => exact ⟨(wrap64 (AA + 1)), zF, H', ⟨by have := AP.out; have := Ab.out; omega⟩, ⟨zb AB⟩, ⟨zB⟩⟩
              ·rw [if_neg Ak] at H
               exact absurd H (by simp)
             ·rw [if_neg Aj] at H
              exact absurd H (by simp)
            ·rw [if_neg AY] at H; have BJ : decide (0 < AA) = false := decide_eq_false AY; clear AY
             have H' := zm H
             clear H; have p449 : 0 ≤ (AA : Int) := zd; have q449 : AA < (l0_0.length : Int) := zd; obtain ⟨ad449, e449, hx449_0, hx449_1, hx449_2, hx449_3, hx449_4, hx449_5⟩ := at_T44 (Kd.C_below HR0_0.out HB.out) AA p449 q449; cases e449; replace p449 := eq_true p449; replace q449 := eq_true q449
             try go_wp2_with (first | ((with_reducible refine gate_dst (N := 6) rfl ?_); refine zbox 6 #[.int .i64 0, .int .i64 0, .int .i64 0, .int .i64 0, .int .i64 0, .string (⟨#[]⟩ : ByteArray)] 44 ?_; intro AE hg D3 hbox hb; have AF := zm (hbox); have AO := zge w hg zB; have AN := zge w hg zB; replace HB := zm (below_step zB hb); have AC := zlt hg (zb AB); have AK := zgt hg (zb AB); replace AB := zy AB hb; clear hb hbox hg; have DM := AK.out; have DX := AC.out; obtain ⟨Bt, Bu, Bv, Bw, Bx, By, Cd, Ce, Cf, Cg, Ch, Ci⟩ := zc6 AF))
             obtain ⟨At, hW_⟩ : ∃ q, q = ((((((D3.setCell ⟨AE, 0, none⟩ (.int .i64 ((rd_T44 l0_0 AA).f0))).setCell ⟨AE, 1, none⟩ (.int .i64 ((rd_T44 l0_0 AA).f1.f0))).setCell ⟨AE, 2, none⟩ (.int .i64 ((rd_T44 l0_0 AA).f1.f1))).setCell ⟨AE, 3, none⟩ (.int .i64 ((rd_T44 l0_0 AA).f1.f2))).setCell ⟨AE, 4, none⟩ (.int .i64 ((rd_T44 l0_0 AA).f1.f3))).setCell ⟨AE, 5, none⟩ (.string ((rd_T44 l0_0 AA).f1.f4))) := ⟨_, rfl⟩
             have n0_ : Aside0 (At.heap[AJ]? = some (.cells #[.slice (some ad449) l0_0.length c0_0, .slice A0_1 l0_1.length c0_1] 27 (0, 0))) := ⟨by rw [hW_]; exact zfar (zfar (zfar (zfar (zfar (zfar (zb AB) AC) AC) AC) AC) AC) AC⟩; have n1_ : Aside0 (At.heap[AE]? = some (.cells #[.int .i64 ((rd_T44 l0_0 AA).f0), .int .i64 ((rd_T44 l0_0 AA).f1.f0), .int .i64 ((rd_T44 l0_0 AA).f1.f1), .int .i64 ((rd_T44 l0_0 AA).f1.f2), .int .i64 ((rd_T44 l0_0 AA).f1.f3), .string ((rd_T44 l0_0 AA).f1.f4)] 44 (0, 0))) := ⟨by rw [hW_]; exact zput (zput (zput (zput (zput (zput (zb AF) 0) 1) 2) 3) 4) 5⟩; have n2_ : Aside0 (Below w.heap.size w At) := ⟨by rw [hW_]; exact zB⟩
             rw [← hW_]
             clear hW_; (try clear AB); (try clear AF); (try clear HB); have AB := n0_; have AF := n1_; have HB := n2_; clear n0_ n1_ n2_; replace AB := zq AB; replace AF := zq AF; replace HB := zm (below_drew1 HB.out)
             refine start_ (n := 36) (S := fun w' => w'.cell? ⟨AE, 0, none⟩ = some (.int .i64 ((rd_T44 l0_0 AA).f0)) ∧ w'.cell? ⟨AE, 1, none⟩ = some (.int .i64 ((rd_T44 l0_0 AA).f1.f0)) ∧ w'.cell? ⟨AE, 2, none⟩ = some (.int .i64 ((rd_T44 l0_0 AA).f1.f1)) ∧ w'.cell? ⟨AE, 3, none⟩ = some (.int .i64 ((rd_T44 l0_0 AA).f1.f2)) ∧ w'.cell? ⟨AE, 4, none⟩ = some (.int .i64 ((rd_T44 l0_0 AA).f1.f3)) ∧ w'.cell? ⟨AE, 5, none⟩ = some (.string ((rd_T44 l0_0 AA).f1.f4)) ∧ w'.cell? ⟨AJ, 0, none⟩ = some (.slice (some ad449) l0_0.length c0_0) ∧ w'.cell? ⟨AJ, 1, none⟩ = some (.slice A0_1 l0_1.length c0_1)) (ds := []) (zl 36 0) (by kernel_rfl) rfl rfl zS (fun hHeld => ?_); refine with_tabW impl_StateOk.tab10 impl_StateOk.bits10 (fun HT_ HW_ => ?_)
             generalize At.drew = Dq at AB AF HB hHeld ⊢
             refine zu 0 50 36 1 ?_
             refine zv 1 51 36 3 ?_
             refine zo 2 (some 52) (zl 36 7) (fun K hK => ?_); refine zgo #[.int .i64 ((rd_T44 l0_0 AA).f0)] Try.func74 ?_; (with_reducible refine (impl_isNode.calls ((rd_T44 l0_0 AA).f0) true _ AS.out).mono ?_); rintro e w' ⟨rfl, ⟨nd, rfl⟩⟩; refine ⟨_, rfl, ?_⟩; refine hK.out _ _ zS (fun hHeld => ?_); clear hK K; refine zn ?_
             refine zu 3 53 36 15 ?_
             refine zu 4 54 36 31 ?_
             refine zu 5 55 36 63 ?_
             refine zv 6 56 36 127 ?_
             refine zo 7 (some 57) (zl 36 255) (fun K hK => ?_); refine zgo #[.agg #[.int .i64 ((rd_T44 l0_0 AA).f1.f0), .int .i64 ((rd_T44 l0_0 AA).f1.f1), .int .i64 ((rd_T44 l0_0 AA).f1.f2), .int .i64 ((rd_T44 l0_0 AA).f1.f3), .string ((rd_T44 l0_0 AA).f1.f4)]] Try.func76 ?_; (with_reducible refine (impl_EntryOk.calls ((rd_T44 l0_0 AA).f1.f0) ((rd_T44 l0_0 AA).f1.f1) ((rd_T44 l0_0 AA).f1.f2) ((rd_T44 l0_0 AA).f1.f3) ((rd_T44 l0_0 AA).f1.f4) true _ AT.out).mono ?_); rintro e Dr ⟨rfl, hb⟩; refine ⟨_, rfl, ?_⟩; replace AB := zy AB hb; replace AF := zy AF hb; replace HB := zm (below_step zB hb); (try clear hb); refine hK.out _ _ zS (fun hHeld => ?_); clear hK K; refine zn ?_
             refine zu 8 58 36 511 ?_
             refine zu 9 59 36 1023 ?_
             refine zu 10 60 36 2047 ?_
             refine zu 11 61 36 4095 ?_
             refine zu 12 62 36 8191 ?_
             refine zu 15 65 36 40959 ?_
             refine zv 13 63 36 49151 ?_
             refine zv 14 64 36 65535 ?_
             refine zv 16 66 36 131071 ?_
             refine zo 17 (some 67) (zl 36 262143) (fun K hK => ?_); refine zgo #[.agg #[.slice (some ad449) l0_0.length c0_0, .slice A0_1 l0_1.length c0_1], .int .i64 ((rd_T44 l0_0 AA).f0)] Try.func24 ?_; (with_reducible refine (impl_FloorOf.calls k2 _ _ l0_0 _ _ l0_1 ((rd_T44 l0_0 AA).f0) AM _ (zk (Kd.C_below HR0_0.out HB.out)) HC0_0.out (zk (Kd.C_below HR0_1.out HB.out)) HC0_1.out Aa.out).mono ?_); rintro e Ds ⟨rfl, hb⟩; refine ⟨_, rfl, ?_⟩; replace AB := zy AB hb; replace AF := zy AF hb; replace HB := zm (below_step zB hb); (try clear hb); refine hK.out _ _ zS (fun hHeld => ?_); clear hK K; refine zn ?_
             refine zu 18 68 36 524287 ?_
             refine zu 19 69 36 1048575 ?_
             refine zu 20 70 36 2097151 ?_
             refine zu 21 71 36 4194303 ?_
             refine zu 22 72 36 8388607 ?_
             refine zu 23 73 36 16777215 ?_
             refine zu 24 74 36 33554431 ?_
             refine zu 25 75 36 67108863 ?_
             refine zu 26 76 36 134217727 ?_
             refine zu 27 77 36 268435455 ?_
             refine zu 28 78 36 536870911 ?_
             refine zu 29 79 36 1073741823 ?_
             refine zu 30 80 36 2147483647 ?_
             refine zu 31 81 36 4294967295 ?_
             refine zu 32 82 36 8589934591 ?_
             refine zu 33 83 36 17179869183 ?_
             refine zu 34 84 36 34359738367 ?_
             refine zu 35 85 36 68719476735 ?_
             refine done_ (done_of HT_.out (by kernel_rfl)) ?_
             try go_wp2
             go_roundg k2
             case measure => have := AP.out; have := Ab.out; omega
             case rel => exact ⟨(wrap64 (AA + 1)), zF, H', ⟨by have := AP.out; have := Ab.out; omega⟩, ⟨zb AB⟩, ⟨zB⟩⟩
          ·replace Ai := Bool.eq_false_iff.mpr Ai; subst Ai; rw [zff] at H; obtain rfl := Option.some.inj H; have p449 : 0 ≤ (AA : Int) := zd; have q449 : AA < (l0_0.length : Int) := zd; obtain ⟨ad449, e449, hx449_0, hx449_1, hx449_2, hx449_3, hx449_4, hx449_5⟩ := at_T44 (Kd.C_below HR0_0.out HB.out) AA p449 q449; cases e449; replace p449 := eq_true p449; replace q449 := eq_true q449
           try go_wp2_with (first | ((with_reducible refine gate_dst (N := 6) rfl ?_); refine zbox 6 #[.int .i64 0, .int .i64 0, .int .i64 0, .int .i64 0, .int .i64 0, .string (⟨#[]⟩ : ByteArray)] 44 ?_; intro AE hg D4 hbox hb; have AF := zm (hbox); have AO := zge w hg zB; have AN := zge w hg zB; replace HB := zm (below_step zB hb); have AC := zlt hg (zb AB); have AK := zgt hg (zb AB); replace AB := zy AB hb; clear hb hbox hg; have DN := AK.out; have DY := AC.out; obtain ⟨Bz, C0, C1, C2, C3, C4, Cj, Ck, Cl, Cm, Cn, Co⟩ := zc6 AF))
           obtain ⟨Au, hW_⟩ : ∃ q, q = ((((((D4.setCell ⟨AE, 0, none⟩ (.int .i64 ((rd_T44 l0_0 AA).f0))).setCell ⟨AE, 1, none⟩ (.int .i64 ((rd_T44 l0_0 AA).f1.f0))).setCell ⟨AE, 2, none⟩ (.int .i64 ((rd_T44 l0_0 AA).f1.f1))).setCell ⟨AE, 3, none⟩ (.int .i64 ((rd_T44 l0_0 AA).f1.f2))).setCell ⟨AE, 4, none⟩ (.int .i64 ((rd_T44 l0_0 AA).f1.f3))).setCell ⟨AE, 5, none⟩ (.string ((rd_T44 l0_0 AA).f1.f4))) := ⟨_, rfl⟩
           have n0_ : Aside0 (Au.heap[AJ]? = some (.cells #[.slice (some ad449) l0_0.length c0_0, .slice A0_1 l0_1.length c0_1] 27 (0, 0))) := ⟨by rw [hW_]; exact zfar (zfar (zfar (zfar (zfar (zfar (zb AB) AC) AC) AC) AC) AC) AC⟩; have n1_ : Aside0 (Au.heap[AE]? = some (.cells #[.int .i64 ((rd_T44 l0_0 AA).f0), .int .i64 ((rd_T44 l0_0 AA).f1.f0), .int .i64 ((rd_T44 l0_0 AA).f1.f1), .int .i64 ((rd_T44 l0_0 AA).f1.f2), .int .i64 ((rd_T44 l0_0 AA).f1.f3), .string ((rd_T44 l0_0 AA).f1.f4)] 44 (0, 0))) := ⟨by rw [hW_]; exact zput (zput (zput (zput (zput (zput (zb AF) 0) 1) 2) 3) 4) 5⟩; have n2_ : Aside0 (Below w.heap.size w Au) := ⟨by rw [hW_]; exact zB⟩
           rw [← hW_]
           clear hW_; (try clear AB); (try clear AF); (try clear HB); have AB := n0_; have AF := n1_; have HB := n2_; clear n0_ n1_ n2_; replace AB := zq AB; replace AF := zq AF; replace HB := zm (below_drew1 HB.out)
           refine start_ (n := 36) (S := fun w' => w'.cell? ⟨AE, 0, none⟩ = some (.int .i64 ((rd_T44 l0_0 AA).f0)) ∧ w'.cell? ⟨AE, 1, none⟩ = some (.int .i64 ((rd_T44 l0_0 AA).f1.f0)) ∧ w'.cell? ⟨AE, 2, none⟩ = some (.int .i64 ((rd_T44 l0_0 AA).f1.f1)) ∧ w'.cell? ⟨AE, 3, none⟩ = some (.int .i64 ((rd_T44 l0_0 AA).f1.f2)) ∧ w'.cell? ⟨AE, 4, none⟩ = some (.int .i64 ((rd_T44 l0_0 AA).f1.f3)) ∧ w'.cell? ⟨AE, 5, none⟩ = some (.string ((rd_T44 l0_0 AA).f1.f4))) (ds := []) (zl 36 0) (by kernel_rfl) rfl rfl zS (fun hHeld => ?_); refine with_tabW impl_StateOk.tab10 impl_StateOk.bits10 (fun HT_ HW_ => ?_)
           generalize Au.drew = Dt at AB AF HB hHeld ⊢
           refine zu 0 50 36 1 ?_
           refine zv 1 51 36 3 ?_
           refine zo 2 (some 52) (zl 36 7) (fun K hK => ?_); refine zgo #[.int .i64 ((rd_T44 l0_0 AA).f0)] Try.func74 ?_; (with_reducible refine (impl_isNode.calls ((rd_T44 l0_0 AA).f0) true _ AS.out).mono ?_); rintro e w' ⟨rfl, ⟨nd, rfl⟩⟩; refine ⟨_, rfl, ?_⟩; refine hK.out _ _ zS (fun hHeld => ?_); clear hK K; refine zn ?_
           refine zu 3 53 36 15 ?_
           refine zu 4 54 36 31 ?_
           refine zu 5 55 36 63 ?_
           refine zv 6 56 36 127 ?_
           refine zo 7 (some 57) (zl 36 255) (fun K hK => ?_); refine zgo #[.agg #[.int .i64 ((rd_T44 l0_0 AA).f1.f0), .int .i64 ((rd_T44 l0_0 AA).f1.f1), .int .i64 ((rd_T44 l0_0 AA).f1.f2), .int .i64 ((rd_T44 l0_0 AA).f1.f3), .string ((rd_T44 l0_0 AA).f1.f4)]] Try.func76 ?_; (with_reducible refine (impl_EntryOk.calls ((rd_T44 l0_0 AA).f1.f0) ((rd_T44 l0_0 AA).f1.f1) ((rd_T44 l0_0 AA).f1.f2) ((rd_T44 l0_0 AA).f1.f3) ((rd_T44 l0_0 AA).f1.f4) false _ AT.out).mono ?_); rintro e Du ⟨rfl, hb⟩; refine ⟨_, rfl, ?_⟩; replace AB := zy AB hb; replace AF := zy AF hb; replace HB := zm (below_step zB hb); (try clear hb); refine hK.out _ _ zS (fun hHeld => ?_); clear hK K; refine zn ?_
           refine zu 8 58 36 511 ?_
           refine zu 9 59 36 1023 ?_
           refine zu 10 60 36 2047 ?_
           refine zu 11 61 36 4095 ?_
           refine zu 12 62 36 8191 ?_
           refine zu 13 63 36 16383 ?_
           refine zu 14 64 36 32767 ?_
           refine zu 15 65 36 65535 ?_
           refine zu 16 66 36 131071 ?_
           refine zu 17 67 36 262143 ?_
           refine zu 18 68 36 524287 ?_
           refine zu 19 69 36 1048575 ?_
           refine zu 20 70 36 2097151 ?_
           refine zu 21 71 36 4194303 ?_
           refine zu 22 72 36 8388607 ?_
           refine zu 23 73 36 16777215 ?_
           refine zu 24 74 36 33554431 ?_
           refine zu 25 75 36 67108863 ?_
           refine zu 26 76 36 134217727 ?_
           refine zu 27 77 36 268435455 ?_
           refine zu 28 78 36 536870911 ?_
           refine zu 29 79 36 1073741823 ?_
           refine zu 30 80 36 2147483647 ?_
           refine zu 31 81 36 4294967295 ?_
           refine zu 32 82 36 8589934591 ?_
           refine zu 33 83 36 17179869183 ?_
           refine zu 34 84 36 34359738367 ?_
           refine zu 35 85 36 68719476735 ?_
           refine done_ (done_of HT_.out (by kernel_rfl)) ?_
           try go_wp2
           go_ret
           exact ⟨zE, zB⟩
         ·replace Ah := Bool.eq_false_iff.mpr Ah; subst Ah; rw [zff] at H; obtain rfl := Option.some.inj H; have p449 : 0 ≤ (AA : Int) := zd; have q449 : AA < (l0_0.length : Int) := zd; obtain ⟨ad449, e449, hx449_0, hx449_1, hx449_2, hx449_3, hx449_4, hx449_5⟩ := at_T44 (Kd.C_below HR0_0.out HB.out) AA p449 q449; cases e449; replace p449 := eq_true p449; replace q449 := eq_true q449
          try go_wp2_with (first | ((with_reducible refine gate_dst (N := 6) rfl ?_); refine zbox 6 #[.int .i64 0, .int .i64 0, .int .i64 0, .int .i64 0, .int .i64 0, .string (⟨#[]⟩ : ByteArray)] 44 ?_; intro AE hg D5 hbox hb; have AF := zm (hbox); have AO := zge w hg zB; have AN := zge w hg zB; replace HB := zm (below_step zB hb); have AC := zlt hg (zb AB); have AK := zgt hg (zb AB); replace AB := zy AB hb; clear hb hbox hg; have DO := AK.out; have DZ := AC.out; obtain ⟨C5, C6, C7, C8, C9, CA, Cp, Cq, Cr, Cs, Ct, Cu⟩ := zc6 AF))
          obtain ⟨Av, hW_⟩ : ∃ q, q = ((((((D5.setCell ⟨AE, 0, none⟩ (.int .i64 ((rd_T44 l0_0 AA).f0))).setCell ⟨AE, 1, none⟩ (.int .i64 ((rd_T44 l0_0 AA).f1.f0))).setCell ⟨AE, 2, none⟩ (.int .i64 ((rd_T44 l0_0 AA).f1.f1))).setCell ⟨AE, 3, none⟩ (.int .i64 ((rd_T44 l0_0 AA).f1.f2))).setCell ⟨AE, 4, none⟩ (.int .i64 ((rd_T44 l0_0 AA).f1.f3))).setCell ⟨AE, 5, none⟩ (.string ((rd_T44 l0_0 AA).f1.f4))) := ⟨_, rfl⟩
          have n0_ : Aside0 (Av.heap[AJ]? = some (.cells #[.slice (some ad449) l0_0.length c0_0, .slice A0_1 l0_1.length c0_1] 27 (0, 0))) := ⟨by rw [hW_]; exact zfar (zfar (zfar (zfar (zfar (zfar (zb AB) AC) AC) AC) AC) AC) AC⟩; have n1_ : Aside0 (Av.heap[AE]? = some (.cells #[.int .i64 ((rd_T44 l0_0 AA).f0), .int .i64 ((rd_T44 l0_0 AA).f1.f0), .int .i64 ((rd_T44 l0_0 AA).f1.f1), .int .i64 ((rd_T44 l0_0 AA).f1.f2), .int .i64 ((rd_T44 l0_0 AA).f1.f3), .string ((rd_T44 l0_0 AA).f1.f4)] 44 (0, 0))) := ⟨by rw [hW_]; exact zput (zput (zput (zput (zput (zput (zb AF) 0) 1) 2) 3) 4) 5⟩; have n2_ : Aside0 (Below w.heap.size w Av) := ⟨by rw [hW_]; exact zB⟩
          rw [← hW_]
          clear hW_; (try clear AB); (try clear AF); (try clear HB); have AB := n0_; have AF := n1_; have HB := n2_; clear n0_ n1_ n2_; replace AB := zq AB; replace AF := zq AF; replace HB := zm (below_drew1 HB.out)
          refine start_ (n := 36) (S := fun w' => w'.cell? ⟨AE, 0, none⟩ = some (.int .i64 ((rd_T44 l0_0 AA).f0)) ∧ w'.cell? ⟨AE, 1, none⟩ = some (.int .i64 ((rd_T44 l0_0 AA).f1.f0)) ∧ w'.cell? ⟨AE, 2, none⟩ = some (.int .i64 ((rd_T44 l0_0 AA).f1.f1)) ∧ w'.cell? ⟨AE, 3, none⟩ = some (.int .i64 ((rd_T44 l0_0 AA).f1.f2)) ∧ w'.cell? ⟨AE, 4, none⟩ = some (.int .i64 ((rd_T44 l0_0 AA).f1.f3)) ∧ w'.cell? ⟨AE, 5, none⟩ = some (.string ((rd_T44 l0_0 AA).f1.f4))) (ds := []) (zl 36 0) (by kernel_rfl) rfl rfl zS (fun hHeld => ?_); refine with_tabW impl_StateOk.tab10 impl_StateOk.bits10 (fun HT_ HW_ => ?_)
          generalize Av.drew = Dv at AB AF HB hHeld ⊢
          refine zu 0 50 36 1 ?_
          refine zv 1 51 36 3 ?_
          refine zo 2 (some 52) (zl 36 7) (fun K hK => ?_); refine zgo #[.int .i64 ((rd_T44 l0_0 AA).f0)] Try.func74 ?_; (with_reducible refine (impl_isNode.calls ((rd_T44 l0_0 AA).f0) false _ AS.out).mono ?_); rintro e w' ⟨rfl, ⟨nd, rfl⟩⟩; refine ⟨_, rfl, ?_⟩; refine hK.out _ _ zS (fun hHeld => ?_); clear hK K; refine zn ?_
          refine zu 3 53 36 15 ?_
          refine zu 4 54 36 31 ?_
          refine zu 5 55 36 63 ?_
          refine zu 6 56 36 127 ?_
          refine zu 7 57 36 255 ?_
          refine zu 8 58 36 511 ?_
          refine zu 9 59 36 1023 ?_
          refine zu 10 60 36 2047 ?_
          refine zu 11 61 36 4095 ?_
          refine zu 12 62 36 8191 ?_
          refine zu 13 63 36 16383 ?_
          refine zu 14 64 36 32767 ?_
          refine zu 15 65 36 65535 ?_
          refine zu 16 66 36 131071 ?_
          refine zu 17 67 36 262143 ?_
          refine zu 18 68 36 524287 ?_
          refine zu 19 69 36 1048575 ?_
          refine zu 20 70 36 2097151 ?_
          refine zu 21 71 36 4194303 ?_
          refine zu 22 72 36 8388607 ?_
          refine zu 23 73 36 16777215 ?_
          refine zu 24 74 36 33554431 ?_
          refine zu 25 75 36 67108863 ?_
          refine zu 26 76 36 134217727 ?_
          refine zu 27 77 36 268435455 ?_
          refine zu 28 78 36 536870911 ?_
          refine zu 29 79 36 1073741823 ?_
          refine zu 30 80 36 2147483647 ?_
          refine zu 31 81 36 4294967295 ?_
          refine zu 32 82 36 8589934591 ?_
          refine zu 33 83 36 17179869183 ?_
          refine zu 34 84 36 34359738367 ?_
          refine zu 35 85 36 68719476735 ?_
          refine done_ (done_of HT_.out (by kernel_rfl)) ?_
          try go_wp2
          go_ret
          exact ⟨zE, zB⟩
        ·rw [if_neg Ag] at H
         exact absurd H (by simp)
       ·rw [if_neg Af] at H
        exact absurd H (by simp)
      ·rw [if_neg AW] at H; have BH : decide (AA < (l0_0.length : Int)) = false := decide_eq_false AW; clear AW; obtain rfl := Option.some.inj H
       go_wp2
       go_ret
       exact ⟨zE, zB⟩

end Go.Proofs.Ytnmofppbijmhoaa.P
