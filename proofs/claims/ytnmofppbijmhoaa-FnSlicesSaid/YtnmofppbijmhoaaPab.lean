-- by a program of this session, for this seat
import Derived.Test.YtnmofppbijmhoaaZ
import Derived.Test.YtnmofppbijmhoaaP0
import Derived.Test.YtnmofppbijmhoaaPaa
namespace Go.Proofs.Ytnmofppbijmhoaa.P
open Go.RowKit Go.Proofs.YtnmofppbijmhoaaW.PrintWords Go.Proofs.YtnmofppbijmhoaaW.PrintLast Go.Proofs.YtnmofppbijmhoaaW.PrintMore Go.Proofs.Ytnmofppbijmhoaa.Z
attribute [local go_sem] max2_int min2_int max_two min_two max_three min_three max_four min_four   -- for this text's walks alone
set_option linter.unusedVariables false
set_option linter.unusedSimpArgs false

/-! ### spec_StateOk: function 17 -/
mutual
def spec_StateOk.l0 : Nat → Int → List (S44) → List (S58) → Option (Bool)
 | 0, _, _, _ => none
 | k + 1, x3, x111000, x111001 => if x3 < (x111000.length : Int) then (if 0 ≤ x3 then ((spec_l3Node.f ((rd_T44 x111000 x3).f0)).bind fun t113 => (if t113 = true then (if x3 > 0 then (if 0 ≤ (wrap64 (x3 - 1)) then (if (wrap64 (x3 - 1)) < (x111000.length : Int) then (if ((rd_T44 x111000 x3).f0) ≤ ((rd_T44 x111000 (wrap64 (x3 - 1))).f0) then (some false) else ((spec_EntryOk.f ((rd_T44 x111000 x3).f1.f0) ((rd_T44 x111000 x3).f1.f1) ((rd_T44 x111000 x3).f1.f2) ((rd_T44 x111000 x3).f1.f3) ((rd_T44 x111000 x3).f1.f4)).bind fun t115 => (if t115 = true then ((spec_FloorOf.f k x111000 x111001 ((rd_T44 x111000 x3).f0)).bind fun t116 => (if ((rd_T44 x111000 x3).f1.f0) ≤ t116 then (some false) else (spec_StateOk.l0 k (wrap64 (x3 + 1)) x111000 x111001))) else (some false)))) else (none)) else (none)) else ((spec_EntryOk.f ((rd_T44 x111000 x3).f1.f0) ((rd_T44 x111000 x3).f1.f1) ((rd_T44 x111000 x3).f1.f2) ((rd_T44 x111000 x3).f1.f3) ((rd_T44 x111000 x3).f1.f4)).bind fun t117 => (if t117 = true then ((spec_FloorOf.f k x111000 x111001 ((rd_T44 x111000 x3).f0)).bind fun t118 => (if ((rd_T44 x111000 x3).f1.f0) ≤ t118 then (some false) else (spec_StateOk.l0 k (wrap64 (x3 + 1)) x111000 x111001))) else (some false)))) else (some false))) else (none)) else (spec_StateOk.l1 k 0 x111000 x111001)
def spec_StateOk.l1 : Nat → Int → List (S44) → List (S58) → Option (Bool)
 | 0, _, _, _ => none
 | k + 1, x5, x111000, x111001 => if x5 < (x111001.length : Int) then (if 0 ≤ x5 then ((spec_l3Node.f ((rd_T58 x111001 x5).f0)).bind fun t121 => (if t121 = true then (if x5 > 0 then (if 0 ≤ (wrap64 (x5 - 1)) then (if (wrap64 (x5 - 1)) < (x111001.length : Int) then (if ((rd_T58 x111001 x5).f0) ≤ ((rd_T58 x111001 (wrap64 (x5 - 1))).f0) then (some false) else ((spec_l1In.f ((rd_T58 x111001 x5).f1) 1 1000).bind fun t123 => (if t123 = true then (spec_StateOk.l1 k (wrap64 (x5 + 1)) x111000 x111001) else (some false)))) else (none)) else (none)) else ((spec_l1In.f ((rd_T58 x111001 x5).f1) 1 1000).bind fun t124 => (if t124 = true then (spec_StateOk.l1 k (wrap64 (x5 + 1)) x111000 x111001) else (some false)))) else (some false))) else (none)) else (some true)
end
def spec_StateOk.f (k : Nat) (l0_0 : List (S44)) (l0_1 : List (S58)) : Option (Bool) := spec_StateOk.l0 k 0 l0_0 l0_1
theorem spec_StateOk.mono_l : ∀ k, (∀ y0 y1 y2, LeO (spec_StateOk.l0 k y0 y1 y2) (spec_StateOk.l0 (k + 1) y0 y1 y2)) ∧ (∀ y0 y1 y2, LeO (spec_StateOk.l1 k y0 y1 y2) (spec_StateOk.l1 (k + 1) y0 y1 y2))
 | 0 => ⟨fun _ _ _ r h => by simp [spec_StateOk.l0] at h, fun _ _ _ r h => by simp [spec_StateOk.l1] at h⟩
 | k + 1 => by
  obtain ⟨ih0, ih1⟩ := spec_StateOk.mono_l k
  refine ⟨?_, ?_⟩
  ·intro y0 y1 y2
   unfold spec_StateOk.l0
   repeat' first | (with_reducible first | exact LeO.refl _ | exact LeO.none _ | refine LeO.ite ?_ ?_ | refine LeO.bind ?_ (fun _ => ?_) | apply ih0 | apply ih1 | apply spec_FloorOf.mono) | apply ih0 | apply ih1 | apply spec_FloorOf.mono | exact LeO.none _ | refine LeO.ite ?_ ?_ | refine LeO.bind ?_ (fun _ => ?_)
  ·intro y0 y1 y2
   unfold spec_StateOk.l1
   repeat' first | (with_reducible first | exact LeO.refl _ | exact LeO.none _ | refine LeO.ite ?_ ?_ | refine LeO.bind ?_ (fun _ => ?_) | apply ih0 | apply ih1 | apply spec_FloorOf.mono) | apply ih0 | apply ih1 | apply spec_FloorOf.mono | exact LeO.none _ | refine LeO.ite ?_ ?_ | refine LeO.bind ?_ (fun _ => ?_)
theorem spec_StateOk.mono : ∀ a0 a1 k, LeO (spec_StateOk.f k a0 a1) (spec_StateOk.f (k + 1) a0 a1) := by
 intro a0 a1 k; obtain ⟨ih0, ih1⟩ := spec_StateOk.mono_l k
 unfold spec_StateOk.f
 repeat' first | (with_reducible first | exact LeO.refl _ | exact LeO.none _ | refine LeO.ite ?_ ?_ | refine LeO.bind ?_ (fun _ => ?_) | apply ih0 | apply ih1 | apply spec_FloorOf.mono) | apply ih0 | apply ih1 | apply spec_FloorOf.mono | exact LeO.none _ | refine LeO.ite ?_ ?_ | refine LeO.bind ?_ (fun _ => ?_)
def spec_StateOk.T5 : Bool × List (List Nat × List Nat) := (true, [([], []), ([0], [0]), ([1], [1]), ([2], [2]), ([3, 2], [3]), ([4], [4]), ([5, 4], [4, 5]), ([6, 4, 4], [4, 6]), ([7], [7]), ([8, 7], [7, 8]), ([7], [7]), ([10, 7], [7, 10]), ([7], [7]), ([12, 7], [7, 12]), ([11, 13, 7], [7, 11, 13]), ([14, 7], [7, 14]), ([15, 7], [7, 15]), ([9, 16, 7], [7, 9, 16]), ([7, 17, 4], [4, 7, 17]), ([4, 18], [4, 18]), ([19, 7], [19]), ([20], [20]), ([21, 20], [20, 21]), ([22, 20, 20], [20, 22]), ([23, 20], [20, 23]), ([20, 24], [20, 24]), ([25, 23], [25]), ([26], [26]), ([27, 26], [26, 27]), ([28, 26], [26, 28]), ([26], [26]), ([26], [26]), ([31, 26], [26, 31]), ([30, 32, 26, 26], [26, 30, 32]), ([29, 33, 26], [26, 29, 33]), ([26, 34], [26, 34])])
def spec_StateOk.B5 : List Nat := [0, 1, 3, 7, 15, 31, 63, 127, 255, 511, 255, 1279, 255, 4351, 15615, 31999, 64767, 131071, 262143, 524287, 1048575, 2097151, 4194303, 8388607, 16777215, 33554431, 67108863, 134217727, 268435455, 536870911, 134217727, 134217727, 2281701375, 7650410495, 17179869183, 34359738367]
theorem spec_StateOk.tab5 : rtab .any (opsOf Try.f17 5) = spec_StateOk.T5 := by kernel_rfl
theorem spec_StateOk.bits5 : waitsOk spec_StateOk.T5.2 spec_StateOk.B5 = true := by kernel_rfl
def spec_StateOk.T11 : Bool × List (List Nat × List Nat) := (true, [([], []), ([0], [0]), ([1], [1]), ([2], [2]), ([3, 2], [3]), ([4], [4]), ([5, 4], [4, 5]), ([6, 4, 4], [4, 6]), ([7], [7]), ([8, 7], [7, 8]), ([7], [7]), ([10, 7], [7, 10]), ([7], [7]), ([12, 7], [7, 12]), ([11, 13, 7], [7, 11, 13]), ([14, 7], [7, 14]), ([15, 7], [7, 15]), ([9, 16, 7], [7, 9, 16]), ([7, 17, 4], [4, 7, 17]), ([4, 18], [4, 18]), ([19, 7], [19]), ([20], [20]), ([21, 20], [20, 21]), ([22, 20, 20], [20, 22]), ([23, 20], [20, 23]), ([20, 24], [20, 24])])
def spec_StateOk.B11 : List Nat := [0, 1, 3, 7, 15, 31, 63, 127, 255, 511, 255, 1279, 255, 4351, 15615, 31999, 64767, 131071, 262143, 524287, 1048575, 2097151, 4194303, 8388607, 16777215, 33554431]
theorem spec_StateOk.tab11 : rtab .any (opsOf Try.f17 11) = spec_StateOk.T11 := by kernel_rfl
theorem spec_StateOk.bits11 : waitsOk spec_StateOk.T11.2 spec_StateOk.B11 = true := by kernel_rfl
set_option maxHeartbeats 8000000 in
set_option maxRecDepth 100000 in
theorem spec_StateOk.calls (k : Nat) (A0_0 : Option Addr) (c0_0 : Nat) (l0_0 : List (S44)) (A0_1 : Option Addr) (c0_1 : Nat) (l0_1 : List (S58)) (r : Bool) (w : World) (hr0_0 : Kd.C k44 w A0_0 l0_0.length l0_0) (hc0_0 : l0_0.length ≤ c0_0) (hr0_1 : Kd.C k58 w A0_1 l0_1.length l0_1) (hc0_1 : l0_1.length ≤ c0_1) (h : spec_StateOk.f k l0_0 l0_1 = some r) :
  Calls Try.prog 17 #[.agg #[.slice A0_0 l0_0.length c0_0, .slice A0_1 l0_1.length c0_1]] w fun e w' => e = .returned (.bool r) ∧ Below w.heap.size w w' := by
 have hu27 := Try.underlying27; have hu44 := Try.underlying44; have hu36 := Try.underlying36; have hu58 := Try.underlying58; have HR0_0 := zm hr0_0; have HC0_0 := zm hc0_0; clear hr0_0 hc0_0; have HR0_1 := zm hr0_1; have HC0_1 := zm hc0_1; clear hr0_1 hc0_1; have HB := zm (Below.refl w.heap.size w); have H : (spec_StateOk.l0 k 0 l0_0 l0_1) = some r := h; clear h
 have H' := zm H
 clear H; go_enter Try.func17, Try.ntmps17
 go_wp2_with (first | ((with_reducible refine gate_dst (N := 1) rfl ?_); refine zbox 1 #[.slice A0_0 l0_0.length c0_0, .slice A0_1 l0_1.length c0_1] 27 ?_; intro AJ hg w2 hbox hb; have AB := zm (hbox); have Es := zge w hg zB; have Er := zge w hg zB; replace HB := zm (below_step zB hb); clear hb hbox hg))
 go_loopg [3] k (fun kq v3 w' => ∃ (AA : Int), v3 = .int .i64 AA ∧ Aside0 (spec_StateOk.l0 kq AA l0_0 l0_1 = some r) ∧ Aside0 (kq ≤ k) ∧ Aside0 (w'.heap[AJ]? = some (.cells #[(.slice A0_0 l0_0.length c0_0), (.slice A0_1 l0_1.length c0_1)] 27 (0, 0))) ∧ Aside0 (Below w.heap.size w w'))
 case atStart => exact ⟨(0), zF, H', ⟨Nat.le_refl _⟩, ⟨zb AB⟩, ⟨zB⟩⟩
 case round =>
  clear H'; obtain ⟨AA, rfl, HA, AR, AB, HB⟩ := hrel
  cases gk with
  | zero => exact absurd HA.out (by simp [spec_StateOk.l0])
  | succ k1 =>
   have H := HA.out; clear HA; simp only [spec_StateOk.l0] at H
   by_cases c3 : AA < (l0_0.length : Int)
   ·rw [if_pos c3] at H; have BL : decide (AA < (l0_0.length : Int)) = true := decide_eq_true c3; clear c3
    by_cases c4 : 0 ≤ AA
    ·rw [if_pos c4] at H; have FH : decide (0 ≤ AA) = true := decide_eq_true c4; clear c4; replace H := Option.bind_eq_some_iff.mp H; obtain ⟨C7, BU, H⟩ := H; (try dsimp only at H); have A5 := zm BU; clear BU
     by_cases c6 : C7 = true
     ·subst c6; rw [if_pos rfl] at H
      by_cases c7 : AA > 0
      ·rw [if_pos c7] at H; have BW : decide (0 < AA) = true := decide_eq_true c7; clear c7
       obtain ⟨ji8, hji8⟩ : ∃ j_ : Int, (wrap64 (AA - 1)) = j_ := ⟨_, rfl⟩
       replace H : (if 0 ≤ (ji8) then (if (ji8) < (l0_0.length : Int) then (if ((rd_T44 l0_0 AA).f0) ≤ ((rd_T44 l0_0 (ji8)).f0) then (some false) else ((spec_EntryOk.f ((rd_T44 l0_0 AA).f1.f0) ((rd_T44 l0_0 AA).f1.f1) ((rd_T44 l0_0 AA).f1.f2) ((rd_T44 l0_0 AA).f1.f3) ((rd_T44 l0_0 AA).f1.f4)).bind fun Ag => (if Ag = true then ((spec_FloorOf.f k1 l0_0 l0_1 ((rd_T44 l0_0 AA).f0)).bind fun AO => (if ((rd_T44 l0_0 AA).f1.f0) ≤ AO then (some false) else (spec_StateOk.l0 k1 (wrap64 (AA + 1)) l0_0 l0_1))) else (some false)))) else (none)) else (none)) = some r := by first | (rw [hji8] at H; exact H) | (simp only [hji8] at H ⊢; exact H)
       (try rw [hji8] at A5)
       have hji8w : (IntKind.i64.wrap (AA - 1)) = ji8 := (i64_w _).trans hji8
       by_cases c9 : 0 ≤ (ji8)
       ·rw [if_pos c9] at H; have FI : decide (0 ≤ (ji8)) = true := decide_eq_true c9; clear c9
        by_cases Ak : (ji8) < (l0_0.length : Int)
        ·rw [if_pos Ak] at H; have Et : decide ((ji8) < (l0_0.length : Int)) = true := decide_eq_true Ak; clear Ak
         by_cases AU : ((rd_T44 l0_0 AA).f0) ≤ ((rd_T44 l0_0 (ji8)).f0)
         ·rw [if_pos AU] at H; have BM : decide (((rd_T44 l0_0 AA).f0) ≤ ((rd_T44 l0_0 (ji8)).f0)) = true := decide_eq_true AU; clear AU; obtain rfl := Option.some.inj H; obtain ⟨CF, CG, DP, DQ⟩ := zc2 AB; have p111 : 0 ≤ (AA : Int) := zd; have q111 : AA < (l0_0.length : Int) := zd; obtain ⟨ad111, e111, hx111_0, hx111_1, hx111_2, hx111_3, hx111_4, hx111_5⟩ := at_T44 (Kd.C_below HR0_0.out HB.out) AA p111 q111; cases e111; replace p111 := eq_true p111; replace q111 := eq_true q111
          try go_wp2_with (first | ((with_reducible refine gate_dst (N := 4) rfl ?_); refine zbox 4 #[.int .i64 0, .int .i64 0, .int .i64 0, .int .i64 0, .int .i64 0, .string (⟨#[]⟩ : ByteArray)] 44 ?_; intro AD hg Eh hbox hb; have AE := zm (hbox); have AN := zge w hg zB; have AM := zge w hg zB; replace HB := zm (below_step zB hb); have AC := zlt hg (zb AB); have AK := zgt hg (zb AB); replace AB := zy AB hb; clear hb hbox hg; have Ex := AK.out; have F7 := AC.out; obtain ⟨CH, CI, CJ, CK, CL, CM, DR, DS, DT, DU, DV, DW⟩ := zc6 AE))
          obtain ⟨As, hW_⟩ : ∃ q, q = ((((((Eh.setCell ⟨AD, 0, none⟩ (.int .i64 ((rd_T44 l0_0 AA).f0))).setCell ⟨AD, 1, none⟩ (.int .i64 ((rd_T44 l0_0 AA).f1.f0))).setCell ⟨AD, 2, none⟩ (.int .i64 ((rd_T44 l0_0 AA).f1.f1))).setCell ⟨AD, 3, none⟩ (.int .i64 ((rd_T44 l0_0 AA).f1.f2))).setCell ⟨AD, 4, none⟩ (.int .i64 ((rd_T44 l0_0 AA).f1.f3))).setCell ⟨AD, 5, none⟩ (.string ((rd_T44 l0_0 AA).f1.f4))) := ⟨_, rfl⟩
          have n0_ : Aside0 (As.heap[AJ]? = some (.cells #[.slice (some ad111) l0_0.length c0_0, .slice A0_1 l0_1.length c0_1] 27 (0, 0))) := ⟨by rw [hW_]; exact zfar (zfar (zfar (zfar (zfar (zfar (zb AB) AC) AC) AC) AC) AC) AC⟩; have n1_ : Aside0 (As.heap[AD]? = some (.cells #[.int .i64 ((rd_T44 l0_0 AA).f0), .int .i64 ((rd_T44 l0_0 AA).f1.f0), .int .i64 ((rd_T44 l0_0 AA).f1.f1), .int .i64 ((rd_T44 l0_0 AA).f1.f2), .int .i64 ((rd_T44 l0_0 AA).f1.f3), .string ((rd_T44 l0_0 AA).f1.f4)] 44 (0, 0))) := ⟨by rw [hW_]; exact zput (zput (zput (zput (zput (zput (zb AE) 0) 1) 2) 3) 4) 5⟩; have n2_ : Aside0 (Below w.heap.size w As) := ⟨by rw [hW_]; exact zB⟩
          rw [← hW_]
          clear hW_; (try clear AB); (try clear AE); (try clear HB); have AB := n0_; have AE := n1_; have HB := n2_; clear n0_ n1_ n2_; replace AB := zq AB; replace AE := zq AE; replace HB := zm (below_drew1 HB.out); have p114 : 0 ≤ ((ji8) : Int) := zd; have q114 : (ji8) < (l0_0.length : Int) := zd; obtain ⟨ad114, e114, hx114_0, hx114_1, hx114_2, hx114_3, hx114_4, hx114_5⟩ := at_T44 HR0_0.out (ji8) p114 q114; have hw114_5 := hx114_5; have hw114_4 := hx114_4; have hw114_3 := hx114_3; have hw114_2 := hx114_2; have hw114_1 := hx114_1; have hw114_0 := hx114_0
          obtain rfl : ad111 = ad114 := (by injection e114)
          replace hx114_0 := zx HB hx114_0; replace hx114_1 := zx HB hx114_1; replace hx114_2 := zx HB hx114_2; replace hx114_3 := zx HB hx114_3; replace hx114_4 := zx HB hx114_4; replace hx114_5 := zx HB hx114_5; replace p114 := eq_true p114; replace q114 := eq_true q114
          refine start_ (n := 36) (S := fun w' => w'.cell? ⟨AD, 0, none⟩ = some (.int .i64 ((rd_T44 l0_0 AA).f0)) ∧ w'.cell? ⟨AD, 1, none⟩ = some (.int .i64 ((rd_T44 l0_0 AA).f1.f0)) ∧ w'.cell? ⟨AD, 2, none⟩ = some (.int .i64 ((rd_T44 l0_0 AA).f1.f1)) ∧ w'.cell? ⟨AD, 3, none⟩ = some (.int .i64 ((rd_T44 l0_0 AA).f1.f2)) ∧ w'.cell? ⟨AD, 4, none⟩ = some (.int .i64 ((rd_T44 l0_0 AA).f1.f3)) ∧ w'.cell? ⟨AD, 5, none⟩ = some (.string ((rd_T44 l0_0 AA).f1.f4)) ∧ w'.cell? ⟨AJ, 0, none⟩ = some (.slice (some ad111) l0_0.length c0_0) ∧ w'.cell? ⟨AJ, 1, none⟩ = some (.slice A0_1 l0_1.length c0_1) ∧ w'.cell? (ad111.add (((ji8)).toNat * 6)) = some (.int .i64 ((rd_T44 l0_0 (ji8)).f0)) ∧ w'.cell? ⟨(ad111.add (((ji8)).toNat * 6)).block, (ad111.add (((ji8)).toNat * 6)).off + 1, none⟩ = some (.int .i64 ((rd_T44 l0_0 (ji8)).f1.f0)) ∧ w'.cell? ⟨(ad111.add (((ji8)).toNat * 6)).block, (ad111.add (((ji8)).toNat * 6)).off + 2, none⟩ = some (.int .i64 ((rd_T44 l0_0 (ji8)).f1.f1)) ∧ w'.cell? ⟨(ad111.add (((ji8)).toNat * 6)).block, (ad111.add (((ji8)).toNat * 6)).off + 3, none⟩ = some (.int .i64 ((rd_T44 l0_0 (ji8)).f1.f2)) ∧ w'.cell? ⟨(ad111.add (((ji8)).toNat * 6)).block, (ad111.add (((ji8)).toNat * 6)).off + 4, none⟩ = some (.int .i64 ((rd_T44 l0_0 (ji8)).f1.f3)) ∧ w'.cell? ⟨(ad111.add (((ji8)).toNat * 6)).block, (ad111.add (((ji8)).toNat * 6)).off + 5, none⟩ = some (.string ((rd_T44 l0_0 (ji8)).f1.f4))) (ds := []) (zl 36 0) (by kernel_rfl) rfl rfl zS (fun hHeld => ?_); refine with_tabW spec_StateOk.tab5 spec_StateOk.bits5 (fun HT_ HW_ => ?_)
          generalize As.drew = FP at AB AE HB hx114_0 hx114_1 hx114_2 hx114_3 hx114_4 hx114_5 hHeld ⊢
          refine zu 0 19 36 1 ?_
          refine zv 1 20 36 3 ?_
          refine zo 2 (some 21) (zl 36 7) (fun K hK => ?_); refine zgo #[.int .i64 ((rd_T44 l0_0 AA).f0)] Try.func64 ?_; (with_reducible refine (spec_l3Node.calls ((rd_T44 l0_0 AA).f0) true _ A5.out).mono ?_); rintro e w' ⟨rfl, ⟨nd, rfl⟩⟩; refine ⟨_, rfl, ?_⟩; refine hK.out _ _ zS (fun hHeld => ?_); clear hK K; refine zn ?_
          refine zu 3 22 36 15 ?_
          refine zu 4 23 36 31 ?_
          refine zu 5 24 36 63 ?_
          refine zu 6 25 36 127 ?_
          refine zu 7 26 36 255 ?_
          refine zu 8 27 36 511 ?_
          refine zu 10 29 36 1535 ?_
          refine zu 12 31 36 5631 ?_
          refine zu 13 32 36 13823 ?_
          refine zv 9 28 36 14335 ?_
          refine zv 11 30 36 16383 ?_
          refine zu 14 33 36 32767 ?_
          refine zu 15 34 36 65535 ?_
          refine zv 16 35 36 131071 ?_
          refine zu 17 36 36 262143 ?_
          refine zu 18 37 36 524287 ?_
          refine zu 19 38 36 1048575 ?_
          refine zu 20 39 36 2097151 ?_
          refine zu 21 40 36 4194303 ?_
          refine zu 22 41 36 8388607 ?_
          refine zu 23 42 36 16777215 ?_
          refine zu 24 43 36 33554431 ?_
          refine zu 25 44 36 67108863 ?_
          refine zu 26 45 36 134217727 ?_
          refine zu 27 46 36 268435455 ?_
          refine zu 28 47 36 536870911 ?_
          refine zu 29 48 36 1073741823 ?_
          refine zu 30 49 36 2147483647 ?_
          refine zu 31 50 36 4294967295 ?_
          refine zu 32 51 36 8589934591 ?_
          refine zu 33 52 36 17179869183 ?_
          refine zu 34 53 36 34359738367 ?_
          refine zu 35 54 36 68719476735 ?_
          refine done_ (done_of HT_.out (by kernel_rfl)) ?_
          try go_wp2
          go_ret
          exact ⟨by first | rfl | (simp [errW_none, errW_some] <;> rfl) | (simp only [← hji8]; first | rfl | (simp [errW_none, errW_some] <;> rfl)) | (simp [*, errW_none, errW_some] <;> rfl), zB⟩
         ·rw [if_neg AU] at H; have BM : decide (((rd_T44 l0_0 AA).f0) ≤ ((rd_T44 l0_0 (ji8)).f0)) = false := decide_eq_false AU; clear AU; replace H := Option.bind_eq_some_iff.mp H; obtain ⟨Ag, BE, H⟩ := H; (try dsimp only at H); have BD := zm BE; clear BE
          by_cases Al : Ag = true
          ·subst Al; rw [if_pos rfl] at H; replace H := Option.bind_eq_some_iff.mp H; obtain ⟨AO, BF, H⟩ := H; (try dsimp only at H); have BS := zm BF; clear BF
           by_cases AV : ((rd_T44 l0_0 AA).f1.f0) ≤ AO
           ·rw [if_pos AV] at H; have BN : decide (((rd_T44 l0_0 AA).f1.f0) ≤ AO) = true := decide_eq_true AV; clear AV; obtain rfl := Option.some.inj H; obtain ⟨CN, CO, DX, DY⟩ := zc2 AB; have p111 : 0 ≤ (AA : Int) := zd; have q111 : AA < (l0_0.length : Int) := zd; obtain ⟨ad111, e111, hx111_0, hx111_1, hx111_2, hx111_3, hx111_4, hx111_5⟩ := at_T44 (Kd.C_below HR0_0.out HB.out) AA p111 q111; cases e111; replace p111 := eq_true p111; replace q111 := eq_true q111
            try go_wp2_with (first | ((with_reducible refine gate_dst (N := 4) rfl ?_); refine zbox 4 #[.int .i64 0, .int .i64 0, .int .i64 0, .int .i64 0, .int .i64 0, .string (⟨#[]⟩ : ByteArray)] 44 ?_; intro AD hg Ei hbox hb; have AE := zm (hbox); have AN := zge w hg zB; have AM := zge w hg zB; replace HB := zm (below_step zB hb); have AC := zlt hg (zb AB); have AK := zgt hg (zb AB); replace AB := zy AB hb; clear hb hbox hg; have Ey := AK.out; have F8 := AC.out; obtain ⟨CP, CQ, CR, CS, CT, CU, DZ, Da, Db, Dc, Dd, De⟩ := zc6 AE))
            obtain ⟨At, hW_⟩ : ∃ q, q = ((((((Ei.setCell ⟨AD, 0, none⟩ (.int .i64 ((rd_T44 l0_0 AA).f0))).setCell ⟨AD, 1, none⟩ (.int .i64 ((rd_T44 l0_0 AA).f1.f0))).setCell ⟨AD, 2, none⟩ (.int .i64 ((rd_T44 l0_0 AA).f1.f1))).setCell ⟨AD, 3, none⟩ (.int .i64 ((rd_T44 l0_0 AA).f1.f2))).setCell ⟨AD, 4, none⟩ (.int .i64 ((rd_T44 l0_0 AA).f1.f3))).setCell ⟨AD, 5, none⟩ (.string ((rd_T44 l0_0 AA).f1.f4))) := ⟨_, rfl⟩
            have n0_ : Aside0 (At.heap[AJ]? = some (.cells #[.slice (some ad111) l0_0.length c0_0, .slice A0_1 l0_1.length c0_1] 27 (0, 0))) := ⟨by rw [hW_]; exact zfar (zfar (zfar (zfar (zfar (zfar (zb AB) AC) AC) AC) AC) AC) AC⟩; have n1_ : Aside0 (At.heap[AD]? = some (.cells #[.int .i64 ((rd_T44 l0_0 AA).f0), .int .i64 ((rd_T44 l0_0 AA).f1.f0), .int .i64 ((rd_T44 l0_0 AA).f1.f1), .int .i64 ((rd_T44 l0_0 AA).f1.f2), .int .i64 ((rd_T44 l0_0 AA).f1.f3), .string ((rd_T44 l0_0 AA).f1.f4)] 44 (0, 0))) := ⟨by rw [hW_]; exact zput (zput (zput (zput (zput (zput (zb AE) 0) 1) 2) 3) 4) 5⟩; have n2_ : Aside0 (Below w.heap.size w At) := ⟨by rw [hW_]; exact zB⟩
            rw [← hW_]
            clear hW_; (try clear AB); (try clear AE); (try clear HB); have AB := n0_; have AE := n1_; have HB := n2_; clear n0_ n1_ n2_; replace AB := zq AB; replace AE := zq AE; replace HB := zm (below_drew1 HB.out); have p114 : 0 ≤ ((ji8) : Int) := zd; have q114 : (ji8) < (l0_0.length : Int) := zd; obtain ⟨ad114, e114, hx114_0, hx114_1, hx114_2, hx114_3, hx114_4, hx114_5⟩ := at_T44 HR0_0.out (ji8) p114 q114; have hw114_5 := hx114_5; have hw114_4 := hx114_4; have hw114_3 := hx114_3; have hw114_2 := hx114_2; have hw114_1 := hx114_1; have hw114_0 := hx114_0
            obtain rfl : ad111 = ad114 := (by injection e114)
            replace hx114_0 := zx HB hx114_0; replace hx114_1 := zx HB hx114_1; replace hx114_2 := zx HB hx114_2; replace hx114_3 := zx HB hx114_3; replace hx114_4 := zx HB hx114_4; replace hx114_5 := zx HB hx114_5; replace p114 := eq_true p114; replace q114 := eq_true q114
            refine start_ (n := 36) (S := fun w' => w'.cell? ⟨AD, 0, none⟩ = some (.int .i64 ((rd_T44 l0_0 AA).f0)) ∧ w'.cell? ⟨AD, 1, none⟩ = some (.int .i64 ((rd_T44 l0_0 AA).f1.f0)) ∧ w'.cell? ⟨AD, 2, none⟩ = some (.int .i64 ((rd_T44 l0_0 AA).f1.f1)) ∧ w'.cell? ⟨AD, 3, none⟩ = some (.int .i64 ((rd_T44 l0_0 AA).f1.f2)) ∧ w'.cell? ⟨AD, 4, none⟩ = some (.int .i64 ((rd_T44 l0_0 AA).f1.f3)) ∧ w'.cell? ⟨AD, 5, none⟩ = some (.string ((rd_T44 l0_0 AA).f1.f4)) ∧ w'.cell? ⟨AJ, 0, none⟩ = some (.slice (some ad111) l0_0.length c0_0) ∧ w'.cell? ⟨AJ, 1, none⟩ = some (.slice A0_1 l0_1.length c0_1) ∧ w'.cell? (ad111.add (((ji8)).toNat * 6)) = some (.int .i64 ((rd_T44 l0_0 (ji8)).f0)) ∧ w'.cell? ⟨(ad111.add (((ji8)).toNat * 6)).block, (ad111.add (((ji8)).toNat * 6)).off + 1, none⟩ = some (.int .i64 ((rd_T44 l0_0 (ji8)).f1.f0)) ∧ w'.cell? ⟨(ad111.add (((ji8)).toNat * 6)).block, (ad111.add (((ji8)).toNat * 6)).off + 2, none⟩ = some (.int .i64 ((rd_T44 l0_0 (ji8)).f1.f1)) ∧ w'.cell? ⟨(ad111.add (((ji8)).toNat * 6)).block, (ad111.add (((ji8)).toNat * 6)).off + 3, none⟩ = some (.int .i64 ((rd_T44 l0_0 (ji8)).f1.f2)) ∧ w'.cell? ⟨(ad111.add (((ji8)).toNat * 6)).block, (ad111.add (((ji8)).toNat * 6)).off + 4, none⟩ = some (.int .i64 ((rd_T44 l0_0 (ji8)).f1.f3)) ∧ w'.cell? ⟨(ad111.add (((ji8)).toNat * 6)).block, (ad111.add (((ji8)).toNat * 6)).off + 5, none⟩ = some (.string ((rd_T44 l0_0 (ji8)).f1.f4))) (ds := []) (zl 36 0) (by kernel_rfl) rfl rfl zS (fun hHeld => ?_); refine with_tabW spec_StateOk.tab5 spec_StateOk.bits5 (fun HT_ HW_ => ?_)
            generalize At.drew = FQ at AB AE HB hx114_0 hx114_1 hx114_2 hx114_3 hx114_4 hx114_5 hHeld ⊢
            refine zu 0 19 36 1 ?_
            refine zv 1 20 36 3 ?_
            refine zo 2 (some 21) (zl 36 7) (fun K hK => ?_); refine zgo #[.int .i64 ((rd_T44 l0_0 AA).f0)] Try.func64 ?_; (with_reducible refine (spec_l3Node.calls ((rd_T44 l0_0 AA).f0) true _ A5.out).mono ?_); rintro e w' ⟨rfl, ⟨nd, rfl⟩⟩; refine ⟨_, rfl, ?_⟩; refine hK.out _ _ zS (fun hHeld => ?_); clear hK K; refine zn ?_
            refine zu 3 22 36 15 ?_
            refine zu 4 23 36 31 ?_
            refine zu 5 24 36 63 ?_
            refine zu 6 25 36 127 ?_
            refine zu 7 26 36 255 ?_
            refine zu 8 27 36 511 ?_
            refine zu 10 29 36 1535 ?_
            refine zu 12 31 36 5631 ?_
            refine zu 13 32 36 13823 ?_
            refine zv 9 28 36 14335 ?_
            refine zv 11 30 36 16383 ?_
            refine zu 14 33 36 32767 ?_
            refine zu 15 34 36 65535 ?_
            refine zv 16 35 36 131071 ?_
            refine zu 17 36 36 262143 ?_
            refine zu 18 37 36 524287 ?_
            refine zu 19 38 36 1048575 ?_
            refine zu 20 39 36 2097151 ?_
            refine zu 21 40 36 4194303 ?_
            refine zv 22 41 36 8388607 ?_
            refine zo 23 (some 42) (zl 36 16777215) (fun K hK => ?_); refine zgo #[.agg #[.int .i64 ((rd_T44 l0_0 AA).f1.f0), .int .i64 ((rd_T44 l0_0 AA).f1.f1), .int .i64 ((rd_T44 l0_0 AA).f1.f2), .int .i64 ((rd_T44 l0_0 AA).f1.f3), .string ((rd_T44 l0_0 AA).f1.f4)]] Try.func65 ?_; (with_reducible refine (spec_EntryOk.calls ((rd_T44 l0_0 AA).f1.f0) ((rd_T44 l0_0 AA).f1.f1) ((rd_T44 l0_0 AA).f1.f2) ((rd_T44 l0_0 AA).f1.f3) ((rd_T44 l0_0 AA).f1.f4) true _ BD.out).mono ?_); rintro e FR ⟨rfl, hb⟩; refine ⟨_, rfl, ?_⟩; replace AB := zy AB hb; replace AE := zy AE hb; replace HB := zm (below_step zB hb); (try clear hb); refine hK.out _ _ zS (fun hHeld => ?_); clear hK K; refine zn ?_
            refine zu 24 43 36 33554431 ?_
            refine zu 25 44 36 67108863 ?_
            refine zu 26 45 36 134217727 ?_
            refine zu 27 46 36 268435455 ?_
            refine zu 28 47 36 536870911 ?_
            refine zu 31 50 36 2684354559 ?_
            refine zv 29 48 36 3221225471 ?_
            refine zv 30 49 36 4294967295 ?_
            refine zv 32 51 36 8589934591 ?_
            refine zo 33 (some 52) (zl 36 17179869183) (fun K hK => ?_); refine zgo #[.agg #[.slice (some ad111) l0_0.length c0_0, .slice A0_1 l0_1.length c0_1], .int .i64 ((rd_T44 l0_0 AA).f0)] Try.func63 ?_; (with_reducible refine (spec_FloorOf.calls k1 _ _ l0_0 _ _ l0_1 ((rd_T44 l0_0 AA).f0) AO _ (zk (Kd.C_below HR0_0.out HB.out)) HC0_0.out (zk (Kd.C_below HR0_1.out HB.out)) HC0_1.out BS.out).mono ?_); rintro e FS ⟨rfl, hb⟩; refine ⟨_, rfl, ?_⟩; replace AB := zy AB hb; replace AE := zy AE hb; replace HB := zm (below_step zB hb); (try clear hb); refine hK.out _ _ zS (fun hHeld => ?_); clear hK K; refine zn ?_
            refine zu 34 53 36 34359738367 ?_
            refine zu 35 54 36 68719476735 ?_
            refine done_ (done_of HT_.out (by kernel_rfl)) ?_
            try go_wp2
            go_ret
            exact ⟨by first | rfl | (simp [errW_none, errW_some] <;> rfl) | (simp only [← hji8]; first | rfl | (simp [errW_none, errW_some] <;> rfl)) | (simp [*, errW_none, errW_some] <;> rfl), zB⟩
           ·rw [if_neg AV] at H; have BN : decide (((rd_T44 l0_0 AA).f1.f0) ≤ AO) = false := decide_eq_false AV; clear AV
            have H' := zm H
            clear H; obtain ⟨CV, CW, Df, Dg⟩ := zc2 AB; have p111 : 0 ≤ (AA : Int) := zd; have q111 : AA < (l0_0.length : Int) := zd; obtain ⟨ad111, e111, hx111_0, hx111_1, hx111_2, hx111_3, hx111_4, hx111_5⟩ := at_T44 (Kd.C_below HR0_0.out HB.out) AA p111 q111; cases e111; replace p111 := eq_true p111; replace q111 := eq_true q111
            try go_wp2_with (first | ((with_reducible refine gate_dst (N := 4) rfl ?_); refine zbox 4 #[.int .i64 0, .int .i64 0, .int .i64 0, .int .i64 0, .int .i64 0, .string (⟨#[]⟩ : ByteArray)] 44 ?_; intro AD hg Ej hbox hb; have AE := zm (hbox); have AN := zge w hg zB; have AM := zge w hg zB; replace HB := zm (below_step zB hb); have AC := zlt hg (zb AB); have AK := zgt hg (zb AB); replace AB := zy AB hb; clear hb hbox hg; have Ez := AK.out; have F9 := AC.out; obtain ⟨CX, CY, CZ, Ca, Cb, Cc, Dh, Di, Dj, Dk, Dl, Dm⟩ := zc6 AE))
            obtain ⟨Au, hW_⟩ : ∃ q, q = ((((((Ej.setCell ⟨AD, 0, none⟩ (.int .i64 ((rd_T44 l0_0 AA).f0))).setCell ⟨AD, 1, none⟩ (.int .i64 ((rd_T44 l0_0 AA).f1.f0))).setCell ⟨AD, 2, none⟩ (.int .i64 ((rd_T44 l0_0 AA).f1.f1))).setCell ⟨AD, 3, none⟩ (.int .i64 ((rd_T44 l0_0 AA).f1.f2))).setCell ⟨AD, 4, none⟩ (.int .i64 ((rd_T44 l0_0 AA).f1.f3))).setCell ⟨AD, 5, none⟩ (.string ((rd_T44 l0_0 AA).f1.f4))) := ⟨_, rfl⟩
            have n0_ : Aside0 (Au.heap[AJ]? = some (.cells #[.slice (some ad111) l0_0.length c0_0, .slice A0_1 l0_1.length c0_1] 27 (0, 0))) := ⟨by rw [hW_]; exact zfar (zfar (zfar (zfar (zfar (zfar (zb AB) AC) AC) AC) AC) AC) AC⟩; have n1_ : Aside0 (Au.heap[AD]? = some (.cells #[.int .i64 ((rd_T44 l0_0 AA).f0), .int .i64 ((rd_T44 l0_0 AA).f1.f0), .int .i64 ((rd_T44 l0_0 AA).f1.f1), .int .i64 ((rd_T44 l0_0 AA).f1.f2), .int .i64 ((rd_T44 l0_0 AA).f1.f3), .string ((rd_T44 l0_0 AA).f1.f4)] 44 (0, 0))) := ⟨by rw [hW_]; exact zput (zput (zput (zput (zput (zput (zb AE) 0) 1) 2) 3) 4) 5⟩; have n2_ : Aside0 (Below w.heap.size w Au) := ⟨by rw [hW_]; exact zB⟩
            rw [← hW_]
            clear hW_; (try clear AB); (try clear AE); (try clear HB); have AB := n0_; have AE := n1_; have HB := n2_; clear n0_ n1_ n2_; replace AB := zq AB; replace AE := zq AE; replace HB := zm (below_drew1 HB.out); have p114 : 0 ≤ ((ji8) : Int) := zd; have q114 : (ji8) < (l0_0.length : Int) := zd; obtain ⟨ad114, e114, hx114_0, hx114_1, hx114_2, hx114_3, hx114_4, hx114_5⟩ := at_T44 HR0_0.out (ji8) p114 q114; have hw114_5 := hx114_5; have hw114_4 := hx114_4; have hw114_3 := hx114_3; have hw114_2 := hx114_2; have hw114_1 := hx114_1; have hw114_0 := hx114_0
            obtain rfl : ad111 = ad114 := (by injection e114)
            replace hx114_0 := zx HB hx114_0; replace hx114_1 := zx HB hx114_1; replace hx114_2 := zx HB hx114_2; replace hx114_3 := zx HB hx114_3; replace hx114_4 := zx HB hx114_4; replace hx114_5 := zx HB hx114_5; replace p114 := eq_true p114; replace q114 := eq_true q114
            refine start_ (n := 36) (S := fun w' => w'.cell? ⟨AD, 0, none⟩ = some (.int .i64 ((rd_T44 l0_0 AA).f0)) ∧ w'.cell? ⟨AD, 1, none⟩ = some (.int .i64 ((rd_T44 l0_0 AA).f1.f0)) ∧ w'.cell? ⟨AD, 2, none⟩ = some (.int .i64 ((rd_T44 l0_0 AA).f1.f1)) ∧ w'.cell? ⟨AD, 3, none⟩ = some (.int .i64 ((rd_T44 l0_0 AA).f1.f2)) ∧ w'.cell? ⟨AD, 4, none⟩ = some (.int .i64 ((rd_T44 l0_0 AA).f1.f3)) ∧ w'.cell? ⟨AD, 5, none⟩ = some (.string ((rd_T44 l0_0 AA).f1.f4)) ∧ w'.cell? ⟨AJ, 0, none⟩ = some (.slice (some ad111) l0_0.length c0_0) ∧ w'.cell? ⟨AJ, 1, none⟩ = some (.slice A0_1 l0_1.length c0_1) ∧ w'.cell? (ad111.add (((ji8)).toNat * 6)) = some (.int .i64 ((rd_T44 l0_0 (ji8)).f0)) ∧ w'.cell? ⟨(ad111.add (((ji8)).toNat * 6)).block, (ad111.add (((ji8)).toNat * 6)).off + 1, none⟩ = some (.int .i64 ((rd_T44 l0_0 (ji8)).f1.f0)) ∧ w'.cell? ⟨(ad111.add (((ji8)).toNat * 6)).block, (ad111.add (((ji8)).toNat * 6)).off + 2, none⟩ = some (.int .i64 ((rd_T44 l0_0 (ji8)).f1.f1)) ∧ w'.cell? ⟨(ad111.add (((ji8)).toNat * 6)).block, (ad111.add (((ji8)).toNat * 6)).off + 3, none⟩ = some (.int .i64 ((rd_T44 l0_0 (ji8)).f1.f2)) ∧ w'.cell? ⟨(ad111.add (((ji8)).toNat * 6)).block, (ad111.add (((ji8)).toNat * 6)).off + 4, none⟩ = some (.int .i64 ((rd_T44 l0_0 (ji8)).f1.f3)) ∧ w'.cell? ⟨(ad111.add (((ji8)).toNat * 6)).block, (ad111.add (((ji8)).toNat * 6)).off + 5, none⟩ = some (.string ((rd_T44 l0_0 (ji8)).f1.f4))) (ds := []) (zl 36 0) (by kernel_rfl) rfl rfl zS (fun hHeld => ?_); refine with_tabW spec_StateOk.tab5 spec_StateOk.bits5 (fun HT_ HW_ => ?_)
            generalize Au.drew = FT at AB AE HB hx114_0 hx114_1 hx114_2 hx114_3 hx114_4 hx114_5 hHeld ⊢
            refine zu 0 19 36 1 ?_
            refine zv 1 20 36 3 ?_
            refine zo 2 (some 21) (zl 36 7) (fun K hK => ?_); refine zgo #[.int .i64 ((rd_T44 l0_0 AA).f0)] Try.func64 ?_; (with_reducible refine (spec_l3Node.calls ((rd_T44 l0_0 AA).f0) true _ A5.out).mono ?_); rintro e w' ⟨rfl, ⟨nd, rfl⟩⟩; refine ⟨_, rfl, ?_⟩; refine hK.out _ _ zS (fun hHeld => ?_); clear hK K; refine zn ?_
            refine zu 3 22 36 15 ?_
            refine zu 4 23 36 31 ?_
            refine zu 5 24 36 63 ?_
            refine zu 6 25 36 127 ?_
            refine zu 7 26 36 255 ?_
            refine zu 8 27 36 511 ?_
            refine zu 10 29 36 1535 ?_
            refine zu 12 31 36 5631 ?_
            refine zu 13 32 36 13823 ?_
            refine zv 9 28 36 14335 ?_
            refine zv 11 30 36 16383 ?_
            refine zu 14 33 36 32767 ?_
            refine zu 15 34 36 65535 ?_
            refine zv 16 35 36 131071 ?_
            refine zu 17 36 36 262143 ?_
            refine zu 18 37 36 524287 ?_
            refine zu 19 38 36 1048575 ?_
            refine zu 20 39 36 2097151 ?_
            refine zu 21 40 36 4194303 ?_
            refine zv 22 41 36 8388607 ?_
            refine zo 23 (some 42) (zl 36 16777215) (fun K hK => ?_); refine zgo #[.agg #[.int .i64 ((rd_T44 l0_0 AA).f1.f0), .int .i64 ((rd_T44 l0_0 AA).f1.f1), .int .i64 ((rd_T44 l0_0 AA).f1.f2), .int .i64 ((rd_T44 l0_0 AA).f1.f3), .string ((rd_T44 l0_0 AA).f1.f4)]] Try.func65 ?_; (with_reducible refine (spec_EntryOk.calls ((rd_T44 l0_0 AA).f1.f0) ((rd_T44 l0_0 AA).f1.f1) ((rd_T44 l0_0 AA).f1.f2) ((rd_T44 l0_0 AA).f1.f3) ((rd_T44 l0_0 AA).f1.f4) true _ BD.out).mono ?_); rintro e FU ⟨rfl, hb⟩; refine ⟨_, rfl, ?_⟩; replace AB := zy AB hb; replace AE := zy AE hb; replace HB := zm (below_step zB hb); (try clear hb); refine hK.out _ _ zS (fun hHeld => ?_); clear hK K; refine zn ?_
            refine zu 24 43 36 33554431 ?_
            refine zu 25 44 36 67108863 ?_
            refine zu 26 45 36 134217727 ?_
            refine zu 27 46 36 268435455 ?_
            refine zu 28 47 36 536870911 ?_
            refine zu 31 50 36 2684354559 ?_
            refine zv 29 48 36 3221225471 ?_
            refine zv 30 49 36 4294967295 ?_
            refine zv 32 51 36 8589934591 ?_
            refine zo 33 (some 52) (zl 36 17179869183) (fun K hK => ?_); refine zgo #[.agg #[.slice (some ad111) l0_0.length c0_0, .slice A0_1 l0_1.length c0_1], .int .i64 ((rd_T44 l0_0 AA).f0)] Try.func63 ?_; (with_reducible refine (spec_FloorOf.calls k1 _ _ l0_0 _ _ l0_1 ((rd_T44 l0_0 AA).f0) AO _ (zk (Kd.C_below HR0_0.out HB.out)) HC0_0.out (zk (Kd.C_below HR0_1.out HB.out)) HC0_1.out BS.out).mono ?_); rintro e FV ⟨rfl, hb⟩; refine ⟨_, rfl, ?_⟩; replace AB := zy AB hb; replace AE := zy AE hb; replace HB := zm (below_step zB hb); (try clear hb); refine hK.out _ _ zS (fun hHeld => ?_); clear hK K; refine zn ?_
            refine zu 34 53 36 34359738367 ?_
            refine zu 35 54 36 68719476735 ?_
            refine done_ (done_of HT_.out (by kernel_rfl)) ?_
            try go_wp2
            go_roundg k1
            case measure => have := AR.out; omega
            case rel => exact ⟨(wrap64 (AA + 1)), zF, H', ⟨by have := AR.out; omega⟩, ⟨zb AB⟩, ⟨zB⟩⟩
          ·replace Al := Bool.eq_false_iff.mpr Al; subst Al; rw [zff] at H; obtain rfl := Option.some.inj H; obtain ⟨Cd, Ce, Dn, Do⟩ := zc2 AB; have p111 : 0 ≤ (AA : Int) := zd; have q111 : AA < (l0_0.length : Int) := zd; obtain ⟨ad111, e111, hx111_0, hx111_1, hx111_2, hx111_3, hx111_4, hx111_5⟩ := at_T44 (Kd.C_below HR0_0.out HB.out) AA p111 q111; cases e111; replace p111 := eq_true p111; replace q111 := eq_true q111
           try go_wp2_with (first | ((with_reducible refine gate_dst (N := 4) rfl ?_); refine zbox 4 #[.int .i64 0, .int .i64 0, .int .i64 0, .int .i64 0, .int .i64 0, .string (⟨#[]⟩ : ByteArray)] 44 ?_; intro AD hg Ek hbox hb; have AE := zm (hbox); have AN := zge w hg zB; have AM := zge w hg zB; replace HB := zm (below_step zB hb); have AC := zlt hg (zb AB); have AK := zgt hg (zb AB); replace AB := zy AB hb; clear hb hbox hg; have F0 := AK.out; have FA := AC.out; obtain ⟨Cf, Cg, Ch, Ci, Cj, Ck, Dp, Dq, Dr, Ds, Dt, Du⟩ := zc6 AE))
           obtain ⟨Av, hW_⟩ : ∃ q, q = ((((((Ek.setCell ⟨AD, 0, none⟩ (.int .i64 ((rd_T44 l0_0 AA).f0))).setCell ⟨AD, 1, none⟩ (.int .i64 ((rd_T44 l0_0 AA).f1.f0))).setCell ⟨AD, 2, none⟩ (.int .i64 ((rd_T44 l0_0 AA).f1.f1))).setCell ⟨AD, 3, none⟩ (.int .i64 ((rd_T44 l0_0 AA).f1.f2))).setCell ⟨AD, 4, none⟩ (.int .i64 ((rd_T44 l0_0 AA).f1.f3))).setCell ⟨AD, 5, none⟩ (.string ((rd_T44 l0_0 AA).f1.f4))) := ⟨_, rfl⟩
           have n0_ : Aside0 (Av.heap[AJ]? = some (.cells #[.slice (some ad111) l0_0.length c0_0, .slice A0_1 l0_1.length c0_1] 27 (0, 0))) := ⟨by rw [hW_]; exact zfar (zfar (zfar (zfar (zfar (zfar (zb AB) AC) AC) AC) AC) AC) AC⟩; have n1_ : Aside0 (Av.heap[AD]? = some (.cells #[.int .i64 ((rd_T44 l0_0 AA).f0), .int .i64 ((rd_T44 l0_0 AA).f1.f0), .int .i64 ((rd_T44 l0_0 AA).f1.f1), .int .i64 ((rd_T44 l0_0 AA).f1.f2), .int .i64 ((rd_T44 l0_0 AA).f1.f3), .string ((rd_T44 l0_0 AA).f1.f4)] 44 (0, 0))) := ⟨by rw [hW_]; exact zput (zput (zput (zput (zput (zput (zb AE) 0) 1) 2) 3) 4) 5⟩; have n2_ : Aside0 (Below w.heap.size w Av) := ⟨by rw [hW_]; exact zB⟩
           rw [← hW_]
           clear hW_; (try clear AB); (try clear AE); (try clear HB); have AB := n0_; have AE := n1_; have HB := n2_; clear n0_ n1_ n2_; replace AB := zq AB; replace AE := zq AE; replace HB := zm (below_drew1 HB.out); have p114 : 0 ≤ ((ji8) : Int) := zd; have q114 : (ji8) < (l0_0.length : Int) := zd; obtain ⟨ad114, e114, hx114_0, hx114_1, hx114_2, hx114_3, hx114_4, hx114_5⟩ := at_T44 HR0_0.out (ji8) p114 q114; have hw114_5 := hx114_5; have hw114_4 := hx114_4; have hw114_3 := hx114_3; have hw114_2 := hx114_2; have hw114_1 := hx114_1; have hw114_0 := hx114_0
           obtain rfl : ad111 = ad114 := (by injection e114)
           replace hx114_0 := zx HB hx114_0; replace hx114_1 := zx HB hx114_1; replace hx114_2 := zx HB hx114_2; replace hx114_3 := zx HB hx114_3; replace hx114_4 := zx HB hx114_4; replace hx114_5 := zx HB hx114_5; replace p114 := eq_true p114; replace q114 := eq_true q114
           refine start_ (n := 36) (S := fun w' => w'.cell? ⟨AD, 0, none⟩ = some (.int .i64 ((rd_T44 l0_0 AA).f0)) ∧ w'.cell? ⟨AD, 1, none⟩ = some (.int .i64 ((rd_T44 l0_0 AA).f1.f0)) ∧ w'.cell? ⟨AD, 2, none⟩ = some (.int .i64 ((rd_T44 l0_0 AA).f1.f1)) ∧ w'.cell? ⟨AD, 3, none⟩ = some (.int .i64 ((rd_T44 l0_0 AA).f1.f2)) ∧ w'.cell? ⟨AD, 4, none⟩ = some (.int .i64 ((rd_T44 l0_0 AA).f1.f3)) ∧ w'.cell? ⟨AD, 5, none⟩ = some (.string ((rd_T44 l0_0 AA).f1.f4)) ∧ w'.cell? ⟨AJ, 0, none⟩ = some (.slice (some ad111) l0_0.length c0_0) ∧ w'.cell? ⟨AJ, 1, none⟩ = some (.slice A0_1 l0_1.length c0_1) ∧ w'.cell? (ad111.add (((ji8)).toNat * 6)) = some (.int .i64 ((rd_T44 l0_0 (ji8)).f0)) ∧ w'.cell? ⟨(ad111.add (((ji8)).toNat * 6)).block, (ad111.add (((ji8)).toNat * 6)).off + 1, none⟩ = some (.int .i64 ((rd_T44 l0_0 (ji8)).f1.f0)) ∧ w'.cell? ⟨(ad111.add (((ji8)).toNat * 6)).block, (ad111.add (((ji8)).toNat * 6)).off + 2, none⟩ = some (.int .i64 ((rd_T44 l0_0 (ji8)).f1.f1)) ∧ w'.cell? ⟨(ad111.add (((ji8)).toNat * 6)).block, (ad111.add (((ji8)).toNat * 6)).off + 3, none⟩ = some (.int .i64 ((rd_T44 l0_0 (ji8)).f1.f2)) ∧ w'.cell? ⟨(ad111.add (((ji8)).toNat * 6)).block, (ad111.add (((ji8)).toNat * 6)).off + 4, none⟩ = some (.int .i64 ((rd_T44 l0_0 (ji8)).f1.f3)) ∧ w'.cell? ⟨(ad111.add (((ji8)).toNat * 6)).block, (ad111.add (((ji8)).toNat * 6)).off + 5, none⟩ = some (.string ((rd_T44 l0_0 (ji8)).f1.f4))) (ds := []) (zl 36 0) (by kernel_rfl) rfl rfl zS (fun hHeld => ?_); refine with_tabW spec_StateOk.tab5 spec_StateOk.bits5 (fun HT_ HW_ => ?_)
           generalize Av.drew = FW at AB AE HB hx114_0 hx114_1 hx114_2 hx114_3 hx114_4 hx114_5 hHeld ⊢
           refine zu 0 19 36 1 ?_
           refine zv 1 20 36 3 ?_
           refine zo 2 (some 21) (zl 36 7) (fun K hK => ?_); refine zgo #[.int .i64 ((rd_T44 l0_0 AA).f0)] Try.func64 ?_; (with_reducible refine (spec_l3Node.calls ((rd_T44 l0_0 AA).f0) true _ A5.out).mono ?_); rintro e w' ⟨rfl, ⟨nd, rfl⟩⟩; refine ⟨_, rfl, ?_⟩; refine hK.out _ _ zS (fun hHeld => ?_); clear hK K; refine zn ?_
           refine zu 3 22 36 15 ?_
           refine zu 4 23 36 31 ?_
           refine zu 5 24 36 63 ?_
           refine zu 6 25 36 127 ?_
           refine zu 7 26 36 255 ?_
           refine zu 8 27 36 511 ?_
           refine zu 10 29 36 1535 ?_
           refine zu 12 31 36 5631 ?_
           refine zu 13 32 36 13823 ?_
           refine zv 9 28 36 14335 ?_
           refine zv 11 30 36 16383 ?_
           refine zu 14 33 36 32767 ?_
           refine zu 15 34 36 65535 ?_
           refine zv 16 35 36 131071 ?_
           refine zu 17 36 36 262143 ?_
           refine zu 18 37 36 524287 ?_
           refine zu 19 38 36 1048575 ?_
           refine zu 20 39 36 2097151 ?_
           refine zu 21 40 36 4194303 ?_
           refine zv 22 41 36 8388607 ?_
           refine zo 23 (some 42) (zl 36 16777215) (fun K hK => ?_); refine zgo #[.agg #[.int .i64 ((rd_T44 l0_0 AA).f1.f0), .int .i64 ((rd_T44 l0_0 AA).f1.f1), .int .i64 ((rd_T44 l0_0 AA).f1.f2), .int .i64 ((rd_T44 l0_0 AA).f1.f3), .string ((rd_T44 l0_0 AA).f1.f4)]] Try.func65 ?_; (with_reducible refine (spec_EntryOk.calls ((rd_T44 l0_0 AA).f1.f0) ((rd_T44 l0_0 AA).f1.f1) ((rd_T44 l0_0 AA).f1.f2) ((rd_T44 l0_0 AA).f1.f3) ((rd_T44 l0_0 AA).f1.f4) false _ BD.out).mono ?_); rintro e FX ⟨rfl, hb⟩; refine ⟨_, rfl, ?_⟩; replace AB := zy AB hb; replace AE := zy AE hb; replace HB := zm (below_step zB hb); (try clear hb); refine hK.out _ _ zS (fun hHeld => ?_); clear hK K; refine zn ?_
           refine zu 24 43 36 33554431 ?_
           refine zu 25 44 36 67108863 ?_
           refine zu 26 45 36 134217727 ?_
           refine zu 27 46 36 268435455 ?_
           refine zu 28 47 36 536870911 ?_
           refine zu 29 48 36 1073741823 ?_
           refine zu 30 49 36 2147483647 ?_
           refine zu 31 50 36 4294967295 ?_
           refine zu 32 51 36 8589934591 ?_
           refine zu 33 52 36 17179869183 ?_
           refine zu 34 53 36 34359738367 ?_
           refine zu 35 54 36 68719476735 ?_
           refine done_ (done_of HT_.out (by kernel_rfl)) ?_
           try go_wp2
           go_ret
           exact ⟨by first | rfl | (simp [errW_none, errW_some] <;> rfl) | (simp only [← hji8]; first | rfl | (simp [errW_none, errW_some] <;> rfl)) | (simp [*, errW_none, errW_some] <;> rfl), zB⟩
        ·rw [if_neg Ak] at H
         exact absurd H (by simp)
       ·rw [if_neg c9] at H
        exact absurd H (by simp)
      ·rw [if_neg c7] at H; have BW : decide (0 < AA) = false := decide_eq_false c7; clear c7; replace H := Option.bind_eq_some_iff.mp H; obtain ⟨C8, BH, H⟩ := H; (try dsimp only at H); have BG := zm BH; clear BH
       by_cases Am : C8 = true
       ·subst Am; rw [if_pos rfl] at H; replace H := Option.bind_eq_some_iff.mp H; obtain ⟨AT, BI, H⟩ := H; (try dsimp only at H); have BT := zm BI; clear BI
        by_cases AW : ((rd_T44 l0_0 AA).f1.f0) ≤ AT
        ·rw [if_pos AW] at H; have BO : decide (((rd_T44 l0_0 AA).f1.f0) ≤ AT) = true := decide_eq_true AW; clear AW; obtain rfl := Option.some.inj H; obtain ⟨Cl, Cm, Dv, Dw⟩ := zc2 AB; have p111 : 0 ≤ (AA : Int) := zd; have q111 : AA < (l0_0.length : Int) := zd; obtain ⟨ad111, e111, hx111_0, hx111_1, hx111_2, hx111_3, hx111_4, hx111_5⟩ := at_T44 (Kd.C_below HR0_0.out HB.out) AA p111 q111; cases e111; replace p111 := eq_true p111; replace q111 := eq_true q111
         try go_wp2_with (first | ((with_reducible refine gate_dst (N := 4) rfl ?_); refine zbox 4 #[.int .i64 0, .int .i64 0, .int .i64 0, .int .i64 0, .int .i64 0, .string (⟨#[]⟩ : ByteArray)] 44 ?_; intro AD hg El hbox hb; have AE := zm (hbox); have AN := zge w hg zB; have AM := zge w hg zB; replace HB := zm (below_step zB hb); have AC := zlt hg (zb AB); have AK := zgt hg (zb AB); replace AB := zy AB hb; clear hb hbox hg; have F1 := AK.out; have FB := AC.out; obtain ⟨Cn, Co, Cp, Cq, Cr, Cs, Dx, Dy, Dz, E0, E1, E2⟩ := zc6 AE))
         obtain ⟨Aw, hW_⟩ : ∃ q, q = ((((((El.setCell ⟨AD, 0, none⟩ (.int .i64 ((rd_T44 l0_0 AA).f0))).setCell ⟨AD, 1, none⟩ (.int .i64 ((rd_T44 l0_0 AA).f1.f0))).setCell ⟨AD, 2, none⟩ (.int .i64 ((rd_T44 l0_0 AA).f1.f1))).setCell ⟨AD, 3, none⟩ (.int .i64 ((rd_T44 l0_0 AA).f1.f2))).setCell ⟨AD, 4, none⟩ (.int .i64 ((rd_T44 l0_0 AA).f1.f3))).setCell ⟨AD, 5, none⟩ (.string ((rd_T44 l0_0 AA).f1.f4))) := ⟨_, rfl⟩
         have n0_ : Aside0 (Aw.heap[AJ]? = some (.cells #[.slice (some ad111) l0_0.length c0_0, .slice A0_1 l0_1.length c0_1] 27 (0, 0))) := ⟨by rw [hW_]; exact zfar (zfar (zfar (zfar (zfar (zfar (zb AB) AC) AC) AC) AC) AC) AC⟩; have n1_ : Aside0 (Aw.heap[AD]? = some (.cells #[.int .i64 ((rd_T44 l0_0 AA).f0), .int .i64 ((rd_T44 l0_0 AA).f1.f0), .int .i64 ((rd_T44 l0_0 AA).f1.f1), .int .i64 ((rd_T44 l0_0 AA).f1.f2), .int .i64 ((rd_T44 l0_0 AA).f1.f3), .string ((rd_T44 l0_0 AA).f1.f4)] 44 (0, 0))) := ⟨by rw [hW_]; exact zput (zput (zput (zput (zput (zput (zb AE) 0) 1) 2) 3) 4) 5⟩; have n2_ : Aside0 (Below w.heap.size w Aw) := ⟨by rw [hW_]; exact zB⟩
         rw [← hW_]
         clear hW_; (try clear AB); (try clear AE); (try clear HB); have AB := n0_; have AE := n1_; have HB := n2_; clear n0_ n1_ n2_; replace AB := zq AB; replace AE := zq AE; replace HB := zm (below_drew1 HB.out)
         refine start_ (n := 36) (S := fun w' => w'.cell? ⟨AD, 0, none⟩ = some (.int .i64 ((rd_T44 l0_0 AA).f0)) ∧ w'.cell? ⟨AD, 1, none⟩ = some (.int .i64 ((rd_T44 l0_0 AA).f1.f0)) ∧ w'.cell? ⟨AD, 2, none⟩ = some (.int .i64 ((rd_T44 l0_0 AA).f1.f1)) ∧ w'.cell? ⟨AD, 3, none⟩ = some (.int .i64 ((rd_T44 l0_0 AA).f1.f2)) ∧ w'.cell? ⟨AD, 4, none⟩ = some (.int .i64 ((rd_T44 l0_0 AA).f1.f3)) ∧ w'.cell? ⟨AD, 5, none⟩ = some (.string ((rd_T44 l0_0 AA).f1.f4)) ∧ w'.cell? ⟨AJ, 0, none⟩ = some (.slice (some ad111) l0_0.length c0_0) ∧ w'.cell? ⟨AJ, 1, none⟩ = some (.slice A0_1 l0_1.length c0_1)) (ds := []) (zl 36 0) (by kernel_rfl) rfl rfl zS (fun hHeld => ?_); refine with_tabW spec_StateOk.tab5 spec_StateOk.bits5 (fun HT_ HW_ => ?_)
         generalize Aw.drew = FY at AB AE HB hHeld ⊢
         refine zu 0 19 36 1 ?_
         refine zv 1 20 36 3 ?_
         refine zo 2 (some 21) (zl 36 7) (fun K hK => ?_); refine zgo #[.int .i64 ((rd_T44 l0_0 AA).f0)] Try.func64 ?_; (with_reducible refine (spec_l3Node.calls ((rd_T44 l0_0 AA).f0) true _ A5.out).mono ?_); rintro e w' ⟨rfl, ⟨nd, rfl⟩⟩; refine ⟨_, rfl, ?_⟩; refine hK.out _ _ zS (fun hHeld => ?_); clear hK K; refine zn ?_
         refine zu 3 22 36 15 ?_
         refine zu 4 23 36 31 ?_
         refine zu 5 24 36 63 ?_
         refine zu 6 25 36 127 ?_
         refine zu 7 26 36 255 ?_
         refine zu 8 27 36 511 ?_
         refine zu 9 28 36 1023 ?_
         refine zu 10 29 36 2047 ?_
         refine zu 11 30 36 4095 ?_
         refine zu 12 31 36 8191 ?_
         refine zu 13 32 36 16383 ?_
         refine zu 14 33 36 32767 ?_
         refine zu 15 34 36 65535 ?_
         refine zu 16 35 36 131071 ?_
         refine zu 17 36 36 262143 ?_
         refine zu 18 37 36 524287 ?_
         refine zu 19 38 36 1048575 ?_
         refine zu 20 39 36 2097151 ?_
         refine zu 21 40 36 4194303 ?_
         refine zv 22 41 36 8388607 ?_
         refine zo 23 (some 42) (zl 36 16777215) (fun K hK => ?_); refine zgo #[.agg #[.int .i64 ((rd_T44 l0_0 AA).f1.f0), .int .i64 ((rd_T44 l0_0 AA).f1.f1), .int .i64 ((rd_T44 l0_0 AA).f1.f2), .int .i64 ((rd_T44 l0_0 AA).f1.f3), .string ((rd_T44 l0_0 AA).f1.f4)]] Try.func65 ?_; (with_reducible refine (spec_EntryOk.calls ((rd_T44 l0_0 AA).f1.f0) ((rd_T44 l0_0 AA).f1.f1) ((rd_T44 l0_0 AA).f1.f2) ((rd_T44 l0_0 AA).f1.f3) ((rd_T44 l0_0 AA).f1.f4) true _ BG.out).mono ?_); rintro e FZ ⟨rfl, hb⟩; refine ⟨_, rfl, ?_⟩; replace AB := zy AB hb; replace AE := zy AE hb; replace HB := zm (below_step zB hb); (try clear hb); refine hK.out _ _ zS (fun hHeld => ?_); clear hK K; refine zn ?_
         refine zu 24 43 36 33554431 ?_
         refine zu 25 44 36 67108863 ?_
         refine zu 26 45 36 134217727 ?_
         refine zu 27 46 36 268435455 ?_
         refine zu 28 47 36 536870911 ?_
         refine zu 31 50 36 2684354559 ?_
         refine zv 29 48 36 3221225471 ?_
         refine zv 30 49 36 4294967295 ?_
         refine zv 32 51 36 8589934591 ?_
         refine zo 33 (some 52) (zl 36 17179869183) (fun K hK => ?_); refine zgo #[.agg #[.slice (some ad111) l0_0.length c0_0, .slice A0_1 l0_1.length c0_1], .int .i64 ((rd_T44 l0_0 AA).f0)] Try.func63 ?_; (with_reducible refine (spec_FloorOf.calls k1 _ _ l0_0 _ _ l0_1 ((rd_T44 l0_0 AA).f0) AT _ (zk (Kd.C_below HR0_0.out HB.out)) HC0_0.out (zk (Kd.C_below HR0_1.out HB.out)) HC0_1.out BT.out).mono ?_); rintro e Fa ⟨rfl, hb⟩; refine ⟨_, rfl, ?_⟩; replace AB := zy AB hb; replace AE := zy AE hb; replace HB := zm (below_step zB hb); (try clear hb); refine hK.out _ _ zS (fun hHeld => ?_); clear hK K; refine zn ?_
         refine zu 34 53 36 34359738367 ?_
         refine zu 35 54 36 68719476735 ?_
         refine done_ (done_of HT_.out (by kernel_rfl)) ?_
         try go_wp2
         go_ret
         exact ⟨zE, zB⟩
        ·rw [if_neg AW] at H; have BO : decide (((rd_T44 l0_0 AA).f1.f0) ≤ AT) = false := decide_eq_false AW; clear AW
         have H' := zm H
         clear H; obtain ⟨Ct, Cu, E3, E4⟩ := zc2 AB; have p111 : 0 ≤ (AA : Int) := zd; have q111 : AA < (l0_0.length : Int) := zd; obtain ⟨ad111, e111, hx111_0, hx111_1, hx111_2, hx111_3, hx111_4, hx111_5⟩ := at_T44 (Kd.C_below HR0_0.out HB.out) AA p111 q111; cases e111; replace p111 := eq_true p111; replace q111 := eq_true q111
         try go_wp2_with (first | ((with_reducible refine gate_dst (N := 4) rfl ?_); refine zbox 4 #[.int .i64 0, .int .i64 0, .int .i64 0, .int .i64 0, .int .i64 0, .string (⟨#[]⟩ : ByteArray)] 44 ?_; intro AD hg Em hbox hb; have AE := zm (hbox); have AN := zge w hg zB; have AM := zge w hg zB; replace HB := zm (below_step zB hb); have AC := zlt hg (zb AB); have AK := zgt hg (zb AB); replace AB := zy AB hb; clear hb hbox hg; have F2 := AK.out; have FC := AC.out; obtain ⟨Cv, Cw, Cx, Cy, Cz, D0, E5, E6, E7, E8, E9, EA⟩ := zc6 AE))
         obtain ⟨Ax, hW_⟩ : ∃ q, q = ((((((Em.setCell ⟨AD, 0, none⟩ (.int .i64 ((rd_T44 l0_0 AA).f0))).setCell ⟨AD, 1, none⟩ (.int .i64 ((rd_T44 l0_0 AA).f1.f0))).setCell ⟨AD, 2, none⟩ (.int .i64 ((rd_T44 l0_0 AA).f1.f1))).setCell ⟨AD, 3, none⟩ (.int .i64 ((rd_T44 l0_0 AA).f1.f2))).setCell ⟨AD, 4, none⟩ (.int .i64 ((rd_T44 l0_0 AA).f1.f3))).setCell ⟨AD, 5, none⟩ (.string ((rd_T44 l0_0 AA).f1.f4))) := ⟨_, rfl⟩
         have n0_ : Aside0 (Ax.heap[AJ]? = some (.cells #[.slice (some ad111) l0_0.length c0_0, .slice A0_1 l0_1.length c0_1] 27 (0, 0))) := ⟨by rw [hW_]; exact zfar (zfar (zfar (zfar (zfar (zfar (zb AB) AC) AC) AC) AC) AC) AC⟩; have n1_ : Aside0 (Ax.heap[AD]? = some (.cells #[.int .i64 ((rd_T44 l0_0 AA).f0), .int .i64 ((rd_T44 l0_0 AA).f1.f0), .int .i64 ((rd_T44 l0_0 AA).f1.f1), .int .i64 ((rd_T44 l0_0 AA).f1.f2), .int .i64 ((rd_T44 l0_0 AA).f1.f3), .string ((rd_T44 l0_0 AA).f1.f4)] 44 (0, 0))) := ⟨by rw [hW_]; exact zput (zput (zput (zput (zput (zput (zb AE) 0) 1) 2) 3) 4) 5⟩; have n2_ : Aside0 (Below w.heap.size w Ax) := ⟨by rw [hW_]; exact zB⟩
         rw [← hW_]
         clear hW_; (try clear AB); (try clear AE); (try clear HB); have AB := n0_; have AE := n1_; have HB := n2_; clear n0_ n1_ n2_; replace AB := zq AB; replace AE := zq AE; replace HB := zm (below_drew1 HB.out)
         refine start_ (n := 36) (S := fun w' => w'.cell? ⟨AD, 0, none⟩ = some (.int .i64 ((rd_T44 l0_0 AA).f0)) ∧ w'.cell? ⟨AD, 1, none⟩ = some (.int .i64 ((rd_T44 l0_0 AA).f1.f0)) ∧ w'.cell? ⟨AD, 2, none⟩ = some (.int .i64 ((rd_T44 l0_0 AA).f1.f1)) ∧ w'.cell? ⟨AD, 3, none⟩ = some (.int .i64 ((rd_T44 l0_0 AA).f1.f2)) ∧ w'.cell? ⟨AD, 4, none⟩ = some (.int .i64 ((rd_T44 l0_0 AA).f1.f3)) ∧ w'.cell? ⟨AD, 5, none⟩ = some (.string ((rd_T44 l0_0 AA).f1.f4)) ∧ w'.cell? ⟨AJ, 0, none⟩ = some (.slice (some ad111) l0_0.length c0_0) ∧ w'.cell? ⟨AJ, 1, none⟩ = some (.slice A0_1 l0_1.length c0_1)) (ds := []) (zl 36 0) (by kernel_rfl) rfl rfl zS (fun hHeld => ?_); refine with_tabW spec_StateOk.tab5 spec_StateOk.bits5 (fun HT_ HW_ => ?_)
         generalize Ax.drew = Fb at AB AE HB hHeld ⊢
         refine zu 0 19 36 1 ?_
         refine zv 1 20 36 3 ?_
         refine zo 2 (some 21) (zl 36 7) (fun K hK => ?_); refine zgo #[.int .i64 ((rd_T44 l0_0 AA).f0)] Try.func64 ?_; (with_reducible refine (spec_l3Node.calls ((rd_T44 l0_0 AA).f0) true _ A5.out).mono ?_); rintro e w' ⟨rfl, ⟨nd, rfl⟩⟩; refine ⟨_, rfl, ?_⟩; refine hK.out _ _ zS (fun hHeld => ?_); clear hK K; refine zn ?_
         refine zu 3 22 36 15 ?_
         refine zu 4 23 36 31 ?_
         refine zu 5 24 36 63 ?_
         refine zu 6 25 36 127 ?_
         refine zu 7 26 36 255 ?_
         refine zu 8 27 36 511 ?_
         refine zu 9 28 36 1023 ?_
         refine zu 10 29 36 2047 ?_
         refine zu 11 30 36 4095 ?_
         refine zu 12 31 36 8191 ?_
         refine zu 13 32 36 16383 ?_
         refine zu 14 33 36 32767 ?_
         refine zu 15 34 36 65535 ?_
         refine zu 16 35 36 131071 ?_
         refine zu 17 36 36 262143 ?_
         refine zu 18 37 36 524287 ?_
         refine zu 19 38 36 1048575 ?_
         refine zu 20 39 36 2097151 ?_
         refine zu 21 40 36 4194303 ?_
         refine zv 22 41 36 8388607 ?_
         refine zo 23 (some 42) (zl 36 16777215) (fun K hK => ?_); refine zgo #[.agg #[.int .i64 ((rd_T44 l0_0 AA).f1.f0), .int .i64 ((rd_T44 l0_0 AA).f1.f1), .int .i64 ((rd_T44 l0_0 AA).f1.f2), .int .i64 ((rd_T44 l0_0 AA).f1.f3), .string ((rd_T44 l0_0 AA).f1.f4)]] Try.func65 ?_; (with_reducible refine (spec_EntryOk.calls ((rd_T44 l0_0 AA).f1.f0) ((rd_T44 l0_0 AA).f1.f1) ((rd_T44 l0_0 AA).f1.f2) ((rd_T44 l0_0 AA).f1.f3) ((rd_T44 l0_0 AA).f1.f4) true _ BG.out).mono ?_); rintro e Fc ⟨rfl, hb⟩; refine ⟨_, rfl, ?_⟩; replace AB := zy AB hb; replace AE := zy AE hb; replace HB := zm (below_step zB hb); (try clear hb); refine hK.out _ _ zS (fun hHeld => ?_); clear hK K; refine zn ?_
         refine zu 24 43 36 33554431 ?_
         refine zu 25 44 36 67108863 ?_
         refine zu 26 45 36 134217727 ?_
         refine zu 27 46 36 268435455 ?_
         refine zu 28 47 36 536870911 ?_
         refine zu 31 50 36 2684354559 ?_
         refine zv 29 48 36 3221225471 ?_
         refine zv 30 49 36 4294967295 ?_
         refine zv 32 51 36 8589934591 ?_
         refine zo 33 (some 52) (zl 36 17179869183) (fun K hK => ?_); refine zgo #[.agg #[.slice (some ad111) l0_0.length c0_0, .slice A0_1 l0_1.length c0_1], .int .i64 ((rd_T44 l0_0 AA).f0)] Try.func63 ?_; (with_reducible refine (spec_FloorOf.calls k1 _ _ l0_0 _ _ l0_1 ((rd_T44 l0_0 AA).f0) AT _ (zk (Kd.C_below HR0_0.out HB.out)) HC0_0.out (zk (Kd.C_below HR0_1.out HB.out)) HC0_1.out BT.out).mono ?_); rintro e Fd ⟨rfl, hb⟩; refine ⟨_, rfl, ?_⟩; replace AB := zy AB hb; replace AE := zy AE hb; replace HB := zm (below_step zB hb); (try clear hb); refine hK.out _ _ zS (fun hHeld => ?_); clear hK K; refine zn ?_
         refine zu 34 53 36 34359738367 ?_
         refine zu 35 54 36 68719476735 ?_
         refine done_ (done_of HT_.out (by kernel_rfl)) ?_
         try go_wp2
         go_roundg k1
         case measure => have := AR.out; omega
         case rel => exact ⟨(wrap64 (AA + 1)), zF, H', ⟨by have := AR.out; omega⟩, ⟨zb AB⟩, ⟨zB⟩⟩
       ·replace Am := Bool.eq_false_iff.mpr Am; subst Am; rw [zff] at H; obtain rfl := Option.some.inj H; obtain ⟨D1, D2, EB, EC⟩ := zc2 AB; have p111 : 0 ≤ (AA : Int) := zd; have q111 : AA < (l0_0.length : Int) := zd; obtain ⟨ad111, e111, hx111_0, hx111_1, hx111_2, hx111_3, hx111_4, hx111_5⟩ := at_T44 (Kd.C_below HR0_0.out HB.out) AA p111 q111; cases e111; replace p111 := eq_true p111; replace q111 := eq_true q111
        try go_wp2_with (first | ((with_reducible refine gate_dst (N := 4) rfl ?_); refine zbox 4 #[.int .i64 0, .int .i64 0, .int .i64 0, .int .i64 0, .int .i64 0, .string (⟨#[]⟩ : ByteArray)] 44 ?_; intro AD hg En hbox hb; have AE := zm (hbox); have AN := zge w hg zB; have AM := zge w hg zB; replace HB := zm (below_step zB hb); have AC := zlt hg (zb AB); have AK := zgt hg (zb AB); replace AB := zy AB hb; clear hb hbox hg; have F3 := AK.out; have FD := AC.out; obtain ⟨D3, D4, D5, D6, D7, D8, ED, EE, EF, EG, EH, EI⟩ := zc6 AE))
        obtain ⟨Ay, hW_⟩ : ∃ q, q = ((((((En.setCell ⟨AD, 0, none⟩ (.int .i64 ((rd_T44 l0_0 AA).f0))).setCell ⟨AD, 1, none⟩ (.int .i64 ((rd_T44 l0_0 AA).f1.f0))).setCell ⟨AD, 2, none⟩ (.int .i64 ((rd_T44 l0_0 AA).f1.f1))).setCell ⟨AD, 3, none⟩ (.int .i64 ((rd_T44 l0_0 AA).f1.f2))).setCell ⟨AD, 4, none⟩ (.int .i64 ((rd_T44 l0_0 AA).f1.f3))).setCell ⟨AD, 5, none⟩ (.string ((rd_T44 l0_0 AA).f1.f4))) := ⟨_, rfl⟩
        have n0_ : Aside0 (Ay.heap[AJ]? = some (.cells #[.slice (some ad111) l0_0.length c0_0, .slice A0_1 l0_1.length c0_1] 27 (0, 0))) := ⟨by rw [hW_]; exact zfar (zfar (zfar (zfar (zfar (zfar (zb AB) AC) AC) AC) AC) AC) AC⟩; have n1_ : Aside0 (Ay.heap[AD]? = some (.cells #[.int .i64 ((rd_T44 l0_0 AA).f0), .int .i64 ((rd_T44 l0_0 AA).f1.f0), .int .i64 ((rd_T44 l0_0 AA).f1.f1), .int .i64 ((rd_T44 l0_0 AA).f1.f2), .int .i64 ((rd_T44 l0_0 AA).f1.f3), .string ((rd_T44 l0_0 AA).f1.f4)] 44 (0, 0))) := ⟨by rw [hW_]; exact zput (zput (zput (zput (zput (zput (zb AE) 0) 1) 2) 3) 4) 5⟩; have n2_ : Aside0 (Below w.heap.size w Ay) := ⟨by rw [hW_]; exact zB⟩
        rw [← hW_]
        clear hW_; (try clear AB); (try clear AE); (try clear HB); have AB := n0_; have AE := n1_; have HB := n2_; clear n0_ n1_ n2_; replace AB := zq AB; replace AE := zq AE; replace HB := zm (below_drew1 HB.out)
        refine start_ (n := 36) (S := fun w' => w'.cell? ⟨AD, 0, none⟩ = some (.int .i64 ((rd_T44 l0_0 AA).f0)) ∧ w'.cell? ⟨AD, 1, none⟩ = some (.int .i64 ((rd_T44 l0_0 AA).f1.f0)) ∧ w'.cell? ⟨AD, 2, none⟩ = some (.int .i64 ((rd_T44 l0_0 AA).f1.f1)) ∧ w'.cell? ⟨AD, 3, none⟩ = some (.int .i64 ((rd_T44 l0_0 AA).f1.f2)) ∧ w'.cell? ⟨AD, 4, none⟩ = some (.int .i64 ((rd_T44 l0_0 AA).f1.f3)) ∧ w'.cell? ⟨AD, 5, none⟩ = some (.string ((rd_T44 l0_0 AA).f1.f4))) (ds := []) (zl 36 0) (by kernel_rfl) rfl rfl zS (fun hHeld => ?_); refine with_tabW spec_StateOk.tab5 spec_StateOk.bits5 (fun HT_ HW_ => ?_)
        generalize Ay.drew = Fe at AB AE HB hHeld ⊢
        refine zu 0 19 36 1 ?_
        refine zv 1 20 36 3 ?_
        refine zo 2 (some 21) (zl 36 7) (fun K hK => ?_); refine zgo #[.int .i64 ((rd_T44 l0_0 AA).f0)] Try.func64 ?_; (with_reducible refine (spec_l3Node.calls ((rd_T44 l0_0 AA).f0) true _ A5.out).mono ?_); rintro e w' ⟨rfl, ⟨nd, rfl⟩⟩; refine ⟨_, rfl, ?_⟩; refine hK.out _ _ zS (fun hHeld => ?_); clear hK K; refine zn ?_
        refine zu 3 22 36 15 ?_
        refine zu 4 23 36 31 ?_
        refine zu 5 24 36 63 ?_
        refine zu 6 25 36 127 ?_
        refine zu 7 26 36 255 ?_
        refine zu 8 27 36 511 ?_
        refine zu 9 28 36 1023 ?_
        refine zu 10 29 36 2047 ?_
        refine zu 11 30 36 4095 ?_
        refine zu 12 31 36 8191 ?_
        refine zu 13 32 36 16383 ?_
        refine zu 14 33 36 32767 ?_
        refine zu 15 34 36 65535 ?_
        refine zu 16 35 36 131071 ?_
        refine zu 17 36 36 262143 ?_
        refine zu 18 37 36 524287 ?_
        refine zu 19 38 36 1048575 ?_
        refine zu 20 39 36 2097151 ?_
        refine zu 21 40 36 4194303 ?_
        refine zv 22 41 36 8388607 ?_
        refine zo 23 (some 42) (zl 36 16777215) (fun K hK => ?_); refine zgo #[.agg #[.int .i64 ((rd_T44 l0_0 AA).f1.f0), .int .i64 ((rd_T44 l0_0 AA).f1.f1), .int .i64 ((rd_T44 l0_0 AA).f1.f2), .int .i64 ((rd_T44 l0_0 AA).f1.f3), .string ((rd_T44 l0_0 AA).f1.f4)]] Try.func65 ?_; (with_reducible refine (spec_EntryOk.calls ((rd_T44 l0_0 AA).f1.f0) ((rd_T44 l0_0 AA).f1.f1) ((rd_T44 l0_0 AA).f1.f2) ((rd_T44 l0_0 AA).f1.f3) ((rd_T44 l0_0 AA).f1.f4) false _ BG.out).mono ?_); rintro e Ff ⟨rfl, hb⟩; refine ⟨_, rfl, ?_⟩; replace AB := zy AB hb; replace AE := zy AE hb; replace HB := zm (below_step zB hb); (try clear hb); refine hK.out _ _ zS (fun hHeld => ?_); clear hK K; refine zn ?_
        refine zu 24 43 36 33554431 ?_
        refine zu 25 44 36 67108863 ?_
        refine zu 26 45 36 134217727 ?_
        refine zu 27 46 36 268435455 ?_
        refine zu 28 47 36 536870911 ?_
        refine zu 29 48 36 1073741823 ?_
        refine zu 30 49 36 2147483647 ?_
        refine zu 31 50 36 4294967295 ?_
        refine zu 32 51 36 8589934591 ?_
        refine zu 33 52 36 17179869183 ?_
        refine zu 34 53 36 34359738367 ?_
        refine zu 35 54 36 68719476735 ?_
        refine done_ (done_of HT_.out (by kernel_rfl)) ?_
        try go_wp2
        go_ret
        exact ⟨zE, zB⟩
     ·replace c6 := Bool.eq_false_iff.mpr c6; subst c6; rw [zff] at H; obtain rfl := Option.some.inj H; obtain ⟨D9, DA, EJ, EK⟩ := zc2 AB; have p111 : 0 ≤ (AA : Int) := zd; have q111 : AA < (l0_0.length : Int) := zd; obtain ⟨ad111, e111, hx111_0, hx111_1, hx111_2, hx111_3, hx111_4, hx111_5⟩ := at_T44 (Kd.C_below HR0_0.out HB.out) AA p111 q111; cases e111; replace p111 := eq_true p111; replace q111 := eq_true q111
      try go_wp2_with (first | ((with_reducible refine gate_dst (N := 4) rfl ?_); refine zbox 4 #[.int .i64 0, .int .i64 0, .int .i64 0, .int .i64 0, .int .i64 0, .string (⟨#[]⟩ : ByteArray)] 44 ?_; intro AD hg Eo hbox hb; have AE := zm (hbox); have AN := zge w hg zB; have AM := zge w hg zB; replace HB := zm (below_step zB hb); have AC := zlt hg (zb AB); have AK := zgt hg (zb AB); replace AB := zy AB hb; clear hb hbox hg; have F4 := AK.out; have FE := AC.out; obtain ⟨DB, DC, DD, DE, DF, DG, EL, EM, EN, EO, EP, EQ⟩ := zc6 AE))
      obtain ⟨Az, hW_⟩ : ∃ q, q = ((((((Eo.setCell ⟨AD, 0, none⟩ (.int .i64 ((rd_T44 l0_0 AA).f0))).setCell ⟨AD, 1, none⟩ (.int .i64 ((rd_T44 l0_0 AA).f1.f0))).setCell ⟨AD, 2, none⟩ (.int .i64 ((rd_T44 l0_0 AA).f1.f1))).setCell ⟨AD, 3, none⟩ (.int .i64 ((rd_T44 l0_0 AA).f1.f2))).setCell ⟨AD, 4, none⟩ (.int .i64 ((rd_T44 l0_0 AA).f1.f3))).setCell ⟨AD, 5, none⟩ (.string ((rd_T44 l0_0 AA).f1.f4))) := ⟨_, rfl⟩
      have n0_ : Aside0 (Az.heap[AJ]? = some (.cells #[.slice (some ad111) l0_0.length c0_0, .slice A0_1 l0_1.length c0_1] 27 (0, 0))) := ⟨by rw [hW_]; exact zfar (zfar (zfar (zfar (zfar (zfar (zb AB) AC) AC) AC) AC) AC) AC⟩; have n1_ : Aside0 (Az.heap[AD]? = some (.cells #[.int .i64 ((rd_T44 l0_0 AA).f0), .int .i64 ((rd_T44 l0_0 AA).f1.f0), .int .i64 ((rd_T44 l0_0 AA).f1.f1), .int .i64 ((rd_T44 l0_0 AA).f1.f2), .int .i64 ((rd_T44 l0_0 AA).f1.f3), .string ((rd_T44 l0_0 AA).f1.f4)] 44 (0, 0))) := ⟨by rw [hW_]; exact zput (zput (zput (zput (zput (zput (zb AE) 0) 1) 2) 3) 4) 5⟩; have n2_ : Aside0 (Below w.heap.size w Az) := ⟨by rw [hW_]; exact zB⟩
      rw [← hW_]
      clear hW_; (try clear AB); (try clear AE); (try clear HB); have AB := n0_; have AE := n1_; have HB := n2_; clear n0_ n1_ n2_; replace AB := zq AB; replace AE := zq AE; replace HB := zm (below_drew1 HB.out)
      refine start_ (n := 36) (S := fun w' => w'.cell? ⟨AD, 0, none⟩ = some (.int .i64 ((rd_T44 l0_0 AA).f0)) ∧ w'.cell? ⟨AD, 1, none⟩ = some (.int .i64 ((rd_T44 l0_0 AA).f1.f0)) ∧ w'.cell? ⟨AD, 2, none⟩ = some (.int .i64 ((rd_T44 l0_0 AA).f1.f1)) ∧ w'.cell? ⟨AD, 3, none⟩ = some (.int .i64 ((rd_T44 l0_0 AA).f1.f2)) ∧ w'.cell? ⟨AD, 4, none⟩ = some (.int .i64 ((rd_T44 l0_0 AA).f1.f3)) ∧ w'.cell? ⟨AD, 5, none⟩ = some (.string ((rd_T44 l0_0 AA).f1.f4))) (ds := []) (zl 36 0) (by kernel_rfl) rfl rfl zS (fun hHeld => ?_); refine with_tabW spec_StateOk.tab5 spec_StateOk.bits5 (fun HT_ HW_ => ?_)
      generalize Az.drew = Fg at AB AE HB hHeld ⊢
      refine zu 0 19 36 1 ?_
      refine zv 1 20 36 3 ?_
      refine zo 2 (some 21) (zl 36 7) (fun K hK => ?_); refine zgo #[.int .i64 ((rd_T44 l0_0 AA).f0)] Try.func64 ?_; (with_reducible refine (spec_l3Node.calls ((rd_T44 l0_0 AA).f0) false _ A5.out).mono ?_); rintro e w' ⟨rfl, ⟨nd, rfl⟩⟩; refine ⟨_, rfl, ?_⟩; refine hK.out _ _ zS (fun hHeld => ?_); clear hK K; refine zn ?_
      refine zu 3 22 36 15 ?_
      refine zu 4 23 36 31 ?_
      refine zu 5 24 36 63 ?_
      refine zu 6 25 36 127 ?_
      refine zu 7 26 36 255 ?_
      refine zu 8 27 36 511 ?_
      refine zu 9 28 36 1023 ?_
      refine zu 10 29 36 2047 ?_
      refine zu 11 30 36 4095 ?_
      refine zu 12 31 36 8191 ?_
      refine zu 13 32 36 16383 ?_
      refine zu 14 33 36 32767 ?_
      refine zu 15 34 36 65535 ?_
      refine zu 16 35 36 131071 ?_
      refine zu 17 36 36 262143 ?_
      refine zu 18 37 36 524287 ?_
      refine zu 19 38 36 1048575 ?_
      refine zu 20 39 36 2097151 ?_
      refine zu 21 40 36 4194303 ?_
      refine zu 22 41 36 8388607 ?_
      refine zu 23 42 36 16777215 ?_
      refine zu 24 43 36 33554431 ?_
      refine zu 25 44 36 67108863 ?_
      refine zu 26 45 36 134217727 ?_
      refine zu 27 46 36 268435455 ?_
      refine zu 28 47 36 536870911 ?_
      refine zu 29 48 36 1073741823 ?_
      refine zu 30 49 36 2147483647 ?_
      refine zu 31 50 36 4294967295 ?_
      refine zu 32 51 36 8589934591 ?_
      refine zu 33 52 36 17179869183 ?_
      refine zu 34 53 36 34359738367 ?_
      refine zu 35 54 36 68719476735 ?_
      refine done_ (done_of HT_.out (by kernel_rfl)) ?_
      try go_wp2
      go_ret
      exact ⟨zE, zB⟩
    ·rw [if_neg c4] at H
     exact absurd H (by simp)
   ·rw [if_neg c3] at H; have BL : decide (AA < (l0_0.length : Int)) = false := decide_eq_false c3; clear c3
    have H' := zm H
    clear H; obtain ⟨B2, B3, BA, BB⟩ := zc2 AB
    go_wp2
    go_loopg [5] k1 (fun kq v5 w' => ∃ (AF : Int), v5 = .int .i64 AF ∧ Aside0 (spec_StateOk.l1 kq AF l0_0 l0_1 = some r) ∧ Aside0 (kq ≤ k1) ∧ Aside0 (w'.heap[AJ]? = some (.cells #[(.slice A0_0 l0_0.length c0_0), (.slice A0_1 l0_1.length c0_1)] 27 (0, 0))) ∧ Aside0 (Below w.heap.size w w'))
    case atStart => exact ⟨(0), zF, H', ⟨Nat.le_refl _⟩, ⟨zb AB⟩, ⟨zB⟩⟩
    case round =>
     clear H'; (try clear c3); (try clear BL); (try clear B2); (try clear B3); (try clear BA); (try clear BB); obtain ⟨AF, rfl, HA, Aj, AB, HB⟩ := hrel
     cases gk with
     | zero => exact absurd HA.out (by simp [spec_StateOk.l1])
     | succ k2 =>
      have H := HA.out; clear HA; simp only [spec_StateOk.l1] at H
      by_cases AX : AF < (l0_1.length : Int)
      ·rw [if_pos AX] at H; have BP : decide (AF < (l0_1.length : Int)) = true := decide_eq_true AX; clear AX
       by_cases An : 0 ≤ AF
       ·rw [if_pos An] at H; have Eu : decide (0 ≤ AF) = true := decide_eq_true An; clear An; replace H := Option.bind_eq_some_iff.mp H; obtain ⟨C9, BJ, H⟩ := H; (try dsimp only at H); have AS := zm BJ; clear BJ
        by_cases Ao : C9 = true
        ·subst Ao; rw [if_pos rfl] at H
         by_cases AY : AF > 0
         ·rw [if_pos AY] at H; have BQ : decide (0 < AF) = true := decide_eq_true AY; clear AY
          obtain ⟨ji84, hji84⟩ : ∃ j_ : Int, (wrap64 (AF - 1)) = j_ := ⟨_, rfl⟩
          replace H : (if 0 ≤ (ji84) then (if (ji84) < (l0_1.length : Int) then (if ((rd_T58 l0_1 AF).f0) ≤ ((rd_T58 l0_1 (ji84)).f0) then (some false) else ((spec_l1In.f ((rd_T58 l0_1 AF).f1) 1 1000).bind fun Ah => (if Ah = true then (spec_StateOk.l1 k2 (wrap64 (AF + 1)) l0_0 l0_1) else (some false)))) else (none)) else (none)) = some r := by first | (rw [hji84] at H; exact H) | (simp only [hji84] at H ⊢; exact H)
          (try rw [hji84] at AS)
          have hji84w : (IntKind.i64.wrap (AF - 1)) = ji84 := (i64_w _).trans hji84
          by_cases Ap : 0 ≤ (ji84)
          ·rw [if_pos Ap] at H; have Ev : decide (0 ≤ (ji84)) = true := decide_eq_true Ap; clear Ap
           by_cases Aq : (ji84) < (l0_1.length : Int)
           ·rw [if_pos Aq] at H; have Ew : decide ((ji84) < (l0_1.length : Int)) = true := decide_eq_true Aq; clear Aq
            by_cases AZ : ((rd_T58 l0_1 AF).f0) ≤ ((rd_T58 l0_1 (ji84)).f0)
            ·rw [if_pos AZ] at H; have BR : decide (((rd_T58 l0_1 AF).f0) ≤ ((rd_T58 l0_1 (ji84)).f0)) = true := decide_eq_true AZ; clear AZ; obtain rfl := Option.some.inj H; obtain ⟨DH, DI, ER, ES⟩ := zc2 AB; have p119 : 0 ≤ (AF : Int) := zd; have q119 : AF < (l0_1.length : Int) := zd; obtain ⟨ad119, e119, hx119_0, hx119_1⟩ := at_T58 (Kd.C_below HR0_1.out HB.out) AF p119 q119; cases e119; replace p119 := eq_true p119; replace q119 := eq_true q119
             try go_wp2_with (first | ((with_reducible refine gate_dst (N := 6) rfl ?_); refine zbox 6 #[.int .i64 0, .int .i64 0] 58 ?_; intro AI hg Ep hbox hb; have AG := zm (hbox); have AQ := zge w hg zB; have AP := zge w hg zB; replace HB := zm (below_step zB hb); have AH := zlt hg (zb AB); have AL := zgt hg (zb AB); replace AB := zy AB hb; clear hb hbox hg; have F5 := AL.out; have FF := AH.out; obtain ⟨DJ, DK, ET, EU⟩ := zc2 AG))
             obtain ⟨B0, hW_⟩ : ∃ q, q = ((Ep.setCell ⟨AI, 0, none⟩ (.int .i64 ((rd_T58 l0_1 AF).f0))).setCell ⟨AI, 1, none⟩ (.int .i64 ((rd_T58 l0_1 AF).f1))) := ⟨_, rfl⟩
             have n0_ : Aside0 (B0.heap[AJ]? = some (.cells #[.slice A0_0 l0_0.length c0_0, .slice (some ad119) l0_1.length c0_1] 27 (0, 0))) := ⟨by rw [hW_]; exact zfar (zfar (zb AB) AH) AH⟩; have n1_ : Aside0 (B0.heap[AI]? = some (.cells #[.int .i64 ((rd_T58 l0_1 AF).f0), .int .i64 ((rd_T58 l0_1 AF).f1)] 58 (0, 0))) := ⟨by rw [hW_]; exact zput (zput (zb AG) 0) 1⟩; have n2_ : Aside0 (Below w.heap.size w B0) := ⟨by rw [hW_]; exact zB⟩
             rw [← hW_]
             clear hW_; (try clear AB); (try clear AG); (try clear HB); have AB := n0_; have AG := n1_; have HB := n2_; clear n0_ n1_ n2_; replace AB := zq AB; replace AG := zq AG; replace HB := zm (below_drew1 HB.out); have p122 : 0 ≤ ((ji84) : Int) := zd; have q122 : (ji84) < (l0_1.length : Int) := zd; obtain ⟨ad122, e122, hx122_0, hx122_1⟩ := at_T58 HR0_1.out (ji84) p122 q122; have hw122_1 := hx122_1; have hw122_0 := hx122_0
             obtain rfl : ad119 = ad122 := (by injection e122)
             replace hx122_0 := zx HB hx122_0; replace hx122_1 := zx HB hx122_1; replace p122 := eq_true p122; replace q122 := eq_true q122
             refine start_ (n := 26) (S := fun w' => w'.cell? ⟨AI, 0, none⟩ = some (.int .i64 ((rd_T58 l0_1 AF).f0)) ∧ w'.cell? ⟨AI, 1, none⟩ = some (.int .i64 ((rd_T58 l0_1 AF).f1)) ∧ w'.cell? ⟨AJ, 0, none⟩ = some (.slice A0_0 l0_0.length c0_0) ∧ w'.cell? ⟨AJ, 1, none⟩ = some (.slice (some ad119) l0_1.length c0_1) ∧ w'.cell? (ad119.add (((ji84)).toNat * 2)) = some (.int .i64 ((rd_T58 l0_1 (ji84)).f0)) ∧ w'.cell? ⟨(ad119.add (((ji84)).toNat * 2)).block, (ad119.add (((ji84)).toNat * 2)).off + 1, none⟩ = some (.int .i64 ((rd_T58 l0_1 (ji84)).f1))) (ds := []) (zl 26 0) (by kernel_rfl) rfl rfl zS (fun hHeld => ?_); refine with_tabW spec_StateOk.tab11 spec_StateOk.bits11 (fun HT_ HW_ => ?_)
             generalize B0.drew = Fh at AB AG HB hx122_0 hx122_1 hHeld ⊢
             refine zu 0 67 26 1 ?_
             refine zv 1 68 26 3 ?_
             refine zo 2 (some 69) (zl 26 7) (fun K hK => ?_); refine zgo #[.int .i64 ((rd_T58 l0_1 AF).f0)] Try.func64 ?_; (with_reducible refine (spec_l3Node.calls ((rd_T58 l0_1 AF).f0) true _ AS.out).mono ?_); rintro e w' ⟨rfl, ⟨nd, rfl⟩⟩; refine ⟨_, rfl, ?_⟩; refine hK.out _ _ zS (fun hHeld => ?_); clear hK K; refine zn ?_
             refine zu 3 70 26 15 ?_
             refine zu 4 71 26 31 ?_
             refine zu 5 72 26 63 ?_
             refine zu 6 73 26 127 ?_
             refine zu 7 74 26 255 ?_
             refine zu 8 75 26 511 ?_
             refine zu 10 77 26 1535 ?_
             refine zu 12 79 26 5631 ?_
             refine zu 13 80 26 13823 ?_
             refine zv 9 76 26 14335 ?_
             refine zv 11 78 26 16383 ?_
             refine zu 14 81 26 32767 ?_
             refine zu 15 82 26 65535 ?_
             refine zv 16 83 26 131071 ?_
             refine zu 17 84 26 262143 ?_
             refine zu 18 85 26 524287 ?_
             refine zu 19 86 26 1048575 ?_
             refine zu 20 87 26 2097151 ?_
             refine zu 21 88 26 4194303 ?_
             refine zu 22 89 26 8388607 ?_
             refine zu 23 90 26 16777215 ?_
             refine zu 24 91 26 33554431 ?_
             refine zu 25 92 26 67108863 ?_
             refine done_ (done_of HT_.out (by kernel_rfl)) ?_
             try go_wp2
             go_ret
             exact ⟨by first | rfl | (simp [errW_none, errW_some] <;> rfl) | (simp only [← hji84]; first | rfl | (simp [errW_none, errW_some] <;> rfl)) | (simp [*, errW_none, errW_some] <;> rfl), zB⟩
            ·rw [if_neg AZ] at H; have BR : decide (((rd_T58 l0_1 AF).f0) ≤ ((rd_T58 l0_1 (ji84)).f0)) = false := decide_eq_false AZ; clear AZ; replace H := Option.bind_eq_some_iff.mp H; obtain ⟨Ah, BK, H⟩ := H; (try dsimp only at H); have BV := zm BK; clear BK
             by_cases Ar : Ah = true
             ·subst Ar; rw [if_pos rfl] at H
              have H' := zm H
              clear H; obtain ⟨DL, DM, EV, EW⟩ := zc2 AB; have p119 : 0 ≤ (AF : Int) := zd; have q119 : AF < (l0_1.length : Int) := zd; obtain ⟨ad119, e119, hx119_0, hx119_1⟩ := at_T58 (Kd.C_below HR0_1.out HB.out) AF p119 q119; cases e119; replace p119 := eq_true p119; replace q119 := eq_true q119
              try go_wp2_with (first | ((with_reducible refine gate_dst (N := 6) rfl ?_); refine zbox 6 #[.int .i64 0, .int .i64 0] 58 ?_; intro AI hg Eq hbox hb; have AG := zm (hbox); have AQ := zge w hg zB; have AP := zge w hg zB; replace HB := zm (below_step zB hb); have AH := zlt hg (zb AB); have AL := zgt hg (zb AB); replace AB := zy AB hb; clear hb hbox hg; have F6 := AL.out; have FG := AH.out; obtain ⟨DN, DO, EX, EY⟩ := zc2 AG))
              obtain ⟨Ab, hW_⟩ : ∃ q, q = ((Eq.setCell ⟨AI, 0, none⟩ (.int .i64 ((rd_T58 l0_1 AF).f0))).setCell ⟨AI, 1, none⟩ (.int .i64 ((rd_T58 l0_1 AF).f1))) := ⟨_, rfl⟩
              have n0_ : Aside0 (Ab.heap[AJ]? = some (.cells #[.slice A0_0 l0_0.length c0_0, .slice (some ad119) l0_1.length c0_1] 27 (0, 0))) := ⟨by rw [hW_]; exact zfar (zfar (zb AB) AH) AH⟩; have n1_ : Aside0 (Ab.heap[AI]? = some (.cells #[.int .i64 ((rd_T58 l0_1 AF).f0), .int .i64 ((rd_T58 l0_1 AF).f1)] 58 (0, 0))) := ⟨by rw [hW_]; exact zput (zput (zb AG) 0) 1⟩; have n2_ : Aside0 (Below w.heap.size w Ab) := ⟨by rw [hW_]; exact zB⟩
              rw [← hW_]
              clear hW_; (try clear AB); (try clear AG); (try clear HB); have AB := n0_; have AG := n1_; have HB := n2_; clear n0_ n1_ n2_; replace AB := zq AB; replace AG := zq AG; replace HB := zm (below_drew1 HB.out); have p122 : 0 ≤ ((ji84) : Int) := zd; have q122 : (ji84) < (l0_1.length : Int) := zd; obtain ⟨ad122, e122, hx122_0, hx122_1⟩ := at_T58 HR0_1.out (ji84) p122 q122; have hw122_1 := hx122_1; have hw122_0 := hx122_0
              obtain rfl : ad119 = ad122 := (by injection e122)
              replace hx122_0 := zx HB hx122_0; replace hx122_1 := zx HB hx122_1; replace p122 := eq_true p122; replace q122 := eq_true q122
              refine start_ (n := 26) (S := fun w' => w'.cell? ⟨AI, 0, none⟩ = some (.int .i64 ((rd_T58 l0_1 AF).f0)) ∧ w'.cell? ⟨AI, 1, none⟩ = some (.int .i64 ((rd_T58 l0_1 AF).f1)) ∧ w'.cell? ⟨AJ, 0, none⟩ = some (.slice A0_0 l0_0.length c0_0) ∧ w'.cell? ⟨AJ, 1, none⟩ = some (.slice (some ad119) l0_1.length c0_1) ∧ w'.cell? (ad119.add (((ji84)).toNat * 2)) = some (.int .i64 ((rd_T58 l0_1 (ji84)).f0)) ∧ w'.cell? ⟨(ad119.add (((ji84)).toNat * 2)).block, (ad119.add (((ji84)).toNat * 2)).off + 1, none⟩ = some (.int .i64 ((rd_T58 l0_1 (ji84)).f1))) (ds := []) (zl 26 0) (by kernel_rfl) rfl rfl zS (fun hHeld => ?_); refine with_tabW spec_StateOk.tab11 spec_StateOk.bits11 (fun HT_ HW_ => ?_)
              generalize Ab.drew = FJ at AB AG HB hx122_0 hx122_1 hHeld ⊢
              refine zu 0 67 26 1 ?_
              refine zv 1 68 26 3 ?_
              refine zo 2 (some 69) (zl 26 7) (fun K hK => ?_); refine zgo #[.int .i64 ((rd_T58 l0_1 AF).f0)] Try.func64 ?_; (with_reducible refine (spec_l3Node.calls ((rd_T58 l0_1 AF).f0) true _ AS.out).mono ?_); rintro e w' ⟨rfl, ⟨nd, rfl⟩⟩; refine ⟨_, rfl, ?_⟩; refine hK.out _ _ zS (fun hHeld => ?_); clear hK K; refine zn ?_
              refine zu 3 70 26 15 ?_
              refine zu 4 71 26 31 ?_
              refine zu 5 72 26 63 ?_
              refine zu 6 73 26 127 ?_
              refine zu 7 74 26 255 ?_
              refine zu 8 75 26 511 ?_
              refine zu 10 77 26 1535 ?_
              refine zu 12 79 26 5631 ?_
              refine zu 13 80 26 13823 ?_
              refine zv 9 76 26 14335 ?_
              refine zv 11 78 26 16383 ?_
              refine zu 14 81 26 32767 ?_
              refine zu 15 82 26 65535 ?_
              refine zv 16 83 26 131071 ?_
              refine zu 17 84 26 262143 ?_
              refine zu 18 85 26 524287 ?_
              refine zu 19 86 26 1048575 ?_
              refine zu 20 87 26 2097151 ?_
              refine zu 21 88 26 4194303 ?_
              refine zv 22 89 26 8388607 ?_
              refine zo 23 (some 90) (zl 26 16777215) (fun K hK => ?_); refine zgo #[.int .i64 ((rd_T58 l0_1 AF).f1), .int .i64 1, .int .i64 1000] Try.func66 ?_; (with_reducible refine (spec_l1In.calls ((rd_T58 l0_1 AF).f1) 1 1000 true _ BV.out).mono ?_); rintro e w' ⟨rfl, ⟨nd, rfl⟩⟩; refine ⟨_, rfl, ?_⟩; refine hK.out _ _ zS (fun hHeld => ?_); clear hK K; refine zn ?_
              refine zu 24 91 26 33554431 ?_
              refine zu 25 92 26 67108863 ?_
              refine done_ (done_of HT_.out (by kernel_rfl)) ?_
              try go_wp2
              go_roundg k2
              case measure => have := AR.out; have := Aj.out; omega
              case rel => exact ⟨(wrap64 (AF + 1)), zF, H', ⟨by have := AR.out; have := Aj.out; omega⟩, ⟨zb AB⟩, ⟨zB⟩⟩
             ·replace Ar := Bool.eq_false_iff.mpr Ar; subst Ar; rw [zff] at H; obtain rfl := Option.some.inj H; obtain ⟨BX, BY, Bp, Bq⟩ := zc2 AB; have p119 : 0 ≤ (AF : Int) := zd; have q119 : AF < (l0_1.length : Int) := zd; obtain ⟨ad119, e119, hx119_0, hx119_1⟩ := at_T58 (Kd.C_below HR0_1.out HB.out) AF p119 q119; cases e119; replace p119 := eq_true p119; replace q119 := eq_true q119
              try go_wp2_with (first | ((with_reducible refine gate_dst (N := 6) rfl ?_); refine zbox 6 #[.int .i64 0, .int .i64 0] 58 ?_; intro AI hg CB hbox hb; have AG := zm (hbox); have AQ := zge w hg zB; have AP := zge w hg zB; replace HB := zm (below_step zB hb); have AH := zlt hg (zb AB); have AL := zgt hg (zb AB); replace AB := zy AB hb; clear hb hbox hg; have EZ := AL.out; have Ed := AH.out; obtain ⟨BZ, Ba, Br, Bs⟩ := zc2 AG))
              obtain ⟨Ac, hW_⟩ : ∃ q, q = ((CB.setCell ⟨AI, 0, none⟩ (.int .i64 ((rd_T58 l0_1 AF).f0))).setCell ⟨AI, 1, none⟩ (.int .i64 ((rd_T58 l0_1 AF).f1))) := ⟨_, rfl⟩
              have n0_ : Aside0 (Ac.heap[AJ]? = some (.cells #[.slice A0_0 l0_0.length c0_0, .slice (some ad119) l0_1.length c0_1] 27 (0, 0))) := ⟨by rw [hW_]; exact zfar (zfar (zb AB) AH) AH⟩; have n1_ : Aside0 (Ac.heap[AI]? = some (.cells #[.int .i64 ((rd_T58 l0_1 AF).f0), .int .i64 ((rd_T58 l0_1 AF).f1)] 58 (0, 0))) := ⟨by rw [hW_]; exact zput (zput (zb AG) 0) 1⟩; have n2_ : Aside0 (Below w.heap.size w Ac) := ⟨by rw [hW_]; exact zB⟩
              rw [← hW_]
              clear hW_; (try clear AB); (try clear AG); (try clear HB); have AB := n0_; have AG := n1_; have HB := n2_; clear n0_ n1_ n2_; replace AB := zq AB; replace AG := zq AG; replace HB := zm (below_drew1 HB.out); have p122 : 0 ≤ ((ji84) : Int) := zd; have q122 : (ji84) < (l0_1.length : Int) := zd; obtain ⟨ad122, e122, hx122_0, hx122_1⟩ := at_T58 HR0_1.out (ji84) p122 q122; have hw122_1 := hx122_1; have hw122_0 := hx122_0
              obtain rfl : ad119 = ad122 := (by injection e122)
              replace hx122_0 := zx HB hx122_0; replace hx122_1 := zx HB hx122_1; replace p122 := eq_true p122; replace q122 := eq_true q122
              refine start_ (n := 26) (S := fun w' => w'.cell? ⟨AI, 0, none⟩ = some (.int .i64 ((rd_T58 l0_1 AF).f0)) ∧ w'.cell? ⟨AI, 1, none⟩ = some (.int .i64 ((rd_T58 l0_1 AF).f1)) ∧ w'.cell? ⟨AJ, 0, none⟩ = some (.slice A0_0 l0_0.length c0_0) ∧ w'.cell? ⟨AJ, 1, none⟩ = some (.slice (some ad119) l0_1.length c0_1) ∧ w'.cell? (ad119.add (((ji84)).toNat * 2)) = some (.int .i64 ((rd_T58 l0_1 (ji84)).f0)) ∧ w'.cell? ⟨(ad119.add (((ji84)).toNat * 2)).block, (ad119.add (((ji84)).toNat * 2)).off + 1, none⟩ = some (.int .i64 ((rd_T58 l0_1 (ji84)).f1))) (ds := []) (zl 26 0) (by kernel_rfl) rfl rfl zS (fun hHeld => ?_); refine with_tabW spec_StateOk.tab11 spec_StateOk.bits11 (fun HT_ HW_ => ?_)
              generalize Ac.drew = FL at AB AG HB hx122_0 hx122_1 hHeld ⊢
              refine zu 0 67 26 1 ?_
              refine zv 1 68 26 3 ?_
              refine zo 2 (some 69) (zl 26 7) (fun K hK => ?_); refine zgo #[.int .i64 ((rd_T58 l0_1 AF).f0)] Try.func64 ?_; (with_reducible refine (spec_l3Node.calls ((rd_T58 l0_1 AF).f0) true _ AS.out).mono ?_); rintro e w' ⟨rfl, ⟨nd, rfl⟩⟩; refine ⟨_, rfl, ?_⟩; refine hK.out _ _ zS (fun hHeld => ?_); clear hK K; refine zn ?_
              refine zu 3 70 26 15 ?_
              refine zu 4 71 26 31 ?_
              refine zu 5 72 26 63 ?_
              refine zu 6 73 26 127 ?_
              refine zu 7 74 26 255 ?_
              refine zu 8 75 26 511 ?_
              refine zu 10 77 26 1535 ?_
              refine zu 12 79 26 5631 ?_
              refine zu 13 80 26 13823 ?_
              refine zv 9 76 26 14335 ?_
              refine zv 11 78 26 16383 ?_
              refine zu 14 81 26 32767 ?_
              refine zu 15 82 26 65535 ?_
              refine zv 16 83 26 131071 ?_
              refine zu 17 84 26 262143 ?_
              refine zu 18 85 26 524287 ?_
              refine zu 19 86 26 1048575 ?_
              refine zu 20 87 26 2097151 ?_
              refine zu 21 88 26 4194303 ?_
              refine zv 22 89 26 8388607 ?_
              refine zo 23 (some 90) (zl 26 16777215) (fun K hK => ?_); refine zgo #[.int .i64 ((rd_T58 l0_1 AF).f1), .int .i64 1, .int .i64 1000] Try.func66 ?_; (with_reducible refine (spec_l1In.calls ((rd_T58 l0_1 AF).f1) 1 1000 false _ BV.out).mono ?_); rintro e w' ⟨rfl, ⟨nd, rfl⟩⟩; refine ⟨_, rfl, ?_⟩; refine hK.out _ _ zS (fun hHeld => ?_); clear hK K; refine zn ?_
              refine zu 24 91 26 33554431 ?_
              refine zu 25 92 26 67108863 ?_
              refine done_ (done_of HT_.out (by kernel_rfl)) ?_
              try go_wp2
              go_ret
              exact ⟨by first | rfl | (simp [errW_none, errW_some] <;> rfl) | (simp only [← hji84]; first | rfl | (simp [errW_none, errW_some] <;> rfl)) | (simp [*, errW_none, errW_some] <;> rfl), zB⟩
           ·rw [if_neg Aq] at H
            exact absurd H (by simp)
          ·rw [if_neg Ap] at H
           exact absurd H (by simp)
         ·rw [if_neg AY] at H; have BQ : decide (0 < AF) = false := decide_eq_false AY; clear AY; replace H := Option.bind_eq_some_iff.mp H; obtain ⟨CA, Ai, H⟩ := H; (try dsimp only at H); have BC := zm Ai; clear Ai
          by_cases Aa : CA = true
          ·subst Aa; rw [if_pos rfl] at H
           have H' := zm H
           clear H; obtain ⟨Bb, Bc, Bt, Bu⟩ := zc2 AB; have p119 : 0 ≤ (AF : Int) := zd; have q119 : AF < (l0_1.length : Int) := zd; obtain ⟨ad119, e119, hx119_0, hx119_1⟩ := at_T58 (Kd.C_below HR0_1.out HB.out) AF p119 q119; cases e119; replace p119 := eq_true p119; replace q119 := eq_true q119
           try go_wp2_with (first | ((with_reducible refine gate_dst (N := 6) rfl ?_); refine zbox 6 #[.int .i64 0, .int .i64 0] 58 ?_; intro AI hg CC hbox hb; have AG := zm (hbox); have AQ := zge w hg zB; have AP := zge w hg zB; replace HB := zm (below_step zB hb); have AH := zlt hg (zb AB); have AL := zgt hg (zb AB); replace AB := zy AB hb; clear hb hbox hg; have Ea := AL.out; have Ee := AH.out; obtain ⟨Bd, Be, Bv, Bw⟩ := zc2 AG))
           obtain ⟨Ad, hW_⟩ : ∃ q, q = ((CC.setCell ⟨AI, 0, none⟩ (.int .i64 ((rd_T58 l0_1 AF).f0))).setCell ⟨AI, 1, none⟩ (.int .i64 ((rd_T58 l0_1 AF).f1))) := ⟨_, rfl⟩
           have n0_ : Aside0 (Ad.heap[AJ]? = some (.cells #[.slice A0_0 l0_0.length c0_0, .slice (some ad119) l0_1.length c0_1] 27 (0, 0))) := ⟨by rw [hW_]; exact zfar (zfar (zb AB) AH) AH⟩; have n1_ : Aside0 (Ad.heap[AI]? = some (.cells #[.int .i64 ((rd_T58 l0_1 AF).f0), .int .i64 ((rd_T58 l0_1 AF).f1)] 58 (0, 0))) := ⟨by rw [hW_]; exact zput (zput (zb AG) 0) 1⟩; have n2_ : Aside0 (Below w.heap.size w Ad) := ⟨by rw [hW_]; exact zB⟩
           rw [← hW_]
           clear hW_; (try clear AB); (try clear AG); (try clear HB); have AB := n0_; have AG := n1_; have HB := n2_; clear n0_ n1_ n2_; replace AB := zq AB; replace AG := zq AG; replace HB := zm (below_drew1 HB.out)
           refine start_ (n := 26) (S := fun w' => w'.cell? ⟨AI, 0, none⟩ = some (.int .i64 ((rd_T58 l0_1 AF).f0)) ∧ w'.cell? ⟨AI, 1, none⟩ = some (.int .i64 ((rd_T58 l0_1 AF).f1))) (ds := []) (zl 26 0) (by kernel_rfl) rfl rfl zS (fun hHeld => ?_); refine with_tabW spec_StateOk.tab11 spec_StateOk.bits11 (fun HT_ HW_ => ?_)
           generalize Ad.drew = FM at AB AG HB hHeld ⊢
           refine zu 0 67 26 1 ?_
           refine zv 1 68 26 3 ?_
           refine zo 2 (some 69) (zl 26 7) (fun K hK => ?_); refine zgo #[.int .i64 ((rd_T58 l0_1 AF).f0)] Try.func64 ?_; (with_reducible refine (spec_l3Node.calls ((rd_T58 l0_1 AF).f0) true _ AS.out).mono ?_); rintro e w' ⟨rfl, ⟨nd, rfl⟩⟩; refine ⟨_, rfl, ?_⟩; refine hK.out _ _ zS (fun hHeld => ?_); clear hK K; refine zn ?_
           refine zu 3 70 26 15 ?_
           refine zu 4 71 26 31 ?_
           refine zu 5 72 26 63 ?_
           refine zu 6 73 26 127 ?_
           refine zu 7 74 26 255 ?_
           refine zu 8 75 26 511 ?_
           refine zu 9 76 26 1023 ?_
           refine zu 10 77 26 2047 ?_
           refine zu 11 78 26 4095 ?_
           refine zu 12 79 26 8191 ?_
           refine zu 13 80 26 16383 ?_
           refine zu 14 81 26 32767 ?_
           refine zu 15 82 26 65535 ?_
           refine zu 16 83 26 131071 ?_
           refine zu 17 84 26 262143 ?_
           refine zu 18 85 26 524287 ?_
           refine zu 19 86 26 1048575 ?_
           refine zu 20 87 26 2097151 ?_
           refine zu 21 88 26 4194303 ?_
           refine zv 22 89 26 8388607 ?_
           refine zo 23 (some 90) (zl 26 16777215) (fun K hK => ?_); refine zgo #[.int .i64 ((rd_T58 l0_1 AF).f1), .int .i64 1, .int .i64 1000] Try.func66 ?_; (with_reducible refine (spec_l1In.calls ((rd_T58 l0_1 AF).f1) 1 1000 true _ BC.out).mono ?_); rintro e w' ⟨rfl, ⟨nd, rfl⟩⟩; refine ⟨_, rfl, ?_⟩; refine hK.out _ _ zS (fun hHeld => ?_); clear hK K; refine zn ?_
           refine zu 24 91 26 33554431 ?_
           refine zu 25 92 26 67108863 ?_
           refine done_ (done_of HT_.out (by kernel_rfl)) ?_
           try go_wp2
           go_roundg k2
           case measure => have := AR.out; have := Aj.out; omega
           case rel => exact ⟨(wrap64 (AF + 1)), zF, H', ⟨by have := AR.out; have := Aj.out; omega⟩, ⟨zb AB⟩, ⟨zB⟩⟩
          ·replace Aa := Bool.eq_false_iff.mpr Aa; subst Aa; rw [zff] at H; obtain rfl := Option.some.inj H; obtain ⟨Bf, Bg, Bx, By⟩ := zc2 AB; have p119 : 0 ≤ (AF : Int) := zd; have q119 : AF < (l0_1.length : Int) := zd; obtain ⟨ad119, e119, hx119_0, hx119_1⟩ := at_T58 (Kd.C_below HR0_1.out HB.out) AF p119 q119; cases e119; replace p119 := eq_true p119; replace q119 := eq_true q119
           try go_wp2_with (first | ((with_reducible refine gate_dst (N := 6) rfl ?_); refine zbox 6 #[.int .i64 0, .int .i64 0] 58 ?_; intro AI hg CD hbox hb; have AG := zm (hbox); have AQ := zge w hg zB; have AP := zge w hg zB; replace HB := zm (below_step zB hb); have AH := zlt hg (zb AB); have AL := zgt hg (zb AB); replace AB := zy AB hb; clear hb hbox hg; have Eb := AL.out; have Ef := AH.out; obtain ⟨Bh, Bi, Bz, C0⟩ := zc2 AG))
           obtain ⟨Ae, hW_⟩ : ∃ q, q = ((CD.setCell ⟨AI, 0, none⟩ (.int .i64 ((rd_T58 l0_1 AF).f0))).setCell ⟨AI, 1, none⟩ (.int .i64 ((rd_T58 l0_1 AF).f1))) := ⟨_, rfl⟩
           have n0_ : Aside0 (Ae.heap[AJ]? = some (.cells #[.slice A0_0 l0_0.length c0_0, .slice (some ad119) l0_1.length c0_1] 27 (0, 0))) := ⟨by rw [hW_]; exact zfar (zfar (zb AB) AH) AH⟩; have n1_ : Aside0 (Ae.heap[AI]? = some (.cells #[.int .i64 ((rd_T58 l0_1 AF).f0), .int .i64 ((rd_T58 l0_1 AF).f1)] 58 (0, 0))) := ⟨by rw [hW_]; exact zput (zput (zb AG) 0) 1⟩; have n2_ : Aside0 (Below w.heap.size w Ae) := ⟨by rw [hW_]; exact zB⟩
           rw [← hW_]
           clear hW_; (try clear AB); (try clear AG); (try clear HB); have AB := n0_; have AG := n1_; have HB := n2_; clear n0_ n1_ n2_; replace AB := zq AB; replace AG := zq AG; replace HB := zm (below_drew1 HB.out)
           refine start_ (n := 26) (S := fun w' => w'.cell? ⟨AI, 0, none⟩ = some (.int .i64 ((rd_T58 l0_1 AF).f0)) ∧ w'.cell? ⟨AI, 1, none⟩ = some (.int .i64 ((rd_T58 l0_1 AF).f1))) (ds := []) (zl 26 0) (by kernel_rfl) rfl rfl zS (fun hHeld => ?_); refine with_tabW spec_StateOk.tab11 spec_StateOk.bits11 (fun HT_ HW_ => ?_)
           generalize Ae.drew = FN at AB AG HB hHeld ⊢
           refine zu 0 67 26 1 ?_
           refine zv 1 68 26 3 ?_
           refine zo 2 (some 69) (zl 26 7) (fun K hK => ?_); refine zgo #[.int .i64 ((rd_T58 l0_1 AF).f0)] Try.func64 ?_; (with_reducible refine (spec_l3Node.calls ((rd_T58 l0_1 AF).f0) true _ AS.out).mono ?_); rintro e w' ⟨rfl, ⟨nd, rfl⟩⟩; refine ⟨_, rfl, ?_⟩; refine hK.out _ _ zS (fun hHeld => ?_); clear hK K; refine zn ?_
           refine zu 3 70 26 15 ?_
           refine zu 4 71 26 31 ?_
           refine zu 5 72 26 63 ?_
           refine zu 6 73 26 127 ?_
           refine zu 7 74 26 255 ?_
           refine zu 8 75 26 511 ?_
           refine zu 9 76 26 1023 ?_
           refine zu 10 77 26 2047 ?_
           refine zu 11 78 26 4095 ?_
           refine zu 12 79 26 8191 ?_
           refine zu 13 80 26 16383 ?_
           refine zu 14 81 26 32767 ?_
           refine zu 15 82 26 65535 ?_
           refine zu 16 83 26 131071 ?_
           refine zu 17 84 26 262143 ?_
           refine zu 18 85 26 524287 ?_
           refine zu 19 86 26 1048575 ?_
           refine zu 20 87 26 2097151 ?_
           refine zu 21 88 26 4194303 ?_
           refine zv 22 89 26 8388607 ?_
           refine zo 23 (some 90) (zl 26 16777215) (fun K hK => ?_); refine zgo #[.int .i64 ((rd_T58 l0_1 AF).f1), .int .i64 1, .int .i64 1000] Try.func66 ?_; (with_reducible refine (spec_l1In.calls ((rd_T58 l0_1 AF).f1) 1 1000 false _ BC.out).mono ?_); rintro e w' ⟨rfl, ⟨nd, rfl⟩⟩; refine ⟨_, rfl, ?_⟩; refine hK.out _ _ zS (fun hHeld => ?_); clear hK K; refine zn ?_
           refine zu 24 91 26 33554431 ?_
           refine zu 25 92 26 67108863 ?_
           refine done_ (done_of HT_.out (by kernel_rfl)) ?_
           try go_wp2
           go_ret
           exact ⟨zE, zB⟩
        ·replace Ao := Bool.eq_false_iff.mpr Ao; subst Ao; rw [zff] at H; obtain rfl := Option.some.inj H; obtain ⟨Bj, Bk, C1, C2⟩ := zc2 AB; have p119 : 0 ≤ (AF : Int) := zd; have q119 : AF < (l0_1.length : Int) := zd; obtain ⟨ad119, e119, hx119_0, hx119_1⟩ := at_T58 (Kd.C_below HR0_1.out HB.out) AF p119 q119; cases e119; replace p119 := eq_true p119; replace q119 := eq_true q119
         try go_wp2_with (first | ((with_reducible refine gate_dst (N := 6) rfl ?_); refine zbox 6 #[.int .i64 0, .int .i64 0] 58 ?_; intro AI hg CE hbox hb; have AG := zm (hbox); have AQ := zge w hg zB; have AP := zge w hg zB; replace HB := zm (below_step zB hb); have AH := zlt hg (zb AB); have AL := zgt hg (zb AB); replace AB := zy AB hb; clear hb hbox hg; have Ec := AL.out; have Eg := AH.out; obtain ⟨Bl, Bm, C3, C4⟩ := zc2 AG))
         obtain ⟨Af, hW_⟩ : ∃ q, q = ((CE.setCell ⟨AI, 0, none⟩ (.int .i64 ((rd_T58 l0_1 AF).f0))).setCell ⟨AI, 1, none⟩ (.int .i64 ((rd_T58 l0_1 AF).f1))) := ⟨_, rfl⟩
         have n0_ : Aside0 (Af.heap[AJ]? = some (.cells #[.slice A0_0 l0_0.length c0_0, .slice (some ad119) l0_1.length c0_1] 27 (0, 0))) := ⟨by rw [hW_]; exact zfar (zfar (zb AB) AH) AH⟩; have n1_ : Aside0 (Af.heap[AI]? = some (.cells #[.int .i64 ((rd_T58 l0_1 AF).f0), .int .i64 ((rd_T58 l0_1 AF).f1)] 58 (0, 0))) := ⟨by rw [hW_]; exact zput (zput (zb AG) 0) 1⟩; have n2_ : Aside0 (Below w.heap.size w Af) := ⟨by rw [hW_]; exact zB⟩
         rw [← hW_]
         clear hW_; (try clear AB); (try clear AG); (try clear HB); have AB := n0_; have AG := n1_; have HB := n2_; clear n0_ n1_ n2_; replace AB := zq AB; replace AG := zq AG; replace HB := zm (below_drew1 HB.out)
         refine start_ (n := 26) (S := fun w' => w'.cell? ⟨AI, 0, none⟩ = some (.int .i64 ((rd_T58 l0_1 AF).f0)) ∧ w'.cell? ⟨AI, 1, none⟩ = some (.int .i64 ((rd_T58 l0_1 AF).f1))) (ds := []) (zl 26 0) (by kernel_rfl) rfl rfl zS (fun hHeld => ?_); refine with_tabW spec_StateOk.tab11 spec_StateOk.bits11 (fun HT_ HW_ => ?_)
         generalize Af.drew = FO at AB AG HB hHeld ⊢
         refine zu 0 67 26 1 ?_
         refine zv 1 68 26 3 ?_
         refine zo 2 (some 69) (zl 26 7) (fun K hK => ?_); refine zgo #[.int .i64 ((rd_T58 l0_1 AF).f0)] Try.func64 ?_; (with_reducible refine (spec_l3Node.calls ((rd_T58 l0_1 AF).f0) false _ AS.out).mono ?_); rintro e w' ⟨rfl, ⟨nd, rfl⟩⟩; refine ⟨_, rfl, ?_⟩; refine hK.out _ _ zS (fun hHeld => ?_); clear hK K; refine zn ?_
         refine zu 3 70 26 15 ?_
         refine zu 4 71 26 31 ?_
         refine zu 5 72 26 63 ?_
         refine zu 6 73 26 127 ?_
         refine zu 7 74 26 255 ?_
         refine zu 8 75 26 511 ?_
         refine zu 9 76 26 1023 ?_
         refine zu 10 77 26 2047 ?_
         refine zu 11 78 26 4095 ?_
         refine zu 12 79 26 8191 ?_
         refine zu 13 80 26 16383 ?_
         refine zu 14 81 26 32767 ?_
         refine zu 15 82 26 65535 ?_
         refine zu 16 83 26 131071 ?_
         refine zu 17 84 26 262143 ?_
         refine zu 18 85 26 524287 ?_
         refine zu 19 86 26 1048575 ?_
         refine zu 20 87 26 2097151 ?_
         refine zu 21 88 26 4194303 ?_
         refine zu 22 89 26 8388607 ?_
         refine zu 23 90 26 16777215 ?_
         refine zu 24 91 26 33554431 ?_
         refine zu 25 92 26 67108863 ?_
         refine done_ (done_of HT_.out (by kernel_rfl)) ?_
         try go_wp2
         go_ret
         exact ⟨zE, zB⟩
       ·rw [if_neg An] at H
        exact absurd H (by simp)
      ·rw [if_neg AX] at H; have BP : decide (AF < (l0_1.length : Int)) = false := decide_eq_false AX; clear AX; obtain rfl := Option.some.inj H; obtain ⟨Bn, Bo, C5, C6⟩ := zc2 AB
       go_wp2
       go_ret
       exact ⟨zE, zB⟩

end Go.Proofs.Ytnmofppbijmhoaa.P
