-- by a program of this session, for this seat
import Derived.Test.YtgapdegniepjiaaZ
import Derived.Test.YtgapdegniepjiaaP0
import Derived.Test.YtgapdegniepjiaaPac
import Derived.Test.YtgapdegniepjiaaPad
namespace Go.Proofs.Ytgapdegniepjiaa.P
open Go.RowKit Go.Proofs.YtgapdegniepjiaaW.PrintWords Go.Proofs.YtgapdegniepjiaaW.PrintLast Go.Proofs.YtgapdegniepjiaaW.PrintMore Go.Proofs.Ytgapdegniepjiaa.Z
attribute [local go_sem] max2_int min2_int max_two min_two max_three min_three max_four min_four   -- for this text's walks alone
set_option linter.unusedVariables false
set_option linter.unusedSimpArgs false

/-! ### impl_StateOk: function 53 -/
mutual
def impl_StateOk.l0 : Nat → List (S72) → Int → Int → List (S68) → List (S72) → Option (Bool)
 | 0, _, _, _, _, _ => none
 | k + 1, x8, x9, x10, x245000, x245001 => if x10 < x9 then (if 0 ≤ x10 then (if x10 < (x8.length : Int) then ((impl_isNode.f ((rd_T72 x8 x10).f0)).bind fun t247 => (if t247 = true then ((impl_within.f ((rd_T72 x8 x10).f1) 1 1000).bind fun t248 => (if t248 = true then (if x10 > 0 then (if 0 ≤ (wrap64 (x10 - 1)) then (if (wrap64 (x10 - 1)) < (x245001.length : Int) then (if ((rd_T72 x245001 (wrap64 (x10 - 1))).f0) ≥ ((rd_T72 x8 x10).f0) then (some false) else (impl_StateOk.l0 k x8 x9 (wrap64 (x10 + 1)) x245000 x245001)) else (none)) else (none)) else (impl_StateOk.l0 k x8 x9 (wrap64 (x10 + 1)) x245000 x245001)) else (some false))) else (some false))) else (none)) else (none)) else (impl_StateOk.l1 k x245000 (x245000.length : Int) 0 x245000 x245001)
def impl_StateOk.l1 : Nat → List (S68) → Int → Int → List (S68) → List (S72) → Option (Bool)
 | 0, _, _, _, _, _ => none
 | k + 1, x43, x44, x45, x245000, x245001 => if x45 < x44 then (if 0 ≤ x45 then (if x45 < (x43.length : Int) then ((impl_isNode.f ((rd_T68 x43 x45).f0)).bind fun t252 => (if t252 = true then ((impl_EntryOk.f ((rd_T68 x43 x45).f1.f0) ((rd_T68 x43 x45).f1.f1) ((rd_T68 x43 x45).f1.f2) ((rd_T68 x43 x45).f1.f3) ((rd_T68 x43 x45).f1.f4)).bind fun t253 => (if t253 = true then ((impl_FloorOf.f k x245000 x245001 ((rd_T68 x43 x45).f0)).bind fun t254 => (if ((rd_T68 x43 x45).f1.f0) ≤ t254 then (some false) else (if x45 > 0 then (if 0 ≤ (wrap64 (x45 - 1)) then (if (wrap64 (x45 - 1)) < (x245000.length : Int) then (if ((rd_T68 x245000 (wrap64 (x45 - 1))).f0) ≥ ((rd_T68 x43 x45).f0) then (some false) else (impl_StateOk.l1 k x43 x44 (wrap64 (x45 + 1)) x245000 x245001)) else (none)) else (none)) else (impl_StateOk.l1 k x43 x44 (wrap64 (x45 + 1)) x245000 x245001)))) else (some false))) else (some false))) else (none)) else (none)) else (some true)
end
def impl_StateOk.f (k : Nat) (l0_0 : List (S68)) (l0_1 : List (S72)) : Option (Bool) := impl_StateOk.l0 k l0_1 (l0_1.length : Int) 0 l0_0 l0_1
theorem impl_StateOk.mono_l : ∀ k, (∀ y0 y1 y2 y3 y4, LeO (impl_StateOk.l0 k y0 y1 y2 y3 y4) (impl_StateOk.l0 (k + 1) y0 y1 y2 y3 y4)) ∧ (∀ y0 y1 y2 y3 y4, LeO (impl_StateOk.l1 k y0 y1 y2 y3 y4) (impl_StateOk.l1 (k + 1) y0 y1 y2 y3 y4))
 | 0 => ⟨fun _ _ _ _ _ r h => by simp [impl_StateOk.l0] at h, fun _ _ _ _ _ r h => by simp [impl_StateOk.l1] at h⟩
 | k + 1 => by
  obtain ⟨ih0, ih1⟩ := impl_StateOk.mono_l k
  refine ⟨?_, ?_⟩
  ·intro y0 y1 y2 y3 y4
   unfold impl_StateOk.l0
   repeat' first | (with_reducible first | exact LeO.refl _ | exact LeO.none _ | refine LeO.ite ?_ ?_ | refine LeO.bind ?_ (fun _ => ?_) | apply ih0 | apply ih1 | apply impl_FloorOf.mono) | apply ih0 | apply ih1 | apply impl_FloorOf.mono | exact LeO.none _ | refine LeO.ite ?_ ?_ | refine LeO.bind ?_ (fun _ => ?_)
  ·intro y0 y1 y2 y3 y4
   unfold impl_StateOk.l1
   repeat' first | (with_reducible first | exact LeO.refl _ | exact LeO.none _ | refine LeO.ite ?_ ?_ | refine LeO.bind ?_ (fun _ => ?_) | apply ih0 | apply ih1 | apply impl_FloorOf.mono) | apply ih0 | apply ih1 | apply impl_FloorOf.mono | exact LeO.none _ | refine LeO.ite ?_ ?_ | refine LeO.bind ?_ (fun _ => ?_)
theorem impl_StateOk.mono : ∀ a0 a1 k, LeO (impl_StateOk.f k a0 a1) (impl_StateOk.f (k + 1) a0 a1) := by
 intro a0 a1 k; obtain ⟨ih0, ih1⟩ := impl_StateOk.mono_l k
 unfold impl_StateOk.f
 repeat' first | (with_reducible first | exact LeO.refl _ | exact LeO.none _ | refine LeO.ite ?_ ?_ | refine LeO.bind ?_ (fun _ => ?_) | apply ih0 | apply ih1 | apply impl_FloorOf.mono) | apply ih0 | apply ih1 | apply impl_FloorOf.mono | exact LeO.none _ | refine LeO.ite ?_ ?_ | refine LeO.bind ?_ (fun _ => ?_)
def impl_StateOk.T4 : Bool × List (List Nat × List Nat) := (true, [([], []), ([0], [0]), ([1], [1]), ([2], [2]), ([3, 2], [3]), ([4], [4]), ([5, 4], [4, 5]), ([6, 4, 4], [4, 6]), ([7, 4], [4, 7]), ([4, 8], [4, 8]), ([9, 7], [9]), ([10], [10]), ([11, 10], [10, 11]), ([12, 10, 10], [10, 12]), ([13], [13]), ([14, 13], [13, 14]), ([13], [13]), ([16, 13], [13, 16]), ([15, 17, 13], [13, 15, 17]), ([18, 13], [13, 18]), ([19, 13], [13, 19]), ([13], [13]), ([21, 13], [13, 21]), ([20, 22, 13], [13, 20, 22]), ([13, 23, 10], [10, 13, 23]), ([10, 24], [10, 24])])
def impl_StateOk.B4 : List Nat := [0, 1, 3, 7, 15, 31, 63, 127, 255, 511, 1023, 2047, 4095, 8191, 16383, 32767, 16383, 81919, 262143, 524287, 1048575, 16383, 2113535, 8388607, 16777215, 33554431]
theorem impl_StateOk.tab4 : rtab .any (opsOf Try.f53 4) = impl_StateOk.T4 := by kernel_rfl
theorem impl_StateOk.bits4 : waitsOk impl_StateOk.T4.2 impl_StateOk.B4 = true := by kernel_rfl
def impl_StateOk.T10 : Bool × List (List Nat × List Nat) := (true, [([], []), ([0], [0]), ([1], [1]), ([2], [2]), ([3, 2], [3]), ([4], [4]), ([5, 4], [4, 5]), ([6, 4, 4], [4, 6]), ([7, 4], [4, 7]), ([4, 8], [4, 8]), ([9, 7], [9]), ([10], [10]), ([11, 10], [10, 11]), ([12, 10], [10, 12]), ([10], [10]), ([10], [10]), ([15, 10], [10, 15]), ([14, 16, 10, 10], [10, 14, 16]), ([13, 17, 10], [10, 13, 17]), ([10, 18], [10, 18]), ([19, 17], [19]), ([20], [20]), ([21, 20], [20, 21]), ([22, 20, 20], [20, 22]), ([23], [23]), ([24, 23], [23, 24]), ([23], [23]), ([26, 23], [23, 26]), ([25, 27, 23], [23, 25, 27]), ([28, 23], [23, 28]), ([29, 23], [23, 29]), ([23], [23]), ([31, 23], [23, 31]), ([30, 32, 23], [23, 30, 32]), ([23, 33, 20], [20, 23, 33]), ([20, 34], [20, 34])])
def impl_StateOk.B10 : List Nat := [0, 1, 3, 7, 15, 31, 63, 127, 255, 511, 1023, 2047, 4095, 8191, 2047, 2047, 34815, 116735, 262143, 524287, 1048575, 2097151, 4194303, 8388607, 16777215, 33554431, 16777215, 83886079, 268435455, 536870911, 1073741823, 16777215, 2164260863, 8589934591, 17179869183, 34359738367]
theorem impl_StateOk.tab10 : rtab .any (opsOf Try.f53 10) = impl_StateOk.T10 := by kernel_rfl
theorem impl_StateOk.bits10 : waitsOk impl_StateOk.T10.2 impl_StateOk.B10 = true := by kernel_rfl
set_option maxHeartbeats 8000000 in
set_option maxRecDepth 100000 in
theorem impl_StateOk.calls (k : Nat) (A0_0 : Option Addr) (c0_0 : Nat) (l0_0 : List (S68)) (A0_1 : Option Addr) (c0_1 : Nat) (l0_1 : List (S72)) (r : Bool) (w : World) (hr0_0 : Kd.C k68 w A0_0 l0_0.length l0_0) (hc0_0 : l0_0.length ≤ c0_0) (hr0_1 : Kd.C k72 w A0_1 l0_1.length l0_1) (hc0_1 : l0_1.length ≤ c0_1) (h : impl_StateOk.f k l0_0 l0_1 = some r) :
  Calls Try.prog 53 #[.agg #[.slice A0_0 l0_0.length c0_0, .slice A0_1 l0_1.length c0_1]] w fun e w' => e = .returned (.bool r) ∧ Below w.heap.size w w' := by
 have hu32 := Try.underlying32; have hu72 := Try.underlying72; have hu68 := Try.underlying68; have hu66 := Try.underlying66; have HR0_0 := zm hr0_0; have HC0_0 := zm hc0_0; clear hr0_0 hc0_0; have HR0_1 := zm hr0_1; have HC0_1 := zm hc0_1; clear hr0_1 hc0_1; have HB := zm (Below.refl w.heap.size w); have H : (impl_StateOk.l0 k l0_1 (l0_1.length : Int) 0 l0_0 l0_1) = some r := h; clear h
 have H' := zm H
 clear H; go_enter Try.func53, Try.ntmps53
 go_wp2_with (first | (refine zbox 1 #[.slice A0_0 l0_0.length c0_0, .slice A0_1 l0_1.length c0_1] 32 ?_; intro gb244 hg w2 hbox hb; have BK244 := zm (hbox); have GW244 := zge w hg zB; have GE244 := zge w hg zB; replace HB := zm (below_step zB hb); clear hb hbox hg; obtain ⟨hcz3_0, hcz3_1, hfz3_0, hfz3_1⟩ := zc2 BK244))
 go_loopg [10] k (fun kq v10 w' => ∃ (x10_1 : Int), v10 = .int .i64 x10_1 ∧ Aside0 (impl_StateOk.l0 kq l0_1 (l0_1.length : Int) x10_1 l0_0 l0_1 = some r) ∧ Aside0 (kq ≤ k) ∧ Aside0 (w'.heap[gb244]? = some (.cells #[(.slice A0_0 l0_0.length c0_0), (.slice A0_1 l0_1.length c0_1)] 32 (0, 0))) ∧ Aside0 (Below w.heap.size w w'))
 case atStart => exact ⟨(0), zF, H', ⟨Nat.le_refl _⟩, ⟨zb BK244⟩, ⟨zB⟩⟩
 case round =>
  clear H'; (try clear hcz3_0); (try clear hcz3_1); (try clear hfz3_0); (try clear hfz3_1); obtain ⟨x10_1, rfl, HA, HK1, BK244, HB⟩ := hrel
  cases gk with
  | zero => exact absurd HA.out (by simp [impl_StateOk.l0])
  | succ k1 =>
   have H := HA.out; clear HA; simp only [impl_StateOk.l0] at H
   by_cases c4 : x10_1 < (l0_1.length : Int)
   ·rw [if_pos c4] at H; have c4b0 : decide (x10_1 < (l0_1.length : Int)) = true := decide_eq_true c4; clear c4
    by_cases c5 : 0 ≤ x10_1
    ·rw [if_pos c5] at H; have c5b0 : decide (0 ≤ x10_1) = true := decide_eq_true c5; clear c5
     by_cases c6 : x10_1 < (l0_1.length : Int)
     ·rw [if_pos c6] at H; have c6b0 : decide (x10_1 < (l0_1.length : Int)) = true := decide_eq_true c6; clear c6; replace H := Option.bind_eq_some_iff.mp H; obtain ⟨t247, A70, H⟩ := H; (try dsimp only at H); have A7 := zm A70; clear A70
      by_cases c8 : t247 = true
      ·subst c8; rw [if_pos rfl] at H; replace H := Option.bind_eq_some_iff.mp H; obtain ⟨t248, A90, H⟩ := H; (try dsimp only at H); have A9 := zm A90; clear A90
       by_cases c10 : t248 = true
       ·subst c10; rw [if_pos rfl] at H
        by_cases c11 : x10_1 > 0
        ·rw [if_pos c11] at H; have c11b0 : decide (0 < x10_1) = true := decide_eq_true c11; clear c11
         obtain ⟨ji12, hji12⟩ : ∃ j_ : Int, (wrap64 (x10_1 - 1)) = j_ := ⟨_, rfl⟩
         replace H : (if 0 ≤ (ji12) then (if (ji12) < (l0_1.length : Int) then (if ((rd_T72 l0_1 (ji12)).f0) ≥ ((rd_T72 l0_1 x10_1).f0) then (some false) else (impl_StateOk.l0 k1 l0_1 (l0_1.length : Int) (wrap64 (x10_1 + 1)) l0_0 l0_1)) else (none)) else (none)) = some r := by first | (rw [hji12] at H; exact H) | (simp only [hji12] at H ⊢; exact H)
         (try rw [hji12] at A7)
         (try rw [hji12] at A9)
         have hji12w : (IntKind.i64.wrap (x10_1 - 1)) = ji12 := (i64_w _).trans hji12
         by_cases c13 : 0 ≤ (ji12)
         ·rw [if_pos c13] at H; have c13b0 : decide (0 ≤ (ji12)) = true := decide_eq_true c13; clear c13
          by_cases c14 : (ji12) < (l0_1.length : Int)
          ·rw [if_pos c14] at H; have c14b0 : decide ((ji12) < (l0_1.length : Int)) = true := decide_eq_true c14; clear c14
           by_cases c15 : ((rd_T72 l0_1 (ji12)).f0) ≥ ((rd_T72 l0_1 x10_1).f0)
           ·rw [if_pos c15] at H; have c15b0 : decide (((rd_T72 l0_1 x10_1).f0) ≤ ((rd_T72 l0_1 (ji12)).f0)) = true := decide_eq_true c15; clear c15; obtain rfl := Option.some.inj H; have p245 : 0 ≤ (x10_1 : Int) := zd; have q245 : x10_1 < (l0_1.length : Int) := zd; obtain ⟨ad245, e245, hx245_0, hx245_1⟩ := at_T72 (Kd.C_below HR0_1.out HB.out) x10_1 p245 q245; cases e245; replace p245 := eq_true p245; replace q245 := eq_true q245
            try go_wp2_with (first | (refine zbox 4 #[.int .i64 0, .int .i64 0] 72 ?_; intro gb246 hg w16 hbox hb; have BK246 := zm (hbox); have GW246 := zge w hg zB; have GE246 := zge w hg zB; replace HB := zm (below_step zB hb); have NB244_246 := zlt hg (zb BK244); have NB246_244 := zgt hg (zb BK244); replace BK244 := zy BK244 hb; clear hb hbox hg; have hnb17 := NB246_244.out; have hnc17 := NB244_246.out; obtain ⟨hcz18_0, hcz18_1, hfz18_0, hfz18_1⟩ := zc2 BK246))
            obtain ⟨w19, hW_⟩ : ∃ q, q = ((w16.setCell ⟨gb246, 0, none⟩ (.int .i64 ((rd_T72 l0_1 x10_1).f0))).setCell ⟨gb246, 1, none⟩ (.int .i64 ((rd_T72 l0_1 x10_1).f1))) := ⟨_, rfl⟩
            have n0_ : Aside0 (w19.heap[gb244]? = some (.cells #[.slice A0_0 l0_0.length c0_0, .slice (some ad245) l0_1.length c0_1] 32 (0, 0))) := ⟨by rw [hW_]; exact zfar (zfar (zb BK244) NB244_246) NB244_246⟩; have n1_ : Aside0 (w19.heap[gb246]? = some (.cells #[.int .i64 ((rd_T72 l0_1 x10_1).f0), .int .i64 ((rd_T72 l0_1 x10_1).f1)] 72 (0, 0))) := ⟨by rw [hW_]; exact zput (zput (zb BK246) 0) 1⟩; have n2_ : Aside0 (Below w.heap.size w w19) := ⟨by rw [hW_]; exact zB⟩
            rw [← hW_]
            clear hW_; (try clear BK244); (try clear BK246); (try clear HB); have BK244 := n0_; have BK246 := n1_; have HB := n2_; clear n0_ n1_ n2_; replace BK244 := zq BK244; replace BK246 := zq BK246; replace HB := zm (below_drew1 HB.out); have p249 : 0 ≤ ((ji12) : Int) := zd; have q249 : (ji12) < (l0_1.length : Int) := zd; obtain ⟨ad249, e249, hx249_0, hx249_1⟩ := at_T72 HR0_1.out (ji12) p249 q249; have hw249_1 := hx249_1; have hw249_0 := hx249_0
            obtain rfl : ad245 = ad249 := (by injection e249)
            replace hx249_0 := zx HB hx249_0; replace hx249_1 := zx HB hx249_1; replace p249 := eq_true p249; replace q249 := eq_true q249
            refine start_ (n := 26) (S := fun w' => w'.cell? ⟨gb246, 0, none⟩ = some (.int .i64 ((rd_T72 l0_1 x10_1).f0)) ∧ w'.cell? ⟨gb246, 1, none⟩ = some (.int .i64 ((rd_T72 l0_1 x10_1).f1)) ∧ w'.cell? ⟨gb244, 0, none⟩ = some (.slice A0_0 l0_0.length c0_0) ∧ w'.cell? ⟨gb244, 1, none⟩ = some (.slice (some ad245) l0_1.length c0_1) ∧ w'.cell? (ad245.add (((ji12)).toNat * 2)) = some (.int .i64 ((rd_T72 l0_1 (ji12)).f0)) ∧ w'.cell? ⟨(ad245.add (((ji12)).toNat * 2)).block, (ad245.add (((ji12)).toNat * 2)).off + 1, none⟩ = some (.int .i64 ((rd_T72 l0_1 (ji12)).f1))) (ds := []) (zl 26 0) (by kernel_rfl) rfl rfl zS (fun hHeld => ?_); refine with_tabW impl_StateOk.tab4 impl_StateOk.bits4 (fun HT_ HW_ => ?_)
            generalize w19.drew = w20 at BK244 BK246 HB hx249_0 hx249_1 hHeld ⊢
            refine zu 0 15 26 1 ?_
            refine zv 1 16 26 3 ?_
            refine zo 2 (some 17) (zl 26 7) (fun K hK => ?_); refine zgo #[.int .i64 ((rd_T72 l0_1 x10_1).f0)] Try.func94 ?_; (with_reducible refine (impl_isNode.calls ((rd_T72 l0_1 x10_1).f0) true _ A7.out).mono ?_); rintro e w' ⟨rfl, ⟨nd, rfl⟩⟩; refine ⟨_, rfl, ?_⟩; refine hK.out _ _ zS (fun hHeld => ?_); clear hK K; refine zn ?_
            refine zu 3 18 26 15 ?_
            refine zu 4 19 26 31 ?_
            refine zu 5 20 26 63 ?_
            refine zv 6 21 26 127 ?_
            refine zo 7 (some 22) (zl 26 255) (fun K hK => ?_); refine zgo #[.int .i64 ((rd_T72 l0_1 x10_1).f1), .int .i64 1, .int .i64 1000] Try.func64 ?_; (with_reducible refine (impl_within.calls ((rd_T72 l0_1 x10_1).f1) 1 1000 true _ A9.out).mono ?_); rintro e w' ⟨rfl, ⟨nd, rfl⟩⟩; refine ⟨_, rfl, ?_⟩; refine hK.out _ _ zS (fun hHeld => ?_); clear hK K; refine zn ?_
            refine zu 8 23 26 511 ?_
            refine zu 9 24 26 1023 ?_
            refine zu 10 25 26 2047 ?_
            refine zu 11 26 26 4095 ?_
            refine zu 12 27 26 8191 ?_
            refine zu 13 28 26 16383 ?_
            refine zu 14 29 26 32767 ?_
            refine zu 16 31 26 98303 ?_
            refine zu 17 32 26 229375 ?_
            refine zu 21 36 26 2326527 ?_
            refine zv 15 30 26 2359295 ?_
            refine zu 18 33 26 2621439 ?_
            refine zu 19 34 26 3145727 ?_
            refine zv 20 35 26 4194303 ?_
            refine zv 22 37 26 8388607 ?_
            refine zu 23 38 26 16777215 ?_
            refine zu 24 39 26 33554431 ?_
            refine zu 25 40 26 67108863 ?_
            refine done_ (done_of HT_.out (by kernel_rfl)) ?_
            try go_wp2
            go_ret
            exact ⟨by first | rfl | (simp [errW_none, errW_some] <;> rfl) | (simp only [← hji12]; first | rfl | (simp [errW_none, errW_some] <;> rfl)) | (simp [*, errW_none, errW_some] <;> rfl), zB⟩
           ·rw [if_neg c15] at H; have c15b0 : decide (((rd_T72 l0_1 x10_1).f0) ≤ ((rd_T72 l0_1 (ji12)).f0)) = false := decide_eq_false c15; clear c15
            have H' := zm H
            clear H; have p245 : 0 ≤ (x10_1 : Int) := zd; have q245 : x10_1 < (l0_1.length : Int) := zd; obtain ⟨ad245, e245, hx245_0, hx245_1⟩ := at_T72 (Kd.C_below HR0_1.out HB.out) x10_1 p245 q245; cases e245; replace p245 := eq_true p245; replace q245 := eq_true q245
            try go_wp2_with (first | (refine zbox 4 #[.int .i64 0, .int .i64 0] 72 ?_; intro gb246 hg w21 hbox hb; have BK246 := zm (hbox); have GW246 := zge w hg zB; have GE246 := zge w hg zB; replace HB := zm (below_step zB hb); have NB244_246 := zlt hg (zb BK244); have NB246_244 := zgt hg (zb BK244); replace BK244 := zy BK244 hb; clear hb hbox hg; have hnb22 := NB246_244.out; have hnc22 := NB244_246.out; obtain ⟨hcz23_0, hcz23_1, hfz23_0, hfz23_1⟩ := zc2 BK246))
            obtain ⟨w24, hW_⟩ : ∃ q, q = ((w21.setCell ⟨gb246, 0, none⟩ (.int .i64 ((rd_T72 l0_1 x10_1).f0))).setCell ⟨gb246, 1, none⟩ (.int .i64 ((rd_T72 l0_1 x10_1).f1))) := ⟨_, rfl⟩
            have n0_ : Aside0 (w24.heap[gb244]? = some (.cells #[.slice A0_0 l0_0.length c0_0, .slice (some ad245) l0_1.length c0_1] 32 (0, 0))) := ⟨by rw [hW_]; exact zfar (zfar (zb BK244) NB244_246) NB244_246⟩; have n1_ : Aside0 (w24.heap[gb246]? = some (.cells #[.int .i64 ((rd_T72 l0_1 x10_1).f0), .int .i64 ((rd_T72 l0_1 x10_1).f1)] 72 (0, 0))) := ⟨by rw [hW_]; exact zput (zput (zb BK246) 0) 1⟩; have n2_ : Aside0 (Below w.heap.size w w24) := ⟨by rw [hW_]; exact zB⟩
            rw [← hW_]
            clear hW_; (try clear BK244); (try clear BK246); (try clear HB); have BK244 := n0_; have BK246 := n1_; have HB := n2_; clear n0_ n1_ n2_; replace BK244 := zq BK244; replace BK246 := zq BK246; replace HB := zm (below_drew1 HB.out); have p249 : 0 ≤ ((ji12) : Int) := zd; have q249 : (ji12) < (l0_1.length : Int) := zd; obtain ⟨ad249, e249, hx249_0, hx249_1⟩ := at_T72 HR0_1.out (ji12) p249 q249; have hw249_1 := hx249_1; have hw249_0 := hx249_0
            obtain rfl : ad245 = ad249 := (by injection e249)
            replace hx249_0 := zx HB hx249_0; replace hx249_1 := zx HB hx249_1; replace p249 := eq_true p249; replace q249 := eq_true q249
            refine start_ (n := 26) (S := fun w' => w'.cell? ⟨gb246, 0, none⟩ = some (.int .i64 ((rd_T72 l0_1 x10_1).f0)) ∧ w'.cell? ⟨gb246, 1, none⟩ = some (.int .i64 ((rd_T72 l0_1 x10_1).f1)) ∧ w'.cell? ⟨gb244, 0, none⟩ = some (.slice A0_0 l0_0.length c0_0) ∧ w'.cell? ⟨gb244, 1, none⟩ = some (.slice (some ad245) l0_1.length c0_1) ∧ w'.cell? (ad245.add (((ji12)).toNat * 2)) = some (.int .i64 ((rd_T72 l0_1 (ji12)).f0)) ∧ w'.cell? ⟨(ad245.add (((ji12)).toNat * 2)).block, (ad245.add (((ji12)).toNat * 2)).off + 1, none⟩ = some (.int .i64 ((rd_T72 l0_1 (ji12)).f1))) (ds := []) (zl 26 0) (by kernel_rfl) rfl rfl zS (fun hHeld => ?_); refine with_tabW impl_StateOk.tab4 impl_StateOk.bits4 (fun HT_ HW_ => ?_)
            generalize w24.drew = w25 at BK244 BK246 HB hx249_0 hx249_1 hHeld ⊢
            refine zu 0 15 26 1 ?_
            refine zv 1 16 26 3 ?_
            refine zo 2 (some 17) (zl 26 7) (fun K hK => ?_); refine zgo #[.int .i64 ((rd_T72 l0_1 x10_1).f0)] Try.func94 ?_; (with_reducible refine (impl_isNode.calls ((rd_T72 l0_1 x10_1).f0) true _ A7.out).mono ?_); rintro e w' ⟨rfl, ⟨nd, rfl⟩⟩; refine ⟨_, rfl, ?_⟩; refine hK.out _ _ zS (fun hHeld => ?_); clear hK K; refine zn ?_
            refine zu 3 18 26 15 ?_
            refine zu 4 19 26 31 ?_
            refine zu 5 20 26 63 ?_
            refine zv 6 21 26 127 ?_
            refine zo 7 (some 22) (zl 26 255) (fun K hK => ?_); refine zgo #[.int .i64 ((rd_T72 l0_1 x10_1).f1), .int .i64 1, .int .i64 1000] Try.func64 ?_; (with_reducible refine (impl_within.calls ((rd_T72 l0_1 x10_1).f1) 1 1000 true _ A9.out).mono ?_); rintro e w' ⟨rfl, ⟨nd, rfl⟩⟩; refine ⟨_, rfl, ?_⟩; refine hK.out _ _ zS (fun hHeld => ?_); clear hK K; refine zn ?_
            refine zu 8 23 26 511 ?_
            refine zu 9 24 26 1023 ?_
            refine zu 10 25 26 2047 ?_
            refine zu 11 26 26 4095 ?_
            refine zu 12 27 26 8191 ?_
            refine zu 13 28 26 16383 ?_
            refine zu 14 29 26 32767 ?_
            refine zu 16 31 26 98303 ?_
            refine zu 17 32 26 229375 ?_
            refine zu 21 36 26 2326527 ?_
            refine zv 15 30 26 2359295 ?_
            refine zu 18 33 26 2621439 ?_
            refine zu 19 34 26 3145727 ?_
            refine zv 20 35 26 4194303 ?_
            refine zv 22 37 26 8388607 ?_
            refine zu 23 38 26 16777215 ?_
            refine zu 24 39 26 33554431 ?_
            refine zu 25 40 26 67108863 ?_
            refine done_ (done_of HT_.out (by kernel_rfl)) ?_
            try go_wp2
            go_roundg k1
            case measure => have := HK1.out; omega
            case rel => exact ⟨(wrap64 (x10_1 + 1)), zF, H', ⟨by have := HK1.out; omega⟩, ⟨zb BK244⟩, ⟨zB⟩⟩
          ·rw [if_neg c14] at H
           exact absurd H (by simp)
         ·rw [if_neg c13] at H
          exact absurd H (by simp)
        ·rw [if_neg c11] at H; have c11b0 : decide (0 < x10_1) = false := decide_eq_false c11; clear c11
         have H' := zm H
         clear H; have p245 : 0 ≤ (x10_1 : Int) := zd; have q245 : x10_1 < (l0_1.length : Int) := zd; obtain ⟨ad245, e245, hx245_0, hx245_1⟩ := at_T72 (Kd.C_below HR0_1.out HB.out) x10_1 p245 q245; cases e245; replace p245 := eq_true p245; replace q245 := eq_true q245
         try go_wp2_with (first | (refine zbox 4 #[.int .i64 0, .int .i64 0] 72 ?_; intro gb246 hg w26 hbox hb; have BK246 := zm (hbox); have GW246 := zge w hg zB; have GE246 := zge w hg zB; replace HB := zm (below_step zB hb); have NB244_246 := zlt hg (zb BK244); have NB246_244 := zgt hg (zb BK244); replace BK244 := zy BK244 hb; clear hb hbox hg; have hnb27 := NB246_244.out; have hnc27 := NB244_246.out; obtain ⟨hcz28_0, hcz28_1, hfz28_0, hfz28_1⟩ := zc2 BK246))
         obtain ⟨w29, hW_⟩ : ∃ q, q = ((w26.setCell ⟨gb246, 0, none⟩ (.int .i64 ((rd_T72 l0_1 x10_1).f0))).setCell ⟨gb246, 1, none⟩ (.int .i64 ((rd_T72 l0_1 x10_1).f1))) := ⟨_, rfl⟩
         have n0_ : Aside0 (w29.heap[gb244]? = some (.cells #[.slice A0_0 l0_0.length c0_0, .slice (some ad245) l0_1.length c0_1] 32 (0, 0))) := ⟨by rw [hW_]; exact zfar (zfar (zb BK244) NB244_246) NB244_246⟩; have n1_ : Aside0 (w29.heap[gb246]? = some (.cells #[.int .i64 ((rd_T72 l0_1 x10_1).f0), .int .i64 ((rd_T72 l0_1 x10_1).f1)] 72 (0, 0))) := ⟨by rw [hW_]; exact zput (zput (zb BK246) 0) 1⟩; have n2_ : Aside0 (Below w.heap.size w w29) := ⟨by rw [hW_]; exact zB⟩
         rw [← hW_]
         clear hW_; (try clear BK244); (try clear BK246); (try clear HB); have BK244 := n0_; have BK246 := n1_; have HB := n2_; clear n0_ n1_ n2_; replace BK244 := zq BK244; replace BK246 := zq BK246; replace HB := zm (below_drew1 HB.out)
         refine start_ (n := 26) (S := fun w' => w'.cell? ⟨gb246, 0, none⟩ = some (.int .i64 ((rd_T72 l0_1 x10_1).f0)) ∧ w'.cell? ⟨gb246, 1, none⟩ = some (.int .i64 ((rd_T72 l0_1 x10_1).f1))) (ds := []) (zl 26 0) (by kernel_rfl) rfl rfl zS (fun hHeld => ?_); refine with_tabW impl_StateOk.tab4 impl_StateOk.bits4 (fun HT_ HW_ => ?_)
         generalize w29.drew = w30 at BK244 BK246 HB hHeld ⊢
         refine zu 0 15 26 1 ?_
         refine zv 1 16 26 3 ?_
         refine zo 2 (some 17) (zl 26 7) (fun K hK => ?_); refine zgo #[.int .i64 ((rd_T72 l0_1 x10_1).f0)] Try.func94 ?_; (with_reducible refine (impl_isNode.calls ((rd_T72 l0_1 x10_1).f0) true _ A7.out).mono ?_); rintro e w' ⟨rfl, ⟨nd, rfl⟩⟩; refine ⟨_, rfl, ?_⟩; refine hK.out _ _ zS (fun hHeld => ?_); clear hK K; refine zn ?_
         refine zu 3 18 26 15 ?_
         refine zu 4 19 26 31 ?_
         refine zu 5 20 26 63 ?_
         refine zv 6 21 26 127 ?_
         refine zo 7 (some 22) (zl 26 255) (fun K hK => ?_); refine zgo #[.int .i64 ((rd_T72 l0_1 x10_1).f1), .int .i64 1, .int .i64 1000] Try.func64 ?_; (with_reducible refine (impl_within.calls ((rd_T72 l0_1 x10_1).f1) 1 1000 true _ A9.out).mono ?_); rintro e w' ⟨rfl, ⟨nd, rfl⟩⟩; refine ⟨_, rfl, ?_⟩; refine hK.out _ _ zS (fun hHeld => ?_); clear hK K; refine zn ?_
         refine zu 8 23 26 511 ?_
         refine zu 9 24 26 1023 ?_
         refine zu 10 25 26 2047 ?_
         refine zu 11 26 26 4095 ?_
         refine zu 12 27 26 8191 ?_
         refine zu 13 28 26 16383 ?_
         refine zu 14 29 26 32767 ?_
         refine zu 15 30 26 65535 ?_
         refine zu 16 31 26 131071 ?_
         refine zu 17 32 26 262143 ?_
         refine zu 18 33 26 524287 ?_
         refine zu 19 34 26 1048575 ?_
         refine zu 20 35 26 2097151 ?_
         refine zu 21 36 26 4194303 ?_
         refine zu 22 37 26 8388607 ?_
         refine zu 23 38 26 16777215 ?_
         refine zu 24 39 26 33554431 ?_
         refine zu 25 40 26 67108863 ?_
         refine done_ (done_of HT_.out (by kernel_rfl)) ?_
         try go_wp2
         go_roundg k1
         case measure => have := HK1.out; omega
         case rel => exact ⟨(wrap64 (x10_1 + 1)), zF, H', ⟨by have := HK1.out; omega⟩, ⟨zb BK244⟩, ⟨zB⟩⟩
       ·replace c10 := Bool.eq_false_iff.mpr c10; subst c10; rw [zff] at H; obtain rfl := Option.some.inj H; have p245 : 0 ≤ (x10_1 : Int) := zd; have q245 : x10_1 < (l0_1.length : Int) := zd; obtain ⟨ad245, e245, hx245_0, hx245_1⟩ := at_T72 (Kd.C_below HR0_1.out HB.out) x10_1 p245 q245; cases e245; replace p245 := eq_true p245; replace q245 := eq_true q245
        try go_wp2_with (first | (refine zbox 4 #[.int .i64 0, .int .i64 0] 72 ?_; intro gb246 hg w31 hbox hb; have BK246 := zm (hbox); have GW246 := zge w hg zB; have GE246 := zge w hg zB; replace HB := zm (below_step zB hb); have NB244_246 := zlt hg (zb BK244); have NB246_244 := zgt hg (zb BK244); replace BK244 := zy BK244 hb; clear hb hbox hg; have hnb32 := NB246_244.out; have hnc32 := NB244_246.out; obtain ⟨hcz33_0, hcz33_1, hfz33_0, hfz33_1⟩ := zc2 BK246))
        obtain ⟨w34, hW_⟩ : ∃ q, q = ((w31.setCell ⟨gb246, 0, none⟩ (.int .i64 ((rd_T72 l0_1 x10_1).f0))).setCell ⟨gb246, 1, none⟩ (.int .i64 ((rd_T72 l0_1 x10_1).f1))) := ⟨_, rfl⟩
        have n0_ : Aside0 (w34.heap[gb244]? = some (.cells #[.slice A0_0 l0_0.length c0_0, .slice (some ad245) l0_1.length c0_1] 32 (0, 0))) := ⟨by rw [hW_]; exact zfar (zfar (zb BK244) NB244_246) NB244_246⟩; have n1_ : Aside0 (w34.heap[gb246]? = some (.cells #[.int .i64 ((rd_T72 l0_1 x10_1).f0), .int .i64 ((rd_T72 l0_1 x10_1).f1)] 72 (0, 0))) := ⟨by rw [hW_]; exact zput (zput (zb BK246) 0) 1⟩; have n2_ : Aside0 (Below w.heap.size w w34) := ⟨by rw [hW_]; exact zB⟩
        rw [← hW_]
        clear hW_; (try clear BK244); (try clear BK246); (try clear HB); have BK244 := n0_; have BK246 := n1_; have HB := n2_; clear n0_ n1_ n2_; replace BK244 := zq BK244; replace BK246 := zq BK246; replace HB := zm (below_drew1 HB.out)
        refine start_ (n := 26) (S := fun w' => w'.cell? ⟨gb246, 0, none⟩ = some (.int .i64 ((rd_T72 l0_1 x10_1).f0)) ∧ w'.cell? ⟨gb246, 1, none⟩ = some (.int .i64 ((rd_T72 l0_1 x10_1).f1))) (ds := []) (zl 26 0) (by kernel_rfl) rfl rfl zS (fun hHeld => ?_); refine with_tabW impl_StateOk.tab4 impl_StateOk.bits4 (fun HT_ HW_ => ?_)
        generalize w34.drew = w35 at BK244 BK246 HB hHeld ⊢
        refine zu 0 15 26 1 ?_
        refine zv 1 16 26 3 ?_
        refine zo 2 (some 17) (zl 26 7) (fun K hK => ?_); refine zgo #[.int .i64 ((rd_T72 l0_1 x10_1).f0)] Try.func94 ?_; (with_reducible refine (impl_isNode.calls ((rd_T72 l0_1 x10_1).f0) true _ A7.out).mono ?_); rintro e w' ⟨rfl, ⟨nd, rfl⟩⟩; refine ⟨_, rfl, ?_⟩; refine hK.out _ _ zS (fun hHeld => ?_); clear hK K; refine zn ?_
        refine zu 3 18 26 15 ?_
        refine zu 4 19 26 31 ?_
        refine zu 5 20 26 63 ?_
        refine zv 6 21 26 127 ?_
        refine zo 7 (some 22) (zl 26 255) (fun K hK => ?_); refine zgo #[.int .i64 ((rd_T72 l0_1 x10_1).f1), .int .i64 1, .int .i64 1000] Try.func64 ?_; (with_reducible refine (impl_within.calls ((rd_T72 l0_1 x10_1).f1) 1 1000 false _ A9.out).mono ?_); rintro e w' ⟨rfl, ⟨nd, rfl⟩⟩; refine ⟨_, rfl, ?_⟩; refine hK.out _ _ zS (fun hHeld => ?_); clear hK K; refine zn ?_
        refine zu 8 23 26 511 ?_
        refine zu 9 24 26 1023 ?_
        refine zu 10 25 26 2047 ?_
        refine zu 11 26 26 4095 ?_
        refine zu 12 27 26 8191 ?_
        refine zu 13 28 26 16383 ?_
        refine zu 14 29 26 32767 ?_
        refine zu 15 30 26 65535 ?_
        refine zu 16 31 26 131071 ?_
        refine zu 17 32 26 262143 ?_
        refine zu 18 33 26 524287 ?_
        refine zu 19 34 26 1048575 ?_
        refine zu 20 35 26 2097151 ?_
        refine zu 21 36 26 4194303 ?_
        refine zu 22 37 26 8388607 ?_
        refine zu 23 38 26 16777215 ?_
        refine zu 24 39 26 33554431 ?_
        refine zu 25 40 26 67108863 ?_
        refine done_ (done_of HT_.out (by kernel_rfl)) ?_
        try go_wp2
        go_ret
        exact ⟨zE, zB⟩
      ·replace c8 := Bool.eq_false_iff.mpr c8; subst c8; rw [zff] at H; obtain rfl := Option.some.inj H; have p245 : 0 ≤ (x10_1 : Int) := zd; have q245 : x10_1 < (l0_1.length : Int) := zd; obtain ⟨ad245, e245, hx245_0, hx245_1⟩ := at_T72 (Kd.C_below HR0_1.out HB.out) x10_1 p245 q245; cases e245; replace p245 := eq_true p245; replace q245 := eq_true q245
       try go_wp2_with (first | (refine zbox 4 #[.int .i64 0, .int .i64 0] 72 ?_; intro gb246 hg w36 hbox hb; have BK246 := zm (hbox); have GW246 := zge w hg zB; have GE246 := zge w hg zB; replace HB := zm (below_step zB hb); have NB244_246 := zlt hg (zb BK244); have NB246_244 := zgt hg (zb BK244); replace BK244 := zy BK244 hb; clear hb hbox hg; have hnb37 := NB246_244.out; have hnc37 := NB244_246.out; obtain ⟨hcz38_0, hcz38_1, hfz38_0, hfz38_1⟩ := zc2 BK246))
       obtain ⟨w39, hW_⟩ : ∃ q, q = ((w36.setCell ⟨gb246, 0, none⟩ (.int .i64 ((rd_T72 l0_1 x10_1).f0))).setCell ⟨gb246, 1, none⟩ (.int .i64 ((rd_T72 l0_1 x10_1).f1))) := ⟨_, rfl⟩
       have n0_ : Aside0 (w39.heap[gb244]? = some (.cells #[.slice A0_0 l0_0.length c0_0, .slice (some ad245) l0_1.length c0_1] 32 (0, 0))) := ⟨by rw [hW_]; exact zfar (zfar (zb BK244) NB244_246) NB244_246⟩; have n1_ : Aside0 (w39.heap[gb246]? = some (.cells #[.int .i64 ((rd_T72 l0_1 x10_1).f0), .int .i64 ((rd_T72 l0_1 x10_1).f1)] 72 (0, 0))) := ⟨by rw [hW_]; exact zput (zput (zb BK246) 0) 1⟩; have n2_ : Aside0 (Below w.heap.size w w39) := ⟨by rw [hW_]; exact zB⟩
       rw [← hW_]
       clear hW_; (try clear BK244); (try clear BK246); (try clear HB); have BK244 := n0_; have BK246 := n1_; have HB := n2_; clear n0_ n1_ n2_; replace BK244 := zq BK244; replace BK246 := zq BK246; replace HB := zm (below_drew1 HB.out)
       refine start_ (n := 26) (S := fun w' => w'.cell? ⟨gb246, 0, none⟩ = some (.int .i64 ((rd_T72 l0_1 x10_1).f0)) ∧ w'.cell? ⟨gb246, 1, none⟩ = some (.int .i64 ((rd_T72 l0_1 x10_1).f1))) (ds := []) (zl 26 0) (by kernel_rfl) rfl rfl zS (fun hHeld => ?_); refine with_tabW impl_StateOk.tab4 impl_StateOk.bits4 (fun HT_ HW_ => ?_)
       generalize w39.drew = w40 at BK244 BK246 HB hHeld ⊢
       refine zu 0 15 26 1 ?_
       refine zv 1 16 26 3 ?_
       refine zo 2 (some 17) (zl 26 7) (fun K hK => ?_); refine zgo #[.int .i64 ((rd_T72 l0_1 x10_1).f0)] Try.func94 ?_; (with_reducible refine (impl_isNode.calls ((rd_T72 l0_1 x10_1).f0) false _ A7.out).mono ?_); rintro e w' ⟨rfl, ⟨nd, rfl⟩⟩; refine ⟨_, rfl, ?_⟩; refine hK.out _ _ zS (fun hHeld => ?_); clear hK K; refine zn ?_
       refine zu 3 18 26 15 ?_
       refine zu 4 19 26 31 ?_
       refine zu 5 20 26 63 ?_
       refine zu 6 21 26 127 ?_
       refine zu 7 22 26 255 ?_
       refine zu 8 23 26 511 ?_
       refine zu 9 24 26 1023 ?_
       refine zu 10 25 26 2047 ?_
       refine zu 11 26 26 4095 ?_
       refine zu 12 27 26 8191 ?_
       refine zu 13 28 26 16383 ?_
       refine zu 14 29 26 32767 ?_
       refine zu 15 30 26 65535 ?_
       refine zu 16 31 26 131071 ?_
       refine zu 17 32 26 262143 ?_
       refine zu 18 33 26 524287 ?_
       refine zu 19 34 26 1048575 ?_
       refine zu 20 35 26 2097151 ?_
       refine zu 21 36 26 4194303 ?_
       refine zu 22 37 26 8388607 ?_
       refine zu 23 38 26 16777215 ?_
       refine zu 24 39 26 33554431 ?_
       refine zu 25 40 26 67108863 ?_
       refine done_ (done_of HT_.out (by kernel_rfl)) ?_
       try go_wp2
       go_ret
       exact ⟨zE, zB⟩
     ·rw [if_neg c6] at H
      exact absurd H (by simp)
    ·rw [if_neg c5] at H
     exact absurd H (by simp)
   ·rw [if_neg c4] at H; have c4b0 : decide (x10_1 < (l0_1.length : Int)) = false := decide_eq_false c4; clear c4
    have H' := zm H
    clear H; obtain ⟨hcz41_0, hcz41_1, hfz41_0, hfz41_1⟩ := zc2 BK244
    go_wp2
    go_loopg [45] k1 (fun kq v45 w' => ∃ (x45_2 : Int), v45 = .int .i64 x45_2 ∧ Aside0 (impl_StateOk.l1 kq l0_0 (l0_0.length : Int) x45_2 l0_0 l0_1 = some r) ∧ Aside0 (kq ≤ k1) ∧ Aside0 (w'.heap[gb244]? = some (.cells #[(.slice A0_0 l0_0.length c0_0), (.slice A0_1 l0_1.length c0_1)] 32 (0, 0))) ∧ Aside0 (Below w.heap.size w w'))
    case atStart => exact ⟨(0), zF, H', ⟨Nat.le_refl _⟩, ⟨zb BK244⟩, ⟨zB⟩⟩
    case round =>
     clear H'; (try clear c4); (try clear c4b0); (try clear hcz41_0); (try clear hcz41_1); (try clear hfz41_0); (try clear hfz41_1); obtain ⟨x45_2, rfl, HA, HK2, BK244, HB⟩ := hrel
     cases gk with
     | zero => exact absurd HA.out (by simp [impl_StateOk.l1])
     | succ k2 =>
      have H := HA.out; clear HA; simp only [impl_StateOk.l1] at H
      by_cases c42 : x45_2 < (l0_0.length : Int)
      ·rw [if_pos c42] at H; have c42b0 : decide (x45_2 < (l0_0.length : Int)) = true := decide_eq_true c42; clear c42
       by_cases c43 : 0 ≤ x45_2
       ·rw [if_pos c43] at H; have c43b0 : decide (0 ≤ x45_2) = true := decide_eq_true c43; clear c43
        by_cases c44 : x45_2 < (l0_0.length : Int)
        ·rw [if_pos c44] at H; have c44b0 : decide (x45_2 < (l0_0.length : Int)) = true := decide_eq_true c44; clear c44; replace H := Option.bind_eq_some_iff.mp H; obtain ⟨t252, A450, H⟩ := H; (try dsimp only at H); have A45 := zm A450; clear A450
         by_cases c46 : t252 = true
         ·subst c46; rw [if_pos rfl] at H; replace H := Option.bind_eq_some_iff.mp H; obtain ⟨t253, A470, H⟩ := H; (try dsimp only at H); have A47 := zm A470; clear A470
          by_cases c48 : t253 = true
          ·subst c48; rw [if_pos rfl] at H; replace H := Option.bind_eq_some_iff.mp H; obtain ⟨t254, A490, H⟩ := H; (try dsimp only at H); have A49 := zm A490; clear A490
           by_cases c50 : ((rd_T68 l0_0 x45_2).f1.f0) ≤ t254
           ·rw [if_pos c50] at H; have c50b0 : decide (((rd_T68 l0_0 x45_2).f1.f0) ≤ t254) = true := decide_eq_true c50; clear c50; obtain rfl := Option.some.inj H; have p250 : 0 ≤ (x45_2 : Int) := zd; have q250 : x45_2 < (l0_0.length : Int) := zd; obtain ⟨ad250, e250, hx250_0, hx250_1, hx250_2, hx250_3, hx250_4, hx250_5⟩ := at_T68 (Kd.C_below HR0_0.out HB.out) x45_2 p250 q250; cases e250; replace p250 := eq_true p250; replace q250 := eq_true q250
            try go_wp2_with (first | (refine zbox 6 #[.int .i64 0, .int .i64 0, .int .i64 0, .int .i64 0, .int .i64 0, .string (⟨#[]⟩ : ByteArray)] 68 ?_; intro gb251 hg w51 hbox hb; have BK251 := zm (hbox); have GW251 := zge w hg zB; have GE251 := zge w hg zB; replace HB := zm (below_step zB hb); have NB244_251 := zlt hg (zb BK244); have NB251_244 := zgt hg (zb BK244); replace BK244 := zy BK244 hb; clear hb hbox hg; have hnb52 := NB251_244.out; have hnc52 := NB244_251.out; obtain ⟨hcz53_0, hcz53_1, hcz53_2, hcz53_3, hcz53_4, hcz53_5, hfz53_0, hfz53_1, hfz53_2, hfz53_3, hfz53_4, hfz53_5⟩ := zc6 BK251))
            obtain ⟨w54, hW_⟩ : ∃ q, q = ((((((w51.setCell ⟨gb251, 0, none⟩ (.int .i64 ((rd_T68 l0_0 x45_2).f0))).setCell ⟨gb251, 1, none⟩ (.int .i64 ((rd_T68 l0_0 x45_2).f1.f0))).setCell ⟨gb251, 2, none⟩ (.int .i64 ((rd_T68 l0_0 x45_2).f1.f1))).setCell ⟨gb251, 3, none⟩ (.int .i64 ((rd_T68 l0_0 x45_2).f1.f2))).setCell ⟨gb251, 4, none⟩ (.int .i64 ((rd_T68 l0_0 x45_2).f1.f3))).setCell ⟨gb251, 5, none⟩ (.string ((rd_T68 l0_0 x45_2).f1.f4))) := ⟨_, rfl⟩
            have n0_ : Aside0 (w54.heap[gb244]? = some (.cells #[.slice (some ad250) l0_0.length c0_0, .slice A0_1 l0_1.length c0_1] 32 (0, 0))) := ⟨by rw [hW_]; exact zfar (zfar (zfar (zfar (zfar (zfar (zb BK244) NB244_251) NB244_251) NB244_251) NB244_251) NB244_251) NB244_251⟩; have n1_ : Aside0 (w54.heap[gb251]? = some (.cells #[.int .i64 ((rd_T68 l0_0 x45_2).f0), .int .i64 ((rd_T68 l0_0 x45_2).f1.f0), .int .i64 ((rd_T68 l0_0 x45_2).f1.f1), .int .i64 ((rd_T68 l0_0 x45_2).f1.f2), .int .i64 ((rd_T68 l0_0 x45_2).f1.f3), .string ((rd_T68 l0_0 x45_2).f1.f4)] 68 (0, 0))) := ⟨by rw [hW_]; exact zput (zput (zput (zput (zput (zput (zb BK251) 0) 1) 2) 3) 4) 5⟩; have n2_ : Aside0 (Below w.heap.size w w54) := ⟨by rw [hW_]; exact zB⟩
            rw [← hW_]
            clear hW_; (try clear BK244); (try clear BK251); (try clear HB); have BK244 := n0_; have BK251 := n1_; have HB := n2_; clear n0_ n1_ n2_; replace BK244 := zq BK244; replace BK251 := zq BK251; replace HB := zm (below_drew1 HB.out)
            refine start_ (n := 36) (S := fun w' => w'.cell? ⟨gb251, 0, none⟩ = some (.int .i64 ((rd_T68 l0_0 x45_2).f0)) ∧ w'.cell? ⟨gb251, 1, none⟩ = some (.int .i64 ((rd_T68 l0_0 x45_2).f1.f0)) ∧ w'.cell? ⟨gb251, 2, none⟩ = some (.int .i64 ((rd_T68 l0_0 x45_2).f1.f1)) ∧ w'.cell? ⟨gb251, 3, none⟩ = some (.int .i64 ((rd_T68 l0_0 x45_2).f1.f2)) ∧ w'.cell? ⟨gb251, 4, none⟩ = some (.int .i64 ((rd_T68 l0_0 x45_2).f1.f3)) ∧ w'.cell? ⟨gb251, 5, none⟩ = some (.string ((rd_T68 l0_0 x45_2).f1.f4)) ∧ w'.cell? ⟨gb244, 0, none⟩ = some (.slice (some ad250) l0_0.length c0_0) ∧ w'.cell? ⟨gb244, 1, none⟩ = some (.slice A0_1 l0_1.length c0_1)) (ds := []) (zl 36 0) (by kernel_rfl) rfl rfl zS (fun hHeld => ?_); refine with_tabW impl_StateOk.tab10 impl_StateOk.bits10 (fun HT_ HW_ => ?_)
            generalize w54.drew = w55 at BK244 BK251 HB hHeld ⊢
            refine zu 0 50 36 1 ?_
            refine zv 1 51 36 3 ?_
            refine zo 2 (some 52) (zl 36 7) (fun K hK => ?_); refine zgo #[.int .i64 ((rd_T68 l0_0 x45_2).f0)] Try.func94 ?_; (with_reducible refine (impl_isNode.calls ((rd_T68 l0_0 x45_2).f0) true _ A45.out).mono ?_); rintro e w' ⟨rfl, ⟨nd, rfl⟩⟩; refine ⟨_, rfl, ?_⟩; refine hK.out _ _ zS (fun hHeld => ?_); clear hK K; refine zn ?_
            refine zu 3 53 36 15 ?_
            refine zu 4 54 36 31 ?_
            refine zu 5 55 36 63 ?_
            refine zv 6 56 36 127 ?_
            refine zo 7 (some 57) (zl 36 255) (fun K hK => ?_); refine zgo #[.agg #[.int .i64 ((rd_T68 l0_0 x45_2).f1.f0), .int .i64 ((rd_T68 l0_0 x45_2).f1.f1), .int .i64 ((rd_T68 l0_0 x45_2).f1.f2), .int .i64 ((rd_T68 l0_0 x45_2).f1.f3), .string ((rd_T68 l0_0 x45_2).f1.f4)]] Try.func95 ?_; (with_reducible refine (impl_EntryOk.calls ((rd_T68 l0_0 x45_2).f1.f0) ((rd_T68 l0_0 x45_2).f1.f1) ((rd_T68 l0_0 x45_2).f1.f2) ((rd_T68 l0_0 x45_2).f1.f3) ((rd_T68 l0_0 x45_2).f1.f4) true _ A47.out).mono ?_); rintro e w56 ⟨rfl, hb⟩; refine ⟨_, rfl, ?_⟩; replace BK244 := zy BK244 hb; replace BK251 := zy BK251 hb; replace HB := zm (below_step zB hb); (try clear hb); refine hK.out _ _ zS (fun hHeld => ?_); clear hK K; refine zn ?_
            refine zu 8 58 36 511 ?_
            refine zu 9 59 36 1023 ?_
            refine zu 10 60 36 2047 ?_
            refine zu 11 61 36 4095 ?_
            refine zu 12 62 36 8191 ?_
            refine zu 15 65 36 40959 ?_
            refine zv 13 63 36 49151 ?_
            refine zv 14 64 36 65535 ?_
            refine zv 16 66 36 131071 ?_
            refine zo 17 (some 67) (zl 36 262143) (fun K hK => ?_); refine zgo #[.agg #[.slice (some ad250) l0_0.length c0_0, .slice A0_1 l0_1.length c0_1], .int .i64 ((rd_T68 l0_0 x45_2).f0)] Try.func77 ?_; (with_reducible refine (impl_FloorOf.calls k2 _ _ l0_0 _ _ l0_1 ((rd_T68 l0_0 x45_2).f0) t254 _ (zk (Kd.C_below HR0_0.out HB.out)) HC0_0.out (zk (Kd.C_below HR0_1.out HB.out)) HC0_1.out A49.out).mono ?_); rintro e w57 ⟨rfl, hb⟩; refine ⟨_, rfl, ?_⟩; replace BK244 := zy BK244 hb; replace BK251 := zy BK251 hb; replace HB := zm (below_step zB hb); (try clear hb); refine hK.out _ _ zS (fun hHeld => ?_); clear hK K; refine zn ?_
            refine zu 18 68 36 524287 ?_
            refine zu 19 69 36 1048575 ?_
            refine zu 20 70 36 2097151 ?_
            refine zu 21 71 36 4194303 ?_
            refine zu 22 72 36 8388607 ?_
            refine zu 23 73 36 16777215 ?_
            refine zu 24 74 36 33554431 ?_
            refine zu 25 75 36 67108863 ?_
            refine zu 26 76 36 134217727 ?_
            refine zu 27 77 36 268435455 ?_
            refine zu 28 78 36 536870911 ?_
            refine zu 29 79 36 1073741823 ?_
            refine zu 30 80 36 2147483647 ?_
            refine zu 31 81 36 4294967295 ?_
            refine zu 32 82 36 8589934591 ?_
            refine zu 33 83 36 17179869183 ?_
            refine zu 34 84 36 34359738367 ?_
            refine zu 35 85 36 68719476735 ?_
            refine done_ (done_of HT_.out (by kernel_rfl)) ?_
            try go_wp2
            go_ret
            exact ⟨zE, zB⟩
           ·rw [if_neg c50] at H; have c50b0 : decide (((rd_T68 l0_0 x45_2).f1.f0) ≤ t254) = false := decide_eq_false c50; clear c50
            by_cases c58 : x45_2 > 0
            ·rw [if_pos c58] at H; have c58b0 : decide (0 < x45_2) = true := decide_eq_true c58; clear c58
             obtain ⟨ji59, hji59⟩ : ∃ j_ : Int, (wrap64 (x45_2 - 1)) = j_ := ⟨_, rfl⟩
             replace H : (if 0 ≤ (ji59) then (if (ji59) < (l0_0.length : Int) then (if ((rd_T68 l0_0 (ji59)).f0) ≥ ((rd_T68 l0_0 x45_2).f0) then (some false) else (impl_StateOk.l1 k2 l0_0 (l0_0.length : Int) (wrap64 (x45_2 + 1)) l0_0 l0_1)) else (none)) else (none)) = some r := by first | (rw [hji59] at H; exact H) | (simp only [hji59] at H ⊢; exact H)
             (try rw [hji59] at A45)
             (try rw [hji59] at A47)
             (try rw [hji59] at A49)
             have hji59w : (IntKind.i64.wrap (x45_2 - 1)) = ji59 := (i64_w _).trans hji59
             by_cases c60 : 0 ≤ (ji59)
             ·rw [if_pos c60] at H; have c60b0 : decide (0 ≤ (ji59)) = true := decide_eq_true c60; clear c60
              by_cases c61 : (ji59) < (l0_0.length : Int)
              ·rw [if_pos c61] at H; have c61b0 : decide ((ji59) < (l0_0.length : Int)) = true := decide_eq_true c61; clear c61
               by_cases c62 : ((rd_T68 l0_0 (ji59)).f0) ≥ ((rd_T68 l0_0 x45_2).f0)
               ·rw [if_pos c62] at H; have c62b0 : decide (((rd_T68 l0_0 x45_2).f0) ≤ ((rd_T68 l0_0 (ji59)).f0)) = true := decide_eq_true c62; clear c62; obtain rfl := Option.some.inj H; have p250 : 0 ≤ (x45_2 : Int) := zd; have q250 : x45_2 < (l0_0.length : Int) := zd; obtain ⟨ad250, e250, hx250_0, hx250_1, hx250_2, hx250_3, hx250_4, hx250_5⟩ := at_T68 (Kd.C_below HR0_0.out HB.out) x45_2 p250 q250; cases e250; replace p250 := eq_true p250; replace q250 := eq_true q250
                try go_wp2_with (first | (refine zbox 6 #[.int .i64 0, .int .i64 0, .int .i64 0, .int .i64 0, .int .i64 0, .string (⟨#[]⟩ : ByteArray)] 68 ?_; intro gb251 hg w63 hbox hb; have BK251 := zm (hbox); have GW251 := zge w hg zB; have GE251 := zge w hg zB; replace HB := zm (below_step zB hb); have NB244_251 := zlt hg (zb BK244); have NB251_244 := zgt hg (zb BK244); replace BK244 := zy BK244 hb; clear hb hbox hg; have hnb64 := NB251_244.out; have hnc64 := NB244_251.out; obtain ⟨hcz65_0, hcz65_1, hcz65_2, hcz65_3, hcz65_4, hcz65_5, hfz65_0, hfz65_1, hfz65_2, hfz65_3, hfz65_4, hfz65_5⟩ := zc6 BK251))
                obtain ⟨w66, hW_⟩ : ∃ q, q = ((((((w63.setCell ⟨gb251, 0, none⟩ (.int .i64 ((rd_T68 l0_0 x45_2).f0))).setCell ⟨gb251, 1, none⟩ (.int .i64 ((rd_T68 l0_0 x45_2).f1.f0))).setCell ⟨gb251, 2, none⟩ (.int .i64 ((rd_T68 l0_0 x45_2).f1.f1))).setCell ⟨gb251, 3, none⟩ (.int .i64 ((rd_T68 l0_0 x45_2).f1.f2))).setCell ⟨gb251, 4, none⟩ (.int .i64 ((rd_T68 l0_0 x45_2).f1.f3))).setCell ⟨gb251, 5, none⟩ (.string ((rd_T68 l0_0 x45_2).f1.f4))) := ⟨_, rfl⟩
                have n0_ : Aside0 (w66.heap[gb244]? = some (.cells #[.slice (some ad250) l0_0.length c0_0, .slice A0_1 l0_1.length c0_1] 32 (0, 0))) := ⟨by rw [hW_]; exact zfar (zfar (zfar (zfar (zfar (zfar (zb BK244) NB244_251) NB244_251) NB244_251) NB244_251) NB244_251) NB244_251⟩; have n1_ : Aside0 (w66.heap[gb251]? = some (.cells #[.int .i64 ((rd_T68 l0_0 x45_2).f0), .int .i64 ((rd_T68 l0_0 x45_2).f1.f0), .int .i64 ((rd_T68 l0_0 x45_2).f1.f1), .int .i64 ((rd_T68 l0_0 x45_2).f1.f2), .int .i64 ((rd_T68 l0_0 x45_2).f1.f3), .string ((rd_T68 l0_0 x45_2).f1.f4)] 68 (0, 0))) := ⟨by rw [hW_]; exact zput (zput (zput (zput (zput (zput (zb BK251) 0) 1) 2) 3) 4) 5⟩; have n2_ : Aside0 (Below w.heap.size w w66) := ⟨by rw [hW_]; exact zB⟩
                rw [← hW_]
                clear hW_; (try clear BK244); (try clear BK251); (try clear HB); have BK244 := n0_; have BK251 := n1_; have HB := n2_; clear n0_ n1_ n2_; replace BK244 := zq BK244; replace BK251 := zq BK251; replace HB := zm (below_drew1 HB.out); have p255 : 0 ≤ ((ji59) : Int) := zd; have q255 : (ji59) < (l0_0.length : Int) := zd; obtain ⟨ad255, e255, hx255_0, hx255_1, hx255_2, hx255_3, hx255_4, hx255_5⟩ := at_T68 HR0_0.out (ji59) p255 q255; have hw255_5 := hx255_5; have hw255_4 := hx255_4; have hw255_3 := hx255_3; have hw255_2 := hx255_2; have hw255_1 := hx255_1; have hw255_0 := hx255_0
                obtain rfl : ad250 = ad255 := (by injection e255)
                replace hx255_0 := zx HB hx255_0; replace hx255_1 := zx HB hx255_1; replace hx255_2 := zx HB hx255_2; replace hx255_3 := zx HB hx255_3; replace hx255_4 := zx HB hx255_4; replace hx255_5 := zx HB hx255_5; replace p255 := eq_true p255; replace q255 := eq_true q255
                refine start_ (n := 36) (S := fun w' => w'.cell? ⟨gb251, 0, none⟩ = some (.int .i64 ((rd_T68 l0_0 x45_2).f0)) ∧ w'.cell? ⟨gb251, 1, none⟩ = some (.int .i64 ((rd_T68 l0_0 x45_2).f1.f0)) ∧ w'.cell? ⟨gb251, 2, none⟩ = some (.int .i64 ((rd_T68 l0_0 x45_2).f1.f1)) ∧ w'.cell? ⟨gb251, 3, none⟩ = some (.int .i64 ((rd_T68 l0_0 x45_2).f1.f2)) ∧ w'.cell? ⟨gb251, 4, none⟩ = some (.int .i64 ((rd_T68 l0_0 x45_2).f1.f3)) ∧ w'.cell? ⟨gb251, 5, none⟩ = some (.string ((rd_T68 l0_0 x45_2).f1.f4)) ∧ w'.cell? ⟨gb244, 0, none⟩ = some (.slice (some ad250) l0_0.length c0_0) ∧ w'.cell? ⟨gb244, 1, none⟩ = some (.slice A0_1 l0_1.length c0_1) ∧ w'.cell? (ad250.add (((ji59)).toNat * 6)) = some (.int .i64 ((rd_T68 l0_0 (ji59)).f0)) ∧ w'.cell? ⟨(ad250.add (((ji59)).toNat * 6)).block, (ad250.add (((ji59)).toNat * 6)).off + 1, none⟩ = some (.int .i64 ((rd_T68 l0_0 (ji59)).f1.f0)) ∧ w'.cell? ⟨(ad250.add (((ji59)).toNat * 6)).block, (ad250.add (((ji59)).toNat * 6)).off + 2, none⟩ = some (.int .i64 ((rd_T68 l0_0 (ji59)).f1.f1)) ∧ w'.cell? ⟨(ad250.add (((ji59)).toNat * 6)).block, (ad250.add (((ji59)).toNat * 6)).off + 3, none⟩ = some (.int .i64 ((rd_T68 l0_0 (ji59)).f1.f2)) ∧ w'.cell? ⟨(ad250.add (((ji59)).toNat * 6)).block, (ad250.add (((ji59)).toNat * 6)).off + 4, none⟩ = some (.int .i64 ((rd_T68 l0_0 (ji59)).f1.f3)) ∧ w'.cell? ⟨(ad250.add (((ji59)).toNat * 6)).block, (ad250.add (((ji59)).toNat * 6)).off + 5, none⟩ = some (.string ((rd_T68 l0_0 (ji59)).f1.f4))) (ds := []) (zl 36 0) (by kernel_rfl) rfl rfl zS (fun hHeld => ?_); refine with_tabW impl_StateOk.tab10 impl_StateOk.bits10 (fun HT_ HW_ => ?_)
                generalize w66.drew = w67 at BK244 BK251 HB hx255_0 hx255_1 hx255_2 hx255_3 hx255_4 hx255_5 hHeld ⊢
                refine zu 0 50 36 1 ?_
                refine zv 1 51 36 3 ?_
                refine zo 2 (some 52) (zl 36 7) (fun K hK => ?_); refine zgo #[.int .i64 ((rd_T68 l0_0 x45_2).f0)] Try.func94 ?_; (with_reducible refine (impl_isNode.calls ((rd_T68 l0_0 x45_2).f0) true _ A45.out).mono ?_); rintro e w' ⟨rfl, ⟨nd, rfl⟩⟩; refine ⟨_, rfl, ?_⟩; refine hK.out _ _ zS (fun hHeld => ?_); clear hK K; refine zn ?_
                refine zu 3 53 36 15 ?_
                refine zu 4 54 36 31 ?_
                refine zu 5 55 36 63 ?_
                refine zv 6 56 36 127 ?_
                refine zo 7 (some 57) (zl 36 255) (fun K hK => ?_); refine zgo #[.agg #[.int .i64 ((rd_T68 l0_0 x45_2).f1.f0), .int .i64 ((rd_T68 l0_0 x45_2).f1.f1), .int .i64 ((rd_T68 l0_0 x45_2).f1.f2), .int .i64 ((rd_T68 l0_0 x45_2).f1.f3), .string ((rd_T68 l0_0 x45_2).f1.f4)]] Try.func95 ?_; (with_reducible refine (impl_EntryOk.calls ((rd_T68 l0_0 x45_2).f1.f0) ((rd_T68 l0_0 x45_2).f1.f1) ((rd_T68 l0_0 x45_2).f1.f2) ((rd_T68 l0_0 x45_2).f1.f3) ((rd_T68 l0_0 x45_2).f1.f4) true _ A47.out).mono ?_); rintro e w68 ⟨rfl, hb⟩; refine ⟨_, rfl, ?_⟩; replace BK244 := zy BK244 hb; replace BK251 := zy BK251 hb; replace HB := zm (below_step zB hb); (try clear hb); refine hK.out _ _ zS (fun hHeld => ?_); clear hK K; refine zn ?_
                refine zu 8 58 36 511 ?_
                refine zu 9 59 36 1023 ?_
                refine zu 10 60 36 2047 ?_
                refine zu 11 61 36 4095 ?_
                refine zu 12 62 36 8191 ?_
                refine zu 15 65 36 40959 ?_
                refine zv 13 63 36 49151 ?_
                refine zv 14 64 36 65535 ?_
                refine zv 16 66 36 131071 ?_
                refine zo 17 (some 67) (zl 36 262143) (fun K hK => ?_); refine zgo #[.agg #[.slice (some ad250) l0_0.length c0_0, .slice A0_1 l0_1.length c0_1], .int .i64 ((rd_T68 l0_0 x45_2).f0)] Try.func77 ?_; (with_reducible refine (impl_FloorOf.calls k2 _ _ l0_0 _ _ l0_1 ((rd_T68 l0_0 x45_2).f0) t254 _ (zk (Kd.C_below HR0_0.out HB.out)) HC0_0.out (zk (Kd.C_below HR0_1.out HB.out)) HC0_1.out A49.out).mono ?_); rintro e w69 ⟨rfl, hb⟩; refine ⟨_, rfl, ?_⟩; replace BK244 := zy BK244 hb; replace BK251 := zy BK251 hb; replace HB := zm (below_step zB hb); (try clear hb); refine hK.out _ _ zS (fun hHeld => ?_); clear hK K; refine zn ?_
                refine zu 18 68 36 524287 ?_
                refine zu 19 69 36 1048575 ?_
                refine zu 20 70 36 2097151 ?_
                refine zu 21 71 36 4194303 ?_
                refine zu 22 72 36 8388607 ?_
                refine zu 23 73 36 16777215 ?_
                refine zu 24 74 36 33554431 ?_
                refine zu 26 76 36 100663295 ?_
                refine zu 27 77 36 234881023 ?_
                refine zu 31 81 36 2382364671 ?_
                refine zv 25 75 36 2415919103 ?_
                refine zu 28 78 36 2684354559 ?_
                refine zu 29 79 36 3221225471 ?_
                refine zv 30 80 36 4294967295 ?_
                refine zv 32 82 36 8589934591 ?_
                refine zu 33 83 36 17179869183 ?_
                refine zu 34 84 36 34359738367 ?_
                refine zu 35 85 36 68719476735 ?_
                refine done_ (done_of HT_.out (by kernel_rfl)) ?_
                try go_wp2
                go_ret
                exact ⟨by first | rfl | (simp [errW_none, errW_some] <;> rfl) | (simp only [← hji59]; first | rfl | (simp [errW_none, errW_some] <;> rfl)) | (simp [*, errW_none, errW_some] <;> rfl), zB⟩
               ·rw [if_neg c62] at H; have c62b0 : decide (((rd_T68 l0_0 x45_2).f0) ≤ ((rd_T68 l0_0 (ji59)).f0)) = false := decide_eq_false c62; clear c62
                have H' := zm H
                clear H; have p250 : 0 ≤ (x45_2 : Int) := zd; have q250 : x45_2 < (l0_0.length : Int) := zd; obtain ⟨ad250, e250, hx250_0, hx250_1, hx250_2, hx250_3, hx250_4, hx250_5⟩ := at_T68 (Kd.C_below HR0_0.out HB.out) x45_2 p250 q250; cases e250; replace p250 := eq_true p250; replace q250 := eq_true q250
                try go_wp2_with (first | (refine zbox 6 #[.int .i64 0, .int .i64 0, .int .i64 0, .int .i64 0, .int .i64 0, .string (⟨#[]⟩ : ByteArray)] 68 ?_; intro gb251 hg w70 hbox hb; have BK251 := zm (hbox); have GW251 := zge w hg zB; have GE251 := zge w hg zB; replace HB := zm (below_step zB hb); have NB244_251 := zlt hg (zb BK244); have NB251_244 := zgt hg (zb BK244); replace BK244 := zy BK244 hb; clear hb hbox hg; have hnb71 := NB251_244.out; have hnc71 := NB244_251.out; obtain ⟨hcz72_0, hcz72_1, hcz72_2, hcz72_3, hcz72_4, hcz72_5, hfz72_0, hfz72_1, hfz72_2, hfz72_3, hfz72_4, hfz72_5⟩ := zc6 BK251))
                obtain ⟨w73, hW_⟩ : ∃ q, q = ((((((w70.setCell ⟨gb251, 0, none⟩ (.int .i64 ((rd_T68 l0_0 x45_2).f0))).setCell ⟨gb251, 1, none⟩ (.int .i64 ((rd_T68 l0_0 x45_2).f1.f0))).setCell ⟨gb251, 2, none⟩ (.int .i64 ((rd_T68 l0_0 x45_2).f1.f1))).setCell ⟨gb251, 3, none⟩ (.int .i64 ((rd_T68 l0_0 x45_2).f1.f2))).setCell ⟨gb251, 4, none⟩ (.int .i64 ((rd_T68 l0_0 x45_2).f1.f3))).setCell ⟨gb251, 5, none⟩ (.string ((rd_T68 l0_0 x45_2).f1.f4))) := ⟨_, rfl⟩
                have n0_ : Aside0 (w73.heap[gb244]? = some (.cells #[.slice (some ad250) l0_0.length c0_0, .slice A0_1 l0_1.length c0_1] 32 (0, 0))) := ⟨by rw [hW_]; exact zfar (zfar (zfar (zfar (zfar (zfar (zb BK244) NB244_251) NB244_251) NB244_251) NB244_251) NB244_251) NB244_251⟩; have n1_ : Aside0 (w73.heap[gb251]? = some (.cells #[.int .i64 ((rd_T68 l0_0 x45_2).f0), .int .i64 ((rd_T68 l0_0 x45_2).f1.f0), .int .i64 ((rd_T68 l0_0 x45_2).f1.f1), .int .i64 ((rd_T68 l0_0 x45_2).f1.f2), .int .i64 ((rd_T68 l0_0 x45_2).f1.f3), .string ((rd_T68 l0_0 x45_2).f1.f4)] 68 (0, 0))) := ⟨by rw [hW_]; exact zput (zput (zput (zput (zput (zput (zb BK251) 0) 1) 2) 3) 4) 5⟩; have n2_ : Aside0 (Below w.heap.size w w73) := ⟨by rw [hW_]; exact zB⟩
                rw [← hW_]
                clear hW_; (try clear BK244); (try clear BK251); (try clear HB); have BK244 := n0_; have BK251 := n1_; have HB := n2_; clear n0_ n1_ n2_; replace BK244 := zq BK244; replace BK251 := zq BK251; replace HB := zm (below_drew1 HB.out); have p255 : 0 ≤ ((ji59) : Int) := zd; have q255 : (ji59) < (l0_0.length : Int) := zd; obtain ⟨ad255, e255, hx255_0, hx255_1, hx255_2, hx255_3, hx255_4, hx255_5⟩ := at_T68 HR0_0.out (ji59) p255 q255; have hw255_5 := hx255_5; have hw255_4 := hx255_4; have hw255_3 := hx255_3; have hw255_2 := hx255_2; have hw255_1 := hx255_1; have hw255_0 := hx255_0
                obtain rfl : ad250 = ad255 := (by injection e255)
                replace hx255_0 := zx HB hx255_0; replace hx255_1 := zx HB hx255_1; replace hx255_2 := zx HB hx255_2; replace hx255_3 := zx HB hx255_3; replace hx255_4 := zx HB hx255_4; replace hx255_5 := zx HB hx255_5; replace p255 := eq_true p255; replace q255 := eq_true q255
                refine start_ (n := 36) (S := fun w' => w'.cell? ⟨gb251, 0, none⟩ = some (.int .i64 ((rd_T68 l0_0 x45_2).f0)) ∧ w'.cell? ⟨gb251, 1, none⟩ = some (.int .i64 ((rd_T68 l0_0 x45_2).f1.f0)) ∧ w'.cell? ⟨gb251, 2, none⟩ = some (.int .i64 ((rd_T68 l0_0 x45_2).f1.f1)) ∧ w'.cell? ⟨gb251, 3, none⟩ = some (.int .i64 ((rd_T68 l0_0 x45_2).f1.f2)) ∧ w'.cell? ⟨gb251, 4, none⟩ = some (.int .i64 ((rd_T68 l0_0 x45_2).f1.f3)) ∧ w'.cell? ⟨gb251, 5, none⟩ = some (.string ((rd_T68 l0_0 x45_2).f1.f4)) ∧ w'.cell? ⟨gb244, 0, none⟩ = some (.slice (some ad250) l0_0.length c0_0) ∧ w'.cell? ⟨gb244, 1, none⟩ = some (.slice A0_1 l0_1.length c0_1) ∧ w'.cell? (ad250.add (((ji59)).toNat * 6)) = some (.int .i64 ((rd_T68 l0_0 (ji59)).f0)) ∧ w'.cell? ⟨(ad250.add (((ji59)).toNat * 6)).block, (ad250.add (((ji59)).toNat * 6)).off + 1, none⟩ = some (.int .i64 ((rd_T68 l0_0 (ji59)).f1.f0)) ∧ w'.cell? ⟨(ad250.add (((ji59)).toNat * 6)).block, (ad250.add (((ji59)).toNat * 6)).off + 2, none⟩ = some (.int .i64 ((rd_T68 l0_0 (ji59)).f1.f1)) ∧ w'.cell? ⟨(ad250.add (((ji59)).toNat * 6)).block, (ad250.add (((ji59)).toNat * 6)).off + 3, none⟩ = some (.int .i64 ((rd_T68 l0_0 (ji59)).f1.f2)) ∧ w'.cell? ⟨(ad250.add (((ji59)).toNat * 6)).block, (ad250.add (((ji59)).toNat * 6)).off + 4, none⟩ = some (.int .i64 ((rd_T68 l0_0 (ji59)).f1.f3)) ∧ w'.cell? ⟨(ad250.add (((ji59)).toNat * 6)).block, (ad250.add (((ji59)).toNat * 6)).off + 5, none⟩ = some (.string ((rd_T68 l0_0 (ji59)).f1.f4))) (ds := []) (zl 36 0) (by kernel_rfl) rfl rfl zS (fun hHeld => ?_); refine with_tabW impl_StateOk.tab10 impl_StateOk.bits10 (fun HT_ HW_ => ?_)
                generalize w73.drew = w74 at BK244 BK251 HB hx255_0 hx255_1 hx255_2 hx255_3 hx255_4 hx255_5 hHeld ⊢
                refine zu 0 50 36 1 ?_
                refine zv 1 51 36 3 ?_
                refine zo 2 (some 52) (zl 36 7) (fun K hK => ?_); refine zgo #[.int .i64 ((rd_T68 l0_0 x45_2).f0)] Try.func94 ?_; (with_reducible refine (impl_isNode.calls ((rd_T68 l0_0 x45_2).f0) true _ A45.out).mono ?_); rintro e w' ⟨rfl, ⟨nd, rfl⟩⟩; refine ⟨_, rfl, ?_⟩; refine hK.out _ _ zS (fun hHeld => ?_); clear hK K; refine zn ?_
                refine zu 3 53 36 15 ?_
                refine zu 4 54 36 31 ?_
                refine zu 5 55 36 63 ?_
                refine zv 6 56 36 127 ?_
                refine zo 7 (some 57) (zl 36 255) (fun K hK => ?_); refine zgo #[.agg #[.int .i64 ((rd_T68 l0_0 x45_2).f1.f0), .int .i64 ((rd_T68 l0_0 x45_2).f1.f1), .int .i64 ((rd_T68 l0_0 x45_2).f1.f2), .int .i64 ((rd_T68 l0_0 x45_2).f1.f3), .string ((rd_T68 l0_0 x45_2).f1.f4)]] Try.func95 ?_; (with_reducible refine (impl_EntryOk.calls ((rd_T68 l0_0 x45_2).f1.f0) ((rd_T68 l0_0 x45_2).f1.f1) ((rd_T68 l0_0 x45_2).f1.f2) ((rd_T68 l0_0 x45_2).f1.f3) ((rd_T68 l0_0 x45_2).f1.f4) true _ A47.out).mono ?_); rintro e w75 ⟨rfl, hb⟩; refine ⟨_, rfl, ?_⟩; replace BK244 := zy BK244 hb; replace BK251 := zy BK251 hb; replace HB := zm (below_step zB hb); (try clear hb); refine hK.out _ _ zS (fun hHeld => ?_); clear hK K; refine zn ?_
                refine zu 8 58 36 511 ?_
                refine zu 9 59 36 1023 ?_
                refine zu 10 60 36 2047 ?_
                refine zu 11 61 36 4095 ?_
                refine zu 12 62 36 8191 ?_
                refine zu 15 65 36 40959 ?_
                refine zv 13 63 36 49151 ?_
                refine zv 14 64 36 65535 ?_
                refine zv 16 66 36 131071 ?_
                refine zo 17 (some 67) (zl 36 262143) (fun K hK => ?_); refine zgo #[.agg #[.slice (some ad250) l0_0.length c0_0, .slice A0_1 l0_1.length c0_1], .int .i64 ((rd_T68 l0_0 x45_2).f0)] Try.func77 ?_; (with_reducible refine (impl_FloorOf.calls k2 _ _ l0_0 _ _ l0_1 ((rd_T68 l0_0 x45_2).f0) t254 _ (zk (Kd.C_below HR0_0.out HB.out)) HC0_0.out (zk (Kd.C_below HR0_1.out HB.out)) HC0_1.out A49.out).mono ?_); rintro e w76 ⟨rfl, hb⟩; refine ⟨_, rfl, ?_⟩; replace BK244 := zy BK244 hb; replace BK251 := zy BK251 hb; replace HB := zm (below_step zB hb); (try clear hb); refine hK.out _ _ zS (fun hHeld => ?_); clear hK K; refine zn ?_
                refine zu 18 68 36 524287 ?_
                refine zu 19 69 36 1048575 ?_
                refine zu 20 70 36 2097151 ?_
                refine zu 21 71 36 4194303 ?_
                refine zu 22 72 36 8388607 ?_
                refine zu 23 73 36 16777215 ?_
                refine zu 24 74 36 33554431 ?_
                refine zu 26 76 36 100663295 ?_
                refine zu 27 77 36 234881023 ?_
                refine zu 31 81 36 2382364671 ?_
                refine zv 25 75 36 2415919103 ?_
                refine zu 28 78 36 2684354559 ?_
                refine zu 29 79 36 3221225471 ?_
                refine zv 30 80 36 4294967295 ?_
                refine zv 32 82 36 8589934591 ?_
                refine zu 33 83 36 17179869183 ?_
                refine zu 34 84 36 34359738367 ?_
                refine zu 35 85 36 68719476735 ?_
                refine done_ (done_of HT_.out (by kernel_rfl)) ?_
                try go_wp2
                go_roundg k2
                case measure => have := HK1.out; have := HK2.out; omega
                case rel => exact ⟨(wrap64 (x45_2 + 1)), zF, H', ⟨by have := HK1.out; have := HK2.out; omega⟩, ⟨zb BK244⟩, ⟨zB⟩⟩
              ·rw [if_neg c61] at H
               exact absurd H (by simp)
             ·rw [if_neg c60] at H
              exact absurd H (by simp)
            ·rw [if_neg c58] at H; have c58b0 : decide (0 < x45_2) = false := decide_eq_false c58; clear c58
             have H' := zm H
             clear H; have p250 : 0 ≤ (x45_2 : Int) := zd; have q250 : x45_2 < (l0_0.length : Int) := zd; obtain ⟨ad250, e250, hx250_0, hx250_1, hx250_2, hx250_3, hx250_4, hx250_5⟩ := at_T68 (Kd.C_below HR0_0.out HB.out) x45_2 p250 q250; cases e250; replace p250 := eq_true p250; replace q250 := eq_true q250
             try go_wp2_with (first | (refine zbox 6 #[.int .i64 0, .int .i64 0, .int .i64 0, .int .i64 0, .int .i64 0, .string (⟨#[]⟩ : ByteArray)] 68 ?_; intro gb251 hg w77 hbox hb; have BK251 := zm (hbox); have GW251 := zge w hg zB; have GE251 := zge w hg zB; replace HB := zm (below_step zB hb); have NB244_251 := zlt hg (zb BK244); have NB251_244 := zgt hg (zb BK244); replace BK244 := zy BK244 hb; clear hb hbox hg; have hnb78 := NB251_244.out; have hnc78 := NB244_251.out; obtain ⟨hcz79_0, hcz79_1, hcz79_2, hcz79_3, hcz79_4, hcz79_5, hfz79_0, hfz79_1, hfz79_2, hfz79_3, hfz79_4, hfz79_5⟩ := zc6 BK251))
             obtain ⟨w80, hW_⟩ : ∃ q, q = ((((((w77.setCell ⟨gb251, 0, none⟩ (.int .i64 ((rd_T68 l0_0 x45_2).f0))).setCell ⟨gb251, 1, none⟩ (.int .i64 ((rd_T68 l0_0 x45_2).f1.f0))).setCell ⟨gb251, 2, none⟩ (.int .i64 ((rd_T68 l0_0 x45_2).f1.f1))).setCell ⟨gb251, 3, none⟩ (.int .i64 ((rd_T68 l0_0 x45_2).f1.f2))).setCell ⟨gb251, 4, none⟩ (.int .i64 ((rd_T68 l0_0 x45_2).f1.f3))).setCell ⟨gb251, 5, none⟩ (.string ((rd_T68 l0_0 x45_2).f1.f4))) := ⟨_, rfl⟩
             have n0_ : Aside0 (w80.heap[gb244]? = some (.cells #[.slice (some ad250) l0_0.length c0_0, .slice A0_1 l0_1.length c0_1] 32 (0, 0))) := ⟨by rw [hW_]; exact zfar (zfar (zfar (zfar (zfar (zfar (zb BK244) NB244_251) NB244_251) NB244_251) NB244_251) NB244_251) NB244_251⟩; have n1_ : Aside0 (w80.heap[gb251]? = some (.cells #[.int .i64 ((rd_T68 l0_0 x45_2).f0), .int .i64 ((rd_T68 l0_0 x45_2).f1.f0), .int .i64 ((rd_T68 l0_0 x45_2).f1.f1), .int .i64 ((rd_T68 l0_0 x45_2).f1.f2), .int .i64 ((rd_T68 l0_0 x45_2).f1.f3), .string ((rd_T68 l0_0 x45_2).f1.f4)] 68 (0, 0))) := ⟨by rw [hW_]; exact zput (zput (zput (zput (zput (zput (zb BK251) 0) 1) 2) 3) 4) 5⟩; have n2_ : Aside0 (Below w.heap.size w w80) := ⟨by rw [hW_]; exact zB⟩
             rw [← hW_]
             clear hW_; (try clear BK244); (try clear BK251); (try clear HB); have BK244 := n0_; have BK251 := n1_; have HB := n2_; clear n0_ n1_ n2_; replace BK244 := zq BK244; replace BK251 := zq BK251; replace HB := zm (below_drew1 HB.out)
             refine start_ (n := 36) (S := fun w' => w'.cell? ⟨gb251, 0, none⟩ = some (.int .i64 ((rd_T68 l0_0 x45_2).f0)) ∧ w'.cell? ⟨gb251, 1, none⟩ = some (.int .i64 ((rd_T68 l0_0 x45_2).f1.f0)) ∧ w'.cell? ⟨gb251, 2, none⟩ = some (.int .i64 ((rd_T68 l0_0 x45_2).f1.f1)) ∧ w'.cell? ⟨gb251, 3, none⟩ = some (.int .i64 ((rd_T68 l0_0 x45_2).f1.f2)) ∧ w'.cell? ⟨gb251, 4, none⟩ = some (.int .i64 ((rd_T68 l0_0 x45_2).f1.f3)) ∧ w'.cell? ⟨gb251, 5, none⟩ = some (.string ((rd_T68 l0_0 x45_2).f1.f4)) ∧ w'.cell? ⟨gb244, 0, none⟩ = some (.slice (some ad250) l0_0.length c0_0) ∧ w'.cell? ⟨gb244, 1, none⟩ = some (.slice A0_1 l0_1.length c0_1)) (ds := []) (zl 36 0) (by kernel_rfl) rfl rfl zS (fun hHeld => ?_); refine with_tabW impl_StateOk.tab10 impl_StateOk.bits10 (fun HT_ HW_ => ?_)
             generalize w80.drew = w81 at BK244 BK251 HB hHeld ⊢
             refine zu 0 50 36 1 ?_
             refine zv 1 51 36 3 ?_
             refine zo 2 (some 52) (zl 36 7) (fun K hK => ?_); refine zgo #[.int .i64 ((rd_T68 l0_0 x45_2).f0)] Try.func94 ?_; (with_reducible refine (impl_isNode.calls ((rd_T68 l0_0 x45_2).f0) true _ A45.out).mono ?_); rintro e w' ⟨rfl, ⟨nd, rfl⟩⟩; refine ⟨_, rfl, ?_⟩; refine hK.out _ _ zS (fun hHeld => ?_); clear hK K; refine zn ?_
             refine zu 3 53 36 15 ?_
             refine zu 4 54 36 31 ?_
             refine zu 5 55 36 63 ?_
             refine zv 6 56 36 127 ?_
             refine zo 7 (some 57) (zl 36 255) (fun K hK => ?_); refine zgo #[.agg #[.int .i64 ((rd_T68 l0_0 x45_2).f1.f0), .int .i64 ((rd_T68 l0_0 x45_2).f1.f1), .int .i64 ((rd_T68 l0_0 x45_2).f1.f2), .int .i64 ((rd_T68 l0_0 x45_2).f1.f3), .string ((rd_T68 l0_0 x45_2).f1.f4)]] Try.func95 ?_; (with_reducible refine (impl_EntryOk.calls ((rd_T68 l0_0 x45_2).f1.f0) ((rd_T68 l0_0 x45_2).f1.f1) ((rd_T68 l0_0 x45_2).f1.f2) ((rd_T68 l0_0 x45_2).f1.f3) ((rd_T68 l0_0 x45_2).f1.f4) true _ A47.out).mono ?_); rintro e w82 ⟨rfl, hb⟩; refine ⟨_, rfl, ?_⟩; replace BK244 := zy BK244 hb; replace BK251 := zy BK251 hb; replace HB := zm (below_step zB hb); (try clear hb); refine hK.out _ _ zS (fun hHeld => ?_); clear hK K; refine zn ?_
             refine zu 8 58 36 511 ?_
             refine zu 9 59 36 1023 ?_
             refine zu 10 60 36 2047 ?_
             refine zu 11 61 36 4095 ?_
             refine zu 12 62 36 8191 ?_
             refine zu 15 65 36 40959 ?_
             refine zv 13 63 36 49151 ?_
             refine zv 14 64 36 65535 ?_
             refine zv 16 66 36 131071 ?_
             refine zo 17 (some 67) (zl 36 262143) (fun K hK => ?_); refine zgo #[.agg #[.slice (some ad250) l0_0.length c0_0, .slice A0_1 l0_1.length c0_1], .int .i64 ((rd_T68 l0_0 x45_2).f0)] Try.func77 ?_; (with_reducible refine (impl_FloorOf.calls k2 _ _ l0_0 _ _ l0_1 ((rd_T68 l0_0 x45_2).f0) t254 _ (zk (Kd.C_below HR0_0.out HB.out)) HC0_0.out (zk (Kd.C_below HR0_1.out HB.out)) HC0_1.out A49.out).mono ?_); rintro e w83 ⟨rfl, hb⟩; refine ⟨_, rfl, ?_⟩; replace BK244 := zy BK244 hb; replace BK251 := zy BK251 hb; replace HB := zm (below_step zB hb); (try clear hb); refine hK.out _ _ zS (fun hHeld => ?_); clear hK K; refine zn ?_
             refine zu 18 68 36 524287 ?_
             refine zu 19 69 36 1048575 ?_
             refine zu 20 70 36 2097151 ?_
             refine zu 21 71 36 4194303 ?_
             refine zu 22 72 36 8388607 ?_
             refine zu 23 73 36 16777215 ?_
             refine zu 24 74 36 33554431 ?_
             refine zu 25 75 36 67108863 ?_
             refine zu 26 76 36 134217727 ?_
             refine zu 27 77 36 268435455 ?_
             refine zu 28 78 36 536870911 ?_
             refine zu 29 79 36 1073741823 ?_
             refine zu 30 80 36 2147483647 ?_
             refine zu 31 81 36 4294967295 ?_
             refine zu 32 82 36 8589934591 ?_
             refine zu 33 83 36 17179869183 ?_
             refine zu 34 84 36 34359738367 ?_
             refine zu 35 85 36 68719476735 ?_
             refine done_ (done_of HT_.out (by kernel_rfl)) ?_
             try go_wp2
             go_roundg k2
             case measure => have := HK1.out; have := HK2.out; omega
             case rel => exact ⟨(wrap64 (x45_2 + 1)), zF, H', ⟨by have := HK1.out; have := HK2.out; omega⟩, ⟨zb BK244⟩, ⟨zB⟩⟩
          ·replace c48 := Bool.eq_false_iff.mpr c48; subst c48; rw [zff] at H; obtain rfl := Option.some.inj H; have p250 : 0 ≤ (x45_2 : Int) := zd; have q250 : x45_2 < (l0_0.length : Int) := zd; obtain ⟨ad250, e250, hx250_0, hx250_1, hx250_2, hx250_3, hx250_4, hx250_5⟩ := at_T68 (Kd.C_below HR0_0.out HB.out) x45_2 p250 q250; cases e250; replace p250 := eq_true p250; replace q250 := eq_true q250
           try go_wp2_with (first | (refine zbox 6 #[.int .i64 0, .int .i64 0, .int .i64 0, .int .i64 0, .int .i64 0, .string (⟨#[]⟩ : ByteArray)] 68 ?_; intro gb251 hg w84 hbox hb; have BK251 := zm (hbox); have GW251 := zge w hg zB; have GE251 := zge w hg zB; replace HB := zm (below_step zB hb); have NB244_251 := zlt hg (zb BK244); have NB251_244 := zgt hg (zb BK244); replace BK244 := zy BK244 hb; clear hb hbox hg; have hnb85 := NB251_244.out; have hnc85 := NB244_251.out; obtain ⟨hcz86_0, hcz86_1, hcz86_2, hcz86_3, hcz86_4, hcz86_5, hfz86_0, hfz86_1, hfz86_2, hfz86_3, hfz86_4, hfz86_5⟩ := zc6 BK251))
           obtain ⟨w87, hW_⟩ : ∃ q, q = ((((((w84.setCell ⟨gb251, 0, none⟩ (.int .i64 ((rd_T68 l0_0 x45_2).f0))).setCell ⟨gb251, 1, none⟩ (.int .i64 ((rd_T68 l0_0 x45_2).f1.f0))).setCell ⟨gb251, 2, none⟩ (.int .i64 ((rd_T68 l0_0 x45_2).f1.f1))).setCell ⟨gb251, 3, none⟩ (.int .i64 ((rd_T68 l0_0 x45_2).f1.f2))).setCell ⟨gb251, 4, none⟩ (.int .i64 ((rd_T68 l0_0 x45_2).f1.f3))).setCell ⟨gb251, 5, none⟩ (.string ((rd_T68 l0_0 x45_2).f1.f4))) := ⟨_, rfl⟩
           have n0_ : Aside0 (w87.heap[gb244]? = some (.cells #[.slice (some ad250) l0_0.length c0_0, .slice A0_1 l0_1.length c0_1] 32 (0, 0))) := ⟨by rw [hW_]; exact zfar (zfar (zfar (zfar (zfar (zfar (zb BK244) NB244_251) NB244_251) NB244_251) NB244_251) NB244_251) NB244_251⟩; have n1_ : Aside0 (w87.heap[gb251]? = some (.cells #[.int .i64 ((rd_T68 l0_0 x45_2).f0), .int .i64 ((rd_T68 l0_0 x45_2).f1.f0), .int .i64 ((rd_T68 l0_0 x45_2).f1.f1), .int .i64 ((rd_T68 l0_0 x45_2).f1.f2), .int .i64 ((rd_T68 l0_0 x45_2).f1.f3), .string ((rd_T68 l0_0 x45_2).f1.f4)] 68 (0, 0))) := ⟨by rw [hW_]; exact zput (zput (zput (zput (zput (zput (zb BK251) 0) 1) 2) 3) 4) 5⟩; have n2_ : Aside0 (Below w.heap.size w w87) := ⟨by rw [hW_]; exact zB⟩
           rw [← hW_]
           clear hW_; (try clear BK244); (try clear BK251); (try clear HB); have BK244 := n0_; have BK251 := n1_; have HB := n2_; clear n0_ n1_ n2_; replace BK244 := zq BK244; replace BK251 := zq BK251; replace HB := zm (below_drew1 HB.out)
           refine start_ (n := 36) (S := fun w' => w'.cell? ⟨gb251, 0, none⟩ = some (.int .i64 ((rd_T68 l0_0 x45_2).f0)) ∧ w'.cell? ⟨gb251, 1, none⟩ = some (.int .i64 ((rd_T68 l0_0 x45_2).f1.f0)) ∧ w'.cell? ⟨gb251, 2, none⟩ = some (.int .i64 ((rd_T68 l0_0 x45_2).f1.f1)) ∧ w'.cell? ⟨gb251, 3, none⟩ = some (.int .i64 ((rd_T68 l0_0 x45_2).f1.f2)) ∧ w'.cell? ⟨gb251, 4, none⟩ = some (.int .i64 ((rd_T68 l0_0 x45_2).f1.f3)) ∧ w'.cell? ⟨gb251, 5, none⟩ = some (.string ((rd_T68 l0_0 x45_2).f1.f4))) (ds := []) (zl 36 0) (by kernel_rfl) rfl rfl zS (fun hHeld => ?_); refine with_tabW impl_StateOk.tab10 impl_StateOk.bits10 (fun HT_ HW_ => ?_)
           generalize w87.drew = w88 at BK244 BK251 HB hHeld ⊢
           refine zu 0 50 36 1 ?_
           refine zv 1 51 36 3 ?_
           refine zo 2 (some 52) (zl 36 7) (fun K hK => ?_); refine zgo #[.int .i64 ((rd_T68 l0_0 x45_2).f0)] Try.func94 ?_; (with_reducible refine (impl_isNode.calls ((rd_T68 l0_0 x45_2).f0) true _ A45.out).mono ?_); rintro e w' ⟨rfl, ⟨nd, rfl⟩⟩; refine ⟨_, rfl, ?_⟩; refine hK.out _ _ zS (fun hHeld => ?_); clear hK K; refine zn ?_
           refine zu 3 53 36 15 ?_
           refine zu 4 54 36 31 ?_
           refine zu 5 55 36 63 ?_
           refine zv 6 56 36 127 ?_
           refine zo 7 (some 57) (zl 36 255) (fun K hK => ?_); refine zgo #[.agg #[.int .i64 ((rd_T68 l0_0 x45_2).f1.f0), .int .i64 ((rd_T68 l0_0 x45_2).f1.f1), .int .i64 ((rd_T68 l0_0 x45_2).f1.f2), .int .i64 ((rd_T68 l0_0 x45_2).f1.f3), .string ((rd_T68 l0_0 x45_2).f1.f4)]] Try.func95 ?_; (with_reducible refine (impl_EntryOk.calls ((rd_T68 l0_0 x45_2).f1.f0) ((rd_T68 l0_0 x45_2).f1.f1) ((rd_T68 l0_0 x45_2).f1.f2) ((rd_T68 l0_0 x45_2).f1.f3) ((rd_T68 l0_0 x45_2).f1.f4) false _ A47.out).mono ?_); rintro e w89 ⟨rfl, hb⟩; refine ⟨_, rfl, ?_⟩; replace BK244 := zy BK244 hb; replace BK251 := zy BK251 hb; replace HB := zm (below_step zB hb); (try clear hb); refine hK.out _ _ zS (fun hHeld => ?_); clear hK K; refine zn ?_
           refine zu 8 58 36 511 ?_
           refine zu 9 59 36 1023 ?_
           refine zu 10 60 36 2047 ?_
           refine zu 11 61 36 4095 ?_
           refine zu 12 62 36 8191 ?_
           refine zu 13 63 36 16383 ?_
           refine zu 14 64 36 32767 ?_
           refine zu 15 65 36 65535 ?_
           refine zu 16 66 36 131071 ?_
           refine zu 17 67 36 262143 ?_
           refine zu 18 68 36 524287 ?_
           refine zu 19 69 36 1048575 ?_
           refine zu 20 70 36 2097151 ?_
           refine zu 21 71 36 4194303 ?_
           refine zu 22 72 36 8388607 ?_
           refine zu 23 73 36 16777215 ?_
           refine zu 24 74 36 33554431 ?_
           refine zu 25 75 36 67108863 ?_
           refine zu 26 76 36 134217727 ?_
           refine zu 27 77 36 268435455 ?_
           refine zu 28 78 36 536870911 ?_
           refine zu 29 79 36 1073741823 ?_
           refine zu 30 80 36 2147483647 ?_
           refine zu 31 81 36 4294967295 ?_
           refine zu 32 82 36 8589934591 ?_
           refine zu 33 83 36 17179869183 ?_
           refine zu 34 84 36 34359738367 ?_
           refine zu 35 85 36 68719476735 ?_
           refine done_ (done_of HT_.out (by kernel_rfl)) ?_
           try go_wp2
           go_ret
           exact ⟨zE, zB⟩
         ·replace c46 := Bool.eq_false_iff.mpr c46; subst c46; rw [zff] at H; obtain rfl := Option.some.inj H; have p250 : 0 ≤ (x45_2 : Int) := zd; have q250 : x45_2 < (l0_0.length : Int) := zd; obtain ⟨ad250, e250, hx250_0, hx250_1, hx250_2, hx250_3, hx250_4, hx250_5⟩ := at_T68 (Kd.C_below HR0_0.out HB.out) x45_2 p250 q250; cases e250; replace p250 := eq_true p250; replace q250 := eq_true q250
          try go_wp2_with (first | (refine zbox 6 #[.int .i64 0, .int .i64 0, .int .i64 0, .int .i64 0, .int .i64 0, .string (⟨#[]⟩ : ByteArray)] 68 ?_; intro gb251 hg w90 hbox hb; have BK251 := zm (hbox); have GW251 := zge w hg zB; have GE251 := zge w hg zB; replace HB := zm (below_step zB hb); have NB244_251 := zlt hg (zb BK244); have NB251_244 := zgt hg (zb BK244); replace BK244 := zy BK244 hb; clear hb hbox hg; have hnb91 := NB251_244.out; have hnc91 := NB244_251.out; obtain ⟨hcz92_0, hcz92_1, hcz92_2, hcz92_3, hcz92_4, hcz92_5, hfz92_0, hfz92_1, hfz92_2, hfz92_3, hfz92_4, hfz92_5⟩ := zc6 BK251))
          obtain ⟨w93, hW_⟩ : ∃ q, q = ((((((w90.setCell ⟨gb251, 0, none⟩ (.int .i64 ((rd_T68 l0_0 x45_2).f0))).setCell ⟨gb251, 1, none⟩ (.int .i64 ((rd_T68 l0_0 x45_2).f1.f0))).setCell ⟨gb251, 2, none⟩ (.int .i64 ((rd_T68 l0_0 x45_2).f1.f1))).setCell ⟨gb251, 3, none⟩ (.int .i64 ((rd_T68 l0_0 x45_2).f1.f2))).setCell ⟨gb251, 4, none⟩ (.int .i64 ((rd_T68 l0_0 x45_2).f1.f3))).setCell ⟨gb251, 5, none⟩ (.string ((rd_T68 l0_0 x45_2).f1.f4))) := ⟨_, rfl⟩
          have n0_ : Aside0 (w93.heap[gb244]? = some (.cells #[.slice (some ad250) l0_0.length c0_0, .slice A0_1 l0_1.length c0_1] 32 (0, 0))) := ⟨by rw [hW_]; exact zfar (zfar (zfar (zfar (zfar (zfar (zb BK244) NB244_251) NB244_251) NB244_251) NB244_251) NB244_251) NB244_251⟩; have n1_ : Aside0 (w93.heap[gb251]? = some (.cells #[.int .i64 ((rd_T68 l0_0 x45_2).f0), .int .i64 ((rd_T68 l0_0 x45_2).f1.f0), .int .i64 ((rd_T68 l0_0 x45_2).f1.f1), .int .i64 ((rd_T68 l0_0 x45_2).f1.f2), .int .i64 ((rd_T68 l0_0 x45_2).f1.f3), .string ((rd_T68 l0_0 x45_2).f1.f4)] 68 (0, 0))) := ⟨by rw [hW_]; exact zput (zput (zput (zput (zput (zput (zb BK251) 0) 1) 2) 3) 4) 5⟩; have n2_ : Aside0 (Below w.heap.size w w93) := ⟨by rw [hW_]; exact zB⟩
          rw [← hW_]
          clear hW_; (try clear BK244); (try clear BK251); (try clear HB); have BK244 := n0_; have BK251 := n1_; have HB := n2_; clear n0_ n1_ n2_; replace BK244 := zq BK244; replace BK251 := zq BK251; replace HB := zm (below_drew1 HB.out)
          refine start_ (n := 36) (S := fun w' => w'.cell? ⟨gb251, 0, none⟩ = some (.int .i64 ((rd_T68 l0_0 x45_2).f0)) ∧ w'.cell? ⟨gb251, 1, none⟩ = some (.int .i64 ((rd_T68 l0_0 x45_2).f1.f0)) ∧ w'.cell? ⟨gb251, 2, none⟩ = some (.int .i64 ((rd_T68 l0_0 x45_2).f1.f1)) ∧ w'.cell? ⟨gb251, 3, none⟩ = some (.int .i64 ((rd_T68 l0_0 x45_2).f1.f2)) ∧ w'.cell? ⟨gb251, 4, none⟩ = some (.int .i64 ((rd_T68 l0_0 x45_2).f1.f3)) ∧ w'.cell? ⟨gb251, 5, none⟩ = some (.string ((rd_T68 l0_0 x45_2).f1.f4))) (ds := []) (zl 36 0) (by kernel_rfl) rfl rfl zS (fun hHeld => ?_); refine with_tabW impl_StateOk.tab10 impl_StateOk.bits10 (fun HT_ HW_ => ?_)
          generalize w93.drew = w94 at BK244 BK251 HB hHeld ⊢
          refine zu 0 50 36 1 ?_
          refine zv 1 51 36 3 ?_
          refine zo 2 (some 52) (zl 36 7) (fun K hK => ?_); refine zgo #[.int .i64 ((rd_T68 l0_0 x45_2).f0)] Try.func94 ?_; (with_reducible refine (impl_isNode.calls ((rd_T68 l0_0 x45_2).f0) false _ A45.out).mono ?_); rintro e w' ⟨rfl, ⟨nd, rfl⟩⟩; refine ⟨_, rfl, ?_⟩; refine hK.out _ _ zS (fun hHeld => ?_); clear hK K; refine zn ?_
          refine zu 3 53 36 15 ?_
          refine zu 4 54 36 31 ?_
          refine zu 5 55 36 63 ?_
          refine zu 6 56 36 127 ?_
          refine zu 7 57 36 255 ?_
          refine zu 8 58 36 511 ?_
          refine zu 9 59 36 1023 ?_
          refine zu 10 60 36 2047 ?_
          refine zu 11 61 36 4095 ?_
          refine zu 12 62 36 8191 ?_
          refine zu 13 63 36 16383 ?_
          refine zu 14 64 36 32767 ?_
          refine zu 15 65 36 65535 ?_
          refine zu 16 66 36 131071 ?_
          refine zu 17 67 36 262143 ?_
          refine zu 18 68 36 524287 ?_
          refine zu 19 69 36 1048575 ?_
          refine zu 20 70 36 2097151 ?_
          refine zu 21 71 36 4194303 ?_
          refine zu 22 72 36 8388607 ?_
          refine zu 23 73 36 16777215 ?_
          refine zu 24 74 36 33554431 ?_
          refine zu 25 75 36 67108863 ?_
          refine zu 26 76 36 134217727 ?_
          refine zu 27 77 36 268435455 ?_
          refine zu 28 78 36 536870911 ?_
          refine zu 29 79 36 1073741823 ?_
          refine zu 30 80 36 2147483647 ?_
          refine zu 31 81 36 4294967295 ?_
          refine zu 32 82 36 8589934591 ?_
          refine zu 33 83 36 17179869183 ?_
          refine zu 34 84 36 34359738367 ?_
          refine zu 35 85 36 68719476735 ?_
          refine done_ (done_of HT_.out (by kernel_rfl)) ?_
          try go_wp2
          go_ret
          exact ⟨zE, zB⟩
        ·rw [if_neg c44] at H
         exact absurd H (by simp)
       ·rw [if_neg c43] at H
        exact absurd H (by simp)
      ·rw [if_neg c42] at H; have c42b0 : decide (x45_2 < (l0_0.length : Int)) = false := decide_eq_false c42; clear c42; obtain rfl := Option.some.inj H
       go_wp2
       go_ret
       exact ⟨zE, zB⟩

end Go.Proofs.Ytgapdegniepjiaa.P
