-- by a program of this session, for this seat
import Derived.Test.YtgapdegniepjiaaZ
import Derived.Test.YtgapdegniepjiaaP0
import Derived.Test.YtgapdegniepjiaaPab
namespace Go.Proofs.Ytgapdegniepjiaa.P
open Go.RowKit Go.Proofs.YtgapdegniepjiaaW.PrintWords Go.Proofs.YtgapdegniepjiaaW.PrintLast Go.Proofs.YtgapdegniepjiaaW.PrintMore Go.Proofs.Ytgapdegniepjiaa.Z
attribute [local go_sem] max2_int min2_int max_two min_two max_three min_three max_four min_four   -- for this text's walks alone
set_option linter.unusedVariables false
set_option linter.unusedSimpArgs false

/-! ### laws_markState: function 19 -/
def laws_markState.f (k : Nat) (l0_0 : List (S68)) (l0_1 : List (S72)) (a1 : Int) : Option (Int × (List (S68)) × (List (S72))) := (laws_markItemS.f k l0_0 a1).bind fun bt180 => ((laws_markFloorS.f k l0_1 bt180.1).bind fun bt182 => (some (bt182.1, bt180.2, bt182.2)))
theorem laws_markState.mono : ∀ a0 a1 a2 k, LeO (laws_markState.f k a0 a1 a2) (laws_markState.f (k + 1) a0 a1 a2) := by
 intro a0 a1 a2 k
 unfold laws_markState.f
 repeat' first | (with_reducible first | exact LeO.refl _ | exact LeO.none _ | refine LeO.ite ?_ ?_ | refine LeO.bind ?_ (fun _ => ?_) | apply laws_markFloorS.mono | apply laws_markItemS.mono) | apply laws_markFloorS.mono | apply laws_markItemS.mono | exact LeO.none _ | refine LeO.ite ?_ ?_ | refine LeO.bind ?_ (fun _ => ?_)
set_option maxHeartbeats 8000000 in
set_option maxRecDepth 100000 in
theorem laws_markState.calls (k : Nat) (P0_0_ : Nat → Prop) (u9000_ : Value) (l0_0 : List (S68)) (P0_1_ : Nat → Prop) (u9001_ : Value) (l0_1 : List (S72)) (a1 : Int) (r1 : Int) (r2 : List (S68)) (r3 : List (S72)) (w0 w : World) (hB : Below w0.heap.size w0 w) (ho0_0 : Kd.R k68 68 w w0.heap.size P0_0_ u9000_ l0_0) (ho0_1 : Kd.R k72 72 w w0.heap.size P0_1_ u9001_ l0_1) (h : laws_markState.f k l0_0 l0_1 a1 = some (r1, r2, r3)) :
  Calls Try.prog 19 #[.agg #[u9000_, u9001_], .int .i64 a1] w fun e w' => e = .returned (.int .i64 r1) ∧ Kd.R k68 68 w' w0.heap.size (fun k_ => ((P0_0_ k_ ∨ P0_1_ k_) ∨ w.heap.size ≤ k_)) u9000_ r2 ∧ Kd.R k72 72 w' w0.heap.size (fun k_ => ((P0_0_ k_ ∨ P0_1_ k_) ∨ w.heap.size ≤ k_)) u9001_ r3 ∧ Below w0.heap.size w0 w' ∧ Kept w w' (fun k_ => P0_0_ k_ ∨ P0_1_ k_) := by
 have hu32 := Try.underlying32; have HO0_0 := zm (show Kd.R k68 68 w w0.heap.size (fun k_ => ((P0_0_ k_ ∨ P0_1_ k_) ∨ w.heap.size ≤ k_)) u9000_ l0_0 from Kd.R_mono ho0_0 (fun k_ hk => (.inl (.inl hk)))); have HO0_1 := zm (show Kd.R k72 72 w w0.heap.size (fun k_ => ((P0_0_ k_ ∨ P0_1_ k_) ∨ w.heap.size ≤ k_)) u9001_ l0_1 from Kd.R_mono ho0_1 (fun k_ hk => (.inl (.inr hk)))); have HK := zm (Kept.refl w (fun k_ => P0_0_ k_ ∨ P0_1_ k_)); have HW0 := zm hB.size; have HB := zm hB; clear hB; have H : ((laws_markItemS.f k l0_0 a1).bind fun bt180 => ((laws_markFloorS.f k l0_1 bt180.1).bind fun bt182 => (some (bt182.1, bt180.2, bt182.2)))) = some (r1, r2, r3) := h; clear h; replace H := Option.bind_eq_some_iff.mp H; obtain ⟨⟨t180, t181⟩, A30, H⟩ := H; (try dsimp only at H); have A3 := zm A30; clear A30; replace H := Option.bind_eq_some_iff.mp H; obtain ⟨⟨t182, t183⟩, A40, H⟩ := H; (try dsimp only at H); have A4 := zm A40; clear A40; simp only [Option.some.injEq, Prod.mk.injEq] at H; obtain ⟨rfl, rfl, rfl⟩ := H; obtain ⟨Ao5, co5, eo5⟩ := Kd.R_slice HO0_0.out; subst eo5; obtain ⟨Ao6, co6, eo6⟩ := Kd.R_slice HO0_1.out; subst eo6; go_enter Try.func19, Try.ntmps19
 go_wp2_with (first | ((with_reducible refine gate_dst (N := 2) rfl ?_); refine zbox 2 #[.slice Ao5 l0_0.length co5, .slice Ao6 l0_1.length co6] 32 ?_; intro gb179 hg w7 hbox hb; replace HO0_0 := zw HO0_0 hb; replace HO0_1 := zw HO0_1 hb; have BK179 := zm (hbox); have GW179 := zm ((by rw [hg]; exact (by first | exact HK.out.1 | exact (show Kept w _ (fun k_ => P0_0_ k_ ∨ P0_1_ k_) from by repeat (first | (with_reducible first | exact HK.out | apply Kept.alloc | apply Kept.drewN | apply Kept.drew) | exact HK.out)).1) : w.heap.size ≤ gb179)); replace HK := zm (Kept.below (S := (fun k_ => P0_0_ k_ ∨ P0_1_ k_)) (by repeat (first | (with_reducible first | exact HK.out | apply Kept.alloc | apply Kept.drewN | apply Kept.drew) | exact HK.out)) hb); have GE179 := zge w0 hg zB; replace HB := zm (below_step zB hb); clear hb hbox hg; obtain ⟨hcz8_0, hcz8_1, hfz8_0, hfz8_1⟩ := zc2 BK179) | ((with_reducible refine gate_callee (f := 59) rfl ?_); refine zg (some 8) #[.slice Ao5 l0_0.length co5, .int .i64 a1] Try.func59 ?_; (with_reducible refine (laws_markItemS.calls k (fun k_ => some k_ = (.slice Ao5 l0_0.length co5 : Value).ownBlock) (.slice Ao5 l0_0.length co5) l0_0 a1 t180 t181 w0 _ zB ?side2 A3.out).mono ?_); (case side2 => exact Kd.R_tight rfl HO0_0.out); rintro e w9 ⟨rfl, hy0, hb, hkp⟩; refine ⟨_, rfl, ?_⟩; replace HO0_1 := zm (Kd.R_mono (ok' := fun k_ => ((P0_0_ k_ ∨ P0_1_ k_) ∨ w.heap.size ≤ k_)) (Kd.R_keptB ((Kd.R_apart' HO0_1.out (Kd.R_typed HO0_0.out) (by decide))) hkp (fun k_ hk_ hs_ => (hk_.2) hs_)) (fun k_ hk_ => hk_.1.1)); replace BK179 := zm (blk_kept (zb BK179) hkp (fun hs_ => (fun e_ => (Kd.R_ne HO0_0.out BK179.out (by decide)) e_) hs_)); replace HK := zm (Kept.then_ (S := (fun k_ => P0_0_ k_ ∨ P0_1_ k_)) (by repeat (first | (with_reducible first | exact HK.out | apply Kept.alloc | apply Kept.drewN | apply Kept.drew | refine Kept.setCell ?_ (.inr GW179.out) _) | exact HK.out)) hkp (fun k_ hs_ => (fun e_ => (HO0_0.out.1 k_ e_.symm)) hs_)); replace HO0_0 := zm (Kd.R_reok rfl hy0 (fun k_ e_ => HO0_0.out.1 k_ e_)); replace HB := zm (hb); clear hb hkp hy0; obtain ⟨hcz10_0, hcz10_1, hfz10_0, hfz10_1⟩ := zc2 BK179) | ((with_reducible refine gate_callee (f := 60) rfl ?_); refine zg (some 12) #[.slice Ao6 l0_1.length co6, .int .i64 t180] Try.func60 ?_; (with_reducible refine (laws_markFloorS.calls k (fun k_ => some k_ = (.slice Ao6 l0_1.length co6 : Value).ownBlock) (.slice Ao6 l0_1.length co6) l0_1 t180 t182 t183 w0 _ zB ?side2 A4.out).mono ?_); (case side2 => exact Kd.R_tight rfl HO0_1.out); rintro e w11 ⟨rfl, hy0, hb, hkp⟩; refine ⟨_, rfl, ?_⟩; replace HO0_0 := zm (Kd.R_mono (ok' := fun k_ => ((P0_0_ k_ ∨ P0_1_ k_) ∨ w.heap.size ≤ k_)) (Kd.R_keptB ((Kd.R_apart' HO0_0.out (Kd.R_typed HO0_1.out) (by decide))) hkp (fun k_ hk_ hs_ => (hk_.2) hs_)) (fun k_ hk_ => hk_.1.1)); replace BK179 := zm (blk_kept (zb BK179) hkp (fun hs_ => (fun e_ => (Kd.R_ne HO0_1.out BK179.out (by decide)) e_) hs_)); replace HK := zm (Kept.then_ (S := (fun k_ => P0_0_ k_ ∨ P0_1_ k_)) (by repeat (first | (with_reducible first | exact HK.out | apply Kept.alloc | apply Kept.drewN | apply Kept.drew | refine Kept.setCell ?_ (.inr GW179.out) _) | exact HK.out)) hkp (fun k_ hs_ => (fun e_ => (HO0_1.out.1 k_ e_.symm)) hs_)); replace HO0_1 := zm (Kd.R_reok rfl hy0 (fun k_ e_ => HO0_1.out.1 k_ e_)); replace HB := zm (hb); clear hb hkp hy0))
 go_ret
 exact ⟨zE, zr HO0_0, zr HO0_1, zB, by repeat (first | (with_reducible first | exact HK.out | apply Kept.alloc | apply Kept.drewN | apply Kept.drew | refine Kept.setCell ?_ (.inr GW179.out) _) | exact HK.out)⟩

/-! ### laws_heldItemS: function 70 -/
def laws_heldItemS.l0 : Nat → List (S68) → Int → Int → Option (Int)
 | 0, _, _, _ => none
 | k + 1, x0, x1, x5 => if x5 < (x0.length : Int) then (if 0 ≤ x5 then (if ((rd_T68 x0 x5).f0) = x1 then (if ((rd_T68 x0 x5).f1.f0) = (wrap64 (x1 + 1)) then (if ((rd_T68 x0 x5).f1.f1) = (wrap64 ((wrap64 (x1 + 1)) + 1)) then (if ((rd_T68 x0 x5).f1.f2) = (wrap64 ((wrap64 ((wrap64 (x1 + 1)) + 1)) + 1)) then (if ((rd_T68 x0 x5).f1.f3) = (wrap64 ((wrap64 ((wrap64 ((wrap64 (x1 + 1)) + 1)) + 1)) + 1)) then ((laws_markText.f k (wrap64 ((wrap64 ((wrap64 ((wrap64 ((wrap64 (x1 + 1)) + 1)) + 1)) + 1)) + 1))).bind fun t190 => (if ((rd_T68 x0 x5).f1.f4).toList = t190.toList then (laws_heldItemS.l0 k x0 (wrap64 ((wrap64 ((wrap64 ((wrap64 ((wrap64 ((wrap64 (x1 + 1)) + 1)) + 1)) + 1)) + 1)) + 1)) (wrap64 (x5 + 1))) else (some (-1)))) else (some (-1))) else (some (-1))) else (some (-1))) else (some (-1))) else (some (-1))) else (none)) else (some x1)
def laws_heldItemS.f (k : Nat) (l0 : List (S68)) (a1 : Int) : Option (Int) := laws_heldItemS.l0 k l0 a1 0
theorem laws_heldItemS.mono_l : ∀ k, (∀ y0 y1 y2, LeO (laws_heldItemS.l0 k y0 y1 y2) (laws_heldItemS.l0 (k + 1) y0 y1 y2))
 | 0 => fun _ _ _ r h => by simp [laws_heldItemS.l0] at h
 | k + 1 => by
  have ih0 := laws_heldItemS.mono_l k
  ·intro y0 y1 y2
   unfold laws_heldItemS.l0
   repeat' first | (with_reducible first | exact LeO.refl _ | exact LeO.none _ | refine LeO.ite ?_ ?_ | refine LeO.bind ?_ (fun _ => ?_) | apply ih0 | apply laws_markText.mono) | apply ih0 | apply laws_markText.mono | exact LeO.none _ | refine LeO.ite ?_ ?_ | refine LeO.bind ?_ (fun _ => ?_)
theorem laws_heldItemS.mono : ∀ a0 a1 k, LeO (laws_heldItemS.f k a0 a1) (laws_heldItemS.f (k + 1) a0 a1) := by
 intro a0 a1 k; have ih0 := laws_heldItemS.mono_l k
 unfold laws_heldItemS.f
 repeat' first | (with_reducible first | exact LeO.refl _ | exact LeO.none _ | refine LeO.ite ?_ ?_ | refine LeO.bind ?_ (fun _ => ?_) | apply ih0 | apply laws_markText.mono) | apply ih0 | apply laws_markText.mono | exact LeO.none _ | refine LeO.ite ?_ ?_ | refine LeO.bind ?_ (fun _ => ?_)
def laws_heldItemS.T19 : Bool × List (List Nat × List Nat) := (true, [([], []), ([], []), ([0, 1], [0, 1]), ([2], [2]), ([3], [3]), ([4], [4]), ([], []), ([6], [6]), ([5, 7], [5, 7])])
def laws_heldItemS.B19 : List Nat := [0, 0, 3, 7, 15, 31, 0, 64, 255]
theorem laws_heldItemS.tab19 : rtab .any (opsOf Try.f70 19) = laws_heldItemS.T19 := by kernel_rfl
theorem laws_heldItemS.bits19 : waitsOk laws_heldItemS.T19.2 laws_heldItemS.B19 = true := by kernel_rfl
set_option maxHeartbeats 8000000 in
set_option maxRecDepth 100000 in
theorem laws_heldItemS.calls (k : Nat) (A0 : Option Addr) (c0 : Nat) (l0 : List (S68)) (a1 : Int) (r : Int) (w : World) (hr0 : Kd.C k68 w A0 l0.length l0) (hc0 : l0.length ≤ c0) (h : laws_heldItemS.f k l0 a1 = some r) :
  Calls Try.prog 70 #[.slice A0 l0.length c0, .int .i64 a1] w fun e w' => e = .returned (.int .i64 r) ∧ Below w.heap.size w w' := by
 have HR0 := zm hr0; have HC0 := zm hc0; clear hr0 hc0; have HB := zm (Below.refl w.heap.size w); have H : (laws_heldItemS.l0 k l0 a1 0) = some r := h; clear h
 have H' := zm H
 clear H; go_enter Try.func70, Try.ntmps70
 go_wp2
 go_loopg [1, 5] k (fun kq v1 v5 w' => ∃ (x1_1 : Int) (x5_1 : Int), v1 = .int .i64 x1_1 ∧ v5 = .int .i64 x5_1 ∧ Aside0 (laws_heldItemS.l0 kq l0 x1_1 x5_1 = some r) ∧ Aside0 (kq ≤ k) ∧ Aside0 (Below w.heap.size w w'))
 case atStart => exact ⟨(a1), (0), zF, zF, H', ⟨Nat.le_refl _⟩, ⟨zB⟩⟩
 case round =>
  clear H'; obtain ⟨x1_1, x5_1, rfl, rfl, HA, HK1, HB⟩ := hrel
  cases gk with
  | zero => exact absurd HA.out (by simp [laws_heldItemS.l0])
  | succ k1 =>
   have H := HA.out; clear HA; simp only [laws_heldItemS.l0] at H
   by_cases c3 : x5_1 < (l0.length : Int)
   ·rw [if_pos c3] at H; have c3b0 : decide (x5_1 < (l0.length : Int)) = true := decide_eq_true c3; clear c3
    by_cases c4 : 0 ≤ x5_1
    ·rw [if_pos c4] at H; have c4b0 : decide (0 ≤ x5_1) = true := decide_eq_true c4; clear c4
     by_cases c5 : ((rd_T68 l0 x5_1).f0) = x1_1
     ·rw [if_pos c5] at H; have c5b0 : (((rd_T68 l0 x5_1).f0) == x1_1) = true := beq_iff_eq.mpr c5; have c5b1 : (((rd_T68 l0 x5_1).f0) != x1_1) = false := bne_eq_false_iff_eq.mpr c5; clear c5
      by_cases c6 : ((rd_T68 l0 x5_1).f1.f0) = (wrap64 (x1_1 + 1))
      ·rw [if_pos c6] at H; have c6b0 : (((rd_T68 l0 x5_1).f1.f0) == (wrap64 (x1_1 + 1))) = true := beq_iff_eq.mpr c6; have c6b1 : (((rd_T68 l0 x5_1).f1.f0) != (wrap64 (x1_1 + 1))) = false := bne_eq_false_iff_eq.mpr c6; clear c6
       by_cases c7 : ((rd_T68 l0 x5_1).f1.f1) = (wrap64 ((wrap64 (x1_1 + 1)) + 1))
       ·rw [if_pos c7] at H; have c7b0 : (((rd_T68 l0 x5_1).f1.f1) == (wrap64 ((wrap64 (x1_1 + 1)) + 1))) = true := beq_iff_eq.mpr c7; have c7b1 : (((rd_T68 l0 x5_1).f1.f1) != (wrap64 ((wrap64 (x1_1 + 1)) + 1))) = false := bne_eq_false_iff_eq.mpr c7; clear c7
        by_cases c8 : ((rd_T68 l0 x5_1).f1.f2) = (wrap64 ((wrap64 ((wrap64 (x1_1 + 1)) + 1)) + 1))
        ·rw [if_pos c8] at H; have c8b0 : (((rd_T68 l0 x5_1).f1.f2) == (wrap64 ((wrap64 ((wrap64 (x1_1 + 1)) + 1)) + 1))) = true := beq_iff_eq.mpr c8; have c8b1 : (((rd_T68 l0 x5_1).f1.f2) != (wrap64 ((wrap64 ((wrap64 (x1_1 + 1)) + 1)) + 1))) = false := bne_eq_false_iff_eq.mpr c8; clear c8
         by_cases c9 : ((rd_T68 l0 x5_1).f1.f3) = (wrap64 ((wrap64 ((wrap64 ((wrap64 (x1_1 + 1)) + 1)) + 1)) + 1))
         ·rw [if_pos c9] at H; have c9b0 : (((rd_T68 l0 x5_1).f1.f3) == (wrap64 ((wrap64 ((wrap64 ((wrap64 (x1_1 + 1)) + 1)) + 1)) + 1))) = true := beq_iff_eq.mpr c9; have c9b1 : (((rd_T68 l0 x5_1).f1.f3) != (wrap64 ((wrap64 ((wrap64 ((wrap64 (x1_1 + 1)) + 1)) + 1)) + 1))) = false := bne_eq_false_iff_eq.mpr c9; clear c9; replace H := Option.bind_eq_some_iff.mp H; obtain ⟨t190, A100, H⟩ := H; (try dsimp only at H); have A10 := zm A100; clear A100
          by_cases c11 : ((rd_T68 l0 x5_1).f1.f4).toList = t190.toList
          ·rw [if_pos c11] at H; have c11b0 : (((rd_T68 l0 x5_1).f1.f4).toList == t190.toList) = true := beq_iff_eq.mpr c11; have c11b1 : (((rd_T68 l0 x5_1).f1.f4).toList != t190.toList) = false := bne_eq_false_iff_eq.mpr c11; clear c11
           have H' := zm H
           clear H; have p184 : 0 ≤ (x5_1 : Int) := zd; have q184 : x5_1 < (l0.length : Int) := zd; obtain ⟨ad184, e184, hx184_0, hx184_1, hx184_2, hx184_3, hx184_4, hx184_5⟩ := at_T68 (Kd.C_below HR0.out HB.out) x5_1 p184 q184; cases e184; replace p184 := eq_true p184; replace q184 := eq_true q184; have p185 : 0 ≤ (x5_1 : Int) := zd; have q185 : x5_1 < (l0.length : Int) := zd; obtain ⟨ad185, e185, hx185_0, hx185_1, hx185_2, hx185_3, hx185_4, hx185_5⟩ := at_T68 (Kd.C_below HR0.out HB.out) x5_1 p185 q185
           obtain rfl : ad184 = ad185 := (by injection e185)
           replace p185 := eq_true p185; replace q185 := eq_true q185; have p186 : 0 ≤ (x5_1 : Int) := zd; have q186 : x5_1 < (l0.length : Int) := zd; obtain ⟨ad186, e186, hx186_0, hx186_1, hx186_2, hx186_3, hx186_4, hx186_5⟩ := at_T68 (Kd.C_below HR0.out HB.out) x5_1 p186 q186
           obtain rfl : ad184 = ad186 := (by injection e186)
           replace p186 := eq_true p186; replace q186 := eq_true q186; have p187 : 0 ≤ (x5_1 : Int) := zd; have q187 : x5_1 < (l0.length : Int) := zd; obtain ⟨ad187, e187, hx187_0, hx187_1, hx187_2, hx187_3, hx187_4, hx187_5⟩ := at_T68 (Kd.C_below HR0.out HB.out) x5_1 p187 q187
           obtain rfl : ad184 = ad187 := (by injection e187)
           replace p187 := eq_true p187; replace q187 := eq_true q187; have p188 : 0 ≤ (x5_1 : Int) := zd; have q188 : x5_1 < (l0.length : Int) := zd; obtain ⟨ad188, e188, hx188_0, hx188_1, hx188_2, hx188_3, hx188_4, hx188_5⟩ := at_T68 (Kd.C_below HR0.out HB.out) x5_1 p188 q188
           obtain rfl : ad184 = ad188 := (by injection e188)
           replace p188 := eq_true p188; replace q188 := eq_true q188
           try go_wp2
           replace HB := zm (below_drew1 HB.out); have p189 : 0 ≤ (x5_1 : Int) := zd; have q189 : x5_1 < (l0.length : Int) := zd; obtain ⟨ad189, e189, hx189_0, hx189_1, hx189_2, hx189_3, hx189_4, hx189_5⟩ := at_T68 HR0.out x5_1 p189 q189; have hw189_5 := hx189_5; have hw189_4 := hx189_4; have hw189_3 := hx189_3; have hw189_2 := hx189_2; have hw189_1 := hx189_1; have hw189_0 := hx189_0
           obtain rfl : ad184 = ad189 := (by injection e189)
           replace hx189_0 := zx HB hx189_0; replace hx189_1 := zx HB hx189_1; replace hx189_2 := zx HB hx189_2; replace hx189_3 := zx HB hx189_3; replace hx189_4 := zx HB hx189_4; replace hx189_5 := zx HB hx189_5; replace p189 := eq_true p189; replace q189 := eq_true q189
           refine start_ (n := 9) (S := fun w' => w'.cell? (ad184.add ((x5_1).toNat * 6)) = some (.int .i64 ((rd_T68 l0 x5_1).f0)) ∧ w'.cell? ⟨(ad184.add ((x5_1).toNat * 6)).block, (ad184.add ((x5_1).toNat * 6)).off + 1, none⟩ = some (.int .i64 ((rd_T68 l0 x5_1).f1.f0)) ∧ w'.cell? ⟨(ad184.add ((x5_1).toNat * 6)).block, (ad184.add ((x5_1).toNat * 6)).off + 2, none⟩ = some (.int .i64 ((rd_T68 l0 x5_1).f1.f1)) ∧ w'.cell? ⟨(ad184.add ((x5_1).toNat * 6)).block, (ad184.add ((x5_1).toNat * 6)).off + 3, none⟩ = some (.int .i64 ((rd_T68 l0 x5_1).f1.f2)) ∧ w'.cell? ⟨(ad184.add ((x5_1).toNat * 6)).block, (ad184.add ((x5_1).toNat * 6)).off + 4, none⟩ = some (.int .i64 ((rd_T68 l0 x5_1).f1.f3)) ∧ w'.cell? ⟨(ad184.add ((x5_1).toNat * 6)).block, (ad184.add ((x5_1).toNat * 6)).off + 5, none⟩ = some (.string ((rd_T68 l0 x5_1).f1.f4))) (ds := []) (zl 9 0) (by kernel_rfl) rfl rfl zS (fun hHeld => ?_); refine with_tabW laws_heldItemS.tab19 laws_heldItemS.bits19 (fun HT_ HW_ => ?_)
           generalize wr.drew = w12 at HB hx189_0 hx189_1 hx189_2 hx189_3 hx189_4 hx189_5 hHeld ⊢
           refine zu 0 61 9 1 ?_
           refine zu 1 62 9 3 ?_
           refine zu 2 63 9 7 ?_
           refine zu 3 64 9 15 ?_
           refine zu 4 65 9 31 ?_
           refine zu 6 67 9 95 ?_
           refine zv 5 66 9 127 ?_
           refine zo 7 (some 68) (zl 9 255) (fun K hK => ?_); refine zgo #[.int .i64 (wrap64 ((wrap64 ((wrap64 ((wrap64 ((wrap64 (x1_1 + 1)) + 1)) + 1)) + 1)) + 1))] Try.func98 ?_; (with_reducible refine (laws_markText.calls k1 (wrap64 ((wrap64 ((wrap64 ((wrap64 ((wrap64 (x1_1 + 1)) + 1)) + 1)) + 1)) + 1)) t190 _ A10.out).mono ?_); rintro e w13 ⟨rfl, hb⟩; refine ⟨_, rfl, ?_⟩; replace HB := zm (below_step zB hb); (try clear hb); refine hK.out _ _ zS (fun hHeld => ?_); clear hK K; refine zn ?_
           refine zu 8 69 9 511 ?_
           refine done_ (done_of HT_.out (by kernel_rfl)) ?_
           try go_wp2
           go_roundg k1
           case measure => have := HK1.out; omega
           case rel => exact ⟨(wrap64 ((wrap64 ((wrap64 ((wrap64 ((wrap64 ((wrap64 (x1_1 + 1)) + 1)) + 1)) + 1)) + 1)) + 1)), (wrap64 (x5_1 + 1)), zF, zF, H', ⟨by have := HK1.out; omega⟩, ⟨zB⟩⟩
          ·rw [if_neg c11] at H; have c11b0 : (((rd_T68 l0 x5_1).f1.f4).toList == t190.toList) = false := beq_eq_false_iff_ne.mpr c11; have c11b1 : (((rd_T68 l0 x5_1).f1.f4).toList != t190.toList) = true := bne_iff_ne.mpr c11; obtain rfl := Option.some.inj H; have p184 : 0 ≤ (x5_1 : Int) := zd; have q184 : x5_1 < (l0.length : Int) := zd; obtain ⟨ad184, e184, hx184_0, hx184_1, hx184_2, hx184_3, hx184_4, hx184_5⟩ := at_T68 (Kd.C_below HR0.out HB.out) x5_1 p184 q184; cases e184; replace p184 := eq_true p184; replace q184 := eq_true q184; have p185 : 0 ≤ (x5_1 : Int) := zd; have q185 : x5_1 < (l0.length : Int) := zd; obtain ⟨ad185, e185, hx185_0, hx185_1, hx185_2, hx185_3, hx185_4, hx185_5⟩ := at_T68 (Kd.C_below HR0.out HB.out) x5_1 p185 q185
           obtain rfl : ad184 = ad185 := (by injection e185)
           replace p185 := eq_true p185; replace q185 := eq_true q185; have p186 : 0 ≤ (x5_1 : Int) := zd; have q186 : x5_1 < (l0.length : Int) := zd; obtain ⟨ad186, e186, hx186_0, hx186_1, hx186_2, hx186_3, hx186_4, hx186_5⟩ := at_T68 (Kd.C_below HR0.out HB.out) x5_1 p186 q186
           obtain rfl : ad184 = ad186 := (by injection e186)
           replace p186 := eq_true p186; replace q186 := eq_true q186; have p187 : 0 ≤ (x5_1 : Int) := zd; have q187 : x5_1 < (l0.length : Int) := zd; obtain ⟨ad187, e187, hx187_0, hx187_1, hx187_2, hx187_3, hx187_4, hx187_5⟩ := at_T68 (Kd.C_below HR0.out HB.out) x5_1 p187 q187
           obtain rfl : ad184 = ad187 := (by injection e187)
           replace p187 := eq_true p187; replace q187 := eq_true q187; have p188 : 0 ≤ (x5_1 : Int) := zd; have q188 : x5_1 < (l0.length : Int) := zd; obtain ⟨ad188, e188, hx188_0, hx188_1, hx188_2, hx188_3, hx188_4, hx188_5⟩ := at_T68 (Kd.C_below HR0.out HB.out) x5_1 p188 q188
           obtain rfl : ad184 = ad188 := (by injection e188)
           replace p188 := eq_true p188; replace q188 := eq_true q188
           try go_wp2
           replace HB := zm (below_drew1 HB.out); have p189 : 0 ≤ (x5_1 : Int) := zd; have q189 : x5_1 < (l0.length : Int) := zd; obtain ⟨ad189, e189, hx189_0, hx189_1, hx189_2, hx189_3, hx189_4, hx189_5⟩ := at_T68 HR0.out x5_1 p189 q189; have hw189_5 := hx189_5; have hw189_4 := hx189_4; have hw189_3 := hx189_3; have hw189_2 := hx189_2; have hw189_1 := hx189_1; have hw189_0 := hx189_0
           obtain rfl : ad184 = ad189 := (by injection e189)
           replace hx189_0 := zx HB hx189_0; replace hx189_1 := zx HB hx189_1; replace hx189_2 := zx HB hx189_2; replace hx189_3 := zx HB hx189_3; replace hx189_4 := zx HB hx189_4; replace hx189_5 := zx HB hx189_5; replace p189 := eq_true p189; replace q189 := eq_true q189
           refine start_ (n := 9) (S := fun w' => w'.cell? (ad184.add ((x5_1).toNat * 6)) = some (.int .i64 ((rd_T68 l0 x5_1).f0)) ∧ w'.cell? ⟨(ad184.add ((x5_1).toNat * 6)).block, (ad184.add ((x5_1).toNat * 6)).off + 1, none⟩ = some (.int .i64 ((rd_T68 l0 x5_1).f1.f0)) ∧ w'.cell? ⟨(ad184.add ((x5_1).toNat * 6)).block, (ad184.add ((x5_1).toNat * 6)).off + 2, none⟩ = some (.int .i64 ((rd_T68 l0 x5_1).f1.f1)) ∧ w'.cell? ⟨(ad184.add ((x5_1).toNat * 6)).block, (ad184.add ((x5_1).toNat * 6)).off + 3, none⟩ = some (.int .i64 ((rd_T68 l0 x5_1).f1.f2)) ∧ w'.cell? ⟨(ad184.add ((x5_1).toNat * 6)).block, (ad184.add ((x5_1).toNat * 6)).off + 4, none⟩ = some (.int .i64 ((rd_T68 l0 x5_1).f1.f3)) ∧ w'.cell? ⟨(ad184.add ((x5_1).toNat * 6)).block, (ad184.add ((x5_1).toNat * 6)).off + 5, none⟩ = some (.string ((rd_T68 l0 x5_1).f1.f4))) (ds := []) (zl 9 0) (by kernel_rfl) rfl rfl zS (fun hHeld => ?_); refine with_tabW laws_heldItemS.tab19 laws_heldItemS.bits19 (fun HT_ HW_ => ?_)
           generalize wr.drew = w14 at HB hx189_0 hx189_1 hx189_2 hx189_3 hx189_4 hx189_5 hHeld ⊢
           refine zu 0 61 9 1 ?_
           refine zu 1 62 9 3 ?_
           refine zu 2 63 9 7 ?_
           refine zu 3 64 9 15 ?_
           refine zu 4 65 9 31 ?_
           refine zu 6 67 9 95 ?_
           refine zv 5 66 9 127 ?_
           refine zo 7 (some 68) (zl 9 255) (fun K hK => ?_); refine zgo #[.int .i64 (wrap64 ((wrap64 ((wrap64 ((wrap64 ((wrap64 (x1_1 + 1)) + 1)) + 1)) + 1)) + 1))] Try.func98 ?_; (with_reducible refine (laws_markText.calls k1 (wrap64 ((wrap64 ((wrap64 ((wrap64 ((wrap64 (x1_1 + 1)) + 1)) + 1)) + 1)) + 1)) t190 _ A10.out).mono ?_); rintro e w15 ⟨rfl, hb⟩; refine ⟨_, rfl, ?_⟩; replace HB := zm (below_step zB hb); (try clear hb); refine hK.out _ _ zS (fun hHeld => ?_); clear hK K; refine zn ?_
           refine zu 8 69 9 511 ?_
           refine done_ (done_of HT_.out (by kernel_rfl)) ?_
           try go_wp2
           go_ret
           exact ⟨zE, zB⟩
         ·rw [if_neg c9] at H; have c9b0 : (((rd_T68 l0 x5_1).f1.f3) == (wrap64 ((wrap64 ((wrap64 ((wrap64 (x1_1 + 1)) + 1)) + 1)) + 1))) = false := beq_eq_false_iff_ne.mpr c9; have c9b1 : (((rd_T68 l0 x5_1).f1.f3) != (wrap64 ((wrap64 ((wrap64 ((wrap64 (x1_1 + 1)) + 1)) + 1)) + 1))) = true := bne_iff_ne.mpr c9; obtain rfl := Option.some.inj H; have p184 : 0 ≤ (x5_1 : Int) := zd; have q184 : x5_1 < (l0.length : Int) := zd; obtain ⟨ad184, e184, hx184_0, hx184_1, hx184_2, hx184_3, hx184_4, hx184_5⟩ := at_T68 (Kd.C_below HR0.out HB.out) x5_1 p184 q184; cases e184; replace p184 := eq_true p184; replace q184 := eq_true q184; have p185 : 0 ≤ (x5_1 : Int) := zd; have q185 : x5_1 < (l0.length : Int) := zd; obtain ⟨ad185, e185, hx185_0, hx185_1, hx185_2, hx185_3, hx185_4, hx185_5⟩ := at_T68 (Kd.C_below HR0.out HB.out) x5_1 p185 q185
          obtain rfl : ad184 = ad185 := (by injection e185)
          replace p185 := eq_true p185; replace q185 := eq_true q185; have p186 : 0 ≤ (x5_1 : Int) := zd; have q186 : x5_1 < (l0.length : Int) := zd; obtain ⟨ad186, e186, hx186_0, hx186_1, hx186_2, hx186_3, hx186_4, hx186_5⟩ := at_T68 (Kd.C_below HR0.out HB.out) x5_1 p186 q186
          obtain rfl : ad184 = ad186 := (by injection e186)
          replace p186 := eq_true p186; replace q186 := eq_true q186; have p187 : 0 ≤ (x5_1 : Int) := zd; have q187 : x5_1 < (l0.length : Int) := zd; obtain ⟨ad187, e187, hx187_0, hx187_1, hx187_2, hx187_3, hx187_4, hx187_5⟩ := at_T68 (Kd.C_below HR0.out HB.out) x5_1 p187 q187
          obtain rfl : ad184 = ad187 := (by injection e187)
          replace p187 := eq_true p187; replace q187 := eq_true q187; have p188 : 0 ≤ (x5_1 : Int) := zd; have q188 : x5_1 < (l0.length : Int) := zd; obtain ⟨ad188, e188, hx188_0, hx188_1, hx188_2, hx188_3, hx188_4, hx188_5⟩ := at_T68 (Kd.C_below HR0.out HB.out) x5_1 p188 q188
          obtain rfl : ad184 = ad188 := (by injection e188)
          replace p188 := eq_true p188; replace q188 := eq_true q188
          go_wp2
          go_ret
          exact ⟨zE, zB⟩
        ·rw [if_neg c8] at H; have c8b0 : (((rd_T68 l0 x5_1).f1.f2) == (wrap64 ((wrap64 ((wrap64 (x1_1 + 1)) + 1)) + 1))) = false := beq_eq_false_iff_ne.mpr c8; have c8b1 : (((rd_T68 l0 x5_1).f1.f2) != (wrap64 ((wrap64 ((wrap64 (x1_1 + 1)) + 1)) + 1))) = true := bne_iff_ne.mpr c8; obtain rfl := Option.some.inj H; have p184 : 0 ≤ (x5_1 : Int) := zd; have q184 : x5_1 < (l0.length : Int) := zd; obtain ⟨ad184, e184, hx184_0, hx184_1, hx184_2, hx184_3, hx184_4, hx184_5⟩ := at_T68 (Kd.C_below HR0.out HB.out) x5_1 p184 q184; cases e184; replace p184 := eq_true p184; replace q184 := eq_true q184; have p185 : 0 ≤ (x5_1 : Int) := zd; have q185 : x5_1 < (l0.length : Int) := zd; obtain ⟨ad185, e185, hx185_0, hx185_1, hx185_2, hx185_3, hx185_4, hx185_5⟩ := at_T68 (Kd.C_below HR0.out HB.out) x5_1 p185 q185
         obtain rfl : ad184 = ad185 := (by injection e185)
         replace p185 := eq_true p185; replace q185 := eq_true q185; have p186 : 0 ≤ (x5_1 : Int) := zd; have q186 : x5_1 < (l0.length : Int) := zd; obtain ⟨ad186, e186, hx186_0, hx186_1, hx186_2, hx186_3, hx186_4, hx186_5⟩ := at_T68 (Kd.C_below HR0.out HB.out) x5_1 p186 q186
         obtain rfl : ad184 = ad186 := (by injection e186)
         replace p186 := eq_true p186; replace q186 := eq_true q186; have p187 : 0 ≤ (x5_1 : Int) := zd; have q187 : x5_1 < (l0.length : Int) := zd; obtain ⟨ad187, e187, hx187_0, hx187_1, hx187_2, hx187_3, hx187_4, hx187_5⟩ := at_T68 (Kd.C_below HR0.out HB.out) x5_1 p187 q187
         obtain rfl : ad184 = ad187 := (by injection e187)
         replace p187 := eq_true p187; replace q187 := eq_true q187
         go_wp2
         go_ret
         exact ⟨zE, zB⟩
       ·rw [if_neg c7] at H; have c7b0 : (((rd_T68 l0 x5_1).f1.f1) == (wrap64 ((wrap64 (x1_1 + 1)) + 1))) = false := beq_eq_false_iff_ne.mpr c7; have c7b1 : (((rd_T68 l0 x5_1).f1.f1) != (wrap64 ((wrap64 (x1_1 + 1)) + 1))) = true := bne_iff_ne.mpr c7; obtain rfl := Option.some.inj H; have p184 : 0 ≤ (x5_1 : Int) := zd; have q184 : x5_1 < (l0.length : Int) := zd; obtain ⟨ad184, e184, hx184_0, hx184_1, hx184_2, hx184_3, hx184_4, hx184_5⟩ := at_T68 (Kd.C_below HR0.out HB.out) x5_1 p184 q184; cases e184; replace p184 := eq_true p184; replace q184 := eq_true q184; have p185 : 0 ≤ (x5_1 : Int) := zd; have q185 : x5_1 < (l0.length : Int) := zd; obtain ⟨ad185, e185, hx185_0, hx185_1, hx185_2, hx185_3, hx185_4, hx185_5⟩ := at_T68 (Kd.C_below HR0.out HB.out) x5_1 p185 q185
        obtain rfl : ad184 = ad185 := (by injection e185)
        replace p185 := eq_true p185; replace q185 := eq_true q185; have p186 : 0 ≤ (x5_1 : Int) := zd; have q186 : x5_1 < (l0.length : Int) := zd; obtain ⟨ad186, e186, hx186_0, hx186_1, hx186_2, hx186_3, hx186_4, hx186_5⟩ := at_T68 (Kd.C_below HR0.out HB.out) x5_1 p186 q186
        obtain rfl : ad184 = ad186 := (by injection e186)
        replace p186 := eq_true p186; replace q186 := eq_true q186
        go_wp2
        go_ret
        exact ⟨zE, zB⟩
      ·rw [if_neg c6] at H; have c6b0 : (((rd_T68 l0 x5_1).f1.f0) == (wrap64 (x1_1 + 1))) = false := beq_eq_false_iff_ne.mpr c6; have c6b1 : (((rd_T68 l0 x5_1).f1.f0) != (wrap64 (x1_1 + 1))) = true := bne_iff_ne.mpr c6; obtain rfl := Option.some.inj H; have p184 : 0 ≤ (x5_1 : Int) := zd; have q184 : x5_1 < (l0.length : Int) := zd; obtain ⟨ad184, e184, hx184_0, hx184_1, hx184_2, hx184_3, hx184_4, hx184_5⟩ := at_T68 (Kd.C_below HR0.out HB.out) x5_1 p184 q184; cases e184; replace p184 := eq_true p184; replace q184 := eq_true q184; have p185 : 0 ≤ (x5_1 : Int) := zd; have q185 : x5_1 < (l0.length : Int) := zd; obtain ⟨ad185, e185, hx185_0, hx185_1, hx185_2, hx185_3, hx185_4, hx185_5⟩ := at_T68 (Kd.C_below HR0.out HB.out) x5_1 p185 q185
       obtain rfl : ad184 = ad185 := (by injection e185)
       replace p185 := eq_true p185; replace q185 := eq_true q185
       go_wp2
       go_ret
       exact ⟨zE, zB⟩
     ·rw [if_neg c5] at H; have c5b0 : (((rd_T68 l0 x5_1).f0) == x1_1) = false := beq_eq_false_iff_ne.mpr c5; have c5b1 : (((rd_T68 l0 x5_1).f0) != x1_1) = true := bne_iff_ne.mpr c5; obtain rfl := Option.some.inj H; have p184 : 0 ≤ (x5_1 : Int) := zd; have q184 : x5_1 < (l0.length : Int) := zd; obtain ⟨ad184, e184, hx184_0, hx184_1, hx184_2, hx184_3, hx184_4, hx184_5⟩ := at_T68 (Kd.C_below HR0.out HB.out) x5_1 p184 q184; cases e184; replace p184 := eq_true p184; replace q184 := eq_true q184
      go_wp2
      go_ret
      exact ⟨zE, zB⟩
    ·rw [if_neg c4] at H
     exact absurd H (by simp)
   ·rw [if_neg c3] at H; have c3b0 : decide (x5_1 < (l0.length : Int)) = false := decide_eq_false c3; clear c3; obtain rfl := Option.some.inj H
    go_wp2
    go_ret
    exact ⟨zE, zB⟩

/-! ### laws_heldFloorS: function 71 -/
def laws_heldFloorS.l0 : Nat → List (S72) → Int → Int → Option (Int)
 | 0, _, _, _ => none
 | k + 1, x0, x1, x5 => if x5 < (x0.length : Int) then (if 0 ≤ x5 then (if ((rd_T72 x0 x5).f0) = x1 then (if ((rd_T72 x0 x5).f1) = (wrap64 (x1 + 1)) then (laws_heldFloorS.l0 k x0 (wrap64 ((wrap64 (x1 + 1)) + 1)) (wrap64 (x5 + 1))) else (some (-1))) else (some (-1))) else (none)) else (some x1)
def laws_heldFloorS.f (k : Nat) (l0 : List (S72)) (a1 : Int) : Option (Int) := laws_heldFloorS.l0 k l0 a1 0
theorem laws_heldFloorS.mono_l : ∀ k, (∀ y0 y1 y2, LeO (laws_heldFloorS.l0 k y0 y1 y2) (laws_heldFloorS.l0 (k + 1) y0 y1 y2))
 | 0 => fun _ _ _ r h => by simp [laws_heldFloorS.l0] at h
 | k + 1 => by
  have ih0 := laws_heldFloorS.mono_l k
  ·intro y0 y1 y2
   unfold laws_heldFloorS.l0
   repeat' first | (with_reducible first | exact LeO.refl _ | exact LeO.none _ | refine LeO.ite ?_ ?_ | refine LeO.bind ?_ (fun _ => ?_) | apply ih0) | apply ih0 | exact LeO.none _ | refine LeO.ite ?_ ?_ | refine LeO.bind ?_ (fun _ => ?_)
theorem laws_heldFloorS.mono : ∀ a0 a1 k, LeO (laws_heldFloorS.f k a0 a1) (laws_heldFloorS.f (k + 1) a0 a1) := by
 intro a0 a1 k; have ih0 := laws_heldFloorS.mono_l k
 unfold laws_heldFloorS.f
 repeat' first | (with_reducible first | exact LeO.refl _ | exact LeO.none _ | refine LeO.ite ?_ ?_ | refine LeO.bind ?_ (fun _ => ?_) | apply ih0) | apply ih0 | exact LeO.none _ | refine LeO.ite ?_ ?_ | refine LeO.bind ?_ (fun _ => ?_)
set_option maxHeartbeats 8000000 in
set_option maxRecDepth 100000 in
theorem laws_heldFloorS.calls (k : Nat) (A0 : Option Addr) (c0 : Nat) (l0 : List (S72)) (a1 : Int) (r : Int) (w : World) (hr0 : Kd.C k72 w A0 l0.length l0) (hc0 : l0.length ≤ c0) (h : laws_heldFloorS.f k l0 a1 = some r) :
  Calls Try.prog 71 #[.slice A0 l0.length c0, .int .i64 a1] w fun e w' => e = .returned (.int .i64 r) ∧ Drawn0 w w' := by
 have HR0 := zm hr0; have HC0 := zm hc0; clear hr0 hc0; have H : (laws_heldFloorS.l0 k l0 a1 0) = some r := h; clear h
 have H' := zm H
 clear H; go_enter Try.func71, Try.ntmps71
 go_wp2
 go_loopg [1, 5] k (fun kq v1 v5 w' => ∃ (x1_1 : Int) (x5_1 : Int), v1 = .int .i64 x1_1 ∧ v5 = .int .i64 x5_1 ∧ Aside0 (laws_heldFloorS.l0 kq l0 x1_1 x5_1 = some r) ∧ Aside0 (kq ≤ k) ∧ Drawn0 w w')
 case atStart => exact ⟨(a1), (0), zF, zF, H', ⟨Nat.le_refl _⟩, zD⟩
 case round =>
  clear H'; obtain ⟨x1_1, x5_1, rfl, rfl, HA, HK1, ⟨m1, rfl⟩⟩ := hrel
  cases gk with
  | zero => exact absurd HA.out (by simp [laws_heldFloorS.l0])
  | succ k1 =>
   have H := HA.out; clear HA; simp only [laws_heldFloorS.l0] at H
   by_cases c3 : x5_1 < (l0.length : Int)
   ·rw [if_pos c3] at H; have c3b0 : decide (x5_1 < (l0.length : Int)) = true := decide_eq_true c3; clear c3
    by_cases c4 : 0 ≤ x5_1
    ·rw [if_pos c4] at H; have c4b0 : decide (0 ≤ x5_1) = true := decide_eq_true c4; clear c4
     by_cases c5 : ((rd_T72 l0 x5_1).f0) = x1_1
     ·rw [if_pos c5] at H; have c5b0 : (((rd_T72 l0 x5_1).f0) == x1_1) = true := beq_iff_eq.mpr c5; have c5b1 : (((rd_T72 l0 x5_1).f0) != x1_1) = false := bne_eq_false_iff_eq.mpr c5; clear c5
      by_cases c6 : ((rd_T72 l0 x5_1).f1) = (wrap64 (x1_1 + 1))
      ·rw [if_pos c6] at H; have c6b0 : (((rd_T72 l0 x5_1).f1) == (wrap64 (x1_1 + 1))) = true := beq_iff_eq.mpr c6; have c6b1 : (((rd_T72 l0 x5_1).f1) != (wrap64 (x1_1 + 1))) = false := bne_eq_false_iff_eq.mpr c6; clear c6
       have H' := zm H
       clear H; have p191 : 0 ≤ (x5_1 : Int) := zd; have q191 : x5_1 < (l0.length : Int) := zd; obtain ⟨ad191, e191, hx191_0, hx191_1⟩ := at_T72 HR0.out x5_1 p191 q191; cases e191; replace p191 := eq_true p191; replace q191 := eq_true q191; have p192 : 0 ≤ (x5_1 : Int) := zd; have q192 : x5_1 < (l0.length : Int) := zd; obtain ⟨ad192, e192, hx192_0, hx192_1⟩ := at_T72 HR0.out x5_1 p192 q192
       obtain rfl : ad191 = ad192 := (by injection e192)
       replace p192 := eq_true p192; replace q192 := eq_true q192
       go_wp2
       go_roundg k1
       case measure => have := HK1.out; omega
       case rel => exact ⟨(wrap64 ((wrap64 (x1_1 + 1)) + 1)), (wrap64 (x5_1 + 1)), zF, zF, H', ⟨by have := HK1.out; omega⟩, zD⟩
      ·rw [if_neg c6] at H; have c6b0 : (((rd_T72 l0 x5_1).f1) == (wrap64 (x1_1 + 1))) = false := beq_eq_false_iff_ne.mpr c6; have c6b1 : (((rd_T72 l0 x5_1).f1) != (wrap64 (x1_1 + 1))) = true := bne_iff_ne.mpr c6; obtain rfl := Option.some.inj H; have p191 : 0 ≤ (x5_1 : Int) := zd; have q191 : x5_1 < (l0.length : Int) := zd; obtain ⟨ad191, e191, hx191_0, hx191_1⟩ := at_T72 HR0.out x5_1 p191 q191; cases e191; replace p191 := eq_true p191; replace q191 := eq_true q191; have p192 : 0 ≤ (x5_1 : Int) := zd; have q192 : x5_1 < (l0.length : Int) := zd; obtain ⟨ad192, e192, hx192_0, hx192_1⟩ := at_T72 HR0.out x5_1 p192 q192
       obtain rfl : ad191 = ad192 := (by injection e192)
       replace p192 := eq_true p192; replace q192 := eq_true q192
       go_wp2
       go_ret
       exact ⟨zF, zD⟩
     ·rw [if_neg c5] at H; have c5b0 : (((rd_T72 l0 x5_1).f0) == x1_1) = false := beq_eq_false_iff_ne.mpr c5; have c5b1 : (((rd_T72 l0 x5_1).f0) != x1_1) = true := bne_iff_ne.mpr c5; obtain rfl := Option.some.inj H; have p191 : 0 ≤ (x5_1 : Int) := zd; have q191 : x5_1 < (l0.length : Int) := zd; obtain ⟨ad191, e191, hx191_0, hx191_1⟩ := at_T72 HR0.out x5_1 p191 q191; cases e191; replace p191 := eq_true p191; replace q191 := eq_true q191
      go_wp2
      go_ret
      exact ⟨zF, zD⟩
    ·rw [if_neg c4] at H
     exact absurd H (by simp)
   ·rw [if_neg c3] at H; have c3b0 : decide (x5_1 < (l0.length : Int)) = false := decide_eq_false c3; clear c3; obtain rfl := Option.some.inj H
    go_wp2
    go_ret
    exact ⟨zF, zD⟩

/-! ### laws_heldState: function 26 -/
def laws_heldState.f (k : Nat) (l0_0 : List (S68)) (l0_1 : List (S72)) (a1 : Int) : Option (Int) := (laws_heldItemS.f k l0_0 a1).bind fun t194 => (if t194 < 0 then (some (-1)) else ((laws_heldFloorS.f k l0_1 t194).bind fun t195 => (if t195 < 0 then (some (-1)) else (some t195))))
theorem laws_heldState.mono : ∀ a0 a1 a2 k, LeO (laws_heldState.f k a0 a1 a2) (laws_heldState.f (k + 1) a0 a1 a2) := by
 intro a0 a1 a2 k
 unfold laws_heldState.f
 repeat' first | (with_reducible first | exact LeO.refl _ | exact LeO.none _ | refine LeO.ite ?_ ?_ | refine LeO.bind ?_ (fun _ => ?_) | apply laws_heldFloorS.mono | apply laws_heldItemS.mono) | apply laws_heldFloorS.mono | apply laws_heldItemS.mono | exact LeO.none _ | refine LeO.ite ?_ ?_ | refine LeO.bind ?_ (fun _ => ?_)
set_option maxHeartbeats 8000000 in
set_option maxRecDepth 100000 in
theorem laws_heldState.calls (k : Nat) (A0_0 : Option Addr) (c0_0 : Nat) (l0_0 : List (S68)) (A0_1 : Option Addr) (c0_1 : Nat) (l0_1 : List (S72)) (a1 : Int) (r : Int) (w : World) (hr0_0 : Kd.C k68 w A0_0 l0_0.length l0_0) (hc0_0 : l0_0.length ≤ c0_0) (hr0_1 : Kd.C k72 w A0_1 l0_1.length l0_1) (hc0_1 : l0_1.length ≤ c0_1) (h : laws_heldState.f k l0_0 l0_1 a1 = some r) :
  Calls Try.prog 26 #[.agg #[.slice A0_0 l0_0.length c0_0, .slice A0_1 l0_1.length c0_1], .int .i64 a1] w fun e w' => e = .returned (.int .i64 r) ∧ Below w.heap.size w w' := by
 have hu32 := Try.underlying32; have HR0_0 := zm hr0_0; have HC0_0 := zm hc0_0; clear hr0_0 hc0_0; have HR0_1 := zm hr0_1; have HC0_1 := zm hc0_1; clear hr0_1 hc0_1; have HB := zm (Below.refl w.heap.size w); have H : ((laws_heldItemS.f k l0_0 a1).bind fun t194 => (if t194 < 0 then (some (-1)) else ((laws_heldFloorS.f k l0_1 t194).bind fun t195 => (if t195 < 0 then (some (-1)) else (some t195))))) = some r := h; clear h; replace H := Option.bind_eq_some_iff.mp H; obtain ⟨t194, A30, H⟩ := H; (try dsimp only at H); have A3 := zm A30; clear A30
 by_cases c4 : t194 < 0
 ·rw [if_pos c4] at H; have c4b0 : decide (t194 < 0) = true := decide_eq_true c4; clear c4; obtain rfl := Option.some.inj H; go_enter Try.func26, Try.ntmps26
  go_wp2_with (first | ((with_reducible refine gate_dst (N := 2) rfl ?_); refine zbox 2 #[.slice A0_0 l0_0.length c0_0, .slice A0_1 l0_1.length c0_1] 32 ?_; intro gb193 hg w5 hbox hb; have BK193 := zm (hbox); have GW193 := zge w hg zB; have GE193 := zge w hg zB; replace HB := zm (below_step zB hb); clear hb hbox hg; obtain ⟨hcz6_0, hcz6_1, hfz6_0, hfz6_1⟩ := zc2 BK193) | ((with_reducible refine gate_callee (f := 70) rfl ?_); refine zg (some 8) #[.slice A0_0 l0_0.length c0_0, .int .i64 a1] Try.func70 ?_; (with_reducible refine (laws_heldItemS.calls k _ _ l0_0 a1 t194 _ (zk (Kd.C_below HR0_0.out HB.out)) HC0_0.out A3.out).mono ?_); rintro e w7 ⟨rfl, hb⟩; refine ⟨_, rfl, ?_⟩; replace BK193 := zy BK193 hb; replace HB := zm (below_step zB hb); clear hb))
  go_ret
  exact ⟨zE, zB⟩
 ·rw [if_neg c4] at H; have c4b0 : decide (t194 < 0) = false := decide_eq_false c4; clear c4; replace H := Option.bind_eq_some_iff.mp H; obtain ⟨t195, A80, H⟩ := H; (try dsimp only at H); have A8 := zm A80; clear A80
  by_cases c9 : t195 < 0
  ·rw [if_pos c9] at H; have c9b0 : decide (t195 < 0) = true := decide_eq_true c9; clear c9; obtain rfl := Option.some.inj H; go_enter Try.func26, Try.ntmps26
   go_wp2_with (first | ((with_reducible refine gate_dst (N := 2) rfl ?_); refine zbox 2 #[.slice A0_0 l0_0.length c0_0, .slice A0_1 l0_1.length c0_1] 32 ?_; intro gb193 hg w10 hbox hb; have BK193 := zm (hbox); have GW193 := zge w hg zB; have GE193 := zge w hg zB; replace HB := zm (below_step zB hb); clear hb hbox hg; obtain ⟨hcz11_0, hcz11_1, hfz11_0, hfz11_1⟩ := zc2 BK193) | ((with_reducible refine gate_callee (f := 70) rfl ?_); refine zg (some 8) #[.slice A0_0 l0_0.length c0_0, .int .i64 a1] Try.func70 ?_; (with_reducible refine (laws_heldItemS.calls k _ _ l0_0 a1 t194 _ (zk (Kd.C_below HR0_0.out HB.out)) HC0_0.out A3.out).mono ?_); rintro e w12 ⟨rfl, hb⟩; refine ⟨_, rfl, ?_⟩; replace BK193 := zy BK193 hb; replace HB := zm (below_step zB hb); clear hb; obtain ⟨hcz13_0, hcz13_1, hfz13_0, hfz13_1⟩ := zc2 BK193) | ((with_reducible refine gate_callee (f := 71) rfl ?_); refine zg (some 14) #[.slice A0_1 l0_1.length c0_1, .int .i64 t194] Try.func71 ?_; (with_reducible refine (laws_heldFloorS.calls k _ _ l0_1 t194 t195 _ (zk (Kd.C_below HR0_1.out HB.out)) HC0_1.out A8.out).mono ?_); rintro e w' ⟨rfl, ⟨nd, rfl⟩⟩; refine ⟨_, rfl, ?_⟩))
   go_ret
   exact ⟨zE, zB⟩
  ·rw [if_neg c9] at H; have c9b0 : decide (t195 < 0) = false := decide_eq_false c9; clear c9; obtain rfl := Option.some.inj H; go_enter Try.func26, Try.ntmps26
   go_wp2_with (first | ((with_reducible refine gate_dst (N := 2) rfl ?_); refine zbox 2 #[.slice A0_0 l0_0.length c0_0, .slice A0_1 l0_1.length c0_1] 32 ?_; intro gb193 hg w14 hbox hb; have BK193 := zm (hbox); have GW193 := zge w hg zB; have GE193 := zge w hg zB; replace HB := zm (below_step zB hb); clear hb hbox hg; obtain ⟨hcz15_0, hcz15_1, hfz15_0, hfz15_1⟩ := zc2 BK193) | ((with_reducible refine gate_callee (f := 70) rfl ?_); refine zg (some 8) #[.slice A0_0 l0_0.length c0_0, .int .i64 a1] Try.func70 ?_; (with_reducible refine (laws_heldItemS.calls k _ _ l0_0 a1 t194 _ (zk (Kd.C_below HR0_0.out HB.out)) HC0_0.out A3.out).mono ?_); rintro e w16 ⟨rfl, hb⟩; refine ⟨_, rfl, ?_⟩; replace BK193 := zy BK193 hb; replace HB := zm (below_step zB hb); clear hb; obtain ⟨hcz17_0, hcz17_1, hfz17_0, hfz17_1⟩ := zc2 BK193) | ((with_reducible refine gate_callee (f := 71) rfl ?_); refine zg (some 14) #[.slice A0_1 l0_1.length c0_1, .int .i64 t194] Try.func71 ?_; (with_reducible refine (laws_heldFloorS.calls k _ _ l0_1 t194 t195 _ (zk (Kd.C_below HR0_1.out HB.out)) HC0_1.out A8.out).mono ?_); rintro e w' ⟨rfl, ⟨nd, rfl⟩⟩; refine ⟨_, rfl, ?_⟩))
   go_ret
   exact ⟨zE, zB⟩

/-! ### spec_l1In: function 61 -/
def spec_l1In.f (a0 : Int) (a1 : Int) (a2 : Int) : Option (Bool) := if a0 ≥ a1 then (some (decide (a0 ≤ a2))) else (some false)
set_option maxHeartbeats 8000000 in
set_option maxRecDepth 100000 in
theorem spec_l1In.calls (a0 : Int) (a1 : Int) (a2 : Int) (r : Bool) (w : World) (h : spec_l1In.f a0 a1 a2 = some r) :
  Calls Try.prog 61 #[.int .i64 a0, .int .i64 a1, .int .i64 a2] w fun e w' => e = .returned (.bool r) ∧ Drawn0 w w' := by
 have H : (if a0 ≥ a1 then (some (decide (a0 ≤ a2))) else (some false)) = some r := h; clear h
 by_cases c4 : a0 ≥ a1
 ·rw [if_pos c4] at H; have c4b0 : decide (a1 ≤ a0) = true := decide_eq_true c4; clear c4; obtain rfl := Option.some.inj H; go_enter Try.func61, Try.ntmps61
  go_wp2
  go_ret
  exact ⟨zF, zD⟩
 ·rw [if_neg c4] at H; have c4b0 : decide (a1 ≤ a0) = false := decide_eq_false c4; clear c4; obtain rfl := Option.some.inj H; go_enter Try.func61, Try.ntmps61
  go_wp2
  go_ret
  exact ⟨zF, zD⟩

/-! ### spec_l3Node: function 72 -/
def spec_l3Node.f (a0 : Int) : Option (Bool) := (spec_l1In.f a0 0 4).bind fun t196 => (some t196)
set_option maxHeartbeats 8000000 in
set_option maxRecDepth 100000 in
theorem spec_l3Node.calls (a0 : Int) (r : Bool) (w : World) (h : spec_l3Node.f a0 = some r) :
  Calls Try.prog 72 #[.int .i64 a0] w fun e w' => e = .returned (.bool r) ∧ Drawn0 w w' := by
 have H : ((spec_l1In.f a0 0 4).bind fun t196 => (some t196)) = some r := h; clear h; replace H := Option.bind_eq_some_iff.mp H; obtain ⟨t196, A20, H⟩ := H; (try dsimp only at H); have A2 := zm A20; clear A20; obtain rfl := Option.some.inj H; go_enter Try.func72, Try.ntmps72
 go_wp2_with (first | ((with_reducible refine gate_callee (f := 61) rfl ?_); refine zg (some 4) #[.int .i64 a0, .int .i64 0, .int .i64 4] Try.func61 ?_; (with_reducible refine (spec_l1In.calls a0 0 4 t196 _ A2.out).mono ?_); rintro e w' ⟨rfl, ⟨nd, rfl⟩⟩; refine ⟨_, rfl, ?_⟩))
 go_ret
 exact ⟨zF, zD⟩

/-! ### spec_FloorOf: function 76 -/
def spec_FloorOf.l0 : Nat → Int → Int → List (S68) → List (S72) → Option (Int)
 | 0, _, _, _, _ => none
 | k + 1, x1, x5, x198000, x198001 => if x5 < (x198001.length : Int) then (if 0 ≤ x5 then (if ((rd_T72 x198001 x5).f0) = x1 then (some ((rd_T72 x198001 x5).f1)) else (spec_FloorOf.l0 k x1 (wrap64 (x5 + 1)) x198000 x198001)) else (none)) else (some 0)
def spec_FloorOf.f (k : Nat) (l0_0 : List (S68)) (l0_1 : List (S72)) (a1 : Int) : Option (Int) := spec_FloorOf.l0 k a1 0 l0_0 l0_1
theorem spec_FloorOf.mono_l : ∀ k, (∀ y0 y1 y2 y3, LeO (spec_FloorOf.l0 k y0 y1 y2 y3) (spec_FloorOf.l0 (k + 1) y0 y1 y2 y3))
 | 0 => fun _ _ _ _ r h => by simp [spec_FloorOf.l0] at h
 | k + 1 => by
  have ih0 := spec_FloorOf.mono_l k
  ·intro y0 y1 y2 y3
   unfold spec_FloorOf.l0
   repeat' first | (with_reducible first | exact LeO.refl _ | exact LeO.none _ | refine LeO.ite ?_ ?_ | refine LeO.bind ?_ (fun _ => ?_) | apply ih0) | apply ih0 | exact LeO.none _ | refine LeO.ite ?_ ?_ | refine LeO.bind ?_ (fun _ => ?_)
theorem spec_FloorOf.mono : ∀ a0 a1 a2 k, LeO (spec_FloorOf.f k a0 a1 a2) (spec_FloorOf.f (k + 1) a0 a1 a2) := by
 intro a0 a1 a2 k; have ih0 := spec_FloorOf.mono_l k
 unfold spec_FloorOf.f
 repeat' first | (with_reducible first | exact LeO.refl _ | exact LeO.none _ | refine LeO.ite ?_ ?_ | refine LeO.bind ?_ (fun _ => ?_) | apply ih0) | apply ih0 | exact LeO.none _ | refine LeO.ite ?_ ?_ | refine LeO.bind ?_ (fun _ => ?_)
set_option maxHeartbeats 8000000 in
set_option maxRecDepth 100000 in
theorem spec_FloorOf.calls (k : Nat) (A0_0 : Option Addr) (c0_0 : Nat) (l0_0 : List (S68)) (A0_1 : Option Addr) (c0_1 : Nat) (l0_1 : List (S72)) (a1 : Int) (r : Int) (w : World) (hr0_0 : Kd.C k68 w A0_0 l0_0.length l0_0) (hc0_0 : l0_0.length ≤ c0_0) (hr0_1 : Kd.C k72 w A0_1 l0_1.length l0_1) (hc0_1 : l0_1.length ≤ c0_1) (h : spec_FloorOf.f k l0_0 l0_1 a1 = some r) :
  Calls Try.prog 76 #[.agg #[.slice A0_0 l0_0.length c0_0, .slice A0_1 l0_1.length c0_1], .int .i64 a1] w fun e w' => e = .returned (.int .i64 r) ∧ Below w.heap.size w w' := by
 have hu32 := Try.underlying32; have HR0_0 := zm hr0_0; have HC0_0 := zm hc0_0; clear hr0_0 hc0_0; have HR0_1 := zm hr0_1; have HC0_1 := zm hc0_1; clear hr0_1 hc0_1; have HB := zm (Below.refl w.heap.size w); have H : (spec_FloorOf.l0 k a1 0 l0_0 l0_1) = some r := h; clear h
 have H' := zm H
 clear H; go_enter Try.func76, Try.ntmps76
 go_wp2_with (first | ((with_reducible refine gate_dst (N := 2) rfl ?_); refine zbox 2 #[.slice A0_0 l0_0.length c0_0, .slice A0_1 l0_1.length c0_1] 32 ?_; intro gb197 hg w3 hbox hb; have BK197 := zm (hbox); have GW197 := zge w hg zB; have GE197 := zge w hg zB; replace HB := zm (below_step zB hb); clear hb hbox hg))
 go_loopg [5] k (fun kq v5 w' => ∃ (x5_1 : Int), v5 = .int .i64 x5_1 ∧ Aside0 (spec_FloorOf.l0 kq a1 x5_1 l0_0 l0_1 = some r) ∧ Aside0 (kq ≤ k) ∧ Aside0 (w'.heap[gb197]? = some (.cells #[(.slice A0_0 l0_0.length c0_0), (.slice A0_1 l0_1.length c0_1)] 32 (0, 0))) ∧ Aside0 (Below w.heap.size w w'))
 case atStart => exact ⟨(0), zF, H', ⟨Nat.le_refl _⟩, ⟨zb BK197⟩, ⟨zB⟩⟩
 case round =>
  clear H'; obtain ⟨x5_1, rfl, HA, HK1, BK197, HB⟩ := hrel
  cases gk with
  | zero => exact absurd HA.out (by simp [spec_FloorOf.l0])
  | succ k1 =>
   have H := HA.out; clear HA; simp only [spec_FloorOf.l0] at H
   by_cases c4 : x5_1 < (l0_1.length : Int)
   ·rw [if_pos c4] at H; have c4b0 : decide (x5_1 < (l0_1.length : Int)) = true := decide_eq_true c4; clear c4
    by_cases c5 : 0 ≤ x5_1
    ·rw [if_pos c5] at H; have c5b0 : decide (0 ≤ x5_1) = true := decide_eq_true c5; clear c5
     by_cases c6 : ((rd_T72 l0_1 x5_1).f0) = a1
     ·rw [if_pos c6] at H; have c6b0 : (((rd_T72 l0_1 x5_1).f0) == a1) = true := beq_iff_eq.mpr c6; have c6b1 : (((rd_T72 l0_1 x5_1).f0) != a1) = false := bne_eq_false_iff_eq.mpr c6; clear c6; obtain rfl := Option.some.inj H; obtain ⟨hcz7_0, hcz7_1, hfz7_0, hfz7_1⟩ := zc2 BK197; have p198 : 0 ≤ (x5_1 : Int) := zd; have q198 : x5_1 < (l0_1.length : Int) := zd; obtain ⟨ad198, e198, hx198_0, hx198_1⟩ := at_T72 (Kd.C_below HR0_1.out HB.out) x5_1 p198 q198; cases e198; replace p198 := eq_true p198; replace q198 := eq_true q198; have p199 : 0 ≤ (x5_1 : Int) := zd; have q199 : x5_1 < (l0_1.length : Int) := zd; obtain ⟨ad199, e199, hx199_0, hx199_1⟩ := at_T72 (Kd.C_below HR0_1.out HB.out) x5_1 p199 q199
      obtain rfl : ad198 = ad199 := (by injection e199)
      replace p199 := eq_true p199; replace q199 := eq_true q199
      go_wp2
      go_ret
      exact ⟨zE, zB⟩
     ·rw [if_neg c6] at H; have c6b0 : (((rd_T72 l0_1 x5_1).f0) == a1) = false := beq_eq_false_iff_ne.mpr c6; have c6b1 : (((rd_T72 l0_1 x5_1).f0) != a1) = true := bne_iff_ne.mpr c6
      have H' := zm H
      clear H; obtain ⟨hcz8_0, hcz8_1, hfz8_0, hfz8_1⟩ := zc2 BK197; have p198 : 0 ≤ (x5_1 : Int) := zd; have q198 : x5_1 < (l0_1.length : Int) := zd; obtain ⟨ad198, e198, hx198_0, hx198_1⟩ := at_T72 (Kd.C_below HR0_1.out HB.out) x5_1 p198 q198; cases e198; replace p198 := eq_true p198; replace q198 := eq_true q198
      go_wp2
      go_roundg k1
      case measure => have := HK1.out; omega
      case rel => exact ⟨(wrap64 (x5_1 + 1)), zF, H', ⟨by have := HK1.out; omega⟩, ⟨zb BK197⟩, ⟨zB⟩⟩
    ·rw [if_neg c5] at H
     exact absurd H (by simp)
   ·rw [if_neg c4] at H; have c4b0 : decide (x5_1 < (l0_1.length : Int)) = false := decide_eq_false c4; clear c4; obtain rfl := Option.some.inj H; obtain ⟨hcz9_0, hcz9_1, hfz9_0, hfz9_1⟩ := zc2 BK197
    go_wp2
    go_ret
    exact ⟨zE, zB⟩

/-! ### spec_EntryOk: function 89 -/
def spec_EntryOk.f (a0_0 : Int) (a0_1 : Int) (a0_2 : Int) (a0_3 : Int) (a0_4 : ByteArray) : Option (Bool) := (spec_l1In.f a0_0 1 1000).bind fun t201 => (if t201 = true then ((spec_l1In.f a0_1 0 1).bind fun t202 => (if t202 = true then ((spec_l1In.f a0_2 0 100000).bind fun t203 => (if t203 = true then ((spec_l1In.f a0_3 0 1000).bind fun t204 => (if t204 = true then (some (decide ((a0_4.size : Int) ≤ 8))) else (some false))) else (some false))) else (some false))) else (some false))
set_option maxHeartbeats 8000000 in
set_option maxRecDepth 100000 in
theorem spec_EntryOk.calls (a0_0 : Int) (a0_1 : Int) (a0_2 : Int) (a0_3 : Int) (a0_4 : ByteArray) (r : Bool) (w : World) (h : spec_EntryOk.f a0_0 a0_1 a0_2 a0_3 a0_4 = some r) :
  Calls Try.prog 89 #[.agg #[.int .i64 a0_0, .int .i64 a0_1, .int .i64 a0_2, .int .i64 a0_3, .string a0_4]] w fun e w' => e = .returned (.bool r) ∧ Below w.heap.size w w' := by
 have hu66 := Try.underlying66; have HB := zm (Below.refl w.heap.size w); have H : ((spec_l1In.f a0_0 1 1000).bind fun t201 => (if t201 = true then ((spec_l1In.f a0_1 0 1).bind fun t202 => (if t202 = true then ((spec_l1In.f a0_2 0 100000).bind fun t203 => (if t203 = true then ((spec_l1In.f a0_3 0 1000).bind fun t204 => (if t204 = true then (some (decide ((a0_4.size : Int) ≤ 8))) else (some false))) else (some false))) else (some false))) else (some false))) = some r := h; clear h; replace H := Option.bind_eq_some_iff.mp H; obtain ⟨t201, A20, H⟩ := H; (try dsimp only at H); have A2 := zm A20; clear A20
 by_cases c3 : t201 = true
 ·subst c3; rw [if_pos rfl] at H; replace H := Option.bind_eq_some_iff.mp H; obtain ⟨t202, A40, H⟩ := H; (try dsimp only at H); have A4 := zm A40; clear A40
  by_cases c5 : t202 = true
  ·subst c5; rw [if_pos rfl] at H; replace H := Option.bind_eq_some_iff.mp H; obtain ⟨t203, A60, H⟩ := H; (try dsimp only at H); have A6 := zm A60; clear A60
   by_cases c7 : t203 = true
   ·subst c7; rw [if_pos rfl] at H; replace H := Option.bind_eq_some_iff.mp H; obtain ⟨t204, A80, H⟩ := H; (try dsimp only at H); have A8 := zm A80; clear A80
    by_cases c9 : t204 = true
    ·subst c9; rw [if_pos rfl] at H; obtain rfl := Option.some.inj H; go_enter Try.func89, Try.ntmps89
     go_wp2_with (first | ((with_reducible refine gate_dst (N := 1) rfl ?_); (try (refine gate_guard (by rfl) ?_; dsimp only)); refine zbox 1 #[.int .i64 a0_0, .int .i64 a0_1, .int .i64 a0_2, .int .i64 a0_3, .string a0_4] 66 ?_; intro gb200 hg w10 hbox hb; have BK200 := zm (hbox); have GW200 := zge w hg zB; have GE200 := zge w hg zB; replace HB := zm (below_step zB hb); clear hb hbox hg; obtain ⟨hcz11_0, hcz11_1, hcz11_2, hcz11_3, hcz11_4, hfz11_0, hfz11_1, hfz11_2, hfz11_3, hfz11_4⟩ := zc5 BK200) | ((with_reducible refine gate_callee (f := 61) rfl ?_); refine zg (some 5) #[.int .i64 a0_0, .int .i64 1, .int .i64 1000] Try.func61 ?_; (with_reducible refine (spec_l1In.calls a0_0 1 1000 true _ A2.out).mono ?_); rintro e w' ⟨rfl, ⟨nd, rfl⟩⟩; refine ⟨_, rfl, ?_⟩) | (go_at_call 61; (with_reducible refine (spec_l1In.calls a0_1 0 1 true _ A4.out).mono ?_); rintro e w' ⟨rfl, ⟨nd, rfl⟩⟩) | (go_at_call 61; (with_reducible refine (spec_l1In.calls a0_2 0 100000 true _ A6.out).mono ?_); rintro e w' ⟨rfl, ⟨nd, rfl⟩⟩) | (go_at_call 61; (with_reducible refine (spec_l1In.calls a0_3 0 1000 true _ A8.out).mono ?_); rintro e w' ⟨rfl, ⟨nd, rfl⟩⟩))
     go_ret
     exact ⟨zE, zB⟩
    ·replace c9 := Bool.eq_false_iff.mpr c9; subst c9; rw [zff] at H; obtain rfl := Option.some.inj H; go_enter Try.func89, Try.ntmps89
     go_wp2_with (first | ((with_reducible refine gate_dst (N := 1) rfl ?_); (try (refine gate_guard (by rfl) ?_; dsimp only)); refine zbox 1 #[.int .i64 a0_0, .int .i64 a0_1, .int .i64 a0_2, .int .i64 a0_3, .string a0_4] 66 ?_; intro gb200 hg w12 hbox hb; have BK200 := zm (hbox); have GW200 := zge w hg zB; have GE200 := zge w hg zB; replace HB := zm (below_step zB hb); clear hb hbox hg; obtain ⟨hcz13_0, hcz13_1, hcz13_2, hcz13_3, hcz13_4, hfz13_0, hfz13_1, hfz13_2, hfz13_3, hfz13_4⟩ := zc5 BK200) | ((with_reducible refine gate_callee (f := 61) rfl ?_); refine zg (some 5) #[.int .i64 a0_0, .int .i64 1, .int .i64 1000] Try.func61 ?_; (with_reducible refine (spec_l1In.calls a0_0 1 1000 true _ A2.out).mono ?_); rintro e w' ⟨rfl, ⟨nd, rfl⟩⟩; refine ⟨_, rfl, ?_⟩) | (go_at_call 61; (with_reducible refine (spec_l1In.calls a0_1 0 1 true _ A4.out).mono ?_); rintro e w' ⟨rfl, ⟨nd, rfl⟩⟩) | (go_at_call 61; (with_reducible refine (spec_l1In.calls a0_2 0 100000 true _ A6.out).mono ?_); rintro e w' ⟨rfl, ⟨nd, rfl⟩⟩) | (go_at_call 61; (with_reducible refine (spec_l1In.calls a0_3 0 1000 false _ A8.out).mono ?_); rintro e w' ⟨rfl, ⟨nd, rfl⟩⟩))
     go_ret
     exact ⟨zE, zB⟩
   ·replace c7 := Bool.eq_false_iff.mpr c7; subst c7; rw [zff] at H; obtain rfl := Option.some.inj H; go_enter Try.func89, Try.ntmps89
    go_wp2_with (first | ((with_reducible refine gate_dst (N := 1) rfl ?_); (try (refine gate_guard (by rfl) ?_; dsimp only)); refine zbox 1 #[.int .i64 a0_0, .int .i64 a0_1, .int .i64 a0_2, .int .i64 a0_3, .string a0_4] 66 ?_; intro gb200 hg w14 hbox hb; have BK200 := zm (hbox); have GW200 := zge w hg zB; have GE200 := zge w hg zB; replace HB := zm (below_step zB hb); clear hb hbox hg; obtain ⟨hcz15_0, hcz15_1, hcz15_2, hcz15_3, hcz15_4, hfz15_0, hfz15_1, hfz15_2, hfz15_3, hfz15_4⟩ := zc5 BK200) | ((with_reducible refine gate_callee (f := 61) rfl ?_); refine zg (some 5) #[.int .i64 a0_0, .int .i64 1, .int .i64 1000] Try.func61 ?_; (with_reducible refine (spec_l1In.calls a0_0 1 1000 true _ A2.out).mono ?_); rintro e w' ⟨rfl, ⟨nd, rfl⟩⟩; refine ⟨_, rfl, ?_⟩) | (go_at_call 61; (with_reducible refine (spec_l1In.calls a0_1 0 1 true _ A4.out).mono ?_); rintro e w' ⟨rfl, ⟨nd, rfl⟩⟩) | (go_at_call 61; (with_reducible refine (spec_l1In.calls a0_2 0 100000 false _ A6.out).mono ?_); rintro e w' ⟨rfl, ⟨nd, rfl⟩⟩))
    go_ret
    exact ⟨zE, zB⟩
  ·replace c5 := Bool.eq_false_iff.mpr c5; subst c5; rw [zff] at H; obtain rfl := Option.some.inj H; go_enter Try.func89, Try.ntmps89
   go_wp2_with (first | ((with_reducible refine gate_dst (N := 1) rfl ?_); (try (refine gate_guard (by rfl) ?_; dsimp only)); refine zbox 1 #[.int .i64 a0_0, .int .i64 a0_1, .int .i64 a0_2, .int .i64 a0_3, .string a0_4] 66 ?_; intro gb200 hg w16 hbox hb; have BK200 := zm (hbox); have GW200 := zge w hg zB; have GE200 := zge w hg zB; replace HB := zm (below_step zB hb); clear hb hbox hg; obtain ⟨hcz17_0, hcz17_1, hcz17_2, hcz17_3, hcz17_4, hfz17_0, hfz17_1, hfz17_2, hfz17_3, hfz17_4⟩ := zc5 BK200) | ((with_reducible refine gate_callee (f := 61) rfl ?_); refine zg (some 5) #[.int .i64 a0_0, .int .i64 1, .int .i64 1000] Try.func61 ?_; (with_reducible refine (spec_l1In.calls a0_0 1 1000 true _ A2.out).mono ?_); rintro e w' ⟨rfl, ⟨nd, rfl⟩⟩; refine ⟨_, rfl, ?_⟩) | (go_at_call 61; (with_reducible refine (spec_l1In.calls a0_1 0 1 false _ A4.out).mono ?_); rintro e w' ⟨rfl, ⟨nd, rfl⟩⟩))
   go_ret
   exact ⟨zE, zB⟩
 ·replace c3 := Bool.eq_false_iff.mpr c3; subst c3; rw [zff] at H; obtain rfl := Option.some.inj H; go_enter Try.func89, Try.ntmps89
  go_wp2_with (first | ((with_reducible refine gate_dst (N := 1) rfl ?_); (try (refine gate_guard (by rfl) ?_; dsimp only)); refine zbox 1 #[.int .i64 a0_0, .int .i64 a0_1, .int .i64 a0_2, .int .i64 a0_3, .string a0_4] 66 ?_; intro gb200 hg w18 hbox hb; have BK200 := zm (hbox); have GW200 := zge w hg zB; have GE200 := zge w hg zB; replace HB := zm (below_step zB hb); clear hb hbox hg; obtain ⟨hcz19_0, hcz19_1, hcz19_2, hcz19_3, hcz19_4, hfz19_0, hfz19_1, hfz19_2, hfz19_3, hfz19_4⟩ := zc5 BK200) | ((with_reducible refine gate_callee (f := 61) rfl ?_); refine zg (some 5) #[.int .i64 a0_0, .int .i64 1, .int .i64 1000] Try.func61 ?_; (with_reducible refine (spec_l1In.calls a0_0 1 1000 false _ A2.out).mono ?_); rintro e w' ⟨rfl, ⟨nd, rfl⟩⟩; refine ⟨_, rfl, ?_⟩))
  go_ret
  exact ⟨zE, zB⟩

end Go.Proofs.Ytgapdegniepjiaa.P
