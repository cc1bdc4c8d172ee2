-- by a program of this session, for this seat
import Derived.Test.YtgapdegniepjiaaZ
import Derived.Test.YtgapdegniepjiaaP0
import Derived.Test.YtgapdegniepjiaaPaa
namespace Go.Proofs.Ytgapdegniepjiaa.P
open Go.RowKit Go.Proofs.YtgapdegniepjiaaW.PrintWords Go.Proofs.YtgapdegniepjiaaW.PrintLast Go.Proofs.YtgapdegniepjiaaW.PrintMore Go.Proofs.Ytgapdegniepjiaa.Z
attribute [local go_sem] max2_int min2_int max_two min_two max_three min_three max_four min_four   -- for this text's walks alone
set_option linter.unusedVariables false
set_option linter.unusedSimpArgs false

/-! ### spec_PutNum: function 90 -/
def spec_PutNum.l0 : Nat → Int → List Int → Option (List Int)
 | 0, _, _ => none
 | k + 1, x0, x3 => if x0 > 127 then (if x3.length < 140737488355328 then (spec_PutNum.l0 k (wrap64 (Int.tdiv x0 128)) (x3 ++ [(wrap64 ((Int.tmod x0 128) + 128)) % 256])) else (none)) else (if x3.length < 140737488355328 then (some (x3 ++ [(x0) % 256])) else (none))
def spec_PutNum.f (k : Nat) (a0 : Int) : Option (List Int) := (some (([] : List Int) : List Int)).bind fun y133 => ((spec_l1In.f a0 0 2147483647).bind fun t136 => (if t136 = true then (spec_PutNum.l0 k a0 y133) else (some y133)))
theorem spec_PutNum.mono_l : ∀ k, (∀ y0 y1, LeO (spec_PutNum.l0 k y0 y1) (spec_PutNum.l0 (k + 1) y0 y1))
 | 0 => fun _ _ r h => by simp [spec_PutNum.l0] at h
 | k + 1 => by
  have ih0 := spec_PutNum.mono_l k
  ·intro y0 y1
   unfold spec_PutNum.l0
   repeat' first | (with_reducible first | exact LeO.refl _ | exact LeO.none _ | refine LeO.ite ?_ ?_ | refine LeO.bind ?_ (fun _ => ?_) | apply ih0) | apply ih0 | exact LeO.none _ | refine LeO.ite ?_ ?_ | refine LeO.bind ?_ (fun _ => ?_)
theorem spec_PutNum.mono : ∀ a0 k, LeO (spec_PutNum.f k a0) (spec_PutNum.f (k + 1) a0) := by
 intro a0 k; have ih0 := spec_PutNum.mono_l k
 unfold spec_PutNum.f
 repeat' first | (with_reducible first | exact LeO.refl _ | exact LeO.none _ | refine LeO.ite ?_ ?_ | refine LeO.bind ?_ (fun _ => ?_) | apply ih0) | apply ih0 | exact LeO.none _ | refine LeO.ite ?_ ?_ | refine LeO.bind ?_ (fun _ => ?_)
set_option maxHeartbeats 8000000 in
set_option maxRecDepth 100000 in
theorem spec_PutNum.calls (k : Nat) (a0 : Int) (r : List Int) (w : World) (h : spec_PutNum.f k a0 = some r) :
  Calls Try.prog 90 #[.int .i64 a0] w fun e w' => ∃ v0_ : Value, e = .returned (v0_) ∧ Kd.R (Kd.int .u8) 5 w' w.heap.size (fun _ => True) v0_ r ∧ Below w.heap.size w w' := by
 have HB := zm (Below.refl w.heap.size w); have H : ((some (([] : List Int) : List Int)).bind fun y133 => ((spec_l1In.f a0 0 2147483647).bind fun t136 => (if t136 = true then (spec_PutNum.l0 k a0 y133) else (some y133)))) = some r := h; clear h
 obtain ⟨y133, hy133⟩ : ∃ y_ : List Int, y_ = (([] : List Int)) := ⟨_, rfl⟩
 replace H : ((spec_l1In.f a0 0 2147483647).bind fun t136 => (if t136 = true then (spec_PutNum.l0 k a0 y133) else (some y133))) = some r := by first | (rw [hy133]; with_reducible exact H) | (have H2_ := (Option.bind_some _ _).symm.trans H; rw [hy133]; with_reducible exact H2_) | (have H2_ := (Option.bind_some _ _).symm.trans H; with_reducible exact H2_) | with_reducible exact H | (rw [hy133]; exact H) | exact H
 have Ny133 := zm hy133; clear hy133; replace H := Option.bind_eq_some_iff.mp H; obtain ⟨t136, A20, H⟩ := H; (try dsimp only at H); have A2 := zm A20; clear A20
 by_cases c3 : t136 = true
 ·subst c3; rw [if_pos rfl] at H
  have H' := zm H
  clear H; go_enter Try.func90, Try.ntmps90
  go_wp2_with (first | ((with_reducible refine gate_dst (N := 4) rfl ?_); refine Kd.R_lit (Kd.int .u8) _ 5 ?hg (N := 4) ?hd (xs := ([] : List Int)) (inner := []) (ok := fun _ => True) (okp := fun _ => True) ?hr ?hp (fun _ hk => hk) trivial (Below.refl _ _) (Nat.le_refl _) (by simp) ?_; (case hd => rfl); (case hg => rfl); (case hr => first | (go_simp; done) | (go_simp; rfl)); (case hp => exact (Reps.none _ _)); intro v134 w4 ho5 hb hg_ hnew_; clear hg_ hnew_; (first | rw [← Ny133.out] at ho5 | (simp only [Int.reduceToNat] at ho5; rw [← Ny133.out] at ho5)); have HO135 := zm (Kd.R_lower ho5 (below_size zB)); replace HB := zm (below_step zB hb); clear hb ho5) | (refine zg (some 6) #[.int .i64 a0, .int .i64 0, .int .i64 2147483647] Try.func61 ?_; (with_reducible refine (spec_l1In.calls a0 0 2147483647 true _ A2.out).mono ?_); rintro e w' ⟨rfl, ⟨nd, rfl⟩⟩; refine ⟨_, rfl, ?_⟩))
  go_loopg [0, 3] k (fun kq v0 v3 w' => ∃ (x0_1 : Int) (x3_1 : List Int), v0 = .int .i64 x0_1 ∧ Aside0 (spec_PutNum.l0 kq x0_1 x3_1 = some r) ∧ Aside0 (kq ≤ k) ∧ Aside0 (Kd.R (Kd.int .u8) 5 w' w.heap.size (fun _ => True) v3 x3_1) ∧ Aside0 (Below w.heap.size w w'))
  case atStart => exact ⟨(a0), (y133), zF, H', ⟨Nat.le_refl _⟩, ⟨zr HO135⟩, ⟨zB⟩⟩
  case round =>
   clear H'; (try clear c3); obtain ⟨x0_1, x3_1, rfl, HA, HK1, HO_3, HB⟩ := hrel
   cases gk with
   | zero => exact absurd HA.out (by simp [spec_PutNum.l0])
   | succ k1 =>
    have H := HA.out; clear HA; simp only [spec_PutNum.l0] at H
    by_cases c6 : x0_1 > 127
    ·rw [if_pos c6] at H; have c6b0 : decide (127 < x0_1) = true := decide_eq_true c6; clear c6
     by_cases c7 : x3_1.length < 140737488355328
     ·rw [if_pos c7] at H; have LMc7 := zm c7; clear c7
      obtain ⟨y137, hy137⟩ : ∃ y_ : List Int, y_ = (x3_1 ++ [(wrap64 ((Int.tmod x0_1 128) + 128)) % 256]) := ⟨_, rfl⟩
      replace H : (spec_PutNum.l0 k1 (wrap64 (Int.tdiv x0_1 128)) y137) = some r := by first | (rw [hy137]; with_reducible exact H) | (have H2_ := (Option.bind_some _ _).symm.trans H; rw [hy137]; with_reducible exact H2_) | (have H2_ := (Option.bind_some _ _).symm.trans H; with_reducible exact H2_) | with_reducible exact H | (rw [hy137]; exact H) | exact H
      have Ny137 := zm hy137; clear hy137
      have H' := zm H
      clear H
      go_wp2_with (first | ((with_reducible refine gate_builtin (b := .append) (xs := #[.tmp 11, .tmp 16]) rfl ?_); at_builtin; refine Kd.R_append (Kd.int .u8) (w0 := w) w.heap.size rfl (.tmp 11) (.tmp 16) 27 5 (.int .u8 0) 1 rfl Try.underlying27 info5 rfl (by decide) (by omega) u3 x3_1 ((wrap64 ((Int.tmod x0_1 128) + 128)) % 256) [.int .u8 ((wrap64 ((Int.tmod x0_1 128) + 128)) % 256)] (fun _ => True) (fun _ => False) rfl rfl ?aP (fun _ hk => hk.elim) ?aF ?aO ?aB ?aS ?aL ?_; (case aP => exact rfl); (case aB => exact zB); (case aF => exact (fun _ _ => trivial)); (case aO => exact (zr HO_3)); (case aS => exact (below_size zB)); (case aL => have := LMc7.out; omega); intro v138 w8 ho hb hg hat; rw [← Ny137.out] at ho; replace HB := zm (hb); have HO139 := zm (ho); clear HO_3; clear ho hb hg hat))
      go_roundg k1
      case measure => have := HK1.out; omega
      case rel => exact ⟨(wrap64 (Int.tdiv x0_1 128)), (y137), zF, H', ⟨by have := HK1.out; omega⟩, ⟨zr HO139⟩, ⟨zB⟩⟩
     ·rw [if_neg c7] at H
      exact absurd H (by simp)
    ·rw [if_neg c6] at H; have c6b0 : decide (127 < x0_1) = false := decide_eq_false c6; clear c6
     by_cases c9 : x3_1.length < 140737488355328
     ·rw [if_pos c9] at H; have LMc9 := zm c9; clear c9
      obtain ⟨y140, hy140⟩ : ∃ y_ : List Int, y_ = (x3_1 ++ [(x0_1) % 256]) := ⟨_, rfl⟩
      replace H : (some y140) = some r := by first | (rw [hy140]; with_reducible exact H) | (have H2_ := (Option.bind_some _ _).symm.trans H; rw [hy140]; with_reducible exact H2_) | (have H2_ := (Option.bind_some _ _).symm.trans H; with_reducible exact H2_) | with_reducible exact H | (rw [hy140]; exact H) | exact H
      have Ny140 := zm hy140; clear hy140; obtain rfl := Option.some.inj H
      go_wp2_with (first | ((with_reducible refine gate_builtin (b := .append) (xs := #[.tmp 20, .tmp 23]) rfl ?_); at_builtin; refine Kd.R_append (Kd.int .u8) (w0 := w) w.heap.size rfl (.tmp 20) (.tmp 23) 27 5 (.int .u8 0) 1 rfl Try.underlying27 info5 rfl (by decide) (by omega) u3 x3_1 ((x0_1) % 256) [.int .u8 ((x0_1) % 256)] (fun _ => True) (fun _ => False) rfl rfl ?aP (fun _ hk => hk.elim) ?aF ?aO ?aB ?aS ?aL ?_; (case aP => exact rfl); (case aB => exact zB); (case aF => exact (fun _ _ => trivial)); (case aO => exact (zr HO_3)); (case aS => exact (below_size zB)); (case aL => have := LMc9.out; omega); intro v141 w10 ho hb hg hat; rw [← Ny140.out] at ho; replace HB := zm (hb); have HO142 := zm (ho); clear HO_3; clear ho hb hg hat))
      go_ret
      exact ⟨_, zE, zr HO142, zB⟩
     ·rw [if_neg c9] at H
      exact absurd H (by simp)
 ·replace c3 := Bool.eq_false_iff.mpr c3; subst c3; rw [zff] at H; obtain rfl := Option.some.inj H; go_enter Try.func90, Try.ntmps90
  go_wp2_with (first | ((with_reducible refine gate_dst (N := 4) rfl ?_); refine Kd.R_lit (Kd.int .u8) _ 5 ?hg (N := 4) ?hd (xs := ([] : List Int)) (inner := []) (ok := fun _ => True) (okp := fun _ => True) ?hr ?hp (fun _ hk => hk) trivial (Below.refl _ _) (Nat.le_refl _) (by simp) ?_; (case hd => rfl); (case hg => rfl); (case hr => first | (go_simp; done) | (go_simp; rfl)); (case hp => exact (Reps.none _ _)); intro v134 w11 ho12 hb hg_ hnew_; clear hg_ hnew_; (first | rw [← Ny133.out] at ho12 | (simp only [Int.reduceToNat] at ho12; rw [← Ny133.out] at ho12)); have HO135 := zm (Kd.R_lower ho12 (below_size zB)); replace HB := zm (below_step zB hb); clear hb ho12) | (refine zg (some 6) #[.int .i64 a0, .int .i64 0, .int .i64 2147483647] Try.func61 ?_; (with_reducible refine (spec_l1In.calls a0 0 2147483647 false _ A2.out).mono ?_); rintro e w' ⟨rfl, ⟨nd, rfl⟩⟩; refine ⟨_, rfl, ?_⟩))
  go_ret
  exact ⟨_, zE, zr HO135, zB⟩

/-! ### spec_PutText: function 91, by hand -/
def spec_PutText.f (k : Nat) (a0 : ByteArray) : Option (List Int) := (spec_PutNum.f k (a0.size : Int)).bind fun t1 => if t1.length + a0.size < 140737488355328 then some (t1 ++ bytesOf a0) else none
theorem spec_PutText.mono : ∀ a0 k, LeO (spec_PutText.f k a0) (spec_PutText.f (k + 1) a0) := by
 intro a0 k
 unfold spec_PutText.f
 exact LeO.bind (spec_PutNum.mono _ _) (fun _ => LeO.refl _)
set_option maxHeartbeats 8000000 in
set_option maxRecDepth 100000 in
theorem spec_PutText.calls (k : Nat) (a0 : ByteArray) (r : List Int) (w : World) (h : spec_PutText.f k a0 = some r) :
  Calls Try.prog 91 #[.string a0] w fun e w' => ∃ v0_ : Value, e = .returned (v0_) ∧ Kd.R (Kd.int .u8) 5 w' w.heap.size (fun _ => True) v0_ r ∧ Below w.heap.size w w' := by
 have HB := zm (Below.refl w.heap.size w); have H := Option.bind_eq_some_iff.mp h; clear h; obtain ⟨t1, A10, H⟩ := H; have A1 := zm A10; clear A10
 by_cases c1 : t1.length + a0.size < 140737488355328
 ·rw [if_pos c1] at H; have LM := zm c1; have HSZ := zm (show a0.size ≤ 9223372036854775807 by omega); clear c1; obtain rfl := Option.some.inj H; clear H; go_enter Try.func91, Try.ntmps91
  go_wp2_with (first
   | ((with_reducible refine gate_callee (f := 90) rfl ?_); refine zg (some 5) #[.int .i64 (a0.size : Int)] Try.func90 ?_; (with_reducible refine (spec_PutNum.calls k (a0.size : Int) t1 _ A1.out).mono ?_); rintro e w8 ⟨v1, rfl, ho0, hb⟩; refine ⟨_, rfl, ?_⟩; have HO1 := zm (Kd.R_lower ho0 (below_size zB)); replace HB := zm (below_step zB hb); clear hb ho0)
   | ((with_reducible refine gate_dst (N := 7) rfl ?_); refine zcv a0 w8 9 27 5 Try.underlying9 Try.underlying27 Try.underlying5 HSZ.out rfl (fun kb_ => by first | (go_simp; done) | (go_simp; rfl)) ?_; intro A7 c7 w9 hc7 hl7 hb; have HC7 := zm hc7; replace HO1 := zm (Kd.R_below HO1.out hb); replace HB := zm (below_step zB hb); clear hb hc7 hl7)
   | ((with_reducible refine gate_builtin (b := .append) (xs := #[.tmp 5, .tmp 7]) rfl ?_); at_builtin; refine Kd.R_append_rows (Kd.int .u8) (w0 := w) w.heap.size rfl (.tmp 5) (.tmp 7) 27 5 (.int .u8 0) 1 rfl Try.underlying27 info5 rfl (by decide) (by omega) v1 t1 (bytesOf a0) _ _ _ (fun _ => True) (fun _ => False) rfl rfl ?aO ?aR (fun _ _ h => h) (fun _ h => h.elim) ?aF ?aB ?aS ?aL ?_; (case aR => exact HC7.out); (case aB => exact zB); (case aF => exact (fun _ _ => trivial)); (case aO => exact (zr HO1)); (case aS => exact (below_size zB)); (case aL => have := LM.out; omega); intro v2 w10 ho hb hg hat; replace HB := zm hb; have HO2 := zm ho; clear HO1; clear ho hb hg hat))
  go_ret
  exact ⟨_, zE, zr HO2, zB⟩
 ·rw [if_neg c1] at H
  exact absurd H (by simp)

/-! ### spec_l6Bytes: function 50 -/
mutual
def spec_l6Bytes.l0 : Nat → List Int → Int → List (S68) → List (S72) → Option (List Int)
 | 0, _, _, _, _ => none
 | k + 1, x3, x4, x144000, x144001 => if x4 < (x144000.length : Int) then (if 0 ≤ x4 then (spec_l6Bytes.l1 k x3 x4 (([(rd_T68 x144000 x4).f0, (rd_T68 x144000 x4).f1.f0, (rd_T68 x144000 x4).f1.f1, (rd_T68 x144000 x4).f1.f2, (rd_T68 x144000 x4).f1.f3] : List Int)) 0 x144000 x144001 ((rd_T68 x144000 x4).f1.f0) ((rd_T68 x144000 x4).f1.f1) ((rd_T68 x144000 x4).f1.f2) ((rd_T68 x144000 x4).f1.f3) ((rd_T68 x144000 x4).f1.f4)) else (none)) else ((spec_PutNum.f k (x144001.length : Int)).bind fun t166 => (if x3.length + t166.length < 140737488355328 then (spec_l6Bytes.l2 k (x3 ++ t166) 0 x144000 x144001) else (none)))
def spec_l6Bytes.l1 : Nat → List Int → Int → List Int → Int → List (S68) → List (S72) → Int → Int → Int → Int → ByteArray → Option (List Int)
 | 0, _, _, _, _, _, _, _, _, _, _, _ => none
 | k + 1, x3, x4, x6, x7, x144000, x144001, x149000, x149001, x149002, x149003, x149004 => if x7 < (x6.length : Int) then (if 0 ≤ x7 then ((spec_PutNum.f k (rd x6 x7)).bind fun t154 => (if x3.length + t154.length < 140737488355328 then (spec_l6Bytes.l1 k (x3 ++ t154) x4 x6 (wrap64 (x7 + 1)) x144000 x144001 x149000 x149001 x149002 x149003 x149004) else (none))) else (none)) else ((spec_PutText.f k x149004).bind fun t160 => (if x3.length + t160.length < 140737488355328 then (spec_l6Bytes.l0 k (x3 ++ t160) (wrap64 (x4 + 1)) x144000 x144001) else (none)))
def spec_l6Bytes.l2 : Nat → List Int → Int → List (S68) → List (S72) → Option (List Int)
 | 0, _, _, _, _ => none
 | k + 1, x3, x8, x144000, x144001 => if x8 < (x144001.length : Int) then (if 0 ≤ x8 then ((spec_PutNum.f k ((rd_T72 x144001 x8).f0)).bind fun t173 => (if x3.length + t173.length < 140737488355328 then ((some (x3 ++ t173 : List Int)).bind fun y176 => ((spec_PutNum.f k ((rd_T72 x144001 x8).f1)).bind fun t180 => (if y176.length + t180.length < 140737488355328 then (spec_l6Bytes.l2 k (y176 ++ t180) (wrap64 (x8 + 1)) x144000 x144001) else (none)))) else (none))) else (none)) else (some x3)
end
def spec_l6Bytes.f (k : Nat) (l0_0 : List (S68)) (l0_1 : List (S72)) : Option (List Int) := (spec_PutNum.f k (l0_0.length : Int)).bind fun t144 => (spec_l6Bytes.l0 k t144 0 l0_0 l0_1)
theorem spec_l6Bytes.mono_l : ∀ k, (∀ y0 y1 y2 y3, LeO (spec_l6Bytes.l0 k y0 y1 y2 y3) (spec_l6Bytes.l0 (k + 1) y0 y1 y2 y3)) ∧ (∀ y0 y1 y2 y3 y4 y5 y6 y7 y8 y9 y10, LeO (spec_l6Bytes.l1 k y0 y1 y2 y3 y4 y5 y6 y7 y8 y9 y10) (spec_l6Bytes.l1 (k + 1) y0 y1 y2 y3 y4 y5 y6 y7 y8 y9 y10)) ∧ (∀ y0 y1 y2 y3, LeO (spec_l6Bytes.l2 k y0 y1 y2 y3) (spec_l6Bytes.l2 (k + 1) y0 y1 y2 y3))
 | 0 => ⟨fun _ _ _ _ r h => by simp [spec_l6Bytes.l0] at h, fun _ _ _ _ _ _ _ _ _ _ _ r h => by simp [spec_l6Bytes.l1] at h, fun _ _ _ _ r h => by simp [spec_l6Bytes.l2] at h⟩
 | k + 1 => by
  obtain ⟨ih0, ih1, ih2⟩ := spec_l6Bytes.mono_l k
  refine ⟨?_, ?_, ?_⟩
  ·intro y0 y1 y2 y3
   unfold spec_l6Bytes.l0
   repeat' first | (with_reducible first | exact LeO.refl _ | exact LeO.none _ | refine LeO.ite ?_ ?_ | refine LeO.bind ?_ (fun _ => ?_) | apply ih0 | apply ih1 | apply ih2 | apply spec_PutNum.mono | apply spec_PutText.mono) | apply ih0 | apply ih1 | apply ih2 | apply spec_PutNum.mono | apply spec_PutText.mono | exact LeO.none _ | refine LeO.ite ?_ ?_ | refine LeO.bind ?_ (fun _ => ?_)
  ·intro y0 y1 y2 y3 y4 y5 y6 y7 y8 y9 y10
   unfold spec_l6Bytes.l1
   repeat' first | (with_reducible first | exact LeO.refl _ | exact LeO.none _ | refine LeO.ite ?_ ?_ | refine LeO.bind ?_ (fun _ => ?_) | apply ih0 | apply ih1 | apply ih2 | apply spec_PutNum.mono | apply spec_PutText.mono) | apply ih0 | apply ih1 | apply ih2 | apply spec_PutNum.mono | apply spec_PutText.mono | exact LeO.none _ | refine LeO.ite ?_ ?_ | refine LeO.bind ?_ (fun _ => ?_)
  ·intro y0 y1 y2 y3
   unfold spec_l6Bytes.l2
   repeat' first | (with_reducible first | exact LeO.refl _ | exact LeO.none _ | refine LeO.ite ?_ ?_ | refine LeO.bind ?_ (fun _ => ?_) | apply ih0 | apply ih1 | apply ih2 | apply spec_PutNum.mono | apply spec_PutText.mono) | apply ih0 | apply ih1 | apply ih2 | apply spec_PutNum.mono | apply spec_PutText.mono | exact LeO.none _ | refine LeO.ite ?_ ?_ | refine LeO.bind ?_ (fun _ => ?_)
theorem spec_l6Bytes.mono : ∀ a0 a1 k, LeO (spec_l6Bytes.f k a0 a1) (spec_l6Bytes.f (k + 1) a0 a1) := by
 intro a0 a1 k; obtain ⟨ih0, ih1, ih2⟩ := spec_l6Bytes.mono_l k
 unfold spec_l6Bytes.f
 repeat' first | (with_reducible first | exact LeO.refl _ | exact LeO.none _ | refine LeO.ite ?_ ?_ | refine LeO.bind ?_ (fun _ => ?_) | apply ih0 | apply ih1 | apply ih2 | apply spec_PutNum.mono | apply spec_PutText.mono) | apply ih0 | apply ih1 | apply ih2 | apply spec_PutNum.mono | apply spec_PutText.mono | exact LeO.none _ | refine LeO.ite ?_ ?_ | refine LeO.bind ?_ (fun _ => ?_)
def spec_l6Bytes.T6 : Bool × List (List Nat × List Nat) := (true, [([], []), ([0], [0]), ([], []), ([1, 2], [1, 2]), ([3], [3]), ([4], [4]), ([], []), ([6], [6]), ([], []), ([8], [8]), ([], []), ([10], [10]), ([], []), ([12], [12]), ([5, 7, 9, 11, 13], [5, 7, 9, 11, 13]), ([14, 0, 1, 2, 3, 4, 5, 6, 7, 8, 9, 10, 11, 12, 13, 14], [14])])
def spec_l6Bytes.B6 : List Nat := [0, 1, 0, 7, 15, 31, 0, 64, 0, 256, 0, 1024, 0, 4096, 16383, 32767]
theorem spec_l6Bytes.tab6 : rtab .any (opsOf Try.f50 6) = spec_l6Bytes.T6 := by kernel_rfl
theorem spec_l6Bytes.bits6 : waitsOk spec_l6Bytes.T6.2 spec_l6Bytes.B6 = true := by kernel_rfl
set_option maxHeartbeats 8000000 in
set_option maxRecDepth 100000 in
theorem spec_l6Bytes.calls (k : Nat) (A0_0 : Option Addr) (c0_0 : Nat) (l0_0 : List (S68)) (A0_1 : Option Addr) (c0_1 : Nat) (l0_1 : List (S72)) (r : List Int) (w : World) (hr0_0 : Kd.C k68 w A0_0 l0_0.length l0_0) (hc0_0 : l0_0.length ≤ c0_0) (hr0_1 : Kd.C k72 w A0_1 l0_1.length l0_1) (hc0_1 : l0_1.length ≤ c0_1) (h : spec_l6Bytes.f k l0_0 l0_1 = some r) :
  Calls Try.prog 50 #[.agg #[.slice A0_0 l0_0.length c0_0, .slice A0_1 l0_1.length c0_1]] w fun e w' => ∃ v0_ : Value, e = .returned (v0_) ∧ Kd.R (Kd.int .u8) 5 w' w.heap.size (fun _ => True) v0_ r ∧ Below w.heap.size w w' := by
 have hu32 := Try.underlying32; have hu66 := Try.underlying66; have HR0_0 := zm hr0_0; have HC0_0 := zm hc0_0; clear hr0_0 hc0_0; have HR0_1 := zm hr0_1; have HC0_1 := zm hc0_1; clear hr0_1 hc0_1; have HB := zm (Below.refl w.heap.size w); have H : ((spec_PutNum.f k (l0_0.length : Int)).bind fun t144 => (spec_l6Bytes.l0 k t144 0 l0_0 l0_1)) = some r := h; clear h; replace H := Option.bind_eq_some_iff.mp H; obtain ⟨t144, A20, H⟩ := H; (try dsimp only at H); have A2 := zm A20; clear A20
 have H' := zm H
 clear H; go_enter Try.func50, Try.ntmps50
 go_wp2_with (first | (refine zbox 1 #[.slice A0_0 l0_0.length c0_0, .slice A0_1 l0_1.length c0_1] 32 ?_; intro gb143 hg w3 hbox hb; have BK143 := zm (hbox); have GW143 := zge w hg zB; have GE143 := zge w hg zB; replace HB := zm (below_step zB hb); clear hb hbox hg; obtain ⟨hcz4_0, hcz4_1, hfz4_0, hfz4_1⟩ := zc2 BK143) | (refine zg (some 12) #[.int .i64 (l0_0.length : Int)] Try.func90 ?_; (with_reducible refine (spec_PutNum.calls k (l0_0.length : Int) t144 _ A2.out).mono ?_); rintro e w5 ⟨v145, rfl, ho0, hb⟩; refine ⟨_, rfl, ?_⟩; have HO146 := zm (Kd.R_lower ho0 (below_size zB)); replace BK143 := zy BK143 hb; replace HB := zm (below_step zB hb); clear hb ho0))
 go_loopg [3, 4] k (fun kq v3 v4 w' => ∃ (x3_1 : List Int) (x4_1 : Int), v4 = .int .i64 x4_1 ∧ Aside0 (spec_l6Bytes.l0 kq x3_1 x4_1 l0_0 l0_1 = some r) ∧ Aside0 (kq ≤ k) ∧ Aside0 (Kd.R (Kd.int .u8) 5 w' w.heap.size (fun _ => True) v3 x3_1) ∧ Aside0 (w'.heap[gb143]? = some (.cells #[(.slice A0_0 l0_0.length c0_0), (.slice A0_1 l0_1.length c0_1)] 32 (0, 0))) ∧ Aside0 (Below w.heap.size w w'))
 case atStart => exact ⟨(t144), (0), zF, H', ⟨Nat.le_refl _⟩, ⟨zr HO146⟩, ⟨zb BK143⟩, ⟨zB⟩⟩
 case round =>
  clear H'; (try clear hcz4_0); (try clear hcz4_1); (try clear hfz4_0); (try clear hfz4_1); obtain ⟨x3_1, x4_1, rfl, HA, HK1, HO_3, BK143, HB⟩ := hrel
  cases gk with
  | zero => exact absurd HA.out (by simp [spec_l6Bytes.l0])
  | succ k1 =>
   have H := HA.out; clear HA; simp only [spec_l6Bytes.l0] at H
   by_cases c6 : x4_1 < (l0_0.length : Int)
   ·rw [if_pos c6] at H; have c6b0 : decide (x4_1 < (l0_0.length : Int)) = true := decide_eq_true c6; clear c6
    by_cases c7 : 0 ≤ x4_1
    ·rw [if_pos c7] at H; have c7b0 : decide (0 ≤ x4_1) = true := decide_eq_true c7; clear c7
     obtain ⟨y150, hy150⟩ : ∃ y_ : List Int, y_ = (([(rd_T68 l0_0 x4_1).f0, (rd_T68 l0_0 x4_1).f1.f0, (rd_T68 l0_0 x4_1).f1.f1, (rd_T68 l0_0 x4_1).f1.f2, (rd_T68 l0_0 x4_1).f1.f3] : List Int)) := ⟨_, rfl⟩
     replace H : (spec_l6Bytes.l1 k1 x3_1 x4_1 y150 0 l0_0 l0_1 ((rd_T68 l0_0 x4_1).f1.f0) ((rd_T68 l0_0 x4_1).f1.f1) ((rd_T68 l0_0 x4_1).f1.f2) ((rd_T68 l0_0 x4_1).f1.f3) ((rd_T68 l0_0 x4_1).f1.f4)) = some r := by first | (rw [hy150]; with_reducible exact H) | (have H2_ := (Option.bind_some _ _).symm.trans H; rw [hy150]; with_reducible exact H2_) | (have H2_ := (Option.bind_some _ _).symm.trans H; with_reducible exact H2_) | with_reducible exact H | (rw [hy150]; exact H) | exact H
     have Ny150 := zm hy150; clear hy150
     have H' := zm H
     clear H; obtain ⟨hcz8_0, hcz8_1, hfz8_0, hfz8_1⟩ := zc2 BK143; have p147 : 0 ≤ (x4_1 : Int) := zd; have q147 : x4_1 < (l0_0.length : Int) := zd; obtain ⟨ad147, e147, hx147_0, hx147_1, hx147_2, hx147_3, hx147_4, hx147_5⟩ := at_T68 (Kd.C_below HR0_0.out HB.out) x4_1 p147 q147; cases e147; replace p147 := eq_true p147; replace q147 := eq_true q147
     try go_wp2_with (first | (refine zbox 5 #[.int .i64 0, .int .i64 0, .int .i64 0, .int .i64 0, .string (⟨#[]⟩ : ByteArray)] 66 ?_; intro gb148 hg w9 hbox hb; replace HO_3 := zw HO_3 hb; have BK148 := zm (hbox); have GW148 := zge w hg zB; have GE148 := zge w hg zB; replace HB := zm (below_step zB hb); have NB143_148 := zlt hg (zb BK143); have NB148_143 := zgt hg (zb BK143); replace BK143 := zy BK143 hb; clear hb hbox hg; have hnb10 := NB148_143.out; have hnc10 := NB143_148.out; obtain ⟨hcz11_0, hcz11_1, hcz11_2, hcz11_3, hcz11_4, hfz11_0, hfz11_1, hfz11_2, hfz11_3, hfz11_4⟩ := zc5 BK148))
     obtain ⟨w12, hW_⟩ : ∃ q, q = (((((w9.setCell ⟨gb148, 0, none⟩ (.int .i64 ((rd_T68 l0_0 x4_1).f1.f0))).setCell ⟨gb148, 1, none⟩ (.int .i64 ((rd_T68 l0_0 x4_1).f1.f1))).setCell ⟨gb148, 2, none⟩ (.int .i64 ((rd_T68 l0_0 x4_1).f1.f2))).setCell ⟨gb148, 3, none⟩ (.int .i64 ((rd_T68 l0_0 x4_1).f1.f3))).setCell ⟨gb148, 4, none⟩ (.string ((rd_T68 l0_0 x4_1).f1.f4))) := ⟨_, rfl⟩
     have n0_ : Aside0 (Kd.R (Kd.int .u8) 5 w12 w.heap.size (fun _ => True) u3 x3_1) := ⟨by rw [hW_]; exact zrs <| Kd.R_mono (zfr (zfr (zfr (zfr (zfr (Kd.R_types HO_3.out BK148.out (by decide))))))) (fun _ hk => trivial)⟩; have n1_ : Aside0 (w12.heap[gb143]? = some (.cells #[.slice (some ad147) l0_0.length c0_0, .slice A0_1 l0_1.length c0_1] 32 (0, 0))) := ⟨by rw [hW_]; exact zfar (zfar (zfar (zfar (zfar (zb BK143) NB143_148) NB143_148) NB143_148) NB143_148) NB143_148⟩; have n2_ : Aside0 (w12.heap[gb148]? = some (.cells #[.int .i64 ((rd_T68 l0_0 x4_1).f1.f0), .int .i64 ((rd_T68 l0_0 x4_1).f1.f1), .int .i64 ((rd_T68 l0_0 x4_1).f1.f2), .int .i64 ((rd_T68 l0_0 x4_1).f1.f3), .string ((rd_T68 l0_0 x4_1).f1.f4)] 66 (0, 0))) := ⟨by rw [hW_]; exact zput (zput (zput (zput (zput (zb BK148) 0) 1) 2) 3) 4⟩; have n3_ : Aside0 (Below w.heap.size w w12) := ⟨by rw [hW_]; exact zB⟩
     rw [← hW_]
     clear hW_; (try clear HO_3); (try clear BK143); (try clear BK148); (try clear HB); have HO_3 := n0_; have BK143 := n1_; have BK148 := n2_; have HB := n3_; clear n0_ n1_ n2_ n3_; replace HO_3 := zm (Kd.R_drew HO_3.out); replace BK143 := zq BK143; replace BK148 := zq BK148; replace HB := zm (below_drew1 HB.out); have p149 : 0 ≤ (x4_1 : Int) := zd; have q149 : x4_1 < (l0_0.length : Int) := zd; obtain ⟨ad149, e149, hx149_0, hx149_1, hx149_2, hx149_3, hx149_4, hx149_5⟩ := at_T68 HR0_0.out x4_1 p149 q149; have hw149_5 := hx149_5; have hw149_4 := hx149_4; have hw149_3 := hx149_3; have hw149_2 := hx149_2; have hw149_1 := hx149_1; have hw149_0 := hx149_0
     obtain rfl : ad147 = ad149 := (by injection e149)
     replace hx149_0 := zx HB hx149_0; replace hx149_1 := zx HB hx149_1; replace hx149_2 := zx HB hx149_2; replace hx149_3 := zx HB hx149_3; replace hx149_4 := zx HB hx149_4; replace hx149_5 := zx HB hx149_5; replace p149 := eq_true p149; replace q149 := eq_true q149
     refine start_ (n := 16) (S := fun w' => w'.cell? ⟨gb143, 0, none⟩ = some (.slice (some ad147) l0_0.length c0_0) ∧ w'.cell? ⟨gb143, 1, none⟩ = some (.slice A0_1 l0_1.length c0_1) ∧ w'.cell? ⟨gb148, 0, none⟩ = some (.int .i64 ((rd_T68 l0_0 x4_1).f1.f0)) ∧ w'.cell? ⟨gb148, 1, none⟩ = some (.int .i64 ((rd_T68 l0_0 x4_1).f1.f1)) ∧ w'.cell? ⟨gb148, 2, none⟩ = some (.int .i64 ((rd_T68 l0_0 x4_1).f1.f2)) ∧ w'.cell? ⟨gb148, 3, none⟩ = some (.int .i64 ((rd_T68 l0_0 x4_1).f1.f3)) ∧ w'.cell? ⟨gb148, 4, none⟩ = some (.string ((rd_T68 l0_0 x4_1).f1.f4)) ∧ w'.cell? (ad147.add ((x4_1).toNat * 6)) = some (.int .i64 ((rd_T68 l0_0 x4_1).f0)) ∧ w'.cell? ⟨(ad147.add ((x4_1).toNat * 6)).block, (ad147.add ((x4_1).toNat * 6)).off + 1, none⟩ = some (.int .i64 ((rd_T68 l0_0 x4_1).f1.f0)) ∧ w'.cell? ⟨(ad147.add ((x4_1).toNat * 6)).block, (ad147.add ((x4_1).toNat * 6)).off + 2, none⟩ = some (.int .i64 ((rd_T68 l0_0 x4_1).f1.f1)) ∧ w'.cell? ⟨(ad147.add ((x4_1).toNat * 6)).block, (ad147.add ((x4_1).toNat * 6)).off + 3, none⟩ = some (.int .i64 ((rd_T68 l0_0 x4_1).f1.f2)) ∧ w'.cell? ⟨(ad147.add ((x4_1).toNat * 6)).block, (ad147.add ((x4_1).toNat * 6)).off + 4, none⟩ = some (.int .i64 ((rd_T68 l0_0 x4_1).f1.f3)) ∧ w'.cell? ⟨(ad147.add ((x4_1).toNat * 6)).block, (ad147.add ((x4_1).toNat * 6)).off + 5, none⟩ = some (.string ((rd_T68 l0_0 x4_1).f1.f4))) (ds := []) (zl 16 0) (by kernel_rfl) rfl rfl zS (fun hHeld => ?_); refine with_tabW spec_l6Bytes.tab6 spec_l6Bytes.bits6 (fun HT_ HW_ => ?_)
     generalize w12.drew = w13 at HO_3 BK143 BK148 HB hx149_0 hx149_1 hx149_2 hx149_3 hx149_4 hx149_5 hHeld ⊢
     refine zu 0 26 16 1 ?_
     refine zu 2 28 16 5 ?_
     refine zu 6 32 16 69 ?_
     refine zu 8 34 16 325 ?_
     refine zu 10 36 16 1349 ?_
     refine zu 12 38 16 5445 ?_
     refine zv 1 27 16 5447 ?_
     refine zu 3 29 16 5455 ?_
     refine zu 4 30 16 5471 ?_
     refine zv 5 31 16 5503 ?_
     refine zv 7 33 16 5631 ?_
     refine zv 9 35 16 6143 ?_
     refine zv 11 37 16 8191 ?_
     refine zv 13 39 16 16383 ?_
     refine zo 14 (some 40) (zl 16 32767) (fun K hK => ?_)
     refine Kd.R_lit_step (Kd.int .i64) _ 3 ?hg (N := 40) ?hd (xs := ([(rd_T68 l0_0 x4_1).f0, (rd_T68 l0_0 x4_1).f1.f0, (rd_T68 l0_0 x4_1).f1.f1, (rd_T68 l0_0 x4_1).f1.f2, (rd_T68 l0_0 x4_1).f1.f3] : List Int)) (inner := [.int .i64 ((rd_T68 l0_0 x4_1).f0), .int .i64 ((rd_T68 l0_0 x4_1).f1.f0), .int .i64 ((rd_T68 l0_0 x4_1).f1.f1), .int .i64 ((rd_T68 l0_0 x4_1).f1.f2), .int .i64 ((rd_T68 l0_0 x4_1).f1.f3)]) (ok := fun _ => True) (okp := fun _ => True) ?hr ?hp (fun _ hk => hk) trivial (Below.refl _ _) (Nat.le_refl _) (by simp) ?_; (case hd => rfl); (case hg => rfl); (case hr => first | (go_simp; done) | (go_simp; rfl)); (case hp => exact (Reps.one (show Kd.M (Kd.int .i64) _ _ _ ((rd_T68 l0_0 x4_1).f0) [.int .i64 ((rd_T68 l0_0 x4_1).f0)] from rfl) (Reps.one (show Kd.M (Kd.int .i64) _ _ _ ((rd_T68 l0_0 x4_1).f1.f0) [.int .i64 ((rd_T68 l0_0 x4_1).f1.f0)] from rfl) (Reps.one (show Kd.M (Kd.int .i64) _ _ _ ((rd_T68 l0_0 x4_1).f1.f1) [.int .i64 ((rd_T68 l0_0 x4_1).f1.f1)] from rfl) (Reps.one (show Kd.M (Kd.int .i64) _ _ _ ((rd_T68 l0_0 x4_1).f1.f2) [.int .i64 ((rd_T68 l0_0 x4_1).f1.f2)] from rfl) (Reps.one (show Kd.M (Kd.int .i64) _ _ _ ((rd_T68 l0_0 x4_1).f1.f3) [.int .i64 ((rd_T68 l0_0 x4_1).f1.f3)] from rfl) (Reps.none _ _)))))))
     intro v151 w14 ho15 hb hg_ hnew_; clear hg_ hnew_
     (first | rw [← Ny150.out] at ho15 | (simp only [Int.reduceToNat] at ho15; rw [← Ny150.out] at ho15))
     replace HO_3 := zw HO_3 hb; have HO152 := zm (Kd.R_lower ho15 (below_size zB)); replace BK143 := zy BK143 hb; replace BK148 := zy BK148 hb; replace HB := zm (below_step zB hb); clear hb ho15; refine hK.out _ _ zS (fun hHeld => ?_); clear hK K; refine zn (N := some 40) ?_
     refine zu 15 6 16 65535 ?_
     refine done_ (done_of HT_.out (by kernel_rfl)) ?_
     try go_wp2
     go_loopg [3, 7] k1 (fun kq v3 v7 w' => ∃ (x3_2 : List Int) (x7_2 : Int), v7 = .int .i64 x7_2 ∧ Aside0 (spec_l6Bytes.l1 kq x3_2 x4_1 y150 x7_2 l0_0 l0_1 ((rd_T68 l0_0 x4_1).f1.f0) ((rd_T68 l0_0 x4_1).f1.f1) ((rd_T68 l0_0 x4_1).f1.f2) ((rd_T68 l0_0 x4_1).f1.f3) ((rd_T68 l0_0 x4_1).f1.f4) = some r) ∧ Aside0 (kq ≤ k1) ∧ Aside0 (Kd.R (Kd.int .u8) 5 w' w.heap.size (fun _ => True) v3 x3_2) ∧ Aside0 (Kd.R (Kd.int .i64) 3 w' w.heap.size (fun _ => True) v151 y150) ∧ Aside0 (w'.heap[gb143]? = some (.cells #[(.slice (some ad147) l0_0.length c0_0), (.slice A0_1 l0_1.length c0_1)] 32 (0, 0))) ∧ Aside0 (w'.heap[gb148]? = some (.cells #[.int .i64 ((rd_T68 l0_0 x4_1).f1.f0), .int .i64 ((rd_T68 l0_0 x4_1).f1.f1), .int .i64 ((rd_T68 l0_0 x4_1).f1.f2), .int .i64 ((rd_T68 l0_0 x4_1).f1.f3), .string ((rd_T68 l0_0 x4_1).f1.f4)] 66 (0, 0))) ∧ Aside0 (Below w.heap.size w w'))
     case atStart => exact ⟨(x3_1), (0), zF, H', ⟨Nat.le_refl _⟩, ⟨zr HO_3⟩, ⟨zr HO152⟩, ⟨zb BK143⟩, ⟨zb BK148⟩, ⟨zB⟩⟩
     case round =>
      clear H'; (try clear c6); (try clear c6b0); (try clear c7); (try clear c7b0); (try clear hcz11_0); (try clear hcz11_1); (try clear hcz11_2); (try clear hcz11_3); (try clear hcz11_4); (try clear hcz4_0); (try clear hcz4_1); (try clear hcz8_0); (try clear hcz8_1); (try clear hfz11_0); (try clear hfz11_1); (try clear hfz11_2); (try clear hfz11_3); (try clear hfz11_4); (try clear hfz4_0); (try clear hfz4_1); (try clear hfz8_0); (try clear hfz8_1); (try clear hx147_0); (try clear hx147_1); (try clear hx147_2); (try clear hx147_3); (try clear hx147_4); (try clear hx147_5); (try clear hx149_0); (try clear hx149_1); (try clear hx149_2); (try clear hx149_3); (try clear hx149_4); (try clear hx149_5); (try clear p147); (try clear p149); (try clear q147); (try clear q149); obtain ⟨x3_2, x7_2, rfl, HA, HK2, HO_3, HO_6, BK143, BK148, HB⟩ := hrel
      cases gk with
      | zero => exact absurd HA.out (by simp [spec_l6Bytes.l1])
      | succ k2 =>
       have H := HA.out; clear HA; simp only [spec_l6Bytes.l1] at H
       by_cases c16 : x7_2 < (y150.length : Int)
       ·rw [if_pos c16] at H; have c16b0 : decide (x7_2 < (y150.length : Int)) = true := decide_eq_true c16; clear c16
        by_cases c17 : 0 ≤ x7_2
        ·rw [if_pos c17] at H; have c17b0 : decide (0 ≤ x7_2) = true := decide_eq_true c17; clear c17; replace H := Option.bind_eq_some_iff.mp H; obtain ⟨t154, A180, H⟩ := H; (try dsimp only at H); have A18 := zm A180; clear A180
         by_cases c19 : x3_2.length + t154.length < 140737488355328
         ·rw [if_pos c19] at H; have LMc19 := zm c19; clear c19
          obtain ⟨y157, hy157⟩ : ∃ y_ : List Int, y_ = (x3_2 ++ t154) := ⟨_, rfl⟩
          replace H : (spec_l6Bytes.l1 k2 y157 x4_1 y150 (wrap64 (x7_2 + 1)) l0_0 l0_1 ((rd_T68 l0_0 x4_1).f1.f0) ((rd_T68 l0_0 x4_1).f1.f1) ((rd_T68 l0_0 x4_1).f1.f2) ((rd_T68 l0_0 x4_1).f1.f3) ((rd_T68 l0_0 x4_1).f1.f4)) = some r := by first | (rw [hy157]; with_reducible exact H) | (have H2_ := (Option.bind_some _ _).symm.trans H; rw [hy157]; with_reducible exact H2_) | (have H2_ := (Option.bind_some _ _).symm.trans H; with_reducible exact H2_) | with_reducible exact H | (rw [hy157]; exact H) | exact H
          have Ny157 := zm hy157; clear hy157
          have H' := zm H
          clear H; obtain ⟨Ao20, co20, eo20⟩ := Kd.R_slice HO_6.out; subst eo20; have p153 : 0 ≤ (x7_2 : Int) := zd; have q153 : x7_2 < (y150.length : Int) := zd; obtain ⟨ad153, e153, hx153_0⟩ := Kd.at_int (Kd.R_reads' HO_6.out).2.2 x7_2 p153 q153; cases e153; replace p153 := eq_true p153; replace q153 := eq_true q153
          go_wp2_with (first | (refine zg (some 52) #[.int .i64 (rd y150 x7_2)] Try.func90 ?_; (with_reducible refine (spec_PutNum.calls k2 (rd y150 x7_2) t154 _ A18.out).mono ?_); rintro e w21 ⟨v155, rfl, ho0, hb⟩; refine ⟨_, rfl, ?_⟩; replace HO_6 := zw HO_6 hb; have HO156 := zm (Kd.R_lower (Kd.R_new' ho0 (Kd.R_lt (zr HO_3))) (below_size zB)); replace HO_3 := zm (Kd.R_elder' (zr HO_3) (Kd.R_base ho0) hb); replace BK143 := zy BK143 hb; replace BK148 := zy BK148 hb; replace HB := zm (below_step zB hb); clear hb ho0; obtain ⟨Ao23, co23, eo23⟩ := Kd.R_slice HO156.out; subst eo23) | ((with_reducible refine gate_builtin (b := .append) (xs := #[.tmp 47, .tmp 52]) rfl ?_); at_builtin; refine Kd.R_append_rows (Kd.int .u8) (w0 := w) w.heap.size rfl (.tmp 47) (.tmp 52) 27 5 (.int .u8 0) 1 rfl Try.underlying27 info5 rfl (by decide) (by omega) u3 x3_2 t154 _ _ _ (fun k_ => some k_ ≠ (.slice Ao23 t154.length co23 : Value).ownBlock) (fun _ => False) rfl rfl ?aO ?aR (fun _ _ h => h) (fun _ h => h.elim) ?aF ?aB ?aS ?aL ?_; (case aR => repeat (first | exact (Kd.R_reads' HO156.out).2.2 | (with_reducible refine Kd.C_alloc ?_ _) | (with_reducible refine Kd.C_drewN ?_ _) | (with_reducible refine Kd.C_drew ?_))); (case aB => exact zB); (case aF => exact (fun k_ hk => Kd.fresh' (Kd.R_lt (zr HO156)) k_ hk)); (case aO => exact (by (with_reducible repeat (first | apply Kd.R_alloc | apply Kd.R_drewN | apply Kd.R_drew)); exact Kd.R_mono HO_3.out (fun _ hk => hk.2))); (case aS => exact (below_size zB)); (case aL => have := LMc19.out; omega); intro v158 w22 ho hb hg hat; rw [← Ny157.out] at ho; replace HO_6 := zm (Kd.R_over' (zr HO_6) (Kd.R_typed (zr HO_3)) (by decide) hg); replace BK143 := zgr hg (zb BK143) (Kd.R_ne HO_3.out BK143.out (by decide)); replace BK148 := zgr hg (zb BK148) (Kd.R_ne HO_3.out BK148.out (by decide)); replace HO156 := zm (Kd.R_after (ok := (fun _ => True)) (zr HO156) hg hat); replace HB := zm (hb); have HO159 := zm (ho); clear HO_3; clear ho hb hg hat))
          go_roundg k2
          case measure => have := HK1.out; have := HK2.out; omega
          case rel => exact ⟨(y157), (wrap64 (x7_2 + 1)), zF, H', ⟨by have := HK1.out; have := HK2.out; omega⟩, ⟨by (with_reducible repeat (first | apply Kd.R_alloc | apply Kd.R_drewN | apply Kd.R_drew)); exact Kd.R_mono HO159.out (fun _ hk => trivial)⟩, ⟨zr HO_6⟩, ⟨zb BK143⟩, ⟨zb BK148⟩, ⟨zB⟩⟩
         ·rw [if_neg c19] at H
          exact absurd H (by simp)
        ·rw [if_neg c17] at H
         exact absurd H (by simp)
       ·rw [if_neg c16] at H; have c16b0 : decide (x7_2 < (y150.length : Int)) = false := decide_eq_false c16; clear c16; replace H := Option.bind_eq_some_iff.mp H; obtain ⟨t160, A240, H⟩ := H; (try dsimp only at H); have A24 := zm A240; clear A240
        by_cases c25 : x3_2.length + t160.length < 140737488355328
        ·rw [if_pos c25] at H; have LMc25 := zm c25; clear c25
         obtain ⟨y163, hy163⟩ : ∃ y_ : List Int, y_ = (x3_2 ++ t160) := ⟨_, rfl⟩
         replace H : (spec_l6Bytes.l0 k2 y163 (wrap64 (x4_1 + 1)) l0_0 l0_1) = some r := by first | (rw [hy163]; with_reducible exact H) | (have H2_ := (Option.bind_some _ _).symm.trans H; rw [hy163]; with_reducible exact H2_) | (have H2_ := (Option.bind_some _ _).symm.trans H; with_reducible exact H2_) | with_reducible exact H | (rw [hy163]; exact H) | exact H
         have Ny163 := zm hy163; clear hy163
         have H' := zm H
         clear H; obtain ⟨Ao26, co26, eo26⟩ := Kd.R_slice HO_6.out; subst eo26; have hnb27 := NB148_143.out; have hnc27 := NB143_148.out; obtain ⟨hcz28_0, hcz28_1, hcz28_2, hcz28_3, hcz28_4, hfz28_0, hfz28_1, hfz28_2, hfz28_3, hfz28_4⟩ := zc5 BK148
         go_wp2_with (first | (refine zg (some 57) #[.string ((rd_T68 l0_0 x4_1).f1.f4)] Try.func91 ?_; (with_reducible refine (spec_PutText.calls k2 ((rd_T68 l0_0 x4_1).f1.f4) t160 _ A24.out).mono ?_); rintro e w29 ⟨v161, rfl, ho0, hb⟩; refine ⟨_, rfl, ?_⟩; replace HO_6 := zw HO_6 hb; have HO162 := zm (Kd.R_lower (Kd.R_new' ho0 (Kd.R_lt (zr HO_3))) (below_size zB)); replace HO_3 := zm (Kd.R_elder' (zr HO_3) (Kd.R_base ho0) hb); replace BK143 := zy BK143 hb; replace BK148 := zy BK148 hb; replace HB := zm (below_step zB hb); clear hb ho0; obtain ⟨Ao31, co31, eo31⟩ := Kd.R_slice HO162.out; subst eo31) | ((with_reducible refine gate_builtin (b := .append) (xs := #[.tmp 54, .tmp 57]) rfl ?_); at_builtin; refine Kd.R_append_rows (Kd.int .u8) (w0 := w) w.heap.size rfl (.tmp 54) (.tmp 57) 27 5 (.int .u8 0) 1 rfl Try.underlying27 info5 rfl (by decide) (by omega) u3 x3_2 t160 _ _ _ (fun k_ => some k_ ≠ (.slice Ao31 t160.length co31 : Value).ownBlock) (fun _ => False) rfl rfl ?aO ?aR (fun _ _ h => h) (fun _ h => h.elim) ?aF ?aB ?aS ?aL ?_; (case aR => repeat (first | exact (Kd.R_reads' HO162.out).2.2 | (with_reducible refine Kd.C_alloc ?_ _) | (with_reducible refine Kd.C_drewN ?_ _) | (with_reducible refine Kd.C_drew ?_))); (case aB => exact zB); (case aF => exact (fun k_ hk => Kd.fresh' (Kd.R_lt (zr HO162)) k_ hk)); (case aO => exact (by (with_reducible repeat (first | apply Kd.R_alloc | apply Kd.R_drewN | apply Kd.R_drew)); exact Kd.R_mono HO_3.out (fun _ hk => hk.2))); (case aS => exact (below_size zB)); (case aL => have := LMc25.out; omega); intro v164 w30 ho hb hg hat; rw [← Ny163.out] at ho; replace HO_6 := zm (Kd.R_over' (zr HO_6) (Kd.R_typed (zr HO_3)) (by decide) hg); replace BK143 := zgr hg (zb BK143) (Kd.R_ne HO_3.out BK143.out (by decide)); replace BK148 := zgr hg (zb BK148) (Kd.R_ne HO_3.out BK148.out (by decide)); replace HO162 := zm (Kd.R_after (ok := (fun _ => True)) (zr HO162) hg hat); replace HB := zm (hb); have HO165 := zm (ho); clear HO_3; clear ho hb hg hat))
         go_roundg k2
         case measure => have := HK1.out; have := HK2.out; omega
         case rel => exact ⟨(y163), (wrap64 (x4_1 + 1)), zF, H', ⟨by have := HK1.out; have := HK2.out; omega⟩, ⟨by (with_reducible repeat (first | apply Kd.R_alloc | apply Kd.R_drewN | apply Kd.R_drew)); exact Kd.R_mono HO165.out (fun _ hk => trivial)⟩, ⟨zb BK143⟩, ⟨zB⟩⟩
        ·rw [if_neg c25] at H
         exact absurd H (by simp)
    ·rw [if_neg c7] at H
     exact absurd H (by simp)
   ·rw [if_neg c6] at H; have c6b0 : decide (x4_1 < (l0_0.length : Int)) = false := decide_eq_false c6; clear c6; replace H := Option.bind_eq_some_iff.mp H; obtain ⟨t166, A320, H⟩ := H; (try dsimp only at H); have A32 := zm A320; clear A320
    by_cases c33 : x3_1.length + t166.length < 140737488355328
    ·rw [if_pos c33] at H; have LMc33 := zm c33; clear c33
     obtain ⟨y169, hy169⟩ : ∃ y_ : List Int, y_ = (x3_1 ++ t166) := ⟨_, rfl⟩
     replace H : (spec_l6Bytes.l2 k1 y169 0 l0_0 l0_1) = some r := by first | (rw [hy169]; with_reducible exact H) | (have H2_ := (Option.bind_some _ _).symm.trans H; rw [hy169]; with_reducible exact H2_) | (have H2_ := (Option.bind_some _ _).symm.trans H; with_reducible exact H2_) | with_reducible exact H | (rw [hy169]; exact H) | exact H
     have Ny169 := zm hy169; clear hy169
     have H' := zm H
     clear H; obtain ⟨hcz34_0, hcz34_1, hfz34_0, hfz34_1⟩ := zc2 BK143
     go_wp2_with (first | (refine zg (some 63) #[.int .i64 (l0_1.length : Int)] Try.func90 ?_; (with_reducible refine (spec_PutNum.calls k1 (l0_1.length : Int) t166 _ A32.out).mono ?_); rintro e w35 ⟨v167, rfl, ho0, hb⟩; refine ⟨_, rfl, ?_⟩; have HO168 := zm (Kd.R_lower (Kd.R_new' ho0 (Kd.R_lt (zr HO_3))) (below_size zB)); replace HO_3 := zm (Kd.R_elder' (zr HO_3) (Kd.R_base ho0) hb); replace BK143 := zy BK143 hb; replace HB := zm (below_step zB hb); clear hb ho0; obtain ⟨Ao37, co37, eo37⟩ := Kd.R_slice HO168.out; subst eo37) | ((with_reducible refine gate_builtin (b := .append) (xs := #[.tmp 59, .tmp 63]) rfl ?_); at_builtin; refine Kd.R_append_rows (Kd.int .u8) (w0 := w) w.heap.size rfl (.tmp 59) (.tmp 63) 27 5 (.int .u8 0) 1 rfl Try.underlying27 info5 rfl (by decide) (by omega) u3 x3_1 t166 _ _ _ (fun k_ => some k_ ≠ (.slice Ao37 t166.length co37 : Value).ownBlock) (fun _ => False) rfl rfl ?aO ?aR (fun _ _ h => h) (fun _ h => h.elim) ?aF ?aB ?aS ?aL ?_; (case aR => repeat (first | exact (Kd.R_reads' HO168.out).2.2 | (with_reducible refine Kd.C_alloc ?_ _) | (with_reducible refine Kd.C_drewN ?_ _) | (with_reducible refine Kd.C_drew ?_))); (case aB => exact zB); (case aF => exact (fun k_ hk => Kd.fresh' (Kd.R_lt (zr HO168)) k_ hk)); (case aO => exact (by (with_reducible repeat (first | apply Kd.R_alloc | apply Kd.R_drewN | apply Kd.R_drew)); exact Kd.R_mono HO_3.out (fun _ hk => hk.2))); (case aS => exact (below_size zB)); (case aL => have := LMc33.out; omega); intro v170 w36 ho hb hg hat; rw [← Ny169.out] at ho; replace BK143 := zgr hg (zb BK143) (Kd.R_ne HO_3.out BK143.out (by decide)); replace HO168 := zm (Kd.R_after (ok := (fun _ => True)) (zr HO168) hg hat); replace HB := zm (hb); have HO171 := zm (ho); clear HO_3; clear ho hb hg hat))
     go_loopg [3, 8] k1 (fun kq v3 v8 w' => ∃ (x3_2 : List Int) (x8_2 : Int), v8 = .int .i64 x8_2 ∧ Aside0 (spec_l6Bytes.l2 kq x3_2 x8_2 l0_0 l0_1 = some r) ∧ Aside0 (kq ≤ k1) ∧ Aside0 (Kd.R (Kd.int .u8) 5 w' w.heap.size (fun _ => True) v3 x3_2) ∧ Aside0 (w'.heap[gb143]? = some (.cells #[(.slice A0_0 l0_0.length c0_0), (.slice A0_1 l0_1.length c0_1)] 32 (0, 0))) ∧ Aside0 (Below w.heap.size w w'))
     case atStart => exact ⟨(y169), (0), zF, H', ⟨Nat.le_refl _⟩, ⟨by (with_reducible repeat (first | apply Kd.R_alloc | apply Kd.R_drewN | apply Kd.R_drew)); exact Kd.R_mono HO171.out (fun _ hk => trivial)⟩, ⟨zb BK143⟩, ⟨zB⟩⟩
     case round =>
      clear H'; (try clear c6); (try clear c6b0); (try clear c33); (try clear hcz34_0); (try clear hcz34_1); (try clear hcz4_0); (try clear hcz4_1); (try clear hfz34_0); (try clear hfz34_1); (try clear hfz4_0); (try clear hfz4_1); obtain ⟨x3_2, x8_2, rfl, HA, HK2, HO_3, BK143, HB⟩ := hrel
      cases gk with
      | zero => exact absurd HA.out (by simp [spec_l6Bytes.l2])
      | succ k2 =>
       have H := HA.out; clear HA; simp only [spec_l6Bytes.l2] at H
       by_cases c38 : x8_2 < (l0_1.length : Int)
       ·rw [if_pos c38] at H; have c38b0 : decide (x8_2 < (l0_1.length : Int)) = true := decide_eq_true c38; clear c38
        by_cases c39 : 0 ≤ x8_2
        ·rw [if_pos c39] at H; have c39b0 : decide (0 ≤ x8_2) = true := decide_eq_true c39; clear c39; replace H := Option.bind_eq_some_iff.mp H; obtain ⟨t173, A400, H⟩ := H; (try dsimp only at H); have A40 := zm A400; clear A400
         by_cases c41 : x3_2.length + t173.length < 140737488355328
         ·rw [if_pos c41] at H; have LMc41 := zm c41; clear c41
          obtain ⟨y176, hy176⟩ : ∃ y_ : List Int, y_ = (x3_2 ++ t173) := ⟨_, rfl⟩
          replace H : ((spec_PutNum.f k2 ((rd_T72 l0_1 x8_2).f1)).bind fun t180 => (if y176.length + t180.length < 140737488355328 then (spec_l6Bytes.l2 k2 (y176 ++ t180) (wrap64 (x8_2 + 1)) l0_0 l0_1) else (none))) = some r := by first | (rw [hy176]; with_reducible exact H) | (have H2_ := (Option.bind_some _ _).symm.trans H; rw [hy176]; with_reducible exact H2_) | (have H2_ := (Option.bind_some _ _).symm.trans H; with_reducible exact H2_) | with_reducible exact H | (rw [hy176]; exact H) | exact H
          have Ny176 := zm hy176; clear hy176; replace H := Option.bind_eq_some_iff.mp H; obtain ⟨t180, A420, H⟩ := H; (try dsimp only at H); have A42 := zm A420; clear A420
          by_cases c43 : y176.length + t180.length < 140737488355328
          ·rw [if_pos c43] at H; have LMc43 := zm c43; clear c43
           obtain ⟨y183, hy183⟩ : ∃ y_ : List Int, y_ = (y176 ++ t180) := ⟨_, rfl⟩
           replace H : (spec_l6Bytes.l2 k2 y183 (wrap64 (x8_2 + 1)) l0_0 l0_1) = some r := by first | (rw [hy183]; with_reducible exact H) | (have H2_ := (Option.bind_some _ _).symm.trans H; rw [hy183]; with_reducible exact H2_) | (have H2_ := (Option.bind_some _ _).symm.trans H; with_reducible exact H2_) | with_reducible exact H | (rw [hy183]; exact H) | exact H
           have Ny183 := zm hy183; clear hy183
           have H' := zm H
           clear H; obtain ⟨hcz44_0, hcz44_1, hfz44_0, hfz44_1⟩ := zc2 BK143; have p172 : 0 ≤ (x8_2 : Int) := zd; have q172 : x8_2 < (l0_1.length : Int) := zd; obtain ⟨ad172, e172, hx172_0, hx172_1⟩ := at_T72 (Kd.C_below HR0_1.out HB.out) x8_2 p172 q172; cases e172; replace p172 := eq_true p172; replace q172 := eq_true q172
           go_wp2_with (first | (refine zg (some 79) #[.int .i64 ((rd_T72 l0_1 x8_2).f0)] Try.func90 ?_; (with_reducible refine (spec_PutNum.calls k2 ((rd_T72 l0_1 x8_2).f0) t173 _ A40.out).mono ?_); rintro e w45 ⟨v174, rfl, ho0, hb⟩; refine ⟨_, rfl, ?_⟩; have HO175 := zm (Kd.R_lower (Kd.R_new' ho0 (Kd.R_lt (zr HO_3))) (below_size zB)); replace HO_3 := zm (Kd.R_elder' (zr HO_3) (Kd.R_base ho0) hb); replace BK143 := zy BK143 hb; replace HB := zm (below_step zB hb); clear hb ho0; obtain ⟨Ao47, co47, eo47⟩ := Kd.R_slice HO175.out; subst eo47) | ((with_reducible refine gate_builtin (b := .append) (xs := #[.tmp 72, .tmp 79]) rfl ?_); at_builtin; refine Kd.R_append_rows (Kd.int .u8) (w0 := w) w.heap.size rfl (.tmp 72) (.tmp 79) 27 5 (.int .u8 0) 1 rfl Try.underlying27 info5 rfl (by decide) (by omega) u3 x3_2 t173 _ _ _ (fun k_ => some k_ ≠ (.slice Ao47 t173.length co47 : Value).ownBlock) (fun _ => False) rfl rfl ?aO ?aR (fun _ _ h => h) (fun _ h => h.elim) ?aF ?aB ?aS ?aL ?_; (case aR => repeat (first | exact (Kd.R_reads' HO175.out).2.2 | (with_reducible refine Kd.C_alloc ?_ _) | (with_reducible refine Kd.C_drewN ?_ _) | (with_reducible refine Kd.C_drew ?_))); (case aB => exact zB); (case aF => exact (fun k_ hk => Kd.fresh' (Kd.R_lt (zr HO175)) k_ hk)); (case aO => exact (by (with_reducible repeat (first | apply Kd.R_alloc | apply Kd.R_drewN | apply Kd.R_drew)); exact Kd.R_mono HO_3.out (fun _ hk => hk.2))); (case aS => exact (below_size zB)); (case aL => have := LMc41.out; omega); intro v177 w46 ho hb hg hat; rw [← Ny176.out] at ho; replace BK143 := zgr hg (zb BK143) (Kd.R_ne HO_3.out BK143.out (by decide)); replace HO175 := zm (Kd.R_after (ok := (fun _ => True)) (zr HO175) hg hat); replace HB := zm (hb); have HO178 := zm (ho); clear HO_3; clear ho hb hg hat; obtain ⟨hcz48_0, hcz48_1, hfz48_0, hfz48_1⟩ := zc2 BK143; have p179 : 0 ≤ (x8_2 : Int) := zd; have q179 : x8_2 < (l0_1.length : Int) := zd; obtain ⟨ad179, e179, hx179_0, hx179_1⟩ := at_T72 HR0_1.out x8_2 p179 q179; obtain rfl : ad172 = ad179 := (by injection e179); replace hx179_0 := zx HB hx179_0; replace hx179_1 := zx HB hx179_1; replace p179 := eq_true p179; replace q179 := eq_true q179) | (refine zg (some 88) #[.int .i64 ((rd_T72 l0_1 x8_2).f1)] Try.func90 ?_; (with_reducible refine (spec_PutNum.calls k2 ((rd_T72 l0_1 x8_2).f1) t180 _ A42.out).mono ?_); rintro e w49 ⟨v181, rfl, ho0, hb⟩; refine ⟨_, rfl, ?_⟩; have HO182 := zm (Kd.R_lower (Kd.R_new' (Kd.R_new' ho0 (Kd.R_lt (zr HO175))) (Kd.R_lt (zr HO178))) (below_size zB)); replace HO175 := zm (Kd.R_elder' (zr HO175) (Kd.R_base ho0) hb); replace HO178 := zm (Kd.R_elder' (zr HO178) (Kd.R_base ho0) hb); replace BK143 := zy BK143 hb; replace HB := zm (below_step zB hb); clear hb ho0; obtain ⟨Ao51, co51, eo51⟩ := Kd.R_slice HO182.out; subst eo51) | ((with_reducible refine gate_builtin (b := .append) (xs := #[.tmp 81, .tmp 88]) rfl ?_); at_builtin; refine Kd.R_append_rows (Kd.int .u8) (w0 := w) w.heap.size rfl (.tmp 81) (.tmp 88) 27 5 (.int .u8 0) 1 rfl Try.underlying27 info5 rfl (by decide) (by omega) v177 y176 t180 _ _ _ (fun k_ => some k_ ≠ (.slice Ao47 t173.length co47 : Value).ownBlock ∧ some k_ ≠ (.slice Ao51 t180.length co51 : Value).ownBlock) (fun _ => False) rfl rfl ?aO ?aR (fun _ _ h => h) (fun _ h => h.elim) ?aF ?aB ?aS ?aL ?_; (case aR => repeat (first | exact (Kd.R_reads' HO182.out).2.2 | (with_reducible refine Kd.C_alloc ?_ _) | (with_reducible refine Kd.C_drewN ?_ _) | (with_reducible refine Kd.C_drew ?_))); (case aB => exact zB); (case aF => exact (fun k_ hk => ⟨Kd.fresh' (Kd.R_lt (zr HO175)) k_ hk, Kd.fresh' (Kd.R_lt (zr HO182)) k_ hk⟩)); (case aO => exact (zr HO178)); (case aS => exact (below_size zB)); (case aL => have := LMc43.out; omega); intro v184 w50 ho hb hg hat; rw [← Ny183.out] at ho; replace BK143 := zgr hg (zb BK143) (Kd.R_ne HO178.out BK143.out (by decide)); replace HO175 := zm (Kd.R_after (ok := (fun k_ => some k_ ≠ (.slice Ao51 t180.length co51 : Value).ownBlock)) (by (with_reducible repeat (first | apply Kd.R_alloc | apply Kd.R_drewN | apply Kd.R_drew)); exact Kd.R_mono HO175.out (fun _ hk => ⟨hk.2, hk.1.2⟩)) hg hat); replace HO182 := zm (Kd.R_after (ok := (fun k_ => some k_ ≠ (.slice Ao47 t173.length co47 : Value).ownBlock)) (by (with_reducible repeat (first | apply Kd.R_alloc | apply Kd.R_drewN | apply Kd.R_drew)); exact Kd.R_mono HO182.out (fun _ hk => ⟨hk.1.2, hk.2⟩)) hg hat); replace HB := zm (hb); have HO185 := zm (ho); clear HO178; clear ho hb hg hat))
           go_roundg k2
           case measure => have := HK1.out; have := HK2.out; omega
           case rel => exact ⟨(y183), (wrap64 (x8_2 + 1)), zF, H', ⟨by have := HK1.out; have := HK2.out; omega⟩, ⟨by (with_reducible repeat (first | apply Kd.R_alloc | apply Kd.R_drewN | apply Kd.R_drew)); exact Kd.R_mono HO185.out (fun _ hk => trivial)⟩, ⟨zb BK143⟩, ⟨zB⟩⟩
          ·rw [if_neg c43] at H
           exact absurd H (by simp)
         ·rw [if_neg c41] at H
          exact absurd H (by simp)
        ·rw [if_neg c39] at H
         exact absurd H (by simp)
       ·rw [if_neg c38] at H; have c38b0 : decide (x8_2 < (l0_1.length : Int)) = false := decide_eq_false c38; clear c38; obtain rfl := Option.some.inj H; obtain ⟨hcz52_0, hcz52_1, hfz52_0, hfz52_1⟩ := zc2 BK143
        go_wp2
        go_ret
        exact ⟨_, zE, zr HO_3, zB⟩
    ·rw [if_neg c33] at H
     exact absurd H (by simp)

/-! ### laws_toEntry: function 110 -/
def laws_toEntry.f (a0_0 : Int) (a0_1 : Int) (a0_2 : Int) (a0_3 : Int) (a0_4 : ByteArray) : Option (Int × Int × Int × Int × ByteArray) := some (a0_0, a0_1, a0_2, a0_3, a0_4)
set_option maxHeartbeats 8000000 in
set_option maxRecDepth 100000 in
theorem laws_toEntry.calls (a0_0 : Int) (a0_1 : Int) (a0_2 : Int) (a0_3 : Int) (a0_4 : ByteArray) (r1 : Int) (r2 : Int) (r3 : Int) (r4 : Int) (r5 : ByteArray) (w : World) (h : laws_toEntry.f a0_0 a0_1 a0_2 a0_3 a0_4 = some (r1, r2, r3, r4, r5)) :
  Calls Try.prog 110 #[.agg #[.int .i64 a0_0, .int .i64 a0_1, .int .i64 a0_2, .int .i64 a0_3, .string a0_4]] w fun e w' => e = .returned (.agg #[.int .i64 r1, .int .i64 r2, .int .i64 r3, .int .i64 r4, .string r5]) ∧ Below w.heap.size w w' := by
 have hu92 := Try.underlying92; have hu66 := Try.underlying66; have HB := zm (Below.refl w.heap.size w); have H : (some (a0_0, a0_1, a0_2, a0_3, a0_4)) = some (r1, r2, r3, r4, r5) := h; clear h; simp only [Option.some.injEq, Prod.mk.injEq] at H; obtain ⟨rfl, rfl, rfl, rfl, rfl⟩ := H; go_enter Try.func110, Try.ntmps110
 go_wp2_with (first | (refine zbox 1 #[.int .i64 a0_0, .int .i64 a0_1, .int .i64 a0_2, .int .i64 a0_3, .string a0_4] 92 ?_; intro gb194 hg w2 hbox hb; have BK194 := zm (hbox); have GW194 := zge w hg zB; have GE194 := zge w hg zB; replace HB := zm (below_step zB hb); clear hb hbox hg) | (refine zbox 2 #[.int .i64 0, .int .i64 0, .int .i64 0, .int .i64 0, .string (⟨#[]⟩ : ByteArray)] 66 ?_; intro gb195 hg w3 hbox hb; have BK195 := zm (hbox); have GW195 := zge w hg zB; have GE195 := zge w hg zB; replace HB := zm (below_step zB hb); have NB194_195 := zlt hg (zb BK194); have NB195_194 := zgt hg (zb BK194); replace BK194 := zy BK194 hb; clear hb hbox hg) | (refine zbox 3 #[.int .i64 0, .int .i64 0, .int .i64 0, .int .i64 0, .string (⟨#[]⟩ : ByteArray)] 66 ?_; intro gb196 hg w4 hbox hb; have BK196 := zm (hbox); have GW196 := zge w hg zB; have GE196 := zge w hg zB; replace HB := zm (below_step zB hb); have NB194_196 := zlt hg (zb BK194); have NB196_194 := zgt hg (zb BK194); replace BK194 := zy BK194 hb; have NB195_196 := zlt hg (zb BK195); have NB196_195 := zgt hg (zb BK195); replace BK195 := zy BK195 hb; clear hb hbox hg; have hnb5 := NB194_195.out; have hnc5 := NB195_194.out; have hnb6 := NB194_196.out; have hnc6 := NB196_194.out; obtain ⟨hcz7_0, hcz7_1, hcz7_2, hcz7_3, hcz7_4, hfz7_0, hfz7_1, hfz7_2, hfz7_3, hfz7_4⟩ := zc5 BK194; have hnb8 := NB196_195.out; have hnc8 := NB195_196.out; obtain ⟨hcz9_0, hcz9_1, hcz9_2, hcz9_3, hcz9_4, hfz9_0, hfz9_1, hfz9_2, hfz9_3, hfz9_4⟩ := zc5 BK196; obtain ⟨hcz10_0, hcz10_1, hcz10_2, hcz10_3, hcz10_4, hfz10_0, hfz10_1, hfz10_2, hfz10_3, hfz10_4⟩ := zc5 BK195))
 refine bodyPost_ret (results_cell_row rfl _ _ gb195 66 #[.int .i64 a0_0, .int .i64 a0_1, .int .i64 a0_2, .int .i64 a0_3, .string a0_4] (0, 0) _ rfl (zput (zput (zput (zput (zput (zfar (zfar (zfar (zfar (zfar (zb BK195) NB195_196) NB195_196) NB195_196) NB195_196) NB195_196) 0) 1) 2) 3) 4) Try.underlying66 rfl (by kernel_rfl)) rfl ?_
 exact ⟨zE, zB⟩

/-! ### laws_toItem: function 92 -/
def laws_toItem.f (a0_0 : Int) (a0_1 : Int) (a0_2 : Int) (a0_3 : Int) (a0_4 : Int) (a0_5 : ByteArray) : Option (Int × Int × Int × Int × Int × ByteArray) := (laws_toEntry.f a0_1 a0_2 a0_3 a0_4 a0_5).bind fun bt200 => (some (a0_0, bt200.1, bt200.2.1, bt200.2.2.1, bt200.2.2.2.1, bt200.2.2.2.2))
set_option maxHeartbeats 8000000 in
set_option maxRecDepth 100000 in
theorem laws_toItem.calls (a0_0 : Int) (a0_1 : Int) (a0_2 : Int) (a0_3 : Int) (a0_4 : Int) (a0_5 : ByteArray) (r1 : Int) (r2 : Int) (r3 : Int) (r4 : Int) (r5 : Int) (r6 : ByteArray) (w : World) (h : laws_toItem.f a0_0 a0_1 a0_2 a0_3 a0_4 a0_5 = some (r1, r2, r3, r4, r5, r6)) :
  Calls Try.prog 92 #[.agg #[.int .i64 a0_0, .int .i64 a0_1, .int .i64 a0_2, .int .i64 a0_3, .int .i64 a0_4, .string a0_5]] w fun e w' => e = .returned (.agg #[.int .i64 r1, .int .i64 r2, .int .i64 r3, .int .i64 r4, .int .i64 r5, .string r6]) ∧ Below w.heap.size w w' := by
 have hu94 := Try.underlying94; have hu68 := Try.underlying68; have hu92 := Try.underlying92; have hu66 := Try.underlying66; have HB := zm (Below.refl w.heap.size w); have H : ((laws_toEntry.f a0_1 a0_2 a0_3 a0_4 a0_5).bind fun bt200 => (some (a0_0, bt200.1, bt200.2.1, bt200.2.2.1, bt200.2.2.2.1, bt200.2.2.2.2))) = some (r1, r2, r3, r4, r5, r6) := h; clear h; replace H := Option.bind_eq_some_iff.mp H; obtain ⟨⟨t200, t201, t202, t203, t204⟩, A20, H⟩ := H; (try dsimp only at H); have A2 := zm A20; clear A20; simp only [Option.some.injEq, Prod.mk.injEq] at H; obtain ⟨rfl, rfl, rfl, rfl, rfl, rfl⟩ := H; go_enter Try.func92, Try.ntmps92
 go_wp2_with (first | (refine zbox 1 #[.int .i64 a0_0, .int .i64 a0_1, .int .i64 a0_2, .int .i64 a0_3, .int .i64 a0_4, .string a0_5] 94 ?_; intro gb197 hg w3 hbox hb; have BK197 := zm (hbox); have GW197 := zge w hg zB; have GE197 := zge w hg zB; replace HB := zm (below_step zB hb); clear hb hbox hg) | (refine zbox 2 #[.int .i64 0, .int .i64 0, .int .i64 0, .int .i64 0, .int .i64 0, .string (⟨#[]⟩ : ByteArray)] 68 ?_; intro gb198 hg w4 hbox hb; have BK198 := zm (hbox); have GW198 := zge w hg zB; have GE198 := zge w hg zB; replace HB := zm (below_step zB hb); have NB197_198 := zlt hg (zb BK197); have NB198_197 := zgt hg (zb BK197); replace BK197 := zy BK197 hb; clear hb hbox hg) | (refine zbox 3 #[.int .i64 0, .int .i64 0, .int .i64 0, .int .i64 0, .int .i64 0, .string (⟨#[]⟩ : ByteArray)] 68 ?_; intro gb199 hg w5 hbox hb; have BK199 := zm (hbox); have GW199 := zge w hg zB; have GE199 := zge w hg zB; replace HB := zm (below_step zB hb); have NB197_199 := zlt hg (zb BK197); have NB199_197 := zgt hg (zb BK197); replace BK197 := zy BK197 hb; have NB198_199 := zlt hg (zb BK198); have NB199_198 := zgt hg (zb BK198); replace BK198 := zy BK198 hb; clear hb hbox hg; have hnb6 := NB197_198.out; have hnc6 := NB198_197.out; have hnb7 := NB197_199.out; have hnc7 := NB199_197.out; obtain ⟨hcz8_0, hcz8_1, hcz8_2, hcz8_3, hcz8_4, hcz8_5, hfz8_0, hfz8_1, hfz8_2, hfz8_3, hfz8_4, hfz8_5⟩ := zc6 BK197; have hnb9 := NB199_198.out; have hnc9 := NB198_199.out; obtain ⟨hcz10_0, hcz10_1, hcz10_2, hcz10_3, hcz10_4, hcz10_5, hfz10_0, hfz10_1, hfz10_2, hfz10_3, hfz10_4, hfz10_5⟩ := zc6 BK199) | (refine zg (some 9) #[.agg #[.int .i64 a0_1, .int .i64 a0_2, .int .i64 a0_3, .int .i64 a0_4, .string a0_5]] Try.func110 ?_; (with_reducible refine (laws_toEntry.calls a0_1 a0_2 a0_3 a0_4 a0_5 t200 t201 t202 t203 t204 _ A2.out).mono ?_); rintro e w11 ⟨rfl, hb⟩; refine ⟨_, rfl, ?_⟩; replace BK197 := zyb hb (zfar (zb BK197) NB197_199); replace BK198 := zyb hb (zfar (zb BK198) NB198_199); replace BK199 := zm (blk_below (g := gb199) (o := .cells #[.int .i64 a0_0, .int .i64 0, .int .i64 0, .int .i64 0, .int .i64 0, .string (⟨#[]⟩ : ByteArray)] 68 (0, 0)) (zput (zb BK199) 0) hb); replace HB := zm (below_step zB hb); clear hb; obtain ⟨hcz12_0, hcz12_1, hcz12_2, hcz12_3, hcz12_4, hcz12_5, hfz12_0, hfz12_1, hfz12_2, hfz12_3, hfz12_4, hfz12_5⟩ := zc6 BK199; obtain ⟨hcz13_0, hcz13_1, hcz13_2, hcz13_3, hcz13_4, hcz13_5, hfz13_0, hfz13_1, hfz13_2, hfz13_3, hfz13_4, hfz13_5⟩ := zc6 BK198))
 refine bodyPost_ret (results_cell_row rfl _ _ gb198 68 #[.int .i64 a0_0, .int .i64 t200, .int .i64 t201, .int .i64 t202, .int .i64 t203, .string t204] (0, 0) _ rfl (zput (zput (zput (zput (zput (zput (zfar (zfar (zfar (zfar (zfar (zb BK198) NB198_199) NB198_199) NB198_199) NB198_199) NB198_199) 0) 1) 2) 3) 4) 5) Try.underlying68 rfl (by kernel_rfl)) rfl ?_
 exact ⟨zE, zB⟩

/-! ### laws_toItemS: function 51 -/
def laws_toItemS.l0 : Nat → List (S94) → List (S68) → Int → Option ((List (S68)))
 | 0, _, _, _ => none
 | k + 1, x0, x3, x4 => if x4 < (x0.length : Int) then (if 0 ≤ x4 then ((laws_toItem.f ((rd_T94 x0 x4).f0) ((rd_T94 x0 x4).f1.f0) ((rd_T94 x0 x4).f1.f1) ((rd_T94 x0 x4).f1.f2) ((rd_T94 x0 x4).f1.f3) ((rd_T94 x0 x4).f1.f4)).bind fun bt209 => (if x4 < (x3.length : Int) then (laws_toItemS.l0 k x0 (x3.set (x4 : Int).toNat (⟨bt209.1, (⟨bt209.2.1, bt209.2.2.1, bt209.2.2.2.1, bt209.2.2.2.2.1, bt209.2.2.2.2.2⟩ : S66)⟩ : S68)) (wrap64 (x4 + 1))) else (none))) else (none)) else (some x3)
def laws_toItemS.f (k : Nat) (l0 : List (S94)) : Option ((List (S68))) := if 0 ≤ (l0.length : Int) then (if ((l0.length : Int) : Int).toNat ≤ 5026338869833 then (laws_toItemS.l0 k l0 (List.replicate ((l0.length : Int) : Int).toNat z68) 0) else (none)) else (none)
theorem laws_toItemS.mono_l : ∀ k, (∀ y0 y1 y2, LeO (laws_toItemS.l0 k y0 y1 y2) (laws_toItemS.l0 (k + 1) y0 y1 y2))
 | 0 => fun _ _ _ r h => by simp [laws_toItemS.l0] at h
 | k + 1 => by
  have ih0 := laws_toItemS.mono_l k
  ·intro y0 y1 y2
   unfold laws_toItemS.l0
   repeat' first | (with_reducible first | exact LeO.refl _ | exact LeO.none _ | refine LeO.ite ?_ ?_ | refine LeO.bind ?_ (fun _ => ?_) | apply ih0) | apply ih0 | exact LeO.none _ | refine LeO.ite ?_ ?_ | refine LeO.bind ?_ (fun _ => ?_)
theorem laws_toItemS.mono : ∀ a0 k, LeO (laws_toItemS.f k a0) (laws_toItemS.f (k + 1) a0) := by
 intro a0 k; have ih0 := laws_toItemS.mono_l k
 unfold laws_toItemS.f
 repeat' first | (with_reducible first | exact LeO.refl _ | exact LeO.none _ | refine LeO.ite ?_ ?_ | refine LeO.bind ?_ (fun _ => ?_) | apply ih0) | apply ih0 | exact LeO.none _ | refine LeO.ite ?_ ?_ | refine LeO.bind ?_ (fun _ => ?_)
set_option maxHeartbeats 8000000 in
set_option maxRecDepth 100000 in
theorem laws_toItemS.calls (k : Nat) (A0 : Option Addr) (c0 : Nat) (l0 : List (S94)) (r : List (S68)) (w : World) (hr0 : Kd.C k94 w A0 l0.length l0) (hc0 : l0.length ≤ c0) (h : laws_toItemS.f k l0 = some r) :
  Calls Try.prog 51 #[.slice A0 l0.length c0] w fun e w' => ∃ v0_ : Value, e = .returned (v0_) ∧ Kd.R k68 68 w' w.heap.size (fun _ => True) v0_ r ∧ Below w.heap.size w w' := by
 have hu94 := Try.underlying94; have hu68 := Try.underlying68; have HR0 := zm hr0; have HC0 := zm hc0; clear hr0 hc0; have HB := zm (Below.refl w.heap.size w); have H : (if 0 ≤ (l0.length : Int) then (if ((l0.length : Int) : Int).toNat ≤ 5026338869833 then (laws_toItemS.l0 k l0 (List.replicate ((l0.length : Int) : Int).toNat z68) 0) else (none)) else (none)) = some r := h; clear h
 by_cases c2 : 0 ≤ (l0.length : Int)
 ·rw [if_pos c2] at H; have c2b0 := eq_true c2; have c2b1 : decide (0 ≤ (l0.length : Int)) = true := decide_eq_true c2; clear c2
  by_cases c3 : ((l0.length : Int) : Int).toNat ≤ 5026338869833
  ·rw [if_pos c3] at H; have c3b0 := eq_true c3; have c3b1 : decide (((l0.length : Int) : Int).toNat ≤ 5026338869833) = true := decide_eq_true c3; clear c3
   obtain ⟨y205, hy205⟩ : ∃ y_ : List (S68), y_ = (List.replicate ((l0.length : Int) : Int).toNat z68) := ⟨_, rfl⟩
   replace H : (laws_toItemS.l0 k l0 y205 0) = some r := by first | (rw [hy205]; with_reducible exact H) | (have H2_ := (Option.bind_some _ _).symm.trans H; rw [hy205]; with_reducible exact H2_) | (have H2_ := (Option.bind_some _ _).symm.trans H; with_reducible exact H2_) | with_reducible exact H | (rw [hy205]; exact H) | exact H
   have Ny205 := zm hy205; clear hy205
   have H' := zm H
   clear H; go_enter Try.func51, Try.ntmps51
   go_wp2_with (first | ((with_reducible refine gate_dst (N := 7) rfl ?_); refine Kd.R_make k68 _ 68 rfl (N := 7) rfl 29 _ _ rfl (l0.length : Int) rfl rfl Try.underlying29 (.agg #[(.int .i64 0), (.int .i64 0), (.int .i64 0), (.int .i64 0), (.int .i64 0), (.string ⟨#[]⟩)]) 56 info68 rfl (by decide) (by omega) z68 (ok := fun _ => True) (okp := fun _ => True) (k68_mkM _ _ _ z68 ) (fun _ hk => hk) trivial zd (Nat.le_trans (Nat.mul_le_mul_right _ (zd : (l0.length : Int).toNat ≤ 5026338869833)) (by omega)) (Below.refl _ _) (Nat.le_refl _) ?_; intro v206 w4 ho5 hb hg_ hnew_; clear hg_ hnew_; (first | rw [← Ny205.out] at ho5 | (simp only [Int.reduceToNat] at ho5; rw [← Ny205.out] at ho5)); have HO207 := zm (Kd.R_lower ho5 (below_size zB)); replace HB := zm (below_step zB hb); clear hb ho5))
   go_loopg [4] k (fun kq v4 w' => ∃ (x3_1 : List (S68)) (x4_1 : Int), v4 = .int .i64 x4_1 ∧ Aside0 (laws_toItemS.l0 kq l0 x3_1 x4_1 = some r) ∧ Aside0 (kq ≤ k) ∧ Aside0 (Kd.R k68 68 w' w.heap.size (fun _ => True) v206 x3_1) ∧ Aside0 (Below w.heap.size w w'))
   case atStart => exact ⟨(y205), (0), zF, H', ⟨Nat.le_refl _⟩, ⟨zr HO207⟩, ⟨zB⟩⟩
   case round =>
    clear H'; (try clear c2); (try clear c2b0); (try clear c2b1); (try clear c3); (try clear c3b0); (try clear c3b1); obtain ⟨x3_1, x4_1, rfl, HA, HK1, HO_3, HB⟩ := hrel
    cases gk with
    | zero => exact absurd HA.out (by simp [laws_toItemS.l0])
    | succ k1 =>
     have H := HA.out; clear HA; simp only [laws_toItemS.l0] at H
     by_cases c6 : x4_1 < (l0.length : Int)
     ·rw [if_pos c6] at H; have c6b0 : decide (x4_1 < (l0.length : Int)) = true := decide_eq_true c6; clear c6
      by_cases c7 : 0 ≤ x4_1
      ·rw [if_pos c7] at H; have c7b0 : decide (0 ≤ x4_1) = true := decide_eq_true c7; clear c7; replace H := Option.bind_eq_some_iff.mp H; obtain ⟨⟨t209, t210, t211, t212, t213, t214⟩, A80, H⟩ := H; (try dsimp only at H); have A8 := zm A80; clear A80
       by_cases c9 : x4_1 < (x3_1.length : Int)
       ·rw [if_pos c9] at H; have c9b0 : decide (x4_1 < (x3_1.length : Int)) = true := decide_eq_true c9; clear c9
        obtain ⟨y215, hy215⟩ : ∃ y_ : List (S68), y_ = (x3_1.set (x4_1 : Int).toNat (⟨t209, (⟨t210, t211, t212, t213, t214⟩ : S66)⟩ : S68)) := ⟨_, rfl⟩
        replace H : (laws_toItemS.l0 k1 l0 y215 (wrap64 (x4_1 + 1))) = some r := by first | (rw [hy215]; with_reducible exact H) | (have H2_ := (Option.bind_some _ _).symm.trans H; rw [hy215]; with_reducible exact H2_) | (have H2_ := (Option.bind_some _ _).symm.trans H; with_reducible exact H2_) | with_reducible exact H | (rw [hy215]; exact H) | exact H
        have Ny215 := zm hy215; clear hy215
        have H' := zm H
        clear H; have p208 : 0 ≤ (x4_1 : Int) := zd; have q208 : x4_1 < (l0.length : Int) := zd; obtain ⟨ad208, e208, hx208_0, hx208_1, hx208_2, hx208_3, hx208_4, hx208_5⟩ := at_T94 (Kd.C_below HR0.out HB.out) x4_1 p208 q208; cases e208; replace p208 := eq_true p208; replace q208 := eq_true q208
        go_wp2_with (first | (refine zg (some 20) #[.agg #[.int .i64 ((rd_T94 l0 x4_1).f0), .int .i64 ((rd_T94 l0 x4_1).f1.f0), .int .i64 ((rd_T94 l0 x4_1).f1.f1), .int .i64 ((rd_T94 l0 x4_1).f1.f2), .int .i64 ((rd_T94 l0 x4_1).f1.f3), .string ((rd_T94 l0 x4_1).f1.f4)]] Try.func92 ?_; (with_reducible refine (laws_toItem.calls ((rd_T94 l0 x4_1).f0) ((rd_T94 l0 x4_1).f1.f0) ((rd_T94 l0 x4_1).f1.f1) ((rd_T94 l0 x4_1).f1.f2) ((rd_T94 l0 x4_1).f1.f3) ((rd_T94 l0 x4_1).f1.f4) t209 t210 t211 t212 t213 t214 _ A8.out).mono ?_); rintro e w11 ⟨rfl, hb⟩; refine ⟨_, rfl, ?_⟩; replace HO_3 := zw HO_3 hb; replace HB := zm (below_step zB hb); clear hb; have p10 : 0 ≤ (x4_1 : Int) := zd; have q10 : (x4_1 : Int) < ((x3_1.length : Int) : Int) := zd; obtain ⟨go10, co10, eo10, gb10, gl10, cl10, HG10⟩ := Kd.R_form HO_3.out (by omega); (first | cases eo10 | (injection eo10 with ea_ en_ ec_; (first | subst ea_ | (injection ea_ with ea_; subst ea_)); subst ec_; clear en_)); have GB10 := zm gb10; have GG10 := zm HG10; clear gb10 gl10 HG10; obtain ⟨ce10, hcl10, hM10, hcc10, hfr10⟩ := Kd.R_elem HO_3.out z68 (x4_1 : Int) p10 q10; obtain rfl := k68_openM hM10; have hx10_0 : w11.cell? ⟨go10, (x4_1 : Int).toNat * 6, none⟩ = some (.int .i64 ((rd_T68 x3_1 x4_1).f0)) := hcc10 0 _ rfl; have hx10_1 : w11.cell? ⟨go10, (x4_1 : Int).toNat * 6 + 1, none⟩ = some (.int .i64 ((rd_T68 x3_1 x4_1).f1.f0)) := hcc10 1 _ rfl; have hx10_2 : w11.cell? ⟨go10, (x4_1 : Int).toNat * 6 + 2, none⟩ = some (.int .i64 ((rd_T68 x3_1 x4_1).f1.f1)) := hcc10 2 _ rfl; have hx10_3 : w11.cell? ⟨go10, (x4_1 : Int).toNat * 6 + 3, none⟩ = some (.int .i64 ((rd_T68 x3_1 x4_1).f1.f2)) := hcc10 3 _ rfl; have hx10_4 : w11.cell? ⟨go10, (x4_1 : Int).toNat * 6 + 4, none⟩ = some (.int .i64 ((rd_T68 x3_1 x4_1).f1.f3)) := hcc10 4 _ rfl; have hx10_5 : w11.cell? ⟨go10, (x4_1 : Int).toNat * 6 + 5, none⟩ = some (.string ((rd_T68 x3_1 x4_1).f1.f4)) := hcc10 5 _ rfl; have hf10_0 : w11.frozen? ⟨go10, (x4_1 : Int).toNat * 6, none⟩ = false := hfr10 0; have hf10_1 : w11.frozen? ⟨go10, (x4_1 : Int).toNat * 6 + 1, none⟩ = false := hfr10 1; have hf10_2 : w11.frozen? ⟨go10, (x4_1 : Int).toNat * 6 + 2, none⟩ = false := hfr10 2; have hf10_3 : w11.frozen? ⟨go10, (x4_1 : Int).toNat * 6 + 3, none⟩ = false := hfr10 3; have hf10_4 : w11.frozen? ⟨go10, (x4_1 : Int).toNat * 6 + 4, none⟩ = false := hfr10 4; have hf10_5 : w11.frozen? ⟨go10, (x4_1 : Int).toNat * 6 + 5, none⟩ = false := hfr10 5; clear hcl10 hcc10 hfr10 hM10; replace p10 := eq_true p10; replace q10 := eq_true q10; have HX12 := zm (show Kd.R k68 68 w11 w.heap.size (fun _ => True) (.slice (some ⟨go10, 0, none⟩) x3_1.length co10) x3_1 from (zr HO_3)); obtain ⟨ce12, hcl12, hM12, hcc12, hfr12⟩ := Kd.R_elem HX12.out z68 (x4_1 : Int) zd (by have h_ : (x4_1 : Int) < ((x3_1.length : Int) : Int) := zd; first | exact h_ | (have e_ := (Kd.R_reads' HO_3.out).1; omega) | simpa using h_); obtain rfl := k68_openM hM12; have HP12 := Kd.R_seg HX12.out (x4_1 : Int) zd (by have h_ : (x4_1 : Int) < ((x3_1.length : Int) : Int) := zd; first | exact h_ | (have e_ := (Kd.R_reads' HO_3.out).1; omega) | simpa using h_) (seg := [.int .i64 t209, .int .i64 t210, .int .i64 t211, .int .i64 t212, .int .i64 t213, .string t214]) (j := 0) hcl12 hcc12 (show 6 ≤ 6 from by decide) (x' := (⟨t209, (⟨t210, t211, t212, t213, t214⟩ : S66)⟩ : S68)) (k68_mkM _ _ _ (⟨t209, (⟨t210, t211, t212, t213, t214⟩ : S66)⟩ : S68) ) (fun _ hk => hk); have hx12_0 := hcc12 0 _ rfl; (try simp only [show (k68).sz = 6 from rfl, Nat.mul_one, Nat.add_zero] at hx12_0); have hf12_0 := hfr12 0; (try simp only [show (k68).sz = 6 from rfl, Nat.mul_one, Nat.add_zero] at hf12_0); have hx12_1 := hcc12 1 _ rfl; (try simp only [show (k68).sz = 6 from rfl, Nat.mul_one, Nat.add_zero] at hx12_1); have hf12_1 := hfr12 1; (try simp only [show (k68).sz = 6 from rfl, Nat.mul_one, Nat.add_zero] at hf12_1); have hx12_2 := hcc12 2 _ rfl; (try simp only [show (k68).sz = 6 from rfl, Nat.mul_one, Nat.add_zero] at hx12_2); have hf12_2 := hfr12 2; (try simp only [show (k68).sz = 6 from rfl, Nat.mul_one, Nat.add_zero] at hf12_2); have hx12_3 := hcc12 3 _ rfl; (try simp only [show (k68).sz = 6 from rfl, Nat.mul_one, Nat.add_zero] at hx12_3); have hf12_3 := hfr12 3; (try simp only [show (k68).sz = 6 from rfl, Nat.mul_one, Nat.add_zero] at hf12_3); have hx12_4 := hcc12 4 _ rfl; (try simp only [show (k68).sz = 6 from rfl, Nat.mul_one, Nat.add_zero] at hx12_4); have hf12_4 := hfr12 4; (try simp only [show (k68).sz = 6 from rfl, Nat.mul_one, Nat.add_zero] at hf12_4); have hx12_5 := hcc12 5 _ rfl; (try simp only [show (k68).sz = 6 from rfl, Nat.mul_one, Nat.add_zero] at hx12_5); have hf12_5 := hfr12 5; (try simp only [show (k68).sz = 6 from rfl, Nat.mul_one, Nat.add_zero] at hf12_5); clear hcl12 hcc12 hfr12 hM12) | ((with_reducible refine gate_store (t := 68) (p := 21) rfl ?_); refine store_event (t := 68) (p := 21) (v := ?vo_w13) (w1 := ((((((w11.setCell ⟨go10, (x4_1 : Int).toNat * 6, none⟩ (.int .i64 t209)).setCell ⟨go10, (x4_1 : Int).toNat * 6 + 1, none⟩ (.int .i64 t210)).setCell ⟨go10, (x4_1 : Int).toNat * 6 + 2, none⟩ (.int .i64 t211)).setCell ⟨go10, (x4_1 : Int).toNat * 6 + 3, none⟩ (.int .i64 t212)).setCell ⟨go10, (x4_1 : Int).toNat * 6 + 4, none⟩ (.int .i64 t213)).setCell ⟨go10, (x4_1 : Int).toNat * 6 + 5, none⟩ (.string t214))) ?hg ?ho ?hn ?hr ?_; (case ho => rfl); (case hg => rfl); (case hn => rfl); (case hr => first | (go_simp; done) | (go_simp; rfl)); intro w13 hw; have hg : w11.grownBy w13 (some go10) := (by rw [hw]; exact HP12.2); have hp_ : Kd.R k68 68 w13 w.heap.size (fun _ => True) (.slice (some ⟨go10, 0, none⟩) x3_1.length co10) y215 := (by rw [hw, Ny215.out]; exact HP12.1); clear HP12; replace HO_3 := zm (hp_); replace HB := zm ((by rw [hw]; exact below_set (below_set (below_set (below_set (below_set (below_set (HB.out) GB10.out) GB10.out) GB10.out) GB10.out) GB10.out) GB10.out : Below w.heap.size w w13)); clear hg hw hp_))
        go_roundg k1
        case measure => have := HK1.out; omega
        case rel => exact ⟨(y215), (wrap64 (x4_1 + 1)), zF, H', ⟨by have := HK1.out; omega⟩, ⟨zr HO_3⟩, ⟨zB⟩⟩
       ·rw [if_neg c9] at H
        exact absurd H (by simp)
      ·rw [if_neg c7] at H
       exact absurd H (by simp)
     ·rw [if_neg c6] at H; have c6b0 : decide (x4_1 < (l0.length : Int)) = false := decide_eq_false c6; clear c6; obtain rfl := Option.some.inj H
      go_wp2
      go_ret
      exact ⟨_, zE, zr HO_3, zB⟩
  ·rw [if_neg c3] at H
   exact absurd H (by simp)
 ·rw [if_neg c2] at H
  exact absurd H (by simp)

/-! ### laws_toFloor: function 93 -/
def laws_toFloor.f (a0_0 : Int) (a0_1 : Int) : Option (Int × Int) := some (a0_0, a0_1)
set_option maxHeartbeats 8000000 in
set_option maxRecDepth 100000 in
theorem laws_toFloor.calls (a0_0 : Int) (a0_1 : Int) (r1 : Int) (r2 : Int) (w : World) (h : laws_toFloor.f a0_0 a0_1 = some (r1, r2)) :
  Calls Try.prog 93 #[.agg #[.int .i64 a0_0, .int .i64 a0_1]] w fun e w' => e = .returned (.agg #[.int .i64 r1, .int .i64 r2]) ∧ Below w.heap.size w w' := by
 have hu98 := Try.underlying98; have hu72 := Try.underlying72; have HB := zm (Below.refl w.heap.size w); have H : (some (a0_0, a0_1)) = some (r1, r2) := h; clear h; simp only [Option.some.injEq, Prod.mk.injEq] at H; obtain ⟨rfl, rfl⟩ := H; go_enter Try.func93, Try.ntmps93
 go_wp2_with (first | (refine zbox 1 #[.int .i64 a0_0, .int .i64 a0_1] 98 ?_; intro gb216 hg w2 hbox hb; have BK216 := zm (hbox); have GW216 := zge w hg zB; have GE216 := zge w hg zB; replace HB := zm (below_step zB hb); clear hb hbox hg) | (refine zbox 2 #[.int .i64 0, .int .i64 0] 72 ?_; intro gb217 hg w3 hbox hb; have BK217 := zm (hbox); have GW217 := zge w hg zB; have GE217 := zge w hg zB; replace HB := zm (below_step zB hb); have NB216_217 := zlt hg (zb BK216); have NB217_216 := zgt hg (zb BK216); replace BK216 := zy BK216 hb; clear hb hbox hg) | (refine zbox 3 #[.int .i64 0, .int .i64 0] 72 ?_; intro gb218 hg w4 hbox hb; have BK218 := zm (hbox); have GW218 := zge w hg zB; have GE218 := zge w hg zB; replace HB := zm (below_step zB hb); have NB216_218 := zlt hg (zb BK216); have NB218_216 := zgt hg (zb BK216); replace BK216 := zy BK216 hb; have NB217_218 := zlt hg (zb BK217); have NB218_217 := zgt hg (zb BK217); replace BK217 := zy BK217 hb; clear hb hbox hg; have hnb5 := NB216_217.out; have hnc5 := NB217_216.out; have hnb6 := NB216_218.out; have hnc6 := NB218_216.out; obtain ⟨hcz7_0, hcz7_1, hfz7_0, hfz7_1⟩ := zc2 BK216; have hnb8 := NB218_217.out; have hnc8 := NB217_218.out; obtain ⟨hcz9_0, hcz9_1, hfz9_0, hfz9_1⟩ := zc2 BK218; obtain ⟨hcz10_0, hcz10_1, hfz10_0, hfz10_1⟩ := zc2 BK217))
 refine bodyPost_ret (results_cell_row rfl _ _ gb217 72 #[.int .i64 a0_0, .int .i64 a0_1] (0, 0) _ rfl (zput (zput (zfar (zfar (zb BK217) NB217_218) NB217_218) 0) 1) Try.underlying72 rfl (by kernel_rfl)) rfl ?_
 exact ⟨zE, zB⟩

/-! ### laws_toFloorS: function 52 -/
def laws_toFloorS.l0 : Nat → List (S98) → List (S72) → Int → Option ((List (S72)))
 | 0, _, _, _ => none
 | k + 1, x0, x3, x4 => if x4 < (x0.length : Int) then (if 0 ≤ x4 then ((laws_toFloor.f ((rd_T98 x0 x4).f0) ((rd_T98 x0 x4).f1)).bind fun bt223 => (if x4 < (x3.length : Int) then (laws_toFloorS.l0 k x0 (x3.set (x4 : Int).toNat (⟨bt223.1, bt223.2⟩ : S72)) (wrap64 (x4 + 1))) else (none))) else (none)) else (some x3)
def laws_toFloorS.f (k : Nat) (l0 : List (S98)) : Option ((List (S72))) := if 0 ≤ (l0.length : Int) then (if ((l0.length : Int) : Int).toNat ≤ 17592186044416 then (laws_toFloorS.l0 k l0 (List.replicate ((l0.length : Int) : Int).toNat z72) 0) else (none)) else (none)
theorem laws_toFloorS.mono_l : ∀ k, (∀ y0 y1 y2, LeO (laws_toFloorS.l0 k y0 y1 y2) (laws_toFloorS.l0 (k + 1) y0 y1 y2))
 | 0 => fun _ _ _ r h => by simp [laws_toFloorS.l0] at h
 | k + 1 => by
  have ih0 := laws_toFloorS.mono_l k
  ·intro y0 y1 y2
   unfold laws_toFloorS.l0
   repeat' first | (with_reducible first | exact LeO.refl _ | exact LeO.none _ | refine LeO.ite ?_ ?_ | refine LeO.bind ?_ (fun _ => ?_) | apply ih0) | apply ih0 | exact LeO.none _ | refine LeO.ite ?_ ?_ | refine LeO.bind ?_ (fun _ => ?_)
theorem laws_toFloorS.mono : ∀ a0 k, LeO (laws_toFloorS.f k a0) (laws_toFloorS.f (k + 1) a0) := by
 intro a0 k; have ih0 := laws_toFloorS.mono_l k
 unfold laws_toFloorS.f
 repeat' first | (with_reducible first | exact LeO.refl _ | exact LeO.none _ | refine LeO.ite ?_ ?_ | refine LeO.bind ?_ (fun _ => ?_) | apply ih0) | apply ih0 | exact LeO.none _ | refine LeO.ite ?_ ?_ | refine LeO.bind ?_ (fun _ => ?_)
set_option maxHeartbeats 8000000 in
set_option maxRecDepth 100000 in
theorem laws_toFloorS.calls (k : Nat) (A0 : Option Addr) (c0 : Nat) (l0 : List (S98)) (r : List (S72)) (w : World) (hr0 : Kd.C k98 w A0 l0.length l0) (hc0 : l0.length ≤ c0) (h : laws_toFloorS.f k l0 = some r) :
  Calls Try.prog 52 #[.slice A0 l0.length c0] w fun e w' => ∃ v0_ : Value, e = .returned (v0_) ∧ Kd.R k72 72 w' w.heap.size (fun _ => True) v0_ r ∧ Below w.heap.size w w' := by
 have hu98 := Try.underlying98; have hu72 := Try.underlying72; have HR0 := zm hr0; have HC0 := zm hc0; clear hr0 hc0; have HB := zm (Below.refl w.heap.size w); have H : (if 0 ≤ (l0.length : Int) then (if ((l0.length : Int) : Int).toNat ≤ 17592186044416 then (laws_toFloorS.l0 k l0 (List.replicate ((l0.length : Int) : Int).toNat z72) 0) else (none)) else (none)) = some r := h; clear h
 by_cases c2 : 0 ≤ (l0.length : Int)
 ·rw [if_pos c2] at H; have c2b0 := eq_true c2; have c2b1 : decide (0 ≤ (l0.length : Int)) = true := decide_eq_true c2; clear c2
  by_cases c3 : ((l0.length : Int) : Int).toNat ≤ 17592186044416
  ·rw [if_pos c3] at H; have c3b0 := eq_true c3; have c3b1 : decide (((l0.length : Int) : Int).toNat ≤ 17592186044416) = true := decide_eq_true c3; clear c3
   obtain ⟨y219, hy219⟩ : ∃ y_ : List (S72), y_ = (List.replicate ((l0.length : Int) : Int).toNat z72) := ⟨_, rfl⟩
   replace H : (laws_toFloorS.l0 k l0 y219 0) = some r := by first | (rw [hy219]; with_reducible exact H) | (have H2_ := (Option.bind_some _ _).symm.trans H; rw [hy219]; with_reducible exact H2_) | (have H2_ := (Option.bind_some _ _).symm.trans H; with_reducible exact H2_) | with_reducible exact H | (rw [hy219]; exact H) | exact H
   have Ny219 := zm hy219; clear hy219
   have H' := zm H
   clear H; go_enter Try.func52, Try.ntmps52
   go_wp2_with (first | ((with_reducible refine gate_dst (N := 7) rfl ?_); refine Kd.R_make k72 _ 72 rfl (N := 7) rfl 30 _ _ rfl (l0.length : Int) rfl rfl Try.underlying30 (.agg #[(.int .i64 0), (.int .i64 0)]) 16 info72 rfl (by decide) (by omega) z72 (ok := fun _ => True) (okp := fun _ => True) (k72_mkM _ _ _ z72 ) (fun _ hk => hk) trivial zd (Nat.le_trans (Nat.mul_le_mul_right _ (zd : (l0.length : Int).toNat ≤ 17592186044416)) (by omega)) (Below.refl _ _) (Nat.le_refl _) ?_; intro v220 w4 ho5 hb hg_ hnew_; clear hg_ hnew_; (first | rw [← Ny219.out] at ho5 | (simp only [Int.reduceToNat] at ho5; rw [← Ny219.out] at ho5)); have HO221 := zm (Kd.R_lower ho5 (below_size zB)); replace HB := zm (below_step zB hb); clear hb ho5))
   go_loopg [4] k (fun kq v4 w' => ∃ (x3_1 : List (S72)) (x4_1 : Int), v4 = .int .i64 x4_1 ∧ Aside0 (laws_toFloorS.l0 kq l0 x3_1 x4_1 = some r) ∧ Aside0 (kq ≤ k) ∧ Aside0 (Kd.R k72 72 w' w.heap.size (fun _ => True) v220 x3_1) ∧ Aside0 (Below w.heap.size w w'))
   case atStart => exact ⟨(y219), (0), zF, H', ⟨Nat.le_refl _⟩, ⟨zr HO221⟩, ⟨zB⟩⟩
   case round =>
    clear H'; (try clear c2); (try clear c2b0); (try clear c2b1); (try clear c3); (try clear c3b0); (try clear c3b1); obtain ⟨x3_1, x4_1, rfl, HA, HK1, HO_3, HB⟩ := hrel
    cases gk with
    | zero => exact absurd HA.out (by simp [laws_toFloorS.l0])
    | succ k1 =>
     have H := HA.out; clear HA; simp only [laws_toFloorS.l0] at H
     by_cases c6 : x4_1 < (l0.length : Int)
     ·rw [if_pos c6] at H; have c6b0 : decide (x4_1 < (l0.length : Int)) = true := decide_eq_true c6; clear c6
      by_cases c7 : 0 ≤ x4_1
      ·rw [if_pos c7] at H; have c7b0 : decide (0 ≤ x4_1) = true := decide_eq_true c7; clear c7; replace H := Option.bind_eq_some_iff.mp H; obtain ⟨⟨t223, t224⟩, A80, H⟩ := H; (try dsimp only at H); have A8 := zm A80; clear A80
       by_cases c9 : x4_1 < (x3_1.length : Int)
       ·rw [if_pos c9] at H; have c9b0 : decide (x4_1 < (x3_1.length : Int)) = true := decide_eq_true c9; clear c9
        obtain ⟨y225, hy225⟩ : ∃ y_ : List (S72), y_ = (x3_1.set (x4_1 : Int).toNat (⟨t223, t224⟩ : S72)) := ⟨_, rfl⟩
        replace H : (laws_toFloorS.l0 k1 l0 y225 (wrap64 (x4_1 + 1))) = some r := by first | (rw [hy225]; with_reducible exact H) | (have H2_ := (Option.bind_some _ _).symm.trans H; rw [hy225]; with_reducible exact H2_) | (have H2_ := (Option.bind_some _ _).symm.trans H; with_reducible exact H2_) | with_reducible exact H | (rw [hy225]; exact H) | exact H
        have Ny225 := zm hy225; clear hy225
        have H' := zm H
        clear H; have p222 : 0 ≤ (x4_1 : Int) := zd; have q222 : x4_1 < (l0.length : Int) := zd; obtain ⟨ad222, e222, hx222_0, hx222_1⟩ := at_T98 (Kd.C_below HR0.out HB.out) x4_1 p222 q222; cases e222; replace p222 := eq_true p222; replace q222 := eq_true q222
        go_wp2_with (first | (refine zg (some 20) #[.agg #[.int .i64 ((rd_T98 l0 x4_1).f0), .int .i64 ((rd_T98 l0 x4_1).f1)]] Try.func93 ?_; (with_reducible refine (laws_toFloor.calls ((rd_T98 l0 x4_1).f0) ((rd_T98 l0 x4_1).f1) t223 t224 _ A8.out).mono ?_); rintro e w11 ⟨rfl, hb⟩; refine ⟨_, rfl, ?_⟩; replace HO_3 := zw HO_3 hb; replace HB := zm (below_step zB hb); clear hb; have p10 : 0 ≤ (x4_1 : Int) := zd; have q10 : (x4_1 : Int) < ((x3_1.length : Int) : Int) := zd; obtain ⟨go10, co10, eo10, gb10, gl10, cl10, HG10⟩ := Kd.R_form HO_3.out (by omega); (first | cases eo10 | (injection eo10 with ea_ en_ ec_; (first | subst ea_ | (injection ea_ with ea_; subst ea_)); subst ec_; clear en_)); have GB10 := zm gb10; have GG10 := zm HG10; clear gb10 gl10 HG10; obtain ⟨ce10, hcl10, hM10, hcc10, hfr10⟩ := Kd.R_elem HO_3.out z72 (x4_1 : Int) p10 q10; obtain rfl := k72_openM hM10; have hx10_0 : w11.cell? ⟨go10, (x4_1 : Int).toNat * 2, none⟩ = some (.int .i64 ((rd_T72 x3_1 x4_1).f0)) := hcc10 0 _ rfl; have hx10_1 : w11.cell? ⟨go10, (x4_1 : Int).toNat * 2 + 1, none⟩ = some (.int .i64 ((rd_T72 x3_1 x4_1).f1)) := hcc10 1 _ rfl; have hf10_0 : w11.frozen? ⟨go10, (x4_1 : Int).toNat * 2, none⟩ = false := hfr10 0; have hf10_1 : w11.frozen? ⟨go10, (x4_1 : Int).toNat * 2 + 1, none⟩ = false := hfr10 1; clear hcl10 hcc10 hfr10 hM10; replace p10 := eq_true p10; replace q10 := eq_true q10; have HX12 := zm (show Kd.R k72 72 w11 w.heap.size (fun _ => True) (.slice (some ⟨go10, 0, none⟩) x3_1.length co10) x3_1 from (zr HO_3)); obtain ⟨ce12, hcl12, hM12, hcc12, hfr12⟩ := Kd.R_elem HX12.out z72 (x4_1 : Int) zd (by have h_ : (x4_1 : Int) < ((x3_1.length : Int) : Int) := zd; first | exact h_ | (have e_ := (Kd.R_reads' HO_3.out).1; omega) | simpa using h_); obtain rfl := k72_openM hM12; have HP12 := Kd.R_seg HX12.out (x4_1 : Int) zd (by have h_ : (x4_1 : Int) < ((x3_1.length : Int) : Int) := zd; first | exact h_ | (have e_ := (Kd.R_reads' HO_3.out).1; omega) | simpa using h_) (seg := [.int .i64 t223, .int .i64 t224]) (j := 0) hcl12 hcc12 (show 2 ≤ 2 from by decide) (x' := (⟨t223, t224⟩ : S72)) (k72_mkM _ _ _ (⟨t223, t224⟩ : S72) ) (fun _ hk => hk); have hx12_0 := hcc12 0 _ rfl; (try simp only [show (k72).sz = 2 from rfl, Nat.mul_one, Nat.add_zero] at hx12_0); have hf12_0 := hfr12 0; (try simp only [show (k72).sz = 2 from rfl, Nat.mul_one, Nat.add_zero] at hf12_0); have hx12_1 := hcc12 1 _ rfl; (try simp only [show (k72).sz = 2 from rfl, Nat.mul_one, Nat.add_zero] at hx12_1); have hf12_1 := hfr12 1; (try simp only [show (k72).sz = 2 from rfl, Nat.mul_one, Nat.add_zero] at hf12_1); clear hcl12 hcc12 hfr12 hM12) | ((with_reducible refine gate_store (t := 72) (p := 21) rfl ?_); refine store_event (t := 72) (p := 21) (v := ?vo_w13) (w1 := ((w11.setCell ⟨go10, (x4_1 : Int).toNat * 2, none⟩ (.int .i64 t223)).setCell ⟨go10, (x4_1 : Int).toNat * 2 + 1, none⟩ (.int .i64 t224))) ?hg ?ho ?hn ?hr ?_; (case ho => rfl); (case hg => rfl); (case hn => rfl); (case hr => first | (go_simp; done) | (go_simp; rfl)); intro w13 hw; have hg : w11.grownBy w13 (some go10) := (by rw [hw]; exact HP12.2); have hp_ : Kd.R k72 72 w13 w.heap.size (fun _ => True) (.slice (some ⟨go10, 0, none⟩) x3_1.length co10) y225 := (by rw [hw, Ny225.out]; exact HP12.1); clear HP12; replace HO_3 := zm (hp_); replace HB := zm ((by rw [hw]; exact below_set (below_set (HB.out) GB10.out) GB10.out : Below w.heap.size w w13)); clear hg hw hp_))
        go_roundg k1
        case measure => have := HK1.out; omega
        case rel => exact ⟨(y225), (wrap64 (x4_1 + 1)), zF, H', ⟨by have := HK1.out; omega⟩, ⟨zr HO_3⟩, ⟨zB⟩⟩
       ·rw [if_neg c9] at H
        exact absurd H (by simp)
      ·rw [if_neg c7] at H
       exact absurd H (by simp)
     ·rw [if_neg c6] at H; have c6b0 : decide (x4_1 < (l0.length : Int)) = false := decide_eq_false c6; clear c6; obtain rfl := Option.some.inj H
      go_wp2
      go_ret
      exact ⟨_, zE, zr HO_3, zB⟩
  ·rw [if_neg c3] at H
   exact absurd H (by simp)
 ·rw [if_neg c2] at H
  exact absurd H (by simp)

/-! ### laws_toState: function 15 -/
def laws_toState.f (k : Nat) (l0_0 : List (S94)) (l0_1 : List (S98)) : Option ((List (S68)) × (List (S72))) := (laws_toItemS.f k l0_0).bind fun t229 => ((laws_toFloorS.f k l0_1).bind fun t232 => (some (t229, t232)))
theorem laws_toState.mono : ∀ a0 a1 k, LeO (laws_toState.f k a0 a1) (laws_toState.f (k + 1) a0 a1) := by
 intro a0 a1 k
 unfold laws_toState.f
 repeat' first | (with_reducible first | exact LeO.refl _ | exact LeO.none _ | refine LeO.ite ?_ ?_ | refine LeO.bind ?_ (fun _ => ?_) | apply laws_toFloorS.mono | apply laws_toItemS.mono) | apply laws_toFloorS.mono | apply laws_toItemS.mono | exact LeO.none _ | refine LeO.ite ?_ ?_ | refine LeO.bind ?_ (fun _ => ?_)
set_option maxHeartbeats 8000000 in
set_option maxRecDepth 100000 in
theorem laws_toState.calls (k : Nat) (A0_0 : Option Addr) (c0_0 : Nat) (l0_0 : List (S94)) (A0_1 : Option Addr) (c0_1 : Nat) (l0_1 : List (S98)) (r1 : List (S68)) (r2 : List (S72)) (w : World) (hr0_0 : Kd.C k94 w A0_0 l0_0.length l0_0) (hc0_0 : l0_0.length ≤ c0_0) (hr0_1 : Kd.C k98 w A0_1 l0_1.length l0_1) (hc0_1 : l0_1.length ≤ c0_1) (h : laws_toState.f k l0_0 l0_1 = some (r1, r2)) :
  Calls Try.prog 15 #[.agg #[.slice A0_0 l0_0.length c0_0, .slice A0_1 l0_1.length c0_1]] w fun e w' => ∃ v0_ v1_ : Value, e = .returned (.agg #[v0_, v1_]) ∧ Kd.R k68 68 w' w.heap.size (fun _ => True) v0_ r1 ∧ Kd.R k72 72 w' w.heap.size (fun _ => True) v1_ r2 ∧ Below w.heap.size w w' := by
 have hu25 := Try.underlying25; have hu32 := Try.underlying32; have HR0_0 := zm hr0_0; have HC0_0 := zm hc0_0; clear hr0_0 hc0_0; have HR0_1 := zm hr0_1; have HC0_1 := zm hc0_1; clear hr0_1 hc0_1; have HB := zm (Below.refl w.heap.size w); have H : ((laws_toItemS.f k l0_0).bind fun t229 => ((laws_toFloorS.f k l0_1).bind fun t232 => (some (t229, t232)))) = some (r1, r2) := h; clear h; replace H := Option.bind_eq_some_iff.mp H; obtain ⟨t229, A20, H⟩ := H; (try dsimp only at H); have A2 := zm A20; clear A20; replace H := Option.bind_eq_some_iff.mp H; obtain ⟨t232, A30, H⟩ := H; (try dsimp only at H); have A3 := zm A30; clear A30; simp only [Option.some.injEq, Prod.mk.injEq] at H; obtain ⟨rfl, rfl⟩ := H; go_enter Try.func15, Try.ntmps15
 go_wp2_with (first | (refine zbox 1 #[.slice A0_0 l0_0.length c0_0, .slice A0_1 l0_1.length c0_1] 25 ?_; intro gb226 hg w4 hbox hb; have BK226 := zm (hbox); have GW226 := zge w hg zB; have GE226 := zge w hg zB; replace HB := zm (below_step zB hb); clear hb hbox hg) | (refine zbox 2 #[.slice none 0 0, .slice none 0 0] 32 ?_; intro gb227 hg w5 hbox hb; have BK227 := zm (hbox); have GW227 := zge w hg zB; have GE227 := zge w hg zB; replace HB := zm (below_step zB hb); have NB226_227 := zlt hg (zb BK226); have NB227_226 := zgt hg (zb BK226); replace BK226 := zy BK226 hb; clear hb hbox hg) | (refine zbox 3 #[.slice none 0 0, .slice none 0 0] 32 ?_; intro gb228 hg w6 hbox hb; have BK228 := zm (hbox); have GW228 := zge w hg zB; have GE228 := zge w hg zB; replace HB := zm (below_step zB hb); have NB226_228 := zlt hg (zb BK226); have NB228_226 := zgt hg (zb BK226); replace BK226 := zy BK226 hb; have NB227_228 := zlt hg (zb BK227); have NB228_227 := zgt hg (zb BK227); replace BK227 := zy BK227 hb; clear hb hbox hg; have hnb7 := NB226_227.out; have hnc7 := NB227_226.out; have hnb8 := NB226_228.out; have hnc8 := NB228_226.out; obtain ⟨hcz9_0, hcz9_1, hfz9_0, hfz9_1⟩ := zc2 BK226) | (refine zg (some 6) #[.slice A0_0 l0_0.length c0_0] Try.func51 ?_; (with_reducible refine (laws_toItemS.calls k _ _ l0_0 t229 _ (zk (Kd.C_below HR0_0.out HB.out)) HC0_0.out A2.out).mono ?_); rintro e w10 ⟨v230, rfl, ho0, hb⟩; refine ⟨_, rfl, ?_⟩; have HO231 := zm (Kd.R_lower ho0 (below_size zB)); replace BK226 := zy BK226 hb; replace BK227 := zy BK227 hb; replace BK228 := zy BK228 hb; replace HB := zm (below_step zB hb); clear hb ho0; obtain ⟨Ao11, co11, eo11⟩ := Kd.R_slice HO231.out; subst eo11; have hnb12 := NB228_227.out; have hnc12 := NB227_228.out; obtain ⟨hcz13_0, hcz13_1, hfz13_0, hfz13_1⟩ := zc2 BK228; obtain ⟨hcz14_0, hcz14_1, hfz14_0, hfz14_1⟩ := zc2 BK226) | (refine zg (some 10) #[.slice A0_1 l0_1.length c0_1] Try.func52 ?_; (with_reducible refine (laws_toFloorS.calls k _ _ l0_1 t232 _ ?side1 HC0_1.out A3.out).mono ?_); (case side1 => exact Kd.C_below HR0_1.out zB); rintro e w15 ⟨v233, rfl, ho0, hb⟩; refine ⟨_, rfl, ?_⟩; replace HO231 := zm (Kd.R_below (zrs <| (Kd.R_mono (zfr (Kd.R_types HO231.out BK228.out (by decide))) (fun _ h_ => h_.1))) hb); have HO234 := zm (Kd.R_lower ho0 (below_size zB)); replace BK226 := zyb hb (zfar (zb BK226) NB226_228); replace BK227 := zyb hb (zfar (zb BK227) NB227_228); replace BK228 := zm (blk_below (g := gb228) (o := .cells #[.slice Ao11 t229.length co11, .slice none 0 0] 32 (0, 0)) (zput (zb BK228) 0) hb); replace HB := zm (below_step zB hb); clear hb ho0; obtain ⟨Ao16, co16, eo16⟩ := Kd.R_slice HO234.out; subst eo16; obtain ⟨hcz17_0, hcz17_1, hfz17_0, hfz17_1⟩ := zc2 BK228; obtain ⟨hcz18_0, hcz18_1, hfz18_0, hfz18_1⟩ := zc2 BK227))
 refine bodyPost_ret (results_cell_row rfl _ _ gb227 32 #[.slice Ao11 t229.length co11, .slice Ao16 t232.length co16] (0, 0) _ rfl (zput (zput (zfar (zb BK227) NB227_228) 0) 1) Try.underlying32 rfl (by kernel_rfl)) rfl ?_
 exact ⟨_, _, zE, zrs <| Kd.R_mono (zfr (zfr (zfq (Kd.R_types (Kd.R_types HO231.out BK228.out (by decide)) BK227.out (by decide)) (fun _ hk => hk.1.2)))) (fun _ hk => trivial), zrs <| Kd.R_mono (zfr (zfr (zfq (Kd.R_types (Kd.R_types HO234.out BK228.out (by decide)) BK227.out (by decide)) (fun _ hk => hk.1.2)))) (fun _ hk => trivial), zB⟩

/-! ### impl_within: function 64 -/
def impl_within.f (a0 : Int) (a1 : Int) (a2 : Int) : Option (Bool) := if a0 ≥ a1 then (some (decide (a0 ≤ a2))) else (some false)
set_option maxHeartbeats 8000000 in
set_option maxRecDepth 100000 in
theorem impl_within.calls (a0 : Int) (a1 : Int) (a2 : Int) (r : Bool) (w : World) (h : impl_within.f a0 a1 a2 = some r) :
  Calls Try.prog 64 #[.int .i64 a0, .int .i64 a1, .int .i64 a2] w fun e w' => e = .returned (.bool r) ∧ Drawn0 w w' := by
 have H : (if a0 ≥ a1 then (some (decide (a0 ≤ a2))) else (some false)) = some r := h; clear h
 by_cases c4 : a0 ≥ a1
 ·rw [if_pos c4] at H; have c4b0 : decide (a1 ≤ a0) = true := decide_eq_true c4; clear c4; obtain rfl := Option.some.inj H; go_enter Try.func64, Try.ntmps64
  go_wp2
  go_ret
  exact ⟨zF, zD⟩
 ·rw [if_neg c4] at H; have c4b0 : decide (a1 ≤ a0) = false := decide_eq_false c4; clear c4; obtain rfl := Option.some.inj H; go_enter Try.func64, Try.ntmps64
  go_wp2
  go_ret
  exact ⟨zF, zD⟩

end Go.Proofs.Ytgapdegniepjiaa.P
