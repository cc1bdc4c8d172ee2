-- by a program of this session, for this seat
import Derived.Test.YtgapdegniepjiaaZ
import Derived.Test.YtgapdegniepjiaaP0
import Derived.Test.YtgapdegniepjiaaPac
import Derived.Test.YtgapdegniepjiaaPae
namespace Go.Proofs.Ytgapdegniepjiaa.P
open Go.RowKit Go.Proofs.YtgapdegniepjiaaW.PrintWords Go.Proofs.YtgapdegniepjiaaW.PrintLast Go.Proofs.YtgapdegniepjiaaW.PrintMore Go.Proofs.Ytgapdegniepjiaa.Z
attribute [local go_sem] max2_int min2_int max_two min_two max_three min_three max_four min_four   -- for this text's walks alone
set_option linter.unusedVariables false
set_option linter.unusedSimpArgs false

/-! ### impl_PutNum: function 54 -/
def impl_PutNum.l0 : Nat → Int → List Int → Option (List Int)
 | 0, _, _ => none
 | k + 1, x0, x3 => if x0 ≥ 128 then (if x3.length < 140737488355328 then (impl_PutNum.l0 k (wrap64 (Int.tdiv x0 128)) (x3 ++ [(wrap64 ((Int.tmod x0 128) + 128)) % 256])) else (none)) else (if x3.length < 140737488355328 then (some (x3 ++ [(x0) % 256])) else (none))
def impl_PutNum.f (k : Nat) (a0 : Int) : Option (List Int) := (impl_within.f a0 0 2147483647).bind fun t256 => (if t256 = true then (impl_PutNum.l0 k a0 (([] : List Int))) else (some ([] : List Int)))
theorem impl_PutNum.mono_l : ∀ k, (∀ y0 y1, LeO (impl_PutNum.l0 k y0 y1) (impl_PutNum.l0 (k + 1) y0 y1))
 | 0 => fun _ _ r h => by simp [impl_PutNum.l0] at h
 | k + 1 => by
  have ih0 := impl_PutNum.mono_l k
  ·intro y0 y1
   unfold impl_PutNum.l0
   repeat' first | (with_reducible first | exact LeO.refl _ | exact LeO.none _ | refine LeO.ite ?_ ?_ | refine LeO.bind ?_ (fun _ => ?_) | apply ih0) | apply ih0 | exact LeO.none _ | refine LeO.ite ?_ ?_ | refine LeO.bind ?_ (fun _ => ?_)
theorem impl_PutNum.mono : ∀ a0 k, LeO (impl_PutNum.f k a0) (impl_PutNum.f (k + 1) a0) := by
 intro a0 k; have ih0 := impl_PutNum.mono_l k
 unfold impl_PutNum.f
 repeat' first | (with_reducible first | exact LeO.refl _ | exact LeO.none _ | refine LeO.ite ?_ ?_ | refine LeO.bind ?_ (fun _ => ?_) | apply ih0) | apply ih0 | exact LeO.none _ | refine LeO.ite ?_ ?_ | refine LeO.bind ?_ (fun _ => ?_)
set_option maxHeartbeats 8000000 in
set_option maxRecDepth 100000 in
theorem impl_PutNum.calls (k : Nat) (a0 : Int) (r : List Int) (w : World) (h : impl_PutNum.f k a0 = some r) :
  Calls Try.prog 54 #[.int .i64 a0] w fun e w' => ∃ v0_ : Value, e = .returned (v0_) ∧ Kd.R (Kd.int .u8) 5 w' w.heap.size (fun _ => True) v0_ r ∧ Below w.heap.size w w' := by
 have HB := zm (Below.refl w.heap.size w); have H : ((impl_within.f a0 0 2147483647).bind fun t256 => (if t256 = true then (impl_PutNum.l0 k a0 (([] : List Int))) else (some ([] : List Int)))) = some r := h; clear h; replace H := Option.bind_eq_some_iff.mp H; obtain ⟨t256, A20, H⟩ := H; (try dsimp only at H); have A2 := zm A20; clear A20
 by_cases c3 : t256 = true
 ·subst c3; rw [if_pos rfl] at H
  obtain ⟨y257, hy257⟩ : ∃ y_ : List Int, y_ = (([] : List Int)) := ⟨_, rfl⟩
  replace H : (impl_PutNum.l0 k a0 y257) = some r := by first | (rw [hy257]; with_reducible exact H) | (have H2_ := (Option.bind_some _ _).symm.trans H; rw [hy257]; with_reducible exact H2_) | (have H2_ := (Option.bind_some _ _).symm.trans H; with_reducible exact H2_) | with_reducible exact H | (rw [hy257]; exact H) | exact H
  have Ny257 := zm hy257; clear hy257
  have H' := zm H
  clear H; go_enter Try.func54, Try.ntmps54
  go_wp2_with (first | (refine zg (some 5) #[.int .i64 a0, .int .i64 0, .int .i64 2147483647] Try.func64 ?_; (with_reducible refine (impl_within.calls a0 0 2147483647 true _ A2.out).mono ?_); rintro e w' ⟨rfl, ⟨nd, rfl⟩⟩; refine ⟨_, rfl, ?_⟩) | ((with_reducible refine gate_dst (N := 7) rfl ?_); refine Kd.R_lit (Kd.int .u8) _ 5 ?hg (N := 7) ?hd (xs := ([] : List Int)) (inner := []) (ok := fun _ => True) (okp := fun _ => True) ?hr ?hp (fun _ hk => hk) trivial (Below.refl _ _) (Nat.le_refl _) (by simp) ?_; (case hd => rfl); (case hg => rfl); (case hr => first | (go_simp; done) | (go_simp; rfl)); (case hp => exact (Reps.none _ _)); intro v258 w4 ho5 hb hg_ hnew_; clear hg_ hnew_; (first | rw [← Ny257.out] at ho5 | (simp only [Int.reduceToNat] at ho5; rw [← Ny257.out] at ho5)); have HO259 := zm (Kd.R_lower ho5 (below_size zB)); replace HB := zm (below_step zB hb); clear hb ho5))
  go_loopg [0, 3] k (fun kq v0 v3 w' => ∃ (x0_1 : Int) (x3_1 : List Int), v0 = .int .i64 x0_1 ∧ Aside0 (impl_PutNum.l0 kq x0_1 x3_1 = some r) ∧ Aside0 (kq ≤ k) ∧ Aside0 (Kd.R (Kd.int .u8) 5 w' w.heap.size (fun _ => True) v3 x3_1) ∧ Aside0 (Below w.heap.size w w'))
  case atStart => exact ⟨(a0), (y257), zF, H', ⟨Nat.le_refl _⟩, ⟨zr HO259⟩, ⟨zB⟩⟩
  case round =>
   clear H'; (try clear c3); obtain ⟨x0_1, x3_1, rfl, HA, HK1, HO_3, HB⟩ := hrel
   cases gk with
   | zero => exact absurd HA.out (by simp [impl_PutNum.l0])
   | succ k1 =>
    have H := HA.out; clear HA; simp only [impl_PutNum.l0] at H
    by_cases c6 : x0_1 ≥ 128
    ·rw [if_pos c6] at H; have c6b0 : decide (128 ≤ x0_1) = true := decide_eq_true c6; clear c6
     by_cases c7 : x3_1.length < 140737488355328
     ·rw [if_pos c7] at H; have LMc7 := zm c7; clear c7
      obtain ⟨y260, hy260⟩ : ∃ y_ : List Int, y_ = (x3_1 ++ [(wrap64 ((Int.tmod x0_1 128) + 128)) % 256]) := ⟨_, rfl⟩
      replace H : (impl_PutNum.l0 k1 (wrap64 (Int.tdiv x0_1 128)) y260) = some r := by first | (rw [hy260]; with_reducible exact H) | (have H2_ := (Option.bind_some _ _).symm.trans H; rw [hy260]; with_reducible exact H2_) | (have H2_ := (Option.bind_some _ _).symm.trans H; with_reducible exact H2_) | with_reducible exact H | (rw [hy260]; exact H) | exact H
      have Ny260 := zm hy260; clear hy260
      have H' := zm H
      clear H
      go_wp2_with (first | ((with_reducible refine gate_builtin (b := .append) (xs := #[.tmp 10, .tmp 15]) rfl ?_); at_builtin; refine Kd.R_append (Kd.int .u8) (w0 := w) w.heap.size rfl (.tmp 10) (.tmp 15) 27 5 (.int .u8 0) 1 rfl Try.underlying27 info5 rfl (by decide) (by omega) u3 x3_1 ((wrap64 ((Int.tmod x0_1 128) + 128)) % 256) [.int .u8 ((wrap64 ((Int.tmod x0_1 128) + 128)) % 256)] (fun _ => True) (fun _ => False) rfl rfl ?aP (fun _ hk => hk.elim) ?aF ?aO ?aB ?aS ?aL ?_; (case aP => exact rfl); (case aB => exact zB); (case aF => exact (fun _ _ => trivial)); (case aO => exact (zr HO_3)); (case aS => exact (below_size zB)); (case aL => have := LMc7.out; omega); intro v261 w8 ho hb hg hat; rw [← Ny260.out] at ho; replace HB := zm (hb); have HO262 := zm (ho); clear HO_3; clear ho hb hg hat))
      go_roundg k1
      case measure => have := HK1.out; omega
      case rel => exact ⟨(wrap64 (Int.tdiv x0_1 128)), (y260), zF, H', ⟨by have := HK1.out; omega⟩, ⟨zr HO262⟩, ⟨zB⟩⟩
     ·rw [if_neg c7] at H
      exact absurd H (by simp)
    ·rw [if_neg c6] at H; have c6b0 : decide (128 ≤ x0_1) = false := decide_eq_false c6; clear c6
     by_cases c9 : x3_1.length < 140737488355328
     ·rw [if_pos c9] at H; have LMc9 := zm c9; clear c9
      obtain ⟨y263, hy263⟩ : ∃ y_ : List Int, y_ = (x3_1 ++ [(x0_1) % 256]) := ⟨_, rfl⟩
      replace H : (some y263) = some r := by first | (rw [hy263]; with_reducible exact H) | (have H2_ := (Option.bind_some _ _).symm.trans H; rw [hy263]; with_reducible exact H2_) | (have H2_ := (Option.bind_some _ _).symm.trans H; with_reducible exact H2_) | with_reducible exact H | (rw [hy263]; exact H) | exact H
      have Ny263 := zm hy263; clear hy263; obtain rfl := Option.some.inj H
      go_wp2_with (first | ((with_reducible refine gate_builtin (b := .append) (xs := #[.tmp 19, .tmp 22]) rfl ?_); at_builtin; refine Kd.R_append (Kd.int .u8) (w0 := w) w.heap.size rfl (.tmp 19) (.tmp 22) 27 5 (.int .u8 0) 1 rfl Try.underlying27 info5 rfl (by decide) (by omega) u3 x3_1 ((x0_1) % 256) [.int .u8 ((x0_1) % 256)] (fun _ => True) (fun _ => False) rfl rfl ?aP (fun _ hk => hk.elim) ?aF ?aO ?aB ?aS ?aL ?_; (case aP => exact rfl); (case aB => exact zB); (case aF => exact (fun _ _ => trivial)); (case aO => exact (zr HO_3)); (case aS => exact (below_size zB)); (case aL => have := LMc9.out; omega); intro v264 w10 ho hb hg hat; rw [← Ny263.out] at ho; replace HB := zm (hb); have HO265 := zm (ho); clear HO_3; clear ho hb hg hat))
      go_ret
      exact ⟨_, zE, zr HO265, zB⟩
     ·rw [if_neg c9] at H
      exact absurd H (by simp)
 ·replace c3 := Bool.eq_false_iff.mpr c3; subst c3; rw [zff] at H; obtain rfl := Option.some.inj H; go_enter Try.func54, Try.ntmps54
  go_wp2_with (first | (refine zg (some 5) #[.int .i64 a0, .int .i64 0, .int .i64 2147483647] Try.func64 ?_; (with_reducible refine (impl_within.calls a0 0 2147483647 false _ A2.out).mono ?_); rintro e w' ⟨rfl, ⟨nd, rfl⟩⟩; refine ⟨_, rfl, ?_⟩))
  go_ret
  exact ⟨_, zE, znil, zB⟩

/-! ### impl_joined: function 55 -/
def impl_joined.l0 : Nat → List Int → List (List Int) → Int → Int → Option (List Int)
 | 0, _, _, _, _ => none
 | k + 1, x3, x7, x8, x9 => if x9 < x8 then (if 0 ≤ x9 then (if x9 < (x7.length : Int) then (if x3.length + (rd_L9 x7 x9).length < 140737488355328 then (impl_joined.l0 k (x3 ++ (rd_L9 x7 x9)) x7 x8 (wrap64 (x9 + 1))) else (none)) else (none)) else (none)) else (some x3)
def impl_joined.f (k : Nat) (l0 : List (List Int)) : Option (List Int) := impl_joined.l0 k (([] : List Int)) l0 (l0.length : Int) 0
theorem impl_joined.mono_l : ∀ k, (∀ y0 y1 y2 y3, LeO (impl_joined.l0 k y0 y1 y2 y3) (impl_joined.l0 (k + 1) y0 y1 y2 y3))
 | 0 => fun _ _ _ _ r h => by simp [impl_joined.l0] at h
 | k + 1 => by
  have ih0 := impl_joined.mono_l k
  ·intro y0 y1 y2 y3
   unfold impl_joined.l0
   repeat' first | (with_reducible first | exact LeO.refl _ | exact LeO.none _ | refine LeO.ite ?_ ?_ | refine LeO.bind ?_ (fun _ => ?_) | apply ih0) | apply ih0 | exact LeO.none _ | refine LeO.ite ?_ ?_ | refine LeO.bind ?_ (fun _ => ?_)
theorem impl_joined.mono : ∀ a0 k, LeO (impl_joined.f k a0) (impl_joined.f (k + 1) a0) := by
 intro a0 k; have ih0 := impl_joined.mono_l k
 unfold impl_joined.f
 repeat' first | (with_reducible first | exact LeO.refl _ | exact LeO.none _ | refine LeO.ite ?_ ?_ | refine LeO.bind ?_ (fun _ => ?_) | apply ih0) | apply ih0 | exact LeO.none _ | refine LeO.ite ?_ ?_ | refine LeO.bind ?_ (fun _ => ?_)
set_option maxHeartbeats 8000000 in
set_option maxRecDepth 100000 in
theorem impl_joined.calls (k : Nat) (A0 : Option Addr) (c0 : Nat) (l0 : List (List Int)) (r : List Int) (w : World) (hr0 : Kd.C (Kd.slice 5 (Kd.int .u8)) w A0 l0.length l0) (hc0 : l0.length ≤ c0) (h : impl_joined.f k l0 = some r) :
  Calls Try.prog 55 #[.slice A0 l0.length c0] w fun e w' => ∃ v0_ : Value, e = .returned (v0_) ∧ Kd.R (Kd.int .u8) 5 w' w.heap.size (fun _ => True) v0_ r ∧ Below w.heap.size w w' := by
 have HR0 := zm hr0; have HC0 := zm hc0; clear hr0 hc0; have HB := zm (Below.refl w.heap.size w); have H : (impl_joined.l0 k (([] : List Int)) l0 (l0.length : Int) 0) = some r := h; clear h
 obtain ⟨y266, hy266⟩ : ∃ y_ : List Int, y_ = (([] : List Int)) := ⟨_, rfl⟩
 replace H : (impl_joined.l0 k y266 l0 (l0.length : Int) 0) = some r := by first | (rw [hy266]; with_reducible exact H) | (have H2_ := (Option.bind_some _ _).symm.trans H; rw [hy266]; with_reducible exact H2_) | (have H2_ := (Option.bind_some _ _).symm.trans H; with_reducible exact H2_) | with_reducible exact H | (rw [hy266]; exact H) | exact H
 have Ny266 := zm hy266; clear hy266
 have H' := zm H
 clear H; go_enter Try.func55, Try.ntmps55
 go_wp2_with (first | ((with_reducible refine gate_dst (N := 6) rfl ?_); refine Kd.R_lit (Kd.int .u8) _ 5 ?hg (N := 6) ?hd (xs := ([] : List Int)) (inner := []) (ok := fun _ => True) (okp := fun _ => True) ?hr ?hp (fun _ hk => hk) trivial (Below.refl _ _) (Nat.le_refl _) (by simp) ?_; (case hd => rfl); (case hg => rfl); (case hr => first | (go_simp; done) | (go_simp; rfl)); (case hp => exact (Reps.none _ _)); intro v267 w2 ho3 hb hg_ hnew_; clear hg_ hnew_; (first | rw [← Ny266.out] at ho3 | (simp only [Int.reduceToNat] at ho3; rw [← Ny266.out] at ho3)); have HO268 := zm (Kd.R_lower ho3 (below_size zB)); replace HB := zm (below_step zB hb); clear hb ho3))
 go_loopg [3, 9] k (fun kq v3 v9 w' => ∃ (x3_1 : List Int) (x9_1 : Int), v9 = .int .i64 x9_1 ∧ Aside0 (impl_joined.l0 kq x3_1 l0 (l0.length : Int) x9_1 = some r) ∧ Aside0 (kq ≤ k) ∧ Aside0 (Kd.R (Kd.int .u8) 5 w' w.heap.size (fun _ => True) v3 x3_1) ∧ Aside0 (Below w.heap.size w w'))
 case atStart => exact ⟨(y266), (0), zF, H', ⟨Nat.le_refl _⟩, ⟨zr HO268⟩, ⟨zB⟩⟩
 case round =>
  clear H'; obtain ⟨x3_1, x9_1, rfl, HA, HK1, HO_3, HB⟩ := hrel
  cases gk with
  | zero => exact absurd HA.out (by simp [impl_joined.l0])
  | succ k1 =>
   have H := HA.out; clear HA; simp only [impl_joined.l0] at H
   by_cases c4 : x9_1 < (l0.length : Int)
   ·rw [if_pos c4] at H; have c4b0 : decide (x9_1 < (l0.length : Int)) = true := decide_eq_true c4; clear c4
    by_cases c5 : 0 ≤ x9_1
    ·rw [if_pos c5] at H; have c5b0 : decide (0 ≤ x9_1) = true := decide_eq_true c5; clear c5
     by_cases c6 : x9_1 < (l0.length : Int)
     ·rw [if_pos c6] at H; have c6b0 : decide (x9_1 < (l0.length : Int)) = true := decide_eq_true c6; clear c6
      by_cases c7 : x3_1.length + (rd_L9 l0 x9_1).length < 140737488355328
      ·rw [if_pos c7] at H; have LMc7 := zm c7; clear c7
       obtain ⟨y270, hy270⟩ : ∃ y_ : List Int, y_ = (x3_1 ++ (rd_L9 l0 x9_1)) := ⟨_, rfl⟩
       replace H : (impl_joined.l0 k1 y270 l0 (l0.length : Int) (wrap64 (x9_1 + 1))) = some r := by first | (rw [hy270]; with_reducible exact H) | (have H2_ := (Option.bind_some _ _).symm.trans H; rw [hy270]; with_reducible exact H2_) | (have H2_ := (Option.bind_some _ _).symm.trans H; with_reducible exact H2_) | with_reducible exact H | (rw [hy270]; exact H) | exact H
       have Ny270 := zm hy270; clear hy270
       have H' := zm H
       clear H; have p269 : 0 ≤ (x9_1 : Int) := zd; have q269 : x9_1 < (l0.length : Int) := zd; obtain ⟨ad269, A269_0, c269_0, e269, hx269_0, hl269_0, hi269_0⟩ := at_L9 HR0.out x9_1 p269 q269; cases e269; replace hx269_0 := zx HB hx269_0; have HR269_0 := zm hi269_0; have HC269_0 := zm hl269_0; clear hi269_0 hl269_0; replace p269 := eq_true p269; replace q269 := eq_true q269
       go_wp2_with (first | ((with_reducible refine gate_builtin (b := .append) (xs := #[.tmp 13, .tmp 14]) rfl ?_); at_builtin; refine Kd.R_append_rows (Kd.int .u8) (w0 := w) w.heap.size rfl (.tmp 13) (.tmp 14) 27 5 (.int .u8 0) 1 rfl Try.underlying27 info5 rfl (by decide) (by omega) u3 x3_1 (rd_L9 l0 x9_1) _ _ _ (fun _ => True) (fun _ => False) rfl rfl ?aO ?aR (fun _ _ h => h) (fun _ h => h.elim) ?aF ?aB ?aS ?aL ?_; (case aR => repeat (first | exact (Kd.C_below HR269_0.out HB.out) | (with_reducible refine Kd.C_alloc ?_ _) | (with_reducible refine Kd.C_drewN ?_ _) | (with_reducible refine Kd.C_drew ?_))); (case aB => exact zB); (case aF => exact (fun _ _ => trivial)); (case aO => exact (zr HO_3)); (case aS => exact (below_size zB)); (case aL => have := LMc7.out; omega); intro v271 w8 ho hb hg hat; rw [← Ny270.out] at ho; replace HB := zm (hb); have HO272 := zm (ho); clear HO_3; clear ho hb hg hat))
       go_roundg k1
       case measure => have := HK1.out; omega
       case rel => exact ⟨(y270), (wrap64 (x9_1 + 1)), zF, H', ⟨by have := HK1.out; omega⟩, ⟨zr HO272⟩, ⟨zB⟩⟩
      ·rw [if_neg c7] at H
       exact absurd H (by simp)
     ·rw [if_neg c6] at H
      exact absurd H (by simp)
    ·rw [if_neg c5] at H
     exact absurd H (by simp)
   ·rw [if_neg c4] at H; have c4b0 : decide (x9_1 < (l0.length : Int)) = false := decide_eq_false c4; clear c4; obtain rfl := Option.some.inj H
    go_wp2
    go_ret
    exact ⟨_, zE, zr HO_3, zB⟩

/-! ### impl_PutText: function 56, by hand -/
def impl_PutText.f (k : Nat) (a0 : ByteArray) : Option (List Int) := (impl_PutNum.f k (a0.size : Int)).bind fun t1 => if t1.length + a0.size < 140737488355328 then impl_joined.f k [t1, bytesOf a0] else none
theorem impl_PutText.mono : ∀ a0 k, LeO (impl_PutText.f k a0) (impl_PutText.f (k + 1) a0) := by
 intro a0 k
 unfold impl_PutText.f
 exact LeO.bind (impl_PutNum.mono _ _) (fun _ => LeO.ite (impl_joined.mono _ _) (LeO.refl _))
set_option maxHeartbeats 8000000 in
set_option maxRecDepth 100000 in
theorem impl_PutText.calls (k : Nat) (a0 : ByteArray) (r : List Int) (w : World) (h : impl_PutText.f k a0 = some r) :
  Calls Try.prog 56 #[.string a0] w fun e w' => ∃ v0_ : Value, e = .returned (v0_) ∧ Kd.R (Kd.int .u8) 5 w' w.heap.size (fun _ => True) v0_ r ∧ Below w.heap.size w w' := by
 have HB := zm (Below.refl w.heap.size w); have H := Option.bind_eq_some_iff.mp h; clear h; obtain ⟨t1, A10, H⟩ := H; have A1 := zm A10; clear A10
 by_cases c1 : t1.length + a0.size < 140737488355328
 ·rw [if_pos c1] at H; have HSZ := zm (show a0.size ≤ 9223372036854775807 by omega); have HJ := zm H; clear c1 H; go_enter Try.func56, Try.ntmps56
  go_wp2_with (first
   | ((with_reducible refine gate_callee (f := 54) rfl ?_); refine zg (some 5) #[.int .i64 (a0.size : Int)] Try.func54 ?_; (with_reducible refine (impl_PutNum.calls k (a0.size : Int) t1 _ A1.out).mono ?_); rintro e w8 ⟨v1, rfl, ho0, hb⟩; refine ⟨_, rfl, ?_⟩; have HO1 := zm (Kd.R_lower ho0 (below_size zB)); replace HB := zm (below_step zB hb); clear hb ho0; obtain ⟨Ao1, co1, eo1⟩ := Kd.R_slice HO1.out; subst eo1)
   | ((with_reducible refine gate_dst (N := 7) rfl ?_); refine zcv a0 w8 9 27 5 Try.underlying9 Try.underlying27 Try.underlying5 HSZ.out rfl (fun kb_ => by first | (go_simp; done) | (go_simp; rfl)) ?_; intro A7 c7 w9 hc7 hl7 hb; have HC7 := zm hc7; have HL7 := zm hl7; replace HO1 := zm (Kd.R_below HO1.out hb); replace HB := zm (below_step zB hb); clear hb hc7 hl7)
   | ((with_reducible refine gate_dst (N := 8) rfl ?_); refine zls 8 (.slice Ao1 t1.length co1) (.slice A7 a0.size c7) 27 rfl ?_; intro gb hg w10 hbox hb; have HC8 := zm (ztwo 5 (Kd.C_below (Kd.R_reads' HO1.out).2.2 hb) (Kd.R_reads' HO1.out).2.1 (Kd.C_below HC7.out hb) HL7.out hbox); replace HB := zm (below_step zB hb); clear hb hbox hg)
   | ((with_reducible refine gate_callee (f := 55) rfl ?_); refine zg (some 9) #[.slice (some ⟨gb, 0, none⟩) 2 2] Try.func55 ?_; (refine (impl_joined.calls k (some ⟨gb, 0, none⟩) 2 [t1, bytesOf a0] r _ HC8.out (Nat.le_refl 2) HJ.out).mono ?_); rintro e w11 ⟨v2, rfl, ho0, hb⟩; refine ⟨_, rfl, ?_⟩; have HO2 := zm (Kd.R_lower ho0 (below_size zB)); replace HB := zm (below_step zB hb); clear hb ho0))
  go_ret
  exact ⟨_, zE, zr HO2, zB⟩
 ·rw [if_neg c1] at H
  exact absurd H (by simp)

/-! ### impl_StateBytes: function 16 -/
mutual
def impl_StateBytes.l0 : Nat → List Int → List (S68) → Int → Int → List (S68) → List (S72) → Option (List Int)
 | 0, _, _, _, _, _, _ => none
 | k + 1, x3, x17, x18, x19, x274000, x274001 => if x19 < x18 then (if 0 ≤ x19 then (if x19 < (x17.length : Int) then ((impl_PutNum.f k ((rd_T68 x17 x19).f0)).bind fun t281 => ((impl_PutNum.f k ((rd_T68 x17 x19).f1.f0)).bind fun t284 => ((impl_PutNum.f k ((rd_T68 x17 x19).f1.f1)).bind fun t287 => ((impl_PutNum.f k ((rd_T68 x17 x19).f1.f2)).bind fun t290 => ((impl_PutNum.f k ((rd_T68 x17 x19).f1.f3)).bind fun t293 => ((impl_PutText.f k ((rd_T68 x17 x19).f1.f4)).bind fun t296 => ((impl_joined.f k (([x3, t281, t284, t287, t290, t293, t296] : List (List Int)))).bind fun t302 => (impl_StateBytes.l0 k t302 x17 x18 (wrap64 (x19 + 1)) x274000 x274001)))))))) else (none)) else (none)) else ((impl_PutNum.f k (x274001.length : Int)).bind fun t305 => ((impl_joined.f k (([x3, t305] : List (List Int)))).bind fun t311 => (impl_StateBytes.l1 k t311 x274001 (x274001.length : Int) 0)))
def impl_StateBytes.l1 : Nat → List Int → List (S72) → Int → Int → Option (List Int)
 | 0, _, _, _, _ => none
 | k + 1, x3, x55, x56, x57 => if x57 < x56 then (if 0 ≤ x57 then (if x57 < (x55.length : Int) then ((impl_PutNum.f k ((rd_T72 x55 x57).f0)).bind fun t316 => ((impl_PutNum.f k ((rd_T72 x55 x57).f1)).bind fun t319 => ((impl_joined.f k (([x3, t316, t319] : List (List Int)))).bind fun t325 => (impl_StateBytes.l1 k t325 x55 x56 (wrap64 (x57 + 1)))))) else (none)) else (none)) else (some x3)
end
def impl_StateBytes.f (k : Nat) (l0_0 : List (S68)) (l0_1 : List (S72)) : Option (List Int) := (impl_StateOk.f k l0_0 l0_1).bind fun t274 => (if t274 = true then ((impl_PutNum.f k (l0_0.length : Int)).bind fun t275 => (impl_StateBytes.l0 k t275 l0_0 (l0_0.length : Int) 0 l0_0 l0_1)) else (some ([] : List Int)))
theorem impl_StateBytes.mono_l : ∀ k, (∀ y0 y1 y2 y3 y4 y5, LeO (impl_StateBytes.l0 k y0 y1 y2 y3 y4 y5) (impl_StateBytes.l0 (k + 1) y0 y1 y2 y3 y4 y5)) ∧ (∀ y0 y1 y2 y3, LeO (impl_StateBytes.l1 k y0 y1 y2 y3) (impl_StateBytes.l1 (k + 1) y0 y1 y2 y3))
 | 0 => ⟨fun _ _ _ _ _ _ r h => by simp [impl_StateBytes.l0] at h, fun _ _ _ _ r h => by simp [impl_StateBytes.l1] at h⟩
 | k + 1 => by
  obtain ⟨ih0, ih1⟩ := impl_StateBytes.mono_l k
  refine ⟨?_, ?_⟩
  ·intro y0 y1 y2 y3 y4 y5
   unfold impl_StateBytes.l0
   repeat' first | (with_reducible first | exact LeO.refl _ | exact LeO.none _ | refine LeO.ite ?_ ?_ | refine LeO.bind ?_ (fun _ => ?_) | apply ih0 | apply ih1 | apply impl_PutNum.mono | apply impl_PutText.mono | apply impl_StateOk.mono | apply impl_joined.mono) | apply ih0 | apply ih1 | apply impl_PutNum.mono | apply impl_PutText.mono | apply impl_StateOk.mono | apply impl_joined.mono | exact LeO.none _ | refine LeO.ite ?_ ?_ | refine LeO.bind ?_ (fun _ => ?_)
  ·intro y0 y1 y2 y3
   unfold impl_StateBytes.l1
   repeat' first | (with_reducible first | exact LeO.refl _ | exact LeO.none _ | refine LeO.ite ?_ ?_ | refine LeO.bind ?_ (fun _ => ?_) | apply ih0 | apply ih1 | apply impl_PutNum.mono | apply impl_PutText.mono | apply impl_StateOk.mono | apply impl_joined.mono) | apply ih0 | apply ih1 | apply impl_PutNum.mono | apply impl_PutText.mono | apply impl_StateOk.mono | apply impl_joined.mono | exact LeO.none _ | refine LeO.ite ?_ ?_ | refine LeO.bind ?_ (fun _ => ?_)
theorem impl_StateBytes.mono : ∀ a0 a1 k, LeO (impl_StateBytes.f k a0 a1) (impl_StateBytes.f (k + 1) a0 a1) := by
 intro a0 a1 k; obtain ⟨ih0, ih1⟩ := impl_StateBytes.mono_l k
 unfold impl_StateBytes.f
 repeat' first | (with_reducible first | exact LeO.refl _ | exact LeO.none _ | refine LeO.ite ?_ ?_ | refine LeO.bind ?_ (fun _ => ?_) | apply ih0 | apply ih1 | apply impl_PutNum.mono | apply impl_PutText.mono | apply impl_StateOk.mono | apply impl_joined.mono) | apply ih0 | apply ih1 | apply impl_PutNum.mono | apply impl_PutText.mono | apply impl_StateOk.mono | apply impl_joined.mono | exact LeO.none _ | refine LeO.ite ?_ ?_ | refine LeO.bind ?_ (fun _ => ?_)
def impl_StateBytes.T8 : Bool × List (List Nat × List Nat) := (true, [([], []), ([], []), ([1], [1]), ([2], [2]), ([], []), ([4], [4]), ([5, 3], [5]), ([], []), ([7], [7]), ([8, 6], [8]), ([], []), ([10], [10]), ([11, 9], [11]), ([], []), ([13], [13]), ([14, 12], [14]), ([], []), ([16], [16]), ([17, 15], [17]), ([0, 3, 6, 9, 12, 15, 18], [0, 3, 6, 9, 12, 15, 18]), ([19, 18], [19]), ([20, 20, 0, 1, 2, 3, 4, 5, 6, 7, 8, 9, 10, 11, 12, 13, 14, 15, 16, 17, 18, 19, 20], [0, 20])])
def impl_StateBytes.B8 : List Nat := [0, 0, 2, 6, 0, 16, 62, 0, 128, 510, 0, 1024, 4094, 0, 8192, 32766, 0, 65536, 262142, 524287, 1048575, 2097151]
theorem impl_StateBytes.tab8 : rtab .any (opsOf Try.f16 8) = impl_StateBytes.T8 := by kernel_rfl
theorem impl_StateBytes.bits8 : waitsOk impl_StateBytes.T8.2 impl_StateBytes.B8 = true := by kernel_rfl
def impl_StateBytes.T14 : Bool × List (List Nat × List Nat) := (true, [([], []), ([], []), ([1], [1]), ([2], [2]), ([], []), ([4], [4]), ([5, 3], [5]), ([0, 3, 6], [0, 3, 6]), ([7, 6], [7]), ([8, 8, 0, 1, 2, 3, 4, 5, 6, 7, 8], [0, 8])])
def impl_StateBytes.B14 : List Nat := [0, 0, 2, 6, 0, 16, 62, 127, 255, 511]
theorem impl_StateBytes.tab14 : rtab .any (opsOf Try.f16 14) = impl_StateBytes.T14 := by kernel_rfl
theorem impl_StateBytes.bits14 : waitsOk impl_StateBytes.T14.2 impl_StateBytes.B14 = true := by kernel_rfl
set_option maxHeartbeats 8000000 in
set_option maxRecDepth 100000 in
theorem impl_StateBytes.calls (k : Nat) (A0_0 : Option Addr) (c0_0 : Nat) (l0_0 : List (S68)) (A0_1 : Option Addr) (c0_1 : Nat) (l0_1 : List (S72)) (r : List Int) (w : World) (hr0_0 : Kd.C k68 w A0_0 l0_0.length l0_0) (hc0_0 : l0_0.length ≤ c0_0) (hr0_1 : Kd.C k72 w A0_1 l0_1.length l0_1) (hc0_1 : l0_1.length ≤ c0_1) (h : impl_StateBytes.f k l0_0 l0_1 = some r) :
  Calls Try.prog 16 #[.agg #[.slice A0_0 l0_0.length c0_0, .slice A0_1 l0_1.length c0_1]] w fun e w' => ∃ v0_ : Value, e = .returned (v0_) ∧ Kd.R (Kd.int .u8) 5 w' w.heap.size (fun _ => True) v0_ r ∧ Below w.heap.size w w' := by
 have hu32 := Try.underlying32; have hu68 := Try.underlying68; have hu66 := Try.underlying66; have hu72 := Try.underlying72; have HR0_0 := zm hr0_0; have HC0_0 := zm hc0_0; clear hr0_0 hc0_0; have HR0_1 := zm hr0_1; have HC0_1 := zm hc0_1; clear hr0_1 hc0_1; have HB := zm (Below.refl w.heap.size w); have H : ((impl_StateOk.f k l0_0 l0_1).bind fun t274 => (if t274 = true then ((impl_PutNum.f k (l0_0.length : Int)).bind fun t275 => (impl_StateBytes.l0 k t275 l0_0 (l0_0.length : Int) 0 l0_0 l0_1)) else (some ([] : List Int)))) = some r := h; clear h; replace H := Option.bind_eq_some_iff.mp H; obtain ⟨t274, A20, H⟩ := H; (try dsimp only at H); have A2 := zm A20; clear A20
 by_cases c3 : t274 = true
 ·subst c3; rw [if_pos rfl] at H; replace H := Option.bind_eq_some_iff.mp H; obtain ⟨t275, A40, H⟩ := H; (try dsimp only at H); have A4 := zm A40; clear A40
  have H' := zm H
  clear H; go_enter Try.func16, Try.ntmps16
  go_wp2_with (first | (refine zbox 1 #[.slice A0_0 l0_0.length c0_0, .slice A0_1 l0_1.length c0_1] 32 ?_; intro gb273 hg w5 hbox hb; have BK273 := zm (hbox); have GW273 := zge w hg zB; have GE273 := zge w hg zB; replace HB := zm (below_step zB hb); clear hb hbox hg; obtain ⟨hcz6_0, hcz6_1, hfz6_0, hfz6_1⟩ := zc2 BK273) | (refine zg (some 10) #[.agg #[.slice A0_0 l0_0.length c0_0, .slice A0_1 l0_1.length c0_1]] Try.func53 ?_; (with_reducible refine (impl_StateOk.calls k _ _ l0_0 _ _ l0_1 true _ (zk (Kd.C_below HR0_0.out HB.out)) HC0_0.out (zk (Kd.C_below HR0_1.out HB.out)) HC0_1.out A2.out).mono ?_); rintro e w7 ⟨rfl, hb⟩; refine ⟨_, rfl, ?_⟩; replace BK273 := zy BK273 hb; replace HB := zm (below_step zB hb); clear hb; obtain ⟨hcz8_0, hcz8_1, hfz8_0, hfz8_1⟩ := zc2 BK273) | (refine zg (some 15) #[.int .i64 (l0_0.length : Int)] Try.func54 ?_; (with_reducible refine (impl_PutNum.calls k (l0_0.length : Int) t275 _ A4.out).mono ?_); rintro e w9 ⟨v276, rfl, ho0, hb⟩; refine ⟨_, rfl, ?_⟩; have HO277 := zm (Kd.R_lower ho0 (below_size zB)); replace BK273 := zy BK273 hb; replace HB := zm (below_step zB hb); clear hb ho0; obtain ⟨hcz10_0, hcz10_1, hfz10_0, hfz10_1⟩ := zc2 BK273))
  go_loopg [3, 19] k (fun kq v3 v19 w' => ∃ (x3_1 : List Int) (x19_1 : Int), v19 = .int .i64 x19_1 ∧ Aside0 (impl_StateBytes.l0 kq x3_1 l0_0 (l0_0.length : Int) x19_1 l0_0 l0_1 = some r) ∧ Aside0 (kq ≤ k) ∧ Aside0 (Kd.R (Kd.int .u8) 5 w' w.heap.size (fun _ => True) v3 x3_1) ∧ Aside0 (w'.heap[gb273]? = some (.cells #[(.slice A0_0 l0_0.length c0_0), (.slice A0_1 l0_1.length c0_1)] 32 (0, 0))) ∧ Aside0 (Below w.heap.size w w'))
  case atStart => exact ⟨(t275), (0), zF, H', ⟨Nat.le_refl _⟩, ⟨zr HO277⟩, ⟨zb BK273⟩, ⟨zB⟩⟩
  case round =>
   clear H'; (try clear c3); (try clear hcz10_0); (try clear hcz10_1); (try clear hcz6_0); (try clear hcz6_1); (try clear hcz8_0); (try clear hcz8_1); (try clear hfz10_0); (try clear hfz10_1); (try clear hfz6_0); (try clear hfz6_1); (try clear hfz8_0); (try clear hfz8_1); obtain ⟨x3_1, x19_1, rfl, HA, HK1, HO_3, BK273, HB⟩ := hrel
   cases gk with
   | zero => exact absurd HA.out (by simp [impl_StateBytes.l0])
   | succ k1 =>
    have H := HA.out; clear HA; simp only [impl_StateBytes.l0] at H
    by_cases c11 : x19_1 < (l0_0.length : Int)
    ·rw [if_pos c11] at H; have c11b0 : decide (x19_1 < (l0_0.length : Int)) = true := decide_eq_true c11; clear c11
     by_cases c12 : 0 ≤ x19_1
     ·rw [if_pos c12] at H; have c12b0 : decide (0 ≤ x19_1) = true := decide_eq_true c12; clear c12
      by_cases c13 : x19_1 < (l0_0.length : Int)
      ·rw [if_pos c13] at H; have c13b0 : decide (x19_1 < (l0_0.length : Int)) = true := decide_eq_true c13; clear c13; replace H := Option.bind_eq_some_iff.mp H; obtain ⟨t281, A140, H⟩ := H; (try dsimp only at H); have A14 := zm A140; clear A140; replace H := Option.bind_eq_some_iff.mp H; obtain ⟨t284, A150, H⟩ := H; (try dsimp only at H); have A15 := zm A150; clear A150; replace H := Option.bind_eq_some_iff.mp H; obtain ⟨t287, A160, H⟩ := H; (try dsimp only at H); have A16 := zm A160; clear A160; replace H := Option.bind_eq_some_iff.mp H; obtain ⟨t290, A170, H⟩ := H; (try dsimp only at H); have A17 := zm A170; clear A170; replace H := Option.bind_eq_some_iff.mp H; obtain ⟨t293, A180, H⟩ := H; (try dsimp only at H); have A18 := zm A180; clear A180; replace H := Option.bind_eq_some_iff.mp H; obtain ⟨t296, A190, H⟩ := H; (try dsimp only at H); have A19 := zm A190; clear A190
       obtain ⟨y299, hy299⟩ : ∃ y_ : List (List Int), y_ = (([x3_1, t281, t284, t287, t290, t293, t296] : List (List Int))) := ⟨_, rfl⟩
       replace H : ((impl_joined.f k1 y299).bind fun t302 => (impl_StateBytes.l0 k1 t302 l0_0 (l0_0.length : Int) (wrap64 (x19_1 + 1)) l0_0 l0_1)) = some r := by first | (rw [hy299]; with_reducible exact H) | (have H2_ := (Option.bind_some _ _).symm.trans H; rw [hy299]; with_reducible exact H2_) | (have H2_ := (Option.bind_some _ _).symm.trans H; with_reducible exact H2_) | with_reducible exact H | (rw [hy299]; exact H) | exact H
       have Ny299 := zm hy299; clear hy299; replace H := Option.bind_eq_some_iff.mp H; obtain ⟨t302, A200, H⟩ := H; (try dsimp only at H); have A20 := zm A200; clear A200
       have H' := zm H
       clear H; have p278 : 0 ≤ (x19_1 : Int) := zd; have q278 : x19_1 < (l0_0.length : Int) := zd; obtain ⟨ad278, e278, hx278_0, hx278_1, hx278_2, hx278_3, hx278_4, hx278_5⟩ := at_T68 (Kd.C_below HR0_0.out HB.out) x19_1 p278 q278; cases e278; replace p278 := eq_true p278; replace q278 := eq_true q278
       try go_wp2_with (first | (refine zbox 5 #[.int .i64 0, .int .i64 0, .int .i64 0, .int .i64 0, .int .i64 0, .string (⟨#[]⟩ : ByteArray)] 68 ?_; intro gb279 hg w21 hbox hb; replace HO_3 := zw HO_3 hb; have BK279 := zm (hbox); have GW279 := zge w hg zB; have GE279 := zge w hg zB; replace HB := zm (below_step zB hb); have NB273_279 := zlt hg (zb BK273); have NB279_273 := zgt hg (zb BK273); replace BK273 := zy BK273 hb; clear hb hbox hg; have hnb22 := NB279_273.out; have hnc22 := NB273_279.out; obtain ⟨hcz23_0, hcz23_1, hcz23_2, hcz23_3, hcz23_4, hcz23_5, hfz23_0, hfz23_1, hfz23_2, hfz23_3, hfz23_4, hfz23_5⟩ := zc6 BK279) | (refine zbox 6 #[.int .i64 0, .int .i64 0, .int .i64 0, .int .i64 0, .string (⟨#[]⟩ : ByteArray)] 66 ?_; intro gb280 hg w24 hbox hb; replace HO_3 := zm (Kd.R_below (zrs <| (Kd.R_mono (zfr (zfr (zfr (zfr (zfr (zfr (Kd.R_types HO_3.out BK279.out (by decide)))))))) (fun _ h_ => h_.1))) hb); have BK280 := zm (hbox); have GW280 := zge w hg zB; have GE280 := zge w hg zB; replace HB := zm (below_step zB hb); have NB273_280 := zm ((by rw [hg]; exact Nat.ne_of_lt (blk_lt (g := gb273) (o := .cells #[.slice (some ad278) l0_0.length c0_0, .slice A0_1 l0_1.length c0_1] 32 (0, 0)) (zfar (zfar (zfar (zfar (zfar (zfar (zb BK273) NB273_279) NB273_279) NB273_279) NB273_279) NB273_279) NB273_279)) : gb273 ≠ gb280)); have NB280_273 := zm ((by rw [hg]; exact Nat.ne_of_gt (blk_lt (g := gb273) (o := .cells #[.slice (some ad278) l0_0.length c0_0, .slice A0_1 l0_1.length c0_1] 32 (0, 0)) (zfar (zfar (zfar (zfar (zfar (zfar (zb BK273) NB273_279) NB273_279) NB273_279) NB273_279) NB273_279) NB273_279)) : gb280 ≠ gb273)); replace BK273 := zyb hb (zfar (zfar (zfar (zfar (zfar (zfar (zb BK273) NB273_279) NB273_279) NB273_279) NB273_279) NB273_279) NB273_279); have NB279_280 := zm ((by rw [hg]; exact Nat.ne_of_lt (blk_lt (g := gb279) (o := .cells #[.int .i64 ((rd_T68 l0_0 x19_1).f0), .int .i64 ((rd_T68 l0_0 x19_1).f1.f0), .int .i64 ((rd_T68 l0_0 x19_1).f1.f1), .int .i64 ((rd_T68 l0_0 x19_1).f1.f2), .int .i64 ((rd_T68 l0_0 x19_1).f1.f3), .string ((rd_T68 l0_0 x19_1).f1.f4)] 68 (0, 0)) (zput (zput (zput (zput (zput (zput (zb BK279) 0) 1) 2) 3) 4) 5)) : gb279 ≠ gb280)); have NB280_279 := zm ((by rw [hg]; exact Nat.ne_of_gt (blk_lt (g := gb279) (o := .cells #[.int .i64 ((rd_T68 l0_0 x19_1).f0), .int .i64 ((rd_T68 l0_0 x19_1).f1.f0), .int .i64 ((rd_T68 l0_0 x19_1).f1.f1), .int .i64 ((rd_T68 l0_0 x19_1).f1.f2), .int .i64 ((rd_T68 l0_0 x19_1).f1.f3), .string ((rd_T68 l0_0 x19_1).f1.f4)] 68 (0, 0)) (zput (zput (zput (zput (zput (zput (zb BK279) 0) 1) 2) 3) 4) 5)) : gb280 ≠ gb279)); replace BK279 := zm (blk_below (g := gb279) (o := .cells #[.int .i64 ((rd_T68 l0_0 x19_1).f0), .int .i64 ((rd_T68 l0_0 x19_1).f1.f0), .int .i64 ((rd_T68 l0_0 x19_1).f1.f1), .int .i64 ((rd_T68 l0_0 x19_1).f1.f2), .int .i64 ((rd_T68 l0_0 x19_1).f1.f3), .string ((rd_T68 l0_0 x19_1).f1.f4)] 68 (0, 0)) (zput (zput (zput (zput (zput (zput (zb BK279) 0) 1) 2) 3) 4) 5) hb); clear hb hbox hg; have hnb25 := NB280_273.out; have hnc25 := NB273_280.out; have hnb26 := NB280_279.out; have hnc26 := NB279_280.out; obtain ⟨hcz27_0, hcz27_1, hcz27_2, hcz27_3, hcz27_4, hfz27_0, hfz27_1, hfz27_2, hfz27_3, hfz27_4⟩ := zc5 BK280))
       obtain ⟨w28, hW_⟩ : ∃ q, q = (((((w24.setCell ⟨gb280, 0, none⟩ (.int .i64 ((rd_T68 l0_0 x19_1).f1.f0))).setCell ⟨gb280, 1, none⟩ (.int .i64 ((rd_T68 l0_0 x19_1).f1.f1))).setCell ⟨gb280, 2, none⟩ (.int .i64 ((rd_T68 l0_0 x19_1).f1.f2))).setCell ⟨gb280, 3, none⟩ (.int .i64 ((rd_T68 l0_0 x19_1).f1.f3))).setCell ⟨gb280, 4, none⟩ (.string ((rd_T68 l0_0 x19_1).f1.f4))) := ⟨_, rfl⟩
       have n0_ : Aside0 (Kd.R (Kd.int .u8) 5 w28 w.heap.size (fun _ => True) u3 x3_1) := ⟨by rw [hW_]; exact zrs <| Kd.R_mono (zfr (zfr (zfr (zfr (zfr (Kd.R_types HO_3.out BK280.out (by decide))))))) (fun _ hk => trivial)⟩; have n1_ : Aside0 (w28.heap[gb273]? = some (.cells #[.slice (some ad278) l0_0.length c0_0, .slice A0_1 l0_1.length c0_1] 32 (0, 0))) := ⟨by rw [hW_]; exact zfar (zfar (zfar (zfar (zfar (zb BK273) NB273_280) NB273_280) NB273_280) NB273_280) NB273_280⟩; have n2_ : Aside0 (w28.heap[gb279]? = some (.cells #[.int .i64 ((rd_T68 l0_0 x19_1).f0), .int .i64 ((rd_T68 l0_0 x19_1).f1.f0), .int .i64 ((rd_T68 l0_0 x19_1).f1.f1), .int .i64 ((rd_T68 l0_0 x19_1).f1.f2), .int .i64 ((rd_T68 l0_0 x19_1).f1.f3), .string ((rd_T68 l0_0 x19_1).f1.f4)] 68 (0, 0))) := ⟨by rw [hW_]; exact zfar (zfar (zfar (zfar (zfar (zb BK279) NB279_280) NB279_280) NB279_280) NB279_280) NB279_280⟩; have n3_ : Aside0 (w28.heap[gb280]? = some (.cells #[.int .i64 ((rd_T68 l0_0 x19_1).f1.f0), .int .i64 ((rd_T68 l0_0 x19_1).f1.f1), .int .i64 ((rd_T68 l0_0 x19_1).f1.f2), .int .i64 ((rd_T68 l0_0 x19_1).f1.f3), .string ((rd_T68 l0_0 x19_1).f1.f4)] 66 (0, 0))) := ⟨by rw [hW_]; exact zput (zput (zput (zput (zput (zb BK280) 0) 1) 2) 3) 4⟩; have n4_ : Aside0 (Below w.heap.size w w28) := ⟨by rw [hW_]; exact zB⟩
       rw [← hW_]
       clear hW_; (try clear HO_3); (try clear BK273); (try clear BK279); (try clear BK280); (try clear HB); have HO_3 := n0_; have BK273 := n1_; have BK279 := n2_; have BK280 := n3_; have HB := n4_; clear n0_ n1_ n2_ n3_ n4_; replace HO_3 := zm (Kd.R_drew HO_3.out); replace BK273 := zq BK273; replace BK279 := zq BK279; replace BK280 := zq BK280; replace HB := zm (below_drew1 HB.out)
       refine start_ (n := 22) (S := fun w' => w'.cell? ⟨gb279, 0, none⟩ = some (.int .i64 ((rd_T68 l0_0 x19_1).f0)) ∧ w'.cell? ⟨gb279, 1, none⟩ = some (.int .i64 ((rd_T68 l0_0 x19_1).f1.f0)) ∧ w'.cell? ⟨gb279, 2, none⟩ = some (.int .i64 ((rd_T68 l0_0 x19_1).f1.f1)) ∧ w'.cell? ⟨gb279, 3, none⟩ = some (.int .i64 ((rd_T68 l0_0 x19_1).f1.f2)) ∧ w'.cell? ⟨gb279, 4, none⟩ = some (.int .i64 ((rd_T68 l0_0 x19_1).f1.f3)) ∧ w'.cell? ⟨gb279, 5, none⟩ = some (.string ((rd_T68 l0_0 x19_1).f1.f4)) ∧ w'.cell? ⟨gb280, 0, none⟩ = some (.int .i64 ((rd_T68 l0_0 x19_1).f1.f0)) ∧ w'.cell? ⟨gb280, 1, none⟩ = some (.int .i64 ((rd_T68 l0_0 x19_1).f1.f1)) ∧ w'.cell? ⟨gb280, 2, none⟩ = some (.int .i64 ((rd_T68 l0_0 x19_1).f1.f2)) ∧ w'.cell? ⟨gb280, 3, none⟩ = some (.int .i64 ((rd_T68 l0_0 x19_1).f1.f3)) ∧ w'.cell? ⟨gb280, 4, none⟩ = some (.string ((rd_T68 l0_0 x19_1).f1.f4))) (ds := []) (zl 22 0) (by kernel_rfl) rfl rfl zS (fun hHeld => ?_); refine with_tabW impl_StateBytes.tab8 impl_StateBytes.bits8 (fun HT_ HW_ => ?_)
       generalize w28.drew = w29 at HO_3 BK273 BK279 BK280 HB hHeld ⊢
       refine zu 0 25 22 1 ?_
       refine zu 1 26 22 3 ?_
       refine zu 4 29 22 19 ?_
       refine zu 7 32 22 147 ?_
       refine zu 10 35 22 1171 ?_
       refine zu 13 38 22 9363 ?_
       refine zu 16 41 22 74899 ?_
       refine zv 2 27 22 74903 ?_
       refine zv 5 30 22 74935 ?_
       refine zv 8 33 22 75191 ?_
       refine zv 11 36 22 77239 ?_
       refine zv 14 39 22 93623 ?_
       refine zv 17 42 22 224695 ?_
       refine zo 3 (some 28) (zl 22 224703) (fun K hK => ?_); refine zgo #[.int .i64 ((rd_T68 l0_0 x19_1).f0)] Try.func54 ?_; (with_reducible refine (impl_PutNum.calls k1 ((rd_T68 l0_0 x19_1).f0) t281 _ A14.out).mono ?_); rintro e w30 ⟨v282, rfl, ho0, hb⟩; refine ⟨_, rfl, ?_⟩; have HO283 := zm (Kd.R_lower (Kd.R_new' ho0 (Kd.R_lt (zr HO_3))) (below_size zB)); replace HO_3 := zm (Kd.R_elder' (zr HO_3) (Kd.R_base ho0) hb); replace BK273 := zy BK273 hb; replace BK279 := zy BK279 hb; replace BK280 := zy BK280 hb; replace HB := zm (below_step zB hb); (try clear hb); (try clear hk); (try clear ho0); refine hK.out _ _ zS (fun hHeld => ?_); clear hK K; refine zn ?_; refine zo 6 (some 31) (zl 22 224767) (fun K hK => ?_); refine zgo #[.int .i64 ((rd_T68 l0_0 x19_1).f1.f0)] Try.func54 ?_; (with_reducible refine (impl_PutNum.calls k1 ((rd_T68 l0_0 x19_1).f1.f0) t284 _ A15.out).mono ?_); rintro e w31 ⟨v285, rfl, ho0, hb⟩; refine ⟨_, rfl, ?_⟩; have HO286 := zm (Kd.R_lower (Kd.R_new' (Kd.R_new' ho0 (Kd.R_lt (zr HO_3))) (Kd.R_lt (zr HO283))) (below_size zB)); replace HO_3 := zm (Kd.R_elder' (zr HO_3) (Kd.R_base ho0) hb); replace HO283 := zm (Kd.R_elder' (zr HO283) (Kd.R_base ho0) hb); replace BK273 := zy BK273 hb; replace BK279 := zy BK279 hb; replace BK280 := zy BK280 hb; replace HB := zm (below_step zB hb); (try clear hb); (try clear hk); (try clear ho0); refine hK.out _ _ zS (fun hHeld => ?_); clear hK K; refine zn ?_; refine zo 9 (some 34) (zl 22 225279) (fun K hK => ?_); refine zgo #[.int .i64 ((rd_T68 l0_0 x19_1).f1.f1)] Try.func54 ?_
       (with_reducible refine (impl_PutNum.calls k1 ((rd_T68 l0_0 x19_1).f1.f1) t287 _ A16.out).mono ?_); rintro e w32 ⟨v288, rfl, ho0, hb⟩; refine ⟨_, rfl, ?_⟩; have HO289 := zm (Kd.R_lower (Kd.R_new' (Kd.R_new' (Kd.R_new' ho0 (Kd.R_lt (zr HO_3))) (Kd.R_lt (zr HO283))) (Kd.R_lt (zr HO286))) (below_size zB)); replace HO_3 := zm (Kd.R_elder' (zr HO_3) (Kd.R_base ho0) hb); replace HO283 := zm (Kd.R_elder' (zr HO283) (Kd.R_base ho0) hb); replace HO286 := zm (Kd.R_elder' (zr HO286) (Kd.R_base ho0) hb); replace BK273 := zy BK273 hb; replace BK279 := zy BK279 hb; replace BK280 := zy BK280 hb; replace HB := zm (below_step zB hb); (try clear hb); (try clear hk); (try clear ho0); refine hK.out _ _ zS (fun hHeld => ?_); clear hK K; refine zn ?_; refine zo 12 (some 37) (zl 22 229375) (fun K hK => ?_); refine zgo #[.int .i64 ((rd_T68 l0_0 x19_1).f1.f2)] Try.func54 ?_; (with_reducible refine (impl_PutNum.calls k1 ((rd_T68 l0_0 x19_1).f1.f2) t290 _ A17.out).mono ?_); rintro e w33 ⟨v291, rfl, ho0, hb⟩; refine ⟨_, rfl, ?_⟩; have HO292 := zm (Kd.R_lower (Kd.R_new' (Kd.R_new' (Kd.R_new' (Kd.R_new' ho0 (Kd.R_lt (zr HO_3))) (Kd.R_lt (zr HO283))) (Kd.R_lt (zr HO286))) (Kd.R_lt (zr HO289))) (below_size zB)); replace HO_3 := zm (Kd.R_elder' (zr HO_3) (Kd.R_base ho0) hb); replace HO283 := zm (Kd.R_elder' (zr HO283) (Kd.R_base ho0) hb); replace HO286 := zm (Kd.R_elder' (zr HO286) (Kd.R_base ho0) hb); replace HO289 := zm (Kd.R_elder' (zr HO289) (Kd.R_base ho0) hb); replace BK273 := zy BK273 hb; replace BK279 := zy BK279 hb
       replace BK280 := zy BK280 hb; replace HB := zm (below_step zB hb); (try clear hb); (try clear hk); (try clear ho0); refine hK.out _ _ zS (fun hHeld => ?_); clear hK K; refine zn ?_; refine zo 15 (some 40) (zl 22 262143) (fun K hK => ?_); refine zgo #[.int .i64 ((rd_T68 l0_0 x19_1).f1.f3)] Try.func54 ?_; (with_reducible refine (impl_PutNum.calls k1 ((rd_T68 l0_0 x19_1).f1.f3) t293 _ A18.out).mono ?_); rintro e w34 ⟨v294, rfl, ho0, hb⟩; refine ⟨_, rfl, ?_⟩; have HO295 := zm (Kd.R_lower (Kd.R_new' (Kd.R_new' (Kd.R_new' (Kd.R_new' (Kd.R_new' ho0 (Kd.R_lt (zr HO_3))) (Kd.R_lt (zr HO283))) (Kd.R_lt (zr HO286))) (Kd.R_lt (zr HO289))) (Kd.R_lt (zr HO292))) (below_size zB)); replace HO_3 := zm (Kd.R_elder' (zr HO_3) (Kd.R_base ho0) hb); replace HO283 := zm (Kd.R_elder' (zr HO283) (Kd.R_base ho0) hb); replace HO286 := zm (Kd.R_elder' (zr HO286) (Kd.R_base ho0) hb); replace HO289 := zm (Kd.R_elder' (zr HO289) (Kd.R_base ho0) hb); replace HO292 := zm (Kd.R_elder' (zr HO292) (Kd.R_base ho0) hb); replace BK273 := zy BK273 hb; replace BK279 := zy BK279 hb; replace BK280 := zy BK280 hb; replace HB := zm (below_step zB hb); (try clear hb); (try clear hk); (try clear ho0); refine hK.out _ _ zS (fun hHeld => ?_); clear hK K; refine zn ?_; refine zo 18 (some 43) (zl 22 524287) (fun K hK => ?_); refine zgo #[.string ((rd_T68 l0_0 x19_1).f1.f4)] Try.func56 ?_; (with_reducible refine (impl_PutText.calls k1 ((rd_T68 l0_0 x19_1).f1.f4) t296 _ A19.out).mono ?_); rintro e w35 ⟨v297, rfl, ho0, hb⟩; refine ⟨_, rfl, ?_⟩
       have HO298 := zm (Kd.R_lower (Kd.R_new' (Kd.R_new' (Kd.R_new' (Kd.R_new' (Kd.R_new' (Kd.R_new' ho0 (Kd.R_lt (zr HO_3))) (Kd.R_lt (zr HO283))) (Kd.R_lt (zr HO286))) (Kd.R_lt (zr HO289))) (Kd.R_lt (zr HO292))) (Kd.R_lt (zr HO295))) (below_size zB)); replace HO_3 := zm (Kd.R_elder' (zr HO_3) (Kd.R_base ho0) hb); replace HO283 := zm (Kd.R_elder' (zr HO283) (Kd.R_base ho0) hb); replace HO286 := zm (Kd.R_elder' (zr HO286) (Kd.R_base ho0) hb); replace HO289 := zm (Kd.R_elder' (zr HO289) (Kd.R_base ho0) hb); replace HO292 := zm (Kd.R_elder' (zr HO292) (Kd.R_base ho0) hb); replace HO295 := zm (Kd.R_elder' (zr HO295) (Kd.R_base ho0) hb); replace BK273 := zy BK273 hb; replace BK279 := zy BK279 hb; replace BK280 := zy BK280 hb; replace HB := zm (below_step zB hb); (try clear hb); (try clear hk); (try clear ho0); obtain ⟨Ao36, co36, eo36⟩ := Kd.R_slice HO_3.out
       (first | subst eo36 | (injection eo36 with f1_ f2_ f3_; have f4_ := f1_.symm; have f5_ := f3_.symm; clear f1_ f2_ f3_; subst f4_; subst f5_))
       obtain ⟨Ao37, co37, eo37⟩ := Kd.R_slice HO283.out
       (first | subst eo37 | (injection eo37 with f1_ f2_ f3_; have f4_ := f1_.symm; have f5_ := f3_.symm; clear f1_ f2_ f3_; subst f4_; subst f5_))
       obtain ⟨Ao38, co38, eo38⟩ := Kd.R_slice HO286.out
       (first | subst eo38 | (injection eo38 with f1_ f2_ f3_; have f4_ := f1_.symm; have f5_ := f3_.symm; clear f1_ f2_ f3_; subst f4_; subst f5_))
       obtain ⟨Ao39, co39, eo39⟩ := Kd.R_slice HO289.out
       (first | subst eo39 | (injection eo39 with f1_ f2_ f3_; have f4_ := f1_.symm; have f5_ := f3_.symm; clear f1_ f2_ f3_; subst f4_; subst f5_))
       obtain ⟨Ao40, co40, eo40⟩ := Kd.R_slice HO292.out
       (first | subst eo40 | (injection eo40 with f1_ f2_ f3_; have f4_ := f1_.symm; have f5_ := f3_.symm; clear f1_ f2_ f3_; subst f4_; subst f5_))
       obtain ⟨Ao41, co41, eo41⟩ := Kd.R_slice HO295.out
       (first | subst eo41 | (injection eo41 with f1_ f2_ f3_; have f4_ := f1_.symm; have f5_ := f3_.symm; clear f1_ f2_ f3_; subst f4_; subst f5_))
       obtain ⟨Ao42, co42, eo42⟩ := Kd.R_slice HO298.out
       (first | subst eo42 | (injection eo42 with f1_ f2_ f3_; have f4_ := f1_.symm; have f5_ := f3_.symm; clear f1_ f2_ f3_; subst f4_; subst f5_))
       refine hK.out _ _ zS (fun hHeld => ?_); clear hK K; refine zn ?_; refine zo 19 (some 44) (zl 22 1048575) (fun K hK => ?_)
       refine Kd.N_lit_step (Kd.slice 5 (Kd.int .u8)) _ 27 ?hg (N' := 44) ?hd (xs := ([x3_1, t281, t284, t287, t290, t293, t296] : List (List Int))) (inner := [.slice Ao36 x3_1.length co36, .slice Ao37 t281.length co37, .slice Ao38 t284.length co38, .slice Ao39 t287.length co39, .slice Ao40 t290.length co40, .slice Ao41 t293.length co41, .slice Ao42 t296.length co42]) (ok := (fun k_ => k_ ≠ gb273 ∧ k_ ≠ gb279 ∧ k_ ≠ gb280)) (okp := (fun k_ => k_ ≠ gb273 ∧ k_ ≠ gb279 ∧ k_ ≠ gb280)) ?hr ?hp (fun _ hk => hk) ((show ∀ k_, w35.heap.size ≤ k_ → (fun k_ => k_ ≠ gb273 ∧ k_ ≠ gb279 ∧ k_ ≠ gb280) k_ from fun k_ hk => ⟨Kd.freshB (g := gb273) (o := .cells #[.slice (some ad278) l0_0.length c0_0, .slice A0_1 l0_1.length c0_1] 32 (0, 0)) (zb BK273) k_ hk, Kd.freshB (g := gb279) (o := .cells #[.int .i64 ((rd_T68 l0_0 x19_1).f0), .int .i64 ((rd_T68 l0_0 x19_1).f1.f0), .int .i64 ((rd_T68 l0_0 x19_1).f1.f1), .int .i64 ((rd_T68 l0_0 x19_1).f1.f2), .int .i64 ((rd_T68 l0_0 x19_1).f1.f3), .string ((rd_T68 l0_0 x19_1).f1.f4)] 68 (0, 0)) (zb BK279) k_ hk, Kd.freshB (g := gb280) (o := .cells #[.int .i64 ((rd_T68 l0_0 x19_1).f1.f0), .int .i64 ((rd_T68 l0_0 x19_1).f1.f1), .int .i64 ((rd_T68 l0_0 x19_1).f1.f2), .int .i64 ((rd_T68 l0_0 x19_1).f1.f3), .string ((rd_T68 l0_0 x19_1).f1.f4)] 66 (0, 0)) (zb BK280) k_ hk⟩) _ (Nat.le_refl _)) (Below.refl _ _) (Nat.le_refl _) (by simp) ?_; (case hd => rfl); (case hg => rfl); (case hr => first | (go_simp; done) | (go_simp; rfl)); (case hp => exact (Reps.one (show Kd.FK (Kd.slice 5 (Kd.int .u8)) _ _ x3_1 [.slice Ao36 x3_1.length co36] from (Kd.FK_slice_mk (Kd.R_reads' (Kd.R_mono (ok' := (fun k_ => k_ ≠ gb273 ∧ k_ ≠ gb279 ∧ k_ ≠ gb280)) (Kd.R_types (Kd.R_types (Kd.R_types (HO_3.out) BK273.out (by decide)) BK279.out (by decide)) BK280.out (by decide)) (fun k_ hk => ⟨hk.1.1.2, ⟨hk.1.2, hk.2⟩⟩))).2.1 (Kd.R_F (Kd.R_mono (ok' := (fun k_ => k_ ≠ gb273 ∧ k_ ≠ gb279 ∧ k_ ≠ gb280)) (Kd.R_types (Kd.R_types (Kd.R_types (HO_3.out) BK273.out (by decide)) BK279.out (by decide)) BK280.out (by decide)) (fun k_ hk => ⟨hk.1.1.2, ⟨hk.1.2, hk.2⟩⟩))))) (Reps.one (show Kd.FK (Kd.slice 5 (Kd.int .u8)) _ _ t281 [.slice Ao37 t281.length co37] from (Kd.FK_slice_mk (Kd.R_reads' (Kd.R_mono (ok' := (fun k_ => k_ ≠ gb273 ∧ k_ ≠ gb279 ∧ k_ ≠ gb280)) (Kd.R_types (Kd.R_types (Kd.R_types (HO283.out) BK273.out (by decide)) BK279.out (by decide)) BK280.out (by decide)) (fun k_ hk => ⟨hk.1.1.2, ⟨hk.1.2, hk.2⟩⟩))).2.1 (Kd.R_F (Kd.R_mono (ok' := (fun k_ => k_ ≠ gb273 ∧ k_ ≠ gb279 ∧ k_ ≠ gb280)) (Kd.R_types (Kd.R_types (Kd.R_types (HO283.out) BK273.out (by decide)) BK279.out (by decide)) BK280.out (by decide)) (fun k_ hk => ⟨hk.1.1.2, ⟨hk.1.2, hk.2⟩⟩))))) (Reps.one (show Kd.FK (Kd.slice 5 (Kd.int .u8)) _ _ t284 [.slice Ao38 t284.length co38] from (Kd.FK_slice_mk (Kd.R_reads' (Kd.R_mono (ok' := (fun k_ => k_ ≠ gb273 ∧ k_ ≠ gb279 ∧ k_ ≠ gb280)) (Kd.R_types (Kd.R_types (Kd.R_types (HO286.out) BK273.out (by decide)) BK279.out (by decide)) BK280.out (by decide)) (fun k_ hk => ⟨hk.1.1.2, ⟨hk.1.2, hk.2⟩⟩))).2.1 (Kd.R_F (Kd.R_mono (ok' := (fun k_ => k_ ≠ gb273 ∧ k_ ≠ gb279 ∧ k_ ≠ gb280)) (Kd.R_types (Kd.R_types (Kd.R_types (HO286.out) BK273.out (by decide)) BK279.out (by decide)) BK280.out (by decide)) (fun k_ hk => ⟨hk.1.1.2, ⟨hk.1.2, hk.2⟩⟩))))) (Reps.one (show Kd.FK (Kd.slice 5 (Kd.int .u8)) _ _ t287 [.slice Ao39 t287.length co39] from (Kd.FK_slice_mk (Kd.R_reads' (Kd.R_mono (ok' := (fun k_ => k_ ≠ gb273 ∧ k_ ≠ gb279 ∧ k_ ≠ gb280)) (Kd.R_types (Kd.R_types (Kd.R_types (HO289.out) BK273.out (by decide)) BK279.out (by decide)) BK280.out (by decide)) (fun k_ hk => ⟨hk.1.1.2, ⟨hk.1.2, hk.2⟩⟩))).2.1 (Kd.R_F (Kd.R_mono (ok' := (fun k_ => k_ ≠ gb273 ∧ k_ ≠ gb279 ∧ k_ ≠ gb280)) (Kd.R_types (Kd.R_types (Kd.R_types (HO289.out) BK273.out (by decide)) BK279.out (by decide)) BK280.out (by decide)) (fun k_ hk => ⟨hk.1.1.2, ⟨hk.1.2, hk.2⟩⟩))))) (Reps.one (show Kd.FK (Kd.slice 5 (Kd.int .u8)) _ _ t290 [.slice Ao40 t290.length co40] from (Kd.FK_slice_mk (Kd.R_reads' (Kd.R_mono (ok' := (fun k_ => k_ ≠ gb273 ∧ k_ ≠ gb279 ∧ k_ ≠ gb280)) (Kd.R_types (Kd.R_types (Kd.R_types (HO292.out) BK273.out (by decide)) BK279.out (by decide)) BK280.out (by decide)) (fun k_ hk => ⟨hk.1.1.2, ⟨hk.1.2, hk.2⟩⟩))).2.1 (Kd.R_F (Kd.R_mono (ok' := (fun k_ => k_ ≠ gb273 ∧ k_ ≠ gb279 ∧ k_ ≠ gb280)) (Kd.R_types (Kd.R_types (Kd.R_types (HO292.out) BK273.out (by decide)) BK279.out (by decide)) BK280.out (by decide)) (fun k_ hk => ⟨hk.1.1.2, ⟨hk.1.2, hk.2⟩⟩))))) (Reps.one (show Kd.FK (Kd.slice 5 (Kd.int .u8)) _ _ t293 [.slice Ao41 t293.length co41] from (Kd.FK_slice_mk (Kd.R_reads' (Kd.R_mono (ok' := (fun k_ => k_ ≠ gb273 ∧ k_ ≠ gb279 ∧ k_ ≠ gb280)) (Kd.R_types (Kd.R_types (Kd.R_types (HO295.out) BK273.out (by decide)) BK279.out (by decide)) BK280.out (by decide)) (fun k_ hk => ⟨hk.1.1.2, ⟨hk.1.2, hk.2⟩⟩))).2.1 (Kd.R_F (Kd.R_mono (ok' := (fun k_ => k_ ≠ gb273 ∧ k_ ≠ gb279 ∧ k_ ≠ gb280)) (Kd.R_types (Kd.R_types (Kd.R_types (HO295.out) BK273.out (by decide)) BK279.out (by decide)) BK280.out (by decide)) (fun k_ hk => ⟨hk.1.1.2, ⟨hk.1.2, hk.2⟩⟩))))) (Reps.one (show Kd.FK (Kd.slice 5 (Kd.int .u8)) _ _ t296 [.slice Ao42 t296.length co42] from (Kd.FK_slice_mk (Kd.R_reads' (Kd.R_mono (ok' := (fun k_ => k_ ≠ gb273 ∧ k_ ≠ gb279 ∧ k_ ≠ gb280)) (Kd.R_types (Kd.R_types (Kd.R_types (HO298.out) BK273.out (by decide)) BK279.out (by decide)) BK280.out (by decide)) (fun k_ hk => ⟨hk.1.1.2, ⟨hk.1.2, hk.2⟩⟩))).2.1 (Kd.R_F (Kd.R_mono (ok' := (fun k_ => k_ ≠ gb273 ∧ k_ ≠ gb279 ∧ k_ ≠ gb280)) (Kd.R_types (Kd.R_types (Kd.R_types (HO298.out) BK273.out (by decide)) BK279.out (by decide)) BK280.out (by decide)) (fun k_ hk => ⟨hk.1.1.2, ⟨hk.1.2, hk.2⟩⟩))))) (Reps.none _ _)))))))))
       intro v300 w43 ho44 hb hg_ hnew_; clear hg_ hnew_
       (first | rw [← Ny299.out] at ho44 | (simp only [Int.reduceToNat] at ho44; rw [← Ny299.out] at ho44))
       have HO301 := zm (Kd.N_lower ho44 (below_size zB)); replace BK273 := zy BK273 hb; replace BK279 := zy BK279 hb; replace BK280 := zy BK280 hb; replace HB := zm (below_step zB hb); clear HO283 HO286 HO289 HO292 HO295 HO298 HO_3; clear hb ho44; obtain ⟨Ao45, co45, eo45⟩ := Kd.N_slice HO301.out
       (first | subst eo45 | (injection eo45 with f1_ f2_ f3_; have f4_ := f1_.symm; have f5_ := f3_.symm; clear f1_ f2_ f3_; subst f4_; subst f5_))
       refine hK.out _ _ zS (fun hHeld => ?_); clear hK K; refine zn (N := some 44) ?_; refine zo 20 (some 45) (zl 22 2097151) (fun K hK => ?_); refine zgo #[.slice Ao45 y299.length co45] Try.func55 ?_; (with_reducible refine (impl_joined.calls k1 _ _ y299 t302 _ ?side1 ?side2 A20.out).mono ?_)
       (case side1 => repeat (first | exact (Kd.N_reads' HO301.out).2.2 | (with_reducible refine Kd.C_alloc ?_ _) | (with_reducible refine Kd.C_drewN ?_ _) | (with_reducible refine Kd.C_drew ?_)))
       (case side2 => exact (Kd.N_reads' HO301.out).2.1)
       rintro e w46 ⟨v303, rfl, ho0, hb⟩; refine ⟨_, rfl, ?_⟩; replace HO301 := zm (Kd.N_elder' (by (with_reducible repeat (first | apply Kd.N_alloc | apply Kd.N_drewN | apply Kd.N_drew)); exact HO301.out) (Kd.R_base ho0) hb); have HO304 := zm (Kd.R_lower ho0 (below_size zB)); replace BK273 := zy BK273 hb; replace BK279 := zy BK279 hb; replace BK280 := zy BK280 hb; replace HB := zm (below_step zB hb); (try clear hb); (try clear hk); (try clear ho0); refine hK.out _ _ zS (fun hHeld => ?_); clear hK K; refine zn ?_
       refine zu 21 3 22 4194303 ?_
       refine done_ (done_of HT_.out (by kernel_rfl)) ?_
       try go_wp2
       go_roundg k1
       case measure => have := HK1.out; omega
       case rel => exact ⟨(t302), (wrap64 (x19_1 + 1)), zF, H', ⟨by have := HK1.out; omega⟩, ⟨zr HO304⟩, ⟨zb BK273⟩, ⟨zB⟩⟩
      ·rw [if_neg c13] at H
       exact absurd H (by simp)
     ·rw [if_neg c12] at H
      exact absurd H (by simp)
    ·rw [if_neg c11] at H; have c11b0 : decide (x19_1 < (l0_0.length : Int)) = false := decide_eq_false c11; clear c11; replace H := Option.bind_eq_some_iff.mp H; obtain ⟨t305, A470, H⟩ := H; (try dsimp only at H); have A47 := zm A470; clear A470
     obtain ⟨y308, hy308⟩ : ∃ y_ : List (List Int), y_ = (([x3_1, t305] : List (List Int))) := ⟨_, rfl⟩
     replace H : ((impl_joined.f k1 y308).bind fun t311 => (impl_StateBytes.l1 k1 t311 l0_1 (l0_1.length : Int) 0)) = some r := by first | (rw [hy308]; with_reducible exact H) | (have H2_ := (Option.bind_some _ _).symm.trans H; rw [hy308]; with_reducible exact H2_) | (have H2_ := (Option.bind_some _ _).symm.trans H; with_reducible exact H2_) | with_reducible exact H | (rw [hy308]; exact H) | exact H
     have Ny308 := zm hy308; clear hy308; replace H := Option.bind_eq_some_iff.mp H; obtain ⟨t311, A480, H⟩ := H; (try dsimp only at H); have A48 := zm A480; clear A480
     have H' := zm H
     clear H; obtain ⟨hcz49_0, hcz49_1, hfz49_0, hfz49_1⟩ := zc2 BK273
     go_wp2_with (first | (refine zg (some 51) #[.int .i64 (l0_1.length : Int)] Try.func54 ?_; (with_reducible refine (impl_PutNum.calls k1 (l0_1.length : Int) t305 _ A47.out).mono ?_); rintro e w50 ⟨v306, rfl, ho0, hb⟩; refine ⟨_, rfl, ?_⟩; have HO307 := zm (Kd.R_lower (Kd.R_new' ho0 (Kd.R_lt (zr HO_3))) (below_size zB)); replace HO_3 := zm (Kd.R_elder' (zr HO_3) (Kd.R_base ho0) hb); replace BK273 := zy BK273 hb; replace HB := zm (below_step zB hb); clear hb ho0; obtain ⟨Ao51, co51, eo51⟩ := Kd.R_slice HO_3.out; subst eo51; obtain ⟨Ao52, co52, eo52⟩ := Kd.R_slice HO307.out; subst eo52) | ((with_reducible refine gate_dst (N := 52) rfl ?_); refine Kd.N_lit (Kd.slice 5 (Kd.int .u8)) _ 27 ?hg (N' := 52) ?hd (xs := ([x3_1, t305] : List (List Int))) (inner := [.slice Ao51 x3_1.length co51, .slice Ao52 t305.length co52]) (ok := (fun k_ => k_ ≠ gb273)) (okp := (fun k_ => k_ ≠ gb273)) ?hr ?hp (fun _ hk => hk) ((show ∀ k_, w50.heap.size ≤ k_ → (fun k_ => k_ ≠ gb273) k_ from fun k_ hk => Kd.freshB (g := gb273) (o := .cells #[.slice A0_0 l0_0.length c0_0, .slice A0_1 l0_1.length c0_1] 32 (0, 0)) (zb BK273) k_ hk) _ (Nat.le_refl _)) (Below.refl _ _) (Nat.le_refl _) (by simp) ?_; (case hd => rfl); (case hg => rfl); (case hr => first | (go_simp; done) | (go_simp; rfl)); (case hp => exact (Reps.one (show Kd.FK (Kd.slice 5 (Kd.int .u8)) _ _ x3_1 [.slice Ao51 x3_1.length co51] from (Kd.FK_slice_mk (Kd.R_reads' (Kd.R_mono (ok' := (fun k_ => k_ ≠ gb273)) (Kd.R_types (HO_3.out) BK273.out (by decide)) (fun k_ hk => hk.2))).2.1 (Kd.R_F (Kd.R_mono (ok' := (fun k_ => k_ ≠ gb273)) (Kd.R_types (HO_3.out) BK273.out (by decide)) (fun k_ hk => hk.2))))) (Reps.one (show Kd.FK (Kd.slice 5 (Kd.int .u8)) _ _ t305 [.slice Ao52 t305.length co52] from (Kd.FK_slice_mk (Kd.R_reads' (Kd.R_mono (ok' := (fun k_ => k_ ≠ gb273)) (Kd.R_types (HO307.out) BK273.out (by decide)) (fun k_ hk => hk.2))).2.1 (Kd.R_F (Kd.R_mono (ok' := (fun k_ => k_ ≠ gb273)) (Kd.R_types (HO307.out) BK273.out (by decide)) (fun k_ hk => hk.2))))) (Reps.none _ _)))); intro v309 w53 ho54 hb hg_ hnew_; clear hg_ hnew_; (first | rw [← Ny308.out] at ho54 | (simp only [Int.reduceToNat] at ho54; rw [← Ny308.out] at ho54)); have HO310 := zm (Kd.N_lower ho54 (below_size zB)); replace BK273 := zy BK273 hb; replace HB := zm (below_step zB hb); clear HO307 HO_3; clear hb ho54; obtain ⟨Ao55, co55, eo55⟩ := Kd.N_slice HO310.out; subst eo55) | (refine zg (some 53) #[.slice Ao55 y308.length co55] Try.func55 ?_; (with_reducible refine (impl_joined.calls k1 _ _ y308 t311 _ ?side1 ?side2 A48.out).mono ?_); (case side1 => repeat (first | exact (Kd.N_reads' HO310.out).2.2 | (with_reducible refine Kd.C_alloc ?_ _) | (with_reducible refine Kd.C_drewN ?_ _) | (with_reducible refine Kd.C_drew ?_))); (case side2 => exact (Kd.N_reads' HO310.out).2.1); rintro e w56 ⟨v312, rfl, ho0, hb⟩; refine ⟨_, rfl, ?_⟩; replace HO310 := zm (Kd.N_elder' (by (with_reducible repeat (first | apply Kd.N_alloc | apply Kd.N_drewN | apply Kd.N_drew)); exact HO310.out) (Kd.R_base ho0) hb); have HO313 := zm (Kd.R_lower ho0 (below_size zB)); replace BK273 := zy BK273 hb; replace HB := zm (below_step zB hb); clear hb ho0; obtain ⟨hcz57_0, hcz57_1, hfz57_0, hfz57_1⟩ := zc2 BK273))
     go_loopg [3, 57] k1 (fun kq v3 v57 w' => ∃ (x3_2 : List Int) (x57_2 : Int), v57 = .int .i64 x57_2 ∧ Aside0 (impl_StateBytes.l1 kq x3_2 l0_1 (l0_1.length : Int) x57_2 = some r) ∧ Aside0 (kq ≤ k1) ∧ Aside0 (Kd.R (Kd.int .u8) 5 w' w.heap.size (fun _ => True) v3 x3_2) ∧ Aside0 (w'.heap[gb273]? = some (.cells #[(.slice A0_0 l0_0.length c0_0), (.slice A0_1 l0_1.length c0_1)] 32 (0, 0))) ∧ Aside0 (Below w.heap.size w w'))
     case atStart => exact ⟨(t311), (0), zF, H', ⟨Nat.le_refl _⟩, ⟨zr HO313⟩, ⟨zb BK273⟩, ⟨zB⟩⟩
     case round =>
      clear H'; (try clear c11); (try clear c11b0); (try clear hcz49_0); (try clear hcz49_1); (try clear hcz57_0); (try clear hcz57_1); (try clear hfz49_0); (try clear hfz49_1); (try clear hfz57_0); (try clear hfz57_1); obtain ⟨x3_2, x57_2, rfl, HA, HK2, HO_3, BK273, HB⟩ := hrel
      cases gk with
      | zero => exact absurd HA.out (by simp [impl_StateBytes.l1])
      | succ k2 =>
       have H := HA.out; clear HA; simp only [impl_StateBytes.l1] at H
       by_cases c58 : x57_2 < (l0_1.length : Int)
       ·rw [if_pos c58] at H; have c58b0 : decide (x57_2 < (l0_1.length : Int)) = true := decide_eq_true c58; clear c58
        by_cases c59 : 0 ≤ x57_2
        ·rw [if_pos c59] at H; have c59b0 : decide (0 ≤ x57_2) = true := decide_eq_true c59; clear c59
         by_cases c60 : x57_2 < (l0_1.length : Int)
         ·rw [if_pos c60] at H; have c60b0 : decide (x57_2 < (l0_1.length : Int)) = true := decide_eq_true c60; clear c60; replace H := Option.bind_eq_some_iff.mp H; obtain ⟨t316, A610, H⟩ := H; (try dsimp only at H); have A61 := zm A610; clear A610; replace H := Option.bind_eq_some_iff.mp H; obtain ⟨t319, A620, H⟩ := H; (try dsimp only at H); have A62 := zm A620; clear A620
          obtain ⟨y322, hy322⟩ : ∃ y_ : List (List Int), y_ = (([x3_2, t316, t319] : List (List Int))) := ⟨_, rfl⟩
          replace H : ((impl_joined.f k2 y322).bind fun t325 => (impl_StateBytes.l1 k2 t325 l0_1 (l0_1.length : Int) (wrap64 (x57_2 + 1)))) = some r := by first | (rw [hy322]; with_reducible exact H) | (have H2_ := (Option.bind_some _ _).symm.trans H; rw [hy322]; with_reducible exact H2_) | (have H2_ := (Option.bind_some _ _).symm.trans H; with_reducible exact H2_) | with_reducible exact H | (rw [hy322]; exact H) | exact H
          have Ny322 := zm hy322; clear hy322; replace H := Option.bind_eq_some_iff.mp H; obtain ⟨t325, A630, H⟩ := H; (try dsimp only at H); have A63 := zm A630; clear A630
          have H' := zm H
          clear H; have p314 : 0 ≤ (x57_2 : Int) := zd; have q314 : x57_2 < (l0_1.length : Int) := zd; obtain ⟨ad314, e314, hx314_0, hx314_1⟩ := at_T72 (Kd.C_below HR0_1.out HB.out) x57_2 p314 q314; cases e314; replace p314 := eq_true p314; replace q314 := eq_true q314
          try go_wp2_with (first | (refine zbox 8 #[.int .i64 0, .int .i64 0] 72 ?_; intro gb315 hg w64 hbox hb; replace HO_3 := zw HO_3 hb; have BK315 := zm (hbox); have GW315 := zge w hg zB; have GE315 := zge w hg zB; replace HB := zm (below_step zB hb); have NB273_315 := zlt hg (zb BK273); have NB315_273 := zgt hg (zb BK273); replace BK273 := zy BK273 hb; clear hb hbox hg; have hnb65 := NB315_273.out; have hnc65 := NB273_315.out; obtain ⟨hcz66_0, hcz66_1, hfz66_0, hfz66_1⟩ := zc2 BK315))
          obtain ⟨w67, hW_⟩ : ∃ q, q = ((w64.setCell ⟨gb315, 0, none⟩ (.int .i64 ((rd_T72 l0_1 x57_2).f0))).setCell ⟨gb315, 1, none⟩ (.int .i64 ((rd_T72 l0_1 x57_2).f1))) := ⟨_, rfl⟩
          have n0_ : Aside0 (Kd.R (Kd.int .u8) 5 w67 w.heap.size (fun _ => True) u3 x3_2) := ⟨by rw [hW_]; exact zrs <| Kd.R_mono (zfr (zfr (Kd.R_types HO_3.out BK315.out (by decide)))) (fun _ hk => trivial)⟩; have n1_ : Aside0 (w67.heap[gb273]? = some (.cells #[.slice A0_0 l0_0.length c0_0, .slice (some ad314) l0_1.length c0_1] 32 (0, 0))) := ⟨by rw [hW_]; exact zfar (zfar (zb BK273) NB273_315) NB273_315⟩; have n2_ : Aside0 (w67.heap[gb315]? = some (.cells #[.int .i64 ((rd_T72 l0_1 x57_2).f0), .int .i64 ((rd_T72 l0_1 x57_2).f1)] 72 (0, 0))) := ⟨by rw [hW_]; exact zput (zput (zb BK315) 0) 1⟩; have n3_ : Aside0 (Below w.heap.size w w67) := ⟨by rw [hW_]; exact zB⟩
          rw [← hW_]
          clear hW_; (try clear HO_3); (try clear BK273); (try clear BK315); (try clear HB); have HO_3 := n0_; have BK273 := n1_; have BK315 := n2_; have HB := n3_; clear n0_ n1_ n2_ n3_; replace HO_3 := zm (Kd.R_drew HO_3.out); replace BK273 := zq BK273; replace BK315 := zq BK315; replace HB := zm (below_drew1 HB.out)
          refine start_ (n := 10) (S := fun w' => w'.cell? ⟨gb315, 0, none⟩ = some (.int .i64 ((rd_T72 l0_1 x57_2).f0)) ∧ w'.cell? ⟨gb315, 1, none⟩ = some (.int .i64 ((rd_T72 l0_1 x57_2).f1))) (ds := []) (zl 10 0) (by kernel_rfl) rfl rfl zS (fun hHeld => ?_); refine with_tabW impl_StateBytes.tab14 impl_StateBytes.bits14 (fun HT_ HW_ => ?_)
          generalize w67.drew = w68 at HO_3 BK273 BK315 HB hHeld ⊢
          refine zu 0 61 10 1 ?_
          refine zu 1 62 10 3 ?_
          refine zu 4 65 10 19 ?_
          refine zv 2 63 10 23 ?_
          refine zv 5 66 10 55 ?_
          refine zo 3 (some 64) (zl 10 63) (fun K hK => ?_); refine zgo #[.int .i64 ((rd_T72 l0_1 x57_2).f0)] Try.func54 ?_; (with_reducible refine (impl_PutNum.calls k2 ((rd_T72 l0_1 x57_2).f0) t316 _ A61.out).mono ?_); rintro e w69 ⟨v317, rfl, ho0, hb⟩; refine ⟨_, rfl, ?_⟩; have HO318 := zm (Kd.R_lower (Kd.R_new' ho0 (Kd.R_lt (zr HO_3))) (below_size zB)); replace HO_3 := zm (Kd.R_elder' (zr HO_3) (Kd.R_base ho0) hb); replace BK273 := zy BK273 hb; replace BK315 := zy BK315 hb; replace HB := zm (below_step zB hb); (try clear hb); (try clear hk); (try clear ho0); refine hK.out _ _ zS (fun hHeld => ?_); clear hK K; refine zn ?_; refine zo 6 (some 67) (zl 10 127) (fun K hK => ?_); refine zgo #[.int .i64 ((rd_T72 l0_1 x57_2).f1)] Try.func54 ?_; (with_reducible refine (impl_PutNum.calls k2 ((rd_T72 l0_1 x57_2).f1) t319 _ A62.out).mono ?_); rintro e w70 ⟨v320, rfl, ho0, hb⟩; refine ⟨_, rfl, ?_⟩; have HO321 := zm (Kd.R_lower (Kd.R_new' (Kd.R_new' ho0 (Kd.R_lt (zr HO_3))) (Kd.R_lt (zr HO318))) (below_size zB)); replace HO_3 := zm (Kd.R_elder' (zr HO_3) (Kd.R_base ho0) hb); replace HO318 := zm (Kd.R_elder' (zr HO318) (Kd.R_base ho0) hb); replace BK273 := zy BK273 hb; replace BK315 := zy BK315 hb; replace HB := zm (below_step zB hb); (try clear hb); (try clear hk); (try clear ho0); obtain ⟨Ao71, co71, eo71⟩ := Kd.R_slice HO_3.out
          (first | subst eo71 | (injection eo71 with f1_ f2_ f3_; have f4_ := f1_.symm; have f5_ := f3_.symm; clear f1_ f2_ f3_; subst f4_; subst f5_))
          obtain ⟨Ao72, co72, eo72⟩ := Kd.R_slice HO318.out
          (first | subst eo72 | (injection eo72 with f1_ f2_ f3_; have f4_ := f1_.symm; have f5_ := f3_.symm; clear f1_ f2_ f3_; subst f4_; subst f5_))
          obtain ⟨Ao73, co73, eo73⟩ := Kd.R_slice HO321.out
          (first | subst eo73 | (injection eo73 with f1_ f2_ f3_; have f4_ := f1_.symm; have f5_ := f3_.symm; clear f1_ f2_ f3_; subst f4_; subst f5_))
          refine hK.out _ _ zS (fun hHeld => ?_); clear hK K; refine zn ?_; refine zo 7 (some 68) (zl 10 255) (fun K hK => ?_)
          refine Kd.N_lit_step (Kd.slice 5 (Kd.int .u8)) _ 27 ?hg (N' := 68) ?hd (xs := ([x3_2, t316, t319] : List (List Int))) (inner := [.slice Ao71 x3_2.length co71, .slice Ao72 t316.length co72, .slice Ao73 t319.length co73]) (ok := (fun k_ => k_ ≠ gb273 ∧ k_ ≠ gb315)) (okp := (fun k_ => k_ ≠ gb273 ∧ k_ ≠ gb315)) ?hr ?hp (fun _ hk => hk) ((show ∀ k_, w70.heap.size ≤ k_ → (fun k_ => k_ ≠ gb273 ∧ k_ ≠ gb315) k_ from fun k_ hk => ⟨Kd.freshB (g := gb273) (o := .cells #[.slice A0_0 l0_0.length c0_0, .slice (some ad314) l0_1.length c0_1] 32 (0, 0)) (zb BK273) k_ hk, Kd.freshB (g := gb315) (o := .cells #[.int .i64 ((rd_T72 l0_1 x57_2).f0), .int .i64 ((rd_T72 l0_1 x57_2).f1)] 72 (0, 0)) (zb BK315) k_ hk⟩) _ (Nat.le_refl _)) (Below.refl _ _) (Nat.le_refl _) (by simp) ?_; (case hd => rfl); (case hg => rfl); (case hr => first | (go_simp; done) | (go_simp; rfl)); (case hp => exact (Reps.one (show Kd.FK (Kd.slice 5 (Kd.int .u8)) _ _ x3_2 [.slice Ao71 x3_2.length co71] from (Kd.FK_slice_mk (Kd.R_reads' (Kd.R_mono (ok' := (fun k_ => k_ ≠ gb273 ∧ k_ ≠ gb315)) (Kd.R_types (Kd.R_types (HO_3.out) BK273.out (by decide)) BK315.out (by decide)) (fun k_ hk => ⟨hk.1.2, hk.2⟩))).2.1 (Kd.R_F (Kd.R_mono (ok' := (fun k_ => k_ ≠ gb273 ∧ k_ ≠ gb315)) (Kd.R_types (Kd.R_types (HO_3.out) BK273.out (by decide)) BK315.out (by decide)) (fun k_ hk => ⟨hk.1.2, hk.2⟩))))) (Reps.one (show Kd.FK (Kd.slice 5 (Kd.int .u8)) _ _ t316 [.slice Ao72 t316.length co72] from (Kd.FK_slice_mk (Kd.R_reads' (Kd.R_mono (ok' := (fun k_ => k_ ≠ gb273 ∧ k_ ≠ gb315)) (Kd.R_types (Kd.R_types (HO318.out) BK273.out (by decide)) BK315.out (by decide)) (fun k_ hk => ⟨hk.1.2, hk.2⟩))).2.1 (Kd.R_F (Kd.R_mono (ok' := (fun k_ => k_ ≠ gb273 ∧ k_ ≠ gb315)) (Kd.R_types (Kd.R_types (HO318.out) BK273.out (by decide)) BK315.out (by decide)) (fun k_ hk => ⟨hk.1.2, hk.2⟩))))) (Reps.one (show Kd.FK (Kd.slice 5 (Kd.int .u8)) _ _ t319 [.slice Ao73 t319.length co73] from (Kd.FK_slice_mk (Kd.R_reads' (Kd.R_mono (ok' := (fun k_ => k_ ≠ gb273 ∧ k_ ≠ gb315)) (Kd.R_types (Kd.R_types (HO321.out) BK273.out (by decide)) BK315.out (by decide)) (fun k_ hk => ⟨hk.1.2, hk.2⟩))).2.1 (Kd.R_F (Kd.R_mono (ok' := (fun k_ => k_ ≠ gb273 ∧ k_ ≠ gb315)) (Kd.R_types (Kd.R_types (HO321.out) BK273.out (by decide)) BK315.out (by decide)) (fun k_ hk => ⟨hk.1.2, hk.2⟩))))) (Reps.none _ _)))))
          intro v323 w74 ho75 hb hg_ hnew_; clear hg_ hnew_
          (first | rw [← Ny322.out] at ho75 | (simp only [Int.reduceToNat] at ho75; rw [← Ny322.out] at ho75))
          have HO324 := zm (Kd.N_lower ho75 (below_size zB)); replace BK273 := zy BK273 hb; replace BK315 := zy BK315 hb; replace HB := zm (below_step zB hb); clear HO318 HO321 HO_3; clear hb ho75; obtain ⟨Ao76, co76, eo76⟩ := Kd.N_slice HO324.out
          (first | subst eo76 | (injection eo76 with f1_ f2_ f3_; have f4_ := f1_.symm; have f5_ := f3_.symm; clear f1_ f2_ f3_; subst f4_; subst f5_))
          refine hK.out _ _ zS (fun hHeld => ?_); clear hK K; refine zn (N := some 68) ?_; refine zo 8 (some 69) (zl 10 511) (fun K hK => ?_); refine zgo #[.slice Ao76 y322.length co76] Try.func55 ?_; (with_reducible refine (impl_joined.calls k2 _ _ y322 t325 _ ?side1 ?side2 A63.out).mono ?_)
          (case side1 => repeat (first | exact (Kd.N_reads' HO324.out).2.2 | (with_reducible refine Kd.C_alloc ?_ _) | (with_reducible refine Kd.C_drewN ?_ _) | (with_reducible refine Kd.C_drew ?_)))
          (case side2 => exact (Kd.N_reads' HO324.out).2.1)
          rintro e w77 ⟨v326, rfl, ho0, hb⟩; refine ⟨_, rfl, ?_⟩; replace HO324 := zm (Kd.N_elder' (by (with_reducible repeat (first | apply Kd.N_alloc | apply Kd.N_drewN | apply Kd.N_drew)); exact HO324.out) (Kd.R_base ho0) hb); have HO327 := zm (Kd.R_lower ho0 (below_size zB)); replace BK273 := zy BK273 hb; replace BK315 := zy BK315 hb; replace HB := zm (below_step zB hb); (try clear hb); (try clear hk); (try clear ho0); refine hK.out _ _ zS (fun hHeld => ?_); clear hK K; refine zn ?_
          refine zu 9 3 10 1023 ?_
          refine done_ (done_of HT_.out (by kernel_rfl)) ?_
          try go_wp2
          go_roundg k2
          case measure => have := HK1.out; have := HK2.out; omega
          case rel => exact ⟨(t325), (wrap64 (x57_2 + 1)), zF, H', ⟨by have := HK1.out; have := HK2.out; omega⟩, ⟨zr HO327⟩, ⟨zb BK273⟩, ⟨zB⟩⟩
         ·rw [if_neg c60] at H
          exact absurd H (by simp)
        ·rw [if_neg c59] at H
         exact absurd H (by simp)
       ·rw [if_neg c58] at H; have c58b0 : decide (x57_2 < (l0_1.length : Int)) = false := decide_eq_false c58; clear c58; obtain rfl := Option.some.inj H
        go_wp2
        go_ret
        exact ⟨_, zE, zr HO_3, zB⟩
 ·replace c3 := Bool.eq_false_iff.mpr c3; subst c3; rw [zff] at H; obtain rfl := Option.some.inj H; go_enter Try.func16, Try.ntmps16
  go_wp2_with (first | (refine zbox 1 #[.slice A0_0 l0_0.length c0_0, .slice A0_1 l0_1.length c0_1] 32 ?_; intro gb273 hg w78 hbox hb; have BK273 := zm (hbox); have GW273 := zge w hg zB; have GE273 := zge w hg zB; replace HB := zm (below_step zB hb); clear hb hbox hg; obtain ⟨hcz79_0, hcz79_1, hfz79_0, hfz79_1⟩ := zc2 BK273) | (refine zg (some 10) #[.agg #[.slice A0_0 l0_0.length c0_0, .slice A0_1 l0_1.length c0_1]] Try.func53 ?_; (with_reducible refine (impl_StateOk.calls k _ _ l0_0 _ _ l0_1 false _ (zk (Kd.C_below HR0_0.out HB.out)) HC0_0.out (zk (Kd.C_below HR0_1.out HB.out)) HC0_1.out A2.out).mono ?_); rintro e w80 ⟨rfl, hb⟩; refine ⟨_, rfl, ?_⟩; replace BK273 := zy BK273 hb; replace HB := zm (below_step zB hb); clear hb))
  go_ret
  exact ⟨_, zE, znil, zB⟩

/-! ### laws_eqEntry: function 111 -/
def laws_eqEntry.f (a0_0 : Int) (a0_1 : Int) (a0_2 : Int) (a0_3 : Int) (a0_4 : ByteArray) (a1_0 : Int) (a1_1 : Int) (a1_2 : Int) (a1_3 : Int) (a1_4 : ByteArray) : Option (Bool) := if a0_0 = a1_0 then (if a0_1 = a1_1 then (if a0_2 = a1_2 then (if a0_3 = a1_3 then (if a0_4.toList = a1_4.toList then (some true) else (some false)) else (some false)) else (some false)) else (some false)) else (some false)
set_option maxHeartbeats 8000000 in
set_option maxRecDepth 100000 in
theorem laws_eqEntry.calls (a0_0 : Int) (a0_1 : Int) (a0_2 : Int) (a0_3 : Int) (a0_4 : ByteArray) (a1_0 : Int) (a1_1 : Int) (a1_2 : Int) (a1_3 : Int) (a1_4 : ByteArray) (r : Bool) (w : World) (h : laws_eqEntry.f a0_0 a0_1 a0_2 a0_3 a0_4 a1_0 a1_1 a1_2 a1_3 a1_4 = some r) :
  Calls Try.prog 111 #[.agg #[.int .i64 a0_0, .int .i64 a0_1, .int .i64 a0_2, .int .i64 a0_3, .string a0_4], .agg #[.int .i64 a1_0, .int .i64 a1_1, .int .i64 a1_2, .int .i64 a1_3, .string a1_4]] w fun e w' => e = .returned (.bool r) ∧ Below w.heap.size w w' := by
 have hu66 := Try.underlying66; have HB := zm (Below.refl w.heap.size w); have H : (if a0_0 = a1_0 then (if a0_1 = a1_1 then (if a0_2 = a1_2 then (if a0_3 = a1_3 then (if a0_4.toList = a1_4.toList then (some true) else (some false)) else (some false)) else (some false)) else (some false)) else (some false)) = some r := h; clear h
 by_cases c3 : a0_0 = a1_0
 ·rw [if_pos c3] at H; have c3b0 : (a0_0 == a1_0) = true := beq_iff_eq.mpr c3; have c3b1 : (a0_0 != a1_0) = false := bne_eq_false_iff_eq.mpr c3; clear c3
  by_cases c4 : a0_1 = a1_1
  ·rw [if_pos c4] at H; have c4b0 : (a0_1 == a1_1) = true := beq_iff_eq.mpr c4; have c4b1 : (a0_1 != a1_1) = false := bne_eq_false_iff_eq.mpr c4; clear c4
   by_cases c5 : a0_2 = a1_2
   ·rw [if_pos c5] at H; have c5b0 : (a0_2 == a1_2) = true := beq_iff_eq.mpr c5; have c5b1 : (a0_2 != a1_2) = false := bne_eq_false_iff_eq.mpr c5; clear c5
    by_cases c6 : a0_3 = a1_3
    ·rw [if_pos c6] at H; have c6b0 : (a0_3 == a1_3) = true := beq_iff_eq.mpr c6; have c6b1 : (a0_3 != a1_3) = false := bne_eq_false_iff_eq.mpr c6; clear c6
     by_cases c7 : a0_4.toList = a1_4.toList
     ·rw [if_pos c7] at H; have c7b0 : (a0_4.toList == a1_4.toList) = true := beq_iff_eq.mpr c7; have c7b1 : (a0_4.toList != a1_4.toList) = false := bne_eq_false_iff_eq.mpr c7; clear c7; obtain rfl := Option.some.inj H; go_enter Try.func111, Try.ntmps111
      go_wp2_with (first | (refine zbox 2 #[.int .i64 a0_0, .int .i64 a0_1, .int .i64 a0_2, .int .i64 a0_3, .string a0_4] 66 ?_; intro gb330 hg w8 hbox hb; have BK330 := zm (hbox); have GW330 := zge w hg zB; have GE330 := zge w hg zB; replace HB := zm (below_step zB hb); clear hb hbox hg) | (refine zbox 3 #[.int .i64 a1_0, .int .i64 a1_1, .int .i64 a1_2, .int .i64 a1_3, .string a1_4] 66 ?_; intro gb331 hg w9 hbox hb; have BK331 := zm (hbox); have GW331 := zge w hg zB; have GE331 := zge w hg zB; replace HB := zm (below_step zB hb); have NB330_331 := zlt hg (zb BK330); have NB331_330 := zgt hg (zb BK330); replace BK330 := zy BK330 hb; clear hb hbox hg; have hnb10 := NB330_331.out; have hnc10 := NB331_330.out; obtain ⟨hcz11_0, hcz11_1, hcz11_2, hcz11_3, hcz11_4, hfz11_0, hfz11_1, hfz11_2, hfz11_3, hfz11_4⟩ := zc5 BK330; obtain ⟨hcz12_0, hcz12_1, hcz12_2, hcz12_3, hcz12_4, hfz12_0, hfz12_1, hfz12_2, hfz12_3, hfz12_4⟩ := zc5 BK331))
      go_ret
      exact ⟨zE, zB⟩
     ·rw [if_neg c7] at H; have c7b0 : (a0_4.toList == a1_4.toList) = false := beq_eq_false_iff_ne.mpr c7; have c7b1 : (a0_4.toList != a1_4.toList) = true := bne_iff_ne.mpr c7; obtain rfl := Option.some.inj H; go_enter Try.func111, Try.ntmps111
      go_wp2_with (first | (refine zbox 2 #[.int .i64 a0_0, .int .i64 a0_1, .int .i64 a0_2, .int .i64 a0_3, .string a0_4] 66 ?_; intro gb330 hg w13 hbox hb; have BK330 := zm (hbox); have GW330 := zge w hg zB; have GE330 := zge w hg zB; replace HB := zm (below_step zB hb); clear hb hbox hg) | (refine zbox 3 #[.int .i64 a1_0, .int .i64 a1_1, .int .i64 a1_2, .int .i64 a1_3, .string a1_4] 66 ?_; intro gb331 hg w14 hbox hb; have BK331 := zm (hbox); have GW331 := zge w hg zB; have GE331 := zge w hg zB; replace HB := zm (below_step zB hb); have NB330_331 := zlt hg (zb BK330); have NB331_330 := zgt hg (zb BK330); replace BK330 := zy BK330 hb; clear hb hbox hg; have hnb15 := NB330_331.out; have hnc15 := NB331_330.out; obtain ⟨hcz16_0, hcz16_1, hcz16_2, hcz16_3, hcz16_4, hfz16_0, hfz16_1, hfz16_2, hfz16_3, hfz16_4⟩ := zc5 BK330; obtain ⟨hcz17_0, hcz17_1, hcz17_2, hcz17_3, hcz17_4, hfz17_0, hfz17_1, hfz17_2, hfz17_3, hfz17_4⟩ := zc5 BK331))
      go_ret
      exact ⟨zE, zB⟩
    ·rw [if_neg c6] at H; have c6b0 : (a0_3 == a1_3) = false := beq_eq_false_iff_ne.mpr c6; have c6b1 : (a0_3 != a1_3) = true := bne_iff_ne.mpr c6; obtain rfl := Option.some.inj H; go_enter Try.func111, Try.ntmps111
     go_wp2_with (first | (refine zbox 2 #[.int .i64 a0_0, .int .i64 a0_1, .int .i64 a0_2, .int .i64 a0_3, .string a0_4] 66 ?_; intro gb330 hg w18 hbox hb; have BK330 := zm (hbox); have GW330 := zge w hg zB; have GE330 := zge w hg zB; replace HB := zm (below_step zB hb); clear hb hbox hg) | (refine zbox 3 #[.int .i64 a1_0, .int .i64 a1_1, .int .i64 a1_2, .int .i64 a1_3, .string a1_4] 66 ?_; intro gb331 hg w19 hbox hb; have BK331 := zm (hbox); have GW331 := zge w hg zB; have GE331 := zge w hg zB; replace HB := zm (below_step zB hb); have NB330_331 := zlt hg (zb BK330); have NB331_330 := zgt hg (zb BK330); replace BK330 := zy BK330 hb; clear hb hbox hg; have hnb20 := NB330_331.out; have hnc20 := NB331_330.out; obtain ⟨hcz21_0, hcz21_1, hcz21_2, hcz21_3, hcz21_4, hfz21_0, hfz21_1, hfz21_2, hfz21_3, hfz21_4⟩ := zc5 BK330; obtain ⟨hcz22_0, hcz22_1, hcz22_2, hcz22_3, hcz22_4, hfz22_0, hfz22_1, hfz22_2, hfz22_3, hfz22_4⟩ := zc5 BK331))
     go_ret
     exact ⟨zE, zB⟩
   ·rw [if_neg c5] at H; have c5b0 : (a0_2 == a1_2) = false := beq_eq_false_iff_ne.mpr c5; have c5b1 : (a0_2 != a1_2) = true := bne_iff_ne.mpr c5; obtain rfl := Option.some.inj H; go_enter Try.func111, Try.ntmps111
    go_wp2_with (first | (refine zbox 2 #[.int .i64 a0_0, .int .i64 a0_1, .int .i64 a0_2, .int .i64 a0_3, .string a0_4] 66 ?_; intro gb330 hg w23 hbox hb; have BK330 := zm (hbox); have GW330 := zge w hg zB; have GE330 := zge w hg zB; replace HB := zm (below_step zB hb); clear hb hbox hg) | (refine zbox 3 #[.int .i64 a1_0, .int .i64 a1_1, .int .i64 a1_2, .int .i64 a1_3, .string a1_4] 66 ?_; intro gb331 hg w24 hbox hb; have BK331 := zm (hbox); have GW331 := zge w hg zB; have GE331 := zge w hg zB; replace HB := zm (below_step zB hb); have NB330_331 := zlt hg (zb BK330); have NB331_330 := zgt hg (zb BK330); replace BK330 := zy BK330 hb; clear hb hbox hg; have hnb25 := NB330_331.out; have hnc25 := NB331_330.out; obtain ⟨hcz26_0, hcz26_1, hcz26_2, hcz26_3, hcz26_4, hfz26_0, hfz26_1, hfz26_2, hfz26_3, hfz26_4⟩ := zc5 BK330; obtain ⟨hcz27_0, hcz27_1, hcz27_2, hcz27_3, hcz27_4, hfz27_0, hfz27_1, hfz27_2, hfz27_3, hfz27_4⟩ := zc5 BK331))
    go_ret
    exact ⟨zE, zB⟩
  ·rw [if_neg c4] at H; have c4b0 : (a0_1 == a1_1) = false := beq_eq_false_iff_ne.mpr c4; have c4b1 : (a0_1 != a1_1) = true := bne_iff_ne.mpr c4; obtain rfl := Option.some.inj H; go_enter Try.func111, Try.ntmps111
   go_wp2_with (first | (refine zbox 2 #[.int .i64 a0_0, .int .i64 a0_1, .int .i64 a0_2, .int .i64 a0_3, .string a0_4] 66 ?_; intro gb330 hg w28 hbox hb; have BK330 := zm (hbox); have GW330 := zge w hg zB; have GE330 := zge w hg zB; replace HB := zm (below_step zB hb); clear hb hbox hg) | (refine zbox 3 #[.int .i64 a1_0, .int .i64 a1_1, .int .i64 a1_2, .int .i64 a1_3, .string a1_4] 66 ?_; intro gb331 hg w29 hbox hb; have BK331 := zm (hbox); have GW331 := zge w hg zB; have GE331 := zge w hg zB; replace HB := zm (below_step zB hb); have NB330_331 := zlt hg (zb BK330); have NB331_330 := zgt hg (zb BK330); replace BK330 := zy BK330 hb; clear hb hbox hg; have hnb30 := NB330_331.out; have hnc30 := NB331_330.out; obtain ⟨hcz31_0, hcz31_1, hcz31_2, hcz31_3, hcz31_4, hfz31_0, hfz31_1, hfz31_2, hfz31_3, hfz31_4⟩ := zc5 BK330; obtain ⟨hcz32_0, hcz32_1, hcz32_2, hcz32_3, hcz32_4, hfz32_0, hfz32_1, hfz32_2, hfz32_3, hfz32_4⟩ := zc5 BK331))
   go_ret
   exact ⟨zE, zB⟩
 ·rw [if_neg c3] at H; have c3b0 : (a0_0 == a1_0) = false := beq_eq_false_iff_ne.mpr c3; have c3b1 : (a0_0 != a1_0) = true := bne_iff_ne.mpr c3; obtain rfl := Option.some.inj H; go_enter Try.func111, Try.ntmps111
  go_wp2_with (first | (refine zbox 2 #[.int .i64 a0_0, .int .i64 a0_1, .int .i64 a0_2, .int .i64 a0_3, .string a0_4] 66 ?_; intro gb330 hg w33 hbox hb; have BK330 := zm (hbox); have GW330 := zge w hg zB; have GE330 := zge w hg zB; replace HB := zm (below_step zB hb); clear hb hbox hg) | (refine zbox 3 #[.int .i64 a1_0, .int .i64 a1_1, .int .i64 a1_2, .int .i64 a1_3, .string a1_4] 66 ?_; intro gb331 hg w34 hbox hb; have BK331 := zm (hbox); have GW331 := zge w hg zB; have GE331 := zge w hg zB; replace HB := zm (below_step zB hb); have NB330_331 := zlt hg (zb BK330); have NB331_330 := zgt hg (zb BK330); replace BK330 := zy BK330 hb; clear hb hbox hg; have hnb35 := NB330_331.out; have hnc35 := NB331_330.out; obtain ⟨hcz36_0, hcz36_1, hcz36_2, hcz36_3, hcz36_4, hfz36_0, hfz36_1, hfz36_2, hfz36_3, hfz36_4⟩ := zc5 BK330; obtain ⟨hcz37_0, hcz37_1, hcz37_2, hcz37_3, hcz37_4, hfz37_0, hfz37_1, hfz37_2, hfz37_3, hfz37_4⟩ := zc5 BK331))
  go_ret
  exact ⟨zE, zB⟩

end Go.Proofs.Ytgapdegniepjiaa.P
