-- by a program of this session, for this seat
import Derived.Test.YtgjglbjdkikajaaZ
import Derived.Test.YtgjglbjdkikajaaP0
namespace Go.Proofs.Ytgjglbjdkikajaa.P
open Go.RowKit Go.Proofs.YtgjglbjdkikajaaW.PrintWords Go.Proofs.YtgjglbjdkikajaaW.PrintLast Go.Proofs.YtgjglbjdkikajaaW.PrintMore Go.Proofs.Ytgjglbjdkikajaa.Z
attribute [local go_sem] max2_int min2_int max_two min_two max_three min_three max_four min_four   -- for this text's walks alone
set_option linter.unusedVariables false
set_option linter.unusedSimpArgs false

/-! ### laws_big: function 7 -/
def laws_big.f (l0 : List Int) : Option (Bool) := some (decide ((l0.length : Int) > 1048576))
set_option maxHeartbeats 8000000 in
set_option maxRecDepth 100000 in
theorem laws_big.calls (A0 : Option Addr) (c0 : Nat) (l0 : List Int) (r : Bool) (w : World) (hr0 : Kd.C (Kd.int .u8) w A0 l0.length l0) (hc0 : l0.length ≤ c0) (h : laws_big.f l0 = some r) :
  Calls Try.prog 7 #[.slice A0 l0.length c0] w fun e w' => e = .returned (.bool r) ∧ Drawn0 w w' := by
 have HR0 := zm hr0; have AA := zm hc0; clear hr0 hc0; have H : (some (decide ((l0.length : Int) > 1048576))) = some r := h; clear h; obtain rfl := Option.some.inj H; go_enter Try.func7, Try.ntmps7
 go_wp2
 go_ret
 exact ⟨zF, zD⟩

/-! ### impl_within: function 39 -/
def impl_within.f (a0 : Int) (a1 : Int) (a2 : Int) : Option (Bool) := if a0 ≥ a1 then (some (decide (a0 ≤ a2))) else (some false)
set_option maxHeartbeats 8000000 in
set_option maxRecDepth 100000 in
theorem impl_within.calls (a0 : Int) (a1 : Int) (a2 : Int) (r : Bool) (w : World) (h : impl_within.f a0 a1 a2 = some r) :
  Calls Try.prog 39 #[.int .i64 a0, .int .i64 a1, .int .i64 a2] w fun e w' => e = .returned (.bool r) ∧ Drawn0 w w' := by
 have H : (if a0 ≥ a1 then (some (decide (a0 ≤ a2))) else (some false)) = some r := h; clear h
 by_cases c4 : a0 ≥ a1
 ·rw [if_pos c4] at H; have AA : decide (a1 ≤ a0) = true := decide_eq_true c4; clear c4; obtain rfl := Option.some.inj H; go_enter Try.func39, Try.ntmps39
  go_wp2
  go_ret
  exact ⟨zF, zD⟩
 ·rw [if_neg c4] at H; have AA : decide (a1 ≤ a0) = false := decide_eq_false c4; clear c4; obtain rfl := Option.some.inj H; go_enter Try.func39, Try.ntmps39
  go_wp2
  go_ret
  exact ⟨zF, zD⟩

/-! ### impl_PutNum: function 21 -/
def impl_PutNum.l0 : Nat → Int → List Int → Option (List Int)
 | 0, _, _ => none
 | k + 1, x0, x3 => if x0 ≥ 128 then (if x3.length < 140737488355328 then (impl_PutNum.l0 k (wrap64 (Int.tdiv x0 128)) (x3 ++ [(wrap64 ((Int.tmod x0 128) + 128)) % 256])) else (none)) else (if x3.length < 140737488355328 then (some (x3 ++ [(x0) % 256])) else (none))
def impl_PutNum.f (k : Nat) (a0 : Int) : Option (List Int) := (impl_within.f a0 0 2147483647).bind fun t101 => (if t101 = true then (impl_PutNum.l0 k a0 (([] : List Int))) else (some ([] : List Int)))
theorem impl_PutNum.mono_l : ∀ k, (∀ y0 y1, LeO (impl_PutNum.l0 k y0 y1) (impl_PutNum.l0 (k + 1) y0 y1))
 | 0 => fun _ _ r h => by simp [impl_PutNum.l0] at h
 | k + 1 => by
  have ih0 := impl_PutNum.mono_l k
  ·intro y0 y1
   unfold impl_PutNum.l0
   repeat' first | (with_reducible first | exact LeO.refl _ | exact LeO.none _ | refine LeO.ite ?_ ?_ | refine LeO.bind ?_ (fun _ => ?_) | apply ih0) | apply ih0 | exact LeO.none _ | refine LeO.ite ?_ ?_ | refine LeO.bind ?_ (fun _ => ?_)
theorem impl_PutNum.mono : ∀ a0 k, LeO (impl_PutNum.f k a0) (impl_PutNum.f (k + 1) a0) := by
 intro a0 k; have ih0 := impl_PutNum.mono_l k
 unfold impl_PutNum.f
 repeat' first | (with_reducible first | exact LeO.refl _ | exact LeO.none _ | refine LeO.ite ?_ ?_ | refine LeO.bind ?_ (fun _ => ?_) | apply ih0) | apply ih0 | exact LeO.none _ | refine LeO.ite ?_ ?_ | refine LeO.bind ?_ (fun _ => ?_)
set_option maxHeartbeats 8000000 in
set_option maxRecDepth 100000 in
theorem impl_PutNum.calls (k : Nat) (a0 : Int) (r : List Int) (w : World) (h : impl_PutNum.f k a0 = some r) :
  Calls Try.prog 21 #[.int .i64 a0] w fun e w' => ∃ v0_ : Value, e = .returned (v0_) ∧ Kd.R (Kd.int .u8) 5 w' w.heap.size (fun _ => True) v0_ r ∧ Below w.heap.size w w' := by
 have HB := zm (Below.refl w.heap.size w); have H : ((impl_within.f a0 0 2147483647).bind fun AD => (if AD = true then (impl_PutNum.l0 k a0 (([] : List Int))) else (some ([] : List Int)))) = some r := h; clear h; replace H := Option.bind_eq_some_iff.mp H; obtain ⟨AD, AH, H⟩ := H; (try dsimp only at H); have A2 := zm AH; clear AH
 by_cases c3 : AD = true
 ·subst c3; rw [if_pos rfl] at H
  obtain ⟨y102, hy102⟩ : ∃ y_ : List Int, y_ = (([] : List Int)) := ⟨_, rfl⟩
  replace H : (impl_PutNum.l0 k a0 y102) = some r := by first | (rw [hy102]; with_reducible exact H) | (have H2_ := (Option.bind_some _ _).symm.trans H; rw [hy102]; with_reducible exact H2_) | (have H2_ := (Option.bind_some _ _).symm.trans H; with_reducible exact H2_) | with_reducible exact H | (rw [hy102]; exact H) | exact H
  have Ny102 := zm hy102; clear hy102
  have H' := zm H
  clear H; go_enter Try.func21, Try.ntmps21
  go_wp2_with (first | ((with_reducible refine gate_callee (f := 39) rfl ?_); refine zg (some 5) #[.int .i64 a0, .int .i64 0, .int .i64 2147483647] Try.func39 ?_; (with_reducible refine (impl_within.calls a0 0 2147483647 true _ A2.out).mono ?_); rintro e w' ⟨rfl, ⟨nd, rfl⟩⟩; refine ⟨_, rfl, ?_⟩) | ((with_reducible refine gate_dst (N := 7) rfl ?_); refine Kd.R_lit (Kd.int .u8) _ 5 ?hg (N := 7) ?hd (xs := ([] : List Int)) (inner := []) (ok := fun _ => True) (okp := fun _ => True) ?hr ?hp (fun _ hk => hk) trivial (Below.refl _ _) (Nat.le_refl _) (by simp) ?_; (case hd => rfl); (case hg => rfl); (case hr => first | (go_simp; done) | (go_simp; rfl)); (case hp => exact (Reps.none _ _)); intro v103 w4 ho5 hb hg_ hnew_; clear hg_ hnew_; (first | rw [← Ny102.out] at ho5 | (simp only [Int.reduceToNat] at ho5; rw [← Ny102.out] at ho5)); have AE := zm (Kd.R_lower ho5 (below_size zB)); replace HB := zm (below_step zB hb); clear hb ho5))
  go_loopg [0, 3] k (fun kq v0 v3 w' => ∃ (AA : Int) (AB : List Int), v0 = .int .i64 AA ∧ Aside0 (impl_PutNum.l0 kq AA AB = some r) ∧ Aside0 (kq ≤ k) ∧ Aside0 (Kd.R (Kd.int .u8) 5 w' w.heap.size (fun _ => True) v3 AB) ∧ Aside0 (Below w.heap.size w w'))
  case atStart => exact ⟨(a0), (y102), zF, H', ⟨Nat.le_refl _⟩, ⟨zr AE⟩, ⟨zB⟩⟩
  case round =>
   clear H'; (try clear c3); obtain ⟨AA, AB, rfl, HA, AI, AC, HB⟩ := hrel
   cases gk with
   | zero => exact absurd HA.out (by simp [impl_PutNum.l0])
   | succ k1 =>
    have H := HA.out; clear HA; simp only [impl_PutNum.l0] at H
    by_cases c6 : AA ≥ 128
    ·rw [if_pos c6] at H; have AJ : decide (128 ≤ AA) = true := decide_eq_true c6; clear c6
     by_cases c7 : AB.length < 140737488355328
     ·rw [if_pos c7] at H; have LMc7 := zm c7; clear c7
      obtain ⟨y105, hy105⟩ : ∃ y_ : List Int, y_ = (AB ++ [(wrap64 ((Int.tmod AA 128) + 128)) % 256]) := ⟨_, rfl⟩
      replace H : (impl_PutNum.l0 k1 (wrap64 (Int.tdiv AA 128)) y105) = some r := by first | (rw [hy105]; with_reducible exact H) | (have H2_ := (Option.bind_some _ _).symm.trans H; rw [hy105]; with_reducible exact H2_) | (have H2_ := (Option.bind_some _ _).symm.trans H; with_reducible exact H2_) | with_reducible exact H | (rw [hy105]; exact H) | exact H
      have Ny105 := zm hy105; clear hy105
      have H' := zm H
      clear H
      go_wp2_with (first | ((with_reducible refine gate_builtin (b := .append) (xs := #[.tmp 10, .tmp 15]) rfl ?_); at_builtin; refine Kd.R_append (Kd.int .u8) (w0 := w) w.heap.size rfl (.tmp 10) (.tmp 15) 22 5 (.int .u8 0) 1 rfl Try.underlying22 info5 rfl (by decide) (by omega) u3 AB ((wrap64 ((Int.tmod AA 128) + 128)) % 256) [.int .u8 ((wrap64 ((Int.tmod AA 128) + 128)) % 256)] (fun _ => True) (fun _ => False) rfl rfl ?aP (fun _ hk => hk.elim) ?aF ?aO ?aB ?aS ?aL ?_; (case aP => exact rfl); (case aB => exact zB); (case aF => exact (fun _ _ => trivial)); (case aO => exact (zr AC)); (case aS => exact (below_size zB)); (case aL => have := LMc7.out; omega); intro v106 w8 ho hb hg hat; rw [← Ny105.out] at ho; replace HB := zm hb; have AF := zm (ho); clear AC; clear ho hb hg hat))
      go_roundg k1
      case measure => have := AI.out; omega
      case rel => exact ⟨(wrap64 (Int.tdiv AA 128)), (y105), zF, H', ⟨by have := AI.out; omega⟩, ⟨zr AF⟩, ⟨zB⟩⟩
     ·rw [if_neg c7] at H
      exact absurd H (by simp)
    ·rw [if_neg c6] at H; have AJ : decide (128 ≤ AA) = false := decide_eq_false c6; clear c6
     by_cases c9 : AB.length < 140737488355328
     ·rw [if_pos c9] at H; have LMc9 := zm c9; clear c9
      obtain ⟨y108, hy108⟩ : ∃ y_ : List Int, y_ = (AB ++ [(AA) % 256]) := ⟨_, rfl⟩
      replace H : (some y108) = some r := by first | (rw [hy108]; with_reducible exact H) | (have H2_ := (Option.bind_some _ _).symm.trans H; rw [hy108]; with_reducible exact H2_) | (have H2_ := (Option.bind_some _ _).symm.trans H; with_reducible exact H2_) | with_reducible exact H | (rw [hy108]; exact H) | exact H
      have Ny108 := zm hy108; clear hy108; obtain rfl := Option.some.inj H
      go_wp2_with (first | ((with_reducible refine gate_builtin (b := .append) (xs := #[.tmp 19, .tmp 22]) rfl ?_); at_builtin; refine Kd.R_append (Kd.int .u8) (w0 := w) w.heap.size rfl (.tmp 19) (.tmp 22) 22 5 (.int .u8 0) 1 rfl Try.underlying22 info5 rfl (by decide) (by omega) u3 AB ((AA) % 256) [.int .u8 ((AA) % 256)] (fun _ => True) (fun _ => False) rfl rfl ?aP (fun _ hk => hk.elim) ?aF ?aO ?aB ?aS ?aL ?_; (case aP => exact rfl); (case aB => exact zB); (case aF => exact (fun _ _ => trivial)); (case aO => exact (zr AC)); (case aS => exact (below_size zB)); (case aL => have := LMc9.out; omega); intro v109 AK ho hb hg hat; rw [← Ny108.out] at ho; replace HB := zm hb; have AG := zm (ho); clear AC; clear ho hb hg hat))
      go_ret
      exact ⟨_, zE, zr AG, zB⟩
     ·rw [if_neg c9] at H
      exact absurd H (by simp)
 ·replace c3 := Bool.eq_false_iff.mpr c3; subst c3; rw [zff] at H; obtain rfl := Option.some.inj H; go_enter Try.func21, Try.ntmps21
  go_wp2_with (first | ((with_reducible refine gate_callee (f := 39) rfl ?_); refine zg (some 5) #[.int .i64 a0, .int .i64 0, .int .i64 2147483647] Try.func39 ?_; (with_reducible refine (impl_within.calls a0 0 2147483647 false _ A2.out).mono ?_); rintro e w' ⟨rfl, ⟨nd, rfl⟩⟩; refine ⟨_, rfl, ?_⟩))
  go_ret
  exact ⟨_, zE, znil, zB⟩

/-! ### impl_joined: function 42 -/
def impl_joined.l0 : Nat → List Int → List (List Int) → Int → Int → Option (List Int)
 | 0, _, _, _, _ => none
 | k + 1, x3, x7, x8, x9 => if x9 < x8 then (if 0 ≤ x9 then (if x9 < (x7.length : Int) then (if x3.length + (rd_L1 x7 x9).length < 140737488355328 then (impl_joined.l0 k (x3 ++ (rd_L1 x7 x9)) x7 x8 (wrap64 (x9 + 1))) else (none)) else (none)) else (none)) else (some x3)
def impl_joined.f (k : Nat) (l0 : List (List Int)) : Option (List Int) := impl_joined.l0 k (([] : List Int)) l0 (l0.length : Int) 0
theorem impl_joined.mono_l : ∀ k, (∀ y0 y1 y2 y3, LeO (impl_joined.l0 k y0 y1 y2 y3) (impl_joined.l0 (k + 1) y0 y1 y2 y3))
 | 0 => fun _ _ _ _ r h => by simp [impl_joined.l0] at h
 | k + 1 => by
  have ih0 := impl_joined.mono_l k
  ·intro y0 y1 y2 y3
   unfold impl_joined.l0
   repeat' first | (with_reducible first | exact LeO.refl _ | exact LeO.none _ | refine LeO.ite ?_ ?_ | refine LeO.bind ?_ (fun _ => ?_) | apply ih0) | apply ih0 | exact LeO.none _ | refine LeO.ite ?_ ?_ | refine LeO.bind ?_ (fun _ => ?_)
theorem impl_joined.mono : ∀ a0 k, LeO (impl_joined.f k a0) (impl_joined.f (k + 1) a0) := by
 intro a0 k; have ih0 := impl_joined.mono_l k
 unfold impl_joined.f
 repeat' first | (with_reducible first | exact LeO.refl _ | exact LeO.none _ | refine LeO.ite ?_ ?_ | refine LeO.bind ?_ (fun _ => ?_) | apply ih0) | apply ih0 | exact LeO.none _ | refine LeO.ite ?_ ?_ | refine LeO.bind ?_ (fun _ => ?_)
set_option maxHeartbeats 8000000 in
set_option maxRecDepth 100000 in
theorem impl_joined.calls (k : Nat) (A0 : Option Addr) (c0 : Nat) (l0 : List (List Int)) (r : List Int) (w : World) (hr0 : Kd.C (Kd.slice 5 (Kd.int .u8)) w A0 l0.length l0) (hc0 : l0.length ≤ c0) (h : impl_joined.f k l0 = some r) :
  Calls Try.prog 42 #[.slice A0 l0.length c0] w fun e w' => ∃ v0_ : Value, e = .returned (v0_) ∧ Kd.R (Kd.int .u8) 5 w' w.heap.size (fun _ => True) v0_ r ∧ Below w.heap.size w w' := by
 have HR0 := zm hr0; have AJ := zm hc0; clear hr0 hc0; have HB := zm (Below.refl w.heap.size w); have H : (impl_joined.l0 k (([] : List Int)) l0 (l0.length : Int) 0) = some r := h; clear h
 obtain ⟨y111, hy111⟩ : ∃ y_ : List Int, y_ = (([] : List Int)) := ⟨_, rfl⟩
 replace H : (impl_joined.l0 k y111 l0 (l0.length : Int) 0) = some r := by first | (rw [hy111]; with_reducible exact H) | (have H2_ := (Option.bind_some _ _).symm.trans H; rw [hy111]; with_reducible exact H2_) | (have H2_ := (Option.bind_some _ _).symm.trans H; with_reducible exact H2_) | with_reducible exact H | (rw [hy111]; exact H) | exact H
 have Ny111 := zm hy111; clear hy111
 have H' := zm H
 clear H; go_enter Try.func42, Try.ntmps42
 go_wp2_with (first | ((with_reducible refine gate_dst (N := 6) rfl ?_); refine Kd.R_lit (Kd.int .u8) _ 5 ?hg (N := 6) ?hd (xs := ([] : List Int)) (inner := []) (ok := fun _ => True) (okp := fun _ => True) ?hr ?hp (fun _ hk => hk) trivial (Below.refl _ _) (Nat.le_refl _) (by simp) ?_; (case hd => rfl); (case hg => rfl); (case hr => first | (go_simp; done) | (go_simp; rfl)); (case hp => exact (Reps.none _ _)); intro v112 w2 ho3 hb hg_ hnew_; clear hg_ hnew_; (first | rw [← Ny111.out] at ho3 | (simp only [Int.reduceToNat] at ho3; rw [← Ny111.out] at ho3)); have AD := zm (Kd.R_lower ho3 (below_size zB)); replace HB := zm (below_step zB hb); clear hb ho3))
 go_loopg [3, 9] k (fun kq v3 v9 w' => ∃ (AB : List Int) (AA : Int), v9 = .int .i64 AA ∧ Aside0 (impl_joined.l0 kq AB l0 (l0.length : Int) AA = some r) ∧ Aside0 (kq ≤ k) ∧ Aside0 (Kd.R (Kd.int .u8) 5 w' w.heap.size (fun _ => True) v3 AB) ∧ Aside0 (Below w.heap.size w w'))
 case atStart => exact ⟨(y111), (0), zF, H', ⟨Nat.le_refl _⟩, ⟨zr AD⟩, ⟨zB⟩⟩
 case round =>
  clear H'; obtain ⟨AB, AA, rfl, HA, AF, AC, HB⟩ := hrel
  cases gk with
  | zero => exact absurd HA.out (by simp [impl_joined.l0])
  | succ k1 =>
   have H := HA.out; clear HA; simp only [impl_joined.l0] at H
   by_cases c4 : AA < (l0.length : Int)
   ·rw [if_pos c4] at H; have AG : decide (AA < (l0.length : Int)) = true := decide_eq_true c4; clear c4
    by_cases c5 : 0 ≤ AA
    ·rw [if_pos c5] at H; have AH : decide (0 ≤ AA) = true := decide_eq_true c5; clear c5
     by_cases c6 : AA < (l0.length : Int)
     ·rw [if_pos c6] at H; have AI : decide (AA < (l0.length : Int)) = true := decide_eq_true c6; clear c6
      by_cases c7 : AB.length + (rd_L1 l0 AA).length < 140737488355328
      ·rw [if_pos c7] at H; have LMc7 := zm c7; clear c7
       obtain ⟨y115, hy115⟩ : ∃ y_ : List Int, y_ = (AB ++ (rd_L1 l0 AA)) := ⟨_, rfl⟩
       replace H : (impl_joined.l0 k1 y115 l0 (l0.length : Int) (wrap64 (AA + 1))) = some r := by first | (rw [hy115]; with_reducible exact H) | (have H2_ := (Option.bind_some _ _).symm.trans H; rw [hy115]; with_reducible exact H2_) | (have H2_ := (Option.bind_some _ _).symm.trans H; with_reducible exact H2_) | with_reducible exact H | (rw [hy115]; exact H) | exact H
       have Ny115 := zm hy115; clear hy115
       have H' := zm H
       clear H; have p114 : 0 ≤ (AA : Int) := zd; have q114 : AA < (l0.length : Int) := zd; obtain ⟨ad114, A114_0, c114_0, e114, hx114_0, hl114_0, hi114_0⟩ := at_L1 HR0.out AA p114 q114; cases e114; replace hx114_0 := zx HB hx114_0; have HR114_0 := zm hi114_0; have HC114_0 := zm hl114_0; clear hi114_0 hl114_0; replace p114 := eq_true p114; replace q114 := eq_true q114
       go_wp2_with (first | ((with_reducible refine gate_builtin (b := .append) (xs := #[.tmp 13, .tmp 14]) rfl ?_); at_builtin; refine Kd.R_append_rows (Kd.int .u8) (w0 := w) w.heap.size rfl (.tmp 13) (.tmp 14) 22 5 (.int .u8 0) 1 rfl Try.underlying22 info5 rfl (by decide) (by omega) u3 AB (rd_L1 l0 AA) _ _ _ (fun _ => True) (fun _ => False) rfl rfl ?aO ?aR (fun _ _ h => h) (fun _ h => h.elim) ?aF ?aB ?aS ?aL ?_; (case aR => repeat (first | exact (Kd.C_below HR114_0.out HB.out) | (with_reducible refine Kd.C_alloc ?_ _) | (with_reducible refine Kd.C_drewN ?_ _) | (with_reducible refine Kd.C_drew ?_))); (case aB => exact zB); (case aF => exact (fun _ _ => trivial)); (case aO => exact (zr AC)); (case aS => exact (below_size zB)); (case aL => have := LMc7.out; omega); intro v116 w8 ho hb hg hat; rw [← Ny115.out] at ho; replace HB := zm hb; have AE := zm (ho); clear AC; clear ho hb hg hat))
       go_roundg k1
       case measure => have := AF.out; omega
       case rel => exact ⟨(y115), (wrap64 (AA + 1)), zF, H', ⟨by have := AF.out; omega⟩, ⟨zr AE⟩, ⟨zB⟩⟩
      ·rw [if_neg c7] at H
       exact absurd H (by simp)
     ·rw [if_neg c6] at H
      exact absurd H (by simp)
    ·rw [if_neg c5] at H
     exact absurd H (by simp)
   ·rw [if_neg c4] at H; have AG : decide (AA < (l0.length : Int)) = false := decide_eq_false c4; clear c4; obtain rfl := Option.some.inj H
    go_wp2
    go_ret
    exact ⟨_, zE, zr AC, zB⟩

/-! ### impl_PutText: function 15, by hand -/
def impl_PutText.f (k : Nat) (a0 : ByteArray) : Option (List Int) := (impl_PutNum.f k (a0.size : Int)).bind fun t1 => if t1.length + a0.size < 140737488355328 then impl_joined.f k [t1, bytesOf a0] else none
theorem impl_PutText.mono : ∀ a0 k, LeO (impl_PutText.f k a0) (impl_PutText.f (k + 1) a0) := by
 intro a0 k
 unfold impl_PutText.f
 exact LeO.bind (impl_PutNum.mono _ _) (fun _ => LeO.ite (impl_joined.mono _ _) (LeO.refl _))
set_option maxHeartbeats 8000000 in
set_option maxRecDepth 100000 in
theorem impl_PutText.calls (k : Nat) (a0 : ByteArray) (r : List Int) (w : World) (h : impl_PutText.f k a0 = some r) :
 Calls Try.prog 15 #[.string a0] w fun e w' => ∃ v0_ : Value, e = .returned (v0_) ∧ Kd.R (Kd.int .u8) 5 w' w.heap.size (fun _ => True) v0_ r ∧ Below w.heap.size w w' := by
 have HB := zm (Below.refl w.heap.size w); have H := Option.bind_eq_some_iff.mp h; clear h; obtain ⟨t1, AB, H⟩ := H; have A1 := zm AB; clear AB
 by_cases c1 : t1.length + a0.size < 140737488355328
 ·rw [if_pos c1] at H; have HSZ := zm (show a0.size ≤ 9223372036854775807 by omega); have HJ := zm H; clear c1 H; go_enter Try.func15, Try.ntmps15
  go_wp2_with (first
   | ((with_reducible refine gate_callee (f := 21) rfl ?_); refine zg (some 5) #[.int .i64 (a0.size : Int)] Try.func21 ?_; (with_reducible refine (impl_PutNum.calls k (a0.size : Int) t1 _ A1.out).mono ?_); rintro e w8 ⟨v1, rfl, ho0, hb⟩; refine ⟨_, rfl, ?_⟩; have AA := zm (Kd.R_lower ho0 (below_size zB)); replace HB := zm (below_step zB hb); clear hb ho0; obtain ⟨AC, AG, eo1⟩ := Kd.R_slice AA.out; subst eo1)
   | ((with_reducible refine gate_dst (N := 7) rfl ?_); refine zcv a0 w8 9 22 5 Try.underlying9 Try.underlying22 Try.underlying5 HSZ.out rfl (fun kb_ => by first | (go_simp; done) | (go_simp; rfl)) ?_; intro A7 c7 w9 hc7 hl7 hb; have AD := zm hc7; have HL7 := zm hl7; replace AA := zm (Kd.R_below AA.out hb); replace HB := zm (below_step zB hb); clear hb hc7 hl7)
   | ((with_reducible refine gate_dst (N := 8) rfl ?_); refine zls 8 (.slice AC t1.length AG) (.slice A7 a0.size c7) 22 rfl ?_; intro gb hg AH hbox hb; have AE := zm (ztwo 5 (Kd.C_below (Kd.R_reads' AA.out).2.2 hb) (Kd.R_reads' AA.out).2.1 (Kd.C_below AD.out hb) HL7.out hbox); replace HB := zm (below_step zB hb); clear hb hbox hg)
   | ((with_reducible refine gate_callee (f := 42) rfl ?_); refine zg (some 9) #[.slice (some ⟨gb, 0, none⟩) 2 2] Try.func42 ?_; (refine (impl_joined.calls k (some ⟨gb, 0, none⟩) 2 [t1, bytesOf a0] r _ AE.out (Nat.le_refl 2) HJ.out).mono ?_); rintro e AI ⟨v2, rfl, ho0, hb⟩; refine ⟨_, rfl, ?_⟩; have AF := zm (Kd.R_lower ho0 (below_size zB)); replace HB := zm (below_step zB hb); clear hb ho0))
  go_ret
  exact ⟨_, zE, zr AF, zB⟩
 ·rw [if_neg c1] at H
  exact absurd H (by simp)

/-- A state of type 82 at block g of W; what its slices lead to came in by w0. -/
def IsS82 (w0 W : World) (g : Nat) (f0 : List Int) (f1 : Int) (f2 : Int) : Prop := ∃ A0 c0, W.heap[g]? = some (.cells #[.slice A0 f0.length c0, .int .i64 f1, .int .i64 f2] 82 (0, 0)) ∧ w0.heap.size ≤ g ∧ Kd.C (Kd.int .u8) w0 A0 f0.length f0
theorem IsS82.grown {w0 W : World} {g : Nat} {f0 : List Int} {f1 : Int} {f2 : Int} {W1 : World} {row : Option Nat} (h : IsS82 w0 W g f0 f1 f2) (hw : W.grownBy W1 row) (hne : some g ≠ row) : IsS82 w0 W1 g f0 f1 f2 := by
 obtain ⟨A0, c0, hb, hg, hr0⟩ := h
 exact ⟨A0, c0, blk_grown hb hw hne, hg, hr0⟩
theorem IsS82.own_neN {w0 W : World} {g : Nat} {f0 : List Int} {f1 : Int} {f2 : Int} {α : Type} {d : Kd α} {e : Nat} {base : Nat} {ok : Nat → Prop} {v : Value} {xs : List α} (h : IsS82 w0 W g f0 f1 f2) (ho : Kd.N d e W base ok v xs) (ht : e ≠ 82) : some g ≠ v.ownBlock := by
 obtain ⟨A0, c0, hb, hg, hr0⟩ := h
 exact Kd.N_ne ho hb ht
theorem IsS82.fresh {w0 W : World} {g : Nat} {f0 : List Int} {f1 : Int} {f2 : Int} (h : IsS82 w0 W g f0 f1 f2) : ∀ k, W.heap.size ≤ k → k ≠ g := by
 obtain ⟨A0, c0, hb, hg, hr0⟩ := h
 exact Kd.freshB hb
theorem IsS82.kept {w0 W : World} {g : Nat} {f0 : List Int} {f1 : Int} {f2 : Int} {W1 : World} {S : Nat → Prop} (h : IsS82 w0 W g f0 f1 f2) (hk : Kept W W1 S) (hne : ¬ S g) : IsS82 w0 W1 g f0 f1 f2 := by
 obtain ⟨A0, c0, hb, hg, hr0⟩ := h
 exact ⟨A0, c0, blk_kept hb hk hne, hg, hr0⟩
theorem IsS82.below {w0 W : World} {g : Nat} {f0 : List Int} {f1 : Int} {f2 : Int} {W1 : World} (h : IsS82 w0 W g f0 f1 f2) (hw : Below W.heap.size W W1) : IsS82 w0 W1 g f0 f1 f2 := h.grown (grown_of_below hw none) (by simp)
theorem IsS82.alloc {w0 W : World} {g : Nat} {f0 : List Int} {f1 : Int} {f2 : Int} (h : IsS82 w0 W g f0 f1 f2) (o : Obj) : IsS82 w0 (W.alloc o) g f0 f1 f2 := h.below (below_alloc (Below.refl _ _) o)
theorem IsS82.drewN {w0 W : World} {g : Nat} {f0 : List Int} {f1 : Int} {f2 : Int} (h : IsS82 w0 W g f0 f1 f2) (m : Nat) : IsS82 w0 (W.drewN m) g f0 f1 f2 := h
theorem IsS82.drew {w0 W : World} {g : Nat} {f0 : List Int} {f1 : Int} {f2 : Int} (h : IsS82 w0 W g f0 f1 f2) : IsS82 w0 W.drew g f0 f1 f2 := h
theorem IsS82.at_ {w0 W : World} {g : Nat} {f0 : List Int} {f1 : Int} {f2 : Int} {w' : World} {m : Nat} (hq : W.drewN m = w') (h : IsS82 w0 W g f0 f1 f2) : IsS82 w0 w' g f0 f1 f2 := by subst hq; exact IsS82.drewN h m
theorem IsS82.apart {w0 W : World} {g : Nat} {f0 : List Int} {f1 : Int} {f2 : Int} {α : Type} {d : Kd α} {e : Nat} {base : Nat} {ok : Nat → Prop} {v : Value} {xs : List α} (h : IsS82 w0 W g f0 f1 f2) (ho : d.R e W base ok v xs) (ht : ∀ q, q ∈ e :: d.E → q ≠ 82) : d.R e W base (fun k => ok k ∧ k ≠ g) v xs := by
 obtain ⟨A0, c0, hb, hg, hr0⟩ := h
 exact Kd.R_types ho hb ht
theorem IsS82.own_ne {w0 W : World} {g : Nat} {f0 : List Int} {f1 : Int} {f2 : Int} {α : Type} {d : Kd α} {e : Nat} {base : Nat} {ok : Nat → Prop} {v : Value} {xs : List α} (h : IsS82 w0 W g f0 f1 f2) (ho : d.R e W base ok v xs) (ht : e ≠ 82) : some g ≠ v.ownBlock := by
 obtain ⟨A0, c0, hb, hg, hr0⟩ := h
 exact Kd.R_ne ho hb ht
theorem IsS82.apartQ {w0 W : World} {g : Nat} {f0 : List Int} {f1 : Int} {f2 : Int} {α : Type} {d : Kd α} {e : Nat} {base : Nat} {ok : Nat → Prop} {v : Value} {xs : List α} (h : IsS82 w0 W g f0 f1 f2) (ho : d.Q e W base ok v xs) (ht : ∀ q, q ∈ e :: d.E → q ≠ 82) : d.Q e W base (fun k => ok k ∧ k ≠ g) v xs := by
 obtain ⟨A0, c0, hb, hg, hr0⟩ := h
 exact Kd.Q_types ho hb ht
theorem IsS82.own_neQ {w0 W : World} {g : Nat} {f0 : List Int} {f1 : Int} {f2 : Int} {α : Type} {d : Kd α} {e : Nat} {base : Nat} {ok : Nat → Prop} {v : Value} {xs : List α} (h : IsS82 w0 W g f0 f1 f2) (ho : d.Q e W base ok v xs) (ht : e ≠ 82) : some g ≠ v.ownBlock := by
 obtain ⟨A0, c0, hb, hg, hr0⟩ := h
 exact Kd.Q_ne ho hb ht
theorem IsS82.apartS {w0 W : World} {g : Nat} {f0 : List Int} {f1 : Int} {f2 : Int} {α : Type} {d : Kd α} {e : Nat} {base : Nat} {ok : Nat → Prop} {v : Value} {xs : List α} (h : IsS82 w0 W g f0 f1 f2) (ho : d.S e W base ok v xs) (ht : ∀ q, q ∈ e :: d.E → q ≠ 82) : d.S e W base (fun k => ok k ∧ k ≠ g) v xs := by
 obtain ⟨A0, c0, hb, hg, hr0⟩ := h
 exact Kd.S_types ho hb ht
theorem IsS82.own_neS {w0 W : World} {g : Nat} {f0 : List Int} {f1 : Int} {f2 : Int} {α : Type} {d : Kd α} {e : Nat} {base : Nat} {ok : Nat → Prop} {v : Value} {xs : List α} (h : IsS82 w0 W g f0 f1 f2) (ho : d.S e W base ok v xs) (ht : e ≠ 82) : some g ≠ v.ownBlock := by
 obtain ⟨A0, c0, hb, hg, hr0⟩ := h
 exact Kd.S_ne ho hb ht
theorem IsS82.lt {w0 W : World} {g : Nat} {f0 : List Int} {f1 : Int} {f2 : Int} (h : IsS82 w0 W g f0 f1 f2) : g < W.heap.size := by
 obtain ⟨A0, c0, hb, hg, hr0⟩ := h
 exact blk_lt hb
theorem IsS82.ge {w0 W : World} {g : Nat} {f0 : List Int} {f1 : Int} {f2 : Int} (h : IsS82 w0 W g f0 f1 f2) : w0.heap.size ≤ g := by
 obtain ⟨A0, c0, hb, hg, hr0⟩ := h
 exact hg
theorem IsS82.ne_blk {w0 W : World} {g : Nat} {f0 : List Int} {f1 : Int} {f2 : Int} {a : Nat} {cs : Array Value} {t : TypeId} {fr : Nat × Nat} (h : IsS82 w0 W g f0 f1 f2) (hb2 : W.heap[a]? = some (.cells cs t fr)) (ht : t ≠ 82) : g ≠ a := by
 obtain ⟨A0, c0, hb, hg, hr0⟩ := h; rintro rfl; rw [hb] at hb2
 injection hb2 with hb2
 injection hb2 with _ ht2
 exact ht ht2.symm
theorem IsS82.far {w0 W : World} {g : Nat} {f0 : List Int} {f1 : Int} {f2 : Int} {p : Addr} (h : IsS82 w0 W g f0 f1 f2) (hne : g ≠ p.block) (u : Value) : IsS82 w0 (W.setCell p u) g f0 f1 f2 := by
 obtain ⟨A0, c0, hb, hg, hr0⟩ := h
 exact ⟨A0, c0, blk_far hb hne u, hg, hr0⟩
theorem cellS82_0 {W : World} {g : Nat} {A0 : Option Addr} {c0 : Nat} {f0 : List Int} {f1 : Int} {f2 : Int} (h : W.heap[g]? = some (.cells #[.slice A0 f0.length c0, .int .i64 f1, .int .i64 f2] 82 (0, 0))) : W.cell? ⟨g, 0, none⟩ = some (.slice A0 f0.length c0) := (blk_cell h 0).trans rfl
theorem cellS82_1 {W : World} {g : Nat} {A0 : Option Addr} {c0 : Nat} {f0 : List Int} {f1 : Int} {f2 : Int} (h : W.heap[g]? = some (.cells #[.slice A0 f0.length c0, .int .i64 f1, .int .i64 f2] 82 (0, 0))) : W.cell? ⟨g, 1, none⟩ = some (.int .i64 f1) := (blk_cell h 1).trans rfl
theorem IsS82.set_1 {w0 W : World} {g : Nat} {f0 : List Int} {f1 : Int} {f2 : Int} (h : IsS82 w0 W g f0 f1 f2) (x : Int) : IsS82 w0 (W.setCell ⟨g, 1, none⟩ (.int .i64 x)) g f0 x f2 := by
 obtain ⟨A0, c0, hb, hg, hr0⟩ := h
 exact ⟨A0, c0, by simpa using blk_set hb 1 (.int .i64 x), hg, hr0⟩
theorem cellS82_2 {W : World} {g : Nat} {A0 : Option Addr} {c0 : Nat} {f0 : List Int} {f1 : Int} {f2 : Int} (h : W.heap[g]? = some (.cells #[.slice A0 f0.length c0, .int .i64 f1, .int .i64 f2] 82 (0, 0))) : W.cell? ⟨g, 2, none⟩ = some (.int .i64 f2) := (blk_cell h 2).trans rfl
theorem IsS82.set_2 {w0 W : World} {g : Nat} {f0 : List Int} {f1 : Int} {f2 : Int} (h : IsS82 w0 W g f0 f1 f2) (x : Int) : IsS82 w0 (W.setCell ⟨g, 2, none⟩ (.int .i64 x)) g f0 f1 x := by
 obtain ⟨A0, c0, hb, hg, hr0⟩ := h
 exact ⟨A0, c0, by simpa using blk_set hb 2 (.int .i64 x), hg, hr0⟩
theorem IsS82.new (w0 W : World) (A0 : Option Addr) (c0 : Nat) (f0 : List Int) (f1 : Int) (f2 : Int) (hB : Below w0.heap.size w0 W) (hr0 : Kd.C (Kd.int .u8) w0 A0 f0.length f0) : IsS82 w0 (W.alloc (.cells #[.slice A0 f0.length c0, .int .i64 f1, .int .i64 f2] 82)) W.heap.size f0 f1 f2 := ⟨A0, c0, by simpa using heap_alloc_new W _, hB.size, hr0⟩
section
variable {w0 W W1 W2 w : World} {g g0 b : Nat} {f0 : List Int} {f1 : Int} {f2 : Int}
theorem IsS82.farA {p : Addr} (h : IsS82 w0 W g f0 f1 f2) (hne : Aside0 (g ≠ p.block)) (u : Value) : IsS82 w0 (W.setCell p u) g f0 f1 f2 := h.far hne.out u
theorem zI {p : Prop} (h : p := by repeat (first | (with_reducible first | exact HI0.out | apply IsS82.alloc | apply IsS82.drewN | apply IsS82.drew | apply IsS82.set_1 | apply IsS82.set_2 | apply IsS82.farA | assumption) | exact HI0.out)) : p := h
theorem zH {p : Prop} (h : p := by repeat (first | (with_reducible first | exact HB.out | apply below_alloc | apply pw_below_drewN | apply below_drew1 | refine below_set ?_ (IsS82.ge HI0.out) | apply below_setA | assumption) | exact HB.out)) : p := h
theorem zbh {w W W1 : World} (hb : Below W.heap.size W W1) (h : Below w.heap.size w W := by exact zH) : Aside0 (Below w.heap.size w W1) := ⟨below_step h hb⟩
theorem zid82 (h : Aside0 (IsS82 w0 W g f0 f1 f2)) : Aside0 (IsS82 w0 W.drew g f0 f1 f2) := h
theorem zil82 (hg : b = W.heap.size) (h : IsS82 w0 W g f0 f1 f2) : Aside0 (g ≠ b) := ⟨by rw [hg]; exact Nat.ne_of_lt h.lt⟩
theorem zig82 (hg : b = W.heap.size) (h : IsS82 w0 W g f0 f1 f2) : Aside0 (b ≠ g) := ⟨by rw [hg]; exact Nat.ne_of_gt h.lt⟩
theorem zib82 (hb : Below W.heap.size W W1) (h : IsS82 w0 W g f0 f1 f2) : Aside0 (IsS82 w0 W1 g f0 f1 f2) := ⟨h.below hb⟩
theorem zka82 {α : Type} {d : Kd α} {e base : Nat} {ok : Nat → Prop} {v : Value} {xs : List α} (h : IsS82 w0 W g f0 f1 f2) (ho : d.R e W base ok v xs) (hk : KeepBut W W1 g none) (ht : ∀ q, q ∈ e :: d.E → q ≠ 82 := by decide) : Aside0 (d.R e W1 base ok v xs) := zm (Kd.R_mono (Kd.R_keep (IsS82.apart h ho ht) hk (fun _ h => h.2)) (fun _ h => h.1))
end

/-! ### spec_l1Byte: function 67 -/
def spec_l1Byte.f (s0_0 : List Int) (s0_1 : Int) (s0_2 : Int) : Option (Int × Int × Int) := if s0_1 < (s0_0.length : Int) then (if 0 ≤ s0_1 then (some (Go.bits .and .i64 (wrap64 ((Go.bits .and .i64 (Go.bits .xor .i64 ((wrap64 ((wrap64 (s0_2 * 6364136223846793005)) + 1442695040888963407)) / 8589934592) ((wrap64 ((wrap64 (s0_2 * 6364136223846793005)) + 1442695040888963407)) / 35184372088832)) 255) + (wrap64 (rd s0_0 s0_1)))) 255, wrap64 (s0_1 + 1), wrap64 ((wrap64 (s0_2 * 6364136223846793005)) + 1442695040888963407))) else (none)) else (some (Go.bits .and .i64 (Go.bits .xor .i64 ((wrap64 ((wrap64 (s0_2 * 6364136223846793005)) + 1442695040888963407)) / 8589934592) ((wrap64 ((wrap64 (s0_2 * 6364136223846793005)) + 1442695040888963407)) / 35184372088832)) 255, s0_1, wrap64 ((wrap64 (s0_2 * 6364136223846793005)) + 1442695040888963407)))
set_option maxHeartbeats 8000000 in
set_option maxRecDepth 100000 in
theorem spec_l1Byte.calls (g : Nat) (s0_0 : List Int) (s0_1 : Int) (s0_2 : Int) (r1 : Int) (r2 : Int) (r3 : Int) (w0 w : World) (hI : IsS82 w0 w g s0_0 s0_1 s0_2) (hB : Below w0.heap.size w0 w) (h : spec_l1Byte.f s0_0 s0_1 s0_2 = some (r1, r2, r3)) :
  Calls Try.prog 67 #[.pointer (some ⟨g, 0, none⟩)] w fun e w' => e = .returned (.int .i64 r1) ∧ IsS82 w0 w' g s0_0 r2 r3 ∧ Below w0.heap.size w0 w' ∧ KeepBut w w' g none := by
 have HI0 := zm hI; have HK := zm (KeepBut.refl w g none); have HL := zm hB.size; clear hI; have HW0 := zm hB.size; have HB := zm hB; clear hB; have H : (if s0_1 < (s0_0.length : Int) then (if 0 ≤ s0_1 then (some (Go.bits .and .i64 (wrap64 ((Go.bits .and .i64 (Go.bits .xor .i64 ((wrap64 ((wrap64 (s0_2 * 6364136223846793005)) + 1442695040888963407)) / 8589934592) ((wrap64 ((wrap64 (s0_2 * 6364136223846793005)) + 1442695040888963407)) / 35184372088832)) 255) + (wrap64 (rd s0_0 s0_1)))) 255, wrap64 (s0_1 + 1), wrap64 ((wrap64 (s0_2 * 6364136223846793005)) + 1442695040888963407))) else (none)) else (some (Go.bits .and .i64 (Go.bits .xor .i64 ((wrap64 ((wrap64 (s0_2 * 6364136223846793005)) + 1442695040888963407)) / 8589934592) ((wrap64 ((wrap64 (s0_2 * 6364136223846793005)) + 1442695040888963407)) / 35184372088832)) 255, s0_1, wrap64 ((wrap64 (s0_2 * 6364136223846793005)) + 1442695040888963407)))) = some (r1, r2, r3) := h; clear h
 by_cases c2 : s0_1 < (s0_0.length : Int)
 ·rw [if_pos c2] at H; have AA : decide (s0_1 < (s0_0.length : Int)) = true := decide_eq_true c2; clear c2
  by_cases c3 : 0 ≤ s0_1
  ·rw [if_pos c3] at H; have AL : decide (0 ≤ s0_1) = true := decide_eq_true c3; clear c3; simp only [Option.some.injEq, Prod.mk.injEq] at H; obtain ⟨rfl, rfl, rfl⟩ := H; obtain ⟨ASz4_0, cSz4_0, HGz4, hgz4, HSz4_0⟩ := HI0.out; have AB := cellS82_0 HGz4; have AC := cellS82_1 HGz4; have AD := cellS82_2 HGz4; have AH := blk_frozen HGz4 1; have AI := blk_frozen HGz4 2; clear HGz4 hgz4; have p118 : 0 ≤ (s0_1 : Int) := zd; have q118 : s0_1 < (s0_0.length : Int) := zd; obtain ⟨ad118, e118, hx118_0⟩ := Kd.at_int HSz4_0 s0_1 p118 q118; cases e118; have hn118_0 : ad118.block ≠ g := Nat.ne_of_lt (Nat.lt_of_lt_of_le (by have := World.block_lt_of_cell? _ _ hx118_0; first | rwa [add_block] at this | exact this) (IsS82.ge HI0.out)); replace hx118_0 := pw_cell_below HB.out hx118_0; replace hx118_0 := (cell_far (p := ⟨g, 2, none⟩) (by first | (rw [add_block]; exact hn118_0) | (show (Addr.add _ _).block ≠ _; rw [add_block]; exact hn118_0) | exact hn118_0) (.int .i64 (wrap64 ((wrap64 (s0_2 * 6364136223846793005)) + 1442695040888963407)))).trans hx118_0
   (try have hy118_0 := fun (n_ : Nat) => (show (((w.drewN n_).setCell ⟨g, 2, none⟩ (.int .i64 (wrap64 ((wrap64 (s0_2 * 6364136223846793005)) + 1442695040888963407))))).cell? _ = some _ from hx118_0))
   clear hn118_0; replace p118 := eq_true p118; replace q118 := eq_true q118; go_enter Try.func67, Try.ntmps67
   go_wp2
   repeat (go_quiet (fail); try go_wp2)
   go_ret
   exact ⟨zE, zI, zH, zK⟩
  ·rw [if_neg c3] at H
   exact absurd H (by simp)
 ·rw [if_neg c2] at H; have AA : decide (s0_1 < (s0_0.length : Int)) = false := decide_eq_false c2; clear c2; simp only [Option.some.injEq, Prod.mk.injEq] at H; obtain ⟨rfl, rfl, rfl⟩ := H; obtain ⟨ASz5_0, cSz5_0, HGz5, hgz5, HSz5_0⟩ := HI0.out; have AE := cellS82_0 HGz5; have AF := cellS82_1 HGz5; have AG := cellS82_2 HGz5; have AJ := blk_frozen HGz5 1; have AK := blk_frozen HGz5 2; clear HGz5 hgz5; go_enter Try.func67, Try.ntmps67
  go_wp2
  repeat (go_quiet (fail); try go_wp2)
  go_ret
  exact ⟨zE, zI, zH, zK⟩

/-! ### spec_l1Below: function 54 -/
def spec_l1Below.f (s0_0 : List Int) (s0_1 : Int) (s0_2 : Int) (a1 : Int) : Option (Int × Int × Int) := if a1 ≤ 0 then (some (0, s0_1, s0_2)) else (if a1 ≤ 256 then ((spec_l1Byte.f s0_0 s0_1 s0_2).bind fun bt119 => (if a1 = 0 then (none) else (some (Int.tmod bt119.1 a1, bt119.2.1, bt119.2.2)))) else ((spec_l1Byte.f s0_0 s0_1 s0_2).bind fun bt122 => ((spec_l1Byte.f s0_0 bt122.2.1 bt122.2.2).bind fun bt125 => ((spec_l1Byte.f s0_0 bt125.2.1 bt125.2.2).bind fun bt128 => ((spec_l1Byte.f s0_0 bt128.2.1 bt128.2.2).bind fun bt131 => (if a1 = 0 then (none) else (some (Int.tmod (wrap64 ((wrap64 ((wrap64 ((wrap64 (bt122.1 * 16777216)) + (wrap64 (bt125.1 * 65536)))) + (wrap64 (bt128.1 * 256)))) + bt131.1)) a1, bt131.2.1, bt131.2.2))))))))
set_option maxHeartbeats 8000000 in
set_option maxRecDepth 100000 in
theorem spec_l1Below.calls (g : Nat) (s0_0 : List Int) (s0_1 : Int) (s0_2 : Int) (a1 : Int) (r1 : Int) (r2 : Int) (r3 : Int) (w0 w : World) (hI : IsS82 w0 w g s0_0 s0_1 s0_2) (hB : Below w0.heap.size w0 w) (h : spec_l1Below.f s0_0 s0_1 s0_2 a1 = some (r1, r2, r3)) :
  Calls Try.prog 54 #[.pointer (some ⟨g, 0, none⟩), .int .i64 a1] w fun e w' => e = .returned (.int .i64 r1) ∧ IsS82 w0 w' g s0_0 r2 r3 ∧ Below w0.heap.size w0 w' ∧ KeepBut w w' g none := by
 have HI0 := zm hI; have HK := zm (KeepBut.refl w g none); have HL := zm hB.size; clear hI; have HW0 := zm hB.size; have HB := zm hB; clear hB; have H : (if a1 ≤ 0 then (some (0, s0_1, s0_2)) else (if a1 ≤ 256 then ((spec_l1Byte.f s0_0 s0_1 s0_2).bind fun AA => (if a1 = 0 then (none) else (some (Int.tmod AA.1 a1, AA.2.1, AA.2.2)))) else ((spec_l1Byte.f s0_0 s0_1 s0_2).bind fun AB => ((spec_l1Byte.f s0_0 AB.2.1 AB.2.2).bind fun AC => ((spec_l1Byte.f s0_0 AC.2.1 AC.2.2).bind fun AD => ((spec_l1Byte.f s0_0 AD.2.1 AD.2.2).bind fun AE => (if a1 = 0 then (none) else (some (Int.tmod (wrap64 ((wrap64 ((wrap64 ((wrap64 (AB.1 * 16777216)) + (wrap64 (AC.1 * 65536)))) + (wrap64 (AD.1 * 256)))) + AE.1)) a1, AE.2.1, AE.2.2))))))))) = some (r1, r2, r3) := h; clear h
 by_cases c3 : a1 ≤ 0
 ·rw [if_pos c3] at H; have AR : decide (a1 ≤ 0) = true := decide_eq_true c3; clear c3; simp only [Option.some.injEq, Prod.mk.injEq] at H; obtain ⟨rfl, rfl, rfl⟩ := H; go_enter Try.func54, Try.ntmps54
  go_wp2
  go_ret
  exact ⟨zE, zI, zH, zK⟩
 ·rw [if_neg c3] at H; have AR : decide (a1 ≤ 0) = false := decide_eq_false c3; clear c3
  by_cases c4 : a1 ≤ 256
  ·rw [if_pos c4] at H; have AS : decide (a1 ≤ 256) = true := decide_eq_true c4; clear c4; replace H := Option.bind_eq_some_iff.mp H; obtain ⟨⟨AT, AU, AV⟩, AO, H⟩ := H; (try dsimp only at H); have A5 := zm AO; clear AO
   by_cases c6 : a1 = 0
   ·rw [if_pos c6] at H
    exact absurd H (by simp)
   ·rw [if_neg c6] at H; have Ag : (a1 == 0) = false := beq_eq_false_iff_ne.mpr c6; have Ah : (a1 != 0) = true := bne_iff_ne.mpr c6; simp only [Option.some.injEq, Prod.mk.injEq] at H; obtain ⟨rfl, rfl, rfl⟩ := H; go_enter Try.func54, Try.ntmps54
    go_wp2_with (first | ((with_reducible refine gate_callee (f := 67) rfl ?_); refine zg (some 14) #[.pointer (some ⟨g, 0, none⟩)] Try.func67 ?_; (with_reducible refine (spec_l1Byte.calls g s0_0 s0_1 s0_2 AT AU AV w0 _ zI zH A5.out).mono ?_); rintro e w7 ⟨rfl, hi, hb, hk⟩; refine ⟨_, rfl, ?_⟩; replace HK := zkt hk; replace HB := zm hb; replace HI0 := zm hi; clear hb hk hi))
    go_ret
    exact ⟨zE, zI, zH, zK⟩
  ·rw [if_neg c4] at H; have AS : decide (a1 ≤ 256) = false := decide_eq_false c4; clear c4; replace H := Option.bind_eq_some_iff.mp H; obtain ⟨⟨AW, AI, AJ⟩, AP, H⟩ := H; (try dsimp only at H); have A8 := zm AP; clear AP; replace H := Option.bind_eq_some_iff.mp H; obtain ⟨⟨AX, AK, AL⟩, AQ, H⟩ := H; (try dsimp only at H); have A9 := zm AQ; clear AQ; replace H := Option.bind_eq_some_iff.mp H; obtain ⟨⟨AY, AM, AN⟩, AG, H⟩ := H; (try dsimp only at H); have Ac := zm AG; clear AG; replace H := Option.bind_eq_some_iff.mp H; obtain ⟨⟨AZ, Aa, Ab⟩, AH, H⟩ := H; (try dsimp only at H); have Ad := zm AH; clear AH
   by_cases AF : a1 = 0
   ·rw [if_pos AF] at H
    exact absurd H (by simp)
   ·rw [if_neg AF] at H; have Ae : (a1 == 0) = false := beq_eq_false_iff_ne.mpr AF; have Af : (a1 != 0) = true := bne_iff_ne.mpr AF; simp only [Option.some.injEq, Prod.mk.injEq] at H; obtain ⟨rfl, rfl, rfl⟩ := H; go_enter Try.func54, Try.ntmps54
    go_wp2_with (first | ((with_reducible refine gate_callee (f := 67) rfl ?_); refine zg (some 18) #[.pointer (some ⟨g, 0, none⟩)] Try.func67 ?_; (with_reducible refine (spec_l1Byte.calls g s0_0 s0_1 s0_2 AW AI AJ w0 _ zI zH A8.out).mono ?_); rintro e Ai ⟨rfl, hi, hb, hk⟩; refine ⟨_, rfl, ?_⟩; replace HK := zkt hk; replace HB := zm hb; replace HI0 := zm hi; clear hb hk hi) | ((with_reducible refine gate_callee (f := 67) rfl ?_); refine zg (some 20) #[.pointer (some ⟨g, 0, none⟩)] Try.func67 ?_; (with_reducible refine (spec_l1Byte.calls g s0_0 AI AJ AX AK AL w0 _ zI zH A9.out).mono ?_); rintro e Aj ⟨rfl, hi, hb, hk⟩; refine ⟨_, rfl, ?_⟩; replace HK := zkt hk; replace HB := zm hb; replace HI0 := zm hi; clear hb hk hi) | ((with_reducible refine gate_callee (f := 67) rfl ?_); refine zg (some 22) #[.pointer (some ⟨g, 0, none⟩)] Try.func67 ?_; (with_reducible refine (spec_l1Byte.calls g s0_0 AK AL AY AM AN w0 _ zI zH Ac.out).mono ?_); rintro e Ak ⟨rfl, hi, hb, hk⟩; refine ⟨_, rfl, ?_⟩; replace HK := zkt hk; replace HB := zm hb; replace HI0 := zm hi; clear hb hk hi) | ((with_reducible refine gate_callee (f := 67) rfl ?_); refine zg (some 24) #[.pointer (some ⟨g, 0, none⟩)] Try.func67 ?_; (with_reducible refine (spec_l1Byte.calls g s0_0 AM AN AZ Aa Ab w0 _ zI zH Ad.out).mono ?_); rintro e Al ⟨rfl, hi, hb, hk⟩; refine ⟨_, rfl, ?_⟩; replace HK := zkt hk; replace HB := zm hb; replace HI0 := zm hi; clear hb hk hi))
    go_ret
    exact ⟨zE, zI, zH, zK⟩

/-! ### spec_l1PickInt: function 43 -/
def spec_l1PickInt.f (s0_0 : List Int) (s0_1 : Int) (s0_2 : Int) (l1 : List Int) : Option (Int × Int × Int) := (spec_l1Below.f s0_0 s0_1 s0_2 (l1.length : Int)).bind fun bt134 => (if 0 ≤ bt134.1 then (if bt134.1 < (l1.length : Int) then (some (rd l1 bt134.1, bt134.2.1, bt134.2.2)) else (none)) else (none))
set_option maxHeartbeats 8000000 in
set_option maxRecDepth 100000 in
theorem spec_l1PickInt.calls (g : Nat) (s0_0 : List Int) (s0_1 : Int) (s0_2 : Int) (A1 : Option Addr) (c1 : Nat) (l1 : List Int) (r1 : Int) (r2 : Int) (r3 : Int) (w0 w : World) (hI : IsS82 w0 w g s0_0 s0_1 s0_2) (hB : Below w0.heap.size w0 w) (hr1 : Kd.C (Kd.int .i64) w A1 l1.length l1) (hc1 : l1.length ≤ c1) (hf1 : ∀ ad, A1 = some ad → 0 < l1.length → ad.block ≠ g) (h : spec_l1PickInt.f s0_0 s0_1 s0_2 l1 = some (r1, r2, r3)) :
  Calls Try.prog 43 #[.pointer (some ⟨g, 0, none⟩), .slice A1 l1.length c1] w fun e w' => e = .returned (.int .i64 r1) ∧ IsS82 w0 w' g s0_0 r2 r3 ∧ Below w0.heap.size w0 w' ∧ KeepBut w w' g none := by
 have HR1 := zm hr1; have AH := zm hc1; clear hr1 hc1; have HI0 := zm hI; have HK := zm (KeepBut.refl w g none); have HL := zm hB.size; clear hI; have HW0 := zm hB.size; have HB := zm hB; clear hB; have H : ((spec_l1Below.f s0_0 s0_1 s0_2 (l1.length : Int)).bind fun AB => (if 0 ≤ AB.1 then (if AB.1 < (l1.length : Int) then (some (rd l1 AB.1, AB.2.1, AB.2.2)) else (none)) else (none))) = some (r1, r2, r3) := h; clear h; replace H := Option.bind_eq_some_iff.mp H; obtain ⟨⟨AA, AD, AE⟩, AC, H⟩ := H; (try dsimp only at H); have A3 := zm AC; clear AC
 by_cases c4 : 0 ≤ AA
 ·rw [if_pos c4] at H; have AF : decide (0 ≤ AA) = true := decide_eq_true c4; clear c4
  by_cases c5 : AA < (l1.length : Int)
  ·rw [if_pos c5] at H; have AG : decide (AA < (l1.length : Int)) = true := decide_eq_true c5; clear c5; simp only [Option.some.injEq, Prod.mk.injEq] at H; obtain ⟨rfl, rfl, rfl⟩ := H; go_enter Try.func43, Try.ntmps43
   go_wp2_with (first | ((with_reducible refine gate_callee (f := 54) rfl ?_); refine zg (some 9) #[.pointer (some ⟨g, 0, none⟩), .int .i64 (l1.length : Int)] Try.func54 ?_; (with_reducible refine (spec_l1Below.calls g s0_0 s0_1 s0_2 (l1.length : Int) AA AD AE w0 _ zI zH A3.out).mono ?_); rintro e w6 ⟨rfl, hi, hb, hk⟩; refine ⟨_, rfl, ?_⟩; replace HK := zkt hk; replace HB := zm hb; replace HI0 := zm hi; clear hb hk hi; have p137 : 0 ≤ (AA : Int) := zd; have q137 : AA < (l1.length : Int) := zd; obtain ⟨ad137, e137, hx137_0⟩ := Kd.at_int HR1.out AA p137 q137; cases e137; replace hx137_0 := keep_cell HK.out hx137_0 (by first | (rw [add_block]; exact hf1 _ rfl (by omega)) | exact hf1 _ rfl (by omega) | exact hf1 ad137 rfl (by omega)); replace p137 := eq_true p137; replace q137 := eq_true q137))
   go_ret
   exact ⟨zE, zI, zH, zK⟩
  ·rw [if_neg c5] at H
   exact absurd H (by simp)
 ·rw [if_neg c4] at H
  exact absurd H (by simp)

/-! ### spec_l1New: function 44 -/
def spec_l1New.l0 : Nat → List Int → Int → Int → Option (List Int × Int × Int)
 | 0, _, _, _ => none
 | k + 1, x0, x3, x4 => if x4 < (x0.length : Int) then (if x4 < 4000 then (if 0 ≤ x4 then (spec_l1New.l0 k x0 (Go.bits .and .i64 (wrap64 ((wrap64 ((wrap64 (x3 * 131)) + (wrap64 (rd x0 x4)))) + 7)) 1073741823) (wrap64 (x4 + 1))) else (none)) else (some (x0, 0, x3))) else (some (x0, 0, x3))
def spec_l1New.f (k : Nat) (l0 : List Int) : Option (List Int × Int × Int) := spec_l1New.l0 k l0 (wrap64 (26583 + (l0.length : Int))) 0
theorem spec_l1New.mono_l : ∀ k, (∀ y0 y1 y2, LeO (spec_l1New.l0 k y0 y1 y2) (spec_l1New.l0 (k + 1) y0 y1 y2))
 | 0 => fun _ _ _ r h => by simp [spec_l1New.l0] at h
 | k + 1 => by
  have ih0 := spec_l1New.mono_l k
  ·intro y0 y1 y2
   unfold spec_l1New.l0
   repeat' first | (with_reducible first | exact LeO.refl _ | exact LeO.none _ | refine LeO.ite ?_ ?_ | refine LeO.bind ?_ (fun _ => ?_) | apply ih0) | apply ih0 | exact LeO.none _ | refine LeO.ite ?_ ?_ | refine LeO.bind ?_ (fun _ => ?_)
theorem spec_l1New.mono : ∀ a0 k, LeO (spec_l1New.f k a0) (spec_l1New.f (k + 1) a0) := by
 intro a0 k; have ih0 := spec_l1New.mono_l k
 unfold spec_l1New.f
 repeat' first | (with_reducible first | exact LeO.refl _ | exact LeO.none _ | refine LeO.ite ?_ ?_ | refine LeO.bind ?_ (fun _ => ?_) | apply ih0) | apply ih0 | exact LeO.none _ | refine LeO.ite ?_ ?_ | refine LeO.bind ?_ (fun _ => ?_)
set_option maxHeartbeats 8000000 in
set_option maxRecDepth 100000 in
theorem spec_l1New.calls (k : Nat) (A0 : Option Addr) (c0 : Nat) (l0 : List Int) (r1 : List Int) (r2 : Int) (r3 : Int) (w0 w : World) (hB : Below w0.heap.size w0 w) (hr0 : Kd.C (Kd.int .u8) w0 A0 l0.length l0) (hc0 : l0.length ≤ c0) (h : spec_l1New.f k l0 = some (r1, r2, r3)) :
  Calls Try.prog 44 #[.slice A0 l0.length c0] w fun e w' => ∃ g_ : Nat, e = .returned (.pointer (some ⟨g_, 0, none⟩)) ∧ IsS82 w0 w' g_ r1 r2 r3 ∧ Below w0.heap.size w0 w' ∧ Below w.heap.size w w' := by
 have hu82 := Try.underlying82; have HR0 := zm hr0; have AO := zm hc0; clear hr0 hc0; have HBW := zm (Below.refl w.heap.size w); have HW0 := zm hB.size; have HB := zm hB; clear hB; have H : (spec_l1New.l0 k l0 (wrap64 (26583 + (l0.length : Int))) 0) = some (r1, r2, r3) := h; clear h
 have H' := zm H
 clear H; go_enter Try.func44, Try.ntmps44
 go_wp2
 go_loopg [3, 4] k (fun kq v3 v4 w' => ∃ (AB : Int) (AA : Int), v3 = .int .i64 AB ∧ v4 = .int .i64 AA ∧ Aside0 (spec_l1New.l0 kq l0 AB AA = some (r1, r2, r3)) ∧ Aside0 (kq ≤ k) ∧ Aside0 (Below w0.heap.size w0 w') ∧ Aside0 (Below w.heap.size w w'))
 case atStart => exact ⟨(wrap64 (26583 + (l0.length : Int))), (0), zF, zF, H', ⟨Nat.le_refl _⟩, ⟨zB⟩, ⟨by repeat (first | (with_reducible first | exact HBW.out | apply below_alloc | apply pw_below_drewN | apply below_drew1) | exact HBW.out)⟩⟩
 case round =>
  clear H'; obtain ⟨AB, AA, rfl, rfl, HA, AK, HB, HBW⟩ := hrel
  cases gk with
  | zero => exact absurd HA.out (by simp [spec_l1New.l0])
  | succ k1 =>
   have H := HA.out; clear HA; simp only [spec_l1New.l0] at H
   by_cases c2 : AA < (l0.length : Int)
   ·rw [if_pos c2] at H; have AL : decide (AA < (l0.length : Int)) = true := decide_eq_true c2; clear c2
    by_cases c3 : AA < 4000
    ·rw [if_pos c3] at H; have AM : decide (AA < 4000) = true := decide_eq_true c3; clear c3
     by_cases c4 : 0 ≤ AA
     ·rw [if_pos c4] at H; have AN : decide (0 ≤ AA) = true := decide_eq_true c4; clear c4
      have H' := zm H
      clear H; have p138 : 0 ≤ (AA : Int) := zd; have q138 : AA < (l0.length : Int) := zd; obtain ⟨ad138, e138, hx138_0⟩ := Kd.at_int HR0.out AA p138 q138; cases e138; replace hx138_0 := pw_cell_below HB.out hx138_0; replace p138 := eq_true p138; replace q138 := eq_true q138
      go_wp2
      go_roundg k1
      case measure => have := AK.out; omega
      case rel => exact ⟨(Go.bits .and .i64 (wrap64 ((wrap64 ((wrap64 (AB * 131)) + (wrap64 (rd l0 AA)))) + 7)) 1073741823), (wrap64 (AA + 1)), zF, zF, H', ⟨by have := AK.out; omega⟩, ⟨zB⟩, ⟨by repeat (first | (with_reducible first | exact HBW.out | apply below_alloc | apply pw_below_drewN | apply below_drew1) | exact HBW.out)⟩⟩
     ·rw [if_neg c4] at H
      exact absurd H (by simp)
    ·rw [if_neg c3] at H; have AM : decide (AA < 4000) = false := decide_eq_false c3; clear c3; simp only [Option.some.injEq, Prod.mk.injEq] at H; obtain ⟨rfl, rfl, rfl⟩ := H
     go_wp2_with (first | ((with_reducible refine gate_dst (N := 31) rfl ?_); refine zbox 31 #[.slice A0 l0.length c0, .int .i64 0, .int .i64 AB] 82 ?_; intro AC hg w5 hbox hb; replace HB := zm (below_step zB hb); have AE := zm (hbox); have AI := zm ((by rw [hg]; exact (below_size (by repeat (first | (with_reducible first | exact HBW.out | apply below_alloc | apply pw_below_drewN | apply below_drew1) | exact HBW.out))) : w.heap.size ≤ AC)); have AG := zm ((Nat.le_trans HW0.out (by rw [hg]; exact (below_size (by repeat (first | (with_reducible first | exact HBW.out | apply below_alloc | apply pw_below_drewN | apply below_drew1) | exact HBW.out))) : w.heap.size ≤ AC) : w0.heap.size ≤ AC)); replace HBW := zm (below_step HBW.out hb); clear hb hbox hg))
     go_ret
     exact ⟨_, rfl, (show IsS82 w0 _ AC l0 0 AB from ⟨_, _, by (with_reducible repeat (first | refine blk_drewN ?_ _ | refine blk_drew ?_ | refine blk_alloc ?_ _)); exact AE.out, AG.out, HR0.out⟩), zB, by repeat (first | (with_reducible first | exact HBW.out | apply below_alloc | apply pw_below_drewN | apply below_drew1 | refine below_set ?_ AI.out) | exact HBW.out)⟩
   ·rw [if_neg c2] at H; have AL : decide (AA < (l0.length : Int)) = false := decide_eq_false c2; clear c2; simp only [Option.some.injEq, Prod.mk.injEq] at H; obtain ⟨rfl, rfl, rfl⟩ := H
    go_wp2_with (first | ((with_reducible refine gate_dst (N := 31) rfl ?_); refine zbox 31 #[.slice A0 l0.length c0, .int .i64 0, .int .i64 AB] 82 ?_; intro AD hg w6 hbox hb; replace HB := zm (below_step zB hb); have AF := zm (hbox); have AJ := zm ((by rw [hg]; exact (below_size (by repeat (first | (with_reducible first | exact HBW.out | apply below_alloc | apply pw_below_drewN | apply below_drew1) | exact HBW.out))) : w.heap.size ≤ AD)); have AH := zm ((Nat.le_trans HW0.out (by rw [hg]; exact (below_size (by repeat (first | (with_reducible first | exact HBW.out | apply below_alloc | apply pw_below_drewN | apply below_drew1) | exact HBW.out))) : w.heap.size ≤ AD) : w0.heap.size ≤ AD)); replace HBW := zm (below_step HBW.out hb); clear hb hbox hg))
    go_ret
    exact ⟨_, rfl, (show IsS82 w0 _ AD l0 0 AB from ⟨_, _, by (with_reducible repeat (first | refine blk_drewN ?_ _ | refine blk_drew ?_ | refine blk_alloc ?_ _)); exact AF.out, AH.out, HR0.out⟩), zB, by repeat (first | (with_reducible first | exact HBW.out | apply below_alloc | apply pw_below_drewN | apply below_drew1 | refine below_set ?_ AJ.out) | exact HBW.out)⟩

/-! ### spec_DrawPutNum: function 19 -/
def spec_DrawPutNum.f (k : Nat) (l0 : List Int) : Option (Int) := (spec_l1New.f k l0).bind fun bt141 => ((spec_l1PickInt.f bt141.1 bt141.2.1 bt141.2.2 (([0, 1, 127, 128, 300, 16384, 2147483647, 2147483648, (-1), 9223372036854775807] : List Int))).bind fun bt148 => (some bt148.1))
theorem spec_DrawPutNum.mono : ∀ a0 k, LeO (spec_DrawPutNum.f k a0) (spec_DrawPutNum.f (k + 1) a0) := by
 intro a0 k
 unfold spec_DrawPutNum.f
 repeat' first | (with_reducible first | exact LeO.refl _ | exact LeO.none _ | refine LeO.ite ?_ ?_ | refine LeO.bind ?_ (fun _ => ?_) | apply spec_l1New.mono) | apply spec_l1New.mono | exact LeO.none _ | refine LeO.ite ?_ ?_ | refine LeO.bind ?_ (fun _ => ?_)
set_option maxHeartbeats 8000000 in
set_option maxRecDepth 100000 in
theorem spec_DrawPutNum.calls (k : Nat) (A0 : Option Addr) (c0 : Nat) (l0 : List Int) (r : Int) (w : World) (hr0 : Kd.C (Kd.int .u8) w A0 l0.length l0) (hc0 : l0.length ≤ c0) (h : spec_DrawPutNum.f k l0 = some r) :
  Calls Try.prog 19 #[.slice A0 l0.length c0] w fun e w' => e = .returned (.int .i64 r) ∧ Below w.heap.size w w' := by
 have HR0 := zm hr0; have AM := zm hc0; clear hr0 hc0; have HB := zm (Below.refl w.heap.size w); have H : ((spec_l1New.f k l0).bind fun AB => ((spec_l1PickInt.f AB.1 AB.2.1 AB.2.2 (([0, 1, 127, 128, 300, 16384, 2147483647, 2147483648, (-1), 9223372036854775807] : List Int))).bind fun AC => (some AC.1))) = some r := h; clear h; replace H := Option.bind_eq_some_iff.mp H; obtain ⟨⟨AD, AE, AF⟩, AG, H⟩ := H; (try dsimp only at H); have A2 := zm AG; clear AG
 obtain ⟨y145, hy145⟩ : ∃ y_ : List Int, y_ = (([0, 1, 127, 128, 300, 16384, 2147483647, 2147483648, (-1), 9223372036854775807] : List Int)) := ⟨_, rfl⟩
 replace H : ((spec_l1PickInt.f AD AE AF y145).bind fun AC => (some AC.1)) = some r := by first | (rw [hy145]; with_reducible exact H) | (have H2_ := (Option.bind_some _ _).symm.trans H; rw [hy145]; with_reducible exact H2_) | (have H2_ := (Option.bind_some _ _).symm.trans H; with_reducible exact H2_) | with_reducible exact H | (rw [hy145]; exact H) | exact H
 have Ny145 := zm hy145; clear hy145; replace H := Option.bind_eq_some_iff.mp H; obtain ⟨⟨AI, AJ, AK⟩, AH, H⟩ := H; (try dsimp only at H); have A3 := zm AH; clear AH; obtain rfl := Option.some.inj H; go_enter Try.func19, Try.ntmps19
 go_wp2_with (first | ((with_reducible refine gate_callee (f := 44) rfl ?_); refine zg (some 4) #[.slice A0 l0.length c0] Try.func44 ?_; (with_reducible refine (spec_l1New.calls k _ _ l0 AD AE AF w _ zB HR0.out AM.out A2.out).mono ?_); rintro e w4 ⟨g144, rfl, hi, hb, hb2⟩; refine ⟨_, rfl, ?_⟩; replace HB := zm hb; have HI0 := zm hi; clear hb hb2 hi) | ((with_reducible refine gate_dst (N := 5) rfl ?_); refine Kd.R_lit (Kd.int .i64) _ 3 ?hg (N := 5) ?hd (xs := ([0, 1, 127, 128, 300, 16384, 2147483647, 2147483648, (-1), 9223372036854775807] : List Int)) (inner := [.int .i64 0, .int .i64 1, .int .i64 127, .int .i64 128, .int .i64 300, .int .i64 16384, .int .i64 2147483647, .int .i64 2147483648, .int .i64 (-1), .int .i64 9223372036854775807]) (ok := fun _ => True) (okp := fun _ => True) ?hr ?hp (fun _ hk => hk) trivial (Below.refl _ _) (Nat.le_refl _) (by simp) ?_; (case hd => rfl); (case hg => rfl); (case hr => first | (go_simp; done) | (go_simp; rfl)); (case hp => exact (Reps.one (show Kd.M (Kd.int .i64) _ _ _ 0 [.int .i64 0] from rfl) (Reps.one (show Kd.M (Kd.int .i64) _ _ _ 1 [.int .i64 1] from rfl) (Reps.one (show Kd.M (Kd.int .i64) _ _ _ 127 [.int .i64 127] from rfl) (Reps.one (show Kd.M (Kd.int .i64) _ _ _ 128 [.int .i64 128] from rfl) (Reps.one (show Kd.M (Kd.int .i64) _ _ _ 300 [.int .i64 300] from rfl) (Reps.one (show Kd.M (Kd.int .i64) _ _ _ 16384 [.int .i64 16384] from rfl) (Reps.one (show Kd.M (Kd.int .i64) _ _ _ 2147483647 [.int .i64 2147483647] from rfl) (Reps.one (show Kd.M (Kd.int .i64) _ _ _ 2147483648 [.int .i64 2147483648] from rfl) (Reps.one (show Kd.M (Kd.int .i64) _ _ _ (-1) [.int .i64 (-1)] from rfl) (Reps.one (show Kd.M (Kd.int .i64) _ _ _ 9223372036854775807 [.int .i64 9223372036854775807] from rfl) (Reps.none _ _)))))))))))); intro v146 w5 ho6 hb hg_ hnew_; clear hg_ hnew_; (first | rw [← Ny145.out] at ho6 | (simp only [Int.reduceToNat] at ho6; rw [← Ny145.out] at ho6)); have AA := zm (Kd.R_lower ho6 (below_size zH)); replace HB := zbh hb; replace HI0 := zib82 hb zI; clear hb ho6; obtain ⟨AL, AN, eo7⟩ := Kd.R_slice AA.out; subst eo7) | ((with_reducible refine gate_callee (f := 43) rfl ?_); refine zg (some 6) #[.pointer (some ⟨g144, 0, none⟩), .slice AL y145.length AN] Try.func43 ?_; (with_reducible refine (spec_l1PickInt.calls g144 AD AE AF _ _ y145 AI AJ AK w _ zI zH ?side3 ?side4 ?side5 A3.out).mono ?_); (case side3 => repeat (first | exact (Kd.R_reads' AA.out).2.2 | (with_reducible refine Kd.C_alloc ?_ _) | (with_reducible refine Kd.C_drewN ?_ _) | (with_reducible refine Kd.C_drew ?_))); (case side4 => exact (Kd.R_reads' AA.out).2.1); (case side5 => exact far_slice (IsS82.own_ne HI0.out AA.out (by decide))); rintro e w8 ⟨rfl, hi, hb, hk⟩; refine ⟨_, rfl, ?_⟩; replace AA := zka82 (show IsS82 w _ g144 AD AE AF from zI) (zr AA) hk; replace HB := zm hb; replace HI0 := zm hi; clear hb hk hi))
 go_ret
 exact ⟨zE, zH⟩

/-! ### spec_l1Pick: function 45 -/
def spec_l1Pick.f (s0_0 : List Int) (s0_1 : Int) (s0_2 : Int) (l1 : List ByteArray) : Option (ByteArray × Int × Int) := (spec_l1Below.f s0_0 s0_1 s0_2 (l1.length : Int)).bind fun bt151 => (if 0 ≤ bt151.1 then (if bt151.1 < (l1.length : Int) then (some (rdOf ByteArray.empty l1 bt151.1, bt151.2.1, bt151.2.2)) else (none)) else (none))
set_option maxHeartbeats 8000000 in
set_option maxRecDepth 100000 in
theorem spec_l1Pick.calls (g : Nat) (s0_0 : List Int) (s0_1 : Int) (s0_2 : Int) (A1 : Option Addr) (c1 : Nat) (l1 : List ByteArray) (r1 : ByteArray) (r2 : Int) (r3 : Int) (w0 w : World) (hI : IsS82 w0 w g s0_0 s0_1 s0_2) (hB : Below w0.heap.size w0 w) (hr1 : Kd.C Kd.string w A1 l1.length l1) (hc1 : l1.length ≤ c1) (hf1 : ∀ ad, A1 = some ad → 0 < l1.length → ad.block ≠ g) (h : spec_l1Pick.f s0_0 s0_1 s0_2 l1 = some (r1, r2, r3)) :
  Calls Try.prog 45 #[.pointer (some ⟨g, 0, none⟩), .slice A1 l1.length c1] w fun e w' => e = .returned (.string r1) ∧ IsS82 w0 w' g s0_0 r2 r3 ∧ Below w0.heap.size w0 w' ∧ KeepBut w w' g none := by
 have HR1 := zm hr1; have AH := zm hc1; clear hr1 hc1; have HI0 := zm hI; have HK := zm (KeepBut.refl w g none); have HL := zm hB.size; clear hI; have HW0 := zm hB.size; have HB := zm hB; clear hB; have H : ((spec_l1Below.f s0_0 s0_1 s0_2 (l1.length : Int)).bind fun AB => (if 0 ≤ AB.1 then (if AB.1 < (l1.length : Int) then (some (rdOf ByteArray.empty l1 AB.1, AB.2.1, AB.2.2)) else (none)) else (none))) = some (r1, r2, r3) := h; clear h; replace H := Option.bind_eq_some_iff.mp H; obtain ⟨⟨AA, AD, AE⟩, AC, H⟩ := H; (try dsimp only at H); have A3 := zm AC; clear AC
 by_cases c4 : 0 ≤ AA
 ·rw [if_pos c4] at H; have AF : decide (0 ≤ AA) = true := decide_eq_true c4; clear c4
  by_cases c5 : AA < (l1.length : Int)
  ·rw [if_pos c5] at H; have AG : decide (AA < (l1.length : Int)) = true := decide_eq_true c5; clear c5; simp only [Option.some.injEq, Prod.mk.injEq] at H; obtain ⟨rfl, rfl, rfl⟩ := H; go_enter Try.func45, Try.ntmps45
   go_wp2_with (first | ((with_reducible refine gate_callee (f := 54) rfl ?_); refine zg (some 9) #[.pointer (some ⟨g, 0, none⟩), .int .i64 (l1.length : Int)] Try.func54 ?_; (with_reducible refine (spec_l1Below.calls g s0_0 s0_1 s0_2 (l1.length : Int) AA AD AE w0 _ zI zH A3.out).mono ?_); rintro e w6 ⟨rfl, hi, hb, hk⟩; refine ⟨_, rfl, ?_⟩; replace HK := zkt hk; replace HB := zm hb; replace HI0 := zm hi; clear hb hk hi; have p154 : 0 ≤ (AA : Int) := zd; have q154 : AA < (l1.length : Int) := zd; obtain ⟨ad154, e154, hx154_0⟩ := Kd.at_string HR1.out AA p154 q154; cases e154; replace hx154_0 := keep_cell HK.out hx154_0 (by first | (rw [add_block]; exact hf1 _ rfl (by omega)) | exact hf1 _ rfl (by omega) | exact hf1 ad154 rfl (by omega)); replace p154 := eq_true p154; replace q154 := eq_true q154))
   go_ret
   exact ⟨zE, zI, zH, zK⟩
  ·rw [if_neg c5] at H
   exact absurd H (by simp)
 ·rw [if_neg c4] at H
  exact absurd H (by simp)

/-! ### spec_DrawPutText: function 20 -/
def spec_DrawPutText.f (k : Nat) (l0 : List Int) : Option (ByteArray) := (spec_l1New.f k l0).bind fun bt155 => ((spec_l1Pick.f bt155.1 bt155.2.1 bt155.2.2 (([(⟨#[]⟩ : ByteArray), (⟨#[97]⟩ : ByteArray), (⟨#[116, 119, 111, 32, 119, 111, 114, 100, 115]⟩ : ByteArray), (⟨#[0, 255]⟩ : ByteArray)] : List ByteArray))).bind fun bt162 => (some bt162.1))
theorem spec_DrawPutText.mono : ∀ a0 k, LeO (spec_DrawPutText.f k a0) (spec_DrawPutText.f (k + 1) a0) := by
 intro a0 k
 unfold spec_DrawPutText.f
 repeat' first | (with_reducible first | exact LeO.refl _ | exact LeO.none _ | refine LeO.ite ?_ ?_ | refine LeO.bind ?_ (fun _ => ?_) | apply spec_l1New.mono) | apply spec_l1New.mono | exact LeO.none _ | refine LeO.ite ?_ ?_ | refine LeO.bind ?_ (fun _ => ?_)
set_option maxHeartbeats 8000000 in
set_option maxRecDepth 100000 in
theorem spec_DrawPutText.calls (k : Nat) (A0 : Option Addr) (c0 : Nat) (l0 : List Int) (r : ByteArray) (w : World) (hr0 : Kd.C (Kd.int .u8) w A0 l0.length l0) (hc0 : l0.length ≤ c0) (h : spec_DrawPutText.f k l0 = some r) :
  Calls Try.prog 20 #[.slice A0 l0.length c0] w fun e w' => e = .returned (.string r) ∧ Below w.heap.size w w' := by
 have HR0 := zm hr0; have AM := zm hc0; clear hr0 hc0; have HB := zm (Below.refl w.heap.size w); have H : ((spec_l1New.f k l0).bind fun AB => ((spec_l1Pick.f AB.1 AB.2.1 AB.2.2 (([(⟨#[]⟩ : ByteArray), (⟨#[97]⟩ : ByteArray), (⟨#[116, 119, 111, 32, 119, 111, 114, 100, 115]⟩ : ByteArray), (⟨#[0, 255]⟩ : ByteArray)] : List ByteArray))).bind fun AC => (some AC.1))) = some r := h; clear h; replace H := Option.bind_eq_some_iff.mp H; obtain ⟨⟨AD, AE, AF⟩, AG, H⟩ := H; (try dsimp only at H); have A2 := zm AG; clear AG
 obtain ⟨y159, hy159⟩ : ∃ y_ : List ByteArray, y_ = (([(⟨#[]⟩ : ByteArray), (⟨#[97]⟩ : ByteArray), (⟨#[116, 119, 111, 32, 119, 111, 114, 100, 115]⟩ : ByteArray), (⟨#[0, 255]⟩ : ByteArray)] : List ByteArray)) := ⟨_, rfl⟩
 replace H : ((spec_l1Pick.f AD AE AF y159).bind fun AC => (some AC.1)) = some r := by first | (rw [hy159]; with_reducible exact H) | (have H2_ := (Option.bind_some _ _).symm.trans H; rw [hy159]; with_reducible exact H2_) | (have H2_ := (Option.bind_some _ _).symm.trans H; with_reducible exact H2_) | with_reducible exact H | (rw [hy159]; exact H) | exact H
 have Ny159 := zm hy159; clear hy159; replace H := Option.bind_eq_some_iff.mp H; obtain ⟨⟨AI, AJ, AK⟩, AH, H⟩ := H; (try dsimp only at H); have A3 := zm AH; clear AH; obtain rfl := Option.some.inj H; go_enter Try.func20, Try.ntmps20
 go_wp2_with (first | ((with_reducible refine gate_callee (f := 44) rfl ?_); refine zg (some 4) #[.slice A0 l0.length c0] Try.func44 ?_; (with_reducible refine (spec_l1New.calls k _ _ l0 AD AE AF w _ zB HR0.out AM.out A2.out).mono ?_); rintro e w4 ⟨g158, rfl, hi, hb, hb2⟩; refine ⟨_, rfl, ?_⟩; replace HB := zm hb; have HI0 := zm hi; clear hb hb2 hi) | ((with_reducible refine gate_dst (N := 5) rfl ?_); refine Kd.R_lit Kd.string _ 9 ?hg (N := 5) ?hd (xs := ([(⟨#[]⟩ : ByteArray), (⟨#[97]⟩ : ByteArray), (⟨#[116, 119, 111, 32, 119, 111, 114, 100, 115]⟩ : ByteArray), (⟨#[0, 255]⟩ : ByteArray)] : List ByteArray)) (inner := [.string (⟨#[]⟩ : ByteArray), .string (⟨#[97]⟩ : ByteArray), .string (⟨#[116, 119, 111, 32, 119, 111, 114, 100, 115]⟩ : ByteArray), .string (⟨#[0, 255]⟩ : ByteArray)]) (ok := fun _ => True) (okp := fun _ => True) ?hr ?hp (fun _ hk => hk) trivial (Below.refl _ _) (Nat.le_refl _) (by simp) ?_; (case hd => rfl); (case hg => rfl); (case hr => first | (go_simp; done) | (go_simp; rfl)); (case hp => exact (Reps.one (show Kd.M Kd.string _ _ _ (⟨#[]⟩ : ByteArray) [.string (⟨#[]⟩ : ByteArray)] from rfl) (Reps.one (show Kd.M Kd.string _ _ _ (⟨#[97]⟩ : ByteArray) [.string (⟨#[97]⟩ : ByteArray)] from rfl) (Reps.one (show Kd.M Kd.string _ _ _ (⟨#[116, 119, 111, 32, 119, 111, 114, 100, 115]⟩ : ByteArray) [.string (⟨#[116, 119, 111, 32, 119, 111, 114, 100, 115]⟩ : ByteArray)] from rfl) (Reps.one (show Kd.M Kd.string _ _ _ (⟨#[0, 255]⟩ : ByteArray) [.string (⟨#[0, 255]⟩ : ByteArray)] from rfl) (Reps.none _ _)))))); intro v160 w5 ho6 hb hg_ hnew_; clear hg_ hnew_; (first | rw [← Ny159.out] at ho6 | (simp only [Int.reduceToNat] at ho6; rw [← Ny159.out] at ho6)); have AA := zm (Kd.R_lower ho6 (below_size zH)); replace HB := zbh hb; replace HI0 := zib82 hb zI; clear hb ho6; obtain ⟨AL, AN, eo7⟩ := Kd.R_slice AA.out; subst eo7) | ((with_reducible refine gate_callee (f := 45) rfl ?_); refine zg (some 6) #[.pointer (some ⟨g158, 0, none⟩), .slice AL y159.length AN] Try.func45 ?_; (with_reducible refine (spec_l1Pick.calls g158 AD AE AF _ _ y159 AI AJ AK w _ zI zH ?side3 ?side4 ?side5 A3.out).mono ?_); (case side3 => repeat (first | exact (Kd.R_reads' AA.out).2.2 | (with_reducible refine Kd.C_alloc ?_ _) | (with_reducible refine Kd.C_drewN ?_ _) | (with_reducible refine Kd.C_drew ?_))); (case side4 => exact (Kd.R_reads' AA.out).2.1); (case side5 => exact far_slice (IsS82.own_ne HI0.out AA.out (by decide))); rintro e w8 ⟨rfl, hi, hb, hk⟩; refine ⟨_, rfl, ?_⟩; replace AA := zka82 (show IsS82 w _ g158 AD AE AF from zI) (zr AA) hk; replace HB := zm hb; replace HI0 := zm hi; clear hb hk hi))
 go_ret
 exact ⟨zE, zH⟩

/-! ### spec_l1In: function 46 -/
def spec_l1In.f (a0 : Int) (a1 : Int) (a2 : Int) : Option (Bool) := if a0 ≥ a1 then (some (decide (a0 ≤ a2))) else (some false)
set_option maxHeartbeats 8000000 in
set_option maxRecDepth 100000 in
theorem spec_l1In.calls (a0 : Int) (a1 : Int) (a2 : Int) (r : Bool) (w : World) (h : spec_l1In.f a0 a1 a2 = some r) :
  Calls Try.prog 46 #[.int .i64 a0, .int .i64 a1, .int .i64 a2] w fun e w' => e = .returned (.bool r) ∧ Drawn0 w w' := by
 have H : (if a0 ≥ a1 then (some (decide (a0 ≤ a2))) else (some false)) = some r := h; clear h
 by_cases c4 : a0 ≥ a1
 ·rw [if_pos c4] at H; have AA : decide (a1 ≤ a0) = true := decide_eq_true c4; clear c4; obtain rfl := Option.some.inj H; go_enter Try.func46, Try.ntmps46
  go_wp2
  go_ret
  exact ⟨zF, zD⟩
 ·rw [if_neg c4] at H; have AA : decide (a1 ≤ a0) = false := decide_eq_false c4; clear c4; obtain rfl := Option.some.inj H; go_enter Try.func46, Try.ntmps46
  go_wp2
  go_ret
  exact ⟨zF, zD⟩

/-! ### spec_PutNum: function 22 -/
def spec_PutNum.l0 : Nat → Int → List Int → Option (List Int)
 | 0, _, _ => none
 | k + 1, x0, x3 => if x0 > 127 then (if x3.length < 140737488355328 then (spec_PutNum.l0 k (wrap64 (Int.tdiv x0 128)) (x3 ++ [(wrap64 ((Int.tmod x0 128) + 128)) % 256])) else (none)) else (if x3.length < 140737488355328 then (some (x3 ++ [(x0) % 256])) else (none))
def spec_PutNum.f (k : Nat) (a0 : Int) : Option (List Int) := (some (([] : List Int) : List Int)).bind fun y165 => ((spec_l1In.f a0 0 2147483647).bind fun t168 => (if t168 = true then (spec_PutNum.l0 k a0 y165) else (some y165)))
theorem spec_PutNum.mono_l : ∀ k, (∀ y0 y1, LeO (spec_PutNum.l0 k y0 y1) (spec_PutNum.l0 (k + 1) y0 y1))
 | 0 => fun _ _ r h => by simp [spec_PutNum.l0] at h
 | k + 1 => by
  have ih0 := spec_PutNum.mono_l k
  ·intro y0 y1
   unfold spec_PutNum.l0
   repeat' first | (with_reducible first | exact LeO.refl _ | exact LeO.none _ | refine LeO.ite ?_ ?_ | refine LeO.bind ?_ (fun _ => ?_) | apply ih0) | apply ih0 | exact LeO.none _ | refine LeO.ite ?_ ?_ | refine LeO.bind ?_ (fun _ => ?_)
theorem spec_PutNum.mono : ∀ a0 k, LeO (spec_PutNum.f k a0) (spec_PutNum.f (k + 1) a0) := by
 intro a0 k; have ih0 := spec_PutNum.mono_l k
 unfold spec_PutNum.f
 repeat' first | (with_reducible first | exact LeO.refl _ | exact LeO.none _ | refine LeO.ite ?_ ?_ | refine LeO.bind ?_ (fun _ => ?_) | apply ih0) | apply ih0 | exact LeO.none _ | refine LeO.ite ?_ ?_ | refine LeO.bind ?_ (fun _ => ?_)
set_option maxHeartbeats 8000000 in
set_option maxRecDepth 100000 in
theorem spec_PutNum.calls (k : Nat) (a0 : Int) (r : List Int) (w : World) (h : spec_PutNum.f k a0 = some r) :
  Calls Try.prog 22 #[.int .i64 a0] w fun e w' => ∃ v0_ : Value, e = .returned (v0_) ∧ Kd.R (Kd.int .u8) 5 w' w.heap.size (fun _ => True) v0_ r ∧ Below w.heap.size w w' := by
 have HB := zm (Below.refl w.heap.size w); have H : ((some (([] : List Int) : List Int)).bind fun y165 => ((spec_l1In.f a0 0 2147483647).bind fun AC => (if AC = true then (spec_PutNum.l0 k a0 y165) else (some y165)))) = some r := h; clear h
 obtain ⟨y165, hy165⟩ : ∃ y_ : List Int, y_ = (([] : List Int)) := ⟨_, rfl⟩
 replace H : ((spec_l1In.f a0 0 2147483647).bind fun AC => (if AC = true then (spec_PutNum.l0 k a0 y165) else (some y165))) = some r := by first | (rw [hy165]; with_reducible exact H) | (have H2_ := (Option.bind_some _ _).symm.trans H; rw [hy165]; with_reducible exact H2_) | (have H2_ := (Option.bind_some _ _).symm.trans H; with_reducible exact H2_) | with_reducible exact H | (rw [hy165]; exact H) | exact H
 have Ny165 := zm hy165; clear hy165; replace H := Option.bind_eq_some_iff.mp H; obtain ⟨AC, AH, H⟩ := H; (try dsimp only at H); have A2 := zm AH; clear AH
 by_cases c3 : AC = true
 ·subst c3; rw [if_pos rfl] at H
  have H' := zm H
  clear H; go_enter Try.func22, Try.ntmps22
  go_wp2_with (first | ((with_reducible refine gate_dst (N := 4) rfl ?_); refine Kd.R_lit (Kd.int .u8) _ 5 ?hg (N := 4) ?hd (xs := ([] : List Int)) (inner := []) (ok := fun _ => True) (okp := fun _ => True) ?hr ?hp (fun _ hk => hk) trivial (Below.refl _ _) (Nat.le_refl _) (by simp) ?_; (case hd => rfl); (case hg => rfl); (case hr => first | (go_simp; done) | (go_simp; rfl)); (case hp => exact (Reps.none _ _)); intro v166 w4 ho5 hb hg_ hnew_; clear hg_ hnew_; (first | rw [← Ny165.out] at ho5 | (simp only [Int.reduceToNat] at ho5; rw [← Ny165.out] at ho5)); have AD := zm (Kd.R_lower ho5 (below_size zB)); replace HB := zm (below_step zB hb); clear hb ho5) | ((with_reducible refine gate_callee (f := 46) rfl ?_); refine zg (some 6) #[.int .i64 a0, .int .i64 0, .int .i64 2147483647] Try.func46 ?_; (with_reducible refine (spec_l1In.calls a0 0 2147483647 true _ A2.out).mono ?_); rintro e w' ⟨rfl, ⟨nd, rfl⟩⟩; refine ⟨_, rfl, ?_⟩))
  go_loopg [0, 3] k (fun kq v0 v3 w' => ∃ (AA : Int) (AB : List Int), v0 = .int .i64 AA ∧ Aside0 (spec_PutNum.l0 kq AA AB = some r) ∧ Aside0 (kq ≤ k) ∧ Aside0 (Kd.R (Kd.int .u8) 5 w' w.heap.size (fun _ => True) v3 AB) ∧ Aside0 (Below w.heap.size w w'))
  case atStart => exact ⟨(a0), (y165), zF, H', ⟨Nat.le_refl _⟩, ⟨zr AD⟩, ⟨zB⟩⟩
  case round =>
   clear H'; (try clear c3); obtain ⟨AA, AB, rfl, HA, AI, AE, HB⟩ := hrel
   cases gk with
   | zero => exact absurd HA.out (by simp [spec_PutNum.l0])
   | succ k1 =>
    have H := HA.out; clear HA; simp only [spec_PutNum.l0] at H
    by_cases c6 : AA > 127
    ·rw [if_pos c6] at H; have AJ : decide (127 < AA) = true := decide_eq_true c6; clear c6
     by_cases c7 : AB.length < 140737488355328
     ·rw [if_pos c7] at H; have LMc7 := zm c7; clear c7
      obtain ⟨y169, hy169⟩ : ∃ y_ : List Int, y_ = (AB ++ [(wrap64 ((Int.tmod AA 128) + 128)) % 256]) := ⟨_, rfl⟩
      replace H : (spec_PutNum.l0 k1 (wrap64 (Int.tdiv AA 128)) y169) = some r := by first | (rw [hy169]; with_reducible exact H) | (have H2_ := (Option.bind_some _ _).symm.trans H; rw [hy169]; with_reducible exact H2_) | (have H2_ := (Option.bind_some _ _).symm.trans H; with_reducible exact H2_) | with_reducible exact H | (rw [hy169]; exact H) | exact H
      have Ny169 := zm hy169; clear hy169
      have H' := zm H
      clear H
      go_wp2_with (first | ((with_reducible refine gate_builtin (b := .append) (xs := #[.tmp 11, .tmp 16]) rfl ?_); at_builtin; refine Kd.R_append (Kd.int .u8) (w0 := w) w.heap.size rfl (.tmp 11) (.tmp 16) 22 5 (.int .u8 0) 1 rfl Try.underlying22 info5 rfl (by decide) (by omega) u3 AB ((wrap64 ((Int.tmod AA 128) + 128)) % 256) [.int .u8 ((wrap64 ((Int.tmod AA 128) + 128)) % 256)] (fun _ => True) (fun _ => False) rfl rfl ?aP (fun _ hk => hk.elim) ?aF ?aO ?aB ?aS ?aL ?_; (case aP => exact rfl); (case aB => exact zB); (case aF => exact (fun _ _ => trivial)); (case aO => exact (zr AE)); (case aS => exact (below_size zB)); (case aL => have := LMc7.out; omega); intro v170 w8 ho hb hg hat; rw [← Ny169.out] at ho; replace HB := zm hb; have AF := zm (ho); clear AE; clear ho hb hg hat))
      go_roundg k1
      case measure => have := AI.out; omega
      case rel => exact ⟨(wrap64 (Int.tdiv AA 128)), (y169), zF, H', ⟨by have := AI.out; omega⟩, ⟨zr AF⟩, ⟨zB⟩⟩
     ·rw [if_neg c7] at H
      exact absurd H (by simp)
    ·rw [if_neg c6] at H; have AJ : decide (127 < AA) = false := decide_eq_false c6; clear c6
     by_cases c9 : AB.length < 140737488355328
     ·rw [if_pos c9] at H; have LMc9 := zm c9; clear c9
      obtain ⟨y172, hy172⟩ : ∃ y_ : List Int, y_ = (AB ++ [(AA) % 256]) := ⟨_, rfl⟩
      replace H : (some y172) = some r := by first | (rw [hy172]; with_reducible exact H) | (have H2_ := (Option.bind_some _ _).symm.trans H; rw [hy172]; with_reducible exact H2_) | (have H2_ := (Option.bind_some _ _).symm.trans H; with_reducible exact H2_) | with_reducible exact H | (rw [hy172]; exact H) | exact H
      have Ny172 := zm hy172; clear hy172; obtain rfl := Option.some.inj H
      go_wp2_with (first | ((with_reducible refine gate_builtin (b := .append) (xs := #[.tmp 20, .tmp 23]) rfl ?_); at_builtin; refine Kd.R_append (Kd.int .u8) (w0 := w) w.heap.size rfl (.tmp 20) (.tmp 23) 22 5 (.int .u8 0) 1 rfl Try.underlying22 info5 rfl (by decide) (by omega) u3 AB ((AA) % 256) [.int .u8 ((AA) % 256)] (fun _ => True) (fun _ => False) rfl rfl ?aP (fun _ hk => hk.elim) ?aF ?aO ?aB ?aS ?aL ?_; (case aP => exact rfl); (case aB => exact zB); (case aF => exact (fun _ _ => trivial)); (case aO => exact (zr AE)); (case aS => exact (below_size zB)); (case aL => have := LMc9.out; omega); intro v173 AK ho hb hg hat; rw [← Ny172.out] at ho; replace HB := zm hb; have AG := zm (ho); clear AE; clear ho hb hg hat))
      go_ret
      exact ⟨_, zE, zr AG, zB⟩
     ·rw [if_neg c9] at H
      exact absurd H (by simp)
 ·replace c3 := Bool.eq_false_iff.mpr c3; subst c3; rw [zff] at H; obtain rfl := Option.some.inj H; go_enter Try.func22, Try.ntmps22
  go_wp2_with (first | ((with_reducible refine gate_dst (N := 4) rfl ?_); refine Kd.R_lit (Kd.int .u8) _ 5 ?hg (N := 4) ?hd (xs := ([] : List Int)) (inner := []) (ok := fun _ => True) (okp := fun _ => True) ?hr ?hp (fun _ hk => hk) trivial (Below.refl _ _) (Nat.le_refl _) (by simp) ?_; (case hd => rfl); (case hg => rfl); (case hr => first | (go_simp; done) | (go_simp; rfl)); (case hp => exact (Reps.none _ _)); intro v166 AL ho12 hb hg_ hnew_; clear hg_ hnew_; (first | rw [← Ny165.out] at ho12 | (simp only [Int.reduceToNat] at ho12; rw [← Ny165.out] at ho12)); have AD := zm (Kd.R_lower ho12 (below_size zB)); replace HB := zm (below_step zB hb); clear hb ho12) | ((with_reducible refine gate_callee (f := 46) rfl ?_); refine zg (some 6) #[.int .i64 a0, .int .i64 0, .int .i64 2147483647] Try.func46 ?_; (with_reducible refine (spec_l1In.calls a0 0 2147483647 false _ A2.out).mono ?_); rintro e w' ⟨rfl, ⟨nd, rfl⟩⟩; refine ⟨_, rfl, ?_⟩))
  go_ret
  exact ⟨_, zE, zr AD, zB⟩

/-! ### impl_GetNum: function 23 -/
mutual
def impl_GetNum.j0 : Nat → List Int → Int → Bool → Option (Int × Int × Bool)
 | 0, _, _, _ => none
 | k + 1, x0, x1, x17 => if x17 = true then (some (0, 0, false)) else (impl_GetNum.l0 k x0 x1 0 0)
def impl_GetNum.l0 : Nat → List Int → Int → Int → Int → Option (Int × Int × Bool)
 | 0, _, _, _, _ => none
 | k + 1, x0, x1, x7, x8 => if x8 < 5 then (impl_GetNum.j2 k x0 x1 x7 x8 (decide ((wrap64 (x1 + x8)) < (x0.length : Int)))) else (impl_GetNum.j2 k x0 x1 x7 x8 false)
def impl_GetNum.j2 : Nat → List Int → Int → Int → Int → Bool → Option (Int × Int × Bool)
 | 0, _, _, _, _, _ => none
 | k + 1, x0, x1, x7, x8, x27 => if x27 = true then (if 0 ≤ (wrap64 (x1 + x8)) then (if (wrap64 (x1 + x8)) < (x0.length : Int) then (if 0 ≤ (wrap64 (7 * x8)) then (if (wrap64 (rd x0 (wrap64 (x1 + x8)))) ≥ 128 then (impl_GetNum.l0 k x0 x1 (wrap64 (x7 + (shl .i64 (Int.tmod (wrap64 (rd x0 (wrap64 (x1 + x8)))) 128) (wrap64 (7 * x8))))) (wrap64 (x8 + 1))) else (if x8 > 0 then (if (wrap64 (rd x0 (wrap64 (x1 + x8)))) = 0 then (some (0, 0, false)) else (if (wrap64 (x7 + (shl .i64 (Int.tmod (wrap64 (rd x0 (wrap64 (x1 + x8)))) 128) (wrap64 (7 * x8))))) > 2147483647 then (some (0, 0, false)) else (some (wrap64 (x7 + (shl .i64 (Int.tmod (wrap64 (rd x0 (wrap64 (x1 + x8)))) 128) (wrap64 (7 * x8)))), wrap64 ((wrap64 (x1 + x8)) + 1), true)))) else (if (wrap64 (x7 + (shl .i64 (Int.tmod (wrap64 (rd x0 (wrap64 (x1 + x8)))) 128) (wrap64 (7 * x8))))) > 2147483647 then (some (0, 0, false)) else (some (wrap64 (x7 + (shl .i64 (Int.tmod (wrap64 (rd x0 (wrap64 (x1 + x8)))) 128) (wrap64 (7 * x8)))), wrap64 ((wrap64 (x1 + x8)) + 1), true))))) else (none)) else (none)) else (none)) else (some (0, 0, false))
end
def impl_GetNum.f (k : Nat) (l0 : List Int) (a1 : Int) : Option (Int × Int × Bool) := if a1 < 0 then (impl_GetNum.j0 k l0 a1 true) else (impl_GetNum.j0 k l0 a1 (decide (a1 ≥ (l0.length : Int))))
theorem impl_GetNum.mono_l : ∀ k, (∀ y0 y1 y2, LeO (impl_GetNum.j0 k y0 y1 y2) (impl_GetNum.j0 (k + 1) y0 y1 y2)) ∧ (∀ y0 y1 y2 y3, LeO (impl_GetNum.l0 k y0 y1 y2 y3) (impl_GetNum.l0 (k + 1) y0 y1 y2 y3)) ∧ (∀ y0 y1 y2 y3 y4, LeO (impl_GetNum.j2 k y0 y1 y2 y3 y4) (impl_GetNum.j2 (k + 1) y0 y1 y2 y3 y4))
 | 0 => ⟨fun _ _ _ r h => by simp [impl_GetNum.j0] at h, fun _ _ _ _ r h => by simp [impl_GetNum.l0] at h, fun _ _ _ _ _ r h => by simp [impl_GetNum.j2] at h⟩
 | k + 1 => by
  obtain ⟨ih0, ih1, ih2⟩ := impl_GetNum.mono_l k
  refine ⟨?_, ?_, ?_⟩
  ·intro y0 y1 y2
   unfold impl_GetNum.j0
   repeat' first | (with_reducible first | exact LeO.refl _ | exact LeO.none _ | refine LeO.ite ?_ ?_ | refine LeO.bind ?_ (fun _ => ?_) | apply ih0 | apply ih1 | apply ih2) | apply ih0 | apply ih1 | apply ih2 | exact LeO.none _ | refine LeO.ite ?_ ?_ | refine LeO.bind ?_ (fun _ => ?_)
  ·intro y0 y1 y2 y3
   unfold impl_GetNum.l0
   repeat' first | (with_reducible first | exact LeO.refl _ | exact LeO.none _ | refine LeO.ite ?_ ?_ | refine LeO.bind ?_ (fun _ => ?_) | apply ih0 | apply ih1 | apply ih2) | apply ih0 | apply ih1 | apply ih2 | exact LeO.none _ | refine LeO.ite ?_ ?_ | refine LeO.bind ?_ (fun _ => ?_)
  ·intro y0 y1 y2 y3 y4
   unfold impl_GetNum.j2
   repeat' first | (with_reducible first | exact LeO.refl _ | exact LeO.none _ | refine LeO.ite ?_ ?_ | refine LeO.bind ?_ (fun _ => ?_) | apply ih0 | apply ih1 | apply ih2) | apply ih0 | apply ih1 | apply ih2 | exact LeO.none _ | refine LeO.ite ?_ ?_ | refine LeO.bind ?_ (fun _ => ?_)
theorem impl_GetNum.mono : ∀ a0 a1 k, LeO (impl_GetNum.f k a0 a1) (impl_GetNum.f (k + 1) a0 a1) := by
 intro a0 a1 k; obtain ⟨ih0, ih1, ih2⟩ := impl_GetNum.mono_l k
 unfold impl_GetNum.f
 repeat' first | (with_reducible first | exact LeO.refl _ | exact LeO.none _ | refine LeO.ite ?_ ?_ | refine LeO.bind ?_ (fun _ => ?_) | apply ih0 | apply ih1 | apply ih2) | apply ih0 | apply ih1 | apply ih2 | exact LeO.none _ | refine LeO.ite ?_ ?_ | refine LeO.bind ?_ (fun _ => ?_)
set_option maxHeartbeats 8000000 in
set_option maxRecDepth 100000 in
theorem impl_GetNum.calls (k : Nat) (A0 : Option Addr) (c0 : Nat) (l0 : List Int) (a1 : Int) (r1 : Int) (r2 : Int) (r3 : Bool) (w : World) (hr0 : Kd.C (Kd.int .u8) w A0 l0.length l0) (hc0 : l0.length ≤ c0) (h : impl_GetNum.f k l0 a1 = some (r1, r2, r3)) :
  Calls Try.prog 23 #[.slice A0 l0.length c0, .int .i64 a1] w fun e w' => e = .returned (.tuple #[.int .i64 r1, .int .i64 r2, .bool r3]) ∧ Drawn0 w w' := by
 have HR0 := zm hr0; have Af := zm hc0; clear hr0 hc0; have H : (if a1 < 0 then (impl_GetNum.j0 k l0 a1 true) else (impl_GetNum.j0 k l0 a1 (decide (a1 ≥ (l0.length : Int))))) = some (r1, r2, r3) := h; clear h; have AR := zm H; clear H; go_enter Try.func23, Try.ntmps23
 go_upto_region 1 with (fail)
 go_cut [17] (fun v17 wc => ∃ (kq : Nat) (AC : Bool), v17 = .bool AC ∧ Aside0 (impl_GetNum.j0 kq l0 a1 AC = some (r1, r2, r3)) ∧ Aside0 (kq ≤ k) ∧ Drawn0 w wc)
 case first =>
  have H := AR.out; clear AR
  by_cases c4 : a1 < 0
  ·rw [if_pos c4] at H; have AF : decide (a1 < 0) = true := decide_eq_true c4; clear c4
   (first | rw [AF] | (simp only [i64_w, i32_w]; rw [AF]) | skip)
   have H' := zm H
   clear H
   go_wp2
   go_meet
   case rel => exact ⟨_, (true), zF, H', ⟨zO⟩, zD⟩
  ·rw [if_neg c4] at H; have AF : decide (a1 < 0) = false := decide_eq_false c4; clear c4
   (first | rw [AF] | (simp only [i64_w, i32_w]; rw [AF]) | skip)
   have H' := zm H
   clear H
   go_wp2
   go_meet
   case rel => exact ⟨_, (decide (a1 ≥ (l0.length : Int))), zF, H', ⟨zO⟩, zD⟩
 case rest =>
  clear AR; obtain ⟨kq, AC, rfl, HA, AM, ⟨mc2, rfl⟩⟩ := hcut
  cases kq with
  | zero => exact absurd HA.out (by simp [impl_GetNum.j0])
  | succ Aa =>
   have H := HA.out; clear HA; simp only [impl_GetNum.j0] at H
   by_cases c5 : AC = true
   ·subst c5; rw [if_pos rfl] at H; simp only [Option.some.injEq, Prod.mk.injEq] at H; obtain ⟨rfl, rfl, rfl⟩ := H
    go_wp2
    go_ret3
    exact ⟨zF, zD⟩
   ·replace c5 := Bool.eq_false_iff.mpr c5; subst c5; rw [zff] at H
    have H' := zm H
    clear H
    go_wp2
    go_loopg [7, 8] Aa (fun kq v7 v8 w' => ∃ (AB : Int) (AA : Int), v7 = .int .i64 AB ∧ v8 = .int .i64 AA ∧ Aside0 (impl_GetNum.l0 kq l0 a1 AB AA = some (r1, r2, r3)) ∧ Aside0 (kq ≤ Aa) ∧ Drawn0 w w')
    case atStart => exact ⟨(0), (0), zF, zF, H', ⟨Nat.le_refl _⟩, zD⟩
    case round =>
     clear H'; (try clear c5); obtain ⟨AB, AA, rfl, rfl, HA, AN, ⟨m2, rfl⟩⟩ := hrel
     cases gk with
     | zero => exact absurd HA.out (by simp [impl_GetNum.l0])
     | succ k2 =>
      have H := HA.out; clear HA; simp only [impl_GetNum.l0] at H; have AS := zm H; clear H
      go_upto_region 5 with (fail)
      go_cut [27] (fun v27 wc => ∃ (kq : Nat) (AD : Bool), v27 = .bool AD ∧ Aside0 (impl_GetNum.j2 kq l0 a1 AB AA AD = some (r1, r2, r3)) ∧ Aside0 (kq ≤ k2) ∧ Drawn0 w wc)
      case first =>
       have H := AS.out; clear AS
       by_cases c7 : AA < 5
       ·rw [if_pos c7] at H; have AG : decide (AA < 5) = true := decide_eq_true c7; clear c7
        (first | rw [AG] | (simp only [i64_w, i32_w]; rw [AG]) | skip)
        have H' := zm H
        clear H
        go_wp2
        go_meet
        case rel => exact ⟨_, (decide ((wrap64 (a1 + AA)) < (l0.length : Int))), zF, H', ⟨by have := AM.out; have := AN.out; first | omega | exact Nat.le_refl _⟩, zD⟩
       ·rw [if_neg c7] at H; have AG : decide (AA < 5) = false := decide_eq_false c7; clear c7
        (first | rw [AG] | (simp only [i64_w, i32_w]; rw [AG]) | skip)
        have H' := zm H
        clear H
        go_wp2
        go_meet
        case rel => exact ⟨_, (false), zF, H', ⟨by have := AM.out; have := AN.out; first | omega | exact Nat.le_refl _⟩, zD⟩
      case rest =>
       clear AS; (try clear c5); obtain ⟨kq, AD, rfl, HA, AZ, ⟨mc5, rfl⟩⟩ := hcut
       cases kq with
       | zero => exact absurd HA.out (by simp [impl_GetNum.j2])
       | succ AQ =>
        have H := HA.out; clear HA; simp only [impl_GetNum.j2] at H
        by_cases c8 : AD = true
        ·subst c8; rw [if_pos rfl] at H
         obtain ⟨ji9, hji9⟩ : ∃ j_ : Int, (wrap64 (a1 + AA)) = j_ := ⟨_, rfl⟩
         replace H : (if 0 ≤ (ji9) then (if (ji9) < (l0.length : Int) then (if 0 ≤ (wrap64 (7 * AA)) then (if (wrap64 (rd l0 (ji9))) ≥ 128 then (impl_GetNum.l0 AQ l0 a1 (wrap64 (AB + (shl .i64 (Int.tmod (wrap64 (rd l0 (ji9))) 128) (wrap64 (7 * AA))))) (wrap64 (AA + 1))) else (if AA > 0 then (if (wrap64 (rd l0 (ji9))) = 0 then (some (0, 0, false)) else (if (wrap64 (AB + (shl .i64 (Int.tmod (wrap64 (rd l0 (ji9))) 128) (wrap64 (7 * AA))))) > 2147483647 then (some (0, 0, false)) else (some (wrap64 (AB + (shl .i64 (Int.tmod (wrap64 (rd l0 (ji9))) 128) (wrap64 (7 * AA)))), wrap64 ((ji9) + 1), true)))) else (if (wrap64 (AB + (shl .i64 (Int.tmod (wrap64 (rd l0 (ji9))) 128) (wrap64 (7 * AA))))) > 2147483647 then (some (0, 0, false)) else (some (wrap64 (AB + (shl .i64 (Int.tmod (wrap64 (rd l0 (ji9))) 128) (wrap64 (7 * AA)))), wrap64 ((ji9) + 1), true))))) else (none)) else (none)) else (none)) = some (r1, r2, r3) := by first | (rw [hji9] at H; exact H) | (simp only [hji9] at H ⊢; exact H)
         have hji9w : (IntKind.i64.wrap (a1 + AA)) = ji9 := (i64_w _).trans hji9
         by_cases AO : 0 ≤ (ji9)
         ·rw [if_pos AO] at H; have Ab : decide (0 ≤ (ji9)) = true := decide_eq_true AO; clear AO
          by_cases AP : (ji9) < (l0.length : Int)
          ·rw [if_pos AP] at H; have Ac : decide ((ji9) < (l0.length : Int)) = true := decide_eq_true AP; clear AP
           obtain ⟨ji12, hji12⟩ : ∃ j_ : Int, (wrap64 (7 * AA)) = j_ := ⟨_, rfl⟩
           replace H : (if 0 ≤ (ji12) then (if (wrap64 (rd l0 (ji9))) ≥ 128 then (impl_GetNum.l0 AQ l0 a1 (wrap64 (AB + (shl .i64 (Int.tmod (wrap64 (rd l0 (ji9))) 128) (ji12)))) (wrap64 (AA + 1))) else (if AA > 0 then (if (wrap64 (rd l0 (ji9))) = 0 then (some (0, 0, false)) else (if (wrap64 (AB + (shl .i64 (Int.tmod (wrap64 (rd l0 (ji9))) 128) (ji12)))) > 2147483647 then (some (0, 0, false)) else (some (wrap64 (AB + (shl .i64 (Int.tmod (wrap64 (rd l0 (ji9))) 128) (ji12))), wrap64 ((ji9) + 1), true)))) else (if (wrap64 (AB + (shl .i64 (Int.tmod (wrap64 (rd l0 (ji9))) 128) (ji12)))) > 2147483647 then (some (0, 0, false)) else (some (wrap64 (AB + (shl .i64 (Int.tmod (wrap64 (rd l0 (ji9))) 128) (ji12))), wrap64 ((ji9) + 1), true))))) else (none)) = some (r1, r2, r3) := by first | (rw [hji12] at H; exact H) | (simp only [hji12] at H ⊢; exact H)
           have hji12w : (IntKind.i64.wrap (7 * AA)) = ji12 := (i64_w _).trans hji12
           by_cases AL : 0 ≤ (ji12)
           ·rw [if_pos AL] at H; have Ad := eq_true AL; have Ae : decide (0 ≤ (ji12)) = true := decide_eq_true AL; clear AL
            obtain ⟨ji14, hji14⟩ : ∃ j_ : Int, (shl .i64 (Int.tmod (wrap64 (rd l0 (ji9))) 128) (ji12)) = j_ := ⟨_, rfl⟩
            replace H : (if (wrap64 (rd l0 (ji9))) ≥ 128 then (impl_GetNum.l0 AQ l0 a1 (wrap64 (AB + (ji14))) (wrap64 (AA + 1))) else (if AA > 0 then (if (wrap64 (rd l0 (ji9))) = 0 then (some (0, 0, false)) else (if (wrap64 (AB + (ji14))) > 2147483647 then (some (0, 0, false)) else (some (wrap64 (AB + (ji14)), wrap64 ((ji9) + 1), true)))) else (if (wrap64 (AB + (ji14))) > 2147483647 then (some (0, 0, false)) else (some (wrap64 (AB + (ji14)), wrap64 ((ji9) + 1), true))))) = some (r1, r2, r3) := by first | (rw [hji14] at H; exact H) | (simp only [hji14] at H ⊢; exact H)
            have hji14_ : (IntKind.i64.wrap ((Int.tmod (wrap64 (rd l0 (ji9))) 128) * 2 ^ min (ji12).toNat 64)) = ji14 := hji14; have hji14z : (ji12) ≤ 64 → (IntKind.i64.wrap ((Int.tmod (wrap64 (rd l0 (ji9))) 128) * 2 ^ (ji12).toNat)) = ji14 := shl_small hji14; have hji14y : (wrap64 ((Int.tmod (wrap64 (rd l0 (ji9))) 128) * 2 ^ min (ji12).toNat 64)) = ji14 := (i64_w _).symm.trans hji14_
            have hji14x : (ji12) ≤ 64 → (wrap64 ((Int.tmod (wrap64 (rd l0 (ji9))) 128) * 2 ^ (ji12).toNat)) = ji14 := fun h_ => (i64_w _).symm.trans (hji14z h_)
            by_cases AH : (wrap64 (rd l0 (ji9))) ≥ 128
            ·rw [if_pos AH] at H; have AT : decide (128 ≤ (wrap64 (rd l0 (ji9)))) = true := decide_eq_true AH; clear AH
             have H' := zm H
             clear H; have p175 : 0 ≤ ((ji9) : Int) := zd; have q175 : (ji9) < (l0.length : Int) := zd; obtain ⟨ad175, e175, hx175_0⟩ := Kd.at_int HR0.out (ji9) p175 q175; cases e175; replace p175 := eq_true p175; replace q175 := eq_true q175
             go_wp2
             go_roundg AQ
             case measure => have := AM.out; have := AN.out; have := AZ.out; omega
             case rel => exact ⟨(wrap64 (AB + (ji14))), (wrap64 (AA + 1)), (by first | rfl | (simp; done) | (simp only [← hji14] <;> (first | rfl | simp)) | (simp [*]; done)), zF, H', ⟨by have := AM.out; have := AN.out; have := AZ.out; omega⟩, zD⟩
            ·rw [if_neg AH] at H; have AT : decide (128 ≤ (wrap64 (rd l0 (ji9)))) = false := decide_eq_false AH; clear AH
             by_cases AI : AA > 0
             ·rw [if_pos AI] at H; have AU : decide (0 < AA) = true := decide_eq_true AI; clear AI
              by_cases AE : (wrap64 (rd l0 (ji9))) = 0
              ·rw [if_pos AE] at H; have AV : ((wrap64 (rd l0 (ji9))) == 0) = true := beq_iff_eq.mpr AE; have AW : ((wrap64 (rd l0 (ji9))) != 0) = false := bne_eq_false_iff_eq.mpr AE; clear AE; simp only [Option.some.injEq, Prod.mk.injEq] at H; obtain ⟨rfl, rfl, rfl⟩ := H; have p175 : 0 ≤ ((ji9) : Int) := zd; have q175 : (ji9) < (l0.length : Int) := zd; obtain ⟨ad175, e175, hx175_0⟩ := Kd.at_int HR0.out (ji9) p175 q175; cases e175; replace p175 := eq_true p175; replace q175 := eq_true q175
               go_wp2
               go_ret3
               exact ⟨by first | rfl | (simp; done) | (simp only [← hji9, ← hji12, ← hji14] <;> (first | rfl | simp)) | (simp [*]; done), zD⟩
              ·rw [if_neg AE] at H; have AV : ((wrap64 (rd l0 (ji9))) == 0) = false := beq_eq_false_iff_ne.mpr AE; have AW : ((wrap64 (rd l0 (ji9))) != 0) = true := bne_iff_ne.mpr AE
               by_cases AJ : (wrap64 (AB + (ji14))) > 2147483647
               ·rw [if_pos AJ] at H; have AX : decide (2147483647 < (wrap64 (AB + (ji14)))) = true := decide_eq_true AJ; clear AJ; simp only [Option.some.injEq, Prod.mk.injEq] at H; obtain ⟨rfl, rfl, rfl⟩ := H; have p175 : 0 ≤ ((ji9) : Int) := zd; have q175 : (ji9) < (l0.length : Int) := zd; obtain ⟨ad175, e175, hx175_0⟩ := Kd.at_int HR0.out (ji9) p175 q175; cases e175; replace p175 := eq_true p175; replace q175 := eq_true q175
                go_wp2
                go_ret3
                exact ⟨by first | rfl | (simp; done) | (simp only [← hji9, ← hji12, ← hji14] <;> (first | rfl | simp)) | (simp [*]; done), zD⟩
               ·rw [if_neg AJ] at H; have AX : decide (2147483647 < (wrap64 (AB + (ji14)))) = false := decide_eq_false AJ; clear AJ; simp only [Option.some.injEq, Prod.mk.injEq] at H; obtain ⟨rfl, rfl, rfl⟩ := H; have p175 : 0 ≤ ((ji9) : Int) := zd; have q175 : (ji9) < (l0.length : Int) := zd; obtain ⟨ad175, e175, hx175_0⟩ := Kd.at_int HR0.out (ji9) p175 q175; cases e175; replace p175 := eq_true p175; replace q175 := eq_true q175
                go_wp2
                go_ret3
                exact ⟨by first | rfl | (simp; done) | (simp only [← hji9, ← hji12, ← hji14] <;> (first | rfl | simp)) | (simp [*]; done), zD⟩
             ·rw [if_neg AI] at H; have AU : decide (0 < AA) = false := decide_eq_false AI; clear AI
              by_cases AK : (wrap64 (AB + (ji14))) > 2147483647
              ·rw [if_pos AK] at H; have AY : decide (2147483647 < (wrap64 (AB + (ji14)))) = true := decide_eq_true AK; clear AK; simp only [Option.some.injEq, Prod.mk.injEq] at H; obtain ⟨rfl, rfl, rfl⟩ := H; have p175 : 0 ≤ ((ji9) : Int) := zd; have q175 : (ji9) < (l0.length : Int) := zd; obtain ⟨ad175, e175, hx175_0⟩ := Kd.at_int HR0.out (ji9) p175 q175; cases e175; replace p175 := eq_true p175; replace q175 := eq_true q175
               go_wp2
               go_ret3
               exact ⟨by first | rfl | (simp; done) | (simp only [← hji9, ← hji12, ← hji14] <;> (first | rfl | simp)) | (simp [*]; done), zD⟩
              ·rw [if_neg AK] at H; have AY : decide (2147483647 < (wrap64 (AB + (ji14)))) = false := decide_eq_false AK; clear AK; simp only [Option.some.injEq, Prod.mk.injEq] at H; obtain ⟨rfl, rfl, rfl⟩ := H; have p175 : 0 ≤ ((ji9) : Int) := zd; have q175 : (ji9) < (l0.length : Int) := zd; obtain ⟨ad175, e175, hx175_0⟩ := Kd.at_int HR0.out (ji9) p175 q175; cases e175; replace p175 := eq_true p175; replace q175 := eq_true q175
               go_wp2
               go_ret3
               exact ⟨by first | rfl | (simp; done) | (simp only [← hji9, ← hji12, ← hji14] <;> (first | rfl | simp)) | (simp [*]; done), zD⟩
           ·rw [if_neg AL] at H
            exact absurd H (by simp)
          ·rw [if_neg AP] at H
           exact absurd H (by simp)
         ·rw [if_neg AO] at H
          exact absurd H (by simp)
        ·replace c8 := Bool.eq_false_iff.mpr c8; subst c8; rw [zff] at H; simp only [Option.some.injEq, Prod.mk.injEq] at H; obtain ⟨rfl, rfl, rfl⟩ := H
         go_wp2
         go_ret3
         exact ⟨zF, zD⟩

end Go.Proofs.Ytgjglbjdkikajaa.P
