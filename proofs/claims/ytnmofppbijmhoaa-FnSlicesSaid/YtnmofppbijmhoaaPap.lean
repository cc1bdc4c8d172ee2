-- by a program of this session, for this seat
import Derived.Test.YtnmofppbijmhoaaZ
import Derived.Test.YtnmofppbijmhoaaP0
import Derived.Test.YtnmofppbijmhoaaPai
import Derived.Test.YtnmofppbijmhoaaPaa
import Derived.Test.YtnmofppbijmhoaaPaj
namespace Go.Proofs.Ytnmofppbijmhoaa.P
open Go.RowKit Go.Proofs.YtnmofppbijmhoaaW.PrintWords Go.Proofs.YtnmofppbijmhoaaW.PrintLast Go.Proofs.YtnmofppbijmhoaaW.PrintMore Go.Proofs.Ytnmofppbijmhoaa.Z
attribute [local go_sem] max2_int min2_int max_two min_two max_three min_three max_four min_four   -- for this text's walks alone
set_option linter.unusedVariables false
set_option linter.unusedSimpArgs false

/-! ### impl_Crc: function 79 -/
mutual
def impl_Crc.l0 : Nat → Int → List Int → Int → Int → Option (Int)
 | 0, _, _, _, _ => none
 | k + 1, x3, x7, x8, x9 => if x9 < x8 then (if 0 ≤ x9 then (if x9 < (x7.length : Int) then (impl_Crc.l1 k (Go.bits .xor .i64 x3 (wrap64 (rd x7 x9))) x7 x8 x9 0) else (none)) else (none)) else (some (Go.bits .xor .i64 x3 4294967295))
def impl_Crc.l1 : Nat → Int → List Int → Int → Int → Int → Option (Int)
 | 0, _, _, _, _, _ => none
 | k + 1, x3, x7, x8, x9, x17 => if x17 < 8 then (if (Int.tmod x3 2) = 1 then (impl_Crc.l1 k (Go.bits .xor .i64 (wrap64 (Int.tdiv x3 2)) 3988292384) x7 x8 x9 (wrap64 (x17 + 1))) else (impl_Crc.l1 k (wrap64 (Int.tdiv x3 2)) x7 x8 x9 (wrap64 (x17 + 1)))) else (impl_Crc.l0 k x3 x7 x8 (wrap64 (x9 + 1)))
end
def impl_Crc.f (k : Nat) (l0 : List Int) : Option (Int) := impl_Crc.l0 k 4294967295 l0 (l0.length : Int) 0
theorem impl_Crc.mono_l : ∀ k, (∀ y0 y1 y2 y3, LeO (impl_Crc.l0 k y0 y1 y2 y3) (impl_Crc.l0 (k + 1) y0 y1 y2 y3)) ∧ (∀ y0 y1 y2 y3 y4, LeO (impl_Crc.l1 k y0 y1 y2 y3 y4) (impl_Crc.l1 (k + 1) y0 y1 y2 y3 y4))
 | 0 => ⟨fun _ _ _ _ r h => by simp [impl_Crc.l0] at h, fun _ _ _ _ _ r h => by simp [impl_Crc.l1] at h⟩
 | k + 1 => by
  obtain ⟨ih0, ih1⟩ := impl_Crc.mono_l k
  refine ⟨?_, ?_⟩
  ·intro y0 y1 y2 y3
   unfold impl_Crc.l0
   repeat' first | (with_reducible first | exact LeO.refl _ | exact LeO.none _ | refine LeO.ite ?_ ?_ | refine LeO.bind ?_ (fun _ => ?_) | apply ih0 | apply ih1) | apply ih0 | apply ih1 | exact LeO.none _ | refine LeO.ite ?_ ?_ | refine LeO.bind ?_ (fun _ => ?_)
  ·intro y0 y1 y2 y3 y4
   unfold impl_Crc.l1
   repeat' first | (with_reducible first | exact LeO.refl _ | exact LeO.none _ | refine LeO.ite ?_ ?_ | refine LeO.bind ?_ (fun _ => ?_) | apply ih0 | apply ih1) | apply ih0 | apply ih1 | exact LeO.none _ | refine LeO.ite ?_ ?_ | refine LeO.bind ?_ (fun _ => ?_)
theorem impl_Crc.mono : ∀ a0 k, LeO (impl_Crc.f k a0) (impl_Crc.f (k + 1) a0) := by
 intro a0 k; obtain ⟨ih0, ih1⟩ := impl_Crc.mono_l k
 unfold impl_Crc.f
 repeat' first | (with_reducible first | exact LeO.refl _ | exact LeO.none _ | refine LeO.ite ?_ ?_ | refine LeO.bind ?_ (fun _ => ?_) | apply ih0 | apply ih1) | apply ih0 | apply ih1 | exact LeO.none _ | refine LeO.ite ?_ ?_ | refine LeO.bind ?_ (fun _ => ?_)
set_option maxHeartbeats 8000000 in
set_option maxRecDepth 100000 in
theorem impl_Crc.calls (k : Nat) (A0 : Option Addr) (c0 : Nat) (l0 : List Int) (r : Int) (w : World) (hr0 : Kd.C (Kd.int .u8) w A0 l0.length l0) (hc0 : l0.length ≤ c0) (h : impl_Crc.f k l0 = some r) :
  Calls Try.prog 79 #[.slice A0 l0.length c0] w fun e w' => e = .returned (.int .i64 r) ∧ Drawn0 w w' := by
 have HR0 := zm hr0; have AM := zm hc0; clear hr0 hc0; have H : (impl_Crc.l0 k 4294967295 l0 (l0.length : Int) 0) = some r := h; clear h
 have H' := zm H
 clear H; go_enter Try.func79, Try.ntmps79
 go_wp2
 go_loopg [3, 9] k (fun kq v3 v9 w' => ∃ (AF : Int) (AA : Int), v3 = .int .i64 AF ∧ v9 = .int .i64 AA ∧ Aside0 (impl_Crc.l0 kq AF l0 (l0.length : Int) AA = some r) ∧ Aside0 (kq ≤ k) ∧ Drawn0 w w')
 case atStart => exact ⟨(4294967295), (0), zF, zF, H', ⟨Nat.le_refl _⟩, zD⟩
 case round =>
  clear H'; obtain ⟨AF, AA, rfl, rfl, HA, AD, ⟨m1, rfl⟩⟩ := hrel
  cases gk with
  | zero => exact absurd HA.out (by simp [impl_Crc.l0])
  | succ k1 =>
   have H := HA.out; clear HA; simp only [impl_Crc.l0] at H
   by_cases c2 : AA < (l0.length : Int)
   ·rw [if_pos c2] at H; have AG : decide (AA < (l0.length : Int)) = true := decide_eq_true c2; clear c2
    by_cases c3 : 0 ≤ AA
    ·rw [if_pos c3] at H; have AH : decide (0 ≤ AA) = true := decide_eq_true c3; clear c3
     by_cases c4 : AA < (l0.length : Int)
     ·rw [if_pos c4] at H; have AI : decide (AA < (l0.length : Int)) = true := decide_eq_true c4; clear c4
      have H' := zm H
      clear H; have p692 : 0 ≤ (AA : Int) := zd; have q692 : AA < (l0.length : Int) := zd; obtain ⟨ad692, e692, hx692_0⟩ := Kd.at_int HR0.out AA p692 q692; cases e692; replace p692 := eq_true p692; replace q692 := eq_true q692
      go_wp2
      go_loopg [3, 17] k1 (fun kq v3 v17 w' => ∃ (AB : Int) (AC : Int), v3 = .int .i64 AB ∧ v17 = .int .i64 AC ∧ Aside0 (impl_Crc.l1 kq AB l0 (l0.length : Int) AA AC = some r) ∧ Aside0 (kq ≤ k1) ∧ Drawn0 w w')
      case atStart => exact ⟨(Go.bits .xor .i64 AF (wrap64 (rd l0 AA))), (0), zF, zF, H', ⟨Nat.le_refl _⟩, zD⟩
      case round =>
       clear H'; (try clear c2); (try clear AG); (try clear c3); (try clear AH); (try clear c4); (try clear AI); (try clear hx692_0); (try clear p692); (try clear q692); obtain ⟨AB, AC, rfl, rfl, HA, AE, ⟨m2, rfl⟩⟩ := hrel
       cases gk with
       | zero => exact absurd HA.out (by simp [impl_Crc.l1])
       | succ k2 =>
        have H := HA.out; clear HA; simp only [impl_Crc.l1] at H
        by_cases c5 : AC < 8
        ·rw [if_pos c5] at H; have AJ : decide (AC < 8) = true := decide_eq_true c5; clear c5
         by_cases c6 : (Int.tmod AB 2) = 1
         ·rw [if_pos c6] at H; have AK : ((Int.tmod AB 2) == 1) = true := beq_iff_eq.mpr c6; have AL : ((Int.tmod AB 2) != 1) = false := bne_eq_false_iff_eq.mpr c6; clear c6
          have H' := zm H
          clear H
          go_wp2
          go_roundg k2
          case measure => have := AD.out; have := AE.out; omega
          case rel => exact ⟨(Go.bits .xor .i64 (wrap64 (Int.tdiv AB 2)) 3988292384), (wrap64 (AC + 1)), zF, zF, H', ⟨by have := AD.out; have := AE.out; omega⟩, zD⟩
         ·rw [if_neg c6] at H; have AK : ((Int.tmod AB 2) == 1) = false := beq_eq_false_iff_ne.mpr c6; have AL : ((Int.tmod AB 2) != 1) = true := bne_iff_ne.mpr c6
          have H' := zm H
          clear H
          go_wp2
          go_roundg k2
          case measure => have := AD.out; have := AE.out; omega
          case rel => exact ⟨(wrap64 (Int.tdiv AB 2)), (wrap64 (AC + 1)), zF, zF, H', ⟨by have := AD.out; have := AE.out; omega⟩, zD⟩
        ·rw [if_neg c5] at H; have AJ : decide (AC < 8) = false := decide_eq_false c5; clear c5
         have H' := zm H
         clear H
         go_wp2
         go_roundg k2
         case measure => have := AD.out; have := AE.out; omega
         case rel => exact ⟨(AB), (wrap64 (AA + 1)), zF, zF, H', ⟨by have := AD.out; have := AE.out; omega⟩, zD⟩
     ·rw [if_neg c4] at H
      exact absurd H (by simp)
    ·rw [if_neg c3] at H
     exact absurd H (by simp)
   ·rw [if_neg c2] at H; have AG : decide (AA < (l0.length : Int)) = false := decide_eq_false c2; clear c2; obtain rfl := Option.some.inj H
    go_wp2
    go_ret
    exact ⟨zF, zD⟩

/-! ### impl_PutNum: function 80 -/
def impl_PutNum.l0 : Nat → Int → List Int → Option (List Int)
 | 0, _, _ => none
 | k + 1, x0, x3 => if x0 ≥ 128 then (if x3.length < 140737488355328 then (impl_PutNum.l0 k (wrap64 (Int.tdiv x0 128)) (x3 ++ [(wrap64 ((Int.tmod x0 128) + 128)) % 256])) else (none)) else (if x3.length < 140737488355328 then (some (x3 ++ [(x0) % 256])) else (none))
def impl_PutNum.f (k : Nat) (a0 : Int) : Option (List Int) := (impl_within.f a0 0 2147483647).bind fun t693 => (if t693 = true then (impl_PutNum.l0 k a0 (([] : List Int))) else (some ([] : List Int)))
theorem impl_PutNum.mono_l : ∀ k, (∀ y0 y1, LeO (impl_PutNum.l0 k y0 y1) (impl_PutNum.l0 (k + 1) y0 y1))
 | 0 => fun _ _ r h => by simp [impl_PutNum.l0] at h
 | k + 1 => by
  have ih0 := impl_PutNum.mono_l k
  ·intro y0 y1
   unfold impl_PutNum.l0
   repeat' first | (with_reducible first | exact LeO.refl _ | exact LeO.none _ | refine LeO.ite ?_ ?_ | refine LeO.bind ?_ (fun _ => ?_) | apply ih0) | apply ih0 | exact LeO.none _ | refine LeO.ite ?_ ?_ | refine LeO.bind ?_ (fun _ => ?_)
theorem impl_PutNum.mono : ∀ a0 k, LeO (impl_PutNum.f k a0) (impl_PutNum.f (k + 1) a0) := by
 intro a0 k; have ih0 := impl_PutNum.mono_l k
 unfold impl_PutNum.f
 repeat' first | (with_reducible first | exact LeO.refl _ | exact LeO.none _ | refine LeO.ite ?_ ?_ | refine LeO.bind ?_ (fun _ => ?_) | apply ih0) | apply ih0 | exact LeO.none _ | refine LeO.ite ?_ ?_ | refine LeO.bind ?_ (fun _ => ?_)
set_option maxHeartbeats 8000000 in
set_option maxRecDepth 100000 in
theorem impl_PutNum.calls (k : Nat) (a0 : Int) (r : List Int) (w : World) (h : impl_PutNum.f k a0 = some r) :
  Calls Try.prog 80 #[.int .i64 a0] w fun e w' => ∃ v0_ : Value, e = .returned (v0_) ∧ Kd.R (Kd.int .u8) 5 w' w.heap.size (fun _ => True) v0_ r ∧ Below w.heap.size w w' := by
 have HB := zm (Below.refl w.heap.size w); have H : ((impl_within.f a0 0 2147483647).bind fun AD => (if AD = true then (impl_PutNum.l0 k a0 (([] : List Int))) else (some ([] : List Int)))) = some r := h; clear h; replace H := Option.bind_eq_some_iff.mp H; obtain ⟨AD, AH, H⟩ := H; (try dsimp only at H); have A2 := zm AH; clear AH
 by_cases c3 : AD = true
 ·subst c3; rw [if_pos rfl] at H
  obtain ⟨y694, hy694⟩ : ∃ y_ : List Int, y_ = (([] : List Int)) := ⟨_, rfl⟩
  replace H : (impl_PutNum.l0 k a0 y694) = some r := by first | (rw [hy694]; with_reducible exact H) | (have H2_ := (Option.bind_some _ _).symm.trans H; rw [hy694]; with_reducible exact H2_) | (have H2_ := (Option.bind_some _ _).symm.trans H; with_reducible exact H2_) | with_reducible exact H | (rw [hy694]; exact H) | exact H
  have Ny694 := zm hy694; clear hy694
  have H' := zm H
  clear H; go_enter Try.func80, Try.ntmps80
  go_wp2_with (first | ((with_reducible refine gate_callee (f := 75) rfl ?_); refine zg (some 5) #[.int .i64 a0, .int .i64 0, .int .i64 2147483647] Try.func75 ?_; (with_reducible refine (impl_within.calls a0 0 2147483647 true _ A2.out).mono ?_); rintro e w' ⟨rfl, ⟨nd, rfl⟩⟩; refine ⟨_, rfl, ?_⟩) | ((with_reducible refine gate_dst (N := 7) rfl ?_); refine Kd.R_lit (Kd.int .u8) _ 5 ?hg (N := 7) ?hd (xs := ([] : List Int)) (inner := []) (ok := fun _ => True) (okp := fun _ => True) ?hr ?hp (fun _ hk => hk) trivial (Below.refl _ _) (Nat.le_refl _) (by simp) ?_; (case hd => rfl); (case hg => rfl); (case hr => first | (go_simp; done) | (go_simp; rfl)); (case hp => exact (Reps.none _ _)); intro v695 w4 ho5 hb hg_ hnew_; clear hg_ hnew_; (first | rw [← Ny694.out] at ho5 | (simp only [Int.reduceToNat] at ho5; rw [← Ny694.out] at ho5)); have AE := zm (Kd.R_lower ho5 (below_size zB)); replace HB := zm (below_step zB hb); clear hb ho5))
  go_loopg [0, 3] k (fun kq v0 v3 w' => ∃ (AA : Int) (AB : List Int), v0 = .int .i64 AA ∧ Aside0 (impl_PutNum.l0 kq AA AB = some r) ∧ Aside0 (kq ≤ k) ∧ Aside0 (Kd.R (Kd.int .u8) 5 w' w.heap.size (fun _ => True) v3 AB) ∧ Aside0 (Below w.heap.size w w'))
  case atStart => exact ⟨(a0), (y694), zF, H', ⟨Nat.le_refl _⟩, ⟨zr AE⟩, ⟨zB⟩⟩
  case round =>
   clear H'; (try clear c3); obtain ⟨AA, AB, rfl, HA, AI, AC, HB⟩ := hrel
   cases gk with
   | zero => exact absurd HA.out (by simp [impl_PutNum.l0])
   | succ k1 =>
    have H := HA.out; clear HA; simp only [impl_PutNum.l0] at H
    by_cases c6 : AA ≥ 128
    ·rw [if_pos c6] at H; have AJ : decide (128 ≤ AA) = true := decide_eq_true c6; clear c6
     by_cases c7 : AB.length < 140737488355328
     ·rw [if_pos c7] at H; have LMc7 := zm c7; clear c7
      obtain ⟨y697, hy697⟩ : ∃ y_ : List Int, y_ = (AB ++ [(wrap64 ((Int.tmod AA 128) + 128)) % 256]) := ⟨_, rfl⟩
      replace H : (impl_PutNum.l0 k1 (wrap64 (Int.tdiv AA 128)) y697) = some r := by first | (rw [hy697]; with_reducible exact H) | (have H2_ := (Option.bind_some _ _).symm.trans H; rw [hy697]; with_reducible exact H2_) | (have H2_ := (Option.bind_some _ _).symm.trans H; with_reducible exact H2_) | with_reducible exact H | (rw [hy697]; exact H) | exact H
      have Ny697 := zm hy697; clear hy697
      have H' := zm H
      clear H
      go_wp2_with (first | ((with_reducible refine gate_builtin (b := .append) (xs := #[.tmp 10, .tmp 15]) rfl ?_); at_builtin; refine Kd.R_append (Kd.int .u8) (w0 := w) w.heap.size rfl (.tmp 10) (.tmp 15) 22 5 (.int .u8 0) 1 rfl Try.underlying22 info5 rfl (by decide) (by omega) u3 AB ((wrap64 ((Int.tmod AA 128) + 128)) % 256) [.int .u8 ((wrap64 ((Int.tmod AA 128) + 128)) % 256)] (fun _ => True) (fun _ => False) rfl rfl ?aP (fun _ hk => hk.elim) ?aF ?aO ?aB ?aS ?aL ?_; (case aP => exact rfl); (case aB => exact zB); (case aF => exact (fun _ _ => trivial)); (case aO => exact (zr AC)); (case aS => exact (below_size zB)); (case aL => have := LMc7.out; omega); intro v698 w8 ho hb hg hat; rw [← Ny697.out] at ho; replace HB := zm hb; have AF := zm (ho); clear AC; clear ho hb hg hat))
      go_roundg k1
      case measure => have := AI.out; omega
      case rel => exact ⟨(wrap64 (Int.tdiv AA 128)), (y697), zF, H', ⟨by have := AI.out; omega⟩, ⟨zr AF⟩, ⟨zB⟩⟩
     ·rw [if_neg c7] at H
      exact absurd H (by simp)
    ·rw [if_neg c6] at H; have AJ : decide (128 ≤ AA) = false := decide_eq_false c6; clear c6
     by_cases c9 : AB.length < 140737488355328
     ·rw [if_pos c9] at H; have LMc9 := zm c9; clear c9
      obtain ⟨y700, hy700⟩ : ∃ y_ : List Int, y_ = (AB ++ [(AA) % 256]) := ⟨_, rfl⟩
      replace H : (some y700) = some r := by first | (rw [hy700]; with_reducible exact H) | (have H2_ := (Option.bind_some _ _).symm.trans H; rw [hy700]; with_reducible exact H2_) | (have H2_ := (Option.bind_some _ _).symm.trans H; with_reducible exact H2_) | with_reducible exact H | (rw [hy700]; exact H) | exact H
      have Ny700 := zm hy700; clear hy700; obtain rfl := Option.some.inj H
      go_wp2_with (first | ((with_reducible refine gate_builtin (b := .append) (xs := #[.tmp 19, .tmp 22]) rfl ?_); at_builtin; refine Kd.R_append (Kd.int .u8) (w0 := w) w.heap.size rfl (.tmp 19) (.tmp 22) 22 5 (.int .u8 0) 1 rfl Try.underlying22 info5 rfl (by decide) (by omega) u3 AB ((AA) % 256) [.int .u8 ((AA) % 256)] (fun _ => True) (fun _ => False) rfl rfl ?aP (fun _ hk => hk.elim) ?aF ?aO ?aB ?aS ?aL ?_; (case aP => exact rfl); (case aB => exact zB); (case aF => exact (fun _ _ => trivial)); (case aO => exact (zr AC)); (case aS => exact (below_size zB)); (case aL => have := LMc9.out; omega); intro v701 AK ho hb hg hat; rw [← Ny700.out] at ho; replace HB := zm hb; have AG := zm (ho); clear AC; clear ho hb hg hat))
      go_ret
      exact ⟨_, zE, zr AG, zB⟩
     ·rw [if_neg c9] at H
      exact absurd H (by simp)
 ·replace c3 := Bool.eq_false_iff.mpr c3; subst c3; rw [zff] at H; obtain rfl := Option.some.inj H; go_enter Try.func80, Try.ntmps80
  go_wp2_with (first | ((with_reducible refine gate_callee (f := 75) rfl ?_); refine zg (some 5) #[.int .i64 a0, .int .i64 0, .int .i64 2147483647] Try.func75 ?_; (with_reducible refine (impl_within.calls a0 0 2147483647 false _ A2.out).mono ?_); rintro e w' ⟨rfl, ⟨nd, rfl⟩⟩; refine ⟨_, rfl, ?_⟩))
  go_ret
  exact ⟨_, zE, znil, zB⟩

/-! ### impl_LeafOf: function 35 -/
def impl_LeafOf.f (k : Nat) (a0 : Int) : Option (Int) := (impl_isNode.f a0).bind fun t703 => (if t703 = true then ((impl_PutNum.f k a0).bind fun t704 => ((impl_Crc.f k t704).bind fun t707 => (some (Int.tmod t707 4)))) else (some (-1)))
theorem impl_LeafOf.mono : ∀ a0 k, LeO (impl_LeafOf.f k a0) (impl_LeafOf.f (k + 1) a0) := by
 intro a0 k
 unfold impl_LeafOf.f
 repeat' first | (with_reducible first | exact LeO.refl _ | exact LeO.none _ | refine LeO.ite ?_ ?_ | refine LeO.bind ?_ (fun _ => ?_) | apply impl_Crc.mono | apply impl_PutNum.mono) | apply impl_Crc.mono | apply impl_PutNum.mono | exact LeO.none _ | refine LeO.ite ?_ ?_ | refine LeO.bind ?_ (fun _ => ?_)
set_option maxHeartbeats 8000000 in
set_option maxRecDepth 100000 in
theorem impl_LeafOf.calls (k : Nat) (a0 : Int) (r : Int) (w : World) (h : impl_LeafOf.f k a0 = some r) :
  Calls Try.prog 35 #[.int .i64 a0] w fun e w' => e = .returned (.int .i64 r) ∧ Below w.heap.size w w' := by
 have HB := zm (Below.refl w.heap.size w); have H : ((impl_isNode.f a0).bind fun AC => (if AC = true then ((impl_PutNum.f k a0).bind fun AA => ((impl_Crc.f k AA).bind fun AD => (some (Int.tmod AD 4)))) else (some (-1)))) = some r := h; clear h; replace H := Option.bind_eq_some_iff.mp H; obtain ⟨AC, AE, H⟩ := H; (try dsimp only at H); have A2 := zm AE; clear AE
 by_cases c3 : AC = true
 ·subst c3; rw [if_pos rfl] at H; replace H := Option.bind_eq_some_iff.mp H; obtain ⟨AA, AF, H⟩ := H; (try dsimp only at H); have A4 := zm AF; clear AF; replace H := Option.bind_eq_some_iff.mp H; obtain ⟨AD, AG, H⟩ := H; (try dsimp only at H); have A5 := zm AG; clear AG; obtain rfl := Option.some.inj H; go_enter Try.func35, Try.ntmps35
  go_wp2_with (first | ((with_reducible refine gate_callee (f := 74) rfl ?_); refine zg (some 4) #[.int .i64 a0] Try.func74 ?_; (with_reducible refine (impl_isNode.calls a0 true _ A2.out).mono ?_); rintro e w' ⟨rfl, ⟨nd, rfl⟩⟩; refine ⟨_, rfl, ?_⟩) | ((with_reducible refine gate_callee (f := 80) rfl ?_); refine zg (some 7) #[.int .i64 a0] Try.func80 ?_; (with_reducible refine (impl_PutNum.calls k a0 AA _ A4.out).mono ?_); rintro e w6 ⟨v705, rfl, ho0, hb⟩; refine ⟨_, rfl, ?_⟩; have AB := zm (Kd.R_lower ho0 (below_size zB)); replace HB := zm (below_step zB hb); clear hb ho0; obtain ⟨AH, AI, eo7⟩ := Kd.R_slice AB.out; subst eo7) | ((with_reducible refine gate_callee (f := 79) rfl ?_); refine zg (some 8) #[.slice AH AA.length AI] Try.func79 ?_; (with_reducible refine (impl_Crc.calls k _ _ AA AD _ ?side1 ?side2 A5.out).mono ?_); (case side1 => repeat (first | exact (Kd.R_reads' AB.out).2.2 | (with_reducible refine Kd.C_alloc ?_ _) | (with_reducible refine Kd.C_drewN ?_ _) | (with_reducible refine Kd.C_drew ?_))); (case side2 => exact (Kd.R_reads' AB.out).2.1); rintro e w' ⟨rfl, ⟨nd, rfl⟩⟩; refine ⟨_, rfl, ?_⟩))
  go_ret
  exact ⟨zE, zB⟩
 ·replace c3 := Bool.eq_false_iff.mpr c3; subst c3; rw [zff] at H; obtain rfl := Option.some.inj H; go_enter Try.func35, Try.ntmps35
  go_wp2_with (first | ((with_reducible refine gate_callee (f := 74) rfl ?_); refine zg (some 4) #[.int .i64 a0] Try.func74 ?_; (with_reducible refine (impl_isNode.calls a0 false _ A2.out).mono ?_); rintro e w' ⟨rfl, ⟨nd, rfl⟩⟩; refine ⟨_, rfl, ?_⟩))
  go_ret
  exact ⟨zE, zB⟩

/-! ### spec_Crc: function 81 -/
mutual
def spec_Crc.l0 : Nat → List Int → Int → Int → Option (Int)
 | 0, _, _, _ => none
 | k + 1, x0, x3, x4 => if x4 < (x0.length : Int) then (if 0 ≤ x4 then (spec_Crc.l1 k x0 (Go.bits .xor .i64 x3 (wrap64 (rd x0 x4))) x4 0) else (none)) else (some (Go.bits .xor .i64 x3 4294967295))
def spec_Crc.l1 : Nat → List Int → Int → Int → Int → Option (Int)
 | 0, _, _, _, _ => none
 | k + 1, x0, x3, x4, x5 => if x5 < 8 then (if (Int.tmod x3 2) = 1 then (spec_Crc.l1 k x0 (Go.bits .xor .i64 (wrap64 (Int.tdiv x3 2)) 3988292384) x4 (wrap64 (x5 + 1))) else (spec_Crc.l1 k x0 (wrap64 (Int.tdiv x3 2)) x4 (wrap64 (x5 + 1)))) else (spec_Crc.l0 k x0 x3 (wrap64 (x4 + 1)))
end
def spec_Crc.f (k : Nat) (l0 : List Int) : Option (Int) := spec_Crc.l0 k l0 4294967295 0
theorem spec_Crc.mono_l : ∀ k, (∀ y0 y1 y2, LeO (spec_Crc.l0 k y0 y1 y2) (spec_Crc.l0 (k + 1) y0 y1 y2)) ∧ (∀ y0 y1 y2 y3, LeO (spec_Crc.l1 k y0 y1 y2 y3) (spec_Crc.l1 (k + 1) y0 y1 y2 y3))
 | 0 => ⟨fun _ _ _ r h => by simp [spec_Crc.l0] at h, fun _ _ _ _ r h => by simp [spec_Crc.l1] at h⟩
 | k + 1 => by
  obtain ⟨ih0, ih1⟩ := spec_Crc.mono_l k
  refine ⟨?_, ?_⟩
  ·intro y0 y1 y2
   unfold spec_Crc.l0
   repeat' first | (with_reducible first | exact LeO.refl _ | exact LeO.none _ | refine LeO.ite ?_ ?_ | refine LeO.bind ?_ (fun _ => ?_) | apply ih0 | apply ih1) | apply ih0 | apply ih1 | exact LeO.none _ | refine LeO.ite ?_ ?_ | refine LeO.bind ?_ (fun _ => ?_)
  ·intro y0 y1 y2 y3
   unfold spec_Crc.l1
   repeat' first | (with_reducible first | exact LeO.refl _ | exact LeO.none _ | refine LeO.ite ?_ ?_ | refine LeO.bind ?_ (fun _ => ?_) | apply ih0 | apply ih1) | apply ih0 | apply ih1 | exact LeO.none _ | refine LeO.ite ?_ ?_ | refine LeO.bind ?_ (fun _ => ?_)
theorem spec_Crc.mono : ∀ a0 k, LeO (spec_Crc.f k a0) (spec_Crc.f (k + 1) a0) := by
 intro a0 k; obtain ⟨ih0, ih1⟩ := spec_Crc.mono_l k
 unfold spec_Crc.f
 repeat' first | (with_reducible first | exact LeO.refl _ | exact LeO.none _ | refine LeO.ite ?_ ?_ | refine LeO.bind ?_ (fun _ => ?_) | apply ih0 | apply ih1) | apply ih0 | apply ih1 | exact LeO.none _ | refine LeO.ite ?_ ?_ | refine LeO.bind ?_ (fun _ => ?_)
set_option maxHeartbeats 8000000 in
set_option maxRecDepth 100000 in
theorem spec_Crc.calls (k : Nat) (A0 : Option Addr) (c0 : Nat) (l0 : List Int) (r : Int) (w : World) (hr0 : Kd.C (Kd.int .u8) w A0 l0.length l0) (hc0 : l0.length ≤ c0) (h : spec_Crc.f k l0 = some r) :
  Calls Try.prog 81 #[.slice A0 l0.length c0] w fun e w' => e = .returned (.int .i64 r) ∧ Drawn0 w w' := by
 have HR0 := zm hr0; have AL := zm hc0; clear hr0 hc0; have H : (spec_Crc.l0 k l0 4294967295 0) = some r := h; clear h
 have H' := zm H
 clear H; go_enter Try.func81, Try.ntmps81
 go_wp2
 go_loopg [3, 4] k (fun kq v3 v4 w' => ∃ (AF : Int) (AA : Int), v3 = .int .i64 AF ∧ v4 = .int .i64 AA ∧ Aside0 (spec_Crc.l0 kq l0 AF AA = some r) ∧ Aside0 (kq ≤ k) ∧ Drawn0 w w')
 case atStart => exact ⟨(4294967295), (0), zF, zF, H', ⟨Nat.le_refl _⟩, zD⟩
 case round =>
  clear H'; obtain ⟨AF, AA, rfl, rfl, HA, AD, ⟨m1, rfl⟩⟩ := hrel
  cases gk with
  | zero => exact absurd HA.out (by simp [spec_Crc.l0])
  | succ k1 =>
   have H := HA.out; clear HA; simp only [spec_Crc.l0] at H
   by_cases c2 : AA < (l0.length : Int)
   ·rw [if_pos c2] at H; have AG : decide (AA < (l0.length : Int)) = true := decide_eq_true c2; clear c2
    by_cases c3 : 0 ≤ AA
    ·rw [if_pos c3] at H; have AH : decide (0 ≤ AA) = true := decide_eq_true c3; clear c3
     have H' := zm H
     clear H; have p708 : 0 ≤ (AA : Int) := zd; have q708 : AA < (l0.length : Int) := zd; obtain ⟨ad708, e708, hx708_0⟩ := Kd.at_int HR0.out AA p708 q708; cases e708; replace p708 := eq_true p708; replace q708 := eq_true q708
     go_wp2
     go_loopg [3, 5] k1 (fun kq v3 v5 w' => ∃ (AB : Int) (AC : Int), v3 = .int .i64 AB ∧ v5 = .int .i64 AC ∧ Aside0 (spec_Crc.l1 kq l0 AB AA AC = some r) ∧ Aside0 (kq ≤ k1) ∧ Drawn0 w w')
     case atStart => exact ⟨(Go.bits .xor .i64 AF (wrap64 (rd l0 AA))), (0), zF, zF, H', ⟨Nat.le_refl _⟩, zD⟩
     case round =>
      clear H'; (try clear c2); (try clear AG); (try clear c3); (try clear AH); (try clear hx708_0); (try clear p708); (try clear q708); obtain ⟨AB, AC, rfl, rfl, HA, AE, ⟨m2, rfl⟩⟩ := hrel
      cases gk with
      | zero => exact absurd HA.out (by simp [spec_Crc.l1])
      | succ k2 =>
       have H := HA.out; clear HA; simp only [spec_Crc.l1] at H
       by_cases c4 : AC < 8
       ·rw [if_pos c4] at H; have AI : decide (AC < 8) = true := decide_eq_true c4; clear c4
        by_cases c5 : (Int.tmod AB 2) = 1
        ·rw [if_pos c5] at H; have AJ : ((Int.tmod AB 2) == 1) = true := beq_iff_eq.mpr c5; have AK : ((Int.tmod AB 2) != 1) = false := bne_eq_false_iff_eq.mpr c5; clear c5
         have H' := zm H
         clear H
         go_wp2
         go_roundg k2
         case measure => have := AD.out; have := AE.out; omega
         case rel => exact ⟨(Go.bits .xor .i64 (wrap64 (Int.tdiv AB 2)) 3988292384), (wrap64 (AC + 1)), zF, zF, H', ⟨by have := AD.out; have := AE.out; omega⟩, zD⟩
        ·rw [if_neg c5] at H; have AJ : ((Int.tmod AB 2) == 1) = false := beq_eq_false_iff_ne.mpr c5; have AK : ((Int.tmod AB 2) != 1) = true := bne_iff_ne.mpr c5
         have H' := zm H
         clear H
         go_wp2
         go_roundg k2
         case measure => have := AD.out; have := AE.out; omega
         case rel => exact ⟨(wrap64 (Int.tdiv AB 2)), (wrap64 (AC + 1)), zF, zF, H', ⟨by have := AD.out; have := AE.out; omega⟩, zD⟩
       ·rw [if_neg c4] at H; have AI : decide (AC < 8) = false := decide_eq_false c4; clear c4
        have H' := zm H
        clear H
        go_wp2
        go_roundg k2
        case measure => have := AD.out; have := AE.out; omega
        case rel => exact ⟨(AB), (wrap64 (AA + 1)), zF, zF, H', ⟨by have := AD.out; have := AE.out; omega⟩, zD⟩
    ·rw [if_neg c3] at H
     exact absurd H (by simp)
   ·rw [if_neg c2] at H; have AG : decide (AA < (l0.length : Int)) = false := decide_eq_false c2; clear c2; obtain rfl := Option.some.inj H
    go_wp2
    go_ret
    exact ⟨zF, zD⟩

/-! ### spec_PutNum: function 82 -/
def spec_PutNum.l0 : Nat → Int → List Int → Option (List Int)
 | 0, _, _ => none
 | k + 1, x0, x3 => if x0 > 127 then (if x3.length < 140737488355328 then (spec_PutNum.l0 k (wrap64 (Int.tdiv x0 128)) (x3 ++ [(wrap64 ((Int.tmod x0 128) + 128)) % 256])) else (none)) else (if x3.length < 140737488355328 then (some (x3 ++ [(x0) % 256])) else (none))
def spec_PutNum.f (k : Nat) (a0 : Int) : Option (List Int) := (some (([] : List Int) : List Int)).bind fun y709 => ((spec_l1In.f a0 0 2147483647).bind fun t712 => (if t712 = true then (spec_PutNum.l0 k a0 y709) else (some y709)))
theorem spec_PutNum.mono_l : ∀ k, (∀ y0 y1, LeO (spec_PutNum.l0 k y0 y1) (spec_PutNum.l0 (k + 1) y0 y1))
 | 0 => fun _ _ r h => by simp [spec_PutNum.l0] at h
 | k + 1 => by
  have ih0 := spec_PutNum.mono_l k
  ·intro y0 y1
   unfold spec_PutNum.l0
   repeat' first | (with_reducible first | exact LeO.refl _ | exact LeO.none _ | refine LeO.ite ?_ ?_ | refine LeO.bind ?_ (fun _ => ?_) | apply ih0) | apply ih0 | exact LeO.none _ | refine LeO.ite ?_ ?_ | refine LeO.bind ?_ (fun _ => ?_)
theorem spec_PutNum.mono : ∀ a0 k, LeO (spec_PutNum.f k a0) (spec_PutNum.f (k + 1) a0) := by
 intro a0 k; have ih0 := spec_PutNum.mono_l k
 unfold spec_PutNum.f
 repeat' first | (with_reducible first | exact LeO.refl _ | exact LeO.none _ | refine LeO.ite ?_ ?_ | refine LeO.bind ?_ (fun _ => ?_) | apply ih0) | apply ih0 | exact LeO.none _ | refine LeO.ite ?_ ?_ | refine LeO.bind ?_ (fun _ => ?_)
set_option maxHeartbeats 8000000 in
set_option maxRecDepth 100000 in
theorem spec_PutNum.calls (k : Nat) (a0 : Int) (r : List Int) (w : World) (h : spec_PutNum.f k a0 = some r) :
  Calls Try.prog 82 #[.int .i64 a0] w fun e w' => ∃ v0_ : Value, e = .returned (v0_) ∧ Kd.R (Kd.int .u8) 5 w' w.heap.size (fun _ => True) v0_ r ∧ Below w.heap.size w w' := by
 have HB := zm (Below.refl w.heap.size w); have H : ((some (([] : List Int) : List Int)).bind fun y709 => ((spec_l1In.f a0 0 2147483647).bind fun AC => (if AC = true then (spec_PutNum.l0 k a0 y709) else (some y709)))) = some r := h; clear h
 obtain ⟨y709, hy709⟩ : ∃ y_ : List Int, y_ = (([] : List Int)) := ⟨_, rfl⟩
 replace H : ((spec_l1In.f a0 0 2147483647).bind fun AC => (if AC = true then (spec_PutNum.l0 k a0 y709) else (some y709))) = some r := by first | (rw [hy709]; with_reducible exact H) | (have H2_ := (Option.bind_some _ _).symm.trans H; rw [hy709]; with_reducible exact H2_) | (have H2_ := (Option.bind_some _ _).symm.trans H; with_reducible exact H2_) | with_reducible exact H | (rw [hy709]; exact H) | exact H
 have Ny709 := zm hy709; clear hy709; replace H := Option.bind_eq_some_iff.mp H; obtain ⟨AC, AH, H⟩ := H; (try dsimp only at H); have A2 := zm AH; clear AH
 by_cases c3 : AC = true
 ·subst c3; rw [if_pos rfl] at H
  have H' := zm H
  clear H; go_enter Try.func82, Try.ntmps82
  go_wp2_with (first | ((with_reducible refine gate_dst (N := 4) rfl ?_); refine Kd.R_lit (Kd.int .u8) _ 5 ?hg (N := 4) ?hd (xs := ([] : List Int)) (inner := []) (ok := fun _ => True) (okp := fun _ => True) ?hr ?hp (fun _ hk => hk) trivial (Below.refl _ _) (Nat.le_refl _) (by simp) ?_; (case hd => rfl); (case hg => rfl); (case hr => first | (go_simp; done) | (go_simp; rfl)); (case hp => exact (Reps.none _ _)); intro v710 w4 ho5 hb hg_ hnew_; clear hg_ hnew_; (first | rw [← Ny709.out] at ho5 | (simp only [Int.reduceToNat] at ho5; rw [← Ny709.out] at ho5)); have AD := zm (Kd.R_lower ho5 (below_size zB)); replace HB := zm (below_step zB hb); clear hb ho5) | ((with_reducible refine gate_callee (f := 66) rfl ?_); refine zg (some 6) #[.int .i64 a0, .int .i64 0, .int .i64 2147483647] Try.func66 ?_; (with_reducible refine (spec_l1In.calls a0 0 2147483647 true _ A2.out).mono ?_); rintro e w' ⟨rfl, ⟨nd, rfl⟩⟩; refine ⟨_, rfl, ?_⟩))
  go_loopg [0, 3] k (fun kq v0 v3 w' => ∃ (AA : Int) (AB : List Int), v0 = .int .i64 AA ∧ Aside0 (spec_PutNum.l0 kq AA AB = some r) ∧ Aside0 (kq ≤ k) ∧ Aside0 (Kd.R (Kd.int .u8) 5 w' w.heap.size (fun _ => True) v3 AB) ∧ Aside0 (Below w.heap.size w w'))
  case atStart => exact ⟨(a0), (y709), zF, H', ⟨Nat.le_refl _⟩, ⟨zr AD⟩, ⟨zB⟩⟩
  case round =>
   clear H'; (try clear c3); obtain ⟨AA, AB, rfl, HA, AI, AE, HB⟩ := hrel
   cases gk with
   | zero => exact absurd HA.out (by simp [spec_PutNum.l0])
   | succ k1 =>
    have H := HA.out; clear HA; simp only [spec_PutNum.l0] at H
    by_cases c6 : AA > 127
    ·rw [if_pos c6] at H; have AJ : decide (127 < AA) = true := decide_eq_true c6; clear c6
     by_cases c7 : AB.length < 140737488355328
     ·rw [if_pos c7] at H; have LMc7 := zm c7; clear c7
      obtain ⟨y713, hy713⟩ : ∃ y_ : List Int, y_ = (AB ++ [(wrap64 ((Int.tmod AA 128) + 128)) % 256]) := ⟨_, rfl⟩
      replace H : (spec_PutNum.l0 k1 (wrap64 (Int.tdiv AA 128)) y713) = some r := by first | (rw [hy713]; with_reducible exact H) | (have H2_ := (Option.bind_some _ _).symm.trans H; rw [hy713]; with_reducible exact H2_) | (have H2_ := (Option.bind_some _ _).symm.trans H; with_reducible exact H2_) | with_reducible exact H | (rw [hy713]; exact H) | exact H
      have Ny713 := zm hy713; clear hy713
      have H' := zm H
      clear H
      go_wp2_with (first | ((with_reducible refine gate_builtin (b := .append) (xs := #[.tmp 11, .tmp 16]) rfl ?_); at_builtin; refine Kd.R_append (Kd.int .u8) (w0 := w) w.heap.size rfl (.tmp 11) (.tmp 16) 22 5 (.int .u8 0) 1 rfl Try.underlying22 info5 rfl (by decide) (by omega) u3 AB ((wrap64 ((Int.tmod AA 128) + 128)) % 256) [.int .u8 ((wrap64 ((Int.tmod AA 128) + 128)) % 256)] (fun _ => True) (fun _ => False) rfl rfl ?aP (fun _ hk => hk.elim) ?aF ?aO ?aB ?aS ?aL ?_; (case aP => exact rfl); (case aB => exact zB); (case aF => exact (fun _ _ => trivial)); (case aO => exact (zr AE)); (case aS => exact (below_size zB)); (case aL => have := LMc7.out; omega); intro v714 w8 ho hb hg hat; rw [← Ny713.out] at ho; replace HB := zm hb; have AF := zm (ho); clear AE; clear ho hb hg hat))
      go_roundg k1
      case measure => have := AI.out; omega
      case rel => exact ⟨(wrap64 (Int.tdiv AA 128)), (y713), zF, H', ⟨by have := AI.out; omega⟩, ⟨zr AF⟩, ⟨zB⟩⟩
     ·rw [if_neg c7] at H
      exact absurd H (by simp)
    ·rw [if_neg c6] at H; have AJ : decide (127 < AA) = false := decide_eq_false c6; clear c6
     by_cases c9 : AB.length < 140737488355328
     ·rw [if_pos c9] at H; have LMc9 := zm c9; clear c9
      obtain ⟨y716, hy716⟩ : ∃ y_ : List Int, y_ = (AB ++ [(AA) % 256]) := ⟨_, rfl⟩
      replace H : (some y716) = some r := by first | (rw [hy716]; with_reducible exact H) | (have H2_ := (Option.bind_some _ _).symm.trans H; rw [hy716]; with_reducible exact H2_) | (have H2_ := (Option.bind_some _ _).symm.trans H; with_reducible exact H2_) | with_reducible exact H | (rw [hy716]; exact H) | exact H
      have Ny716 := zm hy716; clear hy716; obtain rfl := Option.some.inj H
      go_wp2_with (first | ((with_reducible refine gate_builtin (b := .append) (xs := #[.tmp 20, .tmp 23]) rfl ?_); at_builtin; refine Kd.R_append (Kd.int .u8) (w0 := w) w.heap.size rfl (.tmp 20) (.tmp 23) 22 5 (.int .u8 0) 1 rfl Try.underlying22 info5 rfl (by decide) (by omega) u3 AB ((AA) % 256) [.int .u8 ((AA) % 256)] (fun _ => True) (fun _ => False) rfl rfl ?aP (fun _ hk => hk.elim) ?aF ?aO ?aB ?aS ?aL ?_; (case aP => exact rfl); (case aB => exact zB); (case aF => exact (fun _ _ => trivial)); (case aO => exact (zr AE)); (case aS => exact (below_size zB)); (case aL => have := LMc9.out; omega); intro v717 AK ho hb hg hat; rw [← Ny716.out] at ho; replace HB := zm hb; have AG := zm (ho); clear AE; clear ho hb hg hat))
      go_ret
      exact ⟨_, zE, zr AG, zB⟩
     ·rw [if_neg c9] at H
      exact absurd H (by simp)
 ·replace c3 := Bool.eq_false_iff.mpr c3; subst c3; rw [zff] at H; obtain rfl := Option.some.inj H; go_enter Try.func82, Try.ntmps82
  go_wp2_with (first | ((with_reducible refine gate_dst (N := 4) rfl ?_); refine Kd.R_lit (Kd.int .u8) _ 5 ?hg (N := 4) ?hd (xs := ([] : List Int)) (inner := []) (ok := fun _ => True) (okp := fun _ => True) ?hr ?hp (fun _ hk => hk) trivial (Below.refl _ _) (Nat.le_refl _) (by simp) ?_; (case hd => rfl); (case hg => rfl); (case hr => first | (go_simp; done) | (go_simp; rfl)); (case hp => exact (Reps.none _ _)); intro v710 AL ho12 hb hg_ hnew_; clear hg_ hnew_; (first | rw [← Ny709.out] at ho12 | (simp only [Int.reduceToNat] at ho12; rw [← Ny709.out] at ho12)); have AD := zm (Kd.R_lower ho12 (below_size zB)); replace HB := zm (below_step zB hb); clear hb ho12) | ((with_reducible refine gate_callee (f := 66) rfl ?_); refine zg (some 6) #[.int .i64 a0, .int .i64 0, .int .i64 2147483647] Try.func66 ?_; (with_reducible refine (spec_l1In.calls a0 0 2147483647 false _ A2.out).mono ?_); rintro e w' ⟨rfl, ⟨nd, rfl⟩⟩; refine ⟨_, rfl, ?_⟩))
  go_ret
  exact ⟨_, zE, zr AD, zB⟩

/-! ### spec_LeafOf: function 36 -/
def spec_LeafOf.f (k : Nat) (a0 : Int) : Option (Int) := (spec_l3Node.f a0).bind fun t719 => (if t719 = true then ((spec_PutNum.f k a0).bind fun t720 => ((spec_Crc.f k t720).bind fun t723 => (some (Int.tmod t723 4)))) else (some (-1)))
theorem spec_LeafOf.mono : ∀ a0 k, LeO (spec_LeafOf.f k a0) (spec_LeafOf.f (k + 1) a0) := by
 intro a0 k
 unfold spec_LeafOf.f
 repeat' first | (with_reducible first | exact LeO.refl _ | exact LeO.none _ | refine LeO.ite ?_ ?_ | refine LeO.bind ?_ (fun _ => ?_) | apply spec_Crc.mono | apply spec_PutNum.mono) | apply spec_Crc.mono | apply spec_PutNum.mono | exact LeO.none _ | refine LeO.ite ?_ ?_ | refine LeO.bind ?_ (fun _ => ?_)
set_option maxHeartbeats 8000000 in
set_option maxRecDepth 100000 in
theorem spec_LeafOf.calls (k : Nat) (a0 : Int) (r : Int) (w : World) (h : spec_LeafOf.f k a0 = some r) :
  Calls Try.prog 36 #[.int .i64 a0] w fun e w' => e = .returned (.int .i64 r) ∧ Below w.heap.size w w' := by
 have HB := zm (Below.refl w.heap.size w); have H : ((spec_l3Node.f a0).bind fun AC => (if AC = true then ((spec_PutNum.f k a0).bind fun AA => ((spec_Crc.f k AA).bind fun AD => (some (Int.tmod AD 4)))) else (some (-1)))) = some r := h; clear h; replace H := Option.bind_eq_some_iff.mp H; obtain ⟨AC, AE, H⟩ := H; (try dsimp only at H); have A2 := zm AE; clear AE
 by_cases c3 : AC = true
 ·subst c3; rw [if_pos rfl] at H; replace H := Option.bind_eq_some_iff.mp H; obtain ⟨AA, AF, H⟩ := H; (try dsimp only at H); have A4 := zm AF; clear AF; replace H := Option.bind_eq_some_iff.mp H; obtain ⟨AD, AG, H⟩ := H; (try dsimp only at H); have A5 := zm AG; clear AG; obtain rfl := Option.some.inj H; go_enter Try.func36, Try.ntmps36
  go_wp2_with (first | ((with_reducible refine gate_callee (f := 64) rfl ?_); refine zg (some 4) #[.int .i64 a0] Try.func64 ?_; (with_reducible refine (spec_l3Node.calls a0 true _ A2.out).mono ?_); rintro e w' ⟨rfl, ⟨nd, rfl⟩⟩; refine ⟨_, rfl, ?_⟩) | ((with_reducible refine gate_callee (f := 82) rfl ?_); refine zg (some 7) #[.int .i64 a0] Try.func82 ?_; (with_reducible refine (spec_PutNum.calls k a0 AA _ A4.out).mono ?_); rintro e w6 ⟨v721, rfl, ho0, hb⟩; refine ⟨_, rfl, ?_⟩; have AB := zm (Kd.R_lower ho0 (below_size zB)); replace HB := zm (below_step zB hb); clear hb ho0; obtain ⟨AH, AI, eo7⟩ := Kd.R_slice AB.out; subst eo7) | ((with_reducible refine gate_callee (f := 81) rfl ?_); refine zg (some 8) #[.slice AH AA.length AI] Try.func81 ?_; (with_reducible refine (spec_Crc.calls k _ _ AA AD _ ?side1 ?side2 A5.out).mono ?_); (case side1 => repeat (first | exact (Kd.R_reads' AB.out).2.2 | (with_reducible refine Kd.C_alloc ?_ _) | (with_reducible refine Kd.C_drewN ?_ _) | (with_reducible refine Kd.C_drew ?_))); (case side2 => exact (Kd.R_reads' AB.out).2.1); rintro e w' ⟨rfl, ⟨nd, rfl⟩⟩; refine ⟨_, rfl, ?_⟩))
  go_ret
  exact ⟨zE, zB⟩
 ·replace c3 := Bool.eq_false_iff.mpr c3; subst c3; rw [zff] at H; obtain rfl := Option.some.inj H; go_enter Try.func36, Try.ntmps36
  go_wp2_with (first | ((with_reducible refine gate_callee (f := 64) rfl ?_); refine zg (some 4) #[.int .i64 a0] Try.func64 ?_; (with_reducible refine (spec_l3Node.calls a0 false _ A2.out).mono ?_); rintro e w' ⟨rfl, ⟨nd, rfl⟩⟩; refine ⟨_, rfl, ?_⟩))
  go_ret
  exact ⟨zE, zB⟩

/-! ### slices_Index_int_int: function 110 -/
def slices_Index_int_int.l0 : Nat → List Int → Int → Int → Int → Option (Int)
 | 0, _, _, _, _ => none
 | k + 1, x0, x1, x7, x8 => if x8 < x7 then (if 0 ≤ x8 then (if x8 < (x0.length : Int) then (if x1 = (rd x0 x8) then (some x8) else (slices_Index_int_int.l0 k x0 x1 x7 (wrap64 (x8 + 1)))) else (none)) else (none)) else (some (-1))
def slices_Index_int_int.f (k : Nat) (l0 : List Int) (a1 : Int) : Option (Int) := slices_Index_int_int.l0 k l0 a1 (l0.length : Int) 0
theorem slices_Index_int_int.mono_l : ∀ k, (∀ y0 y1 y2 y3, LeO (slices_Index_int_int.l0 k y0 y1 y2 y3) (slices_Index_int_int.l0 (k + 1) y0 y1 y2 y3))
 | 0 => fun _ _ _ _ r h => by simp [slices_Index_int_int.l0] at h
 | k + 1 => by
  have ih0 := slices_Index_int_int.mono_l k
  ·intro y0 y1 y2 y3
   unfold slices_Index_int_int.l0
   repeat' first | (with_reducible first | exact LeO.refl _ | exact LeO.none _ | refine LeO.ite ?_ ?_ | refine LeO.bind ?_ (fun _ => ?_) | apply ih0) | apply ih0 | exact LeO.none _ | refine LeO.ite ?_ ?_ | refine LeO.bind ?_ (fun _ => ?_)
theorem slices_Index_int_int.mono : ∀ a0 a1 k, LeO (slices_Index_int_int.f k a0 a1) (slices_Index_int_int.f (k + 1) a0 a1) := by
 intro a0 a1 k; have ih0 := slices_Index_int_int.mono_l k
 unfold slices_Index_int_int.f
 repeat' first | (with_reducible first | exact LeO.refl _ | exact LeO.none _ | refine LeO.ite ?_ ?_ | refine LeO.bind ?_ (fun _ => ?_) | apply ih0) | apply ih0 | exact LeO.none _ | refine LeO.ite ?_ ?_ | refine LeO.bind ?_ (fun _ => ?_)
set_option maxHeartbeats 8000000 in
set_option maxRecDepth 100000 in
theorem slices_Index_int_int.calls (k : Nat) (A0 : Option Addr) (c0 : Nat) (l0 : List Int) (a1 : Int) (r : Int) (w : World) (hr0 : Kd.C (Kd.int .i64) w A0 l0.length l0) (hc0 : l0.length ≤ c0) (h : slices_Index_int_int.f k l0 a1 = some r) :
  Calls Try.prog 110 #[.slice A0 l0.length c0, .int .i64 a1] w fun e w' => e = .returned (.int .i64 r) ∧ Drawn0 w w' := by
 have HR0 := zm hr0; have AH := zm hc0; clear hr0 hc0; have H : (slices_Index_int_int.l0 k l0 a1 (l0.length : Int) 0) = some r := h; clear h
 have H' := zm H
 clear H; go_enter Try.func110, Try.ntmps110
 go_wp2
 go_loopg [8] k (fun kq v8 w' => ∃ (AA : Int), v8 = .int .i64 AA ∧ Aside0 (slices_Index_int_int.l0 kq l0 a1 (l0.length : Int) AA = some r) ∧ Aside0 (kq ≤ k) ∧ Drawn0 w w')
 case atStart => exact ⟨(0), zF, H', ⟨Nat.le_refl _⟩, zD⟩
 case round =>
  clear H'; obtain ⟨AA, rfl, HA, AB, ⟨m1, rfl⟩⟩ := hrel
  cases gk with
  | zero => exact absurd HA.out (by simp [slices_Index_int_int.l0])
  | succ k1 =>
   have H := HA.out; clear HA; simp only [slices_Index_int_int.l0] at H
   by_cases c3 : AA < (l0.length : Int)
   ·rw [if_pos c3] at H; have AC : decide (AA < (l0.length : Int)) = true := decide_eq_true c3; clear c3
    by_cases c4 : 0 ≤ AA
    ·rw [if_pos c4] at H; have AF : decide (0 ≤ AA) = true := decide_eq_true c4; clear c4
     by_cases c5 : AA < (l0.length : Int)
     ·rw [if_pos c5] at H; have AG : decide (AA < (l0.length : Int)) = true := decide_eq_true c5; clear c5
      by_cases c6 : a1 = (rd l0 AA)
      ·rw [if_pos c6] at H; have AD : (a1 == (rd l0 AA)) = true := beq_iff_eq.mpr c6; have AE : (a1 != (rd l0 AA)) = false := bne_eq_false_iff_eq.mpr c6; clear c6; obtain rfl := Option.some.inj H; have p724 : 0 ≤ (AA : Int) := zd; have q724 : AA < (l0.length : Int) := zd; obtain ⟨ad724, e724, hx724_0⟩ := Kd.at_int HR0.out AA p724 q724; cases e724; replace p724 := eq_true p724; replace q724 := eq_true q724
       go_wp2
       go_ret
       exact ⟨zF, zD⟩
      ·rw [if_neg c6] at H; have AD : (a1 == (rd l0 AA)) = false := beq_eq_false_iff_ne.mpr c6; have AE : (a1 != (rd l0 AA)) = true := bne_iff_ne.mpr c6
       have H' := zm H
       clear H; have p724 : 0 ≤ (AA : Int) := zd; have q724 : AA < (l0.length : Int) := zd; obtain ⟨ad724, e724, hx724_0⟩ := Kd.at_int HR0.out AA p724 q724; cases e724; replace p724 := eq_true p724; replace q724 := eq_true q724
       go_wp2
       go_roundg k1
       case measure => have := AB.out; omega
       case rel => exact ⟨(wrap64 (AA + 1)), zF, H', ⟨by have := AB.out; omega⟩, zD⟩
     ·rw [if_neg c5] at H
      exact absurd H (by simp)
    ·rw [if_neg c4] at H
     exact absurd H (by simp)
   ·rw [if_neg c3] at H; have AC : decide (AA < (l0.length : Int)) = false := decide_eq_false c3; clear c3; obtain rfl := Option.some.inj H
    go_wp2
    go_ret
    exact ⟨zF, zD⟩

/-! ### slices_Contains_int_int: function 83 -/
def slices_Contains_int_int.f (k : Nat) (l0 : List Int) (a1 : Int) : Option (Bool) := (slices_Index_int_int.f k l0 a1).bind fun t725 => (some (decide (t725 ≥ 0)))
theorem slices_Contains_int_int.mono : ∀ a0 a1 k, LeO (slices_Contains_int_int.f k a0 a1) (slices_Contains_int_int.f (k + 1) a0 a1) := by
 intro a0 a1 k
 unfold slices_Contains_int_int.f
 repeat' first | (with_reducible first | exact LeO.refl _ | exact LeO.none _ | refine LeO.ite ?_ ?_ | refine LeO.bind ?_ (fun _ => ?_) | apply slices_Index_int_int.mono) | apply slices_Index_int_int.mono | exact LeO.none _ | refine LeO.ite ?_ ?_ | refine LeO.bind ?_ (fun _ => ?_)
set_option maxHeartbeats 8000000 in
set_option maxRecDepth 100000 in
theorem slices_Contains_int_int.calls (k : Nat) (A0 : Option Addr) (c0 : Nat) (l0 : List Int) (a1 : Int) (r : Bool) (w : World) (hr0 : Kd.C (Kd.int .i64) w A0 l0.length l0) (hc0 : l0.length ≤ c0) (h : slices_Contains_int_int.f k l0 a1 = some r) :
  Calls Try.prog 83 #[.slice A0 l0.length c0, .int .i64 a1] w fun e w' => e = .returned (.bool r) ∧ Drawn0 w w' := by
 have HR0 := zm hr0; have AC := zm hc0; clear hr0 hc0; have H : ((slices_Index_int_int.f k l0 a1).bind fun AA => (some (decide (AA ≥ 0)))) = some r := h; clear h; replace H := Option.bind_eq_some_iff.mp H; obtain ⟨AA, AB, H⟩ := H; (try dsimp only at H); have A3 := zm AB; clear AB; obtain rfl := Option.some.inj H; go_enter Try.func83, Try.ntmps83
 go_wp2_with (first | ((with_reducible refine gate_callee (f := 110) rfl ?_); refine zg (some 7) #[.slice A0 l0.length c0, .int .i64 a1] Try.func110 ?_; (with_reducible refine (slices_Index_int_int.calls k _ _ l0 a1 AA _ (zk HR0.out) AC.out A3.out).mono ?_); rintro e w' ⟨rfl, ⟨nd, rfl⟩⟩; refine ⟨_, rfl, ?_⟩))
 go_ret
 exact ⟨zF, zD⟩

/-! ### impl_Slice: function 37 -/
mutual
def impl_Slice.l0 : Nat → List Int → List (S44) → Int → Int → List (S44) → List (S58) → List (S44) → Option ((List (S44)) × (List (S58)))
 | 0, _, _, _, _, _, _, _ => none
 | k + 1, x1, x16, x17, x18, x727000, x727001, x729000 => if x18 < x17 then (if 0 ≤ x18 then (if x18 < (x16.length : Int) then ((impl_LeafOf.f k ((rd_T44 x16 x18).f0)).bind fun t732 => ((slices_Contains_int_int.f k x1 t732).bind fun t733 => (if t733 = true then (if x729000.length < 2513169434916 then (impl_Slice.l0 k x1 x16 x17 (wrap64 (x18 + 1)) x727000 x727001 (x729000 ++ [(⟨(rd_T44 x16 x18).f0, (⟨(rd_T44 x16 x18).f1.f0, (rd_T44 x16 x18).f1.f1, (rd_T44 x16 x18).f1.f2, (rd_T44 x16 x18).f1.f3, (rd_T44 x16 x18).f1.f4⟩ : S36)⟩ : S44)])) else (none)) else (impl_Slice.l0 k x1 x16 x17 (wrap64 (x18 + 1)) x727000 x727001 x729000)))) else (none)) else (none)) else (impl_Slice.l1 k x1 x727001 (x727001.length : Int) 0 x729000 ([] : List (S58)))
def impl_Slice.l1 : Nat → List Int → List (S58) → Int → Int → List (S44) → List (S58) → Option ((List (S44)) × (List (S58)))
 | 0, _, _, _, _, _, _ => none
 | k + 1, x1, x35, x36, x37, x729000, x729001 => if x37 < x36 then (if 0 ≤ x37 then (if x37 < (x35.length : Int) then ((impl_LeafOf.f k ((rd_T58 x35 x37).f0)).bind fun t739 => ((slices_Contains_int_int.f k x1 t739).bind fun t740 => (if t740 = true then (if x729001.length < 8796093022208 then (impl_Slice.l1 k x1 x35 x36 (wrap64 (x37 + 1)) x729000 (x729001 ++ [(⟨(rd_T58 x35 x37).f0, (rd_T58 x35 x37).f1⟩ : S58)])) else (none)) else (impl_Slice.l1 k x1 x35 x36 (wrap64 (x37 + 1)) x729000 x729001)))) else (none)) else (none)) else (some (x729000, x729001))
end
def impl_Slice.f (k : Nat) (l0_0 : List (S44)) (l0_1 : List (S58)) (l1 : List Int) : Option ((List (S44)) × (List (S58))) := (impl_StateOk.f k l0_0 l0_1).bind fun t729 => (if t729 = true then (impl_Slice.l0 k l1 l0_0 (l0_0.length : Int) 0 l0_0 l0_1 ([] : List (S44))) else (some (([] : List (S44)), ([] : List (S58)))))
theorem impl_Slice.mono_l : ∀ k, (∀ y0 y1 y2 y3 y4 y5 y6, LeO (impl_Slice.l0 k y0 y1 y2 y3 y4 y5 y6) (impl_Slice.l0 (k + 1) y0 y1 y2 y3 y4 y5 y6)) ∧ (∀ y0 y1 y2 y3 y4 y5, LeO (impl_Slice.l1 k y0 y1 y2 y3 y4 y5) (impl_Slice.l1 (k + 1) y0 y1 y2 y3 y4 y5))
 | 0 => ⟨fun _ _ _ _ _ _ _ r h => by simp [impl_Slice.l0] at h, fun _ _ _ _ _ _ r h => by simp [impl_Slice.l1] at h⟩
 | k + 1 => by
  obtain ⟨ih0, ih1⟩ := impl_Slice.mono_l k
  refine ⟨?_, ?_⟩
  ·intro y0 y1 y2 y3 y4 y5 y6
   unfold impl_Slice.l0
   repeat' first | (with_reducible first | exact LeO.refl _ | exact LeO.none _ | refine LeO.ite ?_ ?_ | refine LeO.bind ?_ (fun _ => ?_) | apply ih0 | apply ih1 | apply impl_LeafOf.mono | apply impl_StateOk.mono | apply slices_Contains_int_int.mono) | apply ih0 | apply ih1 | apply impl_LeafOf.mono | apply impl_StateOk.mono | apply slices_Contains_int_int.mono | exact LeO.none _ | refine LeO.ite ?_ ?_ | refine LeO.bind ?_ (fun _ => ?_)
  ·intro y0 y1 y2 y3 y4 y5
   unfold impl_Slice.l1
   repeat' first | (with_reducible first | exact LeO.refl _ | exact LeO.none _ | refine LeO.ite ?_ ?_ | refine LeO.bind ?_ (fun _ => ?_) | apply ih0 | apply ih1 | apply impl_LeafOf.mono | apply impl_StateOk.mono | apply slices_Contains_int_int.mono) | apply ih0 | apply ih1 | apply impl_LeafOf.mono | apply impl_StateOk.mono | apply slices_Contains_int_int.mono | exact LeO.none _ | refine LeO.ite ?_ ?_ | refine LeO.bind ?_ (fun _ => ?_)
theorem impl_Slice.mono : ∀ a0 a1 a2 k, LeO (impl_Slice.f k a0 a1 a2) (impl_Slice.f (k + 1) a0 a1 a2) := by
 intro a0 a1 a2 k; obtain ⟨ih0, ih1⟩ := impl_Slice.mono_l k
 unfold impl_Slice.f
 repeat' first | (with_reducible first | exact LeO.refl _ | exact LeO.none _ | refine LeO.ite ?_ ?_ | refine LeO.bind ?_ (fun _ => ?_) | apply ih0 | apply ih1 | apply impl_LeafOf.mono | apply impl_StateOk.mono | apply slices_Contains_int_int.mono) | apply ih0 | apply ih1 | apply impl_LeafOf.mono | apply impl_StateOk.mono | apply slices_Contains_int_int.mono | exact LeO.none _ | refine LeO.ite ?_ ?_ | refine LeO.bind ?_ (fun _ => ?_)
set_option maxHeartbeats 8000000 in
set_option maxRecDepth 100000 in
theorem impl_Slice.calls (k : Nat) (A0_0 : Option Addr) (c0_0 : Nat) (l0_0 : List (S44)) (A0_1 : Option Addr) (c0_1 : Nat) (l0_1 : List (S58)) (A1 : Option Addr) (c1 : Nat) (l1 : List Int) (r1 : List (S44)) (r2 : List (S58)) (w : World) (hr0_0 : Kd.C k44 w A0_0 l0_0.length l0_0) (hc0_0 : l0_0.length ≤ c0_0) (hr0_1 : Kd.C k58 w A0_1 l0_1.length l0_1) (hc0_1 : l0_1.length ≤ c0_1) (hr1 : Kd.C (Kd.int .i64) w A1 l1.length l1) (hc1 : l1.length ≤ c1) (h : impl_Slice.f k l0_0 l0_1 l1 = some (r1, r2)) :
  Calls Try.prog 37 #[.agg #[.slice A0_0 l0_0.length c0_0, .slice A0_1 l0_1.length c0_1], .slice A1 l1.length c1] w fun e w' => ∃ v0_ v1_ : Value, e = .returned (.agg #[v0_, v1_]) ∧ Kd.R k44 44 w' w.heap.size (fun _ => True) v0_ r1 ∧ Kd.R k58 58 w' w.heap.size (fun _ => True) v1_ r2 ∧ Below w.heap.size w w' := by
 have hu27 := Try.underlying27; have hu44 := Try.underlying44; have hu58 := Try.underlying58; have HR0_0 := zm hr0_0; have HC0_0 := zm hc0_0; clear hr0_0 hc0_0; have HR0_1 := zm hr0_1; have HC0_1 := zm hc0_1; clear hr0_1 hc0_1; have HR1 := zm hr1; have B0 := zm hc1; clear hr1 hc1; have HB := zm (Below.refl w.heap.size w); have H : ((impl_StateOk.f k l0_0 l0_1).bind fun Az => (if Az = true then (impl_Slice.l0 k l1 l0_0 (l0_0.length : Int) 0 l0_0 l0_1 ([] : List (S44))) else (some (([] : List (S44)), ([] : List (S58)))))) = some (r1, r2) := h; clear h; replace H := Option.bind_eq_some_iff.mp H; obtain ⟨Az, Bh, H⟩ := H; (try dsimp only at H); have A3 := zm Bh; clear Bh
 by_cases c4 : Az = true
 ·subst c4; rw [if_pos rfl] at H
  have H' := zm H
  clear H; go_enter Try.func37, Try.ntmps37
  go_wp2_with (first | ((with_reducible refine gate_dst (N := 2) rfl ?_); refine zbox 2 #[.slice A0_0 l0_0.length c0_0, .slice A0_1 l0_1.length c0_1] 27 ?_; intro Ay hg w5 hbox hb; have AA := zm (hbox); have BZ := zge w hg zB; have BU := zge w hg zB; replace HB := zm (below_step zB hb); clear hb hbox hg) | ((with_reducible refine gate_dst (N := 4) rfl ?_); refine zbox 4 #[.slice none 0 0, .slice none 0 0] 27 ?_; intro Af hg w6 hbox hb; have AD := zm (hbox); have Ba := zge w hg zB; have BV := zge w hg zB; replace HB := zm (below_step zB hb); have AV := zlt hg (zb AA); have AW := zgt hg (zb AA); replace AA := zy AA hb; clear hb hbox hg) | ((with_reducible refine gate_dst (N := 5) rfl ?_); refine zbox 5 #[.slice none 0 0, .slice none 0 0] 27 ?_; intro Ag hg w7 hbox hb; have AE := zm (hbox); have Bb := zge w hg zB; have BW := zge w hg zB; replace HB := zm (below_step zB hb); have AK := zlt hg (zb AA); have AS := zgt hg (zb AA); replace AA := zy AA hb; have AL := zlt hg (zb AD); have AU := zgt hg (zb AD); replace AD := zy AD hb; clear hb hbox hg; have EC := AS.out; have EE := AK.out; have ED := AU.out; have EF := AL.out; obtain ⟨Am, An, As, At⟩ := zc2 AE; have DO := AV.out; have Dn := AW.out; obtain ⟨Ao, Ap, Au, Av⟩ := zc2 AA) | ((with_reducible refine gate_callee (f := 27) rfl ?_); refine zg (some 12) #[.agg #[.slice A0_0 l0_0.length c0_0, .slice A0_1 l0_1.length c0_1]] Try.func27 ?_; (with_reducible refine (impl_StateOk.calls k _ _ l0_0 _ _ l0_1 true _ ?side1 HC0_0.out ?side3 HC0_1.out A3.out).mono ?_); (case side1 => exact Kd.C_below HR0_0.out zB); (case side3 => exact Kd.C_below HR0_1.out zB); rintro e EG ⟨rfl, hb⟩; refine ⟨_, rfl, ?_⟩; replace AA := zyb hb (zfar (zfar (zb AA) AK) AK); replace AD := zyb hb (zfar (zfar (zb AD) AL) AL); replace AE := zm (blk_below (g := Ag) (o := .cells #[.slice none 0 0, .slice none 0 0] 27 (0, 0)) (zput (zput (zb AE) 0) 1) hb); replace HB := zm (below_step zB hb); clear hb; obtain ⟨Aq, Ar, Aw, Ax⟩ := zc2 AA))
  go_loopg [18] k (fun kq v18 w' => ∃ (AC : Int) (AM : List (S44)) (u729000 : Value), v18 = .int .i64 AC ∧ Aside0 (impl_Slice.l0 kq l1 l0_0 (l0_0.length : Int) AC l0_0 l0_1 AM = some (r1, r2)) ∧ Aside0 (kq ≤ k) ∧ Aside0 (Kd.R k44 44 w' w.heap.size (fun _ => True) u729000 AM) ∧ Aside0 (w'.heap[Ay]? = some (.cells #[(.slice A0_0 l0_0.length c0_0), (.slice A0_1 l0_1.length c0_1)] 27 (0, 0))) ∧ Aside0 (w'.heap[Af]? = some (.cells #[(.slice none 0 0), (.slice none 0 0)] 27 (0, 0))) ∧ Aside0 (w'.heap[Ag]? = some (.cells #[u729000, (.slice none 0 0)] 27 (0, 0))) ∧ Aside0 (Below w.heap.size w w'))
  case atStart => exact ⟨(0), (([] : List (S44))), (.slice none 0 0), zF, H', ⟨Nat.le_refl _⟩, ⟨znil⟩, ⟨zb AA⟩, ⟨zb AD⟩, ⟨zb AE⟩, ⟨zB⟩⟩
  case round =>
   clear H'; (try clear c1); (try clear c4); (try clear Am); (try clear An); (try clear Ao); (try clear Ap); (try clear Aq); (try clear Ar); (try clear As); (try clear At); (try clear Au); (try clear Av); (try clear Aw); (try clear Ax); obtain ⟨AC, AM, u729000, rfl, HA, Aj, AB, AA, AD, AE, HB⟩ := hrel
   cases gk with
   | zero => exact absurd HA.out (by simp [impl_Slice.l0])
   | succ k1 =>
    have H := HA.out; clear HA; simp only [impl_Slice.l0] at H
    by_cases Ak : AC < (l0_0.length : Int)
    ·rw [if_pos Ak] at H; have BB : decide (AC < (l0_0.length : Int)) = true := decide_eq_true Ak; clear Ak
     by_cases BC : 0 ≤ AC
     ·rw [if_pos BC] at H; have DK : decide (0 ≤ AC) = true := decide_eq_true BC; clear BC
      by_cases BD : AC < (l0_0.length : Int)
      ·rw [if_pos BD] at H; have DL : decide (AC < (l0_0.length : Int)) = true := decide_eq_true BD; clear BD; replace H := Option.bind_eq_some_iff.mp H; obtain ⟨Ah, BO, H⟩ := H; (try dsimp only at H); have Bf := zm BO; clear BO; replace H := Option.bind_eq_some_iff.mp H; obtain ⟨Bs, BP, H⟩ := H; (try dsimp only at H); have Bg := zm BP; clear BP
       by_cases BE : Bs = true
       ·subst BE; rw [if_pos rfl] at H
        by_cases BF : AM.length < 2513169434916
        ·rw [if_pos BF] at H; have LMc21 := zm BF; clear BF
         obtain ⟨y734, hy734⟩ : ∃ y_ : List (S44), y_ = (AM ++ [(⟨(rd_T44 l0_0 AC).f0, (⟨(rd_T44 l0_0 AC).f1.f0, (rd_T44 l0_0 AC).f1.f1, (rd_T44 l0_0 AC).f1.f2, (rd_T44 l0_0 AC).f1.f3, (rd_T44 l0_0 AC).f1.f4⟩ : S36)⟩ : S44)]) := ⟨_, rfl⟩
         replace H : (impl_Slice.l0 k1 l1 l0_0 (l0_0.length : Int) (wrap64 (AC + 1)) l0_0 l0_1 y734) = some (r1, r2) := by first | (rw [hy734]; with_reducible exact H) | (have H2_ := (Option.bind_some _ _).symm.trans H; rw [hy734]; with_reducible exact H2_) | (have H2_ := (Option.bind_some _ _).symm.trans H; with_reducible exact H2_) | with_reducible exact H | (rw [hy734]; exact H) | exact H
         have Ny734 := zm hy734; clear hy734
         have H' := zm H
         clear H; have p730 : 0 ≤ (AC : Int) := zd; have q730 : AC < (l0_0.length : Int) := zd; obtain ⟨ad730, e730, hx730_0, hx730_1, hx730_2, hx730_3, hx730_4, hx730_5⟩ := at_T44 (Kd.C_below HR0_0.out HB.out) AC p730 q730; cases e730; replace p730 := eq_true p730; replace q730 := eq_true q730
         go_wp2_with (first | ((with_reducible refine gate_dst (N := 7) rfl ?_); refine zbox 7 #[.int .i64 0, .int .i64 0, .int .i64 0, .int .i64 0, .int .i64 0, .string (⟨#[]⟩ : ByteArray)] 44 ?_; intro AX hg EH hbox hb; replace AB := zm (Kd.R_below (Kd.R_elderB (zr AB) AX (Nat.le_of_eq hg.symm)) hb); have AP := zm (hbox); have Bc := zge w hg zB; have BX := zge w hg zB; replace HB := zm (below_step zB hb); have AH := zlt hg (zb AA); have AZ := zgt hg (zb AA); replace AA := zy AA hb; have AI := zlt hg (zb AD); have Aa := zgt hg (zb AD); replace AD := zy AD hb; have AJ := zlt hg (zb AE); have Ab := zgt hg (zb AE); replace AE := zy AE hb; clear hb hbox hg; have DP := AZ.out; have Do := AH.out; have DQ := Aa.out; have Dp := AI.out; have DR := Ab.out; have Dq := AJ.out; obtain ⟨Bu, Bv, Bw, Bx, By, Bz, Cc, Cd, Ce, Cf, Cg, Ch⟩ := zc6 AP) | ((with_reducible refine gate_callee (f := 35) rfl ?_); refine zg (some 25) #[.int .i64 ((rd_T44 l0_0 AC).f0)] Try.func35 ?_; (with_reducible refine (impl_LeafOf.calls k1 ((rd_T44 l0_0 AC).f0) Ah _ Bf.out).mono ?_); rintro e BS ⟨rfl, hb⟩; refine ⟨_, rfl, ?_⟩; replace AB := zm (Kd.R_below (zrs <| (Kd.R_mono (zfr (zfr (zfr (zfr (zfr (zfr (Kd.R_mono AB.out (fun k_ hk => (⟨hk, hk.2⟩ : _ ∧ k_ ≠ AX))))))))) (fun _ h_ => h_.1))) hb); replace AA := zyb hb (zfar (zfar (zfar (zfar (zfar (zfar (zb AA) AH) AH) AH) AH) AH) AH); replace AD := zyb hb (zfar (zfar (zfar (zfar (zfar (zfar (zb AD) AI) AI) AI) AI) AI) AI); replace AE := zyb hb (zfar (zfar (zfar (zfar (zfar (zfar (zb AE) AJ) AJ) AJ) AJ) AJ) AJ); replace AP := zm (blk_below (g := AX) (o := .cells #[.int .i64 ((rd_T44 l0_0 AC).f0), .int .i64 ((rd_T44 l0_0 AC).f1.f0), .int .i64 ((rd_T44 l0_0 AC).f1.f1), .int .i64 ((rd_T44 l0_0 AC).f1.f2), .int .i64 ((rd_T44 l0_0 AC).f1.f3), .string ((rd_T44 l0_0 AC).f1.f4)] 44 (0, 0)) (zput (zput (zput (zput (zput (zput (zb AP) 0) 1) 2) 3) 4) 5) hb); replace HB := zm (below_step zB hb); clear hb) | ((with_reducible refine gate_callee (f := 83) rfl ?_); refine zg (some 26) #[.slice A1 l1.length c1, .int .i64 Ah] Try.func83 ?_; (with_reducible refine (slices_Contains_int_int.calls k1 _ _ l1 Ah true _ (zk (Kd.C_below HR1.out HB.out)) B0.out Bg.out).mono ?_); rintro e w' ⟨rfl, ⟨nd, rfl⟩⟩; refine ⟨_, rfl, ?_⟩; (try (rw [drewN_self BS]; generalize hq_ : World.drewN BS _ = BS; have n0_ := zm (Kd.R_at hq_ AB.out); have n1_ := zm (blk_at hq_ AA.out); have n2_ := zm (blk_at hq_ AD.out); have n3_ := zm (blk_at hq_ AE.out); have n4_ := zm (blk_at hq_ AP.out); have n5_ := zm (below_at hq_ HB.out); clear hq_ AB AA AD AE AP HB; have AB := n0_; have AA := n1_; have AD := n2_; have AE := n3_; have AP := n4_; have HB := n5_; clear n0_ n1_ n2_ n3_ n4_ n5_)); have DS := AS.out; have Dr := AK.out; have DT := AU.out; have Ds := AL.out; obtain ⟨C0, C1, Ci, Cj⟩ := zc2 AE; obtain ⟨C2, C3, C4, C5, C6, C7, Ck, Cl, Cm, Cn, Co, Cp⟩ := zc6 AP) | ((with_reducible refine gate_builtin (b := .append) (xs := #[.tmp 28, .tmp 30]) rfl ?_); at_builtin; refine Kd.R_append k44 (w0 := w) w.heap.size rfl (.tmp 28) (.tmp 30) 24 44 (.agg #[(.int .i64 0), (.int .i64 0), (.int .i64 0), (.int .i64 0), (.int .i64 0), (.string ⟨#[]⟩)]) 56 rfl Try.underlying24 info44 rfl (by decide) (by omega) u729000 AM (⟨(rd_T44 l0_0 AC).f0, (⟨(rd_T44 l0_0 AC).f1.f0, (rd_T44 l0_0 AC).f1.f1, (rd_T44 l0_0 AC).f1.f2, (rd_T44 l0_0 AC).f1.f3, (rd_T44 l0_0 AC).f1.f4⟩ : S36)⟩ : S44) [.int .i64 ((rd_T44 l0_0 AC).f0), .int .i64 ((rd_T44 l0_0 AC).f1.f0), .int .i64 ((rd_T44 l0_0 AC).f1.f1), .int .i64 ((rd_T44 l0_0 AC).f1.f2), .int .i64 ((rd_T44 l0_0 AC).f1.f3), .string ((rd_T44 l0_0 AC).f1.f4)] (fun k_ => k_ ≠ AX) (fun _ => False) rfl rfl ?aP (fun _ hk => hk.elim) ?aF ?aO ?aB ?aS ?aL ?_; (case aP => exact k44_mkM _ _ _ (⟨(rd_T44 l0_0 AC).f0, (⟨(rd_T44 l0_0 AC).f1.f0, (rd_T44 l0_0 AC).f1.f1, (rd_T44 l0_0 AC).f1.f2, (rd_T44 l0_0 AC).f1.f3, (rd_T44 l0_0 AC).f1.f4⟩ : S36)⟩ : S44)); (case aB => exact zB); (case aF => exact (fun k_ hk => Kd.freshB (g := AX) (o := .cells #[.int .i64 ((rd_T44 l0_0 AC).f0), .int .i64 ((rd_T44 l0_0 AC).f1.f0), .int .i64 ((rd_T44 l0_0 AC).f1.f1), .int .i64 ((rd_T44 l0_0 AC).f1.f2), .int .i64 ((rd_T44 l0_0 AC).f1.f3), .string ((rd_T44 l0_0 AC).f1.f4)] 44 (0, 0)) (zb AP) k_ hk)); (case aO => exact (by (with_reducible repeat (first | apply Kd.R_alloc | apply Kd.R_drewN | apply Kd.R_drew)); exact Kd.R_mono AB.out (fun _ hk => hk.2))); (case aS => exact (below_size zB)); (case aL => have := LMc21.out; omega); intro v735 EI ho hb hg hat; rw [← Ny734.out] at ho; replace AA := zgr hg (zb AA) (Kd.R_ne AB.out AA.out (by decide)); replace AD := zgr hg (zb AD) (Kd.R_ne AB.out AD.out (by decide)); replace AE := zgr hg (zb AE) (Kd.R_ne AB.out AE.out (by decide)); replace AP := zgr hg (zb AP) (Kd.R_away AB.out (fun _ hk => hk.2)); replace HB := zm hb; have B3 := zm (ho); clear AB; clear ho hb hg hat; obtain ⟨Bk, Bo, eo33⟩ := Kd.R_slice B3.out; subst eo33; obtain ⟨C8, C9, Cq, Cr⟩ := zc2 AE))
         go_roundg k1
         case measure => have := Aj.out; omega
         case rel => exact ⟨(wrap64 (AC + 1)), (y734), (.slice Bk y734.length Bo), zF, H', ⟨by have := Aj.out; omega⟩, ⟨zrs <| Kd.R_mono (zfr (Kd.R_types B3.out AE.out (by decide))) (fun _ hk => trivial)⟩, ⟨zfar (zb AA) AK⟩, ⟨zfar (zb AD) AL⟩, ⟨zput (zb AE) 0⟩, ⟨zB⟩⟩
        ·rw [if_neg BF] at H
         exact absurd H (by simp)
       ·replace BE := Bool.eq_false_iff.mpr BE; subst BE; rw [zff] at H
        have H' := zm H
        clear H; have p730 : 0 ≤ (AC : Int) := zd; have q730 : AC < (l0_0.length : Int) := zd; obtain ⟨ad730, e730, hx730_0, hx730_1, hx730_2, hx730_3, hx730_4, hx730_5⟩ := at_T44 (Kd.C_below HR0_0.out HB.out) AC p730 q730; cases e730; replace p730 := eq_true p730; replace q730 := eq_true q730
        go_wp2_with (first | ((with_reducible refine gate_dst (N := 7) rfl ?_); refine zbox 7 #[.int .i64 0, .int .i64 0, .int .i64 0, .int .i64 0, .int .i64 0, .string (⟨#[]⟩ : ByteArray)] 44 ?_; intro AX hg EJ hbox hb; replace AB := zm (Kd.R_below (Kd.R_elderB (zr AB) AX (Nat.le_of_eq hg.symm)) hb); have AP := zm (hbox); have Bc := zge w hg zB; have BX := zge w hg zB; replace HB := zm (below_step zB hb); have AH := zlt hg (zb AA); have AZ := zgt hg (zb AA); replace AA := zy AA hb; have AI := zlt hg (zb AD); have Aa := zgt hg (zb AD); replace AD := zy AD hb; have AJ := zlt hg (zb AE); have Ab := zgt hg (zb AE); replace AE := zy AE hb; clear hb hbox hg; have DU := AZ.out; have Dt := AH.out; have DV := Aa.out; have Du := AI.out; have DW := Ab.out; have Dv := AJ.out; obtain ⟨CA, CB, CC, CD, CE, CF, Cs, Ct, Cu, Cv, Cw, Cx⟩ := zc6 AP) | ((with_reducible refine gate_callee (f := 35) rfl ?_); refine zg (some 25) #[.int .i64 ((rd_T44 l0_0 AC).f0)] Try.func35 ?_; (with_reducible refine (impl_LeafOf.calls k1 ((rd_T44 l0_0 AC).f0) Ah _ Bf.out).mono ?_); rintro e EK ⟨rfl, hb⟩; refine ⟨_, rfl, ?_⟩; replace AB := zm (Kd.R_below (zrs <| (Kd.R_mono (zfr (zfr (zfr (zfr (zfr (zfr (Kd.R_mono AB.out (fun k_ hk => (⟨hk, hk.2⟩ : _ ∧ k_ ≠ AX))))))))) (fun _ h_ => h_.1))) hb); replace AA := zyb hb (zfar (zfar (zfar (zfar (zfar (zfar (zb AA) AH) AH) AH) AH) AH) AH); replace AD := zyb hb (zfar (zfar (zfar (zfar (zfar (zfar (zb AD) AI) AI) AI) AI) AI) AI); replace AE := zyb hb (zfar (zfar (zfar (zfar (zfar (zfar (zb AE) AJ) AJ) AJ) AJ) AJ) AJ); replace AP := zm (blk_below (g := AX) (o := .cells #[.int .i64 ((rd_T44 l0_0 AC).f0), .int .i64 ((rd_T44 l0_0 AC).f1.f0), .int .i64 ((rd_T44 l0_0 AC).f1.f1), .int .i64 ((rd_T44 l0_0 AC).f1.f2), .int .i64 ((rd_T44 l0_0 AC).f1.f3), .string ((rd_T44 l0_0 AC).f1.f4)] 44 (0, 0)) (zput (zput (zput (zput (zput (zput (zb AP) 0) 1) 2) 3) 4) 5) hb); replace HB := zm (below_step zB hb); clear hb) | ((with_reducible refine gate_callee (f := 83) rfl ?_); refine zg (some 26) #[.slice A1 l1.length c1, .int .i64 Ah] Try.func83 ?_; (with_reducible refine (slices_Contains_int_int.calls k1 _ _ l1 Ah false _ (zk (Kd.C_below HR1.out HB.out)) B0.out Bg.out).mono ?_); rintro e w' ⟨rfl, ⟨nd, rfl⟩⟩; refine ⟨_, rfl, ?_⟩))
        go_roundg k1
        case measure => have := Aj.out; omega
        case rel => exact ⟨(wrap64 (AC + 1)), (AM), (u729000), zF, H', ⟨by have := Aj.out; omega⟩, ⟨by (with_reducible repeat (first | apply Kd.R_alloc | apply Kd.R_drewN | apply Kd.R_drew)); exact Kd.R_mono AB.out (fun _ hk => trivial)⟩, ⟨zb AA⟩, ⟨zb AD⟩, ⟨zb AE⟩, ⟨zB⟩⟩
      ·rw [if_neg BD] at H
       exact absurd H (by simp)
     ·rw [if_neg BC] at H
      exact absurd H (by simp)
    ·rw [if_neg Ak] at H; have BB : decide (AC < (l0_0.length : Int)) = false := decide_eq_false Ak; clear Ak
     have H' := zm H
     clear H; have DX := AV.out; have Dw := AW.out; have DY := AK.out; have Dx := AS.out; obtain ⟨BK, BL, BM, BN⟩ := zc2 AA
     go_wp2
     go_loopg [37] k1 (fun kq v37 w' => ∃ (AG : Int) (AO : List (S58)) (u729001 : Value), v37 = .int .i64 AG ∧ Aside0 (impl_Slice.l1 kq l1 l0_1 (l0_1.length : Int) AG AM AO = some (r1, r2)) ∧ Aside0 (kq ≤ k1) ∧ Aside0 (Kd.R k44 44 w' w.heap.size (fun _ => True) u729000 AM) ∧ Aside0 (Kd.R k58 58 w' w.heap.size (fun _ => True) u729001 AO) ∧ Aside0 (w'.heap[Ay]? = some (.cells #[(.slice A0_0 l0_0.length c0_0), (.slice A0_1 l0_1.length c0_1)] 27 (0, 0))) ∧ Aside0 (w'.heap[Af]? = some (.cells #[(.slice none 0 0), (.slice none 0 0)] 27 (0, 0))) ∧ Aside0 (w'.heap[Ag]? = some (.cells #[u729000, u729001] 27 (0, 0))) ∧ Aside0 (Below w.heap.size w w'))
     case atStart => exact ⟨(0), (([] : List (S58))), (.slice none 0 0), zF, H', ⟨Nat.le_refl _⟩, ⟨zr AB⟩, ⟨znil⟩, ⟨zb AA⟩, ⟨zb AD⟩, ⟨zb AE⟩, ⟨zB⟩⟩
     case round =>
      clear H'; (try clear c1); (try clear c4); (try clear Ak); (try clear BB); (try clear Am); (try clear An); (try clear Ao); (try clear Ap); (try clear Aq); (try clear Ar); (try clear BK); (try clear BL); (try clear As); (try clear At); (try clear Au); (try clear Av); (try clear Aw); (try clear Ax); (try clear BM); (try clear BN); obtain ⟨AG, AO, u729001, rfl, HA, B2, AB, AF, AA, AD, AE, HB⟩ := hrel
      cases gk with
      | zero => exact absurd HA.out (by simp [impl_Slice.l1])
      | succ k2 =>
       have H := HA.out; clear HA; simp only [impl_Slice.l1] at H
       by_cases Al : AG < (l0_1.length : Int)
       ·rw [if_pos Al] at H; have Be : decide (AG < (l0_1.length : Int)) = true := decide_eq_true Al; clear Al
        by_cases BG : 0 ≤ AG
        ·rw [if_pos BG] at H; have DM : decide (0 ≤ AG) = true := decide_eq_true BG; clear BG
         by_cases BH : AG < (l0_1.length : Int)
         ·rw [if_pos BH] at H; have DN : decide (AG < (l0_1.length : Int)) = true := decide_eq_true BH; clear BH; replace H := Option.bind_eq_some_iff.mp H; obtain ⟨Ai, BQ, H⟩ := H; (try dsimp only at H); have Bi := zm BQ; clear BQ; replace H := Option.bind_eq_some_iff.mp H; obtain ⟨Bt, BR, H⟩ := H; (try dsimp only at H); have Bj := zm BR; clear BR
          by_cases BI : Bt = true
          ·subst BI; rw [if_pos rfl] at H
           by_cases BJ : AO.length < 8796093022208
           ·rw [if_pos BJ] at H; have LMc50 := zm BJ; clear BJ
            obtain ⟨y741, hy741⟩ : ∃ y_ : List (S58), y_ = (AO ++ [(⟨(rd_T58 l0_1 AG).f0, (rd_T58 l0_1 AG).f1⟩ : S58)]) := ⟨_, rfl⟩
            replace H : (impl_Slice.l1 k2 l1 l0_1 (l0_1.length : Int) (wrap64 (AG + 1)) AM y741) = some (r1, r2) := by first | (rw [hy741]; with_reducible exact H) | (have H2_ := (Option.bind_some _ _).symm.trans H; rw [hy741]; with_reducible exact H2_) | (have H2_ := (Option.bind_some _ _).symm.trans H; with_reducible exact H2_) | with_reducible exact H | (rw [hy741]; exact H) | exact H
            have Ny741 := zm hy741; clear hy741
            have H' := zm H
            clear H; have p737 : 0 ≤ (AG : Int) := zd; have q737 : AG < (l0_1.length : Int) := zd; obtain ⟨ad737, e737, hx737_0, hx737_1⟩ := at_T58 (Kd.C_below HR0_1.out HB.out) AG p737 q737; cases e737; replace p737 := eq_true p737; replace q737 := eq_true q737
            go_wp2_with (first | ((with_reducible refine gate_dst (N := 9) rfl ?_); refine zbox 9 #[.int .i64 0, .int .i64 0] 58 ?_; intro AY hg EL hbox hb; replace AB := zw AB hb; replace AF := zm (Kd.R_below (Kd.R_elderB (zr AF) AY (Nat.le_of_eq hg.symm)) hb); have AN := zm (hbox); have Bd := zge w hg zB; have BY := zge w hg zB; replace HB := zm (below_step zB hb); have AQ := zlt hg (zb AA); have Ac := zgt hg (zb AA); replace AA := zy AA hb; have AR := zlt hg (zb AD); have Ad := zgt hg (zb AD); replace AD := zy AD hb; have AT := zlt hg (zb AE); have Ae := zgt hg (zb AE); replace AE := zy AE hb; clear hb hbox hg; have DZ := Ac.out; have Dy := AQ.out; have Da := Ad.out; have Dz := AR.out; have Db := Ae.out; have E0 := AT.out; obtain ⟨CG, CH, Cy, Cz⟩ := zc2 AN) | ((with_reducible refine gate_callee (f := 35) rfl ?_); refine zg (some 44) #[.int .i64 ((rd_T58 l0_1 AG).f0)] Try.func35 ?_; (with_reducible refine (impl_LeafOf.calls k2 ((rd_T58 l0_1 AG).f0) Ai _ Bi.out).mono ?_); rintro e BT ⟨rfl, hb⟩; refine ⟨_, rfl, ?_⟩; replace AB := zm (Kd.R_below (zrs <| (Kd.R_mono (zfr (zfr (Kd.R_types AB.out AN.out (by decide)))) (fun _ h_ => h_.1))) hb); replace AF := zm (Kd.R_below (zrs <| (Kd.R_mono (zfr (zfr (Kd.R_mono AF.out (fun k_ hk => (⟨hk, hk.2⟩ : _ ∧ k_ ≠ AY))))) (fun _ h_ => h_.1))) hb); replace AA := zyb hb (zfar (zfar (zb AA) AQ) AQ); replace AD := zyb hb (zfar (zfar (zb AD) AR) AR); replace AE := zyb hb (zfar (zfar (zb AE) AT) AT); replace AN := zm (blk_below (g := AY) (o := .cells #[.int .i64 ((rd_T58 l0_1 AG).f0), .int .i64 ((rd_T58 l0_1 AG).f1)] 58 (0, 0)) (zput (zput (zb AN) 0) 1) hb); replace HB := zm (below_step zB hb); clear hb) | ((with_reducible refine gate_callee (f := 83) rfl ?_); refine zg (some 45) #[.slice A1 l1.length c1, .int .i64 Ai] Try.func83 ?_; (with_reducible refine (slices_Contains_int_int.calls k2 _ _ l1 Ai true _ (zk (Kd.C_below HR1.out HB.out)) B0.out Bj.out).mono ?_); rintro e w' ⟨rfl, ⟨nd, rfl⟩⟩; refine ⟨_, rfl, ?_⟩; (try (rw [drewN_self BT]; generalize hq_ : World.drewN BT _ = BT; have n0_ := zm (Kd.R_at hq_ AB.out); have n1_ := zm (Kd.R_at hq_ AF.out); have n2_ := zm (blk_at hq_ AA.out); have n3_ := zm (blk_at hq_ AD.out); have n4_ := zm (blk_at hq_ AE.out); have n5_ := zm (blk_at hq_ AN.out); have n6_ := zm (below_at hq_ HB.out); clear hq_ AB AF AA AD AE AN HB; have AB := n0_; have AF := n1_; have AA := n2_; have AD := n3_; have AE := n4_; have AN := n5_; have HB := n6_; clear n0_ n1_ n2_ n3_ n4_ n5_ n6_)); have Dc := AS.out; have E1 := AK.out; have Dd := AU.out; have E2 := AL.out; obtain ⟨CI, CJ, D0, D1⟩ := zc2 AE; obtain ⟨CK, CL, D2, D3⟩ := zc2 AN) | ((with_reducible refine gate_builtin (b := .append) (xs := #[.tmp 47, .tmp 49]) rfl ?_); at_builtin; refine Kd.R_append k58 (w0 := w) w.heap.size rfl (.tmp 47) (.tmp 49) 25 58 (.agg #[(.int .i64 0), (.int .i64 0)]) 16 rfl Try.underlying25 info58 rfl (by decide) (by omega) u729001 AO (⟨(rd_T58 l0_1 AG).f0, (rd_T58 l0_1 AG).f1⟩ : S58) [.int .i64 ((rd_T58 l0_1 AG).f0), .int .i64 ((rd_T58 l0_1 AG).f1)] (fun k_ => k_ ≠ AY) (fun _ => False) rfl rfl ?aP (fun _ hk => hk.elim) ?aF ?aO ?aB ?aS ?aL ?_; (case aP => exact k58_mkM _ _ _ (⟨(rd_T58 l0_1 AG).f0, (rd_T58 l0_1 AG).f1⟩ : S58)); (case aB => exact zB); (case aF => exact (fun k_ hk => Kd.freshB (g := AY) (o := .cells #[.int .i64 ((rd_T58 l0_1 AG).f0), .int .i64 ((rd_T58 l0_1 AG).f1)] 58 (0, 0)) (zb AN) k_ hk)); (case aO => exact (by (with_reducible repeat (first | apply Kd.R_alloc | apply Kd.R_drewN | apply Kd.R_drew)); exact Kd.R_mono AF.out (fun _ hk => hk.2))); (case aS => exact (below_size zB)); (case aL => have := LMc50.out; omega); intro v742 EM ho hb hg hat; rw [← Ny741.out] at ho; replace AB := zm (Kd.R_over' (zr AB) (Kd.R_typed (zr AF)) (by decide) hg); replace AA := zgr hg (zb AA) (Kd.R_ne AF.out AA.out (by decide)); replace AD := zgr hg (zb AD) (Kd.R_ne AF.out AD.out (by decide)); replace AE := zgr hg (zb AE) (Kd.R_ne AF.out AE.out (by decide)); replace AN := zgr hg (zb AN) (Kd.R_away AF.out (fun _ hk => hk.2)); replace HB := zm hb; have BA := zm (ho); clear AF; clear ho hb hg hat; obtain ⟨Bl, Bp, eo62⟩ := Kd.R_slice BA.out; subst eo62; obtain ⟨CM, CN, D4, D5⟩ := zc2 AE))
            go_roundg k2
            case measure => have := Aj.out; have := B2.out; omega
            case rel => exact ⟨(wrap64 (AG + 1)), (y741), (.slice Bl y741.length Bp), zF, H', ⟨by have := Aj.out; have := B2.out; omega⟩, ⟨zrs <| Kd.R_mono (zfr (Kd.R_types AB.out AE.out (by decide))) (fun _ hk => trivial)⟩, ⟨zrs <| Kd.R_mono (zfr (Kd.R_types BA.out AE.out (by decide))) (fun _ hk => trivial)⟩, ⟨zfar (zb AA) AK⟩, ⟨zfar (zb AD) AL⟩, ⟨zput (zb AE) 1⟩, ⟨zB⟩⟩
           ·rw [if_neg BJ] at H
            exact absurd H (by simp)
          ·replace BI := Bool.eq_false_iff.mpr BI; subst BI; rw [zff] at H
           have H' := zm H
           clear H; have p737 : 0 ≤ (AG : Int) := zd; have q737 : AG < (l0_1.length : Int) := zd; obtain ⟨ad737, e737, hx737_0, hx737_1⟩ := at_T58 (Kd.C_below HR0_1.out HB.out) AG p737 q737; cases e737; replace p737 := eq_true p737; replace q737 := eq_true q737
           go_wp2_with (first | ((with_reducible refine gate_dst (N := 9) rfl ?_); refine zbox 9 #[.int .i64 0, .int .i64 0] 58 ?_; intro AY hg EN hbox hb; replace AB := zw AB hb; replace AF := zm (Kd.R_below (Kd.R_elderB (zr AF) AY (Nat.le_of_eq hg.symm)) hb); have AN := zm (hbox); have Bd := zge w hg zB; have BY := zge w hg zB; replace HB := zm (below_step zB hb); have AQ := zlt hg (zb AA); have Ac := zgt hg (zb AA); replace AA := zy AA hb; have AR := zlt hg (zb AD); have Ad := zgt hg (zb AD); replace AD := zy AD hb; have AT := zlt hg (zb AE); have Ae := zgt hg (zb AE); replace AE := zy AE hb; clear hb hbox hg; have De := Ac.out; have E3 := AQ.out; have Df := Ad.out; have E4 := AR.out; have Dg := Ae.out; have E5 := AT.out; obtain ⟨CO, CP, D6, D7⟩ := zc2 AN) | ((with_reducible refine gate_callee (f := 35) rfl ?_); refine zg (some 44) #[.int .i64 ((rd_T58 l0_1 AG).f0)] Try.func35 ?_; (with_reducible refine (impl_LeafOf.calls k2 ((rd_T58 l0_1 AG).f0) Ai _ Bi.out).mono ?_); rintro e EO ⟨rfl, hb⟩; refine ⟨_, rfl, ?_⟩; replace AB := zm (Kd.R_below (zrs <| (Kd.R_mono (zfr (zfr (Kd.R_types AB.out AN.out (by decide)))) (fun _ h_ => h_.1))) hb); replace AF := zm (Kd.R_below (zrs <| (Kd.R_mono (zfr (zfr (Kd.R_mono AF.out (fun k_ hk => (⟨hk, hk.2⟩ : _ ∧ k_ ≠ AY))))) (fun _ h_ => h_.1))) hb); replace AA := zyb hb (zfar (zfar (zb AA) AQ) AQ); replace AD := zyb hb (zfar (zfar (zb AD) AR) AR); replace AE := zyb hb (zfar (zfar (zb AE) AT) AT); replace AN := zm (blk_below (g := AY) (o := .cells #[.int .i64 ((rd_T58 l0_1 AG).f0), .int .i64 ((rd_T58 l0_1 AG).f1)] 58 (0, 0)) (zput (zput (zb AN) 0) 1) hb); replace HB := zm (below_step zB hb); clear hb) | ((with_reducible refine gate_callee (f := 83) rfl ?_); refine zg (some 45) #[.slice A1 l1.length c1, .int .i64 Ai] Try.func83 ?_; (with_reducible refine (slices_Contains_int_int.calls k2 _ _ l1 Ai false _ (zk (Kd.C_below HR1.out HB.out)) B0.out Bj.out).mono ?_); rintro e w' ⟨rfl, ⟨nd, rfl⟩⟩; refine ⟨_, rfl, ?_⟩))
           go_roundg k2
           case measure => have := Aj.out; have := B2.out; omega
           case rel => exact ⟨(wrap64 (AG + 1)), (AO), (u729001), zF, H', ⟨by have := Aj.out; have := B2.out; omega⟩, ⟨zr AB⟩, ⟨by (with_reducible repeat (first | apply Kd.R_alloc | apply Kd.R_drewN | apply Kd.R_drew)); exact Kd.R_mono AF.out (fun _ hk => trivial)⟩, ⟨zb AA⟩, ⟨zb AD⟩, ⟨zb AE⟩, ⟨zB⟩⟩
         ·rw [if_neg BH] at H
          exact absurd H (by simp)
        ·rw [if_neg BG] at H
         exact absurd H (by simp)
       ·rw [if_neg Al] at H; have Be : decide (AG < (l0_1.length : Int)) = false := decide_eq_false Al; clear Al; simp only [Option.some.injEq, Prod.mk.injEq] at H; obtain ⟨rfl, rfl⟩ := H; have Dh := AS.out; have E6 := AK.out; have Di := AU.out; have E7 := AL.out; obtain ⟨CQ, CR, D8, D9⟩ := zc2 AE; obtain ⟨Bm, Bq, eo73⟩ := Kd.R_slice AB.out; subst eo73; have Dj := AW.out; have E8 := AV.out; obtain ⟨CS, CT, DA, DB⟩ := zc2 AD; obtain ⟨Bn, Br, eo76⟩ := Kd.R_slice AF.out; subst eo76
        go_wp2
        refine bodyPost_ret (results_cell_row rfl _ _ Af 27 #[.slice Bm AM.length Bq, .slice Bn AO.length Br] (0, 0) _ rfl (zput (zput (zb AD) 0) 1) Try.underlying27 rfl (by kernel_rfl)) rfl ?_
        exact ⟨_, _, zE, zrs <| Kd.R_mono (zfr (zfr (Kd.R_types AB.out AD.out (by decide)))) (fun _ hk => trivial), zrs <| Kd.R_mono (zfr (zfr (Kd.R_types AF.out AD.out (by decide)))) (fun _ hk => trivial), zB⟩
 ·replace c4 := Bool.eq_false_iff.mpr c4; subst c4; rw [zff] at H; simp only [Option.some.injEq, Prod.mk.injEq] at H; obtain ⟨rfl, rfl⟩ := H; go_enter Try.func37, Try.ntmps37
  go_wp2_with (first | ((with_reducible refine gate_dst (N := 2) rfl ?_); refine zbox 2 #[.slice A0_0 l0_0.length c0_0, .slice A0_1 l0_1.length c0_1] 27 ?_; intro Ay hg EP hbox hb; have AA := zm (hbox); have BZ := zge w hg zB; have BU := zge w hg zB; replace HB := zm (below_step zB hb); clear hb hbox hg) | ((with_reducible refine gate_dst (N := 4) rfl ?_); refine zbox 4 #[.slice none 0 0, .slice none 0 0] 27 ?_; intro Af hg EQ hbox hb; have AD := zm (hbox); have Ba := zge w hg zB; have BV := zge w hg zB; replace HB := zm (below_step zB hb); have AV := zlt hg (zb AA); have AW := zgt hg (zb AA); replace AA := zy AA hb; clear hb hbox hg) | ((with_reducible refine gate_dst (N := 5) rfl ?_); refine zbox 5 #[.slice none 0 0, .slice none 0 0] 27 ?_; intro Ag hg ER hbox hb; have AE := zm (hbox); have Bb := zge w hg zB; have BW := zge w hg zB; replace HB := zm (below_step zB hb); have AK := zlt hg (zb AA); have AS := zgt hg (zb AA); replace AA := zy AA hb; have AL := zlt hg (zb AD); have AU := zgt hg (zb AD); replace AD := zy AD hb; clear hb hbox hg; have Dk := AS.out; have E9 := AK.out; have Dl := AU.out; have EA := AL.out; obtain ⟨CU, CV, DC, DD⟩ := zc2 AE; have Dm := AV.out; have EB := AW.out; obtain ⟨CW, CX, DE, DF⟩ := zc2 AA) | ((with_reducible refine gate_callee (f := 27) rfl ?_); refine zg (some 12) #[.agg #[.slice A0_0 l0_0.length c0_0, .slice A0_1 l0_1.length c0_1]] Try.func27 ?_; (with_reducible refine (impl_StateOk.calls k _ _ l0_0 _ _ l0_1 false _ ?side1 HC0_0.out ?side3 HC0_1.out A3.out).mono ?_); (case side1 => exact Kd.C_below HR0_0.out zB); (case side3 => exact Kd.C_below HR0_1.out zB); rintro e ES ⟨rfl, hb⟩; refine ⟨_, rfl, ?_⟩; replace AA := zyb hb (zfar (zfar (zb AA) AK) AK); replace AD := zyb hb (zfar (zfar (zb AD) AL) AL); replace AE := zm (blk_below (g := Ag) (o := .cells #[.slice none 0 0, .slice none 0 0] 27 (0, 0)) (zput (zput (zb AE) 0) 1) hb); replace HB := zm (below_step zB hb); clear hb; obtain ⟨CY, CZ, DG, DH⟩ := zc2 AE; obtain ⟨Ca, Cb, DI, DJ⟩ := zc2 AD))
  refine bodyPost_ret (results_cell_row rfl _ _ Af 27 #[.slice none 0 0, .slice none 0 0] (0, 0) _ rfl (zput (zput (zb AD) 0) 1) Try.underlying27 rfl (by kernel_rfl)) rfl ?_
  exact ⟨_, _, zE, znil, znil, zB⟩

/-! ### impl_joined: function 95 -/
def impl_joined.l0 : Nat → List Int → List (List Int) → Int → Int → Option (List Int)
 | 0, _, _, _, _ => none
 | k + 1, x3, x7, x8, x9 => if x9 < x8 then (if 0 ≤ x9 then (if x9 < (x7.length : Int) then (if x3.length + (rd_L6 x7 x9).length < 140737488355328 then (impl_joined.l0 k (x3 ++ (rd_L6 x7 x9)) x7 x8 (wrap64 (x9 + 1))) else (none)) else (none)) else (none)) else (some x3)
def impl_joined.f (k : Nat) (l0 : List (List Int)) : Option (List Int) := impl_joined.l0 k (([] : List Int)) l0 (l0.length : Int) 0
theorem impl_joined.mono_l : ∀ k, (∀ y0 y1 y2 y3, LeO (impl_joined.l0 k y0 y1 y2 y3) (impl_joined.l0 (k + 1) y0 y1 y2 y3))
 | 0 => fun _ _ _ _ r h => by simp [impl_joined.l0] at h
 | k + 1 => by
  have ih0 := impl_joined.mono_l k
  ·intro y0 y1 y2 y3
   unfold impl_joined.l0
   repeat' first | (with_reducible first | exact LeO.refl _ | exact LeO.none _ | refine LeO.ite ?_ ?_ | refine LeO.bind ?_ (fun _ => ?_) | apply ih0) | apply ih0 | exact LeO.none _ | refine LeO.ite ?_ ?_ | refine LeO.bind ?_ (fun _ => ?_)
theorem impl_joined.mono : ∀ a0 k, LeO (impl_joined.f k a0) (impl_joined.f (k + 1) a0) := by
 intro a0 k; have ih0 := impl_joined.mono_l k
 unfold impl_joined.f
 repeat' first | (with_reducible first | exact LeO.refl _ | exact LeO.none _ | refine LeO.ite ?_ ?_ | refine LeO.bind ?_ (fun _ => ?_) | apply ih0) | apply ih0 | exact LeO.none _ | refine LeO.ite ?_ ?_ | refine LeO.bind ?_ (fun _ => ?_)
set_option maxHeartbeats 8000000 in
set_option maxRecDepth 100000 in
theorem impl_joined.calls (k : Nat) (A0 : Option Addr) (c0 : Nat) (l0 : List (List Int)) (r : List Int) (w : World) (hr0 : Kd.C (Kd.slice 5 (Kd.int .u8)) w A0 l0.length l0) (hc0 : l0.length ≤ c0) (h : impl_joined.f k l0 = some r) :
  Calls Try.prog 95 #[.slice A0 l0.length c0] w fun e w' => ∃ v0_ : Value, e = .returned (v0_) ∧ Kd.R (Kd.int .u8) 5 w' w.heap.size (fun _ => True) v0_ r ∧ Below w.heap.size w w' := by
 have HR0 := zm hr0; have AJ := zm hc0; clear hr0 hc0; have HB := zm (Below.refl w.heap.size w); have H : (impl_joined.l0 k (([] : List Int)) l0 (l0.length : Int) 0) = some r := h; clear h
 obtain ⟨y744, hy744⟩ : ∃ y_ : List Int, y_ = (([] : List Int)) := ⟨_, rfl⟩
 replace H : (impl_joined.l0 k y744 l0 (l0.length : Int) 0) = some r := by first | (rw [hy744]; with_reducible exact H) | (have H2_ := (Option.bind_some _ _).symm.trans H; rw [hy744]; with_reducible exact H2_) | (have H2_ := (Option.bind_some _ _).symm.trans H; with_reducible exact H2_) | with_reducible exact H | (rw [hy744]; exact H) | exact H
 have Ny744 := zm hy744; clear hy744
 have H' := zm H
 clear H; go_enter Try.func95, Try.ntmps95
 go_wp2_with (first | ((with_reducible refine gate_dst (N := 6) rfl ?_); refine Kd.R_lit (Kd.int .u8) _ 5 ?hg (N := 6) ?hd (xs := ([] : List Int)) (inner := []) (ok := fun _ => True) (okp := fun _ => True) ?hr ?hp (fun _ hk => hk) trivial (Below.refl _ _) (Nat.le_refl _) (by simp) ?_; (case hd => rfl); (case hg => rfl); (case hr => first | (go_simp; done) | (go_simp; rfl)); (case hp => exact (Reps.none _ _)); intro v745 w2 ho3 hb hg_ hnew_; clear hg_ hnew_; (first | rw [← Ny744.out] at ho3 | (simp only [Int.reduceToNat] at ho3; rw [← Ny744.out] at ho3)); have AD := zm (Kd.R_lower ho3 (below_size zB)); replace HB := zm (below_step zB hb); clear hb ho3))
 go_loopg [3, 9] k (fun kq v3 v9 w' => ∃ (AB : List Int) (AA : Int), v9 = .int .i64 AA ∧ Aside0 (impl_joined.l0 kq AB l0 (l0.length : Int) AA = some r) ∧ Aside0 (kq ≤ k) ∧ Aside0 (Kd.R (Kd.int .u8) 5 w' w.heap.size (fun _ => True) v3 AB) ∧ Aside0 (Below w.heap.size w w'))
 case atStart => exact ⟨(y744), (0), zF, H', ⟨Nat.le_refl _⟩, ⟨zr AD⟩, ⟨zB⟩⟩
 case round =>
  clear H'; obtain ⟨AB, AA, rfl, HA, AF, AC, HB⟩ := hrel
  cases gk with
  | zero => exact absurd HA.out (by simp [impl_joined.l0])
  | succ k1 =>
   have H := HA.out; clear HA; simp only [impl_joined.l0] at H
   by_cases c4 : AA < (l0.length : Int)
   ·rw [if_pos c4] at H; have AG : decide (AA < (l0.length : Int)) = true := decide_eq_true c4; clear c4
    by_cases c5 : 0 ≤ AA
    ·rw [if_pos c5] at H; have AH : decide (0 ≤ AA) = true := decide_eq_true c5; clear c5
     by_cases c6 : AA < (l0.length : Int)
     ·rw [if_pos c6] at H; have AI : decide (AA < (l0.length : Int)) = true := decide_eq_true c6; clear c6
      by_cases c7 : AB.length + (rd_L6 l0 AA).length < 140737488355328
      ·rw [if_pos c7] at H; have LMc7 := zm c7; clear c7
       obtain ⟨y748, hy748⟩ : ∃ y_ : List Int, y_ = (AB ++ (rd_L6 l0 AA)) := ⟨_, rfl⟩
       replace H : (impl_joined.l0 k1 y748 l0 (l0.length : Int) (wrap64 (AA + 1))) = some r := by first | (rw [hy748]; with_reducible exact H) | (have H2_ := (Option.bind_some _ _).symm.trans H; rw [hy748]; with_reducible exact H2_) | (have H2_ := (Option.bind_some _ _).symm.trans H; with_reducible exact H2_) | with_reducible exact H | (rw [hy748]; exact H) | exact H
       have Ny748 := zm hy748; clear hy748
       have H' := zm H
       clear H; have p747 : 0 ≤ (AA : Int) := zd; have q747 : AA < (l0.length : Int) := zd; obtain ⟨ad747, A747_0, c747_0, e747, hx747_0, hl747_0, hi747_0⟩ := at_L6 HR0.out AA p747 q747; cases e747; replace hx747_0 := zx HB hx747_0; have HR747_0 := zm hi747_0; have HC747_0 := zm hl747_0; clear hi747_0 hl747_0; replace p747 := eq_true p747; replace q747 := eq_true q747
       go_wp2_with (first | ((with_reducible refine gate_builtin (b := .append) (xs := #[.tmp 13, .tmp 14]) rfl ?_); at_builtin; refine Kd.R_append_rows (Kd.int .u8) (w0 := w) w.heap.size rfl (.tmp 13) (.tmp 14) 22 5 (.int .u8 0) 1 rfl Try.underlying22 info5 rfl (by decide) (by omega) u3 AB (rd_L6 l0 AA) _ _ _ (fun _ => True) (fun _ => False) rfl rfl ?aO ?aR (fun _ _ h => h) (fun _ h => h.elim) ?aF ?aB ?aS ?aL ?_; (case aR => repeat (first | exact (Kd.C_below HR747_0.out HB.out) | (with_reducible refine Kd.C_alloc ?_ _) | (with_reducible refine Kd.C_drewN ?_ _) | (with_reducible refine Kd.C_drew ?_))); (case aB => exact zB); (case aF => exact (fun _ _ => trivial)); (case aO => exact (zr AC)); (case aS => exact (below_size zB)); (case aL => have := LMc7.out; omega); intro v749 w8 ho hb hg hat; rw [← Ny748.out] at ho; replace HB := zm hb; have AE := zm (ho); clear AC; clear ho hb hg hat))
       go_roundg k1
       case measure => have := AF.out; omega
       case rel => exact ⟨(y748), (wrap64 (AA + 1)), zF, H', ⟨by have := AF.out; omega⟩, ⟨zr AE⟩, ⟨zB⟩⟩
      ·rw [if_neg c7] at H
       exact absurd H (by simp)
     ·rw [if_neg c6] at H
      exact absurd H (by simp)
    ·rw [if_neg c5] at H
     exact absurd H (by simp)
   ·rw [if_neg c4] at H; have AG : decide (AA < (l0.length : Int)) = false := decide_eq_false c4; clear c4; obtain rfl := Option.some.inj H
    go_wp2
    go_ret
    exact ⟨_, zE, zr AC, zB⟩

/-! ### impl_PutText: function 96, by hand -/
def impl_PutText.f (k : Nat) (a0 : ByteArray) : Option (List Int) := (impl_PutNum.f k (a0.size : Int)).bind fun t1 => if t1.length + a0.size < 140737488355328 then impl_joined.f k [t1, bytesOf a0] else none
theorem impl_PutText.mono : ∀ a0 k, LeO (impl_PutText.f k a0) (impl_PutText.f (k + 1) a0) := by
 intro a0 k
 unfold impl_PutText.f
 exact LeO.bind (impl_PutNum.mono _ _) (fun _ => LeO.ite (impl_joined.mono _ _) (LeO.refl _))
set_option maxHeartbeats 8000000 in
set_option maxRecDepth 100000 in
theorem impl_PutText.calls (k : Nat) (a0 : ByteArray) (r : List Int) (w : World) (h : impl_PutText.f k a0 = some r) :
 Calls Try.prog 96 #[.string a0] w fun e w' => ∃ v0_ : Value, e = .returned (v0_) ∧ Kd.R (Kd.int .u8) 5 w' w.heap.size (fun _ => True) v0_ r ∧ Below w.heap.size w w' := by
 have HB := zm (Below.refl w.heap.size w); have H := Option.bind_eq_some_iff.mp h; clear h; obtain ⟨t1, AB, H⟩ := H; have A1 := zm AB; clear AB
 by_cases c1 : t1.length + a0.size < 140737488355328
 ·rw [if_pos c1] at H; have HSZ := zm (show a0.size ≤ 9223372036854775807 by omega); have HJ := zm H; clear c1 H; go_enter Try.func96, Try.ntmps96
  go_wp2_with (first
   | ((with_reducible refine gate_callee (f := 80) rfl ?_); refine zg (some 5) #[.int .i64 (a0.size : Int)] Try.func80 ?_; (with_reducible refine (impl_PutNum.calls k (a0.size : Int) t1 _ A1.out).mono ?_); rintro e w8 ⟨v1, rfl, ho0, hb⟩; refine ⟨_, rfl, ?_⟩; have AA := zm (Kd.R_lower ho0 (below_size zB)); replace HB := zm (below_step zB hb); clear hb ho0; obtain ⟨AC, AG, eo1⟩ := Kd.R_slice AA.out; subst eo1)
   | ((with_reducible refine gate_dst (N := 7) rfl ?_); refine zcv a0 w8 9 22 5 Try.underlying9 Try.underlying22 Try.underlying5 HSZ.out rfl (fun kb_ => by first | (go_simp; done) | (go_simp; rfl)) ?_; intro A7 c7 w9 hc7 hl7 hb; have AD := zm hc7; have HL7 := zm hl7; replace AA := zm (Kd.R_below AA.out hb); replace HB := zm (below_step zB hb); clear hb hc7 hl7)
   | ((with_reducible refine gate_dst (N := 8) rfl ?_); refine zls 8 (.slice AC t1.length AG) (.slice A7 a0.size c7) 22 rfl ?_; intro gb hg AH hbox hb; have AE := zm (ztwo 5 (Kd.C_below (Kd.R_reads' AA.out).2.2 hb) (Kd.R_reads' AA.out).2.1 (Kd.C_below AD.out hb) HL7.out hbox); replace HB := zm (below_step zB hb); clear hb hbox hg)
   | ((with_reducible refine gate_callee (f := 95) rfl ?_); refine zg (some 9) #[.slice (some ⟨gb, 0, none⟩) 2 2] Try.func95 ?_; (refine (impl_joined.calls k (some ⟨gb, 0, none⟩) 2 [t1, bytesOf a0] r _ AE.out (Nat.le_refl 2) HJ.out).mono ?_); rintro e AI ⟨v2, rfl, ho0, hb⟩; refine ⟨_, rfl, ?_⟩; have AF := zm (Kd.R_lower ho0 (below_size zB)); replace HB := zm (below_step zB hb); clear hb ho0))
  go_ret
  exact ⟨_, zE, zr AF, zB⟩
 ·rw [if_neg c1] at H
  exact absurd H (by simp)

end Go.Proofs.Ytnmofppbijmhoaa.P
