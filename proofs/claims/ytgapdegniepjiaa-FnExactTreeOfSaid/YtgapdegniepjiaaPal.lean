-- by a program of this session, for this seat
import Derived.Test.YtgapdegniepjiaaZ
import Derived.Test.YtgapdegniepjiaaP0
import Derived.Test.YtgapdegniepjiaaPac
import Derived.Test.YtgapdegniepjiaaPai
import Derived.Test.YtgapdegniepjiaaPab
import Derived.Test.YtgapdegniepjiaaPaf
import Derived.Test.YtgapdegniepjiaaPae
import Derived.Test.YtgapdegniepjiaaPaj
namespace Go.Proofs.Ytgapdegniepjiaa.P
open Go.RowKit Go.Proofs.YtgapdegniepjiaaW.PrintWords Go.Proofs.YtgapdegniepjiaaW.PrintLast Go.Proofs.YtgapdegniepjiaaW.PrintMore Go.Proofs.Ytgapdegniepjiaa.Z
attribute [local go_sem] max2_int min2_int max_two min_two max_three min_three max_four min_four   -- for this text's walks alone
set_option linter.unusedVariables false
set_option linter.unusedSimpArgs false

/-! ### spec_l6Root: function 85 -/
def spec_l6Root.l0 : Nat → List Int → List Int → Int → Option (Int)
 | 0, _, _, _ => none
 | k + 1, x0, x3, x4 => if x4 < (x0.length : Int) then (if 0 ≤ x4 then ((spec_PutNum.f k (rd x0 x4)).bind fun t523 => (if x3.length + t523.length < 140737488355328 then (spec_l6Root.l0 k x0 (x3 ++ t523) (wrap64 (x4 + 1))) else (none))) else (none)) else ((spec_Crc.f k x3).bind fun t529 => (some (Int.tmod t529 1024)))
def spec_l6Root.f (k : Nat) (l0 : List Int) : Option (Int) := spec_l6Root.l0 k l0 (([] : List Int)) 0
theorem spec_l6Root.mono_l : ∀ k, (∀ y0 y1 y2, LeO (spec_l6Root.l0 k y0 y1 y2) (spec_l6Root.l0 (k + 1) y0 y1 y2))
 | 0 => fun _ _ _ r h => by simp [spec_l6Root.l0] at h
 | k + 1 => by
  have ih0 := spec_l6Root.mono_l k
  ·intro y0 y1 y2
   unfold spec_l6Root.l0
   repeat' first | (with_reducible first | exact LeO.refl _ | exact LeO.none _ | refine LeO.ite ?_ ?_ | refine LeO.bind ?_ (fun _ => ?_) | apply ih0 | apply spec_Crc.mono | apply spec_PutNum.mono) | apply ih0 | apply spec_Crc.mono | apply spec_PutNum.mono | exact LeO.none _ | refine LeO.ite ?_ ?_ | refine LeO.bind ?_ (fun _ => ?_)
theorem spec_l6Root.mono : ∀ a0 k, LeO (spec_l6Root.f k a0) (spec_l6Root.f (k + 1) a0) := by
 intro a0 k; have ih0 := spec_l6Root.mono_l k
 unfold spec_l6Root.f
 repeat' first | (with_reducible first | exact LeO.refl _ | exact LeO.none _ | refine LeO.ite ?_ ?_ | refine LeO.bind ?_ (fun _ => ?_) | apply ih0 | apply spec_Crc.mono | apply spec_PutNum.mono) | apply ih0 | apply spec_Crc.mono | apply spec_PutNum.mono | exact LeO.none _ | refine LeO.ite ?_ ?_ | refine LeO.bind ?_ (fun _ => ?_)
set_option maxHeartbeats 8000000 in
set_option maxRecDepth 100000 in
theorem spec_l6Root.calls (k : Nat) (A0 : Option Addr) (c0 : Nat) (l0 : List Int) (r : Int) (w : World) (hr0 : Kd.C (Kd.int .i64) w A0 l0.length l0) (hc0 : l0.length ≤ c0) (h : spec_l6Root.f k l0 = some r) :
  Calls Try.prog 85 #[.slice A0 l0.length c0] w fun e w' => e = .returned (.int .i64 r) ∧ Below w.heap.size w w' := by
 have HR0 := zm hr0; have HC0 := zm hc0; clear hr0 hc0; have HB := zm (Below.refl w.heap.size w); have H : (spec_l6Root.l0 k l0 (([] : List Int)) 0) = some r := h; clear h
 obtain ⟨y519, hy519⟩ : ∃ y_ : List Int, y_ = (([] : List Int)) := ⟨_, rfl⟩
 replace H : (spec_l6Root.l0 k l0 y519 0) = some r := by first | (rw [hy519]; with_reducible exact H) | (have H2_ := (Option.bind_some _ _).symm.trans H; rw [hy519]; with_reducible exact H2_) | (have H2_ := (Option.bind_some _ _).symm.trans H; with_reducible exact H2_) | with_reducible exact H | (rw [hy519]; exact H) | exact H
 have Ny519 := zm hy519; clear hy519
 have H' := zm H
 clear H; go_enter Try.func85, Try.ntmps85
 go_wp2_with (first | ((with_reducible refine gate_dst (N := 5) rfl ?_); refine Kd.R_lit (Kd.int .u8) _ 5 ?hg (N := 5) ?hd (xs := ([] : List Int)) (inner := []) (ok := fun _ => True) (okp := fun _ => True) ?hr ?hp (fun _ hk => hk) trivial (Below.refl _ _) (Nat.le_refl _) (by simp) ?_; (case hd => rfl); (case hg => rfl); (case hr => first | (go_simp; done) | (go_simp; rfl)); (case hp => exact (Reps.none _ _)); intro v520 w2 ho3 hb hg_ hnew_; clear hg_ hnew_; (first | rw [← Ny519.out] at ho3 | (simp only [Int.reduceToNat] at ho3; rw [← Ny519.out] at ho3)); have HO521 := zm (Kd.R_lower ho3 (below_size zB)); replace HB := zm (below_step zB hb); clear hb ho3))
 go_loopg [3, 4] k (fun kq v3 v4 w' => ∃ (x3_1 : List Int) (x4_1 : Int), v4 = .int .i64 x4_1 ∧ Aside0 (spec_l6Root.l0 kq l0 x3_1 x4_1 = some r) ∧ Aside0 (kq ≤ k) ∧ Aside0 (Kd.R (Kd.int .u8) 5 w' w.heap.size (fun _ => True) v3 x3_1) ∧ Aside0 (Below w.heap.size w w'))
 case atStart => exact ⟨(y519), (0), zF, H', ⟨Nat.le_refl _⟩, ⟨zr HO521⟩, ⟨zB⟩⟩
 case round =>
  clear H'; obtain ⟨x3_1, x4_1, rfl, HA, HK1, HO_3, HB⟩ := hrel
  cases gk with
  | zero => exact absurd HA.out (by simp [spec_l6Root.l0])
  | succ k1 =>
   have H := HA.out; clear HA; simp only [spec_l6Root.l0] at H
   by_cases c4 : x4_1 < (l0.length : Int)
   ·rw [if_pos c4] at H; have c4b0 : decide (x4_1 < (l0.length : Int)) = true := decide_eq_true c4; clear c4
    by_cases c5 : 0 ≤ x4_1
    ·rw [if_pos c5] at H; have c5b0 : decide (0 ≤ x4_1) = true := decide_eq_true c5; clear c5; replace H := Option.bind_eq_some_iff.mp H; obtain ⟨t523, A60, H⟩ := H; (try dsimp only at H); have A6 := zm A60; clear A60
     by_cases c7 : x3_1.length + t523.length < 140737488355328
     ·rw [if_pos c7] at H; have LMc7 := zm c7; clear c7
      obtain ⟨y526, hy526⟩ : ∃ y_ : List Int, y_ = (x3_1 ++ t523) := ⟨_, rfl⟩
      replace H : (spec_l6Root.l0 k1 l0 y526 (wrap64 (x4_1 + 1))) = some r := by first | (rw [hy526]; with_reducible exact H) | (have H2_ := (Option.bind_some _ _).symm.trans H; rw [hy526]; with_reducible exact H2_) | (have H2_ := (Option.bind_some _ _).symm.trans H; with_reducible exact H2_) | with_reducible exact H | (rw [hy526]; exact H) | exact H
      have Ny526 := zm hy526; clear hy526
      have H' := zm H
      clear H; have p522 : 0 ≤ (x4_1 : Int) := zd; have q522 : x4_1 < (l0.length : Int) := zd; obtain ⟨ad522, e522, hx522_0⟩ := Kd.at_int (Kd.C_below HR0.out HB.out) x4_1 p522 q522; cases e522; replace p522 := eq_true p522; replace q522 := eq_true q522
      go_wp2_with (first | (refine zg (some 17) #[.int .i64 (rd l0 x4_1)] Try.func90 ?_; (with_reducible refine (spec_PutNum.calls k1 (rd l0 x4_1) t523 _ A6.out).mono ?_); rintro e w8 ⟨v524, rfl, ho0, hb⟩; refine ⟨_, rfl, ?_⟩; have HO525 := zm (Kd.R_lower (Kd.R_new' ho0 (Kd.R_lt (zr HO_3))) (below_size zB)); replace HO_3 := zm (Kd.R_elder' (zr HO_3) (Kd.R_base ho0) hb); replace HB := zm (below_step zB hb); clear hb ho0; obtain ⟨Ao10, co10, eo10⟩ := Kd.R_slice HO525.out; subst eo10) | ((with_reducible refine gate_builtin (b := .append) (xs := #[.tmp 12, .tmp 17]) rfl ?_); at_builtin; refine Kd.R_append_rows (Kd.int .u8) (w0 := w) w.heap.size rfl (.tmp 12) (.tmp 17) 27 5 (.int .u8 0) 1 rfl Try.underlying27 info5 rfl (by decide) (by omega) u3 x3_1 t523 _ _ _ (fun k_ => some k_ ≠ (.slice Ao10 t523.length co10 : Value).ownBlock) (fun _ => False) rfl rfl ?aO ?aR (fun _ _ h => h) (fun _ h => h.elim) ?aF ?aB ?aS ?aL ?_; (case aR => repeat (first | exact (Kd.R_reads' HO525.out).2.2 | (with_reducible refine Kd.C_alloc ?_ _) | (with_reducible refine Kd.C_drewN ?_ _) | (with_reducible refine Kd.C_drew ?_))); (case aB => exact zB); (case aF => exact (fun k_ hk => Kd.fresh' (Kd.R_lt (zr HO525)) k_ hk)); (case aO => exact (by (with_reducible repeat (first | apply Kd.R_alloc | apply Kd.R_drewN | apply Kd.R_drew)); exact Kd.R_mono HO_3.out (fun _ hk => hk.2))); (case aS => exact (below_size zB)); (case aL => have := LMc7.out; omega); intro v527 w9 ho hb hg hat; rw [← Ny526.out] at ho; replace HO525 := zm (Kd.R_after (ok := (fun _ => True)) (zr HO525) hg hat); replace HB := zm (hb); have HO528 := zm (ho); clear HO_3; clear ho hb hg hat))
      go_roundg k1
      case measure => have := HK1.out; omega
      case rel => exact ⟨(y526), (wrap64 (x4_1 + 1)), zF, H', ⟨by have := HK1.out; omega⟩, ⟨by (with_reducible repeat (first | apply Kd.R_alloc | apply Kd.R_drewN | apply Kd.R_drew)); exact Kd.R_mono HO528.out (fun _ hk => trivial)⟩, ⟨zB⟩⟩
     ·rw [if_neg c7] at H
      exact absurd H (by simp)
    ·rw [if_neg c5] at H
     exact absurd H (by simp)
   ·rw [if_neg c4] at H; have c4b0 : decide (x4_1 < (l0.length : Int)) = false := decide_eq_false c4; clear c4; replace H := Option.bind_eq_some_iff.mp H; obtain ⟨t529, A110, H⟩ := H; (try dsimp only at H); have A11 := zm A110; clear A110; obtain rfl := Option.some.inj H; obtain ⟨Ao12, co12, eo12⟩ := Kd.R_slice HO_3.out; subst eo12
    go_wp2_with (first | (refine zg (some 20) #[.slice Ao12 x3_1.length co12] Try.func62 ?_; (with_reducible refine (spec_Crc.calls k1 _ _ x3_1 t529 _ ?side1 ?side2 A11.out).mono ?_); (case side1 => repeat (first | exact (Kd.R_reads' HO_3.out).2.2 | (with_reducible refine Kd.C_alloc ?_ _) | (with_reducible refine Kd.C_drewN ?_ _) | (with_reducible refine Kd.C_drew ?_))); (case side2 => exact (Kd.R_reads' HO_3.out).2.1); rintro e w' ⟨rfl, ⟨nd, rfl⟩⟩; refine ⟨_, rfl, ?_⟩))
    go_ret
    exact ⟨zE, zB⟩

/-! ### spec_TreeOf: function 42 -/
def spec_TreeOf.l0 : Nat → Int → List (S68) → List (S72) → List Int → Int → Option (List Int × Int)
 | 0, _, _, _, _, _ => none
 | k + 1, x4, x531000, x531001, x534000, x534001 => if x4 < 4 then ((spec_LeafSum.f k x531000 x531001 x4).bind fun t534 => (if x534000.length < 17592186044416 then (spec_TreeOf.l0 k (wrap64 (x4 + 1)) x531000 x531001 (x534000 ++ [t534]) x534001) else (none))) else ((spec_l6Root.f k x534000).bind fun t538 => (some (x534000, t538)))
def spec_TreeOf.f (k : Nat) (l0_0 : List (S68)) (l0_1 : List (S72)) : Option (List Int × Int) := (spec_StateOk.f k l0_0 l0_1).bind fun t532 => (if t532 = true then (spec_TreeOf.l0 k 0 l0_0 l0_1 ([] : List Int) 0) else (some (([] : List Int), 0)))
theorem spec_TreeOf.mono_l : ∀ k, (∀ y0 y1 y2 y3 y4, LeO (spec_TreeOf.l0 k y0 y1 y2 y3 y4) (spec_TreeOf.l0 (k + 1) y0 y1 y2 y3 y4))
 | 0 => fun _ _ _ _ _ r h => by simp [spec_TreeOf.l0] at h
 | k + 1 => by
  have ih0 := spec_TreeOf.mono_l k
  ·intro y0 y1 y2 y3 y4
   unfold spec_TreeOf.l0
   repeat' first | (with_reducible first | exact LeO.refl _ | exact LeO.none _ | refine LeO.ite ?_ ?_ | refine LeO.bind ?_ (fun _ => ?_) | apply ih0 | apply spec_LeafSum.mono | apply spec_StateOk.mono | apply spec_l6Root.mono) | apply ih0 | apply spec_LeafSum.mono | apply spec_StateOk.mono | apply spec_l6Root.mono | exact LeO.none _ | refine LeO.ite ?_ ?_ | refine LeO.bind ?_ (fun _ => ?_)
theorem spec_TreeOf.mono : ∀ a0 a1 k, LeO (spec_TreeOf.f k a0 a1) (spec_TreeOf.f (k + 1) a0 a1) := by
 intro a0 a1 k; have ih0 := spec_TreeOf.mono_l k
 unfold spec_TreeOf.f
 repeat' first | (with_reducible first | exact LeO.refl _ | exact LeO.none _ | refine LeO.ite ?_ ?_ | refine LeO.bind ?_ (fun _ => ?_) | apply ih0 | apply spec_LeafSum.mono | apply spec_StateOk.mono | apply spec_l6Root.mono) | apply ih0 | apply spec_LeafSum.mono | apply spec_StateOk.mono | apply spec_l6Root.mono | exact LeO.none _ | refine LeO.ite ?_ ?_ | refine LeO.bind ?_ (fun _ => ?_)
def spec_TreeOf.T7 : Bool × List (List Nat × List Nat) := (true, [([], []), ([0], [0]), ([], []), ([], []), ([2, 3], [2, 3]), ([4], [4]), ([1, 5, 4], [1, 5]), ([0, 1, 2, 3, 4, 5, 6], []), ([7, 6, 6, 0, 1, 2, 3, 4, 5, 6], [6, 7])])
def spec_TreeOf.B7 : List Nat := [0, 1, 0, 0, 12, 28, 63, 127, 255]
theorem spec_TreeOf.tab7 : rtab .any (opsOf Try.f42 7) = spec_TreeOf.T7 := by kernel_rfl
theorem spec_TreeOf.bits7 : waitsOk spec_TreeOf.T7.2 spec_TreeOf.B7 = true := by kernel_rfl
set_option maxHeartbeats 8000000 in
set_option maxRecDepth 100000 in
theorem spec_TreeOf.calls (k : Nat) (A0_0 : Option Addr) (c0_0 : Nat) (l0_0 : List (S68)) (A0_1 : Option Addr) (c0_1 : Nat) (l0_1 : List (S72)) (r1 : List Int) (r2 : Int) (w : World) (hr0_0 : Kd.C k68 w A0_0 l0_0.length l0_0) (hc0_0 : l0_0.length ≤ c0_0) (hr0_1 : Kd.C k72 w A0_1 l0_1.length l0_1) (hc0_1 : l0_1.length ≤ c0_1) (h : spec_TreeOf.f k l0_0 l0_1 = some (r1, r2)) :
  Calls Try.prog 42 #[.agg #[.slice A0_0 l0_0.length c0_0, .slice A0_1 l0_1.length c0_1]] w fun e w' => ∃ v0_ : Value, e = .returned (.agg #[v0_, .int .i64 r2]) ∧ Kd.R (Kd.int .i64) 3 w' w.heap.size (fun _ => True) v0_ r1 ∧ Below w.heap.size w w' := by
 have hu32 := Try.underlying32; have hu55 := Try.underlying55; have HR0_0 := zm hr0_0; have HC0_0 := zm hc0_0; clear hr0_0 hc0_0; have HR0_1 := zm hr0_1; have HC0_1 := zm hc0_1; clear hr0_1 hc0_1; have HB := zm (Below.refl w.heap.size w); have H : ((spec_StateOk.f k l0_0 l0_1).bind fun t532 => (if t532 = true then (spec_TreeOf.l0 k 0 l0_0 l0_1 ([] : List Int) 0) else (some (([] : List Int), 0)))) = some (r1, r2) := h; clear h; replace H := Option.bind_eq_some_iff.mp H; obtain ⟨t532, A20, H⟩ := H; (try dsimp only at H); have A2 := zm A20; clear A20
 by_cases c3 : t532 = true
 ·subst c3; rw [if_pos rfl] at H
  have H' := zm H
  clear H; go_enter Try.func42, Try.ntmps42
  go_wp2_with (first | (refine zbox 1 #[.slice A0_0 l0_0.length c0_0, .slice A0_1 l0_1.length c0_1] 32 ?_; intro gb530 hg w4 hbox hb; have BK530 := zm (hbox); have GW530 := zge w hg zB; have GE530 := zge w hg zB; replace HB := zm (below_step zB hb); clear hb hbox hg) | (refine zbox 2 #[.slice none 0 0, .int .i64 0] 55 ?_; intro gb531 hg w5 hbox hb; have BK531 := zm (hbox); have GW531 := zge w hg zB; have GE531 := zge w hg zB; replace HB := zm (below_step zB hb); have NB530_531 := zlt hg (zb BK530); have NB531_530 := zgt hg (zb BK530); replace BK530 := zy BK530 hb; clear hb hbox hg; have hnb6 := NB530_531.out; have hnc6 := NB531_530.out; obtain ⟨hcz7_0, hcz7_1, hfz7_0, hfz7_1⟩ := zc2 BK530) | (refine zg (some 6) #[.agg #[.slice A0_0 l0_0.length c0_0, .slice A0_1 l0_1.length c0_1]] Try.func49 ?_; (with_reducible refine (spec_StateOk.calls k _ _ l0_0 _ _ l0_1 true _ (zk (Kd.C_below HR0_0.out HB.out)) HC0_0.out (zk (Kd.C_below HR0_1.out HB.out)) HC0_1.out A2.out).mono ?_); rintro e w8 ⟨rfl, hb⟩; refine ⟨_, rfl, ?_⟩; replace BK530 := zy BK530 hb; replace BK531 := zy BK531 hb; replace HB := zm (below_step zB hb); clear hb) | (refine zbox 3 #[.slice none 0 0, .int .i64 0] 55 ?_; intro gb533 hg w9 hbox hb; have BK533 := zm (hbox); have GW533 := zge w hg zB; have GE533 := zge w hg zB; replace HB := zm (below_step zB hb); have NB530_533 := zlt hg (zb BK530); have NB533_530 := zgt hg (zb BK530); replace BK530 := zy BK530 hb; have NB531_533 := zlt hg (zb BK531); have NB533_531 := zgt hg (zb BK531); replace BK531 := zy BK531 hb; clear hb hbox hg; have hnb10 := NB533_530.out; have hnc10 := NB530_533.out; have hnb11 := NB533_531.out; have hnc11 := NB531_533.out; obtain ⟨hcz12_0, hcz12_1, hfz12_0, hfz12_1⟩ := zc2 BK533))
  go_loopg [4] k (fun kq v4 w' => ∃ (x4_1 : Int) (x534000_1 : List Int) (u534000 : Value), v4 = .int .i64 x4_1 ∧ Aside0 (spec_TreeOf.l0 kq x4_1 l0_0 l0_1 x534000_1 0 = some (r1, r2)) ∧ Aside0 (kq ≤ k) ∧ Aside0 (Kd.R (Kd.int .i64) 3 w' w.heap.size (fun _ => True) u534000 x534000_1) ∧ Aside0 (w'.heap[gb530]? = some (.cells #[(.slice A0_0 l0_0.length c0_0), (.slice A0_1 l0_1.length c0_1)] 32 (0, 0))) ∧ Aside0 (w'.heap[gb531]? = some (.cells #[(.slice none 0 0), .int .i64 0] 55 (0, 0))) ∧ Aside0 (w'.heap[gb533]? = some (.cells #[u534000, .int .i64 0] 55 (0, 0))) ∧ Aside0 (Below w.heap.size w w'))
  case atStart => exact ⟨(0), (([] : List Int)), (.slice none 0 0), zF, H', ⟨Nat.le_refl _⟩, ⟨znil⟩, ⟨zfar (zfar (zb BK530) NB530_533) NB530_533⟩, ⟨zfar (zfar (zb BK531) NB531_533) NB531_533⟩, ⟨zput (zput (zb BK533) 0) 1⟩, ⟨zB⟩⟩
  case round =>
   clear H'; (try clear c3); (try clear hcz12_0); (try clear hcz12_1); (try clear hcz7_0); (try clear hcz7_1); (try clear hfz12_0); (try clear hfz12_1); (try clear hfz7_0); (try clear hfz7_1); obtain ⟨x4_1, x534000_1, u534000, rfl, HA, HK1, HO_534000, BK530, BK531, BK533, HB⟩ := hrel
   cases gk with
   | zero => exact absurd HA.out (by simp [spec_TreeOf.l0])
   | succ k1 =>
    have H := HA.out; clear HA; simp only [spec_TreeOf.l0] at H
    by_cases c13 : x4_1 < 4
    ·rw [if_pos c13] at H; have c13b0 : decide (x4_1 < 4) = true := decide_eq_true c13; clear c13; replace H := Option.bind_eq_some_iff.mp H; obtain ⟨t534, A140, H⟩ := H; (try dsimp only at H); have A14 := zm A140; clear A140
     by_cases c15 : x534000_1.length < 17592186044416
     ·rw [if_pos c15] at H; have LMc15 := zm c15; clear c15
      obtain ⟨y535, hy535⟩ : ∃ y_ : List Int, y_ = (x534000_1 ++ [t534]) := ⟨_, rfl⟩
      replace H : (spec_TreeOf.l0 k1 (wrap64 (x4_1 + 1)) l0_0 l0_1 y535 0) = some (r1, r2) := by first | (rw [hy535]; with_reducible exact H) | (have H2_ := (Option.bind_some _ _).symm.trans H; rw [hy535]; with_reducible exact H2_) | (have H2_ := (Option.bind_some _ _).symm.trans H; with_reducible exact H2_) | with_reducible exact H | (rw [hy535]; exact H) | exact H
      have Ny535 := zm hy535; clear hy535
      have H' := zm H
      clear H
      try go_wp2
      replace HO_534000 := zm (Kd.R_drew HO_534000.out); replace BK530 := zq BK530; replace BK531 := zq BK531; replace BK533 := zq BK533; replace HB := zm (below_drew1 HB.out)
      refine start_ (n := 9) (S := fun w' => w'.cell? ⟨gb533, 0, none⟩ = some (u534000) ∧ w'.cell? ⟨gb533, 1, none⟩ = some (.int .i64 0) ∧ w'.cell? ⟨gb530, 0, none⟩ = some (.slice A0_0 l0_0.length c0_0) ∧ w'.cell? ⟨gb530, 1, none⟩ = some (.slice A0_1 l0_1.length c0_1)) (ds := [8]) (zl 9 0) (by kernel_rfl) rfl rfl zS (fun hHeld => ?_); refine with_tabW spec_TreeOf.tab7 spec_TreeOf.bits7 (fun HT_ HW_ => ?_)
      generalize wr.drew = w16 at HO_534000 BK530 BK531 BK533 HB hHeld ⊢
      refine zu 0 14 9 1 ?_
      refine zu 3 17 9 9 ?_
      refine zv 1 15 9 11 ?_
      refine zv 2 16 9 15 ?_
      refine zo 4 (some 18) (zl 9 31) (fun K hK => ?_); refine zgo #[.agg #[.slice A0_0 l0_0.length c0_0, .slice A0_1 l0_1.length c0_1], .int .i64 x4_1] Try.func22 ?_; (with_reducible refine (spec_LeafSum.calls k1 _ _ l0_0 _ _ l0_1 x4_1 t534 _ (zk (Kd.C_below HR0_0.out HB.out)) HC0_0.out (zk (Kd.C_below HR0_1.out HB.out)) HC0_1.out A14.out).mono ?_); rintro e w17 ⟨rfl, hb⟩; refine ⟨_, rfl, ?_⟩; replace HO_534000 := zw HO_534000 hb; replace BK530 := zy BK530 hb; replace BK531 := zy BK531 hb; replace BK533 := zy BK533 hb; replace HB := zm (below_step zB hb); (try clear hb); refine hK.out _ _ zS (fun hHeld => ?_); clear hK K; refine zn ?_; refine zo 5 (some 19) (zl 9 63) (fun K hK => ?_)
      refine value_ (w1 := ?_) (v := ?_) (by rfl) rfl ?_ ?_
      rotate_left 2
      ·go_simp
       constructor
       ·rfl
       ·rfl
      refine hK.out _ _ ⟨(blk_cell (blk_alloc BK533.out _) 0).trans rfl, (blk_cell (blk_alloc BK533.out _) 1).trans rfl, (blk_cell (blk_alloc BK530.out _) 0).trans rfl, (blk_cell (blk_alloc BK530.out _) 1).trans rfl⟩ (fun hHeld => ?_); clear hK K; refine zn (N := some 19) ?_; refine zo 6 (some 20) (zl 9 127) (fun K hK => ?_)
      refine Kd.R_append_step (Kd.int .i64) (w0 := w) w.heap.size (by rfl) (.tmp 15) (.tmp 19) 46 3 (.int .i64 0) 8 rfl Try.underlying46 info3 rfl (by decide) (by omega) u534000 x534000_1 t534 [.int .i64 t534] (fun _ => True) (fun _ => False) rfl rfl ?aP (fun _ hk => hk.elim) ?aF ?aO ?aB ?aS ?aL ?_
      (case aP => exact rfl)
      (case aB => exact zB)
      (case aF => exact (fun _ _ => trivial))
      (case aO => exact (zr HO_534000))
      (case aS => exact (below_size zB))
      (case aL => have := LMc15.out; omega)
      intro v536 w18 ho hb hg hat; rw [← Ny535.out] at ho; replace BK530 := zgr hg (zb BK530) (Kd.R_ne HO_534000.out BK530.out (by decide)); replace BK531 := zgr hg (zb BK531) (Kd.R_ne HO_534000.out BK531.out (by decide)); replace BK533 := zgr hg (zb BK533) (Kd.R_ne HO_534000.out BK533.out (by decide)); replace HB := zm (hb); have HO537 := zm (ho); clear HO_534000; clear ho hb hg hat; obtain ⟨Ao19, co19, eo19⟩ := Kd.R_slice HO537.out
      (first | subst eo19 | (injection eo19 with f1_ f2_ f3_; have f4_ := f1_.symm; have f5_ := f3_.symm; clear f1_ f2_ f3_; subst f4_; subst f5_))
      refine hK.out _ _ zS (fun hHeld => ?_); clear hK K; refine zn (N := some 20) ?_
      refine zu 7 21 9 255 ?_
      refine last_ (i := 8) (N := none) #[true, true, true, true, true, true, true, true, true] rfl rfl (one_of HT_.out (by kernel_rfl)) (by decide) (fun K hK => ?_)
      have hs20 : w18.cell? ⟨gb533, 0, none⟩ = some (u534000) := (blk_cell BK533.out 0).trans rfl; have hfs20 := blk_frozen BK533.out 0; have hns20_0 := NB530_533.out; have hns20_1 := NB531_533.out; have hms20_0 := NB533_530.out; have hms20_1 := NB533_531.out
      refine skip_ (w1 := ?_) (by rfl) rfl ?_ ?_
      rotate_left
      ·go_simp
       rfl
      refine hK.out _ _ ?_; clear hK K
      refine done_ (done_of HT_.out (by kernel_rfl)) ?_
      try go_wp2
      go_roundg k1
      case measure => have := HK1.out; omega
      case rel => exact ⟨(wrap64 (x4_1 + 1)), (y535), (.slice Ao19 y535.length co19), zF, H', ⟨by have := HK1.out; omega⟩, ⟨zrs <| Kd.R_mono (zfr (Kd.R_types HO537.out BK533.out (by decide))) (fun _ hk => trivial)⟩, ⟨zfar (zb BK530) NB530_533⟩, ⟨zfar (zb BK531) NB531_533⟩, ⟨zput (zb BK533) 0⟩, ⟨zB⟩⟩
     ·rw [if_neg c15] at H
      exact absurd H (by simp)
    ·rw [if_neg c13] at H; have c13b0 : decide (x4_1 < 4) = false := decide_eq_false c13; clear c13; replace H := Option.bind_eq_some_iff.mp H; obtain ⟨t538, A210, H⟩ := H; (try dsimp only at H); have A21 := zm A210; clear A210; simp only [Option.some.injEq, Prod.mk.injEq] at H; obtain ⟨rfl, rfl⟩ := H; have hnb22 := NB533_530.out; have hnc22 := NB530_533.out; have hnb23 := NB533_531.out; have hnc23 := NB531_533.out; obtain ⟨hcz24_0, hcz24_1, hfz24_0, hfz24_1⟩ := zc2 BK533; obtain ⟨Ao25, co25, eo25⟩ := Kd.R_slice HO_534000.out; subst eo25
     go_wp2_with (first | (refine zg (some 24) #[.slice Ao25 x534000_1.length co25] Try.func85 ?_; (with_reducible refine (spec_l6Root.calls k1 _ _ x534000_1 t538 _ ?side1 ?side2 A21.out).mono ?_); (case side1 => repeat (first | exact (Kd.R_reads' HO_534000.out).2.2 | (with_reducible refine Kd.C_alloc ?_ _) | (with_reducible refine Kd.C_drewN ?_ _) | (with_reducible refine Kd.C_drew ?_))); (case side2 => exact (Kd.R_reads' HO_534000.out).2.1); rintro e w26 ⟨rfl, hb⟩; refine ⟨_, rfl, ?_⟩; replace HO_534000 := zw HO_534000 hb; replace BK530 := zy BK530 hb; replace BK531 := zy BK531 hb; replace BK533 := zy BK533 hb; replace HB := zm (below_step zB hb); clear hb; obtain ⟨hcz27_0, hcz27_1, hfz27_0, hfz27_1⟩ := zc2 BK533; have hnb28 := NB531_530.out; have hnc28 := NB530_531.out; obtain ⟨hcz29_0, hcz29_1, hfz29_0, hfz29_1⟩ := zc2 BK531))
     refine bodyPost_ret (results_cell_row rfl _ _ gb531 55 #[.slice Ao25 x534000_1.length co25, .int .i64 t538] (0, 0) _ rfl (zput (zput (zfar (zb BK531) NB531_533) 0) 1) Try.underlying55 rfl (by kernel_rfl)) rfl ?_
     exact ⟨_, zE, zrs <| Kd.R_mono (zfr (zfr (zfq (Kd.R_types (Kd.R_types HO_534000.out BK533.out (by decide)) BK531.out (by decide)) (fun _ hk => hk.1.2)))) (fun _ hk => trivial), zB⟩
 ·replace c3 := Bool.eq_false_iff.mpr c3; subst c3; rw [zff] at H; simp only [Option.some.injEq, Prod.mk.injEq] at H; obtain ⟨rfl, rfl⟩ := H; go_enter Try.func42, Try.ntmps42
  go_wp2_with (first | (refine zbox 1 #[.slice A0_0 l0_0.length c0_0, .slice A0_1 l0_1.length c0_1] 32 ?_; intro gb530 hg w30 hbox hb; have BK530 := zm (hbox); have GW530 := zge w hg zB; have GE530 := zge w hg zB; replace HB := zm (below_step zB hb); clear hb hbox hg) | (refine zbox 2 #[.slice none 0 0, .int .i64 0] 55 ?_; intro gb531 hg w31 hbox hb; have BK531 := zm (hbox); have GW531 := zge w hg zB; have GE531 := zge w hg zB; replace HB := zm (below_step zB hb); have NB530_531 := zlt hg (zb BK530); have NB531_530 := zgt hg (zb BK530); replace BK530 := zy BK530 hb; clear hb hbox hg; have hnb32 := NB530_531.out; have hnc32 := NB531_530.out; obtain ⟨hcz33_0, hcz33_1, hfz33_0, hfz33_1⟩ := zc2 BK530) | (refine zg (some 6) #[.agg #[.slice A0_0 l0_0.length c0_0, .slice A0_1 l0_1.length c0_1]] Try.func49 ?_; (with_reducible refine (spec_StateOk.calls k _ _ l0_0 _ _ l0_1 false _ (zk (Kd.C_below HR0_0.out HB.out)) HC0_0.out (zk (Kd.C_below HR0_1.out HB.out)) HC0_1.out A2.out).mono ?_); rintro e w34 ⟨rfl, hb⟩; refine ⟨_, rfl, ?_⟩; replace BK530 := zy BK530 hb; replace BK531 := zy BK531 hb; replace HB := zm (below_step zB hb); clear hb; obtain ⟨hcz35_0, hcz35_1, hfz35_0, hfz35_1⟩ := zc2 BK531))
  refine bodyPost_ret (results_cell_row rfl _ _ gb531 55 #[.slice none 0 0, .int .i64 0] (0, 0) _ rfl (zput (zput (zb BK531) 0) 1) Try.underlying55 rfl (by kernel_rfl)) rfl ?_
  exact ⟨_, zE, znil, zB⟩

/-! ### impl_rootOf: function 86 -/
def impl_rootOf.l0 : Nat → List Int → List Int → Int → Int → Option (Int)
 | 0, _, _, _, _ => none
 | k + 1, x3, x7, x8, x9 => if x9 < x8 then (if 0 ≤ x9 then (if x9 < (x7.length : Int) then ((impl_PutNum.f k (rd x7 x9)).bind fun t543 => ((impl_joined.f k (([x3, t543] : List (List Int)))).bind fun t549 => (impl_rootOf.l0 k t549 x7 x8 (wrap64 (x9 + 1))))) else (none)) else (none)) else ((impl_Crc.f k x3).bind fun t552 => (some (Int.tmod t552 1024)))
def impl_rootOf.f (k : Nat) (l0 : List Int) : Option (Int) := impl_rootOf.l0 k (([] : List Int)) l0 (l0.length : Int) 0
theorem impl_rootOf.mono_l : ∀ k, (∀ y0 y1 y2 y3, LeO (impl_rootOf.l0 k y0 y1 y2 y3) (impl_rootOf.l0 (k + 1) y0 y1 y2 y3))
 | 0 => fun _ _ _ _ r h => by simp [impl_rootOf.l0] at h
 | k + 1 => by
  have ih0 := impl_rootOf.mono_l k
  ·intro y0 y1 y2 y3
   unfold impl_rootOf.l0
   repeat' first | (with_reducible first | exact LeO.refl _ | exact LeO.none _ | refine LeO.ite ?_ ?_ | refine LeO.bind ?_ (fun _ => ?_) | apply ih0 | apply impl_Crc.mono | apply impl_PutNum.mono | apply impl_joined.mono) | apply ih0 | apply impl_Crc.mono | apply impl_PutNum.mono | apply impl_joined.mono | exact LeO.none _ | refine LeO.ite ?_ ?_ | refine LeO.bind ?_ (fun _ => ?_)
theorem impl_rootOf.mono : ∀ a0 k, LeO (impl_rootOf.f k a0) (impl_rootOf.f (k + 1) a0) := by
 intro a0 k; have ih0 := impl_rootOf.mono_l k
 unfold impl_rootOf.f
 repeat' first | (with_reducible first | exact LeO.refl _ | exact LeO.none _ | refine LeO.ite ?_ ?_ | refine LeO.bind ?_ (fun _ => ?_) | apply ih0 | apply impl_Crc.mono | apply impl_PutNum.mono | apply impl_joined.mono) | apply ih0 | apply impl_Crc.mono | apply impl_PutNum.mono | apply impl_joined.mono | exact LeO.none _ | refine LeO.ite ?_ ?_ | refine LeO.bind ?_ (fun _ => ?_)
set_option maxHeartbeats 8000000 in
set_option maxRecDepth 100000 in
theorem impl_rootOf.calls (k : Nat) (A0 : Option Addr) (c0 : Nat) (l0 : List Int) (r : Int) (w : World) (hr0 : Kd.C (Kd.int .i64) w A0 l0.length l0) (hc0 : l0.length ≤ c0) (h : impl_rootOf.f k l0 = some r) :
  Calls Try.prog 86 #[.slice A0 l0.length c0] w fun e w' => e = .returned (.int .i64 r) ∧ Below w.heap.size w w' := by
 have HR0 := zm hr0; have HC0 := zm hc0; clear hr0 hc0; have HB := zm (Below.refl w.heap.size w); have H : (impl_rootOf.l0 k (([] : List Int)) l0 (l0.length : Int) 0) = some r := h; clear h
 obtain ⟨y539, hy539⟩ : ∃ y_ : List Int, y_ = (([] : List Int)) := ⟨_, rfl⟩
 replace H : (impl_rootOf.l0 k y539 l0 (l0.length : Int) 0) = some r := by first | (rw [hy539]; with_reducible exact H) | (have H2_ := (Option.bind_some _ _).symm.trans H; rw [hy539]; with_reducible exact H2_) | (have H2_ := (Option.bind_some _ _).symm.trans H; with_reducible exact H2_) | with_reducible exact H | (rw [hy539]; exact H) | exact H
 have Ny539 := zm hy539; clear hy539
 have H' := zm H
 clear H; go_enter Try.func86, Try.ntmps86
 go_wp2_with (first | ((with_reducible refine gate_dst (N := 6) rfl ?_); refine Kd.R_lit (Kd.int .u8) _ 5 ?hg (N := 6) ?hd (xs := ([] : List Int)) (inner := []) (ok := fun _ => True) (okp := fun _ => True) ?hr ?hp (fun _ hk => hk) trivial (Below.refl _ _) (Nat.le_refl _) (by simp) ?_; (case hd => rfl); (case hg => rfl); (case hr => first | (go_simp; done) | (go_simp; rfl)); (case hp => exact (Reps.none _ _)); intro v540 w2 ho3 hb hg_ hnew_; clear hg_ hnew_; (first | rw [← Ny539.out] at ho3 | (simp only [Int.reduceToNat] at ho3; rw [← Ny539.out] at ho3)); have HO541 := zm (Kd.R_lower ho3 (below_size zB)); replace HB := zm (below_step zB hb); clear hb ho3))
 go_loopg [3, 9] k (fun kq v3 v9 w' => ∃ (x3_1 : List Int) (x9_1 : Int), v9 = .int .i64 x9_1 ∧ Aside0 (impl_rootOf.l0 kq x3_1 l0 (l0.length : Int) x9_1 = some r) ∧ Aside0 (kq ≤ k) ∧ Aside0 (Kd.R (Kd.int .u8) 5 w' w.heap.size (fun _ => True) v3 x3_1) ∧ Aside0 (Below w.heap.size w w'))
 case atStart => exact ⟨(y539), (0), zF, H', ⟨Nat.le_refl _⟩, ⟨zr HO541⟩, ⟨zB⟩⟩
 case round =>
  clear H'; obtain ⟨x3_1, x9_1, rfl, HA, HK1, HO_3, HB⟩ := hrel
  cases gk with
  | zero => exact absurd HA.out (by simp [impl_rootOf.l0])
  | succ k1 =>
   have H := HA.out; clear HA; simp only [impl_rootOf.l0] at H
   by_cases c4 : x9_1 < (l0.length : Int)
   ·rw [if_pos c4] at H; have c4b0 : decide (x9_1 < (l0.length : Int)) = true := decide_eq_true c4; clear c4
    by_cases c5 : 0 ≤ x9_1
    ·rw [if_pos c5] at H; have c5b0 : decide (0 ≤ x9_1) = true := decide_eq_true c5; clear c5
     by_cases c6 : x9_1 < (l0.length : Int)
     ·rw [if_pos c6] at H; have c6b0 : decide (x9_1 < (l0.length : Int)) = true := decide_eq_true c6; clear c6; replace H := Option.bind_eq_some_iff.mp H; obtain ⟨t543, A70, H⟩ := H; (try dsimp only at H); have A7 := zm A70; clear A70
      obtain ⟨y546, hy546⟩ : ∃ y_ : List (List Int), y_ = (([x3_1, t543] : List (List Int))) := ⟨_, rfl⟩
      replace H : ((impl_joined.f k1 y546).bind fun t549 => (impl_rootOf.l0 k1 t549 l0 (l0.length : Int) (wrap64 (x9_1 + 1)))) = some r := by first | (rw [hy546]; with_reducible exact H) | (have H2_ := (Option.bind_some _ _).symm.trans H; rw [hy546]; with_reducible exact H2_) | (have H2_ := (Option.bind_some _ _).symm.trans H; with_reducible exact H2_) | with_reducible exact H | (rw [hy546]; exact H) | exact H
      have Ny546 := zm hy546; clear hy546; replace H := Option.bind_eq_some_iff.mp H; obtain ⟨t549, A80, H⟩ := H; (try dsimp only at H); have A8 := zm A80; clear A80
      have H' := zm H
      clear H; have p542 : 0 ≤ (x9_1 : Int) := zd; have q542 : x9_1 < (l0.length : Int) := zd; obtain ⟨ad542, e542, hx542_0⟩ := Kd.at_int (Kd.C_below HR0.out HB.out) x9_1 p542 q542; cases e542; replace p542 := eq_true p542; replace q542 := eq_true q542
      go_wp2_with (first | (refine zg (some 15) #[.int .i64 (rd l0 x9_1)] Try.func54 ?_; (with_reducible refine (impl_PutNum.calls k1 (rd l0 x9_1) t543 _ A7.out).mono ?_); rintro e w9 ⟨v544, rfl, ho0, hb⟩; refine ⟨_, rfl, ?_⟩; have HO545 := zm (Kd.R_lower (Kd.R_new' ho0 (Kd.R_lt (zr HO_3))) (below_size zB)); replace HO_3 := zm (Kd.R_elder' (zr HO_3) (Kd.R_base ho0) hb); replace HB := zm (below_step zB hb); clear hb ho0; obtain ⟨Ao10, co10, eo10⟩ := Kd.R_slice HO_3.out; subst eo10; obtain ⟨Ao11, co11, eo11⟩ := Kd.R_slice HO545.out; subst eo11) | ((with_reducible refine gate_dst (N := 16) rfl ?_); refine Kd.N_lit (Kd.slice 5 (Kd.int .u8)) _ 27 ?hg (N' := 16) ?hd (xs := ([x3_1, t543] : List (List Int))) (inner := [.slice Ao10 x3_1.length co10, .slice Ao11 t543.length co11]) (ok := (fun _ => True)) (okp := (fun _ => True)) ?hr ?hp (fun _ hk => hk) ((show ∀ k_, w9.heap.size ≤ k_ → (fun _ => True) k_ from fun k_ hk => trivial) _ (Nat.le_refl _)) (Below.refl _ _) (Nat.le_refl _) (by simp) ?_; (case hd => rfl); (case hg => rfl); (case hr => first | (go_simp; done) | (go_simp; rfl)); (case hp => exact (Reps.one (show Kd.FK (Kd.slice 5 (Kd.int .u8)) _ _ x3_1 [.slice Ao10 x3_1.length co10] from (Kd.FK_slice_mk (Kd.R_reads' (Kd.R_mono (ok' := (fun _ => True)) (HO_3.out) (fun k_ hk => trivial))).2.1 (Kd.R_F (Kd.R_mono (ok' := (fun _ => True)) (HO_3.out) (fun k_ hk => trivial))))) (Reps.one (show Kd.FK (Kd.slice 5 (Kd.int .u8)) _ _ t543 [.slice Ao11 t543.length co11] from (Kd.FK_slice_mk (Kd.R_reads' (Kd.R_mono (ok' := (fun _ => True)) (HO545.out) (fun k_ hk => trivial))).2.1 (Kd.R_F (Kd.R_mono (ok' := (fun _ => True)) (HO545.out) (fun k_ hk => trivial))))) (Reps.none _ _)))); intro v547 w12 ho13 hb hg_ hnew_; clear hg_ hnew_; (first | rw [← Ny546.out] at ho13 | (simp only [Int.reduceToNat] at ho13; rw [← Ny546.out] at ho13)); have HO548 := zm (Kd.N_lower ho13 (below_size zB)); replace HB := zm (below_step zB hb); clear HO545 HO_3; clear hb ho13; obtain ⟨Ao14, co14, eo14⟩ := Kd.N_slice HO548.out; subst eo14) | (refine zg (some 17) #[.slice Ao14 y546.length co14] Try.func55 ?_; (with_reducible refine (impl_joined.calls k1 _ _ y546 t549 _ ?side1 ?side2 A8.out).mono ?_); (case side1 => repeat (first | exact (Kd.N_reads' HO548.out).2.2 | (with_reducible refine Kd.C_alloc ?_ _) | (with_reducible refine Kd.C_drewN ?_ _) | (with_reducible refine Kd.C_drew ?_))); (case side2 => exact (Kd.N_reads' HO548.out).2.1); rintro e w15 ⟨v550, rfl, ho0, hb⟩; refine ⟨_, rfl, ?_⟩; replace HO548 := zm (Kd.N_elder' (by (with_reducible repeat (first | apply Kd.N_alloc | apply Kd.N_drewN | apply Kd.N_drew)); exact HO548.out) (Kd.R_base ho0) hb); have HO551 := zm (Kd.R_lower ho0 (below_size zB)); replace HB := zm (below_step zB hb); clear hb ho0))
      go_roundg k1
      case measure => have := HK1.out; omega
      case rel => exact ⟨(t549), (wrap64 (x9_1 + 1)), zF, H', ⟨by have := HK1.out; omega⟩, ⟨zr HO551⟩, ⟨zB⟩⟩
     ·rw [if_neg c6] at H
      exact absurd H (by simp)
    ·rw [if_neg c5] at H
     exact absurd H (by simp)
   ·rw [if_neg c4] at H; have c4b0 : decide (x9_1 < (l0.length : Int)) = false := decide_eq_false c4; clear c4; replace H := Option.bind_eq_some_iff.mp H; obtain ⟨t552, A160, H⟩ := H; (try dsimp only at H); have A16 := zm A160; clear A160; obtain rfl := Option.some.inj H; obtain ⟨Ao17, co17, eo17⟩ := Kd.R_slice HO_3.out; subst eo17
    go_wp2_with (first | (refine zg (some 20) #[.slice Ao17 x3_1.length co17] Try.func65 ?_; (with_reducible refine (impl_Crc.calls k1 _ _ x3_1 t552 _ ?side1 ?side2 A16.out).mono ?_); (case side1 => repeat (first | exact (Kd.R_reads' HO_3.out).2.2 | (with_reducible refine Kd.C_alloc ?_ _) | (with_reducible refine Kd.C_drewN ?_ _) | (with_reducible refine Kd.C_drew ?_))); (case side2 => exact (Kd.R_reads' HO_3.out).2.1); rintro e w' ⟨rfl, ⟨nd, rfl⟩⟩; refine ⟨_, rfl, ?_⟩))
    go_ret
    exact ⟨zE, zB⟩

/-! ### impl_TreeOf: function 43 -/
def impl_TreeOf.l0 : Nat → Int → List (S68) → List (S72) → List Int → Int → Option (List Int × Int)
 | 0, _, _, _, _, _ => none
 | k + 1, x4, x554000, x554001, x556000, x556001 => if x4 < 4 then ((impl_LeafSum.f k x554000 x554001 x4).bind fun t557 => (if x556000.length < 17592186044416 then (impl_TreeOf.l0 k (wrap64 (x4 + 1)) x554000 x554001 (x556000 ++ [t557]) x556001) else (none))) else ((impl_rootOf.f k x556000).bind fun t561 => (some (x556000, t561)))
def impl_TreeOf.f (k : Nat) (l0_0 : List (S68)) (l0_1 : List (S72)) : Option (List Int × Int) := (impl_StateOk.f k l0_0 l0_1).bind fun t556 => (if t556 = true then (impl_TreeOf.l0 k 0 l0_0 l0_1 ([] : List Int) 0) else (some (([] : List Int), 0)))
theorem impl_TreeOf.mono_l : ∀ k, (∀ y0 y1 y2 y3 y4, LeO (impl_TreeOf.l0 k y0 y1 y2 y3 y4) (impl_TreeOf.l0 (k + 1) y0 y1 y2 y3 y4))
 | 0 => fun _ _ _ _ _ r h => by simp [impl_TreeOf.l0] at h
 | k + 1 => by
  have ih0 := impl_TreeOf.mono_l k
  ·intro y0 y1 y2 y3 y4
   unfold impl_TreeOf.l0
   repeat' first | (with_reducible first | exact LeO.refl _ | exact LeO.none _ | refine LeO.ite ?_ ?_ | refine LeO.bind ?_ (fun _ => ?_) | apply ih0 | apply impl_LeafSum.mono | apply impl_StateOk.mono | apply impl_rootOf.mono) | apply ih0 | apply impl_LeafSum.mono | apply impl_StateOk.mono | apply impl_rootOf.mono | exact LeO.none _ | refine LeO.ite ?_ ?_ | refine LeO.bind ?_ (fun _ => ?_)
theorem impl_TreeOf.mono : ∀ a0 a1 k, LeO (impl_TreeOf.f k a0 a1) (impl_TreeOf.f (k + 1) a0 a1) := by
 intro a0 a1 k; have ih0 := impl_TreeOf.mono_l k
 unfold impl_TreeOf.f
 repeat' first | (with_reducible first | exact LeO.refl _ | exact LeO.none _ | refine LeO.ite ?_ ?_ | refine LeO.bind ?_ (fun _ => ?_) | apply ih0 | apply impl_LeafSum.mono | apply impl_StateOk.mono | apply impl_rootOf.mono) | apply ih0 | apply impl_LeafSum.mono | apply impl_StateOk.mono | apply impl_rootOf.mono | exact LeO.none _ | refine LeO.ite ?_ ?_ | refine LeO.bind ?_ (fun _ => ?_)
def impl_TreeOf.T7 : Bool × List (List Nat × List Nat) := (true, [([], []), ([0], [0]), ([], []), ([], []), ([2, 3], [2, 3]), ([4], [4]), ([1, 5, 4], [1, 5]), ([0, 1, 2, 3, 4, 5, 6], []), ([7, 6, 6, 0, 1, 2, 3, 4, 5, 6], [6, 7])])
def impl_TreeOf.B7 : List Nat := [0, 1, 0, 0, 12, 28, 63, 127, 255]
theorem impl_TreeOf.tab7 : rtab .any (opsOf Try.f43 7) = impl_TreeOf.T7 := by kernel_rfl
theorem impl_TreeOf.bits7 : waitsOk impl_TreeOf.T7.2 impl_TreeOf.B7 = true := by kernel_rfl
set_option maxHeartbeats 8000000 in
set_option maxRecDepth 100000 in
theorem impl_TreeOf.calls (k : Nat) (A0_0 : Option Addr) (c0_0 : Nat) (l0_0 : List (S68)) (A0_1 : Option Addr) (c0_1 : Nat) (l0_1 : List (S72)) (r1 : List Int) (r2 : Int) (w : World) (hr0_0 : Kd.C k68 w A0_0 l0_0.length l0_0) (hc0_0 : l0_0.length ≤ c0_0) (hr0_1 : Kd.C k72 w A0_1 l0_1.length l0_1) (hc0_1 : l0_1.length ≤ c0_1) (h : impl_TreeOf.f k l0_0 l0_1 = some (r1, r2)) :
  Calls Try.prog 43 #[.agg #[.slice A0_0 l0_0.length c0_0, .slice A0_1 l0_1.length c0_1]] w fun e w' => ∃ v0_ : Value, e = .returned (.agg #[v0_, .int .i64 r2]) ∧ Kd.R (Kd.int .i64) 3 w' w.heap.size (fun _ => True) v0_ r1 ∧ Below w.heap.size w w' := by
 have hu32 := Try.underlying32; have hu55 := Try.underlying55; have HR0_0 := zm hr0_0; have HC0_0 := zm hc0_0; clear hr0_0 hc0_0; have HR0_1 := zm hr0_1; have HC0_1 := zm hc0_1; clear hr0_1 hc0_1; have HB := zm (Below.refl w.heap.size w); have H : ((impl_StateOk.f k l0_0 l0_1).bind fun t556 => (if t556 = true then (impl_TreeOf.l0 k 0 l0_0 l0_1 ([] : List Int) 0) else (some (([] : List Int), 0)))) = some (r1, r2) := h; clear h; replace H := Option.bind_eq_some_iff.mp H; obtain ⟨t556, A20, H⟩ := H; (try dsimp only at H); have A2 := zm A20; clear A20
 by_cases c3 : t556 = true
 ·subst c3; rw [if_pos rfl] at H
  have H' := zm H
  clear H; go_enter Try.func43, Try.ntmps43
  go_wp2_with (first | (refine zbox 1 #[.slice A0_0 l0_0.length c0_0, .slice A0_1 l0_1.length c0_1] 32 ?_; intro gb553 hg w4 hbox hb; have BK553 := zm (hbox); have GW553 := zge w hg zB; have GE553 := zge w hg zB; replace HB := zm (below_step zB hb); clear hb hbox hg) | (refine zbox 2 #[.slice none 0 0, .int .i64 0] 55 ?_; intro gb554 hg w5 hbox hb; have BK554 := zm (hbox); have GW554 := zge w hg zB; have GE554 := zge w hg zB; replace HB := zm (below_step zB hb); have NB553_554 := zlt hg (zb BK553); have NB554_553 := zgt hg (zb BK553); replace BK553 := zy BK553 hb; clear hb hbox hg) | (refine zbox 3 #[.slice none 0 0, .int .i64 0] 55 ?_; intro gb555 hg w6 hbox hb; have BK555 := zm (hbox); have GW555 := zge w hg zB; have GE555 := zge w hg zB; replace HB := zm (below_step zB hb); have NB553_555 := zlt hg (zb BK553); have NB555_553 := zgt hg (zb BK553); replace BK553 := zy BK553 hb; have NB554_555 := zlt hg (zb BK554); have NB555_554 := zgt hg (zb BK554); replace BK554 := zy BK554 hb; clear hb hbox hg; have hnb7 := NB555_553.out; have hnc7 := NB553_555.out; have hnb8 := NB555_554.out; have hnc8 := NB554_555.out; obtain ⟨hcz9_0, hcz9_1, hfz9_0, hfz9_1⟩ := zc2 BK555; have hnb10 := NB553_554.out; have hnc10 := NB554_553.out; obtain ⟨hcz11_0, hcz11_1, hfz11_0, hfz11_1⟩ := zc2 BK553) | (refine zg (some 7) #[.agg #[.slice A0_0 l0_0.length c0_0, .slice A0_1 l0_1.length c0_1]] Try.func53 ?_; (with_reducible refine (impl_StateOk.calls k _ _ l0_0 _ _ l0_1 true _ ?side1 HC0_0.out ?side3 HC0_1.out A2.out).mono ?_); (case side1 => exact Kd.C_below HR0_0.out zB); (case side3 => exact Kd.C_below HR0_1.out zB); rintro e w12 ⟨rfl, hb⟩; refine ⟨_, rfl, ?_⟩; replace BK553 := zyb hb (zfar (zfar (zb BK553) NB553_555) NB553_555); replace BK554 := zyb hb (zfar (zfar (zb BK554) NB554_555) NB554_555); replace BK555 := zm (blk_below (g := gb555) (o := .cells #[.slice none 0 0, .int .i64 0] 55 (0, 0)) (zput (zput (zb BK555) 0) 1) hb); replace HB := zm (below_step zB hb); clear hb))
  go_loopg [4] k (fun kq v4 w' => ∃ (x4_1 : Int) (x556000_1 : List Int) (u556000 : Value), v4 = .int .i64 x4_1 ∧ Aside0 (impl_TreeOf.l0 kq x4_1 l0_0 l0_1 x556000_1 0 = some (r1, r2)) ∧ Aside0 (kq ≤ k) ∧ Aside0 (Kd.R (Kd.int .i64) 3 w' w.heap.size (fun _ => True) u556000 x556000_1) ∧ Aside0 (w'.heap[gb553]? = some (.cells #[(.slice A0_0 l0_0.length c0_0), (.slice A0_1 l0_1.length c0_1)] 32 (0, 0))) ∧ Aside0 (w'.heap[gb554]? = some (.cells #[(.slice none 0 0), .int .i64 0] 55 (0, 0))) ∧ Aside0 (w'.heap[gb555]? = some (.cells #[u556000, .int .i64 0] 55 (0, 0))) ∧ Aside0 (Below w.heap.size w w'))
  case atStart => exact ⟨(0), (([] : List Int)), (.slice none 0 0), zF, H', ⟨Nat.le_refl _⟩, ⟨znil⟩, ⟨zb BK553⟩, ⟨zb BK554⟩, ⟨zb BK555⟩, ⟨zB⟩⟩
  case round =>
   clear H'; (try clear c3); (try clear hcz11_0); (try clear hcz11_1); (try clear hcz9_0); (try clear hcz9_1); (try clear hfz11_0); (try clear hfz11_1); (try clear hfz9_0); (try clear hfz9_1); obtain ⟨x4_1, x556000_1, u556000, rfl, HA, HK1, HO_556000, BK553, BK554, BK555, HB⟩ := hrel
   cases gk with
   | zero => exact absurd HA.out (by simp [impl_TreeOf.l0])
   | succ k1 =>
    have H := HA.out; clear HA; simp only [impl_TreeOf.l0] at H
    by_cases c13 : x4_1 < 4
    ·rw [if_pos c13] at H; have c13b0 : decide (x4_1 < 4) = true := decide_eq_true c13; clear c13; replace H := Option.bind_eq_some_iff.mp H; obtain ⟨t557, A140, H⟩ := H; (try dsimp only at H); have A14 := zm A140; clear A140
     by_cases c15 : x556000_1.length < 17592186044416
     ·rw [if_pos c15] at H; have LMc15 := zm c15; clear c15
      obtain ⟨y558, hy558⟩ : ∃ y_ : List Int, y_ = (x556000_1 ++ [t557]) := ⟨_, rfl⟩
      replace H : (impl_TreeOf.l0 k1 (wrap64 (x4_1 + 1)) l0_0 l0_1 y558 0) = some (r1, r2) := by first | (rw [hy558]; with_reducible exact H) | (have H2_ := (Option.bind_some _ _).symm.trans H; rw [hy558]; with_reducible exact H2_) | (have H2_ := (Option.bind_some _ _).symm.trans H; with_reducible exact H2_) | with_reducible exact H | (rw [hy558]; exact H) | exact H
      have Ny558 := zm hy558; clear hy558
      have H' := zm H
      clear H
      try go_wp2
      replace HO_556000 := zm (Kd.R_drew HO_556000.out); replace BK553 := zq BK553; replace BK554 := zq BK554; replace BK555 := zq BK555; replace HB := zm (below_drew1 HB.out)
      refine start_ (n := 9) (S := fun w' => w'.cell? ⟨gb555, 0, none⟩ = some (u556000) ∧ w'.cell? ⟨gb555, 1, none⟩ = some (.int .i64 0) ∧ w'.cell? ⟨gb553, 0, none⟩ = some (.slice A0_0 l0_0.length c0_0) ∧ w'.cell? ⟨gb553, 1, none⟩ = some (.slice A0_1 l0_1.length c0_1)) (ds := [8]) (zl 9 0) (by kernel_rfl) rfl rfl zS (fun hHeld => ?_); refine with_tabW impl_TreeOf.tab7 impl_TreeOf.bits7 (fun HT_ HW_ => ?_)
      generalize wr.drew = w16 at HO_556000 BK553 BK554 BK555 HB hHeld ⊢
      refine zu 0 14 9 1 ?_
      refine zu 3 17 9 9 ?_
      refine zv 1 15 9 11 ?_
      refine zv 2 16 9 15 ?_
      refine zo 4 (some 18) (zl 9 31) (fun K hK => ?_); refine zgo #[.agg #[.slice A0_0 l0_0.length c0_0, .slice A0_1 l0_1.length c0_1], .int .i64 x4_1] Try.func23 ?_; (with_reducible refine (impl_LeafSum.calls k1 _ _ l0_0 _ _ l0_1 x4_1 t557 _ (zk (Kd.C_below HR0_0.out HB.out)) HC0_0.out (zk (Kd.C_below HR0_1.out HB.out)) HC0_1.out A14.out).mono ?_); rintro e w17 ⟨rfl, hb⟩; refine ⟨_, rfl, ?_⟩; replace HO_556000 := zw HO_556000 hb; replace BK553 := zy BK553 hb; replace BK554 := zy BK554 hb; replace BK555 := zy BK555 hb; replace HB := zm (below_step zB hb); (try clear hb); refine hK.out _ _ zS (fun hHeld => ?_); clear hK K; refine zn ?_; refine zo 5 (some 19) (zl 9 63) (fun K hK => ?_)
      refine value_ (w1 := ?_) (v := ?_) (by rfl) rfl ?_ ?_
      rotate_left 2
      ·go_simp
       constructor
       ·rfl
       ·rfl
      refine hK.out _ _ ⟨(blk_cell (blk_alloc BK555.out _) 0).trans rfl, (blk_cell (blk_alloc BK555.out _) 1).trans rfl, (blk_cell (blk_alloc BK553.out _) 0).trans rfl, (blk_cell (blk_alloc BK553.out _) 1).trans rfl⟩ (fun hHeld => ?_); clear hK K; refine zn (N := some 19) ?_; refine zo 6 (some 20) (zl 9 127) (fun K hK => ?_)
      refine Kd.R_append_step (Kd.int .i64) (w0 := w) w.heap.size (by rfl) (.tmp 15) (.tmp 19) 46 3 (.int .i64 0) 8 rfl Try.underlying46 info3 rfl (by decide) (by omega) u556000 x556000_1 t557 [.int .i64 t557] (fun _ => True) (fun _ => False) rfl rfl ?aP (fun _ hk => hk.elim) ?aF ?aO ?aB ?aS ?aL ?_
      (case aP => exact rfl)
      (case aB => exact zB)
      (case aF => exact (fun _ _ => trivial))
      (case aO => exact (zr HO_556000))
      (case aS => exact (below_size zB))
      (case aL => have := LMc15.out; omega)
      intro v559 w18 ho hb hg hat; rw [← Ny558.out] at ho; replace BK553 := zgr hg (zb BK553) (Kd.R_ne HO_556000.out BK553.out (by decide)); replace BK554 := zgr hg (zb BK554) (Kd.R_ne HO_556000.out BK554.out (by decide)); replace BK555 := zgr hg (zb BK555) (Kd.R_ne HO_556000.out BK555.out (by decide)); replace HB := zm (hb); have HO560 := zm (ho); clear HO_556000; clear ho hb hg hat; obtain ⟨Ao19, co19, eo19⟩ := Kd.R_slice HO560.out
      (first | subst eo19 | (injection eo19 with f1_ f2_ f3_; have f4_ := f1_.symm; have f5_ := f3_.symm; clear f1_ f2_ f3_; subst f4_; subst f5_))
      refine hK.out _ _ zS (fun hHeld => ?_); clear hK K; refine zn (N := some 20) ?_
      refine zu 7 21 9 255 ?_
      refine last_ (i := 8) (N := none) #[true, true, true, true, true, true, true, true, true] rfl rfl (one_of HT_.out (by kernel_rfl)) (by decide) (fun K hK => ?_)
      have hs20 : w18.cell? ⟨gb555, 0, none⟩ = some (u556000) := (blk_cell BK555.out 0).trans rfl; have hfs20 := blk_frozen BK555.out 0; have hns20_0 := NB553_555.out; have hns20_1 := NB554_555.out; have hms20_0 := NB555_553.out; have hms20_1 := NB555_554.out
      refine skip_ (w1 := ?_) (by rfl) rfl ?_ ?_
      rotate_left
      ·go_simp
       rfl
      refine hK.out _ _ ?_; clear hK K
      refine done_ (done_of HT_.out (by kernel_rfl)) ?_
      try go_wp2
      go_roundg k1
      case measure => have := HK1.out; omega
      case rel => exact ⟨(wrap64 (x4_1 + 1)), (y558), (.slice Ao19 y558.length co19), zF, H', ⟨by have := HK1.out; omega⟩, ⟨zrs <| Kd.R_mono (zfr (Kd.R_types HO560.out BK555.out (by decide))) (fun _ hk => trivial)⟩, ⟨zfar (zb BK553) NB553_555⟩, ⟨zfar (zb BK554) NB554_555⟩, ⟨zput (zb BK555) 0⟩, ⟨zB⟩⟩
     ·rw [if_neg c15] at H
      exact absurd H (by simp)
    ·rw [if_neg c13] at H; have c13b0 : decide (x4_1 < 4) = false := decide_eq_false c13; clear c13; replace H := Option.bind_eq_some_iff.mp H; obtain ⟨t561, A210, H⟩ := H; (try dsimp only at H); have A21 := zm A210; clear A210; simp only [Option.some.injEq, Prod.mk.injEq] at H; obtain ⟨rfl, rfl⟩ := H; have hnb22 := NB555_553.out; have hnc22 := NB553_555.out; have hnb23 := NB555_554.out; have hnc23 := NB554_555.out; obtain ⟨hcz24_0, hcz24_1, hfz24_0, hfz24_1⟩ := zc2 BK555; obtain ⟨Ao25, co25, eo25⟩ := Kd.R_slice HO_556000.out; subst eo25
     go_wp2_with (first | (refine zg (some 24) #[.slice Ao25 x556000_1.length co25] Try.func86 ?_; (with_reducible refine (impl_rootOf.calls k1 _ _ x556000_1 t561 _ ?side1 ?side2 A21.out).mono ?_); (case side1 => repeat (first | exact (Kd.R_reads' HO_556000.out).2.2 | (with_reducible refine Kd.C_alloc ?_ _) | (with_reducible refine Kd.C_drewN ?_ _) | (with_reducible refine Kd.C_drew ?_))); (case side2 => exact (Kd.R_reads' HO_556000.out).2.1); rintro e w26 ⟨rfl, hb⟩; refine ⟨_, rfl, ?_⟩; replace HO_556000 := zw HO_556000 hb; replace BK553 := zy BK553 hb; replace BK554 := zy BK554 hb; replace BK555 := zy BK555 hb; replace HB := zm (below_step zB hb); clear hb; obtain ⟨hcz27_0, hcz27_1, hfz27_0, hfz27_1⟩ := zc2 BK555; have hnb28 := NB554_553.out; have hnc28 := NB553_554.out; obtain ⟨hcz29_0, hcz29_1, hfz29_0, hfz29_1⟩ := zc2 BK554))
     refine bodyPost_ret (results_cell_row rfl _ _ gb554 55 #[.slice Ao25 x556000_1.length co25, .int .i64 t561] (0, 0) _ rfl (zput (zput (zfar (zb BK554) NB554_555) 0) 1) Try.underlying55 rfl (by kernel_rfl)) rfl ?_
     exact ⟨_, zE, zrs <| Kd.R_mono (zfr (zfr (zfq (Kd.R_types (Kd.R_types HO_556000.out BK555.out (by decide)) BK554.out (by decide)) (fun _ hk => hk.1.2)))) (fun _ hk => trivial), zB⟩
 ·replace c3 := Bool.eq_false_iff.mpr c3; subst c3; rw [zff] at H; simp only [Option.some.injEq, Prod.mk.injEq] at H; obtain ⟨rfl, rfl⟩ := H; go_enter Try.func43, Try.ntmps43
  go_wp2_with (first | (refine zbox 1 #[.slice A0_0 l0_0.length c0_0, .slice A0_1 l0_1.length c0_1] 32 ?_; intro gb553 hg w30 hbox hb; have BK553 := zm (hbox); have GW553 := zge w hg zB; have GE553 := zge w hg zB; replace HB := zm (below_step zB hb); clear hb hbox hg) | (refine zbox 2 #[.slice none 0 0, .int .i64 0] 55 ?_; intro gb554 hg w31 hbox hb; have BK554 := zm (hbox); have GW554 := zge w hg zB; have GE554 := zge w hg zB; replace HB := zm (below_step zB hb); have NB553_554 := zlt hg (zb BK553); have NB554_553 := zgt hg (zb BK553); replace BK553 := zy BK553 hb; clear hb hbox hg) | (refine zbox 3 #[.slice none 0 0, .int .i64 0] 55 ?_; intro gb555 hg w32 hbox hb; have BK555 := zm (hbox); have GW555 := zge w hg zB; have GE555 := zge w hg zB; replace HB := zm (below_step zB hb); have NB553_555 := zlt hg (zb BK553); have NB555_553 := zgt hg (zb BK553); replace BK553 := zy BK553 hb; have NB554_555 := zlt hg (zb BK554); have NB555_554 := zgt hg (zb BK554); replace BK554 := zy BK554 hb; clear hb hbox hg; have hnb33 := NB555_553.out; have hnc33 := NB553_555.out; have hnb34 := NB555_554.out; have hnc34 := NB554_555.out; obtain ⟨hcz35_0, hcz35_1, hfz35_0, hfz35_1⟩ := zc2 BK555; have hnb36 := NB553_554.out; have hnc36 := NB554_553.out; obtain ⟨hcz37_0, hcz37_1, hfz37_0, hfz37_1⟩ := zc2 BK553) | (refine zg (some 7) #[.agg #[.slice A0_0 l0_0.length c0_0, .slice A0_1 l0_1.length c0_1]] Try.func53 ?_; (with_reducible refine (impl_StateOk.calls k _ _ l0_0 _ _ l0_1 false _ ?side1 HC0_0.out ?side3 HC0_1.out A2.out).mono ?_); (case side1 => exact Kd.C_below HR0_0.out zB); (case side3 => exact Kd.C_below HR0_1.out zB); rintro e w38 ⟨rfl, hb⟩; refine ⟨_, rfl, ?_⟩; replace BK553 := zyb hb (zfar (zfar (zb BK553) NB553_555) NB553_555); replace BK554 := zyb hb (zfar (zfar (zb BK554) NB554_555) NB554_555); replace BK555 := zm (blk_below (g := gb555) (o := .cells #[.slice none 0 0, .int .i64 0] 55 (0, 0)) (zput (zput (zb BK555) 0) 1) hb); replace HB := zm (below_step zB hb); clear hb; obtain ⟨hcz39_0, hcz39_1, hfz39_0, hfz39_1⟩ := zc2 BK555; obtain ⟨hcz40_0, hcz40_1, hfz40_0, hfz40_1⟩ := zc2 BK554))
  refine bodyPost_ret (results_cell_row rfl _ _ gb554 55 #[.slice none 0 0, .int .i64 0] (0, 0) _ rfl (zput (zput (zb BK554) 0) 1) Try.underlying55 rfl (by kernel_rfl)) rfl ?_
  exact ⟨_, zE, znil, zB⟩

/-! ### laws_eqIntS: function 38 -/
def laws_eqIntS.l0 : Nat → List Int → List Int → Int → Option (Bool)
 | 0, _, _, _ => none
 | k + 1, x0, x1, x5 => if x5 < (x0.length : Int) then (if 0 ≤ x5 then (if x5 < (x1.length : Int) then (if (rd x0 x5) = (rd x1 x5) then (laws_eqIntS.l0 k x0 x1 (wrap64 (x5 + 1))) else (some false)) else (none)) else (none)) else (some true)
def laws_eqIntS.f (k : Nat) (l0 : List Int) (l1 : List Int) : Option (Bool) := if (l0.length : Int) = (l1.length : Int) then (laws_eqIntS.l0 k l0 l1 0) else (some false)
theorem laws_eqIntS.mono_l : ∀ k, (∀ y0 y1 y2, LeO (laws_eqIntS.l0 k y0 y1 y2) (laws_eqIntS.l0 (k + 1) y0 y1 y2))
 | 0 => fun _ _ _ r h => by simp [laws_eqIntS.l0] at h
 | k + 1 => by
  have ih0 := laws_eqIntS.mono_l k
  ·intro y0 y1 y2
   unfold laws_eqIntS.l0
   repeat' first | (with_reducible first | exact LeO.refl _ | exact LeO.none _ | refine LeO.ite ?_ ?_ | refine LeO.bind ?_ (fun _ => ?_) | apply ih0) | apply ih0 | exact LeO.none _ | refine LeO.ite ?_ ?_ | refine LeO.bind ?_ (fun _ => ?_)
theorem laws_eqIntS.mono : ∀ a0 a1 k, LeO (laws_eqIntS.f k a0 a1) (laws_eqIntS.f (k + 1) a0 a1) := by
 intro a0 a1 k; have ih0 := laws_eqIntS.mono_l k
 unfold laws_eqIntS.f
 repeat' first | (with_reducible first | exact LeO.refl _ | exact LeO.none _ | refine LeO.ite ?_ ?_ | refine LeO.bind ?_ (fun _ => ?_) | apply ih0) | apply ih0 | exact LeO.none _ | refine LeO.ite ?_ ?_ | refine LeO.bind ?_ (fun _ => ?_)
set_option maxHeartbeats 8000000 in
set_option maxRecDepth 100000 in
theorem laws_eqIntS.calls (k : Nat) (A0 : Option Addr) (c0 : Nat) (l0 : List Int) (A1 : Option Addr) (c1 : Nat) (l1 : List Int) (r : Bool) (w : World) (hr0 : Kd.C (Kd.int .i64) w A0 l0.length l0) (hc0 : l0.length ≤ c0) (hr1 : Kd.C (Kd.int .i64) w A1 l1.length l1) (hc1 : l1.length ≤ c1) (h : laws_eqIntS.f k l0 l1 = some r) :
  Calls Try.prog 38 #[.slice A0 l0.length c0, .slice A1 l1.length c1] w fun e w' => e = .returned (.bool r) ∧ Drawn0 w w' := by
 have HR0 := zm hr0; have HC0 := zm hc0; clear hr0 hc0; have HR1 := zm hr1; have HC1 := zm hc1; clear hr1 hc1; have H : (if (l0.length : Int) = (l1.length : Int) then (laws_eqIntS.l0 k l0 l1 0) else (some false)) = some r := h; clear h
 by_cases c3 : (l0.length : Int) = (l1.length : Int)
 ·rw [if_pos c3] at H; have c3b0 : ((l0.length : Int) == (l1.length : Int)) = true := beq_iff_eq.mpr c3; have c3b1 : ((l0.length : Int) != (l1.length : Int)) = false := bne_eq_false_iff_eq.mpr c3
  have c3b2 : (l0.length == l1.length) = true := by first | simpa using c3 | (simp at c3 ⊢; omega)
  clear c3
  have H' := zm H
  clear H; go_enter Try.func38, Try.ntmps38
  go_wp2
  repeat (go_quiet (fail); try go_wp2)
  go_loopg [5] k (fun kq v5 w' => ∃ (x5_1 : Int), v5 = .int .i64 x5_1 ∧ Aside0 (laws_eqIntS.l0 kq l0 l1 x5_1 = some r) ∧ Aside0 (kq ≤ k) ∧ Drawn0 w w')
  case atStart => exact ⟨(0), zF, H', ⟨Nat.le_refl _⟩, zD⟩
  case round =>
   clear H'; (try clear c1); (try clear c3); (try clear c3b0); (try clear c3b1); (try clear c3b2); obtain ⟨x5_1, rfl, HA, HK1, ⟨m1, rfl⟩⟩ := hrel
   cases gk with
   | zero => exact absurd HA.out (by simp [laws_eqIntS.l0])
   | succ k1 =>
    have H := HA.out; clear HA; simp only [laws_eqIntS.l0] at H
    by_cases c4 : x5_1 < (l0.length : Int)
    ·rw [if_pos c4] at H; have c4b0 : decide (x5_1 < (l0.length : Int)) = true := decide_eq_true c4; clear c4
     by_cases c5 : 0 ≤ x5_1
     ·rw [if_pos c5] at H; have c5b0 : decide (0 ≤ x5_1) = true := decide_eq_true c5; clear c5
      by_cases c6 : x5_1 < (l1.length : Int)
      ·rw [if_pos c6] at H; have c6b0 : decide (x5_1 < (l1.length : Int)) = true := decide_eq_true c6; clear c6
       by_cases c7 : (rd l0 x5_1) = (rd l1 x5_1)
       ·rw [if_pos c7] at H; have c7b0 : ((rd l0 x5_1) == (rd l1 x5_1)) = true := beq_iff_eq.mpr c7; have c7b1 : ((rd l0 x5_1) != (rd l1 x5_1)) = false := bne_eq_false_iff_eq.mpr c7; clear c7
        have H' := zm H
        clear H; have p562 : 0 ≤ (x5_1 : Int) := zd; have q562 : x5_1 < (l0.length : Int) := zd; obtain ⟨ad562, e562, hx562_0⟩ := Kd.at_int HR0.out x5_1 p562 q562; cases e562; replace p562 := eq_true p562; replace q562 := eq_true q562; have p563 : 0 ≤ (x5_1 : Int) := zd; have q563 : x5_1 < (l1.length : Int) := zd; obtain ⟨ad563, e563, hx563_0⟩ := Kd.at_int HR1.out x5_1 p563 q563; cases e563; replace p563 := eq_true p563; replace q563 := eq_true q563
        go_wp2
        repeat (go_quiet (fail); try go_wp2)
        go_roundg k1
        case measure => have := HK1.out; omega
        case rel => exact ⟨(wrap64 (x5_1 + 1)), zF, H', ⟨by have := HK1.out; omega⟩, zD⟩
       ·rw [if_neg c7] at H; have c7b0 : ((rd l0 x5_1) == (rd l1 x5_1)) = false := beq_eq_false_iff_ne.mpr c7; have c7b1 : ((rd l0 x5_1) != (rd l1 x5_1)) = true := bne_iff_ne.mpr c7; obtain rfl := Option.some.inj H; have p562 : 0 ≤ (x5_1 : Int) := zd; have q562 : x5_1 < (l0.length : Int) := zd; obtain ⟨ad562, e562, hx562_0⟩ := Kd.at_int HR0.out x5_1 p562 q562; cases e562; replace p562 := eq_true p562; replace q562 := eq_true q562; have p563 : 0 ≤ (x5_1 : Int) := zd; have q563 : x5_1 < (l1.length : Int) := zd; obtain ⟨ad563, e563, hx563_0⟩ := Kd.at_int HR1.out x5_1 p563 q563; cases e563; replace p563 := eq_true p563; replace q563 := eq_true q563
        go_wp2
        repeat (go_quiet (fail); try go_wp2)
        go_ret
        exact ⟨zF, zD⟩
      ·rw [if_neg c6] at H
       exact absurd H (by simp)
     ·rw [if_neg c5] at H
      exact absurd H (by simp)
    ·rw [if_neg c4] at H; have c4b0 : decide (x5_1 < (l0.length : Int)) = false := decide_eq_false c4; clear c4; obtain rfl := Option.some.inj H
     go_wp2
     repeat (go_quiet (fail); try go_wp2)
     go_ret
     exact ⟨zF, zD⟩
 ·rw [if_neg c3] at H; have c3b0 : ((l0.length : Int) == (l1.length : Int)) = false := beq_eq_false_iff_ne.mpr c3; have c3b1 : ((l0.length : Int) != (l1.length : Int)) = true := bne_iff_ne.mpr c3
  have c3b2 : (l0.length == l1.length) = false := by first | simpa using c3 | (simp at c3 ⊢; omega)
  obtain rfl := Option.some.inj H; go_enter Try.func38, Try.ntmps38
  go_wp2
  repeat (go_quiet (fail); try go_wp2)
  go_ret
  exact ⟨zF, zD⟩

/-! ### laws_eqTree: function 44 -/
def laws_eqTree.f (k : Nat) (l0_0 : List Int) (a0_1 : Int) (l1_0 : List Int) (a1_1 : Int) : Option (Bool) := (laws_eqIntS.f k l0_0 l1_0).bind fun t566 => (if t566 = true then (if a0_1 = a1_1 then (some true) else (some false)) else (some false))
theorem laws_eqTree.mono : ∀ a0 a1 a2 a3 k, LeO (laws_eqTree.f k a0 a1 a2 a3) (laws_eqTree.f (k + 1) a0 a1 a2 a3) := by
 intro a0 a1 a2 a3 k
 unfold laws_eqTree.f
 repeat' first | (with_reducible first | exact LeO.refl _ | exact LeO.none _ | refine LeO.ite ?_ ?_ | refine LeO.bind ?_ (fun _ => ?_) | apply laws_eqIntS.mono) | apply laws_eqIntS.mono | exact LeO.none _ | refine LeO.ite ?_ ?_ | refine LeO.bind ?_ (fun _ => ?_)
set_option maxHeartbeats 8000000 in
set_option maxRecDepth 100000 in
theorem laws_eqTree.calls (k : Nat) (A0_0 : Option Addr) (c0_0 : Nat) (l0_0 : List Int) (a0_1 : Int) (A1_0 : Option Addr) (c1_0 : Nat) (l1_0 : List Int) (a1_1 : Int) (r : Bool) (w : World) (hr0_0 : Kd.C (Kd.int .i64) w A0_0 l0_0.length l0_0) (hc0_0 : l0_0.length ≤ c0_0) (hr1_0 : Kd.C (Kd.int .i64) w A1_0 l1_0.length l1_0) (hc1_0 : l1_0.length ≤ c1_0) (h : laws_eqTree.f k l0_0 a0_1 l1_0 a1_1 = some r) :
  Calls Try.prog 44 #[.agg #[.slice A0_0 l0_0.length c0_0, .int .i64 a0_1], .agg #[.slice A1_0 l1_0.length c1_0, .int .i64 a1_1]] w fun e w' => e = .returned (.bool r) ∧ Below w.heap.size w w' := by
 have hu55 := Try.underlying55; have HR0_0 := zm hr0_0; have HC0_0 := zm hc0_0; clear hr0_0 hc0_0; have HR1_0 := zm hr1_0; have HC1_0 := zm hc1_0; clear hr1_0 hc1_0; have HB := zm (Below.refl w.heap.size w); have H : ((laws_eqIntS.f k l0_0 l1_0).bind fun t566 => (if t566 = true then (if a0_1 = a1_1 then (some true) else (some false)) else (some false))) = some r := h; clear h; replace H := Option.bind_eq_some_iff.mp H; obtain ⟨t566, A30, H⟩ := H; (try dsimp only at H); have A3 := zm A30; clear A30
 by_cases c4 : t566 = true
 ·subst c4; rw [if_pos rfl] at H
  by_cases c5 : a0_1 = a1_1
  ·rw [if_pos c5] at H; have c5b0 : (a0_1 == a1_1) = true := beq_iff_eq.mpr c5; have c5b1 : (a0_1 != a1_1) = false := bne_eq_false_iff_eq.mpr c5; clear c5; obtain rfl := Option.some.inj H; go_enter Try.func44, Try.ntmps44
   go_wp2_with (first | (refine zbox 2 #[.slice A0_0 l0_0.length c0_0, .int .i64 a0_1] 55 ?_; intro gb564 hg w6 hbox hb; have BK564 := zm (hbox); have GW564 := zge w hg zB; have GE564 := zge w hg zB; replace HB := zm (below_step zB hb); clear hb hbox hg) | (refine zbox 3 #[.slice A1_0 l1_0.length c1_0, .int .i64 a1_1] 55 ?_; intro gb565 hg w7 hbox hb; have BK565 := zm (hbox); have GW565 := zge w hg zB; have GE565 := zge w hg zB; replace HB := zm (below_step zB hb); have NB564_565 := zlt hg (zb BK564); have NB565_564 := zgt hg (zb BK564); replace BK564 := zy BK564 hb; clear hb hbox hg; have hnb8 := NB564_565.out; have hnc8 := NB565_564.out; obtain ⟨hcz9_0, hcz9_1, hfz9_0, hfz9_1⟩ := zc2 BK564; obtain ⟨hcz10_0, hcz10_1, hfz10_0, hfz10_1⟩ := zc2 BK565) | (refine zg (some 9) #[.slice A0_0 l0_0.length c0_0, .slice A1_0 l1_0.length c1_0] Try.func38 ?_; (with_reducible refine (laws_eqIntS.calls k _ _ l0_0 _ _ l1_0 true _ (zk (Kd.C_below HR0_0.out HB.out)) HC0_0.out (zk (Kd.C_below HR1_0.out HB.out)) HC1_0.out A3.out).mono ?_); rintro e w' ⟨rfl, ⟨nd, rfl⟩⟩; refine ⟨_, rfl, ?_⟩))
   go_ret
   exact ⟨zE, zB⟩
  ·rw [if_neg c5] at H; have c5b0 : (a0_1 == a1_1) = false := beq_eq_false_iff_ne.mpr c5; have c5b1 : (a0_1 != a1_1) = true := bne_iff_ne.mpr c5; obtain rfl := Option.some.inj H; go_enter Try.func44, Try.ntmps44
   go_wp2_with (first | (refine zbox 2 #[.slice A0_0 l0_0.length c0_0, .int .i64 a0_1] 55 ?_; intro gb564 hg w11 hbox hb; have BK564 := zm (hbox); have GW564 := zge w hg zB; have GE564 := zge w hg zB; replace HB := zm (below_step zB hb); clear hb hbox hg) | (refine zbox 3 #[.slice A1_0 l1_0.length c1_0, .int .i64 a1_1] 55 ?_; intro gb565 hg w12 hbox hb; have BK565 := zm (hbox); have GW565 := zge w hg zB; have GE565 := zge w hg zB; replace HB := zm (below_step zB hb); have NB564_565 := zlt hg (zb BK564); have NB565_564 := zgt hg (zb BK564); replace BK564 := zy BK564 hb; clear hb hbox hg; have hnb13 := NB564_565.out; have hnc13 := NB565_564.out; obtain ⟨hcz14_0, hcz14_1, hfz14_0, hfz14_1⟩ := zc2 BK564; obtain ⟨hcz15_0, hcz15_1, hfz15_0, hfz15_1⟩ := zc2 BK565) | (refine zg (some 9) #[.slice A0_0 l0_0.length c0_0, .slice A1_0 l1_0.length c1_0] Try.func38 ?_; (with_reducible refine (laws_eqIntS.calls k _ _ l0_0 _ _ l1_0 true _ (zk (Kd.C_below HR0_0.out HB.out)) HC0_0.out (zk (Kd.C_below HR1_0.out HB.out)) HC1_0.out A3.out).mono ?_); rintro e w' ⟨rfl, ⟨nd, rfl⟩⟩; refine ⟨_, rfl, ?_⟩))
   go_ret
   exact ⟨zE, zB⟩
 ·replace c4 := Bool.eq_false_iff.mpr c4; subst c4; rw [zff] at H; obtain rfl := Option.some.inj H; go_enter Try.func44, Try.ntmps44
  go_wp2_with (first | (refine zbox 2 #[.slice A0_0 l0_0.length c0_0, .int .i64 a0_1] 55 ?_; intro gb564 hg w16 hbox hb; have BK564 := zm (hbox); have GW564 := zge w hg zB; have GE564 := zge w hg zB; replace HB := zm (below_step zB hb); clear hb hbox hg) | (refine zbox 3 #[.slice A1_0 l1_0.length c1_0, .int .i64 a1_1] 55 ?_; intro gb565 hg w17 hbox hb; have BK565 := zm (hbox); have GW565 := zge w hg zB; have GE565 := zge w hg zB; replace HB := zm (below_step zB hb); have NB564_565 := zlt hg (zb BK564); have NB565_564 := zgt hg (zb BK564); replace BK564 := zy BK564 hb; clear hb hbox hg; have hnb18 := NB564_565.out; have hnc18 := NB565_564.out; obtain ⟨hcz19_0, hcz19_1, hfz19_0, hfz19_1⟩ := zc2 BK564; obtain ⟨hcz20_0, hcz20_1, hfz20_0, hfz20_1⟩ := zc2 BK565) | (refine zg (some 9) #[.slice A0_0 l0_0.length c0_0, .slice A1_0 l1_0.length c1_0] Try.func38 ?_; (with_reducible refine (laws_eqIntS.calls k _ _ l0_0 _ _ l1_0 false _ (zk (Kd.C_below HR0_0.out HB.out)) HC0_0.out (zk (Kd.C_below HR1_0.out HB.out)) HC1_0.out A3.out).mono ?_); rintro e w' ⟨rfl, ⟨nd, rfl⟩⟩; refine ⟨_, rfl, ?_⟩))
  go_ret
  exact ⟨zE, zB⟩

/-! ### laws_markIntS: function 39 -/
def laws_markIntS.l0 : Nat → List Int → Int → Int → Option (Int × List Int)
 | 0, _, _, _ => none
 | k + 1, x0, x1, x5 => if x5 < (x0.length : Int) then (if 0 ≤ x5 then (laws_markIntS.l0 k (x0.set (x5 : Int).toNat x1) (wrap64 (x1 + 1)) (wrap64 (x5 + 1))) else (none)) else (some (x1, x0))
def laws_markIntS.f (k : Nat) (l0 : List Int) (a1 : Int) : Option (Int × List Int) := laws_markIntS.l0 k l0 a1 0
theorem laws_markIntS.mono_l : ∀ k, (∀ y0 y1 y2, LeO (laws_markIntS.l0 k y0 y1 y2) (laws_markIntS.l0 (k + 1) y0 y1 y2))
 | 0 => fun _ _ _ r h => by simp [laws_markIntS.l0] at h
 | k + 1 => by
  have ih0 := laws_markIntS.mono_l k
  ·intro y0 y1 y2
   unfold laws_markIntS.l0
   repeat' first | (with_reducible first | exact LeO.refl _ | exact LeO.none _ | refine LeO.ite ?_ ?_ | refine LeO.bind ?_ (fun _ => ?_) | apply ih0) | apply ih0 | exact LeO.none _ | refine LeO.ite ?_ ?_ | refine LeO.bind ?_ (fun _ => ?_)
theorem laws_markIntS.mono : ∀ a0 a1 k, LeO (laws_markIntS.f k a0 a1) (laws_markIntS.f (k + 1) a0 a1) := by
 intro a0 a1 k; have ih0 := laws_markIntS.mono_l k
 unfold laws_markIntS.f
 repeat' first | (with_reducible first | exact LeO.refl _ | exact LeO.none _ | refine LeO.ite ?_ ?_ | refine LeO.bind ?_ (fun _ => ?_) | apply ih0) | apply ih0 | exact LeO.none _ | refine LeO.ite ?_ ?_ | refine LeO.bind ?_ (fun _ => ?_)
set_option maxHeartbeats 8000000 in
set_option maxRecDepth 100000 in
theorem laws_markIntS.calls (k : Nat) (P0_ : Nat → Prop) (u9000_ : Value) (l0 : List Int) (a1 : Int) (r1 : Int) (r2 : List Int) (w0 w : World) (hB : Below w0.heap.size w0 w) (ho0 : Kd.R (Kd.int .i64) 3 w w0.heap.size P0_ u9000_ l0) (h : laws_markIntS.f k l0 a1 = some (r1, r2)) :
  Calls Try.prog 39 #[u9000_, .int .i64 a1] w fun e w' => e = .returned (.int .i64 r1) ∧ Kd.R (Kd.int .i64) 3 w' w0.heap.size (fun k_ => (P0_ k_ ∨ w.heap.size ≤ k_)) u9000_ r2 ∧ Below w0.heap.size w0 w' ∧ Kept w w' (fun k_ => P0_ k_) := by
 have HO0 := zm (show Kd.R (Kd.int .i64) 3 w w0.heap.size (fun k_ => (P0_ k_ ∨ w.heap.size ≤ k_)) u9000_ l0 from Kd.R_mono ho0 (fun k_ hk => (.inl hk))); have HK := zm (Kept.refl w (fun k_ => P0_ k_)); have HW0 := zm hB.size; have HB := zm hB; clear hB; have H : (laws_markIntS.l0 k l0 a1 0) = some (r1, r2) := h; clear h
 have H' := zm H
 clear H; go_enter Try.func39, Try.ntmps39
 go_wp2
 go_loopg [1, 5] k (fun kq v1 v5 w' => ∃ (x0_1 : List Int) (x1_1 : Int) (x5_1 : Int), v1 = .int .i64 x1_1 ∧ v5 = .int .i64 x5_1 ∧ Aside0 (laws_markIntS.l0 kq x0_1 x1_1 x5_1 = some (r1, r2)) ∧ Aside0 (kq ≤ k) ∧ Aside0 (Kd.R (Kd.int .i64) 3 w' w0.heap.size (fun k_ => (P0_ k_ ∨ w.heap.size ≤ k_)) u9000_ x0_1) ∧ Aside0 (Kept w w' (fun k_ => P0_ k_)) ∧ Aside0 (Below w0.heap.size w0 w'))
 case atStart => exact ⟨(l0), (a1), (0), zF, zF, H', ⟨Nat.le_refl _⟩, ⟨zr HO0⟩, ⟨by repeat (first | (with_reducible first | exact HK.out | apply Kept.alloc | apply Kept.drewN | apply Kept.drew) | exact HK.out)⟩, ⟨zB⟩⟩
 case round =>
  clear H'; obtain ⟨x0_1, x1_1, x5_1, rfl, rfl, HA, HK1, HO_0, HK, HB⟩ := hrel
  cases gk with
  | zero => exact absurd HA.out (by simp [laws_markIntS.l0])
  | succ k1 =>
   have H := HA.out; clear HA; simp only [laws_markIntS.l0] at H
   by_cases c3 : x5_1 < (x0_1.length : Int)
   ·rw [if_pos c3] at H; have c3b0 : decide (x5_1 < (x0_1.length : Int)) = true := decide_eq_true c3; clear c3
    by_cases c4 : 0 ≤ x5_1
    ·rw [if_pos c4] at H; have c4b0 : decide (0 ≤ x5_1) = true := decide_eq_true c4; clear c4
     obtain ⟨y567, hy567⟩ : ∃ y_ : List Int, y_ = (x0_1.set (x5_1 : Int).toNat x1_1) := ⟨_, rfl⟩
     replace H : (laws_markIntS.l0 k1 y567 (wrap64 (x1_1 + 1)) (wrap64 (x5_1 + 1))) = some (r1, r2) := by first | (rw [hy567]; with_reducible exact H) | (have H2_ := (Option.bind_some _ _).symm.trans H; rw [hy567]; with_reducible exact H2_) | (have H2_ := (Option.bind_some _ _).symm.trans H; with_reducible exact H2_) | with_reducible exact H | (rw [hy567]; exact H) | exact H
     have Ny567 := zm hy567; clear hy567
     have H' := zm H
     clear H; obtain ⟨Ao6, co6, eo6⟩ := Kd.R_slice HO_0.out; subst eo6; have p5 : 0 ≤ (x5_1 : Int) := zd; have q5 : (x5_1 : Int) < ((x0_1.length : Int) : Int) := zd; obtain ⟨go5, co5, eo5, gb5, gl5, cl5, HG5⟩ := Kd.R_form HO_0.out (by omega)
     (first | cases eo5 | (injection eo5 with ea_ en_ ec_; (first | subst ea_ | (injection ea_ with ea_; subst ea_)); subst ec_; clear en_))
     have GB5 := zm gb5; have GG5 := zm HG5; clear gb5 gl5 HG5; have HMgo5 := zm (show (P0_ go5 ∨ w.heap.size ≤ go5) from (HO_0.out.1 _ rfl)); obtain ⟨hx5_0, hf5_0⟩ := Kd.R_celln 0 HO_0.out (x5_1 : Int) p5 q5; replace p5 := eq_true p5; replace q5 := eq_true q5; have HP7 := Kd.R_putg HO_0.out (x5_1 : Int) x1_1
     go_wp2_with (first | ((with_reducible refine gate_store (t := 3) (p := 15) rfl ?_); refine store_event (t := 3) (p := 15) (v := ?vo_w8) (w1 := (wr.setCell ⟨go5, (x5_1 : Int).toNat, none⟩ (.int .i64 x1_1))) ?hg ?ho ?hn ?hr ?_; (case ho => rfl); (case hg => rfl); (case hn => rfl); (case hr => first | (go_simp; done) | (go_simp; rfl)); intro w8 hw; have hg : wr.grownBy w8 (some go5) := (by rw [hw]; exact HP7.2); have hp_ : Kd.R (Kd.int .i64) 3 w8 w0.heap.size (fun k_ => (P0_ k_ ∨ w.heap.size ≤ k_)) (.slice (some ⟨go5, 0, none⟩) x0_1.length co6) y567 := (by rw [hw, Ny567.out]; exact HP7.1); clear HP7; replace HB := zm ((by rw [hw]; exact below_set (HB.out) GB5.out : Below w0.heap.size w0 w8)); replace HK := zm (Kept.of_grown (S := (fun k_ => P0_ k_)) hg (by repeat (first | (with_reducible first | exact HK.out | apply Kept.alloc | apply Kept.drewN | apply Kept.drew) | exact HK.out)) (fun k_ e_ => (HO_0.out.1 k_ e_))); replace HO_0 := zm (hp_); clear hg hw hp_))
     go_roundg k1
     case measure => have := HK1.out; omega
     case rel => exact ⟨(y567), (wrap64 (x1_1 + 1)), (wrap64 (x5_1 + 1)), zF, zF, H', ⟨by have := HK1.out; omega⟩, ⟨zr HO_0⟩, ⟨by repeat (first | (with_reducible first | exact HK.out | apply Kept.alloc | apply Kept.drewN | apply Kept.drew) | exact HK.out)⟩, ⟨zB⟩⟩
    ·rw [if_neg c4] at H
     exact absurd H (by simp)
   ·rw [if_neg c3] at H; have c3b0 : decide (x5_1 < (x0_1.length : Int)) = false := decide_eq_false c3; clear c3; simp only [Option.some.injEq, Prod.mk.injEq] at H; obtain ⟨rfl, rfl⟩ := H; obtain ⟨Ao9, co9, eo9⟩ := Kd.R_slice HO_0.out; subst eo9
    go_wp2
    go_ret
    exact ⟨zE, zr HO_0, zB, by repeat (first | (with_reducible first | exact HK.out | apply Kept.alloc | apply Kept.drewN | apply Kept.drew) | exact HK.out)⟩

/-! ### laws_markTree: function 45 -/
def laws_markTree.f (k : Nat) (l0_0 : List Int) (a0_1 : Int) (a1 : Int) : Option (Int × List Int) := (laws_markIntS.f k l0_0 a1).bind fun bt569 => (some (bt569.1, bt569.2))
theorem laws_markTree.mono : ∀ a0 a1 a2 k, LeO (laws_markTree.f k a0 a1 a2) (laws_markTree.f (k + 1) a0 a1 a2) := by
 intro a0 a1 a2 k
 unfold laws_markTree.f
 repeat' first | (with_reducible first | exact LeO.refl _ | exact LeO.none _ | refine LeO.ite ?_ ?_ | refine LeO.bind ?_ (fun _ => ?_) | apply laws_markIntS.mono) | apply laws_markIntS.mono | exact LeO.none _ | refine LeO.ite ?_ ?_ | refine LeO.bind ?_ (fun _ => ?_)
set_option maxHeartbeats 8000000 in
set_option maxRecDepth 100000 in
theorem laws_markTree.calls (k : Nat) (P0_0_ : Nat → Prop) (u9000_ : Value) (l0_0 : List Int) (a0_1 : Int) (a1 : Int) (r1 : Int) (r2 : List Int) (w0 w : World) (hB : Below w0.heap.size w0 w) (ho0_0 : Kd.R (Kd.int .i64) 3 w w0.heap.size P0_0_ u9000_ l0_0) (h : laws_markTree.f k l0_0 a0_1 a1 = some (r1, r2)) :
  Calls Try.prog 45 #[.agg #[u9000_, .int .i64 a0_1], .int .i64 a1] w fun e w' => e = .returned (.int .i64 r1) ∧ Kd.R (Kd.int .i64) 3 w' w0.heap.size (fun k_ => (P0_0_ k_ ∨ w.heap.size ≤ k_)) u9000_ r2 ∧ Below w0.heap.size w0 w' ∧ Kept w w' (fun k_ => P0_0_ k_) := by
 have hu55 := Try.underlying55; have HO0_0 := zm (show Kd.R (Kd.int .i64) 3 w w0.heap.size (fun k_ => (P0_0_ k_ ∨ w.heap.size ≤ k_)) u9000_ l0_0 from Kd.R_mono ho0_0 (fun k_ hk => (.inl hk))); have HK := zm (Kept.refl w (fun k_ => P0_0_ k_)); have HW0 := zm hB.size; have HB := zm hB; clear hB; have H : ((laws_markIntS.f k l0_0 a1).bind fun bt569 => (some (bt569.1, bt569.2))) = some (r1, r2) := h; clear h; replace H := Option.bind_eq_some_iff.mp H; obtain ⟨⟨t569, t570⟩, A30, H⟩ := H; (try dsimp only at H); have A3 := zm A30; clear A30; simp only [Option.some.injEq, Prod.mk.injEq] at H; obtain ⟨rfl, rfl⟩ := H; obtain ⟨Ao4, co4, eo4⟩ := Kd.R_slice HO0_0.out; subst eo4; go_enter Try.func45, Try.ntmps45
 go_wp2_with (first | (refine zbox 2 #[.slice Ao4 l0_0.length co4, .int .i64 a0_1] 55 ?_; intro gb568 hg w5 hbox hb; replace HO0_0 := zw HO0_0 hb; have BK568 := zm (hbox); have GW568 := zm ((by rw [hg]; exact (by first | exact HK.out.1 | exact (show Kept w _ (fun k_ => P0_0_ k_) from by repeat (first | (with_reducible first | exact HK.out | apply Kept.alloc | apply Kept.drewN | apply Kept.drew) | exact HK.out)).1) : w.heap.size ≤ gb568)); replace HK := zm (Kept.below (S := (fun k_ => P0_0_ k_)) (by repeat (first | (with_reducible first | exact HK.out | apply Kept.alloc | apply Kept.drewN | apply Kept.drew) | exact HK.out)) hb); have GE568 := zge w0 hg zB; replace HB := zm (below_step zB hb); clear hb hbox hg; obtain ⟨hcz6_0, hcz6_1, hfz6_0, hfz6_1⟩ := zc2 BK568) | (refine zg (some 8) #[.slice Ao4 l0_0.length co4, .int .i64 a1] Try.func39 ?_; (with_reducible refine (laws_markIntS.calls k (fun k_ => some k_ = (.slice Ao4 l0_0.length co4 : Value).ownBlock) (.slice Ao4 l0_0.length co4) l0_0 a1 t569 t570 w0 _ zB ?side2 A3.out).mono ?_); (case side2 => exact Kd.R_tight rfl HO0_0.out); rintro e w7 ⟨rfl, hy0, hb, hkp⟩; refine ⟨_, rfl, ?_⟩; replace BK568 := zm (blk_kept (zb BK568) hkp (fun hs_ => (fun e_ => (Kd.R_ne HO0_0.out BK568.out (by decide)) e_) hs_)); replace HK := zm (Kept.then_ (S := (fun k_ => P0_0_ k_)) (by repeat (first | (with_reducible first | exact HK.out | apply Kept.alloc | apply Kept.drewN | apply Kept.drew | refine Kept.setCell ?_ (.inr GW568.out) _) | exact HK.out)) hkp (fun k_ hs_ => (fun e_ => (HO0_0.out.1 k_ e_.symm)) hs_)); replace HO0_0 := zm (Kd.R_reok rfl hy0 (fun k_ e_ => HO0_0.out.1 k_ e_)); replace HB := zm (hb); clear hb hkp hy0))
 go_ret
 exact ⟨zE, zr HO0_0, zB, by repeat (first | (with_reducible first | exact HK.out | apply Kept.alloc | apply Kept.drewN | apply Kept.drew | refine Kept.setCell ?_ (.inr GW568.out) _) | exact HK.out)⟩

/-! ### laws_heldIntS: function 87 -/
def laws_heldIntS.l0 : Nat → List Int → Int → Int → Option (Int)
 | 0, _, _, _ => none
 | k + 1, x0, x1, x5 => if x5 < (x0.length : Int) then (if 0 ≤ x5 then (if (rd x0 x5) = x1 then (laws_heldIntS.l0 k x0 (wrap64 (x1 + 1)) (wrap64 (x5 + 1))) else (some (-1))) else (none)) else (some x1)
def laws_heldIntS.f (k : Nat) (l0 : List Int) (a1 : Int) : Option (Int) := laws_heldIntS.l0 k l0 a1 0
theorem laws_heldIntS.mono_l : ∀ k, (∀ y0 y1 y2, LeO (laws_heldIntS.l0 k y0 y1 y2) (laws_heldIntS.l0 (k + 1) y0 y1 y2))
 | 0 => fun _ _ _ r h => by simp [laws_heldIntS.l0] at h
 | k + 1 => by
  have ih0 := laws_heldIntS.mono_l k
  ·intro y0 y1 y2
   unfold laws_heldIntS.l0
   repeat' first | (with_reducible first | exact LeO.refl _ | exact LeO.none _ | refine LeO.ite ?_ ?_ | refine LeO.bind ?_ (fun _ => ?_) | apply ih0) | apply ih0 | exact LeO.none _ | refine LeO.ite ?_ ?_ | refine LeO.bind ?_ (fun _ => ?_)
theorem laws_heldIntS.mono : ∀ a0 a1 k, LeO (laws_heldIntS.f k a0 a1) (laws_heldIntS.f (k + 1) a0 a1) := by
 intro a0 a1 k; have ih0 := laws_heldIntS.mono_l k
 unfold laws_heldIntS.f
 repeat' first | (with_reducible first | exact LeO.refl _ | exact LeO.none _ | refine LeO.ite ?_ ?_ | refine LeO.bind ?_ (fun _ => ?_) | apply ih0) | apply ih0 | exact LeO.none _ | refine LeO.ite ?_ ?_ | refine LeO.bind ?_ (fun _ => ?_)
set_option maxHeartbeats 8000000 in
set_option maxRecDepth 100000 in
theorem laws_heldIntS.calls (k : Nat) (A0 : Option Addr) (c0 : Nat) (l0 : List Int) (a1 : Int) (r : Int) (w : World) (hr0 : Kd.C (Kd.int .i64) w A0 l0.length l0) (hc0 : l0.length ≤ c0) (h : laws_heldIntS.f k l0 a1 = some r) :
  Calls Try.prog 87 #[.slice A0 l0.length c0, .int .i64 a1] w fun e w' => e = .returned (.int .i64 r) ∧ Drawn0 w w' := by
 have HR0 := zm hr0; have HC0 := zm hc0; clear hr0 hc0; have H : (laws_heldIntS.l0 k l0 a1 0) = some r := h; clear h
 have H' := zm H
 clear H; go_enter Try.func87, Try.ntmps87
 go_wp2
 go_loopg [1, 5] k (fun kq v1 v5 w' => ∃ (x1_1 : Int) (x5_1 : Int), v1 = .int .i64 x1_1 ∧ v5 = .int .i64 x5_1 ∧ Aside0 (laws_heldIntS.l0 kq l0 x1_1 x5_1 = some r) ∧ Aside0 (kq ≤ k) ∧ Drawn0 w w')
 case atStart => exact ⟨(a1), (0), zF, zF, H', ⟨Nat.le_refl _⟩, zD⟩
 case round =>
  clear H'; obtain ⟨x1_1, x5_1, rfl, rfl, HA, HK1, ⟨m1, rfl⟩⟩ := hrel
  cases gk with
  | zero => exact absurd HA.out (by simp [laws_heldIntS.l0])
  | succ k1 =>
   have H := HA.out; clear HA; simp only [laws_heldIntS.l0] at H
   by_cases c3 : x5_1 < (l0.length : Int)
   ·rw [if_pos c3] at H; have c3b0 : decide (x5_1 < (l0.length : Int)) = true := decide_eq_true c3; clear c3
    by_cases c4 : 0 ≤ x5_1
    ·rw [if_pos c4] at H; have c4b0 : decide (0 ≤ x5_1) = true := decide_eq_true c4; clear c4
     by_cases c5 : (rd l0 x5_1) = x1_1
     ·rw [if_pos c5] at H; have c5b0 : ((rd l0 x5_1) == x1_1) = true := beq_iff_eq.mpr c5; have c5b1 : ((rd l0 x5_1) != x1_1) = false := bne_eq_false_iff_eq.mpr c5; clear c5
      have H' := zm H
      clear H; have p571 : 0 ≤ (x5_1 : Int) := zd; have q571 : x5_1 < (l0.length : Int) := zd; obtain ⟨ad571, e571, hx571_0⟩ := Kd.at_int HR0.out x5_1 p571 q571; cases e571; replace p571 := eq_true p571; replace q571 := eq_true q571
      go_wp2
      go_roundg k1
      case measure => have := HK1.out; omega
      case rel => exact ⟨(wrap64 (x1_1 + 1)), (wrap64 (x5_1 + 1)), zF, zF, H', ⟨by have := HK1.out; omega⟩, zD⟩
     ·rw [if_neg c5] at H; have c5b0 : ((rd l0 x5_1) == x1_1) = false := beq_eq_false_iff_ne.mpr c5; have c5b1 : ((rd l0 x5_1) != x1_1) = true := bne_iff_ne.mpr c5; obtain rfl := Option.some.inj H; have p571 : 0 ≤ (x5_1 : Int) := zd; have q571 : x5_1 < (l0.length : Int) := zd; obtain ⟨ad571, e571, hx571_0⟩ := Kd.at_int HR0.out x5_1 p571 q571; cases e571; replace p571 := eq_true p571; replace q571 := eq_true q571
      go_wp2
      go_ret
      exact ⟨zF, zD⟩
    ·rw [if_neg c4] at H
     exact absurd H (by simp)
   ·rw [if_neg c3] at H; have c3b0 : decide (x5_1 < (l0.length : Int)) = false := decide_eq_false c3; clear c3; obtain rfl := Option.some.inj H
    go_wp2
    go_ret
    exact ⟨zF, zD⟩

/-! ### laws_heldTree: function 46 -/
def laws_heldTree.f (k : Nat) (l0_0 : List Int) (a0_1 : Int) (a1 : Int) : Option (Int) := (laws_heldIntS.f k l0_0 a1).bind fun t573 => (if t573 < 0 then (some (-1)) else (some t573))
theorem laws_heldTree.mono : ∀ a0 a1 a2 k, LeO (laws_heldTree.f k a0 a1 a2) (laws_heldTree.f (k + 1) a0 a1 a2) := by
 intro a0 a1 a2 k
 unfold laws_heldTree.f
 repeat' first | (with_reducible first | exact LeO.refl _ | exact LeO.none _ | refine LeO.ite ?_ ?_ | refine LeO.bind ?_ (fun _ => ?_) | apply laws_heldIntS.mono) | apply laws_heldIntS.mono | exact LeO.none _ | refine LeO.ite ?_ ?_ | refine LeO.bind ?_ (fun _ => ?_)
set_option maxHeartbeats 8000000 in
set_option maxRecDepth 100000 in
theorem laws_heldTree.calls (k : Nat) (A0_0 : Option Addr) (c0_0 : Nat) (l0_0 : List Int) (a0_1 : Int) (a1 : Int) (r : Int) (w : World) (hr0_0 : Kd.C (Kd.int .i64) w A0_0 l0_0.length l0_0) (hc0_0 : l0_0.length ≤ c0_0) (h : laws_heldTree.f k l0_0 a0_1 a1 = some r) :
  Calls Try.prog 46 #[.agg #[.slice A0_0 l0_0.length c0_0, .int .i64 a0_1], .int .i64 a1] w fun e w' => e = .returned (.int .i64 r) ∧ Below w.heap.size w w' := by
 have hu55 := Try.underlying55; have HR0_0 := zm hr0_0; have HC0_0 := zm hc0_0; clear hr0_0 hc0_0; have HB := zm (Below.refl w.heap.size w); have H : ((laws_heldIntS.f k l0_0 a1).bind fun t573 => (if t573 < 0 then (some (-1)) else (some t573))) = some r := h; clear h; replace H := Option.bind_eq_some_iff.mp H; obtain ⟨t573, A30, H⟩ := H; (try dsimp only at H); have A3 := zm A30; clear A30
 by_cases c4 : t573 < 0
 ·rw [if_pos c4] at H; have c4b0 : decide (t573 < 0) = true := decide_eq_true c4; clear c4; obtain rfl := Option.some.inj H; go_enter Try.func46, Try.ntmps46
  go_wp2_with (first | (refine zbox 2 #[.slice A0_0 l0_0.length c0_0, .int .i64 a0_1] 55 ?_; intro gb572 hg w5 hbox hb; have BK572 := zm (hbox); have GW572 := zge w hg zB; have GE572 := zge w hg zB; replace HB := zm (below_step zB hb); clear hb hbox hg; obtain ⟨hcz6_0, hcz6_1, hfz6_0, hfz6_1⟩ := zc2 BK572) | (refine zg (some 8) #[.slice A0_0 l0_0.length c0_0, .int .i64 a1] Try.func87 ?_; (with_reducible refine (laws_heldIntS.calls k _ _ l0_0 a1 t573 _ (zk (Kd.C_below HR0_0.out HB.out)) HC0_0.out A3.out).mono ?_); rintro e w' ⟨rfl, ⟨nd, rfl⟩⟩; refine ⟨_, rfl, ?_⟩))
  go_ret
  exact ⟨zE, zB⟩
 ·rw [if_neg c4] at H; have c4b0 : decide (t573 < 0) = false := decide_eq_false c4; clear c4; obtain rfl := Option.some.inj H; go_enter Try.func46, Try.ntmps46
  go_wp2_with (first | (refine zbox 2 #[.slice A0_0 l0_0.length c0_0, .int .i64 a0_1] 55 ?_; intro gb572 hg w7 hbox hb; have BK572 := zm (hbox); have GW572 := zge w hg zB; have GE572 := zge w hg zB; replace HB := zm (below_step zB hb); clear hb hbox hg; obtain ⟨hcz8_0, hcz8_1, hfz8_0, hfz8_1⟩ := zc2 BK572) | (refine zg (some 8) #[.slice A0_0 l0_0.length c0_0, .int .i64 a1] Try.func87 ?_; (with_reducible refine (laws_heldIntS.calls k _ _ l0_0 a1 t573 _ (zk (Kd.C_below HR0_0.out HB.out)) HC0_0.out A3.out).mono ?_); rintro e w' ⟨rfl, ⟨nd, rfl⟩⟩; refine ⟨_, rfl, ?_⟩))
  go_ret
  exact ⟨zE, zB⟩

end Go.Proofs.Ytgapdegniepjiaa.P
