-- by a program of this session, for this seat
import Derived.Test.YtnmofppbijmhoaaZ
import Derived.Test.YtnmofppbijmhoaaP0
import Derived.Test.YtnmofppbijmhoaaPad
namespace Go.Proofs.Ytnmofppbijmhoaa.P
open Go.RowKit Go.Proofs.YtnmofppbijmhoaaW.PrintWords Go.Proofs.YtnmofppbijmhoaaW.PrintLast Go.Proofs.YtnmofppbijmhoaaW.PrintMore Go.Proofs.Ytnmofppbijmhoaa.Z
attribute [local go_sem] max2_int min2_int max_two min_two max_three min_three max_four min_four   -- for this text's walks alone
set_option linter.unusedVariables false
set_option linter.unusedSimpArgs false

/-! ### spec_l1New: function 73 -/
def spec_l1New.l0 : Nat → List Int → Int → Int → Option (List Int × Int × Int)
 | 0, _, _, _ => none
 | k + 1, x0, x3, x4 => if x4 < (x0.length : Int) then (if x4 < 4000 then (if 0 ≤ x4 then (spec_l1New.l0 k x0 (Go.bits .and .i64 (wrap64 ((wrap64 ((wrap64 (x3 * 131)) + (wrap64 (rd x0 x4)))) + 7)) 1073741823) (wrap64 (x4 + 1))) else (none)) else (some (x0, 0, x3))) else (some (x0, 0, x3))
def spec_l1New.f (k : Nat) (l0 : List Int) : Option (List Int × Int × Int) := spec_l1New.l0 k l0 (wrap64 (26583 + (l0.length : Int))) 0
theorem spec_l1New.mono_l : ∀ k, (∀ y0 y1 y2, LeO (spec_l1New.l0 k y0 y1 y2) (spec_l1New.l0 (k + 1) y0 y1 y2))
 | 0 => fun _ _ _ r h => by simp [spec_l1New.l0] at h
 | k + 1 => by
  have ih0 := spec_l1New.mono_l k
  ·intro y0 y1 y2
   unfold spec_l1New.l0
   repeat' first | (with_reducible first | exact LeO.refl _ | exact LeO.none _ | refine LeO.ite ?_ ?_ | refine LeO.bind ?_ (fun _ => ?_) | apply ih0) | apply ih0 | exact LeO.none _ | refine LeO.ite ?_ ?_ | refine LeO.bind ?_ (fun _ => ?_)
theorem spec_l1New.mono : ∀ a0 k, LeO (spec_l1New.f k a0) (spec_l1New.f (k + 1) a0) := by
 intro a0 k; have ih0 := spec_l1New.mono_l k
 unfold spec_l1New.f
 repeat' first | (with_reducible first | exact LeO.refl _ | exact LeO.none _ | refine LeO.ite ?_ ?_ | refine LeO.bind ?_ (fun _ => ?_) | apply ih0) | apply ih0 | exact LeO.none _ | refine LeO.ite ?_ ?_ | refine LeO.bind ?_ (fun _ => ?_)
set_option maxHeartbeats 8000000 in
set_option maxRecDepth 100000 in
theorem spec_l1New.calls (k : Nat) (A0 : Option Addr) (c0 : Nat) (l0 : List Int) (r1 : List Int) (r2 : Int) (r3 : Int) (w0 w : World) (hB : Below w0.heap.size w0 w) (hr0 : Kd.C (Kd.int .u8) w0 A0 l0.length l0) (hc0 : l0.length ≤ c0) (h : spec_l1New.f k l0 = some (r1, r2, r3)) :
  Calls Try.prog 73 #[.slice A0 l0.length c0] w fun e w' => ∃ g_ : Nat, e = .returned (.pointer (some ⟨g_, 0, none⟩)) ∧ IsS97 w0 w' g_ r1 r2 r3 ∧ Below w0.heap.size w0 w' ∧ Below w.heap.size w w' := by
 have hu97 := Try.underlying97; have HR0 := zm hr0; have AO := zm hc0; clear hr0 hc0; have HBW := zm (Below.refl w.heap.size w); have HW0 := zm hB.size; have HB := zm hB; clear hB; have H : (spec_l1New.l0 k l0 (wrap64 (26583 + (l0.length : Int))) 0) = some (r1, r2, r3) := h; clear h
 have H' := zm H
 clear H; go_enter Try.func73, Try.ntmps73
 go_wp2
 go_loopg [3, 4] k (fun kq v3 v4 w' => ∃ (AB : Int) (AA : Int), v3 = .int .i64 AB ∧ v4 = .int .i64 AA ∧ Aside0 (spec_l1New.l0 kq l0 AB AA = some (r1, r2, r3)) ∧ Aside0 (kq ≤ k) ∧ Aside0 (Below w0.heap.size w0 w') ∧ Aside0 (Below w.heap.size w w'))
 case atStart => exact ⟨(wrap64 (26583 + (l0.length : Int))), (0), zF, zF, H', ⟨Nat.le_refl _⟩, ⟨zB⟩, ⟨by repeat (first | (with_reducible first | exact HBW.out | apply below_alloc | apply pw_below_drewN | apply below_drew1) | exact HBW.out)⟩⟩
 case round =>
  clear H'; obtain ⟨AB, AA, rfl, rfl, HA, AK, HB, HBW⟩ := hrel
  cases gk with
  | zero => exact absurd HA.out (by simp [spec_l1New.l0])
  | succ k1 =>
   have H := HA.out; clear HA; simp only [spec_l1New.l0] at H
   by_cases c2 : AA < (l0.length : Int)
   ·rw [if_pos c2] at H; have AL : decide (AA < (l0.length : Int)) = true := decide_eq_true c2; clear c2
    by_cases c3 : AA < 4000
    ·rw [if_pos c3] at H; have AM : decide (AA < 4000) = true := decide_eq_true c3; clear c3
     by_cases c4 : 0 ≤ AA
     ·rw [if_pos c4] at H; have AN : decide (0 ≤ AA) = true := decide_eq_true c4; clear c4
      have H' := zm H
      clear H; have p358 : 0 ≤ (AA : Int) := zd; have q358 : AA < (l0.length : Int) := zd; obtain ⟨ad358, e358, hx358_0⟩ := Kd.at_int HR0.out AA p358 q358; cases e358; replace hx358_0 := pw_cell_below HB.out hx358_0; replace p358 := eq_true p358; replace q358 := eq_true q358
      go_wp2
      go_roundg k1
      case measure => have := AK.out; omega
      case rel => exact ⟨(Go.bits .and .i64 (wrap64 ((wrap64 ((wrap64 (AB * 131)) + (wrap64 (rd l0 AA)))) + 7)) 1073741823), (wrap64 (AA + 1)), zF, zF, H', ⟨by have := AK.out; omega⟩, ⟨zB⟩, ⟨by repeat (first | (with_reducible first | exact HBW.out | apply below_alloc | apply pw_below_drewN | apply below_drew1) | exact HBW.out)⟩⟩
     ·rw [if_neg c4] at H
      exact absurd H (by simp)
    ·rw [if_neg c3] at H; have AM : decide (AA < 4000) = false := decide_eq_false c3; clear c3; simp only [Option.some.injEq, Prod.mk.injEq] at H; obtain ⟨rfl, rfl, rfl⟩ := H
     go_wp2_with (first | ((with_reducible refine gate_dst (N := 31) rfl ?_); refine zbox 31 #[.slice A0 l0.length c0, .int .i64 0, .int .i64 AB] 97 ?_; intro AC hg w5 hbox hb; replace HB := zm (below_step zB hb); have AE := zm (hbox); have AI := zm ((by rw [hg]; exact (below_size (by repeat (first | (with_reducible first | exact HBW.out | apply below_alloc | apply pw_below_drewN | apply below_drew1) | exact HBW.out))) : w.heap.size ≤ AC)); have AG := zm ((Nat.le_trans HW0.out (by rw [hg]; exact (below_size (by repeat (first | (with_reducible first | exact HBW.out | apply below_alloc | apply pw_below_drewN | apply below_drew1) | exact HBW.out))) : w.heap.size ≤ AC) : w0.heap.size ≤ AC)); replace HBW := zm (below_step HBW.out hb); clear hb hbox hg))
     go_ret
     exact ⟨_, rfl, (show IsS97 w0 _ AC l0 0 AB from ⟨_, _, by (with_reducible repeat (first | refine blk_drewN ?_ _ | refine blk_drew ?_ | refine blk_alloc ?_ _)); exact AE.out, AG.out, HR0.out⟩), zB, by repeat (first | (with_reducible first | exact HBW.out | apply below_alloc | apply pw_below_drewN | apply below_drew1 | refine below_set ?_ AI.out) | exact HBW.out)⟩
   ·rw [if_neg c2] at H; have AL : decide (AA < (l0.length : Int)) = false := decide_eq_false c2; clear c2; simp only [Option.some.injEq, Prod.mk.injEq] at H; obtain ⟨rfl, rfl, rfl⟩ := H
    go_wp2_with (first | ((with_reducible refine gate_dst (N := 31) rfl ?_); refine zbox 31 #[.slice A0 l0.length c0, .int .i64 0, .int .i64 AB] 97 ?_; intro AD hg w6 hbox hb; replace HB := zm (below_step zB hb); have AF := zm (hbox); have AJ := zm ((by rw [hg]; exact (below_size (by repeat (first | (with_reducible first | exact HBW.out | apply below_alloc | apply pw_below_drewN | apply below_drew1) | exact HBW.out))) : w.heap.size ≤ AD)); have AH := zm ((Nat.le_trans HW0.out (by rw [hg]; exact (below_size (by repeat (first | (with_reducible first | exact HBW.out | apply below_alloc | apply pw_below_drewN | apply below_drew1) | exact HBW.out))) : w.heap.size ≤ AD) : w0.heap.size ≤ AD)); replace HBW := zm (below_step HBW.out hb); clear hb hbox hg))
    go_ret
    exact ⟨_, rfl, (show IsS97 w0 _ AD l0 0 AB from ⟨_, _, by (with_reducible repeat (first | refine blk_drewN ?_ _ | refine blk_drew ?_ | refine blk_alloc ?_ _)); exact AF.out, AH.out, HR0.out⟩), zB, by repeat (first | (with_reducible first | exact HBW.out | apply below_alloc | apply pw_below_drewN | apply below_drew1 | refine below_set ?_ AJ.out) | exact HBW.out)⟩

/-! ### impl_EntryOf: function 23 -/
def impl_EntryOf.l0 : Nat → Int → List (S44) → Int → Int → Option (Int × Int × Int × Int × ByteArray × Bool)
 | 0, _, _, _, _ => none
 | k + 1, x1, x9, x10, x11 => if x11 < x10 then (if 0 ≤ x11 then (if x11 < (x9.length : Int) then (if ((rd_T44 x9 x11).f0) = x1 then (some ((rd_T44 x9 x11).f1.f0, (rd_T44 x9 x11).f1.f1, (rd_T44 x9 x11).f1.f2, (rd_T44 x9 x11).f1.f3, (rd_T44 x9 x11).f1.f4, true)) else (impl_EntryOf.l0 k x1 x9 x10 (wrap64 (x11 + 1)))) else (none)) else (none)) else (some (0, 0, 0, 0, (⟨#[]⟩ : ByteArray), false))
def impl_EntryOf.f (k : Nat) (l0_0 : List (S44)) (l0_1 : List (S58)) (a1 : Int) : Option (Int × Int × Int × Int × ByteArray × Bool) := impl_EntryOf.l0 k a1 l0_0 (l0_0.length : Int) 0
theorem impl_EntryOf.mono_l : ∀ k, (∀ y0 y1 y2 y3, LeO (impl_EntryOf.l0 k y0 y1 y2 y3) (impl_EntryOf.l0 (k + 1) y0 y1 y2 y3))
 | 0 => fun _ _ _ _ r h => by simp [impl_EntryOf.l0] at h
 | k + 1 => by
  have ih0 := impl_EntryOf.mono_l k
  ·intro y0 y1 y2 y3
   unfold impl_EntryOf.l0
   repeat' first | (with_reducible first | exact LeO.refl _ | exact LeO.none _ | refine LeO.ite ?_ ?_ | refine LeO.bind ?_ (fun _ => ?_) | apply ih0) | apply ih0 | exact LeO.none _ | refine LeO.ite ?_ ?_ | refine LeO.bind ?_ (fun _ => ?_)
theorem impl_EntryOf.mono : ∀ a0 a1 a2 k, LeO (impl_EntryOf.f k a0 a1 a2) (impl_EntryOf.f (k + 1) a0 a1 a2) := by
 intro a0 a1 a2 k; have ih0 := impl_EntryOf.mono_l k
 unfold impl_EntryOf.f
 repeat' first | (with_reducible first | exact LeO.refl _ | exact LeO.none _ | refine LeO.ite ?_ ?_ | refine LeO.bind ?_ (fun _ => ?_) | apply ih0) | apply ih0 | exact LeO.none _ | refine LeO.ite ?_ ?_ | refine LeO.bind ?_ (fun _ => ?_)
set_option maxHeartbeats 8000000 in
set_option maxRecDepth 100000 in
theorem impl_EntryOf.calls (k : Nat) (A0_0 : Option Addr) (c0_0 : Nat) (l0_0 : List (S44)) (A0_1 : Option Addr) (c0_1 : Nat) (l0_1 : List (S58)) (a1 : Int) (r1 : Int) (r2 : Int) (r3 : Int) (r4 : Int) (r5 : ByteArray) (r6 : Bool) (w : World) (hr0_0 : Kd.C k44 w A0_0 l0_0.length l0_0) (hc0_0 : l0_0.length ≤ c0_0) (hr0_1 : Kd.C k58 w A0_1 l0_1.length l0_1) (hc0_1 : l0_1.length ≤ c0_1) (h : impl_EntryOf.f k l0_0 l0_1 a1 = some (r1, r2, r3, r4, r5, r6)) :
  Calls Try.prog 23 #[.agg #[.slice A0_0 l0_0.length c0_0, .slice A0_1 l0_1.length c0_1], .int .i64 a1] w fun e w' => e = .returned (.tuple #[.agg #[.int .i64 r1, .int .i64 r2, .int .i64 r3, .int .i64 r4, .string r5], .bool r6]) ∧ Below w.heap.size w w' := by
 have hu27 := Try.underlying27; have hu36 := Try.underlying36; have hu44 := Try.underlying44; have HR0_0 := zm hr0_0; have HC0_0 := zm hc0_0; clear hr0_0 hc0_0; have HR0_1 := zm hr0_1; have HC0_1 := zm hc0_1; clear hr0_1 hc0_1; have HB := zm (Below.refl w.heap.size w); have H : (impl_EntryOf.l0 k a1 l0_0 (l0_0.length : Int) 0) = some (r1, r2, r3, r4, r5, r6) := h; clear h
 have H' := zm H
 clear H; go_enter Try.func23, Try.ntmps23
 go_wp2_with (first | ((with_reducible refine gate_dst (N := 2) rfl ?_); refine zbox 2 #[.slice A0_0 l0_0.length c0_0, .slice A0_1 l0_1.length c0_1] 27 ?_; intro AZ hg w3 hbox hb; have AD := zm (hbox); have BU := zge w hg zB; have BS := zge w hg zB; replace HB := zm (below_step zB hb); clear hb hbox hg) | ((with_reducible refine gate_dst (N := 4) rfl ?_); refine zbox 4 #[.int .i64 0, .int .i64 0, .int .i64 0, .int .i64 0, .string (⟨#[]⟩ : ByteArray)] 36 ?_; intro AQ hg w4 hbox hb; have AE := zm (hbox); have BV := zge w hg zB; have BT := zge w hg zB; replace HB := zm (below_step zB hb); have AF := zlt hg (zb AD); have AG := zgt hg (zb AD); replace AD := zy AD hb; clear hb hbox hg; have Bk := AF.out; have Bl := AG.out; obtain ⟨AR, AS, AT, AU⟩ := zc2 AD))
 go_loopg [11] k (fun kq v11 w' => ∃ (AB : Int) (AJ : Int) (AK : Int) (AL : Int) (AM : Int) (AN : ByteArray), v11 = .int .i64 AB ∧ Aside0 (impl_EntryOf.l0 kq a1 l0_0 (l0_0.length : Int) AB = some (r1, r2, r3, r4, r5, r6)) ∧ Aside0 (kq ≤ k) ∧ Aside0 (w'.heap[AZ]? = some (.cells #[(.slice A0_0 l0_0.length c0_0), (.slice A0_1 l0_1.length c0_1)] 27 (0, 0))) ∧ Aside0 (w'.heap[AQ]? = some (.cells #[.int .i64 AJ, .int .i64 AK, .int .i64 AL, .int .i64 AM, .string AN] 36 (0, 0))) ∧ Aside0 (Below w.heap.size w w'))
 case atStart => exact ⟨(0), (0), (0), (0), (0), ((⟨#[]⟩ : ByteArray)), zF, H', ⟨Nat.le_refl _⟩, ⟨zb AD⟩, ⟨zb AE⟩, ⟨zB⟩⟩
 case round =>
  clear H'; (try clear AR); (try clear AS); (try clear AT); (try clear AU); obtain ⟨AB, AJ, AK, AL, AM, AN, rfl, HA, Ab, AD, AE, HB⟩ := hrel
  cases gk with
  | zero => exact absurd HA.out (by simp [impl_EntryOf.l0])
  | succ k1 =>
   have H := HA.out; clear HA; simp only [impl_EntryOf.l0] at H
   by_cases c7 : AB < (l0_0.length : Int)
   ·rw [if_pos c7] at H; have Ac : decide (AB < (l0_0.length : Int)) = true := decide_eq_true c7; clear c7
    by_cases c8 : 0 ≤ AB
    ·rw [if_pos c8] at H; have Bi : decide (0 ≤ AB) = true := decide_eq_true c8; clear c8
     by_cases c9 : AB < (l0_0.length : Int)
     ·rw [if_pos c9] at H; have Bj : decide (AB < (l0_0.length : Int)) = true := decide_eq_true c9; clear c9
      by_cases AO : ((rd_T44 l0_0 AB).f0) = a1
      ·rw [if_pos AO] at H; have AX : (((rd_T44 l0_0 AB).f0) == a1) = true := beq_iff_eq.mpr AO; have AY : (((rd_T44 l0_0 AB).f0) != a1) = false := bne_eq_false_iff_eq.mpr AO; clear AO; simp only [Option.some.injEq, Prod.mk.injEq] at H; obtain ⟨rfl, rfl, rfl, rfl, rfl, rfl⟩ := H; have p432 : 0 ≤ (AB : Int) := zd; have q432 : AB < (l0_0.length : Int) := zd; obtain ⟨ad432, e432, hx432_0, hx432_1, hx432_2, hx432_3, hx432_4, hx432_5⟩ := at_T44 (Kd.C_below HR0_0.out HB.out) AB p432 q432; cases e432; replace p432 := eq_true p432; replace q432 := eq_true q432
       go_wp2_with (first | ((with_reducible refine gate_dst (N := 7) rfl ?_); refine zbox 7 #[.int .i64 0, .int .i64 0, .int .i64 0, .int .i64 0, .int .i64 0, .string (⟨#[]⟩ : ByteArray)] 44 ?_; intro Aa hg Bm hbox hb; have AP := zm (hbox); have AW := zge w hg zB; have AV := zge w hg zB; replace HB := zm (below_step zB hb); have AC := zlt hg (zb AD); have AH := zgt hg (zb AD); replace AD := zy AD hb; have AA := zlt hg (zb AE); have AI := zgt hg (zb AE); replace AE := zy AE hb; clear hb hbox hg; have BW := AH.out; have Bc := AC.out; have BX := AI.out; have Bd := AA.out; obtain ⟨Ad, Ae, Af, Ag, Ah, Ai, Az, B0, B2, B3, BA, BB⟩ := zc6 AP; have BY := AG.out; have Be := AF.out; obtain ⟨Aj, Ak, Al, Am, An, BC, BD, BE, BF, BG⟩ := zc5 AE))
       refine bodyPost_ret (results_ct rfl _ _ AQ 36 #[.int .i64 ((rd_T44 l0_0 AB).f1.f0), .int .i64 ((rd_T44 l0_0 AB).f1.f1), .int .i64 ((rd_T44 l0_0 AB).f1.f2), .int .i64 ((rd_T44 l0_0 AB).f1.f3), .string ((rd_T44 l0_0 AB).f1.f4)] (0, 0) _ rfl (zput (zput (zput (zput (zput (zfar (zfar (zfar (zfar (zfar (zfar (zb AE) AA) AA) AA) AA) AA) AA) 0) 1) 2) 3) 4) Try.underlying36 rfl (by kernel_rfl)) rfl ?_
       exact ⟨zE, zB⟩
      ·rw [if_neg AO] at H; have AX : (((rd_T44 l0_0 AB).f0) == a1) = false := beq_eq_false_iff_ne.mpr AO; have AY : (((rd_T44 l0_0 AB).f0) != a1) = true := bne_iff_ne.mpr AO
       have H' := zm H
       clear H; have p432 : 0 ≤ (AB : Int) := zd; have q432 : AB < (l0_0.length : Int) := zd; obtain ⟨ad432, e432, hx432_0, hx432_1, hx432_2, hx432_3, hx432_4, hx432_5⟩ := at_T44 (Kd.C_below HR0_0.out HB.out) AB p432 q432; cases e432; replace p432 := eq_true p432; replace q432 := eq_true q432
       go_wp2_with (first | ((with_reducible refine gate_dst (N := 7) rfl ?_); refine zbox 7 #[.int .i64 0, .int .i64 0, .int .i64 0, .int .i64 0, .int .i64 0, .string (⟨#[]⟩ : ByteArray)] 44 ?_; intro Aa hg Bn hbox hb; have AP := zm (hbox); have AW := zge w hg zB; have AV := zge w hg zB; replace HB := zm (below_step zB hb); have AC := zlt hg (zb AD); have AH := zgt hg (zb AD); replace AD := zy AD hb; have AA := zlt hg (zb AE); have AI := zgt hg (zb AE); replace AE := zy AE hb; clear hb hbox hg; have BZ := AH.out; have Bf := AC.out; have Ba := AI.out; have Bg := AA.out; obtain ⟨Ao, Ap, Aq, Ar, As, At, BH, BI, BJ, BK, BL, BM⟩ := zc6 AP))
       go_roundg k1
       case measure => have := Ab.out; omega
       case rel => exact ⟨(wrap64 (AB + 1)), (AJ), (AK), (AL), (AM), (AN), zF, H', ⟨by have := Ab.out; omega⟩, ⟨zfar (zfar (zfar (zfar (zfar (zfar (zb AD) AC) AC) AC) AC) AC) AC⟩, ⟨zfar (zfar (zfar (zfar (zfar (zfar (zb AE) AA) AA) AA) AA) AA) AA⟩, ⟨zB⟩⟩
     ·rw [if_neg c9] at H
      exact absurd H (by simp)
    ·rw [if_neg c8] at H
     exact absurd H (by simp)
   ·rw [if_neg c7] at H; have Ac : decide (AB < (l0_0.length : Int)) = false := decide_eq_false c7; clear c7; simp only [Option.some.injEq, Prod.mk.injEq] at H; obtain ⟨rfl, rfl, rfl, rfl, rfl, rfl⟩ := H; have Bb := AG.out; have Bh := AF.out; obtain ⟨Au, Av, Aw, Ax, Ay, BN, BO, BP, BQ, BR⟩ := zc5 AE
    go_wp2
    refine bodyPost_ret (results_ct rfl _ _ AQ 36 #[.int .i64 0, .int .i64 0, .int .i64 0, .int .i64 0, .string (⟨#[]⟩ : ByteArray)] (0, 0) _ rfl (zput (zput (zput (zput (zput (zb AE) 0) 1) 2) 3) 4) Try.underlying36 rfl (by kernel_rfl)) rfl ?_
    exact ⟨zE, zB⟩

/-! ### impl_FloorOf: function 24 -/
def impl_FloorOf.l0 : Nat → Int → List (S58) → Int → Int → Option (Int)
 | 0, _, _, _, _ => none
 | k + 1, x1, x8, x9, x10 => if x10 < x9 then (if 0 ≤ x10 then (if x10 < (x8.length : Int) then (if ((rd_T58 x8 x10).f0) = x1 then (some ((rd_T58 x8 x10).f1)) else (impl_FloorOf.l0 k x1 x8 x9 (wrap64 (x10 + 1)))) else (none)) else (none)) else (some 0)
def impl_FloorOf.f (k : Nat) (l0_0 : List (S44)) (l0_1 : List (S58)) (a1 : Int) : Option (Int) := impl_FloorOf.l0 k a1 l0_1 (l0_1.length : Int) 0
theorem impl_FloorOf.mono_l : ∀ k, (∀ y0 y1 y2 y3, LeO (impl_FloorOf.l0 k y0 y1 y2 y3) (impl_FloorOf.l0 (k + 1) y0 y1 y2 y3))
 | 0 => fun _ _ _ _ r h => by simp [impl_FloorOf.l0] at h
 | k + 1 => by
  have ih0 := impl_FloorOf.mono_l k
  ·intro y0 y1 y2 y3
   unfold impl_FloorOf.l0
   repeat' first | (with_reducible first | exact LeO.refl _ | exact LeO.none _ | refine LeO.ite ?_ ?_ | refine LeO.bind ?_ (fun _ => ?_) | apply ih0) | apply ih0 | exact LeO.none _ | refine LeO.ite ?_ ?_ | refine LeO.bind ?_ (fun _ => ?_)
theorem impl_FloorOf.mono : ∀ a0 a1 a2 k, LeO (impl_FloorOf.f k a0 a1 a2) (impl_FloorOf.f (k + 1) a0 a1 a2) := by
 intro a0 a1 a2 k; have ih0 := impl_FloorOf.mono_l k
 unfold impl_FloorOf.f
 repeat' first | (with_reducible first | exact LeO.refl _ | exact LeO.none _ | refine LeO.ite ?_ ?_ | refine LeO.bind ?_ (fun _ => ?_) | apply ih0) | apply ih0 | exact LeO.none _ | refine LeO.ite ?_ ?_ | refine LeO.bind ?_ (fun _ => ?_)
set_option maxHeartbeats 8000000 in
set_option maxRecDepth 100000 in
theorem impl_FloorOf.calls (k : Nat) (A0_0 : Option Addr) (c0_0 : Nat) (l0_0 : List (S44)) (A0_1 : Option Addr) (c0_1 : Nat) (l0_1 : List (S58)) (a1 : Int) (r : Int) (w : World) (hr0_0 : Kd.C k44 w A0_0 l0_0.length l0_0) (hc0_0 : l0_0.length ≤ c0_0) (hr0_1 : Kd.C k58 w A0_1 l0_1.length l0_1) (hc0_1 : l0_1.length ≤ c0_1) (h : impl_FloorOf.f k l0_0 l0_1 a1 = some r) :
  Calls Try.prog 24 #[.agg #[.slice A0_0 l0_0.length c0_0, .slice A0_1 l0_1.length c0_1], .int .i64 a1] w fun e w' => e = .returned (.int .i64 r) ∧ Below w.heap.size w w' := by
 have hu27 := Try.underlying27; have hu58 := Try.underlying58; have HR0_0 := zm hr0_0; have HC0_0 := zm hc0_0; clear hr0_0 hc0_0; have HR0_1 := zm hr0_1; have HC0_1 := zm hc0_1; clear hr0_1 hc0_1; have HB := zm (Below.refl w.heap.size w); have H : (impl_FloorOf.l0 k a1 l0_1 (l0_1.length : Int) 0) = some r := h; clear h
 have H' := zm H
 clear H; go_enter Try.func24, Try.ntmps24
 go_wp2_with (first | ((with_reducible refine gate_dst (N := 2) rfl ?_); refine zbox 2 #[.slice A0_0 l0_0.length c0_0, .slice A0_1 l0_1.length c0_1] 27 ?_; intro AL hg w3 hbox hb; have AB := zm (hbox); have Aa := zge w hg zB; have AZ := zge w hg zB; replace HB := zm (below_step zB hb); clear hb hbox hg; obtain ⟨AF, AG, AH, AI⟩ := zc2 AB))
 go_loopg [10] k (fun kq v10 w' => ∃ (AA : Int), v10 = .int .i64 AA ∧ Aside0 (impl_FloorOf.l0 kq a1 l0_1 (l0_1.length : Int) AA = some r) ∧ Aside0 (kq ≤ k) ∧ Aside0 (w'.heap[AL]? = some (.cells #[(.slice A0_0 l0_0.length c0_0), (.slice A0_1 l0_1.length c0_1)] 27 (0, 0))) ∧ Aside0 (Below w.heap.size w w'))
 case atStart => exact ⟨(0), zF, H', ⟨Nat.le_refl _⟩, ⟨zb AB⟩, ⟨zB⟩⟩
 case round =>
  clear H'; (try clear AF); (try clear AG); (try clear AH); (try clear AI); obtain ⟨AA, rfl, HA, AN, AB, HB⟩ := hrel
  cases gk with
  | zero => exact absurd HA.out (by simp [impl_FloorOf.l0])
  | succ k1 =>
   have H := HA.out; clear HA; simp only [impl_FloorOf.l0] at H
   by_cases c5 : AA < (l0_1.length : Int)
   ·rw [if_pos c5] at H; have AO : decide (AA < (l0_1.length : Int)) = true := decide_eq_true c5; clear c5
    by_cases c6 : 0 ≤ AA
    ·rw [if_pos c6] at H; have Af : decide (0 ≤ AA) = true := decide_eq_true c6; clear c6
     by_cases c7 : AA < (l0_1.length : Int)
     ·rw [if_pos c7] at H; have Ag : decide (AA < (l0_1.length : Int)) = true := decide_eq_true c7; clear c7
      by_cases c8 : ((rd_T58 l0_1 AA).f0) = a1
      ·rw [if_pos c8] at H; have AP : (((rd_T58 l0_1 AA).f0) == a1) = true := beq_iff_eq.mpr c8; have AQ : (((rd_T58 l0_1 AA).f0) != a1) = false := bne_eq_false_iff_eq.mpr c8; clear c8; obtain rfl := Option.some.inj H; have p435 : 0 ≤ (AA : Int) := zd; have q435 : AA < (l0_1.length : Int) := zd; obtain ⟨ad435, e435, hx435_0, hx435_1⟩ := at_T58 (Kd.C_below HR0_1.out HB.out) AA p435 q435; cases e435; replace p435 := eq_true p435; replace q435 := eq_true q435
       go_wp2_with (first | ((with_reducible refine gate_dst (N := 6) rfl ?_); refine zbox 6 #[.int .i64 0, .int .i64 0] 58 ?_; intro AM hg w9 hbox hb; have AE := zm (hbox); have AK := zge w hg zB; have AJ := zge w hg zB; replace HB := zm (below_step zB hb); have AC := zlt hg (zb AB); have AD := zgt hg (zb AB); replace AB := zy AB hb; clear hb hbox hg; have Ab := AD.out; have Ad := AC.out; obtain ⟨AR, AS, AV, AW⟩ := zc2 AE))
       go_ret
       exact ⟨zE, zB⟩
      ·rw [if_neg c8] at H; have AP : (((rd_T58 l0_1 AA).f0) == a1) = false := beq_eq_false_iff_ne.mpr c8; have AQ : (((rd_T58 l0_1 AA).f0) != a1) = true := bne_iff_ne.mpr c8
       have H' := zm H
       clear H; have p435 : 0 ≤ (AA : Int) := zd; have q435 : AA < (l0_1.length : Int) := zd; obtain ⟨ad435, e435, hx435_0, hx435_1⟩ := at_T58 (Kd.C_below HR0_1.out HB.out) AA p435 q435; cases e435; replace p435 := eq_true p435; replace q435 := eq_true q435
       go_wp2_with (first | ((with_reducible refine gate_dst (N := 6) rfl ?_); refine zbox 6 #[.int .i64 0, .int .i64 0] 58 ?_; intro AM hg Ah hbox hb; have AE := zm (hbox); have AK := zge w hg zB; have AJ := zge w hg zB; replace HB := zm (below_step zB hb); have AC := zlt hg (zb AB); have AD := zgt hg (zb AB); replace AB := zy AB hb; clear hb hbox hg; have Ac := AD.out; have Ae := AC.out; obtain ⟨AT, AU, AX, AY⟩ := zc2 AE))
       go_roundg k1
       case measure => have := AN.out; omega
       case rel => exact ⟨(wrap64 (AA + 1)), zF, H', ⟨by have := AN.out; omega⟩, ⟨zfar (zfar (zb AB) AC) AC⟩, ⟨zB⟩⟩
     ·rw [if_neg c7] at H
      exact absurd H (by simp)
    ·rw [if_neg c6] at H
     exact absurd H (by simp)
   ·rw [if_neg c5] at H; have AO : decide (AA < (l0_1.length : Int)) = false := decide_eq_false c5; clear c5; obtain rfl := Option.some.inj H
    go_wp2
    go_ret
    exact ⟨zE, zB⟩

/-! ### impl_within: function 75 -/
def impl_within.f (a0 : Int) (a1 : Int) (a2 : Int) : Option (Bool) := if a0 ≥ a1 then (some (decide (a0 ≤ a2))) else (some false)
set_option maxHeartbeats 8000000 in
set_option maxRecDepth 100000 in
theorem impl_within.calls (a0 : Int) (a1 : Int) (a2 : Int) (r : Bool) (w : World) (h : impl_within.f a0 a1 a2 = some r) :
  Calls Try.prog 75 #[.int .i64 a0, .int .i64 a1, .int .i64 a2] w fun e w' => e = .returned (.bool r) ∧ Drawn0 w w' := by
 have H : (if a0 ≥ a1 then (some (decide (a0 ≤ a2))) else (some false)) = some r := h; clear h
 by_cases c4 : a0 ≥ a1
 ·rw [if_pos c4] at H; have AA : decide (a1 ≤ a0) = true := decide_eq_true c4; clear c4; obtain rfl := Option.some.inj H; go_enter Try.func75, Try.ntmps75
  go_wp2
  go_ret
  exact ⟨zF, zD⟩
 ·rw [if_neg c4] at H; have AA : decide (a1 ≤ a0) = false := decide_eq_false c4; clear c4; obtain rfl := Option.some.inj H; go_enter Try.func75, Try.ntmps75
  go_wp2
  go_ret
  exact ⟨zF, zD⟩

/-! ### impl_isNode: function 74 -/
def impl_isNode.f (a0 : Int) : Option (Bool) := (impl_within.f a0 0 4).bind fun t437 => (some t437)
set_option maxHeartbeats 8000000 in
set_option maxRecDepth 100000 in
theorem impl_isNode.calls (a0 : Int) (r : Bool) (w : World) (h : impl_isNode.f a0 = some r) :
  Calls Try.prog 74 #[.int .i64 a0] w fun e w' => e = .returned (.bool r) ∧ Drawn0 w w' := by
 have H : ((impl_within.f a0 0 4).bind fun AA => (some AA)) = some r := h; clear h; replace H := Option.bind_eq_some_iff.mp H; obtain ⟨AA, AB, H⟩ := H; (try dsimp only at H); have A2 := zm AB; clear AB; obtain rfl := Option.some.inj H; go_enter Try.func74, Try.ntmps74
 go_wp2_with (first | ((with_reducible refine gate_callee (f := 75) rfl ?_); refine zg (some 4) #[.int .i64 a0, .int .i64 0, .int .i64 4] Try.func75 ?_; (with_reducible refine (impl_within.calls a0 0 4 AA _ A2.out).mono ?_); rintro e w' ⟨rfl, ⟨nd, rfl⟩⟩; refine ⟨_, rfl, ?_⟩))
 go_ret
 exact ⟨zF, zD⟩

/-! ### impl_EntryOk: function 76 -/
def impl_EntryOk.f (a0_0 : Int) (a0_1 : Int) (a0_2 : Int) (a0_3 : Int) (a0_4 : ByteArray) : Option (Bool) := (impl_within.f a0_0 1 1000).bind fun t439 => (if t439 = true then ((impl_within.f a0_1 0 1).bind fun t440 => (if t440 = true then ((impl_within.f a0_2 0 100000).bind fun t441 => (if t441 = true then ((impl_within.f a0_3 0 1000).bind fun t442 => (if t442 = true then (some (decide ((a0_4.size : Int) ≤ 8))) else (some false))) else (some false))) else (some false))) else (some false))
set_option maxHeartbeats 8000000 in
set_option maxRecDepth 100000 in
theorem impl_EntryOk.calls (a0_0 : Int) (a0_1 : Int) (a0_2 : Int) (a0_3 : Int) (a0_4 : ByteArray) (r : Bool) (w : World) (h : impl_EntryOk.f a0_0 a0_1 a0_2 a0_3 a0_4 = some r) :
  Calls Try.prog 76 #[.agg #[.int .i64 a0_0, .int .i64 a0_1, .int .i64 a0_2, .int .i64 a0_3, .string a0_4]] w fun e w' => e = .returned (.bool r) ∧ Below w.heap.size w w' := by
 have hu36 := Try.underlying36; have HB := zm (Below.refl w.heap.size w); have H : ((impl_within.f a0_0 1 1000).bind fun AE => (if AE = true then ((impl_within.f a0_1 0 1).bind fun AF => (if AF = true then ((impl_within.f a0_2 0 100000).bind fun AG => (if AG = true then ((impl_within.f a0_3 0 1000).bind fun AH => (if AH = true then (some (decide ((a0_4.size : Int) ≤ 8))) else (some false))) else (some false))) else (some false))) else (some false))) = some r := h; clear h; replace H := Option.bind_eq_some_iff.mp H; obtain ⟨AE, AI, H⟩ := H; (try dsimp only at H); have A2 := zm AI; clear AI
 by_cases c3 : AE = true
 ·subst c3; rw [if_pos rfl] at H; replace H := Option.bind_eq_some_iff.mp H; obtain ⟨AF, AJ, H⟩ := H; (try dsimp only at H); have A4 := zm AJ; clear AJ
  by_cases c5 : AF = true
  ·subst c5; rw [if_pos rfl] at H; replace H := Option.bind_eq_some_iff.mp H; obtain ⟨AG, AK, H⟩ := H; (try dsimp only at H); have A6 := zm AK; clear AK
   by_cases c7 : AG = true
   ·subst c7; rw [if_pos rfl] at H; replace H := Option.bind_eq_some_iff.mp H; obtain ⟨AH, AL, H⟩ := H; (try dsimp only at H); have A8 := zm AL; clear AL
    by_cases c9 : AH = true
    ·subst c9; rw [if_pos rfl] at H; obtain rfl := Option.some.inj H; go_enter Try.func76, Try.ntmps76
     go_wp2_with (first | ((with_reducible refine gate_dst (N := 1) rfl ?_); (try (refine gate_guard (by rfl) ?_; dsimp only)); refine zbox 1 #[.int .i64 a0_0, .int .i64 a0_1, .int .i64 a0_2, .int .i64 a0_3, .string a0_4] 36 ?_; intro AD hg BH hbox hb; have AA := zm (hbox); have AC := zge w hg zB; have AB := zge w hg zB; replace HB := zm (below_step zB hb); clear hb hbox hg; obtain ⟨AM, AN, AO, AP, AQ, Al, Am, An, Ao, Ap⟩ := zc5 AA) | ((with_reducible refine gate_callee (f := 75) rfl ?_); refine zg (some 5) #[.int .i64 a0_0, .int .i64 1, .int .i64 1000] Try.func75 ?_; (with_reducible refine (impl_within.calls a0_0 1 1000 true _ A2.out).mono ?_); rintro e w' ⟨rfl, ⟨nd, rfl⟩⟩; refine ⟨_, rfl, ?_⟩) | (go_at_call 75; (with_reducible refine (impl_within.calls a0_1 0 1 true _ A4.out).mono ?_); rintro e w' ⟨rfl, ⟨nd, rfl⟩⟩) | (go_at_call 75; (with_reducible refine (impl_within.calls a0_2 0 100000 true _ A6.out).mono ?_); rintro e w' ⟨rfl, ⟨nd, rfl⟩⟩) | (go_at_call 75; (with_reducible refine (impl_within.calls a0_3 0 1000 true _ A8.out).mono ?_); rintro e w' ⟨rfl, ⟨nd, rfl⟩⟩))
     go_ret
     exact ⟨zE, zB⟩
    ·replace c9 := Bool.eq_false_iff.mpr c9; subst c9; rw [zff] at H; obtain rfl := Option.some.inj H; go_enter Try.func76, Try.ntmps76
     go_wp2_with (first | ((with_reducible refine gate_dst (N := 1) rfl ?_); (try (refine gate_guard (by rfl) ?_; dsimp only)); refine zbox 1 #[.int .i64 a0_0, .int .i64 a0_1, .int .i64 a0_2, .int .i64 a0_3, .string a0_4] 36 ?_; intro AD hg BI hbox hb; have AA := zm (hbox); have AC := zge w hg zB; have AB := zge w hg zB; replace HB := zm (below_step zB hb); clear hb hbox hg; obtain ⟨AR, AS, AT, AU, AV, Aq, Ar, As, At, Au⟩ := zc5 AA) | ((with_reducible refine gate_callee (f := 75) rfl ?_); refine zg (some 5) #[.int .i64 a0_0, .int .i64 1, .int .i64 1000] Try.func75 ?_; (with_reducible refine (impl_within.calls a0_0 1 1000 true _ A2.out).mono ?_); rintro e w' ⟨rfl, ⟨nd, rfl⟩⟩; refine ⟨_, rfl, ?_⟩) | (go_at_call 75; (with_reducible refine (impl_within.calls a0_1 0 1 true _ A4.out).mono ?_); rintro e w' ⟨rfl, ⟨nd, rfl⟩⟩) | (go_at_call 75; (with_reducible refine (impl_within.calls a0_2 0 100000 true _ A6.out).mono ?_); rintro e w' ⟨rfl, ⟨nd, rfl⟩⟩) | (go_at_call 75; (with_reducible refine (impl_within.calls a0_3 0 1000 false _ A8.out).mono ?_); rintro e w' ⟨rfl, ⟨nd, rfl⟩⟩))
     go_ret
     exact ⟨zE, zB⟩
   ·replace c7 := Bool.eq_false_iff.mpr c7; subst c7; rw [zff] at H; obtain rfl := Option.some.inj H; go_enter Try.func76, Try.ntmps76
    go_wp2_with (first | ((with_reducible refine gate_dst (N := 1) rfl ?_); (try (refine gate_guard (by rfl) ?_; dsimp only)); refine zbox 1 #[.int .i64 a0_0, .int .i64 a0_1, .int .i64 a0_2, .int .i64 a0_3, .string a0_4] 36 ?_; intro AD hg BJ hbox hb; have AA := zm (hbox); have AC := zge w hg zB; have AB := zge w hg zB; replace HB := zm (below_step zB hb); clear hb hbox hg; obtain ⟨AW, AX, AY, AZ, Aa, Av, Aw, Ax, Ay, Az⟩ := zc5 AA) | ((with_reducible refine gate_callee (f := 75) rfl ?_); refine zg (some 5) #[.int .i64 a0_0, .int .i64 1, .int .i64 1000] Try.func75 ?_; (with_reducible refine (impl_within.calls a0_0 1 1000 true _ A2.out).mono ?_); rintro e w' ⟨rfl, ⟨nd, rfl⟩⟩; refine ⟨_, rfl, ?_⟩) | (go_at_call 75; (with_reducible refine (impl_within.calls a0_1 0 1 true _ A4.out).mono ?_); rintro e w' ⟨rfl, ⟨nd, rfl⟩⟩) | (go_at_call 75; (with_reducible refine (impl_within.calls a0_2 0 100000 false _ A6.out).mono ?_); rintro e w' ⟨rfl, ⟨nd, rfl⟩⟩))
    go_ret
    exact ⟨zE, zB⟩
  ·replace c5 := Bool.eq_false_iff.mpr c5; subst c5; rw [zff] at H; obtain rfl := Option.some.inj H; go_enter Try.func76, Try.ntmps76
   go_wp2_with (first | ((with_reducible refine gate_dst (N := 1) rfl ?_); (try (refine gate_guard (by rfl) ?_; dsimp only)); refine zbox 1 #[.int .i64 a0_0, .int .i64 a0_1, .int .i64 a0_2, .int .i64 a0_3, .string a0_4] 36 ?_; intro AD hg BK hbox hb; have AA := zm (hbox); have AC := zge w hg zB; have AB := zge w hg zB; replace HB := zm (below_step zB hb); clear hb hbox hg; obtain ⟨Ab, Ac, Ad, Ae, Af, B0, B2, B3, BA, BB⟩ := zc5 AA) | ((with_reducible refine gate_callee (f := 75) rfl ?_); refine zg (some 5) #[.int .i64 a0_0, .int .i64 1, .int .i64 1000] Try.func75 ?_; (with_reducible refine (impl_within.calls a0_0 1 1000 true _ A2.out).mono ?_); rintro e w' ⟨rfl, ⟨nd, rfl⟩⟩; refine ⟨_, rfl, ?_⟩) | (go_at_call 75; (with_reducible refine (impl_within.calls a0_1 0 1 false _ A4.out).mono ?_); rintro e w' ⟨rfl, ⟨nd, rfl⟩⟩))
   go_ret
   exact ⟨zE, zB⟩
 ·replace c3 := Bool.eq_false_iff.mpr c3; subst c3; rw [zff] at H; obtain rfl := Option.some.inj H; go_enter Try.func76, Try.ntmps76
  go_wp2_with (first | ((with_reducible refine gate_dst (N := 1) rfl ?_); (try (refine gate_guard (by rfl) ?_; dsimp only)); refine zbox 1 #[.int .i64 a0_0, .int .i64 a0_1, .int .i64 a0_2, .int .i64 a0_3, .string a0_4] 36 ?_; intro AD hg BL hbox hb; have AA := zm (hbox); have AC := zge w hg zB; have AB := zge w hg zB; replace HB := zm (below_step zB hb); clear hb hbox hg; obtain ⟨Ag, Ah, Ai, Aj, Ak, BC, BD, BE, BF, BG⟩ := zc5 AA) | ((with_reducible refine gate_callee (f := 75) rfl ?_); refine zg (some 5) #[.int .i64 a0_0, .int .i64 1, .int .i64 1000] Try.func75 ?_; (with_reducible refine (impl_within.calls a0_0 1 1000 false _ A2.out).mono ?_); rintro e w' ⟨rfl, ⟨nd, rfl⟩⟩; refine ⟨_, rfl, ?_⟩))
  go_ret
  exact ⟨zE, zB⟩

end Go.Proofs.Ytnmofppbijmhoaa.P
