-- by a program of this session, for this seat
import Derived.Test.YtnmofppbijmhoaaZ
import Derived.Test.YtnmofppbijmhoaaP0
import Derived.Test.YtnmofppbijmhoaaPao
namespace Go.Proofs.Ytnmofppbijmhoaa.P
open Go.RowKit Go.Proofs.YtnmofppbijmhoaaW.PrintWords Go.Proofs.YtnmofppbijmhoaaW.PrintLast Go.Proofs.YtnmofppbijmhoaaW.PrintMore Go.Proofs.Ytnmofppbijmhoaa.Z
attribute [local go_sem] max2_int min2_int max_two min_two max_three min_three max_four min_four   -- for this text's walks alone
set_option linter.unusedVariables false
set_option linter.unusedSimpArgs false

section
attribute [local go_sem high] eqA44 eqA58
/-! ### spec_StateSame: function 15 -/
mutual
def spec_StateSame.j0 : Nat → Bool → List (S44) → List (S58) → List (S44) → List (S58) → Option (Bool)
 | 0, _, _, _, _, _ => none
 | k + 1, x22, x503000, x503001, x504000, x504001 => if x22 = true then (some false) else (spec_StateSame.l0 k 0 x503000 x503001 x504000 x504001)
def spec_StateSame.l0 : Nat → Int → List (S44) → List (S58) → List (S44) → List (S58) → Option (Bool)
 | 0, _, _, _, _, _ => none
 | k + 1, x5, x503000, x503001, x504000, x504001 => if x5 < (x503000.length : Int) then (if 0 ≤ x5 then (if x5 < (x504000.length : Int) then (if (!(((rd_T44 x503000 x5).f0) == ((rd_T44 x504000 x5).f0)) || ((!(((rd_T44 x503000 x5).f1.f0) == ((rd_T44 x504000 x5).f1.f0)) || (!(((rd_T44 x503000 x5).f1.f1) == ((rd_T44 x504000 x5).f1.f1)) || (!(((rd_T44 x503000 x5).f1.f2) == ((rd_T44 x504000 x5).f1.f2)) || (!(((rd_T44 x503000 x5).f1.f3) == ((rd_T44 x504000 x5).f1.f3)) || (!((((rd_T44 x503000 x5).f1.f4).toList) == (((rd_T44 x504000 x5).f1.f4).toList))))))))) = true then (some false) else (spec_StateSame.l0 k (wrap64 (x5 + 1)) x503000 x503001 x504000 x504001)) else (none)) else (none)) else (spec_StateSame.l1 k 0 x503000 x503001 x504000 x504001)
def spec_StateSame.l1 : Nat → Int → List (S44) → List (S58) → List (S44) → List (S58) → Option (Bool)
 | 0, _, _, _, _, _ => none
 | k + 1, x6, x503000, x503001, x504000, x504001 => if x6 < (x503001.length : Int) then (if 0 ≤ x6 then (if x6 < (x504001.length : Int) then (if (!(((rd_T58 x503001 x6).f0) == ((rd_T58 x504001 x6).f0)) || (!(((rd_T58 x503001 x6).f1) == ((rd_T58 x504001 x6).f1)))) = true then (some false) else (spec_StateSame.l1 k (wrap64 (x6 + 1)) x503000 x503001 x504000 x504001)) else (none)) else (none)) else (some true)
end
def spec_StateSame.f (k : Nat) (l0_0 : List (S44)) (l0_1 : List (S58)) (l1_0 : List (S44)) (l1_1 : List (S58)) : Option (Bool) := if (l0_0.length : Int) = (l1_0.length : Int) then (spec_StateSame.j0 k ((l0_1.length : Int) != (l1_1.length : Int)) l0_0 l0_1 l1_0 l1_1) else (spec_StateSame.j0 k true l0_0 l0_1 l1_0 l1_1)
theorem spec_StateSame.mono_l : ∀ k, (∀ y0 y1 y2 y3 y4, LeO (spec_StateSame.j0 k y0 y1 y2 y3 y4) (spec_StateSame.j0 (k + 1) y0 y1 y2 y3 y4)) ∧ (∀ y0 y1 y2 y3 y4, LeO (spec_StateSame.l0 k y0 y1 y2 y3 y4) (spec_StateSame.l0 (k + 1) y0 y1 y2 y3 y4)) ∧ (∀ y0 y1 y2 y3 y4, LeO (spec_StateSame.l1 k y0 y1 y2 y3 y4) (spec_StateSame.l1 (k + 1) y0 y1 y2 y3 y4))
 | 0 => ⟨fun _ _ _ _ _ r h => by simp [spec_StateSame.j0] at h, fun _ _ _ _ _ r h => by simp [spec_StateSame.l0] at h, fun _ _ _ _ _ r h => by simp [spec_StateSame.l1] at h⟩
 | k + 1 => by
  obtain ⟨ih0, ih1, ih2⟩ := spec_StateSame.mono_l k
  refine ⟨?_, ?_, ?_⟩
  ·intro y0 y1 y2 y3 y4
   unfold spec_StateSame.j0
   repeat' first | (with_reducible first | exact LeO.refl _ | exact LeO.none _ | refine LeO.ite ?_ ?_ | refine LeO.bind ?_ (fun _ => ?_) | apply ih0 | apply ih1 | apply ih2) | apply ih0 | apply ih1 | apply ih2 | exact LeO.none _ | refine LeO.ite ?_ ?_ | refine LeO.bind ?_ (fun _ => ?_)
  ·intro y0 y1 y2 y3 y4
   unfold spec_StateSame.l0
   repeat' first | (with_reducible first | exact LeO.refl _ | exact LeO.none _ | refine LeO.ite ?_ ?_ | refine LeO.bind ?_ (fun _ => ?_) | apply ih0 | apply ih1 | apply ih2) | apply ih0 | apply ih1 | apply ih2 | exact LeO.none _ | refine LeO.ite ?_ ?_ | refine LeO.bind ?_ (fun _ => ?_)
  ·intro y0 y1 y2 y3 y4
   unfold spec_StateSame.l1
   repeat' first | (with_reducible first | exact LeO.refl _ | exact LeO.none _ | refine LeO.ite ?_ ?_ | refine LeO.bind ?_ (fun _ => ?_) | apply ih0 | apply ih1 | apply ih2) | apply ih0 | apply ih1 | apply ih2 | exact LeO.none _ | refine LeO.ite ?_ ?_ | refine LeO.bind ?_ (fun _ => ?_)
theorem spec_StateSame.mono : ∀ a0 a1 a2 a3 k, LeO (spec_StateSame.f k a0 a1 a2 a3) (spec_StateSame.f (k + 1) a0 a1 a2 a3) := by
 intro a0 a1 a2 a3 k; obtain ⟨ih0, ih1, ih2⟩ := spec_StateSame.mono_l k
 unfold spec_StateSame.f
 repeat' first | (with_reducible first | exact LeO.refl _ | exact LeO.none _ | refine LeO.ite ?_ ?_ | refine LeO.bind ?_ (fun _ => ?_) | apply ih0 | apply ih1 | apply ih2) | apply ih0 | apply ih1 | apply ih2 | exact LeO.none _ | refine LeO.ite ?_ ?_ | refine LeO.bind ?_ (fun _ => ?_)
set_option maxHeartbeats 8000000 in
set_option maxRecDepth 100000 in
theorem spec_StateSame.calls (k : Nat) (A0_0 : Option Addr) (c0_0 : Nat) (l0_0 : List (S44)) (A0_1 : Option Addr) (c0_1 : Nat) (l0_1 : List (S58)) (A1_0 : Option Addr) (c1_0 : Nat) (l1_0 : List (S44)) (A1_1 : Option Addr) (c1_1 : Nat) (l1_1 : List (S58)) (r : Bool) (w : World) (hr0_0 : Kd.C k44 w A0_0 l0_0.length l0_0) (hc0_0 : l0_0.length ≤ c0_0) (hr0_1 : Kd.C k58 w A0_1 l0_1.length l0_1) (hc0_1 : l0_1.length ≤ c0_1) (hr1_0 : Kd.C k44 w A1_0 l1_0.length l1_0) (hc1_0 : l1_0.length ≤ c1_0) (hr1_1 : Kd.C k58 w A1_1 l1_1.length l1_1) (hc1_1 : l1_1.length ≤ c1_1) (h : spec_StateSame.f k l0_0 l0_1 l1_0 l1_1 = some r) :
  Calls Try.prog 15 #[.agg #[.slice A0_0 l0_0.length c0_0, .slice A0_1 l0_1.length c0_1], .agg #[.slice A1_0 l1_0.length c1_0, .slice A1_1 l1_1.length c1_1]] w fun e w' => e = .returned (.bool r) ∧ Below w.heap.size w w' := by
 have hu27 := Try.underlying27; have hu44 := Try.underlying44; have hu58 := Try.underlying58; have HR0_0 := zm hr0_0; have HC0_0 := zm hc0_0; clear hr0_0 hc0_0; have HR0_1 := zm hr0_1; have HC0_1 := zm hc0_1; clear hr0_1 hc0_1; have HR1_0 := zm hr1_0; have HC1_0 := zm hc1_0; clear hr1_0 hc1_0; have HR1_1 := zm hr1_1; have HC1_1 := zm hc1_1; clear hr1_1 hc1_1; have HB := zm (Below.refl w.heap.size w); have H : (if (l0_0.length : Int) = (l1_0.length : Int) then (spec_StateSame.j0 k ((l0_1.length : Int) != (l1_1.length : Int)) l0_0 l0_1 l1_0 l1_1) else (spec_StateSame.j0 k true l0_0 l0_1 l1_0 l1_1)) = some r := h; clear h; have Ae := zm H; clear H; go_enter Try.func15, Try.ntmps15
 go_upto_region 1 with (first | ((with_reducible refine gate_dst (N := 2) rfl ?_); (try (refine gate_guard (by rfl) ?_; dsimp only)); refine zbox 2 #[.slice A0_0 l0_0.length c0_0, .slice A0_1 l0_1.length c0_1] 27 ?_; intro AG hg w4 hbox hb; have AB := zm (hbox); have AR := zge w hg zB; have AP := zge w hg zB; replace HB := zm (below_step zB hb); clear hb hbox hg) | ((with_reducible refine gate_dst (N := 3) rfl ?_); (try (refine gate_guard (by rfl) ?_; dsimp only)); refine zbox 3 #[.slice A1_0 l1_0.length c1_0, .slice A1_1 l1_1.length c1_1] 27 ?_; intro AH hg w5 hbox hb; have AF := zm (hbox); have AS := zge w hg zB; have AQ := zge w hg zB; replace HB := zm (below_step zB hb); have AD := zlt hg (zb AB); have AE := zgt hg (zb AB); replace AB := zy AB hb; clear hb hbox hg))
 repeat (go_quiet (first | ((with_reducible refine gate_dst (N := 2) rfl ?_); (try (refine gate_guard (by rfl) ?_; dsimp only)); refine box_event ?hg (N := 2) ?hd (cs := #[.slice A0_0 l0_0.length c0_0, .slice A0_1 l0_1.length c0_1]) (t := 27) ?hr ?_; (case hd => rfl); (case hg => rfl); (case hr => first | (go_simp; done) | (go_simp; rfl)); intro AG hg w4 hbox hb; have n0_ := zm (below_step zB hb); have n1_ := zm (hbox); have n2_ := zge w hg zB; have n3_ := zge w hg zB; clear HB; have HB := n0_; have AB := n1_; have AR := n2_; have AP := n3_; clear n0_ n1_ n2_ n3_; clear hb hbox hg) | ((with_reducible refine gate_dst (N := 3) rfl ?_); (try (refine gate_guard (by rfl) ?_; dsimp only)); refine box_event ?hg (N := 3) ?hd (cs := #[.slice A1_0 l1_0.length c1_0, .slice A1_1 l1_1.length c1_1]) (t := 27) ?hr ?_; (case hd => rfl); (case hg => rfl); (case hr => first | (go_simp; done) | (go_simp; rfl)); intro AH hg w5 hbox hb; have n0_ := zm (blk_below (zb AB) hb); have n1_ := zm (below_step zB hb); have n2_ := zm (hbox); have n3_ := zge w hg zB; have n4_ := zge w hg zB; have n5_ := zlt hg (zb AB); have n6_ := zgt hg (zb AB); clear AB; clear HB; have AB := n0_; have HB := n1_; have AF := n2_; have AS := n3_; have AQ := n4_; have AD := n5_; have AE := n6_; clear n0_ n1_ n2_ n3_ n4_ n5_ n6_; clear hb hbox hg)); go_upto_region 1 with (first | ((with_reducible refine gate_dst (N := 2) rfl ?_); (try (refine gate_guard (by rfl) ?_; dsimp only)); refine box_event ?hg (N := 2) ?hd (cs := #[.slice A0_0 l0_0.length c0_0, .slice A0_1 l0_1.length c0_1]) (t := 27) ?hr ?_; (case hd => rfl); (case hg => rfl); (case hr => first | (go_simp; done) | (go_simp; rfl)); intro AG hg w4 hbox hb; have n0_ := zm (below_step zB hb); have n1_ := zm (hbox); have n2_ := zge w hg zB; have n3_ := zge w hg zB; clear HB; have HB := n0_; have AB := n1_; have AR := n2_; have AP := n3_; clear n0_ n1_ n2_ n3_; clear hb hbox hg) | ((with_reducible refine gate_dst (N := 3) rfl ?_); (try (refine gate_guard (by rfl) ?_; dsimp only)); refine box_event ?hg (N := 3) ?hd (cs := #[.slice A1_0 l1_0.length c1_0, .slice A1_1 l1_1.length c1_1]) (t := 27) ?hr ?_; (case hd => rfl); (case hg => rfl); (case hr => first | (go_simp; done) | (go_simp; rfl)); intro AH hg w5 hbox hb; have n0_ := zm (blk_below (zb AB) hb); have n1_ := zm (below_step zB hb); have n2_ := zm (hbox); have n3_ := zge w hg zB; have n4_ := zge w hg zB; have n5_ := zlt hg (zb AB); have n6_ := zgt hg (zb AB); clear AB; clear HB; have AB := n0_; have HB := n1_; have AF := n2_; have AS := n3_; have AQ := n4_; have AD := n5_; have AE := n6_; clear n0_ n1_ n2_ n3_ n4_ n5_ n6_; clear hb hbox hg)))
 (try simp only [Act.put, List.setIfInBounds_toArray, List.set_cons_zero, List.set_cons_succ])
 go_cut [22] (fun v22 wc => ∃ (kq : Nat) (AI : Bool), v22 = .bool AI ∧ Aside0 (spec_StateSame.j0 kq AI l0_0 l0_1 l1_0 l1_1 = some r) ∧ Aside0 (kq ≤ k) ∧ Aside0 (wc.heap[AG]? = some (.cells #[(.slice A0_0 l0_0.length c0_0), (.slice A0_1 l0_1.length c0_1)] 27 (0, 0))) ∧ Aside0 (wc.heap[AH]? = some (.cells #[(.slice A1_0 l1_0.length c1_0), (.slice A1_1 l1_1.length c1_1)] 27 (0, 0))) ∧ Aside0 (Below w.heap.size w wc))
 case first =>
  have H := Ae.out; clear Ae
  by_cases c6 : (l0_0.length : Int) = (l1_0.length : Int)
  ·rw [if_pos c6] at H; have AK : ((l0_0.length : Int) == (l1_0.length : Int)) = true := beq_iff_eq.mpr c6; have Ak : ((l0_0.length : Int) != (l1_0.length : Int)) = false := bne_eq_false_iff_eq.mpr c6
   have Al : (l0_0.length == l1_0.length) = true := by first | simpa using c6 | (simp at c6 ⊢; omega)
   clear c6
   (first | rw [AK] | (simp only [i64_w, i32_w]; rw [AK]) | skip)
   have H' := zm H
   clear H; have C1 := AD.out; have C2 := AE.out; obtain ⟨Bb, Bc, Bf, Bg⟩ := zc2 AB; obtain ⟨Bd, Be, Bh, Bi⟩ := zc2 AF
   go_wp2
   repeat (go_quiet (fail); try go_wp2)
   go_meet
   case rel => exact ⟨_, (((l0_1.length : Int) != (l1_1.length : Int))), zF, H', ⟨zO⟩, ⟨zb AB⟩, ⟨zb AF⟩, ⟨zB⟩⟩
  ·rw [if_neg c6] at H; have AK : ((l0_0.length : Int) == (l1_0.length : Int)) = false := beq_eq_false_iff_ne.mpr c6; have Ak : ((l0_0.length : Int) != (l1_0.length : Int)) = true := bne_iff_ne.mpr c6
   have Al : (l0_0.length == l1_0.length) = false := by first | simpa using c6 | (simp at c6 ⊢; omega)
   (first | rw [AK] | (simp only [i64_w, i32_w]; rw [AK]) | skip)
   have H' := zm H
   clear H; have Bn := AD.out; have Bu := AE.out; obtain ⟨Am, An, BF, BG⟩ := zc2 AB; obtain ⟨Ao, Ap, BH, BI⟩ := zc2 AF
   go_wp2
   repeat (go_quiet (fail); try go_wp2)
   go_meet
   case rel => exact ⟨_, (true), zF, H', ⟨zO⟩, ⟨zb AB⟩, ⟨zb AF⟩, ⟨zB⟩⟩
 case rest =>
  clear Ae; obtain ⟨kq, AI, rfl, HA, AT, AB, AF, HB⟩ := hcut
  cases kq with
  | zero => exact absurd HA.out (by simp [spec_StateSame.j0])
  | succ Aj =>
   have H := HA.out; clear HA; simp only [spec_StateSame.j0] at H
   by_cases AL : AI = true
   ·subst AL; rw [if_pos rfl] at H; obtain rfl := Option.some.inj H
    go_wp2
    repeat (go_quiet (fail); try go_wp2)
    go_ret
    exact ⟨zE, zB⟩
   ·replace AL := Bool.eq_false_iff.mpr AL; subst AL; rw [zff] at H
    have H' := zm H
    clear H
    go_wp2
    repeat (go_quiet (fail); try go_wp2)
    go_loopg [5] Aj (fun kq v5 w' => ∃ (AA : Int), v5 = .int .i64 AA ∧ Aside0 (spec_StateSame.l0 kq AA l0_0 l0_1 l1_0 l1_1 = some r) ∧ Aside0 (kq ≤ Aj) ∧ Aside0 (w'.heap[AG]? = some (.cells #[(.slice A0_0 l0_0.length c0_0), (.slice A0_1 l0_1.length c0_1)] 27 (0, 0))) ∧ Aside0 (w'.heap[AH]? = some (.cells #[(.slice A1_0 l1_0.length c1_0), (.slice A1_1 l1_1.length c1_1)] 27 (0, 0))) ∧ Aside0 (Below w.heap.size w w'))
    case atStart => exact ⟨(0), zF, H', ⟨Nat.le_refl _⟩, ⟨zb AB⟩, ⟨zb AF⟩, ⟨zB⟩⟩
    case round =>
     clear H'; (try clear AL); obtain ⟨AA, rfl, HA, AU, AB, AF, HB⟩ := hrel
     cases gk with
     | zero => exact absurd HA.out (by simp [spec_StateSame.l0])
     | succ k2 =>
      have H := HA.out; clear HA; simp only [spec_StateSame.l0] at H
      by_cases AJ : AA < (l0_0.length : Int)
      ·rw [if_pos AJ] at H; have AV : decide (AA < (l0_0.length : Int)) = true := decide_eq_true AJ; clear AJ
       by_cases AW : 0 ≤ AA
       ·rw [if_pos AW] at H; have Bj : decide (0 ≤ AA) = true := decide_eq_true AW; clear AW
        by_cases AX : AA < (l1_0.length : Int)
        ·rw [if_pos AX] at H; have Bk : decide (AA < (l1_0.length : Int)) = true := decide_eq_true AX; clear AX
         by_cases AM : (!(((rd_T44 l0_0 AA).f0) == ((rd_T44 l1_0 AA).f0)) || ((!(((rd_T44 l0_0 AA).f1.f0) == ((rd_T44 l1_0 AA).f1.f0)) || (!(((rd_T44 l0_0 AA).f1.f1) == ((rd_T44 l1_0 AA).f1.f1)) || (!(((rd_T44 l0_0 AA).f1.f2) == ((rd_T44 l1_0 AA).f1.f2)) || (!(((rd_T44 l0_0 AA).f1.f3) == ((rd_T44 l1_0 AA).f1.f3)) || (!((((rd_T44 l0_0 AA).f1.f4).toList) == (((rd_T44 l1_0 AA).f1.f4).toList))))))))) = true
         ·rw [if_pos AM] at H; have Af : (!(((rd_T44 l0_0 AA).f0) == ((rd_T44 l1_0 AA).f0)) || ((!(((rd_T44 l0_0 AA).f1.f0) == ((rd_T44 l1_0 AA).f1.f0)) || (!(((rd_T44 l0_0 AA).f1.f1) == ((rd_T44 l1_0 AA).f1.f1)) || (!(((rd_T44 l0_0 AA).f1.f2) == ((rd_T44 l1_0 AA).f1.f2)) || (!(((rd_T44 l0_0 AA).f1.f3) == ((rd_T44 l1_0 AA).f1.f3)) || (!((((rd_T44 l0_0 AA).f1.f4).toList) == (((rd_T44 l1_0 AA).f1.f4).toList))))))))) = true := AM; clear AM; obtain rfl := Option.some.inj H; have Bo := AD.out; have Bv := AE.out; obtain ⟨Aq, Ar, BJ, BK⟩ := zc2 AB; have p504 : 0 ≤ (AA : Int) := zd; have q504 : AA < (l0_0.length : Int) := zd; obtain ⟨ad504, e504, hx504_0, hx504_1, hx504_2, hx504_3, hx504_4, hx504_5⟩ := at_T44 (Kd.C_below HR0_0.out HB.out) AA p504 q504; cases e504; replace p504 := eq_true p504; replace q504 := eq_true q504; obtain ⟨As, At, BL, BM⟩ := zc2 AF; have p505 : 0 ≤ (AA : Int) := zd; have q505 : AA < (l1_0.length : Int) := zd; obtain ⟨ad505, e505, hx505_0, hx505_1, hx505_2, hx505_3, hx505_4, hx505_5⟩ := at_T44 (Kd.C_below HR1_0.out HB.out) AA p505 q505; cases e505; replace p505 := eq_true p505; replace q505 := eq_true q505
          go_wp2
          repeat (go_quiet (fail); try go_wp2)
          go_ret
          exact ⟨zE, zB⟩
         ·rw [if_neg AM] at H
          have Af : (!(((rd_T44 l0_0 AA).f0) == ((rd_T44 l1_0 AA).f0)) || ((!(((rd_T44 l0_0 AA).f1.f0) == ((rd_T44 l1_0 AA).f1.f0)) || (!(((rd_T44 l0_0 AA).f1.f1) == ((rd_T44 l1_0 AA).f1.f1)) || (!(((rd_T44 l0_0 AA).f1.f2) == ((rd_T44 l1_0 AA).f1.f2)) || (!(((rd_T44 l0_0 AA).f1.f3) == ((rd_T44 l1_0 AA).f1.f3)) || (!((((rd_T44 l0_0 AA).f1.f4).toList) == (((rd_T44 l1_0 AA).f1.f4).toList))))))))) = false := by simpa using AM
          clear AM
          have H' := zm H
          clear H; have Bp := AD.out; have Bw := AE.out; obtain ⟨Au, Av, BN, BO⟩ := zc2 AB; have p504 : 0 ≤ (AA : Int) := zd; have q504 : AA < (l0_0.length : Int) := zd; obtain ⟨ad504, e504, hx504_0, hx504_1, hx504_2, hx504_3, hx504_4, hx504_5⟩ := at_T44 (Kd.C_below HR0_0.out HB.out) AA p504 q504; cases e504; replace p504 := eq_true p504; replace q504 := eq_true q504; obtain ⟨Aw, Ax, BP, BQ⟩ := zc2 AF; have p505 : 0 ≤ (AA : Int) := zd; have q505 : AA < (l1_0.length : Int) := zd; obtain ⟨ad505, e505, hx505_0, hx505_1, hx505_2, hx505_3, hx505_4, hx505_5⟩ := at_T44 (Kd.C_below HR1_0.out HB.out) AA p505 q505; cases e505; replace p505 := eq_true p505; replace q505 := eq_true q505
          go_wp2
          repeat (go_quiet (fail); try go_wp2)
          go_roundg k2
          case measure => have := AT.out; have := AU.out; omega
          case rel => exact ⟨(wrap64 (AA + 1)), zF, H', ⟨by have := AT.out; have := AU.out; omega⟩, ⟨zb AB⟩, ⟨zb AF⟩, ⟨zB⟩⟩
        ·rw [if_neg AX] at H
         exact absurd H (by simp)
       ·rw [if_neg AW] at H
        exact absurd H (by simp)
      ·rw [if_neg AJ] at H; have AV : decide (AA < (l0_0.length : Int)) = false := decide_eq_false AJ; clear AJ
       have H' := zm H
       clear H; have Bq := AD.out; have Bx := AE.out; obtain ⟨Aa, Ab, Ac, Ad⟩ := zc2 AB
       go_wp2
       repeat (go_quiet (fail); try go_wp2)
       go_loopg [6] k2 (fun kq v6 w' => ∃ (AC : Int), v6 = .int .i64 AC ∧ Aside0 (spec_StateSame.l1 kq AC l0_0 l0_1 l1_0 l1_1 = some r) ∧ Aside0 (kq ≤ k2) ∧ Aside0 (w'.heap[AG]? = some (.cells #[(.slice A0_0 l0_0.length c0_0), (.slice A0_1 l0_1.length c0_1)] 27 (0, 0))) ∧ Aside0 (w'.heap[AH]? = some (.cells #[(.slice A1_0 l1_0.length c1_0), (.slice A1_1 l1_1.length c1_1)] 27 (0, 0))) ∧ Aside0 (Below w.heap.size w w'))
       case atStart => exact ⟨(0), zF, H', ⟨Nat.le_refl _⟩, ⟨zb AB⟩, ⟨zb AF⟩, ⟨zB⟩⟩
       case round =>
        clear H'; (try clear AL); (try clear AJ); (try clear AV); (try clear Aa); (try clear Ab); (try clear Ac); (try clear Ad); obtain ⟨AC, rfl, HA, Ai, AB, AF, HB⟩ := hrel
        cases gk with
        | zero => exact absurd HA.out (by simp [spec_StateSame.l1])
        | succ k3 =>
         have H := HA.out; clear HA; simp only [spec_StateSame.l1] at H
         by_cases AN : AC < (l0_1.length : Int)
         ·rw [if_pos AN] at H; have Ag : decide (AC < (l0_1.length : Int)) = true := decide_eq_true AN; clear AN
          by_cases AY : 0 ≤ AC
          ·rw [if_pos AY] at H; have Bl : decide (0 ≤ AC) = true := decide_eq_true AY; clear AY
           by_cases AZ : AC < (l1_1.length : Int)
           ·rw [if_pos AZ] at H; have Bm : decide (AC < (l1_1.length : Int)) = true := decide_eq_true AZ; clear AZ
            by_cases AO : (!(((rd_T58 l0_1 AC).f0) == ((rd_T58 l1_1 AC).f0)) || (!(((rd_T58 l0_1 AC).f1) == ((rd_T58 l1_1 AC).f1)))) = true
            ·rw [if_pos AO] at H; have Ah : (!(((rd_T58 l0_1 AC).f0) == ((rd_T58 l1_1 AC).f0)) || (!(((rd_T58 l0_1 AC).f1) == ((rd_T58 l1_1 AC).f1)))) = true := AO; clear AO; obtain rfl := Option.some.inj H; have Br := AD.out; have By := AE.out; obtain ⟨Ay, Az, BR, BS⟩ := zc2 AB; have p506 : 0 ≤ (AC : Int) := zd; have q506 : AC < (l0_1.length : Int) := zd; obtain ⟨ad506, e506, hx506_0, hx506_1⟩ := at_T58 (Kd.C_below HR0_1.out HB.out) AC p506 q506; cases e506; replace p506 := eq_true p506; replace q506 := eq_true q506; obtain ⟨B0, B2, BT, BU⟩ := zc2 AF; have p507 : 0 ≤ (AC : Int) := zd; have q507 : AC < (l1_1.length : Int) := zd; obtain ⟨ad507, e507, hx507_0, hx507_1⟩ := at_T58 (Kd.C_below HR1_1.out HB.out) AC p507 q507; cases e507; replace p507 := eq_true p507; replace q507 := eq_true q507
             go_wp2
             repeat (go_quiet (fail); try go_wp2)
             go_ret
             exact ⟨zE, zB⟩
            ·rw [if_neg AO] at H
             have Ah : (!(((rd_T58 l0_1 AC).f0) == ((rd_T58 l1_1 AC).f0)) || (!(((rd_T58 l0_1 AC).f1) == ((rd_T58 l1_1 AC).f1)))) = false := by simpa using AO
             clear AO
             have H' := zm H
             clear H; have Bs := AD.out; have Bz := AE.out; obtain ⟨B3, BA, BV, BW⟩ := zc2 AB; have p506 : 0 ≤ (AC : Int) := zd; have q506 : AC < (l0_1.length : Int) := zd; obtain ⟨ad506, e506, hx506_0, hx506_1⟩ := at_T58 (Kd.C_below HR0_1.out HB.out) AC p506 q506; cases e506; replace p506 := eq_true p506; replace q506 := eq_true q506; obtain ⟨BB, BC, BX, BY⟩ := zc2 AF; have p507 : 0 ≤ (AC : Int) := zd; have q507 : AC < (l1_1.length : Int) := zd; obtain ⟨ad507, e507, hx507_0, hx507_1⟩ := at_T58 (Kd.C_below HR1_1.out HB.out) AC p507 q507; cases e507; replace p507 := eq_true p507; replace q507 := eq_true q507
             go_wp2
             repeat (go_quiet (fail); try go_wp2)
             go_roundg k3
             case measure => have := AT.out; have := AU.out; have := Ai.out; omega
             case rel => exact ⟨(wrap64 (AC + 1)), zF, H', ⟨by have := AT.out; have := AU.out; have := Ai.out; omega⟩, ⟨zb AB⟩, ⟨zb AF⟩, ⟨zB⟩⟩
           ·rw [if_neg AZ] at H
            exact absurd H (by simp)
          ·rw [if_neg AY] at H
           exact absurd H (by simp)
         ·rw [if_neg AN] at H; have Ag : decide (AC < (l0_1.length : Int)) = false := decide_eq_false AN; clear AN; obtain rfl := Option.some.inj H; have Bt := AD.out; have C0 := AE.out; obtain ⟨BD, BE, BZ, Ba⟩ := zc2 AB
          go_wp2
          repeat (go_quiet (fail); try go_wp2)
          go_ret
          exact ⟨zE, zB⟩
end

end Go.Proofs.Ytnmofppbijmhoaa.P
