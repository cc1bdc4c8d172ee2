-- by a program of this session, for this seat
import Derived.Test.YtomlglpmljngfaaDoorHandIo
import Derived.Test.YtomlglpmljngfaaDoorZ
import Derived.Test.YtomlglpmljngfaaDoorP0
import Derived.Test.YtomlglpmljngfaaDoorPak
import Derived.Test.YtomlglpmljngfaaDoorPae
namespace Go.Proofs.YtomlglpmljngfaaDoor.P
open Go.RowKit Go.Proofs.YtomlglpmljngfaaDoorW.PrintWords Go.Proofs.YtomlglpmljngfaaDoorW.PrintLast Go.Proofs.YtomlglpmljngfaaDoorW.PrintMore Go.Proofs.YtomlglpmljngfaaDoor.Z Go.Proofs.YtomlglpmljngfaaDoor.HandIo
attribute [local go_sem] max2_int min2_int max_two min_two max_three min_three max_four min_four   -- for this text's walks alone
set_option linter.unusedVariables false
set_option linter.unusedSimpArgs false

/-! ### impl_View: function 36 -/
def impl_View.l0 : Nat → List (S63) → List (S63) → Int → Int → Option ((List (S63)))
 | 0, _, _, _, _ => none
 | k + 1, x3, x12, x13, x14 => if x14 < x13 then (if 0 ≤ x14 then (if x14 < (x12.length : Int) then (if ((rd_T63 x12 x14).f1.f1) = 0 then (if x3.length < 2513169434916 then (impl_View.l0 k (x3 ++ [(⟨(rd_T63 x12 x14).f0, (⟨(rd_T63 x12 x14).f1.f0, (rd_T63 x12 x14).f1.f1, (rd_T63 x12 x14).f1.f2, (rd_T63 x12 x14).f1.f3, (rd_T63 x12 x14).f1.f4⟩ : S28)⟩ : S63)]) x12 x13 (wrap64 (x14 + 1))) else (none)) else (impl_View.l0 k x3 x12 x13 (wrap64 (x14 + 1)))) else (none)) else (none)) else (some x3)
def impl_View.f (k : Nat) (l0_0 : List (S63)) (l0_1 : List (S68)) : Option ((List (S63))) := (some (([] : List (S63)) : List (S63))).bind fun y372 => ((impl_StateOk.f k l0_0 l0_1).bind fun t375 => (if t375 = true then (impl_View.l0 k y372 l0_0 (l0_0.length : Int) 0) else (some y372)))
theorem impl_View.mono_l : ∀ k, (∀ y0 y1 y2 y3, LeO (impl_View.l0 k y0 y1 y2 y3) (impl_View.l0 (k + 1) y0 y1 y2 y3))
 | 0 => fun _ _ _ _ r h => by simp [impl_View.l0] at h
 | k + 1 => by
  have ih0 := impl_View.mono_l k
  ·intro y0 y1 y2 y3
   unfold impl_View.l0
   repeat' first | (with_reducible first | exact LeO.refl _ | exact LeO.none _ | refine LeO.ite ?_ ?_ | refine LeO.bind ?_ (fun _ => ?_) | apply ih0 | apply impl_StateOk.mono) | apply ih0 | apply impl_StateOk.mono | exact LeO.none _ | refine LeO.ite ?_ ?_ | refine LeO.bind ?_ (fun _ => ?_)
theorem impl_View.mono : ∀ a0 a1 k, LeO (impl_View.f k a0 a1) (impl_View.f (k + 1) a0 a1) := by
 intro a0 a1 k; have ih0 := impl_View.mono_l k
 unfold impl_View.f
 repeat' first | (with_reducible first | exact LeO.refl _ | exact LeO.none _ | refine LeO.ite ?_ ?_ | refine LeO.bind ?_ (fun _ => ?_) | apply ih0 | apply impl_StateOk.mono) | apply ih0 | apply impl_StateOk.mono | exact LeO.none _ | refine LeO.ite ?_ ?_ | refine LeO.bind ?_ (fun _ => ?_)
set_option maxHeartbeats 8000000 in
set_option maxRecDepth 100000 in
theorem impl_View.calls (k : Nat) (A0_0 : Option Addr) (c0_0 : Nat) (l0_0 : List (S63)) (A0_1 : Option Addr) (c0_1 : Nat) (l0_1 : List (S68)) (r : List (S63)) (w : World) (hr0_0 : Kd.C k63 w A0_0 l0_0.length l0_0) (hc0_0 : l0_0.length ≤ c0_0) (hr0_1 : Kd.C k68 w A0_1 l0_1.length l0_1) (hc0_1 : l0_1.length ≤ c0_1) (h : impl_View.f k l0_0 l0_1 = some r) :
  Calls Tryd.prog 36 #[.agg #[.slice A0_0 l0_0.length c0_0, .slice A0_1 l0_1.length c0_1]] w fun e w' => ∃ v0_ : Value, e = .returned (v0_) ∧ Kd.R k63 63 w' w.heap.size (fun _ => True) v0_ r ∧ Below w.heap.size w w' := by
 have hu45 := Tryd.underlying45; have hu63 := Tryd.underlying63; have HR0_0 := zm hr0_0; have HC0_0 := zm hc0_0; clear hr0_0 hc0_0; have HR0_1 := zm hr0_1; have HC0_1 := zm hc0_1; clear hr0_1 hc0_1; have HB := zm (Below.refl w.heap.size w); have H : ((some (([] : List (S63)) : List (S63))).bind fun y372 => ((impl_StateOk.f k l0_0 l0_1).bind fun AK => (if AK = true then (impl_View.l0 k y372 l0_0 (l0_0.length : Int) 0) else (some y372)))) = some r := h; clear h
 obtain ⟨y372, hy372⟩ : ∃ y_ : List (S63), y_ = (([] : List (S63))) := ⟨_, rfl⟩
 replace H : ((impl_StateOk.f k l0_0 l0_1).bind fun AK => (if AK = true then (impl_View.l0 k y372 l0_0 (l0_0.length : Int) 0) else (some y372))) = some r := by first | (rw [hy372]; with_reducible exact H) | (have H2_ := (Option.bind_some _ _).symm.trans H; rw [hy372]; with_reducible exact H2_) | (have H2_ := (Option.bind_some _ _).symm.trans H; with_reducible exact H2_) | with_reducible exact H | (rw [hy372]; exact H) | exact H
 have Ny372 := zm hy372; clear hy372; replace H := Option.bind_eq_some_iff.mp H; obtain ⟨AK, Ah, H⟩ := H; (try dsimp only at H); have A2 := zm Ah; clear Ah
 by_cases c3 : AK = true
 ·subst c3; rw [if_pos rfl] at H
  have H' := zm H
  clear H; go_enter Tryd.func36, Tryd.ntmps36
  go_wp2_with (first | ((with_reducible refine gate_dst (N := 1) rfl ?_); refine zbox 1 #[.slice A0_0 l0_0.length c0_0, .slice A0_1 l0_1.length c0_1] 45 ?_; intro AQ hg w4 hbox hb; have AC := zm (hbox); have Ab := zge w hg zB; have AZ := zge w hg zB; replace HB := zm (below_step zB hb); clear hb hbox hg) | ((with_reducible refine gate_dst (N := 6) rfl ?_); refine Kd.R_lit k63 _ 63 ?hg (N := 6) ?hd (xs := ([] : List (S63))) (inner := []) (ok := fun _ => True) (okp := fun _ => True) ?hr ?hp (fun _ hk => hk) trivial (Below.refl _ _) (Nat.le_refl _) (by simp) ?_; (case hd => rfl); (case hg => rfl); (case hr => first | (go_simp; done) | (go_simp; rfl)); (case hp => exact (Reps.none _ _)); intro v373 w5 ho6 hb hg_ hnew_; clear hg_ hnew_; (first | rw [← Ny372.out] at ho6 | (simp only [Int.reduceToNat] at ho6; rw [← Ny372.out] at ho6)); have AF := zm (Kd.R_lower ho6 (below_size zB)); replace AC := zy AC hb; replace HB := zm (below_step zB hb); clear hb ho6; obtain ⟨AR, AS, AV, AW⟩ := zc2 AC) | ((with_reducible refine gate_callee (f := 51) rfl ?_); refine zg (some 8) #[.agg #[.slice A0_0 l0_0.length c0_0, .slice A0_1 l0_1.length c0_1]] Tryd.func51 ?_; (with_reducible refine (impl_StateOk.calls k _ _ l0_0 _ _ l0_1 true _ (zk (Kd.C_below HR0_0.out HB.out)) HC0_0.out (zk (Kd.C_below HR0_1.out HB.out)) HC0_1.out A2.out).mono ?_); rintro e w8 ⟨rfl, hb⟩; refine ⟨_, rfl, ?_⟩; replace AF := zw AF hb; replace AC := zy AC hb; replace HB := zm (below_step zB hb); clear hb; obtain ⟨AT, AU, AX, AY⟩ := zc2 AC))
  go_loopg [3, 14] k (fun kq v3 v14 w' => ∃ (AI : List (S63)) (AA : Int), v14 = .int .i64 AA ∧ Aside0 (impl_View.l0 kq AI l0_0 (l0_0.length : Int) AA = some r) ∧ Aside0 (kq ≤ k) ∧ Aside0 (Kd.R k63 63 w' w.heap.size (fun _ => True) v3 AI) ∧ Aside0 (w'.heap[AQ]? = some (.cells #[(.slice A0_0 l0_0.length c0_0), (.slice A0_1 l0_1.length c0_1)] 45 (0, 0))) ∧ Aside0 (Below w.heap.size w w'))
  case atStart => exact ⟨(y372), (0), zF, H', ⟨Nat.le_refl _⟩, ⟨zr AF⟩, ⟨zb AC⟩, ⟨zB⟩⟩
  case round =>
   clear H'; (try clear c3); (try clear AR); (try clear AS); (try clear AT); (try clear AU); (try clear AV); (try clear AW); (try clear AX); (try clear AY); obtain ⟨AI, AA, rfl, HA, AM, AE, AC, HB⟩ := hrel
   cases gk with
   | zero => exact absurd HA.out (by simp [impl_View.l0])
   | succ k1 =>
    have H := HA.out; clear HA; simp only [impl_View.l0] at H
    by_cases AL : AA < (l0_0.length : Int)
    ·rw [if_pos AL] at H; have Ae : decide (AA < (l0_0.length : Int)) = true := decide_eq_true AL; clear AL
     by_cases AN : 0 ≤ AA
     ·rw [if_pos AN] at H; have BH : decide (0 ≤ AA) = true := decide_eq_true AN; clear AN
      by_cases AO : AA < (l0_0.length : Int)
      ·rw [if_pos AO] at H; have BI : decide (AA < (l0_0.length : Int)) = true := decide_eq_true AO; clear AO
       by_cases AJ : ((rd_T63 l0_0 AA).f1.f1) = 0
       ·rw [if_pos AJ] at H; have Af : (((rd_T63 l0_0 AA).f1.f1) == 0) = true := beq_iff_eq.mpr AJ; have Ag : (((rd_T63 l0_0 AA).f1.f1) != 0) = false := bne_eq_false_iff_eq.mpr AJ; clear AJ
        by_cases AP : AI.length < 2513169434916
        ·rw [if_pos AP] at H; have LMc14 := zm AP; clear AP
         obtain ⟨y378, hy378⟩ : ∃ y_ : List (S63), y_ = (AI ++ [(⟨(rd_T63 l0_0 AA).f0, (⟨(rd_T63 l0_0 AA).f1.f0, (rd_T63 l0_0 AA).f1.f1, (rd_T63 l0_0 AA).f1.f2, (rd_T63 l0_0 AA).f1.f3, (rd_T63 l0_0 AA).f1.f4⟩ : S28)⟩ : S63)]) := ⟨_, rfl⟩
         replace H : (impl_View.l0 k1 y378 l0_0 (l0_0.length : Int) (wrap64 (AA + 1))) = some r := by first | (rw [hy378]; with_reducible exact H) | (have H2_ := (Option.bind_some _ _).symm.trans H; rw [hy378]; with_reducible exact H2_) | (have H2_ := (Option.bind_some _ _).symm.trans H; with_reducible exact H2_) | with_reducible exact H | (rw [hy378]; exact H) | exact H
         have Ny378 := zm hy378; clear hy378
         have H' := zm H
         clear H; have p376 : 0 ≤ (AA : Int) := zd; have q376 : AA < (l0_0.length : Int) := zd; obtain ⟨ad376, e376, hx376_0, hx376_1, hx376_2, hx376_3, hx376_4, hx376_5⟩ := at_T63 (Kd.C_below HR0_0.out HB.out) AA p376 q376; cases e376; replace p376 := eq_true p376; replace q376 := eq_true q376
         go_wp2_with (first | ((with_reducible refine gate_dst (N := 5) rfl ?_); refine zbox 5 #[.int .i64 0, .int .i64 0, .int .i64 0, .int .i64 0, .int .i64 0, .string (⟨#[]⟩ : ByteArray)] 63 ?_; intro AD hg BN hbox hb; replace AE := zm (Kd.R_below (Kd.R_elderB (zr AE) AD (Nat.le_of_eq hg.symm)) hb); have AH := zm (hbox); have Ac := zge w hg zB; have Aa := zge w hg zB; replace HB := zm (below_step zB hb); have AB := zlt hg (zb AC); have AG := zgt hg (zb AC); replace AC := zy AC hb; clear hb hbox hg; have BJ := AG.out; have BL := AB.out; obtain ⟨Ai, Aj, Ak, Al, Am, An, Aw, Ax, Ay, Az, B0, B2⟩ := zc6 AH) | ((with_reducible refine gate_builtin (b := .append) (xs := #[.tmp 22, .tmp 24]) rfl ?_); at_builtin; refine Kd.R_append k63 (w0 := w) w.heap.size rfl (.tmp 22) (.tmp 24) 42 63 (.agg #[(.int .i64 0), (.int .i64 0), (.int .i64 0), (.int .i64 0), (.int .i64 0), (.string ⟨#[]⟩)]) 56 rfl Tryd.underlying42 info63 rfl (by decide) (by omega) u3 AI (⟨(rd_T63 l0_0 AA).f0, (⟨(rd_T63 l0_0 AA).f1.f0, (rd_T63 l0_0 AA).f1.f1, (rd_T63 l0_0 AA).f1.f2, (rd_T63 l0_0 AA).f1.f3, (rd_T63 l0_0 AA).f1.f4⟩ : S28)⟩ : S63) [.int .i64 ((rd_T63 l0_0 AA).f0), .int .i64 ((rd_T63 l0_0 AA).f1.f0), .int .i64 ((rd_T63 l0_0 AA).f1.f1), .int .i64 ((rd_T63 l0_0 AA).f1.f2), .int .i64 ((rd_T63 l0_0 AA).f1.f3), .string ((rd_T63 l0_0 AA).f1.f4)] (fun k_ => k_ ≠ AD) (fun _ => False) rfl (by first | (go_simp; done) | (go_simp; rfl)) ?aP (fun _ hk => hk.elim) ?aF ?aO ?aB ?aS ?aL ?_; (case aP => exact k63_mkM _ _ _ (⟨(rd_T63 l0_0 AA).f0, (⟨(rd_T63 l0_0 AA).f1.f0, (rd_T63 l0_0 AA).f1.f1, (rd_T63 l0_0 AA).f1.f2, (rd_T63 l0_0 AA).f1.f3, (rd_T63 l0_0 AA).f1.f4⟩ : S28)⟩ : S63)); (case aB => exact zB); (case aF => exact (fun k_ hk => Kd.freshB (g := AD) (o := .cells #[.int .i64 ((rd_T63 l0_0 AA).f0), .int .i64 ((rd_T63 l0_0 AA).f1.f0), .int .i64 ((rd_T63 l0_0 AA).f1.f1), .int .i64 ((rd_T63 l0_0 AA).f1.f2), .int .i64 ((rd_T63 l0_0 AA).f1.f3), .string ((rd_T63 l0_0 AA).f1.f4)] 63 (0, 0)) (zput (zput (zput (zput (zput (zput (zb AH) 0) 1) 2) 3) 4) 5) k_ hk)); (case aO => exact (zrs <| Kd.R_mono (zfr (zfr (zfr (zfr (zfr (zfr (Kd.R_mono AE.out (fun k_ hk => (⟨hk, hk.2⟩ : _ ∧ k_ ≠ AD))))))))) (fun _ hk => hk.1.2))); (case aS => exact (below_size zB)); (case aL => have := LMc14.out; omega); intro v379 BO ho hb hg hat; rw [← Ny378.out] at ho; replace AC := zgr hg (zfar (zfar (zfar (zfar (zfar (zfar (zb AC) AB) AB) AB) AB) AB) AB) (Kd.R_ne AE.out AC.out (by decide)); replace AH := zm (blk_grown (g := AD) (o := .cells #[.int .i64 ((rd_T63 l0_0 AA).f0), .int .i64 ((rd_T63 l0_0 AA).f1.f0), .int .i64 ((rd_T63 l0_0 AA).f1.f1), .int .i64 ((rd_T63 l0_0 AA).f1.f2), .int .i64 ((rd_T63 l0_0 AA).f1.f3), .string ((rd_T63 l0_0 AA).f1.f4)] 63 (0, 0)) (zput (zput (zput (zput (zput (zput (zb AH) 0) 1) 2) 3) 4) 5) hg (Kd.R_away AE.out (fun _ hk => hk.2))); replace HB := zm hb; have Ad := zm (ho); clear AE; clear ho hb hg hat))
         go_roundg k1
         case measure => have := AM.out; omega
         case rel => exact ⟨(y378), (wrap64 (AA + 1)), zF, H', ⟨by have := AM.out; omega⟩, ⟨by (with_reducible repeat (first | apply Kd.R_alloc | apply Kd.R_drewN | apply Kd.R_drew)); exact Kd.R_mono Ad.out (fun _ hk => trivial)⟩, ⟨zb AC⟩, ⟨zB⟩⟩
        ·rw [if_neg AP] at H
         exact absurd H (by simp)
       ·rw [if_neg AJ] at H; have Af : (((rd_T63 l0_0 AA).f1.f1) == 0) = false := beq_eq_false_iff_ne.mpr AJ; have Ag : (((rd_T63 l0_0 AA).f1.f1) != 0) = true := bne_iff_ne.mpr AJ
        have H' := zm H
        clear H; have p376 : 0 ≤ (AA : Int) := zd; have q376 : AA < (l0_0.length : Int) := zd; obtain ⟨ad376, e376, hx376_0, hx376_1, hx376_2, hx376_3, hx376_4, hx376_5⟩ := at_T63 (Kd.C_below HR0_0.out HB.out) AA p376 q376; cases e376; replace p376 := eq_true p376; replace q376 := eq_true q376
        go_wp2_with (first | ((with_reducible refine gate_dst (N := 5) rfl ?_); refine zbox 5 #[.int .i64 0, .int .i64 0, .int .i64 0, .int .i64 0, .int .i64 0, .string (⟨#[]⟩ : ByteArray)] 63 ?_; intro AD hg BP hbox hb; replace AE := zm (Kd.R_below (Kd.R_elderB (zr AE) AD (Nat.le_of_eq hg.symm)) hb); have AH := zm (hbox); have Ac := zge w hg zB; have Aa := zge w hg zB; replace HB := zm (below_step zB hb); have AB := zlt hg (zb AC); have AG := zgt hg (zb AC); replace AC := zy AC hb; clear hb hbox hg; have BK := AG.out; have BM := AB.out; obtain ⟨Ao, Ap, Aq, Ar, As, At, B3, BA, BB, BC, BD, BE⟩ := zc6 AH))
        go_roundg k1
        case measure => have := AM.out; omega
        case rel => exact ⟨(AI), (wrap64 (AA + 1)), zF, H', ⟨by have := AM.out; omega⟩, ⟨zrs <| Kd.R_mono (zfr (zfr (zfr (zfr (zfr (zfr (Kd.R_mono AE.out (fun k_ hk => (⟨hk, hk.2⟩ : _ ∧ k_ ≠ AD))))))))) (fun _ hk => trivial)⟩, ⟨zfar (zfar (zfar (zfar (zfar (zfar (zb AC) AB) AB) AB) AB) AB) AB⟩, ⟨zB⟩⟩
      ·rw [if_neg AO] at H
       exact absurd H (by simp)
     ·rw [if_neg AN] at H
      exact absurd H (by simp)
    ·rw [if_neg AL] at H; have Ae : decide (AA < (l0_0.length : Int)) = false := decide_eq_false AL; clear AL; obtain rfl := Option.some.inj H
     go_wp2
     go_ret
     exact ⟨_, zE, zr AE, zB⟩
 ·replace c3 := Bool.eq_false_iff.mpr c3; subst c3; rw [zff] at H; obtain rfl := Option.some.inj H; go_enter Tryd.func36, Tryd.ntmps36
  go_wp2_with (first | ((with_reducible refine gate_dst (N := 1) rfl ?_); refine zbox 1 #[.slice A0_0 l0_0.length c0_0, .slice A0_1 l0_1.length c0_1] 45 ?_; intro AQ hg BQ hbox hb; have AC := zm (hbox); have Ab := zge w hg zB; have AZ := zge w hg zB; replace HB := zm (below_step zB hb); clear hb hbox hg) | ((with_reducible refine gate_dst (N := 6) rfl ?_); refine Kd.R_lit k63 _ 63 ?hg (N := 6) ?hd (xs := ([] : List (S63))) (inner := []) (ok := fun _ => True) (okp := fun _ => True) ?hr ?hp (fun _ hk => hk) trivial (Below.refl _ _) (Nat.le_refl _) (by simp) ?_; (case hd => rfl); (case hg => rfl); (case hr => first | (go_simp; done) | (go_simp; rfl)); (case hp => exact (Reps.none _ _)); intro v373 BR ho24 hb hg_ hnew_; clear hg_ hnew_; (first | rw [← Ny372.out] at ho24 | (simp only [Int.reduceToNat] at ho24; rw [← Ny372.out] at ho24)); have AF := zm (Kd.R_lower ho24 (below_size zB)); replace AC := zy AC hb; replace HB := zm (below_step zB hb); clear hb ho24; obtain ⟨Au, Av, BF, BG⟩ := zc2 AC) | ((with_reducible refine gate_callee (f := 51) rfl ?_); refine zg (some 8) #[.agg #[.slice A0_0 l0_0.length c0_0, .slice A0_1 l0_1.length c0_1]] Tryd.func51 ?_; (with_reducible refine (impl_StateOk.calls k _ _ l0_0 _ _ l0_1 false _ (zk (Kd.C_below HR0_0.out HB.out)) HC0_0.out (zk (Kd.C_below HR0_1.out HB.out)) HC0_1.out A2.out).mono ?_); rintro e BS ⟨rfl, hb⟩; refine ⟨_, rfl, ?_⟩; replace AF := zw AF hb; replace AC := zy AC hb; replace HB := zm (below_step zB hb); clear hb))
  go_ret
  exact ⟨_, zE, zr AF, zB⟩

/-! ### impl_ViewText: function 29 -/
def impl_ViewText.f (k : Nat) (l0_0 : List (S63)) (l0_1 : List (S68)) : Option (ByteArray) := (impl_View.f k l0_0 l0_1).bind fun t382 => ((impl_StateText.f k t382 ([] : List (S68))).bind fun t385 => (some t385))
theorem impl_ViewText.mono : ∀ a0 a1 k, LeO (impl_ViewText.f k a0 a1) (impl_ViewText.f (k + 1) a0 a1) := by
 intro a0 a1 k
 unfold impl_ViewText.f
 repeat' first | (with_reducible first | exact LeO.refl _ | exact LeO.none _ | refine LeO.ite ?_ ?_ | refine LeO.bind ?_ (fun _ => ?_) | apply impl_StateText.mono | apply impl_View.mono) | apply impl_StateText.mono | apply impl_View.mono | exact LeO.none _ | refine LeO.ite ?_ ?_ | refine LeO.bind ?_ (fun _ => ?_)
set_option maxHeartbeats 8000000 in
set_option maxRecDepth 100000 in
theorem impl_ViewText.calls (k : Nat) (A0_0 : Option Addr) (c0_0 : Nat) (l0_0 : List (S63)) (A0_1 : Option Addr) (c0_1 : Nat) (l0_1 : List (S68)) (r : ByteArray) (w : World) (hr0_0 : Kd.C k63 w A0_0 l0_0.length l0_0) (hc0_0 : l0_0.length ≤ c0_0) (hr0_1 : Kd.C k68 w A0_1 l0_1.length l0_1) (hc0_1 : l0_1.length ≤ c0_1) (hT : Go.Proofs.YtomlglpmljngfaaDoor.HandIo.TI w) (h : impl_ViewText.f k l0_0 l0_1 = some r) :
  Calls Tryd.prog 29 #[.agg #[.slice A0_0 l0_0.length c0_0, .slice A0_1 l0_1.length c0_1]] w fun e w' => e = .returned (.string r) ∧ Below w.heap.size w w' := by
 have HT := zm hT; clear hT
 have hu45 := Tryd.underlying45; have HR0_0 := zm hr0_0; have HC0_0 := zm hc0_0; clear hr0_0 hc0_0; have HR0_1 := zm hr0_1; have HC0_1 := zm hc0_1; clear hr0_1 hc0_1; have HB := zm (Below.refl w.heap.size w); have H : ((impl_View.f k l0_0 l0_1).bind fun AC => ((impl_StateText.f k AC ([] : List (S68))).bind fun AD => (some AD))) = some r := h; clear h; replace H := Option.bind_eq_some_iff.mp H; obtain ⟨AC, AE, H⟩ := H; (try dsimp only at H); have A2 := zm AE; clear AE; replace H := Option.bind_eq_some_iff.mp H; obtain ⟨AD, AF, H⟩ := H; (try dsimp only at H); have A3 := zm AF; clear AF; obtain rfl := Option.some.inj H; go_enter Tryd.func29, Tryd.ntmps29
 go_wp2_with (first | ((with_reducible refine gate_dst (N := 1) rfl ?_); refine zbox 1 #[.slice A0_0 l0_0.length c0_0, .slice A0_1 l0_1.length c0_1] 45 ?_; intro AO hg w4 hbox hb; have AA := zm (hbox); have AN := zge w hg zB; have AM := zge w hg zB; replace HB := zm (below_step zB hb); clear hb hbox hg; obtain ⟨AI, AJ, AK, AL⟩ := zc2 AA) | ((with_reducible refine gate_callee (f := 36) rfl ?_); refine zg (some 4) #[.agg #[.slice A0_0 l0_0.length c0_0, .slice A0_1 l0_1.length c0_1]] Tryd.func36 ?_; (with_reducible refine (impl_View.calls k _ _ l0_0 _ _ l0_1 AC _ (zk (Kd.C_below HR0_0.out HB.out)) HC0_0.out (zk (Kd.C_below HR0_1.out HB.out)) HC0_1.out A2.out).mono ?_); rintro e w6 ⟨v383, rfl, ho0, hb⟩; refine ⟨_, rfl, ?_⟩; have AB := zm (Kd.R_lower ho0 (below_size zB)); replace AA := zy AA hb; replace HB := zm (below_step zB hb); clear hb ho0; obtain ⟨AG, AH, eo7⟩ := Kd.R_slice AB.out; subst eo7) | ((with_reducible refine gate_callee (f := 24) rfl ?_); refine zg (some 6) #[.agg #[.slice AG AC.length AH, .slice none 0 0]] Tryd.func24 ?_; (refine (impl_StateText.calls k _ _ AC _ _ ([] : List (S68)) AD _ ?side1 ?side2 ?side3 ?side4 zT A3.out).mono ?_); (case side1 => repeat (first | exact (Kd.R_reads' AB.out).2.2 | (with_reducible refine Kd.C_alloc ?_ _) | (with_reducible refine Kd.C_drewN ?_ _) | (with_reducible refine Kd.C_drew ?_))); (case side2 => exact (Kd.R_reads' AB.out).2.1); (case side3 => exact Kd.C_nil _ _); (case side4 => exact Nat.le_refl _); rintro e w8 ⟨rfl, hb⟩; refine ⟨_, rfl, ?_⟩; replace AB := zw AB hb; replace AA := zy AA hb; replace HB := zm (below_step zB hb); clear hb))
 go_ret
 exact ⟨zE, zB⟩

end Go.Proofs.YtomlglpmljngfaaDoor.P
