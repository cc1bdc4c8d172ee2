-- by a program of this session, for this seat
import Derived.Test.YtomlglpmljngfaaDoorZ
import Derived.Test.YtomlglpmljngfaaDoorP0
import Derived.Test.YtomlglpmljngfaaDoorPai
import Derived.Test.YtomlglpmljngfaaDoorPae
namespace Go.Proofs.YtomlglpmljngfaaDoor.P
open Go.RowKit Go.Proofs.YtomlglpmljngfaaDoorW.PrintWords Go.Proofs.YtomlglpmljngfaaDoorW.PrintLast Go.Proofs.YtomlglpmljngfaaDoorW.PrintMore Go.Proofs.YtomlglpmljngfaaDoor.Z
attribute [local go_sem] max2_int min2_int max_two min_two max_three min_three max_four min_four   -- for this text's walks alone
set_option linter.unusedVariables false
set_option linter.unusedSimpArgs false

/-! ### spec_View: function 49 -/
def spec_View.l0 : Nat → List (S63) → Int → List (S63) → List (S68) → Option ((List (S63)))
 | 0, _, _, _, _ => none
 | k + 1, x3, x4, x336000, x336001 => if x4 < (x336000.length : Int) then (if 0 ≤ x4 then (if ((rd_T63 x336000 x4).f1.f1) = 0 then (if x3.length < 2513169434916 then (spec_View.l0 k (x3 ++ [(⟨(rd_T63 x336000 x4).f0, (⟨(rd_T63 x336000 x4).f1.f0, (rd_T63 x336000 x4).f1.f1, (rd_T63 x336000 x4).f1.f2, (rd_T63 x336000 x4).f1.f3, (rd_T63 x336000 x4).f1.f4⟩ : S28)⟩ : S63)]) (wrap64 (x4 + 1)) x336000 x336001) else (none)) else (spec_View.l0 k x3 (wrap64 (x4 + 1)) x336000 x336001)) else (none)) else (some x3)
def spec_View.f (k : Nat) (l0_0 : List (S63)) (l0_1 : List (S68)) : Option ((List (S63))) := (some (([] : List (S63)) : List (S63))).bind fun y336 => ((spec_StateOk.f k l0_0 l0_1).bind fun t339 => (if t339 = true then (spec_View.l0 k y336 0 l0_0 l0_1) else (some y336)))
theorem spec_View.mono_l : ∀ k, (∀ y0 y1 y2 y3, LeO (spec_View.l0 k y0 y1 y2 y3) (spec_View.l0 (k + 1) y0 y1 y2 y3))
 | 0 => fun _ _ _ _ r h => by simp [spec_View.l0] at h
 | k + 1 => by
  have ih0 := spec_View.mono_l k
  ·intro y0 y1 y2 y3
   unfold spec_View.l0
   repeat' first | (with_reducible first | exact LeO.refl _ | exact LeO.none _ | refine LeO.ite ?_ ?_ | refine LeO.bind ?_ (fun _ => ?_) | apply ih0 | apply spec_StateOk.mono) | apply ih0 | apply spec_StateOk.mono | exact LeO.none _ | refine LeO.ite ?_ ?_ | refine LeO.bind ?_ (fun _ => ?_)
theorem spec_View.mono : ∀ a0 a1 k, LeO (spec_View.f k a0 a1) (spec_View.f (k + 1) a0 a1) := by
 intro a0 a1 k; have ih0 := spec_View.mono_l k
 unfold spec_View.f
 repeat' first | (with_reducible first | exact LeO.refl _ | exact LeO.none _ | refine LeO.ite ?_ ?_ | refine LeO.bind ?_ (fun _ => ?_) | apply ih0 | apply spec_StateOk.mono) | apply ih0 | apply spec_StateOk.mono | exact LeO.none _ | refine LeO.ite ?_ ?_ | refine LeO.bind ?_ (fun _ => ?_)
set_option maxHeartbeats 8000000 in
set_option maxRecDepth 100000 in
theorem spec_View.calls (k : Nat) (A0_0 : Option Addr) (c0_0 : Nat) (l0_0 : List (S63)) (A0_1 : Option Addr) (c0_1 : Nat) (l0_1 : List (S68)) (r : List (S63)) (w : World) (hr0_0 : Kd.C k63 w A0_0 l0_0.length l0_0) (hc0_0 : l0_0.length ≤ c0_0) (hr0_1 : Kd.C k68 w A0_1 l0_1.length l0_1) (hc0_1 : l0_1.length ≤ c0_1) (h : spec_View.f k l0_0 l0_1 = some r) :
  Calls Tryd.prog 49 #[.agg #[.slice A0_0 l0_0.length c0_0, .slice A0_1 l0_1.length c0_1]] w fun e w' => ∃ v0_ : Value, e = .returned (v0_) ∧ Kd.R k63 63 w' w.heap.size (fun _ => True) v0_ r ∧ Below w.heap.size w w' := by
 have hu45 := Tryd.underlying45; have hu63 := Tryd.underlying63; have HR0_0 := zm hr0_0; have HC0_0 := zm hc0_0; clear hr0_0 hc0_0; have HR0_1 := zm hr0_1; have HC0_1 := zm hc0_1; clear hr0_1 hc0_1; have HB := zm (Below.refl w.heap.size w); have H : ((some (([] : List (S63)) : List (S63))).bind fun y336 => ((spec_StateOk.f k l0_0 l0_1).bind fun AG => (if AG = true then (spec_View.l0 k y336 0 l0_0 l0_1) else (some y336)))) = some r := h; clear h
 obtain ⟨y336, hy336⟩ : ∃ y_ : List (S63), y_ = (([] : List (S63))) := ⟨_, rfl⟩
 replace H : ((spec_StateOk.f k l0_0 l0_1).bind fun AG => (if AG = true then (spec_View.l0 k y336 0 l0_0 l0_1) else (some y336))) = some r := by first | (rw [hy336]; with_reducible exact H) | (have H2_ := (Option.bind_some _ _).symm.trans H; rw [hy336]; with_reducible exact H2_) | (have H2_ := (Option.bind_some _ _).symm.trans H; with_reducible exact H2_) | with_reducible exact H | (rw [hy336]; exact H) | exact H
 have Ny336 := zm hy336; clear hy336; replace H := Option.bind_eq_some_iff.mp H; obtain ⟨AG, AU, H⟩ := H; (try dsimp only at H); have A2 := zm AU; clear AU
 by_cases c3 : AG = true
 ·subst c3; rw [if_pos rfl] at H
  have H' := zm H
  clear H; go_enter Tryd.func49, Tryd.ntmps49
  go_wp2_with (first | ((with_reducible refine gate_dst (N := 1) rfl ?_); refine zbox 1 #[.slice A0_0 l0_0.length c0_0, .slice A0_1 l0_1.length c0_1] 45 ?_; intro AK hg w4 hbox hb; have AB := zm (hbox); have AQ := zge w hg zB; have AP := zge w hg zB; replace HB := zm (below_step zB hb); clear hb hbox hg) | ((with_reducible refine gate_dst (N := 5) rfl ?_); refine Kd.R_lit k63 _ 63 ?hg (N := 5) ?hd (xs := ([] : List (S63))) (inner := []) (ok := fun _ => True) (okp := fun _ => True) ?hr ?hp (fun _ hk => hk) trivial (Below.refl _ _) (Nat.le_refl _) (by simp) ?_; (case hd => rfl); (case hg => rfl); (case hr => first | (go_simp; done) | (go_simp; rfl)); (case hp => exact (Reps.none _ _)); intro v337 w5 ho6 hb hg_ hnew_; clear hg_ hnew_; (first | rw [← Ny336.out] at ho6 | (simp only [Int.reduceToNat] at ho6; rw [← Ny336.out] at ho6)); have AC := zm (Kd.R_lower ho6 (below_size zB)); replace AB := zy AB hb; replace HB := zm (below_step zB hb); clear hb ho6; obtain ⟨AL, AM, AN, AO⟩ := zc2 AB) | ((with_reducible refine gate_callee (f := 53) rfl ?_); refine zg (some 7) #[.agg #[.slice A0_0 l0_0.length c0_0, .slice A0_1 l0_1.length c0_1]] Tryd.func53 ?_; (with_reducible refine (spec_StateOk.calls k _ _ l0_0 _ _ l0_1 true _ (zk (Kd.C_below HR0_0.out HB.out)) HC0_0.out (zk (Kd.C_below HR0_1.out HB.out)) HC0_1.out A2.out).mono ?_); rintro e w8 ⟨rfl, hb⟩; refine ⟨_, rfl, ?_⟩; replace AC := zw AC hb; replace AB := zy AB hb; replace HB := zm (below_step zB hb); clear hb))
  go_loopg [3, 4] k (fun kq v3 v4 w' => ∃ (AD : List (S63)) (AA : Int), v4 = .int .i64 AA ∧ Aside0 (spec_View.l0 kq AD AA l0_0 l0_1 = some r) ∧ Aside0 (kq ≤ k) ∧ Aside0 (Kd.R k63 63 w' w.heap.size (fun _ => True) v3 AD) ∧ Aside0 (w'.heap[AK]? = some (.cells #[(.slice A0_0 l0_0.length c0_0), (.slice A0_1 l0_1.length c0_1)] 45 (0, 0))) ∧ Aside0 (Below w.heap.size w w'))
  case atStart => exact ⟨(y336), (0), zF, H', ⟨Nat.le_refl _⟩, ⟨zr AC⟩, ⟨zb AB⟩, ⟨zB⟩⟩
  case round =>
   clear H'; (try clear c3); (try clear AL); (try clear AM); (try clear AN); (try clear AO); obtain ⟨AD, AA, rfl, HA, AH, AE, AB, HB⟩ := hrel
   cases gk with
   | zero => exact absurd HA.out (by simp [spec_View.l0])
   | succ k1 =>
    have H := HA.out; clear HA; simp only [spec_View.l0] at H
    by_cases c9 : AA < (l0_0.length : Int)
    ·rw [if_pos c9] at H; have AV : decide (AA < (l0_0.length : Int)) = true := decide_eq_true c9; clear c9
     by_cases AI : 0 ≤ AA
     ·rw [if_pos AI] at H; have Am : decide (0 ≤ AA) = true := decide_eq_true AI; clear AI
      by_cases AF : ((rd_T63 l0_0 AA).f1.f1) = 0
      ·rw [if_pos AF] at H; have AS : (((rd_T63 l0_0 AA).f1.f1) == 0) = true := beq_iff_eq.mpr AF; have AT : (((rd_T63 l0_0 AA).f1.f1) != 0) = false := bne_eq_false_iff_eq.mpr AF; clear AF
       by_cases AJ : AD.length < 2513169434916
       ·rw [if_pos AJ] at H; have LMc12 := zm AJ; clear AJ
        obtain ⟨y342, hy342⟩ : ∃ y_ : List (S63), y_ = (AD ++ [(⟨(rd_T63 l0_0 AA).f0, (⟨(rd_T63 l0_0 AA).f1.f0, (rd_T63 l0_0 AA).f1.f1, (rd_T63 l0_0 AA).f1.f2, (rd_T63 l0_0 AA).f1.f3, (rd_T63 l0_0 AA).f1.f4⟩ : S28)⟩ : S63)]) := ⟨_, rfl⟩
        replace H : (spec_View.l0 k1 y342 (wrap64 (AA + 1)) l0_0 l0_1) = some r := by first | (rw [hy342]; with_reducible exact H) | (have H2_ := (Option.bind_some _ _).symm.trans H; rw [hy342]; with_reducible exact H2_) | (have H2_ := (Option.bind_some _ _).symm.trans H; with_reducible exact H2_) | with_reducible exact H | (rw [hy342]; exact H) | exact H
        have Ny342 := zm hy342; clear hy342
        have H' := zm H
        clear H; obtain ⟨AW, AX, Ae, Af⟩ := zc2 AB; have p340 : 0 ≤ (AA : Int) := zd; have q340 : AA < (l0_0.length : Int) := zd; obtain ⟨ad340, e340, hx340_0, hx340_1, hx340_2, hx340_3, hx340_4, hx340_5⟩ := at_T63 (Kd.C_below HR0_0.out HB.out) AA p340 q340; cases e340; replace p340 := eq_true p340; replace q340 := eq_true q340; have p341 : 0 ≤ (AA : Int) := zd; have q341 : AA < (l0_0.length : Int) := zd; obtain ⟨ad341, e341, hx341_0, hx341_1, hx341_2, hx341_3, hx341_4, hx341_5⟩ := at_T63 (Kd.C_below HR0_0.out HB.out) AA p341 q341
        obtain rfl : ad340 = ad341 := (by injection e341)
        replace p341 := eq_true p341; replace q341 := eq_true q341
        go_wp2_with (first | ((with_reducible refine gate_builtin (b := .append) (xs := #[.tmp 25, .tmp 31]) rfl ?_); at_builtin; refine Kd.R_append k63 (w0 := w) w.heap.size rfl (.tmp 25) (.tmp 31) 42 63 (.agg #[(.int .i64 0), (.int .i64 0), (.int .i64 0), (.int .i64 0), (.int .i64 0), (.string ⟨#[]⟩)]) 56 rfl Tryd.underlying42 info63 rfl (by decide) (by omega) u3 AD (⟨(rd_T63 l0_0 AA).f0, (⟨(rd_T63 l0_0 AA).f1.f0, (rd_T63 l0_0 AA).f1.f1, (rd_T63 l0_0 AA).f1.f2, (rd_T63 l0_0 AA).f1.f3, (rd_T63 l0_0 AA).f1.f4⟩ : S28)⟩ : S63) [.int .i64 ((rd_T63 l0_0 AA).f0), .int .i64 ((rd_T63 l0_0 AA).f1.f0), .int .i64 ((rd_T63 l0_0 AA).f1.f1), .int .i64 ((rd_T63 l0_0 AA).f1.f2), .int .i64 ((rd_T63 l0_0 AA).f1.f3), .string ((rd_T63 l0_0 AA).f1.f4)] (fun _ => True) (fun _ => False) rfl rfl ?aP (fun _ hk => hk.elim) ?aF ?aO ?aB ?aS ?aL ?_; (case aP => exact k63_mkM _ _ _ (⟨(rd_T63 l0_0 AA).f0, (⟨(rd_T63 l0_0 AA).f1.f0, (rd_T63 l0_0 AA).f1.f1, (rd_T63 l0_0 AA).f1.f2, (rd_T63 l0_0 AA).f1.f3, (rd_T63 l0_0 AA).f1.f4⟩ : S28)⟩ : S63)); (case aB => exact zB); (case aF => exact (fun _ _ => trivial)); (case aO => exact (zr AE)); (case aS => exact (below_size zB)); (case aL => have := LMc12.out; omega); intro v343 An ho hb hg hat; rw [← Ny342.out] at ho; replace AB := zgr hg (zb AB) (Kd.R_ne AE.out AB.out (by decide)); replace HB := zm hb; have AR := zm (ho); clear AE; clear ho hb hg hat))
        go_roundg k1
        case measure => have := AH.out; omega
        case rel => exact ⟨(y342), (wrap64 (AA + 1)), zF, H', ⟨by have := AH.out; omega⟩, ⟨zr AR⟩, ⟨zb AB⟩, ⟨zB⟩⟩
       ·rw [if_neg AJ] at H
        exact absurd H (by simp)
      ·rw [if_neg AF] at H; have AS : (((rd_T63 l0_0 AA).f1.f1) == 0) = false := beq_eq_false_iff_ne.mpr AF; have AT : (((rd_T63 l0_0 AA).f1.f1) != 0) = true := bne_iff_ne.mpr AF
       have H' := zm H
       clear H; obtain ⟨AY, AZ, Ag, Ah⟩ := zc2 AB; have p340 : 0 ≤ (AA : Int) := zd; have q340 : AA < (l0_0.length : Int) := zd; obtain ⟨ad340, e340, hx340_0, hx340_1, hx340_2, hx340_3, hx340_4, hx340_5⟩ := at_T63 (Kd.C_below HR0_0.out HB.out) AA p340 q340; cases e340; replace p340 := eq_true p340; replace q340 := eq_true q340
       go_wp2
       go_roundg k1
       case measure => have := AH.out; omega
       case rel => exact ⟨(AD), (wrap64 (AA + 1)), zF, H', ⟨by have := AH.out; omega⟩, ⟨zr AE⟩, ⟨zb AB⟩, ⟨zB⟩⟩
     ·rw [if_neg AI] at H
      exact absurd H (by simp)
    ·rw [if_neg c9] at H; have AV : decide (AA < (l0_0.length : Int)) = false := decide_eq_false c9; clear c9; obtain rfl := Option.some.inj H; obtain ⟨Aa, Ab, Ai, Aj⟩ := zc2 AB
     go_wp2
     go_ret
     exact ⟨_, zE, zr AE, zB⟩
 ·replace c3 := Bool.eq_false_iff.mpr c3; subst c3; rw [zff] at H; obtain rfl := Option.some.inj H; go_enter Tryd.func49, Tryd.ntmps49
  go_wp2_with (first | ((with_reducible refine gate_dst (N := 1) rfl ?_); refine zbox 1 #[.slice A0_0 l0_0.length c0_0, .slice A0_1 l0_1.length c0_1] 45 ?_; intro AK hg Ao hbox hb; have AB := zm (hbox); have AQ := zge w hg zB; have AP := zge w hg zB; replace HB := zm (below_step zB hb); clear hb hbox hg) | ((with_reducible refine gate_dst (N := 5) rfl ?_); refine Kd.R_lit k63 _ 63 ?hg (N := 5) ?hd (xs := ([] : List (S63))) (inner := []) (ok := fun _ => True) (okp := fun _ => True) ?hr ?hp (fun _ hk => hk) trivial (Below.refl _ _) (Nat.le_refl _) (by simp) ?_; (case hd => rfl); (case hg => rfl); (case hr => first | (go_simp; done) | (go_simp; rfl)); (case hp => exact (Reps.none _ _)); intro v337 Ap ho19 hb hg_ hnew_; clear hg_ hnew_; (first | rw [← Ny336.out] at ho19 | (simp only [Int.reduceToNat] at ho19; rw [← Ny336.out] at ho19)); have AC := zm (Kd.R_lower ho19 (below_size zB)); replace AB := zy AB hb; replace HB := zm (below_step zB hb); clear hb ho19; obtain ⟨Ac, Ad, Ak, Al⟩ := zc2 AB) | ((with_reducible refine gate_callee (f := 53) rfl ?_); refine zg (some 7) #[.agg #[.slice A0_0 l0_0.length c0_0, .slice A0_1 l0_1.length c0_1]] Tryd.func53 ?_; (with_reducible refine (spec_StateOk.calls k _ _ l0_0 _ _ l0_1 false _ (zk (Kd.C_below HR0_0.out HB.out)) HC0_0.out (zk (Kd.C_below HR0_1.out HB.out)) HC0_1.out A2.out).mono ?_); rintro e Aq ⟨rfl, hb⟩; refine ⟨_, rfl, ?_⟩; replace AC := zw AC hb; replace AB := zy AB hb; replace HB := zm (below_step zB hb); clear hb))
  go_ret
  exact ⟨_, zE, zr AC, zB⟩

/-! ### spec_ViewText: function 28 -/
def spec_ViewText.f (k : Nat) (l0_0 : List (S63)) (l0_1 : List (S68)) : Option (ByteArray) := (spec_View.f k l0_0 l0_1).bind fun t346 => ((spec_StateText.f k t346 ([] : List (S68))).bind fun t349 => (some t349))
theorem spec_ViewText.mono : ∀ a0 a1 k, LeO (spec_ViewText.f k a0 a1) (spec_ViewText.f (k + 1) a0 a1) := by
 intro a0 a1 k
 unfold spec_ViewText.f
 repeat' first | (with_reducible first | exact LeO.refl _ | exact LeO.none _ | refine LeO.ite ?_ ?_ | refine LeO.bind ?_ (fun _ => ?_) | apply spec_StateText.mono | apply spec_View.mono) | apply spec_StateText.mono | apply spec_View.mono | exact LeO.none _ | refine LeO.ite ?_ ?_ | refine LeO.bind ?_ (fun _ => ?_)
set_option maxHeartbeats 8000000 in
set_option maxRecDepth 100000 in
theorem spec_ViewText.calls (k : Nat) (A0_0 : Option Addr) (c0_0 : Nat) (l0_0 : List (S63)) (A0_1 : Option Addr) (c0_1 : Nat) (l0_1 : List (S68)) (r : ByteArray) (w : World) (hr0_0 : Kd.C k63 w A0_0 l0_0.length l0_0) (hc0_0 : l0_0.length ≤ c0_0) (hr0_1 : Kd.C k68 w A0_1 l0_1.length l0_1) (hc0_1 : l0_1.length ≤ c0_1) (h : spec_ViewText.f k l0_0 l0_1 = some r) :
  Calls Tryd.prog 28 #[.agg #[.slice A0_0 l0_0.length c0_0, .slice A0_1 l0_1.length c0_1]] w fun e w' => e = .returned (.string r) ∧ Below w.heap.size w w' := by
 have hu45 := Tryd.underlying45; have HR0_0 := zm hr0_0; have HC0_0 := zm hc0_0; clear hr0_0 hc0_0; have HR0_1 := zm hr0_1; have HC0_1 := zm hc0_1; clear hr0_1 hc0_1; have HB := zm (Below.refl w.heap.size w); have H : ((spec_View.f k l0_0 l0_1).bind fun AC => ((spec_StateText.f k AC ([] : List (S68))).bind fun AD => (some AD))) = some r := h; clear h; replace H := Option.bind_eq_some_iff.mp H; obtain ⟨AC, AE, H⟩ := H; (try dsimp only at H); have A2 := zm AE; clear AE; replace H := Option.bind_eq_some_iff.mp H; obtain ⟨AD, AF, H⟩ := H; (try dsimp only at H); have A3 := zm AF; clear AF; obtain rfl := Option.some.inj H; go_enter Tryd.func28, Tryd.ntmps28
 go_wp2_with (first | ((with_reducible refine gate_dst (N := 1) rfl ?_); refine zbox 1 #[.slice A0_0 l0_0.length c0_0, .slice A0_1 l0_1.length c0_1] 45 ?_; intro AO hg w4 hbox hb; have AA := zm (hbox); have AN := zge w hg zB; have AM := zge w hg zB; replace HB := zm (below_step zB hb); clear hb hbox hg; obtain ⟨AI, AJ, AK, AL⟩ := zc2 AA) | ((with_reducible refine gate_callee (f := 49) rfl ?_); refine zg (some 4) #[.agg #[.slice A0_0 l0_0.length c0_0, .slice A0_1 l0_1.length c0_1]] Tryd.func49 ?_; (with_reducible refine (spec_View.calls k _ _ l0_0 _ _ l0_1 AC _ (zk (Kd.C_below HR0_0.out HB.out)) HC0_0.out (zk (Kd.C_below HR0_1.out HB.out)) HC0_1.out A2.out).mono ?_); rintro e w6 ⟨v347, rfl, ho0, hb⟩; refine ⟨_, rfl, ?_⟩; have AB := zm (Kd.R_lower ho0 (below_size zB)); replace AA := zy AA hb; replace HB := zm (below_step zB hb); clear hb ho0; obtain ⟨AG, AH, eo7⟩ := Kd.R_slice AB.out; subst eo7) | ((with_reducible refine gate_callee (f := 22) rfl ?_); refine zg (some 6) #[.agg #[.slice AG AC.length AH, .slice none 0 0]] Tryd.func22 ?_; (refine (spec_StateText.calls k _ _ AC _ _ ([] : List (S68)) AD _ ?side1 ?side2 ?side3 ?side4 A3.out).mono ?_); (case side1 => repeat (first | exact (Kd.R_reads' AB.out).2.2 | (with_reducible refine Kd.C_alloc ?_ _) | (with_reducible refine Kd.C_drewN ?_ _) | (with_reducible refine Kd.C_drew ?_))); (case side2 => exact (Kd.R_reads' AB.out).2.1); (case side3 => exact Kd.C_nil _ _); (case side4 => exact Nat.le_refl _); rintro e w8 ⟨rfl, hb⟩; refine ⟨_, rfl, ?_⟩; replace AB := zw AB hb; replace AA := zy AA hb; replace HB := zm (below_step zB hb); clear hb))
 go_ret
 exact ⟨zE, zB⟩

/-! ### impl_within: function 48 -/
def impl_within.f (a0 : Int) (a1 : Int) (a2 : Int) : Option (Bool) := if a0 ≥ a1 then (some (decide (a0 ≤ a2))) else (some false)
set_option maxHeartbeats 8000000 in
set_option maxRecDepth 100000 in
theorem impl_within.calls (a0 : Int) (a1 : Int) (a2 : Int) (r : Bool) (w : World) (h : impl_within.f a0 a1 a2 = some r) :
  Calls Tryd.prog 48 #[.int .i64 a0, .int .i64 a1, .int .i64 a2] w fun e w' => e = .returned (.bool r) ∧ Drawn0 w w' := by
 have H : (if a0 ≥ a1 then (some (decide (a0 ≤ a2))) else (some false)) = some r := h; clear h
 by_cases c4 : a0 ≥ a1
 ·rw [if_pos c4] at H; have AA : decide (a1 ≤ a0) = true := decide_eq_true c4; clear c4; obtain rfl := Option.some.inj H; go_enter Tryd.func48, Tryd.ntmps48
  go_wp2
  go_ret
  exact ⟨zF, zD⟩
 ·rw [if_neg c4] at H; have AA : decide (a1 ≤ a0) = false := decide_eq_false c4; clear c4; obtain rfl := Option.some.inj H; go_enter Tryd.func48, Tryd.ntmps48
  go_wp2
  go_ret
  exact ⟨zF, zD⟩

/-! ### impl_FloorOf: function 56 -/
def impl_FloorOf.l0 : Nat → Int → List (S68) → Int → Int → Option (Int)
 | 0, _, _, _, _ => none
 | k + 1, x1, x8, x9, x10 => if x10 < x9 then (if 0 ≤ x10 then (if x10 < (x8.length : Int) then (if ((rd_T68 x8 x10).f0) = x1 then (some ((rd_T68 x8 x10).f1)) else (impl_FloorOf.l0 k x1 x8 x9 (wrap64 (x10 + 1)))) else (none)) else (none)) else (some 0)
def impl_FloorOf.f (k : Nat) (l0_0 : List (S63)) (l0_1 : List (S68)) (a1 : Int) : Option (Int) := impl_FloorOf.l0 k a1 l0_1 (l0_1.length : Int) 0
theorem impl_FloorOf.mono_l : ∀ k, (∀ y0 y1 y2 y3, LeO (impl_FloorOf.l0 k y0 y1 y2 y3) (impl_FloorOf.l0 (k + 1) y0 y1 y2 y3))
 | 0 => fun _ _ _ _ r h => by simp [impl_FloorOf.l0] at h
 | k + 1 => by
  have ih0 := impl_FloorOf.mono_l k
  ·intro y0 y1 y2 y3
   unfold impl_FloorOf.l0
   repeat' first | (with_reducible first | exact LeO.refl _ | exact LeO.none _ | refine LeO.ite ?_ ?_ | refine LeO.bind ?_ (fun _ => ?_) | apply ih0) | apply ih0 | exact LeO.none _ | refine LeO.ite ?_ ?_ | refine LeO.bind ?_ (fun _ => ?_)
theorem impl_FloorOf.mono : ∀ a0 a1 a2 k, LeO (impl_FloorOf.f k a0 a1 a2) (impl_FloorOf.f (k + 1) a0 a1 a2) := by
 intro a0 a1 a2 k; have ih0 := impl_FloorOf.mono_l k
 unfold impl_FloorOf.f
 repeat' first | (with_reducible first | exact LeO.refl _ | exact LeO.none _ | refine LeO.ite ?_ ?_ | refine LeO.bind ?_ (fun _ => ?_) | apply ih0) | apply ih0 | exact LeO.none _ | refine LeO.ite ?_ ?_ | refine LeO.bind ?_ (fun _ => ?_)
set_option maxHeartbeats 8000000 in
set_option maxRecDepth 100000 in
theorem impl_FloorOf.calls (k : Nat) (A0_0 : Option Addr) (c0_0 : Nat) (l0_0 : List (S63)) (A0_1 : Option Addr) (c0_1 : Nat) (l0_1 : List (S68)) (a1 : Int) (r : Int) (w : World) (hr0_0 : Kd.C k63 w A0_0 l0_0.length l0_0) (hc0_0 : l0_0.length ≤ c0_0) (hr0_1 : Kd.C k68 w A0_1 l0_1.length l0_1) (hc0_1 : l0_1.length ≤ c0_1) (h : impl_FloorOf.f k l0_0 l0_1 a1 = some r) :
  Calls Tryd.prog 56 #[.agg #[.slice A0_0 l0_0.length c0_0, .slice A0_1 l0_1.length c0_1], .int .i64 a1] w fun e w' => e = .returned (.int .i64 r) ∧ Below w.heap.size w w' := by
 have hu45 := Tryd.underlying45; have hu68 := Tryd.underlying68; have HR0_0 := zm hr0_0; have HC0_0 := zm hc0_0; clear hr0_0 hc0_0; have HR0_1 := zm hr0_1; have HC0_1 := zm hc0_1; clear hr0_1 hc0_1; have HB := zm (Below.refl w.heap.size w); have H : (impl_FloorOf.l0 k a1 l0_1 (l0_1.length : Int) 0) = some r := h; clear h
 have H' := zm H
 clear H; go_enter Tryd.func56, Tryd.ntmps56
 go_wp2_with (first | ((with_reducible refine gate_dst (N := 2) rfl ?_); refine zbox 2 #[.slice A0_0 l0_0.length c0_0, .slice A0_1 l0_1.length c0_1] 45 ?_; intro AL hg w3 hbox hb; have AB := zm (hbox); have Aa := zge w hg zB; have AZ := zge w hg zB; replace HB := zm (below_step zB hb); clear hb hbox hg; obtain ⟨AF, AG, AH, AI⟩ := zc2 AB))
 go_loopg [10] k (fun kq v10 w' => ∃ (AA : Int), v10 = .int .i64 AA ∧ Aside0 (impl_FloorOf.l0 kq a1 l0_1 (l0_1.length : Int) AA = some r) ∧ Aside0 (kq ≤ k) ∧ Aside0 (w'.heap[AL]? = some (.cells #[(.slice A0_0 l0_0.length c0_0), (.slice A0_1 l0_1.length c0_1)] 45 (0, 0))) ∧ Aside0 (Below w.heap.size w w'))
 case atStart => exact ⟨(0), zF, H', ⟨Nat.le_refl _⟩, ⟨zb AB⟩, ⟨zB⟩⟩
 case round =>
  clear H'; (try clear AF); (try clear AG); (try clear AH); (try clear AI); obtain ⟨AA, rfl, HA, AN, AB, HB⟩ := hrel
  cases gk with
  | zero => exact absurd HA.out (by simp [impl_FloorOf.l0])
  | succ k1 =>
   have H := HA.out; clear HA; simp only [impl_FloorOf.l0] at H
   by_cases c5 : AA < (l0_1.length : Int)
   ·rw [if_pos c5] at H; have AO : decide (AA < (l0_1.length : Int)) = true := decide_eq_true c5; clear c5
    by_cases c6 : 0 ≤ AA
    ·rw [if_pos c6] at H; have Af : decide (0 ≤ AA) = true := decide_eq_true c6; clear c6
     by_cases c7 : AA < (l0_1.length : Int)
     ·rw [if_pos c7] at H; have Ag : decide (AA < (l0_1.length : Int)) = true := decide_eq_true c7; clear c7
      by_cases c8 : ((rd_T68 l0_1 AA).f0) = a1
      ·rw [if_pos c8] at H; have AP : (((rd_T68 l0_1 AA).f0) == a1) = true := beq_iff_eq.mpr c8; have AQ : (((rd_T68 l0_1 AA).f0) != a1) = false := bne_eq_false_iff_eq.mpr c8; clear c8; obtain rfl := Option.some.inj H; have p351 : 0 ≤ (AA : Int) := zd; have q351 : AA < (l0_1.length : Int) := zd; obtain ⟨ad351, e351, hx351_0, hx351_1⟩ := at_T68 (Kd.C_below HR0_1.out HB.out) AA p351 q351; cases e351; replace p351 := eq_true p351; replace q351 := eq_true q351
       go_wp2_with (first | ((with_reducible refine gate_dst (N := 6) rfl ?_); refine zbox 6 #[.int .i64 0, .int .i64 0] 68 ?_; intro AM hg w9 hbox hb; have AE := zm (hbox); have AK := zge w hg zB; have AJ := zge w hg zB; replace HB := zm (below_step zB hb); have AC := zlt hg (zb AB); have AD := zgt hg (zb AB); replace AB := zy AB hb; clear hb hbox hg; have Ab := AD.out; have Ad := AC.out; obtain ⟨AR, AS, AV, AW⟩ := zc2 AE))
       go_ret
       exact ⟨zE, zB⟩
      ·rw [if_neg c8] at H; have AP : (((rd_T68 l0_1 AA).f0) == a1) = false := beq_eq_false_iff_ne.mpr c8; have AQ : (((rd_T68 l0_1 AA).f0) != a1) = true := bne_iff_ne.mpr c8
       have H' := zm H
       clear H; have p351 : 0 ≤ (AA : Int) := zd; have q351 : AA < (l0_1.length : Int) := zd; obtain ⟨ad351, e351, hx351_0, hx351_1⟩ := at_T68 (Kd.C_below HR0_1.out HB.out) AA p351 q351; cases e351; replace p351 := eq_true p351; replace q351 := eq_true q351
       go_wp2_with (first | ((with_reducible refine gate_dst (N := 6) rfl ?_); refine zbox 6 #[.int .i64 0, .int .i64 0] 68 ?_; intro AM hg Ah hbox hb; have AE := zm (hbox); have AK := zge w hg zB; have AJ := zge w hg zB; replace HB := zm (below_step zB hb); have AC := zlt hg (zb AB); have AD := zgt hg (zb AB); replace AB := zy AB hb; clear hb hbox hg; have Ac := AD.out; have Ae := AC.out; obtain ⟨AT, AU, AX, AY⟩ := zc2 AE))
       go_roundg k1
       case measure => have := AN.out; omega
       case rel => exact ⟨(wrap64 (AA + 1)), zF, H', ⟨by have := AN.out; omega⟩, ⟨zfar (zfar (zb AB) AC) AC⟩, ⟨zB⟩⟩
     ·rw [if_neg c7] at H
      exact absurd H (by simp)
    ·rw [if_neg c6] at H
     exact absurd H (by simp)
   ·rw [if_neg c5] at H; have AO : decide (AA < (l0_1.length : Int)) = false := decide_eq_false c5; clear c5; obtain rfl := Option.some.inj H
    go_wp2
    go_ret
    exact ⟨zE, zB⟩

/-! ### impl_isNode: function 73 -/
def impl_isNode.f (a0 : Int) : Option (Bool) := (impl_within.f a0 0 4).bind fun t353 => (some t353)
set_option maxHeartbeats 8000000 in
set_option maxRecDepth 100000 in
theorem impl_isNode.calls (a0 : Int) (r : Bool) (w : World) (h : impl_isNode.f a0 = some r) :
  Calls Tryd.prog 73 #[.int .i64 a0] w fun e w' => e = .returned (.bool r) ∧ Drawn0 w w' := by
 have H : ((impl_within.f a0 0 4).bind fun AA => (some AA)) = some r := h; clear h; replace H := Option.bind_eq_some_iff.mp H; obtain ⟨AA, AB, H⟩ := H; (try dsimp only at H); have A2 := zm AB; clear AB; obtain rfl := Option.some.inj H; go_enter Tryd.func73, Tryd.ntmps73
 go_wp2_with (first | ((with_reducible refine gate_callee (f := 48) rfl ?_); refine zg (some 4) #[.int .i64 a0, .int .i64 0, .int .i64 4] Tryd.func48 ?_; (with_reducible refine (impl_within.calls a0 0 4 AA _ A2.out).mono ?_); rintro e w' ⟨rfl, ⟨nd, rfl⟩⟩; refine ⟨_, rfl, ?_⟩))
 go_ret
 exact ⟨zF, zD⟩

/-! ### impl_EntryOk: function 74 -/
def impl_EntryOk.f (a0_0 : Int) (a0_1 : Int) (a0_2 : Int) (a0_3 : Int) (a0_4 : ByteArray) : Option (Bool) := (impl_within.f a0_0 1 1000).bind fun t355 => (if t355 = true then ((impl_within.f a0_1 0 1).bind fun t356 => (if t356 = true then ((impl_within.f a0_2 0 100000).bind fun t357 => (if t357 = true then ((impl_within.f a0_3 0 1000).bind fun t358 => (if t358 = true then (some (decide ((a0_4.size : Int) ≤ 8))) else (some false))) else (some false))) else (some false))) else (some false))
set_option maxHeartbeats 8000000 in
set_option maxRecDepth 100000 in
theorem impl_EntryOk.calls (a0_0 : Int) (a0_1 : Int) (a0_2 : Int) (a0_3 : Int) (a0_4 : ByteArray) (r : Bool) (w : World) (h : impl_EntryOk.f a0_0 a0_1 a0_2 a0_3 a0_4 = some r) :
  Calls Tryd.prog 74 #[.agg #[.int .i64 a0_0, .int .i64 a0_1, .int .i64 a0_2, .int .i64 a0_3, .string a0_4]] w fun e w' => e = .returned (.bool r) ∧ Below w.heap.size w w' := by
 have hu28 := Tryd.underlying28; have HB := zm (Below.refl w.heap.size w); have H : ((impl_within.f a0_0 1 1000).bind fun AE => (if AE = true then ((impl_within.f a0_1 0 1).bind fun AF => (if AF = true then ((impl_within.f a0_2 0 100000).bind fun AG => (if AG = true then ((impl_within.f a0_3 0 1000).bind fun AH => (if AH = true then (some (decide ((a0_4.size : Int) ≤ 8))) else (some false))) else (some false))) else (some false))) else (some false))) = some r := h; clear h; replace H := Option.bind_eq_some_iff.mp H; obtain ⟨AE, AI, H⟩ := H; (try dsimp only at H); have A2 := zm AI; clear AI
 by_cases c3 : AE = true
 ·subst c3; rw [if_pos rfl] at H; replace H := Option.bind_eq_some_iff.mp H; obtain ⟨AF, AJ, H⟩ := H; (try dsimp only at H); have A4 := zm AJ; clear AJ
  by_cases c5 : AF = true
  ·subst c5; rw [if_pos rfl] at H; replace H := Option.bind_eq_some_iff.mp H; obtain ⟨AG, AK, H⟩ := H; (try dsimp only at H); have A6 := zm AK; clear AK
   by_cases c7 : AG = true
   ·subst c7; rw [if_pos rfl] at H; replace H := Option.bind_eq_some_iff.mp H; obtain ⟨AH, AL, H⟩ := H; (try dsimp only at H); have A8 := zm AL; clear AL
    by_cases c9 : AH = true
    ·subst c9; rw [if_pos rfl] at H; obtain rfl := Option.some.inj H; go_enter Tryd.func74, Tryd.ntmps74
     go_wp2_with (first | ((with_reducible refine gate_dst (N := 1) rfl ?_); (try (refine gate_guard (by rfl) ?_; dsimp only)); refine zbox 1 #[.int .i64 a0_0, .int .i64 a0_1, .int .i64 a0_2, .int .i64 a0_3, .string a0_4] 28 ?_; intro AD hg BH hbox hb; have AA := zm (hbox); have AC := zge w hg zB; have AB := zge w hg zB; replace HB := zm (below_step zB hb); clear hb hbox hg; obtain ⟨AM, AN, AO, AP, AQ, Al, Am, An, Ao, Ap⟩ := zc5 AA) | ((with_reducible refine gate_callee (f := 48) rfl ?_); refine zg (some 5) #[.int .i64 a0_0, .int .i64 1, .int .i64 1000] Tryd.func48 ?_; (with_reducible refine (impl_within.calls a0_0 1 1000 true _ A2.out).mono ?_); rintro e w' ⟨rfl, ⟨nd, rfl⟩⟩; refine ⟨_, rfl, ?_⟩) | (go_at_call 48; (with_reducible refine (impl_within.calls a0_1 0 1 true _ A4.out).mono ?_); rintro e w' ⟨rfl, ⟨nd, rfl⟩⟩) | (go_at_call 48; (with_reducible refine (impl_within.calls a0_2 0 100000 true _ A6.out).mono ?_); rintro e w' ⟨rfl, ⟨nd, rfl⟩⟩) | (go_at_call 48; (with_reducible refine (impl_within.calls a0_3 0 1000 true _ A8.out).mono ?_); rintro e w' ⟨rfl, ⟨nd, rfl⟩⟩))
     go_ret
     exact ⟨zE, zB⟩
    ·replace c9 := Bool.eq_false_iff.mpr c9; subst c9; rw [zff] at H; obtain rfl := Option.some.inj H; go_enter Tryd.func74, Tryd.ntmps74
     go_wp2_with (first | ((with_reducible refine gate_dst (N := 1) rfl ?_); (try (refine gate_guard (by rfl) ?_; dsimp only)); refine zbox 1 #[.int .i64 a0_0, .int .i64 a0_1, .int .i64 a0_2, .int .i64 a0_3, .string a0_4] 28 ?_; intro AD hg BI hbox hb; have AA := zm (hbox); have AC := zge w hg zB; have AB := zge w hg zB; replace HB := zm (below_step zB hb); clear hb hbox hg; obtain ⟨AR, AS, AT, AU, AV, Aq, Ar, As, At, Au⟩ := zc5 AA) | ((with_reducible refine gate_callee (f := 48) rfl ?_); refine zg (some 5) #[.int .i64 a0_0, .int .i64 1, .int .i64 1000] Tryd.func48 ?_; (with_reducible refine (impl_within.calls a0_0 1 1000 true _ A2.out).mono ?_); rintro e w' ⟨rfl, ⟨nd, rfl⟩⟩; refine ⟨_, rfl, ?_⟩) | (go_at_call 48; (with_reducible refine (impl_within.calls a0_1 0 1 true _ A4.out).mono ?_); rintro e w' ⟨rfl, ⟨nd, rfl⟩⟩) | (go_at_call 48; (with_reducible refine (impl_within.calls a0_2 0 100000 true _ A6.out).mono ?_); rintro e w' ⟨rfl, ⟨nd, rfl⟩⟩) | (go_at_call 48; (with_reducible refine (impl_within.calls a0_3 0 1000 false _ A8.out).mono ?_); rintro e w' ⟨rfl, ⟨nd, rfl⟩⟩))
     go_ret
     exact ⟨zE, zB⟩
   ·replace c7 := Bool.eq_false_iff.mpr c7; subst c7; rw [zff] at H; obtain rfl := Option.some.inj H; go_enter Tryd.func74, Tryd.ntmps74
    go_wp2_with (first | ((with_reducible refine gate_dst (N := 1) rfl ?_); (try (refine gate_guard (by rfl) ?_; dsimp only)); refine zbox 1 #[.int .i64 a0_0, .int .i64 a0_1, .int .i64 a0_2, .int .i64 a0_3, .string a0_4] 28 ?_; intro AD hg BJ hbox hb; have AA := zm (hbox); have AC := zge w hg zB; have AB := zge w hg zB; replace HB := zm (below_step zB hb); clear hb hbox hg; obtain ⟨AW, AX, AY, AZ, Aa, Av, Aw, Ax, Ay, Az⟩ := zc5 AA) | ((with_reducible refine gate_callee (f := 48) rfl ?_); refine zg (some 5) #[.int .i64 a0_0, .int .i64 1, .int .i64 1000] Tryd.func48 ?_; (with_reducible refine (impl_within.calls a0_0 1 1000 true _ A2.out).mono ?_); rintro e w' ⟨rfl, ⟨nd, rfl⟩⟩; refine ⟨_, rfl, ?_⟩) | (go_at_call 48; (with_reducible refine (impl_within.calls a0_1 0 1 true _ A4.out).mono ?_); rintro e w' ⟨rfl, ⟨nd, rfl⟩⟩) | (go_at_call 48; (with_reducible refine (impl_within.calls a0_2 0 100000 false _ A6.out).mono ?_); rintro e w' ⟨rfl, ⟨nd, rfl⟩⟩))
    go_ret
    exact ⟨zE, zB⟩
  ·replace c5 := Bool.eq_false_iff.mpr c5; subst c5; rw [zff] at H; obtain rfl := Option.some.inj H; go_enter Tryd.func74, Tryd.ntmps74
   go_wp2_with (first | ((with_reducible refine gate_dst (N := 1) rfl ?_); (try (refine gate_guard (by rfl) ?_; dsimp only)); refine zbox 1 #[.int .i64 a0_0, .int .i64 a0_1, .int .i64 a0_2, .int .i64 a0_3, .string a0_4] 28 ?_; intro AD hg BK hbox hb; have AA := zm (hbox); have AC := zge w hg zB; have AB := zge w hg zB; replace HB := zm (below_step zB hb); clear hb hbox hg; obtain ⟨Ab, Ac, Ad, Ae, Af, B0, B2, B3, BA, BB⟩ := zc5 AA) | ((with_reducible refine gate_callee (f := 48) rfl ?_); refine zg (some 5) #[.int .i64 a0_0, .int .i64 1, .int .i64 1000] Tryd.func48 ?_; (with_reducible refine (impl_within.calls a0_0 1 1000 true _ A2.out).mono ?_); rintro e w' ⟨rfl, ⟨nd, rfl⟩⟩; refine ⟨_, rfl, ?_⟩) | (go_at_call 48; (with_reducible refine (impl_within.calls a0_1 0 1 false _ A4.out).mono ?_); rintro e w' ⟨rfl, ⟨nd, rfl⟩⟩))
   go_ret
   exact ⟨zE, zB⟩
 ·replace c3 := Bool.eq_false_iff.mpr c3; subst c3; rw [zff] at H; obtain rfl := Option.some.inj H; go_enter Tryd.func74, Tryd.ntmps74
  go_wp2_with (first | ((with_reducible refine gate_dst (N := 1) rfl ?_); (try (refine gate_guard (by rfl) ?_; dsimp only)); refine zbox 1 #[.int .i64 a0_0, .int .i64 a0_1, .int .i64 a0_2, .int .i64 a0_3, .string a0_4] 28 ?_; intro AD hg BL hbox hb; have AA := zm (hbox); have AC := zge w hg zB; have AB := zge w hg zB; replace HB := zm (below_step zB hb); clear hb hbox hg; obtain ⟨Ag, Ah, Ai, Aj, Ak, BC, BD, BE, BF, BG⟩ := zc5 AA) | ((with_reducible refine gate_callee (f := 48) rfl ?_); refine zg (some 5) #[.int .i64 a0_0, .int .i64 1, .int .i64 1000] Tryd.func48 ?_; (with_reducible refine (impl_within.calls a0_0 1 1000 false _ A2.out).mono ?_); rintro e w' ⟨rfl, ⟨nd, rfl⟩⟩; refine ⟨_, rfl, ?_⟩))
  go_ret
  exact ⟨zE, zB⟩

end Go.Proofs.YtomlglpmljngfaaDoor.P
