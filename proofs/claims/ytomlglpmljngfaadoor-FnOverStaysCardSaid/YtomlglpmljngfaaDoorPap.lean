-- by a program of this session, for this seat
import Derived.Test.YtomlglpmljngfaaDoorZ
import Derived.Test.YtomlglpmljngfaaDoorP0
import Derived.Test.YtomlglpmljngfaaDoorPah
import Derived.Test.YtomlglpmljngfaaDoorPao
namespace Go.Proofs.YtomlglpmljngfaaDoor.P
open Go.RowKit Go.Proofs.YtomlglpmljngfaaDoorW.PrintWords Go.Proofs.YtomlglpmljngfaaDoorW.PrintLast Go.Proofs.YtomlglpmljngfaaDoorW.PrintMore Go.Proofs.YtomlglpmljngfaaDoor.Z
attribute [local go_sem] max2_int min2_int max_two min_two max_three min_three max_four min_four   -- for this text's walks alone
set_option linter.unusedVariables false
set_option linter.unusedSimpArgs false

/-! ### spec_l3Join: function 54 -/
mutual
def spec_l3Join.l0 : Nat → Int → List (S63) → List (S68) → List (S63) → List (S68) → List (S63) → List (S68) → Option ((List (S63)) × (List (S68)))
 | 0, _, _, _, _, _, _, _ => none
 | k + 1, x6, x428000, x428001, x429000, x429001, x431000, x431001 => if x6 < 5 then ((spec_FloorOf.f k x428000 x428001 x6).bind fun t431 => ((spec_FloorOf.f k x429000 x429001 x6).bind fun t432 => ((spec_l1Max.f t431 t432).bind fun t433 => (if t433 > 0 then (if x431001.length < 8796093022208 then (spec_l3Join.j1 k x6 t433 x428000 x428001 x429000 x429001 x431000 (x431001 ++ [(⟨x6, t433⟩ : S68)])) else (none)) else (spec_l3Join.j1 k x6 t433 x428000 x428001 x429000 x429001 x431000 x431001))))) else (some (x431000, x431001))
def spec_l3Join.j1 : Nat → Int → Int → List (S63) → List (S68) → List (S63) → List (S68) → List (S63) → List (S68) → Option ((List (S63)) × (List (S68)))
 | 0, _, _, _, _, _, _, _, _ => none
 | k + 1, x6, x7, x428000, x428001, x429000, x429001, x431000, x431001 => (spec_EntryOf.f k x428000 x428001 x6).bind fun bt437 => ((spec_EntryOf.f k x429000 x429001 x6).bind fun bt444 => (if bt437.2.2.2.2.2 = true then (spec_l3Join.j2 k x6 x7 bt437.2.2.2.2.2 bt444.2.2.2.2.2 false x428000 x428001 x429000 x429001 x431000 x431001 bt437.1 bt437.2.1 bt437.2.2.1 bt437.2.2.2.1 bt437.2.2.2.2.1 bt444.1 bt444.2.1 bt444.2.2.1 bt444.2.2.2.1 bt444.2.2.2.2.1) else (spec_l3Join.j2 k x6 x7 bt437.2.2.2.2.2 bt444.2.2.2.2.2 (!bt444.2.2.2.2.2) x428000 x428001 x429000 x429001 x431000 x431001 bt437.1 bt437.2.1 bt437.2.2.1 bt437.2.2.2.1 bt437.2.2.2.2.1 bt444.1 bt444.2.1 bt444.2.2.1 bt444.2.2.2.1 bt444.2.2.2.2.1)))
def spec_l3Join.j2 : Nat → Int → Int → Bool → Bool → Bool → List (S63) → List (S68) → List (S63) → List (S68) → List (S63) → List (S68) → Int → Int → Int → Int → ByteArray → Int → Int → Int → Int → ByteArray → Option ((List (S63)) × (List (S68)))
 | 0, _, _, _, _, _, _, _, _, _, _, _, _, _, _, _, _, _, _, _, _, _ => none
 | k + 1, x6, x7, x9, x11, x52, x428000, x428001, x429000, x429001, x431000, x431001, x444000, x444001, x444002, x444003, x444004, x451000, x451001, x451002, x451003, x451004 => if x52 = true then (spec_l3Join.l0 k (wrap64 (x6 + 1)) x428000 x428001 x429000 x429001 x431000 x431001) else (if x9 = true then (if x11 = true then ((spec_EntryCmp.f k x451000 x451001 x451002 x451003 x451004 x444000 x444001 x444002 x444003 x444004).bind fun t452 => (spec_l3Join.j3 k x6 x7 (decide (t452 > 0)) x428000 x428001 x429000 x429001 x431000 x431001 x451000 x451001 x451002 x451003 x451004 x444000 x444001 x444002 x444003 x444004)) else (spec_l3Join.j3 k x6 x7 false x428000 x428001 x429000 x429001 x431000 x431001 x451000 x451001 x451002 x451003 x451004 x444000 x444001 x444002 x444003 x444004)) else (spec_l3Join.j3 k x6 x7 true x428000 x428001 x429000 x429001 x431000 x431001 x451000 x451001 x451002 x451003 x451004 x444000 x444001 x444002 x444003 x444004))
def spec_l3Join.j3 : Nat → Int → Int → Bool → List (S63) → List (S68) → List (S63) → List (S68) → List (S63) → List (S68) → Int → Int → Int → Int → ByteArray → Int → Int → Int → Int → ByteArray → Option ((List (S63)) × (List (S68)))
 | 0, _, _, _, _, _, _, _, _, _, _, _, _, _, _, _, _, _, _, _ => none
 | k + 1, x6, x7, x64, x428000, x428001, x429000, x429001, x431000, x431001, x451000, x451001, x451002, x451003, x451004, x452000, x452001, x452002, x452003, x452004 => if x64 = true then (if x451000 > x7 then (if x431000.length < 2513169434916 then (spec_l3Join.l0 k (wrap64 (x6 + 1)) x428000 x428001 x429000 x429001 (x431000 ++ [(⟨x6, (⟨x451000, x451001, x451002, x451003, x451004⟩ : S28)⟩ : S63)]) x431001) else (none)) else (spec_l3Join.l0 k (wrap64 (x6 + 1)) x428000 x428001 x429000 x429001 x431000 x431001)) else (if x452000 > x7 then (if x431000.length < 2513169434916 then (spec_l3Join.l0 k (wrap64 (x6 + 1)) x428000 x428001 x429000 x429001 (x431000 ++ [(⟨x6, (⟨x452000, x452001, x452002, x452003, x452004⟩ : S28)⟩ : S63)]) x431001) else (none)) else (spec_l3Join.l0 k (wrap64 (x6 + 1)) x428000 x428001 x429000 x429001 x431000 x431001))
end
def spec_l3Join.f (k : Nat) (l0_0 : List (S63)) (l0_1 : List (S68)) (l1_0 : List (S63)) (l1_1 : List (S68)) : Option ((List (S63)) × (List (S68))) := spec_l3Join.l0 k 0 l0_0 l0_1 l1_0 l1_1 ([] : List (S63)) ([] : List (S68))
theorem spec_l3Join.mono_l : ∀ k, (∀ y0 y1 y2 y3 y4 y5 y6, LeO (spec_l3Join.l0 k y0 y1 y2 y3 y4 y5 y6) (spec_l3Join.l0 (k + 1) y0 y1 y2 y3 y4 y5 y6)) ∧ (∀ y0 y1 y2 y3 y4 y5 y6 y7, LeO (spec_l3Join.j1 k y0 y1 y2 y3 y4 y5 y6 y7) (spec_l3Join.j1 (k + 1) y0 y1 y2 y3 y4 y5 y6 y7)) ∧ (∀ y0 y1 y2 y3 y4 y5 y6 y7 y8 y9 y10 y11 y12 y13 y14 y15 y16 y17 y18 y19 y20, LeO (spec_l3Join.j2 k y0 y1 y2 y3 y4 y5 y6 y7 y8 y9 y10 y11 y12 y13 y14 y15 y16 y17 y18 y19 y20) (spec_l3Join.j2 (k + 1) y0 y1 y2 y3 y4 y5 y6 y7 y8 y9 y10 y11 y12 y13 y14 y15 y16 y17 y18 y19 y20)) ∧ (∀ y0 y1 y2 y3 y4 y5 y6 y7 y8 y9 y10 y11 y12 y13 y14 y15 y16 y17 y18, LeO (spec_l3Join.j3 k y0 y1 y2 y3 y4 y5 y6 y7 y8 y9 y10 y11 y12 y13 y14 y15 y16 y17 y18) (spec_l3Join.j3 (k + 1) y0 y1 y2 y3 y4 y5 y6 y7 y8 y9 y10 y11 y12 y13 y14 y15 y16 y17 y18))
 | 0 => ⟨fun _ _ _ _ _ _ _ r h => by simp [spec_l3Join.l0] at h, fun _ _ _ _ _ _ _ _ r h => by simp [spec_l3Join.j1] at h, fun _ _ _ _ _ _ _ _ _ _ _ _ _ _ _ _ _ _ _ _ _ r h => by simp [spec_l3Join.j2] at h, fun _ _ _ _ _ _ _ _ _ _ _ _ _ _ _ _ _ _ _ r h => by simp [spec_l3Join.j3] at h⟩
 | k + 1 => by
  obtain ⟨ih0, ih1, ih2, ih3⟩ := spec_l3Join.mono_l k
  refine ⟨?_, ?_, ?_, ?_⟩
  ·intro y0 y1 y2 y3 y4 y5 y6
   unfold spec_l3Join.l0
   repeat' first | (with_reducible first | exact LeO.refl _ | exact LeO.none _ | refine LeO.ite ?_ ?_ | refine LeO.bind ?_ (fun _ => ?_) | apply ih0 | apply ih1 | apply ih2 | apply ih3 | apply spec_EntryCmp.mono | apply spec_EntryOf.mono | apply spec_FloorOf.mono) | apply ih0 | apply ih1 | apply ih2 | apply ih3 | apply spec_EntryCmp.mono | apply spec_EntryOf.mono | apply spec_FloorOf.mono | exact LeO.none _ | refine LeO.ite ?_ ?_ | refine LeO.bind ?_ (fun _ => ?_)
  ·intro y0 y1 y2 y3 y4 y5 y6 y7
   unfold spec_l3Join.j1
   repeat' first | (with_reducible first | exact LeO.refl _ | exact LeO.none _ | refine LeO.ite ?_ ?_ | refine LeO.bind ?_ (fun _ => ?_) | apply ih0 | apply ih1 | apply ih2 | apply ih3 | apply spec_EntryCmp.mono | apply spec_EntryOf.mono | apply spec_FloorOf.mono) | apply ih0 | apply ih1 | apply ih2 | apply ih3 | apply spec_EntryCmp.mono | apply spec_EntryOf.mono | apply spec_FloorOf.mono | exact LeO.none _ | refine LeO.ite ?_ ?_ | refine LeO.bind ?_ (fun _ => ?_)
  ·intro y0 y1 y2 y3 y4 y5 y6 y7 y8 y9 y10 y11 y12 y13 y14 y15 y16 y17 y18 y19 y20
   unfold spec_l3Join.j2
   repeat' first | (with_reducible first | exact LeO.refl _ | exact LeO.none _ | refine LeO.ite ?_ ?_ | refine LeO.bind ?_ (fun _ => ?_) | apply ih0 | apply ih1 | apply ih2 | apply ih3 | apply spec_EntryCmp.mono | apply spec_EntryOf.mono | apply spec_FloorOf.mono) | apply ih0 | apply ih1 | apply ih2 | apply ih3 | apply spec_EntryCmp.mono | apply spec_EntryOf.mono | apply spec_FloorOf.mono | exact LeO.none _ | refine LeO.ite ?_ ?_ | refine LeO.bind ?_ (fun _ => ?_)
  ·intro y0 y1 y2 y3 y4 y5 y6 y7 y8 y9 y10 y11 y12 y13 y14 y15 y16 y17 y18
   unfold spec_l3Join.j3
   repeat' first | (with_reducible first | exact LeO.refl _ | exact LeO.none _ | refine LeO.ite ?_ ?_ | refine LeO.bind ?_ (fun _ => ?_) | apply ih0 | apply ih1 | apply ih2 | apply ih3 | apply spec_EntryCmp.mono | apply spec_EntryOf.mono | apply spec_FloorOf.mono) | apply ih0 | apply ih1 | apply ih2 | apply ih3 | apply spec_EntryCmp.mono | apply spec_EntryOf.mono | apply spec_FloorOf.mono | exact LeO.none _ | refine LeO.ite ?_ ?_ | refine LeO.bind ?_ (fun _ => ?_)
theorem spec_l3Join.mono : ∀ a0 a1 a2 a3 k, LeO (spec_l3Join.f k a0 a1 a2 a3) (spec_l3Join.f (k + 1) a0 a1 a2 a3) := by
 intro a0 a1 a2 a3 k; obtain ⟨ih0, ih1, ih2, ih3⟩ := spec_l3Join.mono_l k
 unfold spec_l3Join.f
 repeat' first | (with_reducible first | exact LeO.refl _ | exact LeO.none _ | refine LeO.ite ?_ ?_ | refine LeO.bind ?_ (fun _ => ?_) | apply ih0 | apply ih1 | apply ih2 | apply ih3 | apply spec_EntryCmp.mono | apply spec_EntryOf.mono | apply spec_FloorOf.mono) | apply ih0 | apply ih1 | apply ih2 | apply ih3 | apply spec_EntryCmp.mono | apply spec_EntryOf.mono | apply spec_FloorOf.mono | exact LeO.none _ | refine LeO.ite ?_ ?_ | refine LeO.bind ?_ (fun _ => ?_)
def spec_l3Join.T5 : Bool × List (List Nat × List Nat) := (true, [([], []), ([], []), ([0, 1], [0, 1]), ([], []), ([], []), ([3, 4, 2], [3, 4]), ([2, 5, 5], [2, 5]), ([6, 6, 0, 1, 2, 3, 4, 5, 6], [6])])
def spec_l3Join.B5 : List Nat := [0, 0, 3, 0, 0, 31, 63, 127]
theorem spec_l3Join.tab5 : rtab .any (opsOf Tryd.f54 5) = spec_l3Join.T5 := by kernel_rfl
theorem spec_l3Join.bits5 : waitsOk spec_l3Join.T5.2 spec_l3Join.B5 = true := by kernel_rfl
set_option maxHeartbeats 8000000 in
set_option maxRecDepth 100000 in
theorem spec_l3Join.calls (k : Nat) (A0_0 : Option Addr) (c0_0 : Nat) (l0_0 : List (S63)) (A0_1 : Option Addr) (c0_1 : Nat) (l0_1 : List (S68)) (A1_0 : Option Addr) (c1_0 : Nat) (l1_0 : List (S63)) (A1_1 : Option Addr) (c1_1 : Nat) (l1_1 : List (S68)) (r1 : List (S63)) (r2 : List (S68)) (w : World) (hr0_0 : Kd.C k63 w A0_0 l0_0.length l0_0) (hc0_0 : l0_0.length ≤ c0_0) (hr0_1 : Kd.C k68 w A0_1 l0_1.length l0_1) (hc0_1 : l0_1.length ≤ c0_1) (hr1_0 : Kd.C k63 w A1_0 l1_0.length l1_0) (hc1_0 : l1_0.length ≤ c1_0) (hr1_1 : Kd.C k68 w A1_1 l1_1.length l1_1) (hc1_1 : l1_1.length ≤ c1_1) (h : spec_l3Join.f k l0_0 l0_1 l1_0 l1_1 = some (r1, r2)) :
  Calls Tryd.prog 54 #[.agg #[.slice A0_0 l0_0.length c0_0, .slice A0_1 l0_1.length c0_1], .agg #[.slice A1_0 l1_0.length c1_0, .slice A1_1 l1_1.length c1_1]] w fun e w' => ∃ v0_ v1_ : Value, e = .returned (.agg #[v0_, v1_]) ∧ Kd.R k63 63 w' w.heap.size (fun _ => True) v0_ r1 ∧ Kd.R k68 68 w' w.heap.size (fun _ => True) v1_ r2 ∧ Below w.heap.size w w' := by
 have hu45 := Tryd.underlying45; have hu68 := Tryd.underlying68; have hu28 := Tryd.underlying28; have hu63 := Tryd.underlying63; have HR0_0 := zm hr0_0; have HC0_0 := zm hc0_0; clear hr0_0 hc0_0; have HR0_1 := zm hr0_1; have HC0_1 := zm hc0_1; clear hr0_1 hc0_1; have HR1_0 := zm hr1_0; have HC1_0 := zm hc1_0; clear hr1_0 hc1_0; have HR1_1 := zm hr1_1; have HC1_1 := zm hc1_1; clear hr1_1 hc1_1; have HB := zm (Below.refl w.heap.size w); have H : (spec_l3Join.l0 k 0 l0_0 l0_1 l1_0 l1_1 ([] : List (S63)) ([] : List (S68))) = some (r1, r2) := h; clear h
 have H' := zm H
 clear H; go_enter Tryd.func54, Tryd.ntmps54
 go_wp2_with (first | ((with_reducible refine gate_dst (N := 2) rfl ?_); refine zbox 2 #[.slice A0_0 l0_0.length c0_0, .slice A0_1 l0_1.length c0_1] 45 ?_; intro BJ hg w3 hbox hb; have AD := zm (hbox); have GP := zge w hg zB; have GI := zge w hg zB; replace HB := zm (below_step zB hb); clear hb hbox hg) | ((with_reducible refine gate_dst (N := 3) rfl ?_); refine zbox 3 #[.slice A1_0 l1_0.length c1_0, .slice A1_1 l1_1.length c1_1] 45 ?_; intro BK hg w4 hbox hb; have AE := zm (hbox); have GQ := zge w hg zB; have GJ := zge w hg zB; replace HB := zm (below_step zB hb); have CB := zlt hg (zb AD); have CC := zgt hg (zb AD); replace AD := zy AD hb; clear hb hbox hg) | ((with_reducible refine gate_dst (N := 4) rfl ?_); refine zbox 4 #[.slice none 0 0, .slice none 0 0] 45 ?_; intro BR hg w5 hbox hb; have AF := zm (hbox); have GR := zge w hg zB; have GK := zge w hg zB; replace HB := zm (below_step zB hb); have BW := zlt hg (zb AD); have BY := zgt hg (zb AD); replace AD := zy AD hb; have BX := zlt hg (zb AE); have BZ := zgt hg (zb AE); replace AE := zy AE hb; clear hb hbox hg) | ((with_reducible refine gate_dst (N := 5) rfl ?_); refine zbox 5 #[.slice none 0 0, .slice none 0 0] 45 ?_; intro Bb hg w6 hbox hb; have AC := zm (hbox); have GS := zge w hg zB; have GL := zge w hg zB; replace HB := zm (below_step zB hb); have AX := zlt hg (zb AD); have Ai := zgt hg (zb AD); replace AD := zy AD hb; have AY := zlt hg (zb AE); have Aj := zgt hg (zb AE); replace AE := zy AE hb; have AZ := zlt hg (zb AF); have At := zgt hg (zb AF); replace AF := zy AF hb; clear hb hbox hg; have IA := Ai.out; have ID := AX.out; have IB := Aj.out; have IE := AY.out; have IC := At.out; have IF := AZ.out; obtain ⟨BL, BM, BN, BO⟩ := zc2 AC))
 go_loopg [6] k (fun kq v6 w' => ∃ (AO : Int) (AM : List (S63)) (Ae : List (S68)) (u431000 : Value) (u431001 : Value), v6 = .int .i64 AO ∧ Aside0 (spec_l3Join.l0 kq AO l0_0 l0_1 l1_0 l1_1 AM Ae = some (r1, r2)) ∧ Aside0 (kq ≤ k) ∧ Aside0 (Kd.R k63 63 w' w.heap.size (fun _ => True) u431000 AM) ∧ Aside0 (Kd.R k68 68 w' w.heap.size (fun _ => True) u431001 Ae) ∧ Aside0 (w'.heap[BJ]? = some (.cells #[(.slice A0_0 l0_0.length c0_0), (.slice A0_1 l0_1.length c0_1)] 45 (0, 0))) ∧ Aside0 (w'.heap[BK]? = some (.cells #[(.slice A1_0 l1_0.length c1_0), (.slice A1_1 l1_1.length c1_1)] 45 (0, 0))) ∧ Aside0 (w'.heap[BR]? = some (.cells #[(.slice none 0 0), (.slice none 0 0)] 45 (0, 0))) ∧ Aside0 (w'.heap[Bb]? = some (.cells #[u431000, u431001] 45 (0, 0))) ∧ Aside0 (Below w.heap.size w w'))
 case atStart => exact ⟨(0), (([] : List (S63))), (([] : List (S68))), (.slice none 0 0), (.slice none 0 0), zF, H', ⟨Nat.le_refl _⟩, ⟨znil⟩, ⟨znil⟩, ⟨zfar (zfar (zb AD) AX) AX⟩, ⟨zfar (zfar (zb AE) AY) AY⟩, ⟨zfar (zfar (zb AF) AZ) AZ⟩, ⟨zput (zput (zb AC) 0) 1⟩, ⟨zB⟩⟩
 case round =>
  clear H'; (try clear BL); (try clear BM); (try clear BN); (try clear BO); obtain ⟨AO, AM, Ae, u431000, u431001, rfl, HA, As, AA, AB, AD, AE, AF, AC, HB⟩ := hrel
  cases gk with
  | zero => exact absurd HA.out (by simp [spec_l3Join.l0])
  | succ k1 =>
   have H := HA.out; clear HA; simp only [spec_l3Join.l0] at H
   by_cases BP : AO < 5
   ·rw [if_pos BP] at H; have Ba : decide (AO < 5) = true := decide_eq_true BP; clear BP; replace H := Option.bind_eq_some_iff.mp H; obtain ⟨CJ, Cp, H⟩ := H; (try dsimp only at H); have Ew := zm Cp; clear Cp; replace H := Option.bind_eq_some_iff.mp H; obtain ⟨CK, Cq, H⟩ := H; (try dsimp only at H); have Ex := zm Cq; clear Cq; replace H := Option.bind_eq_some_iff.mp H; obtain ⟨Af, Cr, H⟩ := H; (try dsimp only at H); have Ey := zm Cr; clear Cr; have CE := zm H; clear H
    try go_wp2
    replace AA := zm (Kd.R_drew AA.out); replace AB := zm (Kd.R_drew AB.out); replace AD := zq AD; replace AE := zq AE; replace AF := zq AF; replace AC := zq AC; replace HB := zm (below_drew1 HB.out)
    refine start_ (n := 8) (S := fun w' => w'.cell? ⟨BJ, 0, none⟩ = some (.slice A0_0 l0_0.length c0_0) ∧ w'.cell? ⟨BJ, 1, none⟩ = some (.slice A0_1 l0_1.length c0_1) ∧ w'.cell? ⟨BK, 0, none⟩ = some (.slice A1_0 l1_0.length c1_0) ∧ w'.cell? ⟨BK, 1, none⟩ = some (.slice A1_1 l1_1.length c1_1)) (ds := []) (zl 8 0) (by kernel_rfl) rfl rfl zS (fun hHeld => ?_); refine with_tabW spec_l3Join.tab5 spec_l3Join.bits5 (fun HT_ HW_ => ?_)
    generalize wr.drew = II at AA AB AD AE AF AC HB hHeld ⊢
    refine zu 1 19 8 2 ?_
    refine zu 4 22 8 18 ?_
    refine zv 0 18 8 19 ?_
    refine zv 3 21 8 27 ?_
    refine zo 2 (some 20) (zl 8 31) (fun K hK => ?_); refine zgo #[.agg #[.slice A0_0 l0_0.length c0_0, .slice A0_1 l0_1.length c0_1], .int .i64 AO] Tryd.func78 ?_; (with_reducible refine (spec_FloorOf.calls k1 _ _ l0_0 _ _ l0_1 AO CJ _ (zk (Kd.C_below HR0_0.out HB.out)) HC0_0.out (zk (Kd.C_below HR0_1.out HB.out)) HC0_1.out Ew.out).mono ?_); rintro e IJ ⟨rfl, hb⟩; refine ⟨_, rfl, ?_⟩; replace AA := zw AA hb; replace AB := zw AB hb; replace AD := zy AD hb; replace AE := zy AE hb; replace AF := zy AF hb; replace AC := zy AC hb; replace HB := zm (below_step zB hb); (try clear hb); refine hK.out _ _ zS (fun hHeld => ?_); clear hK K; refine zn ?_; refine zo 5 (some 23) (zl 8 63) (fun K hK => ?_); refine zgo #[.agg #[.slice A1_0 l1_0.length c1_0, .slice A1_1 l1_1.length c1_1], .int .i64 AO] Tryd.func78 ?_; (with_reducible refine (spec_FloorOf.calls k1 _ _ l1_0 _ _ l1_1 AO CK _ (zk (Kd.C_below HR1_0.out HB.out)) HC1_0.out (zk (Kd.C_below HR1_1.out HB.out)) HC1_1.out Ex.out).mono ?_); rintro e IK ⟨rfl, hb⟩; refine ⟨_, rfl, ?_⟩; replace AA := zw AA hb; replace AB := zw AB hb; replace AD := zy AD hb; replace AE := zy AE hb; replace AF := zy AF hb; replace AC := zy AC hb; replace HB := zm (below_step zB hb); (try clear hb); refine hK.out _ _ zS (fun hHeld => ?_); clear hK K; refine zn ?_; refine zo 6 (some 24) (zl 8 127) (fun K hK => ?_); refine zgo #[.int .i64 CJ, .int .i64 CK] Tryd.func80 ?_
    (with_reducible refine (spec_l1Max.calls CJ CK Af _ Ey.out).mono ?_); rintro e w' ⟨rfl, ⟨nd, rfl⟩⟩; refine ⟨_, rfl, ?_⟩; refine hK.out _ _ zS (fun hHeld => ?_); clear hK K; refine zn ?_
    refine zu 7 7 8 255 ?_
    refine done_ (done_of HT_.out (by kernel_rfl)) ?_
    go_upto_if 26 with (fail)
    go_cut [] (fun wc => ∃ (kq : Nat) (AP : List (S68)) (u431001 : Value), Aside0 (spec_l3Join.j1 kq AO Af l0_0 l0_1 l1_0 l1_1 AM AP = some (r1, r2)) ∧ Aside0 (kq ≤ k1) ∧ Aside0 (Kd.R k63 63 wc w.heap.size (fun _ => True) u431000 AM) ∧ Aside0 (Kd.R k68 68 wc w.heap.size (fun _ => True) u431001 AP) ∧ Aside0 (wc.heap[BJ]? = some (.cells #[(.slice A0_0 l0_0.length c0_0), (.slice A0_1 l0_1.length c0_1)] 45 (0, 0))) ∧ Aside0 (wc.heap[BK]? = some (.cells #[(.slice A1_0 l1_0.length c1_0), (.slice A1_1 l1_1.length c1_1)] 45 (0, 0))) ∧ Aside0 (wc.heap[BR]? = some (.cells #[(.slice none 0 0), (.slice none 0 0)] 45 (0, 0))) ∧ Aside0 (wc.heap[Bb]? = some (.cells #[u431000, u431001] 45 (0, 0))) ∧ Aside0 (Below w.heap.size w wc))
    case first =>
     have H := CE.out; clear CE
     by_cases Bc : Af > 0
     ·rw [if_pos Bc] at H; have BQ : decide (0 < Af) = true := decide_eq_true Bc; clear Bc
      (first | rw [BQ] | (simp only [i64_w, i32_w]; rw [BQ]) | skip)
      by_cases CO : Ae.length < 8796093022208
      ·rw [if_pos CO] at H; have LMc20 := zm CO; clear CO
       obtain ⟨y434, hy434⟩ : ∃ y_ : List (S68), y_ = (Ae ++ [(⟨AO, Af⟩ : S68)]) := ⟨_, rfl⟩
       replace H : (spec_l3Join.j1 k1 AO Af l0_0 l0_1 l1_0 l1_1 AM y434) = some (r1, r2) := by first | (rw [hy434]; with_reducible exact H) | (have H2_ := (Option.bind_some _ _).symm.trans H; rw [hy434]; with_reducible exact H2_) | (have H2_ := (Option.bind_some _ _).symm.trans H; with_reducible exact H2_) | with_reducible exact H | (rw [hy434]; exact H) | exact H
       have Ny434 := zm hy434; clear hy434
       have H' := zm H
       clear H; have GW := Ai.out; have HN := AX.out; have GX := Aj.out; have HO := AY.out; have GY := At.out; have HP := AZ.out; obtain ⟨EK, EL, Ed, Ee⟩ := zc2 AC
       go_wp2_with (first | ((with_reducible refine gate_builtin (b := .append) (xs := #[.tmp 28, .tmp 32]) rfl ?_); at_builtin; refine Kd.R_append k68 (w0 := w) w.heap.size rfl (.tmp 28) (.tmp 32) 43 68 (.agg #[(.int .i64 0), (.int .i64 0)]) 16 rfl Tryd.underlying43 info68 rfl (by decide) (by omega) u431001 Ae (⟨AO, Af⟩ : S68) [.int .i64 AO, .int .i64 Af] (fun _ => True) (fun _ => False) rfl rfl ?aP (fun _ hk => hk.elim) ?aF ?aO ?aB ?aS ?aL ?_; (case aP => exact k68_mkM _ _ _ (⟨AO, Af⟩ : S68)); (case aB => exact zB); (case aF => exact (fun _ _ => trivial)); (case aO => exact (zr AB)); (case aS => exact (below_size zB)); (case aL => have := LMc20.out; omega); intro v435 IL ho hb hg hat; rw [← Ny434.out] at ho; replace AA := zm (Kd.R_over' (zr AA) (Kd.R_typed (zr AB)) (by decide) hg); replace AD := zgr hg (zb AD) (Kd.R_ne AB.out AD.out (by decide)); replace AE := zgr hg (zb AE) (Kd.R_ne AB.out AE.out (by decide)); replace AF := zgr hg (zb AF) (Kd.R_ne AB.out AF.out (by decide)); replace AC := zgr hg (zb AC) (Kd.R_ne AB.out AC.out (by decide)); replace HB := zm hb; have CL := zm (ho); clear AB; clear ho hb hg hat; obtain ⟨D6, D7, eo26⟩ := Kd.R_slice CL.out; subst eo26; obtain ⟨EM, EN, Ef, Eg⟩ := zc2 AC))
       go_meet
       case rel => exact ⟨_, (y434), (.slice D6 y434.length D7), H', ⟨by have := As.out; first | omega | exact Nat.le_refl _⟩, ⟨zrs <| Kd.R_mono (zfr (Kd.R_types AA.out AC.out (by decide))) (fun _ hk => trivial)⟩, ⟨zrs <| Kd.R_mono (zfr (Kd.R_types CL.out AC.out (by decide))) (fun _ hk => trivial)⟩, ⟨zfar (zb AD) AX⟩, ⟨zfar (zb AE) AY⟩, ⟨zfar (zb AF) AZ⟩, ⟨zput (zb AC) 1⟩, ⟨zB⟩⟩
      ·rw [if_neg CO] at H
       exact absurd H (by simp)
     ·rw [if_neg Bc] at H; have BQ : decide (0 < Af) = false := decide_eq_false Bc; clear Bc
      (first | rw [BQ] | (simp only [i64_w, i32_w]; rw [BQ]) | skip)
      have H' := zm H
      clear H
      go_wp2
      go_meet
      case rel => exact ⟨_, (Ae), (u431001), H', ⟨by have := As.out; first | omega | exact Nat.le_refl _⟩, ⟨zr AA⟩, ⟨zr AB⟩, ⟨zb AD⟩, ⟨zb AE⟩, ⟨zb AF⟩, ⟨zb AC⟩, ⟨zB⟩⟩
    case rest =>
     clear CE; (try clear BP); (try clear Ba); (try clear BL); (try clear BM); (try clear BN); (try clear BO); obtain ⟨kq, AP, u431001, HA, Ah, AA, AB, AD, AE, AF, AC, HB⟩ := hcut
     cases kq with
     | zero => exact absurd HA.out (by simp [spec_l3Join.j1])
     | succ CH =>
      have H := HA.out; clear HA; simp only [spec_l3Join.j1] at H; replace H := Option.bind_eq_some_iff.mp H; obtain ⟨⟨Ag, Ao, Ap, Aq, Ar, C9⟩, Cs, H⟩ := H; (try dsimp only at H); have Ez := zm Cs; clear Cs; replace H := Option.bind_eq_some_iff.mp H; obtain ⟨⟨Am, B2, B3, BA, BB, CA⟩, Ct, H⟩ := H; (try dsimp only at H); have F0 := zm Ct; clear Ct; have CF := zm H; clear H; have GZ := CB.out; have HQ := CC.out; have Ga := BW.out; have HR := BY.out; have Gb := AX.out; have HS := Ai.out; obtain ⟨Be, Bf, Bs, Bt⟩ := zc2 AD
      go_upto_region 10 with (first | ((with_reducible refine gate_callee (f := 81) rfl ?_); refine zg (some 38) #[.agg #[.slice A0_0 l0_0.length c0_0, .slice A0_1 l0_1.length c0_1], .int .i64 AO] Tryd.func81 ?_; (with_reducible refine (spec_EntryOf.calls CH _ _ l0_0 _ _ l0_1 AO Ag Ao Ap Aq Ar C9 _ (zk (Kd.C_below HR0_0.out HB.out)) HC0_0.out (zk (Kd.C_below HR0_1.out HB.out)) HC0_1.out Ez.out).mono ?_); rintro e IM ⟨rfl, hb⟩; refine ⟨_, rfl, ?_⟩; replace AA := zw AA hb; replace AB := zw AB hb; replace AD := zy AD hb; replace AE := zy AE hb; replace AF := zy AF hb; replace AC := zy AC hb; replace HB := zm (below_step zB hb); clear hb) | ((with_reducible refine gate_dst (N := 8) rfl ?_); refine zbox 8 #[.int .i64 0, .int .i64 0, .int .i64 0, .int .i64 0, .string (⟨#[]⟩ : ByteArray)] 28 ?_; intro C7 hg IN hbox hb; replace AA := zw AA hb; replace AB := zw AB hb; have AN := zm (hbox); have GT := zge w hg zB; have GM := zge w hg zB; replace HB := zm (below_step zB hb); have Ab := zlt hg (zb AD); have BG := zgt hg (zb AD); replace AD := zy AD hb; have Ac := zlt hg (zb AE); have BH := zgt hg (zb AE); replace AE := zy AE hb; have Ad := zlt hg (zb AF); have BI := zgt hg (zb AF); replace AF := zy AF hb; have Aa := zlt hg (zb AC); have Au := zgt hg (zb AC); replace AC := zy AC hb; clear hb hbox hg; have Gc := BG.out; have HU := Ab.out; have Gd := BH.out; have HV := Ac.out; have Ge := BI.out; have HW := Ad.out; have Gf := Au.out; have HX := Aa.out; obtain ⟨Bg, Bh, Bi, Bj, Bk, Bu, Bv, Bw, Bx, By⟩ := zc5 AN; have Gg := BX.out; have HY := BZ.out; have Gh := AY.out; have HZ := Aj.out; obtain ⟨Bl, Bm, Bz, C0⟩ := zc2 AE) | ((with_reducible refine gate_callee (f := 81) rfl ?_); refine zg (some 44) #[.agg #[.slice A1_0 l1_0.length c1_0, .slice A1_1 l1_1.length c1_1], .int .i64 AO] Tryd.func81 ?_; (with_reducible refine (spec_EntryOf.calls CH _ _ l1_0 _ _ l1_1 AO Am B2 B3 BA BB CA _ ?side1 HC1_0.out ?side3 HC1_1.out F0.out).mono ?_); (case side1 => exact Kd.C_below HR1_0.out zB); (case side3 => exact Kd.C_below HR1_1.out zB); rintro e IP ⟨rfl, hb⟩; refine ⟨_, rfl, ?_⟩; replace AA := zm (Kd.R_below (zrs <| (Kd.R_mono (zfr (zfr (zfr (zfr (zfr (Kd.R_types AA.out AN.out (by decide))))))) (fun _ h_ => h_.1))) hb); replace AB := zm (Kd.R_below (zrs <| (Kd.R_mono (zfr (zfr (zfr (zfr (zfr (Kd.R_types AB.out AN.out (by decide))))))) (fun _ h_ => h_.1))) hb); replace AD := zyb hb (zfar (zfar (zfar (zfar (zfar (zb AD) Ab) Ab) Ab) Ab) Ab); replace AE := zyb hb (zfar (zfar (zfar (zfar (zfar (zb AE) Ac) Ac) Ac) Ac) Ac); replace AF := zyb hb (zfar (zfar (zfar (zfar (zfar (zb AF) Ad) Ad) Ad) Ad) Ad); replace AC := zyb hb (zfar (zfar (zfar (zfar (zfar (zb AC) Aa) Aa) Aa) Aa) Aa); replace AN := zm (blk_below (g := C7) (o := .cells #[.int .i64 Ag, .int .i64 Ao, .int .i64 Ap, .int .i64 Aq, .string Ar] 28 (0, 0)) (zput (zput (zput (zput (zput (zb AN) 0) 1) 2) 3) 4) hb); replace HB := zm (below_step zB hb); clear hb) | ((with_reducible refine gate_dst (N := 10) rfl ?_); refine zbox 10 #[.int .i64 0, .int .i64 0, .int .i64 0, .int .i64 0, .string (⟨#[]⟩ : ByteArray)] 28 ?_; intro CU hg IQ hbox hb; replace AA := zw AA hb; replace AB := zw AB hb; have AT := zm (hbox); have GU := zge w hg zB; have GN := zge w hg zB; replace HB := zm (below_step zB hb); have AU := zlt hg (zb AD); have BC := zgt hg (zb AD); replace AD := zy AD hb; have AV := zlt hg (zb AE); have BD := zgt hg (zb AE); replace AE := zy AE hb; have AW := zlt hg (zb AF); have BE := zgt hg (zb AF); replace AF := zy AF hb; have AR := zlt hg (zb AC); have Av := zgt hg (zb AC); replace AC := zy AC hb; have AS := zlt hg (zb AN); have Aw := zgt hg (zb AN); replace AN := zy AN hb; clear hb hbox hg; have Gi := BC.out; have Ha := AU.out; have Gj := BD.out; have Hb := AV.out; have Gk := BE.out; have Hc := AW.out; have Gl := Av.out; have Hd := AR.out; have Gm := Aw.out; have He := AS.out; obtain ⟨Bn, Bo, Bp, Bq, Br, C1, C2, C3, C4, C5⟩ := zc5 AT))
      (try simp only [Act.put, List.setIfInBounds_toArray, List.set_cons_zero, List.set_cons_succ])
      go_cut [52] (fun v52 wc => ∃ (kq : Nat) (BS : Bool), v52 = .bool BS ∧ Aside0 (spec_l3Join.j2 kq AO Af C9 CA BS l0_0 l0_1 l1_0 l1_1 AM AP Ag Ao Ap Aq Ar Am B2 B3 BA BB = some (r1, r2)) ∧ Aside0 (kq ≤ CH) ∧ Aside0 (Kd.R k63 63 wc w.heap.size (fun _ => True) u431000 AM) ∧ Aside0 (Kd.R k68 68 wc w.heap.size (fun _ => True) u431001 AP) ∧ Aside0 (wc.heap[BJ]? = some (.cells #[(.slice A0_0 l0_0.length c0_0), (.slice A0_1 l0_1.length c0_1)] 45 (0, 0))) ∧ Aside0 (wc.heap[BK]? = some (.cells #[(.slice A1_0 l1_0.length c1_0), (.slice A1_1 l1_1.length c1_1)] 45 (0, 0))) ∧ Aside0 (wc.heap[BR]? = some (.cells #[(.slice none 0 0), (.slice none 0 0)] 45 (0, 0))) ∧ Aside0 (wc.heap[Bb]? = some (.cells #[u431000, u431001] 45 (0, 0))) ∧ Aside0 (wc.heap[C7]? = some (.cells #[.int .i64 Ag, .int .i64 Ao, .int .i64 Ap, .int .i64 Aq, .string Ar] 28 (0, 0))) ∧ Aside0 (wc.heap[CU]? = some (.cells #[.int .i64 Am, .int .i64 B2, .int .i64 B3, .int .i64 BA, .string BB] 28 (0, 0))) ∧ Aside0 (Below w.heap.size w wc))
      case first =>
       have H := CF.out; clear CF
       by_cases CP : C9 = true
       ·subst CP; rw [if_pos rfl] at H
        have H' := zm H
        clear H
        go_wp2
        go_meet
        case rel => exact ⟨_, (false), zF, H', ⟨by have := As.out; have := Ah.out; first | omega | exact Nat.le_refl _⟩, ⟨zrs <| Kd.R_mono (zfr (zfr (zfr (zfr (zfr (Kd.R_types AA.out AT.out (by decide))))))) (fun _ hk => trivial)⟩, ⟨zrs <| Kd.R_mono (zfr (zfr (zfr (zfr (zfr (Kd.R_types AB.out AT.out (by decide))))))) (fun _ hk => trivial)⟩, ⟨zfar (zfar (zfar (zfar (zfar (zb AD) AU) AU) AU) AU) AU⟩, ⟨zfar (zfar (zfar (zfar (zfar (zb AE) AV) AV) AV) AV) AV⟩, ⟨zfar (zfar (zfar (zfar (zfar (zb AF) AW) AW) AW) AW) AW⟩, ⟨zfar (zfar (zfar (zfar (zfar (zb AC) AR) AR) AR) AR) AR⟩, ⟨zfar (zfar (zfar (zfar (zfar (zb AN) AS) AS) AS) AS) AS⟩, ⟨zput (zput (zput (zput (zput (zb AT) 0) 1) 2) 3) 4⟩, ⟨zB⟩⟩
       ·replace CP := Bool.eq_false_iff.mpr CP; subst CP; rw [zff] at H
        have H' := zm H
        clear H
        go_wp2
        go_meet
        case rel => exact ⟨_, (!CA), zF, H', ⟨by have := As.out; have := Ah.out; first | omega | exact Nat.le_refl _⟩, ⟨zrs <| Kd.R_mono (zfr (zfr (zfr (zfr (zfr (Kd.R_types AA.out AT.out (by decide))))))) (fun _ hk => trivial)⟩, ⟨zrs <| Kd.R_mono (zfr (zfr (zfr (zfr (zfr (Kd.R_types AB.out AT.out (by decide))))))) (fun _ hk => trivial)⟩, ⟨zfar (zfar (zfar (zfar (zfar (zb AD) AU) AU) AU) AU) AU⟩, ⟨zfar (zfar (zfar (zfar (zfar (zb AE) AV) AV) AV) AV) AV⟩, ⟨zfar (zfar (zfar (zfar (zfar (zb AF) AW) AW) AW) AW) AW⟩, ⟨zfar (zfar (zfar (zfar (zfar (zb AC) AR) AR) AR) AR) AR⟩, ⟨zfar (zfar (zfar (zfar (zfar (zb AN) AS) AS) AS) AS) AS⟩, ⟨zput (zput (zput (zput (zput (zb AT) 0) 1) 2) 3) 4⟩, ⟨zB⟩⟩
      case rest =>
       clear CF; (try clear BP); (try clear Ba); (try clear BL); (try clear BM); (try clear Be); (try clear Bf); (try clear Bg); (try clear Bh); (try clear Bi); (try clear Bj); (try clear Bk); (try clear Bl); (try clear Bm); (try clear Bn); (try clear Bo); (try clear Bp); (try clear Bq); (try clear Br); (try clear BN); (try clear BO); (try clear Bs); (try clear Bt); (try clear Bu); (try clear Bv); (try clear Bw); (try clear Bx); (try clear By); (try clear Bz); (try clear C0); (try clear C1); (try clear C2); (try clear C3); (try clear C4); (try clear C5); obtain ⟨kq, BS, rfl, HA, An, AA, AB, AD, AE, AF, AC, AN, AT, HB⟩ := hcut
       cases kq with
       | zero => exact absurd HA.out (by simp [spec_l3Join.j2])
       | succ CI =>
        have H := HA.out; clear HA; simp only [spec_l3Join.j2] at H
        by_cases CD : BS = true
        ·subst CD; rw [if_pos rfl] at H
         have H' := zm H
         clear H
         go_wp2
         go_roundg CI
         case measure => have := As.out; have := Ah.out; have := An.out; omega
         case rel => exact ⟨(wrap64 (AO + 1)), (AM), (AP), (u431000), (u431001), zF, H', ⟨by have := As.out; have := Ah.out; have := An.out; omega⟩, ⟨zr AA⟩, ⟨zr AB⟩, ⟨zb AD⟩, ⟨zb AE⟩, ⟨zb AF⟩, ⟨zb AC⟩, ⟨zB⟩⟩
        ·replace CD := Bool.eq_false_iff.mpr CD; subst CD; rw [zff] at H; have CG := zm H; clear H; have Gn := BG.out; have Hf := Ab.out; have Gp := BH.out; have Hg := Ac.out; have Gq := BI.out; have Hh := Ad.out; have Gr := Au.out; have Hi := Aa.out; have Gs := AS.out; have Hj := Aw.out; obtain ⟨CV, CW, CX, CY, CZ, Cf, Cg, Ch, Ci, Cj⟩ := zc5 AN
         go_upto_region 12 with (first | ((with_reducible refine gate_dst (N := 12) rfl ?_); refine zbox 12 #[.int .i64 0, .int .i64 0, .int .i64 0, .int .i64 0, .string (⟨#[]⟩ : ByteArray)] 28 ?_; intro C8 hg IR hbox hb; replace AA := zw AA hb; replace AB := zw AB hb; have AQ := zm (hbox); have GV := zge w hg zB; have GO := zge w hg zB; replace HB := zm (below_step zB hb); have AG := zlt hg (zb AD); have Ax := zgt hg (zb AD); replace AD := zy AD hb; have AH := zlt hg (zb AE); have Ay := zgt hg (zb AE); replace AE := zy AE hb; have AI := zlt hg (zb AF); have Az := zgt hg (zb AF); replace AF := zy AF hb; have AJ := zlt hg (zb AC); have B0 := zgt hg (zb AC); replace AC := zy AC hb; have AK := zlt hg (zb AN); have Ak := zgt hg (zb AN); replace AN := zy AN hb; have AL := zlt hg (zb AT); have Al := zgt hg (zb AT); replace AT := zy AT hb; clear hb hbox hg; have Gt := Ax.out; have Hk := AG.out; have Gu := Ay.out; have Hl := AH.out; have Gv := Az.out; have Hm := AI.out; have Gw := B0.out; have Hn := AJ.out; have Gx := Ak.out; have Ho := AK.out; have Gy := Al.out; have Hp := AL.out; obtain ⟨Ca, Cb, Cc, Cd, Ce, Ck, Cl, Cm, Cn, Co⟩ := zc5 AQ))
         (try simp only [Act.put, List.setIfInBounds_toArray, List.set_cons_zero, List.set_cons_succ])
         go_cut [64] (fun v64 wc => ∃ (kq : Nat) (BT : Bool), v64 = .bool BT ∧ Aside0 (spec_l3Join.j3 kq AO Af BT l0_0 l0_1 l1_0 l1_1 AM AP Am B2 B3 BA BB Ag Ao Ap Aq Ar = some (r1, r2)) ∧ Aside0 (kq ≤ CI) ∧ Aside0 (Kd.R k63 63 wc w.heap.size (fun _ => True) u431000 AM) ∧ Aside0 (Kd.R k68 68 wc w.heap.size (fun _ => True) u431001 AP) ∧ Aside0 (wc.heap[BJ]? = some (.cells #[(.slice A0_0 l0_0.length c0_0), (.slice A0_1 l0_1.length c0_1)] 45 (0, 0))) ∧ Aside0 (wc.heap[BK]? = some (.cells #[(.slice A1_0 l1_0.length c1_0), (.slice A1_1 l1_1.length c1_1)] 45 (0, 0))) ∧ Aside0 (wc.heap[BR]? = some (.cells #[(.slice none 0 0), (.slice none 0 0)] 45 (0, 0))) ∧ Aside0 (wc.heap[Bb]? = some (.cells #[u431000, u431001] 45 (0, 0))) ∧ Aside0 (wc.heap[C7]? = some (.cells #[.int .i64 Ag, .int .i64 Ao, .int .i64 Ap, .int .i64 Aq, .string Ar] 28 (0, 0))) ∧ Aside0 (wc.heap[CU]? = some (.cells #[.int .i64 Am, .int .i64 B2, .int .i64 B3, .int .i64 BA, .string BB] 28 (0, 0))) ∧ Aside0 (wc.heap[C8]? = some (.cells #[.int .i64 Ag, .int .i64 Ao, .int .i64 Ap, .int .i64 Aq, .string Ar] 28 (0, 0))) ∧ Aside0 (Below w.heap.size w wc))
         case first =>
          have H := CG.out; clear CG
          by_cases CQ : C9 = true
          ·subst CQ; rw [if_pos rfl] at H
           by_cases CR : CA = true
           ·subst CR; rw [if_pos rfl] at H; replace H := Option.bind_eq_some_iff.mp H; obtain ⟨Cw, Cu, H⟩ := H; (try dsimp only at H); have F1 := zm Cu; clear Cu
            have H' := zm H
            clear H; have Gz := BC.out; have Hq := AU.out; have H0 := BD.out; have Hr := AV.out; have H1 := BE.out; have Hs := AW.out; have H2 := Av.out; have Ht := AR.out; have H3 := Aw.out; have Hu := AS.out; have H4 := AL.out; have Hv := Al.out; obtain ⟨EO, EP, EQ, ER, ES, Eh, Ei, Ej, Ek, El⟩ := zc5 AT; have H5 := BG.out; have Hw := Ab.out; have H6 := BH.out; have Hx := Ac.out; have H7 := BI.out; have Hy := Ad.out; have H8 := Au.out; have Hz := Aa.out; have H9 := AK.out; have I0 := Ak.out; obtain ⟨ET, EU, EV, EW, EX, Em, En, Eo, Ep, Eq⟩ := zc5 AN
            go_wp2_with (first | (go_at_call 82; (with_reducible refine (spec_EntryCmp.calls CI Am B2 B3 BA BB Ag Ao Ap Aq Ar Cw _ F1.out).mono ?_); rintro e IS ⟨rfl, hb⟩; replace AA := zm (Kd.R_below (zrs <| (Kd.R_mono (zfr (zfr (zfr (zfr (zfr (Kd.R_types AA.out AQ.out (by decide))))))) (fun _ h_ => h_.1))) hb); replace AB := zm (Kd.R_below (zrs <| (Kd.R_mono (zfr (zfr (zfr (zfr (zfr (Kd.R_types AB.out AQ.out (by decide))))))) (fun _ h_ => h_.1))) hb); replace AD := zyb hb (zfar (zfar (zfar (zfar (zfar (zb AD) AG) AG) AG) AG) AG); replace AE := zyb hb (zfar (zfar (zfar (zfar (zfar (zb AE) AH) AH) AH) AH) AH); replace AF := zyb hb (zfar (zfar (zfar (zfar (zfar (zb AF) AI) AI) AI) AI) AI); replace AC := zyb hb (zfar (zfar (zfar (zfar (zfar (zb AC) AJ) AJ) AJ) AJ) AJ); replace AN := zyb hb (zfar (zfar (zfar (zfar (zfar (zb AN) AK) AK) AK) AK) AK); replace AT := zyb hb (zfar (zfar (zfar (zfar (zfar (zb AT) AL) AL) AL) AL) AL); replace AQ := zm (blk_below (g := C8) (o := .cells #[.int .i64 Ag, .int .i64 Ao, .int .i64 Ap, .int .i64 Aq, .string Ar] 28 (0, 0)) (zput (zput (zput (zput (zput (zb AQ) 0) 1) 2) 3) 4) hb); replace HB := zm (below_step zB hb); clear hb))
            go_meet
            case rel => exact ⟨_, (decide (Cw > 0)), zF, H', ⟨by have := As.out; have := Ah.out; have := An.out; first | omega | exact Nat.le_refl _⟩, ⟨zr AA⟩, ⟨zr AB⟩, ⟨zb AD⟩, ⟨zb AE⟩, ⟨zb AF⟩, ⟨zb AC⟩, ⟨zb AN⟩, ⟨zb AT⟩, ⟨zb AQ⟩, ⟨zB⟩⟩
           ·replace CR := Bool.eq_false_iff.mpr CR; subst CR; rw [zff] at H
            have H' := zm H
            clear H
            go_wp2
            go_meet
            case rel => exact ⟨_, (false), zF, H', ⟨by have := As.out; have := Ah.out; have := An.out; first | omega | exact Nat.le_refl _⟩, ⟨zrs <| Kd.R_mono (zfr (zfr (zfr (zfr (zfr (Kd.R_types AA.out AQ.out (by decide))))))) (fun _ hk => trivial)⟩, ⟨zrs <| Kd.R_mono (zfr (zfr (zfr (zfr (zfr (Kd.R_types AB.out AQ.out (by decide))))))) (fun _ hk => trivial)⟩, ⟨zfar (zfar (zfar (zfar (zfar (zb AD) AG) AG) AG) AG) AG⟩, ⟨zfar (zfar (zfar (zfar (zfar (zb AE) AH) AH) AH) AH) AH⟩, ⟨zfar (zfar (zfar (zfar (zfar (zb AF) AI) AI) AI) AI) AI⟩, ⟨zfar (zfar (zfar (zfar (zfar (zb AC) AJ) AJ) AJ) AJ) AJ⟩, ⟨zfar (zfar (zfar (zfar (zfar (zb AN) AK) AK) AK) AK) AK⟩, ⟨zfar (zfar (zfar (zfar (zfar (zb AT) AL) AL) AL) AL) AL⟩, ⟨zput (zput (zput (zput (zput (zb AQ) 0) 1) 2) 3) 4⟩, ⟨zB⟩⟩
          ·replace CQ := Bool.eq_false_iff.mpr CQ; subst CQ; rw [zff] at H
           have H' := zm H
           clear H
           go_wp2
           go_meet
           case rel => exact ⟨_, (true), zF, H', ⟨by have := As.out; have := Ah.out; have := An.out; first | omega | exact Nat.le_refl _⟩, ⟨zrs <| Kd.R_mono (zfr (zfr (zfr (zfr (zfr (Kd.R_types AA.out AQ.out (by decide))))))) (fun _ hk => trivial)⟩, ⟨zrs <| Kd.R_mono (zfr (zfr (zfr (zfr (zfr (Kd.R_types AB.out AQ.out (by decide))))))) (fun _ hk => trivial)⟩, ⟨zfar (zfar (zfar (zfar (zfar (zb AD) AG) AG) AG) AG) AG⟩, ⟨zfar (zfar (zfar (zfar (zfar (zb AE) AH) AH) AH) AH) AH⟩, ⟨zfar (zfar (zfar (zfar (zfar (zb AF) AI) AI) AI) AI) AI⟩, ⟨zfar (zfar (zfar (zfar (zfar (zb AC) AJ) AJ) AJ) AJ) AJ⟩, ⟨zfar (zfar (zfar (zfar (zfar (zb AN) AK) AK) AK) AK) AK⟩, ⟨zfar (zfar (zfar (zfar (zfar (zb AT) AL) AL) AL) AL) AL⟩, ⟨zput (zput (zput (zput (zput (zb AQ) 0) 1) 2) 3) 4⟩, ⟨zB⟩⟩
         case rest =>
          clear CG; (try clear BP); (try clear Ba); (try clear CD); (try clear BL); (try clear BM); (try clear Be); (try clear Bf); (try clear Bg); (try clear Bh); (try clear Bi); (try clear Bj); (try clear Bk); (try clear Bl); (try clear Bm); (try clear Bn); (try clear Bo); (try clear Bp); (try clear Bq); (try clear Br); (try clear CV); (try clear CW); (try clear CX); (try clear CY); (try clear CZ); (try clear Ca); (try clear Cb); (try clear Cc); (try clear Cd); (try clear Ce); (try clear BN); (try clear BO); (try clear Bs); (try clear Bt); (try clear Bu); (try clear Bv); (try clear Bw); (try clear Bx); (try clear By); (try clear Bz); (try clear C0); (try clear C1); (try clear C2); (try clear C3); (try clear C4); (try clear C5); (try clear Cf); (try clear Cg); (try clear Ch); (try clear Ci); (try clear Cj); (try clear Ck); (try clear Cl); (try clear Cm); (try clear Cn); (try clear Co); obtain ⟨kq, BT, rfl, HA, BF, AA, AB, AD, AE, AF, AC, AN, AT, AQ, HB⟩ := hcut
          cases kq with
          | zero => exact absurd HA.out (by simp [spec_l3Join.j3])
          | succ BV =>
           have H := HA.out; clear HA; simp only [spec_l3Join.j3] at H
           by_cases CS : BT = true
           ·subst CS; rw [if_pos rfl] at H
            by_cases Bd : Am > Af
            ·rw [if_pos Bd] at H; have D1 : decide (Af < Am) = true := decide_eq_true Bd; clear Bd
             by_cases CT : AM.length < 2513169434916
             ·rw [if_pos CT] at H; have LMc89 := zm CT; clear CT
              obtain ⟨y453, hy453⟩ : ∃ y_ : List (S63), y_ = (AM ++ [(⟨AO, (⟨Am, B2, B3, BA, BB⟩ : S28)⟩ : S63)]) := ⟨_, rfl⟩
              replace H : (spec_l3Join.l0 BV (wrap64 (AO + 1)) l0_0 l0_1 l1_0 l1_1 y453 AP) = some (r1, r2) := by first | (rw [hy453]; with_reducible exact H) | (have H2_ := (Option.bind_some _ _).symm.trans H; rw [hy453]; with_reducible exact H2_) | (have H2_ := (Option.bind_some _ _).symm.trans H; with_reducible exact H2_) | with_reducible exact H | (rw [hy453]; exact H) | exact H
              have Ny453 := zm hy453; clear hy453
              have H' := zm H
              clear H; have HC := BC.out; have I1 := AU.out; have HD := BD.out; have I2 := AV.out; have HE := BE.out; have I3 := AW.out; have HF := Av.out; have I4 := AR.out; have HG := Aw.out; have I5 := AS.out; have HH := AL.out; have I6 := Al.out; obtain ⟨EY, EZ, Ea, Eb, Ec, Er, Es, Et, Eu, Ev⟩ := zc5 AT; have HI := Ax.out; have I7 := AG.out; have HJ := Ay.out; have I8 := AH.out; have HM := Az.out; have I9 := AI.out; have F2 := B0.out; have Ff := AJ.out; have F3 := Ak.out; have Fg := AK.out; obtain ⟨D8, D9, DA, DB, DC, Dj, Dk, Dl, Dm, Dn⟩ := zc5 AQ; have F4 := Ai.out; have Fh := AX.out; have F5 := Aj.out; have Fi := AY.out; have F6 := At.out; have Fj := AZ.out; have F7 := Aa.out; have Fk := Au.out; obtain ⟨DD, DE, Do, Dp⟩ := zc2 AC
              go_wp2_with (first | ((with_reducible refine gate_builtin (b := .append) (xs := #[.tmp 71, .tmp 75]) rfl ?_); at_builtin; refine Kd.R_append k63 (w0 := w) w.heap.size rfl (.tmp 71) (.tmp 75) 42 63 (.agg #[(.int .i64 0), (.int .i64 0), (.int .i64 0), (.int .i64 0), (.int .i64 0), (.string ⟨#[]⟩)]) 56 rfl Tryd.underlying42 info63 rfl (by decide) (by omega) u431000 AM (⟨AO, (⟨Am, B2, B3, BA, BB⟩ : S28)⟩ : S63) [.int .i64 AO, .int .i64 Am, .int .i64 B2, .int .i64 B3, .int .i64 BA, .string BB] (fun _ => True) (fun _ => False) rfl (by first | (go_simp; done) | (go_simp; rfl)) ?aP (fun _ hk => hk.elim) ?aF ?aO ?aB ?aS ?aL ?_; (case aP => exact k63_mkM _ _ _ (⟨AO, (⟨Am, B2, B3, BA, BB⟩ : S28)⟩ : S63)); (case aB => exact zB); (case aF => exact (fun _ _ => trivial)); (case aO => exact (zrs <| Kd.R_mono (zfr (zfr (zfr (zfr (zfr (Kd.R_types AA.out AQ.out (by decide))))))) (fun _ hk => trivial))); (case aS => exact (below_size zB)); (case aL => have := LMc89.out; omega); intro v454 IG ho hb hg hat; rw [← Ny453.out] at ho; replace AB := zm (Kd.R_over' (zrs <| (Kd.R_mono (zfr (zfr (zfr (zfr (zfr (Kd.R_types AB.out AQ.out (by decide))))))) (fun _ h_ => h_.1))) (Kd.R_typed (zrs <| (Kd.R_mono (zfr (zfr (zfr (zfr (zfr (Kd.R_types AA.out AQ.out (by decide))))))) (fun _ h_ => h_.1)))) (by decide) hg); replace AD := zgr hg (zfar (zfar (zfar (zfar (zfar (zb AD) AG) AG) AG) AG) AG) (Kd.R_ne AA.out AD.out (by decide)); replace AE := zgr hg (zfar (zfar (zfar (zfar (zfar (zb AE) AH) AH) AH) AH) AH) (Kd.R_ne AA.out AE.out (by decide)); replace AF := zgr hg (zfar (zfar (zfar (zfar (zfar (zb AF) AI) AI) AI) AI) AI) (Kd.R_ne AA.out AF.out (by decide)); replace AC := zgr hg (zfar (zfar (zfar (zfar (zfar (zb AC) AJ) AJ) AJ) AJ) AJ) (Kd.R_ne AA.out AC.out (by decide)); replace AN := zgr hg (zfar (zfar (zfar (zfar (zfar (zb AN) AK) AK) AK) AK) AK) (Kd.R_ne AA.out AN.out (by decide)); replace AT := zgr hg (zfar (zfar (zfar (zfar (zfar (zb AT) AL) AL) AL) AL) AL) (Kd.R_ne AA.out AT.out (by decide)); replace AQ := zm (blk_grown (g := C8) (o := .cells #[.int .i64 Am, .int .i64 B2, .int .i64 B3, .int .i64 BA, .string BB] 28 (0, 0)) (zput (zput (zput (zput (zput (zb AQ) 0) 1) 2) 3) 4) hg (Kd.R_ne AA.out AQ.out (by decide))); replace HB := zm hb; have CM := zm (ho); clear AA; clear ho hb hg hat; obtain ⟨Cx, D2, eo109⟩ := Kd.R_slice CM.out; subst eo109; obtain ⟨DF, DG, Dq, Dr⟩ := zc2 AC))
              go_roundg BV
              case measure => have := As.out; have := Ah.out; have := An.out; have := BF.out; omega
              case rel => exact ⟨(wrap64 (AO + 1)), (y453), (AP), (.slice Cx y453.length D2), (u431001), zF, H', ⟨by have := As.out; have := Ah.out; have := An.out; have := BF.out; omega⟩, ⟨zrs <| Kd.R_mono (zfr (Kd.R_types CM.out AC.out (by decide))) (fun _ hk => trivial)⟩, ⟨zrs <| Kd.R_mono (zfr (Kd.R_types AB.out AC.out (by decide))) (fun _ hk => trivial)⟩, ⟨zfar (zb AD) AX⟩, ⟨zfar (zb AE) AY⟩, ⟨zfar (zb AF) AZ⟩, ⟨zput (zb AC) 0⟩, ⟨zB⟩⟩
             ·rw [if_neg CT] at H
              exact absurd H (by simp)
            ·rw [if_neg Bd] at H; have D1 : decide (Af < Am) = false := decide_eq_false Bd; clear Bd
             have H' := zm H
             clear H; have F8 := BC.out; have Fl := AU.out; have F9 := BD.out; have Fm := AV.out; have FA := BE.out; have Fn := AW.out; have FB := Av.out; have Fo := AR.out; have FC := Aw.out; have Fp := AS.out; have FD := AL.out; have Fq := Al.out; obtain ⟨DH, DI, DJ, DK, DL, Ds, Dt, Du, Dv, Dw⟩ := zc5 AT; have FE := Ax.out; have Fr := AG.out; have FF := Ay.out; have Fs := AH.out; have FG := Az.out; have Ft := AI.out; have FH := B0.out; have Fu := AJ.out; have FI := Ak.out; have Fv := AK.out; obtain ⟨DM, DN, DO, DP, DQ, Dx, Dy, Dz, E0, E1⟩ := zc5 AQ
             go_wp2
             go_roundg BV
             case measure => have := As.out; have := Ah.out; have := An.out; have := BF.out; omega
             case rel => exact ⟨(wrap64 (AO + 1)), (AM), (AP), (u431000), (u431001), zF, H', ⟨by have := As.out; have := Ah.out; have := An.out; have := BF.out; omega⟩, ⟨zrs <| Kd.R_mono (zfr (zfr (zfr (zfr (zfr (Kd.R_types AA.out AQ.out (by decide))))))) (fun _ hk => trivial)⟩, ⟨zrs <| Kd.R_mono (zfr (zfr (zfr (zfr (zfr (Kd.R_types AB.out AQ.out (by decide))))))) (fun _ hk => trivial)⟩, ⟨zfar (zfar (zfar (zfar (zfar (zb AD) AG) AG) AG) AG) AG⟩, ⟨zfar (zfar (zfar (zfar (zfar (zb AE) AH) AH) AH) AH) AH⟩, ⟨zfar (zfar (zfar (zfar (zfar (zb AF) AI) AI) AI) AI) AI⟩, ⟨zfar (zfar (zfar (zfar (zfar (zb AC) AJ) AJ) AJ) AJ) AJ⟩, ⟨zB⟩⟩
           ·replace CS := Bool.eq_false_iff.mpr CS; subst CS; rw [zff] at H
            by_cases BU : Ag > Af
            ·rw [if_pos BU] at H; have Cv : decide (Af < Ag) = true := decide_eq_true BU; clear BU
             by_cases C6 : AM.length < 2513169434916
             ·rw [if_pos C6] at H; have LMc125 := zm C6; clear C6
              obtain ⟨y456, hy456⟩ : ∃ y_ : List (S63), y_ = (AM ++ [(⟨AO, (⟨Ag, Ao, Ap, Aq, Ar⟩ : S28)⟩ : S63)]) := ⟨_, rfl⟩
              replace H : (spec_l3Join.l0 BV (wrap64 (AO + 1)) l0_0 l0_1 l1_0 l1_1 y456 AP) = some (r1, r2) := by first | (rw [hy456]; with_reducible exact H) | (have H2_ := (Option.bind_some _ _).symm.trans H; rw [hy456]; with_reducible exact H2_) | (have H2_ := (Option.bind_some _ _).symm.trans H; with_reducible exact H2_) | with_reducible exact H | (rw [hy456]; exact H) | exact H
              have Ny456 := zm hy456; clear hy456
              have H' := zm H
              clear H; have FJ := Ax.out; have Fw := AG.out; have FK := Ay.out; have Fx := AH.out; have FL := Az.out; have Fy := AI.out; have FM := B0.out; have Fz := AJ.out; have FN := Ak.out; have G0 := AK.out; have FO := Al.out; have G1 := AL.out; obtain ⟨DR, DS, DT, DU, DV, E2, E3, E4, E5, E6⟩ := zc5 AQ; have FP := Ai.out; have G2 := AX.out; have FQ := Aj.out; have G3 := AY.out; have FR := At.out; have G4 := AZ.out; have FS := Aa.out; have G5 := Au.out; have FT := AR.out; have G6 := Av.out; obtain ⟨DW, DX, E7, E8⟩ := zc2 AC
              go_wp2_with (first | ((with_reducible refine gate_builtin (b := .append) (xs := #[.tmp 71, .tmp 75]) rfl ?_); at_builtin; refine Kd.R_append k63 (w0 := w) w.heap.size rfl (.tmp 71) (.tmp 75) 42 63 (.agg #[(.int .i64 0), (.int .i64 0), (.int .i64 0), (.int .i64 0), (.int .i64 0), (.string ⟨#[]⟩)]) 56 rfl Tryd.underlying42 info63 rfl (by decide) (by omega) u431000 AM (⟨AO, (⟨Ag, Ao, Ap, Aq, Ar⟩ : S28)⟩ : S63) [.int .i64 AO, .int .i64 Ag, .int .i64 Ao, .int .i64 Ap, .int .i64 Aq, .string Ar] (fun _ => True) (fun _ => False) rfl rfl ?aP (fun _ hk => hk.elim) ?aF ?aO ?aB ?aS ?aL ?_; (case aP => exact k63_mkM _ _ _ (⟨AO, (⟨Ag, Ao, Ap, Aq, Ar⟩ : S28)⟩ : S63)); (case aB => exact zB); (case aF => exact (fun _ _ => trivial)); (case aO => exact (zr AA)); (case aS => exact (below_size zB)); (case aL => have := LMc125.out; omega); intro v457 IH ho hb hg hat; rw [← Ny456.out] at ho; replace AB := zm (Kd.R_over' (zr AB) (Kd.R_typed (zr AA)) (by decide) hg); replace AD := zgr hg (zb AD) (Kd.R_ne AA.out AD.out (by decide)); replace AE := zgr hg (zb AE) (Kd.R_ne AA.out AE.out (by decide)); replace AF := zgr hg (zb AF) (Kd.R_ne AA.out AF.out (by decide)); replace AC := zgr hg (zb AC) (Kd.R_ne AA.out AC.out (by decide)); replace AN := zgr hg (zb AN) (Kd.R_ne AA.out AN.out (by decide)); replace AT := zgr hg (zb AT) (Kd.R_ne AA.out AT.out (by decide)); replace AQ := zgr hg (zb AQ) (Kd.R_ne AA.out AQ.out (by decide)); replace HB := zm hb; have CN := zm (ho); clear AA; clear ho hb hg hat; obtain ⟨Cy, D3, eo140⟩ := Kd.R_slice CN.out; subst eo140; obtain ⟨DY, DZ, E9, EA⟩ := zc2 AC))
              go_roundg BV
              case measure => have := As.out; have := Ah.out; have := An.out; have := BF.out; omega
              case rel => exact ⟨(wrap64 (AO + 1)), (y456), (AP), (.slice Cy y456.length D3), (u431001), zF, H', ⟨by have := As.out; have := Ah.out; have := An.out; have := BF.out; omega⟩, ⟨zrs <| Kd.R_mono (zfr (Kd.R_types CN.out AC.out (by decide))) (fun _ hk => trivial)⟩, ⟨zrs <| Kd.R_mono (zfr (Kd.R_types AB.out AC.out (by decide))) (fun _ hk => trivial)⟩, ⟨zfar (zb AD) AX⟩, ⟨zfar (zb AE) AY⟩, ⟨zfar (zb AF) AZ⟩, ⟨zput (zb AC) 0⟩, ⟨zB⟩⟩
             ·rw [if_neg C6] at H
              exact absurd H (by simp)
            ·rw [if_neg BU] at H; have Cv : decide (Af < Ag) = false := decide_eq_false BU; clear BU
             have H' := zm H
             clear H; have FU := Ax.out; have G7 := AG.out; have FV := Ay.out; have G8 := AH.out; have FW := Az.out; have G9 := AI.out; have FX := B0.out; have GA := AJ.out; have FY := Ak.out; have GB := AK.out; have FZ := Al.out; have GC := AL.out; obtain ⟨Da, Db, Dc, Dd, De, EB, EC, ED, EE, EF⟩ := zc5 AQ
             go_wp2
             go_roundg BV
             case measure => have := As.out; have := Ah.out; have := An.out; have := BF.out; omega
             case rel => exact ⟨(wrap64 (AO + 1)), (AM), (AP), (u431000), (u431001), zF, H', ⟨by have := As.out; have := Ah.out; have := An.out; have := BF.out; omega⟩, ⟨zr AA⟩, ⟨zr AB⟩, ⟨zb AD⟩, ⟨zb AE⟩, ⟨zb AF⟩, ⟨zb AC⟩, ⟨zB⟩⟩
   ·rw [if_neg BP] at H; have Ba : decide (AO < 5) = false := decide_eq_false BP; clear BP; simp only [Option.some.injEq, Prod.mk.injEq] at H; obtain ⟨rfl, rfl⟩ := H; have Fa := Ai.out; have GD := AX.out; have Fb := Aj.out; have GE := AY.out; have Fc := At.out; have GF := AZ.out; obtain ⟨Df, Dg, EG, EH⟩ := zc2 AC; obtain ⟨Cz, D4, eo153⟩ := Kd.R_slice AA.out; subst eo153; have Fd := BY.out; have GG := BW.out; have Fe := BZ.out; have GH := BX.out; obtain ⟨Dh, Di, EI, EJ⟩ := zc2 AF; obtain ⟨D0, D5, eo157⟩ := Kd.R_slice AB.out; subst eo157
    go_wp2
    refine bodyPost_ret (results_cell_row rfl _ _ BR 45 #[.slice Cz AM.length D4, .slice D0 Ae.length D5] (0, 0) _ rfl (zput (zput (zb AF) 0) 1) Tryd.underlying45 rfl (by kernel_rfl)) rfl ?_
    exact ⟨_, _, zE, zrs <| Kd.R_mono (zfr (zfr (Kd.R_types AA.out AF.out (by decide)))) (fun _ hk => trivial), zrs <| Kd.R_mono (zfr (zfr (Kd.R_types AB.out AF.out (by decide)))) (fun _ hk => trivial), zB⟩

/-- A state of type 117 at block g of W; what its slices lead to came in by w0. -/
def IsS117 (w0 W : World) (g : Nat) (f0 : List Int) (f1 : Int) (f2 : Int) : Prop := ∃ A0 c0, W.heap[g]? = some (.cells #[.slice A0 f0.length c0, .int .i64 f1, .int .i64 f2] 117 (0, 0)) ∧ w0.heap.size ≤ g ∧ Kd.C (Kd.int .u8) w0 A0 f0.length f0
theorem IsS117.grown {w0 W : World} {g : Nat} {f0 : List Int} {f1 : Int} {f2 : Int} {W1 : World} {row : Option Nat} (h : IsS117 w0 W g f0 f1 f2) (hw : W.grownBy W1 row) (hne : some g ≠ row) : IsS117 w0 W1 g f0 f1 f2 := by
 obtain ⟨A0, c0, hb, hg, hr0⟩ := h
 exact ⟨A0, c0, blk_grown hb hw hne, hg, hr0⟩
theorem IsS117.own_neN {w0 W : World} {g : Nat} {f0 : List Int} {f1 : Int} {f2 : Int} {α : Type} {d : Kd α} {e : Nat} {base : Nat} {ok : Nat → Prop} {v : Value} {xs : List α} (h : IsS117 w0 W g f0 f1 f2) (ho : Kd.N d e W base ok v xs) (ht : e ≠ 117) : some g ≠ v.ownBlock := by
 obtain ⟨A0, c0, hb, hg, hr0⟩ := h
 exact Kd.N_ne ho hb ht
theorem IsS117.fresh {w0 W : World} {g : Nat} {f0 : List Int} {f1 : Int} {f2 : Int} (h : IsS117 w0 W g f0 f1 f2) : ∀ k, W.heap.size ≤ k → k ≠ g := by
 obtain ⟨A0, c0, hb, hg, hr0⟩ := h
 exact Kd.freshB hb
theorem IsS117.kept {w0 W : World} {g : Nat} {f0 : List Int} {f1 : Int} {f2 : Int} {W1 : World} {S : Nat → Prop} (h : IsS117 w0 W g f0 f1 f2) (hk : Kept W W1 S) (hne : ¬ S g) : IsS117 w0 W1 g f0 f1 f2 := by
 obtain ⟨A0, c0, hb, hg, hr0⟩ := h
 exact ⟨A0, c0, blk_kept hb hk hne, hg, hr0⟩
theorem IsS117.below {w0 W : World} {g : Nat} {f0 : List Int} {f1 : Int} {f2 : Int} {W1 : World} (h : IsS117 w0 W g f0 f1 f2) (hw : Below W.heap.size W W1) : IsS117 w0 W1 g f0 f1 f2 := h.grown (grown_of_below hw none) (by simp)
theorem IsS117.alloc {w0 W : World} {g : Nat} {f0 : List Int} {f1 : Int} {f2 : Int} (h : IsS117 w0 W g f0 f1 f2) (o : Obj) : IsS117 w0 (W.alloc o) g f0 f1 f2 := h.below (below_alloc (Below.refl _ _) o)
theorem IsS117.drewN {w0 W : World} {g : Nat} {f0 : List Int} {f1 : Int} {f2 : Int} (h : IsS117 w0 W g f0 f1 f2) (m : Nat) : IsS117 w0 (W.drewN m) g f0 f1 f2 := h
theorem IsS117.drew {w0 W : World} {g : Nat} {f0 : List Int} {f1 : Int} {f2 : Int} (h : IsS117 w0 W g f0 f1 f2) : IsS117 w0 W.drew g f0 f1 f2 := h
theorem IsS117.at_ {w0 W : World} {g : Nat} {f0 : List Int} {f1 : Int} {f2 : Int} {w' : World} {m : Nat} (hq : W.drewN m = w') (h : IsS117 w0 W g f0 f1 f2) : IsS117 w0 w' g f0 f1 f2 := by subst hq; exact IsS117.drewN h m
theorem IsS117.apart {w0 W : World} {g : Nat} {f0 : List Int} {f1 : Int} {f2 : Int} {α : Type} {d : Kd α} {e : Nat} {base : Nat} {ok : Nat → Prop} {v : Value} {xs : List α} (h : IsS117 w0 W g f0 f1 f2) (ho : d.R e W base ok v xs) (ht : ∀ q, q ∈ e :: d.E → q ≠ 117) : d.R e W base (fun k => ok k ∧ k ≠ g) v xs := by
 obtain ⟨A0, c0, hb, hg, hr0⟩ := h
 exact Kd.R_types ho hb ht
theorem IsS117.own_ne {w0 W : World} {g : Nat} {f0 : List Int} {f1 : Int} {f2 : Int} {α : Type} {d : Kd α} {e : Nat} {base : Nat} {ok : Nat → Prop} {v : Value} {xs : List α} (h : IsS117 w0 W g f0 f1 f2) (ho : d.R e W base ok v xs) (ht : e ≠ 117) : some g ≠ v.ownBlock := by
 obtain ⟨A0, c0, hb, hg, hr0⟩ := h
 exact Kd.R_ne ho hb ht
theorem IsS117.apartQ {w0 W : World} {g : Nat} {f0 : List Int} {f1 : Int} {f2 : Int} {α : Type} {d : Kd α} {e : Nat} {base : Nat} {ok : Nat → Prop} {v : Value} {xs : List α} (h : IsS117 w0 W g f0 f1 f2) (ho : d.Q e W base ok v xs) (ht : ∀ q, q ∈ e :: d.E → q ≠ 117) : d.Q e W base (fun k => ok k ∧ k ≠ g) v xs := by
 obtain ⟨A0, c0, hb, hg, hr0⟩ := h
 exact Kd.Q_types ho hb ht
theorem IsS117.own_neQ {w0 W : World} {g : Nat} {f0 : List Int} {f1 : Int} {f2 : Int} {α : Type} {d : Kd α} {e : Nat} {base : Nat} {ok : Nat → Prop} {v : Value} {xs : List α} (h : IsS117 w0 W g f0 f1 f2) (ho : d.Q e W base ok v xs) (ht : e ≠ 117) : some g ≠ v.ownBlock := by
 obtain ⟨A0, c0, hb, hg, hr0⟩ := h
 exact Kd.Q_ne ho hb ht
theorem IsS117.apartS {w0 W : World} {g : Nat} {f0 : List Int} {f1 : Int} {f2 : Int} {α : Type} {d : Kd α} {e : Nat} {base : Nat} {ok : Nat → Prop} {v : Value} {xs : List α} (h : IsS117 w0 W g f0 f1 f2) (ho : d.S e W base ok v xs) (ht : ∀ q, q ∈ e :: d.E → q ≠ 117) : d.S e W base (fun k => ok k ∧ k ≠ g) v xs := by
 obtain ⟨A0, c0, hb, hg, hr0⟩ := h
 exact Kd.S_types ho hb ht
theorem IsS117.own_neS {w0 W : World} {g : Nat} {f0 : List Int} {f1 : Int} {f2 : Int} {α : Type} {d : Kd α} {e : Nat} {base : Nat} {ok : Nat → Prop} {v : Value} {xs : List α} (h : IsS117 w0 W g f0 f1 f2) (ho : d.S e W base ok v xs) (ht : e ≠ 117) : some g ≠ v.ownBlock := by
 obtain ⟨A0, c0, hb, hg, hr0⟩ := h
 exact Kd.S_ne ho hb ht
theorem IsS117.lt {w0 W : World} {g : Nat} {f0 : List Int} {f1 : Int} {f2 : Int} (h : IsS117 w0 W g f0 f1 f2) : g < W.heap.size := by
 obtain ⟨A0, c0, hb, hg, hr0⟩ := h
 exact blk_lt hb
theorem IsS117.ge {w0 W : World} {g : Nat} {f0 : List Int} {f1 : Int} {f2 : Int} (h : IsS117 w0 W g f0 f1 f2) : w0.heap.size ≤ g := by
 obtain ⟨A0, c0, hb, hg, hr0⟩ := h
 exact hg
theorem IsS117.ne_blk {w0 W : World} {g : Nat} {f0 : List Int} {f1 : Int} {f2 : Int} {a : Nat} {cs : Array Value} {t : TypeId} {fr : Nat × Nat} (h : IsS117 w0 W g f0 f1 f2) (hb2 : W.heap[a]? = some (.cells cs t fr)) (ht : t ≠ 117) : g ≠ a := by
 obtain ⟨A0, c0, hb, hg, hr0⟩ := h; rintro rfl; rw [hb] at hb2
 injection hb2 with hb2
 injection hb2 with _ ht2
 exact ht ht2.symm
theorem IsS117.far {w0 W : World} {g : Nat} {f0 : List Int} {f1 : Int} {f2 : Int} {p : Addr} (h : IsS117 w0 W g f0 f1 f2) (hne : g ≠ p.block) (u : Value) : IsS117 w0 (W.setCell p u) g f0 f1 f2 := by
 obtain ⟨A0, c0, hb, hg, hr0⟩ := h
 exact ⟨A0, c0, blk_far hb hne u, hg, hr0⟩
theorem cellS117_0 {W : World} {g : Nat} {A0 : Option Addr} {c0 : Nat} {f0 : List Int} {f1 : Int} {f2 : Int} (h : W.heap[g]? = some (.cells #[.slice A0 f0.length c0, .int .i64 f1, .int .i64 f2] 117 (0, 0))) : W.cell? ⟨g, 0, none⟩ = some (.slice A0 f0.length c0) := (blk_cell h 0).trans rfl
theorem cellS117_1 {W : World} {g : Nat} {A0 : Option Addr} {c0 : Nat} {f0 : List Int} {f1 : Int} {f2 : Int} (h : W.heap[g]? = some (.cells #[.slice A0 f0.length c0, .int .i64 f1, .int .i64 f2] 117 (0, 0))) : W.cell? ⟨g, 1, none⟩ = some (.int .i64 f1) := (blk_cell h 1).trans rfl
theorem IsS117.set_1 {w0 W : World} {g : Nat} {f0 : List Int} {f1 : Int} {f2 : Int} (h : IsS117 w0 W g f0 f1 f2) (x : Int) : IsS117 w0 (W.setCell ⟨g, 1, none⟩ (.int .i64 x)) g f0 x f2 := by
 obtain ⟨A0, c0, hb, hg, hr0⟩ := h
 exact ⟨A0, c0, by simpa using blk_set hb 1 (.int .i64 x), hg, hr0⟩
theorem cellS117_2 {W : World} {g : Nat} {A0 : Option Addr} {c0 : Nat} {f0 : List Int} {f1 : Int} {f2 : Int} (h : W.heap[g]? = some (.cells #[.slice A0 f0.length c0, .int .i64 f1, .int .i64 f2] 117 (0, 0))) : W.cell? ⟨g, 2, none⟩ = some (.int .i64 f2) := (blk_cell h 2).trans rfl
theorem IsS117.set_2 {w0 W : World} {g : Nat} {f0 : List Int} {f1 : Int} {f2 : Int} (h : IsS117 w0 W g f0 f1 f2) (x : Int) : IsS117 w0 (W.setCell ⟨g, 2, none⟩ (.int .i64 x)) g f0 f1 x := by
 obtain ⟨A0, c0, hb, hg, hr0⟩ := h
 exact ⟨A0, c0, by simpa using blk_set hb 2 (.int .i64 x), hg, hr0⟩
theorem IsS117.new (w0 W : World) (A0 : Option Addr) (c0 : Nat) (f0 : List Int) (f1 : Int) (f2 : Int) (hB : Below w0.heap.size w0 W) (hr0 : Kd.C (Kd.int .u8) w0 A0 f0.length f0) : IsS117 w0 (W.alloc (.cells #[.slice A0 f0.length c0, .int .i64 f1, .int .i64 f2] 117)) W.heap.size f0 f1 f2 := ⟨A0, c0, by simpa using heap_alloc_new W _, hB.size, hr0⟩
section
variable {w0 W W1 W2 w : World} {g g0 b : Nat} {f0 : List Int} {f1 : Int} {f2 : Int}
theorem IsS117.farA {p : Addr} (h : IsS117 w0 W g f0 f1 f2) (hne : Aside0 (g ≠ p.block)) (u : Value) : IsS117 w0 (W.setCell p u) g f0 f1 f2 := h.far hne.out u
theorem zI {p : Prop} (h : p := by repeat (first | (with_reducible first | exact HI0.out | apply IsS117.alloc | apply IsS117.drewN | apply IsS117.drew | apply IsS117.set_1 | apply IsS117.set_2 | apply IsS117.farA | assumption) | exact HI0.out)) : p := h
theorem zH {p : Prop} (h : p := by repeat (first | (with_reducible first | exact HB.out | apply below_alloc | apply pw_below_drewN | apply below_drew1 | refine below_set ?_ (IsS117.ge HI0.out) | apply below_setA | assumption) | exact HB.out)) : p := h
theorem zbh {w W W1 : World} (hb : Below W.heap.size W W1) (h : Below w.heap.size w W := by exact zH) : Aside0 (Below w.heap.size w W1) := ⟨below_step h hb⟩
theorem zid117 (h : Aside0 (IsS117 w0 W g f0 f1 f2)) : Aside0 (IsS117 w0 W.drew g f0 f1 f2) := h
theorem zil117 (hg : b = W.heap.size) (h : IsS117 w0 W g f0 f1 f2) : Aside0 (g ≠ b) := ⟨by rw [hg]; exact Nat.ne_of_lt h.lt⟩
theorem zig117 (hg : b = W.heap.size) (h : IsS117 w0 W g f0 f1 f2) : Aside0 (b ≠ g) := ⟨by rw [hg]; exact Nat.ne_of_gt h.lt⟩
theorem zib117 (hb : Below W.heap.size W W1) (h : IsS117 w0 W g f0 f1 f2) : Aside0 (IsS117 w0 W1 g f0 f1 f2) := ⟨h.below hb⟩
theorem zka117 {α : Type} {d : Kd α} {e base : Nat} {ok : Nat → Prop} {v : Value} {xs : List α} (h : IsS117 w0 W g f0 f1 f2) (ho : d.R e W base ok v xs) (hk : KeepBut W W1 g none) (ht : ∀ q, q ∈ e :: d.E → q ≠ 117 := by decide) : Aside0 (d.R e W1 base ok v xs) := zm (Kd.R_mono (Kd.R_keep (IsS117.apart h ho ht) hk (fun _ h => h.2)) (fun _ h => h.1))
end

/-! ### spec_l1New: function 69 -/
def spec_l1New.l0 : Nat → List Int → Int → Int → Option (List Int × Int × Int)
 | 0, _, _, _ => none
 | k + 1, x0, x3, x4 => if x4 < (x0.length : Int) then (if x4 < 4000 then (if 0 ≤ x4 then (spec_l1New.l0 k x0 (Go.bits .and .i64 (wrap64 ((wrap64 ((wrap64 (x3 * 131)) + (wrap64 (rd x0 x4)))) + 7)) 1073741823) (wrap64 (x4 + 1))) else (none)) else (some (x0, 0, x3))) else (some (x0, 0, x3))
def spec_l1New.f (k : Nat) (l0 : List Int) : Option (List Int × Int × Int) := spec_l1New.l0 k l0 (wrap64 (26583 + (l0.length : Int))) 0
theorem spec_l1New.mono_l : ∀ k, (∀ y0 y1 y2, LeO (spec_l1New.l0 k y0 y1 y2) (spec_l1New.l0 (k + 1) y0 y1 y2))
 | 0 => fun _ _ _ r h => by simp [spec_l1New.l0] at h
 | k + 1 => by
  have ih0 := spec_l1New.mono_l k
  ·intro y0 y1 y2
   unfold spec_l1New.l0
   repeat' first | (with_reducible first | exact LeO.refl _ | exact LeO.none _ | refine LeO.ite ?_ ?_ | refine LeO.bind ?_ (fun _ => ?_) | apply ih0) | apply ih0 | exact LeO.none _ | refine LeO.ite ?_ ?_ | refine LeO.bind ?_ (fun _ => ?_)
theorem spec_l1New.mono : ∀ a0 k, LeO (spec_l1New.f k a0) (spec_l1New.f (k + 1) a0) := by
 intro a0 k; have ih0 := spec_l1New.mono_l k
 unfold spec_l1New.f
 repeat' first | (with_reducible first | exact LeO.refl _ | exact LeO.none _ | refine LeO.ite ?_ ?_ | refine LeO.bind ?_ (fun _ => ?_) | apply ih0) | apply ih0 | exact LeO.none _ | refine LeO.ite ?_ ?_ | refine LeO.bind ?_ (fun _ => ?_)
set_option maxHeartbeats 8000000 in
set_option maxRecDepth 100000 in
theorem spec_l1New.calls (k : Nat) (A0 : Option Addr) (c0 : Nat) (l0 : List Int) (r1 : List Int) (r2 : Int) (r3 : Int) (w0 w : World) (hB : Below w0.heap.size w0 w) (hr0 : Kd.C (Kd.int .u8) w0 A0 l0.length l0) (hc0 : l0.length ≤ c0) (h : spec_l1New.f k l0 = some (r1, r2, r3)) :
  Calls Tryd.prog 69 #[.slice A0 l0.length c0] w fun e w' => ∃ g_ : Nat, e = .returned (.pointer (some ⟨g_, 0, none⟩)) ∧ IsS117 w0 w' g_ r1 r2 r3 ∧ Below w0.heap.size w0 w' ∧ Below w.heap.size w w' := by
 have hu117 := Tryd.underlying117; have HR0 := zm hr0; have AO := zm hc0; clear hr0 hc0; have HBW := zm (Below.refl w.heap.size w); have HW0 := zm hB.size; have HB := zm hB; clear hB; have H : (spec_l1New.l0 k l0 (wrap64 (26583 + (l0.length : Int))) 0) = some (r1, r2, r3) := h; clear h
 have H' := zm H
 clear H; go_enter Tryd.func69, Tryd.ntmps69
 go_wp2
 go_loopg [3, 4] k (fun kq v3 v4 w' => ∃ (AB : Int) (AA : Int), v3 = .int .i64 AB ∧ v4 = .int .i64 AA ∧ Aside0 (spec_l1New.l0 kq l0 AB AA = some (r1, r2, r3)) ∧ Aside0 (kq ≤ k) ∧ Aside0 (Below w0.heap.size w0 w') ∧ Aside0 (Below w.heap.size w w'))
 case atStart => exact ⟨(wrap64 (26583 + (l0.length : Int))), (0), zF, zF, H', ⟨Nat.le_refl _⟩, ⟨zB⟩, ⟨by repeat (first | (with_reducible first | exact HBW.out | apply below_alloc | apply pw_below_drewN | apply below_drew1) | exact HBW.out)⟩⟩
 case round =>
  clear H'; obtain ⟨AB, AA, rfl, rfl, HA, AK, HB, HBW⟩ := hrel
  cases gk with
  | zero => exact absurd HA.out (by simp [spec_l1New.l0])
  | succ k1 =>
   have H := HA.out; clear HA; simp only [spec_l1New.l0] at H
   by_cases c2 : AA < (l0.length : Int)
   ·rw [if_pos c2] at H; have AL : decide (AA < (l0.length : Int)) = true := decide_eq_true c2; clear c2
    by_cases c3 : AA < 4000
    ·rw [if_pos c3] at H; have AM : decide (AA < 4000) = true := decide_eq_true c3; clear c3
     by_cases c4 : 0 ≤ AA
     ·rw [if_pos c4] at H; have AN : decide (0 ≤ AA) = true := decide_eq_true c4; clear c4
      have H' := zm H
      clear H; have p459 : 0 ≤ (AA : Int) := zd; have q459 : AA < (l0.length : Int) := zd; obtain ⟨ad459, e459, hx459_0⟩ := Kd.at_int HR0.out AA p459 q459; cases e459; replace hx459_0 := pw_cell_below HB.out hx459_0; replace p459 := eq_true p459; replace q459 := eq_true q459
      go_wp2
      go_roundg k1
      case measure => have := AK.out; omega
      case rel => exact ⟨(Go.bits .and .i64 (wrap64 ((wrap64 ((wrap64 (AB * 131)) + (wrap64 (rd l0 AA)))) + 7)) 1073741823), (wrap64 (AA + 1)), zF, zF, H', ⟨by have := AK.out; omega⟩, ⟨zB⟩, ⟨by repeat (first | (with_reducible first | exact HBW.out | apply below_alloc | apply pw_below_drewN | apply below_drew1) | exact HBW.out)⟩⟩
     ·rw [if_neg c4] at H
      exact absurd H (by simp)
    ·rw [if_neg c3] at H; have AM : decide (AA < 4000) = false := decide_eq_false c3; clear c3; simp only [Option.some.injEq, Prod.mk.injEq] at H; obtain ⟨rfl, rfl, rfl⟩ := H
     go_wp2_with (first | ((with_reducible refine gate_dst (N := 31) rfl ?_); refine zbox 31 #[.slice A0 l0.length c0, .int .i64 0, .int .i64 AB] 117 ?_; intro AC hg w5 hbox hb; replace HB := zm (below_step zB hb); have AE := zm (hbox); have AI := zm ((by rw [hg]; exact (below_size (by repeat (first | (with_reducible first | exact HBW.out | apply below_alloc | apply pw_below_drewN | apply below_drew1) | exact HBW.out))) : w.heap.size ≤ AC)); have AG := zm ((Nat.le_trans HW0.out (by rw [hg]; exact (below_size (by repeat (first | (with_reducible first | exact HBW.out | apply below_alloc | apply pw_below_drewN | apply below_drew1) | exact HBW.out))) : w.heap.size ≤ AC) : w0.heap.size ≤ AC)); replace HBW := zm (below_step HBW.out hb); clear hb hbox hg))
     go_ret
     exact ⟨_, rfl, (show IsS117 w0 _ AC l0 0 AB from ⟨_, _, by (with_reducible repeat (first | refine blk_drewN ?_ _ | refine blk_drew ?_ | refine blk_alloc ?_ _)); exact AE.out, AG.out, HR0.out⟩), zB, by repeat (first | (with_reducible first | exact HBW.out | apply below_alloc | apply pw_below_drewN | apply below_drew1 | refine below_set ?_ AI.out) | exact HBW.out)⟩
   ·rw [if_neg c2] at H; have AL : decide (AA < (l0.length : Int)) = false := decide_eq_false c2; clear c2; simp only [Option.some.injEq, Prod.mk.injEq] at H; obtain ⟨rfl, rfl, rfl⟩ := H
    go_wp2_with (first | ((with_reducible refine gate_dst (N := 31) rfl ?_); refine zbox 31 #[.slice A0 l0.length c0, .int .i64 0, .int .i64 AB] 117 ?_; intro AD hg w6 hbox hb; replace HB := zm (below_step zB hb); have AF := zm (hbox); have AJ := zm ((by rw [hg]; exact (below_size (by repeat (first | (with_reducible first | exact HBW.out | apply below_alloc | apply pw_below_drewN | apply below_drew1) | exact HBW.out))) : w.heap.size ≤ AD)); have AH := zm ((Nat.le_trans HW0.out (by rw [hg]; exact (below_size (by repeat (first | (with_reducible first | exact HBW.out | apply below_alloc | apply pw_below_drewN | apply below_drew1) | exact HBW.out))) : w.heap.size ≤ AD) : w0.heap.size ≤ AD)); replace HBW := zm (below_step HBW.out hb); clear hb hbox hg))
    go_ret
    exact ⟨_, rfl, (show IsS117 w0 _ AD l0 0 AB from ⟨_, _, by (with_reducible repeat (first | refine blk_drewN ?_ _ | refine blk_drew ?_ | refine blk_alloc ?_ _)); exact AF.out, AH.out, HR0.out⟩), zB, by repeat (first | (with_reducible first | exact HBW.out | apply below_alloc | apply pw_below_drewN | apply below_drew1 | refine below_set ?_ AJ.out) | exact HBW.out)⟩

/-! ### spec_l1Byte: function 98 -/
def spec_l1Byte.f (s0_0 : List Int) (s0_1 : Int) (s0_2 : Int) : Option (Int × Int × Int) := if s0_1 < (s0_0.length : Int) then (if 0 ≤ s0_1 then (some (Go.bits .and .i64 (wrap64 ((Go.bits .and .i64 (Go.bits .xor .i64 ((wrap64 ((wrap64 (s0_2 * 6364136223846793005)) + 1442695040888963407)) / 8589934592) ((wrap64 ((wrap64 (s0_2 * 6364136223846793005)) + 1442695040888963407)) / 35184372088832)) 255) + (wrap64 (rd s0_0 s0_1)))) 255, wrap64 (s0_1 + 1), wrap64 ((wrap64 (s0_2 * 6364136223846793005)) + 1442695040888963407))) else (none)) else (some (Go.bits .and .i64 (Go.bits .xor .i64 ((wrap64 ((wrap64 (s0_2 * 6364136223846793005)) + 1442695040888963407)) / 8589934592) ((wrap64 ((wrap64 (s0_2 * 6364136223846793005)) + 1442695040888963407)) / 35184372088832)) 255, s0_1, wrap64 ((wrap64 (s0_2 * 6364136223846793005)) + 1442695040888963407)))
set_option maxHeartbeats 8000000 in
set_option maxRecDepth 100000 in
theorem spec_l1Byte.calls (g : Nat) (s0_0 : List Int) (s0_1 : Int) (s0_2 : Int) (r1 : Int) (r2 : Int) (r3 : Int) (w0 w : World) (hI : IsS117 w0 w g s0_0 s0_1 s0_2) (hB : Below w0.heap.size w0 w) (h : spec_l1Byte.f s0_0 s0_1 s0_2 = some (r1, r2, r3)) :
  Calls Tryd.prog 98 #[.pointer (some ⟨g, 0, none⟩)] w fun e w' => e = .returned (.int .i64 r1) ∧ IsS117 w0 w' g s0_0 r2 r3 ∧ Below w0.heap.size w0 w' ∧ KeepBut w w' g none := by
 have HI0 := zm hI; have HK := zm (KeepBut.refl w g none); have HL := zm hB.size; clear hI; have HW0 := zm hB.size; have HB := zm hB; clear hB; have H : (if s0_1 < (s0_0.length : Int) then (if 0 ≤ s0_1 then (some (Go.bits .and .i64 (wrap64 ((Go.bits .and .i64 (Go.bits .xor .i64 ((wrap64 ((wrap64 (s0_2 * 6364136223846793005)) + 1442695040888963407)) / 8589934592) ((wrap64 ((wrap64 (s0_2 * 6364136223846793005)) + 1442695040888963407)) / 35184372088832)) 255) + (wrap64 (rd s0_0 s0_1)))) 255, wrap64 (s0_1 + 1), wrap64 ((wrap64 (s0_2 * 6364136223846793005)) + 1442695040888963407))) else (none)) else (some (Go.bits .and .i64 (Go.bits .xor .i64 ((wrap64 ((wrap64 (s0_2 * 6364136223846793005)) + 1442695040888963407)) / 8589934592) ((wrap64 ((wrap64 (s0_2 * 6364136223846793005)) + 1442695040888963407)) / 35184372088832)) 255, s0_1, wrap64 ((wrap64 (s0_2 * 6364136223846793005)) + 1442695040888963407)))) = some (r1, r2, r3) := h; clear h
 by_cases c2 : s0_1 < (s0_0.length : Int)
 ·rw [if_pos c2] at H; have AA : decide (s0_1 < (s0_0.length : Int)) = true := decide_eq_true c2; clear c2
  by_cases c3 : 0 ≤ s0_1
  ·rw [if_pos c3] at H; have AL : decide (0 ≤ s0_1) = true := decide_eq_true c3; clear c3; simp only [Option.some.injEq, Prod.mk.injEq] at H; obtain ⟨rfl, rfl, rfl⟩ := H; obtain ⟨ASz4_0, cSz4_0, HGz4, hgz4, HSz4_0⟩ := HI0.out; have AB := cellS117_0 HGz4; have AC := cellS117_1 HGz4; have AD := cellS117_2 HGz4; have AH := blk_frozen HGz4 1; have AI := blk_frozen HGz4 2; clear HGz4 hgz4; have p462 : 0 ≤ (s0_1 : Int) := zd; have q462 : s0_1 < (s0_0.length : Int) := zd; obtain ⟨ad462, e462, hx462_0⟩ := Kd.at_int HSz4_0 s0_1 p462 q462; cases e462; have hn462_0 : ad462.block ≠ g := Nat.ne_of_lt (Nat.lt_of_lt_of_le (by have := World.block_lt_of_cell? _ _ hx462_0; first | rwa [add_block] at this | exact this) (IsS117.ge HI0.out)); replace hx462_0 := pw_cell_below HB.out hx462_0; replace hx462_0 := (cell_far (p := ⟨g, 2, none⟩) (by first | (rw [add_block]; exact hn462_0) | (show (Addr.add _ _).block ≠ _; rw [add_block]; exact hn462_0) | exact hn462_0) (.int .i64 (wrap64 ((wrap64 (s0_2 * 6364136223846793005)) + 1442695040888963407)))).trans hx462_0
   (try have hy462_0 := fun (n_ : Nat) => (show (((w.drewN n_).setCell ⟨g, 2, none⟩ (.int .i64 (wrap64 ((wrap64 (s0_2 * 6364136223846793005)) + 1442695040888963407))))).cell? _ = some _ from hx462_0))
   clear hn462_0; replace p462 := eq_true p462; replace q462 := eq_true q462; go_enter Tryd.func98, Tryd.ntmps98
   go_wp2
   repeat (go_quiet (fail); try go_wp2)
   go_ret
   exact ⟨zE, zI, zH, zK⟩
  ·rw [if_neg c3] at H
   exact absurd H (by simp)
 ·rw [if_neg c2] at H; have AA : decide (s0_1 < (s0_0.length : Int)) = false := decide_eq_false c2; clear c2; simp only [Option.some.injEq, Prod.mk.injEq] at H; obtain ⟨rfl, rfl, rfl⟩ := H; obtain ⟨ASz5_0, cSz5_0, HGz5, hgz5, HSz5_0⟩ := HI0.out; have AE := cellS117_0 HGz5; have AF := cellS117_1 HGz5; have AG := cellS117_2 HGz5; have AJ := blk_frozen HGz5 1; have AK := blk_frozen HGz5 2; clear HGz5 hgz5; go_enter Tryd.func98, Tryd.ntmps98
  go_wp2
  repeat (go_quiet (fail); try go_wp2)
  go_ret
  exact ⟨zE, zI, zH, zK⟩

end Go.Proofs.YtomlglpmljngfaaDoor.P
