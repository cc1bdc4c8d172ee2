-- by a program of this session, for this seat
import Derived.Test.YtnmofppbijmhoaaZ
import Derived.Test.YtnmofppbijmhoaaP0
import Derived.Test.YtnmofppbijmhoaaPaa
import Derived.Test.YtnmofppbijmhoaaPac
namespace Go.Proofs.Ytnmofppbijmhoaa.P
open Go.RowKit Go.Proofs.YtnmofppbijmhoaaW.PrintWords Go.Proofs.YtnmofppbijmhoaaW.PrintLast Go.Proofs.YtnmofppbijmhoaaW.PrintMore Go.Proofs.Ytnmofppbijmhoaa.Z
attribute [local go_sem] max2_int min2_int max_two min_two max_three min_three max_four min_four   -- for this text's walks alone
set_option linter.unusedVariables false
set_option linter.unusedSimpArgs false

/-! ### spec_l3Join: function 70 -/
mutual
def spec_l3Join.l0 : Nat → Int → List (S44) → List (S58) → List (S44) → List (S58) → List (S44) → List (S58) → Option ((List (S44)) × (List (S58)))
 | 0, _, _, _, _, _, _, _ => none
 | k + 1, x6, x143000, x143001, x144000, x144001, x146000, x146001 => if x6 < 5 then ((spec_FloorOf.f k x143000 x143001 x6).bind fun t146 => ((spec_FloorOf.f k x144000 x144001 x6).bind fun t147 => ((spec_l1Max.f t146 t147).bind fun t148 => (if t148 > 0 then (if x146001.length < 8796093022208 then (spec_l3Join.j1 k x6 t148 x143000 x143001 x144000 x144001 x146000 (x146001 ++ [(⟨x6, t148⟩ : S58)])) else (none)) else (spec_l3Join.j1 k x6 t148 x143000 x143001 x144000 x144001 x146000 x146001))))) else (some (x146000, x146001))
def spec_l3Join.j1 : Nat → Int → Int → List (S44) → List (S58) → List (S44) → List (S58) → List (S44) → List (S58) → Option ((List (S44)) × (List (S58)))
 | 0, _, _, _, _, _, _, _, _ => none
 | k + 1, x6, x7, x143000, x143001, x144000, x144001, x146000, x146001 => (spec_EntryOf.f k x143000 x143001 x6).bind fun bt152 => ((spec_EntryOf.f k x144000 x144001 x6).bind fun bt159 => (if bt152.2.2.2.2.2 = true then (spec_l3Join.j2 k x6 x7 bt152.2.2.2.2.2 bt159.2.2.2.2.2 false x143000 x143001 x144000 x144001 x146000 x146001 bt152.1 bt152.2.1 bt152.2.2.1 bt152.2.2.2.1 bt152.2.2.2.2.1 bt159.1 bt159.2.1 bt159.2.2.1 bt159.2.2.2.1 bt159.2.2.2.2.1) else (spec_l3Join.j2 k x6 x7 bt152.2.2.2.2.2 bt159.2.2.2.2.2 (!bt159.2.2.2.2.2) x143000 x143001 x144000 x144001 x146000 x146001 bt152.1 bt152.2.1 bt152.2.2.1 bt152.2.2.2.1 bt152.2.2.2.2.1 bt159.1 bt159.2.1 bt159.2.2.1 bt159.2.2.2.1 bt159.2.2.2.2.1)))
def spec_l3Join.j2 : Nat → Int → Int → Bool → Bool → Bool → List (S44) → List (S58) → List (S44) → List (S58) → List (S44) → List (S58) → Int → Int → Int → Int → ByteArray → Int → Int → Int → Int → ByteArray → Option ((List (S44)) × (List (S58)))
 | 0, _, _, _, _, _, _, _, _, _, _, _, _, _, _, _, _, _, _, _, _, _ => none
 | k + 1, x6, x7, x9, x11, x52, x143000, x143001, x144000, x144001, x146000, x146001, x159000, x159001, x159002, x159003, x159004, x166000, x166001, x166002, x166003, x166004 => if x52 = true then (spec_l3Join.l0 k (wrap64 (x6 + 1)) x143000 x143001 x144000 x144001 x146000 x146001) else (if x9 = true then (if x11 = true then ((spec_EntryCmp.f k x166000 x166001 x166002 x166003 x166004 x159000 x159001 x159002 x159003 x159004).bind fun t167 => (spec_l3Join.j3 k x6 x7 (decide (t167 > 0)) x143000 x143001 x144000 x144001 x146000 x146001 x166000 x166001 x166002 x166003 x166004 x159000 x159001 x159002 x159003 x159004)) else (spec_l3Join.j3 k x6 x7 false x143000 x143001 x144000 x144001 x146000 x146001 x166000 x166001 x166002 x166003 x166004 x159000 x159001 x159002 x159003 x159004)) else (spec_l3Join.j3 k x6 x7 true x143000 x143001 x144000 x144001 x146000 x146001 x166000 x166001 x166002 x166003 x166004 x159000 x159001 x159002 x159003 x159004))
def spec_l3Join.j3 : Nat → Int → Int → Bool → List (S44) → List (S58) → List (S44) → List (S58) → List (S44) → List (S58) → Int → Int → Int → Int → ByteArray → Int → Int → Int → Int → ByteArray → Option ((List (S44)) × (List (S58)))
 | 0, _, _, _, _, _, _, _, _, _, _, _, _, _, _, _, _, _, _, _ => none
 | k + 1, x6, x7, x64, x143000, x143001, x144000, x144001, x146000, x146001, x166000, x166001, x166002, x166003, x166004, x167000, x167001, x167002, x167003, x167004 => if x64 = true then (if x166000 > x7 then (if x146000.length < 2513169434916 then (spec_l3Join.l0 k (wrap64 (x6 + 1)) x143000 x143001 x144000 x144001 (x146000 ++ [(⟨x6, (⟨x166000, x166001, x166002, x166003, x166004⟩ : S36)⟩ : S44)]) x146001) else (none)) else (spec_l3Join.l0 k (wrap64 (x6 + 1)) x143000 x143001 x144000 x144001 x146000 x146001)) else (if x167000 > x7 then (if x146000.length < 2513169434916 then (spec_l3Join.l0 k (wrap64 (x6 + 1)) x143000 x143001 x144000 x144001 (x146000 ++ [(⟨x6, (⟨x167000, x167001, x167002, x167003, x167004⟩ : S36)⟩ : S44)]) x146001) else (none)) else (spec_l3Join.l0 k (wrap64 (x6 + 1)) x143000 x143001 x144000 x144001 x146000 x146001))
end
def spec_l3Join.f (k : Nat) (l0_0 : List (S44)) (l0_1 : List (S58)) (l1_0 : List (S44)) (l1_1 : List (S58)) : Option ((List (S44)) × (List (S58))) := spec_l3Join.l0 k 0 l0_0 l0_1 l1_0 l1_1 ([] : List (S44)) ([] : List (S58))
theorem spec_l3Join.mono_l : ∀ k, (∀ y0 y1 y2 y3 y4 y5 y6, LeO (spec_l3Join.l0 k y0 y1 y2 y3 y4 y5 y6) (spec_l3Join.l0 (k + 1) y0 y1 y2 y3 y4 y5 y6)) ∧ (∀ y0 y1 y2 y3 y4 y5 y6 y7, LeO (spec_l3Join.j1 k y0 y1 y2 y3 y4 y5 y6 y7) (spec_l3Join.j1 (k + 1) y0 y1 y2 y3 y4 y5 y6 y7)) ∧ (∀ y0 y1 y2 y3 y4 y5 y6 y7 y8 y9 y10 y11 y12 y13 y14 y15 y16 y17 y18 y19 y20, LeO (spec_l3Join.j2 k y0 y1 y2 y3 y4 y5 y6 y7 y8 y9 y10 y11 y12 y13 y14 y15 y16 y17 y18 y19 y20) (spec_l3Join.j2 (k + 1) y0 y1 y2 y3 y4 y5 y6 y7 y8 y9 y10 y11 y12 y13 y14 y15 y16 y17 y18 y19 y20)) ∧ (∀ y0 y1 y2 y3 y4 y5 y6 y7 y8 y9 y10 y11 y12 y13 y14 y15 y16 y17 y18, LeO (spec_l3Join.j3 k y0 y1 y2 y3 y4 y5 y6 y7 y8 y9 y10 y11 y12 y13 y14 y15 y16 y17 y18) (spec_l3Join.j3 (k + 1) y0 y1 y2 y3 y4 y5 y6 y7 y8 y9 y10 y11 y12 y13 y14 y15 y16 y17 y18))
 | 0 => ⟨fun _ _ _ _ _ _ _ r h => by simp [spec_l3Join.l0] at h, fun _ _ _ _ _ _ _ _ r h => by simp [spec_l3Join.j1] at h, fun _ _ _ _ _ _ _ _ _ _ _ _ _ _ _ _ _ _ _ _ _ r h => by simp [spec_l3Join.j2] at h, fun _ _ _ _ _ _ _ _ _ _ _ _ _ _ _ _ _ _ _ r h => by simp [spec_l3Join.j3] at h⟩
 | k + 1 => by
  obtain ⟨ih0, ih1, ih2, ih3⟩ := spec_l3Join.mono_l k
  refine ⟨?_, ?_, ?_, ?_⟩
  ·intro y0 y1 y2 y3 y4 y5 y6
   unfold spec_l3Join.l0
   repeat' first | (with_reducible first | exact LeO.refl _ | exact LeO.none _ | refine LeO.ite ?_ ?_ | refine LeO.bind ?_ (fun _ => ?_) | apply ih0 | apply ih1 | apply ih2 | apply ih3 | apply spec_EntryCmp.mono | apply spec_EntryOf.mono | apply spec_FloorOf.mono) | apply ih0 | apply ih1 | apply ih2 | apply ih3 | apply spec_EntryCmp.mono | apply spec_EntryOf.mono | apply spec_FloorOf.mono | exact LeO.none _ | refine LeO.ite ?_ ?_ | refine LeO.bind ?_ (fun _ => ?_)
  ·intro y0 y1 y2 y3 y4 y5 y6 y7
   unfold spec_l3Join.j1
   repeat' first | (with_reducible first | exact LeO.refl _ | exact LeO.none _ | refine LeO.ite ?_ ?_ | refine LeO.bind ?_ (fun _ => ?_) | apply ih0 | apply ih1 | apply ih2 | apply ih3 | apply spec_EntryCmp.mono | apply spec_EntryOf.mono | apply spec_FloorOf.mono) | apply ih0 | apply ih1 | apply ih2 | apply ih3 | apply spec_EntryCmp.mono | apply spec_EntryOf.mono | apply spec_FloorOf.mono | exact LeO.none _ | refine LeO.ite ?_ ?_ | refine LeO.bind ?_ (fun _ => ?_)
  ·intro y0 y1 y2 y3 y4 y5 y6 y7 y8 y9 y10 y11 y12 y13 y14 y15 y16 y17 y18 y19 y20
   unfold spec_l3Join.j2
   repeat' first | (with_reducible first | exact LeO.refl _ | exact LeO.none _ | refine LeO.ite ?_ ?_ | refine LeO.bind ?_ (fun _ => ?_) | apply ih0 | apply ih1 | apply ih2 | apply ih3 | apply spec_EntryCmp.mono | apply spec_EntryOf.mono | apply spec_FloorOf.mono) | apply ih0 | apply ih1 | apply ih2 | apply ih3 | apply spec_EntryCmp.mono | apply spec_EntryOf.mono | apply spec_FloorOf.mono | exact LeO.none _ | refine LeO.ite ?_ ?_ | refine LeO.bind ?_ (fun _ => ?_)
  ·intro y0 y1 y2 y3 y4 y5 y6 y7 y8 y9 y10 y11 y12 y13 y14 y15 y16 y17 y18
   unfold spec_l3Join.j3
   repeat' first | (with_reducible first | exact LeO.refl _ | exact LeO.none _ | refine LeO.ite ?_ ?_ | refine LeO.bind ?_ (fun _ => ?_) | apply ih0 | apply ih1 | apply ih2 | apply ih3 | apply spec_EntryCmp.mono | apply spec_EntryOf.mono | apply spec_FloorOf.mono) | apply ih0 | apply ih1 | apply ih2 | apply ih3 | apply spec_EntryCmp.mono | apply spec_EntryOf.mono | apply spec_FloorOf.mono | exact LeO.none _ | refine LeO.ite ?_ ?_ | refine LeO.bind ?_ (fun _ => ?_)
theorem spec_l3Join.mono : ∀ a0 a1 a2 a3 k, LeO (spec_l3Join.f k a0 a1 a2 a3) (spec_l3Join.f (k + 1) a0 a1 a2 a3) := by
 intro a0 a1 a2 a3 k; obtain ⟨ih0, ih1, ih2, ih3⟩ := spec_l3Join.mono_l k
 unfold spec_l3Join.f
 repeat' first | (with_reducible first | exact LeO.refl _ | exact LeO.none _ | refine LeO.ite ?_ ?_ | refine LeO.bind ?_ (fun _ => ?_) | apply ih0 | apply ih1 | apply ih2 | apply ih3 | apply spec_EntryCmp.mono | apply spec_EntryOf.mono | apply spec_FloorOf.mono) | apply ih0 | apply ih1 | apply ih2 | apply ih3 | apply spec_EntryCmp.mono | apply spec_EntryOf.mono | apply spec_FloorOf.mono | exact LeO.none _ | refine LeO.ite ?_ ?_ | refine LeO.bind ?_ (fun _ => ?_)
def spec_l3Join.T5 : Bool × List (List Nat × List Nat) := (true, [([], []), ([], []), ([0, 1], [0, 1]), ([], []), ([], []), ([3, 4, 2], [3, 4]), ([2, 5, 5], [2, 5]), ([6, 6, 0, 1, 2, 3, 4, 5, 6], [6])])
def spec_l3Join.B5 : List Nat := [0, 0, 3, 0, 0, 31, 63, 127]
theorem spec_l3Join.tab5 : rtab .any (opsOf Try.f70 5) = spec_l3Join.T5 := by kernel_rfl
theorem spec_l3Join.bits5 : waitsOk spec_l3Join.T5.2 spec_l3Join.B5 = true := by kernel_rfl
set_option maxHeartbeats 8000000 in
set_option maxRecDepth 100000 in
theorem spec_l3Join.calls (k : Nat) (A0_0 : Option Addr) (c0_0 : Nat) (l0_0 : List (S44)) (A0_1 : Option Addr) (c0_1 : Nat) (l0_1 : List (S58)) (A1_0 : Option Addr) (c1_0 : Nat) (l1_0 : List (S44)) (A1_1 : Option Addr) (c1_1 : Nat) (l1_1 : List (S58)) (r1 : List (S44)) (r2 : List (S58)) (w : World) (hr0_0 : Kd.C k44 w A0_0 l0_0.length l0_0) (hc0_0 : l0_0.length ≤ c0_0) (hr0_1 : Kd.C k58 w A0_1 l0_1.length l0_1) (hc0_1 : l0_1.length ≤ c0_1) (hr1_0 : Kd.C k44 w A1_0 l1_0.length l1_0) (hc1_0 : l1_0.length ≤ c1_0) (hr1_1 : Kd.C k58 w A1_1 l1_1.length l1_1) (hc1_1 : l1_1.length ≤ c1_1) (h : spec_l3Join.f k l0_0 l0_1 l1_0 l1_1 = some (r1, r2)) :
  Calls Try.prog 70 #[.agg #[.slice A0_0 l0_0.length c0_0, .slice A0_1 l0_1.length c0_1], .agg #[.slice A1_0 l1_0.length c1_0, .slice A1_1 l1_1.length c1_1]] w fun e w' => ∃ v0_ v1_ : Value, e = .returned (.agg #[v0_, v1_]) ∧ Kd.R k44 44 w' w.heap.size (fun _ => True) v0_ r1 ∧ Kd.R k58 58 w' w.heap.size (fun _ => True) v1_ r2 ∧ Below w.heap.size w w' := by
 have hu27 := Try.underlying27; have hu58 := Try.underlying58; have hu36 := Try.underlying36; have hu44 := Try.underlying44; have HR0_0 := zm hr0_0; have HC0_0 := zm hc0_0; clear hr0_0 hc0_0; have HR0_1 := zm hr0_1; have HC0_1 := zm hc0_1; clear hr0_1 hc0_1; have HR1_0 := zm hr1_0; have HC1_0 := zm hc1_0; clear hr1_0 hc1_0; have HR1_1 := zm hr1_1; have HC1_1 := zm hc1_1; clear hr1_1 hc1_1; have HB := zm (Below.refl w.heap.size w); have H : (spec_l3Join.l0 k 0 l0_0 l0_1 l1_0 l1_1 ([] : List (S44)) ([] : List (S58))) = some (r1, r2) := h; clear h
 have H' := zm H
 clear H; go_enter Try.func70, Try.ntmps70
 go_wp2_with (first | ((with_reducible refine gate_dst (N := 2) rfl ?_); refine zbox 2 #[.slice A0_0 l0_0.length c0_0, .slice A0_1 l0_1.length c0_1] 27 ?_; intro BJ hg w3 hbox hb; have AD := zm (hbox); have GQ := zge w hg zB; have GJ := zge w hg zB; replace HB := zm (below_step zB hb); clear hb hbox hg) | ((with_reducible refine gate_dst (N := 3) rfl ?_); refine zbox 3 #[.slice A1_0 l1_0.length c1_0, .slice A1_1 l1_1.length c1_1] 27 ?_; intro BK hg w4 hbox hb; have AE := zm (hbox); have GR := zge w hg zB; have GK := zge w hg zB; replace HB := zm (below_step zB hb); have CB := zlt hg (zb AD); have CC := zgt hg (zb AD); replace AD := zy AD hb; clear hb hbox hg) | ((with_reducible refine gate_dst (N := 4) rfl ?_); refine zbox 4 #[.slice none 0 0, .slice none 0 0] 27 ?_; intro BR hg w5 hbox hb; have AF := zm (hbox); have GS := zge w hg zB; have GL := zge w hg zB; replace HB := zm (below_step zB hb); have BW := zlt hg (zb AD); have BY := zgt hg (zb AD); replace AD := zy AD hb; have BX := zlt hg (zb AE); have BZ := zgt hg (zb AE); replace AE := zy AE hb; clear hb hbox hg) | ((with_reducible refine gate_dst (N := 5) rfl ?_); refine zbox 5 #[.slice none 0 0, .slice none 0 0] 27 ?_; intro Bb hg w6 hbox hb; have AC := zm (hbox); have GT := zge w hg zB; have GM := zge w hg zB; replace HB := zm (below_step zB hb); have AX := zlt hg (zb AD); have Ai := zgt hg (zb AD); replace AD := zy AD hb; have AY := zlt hg (zb AE); have Aj := zgt hg (zb AE); replace AE := zy AE hb; have AZ := zlt hg (zb AF); have At := zgt hg (zb AF); replace AF := zy AF hb; clear hb hbox hg; have IB := Ai.out; have IE := AX.out; have IC := Aj.out; have IF := AY.out; have ID := At.out; have IG := AZ.out; obtain ⟨BL, BM, BN, BO⟩ := zc2 AC))
 go_loopg [6] k (fun kq v6 w' => ∃ (AO : Int) (AM : List (S44)) (Ae : List (S58)) (u146000 : Value) (u146001 : Value), v6 = .int .i64 AO ∧ Aside0 (spec_l3Join.l0 kq AO l0_0 l0_1 l1_0 l1_1 AM Ae = some (r1, r2)) ∧ Aside0 (kq ≤ k) ∧ Aside0 (Kd.R k44 44 w' w.heap.size (fun _ => True) u146000 AM) ∧ Aside0 (Kd.R k58 58 w' w.heap.size (fun _ => True) u146001 Ae) ∧ Aside0 (w'.heap[BJ]? = some (.cells #[(.slice A0_0 l0_0.length c0_0), (.slice A0_1 l0_1.length c0_1)] 27 (0, 0))) ∧ Aside0 (w'.heap[BK]? = some (.cells #[(.slice A1_0 l1_0.length c1_0), (.slice A1_1 l1_1.length c1_1)] 27 (0, 0))) ∧ Aside0 (w'.heap[BR]? = some (.cells #[(.slice none 0 0), (.slice none 0 0)] 27 (0, 0))) ∧ Aside0 (w'.heap[Bb]? = some (.cells #[u146000, u146001] 27 (0, 0))) ∧ Aside0 (Below w.heap.size w w'))
 case atStart => exact ⟨(0), (([] : List (S44))), (([] : List (S58))), (.slice none 0 0), (.slice none 0 0), zF, H', ⟨Nat.le_refl _⟩, ⟨znil⟩, ⟨znil⟩, ⟨zfar (zfar (zb AD) AX) AX⟩, ⟨zfar (zfar (zb AE) AY) AY⟩, ⟨zfar (zfar (zb AF) AZ) AZ⟩, ⟨zput (zput (zb AC) 0) 1⟩, ⟨zB⟩⟩
 case round =>
  clear H'; (try clear BL); (try clear BM); (try clear BN); (try clear BO); obtain ⟨AO, AM, Ae, u146000, u146001, rfl, HA, As, AA, AB, AD, AE, AF, AC, HB⟩ := hrel
  cases gk with
  | zero => exact absurd HA.out (by simp [spec_l3Join.l0])
  | succ k1 =>
   have H := HA.out; clear HA; simp only [spec_l3Join.l0] at H
   by_cases BP : AO < 5
   ·rw [if_pos BP] at H; have Ba : decide (AO < 5) = true := decide_eq_true BP; clear BP; replace H := Option.bind_eq_some_iff.mp H; obtain ⟨CJ, Cp, H⟩ := H; (try dsimp only at H); have Ew := zm Cp; clear Cp; replace H := Option.bind_eq_some_iff.mp H; obtain ⟨CK, Cq, H⟩ := H; (try dsimp only at H); have Ex := zm Cq; clear Cq; replace H := Option.bind_eq_some_iff.mp H; obtain ⟨Af, Cr, H⟩ := H; (try dsimp only at H); have Ey := zm Cr; clear Cr; have CE := zm H; clear H
    try go_wp2
    replace AA := zm (Kd.R_drew AA.out); replace AB := zm (Kd.R_drew AB.out); replace AD := zq AD; replace AE := zq AE; replace AF := zq AF; replace AC := zq AC; replace HB := zm (below_drew1 HB.out)
    refine start_ (n := 8) (S := fun w' => w'.cell? ⟨BJ, 0, none⟩ = some (.slice A0_0 l0_0.length c0_0) ∧ w'.cell? ⟨BJ, 1, none⟩ = some (.slice A0_1 l0_1.length c0_1) ∧ w'.cell? ⟨BK, 0, none⟩ = some (.slice A1_0 l1_0.length c1_0) ∧ w'.cell? ⟨BK, 1, none⟩ = some (.slice A1_1 l1_1.length c1_1)) (ds := []) (zl 8 0) (by kernel_rfl) rfl rfl zS (fun hHeld => ?_); refine with_tabW spec_l3Join.tab5 spec_l3Join.bits5 (fun HT_ HW_ => ?_)
    generalize wr.drew = IJ at AA AB AD AE AF AC HB hHeld ⊢
    refine zu 1 19 8 2 ?_
    refine zu 4 22 8 18 ?_
    refine zv 0 18 8 19 ?_
    refine zv 3 21 8 27 ?_
    refine zo 2 (some 20) (zl 8 31) (fun K hK => ?_); refine zgo #[.agg #[.slice A0_0 l0_0.length c0_0, .slice A0_1 l0_1.length c0_1], .int .i64 AO] Try.func63 ?_; (with_reducible refine (spec_FloorOf.calls k1 _ _ l0_0 _ _ l0_1 AO CJ _ (zk (Kd.C_below HR0_0.out HB.out)) HC0_0.out (zk (Kd.C_below HR0_1.out HB.out)) HC0_1.out Ew.out).mono ?_); rintro e IK ⟨rfl, hb⟩; refine ⟨_, rfl, ?_⟩; replace AA := zw AA hb; replace AB := zw AB hb; replace AD := zy AD hb; replace AE := zy AE hb; replace AF := zy AF hb; replace AC := zy AC hb; replace HB := zm (below_step zB hb); (try clear hb); refine hK.out _ _ zS (fun hHeld => ?_); clear hK K; refine zn ?_; refine zo 5 (some 23) (zl 8 63) (fun K hK => ?_); refine zgo #[.agg #[.slice A1_0 l1_0.length c1_0, .slice A1_1 l1_1.length c1_1], .int .i64 AO] Try.func63 ?_; (with_reducible refine (spec_FloorOf.calls k1 _ _ l1_0 _ _ l1_1 AO CK _ (zk (Kd.C_below HR1_0.out HB.out)) HC1_0.out (zk (Kd.C_below HR1_1.out HB.out)) HC1_1.out Ex.out).mono ?_); rintro e IL ⟨rfl, hb⟩; refine ⟨_, rfl, ?_⟩; replace AA := zw AA hb; replace AB := zw AB hb; replace AD := zy AD hb; replace AE := zy AE hb; replace AF := zy AF hb; replace AC := zy AC hb; replace HB := zm (below_step zB hb); (try clear hb); refine hK.out _ _ zS (fun hHeld => ?_); clear hK K; refine zn ?_; refine zo 6 (some 24) (zl 8 127) (fun K hK => ?_); refine zgo #[.int .i64 CJ, .int .i64 CK] Try.func89 ?_
    (with_reducible refine (spec_l1Max.calls CJ CK Af _ Ey.out).mono ?_); rintro e w' ⟨rfl, ⟨nd, rfl⟩⟩; refine ⟨_, rfl, ?_⟩; refine hK.out _ _ zS (fun hHeld => ?_); clear hK K; refine zn ?_
    refine zu 7 7 8 255 ?_
    refine done_ (done_of HT_.out (by kernel_rfl)) ?_
    go_upto_if 26 with (fail)
    go_cut [] (fun wc => ∃ (kq : Nat) (AP : List (S58)) (u146001 : Value), Aside0 (spec_l3Join.j1 kq AO Af l0_0 l0_1 l1_0 l1_1 AM AP = some (r1, r2)) ∧ Aside0 (kq ≤ k1) ∧ Aside0 (Kd.R k44 44 wc w.heap.size (fun _ => True) u146000 AM) ∧ Aside0 (Kd.R k58 58 wc w.heap.size (fun _ => True) u146001 AP) ∧ Aside0 (wc.heap[BJ]? = some (.cells #[(.slice A0_0 l0_0.length c0_0), (.slice A0_1 l0_1.length c0_1)] 27 (0, 0))) ∧ Aside0 (wc.heap[BK]? = some (.cells #[(.slice A1_0 l1_0.length c1_0), (.slice A1_1 l1_1.length c1_1)] 27 (0, 0))) ∧ Aside0 (wc.heap[BR]? = some (.cells #[(.slice none 0 0), (.slice none 0 0)] 27 (0, 0))) ∧ Aside0 (wc.heap[Bb]? = some (.cells #[u146000, u146001] 27 (0, 0))) ∧ Aside0 (Below w.heap.size w wc))
    case first =>
     have H := CE.out; clear CE
     by_cases Bc : Af > 0
     ·rw [if_pos Bc] at H; have BQ : decide (0 < Af) = true := decide_eq_true Bc; clear Bc
      (first | rw [BQ] | (simp only [i64_w, i32_w]; rw [BQ]) | skip)
      by_cases CO : Ae.length < 8796093022208
      ·rw [if_pos CO] at H; have LMc20 := zm CO; clear CO
       obtain ⟨y149, hy149⟩ : ∃ y_ : List (S58), y_ = (Ae ++ [(⟨AO, Af⟩ : S58)]) := ⟨_, rfl⟩
       replace H : (spec_l3Join.j1 k1 AO Af l0_0 l0_1 l1_0 l1_1 AM y149) = some (r1, r2) := by first | (rw [hy149]; with_reducible exact H) | (have H2_ := (Option.bind_some _ _).symm.trans H; rw [hy149]; with_reducible exact H2_) | (have H2_ := (Option.bind_some _ _).symm.trans H; with_reducible exact H2_) | with_reducible exact H | (rw [hy149]; exact H) | exact H
       have Ny149 := zm hy149; clear hy149
       have H' := zm H
       clear H; have GX := Ai.out; have HP := AX.out; have GY := Aj.out; have HQ := AY.out; have GZ := At.out; have HR := AZ.out; obtain ⟨EK, EL, Ed, Ee⟩ := zc2 AC
       go_wp2_with (first | ((with_reducible refine gate_builtin (b := .append) (xs := #[.tmp 28, .tmp 32]) rfl ?_); at_builtin; refine Kd.R_append k58 (w0 := w) w.heap.size rfl (.tmp 28) (.tmp 32) 25 58 (.agg #[(.int .i64 0), (.int .i64 0)]) 16 rfl Try.underlying25 info58 rfl (by decide) (by omega) u146001 Ae (⟨AO, Af⟩ : S58) [.int .i64 AO, .int .i64 Af] (fun _ => True) (fun _ => False) rfl rfl ?aP (fun _ hk => hk.elim) ?aF ?aO ?aB ?aS ?aL ?_; (case aP => exact k58_mkM _ _ _ (⟨AO, Af⟩ : S58)); (case aB => exact zB); (case aF => exact (fun _ _ => trivial)); (case aO => exact (zr AB)); (case aS => exact (below_size zB)); (case aL => have := LMc20.out; omega); intro v150 IM ho hb hg hat; rw [← Ny149.out] at ho; replace AA := zm (Kd.R_over' (zr AA) (Kd.R_typed (zr AB)) (by decide) hg); replace AD := zgr hg (zb AD) (Kd.R_ne AB.out AD.out (by decide)); replace AE := zgr hg (zb AE) (Kd.R_ne AB.out AE.out (by decide)); replace AF := zgr hg (zb AF) (Kd.R_ne AB.out AF.out (by decide)); replace AC := zgr hg (zb AC) (Kd.R_ne AB.out AC.out (by decide)); replace HB := zm hb; have CL := zm (ho); clear AB; clear ho hb hg hat; obtain ⟨D6, D7, eo26⟩ := Kd.R_slice CL.out; subst eo26; obtain ⟨EM, EN, Ef, Eg⟩ := zc2 AC))
       go_meet
       case rel => exact ⟨_, (y149), (.slice D6 y149.length D7), H', ⟨by have := As.out; first | omega | exact Nat.le_refl _⟩, ⟨zrs <| Kd.R_mono (zfr (Kd.R_types AA.out AC.out (by decide))) (fun _ hk => trivial)⟩, ⟨zrs <| Kd.R_mono (zfr (Kd.R_types CL.out AC.out (by decide))) (fun _ hk => trivial)⟩, ⟨zfar (zb AD) AX⟩, ⟨zfar (zb AE) AY⟩, ⟨zfar (zb AF) AZ⟩, ⟨zput (zb AC) 1⟩, ⟨zB⟩⟩
      ·rw [if_neg CO] at H
       exact absurd H (by simp)
     ·rw [if_neg Bc] at H; have BQ : decide (0 < Af) = false := decide_eq_false Bc; clear Bc
      (first | rw [BQ] | (simp only [i64_w, i32_w]; rw [BQ]) | skip)
      have H' := zm H
      clear H
      go_wp2
      go_meet
      case rel => exact ⟨_, (Ae), (u146001), H', ⟨by have := As.out; first | omega | exact Nat.le_refl _⟩, ⟨zr AA⟩, ⟨zr AB⟩, ⟨zb AD⟩, ⟨zb AE⟩, ⟨zb AF⟩, ⟨zb AC⟩, ⟨zB⟩⟩
    case rest =>
     clear CE; (try clear BP); (try clear Ba); (try clear BL); (try clear BM); (try clear BN); (try clear BO); obtain ⟨kq, AP, u146001, HA, Ah, AA, AB, AD, AE, AF, AC, HB⟩ := hcut
     cases kq with
     | zero => exact absurd HA.out (by simp [spec_l3Join.j1])
     | succ CH =>
      have H := HA.out; clear HA; simp only [spec_l3Join.j1] at H; replace H := Option.bind_eq_some_iff.mp H; obtain ⟨⟨Ag, Ao, Ap, Aq, Ar, C9⟩, Cs, H⟩ := H; (try dsimp only at H); have Ez := zm Cs; clear Cs; replace H := Option.bind_eq_some_iff.mp H; obtain ⟨⟨Am, B2, B3, BA, BB, CA⟩, Ct, H⟩ := H; (try dsimp only at H); have F0 := zm Ct; clear Ct; have CF := zm H; clear H; have Ga := CB.out; have HS := CC.out; have Gb := BW.out; have HT := BY.out; have Gc := AX.out; have HU := Ai.out; obtain ⟨Be, Bf, Bs, Bt⟩ := zc2 AD
      go_upto_region 10 with (first | ((with_reducible refine gate_callee (f := 61) rfl ?_); refine zg (some 38) #[.agg #[.slice A0_0 l0_0.length c0_0, .slice A0_1 l0_1.length c0_1], .int .i64 AO] Try.func61 ?_; (with_reducible refine (spec_EntryOf.calls CH _ _ l0_0 _ _ l0_1 AO Ag Ao Ap Aq Ar C9 _ (zk (Kd.C_below HR0_0.out HB.out)) HC0_0.out (zk (Kd.C_below HR0_1.out HB.out)) HC0_1.out Ez.out).mono ?_); rintro e IN ⟨rfl, hb⟩; refine ⟨_, rfl, ?_⟩; replace AA := zw AA hb; replace AB := zw AB hb; replace AD := zy AD hb; replace AE := zy AE hb; replace AF := zy AF hb; replace AC := zy AC hb; replace HB := zm (below_step zB hb); clear hb) | ((with_reducible refine gate_dst (N := 8) rfl ?_); refine zbox 8 #[.int .i64 0, .int .i64 0, .int .i64 0, .int .i64 0, .string (⟨#[]⟩ : ByteArray)] 36 ?_; intro C7 hg IP hbox hb; replace AA := zw AA hb; replace AB := zw AB hb; have AN := zm (hbox); have GU := zge w hg zB; have GN := zge w hg zB; replace HB := zm (below_step zB hb); have Ab := zlt hg (zb AD); have BG := zgt hg (zb AD); replace AD := zy AD hb; have Ac := zlt hg (zb AE); have BH := zgt hg (zb AE); replace AE := zy AE hb; have Ad := zlt hg (zb AF); have BI := zgt hg (zb AF); replace AF := zy AF hb; have Aa := zlt hg (zb AC); have Au := zgt hg (zb AC); replace AC := zy AC hb; clear hb hbox hg; have Gd := BG.out; have HV := Ab.out; have Ge := BH.out; have HW := Ac.out; have Gf := BI.out; have HX := Ad.out; have Gg := Au.out; have HY := Aa.out; obtain ⟨Bg, Bh, Bi, Bj, Bk, Bu, Bv, Bw, Bx, By⟩ := zc5 AN; have Gh := BX.out; have HZ := BZ.out; have Gi := AY.out; have Ha := Aj.out; obtain ⟨Bl, Bm, Bz, C0⟩ := zc2 AE) | ((with_reducible refine gate_callee (f := 61) rfl ?_); refine zg (some 44) #[.agg #[.slice A1_0 l1_0.length c1_0, .slice A1_1 l1_1.length c1_1], .int .i64 AO] Try.func61 ?_; (with_reducible refine (spec_EntryOf.calls CH _ _ l1_0 _ _ l1_1 AO Am B2 B3 BA BB CA _ ?side1 HC1_0.out ?side3 HC1_1.out F0.out).mono ?_); (case side1 => exact Kd.C_below HR1_0.out zB); (case side3 => exact Kd.C_below HR1_1.out zB); rintro e IQ ⟨rfl, hb⟩; refine ⟨_, rfl, ?_⟩; replace AA := zm (Kd.R_below (zrs <| (Kd.R_mono (zfr (zfr (zfr (zfr (zfr (Kd.R_types AA.out AN.out (by decide))))))) (fun _ h_ => h_.1))) hb); replace AB := zm (Kd.R_below (zrs <| (Kd.R_mono (zfr (zfr (zfr (zfr (zfr (Kd.R_types AB.out AN.out (by decide))))))) (fun _ h_ => h_.1))) hb); replace AD := zyb hb (zfar (zfar (zfar (zfar (zfar (zb AD) Ab) Ab) Ab) Ab) Ab); replace AE := zyb hb (zfar (zfar (zfar (zfar (zfar (zb AE) Ac) Ac) Ac) Ac) Ac); replace AF := zyb hb (zfar (zfar (zfar (zfar (zfar (zb AF) Ad) Ad) Ad) Ad) Ad); replace AC := zyb hb (zfar (zfar (zfar (zfar (zfar (zb AC) Aa) Aa) Aa) Aa) Aa); replace AN := zm (blk_below (g := C7) (o := .cells #[.int .i64 Ag, .int .i64 Ao, .int .i64 Ap, .int .i64 Aq, .string Ar] 36 (0, 0)) (zput (zput (zput (zput (zput (zb AN) 0) 1) 2) 3) 4) hb); replace HB := zm (below_step zB hb); clear hb) | ((with_reducible refine gate_dst (N := 10) rfl ?_); refine zbox 10 #[.int .i64 0, .int .i64 0, .int .i64 0, .int .i64 0, .string (⟨#[]⟩ : ByteArray)] 36 ?_; intro CU hg IR hbox hb; replace AA := zw AA hb; replace AB := zw AB hb; have AT := zm (hbox); have GV := zge w hg zB; have GO := zge w hg zB; replace HB := zm (below_step zB hb); have AU := zlt hg (zb AD); have BC := zgt hg (zb AD); replace AD := zy AD hb; have AV := zlt hg (zb AE); have BD := zgt hg (zb AE); replace AE := zy AE hb; have AW := zlt hg (zb AF); have BE := zgt hg (zb AF); replace AF := zy AF hb; have AR := zlt hg (zb AC); have Av := zgt hg (zb AC); replace AC := zy AC hb; have AS := zlt hg (zb AN); have Aw := zgt hg (zb AN); replace AN := zy AN hb; clear hb hbox hg; have Gj := BC.out; have Hb := AU.out; have Gk := BD.out; have Hc := AV.out; have Gl := BE.out; have Hd := AW.out; have Gm := Av.out; have He := AR.out; have Gn := Aw.out; have Hf := AS.out; obtain ⟨Bn, Bo, Bp, Bq, Br, C1, C2, C3, C4, C5⟩ := zc5 AT))
      (try simp only [Act.put, List.setIfInBounds_toArray, List.set_cons_zero, List.set_cons_succ])
      go_cut [52] (fun v52 wc => ∃ (kq : Nat) (BS : Bool), v52 = .bool BS ∧ Aside0 (spec_l3Join.j2 kq AO Af C9 CA BS l0_0 l0_1 l1_0 l1_1 AM AP Ag Ao Ap Aq Ar Am B2 B3 BA BB = some (r1, r2)) ∧ Aside0 (kq ≤ CH) ∧ Aside0 (Kd.R k44 44 wc w.heap.size (fun _ => True) u146000 AM) ∧ Aside0 (Kd.R k58 58 wc w.heap.size (fun _ => True) u146001 AP) ∧ Aside0 (wc.heap[BJ]? = some (.cells #[(.slice A0_0 l0_0.length c0_0), (.slice A0_1 l0_1.length c0_1)] 27 (0, 0))) ∧ Aside0 (wc.heap[BK]? = some (.cells #[(.slice A1_0 l1_0.length c1_0), (.slice A1_1 l1_1.length c1_1)] 27 (0, 0))) ∧ Aside0 (wc.heap[BR]? = some (.cells #[(.slice none 0 0), (.slice none 0 0)] 27 (0, 0))) ∧ Aside0 (wc.heap[Bb]? = some (.cells #[u146000, u146001] 27 (0, 0))) ∧ Aside0 (wc.heap[C7]? = some (.cells #[.int .i64 Ag, .int .i64 Ao, .int .i64 Ap, .int .i64 Aq, .string Ar] 36 (0, 0))) ∧ Aside0 (wc.heap[CU]? = some (.cells #[.int .i64 Am, .int .i64 B2, .int .i64 B3, .int .i64 BA, .string BB] 36 (0, 0))) ∧ Aside0 (Below w.heap.size w wc))
      case first =>
       have H := CF.out; clear CF
       by_cases CP : C9 = true
       ·subst CP; rw [if_pos rfl] at H
        have H' := zm H
        clear H
        go_wp2
        go_meet
        case rel => exact ⟨_, (false), zF, H', ⟨by have := As.out; have := Ah.out; first | omega | exact Nat.le_refl _⟩, ⟨zrs <| Kd.R_mono (zfr (zfr (zfr (zfr (zfr (Kd.R_types AA.out AT.out (by decide))))))) (fun _ hk => trivial)⟩, ⟨zrs <| Kd.R_mono (zfr (zfr (zfr (zfr (zfr (Kd.R_types AB.out AT.out (by decide))))))) (fun _ hk => trivial)⟩, ⟨zfar (zfar (zfar (zfar (zfar (zb AD) AU) AU) AU) AU) AU⟩, ⟨zfar (zfar (zfar (zfar (zfar (zb AE) AV) AV) AV) AV) AV⟩, ⟨zfar (zfar (zfar (zfar (zfar (zb AF) AW) AW) AW) AW) AW⟩, ⟨zfar (zfar (zfar (zfar (zfar (zb AC) AR) AR) AR) AR) AR⟩, ⟨zfar (zfar (zfar (zfar (zfar (zb AN) AS) AS) AS) AS) AS⟩, ⟨zput (zput (zput (zput (zput (zb AT) 0) 1) 2) 3) 4⟩, ⟨zB⟩⟩
       ·replace CP := Bool.eq_false_iff.mpr CP; subst CP; rw [zff] at H
        have H' := zm H
        clear H
        go_wp2
        go_meet
        case rel => exact ⟨_, (!CA), zF, H', ⟨by have := As.out; have := Ah.out; first | omega | exact Nat.le_refl _⟩, ⟨zrs <| Kd.R_mono (zfr (zfr (zfr (zfr (zfr (Kd.R_types AA.out AT.out (by decide))))))) (fun _ hk => trivial)⟩, ⟨zrs <| Kd.R_mono (zfr (zfr (zfr (zfr (zfr (Kd.R_types AB.out AT.out (by decide))))))) (fun _ hk => trivial)⟩, ⟨zfar (zfar (zfar (zfar (zfar (zb AD) AU) AU) AU) AU) AU⟩, ⟨zfar (zfar (zfar (zfar (zfar (zb AE) AV) AV) AV) AV) AV⟩, ⟨zfar (zfar (zfar (zfar (zfar (zb AF) AW) AW) AW) AW) AW⟩, ⟨zfar (zfar (zfar (zfar (zfar (zb AC) AR) AR) AR) AR) AR⟩, ⟨zfar (zfar (zfar (zfar (zfar (zb AN) AS) AS) AS) AS) AS⟩, ⟨zput (zput (zput (zput (zput (zb AT) 0) 1) 2) 3) 4⟩, ⟨zB⟩⟩
      case rest =>
       clear CF; (try clear BP); (try clear Ba); (try clear BL); (try clear BM); (try clear Be); (try clear Bf); (try clear Bg); (try clear Bh); (try clear Bi); (try clear Bj); (try clear Bk); (try clear Bl); (try clear Bm); (try clear Bn); (try clear Bo); (try clear Bp); (try clear Bq); (try clear Br); (try clear BN); (try clear BO); (try clear Bs); (try clear Bt); (try clear Bu); (try clear Bv); (try clear Bw); (try clear Bx); (try clear By); (try clear Bz); (try clear C0); (try clear C1); (try clear C2); (try clear C3); (try clear C4); (try clear C5); obtain ⟨kq, BS, rfl, HA, An, AA, AB, AD, AE, AF, AC, AN, AT, HB⟩ := hcut
       cases kq with
       | zero => exact absurd HA.out (by simp [spec_l3Join.j2])
       | succ CI =>
        have H := HA.out; clear HA; simp only [spec_l3Join.j2] at H
        by_cases CD : BS = true
        ·subst CD; rw [if_pos rfl] at H
         have H' := zm H
         clear H
         go_wp2
         go_roundg CI
         case measure => have := As.out; have := Ah.out; have := An.out; omega
         case rel => exact ⟨(wrap64 (AO + 1)), (AM), (AP), (u146000), (u146001), zF, H', ⟨by have := As.out; have := Ah.out; have := An.out; omega⟩, ⟨zr AA⟩, ⟨zr AB⟩, ⟨zb AD⟩, ⟨zb AE⟩, ⟨zb AF⟩, ⟨zb AC⟩, ⟨zB⟩⟩
        ·replace CD := Bool.eq_false_iff.mpr CD; subst CD; rw [zff] at H; have CG := zm H; clear H; have Gp := BG.out; have Hg := Ab.out; have Gq := BH.out; have Hh := Ac.out; have Gr := BI.out; have Hi := Ad.out; have Gs := Au.out; have Hj := Aa.out; have Gt := AS.out; have Hk := Aw.out; obtain ⟨CV, CW, CX, CY, CZ, Cf, Cg, Ch, Ci, Cj⟩ := zc5 AN
         go_upto_region 12 with (first | ((with_reducible refine gate_dst (N := 12) rfl ?_); refine zbox 12 #[.int .i64 0, .int .i64 0, .int .i64 0, .int .i64 0, .string (⟨#[]⟩ : ByteArray)] 36 ?_; intro C8 hg IS hbox hb; replace AA := zw AA hb; replace AB := zw AB hb; have AQ := zm (hbox); have GW := zge w hg zB; have GP := zge w hg zB; replace HB := zm (below_step zB hb); have AG := zlt hg (zb AD); have Ax := zgt hg (zb AD); replace AD := zy AD hb; have AH := zlt hg (zb AE); have Ay := zgt hg (zb AE); replace AE := zy AE hb; have AI := zlt hg (zb AF); have Az := zgt hg (zb AF); replace AF := zy AF hb; have AJ := zlt hg (zb AC); have B0 := zgt hg (zb AC); replace AC := zy AC hb; have AK := zlt hg (zb AN); have Ak := zgt hg (zb AN); replace AN := zy AN hb; have AL := zlt hg (zb AT); have Al := zgt hg (zb AT); replace AT := zy AT hb; clear hb hbox hg; have Gu := Ax.out; have Hl := AG.out; have Gv := Ay.out; have Hm := AH.out; have Gw := Az.out; have Hn := AI.out; have Gx := B0.out; have Ho := AJ.out; have Gy := Ak.out; have Hp := AK.out; have Gz := Al.out; have Hq := AL.out; obtain ⟨Ca, Cb, Cc, Cd, Ce, Ck, Cl, Cm, Cn, Co⟩ := zc5 AQ))
         (try simp only [Act.put, List.setIfInBounds_toArray, List.set_cons_zero, List.set_cons_succ])
         go_cut [64] (fun v64 wc => ∃ (kq : Nat) (BT : Bool), v64 = .bool BT ∧ Aside0 (spec_l3Join.j3 kq AO Af BT l0_0 l0_1 l1_0 l1_1 AM AP Am B2 B3 BA BB Ag Ao Ap Aq Ar = some (r1, r2)) ∧ Aside0 (kq ≤ CI) ∧ Aside0 (Kd.R k44 44 wc w.heap.size (fun _ => True) u146000 AM) ∧ Aside0 (Kd.R k58 58 wc w.heap.size (fun _ => True) u146001 AP) ∧ Aside0 (wc.heap[BJ]? = some (.cells #[(.slice A0_0 l0_0.length c0_0), (.slice A0_1 l0_1.length c0_1)] 27 (0, 0))) ∧ Aside0 (wc.heap[BK]? = some (.cells #[(.slice A1_0 l1_0.length c1_0), (.slice A1_1 l1_1.length c1_1)] 27 (0, 0))) ∧ Aside0 (wc.heap[BR]? = some (.cells #[(.slice none 0 0), (.slice none 0 0)] 27 (0, 0))) ∧ Aside0 (wc.heap[Bb]? = some (.cells #[u146000, u146001] 27 (0, 0))) ∧ Aside0 (wc.heap[C7]? = some (.cells #[.int .i64 Ag, .int .i64 Ao, .int .i64 Ap, .int .i64 Aq, .string Ar] 36 (0, 0))) ∧ Aside0 (wc.heap[CU]? = some (.cells #[.int .i64 Am, .int .i64 B2, .int .i64 B3, .int .i64 BA, .string BB] 36 (0, 0))) ∧ Aside0 (wc.heap[C8]? = some (.cells #[.int .i64 Ag, .int .i64 Ao, .int .i64 Ap, .int .i64 Aq, .string Ar] 36 (0, 0))) ∧ Aside0 (Below w.heap.size w wc))
         case first =>
          have H := CG.out; clear CG
          by_cases CQ : C9 = true
          ·subst CQ; rw [if_pos rfl] at H
           by_cases CR : CA = true
           ·subst CR; rw [if_pos rfl] at H; replace H := Option.bind_eq_some_iff.mp H; obtain ⟨Cw, Cu, H⟩ := H; (try dsimp only at H); have F1 := zm Cu; clear Cu
            have H' := zm H
            clear H; have H0 := BC.out; have Hr := AU.out; have H1 := BD.out; have Hs := AV.out; have H2 := BE.out; have Ht := AW.out; have H3 := Av.out; have Hu := AR.out; have H4 := Aw.out; have Hv := AS.out; have H5 := AL.out; have Hw := Al.out; obtain ⟨EO, EP, EQ, ER, ES, Eh, Ei, Ej, Ek, El⟩ := zc5 AT; have H6 := BG.out; have Hx := Ab.out; have H7 := BH.out; have Hy := Ac.out; have H8 := BI.out; have Hz := Ad.out; have H9 := Au.out; have I0 := Aa.out; have HC := AK.out; have I1 := Ak.out; obtain ⟨ET, EU, EV, EW, EX, Em, En, Eo, Ep, Eq⟩ := zc5 AN
            go_wp2_with (first | (go_at_call 62; (with_reducible refine (spec_EntryCmp.calls CI Am B2 B3 BA BB Ag Ao Ap Aq Ar Cw _ F1.out).mono ?_); rintro e IT ⟨rfl, hb⟩; replace AA := zm (Kd.R_below (zrs <| (Kd.R_mono (zfr (zfr (zfr (zfr (zfr (Kd.R_types AA.out AQ.out (by decide))))))) (fun _ h_ => h_.1))) hb); replace AB := zm (Kd.R_below (zrs <| (Kd.R_mono (zfr (zfr (zfr (zfr (zfr (Kd.R_types AB.out AQ.out (by decide))))))) (fun _ h_ => h_.1))) hb); replace AD := zyb hb (zfar (zfar (zfar (zfar (zfar (zb AD) AG) AG) AG) AG) AG); replace AE := zyb hb (zfar (zfar (zfar (zfar (zfar (zb AE) AH) AH) AH) AH) AH); replace AF := zyb hb (zfar (zfar (zfar (zfar (zfar (zb AF) AI) AI) AI) AI) AI); replace AC := zyb hb (zfar (zfar (zfar (zfar (zfar (zb AC) AJ) AJ) AJ) AJ) AJ); replace AN := zyb hb (zfar (zfar (zfar (zfar (zfar (zb AN) AK) AK) AK) AK) AK); replace AT := zyb hb (zfar (zfar (zfar (zfar (zfar (zb AT) AL) AL) AL) AL) AL); replace AQ := zm (blk_below (g := C8) (o := .cells #[.int .i64 Ag, .int .i64 Ao, .int .i64 Ap, .int .i64 Aq, .string Ar] 36 (0, 0)) (zput (zput (zput (zput (zput (zb AQ) 0) 1) 2) 3) 4) hb); replace HB := zm (below_step zB hb); clear hb))
            go_meet
            case rel => exact ⟨_, (decide (Cw > 0)), zF, H', ⟨by have := As.out; have := Ah.out; have := An.out; first | omega | exact Nat.le_refl _⟩, ⟨zr AA⟩, ⟨zr AB⟩, ⟨zb AD⟩, ⟨zb AE⟩, ⟨zb AF⟩, ⟨zb AC⟩, ⟨zb AN⟩, ⟨zb AT⟩, ⟨zb AQ⟩, ⟨zB⟩⟩
           ·replace CR := Bool.eq_false_iff.mpr CR; subst CR; rw [zff] at H
            have H' := zm H
            clear H
            go_wp2
            go_meet
            case rel => exact ⟨_, (false), zF, H', ⟨by have := As.out; have := Ah.out; have := An.out; first | omega | exact Nat.le_refl _⟩, ⟨zrs <| Kd.R_mono (zfr (zfr (zfr (zfr (zfr (Kd.R_types AA.out AQ.out (by decide))))))) (fun _ hk => trivial)⟩, ⟨zrs <| Kd.R_mono (zfr (zfr (zfr (zfr (zfr (Kd.R_types AB.out AQ.out (by decide))))))) (fun _ hk => trivial)⟩, ⟨zfar (zfar (zfar (zfar (zfar (zb AD) AG) AG) AG) AG) AG⟩, ⟨zfar (zfar (zfar (zfar (zfar (zb AE) AH) AH) AH) AH) AH⟩, ⟨zfar (zfar (zfar (zfar (zfar (zb AF) AI) AI) AI) AI) AI⟩, ⟨zfar (zfar (zfar (zfar (zfar (zb AC) AJ) AJ) AJ) AJ) AJ⟩, ⟨zfar (zfar (zfar (zfar (zfar (zb AN) AK) AK) AK) AK) AK⟩, ⟨zfar (zfar (zfar (zfar (zfar (zb AT) AL) AL) AL) AL) AL⟩, ⟨zput (zput (zput (zput (zput (zb AQ) 0) 1) 2) 3) 4⟩, ⟨zB⟩⟩
          ·replace CQ := Bool.eq_false_iff.mpr CQ; subst CQ; rw [zff] at H
           have H' := zm H
           clear H
           go_wp2
           go_meet
           case rel => exact ⟨_, (true), zF, H', ⟨by have := As.out; have := Ah.out; have := An.out; first | omega | exact Nat.le_refl _⟩, ⟨zrs <| Kd.R_mono (zfr (zfr (zfr (zfr (zfr (Kd.R_types AA.out AQ.out (by decide))))))) (fun _ hk => trivial)⟩, ⟨zrs <| Kd.R_mono (zfr (zfr (zfr (zfr (zfr (Kd.R_types AB.out AQ.out (by decide))))))) (fun _ hk => trivial)⟩, ⟨zfar (zfar (zfar (zfar (zfar (zb AD) AG) AG) AG) AG) AG⟩, ⟨zfar (zfar (zfar (zfar (zfar (zb AE) AH) AH) AH) AH) AH⟩, ⟨zfar (zfar (zfar (zfar (zfar (zb AF) AI) AI) AI) AI) AI⟩, ⟨zfar (zfar (zfar (zfar (zfar (zb AC) AJ) AJ) AJ) AJ) AJ⟩, ⟨zfar (zfar (zfar (zfar (zfar (zb AN) AK) AK) AK) AK) AK⟩, ⟨zfar (zfar (zfar (zfar (zfar (zb AT) AL) AL) AL) AL) AL⟩, ⟨zput (zput (zput (zput (zput (zb AQ) 0) 1) 2) 3) 4⟩, ⟨zB⟩⟩
         case rest =>
          clear CG; (try clear BP); (try clear Ba); (try clear CD); (try clear BL); (try clear BM); (try clear Be); (try clear Bf); (try clear Bg); (try clear Bh); (try clear Bi); (try clear Bj); (try clear Bk); (try clear Bl); (try clear Bm); (try clear Bn); (try clear Bo); (try clear Bp); (try clear Bq); (try clear Br); (try clear CV); (try clear CW); (try clear CX); (try clear CY); (try clear CZ); (try clear Ca); (try clear Cb); (try clear Cc); (try clear Cd); (try clear Ce); (try clear BN); (try clear BO); (try clear Bs); (try clear Bt); (try clear Bu); (try clear Bv); (try clear Bw); (try clear Bx); (try clear By); (try clear Bz); (try clear C0); (try clear C1); (try clear C2); (try clear C3); (try clear C4); (try clear C5); (try clear Cf); (try clear Cg); (try clear Ch); (try clear Ci); (try clear Cj); (try clear Ck); (try clear Cl); (try clear Cm); (try clear Cn); (try clear Co); obtain ⟨kq, BT, rfl, HA, BF, AA, AB, AD, AE, AF, AC, AN, AT, AQ, HB⟩ := hcut
          cases kq with
          | zero => exact absurd HA.out (by simp [spec_l3Join.j3])
          | succ BV =>
           have H := HA.out; clear HA; simp only [spec_l3Join.j3] at H
           by_cases CS : BT = true
           ·subst CS; rw [if_pos rfl] at H
            by_cases Bd : Am > Af
            ·rw [if_pos Bd] at H; have D1 : decide (Af < Am) = true := decide_eq_true Bd; clear Bd
             by_cases CT : AM.length < 2513169434916
             ·rw [if_pos CT] at H; have LMc89 := zm CT; clear CT
              obtain ⟨y168, hy168⟩ : ∃ y_ : List (S44), y_ = (AM ++ [(⟨AO, (⟨Am, B2, B3, BA, BB⟩ : S36)⟩ : S44)]) := ⟨_, rfl⟩
              replace H : (spec_l3Join.l0 BV (wrap64 (AO + 1)) l0_0 l0_1 l1_0 l1_1 y168 AP) = some (r1, r2) := by first | (rw [hy168]; with_reducible exact H) | (have H2_ := (Option.bind_some _ _).symm.trans H; rw [hy168]; with_reducible exact H2_) | (have H2_ := (Option.bind_some _ _).symm.trans H; with_reducible exact H2_) | with_reducible exact H | (rw [hy168]; exact H) | exact H
              have Ny168 := zm hy168; clear hy168
              have H' := zm H
              clear H; have HD := BC.out; have I2 := AU.out; have HE := BD.out; have I3 := AV.out; have HF := BE.out; have I4 := AW.out; have HG := Av.out; have I5 := AR.out; have HH := Aw.out; have I6 := AS.out; have HI := AL.out; have I7 := Al.out; obtain ⟨EY, EZ, Ea, Eb, Ec, Er, Es, Et, Eu, Ev⟩ := zc5 AT; have HM := Ax.out; have I8 := AG.out; have HN := Ay.out; have I9 := AH.out; have HO := Az.out; have IA := AI.out; have F2 := B0.out; have Fg := AJ.out; have F3 := Ak.out; have Fh := AK.out; obtain ⟨D8, D9, DA, DB, DC, Dj, Dk, Dl, Dm, Dn⟩ := zc5 AQ; have F4 := Ai.out; have Fi := AX.out; have F5 := Aj.out; have Fj := AY.out; have F6 := At.out; have Fk := AZ.out; have F7 := Aa.out; have Fl := Au.out; obtain ⟨DD, DE, Do, Dp⟩ := zc2 AC
              go_wp2_with (first | ((with_reducible refine gate_builtin (b := .append) (xs := #[.tmp 71, .tmp 75]) rfl ?_); at_builtin; refine Kd.R_append k44 (w0 := w) w.heap.size rfl (.tmp 71) (.tmp 75) 24 44 (.agg #[(.int .i64 0), (.int .i64 0), (.int .i64 0), (.int .i64 0), (.int .i64 0), (.string ⟨#[]⟩)]) 56 rfl Try.underlying24 info44 rfl (by decide) (by omega) u146000 AM (⟨AO, (⟨Am, B2, B3, BA, BB⟩ : S36)⟩ : S44) [.int .i64 AO, .int .i64 Am, .int .i64 B2, .int .i64 B3, .int .i64 BA, .string BB] (fun _ => True) (fun _ => False) rfl (by first | (go_simp; done) | (go_simp; rfl)) ?aP (fun _ hk => hk.elim) ?aF ?aO ?aB ?aS ?aL ?_; (case aP => exact k44_mkM _ _ _ (⟨AO, (⟨Am, B2, B3, BA, BB⟩ : S36)⟩ : S44)); (case aB => exact zB); (case aF => exact (fun _ _ => trivial)); (case aO => exact (zrs <| Kd.R_mono (zfr (zfr (zfr (zfr (zfr (Kd.R_types AA.out AQ.out (by decide))))))) (fun _ hk => trivial))); (case aS => exact (below_size zB)); (case aL => have := LMc89.out; omega); intro v169 IH ho hb hg hat; rw [← Ny168.out] at ho; replace AB := zm (Kd.R_over' (zrs <| (Kd.R_mono (zfr (zfr (zfr (zfr (zfr (Kd.R_types AB.out AQ.out (by decide))))))) (fun _ h_ => h_.1))) (Kd.R_typed (zrs <| (Kd.R_mono (zfr (zfr (zfr (zfr (zfr (Kd.R_types AA.out AQ.out (by decide))))))) (fun _ h_ => h_.1)))) (by decide) hg); replace AD := zgr hg (zfar (zfar (zfar (zfar (zfar (zb AD) AG) AG) AG) AG) AG) (Kd.R_ne AA.out AD.out (by decide)); replace AE := zgr hg (zfar (zfar (zfar (zfar (zfar (zb AE) AH) AH) AH) AH) AH) (Kd.R_ne AA.out AE.out (by decide)); replace AF := zgr hg (zfar (zfar (zfar (zfar (zfar (zb AF) AI) AI) AI) AI) AI) (Kd.R_ne AA.out AF.out (by decide)); replace AC := zgr hg (zfar (zfar (zfar (zfar (zfar (zb AC) AJ) AJ) AJ) AJ) AJ) (Kd.R_ne AA.out AC.out (by decide)); replace AN := zgr hg (zfar (zfar (zfar (zfar (zfar (zb AN) AK) AK) AK) AK) AK) (Kd.R_ne AA.out AN.out (by decide)); replace AT := zgr hg (zfar (zfar (zfar (zfar (zfar (zb AT) AL) AL) AL) AL) AL) (Kd.R_ne AA.out AT.out (by decide)); replace AQ := zm (blk_grown (g := C8) (o := .cells #[.int .i64 Am, .int .i64 B2, .int .i64 B3, .int .i64 BA, .string BB] 36 (0, 0)) (zput (zput (zput (zput (zput (zb AQ) 0) 1) 2) 3) 4) hg (Kd.R_ne AA.out AQ.out (by decide))); replace HB := zm hb; have CM := zm (ho); clear AA; clear ho hb hg hat; obtain ⟨Cx, D2, eo109⟩ := Kd.R_slice CM.out; subst eo109; obtain ⟨DF, DG, Dq, Dr⟩ := zc2 AC))
              go_roundg BV
              case measure => have := As.out; have := Ah.out; have := An.out; have := BF.out; omega
              case rel => exact ⟨(wrap64 (AO + 1)), (y168), (AP), (.slice Cx y168.length D2), (u146001), zF, H', ⟨by have := As.out; have := Ah.out; have := An.out; have := BF.out; omega⟩, ⟨zrs <| Kd.R_mono (zfr (Kd.R_types CM.out AC.out (by decide))) (fun _ hk => trivial)⟩, ⟨zrs <| Kd.R_mono (zfr (Kd.R_types AB.out AC.out (by decide))) (fun _ hk => trivial)⟩, ⟨zfar (zb AD) AX⟩, ⟨zfar (zb AE) AY⟩, ⟨zfar (zb AF) AZ⟩, ⟨zput (zb AC) 0⟩, ⟨zB⟩⟩
             ·rw [if_neg CT] at H
              exact absurd H (by simp)
            ·rw [if_neg Bd] at H; have D1 : decide (Af < Am) = false := decide_eq_false Bd; clear Bd
             have H' := zm H
             clear H; have F8 := BC.out; have Fm := AU.out; have F9 := BD.out; have Fn := AV.out; have FA := BE.out; have Fo := AW.out; have FB := Av.out; have Fp := AR.out; have FC := Aw.out; have Fq := AS.out; have FD := AL.out; have Fr := Al.out; obtain ⟨DH, DI, DJ, DK, DL, Ds, Dt, Du, Dv, Dw⟩ := zc5 AT; have FE := Ax.out; have Fs := AG.out; have FF := Ay.out; have Ft := AH.out; have FG := Az.out; have Fu := AI.out; have FH := B0.out; have Fv := AJ.out; have FI := Ak.out; have Fw := AK.out; obtain ⟨DM, DN, DO, DP, DQ, Dx, Dy, Dz, E0, E1⟩ := zc5 AQ
             go_wp2
             go_roundg BV
             case measure => have := As.out; have := Ah.out; have := An.out; have := BF.out; omega
             case rel => exact ⟨(wrap64 (AO + 1)), (AM), (AP), (u146000), (u146001), zF, H', ⟨by have := As.out; have := Ah.out; have := An.out; have := BF.out; omega⟩, ⟨zrs <| Kd.R_mono (zfr (zfr (zfr (zfr (zfr (Kd.R_types AA.out AQ.out (by decide))))))) (fun _ hk => trivial)⟩, ⟨zrs <| Kd.R_mono (zfr (zfr (zfr (zfr (zfr (Kd.R_types AB.out AQ.out (by decide))))))) (fun _ hk => trivial)⟩, ⟨zfar (zfar (zfar (zfar (zfar (zb AD) AG) AG) AG) AG) AG⟩, ⟨zfar (zfar (zfar (zfar (zfar (zb AE) AH) AH) AH) AH) AH⟩, ⟨zfar (zfar (zfar (zfar (zfar (zb AF) AI) AI) AI) AI) AI⟩, ⟨zfar (zfar (zfar (zfar (zfar (zb AC) AJ) AJ) AJ) AJ) AJ⟩, ⟨zB⟩⟩
           ·replace CS := Bool.eq_false_iff.mpr CS; subst CS; rw [zff] at H
            by_cases BU : Ag > Af
            ·rw [if_pos BU] at H; have Cv : decide (Af < Ag) = true := decide_eq_true BU; clear BU
             by_cases C6 : AM.length < 2513169434916
             ·rw [if_pos C6] at H; have LMc125 := zm C6; clear C6
              obtain ⟨y171, hy171⟩ : ∃ y_ : List (S44), y_ = (AM ++ [(⟨AO, (⟨Ag, Ao, Ap, Aq, Ar⟩ : S36)⟩ : S44)]) := ⟨_, rfl⟩
              replace H : (spec_l3Join.l0 BV (wrap64 (AO + 1)) l0_0 l0_1 l1_0 l1_1 y171 AP) = some (r1, r2) := by first | (rw [hy171]; with_reducible exact H) | (have H2_ := (Option.bind_some _ _).symm.trans H; rw [hy171]; with_reducible exact H2_) | (have H2_ := (Option.bind_some _ _).symm.trans H; with_reducible exact H2_) | with_reducible exact H | (rw [hy171]; exact H) | exact H
              have Ny171 := zm hy171; clear hy171
              have H' := zm H
              clear H; have FJ := Ax.out; have Fx := AG.out; have FL := Ay.out; have Fy := AH.out; have FM := Az.out; have Fz := AI.out; have FN := B0.out; have G0 := AJ.out; have FO := Ak.out; have G1 := AK.out; have FP := Al.out; have G2 := AL.out; obtain ⟨DR, DS, DT, DU, DV, E2, E3, E4, E5, E6⟩ := zc5 AQ; have FQ := Ai.out; have G3 := AX.out; have FR := Aj.out; have G4 := AY.out; have FS := At.out; have G5 := AZ.out; have FT := Aa.out; have G6 := Au.out; have FU := AR.out; have G7 := Av.out; obtain ⟨DW, DX, E7, E8⟩ := zc2 AC
              go_wp2_with (first | ((with_reducible refine gate_builtin (b := .append) (xs := #[.tmp 71, .tmp 75]) rfl ?_); at_builtin; refine Kd.R_append k44 (w0 := w) w.heap.size rfl (.tmp 71) (.tmp 75) 24 44 (.agg #[(.int .i64 0), (.int .i64 0), (.int .i64 0), (.int .i64 0), (.int .i64 0), (.string ⟨#[]⟩)]) 56 rfl Try.underlying24 info44 rfl (by decide) (by omega) u146000 AM (⟨AO, (⟨Ag, Ao, Ap, Aq, Ar⟩ : S36)⟩ : S44) [.int .i64 AO, .int .i64 Ag, .int .i64 Ao, .int .i64 Ap, .int .i64 Aq, .string Ar] (fun _ => True) (fun _ => False) rfl rfl ?aP (fun _ hk => hk.elim) ?aF ?aO ?aB ?aS ?aL ?_; (case aP => exact k44_mkM _ _ _ (⟨AO, (⟨Ag, Ao, Ap, Aq, Ar⟩ : S36)⟩ : S44)); (case aB => exact zB); (case aF => exact (fun _ _ => trivial)); (case aO => exact (zr AA)); (case aS => exact (below_size zB)); (case aL => have := LMc125.out; omega); intro v172 II ho hb hg hat; rw [← Ny171.out] at ho; replace AB := zm (Kd.R_over' (zr AB) (Kd.R_typed (zr AA)) (by decide) hg); replace AD := zgr hg (zb AD) (Kd.R_ne AA.out AD.out (by decide)); replace AE := zgr hg (zb AE) (Kd.R_ne AA.out AE.out (by decide)); replace AF := zgr hg (zb AF) (Kd.R_ne AA.out AF.out (by decide)); replace AC := zgr hg (zb AC) (Kd.R_ne AA.out AC.out (by decide)); replace AN := zgr hg (zb AN) (Kd.R_ne AA.out AN.out (by decide)); replace AT := zgr hg (zb AT) (Kd.R_ne AA.out AT.out (by decide)); replace AQ := zgr hg (zb AQ) (Kd.R_ne AA.out AQ.out (by decide)); replace HB := zm hb; have CN := zm (ho); clear AA; clear ho hb hg hat; obtain ⟨Cy, D3, eo140⟩ := Kd.R_slice CN.out; subst eo140; obtain ⟨DY, DZ, E9, EA⟩ := zc2 AC))
              go_roundg BV
              case measure => have := As.out; have := Ah.out; have := An.out; have := BF.out; omega
              case rel => exact ⟨(wrap64 (AO + 1)), (y171), (AP), (.slice Cy y171.length D3), (u146001), zF, H', ⟨by have := As.out; have := Ah.out; have := An.out; have := BF.out; omega⟩, ⟨zrs <| Kd.R_mono (zfr (Kd.R_types CN.out AC.out (by decide))) (fun _ hk => trivial)⟩, ⟨zrs <| Kd.R_mono (zfr (Kd.R_types AB.out AC.out (by decide))) (fun _ hk => trivial)⟩, ⟨zfar (zb AD) AX⟩, ⟨zfar (zb AE) AY⟩, ⟨zfar (zb AF) AZ⟩, ⟨zput (zb AC) 0⟩, ⟨zB⟩⟩
             ·rw [if_neg C6] at H
              exact absurd H (by simp)
            ·rw [if_neg BU] at H; have Cv : decide (Af < Ag) = false := decide_eq_false BU; clear BU
             have H' := zm H
             clear H; have FV := Ax.out; have G8 := AG.out; have FW := Ay.out; have G9 := AH.out; have FX := Az.out; have GA := AI.out; have FY := B0.out; have GB := AJ.out; have FZ := Ak.out; have GC := AK.out; have Fa := Al.out; have GD := AL.out; obtain ⟨Da, Db, Dc, Dd, De, EB, EC, ED, EE, EF⟩ := zc5 AQ
             go_wp2
             go_roundg BV
             case measure => have := As.out; have := Ah.out; have := An.out; have := BF.out; omega
             case rel => exact ⟨(wrap64 (AO + 1)), (AM), (AP), (u146000), (u146001), zF, H', ⟨by have := As.out; have := Ah.out; have := An.out; have := BF.out; omega⟩, ⟨zr AA⟩, ⟨zr AB⟩, ⟨zb AD⟩, ⟨zb AE⟩, ⟨zb AF⟩, ⟨zb AC⟩, ⟨zB⟩⟩
   ·rw [if_neg BP] at H; have Ba : decide (AO < 5) = false := decide_eq_false BP; clear BP; simp only [Option.some.injEq, Prod.mk.injEq] at H; obtain ⟨rfl, rfl⟩ := H; have Fb := Ai.out; have GE := AX.out; have Fc := Aj.out; have GF := AY.out; have Fd := At.out; have GG := AZ.out; obtain ⟨Df, Dg, EG, EH⟩ := zc2 AC; obtain ⟨Cz, D4, eo153⟩ := Kd.R_slice AA.out; subst eo153; have Fe := BY.out; have GH := BW.out; have Ff := BZ.out; have GI := BX.out; obtain ⟨Dh, Di, EI, EJ⟩ := zc2 AF; obtain ⟨D0, D5, eo157⟩ := Kd.R_slice AB.out; subst eo157
    go_wp2
    refine bodyPost_ret (results_cell_row rfl _ _ BR 27 #[.slice Cz AM.length D4, .slice D0 Ae.length D5] (0, 0) _ rfl (zput (zput (zb AF) 0) 1) Try.underlying27 rfl (by kernel_rfl)) rfl ?_
    exact ⟨_, _, zE, zrs <| Kd.R_mono (zfr (zfr (Kd.R_types AA.out AF.out (by decide)))) (fun _ hk => trivial), zrs <| Kd.R_mono (zfr (zfr (Kd.R_types AB.out AF.out (by decide)))) (fun _ hk => trivial), zB⟩

/-- A state of type 97 at block g of W; what its slices lead to came in by w0. -/
def IsS97 (w0 W : World) (g : Nat) (f0 : List Int) (f1 : Int) (f2 : Int) : Prop := ∃ A0 c0, W.heap[g]? = some (.cells #[.slice A0 f0.length c0, .int .i64 f1, .int .i64 f2] 97 (0, 0)) ∧ w0.heap.size ≤ g ∧ Kd.C (Kd.int .u8) w0 A0 f0.length f0
theorem IsS97.grown {w0 W : World} {g : Nat} {f0 : List Int} {f1 : Int} {f2 : Int} {W1 : World} {row : Option Nat} (h : IsS97 w0 W g f0 f1 f2) (hw : W.grownBy W1 row) (hne : some g ≠ row) : IsS97 w0 W1 g f0 f1 f2 := by
 obtain ⟨A0, c0, hb, hg, hr0⟩ := h
 exact ⟨A0, c0, blk_grown hb hw hne, hg, hr0⟩
theorem IsS97.own_neN {w0 W : World} {g : Nat} {f0 : List Int} {f1 : Int} {f2 : Int} {α : Type} {d : Kd α} {e : Nat} {base : Nat} {ok : Nat → Prop} {v : Value} {xs : List α} (h : IsS97 w0 W g f0 f1 f2) (ho : Kd.N d e W base ok v xs) (ht : e ≠ 97) : some g ≠ v.ownBlock := by
 obtain ⟨A0, c0, hb, hg, hr0⟩ := h
 exact Kd.N_ne ho hb ht
theorem IsS97.fresh {w0 W : World} {g : Nat} {f0 : List Int} {f1 : Int} {f2 : Int} (h : IsS97 w0 W g f0 f1 f2) : ∀ k, W.heap.size ≤ k → k ≠ g := by
 obtain ⟨A0, c0, hb, hg, hr0⟩ := h
 exact Kd.freshB hb
theorem IsS97.kept {w0 W : World} {g : Nat} {f0 : List Int} {f1 : Int} {f2 : Int} {W1 : World} {S : Nat → Prop} (h : IsS97 w0 W g f0 f1 f2) (hk : Kept W W1 S) (hne : ¬ S g) : IsS97 w0 W1 g f0 f1 f2 := by
 obtain ⟨A0, c0, hb, hg, hr0⟩ := h
 exact ⟨A0, c0, blk_kept hb hk hne, hg, hr0⟩
theorem IsS97.below {w0 W : World} {g : Nat} {f0 : List Int} {f1 : Int} {f2 : Int} {W1 : World} (h : IsS97 w0 W g f0 f1 f2) (hw : Below W.heap.size W W1) : IsS97 w0 W1 g f0 f1 f2 := h.grown (grown_of_below hw none) (by simp)
theorem IsS97.alloc {w0 W : World} {g : Nat} {f0 : List Int} {f1 : Int} {f2 : Int} (h : IsS97 w0 W g f0 f1 f2) (o : Obj) : IsS97 w0 (W.alloc o) g f0 f1 f2 := h.below (below_alloc (Below.refl _ _) o)
theorem IsS97.drewN {w0 W : World} {g : Nat} {f0 : List Int} {f1 : Int} {f2 : Int} (h : IsS97 w0 W g f0 f1 f2) (m : Nat) : IsS97 w0 (W.drewN m) g f0 f1 f2 := h
theorem IsS97.drew {w0 W : World} {g : Nat} {f0 : List Int} {f1 : Int} {f2 : Int} (h : IsS97 w0 W g f0 f1 f2) : IsS97 w0 W.drew g f0 f1 f2 := h
theorem IsS97.at_ {w0 W : World} {g : Nat} {f0 : List Int} {f1 : Int} {f2 : Int} {w' : World} {m : Nat} (hq : W.drewN m = w') (h : IsS97 w0 W g f0 f1 f2) : IsS97 w0 w' g f0 f1 f2 := by subst hq; exact IsS97.drewN h m
theorem IsS97.apart {w0 W : World} {g : Nat} {f0 : List Int} {f1 : Int} {f2 : Int} {α : Type} {d : Kd α} {e : Nat} {base : Nat} {ok : Nat → Prop} {v : Value} {xs : List α} (h : IsS97 w0 W g f0 f1 f2) (ho : d.R e W base ok v xs) (ht : ∀ q, q ∈ e :: d.E → q ≠ 97) : d.R e W base (fun k => ok k ∧ k ≠ g) v xs := by
 obtain ⟨A0, c0, hb, hg, hr0⟩ := h
 exact Kd.R_types ho hb ht
theorem IsS97.own_ne {w0 W : World} {g : Nat} {f0 : List Int} {f1 : Int} {f2 : Int} {α : Type} {d : Kd α} {e : Nat} {base : Nat} {ok : Nat → Prop} {v : Value} {xs : List α} (h : IsS97 w0 W g f0 f1 f2) (ho : d.R e W base ok v xs) (ht : e ≠ 97) : some g ≠ v.ownBlock := by
 obtain ⟨A0, c0, hb, hg, hr0⟩ := h
 exact Kd.R_ne ho hb ht
theorem IsS97.apartQ {w0 W : World} {g : Nat} {f0 : List Int} {f1 : Int} {f2 : Int} {α : Type} {d : Kd α} {e : Nat} {base : Nat} {ok : Nat → Prop} {v : Value} {xs : List α} (h : IsS97 w0 W g f0 f1 f2) (ho : d.Q e W base ok v xs) (ht : ∀ q, q ∈ e :: d.E → q ≠ 97) : d.Q e W base (fun k => ok k ∧ k ≠ g) v xs := by
 obtain ⟨A0, c0, hb, hg, hr0⟩ := h
 exact Kd.Q_types ho hb ht
theorem IsS97.own_neQ {w0 W : World} {g : Nat} {f0 : List Int} {f1 : Int} {f2 : Int} {α : Type} {d : Kd α} {e : Nat} {base : Nat} {ok : Nat → Prop} {v : Value} {xs : List α} (h : IsS97 w0 W g f0 f1 f2) (ho : d.Q e W base ok v xs) (ht : e ≠ 97) : some g ≠ v.ownBlock := by
 obtain ⟨A0, c0, hb, hg, hr0⟩ := h
 exact Kd.Q_ne ho hb ht
theorem IsS97.apartS {w0 W : World} {g : Nat} {f0 : List Int} {f1 : Int} {f2 : Int} {α : Type} {d : Kd α} {e : Nat} {base : Nat} {ok : Nat → Prop} {v : Value} {xs : List α} (h : IsS97 w0 W g f0 f1 f2) (ho : d.S e W base ok v xs) (ht : ∀ q, q ∈ e :: d.E → q ≠ 97) : d.S e W base (fun k => ok k ∧ k ≠ g) v xs := by
 obtain ⟨A0, c0, hb, hg, hr0⟩ := h
 exact Kd.S_types ho hb ht
theorem IsS97.own_neS {w0 W : World} {g : Nat} {f0 : List Int} {f1 : Int} {f2 : Int} {α : Type} {d : Kd α} {e : Nat} {base : Nat} {ok : Nat → Prop} {v : Value} {xs : List α} (h : IsS97 w0 W g f0 f1 f2) (ho : d.S e W base ok v xs) (ht : e ≠ 97) : some g ≠ v.ownBlock := by
 obtain ⟨A0, c0, hb, hg, hr0⟩ := h
 exact Kd.S_ne ho hb ht
theorem IsS97.lt {w0 W : World} {g : Nat} {f0 : List Int} {f1 : Int} {f2 : Int} (h : IsS97 w0 W g f0 f1 f2) : g < W.heap.size := by
 obtain ⟨A0, c0, hb, hg, hr0⟩ := h
 exact blk_lt hb
theorem IsS97.ge {w0 W : World} {g : Nat} {f0 : List Int} {f1 : Int} {f2 : Int} (h : IsS97 w0 W g f0 f1 f2) : w0.heap.size ≤ g := by
 obtain ⟨A0, c0, hb, hg, hr0⟩ := h
 exact hg
theorem IsS97.ne_blk {w0 W : World} {g : Nat} {f0 : List Int} {f1 : Int} {f2 : Int} {a : Nat} {cs : Array Value} {t : TypeId} {fr : Nat × Nat} (h : IsS97 w0 W g f0 f1 f2) (hb2 : W.heap[a]? = some (.cells cs t fr)) (ht : t ≠ 97) : g ≠ a := by
 obtain ⟨A0, c0, hb, hg, hr0⟩ := h; rintro rfl; rw [hb] at hb2
 injection hb2 with hb2
 injection hb2 with _ ht2
 exact ht ht2.symm
theorem IsS97.far {w0 W : World} {g : Nat} {f0 : List Int} {f1 : Int} {f2 : Int} {p : Addr} (h : IsS97 w0 W g f0 f1 f2) (hne : g ≠ p.block) (u : Value) : IsS97 w0 (W.setCell p u) g f0 f1 f2 := by
 obtain ⟨A0, c0, hb, hg, hr0⟩ := h
 exact ⟨A0, c0, blk_far hb hne u, hg, hr0⟩
theorem cellS97_0 {W : World} {g : Nat} {A0 : Option Addr} {c0 : Nat} {f0 : List Int} {f1 : Int} {f2 : Int} (h : W.heap[g]? = some (.cells #[.slice A0 f0.length c0, .int .i64 f1, .int .i64 f2] 97 (0, 0))) : W.cell? ⟨g, 0, none⟩ = some (.slice A0 f0.length c0) := (blk_cell h 0).trans rfl
theorem cellS97_1 {W : World} {g : Nat} {A0 : Option Addr} {c0 : Nat} {f0 : List Int} {f1 : Int} {f2 : Int} (h : W.heap[g]? = some (.cells #[.slice A0 f0.length c0, .int .i64 f1, .int .i64 f2] 97 (0, 0))) : W.cell? ⟨g, 1, none⟩ = some (.int .i64 f1) := (blk_cell h 1).trans rfl
theorem IsS97.set_1 {w0 W : World} {g : Nat} {f0 : List Int} {f1 : Int} {f2 : Int} (h : IsS97 w0 W g f0 f1 f2) (x : Int) : IsS97 w0 (W.setCell ⟨g, 1, none⟩ (.int .i64 x)) g f0 x f2 := by
 obtain ⟨A0, c0, hb, hg, hr0⟩ := h
 exact ⟨A0, c0, by simpa using blk_set hb 1 (.int .i64 x), hg, hr0⟩
theorem cellS97_2 {W : World} {g : Nat} {A0 : Option Addr} {c0 : Nat} {f0 : List Int} {f1 : Int} {f2 : Int} (h : W.heap[g]? = some (.cells #[.slice A0 f0.length c0, .int .i64 f1, .int .i64 f2] 97 (0, 0))) : W.cell? ⟨g, 2, none⟩ = some (.int .i64 f2) := (blk_cell h 2).trans rfl
theorem IsS97.set_2 {w0 W : World} {g : Nat} {f0 : List Int} {f1 : Int} {f2 : Int} (h : IsS97 w0 W g f0 f1 f2) (x : Int) : IsS97 w0 (W.setCell ⟨g, 2, none⟩ (.int .i64 x)) g f0 f1 x := by
 obtain ⟨A0, c0, hb, hg, hr0⟩ := h
 exact ⟨A0, c0, by simpa using blk_set hb 2 (.int .i64 x), hg, hr0⟩
theorem IsS97.new (w0 W : World) (A0 : Option Addr) (c0 : Nat) (f0 : List Int) (f1 : Int) (f2 : Int) (hB : Below w0.heap.size w0 W) (hr0 : Kd.C (Kd.int .u8) w0 A0 f0.length f0) : IsS97 w0 (W.alloc (.cells #[.slice A0 f0.length c0, .int .i64 f1, .int .i64 f2] 97)) W.heap.size f0 f1 f2 := ⟨A0, c0, by simpa using heap_alloc_new W _, hB.size, hr0⟩
section
variable {w0 W W1 W2 w : World} {g g0 b : Nat} {f0 : List Int} {f1 : Int} {f2 : Int}
theorem IsS97.farA {p : Addr} (h : IsS97 w0 W g f0 f1 f2) (hne : Aside0 (g ≠ p.block)) (u : Value) : IsS97 w0 (W.setCell p u) g f0 f1 f2 := h.far hne.out u
theorem zI {p : Prop} (h : p := by repeat (first | (with_reducible first | exact HI0.out | apply IsS97.alloc | apply IsS97.drewN | apply IsS97.drew | apply IsS97.set_1 | apply IsS97.set_2 | apply IsS97.farA | assumption) | exact HI0.out)) : p := h
theorem zH {p : Prop} (h : p := by repeat (first | (with_reducible first | exact HB.out | apply below_alloc | apply pw_below_drewN | apply below_drew1 | refine below_set ?_ (IsS97.ge HI0.out) | apply below_setA | assumption) | exact HB.out)) : p := h
theorem zbh {w W W1 : World} (hb : Below W.heap.size W W1) (h : Below w.heap.size w W := by exact zH) : Aside0 (Below w.heap.size w W1) := ⟨below_step h hb⟩
theorem zid97 (h : Aside0 (IsS97 w0 W g f0 f1 f2)) : Aside0 (IsS97 w0 W.drew g f0 f1 f2) := h
theorem zil97 (hg : b = W.heap.size) (h : IsS97 w0 W g f0 f1 f2) : Aside0 (g ≠ b) := ⟨by rw [hg]; exact Nat.ne_of_lt h.lt⟩
theorem zig97 (hg : b = W.heap.size) (h : IsS97 w0 W g f0 f1 f2) : Aside0 (b ≠ g) := ⟨by rw [hg]; exact Nat.ne_of_gt h.lt⟩
theorem zib97 (hb : Below W.heap.size W W1) (h : IsS97 w0 W g f0 f1 f2) : Aside0 (IsS97 w0 W1 g f0 f1 f2) := ⟨h.below hb⟩
theorem zka97 {α : Type} {d : Kd α} {e base : Nat} {ok : Nat → Prop} {v : Value} {xs : List α} (h : IsS97 w0 W g f0 f1 f2) (ho : d.R e W base ok v xs) (hk : KeepBut W W1 g none) (ht : ∀ q, q ∈ e :: d.E → q ≠ 97 := by decide) : Aside0 (d.R e W1 base ok v xs) := zm (Kd.R_mono (Kd.R_keep (IsS97.apart h ho ht) hk (fun _ h => h.2)) (fun _ h => h.1))
end

/-! ### spec_l1Byte: function 108 -/
def spec_l1Byte.f (s0_0 : List Int) (s0_1 : Int) (s0_2 : Int) : Option (Int × Int × Int) := if s0_1 < (s0_0.length : Int) then (if 0 ≤ s0_1 then (some (Go.bits .and .i64 (wrap64 ((Go.bits .and .i64 (Go.bits .xor .i64 ((wrap64 ((wrap64 (s0_2 * 6364136223846793005)) + 1442695040888963407)) / 8589934592) ((wrap64 ((wrap64 (s0_2 * 6364136223846793005)) + 1442695040888963407)) / 35184372088832)) 255) + (wrap64 (rd s0_0 s0_1)))) 255, wrap64 (s0_1 + 1), wrap64 ((wrap64 (s0_2 * 6364136223846793005)) + 1442695040888963407))) else (none)) else (some (Go.bits .and .i64 (Go.bits .xor .i64 ((wrap64 ((wrap64 (s0_2 * 6364136223846793005)) + 1442695040888963407)) / 8589934592) ((wrap64 ((wrap64 (s0_2 * 6364136223846793005)) + 1442695040888963407)) / 35184372088832)) 255, s0_1, wrap64 ((wrap64 (s0_2 * 6364136223846793005)) + 1442695040888963407)))
set_option maxHeartbeats 8000000 in
set_option maxRecDepth 100000 in
theorem spec_l1Byte.calls (g : Nat) (s0_0 : List Int) (s0_1 : Int) (s0_2 : Int) (r1 : Int) (r2 : Int) (r3 : Int) (w0 w : World) (hI : IsS97 w0 w g s0_0 s0_1 s0_2) (hB : Below w0.heap.size w0 w) (h : spec_l1Byte.f s0_0 s0_1 s0_2 = some (r1, r2, r3)) :
  Calls Try.prog 108 #[.pointer (some ⟨g, 0, none⟩)] w fun e w' => e = .returned (.int .i64 r1) ∧ IsS97 w0 w' g s0_0 r2 r3 ∧ Below w0.heap.size w0 w' ∧ KeepBut w w' g none := by
 have HI0 := zm hI; have HK := zm (KeepBut.refl w g none); have HL := zm hB.size; clear hI; have HW0 := zm hB.size; have HB := zm hB; clear hB; have H : (if s0_1 < (s0_0.length : Int) then (if 0 ≤ s0_1 then (some (Go.bits .and .i64 (wrap64 ((Go.bits .and .i64 (Go.bits .xor .i64 ((wrap64 ((wrap64 (s0_2 * 6364136223846793005)) + 1442695040888963407)) / 8589934592) ((wrap64 ((wrap64 (s0_2 * 6364136223846793005)) + 1442695040888963407)) / 35184372088832)) 255) + (wrap64 (rd s0_0 s0_1)))) 255, wrap64 (s0_1 + 1), wrap64 ((wrap64 (s0_2 * 6364136223846793005)) + 1442695040888963407))) else (none)) else (some (Go.bits .and .i64 (Go.bits .xor .i64 ((wrap64 ((wrap64 (s0_2 * 6364136223846793005)) + 1442695040888963407)) / 8589934592) ((wrap64 ((wrap64 (s0_2 * 6364136223846793005)) + 1442695040888963407)) / 35184372088832)) 255, s0_1, wrap64 ((wrap64 (s0_2 * 6364136223846793005)) + 1442695040888963407)))) = some (r1, r2, r3) := h; clear h
 by_cases c2 : s0_1 < (s0_0.length : Int)
 ·rw [if_pos c2] at H; have AA : decide (s0_1 < (s0_0.length : Int)) = true := decide_eq_true c2; clear c2
  by_cases c3 : 0 ≤ s0_1
  ·rw [if_pos c3] at H; have AL : decide (0 ≤ s0_1) = true := decide_eq_true c3; clear c3; simp only [Option.some.injEq, Prod.mk.injEq] at H; obtain ⟨rfl, rfl, rfl⟩ := H; obtain ⟨ASz4_0, cSz4_0, HGz4, hgz4, HSz4_0⟩ := HI0.out; have AB := cellS97_0 HGz4; have AC := cellS97_1 HGz4; have AD := cellS97_2 HGz4; have AH := blk_frozen HGz4 1; have AI := blk_frozen HGz4 2; clear HGz4 hgz4; have p174 : 0 ≤ (s0_1 : Int) := zd; have q174 : s0_1 < (s0_0.length : Int) := zd; obtain ⟨ad174, e174, hx174_0⟩ := Kd.at_int HSz4_0 s0_1 p174 q174; cases e174; have hn174_0 : ad174.block ≠ g := Nat.ne_of_lt (Nat.lt_of_lt_of_le (by have := World.block_lt_of_cell? _ _ hx174_0; first | rwa [add_block] at this | exact this) (IsS97.ge HI0.out)); replace hx174_0 := pw_cell_below HB.out hx174_0; replace hx174_0 := (cell_far (p := ⟨g, 2, none⟩) (by first | (rw [add_block]; exact hn174_0) | (show (Addr.add _ _).block ≠ _; rw [add_block]; exact hn174_0) | exact hn174_0) (.int .i64 (wrap64 ((wrap64 (s0_2 * 6364136223846793005)) + 1442695040888963407)))).trans hx174_0
   (try have hy174_0 := fun (n_ : Nat) => (show (((w.drewN n_).setCell ⟨g, 2, none⟩ (.int .i64 (wrap64 ((wrap64 (s0_2 * 6364136223846793005)) + 1442695040888963407))))).cell? _ = some _ from hx174_0))
   clear hn174_0; replace p174 := eq_true p174; replace q174 := eq_true q174; go_enter Try.func108, Try.ntmps108
   go_wp2
   repeat (go_quiet (fail); try go_wp2)
   go_ret
   exact ⟨zE, zI, zH, zK⟩
  ·rw [if_neg c3] at H
   exact absurd H (by simp)
 ·rw [if_neg c2] at H; have AA : decide (s0_1 < (s0_0.length : Int)) = false := decide_eq_false c2; clear c2; simp only [Option.some.injEq, Prod.mk.injEq] at H; obtain ⟨rfl, rfl, rfl⟩ := H; obtain ⟨ASz5_0, cSz5_0, HGz5, hgz5, HSz5_0⟩ := HI0.out; have AE := cellS97_0 HGz5; have AF := cellS97_1 HGz5; have AG := cellS97_2 HGz5; have AJ := blk_frozen HGz5 1; have AK := blk_frozen HGz5 2; clear HGz5 hgz5; go_enter Try.func108, Try.ntmps108
  go_wp2
  repeat (go_quiet (fail); try go_wp2)
  go_ret
  exact ⟨zE, zI, zH, zK⟩

/-! ### spec_l1Below: function 77 -/
def spec_l1Below.f (s0_0 : List Int) (s0_1 : Int) (s0_2 : Int) (a1 : Int) : Option (Int × Int × Int) := if a1 ≤ 0 then (some (0, s0_1, s0_2)) else (if a1 ≤ 256 then ((spec_l1Byte.f s0_0 s0_1 s0_2).bind fun bt175 => (if a1 = 0 then (none) else (some (Int.tmod bt175.1 a1, bt175.2.1, bt175.2.2)))) else ((spec_l1Byte.f s0_0 s0_1 s0_2).bind fun bt178 => ((spec_l1Byte.f s0_0 bt178.2.1 bt178.2.2).bind fun bt181 => ((spec_l1Byte.f s0_0 bt181.2.1 bt181.2.2).bind fun bt184 => ((spec_l1Byte.f s0_0 bt184.2.1 bt184.2.2).bind fun bt187 => (if a1 = 0 then (none) else (some (Int.tmod (wrap64 ((wrap64 ((wrap64 ((wrap64 (bt178.1 * 16777216)) + (wrap64 (bt181.1 * 65536)))) + (wrap64 (bt184.1 * 256)))) + bt187.1)) a1, bt187.2.1, bt187.2.2))))))))
set_option maxHeartbeats 8000000 in
set_option maxRecDepth 100000 in
theorem spec_l1Below.calls (g : Nat) (s0_0 : List Int) (s0_1 : Int) (s0_2 : Int) (a1 : Int) (r1 : Int) (r2 : Int) (r3 : Int) (w0 w : World) (hI : IsS97 w0 w g s0_0 s0_1 s0_2) (hB : Below w0.heap.size w0 w) (h : spec_l1Below.f s0_0 s0_1 s0_2 a1 = some (r1, r2, r3)) :
  Calls Try.prog 77 #[.pointer (some ⟨g, 0, none⟩), .int .i64 a1] w fun e w' => e = .returned (.int .i64 r1) ∧ IsS97 w0 w' g s0_0 r2 r3 ∧ Below w0.heap.size w0 w' ∧ KeepBut w w' g none := by
 have HI0 := zm hI; have HK := zm (KeepBut.refl w g none); have HL := zm hB.size; clear hI; have HW0 := zm hB.size; have HB := zm hB; clear hB; have H : (if a1 ≤ 0 then (some (0, s0_1, s0_2)) else (if a1 ≤ 256 then ((spec_l1Byte.f s0_0 s0_1 s0_2).bind fun AA => (if a1 = 0 then (none) else (some (Int.tmod AA.1 a1, AA.2.1, AA.2.2)))) else ((spec_l1Byte.f s0_0 s0_1 s0_2).bind fun AB => ((spec_l1Byte.f s0_0 AB.2.1 AB.2.2).bind fun AC => ((spec_l1Byte.f s0_0 AC.2.1 AC.2.2).bind fun AD => ((spec_l1Byte.f s0_0 AD.2.1 AD.2.2).bind fun AE => (if a1 = 0 then (none) else (some (Int.tmod (wrap64 ((wrap64 ((wrap64 ((wrap64 (AB.1 * 16777216)) + (wrap64 (AC.1 * 65536)))) + (wrap64 (AD.1 * 256)))) + AE.1)) a1, AE.2.1, AE.2.2))))))))) = some (r1, r2, r3) := h; clear h
 by_cases c3 : a1 ≤ 0
 ·rw [if_pos c3] at H; have AR : decide (a1 ≤ 0) = true := decide_eq_true c3; clear c3; simp only [Option.some.injEq, Prod.mk.injEq] at H; obtain ⟨rfl, rfl, rfl⟩ := H; go_enter Try.func77, Try.ntmps77
  go_wp2
  go_ret
  exact ⟨zE, zI, zH, zK⟩
 ·rw [if_neg c3] at H; have AR : decide (a1 ≤ 0) = false := decide_eq_false c3; clear c3
  by_cases c4 : a1 ≤ 256
  ·rw [if_pos c4] at H; have AS : decide (a1 ≤ 256) = true := decide_eq_true c4; clear c4; replace H := Option.bind_eq_some_iff.mp H; obtain ⟨⟨AT, AU, AV⟩, AO, H⟩ := H; (try dsimp only at H); have A5 := zm AO; clear AO
   by_cases c6 : a1 = 0
   ·rw [if_pos c6] at H
    exact absurd H (by simp)
   ·rw [if_neg c6] at H; have Ag : (a1 == 0) = false := beq_eq_false_iff_ne.mpr c6; have Ah : (a1 != 0) = true := bne_iff_ne.mpr c6; simp only [Option.some.injEq, Prod.mk.injEq] at H; obtain ⟨rfl, rfl, rfl⟩ := H; go_enter Try.func77, Try.ntmps77
    go_wp2_with (first | ((with_reducible refine gate_callee (f := 108) rfl ?_); refine zg (some 14) #[.pointer (some ⟨g, 0, none⟩)] Try.func108 ?_; (with_reducible refine (spec_l1Byte.calls g s0_0 s0_1 s0_2 AT AU AV w0 _ zI zH A5.out).mono ?_); rintro e w7 ⟨rfl, hi, hb, hk⟩; refine ⟨_, rfl, ?_⟩; replace HK := zkt hk; replace HB := zm hb; replace HI0 := zm hi; clear hb hk hi))
    go_ret
    exact ⟨zE, zI, zH, zK⟩
  ·rw [if_neg c4] at H; have AS : decide (a1 ≤ 256) = false := decide_eq_false c4; clear c4; replace H := Option.bind_eq_some_iff.mp H; obtain ⟨⟨AW, AI, AJ⟩, AP, H⟩ := H; (try dsimp only at H); have A8 := zm AP; clear AP; replace H := Option.bind_eq_some_iff.mp H; obtain ⟨⟨AX, AK, AL⟩, AQ, H⟩ := H; (try dsimp only at H); have A9 := zm AQ; clear AQ; replace H := Option.bind_eq_some_iff.mp H; obtain ⟨⟨AY, AM, AN⟩, AG, H⟩ := H; (try dsimp only at H); have Ac := zm AG; clear AG; replace H := Option.bind_eq_some_iff.mp H; obtain ⟨⟨AZ, Aa, Ab⟩, AH, H⟩ := H; (try dsimp only at H); have Ad := zm AH; clear AH
   by_cases AF : a1 = 0
   ·rw [if_pos AF] at H
    exact absurd H (by simp)
   ·rw [if_neg AF] at H; have Ae : (a1 == 0) = false := beq_eq_false_iff_ne.mpr AF; have Af : (a1 != 0) = true := bne_iff_ne.mpr AF; simp only [Option.some.injEq, Prod.mk.injEq] at H; obtain ⟨rfl, rfl, rfl⟩ := H; go_enter Try.func77, Try.ntmps77
    go_wp2_with (first | ((with_reducible refine gate_callee (f := 108) rfl ?_); refine zg (some 18) #[.pointer (some ⟨g, 0, none⟩)] Try.func108 ?_; (with_reducible refine (spec_l1Byte.calls g s0_0 s0_1 s0_2 AW AI AJ w0 _ zI zH A8.out).mono ?_); rintro e Ai ⟨rfl, hi, hb, hk⟩; refine ⟨_, rfl, ?_⟩; replace HK := zkt hk; replace HB := zm hb; replace HI0 := zm hi; clear hb hk hi) | ((with_reducible refine gate_callee (f := 108) rfl ?_); refine zg (some 20) #[.pointer (some ⟨g, 0, none⟩)] Try.func108 ?_; (with_reducible refine (spec_l1Byte.calls g s0_0 AI AJ AX AK AL w0 _ zI zH A9.out).mono ?_); rintro e Aj ⟨rfl, hi, hb, hk⟩; refine ⟨_, rfl, ?_⟩; replace HK := zkt hk; replace HB := zm hb; replace HI0 := zm hi; clear hb hk hi) | ((with_reducible refine gate_callee (f := 108) rfl ?_); refine zg (some 22) #[.pointer (some ⟨g, 0, none⟩)] Try.func108 ?_; (with_reducible refine (spec_l1Byte.calls g s0_0 AK AL AY AM AN w0 _ zI zH Ac.out).mono ?_); rintro e Ak ⟨rfl, hi, hb, hk⟩; refine ⟨_, rfl, ?_⟩; replace HK := zkt hk; replace HB := zm hb; replace HI0 := zm hi; clear hb hk hi) | ((with_reducible refine gate_callee (f := 108) rfl ?_); refine zg (some 24) #[.pointer (some ⟨g, 0, none⟩)] Try.func108 ?_; (with_reducible refine (spec_l1Byte.calls g s0_0 AM AN AZ Aa Ab w0 _ zI zH Ad.out).mono ?_); rintro e Al ⟨rfl, hi, hb, hk⟩; refine ⟨_, rfl, ?_⟩; replace HK := zkt hk; replace HB := zm hb; replace HI0 := zm hi; clear hb hk hi))
    go_ret
    exact ⟨zE, zI, zH, zK⟩

end Go.Proofs.Ytnmofppbijmhoaa.P
