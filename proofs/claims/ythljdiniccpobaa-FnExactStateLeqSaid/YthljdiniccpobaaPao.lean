-- by a program of this session, for this seat
import Derived.Test.YthljdiniccpobaaZ
import Derived.Test.YthljdiniccpobaaP0
import Derived.Test.YthljdiniccpobaaPae
import Derived.Test.YthljdiniccpobaaPag
import Derived.Test.YthljdiniccpobaaPan
namespace Go.Proofs.Ythljdiniccpobaa.P
open Go.RowKit Go.Proofs.YthljdiniccpobaaW.PrintWords Go.Proofs.YthljdiniccpobaaW.PrintLast Go.Proofs.YthljdiniccpobaaW.PrintMore Go.Proofs.Ythljdiniccpobaa.Z
attribute [local go_sem] max2_int min2_int max_two min_two max_three min_three max_four min_four   -- for this text's walks alone
set_option linter.unusedVariables false
set_option linter.unusedSimpArgs false

/-! ### spec_StateLeq: function 59 -/
def spec_StateLeq.f (k : Nat) (l0_0 : List (S84)) (l0_1 : List (S89)) (l1_0 : List (S84)) (l1_1 : List (S89)) : Option (Bool) := (spec_StateOk.f k l0_0 l0_1).bind fun t732 => (if t732 = true then ((spec_StateOk.f k l1_0 l1_1).bind fun t733 => (if t733 = true then ((spec_l3Join.f k l0_0 l0_1 l1_0 l1_1).bind fun bt734 => ((spec_StateSame.f k bt734.1 bt734.2 l1_0 l1_1).bind fun t740 => (some t740))) else (some false))) else (some false))
theorem spec_StateLeq.mono : ∀ a0 a1 a2 a3 k, LeO (spec_StateLeq.f k a0 a1 a2 a3) (spec_StateLeq.f (k + 1) a0 a1 a2 a3) := by
 intro a0 a1 a2 a3 k
 unfold spec_StateLeq.f
 repeat' first
   | (with_reducible exact spec_StateOk.mono _ _ _)
   | (with_reducible exact spec_StateSame.mono _ _ _ _ _)
   | (with_reducible exact spec_l3Join.mono _ _ _ _ _)
   | (with_reducible exact LeO.refl _)
   | (with_reducible exact LeO.none _)
   | (with_reducible refine LeO.ite ?_ ?_)
   | (with_reducible refine LeO.bind ?_ (fun _ => ?_))
   | exact spec_StateOk.mono _ _ _
   | exact spec_StateSame.mono _ _ _ _ _
   | exact spec_l3Join.mono _ _ _ _ _
   | exact LeO.none _
   | refine LeO.ite ?_ ?_
   | refine LeO.bind ?_ (fun _ => ?_)
def spec_StateLeq.T1 : Bool × List (List Nat × List Nat) := (true, [([], []), ([0], [0]), ([1, 1], [1]), ([2], [2]), ([3, 2, 2], [2, 3]), ([2, 4], [2, 4]), ([5, 4], [5]), ([6], [6]), ([6], [6]), ([7, 8, 6, 6], [6, 7, 8]), ([6], [6]), ([9, 10, 9, 6], [6, 9, 10]), ([6, 11], [6, 11]), ([12, 11, 0, 1, 2, 3, 4, 5, 6, 7, 8, 9, 10, 11, 12], [12])])
def spec_StateLeq.B1 : List Nat := [0, 1, 3, 7, 15, 31, 63, 127, 127, 511, 127, 2047, 4095, 8191]
theorem spec_StateLeq.tab1 : rtab .any (opsOf Try.f59 1) = spec_StateLeq.T1 := by kernel_rfl
theorem spec_StateLeq.bits1 : waitsOk spec_StateLeq.T1.2 spec_StateLeq.B1 = true := by kernel_rfl
set_option maxHeartbeats 8000000 in
set_option maxRecDepth 100000 in
theorem spec_StateLeq.calls (k : Nat) (A0_0 : Option Addr) (c0_0 : Nat) (l0_0 : List (S84)) (A0_1 : Option Addr) (c0_1 : Nat) (l0_1 : List (S89)) (A1_0 : Option Addr) (c1_0 : Nat) (l1_0 : List (S84)) (A1_1 : Option Addr) (c1_1 : Nat) (l1_1 : List (S89)) (r : Bool) (w : World) (hr0_0 : Kd.C k84 w A0_0 l0_0.length l0_0) (hc0_0 : l0_0.length ≤ c0_0) (hr0_1 : Kd.C k89 w A0_1 l0_1.length l0_1) (hc0_1 : l0_1.length ≤ c0_1) (hr1_0 : Kd.C k84 w A1_0 l1_0.length l1_0) (hc1_0 : l1_0.length ≤ c1_0) (hr1_1 : Kd.C k89 w A1_1 l1_1.length l1_1) (hc1_1 : l1_1.length ≤ c1_1) (h : spec_StateLeq.f k l0_0 l0_1 l1_0 l1_1 = some r) :
  Calls Try.prog 59 #[.agg #[.slice A0_0 l0_0.length c0_0, .slice A0_1 l0_1.length c0_1], .agg #[.slice A1_0 l1_0.length c1_0, .slice A1_1 l1_1.length c1_1]] w fun e w' => e = .returned (.bool r) ∧ Below w.heap.size w w' := by
 have hu55 := Try.underlying55
 have HR0_0 := zm hr0_0
 have HC0_0 := zm hc0_0
 clear hr0_0 hc0_0
 have HR0_1 := zm hr0_1
 have HC0_1 := zm hc0_1
 clear hr0_1 hc0_1
 have HR1_0 := zm hr1_0
 have HC1_0 := zm hc1_0
 clear hr1_0 hc1_0
 have HR1_1 := zm hr1_1
 have HC1_1 := zm hc1_1
 clear hr1_1 hc1_1
 have HB := zm (Below.refl w.heap.size w)
 have H : ((spec_StateOk.f k l0_0 l0_1).bind fun t732 => (if t732 = true then ((spec_StateOk.f k l1_0 l1_1).bind fun t733 => (if t733 = true then ((spec_l3Join.f k l0_0 l0_1 l1_0 l1_1).bind fun bt734 => ((spec_StateSame.f k bt734.1 bt734.2 l1_0 l1_1).bind fun t740 => (some t740))) else (some false))) else (some false))) = some r := h
 clear h
 replace H := Option.bind_eq_some_iff.mp H
 obtain ⟨t732, A30, H⟩ := H
 replace H : (if t732 = true then ((spec_StateOk.f k l1_0 l1_1).bind fun t733 => (if t733 = true then ((spec_l3Join.f k l0_0 l0_1 l1_0 l1_1).bind fun bt734 => ((spec_StateSame.f k bt734.1 bt734.2 l1_0 l1_1).bind fun t740 => (some t740))) else (some false))) else (some false)) = some r := H
 have A3 := zm A30
 clear A30
 by_cases c4 : t732 = true
 ·subst c4
  have H1 : ((spec_StateOk.f k l1_0 l1_1).bind fun t733 => (if t733 = true then ((spec_l3Join.f k l0_0 l0_1 l1_0 l1_1).bind fun bt734 => ((spec_StateSame.f k bt734.1 bt734.2 l1_0 l1_1).bind fun t740 => (some t740))) else (some false))) = some r := by rw [if_pos rfl] at H; exact H
  clear H
  have H := H1
  clear H1
  replace H := Option.bind_eq_some_iff.mp H
  obtain ⟨t733, A50, H⟩ := H
  replace H : (if t733 = true then ((spec_l3Join.f k l0_0 l0_1 l1_0 l1_1).bind fun bt734 => ((spec_StateSame.f k bt734.1 bt734.2 l1_0 l1_1).bind fun t740 => (some t740))) else (some false)) = some r := H
  have A5 := zm A50
  clear A50
  by_cases c6 : t733 = true
  ·subst c6
   have H1 : ((spec_l3Join.f k l0_0 l0_1 l1_0 l1_1).bind fun bt734 => ((spec_StateSame.f k bt734.1 bt734.2 l1_0 l1_1).bind fun t740 => (some t740))) = some r := by rw [if_pos rfl] at H; exact H
   clear H
   have H := H1
   clear H1
   replace H := Option.bind_eq_some_iff.mp H
   obtain ⟨⟨t734, t737⟩, A70, H⟩ := H
   replace H : ((spec_StateSame.f k t734 t737 l1_0 l1_1).bind fun t740 => (some t740)) = some r := H
   have A7 := zm A70
   clear A70
   replace H := Option.bind_eq_some_iff.mp H
   obtain ⟨t740, A80, H⟩ := H
   replace H : (some t740) = some r := H
   have A8 := zm A80
   clear A80
   obtain rfl := Option.some.inj H
   go_enter Try.func59, Try.ntmps59
   try go_wp2_with (first | ((with_reducible refine gate_dst (N := 2) rfl ?_); refine zbox 2 #[.slice A0_0 l0_0.length c0_0, .slice A0_1 l0_1.length c0_1] 55 ?_; intro gb730 hg w9 hbox hb; have BK730 := zm (hbox); have GW730 := zge w hg zB; have GE730 := zge w hg zB; replace HB := zm (below_step zB hb); clear hb hbox hg) | ((with_reducible refine gate_dst (N := 3) rfl ?_); refine zbox 3 #[.slice A1_0 l1_0.length c1_0, .slice A1_1 l1_1.length c1_1] 55 ?_; intro gb731 hg w10 hbox hb; have BK731 := zm (hbox); have GW731 := zge w hg zB; have GE731 := zge w hg zB; replace HB := zm (below_step zB hb); have NB730_731 := zlt hg (zb BK730); have NB731_730 := zgt hg (zb BK730); replace BK730 := zm (blk_below (zb BK730) hb); clear hb hbox hg))
   replace BK730 := zm (blk_drew BK730.out)
   replace BK731 := zm (blk_drew BK731.out)
   replace HB := zm (below_drew1 HB.out)
   refine start_ (n := 14) (S := fun w' => w'.cell? ⟨gb730, 0, none⟩ = some (.slice A0_0 l0_0.length c0_0) ∧ w'.cell? ⟨gb730, 1, none⟩ = some (.slice A0_1 l0_1.length c0_1) ∧ w'.cell? ⟨gb731, 0, none⟩ = some (.slice A1_0 l1_0.length c1_0) ∧ w'.cell? ⟨gb731, 1, none⟩ = some (.slice A1_1 l1_1.length c1_1)) (ds := []) (zl 14 0) (by kernel_rfl) rfl rfl ⟨(blk_cell BK730.out 0).trans rfl, (blk_cell BK730.out 1).trans rfl, (blk_cell BK731.out 0).trans rfl, (blk_cell BK731.out 1).trans rfl⟩ (fun hHeld => ?_); refine with_tabW spec_StateLeq.tab1 spec_StateLeq.bits1 (fun HT_ HW_ => ?_)
   generalize w10.drew = w11 at BK730 BK731 HB hHeld ⊢
   refine zt 0 (some 5) (zl 14 1) ?_
   refine zo 1 (some 6) (zl 14 3) (fun K hK => ?_)
   refine zgo #[.agg #[.slice A0_0 l0_0.length c0_0, .slice A0_1 l0_1.length c0_1]] Try.func44 ?_
   with_reducible refine (spec_StateOk.calls k _ _ l0_0 _ _ l0_1 true _ (zk (Kd.C_below HR0_0.out HB.out)) HC0_0.out (zk (Kd.C_below HR0_1.out HB.out)) HC0_1.out A3.out).mono ?_
   rintro e w12 ⟨rfl, hb⟩
   refine ⟨_, rfl, ?_⟩
   replace BK730 := zm (blk_below (zb BK730) hb)
   replace BK731 := zm (blk_below (zb BK731) hb)
   replace HB := zm (below_step zB hb)
   (try clear hb)
   (try clear hb2)
   (try clear hk)
   (try clear hi)
   refine hK.out _ _ ⟨(blk_cell BK730.out 0).trans rfl, (blk_cell BK730.out 1).trans rfl, (blk_cell BK731.out 0).trans rfl, (blk_cell BK731.out 1).trans rfl⟩ (fun hHeld => ?_)
   clear hK K
   refine zn ?_
   refine zp 2 (some 7) (zl 14 7) ?_
   refine zt 3 (some 8) (zl 14 15) ?_
   refine zo 4 (some 9) (zl 14 31) (fun K hK => ?_)
   refine zgo #[.agg #[.slice A1_0 l1_0.length c1_0, .slice A1_1 l1_1.length c1_1]] Try.func44 ?_
   with_reducible refine (spec_StateOk.calls k _ _ l1_0 _ _ l1_1 true _ (zk (Kd.C_below HR1_0.out HB.out)) HC1_0.out (zk (Kd.C_below HR1_1.out HB.out)) HC1_1.out A5.out).mono ?_
   rintro e w13 ⟨rfl, hb⟩
   refine ⟨_, rfl, ?_⟩
   replace BK730 := zm (blk_below (zb BK730) hb)
   replace BK731 := zm (blk_below (zb BK731) hb)
   replace HB := zm (below_step zB hb)
   (try clear hb)
   (try clear hb2)
   (try clear hk)
   (try clear hi)
   refine hK.out _ _ ⟨(blk_cell BK730.out 0).trans rfl, (blk_cell BK730.out 1).trans rfl, (blk_cell BK731.out 0).trans rfl, (blk_cell BK731.out 1).trans rfl⟩ (fun hHeld => ?_)
   clear hK K
   refine zn ?_
   refine zp 5 (some 10) (zl 14 63) ?_
   refine zp 6 (some 11) (zl 14 127) ?_
   refine zt 7 (some 12) (zl 14 255) ?_
   refine zt 8 (some 13) (zl 14 511) ?_
   refine zt 10 (some 15) (zl 14 1535) ?_
   refine zo 9 (some 14) (zl 14 2047) (fun K hK => ?_)
   refine zgo #[.agg #[.slice A0_0 l0_0.length c0_0, .slice A0_1 l0_1.length c0_1], .agg #[.slice A1_0 l1_0.length c1_0, .slice A1_1 l1_1.length c1_1]] Try.func88 ?_
   with_reducible refine (spec_l3Join.calls k _ _ l0_0 _ _ l0_1 _ _ l1_0 _ _ l1_1 t734 t737 _ (zk (Kd.C_below HR0_0.out HB.out)) HC0_0.out (zk (Kd.C_below HR0_1.out HB.out)) HC0_1.out (zk (Kd.C_below HR1_0.out HB.out)) HC1_0.out (zk (Kd.C_below HR1_1.out HB.out)) HC1_1.out A7.out).mono ?_
   rintro e w14 ⟨v735, v738, rfl, ho0, ho1, hb⟩
   refine ⟨_, rfl, ?_⟩
   have HO736 := zm (Kd.R_lower ho0 (below_size zB))
   have HO739 := zm (Kd.R_lower ho1 (below_size zB))
   replace BK730 := zm (blk_below (zb BK730) hb)
   replace BK731 := zm (blk_below (zb BK731) hb)
   replace HB := zm (below_step zB hb)
   (try clear hb)
   (try clear hb2)
   (try clear hk)
   (try clear hi)
   (try clear ho0)
   (try clear ho1)
   obtain ⟨Ao15, co15, eo15⟩ := Kd.R_slice HO736.out
   (first | subst eo15 | (injection eo15 with f1_ f2_ f3_; have f4_ := f1_.symm; have f5_ := f3_.symm; clear f1_ f2_ f3_; subst f4_; subst f5_))
   obtain ⟨Ao16, co16, eo16⟩ := Kd.R_slice HO739.out
   (first | subst eo16 | (injection eo16 with f1_ f2_ f3_; have f4_ := f1_.symm; have f5_ := f3_.symm; clear f1_ f2_ f3_; subst f4_; subst f5_))
   refine hK.out _ _ ⟨(blk_cell BK730.out 0).trans rfl, (blk_cell BK730.out 1).trans rfl, (blk_cell BK731.out 0).trans rfl, (blk_cell BK731.out 1).trans rfl⟩ (fun hHeld => ?_)
   clear hK K
   refine zn ?_
   refine zo 11 (some 16) (zl 14 4095) (fun K hK => ?_)
   refine zgo #[.agg #[.slice Ao15 t734.length co15, .slice Ao16 t737.length co16], .agg #[.slice A1_0 l1_0.length c1_0, .slice A1_1 l1_1.length c1_1]] Try.func42 ?_
   with_reducible refine (spec_StateSame.calls k _ _ t734 _ _ t737 _ _ l1_0 _ _ l1_1 t740 _ ?side1 ?side2 ?side3 ?side4 (zk (Kd.C_below HR1_0.out HB.out)) HC1_0.out (zk (Kd.C_below HR1_1.out HB.out)) HC1_1.out A8.out).mono ?_
   (case side1 => repeat (first | exact (Kd.R_reads' HO736.out).2.2 | (with_reducible refine Kd.C_alloc ?_ _) | (with_reducible refine Kd.C_drewN ?_ _) | (with_reducible refine Kd.C_drew ?_)))
   (case side2 => exact (Kd.R_reads' HO736.out).2.1)
   (case side3 => repeat (first | exact (Kd.R_reads' HO739.out).2.2 | (with_reducible refine Kd.C_alloc ?_ _) | (with_reducible refine Kd.C_drewN ?_ _) | (with_reducible refine Kd.C_drew ?_)))
   (case side4 => exact (Kd.R_reads' HO739.out).2.1)
   rintro e w17 ⟨rfl, hb⟩
   refine ⟨_, rfl, ?_⟩
   replace HO736 := zm (Kd.R_below (zr HO736) hb)
   replace HO739 := zm (Kd.R_below (zr HO739) hb)
   replace BK730 := zm (blk_below (zb BK730) hb)
   replace BK731 := zm (blk_below (zb BK731) hb)
   replace HB := zm (below_step zB hb)
   (try clear hb)
   (try clear hb2)
   (try clear hk)
   (try clear hi)
   refine hK.out _ _ ⟨(blk_cell BK730.out 0).trans rfl, (blk_cell BK730.out 1).trans rfl, (blk_cell BK731.out 0).trans rfl, (blk_cell BK731.out 1).trans rfl⟩ (fun hHeld => ?_)
   clear hK K
   refine zn ?_
   refine zp 12 (some 17) (zl 14 8191) ?_
   refine zp 13 (some 4) (zl 14 16383) ?_
   refine done_ (done_of HT_.out (by kernel_rfl)) ?_
   try go_wp2
   go_ret
   exact ⟨zE, zB⟩
  ·replace c6 := Bool.eq_false_iff.mpr c6
   subst c6
   have H1 : (some false) = some r := by rw [if_neg (show ¬ (false = true) by decide)] at H; exact H
   clear H
   have H := H1
   clear H1
   obtain rfl := Option.some.inj H
   go_enter Try.func59, Try.ntmps59
   try go_wp2_with (first | ((with_reducible refine gate_dst (N := 2) rfl ?_); refine zbox 2 #[.slice A0_0 l0_0.length c0_0, .slice A0_1 l0_1.length c0_1] 55 ?_; intro gb730 hg w18 hbox hb; have BK730 := zm (hbox); have GW730 := zge w hg zB; have GE730 := zge w hg zB; replace HB := zm (below_step zB hb); clear hb hbox hg) | ((with_reducible refine gate_dst (N := 3) rfl ?_); refine zbox 3 #[.slice A1_0 l1_0.length c1_0, .slice A1_1 l1_1.length c1_1] 55 ?_; intro gb731 hg w19 hbox hb; have BK731 := zm (hbox); have GW731 := zge w hg zB; have GE731 := zge w hg zB; replace HB := zm (below_step zB hb); have NB730_731 := zlt hg (zb BK730); have NB731_730 := zgt hg (zb BK730); replace BK730 := zm (blk_below (zb BK730) hb); clear hb hbox hg))
   replace BK730 := zm (blk_drew BK730.out)
   replace BK731 := zm (blk_drew BK731.out)
   replace HB := zm (below_drew1 HB.out)
   refine start_ (n := 14) (S := fun w' => w'.cell? ⟨gb730, 0, none⟩ = some (.slice A0_0 l0_0.length c0_0) ∧ w'.cell? ⟨gb730, 1, none⟩ = some (.slice A0_1 l0_1.length c0_1) ∧ w'.cell? ⟨gb731, 0, none⟩ = some (.slice A1_0 l1_0.length c1_0) ∧ w'.cell? ⟨gb731, 1, none⟩ = some (.slice A1_1 l1_1.length c1_1)) (ds := []) (zl 14 0) (by kernel_rfl) rfl rfl ⟨(blk_cell BK730.out 0).trans rfl, (blk_cell BK730.out 1).trans rfl, (blk_cell BK731.out 0).trans rfl, (blk_cell BK731.out 1).trans rfl⟩ (fun hHeld => ?_); refine with_tabW spec_StateLeq.tab1 spec_StateLeq.bits1 (fun HT_ HW_ => ?_)
   generalize w19.drew = w20 at BK730 BK731 HB hHeld ⊢
   refine zt 0 (some 5) (zl 14 1) ?_
   refine zo 1 (some 6) (zl 14 3) (fun K hK => ?_)
   refine zgo #[.agg #[.slice A0_0 l0_0.length c0_0, .slice A0_1 l0_1.length c0_1]] Try.func44 ?_
   with_reducible refine (spec_StateOk.calls k _ _ l0_0 _ _ l0_1 true _ (zk (Kd.C_below HR0_0.out HB.out)) HC0_0.out (zk (Kd.C_below HR0_1.out HB.out)) HC0_1.out A3.out).mono ?_
   rintro e w21 ⟨rfl, hb⟩
   refine ⟨_, rfl, ?_⟩
   replace BK730 := zm (blk_below (zb BK730) hb)
   replace BK731 := zm (blk_below (zb BK731) hb)
   replace HB := zm (below_step zB hb)
   (try clear hb)
   (try clear hb2)
   (try clear hk)
   (try clear hi)
   refine hK.out _ _ ⟨(blk_cell BK730.out 0).trans rfl, (blk_cell BK730.out 1).trans rfl, (blk_cell BK731.out 0).trans rfl, (blk_cell BK731.out 1).trans rfl⟩ (fun hHeld => ?_)
   clear hK K
   refine zn ?_
   refine zp 2 (some 7) (zl 14 7) ?_
   refine zt 3 (some 8) (zl 14 15) ?_
   refine zo 4 (some 9) (zl 14 31) (fun K hK => ?_)
   refine zgo #[.agg #[.slice A1_0 l1_0.length c1_0, .slice A1_1 l1_1.length c1_1]] Try.func44 ?_
   with_reducible refine (spec_StateOk.calls k _ _ l1_0 _ _ l1_1 false _ (zk (Kd.C_below HR1_0.out HB.out)) HC1_0.out (zk (Kd.C_below HR1_1.out HB.out)) HC1_1.out A5.out).mono ?_
   rintro e w22 ⟨rfl, hb⟩
   refine ⟨_, rfl, ?_⟩
   replace BK730 := zm (blk_below (zb BK730) hb)
   replace BK731 := zm (blk_below (zb BK731) hb)
   replace HB := zm (below_step zB hb)
   (try clear hb)
   (try clear hb2)
   (try clear hk)
   (try clear hi)
   refine hK.out _ _ ⟨(blk_cell BK730.out 0).trans rfl, (blk_cell BK730.out 1).trans rfl, (blk_cell BK731.out 0).trans rfl, (blk_cell BK731.out 1).trans rfl⟩ (fun hHeld => ?_)
   clear hK K
   refine zn ?_
   refine zp 5 (some 10) (zl 14 63) ?_
   refine zp 6 (some 11) (zl 14 127) ?_
   refine zp 7 (some 12) (zl 14 255) ?_
   refine zp 8 (some 13) (zl 14 511) ?_
   refine zp 9 (some 14) (zl 14 1023) ?_
   refine zp 10 (some 15) (zl 14 2047) ?_
   refine zp 11 (some 16) (zl 14 4095) ?_
   refine zp 12 (some 17) (zl 14 8191) ?_
   refine zp 13 (some 4) (zl 14 16383) ?_
   refine done_ (done_of HT_.out (by kernel_rfl)) ?_
   try go_wp2
   go_ret
   exact ⟨zE, zB⟩
 ·replace c4 := Bool.eq_false_iff.mpr c4
  subst c4
  have H1 : (some false) = some r := by rw [if_neg (show ¬ (false = true) by decide)] at H; exact H
  clear H
  have H := H1
  clear H1
  obtain rfl := Option.some.inj H
  go_enter Try.func59, Try.ntmps59
  try go_wp2_with (first | ((with_reducible refine gate_dst (N := 2) rfl ?_); refine zbox 2 #[.slice A0_0 l0_0.length c0_0, .slice A0_1 l0_1.length c0_1] 55 ?_; intro gb730 hg w23 hbox hb; have BK730 := zm (hbox); have GW730 := zge w hg zB; have GE730 := zge w hg zB; replace HB := zm (below_step zB hb); clear hb hbox hg) | ((with_reducible refine gate_dst (N := 3) rfl ?_); refine zbox 3 #[.slice A1_0 l1_0.length c1_0, .slice A1_1 l1_1.length c1_1] 55 ?_; intro gb731 hg w24 hbox hb; have BK731 := zm (hbox); have GW731 := zge w hg zB; have GE731 := zge w hg zB; replace HB := zm (below_step zB hb); have NB730_731 := zlt hg (zb BK730); have NB731_730 := zgt hg (zb BK730); replace BK730 := zm (blk_below (zb BK730) hb); clear hb hbox hg))
  replace BK730 := zm (blk_drew BK730.out)
  replace BK731 := zm (blk_drew BK731.out)
  replace HB := zm (below_drew1 HB.out)
  refine start_ (n := 14) (S := fun w' => w'.cell? ⟨gb730, 0, none⟩ = some (.slice A0_0 l0_0.length c0_0) ∧ w'.cell? ⟨gb730, 1, none⟩ = some (.slice A0_1 l0_1.length c0_1)) (ds := []) (zl 14 0) (by kernel_rfl) rfl rfl ⟨(blk_cell BK730.out 0).trans rfl, (blk_cell BK730.out 1).trans rfl⟩ (fun hHeld => ?_); refine with_tabW spec_StateLeq.tab1 spec_StateLeq.bits1 (fun HT_ HW_ => ?_)
  generalize w24.drew = w25 at BK730 BK731 HB hHeld ⊢
  refine zt 0 (some 5) (zl 14 1) ?_
  refine zo 1 (some 6) (zl 14 3) (fun K hK => ?_)
  refine zgo #[.agg #[.slice A0_0 l0_0.length c0_0, .slice A0_1 l0_1.length c0_1]] Try.func44 ?_
  with_reducible refine (spec_StateOk.calls k _ _ l0_0 _ _ l0_1 false _ (zk (Kd.C_below HR0_0.out HB.out)) HC0_0.out (zk (Kd.C_below HR0_1.out HB.out)) HC0_1.out A3.out).mono ?_
  rintro e w26 ⟨rfl, hb⟩
  refine ⟨_, rfl, ?_⟩
  replace BK730 := zm (blk_below (zb BK730) hb)
  replace BK731 := zm (blk_below (zb BK731) hb)
  replace HB := zm (below_step zB hb)
  (try clear hb)
  (try clear hb2)
  (try clear hk)
  (try clear hi)
  refine hK.out _ _ ⟨(blk_cell BK730.out 0).trans rfl, (blk_cell BK730.out 1).trans rfl⟩ (fun hHeld => ?_)
  clear hK K
  refine zn ?_
  refine zp 2 (some 7) (zl 14 7) ?_
  refine zp 3 (some 8) (zl 14 15) ?_
  refine zp 4 (some 9) (zl 14 31) ?_
  refine zp 5 (some 10) (zl 14 63) ?_
  refine zp 6 (some 11) (zl 14 127) ?_
  refine zp 7 (some 12) (zl 14 255) ?_
  refine zp 8 (some 13) (zl 14 511) ?_
  refine zp 9 (some 14) (zl 14 1023) ?_
  refine zp 10 (some 15) (zl 14 2047) ?_
  refine zp 11 (some 16) (zl 14 4095) ?_
  refine zp 12 (some 17) (zl 14 8191) ?_
  refine zp 13 (some 4) (zl 14 16383) ?_
  refine done_ (done_of HT_.out (by kernel_rfl)) ?_
  try go_wp2
  go_ret
  exact ⟨zE, zB⟩

end Go.Proofs.Ythljdiniccpobaa.P
