-- by a program of this session, for this seat
import Derived.Test.YthljdiniccpobaaZ
import Derived.Test.YthljdiniccpobaaP0
import Derived.Test.YthljdiniccpobaaPab
import Derived.Test.YthljdiniccpobaaPac
import Derived.Test.YthljdiniccpobaaPad
import Derived.Test.YthljdiniccpobaaPam
namespace Go.Proofs.Ythljdiniccpobaa.P
open Go.RowKit Go.Proofs.YthljdiniccpobaaW.PrintWords Go.Proofs.YthljdiniccpobaaW.PrintLast Go.Proofs.YthljdiniccpobaaW.PrintMore Go.Proofs.Ythljdiniccpobaa.Z
attribute [local go_sem] max2_int min2_int max_two min_two max_three min_three max_four min_four   -- for this text's walks alone
set_option linter.unusedVariables false
set_option linter.unusedSimpArgs false

/-! ### laws_FnExactLookup: function 12 -/
def laws_FnExactLookup.j0 : Nat → Bool → List (S105) → List (S108) → List (S84) → List (S89) → Option (Bool)
 | 0, _, _, _, _, _ => none
 | k + 1, x39, x615000, x615001, x636000, x636001 => if x39 = true then (some false) else ((laws_toState.f k x615000 x615001).bind fun bt644 => ((laws_eqState.f k x636000 x636001 bt644.1 bt644.2).bind fun t650 => (if t650 = true then (some true) else (some false))))
def laws_FnExactLookup.f (k : Nat) (l0_0 : List (S105)) (l0_1 : List (S108)) (a1 : Int) : Option (Bool) := (laws_szState.f k l0_0 l0_1 1048576).bind fun t615 => (if t615 < 0 then (some true) else ((laws_toState.f k l0_0 l0_1).bind fun bt616 => ((spec_Lookup.f k bt616.1 bt616.2 a1).bind fun bt622 => ((laws_toState.f k l0_0 l0_1).bind fun bt629 => ((impl_Lookup.f k bt629.1 bt629.2 a1).bind fun bt636 => ((laws_eqEntry.f bt636.1 bt636.2.1 bt636.2.2.1 bt636.2.2.2.1 bt636.2.2.2.2.1 bt622.1 bt622.2.1 bt622.2.2.1 bt622.2.2.2.1 bt622.2.2.2.2.1).bind fun t643 => (if t643 = true then (laws_FnExactLookup.j0 k (bt636.2.2.2.2.2 != bt622.2.2.2.2.2) l0_0 l0_1 bt629.1 bt629.2) else (laws_FnExactLookup.j0 k true l0_0 l0_1 bt629.1 bt629.2))))))))
theorem laws_FnExactLookup.mono_l : ∀ k, (∀ y0 y1 y2 y3 y4, LeO (laws_FnExactLookup.j0 k y0 y1 y2 y3 y4) (laws_FnExactLookup.j0 (k + 1) y0 y1 y2 y3 y4))
 | 0 => fun _ _ _ _ _ r h => by simp [laws_FnExactLookup.j0] at h
 | k + 1 => by
  have ih0 := laws_FnExactLookup.mono_l k
  ·intro y0 y1 y2 y3 y4
   unfold laws_FnExactLookup.j0
   repeat' first
   | (with_reducible exact ih0 _ _ _ _ _)
   | (with_reducible exact impl_Lookup.mono _ _ _ _)
   | (with_reducible exact laws_eqState.mono _ _ _ _ _)
   | (with_reducible exact laws_szState.mono _ _ _ _)
   | (with_reducible exact laws_toState.mono _ _ _)
   | (with_reducible exact spec_Lookup.mono _ _ _ _)
   | (with_reducible exact LeO.refl _)
   | (with_reducible exact LeO.none _)
   | (with_reducible refine LeO.ite ?_ ?_)
   | (with_reducible refine LeO.bind ?_ (fun _ => ?_))
   | exact ih0 _ _ _ _ _
   | exact impl_Lookup.mono _ _ _ _
   | exact laws_eqState.mono _ _ _ _ _
   | exact laws_szState.mono _ _ _ _
   | exact laws_toState.mono _ _ _
   | exact spec_Lookup.mono _ _ _ _
   | exact LeO.none _
   | refine LeO.ite ?_ ?_
   | refine LeO.bind ?_ (fun _ => ?_)
theorem laws_FnExactLookup.mono : ∀ a0 a1 a2 k, LeO (laws_FnExactLookup.f k a0 a1 a2) (laws_FnExactLookup.f (k + 1) a0 a1 a2) := by
 intro a0 a1 a2 k
 have ih0 := laws_FnExactLookup.mono_l k
 unfold laws_FnExactLookup.f
 repeat' first
   | (with_reducible exact ih0 _ _ _ _ _)
   | (with_reducible exact impl_Lookup.mono _ _ _ _)
   | (with_reducible exact laws_eqState.mono _ _ _ _ _)
   | (with_reducible exact laws_szState.mono _ _ _ _)
   | (with_reducible exact laws_toState.mono _ _ _)
   | (with_reducible exact spec_Lookup.mono _ _ _ _)
   | (with_reducible exact LeO.refl _)
   | (with_reducible exact LeO.none _)
   | (with_reducible refine LeO.ite ?_ ?_)
   | (with_reducible refine LeO.bind ?_ (fun _ => ?_))
   | exact ih0 _ _ _ _ _
   | exact impl_Lookup.mono _ _ _ _
   | exact laws_eqState.mono _ _ _ _ _
   | exact laws_szState.mono _ _ _ _
   | exact laws_toState.mono _ _ _
   | exact spec_Lookup.mono _ _ _ _
   | exact LeO.none _
   | refine LeO.ite ?_ ?_
   | refine LeO.bind ?_ (fun _ => ?_)
set_option maxHeartbeats 8000000 in
set_option maxRecDepth 100000 in
theorem laws_FnExactLookup.calls (k : Nat) (A0_0 : Option Addr) (c0_0 : Nat) (l0_0 : List (S105)) (A0_1 : Option Addr) (c0_1 : Nat) (l0_1 : List (S108)) (a1 : Int) (r : Bool) (w : World) (hr0_0 : Kd.C k105 w A0_0 l0_0.length l0_0) (hc0_0 : l0_0.length ≤ c0_0) (hr0_1 : Kd.C k108 w A0_1 l0_1.length l0_1) (hc0_1 : l0_1.length ≤ c0_1) (h : laws_FnExactLookup.f k l0_0 l0_1 a1 = some r) :
  Calls Try.prog 12 #[.agg #[.slice A0_0 l0_0.length c0_0, .slice A0_1 l0_1.length c0_1], .int .i64 a1] w fun e w' => e = .returned (.bool r) ∧ Below w.heap.size w w' := by
 have hu48 := Try.underlying48
 have hu25 := Try.underlying25
 have hu55 := Try.underlying55
 have HR0_0 := zm hr0_0
 have HC0_0 := zm hc0_0
 clear hr0_0 hc0_0
 have HR0_1 := zm hr0_1
 have HC0_1 := zm hc0_1
 clear hr0_1 hc0_1
 have HB := zm (Below.refl w.heap.size w)
 have H : ((laws_szState.f k l0_0 l0_1 1048576).bind fun t615 => (if t615 < 0 then (some true) else ((laws_toState.f k l0_0 l0_1).bind fun bt616 => ((spec_Lookup.f k bt616.1 bt616.2 a1).bind fun bt622 => ((laws_toState.f k l0_0 l0_1).bind fun bt629 => ((impl_Lookup.f k bt629.1 bt629.2 a1).bind fun bt636 => ((laws_eqEntry.f bt636.1 bt636.2.1 bt636.2.2.1 bt636.2.2.2.1 bt636.2.2.2.2.1 bt622.1 bt622.2.1 bt622.2.2.1 bt622.2.2.2.1 bt622.2.2.2.2.1).bind fun t643 => (if t643 = true then (laws_FnExactLookup.j0 k (bt636.2.2.2.2.2 != bt622.2.2.2.2.2) l0_0 l0_1 bt629.1 bt629.2) else (laws_FnExactLookup.j0 k true l0_0 l0_1 bt629.1 bt629.2))))))))) = some r := h
 clear h
 replace H := Option.bind_eq_some_iff.mp H
 obtain ⟨t615, A30, H⟩ := H
 replace H : (if t615 < 0 then (some true) else ((laws_toState.f k l0_0 l0_1).bind fun bt616 => ((spec_Lookup.f k bt616.1 bt616.2 a1).bind fun bt622 => ((laws_toState.f k l0_0 l0_1).bind fun bt629 => ((impl_Lookup.f k bt629.1 bt629.2 a1).bind fun bt636 => ((laws_eqEntry.f bt636.1 bt636.2.1 bt636.2.2.1 bt636.2.2.2.1 bt636.2.2.2.2.1 bt622.1 bt622.2.1 bt622.2.2.1 bt622.2.2.2.1 bt622.2.2.2.2.1).bind fun t643 => (if t643 = true then (laws_FnExactLookup.j0 k (bt636.2.2.2.2.2 != bt622.2.2.2.2.2) l0_0 l0_1 bt629.1 bt629.2) else (laws_FnExactLookup.j0 k true l0_0 l0_1 bt629.1 bt629.2)))))))) = some r := H
 have A3 := zm A30
 clear A30
 by_cases c4 : t615 < 0
 ·rw [if_pos c4] at H
  have c4b0 : decide (t615 < 0) = true := decide_eq_true c4
  clear c4
  obtain rfl := Option.some.inj H
  go_enter Try.func12, Try.ntmps12
  go_wp2_with (first | ((with_reducible refine gate_dst (N := 2) rfl ?_); refine zbox 2 #[.slice A0_0 l0_0.length c0_0, .slice A0_1 l0_1.length c0_1] 48 ?_; intro gb614 hg w5 hbox hb; have BK614 := zm (hbox); have GW614 := zge w hg zB; have GE614 := zge w hg zB; replace HB := zm (below_step zB hb); clear hb hbox hg; have hcz6_0 : w5.cell? ⟨gb614, 0, none⟩ = some (.slice A0_0 l0_0.length c0_0) := (blk_cell BK614.out 0).trans rfl; have hcz6_1 : w5.cell? ⟨gb614, 1, none⟩ = some (.slice A0_1 l0_1.length c0_1) := (blk_cell BK614.out 1).trans rfl; have hfz6_0 := blk_frozen BK614.out 0; have hfz6_1 := blk_frozen BK614.out 1) | ((with_reducible refine gate_callee (f := 35) rfl ?_); refine zg (some 13) #[.agg #[.slice A0_0 l0_0.length c0_0, .slice A0_1 l0_1.length c0_1], .int .i64 1048576] Try.func35 ?_; (with_reducible refine (laws_szState.calls k _ _ l0_0 _ _ l0_1 1048576 t615 _ (zk (Kd.C_below HR0_0.out HB.out)) HC0_0.out (zk (Kd.C_below HR0_1.out HB.out)) HC0_1.out A3.out).mono ?_); rintro e w7 ⟨rfl, hb⟩; refine ⟨_, rfl, ?_⟩; replace BK614 := zm (blk_below (zb BK614) hb); replace HB := zm (below_step zB hb); clear hb))
  go_ret
  exact ⟨zE, zB⟩
 ·rw [if_neg c4] at H
  have c4b0 : decide (t615 < 0) = false := decide_eq_false c4
  clear c4
  replace H := Option.bind_eq_some_iff.mp H
  obtain ⟨⟨t616, t619⟩, A80, H⟩ := H
  replace H : ((spec_Lookup.f k t616 t619 a1).bind fun bt622 => ((laws_toState.f k l0_0 l0_1).bind fun bt629 => ((impl_Lookup.f k bt629.1 bt629.2 a1).bind fun bt636 => ((laws_eqEntry.f bt636.1 bt636.2.1 bt636.2.2.1 bt636.2.2.2.1 bt636.2.2.2.2.1 bt622.1 bt622.2.1 bt622.2.2.1 bt622.2.2.2.1 bt622.2.2.2.2.1).bind fun t643 => (if t643 = true then (laws_FnExactLookup.j0 k (bt636.2.2.2.2.2 != bt622.2.2.2.2.2) l0_0 l0_1 bt629.1 bt629.2) else (laws_FnExactLookup.j0 k true l0_0 l0_1 bt629.1 bt629.2)))))) = some r := H
  have A8 := zm A80
  clear A80
  replace H := Option.bind_eq_some_iff.mp H
  obtain ⟨⟨t622, t623, t624, t625, t626, t627⟩, A90, H⟩ := H
  replace H : ((laws_toState.f k l0_0 l0_1).bind fun bt629 => ((impl_Lookup.f k bt629.1 bt629.2 a1).bind fun bt636 => ((laws_eqEntry.f bt636.1 bt636.2.1 bt636.2.2.1 bt636.2.2.2.1 bt636.2.2.2.2.1 t622 t623 t624 t625 t626).bind fun t643 => (if t643 = true then (laws_FnExactLookup.j0 k (bt636.2.2.2.2.2 != t627) l0_0 l0_1 bt629.1 bt629.2) else (laws_FnExactLookup.j0 k true l0_0 l0_1 bt629.1 bt629.2))))) = some r := H
  have A9 := zm A90
  clear A90
  replace H := Option.bind_eq_some_iff.mp H
  obtain ⟨⟨t629, t632⟩, A100, H⟩ := H
  replace H : ((impl_Lookup.f k t629 t632 a1).bind fun bt636 => ((laws_eqEntry.f bt636.1 bt636.2.1 bt636.2.2.1 bt636.2.2.2.1 bt636.2.2.2.2.1 t622 t623 t624 t625 t626).bind fun t643 => (if t643 = true then (laws_FnExactLookup.j0 k (bt636.2.2.2.2.2 != t627) l0_0 l0_1 t629 t632) else (laws_FnExactLookup.j0 k true l0_0 l0_1 t629 t632)))) = some r := H
  have A10 := zm A100
  clear A100
  replace H := Option.bind_eq_some_iff.mp H
  obtain ⟨⟨t636, t637, t638, t639, t640, t641⟩, A110, H⟩ := H
  replace H : ((laws_eqEntry.f t636 t637 t638 t639 t640 t622 t623 t624 t625 t626).bind fun t643 => (if t643 = true then (laws_FnExactLookup.j0 k (t641 != t627) l0_0 l0_1 t629 t632) else (laws_FnExactLookup.j0 k true l0_0 l0_1 t629 t632))) = some r := H
  have A11 := zm A110
  clear A110
  have HC12 := zm H
  clear H
  go_enter Try.func12, Try.ntmps12
  go_upto_region 8 with (first | ((with_reducible refine gate_dst (N := 2) rfl ?_); refine zbox 2 #[.slice A0_0 l0_0.length c0_0, .slice A0_1 l0_1.length c0_1] 48 ?_; intro gb614 hg w13 hbox hb; have BK614 := zm (hbox); have GW614 := zge w hg zB; have GE614 := zge w hg zB; replace HB := zm (below_step zB hb); clear hb hbox hg; have hcz14_0 : w13.cell? ⟨gb614, 0, none⟩ = some (.slice A0_0 l0_0.length c0_0) := (blk_cell BK614.out 0).trans rfl; have hcz14_1 : w13.cell? ⟨gb614, 1, none⟩ = some (.slice A0_1 l0_1.length c0_1) := (blk_cell BK614.out 1).trans rfl; have hfz14_0 := blk_frozen BK614.out 0; have hfz14_1 := blk_frozen BK614.out 1) | ((with_reducible refine gate_callee (f := 35) rfl ?_); refine zg (some 13) #[.agg #[.slice A0_0 l0_0.length c0_0, .slice A0_1 l0_1.length c0_1], .int .i64 1048576] Try.func35 ?_; (with_reducible refine (laws_szState.calls k _ _ l0_0 _ _ l0_1 1048576 t615 _ (zk (Kd.C_below HR0_0.out HB.out)) HC0_0.out (zk (Kd.C_below HR0_1.out HB.out)) HC0_1.out A3.out).mono ?_); rintro e w15 ⟨rfl, hb⟩; refine ⟨_, rfl, ?_⟩; replace BK614 := zm (blk_below (zb BK614) hb); replace HB := zm (below_step zB hb); clear hb; have hcz16_0 : w15.cell? ⟨gb614, 0, none⟩ = some (.slice A0_0 l0_0.length c0_0) := (blk_cell BK614.out 0).trans rfl; have hcz16_1 : w15.cell? ⟨gb614, 1, none⟩ = some (.slice A0_1 l0_1.length c0_1) := (blk_cell BK614.out 1).trans rfl; have hfz16_0 := blk_frozen BK614.out 0; have hfz16_1 := blk_frozen BK614.out 1) | ((with_reducible refine gate_callee (f := 37) rfl ?_); refine zg (some 18) #[.agg #[.slice A0_0 l0_0.length c0_0, .slice A0_1 l0_1.length c0_1]] Try.func37 ?_; (with_reducible refine (laws_toState.calls k _ _ l0_0 _ _ l0_1 t616 t619 _ (zk (Kd.C_below HR0_0.out HB.out)) HC0_0.out (zk (Kd.C_below HR0_1.out HB.out)) HC0_1.out A8.out).mono ?_); rintro e w17 ⟨v617, v620, rfl, ho0, ho1, hb⟩; refine ⟨_, rfl, ?_⟩; have HO618 := zm (Kd.R_lower ho0 (below_size zB)); have HO621 := zm (Kd.R_lower ho1 (below_size zB)); replace BK614 := zm (blk_below (zb BK614) hb); replace HB := zm (below_step zB hb); clear hb ho0 ho1; obtain ⟨Ao18, co18, eo18⟩ := Kd.R_slice HO618.out; subst eo18; obtain ⟨Ao19, co19, eo19⟩ := Kd.R_slice HO621.out; subst eo19) | ((with_reducible refine gate_callee (f := 52) rfl ?_); refine zg (some 20) #[.agg #[.slice Ao18 t616.length co18, .slice Ao19 t619.length co19], .int .i64 a1] Try.func52 ?_; (with_reducible refine (spec_Lookup.calls k _ _ t616 _ _ t619 a1 t622 t623 t624 t625 t626 t627 _ ?side1 ?side2 ?side3 ?side4 A9.out).mono ?_); (case side1 => repeat (first | exact (Kd.R_reads' HO618.out).2.2 | (with_reducible refine Kd.C_alloc ?_ _) | (with_reducible refine Kd.C_drewN ?_ _) | (with_reducible refine Kd.C_drew ?_))); (case side2 => exact (Kd.R_reads' HO618.out).2.1); (case side3 => repeat (first | exact (Kd.R_reads' HO621.out).2.2 | (with_reducible refine Kd.C_alloc ?_ _) | (with_reducible refine Kd.C_drewN ?_ _) | (with_reducible refine Kd.C_drew ?_))); (case side4 => exact (Kd.R_reads' HO621.out).2.1); rintro e w20 ⟨rfl, hb⟩; refine ⟨_, rfl, ?_⟩; replace HO618 := zm (Kd.R_below (zr HO618) hb); replace HO621 := zm (Kd.R_below (zr HO621) hb); replace BK614 := zm (blk_below (zb BK614) hb); replace HB := zm (below_step zB hb); clear hb) | ((with_reducible refine gate_dst (N := 6) rfl ?_); refine zbox 6 #[.int .i64 0, .int .i64 0, .int .i64 0, .int .i64 0, .string (⟨#[]⟩ : ByteArray)] 25 ?_; intro gb628 hg w21 hbox hb; replace HO618 := zm (Kd.R_below (zr HO618) hb); replace HO621 := zm (Kd.R_below (zr HO621) hb); have BK628 := zm (hbox); have GW628 := zge w hg zB; have GE628 := zge w hg zB; replace HB := zm (below_step zB hb); have NB614_628 := zlt hg (zb BK614); have NB628_614 := zgt hg (zb BK614); replace BK614 := zm (blk_below (zb BK614) hb); clear hb hbox hg; have hnb22 := NB628_614.out; have hnc22 := NB614_628.out; have hcz23_0 : w21.cell? ⟨gb628, 0, none⟩ = some (.int .i64 0) := (blk_cell BK628.out 0).trans rfl; have hcz23_1 : w21.cell? ⟨gb628, 1, none⟩ = some (.int .i64 0) := (blk_cell BK628.out 1).trans rfl; have hcz23_2 : w21.cell? ⟨gb628, 2, none⟩ = some (.int .i64 0) := (blk_cell BK628.out 2).trans rfl; have hcz23_3 : w21.cell? ⟨gb628, 3, none⟩ = some (.int .i64 0) := (blk_cell BK628.out 3).trans rfl; have hcz23_4 : w21.cell? ⟨gb628, 4, none⟩ = some (.string (⟨#[]⟩ : ByteArray)) := (blk_cell BK628.out 4).trans rfl; have hfz23_0 := blk_frozen BK628.out 0; have hfz23_1 := blk_frozen BK628.out 1; have hfz23_2 := blk_frozen BK628.out 2; have hfz23_3 := blk_frozen BK628.out 3; have hfz23_4 := blk_frozen BK628.out 4; have hcz24_0 : w21.cell? ⟨gb614, 0, none⟩ = some (.slice A0_0 l0_0.length c0_0) := (blk_cell BK614.out 0).trans rfl; have hcz24_1 : w21.cell? ⟨gb614, 1, none⟩ = some (.slice A0_1 l0_1.length c0_1) := (blk_cell BK614.out 1).trans rfl; have hfz24_0 := blk_frozen BK614.out 0; have hfz24_1 := blk_frozen BK614.out 1) | ((with_reducible refine gate_callee (f := 37) rfl ?_); refine zg (some 24) #[.agg #[.slice A0_0 l0_0.length c0_0, .slice A0_1 l0_1.length c0_1]] Try.func37 ?_; (with_reducible refine (laws_toState.calls k _ _ l0_0 _ _ l0_1 t629 t632 _ ?side1 HC0_0.out ?side3 HC0_1.out A10.out).mono ?_); (case side1 => exact Kd.C_below HR0_0.out zB); (case side3 => exact Kd.C_below HR0_1.out zB); rintro e w25 ⟨v630, v633, rfl, ho0, ho1, hb⟩; refine ⟨_, rfl, ?_⟩; have HO631 := zm (Kd.R_lower (Kd.R_new' ho0 (Kd.R_lt (zrs <| (Kd.R_mono (zfr (zfr (zfr (zfr (zfr (Kd.R_types HO618.out BK628.out (by decide))))))) (fun _ h_ => h_.1))))) (below_size zB)); replace HO618 := zm (Kd.R_elder' (zrs <| (Kd.R_mono (zfr (zfr (zfr (zfr (zfr (Kd.R_types HO618.out BK628.out (by decide))))))) (fun _ h_ => h_.1))) (Kd.R_base ho0) hb); have HO634 := zm (Kd.R_lower (Kd.R_new' ho1 (Kd.R_lt (zrs <| (Kd.R_mono (zfr (zfr (zfr (zfr (zfr (Kd.R_types HO621.out BK628.out (by decide))))))) (fun _ h_ => h_.1))))) (below_size zB)); replace HO621 := zm (Kd.R_elder' (zrs <| (Kd.R_mono (zfr (zfr (zfr (zfr (zfr (Kd.R_types HO621.out BK628.out (by decide))))))) (fun _ h_ => h_.1))) (Kd.R_base ho1) hb); replace BK614 := zm (blk_below (g := gb614) (o := .cells #[.slice A0_0 l0_0.length c0_0, .slice A0_1 l0_1.length c0_1] 48 (0, 0)) (zfar (zfar (zfar (zfar (zfar (zb BK614) NB614_628) NB614_628) NB614_628) NB614_628) NB614_628) hb); replace BK628 := zm (blk_below (g := gb628) (o := .cells #[.int .i64 t622, .int .i64 t623, .int .i64 t624, .int .i64 t625, .string t626] 25 (0, 0)) (zput (zput (zput (zput (zput (zb BK628) 0) 1) 2) 3) 4) hb); replace HB := zm (below_step zB hb); clear hb ho0 ho1) | ((with_reducible refine gate_dst (N := 8) rfl ?_); refine zbox 8 #[.slice none 0 0, .slice none 0 0] 55 ?_; intro gb635 hg w26 hbox hb; replace HO618 := zm (Kd.R_below (zr HO618) hb); replace HO621 := zm (Kd.R_below (zr HO621) hb); replace HO631 := zm (Kd.R_below (zr HO631) hb); replace HO634 := zm (Kd.R_below (zr HO634) hb); have BK635 := zm (hbox); have GW635 := zge w hg zB; have GE635 := zge w hg zB; replace HB := zm (below_step zB hb); have NB614_635 := zlt hg (zb BK614); have NB635_614 := zgt hg (zb BK614); replace BK614 := zm (blk_below (zb BK614) hb); have NB628_635 := zlt hg (zb BK628); have NB635_628 := zgt hg (zb BK628); replace BK628 := zm (blk_below (zb BK628) hb); clear hb hbox hg; obtain ⟨Ao27, co27, eo27⟩ := Kd.R_slice HO631.out; subst eo27; have hnb28 := NB635_614.out; have hnc28 := NB614_635.out; have hnb29 := NB635_628.out; have hnc29 := NB628_635.out; have hcz30_0 : w26.cell? ⟨gb635, 0, none⟩ = some (.slice none 0 0) := (blk_cell BK635.out 0).trans rfl; have hcz30_1 : w26.cell? ⟨gb635, 1, none⟩ = some (.slice none 0 0) := (blk_cell BK635.out 1).trans rfl; have hfz30_0 := blk_frozen BK635.out 0; have hfz30_1 := blk_frozen BK635.out 1; obtain ⟨Ao31, co31, eo31⟩ := Kd.R_slice HO634.out; subst eo31) | ((with_reducible refine gate_callee (f := 53) rfl ?_); refine zg (some 28) #[.agg #[.slice Ao27 t629.length co27, .slice Ao31 t632.length co31], .int .i64 a1] Try.func53 ?_; (with_reducible refine (impl_Lookup.calls k _ _ t629 _ _ t632 a1 t636 t637 t638 t639 t640 t641 _ ?side1 ?side2 ?side3 ?side4 A11.out).mono ?_); (case side1 => refine (Kd.R_reads' (e := 84) (base := w.heap.size) (ok := fun k_ => (True ∧ some k_ ≠ (.slice Ao18 t616.length co18 : Value).ownBlock)) (n := t629.length) (c := co27) ?_).2.2; exact (zrs <| (Kd.R_mono (zfr (zfr (Kd.R_types HO631.out BK635.out (by decide)))) (fun _ h_ => h_.1)))); (case side2 => exact (Kd.R_reads' HO631.out).2.1); (case side3 => refine (Kd.R_reads' (e := 89) (base := w.heap.size) (ok := fun k_ => (True ∧ some k_ ≠ (.slice Ao19 t619.length co19 : Value).ownBlock)) (n := t632.length) (c := co31) ?_).2.2; exact (zrs <| (Kd.R_mono (zfr (zfr (Kd.R_types HO634.out BK635.out (by decide)))) (fun _ h_ => h_.1)))); (case side4 => exact (Kd.R_reads' HO634.out).2.1); rintro e w32 ⟨rfl, hb⟩; refine ⟨_, rfl, ?_⟩; replace HO618 := zm (Kd.R_below (zrs <| (Kd.R_mono (zfr (zfr (Kd.R_types HO618.out BK635.out (by decide)))) (fun _ h_ => h_.1))) hb); replace HO621 := zm (Kd.R_below (zrs <| (Kd.R_mono (zfr (zfr (Kd.R_types HO621.out BK635.out (by decide)))) (fun _ h_ => h_.1))) hb); replace HO631 := zm (Kd.R_below (zrs <| (Kd.R_mono (zfr (zfr (Kd.R_types HO631.out BK635.out (by decide)))) (fun _ h_ => h_.1))) hb); replace HO634 := zm (Kd.R_below (zrs <| (Kd.R_mono (zfr (zfr (Kd.R_types HO634.out BK635.out (by decide)))) (fun _ h_ => h_.1))) hb); replace BK614 := zm (blk_below (g := gb614) (o := .cells #[.slice A0_0 l0_0.length c0_0, .slice A0_1 l0_1.length c0_1] 48 (0, 0)) (zfar (zfar (zb BK614) NB614_635) NB614_635) hb); replace BK628 := zm (blk_below (g := gb628) (o := .cells #[.int .i64 t622, .int .i64 t623, .int .i64 t624, .int .i64 t625, .string t626] 25 (0, 0)) (zfar (zfar (zb BK628) NB628_635) NB628_635) hb); replace BK635 := zm (blk_below (g := gb635) (o := .cells #[.slice Ao27 t629.length co27, .slice Ao31 t632.length co31] 55 (0, 0)) (zput (zput (zb BK635) 0) 1) hb); replace HB := zm (below_step zB hb); clear hb) | ((with_reducible refine gate_dst (N := 9) rfl ?_); refine zbox 9 #[.int .i64 0, .int .i64 0, .int .i64 0, .int .i64 0, .string (⟨#[]⟩ : ByteArray)] 25 ?_; intro gb642 hg w33 hbox hb; replace HO618 := zm (Kd.R_below (zr HO618) hb); replace HO621 := zm (Kd.R_below (zr HO621) hb); replace HO631 := zm (Kd.R_below (zr HO631) hb); replace HO634 := zm (Kd.R_below (zr HO634) hb); have BK642 := zm (hbox); have GW642 := zge w hg zB; have GE642 := zge w hg zB; replace HB := zm (below_step zB hb); have NB614_642 := zlt hg (zb BK614); have NB642_614 := zgt hg (zb BK614); replace BK614 := zm (blk_below (zb BK614) hb); have NB628_642 := zlt hg (zb BK628); have NB642_628 := zgt hg (zb BK628); replace BK628 := zm (blk_below (zb BK628) hb); have NB635_642 := zlt hg (zb BK635); have NB642_635 := zgt hg (zb BK635); replace BK635 := zm (blk_below (zb BK635) hb); clear hb hbox hg; have hnb34 := NB642_614.out; have hnc34 := NB614_642.out; have hnb35 := NB642_628.out; have hnc35 := NB628_642.out; have hnb36 := NB642_635.out; have hnc36 := NB635_642.out; have hcz37_0 : w33.cell? ⟨gb642, 0, none⟩ = some (.int .i64 0) := (blk_cell BK642.out 0).trans rfl; have hcz37_1 : w33.cell? ⟨gb642, 1, none⟩ = some (.int .i64 0) := (blk_cell BK642.out 1).trans rfl; have hcz37_2 : w33.cell? ⟨gb642, 2, none⟩ = some (.int .i64 0) := (blk_cell BK642.out 2).trans rfl; have hcz37_3 : w33.cell? ⟨gb642, 3, none⟩ = some (.int .i64 0) := (blk_cell BK642.out 3).trans rfl; have hcz37_4 : w33.cell? ⟨gb642, 4, none⟩ = some (.string (⟨#[]⟩ : ByteArray)) := (blk_cell BK642.out 4).trans rfl; have hfz37_0 := blk_frozen BK642.out 0; have hfz37_1 := blk_frozen BK642.out 1; have hfz37_2 := blk_frozen BK642.out 2; have hfz37_3 := blk_frozen BK642.out 3; have hfz37_4 := blk_frozen BK642.out 4))
  (try simp only [Act.put, List.setIfInBounds_toArray, List.set_cons_zero, List.set_cons_succ])
  go_cut [39] (fun v39 wc => ∃ (kq : Nat) (x39_11 : Bool), v39 = .bool x39_11 ∧ Aside0 (laws_FnExactLookup.j0 kq x39_11 l0_0 l0_1 t629 t632 = some r) ∧ Aside0 (kq ≤ k) ∧ Aside0 (Kd.R k84 84 wc w.heap.size (fun _ => True) (.slice Ao27 t629.length co27) t629) ∧ Aside0 (Kd.R k89 89 wc w.heap.size (fun _ => True) (.slice Ao31 t632.length co31) t632) ∧ Aside0 (wc.heap[gb614]? = some (.cells #[(.slice A0_0 l0_0.length c0_0), (.slice A0_1 l0_1.length c0_1)] 48 (0, 0))) ∧ Aside0 (wc.heap[gb628]? = some (.cells #[.int .i64 t622, .int .i64 t623, .int .i64 t624, .int .i64 t625, .string t626] 25 (0, 0))) ∧ Aside0 (wc.heap[gb635]? = some (.cells #[(.slice Ao27 t629.length co27), (.slice Ao31 t632.length co31)] 55 (0, 0))) ∧ Aside0 (wc.heap[gb642]? = some (.cells #[.int .i64 t636, .int .i64 t637, .int .i64 t638, .int .i64 t639, .string t640] 25 (0, 0))) ∧ Aside0 (Below w.heap.size w wc))
  case first =>
   have H := HC12.out
   clear HC12
   replace H := Option.bind_eq_some_iff.mp H
   obtain ⟨t643, A380, H⟩ := H
   replace H : (if t643 = true then (laws_FnExactLookup.j0 k (t641 != t627) l0_0 l0_1 t629 t632) else (laws_FnExactLookup.j0 k true l0_0 l0_1 t629 t632)) = some r := H
   have A38 := zm A380
   clear A380
   by_cases c39 : t643 = true
   ·subst c39
    have H1 : (laws_FnExactLookup.j0 k (t641 != t627) l0_0 l0_1 t629 t632) = some r := by rw [if_pos rfl] at H; exact H
    clear H
    have H := H1
    clear H1
    have H' := zm H
    clear H
    have hnb40 := NB642_614.out
    have hnc40 := NB614_642.out
    have hnb41 := NB642_628.out
    have hnc41 := NB628_642.out
    have hnb42 := NB642_635.out
    have hnc42 := NB635_642.out
    have hcz43_0 : w33.cell? ⟨gb642, 0, none⟩ = some (.int .i64 0) := (blk_cell BK642.out 0).trans rfl
    have hcz43_1 : w33.cell? ⟨gb642, 1, none⟩ = some (.int .i64 0) := (blk_cell BK642.out 1).trans rfl
    have hcz43_2 : w33.cell? ⟨gb642, 2, none⟩ = some (.int .i64 0) := (blk_cell BK642.out 2).trans rfl
    have hcz43_3 : w33.cell? ⟨gb642, 3, none⟩ = some (.int .i64 0) := (blk_cell BK642.out 3).trans rfl
    have hcz43_4 : w33.cell? ⟨gb642, 4, none⟩ = some (.string (⟨#[]⟩ : ByteArray)) := (blk_cell BK642.out 4).trans rfl
    have hfz43_0 := blk_frozen BK642.out 0
    have hfz43_1 := blk_frozen BK642.out 1
    have hfz43_2 := blk_frozen BK642.out 2
    have hfz43_3 := blk_frozen BK642.out 3
    have hfz43_4 := blk_frozen BK642.out 4
    have hnb44 := NB628_614.out
    have hnc44 := NB614_628.out
    have hnb45 := NB628_635.out
    have hnc45 := NB635_628.out
    have hcz46_0 : w33.cell? ⟨gb628, 0, none⟩ = some (.int .i64 t622) := (blk_cell BK628.out 0).trans rfl
    have hcz46_1 : w33.cell? ⟨gb628, 1, none⟩ = some (.int .i64 t623) := (blk_cell BK628.out 1).trans rfl
    have hcz46_2 : w33.cell? ⟨gb628, 2, none⟩ = some (.int .i64 t624) := (blk_cell BK628.out 2).trans rfl
    have hcz46_3 : w33.cell? ⟨gb628, 3, none⟩ = some (.int .i64 t625) := (blk_cell BK628.out 3).trans rfl
    have hcz46_4 : w33.cell? ⟨gb628, 4, none⟩ = some (.string t626) := (blk_cell BK628.out 4).trans rfl
    have hfz46_0 := blk_frozen BK628.out 0
    have hfz46_1 := blk_frozen BK628.out 1
    have hfz46_2 := blk_frozen BK628.out 2
    have hfz46_3 := blk_frozen BK628.out 3
    have hfz46_4 := blk_frozen BK628.out 4
    go_wp2_with (first | ((with_reducible refine gate_callee (f := 19) rfl ?_); refine zg (some 33) #[.agg #[.int .i64 t636, .int .i64 t637, .int .i64 t638, .int .i64 t639, .string t640], .agg #[.int .i64 t622, .int .i64 t623, .int .i64 t624, .int .i64 t625, .string t626]] Try.func19 ?_; (with_reducible refine (laws_eqEntry.calls t636 t637 t638 t639 t640 t622 t623 t624 t625 t626 true _ A38.out).mono ?_); rintro e w47 ⟨rfl, hb⟩; refine ⟨_, rfl, ?_⟩; replace HO618 := zm (Kd.R_below (zrs <| (Kd.R_mono (zfr (zfr (zfr (zfr (zfr (Kd.R_types HO618.out BK642.out (by decide))))))) (fun _ h_ => h_.1))) hb); replace HO621 := zm (Kd.R_below (zrs <| (Kd.R_mono (zfr (zfr (zfr (zfr (zfr (Kd.R_types HO621.out BK642.out (by decide))))))) (fun _ h_ => h_.1))) hb); replace HO631 := zm (Kd.R_below (zrs <| (Kd.R_mono (zfr (zfr (zfr (zfr (zfr (Kd.R_types HO631.out BK642.out (by decide))))))) (fun _ h_ => h_.1))) hb); replace HO634 := zm (Kd.R_below (zrs <| (Kd.R_mono (zfr (zfr (zfr (zfr (zfr (Kd.R_types HO634.out BK642.out (by decide))))))) (fun _ h_ => h_.1))) hb); replace BK614 := zm (blk_below (g := gb614) (o := .cells #[.slice A0_0 l0_0.length c0_0, .slice A0_1 l0_1.length c0_1] 48 (0, 0)) (zfar (zfar (zfar (zfar (zfar (zb BK614) NB614_642) NB614_642) NB614_642) NB614_642) NB614_642) hb); replace BK628 := zm (blk_below (g := gb628) (o := .cells #[.int .i64 t622, .int .i64 t623, .int .i64 t624, .int .i64 t625, .string t626] 25 (0, 0)) (zfar (zfar (zfar (zfar (zfar (zb BK628) NB628_642) NB628_642) NB628_642) NB628_642) NB628_642) hb); replace BK635 := zm (blk_below (g := gb635) (o := .cells #[.slice Ao27 t629.length co27, .slice Ao31 t632.length co31] 55 (0, 0)) (zfar (zfar (zfar (zfar (zfar (zb BK635) NB635_642) NB635_642) NB635_642) NB635_642) NB635_642) hb); replace BK642 := zm (blk_below (g := gb642) (o := .cells #[.int .i64 t636, .int .i64 t637, .int .i64 t638, .int .i64 t639, .string t640] 25 (0, 0)) (zput (zput (zput (zput (zput (zb BK642) 0) 1) 2) 3) 4) hb); replace HB := zm (below_step zB hb); clear hb))
    go_meet
    case rel => exact ⟨_, ((t641 != t627)), zF, H', ⟨by first | omega | exact Nat.le_refl _⟩, ⟨by (with_reducible repeat (first | apply Kd.R_alloc | apply Kd.R_drewN | apply Kd.R_drew)); exact Kd.R_mono HO631.out (fun _ hk => trivial)⟩, ⟨by (with_reducible repeat (first | apply Kd.R_alloc | apply Kd.R_drewN | apply Kd.R_drew)); exact Kd.R_mono HO634.out (fun _ hk => trivial)⟩, ⟨zb BK614⟩, ⟨zb BK628⟩, ⟨zb BK635⟩, ⟨zb BK642⟩, ⟨zB⟩⟩
   ·replace c39 := Bool.eq_false_iff.mpr c39
    subst c39
    have H1 : (laws_FnExactLookup.j0 k true l0_0 l0_1 t629 t632) = some r := by rw [if_neg (show ¬ (false = true) by decide)] at H; exact H
    clear H
    have H := H1
    clear H1
    have H' := zm H
    clear H
    have hnb48 := NB642_614.out
    have hnc48 := NB614_642.out
    have hnb49 := NB642_628.out
    have hnc49 := NB628_642.out
    have hnb50 := NB642_635.out
    have hnc50 := NB635_642.out
    have hcz51_0 : w33.cell? ⟨gb642, 0, none⟩ = some (.int .i64 0) := (blk_cell BK642.out 0).trans rfl
    have hcz51_1 : w33.cell? ⟨gb642, 1, none⟩ = some (.int .i64 0) := (blk_cell BK642.out 1).trans rfl
    have hcz51_2 : w33.cell? ⟨gb642, 2, none⟩ = some (.int .i64 0) := (blk_cell BK642.out 2).trans rfl
    have hcz51_3 : w33.cell? ⟨gb642, 3, none⟩ = some (.int .i64 0) := (blk_cell BK642.out 3).trans rfl
    have hcz51_4 : w33.cell? ⟨gb642, 4, none⟩ = some (.string (⟨#[]⟩ : ByteArray)) := (blk_cell BK642.out 4).trans rfl
    have hfz51_0 := blk_frozen BK642.out 0
    have hfz51_1 := blk_frozen BK642.out 1
    have hfz51_2 := blk_frozen BK642.out 2
    have hfz51_3 := blk_frozen BK642.out 3
    have hfz51_4 := blk_frozen BK642.out 4
    have hnb52 := NB628_614.out
    have hnc52 := NB614_628.out
    have hnb53 := NB628_635.out
    have hnc53 := NB635_628.out
    have hcz54_0 : w33.cell? ⟨gb628, 0, none⟩ = some (.int .i64 t622) := (blk_cell BK628.out 0).trans rfl
    have hcz54_1 : w33.cell? ⟨gb628, 1, none⟩ = some (.int .i64 t623) := (blk_cell BK628.out 1).trans rfl
    have hcz54_2 : w33.cell? ⟨gb628, 2, none⟩ = some (.int .i64 t624) := (blk_cell BK628.out 2).trans rfl
    have hcz54_3 : w33.cell? ⟨gb628, 3, none⟩ = some (.int .i64 t625) := (blk_cell BK628.out 3).trans rfl
    have hcz54_4 : w33.cell? ⟨gb628, 4, none⟩ = some (.string t626) := (blk_cell BK628.out 4).trans rfl
    have hfz54_0 := blk_frozen BK628.out 0
    have hfz54_1 := blk_frozen BK628.out 1
    have hfz54_2 := blk_frozen BK628.out 2
    have hfz54_3 := blk_frozen BK628.out 3
    have hfz54_4 := blk_frozen BK628.out 4
    go_wp2_with (first | ((with_reducible refine gate_callee (f := 19) rfl ?_); refine zg (some 33) #[.agg #[.int .i64 t636, .int .i64 t637, .int .i64 t638, .int .i64 t639, .string t640], .agg #[.int .i64 t622, .int .i64 t623, .int .i64 t624, .int .i64 t625, .string t626]] Try.func19 ?_; (with_reducible refine (laws_eqEntry.calls t636 t637 t638 t639 t640 t622 t623 t624 t625 t626 false _ A38.out).mono ?_); rintro e w55 ⟨rfl, hb⟩; refine ⟨_, rfl, ?_⟩; replace HO618 := zm (Kd.R_below (zrs <| (Kd.R_mono (zfr (zfr (zfr (zfr (zfr (Kd.R_types HO618.out BK642.out (by decide))))))) (fun _ h_ => h_.1))) hb); replace HO621 := zm (Kd.R_below (zrs <| (Kd.R_mono (zfr (zfr (zfr (zfr (zfr (Kd.R_types HO621.out BK642.out (by decide))))))) (fun _ h_ => h_.1))) hb); replace HO631 := zm (Kd.R_below (zrs <| (Kd.R_mono (zfr (zfr (zfr (zfr (zfr (Kd.R_types HO631.out BK642.out (by decide))))))) (fun _ h_ => h_.1))) hb); replace HO634 := zm (Kd.R_below (zrs <| (Kd.R_mono (zfr (zfr (zfr (zfr (zfr (Kd.R_types HO634.out BK642.out (by decide))))))) (fun _ h_ => h_.1))) hb); replace BK614 := zm (blk_below (g := gb614) (o := .cells #[.slice A0_0 l0_0.length c0_0, .slice A0_1 l0_1.length c0_1] 48 (0, 0)) (zfar (zfar (zfar (zfar (zfar (zb BK614) NB614_642) NB614_642) NB614_642) NB614_642) NB614_642) hb); replace BK628 := zm (blk_below (g := gb628) (o := .cells #[.int .i64 t622, .int .i64 t623, .int .i64 t624, .int .i64 t625, .string t626] 25 (0, 0)) (zfar (zfar (zfar (zfar (zfar (zb BK628) NB628_642) NB628_642) NB628_642) NB628_642) NB628_642) hb); replace BK635 := zm (blk_below (g := gb635) (o := .cells #[.slice Ao27 t629.length co27, .slice Ao31 t632.length co31] 55 (0, 0)) (zfar (zfar (zfar (zfar (zfar (zb BK635) NB635_642) NB635_642) NB635_642) NB635_642) NB635_642) hb); replace BK642 := zm (blk_below (g := gb642) (o := .cells #[.int .i64 t636, .int .i64 t637, .int .i64 t638, .int .i64 t639, .string t640] 25 (0, 0)) (zput (zput (zput (zput (zput (zb BK642) 0) 1) 2) 3) 4) hb); replace HB := zm (below_step zB hb); clear hb))
    go_meet
    case rel => exact ⟨_, (true), zF, H', ⟨by first | omega | exact Nat.le_refl _⟩, ⟨by (with_reducible repeat (first | apply Kd.R_alloc | apply Kd.R_drewN | apply Kd.R_drew)); exact Kd.R_mono HO631.out (fun _ hk => trivial)⟩, ⟨by (with_reducible repeat (first | apply Kd.R_alloc | apply Kd.R_drewN | apply Kd.R_drew)); exact Kd.R_mono HO634.out (fun _ hk => trivial)⟩, ⟨zb BK614⟩, ⟨zb BK628⟩, ⟨zb BK635⟩, ⟨zb BK642⟩, ⟨zB⟩⟩
  case rest =>
   clear HC12
   try clear c1
   try clear c2
   try clear p2
   try clear c3
   try clear c4
   try clear c4b0
   try clear c5
   try clear c12
   try clear c19
   try clear c22
   try clear c28
   try clear c29
   try clear c34
   try clear c35
   try clear c36
   try clear c37
   try clear c39
   try clear c40
   try clear c41
   try clear c42
   try clear c44
   try clear c45
   try clear c48
   try clear c49
   try clear c50
   try clear c52
   try clear c53
   try clear hcz14_0
   try clear hcz14_1
   try clear hcz16_0
   try clear hcz16_1
   try clear hcz23_0
   try clear hcz23_1
   try clear hcz23_2
   try clear hcz23_3
   try clear hcz23_4
   try clear hcz24_0
   try clear hcz24_1
   try clear hcz30_0
   try clear hcz30_1
   try clear hcz37_0
   try clear hcz37_1
   try clear hcz37_2
   try clear hcz37_3
   try clear hcz37_4
   try clear hcz43_0
   try clear hcz43_1
   try clear hcz43_2
   try clear hcz43_3
   try clear hcz43_4
   try clear hcz46_0
   try clear hcz46_1
   try clear hcz46_2
   try clear hcz46_3
   try clear hcz46_4
   try clear hcz51_0
   try clear hcz51_1
   try clear hcz51_2
   try clear hcz51_3
   try clear hcz51_4
   try clear hcz54_0
   try clear hcz54_1
   try clear hcz54_2
   try clear hcz54_3
   try clear hcz54_4
   try clear hcz6_0
   try clear hcz6_1
   try clear hfz14_0
   try clear hfz14_1
   try clear hfz16_0
   try clear hfz16_1
   try clear hfz23_0
   try clear hfz23_1
   try clear hfz23_2
   try clear hfz23_3
   try clear hfz23_4
   try clear hfz24_0
   try clear hfz24_1
   try clear hfz30_0
   try clear hfz30_1
   try clear hfz37_0
   try clear hfz37_1
   try clear hfz37_2
   try clear hfz37_3
   try clear hfz37_4
   try clear hfz43_0
   try clear hfz43_1
   try clear hfz43_2
   try clear hfz43_3
   try clear hfz43_4
   try clear hfz46_0
   try clear hfz46_1
   try clear hfz46_2
   try clear hfz46_3
   try clear hfz46_4
   try clear hfz51_0
   try clear hfz51_1
   try clear hfz51_2
   try clear hfz51_3
   try clear hfz51_4
   try clear hfz54_0
   try clear hfz54_1
   try clear hfz54_2
   try clear hfz54_3
   try clear hfz54_4
   try clear hfz6_0
   try clear hfz6_1
   obtain ⟨kq, x39_11, rfl, HA, HJ11, HO_636000, HO_636001, BK614, BK628, BK635, BK642, HB⟩ := hcut
   cases kq with
   | zero => exact absurd HA.out (by simp [laws_FnExactLookup.j0])
   | succ kj11 =>
    have H := HA.out
    clear HA
    simp only [laws_FnExactLookup.j0] at H
    by_cases c56 : x39_11 = true
    ·subst c56
     have H1 : (some false) = some r := by rw [if_pos rfl] at H; exact H
     clear H
     have H := H1
     clear H1
     obtain rfl := Option.some.inj H
     go_wp2
     go_ret
     exact ⟨zE, zB⟩
    ·replace c56 := Bool.eq_false_iff.mpr c56
     subst c56
     have H1 : ((laws_toState.f kj11 l0_0 l0_1).bind fun bt644 => ((laws_eqState.f kj11 t629 t632 bt644.1 bt644.2).bind fun t650 => (if t650 = true then (some true) else (some false)))) = some r := by rw [if_neg (show ¬ (false = true) by decide)] at H; exact H
     clear H
     have H := H1
     clear H1
     replace H := Option.bind_eq_some_iff.mp H
     obtain ⟨⟨t644, t647⟩, A570, H⟩ := H
     replace H : ((laws_eqState.f kj11 t629 t632 t644 t647).bind fun t650 => (if t650 = true then (some true) else (some false))) = some r := H
     have A57 := zm A570
     clear A570
     replace H := Option.bind_eq_some_iff.mp H
     obtain ⟨t650, A580, H⟩ := H
     replace H : (if t650 = true then (some true) else (some false)) = some r := H
     have A58 := zm A580
     clear A580
     by_cases c59 : t650 = true
     ·subst c59
      have H1 : (some true) = some r := by rw [if_pos rfl] at H; exact H
      clear H
      have H := H1
      clear H1
      obtain rfl := Option.some.inj H
      try go_wp2
      replace HO_636000 := zm (Kd.R_drew HO_636000.out)
      replace HO_636001 := zm (Kd.R_drew HO_636001.out)
      replace BK614 := zm (blk_drew BK614.out)
      replace BK628 := zm (blk_drew BK628.out)
      replace BK635 := zm (blk_drew BK635.out)
      replace BK642 := zm (blk_drew BK642.out)
      replace HB := zm (below_drew1 HB.out)
      refine start_ (n := 5) (S := fun w' => w'.cell? ⟨gb635, 0, none⟩ = some (.slice Ao27 t629.length co27) ∧ w'.cell? ⟨gb635, 1, none⟩ = some (.slice Ao31 t632.length co31) ∧ w'.cell? ⟨gb614, 0, none⟩ = some (.slice A0_0 l0_0.length c0_0) ∧ w'.cell? ⟨gb614, 1, none⟩ = some (.slice A0_1 l0_1.length c0_1)) (ds := []) (zl 5 0) (by kernel_rfl) rfl rfl ⟨(blk_cell BK635.out 0).trans rfl, (blk_cell BK635.out 1).trans rfl, (blk_cell BK614.out 0).trans rfl, (blk_cell BK614.out 1).trans rfl⟩ (fun hHeld => ?_)
      generalize wc.drew = w60 at HO_636000 HO_636001 BK614 BK628 BK635 BK642 HB hHeld ⊢
      refine zt 0 (some 40) (zl 5 1) ?_
      refine zt 1 (some 41) (zl 5 3) ?_
      refine zo 2 (some 42) (zl 5 7) (fun K hK => ?_)
      refine zgo #[.agg #[.slice A0_0 l0_0.length c0_0, .slice A0_1 l0_1.length c0_1]] Try.func37 ?_
      with_reducible refine (laws_toState.calls kj11 _ _ l0_0 _ _ l0_1 t644 t647 _ (zk (Kd.C_below HR0_0.out HB.out)) HC0_0.out (zk (Kd.C_below HR0_1.out HB.out)) HC0_1.out A57.out).mono ?_
      rintro e w61 ⟨v645, v648, rfl, ho0, ho1, hb⟩
      refine ⟨_, rfl, ?_⟩
      have HO646 := zm (Kd.R_lower (Kd.R_new' ho0 (Kd.R_lt (zr HO_636000))) (below_size zB))
      replace HO_636000 := zm (Kd.R_elder' (zr HO_636000) (Kd.R_base ho0) hb)
      have HO649 := zm (Kd.R_lower (Kd.R_new' ho1 (Kd.R_lt (zr HO_636001))) (below_size zB))
      replace HO_636001 := zm (Kd.R_elder' (zr HO_636001) (Kd.R_base ho1) hb)
      replace BK614 := zm (blk_below (zb BK614) hb)
      replace BK628 := zm (blk_below (zb BK628) hb)
      replace BK635 := zm (blk_below (zb BK635) hb)
      replace BK642 := zm (blk_below (zb BK642) hb)
      replace HB := zm (below_step zB hb)
      (try clear hb)
      (try clear hb2)
      (try clear hk)
      (try clear hi)
      (try clear ho0)
      (try clear ho1)
      obtain ⟨Ao62, co62, eo62⟩ := Kd.R_slice HO646.out
      (first | subst eo62 | (injection eo62 with f1_ f2_ f3_; have f4_ := f1_.symm; have f5_ := f3_.symm; clear f1_ f2_ f3_; subst f4_; subst f5_))
      obtain ⟨Ao63, co63, eo63⟩ := Kd.R_slice HO649.out
      (first | subst eo63 | (injection eo63 with f1_ f2_ f3_; have f4_ := f1_.symm; have f5_ := f3_.symm; clear f1_ f2_ f3_; subst f4_; subst f5_))
      refine hK.out _ _ ⟨(blk_cell BK635.out 0).trans rfl, (blk_cell BK635.out 1).trans rfl, (blk_cell BK614.out 0).trans rfl, (blk_cell BK614.out 1).trans rfl⟩ (fun hHeld => ?_)
      clear hK K
      refine zn ?_
      refine zo 3 (some 43) (zl 5 15) (fun K hK => ?_)
      refine zgo #[.agg #[.slice Ao27 t629.length co27, .slice Ao31 t632.length co31], .agg #[.slice Ao62 t644.length co62, .slice Ao63 t647.length co63]] Try.func39 ?_
      with_reducible refine (laws_eqState.calls kj11 _ _ t629 _ _ t632 _ _ t644 _ _ t647 true _ ?side1 ?side2 ?side3 ?side4 ?side5 ?side6 ?side7 ?side8 A58.out).mono ?_
      (case side1 => repeat (first | exact (Kd.R_reads' HO_636000.out).2.2 | (with_reducible refine Kd.C_alloc ?_ _) | (with_reducible refine Kd.C_drewN ?_ _) | (with_reducible refine Kd.C_drew ?_)))
      (case side2 => exact (Kd.R_reads' HO_636000.out).2.1)
      (case side3 => repeat (first | exact (Kd.R_reads' HO_636001.out).2.2 | (with_reducible refine Kd.C_alloc ?_ _) | (with_reducible refine Kd.C_drewN ?_ _) | (with_reducible refine Kd.C_drew ?_)))
      (case side4 => exact (Kd.R_reads' HO_636001.out).2.1)
      (case side5 => repeat (first | exact (Kd.R_reads' HO646.out).2.2 | (with_reducible refine Kd.C_alloc ?_ _) | (with_reducible refine Kd.C_drewN ?_ _) | (with_reducible refine Kd.C_drew ?_)))
      (case side6 => exact (Kd.R_reads' HO646.out).2.1)
      (case side7 => repeat (first | exact (Kd.R_reads' HO649.out).2.2 | (with_reducible refine Kd.C_alloc ?_ _) | (with_reducible refine Kd.C_drewN ?_ _) | (with_reducible refine Kd.C_drew ?_)))
      (case side8 => exact (Kd.R_reads' HO649.out).2.1)
      rintro e w64 ⟨rfl, hb⟩
      refine ⟨_, rfl, ?_⟩
      replace HO_636000 := zm (Kd.R_below (zr HO_636000) hb)
      replace HO_636001 := zm (Kd.R_below (zr HO_636001) hb)
      replace HO646 := zm (Kd.R_below (zr HO646) hb)
      replace HO649 := zm (Kd.R_below (zr HO649) hb)
      replace BK614 := zm (blk_below (zb BK614) hb)
      replace BK628 := zm (blk_below (zb BK628) hb)
      replace BK635 := zm (blk_below (zb BK635) hb)
      replace BK642 := zm (blk_below (zb BK642) hb)
      replace HB := zm (below_step zB hb)
      (try clear hb)
      (try clear hb2)
      (try clear hk)
      (try clear hi)
      refine hK.out _ _ ⟨(blk_cell BK635.out 0).trans rfl, (blk_cell BK635.out 1).trans rfl, (blk_cell BK614.out 0).trans rfl, (blk_cell BK614.out 1).trans rfl⟩ (fun hHeld => ?_)
      clear hK K
      refine zn ?_
      refine zp 4 (some 44) (zl 5 31) ?_
      refine done_ (by kernel_rfl) ?_
      try go_wp2
      go_ret
      exact ⟨zE, zB⟩
     ·replace c59 := Bool.eq_false_iff.mpr c59
      subst c59
      have H1 : (some false) = some r := by rw [if_neg (show ¬ (false = true) by decide)] at H; exact H
      clear H
      have H := H1
      clear H1
      obtain rfl := Option.some.inj H
      try go_wp2
      replace HO_636000 := zm (Kd.R_drew HO_636000.out)
      replace HO_636001 := zm (Kd.R_drew HO_636001.out)
      replace BK614 := zm (blk_drew BK614.out)
      replace BK628 := zm (blk_drew BK628.out)
      replace BK635 := zm (blk_drew BK635.out)
      replace BK642 := zm (blk_drew BK642.out)
      replace HB := zm (below_drew1 HB.out)
      refine start_ (n := 5) (S := fun w' => w'.cell? ⟨gb635, 0, none⟩ = some (.slice Ao27 t629.length co27) ∧ w'.cell? ⟨gb635, 1, none⟩ = some (.slice Ao31 t632.length co31) ∧ w'.cell? ⟨gb614, 0, none⟩ = some (.slice A0_0 l0_0.length c0_0) ∧ w'.cell? ⟨gb614, 1, none⟩ = some (.slice A0_1 l0_1.length c0_1)) (ds := []) (zl 5 0) (by kernel_rfl) rfl rfl ⟨(blk_cell BK635.out 0).trans rfl, (blk_cell BK635.out 1).trans rfl, (blk_cell BK614.out 0).trans rfl, (blk_cell BK614.out 1).trans rfl⟩ (fun hHeld => ?_)
      generalize wc.drew = w65 at HO_636000 HO_636001 BK614 BK628 BK635 BK642 HB hHeld ⊢
      refine zt 0 (some 40) (zl 5 1) ?_
      refine zt 1 (some 41) (zl 5 3) ?_
      refine zo 2 (some 42) (zl 5 7) (fun K hK => ?_)
      refine zgo #[.agg #[.slice A0_0 l0_0.length c0_0, .slice A0_1 l0_1.length c0_1]] Try.func37 ?_
      with_reducible refine (laws_toState.calls kj11 _ _ l0_0 _ _ l0_1 t644 t647 _ (zk (Kd.C_below HR0_0.out HB.out)) HC0_0.out (zk (Kd.C_below HR0_1.out HB.out)) HC0_1.out A57.out).mono ?_
      rintro e w66 ⟨v645, v648, rfl, ho0, ho1, hb⟩
      refine ⟨_, rfl, ?_⟩
      have HO646 := zm (Kd.R_lower (Kd.R_new' ho0 (Kd.R_lt (zr HO_636000))) (below_size zB))
      replace HO_636000 := zm (Kd.R_elder' (zr HO_636000) (Kd.R_base ho0) hb)
      have HO649 := zm (Kd.R_lower (Kd.R_new' ho1 (Kd.R_lt (zr HO_636001))) (below_size zB))
      replace HO_636001 := zm (Kd.R_elder' (zr HO_636001) (Kd.R_base ho1) hb)
      replace BK614 := zm (blk_below (zb BK614) hb)
      replace BK628 := zm (blk_below (zb BK628) hb)
      replace BK635 := zm (blk_below (zb BK635) hb)
      replace BK642 := zm (blk_below (zb BK642) hb)
      replace HB := zm (below_step zB hb)
      (try clear hb)
      (try clear hb2)
      (try clear hk)
      (try clear hi)
      (try clear ho0)
      (try clear ho1)
      obtain ⟨Ao67, co67, eo67⟩ := Kd.R_slice HO646.out
      (first | subst eo67 | (injection eo67 with f1_ f2_ f3_; have f4_ := f1_.symm; have f5_ := f3_.symm; clear f1_ f2_ f3_; subst f4_; subst f5_))
      obtain ⟨Ao68, co68, eo68⟩ := Kd.R_slice HO649.out
      (first | subst eo68 | (injection eo68 with f1_ f2_ f3_; have f4_ := f1_.symm; have f5_ := f3_.symm; clear f1_ f2_ f3_; subst f4_; subst f5_))
      refine hK.out _ _ ⟨(blk_cell BK635.out 0).trans rfl, (blk_cell BK635.out 1).trans rfl, (blk_cell BK614.out 0).trans rfl, (blk_cell BK614.out 1).trans rfl⟩ (fun hHeld => ?_)
      clear hK K
      refine zn ?_
      refine zo 3 (some 43) (zl 5 15) (fun K hK => ?_)
      refine zgo #[.agg #[.slice Ao27 t629.length co27, .slice Ao31 t632.length co31], .agg #[.slice Ao67 t644.length co67, .slice Ao68 t647.length co68]] Try.func39 ?_
      with_reducible refine (laws_eqState.calls kj11 _ _ t629 _ _ t632 _ _ t644 _ _ t647 false _ ?side1 ?side2 ?side3 ?side4 ?side5 ?side6 ?side7 ?side8 A58.out).mono ?_
      (case side1 => repeat (first | exact (Kd.R_reads' HO_636000.out).2.2 | (with_reducible refine Kd.C_alloc ?_ _) | (with_reducible refine Kd.C_drewN ?_ _) | (with_reducible refine Kd.C_drew ?_)))
      (case side2 => exact (Kd.R_reads' HO_636000.out).2.1)
      (case side3 => repeat (first | exact (Kd.R_reads' HO_636001.out).2.2 | (with_reducible refine Kd.C_alloc ?_ _) | (with_reducible refine Kd.C_drewN ?_ _) | (with_reducible refine Kd.C_drew ?_)))
      (case side4 => exact (Kd.R_reads' HO_636001.out).2.1)
      (case side5 => repeat (first | exact (Kd.R_reads' HO646.out).2.2 | (with_reducible refine Kd.C_alloc ?_ _) | (with_reducible refine Kd.C_drewN ?_ _) | (with_reducible refine Kd.C_drew ?_)))
      (case side6 => exact (Kd.R_reads' HO646.out).2.1)
      (case side7 => repeat (first | exact (Kd.R_reads' HO649.out).2.2 | (with_reducible refine Kd.C_alloc ?_ _) | (with_reducible refine Kd.C_drewN ?_ _) | (with_reducible refine Kd.C_drew ?_)))
      (case side8 => exact (Kd.R_reads' HO649.out).2.1)
      rintro e w69 ⟨rfl, hb⟩
      refine ⟨_, rfl, ?_⟩
      replace HO_636000 := zm (Kd.R_below (zr HO_636000) hb)
      replace HO_636001 := zm (Kd.R_below (zr HO_636001) hb)
      replace HO646 := zm (Kd.R_below (zr HO646) hb)
      replace HO649 := zm (Kd.R_below (zr HO649) hb)
      replace BK614 := zm (blk_below (zb BK614) hb)
      replace BK628 := zm (blk_below (zb BK628) hb)
      replace BK635 := zm (blk_below (zb BK635) hb)
      replace BK642 := zm (blk_below (zb BK642) hb)
      replace HB := zm (below_step zB hb)
      (try clear hb)
      (try clear hb2)
      (try clear hk)
      (try clear hi)
      refine hK.out _ _ ⟨(blk_cell BK635.out 0).trans rfl, (blk_cell BK635.out 1).trans rfl, (blk_cell BK614.out 0).trans rfl, (blk_cell BK614.out 1).trans rfl⟩ (fun hHeld => ?_)
      clear hK K
      refine zn ?_
      refine zp 4 (some 44) (zl 5 31) ?_
      refine done_ (by kernel_rfl) ?_
      try go_wp2
      go_ret
      exact ⟨zE, zB⟩

def laws_FnExactLookup.Pure : Prop := ∀ (l0_0 : List (S105)) (l0_1 : List (S108)) (a1 : Int), l0_0.length ≤ maxLen → l0_0.length * 56 ≤ 140737488351232 → (∀ x ∈ l0_0, ((Lit.int .i64 x.f0).wf = true ∧ ((Lit.int .i64 x.f1.f0).wf = true ∧ ((Lit.int .i64 x.f1.f1).wf = true ∧ ((Lit.int .i64 x.f1.f2).wf = true ∧ ((Lit.int .i64 x.f1.f3).wf = true ∧ x.f1.f4.size ≤ 140737488351232)))))) → l0_1.length ≤ maxLen → l0_1.length * 16 ≤ 140737488351232 → (∀ x ∈ l0_1, ((Lit.int .i64 x.f0).wf = true ∧ (Lit.int .i64 x.f1).wf = true)) → (Lit.int .i64 a1).wf = true → ∃ k, laws_FnExactLookup.f k l0_0 l0_1 a1 = some true

end Go.Proofs.Ythljdiniccpobaa.P
