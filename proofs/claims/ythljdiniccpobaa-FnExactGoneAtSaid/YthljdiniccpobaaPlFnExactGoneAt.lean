-- by a program of this session, for this seat
import Derived.Test.YthljdiniccpobaaZ
import Derived.Test.YthljdiniccpobaaP0
import Derived.Test.YthljdiniccpobaaPab
import Derived.Test.YthljdiniccpobaaPac
import Derived.Test.YthljdiniccpobaaPad
import Derived.Test.YthljdiniccpobaaPal
namespace Go.Proofs.Ythljdiniccpobaa.P
open Go.RowKit Go.Proofs.YthljdiniccpobaaW.PrintWords Go.Proofs.YthljdiniccpobaaW.PrintLast Go.Proofs.YthljdiniccpobaaW.PrintMore Go.Proofs.Ythljdiniccpobaa.Z
attribute [local go_sem] max2_int min2_int max_two min_two max_three min_three max_four min_four   -- for this text's walks alone
set_option linter.unusedVariables false
set_option linter.unusedSimpArgs false

/-! ### laws_FnExactGoneAt: function 11 -/
def laws_FnExactGoneAt.f (k : Nat) (l0_0 : List (S105)) (l0_1 : List (S108)) (a1 : Int) : Option (Bool) := (laws_szState.f k l0_0 l0_1 1048576).bind fun t549 => (if t549 < 0 then (some true) else ((laws_toState.f k l0_0 l0_1).bind fun bt550 => ((spec_GoneAt.f k bt550.1 bt550.2 a1).bind fun t556 => ((laws_toState.f k l0_0 l0_1).bind fun bt557 => ((impl_GoneAt.f k bt557.1 bt557.2 a1).bind fun t564 => (if t564 = t556 then ((laws_toState.f k l0_0 l0_1).bind fun bt565 => ((laws_eqState.f k bt557.1 bt557.2 bt565.1 bt565.2).bind fun t571 => (if t571 = true then (some true) else (some false)))) else (some false)))))))
theorem laws_FnExactGoneAt.mono : ∀ a0 a1 a2 k, LeO (laws_FnExactGoneAt.f k a0 a1 a2) (laws_FnExactGoneAt.f (k + 1) a0 a1 a2) := by
 intro a0 a1 a2 k
 unfold laws_FnExactGoneAt.f
 repeat' first
   | (with_reducible exact impl_GoneAt.mono _ _ _ _)
   | (with_reducible exact laws_eqState.mono _ _ _ _ _)
   | (with_reducible exact laws_szState.mono _ _ _ _)
   | (with_reducible exact laws_toState.mono _ _ _)
   | (with_reducible exact spec_GoneAt.mono _ _ _ _)
   | (with_reducible exact LeO.refl _)
   | (with_reducible exact LeO.none _)
   | (with_reducible refine LeO.ite ?_ ?_)
   | (with_reducible refine LeO.bind ?_ (fun _ => ?_))
   | exact impl_GoneAt.mono _ _ _ _
   | exact laws_eqState.mono _ _ _ _ _
   | exact laws_szState.mono _ _ _ _
   | exact laws_toState.mono _ _ _
   | exact spec_GoneAt.mono _ _ _ _
   | exact LeO.none _
   | refine LeO.ite ?_ ?_
   | refine LeO.bind ?_ (fun _ => ?_)
set_option maxHeartbeats 8000000 in
set_option maxRecDepth 100000 in
theorem laws_FnExactGoneAt.calls (k : Nat) (A0_0 : Option Addr) (c0_0 : Nat) (l0_0 : List (S105)) (A0_1 : Option Addr) (c0_1 : Nat) (l0_1 : List (S108)) (a1 : Int) (r : Bool) (w : World) (hr0_0 : Kd.C k105 w A0_0 l0_0.length l0_0) (hc0_0 : l0_0.length ≤ c0_0) (hr0_1 : Kd.C k108 w A0_1 l0_1.length l0_1) (hc0_1 : l0_1.length ≤ c0_1) (h : laws_FnExactGoneAt.f k l0_0 l0_1 a1 = some r) :
  Calls Try.prog 11 #[.agg #[.slice A0_0 l0_0.length c0_0, .slice A0_1 l0_1.length c0_1], .int .i64 a1] w fun e w' => e = .returned (.bool r) ∧ Below w.heap.size w w' := by
 have hu48 := Try.underlying48
 have hu55 := Try.underlying55
 have HR0_0 := zm hr0_0
 have HC0_0 := zm hc0_0
 clear hr0_0 hc0_0
 have HR0_1 := zm hr0_1
 have HC0_1 := zm hc0_1
 clear hr0_1 hc0_1
 have HB := zm (Below.refl w.heap.size w)
 have H : ((laws_szState.f k l0_0 l0_1 1048576).bind fun t549 => (if t549 < 0 then (some true) else ((laws_toState.f k l0_0 l0_1).bind fun bt550 => ((spec_GoneAt.f k bt550.1 bt550.2 a1).bind fun t556 => ((laws_toState.f k l0_0 l0_1).bind fun bt557 => ((impl_GoneAt.f k bt557.1 bt557.2 a1).bind fun t564 => (if t564 = t556 then ((laws_toState.f k l0_0 l0_1).bind fun bt565 => ((laws_eqState.f k bt557.1 bt557.2 bt565.1 bt565.2).bind fun t571 => (if t571 = true then (some true) else (some false)))) else (some false)))))))) = some r := h
 clear h
 replace H := Option.bind_eq_some_iff.mp H
 obtain ⟨t549, A30, H⟩ := H
 replace H : (if t549 < 0 then (some true) else ((laws_toState.f k l0_0 l0_1).bind fun bt550 => ((spec_GoneAt.f k bt550.1 bt550.2 a1).bind fun t556 => ((laws_toState.f k l0_0 l0_1).bind fun bt557 => ((impl_GoneAt.f k bt557.1 bt557.2 a1).bind fun t564 => (if t564 = t556 then ((laws_toState.f k l0_0 l0_1).bind fun bt565 => ((laws_eqState.f k bt557.1 bt557.2 bt565.1 bt565.2).bind fun t571 => (if t571 = true then (some true) else (some false)))) else (some false))))))) = some r := H
 have A3 := zm A30
 clear A30
 by_cases c4 : t549 < 0
 ·rw [if_pos c4] at H
  have c4b0 : decide (t549 < 0) = true := decide_eq_true c4
  clear c4
  obtain rfl := Option.some.inj H
  go_enter Try.func11, Try.ntmps11
  go_wp2_with (first | ((with_reducible refine gate_dst (N := 2) rfl ?_); refine zbox 2 #[.slice A0_0 l0_0.length c0_0, .slice A0_1 l0_1.length c0_1] 48 ?_; intro gb548 hg w5 hbox hb; have BK548 := zm (hbox); have GW548 := zge w hg zB; have GE548 := zge w hg zB; replace HB := zm (below_step zB hb); clear hb hbox hg; have hcz6_0 : w5.cell? ⟨gb548, 0, none⟩ = some (.slice A0_0 l0_0.length c0_0) := (blk_cell BK548.out 0).trans rfl; have hcz6_1 : w5.cell? ⟨gb548, 1, none⟩ = some (.slice A0_1 l0_1.length c0_1) := (blk_cell BK548.out 1).trans rfl; have hfz6_0 := blk_frozen BK548.out 0; have hfz6_1 := blk_frozen BK548.out 1) | ((with_reducible refine gate_callee (f := 35) rfl ?_); refine zg (some 11) #[.agg #[.slice A0_0 l0_0.length c0_0, .slice A0_1 l0_1.length c0_1], .int .i64 1048576] Try.func35 ?_; (with_reducible refine (laws_szState.calls k _ _ l0_0 _ _ l0_1 1048576 t549 _ (zk (Kd.C_below HR0_0.out HB.out)) HC0_0.out (zk (Kd.C_below HR0_1.out HB.out)) HC0_1.out A3.out).mono ?_); rintro e w7 ⟨rfl, hb⟩; refine ⟨_, rfl, ?_⟩; replace BK548 := zm (blk_below (zb BK548) hb); replace HB := zm (below_step zB hb); clear hb))
  go_ret
  exact ⟨zE, zB⟩
 ·rw [if_neg c4] at H
  have c4b0 : decide (t549 < 0) = false := decide_eq_false c4
  clear c4
  replace H := Option.bind_eq_some_iff.mp H
  obtain ⟨⟨t550, t553⟩, A80, H⟩ := H
  replace H : ((spec_GoneAt.f k t550 t553 a1).bind fun t556 => ((laws_toState.f k l0_0 l0_1).bind fun bt557 => ((impl_GoneAt.f k bt557.1 bt557.2 a1).bind fun t564 => (if t564 = t556 then ((laws_toState.f k l0_0 l0_1).bind fun bt565 => ((laws_eqState.f k bt557.1 bt557.2 bt565.1 bt565.2).bind fun t571 => (if t571 = true then (some true) else (some false)))) else (some false))))) = some r := H
  have A8 := zm A80
  clear A80
  replace H := Option.bind_eq_some_iff.mp H
  obtain ⟨t556, A90, H⟩ := H
  replace H : ((laws_toState.f k l0_0 l0_1).bind fun bt557 => ((impl_GoneAt.f k bt557.1 bt557.2 a1).bind fun t564 => (if t564 = t556 then ((laws_toState.f k l0_0 l0_1).bind fun bt565 => ((laws_eqState.f k bt557.1 bt557.2 bt565.1 bt565.2).bind fun t571 => (if t571 = true then (some true) else (some false)))) else (some false)))) = some r := H
  have A9 := zm A90
  clear A90
  replace H := Option.bind_eq_some_iff.mp H
  obtain ⟨⟨t557, t560⟩, A100, H⟩ := H
  replace H : ((impl_GoneAt.f k t557 t560 a1).bind fun t564 => (if t564 = t556 then ((laws_toState.f k l0_0 l0_1).bind fun bt565 => ((laws_eqState.f k t557 t560 bt565.1 bt565.2).bind fun t571 => (if t571 = true then (some true) else (some false)))) else (some false))) = some r := H
  have A10 := zm A100
  clear A100
  replace H := Option.bind_eq_some_iff.mp H
  obtain ⟨t564, A110, H⟩ := H
  replace H : (if t564 = t556 then ((laws_toState.f k l0_0 l0_1).bind fun bt565 => ((laws_eqState.f k t557 t560 bt565.1 bt565.2).bind fun t571 => (if t571 = true then (some true) else (some false)))) else (some false)) = some r := H
  have A11 := zm A110
  clear A110
  by_cases c12 : t564 = t556
  ·rw [if_pos c12] at H
   have c12b0 : (t564 == t556) = true := beq_iff_eq.mpr c12
   have c12b1 : (t564 != t556) = false := bne_eq_false_iff_eq.mpr c12
   clear c12
   replace H := Option.bind_eq_some_iff.mp H
   obtain ⟨⟨t565, t568⟩, A130, H⟩ := H
   replace H : ((laws_eqState.f k t557 t560 t565 t568).bind fun t571 => (if t571 = true then (some true) else (some false))) = some r := H
   have A13 := zm A130
   clear A130
   replace H := Option.bind_eq_some_iff.mp H
   obtain ⟨t571, A140, H⟩ := H
   replace H : (if t571 = true then (some true) else (some false)) = some r := H
   have A14 := zm A140
   clear A140
   by_cases c15 : t571 = true
   ·subst c15
    have H1 : (some true) = some r := by rw [if_pos rfl] at H; exact H
    clear H
    have H := H1
    clear H1
    obtain rfl := Option.some.inj H
    go_enter Try.func11, Try.ntmps11
    try go_wp2_with (first | ((with_reducible refine gate_dst (N := 2) rfl ?_); refine zbox 2 #[.slice A0_0 l0_0.length c0_0, .slice A0_1 l0_1.length c0_1] 48 ?_; intro gb548 hg w16 hbox hb; have BK548 := zm (hbox); have GW548 := zge w hg zB; have GE548 := zge w hg zB; replace HB := zm (below_step zB hb); clear hb hbox hg; have hcz17_0 : w16.cell? ⟨gb548, 0, none⟩ = some (.slice A0_0 l0_0.length c0_0) := (blk_cell BK548.out 0).trans rfl; have hcz17_1 : w16.cell? ⟨gb548, 1, none⟩ = some (.slice A0_1 l0_1.length c0_1) := (blk_cell BK548.out 1).trans rfl; have hfz17_0 := blk_frozen BK548.out 0; have hfz17_1 := blk_frozen BK548.out 1) | ((with_reducible refine gate_callee (f := 35) rfl ?_); refine zg (some 11) #[.agg #[.slice A0_0 l0_0.length c0_0, .slice A0_1 l0_1.length c0_1], .int .i64 1048576] Try.func35 ?_; (with_reducible refine (laws_szState.calls k _ _ l0_0 _ _ l0_1 1048576 t549 _ (zk (Kd.C_below HR0_0.out HB.out)) HC0_0.out (zk (Kd.C_below HR0_1.out HB.out)) HC0_1.out A3.out).mono ?_); rintro e w18 ⟨rfl, hb⟩; refine ⟨_, rfl, ?_⟩; replace BK548 := zm (blk_below (zb BK548) hb); replace HB := zm (below_step zB hb); clear hb; have hcz19_0 : w18.cell? ⟨gb548, 0, none⟩ = some (.slice A0_0 l0_0.length c0_0) := (blk_cell BK548.out 0).trans rfl; have hcz19_1 : w18.cell? ⟨gb548, 1, none⟩ = some (.slice A0_1 l0_1.length c0_1) := (blk_cell BK548.out 1).trans rfl; have hfz19_0 := blk_frozen BK548.out 0; have hfz19_1 := blk_frozen BK548.out 1) | ((with_reducible refine gate_callee (f := 37) rfl ?_); refine zg (some 15) #[.agg #[.slice A0_0 l0_0.length c0_0, .slice A0_1 l0_1.length c0_1]] Try.func37 ?_; (with_reducible refine (laws_toState.calls k _ _ l0_0 _ _ l0_1 t550 t553 _ (zk (Kd.C_below HR0_0.out HB.out)) HC0_0.out (zk (Kd.C_below HR0_1.out HB.out)) HC0_1.out A8.out).mono ?_); rintro e w20 ⟨v551, v554, rfl, ho0, ho1, hb⟩; refine ⟨_, rfl, ?_⟩; have HO552 := zm (Kd.R_lower ho0 (below_size zB)); have HO555 := zm (Kd.R_lower ho1 (below_size zB)); replace BK548 := zm (blk_below (zb BK548) hb); replace HB := zm (below_step zB hb); clear hb ho0 ho1; obtain ⟨Ao21, co21, eo21⟩ := Kd.R_slice HO552.out; subst eo21; obtain ⟨Ao22, co22, eo22⟩ := Kd.R_slice HO555.out; subst eo22) | ((with_reducible refine gate_callee (f := 50) rfl ?_); refine zg (some 17) #[.agg #[.slice Ao21 t550.length co21, .slice Ao22 t553.length co22], .int .i64 a1] Try.func50 ?_; (with_reducible refine (spec_GoneAt.calls k _ _ t550 _ _ t553 a1 t556 _ ?side1 ?side2 ?side3 ?side4 A9.out).mono ?_); (case side1 => repeat (first | exact (Kd.R_reads' HO552.out).2.2 | (with_reducible refine Kd.C_alloc ?_ _) | (with_reducible refine Kd.C_drewN ?_ _) | (with_reducible refine Kd.C_drew ?_))); (case side2 => exact (Kd.R_reads' HO552.out).2.1); (case side3 => repeat (first | exact (Kd.R_reads' HO555.out).2.2 | (with_reducible refine Kd.C_alloc ?_ _) | (with_reducible refine Kd.C_drewN ?_ _) | (with_reducible refine Kd.C_drew ?_))); (case side4 => exact (Kd.R_reads' HO555.out).2.1); rintro e w23 ⟨rfl, hb⟩; refine ⟨_, rfl, ?_⟩; replace HO552 := zm (Kd.R_below (zr HO552) hb); replace HO555 := zm (Kd.R_below (zr HO555) hb); replace BK548 := zm (blk_below (zb BK548) hb); replace HB := zm (below_step zB hb); clear hb; have hcz24_0 : w23.cell? ⟨gb548, 0, none⟩ = some (.slice A0_0 l0_0.length c0_0) := (blk_cell BK548.out 0).trans rfl; have hcz24_1 : w23.cell? ⟨gb548, 1, none⟩ = some (.slice A0_1 l0_1.length c0_1) := (blk_cell BK548.out 1).trans rfl; have hfz24_0 := blk_frozen BK548.out 0; have hfz24_1 := blk_frozen BK548.out 1) | ((with_reducible refine gate_callee (f := 37) rfl ?_); refine zg (some 19) #[.agg #[.slice A0_0 l0_0.length c0_0, .slice A0_1 l0_1.length c0_1]] Try.func37 ?_; (with_reducible refine (laws_toState.calls k _ _ l0_0 _ _ l0_1 t557 t560 _ (zk (Kd.C_below HR0_0.out HB.out)) HC0_0.out (zk (Kd.C_below HR0_1.out HB.out)) HC0_1.out A10.out).mono ?_); rintro e w25 ⟨v558, v561, rfl, ho0, ho1, hb⟩; refine ⟨_, rfl, ?_⟩; have HO559 := zm (Kd.R_lower (Kd.R_new' ho0 (Kd.R_lt (zr HO552))) (below_size zB)); replace HO552 := zm (Kd.R_elder' (zr HO552) (Kd.R_base ho0) hb); have HO562 := zm (Kd.R_lower (Kd.R_new' ho1 (Kd.R_lt (zr HO555))) (below_size zB)); replace HO555 := zm (Kd.R_elder' (zr HO555) (Kd.R_base ho1) hb); replace BK548 := zm (blk_below (zb BK548) hb); replace HB := zm (below_step zB hb); clear hb ho0 ho1) | ((with_reducible refine gate_dst (N := 7) rfl ?_); refine zbox 7 #[.slice none 0 0, .slice none 0 0] 55 ?_; intro gb563 hg w26 hbox hb; replace HO552 := zm (Kd.R_below (zr HO552) hb); replace HO555 := zm (Kd.R_below (zr HO555) hb); replace HO559 := zm (Kd.R_below (zr HO559) hb); replace HO562 := zm (Kd.R_below (zr HO562) hb); have BK563 := zm (hbox); have GW563 := zge w hg zB; have GE563 := zge w hg zB; replace HB := zm (below_step zB hb); have NB548_563 := zlt hg (zb BK548); have NB563_548 := zgt hg (zb BK548); replace BK548 := zm (blk_below (zb BK548) hb); clear hb hbox hg; obtain ⟨Ao27, co27, eo27⟩ := Kd.R_slice HO559.out; subst eo27; have hnb28 := NB563_548.out; have hnc28 := NB548_563.out; have hcz29_0 : w26.cell? ⟨gb563, 0, none⟩ = some (.slice none 0 0) := (blk_cell BK563.out 0).trans rfl; have hcz29_1 : w26.cell? ⟨gb563, 1, none⟩ = some (.slice none 0 0) := (blk_cell BK563.out 1).trans rfl; have hfz29_0 := blk_frozen BK563.out 0; have hfz29_1 := blk_frozen BK563.out 1; obtain ⟨Ao30, co30, eo30⟩ := Kd.R_slice HO562.out; subst eo30) | ((with_reducible refine gate_callee (f := 51) rfl ?_); refine zg (some 22) #[.agg #[.slice Ao27 t557.length co27, .slice Ao30 t560.length co30], .int .i64 a1] Try.func51 ?_; (with_reducible refine (impl_GoneAt.calls k _ _ t557 _ _ t560 a1 t564 _ ?side1 ?side2 ?side3 ?side4 A11.out).mono ?_); (case side1 => refine (Kd.R_reads' (e := 84) (base := w.heap.size) (ok := fun k_ => (True ∧ some k_ ≠ (.slice Ao21 t550.length co21 : Value).ownBlock)) (n := t557.length) (c := co27) ?_).2.2; exact (zrs <| (Kd.R_mono (zfr (zfr (Kd.R_types HO559.out BK563.out (by decide)))) (fun _ h_ => h_.1)))); (case side2 => exact (Kd.R_reads' HO559.out).2.1); (case side3 => refine (Kd.R_reads' (e := 89) (base := w.heap.size) (ok := fun k_ => (True ∧ some k_ ≠ (.slice Ao22 t553.length co22 : Value).ownBlock)) (n := t560.length) (c := co30) ?_).2.2; exact (zrs <| (Kd.R_mono (zfr (zfr (Kd.R_types HO562.out BK563.out (by decide)))) (fun _ h_ => h_.1)))); (case side4 => exact (Kd.R_reads' HO562.out).2.1); rintro e w31 ⟨rfl, hb⟩; refine ⟨_, rfl, ?_⟩; replace HO552 := zm (Kd.R_below (zrs <| (Kd.R_mono (zfr (zfr (Kd.R_types HO552.out BK563.out (by decide)))) (fun _ h_ => h_.1))) hb); replace HO555 := zm (Kd.R_below (zrs <| (Kd.R_mono (zfr (zfr (Kd.R_types HO555.out BK563.out (by decide)))) (fun _ h_ => h_.1))) hb); replace HO559 := zm (Kd.R_below (zrs <| (Kd.R_mono (zfr (zfr (Kd.R_types HO559.out BK563.out (by decide)))) (fun _ h_ => h_.1))) hb); replace HO562 := zm (Kd.R_below (zrs <| (Kd.R_mono (zfr (zfr (Kd.R_types HO562.out BK563.out (by decide)))) (fun _ h_ => h_.1))) hb); replace BK548 := zm (blk_below (g := gb548) (o := .cells #[.slice A0_0 l0_0.length c0_0, .slice A0_1 l0_1.length c0_1] 48 (0, 0)) (zfar (zfar (zb BK548) NB548_563) NB548_563) hb); replace BK563 := zm (blk_below (g := gb563) (o := .cells #[.slice Ao27 t557.length co27, .slice Ao30 t560.length co30] 55 (0, 0)) (zput (zput (zb BK563) 0) 1) hb); replace HB := zm (below_step zB hb); clear hb))
    replace HO552 := zm (Kd.R_drew HO552.out)
    replace HO555 := zm (Kd.R_drew HO555.out)
    replace HO559 := zm (Kd.R_drew HO559.out)
    replace HO562 := zm (Kd.R_drew HO562.out)
    replace BK548 := zm (blk_drew BK548.out)
    replace BK563 := zm (blk_drew BK563.out)
    replace HB := zm (below_drew1 HB.out)
    refine start_ (n := 5) (S := fun w' => w'.cell? ⟨gb563, 0, none⟩ = some (.slice Ao27 t557.length co27) ∧ w'.cell? ⟨gb563, 1, none⟩ = some (.slice Ao30 t560.length co30) ∧ w'.cell? ⟨gb548, 0, none⟩ = some (.slice A0_0 l0_0.length c0_0) ∧ w'.cell? ⟨gb548, 1, none⟩ = some (.slice A0_1 l0_1.length c0_1)) (ds := []) (zl 5 0) (by kernel_rfl) rfl rfl ⟨(blk_cell BK563.out 0).trans rfl, (blk_cell BK563.out 1).trans rfl, (blk_cell BK548.out 0).trans rfl, (blk_cell BK548.out 1).trans rfl⟩ (fun hHeld => ?_)
    generalize w31.drew = w32 at HO552 HO555 HO559 HO562 BK548 BK563 HB hHeld ⊢
    refine zt 0 (some 26) (zl 5 1) ?_
    refine zt 1 (some 27) (zl 5 3) ?_
    refine zo 2 (some 28) (zl 5 7) (fun K hK => ?_)
    refine zgo #[.agg #[.slice A0_0 l0_0.length c0_0, .slice A0_1 l0_1.length c0_1]] Try.func37 ?_
    with_reducible refine (laws_toState.calls k _ _ l0_0 _ _ l0_1 t565 t568 _ (zk (Kd.C_below HR0_0.out HB.out)) HC0_0.out (zk (Kd.C_below HR0_1.out HB.out)) HC0_1.out A13.out).mono ?_
    rintro e w33 ⟨v566, v569, rfl, ho0, ho1, hb⟩
    refine ⟨_, rfl, ?_⟩
    have HO567 := zm (Kd.R_lower (Kd.R_new' (Kd.R_new' ho0 (Kd.R_lt (zr HO552))) (Kd.R_lt (zr HO559))) (below_size zB))
    replace HO552 := zm (Kd.R_elder' (zr HO552) (Kd.R_base ho0) hb)
    replace HO559 := zm (Kd.R_elder' (zr HO559) (Kd.R_base ho0) hb)
    have HO570 := zm (Kd.R_lower (Kd.R_new' (Kd.R_new' ho1 (Kd.R_lt (zr HO555))) (Kd.R_lt (zr HO562))) (below_size zB))
    replace HO555 := zm (Kd.R_elder' (zr HO555) (Kd.R_base ho1) hb)
    replace HO562 := zm (Kd.R_elder' (zr HO562) (Kd.R_base ho1) hb)
    replace BK548 := zm (blk_below (zb BK548) hb)
    replace BK563 := zm (blk_below (zb BK563) hb)
    replace HB := zm (below_step zB hb)
    (try clear hb)
    (try clear hb2)
    (try clear hk)
    (try clear hi)
    (try clear ho0)
    (try clear ho1)
    obtain ⟨Ao34, co34, eo34⟩ := Kd.R_slice HO567.out
    (first | subst eo34 | (injection eo34 with f1_ f2_ f3_; have f4_ := f1_.symm; have f5_ := f3_.symm; clear f1_ f2_ f3_; subst f4_; subst f5_))
    obtain ⟨Ao35, co35, eo35⟩ := Kd.R_slice HO570.out
    (first | subst eo35 | (injection eo35 with f1_ f2_ f3_; have f4_ := f1_.symm; have f5_ := f3_.symm; clear f1_ f2_ f3_; subst f4_; subst f5_))
    refine hK.out _ _ ⟨(blk_cell BK563.out 0).trans rfl, (blk_cell BK563.out 1).trans rfl, (blk_cell BK548.out 0).trans rfl, (blk_cell BK548.out 1).trans rfl⟩ (fun hHeld => ?_)
    clear hK K
    refine zn ?_
    refine zo 3 (some 29) (zl 5 15) (fun K hK => ?_)
    refine zgo #[.agg #[.slice Ao27 t557.length co27, .slice Ao30 t560.length co30], .agg #[.slice Ao34 t565.length co34, .slice Ao35 t568.length co35]] Try.func39 ?_
    with_reducible refine (laws_eqState.calls k _ _ t557 _ _ t560 _ _ t565 _ _ t568 true _ ?side1 ?side2 ?side3 ?side4 ?side5 ?side6 ?side7 ?side8 A14.out).mono ?_
    (case side1 => repeat (first | exact (Kd.R_reads' HO559.out).2.2 | (with_reducible refine Kd.C_alloc ?_ _) | (with_reducible refine Kd.C_drewN ?_ _) | (with_reducible refine Kd.C_drew ?_)))
    (case side2 => exact (Kd.R_reads' HO559.out).2.1)
    (case side3 => repeat (first | exact (Kd.R_reads' HO562.out).2.2 | (with_reducible refine Kd.C_alloc ?_ _) | (with_reducible refine Kd.C_drewN ?_ _) | (with_reducible refine Kd.C_drew ?_)))
    (case side4 => exact (Kd.R_reads' HO562.out).2.1)
    (case side5 => repeat (first | exact (Kd.R_reads' HO567.out).2.2 | (with_reducible refine Kd.C_alloc ?_ _) | (with_reducible refine Kd.C_drewN ?_ _) | (with_reducible refine Kd.C_drew ?_)))
    (case side6 => exact (Kd.R_reads' HO567.out).2.1)
    (case side7 => repeat (first | exact (Kd.R_reads' HO570.out).2.2 | (with_reducible refine Kd.C_alloc ?_ _) | (with_reducible refine Kd.C_drewN ?_ _) | (with_reducible refine Kd.C_drew ?_)))
    (case side8 => exact (Kd.R_reads' HO570.out).2.1)
    rintro e w36 ⟨rfl, hb⟩
    refine ⟨_, rfl, ?_⟩
    replace HO552 := zm (Kd.R_below (zr HO552) hb)
    replace HO555 := zm (Kd.R_below (zr HO555) hb)
    replace HO559 := zm (Kd.R_below (zr HO559) hb)
    replace HO562 := zm (Kd.R_below (zr HO562) hb)
    replace HO567 := zm (Kd.R_below (zr HO567) hb)
    replace HO570 := zm (Kd.R_below (zr HO570) hb)
    replace BK548 := zm (blk_below (zb BK548) hb)
    replace BK563 := zm (blk_below (zb BK563) hb)
    replace HB := zm (below_step zB hb)
    (try clear hb)
    (try clear hb2)
    (try clear hk)
    (try clear hi)
    refine hK.out _ _ ⟨(blk_cell BK563.out 0).trans rfl, (blk_cell BK563.out 1).trans rfl, (blk_cell BK548.out 0).trans rfl, (blk_cell BK548.out 1).trans rfl⟩ (fun hHeld => ?_)
    clear hK K
    refine zn ?_
    refine zp 4 (some 30) (zl 5 31) ?_
    refine done_ (by kernel_rfl) ?_
    try go_wp2
    go_ret
    exact ⟨zE, zB⟩
   ·replace c15 := Bool.eq_false_iff.mpr c15
    subst c15
    have H1 : (some false) = some r := by rw [if_neg (show ¬ (false = true) by decide)] at H; exact H
    clear H
    have H := H1
    clear H1
    obtain rfl := Option.some.inj H
    go_enter Try.func11, Try.ntmps11
    try go_wp2_with (first | ((with_reducible refine gate_dst (N := 2) rfl ?_); refine zbox 2 #[.slice A0_0 l0_0.length c0_0, .slice A0_1 l0_1.length c0_1] 48 ?_; intro gb548 hg w37 hbox hb; have BK548 := zm (hbox); have GW548 := zge w hg zB; have GE548 := zge w hg zB; replace HB := zm (below_step zB hb); clear hb hbox hg; have hcz38_0 : w37.cell? ⟨gb548, 0, none⟩ = some (.slice A0_0 l0_0.length c0_0) := (blk_cell BK548.out 0).trans rfl; have hcz38_1 : w37.cell? ⟨gb548, 1, none⟩ = some (.slice A0_1 l0_1.length c0_1) := (blk_cell BK548.out 1).trans rfl; have hfz38_0 := blk_frozen BK548.out 0; have hfz38_1 := blk_frozen BK548.out 1) | ((with_reducible refine gate_callee (f := 35) rfl ?_); refine zg (some 11) #[.agg #[.slice A0_0 l0_0.length c0_0, .slice A0_1 l0_1.length c0_1], .int .i64 1048576] Try.func35 ?_; (with_reducible refine (laws_szState.calls k _ _ l0_0 _ _ l0_1 1048576 t549 _ (zk (Kd.C_below HR0_0.out HB.out)) HC0_0.out (zk (Kd.C_below HR0_1.out HB.out)) HC0_1.out A3.out).mono ?_); rintro e w39 ⟨rfl, hb⟩; refine ⟨_, rfl, ?_⟩; replace BK548 := zm (blk_below (zb BK548) hb); replace HB := zm (below_step zB hb); clear hb; have hcz40_0 : w39.cell? ⟨gb548, 0, none⟩ = some (.slice A0_0 l0_0.length c0_0) := (blk_cell BK548.out 0).trans rfl; have hcz40_1 : w39.cell? ⟨gb548, 1, none⟩ = some (.slice A0_1 l0_1.length c0_1) := (blk_cell BK548.out 1).trans rfl; have hfz40_0 := blk_frozen BK548.out 0; have hfz40_1 := blk_frozen BK548.out 1) | ((with_reducible refine gate_callee (f := 37) rfl ?_); refine zg (some 15) #[.agg #[.slice A0_0 l0_0.length c0_0, .slice A0_1 l0_1.length c0_1]] Try.func37 ?_; (with_reducible refine (laws_toState.calls k _ _ l0_0 _ _ l0_1 t550 t553 _ (zk (Kd.C_below HR0_0.out HB.out)) HC0_0.out (zk (Kd.C_below HR0_1.out HB.out)) HC0_1.out A8.out).mono ?_); rintro e w41 ⟨v551, v554, rfl, ho0, ho1, hb⟩; refine ⟨_, rfl, ?_⟩; have HO552 := zm (Kd.R_lower ho0 (below_size zB)); have HO555 := zm (Kd.R_lower ho1 (below_size zB)); replace BK548 := zm (blk_below (zb BK548) hb); replace HB := zm (below_step zB hb); clear hb ho0 ho1; obtain ⟨Ao42, co42, eo42⟩ := Kd.R_slice HO552.out; subst eo42; obtain ⟨Ao43, co43, eo43⟩ := Kd.R_slice HO555.out; subst eo43) | ((with_reducible refine gate_callee (f := 50) rfl ?_); refine zg (some 17) #[.agg #[.slice Ao42 t550.length co42, .slice Ao43 t553.length co43], .int .i64 a1] Try.func50 ?_; (with_reducible refine (spec_GoneAt.calls k _ _ t550 _ _ t553 a1 t556 _ ?side1 ?side2 ?side3 ?side4 A9.out).mono ?_); (case side1 => repeat (first | exact (Kd.R_reads' HO552.out).2.2 | (with_reducible refine Kd.C_alloc ?_ _) | (with_reducible refine Kd.C_drewN ?_ _) | (with_reducible refine Kd.C_drew ?_))); (case side2 => exact (Kd.R_reads' HO552.out).2.1); (case side3 => repeat (first | exact (Kd.R_reads' HO555.out).2.2 | (with_reducible refine Kd.C_alloc ?_ _) | (with_reducible refine Kd.C_drewN ?_ _) | (with_reducible refine Kd.C_drew ?_))); (case side4 => exact (Kd.R_reads' HO555.out).2.1); rintro e w44 ⟨rfl, hb⟩; refine ⟨_, rfl, ?_⟩; replace HO552 := zm (Kd.R_below (zr HO552) hb); replace HO555 := zm (Kd.R_below (zr HO555) hb); replace BK548 := zm (blk_below (zb BK548) hb); replace HB := zm (below_step zB hb); clear hb; have hcz45_0 : w44.cell? ⟨gb548, 0, none⟩ = some (.slice A0_0 l0_0.length c0_0) := (blk_cell BK548.out 0).trans rfl; have hcz45_1 : w44.cell? ⟨gb548, 1, none⟩ = some (.slice A0_1 l0_1.length c0_1) := (blk_cell BK548.out 1).trans rfl; have hfz45_0 := blk_frozen BK548.out 0; have hfz45_1 := blk_frozen BK548.out 1) | ((with_reducible refine gate_callee (f := 37) rfl ?_); refine zg (some 19) #[.agg #[.slice A0_0 l0_0.length c0_0, .slice A0_1 l0_1.length c0_1]] Try.func37 ?_; (with_reducible refine (laws_toState.calls k _ _ l0_0 _ _ l0_1 t557 t560 _ (zk (Kd.C_below HR0_0.out HB.out)) HC0_0.out (zk (Kd.C_below HR0_1.out HB.out)) HC0_1.out A10.out).mono ?_); rintro e w46 ⟨v558, v561, rfl, ho0, ho1, hb⟩; refine ⟨_, rfl, ?_⟩; have HO559 := zm (Kd.R_lower (Kd.R_new' ho0 (Kd.R_lt (zr HO552))) (below_size zB)); replace HO552 := zm (Kd.R_elder' (zr HO552) (Kd.R_base ho0) hb); have HO562 := zm (Kd.R_lower (Kd.R_new' ho1 (Kd.R_lt (zr HO555))) (below_size zB)); replace HO555 := zm (Kd.R_elder' (zr HO555) (Kd.R_base ho1) hb); replace BK548 := zm (blk_below (zb BK548) hb); replace HB := zm (below_step zB hb); clear hb ho0 ho1) | ((with_reducible refine gate_dst (N := 7) rfl ?_); refine zbox 7 #[.slice none 0 0, .slice none 0 0] 55 ?_; intro gb563 hg w47 hbox hb; replace HO552 := zm (Kd.R_below (zr HO552) hb); replace HO555 := zm (Kd.R_below (zr HO555) hb); replace HO559 := zm (Kd.R_below (zr HO559) hb); replace HO562 := zm (Kd.R_below (zr HO562) hb); have BK563 := zm (hbox); have GW563 := zge w hg zB; have GE563 := zge w hg zB; replace HB := zm (below_step zB hb); have NB548_563 := zlt hg (zb BK548); have NB563_548 := zgt hg (zb BK548); replace BK548 := zm (blk_below (zb BK548) hb); clear hb hbox hg; obtain ⟨Ao48, co48, eo48⟩ := Kd.R_slice HO559.out; subst eo48; have hnb49 := NB563_548.out; have hnc49 := NB548_563.out; have hcz50_0 : w47.cell? ⟨gb563, 0, none⟩ = some (.slice none 0 0) := (blk_cell BK563.out 0).trans rfl; have hcz50_1 : w47.cell? ⟨gb563, 1, none⟩ = some (.slice none 0 0) := (blk_cell BK563.out 1).trans rfl; have hfz50_0 := blk_frozen BK563.out 0; have hfz50_1 := blk_frozen BK563.out 1; obtain ⟨Ao51, co51, eo51⟩ := Kd.R_slice HO562.out; subst eo51) | ((with_reducible refine gate_callee (f := 51) rfl ?_); refine zg (some 22) #[.agg #[.slice Ao48 t557.length co48, .slice Ao51 t560.length co51], .int .i64 a1] Try.func51 ?_; (with_reducible refine (impl_GoneAt.calls k _ _ t557 _ _ t560 a1 t564 _ ?side1 ?side2 ?side3 ?side4 A11.out).mono ?_); (case side1 => refine (Kd.R_reads' (e := 84) (base := w.heap.size) (ok := fun k_ => (True ∧ some k_ ≠ (.slice Ao42 t550.length co42 : Value).ownBlock)) (n := t557.length) (c := co48) ?_).2.2; exact (zrs <| (Kd.R_mono (zfr (zfr (Kd.R_types HO559.out BK563.out (by decide)))) (fun _ h_ => h_.1)))); (case side2 => exact (Kd.R_reads' HO559.out).2.1); (case side3 => refine (Kd.R_reads' (e := 89) (base := w.heap.size) (ok := fun k_ => (True ∧ some k_ ≠ (.slice Ao43 t553.length co43 : Value).ownBlock)) (n := t560.length) (c := co51) ?_).2.2; exact (zrs <| (Kd.R_mono (zfr (zfr (Kd.R_types HO562.out BK563.out (by decide)))) (fun _ h_ => h_.1)))); (case side4 => exact (Kd.R_reads' HO562.out).2.1); rintro e w52 ⟨rfl, hb⟩; refine ⟨_, rfl, ?_⟩; replace HO552 := zm (Kd.R_below (zrs <| (Kd.R_mono (zfr (zfr (Kd.R_types HO552.out BK563.out (by decide)))) (fun _ h_ => h_.1))) hb); replace HO555 := zm (Kd.R_below (zrs <| (Kd.R_mono (zfr (zfr (Kd.R_types HO555.out BK563.out (by decide)))) (fun _ h_ => h_.1))) hb); replace HO559 := zm (Kd.R_below (zrs <| (Kd.R_mono (zfr (zfr (Kd.R_types HO559.out BK563.out (by decide)))) (fun _ h_ => h_.1))) hb); replace HO562 := zm (Kd.R_below (zrs <| (Kd.R_mono (zfr (zfr (Kd.R_types HO562.out BK563.out (by decide)))) (fun _ h_ => h_.1))) hb); replace BK548 := zm (blk_below (g := gb548) (o := .cells #[.slice A0_0 l0_0.length c0_0, .slice A0_1 l0_1.length c0_1] 48 (0, 0)) (zfar (zfar (zb BK548) NB548_563) NB548_563) hb); replace BK563 := zm (blk_below (g := gb563) (o := .cells #[.slice Ao48 t557.length co48, .slice Ao51 t560.length co51] 55 (0, 0)) (zput (zput (zb BK563) 0) 1) hb); replace HB := zm (below_step zB hb); clear hb))
    replace HO552 := zm (Kd.R_drew HO552.out)
    replace HO555 := zm (Kd.R_drew HO555.out)
    replace HO559 := zm (Kd.R_drew HO559.out)
    replace HO562 := zm (Kd.R_drew HO562.out)
    replace BK548 := zm (blk_drew BK548.out)
    replace BK563 := zm (blk_drew BK563.out)
    replace HB := zm (below_drew1 HB.out)
    refine start_ (n := 5) (S := fun w' => w'.cell? ⟨gb563, 0, none⟩ = some (.slice Ao48 t557.length co48) ∧ w'.cell? ⟨gb563, 1, none⟩ = some (.slice Ao51 t560.length co51) ∧ w'.cell? ⟨gb548, 0, none⟩ = some (.slice A0_0 l0_0.length c0_0) ∧ w'.cell? ⟨gb548, 1, none⟩ = some (.slice A0_1 l0_1.length c0_1)) (ds := []) (zl 5 0) (by kernel_rfl) rfl rfl ⟨(blk_cell BK563.out 0).trans rfl, (blk_cell BK563.out 1).trans rfl, (blk_cell BK548.out 0).trans rfl, (blk_cell BK548.out 1).trans rfl⟩ (fun hHeld => ?_)
    generalize w52.drew = w53 at HO552 HO555 HO559 HO562 BK548 BK563 HB hHeld ⊢
    refine zt 0 (some 26) (zl 5 1) ?_
    refine zt 1 (some 27) (zl 5 3) ?_
    refine zo 2 (some 28) (zl 5 7) (fun K hK => ?_)
    refine zgo #[.agg #[.slice A0_0 l0_0.length c0_0, .slice A0_1 l0_1.length c0_1]] Try.func37 ?_
    with_reducible refine (laws_toState.calls k _ _ l0_0 _ _ l0_1 t565 t568 _ (zk (Kd.C_below HR0_0.out HB.out)) HC0_0.out (zk (Kd.C_below HR0_1.out HB.out)) HC0_1.out A13.out).mono ?_
    rintro e w54 ⟨v566, v569, rfl, ho0, ho1, hb⟩
    refine ⟨_, rfl, ?_⟩
    have HO567 := zm (Kd.R_lower (Kd.R_new' (Kd.R_new' ho0 (Kd.R_lt (zr HO552))) (Kd.R_lt (zr HO559))) (below_size zB))
    replace HO552 := zm (Kd.R_elder' (zr HO552) (Kd.R_base ho0) hb)
    replace HO559 := zm (Kd.R_elder' (zr HO559) (Kd.R_base ho0) hb)
    have HO570 := zm (Kd.R_lower (Kd.R_new' (Kd.R_new' ho1 (Kd.R_lt (zr HO555))) (Kd.R_lt (zr HO562))) (below_size zB))
    replace HO555 := zm (Kd.R_elder' (zr HO555) (Kd.R_base ho1) hb)
    replace HO562 := zm (Kd.R_elder' (zr HO562) (Kd.R_base ho1) hb)
    replace BK548 := zm (blk_below (zb BK548) hb)
    replace BK563 := zm (blk_below (zb BK563) hb)
    replace HB := zm (below_step zB hb)
    (try clear hb)
    (try clear hb2)
    (try clear hk)
    (try clear hi)
    (try clear ho0)
    (try clear ho1)
    obtain ⟨Ao55, co55, eo55⟩ := Kd.R_slice HO567.out
    (first | subst eo55 | (injection eo55 with f1_ f2_ f3_; have f4_ := f1_.symm; have f5_ := f3_.symm; clear f1_ f2_ f3_; subst f4_; subst f5_))
    obtain ⟨Ao56, co56, eo56⟩ := Kd.R_slice HO570.out
    (first | subst eo56 | (injection eo56 with f1_ f2_ f3_; have f4_ := f1_.symm; have f5_ := f3_.symm; clear f1_ f2_ f3_; subst f4_; subst f5_))
    refine hK.out _ _ ⟨(blk_cell BK563.out 0).trans rfl, (blk_cell BK563.out 1).trans rfl, (blk_cell BK548.out 0).trans rfl, (blk_cell BK548.out 1).trans rfl⟩ (fun hHeld => ?_)
    clear hK K
    refine zn ?_
    refine zo 3 (some 29) (zl 5 15) (fun K hK => ?_)
    refine zgo #[.agg #[.slice Ao48 t557.length co48, .slice Ao51 t560.length co51], .agg #[.slice Ao55 t565.length co55, .slice Ao56 t568.length co56]] Try.func39 ?_
    with_reducible refine (laws_eqState.calls k _ _ t557 _ _ t560 _ _ t565 _ _ t568 false _ ?side1 ?side2 ?side3 ?side4 ?side5 ?side6 ?side7 ?side8 A14.out).mono ?_
    (case side1 => repeat (first | exact (Kd.R_reads' HO559.out).2.2 | (with_reducible refine Kd.C_alloc ?_ _) | (with_reducible refine Kd.C_drewN ?_ _) | (with_reducible refine Kd.C_drew ?_)))
    (case side2 => exact (Kd.R_reads' HO559.out).2.1)
    (case side3 => repeat (first | exact (Kd.R_reads' HO562.out).2.2 | (with_reducible refine Kd.C_alloc ?_ _) | (with_reducible refine Kd.C_drewN ?_ _) | (with_reducible refine Kd.C_drew ?_)))
    (case side4 => exact (Kd.R_reads' HO562.out).2.1)
    (case side5 => repeat (first | exact (Kd.R_reads' HO567.out).2.2 | (with_reducible refine Kd.C_alloc ?_ _) | (with_reducible refine Kd.C_drewN ?_ _) | (with_reducible refine Kd.C_drew ?_)))
    (case side6 => exact (Kd.R_reads' HO567.out).2.1)
    (case side7 => repeat (first | exact (Kd.R_reads' HO570.out).2.2 | (with_reducible refine Kd.C_alloc ?_ _) | (with_reducible refine Kd.C_drewN ?_ _) | (with_reducible refine Kd.C_drew ?_)))
    (case side8 => exact (Kd.R_reads' HO570.out).2.1)
    rintro e w57 ⟨rfl, hb⟩
    refine ⟨_, rfl, ?_⟩
    replace HO552 := zm (Kd.R_below (zr HO552) hb)
    replace HO555 := zm (Kd.R_below (zr HO555) hb)
    replace HO559 := zm (Kd.R_below (zr HO559) hb)
    replace HO562 := zm (Kd.R_below (zr HO562) hb)
    replace HO567 := zm (Kd.R_below (zr HO567) hb)
    replace HO570 := zm (Kd.R_below (zr HO570) hb)
    replace BK548 := zm (blk_below (zb BK548) hb)
    replace BK563 := zm (blk_below (zb BK563) hb)
    replace HB := zm (below_step zB hb)
    (try clear hb)
    (try clear hb2)
    (try clear hk)
    (try clear hi)
    refine hK.out _ _ ⟨(blk_cell BK563.out 0).trans rfl, (blk_cell BK563.out 1).trans rfl, (blk_cell BK548.out 0).trans rfl, (blk_cell BK548.out 1).trans rfl⟩ (fun hHeld => ?_)
    clear hK K
    refine zn ?_
    refine zp 4 (some 30) (zl 5 31) ?_
    refine done_ (by kernel_rfl) ?_
    try go_wp2
    go_ret
    exact ⟨zE, zB⟩
  ·rw [if_neg c12] at H
   have c12b0 : (t564 == t556) = false := beq_eq_false_iff_ne.mpr c12
   have c12b1 : (t564 != t556) = true := bne_iff_ne.mpr c12
   obtain rfl := Option.some.inj H
   go_enter Try.func11, Try.ntmps11
   go_wp2_with (first | ((with_reducible refine gate_dst (N := 2) rfl ?_); refine zbox 2 #[.slice A0_0 l0_0.length c0_0, .slice A0_1 l0_1.length c0_1] 48 ?_; intro gb548 hg w58 hbox hb; have BK548 := zm (hbox); have GW548 := zge w hg zB; have GE548 := zge w hg zB; replace HB := zm (below_step zB hb); clear hb hbox hg; have hcz59_0 : w58.cell? ⟨gb548, 0, none⟩ = some (.slice A0_0 l0_0.length c0_0) := (blk_cell BK548.out 0).trans rfl; have hcz59_1 : w58.cell? ⟨gb548, 1, none⟩ = some (.slice A0_1 l0_1.length c0_1) := (blk_cell BK548.out 1).trans rfl; have hfz59_0 := blk_frozen BK548.out 0; have hfz59_1 := blk_frozen BK548.out 1) | ((with_reducible refine gate_callee (f := 35) rfl ?_); refine zg (some 11) #[.agg #[.slice A0_0 l0_0.length c0_0, .slice A0_1 l0_1.length c0_1], .int .i64 1048576] Try.func35 ?_; (with_reducible refine (laws_szState.calls k _ _ l0_0 _ _ l0_1 1048576 t549 _ (zk (Kd.C_below HR0_0.out HB.out)) HC0_0.out (zk (Kd.C_below HR0_1.out HB.out)) HC0_1.out A3.out).mono ?_); rintro e w60 ⟨rfl, hb⟩; refine ⟨_, rfl, ?_⟩; replace BK548 := zm (blk_below (zb BK548) hb); replace HB := zm (below_step zB hb); clear hb; have hcz61_0 : w60.cell? ⟨gb548, 0, none⟩ = some (.slice A0_0 l0_0.length c0_0) := (blk_cell BK548.out 0).trans rfl; have hcz61_1 : w60.cell? ⟨gb548, 1, none⟩ = some (.slice A0_1 l0_1.length c0_1) := (blk_cell BK548.out 1).trans rfl; have hfz61_0 := blk_frozen BK548.out 0; have hfz61_1 := blk_frozen BK548.out 1) | ((with_reducible refine gate_callee (f := 37) rfl ?_); refine zg (some 15) #[.agg #[.slice A0_0 l0_0.length c0_0, .slice A0_1 l0_1.length c0_1]] Try.func37 ?_; (with_reducible refine (laws_toState.calls k _ _ l0_0 _ _ l0_1 t550 t553 _ (zk (Kd.C_below HR0_0.out HB.out)) HC0_0.out (zk (Kd.C_below HR0_1.out HB.out)) HC0_1.out A8.out).mono ?_); rintro e w62 ⟨v551, v554, rfl, ho0, ho1, hb⟩; refine ⟨_, rfl, ?_⟩; have HO552 := zm (Kd.R_lower ho0 (below_size zB)); have HO555 := zm (Kd.R_lower ho1 (below_size zB)); replace BK548 := zm (blk_below (zb BK548) hb); replace HB := zm (below_step zB hb); clear hb ho0 ho1; obtain ⟨Ao63, co63, eo63⟩ := Kd.R_slice HO552.out; subst eo63; obtain ⟨Ao64, co64, eo64⟩ := Kd.R_slice HO555.out; subst eo64) | ((with_reducible refine gate_callee (f := 50) rfl ?_); refine zg (some 17) #[.agg #[.slice Ao63 t550.length co63, .slice Ao64 t553.length co64], .int .i64 a1] Try.func50 ?_; (with_reducible refine (spec_GoneAt.calls k _ _ t550 _ _ t553 a1 t556 _ ?side1 ?side2 ?side3 ?side4 A9.out).mono ?_); (case side1 => repeat (first | exact (Kd.R_reads' HO552.out).2.2 | (with_reducible refine Kd.C_alloc ?_ _) | (with_reducible refine Kd.C_drewN ?_ _) | (with_reducible refine Kd.C_drew ?_))); (case side2 => exact (Kd.R_reads' HO552.out).2.1); (case side3 => repeat (first | exact (Kd.R_reads' HO555.out).2.2 | (with_reducible refine Kd.C_alloc ?_ _) | (with_reducible refine Kd.C_drewN ?_ _) | (with_reducible refine Kd.C_drew ?_))); (case side4 => exact (Kd.R_reads' HO555.out).2.1); rintro e w65 ⟨rfl, hb⟩; refine ⟨_, rfl, ?_⟩; replace HO552 := zm (Kd.R_below (zr HO552) hb); replace HO555 := zm (Kd.R_below (zr HO555) hb); replace BK548 := zm (blk_below (zb BK548) hb); replace HB := zm (below_step zB hb); clear hb; have hcz66_0 : w65.cell? ⟨gb548, 0, none⟩ = some (.slice A0_0 l0_0.length c0_0) := (blk_cell BK548.out 0).trans rfl; have hcz66_1 : w65.cell? ⟨gb548, 1, none⟩ = some (.slice A0_1 l0_1.length c0_1) := (blk_cell BK548.out 1).trans rfl; have hfz66_0 := blk_frozen BK548.out 0; have hfz66_1 := blk_frozen BK548.out 1) | ((with_reducible refine gate_callee (f := 37) rfl ?_); refine zg (some 19) #[.agg #[.slice A0_0 l0_0.length c0_0, .slice A0_1 l0_1.length c0_1]] Try.func37 ?_; (with_reducible refine (laws_toState.calls k _ _ l0_0 _ _ l0_1 t557 t560 _ (zk (Kd.C_below HR0_0.out HB.out)) HC0_0.out (zk (Kd.C_below HR0_1.out HB.out)) HC0_1.out A10.out).mono ?_); rintro e w67 ⟨v558, v561, rfl, ho0, ho1, hb⟩; refine ⟨_, rfl, ?_⟩; have HO559 := zm (Kd.R_lower (Kd.R_new' ho0 (Kd.R_lt (zr HO552))) (below_size zB)); replace HO552 := zm (Kd.R_elder' (zr HO552) (Kd.R_base ho0) hb); have HO562 := zm (Kd.R_lower (Kd.R_new' ho1 (Kd.R_lt (zr HO555))) (below_size zB)); replace HO555 := zm (Kd.R_elder' (zr HO555) (Kd.R_base ho1) hb); replace BK548 := zm (blk_below (zb BK548) hb); replace HB := zm (below_step zB hb); clear hb ho0 ho1) | ((with_reducible refine gate_dst (N := 7) rfl ?_); refine zbox 7 #[.slice none 0 0, .slice none 0 0] 55 ?_; intro gb563 hg w68 hbox hb; replace HO552 := zm (Kd.R_below (zr HO552) hb); replace HO555 := zm (Kd.R_below (zr HO555) hb); replace HO559 := zm (Kd.R_below (zr HO559) hb); replace HO562 := zm (Kd.R_below (zr HO562) hb); have BK563 := zm (hbox); have GW563 := zge w hg zB; have GE563 := zge w hg zB; replace HB := zm (below_step zB hb); have NB548_563 := zlt hg (zb BK548); have NB563_548 := zgt hg (zb BK548); replace BK548 := zm (blk_below (zb BK548) hb); clear hb hbox hg; obtain ⟨Ao69, co69, eo69⟩ := Kd.R_slice HO559.out; subst eo69; have hnb70 := NB563_548.out; have hnc70 := NB548_563.out; have hcz71_0 : w68.cell? ⟨gb563, 0, none⟩ = some (.slice none 0 0) := (blk_cell BK563.out 0).trans rfl; have hcz71_1 : w68.cell? ⟨gb563, 1, none⟩ = some (.slice none 0 0) := (blk_cell BK563.out 1).trans rfl; have hfz71_0 := blk_frozen BK563.out 0; have hfz71_1 := blk_frozen BK563.out 1; obtain ⟨Ao72, co72, eo72⟩ := Kd.R_slice HO562.out; subst eo72) | ((with_reducible refine gate_callee (f := 51) rfl ?_); refine zg (some 22) #[.agg #[.slice Ao69 t557.length co69, .slice Ao72 t560.length co72], .int .i64 a1] Try.func51 ?_; (with_reducible refine (impl_GoneAt.calls k _ _ t557 _ _ t560 a1 t564 _ ?side1 ?side2 ?side3 ?side4 A11.out).mono ?_); (case side1 => refine (Kd.R_reads' (e := 84) (base := w.heap.size) (ok := fun k_ => (True ∧ some k_ ≠ (.slice Ao63 t550.length co63 : Value).ownBlock)) (n := t557.length) (c := co69) ?_).2.2; exact (zrs <| (Kd.R_mono (zfr (zfr (Kd.R_types HO559.out BK563.out (by decide)))) (fun _ h_ => h_.1)))); (case side2 => exact (Kd.R_reads' HO559.out).2.1); (case side3 => refine (Kd.R_reads' (e := 89) (base := w.heap.size) (ok := fun k_ => (True ∧ some k_ ≠ (.slice Ao64 t553.length co64 : Value).ownBlock)) (n := t560.length) (c := co72) ?_).2.2; exact (zrs <| (Kd.R_mono (zfr (zfr (Kd.R_types HO562.out BK563.out (by decide)))) (fun _ h_ => h_.1)))); (case side4 => exact (Kd.R_reads' HO562.out).2.1); rintro e w73 ⟨rfl, hb⟩; refine ⟨_, rfl, ?_⟩; replace HO552 := zm (Kd.R_below (zrs <| (Kd.R_mono (zfr (zfr (Kd.R_types HO552.out BK563.out (by decide)))) (fun _ h_ => h_.1))) hb); replace HO555 := zm (Kd.R_below (zrs <| (Kd.R_mono (zfr (zfr (Kd.R_types HO555.out BK563.out (by decide)))) (fun _ h_ => h_.1))) hb); replace HO559 := zm (Kd.R_below (zrs <| (Kd.R_mono (zfr (zfr (Kd.R_types HO559.out BK563.out (by decide)))) (fun _ h_ => h_.1))) hb); replace HO562 := zm (Kd.R_below (zrs <| (Kd.R_mono (zfr (zfr (Kd.R_types HO562.out BK563.out (by decide)))) (fun _ h_ => h_.1))) hb); replace BK548 := zm (blk_below (g := gb548) (o := .cells #[.slice A0_0 l0_0.length c0_0, .slice A0_1 l0_1.length c0_1] 48 (0, 0)) (zfar (zfar (zb BK548) NB548_563) NB548_563) hb); replace BK563 := zm (blk_below (g := gb563) (o := .cells #[.slice Ao69 t557.length co69, .slice Ao72 t560.length co72] 55 (0, 0)) (zput (zput (zb BK563) 0) 1) hb); replace HB := zm (below_step zB hb); clear hb))
   go_ret
   exact ⟨zE, zB⟩

def laws_FnExactGoneAt.Pure : Prop := ∀ (l0_0 : List (S105)) (l0_1 : List (S108)) (a1 : Int), l0_0.length ≤ maxLen → l0_0.length * 56 ≤ 140737488351232 → (∀ x ∈ l0_0, ((Lit.int .i64 x.f0).wf = true ∧ ((Lit.int .i64 x.f1.f0).wf = true ∧ ((Lit.int .i64 x.f1.f1).wf = true ∧ ((Lit.int .i64 x.f1.f2).wf = true ∧ ((Lit.int .i64 x.f1.f3).wf = true ∧ x.f1.f4.size ≤ 140737488351232)))))) → l0_1.length ≤ maxLen → l0_1.length * 16 ≤ 140737488351232 → (∀ x ∈ l0_1, ((Lit.int .i64 x.f0).wf = true ∧ (Lit.int .i64 x.f1).wf = true)) → (Lit.int .i64 a1).wf = true → ∃ k, laws_FnExactGoneAt.f k l0_0 l0_1 a1 = some true

end Go.Proofs.Ythljdiniccpobaa.P
