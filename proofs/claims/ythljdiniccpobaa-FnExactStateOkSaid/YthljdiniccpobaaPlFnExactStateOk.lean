-- by a program of this session, for this seat
import Derived.Test.YthljdiniccpobaaZ
import Derived.Test.YthljdiniccpobaaP0
import Derived.Test.YthljdiniccpobaaPab
import Derived.Test.YthljdiniccpobaaPac
import Derived.Test.YthljdiniccpobaaPad
import Derived.Test.YthljdiniccpobaaPag
import Derived.Test.YthljdiniccpobaaPai
namespace Go.Proofs.Ythljdiniccpobaa.P
open Go.RowKit Go.Proofs.YthljdiniccpobaaW.PrintWords Go.Proofs.YthljdiniccpobaaW.PrintLast Go.Proofs.YthljdiniccpobaaW.PrintMore Go.Proofs.Ythljdiniccpobaa.Z
attribute [local go_sem] max2_int min2_int max_two min_two max_three min_three max_four min_four   -- for this text's walks alone
set_option linter.unusedVariables false
set_option linter.unusedSimpArgs false

/-! ### laws_FnExactStateOk: function 9 -/
def laws_FnExactStateOk.f (k : Nat) (l0_0 : List (S105)) (l0_1 : List (S108)) : Option (Bool) := (laws_szState.f k l0_0 l0_1 1048576).bind fun t414 => (if t414 < 0 then (some true) else ((laws_toState.f k l0_0 l0_1).bind fun bt415 => ((spec_StateOk.f k bt415.1 bt415.2).bind fun t421 => ((laws_toState.f k l0_0 l0_1).bind fun bt422 => ((impl_StateOk.f k bt422.1 bt422.2).bind fun t429 => (if (t429 != t421) = true then (some false) else ((laws_toState.f k l0_0 l0_1).bind fun bt430 => ((laws_eqState.f k bt422.1 bt422.2 bt430.1 bt430.2).bind fun t436 => (if t436 = true then (some true) else (some false))))))))))
theorem laws_FnExactStateOk.mono : ∀ a0 a1 k, LeO (laws_FnExactStateOk.f k a0 a1) (laws_FnExactStateOk.f (k + 1) a0 a1) := by
 intro a0 a1 k
 unfold laws_FnExactStateOk.f
 repeat' first
   | (with_reducible exact impl_StateOk.mono _ _ _)
   | (with_reducible exact laws_eqState.mono _ _ _ _ _)
   | (with_reducible exact laws_szState.mono _ _ _ _)
   | (with_reducible exact laws_toState.mono _ _ _)
   | (with_reducible exact spec_StateOk.mono _ _ _)
   | (with_reducible exact LeO.refl _)
   | (with_reducible exact LeO.none _)
   | (with_reducible refine LeO.ite ?_ ?_)
   | (with_reducible refine LeO.bind ?_ (fun _ => ?_))
   | exact impl_StateOk.mono _ _ _
   | exact laws_eqState.mono _ _ _ _ _
   | exact laws_szState.mono _ _ _ _
   | exact laws_toState.mono _ _ _
   | exact spec_StateOk.mono _ _ _
   | exact LeO.none _
   | refine LeO.ite ?_ ?_
   | refine LeO.bind ?_ (fun _ => ?_)
set_option maxHeartbeats 8000000 in
set_option maxRecDepth 100000 in
theorem laws_FnExactStateOk.calls (k : Nat) (A0_0 : Option Addr) (c0_0 : Nat) (l0_0 : List (S105)) (A0_1 : Option Addr) (c0_1 : Nat) (l0_1 : List (S108)) (r : Bool) (w : World) (hr0_0 : Kd.C k105 w A0_0 l0_0.length l0_0) (hc0_0 : l0_0.length ≤ c0_0) (hr0_1 : Kd.C k108 w A0_1 l0_1.length l0_1) (hc0_1 : l0_1.length ≤ c0_1) (h : laws_FnExactStateOk.f k l0_0 l0_1 = some r) :
  Calls Try.prog 9 #[.agg #[.slice A0_0 l0_0.length c0_0, .slice A0_1 l0_1.length c0_1]] w fun e w' => e = .returned (.bool r) ∧ Below w.heap.size w w' := by
 have hu48 := Try.underlying48
 have hu55 := Try.underlying55
 have HR0_0 := zm hr0_0
 have HC0_0 := zm hc0_0
 clear hr0_0 hc0_0
 have HR0_1 := zm hr0_1
 have HC0_1 := zm hc0_1
 clear hr0_1 hc0_1
 have HB := zm (Below.refl w.heap.size w)
 have H : ((laws_szState.f k l0_0 l0_1 1048576).bind fun t414 => (if t414 < 0 then (some true) else ((laws_toState.f k l0_0 l0_1).bind fun bt415 => ((spec_StateOk.f k bt415.1 bt415.2).bind fun t421 => ((laws_toState.f k l0_0 l0_1).bind fun bt422 => ((impl_StateOk.f k bt422.1 bt422.2).bind fun t429 => (if (t429 != t421) = true then (some false) else ((laws_toState.f k l0_0 l0_1).bind fun bt430 => ((laws_eqState.f k bt422.1 bt422.2 bt430.1 bt430.2).bind fun t436 => (if t436 = true then (some true) else (some false))))))))))) = some r := h
 clear h
 replace H := Option.bind_eq_some_iff.mp H
 obtain ⟨t414, A20, H⟩ := H
 replace H : (if t414 < 0 then (some true) else ((laws_toState.f k l0_0 l0_1).bind fun bt415 => ((spec_StateOk.f k bt415.1 bt415.2).bind fun t421 => ((laws_toState.f k l0_0 l0_1).bind fun bt422 => ((impl_StateOk.f k bt422.1 bt422.2).bind fun t429 => (if (t429 != t421) = true then (some false) else ((laws_toState.f k l0_0 l0_1).bind fun bt430 => ((laws_eqState.f k bt422.1 bt422.2 bt430.1 bt430.2).bind fun t436 => (if t436 = true then (some true) else (some false)))))))))) = some r := H
 have A2 := zm A20
 clear A20
 by_cases c3 : t414 < 0
 ·rw [if_pos c3] at H
  have c3b0 : decide (t414 < 0) = true := decide_eq_true c3
  clear c3
  obtain rfl := Option.some.inj H
  go_enter Try.func9, Try.ntmps9
  go_wp2_with (first | ((with_reducible refine gate_dst (N := 1) rfl ?_); refine zbox 1 #[.slice A0_0 l0_0.length c0_0, .slice A0_1 l0_1.length c0_1] 48 ?_; intro gb413 hg w4 hbox hb; have BK413 := zm (hbox); have GW413 := zge w hg zB; have GE413 := zge w hg zB; replace HB := zm (below_step zB hb); clear hb hbox hg; have hcz5_0 : w4.cell? ⟨gb413, 0, none⟩ = some (.slice A0_0 l0_0.length c0_0) := (blk_cell BK413.out 0).trans rfl; have hcz5_1 : w4.cell? ⟨gb413, 1, none⟩ = some (.slice A0_1 l0_1.length c0_1) := (blk_cell BK413.out 1).trans rfl; have hfz5_0 := blk_frozen BK413.out 0; have hfz5_1 := blk_frozen BK413.out 1) | ((with_reducible refine gate_callee (f := 35) rfl ?_); refine zg (some 9) #[.agg #[.slice A0_0 l0_0.length c0_0, .slice A0_1 l0_1.length c0_1], .int .i64 1048576] Try.func35 ?_; (with_reducible refine (laws_szState.calls k _ _ l0_0 _ _ l0_1 1048576 t414 _ (zk (Kd.C_below HR0_0.out HB.out)) HC0_0.out (zk (Kd.C_below HR0_1.out HB.out)) HC0_1.out A2.out).mono ?_); rintro e w6 ⟨rfl, hb⟩; refine ⟨_, rfl, ?_⟩; replace BK413 := zm (blk_below (zb BK413) hb); replace HB := zm (below_step zB hb); clear hb))
  go_ret
  exact ⟨zE, zB⟩
 ·rw [if_neg c3] at H
  have c3b0 : decide (t414 < 0) = false := decide_eq_false c3
  clear c3
  replace H := Option.bind_eq_some_iff.mp H
  obtain ⟨⟨t415, t418⟩, A70, H⟩ := H
  replace H : ((spec_StateOk.f k t415 t418).bind fun t421 => ((laws_toState.f k l0_0 l0_1).bind fun bt422 => ((impl_StateOk.f k bt422.1 bt422.2).bind fun t429 => (if (t429 != t421) = true then (some false) else ((laws_toState.f k l0_0 l0_1).bind fun bt430 => ((laws_eqState.f k bt422.1 bt422.2 bt430.1 bt430.2).bind fun t436 => (if t436 = true then (some true) else (some false)))))))) = some r := H
  have A7 := zm A70
  clear A70
  replace H := Option.bind_eq_some_iff.mp H
  obtain ⟨t421, A80, H⟩ := H
  replace H : ((laws_toState.f k l0_0 l0_1).bind fun bt422 => ((impl_StateOk.f k bt422.1 bt422.2).bind fun t429 => (if (t429 != t421) = true then (some false) else ((laws_toState.f k l0_0 l0_1).bind fun bt430 => ((laws_eqState.f k bt422.1 bt422.2 bt430.1 bt430.2).bind fun t436 => (if t436 = true then (some true) else (some false))))))) = some r := H
  have A8 := zm A80
  clear A80
  replace H := Option.bind_eq_some_iff.mp H
  obtain ⟨⟨t422, t425⟩, A90, H⟩ := H
  replace H : ((impl_StateOk.f k t422 t425).bind fun t429 => (if (t429 != t421) = true then (some false) else ((laws_toState.f k l0_0 l0_1).bind fun bt430 => ((laws_eqState.f k t422 t425 bt430.1 bt430.2).bind fun t436 => (if t436 = true then (some true) else (some false)))))) = some r := H
  have A9 := zm A90
  clear A90
  replace H := Option.bind_eq_some_iff.mp H
  obtain ⟨t429, A100, H⟩ := H
  replace H : (if (t429 != t421) = true then (some false) else ((laws_toState.f k l0_0 l0_1).bind fun bt430 => ((laws_eqState.f k t422 t425 bt430.1 bt430.2).bind fun t436 => (if t436 = true then (some true) else (some false))))) = some r := H
  have A10 := zm A100
  clear A100
  by_cases c11 : (t429 != t421) = true
  ·rw [if_pos c11] at H
   have c11b0 : (t429 != t421) = true := c11
   (try (have c11b1 : decide (t429 = t421) = false := by simpa using c11))
   (try (have c11b2 : (t429 == t421) = false := by simpa using c11))
   (try (have c11b3 : ¬ (t429 = t421) := by simpa using c11))
   clear c11
   obtain rfl := Option.some.inj H
   go_enter Try.func9, Try.ntmps9
   go_wp2_with (first | ((with_reducible refine gate_dst (N := 1) rfl ?_); refine zbox 1 #[.slice A0_0 l0_0.length c0_0, .slice A0_1 l0_1.length c0_1] 48 ?_; intro gb413 hg w12 hbox hb; have BK413 := zm (hbox); have GW413 := zge w hg zB; have GE413 := zge w hg zB; replace HB := zm (below_step zB hb); clear hb hbox hg; have hcz13_0 : w12.cell? ⟨gb413, 0, none⟩ = some (.slice A0_0 l0_0.length c0_0) := (blk_cell BK413.out 0).trans rfl; have hcz13_1 : w12.cell? ⟨gb413, 1, none⟩ = some (.slice A0_1 l0_1.length c0_1) := (blk_cell BK413.out 1).trans rfl; have hfz13_0 := blk_frozen BK413.out 0; have hfz13_1 := blk_frozen BK413.out 1) | ((with_reducible refine gate_callee (f := 35) rfl ?_); refine zg (some 9) #[.agg #[.slice A0_0 l0_0.length c0_0, .slice A0_1 l0_1.length c0_1], .int .i64 1048576] Try.func35 ?_; (with_reducible refine (laws_szState.calls k _ _ l0_0 _ _ l0_1 1048576 t414 _ (zk (Kd.C_below HR0_0.out HB.out)) HC0_0.out (zk (Kd.C_below HR0_1.out HB.out)) HC0_1.out A2.out).mono ?_); rintro e w14 ⟨rfl, hb⟩; refine ⟨_, rfl, ?_⟩; replace BK413 := zm (blk_below (zb BK413) hb); replace HB := zm (below_step zB hb); clear hb; have hcz15_0 : w14.cell? ⟨gb413, 0, none⟩ = some (.slice A0_0 l0_0.length c0_0) := (blk_cell BK413.out 0).trans rfl; have hcz15_1 : w14.cell? ⟨gb413, 1, none⟩ = some (.slice A0_1 l0_1.length c0_1) := (blk_cell BK413.out 1).trans rfl; have hfz15_0 := blk_frozen BK413.out 0; have hfz15_1 := blk_frozen BK413.out 1) | ((with_reducible refine gate_callee (f := 37) rfl ?_); refine zg (some 13) #[.agg #[.slice A0_0 l0_0.length c0_0, .slice A0_1 l0_1.length c0_1]] Try.func37 ?_; (with_reducible refine (laws_toState.calls k _ _ l0_0 _ _ l0_1 t415 t418 _ (zk (Kd.C_below HR0_0.out HB.out)) HC0_0.out (zk (Kd.C_below HR0_1.out HB.out)) HC0_1.out A7.out).mono ?_); rintro e w16 ⟨v416, v419, rfl, ho0, ho1, hb⟩; refine ⟨_, rfl, ?_⟩; have HO417 := zm (Kd.R_lower ho0 (below_size zB)); have HO420 := zm (Kd.R_lower ho1 (below_size zB)); replace BK413 := zm (blk_below (zb BK413) hb); replace HB := zm (below_step zB hb); clear hb ho0 ho1; obtain ⟨Ao17, co17, eo17⟩ := Kd.R_slice HO417.out; subst eo17; obtain ⟨Ao18, co18, eo18⟩ := Kd.R_slice HO420.out; subst eo18) | ((with_reducible refine gate_callee (f := 44) rfl ?_); refine zg (some 14) #[.agg #[.slice Ao17 t415.length co17, .slice Ao18 t418.length co18]] Try.func44 ?_; (with_reducible refine (spec_StateOk.calls k _ _ t415 _ _ t418 t421 _ ?side1 ?side2 ?side3 ?side4 A8.out).mono ?_); (case side1 => repeat (first | exact (Kd.R_reads' HO417.out).2.2 | (with_reducible refine Kd.C_alloc ?_ _) | (with_reducible refine Kd.C_drewN ?_ _) | (with_reducible refine Kd.C_drew ?_))); (case side2 => exact (Kd.R_reads' HO417.out).2.1); (case side3 => repeat (first | exact (Kd.R_reads' HO420.out).2.2 | (with_reducible refine Kd.C_alloc ?_ _) | (with_reducible refine Kd.C_drewN ?_ _) | (with_reducible refine Kd.C_drew ?_))); (case side4 => exact (Kd.R_reads' HO420.out).2.1); rintro e w19 ⟨rfl, hb⟩; refine ⟨_, rfl, ?_⟩; replace HO417 := zm (Kd.R_below (zr HO417) hb); replace HO420 := zm (Kd.R_below (zr HO420) hb); replace BK413 := zm (blk_below (zb BK413) hb); replace HB := zm (below_step zB hb); clear hb; have hcz20_0 : w19.cell? ⟨gb413, 0, none⟩ = some (.slice A0_0 l0_0.length c0_0) := (blk_cell BK413.out 0).trans rfl; have hcz20_1 : w19.cell? ⟨gb413, 1, none⟩ = some (.slice A0_1 l0_1.length c0_1) := (blk_cell BK413.out 1).trans rfl; have hfz20_0 := blk_frozen BK413.out 0; have hfz20_1 := blk_frozen BK413.out 1) | ((with_reducible refine gate_callee (f := 37) rfl ?_); refine zg (some 16) #[.agg #[.slice A0_0 l0_0.length c0_0, .slice A0_1 l0_1.length c0_1]] Try.func37 ?_; (with_reducible refine (laws_toState.calls k _ _ l0_0 _ _ l0_1 t422 t425 _ (zk (Kd.C_below HR0_0.out HB.out)) HC0_0.out (zk (Kd.C_below HR0_1.out HB.out)) HC0_1.out A9.out).mono ?_); rintro e w21 ⟨v423, v426, rfl, ho0, ho1, hb⟩; refine ⟨_, rfl, ?_⟩; have HO424 := zm (Kd.R_lower (Kd.R_new' ho0 (Kd.R_lt (zr HO417))) (below_size zB)); replace HO417 := zm (Kd.R_elder' (zr HO417) (Kd.R_base ho0) hb); have HO427 := zm (Kd.R_lower (Kd.R_new' ho1 (Kd.R_lt (zr HO420))) (below_size zB)); replace HO420 := zm (Kd.R_elder' (zr HO420) (Kd.R_base ho1) hb); replace BK413 := zm (blk_below (zb BK413) hb); replace HB := zm (below_step zB hb); clear hb ho0 ho1) | ((with_reducible refine gate_dst (N := 5) rfl ?_); refine zbox 5 #[.slice none 0 0, .slice none 0 0] 55 ?_; intro gb428 hg w22 hbox hb; replace HO417 := zm (Kd.R_below (zr HO417) hb); replace HO420 := zm (Kd.R_below (zr HO420) hb); replace HO424 := zm (Kd.R_below (zr HO424) hb); replace HO427 := zm (Kd.R_below (zr HO427) hb); have BK428 := zm (hbox); have GW428 := zge w hg zB; have GE428 := zge w hg zB; replace HB := zm (below_step zB hb); have NB413_428 := zlt hg (zb BK413); have NB428_413 := zgt hg (zb BK413); replace BK413 := zm (blk_below (zb BK413) hb); clear hb hbox hg; obtain ⟨Ao23, co23, eo23⟩ := Kd.R_slice HO424.out; subst eo23; have hnb24 := NB428_413.out; have hnc24 := NB413_428.out; have hcz25_0 : w22.cell? ⟨gb428, 0, none⟩ = some (.slice none 0 0) := (blk_cell BK428.out 0).trans rfl; have hcz25_1 : w22.cell? ⟨gb428, 1, none⟩ = some (.slice none 0 0) := (blk_cell BK428.out 1).trans rfl; have hfz25_0 := blk_frozen BK428.out 0; have hfz25_1 := blk_frozen BK428.out 1; obtain ⟨Ao26, co26, eo26⟩ := Kd.R_slice HO427.out; subst eo26) | ((with_reducible refine gate_callee (f := 45) rfl ?_); refine zg (some 18) #[.agg #[.slice Ao23 t422.length co23, .slice Ao26 t425.length co26]] Try.func45 ?_; (with_reducible refine (impl_StateOk.calls k _ _ t422 _ _ t425 t429 _ ?side1 ?side2 ?side3 ?side4 A10.out).mono ?_); (case side1 => refine (Kd.R_reads' (e := 84) (base := w.heap.size) (ok := fun k_ => (True ∧ some k_ ≠ (.slice Ao17 t415.length co17 : Value).ownBlock)) (n := t422.length) (c := co23) ?_).2.2; exact (zrs <| (Kd.R_mono (zfr (zfr (Kd.R_types HO424.out BK428.out (by decide)))) (fun _ h_ => h_.1)))); (case side2 => exact (Kd.R_reads' HO424.out).2.1); (case side3 => refine (Kd.R_reads' (e := 89) (base := w.heap.size) (ok := fun k_ => (True ∧ some k_ ≠ (.slice Ao18 t418.length co18 : Value).ownBlock)) (n := t425.length) (c := co26) ?_).2.2; exact (zrs <| (Kd.R_mono (zfr (zfr (Kd.R_types HO427.out BK428.out (by decide)))) (fun _ h_ => h_.1)))); (case side4 => exact (Kd.R_reads' HO427.out).2.1); rintro e w27 ⟨rfl, hb⟩; refine ⟨_, rfl, ?_⟩; replace HO417 := zm (Kd.R_below (zrs <| (Kd.R_mono (zfr (zfr (Kd.R_types HO417.out BK428.out (by decide)))) (fun _ h_ => h_.1))) hb); replace HO420 := zm (Kd.R_below (zrs <| (Kd.R_mono (zfr (zfr (Kd.R_types HO420.out BK428.out (by decide)))) (fun _ h_ => h_.1))) hb); replace HO424 := zm (Kd.R_below (zrs <| (Kd.R_mono (zfr (zfr (Kd.R_types HO424.out BK428.out (by decide)))) (fun _ h_ => h_.1))) hb); replace HO427 := zm (Kd.R_below (zrs <| (Kd.R_mono (zfr (zfr (Kd.R_types HO427.out BK428.out (by decide)))) (fun _ h_ => h_.1))) hb); replace BK413 := zm (blk_below (g := gb413) (o := .cells #[.slice A0_0 l0_0.length c0_0, .slice A0_1 l0_1.length c0_1] 48 (0, 0)) (zfar (zfar (zb BK413) NB413_428) NB413_428) hb); replace BK428 := zm (blk_below (g := gb428) (o := .cells #[.slice Ao23 t422.length co23, .slice Ao26 t425.length co26] 55 (0, 0)) (zput (zput (zb BK428) 0) 1) hb); replace HB := zm (below_step zB hb); clear hb))
   go_ret
   exact ⟨zE, zB⟩
  ·rw [if_neg c11] at H
   have c11b0 : (t429 != t421) = false := by simpa using c11
   (try (have c11b1 : decide (t429 = t421) = true := by simpa using c11))
   (try (have c11b2 : (t429 == t421) = true := by simpa using c11))
   clear c11
   replace H := Option.bind_eq_some_iff.mp H
   obtain ⟨⟨t430, t433⟩, A280, H⟩ := H
   replace H : ((laws_eqState.f k t422 t425 t430 t433).bind fun t436 => (if t436 = true then (some true) else (some false))) = some r := H
   have A28 := zm A280
   clear A280
   replace H := Option.bind_eq_some_iff.mp H
   obtain ⟨t436, A290, H⟩ := H
   replace H : (if t436 = true then (some true) else (some false)) = some r := H
   have A29 := zm A290
   clear A290
   by_cases c30 : t436 = true
   ·subst c30
    have H1 : (some true) = some r := by rw [if_pos rfl] at H; exact H
    clear H
    have H := H1
    clear H1
    obtain rfl := Option.some.inj H
    go_enter Try.func9, Try.ntmps9
    try go_wp2_with (first | ((with_reducible refine gate_dst (N := 1) rfl ?_); refine zbox 1 #[.slice A0_0 l0_0.length c0_0, .slice A0_1 l0_1.length c0_1] 48 ?_; intro gb413 hg w31 hbox hb; have BK413 := zm (hbox); have GW413 := zge w hg zB; have GE413 := zge w hg zB; replace HB := zm (below_step zB hb); clear hb hbox hg; have hcz32_0 : w31.cell? ⟨gb413, 0, none⟩ = some (.slice A0_0 l0_0.length c0_0) := (blk_cell BK413.out 0).trans rfl; have hcz32_1 : w31.cell? ⟨gb413, 1, none⟩ = some (.slice A0_1 l0_1.length c0_1) := (blk_cell BK413.out 1).trans rfl; have hfz32_0 := blk_frozen BK413.out 0; have hfz32_1 := blk_frozen BK413.out 1) | ((with_reducible refine gate_callee (f := 35) rfl ?_); refine zg (some 9) #[.agg #[.slice A0_0 l0_0.length c0_0, .slice A0_1 l0_1.length c0_1], .int .i64 1048576] Try.func35 ?_; (with_reducible refine (laws_szState.calls k _ _ l0_0 _ _ l0_1 1048576 t414 _ (zk (Kd.C_below HR0_0.out HB.out)) HC0_0.out (zk (Kd.C_below HR0_1.out HB.out)) HC0_1.out A2.out).mono ?_); rintro e w33 ⟨rfl, hb⟩; refine ⟨_, rfl, ?_⟩; replace BK413 := zm (blk_below (zb BK413) hb); replace HB := zm (below_step zB hb); clear hb; have hcz34_0 : w33.cell? ⟨gb413, 0, none⟩ = some (.slice A0_0 l0_0.length c0_0) := (blk_cell BK413.out 0).trans rfl; have hcz34_1 : w33.cell? ⟨gb413, 1, none⟩ = some (.slice A0_1 l0_1.length c0_1) := (blk_cell BK413.out 1).trans rfl; have hfz34_0 := blk_frozen BK413.out 0; have hfz34_1 := blk_frozen BK413.out 1) | ((with_reducible refine gate_callee (f := 37) rfl ?_); refine zg (some 13) #[.agg #[.slice A0_0 l0_0.length c0_0, .slice A0_1 l0_1.length c0_1]] Try.func37 ?_; (with_reducible refine (laws_toState.calls k _ _ l0_0 _ _ l0_1 t415 t418 _ (zk (Kd.C_below HR0_0.out HB.out)) HC0_0.out (zk (Kd.C_below HR0_1.out HB.out)) HC0_1.out A7.out).mono ?_); rintro e w35 ⟨v416, v419, rfl, ho0, ho1, hb⟩; refine ⟨_, rfl, ?_⟩; have HO417 := zm (Kd.R_lower ho0 (below_size zB)); have HO420 := zm (Kd.R_lower ho1 (below_size zB)); replace BK413 := zm (blk_below (zb BK413) hb); replace HB := zm (below_step zB hb); clear hb ho0 ho1; obtain ⟨Ao36, co36, eo36⟩ := Kd.R_slice HO417.out; subst eo36; obtain ⟨Ao37, co37, eo37⟩ := Kd.R_slice HO420.out; subst eo37) | ((with_reducible refine gate_callee (f := 44) rfl ?_); refine zg (some 14) #[.agg #[.slice Ao36 t415.length co36, .slice Ao37 t418.length co37]] Try.func44 ?_; (with_reducible refine (spec_StateOk.calls k _ _ t415 _ _ t418 t421 _ ?side1 ?side2 ?side3 ?side4 A8.out).mono ?_); (case side1 => repeat (first | exact (Kd.R_reads' HO417.out).2.2 | (with_reducible refine Kd.C_alloc ?_ _) | (with_reducible refine Kd.C_drewN ?_ _) | (with_reducible refine Kd.C_drew ?_))); (case side2 => exact (Kd.R_reads' HO417.out).2.1); (case side3 => repeat (first | exact (Kd.R_reads' HO420.out).2.2 | (with_reducible refine Kd.C_alloc ?_ _) | (with_reducible refine Kd.C_drewN ?_ _) | (with_reducible refine Kd.C_drew ?_))); (case side4 => exact (Kd.R_reads' HO420.out).2.1); rintro e w38 ⟨rfl, hb⟩; refine ⟨_, rfl, ?_⟩; replace HO417 := zm (Kd.R_below (zr HO417) hb); replace HO420 := zm (Kd.R_below (zr HO420) hb); replace BK413 := zm (blk_below (zb BK413) hb); replace HB := zm (below_step zB hb); clear hb; have hcz39_0 : w38.cell? ⟨gb413, 0, none⟩ = some (.slice A0_0 l0_0.length c0_0) := (blk_cell BK413.out 0).trans rfl; have hcz39_1 : w38.cell? ⟨gb413, 1, none⟩ = some (.slice A0_1 l0_1.length c0_1) := (blk_cell BK413.out 1).trans rfl; have hfz39_0 := blk_frozen BK413.out 0; have hfz39_1 := blk_frozen BK413.out 1) | ((with_reducible refine gate_callee (f := 37) rfl ?_); refine zg (some 16) #[.agg #[.slice A0_0 l0_0.length c0_0, .slice A0_1 l0_1.length c0_1]] Try.func37 ?_; (with_reducible refine (laws_toState.calls k _ _ l0_0 _ _ l0_1 t422 t425 _ (zk (Kd.C_below HR0_0.out HB.out)) HC0_0.out (zk (Kd.C_below HR0_1.out HB.out)) HC0_1.out A9.out).mono ?_); rintro e w40 ⟨v423, v426, rfl, ho0, ho1, hb⟩; refine ⟨_, rfl, ?_⟩; have HO424 := zm (Kd.R_lower (Kd.R_new' ho0 (Kd.R_lt (zr HO417))) (below_size zB)); replace HO417 := zm (Kd.R_elder' (zr HO417) (Kd.R_base ho0) hb); have HO427 := zm (Kd.R_lower (Kd.R_new' ho1 (Kd.R_lt (zr HO420))) (below_size zB)); replace HO420 := zm (Kd.R_elder' (zr HO420) (Kd.R_base ho1) hb); replace BK413 := zm (blk_below (zb BK413) hb); replace HB := zm (below_step zB hb); clear hb ho0 ho1) | ((with_reducible refine gate_dst (N := 5) rfl ?_); refine zbox 5 #[.slice none 0 0, .slice none 0 0] 55 ?_; intro gb428 hg w41 hbox hb; replace HO417 := zm (Kd.R_below (zr HO417) hb); replace HO420 := zm (Kd.R_below (zr HO420) hb); replace HO424 := zm (Kd.R_below (zr HO424) hb); replace HO427 := zm (Kd.R_below (zr HO427) hb); have BK428 := zm (hbox); have GW428 := zge w hg zB; have GE428 := zge w hg zB; replace HB := zm (below_step zB hb); have NB413_428 := zlt hg (zb BK413); have NB428_413 := zgt hg (zb BK413); replace BK413 := zm (blk_below (zb BK413) hb); clear hb hbox hg; obtain ⟨Ao42, co42, eo42⟩ := Kd.R_slice HO424.out; subst eo42; have hnb43 := NB428_413.out; have hnc43 := NB413_428.out; have hcz44_0 : w41.cell? ⟨gb428, 0, none⟩ = some (.slice none 0 0) := (blk_cell BK428.out 0).trans rfl; have hcz44_1 : w41.cell? ⟨gb428, 1, none⟩ = some (.slice none 0 0) := (blk_cell BK428.out 1).trans rfl; have hfz44_0 := blk_frozen BK428.out 0; have hfz44_1 := blk_frozen BK428.out 1; obtain ⟨Ao45, co45, eo45⟩ := Kd.R_slice HO427.out; subst eo45) | ((with_reducible refine gate_callee (f := 45) rfl ?_); refine zg (some 18) #[.agg #[.slice Ao42 t422.length co42, .slice Ao45 t425.length co45]] Try.func45 ?_; (with_reducible refine (impl_StateOk.calls k _ _ t422 _ _ t425 t429 _ ?side1 ?side2 ?side3 ?side4 A10.out).mono ?_); (case side1 => refine (Kd.R_reads' (e := 84) (base := w.heap.size) (ok := fun k_ => (True ∧ some k_ ≠ (.slice Ao36 t415.length co36 : Value).ownBlock)) (n := t422.length) (c := co42) ?_).2.2; exact (zrs <| (Kd.R_mono (zfr (zfr (Kd.R_types HO424.out BK428.out (by decide)))) (fun _ h_ => h_.1)))); (case side2 => exact (Kd.R_reads' HO424.out).2.1); (case side3 => refine (Kd.R_reads' (e := 89) (base := w.heap.size) (ok := fun k_ => (True ∧ some k_ ≠ (.slice Ao37 t418.length co37 : Value).ownBlock)) (n := t425.length) (c := co45) ?_).2.2; exact (zrs <| (Kd.R_mono (zfr (zfr (Kd.R_types HO427.out BK428.out (by decide)))) (fun _ h_ => h_.1)))); (case side4 => exact (Kd.R_reads' HO427.out).2.1); rintro e w46 ⟨rfl, hb⟩; refine ⟨_, rfl, ?_⟩; replace HO417 := zm (Kd.R_below (zrs <| (Kd.R_mono (zfr (zfr (Kd.R_types HO417.out BK428.out (by decide)))) (fun _ h_ => h_.1))) hb); replace HO420 := zm (Kd.R_below (zrs <| (Kd.R_mono (zfr (zfr (Kd.R_types HO420.out BK428.out (by decide)))) (fun _ h_ => h_.1))) hb); replace HO424 := zm (Kd.R_below (zrs <| (Kd.R_mono (zfr (zfr (Kd.R_types HO424.out BK428.out (by decide)))) (fun _ h_ => h_.1))) hb); replace HO427 := zm (Kd.R_below (zrs <| (Kd.R_mono (zfr (zfr (Kd.R_types HO427.out BK428.out (by decide)))) (fun _ h_ => h_.1))) hb); replace BK413 := zm (blk_below (g := gb413) (o := .cells #[.slice A0_0 l0_0.length c0_0, .slice A0_1 l0_1.length c0_1] 48 (0, 0)) (zfar (zfar (zb BK413) NB413_428) NB413_428) hb); replace BK428 := zm (blk_below (g := gb428) (o := .cells #[.slice Ao42 t422.length co42, .slice Ao45 t425.length co45] 55 (0, 0)) (zput (zput (zb BK428) 0) 1) hb); replace HB := zm (below_step zB hb); clear hb))
    replace HO417 := zm (Kd.R_drew HO417.out)
    replace HO420 := zm (Kd.R_drew HO420.out)
    replace HO424 := zm (Kd.R_drew HO424.out)
    replace HO427 := zm (Kd.R_drew HO427.out)
    replace BK413 := zm (blk_drew BK413.out)
    replace BK428 := zm (blk_drew BK428.out)
    replace HB := zm (below_drew1 HB.out)
    refine start_ (n := 5) (S := fun w' => w'.cell? ⟨gb428, 0, none⟩ = some (.slice Ao42 t422.length co42) ∧ w'.cell? ⟨gb428, 1, none⟩ = some (.slice Ao45 t425.length co45) ∧ w'.cell? ⟨gb413, 0, none⟩ = some (.slice A0_0 l0_0.length c0_0) ∧ w'.cell? ⟨gb413, 1, none⟩ = some (.slice A0_1 l0_1.length c0_1)) (ds := []) (zl 5 0) (by kernel_rfl) rfl rfl ⟨(blk_cell BK428.out 0).trans rfl, (blk_cell BK428.out 1).trans rfl, (blk_cell BK413.out 0).trans rfl, (blk_cell BK413.out 1).trans rfl⟩ (fun hHeld => ?_)
    generalize w46.drew = w47 at HO417 HO420 HO424 HO427 BK413 BK428 HB hHeld ⊢
    refine zt 0 (some 22) (zl 5 1) ?_
    refine zt 1 (some 23) (zl 5 3) ?_
    refine zo 2 (some 24) (zl 5 7) (fun K hK => ?_)
    refine zgo #[.agg #[.slice A0_0 l0_0.length c0_0, .slice A0_1 l0_1.length c0_1]] Try.func37 ?_
    with_reducible refine (laws_toState.calls k _ _ l0_0 _ _ l0_1 t430 t433 _ (zk (Kd.C_below HR0_0.out HB.out)) HC0_0.out (zk (Kd.C_below HR0_1.out HB.out)) HC0_1.out A28.out).mono ?_
    rintro e w48 ⟨v431, v434, rfl, ho0, ho1, hb⟩
    refine ⟨_, rfl, ?_⟩
    have HO432 := zm (Kd.R_lower (Kd.R_new' (Kd.R_new' ho0 (Kd.R_lt (zr HO417))) (Kd.R_lt (zr HO424))) (below_size zB))
    replace HO417 := zm (Kd.R_elder' (zr HO417) (Kd.R_base ho0) hb)
    replace HO424 := zm (Kd.R_elder' (zr HO424) (Kd.R_base ho0) hb)
    have HO435 := zm (Kd.R_lower (Kd.R_new' (Kd.R_new' ho1 (Kd.R_lt (zr HO420))) (Kd.R_lt (zr HO427))) (below_size zB))
    replace HO420 := zm (Kd.R_elder' (zr HO420) (Kd.R_base ho1) hb)
    replace HO427 := zm (Kd.R_elder' (zr HO427) (Kd.R_base ho1) hb)
    replace BK413 := zm (blk_below (zb BK413) hb)
    replace BK428 := zm (blk_below (zb BK428) hb)
    replace HB := zm (below_step zB hb)
    (try clear hb)
    (try clear hb2)
    (try clear hk)
    (try clear hi)
    (try clear ho0)
    (try clear ho1)
    obtain ⟨Ao49, co49, eo49⟩ := Kd.R_slice HO432.out
    (first | subst eo49 | (injection eo49 with f1_ f2_ f3_; have f4_ := f1_.symm; have f5_ := f3_.symm; clear f1_ f2_ f3_; subst f4_; subst f5_))
    obtain ⟨Ao50, co50, eo50⟩ := Kd.R_slice HO435.out
    (first | subst eo50 | (injection eo50 with f1_ f2_ f3_; have f4_ := f1_.symm; have f5_ := f3_.symm; clear f1_ f2_ f3_; subst f4_; subst f5_))
    refine hK.out _ _ ⟨(blk_cell BK428.out 0).trans rfl, (blk_cell BK428.out 1).trans rfl, (blk_cell BK413.out 0).trans rfl, (blk_cell BK413.out 1).trans rfl⟩ (fun hHeld => ?_)
    clear hK K
    refine zn ?_
    refine zo 3 (some 25) (zl 5 15) (fun K hK => ?_)
    refine zgo #[.agg #[.slice Ao42 t422.length co42, .slice Ao45 t425.length co45], .agg #[.slice Ao49 t430.length co49, .slice Ao50 t433.length co50]] Try.func39 ?_
    with_reducible refine (laws_eqState.calls k _ _ t422 _ _ t425 _ _ t430 _ _ t433 true _ ?side1 ?side2 ?side3 ?side4 ?side5 ?side6 ?side7 ?side8 A29.out).mono ?_
    (case side1 => repeat (first | exact (Kd.R_reads' HO424.out).2.2 | (with_reducible refine Kd.C_alloc ?_ _) | (with_reducible refine Kd.C_drewN ?_ _) | (with_reducible refine Kd.C_drew ?_)))
    (case side2 => exact (Kd.R_reads' HO424.out).2.1)
    (case side3 => repeat (first | exact (Kd.R_reads' HO427.out).2.2 | (with_reducible refine Kd.C_alloc ?_ _) | (with_reducible refine Kd.C_drewN ?_ _) | (with_reducible refine Kd.C_drew ?_)))
    (case side4 => exact (Kd.R_reads' HO427.out).2.1)
    (case side5 => repeat (first | exact (Kd.R_reads' HO432.out).2.2 | (with_reducible refine Kd.C_alloc ?_ _) | (with_reducible refine Kd.C_drewN ?_ _) | (with_reducible refine Kd.C_drew ?_)))
    (case side6 => exact (Kd.R_reads' HO432.out).2.1)
    (case side7 => repeat (first | exact (Kd.R_reads' HO435.out).2.2 | (with_reducible refine Kd.C_alloc ?_ _) | (with_reducible refine Kd.C_drewN ?_ _) | (with_reducible refine Kd.C_drew ?_)))
    (case side8 => exact (Kd.R_reads' HO435.out).2.1)
    rintro e w51 ⟨rfl, hb⟩
    refine ⟨_, rfl, ?_⟩
    replace HO417 := zm (Kd.R_below (zr HO417) hb)
    replace HO420 := zm (Kd.R_below (zr HO420) hb)
    replace HO424 := zm (Kd.R_below (zr HO424) hb)
    replace HO427 := zm (Kd.R_below (zr HO427) hb)
    replace HO432 := zm (Kd.R_below (zr HO432) hb)
    replace HO435 := zm (Kd.R_below (zr HO435) hb)
    replace BK413 := zm (blk_below (zb BK413) hb)
    replace BK428 := zm (blk_below (zb BK428) hb)
    replace HB := zm (below_step zB hb)
    (try clear hb)
    (try clear hb2)
    (try clear hk)
    (try clear hi)
    refine hK.out _ _ ⟨(blk_cell BK428.out 0).trans rfl, (blk_cell BK428.out 1).trans rfl, (blk_cell BK413.out 0).trans rfl, (blk_cell BK413.out 1).trans rfl⟩ (fun hHeld => ?_)
    clear hK K
    refine zn ?_
    refine zp 4 (some 26) (zl 5 31) ?_
    refine done_ (by kernel_rfl) ?_
    try go_wp2
    go_ret
    exact ⟨zE, zB⟩
   ·replace c30 := Bool.eq_false_iff.mpr c30
    subst c30
    have H1 : (some false) = some r := by rw [if_neg (show ¬ (false = true) by decide)] at H; exact H
    clear H
    have H := H1
    clear H1
    obtain rfl := Option.some.inj H
    go_enter Try.func9, Try.ntmps9
    try go_wp2_with (first | ((with_reducible refine gate_dst (N := 1) rfl ?_); refine zbox 1 #[.slice A0_0 l0_0.length c0_0, .slice A0_1 l0_1.length c0_1] 48 ?_; intro gb413 hg w52 hbox hb; have BK413 := zm (hbox); have GW413 := zge w hg zB; have GE413 := zge w hg zB; replace HB := zm (below_step zB hb); clear hb hbox hg; have hcz53_0 : w52.cell? ⟨gb413, 0, none⟩ = some (.slice A0_0 l0_0.length c0_0) := (blk_cell BK413.out 0).trans rfl; have hcz53_1 : w52.cell? ⟨gb413, 1, none⟩ = some (.slice A0_1 l0_1.length c0_1) := (blk_cell BK413.out 1).trans rfl; have hfz53_0 := blk_frozen BK413.out 0; have hfz53_1 := blk_frozen BK413.out 1) | ((with_reducible refine gate_callee (f := 35) rfl ?_); refine zg (some 9) #[.agg #[.slice A0_0 l0_0.length c0_0, .slice A0_1 l0_1.length c0_1], .int .i64 1048576] Try.func35 ?_; (with_reducible refine (laws_szState.calls k _ _ l0_0 _ _ l0_1 1048576 t414 _ (zk (Kd.C_below HR0_0.out HB.out)) HC0_0.out (zk (Kd.C_below HR0_1.out HB.out)) HC0_1.out A2.out).mono ?_); rintro e w54 ⟨rfl, hb⟩; refine ⟨_, rfl, ?_⟩; replace BK413 := zm (blk_below (zb BK413) hb); replace HB := zm (below_step zB hb); clear hb; have hcz55_0 : w54.cell? ⟨gb413, 0, none⟩ = some (.slice A0_0 l0_0.length c0_0) := (blk_cell BK413.out 0).trans rfl; have hcz55_1 : w54.cell? ⟨gb413, 1, none⟩ = some (.slice A0_1 l0_1.length c0_1) := (blk_cell BK413.out 1).trans rfl; have hfz55_0 := blk_frozen BK413.out 0; have hfz55_1 := blk_frozen BK413.out 1) | ((with_reducible refine gate_callee (f := 37) rfl ?_); refine zg (some 13) #[.agg #[.slice A0_0 l0_0.length c0_0, .slice A0_1 l0_1.length c0_1]] Try.func37 ?_; (with_reducible refine (laws_toState.calls k _ _ l0_0 _ _ l0_1 t415 t418 _ (zk (Kd.C_below HR0_0.out HB.out)) HC0_0.out (zk (Kd.C_below HR0_1.out HB.out)) HC0_1.out A7.out).mono ?_); rintro e w56 ⟨v416, v419, rfl, ho0, ho1, hb⟩; refine ⟨_, rfl, ?_⟩; have HO417 := zm (Kd.R_lower ho0 (below_size zB)); have HO420 := zm (Kd.R_lower ho1 (below_size zB)); replace BK413 := zm (blk_below (zb BK413) hb); replace HB := zm (below_step zB hb); clear hb ho0 ho1; obtain ⟨Ao57, co57, eo57⟩ := Kd.R_slice HO417.out; subst eo57; obtain ⟨Ao58, co58, eo58⟩ := Kd.R_slice HO420.out; subst eo58) | ((with_reducible refine gate_callee (f := 44) rfl ?_); refine zg (some 14) #[.agg #[.slice Ao57 t415.length co57, .slice Ao58 t418.length co58]] Try.func44 ?_; (with_reducible refine (spec_StateOk.calls k _ _ t415 _ _ t418 t421 _ ?side1 ?side2 ?side3 ?side4 A8.out).mono ?_); (case side1 => repeat (first | exact (Kd.R_reads' HO417.out).2.2 | (with_reducible refine Kd.C_alloc ?_ _) | (with_reducible refine Kd.C_drewN ?_ _) | (with_reducible refine Kd.C_drew ?_))); (case side2 => exact (Kd.R_reads' HO417.out).2.1); (case side3 => repeat (first | exact (Kd.R_reads' HO420.out).2.2 | (with_reducible refine Kd.C_alloc ?_ _) | (with_reducible refine Kd.C_drewN ?_ _) | (with_reducible refine Kd.C_drew ?_))); (case side4 => exact (Kd.R_reads' HO420.out).2.1); rintro e w59 ⟨rfl, hb⟩; refine ⟨_, rfl, ?_⟩; replace HO417 := zm (Kd.R_below (zr HO417) hb); replace HO420 := zm (Kd.R_below (zr HO420) hb); replace BK413 := zm (blk_below (zb BK413) hb); replace HB := zm (below_step zB hb); clear hb; have hcz60_0 : w59.cell? ⟨gb413, 0, none⟩ = some (.slice A0_0 l0_0.length c0_0) := (blk_cell BK413.out 0).trans rfl; have hcz60_1 : w59.cell? ⟨gb413, 1, none⟩ = some (.slice A0_1 l0_1.length c0_1) := (blk_cell BK413.out 1).trans rfl; have hfz60_0 := blk_frozen BK413.out 0; have hfz60_1 := blk_frozen BK413.out 1) | ((with_reducible refine gate_callee (f := 37) rfl ?_); refine zg (some 16) #[.agg #[.slice A0_0 l0_0.length c0_0, .slice A0_1 l0_1.length c0_1]] Try.func37 ?_; (with_reducible refine (laws_toState.calls k _ _ l0_0 _ _ l0_1 t422 t425 _ (zk (Kd.C_below HR0_0.out HB.out)) HC0_0.out (zk (Kd.C_below HR0_1.out HB.out)) HC0_1.out A9.out).mono ?_); rintro e w61 ⟨v423, v426, rfl, ho0, ho1, hb⟩; refine ⟨_, rfl, ?_⟩; have HO424 := zm (Kd.R_lower (Kd.R_new' ho0 (Kd.R_lt (zr HO417))) (below_size zB)); replace HO417 := zm (Kd.R_elder' (zr HO417) (Kd.R_base ho0) hb); have HO427 := zm (Kd.R_lower (Kd.R_new' ho1 (Kd.R_lt (zr HO420))) (below_size zB)); replace HO420 := zm (Kd.R_elder' (zr HO420) (Kd.R_base ho1) hb); replace BK413 := zm (blk_below (zb BK413) hb); replace HB := zm (below_step zB hb); clear hb ho0 ho1) | ((with_reducible refine gate_dst (N := 5) rfl ?_); refine zbox 5 #[.slice none 0 0, .slice none 0 0] 55 ?_; intro gb428 hg w62 hbox hb; replace HO417 := zm (Kd.R_below (zr HO417) hb); replace HO420 := zm (Kd.R_below (zr HO420) hb); replace HO424 := zm (Kd.R_below (zr HO424) hb); replace HO427 := zm (Kd.R_below (zr HO427) hb); have BK428 := zm (hbox); have GW428 := zge w hg zB; have GE428 := zge w hg zB; replace HB := zm (below_step zB hb); have NB413_428 := zlt hg (zb BK413); have NB428_413 := zgt hg (zb BK413); replace BK413 := zm (blk_below (zb BK413) hb); clear hb hbox hg; obtain ⟨Ao63, co63, eo63⟩ := Kd.R_slice HO424.out; subst eo63; have hnb64 := NB428_413.out; have hnc64 := NB413_428.out; have hcz65_0 : w62.cell? ⟨gb428, 0, none⟩ = some (.slice none 0 0) := (blk_cell BK428.out 0).trans rfl; have hcz65_1 : w62.cell? ⟨gb428, 1, none⟩ = some (.slice none 0 0) := (blk_cell BK428.out 1).trans rfl; have hfz65_0 := blk_frozen BK428.out 0; have hfz65_1 := blk_frozen BK428.out 1; obtain ⟨Ao66, co66, eo66⟩ := Kd.R_slice HO427.out; subst eo66) | ((with_reducible refine gate_callee (f := 45) rfl ?_); refine zg (some 18) #[.agg #[.slice Ao63 t422.length co63, .slice Ao66 t425.length co66]] Try.func45 ?_; (with_reducible refine (impl_StateOk.calls k _ _ t422 _ _ t425 t429 _ ?side1 ?side2 ?side3 ?side4 A10.out).mono ?_); (case side1 => refine (Kd.R_reads' (e := 84) (base := w.heap.size) (ok := fun k_ => (True ∧ some k_ ≠ (.slice Ao57 t415.length co57 : Value).ownBlock)) (n := t422.length) (c := co63) ?_).2.2; exact (zrs <| (Kd.R_mono (zfr (zfr (Kd.R_types HO424.out BK428.out (by decide)))) (fun _ h_ => h_.1)))); (case side2 => exact (Kd.R_reads' HO424.out).2.1); (case side3 => refine (Kd.R_reads' (e := 89) (base := w.heap.size) (ok := fun k_ => (True ∧ some k_ ≠ (.slice Ao58 t418.length co58 : Value).ownBlock)) (n := t425.length) (c := co66) ?_).2.2; exact (zrs <| (Kd.R_mono (zfr (zfr (Kd.R_types HO427.out BK428.out (by decide)))) (fun _ h_ => h_.1)))); (case side4 => exact (Kd.R_reads' HO427.out).2.1); rintro e w67 ⟨rfl, hb⟩; refine ⟨_, rfl, ?_⟩; replace HO417 := zm (Kd.R_below (zrs <| (Kd.R_mono (zfr (zfr (Kd.R_types HO417.out BK428.out (by decide)))) (fun _ h_ => h_.1))) hb); replace HO420 := zm (Kd.R_below (zrs <| (Kd.R_mono (zfr (zfr (Kd.R_types HO420.out BK428.out (by decide)))) (fun _ h_ => h_.1))) hb); replace HO424 := zm (Kd.R_below (zrs <| (Kd.R_mono (zfr (zfr (Kd.R_types HO424.out BK428.out (by decide)))) (fun _ h_ => h_.1))) hb); replace HO427 := zm (Kd.R_below (zrs <| (Kd.R_mono (zfr (zfr (Kd.R_types HO427.out BK428.out (by decide)))) (fun _ h_ => h_.1))) hb); replace BK413 := zm (blk_below (g := gb413) (o := .cells #[.slice A0_0 l0_0.length c0_0, .slice A0_1 l0_1.length c0_1] 48 (0, 0)) (zfar (zfar (zb BK413) NB413_428) NB413_428) hb); replace BK428 := zm (blk_below (g := gb428) (o := .cells #[.slice Ao63 t422.length co63, .slice Ao66 t425.length co66] 55 (0, 0)) (zput (zput (zb BK428) 0) 1) hb); replace HB := zm (below_step zB hb); clear hb))
    replace HO417 := zm (Kd.R_drew HO417.out)
    replace HO420 := zm (Kd.R_drew HO420.out)
    replace HO424 := zm (Kd.R_drew HO424.out)
    replace HO427 := zm (Kd.R_drew HO427.out)
    replace BK413 := zm (blk_drew BK413.out)
    replace BK428 := zm (blk_drew BK428.out)
    replace HB := zm (below_drew1 HB.out)
    refine start_ (n := 5) (S := fun w' => w'.cell? ⟨gb428, 0, none⟩ = some (.slice Ao63 t422.length co63) ∧ w'.cell? ⟨gb428, 1, none⟩ = some (.slice Ao66 t425.length co66) ∧ w'.cell? ⟨gb413, 0, none⟩ = some (.slice A0_0 l0_0.length c0_0) ∧ w'.cell? ⟨gb413, 1, none⟩ = some (.slice A0_1 l0_1.length c0_1)) (ds := []) (zl 5 0) (by kernel_rfl) rfl rfl ⟨(blk_cell BK428.out 0).trans rfl, (blk_cell BK428.out 1).trans rfl, (blk_cell BK413.out 0).trans rfl, (blk_cell BK413.out 1).trans rfl⟩ (fun hHeld => ?_)
    generalize w67.drew = w68 at HO417 HO420 HO424 HO427 BK413 BK428 HB hHeld ⊢
    refine zt 0 (some 22) (zl 5 1) ?_
    refine zt 1 (some 23) (zl 5 3) ?_
    refine zo 2 (some 24) (zl 5 7) (fun K hK => ?_)
    refine zgo #[.agg #[.slice A0_0 l0_0.length c0_0, .slice A0_1 l0_1.length c0_1]] Try.func37 ?_
    with_reducible refine (laws_toState.calls k _ _ l0_0 _ _ l0_1 t430 t433 _ (zk (Kd.C_below HR0_0.out HB.out)) HC0_0.out (zk (Kd.C_below HR0_1.out HB.out)) HC0_1.out A28.out).mono ?_
    rintro e w69 ⟨v431, v434, rfl, ho0, ho1, hb⟩
    refine ⟨_, rfl, ?_⟩
    have HO432 := zm (Kd.R_lower (Kd.R_new' (Kd.R_new' ho0 (Kd.R_lt (zr HO417))) (Kd.R_lt (zr HO424))) (below_size zB))
    replace HO417 := zm (Kd.R_elder' (zr HO417) (Kd.R_base ho0) hb)
    replace HO424 := zm (Kd.R_elder' (zr HO424) (Kd.R_base ho0) hb)
    have HO435 := zm (Kd.R_lower (Kd.R_new' (Kd.R_new' ho1 (Kd.R_lt (zr HO420))) (Kd.R_lt (zr HO427))) (below_size zB))
    replace HO420 := zm (Kd.R_elder' (zr HO420) (Kd.R_base ho1) hb)
    replace HO427 := zm (Kd.R_elder' (zr HO427) (Kd.R_base ho1) hb)
    replace BK413 := zm (blk_below (zb BK413) hb)
    replace BK428 := zm (blk_below (zb BK428) hb)
    replace HB := zm (below_step zB hb)
    (try clear hb)
    (try clear hb2)
    (try clear hk)
    (try clear hi)
    (try clear ho0)
    (try clear ho1)
    obtain ⟨Ao70, co70, eo70⟩ := Kd.R_slice HO432.out
    (first | subst eo70 | (injection eo70 with f1_ f2_ f3_; have f4_ := f1_.symm; have f5_ := f3_.symm; clear f1_ f2_ f3_; subst f4_; subst f5_))
    obtain ⟨Ao71, co71, eo71⟩ := Kd.R_slice HO435.out
    (first | subst eo71 | (injection eo71 with f1_ f2_ f3_; have f4_ := f1_.symm; have f5_ := f3_.symm; clear f1_ f2_ f3_; subst f4_; subst f5_))
    refine hK.out _ _ ⟨(blk_cell BK428.out 0).trans rfl, (blk_cell BK428.out 1).trans rfl, (blk_cell BK413.out 0).trans rfl, (blk_cell BK413.out 1).trans rfl⟩ (fun hHeld => ?_)
    clear hK K
    refine zn ?_
    refine zo 3 (some 25) (zl 5 15) (fun K hK => ?_)
    refine zgo #[.agg #[.slice Ao63 t422.length co63, .slice Ao66 t425.length co66], .agg #[.slice Ao70 t430.length co70, .slice Ao71 t433.length co71]] Try.func39 ?_
    with_reducible refine (laws_eqState.calls k _ _ t422 _ _ t425 _ _ t430 _ _ t433 false _ ?side1 ?side2 ?side3 ?side4 ?side5 ?side6 ?side7 ?side8 A29.out).mono ?_
    (case side1 => repeat (first | exact (Kd.R_reads' HO424.out).2.2 | (with_reducible refine Kd.C_alloc ?_ _) | (with_reducible refine Kd.C_drewN ?_ _) | (with_reducible refine Kd.C_drew ?_)))
    (case side2 => exact (Kd.R_reads' HO424.out).2.1)
    (case side3 => repeat (first | exact (Kd.R_reads' HO427.out).2.2 | (with_reducible refine Kd.C_alloc ?_ _) | (with_reducible refine Kd.C_drewN ?_ _) | (with_reducible refine Kd.C_drew ?_)))
    (case side4 => exact (Kd.R_reads' HO427.out).2.1)
    (case side5 => repeat (first | exact (Kd.R_reads' HO432.out).2.2 | (with_reducible refine Kd.C_alloc ?_ _) | (with_reducible refine Kd.C_drewN ?_ _) | (with_reducible refine Kd.C_drew ?_)))
    (case side6 => exact (Kd.R_reads' HO432.out).2.1)
    (case side7 => repeat (first | exact (Kd.R_reads' HO435.out).2.2 | (with_reducible refine Kd.C_alloc ?_ _) | (with_reducible refine Kd.C_drewN ?_ _) | (with_reducible refine Kd.C_drew ?_)))
    (case side8 => exact (Kd.R_reads' HO435.out).2.1)
    rintro e w72 ⟨rfl, hb⟩
    refine ⟨_, rfl, ?_⟩
    replace HO417 := zm (Kd.R_below (zr HO417) hb)
    replace HO420 := zm (Kd.R_below (zr HO420) hb)
    replace HO424 := zm (Kd.R_below (zr HO424) hb)
    replace HO427 := zm (Kd.R_below (zr HO427) hb)
    replace HO432 := zm (Kd.R_below (zr HO432) hb)
    replace HO435 := zm (Kd.R_below (zr HO435) hb)
    replace BK413 := zm (blk_below (zb BK413) hb)
    replace BK428 := zm (blk_below (zb BK428) hb)
    replace HB := zm (below_step zB hb)
    (try clear hb)
    (try clear hb2)
    (try clear hk)
    (try clear hi)
    refine hK.out _ _ ⟨(blk_cell BK428.out 0).trans rfl, (blk_cell BK428.out 1).trans rfl, (blk_cell BK413.out 0).trans rfl, (blk_cell BK413.out 1).trans rfl⟩ (fun hHeld => ?_)
    clear hK K
    refine zn ?_
    refine zp 4 (some 26) (zl 5 31) ?_
    refine done_ (by kernel_rfl) ?_
    try go_wp2
    go_ret
    exact ⟨zE, zB⟩

def laws_FnExactStateOk.Pure : Prop := ∀ (l0_0 : List (S105)) (l0_1 : List (S108)), l0_0.length ≤ maxLen → l0_0.length * 56 ≤ 140737488351232 → (∀ x ∈ l0_0, ((Lit.int .i64 x.f0).wf = true ∧ ((Lit.int .i64 x.f1.f0).wf = true ∧ ((Lit.int .i64 x.f1.f1).wf = true ∧ ((Lit.int .i64 x.f1.f2).wf = true ∧ ((Lit.int .i64 x.f1.f3).wf = true ∧ x.f1.f4.size ≤ 140737488351232)))))) → l0_1.length ≤ maxLen → l0_1.length * 16 ≤ 140737488351232 → (∀ x ∈ l0_1, ((Lit.int .i64 x.f0).wf = true ∧ (Lit.int .i64 x.f1).wf = true)) → ∃ k, laws_FnExactStateOk.f k l0_0 l0_1 = some true

end Go.Proofs.Ythljdiniccpobaa.P
