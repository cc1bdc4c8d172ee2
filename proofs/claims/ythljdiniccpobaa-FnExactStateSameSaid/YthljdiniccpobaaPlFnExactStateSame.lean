-- by a program of this session, for this seat
import Derived.Test.YthljdiniccpobaaZ
import Derived.Test.YthljdiniccpobaaP0
import Derived.Test.YthljdiniccpobaaPab
import Derived.Test.YthljdiniccpobaaPac
import Derived.Test.YthljdiniccpobaaPad
import Derived.Test.YthljdiniccpobaaPae
namespace Go.Proofs.Ythljdiniccpobaa.P
open Go.RowKit Go.Proofs.YthljdiniccpobaaW.PrintWords Go.Proofs.YthljdiniccpobaaW.PrintLast Go.Proofs.YthljdiniccpobaaW.PrintMore Go.Proofs.Ythljdiniccpobaa.Z
attribute [local go_sem] max2_int min2_int max_two min_two max_three min_three max_four min_four   -- for this text's walks alone
set_option linter.unusedVariables false
set_option linter.unusedSimpArgs false

/-! ### laws_FnExactStateSame: function 8 -/
def laws_FnExactStateSame.f (k : Nat) (l0_0 : List (S105)) (l0_1 : List (S108)) (l1_0 : List (S105)) (l1_1 : List (S108)) : Option (Bool) := (laws_szState.f k l0_0 l0_1 1048576).bind fun t330 => (if t330 < 0 then (some true) else ((laws_szState.f k l1_0 l1_1 t330).bind fun t331 => (if t331 < 0 then (some true) else ((laws_toState.f k l0_0 l0_1).bind fun bt332 => ((laws_toState.f k l1_0 l1_1).bind fun bt338 => ((spec_StateSame.f k bt332.1 bt332.2 bt338.1 bt338.2).bind fun t344 => ((laws_toState.f k l0_0 l0_1).bind fun bt345 => ((laws_toState.f k l1_0 l1_1).bind fun bt352 => ((impl_StateSame.f k bt345.1 bt345.2 bt352.1 bt352.2).bind fun t359 => (if (t359 != t344) = true then (some false) else ((laws_toState.f k l0_0 l0_1).bind fun bt360 => ((laws_eqState.f k bt345.1 bt345.2 bt360.1 bt360.2).bind fun t366 => (if t366 = true then ((laws_toState.f k l1_0 l1_1).bind fun bt367 => ((laws_eqState.f k bt352.1 bt352.2 bt367.1 bt367.2).bind fun t373 => (if t373 = true then (some true) else (some false)))) else (some false))))))))))))))
theorem laws_FnExactStateSame.mono : ∀ a0 a1 a2 a3 k, LeO (laws_FnExactStateSame.f k a0 a1 a2 a3) (laws_FnExactStateSame.f (k + 1) a0 a1 a2 a3) := by
 intro a0 a1 a2 a3 k
 unfold laws_FnExactStateSame.f
 repeat' first
   | (with_reducible exact impl_StateSame.mono _ _ _ _ _)
   | (with_reducible exact laws_eqState.mono _ _ _ _ _)
   | (with_reducible exact laws_szState.mono _ _ _ _)
   | (with_reducible exact laws_toState.mono _ _ _)
   | (with_reducible exact spec_StateSame.mono _ _ _ _ _)
   | (with_reducible exact LeO.refl _)
   | (with_reducible exact LeO.none _)
   | (with_reducible refine LeO.ite ?_ ?_)
   | (with_reducible refine LeO.bind ?_ (fun _ => ?_))
   | exact impl_StateSame.mono _ _ _ _ _
   | exact laws_eqState.mono _ _ _ _ _
   | exact laws_szState.mono _ _ _ _
   | exact laws_toState.mono _ _ _
   | exact spec_StateSame.mono _ _ _ _ _
   | exact LeO.none _
   | refine LeO.ite ?_ ?_
   | refine LeO.bind ?_ (fun _ => ?_)
set_option maxHeartbeats 8000000 in
set_option maxRecDepth 100000 in
theorem laws_FnExactStateSame.calls (k : Nat) (A0_0 : Option Addr) (c0_0 : Nat) (l0_0 : List (S105)) (A0_1 : Option Addr) (c0_1 : Nat) (l0_1 : List (S108)) (A1_0 : Option Addr) (c1_0 : Nat) (l1_0 : List (S105)) (A1_1 : Option Addr) (c1_1 : Nat) (l1_1 : List (S108)) (r : Bool) (w : World) (hr0_0 : Kd.C k105 w A0_0 l0_0.length l0_0) (hc0_0 : l0_0.length ≤ c0_0) (hr0_1 : Kd.C k108 w A0_1 l0_1.length l0_1) (hc0_1 : l0_1.length ≤ c0_1) (hr1_0 : Kd.C k105 w A1_0 l1_0.length l1_0) (hc1_0 : l1_0.length ≤ c1_0) (hr1_1 : Kd.C k108 w A1_1 l1_1.length l1_1) (hc1_1 : l1_1.length ≤ c1_1) (h : laws_FnExactStateSame.f k l0_0 l0_1 l1_0 l1_1 = some r) :
  Calls Try.prog 8 #[.agg #[.slice A0_0 l0_0.length c0_0, .slice A0_1 l0_1.length c0_1], .agg #[.slice A1_0 l1_0.length c1_0, .slice A1_1 l1_1.length c1_1]] w fun e w' => e = .returned (.bool r) ∧ Below w.heap.size w w' := by
 have hu48 := Try.underlying48
 have hu55 := Try.underlying55
 have HR0_0 := zm hr0_0
 have HC0_0 := zm hc0_0
 clear hr0_0 hc0_0
 have HR0_1 := zm hr0_1
 have HC0_1 := zm hc0_1
 clear hr0_1 hc0_1
 have HR1_0 := zm hr1_0
 have HC1_0 := zm hc1_0
 clear hr1_0 hc1_0
 have HR1_1 := zm hr1_1
 have HC1_1 := zm hc1_1
 clear hr1_1 hc1_1
 have HB := zm (Below.refl w.heap.size w)
 have H : ((laws_szState.f k l0_0 l0_1 1048576).bind fun t330 => (if t330 < 0 then (some true) else ((laws_szState.f k l1_0 l1_1 t330).bind fun t331 => (if t331 < 0 then (some true) else ((laws_toState.f k l0_0 l0_1).bind fun bt332 => ((laws_toState.f k l1_0 l1_1).bind fun bt338 => ((spec_StateSame.f k bt332.1 bt332.2 bt338.1 bt338.2).bind fun t344 => ((laws_toState.f k l0_0 l0_1).bind fun bt345 => ((laws_toState.f k l1_0 l1_1).bind fun bt352 => ((impl_StateSame.f k bt345.1 bt345.2 bt352.1 bt352.2).bind fun t359 => (if (t359 != t344) = true then (some false) else ((laws_toState.f k l0_0 l0_1).bind fun bt360 => ((laws_eqState.f k bt345.1 bt345.2 bt360.1 bt360.2).bind fun t366 => (if t366 = true then ((laws_toState.f k l1_0 l1_1).bind fun bt367 => ((laws_eqState.f k bt352.1 bt352.2 bt367.1 bt367.2).bind fun t373 => (if t373 = true then (some true) else (some false)))) else (some false))))))))))))))) = some r := h
 clear h
 replace H := Option.bind_eq_some_iff.mp H
 obtain ⟨t330, A30, H⟩ := H
 replace H : (if t330 < 0 then (some true) else ((laws_szState.f k l1_0 l1_1 t330).bind fun t331 => (if t331 < 0 then (some true) else ((laws_toState.f k l0_0 l0_1).bind fun bt332 => ((laws_toState.f k l1_0 l1_1).bind fun bt338 => ((spec_StateSame.f k bt332.1 bt332.2 bt338.1 bt338.2).bind fun t344 => ((laws_toState.f k l0_0 l0_1).bind fun bt345 => ((laws_toState.f k l1_0 l1_1).bind fun bt352 => ((impl_StateSame.f k bt345.1 bt345.2 bt352.1 bt352.2).bind fun t359 => (if (t359 != t344) = true then (some false) else ((laws_toState.f k l0_0 l0_1).bind fun bt360 => ((laws_eqState.f k bt345.1 bt345.2 bt360.1 bt360.2).bind fun t366 => (if t366 = true then ((laws_toState.f k l1_0 l1_1).bind fun bt367 => ((laws_eqState.f k bt352.1 bt352.2 bt367.1 bt367.2).bind fun t373 => (if t373 = true then (some true) else (some false)))) else (some false)))))))))))))) = some r := H
 have A3 := zm A30
 clear A30
 by_cases c4 : t330 < 0
 ·rw [if_pos c4] at H
  have c4b0 : decide (t330 < 0) = true := decide_eq_true c4
  clear c4
  obtain rfl := Option.some.inj H
  go_enter Try.func8, Try.ntmps8
  go_wp2_with (first | ((with_reducible refine gate_dst (N := 2) rfl ?_); refine zbox 2 #[.slice A0_0 l0_0.length c0_0, .slice A0_1 l0_1.length c0_1] 48 ?_; intro gb328 hg w5 hbox hb; have BK328 := zm (hbox); have GW328 := zge w hg zB; have GE328 := zge w hg zB; replace HB := zm (below_step zB hb); clear hb hbox hg) | ((with_reducible refine gate_dst (N := 3) rfl ?_); refine zbox 3 #[.slice A1_0 l1_0.length c1_0, .slice A1_1 l1_1.length c1_1] 48 ?_; intro gb329 hg w6 hbox hb; have BK329 := zm (hbox); have GW329 := zge w hg zB; have GE329 := zge w hg zB; replace HB := zm (below_step zB hb); have NB328_329 := zlt hg (zb BK328); have NB329_328 := zgt hg (zb BK328); replace BK328 := zm (blk_below (zb BK328) hb); clear hb hbox hg; have hnb7 := NB328_329.out; have hnc7 := NB329_328.out; have hcz8_0 : w6.cell? ⟨gb328, 0, none⟩ = some (.slice A0_0 l0_0.length c0_0) := (blk_cell BK328.out 0).trans rfl; have hcz8_1 : w6.cell? ⟨gb328, 1, none⟩ = some (.slice A0_1 l0_1.length c0_1) := (blk_cell BK328.out 1).trans rfl; have hfz8_0 := blk_frozen BK328.out 0; have hfz8_1 := blk_frozen BK328.out 1) | ((with_reducible refine gate_callee (f := 35) rfl ?_); refine zg (some 12) #[.agg #[.slice A0_0 l0_0.length c0_0, .slice A0_1 l0_1.length c0_1], .int .i64 1048576] Try.func35 ?_; (with_reducible refine (laws_szState.calls k _ _ l0_0 _ _ l0_1 1048576 t330 _ (zk (Kd.C_below HR0_0.out HB.out)) HC0_0.out (zk (Kd.C_below HR0_1.out HB.out)) HC0_1.out A3.out).mono ?_); rintro e w9 ⟨rfl, hb⟩; refine ⟨_, rfl, ?_⟩; replace BK328 := zm (blk_below (zb BK328) hb); replace BK329 := zm (blk_below (zb BK329) hb); replace HB := zm (below_step zB hb); clear hb))
  go_ret
  exact ⟨zE, zB⟩
 ·rw [if_neg c4] at H
  have c4b0 : decide (t330 < 0) = false := decide_eq_false c4
  clear c4
  replace H := Option.bind_eq_some_iff.mp H
  obtain ⟨t331, A100, H⟩ := H
  replace H : (if t331 < 0 then (some true) else ((laws_toState.f k l0_0 l0_1).bind fun bt332 => ((laws_toState.f k l1_0 l1_1).bind fun bt338 => ((spec_StateSame.f k bt332.1 bt332.2 bt338.1 bt338.2).bind fun t344 => ((laws_toState.f k l0_0 l0_1).bind fun bt345 => ((laws_toState.f k l1_0 l1_1).bind fun bt352 => ((impl_StateSame.f k bt345.1 bt345.2 bt352.1 bt352.2).bind fun t359 => (if (t359 != t344) = true then (some false) else ((laws_toState.f k l0_0 l0_1).bind fun bt360 => ((laws_eqState.f k bt345.1 bt345.2 bt360.1 bt360.2).bind fun t366 => (if t366 = true then ((laws_toState.f k l1_0 l1_1).bind fun bt367 => ((laws_eqState.f k bt352.1 bt352.2 bt367.1 bt367.2).bind fun t373 => (if t373 = true then (some true) else (some false)))) else (some false)))))))))))) = some r := H
  have A10 := zm A100
  clear A100
  by_cases c11 : t331 < 0
  ·rw [if_pos c11] at H
   have c11b0 : decide (t331 < 0) = true := decide_eq_true c11
   clear c11
   obtain rfl := Option.some.inj H
   go_enter Try.func8, Try.ntmps8
   go_wp2_with (first | ((with_reducible refine gate_dst (N := 2) rfl ?_); refine zbox 2 #[.slice A0_0 l0_0.length c0_0, .slice A0_1 l0_1.length c0_1] 48 ?_; intro gb328 hg w12 hbox hb; have BK328 := zm (hbox); have GW328 := zge w hg zB; have GE328 := zge w hg zB; replace HB := zm (below_step zB hb); clear hb hbox hg) | ((with_reducible refine gate_dst (N := 3) rfl ?_); refine zbox 3 #[.slice A1_0 l1_0.length c1_0, .slice A1_1 l1_1.length c1_1] 48 ?_; intro gb329 hg w13 hbox hb; have BK329 := zm (hbox); have GW329 := zge w hg zB; have GE329 := zge w hg zB; replace HB := zm (below_step zB hb); have NB328_329 := zlt hg (zb BK328); have NB329_328 := zgt hg (zb BK328); replace BK328 := zm (blk_below (zb BK328) hb); clear hb hbox hg; have hnb14 := NB328_329.out; have hnc14 := NB329_328.out; have hcz15_0 : w13.cell? ⟨gb328, 0, none⟩ = some (.slice A0_0 l0_0.length c0_0) := (blk_cell BK328.out 0).trans rfl; have hcz15_1 : w13.cell? ⟨gb328, 1, none⟩ = some (.slice A0_1 l0_1.length c0_1) := (blk_cell BK328.out 1).trans rfl; have hfz15_0 := blk_frozen BK328.out 0; have hfz15_1 := blk_frozen BK328.out 1) | ((with_reducible refine gate_callee (f := 35) rfl ?_); refine zg (some 12) #[.agg #[.slice A0_0 l0_0.length c0_0, .slice A0_1 l0_1.length c0_1], .int .i64 1048576] Try.func35 ?_; (with_reducible refine (laws_szState.calls k _ _ l0_0 _ _ l0_1 1048576 t330 _ (zk (Kd.C_below HR0_0.out HB.out)) HC0_0.out (zk (Kd.C_below HR0_1.out HB.out)) HC0_1.out A3.out).mono ?_); rintro e w16 ⟨rfl, hb⟩; refine ⟨_, rfl, ?_⟩; replace BK328 := zm (blk_below (zb BK328) hb); replace BK329 := zm (blk_below (zb BK329) hb); replace HB := zm (below_step zB hb); clear hb; have hcz17_0 : w16.cell? ⟨gb329, 0, none⟩ = some (.slice A1_0 l1_0.length c1_0) := (blk_cell BK329.out 0).trans rfl; have hcz17_1 : w16.cell? ⟨gb329, 1, none⟩ = some (.slice A1_1 l1_1.length c1_1) := (blk_cell BK329.out 1).trans rfl; have hfz17_0 := blk_frozen BK329.out 0; have hfz17_1 := blk_frozen BK329.out 1) | ((with_reducible refine gate_callee (f := 35) rfl ?_); refine zg (some 17) #[.agg #[.slice A1_0 l1_0.length c1_0, .slice A1_1 l1_1.length c1_1], .int .i64 t330] Try.func35 ?_; (with_reducible refine (laws_szState.calls k _ _ l1_0 _ _ l1_1 t330 t331 _ (zk (Kd.C_below HR1_0.out HB.out)) HC1_0.out (zk (Kd.C_below HR1_1.out HB.out)) HC1_1.out A10.out).mono ?_); rintro e w18 ⟨rfl, hb⟩; refine ⟨_, rfl, ?_⟩; replace BK328 := zm (blk_below (zb BK328) hb); replace BK329 := zm (blk_below (zb BK329) hb); replace HB := zm (below_step zB hb); clear hb))
   go_ret
   exact ⟨zE, zB⟩
  ·rw [if_neg c11] at H
   have c11b0 : decide (t331 < 0) = false := decide_eq_false c11
   clear c11
   replace H := Option.bind_eq_some_iff.mp H
   obtain ⟨⟨t332, t335⟩, A190, H⟩ := H
   replace H : ((laws_toState.f k l1_0 l1_1).bind fun bt338 => ((spec_StateSame.f k t332 t335 bt338.1 bt338.2).bind fun t344 => ((laws_toState.f k l0_0 l0_1).bind fun bt345 => ((laws_toState.f k l1_0 l1_1).bind fun bt352 => ((impl_StateSame.f k bt345.1 bt345.2 bt352.1 bt352.2).bind fun t359 => (if (t359 != t344) = true then (some false) else ((laws_toState.f k l0_0 l0_1).bind fun bt360 => ((laws_eqState.f k bt345.1 bt345.2 bt360.1 bt360.2).bind fun t366 => (if t366 = true then ((laws_toState.f k l1_0 l1_1).bind fun bt367 => ((laws_eqState.f k bt352.1 bt352.2 bt367.1 bt367.2).bind fun t373 => (if t373 = true then (some true) else (some false)))) else (some false)))))))))) = some r := H
   have A19 := zm A190
   clear A190
   replace H := Option.bind_eq_some_iff.mp H
   obtain ⟨⟨t338, t341⟩, A200, H⟩ := H
   replace H : ((spec_StateSame.f k t332 t335 t338 t341).bind fun t344 => ((laws_toState.f k l0_0 l0_1).bind fun bt345 => ((laws_toState.f k l1_0 l1_1).bind fun bt352 => ((impl_StateSame.f k bt345.1 bt345.2 bt352.1 bt352.2).bind fun t359 => (if (t359 != t344) = true then (some false) else ((laws_toState.f k l0_0 l0_1).bind fun bt360 => ((laws_eqState.f k bt345.1 bt345.2 bt360.1 bt360.2).bind fun t366 => (if t366 = true then ((laws_toState.f k l1_0 l1_1).bind fun bt367 => ((laws_eqState.f k bt352.1 bt352.2 bt367.1 bt367.2).bind fun t373 => (if t373 = true then (some true) else (some false)))) else (some false))))))))) = some r := H
   have A20 := zm A200
   clear A200
   replace H := Option.bind_eq_some_iff.mp H
   obtain ⟨t344, A210, H⟩ := H
   replace H : ((laws_toState.f k l0_0 l0_1).bind fun bt345 => ((laws_toState.f k l1_0 l1_1).bind fun bt352 => ((impl_StateSame.f k bt345.1 bt345.2 bt352.1 bt352.2).bind fun t359 => (if (t359 != t344) = true then (some false) else ((laws_toState.f k l0_0 l0_1).bind fun bt360 => ((laws_eqState.f k bt345.1 bt345.2 bt360.1 bt360.2).bind fun t366 => (if t366 = true then ((laws_toState.f k l1_0 l1_1).bind fun bt367 => ((laws_eqState.f k bt352.1 bt352.2 bt367.1 bt367.2).bind fun t373 => (if t373 = true then (some true) else (some false)))) else (some false)))))))) = some r := H
   have A21 := zm A210
   clear A210
   replace H := Option.bind_eq_some_iff.mp H
   obtain ⟨⟨t345, t348⟩, A220, H⟩ := H
   replace H : ((laws_toState.f k l1_0 l1_1).bind fun bt352 => ((impl_StateSame.f k t345 t348 bt352.1 bt352.2).bind fun t359 => (if (t359 != t344) = true then (some false) else ((laws_toState.f k l0_0 l0_1).bind fun bt360 => ((laws_eqState.f k t345 t348 bt360.1 bt360.2).bind fun t366 => (if t366 = true then ((laws_toState.f k l1_0 l1_1).bind fun bt367 => ((laws_eqState.f k bt352.1 bt352.2 bt367.1 bt367.2).bind fun t373 => (if t373 = true then (some true) else (some false)))) else (some false))))))) = some r := H
   have A22 := zm A220
   clear A220
   replace H := Option.bind_eq_some_iff.mp H
   obtain ⟨⟨t352, t355⟩, A230, H⟩ := H
   replace H : ((impl_StateSame.f k t345 t348 t352 t355).bind fun t359 => (if (t359 != t344) = true then (some false) else ((laws_toState.f k l0_0 l0_1).bind fun bt360 => ((laws_eqState.f k t345 t348 bt360.1 bt360.2).bind fun t366 => (if t366 = true then ((laws_toState.f k l1_0 l1_1).bind fun bt367 => ((laws_eqState.f k t352 t355 bt367.1 bt367.2).bind fun t373 => (if t373 = true then (some true) else (some false)))) else (some false)))))) = some r := H
   have A23 := zm A230
   clear A230
   replace H := Option.bind_eq_some_iff.mp H
   obtain ⟨t359, A240, H⟩ := H
   replace H : (if (t359 != t344) = true then (some false) else ((laws_toState.f k l0_0 l0_1).bind fun bt360 => ((laws_eqState.f k t345 t348 bt360.1 bt360.2).bind fun t366 => (if t366 = true then ((laws_toState.f k l1_0 l1_1).bind fun bt367 => ((laws_eqState.f k t352 t355 bt367.1 bt367.2).bind fun t373 => (if t373 = true then (some true) else (some false)))) else (some false))))) = some r := H
   have A24 := zm A240
   clear A240
   by_cases c25 : (t359 != t344) = true
   ·rw [if_pos c25] at H
    have c25b0 : (t359 != t344) = true := c25
    (try (have c25b1 : decide (t359 = t344) = false := by simpa using c25))
    (try (have c25b2 : (t359 == t344) = false := by simpa using c25))
    (try (have c25b3 : ¬ (t359 = t344) := by simpa using c25))
    clear c25
    obtain rfl := Option.some.inj H
    go_enter Try.func8, Try.ntmps8
    try go_wp2_with (first | ((with_reducible refine gate_dst (N := 2) rfl ?_); refine zbox 2 #[.slice A0_0 l0_0.length c0_0, .slice A0_1 l0_1.length c0_1] 48 ?_; intro gb328 hg w26 hbox hb; have BK328 := zm (hbox); have GW328 := zge w hg zB; have GE328 := zge w hg zB; replace HB := zm (below_step zB hb); clear hb hbox hg) | ((with_reducible refine gate_dst (N := 3) rfl ?_); refine zbox 3 #[.slice A1_0 l1_0.length c1_0, .slice A1_1 l1_1.length c1_1] 48 ?_; intro gb329 hg w27 hbox hb; have BK329 := zm (hbox); have GW329 := zge w hg zB; have GE329 := zge w hg zB; replace HB := zm (below_step zB hb); have NB328_329 := zlt hg (zb BK328); have NB329_328 := zgt hg (zb BK328); replace BK328 := zm (blk_below (zb BK328) hb); clear hb hbox hg; have hnb28 := NB328_329.out; have hnc28 := NB329_328.out; have hcz29_0 : w27.cell? ⟨gb328, 0, none⟩ = some (.slice A0_0 l0_0.length c0_0) := (blk_cell BK328.out 0).trans rfl; have hcz29_1 : w27.cell? ⟨gb328, 1, none⟩ = some (.slice A0_1 l0_1.length c0_1) := (blk_cell BK328.out 1).trans rfl; have hfz29_0 := blk_frozen BK328.out 0; have hfz29_1 := blk_frozen BK328.out 1) | ((with_reducible refine gate_callee (f := 35) rfl ?_); refine zg (some 12) #[.agg #[.slice A0_0 l0_0.length c0_0, .slice A0_1 l0_1.length c0_1], .int .i64 1048576] Try.func35 ?_; (with_reducible refine (laws_szState.calls k _ _ l0_0 _ _ l0_1 1048576 t330 _ (zk (Kd.C_below HR0_0.out HB.out)) HC0_0.out (zk (Kd.C_below HR0_1.out HB.out)) HC0_1.out A3.out).mono ?_); rintro e w30 ⟨rfl, hb⟩; refine ⟨_, rfl, ?_⟩; replace BK328 := zm (blk_below (zb BK328) hb); replace BK329 := zm (blk_below (zb BK329) hb); replace HB := zm (below_step zB hb); clear hb; have hcz31_0 : w30.cell? ⟨gb329, 0, none⟩ = some (.slice A1_0 l1_0.length c1_0) := (blk_cell BK329.out 0).trans rfl; have hcz31_1 : w30.cell? ⟨gb329, 1, none⟩ = some (.slice A1_1 l1_1.length c1_1) := (blk_cell BK329.out 1).trans rfl; have hfz31_0 := blk_frozen BK329.out 0; have hfz31_1 := blk_frozen BK329.out 1) | ((with_reducible refine gate_callee (f := 35) rfl ?_); refine zg (some 17) #[.agg #[.slice A1_0 l1_0.length c1_0, .slice A1_1 l1_1.length c1_1], .int .i64 t330] Try.func35 ?_; (with_reducible refine (laws_szState.calls k _ _ l1_0 _ _ l1_1 t330 t331 _ (zk (Kd.C_below HR1_0.out HB.out)) HC1_0.out (zk (Kd.C_below HR1_1.out HB.out)) HC1_1.out A10.out).mono ?_); rintro e w32 ⟨rfl, hb⟩; refine ⟨_, rfl, ?_⟩; replace BK328 := zm (blk_below (zb BK328) hb); replace BK329 := zm (blk_below (zb BK329) hb); replace HB := zm (below_step zB hb); clear hb))
    replace BK328 := zm (blk_drew BK328.out)
    replace BK329 := zm (blk_drew BK329.out)
    replace HB := zm (below_drew1 HB.out)
    refine start_ (n := 6) (S := fun w' => w'.cell? ⟨gb328, 0, none⟩ = some (.slice A0_0 l0_0.length c0_0) ∧ w'.cell? ⟨gb328, 1, none⟩ = some (.slice A0_1 l0_1.length c0_1) ∧ w'.cell? ⟨gb329, 0, none⟩ = some (.slice A1_0 l1_0.length c1_0) ∧ w'.cell? ⟨gb329, 1, none⟩ = some (.slice A1_1 l1_1.length c1_1)) (ds := []) (zl 6 0) (by kernel_rfl) rfl rfl ⟨(blk_cell BK328.out 0).trans rfl, (blk_cell BK328.out 1).trans rfl, (blk_cell BK329.out 0).trans rfl, (blk_cell BK329.out 1).trans rfl⟩ (fun hHeld => ?_)
    generalize w32.drew = w33 at BK328 BK329 HB hHeld ⊢
    refine zt 0 (some 20) (zl 6 1) ?_
    refine zt 2 (some 22) (zl 6 5) ?_
    refine zo 1 (some 21) (zl 6 7) (fun K hK => ?_)
    refine zgo #[.agg #[.slice A0_0 l0_0.length c0_0, .slice A0_1 l0_1.length c0_1]] Try.func37 ?_
    with_reducible refine (laws_toState.calls k _ _ l0_0 _ _ l0_1 t332 t335 _ (zk (Kd.C_below HR0_0.out HB.out)) HC0_0.out (zk (Kd.C_below HR0_1.out HB.out)) HC0_1.out A19.out).mono ?_
    rintro e w34 ⟨v333, v336, rfl, ho0, ho1, hb⟩
    refine ⟨_, rfl, ?_⟩
    have HO334 := zm (Kd.R_lower ho0 (below_size zB))
    have HO337 := zm (Kd.R_lower ho1 (below_size zB))
    replace BK328 := zm (blk_below (zb BK328) hb)
    replace BK329 := zm (blk_below (zb BK329) hb)
    replace HB := zm (below_step zB hb)
    (try clear hb)
    (try clear hb2)
    (try clear hk)
    (try clear hi)
    (try clear ho0)
    (try clear ho1)
    refine hK.out _ _ ⟨(blk_cell BK328.out 0).trans rfl, (blk_cell BK328.out 1).trans rfl, (blk_cell BK329.out 0).trans rfl, (blk_cell BK329.out 1).trans rfl⟩ (fun hHeld => ?_)
    clear hK K
    refine zn ?_
    refine zo 3 (some 23) (zl 6 15) (fun K hK => ?_)
    refine zgo #[.agg #[.slice A1_0 l1_0.length c1_0, .slice A1_1 l1_1.length c1_1]] Try.func37 ?_
    with_reducible refine (laws_toState.calls k _ _ l1_0 _ _ l1_1 t338 t341 _ (zk (Kd.C_below HR1_0.out HB.out)) HC1_0.out (zk (Kd.C_below HR1_1.out HB.out)) HC1_1.out A20.out).mono ?_
    rintro e w35 ⟨v339, v342, rfl, ho0, ho1, hb⟩
    refine ⟨_, rfl, ?_⟩
    have HO340 := zm (Kd.R_lower (Kd.R_new' ho0 (Kd.R_lt (zr HO334))) (below_size zB))
    replace HO334 := zm (Kd.R_elder' (zr HO334) (Kd.R_base ho0) hb)
    have HO343 := zm (Kd.R_lower (Kd.R_new' ho1 (Kd.R_lt (zr HO337))) (below_size zB))
    replace HO337 := zm (Kd.R_elder' (zr HO337) (Kd.R_base ho1) hb)
    replace BK328 := zm (blk_below (zb BK328) hb)
    replace BK329 := zm (blk_below (zb BK329) hb)
    replace HB := zm (below_step zB hb)
    (try clear hb)
    (try clear hb2)
    (try clear hk)
    (try clear hi)
    (try clear ho0)
    (try clear ho1)
    obtain ⟨Ao36, co36, eo36⟩ := Kd.R_slice HO334.out
    (first | subst eo36 | (injection eo36 with f1_ f2_ f3_; have f4_ := f1_.symm; have f5_ := f3_.symm; clear f1_ f2_ f3_; subst f4_; subst f5_))
    obtain ⟨Ao37, co37, eo37⟩ := Kd.R_slice HO337.out
    (first | subst eo37 | (injection eo37 with f1_ f2_ f3_; have f4_ := f1_.symm; have f5_ := f3_.symm; clear f1_ f2_ f3_; subst f4_; subst f5_))
    obtain ⟨Ao38, co38, eo38⟩ := Kd.R_slice HO340.out
    (first | subst eo38 | (injection eo38 with f1_ f2_ f3_; have f4_ := f1_.symm; have f5_ := f3_.symm; clear f1_ f2_ f3_; subst f4_; subst f5_))
    obtain ⟨Ao39, co39, eo39⟩ := Kd.R_slice HO343.out
    (first | subst eo39 | (injection eo39 with f1_ f2_ f3_; have f4_ := f1_.symm; have f5_ := f3_.symm; clear f1_ f2_ f3_; subst f4_; subst f5_))
    refine hK.out _ _ ⟨(blk_cell BK328.out 0).trans rfl, (blk_cell BK328.out 1).trans rfl, (blk_cell BK329.out 0).trans rfl, (blk_cell BK329.out 1).trans rfl⟩ (fun hHeld => ?_)
    clear hK K
    refine zn ?_
    refine zo 4 (some 24) (zl 6 31) (fun K hK => ?_)
    refine zgo #[.agg #[.slice Ao36 t332.length co36, .slice Ao37 t335.length co37], .agg #[.slice Ao38 t338.length co38, .slice Ao39 t341.length co39]] Try.func42 ?_
    with_reducible refine (spec_StateSame.calls k _ _ t332 _ _ t335 _ _ t338 _ _ t341 t344 _ ?side1 ?side2 ?side3 ?side4 ?side5 ?side6 ?side7 ?side8 A21.out).mono ?_
    (case side1 => repeat (first | exact (Kd.R_reads' HO334.out).2.2 | (with_reducible refine Kd.C_alloc ?_ _) | (with_reducible refine Kd.C_drewN ?_ _) | (with_reducible refine Kd.C_drew ?_)))
    (case side2 => exact (Kd.R_reads' HO334.out).2.1)
    (case side3 => repeat (first | exact (Kd.R_reads' HO337.out).2.2 | (with_reducible refine Kd.C_alloc ?_ _) | (with_reducible refine Kd.C_drewN ?_ _) | (with_reducible refine Kd.C_drew ?_)))
    (case side4 => exact (Kd.R_reads' HO337.out).2.1)
    (case side5 => repeat (first | exact (Kd.R_reads' HO340.out).2.2 | (with_reducible refine Kd.C_alloc ?_ _) | (with_reducible refine Kd.C_drewN ?_ _) | (with_reducible refine Kd.C_drew ?_)))
    (case side6 => exact (Kd.R_reads' HO340.out).2.1)
    (case side7 => repeat (first | exact (Kd.R_reads' HO343.out).2.2 | (with_reducible refine Kd.C_alloc ?_ _) | (with_reducible refine Kd.C_drewN ?_ _) | (with_reducible refine Kd.C_drew ?_)))
    (case side8 => exact (Kd.R_reads' HO343.out).2.1)
    rintro e w40 ⟨rfl, hb⟩
    refine ⟨_, rfl, ?_⟩
    replace HO334 := zm (Kd.R_below (zr HO334) hb)
    replace HO337 := zm (Kd.R_below (zr HO337) hb)
    replace HO340 := zm (Kd.R_below (zr HO340) hb)
    replace HO343 := zm (Kd.R_below (zr HO343) hb)
    replace BK328 := zm (blk_below (zb BK328) hb)
    replace BK329 := zm (blk_below (zb BK329) hb)
    replace HB := zm (below_step zB hb)
    (try clear hb)
    (try clear hb2)
    (try clear hk)
    (try clear hi)
    refine hK.out _ _ ⟨(blk_cell BK328.out 0).trans rfl, (blk_cell BK328.out 1).trans rfl, (blk_cell BK329.out 0).trans rfl, (blk_cell BK329.out 1).trans rfl⟩ (fun hHeld => ?_)
    clear hK K
    refine zn ?_
    refine zp 5 (some 6) (zl 6 63) ?_
    refine done_ (by kernel_rfl) ?_
    have hcz41_0 : w40.cell? ⟨gb328, 0, none⟩ = some (.slice A0_0 l0_0.length c0_0) := (blk_cell BK328.out 0).trans rfl
    have hcz41_1 : w40.cell? ⟨gb328, 1, none⟩ = some (.slice A0_1 l0_1.length c0_1) := (blk_cell BK328.out 1).trans rfl
    have hfz41_0 := blk_frozen BK328.out 0
    have hfz41_1 := blk_frozen BK328.out 1
    try go_wp2_with (first | ((with_reducible refine gate_callee (f := 37) rfl ?_); refine zg (some 26) #[.agg #[.slice A0_0 l0_0.length c0_0, .slice A0_1 l0_1.length c0_1]] Try.func37 ?_; (with_reducible refine (laws_toState.calls k _ _ l0_0 _ _ l0_1 t345 t348 _ (zk (Kd.C_below HR0_0.out HB.out)) HC0_0.out (zk (Kd.C_below HR0_1.out HB.out)) HC0_1.out A22.out).mono ?_); rintro e w42 ⟨v346, v349, rfl, ho0, ho1, hb⟩; refine ⟨_, rfl, ?_⟩; have HO347 := zm (Kd.R_lower (Kd.R_new' (Kd.R_new' ho0 (Kd.R_lt (zr HO334))) (Kd.R_lt (zr HO340))) (below_size zB)); replace HO334 := zm (Kd.R_elder' (zr HO334) (Kd.R_base ho0) hb); replace HO340 := zm (Kd.R_elder' (zr HO340) (Kd.R_base ho0) hb); have HO350 := zm (Kd.R_lower (Kd.R_new' (Kd.R_new' ho1 (Kd.R_lt (zr HO337))) (Kd.R_lt (zr HO343))) (below_size zB)); replace HO337 := zm (Kd.R_elder' (zr HO337) (Kd.R_base ho1) hb); replace HO343 := zm (Kd.R_elder' (zr HO343) (Kd.R_base ho1) hb); replace BK328 := zm (blk_below (zb BK328) hb); replace BK329 := zm (blk_below (zb BK329) hb); replace HB := zm (below_step zB hb); clear hb ho0 ho1) | ((with_reducible refine gate_dst (N := 7) rfl ?_); refine zbox 7 #[.slice none 0 0, .slice none 0 0] 55 ?_; intro gb351 hg w43 hbox hb; replace HO334 := zm (Kd.R_below (zr HO334) hb); replace HO337 := zm (Kd.R_below (zr HO337) hb); replace HO340 := zm (Kd.R_below (zr HO340) hb); replace HO343 := zm (Kd.R_below (zr HO343) hb); replace HO347 := zm (Kd.R_below (zr HO347) hb); replace HO350 := zm (Kd.R_below (zr HO350) hb); have BK351 := zm (hbox); have GW351 := zge w hg zB; have GE351 := zge w hg zB; replace HB := zm (below_step zB hb); have NB328_351 := zlt hg (zb BK328); have NB351_328 := zgt hg (zb BK328); replace BK328 := zm (blk_below (zb BK328) hb); have NB329_351 := zlt hg (zb BK329); have NB351_329 := zgt hg (zb BK329); replace BK329 := zm (blk_below (zb BK329) hb); clear hb hbox hg; obtain ⟨Ao44, co44, eo44⟩ := Kd.R_slice HO347.out; subst eo44; have hnb45 := NB351_328.out; have hnc45 := NB328_351.out; have hnb46 := NB351_329.out; have hnc46 := NB329_351.out; have hcz47_0 : w43.cell? ⟨gb351, 0, none⟩ = some (.slice none 0 0) := (blk_cell BK351.out 0).trans rfl; have hcz47_1 : w43.cell? ⟨gb351, 1, none⟩ = some (.slice none 0 0) := (blk_cell BK351.out 1).trans rfl; have hfz47_0 := blk_frozen BK351.out 0; have hfz47_1 := blk_frozen BK351.out 1; obtain ⟨Ao48, co48, eo48⟩ := Kd.R_slice HO350.out; subst eo48; have hcz49_0 : w43.cell? ⟨gb329, 0, none⟩ = some (.slice A1_0 l1_0.length c1_0) := (blk_cell BK329.out 0).trans rfl; have hcz49_1 : w43.cell? ⟨gb329, 1, none⟩ = some (.slice A1_1 l1_1.length c1_1) := (blk_cell BK329.out 1).trans rfl; have hfz49_0 := blk_frozen BK329.out 0; have hfz49_1 := blk_frozen BK329.out 1) | ((with_reducible refine gate_callee (f := 37) rfl ?_); refine zg (some 28) #[.agg #[.slice A1_0 l1_0.length c1_0, .slice A1_1 l1_1.length c1_1]] Try.func37 ?_; (with_reducible refine (laws_toState.calls k _ _ l1_0 _ _ l1_1 t352 t355 _ ?side1 HC1_0.out ?side3 HC1_1.out A23.out).mono ?_); (case side1 => exact Kd.C_below HR1_0.out zB); (case side3 => exact Kd.C_below HR1_1.out zB); rintro e w50 ⟨v353, v356, rfl, ho0, ho1, hb⟩; refine ⟨_, rfl, ?_⟩; have HO354 := zm (Kd.R_lower (Kd.R_new' (Kd.R_new' (Kd.R_new' ho0 (Kd.R_lt (zrs <| (Kd.R_mono (zfr (zfr (Kd.R_types HO334.out BK351.out (by decide)))) (fun _ h_ => h_.1))))) (Kd.R_lt (zrs <| (Kd.R_mono (zfr (zfr (Kd.R_types HO340.out BK351.out (by decide)))) (fun _ h_ => h_.1))))) (Kd.R_lt (zrs <| (Kd.R_mono (zfr (zfr (Kd.R_types HO347.out BK351.out (by decide)))) (fun _ h_ => h_.1))))) (below_size zB)); replace HO334 := zm (Kd.R_elder' (zrs <| (Kd.R_mono (zfr (zfr (Kd.R_types HO334.out BK351.out (by decide)))) (fun _ h_ => h_.1))) (Kd.R_base ho0) hb); replace HO340 := zm (Kd.R_elder' (zrs <| (Kd.R_mono (zfr (zfr (Kd.R_types HO340.out BK351.out (by decide)))) (fun _ h_ => h_.1))) (Kd.R_base ho0) hb); replace HO347 := zm (Kd.R_elder' (zrs <| (Kd.R_mono (zfr (zfr (Kd.R_types HO347.out BK351.out (by decide)))) (fun _ h_ => h_.1))) (Kd.R_base ho0) hb); have HO357 := zm (Kd.R_lower (Kd.R_new' (Kd.R_new' (Kd.R_new' ho1 (Kd.R_lt (zrs <| (Kd.R_mono (zfr (zfr (Kd.R_types HO337.out BK351.out (by decide)))) (fun _ h_ => h_.1))))) (Kd.R_lt (zrs <| (Kd.R_mono (zfr (zfr (Kd.R_types HO343.out BK351.out (by decide)))) (fun _ h_ => h_.1))))) (Kd.R_lt (zrs <| (Kd.R_mono (zfr (zfr (Kd.R_types HO350.out BK351.out (by decide)))) (fun _ h_ => h_.1))))) (below_size zB)); replace HO337 := zm (Kd.R_elder' (zrs <| (Kd.R_mono (zfr (zfr (Kd.R_types HO337.out BK351.out (by decide)))) (fun _ h_ => h_.1))) (Kd.R_base ho1) hb); replace HO343 := zm (Kd.R_elder' (zrs <| (Kd.R_mono (zfr (zfr (Kd.R_types HO343.out BK351.out (by decide)))) (fun _ h_ => h_.1))) (Kd.R_base ho1) hb); replace HO350 := zm (Kd.R_elder' (zrs <| (Kd.R_mono (zfr (zfr (Kd.R_types HO350.out BK351.out (by decide)))) (fun _ h_ => h_.1))) (Kd.R_base ho1) hb); replace BK328 := zm (blk_below (g := gb328) (o := .cells #[.slice A0_0 l0_0.length c0_0, .slice A0_1 l0_1.length c0_1] 48 (0, 0)) (zfar (zfar (zb BK328) NB328_351) NB328_351) hb); replace BK329 := zm (blk_below (g := gb329) (o := .cells #[.slice A1_0 l1_0.length c1_0, .slice A1_1 l1_1.length c1_1] 48 (0, 0)) (zfar (zfar (zb BK329) NB329_351) NB329_351) hb); replace BK351 := zm (blk_below (g := gb351) (o := .cells #[.slice Ao44 t345.length co44, .slice Ao48 t348.length co48] 55 (0, 0)) (zput (zput (zb BK351) 0) 1) hb); replace HB := zm (below_step zB hb); clear hb ho0 ho1) | ((with_reducible refine gate_dst (N := 8) rfl ?_); refine zbox 8 #[.slice none 0 0, .slice none 0 0] 55 ?_; intro gb358 hg w51 hbox hb; replace HO334 := zm (Kd.R_below (zr HO334) hb); replace HO337 := zm (Kd.R_below (zr HO337) hb); replace HO340 := zm (Kd.R_below (zr HO340) hb); replace HO343 := zm (Kd.R_below (zr HO343) hb); replace HO347 := zm (Kd.R_below (zr HO347) hb); replace HO350 := zm (Kd.R_below (zr HO350) hb); replace HO354 := zm (Kd.R_below (zr HO354) hb); replace HO357 := zm (Kd.R_below (zr HO357) hb); have BK358 := zm (hbox); have GW358 := zge w hg zB; have GE358 := zge w hg zB; replace HB := zm (below_step zB hb); have NB328_358 := zlt hg (zb BK328); have NB358_328 := zgt hg (zb BK328); replace BK328 := zm (blk_below (zb BK328) hb); have NB329_358 := zlt hg (zb BK329); have NB358_329 := zgt hg (zb BK329); replace BK329 := zm (blk_below (zb BK329) hb); have NB351_358 := zlt hg (zb BK351); have NB358_351 := zgt hg (zb BK351); replace BK351 := zm (blk_below (zb BK351) hb); clear hb hbox hg; obtain ⟨Ao52, co52, eo52⟩ := Kd.R_slice HO354.out; subst eo52; have hnb53 := NB358_328.out; have hnc53 := NB328_358.out; have hnb54 := NB358_329.out; have hnc54 := NB329_358.out; have hnb55 := NB358_351.out; have hnc55 := NB351_358.out; have hcz56_0 : w51.cell? ⟨gb358, 0, none⟩ = some (.slice none 0 0) := (blk_cell BK358.out 0).trans rfl; have hcz56_1 : w51.cell? ⟨gb358, 1, none⟩ = some (.slice none 0 0) := (blk_cell BK358.out 1).trans rfl; have hfz56_0 := blk_frozen BK358.out 0; have hfz56_1 := blk_frozen BK358.out 1; obtain ⟨Ao57, co57, eo57⟩ := Kd.R_slice HO357.out; subst eo57; have hcz58_0 : w51.cell? ⟨gb351, 0, none⟩ = some (.slice Ao44 t345.length co44) := (blk_cell BK351.out 0).trans rfl; have hcz58_1 : w51.cell? ⟨gb351, 1, none⟩ = some (.slice Ao48 t348.length co48) := (blk_cell BK351.out 1).trans rfl; have hfz58_0 := blk_frozen BK351.out 0; have hfz58_1 := blk_frozen BK351.out 1) | ((with_reducible refine gate_callee (f := 43) rfl ?_); refine zg (some 31) #[.agg #[.slice Ao44 t345.length co44, .slice Ao48 t348.length co48], .agg #[.slice Ao52 t352.length co52, .slice Ao57 t355.length co57]] Try.func43 ?_; (with_reducible refine (impl_StateSame.calls k _ _ t345 _ _ t348 _ _ t352 _ _ t355 t359 _ ?side1 ?side2 ?side3 ?side4 ?side5 ?side6 ?side7 ?side8 A24.out).mono ?_); (case side1 => refine (Kd.R_reads' (e := 84) (base := w.heap.size) (ok := fun k_ => (((True ∧ some k_ ≠ (.slice Ao36 t332.length co36 : Value).ownBlock) ∧ some k_ ≠ (.slice Ao38 t338.length co38 : Value).ownBlock) ∧ some k_ ≠ (.slice Ao52 t352.length co52 : Value).ownBlock)) (n := t345.length) (c := co44) ?_).2.2; exact (zrs <| (Kd.R_mono (zfr (zfr (Kd.R_types HO347.out BK358.out (by decide)))) (fun _ h_ => h_.1)))); (case side2 => exact (Kd.R_reads' HO347.out).2.1); (case side3 => refine (Kd.R_reads' (e := 89) (base := w.heap.size) (ok := fun k_ => (((True ∧ some k_ ≠ (.slice Ao37 t335.length co37 : Value).ownBlock) ∧ some k_ ≠ (.slice Ao39 t341.length co39 : Value).ownBlock) ∧ some k_ ≠ (.slice Ao57 t355.length co57 : Value).ownBlock)) (n := t348.length) (c := co48) ?_).2.2; exact (zrs <| (Kd.R_mono (zfr (zfr (Kd.R_types HO350.out BK358.out (by decide)))) (fun _ h_ => h_.1)))); (case side4 => exact (Kd.R_reads' HO350.out).2.1); (case side5 => refine (Kd.R_reads' (e := 84) (base := w.heap.size) (ok := fun k_ => (((True ∧ some k_ ≠ (.slice Ao36 t332.length co36 : Value).ownBlock) ∧ some k_ ≠ (.slice Ao38 t338.length co38 : Value).ownBlock) ∧ some k_ ≠ (.slice Ao44 t345.length co44 : Value).ownBlock)) (n := t352.length) (c := co52) ?_).2.2; exact (zrs <| (Kd.R_mono (zfr (zfr (Kd.R_types HO354.out BK358.out (by decide)))) (fun _ h_ => h_.1)))); (case side6 => exact (Kd.R_reads' HO354.out).2.1); (case side7 => refine (Kd.R_reads' (e := 89) (base := w.heap.size) (ok := fun k_ => (((True ∧ some k_ ≠ (.slice Ao37 t335.length co37 : Value).ownBlock) ∧ some k_ ≠ (.slice Ao39 t341.length co39 : Value).ownBlock) ∧ some k_ ≠ (.slice Ao48 t348.length co48 : Value).ownBlock)) (n := t355.length) (c := co57) ?_).2.2; exact (zrs <| (Kd.R_mono (zfr (zfr (Kd.R_types HO357.out BK358.out (by decide)))) (fun _ h_ => h_.1)))); (case side8 => exact (Kd.R_reads' HO357.out).2.1); rintro e w59 ⟨rfl, hb⟩; refine ⟨_, rfl, ?_⟩; replace HO334 := zm (Kd.R_below (zrs <| (Kd.R_mono (zfr (zfr (Kd.R_types HO334.out BK358.out (by decide)))) (fun _ h_ => h_.1))) hb); replace HO337 := zm (Kd.R_below (zrs <| (Kd.R_mono (zfr (zfr (Kd.R_types HO337.out BK358.out (by decide)))) (fun _ h_ => h_.1))) hb); replace HO340 := zm (Kd.R_below (zrs <| (Kd.R_mono (zfr (zfr (Kd.R_types HO340.out BK358.out (by decide)))) (fun _ h_ => h_.1))) hb); replace HO343 := zm (Kd.R_below (zrs <| (Kd.R_mono (zfr (zfr (Kd.R_types HO343.out BK358.out (by decide)))) (fun _ h_ => h_.1))) hb); replace HO347 := zm (Kd.R_below (zrs <| (Kd.R_mono (zfr (zfr (Kd.R_types HO347.out BK358.out (by decide)))) (fun _ h_ => h_.1))) hb); replace HO350 := zm (Kd.R_below (zrs <| (Kd.R_mono (zfr (zfr (Kd.R_types HO350.out BK358.out (by decide)))) (fun _ h_ => h_.1))) hb); replace HO354 := zm (Kd.R_below (zrs <| (Kd.R_mono (zfr (zfr (Kd.R_types HO354.out BK358.out (by decide)))) (fun _ h_ => h_.1))) hb); replace HO357 := zm (Kd.R_below (zrs <| (Kd.R_mono (zfr (zfr (Kd.R_types HO357.out BK358.out (by decide)))) (fun _ h_ => h_.1))) hb); replace BK328 := zm (blk_below (g := gb328) (o := .cells #[.slice A0_0 l0_0.length c0_0, .slice A0_1 l0_1.length c0_1] 48 (0, 0)) (zfar (zfar (zb BK328) NB328_358) NB328_358) hb); replace BK329 := zm (blk_below (g := gb329) (o := .cells #[.slice A1_0 l1_0.length c1_0, .slice A1_1 l1_1.length c1_1] 48 (0, 0)) (zfar (zfar (zb BK329) NB329_358) NB329_358) hb); replace BK351 := zm (blk_below (g := gb351) (o := .cells #[.slice Ao44 t345.length co44, .slice Ao48 t348.length co48] 55 (0, 0)) (zfar (zfar (zb BK351) NB351_358) NB351_358) hb); replace BK358 := zm (blk_below (g := gb358) (o := .cells #[.slice Ao52 t352.length co52, .slice Ao57 t355.length co57] 55 (0, 0)) (zput (zput (zb BK358) 0) 1) hb); replace HB := zm (below_step zB hb); clear hb))
    go_ret
    exact ⟨zE, zB⟩
   ·rw [if_neg c25] at H
    have c25b0 : (t359 != t344) = false := by simpa using c25
    (try (have c25b1 : decide (t359 = t344) = true := by simpa using c25))
    (try (have c25b2 : (t359 == t344) = true := by simpa using c25))
    clear c25
    replace H := Option.bind_eq_some_iff.mp H
    obtain ⟨⟨t360, t363⟩, A600, H⟩ := H
    replace H : ((laws_eqState.f k t345 t348 t360 t363).bind fun t366 => (if t366 = true then ((laws_toState.f k l1_0 l1_1).bind fun bt367 => ((laws_eqState.f k t352 t355 bt367.1 bt367.2).bind fun t373 => (if t373 = true then (some true) else (some false)))) else (some false))) = some r := H
    have A60 := zm A600
    clear A600
    replace H := Option.bind_eq_some_iff.mp H
    obtain ⟨t366, A610, H⟩ := H
    replace H : (if t366 = true then ((laws_toState.f k l1_0 l1_1).bind fun bt367 => ((laws_eqState.f k t352 t355 bt367.1 bt367.2).bind fun t373 => (if t373 = true then (some true) else (some false)))) else (some false)) = some r := H
    have A61 := zm A610
    clear A610
    by_cases c62 : t366 = true
    ·subst c62
     have H1 : ((laws_toState.f k l1_0 l1_1).bind fun bt367 => ((laws_eqState.f k t352 t355 bt367.1 bt367.2).bind fun t373 => (if t373 = true then (some true) else (some false)))) = some r := by rw [if_pos rfl] at H; exact H
     clear H
     have H := H1
     clear H1
     replace H := Option.bind_eq_some_iff.mp H
     obtain ⟨⟨t367, t370⟩, A630, H⟩ := H
     replace H : ((laws_eqState.f k t352 t355 t367 t370).bind fun t373 => (if t373 = true then (some true) else (some false))) = some r := H
     have A63 := zm A630
     clear A630
     replace H := Option.bind_eq_some_iff.mp H
     obtain ⟨t373, A640, H⟩ := H
     replace H : (if t373 = true then (some true) else (some false)) = some r := H
     have A64 := zm A640
     clear A640
     by_cases c65 : t373 = true
     ·subst c65
      have H1 : (some true) = some r := by rw [if_pos rfl] at H; exact H
      clear H
      have H := H1
      clear H1
      obtain rfl := Option.some.inj H
      go_enter Try.func8, Try.ntmps8
      try go_wp2_with (first | ((with_reducible refine gate_dst (N := 2) rfl ?_); refine zbox 2 #[.slice A0_0 l0_0.length c0_0, .slice A0_1 l0_1.length c0_1] 48 ?_; intro gb328 hg w66 hbox hb; have BK328 := zm (hbox); have GW328 := zge w hg zB; have GE328 := zge w hg zB; replace HB := zm (below_step zB hb); clear hb hbox hg) | ((with_reducible refine gate_dst (N := 3) rfl ?_); refine zbox 3 #[.slice A1_0 l1_0.length c1_0, .slice A1_1 l1_1.length c1_1] 48 ?_; intro gb329 hg w67 hbox hb; have BK329 := zm (hbox); have GW329 := zge w hg zB; have GE329 := zge w hg zB; replace HB := zm (below_step zB hb); have NB328_329 := zlt hg (zb BK328); have NB329_328 := zgt hg (zb BK328); replace BK328 := zm (blk_below (zb BK328) hb); clear hb hbox hg; have hnb68 := NB328_329.out; have hnc68 := NB329_328.out; have hcz69_0 : w67.cell? ⟨gb328, 0, none⟩ = some (.slice A0_0 l0_0.length c0_0) := (blk_cell BK328.out 0).trans rfl; have hcz69_1 : w67.cell? ⟨gb328, 1, none⟩ = some (.slice A0_1 l0_1.length c0_1) := (blk_cell BK328.out 1).trans rfl; have hfz69_0 := blk_frozen BK328.out 0; have hfz69_1 := blk_frozen BK328.out 1) | ((with_reducible refine gate_callee (f := 35) rfl ?_); refine zg (some 12) #[.agg #[.slice A0_0 l0_0.length c0_0, .slice A0_1 l0_1.length c0_1], .int .i64 1048576] Try.func35 ?_; (with_reducible refine (laws_szState.calls k _ _ l0_0 _ _ l0_1 1048576 t330 _ (zk (Kd.C_below HR0_0.out HB.out)) HC0_0.out (zk (Kd.C_below HR0_1.out HB.out)) HC0_1.out A3.out).mono ?_); rintro e w70 ⟨rfl, hb⟩; refine ⟨_, rfl, ?_⟩; replace BK328 := zm (blk_below (zb BK328) hb); replace BK329 := zm (blk_below (zb BK329) hb); replace HB := zm (below_step zB hb); clear hb; have hcz71_0 : w70.cell? ⟨gb329, 0, none⟩ = some (.slice A1_0 l1_0.length c1_0) := (blk_cell BK329.out 0).trans rfl; have hcz71_1 : w70.cell? ⟨gb329, 1, none⟩ = some (.slice A1_1 l1_1.length c1_1) := (blk_cell BK329.out 1).trans rfl; have hfz71_0 := blk_frozen BK329.out 0; have hfz71_1 := blk_frozen BK329.out 1) | ((with_reducible refine gate_callee (f := 35) rfl ?_); refine zg (some 17) #[.agg #[.slice A1_0 l1_0.length c1_0, .slice A1_1 l1_1.length c1_1], .int .i64 t330] Try.func35 ?_; (with_reducible refine (laws_szState.calls k _ _ l1_0 _ _ l1_1 t330 t331 _ (zk (Kd.C_below HR1_0.out HB.out)) HC1_0.out (zk (Kd.C_below HR1_1.out HB.out)) HC1_1.out A10.out).mono ?_); rintro e w72 ⟨rfl, hb⟩; refine ⟨_, rfl, ?_⟩; replace BK328 := zm (blk_below (zb BK328) hb); replace BK329 := zm (blk_below (zb BK329) hb); replace HB := zm (below_step zB hb); clear hb))
      replace BK328 := zm (blk_drew BK328.out)
      replace BK329 := zm (blk_drew BK329.out)
      replace HB := zm (below_drew1 HB.out)
      refine start_ (n := 6) (S := fun w' => w'.cell? ⟨gb328, 0, none⟩ = some (.slice A0_0 l0_0.length c0_0) ∧ w'.cell? ⟨gb328, 1, none⟩ = some (.slice A0_1 l0_1.length c0_1) ∧ w'.cell? ⟨gb329, 0, none⟩ = some (.slice A1_0 l1_0.length c1_0) ∧ w'.cell? ⟨gb329, 1, none⟩ = some (.slice A1_1 l1_1.length c1_1)) (ds := []) (zl 6 0) (by kernel_rfl) rfl rfl ⟨(blk_cell BK328.out 0).trans rfl, (blk_cell BK328.out 1).trans rfl, (blk_cell BK329.out 0).trans rfl, (blk_cell BK329.out 1).trans rfl⟩ (fun hHeld => ?_)
      generalize w72.drew = w73 at BK328 BK329 HB hHeld ⊢
      refine zt 0 (some 20) (zl 6 1) ?_
      refine zt 2 (some 22) (zl 6 5) ?_
      refine zo 1 (some 21) (zl 6 7) (fun K hK => ?_)
      refine zgo #[.agg #[.slice A0_0 l0_0.length c0_0, .slice A0_1 l0_1.length c0_1]] Try.func37 ?_
      with_reducible refine (laws_toState.calls k _ _ l0_0 _ _ l0_1 t332 t335 _ (zk (Kd.C_below HR0_0.out HB.out)) HC0_0.out (zk (Kd.C_below HR0_1.out HB.out)) HC0_1.out A19.out).mono ?_
      rintro e w74 ⟨v333, v336, rfl, ho0, ho1, hb⟩
      refine ⟨_, rfl, ?_⟩
      have HO334 := zm (Kd.R_lower ho0 (below_size zB))
      have HO337 := zm (Kd.R_lower ho1 (below_size zB))
      replace BK328 := zm (blk_below (zb BK328) hb)
      replace BK329 := zm (blk_below (zb BK329) hb)
      replace HB := zm (below_step zB hb)
      (try clear hb)
      (try clear hb2)
      (try clear hk)
      (try clear hi)
      (try clear ho0)
      (try clear ho1)
      refine hK.out _ _ ⟨(blk_cell BK328.out 0).trans rfl, (blk_cell BK328.out 1).trans rfl, (blk_cell BK329.out 0).trans rfl, (blk_cell BK329.out 1).trans rfl⟩ (fun hHeld => ?_)
      clear hK K
      refine zn ?_
      refine zo 3 (some 23) (zl 6 15) (fun K hK => ?_)
      refine zgo #[.agg #[.slice A1_0 l1_0.length c1_0, .slice A1_1 l1_1.length c1_1]] Try.func37 ?_
      with_reducible refine (laws_toState.calls k _ _ l1_0 _ _ l1_1 t338 t341 _ (zk (Kd.C_below HR1_0.out HB.out)) HC1_0.out (zk (Kd.C_below HR1_1.out HB.out)) HC1_1.out A20.out).mono ?_
      rintro e w75 ⟨v339, v342, rfl, ho0, ho1, hb⟩
      refine ⟨_, rfl, ?_⟩
      have HO340 := zm (Kd.R_lower (Kd.R_new' ho0 (Kd.R_lt (zr HO334))) (below_size zB))
      replace HO334 := zm (Kd.R_elder' (zr HO334) (Kd.R_base ho0) hb)
      have HO343 := zm (Kd.R_lower (Kd.R_new' ho1 (Kd.R_lt (zr HO337))) (below_size zB))
      replace HO337 := zm (Kd.R_elder' (zr HO337) (Kd.R_base ho1) hb)
      replace BK328 := zm (blk_below (zb BK328) hb)
      replace BK329 := zm (blk_below (zb BK329) hb)
      replace HB := zm (below_step zB hb)
      (try clear hb)
      (try clear hb2)
      (try clear hk)
      (try clear hi)
      (try clear ho0)
      (try clear ho1)
      obtain ⟨Ao76, co76, eo76⟩ := Kd.R_slice HO334.out
      (first | subst eo76 | (injection eo76 with f1_ f2_ f3_; have f4_ := f1_.symm; have f5_ := f3_.symm; clear f1_ f2_ f3_; subst f4_; subst f5_))
      obtain ⟨Ao77, co77, eo77⟩ := Kd.R_slice HO337.out
      (first | subst eo77 | (injection eo77 with f1_ f2_ f3_; have f4_ := f1_.symm; have f5_ := f3_.symm; clear f1_ f2_ f3_; subst f4_; subst f5_))
      obtain ⟨Ao78, co78, eo78⟩ := Kd.R_slice HO340.out
      (first | subst eo78 | (injection eo78 with f1_ f2_ f3_; have f4_ := f1_.symm; have f5_ := f3_.symm; clear f1_ f2_ f3_; subst f4_; subst f5_))
      obtain ⟨Ao79, co79, eo79⟩ := Kd.R_slice HO343.out
      (first | subst eo79 | (injection eo79 with f1_ f2_ f3_; have f4_ := f1_.symm; have f5_ := f3_.symm; clear f1_ f2_ f3_; subst f4_; subst f5_))
      refine hK.out _ _ ⟨(blk_cell BK328.out 0).trans rfl, (blk_cell BK328.out 1).trans rfl, (blk_cell BK329.out 0).trans rfl, (blk_cell BK329.out 1).trans rfl⟩ (fun hHeld => ?_)
      clear hK K
      refine zn ?_
      refine zo 4 (some 24) (zl 6 31) (fun K hK => ?_)
      refine zgo #[.agg #[.slice Ao76 t332.length co76, .slice Ao77 t335.length co77], .agg #[.slice Ao78 t338.length co78, .slice Ao79 t341.length co79]] Try.func42 ?_
      with_reducible refine (spec_StateSame.calls k _ _ t332 _ _ t335 _ _ t338 _ _ t341 t344 _ ?side1 ?side2 ?side3 ?side4 ?side5 ?side6 ?side7 ?side8 A21.out).mono ?_
      (case side1 => repeat (first | exact (Kd.R_reads' HO334.out).2.2 | (with_reducible refine Kd.C_alloc ?_ _) | (with_reducible refine Kd.C_drewN ?_ _) | (with_reducible refine Kd.C_drew ?_)))
      (case side2 => exact (Kd.R_reads' HO334.out).2.1)
      (case side3 => repeat (first | exact (Kd.R_reads' HO337.out).2.2 | (with_reducible refine Kd.C_alloc ?_ _) | (with_reducible refine Kd.C_drewN ?_ _) | (with_reducible refine Kd.C_drew ?_)))
      (case side4 => exact (Kd.R_reads' HO337.out).2.1)
      (case side5 => repeat (first | exact (Kd.R_reads' HO340.out).2.2 | (with_reducible refine Kd.C_alloc ?_ _) | (with_reducible refine Kd.C_drewN ?_ _) | (with_reducible refine Kd.C_drew ?_)))
      (case side6 => exact (Kd.R_reads' HO340.out).2.1)
      (case side7 => repeat (first | exact (Kd.R_reads' HO343.out).2.2 | (with_reducible refine Kd.C_alloc ?_ _) | (with_reducible refine Kd.C_drewN ?_ _) | (with_reducible refine Kd.C_drew ?_)))
      (case side8 => exact (Kd.R_reads' HO343.out).2.1)
      rintro e w80 ⟨rfl, hb⟩
      refine ⟨_, rfl, ?_⟩
      replace HO334 := zm (Kd.R_below (zr HO334) hb)
      replace HO337 := zm (Kd.R_below (zr HO337) hb)
      replace HO340 := zm (Kd.R_below (zr HO340) hb)
      replace HO343 := zm (Kd.R_below (zr HO343) hb)
      replace BK328 := zm (blk_below (zb BK328) hb)
      replace BK329 := zm (blk_below (zb BK329) hb)
      replace HB := zm (below_step zB hb)
      (try clear hb)
      (try clear hb2)
      (try clear hk)
      (try clear hi)
      refine hK.out _ _ ⟨(blk_cell BK328.out 0).trans rfl, (blk_cell BK328.out 1).trans rfl, (blk_cell BK329.out 0).trans rfl, (blk_cell BK329.out 1).trans rfl⟩ (fun hHeld => ?_)
      clear hK K
      refine zn ?_
      refine zp 5 (some 6) (zl 6 63) ?_
      refine done_ (by kernel_rfl) ?_
      have hcz81_0 : w80.cell? ⟨gb328, 0, none⟩ = some (.slice A0_0 l0_0.length c0_0) := (blk_cell BK328.out 0).trans rfl
      have hcz81_1 : w80.cell? ⟨gb328, 1, none⟩ = some (.slice A0_1 l0_1.length c0_1) := (blk_cell BK328.out 1).trans rfl
      have hfz81_0 := blk_frozen BK328.out 0
      have hfz81_1 := blk_frozen BK328.out 1
      try go_wp2_with (first | ((with_reducible refine gate_callee (f := 37) rfl ?_); refine zg (some 26) #[.agg #[.slice A0_0 l0_0.length c0_0, .slice A0_1 l0_1.length c0_1]] Try.func37 ?_; (with_reducible refine (laws_toState.calls k _ _ l0_0 _ _ l0_1 t345 t348 _ (zk (Kd.C_below HR0_0.out HB.out)) HC0_0.out (zk (Kd.C_below HR0_1.out HB.out)) HC0_1.out A22.out).mono ?_); rintro e w82 ⟨v346, v349, rfl, ho0, ho1, hb⟩; refine ⟨_, rfl, ?_⟩; have HO347 := zm (Kd.R_lower (Kd.R_new' (Kd.R_new' ho0 (Kd.R_lt (zr HO334))) (Kd.R_lt (zr HO340))) (below_size zB)); replace HO334 := zm (Kd.R_elder' (zr HO334) (Kd.R_base ho0) hb); replace HO340 := zm (Kd.R_elder' (zr HO340) (Kd.R_base ho0) hb); have HO350 := zm (Kd.R_lower (Kd.R_new' (Kd.R_new' ho1 (Kd.R_lt (zr HO337))) (Kd.R_lt (zr HO343))) (below_size zB)); replace HO337 := zm (Kd.R_elder' (zr HO337) (Kd.R_base ho1) hb); replace HO343 := zm (Kd.R_elder' (zr HO343) (Kd.R_base ho1) hb); replace BK328 := zm (blk_below (zb BK328) hb); replace BK329 := zm (blk_below (zb BK329) hb); replace HB := zm (below_step zB hb); clear hb ho0 ho1) | ((with_reducible refine gate_dst (N := 7) rfl ?_); refine zbox 7 #[.slice none 0 0, .slice none 0 0] 55 ?_; intro gb351 hg w83 hbox hb; replace HO334 := zm (Kd.R_below (zr HO334) hb); replace HO337 := zm (Kd.R_below (zr HO337) hb); replace HO340 := zm (Kd.R_below (zr HO340) hb); replace HO343 := zm (Kd.R_below (zr HO343) hb); replace HO347 := zm (Kd.R_below (zr HO347) hb); replace HO350 := zm (Kd.R_below (zr HO350) hb); have BK351 := zm (hbox); have GW351 := zge w hg zB; have GE351 := zge w hg zB; replace HB := zm (below_step zB hb); have NB328_351 := zlt hg (zb BK328); have NB351_328 := zgt hg (zb BK328); replace BK328 := zm (blk_below (zb BK328) hb); have NB329_351 := zlt hg (zb BK329); have NB351_329 := zgt hg (zb BK329); replace BK329 := zm (blk_below (zb BK329) hb); clear hb hbox hg; obtain ⟨Ao84, co84, eo84⟩ := Kd.R_slice HO347.out; subst eo84; have hnb85 := NB351_328.out; have hnc85 := NB328_351.out; have hnb86 := NB351_329.out; have hnc86 := NB329_351.out; have hcz87_0 : w83.cell? ⟨gb351, 0, none⟩ = some (.slice none 0 0) := (blk_cell BK351.out 0).trans rfl; have hcz87_1 : w83.cell? ⟨gb351, 1, none⟩ = some (.slice none 0 0) := (blk_cell BK351.out 1).trans rfl; have hfz87_0 := blk_frozen BK351.out 0; have hfz87_1 := blk_frozen BK351.out 1; obtain ⟨Ao88, co88, eo88⟩ := Kd.R_slice HO350.out; subst eo88; have hcz89_0 : w83.cell? ⟨gb329, 0, none⟩ = some (.slice A1_0 l1_0.length c1_0) := (blk_cell BK329.out 0).trans rfl; have hcz89_1 : w83.cell? ⟨gb329, 1, none⟩ = some (.slice A1_1 l1_1.length c1_1) := (blk_cell BK329.out 1).trans rfl; have hfz89_0 := blk_frozen BK329.out 0; have hfz89_1 := blk_frozen BK329.out 1) | ((with_reducible refine gate_callee (f := 37) rfl ?_); refine zg (some 28) #[.agg #[.slice A1_0 l1_0.length c1_0, .slice A1_1 l1_1.length c1_1]] Try.func37 ?_; (with_reducible refine (laws_toState.calls k _ _ l1_0 _ _ l1_1 t352 t355 _ ?side1 HC1_0.out ?side3 HC1_1.out A23.out).mono ?_); (case side1 => exact Kd.C_below HR1_0.out zB); (case side3 => exact Kd.C_below HR1_1.out zB); rintro e w90 ⟨v353, v356, rfl, ho0, ho1, hb⟩; refine ⟨_, rfl, ?_⟩; have HO354 := zm (Kd.R_lower (Kd.R_new' (Kd.R_new' (Kd.R_new' ho0 (Kd.R_lt (zrs <| (Kd.R_mono (zfr (zfr (Kd.R_types HO334.out BK351.out (by decide)))) (fun _ h_ => h_.1))))) (Kd.R_lt (zrs <| (Kd.R_mono (zfr (zfr (Kd.R_types HO340.out BK351.out (by decide)))) (fun _ h_ => h_.1))))) (Kd.R_lt (zrs <| (Kd.R_mono (zfr (zfr (Kd.R_types HO347.out BK351.out (by decide)))) (fun _ h_ => h_.1))))) (below_size zB)); replace HO334 := zm (Kd.R_elder' (zrs <| (Kd.R_mono (zfr (zfr (Kd.R_types HO334.out BK351.out (by decide)))) (fun _ h_ => h_.1))) (Kd.R_base ho0) hb); replace HO340 := zm (Kd.R_elder' (zrs <| (Kd.R_mono (zfr (zfr (Kd.R_types HO340.out BK351.out (by decide)))) (fun _ h_ => h_.1))) (Kd.R_base ho0) hb); replace HO347 := zm (Kd.R_elder' (zrs <| (Kd.R_mono (zfr (zfr (Kd.R_types HO347.out BK351.out (by decide)))) (fun _ h_ => h_.1))) (Kd.R_base ho0) hb); have HO357 := zm (Kd.R_lower (Kd.R_new' (Kd.R_new' (Kd.R_new' ho1 (Kd.R_lt (zrs <| (Kd.R_mono (zfr (zfr (Kd.R_types HO337.out BK351.out (by decide)))) (fun _ h_ => h_.1))))) (Kd.R_lt (zrs <| (Kd.R_mono (zfr (zfr (Kd.R_types HO343.out BK351.out (by decide)))) (fun _ h_ => h_.1))))) (Kd.R_lt (zrs <| (Kd.R_mono (zfr (zfr (Kd.R_types HO350.out BK351.out (by decide)))) (fun _ h_ => h_.1))))) (below_size zB)); replace HO337 := zm (Kd.R_elder' (zrs <| (Kd.R_mono (zfr (zfr (Kd.R_types HO337.out BK351.out (by decide)))) (fun _ h_ => h_.1))) (Kd.R_base ho1) hb); replace HO343 := zm (Kd.R_elder' (zrs <| (Kd.R_mono (zfr (zfr (Kd.R_types HO343.out BK351.out (by decide)))) (fun _ h_ => h_.1))) (Kd.R_base ho1) hb); replace HO350 := zm (Kd.R_elder' (zrs <| (Kd.R_mono (zfr (zfr (Kd.R_types HO350.out BK351.out (by decide)))) (fun _ h_ => h_.1))) (Kd.R_base ho1) hb); replace BK328 := zm (blk_below (g := gb328) (o := .cells #[.slice A0_0 l0_0.length c0_0, .slice A0_1 l0_1.length c0_1] 48 (0, 0)) (zfar (zfar (zb BK328) NB328_351) NB328_351) hb); replace BK329 := zm (blk_below (g := gb329) (o := .cells #[.slice A1_0 l1_0.length c1_0, .slice A1_1 l1_1.length c1_1] 48 (0, 0)) (zfar (zfar (zb BK329) NB329_351) NB329_351) hb); replace BK351 := zm (blk_below (g := gb351) (o := .cells #[.slice Ao84 t345.length co84, .slice Ao88 t348.length co88] 55 (0, 0)) (zput (zput (zb BK351) 0) 1) hb); replace HB := zm (below_step zB hb); clear hb ho0 ho1) | ((with_reducible refine gate_dst (N := 8) rfl ?_); refine zbox 8 #[.slice none 0 0, .slice none 0 0] 55 ?_; intro gb358 hg w91 hbox hb; replace HO334 := zm (Kd.R_below (zr HO334) hb); replace HO337 := zm (Kd.R_below (zr HO337) hb); replace HO340 := zm (Kd.R_below (zr HO340) hb); replace HO343 := zm (Kd.R_below (zr HO343) hb); replace HO347 := zm (Kd.R_below (zr HO347) hb); replace HO350 := zm (Kd.R_below (zr HO350) hb); replace HO354 := zm (Kd.R_below (zr HO354) hb); replace HO357 := zm (Kd.R_below (zr HO357) hb); have BK358 := zm (hbox); have GW358 := zge w hg zB; have GE358 := zge w hg zB; replace HB := zm (below_step zB hb); have NB328_358 := zlt hg (zb BK328); have NB358_328 := zgt hg (zb BK328); replace BK328 := zm (blk_below (zb BK328) hb); have NB329_358 := zlt hg (zb BK329); have NB358_329 := zgt hg (zb BK329); replace BK329 := zm (blk_below (zb BK329) hb); have NB351_358 := zlt hg (zb BK351); have NB358_351 := zgt hg (zb BK351); replace BK351 := zm (blk_below (zb BK351) hb); clear hb hbox hg; obtain ⟨Ao92, co92, eo92⟩ := Kd.R_slice HO354.out; subst eo92; have hnb93 := NB358_328.out; have hnc93 := NB328_358.out; have hnb94 := NB358_329.out; have hnc94 := NB329_358.out; have hnb95 := NB358_351.out; have hnc95 := NB351_358.out; have hcz96_0 : w91.cell? ⟨gb358, 0, none⟩ = some (.slice none 0 0) := (blk_cell BK358.out 0).trans rfl; have hcz96_1 : w91.cell? ⟨gb358, 1, none⟩ = some (.slice none 0 0) := (blk_cell BK358.out 1).trans rfl; have hfz96_0 := blk_frozen BK358.out 0; have hfz96_1 := blk_frozen BK358.out 1; obtain ⟨Ao97, co97, eo97⟩ := Kd.R_slice HO357.out; subst eo97; have hcz98_0 : w91.cell? ⟨gb351, 0, none⟩ = some (.slice Ao84 t345.length co84) := (blk_cell BK351.out 0).trans rfl; have hcz98_1 : w91.cell? ⟨gb351, 1, none⟩ = some (.slice Ao88 t348.length co88) := (blk_cell BK351.out 1).trans rfl; have hfz98_0 := blk_frozen BK351.out 0; have hfz98_1 := blk_frozen BK351.out 1) | ((with_reducible refine gate_callee (f := 43) rfl ?_); refine zg (some 31) #[.agg #[.slice Ao84 t345.length co84, .slice Ao88 t348.length co88], .agg #[.slice Ao92 t352.length co92, .slice Ao97 t355.length co97]] Try.func43 ?_; (with_reducible refine (impl_StateSame.calls k _ _ t345 _ _ t348 _ _ t352 _ _ t355 t359 _ ?side1 ?side2 ?side3 ?side4 ?side5 ?side6 ?side7 ?side8 A24.out).mono ?_); (case side1 => refine (Kd.R_reads' (e := 84) (base := w.heap.size) (ok := fun k_ => (((True ∧ some k_ ≠ (.slice Ao76 t332.length co76 : Value).ownBlock) ∧ some k_ ≠ (.slice Ao78 t338.length co78 : Value).ownBlock) ∧ some k_ ≠ (.slice Ao92 t352.length co92 : Value).ownBlock)) (n := t345.length) (c := co84) ?_).2.2; exact (zrs <| (Kd.R_mono (zfr (zfr (Kd.R_types HO347.out BK358.out (by decide)))) (fun _ h_ => h_.1)))); (case side2 => exact (Kd.R_reads' HO347.out).2.1); (case side3 => refine (Kd.R_reads' (e := 89) (base := w.heap.size) (ok := fun k_ => (((True ∧ some k_ ≠ (.slice Ao77 t335.length co77 : Value).ownBlock) ∧ some k_ ≠ (.slice Ao79 t341.length co79 : Value).ownBlock) ∧ some k_ ≠ (.slice Ao97 t355.length co97 : Value).ownBlock)) (n := t348.length) (c := co88) ?_).2.2; exact (zrs <| (Kd.R_mono (zfr (zfr (Kd.R_types HO350.out BK358.out (by decide)))) (fun _ h_ => h_.1)))); (case side4 => exact (Kd.R_reads' HO350.out).2.1); (case side5 => refine (Kd.R_reads' (e := 84) (base := w.heap.size) (ok := fun k_ => (((True ∧ some k_ ≠ (.slice Ao76 t332.length co76 : Value).ownBlock) ∧ some k_ ≠ (.slice Ao78 t338.length co78 : Value).ownBlock) ∧ some k_ ≠ (.slice Ao84 t345.length co84 : Value).ownBlock)) (n := t352.length) (c := co92) ?_).2.2; exact (zrs <| (Kd.R_mono (zfr (zfr (Kd.R_types HO354.out BK358.out (by decide)))) (fun _ h_ => h_.1)))); (case side6 => exact (Kd.R_reads' HO354.out).2.1); (case side7 => refine (Kd.R_reads' (e := 89) (base := w.heap.size) (ok := fun k_ => (((True ∧ some k_ ≠ (.slice Ao77 t335.length co77 : Value).ownBlock) ∧ some k_ ≠ (.slice Ao79 t341.length co79 : Value).ownBlock) ∧ some k_ ≠ (.slice Ao88 t348.length co88 : Value).ownBlock)) (n := t355.length) (c := co97) ?_).2.2; exact (zrs <| (Kd.R_mono (zfr (zfr (Kd.R_types HO357.out BK358.out (by decide)))) (fun _ h_ => h_.1)))); (case side8 => exact (Kd.R_reads' HO357.out).2.1); rintro e w99 ⟨rfl, hb⟩; refine ⟨_, rfl, ?_⟩; replace HO334 := zm (Kd.R_below (zrs <| (Kd.R_mono (zfr (zfr (Kd.R_types HO334.out BK358.out (by decide)))) (fun _ h_ => h_.1))) hb); replace HO337 := zm (Kd.R_below (zrs <| (Kd.R_mono (zfr (zfr (Kd.R_types HO337.out BK358.out (by decide)))) (fun _ h_ => h_.1))) hb); replace HO340 := zm (Kd.R_below (zrs <| (Kd.R_mono (zfr (zfr (Kd.R_types HO340.out BK358.out (by decide)))) (fun _ h_ => h_.1))) hb); replace HO343 := zm (Kd.R_below (zrs <| (Kd.R_mono (zfr (zfr (Kd.R_types HO343.out BK358.out (by decide)))) (fun _ h_ => h_.1))) hb); replace HO347 := zm (Kd.R_below (zrs <| (Kd.R_mono (zfr (zfr (Kd.R_types HO347.out BK358.out (by decide)))) (fun _ h_ => h_.1))) hb); replace HO350 := zm (Kd.R_below (zrs <| (Kd.R_mono (zfr (zfr (Kd.R_types HO350.out BK358.out (by decide)))) (fun _ h_ => h_.1))) hb); replace HO354 := zm (Kd.R_below (zrs <| (Kd.R_mono (zfr (zfr (Kd.R_types HO354.out BK358.out (by decide)))) (fun _ h_ => h_.1))) hb); replace HO357 := zm (Kd.R_below (zrs <| (Kd.R_mono (zfr (zfr (Kd.R_types HO357.out BK358.out (by decide)))) (fun _ h_ => h_.1))) hb); replace BK328 := zm (blk_below (g := gb328) (o := .cells #[.slice A0_0 l0_0.length c0_0, .slice A0_1 l0_1.length c0_1] 48 (0, 0)) (zfar (zfar (zb BK328) NB328_358) NB328_358) hb); replace BK329 := zm (blk_below (g := gb329) (o := .cells #[.slice A1_0 l1_0.length c1_0, .slice A1_1 l1_1.length c1_1] 48 (0, 0)) (zfar (zfar (zb BK329) NB329_358) NB329_358) hb); replace BK351 := zm (blk_below (g := gb351) (o := .cells #[.slice Ao84 t345.length co84, .slice Ao88 t348.length co88] 55 (0, 0)) (zfar (zfar (zb BK351) NB351_358) NB351_358) hb); replace BK358 := zm (blk_below (g := gb358) (o := .cells #[.slice Ao92 t352.length co92, .slice Ao97 t355.length co97] 55 (0, 0)) (zput (zput (zb BK358) 0) 1) hb); replace HB := zm (below_step zB hb); clear hb))
      replace HO334 := zm (Kd.R_drew HO334.out)
      replace HO337 := zm (Kd.R_drew HO337.out)
      replace HO340 := zm (Kd.R_drew HO340.out)
      replace HO343 := zm (Kd.R_drew HO343.out)
      replace HO347 := zm (Kd.R_drew HO347.out)
      replace HO350 := zm (Kd.R_drew HO350.out)
      replace HO354 := zm (Kd.R_drew HO354.out)
      replace HO357 := zm (Kd.R_drew HO357.out)
      replace BK328 := zm (blk_drew BK328.out)
      replace BK329 := zm (blk_drew BK329.out)
      replace BK351 := zm (blk_drew BK351.out)
      replace BK358 := zm (blk_drew BK358.out)
      replace HB := zm (below_drew1 HB.out)
      refine start_ (n := 5) (S := fun w' => w'.cell? ⟨gb351, 0, none⟩ = some (.slice Ao84 t345.length co84) ∧ w'.cell? ⟨gb351, 1, none⟩ = some (.slice Ao88 t348.length co88) ∧ w'.cell? ⟨gb328, 0, none⟩ = some (.slice A0_0 l0_0.length c0_0) ∧ w'.cell? ⟨gb328, 1, none⟩ = some (.slice A0_1 l0_1.length c0_1)) (ds := []) (zl 5 0) (by kernel_rfl) rfl rfl ⟨(blk_cell BK351.out 0).trans rfl, (blk_cell BK351.out 1).trans rfl, (blk_cell BK328.out 0).trans rfl, (blk_cell BK328.out 1).trans rfl⟩ (fun hHeld => ?_)
      generalize w99.drew = w100 at HO334 HO337 HO340 HO343 HO347 HO350 HO354 HO357 BK328 BK329 BK351 BK358 HB hHeld ⊢
      refine zt 0 (some 35) (zl 5 1) ?_
      refine zt 1 (some 36) (zl 5 3) ?_
      refine zo 2 (some 37) (zl 5 7) (fun K hK => ?_)
      refine zgo #[.agg #[.slice A0_0 l0_0.length c0_0, .slice A0_1 l0_1.length c0_1]] Try.func37 ?_
      with_reducible refine (laws_toState.calls k _ _ l0_0 _ _ l0_1 t360 t363 _ (zk (Kd.C_below HR0_0.out HB.out)) HC0_0.out (zk (Kd.C_below HR0_1.out HB.out)) HC0_1.out A60.out).mono ?_
      rintro e w101 ⟨v361, v364, rfl, ho0, ho1, hb⟩
      refine ⟨_, rfl, ?_⟩
      have HO362 := zm (Kd.R_lower (Kd.R_new' (Kd.R_new' (Kd.R_new' (Kd.R_new' ho0 (Kd.R_lt (zr HO334))) (Kd.R_lt (zr HO340))) (Kd.R_lt (zr HO347))) (Kd.R_lt (zr HO354))) (below_size zB))
      replace HO334 := zm (Kd.R_elder' (zr HO334) (Kd.R_base ho0) hb)
      replace HO340 := zm (Kd.R_elder' (zr HO340) (Kd.R_base ho0) hb)
      replace HO347 := zm (Kd.R_elder' (zr HO347) (Kd.R_base ho0) hb)
      replace HO354 := zm (Kd.R_elder' (zr HO354) (Kd.R_base ho0) hb)
      have HO365 := zm (Kd.R_lower (Kd.R_new' (Kd.R_new' (Kd.R_new' (Kd.R_new' ho1 (Kd.R_lt (zr HO337))) (Kd.R_lt (zr HO343))) (Kd.R_lt (zr HO350))) (Kd.R_lt (zr HO357))) (below_size zB))
      replace HO337 := zm (Kd.R_elder' (zr HO337) (Kd.R_base ho1) hb)
      replace HO343 := zm (Kd.R_elder' (zr HO343) (Kd.R_base ho1) hb)
      replace HO350 := zm (Kd.R_elder' (zr HO350) (Kd.R_base ho1) hb)
      replace HO357 := zm (Kd.R_elder' (zr HO357) (Kd.R_base ho1) hb)
      replace BK328 := zm (blk_below (zb BK328) hb)
      replace BK329 := zm (blk_below (zb BK329) hb)
      replace BK351 := zm (blk_below (zb BK351) hb)
      replace BK358 := zm (blk_below (zb BK358) hb)
      replace HB := zm (below_step zB hb)
      (try clear hb)
      (try clear hb2)
      (try clear hk)
      (try clear hi)
      (try clear ho0)
      (try clear ho1)
      obtain ⟨Ao102, co102, eo102⟩ := Kd.R_slice HO362.out
      (first | subst eo102 | (injection eo102 with f1_ f2_ f3_; have f4_ := f1_.symm; have f5_ := f3_.symm; clear f1_ f2_ f3_; subst f4_; subst f5_))
      obtain ⟨Ao103, co103, eo103⟩ := Kd.R_slice HO365.out
      (first | subst eo103 | (injection eo103 with f1_ f2_ f3_; have f4_ := f1_.symm; have f5_ := f3_.symm; clear f1_ f2_ f3_; subst f4_; subst f5_))
      refine hK.out _ _ ⟨(blk_cell BK351.out 0).trans rfl, (blk_cell BK351.out 1).trans rfl, (blk_cell BK328.out 0).trans rfl, (blk_cell BK328.out 1).trans rfl⟩ (fun hHeld => ?_)
      clear hK K
      refine zn ?_
      refine zo 3 (some 38) (zl 5 15) (fun K hK => ?_)
      refine zgo #[.agg #[.slice Ao84 t345.length co84, .slice Ao88 t348.length co88], .agg #[.slice Ao102 t360.length co102, .slice Ao103 t363.length co103]] Try.func39 ?_
      with_reducible refine (laws_eqState.calls k _ _ t345 _ _ t348 _ _ t360 _ _ t363 true _ ?side1 ?side2 ?side3 ?side4 ?side5 ?side6 ?side7 ?side8 A61.out).mono ?_
      (case side1 => repeat (first | exact (Kd.R_reads' HO347.out).2.2 | (with_reducible refine Kd.C_alloc ?_ _) | (with_reducible refine Kd.C_drewN ?_ _) | (with_reducible refine Kd.C_drew ?_)))
      (case side2 => exact (Kd.R_reads' HO347.out).2.1)
      (case side3 => repeat (first | exact (Kd.R_reads' HO350.out).2.2 | (with_reducible refine Kd.C_alloc ?_ _) | (with_reducible refine Kd.C_drewN ?_ _) | (with_reducible refine Kd.C_drew ?_)))
      (case side4 => exact (Kd.R_reads' HO350.out).2.1)
      (case side5 => repeat (first | exact (Kd.R_reads' HO362.out).2.2 | (with_reducible refine Kd.C_alloc ?_ _) | (with_reducible refine Kd.C_drewN ?_ _) | (with_reducible refine Kd.C_drew ?_)))
      (case side6 => exact (Kd.R_reads' HO362.out).2.1)
      (case side7 => repeat (first | exact (Kd.R_reads' HO365.out).2.2 | (with_reducible refine Kd.C_alloc ?_ _) | (with_reducible refine Kd.C_drewN ?_ _) | (with_reducible refine Kd.C_drew ?_)))
      (case side8 => exact (Kd.R_reads' HO365.out).2.1)
      rintro e w104 ⟨rfl, hb⟩
      refine ⟨_, rfl, ?_⟩
      replace HO334 := zm (Kd.R_below (zr HO334) hb)
      replace HO337 := zm (Kd.R_below (zr HO337) hb)
      replace HO340 := zm (Kd.R_below (zr HO340) hb)
      replace HO343 := zm (Kd.R_below (zr HO343) hb)
      replace HO347 := zm (Kd.R_below (zr HO347) hb)
      replace HO350 := zm (Kd.R_below (zr HO350) hb)
      replace HO354 := zm (Kd.R_below (zr HO354) hb)
      replace HO357 := zm (Kd.R_below (zr HO357) hb)
      replace HO362 := zm (Kd.R_below (zr HO362) hb)
      replace HO365 := zm (Kd.R_below (zr HO365) hb)
      replace BK328 := zm (blk_below (zb BK328) hb)
      replace BK329 := zm (blk_below (zb BK329) hb)
      replace BK351 := zm (blk_below (zb BK351) hb)
      replace BK358 := zm (blk_below (zb BK358) hb)
      replace HB := zm (below_step zB hb)
      (try clear hb)
      (try clear hb2)
      (try clear hk)
      (try clear hi)
      refine hK.out _ _ ⟨(blk_cell BK351.out 0).trans rfl, (blk_cell BK351.out 1).trans rfl, (blk_cell BK328.out 0).trans rfl, (blk_cell BK328.out 1).trans rfl⟩ (fun hHeld => ?_)
      clear hK K
      refine zn ?_
      refine zp 4 (some 39) (zl 5 31) ?_
      refine done_ (by kernel_rfl) ?_
      try go_wp2
      replace HO334 := zm (Kd.R_drew HO334.out)
      replace HO337 := zm (Kd.R_drew HO337.out)
      replace HO340 := zm (Kd.R_drew HO340.out)
      replace HO343 := zm (Kd.R_drew HO343.out)
      replace HO347 := zm (Kd.R_drew HO347.out)
      replace HO350 := zm (Kd.R_drew HO350.out)
      replace HO354 := zm (Kd.R_drew HO354.out)
      replace HO357 := zm (Kd.R_drew HO357.out)
      replace HO362 := zm (Kd.R_drew HO362.out)
      replace HO365 := zm (Kd.R_drew HO365.out)
      replace BK328 := zm (blk_drew BK328.out)
      replace BK329 := zm (blk_drew BK329.out)
      replace BK351 := zm (blk_drew BK351.out)
      replace BK358 := zm (blk_drew BK358.out)
      replace HB := zm (below_drew1 HB.out)
      refine start_ (n := 5) (S := fun w' => w'.cell? ⟨gb358, 0, none⟩ = some (.slice Ao92 t352.length co92) ∧ w'.cell? ⟨gb358, 1, none⟩ = some (.slice Ao97 t355.length co97) ∧ w'.cell? ⟨gb329, 0, none⟩ = some (.slice A1_0 l1_0.length c1_0) ∧ w'.cell? ⟨gb329, 1, none⟩ = some (.slice A1_1 l1_1.length c1_1)) (ds := []) (zl 5 0) (by kernel_rfl) rfl rfl ⟨(blk_cell BK358.out 0).trans rfl, (blk_cell BK358.out 1).trans rfl, (blk_cell BK329.out 0).trans rfl, (blk_cell BK329.out 1).trans rfl⟩ (fun hHeld => ?_)
      generalize w104.drew = w105 at HO334 HO337 HO340 HO343 HO347 HO350 HO354 HO357 HO362 HO365 BK328 BK329 BK351 BK358 HB hHeld ⊢
      refine zt 0 (some 40) (zl 5 1) ?_
      refine zt 1 (some 41) (zl 5 3) ?_
      refine zo 2 (some 42) (zl 5 7) (fun K hK => ?_)
      refine zgo #[.agg #[.slice A1_0 l1_0.length c1_0, .slice A1_1 l1_1.length c1_1]] Try.func37 ?_
      with_reducible refine (laws_toState.calls k _ _ l1_0 _ _ l1_1 t367 t370 _ (zk (Kd.C_below HR1_0.out HB.out)) HC1_0.out (zk (Kd.C_below HR1_1.out HB.out)) HC1_1.out A63.out).mono ?_
      rintro e w106 ⟨v368, v371, rfl, ho0, ho1, hb⟩
      refine ⟨_, rfl, ?_⟩
      have HO369 := zm (Kd.R_lower (Kd.R_new' (Kd.R_new' (Kd.R_new' (Kd.R_new' (Kd.R_new' ho0 (Kd.R_lt (zr HO334))) (Kd.R_lt (zr HO340))) (Kd.R_lt (zr HO347))) (Kd.R_lt (zr HO354))) (Kd.R_lt (zr HO362))) (below_size zB))
      replace HO334 := zm (Kd.R_elder' (zr HO334) (Kd.R_base ho0) hb)
      replace HO340 := zm (Kd.R_elder' (zr HO340) (Kd.R_base ho0) hb)
      replace HO347 := zm (Kd.R_elder' (zr HO347) (Kd.R_base ho0) hb)
      replace HO354 := zm (Kd.R_elder' (zr HO354) (Kd.R_base ho0) hb)
      replace HO362 := zm (Kd.R_elder' (zr HO362) (Kd.R_base ho0) hb)
      have HO372 := zm (Kd.R_lower (Kd.R_new' (Kd.R_new' (Kd.R_new' (Kd.R_new' (Kd.R_new' ho1 (Kd.R_lt (zr HO337))) (Kd.R_lt (zr HO343))) (Kd.R_lt (zr HO350))) (Kd.R_lt (zr HO357))) (Kd.R_lt (zr HO365))) (below_size zB))
      replace HO337 := zm (Kd.R_elder' (zr HO337) (Kd.R_base ho1) hb)
      replace HO343 := zm (Kd.R_elder' (zr HO343) (Kd.R_base ho1) hb)
      replace HO350 := zm (Kd.R_elder' (zr HO350) (Kd.R_base ho1) hb)
      replace HO357 := zm (Kd.R_elder' (zr HO357) (Kd.R_base ho1) hb)
      replace HO365 := zm (Kd.R_elder' (zr HO365) (Kd.R_base ho1) hb)
      replace BK328 := zm (blk_below (zb BK328) hb)
      replace BK329 := zm (blk_below (zb BK329) hb)
      replace BK351 := zm (blk_below (zb BK351) hb)
      replace BK358 := zm (blk_below (zb BK358) hb)
      replace HB := zm (below_step zB hb)
      (try clear hb)
      (try clear hb2)
      (try clear hk)
      (try clear hi)
      (try clear ho0)
      (try clear ho1)
      obtain ⟨Ao107, co107, eo107⟩ := Kd.R_slice HO369.out
      (first | subst eo107 | (injection eo107 with f1_ f2_ f3_; have f4_ := f1_.symm; have f5_ := f3_.symm; clear f1_ f2_ f3_; subst f4_; subst f5_))
      obtain ⟨Ao108, co108, eo108⟩ := Kd.R_slice HO372.out
      (first | subst eo108 | (injection eo108 with f1_ f2_ f3_; have f4_ := f1_.symm; have f5_ := f3_.symm; clear f1_ f2_ f3_; subst f4_; subst f5_))
      refine hK.out _ _ ⟨(blk_cell BK358.out 0).trans rfl, (blk_cell BK358.out 1).trans rfl, (blk_cell BK329.out 0).trans rfl, (blk_cell BK329.out 1).trans rfl⟩ (fun hHeld => ?_)
      clear hK K
      refine zn ?_
      refine zo 3 (some 43) (zl 5 15) (fun K hK => ?_)
      refine zgo #[.agg #[.slice Ao92 t352.length co92, .slice Ao97 t355.length co97], .agg #[.slice Ao107 t367.length co107, .slice Ao108 t370.length co108]] Try.func39 ?_
      with_reducible refine (laws_eqState.calls k _ _ t352 _ _ t355 _ _ t367 _ _ t370 true _ ?side1 ?side2 ?side3 ?side4 ?side5 ?side6 ?side7 ?side8 A64.out).mono ?_
      (case side1 => repeat (first | exact (Kd.R_reads' HO354.out).2.2 | (with_reducible refine Kd.C_alloc ?_ _) | (with_reducible refine Kd.C_drewN ?_ _) | (with_reducible refine Kd.C_drew ?_)))
      (case side2 => exact (Kd.R_reads' HO354.out).2.1)
      (case side3 => repeat (first | exact (Kd.R_reads' HO357.out).2.2 | (with_reducible refine Kd.C_alloc ?_ _) | (with_reducible refine Kd.C_drewN ?_ _) | (with_reducible refine Kd.C_drew ?_)))
      (case side4 => exact (Kd.R_reads' HO357.out).2.1)
      (case side5 => repeat (first | exact (Kd.R_reads' HO369.out).2.2 | (with_reducible refine Kd.C_alloc ?_ _) | (with_reducible refine Kd.C_drewN ?_ _) | (with_reducible refine Kd.C_drew ?_)))
      (case side6 => exact (Kd.R_reads' HO369.out).2.1)
      (case side7 => repeat (first | exact (Kd.R_reads' HO372.out).2.2 | (with_reducible refine Kd.C_alloc ?_ _) | (with_reducible refine Kd.C_drewN ?_ _) | (with_reducible refine Kd.C_drew ?_)))
      (case side8 => exact (Kd.R_reads' HO372.out).2.1)
      rintro e w109 ⟨rfl, hb⟩
      refine ⟨_, rfl, ?_⟩
      replace HO334 := zm (Kd.R_below (zr HO334) hb)
      replace HO337 := zm (Kd.R_below (zr HO337) hb)
      replace HO340 := zm (Kd.R_below (zr HO340) hb)
      replace HO343 := zm (Kd.R_below (zr HO343) hb)
      replace HO347 := zm (Kd.R_below (zr HO347) hb)
      replace HO350 := zm (Kd.R_below (zr HO350) hb)
      replace HO354 := zm (Kd.R_below (zr HO354) hb)
      replace HO357 := zm (Kd.R_below (zr HO357) hb)
      replace HO362 := zm (Kd.R_below (zr HO362) hb)
      replace HO365 := zm (Kd.R_below (zr HO365) hb)
      replace HO369 := zm (Kd.R_below (zr HO369) hb)
      replace HO372 := zm (Kd.R_below (zr HO372) hb)
      replace BK328 := zm (blk_below (zb BK328) hb)
      replace BK329 := zm (blk_below (zb BK329) hb)
      replace BK351 := zm (blk_below (zb BK351) hb)
      replace BK358 := zm (blk_below (zb BK358) hb)
      replace HB := zm (below_step zB hb)
      (try clear hb)
      (try clear hb2)
      (try clear hk)
      (try clear hi)
      refine hK.out _ _ ⟨(blk_cell BK358.out 0).trans rfl, (blk_cell BK358.out 1).trans rfl, (blk_cell BK329.out 0).trans rfl, (blk_cell BK329.out 1).trans rfl⟩ (fun hHeld => ?_)
      clear hK K
      refine zn ?_
      refine zp 4 (some 44) (zl 5 31) ?_
      refine done_ (by kernel_rfl) ?_
      try go_wp2
      go_ret
      exact ⟨zE, zB⟩
     ·replace c65 := Bool.eq_false_iff.mpr c65
      subst c65
      have H1 : (some false) = some r := by rw [if_neg (show ¬ (false = true) by decide)] at H; exact H
      clear H
      have H := H1
      clear H1
      obtain rfl := Option.some.inj H
      go_enter Try.func8, Try.ntmps8
      try go_wp2_with (first | ((with_reducible refine gate_dst (N := 2) rfl ?_); refine zbox 2 #[.slice A0_0 l0_0.length c0_0, .slice A0_1 l0_1.length c0_1] 48 ?_; intro gb328 hg w110 hbox hb; have BK328 := zm (hbox); have GW328 := zge w hg zB; have GE328 := zge w hg zB; replace HB := zm (below_step zB hb); clear hb hbox hg) | ((with_reducible refine gate_dst (N := 3) rfl ?_); refine zbox 3 #[.slice A1_0 l1_0.length c1_0, .slice A1_1 l1_1.length c1_1] 48 ?_; intro gb329 hg w111 hbox hb; have BK329 := zm (hbox); have GW329 := zge w hg zB; have GE329 := zge w hg zB; replace HB := zm (below_step zB hb); have NB328_329 := zlt hg (zb BK328); have NB329_328 := zgt hg (zb BK328); replace BK328 := zm (blk_below (zb BK328) hb); clear hb hbox hg; have hnb112 := NB328_329.out; have hnc112 := NB329_328.out; have hcz113_0 : w111.cell? ⟨gb328, 0, none⟩ = some (.slice A0_0 l0_0.length c0_0) := (blk_cell BK328.out 0).trans rfl; have hcz113_1 : w111.cell? ⟨gb328, 1, none⟩ = some (.slice A0_1 l0_1.length c0_1) := (blk_cell BK328.out 1).trans rfl; have hfz113_0 := blk_frozen BK328.out 0; have hfz113_1 := blk_frozen BK328.out 1) | ((with_reducible refine gate_callee (f := 35) rfl ?_); refine zg (some 12) #[.agg #[.slice A0_0 l0_0.length c0_0, .slice A0_1 l0_1.length c0_1], .int .i64 1048576] Try.func35 ?_; (with_reducible refine (laws_szState.calls k _ _ l0_0 _ _ l0_1 1048576 t330 _ (zk (Kd.C_below HR0_0.out HB.out)) HC0_0.out (zk (Kd.C_below HR0_1.out HB.out)) HC0_1.out A3.out).mono ?_); rintro e w114 ⟨rfl, hb⟩; refine ⟨_, rfl, ?_⟩; replace BK328 := zm (blk_below (zb BK328) hb); replace BK329 := zm (blk_below (zb BK329) hb); replace HB := zm (below_step zB hb); clear hb; have hcz115_0 : w114.cell? ⟨gb329, 0, none⟩ = some (.slice A1_0 l1_0.length c1_0) := (blk_cell BK329.out 0).trans rfl; have hcz115_1 : w114.cell? ⟨gb329, 1, none⟩ = some (.slice A1_1 l1_1.length c1_1) := (blk_cell BK329.out 1).trans rfl; have hfz115_0 := blk_frozen BK329.out 0; have hfz115_1 := blk_frozen BK329.out 1) | ((with_reducible refine gate_callee (f := 35) rfl ?_); refine zg (some 17) #[.agg #[.slice A1_0 l1_0.length c1_0, .slice A1_1 l1_1.length c1_1], .int .i64 t330] Try.func35 ?_; (with_reducible refine (laws_szState.calls k _ _ l1_0 _ _ l1_1 t330 t331 _ (zk (Kd.C_below HR1_0.out HB.out)) HC1_0.out (zk (Kd.C_below HR1_1.out HB.out)) HC1_1.out A10.out).mono ?_); rintro e w116 ⟨rfl, hb⟩; refine ⟨_, rfl, ?_⟩; replace BK328 := zm (blk_below (zb BK328) hb); replace BK329 := zm (blk_below (zb BK329) hb); replace HB := zm (below_step zB hb); clear hb))
      replace BK328 := zm (blk_drew BK328.out)
      replace BK329 := zm (blk_drew BK329.out)
      replace HB := zm (below_drew1 HB.out)
      refine start_ (n := 6) (S := fun w' => w'.cell? ⟨gb328, 0, none⟩ = some (.slice A0_0 l0_0.length c0_0) ∧ w'.cell? ⟨gb328, 1, none⟩ = some (.slice A0_1 l0_1.length c0_1) ∧ w'.cell? ⟨gb329, 0, none⟩ = some (.slice A1_0 l1_0.length c1_0) ∧ w'.cell? ⟨gb329, 1, none⟩ = some (.slice A1_1 l1_1.length c1_1)) (ds := []) (zl 6 0) (by kernel_rfl) rfl rfl ⟨(blk_cell BK328.out 0).trans rfl, (blk_cell BK328.out 1).trans rfl, (blk_cell BK329.out 0).trans rfl, (blk_cell BK329.out 1).trans rfl⟩ (fun hHeld => ?_)
      generalize w116.drew = w117 at BK328 BK329 HB hHeld ⊢
      refine zt 0 (some 20) (zl 6 1) ?_
      refine zt 2 (some 22) (zl 6 5) ?_
      refine zo 1 (some 21) (zl 6 7) (fun K hK => ?_)
      refine zgo #[.agg #[.slice A0_0 l0_0.length c0_0, .slice A0_1 l0_1.length c0_1]] Try.func37 ?_
      with_reducible refine (laws_toState.calls k _ _ l0_0 _ _ l0_1 t332 t335 _ (zk (Kd.C_below HR0_0.out HB.out)) HC0_0.out (zk (Kd.C_below HR0_1.out HB.out)) HC0_1.out A19.out).mono ?_
      rintro e w118 ⟨v333, v336, rfl, ho0, ho1, hb⟩
      refine ⟨_, rfl, ?_⟩
      have HO334 := zm (Kd.R_lower ho0 (below_size zB))
      have HO337 := zm (Kd.R_lower ho1 (below_size zB))
      replace BK328 := zm (blk_below (zb BK328) hb)
      replace BK329 := zm (blk_below (zb BK329) hb)
      replace HB := zm (below_step zB hb)
      (try clear hb)
      (try clear hb2)
      (try clear hk)
      (try clear hi)
      (try clear ho0)
      (try clear ho1)
      refine hK.out _ _ ⟨(blk_cell BK328.out 0).trans rfl, (blk_cell BK328.out 1).trans rfl, (blk_cell BK329.out 0).trans rfl, (blk_cell BK329.out 1).trans rfl⟩ (fun hHeld => ?_)
      clear hK K
      refine zn ?_
      refine zo 3 (some 23) (zl 6 15) (fun K hK => ?_)
      refine zgo #[.agg #[.slice A1_0 l1_0.length c1_0, .slice A1_1 l1_1.length c1_1]] Try.func37 ?_
      with_reducible refine (laws_toState.calls k _ _ l1_0 _ _ l1_1 t338 t341 _ (zk (Kd.C_below HR1_0.out HB.out)) HC1_0.out (zk (Kd.C_below HR1_1.out HB.out)) HC1_1.out A20.out).mono ?_
      rintro e w119 ⟨v339, v342, rfl, ho0, ho1, hb⟩
      refine ⟨_, rfl, ?_⟩
      have HO340 := zm (Kd.R_lower (Kd.R_new' ho0 (Kd.R_lt (zr HO334))) (below_size zB))
      replace HO334 := zm (Kd.R_elder' (zr HO334) (Kd.R_base ho0) hb)
      have HO343 := zm (Kd.R_lower (Kd.R_new' ho1 (Kd.R_lt (zr HO337))) (below_size zB))
      replace HO337 := zm (Kd.R_elder' (zr HO337) (Kd.R_base ho1) hb)
      replace BK328 := zm (blk_below (zb BK328) hb)
      replace BK329 := zm (blk_below (zb BK329) hb)
      replace HB := zm (below_step zB hb)
      (try clear hb)
      (try clear hb2)
      (try clear hk)
      (try clear hi)
      (try clear ho0)
      (try clear ho1)
      obtain ⟨Ao120, co120, eo120⟩ := Kd.R_slice HO334.out
      (first | subst eo120 | (injection eo120 with f1_ f2_ f3_; have f4_ := f1_.symm; have f5_ := f3_.symm; clear f1_ f2_ f3_; subst f4_; subst f5_))
      obtain ⟨Ao121, co121, eo121⟩ := Kd.R_slice HO337.out
      (first | subst eo121 | (injection eo121 with f1_ f2_ f3_; have f4_ := f1_.symm; have f5_ := f3_.symm; clear f1_ f2_ f3_; subst f4_; subst f5_))
      obtain ⟨Ao122, co122, eo122⟩ := Kd.R_slice HO340.out
      (first | subst eo122 | (injection eo122 with f1_ f2_ f3_; have f4_ := f1_.symm; have f5_ := f3_.symm; clear f1_ f2_ f3_; subst f4_; subst f5_))
      obtain ⟨Ao123, co123, eo123⟩ := Kd.R_slice HO343.out
      (first | subst eo123 | (injection eo123 with f1_ f2_ f3_; have f4_ := f1_.symm; have f5_ := f3_.symm; clear f1_ f2_ f3_; subst f4_; subst f5_))
      refine hK.out _ _ ⟨(blk_cell BK328.out 0).trans rfl, (blk_cell BK328.out 1).trans rfl, (blk_cell BK329.out 0).trans rfl, (blk_cell BK329.out 1).trans rfl⟩ (fun hHeld => ?_)
      clear hK K
      refine zn ?_
      refine zo 4 (some 24) (zl 6 31) (fun K hK => ?_)
      refine zgo #[.agg #[.slice Ao120 t332.length co120, .slice Ao121 t335.length co121], .agg #[.slice Ao122 t338.length co122, .slice Ao123 t341.length co123]] Try.func42 ?_
      with_reducible refine (spec_StateSame.calls k _ _ t332 _ _ t335 _ _ t338 _ _ t341 t344 _ ?side1 ?side2 ?side3 ?side4 ?side5 ?side6 ?side7 ?side8 A21.out).mono ?_
      (case side1 => repeat (first | exact (Kd.R_reads' HO334.out).2.2 | (with_reducible refine Kd.C_alloc ?_ _) | (with_reducible refine Kd.C_drewN ?_ _) | (with_reducible refine Kd.C_drew ?_)))
      (case side2 => exact (Kd.R_reads' HO334.out).2.1)
      (case side3 => repeat (first | exact (Kd.R_reads' HO337.out).2.2 | (with_reducible refine Kd.C_alloc ?_ _) | (with_reducible refine Kd.C_drewN ?_ _) | (with_reducible refine Kd.C_drew ?_)))
      (case side4 => exact (Kd.R_reads' HO337.out).2.1)
      (case side5 => repeat (first | exact (Kd.R_reads' HO340.out).2.2 | (with_reducible refine Kd.C_alloc ?_ _) | (with_reducible refine Kd.C_drewN ?_ _) | (with_reducible refine Kd.C_drew ?_)))
      (case side6 => exact (Kd.R_reads' HO340.out).2.1)
      (case side7 => repeat (first | exact (Kd.R_reads' HO343.out).2.2 | (with_reducible refine Kd.C_alloc ?_ _) | (with_reducible refine Kd.C_drewN ?_ _) | (with_reducible refine Kd.C_drew ?_)))
      (case side8 => exact (Kd.R_reads' HO343.out).2.1)
      rintro e w124 ⟨rfl, hb⟩
      refine ⟨_, rfl, ?_⟩
      replace HO334 := zm (Kd.R_below (zr HO334) hb)
      replace HO337 := zm (Kd.R_below (zr HO337) hb)
      replace HO340 := zm (Kd.R_below (zr HO340) hb)
      replace HO343 := zm (Kd.R_below (zr HO343) hb)
      replace BK328 := zm (blk_below (zb BK328) hb)
      replace BK329 := zm (blk_below (zb BK329) hb)
      replace HB := zm (below_step zB hb)
      (try clear hb)
      (try clear hb2)
      (try clear hk)
      (try clear hi)
      refine hK.out _ _ ⟨(blk_cell BK328.out 0).trans rfl, (blk_cell BK328.out 1).trans rfl, (blk_cell BK329.out 0).trans rfl, (blk_cell BK329.out 1).trans rfl⟩ (fun hHeld => ?_)
      clear hK K
      refine zn ?_
      refine zp 5 (some 6) (zl 6 63) ?_
      refine done_ (by kernel_rfl) ?_
      have hcz125_0 : w124.cell? ⟨gb328, 0, none⟩ = some (.slice A0_0 l0_0.length c0_0) := (blk_cell BK328.out 0).trans rfl
      have hcz125_1 : w124.cell? ⟨gb328, 1, none⟩ = some (.slice A0_1 l0_1.length c0_1) := (blk_cell BK328.out 1).trans rfl
      have hfz125_0 := blk_frozen BK328.out 0
      have hfz125_1 := blk_frozen BK328.out 1
      try go_wp2_with (first | ((with_reducible refine gate_callee (f := 37) rfl ?_); refine zg (some 26) #[.agg #[.slice A0_0 l0_0.length c0_0, .slice A0_1 l0_1.length c0_1]] Try.func37 ?_; (with_reducible refine (laws_toState.calls k _ _ l0_0 _ _ l0_1 t345 t348 _ (zk (Kd.C_below HR0_0.out HB.out)) HC0_0.out (zk (Kd.C_below HR0_1.out HB.out)) HC0_1.out A22.out).mono ?_); rintro e w126 ⟨v346, v349, rfl, ho0, ho1, hb⟩; refine ⟨_, rfl, ?_⟩; have HO347 := zm (Kd.R_lower (Kd.R_new' (Kd.R_new' ho0 (Kd.R_lt (zr HO334))) (Kd.R_lt (zr HO340))) (below_size zB)); replace HO334 := zm (Kd.R_elder' (zr HO334) (Kd.R_base ho0) hb); replace HO340 := zm (Kd.R_elder' (zr HO340) (Kd.R_base ho0) hb); have HO350 := zm (Kd.R_lower (Kd.R_new' (Kd.R_new' ho1 (Kd.R_lt (zr HO337))) (Kd.R_lt (zr HO343))) (below_size zB)); replace HO337 := zm (Kd.R_elder' (zr HO337) (Kd.R_base ho1) hb); replace HO343 := zm (Kd.R_elder' (zr HO343) (Kd.R_base ho1) hb); replace BK328 := zm (blk_below (zb BK328) hb); replace BK329 := zm (blk_below (zb BK329) hb); replace HB := zm (below_step zB hb); clear hb ho0 ho1) | ((with_reducible refine gate_dst (N := 7) rfl ?_); refine zbox 7 #[.slice none 0 0, .slice none 0 0] 55 ?_; intro gb351 hg w127 hbox hb; replace HO334 := zm (Kd.R_below (zr HO334) hb); replace HO337 := zm (Kd.R_below (zr HO337) hb); replace HO340 := zm (Kd.R_below (zr HO340) hb); replace HO343 := zm (Kd.R_below (zr HO343) hb); replace HO347 := zm (Kd.R_below (zr HO347) hb); replace HO350 := zm (Kd.R_below (zr HO350) hb); have BK351 := zm (hbox); have GW351 := zge w hg zB; have GE351 := zge w hg zB; replace HB := zm (below_step zB hb); have NB328_351 := zlt hg (zb BK328); have NB351_328 := zgt hg (zb BK328); replace BK328 := zm (blk_below (zb BK328) hb); have NB329_351 := zlt hg (zb BK329); have NB351_329 := zgt hg (zb BK329); replace BK329 := zm (blk_below (zb BK329) hb); clear hb hbox hg; obtain ⟨Ao128, co128, eo128⟩ := Kd.R_slice HO347.out; subst eo128; have hnb129 := NB351_328.out; have hnc129 := NB328_351.out; have hnb130 := NB351_329.out; have hnc130 := NB329_351.out; have hcz131_0 : w127.cell? ⟨gb351, 0, none⟩ = some (.slice none 0 0) := (blk_cell BK351.out 0).trans rfl; have hcz131_1 : w127.cell? ⟨gb351, 1, none⟩ = some (.slice none 0 0) := (blk_cell BK351.out 1).trans rfl; have hfz131_0 := blk_frozen BK351.out 0; have hfz131_1 := blk_frozen BK351.out 1; obtain ⟨Ao132, co132, eo132⟩ := Kd.R_slice HO350.out; subst eo132; have hcz133_0 : w127.cell? ⟨gb329, 0, none⟩ = some (.slice A1_0 l1_0.length c1_0) := (blk_cell BK329.out 0).trans rfl; have hcz133_1 : w127.cell? ⟨gb329, 1, none⟩ = some (.slice A1_1 l1_1.length c1_1) := (blk_cell BK329.out 1).trans rfl; have hfz133_0 := blk_frozen BK329.out 0; have hfz133_1 := blk_frozen BK329.out 1) | ((with_reducible refine gate_callee (f := 37) rfl ?_); refine zg (some 28) #[.agg #[.slice A1_0 l1_0.length c1_0, .slice A1_1 l1_1.length c1_1]] Try.func37 ?_; (with_reducible refine (laws_toState.calls k _ _ l1_0 _ _ l1_1 t352 t355 _ ?side1 HC1_0.out ?side3 HC1_1.out A23.out).mono ?_); (case side1 => exact Kd.C_below HR1_0.out zB); (case side3 => exact Kd.C_below HR1_1.out zB); rintro e w134 ⟨v353, v356, rfl, ho0, ho1, hb⟩; refine ⟨_, rfl, ?_⟩; have HO354 := zm (Kd.R_lower (Kd.R_new' (Kd.R_new' (Kd.R_new' ho0 (Kd.R_lt (zrs <| (Kd.R_mono (zfr (zfr (Kd.R_types HO334.out BK351.out (by decide)))) (fun _ h_ => h_.1))))) (Kd.R_lt (zrs <| (Kd.R_mono (zfr (zfr (Kd.R_types HO340.out BK351.out (by decide)))) (fun _ h_ => h_.1))))) (Kd.R_lt (zrs <| (Kd.R_mono (zfr (zfr (Kd.R_types HO347.out BK351.out (by decide)))) (fun _ h_ => h_.1))))) (below_size zB)); replace HO334 := zm (Kd.R_elder' (zrs <| (Kd.R_mono (zfr (zfr (Kd.R_types HO334.out BK351.out (by decide)))) (fun _ h_ => h_.1))) (Kd.R_base ho0) hb); replace HO340 := zm (Kd.R_elder' (zrs <| (Kd.R_mono (zfr (zfr (Kd.R_types HO340.out BK351.out (by decide)))) (fun _ h_ => h_.1))) (Kd.R_base ho0) hb); replace HO347 := zm (Kd.R_elder' (zrs <| (Kd.R_mono (zfr (zfr (Kd.R_types HO347.out BK351.out (by decide)))) (fun _ h_ => h_.1))) (Kd.R_base ho0) hb); have HO357 := zm (Kd.R_lower (Kd.R_new' (Kd.R_new' (Kd.R_new' ho1 (Kd.R_lt (zrs <| (Kd.R_mono (zfr (zfr (Kd.R_types HO337.out BK351.out (by decide)))) (fun _ h_ => h_.1))))) (Kd.R_lt (zrs <| (Kd.R_mono (zfr (zfr (Kd.R_types HO343.out BK351.out (by decide)))) (fun _ h_ => h_.1))))) (Kd.R_lt (zrs <| (Kd.R_mono (zfr (zfr (Kd.R_types HO350.out BK351.out (by decide)))) (fun _ h_ => h_.1))))) (below_size zB)); replace HO337 := zm (Kd.R_elder' (zrs <| (Kd.R_mono (zfr (zfr (Kd.R_types HO337.out BK351.out (by decide)))) (fun _ h_ => h_.1))) (Kd.R_base ho1) hb); replace HO343 := zm (Kd.R_elder' (zrs <| (Kd.R_mono (zfr (zfr (Kd.R_types HO343.out BK351.out (by decide)))) (fun _ h_ => h_.1))) (Kd.R_base ho1) hb); replace HO350 := zm (Kd.R_elder' (zrs <| (Kd.R_mono (zfr (zfr (Kd.R_types HO350.out BK351.out (by decide)))) (fun _ h_ => h_.1))) (Kd.R_base ho1) hb); replace BK328 := zm (blk_below (g := gb328) (o := .cells #[.slice A0_0 l0_0.length c0_0, .slice A0_1 l0_1.length c0_1] 48 (0, 0)) (zfar (zfar (zb BK328) NB328_351) NB328_351) hb); replace BK329 := zm (blk_below (g := gb329) (o := .cells #[.slice A1_0 l1_0.length c1_0, .slice A1_1 l1_1.length c1_1] 48 (0, 0)) (zfar (zfar (zb BK329) NB329_351) NB329_351) hb); replace BK351 := zm (blk_below (g := gb351) (o := .cells #[.slice Ao128 t345.length co128, .slice Ao132 t348.length co132] 55 (0, 0)) (zput (zput (zb BK351) 0) 1) hb); replace HB := zm (below_step zB hb); clear hb ho0 ho1) | ((with_reducible refine gate_dst (N := 8) rfl ?_); refine zbox 8 #[.slice none 0 0, .slice none 0 0] 55 ?_; intro gb358 hg w135 hbox hb; replace HO334 := zm (Kd.R_below (zr HO334) hb); replace HO337 := zm (Kd.R_below (zr HO337) hb); replace HO340 := zm (Kd.R_below (zr HO340) hb); replace HO343 := zm (Kd.R_below (zr HO343) hb); replace HO347 := zm (Kd.R_below (zr HO347) hb); replace HO350 := zm (Kd.R_below (zr HO350) hb); replace HO354 := zm (Kd.R_below (zr HO354) hb); replace HO357 := zm (Kd.R_below (zr HO357) hb); have BK358 := zm (hbox); have GW358 := zge w hg zB; have GE358 := zge w hg zB; replace HB := zm (below_step zB hb); have NB328_358 := zlt hg (zb BK328); have NB358_328 := zgt hg (zb BK328); replace BK328 := zm (blk_below (zb BK328) hb); have NB329_358 := zlt hg (zb BK329); have NB358_329 := zgt hg (zb BK329); replace BK329 := zm (blk_below (zb BK329) hb); have NB351_358 := zlt hg (zb BK351); have NB358_351 := zgt hg (zb BK351); replace BK351 := zm (blk_below (zb BK351) hb); clear hb hbox hg; obtain ⟨Ao136, co136, eo136⟩ := Kd.R_slice HO354.out; subst eo136; have hnb137 := NB358_328.out; have hnc137 := NB328_358.out; have hnb138 := NB358_329.out; have hnc138 := NB329_358.out; have hnb139 := NB358_351.out; have hnc139 := NB351_358.out; have hcz140_0 : w135.cell? ⟨gb358, 0, none⟩ = some (.slice none 0 0) := (blk_cell BK358.out 0).trans rfl; have hcz140_1 : w135.cell? ⟨gb358, 1, none⟩ = some (.slice none 0 0) := (blk_cell BK358.out 1).trans rfl; have hfz140_0 := blk_frozen BK358.out 0; have hfz140_1 := blk_frozen BK358.out 1; obtain ⟨Ao141, co141, eo141⟩ := Kd.R_slice HO357.out; subst eo141; have hcz142_0 : w135.cell? ⟨gb351, 0, none⟩ = some (.slice Ao128 t345.length co128) := (blk_cell BK351.out 0).trans rfl; have hcz142_1 : w135.cell? ⟨gb351, 1, none⟩ = some (.slice Ao132 t348.length co132) := (blk_cell BK351.out 1).trans rfl; have hfz142_0 := blk_frozen BK351.out 0; have hfz142_1 := blk_frozen BK351.out 1) | ((with_reducible refine gate_callee (f := 43) rfl ?_); refine zg (some 31) #[.agg #[.slice Ao128 t345.length co128, .slice Ao132 t348.length co132], .agg #[.slice Ao136 t352.length co136, .slice Ao141 t355.length co141]] Try.func43 ?_; (with_reducible refine (impl_StateSame.calls k _ _ t345 _ _ t348 _ _ t352 _ _ t355 t359 _ ?side1 ?side2 ?side3 ?side4 ?side5 ?side6 ?side7 ?side8 A24.out).mono ?_); (case side1 => refine (Kd.R_reads' (e := 84) (base := w.heap.size) (ok := fun k_ => (((True ∧ some k_ ≠ (.slice Ao120 t332.length co120 : Value).ownBlock) ∧ some k_ ≠ (.slice Ao122 t338.length co122 : Value).ownBlock) ∧ some k_ ≠ (.slice Ao136 t352.length co136 : Value).ownBlock)) (n := t345.length) (c := co128) ?_).2.2; exact (zrs <| (Kd.R_mono (zfr (zfr (Kd.R_types HO347.out BK358.out (by decide)))) (fun _ h_ => h_.1)))); (case side2 => exact (Kd.R_reads' HO347.out).2.1); (case side3 => refine (Kd.R_reads' (e := 89) (base := w.heap.size) (ok := fun k_ => (((True ∧ some k_ ≠ (.slice Ao121 t335.length co121 : Value).ownBlock) ∧ some k_ ≠ (.slice Ao123 t341.length co123 : Value).ownBlock) ∧ some k_ ≠ (.slice Ao141 t355.length co141 : Value).ownBlock)) (n := t348.length) (c := co132) ?_).2.2; exact (zrs <| (Kd.R_mono (zfr (zfr (Kd.R_types HO350.out BK358.out (by decide)))) (fun _ h_ => h_.1)))); (case side4 => exact (Kd.R_reads' HO350.out).2.1); (case side5 => refine (Kd.R_reads' (e := 84) (base := w.heap.size) (ok := fun k_ => (((True ∧ some k_ ≠ (.slice Ao120 t332.length co120 : Value).ownBlock) ∧ some k_ ≠ (.slice Ao122 t338.length co122 : Value).ownBlock) ∧ some k_ ≠ (.slice Ao128 t345.length co128 : Value).ownBlock)) (n := t352.length) (c := co136) ?_).2.2; exact (zrs <| (Kd.R_mono (zfr (zfr (Kd.R_types HO354.out BK358.out (by decide)))) (fun _ h_ => h_.1)))); (case side6 => exact (Kd.R_reads' HO354.out).2.1); (case side7 => refine (Kd.R_reads' (e := 89) (base := w.heap.size) (ok := fun k_ => (((True ∧ some k_ ≠ (.slice Ao121 t335.length co121 : Value).ownBlock) ∧ some k_ ≠ (.slice Ao123 t341.length co123 : Value).ownBlock) ∧ some k_ ≠ (.slice Ao132 t348.length co132 : Value).ownBlock)) (n := t355.length) (c := co141) ?_).2.2; exact (zrs <| (Kd.R_mono (zfr (zfr (Kd.R_types HO357.out BK358.out (by decide)))) (fun _ h_ => h_.1)))); (case side8 => exact (Kd.R_reads' HO357.out).2.1); rintro e w143 ⟨rfl, hb⟩; refine ⟨_, rfl, ?_⟩; replace HO334 := zm (Kd.R_below (zrs <| (Kd.R_mono (zfr (zfr (Kd.R_types HO334.out BK358.out (by decide)))) (fun _ h_ => h_.1))) hb); replace HO337 := zm (Kd.R_below (zrs <| (Kd.R_mono (zfr (zfr (Kd.R_types HO337.out BK358.out (by decide)))) (fun _ h_ => h_.1))) hb); replace HO340 := zm (Kd.R_below (zrs <| (Kd.R_mono (zfr (zfr (Kd.R_types HO340.out BK358.out (by decide)))) (fun _ h_ => h_.1))) hb); replace HO343 := zm (Kd.R_below (zrs <| (Kd.R_mono (zfr (zfr (Kd.R_types HO343.out BK358.out (by decide)))) (fun _ h_ => h_.1))) hb); replace HO347 := zm (Kd.R_below (zrs <| (Kd.R_mono (zfr (zfr (Kd.R_types HO347.out BK358.out (by decide)))) (fun _ h_ => h_.1))) hb); replace HO350 := zm (Kd.R_below (zrs <| (Kd.R_mono (zfr (zfr (Kd.R_types HO350.out BK358.out (by decide)))) (fun _ h_ => h_.1))) hb); replace HO354 := zm (Kd.R_below (zrs <| (Kd.R_mono (zfr (zfr (Kd.R_types HO354.out BK358.out (by decide)))) (fun _ h_ => h_.1))) hb); replace HO357 := zm (Kd.R_below (zrs <| (Kd.R_mono (zfr (zfr (Kd.R_types HO357.out BK358.out (by decide)))) (fun _ h_ => h_.1))) hb); replace BK328 := zm (blk_below (g := gb328) (o := .cells #[.slice A0_0 l0_0.length c0_0, .slice A0_1 l0_1.length c0_1] 48 (0, 0)) (zfar (zfar (zb BK328) NB328_358) NB328_358) hb); replace BK329 := zm (blk_below (g := gb329) (o := .cells #[.slice A1_0 l1_0.length c1_0, .slice A1_1 l1_1.length c1_1] 48 (0, 0)) (zfar (zfar (zb BK329) NB329_358) NB329_358) hb); replace BK351 := zm (blk_below (g := gb351) (o := .cells #[.slice Ao128 t345.length co128, .slice Ao132 t348.length co132] 55 (0, 0)) (zfar (zfar (zb BK351) NB351_358) NB351_358) hb); replace BK358 := zm (blk_below (g := gb358) (o := .cells #[.slice Ao136 t352.length co136, .slice Ao141 t355.length co141] 55 (0, 0)) (zput (zput (zb BK358) 0) 1) hb); replace HB := zm (below_step zB hb); clear hb))
      replace HO334 := zm (Kd.R_drew HO334.out)
      replace HO337 := zm (Kd.R_drew HO337.out)
      replace HO340 := zm (Kd.R_drew HO340.out)
      replace HO343 := zm (Kd.R_drew HO343.out)
      replace HO347 := zm (Kd.R_drew HO347.out)
      replace HO350 := zm (Kd.R_drew HO350.out)
      replace HO354 := zm (Kd.R_drew HO354.out)
      replace HO357 := zm (Kd.R_drew HO357.out)
      replace BK328 := zm (blk_drew BK328.out)
      replace BK329 := zm (blk_drew BK329.out)
      replace BK351 := zm (blk_drew BK351.out)
      replace BK358 := zm (blk_drew BK358.out)
      replace HB := zm (below_drew1 HB.out)
      refine start_ (n := 5) (S := fun w' => w'.cell? ⟨gb351, 0, none⟩ = some (.slice Ao128 t345.length co128) ∧ w'.cell? ⟨gb351, 1, none⟩ = some (.slice Ao132 t348.length co132) ∧ w'.cell? ⟨gb328, 0, none⟩ = some (.slice A0_0 l0_0.length c0_0) ∧ w'.cell? ⟨gb328, 1, none⟩ = some (.slice A0_1 l0_1.length c0_1)) (ds := []) (zl 5 0) (by kernel_rfl) rfl rfl ⟨(blk_cell BK351.out 0).trans rfl, (blk_cell BK351.out 1).trans rfl, (blk_cell BK328.out 0).trans rfl, (blk_cell BK328.out 1).trans rfl⟩ (fun hHeld => ?_)
      generalize w143.drew = w144 at HO334 HO337 HO340 HO343 HO347 HO350 HO354 HO357 BK328 BK329 BK351 BK358 HB hHeld ⊢
      refine zt 0 (some 35) (zl 5 1) ?_
      refine zt 1 (some 36) (zl 5 3) ?_
      refine zo 2 (some 37) (zl 5 7) (fun K hK => ?_)
      refine zgo #[.agg #[.slice A0_0 l0_0.length c0_0, .slice A0_1 l0_1.length c0_1]] Try.func37 ?_
      with_reducible refine (laws_toState.calls k _ _ l0_0 _ _ l0_1 t360 t363 _ (zk (Kd.C_below HR0_0.out HB.out)) HC0_0.out (zk (Kd.C_below HR0_1.out HB.out)) HC0_1.out A60.out).mono ?_
      rintro e w145 ⟨v361, v364, rfl, ho0, ho1, hb⟩
      refine ⟨_, rfl, ?_⟩
      have HO362 := zm (Kd.R_lower (Kd.R_new' (Kd.R_new' (Kd.R_new' (Kd.R_new' ho0 (Kd.R_lt (zr HO334))) (Kd.R_lt (zr HO340))) (Kd.R_lt (zr HO347))) (Kd.R_lt (zr HO354))) (below_size zB))
      replace HO334 := zm (Kd.R_elder' (zr HO334) (Kd.R_base ho0) hb)
      replace HO340 := zm (Kd.R_elder' (zr HO340) (Kd.R_base ho0) hb)
      replace HO347 := zm (Kd.R_elder' (zr HO347) (Kd.R_base ho0) hb)
      replace HO354 := zm (Kd.R_elder' (zr HO354) (Kd.R_base ho0) hb)
      have HO365 := zm (Kd.R_lower (Kd.R_new' (Kd.R_new' (Kd.R_new' (Kd.R_new' ho1 (Kd.R_lt (zr HO337))) (Kd.R_lt (zr HO343))) (Kd.R_lt (zr HO350))) (Kd.R_lt (zr HO357))) (below_size zB))
      replace HO337 := zm (Kd.R_elder' (zr HO337) (Kd.R_base ho1) hb)
      replace HO343 := zm (Kd.R_elder' (zr HO343) (Kd.R_base ho1) hb)
      replace HO350 := zm (Kd.R_elder' (zr HO350) (Kd.R_base ho1) hb)
      replace HO357 := zm (Kd.R_elder' (zr HO357) (Kd.R_base ho1) hb)
      replace BK328 := zm (blk_below (zb BK328) hb)
      replace BK329 := zm (blk_below (zb BK329) hb)
      replace BK351 := zm (blk_below (zb BK351) hb)
      replace BK358 := zm (blk_below (zb BK358) hb)
      replace HB := zm (below_step zB hb)
      (try clear hb)
      (try clear hb2)
      (try clear hk)
      (try clear hi)
      (try clear ho0)
      (try clear ho1)
      obtain ⟨Ao146, co146, eo146⟩ := Kd.R_slice HO362.out
      (first | subst eo146 | (injection eo146 with f1_ f2_ f3_; have f4_ := f1_.symm; have f5_ := f3_.symm; clear f1_ f2_ f3_; subst f4_; subst f5_))
      obtain ⟨Ao147, co147, eo147⟩ := Kd.R_slice HO365.out
      (first | subst eo147 | (injection eo147 with f1_ f2_ f3_; have f4_ := f1_.symm; have f5_ := f3_.symm; clear f1_ f2_ f3_; subst f4_; subst f5_))
      refine hK.out _ _ ⟨(blk_cell BK351.out 0).trans rfl, (blk_cell BK351.out 1).trans rfl, (blk_cell BK328.out 0).trans rfl, (blk_cell BK328.out 1).trans rfl⟩ (fun hHeld => ?_)
      clear hK K
      refine zn ?_
      refine zo 3 (some 38) (zl 5 15) (fun K hK => ?_)
      refine zgo #[.agg #[.slice Ao128 t345.length co128, .slice Ao132 t348.length co132], .agg #[.slice Ao146 t360.length co146, .slice Ao147 t363.length co147]] Try.func39 ?_
      with_reducible refine (laws_eqState.calls k _ _ t345 _ _ t348 _ _ t360 _ _ t363 true _ ?side1 ?side2 ?side3 ?side4 ?side5 ?side6 ?side7 ?side8 A61.out).mono ?_
      (case side1 => repeat (first | exact (Kd.R_reads' HO347.out).2.2 | (with_reducible refine Kd.C_alloc ?_ _) | (with_reducible refine Kd.C_drewN ?_ _) | (with_reducible refine Kd.C_drew ?_)))
      (case side2 => exact (Kd.R_reads' HO347.out).2.1)
      (case side3 => repeat (first | exact (Kd.R_reads' HO350.out).2.2 | (with_reducible refine Kd.C_alloc ?_ _) | (with_reducible refine Kd.C_drewN ?_ _) | (with_reducible refine Kd.C_drew ?_)))
      (case side4 => exact (Kd.R_reads' HO350.out).2.1)
      (case side5 => repeat (first | exact (Kd.R_reads' HO362.out).2.2 | (with_reducible refine Kd.C_alloc ?_ _) | (with_reducible refine Kd.C_drewN ?_ _) | (with_reducible refine Kd.C_drew ?_)))
      (case side6 => exact (Kd.R_reads' HO362.out).2.1)
      (case side7 => repeat (first | exact (Kd.R_reads' HO365.out).2.2 | (with_reducible refine Kd.C_alloc ?_ _) | (with_reducible refine Kd.C_drewN ?_ _) | (with_reducible refine Kd.C_drew ?_)))
      (case side8 => exact (Kd.R_reads' HO365.out).2.1)
      rintro e w148 ⟨rfl, hb⟩
      refine ⟨_, rfl, ?_⟩
      replace HO334 := zm (Kd.R_below (zr HO334) hb)
      replace HO337 := zm (Kd.R_below (zr HO337) hb)
      replace HO340 := zm (Kd.R_below (zr HO340) hb)
      replace HO343 := zm (Kd.R_below (zr HO343) hb)
      replace HO347 := zm (Kd.R_below (zr HO347) hb)
      replace HO350 := zm (Kd.R_below (zr HO350) hb)
      replace HO354 := zm (Kd.R_below (zr HO354) hb)
      replace HO357 := zm (Kd.R_below (zr HO357) hb)
      replace HO362 := zm (Kd.R_below (zr HO362) hb)
      replace HO365 := zm (Kd.R_below (zr HO365) hb)
      replace BK328 := zm (blk_below (zb BK328) hb)
      replace BK329 := zm (blk_below (zb BK329) hb)
      replace BK351 := zm (blk_below (zb BK351) hb)
      replace BK358 := zm (blk_below (zb BK358) hb)
      replace HB := zm (below_step zB hb)
      (try clear hb)
      (try clear hb2)
      (try clear hk)
      (try clear hi)
      refine hK.out _ _ ⟨(blk_cell BK351.out 0).trans rfl, (blk_cell BK351.out 1).trans rfl, (blk_cell BK328.out 0).trans rfl, (blk_cell BK328.out 1).trans rfl⟩ (fun hHeld => ?_)
      clear hK K
      refine zn ?_
      refine zp 4 (some 39) (zl 5 31) ?_
      refine done_ (by kernel_rfl) ?_
      try go_wp2
      replace HO334 := zm (Kd.R_drew HO334.out)
      replace HO337 := zm (Kd.R_drew HO337.out)
      replace HO340 := zm (Kd.R_drew HO340.out)
      replace HO343 := zm (Kd.R_drew HO343.out)
      replace HO347 := zm (Kd.R_drew HO347.out)
      replace HO350 := zm (Kd.R_drew HO350.out)
      replace HO354 := zm (Kd.R_drew HO354.out)
      replace HO357 := zm (Kd.R_drew HO357.out)
      replace HO362 := zm (Kd.R_drew HO362.out)
      replace HO365 := zm (Kd.R_drew HO365.out)
      replace BK328 := zm (blk_drew BK328.out)
      replace BK329 := zm (blk_drew BK329.out)
      replace BK351 := zm (blk_drew BK351.out)
      replace BK358 := zm (blk_drew BK358.out)
      replace HB := zm (below_drew1 HB.out)
      refine start_ (n := 5) (S := fun w' => w'.cell? ⟨gb358, 0, none⟩ = some (.slice Ao136 t352.length co136) ∧ w'.cell? ⟨gb358, 1, none⟩ = some (.slice Ao141 t355.length co141) ∧ w'.cell? ⟨gb329, 0, none⟩ = some (.slice A1_0 l1_0.length c1_0) ∧ w'.cell? ⟨gb329, 1, none⟩ = some (.slice A1_1 l1_1.length c1_1)) (ds := []) (zl 5 0) (by kernel_rfl) rfl rfl ⟨(blk_cell BK358.out 0).trans rfl, (blk_cell BK358.out 1).trans rfl, (blk_cell BK329.out 0).trans rfl, (blk_cell BK329.out 1).trans rfl⟩ (fun hHeld => ?_)
      generalize w148.drew = w149 at HO334 HO337 HO340 HO343 HO347 HO350 HO354 HO357 HO362 HO365 BK328 BK329 BK351 BK358 HB hHeld ⊢
      refine zt 0 (some 40) (zl 5 1) ?_
      refine zt 1 (some 41) (zl 5 3) ?_
      refine zo 2 (some 42) (zl 5 7) (fun K hK => ?_)
      refine zgo #[.agg #[.slice A1_0 l1_0.length c1_0, .slice A1_1 l1_1.length c1_1]] Try.func37 ?_
      with_reducible refine (laws_toState.calls k _ _ l1_0 _ _ l1_1 t367 t370 _ (zk (Kd.C_below HR1_0.out HB.out)) HC1_0.out (zk (Kd.C_below HR1_1.out HB.out)) HC1_1.out A63.out).mono ?_
      rintro e w150 ⟨v368, v371, rfl, ho0, ho1, hb⟩
      refine ⟨_, rfl, ?_⟩
      have HO369 := zm (Kd.R_lower (Kd.R_new' (Kd.R_new' (Kd.R_new' (Kd.R_new' (Kd.R_new' ho0 (Kd.R_lt (zr HO334))) (Kd.R_lt (zr HO340))) (Kd.R_lt (zr HO347))) (Kd.R_lt (zr HO354))) (Kd.R_lt (zr HO362))) (below_size zB))
      replace HO334 := zm (Kd.R_elder' (zr HO334) (Kd.R_base ho0) hb)
      replace HO340 := zm (Kd.R_elder' (zr HO340) (Kd.R_base ho0) hb)
      replace HO347 := zm (Kd.R_elder' (zr HO347) (Kd.R_base ho0) hb)
      replace HO354 := zm (Kd.R_elder' (zr HO354) (Kd.R_base ho0) hb)
      replace HO362 := zm (Kd.R_elder' (zr HO362) (Kd.R_base ho0) hb)
      have HO372 := zm (Kd.R_lower (Kd.R_new' (Kd.R_new' (Kd.R_new' (Kd.R_new' (Kd.R_new' ho1 (Kd.R_lt (zr HO337))) (Kd.R_lt (zr HO343))) (Kd.R_lt (zr HO350))) (Kd.R_lt (zr HO357))) (Kd.R_lt (zr HO365))) (below_size zB))
      replace HO337 := zm (Kd.R_elder' (zr HO337) (Kd.R_base ho1) hb)
      replace HO343 := zm (Kd.R_elder' (zr HO343) (Kd.R_base ho1) hb)
      replace HO350 := zm (Kd.R_elder' (zr HO350) (Kd.R_base ho1) hb)
      replace HO357 := zm (Kd.R_elder' (zr HO357) (Kd.R_base ho1) hb)
      replace HO365 := zm (Kd.R_elder' (zr HO365) (Kd.R_base ho1) hb)
      replace BK328 := zm (blk_below (zb BK328) hb)
      replace BK329 := zm (blk_below (zb BK329) hb)
      replace BK351 := zm (blk_below (zb BK351) hb)
      replace BK358 := zm (blk_below (zb BK358) hb)
      replace HB := zm (below_step zB hb)
      (try clear hb)
      (try clear hb2)
      (try clear hk)
      (try clear hi)
      (try clear ho0)
      (try clear ho1)
      obtain ⟨Ao151, co151, eo151⟩ := Kd.R_slice HO369.out
      (first | subst eo151 | (injection eo151 with f1_ f2_ f3_; have f4_ := f1_.symm; have f5_ := f3_.symm; clear f1_ f2_ f3_; subst f4_; subst f5_))
      obtain ⟨Ao152, co152, eo152⟩ := Kd.R_slice HO372.out
      (first | subst eo152 | (injection eo152 with f1_ f2_ f3_; have f4_ := f1_.symm; have f5_ := f3_.symm; clear f1_ f2_ f3_; subst f4_; subst f5_))
      refine hK.out _ _ ⟨(blk_cell BK358.out 0).trans rfl, (blk_cell BK358.out 1).trans rfl, (blk_cell BK329.out 0).trans rfl, (blk_cell BK329.out 1).trans rfl⟩ (fun hHeld => ?_)
      clear hK K
      refine zn ?_
      refine zo 3 (some 43) (zl 5 15) (fun K hK => ?_)
      refine zgo #[.agg #[.slice Ao136 t352.length co136, .slice Ao141 t355.length co141], .agg #[.slice Ao151 t367.length co151, .slice Ao152 t370.length co152]] Try.func39 ?_
      with_reducible refine (laws_eqState.calls k _ _ t352 _ _ t355 _ _ t367 _ _ t370 false _ ?side1 ?side2 ?side3 ?side4 ?side5 ?side6 ?side7 ?side8 A64.out).mono ?_
      (case side1 => repeat (first | exact (Kd.R_reads' HO354.out).2.2 | (with_reducible refine Kd.C_alloc ?_ _) | (with_reducible refine Kd.C_drewN ?_ _) | (with_reducible refine Kd.C_drew ?_)))
      (case side2 => exact (Kd.R_reads' HO354.out).2.1)
      (case side3 => repeat (first | exact (Kd.R_reads' HO357.out).2.2 | (with_reducible refine Kd.C_alloc ?_ _) | (with_reducible refine Kd.C_drewN ?_ _) | (with_reducible refine Kd.C_drew ?_)))
      (case side4 => exact (Kd.R_reads' HO357.out).2.1)
      (case side5 => repeat (first | exact (Kd.R_reads' HO369.out).2.2 | (with_reducible refine Kd.C_alloc ?_ _) | (with_reducible refine Kd.C_drewN ?_ _) | (with_reducible refine Kd.C_drew ?_)))
      (case side6 => exact (Kd.R_reads' HO369.out).2.1)
      (case side7 => repeat (first | exact (Kd.R_reads' HO372.out).2.2 | (with_reducible refine Kd.C_alloc ?_ _) | (with_reducible refine Kd.C_drewN ?_ _) | (with_reducible refine Kd.C_drew ?_)))
      (case side8 => exact (Kd.R_reads' HO372.out).2.1)
      rintro e w153 ⟨rfl, hb⟩
      refine ⟨_, rfl, ?_⟩
      replace HO334 := zm (Kd.R_below (zr HO334) hb)
      replace HO337 := zm (Kd.R_below (zr HO337) hb)
      replace HO340 := zm (Kd.R_below (zr HO340) hb)
      replace HO343 := zm (Kd.R_below (zr HO343) hb)
      replace HO347 := zm (Kd.R_below (zr HO347) hb)
      replace HO350 := zm (Kd.R_below (zr HO350) hb)
      replace HO354 := zm (Kd.R_below (zr HO354) hb)
      replace HO357 := zm (Kd.R_below (zr HO357) hb)
      replace HO362 := zm (Kd.R_below (zr HO362) hb)
      replace HO365 := zm (Kd.R_below (zr HO365) hb)
      replace HO369 := zm (Kd.R_below (zr HO369) hb)
      replace HO372 := zm (Kd.R_below (zr HO372) hb)
      replace BK328 := zm (blk_below (zb BK328) hb)
      replace BK329 := zm (blk_below (zb BK329) hb)
      replace BK351 := zm (blk_below (zb BK351) hb)
      replace BK358 := zm (blk_below (zb BK358) hb)
      replace HB := zm (below_step zB hb)
      (try clear hb)
      (try clear hb2)
      (try clear hk)
      (try clear hi)
      refine hK.out _ _ ⟨(blk_cell BK358.out 0).trans rfl, (blk_cell BK358.out 1).trans rfl, (blk_cell BK329.out 0).trans rfl, (blk_cell BK329.out 1).trans rfl⟩ (fun hHeld => ?_)
      clear hK K
      refine zn ?_
      refine zp 4 (some 44) (zl 5 31) ?_
      refine done_ (by kernel_rfl) ?_
      try go_wp2
      go_ret
      exact ⟨zE, zB⟩
    ·replace c62 := Bool.eq_false_iff.mpr c62
     subst c62
     have H1 : (some false) = some r := by rw [if_neg (show ¬ (false = true) by decide)] at H; exact H
     clear H
     have H := H1
     clear H1
     obtain rfl := Option.some.inj H
     go_enter Try.func8, Try.ntmps8
     try go_wp2_with (first | ((with_reducible refine gate_dst (N := 2) rfl ?_); refine zbox 2 #[.slice A0_0 l0_0.length c0_0, .slice A0_1 l0_1.length c0_1] 48 ?_; intro gb328 hg w154 hbox hb; have BK328 := zm (hbox); have GW328 := zge w hg zB; have GE328 := zge w hg zB; replace HB := zm (below_step zB hb); clear hb hbox hg) | ((with_reducible refine gate_dst (N := 3) rfl ?_); refine zbox 3 #[.slice A1_0 l1_0.length c1_0, .slice A1_1 l1_1.length c1_1] 48 ?_; intro gb329 hg w155 hbox hb; have BK329 := zm (hbox); have GW329 := zge w hg zB; have GE329 := zge w hg zB; replace HB := zm (below_step zB hb); have NB328_329 := zlt hg (zb BK328); have NB329_328 := zgt hg (zb BK328); replace BK328 := zm (blk_below (zb BK328) hb); clear hb hbox hg; have hnb156 := NB328_329.out; have hnc156 := NB329_328.out; have hcz157_0 : w155.cell? ⟨gb328, 0, none⟩ = some (.slice A0_0 l0_0.length c0_0) := (blk_cell BK328.out 0).trans rfl; have hcz157_1 : w155.cell? ⟨gb328, 1, none⟩ = some (.slice A0_1 l0_1.length c0_1) := (blk_cell BK328.out 1).trans rfl; have hfz157_0 := blk_frozen BK328.out 0; have hfz157_1 := blk_frozen BK328.out 1) | ((with_reducible refine gate_callee (f := 35) rfl ?_); refine zg (some 12) #[.agg #[.slice A0_0 l0_0.length c0_0, .slice A0_1 l0_1.length c0_1], .int .i64 1048576] Try.func35 ?_; (with_reducible refine (laws_szState.calls k _ _ l0_0 _ _ l0_1 1048576 t330 _ (zk (Kd.C_below HR0_0.out HB.out)) HC0_0.out (zk (Kd.C_below HR0_1.out HB.out)) HC0_1.out A3.out).mono ?_); rintro e w158 ⟨rfl, hb⟩; refine ⟨_, rfl, ?_⟩; replace BK328 := zm (blk_below (zb BK328) hb); replace BK329 := zm (blk_below (zb BK329) hb); replace HB := zm (below_step zB hb); clear hb; have hcz159_0 : w158.cell? ⟨gb329, 0, none⟩ = some (.slice A1_0 l1_0.length c1_0) := (blk_cell BK329.out 0).trans rfl; have hcz159_1 : w158.cell? ⟨gb329, 1, none⟩ = some (.slice A1_1 l1_1.length c1_1) := (blk_cell BK329.out 1).trans rfl; have hfz159_0 := blk_frozen BK329.out 0; have hfz159_1 := blk_frozen BK329.out 1) | ((with_reducible refine gate_callee (f := 35) rfl ?_); refine zg (some 17) #[.agg #[.slice A1_0 l1_0.length c1_0, .slice A1_1 l1_1.length c1_1], .int .i64 t330] Try.func35 ?_; (with_reducible refine (laws_szState.calls k _ _ l1_0 _ _ l1_1 t330 t331 _ (zk (Kd.C_below HR1_0.out HB.out)) HC1_0.out (zk (Kd.C_below HR1_1.out HB.out)) HC1_1.out A10.out).mono ?_); rintro e w160 ⟨rfl, hb⟩; refine ⟨_, rfl, ?_⟩; replace BK328 := zm (blk_below (zb BK328) hb); replace BK329 := zm (blk_below (zb BK329) hb); replace HB := zm (below_step zB hb); clear hb))
     replace BK328 := zm (blk_drew BK328.out)
     replace BK329 := zm (blk_drew BK329.out)
     replace HB := zm (below_drew1 HB.out)
     refine start_ (n := 6) (S := fun w' => w'.cell? ⟨gb328, 0, none⟩ = some (.slice A0_0 l0_0.length c0_0) ∧ w'.cell? ⟨gb328, 1, none⟩ = some (.slice A0_1 l0_1.length c0_1) ∧ w'.cell? ⟨gb329, 0, none⟩ = some (.slice A1_0 l1_0.length c1_0) ∧ w'.cell? ⟨gb329, 1, none⟩ = some (.slice A1_1 l1_1.length c1_1)) (ds := []) (zl 6 0) (by kernel_rfl) rfl rfl ⟨(blk_cell BK328.out 0).trans rfl, (blk_cell BK328.out 1).trans rfl, (blk_cell BK329.out 0).trans rfl, (blk_cell BK329.out 1).trans rfl⟩ (fun hHeld => ?_)
     generalize w160.drew = w161 at BK328 BK329 HB hHeld ⊢
     refine zt 0 (some 20) (zl 6 1) ?_
     refine zt 2 (some 22) (zl 6 5) ?_
     refine zo 1 (some 21) (zl 6 7) (fun K hK => ?_)
     refine zgo #[.agg #[.slice A0_0 l0_0.length c0_0, .slice A0_1 l0_1.length c0_1]] Try.func37 ?_
     with_reducible refine (laws_toState.calls k _ _ l0_0 _ _ l0_1 t332 t335 _ (zk (Kd.C_below HR0_0.out HB.out)) HC0_0.out (zk (Kd.C_below HR0_1.out HB.out)) HC0_1.out A19.out).mono ?_
     rintro e w162 ⟨v333, v336, rfl, ho0, ho1, hb⟩
     refine ⟨_, rfl, ?_⟩
     have HO334 := zm (Kd.R_lower ho0 (below_size zB))
     have HO337 := zm (Kd.R_lower ho1 (below_size zB))
     replace BK328 := zm (blk_below (zb BK328) hb)
     replace BK329 := zm (blk_below (zb BK329) hb)
     replace HB := zm (below_step zB hb)
     (try clear hb)
     (try clear hb2)
     (try clear hk)
     (try clear hi)
     (try clear ho0)
     (try clear ho1)
     refine hK.out _ _ ⟨(blk_cell BK328.out 0).trans rfl, (blk_cell BK328.out 1).trans rfl, (blk_cell BK329.out 0).trans rfl, (blk_cell BK329.out 1).trans rfl⟩ (fun hHeld => ?_)
     clear hK K
     refine zn ?_
     refine zo 3 (some 23) (zl 6 15) (fun K hK => ?_)
     refine zgo #[.agg #[.slice A1_0 l1_0.length c1_0, .slice A1_1 l1_1.length c1_1]] Try.func37 ?_
     with_reducible refine (laws_toState.calls k _ _ l1_0 _ _ l1_1 t338 t341 _ (zk (Kd.C_below HR1_0.out HB.out)) HC1_0.out (zk (Kd.C_below HR1_1.out HB.out)) HC1_1.out A20.out).mono ?_
     rintro e w163 ⟨v339, v342, rfl, ho0, ho1, hb⟩
     refine ⟨_, rfl, ?_⟩
     have HO340 := zm (Kd.R_lower (Kd.R_new' ho0 (Kd.R_lt (zr HO334))) (below_size zB))
     replace HO334 := zm (Kd.R_elder' (zr HO334) (Kd.R_base ho0) hb)
     have HO343 := zm (Kd.R_lower (Kd.R_new' ho1 (Kd.R_lt (zr HO337))) (below_size zB))
     replace HO337 := zm (Kd.R_elder' (zr HO337) (Kd.R_base ho1) hb)
     replace BK328 := zm (blk_below (zb BK328) hb)
     replace BK329 := zm (blk_below (zb BK329) hb)
     replace HB := zm (below_step zB hb)
     (try clear hb)
     (try clear hb2)
     (try clear hk)
     (try clear hi)
     (try clear ho0)
     (try clear ho1)
     obtain ⟨Ao164, co164, eo164⟩ := Kd.R_slice HO334.out
     (first | subst eo164 | (injection eo164 with f1_ f2_ f3_; have f4_ := f1_.symm; have f5_ := f3_.symm; clear f1_ f2_ f3_; subst f4_; subst f5_))
     obtain ⟨Ao165, co165, eo165⟩ := Kd.R_slice HO337.out
     (first | subst eo165 | (injection eo165 with f1_ f2_ f3_; have f4_ := f1_.symm; have f5_ := f3_.symm; clear f1_ f2_ f3_; subst f4_; subst f5_))
     obtain ⟨Ao166, co166, eo166⟩ := Kd.R_slice HO340.out
     (first | subst eo166 | (injection eo166 with f1_ f2_ f3_; have f4_ := f1_.symm; have f5_ := f3_.symm; clear f1_ f2_ f3_; subst f4_; subst f5_))
     obtain ⟨Ao167, co167, eo167⟩ := Kd.R_slice HO343.out
     (first | subst eo167 | (injection eo167 with f1_ f2_ f3_; have f4_ := f1_.symm; have f5_ := f3_.symm; clear f1_ f2_ f3_; subst f4_; subst f5_))
     refine hK.out _ _ ⟨(blk_cell BK328.out 0).trans rfl, (blk_cell BK328.out 1).trans rfl, (blk_cell BK329.out 0).trans rfl, (blk_cell BK329.out 1).trans rfl⟩ (fun hHeld => ?_)
     clear hK K
     refine zn ?_
     refine zo 4 (some 24) (zl 6 31) (fun K hK => ?_)
     refine zgo #[.agg #[.slice Ao164 t332.length co164, .slice Ao165 t335.length co165], .agg #[.slice Ao166 t338.length co166, .slice Ao167 t341.length co167]] Try.func42 ?_
     with_reducible refine (spec_StateSame.calls k _ _ t332 _ _ t335 _ _ t338 _ _ t341 t344 _ ?side1 ?side2 ?side3 ?side4 ?side5 ?side6 ?side7 ?side8 A21.out).mono ?_
     (case side1 => repeat (first | exact (Kd.R_reads' HO334.out).2.2 | (with_reducible refine Kd.C_alloc ?_ _) | (with_reducible refine Kd.C_drewN ?_ _) | (with_reducible refine Kd.C_drew ?_)))
     (case side2 => exact (Kd.R_reads' HO334.out).2.1)
     (case side3 => repeat (first | exact (Kd.R_reads' HO337.out).2.2 | (with_reducible refine Kd.C_alloc ?_ _) | (with_reducible refine Kd.C_drewN ?_ _) | (with_reducible refine Kd.C_drew ?_)))
     (case side4 => exact (Kd.R_reads' HO337.out).2.1)
     (case side5 => repeat (first | exact (Kd.R_reads' HO340.out).2.2 | (with_reducible refine Kd.C_alloc ?_ _) | (with_reducible refine Kd.C_drewN ?_ _) | (with_reducible refine Kd.C_drew ?_)))
     (case side6 => exact (Kd.R_reads' HO340.out).2.1)
     (case side7 => repeat (first | exact (Kd.R_reads' HO343.out).2.2 | (with_reducible refine Kd.C_alloc ?_ _) | (with_reducible refine Kd.C_drewN ?_ _) | (with_reducible refine Kd.C_drew ?_)))
     (case side8 => exact (Kd.R_reads' HO343.out).2.1)
     rintro e w168 ⟨rfl, hb⟩
     refine ⟨_, rfl, ?_⟩
     replace HO334 := zm (Kd.R_below (zr HO334) hb)
     replace HO337 := zm (Kd.R_below (zr HO337) hb)
     replace HO340 := zm (Kd.R_below (zr HO340) hb)
     replace HO343 := zm (Kd.R_below (zr HO343) hb)
     replace BK328 := zm (blk_below (zb BK328) hb)
     replace BK329 := zm (blk_below (zb BK329) hb)
     replace HB := zm (below_step zB hb)
     (try clear hb)
     (try clear hb2)
     (try clear hk)
     (try clear hi)
     refine hK.out _ _ ⟨(blk_cell BK328.out 0).trans rfl, (blk_cell BK328.out 1).trans rfl, (blk_cell BK329.out 0).trans rfl, (blk_cell BK329.out 1).trans rfl⟩ (fun hHeld => ?_)
     clear hK K
     refine zn ?_
     refine zp 5 (some 6) (zl 6 63) ?_
     refine done_ (by kernel_rfl) ?_
     have hcz169_0 : w168.cell? ⟨gb328, 0, none⟩ = some (.slice A0_0 l0_0.length c0_0) := (blk_cell BK328.out 0).trans rfl
     have hcz169_1 : w168.cell? ⟨gb328, 1, none⟩ = some (.slice A0_1 l0_1.length c0_1) := (blk_cell BK328.out 1).trans rfl
     have hfz169_0 := blk_frozen BK328.out 0
     have hfz169_1 := blk_frozen BK328.out 1
     try go_wp2_with (first | ((with_reducible refine gate_callee (f := 37) rfl ?_); refine zg (some 26) #[.agg #[.slice A0_0 l0_0.length c0_0, .slice A0_1 l0_1.length c0_1]] Try.func37 ?_; (with_reducible refine (laws_toState.calls k _ _ l0_0 _ _ l0_1 t345 t348 _ (zk (Kd.C_below HR0_0.out HB.out)) HC0_0.out (zk (Kd.C_below HR0_1.out HB.out)) HC0_1.out A22.out).mono ?_); rintro e w170 ⟨v346, v349, rfl, ho0, ho1, hb⟩; refine ⟨_, rfl, ?_⟩; have HO347 := zm (Kd.R_lower (Kd.R_new' (Kd.R_new' ho0 (Kd.R_lt (zr HO334))) (Kd.R_lt (zr HO340))) (below_size zB)); replace HO334 := zm (Kd.R_elder' (zr HO334) (Kd.R_base ho0) hb); replace HO340 := zm (Kd.R_elder' (zr HO340) (Kd.R_base ho0) hb); have HO350 := zm (Kd.R_lower (Kd.R_new' (Kd.R_new' ho1 (Kd.R_lt (zr HO337))) (Kd.R_lt (zr HO343))) (below_size zB)); replace HO337 := zm (Kd.R_elder' (zr HO337) (Kd.R_base ho1) hb); replace HO343 := zm (Kd.R_elder' (zr HO343) (Kd.R_base ho1) hb); replace BK328 := zm (blk_below (zb BK328) hb); replace BK329 := zm (blk_below (zb BK329) hb); replace HB := zm (below_step zB hb); clear hb ho0 ho1) | ((with_reducible refine gate_dst (N := 7) rfl ?_); refine zbox 7 #[.slice none 0 0, .slice none 0 0] 55 ?_; intro gb351 hg w171 hbox hb; replace HO334 := zm (Kd.R_below (zr HO334) hb); replace HO337 := zm (Kd.R_below (zr HO337) hb); replace HO340 := zm (Kd.R_below (zr HO340) hb); replace HO343 := zm (Kd.R_below (zr HO343) hb); replace HO347 := zm (Kd.R_below (zr HO347) hb); replace HO350 := zm (Kd.R_below (zr HO350) hb); have BK351 := zm (hbox); have GW351 := zge w hg zB; have GE351 := zge w hg zB; replace HB := zm (below_step zB hb); have NB328_351 := zlt hg (zb BK328); have NB351_328 := zgt hg (zb BK328); replace BK328 := zm (blk_below (zb BK328) hb); have NB329_351 := zlt hg (zb BK329); have NB351_329 := zgt hg (zb BK329); replace BK329 := zm (blk_below (zb BK329) hb); clear hb hbox hg; obtain ⟨Ao172, co172, eo172⟩ := Kd.R_slice HO347.out; subst eo172; have hnb173 := NB351_328.out; have hnc173 := NB328_351.out; have hnb174 := NB351_329.out; have hnc174 := NB329_351.out; have hcz175_0 : w171.cell? ⟨gb351, 0, none⟩ = some (.slice none 0 0) := (blk_cell BK351.out 0).trans rfl; have hcz175_1 : w171.cell? ⟨gb351, 1, none⟩ = some (.slice none 0 0) := (blk_cell BK351.out 1).trans rfl; have hfz175_0 := blk_frozen BK351.out 0; have hfz175_1 := blk_frozen BK351.out 1; obtain ⟨Ao176, co176, eo176⟩ := Kd.R_slice HO350.out; subst eo176; have hcz177_0 : w171.cell? ⟨gb329, 0, none⟩ = some (.slice A1_0 l1_0.length c1_0) := (blk_cell BK329.out 0).trans rfl; have hcz177_1 : w171.cell? ⟨gb329, 1, none⟩ = some (.slice A1_1 l1_1.length c1_1) := (blk_cell BK329.out 1).trans rfl; have hfz177_0 := blk_frozen BK329.out 0; have hfz177_1 := blk_frozen BK329.out 1) | ((with_reducible refine gate_callee (f := 37) rfl ?_); refine zg (some 28) #[.agg #[.slice A1_0 l1_0.length c1_0, .slice A1_1 l1_1.length c1_1]] Try.func37 ?_; (with_reducible refine (laws_toState.calls k _ _ l1_0 _ _ l1_1 t352 t355 _ ?side1 HC1_0.out ?side3 HC1_1.out A23.out).mono ?_); (case side1 => exact Kd.C_below HR1_0.out zB); (case side3 => exact Kd.C_below HR1_1.out zB); rintro e w178 ⟨v353, v356, rfl, ho0, ho1, hb⟩; refine ⟨_, rfl, ?_⟩; have HO354 := zm (Kd.R_lower (Kd.R_new' (Kd.R_new' (Kd.R_new' ho0 (Kd.R_lt (zrs <| (Kd.R_mono (zfr (zfr (Kd.R_types HO334.out BK351.out (by decide)))) (fun _ h_ => h_.1))))) (Kd.R_lt (zrs <| (Kd.R_mono (zfr (zfr (Kd.R_types HO340.out BK351.out (by decide)))) (fun _ h_ => h_.1))))) (Kd.R_lt (zrs <| (Kd.R_mono (zfr (zfr (Kd.R_types HO347.out BK351.out (by decide)))) (fun _ h_ => h_.1))))) (below_size zB)); replace HO334 := zm (Kd.R_elder' (zrs <| (Kd.R_mono (zfr (zfr (Kd.R_types HO334.out BK351.out (by decide)))) (fun _ h_ => h_.1))) (Kd.R_base ho0) hb); replace HO340 := zm (Kd.R_elder' (zrs <| (Kd.R_mono (zfr (zfr (Kd.R_types HO340.out BK351.out (by decide)))) (fun _ h_ => h_.1))) (Kd.R_base ho0) hb); replace HO347 := zm (Kd.R_elder' (zrs <| (Kd.R_mono (zfr (zfr (Kd.R_types HO347.out BK351.out (by decide)))) (fun _ h_ => h_.1))) (Kd.R_base ho0) hb); have HO357 := zm (Kd.R_lower (Kd.R_new' (Kd.R_new' (Kd.R_new' ho1 (Kd.R_lt (zrs <| (Kd.R_mono (zfr (zfr (Kd.R_types HO337.out BK351.out (by decide)))) (fun _ h_ => h_.1))))) (Kd.R_lt (zrs <| (Kd.R_mono (zfr (zfr (Kd.R_types HO343.out BK351.out (by decide)))) (fun _ h_ => h_.1))))) (Kd.R_lt (zrs <| (Kd.R_mono (zfr (zfr (Kd.R_types HO350.out BK351.out (by decide)))) (fun _ h_ => h_.1))))) (below_size zB)); replace HO337 := zm (Kd.R_elder' (zrs <| (Kd.R_mono (zfr (zfr (Kd.R_types HO337.out BK351.out (by decide)))) (fun _ h_ => h_.1))) (Kd.R_base ho1) hb); replace HO343 := zm (Kd.R_elder' (zrs <| (Kd.R_mono (zfr (zfr (Kd.R_types HO343.out BK351.out (by decide)))) (fun _ h_ => h_.1))) (Kd.R_base ho1) hb); replace HO350 := zm (Kd.R_elder' (zrs <| (Kd.R_mono (zfr (zfr (Kd.R_types HO350.out BK351.out (by decide)))) (fun _ h_ => h_.1))) (Kd.R_base ho1) hb); replace BK328 := zm (blk_below (g := gb328) (o := .cells #[.slice A0_0 l0_0.length c0_0, .slice A0_1 l0_1.length c0_1] 48 (0, 0)) (zfar (zfar (zb BK328) NB328_351) NB328_351) hb); replace BK329 := zm (blk_below (g := gb329) (o := .cells #[.slice A1_0 l1_0.length c1_0, .slice A1_1 l1_1.length c1_1] 48 (0, 0)) (zfar (zfar (zb BK329) NB329_351) NB329_351) hb); replace BK351 := zm (blk_below (g := gb351) (o := .cells #[.slice Ao172 t345.length co172, .slice Ao176 t348.length co176] 55 (0, 0)) (zput (zput (zb BK351) 0) 1) hb); replace HB := zm (below_step zB hb); clear hb ho0 ho1) | ((with_reducible refine gate_dst (N := 8) rfl ?_); refine zbox 8 #[.slice none 0 0, .slice none 0 0] 55 ?_; intro gb358 hg w179 hbox hb; replace HO334 := zm (Kd.R_below (zr HO334) hb); replace HO337 := zm (Kd.R_below (zr HO337) hb); replace HO340 := zm (Kd.R_below (zr HO340) hb); replace HO343 := zm (Kd.R_below (zr HO343) hb); replace HO347 := zm (Kd.R_below (zr HO347) hb); replace HO350 := zm (Kd.R_below (zr HO350) hb); replace HO354 := zm (Kd.R_below (zr HO354) hb); replace HO357 := zm (Kd.R_below (zr HO357) hb); have BK358 := zm (hbox); have GW358 := zge w hg zB; have GE358 := zge w hg zB; replace HB := zm (below_step zB hb); have NB328_358 := zlt hg (zb BK328); have NB358_328 := zgt hg (zb BK328); replace BK328 := zm (blk_below (zb BK328) hb); have NB329_358 := zlt hg (zb BK329); have NB358_329 := zgt hg (zb BK329); replace BK329 := zm (blk_below (zb BK329) hb); have NB351_358 := zlt hg (zb BK351); have NB358_351 := zgt hg (zb BK351); replace BK351 := zm (blk_below (zb BK351) hb); clear hb hbox hg; obtain ⟨Ao180, co180, eo180⟩ := Kd.R_slice HO354.out; subst eo180; have hnb181 := NB358_328.out; have hnc181 := NB328_358.out; have hnb182 := NB358_329.out; have hnc182 := NB329_358.out; have hnb183 := NB358_351.out; have hnc183 := NB351_358.out; have hcz184_0 : w179.cell? ⟨gb358, 0, none⟩ = some (.slice none 0 0) := (blk_cell BK358.out 0).trans rfl; have hcz184_1 : w179.cell? ⟨gb358, 1, none⟩ = some (.slice none 0 0) := (blk_cell BK358.out 1).trans rfl; have hfz184_0 := blk_frozen BK358.out 0; have hfz184_1 := blk_frozen BK358.out 1; obtain ⟨Ao185, co185, eo185⟩ := Kd.R_slice HO357.out; subst eo185; have hcz186_0 : w179.cell? ⟨gb351, 0, none⟩ = some (.slice Ao172 t345.length co172) := (blk_cell BK351.out 0).trans rfl; have hcz186_1 : w179.cell? ⟨gb351, 1, none⟩ = some (.slice Ao176 t348.length co176) := (blk_cell BK351.out 1).trans rfl; have hfz186_0 := blk_frozen BK351.out 0; have hfz186_1 := blk_frozen BK351.out 1) | ((with_reducible refine gate_callee (f := 43) rfl ?_); refine zg (some 31) #[.agg #[.slice Ao172 t345.length co172, .slice Ao176 t348.length co176], .agg #[.slice Ao180 t352.length co180, .slice Ao185 t355.length co185]] Try.func43 ?_; (with_reducible refine (impl_StateSame.calls k _ _ t345 _ _ t348 _ _ t352 _ _ t355 t359 _ ?side1 ?side2 ?side3 ?side4 ?side5 ?side6 ?side7 ?side8 A24.out).mono ?_); (case side1 => refine (Kd.R_reads' (e := 84) (base := w.heap.size) (ok := fun k_ => (((True ∧ some k_ ≠ (.slice Ao164 t332.length co164 : Value).ownBlock) ∧ some k_ ≠ (.slice Ao166 t338.length co166 : Value).ownBlock) ∧ some k_ ≠ (.slice Ao180 t352.length co180 : Value).ownBlock)) (n := t345.length) (c := co172) ?_).2.2; exact (zrs <| (Kd.R_mono (zfr (zfr (Kd.R_types HO347.out BK358.out (by decide)))) (fun _ h_ => h_.1)))); (case side2 => exact (Kd.R_reads' HO347.out).2.1); (case side3 => refine (Kd.R_reads' (e := 89) (base := w.heap.size) (ok := fun k_ => (((True ∧ some k_ ≠ (.slice Ao165 t335.length co165 : Value).ownBlock) ∧ some k_ ≠ (.slice Ao167 t341.length co167 : Value).ownBlock) ∧ some k_ ≠ (.slice Ao185 t355.length co185 : Value).ownBlock)) (n := t348.length) (c := co176) ?_).2.2; exact (zrs <| (Kd.R_mono (zfr (zfr (Kd.R_types HO350.out BK358.out (by decide)))) (fun _ h_ => h_.1)))); (case side4 => exact (Kd.R_reads' HO350.out).2.1); (case side5 => refine (Kd.R_reads' (e := 84) (base := w.heap.size) (ok := fun k_ => (((True ∧ some k_ ≠ (.slice Ao164 t332.length co164 : Value).ownBlock) ∧ some k_ ≠ (.slice Ao166 t338.length co166 : Value).ownBlock) ∧ some k_ ≠ (.slice Ao172 t345.length co172 : Value).ownBlock)) (n := t352.length) (c := co180) ?_).2.2; exact (zrs <| (Kd.R_mono (zfr (zfr (Kd.R_types HO354.out BK358.out (by decide)))) (fun _ h_ => h_.1)))); (case side6 => exact (Kd.R_reads' HO354.out).2.1); (case side7 => refine (Kd.R_reads' (e := 89) (base := w.heap.size) (ok := fun k_ => (((True ∧ some k_ ≠ (.slice Ao165 t335.length co165 : Value).ownBlock) ∧ some k_ ≠ (.slice Ao167 t341.length co167 : Value).ownBlock) ∧ some k_ ≠ (.slice Ao176 t348.length co176 : Value).ownBlock)) (n := t355.length) (c := co185) ?_).2.2; exact (zrs <| (Kd.R_mono (zfr (zfr (Kd.R_types HO357.out BK358.out (by decide)))) (fun _ h_ => h_.1)))); (case side8 => exact (Kd.R_reads' HO357.out).2.1); rintro e w187 ⟨rfl, hb⟩; refine ⟨_, rfl, ?_⟩; replace HO334 := zm (Kd.R_below (zrs <| (Kd.R_mono (zfr (zfr (Kd.R_types HO334.out BK358.out (by decide)))) (fun _ h_ => h_.1))) hb); replace HO337 := zm (Kd.R_below (zrs <| (Kd.R_mono (zfr (zfr (Kd.R_types HO337.out BK358.out (by decide)))) (fun _ h_ => h_.1))) hb); replace HO340 := zm (Kd.R_below (zrs <| (Kd.R_mono (zfr (zfr (Kd.R_types HO340.out BK358.out (by decide)))) (fun _ h_ => h_.1))) hb); replace HO343 := zm (Kd.R_below (zrs <| (Kd.R_mono (zfr (zfr (Kd.R_types HO343.out BK358.out (by decide)))) (fun _ h_ => h_.1))) hb); replace HO347 := zm (Kd.R_below (zrs <| (Kd.R_mono (zfr (zfr (Kd.R_types HO347.out BK358.out (by decide)))) (fun _ h_ => h_.1))) hb); replace HO350 := zm (Kd.R_below (zrs <| (Kd.R_mono (zfr (zfr (Kd.R_types HO350.out BK358.out (by decide)))) (fun _ h_ => h_.1))) hb); replace HO354 := zm (Kd.R_below (zrs <| (Kd.R_mono (zfr (zfr (Kd.R_types HO354.out BK358.out (by decide)))) (fun _ h_ => h_.1))) hb); replace HO357 := zm (Kd.R_below (zrs <| (Kd.R_mono (zfr (zfr (Kd.R_types HO357.out BK358.out (by decide)))) (fun _ h_ => h_.1))) hb); replace BK328 := zm (blk_below (g := gb328) (o := .cells #[.slice A0_0 l0_0.length c0_0, .slice A0_1 l0_1.length c0_1] 48 (0, 0)) (zfar (zfar (zb BK328) NB328_358) NB328_358) hb); replace BK329 := zm (blk_below (g := gb329) (o := .cells #[.slice A1_0 l1_0.length c1_0, .slice A1_1 l1_1.length c1_1] 48 (0, 0)) (zfar (zfar (zb BK329) NB329_358) NB329_358) hb); replace BK351 := zm (blk_below (g := gb351) (o := .cells #[.slice Ao172 t345.length co172, .slice Ao176 t348.length co176] 55 (0, 0)) (zfar (zfar (zb BK351) NB351_358) NB351_358) hb); replace BK358 := zm (blk_below (g := gb358) (o := .cells #[.slice Ao180 t352.length co180, .slice Ao185 t355.length co185] 55 (0, 0)) (zput (zput (zb BK358) 0) 1) hb); replace HB := zm (below_step zB hb); clear hb))
     replace HO334 := zm (Kd.R_drew HO334.out)
     replace HO337 := zm (Kd.R_drew HO337.out)
     replace HO340 := zm (Kd.R_drew HO340.out)
     replace HO343 := zm (Kd.R_drew HO343.out)
     replace HO347 := zm (Kd.R_drew HO347.out)
     replace HO350 := zm (Kd.R_drew HO350.out)
     replace HO354 := zm (Kd.R_drew HO354.out)
     replace HO357 := zm (Kd.R_drew HO357.out)
     replace BK328 := zm (blk_drew BK328.out)
     replace BK329 := zm (blk_drew BK329.out)
     replace BK351 := zm (blk_drew BK351.out)
     replace BK358 := zm (blk_drew BK358.out)
     replace HB := zm (below_drew1 HB.out)
     refine start_ (n := 5) (S := fun w' => w'.cell? ⟨gb351, 0, none⟩ = some (.slice Ao172 t345.length co172) ∧ w'.cell? ⟨gb351, 1, none⟩ = some (.slice Ao176 t348.length co176) ∧ w'.cell? ⟨gb328, 0, none⟩ = some (.slice A0_0 l0_0.length c0_0) ∧ w'.cell? ⟨gb328, 1, none⟩ = some (.slice A0_1 l0_1.length c0_1)) (ds := []) (zl 5 0) (by kernel_rfl) rfl rfl ⟨(blk_cell BK351.out 0).trans rfl, (blk_cell BK351.out 1).trans rfl, (blk_cell BK328.out 0).trans rfl, (blk_cell BK328.out 1).trans rfl⟩ (fun hHeld => ?_)
     generalize w187.drew = w188 at HO334 HO337 HO340 HO343 HO347 HO350 HO354 HO357 BK328 BK329 BK351 BK358 HB hHeld ⊢
     refine zt 0 (some 35) (zl 5 1) ?_
     refine zt 1 (some 36) (zl 5 3) ?_
     refine zo 2 (some 37) (zl 5 7) (fun K hK => ?_)
     refine zgo #[.agg #[.slice A0_0 l0_0.length c0_0, .slice A0_1 l0_1.length c0_1]] Try.func37 ?_
     with_reducible refine (laws_toState.calls k _ _ l0_0 _ _ l0_1 t360 t363 _ (zk (Kd.C_below HR0_0.out HB.out)) HC0_0.out (zk (Kd.C_below HR0_1.out HB.out)) HC0_1.out A60.out).mono ?_
     rintro e w189 ⟨v361, v364, rfl, ho0, ho1, hb⟩
     refine ⟨_, rfl, ?_⟩
     have HO362 := zm (Kd.R_lower (Kd.R_new' (Kd.R_new' (Kd.R_new' (Kd.R_new' ho0 (Kd.R_lt (zr HO334))) (Kd.R_lt (zr HO340))) (Kd.R_lt (zr HO347))) (Kd.R_lt (zr HO354))) (below_size zB))
     replace HO334 := zm (Kd.R_elder' (zr HO334) (Kd.R_base ho0) hb)
     replace HO340 := zm (Kd.R_elder' (zr HO340) (Kd.R_base ho0) hb)
     replace HO347 := zm (Kd.R_elder' (zr HO347) (Kd.R_base ho0) hb)
     replace HO354 := zm (Kd.R_elder' (zr HO354) (Kd.R_base ho0) hb)
     have HO365 := zm (Kd.R_lower (Kd.R_new' (Kd.R_new' (Kd.R_new' (Kd.R_new' ho1 (Kd.R_lt (zr HO337))) (Kd.R_lt (zr HO343))) (Kd.R_lt (zr HO350))) (Kd.R_lt (zr HO357))) (below_size zB))
     replace HO337 := zm (Kd.R_elder' (zr HO337) (Kd.R_base ho1) hb)
     replace HO343 := zm (Kd.R_elder' (zr HO343) (Kd.R_base ho1) hb)
     replace HO350 := zm (Kd.R_elder' (zr HO350) (Kd.R_base ho1) hb)
     replace HO357 := zm (Kd.R_elder' (zr HO357) (Kd.R_base ho1) hb)
     replace BK328 := zm (blk_below (zb BK328) hb)
     replace BK329 := zm (blk_below (zb BK329) hb)
     replace BK351 := zm (blk_below (zb BK351) hb)
     replace BK358 := zm (blk_below (zb BK358) hb)
     replace HB := zm (below_step zB hb)
     (try clear hb)
     (try clear hb2)
     (try clear hk)
     (try clear hi)
     (try clear ho0)
     (try clear ho1)
     obtain ⟨Ao190, co190, eo190⟩ := Kd.R_slice HO362.out
     (first | subst eo190 | (injection eo190 with f1_ f2_ f3_; have f4_ := f1_.symm; have f5_ := f3_.symm; clear f1_ f2_ f3_; subst f4_; subst f5_))
     obtain ⟨Ao191, co191, eo191⟩ := Kd.R_slice HO365.out
     (first | subst eo191 | (injection eo191 with f1_ f2_ f3_; have f4_ := f1_.symm; have f5_ := f3_.symm; clear f1_ f2_ f3_; subst f4_; subst f5_))
     refine hK.out _ _ ⟨(blk_cell BK351.out 0).trans rfl, (blk_cell BK351.out 1).trans rfl, (blk_cell BK328.out 0).trans rfl, (blk_cell BK328.out 1).trans rfl⟩ (fun hHeld => ?_)
     clear hK K
     refine zn ?_
     refine zo 3 (some 38) (zl 5 15) (fun K hK => ?_)
     refine zgo #[.agg #[.slice Ao172 t345.length co172, .slice Ao176 t348.length co176], .agg #[.slice Ao190 t360.length co190, .slice Ao191 t363.length co191]] Try.func39 ?_
     with_reducible refine (laws_eqState.calls k _ _ t345 _ _ t348 _ _ t360 _ _ t363 false _ ?side1 ?side2 ?side3 ?side4 ?side5 ?side6 ?side7 ?side8 A61.out).mono ?_
     (case side1 => repeat (first | exact (Kd.R_reads' HO347.out).2.2 | (with_reducible refine Kd.C_alloc ?_ _) | (with_reducible refine Kd.C_drewN ?_ _) | (with_reducible refine Kd.C_drew ?_)))
     (case side2 => exact (Kd.R_reads' HO347.out).2.1)
     (case side3 => repeat (first | exact (Kd.R_reads' HO350.out).2.2 | (with_reducible refine Kd.C_alloc ?_ _) | (with_reducible refine Kd.C_drewN ?_ _) | (with_reducible refine Kd.C_drew ?_)))
     (case side4 => exact (Kd.R_reads' HO350.out).2.1)
     (case side5 => repeat (first | exact (Kd.R_reads' HO362.out).2.2 | (with_reducible refine Kd.C_alloc ?_ _) | (with_reducible refine Kd.C_drewN ?_ _) | (with_reducible refine Kd.C_drew ?_)))
     (case side6 => exact (Kd.R_reads' HO362.out).2.1)
     (case side7 => repeat (first | exact (Kd.R_reads' HO365.out).2.2 | (with_reducible refine Kd.C_alloc ?_ _) | (with_reducible refine Kd.C_drewN ?_ _) | (with_reducible refine Kd.C_drew ?_)))
     (case side8 => exact (Kd.R_reads' HO365.out).2.1)
     rintro e w192 ⟨rfl, hb⟩
     refine ⟨_, rfl, ?_⟩
     replace HO334 := zm (Kd.R_below (zr HO334) hb)
     replace HO337 := zm (Kd.R_below (zr HO337) hb)
     replace HO340 := zm (Kd.R_below (zr HO340) hb)
     replace HO343 := zm (Kd.R_below (zr HO343) hb)
     replace HO347 := zm (Kd.R_below (zr HO347) hb)
     replace HO350 := zm (Kd.R_below (zr HO350) hb)
     replace HO354 := zm (Kd.R_below (zr HO354) hb)
     replace HO357 := zm (Kd.R_below (zr HO357) hb)
     replace HO362 := zm (Kd.R_below (zr HO362) hb)
     replace HO365 := zm (Kd.R_below (zr HO365) hb)
     replace BK328 := zm (blk_below (zb BK328) hb)
     replace BK329 := zm (blk_below (zb BK329) hb)
     replace BK351 := zm (blk_below (zb BK351) hb)
     replace BK358 := zm (blk_below (zb BK358) hb)
     replace HB := zm (below_step zB hb)
     (try clear hb)
     (try clear hb2)
     (try clear hk)
     (try clear hi)
     refine hK.out _ _ ⟨(blk_cell BK351.out 0).trans rfl, (blk_cell BK351.out 1).trans rfl, (blk_cell BK328.out 0).trans rfl, (blk_cell BK328.out 1).trans rfl⟩ (fun hHeld => ?_)
     clear hK K
     refine zn ?_
     refine zp 4 (some 39) (zl 5 31) ?_
     refine done_ (by kernel_rfl) ?_
     try go_wp2
     go_ret
     exact ⟨zE, zB⟩

def laws_FnExactStateSame.Pure : Prop := ∀ (l0_0 : List (S105)) (l0_1 : List (S108)) (l1_0 : List (S105)) (l1_1 : List (S108)), l0_0.length ≤ maxLen → l0_0.length * 56 ≤ 140737488351232 → (∀ x ∈ l0_0, ((Lit.int .i64 x.f0).wf = true ∧ ((Lit.int .i64 x.f1.f0).wf = true ∧ ((Lit.int .i64 x.f1.f1).wf = true ∧ ((Lit.int .i64 x.f1.f2).wf = true ∧ ((Lit.int .i64 x.f1.f3).wf = true ∧ x.f1.f4.size ≤ 140737488351232)))))) → l0_1.length ≤ maxLen → l0_1.length * 16 ≤ 140737488351232 → (∀ x ∈ l0_1, ((Lit.int .i64 x.f0).wf = true ∧ (Lit.int .i64 x.f1).wf = true)) → l1_0.length ≤ maxLen → l1_0.length * 56 ≤ 140737488351232 → (∀ x ∈ l1_0, ((Lit.int .i64 x.f0).wf = true ∧ ((Lit.int .i64 x.f1.f0).wf = true ∧ ((Lit.int .i64 x.f1.f1).wf = true ∧ ((Lit.int .i64 x.f1.f2).wf = true ∧ ((Lit.int .i64 x.f1.f3).wf = true ∧ x.f1.f4.size ≤ 140737488351232)))))) → l1_1.length ≤ maxLen → l1_1.length * 16 ≤ 140737488351232 → (∀ x ∈ l1_1, ((Lit.int .i64 x.f0).wf = true ∧ (Lit.int .i64 x.f1).wf = true)) → ∃ k, laws_FnExactStateSame.f k l0_0 l0_1 l1_0 l1_1 = some true

end Go.Proofs.Ythljdiniccpobaa.P
