-- by a program of this session, for this seat
import Derived.Test.YthljdiniccpobaaZ
import Derived.Test.YthljdiniccpobaaP0
import Derived.Test.YthljdiniccpobaaPab
import Derived.Test.YthljdiniccpobaaPac
import Derived.Test.YthljdiniccpobaaPad
import Derived.Test.YthljdiniccpobaaPao
import Derived.Test.YthljdiniccpobaaPaq
namespace Go.Proofs.Ythljdiniccpobaa.P
open Go.RowKit Go.Proofs.YthljdiniccpobaaW.PrintWords Go.Proofs.YthljdiniccpobaaW.PrintLast Go.Proofs.YthljdiniccpobaaW.PrintMore Go.Proofs.Ythljdiniccpobaa.Z
attribute [local go_sem] max2_int min2_int max_two min_two max_three min_three max_four min_four   -- for this text's walks alone
set_option linter.unusedVariables false
set_option linter.unusedSimpArgs false

/-! ### laws_FnExactStateLeq: function 14 -/
def laws_FnExactStateLeq.f (k : Nat) (l0_0 : List (S105)) (l0_1 : List (S108)) (l1_0 : List (S105)) (l1_1 : List (S108)) : Option (Bool) := (laws_szState.f k l0_0 l0_1 1048576).bind fun t800 => (if t800 < 0 then (some true) else ((laws_szState.f k l1_0 l1_1 t800).bind fun t801 => (if t801 < 0 then (some true) else ((laws_toState.f k l0_0 l0_1).bind fun bt802 => ((laws_toState.f k l1_0 l1_1).bind fun bt808 => ((spec_StateLeq.f k bt802.1 bt802.2 bt808.1 bt808.2).bind fun t814 => ((laws_toState.f k l0_0 l0_1).bind fun bt815 => ((laws_toState.f k l1_0 l1_1).bind fun bt822 => ((impl_StateLeq.f k bt815.1 bt815.2 bt822.1 bt822.2).bind fun t829 => (if (t829 != t814) = true then (some false) else ((laws_toState.f k l0_0 l0_1).bind fun bt830 => ((laws_eqState.f k bt815.1 bt815.2 bt830.1 bt830.2).bind fun t836 => (if t836 = true then ((laws_toState.f k l1_0 l1_1).bind fun bt837 => ((laws_eqState.f k bt822.1 bt822.2 bt837.1 bt837.2).bind fun t843 => (if t843 = true then (some true) else (some false)))) else (some false))))))))))))))
theorem laws_FnExactStateLeq.mono : ∀ a0 a1 a2 a3 k, LeO (laws_FnExactStateLeq.f k a0 a1 a2 a3) (laws_FnExactStateLeq.f (k + 1) a0 a1 a2 a3) := by
 intro a0 a1 a2 a3 k
 unfold laws_FnExactStateLeq.f
 repeat' first
   | (with_reducible exact impl_StateLeq.mono _ _ _ _ _)
   | (with_reducible exact laws_eqState.mono _ _ _ _ _)
   | (with_reducible exact laws_szState.mono _ _ _ _)
   | (with_reducible exact laws_toState.mono _ _ _)
   | (with_reducible exact spec_StateLeq.mono _ _ _ _ _)
   | (with_reducible exact LeO.refl _)
   | (with_reducible exact LeO.none _)
   | (with_reducible refine LeO.ite ?_ ?_)
   | (with_reducible refine LeO.bind ?_ (fun _ => ?_))
   | exact impl_StateLeq.mono _ _ _ _ _
   | exact laws_eqState.mono _ _ _ _ _
   | exact laws_szState.mono _ _ _ _
   | exact laws_toState.mono _ _ _
   | exact spec_StateLeq.mono _ _ _ _ _
   | exact LeO.none _
   | refine LeO.ite ?_ ?_
   | refine LeO.bind ?_ (fun _ => ?_)
set_option maxHeartbeats 8000000 in
set_option maxRecDepth 100000 in
theorem laws_FnExactStateLeq.calls (k : Nat) (A0_0 : Option Addr) (c0_0 : Nat) (l0_0 : List (S105)) (A0_1 : Option Addr) (c0_1 : Nat) (l0_1 : List (S108)) (A1_0 : Option Addr) (c1_0 : Nat) (l1_0 : List (S105)) (A1_1 : Option Addr) (c1_1 : Nat) (l1_1 : List (S108)) (r : Bool) (w : World) (hr0_0 : Kd.C k105 w A0_0 l0_0.length l0_0) (hc0_0 : l0_0.length ≤ c0_0) (hr0_1 : Kd.C k108 w A0_1 l0_1.length l0_1) (hc0_1 : l0_1.length ≤ c0_1) (hr1_0 : Kd.C k105 w A1_0 l1_0.length l1_0) (hc1_0 : l1_0.length ≤ c1_0) (hr1_1 : Kd.C k108 w A1_1 l1_1.length l1_1) (hc1_1 : l1_1.length ≤ c1_1) (h : laws_FnExactStateLeq.f k l0_0 l0_1 l1_0 l1_1 = some r) :
  Calls Try.prog 14 #[.agg #[.slice A0_0 l0_0.length c0_0, .slice A0_1 l0_1.length c0_1], .agg #[.slice A1_0 l1_0.length c1_0, .slice A1_1 l1_1.length c1_1]] w fun e w' => e = .returned (.bool r) ∧ Below w.heap.size w w' := by
 have hu48 := Try.underlying48
 have hu55 := Try.underlying55
 have HR0_0 := zm hr0_0
 have HC0_0 := zm hc0_0
 clear hr0_0 hc0_0
 have HR0_1 := zm hr0_1
 have HC0_1 := zm hc0_1
 clear hr0_1 hc0_1
 have HR1_0 := zm hr1_0
 have HC1_0 := zm hc1_0
 clear hr1_0 hc1_0
 have HR1_1 := zm hr1_1
 have HC1_1 := zm hc1_1
 clear hr1_1 hc1_1
 have HB := zm (Below.refl w.heap.size w)
 have H : ((laws_szState.f k l0_0 l0_1 1048576).bind fun t800 => (if t800 < 0 then (some true) else ((laws_szState.f k l1_0 l1_1 t800).bind fun t801 => (if t801 < 0 then (some true) else ((laws_toState.f k l0_0 l0_1).bind fun bt802 => ((laws_toState.f k l1_0 l1_1).bind fun bt808 => ((spec_StateLeq.f k bt802.1 bt802.2 bt808.1 bt808.2).bind fun t814 => ((laws_toState.f k l0_0 l0_1).bind fun bt815 => ((laws_toState.f k l1_0 l1_1).bind fun bt822 => ((impl_StateLeq.f k bt815.1 bt815.2 bt822.1 bt822.2).bind fun t829 => (if (t829 != t814) = true then (some false) else ((laws_toState.f k l0_0 l0_1).bind fun bt830 => ((laws_eqState.f k bt815.1 bt815.2 bt830.1 bt830.2).bind fun t836 => (if t836 = true then ((laws_toState.f k l1_0 l1_1).bind fun bt837 => ((laws_eqState.f k bt822.1 bt822.2 bt837.1 bt837.2).bind fun t843 => (if t843 = true then (some true) else (some false)))) else (some false))))))))))))))) = some r := h
 clear h
 replace H := Option.bind_eq_some_iff.mp H
 obtain ⟨t800, A30, H⟩ := H
 replace H : (if t800 < 0 then (some true) else ((laws_szState.f k l1_0 l1_1 t800).bind fun t801 => (if t801 < 0 then (some true) else ((laws_toState.f k l0_0 l0_1).bind fun bt802 => ((laws_toState.f k l1_0 l1_1).bind fun bt808 => ((spec_StateLeq.f k bt802.1 bt802.2 bt808.1 bt808.2).bind fun t814 => ((laws_toState.f k l0_0 l0_1).bind fun bt815 => ((laws_toState.f k l1_0 l1_1).bind fun bt822 => ((impl_StateLeq.f k bt815.1 bt815.2 bt822.1 bt822.2).bind fun t829 => (if (t829 != t814) = true then (some false) else ((laws_toState.f k l0_0 l0_1).bind fun bt830 => ((laws_eqState.f k bt815.1 bt815.2 bt830.1 bt830.2).bind fun t836 => (if t836 = true then ((laws_toState.f k l1_0 l1_1).bind fun bt837 => ((laws_eqState.f k bt822.1 bt822.2 bt837.1 bt837.2).bind fun t843 => (if t843 = true then (some true) else (some false)))) else (some false)))))))))))))) = some r := H
 have A3 := zm A30
 clear A30
 by_cases c4 : t800 < 0
 ·rw [if_pos c4] at H
  have c4b0 : decide (t800 < 0) = true := decide_eq_true c4
  clear c4
  obtain rfl := Option.some.inj H
  go_enter Try.func14, Try.ntmps14
  go_wp2_with (first | ((with_reducible refine gate_dst (N := 2) rfl ?_); refine zbox 2 #[.slice A0_0 l0_0.length c0_0, .slice A0_1 l0_1.length c0_1] 48 ?_; intro gb798 hg w5 hbox hb; have BK798 := zm (hbox); have GW798 := zge w hg zB; have GE798 := zge w hg zB; replace HB := zm (below_step zB hb); clear hb hbox hg) | ((with_reducible refine gate_dst (N := 3) rfl ?_); refine zbox 3 #[.slice A1_0 l1_0.length c1_0, .slice A1_1 l1_1.length c1_1] 48 ?_; intro gb799 hg w6 hbox hb; have BK799 := zm (hbox); have GW799 := zge w hg zB; have GE799 := zge w hg zB; replace HB := zm (below_step zB hb); have NB798_799 := zlt hg (zb BK798); have NB799_798 := zgt hg (zb BK798); replace BK798 := zm (blk_below (zb BK798) hb); clear hb hbox hg; have hnb7 := NB798_799.out; have hnc7 := NB799_798.out; have hcz8_0 : w6.cell? ⟨gb798, 0, none⟩ = some (.slice A0_0 l0_0.length c0_0) := (blk_cell BK798.out 0).trans rfl; have hcz8_1 : w6.cell? ⟨gb798, 1, none⟩ = some (.slice A0_1 l0_1.length c0_1) := (blk_cell BK798.out 1).trans rfl; have hfz8_0 := blk_frozen BK798.out 0; have hfz8_1 := blk_frozen BK798.out 1) | ((with_reducible refine gate_callee (f := 35) rfl ?_); refine zg (some 12) #[.agg #[.slice A0_0 l0_0.length c0_0, .slice A0_1 l0_1.length c0_1], .int .i64 1048576] Try.func35 ?_; (with_reducible refine (laws_szState.calls k _ _ l0_0 _ _ l0_1 1048576 t800 _ (zk (Kd.C_below HR0_0.out HB.out)) HC0_0.out (zk (Kd.C_below HR0_1.out HB.out)) HC0_1.out A3.out).mono ?_); rintro e w9 ⟨rfl, hb⟩; refine ⟨_, rfl, ?_⟩; replace BK798 := zm (blk_below (zb BK798) hb); replace BK799 := zm (blk_below (zb BK799) hb); replace HB := zm (below_step zB hb); clear hb))
  go_ret
  exact ⟨zE, zB⟩
 ·rw [if_neg c4] at H
  have c4b0 : decide (t800 < 0) = false := decide_eq_false c4
  clear c4
  replace H := Option.bind_eq_some_iff.mp H
  obtain ⟨t801, A100, H⟩ := H
  replace H : (if t801 < 0 then (some true) else ((laws_toState.f k l0_0 l0_1).bind fun bt802 => ((laws_toState.f k l1_0 l1_1).bind fun bt808 => ((spec_StateLeq.f k bt802.1 bt802.2 bt808.1 bt808.2).bind fun t814 => ((laws_toState.f k l0_0 l0_1).bind fun bt815 => ((laws_toState.f k l1_0 l1_1).bind fun bt822 => ((impl_StateLeq.f k bt815.1 bt815.2 bt822.1 bt822.2).bind fun t829 => (if (t829 != t814) = true then (some false) else ((laws_toState.f k l0_0 l0_1).bind fun bt830 => ((laws_eqState.f k bt815.1 bt815.2 bt830.1 bt830.2).bind fun t836 => (if t836 = true then ((laws_toState.f k l1_0 l1_1).bind fun bt837 => ((laws_eqState.f k bt822.1 bt822.2 bt837.1 bt837.2).bind fun t843 => (if t843 = true then (some true) else (some false)))) else (some false)))))))))))) = some r := H
  have A10 := zm A100
  clear A100
  by_cases c11 : t801 < 0
  ·rw [if_pos c11] at H
   have c11b0 : decide (t801 < 0) = true := decide_eq_true c11
   clear c11
   obtain rfl := Option.some.inj H
   go_enter Try.func14, Try.ntmps14
   go_wp2_with (first | ((with_reducible refine gate_dst (N := 2) rfl ?_); refine zbox 2 #[.slice A0_0 l0_0.length c0_0, .slice A0_1 l0_1.length c0_1] 48 ?_; intro gb798 hg w12 hbox hb; have BK798 := zm (hbox); have GW798 := zge w hg zB; have GE798 := zge w hg zB; replace HB := zm (below_step zB hb); clear hb hbox hg) | ((with_reducible refine gate_dst (N := 3) rfl ?_); refine zbox 3 #[.slice A1_0 l1_0.length c1_0, .slice A1_1 l1_1.length c1_1] 48 ?_; intro gb799 hg w13 hbox hb; have BK799 := zm (hbox); have GW799 := zge w hg zB; have GE799 := zge w hg zB; replace HB := zm (below_step zB hb); have NB798_799 := zlt hg (zb BK798); have NB799_798 := zgt hg (zb BK798); replace BK798 := zm (blk_below (zb BK798) hb); clear hb hbox hg; have hnb14 := NB798_799.out; have hnc14 := NB799_798.out; have hcz15_0 : w13.cell? ⟨gb798, 0, none⟩ = some (.slice A0_0 l0_0.length c0_0) := (blk_cell BK798.out 0).trans rfl; have hcz15_1 : w13.cell? ⟨gb798, 1, none⟩ = some (.slice A0_1 l0_1.length c0_1) := (blk_cell BK798.out 1).trans rfl; have hfz15_0 := blk_frozen BK798.out 0; have hfz15_1 := blk_frozen BK798.out 1) | ((with_reducible refine gate_callee (f := 35) rfl ?_); refine zg (some 12) #[.agg #[.slice A0_0 l0_0.length c0_0, .slice A0_1 l0_1.length c0_1], .int .i64 1048576] Try.func35 ?_; (with_reducible refine (laws_szState.calls k _ _ l0_0 _ _ l0_1 1048576 t800 _ (zk (Kd.C_below HR0_0.out HB.out)) HC0_0.out (zk (Kd.C_below HR0_1.out HB.out)) HC0_1.out A3.out).mono ?_); rintro e w16 ⟨rfl, hb⟩; refine ⟨_, rfl, ?_⟩; replace BK798 := zm (blk_below (zb BK798) hb); replace BK799 := zm (blk_below (zb BK799) hb); replace HB := zm (below_step zB hb); clear hb; have hcz17_0 : w16.cell? ⟨gb799, 0, none⟩ = some (.slice A1_0 l1_0.length c1_0) := (blk_cell BK799.out 0).trans rfl; have hcz17_1 : w16.cell? ⟨gb799, 1, none⟩ = some (.slice A1_1 l1_1.length c1_1) := (blk_cell BK799.out 1).trans rfl; have hfz17_0 := blk_frozen BK799.out 0; have hfz17_1 := blk_frozen BK799.out 1) | ((with_reducible refine gate_callee (f := 35) rfl ?_); refine zg (some 17) #[.agg #[.slice A1_0 l1_0.length c1_0, .slice A1_1 l1_1.length c1_1], .int .i64 t800] Try.func35 ?_; (with_reducible refine (laws_szState.calls k _ _ l1_0 _ _ l1_1 t800 t801 _ (zk (Kd.C_below HR1_0.out HB.out)) HC1_0.out (zk (Kd.C_below HR1_1.out HB.out)) HC1_1.out A10.out).mono ?_); rintro e w18 ⟨rfl, hb⟩; refine ⟨_, rfl, ?_⟩; replace BK798 := zm (blk_below (zb BK798) hb); replace BK799 := zm (blk_below (zb BK799) hb); replace HB := zm (below_step zB hb); clear hb))
   go_ret
   exact ⟨zE, zB⟩
  ·rw [if_neg c11] at H
   have c11b0 : decide (t801 < 0) = false := decide_eq_false c11
   clear c11
   replace H := Option.bind_eq_some_iff.mp H
   obtain ⟨⟨t802, t805⟩, A190, H⟩ := H
   replace H : ((laws_toState.f k l1_0 l1_1).bind fun bt808 => ((spec_StateLeq.f k t802 t805 bt808.1 bt808.2).bind fun t814 => ((laws_toState.f k l0_0 l0_1).bind fun bt815 => ((laws_toState.f k l1_0 l1_1).bind fun bt822 => ((impl_StateLeq.f k bt815.1 bt815.2 bt822.1 bt822.2).bind fun t829 => (if (t829 != t814) = true then (some false) else ((laws_toState.f k l0_0 l0_1).bind fun bt830 => ((laws_eqState.f k bt815.1 bt815.2 bt830.1 bt830.2).bind fun t836 => (if t836 = true then ((laws_toState.f k l1_0 l1_1).bind fun bt837 => ((laws_eqState.f k bt822.1 bt822.2 bt837.1 bt837.2).bind fun t843 => (if t843 = true then (some true) else (some false)))) else (some false)))))))))) = some r := H
   have A19 := zm A190
   clear A190
   replace H := Option.bind_eq_some_iff.mp H
   obtain ⟨⟨t808, t811⟩, A200, H⟩ := H
   replace H : ((spec_StateLeq.f k t802 t805 t808 t811).bind fun t814 => ((laws_toState.f k l0_0 l0_1).bind fun bt815 => ((laws_toState.f k l1_0 l1_1).bind fun bt822 => ((impl_StateLeq.f k bt815.1 bt815.2 bt822.1 bt822.2).bind fun t829 => (if (t829 != t814) = true then (some false) else ((laws_toState.f k l0_0 l0_1).bind fun bt830 => ((laws_eqState.f k bt815.1 bt815.2 bt830.1 bt830.2).bind fun t836 => (if t836 = true then ((laws_toState.f k l1_0 l1_1).bind fun bt837 => ((laws_eqState.f k bt822.1 bt822.2 bt837.1 bt837.2).bind fun t843 => (if t843 = true then (some true) else (some false)))) else (some false))))))))) = some r := H
   have A20 := zm A200
   clear A200
   replace H := Option.bind_eq_some_iff.mp H
   obtain ⟨t814, A210, H⟩ := H
   replace H : ((laws_toState.f k l0_0 l0_1).bind fun bt815 => ((laws_toState.f k l1_0 l1_1).bind fun bt822 => ((impl_StateLeq.f k bt815.1 bt815.2 bt822.1 bt822.2).bind fun t829 => (if (t829 != t814) = true then (some false) else ((laws_toState.f k l0_0 l0_1).bind fun bt830 => ((laws_eqState.f k bt815.1 bt815.2 bt830.1 bt830.2).bind fun t836 => (if t836 = true then ((laws_toState.f k l1_0 l1_1).bind fun bt837 => ((laws_eqState.f k bt822.1 bt822.2 bt837.1 bt837.2).bind fun t843 => (if t843 = true then (some true) else (some false)))) else (some false)))))))) = some r := H
   have A21 := zm A210
   clear A210
   replace H := Option.bind_eq_some_iff.mp H
   obtain ⟨⟨t815, t818⟩, A220, H⟩ := H
   replace H : ((laws_toState.f k l1_0 l1_1).bind fun bt822 => ((impl_StateLeq.f k t815 t818 bt822.1 bt822.2).bind fun t829 => (if (t829 != t814) = true then (some false) else ((laws_toState.f k l0_0 l0_1).bind fun bt830 => ((laws_eqState.f k t815 t818 bt830.1 bt830.2).bind fun t836 => (if t836 = true then ((laws_toState.f k l1_0 l1_1).bind fun bt837 => ((laws_eqState.f k bt822.1 bt822.2 bt837.1 bt837.2).bind fun t843 => (if t843 = true then (some true) else (some false)))) else (some false))))))) = some r := H
   have A22 := zm A220
   clear A220
   replace H := Option.bind_eq_some_iff.mp H
   obtain ⟨⟨t822, t825⟩, A230, H⟩ := H
   replace H : ((impl_StateLeq.f k t815 t818 t822 t825).bind fun t829 => (if (t829 != t814) = true then (some false) else ((laws_toState.f k l0_0 l0_1).bind fun bt830 => ((laws_eqState.f k t815 t818 bt830.1 bt830.2).bind fun t836 => (if t836 = true then ((laws_toState.f k l1_0 l1_1).bind fun bt837 => ((laws_eqState.f k t822 t825 bt837.1 bt837.2).bind fun t843 => (if t843 = true then (some true) else (some false)))) else (some false)))))) = some r := H
   have A23 := zm A230
   clear A230
   replace H := Option.bind_eq_some_iff.mp H
   obtain ⟨t829, A240, H⟩ := H
   replace H : (if (t829 != t814) = true then (some false) else ((laws_toState.f k l0_0 l0_1).bind fun bt830 => ((laws_eqState.f k t815 t818 bt830.1 bt830.2).bind fun t836 => (if t836 = true then ((laws_toState.f k l1_0 l1_1).bind fun bt837 => ((laws_eqState.f k t822 t825 bt837.1 bt837.2).bind fun t843 => (if t843 = true then (some true) else (some false)))) else (some false))))) = some r := H
   have A24 := zm A240
   clear A240
   by_cases c25 : (t829 != t814) = true
   ·rw [if_pos c25] at H
    have c25b0 : (t829 != t814) = true := c25
    (try (have c25b1 : decide (t829 = t814) = false := by simpa using c25))
    (try (have c25b2 : (t829 == t814) = false := by simpa using c25))
    (try (have c25b3 : ¬ (t829 = t814) := by simpa using c25))
    clear c25
    obtain rfl := Option.some.inj H
    go_enter Try.func14, Try.ntmps14
    try go_wp2_with (first | ((with_reducible refine gate_dst (N := 2) rfl ?_); refine zbox 2 #[.slice A0_0 l0_0.length c0_0, .slice A0_1 l0_1.length c0_1] 48 ?_; intro gb798 hg w26 hbox hb; have BK798 := zm (hbox); have GW798 := zge w hg zB; have GE798 := zge w hg zB; replace HB := zm (below_step zB hb); clear hb hbox hg) | ((with_reducible refine gate_dst (N := 3) rfl ?_); refine zbox 3 #[.slice A1_0 l1_0.length c1_0, .slice A1_1 l1_1.length c1_1] 48 ?_; intro gb799 hg w27 hbox hb; have BK799 := zm (hbox); have GW799 := zge w hg zB; have GE799 := zge w hg zB; replace HB := zm (below_step zB hb); have NB798_799 := zlt hg (zb BK798); have NB799_798 := zgt hg (zb BK798); replace BK798 := zm (blk_below (zb BK798) hb); clear hb hbox hg; have hnb28 := NB798_799.out; have hnc28 := NB799_798.out; have hcz29_0 : w27.cell? ⟨gb798, 0, none⟩ = some (.slice A0_0 l0_0.length c0_0) := (blk_cell BK798.out 0).trans rfl; have hcz29_1 : w27.cell? ⟨gb798, 1, none⟩ = some (.slice A0_1 l0_1.length c0_1) := (blk_cell BK798.out 1).trans rfl; have hfz29_0 := blk_frozen BK798.out 0; have hfz29_1 := blk_frozen BK798.out 1) | ((with_reducible refine gate_callee (f := 35) rfl ?_); refine zg (some 12) #[.agg #[.slice A0_0 l0_0.length c0_0, .slice A0_1 l0_1.length c0_1], .int .i64 1048576] Try.func35 ?_; (with_reducible refine (laws_szState.calls k _ _ l0_0 _ _ l0_1 1048576 t800 _ (zk (Kd.C_below HR0_0.out HB.out)) HC0_0.out (zk (Kd.C_below HR0_1.out HB.out)) HC0_1.out A3.out).mono ?_); rintro e w30 ⟨rfl, hb⟩; refine ⟨_, rfl, ?_⟩; replace BK798 := zm (blk_below (zb BK798) hb); replace BK799 := zm (blk_below (zb BK799) hb); replace HB := zm (below_step zB hb); clear hb; have hcz31_0 : w30.cell? ⟨gb799, 0, none⟩ = some (.slice A1_0 l1_0.length c1_0) := (blk_cell BK799.out 0).trans rfl; have hcz31_1 : w30.cell? ⟨gb799, 1, none⟩ = some (.slice A1_1 l1_1.length c1_1) := (blk_cell BK799.out 1).trans rfl; have hfz31_0 := blk_frozen BK799.out 0; have hfz31_1 := blk_frozen BK799.out 1) | ((with_reducible refine gate_callee (f := 35) rfl ?_); refine zg (some 17) #[.agg #[.slice A1_0 l1_0.length c1_0, .slice A1_1 l1_1.length c1_1], .int .i64 t800] Try.func35 ?_; (with_reducible refine (laws_szState.calls k _ _ l1_0 _ _ l1_1 t800 t801 _ (zk (Kd.C_below HR1_0.out HB.out)) HC1_0.out (zk (Kd.C_below HR1_1.out HB.out)) HC1_1.out A10.out).mono ?_); rintro e w32 ⟨rfl, hb⟩; refine ⟨_, rfl, ?_⟩; replace BK798 := zm (blk_below (zb BK798) hb); replace BK799 := zm (blk_below (zb BK799) hb); replace HB := zm (below_step zB hb); clear hb))
    replace BK798 := zm (blk_drew BK798.out)
    replace BK799 := zm (blk_drew BK799.out)
    replace HB := zm (below_drew1 HB.out)
    refine start_ (n := 6) (S := fun w' => w'.cell? ⟨gb798, 0, none⟩ = some (.slice A0_0 l0_0.length c0_0) ∧ w'.cell? ⟨gb798, 1, none⟩ = some (.slice A0_1 l0_1.length c0_1) ∧ w'.cell? ⟨gb799, 0, none⟩ = some (.slice A1_0 l1_0.length c1_0) ∧ w'.cell? ⟨gb799, 1, none⟩ = some (.slice A1_1 l1_1.length c1_1)) (ds := []) (zl 6 0) (by kernel_rfl) rfl rfl ⟨(blk_cell BK798.out 0).trans rfl, (blk_cell BK798.out 1).trans rfl, (blk_cell BK799.out 0).trans rfl, (blk_cell BK799.out 1).trans rfl⟩ (fun hHeld => ?_)
    generalize w32.drew = w33 at BK798 BK799 HB hHeld ⊢
    refine zt 0 (some 20) (zl 6 1) ?_
    refine zt 2 (some 22) (zl 6 5) ?_
    refine zo 1 (some 21) (zl 6 7) (fun K hK => ?_)
    refine zgo #[.agg #[.slice A0_0 l0_0.length c0_0, .slice A0_1 l0_1.length c0_1]] Try.func37 ?_
    with_reducible refine (laws_toState.calls k _ _ l0_0 _ _ l0_1 t802 t805 _ (zk (Kd.C_below HR0_0.out HB.out)) HC0_0.out (zk (Kd.C_below HR0_1.out HB.out)) HC0_1.out A19.out).mono ?_
    rintro e w34 ⟨v803, v806, rfl, ho0, ho1, hb⟩
    refine ⟨_, rfl, ?_⟩
    have HO804 := zm (Kd.R_lower ho0 (below_size zB))
    have HO807 := zm (Kd.R_lower ho1 (below_size zB))
    replace BK798 := zm (blk_below (zb BK798) hb)
    replace BK799 := zm (blk_below (zb BK799) hb)
    replace HB := zm (below_step zB hb)
    (try clear hb)
    (try clear hb2)
    (try clear hk)
    (try clear hi)
    (try clear ho0)
    (try clear ho1)
    refine hK.out _ _ ⟨(blk_cell BK798.out 0).trans rfl, (blk_cell BK798.out 1).trans rfl, (blk_cell BK799.out 0).trans rfl, (blk_cell BK799.out 1).trans rfl⟩ (fun hHeld => ?_)
    clear hK K
    refine zn ?_
    refine zo 3 (some 23) (zl 6 15) (fun K hK => ?_)
    refine zgo #[.agg #[.slice A1_0 l1_0.length c1_0, .slice A1_1 l1_1.length c1_1]] Try.func37 ?_
    with_reducible refine (laws_toState.calls k _ _ l1_0 _ _ l1_1 t808 t811 _ (zk (Kd.C_below HR1_0.out HB.out)) HC1_0.out (zk (Kd.C_below HR1_1.out HB.out)) HC1_1.out A20.out).mono ?_
    rintro e w35 ⟨v809, v812, rfl, ho0, ho1, hb⟩
    refine ⟨_, rfl, ?_⟩
    have HO810 := zm (Kd.R_lower (Kd.R_new' ho0 (Kd.R_lt (zr HO804))) (below_size zB))
    replace HO804 := zm (Kd.R_elder' (zr HO804) (Kd.R_base ho0) hb)
    have HO813 := zm (Kd.R_lower (Kd.R_new' ho1 (Kd.R_lt (zr HO807))) (below_size zB))
    replace HO807 := zm (Kd.R_elder' (zr HO807) (Kd.R_base ho1) hb)
    replace BK798 := zm (blk_below (zb BK798) hb)
    replace BK799 := zm (blk_below (zb BK799) hb)
    replace HB := zm (below_step zB hb)
    (try clear hb)
    (try clear hb2)
    (try clear hk)
    (try clear hi)
    (try clear ho0)
    (try clear ho1)
    obtain ⟨Ao36, co36, eo36⟩ := Kd.R_slice HO804.out
    (first | subst eo36 | (injection eo36 with f1_ f2_ f3_; have f4_ := f1_.symm; have f5_ := f3_.symm; clear f1_ f2_ f3_; subst f4_; subst f5_))
    obtain ⟨Ao37, co37, eo37⟩ := Kd.R_slice HO807.out
    (first | subst eo37 | (injection eo37 with f1_ f2_ f3_; have f4_ := f1_.symm; have f5_ := f3_.symm; clear f1_ f2_ f3_; subst f4_; subst f5_))
    obtain ⟨Ao38, co38, eo38⟩ := Kd.R_slice HO810.out
    (first | subst eo38 | (injection eo38 with f1_ f2_ f3_; have f4_ := f1_.symm; have f5_ := f3_.symm; clear f1_ f2_ f3_; subst f4_; subst f5_))
    obtain ⟨Ao39, co39, eo39⟩ := Kd.R_slice HO813.out
    (first | subst eo39 | (injection eo39 with f1_ f2_ f3_; have f4_ := f1_.symm; have f5_ := f3_.symm; clear f1_ f2_ f3_; subst f4_; subst f5_))
    refine hK.out _ _ ⟨(blk_cell BK798.out 0).trans rfl, (blk_cell BK798.out 1).trans rfl, (blk_cell BK799.out 0).trans rfl, (blk_cell BK799.out 1).trans rfl⟩ (fun hHeld => ?_)
    clear hK K
    refine zn ?_
    refine zo 4 (some 24) (zl 6 31) (fun K hK => ?_)
    refine zgo #[.agg #[.slice Ao36 t802.length co36, .slice Ao37 t805.length co37], .agg #[.slice Ao38 t808.length co38, .slice Ao39 t811.length co39]] Try.func59 ?_
    with_reducible refine (spec_StateLeq.calls k _ _ t802 _ _ t805 _ _ t808 _ _ t811 t814 _ ?side1 ?side2 ?side3 ?side4 ?side5 ?side6 ?side7 ?side8 A21.out).mono ?_
    (case side1 => repeat (first | exact (Kd.R_reads' HO804.out).2.2 | (with_reducible refine Kd.C_alloc ?_ _) | (with_reducible refine Kd.C_drewN ?_ _) | (with_reducible refine Kd.C_drew ?_)))
    (case side2 => exact (Kd.R_reads' HO804.out).2.1)
    (case side3 => repeat (first | exact (Kd.R_reads' HO807.out).2.2 | (with_reducible refine Kd.C_alloc ?_ _) | (with_reducible refine Kd.C_drewN ?_ _) | (with_reducible refine Kd.C_drew ?_)))
    (case side4 => exact (Kd.R_reads' HO807.out).2.1)
    (case side5 => repeat (first | exact (Kd.R_reads' HO810.out).2.2 | (with_reducible refine Kd.C_alloc ?_ _) | (with_reducible refine Kd.C_drewN ?_ _) | (with_reducible refine Kd.C_drew ?_)))
    (case side6 => exact (Kd.R_reads' HO810.out).2.1)
    (case side7 => repeat (first | exact (Kd.R_reads' HO813.out).2.2 | (with_reducible refine Kd.C_alloc ?_ _) | (with_reducible refine Kd.C_drewN ?_ _) | (with_reducible refine Kd.C_drew ?_)))
    (case side8 => exact (Kd.R_reads' HO813.out).2.1)
    rintro e w40 ⟨rfl, hb⟩
    refine ⟨_, rfl, ?_⟩
    replace HO804 := zm (Kd.R_below (zr HO804) hb)
    replace HO807 := zm (Kd.R_below (zr HO807) hb)
    replace HO810 := zm (Kd.R_below (zr HO810) hb)
    replace HO813 := zm (Kd.R_below (zr HO813) hb)
    replace BK798 := zm (blk_below (zb BK798) hb)
    replace BK799 := zm (blk_below (zb BK799) hb)
    replace HB := zm (below_step zB hb)
    (try clear hb)
    (try clear hb2)
    (try clear hk)
    (try clear hi)
    refine hK.out _ _ ⟨(blk_cell BK798.out 0).trans rfl, (blk_cell BK798.out 1).trans rfl, (blk_cell BK799.out 0).trans rfl, (blk_cell BK799.out 1).trans rfl⟩ (fun hHeld => ?_)
    clear hK K
    refine zn ?_
    refine zp 5 (some 6) (zl 6 63) ?_
    refine done_ (by kernel_rfl) ?_
    have hcz41_0 : w40.cell? ⟨gb798, 0, none⟩ = some (.slice A0_0 l0_0.length c0_0) := (blk_cell BK798.out 0).trans rfl
    have hcz41_1 : w40.cell? ⟨gb798, 1, none⟩ = some (.slice A0_1 l0_1.length c0_1) := (blk_cell BK798.out 1).trans rfl
    have hfz41_0 := blk_frozen BK798.out 0
    have hfz41_1 := blk_frozen BK798.out 1
    try go_wp2_with (first | ((with_reducible refine gate_callee (f := 37) rfl ?_); refine zg (some 26) #[.agg #[.slice A0_0 l0_0.length c0_0, .slice A0_1 l0_1.length c0_1]] Try.func37 ?_; (with_reducible refine (laws_toState.calls k _ _ l0_0 _ _ l0_1 t815 t818 _ (zk (Kd.C_below HR0_0.out HB.out)) HC0_0.out (zk (Kd.C_below HR0_1.out HB.out)) HC0_1.out A22.out).mono ?_); rintro e w42 ⟨v816, v819, rfl, ho0, ho1, hb⟩; refine ⟨_, rfl, ?_⟩; have HO817 := zm (Kd.R_lower (Kd.R_new' (Kd.R_new' ho0 (Kd.R_lt (zr HO804))) (Kd.R_lt (zr HO810))) (below_size zB)); replace HO804 := zm (Kd.R_elder' (zr HO804) (Kd.R_base ho0) hb); replace HO810 := zm (Kd.R_elder' (zr HO810) (Kd.R_base ho0) hb); have HO820 := zm (Kd.R_lower (Kd.R_new' (Kd.R_new' ho1 (Kd.R_lt (zr HO807))) (Kd.R_lt (zr HO813))) (below_size zB)); replace HO807 := zm (Kd.R_elder' (zr HO807) (Kd.R_base ho1) hb); replace HO813 := zm (Kd.R_elder' (zr HO813) (Kd.R_base ho1) hb); replace BK798 := zm (blk_below (zb BK798) hb); replace BK799 := zm (blk_below (zb BK799) hb); replace HB := zm (below_step zB hb); clear hb ho0 ho1) | ((with_reducible refine gate_dst (N := 7) rfl ?_); refine zbox 7 #[.slice none 0 0, .slice none 0 0] 55 ?_; intro gb821 hg w43 hbox hb; replace HO804 := zm (Kd.R_below (zr HO804) hb); replace HO807 := zm (Kd.R_below (zr HO807) hb); replace HO810 := zm (Kd.R_below (zr HO810) hb); replace HO813 := zm (Kd.R_below (zr HO813) hb); replace HO817 := zm (Kd.R_below (zr HO817) hb); replace HO820 := zm (Kd.R_below (zr HO820) hb); have BK821 := zm (hbox); have GW821 := zge w hg zB; have GE821 := zge w hg zB; replace HB := zm (below_step zB hb); have NB798_821 := zlt hg (zb BK798); have NB821_798 := zgt hg (zb BK798); replace BK798 := zm (blk_below (zb BK798) hb); have NB799_821 := zlt hg (zb BK799); have NB821_799 := zgt hg (zb BK799); replace BK799 := zm (blk_below (zb BK799) hb); clear hb hbox hg; obtain ⟨Ao44, co44, eo44⟩ := Kd.R_slice HO817.out; subst eo44; have hnb45 := NB821_798.out; have hnc45 := NB798_821.out; have hnb46 := NB821_799.out; have hnc46 := NB799_821.out; have hcz47_0 : w43.cell? ⟨gb821, 0, none⟩ = some (.slice none 0 0) := (blk_cell BK821.out 0).trans rfl; have hcz47_1 : w43.cell? ⟨gb821, 1, none⟩ = some (.slice none 0 0) := (blk_cell BK821.out 1).trans rfl; have hfz47_0 := blk_frozen BK821.out 0; have hfz47_1 := blk_frozen BK821.out 1; obtain ⟨Ao48, co48, eo48⟩ := Kd.R_slice HO820.out; subst eo48; have hcz49_0 : w43.cell? ⟨gb799, 0, none⟩ = some (.slice A1_0 l1_0.length c1_0) := (blk_cell BK799.out 0).trans rfl; have hcz49_1 : w43.cell? ⟨gb799, 1, none⟩ = some (.slice A1_1 l1_1.length c1_1) := (blk_cell BK799.out 1).trans rfl; have hfz49_0 := blk_frozen BK799.out 0; have hfz49_1 := blk_frozen BK799.out 1) | ((with_reducible refine gate_callee (f := 37) rfl ?_); refine zg (some 28) #[.agg #[.slice A1_0 l1_0.length c1_0, .slice A1_1 l1_1.length c1_1]] Try.func37 ?_; (with_reducible refine (laws_toState.calls k _ _ l1_0 _ _ l1_1 t822 t825 _ ?side1 HC1_0.out ?side3 HC1_1.out A23.out).mono ?_); (case side1 => exact Kd.C_below HR1_0.out zB); (case side3 => exact Kd.C_below HR1_1.out zB); rintro e w50 ⟨v823, v826, rfl, ho0, ho1, hb⟩; refine ⟨_, rfl, ?_⟩; have HO824 := zm (Kd.R_lower (Kd.R_new' (Kd.R_new' (Kd.R_new' ho0 (Kd.R_lt (zrs <| (Kd.R_mono (zfr (zfr (Kd.R_types HO804.out BK821.out (by decide)))) (fun _ h_ => h_.1))))) (Kd.R_lt (zrs <| (Kd.R_mono (zfr (zfr (Kd.R_types HO810.out BK821.out (by decide)))) (fun _ h_ => h_.1))))) (Kd.R_lt (zrs <| (Kd.R_mono (zfr (zfr (Kd.R_types HO817.out BK821.out (by decide)))) (fun _ h_ => h_.1))))) (below_size zB)); replace HO804 := zm (Kd.R_elder' (zrs <| (Kd.R_mono (zfr (zfr (Kd.R_types HO804.out BK821.out (by decide)))) (fun _ h_ => h_.1))) (Kd.R_base ho0) hb); replace HO810 := zm (Kd.R_elder' (zrs <| (Kd.R_mono (zfr (zfr (Kd.R_types HO810.out BK821.out (by decide)))) (fun _ h_ => h_.1))) (Kd.R_base ho0) hb); replace HO817 := zm (Kd.R_elder' (zrs <| (Kd.R_mono (zfr (zfr (Kd.R_types HO817.out BK821.out (by decide)))) (fun _ h_ => h_.1))) (Kd.R_base ho0) hb); have HO827 := zm (Kd.R_lower (Kd.R_new' (Kd.R_new' (Kd.R_new' ho1 (Kd.R_lt (zrs <| (Kd.R_mono (zfr (zfr (Kd.R_types HO807.out BK821.out (by decide)))) (fun _ h_ => h_.1))))) (Kd.R_lt (zrs <| (Kd.R_mono (zfr (zfr (Kd.R_types HO813.out BK821.out (by decide)))) (fun _ h_ => h_.1))))) (Kd.R_lt (zrs <| (Kd.R_mono (zfr (zfr (Kd.R_types HO820.out BK821.out (by decide)))) (fun _ h_ => h_.1))))) (below_size zB)); replace HO807 := zm (Kd.R_elder' (zrs <| (Kd.R_mono (zfr (zfr (Kd.R_types HO807.out BK821.out (by decide)))) (fun _ h_ => h_.1))) (Kd.R_base ho1) hb); replace HO813 := zm (Kd.R_elder' (zrs <| (Kd.R_mono (zfr (zfr (Kd.R_types HO813.out BK821.out (by decide)))) (fun _ h_ => h_.1))) (Kd.R_base ho1) hb); replace HO820 := zm (Kd.R_elder' (zrs <| (Kd.R_mono (zfr (zfr (Kd.R_types HO820.out BK821.out (by decide)))) (fun _ h_ => h_.1))) (Kd.R_base ho1) hb); replace BK798 := zm (blk_below (g := gb798) (o := .cells #[.slice A0_0 l0_0.length c0_0, .slice A0_1 l0_1.length c0_1] 48 (0, 0)) (zfar (zfar (zb BK798) NB798_821) NB798_821) hb); replace BK799 := zm (blk_below (g := gb799) (o := .cells #[.slice A1_0 l1_0.length c1_0, .slice A1_1 l1_1.length c1_1] 48 (0, 0)) (zfar (zfar (zb BK799) NB799_821) NB799_821) hb); replace BK821 := zm (blk_below (g := gb821) (o := .cells #[.slice Ao44 t815.length co44, .slice Ao48 t818.length co48] 55 (0, 0)) (zput (zput (zb BK821) 0) 1) hb); replace HB := zm (below_step zB hb); clear hb ho0 ho1) | ((with_reducible refine gate_dst (N := 8) rfl ?_); refine zbox 8 #[.slice none 0 0, .slice none 0 0] 55 ?_; intro gb828 hg w51 hbox hb; replace HO804 := zm (Kd.R_below (zr HO804) hb); replace HO807 := zm (Kd.R_below (zr HO807) hb); replace HO810 := zm (Kd.R_below (zr HO810) hb); replace HO813 := zm (Kd.R_below (zr HO813) hb); replace HO817 := zm (Kd.R_below (zr HO817) hb); replace HO820 := zm (Kd.R_below (zr HO820) hb); replace HO824 := zm (Kd.R_below (zr HO824) hb); replace HO827 := zm (Kd.R_below (zr HO827) hb); have BK828 := zm (hbox); have GW828 := zge w hg zB; have GE828 := zge w hg zB; replace HB := zm (below_step zB hb); have NB798_828 := zlt hg (zb BK798); have NB828_798 := zgt hg (zb BK798); replace BK798 := zm (blk_below (zb BK798) hb); have NB799_828 := zlt hg (zb BK799); have NB828_799 := zgt hg (zb BK799); replace BK799 := zm (blk_below (zb BK799) hb); have NB821_828 := zlt hg (zb BK821); have NB828_821 := zgt hg (zb BK821); replace BK821 := zm (blk_below (zb BK821) hb); clear hb hbox hg; obtain ⟨Ao52, co52, eo52⟩ := Kd.R_slice HO824.out; subst eo52; have hnb53 := NB828_798.out; have hnc53 := NB798_828.out; have hnb54 := NB828_799.out; have hnc54 := NB799_828.out; have hnb55 := NB828_821.out; have hnc55 := NB821_828.out; have hcz56_0 : w51.cell? ⟨gb828, 0, none⟩ = some (.slice none 0 0) := (blk_cell BK828.out 0).trans rfl; have hcz56_1 : w51.cell? ⟨gb828, 1, none⟩ = some (.slice none 0 0) := (blk_cell BK828.out 1).trans rfl; have hfz56_0 := blk_frozen BK828.out 0; have hfz56_1 := blk_frozen BK828.out 1; obtain ⟨Ao57, co57, eo57⟩ := Kd.R_slice HO827.out; subst eo57; have hcz58_0 : w51.cell? ⟨gb821, 0, none⟩ = some (.slice Ao44 t815.length co44) := (blk_cell BK821.out 0).trans rfl; have hcz58_1 : w51.cell? ⟨gb821, 1, none⟩ = some (.slice Ao48 t818.length co48) := (blk_cell BK821.out 1).trans rfl; have hfz58_0 := blk_frozen BK821.out 0; have hfz58_1 := blk_frozen BK821.out 1) | ((with_reducible refine gate_callee (f := 60) rfl ?_); refine zg (some 31) #[.agg #[.slice Ao44 t815.length co44, .slice Ao48 t818.length co48], .agg #[.slice Ao52 t822.length co52, .slice Ao57 t825.length co57]] Try.func60 ?_; (with_reducible refine (impl_StateLeq.calls k _ _ t815 _ _ t818 _ _ t822 _ _ t825 t829 _ ?side1 ?side2 ?side3 ?side4 ?side5 ?side6 ?side7 ?side8 A24.out).mono ?_); (case side1 => refine (Kd.R_reads' (e := 84) (base := w.heap.size) (ok := fun k_ => (((True ∧ some k_ ≠ (.slice Ao36 t802.length co36 : Value).ownBlock) ∧ some k_ ≠ (.slice Ao38 t808.length co38 : Value).ownBlock) ∧ some k_ ≠ (.slice Ao52 t822.length co52 : Value).ownBlock)) (n := t815.length) (c := co44) ?_).2.2; exact (zrs <| (Kd.R_mono (zfr (zfr (Kd.R_types HO817.out BK828.out (by decide)))) (fun _ h_ => h_.1)))); (case side2 => exact (Kd.R_reads' HO817.out).2.1); (case side3 => refine (Kd.R_reads' (e := 89) (base := w.heap.size) (ok := fun k_ => (((True ∧ some k_ ≠ (.slice Ao37 t805.length co37 : Value).ownBlock) ∧ some k_ ≠ (.slice Ao39 t811.length co39 : Value).ownBlock) ∧ some k_ ≠ (.slice Ao57 t825.length co57 : Value).ownBlock)) (n := t818.length) (c := co48) ?_).2.2; exact (zrs <| (Kd.R_mono (zfr (zfr (Kd.R_types HO820.out BK828.out (by decide)))) (fun _ h_ => h_.1)))); (case side4 => exact (Kd.R_reads' HO820.out).2.1); (case side5 => refine (Kd.R_reads' (e := 84) (base := w.heap.size) (ok := fun k_ => (((True ∧ some k_ ≠ (.slice Ao36 t802.length co36 : Value).ownBlock) ∧ some k_ ≠ (.slice Ao38 t808.length co38 : Value).ownBlock) ∧ some k_ ≠ (.slice Ao44 t815.length co44 : Value).ownBlock)) (n := t822.length) (c := co52) ?_).2.2; exact (zrs <| (Kd.R_mono (zfr (zfr (Kd.R_types HO824.out BK828.out (by decide)))) (fun _ h_ => h_.1)))); (case side6 => exact (Kd.R_reads' HO824.out).2.1); (case side7 => refine (Kd.R_reads' (e := 89) (base := w.heap.size) (ok := fun k_ => (((True ∧ some k_ ≠ (.slice Ao37 t805.length co37 : Value).ownBlock) ∧ some k_ ≠ (.slice Ao39 t811.length co39 : Value).ownBlock) ∧ some k_ ≠ (.slice Ao48 t818.length co48 : Value).ownBlock)) (n := t825.length) (c := co57) ?_).2.2; exact (zrs <| (Kd.R_mono (zfr (zfr (Kd.R_types HO827.out BK828.out (by decide)))) (fun _ h_ => h_.1)))); (case side8 => exact (Kd.R_reads' HO827.out).2.1); rintro e w59 ⟨rfl, hb⟩; refine ⟨_, rfl, ?_⟩; replace HO804 := zm (Kd.R_below (zrs <| (Kd.R_mono (zfr (zfr (Kd.R_types HO804.out BK828.out (by decide)))) (fun _ h_ => h_.1))) hb); replace HO807 := zm (Kd.R_below (zrs <| (Kd.R_mono (zfr (zfr (Kd.R_types HO807.out BK828.out (by decide)))) (fun _ h_ => h_.1))) hb); replace HO810 := zm (Kd.R_below (zrs <| (Kd.R_mono (zfr (zfr (Kd.R_types HO810.out BK828.out (by decide)))) (fun _ h_ => h_.1))) hb); replace HO813 := zm (Kd.R_below (zrs <| (Kd.R_mono (zfr (zfr (Kd.R_types HO813.out BK828.out (by decide)))) (fun _ h_ => h_.1))) hb); replace HO817 := zm (Kd.R_below (zrs <| (Kd.R_mono (zfr (zfr (Kd.R_types HO817.out BK828.out (by decide)))) (fun _ h_ => h_.1))) hb); replace HO820 := zm (Kd.R_below (zrs <| (Kd.R_mono (zfr (zfr (Kd.R_types HO820.out BK828.out (by decide)))) (fun _ h_ => h_.1))) hb); replace HO824 := zm (Kd.R_below (zrs <| (Kd.R_mono (zfr (zfr (Kd.R_types HO824.out BK828.out (by decide)))) (fun _ h_ => h_.1))) hb); replace HO827 := zm (Kd.R_below (zrs <| (Kd.R_mono (zfr (zfr (Kd.R_types HO827.out BK828.out (by decide)))) (fun _ h_ => h_.1))) hb); replace BK798 := zm (blk_below (g := gb798) (o := .cells #[.slice A0_0 l0_0.length c0_0, .slice A0_1 l0_1.length c0_1] 48 (0, 0)) (zfar (zfar (zb BK798) NB798_828) NB798_828) hb); replace BK799 := zm (blk_below (g := gb799) (o := .cells #[.slice A1_0 l1_0.length c1_0, .slice A1_1 l1_1.length c1_1] 48 (0, 0)) (zfar (zfar (zb BK799) NB799_828) NB799_828) hb); replace BK821 := zm (blk_below (g := gb821) (o := .cells #[.slice Ao44 t815.length co44, .slice Ao48 t818.length co48] 55 (0, 0)) (zfar (zfar (zb BK821) NB821_828) NB821_828) hb); replace BK828 := zm (blk_below (g := gb828) (o := .cells #[.slice Ao52 t822.length co52, .slice Ao57 t825.length co57] 55 (0, 0)) (zput (zput (zb BK828) 0) 1) hb); replace HB := zm (below_step zB hb); clear hb))
    go_ret
    exact ⟨zE, zB⟩
   ·rw [if_neg c25] at H
    have c25b0 : (t829 != t814) = false := by simpa using c25
    (try (have c25b1 : decide (t829 = t814) = true := by simpa using c25))
    (try (have c25b2 : (t829 == t814) = true := by simpa using c25))
    clear c25
    replace H := Option.bind_eq_some_iff.mp H
    obtain ⟨⟨t830, t833⟩, A600, H⟩ := H
    replace H : ((laws_eqState.f k t815 t818 t830 t833).bind fun t836 => (if t836 = true then ((laws_toState.f k l1_0 l1_1).bind fun bt837 => ((laws_eqState.f k t822 t825 bt837.1 bt837.2).bind fun t843 => (if t843 = true then (some true) else (some false)))) else (some false))) = some r := H
    have A60 := zm A600
    clear A600
    replace H := Option.bind_eq_some_iff.mp H
    obtain ⟨t836, A610, H⟩ := H
    replace H : (if t836 = true then ((laws_toState.f k l1_0 l1_1).bind fun bt837 => ((laws_eqState.f k t822 t825 bt837.1 bt837.2).bind fun t843 => (if t843 = true then (some true) else (some false)))) else (some false)) = some r := H
    have A61 := zm A610
    clear A610
    by_cases c62 : t836 = true
    ·subst c62
     have H1 : ((laws_toState.f k l1_0 l1_1).bind fun bt837 => ((laws_eqState.f k t822 t825 bt837.1 bt837.2).bind fun t843 => (if t843 = true then (some true) else (some false)))) = some r := by rw [if_pos rfl] at H; exact H
     clear H
     have H := H1
     clear H1
     replace H := Option.bind_eq_some_iff.mp H
     obtain ⟨⟨t837, t840⟩, A630, H⟩ := H
     replace H : ((laws_eqState.f k t822 t825 t837 t840).bind fun t843 => (if t843 = true then (some true) else (some false))) = some r := H
     have A63 := zm A630
     clear A630
     replace H := Option.bind_eq_some_iff.mp H
     obtain ⟨t843, A640, H⟩ := H
     replace H : (if t843 = true then (some true) else (some false)) = some r := H
     have A64 := zm A640
     clear A640
     by_cases c65 : t843 = true
     ·subst c65
      have H1 : (some true) = some r := by rw [if_pos rfl] at H; exact H
      clear H
      have H := H1
      clear H1
      obtain rfl := Option.some.inj H
      go_enter Try.func14, Try.ntmps14
      try go_wp2_with (first | ((with_reducible refine gate_dst (N := 2) rfl ?_); refine zbox 2 #[.slice A0_0 l0_0.length c0_0, .slice A0_1 l0_1.length c0_1] 48 ?_; intro gb798 hg w66 hbox hb; have BK798 := zm (hbox); have GW798 := zge w hg zB; have GE798 := zge w hg zB; replace HB := zm (below_step zB hb); clear hb hbox hg) | ((with_reducible refine gate_dst (N := 3) rfl ?_); refine zbox 3 #[.slice A1_0 l1_0.length c1_0, .slice A1_1 l1_1.length c1_1] 48 ?_; intro gb799 hg w67 hbox hb; have BK799 := zm (hbox); have GW799 := zge w hg zB; have GE799 := zge w hg zB; replace HB := zm (below_step zB hb); have NB798_799 := zlt hg (zb BK798); have NB799_798 := zgt hg (zb BK798); replace BK798 := zm (blk_below (zb BK798) hb); clear hb hbox hg; have hnb68 := NB798_799.out; have hnc68 := NB799_798.out; have hcz69_0 : w67.cell? ⟨gb798, 0, none⟩ = some (.slice A0_0 l0_0.length c0_0) := (blk_cell BK798.out 0).trans rfl; have hcz69_1 : w67.cell? ⟨gb798, 1, none⟩ = some (.slice A0_1 l0_1.length c0_1) := (blk_cell BK798.out 1).trans rfl; have hfz69_0 := blk_frozen BK798.out 0; have hfz69_1 := blk_frozen BK798.out 1) | ((with_reducible refine gate_callee (f := 35) rfl ?_); refine zg (some 12) #[.agg #[.slice A0_0 l0_0.length c0_0, .slice A0_1 l0_1.length c0_1], .int .i64 1048576] Try.func35 ?_; (with_reducible refine (laws_szState.calls k _ _ l0_0 _ _ l0_1 1048576 t800 _ (zk (Kd.C_below HR0_0.out HB.out)) HC0_0.out (zk (Kd.C_below HR0_1.out HB.out)) HC0_1.out A3.out).mono ?_); rintro e w70 ⟨rfl, hb⟩; refine ⟨_, rfl, ?_⟩; replace BK798 := zm (blk_below (zb BK798) hb); replace BK799 := zm (blk_below (zb BK799) hb); replace HB := zm (below_step zB hb); clear hb; have hcz71_0 : w70.cell? ⟨gb799, 0, none⟩ = some (.slice A1_0 l1_0.length c1_0) := (blk_cell BK799.out 0).trans rfl; have hcz71_1 : w70.cell? ⟨gb799, 1, none⟩ = some (.slice A1_1 l1_1.length c1_1) := (blk_cell BK799.out 1).trans rfl; have hfz71_0 := blk_frozen BK799.out 0; have hfz71_1 := blk_frozen BK799.out 1) | ((with_reducible refine gate_callee (f := 35) rfl ?_); refine zg (some 17) #[.agg #[.slice A1_0 l1_0.length c1_0, .slice A1_1 l1_1.length c1_1], .int .i64 t800] Try.func35 ?_; (with_reducible refine (laws_szState.calls k _ _ l1_0 _ _ l1_1 t800 t801 _ (zk (Kd.C_below HR1_0.out HB.out)) HC1_0.out (zk (Kd.C_below HR1_1.out HB.out)) HC1_1.out A10.out).mono ?_); rintro e w72 ⟨rfl, hb⟩; refine ⟨_, rfl, ?_⟩; replace BK798 := zm (blk_below (zb BK798) hb); replace BK799 := zm (blk_below (zb BK799) hb); replace HB := zm (below_step zB hb); clear hb))
      replace BK798 := zm (blk_drew BK798.out)
      replace BK799 := zm (blk_drew BK799.out)
      replace HB := zm (below_drew1 HB.out)
      refine start_ (n := 6) (S := fun w' => w'.cell? ⟨gb798, 0, none⟩ = some (.slice A0_0 l0_0.length c0_0) ∧ w'.cell? ⟨gb798, 1, none⟩ = some (.slice A0_1 l0_1.length c0_1) ∧ w'.cell? ⟨gb799, 0, none⟩ = some (.slice A1_0 l1_0.length c1_0) ∧ w'.cell? ⟨gb799, 1, none⟩ = some (.slice A1_1 l1_1.length c1_1)) (ds := []) (zl 6 0) (by kernel_rfl) rfl rfl ⟨(blk_cell BK798.out 0).trans rfl, (blk_cell BK798.out 1).trans rfl, (blk_cell BK799.out 0).trans rfl, (blk_cell BK799.out 1).trans rfl⟩ (fun hHeld => ?_)
      generalize w72.drew = w73 at BK798 BK799 HB hHeld ⊢
      refine zt 0 (some 20) (zl 6 1) ?_
      refine zt 2 (some 22) (zl 6 5) ?_
      refine zo 1 (some 21) (zl 6 7) (fun K hK => ?_)
      refine zgo #[.agg #[.slice A0_0 l0_0.length c0_0, .slice A0_1 l0_1.length c0_1]] Try.func37 ?_
      with_reducible refine (laws_toState.calls k _ _ l0_0 _ _ l0_1 t802 t805 _ (zk (Kd.C_below HR0_0.out HB.out)) HC0_0.out (zk (Kd.C_below HR0_1.out HB.out)) HC0_1.out A19.out).mono ?_
      rintro e w74 ⟨v803, v806, rfl, ho0, ho1, hb⟩
      refine ⟨_, rfl, ?_⟩
      have HO804 := zm (Kd.R_lower ho0 (below_size zB))
      have HO807 := zm (Kd.R_lower ho1 (below_size zB))
      replace BK798 := zm (blk_below (zb BK798) hb)
      replace BK799 := zm (blk_below (zb BK799) hb)
      replace HB := zm (below_step zB hb)
      (try clear hb)
      (try clear hb2)
      (try clear hk)
      (try clear hi)
      (try clear ho0)
      (try clear ho1)
      refine hK.out _ _ ⟨(blk_cell BK798.out 0).trans rfl, (blk_cell BK798.out 1).trans rfl, (blk_cell BK799.out 0).trans rfl, (blk_cell BK799.out 1).trans rfl⟩ (fun hHeld => ?_)
      clear hK K
      refine zn ?_
      refine zo 3 (some 23) (zl 6 15) (fun K hK => ?_)
      refine zgo #[.agg #[.slice A1_0 l1_0.length c1_0, .slice A1_1 l1_1.length c1_1]] Try.func37 ?_
      with_reducible refine (laws_toState.calls k _ _ l1_0 _ _ l1_1 t808 t811 _ (zk (Kd.C_below HR1_0.out HB.out)) HC1_0.out (zk (Kd.C_below HR1_1.out HB.out)) HC1_1.out A20.out).mono ?_
      rintro e w75 ⟨v809, v812, rfl, ho0, ho1, hb⟩
      refine ⟨_, rfl, ?_⟩
      have HO810 := zm (Kd.R_lower (Kd.R_new' ho0 (Kd.R_lt (zr HO804))) (below_size zB))
      replace HO804 := zm (Kd.R_elder' (zr HO804) (Kd.R_base ho0) hb)
      have HO813 := zm (Kd.R_lower (Kd.R_new' ho1 (Kd.R_lt (zr HO807))) (below_size zB))
      replace HO807 := zm (Kd.R_elder' (zr HO807) (Kd.R_base ho1) hb)
      replace BK798 := zm (blk_below (zb BK798) hb)
      replace BK799 := zm (blk_below (zb BK799) hb)
      replace HB := zm (below_step zB hb)
      (try clear hb)
      (try clear hb2)
      (try clear hk)
      (try clear hi)
      (try clear ho0)
      (try clear ho1)
      obtain ⟨Ao76, co76, eo76⟩ := Kd.R_slice HO804.out
      (first | subst eo76 | (injection eo76 with f1_ f2_ f3_; have f4_ := f1_.symm; have f5_ := f3_.symm; clear f1_ f2_ f3_; subst f4_; subst f5_))
      obtain ⟨Ao77, co77, eo77⟩ := Kd.R_slice HO807.out
      (first | subst eo77 | (injection eo77 with f1_ f2_ f3_; have f4_ := f1_.symm; have f5_ := f3_.symm; clear f1_ f2_ f3_; subst f4_; subst f5_))
      obtain ⟨Ao78, co78, eo78⟩ := Kd.R_slice HO810.out
      (first | subst eo78 | (injection eo78 with f1_ f2_ f3_; have f4_ := f1_.symm; have f5_ := f3_.symm; clear f1_ f2_ f3_; subst f4_; subst f5_))
      obtain ⟨Ao79, co79, eo79⟩ := Kd.R_slice HO813.out
      (first | subst eo79 | (injection eo79 with f1_ f2_ f3_; have f4_ := f1_.symm; have f5_ := f3_.symm; clear f1_ f2_ f3_; subst f4_; subst f5_))
      refine hK.out _ _ ⟨(blk_cell BK798.out 0).trans rfl, (blk_cell BK798.out 1).trans rfl, (blk_cell BK799.out 0).trans rfl, (blk_cell BK799.out 1).trans rfl⟩ (fun hHeld => ?_)
      clear hK K
      refine zn ?_
      refine zo 4 (some 24) (zl 6 31) (fun K hK => ?_)
      refine zgo #[.agg #[.slice Ao76 t802.length co76, .slice Ao77 t805.length co77], .agg #[.slice Ao78 t808.length co78, .slice Ao79 t811.length co79]] Try.func59 ?_
      with_reducible refine (spec_StateLeq.calls k _ _ t802 _ _ t805 _ _ t808 _ _ t811 t814 _ ?side1 ?side2 ?side3 ?side4 ?side5 ?side6 ?side7 ?side8 A21.out).mono ?_
      (case side1 => repeat (first | exact (Kd.R_reads' HO804.out).2.2 | (with_reducible refine Kd.C_alloc ?_ _) | (with_reducible refine Kd.C_drewN ?_ _) | (with_reducible refine Kd.C_drew ?_)))
      (case side2 => exact (Kd.R_reads' HO804.out).2.1)
      (case side3 => repeat (first | exact (Kd.R_reads' HO807.out).2.2 | (with_reducible refine Kd.C_alloc ?_ _) | (with_reducible refine Kd.C_drewN ?_ _) | (with_reducible refine Kd.C_drew ?_)))
      (case side4 => exact (Kd.R_reads' HO807.out).2.1)
      (case side5 => repeat (first | exact (Kd.R_reads' HO810.out).2.2 | (with_reducible refine Kd.C_alloc ?_ _) | (with_reducible refine Kd.C_drewN ?_ _) | (with_reducible refine Kd.C_drew ?_)))
      (case side6 => exact (Kd.R_reads' HO810.out).2.1)
      (case side7 => repeat (first | exact (Kd.R_reads' HO813.out).2.2 | (with_reducible refine Kd.C_alloc ?_ _) | (with_reducible refine Kd.C_drewN ?_ _) | (with_reducible refine Kd.C_drew ?_)))
      (case side8 => exact (Kd.R_reads' HO813.out).2.1)
      rintro e w80 ⟨rfl, hb⟩
      refine ⟨_, rfl, ?_⟩
      replace HO804 := zm (Kd.R_below (zr HO804) hb)
      replace HO807 := zm (Kd.R_below (zr HO807) hb)
      replace HO810 := zm (Kd.R_below (zr HO810) hb)
      replace HO813 := zm (Kd.R_below (zr HO813) hb)
      replace BK798 := zm (blk_below (zb BK798) hb)
      replace BK799 := zm (blk_below (zb BK799) hb)
      replace HB := zm (below_step zB hb)
      (try clear hb)
      (try clear hb2)
      (try clear hk)
      (try clear hi)
      refine hK.out _ _ ⟨(blk_cell BK798.out 0).trans rfl, (blk_cell BK798.out 1).trans rfl, (blk_cell BK799.out 0).trans rfl, (blk_cell BK799.out 1).trans rfl⟩ (fun hHeld => ?_)
      clear hK K
      refine zn ?_
      refine zp 5 (some 6) (zl 6 63) ?_
      refine done_ (by kernel_rfl) ?_
      have hcz81_0 : w80.cell? ⟨gb798, 0, none⟩ = some (.slice A0_0 l0_0.length c0_0) := (blk_cell BK798.out 0).trans rfl
      have hcz81_1 : w80.cell? ⟨gb798, 1, none⟩ = some (.slice A0_1 l0_1.length c0_1) := (blk_cell BK798.out 1).trans rfl
      have hfz81_0 := blk_frozen BK798.out 0
      have hfz81_1 := blk_frozen BK798.out 1
      try go_wp2_with (first | ((with_reducible refine gate_callee (f := 37) rfl ?_); refine zg (some 26) #[.agg #[.slice A0_0 l0_0.length c0_0, .slice A0_1 l0_1.length c0_1]] Try.func37 ?_; (with_reducible refine (laws_toState.calls k _ _ l0_0 _ _ l0_1 t815 t818 _ (zk (Kd.C_below HR0_0.out HB.out)) HC0_0.out (zk (Kd.C_below HR0_1.out HB.out)) HC0_1.out A22.out).mono ?_); rintro e w82 ⟨v816, v819, rfl, ho0, ho1, hb⟩; refine ⟨_, rfl, ?_⟩; have HO817 := zm (Kd.R_lower (Kd.R_new' (Kd.R_new' ho0 (Kd.R_lt (zr HO804))) (Kd.R_lt (zr HO810))) (below_size zB)); replace HO804 := zm (Kd.R_elder' (zr HO804) (Kd.R_base ho0) hb); replace HO810 := zm (Kd.R_elder' (zr HO810) (Kd.R_base ho0) hb); have HO820 := zm (Kd.R_lower (Kd.R_new' (Kd.R_new' ho1 (Kd.R_lt (zr HO807))) (Kd.R_lt (zr HO813))) (below_size zB)); replace HO807 := zm (Kd.R_elder' (zr HO807) (Kd.R_base ho1) hb); replace HO813 := zm (Kd.R_elder' (zr HO813) (Kd.R_base ho1) hb); replace BK798 := zm (blk_below (zb BK798) hb); replace BK799 := zm (blk_below (zb BK799) hb); replace HB := zm (below_step zB hb); clear hb ho0 ho1) | ((with_reducible refine gate_dst (N := 7) rfl ?_); refine zbox 7 #[.slice none 0 0, .slice none 0 0] 55 ?_; intro gb821 hg w83 hbox hb; replace HO804 := zm (Kd.R_below (zr HO804) hb); replace HO807 := zm (Kd.R_below (zr HO807) hb); replace HO810 := zm (Kd.R_below (zr HO810) hb); replace HO813 := zm (Kd.R_below (zr HO813) hb); replace HO817 := zm (Kd.R_below (zr HO817) hb); replace HO820 := zm (Kd.R_below (zr HO820) hb); have BK821 := zm (hbox); have GW821 := zge w hg zB; have GE821 := zge w hg zB; replace HB := zm (below_step zB hb); have NB798_821 := zlt hg (zb BK798); have NB821_798 := zgt hg (zb BK798); replace BK798 := zm (blk_below (zb BK798) hb); have NB799_821 := zlt hg (zb BK799); have NB821_799 := zgt hg (zb BK799); replace BK799 := zm (blk_below (zb BK799) hb); clear hb hbox hg; obtain ⟨Ao84, co84, eo84⟩ := Kd.R_slice HO817.out; subst eo84; have hnb85 := NB821_798.out; have hnc85 := NB798_821.out; have hnb86 := NB821_799.out; have hnc86 := NB799_821.out; have hcz87_0 : w83.cell? ⟨gb821, 0, none⟩ = some (.slice none 0 0) := (blk_cell BK821.out 0).trans rfl; have hcz87_1 : w83.cell? ⟨gb821, 1, none⟩ = some (.slice none 0 0) := (blk_cell BK821.out 1).trans rfl; have hfz87_0 := blk_frozen BK821.out 0; have hfz87_1 := blk_frozen BK821.out 1; obtain ⟨Ao88, co88, eo88⟩ := Kd.R_slice HO820.out; subst eo88; have hcz89_0 : w83.cell? ⟨gb799, 0, none⟩ = some (.slice A1_0 l1_0.length c1_0) := (blk_cell BK799.out 0).trans rfl; have hcz89_1 : w83.cell? ⟨gb799, 1, none⟩ = some (.slice A1_1 l1_1.length c1_1) := (blk_cell BK799.out 1).trans rfl; have hfz89_0 := blk_frozen BK799.out 0; have hfz89_1 := blk_frozen BK799.out 1) | ((with_reducible refine gate_callee (f := 37) rfl ?_); refine zg (some 28) #[.agg #[.slice A1_0 l1_0.length c1_0, .slice A1_1 l1_1.length c1_1]] Try.func37 ?_; (with_reducible refine (laws_toState.calls k _ _ l1_0 _ _ l1_1 t822 t825 _ ?side1 HC1_0.out ?side3 HC1_1.out A23.out).mono ?_); (case side1 => exact Kd.C_below HR1_0.out zB); (case side3 => exact Kd.C_below HR1_1.out zB); rintro e w90 ⟨v823, v826, rfl, ho0, ho1, hb⟩; refine ⟨_, rfl, ?_⟩; have HO824 := zm (Kd.R_lower (Kd.R_new' (Kd.R_new' (Kd.R_new' ho0 (Kd.R_lt (zrs <| (Kd.R_mono (zfr (zfr (Kd.R_types HO804.out BK821.out (by decide)))) (fun _ h_ => h_.1))))) (Kd.R_lt (zrs <| (Kd.R_mono (zfr (zfr (Kd.R_types HO810.out BK821.out (by decide)))) (fun _ h_ => h_.1))))) (Kd.R_lt (zrs <| (Kd.R_mono (zfr (zfr (Kd.R_types HO817.out BK821.out (by decide)))) (fun _ h_ => h_.1))))) (below_size zB)); replace HO804 := zm (Kd.R_elder' (zrs <| (Kd.R_mono (zfr (zfr (Kd.R_types HO804.out BK821.out (by decide)))) (fun _ h_ => h_.1))) (Kd.R_base ho0) hb); replace HO810 := zm (Kd.R_elder' (zrs <| (Kd.R_mono (zfr (zfr (Kd.R_types HO810.out BK821.out (by decide)))) (fun _ h_ => h_.1))) (Kd.R_base ho0) hb); replace HO817 := zm (Kd.R_elder' (zrs <| (Kd.R_mono (zfr (zfr (Kd.R_types HO817.out BK821.out (by decide)))) (fun _ h_ => h_.1))) (Kd.R_base ho0) hb); have HO827 := zm (Kd.R_lower (Kd.R_new' (Kd.R_new' (Kd.R_new' ho1 (Kd.R_lt (zrs <| (Kd.R_mono (zfr (zfr (Kd.R_types HO807.out BK821.out (by decide)))) (fun _ h_ => h_.1))))) (Kd.R_lt (zrs <| (Kd.R_mono (zfr (zfr (Kd.R_types HO813.out BK821.out (by decide)))) (fun _ h_ => h_.1))))) (Kd.R_lt (zrs <| (Kd.R_mono (zfr (zfr (Kd.R_types HO820.out BK821.out (by decide)))) (fun _ h_ => h_.1))))) (below_size zB)); replace HO807 := zm (Kd.R_elder' (zrs <| (Kd.R_mono (zfr (zfr (Kd.R_types HO807.out BK821.out (by decide)))) (fun _ h_ => h_.1))) (Kd.R_base ho1) hb); replace HO813 := zm (Kd.R_elder' (zrs <| (Kd.R_mono (zfr (zfr (Kd.R_types HO813.out BK821.out (by decide)))) (fun _ h_ => h_.1))) (Kd.R_base ho1) hb); replace HO820 := zm (Kd.R_elder' (zrs <| (Kd.R_mono (zfr (zfr (Kd.R_types HO820.out BK821.out (by decide)))) (fun _ h_ => h_.1))) (Kd.R_base ho1) hb); replace BK798 := zm (blk_below (g := gb798) (o := .cells #[.slice A0_0 l0_0.length c0_0, .slice A0_1 l0_1.length c0_1] 48 (0, 0)) (zfar (zfar (zb BK798) NB798_821) NB798_821) hb); replace BK799 := zm (blk_below (g := gb799) (o := .cells #[.slice A1_0 l1_0.length c1_0, .slice A1_1 l1_1.length c1_1] 48 (0, 0)) (zfar (zfar (zb BK799) NB799_821) NB799_821) hb); replace BK821 := zm (blk_below (g := gb821) (o := .cells #[.slice Ao84 t815.length co84, .slice Ao88 t818.length co88] 55 (0, 0)) (zput (zput (zb BK821) 0) 1) hb); replace HB := zm (below_step zB hb); clear hb ho0 ho1) | ((with_reducible refine gate_dst (N := 8) rfl ?_); refine zbox 8 #[.slice none 0 0, .slice none 0 0] 55 ?_; intro gb828 hg w91 hbox hb; replace HO804 := zm (Kd.R_below (zr HO804) hb); replace HO807 := zm (Kd.R_below (zr HO807) hb); replace HO810 := zm (Kd.R_below (zr HO810) hb); replace HO813 := zm (Kd.R_below (zr HO813) hb); replace HO817 := zm (Kd.R_below (zr HO817) hb); replace HO820 := zm (Kd.R_below (zr HO820) hb); replace HO824 := zm (Kd.R_below (zr HO824) hb); replace HO827 := zm (Kd.R_below (zr HO827) hb); have BK828 := zm (hbox); have GW828 := zge w hg zB; have GE828 := zge w hg zB; replace HB := zm (below_step zB hb); have NB798_828 := zlt hg (zb BK798); have NB828_798 := zgt hg (zb BK798); replace BK798 := zm (blk_below (zb BK798) hb); have NB799_828 := zlt hg (zb BK799); have NB828_799 := zgt hg (zb BK799); replace BK799 := zm (blk_below (zb BK799) hb); have NB821_828 := zlt hg (zb BK821); have NB828_821 := zgt hg (zb BK821); replace BK821 := zm (blk_below (zb BK821) hb); clear hb hbox hg; obtain ⟨Ao92, co92, eo92⟩ := Kd.R_slice HO824.out; subst eo92; have hnb93 := NB828_798.out; have hnc93 := NB798_828.out; have hnb94 := NB828_799.out; have hnc94 := NB799_828.out; have hnb95 := NB828_821.out; have hnc95 := NB821_828.out; have hcz96_0 : w91.cell? ⟨gb828, 0, none⟩ = some (.slice none 0 0) := (blk_cell BK828.out 0).trans rfl; have hcz96_1 : w91.cell? ⟨gb828, 1, none⟩ = some (.slice none 0 0) := (blk_cell BK828.out 1).trans rfl; have hfz96_0 := blk_frozen BK828.out 0; have hfz96_1 := blk_frozen BK828.out 1; obtain ⟨Ao97, co97, eo97⟩ := Kd.R_slice HO827.out; subst eo97; have hcz98_0 : w91.cell? ⟨gb821, 0, none⟩ = some (.slice Ao84 t815.length co84) := (blk_cell BK821.out 0).trans rfl; have hcz98_1 : w91.cell? ⟨gb821, 1, none⟩ = some (.slice Ao88 t818.length co88) := (blk_cell BK821.out 1).trans rfl; have hfz98_0 := blk_frozen BK821.out 0; have hfz98_1 := blk_frozen BK821.out 1) | ((with_reducible refine gate_callee (f := 60) rfl ?_); refine zg (some 31) #[.agg #[.slice Ao84 t815.length co84, .slice Ao88 t818.length co88], .agg #[.slice Ao92 t822.length co92, .slice Ao97 t825.length co97]] Try.func60 ?_; (with_reducible refine (impl_StateLeq.calls k _ _ t815 _ _ t818 _ _ t822 _ _ t825 t829 _ ?side1 ?side2 ?side3 ?side4 ?side5 ?side6 ?side7 ?side8 A24.out).mono ?_); (case side1 => refine (Kd.R_reads' (e := 84) (base := w.heap.size) (ok := fun k_ => (((True ∧ some k_ ≠ (.slice Ao76 t802.length co76 : Value).ownBlock) ∧ some k_ ≠ (.slice Ao78 t808.length co78 : Value).ownBlock) ∧ some k_ ≠ (.slice Ao92 t822.length co92 : Value).ownBlock)) (n := t815.length) (c := co84) ?_).2.2; exact (zrs <| (Kd.R_mono (zfr (zfr (Kd.R_types HO817.out BK828.out (by decide)))) (fun _ h_ => h_.1)))); (case side2 => exact (Kd.R_reads' HO817.out).2.1); (case side3 => refine (Kd.R_reads' (e := 89) (base := w.heap.size) (ok := fun k_ => (((True ∧ some k_ ≠ (.slice Ao77 t805.length co77 : Value).ownBlock) ∧ some k_ ≠ (.slice Ao79 t811.length co79 : Value).ownBlock) ∧ some k_ ≠ (.slice Ao97 t825.length co97 : Value).ownBlock)) (n := t818.length) (c := co88) ?_).2.2; exact (zrs <| (Kd.R_mono (zfr (zfr (Kd.R_types HO820.out BK828.out (by decide)))) (fun _ h_ => h_.1)))); (case side4 => exact (Kd.R_reads' HO820.out).2.1); (case side5 => refine (Kd.R_reads' (e := 84) (base := w.heap.size) (ok := fun k_ => (((True ∧ some k_ ≠ (.slice Ao76 t802.length co76 : Value).ownBlock) ∧ some k_ ≠ (.slice Ao78 t808.length co78 : Value).ownBlock) ∧ some k_ ≠ (.slice Ao84 t815.length co84 : Value).ownBlock)) (n := t822.length) (c := co92) ?_).2.2; exact (zrs <| (Kd.R_mono (zfr (zfr (Kd.R_types HO824.out BK828.out (by decide)))) (fun _ h_ => h_.1)))); (case side6 => exact (Kd.R_reads' HO824.out).2.1); (case side7 => refine (Kd.R_reads' (e := 89) (base := w.heap.size) (ok := fun k_ => (((True ∧ some k_ ≠ (.slice Ao77 t805.length co77 : Value).ownBlock) ∧ some k_ ≠ (.slice Ao79 t811.length co79 : Value).ownBlock) ∧ some k_ ≠ (.slice Ao88 t818.length co88 : Value).ownBlock)) (n := t825.length) (c := co97) ?_).2.2; exact (zrs <| (Kd.R_mono (zfr (zfr (Kd.R_types HO827.out BK828.out (by decide)))) (fun _ h_ => h_.1)))); (case side8 => exact (Kd.R_reads' HO827.out).2.1); rintro e w99 ⟨rfl, hb⟩; refine ⟨_, rfl, ?_⟩; replace HO804 := zm (Kd.R_below (zrs <| (Kd.R_mono (zfr (zfr (Kd.R_types HO804.out BK828.out (by decide)))) (fun _ h_ => h_.1))) hb); replace HO807 := zm (Kd.R_below (zrs <| (Kd.R_mono (zfr (zfr (Kd.R_types HO807.out BK828.out (by decide)))) (fun _ h_ => h_.1))) hb); replace HO810 := zm (Kd.R_below (zrs <| (Kd.R_mono (zfr (zfr (Kd.R_types HO810.out BK828.out (by decide)))) (fun _ h_ => h_.1))) hb); replace HO813 := zm (Kd.R_below (zrs <| (Kd.R_mono (zfr (zfr (Kd.R_types HO813.out BK828.out (by decide)))) (fun _ h_ => h_.1))) hb); replace HO817 := zm (Kd.R_below (zrs <| (Kd.R_mono (zfr (zfr (Kd.R_types HO817.out BK828.out (by decide)))) (fun _ h_ => h_.1))) hb); replace HO820 := zm (Kd.R_below (zrs <| (Kd.R_mono (zfr (zfr (Kd.R_types HO820.out BK828.out (by decide)))) (fun _ h_ => h_.1))) hb); replace HO824 := zm (Kd.R_below (zrs <| (Kd.R_mono (zfr (zfr (Kd.R_types HO824.out BK828.out (by decide)))) (fun _ h_ => h_.1))) hb); replace HO827 := zm (Kd.R_below (zrs <| (Kd.R_mono (zfr (zfr (Kd.R_types HO827.out BK828.out (by decide)))) (fun _ h_ => h_.1))) hb); replace BK798 := zm (blk_below (g := gb798) (o := .cells #[.slice A0_0 l0_0.length c0_0, .slice A0_1 l0_1.length c0_1] 48 (0, 0)) (zfar (zfar (zb BK798) NB798_828) NB798_828) hb); replace BK799 := zm (blk_below (g := gb799) (o := .cells #[.slice A1_0 l1_0.length c1_0, .slice A1_1 l1_1.length c1_1] 48 (0, 0)) (zfar (zfar (zb BK799) NB799_828) NB799_828) hb); replace BK821 := zm (blk_below (g := gb821) (o := .cells #[.slice Ao84 t815.length co84, .slice Ao88 t818.length co88] 55 (0, 0)) (zfar (zfar (zb BK821) NB821_828) NB821_828) hb); replace BK828 := zm (blk_below (g := gb828) (o := .cells #[.slice Ao92 t822.length co92, .slice Ao97 t825.length co97] 55 (0, 0)) (zput (zput (zb BK828) 0) 1) hb); replace HB := zm (below_step zB hb); clear hb))
      replace HO804 := zm (Kd.R_drew HO804.out)
      replace HO807 := zm (Kd.R_drew HO807.out)
      replace HO810 := zm (Kd.R_drew HO810.out)
      replace HO813 := zm (Kd.R_drew HO813.out)
      replace HO817 := zm (Kd.R_drew HO817.out)
      replace HO820 := zm (Kd.R_drew HO820.out)
      replace HO824 := zm (Kd.R_drew HO824.out)
      replace HO827 := zm (Kd.R_drew HO827.out)
      replace BK798 := zm (blk_drew BK798.out)
      replace BK799 := zm (blk_drew BK799.out)
      replace BK821 := zm (blk_drew BK821.out)
      replace BK828 := zm (blk_drew BK828.out)
      replace HB := zm (below_drew1 HB.out)
      refine start_ (n := 5) (S := fun w' => w'.cell? ⟨gb821, 0, none⟩ = some (.slice Ao84 t815.length co84) ∧ w'.cell? ⟨gb821, 1, none⟩ = some (.slice Ao88 t818.length co88) ∧ w'.cell? ⟨gb798, 0, none⟩ = some (.slice A0_0 l0_0.length c0_0) ∧ w'.cell? ⟨gb798, 1, none⟩ = some (.slice A0_1 l0_1.length c0_1)) (ds := []) (zl 5 0) (by kernel_rfl) rfl rfl ⟨(blk_cell BK821.out 0).trans rfl, (blk_cell BK821.out 1).trans rfl, (blk_cell BK798.out 0).trans rfl, (blk_cell BK798.out 1).trans rfl⟩ (fun hHeld => ?_)
      generalize w99.drew = w100 at HO804 HO807 HO810 HO813 HO817 HO820 HO824 HO827 BK798 BK799 BK821 BK828 HB hHeld ⊢
      refine zt 0 (some 35) (zl 5 1) ?_
      refine zt 1 (some 36) (zl 5 3) ?_
      refine zo 2 (some 37) (zl 5 7) (fun K hK => ?_)
      refine zgo #[.agg #[.slice A0_0 l0_0.length c0_0, .slice A0_1 l0_1.length c0_1]] Try.func37 ?_
      with_reducible refine (laws_toState.calls k _ _ l0_0 _ _ l0_1 t830 t833 _ (zk (Kd.C_below HR0_0.out HB.out)) HC0_0.out (zk (Kd.C_below HR0_1.out HB.out)) HC0_1.out A60.out).mono ?_
      rintro e w101 ⟨v831, v834, rfl, ho0, ho1, hb⟩
      refine ⟨_, rfl, ?_⟩
      have HO832 := zm (Kd.R_lower (Kd.R_new' (Kd.R_new' (Kd.R_new' (Kd.R_new' ho0 (Kd.R_lt (zr HO804))) (Kd.R_lt (zr HO810))) (Kd.R_lt (zr HO817))) (Kd.R_lt (zr HO824))) (below_size zB))
      replace HO804 := zm (Kd.R_elder' (zr HO804) (Kd.R_base ho0) hb)
      replace HO810 := zm (Kd.R_elder' (zr HO810) (Kd.R_base ho0) hb)
      replace HO817 := zm (Kd.R_elder' (zr HO817) (Kd.R_base ho0) hb)
      replace HO824 := zm (Kd.R_elder' (zr HO824) (Kd.R_base ho0) hb)
      have HO835 := zm (Kd.R_lower (Kd.R_new' (Kd.R_new' (Kd.R_new' (Kd.R_new' ho1 (Kd.R_lt (zr HO807))) (Kd.R_lt (zr HO813))) (Kd.R_lt (zr HO820))) (Kd.R_lt (zr HO827))) (below_size zB))
      replace HO807 := zm (Kd.R_elder' (zr HO807) (Kd.R_base ho1) hb)
      replace HO813 := zm (Kd.R_elder' (zr HO813) (Kd.R_base ho1) hb)
      replace HO820 := zm (Kd.R_elder' (zr HO820) (Kd.R_base ho1) hb)
      replace HO827 := zm (Kd.R_elder' (zr HO827) (Kd.R_base ho1) hb)
      replace BK798 := zm (blk_below (zb BK798) hb)
      replace BK799 := zm (blk_below (zb BK799) hb)
      replace BK821 := zm (blk_below (zb BK821) hb)
      replace BK828 := zm (blk_below (zb BK828) hb)
      replace HB := zm (below_step zB hb)
      (try clear hb)
      (try clear hb2)
      (try clear hk)
      (try clear hi)
      (try clear ho0)
      (try clear ho1)
      obtain ⟨Ao102, co102, eo102⟩ := Kd.R_slice HO832.out
      (first | subst eo102 | (injection eo102 with f1_ f2_ f3_; have f4_ := f1_.symm; have f5_ := f3_.symm; clear f1_ f2_ f3_; subst f4_; subst f5_))
      obtain ⟨Ao103, co103, eo103⟩ := Kd.R_slice HO835.out
      (first | subst eo103 | (injection eo103 with f1_ f2_ f3_; have f4_ := f1_.symm; have f5_ := f3_.symm; clear f1_ f2_ f3_; subst f4_; subst f5_))
      refine hK.out _ _ ⟨(blk_cell BK821.out 0).trans rfl, (blk_cell BK821.out 1).trans rfl, (blk_cell BK798.out 0).trans rfl, (blk_cell BK798.out 1).trans rfl⟩ (fun hHeld => ?_)
      clear hK K
      refine zn ?_
      refine zo 3 (some 38) (zl 5 15) (fun K hK => ?_)
      refine zgo #[.agg #[.slice Ao84 t815.length co84, .slice Ao88 t818.length co88], .agg #[.slice Ao102 t830.length co102, .slice Ao103 t833.length co103]] Try.func39 ?_
      with_reducible refine (laws_eqState.calls k _ _ t815 _ _ t818 _ _ t830 _ _ t833 true _ ?side1 ?side2 ?side3 ?side4 ?side5 ?side6 ?side7 ?side8 A61.out).mono ?_
      (case side1 => repeat (first | exact (Kd.R_reads' HO817.out).2.2 | (with_reducible refine Kd.C_alloc ?_ _) | (with_reducible refine Kd.C_drewN ?_ _) | (with_reducible refine Kd.C_drew ?_)))
      (case side2 => exact (Kd.R_reads' HO817.out).2.1)
      (case side3 => repeat (first | exact (Kd.R_reads' HO820.out).2.2 | (with_reducible refine Kd.C_alloc ?_ _) | (with_reducible refine Kd.C_drewN ?_ _) | (with_reducible refine Kd.C_drew ?_)))
      (case side4 => exact (Kd.R_reads' HO820.out).2.1)
      (case side5 => repeat (first | exact (Kd.R_reads' HO832.out).2.2 | (with_reducible refine Kd.C_alloc ?_ _) | (with_reducible refine Kd.C_drewN ?_ _) | (with_reducible refine Kd.C_drew ?_)))
      (case side6 => exact (Kd.R_reads' HO832.out).2.1)
      (case side7 => repeat (first | exact (Kd.R_reads' HO835.out).2.2 | (with_reducible refine Kd.C_alloc ?_ _) | (with_reducible refine Kd.C_drewN ?_ _) | (with_reducible refine Kd.C_drew ?_)))
      (case side8 => exact (Kd.R_reads' HO835.out).2.1)
      rintro e w104 ⟨rfl, hb⟩
      refine ⟨_, rfl, ?_⟩
      replace HO804 := zm (Kd.R_below (zr HO804) hb)
      replace HO807 := zm (Kd.R_below (zr HO807) hb)
      replace HO810 := zm (Kd.R_below (zr HO810) hb)
      replace HO813 := zm (Kd.R_below (zr HO813) hb)
      replace HO817 := zm (Kd.R_below (zr HO817) hb)
      replace HO820 := zm (Kd.R_below (zr HO820) hb)
      replace HO824 := zm (Kd.R_below (zr HO824) hb)
      replace HO827 := zm (Kd.R_below (zr HO827) hb)
      replace HO832 := zm (Kd.R_below (zr HO832) hb)
      replace HO835 := zm (Kd.R_below (zr HO835) hb)
      replace BK798 := zm (blk_below (zb BK798) hb)
      replace BK799 := zm (blk_below (zb BK799) hb)
      replace BK821 := zm (blk_below (zb BK821) hb)
      replace BK828 := zm (blk_below (zb BK828) hb)
      replace HB := zm (below_step zB hb)
      (try clear hb)
      (try clear hb2)
      (try clear hk)
      (try clear hi)
      refine hK.out _ _ ⟨(blk_cell BK821.out 0).trans rfl, (blk_cell BK821.out 1).trans rfl, (blk_cell BK798.out 0).trans rfl, (blk_cell BK798.out 1).trans rfl⟩ (fun hHeld => ?_)
      clear hK K
      refine zn ?_
      refine zp 4 (some 39) (zl 5 31) ?_
      refine done_ (by kernel_rfl) ?_
      try go_wp2
      replace HO804 := zm (Kd.R_drew HO804.out)
      replace HO807 := zm (Kd.R_drew HO807.out)
      replace HO810 := zm (Kd.R_drew HO810.out)
      replace HO813 := zm (Kd.R_drew HO813.out)
      replace HO817 := zm (Kd.R_drew HO817.out)
      replace HO820 := zm (Kd.R_drew HO820.out)
      replace HO824 := zm (Kd.R_drew HO824.out)
      replace HO827 := zm (Kd.R_drew HO827.out)
      replace HO832 := zm (Kd.R_drew HO832.out)
      replace HO835 := zm (Kd.R_drew HO835.out)
      replace BK798 := zm (blk_drew BK798.out)
      replace BK799 := zm (blk_drew BK799.out)
      replace BK821 := zm (blk_drew BK821.out)
      replace BK828 := zm (blk_drew BK828.out)
      replace HB := zm (below_drew1 HB.out)
      refine start_ (n := 5) (S := fun w' => w'.cell? ⟨gb828, 0, none⟩ = some (.slice Ao92 t822.length co92) ∧ w'.cell? ⟨gb828, 1, none⟩ = some (.slice Ao97 t825.length co97) ∧ w'.cell? ⟨gb799, 0, none⟩ = some (.slice A1_0 l1_0.length c1_0) ∧ w'.cell? ⟨gb799, 1, none⟩ = some (.slice A1_1 l1_1.length c1_1)) (ds := []) (zl 5 0) (by kernel_rfl) rfl rfl ⟨(blk_cell BK828.out 0).trans rfl, (blk_cell BK828.out 1).trans rfl, (blk_cell BK799.out 0).trans rfl, (blk_cell BK799.out 1).trans rfl⟩ (fun hHeld => ?_)
      generalize w104.drew = w105 at HO804 HO807 HO810 HO813 HO817 HO820 HO824 HO827 HO832 HO835 BK798 BK799 BK821 BK828 HB hHeld ⊢
      refine zt 0 (some 40) (zl 5 1) ?_
      refine zt 1 (some 41) (zl 5 3) ?_
      refine zo 2 (some 42) (zl 5 7) (fun K hK => ?_)
      refine zgo #[.agg #[.slice A1_0 l1_0.length c1_0, .slice A1_1 l1_1.length c1_1]] Try.func37 ?_
      with_reducible refine (laws_toState.calls k _ _ l1_0 _ _ l1_1 t837 t840 _ (zk (Kd.C_below HR1_0.out HB.out)) HC1_0.out (zk (Kd.C_below HR1_1.out HB.out)) HC1_1.out A63.out).mono ?_
      rintro e w106 ⟨v838, v841, rfl, ho0, ho1, hb⟩
      refine ⟨_, rfl, ?_⟩
      have HO839 := zm (Kd.R_lower (Kd.R_new' (Kd.R_new' (Kd.R_new' (Kd.R_new' (Kd.R_new' ho0 (Kd.R_lt (zr HO804))) (Kd.R_lt (zr HO810))) (Kd.R_lt (zr HO817))) (Kd.R_lt (zr HO824))) (Kd.R_lt (zr HO832))) (below_size zB))
      replace HO804 := zm (Kd.R_elder' (zr HO804) (Kd.R_base ho0) hb)
      replace HO810 := zm (Kd.R_elder' (zr HO810) (Kd.R_base ho0) hb)
      replace HO817 := zm (Kd.R_elder' (zr HO817) (Kd.R_base ho0) hb)
      replace HO824 := zm (Kd.R_elder' (zr HO824) (Kd.R_base ho0) hb)
      replace HO832 := zm (Kd.R_elder' (zr HO832) (Kd.R_base ho0) hb)
      have HO842 := zm (Kd.R_lower (Kd.R_new' (Kd.R_new' (Kd.R_new' (Kd.R_new' (Kd.R_new' ho1 (Kd.R_lt (zr HO807))) (Kd.R_lt (zr HO813))) (Kd.R_lt (zr HO820))) (Kd.R_lt (zr HO827))) (Kd.R_lt (zr HO835))) (below_size zB))
      replace HO807 := zm (Kd.R_elder' (zr HO807) (Kd.R_base ho1) hb)
      replace HO813 := zm (Kd.R_elder' (zr HO813) (Kd.R_base ho1) hb)
      replace HO820 := zm (Kd.R_elder' (zr HO820) (Kd.R_base ho1) hb)
      replace HO827 := zm (Kd.R_elder' (zr HO827) (Kd.R_base ho1) hb)
      replace HO835 := zm (Kd.R_elder' (zr HO835) (Kd.R_base ho1) hb)
      replace BK798 := zm (blk_below (zb BK798) hb)
      replace BK799 := zm (blk_below (zb BK799) hb)
      replace BK821 := zm (blk_below (zb BK821) hb)
      replace BK828 := zm (blk_below (zb BK828) hb)
      replace HB := zm (below_step zB hb)
      (try clear hb)
      (try clear hb2)
      (try clear hk)
      (try clear hi)
      (try clear ho0)
      (try clear ho1)
      obtain ⟨Ao107, co107, eo107⟩ := Kd.R_slice HO839.out
      (first | subst eo107 | (injection eo107 with f1_ f2_ f3_; have f4_ := f1_.symm; have f5_ := f3_.symm; clear f1_ f2_ f3_; subst f4_; subst f5_))
      obtain ⟨Ao108, co108, eo108⟩ := Kd.R_slice HO842.out
      (first | subst eo108 | (injection eo108 with f1_ f2_ f3_; have f4_ := f1_.symm; have f5_ := f3_.symm; clear f1_ f2_ f3_; subst f4_; subst f5_))
      refine hK.out _ _ ⟨(blk_cell BK828.out 0).trans rfl, (blk_cell BK828.out 1).trans rfl, (blk_cell BK799.out 0).trans rfl, (blk_cell BK799.out 1).trans rfl⟩ (fun hHeld => ?_)
      clear hK K
      refine zn ?_
      refine zo 3 (some 43) (zl 5 15) (fun K hK => ?_)
      refine zgo #[.agg #[.slice Ao92 t822.length co92, .slice Ao97 t825.length co97], .agg #[.slice Ao107 t837.length co107, .slice Ao108 t840.length co108]] Try.func39 ?_
      with_reducible refine (laws_eqState.calls k _ _ t822 _ _ t825 _ _ t837 _ _ t840 true _ ?side1 ?side2 ?side3 ?side4 ?side5 ?side6 ?side7 ?side8 A64.out).mono ?_
      (case side1 => repeat (first | exact (Kd.R_reads' HO824.out).2.2 | (with_reducible refine Kd.C_alloc ?_ _) | (with_reducible refine Kd.C_drewN ?_ _) | (with_reducible refine Kd.C_drew ?_)))
      (case side2 => exact (Kd.R_reads' HO824.out).2.1)
      (case side3 => repeat (first | exact (Kd.R_reads' HO827.out).2.2 | (with_reducible refine Kd.C_alloc ?_ _) | (with_reducible refine Kd.C_drewN ?_ _) | (with_reducible refine Kd.C_drew ?_)))
      (case side4 => exact (Kd.R_reads' HO827.out).2.1)
      (case side5 => repeat (first | exact (Kd.R_reads' HO839.out).2.2 | (with_reducible refine Kd.C_alloc ?_ _) | (with_reducible refine Kd.C_drewN ?_ _) | (with_reducible refine Kd.C_drew ?_)))
      (case side6 => exact (Kd.R_reads' HO839.out).2.1)
      (case side7 => repeat (first | exact (Kd.R_reads' HO842.out).2.2 | (with_reducible refine Kd.C_alloc ?_ _) | (with_reducible refine Kd.C_drewN ?_ _) | (with_reducible refine Kd.C_drew ?_)))
      (case side8 => exact (Kd.R_reads' HO842.out).2.1)
      rintro e w109 ⟨rfl, hb⟩
      refine ⟨_, rfl, ?_⟩
      replace HO804 := zm (Kd.R_below (zr HO804) hb)
      replace HO807 := zm (Kd.R_below (zr HO807) hb)
      replace HO810 := zm (Kd.R_below (zr HO810) hb)
      replace HO813 := zm (Kd.R_below (zr HO813) hb)
      replace HO817 := zm (Kd.R_below (zr HO817) hb)
      replace HO820 := zm (Kd.R_below (zr HO820) hb)
      replace HO824 := zm (Kd.R_below (zr HO824) hb)
      replace HO827 := zm (Kd.R_below (zr HO827) hb)
      replace HO832 := zm (Kd.R_below (zr HO832) hb)
      replace HO835 := zm (Kd.R_below (zr HO835) hb)
      replace HO839 := zm (Kd.R_below (zr HO839) hb)
      replace HO842 := zm (Kd.R_below (zr HO842) hb)
      replace BK798 := zm (blk_below (zb BK798) hb)
      replace BK799 := zm (blk_below (zb BK799) hb)
      replace BK821 := zm (blk_below (zb BK821) hb)
      replace BK828 := zm (blk_below (zb BK828) hb)
      replace HB := zm (below_step zB hb)
      (try clear hb)
      (try clear hb2)
      (try clear hk)
      (try clear hi)
      refine hK.out _ _ ⟨(blk_cell BK828.out 0).trans rfl, (blk_cell BK828.out 1).trans rfl, (blk_cell BK799.out 0).trans rfl, (blk_cell BK799.out 1).trans rfl⟩ (fun hHeld => ?_)
      clear hK K
      refine zn ?_
      refine zp 4 (some 44) (zl 5 31) ?_
      refine done_ (by kernel_rfl) ?_
      try go_wp2
      go_ret
      exact ⟨zE, zB⟩
     ·replace c65 := Bool.eq_false_iff.mpr c65
      subst c65
      have H1 : (some false) = some r := by rw [if_neg (show ¬ (false = true) by decide)] at H; exact H
      clear H
      have H := H1
      clear H1
      obtain rfl := Option.some.inj H
      go_enter Try.func14, Try.ntmps14
      try go_wp2_with (first | ((with_reducible refine gate_dst (N := 2) rfl ?_); refine zbox 2 #[.slice A0_0 l0_0.length c0_0, .slice A0_1 l0_1.length c0_1] 48 ?_; intro gb798 hg w110 hbox hb; have BK798 := zm (hbox); have GW798 := zge w hg zB; have GE798 := zge w hg zB; replace HB := zm (below_step zB hb); clear hb hbox hg) | ((with_reducible refine gate_dst (N := 3) rfl ?_); refine zbox 3 #[.slice A1_0 l1_0.length c1_0, .slice A1_1 l1_1.length c1_1] 48 ?_; intro gb799 hg w111 hbox hb; have BK799 := zm (hbox); have GW799 := zge w hg zB; have GE799 := zge w hg zB; replace HB := zm (below_step zB hb); have NB798_799 := zlt hg (zb BK798); have NB799_798 := zgt hg (zb BK798); replace BK798 := zm (blk_below (zb BK798) hb); clear hb hbox hg; have hnb112 := NB798_799.out; have hnc112 := NB799_798.out; have hcz113_0 : w111.cell? ⟨gb798, 0, none⟩ = some (.slice A0_0 l0_0.length c0_0) := (blk_cell BK798.out 0).trans rfl; have hcz113_1 : w111.cell? ⟨gb798, 1, none⟩ = some (.slice A0_1 l0_1.length c0_1) := (blk_cell BK798.out 1).trans rfl; have hfz113_0 := blk_frozen BK798.out 0; have hfz113_1 := blk_frozen BK798.out 1) | ((with_reducible refine gate_callee (f := 35) rfl ?_); refine zg (some 12) #[.agg #[.slice A0_0 l0_0.length c0_0, .slice A0_1 l0_1.length c0_1], .int .i64 1048576] Try.func35 ?_; (with_reducible refine (laws_szState.calls k _ _ l0_0 _ _ l0_1 1048576 t800 _ (zk (Kd.C_below HR0_0.out HB.out)) HC0_0.out (zk (Kd.C_below HR0_1.out HB.out)) HC0_1.out A3.out).mono ?_); rintro e w114 ⟨rfl, hb⟩; refine ⟨_, rfl, ?_⟩; replace BK798 := zm (blk_below (zb BK798) hb); replace BK799 := zm (blk_below (zb BK799) hb); replace HB := zm (below_step zB hb); clear hb; have hcz115_0 : w114.cell? ⟨gb799, 0, none⟩ = some (.slice A1_0 l1_0.length c1_0) := (blk_cell BK799.out 0).trans rfl; have hcz115_1 : w114.cell? ⟨gb799, 1, none⟩ = some (.slice A1_1 l1_1.length c1_1) := (blk_cell BK799.out 1).trans rfl; have hfz115_0 := blk_frozen BK799.out 0; have hfz115_1 := blk_frozen BK799.out 1) | ((with_reducible refine gate_callee (f := 35) rfl ?_); refine zg (some 17) #[.agg #[.slice A1_0 l1_0.length c1_0, .slice A1_1 l1_1.length c1_1], .int .i64 t800] Try.func35 ?_; (with_reducible refine (laws_szState.calls k _ _ l1_0 _ _ l1_1 t800 t801 _ (zk (Kd.C_below HR1_0.out HB.out)) HC1_0.out (zk (Kd.C_below HR1_1.out HB.out)) HC1_1.out A10.out).mono ?_); rintro e w116 ⟨rfl, hb⟩; refine ⟨_, rfl, ?_⟩; replace BK798 := zm (blk_below (zb BK798) hb); replace BK799 := zm (blk_below (zb BK799) hb); replace HB := zm (below_step zB hb); clear hb))
      replace BK798 := zm (blk_drew BK798.out)
      replace BK799 := zm (blk_drew BK799.out)
      replace HB := zm (below_drew1 HB.out)
      refine start_ (n := 6) (S := fun w' => w'.cell? ⟨gb798, 0, none⟩ = some (.slice A0_0 l0_0.length c0_0) ∧ w'.cell? ⟨gb798, 1, none⟩ = some (.slice A0_1 l0_1.length c0_1) ∧ w'.cell? ⟨gb799, 0, none⟩ = some (.slice A1_0 l1_0.length c1_0) ∧ w'.cell? ⟨gb799, 1, none⟩ = some (.slice A1_1 l1_1.length c1_1)) (ds := []) (zl 6 0) (by kernel_rfl) rfl rfl ⟨(blk_cell BK798.out 0).trans rfl, (blk_cell BK798.out 1).trans rfl, (blk_cell BK799.out 0).trans rfl, (blk_cell BK799.out 1).trans rfl⟩ (fun hHeld => ?_)
      generalize w116.drew = w117 at BK798 BK799 HB hHeld ⊢
      refine zt 0 (some 20) (zl 6 1) ?_
      refine zt 2 (some 22) (zl 6 5) ?_
      refine zo 1 (some 21) (zl 6 7) (fun K hK => ?_)
      refine zgo #[.agg #[.slice A0_0 l0_0.length c0_0, .slice A0_1 l0_1.length c0_1]] Try.func37 ?_
      with_reducible refine (laws_toState.calls k _ _ l0_0 _ _ l0_1 t802 t805 _ (zk (Kd.C_below HR0_0.out HB.out)) HC0_0.out (zk (Kd.C_below HR0_1.out HB.out)) HC0_1.out A19.out).mono ?_
      rintro e w118 ⟨v803, v806, rfl, ho0, ho1, hb⟩
      refine ⟨_, rfl, ?_⟩
      have HO804 := zm (Kd.R_lower ho0 (below_size zB))
      have HO807 := zm (Kd.R_lower ho1 (below_size zB))
      replace BK798 := zm (blk_below (zb BK798) hb)
      replace BK799 := zm (blk_below (zb BK799) hb)
      replace HB := zm (below_step zB hb)
      (try clear hb)
      (try clear hb2)
      (try clear hk)
      (try clear hi)
      (try clear ho0)
      (try clear ho1)
      refine hK.out _ _ ⟨(blk_cell BK798.out 0).trans rfl, (blk_cell BK798.out 1).trans rfl, (blk_cell BK799.out 0).trans rfl, (blk_cell BK799.out 1).trans rfl⟩ (fun hHeld => ?_)
      clear hK K
      refine zn ?_
      refine zo 3 (some 23) (zl 6 15) (fun K hK => ?_)
      refine zgo #[.agg #[.slice A1_0 l1_0.length c1_0, .slice A1_1 l1_1.length c1_1]] Try.func37 ?_
      with_reducible refine (laws_toState.calls k _ _ l1_0 _ _ l1_1 t808 t811 _ (zk (Kd.C_below HR1_0.out HB.out)) HC1_0.out (zk (Kd.C_below HR1_1.out HB.out)) HC1_1.out A20.out).mono ?_
      rintro e w119 ⟨v809, v812, rfl, ho0, ho1, hb⟩
      refine ⟨_, rfl, ?_⟩
      have HO810 := zm (Kd.R_lower (Kd.R_new' ho0 (Kd.R_lt (zr HO804))) (below_size zB))
      replace HO804 := zm (Kd.R_elder' (zr HO804) (Kd.R_base ho0) hb)
      have HO813 := zm (Kd.R_lower (Kd.R_new' ho1 (Kd.R_lt (zr HO807))) (below_size zB))
      replace HO807 := zm (Kd.R_elder' (zr HO807) (Kd.R_base ho1) hb)
      replace BK798 := zm (blk_below (zb BK798) hb)
      replace BK799 := zm (blk_below (zb BK799) hb)
      replace HB := zm (below_step zB hb)
      (try clear hb)
      (try clear hb2)
      (try clear hk)
      (try clear hi)
      (try clear ho0)
      (try clear ho1)
      obtain ⟨Ao120, co120, eo120⟩ := Kd.R_slice HO804.out
      (first | subst eo120 | (injection eo120 with f1_ f2_ f3_; have f4_ := f1_.symm; have f5_ := f3_.symm; clear f1_ f2_ f3_; subst f4_; subst f5_))
      obtain ⟨Ao121, co121, eo121⟩ := Kd.R_slice HO807.out
      (first | subst eo121 | (injection eo121 with f1_ f2_ f3_; have f4_ := f1_.symm; have f5_ := f3_.symm; clear f1_ f2_ f3_; subst f4_; subst f5_))
      obtain ⟨Ao122, co122, eo122⟩ := Kd.R_slice HO810.out
      (first | subst eo122 | (injection eo122 with f1_ f2_ f3_; have f4_ := f1_.symm; have f5_ := f3_.symm; clear f1_ f2_ f3_; subst f4_; subst f5_))
      obtain ⟨Ao123, co123, eo123⟩ := Kd.R_slice HO813.out
      (first | subst eo123 | (injection eo123 with f1_ f2_ f3_; have f4_ := f1_.symm; have f5_ := f3_.symm; clear f1_ f2_ f3_; subst f4_; subst f5_))
      refine hK.out _ _ ⟨(blk_cell BK798.out 0).trans rfl, (blk_cell BK798.out 1).trans rfl, (blk_cell BK799.out 0).trans rfl, (blk_cell BK799.out 1).trans rfl⟩ (fun hHeld => ?_)
      clear hK K
      refine zn ?_
      refine zo 4 (some 24) (zl 6 31) (fun K hK => ?_)
      refine zgo #[.agg #[.slice Ao120 t802.length co120, .slice Ao121 t805.length co121], .agg #[.slice Ao122 t808.length co122, .slice Ao123 t811.length co123]] Try.func59 ?_
      with_reducible refine (spec_StateLeq.calls k _ _ t802 _ _ t805 _ _ t808 _ _ t811 t814 _ ?side1 ?side2 ?side3 ?side4 ?side5 ?side6 ?side7 ?side8 A21.out).mono ?_
      (case side1 => repeat (first | exact (Kd.R_reads' HO804.out).2.2 | (with_reducible refine Kd.C_alloc ?_ _) | (with_reducible refine Kd.C_drewN ?_ _) | (with_reducible refine Kd.C_drew ?_)))
      (case side2 => exact (Kd.R_reads' HO804.out).2.1)
      (case side3 => repeat (first | exact (Kd.R_reads' HO807.out).2.2 | (with_reducible refine Kd.C_alloc ?_ _) | (with_reducible refine Kd.C_drewN ?_ _) | (with_reducible refine Kd.C_drew ?_)))
      (case side4 => exact (Kd.R_reads' HO807.out).2.1)
      (case side5 => repeat (first | exact (Kd.R_reads' HO810.out).2.2 | (with_reducible refine Kd.C_alloc ?_ _) | (with_reducible refine Kd.C_drewN ?_ _) | (with_reducible refine Kd.C_drew ?_)))
      (case side6 => exact (Kd.R_reads' HO810.out).2.1)
      (case side7 => repeat (first | exact (Kd.R_reads' HO813.out).2.2 | (with_reducible refine Kd.C_alloc ?_ _) | (with_reducible refine Kd.C_drewN ?_ _) | (with_reducible refine Kd.C_drew ?_)))
      (case side8 => exact (Kd.R_reads' HO813.out).2.1)
      rintro e w124 ⟨rfl, hb⟩
      refine ⟨_, rfl, ?_⟩
      replace HO804 := zm (Kd.R_below (zr HO804) hb)
      replace HO807 := zm (Kd.R_below (zr HO807) hb)
      replace HO810 := zm (Kd.R_below (zr HO810) hb)
      replace HO813 := zm (Kd.R_below (zr HO813) hb)
      replace BK798 := zm (blk_below (zb BK798) hb)
      replace BK799 := zm (blk_below (zb BK799) hb)
      replace HB := zm (below_step zB hb)
      (try clear hb)
      (try clear hb2)
      (try clear hk)
      (try clear hi)
      refine hK.out _ _ ⟨(blk_cell BK798.out 0).trans rfl, (blk_cell BK798.out 1).trans rfl, (blk_cell BK799.out 0).trans rfl, (blk_cell BK799.out 1).trans rfl⟩ (fun hHeld => ?_)
      clear hK K
      refine zn ?_
      refine zp 5 (some 6) (zl 6 63) ?_
      refine done_ (by kernel_rfl) ?_
      have hcz125_0 : w124.cell? ⟨gb798, 0, none⟩ = some (.slice A0_0 l0_0.length c0_0) := (blk_cell BK798.out 0).trans rfl
      have hcz125_1 : w124.cell? ⟨gb798, 1, none⟩ = some (.slice A0_1 l0_1.length c0_1) := (blk_cell BK798.out 1).trans rfl
      have hfz125_0 := blk_frozen BK798.out 0
      have hfz125_1 := blk_frozen BK798.out 1
      try go_wp2_with (first | ((with_reducible refine gate_callee (f := 37) rfl ?_); refine zg (some 26) #[.agg #[.slice A0_0 l0_0.length c0_0, .slice A0_1 l0_1.length c0_1]] Try.func37 ?_; (with_reducible refine (laws_toState.calls k _ _ l0_0 _ _ l0_1 t815 t818 _ (zk (Kd.C_below HR0_0.out HB.out)) HC0_0.out (zk (Kd.C_below HR0_1.out HB.out)) HC0_1.out A22.out).mono ?_); rintro e w126 ⟨v816, v819, rfl, ho0, ho1, hb⟩; refine ⟨_, rfl, ?_⟩; have HO817 := zm (Kd.R_lower (Kd.R_new' (Kd.R_new' ho0 (Kd.R_lt (zr HO804))) (Kd.R_lt (zr HO810))) (below_size zB)); replace HO804 := zm (Kd.R_elder' (zr HO804) (Kd.R_base ho0) hb); replace HO810 := zm (Kd.R_elder' (zr HO810) (Kd.R_base ho0) hb); have HO820 := zm (Kd.R_lower (Kd.R_new' (Kd.R_new' ho1 (Kd.R_lt (zr HO807))) (Kd.R_lt (zr HO813))) (below_size zB)); replace HO807 := zm (Kd.R_elder' (zr HO807) (Kd.R_base ho1) hb); replace HO813 := zm (Kd.R_elder' (zr HO813) (Kd.R_base ho1) hb); replace BK798 := zm (blk_below (zb BK798) hb); replace BK799 := zm (blk_below (zb BK799) hb); replace HB := zm (below_step zB hb); clear hb ho0 ho1) | ((with_reducible refine gate_dst (N := 7) rfl ?_); refine zbox 7 #[.slice none 0 0, .slice none 0 0] 55 ?_; intro gb821 hg w127 hbox hb; replace HO804 := zm (Kd.R_below (zr HO804) hb); replace HO807 := zm (Kd.R_below (zr HO807) hb); replace HO810 := zm (Kd.R_below (zr HO810) hb); replace HO813 := zm (Kd.R_below (zr HO813) hb); replace HO817 := zm (Kd.R_below (zr HO817) hb); replace HO820 := zm (Kd.R_below (zr HO820) hb); have BK821 := zm (hbox); have GW821 := zge w hg zB; have GE821 := zge w hg zB; replace HB := zm (below_step zB hb); have NB798_821 := zlt hg (zb BK798); have NB821_798 := zgt hg (zb BK798); replace BK798 := zm (blk_below (zb BK798) hb); have NB799_821 := zlt hg (zb BK799); have NB821_799 := zgt hg (zb BK799); replace BK799 := zm (blk_below (zb BK799) hb); clear hb hbox hg; obtain ⟨Ao128, co128, eo128⟩ := Kd.R_slice HO817.out; subst eo128; have hnb129 := NB821_798.out; have hnc129 := NB798_821.out; have hnb130 := NB821_799.out; have hnc130 := NB799_821.out; have hcz131_0 : w127.cell? ⟨gb821, 0, none⟩ = some (.slice none 0 0) := (blk_cell BK821.out 0).trans rfl; have hcz131_1 : w127.cell? ⟨gb821, 1, none⟩ = some (.slice none 0 0) := (blk_cell BK821.out 1).trans rfl; have hfz131_0 := blk_frozen BK821.out 0; have hfz131_1 := blk_frozen BK821.out 1; obtain ⟨Ao132, co132, eo132⟩ := Kd.R_slice HO820.out; subst eo132; have hcz133_0 : w127.cell? ⟨gb799, 0, none⟩ = some (.slice A1_0 l1_0.length c1_0) := (blk_cell BK799.out 0).trans rfl; have hcz133_1 : w127.cell? ⟨gb799, 1, none⟩ = some (.slice A1_1 l1_1.length c1_1) := (blk_cell BK799.out 1).trans rfl; have hfz133_0 := blk_frozen BK799.out 0; have hfz133_1 := blk_frozen BK799.out 1) | ((with_reducible refine gate_callee (f := 37) rfl ?_); refine zg (some 28) #[.agg #[.slice A1_0 l1_0.length c1_0, .slice A1_1 l1_1.length c1_1]] Try.func37 ?_; (with_reducible refine (laws_toState.calls k _ _ l1_0 _ _ l1_1 t822 t825 _ ?side1 HC1_0.out ?side3 HC1_1.out A23.out).mono ?_); (case side1 => exact Kd.C_below HR1_0.out zB); (case side3 => exact Kd.C_below HR1_1.out zB); rintro e w134 ⟨v823, v826, rfl, ho0, ho1, hb⟩; refine ⟨_, rfl, ?_⟩; have HO824 := zm (Kd.R_lower (Kd.R_new' (Kd.R_new' (Kd.R_new' ho0 (Kd.R_lt (zrs <| (Kd.R_mono (zfr (zfr (Kd.R_types HO804.out BK821.out (by decide)))) (fun _ h_ => h_.1))))) (Kd.R_lt (zrs <| (Kd.R_mono (zfr (zfr (Kd.R_types HO810.out BK821.out (by decide)))) (fun _ h_ => h_.1))))) (Kd.R_lt (zrs <| (Kd.R_mono (zfr (zfr (Kd.R_types HO817.out BK821.out (by decide)))) (fun _ h_ => h_.1))))) (below_size zB)); replace HO804 := zm (Kd.R_elder' (zrs <| (Kd.R_mono (zfr (zfr (Kd.R_types HO804.out BK821.out (by decide)))) (fun _ h_ => h_.1))) (Kd.R_base ho0) hb); replace HO810 := zm (Kd.R_elder' (zrs <| (Kd.R_mono (zfr (zfr (Kd.R_types HO810.out BK821.out (by decide)))) (fun _ h_ => h_.1))) (Kd.R_base ho0) hb); replace HO817 := zm (Kd.R_elder' (zrs <| (Kd.R_mono (zfr (zfr (Kd.R_types HO817.out BK821.out (by decide)))) (fun _ h_ => h_.1))) (Kd.R_base ho0) hb); have HO827 := zm (Kd.R_lower (Kd.R_new' (Kd.R_new' (Kd.R_new' ho1 (Kd.R_lt (zrs <| (Kd.R_mono (zfr (zfr (Kd.R_types HO807.out BK821.out (by decide)))) (fun _ h_ => h_.1))))) (Kd.R_lt (zrs <| (Kd.R_mono (zfr (zfr (Kd.R_types HO813.out BK821.out (by decide)))) (fun _ h_ => h_.1))))) (Kd.R_lt (zrs <| (Kd.R_mono (zfr (zfr (Kd.R_types HO820.out BK821.out (by decide)))) (fun _ h_ => h_.1))))) (below_size zB)); replace HO807 := zm (Kd.R_elder' (zrs <| (Kd.R_mono (zfr (zfr (Kd.R_types HO807.out BK821.out (by decide)))) (fun _ h_ => h_.1))) (Kd.R_base ho1) hb); replace HO813 := zm (Kd.R_elder' (zrs <| (Kd.R_mono (zfr (zfr (Kd.R_types HO813.out BK821.out (by decide)))) (fun _ h_ => h_.1))) (Kd.R_base ho1) hb); replace HO820 := zm (Kd.R_elder' (zrs <| (Kd.R_mono (zfr (zfr (Kd.R_types HO820.out BK821.out (by decide)))) (fun _ h_ => h_.1))) (Kd.R_base ho1) hb); replace BK798 := zm (blk_below (g := gb798) (o := .cells #[.slice A0_0 l0_0.length c0_0, .slice A0_1 l0_1.length c0_1] 48 (0, 0)) (zfar (zfar (zb BK798) NB798_821) NB798_821) hb); replace BK799 := zm (blk_below (g := gb799) (o := .cells #[.slice A1_0 l1_0.length c1_0, .slice A1_1 l1_1.length c1_1] 48 (0, 0)) (zfar (zfar (zb BK799) NB799_821) NB799_821) hb); replace BK821 := zm (blk_below (g := gb821) (o := .cells #[.slice Ao128 t815.length co128, .slice Ao132 t818.length co132] 55 (0, 0)) (zput (zput (zb BK821) 0) 1) hb); replace HB := zm (below_step zB hb); clear hb ho0 ho1) | ((with_reducible refine gate_dst (N := 8) rfl ?_); refine zbox 8 #[.slice none 0 0, .slice none 0 0] 55 ?_; intro gb828 hg w135 hbox hb; replace HO804 := zm (Kd.R_below (zr HO804) hb); replace HO807 := zm (Kd.R_below (zr HO807) hb); replace HO810 := zm (Kd.R_below (zr HO810) hb); replace HO813 := zm (Kd.R_below (zr HO813) hb); replace HO817 := zm (Kd.R_below (zr HO817) hb); replace HO820 := zm (Kd.R_below (zr HO820) hb); replace HO824 := zm (Kd.R_below (zr HO824) hb); replace HO827 := zm (Kd.R_below (zr HO827) hb); have BK828 := zm (hbox); have GW828 := zge w hg zB; have GE828 := zge w hg zB; replace HB := zm (below_step zB hb); have NB798_828 := zlt hg (zb BK798); have NB828_798 := zgt hg (zb BK798); replace BK798 := zm (blk_below (zb BK798) hb); have NB799_828 := zlt hg (zb BK799); have NB828_799 := zgt hg (zb BK799); replace BK799 := zm (blk_below (zb BK799) hb); have NB821_828 := zlt hg (zb BK821); have NB828_821 := zgt hg (zb BK821); replace BK821 := zm (blk_below (zb BK821) hb); clear hb hbox hg; obtain ⟨Ao136, co136, eo136⟩ := Kd.R_slice HO824.out; subst eo136; have hnb137 := NB828_798.out; have hnc137 := NB798_828.out; have hnb138 := NB828_799.out; have hnc138 := NB799_828.out; have hnb139 := NB828_821.out; have hnc139 := NB821_828.out; have hcz140_0 : w135.cell? ⟨gb828, 0, none⟩ = some (.slice none 0 0) := (blk_cell BK828.out 0).trans rfl; have hcz140_1 : w135.cell? ⟨gb828, 1, none⟩ = some (.slice none 0 0) := (blk_cell BK828.out 1).trans rfl; have hfz140_0 := blk_frozen BK828.out 0; have hfz140_1 := blk_frozen BK828.out 1; obtain ⟨Ao141, co141, eo141⟩ := Kd.R_slice HO827.out; subst eo141; have hcz142_0 : w135.cell? ⟨gb821, 0, none⟩ = some (.slice Ao128 t815.length co128) := (blk_cell BK821.out 0).trans rfl; have hcz142_1 : w135.cell? ⟨gb821, 1, none⟩ = some (.slice Ao132 t818.length co132) := (blk_cell BK821.out 1).trans rfl; have hfz142_0 := blk_frozen BK821.out 0; have hfz142_1 := blk_frozen BK821.out 1) | ((with_reducible refine gate_callee (f := 60) rfl ?_); refine zg (some 31) #[.agg #[.slice Ao128 t815.length co128, .slice Ao132 t818.length co132], .agg #[.slice Ao136 t822.length co136, .slice Ao141 t825.length co141]] Try.func60 ?_; (with_reducible refine (impl_StateLeq.calls k _ _ t815 _ _ t818 _ _ t822 _ _ t825 t829 _ ?side1 ?side2 ?side3 ?side4 ?side5 ?side6 ?side7 ?side8 A24.out).mono ?_); (case side1 => refine (Kd.R_reads' (e := 84) (base := w.heap.size) (ok := fun k_ => (((True ∧ some k_ ≠ (.slice Ao120 t802.length co120 : Value).ownBlock) ∧ some k_ ≠ (.slice Ao122 t808.length co122 : Value).ownBlock) ∧ some k_ ≠ (.slice Ao136 t822.length co136 : Value).ownBlock)) (n := t815.length) (c := co128) ?_).2.2; exact (zrs <| (Kd.R_mono (zfr (zfr (Kd.R_types HO817.out BK828.out (by decide)))) (fun _ h_ => h_.1)))); (case side2 => exact (Kd.R_reads' HO817.out).2.1); (case side3 => refine (Kd.R_reads' (e := 89) (base := w.heap.size) (ok := fun k_ => (((True ∧ some k_ ≠ (.slice Ao121 t805.length co121 : Value).ownBlock) ∧ some k_ ≠ (.slice Ao123 t811.length co123 : Value).ownBlock) ∧ some k_ ≠ (.slice Ao141 t825.length co141 : Value).ownBlock)) (n := t818.length) (c := co132) ?_).2.2; exact (zrs <| (Kd.R_mono (zfr (zfr (Kd.R_types HO820.out BK828.out (by decide)))) (fun _ h_ => h_.1)))); (case side4 => exact (Kd.R_reads' HO820.out).2.1); (case side5 => refine (Kd.R_reads' (e := 84) (base := w.heap.size) (ok := fun k_ => (((True ∧ some k_ ≠ (.slice Ao120 t802.length co120 : Value).ownBlock) ∧ some k_ ≠ (.slice Ao122 t808.length co122 : Value).ownBlock) ∧ some k_ ≠ (.slice Ao128 t815.length co128 : Value).ownBlock)) (n := t822.length) (c := co136) ?_).2.2; exact (zrs <| (Kd.R_mono (zfr (zfr (Kd.R_types HO824.out BK828.out (by decide)))) (fun _ h_ => h_.1)))); (case side6 => exact (Kd.R_reads' HO824.out).2.1); (case side7 => refine (Kd.R_reads' (e := 89) (base := w.heap.size) (ok := fun k_ => (((True ∧ some k_ ≠ (.slice Ao121 t805.length co121 : Value).ownBlock) ∧ some k_ ≠ (.slice Ao123 t811.length co123 : Value).ownBlock) ∧ some k_ ≠ (.slice Ao132 t818.length co132 : Value).ownBlock)) (n := t825.length) (c := co141) ?_).2.2; exact (zrs <| (Kd.R_mono (zfr (zfr (Kd.R_types HO827.out BK828.out (by decide)))) (fun _ h_ => h_.1)))); (case side8 => exact (Kd.R_reads' HO827.out).2.1); rintro e w143 ⟨rfl, hb⟩; refine ⟨_, rfl, ?_⟩; replace HO804 := zm (Kd.R_below (zrs <| (Kd.R_mono (zfr (zfr (Kd.R_types HO804.out BK828.out (by decide)))) (fun _ h_ => h_.1))) hb); replace HO807 := zm (Kd.R_below (zrs <| (Kd.R_mono (zfr (zfr (Kd.R_types HO807.out BK828.out (by decide)))) (fun _ h_ => h_.1))) hb); replace HO810 := zm (Kd.R_below (zrs <| (Kd.R_mono (zfr (zfr (Kd.R_types HO810.out BK828.out (by decide)))) (fun _ h_ => h_.1))) hb); replace HO813 := zm (Kd.R_below (zrs <| (Kd.R_mono (zfr (zfr (Kd.R_types HO813.out BK828.out (by decide)))) (fun _ h_ => h_.1))) hb); replace HO817 := zm (Kd.R_below (zrs <| (Kd.R_mono (zfr (zfr (Kd.R_types HO817.out BK828.out (by decide)))) (fun _ h_ => h_.1))) hb); replace HO820 := zm (Kd.R_below (zrs <| (Kd.R_mono (zfr (zfr (Kd.R_types HO820.out BK828.out (by decide)))) (fun _ h_ => h_.1))) hb); replace HO824 := zm (Kd.R_below (zrs <| (Kd.R_mono (zfr (zfr (Kd.R_types HO824.out BK828.out (by decide)))) (fun _ h_ => h_.1))) hb); replace HO827 := zm (Kd.R_below (zrs <| (Kd.R_mono (zfr (zfr (Kd.R_types HO827.out BK828.out (by decide)))) (fun _ h_ => h_.1))) hb); replace BK798 := zm (blk_below (g := gb798) (o := .cells #[.slice A0_0 l0_0.length c0_0, .slice A0_1 l0_1.length c0_1] 48 (0, 0)) (zfar (zfar (zb BK798) NB798_828) NB798_828) hb); replace BK799 := zm (blk_below (g := gb799) (o := .cells #[.slice A1_0 l1_0.length c1_0, .slice A1_1 l1_1.length c1_1] 48 (0, 0)) (zfar (zfar (zb BK799) NB799_828) NB799_828) hb); replace BK821 := zm (blk_below (g := gb821) (o := .cells #[.slice Ao128 t815.length co128, .slice Ao132 t818.length co132] 55 (0, 0)) (zfar (zfar (zb BK821) NB821_828) NB821_828) hb); replace BK828 := zm (blk_below (g := gb828) (o := .cells #[.slice Ao136 t822.length co136, .slice Ao141 t825.length co141] 55 (0, 0)) (zput (zput (zb BK828) 0) 1) hb); replace HB := zm (below_step zB hb); clear hb))
      replace HO804 := zm (Kd.R_drew HO804.out)
      replace HO807 := zm (Kd.R_drew HO807.out)
      replace HO810 := zm (Kd.R_drew HO810.out)
      replace HO813 := zm (Kd.R_drew HO813.out)
      replace HO817 := zm (Kd.R_drew HO817.out)
      replace HO820 := zm (Kd.R_drew HO820.out)
      replace HO824 := zm (Kd.R_drew HO824.out)
      replace HO827 := zm (Kd.R_drew HO827.out)
      replace BK798 := zm (blk_drew BK798.out)
      replace BK799 := zm (blk_drew BK799.out)
      replace BK821 := zm (blk_drew BK821.out)
      replace BK828 := zm (blk_drew BK828.out)
      replace HB := zm (below_drew1 HB.out)
      refine start_ (n := 5) (S := fun w' => w'.cell? ⟨gb821, 0, none⟩ = some (.slice Ao128 t815.length co128) ∧ w'.cell? ⟨gb821, 1, none⟩ = some (.slice Ao132 t818.length co132) ∧ w'.cell? ⟨gb798, 0, none⟩ = some (.slice A0_0 l0_0.length c0_0) ∧ w'.cell? ⟨gb798, 1, none⟩ = some (.slice A0_1 l0_1.length c0_1)) (ds := []) (zl 5 0) (by kernel_rfl) rfl rfl ⟨(blk_cell BK821.out 0).trans rfl, (blk_cell BK821.out 1).trans rfl, (blk_cell BK798.out 0).trans rfl, (blk_cell BK798.out 1).trans rfl⟩ (fun hHeld => ?_)
      generalize w143.drew = w144 at HO804 HO807 HO810 HO813 HO817 HO820 HO824 HO827 BK798 BK799 BK821 BK828 HB hHeld ⊢
      refine zt 0 (some 35) (zl 5 1) ?_
      refine zt 1 (some 36) (zl 5 3) ?_
      refine zo 2 (some 37) (zl 5 7) (fun K hK => ?_)
      refine zgo #[.agg #[.slice A0_0 l0_0.length c0_0, .slice A0_1 l0_1.length c0_1]] Try.func37 ?_
      with_reducible refine (laws_toState.calls k _ _ l0_0 _ _ l0_1 t830 t833 _ (zk (Kd.C_below HR0_0.out HB.out)) HC0_0.out (zk (Kd.C_below HR0_1.out HB.out)) HC0_1.out A60.out).mono ?_
      rintro e w145 ⟨v831, v834, rfl, ho0, ho1, hb⟩
      refine ⟨_, rfl, ?_⟩
      have HO832 := zm (Kd.R_lower (Kd.R_new' (Kd.R_new' (Kd.R_new' (Kd.R_new' ho0 (Kd.R_lt (zr HO804))) (Kd.R_lt (zr HO810))) (Kd.R_lt (zr HO817))) (Kd.R_lt (zr HO824))) (below_size zB))
      replace HO804 := zm (Kd.R_elder' (zr HO804) (Kd.R_base ho0) hb)
      replace HO810 := zm (Kd.R_elder' (zr HO810) (Kd.R_base ho0) hb)
      replace HO817 := zm (Kd.R_elder' (zr HO817) (Kd.R_base ho0) hb)
      replace HO824 := zm (Kd.R_elder' (zr HO824) (Kd.R_base ho0) hb)
      have HO835 := zm (Kd.R_lower (Kd.R_new' (Kd.R_new' (Kd.R_new' (Kd.R_new' ho1 (Kd.R_lt (zr HO807))) (Kd.R_lt (zr HO813))) (Kd.R_lt (zr HO820))) (Kd.R_lt (zr HO827))) (below_size zB))
      replace HO807 := zm (Kd.R_elder' (zr HO807) (Kd.R_base ho1) hb)
      replace HO813 := zm (Kd.R_elder' (zr HO813) (Kd.R_base ho1) hb)
      replace HO820 := zm (Kd.R_elder' (zr HO820) (Kd.R_base ho1) hb)
      replace HO827 := zm (Kd.R_elder' (zr HO827) (Kd.R_base ho1) hb)
      replace BK798 := zm (blk_below (zb BK798) hb)
      replace BK799 := zm (blk_below (zb BK799) hb)
      replace BK821 := zm (blk_below (zb BK821) hb)
      replace BK828 := zm (blk_below (zb BK828) hb)
      replace HB := zm (below_step zB hb)
      (try clear hb)
      (try clear hb2)
      (try clear hk)
      (try clear hi)
      (try clear ho0)
      (try clear ho1)
      obtain ⟨Ao146, co146, eo146⟩ := Kd.R_slice HO832.out
      (first | subst eo146 | (injection eo146 with f1_ f2_ f3_; have f4_ := f1_.symm; have f5_ := f3_.symm; clear f1_ f2_ f3_; subst f4_; subst f5_))
      obtain ⟨Ao147, co147, eo147⟩ := Kd.R_slice HO835.out
      (first | subst eo147 | (injection eo147 with f1_ f2_ f3_; have f4_ := f1_.symm; have f5_ := f3_.symm; clear f1_ f2_ f3_; subst f4_; subst f5_))
      refine hK.out _ _ ⟨(blk_cell BK821.out 0).trans rfl, (blk_cell BK821.out 1).trans rfl, (blk_cell BK798.out 0).trans rfl, (blk_cell BK798.out 1).trans rfl⟩ (fun hHeld => ?_)
      clear hK K
      refine zn ?_
      refine zo 3 (some 38) (zl 5 15) (fun K hK => ?_)
      refine zgo #[.agg #[.slice Ao128 t815.length co128, .slice Ao132 t818.length co132], .agg #[.slice Ao146 t830.length co146, .slice Ao147 t833.length co147]] Try.func39 ?_
      with_reducible refine (laws_eqState.calls k _ _ t815 _ _ t818 _ _ t830 _ _ t833 true _ ?side1 ?side2 ?side3 ?side4 ?side5 ?side6 ?side7 ?side8 A61.out).mono ?_
      (case side1 => repeat (first | exact (Kd.R_reads' HO817.out).2.2 | (with_reducible refine Kd.C_alloc ?_ _) | (with_reducible refine Kd.C_drewN ?_ _) | (with_reducible refine Kd.C_drew ?_)))
      (case side2 => exact (Kd.R_reads' HO817.out).2.1)
      (case side3 => repeat (first | exact (Kd.R_reads' HO820.out).2.2 | (with_reducible refine Kd.C_alloc ?_ _) | (with_reducible refine Kd.C_drewN ?_ _) | (with_reducible refine Kd.C_drew ?_)))
      (case side4 => exact (Kd.R_reads' HO820.out).2.1)
      (case side5 => repeat (first | exact (Kd.R_reads' HO832.out).2.2 | (with_reducible refine Kd.C_alloc ?_ _) | (with_reducible refine Kd.C_drewN ?_ _) | (with_reducible refine Kd.C_drew ?_)))
      (case side6 => exact (Kd.R_reads' HO832.out).2.1)
      (case side7 => repeat (first | exact (Kd.R_reads' HO835.out).2.2 | (with_reducible refine Kd.C_alloc ?_ _) | (with_reducible refine Kd.C_drewN ?_ _) | (with_reducible refine Kd.C_drew ?_)))
      (case side8 => exact (Kd.R_reads' HO835.out).2.1)
      rintro e w148 ⟨rfl, hb⟩
      refine ⟨_, rfl, ?_⟩
      replace HO804 := zm (Kd.R_below (zr HO804) hb)
      replace HO807 := zm (Kd.R_below (zr HO807) hb)
      replace HO810 := zm (Kd.R_below (zr HO810) hb)
      replace HO813 := zm (Kd.R_below (zr HO813) hb)
      replace HO817 := zm (Kd.R_below (zr HO817) hb)
      replace HO820 := zm (Kd.R_below (zr HO820) hb)
      replace HO824 := zm (Kd.R_below (zr HO824) hb)
      replace HO827 := zm (Kd.R_below (zr HO827) hb)
      replace HO832 := zm (Kd.R_below (zr HO832) hb)
      replace HO835 := zm (Kd.R_below (zr HO835) hb)
      replace BK798 := zm (blk_below (zb BK798) hb)
      replace BK799 := zm (blk_below (zb BK799) hb)
      replace BK821 := zm (blk_below (zb BK821) hb)
      replace BK828 := zm (blk_below (zb BK828) hb)
      replace HB := zm (below_step zB hb)
      (try clear hb)
      (try clear hb2)
      (try clear hk)
      (try clear hi)
      refine hK.out _ _ ⟨(blk_cell BK821.out 0).trans rfl, (blk_cell BK821.out 1).trans rfl, (blk_cell BK798.out 0).trans rfl, (blk_cell BK798.out 1).trans rfl⟩ (fun hHeld => ?_)
      clear hK K
      refine zn ?_
      refine zp 4 (some 39) (zl 5 31) ?_
      refine done_ (by kernel_rfl) ?_
      try go_wp2
      replace HO804 := zm (Kd.R_drew HO804.out)
      replace HO807 := zm (Kd.R_drew HO807.out)
      replace HO810 := zm (Kd.R_drew HO810.out)
      replace HO813 := zm (Kd.R_drew HO813.out)
      replace HO817 := zm (Kd.R_drew HO817.out)
      replace HO820 := zm (Kd.R_drew HO820.out)
      replace HO824 := zm (Kd.R_drew HO824.out)
      replace HO827 := zm (Kd.R_drew HO827.out)
      replace HO832 := zm (Kd.R_drew HO832.out)
      replace HO835 := zm (Kd.R_drew HO835.out)
      replace BK798 := zm (blk_drew BK798.out)
      replace BK799 := zm (blk_drew BK799.out)
      replace BK821 := zm (blk_drew BK821.out)
      replace BK828 := zm (blk_drew BK828.out)
      replace HB := zm (below_drew1 HB.out)
      refine start_ (n := 5) (S := fun w' => w'.cell? ⟨gb828, 0, none⟩ = some (.slice Ao136 t822.length co136) ∧ w'.cell? ⟨gb828, 1, none⟩ = some (.slice Ao141 t825.length co141) ∧ w'.cell? ⟨gb799, 0, none⟩ = some (.slice A1_0 l1_0.length c1_0) ∧ w'.cell? ⟨gb799, 1, none⟩ = some (.slice A1_1 l1_1.length c1_1)) (ds := []) (zl 5 0) (by kernel_rfl) rfl rfl ⟨(blk_cell BK828.out 0).trans rfl, (blk_cell BK828.out 1).trans rfl, (blk_cell BK799.out 0).trans rfl, (blk_cell BK799.out 1).trans rfl⟩ (fun hHeld => ?_)
      generalize w148.drew = w149 at HO804 HO807 HO810 HO813 HO817 HO820 HO824 HO827 HO832 HO835 BK798 BK799 BK821 BK828 HB hHeld ⊢
      refine zt 0 (some 40) (zl 5 1) ?_
      refine zt 1 (some 41) (zl 5 3) ?_
      refine zo 2 (some 42) (zl 5 7) (fun K hK => ?_)
      refine zgo #[.agg #[.slice A1_0 l1_0.length c1_0, .slice A1_1 l1_1.length c1_1]] Try.func37 ?_
      with_reducible refine (laws_toState.calls k _ _ l1_0 _ _ l1_1 t837 t840 _ (zk (Kd.C_below HR1_0.out HB.out)) HC1_0.out (zk (Kd.C_below HR1_1.out HB.out)) HC1_1.out A63.out).mono ?_
      rintro e w150 ⟨v838, v841, rfl, ho0, ho1, hb⟩
      refine ⟨_, rfl, ?_⟩
      have HO839 := zm (Kd.R_lower (Kd.R_new' (Kd.R_new' (Kd.R_new' (Kd.R_new' (Kd.R_new' ho0 (Kd.R_lt (zr HO804))) (Kd.R_lt (zr HO810))) (Kd.R_lt (zr HO817))) (Kd.R_lt (zr HO824))) (Kd.R_lt (zr HO832))) (below_size zB))
      replace HO804 := zm (Kd.R_elder' (zr HO804) (Kd.R_base ho0) hb)
      replace HO810 := zm (Kd.R_elder' (zr HO810) (Kd.R_base ho0) hb)
      replace HO817 := zm (Kd.R_elder' (zr HO817) (Kd.R_base ho0) hb)
      replace HO824 := zm (Kd.R_elder' (zr HO824) (Kd.R_base ho0) hb)
      replace HO832 := zm (Kd.R_elder' (zr HO832) (Kd.R_base ho0) hb)
      have HO842 := zm (Kd.R_lower (Kd.R_new' (Kd.R_new' (Kd.R_new' (Kd.R_new' (Kd.R_new' ho1 (Kd.R_lt (zr HO807))) (Kd.R_lt (zr HO813))) (Kd.R_lt (zr HO820))) (Kd.R_lt (zr HO827))) (Kd.R_lt (zr HO835))) (below_size zB))
      replace HO807 := zm (Kd.R_elder' (zr HO807) (Kd.R_base ho1) hb)
      replace HO813 := zm (Kd.R_elder' (zr HO813) (Kd.R_base ho1) hb)
      replace HO820 := zm (Kd.R_elder' (zr HO820) (Kd.R_base ho1) hb)
      replace HO827 := zm (Kd.R_elder' (zr HO827) (Kd.R_base ho1) hb)
      replace HO835 := zm (Kd.R_elder' (zr HO835) (Kd.R_base ho1) hb)
      replace BK798 := zm (blk_below (zb BK798) hb)
      replace BK799 := zm (blk_below (zb BK799) hb)
      replace BK821 := zm (blk_below (zb BK821) hb)
      replace BK828 := zm (blk_below (zb BK828) hb)
      replace HB := zm (below_step zB hb)
      (try clear hb)
      (try clear hb2)
      (try clear hk)
      (try clear hi)
      (try clear ho0)
      (try clear ho1)
      obtain ⟨Ao151, co151, eo151⟩ := Kd.R_slice HO839.out
      (first | subst eo151 | (injection eo151 with f1_ f2_ f3_; have f4_ := f1_.symm; have f5_ := f3_.symm; clear f1_ f2_ f3_; subst f4_; subst f5_))
      obtain ⟨Ao152, co152, eo152⟩ := Kd.R_slice HO842.out
      (first | subst eo152 | (injection eo152 with f1_ f2_ f3_; have f4_ := f1_.symm; have f5_ := f3_.symm; clear f1_ f2_ f3_; subst f4_; subst f5_))
      refine hK.out _ _ ⟨(blk_cell BK828.out 0).trans rfl, (blk_cell BK828.out 1).trans rfl, (blk_cell BK799.out 0).trans rfl, (blk_cell BK799.out 1).trans rfl⟩ (fun hHeld => ?_)
      clear hK K
      refine zn ?_
      refine zo 3 (some 43) (zl 5 15) (fun K hK => ?_)
      refine zgo #[.agg #[.slice Ao136 t822.length co136, .slice Ao141 t825.length co141], .agg #[.slice Ao151 t837.length co151, .slice Ao152 t840.length co152]] Try.func39 ?_
      with_reducible refine (laws_eqState.calls k _ _ t822 _ _ t825 _ _ t837 _ _ t840 false _ ?side1 ?side2 ?side3 ?side4 ?side5 ?side6 ?side7 ?side8 A64.out).mono ?_
      (case side1 => repeat (first | exact (Kd.R_reads' HO824.out).2.2 | (with_reducible refine Kd.C_alloc ?_ _) | (with_reducible refine Kd.C_drewN ?_ _) | (with_reducible refine Kd.C_drew ?_)))
      (case side2 => exact (Kd.R_reads' HO824.out).2.1)
      (case side3 => repeat (first | exact (Kd.R_reads' HO827.out).2.2 | (with_reducible refine Kd.C_alloc ?_ _) | (with_reducible refine Kd.C_drewN ?_ _) | (with_reducible refine Kd.C_drew ?_)))
      (case side4 => exact (Kd.R_reads' HO827.out).2.1)
      (case side5 => repeat (first | exact (Kd.R_reads' HO839.out).2.2 | (with_reducible refine Kd.C_alloc ?_ _) | (with_reducible refine Kd.C_drewN ?_ _) | (with_reducible refine Kd.C_drew ?_)))
      (case side6 => exact (Kd.R_reads' HO839.out).2.1)
      (case side7 => repeat (first | exact (Kd.R_reads' HO842.out).2.2 | (with_reducible refine Kd.C_alloc ?_ _) | (with_reducible refine Kd.C_drewN ?_ _) | (with_reducible refine Kd.C_drew ?_)))
      (case side8 => exact (Kd.R_reads' HO842.out).2.1)
      rintro e w153 ⟨rfl, hb⟩
      refine ⟨_, rfl, ?_⟩
      replace HO804 := zm (Kd.R_below (zr HO804) hb)
      replace HO807 := zm (Kd.R_below (zr HO807) hb)
      replace HO810 := zm (Kd.R_below (zr HO810) hb)
      replace HO813 := zm (Kd.R_below (zr HO813) hb)
      replace HO817 := zm (Kd.R_below (zr HO817) hb)
      replace HO820 := zm (Kd.R_below (zr HO820) hb)
      replace HO824 := zm (Kd.R_below (zr HO824) hb)
      replace HO827 := zm (Kd.R_below (zr HO827) hb)
      replace HO832 := zm (Kd.R_below (zr HO832) hb)
      replace HO835 := zm (Kd.R_below (zr HO835) hb)
      replace HO839 := zm (Kd.R_below (zr HO839) hb)
      replace HO842 := zm (Kd.R_below (zr HO842) hb)
      replace BK798 := zm (blk_below (zb BK798) hb)
      replace BK799 := zm (blk_below (zb BK799) hb)
      replace BK821 := zm (blk_below (zb BK821) hb)
      replace BK828 := zm (blk_below (zb BK828) hb)
      replace HB := zm (below_step zB hb)
      (try clear hb)
      (try clear hb2)
      (try clear hk)
      (try clear hi)
      refine hK.out _ _ ⟨(blk_cell BK828.out 0).trans rfl, (blk_cell BK828.out 1).trans rfl, (blk_cell BK799.out 0).trans rfl, (blk_cell BK799.out 1).trans rfl⟩ (fun hHeld => ?_)
      clear hK K
      refine zn ?_
      refine zp 4 (some 44) (zl 5 31) ?_
      refine done_ (by kernel_rfl) ?_
      try go_wp2
      go_ret
      exact ⟨zE, zB⟩
    ·replace c62 := Bool.eq_false_iff.mpr c62
     subst c62
     have H1 : (some false) = some r := by rw [if_neg (show ¬ (false = true) by decide)] at H; exact H
     clear H
     have H := H1
     clear H1
     obtain rfl := Option.some.inj H
     go_enter Try.func14, Try.ntmps14
     try go_wp2_with (first | ((with_reducible refine gate_dst (N := 2) rfl ?_); refine zbox 2 #[.slice A0_0 l0_0.length c0_0, .slice A0_1 l0_1.length c0_1] 48 ?_; intro gb798 hg w154 hbox hb; have BK798 := zm (hbox); have GW798 := zge w hg zB; have GE798 := zge w hg zB; replace HB := zm (below_step zB hb); clear hb hbox hg) | ((with_reducible refine gate_dst (N := 3) rfl ?_); refine zbox 3 #[.slice A1_0 l1_0.length c1_0, .slice A1_1 l1_1.length c1_1] 48 ?_; intro gb799 hg w155 hbox hb; have BK799 := zm (hbox); have GW799 := zge w hg zB; have GE799 := zge w hg zB; replace HB := zm (below_step zB hb); have NB798_799 := zlt hg (zb BK798); have NB799_798 := zgt hg (zb BK798); replace BK798 := zm (blk_below (zb BK798) hb); clear hb hbox hg; have hnb156 := NB798_799.out; have hnc156 := NB799_798.out; have hcz157_0 : w155.cell? ⟨gb798, 0, none⟩ = some (.slice A0_0 l0_0.length c0_0) := (blk_cell BK798.out 0).trans rfl; have hcz157_1 : w155.cell? ⟨gb798, 1, none⟩ = some (.slice A0_1 l0_1.length c0_1) := (blk_cell BK798.out 1).trans rfl; have hfz157_0 := blk_frozen BK798.out 0; have hfz157_1 := blk_frozen BK798.out 1) | ((with_reducible refine gate_callee (f := 35) rfl ?_); refine zg (some 12) #[.agg #[.slice A0_0 l0_0.length c0_0, .slice A0_1 l0_1.length c0_1], .int .i64 1048576] Try.func35 ?_; (with_reducible refine (laws_szState.calls k _ _ l0_0 _ _ l0_1 1048576 t800 _ (zk (Kd.C_below HR0_0.out HB.out)) HC0_0.out (zk (Kd.C_below HR0_1.out HB.out)) HC0_1.out A3.out).mono ?_); rintro e w158 ⟨rfl, hb⟩; refine ⟨_, rfl, ?_⟩; replace BK798 := zm (blk_below (zb BK798) hb); replace BK799 := zm (blk_below (zb BK799) hb); replace HB := zm (below_step zB hb); clear hb; have hcz159_0 : w158.cell? ⟨gb799, 0, none⟩ = some (.slice A1_0 l1_0.length c1_0) := (blk_cell BK799.out 0).trans rfl; have hcz159_1 : w158.cell? ⟨gb799, 1, none⟩ = some (.slice A1_1 l1_1.length c1_1) := (blk_cell BK799.out 1).trans rfl; have hfz159_0 := blk_frozen BK799.out 0; have hfz159_1 := blk_frozen BK799.out 1) | ((with_reducible refine gate_callee (f := 35) rfl ?_); refine zg (some 17) #[.agg #[.slice A1_0 l1_0.length c1_0, .slice A1_1 l1_1.length c1_1], .int .i64 t800] Try.func35 ?_; (with_reducible refine (laws_szState.calls k _ _ l1_0 _ _ l1_1 t800 t801 _ (zk (Kd.C_below HR1_0.out HB.out)) HC1_0.out (zk (Kd.C_below HR1_1.out HB.out)) HC1_1.out A10.out).mono ?_); rintro e w160 ⟨rfl, hb⟩; refine ⟨_, rfl, ?_⟩; replace BK798 := zm (blk_below (zb BK798) hb); replace BK799 := zm (blk_below (zb BK799) hb); replace HB := zm (below_step zB hb); clear hb))
     replace BK798 := zm (blk_drew BK798.out)
     replace BK799 := zm (blk_drew BK799.out)
     replace HB := zm (below_drew1 HB.out)
     refine start_ (n := 6) (S := fun w' => w'.cell? ⟨gb798, 0, none⟩ = some (.slice A0_0 l0_0.length c0_0) ∧ w'.cell? ⟨gb798, 1, none⟩ = some (.slice A0_1 l0_1.length c0_1) ∧ w'.cell? ⟨gb799, 0, none⟩ = some (.slice A1_0 l1_0.length c1_0) ∧ w'.cell? ⟨gb799, 1, none⟩ = some (.slice A1_1 l1_1.length c1_1)) (ds := []) (zl 6 0) (by kernel_rfl) rfl rfl ⟨(blk_cell BK798.out 0).trans rfl, (blk_cell BK798.out 1).trans rfl, (blk_cell BK799.out 0).trans rfl, (blk_cell BK799.out 1).trans rfl⟩ (fun hHeld => ?_)
     generalize w160.drew = w161 at BK798 BK799 HB hHeld ⊢
     refine zt 0 (some 20) (zl 6 1) ?_
     refine zt 2 (some 22) (zl 6 5) ?_
     refine zo 1 (some 21) (zl 6 7) (fun K hK => ?_)
     refine zgo #[.agg #[.slice A0_0 l0_0.length c0_0, .slice A0_1 l0_1.length c0_1]] Try.func37 ?_
     with_reducible refine (laws_toState.calls k _ _ l0_0 _ _ l0_1 t802 t805 _ (zk (Kd.C_below HR0_0.out HB.out)) HC0_0.out (zk (Kd.C_below HR0_1.out HB.out)) HC0_1.out A19.out).mono ?_
     rintro e w162 ⟨v803, v806, rfl, ho0, ho1, hb⟩
     refine ⟨_, rfl, ?_⟩
     have HO804 := zm (Kd.R_lower ho0 (below_size zB))
     have HO807 := zm (Kd.R_lower ho1 (below_size zB))
     replace BK798 := zm (blk_below (zb BK798) hb)
     replace BK799 := zm (blk_below (zb BK799) hb)
     replace HB := zm (below_step zB hb)
     (try clear hb)
     (try clear hb2)
     (try clear hk)
     (try clear hi)
     (try clear ho0)
     (try clear ho1)
     refine hK.out _ _ ⟨(blk_cell BK798.out 0).trans rfl, (blk_cell BK798.out 1).trans rfl, (blk_cell BK799.out 0).trans rfl, (blk_cell BK799.out 1).trans rfl⟩ (fun hHeld => ?_)
     clear hK K
     refine zn ?_
     refine zo 3 (some 23) (zl 6 15) (fun K hK => ?_)
     refine zgo #[.agg #[.slice A1_0 l1_0.length c1_0, .slice A1_1 l1_1.length c1_1]] Try.func37 ?_
     with_reducible refine (laws_toState.calls k _ _ l1_0 _ _ l1_1 t808 t811 _ (zk (Kd.C_below HR1_0.out HB.out)) HC1_0.out (zk (Kd.C_below HR1_1.out HB.out)) HC1_1.out A20.out).mono ?_
     rintro e w163 ⟨v809, v812, rfl, ho0, ho1, hb⟩
     refine ⟨_, rfl, ?_⟩
     have HO810 := zm (Kd.R_lower (Kd.R_new' ho0 (Kd.R_lt (zr HO804))) (below_size zB))
     replace HO804 := zm (Kd.R_elder' (zr HO804) (Kd.R_base ho0) hb)
     have HO813 := zm (Kd.R_lower (Kd.R_new' ho1 (Kd.R_lt (zr HO807))) (below_size zB))
     replace HO807 := zm (Kd.R_elder' (zr HO807) (Kd.R_base ho1) hb)
     replace BK798 := zm (blk_below (zb BK798) hb)
     replace BK799 := zm (blk_below (zb BK799) hb)
     replace HB := zm (below_step zB hb)
     (try clear hb)
     (try clear hb2)
     (try clear hk)
     (try clear hi)
     (try clear ho0)
     (try clear ho1)
     obtain ⟨Ao164, co164, eo164⟩ := Kd.R_slice HO804.out
     (first | subst eo164 | (injection eo164 with f1_ f2_ f3_; have f4_ := f1_.symm; have f5_ := f3_.symm; clear f1_ f2_ f3_; subst f4_; subst f5_))
     obtain ⟨Ao165, co165, eo165⟩ := Kd.R_slice HO807.out
     (first | subst eo165 | (injection eo165 with f1_ f2_ f3_; have f4_ := f1_.symm; have f5_ := f3_.symm; clear f1_ f2_ f3_; subst f4_; subst f5_))
     obtain ⟨Ao166, co166, eo166⟩ := Kd.R_slice HO810.out
     (first | subst eo166 | (injection eo166 with f1_ f2_ f3_; have f4_ := f1_.symm; have f5_ := f3_.symm; clear f1_ f2_ f3_; subst f4_; subst f5_))
     obtain ⟨Ao167, co167, eo167⟩ := Kd.R_slice HO813.out
     (first | subst eo167 | (injection eo167 with f1_ f2_ f3_; have f4_ := f1_.symm; have f5_ := f3_.symm; clear f1_ f2_ f3_; subst f4_; subst f5_))
     refine hK.out _ _ ⟨(blk_cell BK798.out 0).trans rfl, (blk_cell BK798.out 1).trans rfl, (blk_cell BK799.out 0).trans rfl, (blk_cell BK799.out 1).trans rfl⟩ (fun hHeld => ?_)
     clear hK K
     refine zn ?_
     refine zo 4 (some 24) (zl 6 31) (fun K hK => ?_)
     refine zgo #[.agg #[.slice Ao164 t802.length co164, .slice Ao165 t805.length co165], .agg #[.slice Ao166 t808.length co166, .slice Ao167 t811.length co167]] Try.func59 ?_
     with_reducible refine (spec_StateLeq.calls k _ _ t802 _ _ t805 _ _ t808 _ _ t811 t814 _ ?side1 ?side2 ?side3 ?side4 ?side5 ?side6 ?side7 ?side8 A21.out).mono ?_
     (case side1 => repeat (first | exact (Kd.R_reads' HO804.out).2.2 | (with_reducible refine Kd.C_alloc ?_ _) | (with_reducible refine Kd.C_drewN ?_ _) | (with_reducible refine Kd.C_drew ?_)))
     (case side2 => exact (Kd.R_reads' HO804.out).2.1)
     (case side3 => repeat (first | exact (Kd.R_reads' HO807.out).2.2 | (with_reducible refine Kd.C_alloc ?_ _) | (with_reducible refine Kd.C_drewN ?_ _) | (with_reducible refine Kd.C_drew ?_)))
     (case side4 => exact (Kd.R_reads' HO807.out).2.1)
     (case side5 => repeat (first | exact (Kd.R_reads' HO810.out).2.2 | (with_reducible refine Kd.C_alloc ?_ _) | (with_reducible refine Kd.C_drewN ?_ _) | (with_reducible refine Kd.C_drew ?_)))
     (case side6 => exact (Kd.R_reads' HO810.out).2.1)
     (case side7 => repeat (first | exact (Kd.R_reads' HO813.out).2.2 | (with_reducible refine Kd.C_alloc ?_ _) | (with_reducible refine Kd.C_drewN ?_ _) | (with_reducible refine Kd.C_drew ?_)))
     (case side8 => exact (Kd.R_reads' HO813.out).2.1)
     rintro e w168 ⟨rfl, hb⟩
     refine ⟨_, rfl, ?_⟩
     replace HO804 := zm (Kd.R_below (zr HO804) hb)
     replace HO807 := zm (Kd.R_below (zr HO807) hb)
     replace HO810 := zm (Kd.R_below (zr HO810) hb)
     replace HO813 := zm (Kd.R_below (zr HO813) hb)
     replace BK798 := zm (blk_below (zb BK798) hb)
     replace BK799 := zm (blk_below (zb BK799) hb)
     replace HB := zm (below_step zB hb)
     (try clear hb)
     (try clear hb2)
     (try clear hk)
     (try clear hi)
     refine hK.out _ _ ⟨(blk_cell BK798.out 0).trans rfl, (blk_cell BK798.out 1).trans rfl, (blk_cell BK799.out 0).trans rfl, (blk_cell BK799.out 1).trans rfl⟩ (fun hHeld => ?_)
     clear hK K
     refine zn ?_
     refine zp 5 (some 6) (zl 6 63) ?_
     refine done_ (by kernel_rfl) ?_
     have hcz169_0 : w168.cell? ⟨gb798, 0, none⟩ = some (.slice A0_0 l0_0.length c0_0) := (blk_cell BK798.out 0).trans rfl
     have hcz169_1 : w168.cell? ⟨gb798, 1, none⟩ = some (.slice A0_1 l0_1.length c0_1) := (blk_cell BK798.out 1).trans rfl
     have hfz169_0 := blk_frozen BK798.out 0
     have hfz169_1 := blk_frozen BK798.out 1
     try go_wp2_with (first | ((with_reducible refine gate_callee (f := 37) rfl ?_); refine zg (some 26) #[.agg #[.slice A0_0 l0_0.length c0_0, .slice A0_1 l0_1.length c0_1]] Try.func37 ?_; (with_reducible refine (laws_toState.calls k _ _ l0_0 _ _ l0_1 t815 t818 _ (zk (Kd.C_below HR0_0.out HB.out)) HC0_0.out (zk (Kd.C_below HR0_1.out HB.out)) HC0_1.out A22.out).mono ?_); rintro e w170 ⟨v816, v819, rfl, ho0, ho1, hb⟩; refine ⟨_, rfl, ?_⟩; have HO817 := zm (Kd.R_lower (Kd.R_new' (Kd.R_new' ho0 (Kd.R_lt (zr HO804))) (Kd.R_lt (zr HO810))) (below_size zB)); replace HO804 := zm (Kd.R_elder' (zr HO804) (Kd.R_base ho0) hb); replace HO810 := zm (Kd.R_elder' (zr HO810) (Kd.R_base ho0) hb); have HO820 := zm (Kd.R_lower (Kd.R_new' (Kd.R_new' ho1 (Kd.R_lt (zr HO807))) (Kd.R_lt (zr HO813))) (below_size zB)); replace HO807 := zm (Kd.R_elder' (zr HO807) (Kd.R_base ho1) hb); replace HO813 := zm (Kd.R_elder' (zr HO813) (Kd.R_base ho1) hb); replace BK798 := zm (blk_below (zb BK798) hb); replace BK799 := zm (blk_below (zb BK799) hb); replace HB := zm (below_step zB hb); clear hb ho0 ho1) | ((with_reducible refine gate_dst (N := 7) rfl ?_); refine zbox 7 #[.slice none 0 0, .slice none 0 0] 55 ?_; intro gb821 hg w171 hbox hb; replace HO804 := zm (Kd.R_below (zr HO804) hb); replace HO807 := zm (Kd.R_below (zr HO807) hb); replace HO810 := zm (Kd.R_below (zr HO810) hb); replace HO813 := zm (Kd.R_below (zr HO813) hb); replace HO817 := zm (Kd.R_below (zr HO817) hb); replace HO820 := zm (Kd.R_below (zr HO820) hb); have BK821 := zm (hbox); have GW821 := zge w hg zB; have GE821 := zge w hg zB; replace HB := zm (below_step zB hb); have NB798_821 := zlt hg (zb BK798); have NB821_798 := zgt hg (zb BK798); replace BK798 := zm (blk_below (zb BK798) hb); have NB799_821 := zlt hg (zb BK799); have NB821_799 := zgt hg (zb BK799); replace BK799 := zm (blk_below (zb BK799) hb); clear hb hbox hg; obtain ⟨Ao172, co172, eo172⟩ := Kd.R_slice HO817.out; subst eo172; have hnb173 := NB821_798.out; have hnc173 := NB798_821.out; have hnb174 := NB821_799.out; have hnc174 := NB799_821.out; have hcz175_0 : w171.cell? ⟨gb821, 0, none⟩ = some (.slice none 0 0) := (blk_cell BK821.out 0).trans rfl; have hcz175_1 : w171.cell? ⟨gb821, 1, none⟩ = some (.slice none 0 0) := (blk_cell BK821.out 1).trans rfl; have hfz175_0 := blk_frozen BK821.out 0; have hfz175_1 := blk_frozen BK821.out 1; obtain ⟨Ao176, co176, eo176⟩ := Kd.R_slice HO820.out; subst eo176; have hcz177_0 : w171.cell? ⟨gb799, 0, none⟩ = some (.slice A1_0 l1_0.length c1_0) := (blk_cell BK799.out 0).trans rfl; have hcz177_1 : w171.cell? ⟨gb799, 1, none⟩ = some (.slice A1_1 l1_1.length c1_1) := (blk_cell BK799.out 1).trans rfl; have hfz177_0 := blk_frozen BK799.out 0; have hfz177_1 := blk_frozen BK799.out 1) | ((with_reducible refine gate_callee (f := 37) rfl ?_); refine zg (some 28) #[.agg #[.slice A1_0 l1_0.length c1_0, .slice A1_1 l1_1.length c1_1]] Try.func37 ?_; (with_reducible refine (laws_toState.calls k _ _ l1_0 _ _ l1_1 t822 t825 _ ?side1 HC1_0.out ?side3 HC1_1.out A23.out).mono ?_); (case side1 => exact Kd.C_below HR1_0.out zB); (case side3 => exact Kd.C_below HR1_1.out zB); rintro e w178 ⟨v823, v826, rfl, ho0, ho1, hb⟩; refine ⟨_, rfl, ?_⟩; have HO824 := zm (Kd.R_lower (Kd.R_new' (Kd.R_new' (Kd.R_new' ho0 (Kd.R_lt (zrs <| (Kd.R_mono (zfr (zfr (Kd.R_types HO804.out BK821.out (by decide)))) (fun _ h_ => h_.1))))) (Kd.R_lt (zrs <| (Kd.R_mono (zfr (zfr (Kd.R_types HO810.out BK821.out (by decide)))) (fun _ h_ => h_.1))))) (Kd.R_lt (zrs <| (Kd.R_mono (zfr (zfr (Kd.R_types HO817.out BK821.out (by decide)))) (fun _ h_ => h_.1))))) (below_size zB)); replace HO804 := zm (Kd.R_elder' (zrs <| (Kd.R_mono (zfr (zfr (Kd.R_types HO804.out BK821.out (by decide)))) (fun _ h_ => h_.1))) (Kd.R_base ho0) hb); replace HO810 := zm (Kd.R_elder' (zrs <| (Kd.R_mono (zfr (zfr (Kd.R_types HO810.out BK821.out (by decide)))) (fun _ h_ => h_.1))) (Kd.R_base ho0) hb); replace HO817 := zm (Kd.R_elder' (zrs <| (Kd.R_mono (zfr (zfr (Kd.R_types HO817.out BK821.out (by decide)))) (fun _ h_ => h_.1))) (Kd.R_base ho0) hb); have HO827 := zm (Kd.R_lower (Kd.R_new' (Kd.R_new' (Kd.R_new' ho1 (Kd.R_lt (zrs <| (Kd.R_mono (zfr (zfr (Kd.R_types HO807.out BK821.out (by decide)))) (fun _ h_ => h_.1))))) (Kd.R_lt (zrs <| (Kd.R_mono (zfr (zfr (Kd.R_types HO813.out BK821.out (by decide)))) (fun _ h_ => h_.1))))) (Kd.R_lt (zrs <| (Kd.R_mono (zfr (zfr (Kd.R_types HO820.out BK821.out (by decide)))) (fun _ h_ => h_.1))))) (below_size zB)); replace HO807 := zm (Kd.R_elder' (zrs <| (Kd.R_mono (zfr (zfr (Kd.R_types HO807.out BK821.out (by decide)))) (fun _ h_ => h_.1))) (Kd.R_base ho1) hb); replace HO813 := zm (Kd.R_elder' (zrs <| (Kd.R_mono (zfr (zfr (Kd.R_types HO813.out BK821.out (by decide)))) (fun _ h_ => h_.1))) (Kd.R_base ho1) hb); replace HO820 := zm (Kd.R_elder' (zrs <| (Kd.R_mono (zfr (zfr (Kd.R_types HO820.out BK821.out (by decide)))) (fun _ h_ => h_.1))) (Kd.R_base ho1) hb); replace BK798 := zm (blk_below (g := gb798) (o := .cells #[.slice A0_0 l0_0.length c0_0, .slice A0_1 l0_1.length c0_1] 48 (0, 0)) (zfar (zfar (zb BK798) NB798_821) NB798_821) hb); replace BK799 := zm (blk_below (g := gb799) (o := .cells #[.slice A1_0 l1_0.length c1_0, .slice A1_1 l1_1.length c1_1] 48 (0, 0)) (zfar (zfar (zb BK799) NB799_821) NB799_821) hb); replace BK821 := zm (blk_below (g := gb821) (o := .cells #[.slice Ao172 t815.length co172, .slice Ao176 t818.length co176] 55 (0, 0)) (zput (zput (zb BK821) 0) 1) hb); replace HB := zm (below_step zB hb); clear hb ho0 ho1) | ((with_reducible refine gate_dst (N := 8) rfl ?_); refine zbox 8 #[.slice none 0 0, .slice none 0 0] 55 ?_; intro gb828 hg w179 hbox hb; replace HO804 := zm (Kd.R_below (zr HO804) hb); replace HO807 := zm (Kd.R_below (zr HO807) hb); replace HO810 := zm (Kd.R_below (zr HO810) hb); replace HO813 := zm (Kd.R_below (zr HO813) hb); replace HO817 := zm (Kd.R_below (zr HO817) hb); replace HO820 := zm (Kd.R_below (zr HO820) hb); replace HO824 := zm (Kd.R_below (zr HO824) hb); replace HO827 := zm (Kd.R_below (zr HO827) hb); have BK828 := zm (hbox); have GW828 := zge w hg zB; have GE828 := zge w hg zB; replace HB := zm (below_step zB hb); have NB798_828 := zlt hg (zb BK798); have NB828_798 := zgt hg (zb BK798); replace BK798 := zm (blk_below (zb BK798) hb); have NB799_828 := zlt hg (zb BK799); have NB828_799 := zgt hg (zb BK799); replace BK799 := zm (blk_below (zb BK799) hb); have NB821_828 := zlt hg (zb BK821); have NB828_821 := zgt hg (zb BK821); replace BK821 := zm (blk_below (zb BK821) hb); clear hb hbox hg; obtain ⟨Ao180, co180, eo180⟩ := Kd.R_slice HO824.out; subst eo180; have hnb181 := NB828_798.out; have hnc181 := NB798_828.out; have hnb182 := NB828_799.out; have hnc182 := NB799_828.out; have hnb183 := NB828_821.out; have hnc183 := NB821_828.out; have hcz184_0 : w179.cell? ⟨gb828, 0, none⟩ = some (.slice none 0 0) := (blk_cell BK828.out 0).trans rfl; have hcz184_1 : w179.cell? ⟨gb828, 1, none⟩ = some (.slice none 0 0) := (blk_cell BK828.out 1).trans rfl; have hfz184_0 := blk_frozen BK828.out 0; have hfz184_1 := blk_frozen BK828.out 1; obtain ⟨Ao185, co185, eo185⟩ := Kd.R_slice HO827.out; subst eo185; have hcz186_0 : w179.cell? ⟨gb821, 0, none⟩ = some (.slice Ao172 t815.length co172) := (blk_cell BK821.out 0).trans rfl; have hcz186_1 : w179.cell? ⟨gb821, 1, none⟩ = some (.slice Ao176 t818.length co176) := (blk_cell BK821.out 1).trans rfl; have hfz186_0 := blk_frozen BK821.out 0; have hfz186_1 := blk_frozen BK821.out 1) | ((with_reducible refine gate_callee (f := 60) rfl ?_); refine zg (some 31) #[.agg #[.slice Ao172 t815.length co172, .slice Ao176 t818.length co176], .agg #[.slice Ao180 t822.length co180, .slice Ao185 t825.length co185]] Try.func60 ?_; (with_reducible refine (impl_StateLeq.calls k _ _ t815 _ _ t818 _ _ t822 _ _ t825 t829 _ ?side1 ?side2 ?side3 ?side4 ?side5 ?side6 ?side7 ?side8 A24.out).mono ?_); (case side1 => refine (Kd.R_reads' (e := 84) (base := w.heap.size) (ok := fun k_ => (((True ∧ some k_ ≠ (.slice Ao164 t802.length co164 : Value).ownBlock) ∧ some k_ ≠ (.slice Ao166 t808.length co166 : Value).ownBlock) ∧ some k_ ≠ (.slice Ao180 t822.length co180 : Value).ownBlock)) (n := t815.length) (c := co172) ?_).2.2; exact (zrs <| (Kd.R_mono (zfr (zfr (Kd.R_types HO817.out BK828.out (by decide)))) (fun _ h_ => h_.1)))); (case side2 => exact (Kd.R_reads' HO817.out).2.1); (case side3 => refine (Kd.R_reads' (e := 89) (base := w.heap.size) (ok := fun k_ => (((True ∧ some k_ ≠ (.slice Ao165 t805.length co165 : Value).ownBlock) ∧ some k_ ≠ (.slice Ao167 t811.length co167 : Value).ownBlock) ∧ some k_ ≠ (.slice Ao185 t825.length co185 : Value).ownBlock)) (n := t818.length) (c := co176) ?_).2.2; exact (zrs <| (Kd.R_mono (zfr (zfr (Kd.R_types HO820.out BK828.out (by decide)))) (fun _ h_ => h_.1)))); (case side4 => exact (Kd.R_reads' HO820.out).2.1); (case side5 => refine (Kd.R_reads' (e := 84) (base := w.heap.size) (ok := fun k_ => (((True ∧ some k_ ≠ (.slice Ao164 t802.length co164 : Value).ownBlock) ∧ some k_ ≠ (.slice Ao166 t808.length co166 : Value).ownBlock) ∧ some k_ ≠ (.slice Ao172 t815.length co172 : Value).ownBlock)) (n := t822.length) (c := co180) ?_).2.2; exact (zrs <| (Kd.R_mono (zfr (zfr (Kd.R_types HO824.out BK828.out (by decide)))) (fun _ h_ => h_.1)))); (case side6 => exact (Kd.R_reads' HO824.out).2.1); (case side7 => refine (Kd.R_reads' (e := 89) (base := w.heap.size) (ok := fun k_ => (((True ∧ some k_ ≠ (.slice Ao165 t805.length co165 : Value).ownBlock) ∧ some k_ ≠ (.slice Ao167 t811.length co167 : Value).ownBlock) ∧ some k_ ≠ (.slice Ao176 t818.length co176 : Value).ownBlock)) (n := t825.length) (c := co185) ?_).2.2; exact (zrs <| (Kd.R_mono (zfr (zfr (Kd.R_types HO827.out BK828.out (by decide)))) (fun _ h_ => h_.1)))); (case side8 => exact (Kd.R_reads' HO827.out).2.1); rintro e w187 ⟨rfl, hb⟩; refine ⟨_, rfl, ?_⟩; replace HO804 := zm (Kd.R_below (zrs <| (Kd.R_mono (zfr (zfr (Kd.R_types HO804.out BK828.out (by decide)))) (fun _ h_ => h_.1))) hb); replace HO807 := zm (Kd.R_below (zrs <| (Kd.R_mono (zfr (zfr (Kd.R_types HO807.out BK828.out (by decide)))) (fun _ h_ => h_.1))) hb); replace HO810 := zm (Kd.R_below (zrs <| (Kd.R_mono (zfr (zfr (Kd.R_types HO810.out BK828.out (by decide)))) (fun _ h_ => h_.1))) hb); replace HO813 := zm (Kd.R_below (zrs <| (Kd.R_mono (zfr (zfr (Kd.R_types HO813.out BK828.out (by decide)))) (fun _ h_ => h_.1))) hb); replace HO817 := zm (Kd.R_below (zrs <| (Kd.R_mono (zfr (zfr (Kd.R_types HO817.out BK828.out (by decide)))) (fun _ h_ => h_.1))) hb); replace HO820 := zm (Kd.R_below (zrs <| (Kd.R_mono (zfr (zfr (Kd.R_types HO820.out BK828.out (by decide)))) (fun _ h_ => h_.1))) hb); replace HO824 := zm (Kd.R_below (zrs <| (Kd.R_mono (zfr (zfr (Kd.R_types HO824.out BK828.out (by decide)))) (fun _ h_ => h_.1))) hb); replace HO827 := zm (Kd.R_below (zrs <| (Kd.R_mono (zfr (zfr (Kd.R_types HO827.out BK828.out (by decide)))) (fun _ h_ => h_.1))) hb); replace BK798 := zm (blk_below (g := gb798) (o := .cells #[.slice A0_0 l0_0.length c0_0, .slice A0_1 l0_1.length c0_1] 48 (0, 0)) (zfar (zfar (zb BK798) NB798_828) NB798_828) hb); replace BK799 := zm (blk_below (g := gb799) (o := .cells #[.slice A1_0 l1_0.length c1_0, .slice A1_1 l1_1.length c1_1] 48 (0, 0)) (zfar (zfar (zb BK799) NB799_828) NB799_828) hb); replace BK821 := zm (blk_below (g := gb821) (o := .cells #[.slice Ao172 t815.length co172, .slice Ao176 t818.length co176] 55 (0, 0)) (zfar (zfar (zb BK821) NB821_828) NB821_828) hb); replace BK828 := zm (blk_below (g := gb828) (o := .cells #[.slice Ao180 t822.length co180, .slice Ao185 t825.length co185] 55 (0, 0)) (zput (zput (zb BK828) 0) 1) hb); replace HB := zm (below_step zB hb); clear hb))
     replace HO804 := zm (Kd.R_drew HO804.out)
     replace HO807 := zm (Kd.R_drew HO807.out)
     replace HO810 := zm (Kd.R_drew HO810.out)
     replace HO813 := zm (Kd.R_drew HO813.out)
     replace HO817 := zm (Kd.R_drew HO817.out)
     replace HO820 := zm (Kd.R_drew HO820.out)
     replace HO824 := zm (Kd.R_drew HO824.out)
     replace HO827 := zm (Kd.R_drew HO827.out)
     replace BK798 := zm (blk_drew BK798.out)
     replace BK799 := zm (blk_drew BK799.out)
     replace BK821 := zm (blk_drew BK821.out)
     replace BK828 := zm (blk_drew BK828.out)
     replace HB := zm (below_drew1 HB.out)
     refine start_ (n := 5) (S := fun w' => w'.cell? ⟨gb821, 0, none⟩ = some (.slice Ao172 t815.length co172) ∧ w'.cell? ⟨gb821, 1, none⟩ = some (.slice Ao176 t818.length co176) ∧ w'.cell? ⟨gb798, 0, none⟩ = some (.slice A0_0 l0_0.length c0_0) ∧ w'.cell? ⟨gb798, 1, none⟩ = some (.slice A0_1 l0_1.length c0_1)) (ds := []) (zl 5 0) (by kernel_rfl) rfl rfl ⟨(blk_cell BK821.out 0).trans rfl, (blk_cell BK821.out 1).trans rfl, (blk_cell BK798.out 0).trans rfl, (blk_cell BK798.out 1).trans rfl⟩ (fun hHeld => ?_)
     generalize w187.drew = w188 at HO804 HO807 HO810 HO813 HO817 HO820 HO824 HO827 BK798 BK799 BK821 BK828 HB hHeld ⊢
     refine zt 0 (some 35) (zl 5 1) ?_
     refine zt 1 (some 36) (zl 5 3) ?_
     refine zo 2 (some 37) (zl 5 7) (fun K hK => ?_)
     refine zgo #[.agg #[.slice A0_0 l0_0.length c0_0, .slice A0_1 l0_1.length c0_1]] Try.func37 ?_
     with_reducible refine (laws_toState.calls k _ _ l0_0 _ _ l0_1 t830 t833 _ (zk (Kd.C_below HR0_0.out HB.out)) HC0_0.out (zk (Kd.C_below HR0_1.out HB.out)) HC0_1.out A60.out).mono ?_
     rintro e w189 ⟨v831, v834, rfl, ho0, ho1, hb⟩
     refine ⟨_, rfl, ?_⟩
     have HO832 := zm (Kd.R_lower (Kd.R_new' (Kd.R_new' (Kd.R_new' (Kd.R_new' ho0 (Kd.R_lt (zr HO804))) (Kd.R_lt (zr HO810))) (Kd.R_lt (zr HO817))) (Kd.R_lt (zr HO824))) (below_size zB))
     replace HO804 := zm (Kd.R_elder' (zr HO804) (Kd.R_base ho0) hb)
     replace HO810 := zm (Kd.R_elder' (zr HO810) (Kd.R_base ho0) hb)
     replace HO817 := zm (Kd.R_elder' (zr HO817) (Kd.R_base ho0) hb)
     replace HO824 := zm (Kd.R_elder' (zr HO824) (Kd.R_base ho0) hb)
     have HO835 := zm (Kd.R_lower (Kd.R_new' (Kd.R_new' (Kd.R_new' (Kd.R_new' ho1 (Kd.R_lt (zr HO807))) (Kd.R_lt (zr HO813))) (Kd.R_lt (zr HO820))) (Kd.R_lt (zr HO827))) (below_size zB))
     replace HO807 := zm (Kd.R_elder' (zr HO807) (Kd.R_base ho1) hb)
     replace HO813 := zm (Kd.R_elder' (zr HO813) (Kd.R_base ho1) hb)
     replace HO820 := zm (Kd.R_elder' (zr HO820) (Kd.R_base ho1) hb)
     replace HO827 := zm (Kd.R_elder' (zr HO827) (Kd.R_base ho1) hb)
     replace BK798 := zm (blk_below (zb BK798) hb)
     replace BK799 := zm (blk_below (zb BK799) hb)
     replace BK821 := zm (blk_below (zb BK821) hb)
     replace BK828 := zm (blk_below (zb BK828) hb)
     replace HB := zm (below_step zB hb)
     (try clear hb)
     (try clear hb2)
     (try clear hk)
     (try clear hi)
     (try clear ho0)
     (try clear ho1)
     obtain ⟨Ao190, co190, eo190⟩ := Kd.R_slice HO832.out
     (first | subst eo190 | (injection eo190 with f1_ f2_ f3_; have f4_ := f1_.symm; have f5_ := f3_.symm; clear f1_ f2_ f3_; subst f4_; subst f5_))
     obtain ⟨Ao191, co191, eo191⟩ := Kd.R_slice HO835.out
     (first | subst eo191 | (injection eo191 with f1_ f2_ f3_; have f4_ := f1_.symm; have f5_ := f3_.symm; clear f1_ f2_ f3_; subst f4_; subst f5_))
     refine hK.out _ _ ⟨(blk_cell BK821.out 0).trans rfl, (blk_cell BK821.out 1).trans rfl, (blk_cell BK798.out 0).trans rfl, (blk_cell BK798.out 1).trans rfl⟩ (fun hHeld => ?_)
     clear hK K
     refine zn ?_
     refine zo 3 (some 38) (zl 5 15) (fun K hK => ?_)
     refine zgo #[.agg #[.slice Ao172 t815.length co172, .slice Ao176 t818.length co176], .agg #[.slice Ao190 t830.length co190, .slice Ao191 t833.length co191]] Try.func39 ?_
     with_reducible refine (laws_eqState.calls k _ _ t815 _ _ t818 _ _ t830 _ _ t833 false _ ?side1 ?side2 ?side3 ?side4 ?side5 ?side6 ?side7 ?side8 A61.out).mono ?_
     (case side1 => repeat (first | exact (Kd.R_reads' HO817.out).2.2 | (with_reducible refine Kd.C_alloc ?_ _) | (with_reducible refine Kd.C_drewN ?_ _) | (with_reducible refine Kd.C_drew ?_)))
     (case side2 => exact (Kd.R_reads' HO817.out).2.1)
     (case side3 => repeat (first | exact (Kd.R_reads' HO820.out).2.2 | (with_reducible refine Kd.C_alloc ?_ _) | (with_reducible refine Kd.C_drewN ?_ _) | (with_reducible refine Kd.C_drew ?_)))
     (case side4 => exact (Kd.R_reads' HO820.out).2.1)
     (case side5 => repeat (first | exact (Kd.R_reads' HO832.out).2.2 | (with_reducible refine Kd.C_alloc ?_ _) | (with_reducible refine Kd.C_drewN ?_ _) | (with_reducible refine Kd.C_drew ?_)))
     (case side6 => exact (Kd.R_reads' HO832.out).2.1)
     (case side7 => repeat (first | exact (Kd.R_reads' HO835.out).2.2 | (with_reducible refine Kd.C_alloc ?_ _) | (with_reducible refine Kd.C_drewN ?_ _) | (with_reducible refine Kd.C_drew ?_)))
     (case side8 => exact (Kd.R_reads' HO835.out).2.1)
     rintro e w192 ⟨rfl, hb⟩
     refine ⟨_, rfl, ?_⟩
     replace HO804 := zm (Kd.R_below (zr HO804) hb)
     replace HO807 := zm (Kd.R_below (zr HO807) hb)
     replace HO810 := zm (Kd.R_below (zr HO810) hb)
     replace HO813 := zm (Kd.R_below (zr HO813) hb)
     replace HO817 := zm (Kd.R_below (zr HO817) hb)
     replace HO820 := zm (Kd.R_below (zr HO820) hb)
     replace HO824 := zm (Kd.R_below (zr HO824) hb)
     replace HO827 := zm (Kd.R_below (zr HO827) hb)
     replace HO832 := zm (Kd.R_below (zr HO832) hb)
     replace HO835 := zm (Kd.R_below (zr HO835) hb)
     replace BK798 := zm (blk_below (zb BK798) hb)
     replace BK799 := zm (blk_below (zb BK799) hb)
     replace BK821 := zm (blk_below (zb BK821) hb)
     replace BK828 := zm (blk_below (zb BK828) hb)
     replace HB := zm (below_step zB hb)
     (try clear hb)
     (try clear hb2)
     (try clear hk)
     (try clear hi)
     refine hK.out _ _ ⟨(blk_cell BK821.out 0).trans rfl, (blk_cell BK821.out 1).trans rfl, (blk_cell BK798.out 0).trans rfl, (blk_cell BK798.out 1).trans rfl⟩ (fun hHeld => ?_)
     clear hK K
     refine zn ?_
     refine zp 4 (some 39) (zl 5 31) ?_
     refine done_ (by kernel_rfl) ?_
     try go_wp2
     go_ret
     exact ⟨zE, zB⟩

def laws_FnExactStateLeq.Pure : Prop := ∀ (l0_0 : List (S105)) (l0_1 : List (S108)) (l1_0 : List (S105)) (l1_1 : List (S108)), l0_0.length ≤ maxLen → l0_0.length * 56 ≤ 140737488351232 → (∀ x ∈ l0_0, ((Lit.int .i64 x.f0).wf = true ∧ ((Lit.int .i64 x.f1.f0).wf = true ∧ ((Lit.int .i64 x.f1.f1).wf = true ∧ ((Lit.int .i64 x.f1.f2).wf = true ∧ ((Lit.int .i64 x.f1.f3).wf = true ∧ x.f1.f4.size ≤ 140737488351232)))))) → l0_1.length ≤ maxLen → l0_1.length * 16 ≤ 140737488351232 → (∀ x ∈ l0_1, ((Lit.int .i64 x.f0).wf = true ∧ (Lit.int .i64 x.f1).wf = true)) → l1_0.length ≤ maxLen → l1_0.length * 56 ≤ 140737488351232 → (∀ x ∈ l1_0, ((Lit.int .i64 x.f0).wf = true ∧ ((Lit.int .i64 x.f1.f0).wf = true ∧ ((Lit.int .i64 x.f1.f1).wf = true ∧ ((Lit.int .i64 x.f1.f2).wf = true ∧ ((Lit.int .i64 x.f1.f3).wf = true ∧ x.f1.f4.size ≤ 140737488351232)))))) → l1_1.length ≤ maxLen → l1_1.length * 16 ≤ 140737488351232 → (∀ x ∈ l1_1, ((Lit.int .i64 x.f0).wf = true ∧ (Lit.int .i64 x.f1).wf = true)) → ∃ k, laws_FnExactStateLeq.f k l0_0 l0_1 l1_0 l1_1 = some true

end Go.Proofs.Ythljdiniccpobaa.P
