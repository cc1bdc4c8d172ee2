-- by a program of this session, for this seat
import Derived.Test.YthljdiniccpobaaZ
import Derived.Test.YthljdiniccpobaaP0
import Derived.Test.YthljdiniccpobaaPaa
import Derived.Test.YthljdiniccpobaaPad
import Derived.Test.YthljdiniccpobaaPaj
import Derived.Test.YthljdiniccpobaaPak
import Derived.Test.YthljdiniccpobaaPal
namespace Go.Proofs.Ythljdiniccpobaa.P
open Go.RowKit Go.Proofs.YthljdiniccpobaaW.PrintWords Go.Proofs.YthljdiniccpobaaW.PrintLast Go.Proofs.YthljdiniccpobaaW.PrintMore Go.Proofs.Ythljdiniccpobaa.Z
attribute [local go_sem] max2_int min2_int max_two min_two max_three min_three max_four min_four   -- for this text's walks alone
set_option linter.unusedVariables false
set_option linter.unusedSimpArgs false

/-! ### laws_FnExactSingle: function 10 -/
mutual
def laws_FnExactSingle.j0 : Nat → Int → Bool → Bool → Int → Int → Int → Int → ByteArray → List (S84) → List (S89) → List (S84) → List (S89) → Option (Bool)
 | 0, _, _, _, _, _, _, _, _, _, _, _, _ => none
 | k + 1, x0, x7, x41, x481000, x481001, x481002, x481003, x481004, x495000, x495001, x508000, x508001 => if x41 = true then (some false) else ((laws_markState.f k x508000 x508001 1).bind fun bt509 => ((laws_heldState.f k bt509.2.1 bt509.2.2 1).bind fun t512 => (if t512 < 0 then (some false) else (if t512 = bt509.1 then ((laws_toEntry.f x481000 x481001 x481002 x481003 x481004).bind fun bt513 => ((impl_Single.f k x0 bt513.1 bt513.2.1 bt513.2.2.1 bt513.2.2.2.1 bt513.2.2.2.2).bind fun bt518 => ((laws_eqState.f k bt518.1 bt518.2.1 x495000 x495001).bind fun t526 => (if t526 = true then (laws_FnExactSingle.j1 k bt509.1 (bt518.2.2 != x7) bt509.2.1 bt509.2.2) else (laws_FnExactSingle.j1 k bt509.1 true bt509.2.1 bt509.2.2))))) else (some false)))))
def laws_FnExactSingle.j1 : Nat → Int → Bool → List (S84) → List (S89) → Option (Bool)
 | 0, _, _, _, _ => none
 | k + 1, x10, x68, x508000, x508001 => if x68 = true then (some false) else ((laws_heldState.f k x508000 x508001 1).bind fun t527 => (if t527 < 0 then (some false) else (if t527 = x10 then (some true) else (some false))))
end
def laws_FnExactSingle.f (k : Nat) (a0 : Int) (a1_0 : Int) (a1_1 : Int) (a1_2 : Int) (a1_3 : Int) (a1_4 : ByteArray) : Option (Bool) := (laws_szEntry.f a1_0 a1_1 a1_2 a1_3 a1_4 1048576).bind fun t481 => (if t481 < 0 then (some true) else ((laws_toEntry.f a1_0 a1_1 a1_2 a1_3 a1_4).bind fun bt482 => ((spec_Single.f k a0 bt482.1 bt482.2.1 bt482.2.2.1 bt482.2.2.2.1 bt482.2.2.2.2).bind fun bt487 => ((laws_toEntry.f a1_0 a1_1 a1_2 a1_3 a1_4).bind fun bt495 => ((impl_Single.f k a0 bt495.1 bt495.2.1 bt495.2.2.1 bt495.2.2.2.1 bt495.2.2.2.2).bind fun bt500 => ((laws_eqState.f k bt500.1 bt500.2.1 bt487.1 bt487.2.1).bind fun t508 => (if t508 = true then (laws_FnExactSingle.j0 k a0 bt487.2.2 (bt500.2.2 != bt487.2.2) a1_0 a1_1 a1_2 a1_3 a1_4 bt487.1 bt487.2.1 bt500.1 bt500.2.1) else (laws_FnExactSingle.j0 k a0 bt487.2.2 true a1_0 a1_1 a1_2 a1_3 a1_4 bt487.1 bt487.2.1 bt500.1 bt500.2.1))))))))
theorem laws_FnExactSingle.mono_l : ∀ k, (∀ y0 y1 y2 y3 y4 y5 y6 y7 y8 y9 y10 y11, LeO (laws_FnExactSingle.j0 k y0 y1 y2 y3 y4 y5 y6 y7 y8 y9 y10 y11) (laws_FnExactSingle.j0 (k + 1) y0 y1 y2 y3 y4 y5 y6 y7 y8 y9 y10 y11)) ∧ (∀ y0 y1 y2 y3, LeO (laws_FnExactSingle.j1 k y0 y1 y2 y3) (laws_FnExactSingle.j1 (k + 1) y0 y1 y2 y3))
 | 0 => ⟨fun _ _ _ _ _ _ _ _ _ _ _ _ r h => by simp [laws_FnExactSingle.j0] at h, fun _ _ _ _ r h => by simp [laws_FnExactSingle.j1] at h⟩
 | k + 1 => by
  obtain ⟨ih0, ih1⟩ := laws_FnExactSingle.mono_l k
  refine ⟨?_, ?_⟩
  ·intro y0 y1 y2 y3 y4 y5 y6 y7 y8 y9 y10 y11
   unfold laws_FnExactSingle.j0
   repeat' first
   | (with_reducible exact ih0 _ _ _ _ _ _ _ _ _ _ _ _)
   | (with_reducible exact ih1 _ _ _ _)
   | (with_reducible exact impl_Single.mono _ _ _ _ _ _ _)
   | (with_reducible exact laws_eqState.mono _ _ _ _ _)
   | (with_reducible exact laws_heldState.mono _ _ _ _)
   | (with_reducible exact laws_markState.mono _ _ _ _)
   | (with_reducible exact spec_Single.mono _ _ _ _ _ _ _)
   | (with_reducible exact LeO.refl _)
   | (with_reducible exact LeO.none _)
   | (with_reducible refine LeO.ite ?_ ?_)
   | (with_reducible refine LeO.bind ?_ (fun _ => ?_))
   | exact ih0 _ _ _ _ _ _ _ _ _ _ _ _
   | exact ih1 _ _ _ _
   | exact impl_Single.mono _ _ _ _ _ _ _
   | exact laws_eqState.mono _ _ _ _ _
   | exact laws_heldState.mono _ _ _ _
   | exact laws_markState.mono _ _ _ _
   | exact spec_Single.mono _ _ _ _ _ _ _
   | exact LeO.none _
   | refine LeO.ite ?_ ?_
   | refine LeO.bind ?_ (fun _ => ?_)
  ·intro y0 y1 y2 y3
   unfold laws_FnExactSingle.j1
   repeat' first
   | (with_reducible exact ih0 _ _ _ _ _ _ _ _ _ _ _ _)
   | (with_reducible exact ih1 _ _ _ _)
   | (with_reducible exact impl_Single.mono _ _ _ _ _ _ _)
   | (with_reducible exact laws_eqState.mono _ _ _ _ _)
   | (with_reducible exact laws_heldState.mono _ _ _ _)
   | (with_reducible exact laws_markState.mono _ _ _ _)
   | (with_reducible exact spec_Single.mono _ _ _ _ _ _ _)
   | (with_reducible exact LeO.refl _)
   | (with_reducible exact LeO.none _)
   | (with_reducible refine LeO.ite ?_ ?_)
   | (with_reducible refine LeO.bind ?_ (fun _ => ?_))
   | exact ih0 _ _ _ _ _ _ _ _ _ _ _ _
   | exact ih1 _ _ _ _
   | exact impl_Single.mono _ _ _ _ _ _ _
   | exact laws_eqState.mono _ _ _ _ _
   | exact laws_heldState.mono _ _ _ _
   | exact laws_markState.mono _ _ _ _
   | exact spec_Single.mono _ _ _ _ _ _ _
   | exact LeO.none _
   | refine LeO.ite ?_ ?_
   | refine LeO.bind ?_ (fun _ => ?_)
theorem laws_FnExactSingle.mono : ∀ a0 a1 a2 a3 a4 a5 k, LeO (laws_FnExactSingle.f k a0 a1 a2 a3 a4 a5) (laws_FnExactSingle.f (k + 1) a0 a1 a2 a3 a4 a5) := by
 intro a0 a1 a2 a3 a4 a5 k
 obtain ⟨ih0, ih1⟩ := laws_FnExactSingle.mono_l k
 unfold laws_FnExactSingle.f
 repeat' first
   | (with_reducible exact ih0 _ _ _ _ _ _ _ _ _ _ _ _)
   | (with_reducible exact ih1 _ _ _ _)
   | (with_reducible exact impl_Single.mono _ _ _ _ _ _ _)
   | (with_reducible exact laws_eqState.mono _ _ _ _ _)
   | (with_reducible exact laws_heldState.mono _ _ _ _)
   | (with_reducible exact laws_markState.mono _ _ _ _)
   | (with_reducible exact spec_Single.mono _ _ _ _ _ _ _)
   | (with_reducible exact LeO.refl _)
   | (with_reducible exact LeO.none _)
   | (with_reducible refine LeO.ite ?_ ?_)
   | (with_reducible refine LeO.bind ?_ (fun _ => ?_))
   | exact ih0 _ _ _ _ _ _ _ _ _ _ _ _
   | exact ih1 _ _ _ _
   | exact impl_Single.mono _ _ _ _ _ _ _
   | exact laws_eqState.mono _ _ _ _ _
   | exact laws_heldState.mono _ _ _ _
   | exact laws_markState.mono _ _ _ _
   | exact spec_Single.mono _ _ _ _ _ _ _
   | exact LeO.none _
   | refine LeO.ite ?_ ?_
   | refine LeO.bind ?_ (fun _ => ?_)
set_option maxHeartbeats 8000000 in
set_option maxRecDepth 100000 in
theorem laws_FnExactSingle.calls (k : Nat) (a0 : Int) (a1_0 : Int) (a1_1 : Int) (a1_2 : Int) (a1_3 : Int) (a1_4 : ByteArray) (r : Bool) (w : World) (h : laws_FnExactSingle.f k a0 a1_0 a1_1 a1_2 a1_3 a1_4 = some r) :
  Calls Try.prog 10 #[.int .i64 a0, .agg #[.int .i64 a1_0, .int .i64 a1_1, .int .i64 a1_2, .int .i64 a1_3, .string a1_4]] w fun e w' => e = .returned (.bool r) ∧ Below w.heap.size w w' := by
 have hu23 := Try.underlying23
 have hu55 := Try.underlying55
 have HB := zm (Below.refl w.heap.size w)
 have H : ((laws_szEntry.f a1_0 a1_1 a1_2 a1_3 a1_4 1048576).bind fun t481 => (if t481 < 0 then (some true) else ((laws_toEntry.f a1_0 a1_1 a1_2 a1_3 a1_4).bind fun bt482 => ((spec_Single.f k a0 bt482.1 bt482.2.1 bt482.2.2.1 bt482.2.2.2.1 bt482.2.2.2.2).bind fun bt487 => ((laws_toEntry.f a1_0 a1_1 a1_2 a1_3 a1_4).bind fun bt495 => ((impl_Single.f k a0 bt495.1 bt495.2.1 bt495.2.2.1 bt495.2.2.2.1 bt495.2.2.2.2).bind fun bt500 => ((laws_eqState.f k bt500.1 bt500.2.1 bt487.1 bt487.2.1).bind fun t508 => (if t508 = true then (laws_FnExactSingle.j0 k a0 bt487.2.2 (bt500.2.2 != bt487.2.2) a1_0 a1_1 a1_2 a1_3 a1_4 bt487.1 bt487.2.1 bt500.1 bt500.2.1) else (laws_FnExactSingle.j0 k a0 bt487.2.2 true a1_0 a1_1 a1_2 a1_3 a1_4 bt487.1 bt487.2.1 bt500.1 bt500.2.1))))))))) = some r := h
 clear h
 replace H := Option.bind_eq_some_iff.mp H
 obtain ⟨t481, A30, H⟩ := H
 replace H : (if t481 < 0 then (some true) else ((laws_toEntry.f a1_0 a1_1 a1_2 a1_3 a1_4).bind fun bt482 => ((spec_Single.f k a0 bt482.1 bt482.2.1 bt482.2.2.1 bt482.2.2.2.1 bt482.2.2.2.2).bind fun bt487 => ((laws_toEntry.f a1_0 a1_1 a1_2 a1_3 a1_4).bind fun bt495 => ((impl_Single.f k a0 bt495.1 bt495.2.1 bt495.2.2.1 bt495.2.2.2.1 bt495.2.2.2.2).bind fun bt500 => ((laws_eqState.f k bt500.1 bt500.2.1 bt487.1 bt487.2.1).bind fun t508 => (if t508 = true then (laws_FnExactSingle.j0 k a0 bt487.2.2 (bt500.2.2 != bt487.2.2) a1_0 a1_1 a1_2 a1_3 a1_4 bt487.1 bt487.2.1 bt500.1 bt500.2.1) else (laws_FnExactSingle.j0 k a0 bt487.2.2 true a1_0 a1_1 a1_2 a1_3 a1_4 bt487.1 bt487.2.1 bt500.1 bt500.2.1)))))))) = some r := H
 have A3 := zm A30
 clear A30
 by_cases c4 : t481 < 0
 ·rw [if_pos c4] at H
  have c4b0 : decide (t481 < 0) = true := decide_eq_true c4
  clear c4
  obtain rfl := Option.some.inj H
  go_enter Try.func10, Try.ntmps10
  go_wp2_with (first | ((with_reducible refine gate_dst (N := 3) rfl ?_); refine zbox 3 #[.int .i64 a1_0, .int .i64 a1_1, .int .i64 a1_2, .int .i64 a1_3, .string a1_4] 23 ?_; intro gb480 hg w5 hbox hb; have BK480 := zm (hbox); have GW480 := zge w hg zB; have GE480 := zge w hg zB; replace HB := zm (below_step zB hb); clear hb hbox hg; have hcz6_0 : w5.cell? ⟨gb480, 0, none⟩ = some (.int .i64 a1_0) := (blk_cell BK480.out 0).trans rfl; have hcz6_1 : w5.cell? ⟨gb480, 1, none⟩ = some (.int .i64 a1_1) := (blk_cell BK480.out 1).trans rfl; have hcz6_2 : w5.cell? ⟨gb480, 2, none⟩ = some (.int .i64 a1_2) := (blk_cell BK480.out 2).trans rfl; have hcz6_3 : w5.cell? ⟨gb480, 3, none⟩ = some (.int .i64 a1_3) := (blk_cell BK480.out 3).trans rfl; have hcz6_4 : w5.cell? ⟨gb480, 4, none⟩ = some (.string a1_4) := (blk_cell BK480.out 4).trans rfl; have hfz6_0 := blk_frozen BK480.out 0; have hfz6_1 := blk_frozen BK480.out 1; have hfz6_2 := blk_frozen BK480.out 2; have hfz6_3 := blk_frozen BK480.out 3; have hfz6_4 := blk_frozen BK480.out 4) | ((with_reducible refine gate_callee (f := 15) rfl ?_); refine zg (some 16) #[.agg #[.int .i64 a1_0, .int .i64 a1_1, .int .i64 a1_2, .int .i64 a1_3, .string a1_4], .int .i64 1048576] Try.func15 ?_; (with_reducible refine (laws_szEntry.calls a1_0 a1_1 a1_2 a1_3 a1_4 1048576 t481 _ A3.out).mono ?_); rintro e w7 ⟨rfl, hb⟩; refine ⟨_, rfl, ?_⟩; replace BK480 := zm (blk_below (zb BK480) hb); replace HB := zm (below_step zB hb); clear hb))
  go_ret
  exact ⟨zE, zB⟩
 ·rw [if_neg c4] at H
  have c4b0 : decide (t481 < 0) = false := decide_eq_false c4
  clear c4
  replace H := Option.bind_eq_some_iff.mp H
  obtain ⟨⟨t482, t483, t484, t485, t486⟩, A80, H⟩ := H
  replace H : ((spec_Single.f k a0 t482 t483 t484 t485 t486).bind fun bt487 => ((laws_toEntry.f a1_0 a1_1 a1_2 a1_3 a1_4).bind fun bt495 => ((impl_Single.f k a0 bt495.1 bt495.2.1 bt495.2.2.1 bt495.2.2.2.1 bt495.2.2.2.2).bind fun bt500 => ((laws_eqState.f k bt500.1 bt500.2.1 bt487.1 bt487.2.1).bind fun t508 => (if t508 = true then (laws_FnExactSingle.j0 k a0 bt487.2.2 (bt500.2.2 != bt487.2.2) a1_0 a1_1 a1_2 a1_3 a1_4 bt487.1 bt487.2.1 bt500.1 bt500.2.1) else (laws_FnExactSingle.j0 k a0 bt487.2.2 true a1_0 a1_1 a1_2 a1_3 a1_4 bt487.1 bt487.2.1 bt500.1 bt500.2.1)))))) = some r := H
  have A8 := zm A80
  clear A80
  replace H := Option.bind_eq_some_iff.mp H
  obtain ⟨⟨t487, t490, t493⟩, A90, H⟩ := H
  replace H : ((laws_toEntry.f a1_0 a1_1 a1_2 a1_3 a1_4).bind fun bt495 => ((impl_Single.f k a0 bt495.1 bt495.2.1 bt495.2.2.1 bt495.2.2.2.1 bt495.2.2.2.2).bind fun bt500 => ((laws_eqState.f k bt500.1 bt500.2.1 t487 t490).bind fun t508 => (if t508 = true then (laws_FnExactSingle.j0 k a0 t493 (bt500.2.2 != t493) a1_0 a1_1 a1_2 a1_3 a1_4 t487 t490 bt500.1 bt500.2.1) else (laws_FnExactSingle.j0 k a0 t493 true a1_0 a1_1 a1_2 a1_3 a1_4 t487 t490 bt500.1 bt500.2.1))))) = some r := H
  have A9 := zm A90
  clear A90
  replace H := Option.bind_eq_some_iff.mp H
  obtain ⟨⟨t495, t496, t497, t498, t499⟩, A100, H⟩ := H
  replace H : ((impl_Single.f k a0 t495 t496 t497 t498 t499).bind fun bt500 => ((laws_eqState.f k bt500.1 bt500.2.1 t487 t490).bind fun t508 => (if t508 = true then (laws_FnExactSingle.j0 k a0 t493 (bt500.2.2 != t493) a1_0 a1_1 a1_2 a1_3 a1_4 t487 t490 bt500.1 bt500.2.1) else (laws_FnExactSingle.j0 k a0 t493 true a1_0 a1_1 a1_2 a1_3 a1_4 t487 t490 bt500.1 bt500.2.1)))) = some r := H
  have A10 := zm A100
  clear A100
  replace H := Option.bind_eq_some_iff.mp H
  obtain ⟨⟨t500, t503, t506⟩, A110, H⟩ := H
  replace H : ((laws_eqState.f k t500 t503 t487 t490).bind fun t508 => (if t508 = true then (laws_FnExactSingle.j0 k a0 t493 (t506 != t493) a1_0 a1_1 a1_2 a1_3 a1_4 t487 t490 t500 t503) else (laws_FnExactSingle.j0 k a0 t493 true a1_0 a1_1 a1_2 a1_3 a1_4 t487 t490 t500 t503))) = some r := H
  have A11 := zm A110
  clear A110
  have HC12 := zm H
  clear H
  go_enter Try.func10, Try.ntmps10
  go_upto_region 7 with (first | ((with_reducible refine gate_dst (N := 3) rfl ?_); refine zbox 3 #[.int .i64 a1_0, .int .i64 a1_1, .int .i64 a1_2, .int .i64 a1_3, .string a1_4] 23 ?_; intro gb480 hg w13 hbox hb; have BK480 := zm (hbox); have GW480 := zge w hg zB; have GE480 := zge w hg zB; replace HB := zm (below_step zB hb); clear hb hbox hg; have hcz14_0 : w13.cell? ⟨gb480, 0, none⟩ = some (.int .i64 a1_0) := (blk_cell BK480.out 0).trans rfl; have hcz14_1 : w13.cell? ⟨gb480, 1, none⟩ = some (.int .i64 a1_1) := (blk_cell BK480.out 1).trans rfl; have hcz14_2 : w13.cell? ⟨gb480, 2, none⟩ = some (.int .i64 a1_2) := (blk_cell BK480.out 2).trans rfl; have hcz14_3 : w13.cell? ⟨gb480, 3, none⟩ = some (.int .i64 a1_3) := (blk_cell BK480.out 3).trans rfl; have hcz14_4 : w13.cell? ⟨gb480, 4, none⟩ = some (.string a1_4) := (blk_cell BK480.out 4).trans rfl; have hfz14_0 := blk_frozen BK480.out 0; have hfz14_1 := blk_frozen BK480.out 1; have hfz14_2 := blk_frozen BK480.out 2; have hfz14_3 := blk_frozen BK480.out 3; have hfz14_4 := blk_frozen BK480.out 4) | ((with_reducible refine gate_callee (f := 15) rfl ?_); refine zg (some 16) #[.agg #[.int .i64 a1_0, .int .i64 a1_1, .int .i64 a1_2, .int .i64 a1_3, .string a1_4], .int .i64 1048576] Try.func15 ?_; (with_reducible refine (laws_szEntry.calls a1_0 a1_1 a1_2 a1_3 a1_4 1048576 t481 _ A3.out).mono ?_); rintro e w15 ⟨rfl, hb⟩; refine ⟨_, rfl, ?_⟩; replace BK480 := zm (blk_below (zb BK480) hb); replace HB := zm (below_step zB hb); clear hb; have hcz16_0 : w15.cell? ⟨gb480, 0, none⟩ = some (.int .i64 a1_0) := (blk_cell BK480.out 0).trans rfl; have hcz16_1 : w15.cell? ⟨gb480, 1, none⟩ = some (.int .i64 a1_1) := (blk_cell BK480.out 1).trans rfl; have hcz16_2 : w15.cell? ⟨gb480, 2, none⟩ = some (.int .i64 a1_2) := (blk_cell BK480.out 2).trans rfl; have hcz16_3 : w15.cell? ⟨gb480, 3, none⟩ = some (.int .i64 a1_3) := (blk_cell BK480.out 3).trans rfl; have hcz16_4 : w15.cell? ⟨gb480, 4, none⟩ = some (.string a1_4) := (blk_cell BK480.out 4).trans rfl; have hfz16_0 := blk_frozen BK480.out 0; have hfz16_1 := blk_frozen BK480.out 1; have hfz16_2 := blk_frozen BK480.out 2; have hfz16_3 := blk_frozen BK480.out 3; have hfz16_4 := blk_frozen BK480.out 4) | ((with_reducible refine gate_callee (f := 17) rfl ?_); refine zg (some 22) #[.agg #[.int .i64 a1_0, .int .i64 a1_1, .int .i64 a1_2, .int .i64 a1_3, .string a1_4]] Try.func17 ?_; (with_reducible refine (laws_toEntry.calls a1_0 a1_1 a1_2 a1_3 a1_4 t482 t483 t484 t485 t486 _ A8.out).mono ?_); rintro e w17 ⟨rfl, hb⟩; refine ⟨_, rfl, ?_⟩; replace BK480 := zm (blk_below (zb BK480) hb); replace HB := zm (below_step zB hb); clear hb) | ((with_reducible refine gate_callee (f := 46) rfl ?_); refine zg (some 23) #[.int .i64 a0, .agg #[.int .i64 t482, .int .i64 t483, .int .i64 t484, .int .i64 t485, .string t486]] Try.func46 ?_; (with_reducible refine (spec_Single.calls k a0 t482 t483 t484 t485 t486 t487 t490 t493 _ A9.out).mono ?_); rintro e w18 ⟨v488, v491, rfl, ho0, ho1, hb⟩; refine ⟨_, rfl, ?_⟩; have HO489 := zm (Kd.R_lower ho0 (below_size zB)); have HO492 := zm (Kd.R_lower ho1 (below_size zB)); replace BK480 := zm (blk_below (zb BK480) hb); replace HB := zm (below_step zB hb); clear hb ho0 ho1) | ((with_reducible refine gate_dst (N := 6) rfl ?_); refine zbox 6 #[.slice none 0 0, .slice none 0 0] 55 ?_; intro gb494 hg w19 hbox hb; replace HO489 := zm (Kd.R_below (zr HO489) hb); replace HO492 := zm (Kd.R_below (zr HO492) hb); have BK494 := zm (hbox); have GW494 := zge w hg zB; have GE494 := zge w hg zB; replace HB := zm (below_step zB hb); have NB480_494 := zlt hg (zb BK480); have NB494_480 := zgt hg (zb BK480); replace BK480 := zm (blk_below (zb BK480) hb); clear hb hbox hg; obtain ⟨Ao20, co20, eo20⟩ := Kd.R_slice HO489.out; subst eo20; have hnb21 := NB494_480.out; have hnc21 := NB480_494.out; have hcz22_0 : w19.cell? ⟨gb494, 0, none⟩ = some (.slice none 0 0) := (blk_cell BK494.out 0).trans rfl; have hcz22_1 : w19.cell? ⟨gb494, 1, none⟩ = some (.slice none 0 0) := (blk_cell BK494.out 1).trans rfl; have hfz22_0 := blk_frozen BK494.out 0; have hfz22_1 := blk_frozen BK494.out 1; obtain ⟨Ao23, co23, eo23⟩ := Kd.R_slice HO492.out; subst eo23; have hcz24_0 : w19.cell? ⟨gb480, 0, none⟩ = some (.int .i64 a1_0) := (blk_cell BK480.out 0).trans rfl; have hcz24_1 : w19.cell? ⟨gb480, 1, none⟩ = some (.int .i64 a1_1) := (blk_cell BK480.out 1).trans rfl; have hcz24_2 : w19.cell? ⟨gb480, 2, none⟩ = some (.int .i64 a1_2) := (blk_cell BK480.out 2).trans rfl; have hcz24_3 : w19.cell? ⟨gb480, 3, none⟩ = some (.int .i64 a1_3) := (blk_cell BK480.out 3).trans rfl; have hcz24_4 : w19.cell? ⟨gb480, 4, none⟩ = some (.string a1_4) := (blk_cell BK480.out 4).trans rfl; have hfz24_0 := blk_frozen BK480.out 0; have hfz24_1 := blk_frozen BK480.out 1; have hfz24_2 := blk_frozen BK480.out 2; have hfz24_3 := blk_frozen BK480.out 3; have hfz24_4 := blk_frozen BK480.out 4) | ((with_reducible refine gate_callee (f := 17) rfl ?_); refine zg (some 29) #[.agg #[.int .i64 a1_0, .int .i64 a1_1, .int .i64 a1_2, .int .i64 a1_3, .string a1_4]] Try.func17 ?_; (with_reducible refine (laws_toEntry.calls a1_0 a1_1 a1_2 a1_3 a1_4 t495 t496 t497 t498 t499 _ A10.out).mono ?_); rintro e w25 ⟨rfl, hb⟩; refine ⟨_, rfl, ?_⟩; replace HO489 := zm (Kd.R_below (zrs <| (Kd.R_mono (zfr (zfr (Kd.R_types HO489.out BK494.out (by decide)))) (fun _ h_ => h_.1))) hb); replace HO492 := zm (Kd.R_below (zrs <| (Kd.R_mono (zfr (zfr (Kd.R_types HO492.out BK494.out (by decide)))) (fun _ h_ => h_.1))) hb); replace BK480 := zm (blk_below (g := gb480) (o := .cells #[.int .i64 a1_0, .int .i64 a1_1, .int .i64 a1_2, .int .i64 a1_3, .string a1_4] 23 (0, 0)) (zfar (zfar (zb BK480) NB480_494) NB480_494) hb); replace BK494 := zm (blk_below (g := gb494) (o := .cells #[.slice Ao20 t487.length co20, .slice Ao23 t490.length co23] 55 (0, 0)) (zput (zput (zb BK494) 0) 1) hb); replace HB := zm (below_step zB hb); clear hb) | ((with_reducible refine gate_callee (f := 47) rfl ?_); refine zg (some 30) #[.int .i64 a0, .agg #[.int .i64 t495, .int .i64 t496, .int .i64 t497, .int .i64 t498, .string t499]] Try.func47 ?_; (with_reducible refine (impl_Single.calls k a0 t495 t496 t497 t498 t499 t500 t503 t506 _ A11.out).mono ?_); rintro e w26 ⟨v501, v504, rfl, ho0, ho1, hb⟩; refine ⟨_, rfl, ?_⟩; have HO502 := zm (Kd.R_lower (Kd.R_new' ho0 (Kd.R_lt (zr HO489))) (below_size zB)); replace HO489 := zm (Kd.R_elder' (zr HO489) (Kd.R_base ho0) hb); have HO505 := zm (Kd.R_lower (Kd.R_new' ho1 (Kd.R_lt (zr HO492))) (below_size zB)); replace HO492 := zm (Kd.R_elder' (zr HO492) (Kd.R_base ho1) hb); replace BK480 := zm (blk_below (zb BK480) hb); replace BK494 := zm (blk_below (zb BK494) hb); replace HB := zm (below_step zB hb); clear hb ho0 ho1) | ((with_reducible refine gate_dst (N := 8) rfl ?_); refine zbox 8 #[.slice none 0 0, .slice none 0 0] 55 ?_; intro gb507 hg w27 hbox hb; replace HO489 := zm (Kd.R_below (zr HO489) hb); replace HO492 := zm (Kd.R_below (zr HO492) hb); replace HO502 := zm (Kd.R_below (zr HO502) hb); replace HO505 := zm (Kd.R_below (zr HO505) hb); have BK507 := zm (hbox); have GW507 := zge w hg zB; have GE507 := zge w hg zB; replace HB := zm (below_step zB hb); have NB480_507 := zlt hg (zb BK480); have NB507_480 := zgt hg (zb BK480); replace BK480 := zm (blk_below (zb BK480) hb); have NB494_507 := zlt hg (zb BK494); have NB507_494 := zgt hg (zb BK494); replace BK494 := zm (blk_below (zb BK494) hb); clear hb hbox hg; obtain ⟨Ao28, co28, eo28⟩ := Kd.R_slice HO502.out; subst eo28; have hnb29 := NB507_480.out; have hnc29 := NB480_507.out; have hnb30 := NB507_494.out; have hnc30 := NB494_507.out; have hcz31_0 : w27.cell? ⟨gb507, 0, none⟩ = some (.slice none 0 0) := (blk_cell BK507.out 0).trans rfl; have hcz31_1 : w27.cell? ⟨gb507, 1, none⟩ = some (.slice none 0 0) := (blk_cell BK507.out 1).trans rfl; have hfz31_0 := blk_frozen BK507.out 0; have hfz31_1 := blk_frozen BK507.out 1; obtain ⟨Ao32, co32, eo32⟩ := Kd.R_slice HO505.out; subst eo32))
  (try simp only [Act.put, List.setIfInBounds_toArray, List.set_cons_zero, List.set_cons_succ])
  go_cut [41] (fun v41 wc => ∃ (kq : Nat) (x41_11 : Bool), v41 = .bool x41_11 ∧ Aside0 (laws_FnExactSingle.j0 kq a0 t493 x41_11 a1_0 a1_1 a1_2 a1_3 a1_4 t487 t490 t500 t503 = some r) ∧ Aside0 (kq ≤ k) ∧ Aside0 (Kd.R k84 84 wc w.heap.size (fun k_ => some k_ ≠ ((.slice Ao28 t500.length co28) : Value).ownBlock) (.slice Ao20 t487.length co20) t487) ∧ Aside0 (Kd.R k89 89 wc w.heap.size (fun k_ => some k_ ≠ ((.slice Ao32 t503.length co32) : Value).ownBlock) (.slice Ao23 t490.length co23) t490) ∧ Aside0 (Kd.R k84 84 wc w.heap.size (fun k_ => some k_ ≠ ((.slice Ao20 t487.length co20) : Value).ownBlock) (.slice Ao28 t500.length co28) t500) ∧ Aside0 (Kd.R k89 89 wc w.heap.size (fun k_ => some k_ ≠ ((.slice Ao23 t490.length co23) : Value).ownBlock) (.slice Ao32 t503.length co32) t503) ∧ Aside0 (wc.heap[gb480]? = some (.cells #[.int .i64 a1_0, .int .i64 a1_1, .int .i64 a1_2, .int .i64 a1_3, .string a1_4] 23 (0, 0))) ∧ Aside0 (wc.heap[gb494]? = some (.cells #[(.slice Ao20 t487.length co20), (.slice Ao23 t490.length co23)] 55 (0, 0))) ∧ Aside0 (wc.heap[gb507]? = some (.cells #[(.slice Ao28 t500.length co28), (.slice Ao32 t503.length co32)] 55 (0, 0))) ∧ Aside0 (Below w.heap.size w wc))
  case first =>
   have H := HC12.out
   clear HC12
   replace H := Option.bind_eq_some_iff.mp H
   obtain ⟨t508, A330, H⟩ := H
   replace H : (if t508 = true then (laws_FnExactSingle.j0 k a0 t493 (t506 != t493) a1_0 a1_1 a1_2 a1_3 a1_4 t487 t490 t500 t503) else (laws_FnExactSingle.j0 k a0 t493 true a1_0 a1_1 a1_2 a1_3 a1_4 t487 t490 t500 t503)) = some r := H
   have A33 := zm A330
   clear A330
   by_cases c34 : t508 = true
   ·subst c34
    have H1 : (laws_FnExactSingle.j0 k a0 t493 (t506 != t493) a1_0 a1_1 a1_2 a1_3 a1_4 t487 t490 t500 t503) = some r := by rw [if_pos rfl] at H; exact H
    clear H
    have H := H1
    clear H1
    have H' := zm H
    clear H
    have hnb35 := NB507_480.out
    have hnc35 := NB480_507.out
    have hnb36 := NB507_494.out
    have hnc36 := NB494_507.out
    have hcz37_0 : w27.cell? ⟨gb507, 0, none⟩ = some (.slice none 0 0) := (blk_cell BK507.out 0).trans rfl
    have hcz37_1 : w27.cell? ⟨gb507, 1, none⟩ = some (.slice none 0 0) := (blk_cell BK507.out 1).trans rfl
    have hfz37_0 := blk_frozen BK507.out 0
    have hfz37_1 := blk_frozen BK507.out 1
    have hnb38 := NB494_480.out
    have hnc38 := NB480_494.out
    have hcz39_0 : w27.cell? ⟨gb494, 0, none⟩ = some (.slice Ao20 t487.length co20) := (blk_cell BK494.out 0).trans rfl
    have hcz39_1 : w27.cell? ⟨gb494, 1, none⟩ = some (.slice Ao23 t490.length co23) := (blk_cell BK494.out 1).trans rfl
    have hfz39_0 := blk_frozen BK494.out 0
    have hfz39_1 := blk_frozen BK494.out 1
    go_wp2_with (first | ((with_reducible refine gate_callee (f := 39) rfl ?_); refine zg (some 35) #[.agg #[.slice Ao28 t500.length co28, .slice Ao32 t503.length co32], .agg #[.slice Ao20 t487.length co20, .slice Ao23 t490.length co23]] Try.func39 ?_; (with_reducible refine (laws_eqState.calls k _ _ t500 _ _ t503 _ _ t487 _ _ t490 true _ ?side1 ?side2 ?side3 ?side4 ?side5 ?side6 ?side7 ?side8 A33.out).mono ?_); (case side1 => refine (Kd.R_reads' (e := 84) (base := w.heap.size) (ok := fun k_ => (True ∧ some k_ ≠ (.slice Ao20 t487.length co20 : Value).ownBlock)) (n := t500.length) (c := co28) ?_).2.2; exact (zrs <| (Kd.R_mono (zfr (zfr (Kd.R_types HO502.out BK507.out (by decide)))) (fun _ h_ => h_.1)))); (case side2 => exact (Kd.R_reads' HO502.out).2.1); (case side3 => refine (Kd.R_reads' (e := 89) (base := w.heap.size) (ok := fun k_ => (True ∧ some k_ ≠ (.slice Ao23 t490.length co23 : Value).ownBlock)) (n := t503.length) (c := co32) ?_).2.2; exact (zrs <| (Kd.R_mono (zfr (zfr (Kd.R_types HO505.out BK507.out (by decide)))) (fun _ h_ => h_.1)))); (case side4 => exact (Kd.R_reads' HO505.out).2.1); (case side5 => refine (Kd.R_reads' (e := 84) (base := w.heap.size) (ok := fun k_ => (True ∧ some k_ ≠ (.slice Ao28 t500.length co28 : Value).ownBlock)) (n := t487.length) (c := co20) ?_).2.2; exact (zrs <| (Kd.R_mono (zfr (zfr (Kd.R_types HO489.out BK507.out (by decide)))) (fun _ h_ => h_.1)))); (case side6 => exact (Kd.R_reads' HO489.out).2.1); (case side7 => refine (Kd.R_reads' (e := 89) (base := w.heap.size) (ok := fun k_ => (True ∧ some k_ ≠ (.slice Ao32 t503.length co32 : Value).ownBlock)) (n := t490.length) (c := co23) ?_).2.2; exact (zrs <| (Kd.R_mono (zfr (zfr (Kd.R_types HO492.out BK507.out (by decide)))) (fun _ h_ => h_.1)))); (case side8 => exact (Kd.R_reads' HO492.out).2.1); rintro e w40 ⟨rfl, hb⟩; refine ⟨_, rfl, ?_⟩; replace HO489 := zm (Kd.R_below (zrs <| (Kd.R_mono (zfr (zfr (Kd.R_types HO489.out BK507.out (by decide)))) (fun _ h_ => h_.1))) hb); replace HO492 := zm (Kd.R_below (zrs <| (Kd.R_mono (zfr (zfr (Kd.R_types HO492.out BK507.out (by decide)))) (fun _ h_ => h_.1))) hb); replace HO502 := zm (Kd.R_below (zrs <| (Kd.R_mono (zfr (zfr (Kd.R_types HO502.out BK507.out (by decide)))) (fun _ h_ => h_.1))) hb); replace HO505 := zm (Kd.R_below (zrs <| (Kd.R_mono (zfr (zfr (Kd.R_types HO505.out BK507.out (by decide)))) (fun _ h_ => h_.1))) hb); replace BK480 := zm (blk_below (g := gb480) (o := .cells #[.int .i64 a1_0, .int .i64 a1_1, .int .i64 a1_2, .int .i64 a1_3, .string a1_4] 23 (0, 0)) (zfar (zfar (zb BK480) NB480_507) NB480_507) hb); replace BK494 := zm (blk_below (g := gb494) (o := .cells #[.slice Ao20 t487.length co20, .slice Ao23 t490.length co23] 55 (0, 0)) (zfar (zfar (zb BK494) NB494_507) NB494_507) hb); replace BK507 := zm (blk_below (g := gb507) (o := .cells #[.slice Ao28 t500.length co28, .slice Ao32 t503.length co32] 55 (0, 0)) (zput (zput (zb BK507) 0) 1) hb); replace HB := zm (below_step zB hb); clear hb))
    go_meet
    case rel => exact ⟨_, ((t506 != t493)), zF, H', ⟨by first | omega | exact Nat.le_refl _⟩, ⟨by (with_reducible repeat (first | apply Kd.R_alloc | apply Kd.R_drewN | apply Kd.R_drew)); exact Kd.R_mono HO489.out (fun _ hk => hk.2)⟩, ⟨by (with_reducible repeat (first | apply Kd.R_alloc | apply Kd.R_drewN | apply Kd.R_drew)); exact Kd.R_mono HO492.out (fun _ hk => hk.2)⟩, ⟨by (with_reducible repeat (first | apply Kd.R_alloc | apply Kd.R_drewN | apply Kd.R_drew)); exact Kd.R_mono HO502.out (fun _ hk => hk.2)⟩, ⟨by (with_reducible repeat (first | apply Kd.R_alloc | apply Kd.R_drewN | apply Kd.R_drew)); exact Kd.R_mono HO505.out (fun _ hk => hk.2)⟩, ⟨zb BK480⟩, ⟨zb BK494⟩, ⟨zb BK507⟩, ⟨zB⟩⟩
   ·replace c34 := Bool.eq_false_iff.mpr c34
    subst c34
    have H1 : (laws_FnExactSingle.j0 k a0 t493 true a1_0 a1_1 a1_2 a1_3 a1_4 t487 t490 t500 t503) = some r := by rw [if_neg (show ¬ (false = true) by decide)] at H; exact H
    clear H
    have H := H1
    clear H1
    have H' := zm H
    clear H
    have hnb41 := NB507_480.out
    have hnc41 := NB480_507.out
    have hnb42 := NB507_494.out
    have hnc42 := NB494_507.out
    have hcz43_0 : w27.cell? ⟨gb507, 0, none⟩ = some (.slice none 0 0) := (blk_cell BK507.out 0).trans rfl
    have hcz43_1 : w27.cell? ⟨gb507, 1, none⟩ = some (.slice none 0 0) := (blk_cell BK507.out 1).trans rfl
    have hfz43_0 := blk_frozen BK507.out 0
    have hfz43_1 := blk_frozen BK507.out 1
    have hnb44 := NB494_480.out
    have hnc44 := NB480_494.out
    have hcz45_0 : w27.cell? ⟨gb494, 0, none⟩ = some (.slice Ao20 t487.length co20) := (blk_cell BK494.out 0).trans rfl
    have hcz45_1 : w27.cell? ⟨gb494, 1, none⟩ = some (.slice Ao23 t490.length co23) := (blk_cell BK494.out 1).trans rfl
    have hfz45_0 := blk_frozen BK494.out 0
    have hfz45_1 := blk_frozen BK494.out 1
    go_wp2_with (first | ((with_reducible refine gate_callee (f := 39) rfl ?_); refine zg (some 35) #[.agg #[.slice Ao28 t500.length co28, .slice Ao32 t503.length co32], .agg #[.slice Ao20 t487.length co20, .slice Ao23 t490.length co23]] Try.func39 ?_; (with_reducible refine (laws_eqState.calls k _ _ t500 _ _ t503 _ _ t487 _ _ t490 false _ ?side1 ?side2 ?side3 ?side4 ?side5 ?side6 ?side7 ?side8 A33.out).mono ?_); (case side1 => refine (Kd.R_reads' (e := 84) (base := w.heap.size) (ok := fun k_ => (True ∧ some k_ ≠ (.slice Ao20 t487.length co20 : Value).ownBlock)) (n := t500.length) (c := co28) ?_).2.2; exact (zrs <| (Kd.R_mono (zfr (zfr (Kd.R_types HO502.out BK507.out (by decide)))) (fun _ h_ => h_.1)))); (case side2 => exact (Kd.R_reads' HO502.out).2.1); (case side3 => refine (Kd.R_reads' (e := 89) (base := w.heap.size) (ok := fun k_ => (True ∧ some k_ ≠ (.slice Ao23 t490.length co23 : Value).ownBlock)) (n := t503.length) (c := co32) ?_).2.2; exact (zrs <| (Kd.R_mono (zfr (zfr (Kd.R_types HO505.out BK507.out (by decide)))) (fun _ h_ => h_.1)))); (case side4 => exact (Kd.R_reads' HO505.out).2.1); (case side5 => refine (Kd.R_reads' (e := 84) (base := w.heap.size) (ok := fun k_ => (True ∧ some k_ ≠ (.slice Ao28 t500.length co28 : Value).ownBlock)) (n := t487.length) (c := co20) ?_).2.2; exact (zrs <| (Kd.R_mono (zfr (zfr (Kd.R_types HO489.out BK507.out (by decide)))) (fun _ h_ => h_.1)))); (case side6 => exact (Kd.R_reads' HO489.out).2.1); (case side7 => refine (Kd.R_reads' (e := 89) (base := w.heap.size) (ok := fun k_ => (True ∧ some k_ ≠ (.slice Ao32 t503.length co32 : Value).ownBlock)) (n := t490.length) (c := co23) ?_).2.2; exact (zrs <| (Kd.R_mono (zfr (zfr (Kd.R_types HO492.out BK507.out (by decide)))) (fun _ h_ => h_.1)))); (case side8 => exact (Kd.R_reads' HO492.out).2.1); rintro e w46 ⟨rfl, hb⟩; refine ⟨_, rfl, ?_⟩; replace HO489 := zm (Kd.R_below (zrs <| (Kd.R_mono (zfr (zfr (Kd.R_types HO489.out BK507.out (by decide)))) (fun _ h_ => h_.1))) hb); replace HO492 := zm (Kd.R_below (zrs <| (Kd.R_mono (zfr (zfr (Kd.R_types HO492.out BK507.out (by decide)))) (fun _ h_ => h_.1))) hb); replace HO502 := zm (Kd.R_below (zrs <| (Kd.R_mono (zfr (zfr (Kd.R_types HO502.out BK507.out (by decide)))) (fun _ h_ => h_.1))) hb); replace HO505 := zm (Kd.R_below (zrs <| (Kd.R_mono (zfr (zfr (Kd.R_types HO505.out BK507.out (by decide)))) (fun _ h_ => h_.1))) hb); replace BK480 := zm (blk_below (g := gb480) (o := .cells #[.int .i64 a1_0, .int .i64 a1_1, .int .i64 a1_2, .int .i64 a1_3, .string a1_4] 23 (0, 0)) (zfar (zfar (zb BK480) NB480_507) NB480_507) hb); replace BK494 := zm (blk_below (g := gb494) (o := .cells #[.slice Ao20 t487.length co20, .slice Ao23 t490.length co23] 55 (0, 0)) (zfar (zfar (zb BK494) NB494_507) NB494_507) hb); replace BK507 := zm (blk_below (g := gb507) (o := .cells #[.slice Ao28 t500.length co28, .slice Ao32 t503.length co32] 55 (0, 0)) (zput (zput (zb BK507) 0) 1) hb); replace HB := zm (below_step zB hb); clear hb))
    go_meet
    case rel => exact ⟨_, (true), zF, H', ⟨by first | omega | exact Nat.le_refl _⟩, ⟨by (with_reducible repeat (first | apply Kd.R_alloc | apply Kd.R_drewN | apply Kd.R_drew)); exact Kd.R_mono HO489.out (fun _ hk => hk.2)⟩, ⟨by (with_reducible repeat (first | apply Kd.R_alloc | apply Kd.R_drewN | apply Kd.R_drew)); exact Kd.R_mono HO492.out (fun _ hk => hk.2)⟩, ⟨by (with_reducible repeat (first | apply Kd.R_alloc | apply Kd.R_drewN | apply Kd.R_drew)); exact Kd.R_mono HO502.out (fun _ hk => hk.2)⟩, ⟨by (with_reducible repeat (first | apply Kd.R_alloc | apply Kd.R_drewN | apply Kd.R_drew)); exact Kd.R_mono HO505.out (fun _ hk => hk.2)⟩, ⟨zb BK480⟩, ⟨zb BK494⟩, ⟨zb BK507⟩, ⟨zB⟩⟩
  case rest =>
   clear HC12
   try clear c1
   try clear c2
   try clear p2
   try clear c3
   try clear c4
   try clear c4b0
   try clear c10
   try clear c15
   try clear c17
   try clear c21
   try clear c29
   try clear c30
   try clear c34
   try clear c35
   try clear c36
   try clear c38
   try clear c39
   try clear c41
   try clear c42
   try clear c44
   try clear c46
   try clear hcz14_0
   try clear hcz14_1
   try clear hcz14_2
   try clear hcz14_3
   try clear hcz14_4
   try clear hcz16_0
   try clear hcz16_1
   try clear hcz16_2
   try clear hcz16_3
   try clear hcz16_4
   try clear hcz22_0
   try clear hcz22_1
   try clear hcz24_0
   try clear hcz24_1
   try clear hcz24_2
   try clear hcz24_3
   try clear hcz24_4
   try clear hcz31_0
   try clear hcz31_1
   try clear hcz37_0
   try clear hcz37_1
   try clear hcz39_0
   try clear hcz39_1
   try clear hcz43_0
   try clear hcz43_1
   try clear hcz45_0
   try clear hcz45_1
   try clear hcz6_0
   try clear hcz6_1
   try clear hcz6_2
   try clear hcz6_3
   try clear hcz6_4
   try clear hfz14_0
   try clear hfz14_1
   try clear hfz14_2
   try clear hfz14_3
   try clear hfz14_4
   try clear hfz16_0
   try clear hfz16_1
   try clear hfz16_2
   try clear hfz16_3
   try clear hfz16_4
   try clear hfz22_0
   try clear hfz22_1
   try clear hfz24_0
   try clear hfz24_1
   try clear hfz24_2
   try clear hfz24_3
   try clear hfz24_4
   try clear hfz31_0
   try clear hfz31_1
   try clear hfz37_0
   try clear hfz37_1
   try clear hfz39_0
   try clear hfz39_1
   try clear hfz43_0
   try clear hfz43_1
   try clear hfz45_0
   try clear hfz45_1
   try clear hfz6_0
   try clear hfz6_1
   try clear hfz6_2
   try clear hfz6_3
   try clear hfz6_4
   obtain ⟨kq, x41_11, rfl, HA, HJ11, HO_495000, HO_495001, HO_508000, HO_508001, BK480, BK494, BK507, HB⟩ := hcut
   cases kq with
   | zero => exact absurd HA.out (by simp [laws_FnExactSingle.j0])
   | succ kj11 =>
    have H := HA.out
    clear HA
    simp only [laws_FnExactSingle.j0] at H
    by_cases c47 : x41_11 = true
    ·subst c47
     have H1 : (some false) = some r := by rw [if_pos rfl] at H; exact H
     clear H
     have H := H1
     clear H1
     obtain rfl := Option.some.inj H
     go_wp2
     go_ret
     exact ⟨zE, zB⟩
    ·replace c47 := Bool.eq_false_iff.mpr c47
     subst c47
     have H1 : ((laws_markState.f kj11 t500 t503 1).bind fun bt509 => ((laws_heldState.f kj11 bt509.2.1 bt509.2.2 1).bind fun t512 => (if t512 < 0 then (some false) else (if t512 = bt509.1 then ((laws_toEntry.f a1_0 a1_1 a1_2 a1_3 a1_4).bind fun bt513 => ((impl_Single.f kj11 a0 bt513.1 bt513.2.1 bt513.2.2.1 bt513.2.2.2.1 bt513.2.2.2.2).bind fun bt518 => ((laws_eqState.f kj11 bt518.1 bt518.2.1 t487 t490).bind fun t526 => (if t526 = true then (laws_FnExactSingle.j1 kj11 bt509.1 (bt518.2.2 != t493) bt509.2.1 bt509.2.2) else (laws_FnExactSingle.j1 kj11 bt509.1 true bt509.2.1 bt509.2.2))))) else (some false))))) = some r := by rw [if_neg (show ¬ (false = true) by decide)] at H; exact H
     clear H
     have H := H1
     clear H1
     replace H := Option.bind_eq_some_iff.mp H
     obtain ⟨⟨t509, t510, t511⟩, A480, H⟩ := H
     replace H : ((laws_heldState.f kj11 t510 t511 1).bind fun t512 => (if t512 < 0 then (some false) else (if t512 = t509 then ((laws_toEntry.f a1_0 a1_1 a1_2 a1_3 a1_4).bind fun bt513 => ((impl_Single.f kj11 a0 bt513.1 bt513.2.1 bt513.2.2.1 bt513.2.2.2.1 bt513.2.2.2.2).bind fun bt518 => ((laws_eqState.f kj11 bt518.1 bt518.2.1 t487 t490).bind fun t526 => (if t526 = true then (laws_FnExactSingle.j1 kj11 t509 (bt518.2.2 != t493) t510 t511) else (laws_FnExactSingle.j1 kj11 t509 true t510 t511))))) else (some false)))) = some r := H
     have A48 := zm A480
     clear A480
     replace H := Option.bind_eq_some_iff.mp H
     obtain ⟨t512, A490, H⟩ := H
     replace H : (if t512 < 0 then (some false) else (if t512 = t509 then ((laws_toEntry.f a1_0 a1_1 a1_2 a1_3 a1_4).bind fun bt513 => ((impl_Single.f kj11 a0 bt513.1 bt513.2.1 bt513.2.2.1 bt513.2.2.2.1 bt513.2.2.2.2).bind fun bt518 => ((laws_eqState.f kj11 bt518.1 bt518.2.1 t487 t490).bind fun t526 => (if t526 = true then (laws_FnExactSingle.j1 kj11 t509 (bt518.2.2 != t493) t510 t511) else (laws_FnExactSingle.j1 kj11 t509 true t510 t511))))) else (some false))) = some r := H
     have A49 := zm A490
     clear A490
     by_cases c50 : t512 < 0
     ·rw [if_pos c50] at H
      have c50b0 : decide (t512 < 0) = true := decide_eq_true c50
      clear c50
      obtain rfl := Option.some.inj H
      have hnb51 := NB507_480.out
      have hnc51 := NB480_507.out
      have hnb52 := NB507_494.out
      have hnc52 := NB494_507.out
      have hcz53_0 : wc.cell? ⟨gb507, 0, none⟩ = some (.slice Ao28 t500.length co28) := (blk_cell BK507.out 0).trans rfl
      have hcz53_1 : wc.cell? ⟨gb507, 1, none⟩ = some (.slice Ao32 t503.length co32) := (blk_cell BK507.out 1).trans rfl
      have hfz53_0 := blk_frozen BK507.out 0
      have hfz53_1 := blk_frozen BK507.out 1
      go_wp2_with (first | ((with_reducible refine gate_callee (f := 48) rfl ?_); refine zg (some 44) #[.agg #[.slice Ao28 t500.length co28, .slice Ao32 t503.length co32], .int .i64 1] Try.func48 ?_; (with_reducible refine (laws_markState.calls kj11 (fun k_ => some k_ = (.slice Ao28 t500.length co28 : Value).ownBlock) (.slice Ao28 t500.length co28) t500 (fun k_ => some k_ = (.slice Ao32 t503.length co32 : Value).ownBlock) (.slice Ao32 t503.length co32) t503 1 t509 t510 t511 w _ zB ?side2 ?side3 A48.out).mono ?_); (case side2 => exact Kd.R_tight rfl HO_508000.out); (case side3 => exact Kd.R_tight rfl HO_508001.out); rintro e w54 ⟨rfl, hy0, hy1, hb, hkp⟩; refine ⟨_, rfl, ?_⟩; replace HO_495000 := zm (Kd.R_mono (ok' := fun k_ => some k_ ≠ (.slice Ao28 t500.length co28 : Value).ownBlock) (Kd.R_keptB ((Kd.R_apart' HO_495000.out (Kd.R_typed HO_508001.out) (by decide))) hkp (fun k_ hk_ hs_ => Or.elim hs_ (fun e_ => (hk_.1) e_) (fun e_ => (hk_.2) e_))) (fun k_ hk_ => hk_.1.1)); replace HO_495001 := zm (Kd.R_mono (ok' := fun k_ => some k_ ≠ (.slice Ao32 t503.length co32 : Value).ownBlock) (Kd.R_keptB ((Kd.R_apart' HO_495001.out (Kd.R_typed HO_508000.out) (by decide))) hkp (fun k_ hk_ hs_ => Or.elim hs_ (fun e_ => (hk_.2) e_) (fun e_ => (hk_.1) e_))) (fun k_ hk_ => hk_.1.1)); replace BK480 := zm (blk_kept (zb BK480) hkp (fun hs_ => Or.elim hs_ (fun e_ => (fun e_ => (Kd.R_ne HO_508000.out BK480.out (by decide)) e_) e_) (fun e_ => (fun e_ => (Kd.R_ne HO_508001.out BK480.out (by decide)) e_) e_))); replace BK494 := zm (blk_kept (zb BK494) hkp (fun hs_ => Or.elim hs_ (fun e_ => (fun e_ => (Kd.R_ne HO_508000.out BK494.out (by decide)) e_) e_) (fun e_ => (fun e_ => (Kd.R_ne HO_508001.out BK494.out (by decide)) e_) e_))); replace BK507 := zm (blk_kept (zb BK507) hkp (fun hs_ => Or.elim hs_ (fun e_ => (fun e_ => (Kd.R_ne HO_508000.out BK507.out (by decide)) e_) e_) (fun e_ => (fun e_ => (Kd.R_ne HO_508001.out BK507.out (by decide)) e_) e_))); replace HO_508000 := zm (Kd.R_reok rfl hy0 (fun k_ e_ => HO_508000.out.1 k_ e_)); replace HO_508001 := zm (Kd.R_reok rfl hy1 (fun k_ e_ => HO_508001.out.1 k_ e_)); replace HB := zm (hb); clear hb hkp hy0; (try clear hy1); have hcz55_0 : w54.cell? ⟨gb507, 0, none⟩ = some (.slice Ao28 t500.length co28) := (blk_cell BK507.out 0).trans rfl; have hcz55_1 : w54.cell? ⟨gb507, 1, none⟩ = some (.slice Ao32 t503.length co32) := (blk_cell BK507.out 1).trans rfl; have hfz55_0 := blk_frozen BK507.out 0; have hfz55_1 := blk_frozen BK507.out 1) | ((with_reducible refine gate_callee (f := 49) rfl ?_); refine goesL_ (some 47) rfl rfl Try.func49 (by kernel_rfl) rfl #[.agg #[.slice Ao28 t510.length co28, .slice Ao32 t511.length co32], .int .i64 1] rfl (by (try simp only [List.map_toArray, List.map_cons, List.map_nil]); first | done | (rw [show t510.length = t500.length from (Kd.R_reads' HO_508000.out).1.symm, show t511.length = t503.length from (Kd.R_reads' HO_508001.out).1.symm] <;> rfl) | rfl | (simp only [List.length_drop, List.length_take]; rfl)) ?_; (with_reducible refine (laws_heldState.calls kj11 _ _ t510 _ _ t511 1 t512 _ ?side1 ?side2 ?side3 ?side4 A49.out).mono ?_); (case side1 => repeat (first | exact (Kd.R_reads' HO_508000.out).2.2 | (with_reducible refine Kd.C_alloc ?_ _) | (with_reducible refine Kd.C_drewN ?_ _) | (with_reducible refine Kd.C_drew ?_))); (case side2 => rw [show t510.length = t500.length from (Kd.R_reads' HO_508000.out).1.symm]; exact (Kd.R_reads' HO_508000.out).2.1); (case side3 => repeat (first | exact (Kd.R_reads' HO_508001.out).2.2 | (with_reducible refine Kd.C_alloc ?_ _) | (with_reducible refine Kd.C_drewN ?_ _) | (with_reducible refine Kd.C_drew ?_))); (case side4 => rw [show t511.length = t503.length from (Kd.R_reads' HO_508001.out).1.symm]; exact (Kd.R_reads' HO_508001.out).2.1); rintro e w56 ⟨rfl, hb⟩; refine ⟨_, rfl, ?_⟩; replace HO_495000 := zm (Kd.R_below (zr HO_495000) hb); replace HO_495001 := zm (Kd.R_below (zr HO_495001) hb); replace HO_508000 := zm (Kd.R_below (zr HO_508000) hb); replace HO_508001 := zm (Kd.R_below (zr HO_508001) hb); replace BK480 := zm (blk_below (zb BK480) hb); replace BK494 := zm (blk_below (zb BK494) hb); replace BK507 := zm (blk_below (zb BK507) hb); replace HB := zm (below_step zB hb); clear hb))
      go_ret
      exact ⟨zE, zB⟩
     ·rw [if_neg c50] at H
      have c50b0 : decide (t512 < 0) = false := decide_eq_false c50
      clear c50
      by_cases c57 : t512 = t509
      ·rw [if_pos c57] at H
       have c57b0 : (t512 == t509) = true := beq_iff_eq.mpr c57
       have c57b1 : (t512 != t509) = false := bne_eq_false_iff_eq.mpr c57
       clear c57
       replace H := Option.bind_eq_some_iff.mp H
       obtain ⟨⟨t513, t514, t515, t516, t517⟩, A580, H⟩ := H
       replace H : ((impl_Single.f kj11 a0 t513 t514 t515 t516 t517).bind fun bt518 => ((laws_eqState.f kj11 bt518.1 bt518.2.1 t487 t490).bind fun t526 => (if t526 = true then (laws_FnExactSingle.j1 kj11 t509 (bt518.2.2 != t493) t510 t511) else (laws_FnExactSingle.j1 kj11 t509 true t510 t511)))) = some r := H
       have A58 := zm A580
       clear A580
       replace H := Option.bind_eq_some_iff.mp H
       obtain ⟨⟨t518, t521, t524⟩, A590, H⟩ := H
       replace H : ((laws_eqState.f kj11 t518 t521 t487 t490).bind fun t526 => (if t526 = true then (laws_FnExactSingle.j1 kj11 t509 (t524 != t493) t510 t511) else (laws_FnExactSingle.j1 kj11 t509 true t510 t511))) = some r := H
       have A59 := zm A590
       clear A590
       have HC60 := zm H
       clear H
       have hnb61 := NB507_480.out
       have hnc61 := NB480_507.out
       have hnb62 := NB507_494.out
       have hnc62 := NB494_507.out
       have hcz63_0 : wc.cell? ⟨gb507, 0, none⟩ = some (.slice Ao28 t500.length co28) := (blk_cell BK507.out 0).trans rfl
       have hcz63_1 : wc.cell? ⟨gb507, 1, none⟩ = some (.slice Ao32 t503.length co32) := (blk_cell BK507.out 1).trans rfl
       have hfz63_0 := blk_frozen BK507.out 0
       have hfz63_1 := blk_frozen BK507.out 1
       go_upto_region 18 with (first | ((with_reducible refine gate_callee (f := 48) rfl ?_); refine zg (some 44) #[.agg #[.slice Ao28 t500.length co28, .slice Ao32 t503.length co32], .int .i64 1] Try.func48 ?_; (with_reducible refine (laws_markState.calls kj11 (fun k_ => some k_ = (.slice Ao28 t500.length co28 : Value).ownBlock) (.slice Ao28 t500.length co28) t500 (fun k_ => some k_ = (.slice Ao32 t503.length co32 : Value).ownBlock) (.slice Ao32 t503.length co32) t503 1 t509 t510 t511 w _ zB ?side2 ?side3 A48.out).mono ?_); (case side2 => exact Kd.R_tight rfl HO_508000.out); (case side3 => exact Kd.R_tight rfl HO_508001.out); rintro e w64 ⟨rfl, hy0, hy1, hb, hkp⟩; refine ⟨_, rfl, ?_⟩; replace HO_495000 := zm (Kd.R_mono (ok' := fun k_ => some k_ ≠ (.slice Ao28 t500.length co28 : Value).ownBlock) (Kd.R_keptB ((Kd.R_apart' HO_495000.out (Kd.R_typed HO_508001.out) (by decide))) hkp (fun k_ hk_ hs_ => Or.elim hs_ (fun e_ => (hk_.1) e_) (fun e_ => (hk_.2) e_))) (fun k_ hk_ => hk_.1.1)); replace HO_495001 := zm (Kd.R_mono (ok' := fun k_ => some k_ ≠ (.slice Ao32 t503.length co32 : Value).ownBlock) (Kd.R_keptB ((Kd.R_apart' HO_495001.out (Kd.R_typed HO_508000.out) (by decide))) hkp (fun k_ hk_ hs_ => Or.elim hs_ (fun e_ => (hk_.2) e_) (fun e_ => (hk_.1) e_))) (fun k_ hk_ => hk_.1.1)); replace BK480 := zm (blk_kept (zb BK480) hkp (fun hs_ => Or.elim hs_ (fun e_ => (fun e_ => (Kd.R_ne HO_508000.out BK480.out (by decide)) e_) e_) (fun e_ => (fun e_ => (Kd.R_ne HO_508001.out BK480.out (by decide)) e_) e_))); replace BK494 := zm (blk_kept (zb BK494) hkp (fun hs_ => Or.elim hs_ (fun e_ => (fun e_ => (Kd.R_ne HO_508000.out BK494.out (by decide)) e_) e_) (fun e_ => (fun e_ => (Kd.R_ne HO_508001.out BK494.out (by decide)) e_) e_))); replace BK507 := zm (blk_kept (zb BK507) hkp (fun hs_ => Or.elim hs_ (fun e_ => (fun e_ => (Kd.R_ne HO_508000.out BK507.out (by decide)) e_) e_) (fun e_ => (fun e_ => (Kd.R_ne HO_508001.out BK507.out (by decide)) e_) e_))); replace HO_508000 := zm (Kd.R_reok rfl hy0 (fun k_ e_ => HO_508000.out.1 k_ e_)); replace HO_508001 := zm (Kd.R_reok rfl hy1 (fun k_ e_ => HO_508001.out.1 k_ e_)); replace HB := zm (hb); clear hb hkp hy0; (try clear hy1); have hcz65_0 : w64.cell? ⟨gb507, 0, none⟩ = some (.slice Ao28 t500.length co28) := (blk_cell BK507.out 0).trans rfl; have hcz65_1 : w64.cell? ⟨gb507, 1, none⟩ = some (.slice Ao32 t503.length co32) := (blk_cell BK507.out 1).trans rfl; have hfz65_0 := blk_frozen BK507.out 0; have hfz65_1 := blk_frozen BK507.out 1) | ((with_reducible refine gate_callee (f := 49) rfl ?_); refine goesL_ (some 47) rfl rfl Try.func49 (by kernel_rfl) rfl #[.agg #[.slice Ao28 t510.length co28, .slice Ao32 t511.length co32], .int .i64 1] rfl (by (try simp only [List.map_toArray, List.map_cons, List.map_nil]); first | done | (rw [show t510.length = t500.length from (Kd.R_reads' HO_508000.out).1.symm, show t511.length = t503.length from (Kd.R_reads' HO_508001.out).1.symm] <;> rfl) | rfl | (simp only [List.length_drop, List.length_take]; rfl)) ?_; (with_reducible refine (laws_heldState.calls kj11 _ _ t510 _ _ t511 1 t512 _ ?side1 ?side2 ?side3 ?side4 A49.out).mono ?_); (case side1 => repeat (first | exact (Kd.R_reads' HO_508000.out).2.2 | (with_reducible refine Kd.C_alloc ?_ _) | (with_reducible refine Kd.C_drewN ?_ _) | (with_reducible refine Kd.C_drew ?_))); (case side2 => rw [show t510.length = t500.length from (Kd.R_reads' HO_508000.out).1.symm]; exact (Kd.R_reads' HO_508000.out).2.1); (case side3 => repeat (first | exact (Kd.R_reads' HO_508001.out).2.2 | (with_reducible refine Kd.C_alloc ?_ _) | (with_reducible refine Kd.C_drewN ?_ _) | (with_reducible refine Kd.C_drew ?_))); (case side4 => rw [show t511.length = t503.length from (Kd.R_reads' HO_508001.out).1.symm]; exact (Kd.R_reads' HO_508001.out).2.1); rintro e w66 ⟨rfl, hb⟩; refine ⟨_, rfl, ?_⟩; replace HO_495000 := zm (Kd.R_below (zr HO_495000) hb); replace HO_495001 := zm (Kd.R_below (zr HO_495001) hb); replace HO_508000 := zm (Kd.R_below (zr HO_508000) hb); replace HO_508001 := zm (Kd.R_below (zr HO_508001) hb); replace BK480 := zm (blk_below (zb BK480) hb); replace BK494 := zm (blk_below (zb BK494) hb); replace BK507 := zm (blk_below (zb BK507) hb); replace HB := zm (below_step zB hb); clear hb; have hnb67 := NB480_494.out; have hnc67 := NB494_480.out; have hcz68_0 : w66.cell? ⟨gb480, 0, none⟩ = some (.int .i64 a1_0) := (blk_cell BK480.out 0).trans rfl; have hcz68_1 : w66.cell? ⟨gb480, 1, none⟩ = some (.int .i64 a1_1) := (blk_cell BK480.out 1).trans rfl; have hcz68_2 : w66.cell? ⟨gb480, 2, none⟩ = some (.int .i64 a1_2) := (blk_cell BK480.out 2).trans rfl; have hcz68_3 : w66.cell? ⟨gb480, 3, none⟩ = some (.int .i64 a1_3) := (blk_cell BK480.out 3).trans rfl; have hcz68_4 : w66.cell? ⟨gb480, 4, none⟩ = some (.string a1_4) := (blk_cell BK480.out 4).trans rfl; have hfz68_0 := blk_frozen BK480.out 0; have hfz68_1 := blk_frozen BK480.out 1; have hfz68_2 := blk_frozen BK480.out 2; have hfz68_3 := blk_frozen BK480.out 3; have hfz68_4 := blk_frozen BK480.out 4) | ((with_reducible refine gate_callee (f := 17) rfl ?_); refine zg (some 56) #[.agg #[.int .i64 a1_0, .int .i64 a1_1, .int .i64 a1_2, .int .i64 a1_3, .string a1_4]] Try.func17 ?_; (with_reducible refine (laws_toEntry.calls a1_0 a1_1 a1_2 a1_3 a1_4 t513 t514 t515 t516 t517 _ A58.out).mono ?_); rintro e w69 ⟨rfl, hb⟩; refine ⟨_, rfl, ?_⟩; replace HO_495000 := zm (Kd.R_below (zr HO_495000) hb); replace HO_495001 := zm (Kd.R_below (zr HO_495001) hb); replace HO_508000 := zm (Kd.R_below (zr HO_508000) hb); replace HO_508001 := zm (Kd.R_below (zr HO_508001) hb); replace BK480 := zm (blk_below (zb BK480) hb); replace BK494 := zm (blk_below (zb BK494) hb); replace BK507 := zm (blk_below (zb BK507) hb); replace HB := zm (below_step zB hb); clear hb) | ((with_reducible refine gate_callee (f := 47) rfl ?_); refine zg (some 57) #[.int .i64 a0, .agg #[.int .i64 t513, .int .i64 t514, .int .i64 t515, .int .i64 t516, .string t517]] Try.func47 ?_; (with_reducible refine (impl_Single.calls kj11 a0 t513 t514 t515 t516 t517 t518 t521 t524 _ A59.out).mono ?_); rintro e w70 ⟨v519, v522, rfl, ho0, ho1, hb⟩; refine ⟨_, rfl, ?_⟩; have HO520 := zm (Kd.R_lower (Kd.R_new' (Kd.R_new' ho0 (Kd.R_lt (zr HO_495000))) (Kd.R_lt (zr HO_508000))) (below_size zB)); replace HO_495000 := zm (Kd.R_elder' (zr HO_495000) (Kd.R_base ho0) hb); replace HO_508000 := zm (Kd.R_elder' (zr HO_508000) (Kd.R_base ho0) hb); have HO523 := zm (Kd.R_lower (Kd.R_new' (Kd.R_new' ho1 (Kd.R_lt (zr HO_495001))) (Kd.R_lt (zr HO_508001))) (below_size zB)); replace HO_495001 := zm (Kd.R_elder' (zr HO_495001) (Kd.R_base ho1) hb); replace HO_508001 := zm (Kd.R_elder' (zr HO_508001) (Kd.R_base ho1) hb); replace BK480 := zm (blk_below (zb BK480) hb); replace BK494 := zm (blk_below (zb BK494) hb); replace BK507 := zm (blk_below (zb BK507) hb); replace HB := zm (below_step zB hb); clear hb ho0 ho1) | ((with_reducible refine gate_dst (N := 12) rfl ?_); refine zbox 12 #[.slice none 0 0, .slice none 0 0] 55 ?_; intro gb525 hg w71 hbox hb; replace HO_495000 := zm (Kd.R_below (zr HO_495000) hb); replace HO_495001 := zm (Kd.R_below (zr HO_495001) hb); replace HO_508000 := zm (Kd.R_below (zr HO_508000) hb); replace HO_508001 := zm (Kd.R_below (zr HO_508001) hb); replace HO520 := zm (Kd.R_below (zr HO520) hb); replace HO523 := zm (Kd.R_below (zr HO523) hb); have BK525 := zm (hbox); have GW525 := zge w hg zB; have GE525 := zge w hg zB; replace HB := zm (below_step zB hb); have NB480_525 := zlt hg (zb BK480); have NB525_480 := zgt hg (zb BK480); replace BK480 := zm (blk_below (zb BK480) hb); have NB494_525 := zlt hg (zb BK494); have NB525_494 := zgt hg (zb BK494); replace BK494 := zm (blk_below (zb BK494) hb); have NB507_525 := zlt hg (zb BK507); have NB525_507 := zgt hg (zb BK507); replace BK507 := zm (blk_below (zb BK507) hb); clear hb hbox hg; obtain ⟨Ao72, co72, eo72⟩ := Kd.R_slice HO520.out; subst eo72; have hnb73 := NB525_480.out; have hnc73 := NB480_525.out; have hnb74 := NB525_494.out; have hnc74 := NB494_525.out; have hnb75 := NB525_507.out; have hnc75 := NB507_525.out; have hcz76_0 : w71.cell? ⟨gb525, 0, none⟩ = some (.slice none 0 0) := (blk_cell BK525.out 0).trans rfl; have hcz76_1 : w71.cell? ⟨gb525, 1, none⟩ = some (.slice none 0 0) := (blk_cell BK525.out 1).trans rfl; have hfz76_0 := blk_frozen BK525.out 0; have hfz76_1 := blk_frozen BK525.out 1; obtain ⟨Ao77, co77, eo77⟩ := Kd.R_slice HO523.out; subst eo77))
       (try simp only [Act.put, List.setIfInBounds_toArray, List.set_cons_zero, List.set_cons_succ])
       go_cut [68] (fun v68 wc => ∃ (kq : Nat) (x68_59 : Bool), v68 = .bool x68_59 ∧ Aside0 (laws_FnExactSingle.j1 kq t509 x68_59 t510 t511 = some r) ∧ Aside0 (kq ≤ kj11) ∧ Aside0 (Kd.R k84 84 wc w.heap.size (fun k_ => some k_ ≠ ((.slice Ao28 t500.length co28) : Value).ownBlock ∧ some k_ ≠ ((.slice Ao72 t518.length co72) : Value).ownBlock) (.slice Ao20 t487.length co20) t487) ∧ Aside0 (Kd.R k89 89 wc w.heap.size (fun k_ => some k_ ≠ ((.slice Ao32 t503.length co32) : Value).ownBlock ∧ some k_ ≠ ((.slice Ao77 t521.length co77) : Value).ownBlock) (.slice Ao23 t490.length co23) t490) ∧ Aside0 (Kd.R k84 84 wc w.heap.size (fun k_ => some k_ ≠ ((.slice Ao20 t487.length co20) : Value).ownBlock ∧ some k_ ≠ ((.slice Ao72 t518.length co72) : Value).ownBlock) (.slice Ao28 t500.length co28) t510) ∧ Aside0 (Kd.R k89 89 wc w.heap.size (fun k_ => some k_ ≠ ((.slice Ao23 t490.length co23) : Value).ownBlock ∧ some k_ ≠ ((.slice Ao77 t521.length co77) : Value).ownBlock) (.slice Ao32 t503.length co32) t511) ∧ Aside0 (Kd.R k84 84 wc w.heap.size (fun k_ => some k_ ≠ ((.slice Ao20 t487.length co20) : Value).ownBlock ∧ some k_ ≠ ((.slice Ao28 t500.length co28) : Value).ownBlock) (.slice Ao72 t518.length co72) t518) ∧ Aside0 (Kd.R k89 89 wc w.heap.size (fun k_ => some k_ ≠ ((.slice Ao23 t490.length co23) : Value).ownBlock ∧ some k_ ≠ ((.slice Ao32 t503.length co32) : Value).ownBlock) (.slice Ao77 t521.length co77) t521) ∧ Aside0 (wc.heap[gb480]? = some (.cells #[.int .i64 a1_0, .int .i64 a1_1, .int .i64 a1_2, .int .i64 a1_3, .string a1_4] 23 (0, 0))) ∧ Aside0 (wc.heap[gb494]? = some (.cells #[(.slice Ao20 t487.length co20), (.slice Ao23 t490.length co23)] 55 (0, 0))) ∧ Aside0 (wc.heap[gb507]? = some (.cells #[(.slice Ao28 t500.length co28), (.slice Ao32 t503.length co32)] 55 (0, 0))) ∧ Aside0 (wc.heap[gb525]? = some (.cells #[(.slice Ao72 t518.length co72), (.slice Ao77 t521.length co77)] 55 (0, 0))) ∧ Aside0 (Below w.heap.size w wc))
       case first =>
        have H := HC60.out
        clear HC60
        replace H := Option.bind_eq_some_iff.mp H
        obtain ⟨t526, A780, H⟩ := H
        replace H : (if t526 = true then (laws_FnExactSingle.j1 kj11 t509 (t524 != t493) t510 t511) else (laws_FnExactSingle.j1 kj11 t509 true t510 t511)) = some r := H
        have A78 := zm A780
        clear A780
        by_cases c79 : t526 = true
        ·subst c79
         have H1 : (laws_FnExactSingle.j1 kj11 t509 (t524 != t493) t510 t511) = some r := by rw [if_pos rfl] at H; exact H
         clear H
         have H := H1
         clear H1
         have H' := zm H
         clear H
         have hnb80 := NB525_480.out
         have hnc80 := NB480_525.out
         have hnb81 := NB525_494.out
         have hnc81 := NB494_525.out
         have hnb82 := NB525_507.out
         have hnc82 := NB507_525.out
         have hcz83_0 : w71.cell? ⟨gb525, 0, none⟩ = some (.slice none 0 0) := (blk_cell BK525.out 0).trans rfl
         have hcz83_1 : w71.cell? ⟨gb525, 1, none⟩ = some (.slice none 0 0) := (blk_cell BK525.out 1).trans rfl
         have hfz83_0 := blk_frozen BK525.out 0
         have hfz83_1 := blk_frozen BK525.out 1
         have hnb84 := NB494_480.out
         have hnc84 := NB480_494.out
         have hnb85 := NB494_507.out
         have hnc85 := NB507_494.out
         have hcz86_0 : w71.cell? ⟨gb494, 0, none⟩ = some (.slice Ao20 t487.length co20) := (blk_cell BK494.out 0).trans rfl
         have hcz86_1 : w71.cell? ⟨gb494, 1, none⟩ = some (.slice Ao23 t490.length co23) := (blk_cell BK494.out 1).trans rfl
         have hfz86_0 := blk_frozen BK494.out 0
         have hfz86_1 := blk_frozen BK494.out 1
         go_wp2_with (first | ((with_reducible refine gate_callee (f := 39) rfl ?_); refine zg (some 62) #[.agg #[.slice Ao72 t518.length co72, .slice Ao77 t521.length co77], .agg #[.slice Ao20 t487.length co20, .slice Ao23 t490.length co23]] Try.func39 ?_; (with_reducible refine (laws_eqState.calls kj11 _ _ t518 _ _ t521 _ _ t487 _ _ t490 true _ ?side1 ?side2 ?side3 ?side4 ?side5 ?side6 ?side7 ?side8 A78.out).mono ?_); (case side1 => refine (Kd.R_reads' (e := 84) (base := w.heap.size) (ok := fun k_ => ((True ∧ some k_ ≠ (.slice Ao20 t487.length co20 : Value).ownBlock) ∧ some k_ ≠ (.slice Ao28 t500.length co28 : Value).ownBlock)) (n := t518.length) (c := co72) ?_).2.2; exact (zrs <| (Kd.R_mono (zfr (zfr (Kd.R_types HO520.out BK525.out (by decide)))) (fun _ h_ => h_.1)))); (case side2 => exact (Kd.R_reads' HO520.out).2.1); (case side3 => refine (Kd.R_reads' (e := 89) (base := w.heap.size) (ok := fun k_ => ((True ∧ some k_ ≠ (.slice Ao23 t490.length co23 : Value).ownBlock) ∧ some k_ ≠ (.slice Ao32 t503.length co32 : Value).ownBlock)) (n := t521.length) (c := co77) ?_).2.2; exact (zrs <| (Kd.R_mono (zfr (zfr (Kd.R_types HO523.out BK525.out (by decide)))) (fun _ h_ => h_.1)))); (case side4 => exact (Kd.R_reads' HO523.out).2.1); (case side5 => refine (Kd.R_reads' (e := 84) (base := w.heap.size) (ok := fun k_ => (some k_ ≠ (.slice Ao28 t500.length co28 : Value).ownBlock ∧ some k_ ≠ (.slice Ao72 t518.length co72 : Value).ownBlock)) (n := t487.length) (c := co20) ?_).2.2; exact (zrs <| (Kd.R_mono (zfr (zfr (Kd.R_types HO_495000.out BK525.out (by decide)))) (fun _ h_ => h_.1)))); (case side6 => exact (Kd.R_reads' HO_495000.out).2.1); (case side7 => refine (Kd.R_reads' (e := 89) (base := w.heap.size) (ok := fun k_ => (some k_ ≠ (.slice Ao32 t503.length co32 : Value).ownBlock ∧ some k_ ≠ (.slice Ao77 t521.length co77 : Value).ownBlock)) (n := t490.length) (c := co23) ?_).2.2; exact (zrs <| (Kd.R_mono (zfr (zfr (Kd.R_types HO_495001.out BK525.out (by decide)))) (fun _ h_ => h_.1)))); (case side8 => exact (Kd.R_reads' HO_495001.out).2.1); rintro e w87 ⟨rfl, hb⟩; refine ⟨_, rfl, ?_⟩; replace HO_495000 := zm (Kd.R_below (zrs <| (Kd.R_mono (zfr (zfr (Kd.R_types HO_495000.out BK525.out (by decide)))) (fun _ h_ => h_.1))) hb); replace HO_495001 := zm (Kd.R_below (zrs <| (Kd.R_mono (zfr (zfr (Kd.R_types HO_495001.out BK525.out (by decide)))) (fun _ h_ => h_.1))) hb); replace HO_508000 := zm (Kd.R_below (zrs <| (Kd.R_mono (zfr (zfr (Kd.R_types HO_508000.out BK525.out (by decide)))) (fun _ h_ => h_.1))) hb); replace HO_508001 := zm (Kd.R_below (zrs <| (Kd.R_mono (zfr (zfr (Kd.R_types HO_508001.out BK525.out (by decide)))) (fun _ h_ => h_.1))) hb); replace HO520 := zm (Kd.R_below (zrs <| (Kd.R_mono (zfr (zfr (Kd.R_types HO520.out BK525.out (by decide)))) (fun _ h_ => h_.1))) hb); replace HO523 := zm (Kd.R_below (zrs <| (Kd.R_mono (zfr (zfr (Kd.R_types HO523.out BK525.out (by decide)))) (fun _ h_ => h_.1))) hb); replace BK480 := zm (blk_below (g := gb480) (o := .cells #[.int .i64 a1_0, .int .i64 a1_1, .int .i64 a1_2, .int .i64 a1_3, .string a1_4] 23 (0, 0)) (zfar (zfar (zb BK480) NB480_525) NB480_525) hb); replace BK494 := zm (blk_below (g := gb494) (o := .cells #[.slice Ao20 t487.length co20, .slice Ao23 t490.length co23] 55 (0, 0)) (zfar (zfar (zb BK494) NB494_525) NB494_525) hb); replace BK507 := zm (blk_below (g := gb507) (o := .cells #[.slice Ao28 t500.length co28, .slice Ao32 t503.length co32] 55 (0, 0)) (zfar (zfar (zb BK507) NB507_525) NB507_525) hb); replace BK525 := zm (blk_below (g := gb525) (o := .cells #[.slice Ao72 t518.length co72, .slice Ao77 t521.length co77] 55 (0, 0)) (zput (zput (zb BK525) 0) 1) hb); replace HB := zm (below_step zB hb); clear hb))
         go_meet
         case rel => exact ⟨_, ((t524 != t493)), zF, H', ⟨by have := HJ11.out; first | omega | exact Nat.le_refl _⟩, ⟨zr HO_495000⟩, ⟨zr HO_495001⟩, ⟨zr HO_508000⟩, ⟨zr HO_508001⟩, ⟨by (with_reducible repeat (first | apply Kd.R_alloc | apply Kd.R_drewN | apply Kd.R_drew)); exact Kd.R_mono HO520.out (fun _ hk => ⟨hk.1.2, hk.2⟩)⟩, ⟨by (with_reducible repeat (first | apply Kd.R_alloc | apply Kd.R_drewN | apply Kd.R_drew)); exact Kd.R_mono HO523.out (fun _ hk => ⟨hk.1.2, hk.2⟩)⟩, ⟨zb BK480⟩, ⟨zb BK494⟩, ⟨zb BK507⟩, ⟨zb BK525⟩, ⟨zB⟩⟩
        ·replace c79 := Bool.eq_false_iff.mpr c79
         subst c79
         have H1 : (laws_FnExactSingle.j1 kj11 t509 true t510 t511) = some r := by rw [if_neg (show ¬ (false = true) by decide)] at H; exact H
         clear H
         have H := H1
         clear H1
         have H' := zm H
         clear H
         have hnb88 := NB525_480.out
         have hnc88 := NB480_525.out
         have hnb89 := NB525_494.out
         have hnc89 := NB494_525.out
         have hnb90 := NB525_507.out
         have hnc90 := NB507_525.out
         have hcz91_0 : w71.cell? ⟨gb525, 0, none⟩ = some (.slice none 0 0) := (blk_cell BK525.out 0).trans rfl
         have hcz91_1 : w71.cell? ⟨gb525, 1, none⟩ = some (.slice none 0 0) := (blk_cell BK525.out 1).trans rfl
         have hfz91_0 := blk_frozen BK525.out 0
         have hfz91_1 := blk_frozen BK525.out 1
         have hnb92 := NB494_480.out
         have hnc92 := NB480_494.out
         have hnb93 := NB494_507.out
         have hnc93 := NB507_494.out
         have hcz94_0 : w71.cell? ⟨gb494, 0, none⟩ = some (.slice Ao20 t487.length co20) := (blk_cell BK494.out 0).trans rfl
         have hcz94_1 : w71.cell? ⟨gb494, 1, none⟩ = some (.slice Ao23 t490.length co23) := (blk_cell BK494.out 1).trans rfl
         have hfz94_0 := blk_frozen BK494.out 0
         have hfz94_1 := blk_frozen BK494.out 1
         go_wp2_with (first | ((with_reducible refine gate_callee (f := 39) rfl ?_); refine zg (some 62) #[.agg #[.slice Ao72 t518.length co72, .slice Ao77 t521.length co77], .agg #[.slice Ao20 t487.length co20, .slice Ao23 t490.length co23]] Try.func39 ?_; (with_reducible refine (laws_eqState.calls kj11 _ _ t518 _ _ t521 _ _ t487 _ _ t490 false _ ?side1 ?side2 ?side3 ?side4 ?side5 ?side6 ?side7 ?side8 A78.out).mono ?_); (case side1 => refine (Kd.R_reads' (e := 84) (base := w.heap.size) (ok := fun k_ => ((True ∧ some k_ ≠ (.slice Ao20 t487.length co20 : Value).ownBlock) ∧ some k_ ≠ (.slice Ao28 t500.length co28 : Value).ownBlock)) (n := t518.length) (c := co72) ?_).2.2; exact (zrs <| (Kd.R_mono (zfr (zfr (Kd.R_types HO520.out BK525.out (by decide)))) (fun _ h_ => h_.1)))); (case side2 => exact (Kd.R_reads' HO520.out).2.1); (case side3 => refine (Kd.R_reads' (e := 89) (base := w.heap.size) (ok := fun k_ => ((True ∧ some k_ ≠ (.slice Ao23 t490.length co23 : Value).ownBlock) ∧ some k_ ≠ (.slice Ao32 t503.length co32 : Value).ownBlock)) (n := t521.length) (c := co77) ?_).2.2; exact (zrs <| (Kd.R_mono (zfr (zfr (Kd.R_types HO523.out BK525.out (by decide)))) (fun _ h_ => h_.1)))); (case side4 => exact (Kd.R_reads' HO523.out).2.1); (case side5 => refine (Kd.R_reads' (e := 84) (base := w.heap.size) (ok := fun k_ => (some k_ ≠ (.slice Ao28 t500.length co28 : Value).ownBlock ∧ some k_ ≠ (.slice Ao72 t518.length co72 : Value).ownBlock)) (n := t487.length) (c := co20) ?_).2.2; exact (zrs <| (Kd.R_mono (zfr (zfr (Kd.R_types HO_495000.out BK525.out (by decide)))) (fun _ h_ => h_.1)))); (case side6 => exact (Kd.R_reads' HO_495000.out).2.1); (case side7 => refine (Kd.R_reads' (e := 89) (base := w.heap.size) (ok := fun k_ => (some k_ ≠ (.slice Ao32 t503.length co32 : Value).ownBlock ∧ some k_ ≠ (.slice Ao77 t521.length co77 : Value).ownBlock)) (n := t490.length) (c := co23) ?_).2.2; exact (zrs <| (Kd.R_mono (zfr (zfr (Kd.R_types HO_495001.out BK525.out (by decide)))) (fun _ h_ => h_.1)))); (case side8 => exact (Kd.R_reads' HO_495001.out).2.1); rintro e w95 ⟨rfl, hb⟩; refine ⟨_, rfl, ?_⟩; replace HO_495000 := zm (Kd.R_below (zrs <| (Kd.R_mono (zfr (zfr (Kd.R_types HO_495000.out BK525.out (by decide)))) (fun _ h_ => h_.1))) hb); replace HO_495001 := zm (Kd.R_below (zrs <| (Kd.R_mono (zfr (zfr (Kd.R_types HO_495001.out BK525.out (by decide)))) (fun _ h_ => h_.1))) hb); replace HO_508000 := zm (Kd.R_below (zrs <| (Kd.R_mono (zfr (zfr (Kd.R_types HO_508000.out BK525.out (by decide)))) (fun _ h_ => h_.1))) hb); replace HO_508001 := zm (Kd.R_below (zrs <| (Kd.R_mono (zfr (zfr (Kd.R_types HO_508001.out BK525.out (by decide)))) (fun _ h_ => h_.1))) hb); replace HO520 := zm (Kd.R_below (zrs <| (Kd.R_mono (zfr (zfr (Kd.R_types HO520.out BK525.out (by decide)))) (fun _ h_ => h_.1))) hb); replace HO523 := zm (Kd.R_below (zrs <| (Kd.R_mono (zfr (zfr (Kd.R_types HO523.out BK525.out (by decide)))) (fun _ h_ => h_.1))) hb); replace BK480 := zm (blk_below (g := gb480) (o := .cells #[.int .i64 a1_0, .int .i64 a1_1, .int .i64 a1_2, .int .i64 a1_3, .string a1_4] 23 (0, 0)) (zfar (zfar (zb BK480) NB480_525) NB480_525) hb); replace BK494 := zm (blk_below (g := gb494) (o := .cells #[.slice Ao20 t487.length co20, .slice Ao23 t490.length co23] 55 (0, 0)) (zfar (zfar (zb BK494) NB494_525) NB494_525) hb); replace BK507 := zm (blk_below (g := gb507) (o := .cells #[.slice Ao28 t500.length co28, .slice Ao32 t503.length co32] 55 (0, 0)) (zfar (zfar (zb BK507) NB507_525) NB507_525) hb); replace BK525 := zm (blk_below (g := gb525) (o := .cells #[.slice Ao72 t518.length co72, .slice Ao77 t521.length co77] 55 (0, 0)) (zput (zput (zb BK525) 0) 1) hb); replace HB := zm (below_step zB hb); clear hb))
         go_meet
         case rel => exact ⟨_, (true), zF, H', ⟨by have := HJ11.out; first | omega | exact Nat.le_refl _⟩, ⟨zr HO_495000⟩, ⟨zr HO_495001⟩, ⟨zr HO_508000⟩, ⟨zr HO_508001⟩, ⟨by (with_reducible repeat (first | apply Kd.R_alloc | apply Kd.R_drewN | apply Kd.R_drew)); exact Kd.R_mono HO520.out (fun _ hk => ⟨hk.1.2, hk.2⟩)⟩, ⟨by (with_reducible repeat (first | apply Kd.R_alloc | apply Kd.R_drewN | apply Kd.R_drew)); exact Kd.R_mono HO523.out (fun _ hk => ⟨hk.1.2, hk.2⟩)⟩, ⟨zb BK480⟩, ⟨zb BK494⟩, ⟨zb BK507⟩, ⟨zb BK525⟩, ⟨zB⟩⟩
       case rest =>
        clear HC60
        try clear c1
        try clear c2
        try clear p2
        try clear c3
        try clear c4
        try clear c4b0
        try clear c5
        try clear c6
        try clear c7
        try clear c8
        try clear c9
        try clear c10
        try clear c15
        try clear c17
        try clear c21
        try clear c29
        try clear c30
        try clear c34
        try clear c35
        try clear c36
        try clear c38
        try clear c39
        try clear c41
        try clear c42
        try clear c44
        try clear c46
        try clear c47
        try clear c48
        try clear c49
        try clear c50
        try clear c50b0
        try clear c51
        try clear c52
        try clear c57
        try clear c57b0
        try clear c57b1
        try clear c61
        try clear c62
        try clear c67
        try clear c73
        try clear c74
        try clear c75
        try clear c79
        try clear c80
        try clear c81
        try clear c82
        try clear c84
        try clear c85
        try clear c88
        try clear c89
        try clear c90
        try clear c92
        try clear c93
        try clear hcz14_0
        try clear hcz14_1
        try clear hcz14_2
        try clear hcz14_3
        try clear hcz14_4
        try clear hcz16_0
        try clear hcz16_1
        try clear hcz16_2
        try clear hcz16_3
        try clear hcz16_4
        try clear hcz22_0
        try clear hcz22_1
        try clear hcz24_0
        try clear hcz24_1
        try clear hcz24_2
        try clear hcz24_3
        try clear hcz24_4
        try clear hcz31_0
        try clear hcz31_1
        try clear hcz37_0
        try clear hcz37_1
        try clear hcz39_0
        try clear hcz39_1
        try clear hcz43_0
        try clear hcz43_1
        try clear hcz45_0
        try clear hcz45_1
        try clear hcz53_0
        try clear hcz53_1
        try clear hcz55_0
        try clear hcz55_1
        try clear hcz63_0
        try clear hcz63_1
        try clear hcz65_0
        try clear hcz65_1
        try clear hcz68_0
        try clear hcz68_1
        try clear hcz68_2
        try clear hcz68_3
        try clear hcz68_4
        try clear hcz6_0
        try clear hcz6_1
        try clear hcz6_2
        try clear hcz6_3
        try clear hcz6_4
        try clear hcz76_0
        try clear hcz76_1
        try clear hcz83_0
        try clear hcz83_1
        try clear hcz86_0
        try clear hcz86_1
        try clear hcz91_0
        try clear hcz91_1
        try clear hcz94_0
        try clear hcz94_1
        try clear hfz14_0
        try clear hfz14_1
        try clear hfz14_2
        try clear hfz14_3
        try clear hfz14_4
        try clear hfz16_0
        try clear hfz16_1
        try clear hfz16_2
        try clear hfz16_3
        try clear hfz16_4
        try clear hfz22_0
        try clear hfz22_1
        try clear hfz24_0
        try clear hfz24_1
        try clear hfz24_2
        try clear hfz24_3
        try clear hfz24_4
        try clear hfz31_0
        try clear hfz31_1
        try clear hfz37_0
        try clear hfz37_1
        try clear hfz39_0
        try clear hfz39_1
        try clear hfz43_0
        try clear hfz43_1
        try clear hfz45_0
        try clear hfz45_1
        try clear hfz53_0
        try clear hfz53_1
        try clear hfz55_0
        try clear hfz55_1
        try clear hfz63_0
        try clear hfz63_1
        try clear hfz65_0
        try clear hfz65_1
        try clear hfz68_0
        try clear hfz68_1
        try clear hfz68_2
        try clear hfz68_3
        try clear hfz68_4
        try clear hfz6_0
        try clear hfz6_1
        try clear hfz6_2
        try clear hfz6_3
        try clear hfz6_4
        try clear hfz76_0
        try clear hfz76_1
        try clear hfz83_0
        try clear hfz83_1
        try clear hfz86_0
        try clear hfz86_1
        try clear hfz91_0
        try clear hfz91_1
        try clear hfz94_0
        try clear hfz94_1
        try clear p2
        obtain ⟨kq, x68_59, rfl, HA, HJ59, HO_495000, HO_495001, HO_508000, HO_508001, HO_526000, HO_526001, BK480, BK494, BK507, BK525, HB⟩ := hcut
        have hl508000_59 := (Kd.R_reads' HO_508000.out).1
        rw [hl508000_59] at HO_508000
        (try simp only [hl508000_59])
        (try simp only [hl508000_59] at BK480)
        (try simp only [hl508000_59] at BK494)
        (try simp only [hl508000_59] at BK507)
        (try simp only [hl508000_59] at BK525)
        (try simp only [hl508000_59] at HO_495000)
        (try simp only [hl508000_59] at HO_495001)
        (try simp only [hl508000_59] at HO_508001)
        (try simp only [hl508000_59] at HO_526000)
        (try simp only [hl508000_59] at HO_526001)
        have hl508001_59 := (Kd.R_reads' HO_508001.out).1
        rw [hl508001_59] at HO_508001
        (try simp only [hl508001_59])
        (try simp only [hl508001_59] at BK480)
        (try simp only [hl508001_59] at BK494)
        (try simp only [hl508001_59] at BK507)
        (try simp only [hl508001_59] at BK525)
        (try simp only [hl508001_59] at HO_495000)
        (try simp only [hl508001_59] at HO_495001)
        (try simp only [hl508001_59] at HO_508000)
        (try simp only [hl508001_59] at HO_526000)
        (try simp only [hl508001_59] at HO_526001)
        cases kq with
        | zero => exact absurd HA.out (by simp [laws_FnExactSingle.j1])
        | succ kj59 =>
         have H := HA.out
         clear HA
         simp only [laws_FnExactSingle.j1] at H
         by_cases c96 : x68_59 = true
         ·subst c96
          have H1 : (some false) = some r := by rw [if_pos rfl] at H; exact H
          clear H
          have H := H1
          clear H1
          obtain rfl := Option.some.inj H
          go_wp2
          go_ret
          exact ⟨zE, zB⟩
         ·replace c96 := Bool.eq_false_iff.mpr c96
          subst c96
          have H1 : ((laws_heldState.f kj59 t510 t511 1).bind fun t527 => (if t527 < 0 then (some false) else (if t527 = t509 then (some true) else (some false)))) = some r := by rw [if_neg (show ¬ (false = true) by decide)] at H; exact H
          clear H
          have H := H1
          clear H1
          replace H := Option.bind_eq_some_iff.mp H
          obtain ⟨t527, A970, H⟩ := H
          replace H : (if t527 < 0 then (some false) else (if t527 = t509 then (some true) else (some false))) = some r := H
          have A97 := zm A970
          clear A970
          by_cases c98 : t527 < 0
          ·rw [if_pos c98] at H
           have c98b0 : decide (t527 < 0) = true := decide_eq_true c98
           clear c98
           obtain rfl := Option.some.inj H
           have hnb99 := NB507_480.out
           have hnc99 := NB480_507.out
           have hnb100 := NB507_494.out
           have hnc100 := NB494_507.out
           have hnb101 := NB507_525.out
           have hnc101 := NB525_507.out
           have hcz102_0 : wc.cell? ⟨gb507, 0, none⟩ = some (.slice Ao28 t510.length co28) := (blk_cell BK507.out 0).trans rfl
           have hcz102_1 : wc.cell? ⟨gb507, 1, none⟩ = some (.slice Ao32 t511.length co32) := (blk_cell BK507.out 1).trans rfl
           have hfz102_0 := blk_frozen BK507.out 0
           have hfz102_1 := blk_frozen BK507.out 1
           go_wp2_with (first | ((with_reducible refine gate_callee (f := 49) rfl ?_); refine zg (some 71) #[.agg #[.slice Ao28 t510.length co28, .slice Ao32 t511.length co32], .int .i64 1] Try.func49 ?_; (with_reducible refine (laws_heldState.calls kj59 _ _ t510 _ _ t511 1 t527 _ ?side1 ?side2 ?side3 ?side4 A97.out).mono ?_); (case side1 => repeat (first | exact (Kd.R_reads' HO_508000.out).2.2 | (with_reducible refine Kd.C_alloc ?_ _) | (with_reducible refine Kd.C_drewN ?_ _) | (with_reducible refine Kd.C_drew ?_))); (case side2 => exact (Kd.R_reads' HO_508000.out).2.1); (case side3 => repeat (first | exact (Kd.R_reads' HO_508001.out).2.2 | (with_reducible refine Kd.C_alloc ?_ _) | (with_reducible refine Kd.C_drewN ?_ _) | (with_reducible refine Kd.C_drew ?_))); (case side4 => exact (Kd.R_reads' HO_508001.out).2.1); rintro e w103 ⟨rfl, hb⟩; refine ⟨_, rfl, ?_⟩; replace HO_495000 := zm (Kd.R_below (zr HO_495000) hb); replace HO_495001 := zm (Kd.R_below (zr HO_495001) hb); replace HO_508000 := zm (Kd.R_below (zr HO_508000) hb); replace HO_508001 := zm (Kd.R_below (zr HO_508001) hb); replace HO_526000 := zm (Kd.R_below (zr HO_526000) hb); replace HO_526001 := zm (Kd.R_below (zr HO_526001) hb); replace BK480 := zm (blk_below (zb BK480) hb); replace BK494 := zm (blk_below (zb BK494) hb); replace BK507 := zm (blk_below (zb BK507) hb); replace BK525 := zm (blk_below (zb BK525) hb); replace HB := zm (below_step zB hb); clear hb))
           go_ret
           exact ⟨zE, zB⟩
          ·rw [if_neg c98] at H
           have c98b0 : decide (t527 < 0) = false := decide_eq_false c98
           clear c98
           by_cases c104 : t527 = t509
           ·rw [if_pos c104] at H
            have c104b0 : (t527 == t509) = true := beq_iff_eq.mpr c104
            have c104b1 : (t527 != t509) = false := bne_eq_false_iff_eq.mpr c104
            clear c104
            obtain rfl := Option.some.inj H
            have hnb105 := NB507_480.out
            have hnc105 := NB480_507.out
            have hnb106 := NB507_494.out
            have hnc106 := NB494_507.out
            have hnb107 := NB507_525.out
            have hnc107 := NB525_507.out
            have hcz108_0 : wc.cell? ⟨gb507, 0, none⟩ = some (.slice Ao28 t510.length co28) := (blk_cell BK507.out 0).trans rfl
            have hcz108_1 : wc.cell? ⟨gb507, 1, none⟩ = some (.slice Ao32 t511.length co32) := (blk_cell BK507.out 1).trans rfl
            have hfz108_0 := blk_frozen BK507.out 0
            have hfz108_1 := blk_frozen BK507.out 1
            go_wp2_with (first | ((with_reducible refine gate_callee (f := 49) rfl ?_); refine zg (some 71) #[.agg #[.slice Ao28 t510.length co28, .slice Ao32 t511.length co32], .int .i64 1] Try.func49 ?_; (with_reducible refine (laws_heldState.calls kj59 _ _ t510 _ _ t511 1 t527 _ ?side1 ?side2 ?side3 ?side4 A97.out).mono ?_); (case side1 => repeat (first | exact (Kd.R_reads' HO_508000.out).2.2 | (with_reducible refine Kd.C_alloc ?_ _) | (with_reducible refine Kd.C_drewN ?_ _) | (with_reducible refine Kd.C_drew ?_))); (case side2 => exact (Kd.R_reads' HO_508000.out).2.1); (case side3 => repeat (first | exact (Kd.R_reads' HO_508001.out).2.2 | (with_reducible refine Kd.C_alloc ?_ _) | (with_reducible refine Kd.C_drewN ?_ _) | (with_reducible refine Kd.C_drew ?_))); (case side4 => exact (Kd.R_reads' HO_508001.out).2.1); rintro e w109 ⟨rfl, hb⟩; refine ⟨_, rfl, ?_⟩; replace HO_495000 := zm (Kd.R_below (zr HO_495000) hb); replace HO_495001 := zm (Kd.R_below (zr HO_495001) hb); replace HO_508000 := zm (Kd.R_below (zr HO_508000) hb); replace HO_508001 := zm (Kd.R_below (zr HO_508001) hb); replace HO_526000 := zm (Kd.R_below (zr HO_526000) hb); replace HO_526001 := zm (Kd.R_below (zr HO_526001) hb); replace BK480 := zm (blk_below (zb BK480) hb); replace BK494 := zm (blk_below (zb BK494) hb); replace BK507 := zm (blk_below (zb BK507) hb); replace BK525 := zm (blk_below (zb BK525) hb); replace HB := zm (below_step zB hb); clear hb))
            go_ret
            exact ⟨zE, zB⟩
           ·rw [if_neg c104] at H
            have c104b0 : (t527 == t509) = false := beq_eq_false_iff_ne.mpr c104
            have c104b1 : (t527 != t509) = true := bne_iff_ne.mpr c104
            obtain rfl := Option.some.inj H
            have hnb110 := NB507_480.out
            have hnc110 := NB480_507.out
            have hnb111 := NB507_494.out
            have hnc111 := NB494_507.out
            have hnb112 := NB507_525.out
            have hnc112 := NB525_507.out
            have hcz113_0 : wc.cell? ⟨gb507, 0, none⟩ = some (.slice Ao28 t510.length co28) := (blk_cell BK507.out 0).trans rfl
            have hcz113_1 : wc.cell? ⟨gb507, 1, none⟩ = some (.slice Ao32 t511.length co32) := (blk_cell BK507.out 1).trans rfl
            have hfz113_0 := blk_frozen BK507.out 0
            have hfz113_1 := blk_frozen BK507.out 1
            go_wp2_with (first | ((with_reducible refine gate_callee (f := 49) rfl ?_); refine zg (some 71) #[.agg #[.slice Ao28 t510.length co28, .slice Ao32 t511.length co32], .int .i64 1] Try.func49 ?_; (with_reducible refine (laws_heldState.calls kj59 _ _ t510 _ _ t511 1 t527 _ ?side1 ?side2 ?side3 ?side4 A97.out).mono ?_); (case side1 => repeat (first | exact (Kd.R_reads' HO_508000.out).2.2 | (with_reducible refine Kd.C_alloc ?_ _) | (with_reducible refine Kd.C_drewN ?_ _) | (with_reducible refine Kd.C_drew ?_))); (case side2 => exact (Kd.R_reads' HO_508000.out).2.1); (case side3 => repeat (first | exact (Kd.R_reads' HO_508001.out).2.2 | (with_reducible refine Kd.C_alloc ?_ _) | (with_reducible refine Kd.C_drewN ?_ _) | (with_reducible refine Kd.C_drew ?_))); (case side4 => exact (Kd.R_reads' HO_508001.out).2.1); rintro e w114 ⟨rfl, hb⟩; refine ⟨_, rfl, ?_⟩; replace HO_495000 := zm (Kd.R_below (zr HO_495000) hb); replace HO_495001 := zm (Kd.R_below (zr HO_495001) hb); replace HO_508000 := zm (Kd.R_below (zr HO_508000) hb); replace HO_508001 := zm (Kd.R_below (zr HO_508001) hb); replace HO_526000 := zm (Kd.R_below (zr HO_526000) hb); replace HO_526001 := zm (Kd.R_below (zr HO_526001) hb); replace BK480 := zm (blk_below (zb BK480) hb); replace BK494 := zm (blk_below (zb BK494) hb); replace BK507 := zm (blk_below (zb BK507) hb); replace BK525 := zm (blk_below (zb BK525) hb); replace HB := zm (below_step zB hb); clear hb))
            go_ret
            exact ⟨zE, zB⟩
      ·rw [if_neg c57] at H
       have c57b0 : (t512 == t509) = false := beq_eq_false_iff_ne.mpr c57
       have c57b1 : (t512 != t509) = true := bne_iff_ne.mpr c57
       obtain rfl := Option.some.inj H
       have hnb115 := NB507_480.out
       have hnc115 := NB480_507.out
       have hnb116 := NB507_494.out
       have hnc116 := NB494_507.out
       have hcz117_0 : wc.cell? ⟨gb507, 0, none⟩ = some (.slice Ao28 t500.length co28) := (blk_cell BK507.out 0).trans rfl
       have hcz117_1 : wc.cell? ⟨gb507, 1, none⟩ = some (.slice Ao32 t503.length co32) := (blk_cell BK507.out 1).trans rfl
       have hfz117_0 := blk_frozen BK507.out 0
       have hfz117_1 := blk_frozen BK507.out 1
       go_wp2_with (first | ((with_reducible refine gate_callee (f := 48) rfl ?_); refine zg (some 44) #[.agg #[.slice Ao28 t500.length co28, .slice Ao32 t503.length co32], .int .i64 1] Try.func48 ?_; (with_reducible refine (laws_markState.calls kj11 (fun k_ => some k_ = (.slice Ao28 t500.length co28 : Value).ownBlock) (.slice Ao28 t500.length co28) t500 (fun k_ => some k_ = (.slice Ao32 t503.length co32 : Value).ownBlock) (.slice Ao32 t503.length co32) t503 1 t509 t510 t511 w _ zB ?side2 ?side3 A48.out).mono ?_); (case side2 => exact Kd.R_tight rfl HO_508000.out); (case side3 => exact Kd.R_tight rfl HO_508001.out); rintro e w118 ⟨rfl, hy0, hy1, hb, hkp⟩; refine ⟨_, rfl, ?_⟩; replace HO_495000 := zm (Kd.R_mono (ok' := fun k_ => some k_ ≠ (.slice Ao28 t500.length co28 : Value).ownBlock) (Kd.R_keptB ((Kd.R_apart' HO_495000.out (Kd.R_typed HO_508001.out) (by decide))) hkp (fun k_ hk_ hs_ => Or.elim hs_ (fun e_ => (hk_.1) e_) (fun e_ => (hk_.2) e_))) (fun k_ hk_ => hk_.1.1)); replace HO_495001 := zm (Kd.R_mono (ok' := fun k_ => some k_ ≠ (.slice Ao32 t503.length co32 : Value).ownBlock) (Kd.R_keptB ((Kd.R_apart' HO_495001.out (Kd.R_typed HO_508000.out) (by decide))) hkp (fun k_ hk_ hs_ => Or.elim hs_ (fun e_ => (hk_.2) e_) (fun e_ => (hk_.1) e_))) (fun k_ hk_ => hk_.1.1)); replace BK480 := zm (blk_kept (zb BK480) hkp (fun hs_ => Or.elim hs_ (fun e_ => (fun e_ => (Kd.R_ne HO_508000.out BK480.out (by decide)) e_) e_) (fun e_ => (fun e_ => (Kd.R_ne HO_508001.out BK480.out (by decide)) e_) e_))); replace BK494 := zm (blk_kept (zb BK494) hkp (fun hs_ => Or.elim hs_ (fun e_ => (fun e_ => (Kd.R_ne HO_508000.out BK494.out (by decide)) e_) e_) (fun e_ => (fun e_ => (Kd.R_ne HO_508001.out BK494.out (by decide)) e_) e_))); replace BK507 := zm (blk_kept (zb BK507) hkp (fun hs_ => Or.elim hs_ (fun e_ => (fun e_ => (Kd.R_ne HO_508000.out BK507.out (by decide)) e_) e_) (fun e_ => (fun e_ => (Kd.R_ne HO_508001.out BK507.out (by decide)) e_) e_))); replace HO_508000 := zm (Kd.R_reok rfl hy0 (fun k_ e_ => HO_508000.out.1 k_ e_)); replace HO_508001 := zm (Kd.R_reok rfl hy1 (fun k_ e_ => HO_508001.out.1 k_ e_)); replace HB := zm (hb); clear hb hkp hy0; (try clear hy1); have hcz119_0 : w118.cell? ⟨gb507, 0, none⟩ = some (.slice Ao28 t500.length co28) := (blk_cell BK507.out 0).trans rfl; have hcz119_1 : w118.cell? ⟨gb507, 1, none⟩ = some (.slice Ao32 t503.length co32) := (blk_cell BK507.out 1).trans rfl; have hfz119_0 := blk_frozen BK507.out 0; have hfz119_1 := blk_frozen BK507.out 1) | ((with_reducible refine gate_callee (f := 49) rfl ?_); refine goesL_ (some 47) rfl rfl Try.func49 (by kernel_rfl) rfl #[.agg #[.slice Ao28 t510.length co28, .slice Ao32 t511.length co32], .int .i64 1] rfl (by (try simp only [List.map_toArray, List.map_cons, List.map_nil]); first | done | (rw [show t510.length = t500.length from (Kd.R_reads' HO_508000.out).1.symm, show t511.length = t503.length from (Kd.R_reads' HO_508001.out).1.symm] <;> rfl) | rfl | (simp only [List.length_drop, List.length_take]; rfl)) ?_; (with_reducible refine (laws_heldState.calls kj11 _ _ t510 _ _ t511 1 t512 _ ?side1 ?side2 ?side3 ?side4 A49.out).mono ?_); (case side1 => repeat (first | exact (Kd.R_reads' HO_508000.out).2.2 | (with_reducible refine Kd.C_alloc ?_ _) | (with_reducible refine Kd.C_drewN ?_ _) | (with_reducible refine Kd.C_drew ?_))); (case side2 => rw [show t510.length = t500.length from (Kd.R_reads' HO_508000.out).1.symm]; exact (Kd.R_reads' HO_508000.out).2.1); (case side3 => repeat (first | exact (Kd.R_reads' HO_508001.out).2.2 | (with_reducible refine Kd.C_alloc ?_ _) | (with_reducible refine Kd.C_drewN ?_ _) | (with_reducible refine Kd.C_drew ?_))); (case side4 => rw [show t511.length = t503.length from (Kd.R_reads' HO_508001.out).1.symm]; exact (Kd.R_reads' HO_508001.out).2.1); rintro e w120 ⟨rfl, hb⟩; refine ⟨_, rfl, ?_⟩; replace HO_495000 := zm (Kd.R_below (zr HO_495000) hb); replace HO_495001 := zm (Kd.R_below (zr HO_495001) hb); replace HO_508000 := zm (Kd.R_below (zr HO_508000) hb); replace HO_508001 := zm (Kd.R_below (zr HO_508001) hb); replace BK480 := zm (blk_below (zb BK480) hb); replace BK494 := zm (blk_below (zb BK494) hb); replace BK507 := zm (blk_below (zb BK507) hb); replace HB := zm (below_step zB hb); clear hb))
       go_ret
       exact ⟨zE, zB⟩

def laws_FnExactSingle.Pure : Prop := ∀ (a0 : Int) (a1_0 : Int) (a1_1 : Int) (a1_2 : Int) (a1_3 : Int) (a1_4 : ByteArray), (Lit.int .i64 a0).wf = true → (Lit.int .i64 a1_0).wf = true → (Lit.int .i64 a1_1).wf = true → (Lit.int .i64 a1_2).wf = true → (Lit.int .i64 a1_3).wf = true → a1_4.size ≤ 140737488351232 → ∃ k, laws_FnExactSingle.f k a0 a1_0 a1_1 a1_2 a1_3 a1_4 = some true

end Go.Proofs.Ythljdiniccpobaa.P
