-- by a program of this session, for this seat
import Derived.Test.YtgapdegniepjiaaZ
import Derived.Test.YtgapdegniepjiaaP0
import Derived.Test.YtgapdegniepjiaaPaa
import Derived.Test.YtgapdegniepjiaaPac
import Derived.Test.YtgapdegniepjiaaPag
import Derived.Test.YtgapdegniepjiaaPah
import Derived.Test.YtgapdegniepjiaaPal
import Derived.Test.YtgapdegniepjiaaPam
namespace Go.Proofs.Ytgapdegniepjiaa.P
open Go.RowKit Go.Proofs.YtgapdegniepjiaaW.PrintWords Go.Proofs.YtgapdegniepjiaaW.PrintLast Go.Proofs.YtgapdegniepjiaaW.PrintMore Go.Proofs.Ytgapdegniepjiaa.Z
attribute [local go_sem] max2_int min2_int max_two min_two max_three min_three max_four min_four   -- for this text's walks alone
set_option linter.unusedVariables false
set_option linter.unusedSimpArgs false

/-! ### laws_FnExactSayGone: function 5 -/
mutual
def laws_FnExactSayGone.j0 : Nat → Int → Int → Int → Bool → List (S94) → List (S98) → List (S68) → List (S72) → List (S68) → List (S72) → List (S68) → List (S72) → Option (Bool)
 | 0, _, _, _, _, _, _, _, _, _, _, _, _ => none
 | k + 1, x1, x7, x10, x44, x537000, x537001, x552000, x552001, x559000, x559001, x567000, x567001 => if x44 = true then (some false) else ((laws_toState.f k x537000 x537001).bind fun bt568 => ((laws_eqState.f k x559000 x559001 bt568.1 bt568.2).bind fun t574 => (if t574 = true then ((laws_markState.f k x559000 x559001 1).bind fun bt575 => (if bt575.1 < 0 then (laws_FnExactSayGone.j1 k x1 x7 true x537000 x537001 x552000 x552001 x567000 x567001) else ((laws_eqState.f k x567000 x567001 x552000 x552001).bind fun t578 => (if t578 = true then (laws_FnExactSayGone.j1 k x1 x7 (x10 != x7) x537000 x537001 x552000 x552001 x567000 x567001) else (laws_FnExactSayGone.j1 k x1 x7 true x537000 x537001 x552000 x552001 x567000 x567001))))) else (some false))))
def laws_FnExactSayGone.j1 : Nat → Int → Int → Bool → List (S94) → List (S98) → List (S68) → List (S72) → List (S68) → List (S72) → Option (Bool)
 | 0, _, _, _, _, _, _, _, _, _ => none
 | k + 1, x1, x7, x65, x537000, x537001, x552000, x552001, x567000, x567001 => if x65 = true then (some false) else ((laws_markState.f k x567000 x567001 1).bind fun bt579 => ((laws_heldState.f k bt579.2.1 bt579.2.2 1).bind fun t582 => (if t582 < 0 then (some false) else (if t582 = bt579.1 then ((laws_toState.f k x537000 x537001).bind fun bt583 => ((impl_SayGone.f k bt583.1 bt583.2 x1).bind fun bt589 => ((laws_eqState.f k bt589.1 bt589.2.1 x552000 x552001).bind fun t597 => (if t597 = true then (laws_FnExactSayGone.j2 k bt579.1 (bt589.2.2 != x7) bt579.2.1 bt579.2.2) else (laws_FnExactSayGone.j2 k bt579.1 true bt579.2.1 bt579.2.2))))) else (some false)))))
def laws_FnExactSayGone.j2 : Nat → Int → Bool → List (S68) → List (S72) → Option (Bool)
 | 0, _, _, _, _ => none
 | k + 1, x12, x92, x567000, x567001 => if x92 = true then (some false) else ((laws_heldState.f k x567000 x567001 1).bind fun t598 => (if t598 < 0 then (some false) else (if t598 = x12 then (some true) else (some false))))
end
def laws_FnExactSayGone.f (k : Nat) (l0_0 : List (S94)) (l0_1 : List (S98)) (a1 : Int) : Option (Bool) := (laws_szState.f k l0_0 l0_1 1048576).bind fun t537 => (if t537 < 0 then (some true) else ((laws_toState.f k l0_0 l0_1).bind fun bt538 => ((spec_SayGone.f k bt538.1 bt538.2 a1).bind fun bt544 => ((laws_toState.f k l0_0 l0_1).bind fun bt552 => ((impl_SayGone.f k bt552.1 bt552.2 a1).bind fun bt559 => ((laws_eqState.f k bt559.1 bt559.2.1 bt544.1 bt544.2.1).bind fun t567 => (if t567 = true then (laws_FnExactSayGone.j0 k a1 bt544.2.2 bt559.2.2 (bt559.2.2 != bt544.2.2) l0_0 l0_1 bt544.1 bt544.2.1 bt552.1 bt552.2 bt559.1 bt559.2.1) else (laws_FnExactSayGone.j0 k a1 bt544.2.2 bt559.2.2 true l0_0 l0_1 bt544.1 bt544.2.1 bt552.1 bt552.2 bt559.1 bt559.2.1))))))))
theorem laws_FnExactSayGone.mono_l : ∀ k, (∀ y0 y1 y2 y3 y4 y5 y6 y7 y8 y9 y10 y11, LeO (laws_FnExactSayGone.j0 k y0 y1 y2 y3 y4 y5 y6 y7 y8 y9 y10 y11) (laws_FnExactSayGone.j0 (k + 1) y0 y1 y2 y3 y4 y5 y6 y7 y8 y9 y10 y11)) ∧ (∀ y0 y1 y2 y3 y4 y5 y6 y7 y8, LeO (laws_FnExactSayGone.j1 k y0 y1 y2 y3 y4 y5 y6 y7 y8) (laws_FnExactSayGone.j1 (k + 1) y0 y1 y2 y3 y4 y5 y6 y7 y8)) ∧ (∀ y0 y1 y2 y3, LeO (laws_FnExactSayGone.j2 k y0 y1 y2 y3) (laws_FnExactSayGone.j2 (k + 1) y0 y1 y2 y3))
 | 0 => ⟨fun _ _ _ _ _ _ _ _ _ _ _ _ r h => by simp [laws_FnExactSayGone.j0] at h, fun _ _ _ _ _ _ _ _ _ r h => by simp [laws_FnExactSayGone.j1] at h, fun _ _ _ _ r h => by simp [laws_FnExactSayGone.j2] at h⟩
 | k + 1 => by
  obtain ⟨ih0, ih1, ih2⟩ := laws_FnExactSayGone.mono_l k
  refine ⟨?_, ?_, ?_⟩
  ·intro y0 y1 y2 y3 y4 y5 y6 y7 y8 y9 y10 y11
   unfold laws_FnExactSayGone.j0
   repeat' first
   | (with_reducible exact ih0 _ _ _ _ _ _ _ _ _ _ _ _)
   | (with_reducible exact ih1 _ _ _ _ _ _ _ _ _)
   | (with_reducible exact ih2 _ _ _ _)
   | (with_reducible exact impl_SayGone.mono _ _ _ _)
   | (with_reducible exact laws_eqState.mono _ _ _ _ _)
   | (with_reducible exact laws_heldState.mono _ _ _ _)
   | (with_reducible exact laws_markState.mono _ _ _ _)
   | (with_reducible exact laws_szState.mono _ _ _ _)
   | (with_reducible exact laws_toState.mono _ _ _)
   | (with_reducible exact spec_SayGone.mono _ _ _ _)
   | (with_reducible exact LeO.refl _)
   | (with_reducible exact LeO.none _)
   | (with_reducible refine LeO.ite ?_ ?_)
   | (with_reducible refine LeO.bind ?_ (fun _ => ?_))
   | exact ih0 _ _ _ _ _ _ _ _ _ _ _ _
   | exact ih1 _ _ _ _ _ _ _ _ _
   | exact ih2 _ _ _ _
   | exact impl_SayGone.mono _ _ _ _
   | exact laws_eqState.mono _ _ _ _ _
   | exact laws_heldState.mono _ _ _ _
   | exact laws_markState.mono _ _ _ _
   | exact laws_szState.mono _ _ _ _
   | exact laws_toState.mono _ _ _
   | exact spec_SayGone.mono _ _ _ _
   | exact LeO.none _
   | refine LeO.ite ?_ ?_
   | refine LeO.bind ?_ (fun _ => ?_)
  ·intro y0 y1 y2 y3 y4 y5 y6 y7 y8
   unfold laws_FnExactSayGone.j1
   repeat' first
   | (with_reducible exact ih0 _ _ _ _ _ _ _ _ _ _ _ _)
   | (with_reducible exact ih1 _ _ _ _ _ _ _ _ _)
   | (with_reducible exact ih2 _ _ _ _)
   | (with_reducible exact impl_SayGone.mono _ _ _ _)
   | (with_reducible exact laws_eqState.mono _ _ _ _ _)
   | (with_reducible exact laws_heldState.mono _ _ _ _)
   | (with_reducible exact laws_markState.mono _ _ _ _)
   | (with_reducible exact laws_szState.mono _ _ _ _)
   | (with_reducible exact laws_toState.mono _ _ _)
   | (with_reducible exact spec_SayGone.mono _ _ _ _)
   | (with_reducible exact LeO.refl _)
   | (with_reducible exact LeO.none _)
   | (with_reducible refine LeO.ite ?_ ?_)
   | (with_reducible refine LeO.bind ?_ (fun _ => ?_))
   | exact ih0 _ _ _ _ _ _ _ _ _ _ _ _
   | exact ih1 _ _ _ _ _ _ _ _ _
   | exact ih2 _ _ _ _
   | exact impl_SayGone.mono _ _ _ _
   | exact laws_eqState.mono _ _ _ _ _
   | exact laws_heldState.mono _ _ _ _
   | exact laws_markState.mono _ _ _ _
   | exact laws_szState.mono _ _ _ _
   | exact laws_toState.mono _ _ _
   | exact spec_SayGone.mono _ _ _ _
   | exact LeO.none _
   | refine LeO.ite ?_ ?_
   | refine LeO.bind ?_ (fun _ => ?_)
  ·intro y0 y1 y2 y3
   unfold laws_FnExactSayGone.j2
   repeat' first
   | (with_reducible exact ih0 _ _ _ _ _ _ _ _ _ _ _ _)
   | (with_reducible exact ih1 _ _ _ _ _ _ _ _ _)
   | (with_reducible exact ih2 _ _ _ _)
   | (with_reducible exact impl_SayGone.mono _ _ _ _)
   | (with_reducible exact laws_eqState.mono _ _ _ _ _)
   | (with_reducible exact laws_heldState.mono _ _ _ _)
   | (with_reducible exact laws_markState.mono _ _ _ _)
   | (with_reducible exact laws_szState.mono _ _ _ _)
   | (with_reducible exact laws_toState.mono _ _ _)
   | (with_reducible exact spec_SayGone.mono _ _ _ _)
   | (with_reducible exact LeO.refl _)
   | (with_reducible exact LeO.none _)
   | (with_reducible refine LeO.ite ?_ ?_)
   | (with_reducible refine LeO.bind ?_ (fun _ => ?_))
   | exact ih0 _ _ _ _ _ _ _ _ _ _ _ _
   | exact ih1 _ _ _ _ _ _ _ _ _
   | exact ih2 _ _ _ _
   | exact impl_SayGone.mono _ _ _ _
   | exact laws_eqState.mono _ _ _ _ _
   | exact laws_heldState.mono _ _ _ _
   | exact laws_markState.mono _ _ _ _
   | exact laws_szState.mono _ _ _ _
   | exact laws_toState.mono _ _ _
   | exact spec_SayGone.mono _ _ _ _
   | exact LeO.none _
   | refine LeO.ite ?_ ?_
   | refine LeO.bind ?_ (fun _ => ?_)
theorem laws_FnExactSayGone.mono : ∀ a0 a1 a2 k, LeO (laws_FnExactSayGone.f k a0 a1 a2) (laws_FnExactSayGone.f (k + 1) a0 a1 a2) := by
 intro a0 a1 a2 k
 obtain ⟨ih0, ih1, ih2⟩ := laws_FnExactSayGone.mono_l k
 unfold laws_FnExactSayGone.f
 repeat' first
   | (with_reducible exact ih0 _ _ _ _ _ _ _ _ _ _ _ _)
   | (with_reducible exact ih1 _ _ _ _ _ _ _ _ _)
   | (with_reducible exact ih2 _ _ _ _)
   | (with_reducible exact impl_SayGone.mono _ _ _ _)
   | (with_reducible exact laws_eqState.mono _ _ _ _ _)
   | (with_reducible exact laws_heldState.mono _ _ _ _)
   | (with_reducible exact laws_markState.mono _ _ _ _)
   | (with_reducible exact laws_szState.mono _ _ _ _)
   | (with_reducible exact laws_toState.mono _ _ _)
   | (with_reducible exact spec_SayGone.mono _ _ _ _)
   | (with_reducible exact LeO.refl _)
   | (with_reducible exact LeO.none _)
   | (with_reducible refine LeO.ite ?_ ?_)
   | (with_reducible refine LeO.bind ?_ (fun _ => ?_))
   | exact ih0 _ _ _ _ _ _ _ _ _ _ _ _
   | exact ih1 _ _ _ _ _ _ _ _ _
   | exact ih2 _ _ _ _
   | exact impl_SayGone.mono _ _ _ _
   | exact laws_eqState.mono _ _ _ _ _
   | exact laws_heldState.mono _ _ _ _
   | exact laws_markState.mono _ _ _ _
   | exact laws_szState.mono _ _ _ _
   | exact laws_toState.mono _ _ _
   | exact spec_SayGone.mono _ _ _ _
   | exact LeO.none _
   | refine LeO.ite ?_ ?_
   | refine LeO.bind ?_ (fun _ => ?_)
set_option maxHeartbeats 8000000 in
set_option maxRecDepth 100000 in
theorem laws_FnExactSayGone.calls (k : Nat) (A0_0 : Option Addr) (c0_0 : Nat) (l0_0 : List (S94)) (A0_1 : Option Addr) (c0_1 : Nat) (l0_1 : List (S98)) (a1 : Int) (r : Bool) (w : World) (hr0_0 : Kd.C k94 w A0_0 l0_0.length l0_0) (hc0_0 : l0_0.length ≤ c0_0) (hr0_1 : Kd.C k98 w A0_1 l0_1.length l0_1) (hc0_1 : l0_1.length ≤ c0_1) (h : laws_FnExactSayGone.f k l0_0 l0_1 a1 = some r) :
  Calls Try.prog 5 #[.agg #[.slice A0_0 l0_0.length c0_0, .slice A0_1 l0_1.length c0_1], .int .i64 a1] w fun e w' => e = .returned (.bool r) ∧ Below w.heap.size w w' := by
 have hu25 := Try.underlying25
 have hu32 := Try.underlying32
 have HR0_0 := zm hr0_0
 have HC0_0 := zm hc0_0
 clear hr0_0 hc0_0
 have HR0_1 := zm hr0_1
 have HC0_1 := zm hc0_1
 clear hr0_1 hc0_1
 have HB := zm (Below.refl w.heap.size w)
 have H : ((laws_szState.f k l0_0 l0_1 1048576).bind fun t537 => (if t537 < 0 then (some true) else ((laws_toState.f k l0_0 l0_1).bind fun bt538 => ((spec_SayGone.f k bt538.1 bt538.2 a1).bind fun bt544 => ((laws_toState.f k l0_0 l0_1).bind fun bt552 => ((impl_SayGone.f k bt552.1 bt552.2 a1).bind fun bt559 => ((laws_eqState.f k bt559.1 bt559.2.1 bt544.1 bt544.2.1).bind fun t567 => (if t567 = true then (laws_FnExactSayGone.j0 k a1 bt544.2.2 bt559.2.2 (bt559.2.2 != bt544.2.2) l0_0 l0_1 bt544.1 bt544.2.1 bt552.1 bt552.2 bt559.1 bt559.2.1) else (laws_FnExactSayGone.j0 k a1 bt544.2.2 bt559.2.2 true l0_0 l0_1 bt544.1 bt544.2.1 bt552.1 bt552.2 bt559.1 bt559.2.1))))))))) = some r := h
 clear h
 replace H := Option.bind_eq_some_iff.mp H
 obtain ⟨t537, A30, H⟩ := H
 replace H : (if t537 < 0 then (some true) else ((laws_toState.f k l0_0 l0_1).bind fun bt538 => ((spec_SayGone.f k bt538.1 bt538.2 a1).bind fun bt544 => ((laws_toState.f k l0_0 l0_1).bind fun bt552 => ((impl_SayGone.f k bt552.1 bt552.2 a1).bind fun bt559 => ((laws_eqState.f k bt559.1 bt559.2.1 bt544.1 bt544.2.1).bind fun t567 => (if t567 = true then (laws_FnExactSayGone.j0 k a1 bt544.2.2 bt559.2.2 (bt559.2.2 != bt544.2.2) l0_0 l0_1 bt544.1 bt544.2.1 bt552.1 bt552.2 bt559.1 bt559.2.1) else (laws_FnExactSayGone.j0 k a1 bt544.2.2 bt559.2.2 true l0_0 l0_1 bt544.1 bt544.2.1 bt552.1 bt552.2 bt559.1 bt559.2.1)))))))) = some r := H
 have A3 := zm A30
 clear A30
 by_cases c4 : t537 < 0
 ·rw [if_pos c4] at H
  have c4b0 : decide (t537 < 0) = true := decide_eq_true c4
  clear c4
  obtain rfl := Option.some.inj H
  go_enter Try.func5, Try.ntmps5
  go_wp2_with (first | ((with_reducible refine gate_dst (N := 2) rfl ?_); refine zbox 2 #[.slice A0_0 l0_0.length c0_0, .slice A0_1 l0_1.length c0_1] 25 ?_; intro gb536 hg w5 hbox hb; have BK536 := zm (hbox); have GW536 := zge w hg zB; have GE536 := zge w hg zB; replace HB := zm (below_step zB hb); clear hb hbox hg; have hcz6_0 : w5.cell? ⟨gb536, 0, none⟩ = some (.slice A0_0 l0_0.length c0_0) := (blk_cell BK536.out 0).trans rfl; have hcz6_1 : w5.cell? ⟨gb536, 1, none⟩ = some (.slice A0_1 l0_1.length c0_1) := (blk_cell BK536.out 1).trans rfl; have hfz6_0 := blk_frozen BK536.out 0; have hfz6_1 := blk_frozen BK536.out 1) | ((with_reducible refine gate_callee (f := 13) rfl ?_); refine zg (some 18) #[.agg #[.slice A0_0 l0_0.length c0_0, .slice A0_1 l0_1.length c0_1], .int .i64 1048576] Try.func13 ?_; (with_reducible refine (laws_szState.calls k _ _ l0_0 _ _ l0_1 1048576 t537 _ (zk (Kd.C_below HR0_0.out HB.out)) HC0_0.out (zk (Kd.C_below HR0_1.out HB.out)) HC0_1.out A3.out).mono ?_); rintro e w7 ⟨rfl, hb⟩; refine ⟨_, rfl, ?_⟩; replace BK536 := zm (blk_below (zb BK536) hb); replace HB := zm (below_step zB hb); clear hb))
  go_ret
  exact ⟨zE, zB⟩
 ·rw [if_neg c4] at H
  have c4b0 : decide (t537 < 0) = false := decide_eq_false c4
  clear c4
  replace H := Option.bind_eq_some_iff.mp H
  obtain ⟨⟨t538, t541⟩, A80, H⟩ := H
  replace H : ((spec_SayGone.f k t538 t541 a1).bind fun bt544 => ((laws_toState.f k l0_0 l0_1).bind fun bt552 => ((impl_SayGone.f k bt552.1 bt552.2 a1).bind fun bt559 => ((laws_eqState.f k bt559.1 bt559.2.1 bt544.1 bt544.2.1).bind fun t567 => (if t567 = true then (laws_FnExactSayGone.j0 k a1 bt544.2.2 bt559.2.2 (bt559.2.2 != bt544.2.2) l0_0 l0_1 bt544.1 bt544.2.1 bt552.1 bt552.2 bt559.1 bt559.2.1) else (laws_FnExactSayGone.j0 k a1 bt544.2.2 bt559.2.2 true l0_0 l0_1 bt544.1 bt544.2.1 bt552.1 bt552.2 bt559.1 bt559.2.1)))))) = some r := H
  have A8 := zm A80
  clear A80
  replace H := Option.bind_eq_some_iff.mp H
  obtain ⟨⟨t544, t547, t550⟩, A90, H⟩ := H
  replace H : ((laws_toState.f k l0_0 l0_1).bind fun bt552 => ((impl_SayGone.f k bt552.1 bt552.2 a1).bind fun bt559 => ((laws_eqState.f k bt559.1 bt559.2.1 t544 t547).bind fun t567 => (if t567 = true then (laws_FnExactSayGone.j0 k a1 t550 bt559.2.2 (bt559.2.2 != t550) l0_0 l0_1 t544 t547 bt552.1 bt552.2 bt559.1 bt559.2.1) else (laws_FnExactSayGone.j0 k a1 t550 bt559.2.2 true l0_0 l0_1 t544 t547 bt552.1 bt552.2 bt559.1 bt559.2.1))))) = some r := H
  have A9 := zm A90
  clear A90
  replace H := Option.bind_eq_some_iff.mp H
  obtain ⟨⟨t552, t555⟩, A100, H⟩ := H
  replace H : ((impl_SayGone.f k t552 t555 a1).bind fun bt559 => ((laws_eqState.f k bt559.1 bt559.2.1 t544 t547).bind fun t567 => (if t567 = true then (laws_FnExactSayGone.j0 k a1 t550 bt559.2.2 (bt559.2.2 != t550) l0_0 l0_1 t544 t547 t552 t555 bt559.1 bt559.2.1) else (laws_FnExactSayGone.j0 k a1 t550 bt559.2.2 true l0_0 l0_1 t544 t547 t552 t555 bt559.1 bt559.2.1)))) = some r := H
  have A10 := zm A100
  clear A100
  replace H := Option.bind_eq_some_iff.mp H
  obtain ⟨⟨t559, t562, t565⟩, A110, H⟩ := H
  replace H : ((laws_eqState.f k t559 t562 t544 t547).bind fun t567 => (if t567 = true then (laws_FnExactSayGone.j0 k a1 t550 t565 (t565 != t550) l0_0 l0_1 t544 t547 t552 t555 t559 t562) else (laws_FnExactSayGone.j0 k a1 t550 t565 true l0_0 l0_1 t544 t547 t552 t555 t559 t562))) = some r := H
  have A11 := zm A110
  clear A110
  have HC12 := zm H
  clear H
  go_enter Try.func5, Try.ntmps5
  go_upto_region 8 with (first | ((with_reducible refine gate_dst (N := 2) rfl ?_); refine zbox 2 #[.slice A0_0 l0_0.length c0_0, .slice A0_1 l0_1.length c0_1] 25 ?_; intro gb536 hg w13 hbox hb; have BK536 := zm (hbox); have GW536 := zge w hg zB; have GE536 := zge w hg zB; replace HB := zm (below_step zB hb); clear hb hbox hg; have hcz14_0 : w13.cell? ⟨gb536, 0, none⟩ = some (.slice A0_0 l0_0.length c0_0) := (blk_cell BK536.out 0).trans rfl; have hcz14_1 : w13.cell? ⟨gb536, 1, none⟩ = some (.slice A0_1 l0_1.length c0_1) := (blk_cell BK536.out 1).trans rfl; have hfz14_0 := blk_frozen BK536.out 0; have hfz14_1 := blk_frozen BK536.out 1) | ((with_reducible refine gate_callee (f := 13) rfl ?_); refine zg (some 18) #[.agg #[.slice A0_0 l0_0.length c0_0, .slice A0_1 l0_1.length c0_1], .int .i64 1048576] Try.func13 ?_; (with_reducible refine (laws_szState.calls k _ _ l0_0 _ _ l0_1 1048576 t537 _ (zk (Kd.C_below HR0_0.out HB.out)) HC0_0.out (zk (Kd.C_below HR0_1.out HB.out)) HC0_1.out A3.out).mono ?_); rintro e w15 ⟨rfl, hb⟩; refine ⟨_, rfl, ?_⟩; replace BK536 := zm (blk_below (zb BK536) hb); replace HB := zm (below_step zB hb); clear hb; have hcz16_0 : w15.cell? ⟨gb536, 0, none⟩ = some (.slice A0_0 l0_0.length c0_0) := (blk_cell BK536.out 0).trans rfl; have hcz16_1 : w15.cell? ⟨gb536, 1, none⟩ = some (.slice A0_1 l0_1.length c0_1) := (blk_cell BK536.out 1).trans rfl; have hfz16_0 := blk_frozen BK536.out 0; have hfz16_1 := blk_frozen BK536.out 1) | ((with_reducible refine gate_callee (f := 15) rfl ?_); refine zg (some 23) #[.agg #[.slice A0_0 l0_0.length c0_0, .slice A0_1 l0_1.length c0_1]] Try.func15 ?_; (with_reducible refine (laws_toState.calls k _ _ l0_0 _ _ l0_1 t538 t541 _ (zk (Kd.C_below HR0_0.out HB.out)) HC0_0.out (zk (Kd.C_below HR0_1.out HB.out)) HC0_1.out A8.out).mono ?_); rintro e w17 ⟨v539, v542, rfl, ho0, ho1, hb⟩; refine ⟨_, rfl, ?_⟩; have HO540 := zm (Kd.R_lower ho0 (below_size zB)); have HO543 := zm (Kd.R_lower ho1 (below_size zB)); replace BK536 := zm (blk_below (zb BK536) hb); replace HB := zm (below_step zB hb); clear hb ho0 ho1; obtain ⟨Ao18, co18, eo18⟩ := Kd.R_slice HO540.out; subst eo18; obtain ⟨Ao19, co19, eo19⟩ := Kd.R_slice HO543.out; subst eo19) | ((with_reducible refine gate_callee (f := 24) rfl ?_); refine zg (some 25) #[.agg #[.slice Ao18 t538.length co18, .slice Ao19 t541.length co19], .int .i64 a1] Try.func24 ?_; (with_reducible refine (spec_SayGone.calls k _ _ t538 _ _ t541 a1 t544 t547 t550 _ ?side1 ?side2 ?side3 ?side4 A9.out).mono ?_); (case side1 => repeat (first | exact (Kd.R_reads' HO540.out).2.2 | (with_reducible refine Kd.C_alloc ?_ _) | (with_reducible refine Kd.C_drewN ?_ _) | (with_reducible refine Kd.C_drew ?_))); (case side2 => exact (Kd.R_reads' HO540.out).2.1); (case side3 => repeat (first | exact (Kd.R_reads' HO543.out).2.2 | (with_reducible refine Kd.C_alloc ?_ _) | (with_reducible refine Kd.C_drewN ?_ _) | (with_reducible refine Kd.C_drew ?_))); (case side4 => exact (Kd.R_reads' HO543.out).2.1); rintro e w20 ⟨v545, v548, rfl, ho0, ho1, hb⟩; refine ⟨_, rfl, ?_⟩; have HO546 := zm (Kd.R_lower (Kd.R_new' ho0 (Kd.R_lt (zr HO540))) (below_size zB)); replace HO540 := zm (Kd.R_elder' (zr HO540) (Kd.R_base ho0) hb); have HO549 := zm (Kd.R_lower (Kd.R_new' ho1 (Kd.R_lt (zr HO543))) (below_size zB)); replace HO543 := zm (Kd.R_elder' (zr HO543) (Kd.R_base ho1) hb); replace BK536 := zm (blk_below (zb BK536) hb); replace HB := zm (below_step zB hb); clear hb ho0 ho1) | ((with_reducible refine gate_dst (N := 6) rfl ?_); refine zbox 6 #[.slice none 0 0, .slice none 0 0] 32 ?_; intro gb551 hg w21 hbox hb; replace HO540 := zm (Kd.R_below (zr HO540) hb); replace HO543 := zm (Kd.R_below (zr HO543) hb); replace HO546 := zm (Kd.R_below (zr HO546) hb); replace HO549 := zm (Kd.R_below (zr HO549) hb); have BK551 := zm (hbox); have GW551 := zge w hg zB; have GE551 := zge w hg zB; replace HB := zm (below_step zB hb); have NB536_551 := zlt hg (zb BK536); have NB551_536 := zgt hg (zb BK536); replace BK536 := zm (blk_below (zb BK536) hb); clear hb hbox hg; obtain ⟨Ao22, co22, eo22⟩ := Kd.R_slice HO546.out; subst eo22; have hnb23 := NB551_536.out; have hnc23 := NB536_551.out; have hcz24_0 : w21.cell? ⟨gb551, 0, none⟩ = some (.slice none 0 0) := (blk_cell BK551.out 0).trans rfl; have hcz24_1 : w21.cell? ⟨gb551, 1, none⟩ = some (.slice none 0 0) := (blk_cell BK551.out 1).trans rfl; have hfz24_0 := blk_frozen BK551.out 0; have hfz24_1 := blk_frozen BK551.out 1; obtain ⟨Ao25, co25, eo25⟩ := Kd.R_slice HO549.out; subst eo25; have hcz26_0 : w21.cell? ⟨gb536, 0, none⟩ = some (.slice A0_0 l0_0.length c0_0) := (blk_cell BK536.out 0).trans rfl; have hcz26_1 : w21.cell? ⟨gb536, 1, none⟩ = some (.slice A0_1 l0_1.length c0_1) := (blk_cell BK536.out 1).trans rfl; have hfz26_0 := blk_frozen BK536.out 0; have hfz26_1 := blk_frozen BK536.out 1) | ((with_reducible refine gate_callee (f := 15) rfl ?_); refine zg (some 29) #[.agg #[.slice A0_0 l0_0.length c0_0, .slice A0_1 l0_1.length c0_1]] Try.func15 ?_; (with_reducible refine (laws_toState.calls k _ _ l0_0 _ _ l0_1 t552 t555 _ ?side1 HC0_0.out ?side3 HC0_1.out A10.out).mono ?_); (case side1 => exact Kd.C_below HR0_0.out zB); (case side3 => exact Kd.C_below HR0_1.out zB); rintro e w27 ⟨v553, v556, rfl, ho0, ho1, hb⟩; refine ⟨_, rfl, ?_⟩; have HO554 := zm (Kd.R_lower (Kd.R_new' (Kd.R_new' ho0 (Kd.R_lt (zrs <| (Kd.R_mono (zfr (zfr (Kd.R_types HO540.out BK551.out (by decide)))) (fun _ h_ => h_.1))))) (Kd.R_lt (zrs <| (Kd.R_mono (zfr (zfr (Kd.R_types HO546.out BK551.out (by decide)))) (fun _ h_ => h_.1))))) (below_size zB)); replace HO540 := zm (Kd.R_elder' (zrs <| (Kd.R_mono (zfr (zfr (Kd.R_types HO540.out BK551.out (by decide)))) (fun _ h_ => h_.1))) (Kd.R_base ho0) hb); replace HO546 := zm (Kd.R_elder' (zrs <| (Kd.R_mono (zfr (zfr (Kd.R_types HO546.out BK551.out (by decide)))) (fun _ h_ => h_.1))) (Kd.R_base ho0) hb); have HO557 := zm (Kd.R_lower (Kd.R_new' (Kd.R_new' ho1 (Kd.R_lt (zrs <| (Kd.R_mono (zfr (zfr (Kd.R_types HO543.out BK551.out (by decide)))) (fun _ h_ => h_.1))))) (Kd.R_lt (zrs <| (Kd.R_mono (zfr (zfr (Kd.R_types HO549.out BK551.out (by decide)))) (fun _ h_ => h_.1))))) (below_size zB)); replace HO543 := zm (Kd.R_elder' (zrs <| (Kd.R_mono (zfr (zfr (Kd.R_types HO543.out BK551.out (by decide)))) (fun _ h_ => h_.1))) (Kd.R_base ho1) hb); replace HO549 := zm (Kd.R_elder' (zrs <| (Kd.R_mono (zfr (zfr (Kd.R_types HO549.out BK551.out (by decide)))) (fun _ h_ => h_.1))) (Kd.R_base ho1) hb); replace BK536 := zm (blk_below (g := gb536) (o := .cells #[.slice A0_0 l0_0.length c0_0, .slice A0_1 l0_1.length c0_1] 25 (0, 0)) (zfar (zfar (zb BK536) NB536_551) NB536_551) hb); replace BK551 := zm (blk_below (g := gb551) (o := .cells #[.slice Ao22 t544.length co22, .slice Ao25 t547.length co25] 32 (0, 0)) (zput (zput (zb BK551) 0) 1) hb); replace HB := zm (below_step zB hb); clear hb ho0 ho1) | ((with_reducible refine gate_dst (N := 8) rfl ?_); refine zbox 8 #[.slice none 0 0, .slice none 0 0] 32 ?_; intro gb558 hg w28 hbox hb; replace HO540 := zm (Kd.R_below (zr HO540) hb); replace HO543 := zm (Kd.R_below (zr HO543) hb); replace HO546 := zm (Kd.R_below (zr HO546) hb); replace HO549 := zm (Kd.R_below (zr HO549) hb); replace HO554 := zm (Kd.R_below (zr HO554) hb); replace HO557 := zm (Kd.R_below (zr HO557) hb); have BK558 := zm (hbox); have GW558 := zge w hg zB; have GE558 := zge w hg zB; replace HB := zm (below_step zB hb); have NB536_558 := zlt hg (zb BK536); have NB558_536 := zgt hg (zb BK536); replace BK536 := zm (blk_below (zb BK536) hb); have NB551_558 := zlt hg (zb BK551); have NB558_551 := zgt hg (zb BK551); replace BK551 := zm (blk_below (zb BK551) hb); clear hb hbox hg; obtain ⟨Ao29, co29, eo29⟩ := Kd.R_slice HO554.out; subst eo29; have hnb30 := NB558_536.out; have hnc30 := NB536_558.out; have hnb31 := NB558_551.out; have hnc31 := NB551_558.out; have hcz32_0 : w28.cell? ⟨gb558, 0, none⟩ = some (.slice none 0 0) := (blk_cell BK558.out 0).trans rfl; have hcz32_1 : w28.cell? ⟨gb558, 1, none⟩ = some (.slice none 0 0) := (blk_cell BK558.out 1).trans rfl; have hfz32_0 := blk_frozen BK558.out 0; have hfz32_1 := blk_frozen BK558.out 1; obtain ⟨Ao33, co33, eo33⟩ := Kd.R_slice HO557.out; subst eo33) | ((with_reducible refine gate_callee (f := 25) rfl ?_); refine zg (some 33) #[.agg #[.slice Ao29 t552.length co29, .slice Ao33 t555.length co33], .int .i64 a1] Try.func25 ?_; (with_reducible refine (impl_SayGone.calls k _ _ t552 _ _ t555 a1 t559 t562 t565 _ ?side1 ?side2 ?side3 ?side4 A11.out).mono ?_); (case side1 => refine (Kd.R_reads' (e := 68) (base := w.heap.size) (ok := fun k_ => ((True ∧ some k_ ≠ (.slice Ao18 t538.length co18 : Value).ownBlock) ∧ some k_ ≠ (.slice Ao22 t544.length co22 : Value).ownBlock)) (n := t552.length) (c := co29) ?_).2.2; exact (zrs <| (Kd.R_mono (zfr (zfr (Kd.R_types HO554.out BK558.out (by decide)))) (fun _ h_ => h_.1)))); (case side2 => exact (Kd.R_reads' HO554.out).2.1); (case side3 => refine (Kd.R_reads' (e := 72) (base := w.heap.size) (ok := fun k_ => ((True ∧ some k_ ≠ (.slice Ao19 t541.length co19 : Value).ownBlock) ∧ some k_ ≠ (.slice Ao25 t547.length co25 : Value).ownBlock)) (n := t555.length) (c := co33) ?_).2.2; exact (zrs <| (Kd.R_mono (zfr (zfr (Kd.R_types HO557.out BK558.out (by decide)))) (fun _ h_ => h_.1)))); (case side4 => exact (Kd.R_reads' HO557.out).2.1); rintro e w34 ⟨v560, v563, rfl, ho0, ho1, hb⟩; refine ⟨_, rfl, ?_⟩; have HO561 := zm (Kd.R_lower (Kd.R_new' (Kd.R_new' (Kd.R_new' ho0 (Kd.R_lt (zrs <| (Kd.R_mono (zfr (zfr (Kd.R_types HO540.out BK558.out (by decide)))) (fun _ h_ => h_.1))))) (Kd.R_lt (zrs <| (Kd.R_mono (zfr (zfr (Kd.R_types HO546.out BK558.out (by decide)))) (fun _ h_ => h_.1))))) (Kd.R_lt (zrs <| (Kd.R_mono (zfr (zfr (Kd.R_types HO554.out BK558.out (by decide)))) (fun _ h_ => h_.1))))) (below_size zB)); replace HO540 := zm (Kd.R_elder' (zrs <| (Kd.R_mono (zfr (zfr (Kd.R_types HO540.out BK558.out (by decide)))) (fun _ h_ => h_.1))) (Kd.R_base ho0) hb); replace HO546 := zm (Kd.R_elder' (zrs <| (Kd.R_mono (zfr (zfr (Kd.R_types HO546.out BK558.out (by decide)))) (fun _ h_ => h_.1))) (Kd.R_base ho0) hb); replace HO554 := zm (Kd.R_elder' (zrs <| (Kd.R_mono (zfr (zfr (Kd.R_types HO554.out BK558.out (by decide)))) (fun _ h_ => h_.1))) (Kd.R_base ho0) hb); have HO564 := zm (Kd.R_lower (Kd.R_new' (Kd.R_new' (Kd.R_new' ho1 (Kd.R_lt (zrs <| (Kd.R_mono (zfr (zfr (Kd.R_types HO543.out BK558.out (by decide)))) (fun _ h_ => h_.1))))) (Kd.R_lt (zrs <| (Kd.R_mono (zfr (zfr (Kd.R_types HO549.out BK558.out (by decide)))) (fun _ h_ => h_.1))))) (Kd.R_lt (zrs <| (Kd.R_mono (zfr (zfr (Kd.R_types HO557.out BK558.out (by decide)))) (fun _ h_ => h_.1))))) (below_size zB)); replace HO543 := zm (Kd.R_elder' (zrs <| (Kd.R_mono (zfr (zfr (Kd.R_types HO543.out BK558.out (by decide)))) (fun _ h_ => h_.1))) (Kd.R_base ho1) hb); replace HO549 := zm (Kd.R_elder' (zrs <| (Kd.R_mono (zfr (zfr (Kd.R_types HO549.out BK558.out (by decide)))) (fun _ h_ => h_.1))) (Kd.R_base ho1) hb); replace HO557 := zm (Kd.R_elder' (zrs <| (Kd.R_mono (zfr (zfr (Kd.R_types HO557.out BK558.out (by decide)))) (fun _ h_ => h_.1))) (Kd.R_base ho1) hb); replace BK536 := zm (blk_below (g := gb536) (o := .cells #[.slice A0_0 l0_0.length c0_0, .slice A0_1 l0_1.length c0_1] 25 (0, 0)) (zfar (zfar (zb BK536) NB536_558) NB536_558) hb); replace BK551 := zm (blk_below (g := gb551) (o := .cells #[.slice Ao22 t544.length co22, .slice Ao25 t547.length co25] 32 (0, 0)) (zfar (zfar (zb BK551) NB551_558) NB551_558) hb); replace BK558 := zm (blk_below (g := gb558) (o := .cells #[.slice Ao29 t552.length co29, .slice Ao33 t555.length co33] 32 (0, 0)) (zput (zput (zb BK558) 0) 1) hb); replace HB := zm (below_step zB hb); clear hb ho0 ho1) | ((with_reducible refine gate_dst (N := 9) rfl ?_); refine zbox 9 #[.slice none 0 0, .slice none 0 0] 32 ?_; intro gb566 hg w35 hbox hb; replace HO540 := zm (Kd.R_below (zr HO540) hb); replace HO543 := zm (Kd.R_below (zr HO543) hb); replace HO546 := zm (Kd.R_below (zr HO546) hb); replace HO549 := zm (Kd.R_below (zr HO549) hb); replace HO554 := zm (Kd.R_below (zr HO554) hb); replace HO557 := zm (Kd.R_below (zr HO557) hb); replace HO561 := zm (Kd.R_below (zr HO561) hb); replace HO564 := zm (Kd.R_below (zr HO564) hb); have BK566 := zm (hbox); have GW566 := zge w hg zB; have GE566 := zge w hg zB; replace HB := zm (below_step zB hb); have NB536_566 := zlt hg (zb BK536); have NB566_536 := zgt hg (zb BK536); replace BK536 := zm (blk_below (zb BK536) hb); have NB551_566 := zlt hg (zb BK551); have NB566_551 := zgt hg (zb BK551); replace BK551 := zm (blk_below (zb BK551) hb); have NB558_566 := zlt hg (zb BK558); have NB566_558 := zgt hg (zb BK558); replace BK558 := zm (blk_below (zb BK558) hb); clear hb hbox hg; obtain ⟨Ao36, co36, eo36⟩ := Kd.R_slice HO561.out; subst eo36; have hnb37 := NB566_536.out; have hnc37 := NB536_566.out; have hnb38 := NB566_551.out; have hnc38 := NB551_566.out; have hnb39 := NB566_558.out; have hnc39 := NB558_566.out; have hcz40_0 : w35.cell? ⟨gb566, 0, none⟩ = some (.slice none 0 0) := (blk_cell BK566.out 0).trans rfl; have hcz40_1 : w35.cell? ⟨gb566, 1, none⟩ = some (.slice none 0 0) := (blk_cell BK566.out 1).trans rfl; have hfz40_0 := blk_frozen BK566.out 0; have hfz40_1 := blk_frozen BK566.out 1; obtain ⟨Ao41, co41, eo41⟩ := Kd.R_slice HO564.out; subst eo41))
  (try simp only [Act.put, List.setIfInBounds_toArray, List.set_cons_zero, List.set_cons_succ])
  go_cut [44] (fun v44 wc => ∃ (kq : Nat) (x44_11 : Bool), v44 = .bool x44_11 ∧ Aside0 (laws_FnExactSayGone.j0 kq a1 t550 t565 x44_11 l0_0 l0_1 t544 t547 t552 t555 t559 t562 = some r) ∧ Aside0 (kq ≤ k) ∧ Aside0 (Kd.R k68 68 wc w.heap.size (fun k_ => some k_ ≠ ((.slice Ao29 t552.length co29) : Value).ownBlock ∧ some k_ ≠ ((.slice Ao36 t559.length co36) : Value).ownBlock) (.slice Ao22 t544.length co22) t544) ∧ Aside0 (Kd.R k72 72 wc w.heap.size (fun k_ => some k_ ≠ ((.slice Ao33 t555.length co33) : Value).ownBlock ∧ some k_ ≠ ((.slice Ao41 t562.length co41) : Value).ownBlock) (.slice Ao25 t547.length co25) t547) ∧ Aside0 (Kd.R k68 68 wc w.heap.size (fun k_ => some k_ ≠ ((.slice Ao22 t544.length co22) : Value).ownBlock ∧ some k_ ≠ ((.slice Ao36 t559.length co36) : Value).ownBlock) (.slice Ao29 t552.length co29) t552) ∧ Aside0 (Kd.R k72 72 wc w.heap.size (fun k_ => some k_ ≠ ((.slice Ao25 t547.length co25) : Value).ownBlock ∧ some k_ ≠ ((.slice Ao41 t562.length co41) : Value).ownBlock) (.slice Ao33 t555.length co33) t555) ∧ Aside0 (Kd.R k68 68 wc w.heap.size (fun k_ => some k_ ≠ ((.slice Ao22 t544.length co22) : Value).ownBlock ∧ some k_ ≠ ((.slice Ao29 t552.length co29) : Value).ownBlock) (.slice Ao36 t559.length co36) t559) ∧ Aside0 (Kd.R k72 72 wc w.heap.size (fun k_ => some k_ ≠ ((.slice Ao25 t547.length co25) : Value).ownBlock ∧ some k_ ≠ ((.slice Ao33 t555.length co33) : Value).ownBlock) (.slice Ao41 t562.length co41) t562) ∧ Aside0 (wc.heap[gb536]? = some (.cells #[(.slice A0_0 l0_0.length c0_0), (.slice A0_1 l0_1.length c0_1)] 25 (0, 0))) ∧ Aside0 (wc.heap[gb551]? = some (.cells #[(.slice Ao22 t544.length co22), (.slice Ao25 t547.length co25)] 32 (0, 0))) ∧ Aside0 (wc.heap[gb558]? = some (.cells #[(.slice Ao29 t552.length co29), (.slice Ao33 t555.length co33)] 32 (0, 0))) ∧ Aside0 (wc.heap[gb566]? = some (.cells #[(.slice Ao36 t559.length co36), (.slice Ao41 t562.length co41)] 32 (0, 0))) ∧ Aside0 (Below w.heap.size w wc))
  case first =>
   have H := HC12.out
   clear HC12
   replace H := Option.bind_eq_some_iff.mp H
   obtain ⟨t567, A420, H⟩ := H
   replace H : (if t567 = true then (laws_FnExactSayGone.j0 k a1 t550 t565 (t565 != t550) l0_0 l0_1 t544 t547 t552 t555 t559 t562) else (laws_FnExactSayGone.j0 k a1 t550 t565 true l0_0 l0_1 t544 t547 t552 t555 t559 t562)) = some r := H
   have A42 := zm A420
   clear A420
   by_cases c43 : t567 = true
   ·subst c43
    have H1 : (laws_FnExactSayGone.j0 k a1 t550 t565 (t565 != t550) l0_0 l0_1 t544 t547 t552 t555 t559 t562) = some r := by rw [if_pos rfl] at H; exact H
    clear H
    have H := H1
    clear H1
    have H' := zm H
    clear H
    have hnb44 := NB566_536.out
    have hnc44 := NB536_566.out
    have hnb45 := NB566_551.out
    have hnc45 := NB551_566.out
    have hnb46 := NB566_558.out
    have hnc46 := NB558_566.out
    have hcz47_0 : w35.cell? ⟨gb566, 0, none⟩ = some (.slice none 0 0) := (blk_cell BK566.out 0).trans rfl
    have hcz47_1 : w35.cell? ⟨gb566, 1, none⟩ = some (.slice none 0 0) := (blk_cell BK566.out 1).trans rfl
    have hfz47_0 := blk_frozen BK566.out 0
    have hfz47_1 := blk_frozen BK566.out 1
    have hnb48 := NB551_536.out
    have hnc48 := NB536_551.out
    have hnb49 := NB551_558.out
    have hnc49 := NB558_551.out
    have hcz50_0 : w35.cell? ⟨gb551, 0, none⟩ = some (.slice Ao22 t544.length co22) := (blk_cell BK551.out 0).trans rfl
    have hcz50_1 : w35.cell? ⟨gb551, 1, none⟩ = some (.slice Ao25 t547.length co25) := (blk_cell BK551.out 1).trans rfl
    have hfz50_0 := blk_frozen BK551.out 0
    have hfz50_1 := blk_frozen BK551.out 1
    go_wp2_with (first | ((with_reducible refine gate_callee (f := 18) rfl ?_); refine zg (some 38) #[.agg #[.slice Ao36 t559.length co36, .slice Ao41 t562.length co41], .agg #[.slice Ao22 t544.length co22, .slice Ao25 t547.length co25]] Try.func18 ?_; (with_reducible refine (laws_eqState.calls k _ _ t559 _ _ t562 _ _ t544 _ _ t547 true _ ?side1 ?side2 ?side3 ?side4 ?side5 ?side6 ?side7 ?side8 A42.out).mono ?_); (case side1 => refine (Kd.R_reads' (e := 68) (base := w.heap.size) (ok := fun k_ => (((True ∧ some k_ ≠ (.slice Ao18 t538.length co18 : Value).ownBlock) ∧ some k_ ≠ (.slice Ao22 t544.length co22 : Value).ownBlock) ∧ some k_ ≠ (.slice Ao29 t552.length co29 : Value).ownBlock)) (n := t559.length) (c := co36) ?_).2.2; exact (zrs <| (Kd.R_mono (zfr (zfr (Kd.R_types HO561.out BK566.out (by decide)))) (fun _ h_ => h_.1)))); (case side2 => exact (Kd.R_reads' HO561.out).2.1); (case side3 => refine (Kd.R_reads' (e := 72) (base := w.heap.size) (ok := fun k_ => (((True ∧ some k_ ≠ (.slice Ao19 t541.length co19 : Value).ownBlock) ∧ some k_ ≠ (.slice Ao25 t547.length co25 : Value).ownBlock) ∧ some k_ ≠ (.slice Ao33 t555.length co33 : Value).ownBlock)) (n := t562.length) (c := co41) ?_).2.2; exact (zrs <| (Kd.R_mono (zfr (zfr (Kd.R_types HO564.out BK566.out (by decide)))) (fun _ h_ => h_.1)))); (case side4 => exact (Kd.R_reads' HO564.out).2.1); (case side5 => refine (Kd.R_reads' (e := 68) (base := w.heap.size) (ok := fun k_ => (((True ∧ some k_ ≠ (.slice Ao18 t538.length co18 : Value).ownBlock) ∧ some k_ ≠ (.slice Ao29 t552.length co29 : Value).ownBlock) ∧ some k_ ≠ (.slice Ao36 t559.length co36 : Value).ownBlock)) (n := t544.length) (c := co22) ?_).2.2; exact (zrs <| (Kd.R_mono (zfr (zfr (Kd.R_types HO546.out BK566.out (by decide)))) (fun _ h_ => h_.1)))); (case side6 => exact (Kd.R_reads' HO546.out).2.1); (case side7 => refine (Kd.R_reads' (e := 72) (base := w.heap.size) (ok := fun k_ => (((True ∧ some k_ ≠ (.slice Ao19 t541.length co19 : Value).ownBlock) ∧ some k_ ≠ (.slice Ao33 t555.length co33 : Value).ownBlock) ∧ some k_ ≠ (.slice Ao41 t562.length co41 : Value).ownBlock)) (n := t547.length) (c := co25) ?_).2.2; exact (zrs <| (Kd.R_mono (zfr (zfr (Kd.R_types HO549.out BK566.out (by decide)))) (fun _ h_ => h_.1)))); (case side8 => exact (Kd.R_reads' HO549.out).2.1); rintro e w51 ⟨rfl, hb⟩; refine ⟨_, rfl, ?_⟩; replace HO540 := zm (Kd.R_below (zrs <| (Kd.R_mono (zfr (zfr (Kd.R_types HO540.out BK566.out (by decide)))) (fun _ h_ => h_.1))) hb); replace HO543 := zm (Kd.R_below (zrs <| (Kd.R_mono (zfr (zfr (Kd.R_types HO543.out BK566.out (by decide)))) (fun _ h_ => h_.1))) hb); replace HO546 := zm (Kd.R_below (zrs <| (Kd.R_mono (zfr (zfr (Kd.R_types HO546.out BK566.out (by decide)))) (fun _ h_ => h_.1))) hb); replace HO549 := zm (Kd.R_below (zrs <| (Kd.R_mono (zfr (zfr (Kd.R_types HO549.out BK566.out (by decide)))) (fun _ h_ => h_.1))) hb); replace HO554 := zm (Kd.R_below (zrs <| (Kd.R_mono (zfr (zfr (Kd.R_types HO554.out BK566.out (by decide)))) (fun _ h_ => h_.1))) hb); replace HO557 := zm (Kd.R_below (zrs <| (Kd.R_mono (zfr (zfr (Kd.R_types HO557.out BK566.out (by decide)))) (fun _ h_ => h_.1))) hb); replace HO561 := zm (Kd.R_below (zrs <| (Kd.R_mono (zfr (zfr (Kd.R_types HO561.out BK566.out (by decide)))) (fun _ h_ => h_.1))) hb); replace HO564 := zm (Kd.R_below (zrs <| (Kd.R_mono (zfr (zfr (Kd.R_types HO564.out BK566.out (by decide)))) (fun _ h_ => h_.1))) hb); replace BK536 := zm (blk_below (g := gb536) (o := .cells #[.slice A0_0 l0_0.length c0_0, .slice A0_1 l0_1.length c0_1] 25 (0, 0)) (zfar (zfar (zb BK536) NB536_566) NB536_566) hb); replace BK551 := zm (blk_below (g := gb551) (o := .cells #[.slice Ao22 t544.length co22, .slice Ao25 t547.length co25] 32 (0, 0)) (zfar (zfar (zb BK551) NB551_566) NB551_566) hb); replace BK558 := zm (blk_below (g := gb558) (o := .cells #[.slice Ao29 t552.length co29, .slice Ao33 t555.length co33] 32 (0, 0)) (zfar (zfar (zb BK558) NB558_566) NB558_566) hb); replace BK566 := zm (blk_below (g := gb566) (o := .cells #[.slice Ao36 t559.length co36, .slice Ao41 t562.length co41] 32 (0, 0)) (zput (zput (zb BK566) 0) 1) hb); replace HB := zm (below_step zB hb); clear hb))
    go_meet
    case rel => exact ⟨_, ((t565 != t550)), zF, H', ⟨by first | omega | exact Nat.le_refl _⟩, ⟨by (with_reducible repeat (first | apply Kd.R_alloc | apply Kd.R_drewN | apply Kd.R_drew)); exact Kd.R_mono HO546.out (fun _ hk => ⟨hk.1.2, hk.2⟩)⟩, ⟨by (with_reducible repeat (first | apply Kd.R_alloc | apply Kd.R_drewN | apply Kd.R_drew)); exact Kd.R_mono HO549.out (fun _ hk => ⟨hk.1.2, hk.2⟩)⟩, ⟨by (with_reducible repeat (first | apply Kd.R_alloc | apply Kd.R_drewN | apply Kd.R_drew)); exact Kd.R_mono HO554.out (fun _ hk => ⟨hk.1.2, hk.2⟩)⟩, ⟨by (with_reducible repeat (first | apply Kd.R_alloc | apply Kd.R_drewN | apply Kd.R_drew)); exact Kd.R_mono HO557.out (fun _ hk => ⟨hk.1.2, hk.2⟩)⟩, ⟨by (with_reducible repeat (first | apply Kd.R_alloc | apply Kd.R_drewN | apply Kd.R_drew)); exact Kd.R_mono HO561.out (fun _ hk => ⟨hk.1.2, hk.2⟩)⟩, ⟨by (with_reducible repeat (first | apply Kd.R_alloc | apply Kd.R_drewN | apply Kd.R_drew)); exact Kd.R_mono HO564.out (fun _ hk => ⟨hk.1.2, hk.2⟩)⟩, ⟨zb BK536⟩, ⟨zb BK551⟩, ⟨zb BK558⟩, ⟨zb BK566⟩, ⟨zB⟩⟩
   ·replace c43 := Bool.eq_false_iff.mpr c43
    subst c43
    have H1 : (laws_FnExactSayGone.j0 k a1 t550 t565 true l0_0 l0_1 t544 t547 t552 t555 t559 t562) = some r := by rw [if_neg (show ¬ (false = true) by decide)] at H; exact H
    clear H
    have H := H1
    clear H1
    have H' := zm H
    clear H
    have hnb52 := NB566_536.out
    have hnc52 := NB536_566.out
    have hnb53 := NB566_551.out
    have hnc53 := NB551_566.out
    have hnb54 := NB566_558.out
    have hnc54 := NB558_566.out
    have hcz55_0 : w35.cell? ⟨gb566, 0, none⟩ = some (.slice none 0 0) := (blk_cell BK566.out 0).trans rfl
    have hcz55_1 : w35.cell? ⟨gb566, 1, none⟩ = some (.slice none 0 0) := (blk_cell BK566.out 1).trans rfl
    have hfz55_0 := blk_frozen BK566.out 0
    have hfz55_1 := blk_frozen BK566.out 1
    have hnb56 := NB551_536.out
    have hnc56 := NB536_551.out
    have hnb57 := NB551_558.out
    have hnc57 := NB558_551.out
    have hcz58_0 : w35.cell? ⟨gb551, 0, none⟩ = some (.slice Ao22 t544.length co22) := (blk_cell BK551.out 0).trans rfl
    have hcz58_1 : w35.cell? ⟨gb551, 1, none⟩ = some (.slice Ao25 t547.length co25) := (blk_cell BK551.out 1).trans rfl
    have hfz58_0 := blk_frozen BK551.out 0
    have hfz58_1 := blk_frozen BK551.out 1
    go_wp2_with (first | ((with_reducible refine gate_callee (f := 18) rfl ?_); refine zg (some 38) #[.agg #[.slice Ao36 t559.length co36, .slice Ao41 t562.length co41], .agg #[.slice Ao22 t544.length co22, .slice Ao25 t547.length co25]] Try.func18 ?_; (with_reducible refine (laws_eqState.calls k _ _ t559 _ _ t562 _ _ t544 _ _ t547 false _ ?side1 ?side2 ?side3 ?side4 ?side5 ?side6 ?side7 ?side8 A42.out).mono ?_); (case side1 => refine (Kd.R_reads' (e := 68) (base := w.heap.size) (ok := fun k_ => (((True ∧ some k_ ≠ (.slice Ao18 t538.length co18 : Value).ownBlock) ∧ some k_ ≠ (.slice Ao22 t544.length co22 : Value).ownBlock) ∧ some k_ ≠ (.slice Ao29 t552.length co29 : Value).ownBlock)) (n := t559.length) (c := co36) ?_).2.2; exact (zrs <| (Kd.R_mono (zfr (zfr (Kd.R_types HO561.out BK566.out (by decide)))) (fun _ h_ => h_.1)))); (case side2 => exact (Kd.R_reads' HO561.out).2.1); (case side3 => refine (Kd.R_reads' (e := 72) (base := w.heap.size) (ok := fun k_ => (((True ∧ some k_ ≠ (.slice Ao19 t541.length co19 : Value).ownBlock) ∧ some k_ ≠ (.slice Ao25 t547.length co25 : Value).ownBlock) ∧ some k_ ≠ (.slice Ao33 t555.length co33 : Value).ownBlock)) (n := t562.length) (c := co41) ?_).2.2; exact (zrs <| (Kd.R_mono (zfr (zfr (Kd.R_types HO564.out BK566.out (by decide)))) (fun _ h_ => h_.1)))); (case side4 => exact (Kd.R_reads' HO564.out).2.1); (case side5 => refine (Kd.R_reads' (e := 68) (base := w.heap.size) (ok := fun k_ => (((True ∧ some k_ ≠ (.slice Ao18 t538.length co18 : Value).ownBlock) ∧ some k_ ≠ (.slice Ao29 t552.length co29 : Value).ownBlock) ∧ some k_ ≠ (.slice Ao36 t559.length co36 : Value).ownBlock)) (n := t544.length) (c := co22) ?_).2.2; exact (zrs <| (Kd.R_mono (zfr (zfr (Kd.R_types HO546.out BK566.out (by decide)))) (fun _ h_ => h_.1)))); (case side6 => exact (Kd.R_reads' HO546.out).2.1); (case side7 => refine (Kd.R_reads' (e := 72) (base := w.heap.size) (ok := fun k_ => (((True ∧ some k_ ≠ (.slice Ao19 t541.length co19 : Value).ownBlock) ∧ some k_ ≠ (.slice Ao33 t555.length co33 : Value).ownBlock) ∧ some k_ ≠ (.slice Ao41 t562.length co41 : Value).ownBlock)) (n := t547.length) (c := co25) ?_).2.2; exact (zrs <| (Kd.R_mono (zfr (zfr (Kd.R_types HO549.out BK566.out (by decide)))) (fun _ h_ => h_.1)))); (case side8 => exact (Kd.R_reads' HO549.out).2.1); rintro e w59 ⟨rfl, hb⟩; refine ⟨_, rfl, ?_⟩; replace HO540 := zm (Kd.R_below (zrs <| (Kd.R_mono (zfr (zfr (Kd.R_types HO540.out BK566.out (by decide)))) (fun _ h_ => h_.1))) hb); replace HO543 := zm (Kd.R_below (zrs <| (Kd.R_mono (zfr (zfr (Kd.R_types HO543.out BK566.out (by decide)))) (fun _ h_ => h_.1))) hb); replace HO546 := zm (Kd.R_below (zrs <| (Kd.R_mono (zfr (zfr (Kd.R_types HO546.out BK566.out (by decide)))) (fun _ h_ => h_.1))) hb); replace HO549 := zm (Kd.R_below (zrs <| (Kd.R_mono (zfr (zfr (Kd.R_types HO549.out BK566.out (by decide)))) (fun _ h_ => h_.1))) hb); replace HO554 := zm (Kd.R_below (zrs <| (Kd.R_mono (zfr (zfr (Kd.R_types HO554.out BK566.out (by decide)))) (fun _ h_ => h_.1))) hb); replace HO557 := zm (Kd.R_below (zrs <| (Kd.R_mono (zfr (zfr (Kd.R_types HO557.out BK566.out (by decide)))) (fun _ h_ => h_.1))) hb); replace HO561 := zm (Kd.R_below (zrs <| (Kd.R_mono (zfr (zfr (Kd.R_types HO561.out BK566.out (by decide)))) (fun _ h_ => h_.1))) hb); replace HO564 := zm (Kd.R_below (zrs <| (Kd.R_mono (zfr (zfr (Kd.R_types HO564.out BK566.out (by decide)))) (fun _ h_ => h_.1))) hb); replace BK536 := zm (blk_below (g := gb536) (o := .cells #[.slice A0_0 l0_0.length c0_0, .slice A0_1 l0_1.length c0_1] 25 (0, 0)) (zfar (zfar (zb BK536) NB536_566) NB536_566) hb); replace BK551 := zm (blk_below (g := gb551) (o := .cells #[.slice Ao22 t544.length co22, .slice Ao25 t547.length co25] 32 (0, 0)) (zfar (zfar (zb BK551) NB551_566) NB551_566) hb); replace BK558 := zm (blk_below (g := gb558) (o := .cells #[.slice Ao29 t552.length co29, .slice Ao33 t555.length co33] 32 (0, 0)) (zfar (zfar (zb BK558) NB558_566) NB558_566) hb); replace BK566 := zm (blk_below (g := gb566) (o := .cells #[.slice Ao36 t559.length co36, .slice Ao41 t562.length co41] 32 (0, 0)) (zput (zput (zb BK566) 0) 1) hb); replace HB := zm (below_step zB hb); clear hb))
    go_meet
    case rel => exact ⟨_, (true), zF, H', ⟨by first | omega | exact Nat.le_refl _⟩, ⟨by (with_reducible repeat (first | apply Kd.R_alloc | apply Kd.R_drewN | apply Kd.R_drew)); exact Kd.R_mono HO546.out (fun _ hk => ⟨hk.1.2, hk.2⟩)⟩, ⟨by (with_reducible repeat (first | apply Kd.R_alloc | apply Kd.R_drewN | apply Kd.R_drew)); exact Kd.R_mono HO549.out (fun _ hk => ⟨hk.1.2, hk.2⟩)⟩, ⟨by (with_reducible repeat (first | apply Kd.R_alloc | apply Kd.R_drewN | apply Kd.R_drew)); exact Kd.R_mono HO554.out (fun _ hk => ⟨hk.1.2, hk.2⟩)⟩, ⟨by (with_reducible repeat (first | apply Kd.R_alloc | apply Kd.R_drewN | apply Kd.R_drew)); exact Kd.R_mono HO557.out (fun _ hk => ⟨hk.1.2, hk.2⟩)⟩, ⟨by (with_reducible repeat (first | apply Kd.R_alloc | apply Kd.R_drewN | apply Kd.R_drew)); exact Kd.R_mono HO561.out (fun _ hk => ⟨hk.1.2, hk.2⟩)⟩, ⟨by (with_reducible repeat (first | apply Kd.R_alloc | apply Kd.R_drewN | apply Kd.R_drew)); exact Kd.R_mono HO564.out (fun _ hk => ⟨hk.1.2, hk.2⟩)⟩, ⟨zb BK536⟩, ⟨zb BK551⟩, ⟨zb BK558⟩, ⟨zb BK566⟩, ⟨zB⟩⟩
  case rest =>
   clear HC12
   try clear c1
   try clear c2
   try clear p2
   try clear c3
   try clear c4
   try clear c4b0
   try clear c5
   try clear c13
   try clear c15
   try clear c18
   try clear c23
   try clear c24
   try clear c25
   try clear c30
   try clear c31
   try clear c37
   try clear c38
   try clear c39
   try clear c43
   try clear c44
   try clear c45
   try clear c46
   try clear c48
   try clear c49
   try clear c52
   try clear c53
   try clear c54
   try clear c56
   try clear c57
   try clear hcz14_0
   try clear hcz14_1
   try clear hcz16_0
   try clear hcz16_1
   try clear hcz24_0
   try clear hcz24_1
   try clear hcz26_0
   try clear hcz26_1
   try clear hcz32_0
   try clear hcz32_1
   try clear hcz40_0
   try clear hcz40_1
   try clear hcz47_0
   try clear hcz47_1
   try clear hcz50_0
   try clear hcz50_1
   try clear hcz55_0
   try clear hcz55_1
   try clear hcz58_0
   try clear hcz58_1
   try clear hcz6_0
   try clear hcz6_1
   try clear hfz14_0
   try clear hfz14_1
   try clear hfz16_0
   try clear hfz16_1
   try clear hfz24_0
   try clear hfz24_1
   try clear hfz26_0
   try clear hfz26_1
   try clear hfz32_0
   try clear hfz32_1
   try clear hfz40_0
   try clear hfz40_1
   try clear hfz47_0
   try clear hfz47_1
   try clear hfz50_0
   try clear hfz50_1
   try clear hfz55_0
   try clear hfz55_1
   try clear hfz58_0
   try clear hfz58_1
   try clear hfz6_0
   try clear hfz6_1
   obtain ⟨kq, x44_11, rfl, HA, HJ11, HO_552000, HO_552001, HO_559000, HO_559001, HO_567000, HO_567001, BK536, BK551, BK558, BK566, HB⟩ := hcut
   cases kq with
   | zero => exact absurd HA.out (by simp [laws_FnExactSayGone.j0])
   | succ kj11 =>
    have H := HA.out
    clear HA
    simp only [laws_FnExactSayGone.j0] at H
    by_cases c60 : x44_11 = true
    ·subst c60
     have H1 : (some false) = some r := by rw [if_pos rfl] at H; exact H
     clear H
     have H := H1
     clear H1
     obtain rfl := Option.some.inj H
     go_wp2
     go_ret
     exact ⟨zE, zB⟩
    ·replace c60 := Bool.eq_false_iff.mpr c60
     subst c60
     have H1 : ((laws_toState.f kj11 l0_0 l0_1).bind fun bt568 => ((laws_eqState.f kj11 t552 t555 bt568.1 bt568.2).bind fun t574 => (if t574 = true then ((laws_markState.f kj11 t552 t555 1).bind fun bt575 => (if bt575.1 < 0 then (laws_FnExactSayGone.j1 kj11 a1 t550 true l0_0 l0_1 t544 t547 t559 t562) else ((laws_eqState.f kj11 t559 t562 t544 t547).bind fun t578 => (if t578 = true then (laws_FnExactSayGone.j1 kj11 a1 t550 (t565 != t550) l0_0 l0_1 t544 t547 t559 t562) else (laws_FnExactSayGone.j1 kj11 a1 t550 true l0_0 l0_1 t544 t547 t559 t562))))) else (some false)))) = some r := by rw [if_neg (show ¬ (false = true) by decide)] at H; exact H
     clear H
     have H := H1
     clear H1
     replace H := Option.bind_eq_some_iff.mp H
     obtain ⟨⟨t568, t571⟩, A610, H⟩ := H
     replace H : ((laws_eqState.f kj11 t552 t555 t568 t571).bind fun t574 => (if t574 = true then ((laws_markState.f kj11 t552 t555 1).bind fun bt575 => (if bt575.1 < 0 then (laws_FnExactSayGone.j1 kj11 a1 t550 true l0_0 l0_1 t544 t547 t559 t562) else ((laws_eqState.f kj11 t559 t562 t544 t547).bind fun t578 => (if t578 = true then (laws_FnExactSayGone.j1 kj11 a1 t550 (t565 != t550) l0_0 l0_1 t544 t547 t559 t562) else (laws_FnExactSayGone.j1 kj11 a1 t550 true l0_0 l0_1 t544 t547 t559 t562))))) else (some false))) = some r := H
     have A61 := zm A610
     clear A610
     replace H := Option.bind_eq_some_iff.mp H
     obtain ⟨t574, A620, H⟩ := H
     replace H : (if t574 = true then ((laws_markState.f kj11 t552 t555 1).bind fun bt575 => (if bt575.1 < 0 then (laws_FnExactSayGone.j1 kj11 a1 t550 true l0_0 l0_1 t544 t547 t559 t562) else ((laws_eqState.f kj11 t559 t562 t544 t547).bind fun t578 => (if t578 = true then (laws_FnExactSayGone.j1 kj11 a1 t550 (t565 != t550) l0_0 l0_1 t544 t547 t559 t562) else (laws_FnExactSayGone.j1 kj11 a1 t550 true l0_0 l0_1 t544 t547 t559 t562))))) else (some false)) = some r := H
     have A62 := zm A620
     clear A620
     by_cases c63 : t574 = true
     ·subst c63
      have H1 : ((laws_markState.f kj11 t552 t555 1).bind fun bt575 => (if bt575.1 < 0 then (laws_FnExactSayGone.j1 kj11 a1 t550 true l0_0 l0_1 t544 t547 t559 t562) else ((laws_eqState.f kj11 t559 t562 t544 t547).bind fun t578 => (if t578 = true then (laws_FnExactSayGone.j1 kj11 a1 t550 (t565 != t550) l0_0 l0_1 t544 t547 t559 t562) else (laws_FnExactSayGone.j1 kj11 a1 t550 true l0_0 l0_1 t544 t547 t559 t562))))) = some r := by rw [if_pos rfl] at H; exact H
      clear H
      have H := H1
      clear H1
      replace H := Option.bind_eq_some_iff.mp H
      obtain ⟨⟨t575, t576, t577⟩, A640, H⟩ := H
      replace H : (if t575 < 0 then (laws_FnExactSayGone.j1 kj11 a1 t550 true l0_0 l0_1 t544 t547 t559 t562) else ((laws_eqState.f kj11 t559 t562 t544 t547).bind fun t578 => (if t578 = true then (laws_FnExactSayGone.j1 kj11 a1 t550 (t565 != t550) l0_0 l0_1 t544 t547 t559 t562) else (laws_FnExactSayGone.j1 kj11 a1 t550 true l0_0 l0_1 t544 t547 t559 t562)))) = some r := H
      have A64 := zm A640
      clear A640
      have HC65 := zm H
      clear H
      try go_wp2
      replace HO_552000 := zm (Kd.R_drew HO_552000.out)
      replace HO_552001 := zm (Kd.R_drew HO_552001.out)
      replace HO_559000 := zm (Kd.R_drew HO_559000.out)
      replace HO_559001 := zm (Kd.R_drew HO_559001.out)
      replace HO_567000 := zm (Kd.R_drew HO_567000.out)
      replace HO_567001 := zm (Kd.R_drew HO_567001.out)
      replace BK536 := zm (blk_drew BK536.out)
      replace BK551 := zm (blk_drew BK551.out)
      replace BK558 := zm (blk_drew BK558.out)
      replace BK566 := zm (blk_drew BK566.out)
      replace HB := zm (below_drew1 HB.out)
      refine start_ (n := 5) (S := fun w' => w'.cell? ⟨gb558, 0, none⟩ = some (.slice Ao29 t552.length co29) ∧ w'.cell? ⟨gb558, 1, none⟩ = some (.slice Ao33 t555.length co33) ∧ w'.cell? ⟨gb536, 0, none⟩ = some (.slice A0_0 l0_0.length c0_0) ∧ w'.cell? ⟨gb536, 1, none⟩ = some (.slice A0_1 l0_1.length c0_1)) (ds := []) (zl 5 0) (by kernel_rfl) rfl rfl ⟨(blk_cell BK558.out 0).trans rfl, (blk_cell BK558.out 1).trans rfl, (blk_cell BK536.out 0).trans rfl, (blk_cell BK536.out 1).trans rfl⟩ (fun hHeld => ?_)
      generalize wc.drew = w66 at HO_552000 HO_552001 HO_559000 HO_559001 HO_567000 HO_567001 BK536 BK551 BK558 BK566 HB hHeld ⊢
      refine zt 0 (some 45) (zl 5 1) ?_
      refine zt 1 (some 46) (zl 5 3) ?_
      refine zo 2 (some 47) (zl 5 7) (fun K hK => ?_)
      refine zgo #[.agg #[.slice A0_0 l0_0.length c0_0, .slice A0_1 l0_1.length c0_1]] Try.func15 ?_
      with_reducible refine (laws_toState.calls kj11 _ _ l0_0 _ _ l0_1 t568 t571 _ (zk (Kd.C_below HR0_0.out HB.out)) HC0_0.out (zk (Kd.C_below HR0_1.out HB.out)) HC0_1.out A61.out).mono ?_
      rintro e w67 ⟨v569, v572, rfl, ho0, ho1, hb⟩
      refine ⟨_, rfl, ?_⟩
      have HO570 := zm (Kd.R_lower (Kd.R_new' (Kd.R_new' (Kd.R_new' ho0 (Kd.R_lt (zr HO_552000))) (Kd.R_lt (zr HO_559000))) (Kd.R_lt (zr HO_567000))) (below_size zB))
      replace HO_552000 := zm (Kd.R_elder' (zr HO_552000) (Kd.R_base ho0) hb)
      replace HO_559000 := zm (Kd.R_elder' (zr HO_559000) (Kd.R_base ho0) hb)
      replace HO_567000 := zm (Kd.R_elder' (zr HO_567000) (Kd.R_base ho0) hb)
      have HO573 := zm (Kd.R_lower (Kd.R_new' (Kd.R_new' (Kd.R_new' ho1 (Kd.R_lt (zr HO_552001))) (Kd.R_lt (zr HO_559001))) (Kd.R_lt (zr HO_567001))) (below_size zB))
      replace HO_552001 := zm (Kd.R_elder' (zr HO_552001) (Kd.R_base ho1) hb)
      replace HO_559001 := zm (Kd.R_elder' (zr HO_559001) (Kd.R_base ho1) hb)
      replace HO_567001 := zm (Kd.R_elder' (zr HO_567001) (Kd.R_base ho1) hb)
      replace BK536 := zm (blk_below (zb BK536) hb)
      replace BK551 := zm (blk_below (zb BK551) hb)
      replace BK558 := zm (blk_below (zb BK558) hb)
      replace BK566 := zm (blk_below (zb BK566) hb)
      replace HB := zm (below_step zB hb)
      (try clear hb)
      (try clear hb2)
      (try clear hk)
      (try clear hi)
      (try clear ho0)
      (try clear ho1)
      obtain ⟨Ao68, co68, eo68⟩ := Kd.R_slice HO570.out
      (first | subst eo68 | (injection eo68 with f1_ f2_ f3_; have f4_ := f1_.symm; have f5_ := f3_.symm; clear f1_ f2_ f3_; subst f4_; subst f5_))
      obtain ⟨Ao69, co69, eo69⟩ := Kd.R_slice HO573.out
      (first | subst eo69 | (injection eo69 with f1_ f2_ f3_; have f4_ := f1_.symm; have f5_ := f3_.symm; clear f1_ f2_ f3_; subst f4_; subst f5_))
      refine hK.out _ _ ⟨(blk_cell BK558.out 0).trans rfl, (blk_cell BK558.out 1).trans rfl, (blk_cell BK536.out 0).trans rfl, (blk_cell BK536.out 1).trans rfl⟩ (fun hHeld => ?_)
      clear hK K
      refine zn ?_
      refine zo 3 (some 48) (zl 5 15) (fun K hK => ?_)
      refine zgo #[.agg #[.slice Ao29 t552.length co29, .slice Ao33 t555.length co33], .agg #[.slice Ao68 t568.length co68, .slice Ao69 t571.length co69]] Try.func18 ?_
      with_reducible refine (laws_eqState.calls kj11 _ _ t552 _ _ t555 _ _ t568 _ _ t571 true _ ?side1 ?side2 ?side3 ?side4 ?side5 ?side6 ?side7 ?side8 A62.out).mono ?_
      (case side1 => repeat (first | exact (Kd.R_reads' HO_559000.out).2.2 | (with_reducible refine Kd.C_alloc ?_ _) | (with_reducible refine Kd.C_drewN ?_ _) | (with_reducible refine Kd.C_drew ?_)))
      (case side2 => exact (Kd.R_reads' HO_559000.out).2.1)
      (case side3 => repeat (first | exact (Kd.R_reads' HO_559001.out).2.2 | (with_reducible refine Kd.C_alloc ?_ _) | (with_reducible refine Kd.C_drewN ?_ _) | (with_reducible refine Kd.C_drew ?_)))
      (case side4 => exact (Kd.R_reads' HO_559001.out).2.1)
      (case side5 => repeat (first | exact (Kd.R_reads' HO570.out).2.2 | (with_reducible refine Kd.C_alloc ?_ _) | (with_reducible refine Kd.C_drewN ?_ _) | (with_reducible refine Kd.C_drew ?_)))
      (case side6 => exact (Kd.R_reads' HO570.out).2.1)
      (case side7 => repeat (first | exact (Kd.R_reads' HO573.out).2.2 | (with_reducible refine Kd.C_alloc ?_ _) | (with_reducible refine Kd.C_drewN ?_ _) | (with_reducible refine Kd.C_drew ?_)))
      (case side8 => exact (Kd.R_reads' HO573.out).2.1)
      rintro e w70 ⟨rfl, hb⟩
      refine ⟨_, rfl, ?_⟩
      replace HO_552000 := zm (Kd.R_below (zr HO_552000) hb)
      replace HO_552001 := zm (Kd.R_below (zr HO_552001) hb)
      replace HO_559000 := zm (Kd.R_below (zr HO_559000) hb)
      replace HO_559001 := zm (Kd.R_below (zr HO_559001) hb)
      replace HO_567000 := zm (Kd.R_below (zr HO_567000) hb)
      replace HO_567001 := zm (Kd.R_below (zr HO_567001) hb)
      replace HO570 := zm (Kd.R_below (zr HO570) hb)
      replace HO573 := zm (Kd.R_below (zr HO573) hb)
      replace BK536 := zm (blk_below (zb BK536) hb)
      replace BK551 := zm (blk_below (zb BK551) hb)
      replace BK558 := zm (blk_below (zb BK558) hb)
      replace BK566 := zm (blk_below (zb BK566) hb)
      replace HB := zm (below_step zB hb)
      (try clear hb)
      (try clear hb2)
      (try clear hk)
      (try clear hi)
      refine hK.out _ _ ⟨(blk_cell BK558.out 0).trans rfl, (blk_cell BK558.out 1).trans rfl, (blk_cell BK536.out 0).trans rfl, (blk_cell BK536.out 1).trans rfl⟩ (fun hHeld => ?_)
      clear hK K
      refine zn ?_
      refine zp 4 (some 49) (zl 5 31) ?_
      refine done_ (by kernel_rfl) ?_
      have hnb71 := NB558_536.out
      have hnc71 := NB536_558.out
      have hnb72 := NB558_551.out
      have hnc72 := NB551_558.out
      have hnb73 := NB558_566.out
      have hnc73 := NB566_558.out
      have hcz74_0 : w70.cell? ⟨gb558, 0, none⟩ = some (.slice Ao29 t552.length co29) := (blk_cell BK558.out 0).trans rfl
      have hcz74_1 : w70.cell? ⟨gb558, 1, none⟩ = some (.slice Ao33 t555.length co33) := (blk_cell BK558.out 1).trans rfl
      have hfz74_0 := blk_frozen BK558.out 0
      have hfz74_1 := blk_frozen BK558.out 1
      go_upto_region 14 with (first | ((with_reducible refine gate_callee (f := 19) rfl ?_); refine zg (some 52) #[.agg #[.slice Ao29 t552.length co29, .slice Ao33 t555.length co33], .int .i64 1] Try.func19 ?_; (with_reducible refine (laws_markState.calls kj11 (fun k_ => some k_ = (.slice Ao29 t552.length co29 : Value).ownBlock) (.slice Ao29 t552.length co29) t552 (fun k_ => some k_ = (.slice Ao33 t555.length co33 : Value).ownBlock) (.slice Ao33 t555.length co33) t555 1 t575 t576 t577 w _ zB ?side2 ?side3 A64.out).mono ?_); (case side2 => exact Kd.R_tight rfl HO_559000.out); (case side3 => exact Kd.R_tight rfl HO_559001.out); rintro e w75 ⟨rfl, hy0, hy1, hb, hkp⟩; refine ⟨_, rfl, ?_⟩; replace HO_552000 := zm (Kd.R_mono (ok' := fun k_ => some k_ ≠ (.slice Ao29 t552.length co29 : Value).ownBlock ∧ some k_ ≠ (.slice Ao36 t559.length co36 : Value).ownBlock ∧ some k_ ≠ (.slice Ao68 t568.length co68 : Value).ownBlock) (Kd.R_keptB ((Kd.R_apart' HO_552000.out (Kd.R_typed HO_559001.out) (by decide))) hkp (fun k_ hk_ hs_ => Or.elim hs_ (fun e_ => (hk_.1.1.1) e_) (fun e_ => (hk_.2) e_))) (fun k_ hk_ => ⟨hk_.1.1.1.1, hk_.1.1.1.2, hk_.1.1.2⟩)); replace HO_552001 := zm (Kd.R_mono (ok' := fun k_ => some k_ ≠ (.slice Ao33 t555.length co33 : Value).ownBlock ∧ some k_ ≠ (.slice Ao41 t562.length co41 : Value).ownBlock ∧ some k_ ≠ (.slice Ao69 t571.length co69 : Value).ownBlock) (Kd.R_keptB ((Kd.R_apart' HO_552001.out (Kd.R_typed HO_559000.out) (by decide))) hkp (fun k_ hk_ hs_ => Or.elim hs_ (fun e_ => (hk_.2) e_) (fun e_ => (hk_.1.1.1) e_))) (fun k_ hk_ => ⟨hk_.1.1.1.1, hk_.1.1.1.2, hk_.1.1.2⟩)); replace HO_567000 := zm (Kd.R_mono (ok' := fun k_ => some k_ ≠ (.slice Ao22 t544.length co22 : Value).ownBlock ∧ some k_ ≠ (.slice Ao29 t552.length co29 : Value).ownBlock ∧ some k_ ≠ (.slice Ao68 t568.length co68 : Value).ownBlock) (Kd.R_keptB ((Kd.R_apart' HO_567000.out (Kd.R_typed HO_559001.out) (by decide))) hkp (fun k_ hk_ hs_ => Or.elim hs_ (fun e_ => (hk_.1.1.2) e_) (fun e_ => (hk_.2) e_))) (fun k_ hk_ => ⟨hk_.1.1.1.1, hk_.1.1.1.2, hk_.1.1.2⟩)); replace HO_567001 := zm (Kd.R_mono (ok' := fun k_ => some k_ ≠ (.slice Ao25 t547.length co25 : Value).ownBlock ∧ some k_ ≠ (.slice Ao33 t555.length co33 : Value).ownBlock ∧ some k_ ≠ (.slice Ao69 t571.length co69 : Value).ownBlock) (Kd.R_keptB ((Kd.R_apart' HO_567001.out (Kd.R_typed HO_559000.out) (by decide))) hkp (fun k_ hk_ hs_ => Or.elim hs_ (fun e_ => (hk_.2) e_) (fun e_ => (hk_.1.1.2) e_))) (fun k_ hk_ => ⟨hk_.1.1.1.1, hk_.1.1.1.2, hk_.1.1.2⟩)); replace BK536 := zm (blk_kept (zb BK536) hkp (fun hs_ => Or.elim hs_ (fun e_ => (fun e_ => (Kd.R_ne HO_559000.out BK536.out (by decide)) e_) e_) (fun e_ => (fun e_ => (Kd.R_ne HO_559001.out BK536.out (by decide)) e_) e_))); replace BK551 := zm (blk_kept (zb BK551) hkp (fun hs_ => Or.elim hs_ (fun e_ => (fun e_ => (Kd.R_ne HO_559000.out BK551.out (by decide)) e_) e_) (fun e_ => (fun e_ => (Kd.R_ne HO_559001.out BK551.out (by decide)) e_) e_))); replace BK558 := zm (blk_kept (zb BK558) hkp (fun hs_ => Or.elim hs_ (fun e_ => (fun e_ => (Kd.R_ne HO_559000.out BK558.out (by decide)) e_) e_) (fun e_ => (fun e_ => (Kd.R_ne HO_559001.out BK558.out (by decide)) e_) e_))); replace BK566 := zm (blk_kept (zb BK566) hkp (fun hs_ => Or.elim hs_ (fun e_ => (fun e_ => (Kd.R_ne HO_559000.out BK566.out (by decide)) e_) e_) (fun e_ => (fun e_ => (Kd.R_ne HO_559001.out BK566.out (by decide)) e_) e_))); replace HO570 := zm (Kd.R_mono (ok' := fun k_ => some k_ ≠ (.slice Ao22 t544.length co22 : Value).ownBlock ∧ some k_ ≠ (.slice Ao29 t552.length co29 : Value).ownBlock ∧ some k_ ≠ (.slice Ao36 t559.length co36 : Value).ownBlock) (Kd.R_keptB ((Kd.R_apart' HO570.out (Kd.R_typed HO_559001.out) (by decide))) hkp (fun k_ hk_ hs_ => Or.elim hs_ (fun e_ => (hk_.1.1.2) e_) (fun e_ => (hk_.2) e_))) (fun k_ hk_ => ⟨hk_.1.1.1.1.2, hk_.1.1.1.2, hk_.1.1.2⟩)); replace HO_559001 := zm (Kd.R_reok rfl hy1 (fun k_ e_ => HO_559001.out.1 k_ e_)); replace HO573 := zm (Kd.R_mono (ok' := fun k_ => some k_ ≠ (.slice Ao25 t547.length co25 : Value).ownBlock ∧ some k_ ≠ (.slice Ao33 t555.length co33 : Value).ownBlock ∧ some k_ ≠ (.slice Ao41 t562.length co41 : Value).ownBlock) (Kd.R_keptB ((Kd.R_apart' HO573.out (Kd.R_typed HO_559000.out) (by decide))) hkp (fun k_ hk_ hs_ => Or.elim hs_ (fun e_ => (hk_.2) e_) (fun e_ => (hk_.1.1.2) e_))) (fun k_ hk_ => ⟨hk_.1.1.1.1.2, hk_.1.1.1.2, hk_.1.1.2⟩)); replace HO_559000 := zm (Kd.R_reok rfl hy0 (fun k_ e_ => HO_559000.out.1 k_ e_)); replace HB := zm (hb); clear hb hkp hy0; (try clear hy1)))
      (try simp only [Act.put, List.setIfInBounds_toArray, List.set_cons_zero, List.set_cons_succ])
      go_cut [65] (fun v65 wc => ∃ (kq : Nat) (x65_64 : Bool), v65 = .bool x65_64 ∧ Aside0 (laws_FnExactSayGone.j1 kq a1 t550 x65_64 l0_0 l0_1 t544 t547 t559 t562 = some r) ∧ Aside0 (kq ≤ kj11) ∧ Aside0 (Kd.R k68 68 wc w.heap.size (fun k_ => some k_ ≠ ((.slice Ao29 t552.length co29) : Value).ownBlock ∧ some k_ ≠ ((.slice Ao36 t559.length co36) : Value).ownBlock) (.slice Ao22 t544.length co22) t544) ∧ Aside0 (Kd.R k72 72 wc w.heap.size (fun k_ => some k_ ≠ ((.slice Ao33 t555.length co33) : Value).ownBlock ∧ some k_ ≠ ((.slice Ao41 t562.length co41) : Value).ownBlock) (.slice Ao25 t547.length co25) t547) ∧ Aside0 (Kd.R k68 68 wc w.heap.size (fun k_ => some k_ ≠ ((.slice Ao22 t544.length co22) : Value).ownBlock ∧ some k_ ≠ ((.slice Ao36 t559.length co36) : Value).ownBlock) (.slice Ao29 t552.length co29) t576) ∧ Aside0 (Kd.R k72 72 wc w.heap.size (fun k_ => some k_ ≠ ((.slice Ao25 t547.length co25) : Value).ownBlock ∧ some k_ ≠ ((.slice Ao41 t562.length co41) : Value).ownBlock) (.slice Ao33 t555.length co33) t577) ∧ Aside0 (Kd.R k68 68 wc w.heap.size (fun k_ => some k_ ≠ ((.slice Ao22 t544.length co22) : Value).ownBlock ∧ some k_ ≠ ((.slice Ao29 t552.length co29) : Value).ownBlock) (.slice Ao36 t559.length co36) t559) ∧ Aside0 (Kd.R k72 72 wc w.heap.size (fun k_ => some k_ ≠ ((.slice Ao25 t547.length co25) : Value).ownBlock ∧ some k_ ≠ ((.slice Ao33 t555.length co33) : Value).ownBlock) (.slice Ao41 t562.length co41) t562) ∧ Aside0 (wc.heap[gb536]? = some (.cells #[(.slice A0_0 l0_0.length c0_0), (.slice A0_1 l0_1.length c0_1)] 25 (0, 0))) ∧ Aside0 (wc.heap[gb551]? = some (.cells #[(.slice Ao22 t544.length co22), (.slice Ao25 t547.length co25)] 32 (0, 0))) ∧ Aside0 (wc.heap[gb558]? = some (.cells #[(.slice Ao29 t552.length co29), (.slice Ao33 t555.length co33)] 32 (0, 0))) ∧ Aside0 (wc.heap[gb566]? = some (.cells #[(.slice Ao36 t559.length co36), (.slice Ao41 t562.length co41)] 32 (0, 0))) ∧ Aside0 (Below w.heap.size w wc))
      case first =>
       have H := HC65.out
       clear HC65
       by_cases c76 : t575 < 0
       ·rw [if_pos c76] at H
        have c76b0 : decide (t575 < 0) = true := decide_eq_true c76
        clear c76
        (first | rw [c76b0] | (simp only [i64_w, i32_w]; rw [c76b0]) | skip)
        have H' := zm H
        clear H
        go_wp2
        go_meet
        case rel => exact ⟨_, (true), zF, H', ⟨by have := HJ11.out; first | omega | exact Nat.le_refl _⟩, ⟨by (with_reducible repeat (first | apply Kd.R_alloc | apply Kd.R_drewN | apply Kd.R_drew)); exact Kd.R_mono HO_552000.out (fun _ hk => ⟨hk.1, hk.2.1⟩)⟩, ⟨by (with_reducible repeat (first | apply Kd.R_alloc | apply Kd.R_drewN | apply Kd.R_drew)); exact Kd.R_mono HO_552001.out (fun _ hk => ⟨hk.1, hk.2.1⟩)⟩, ⟨by (with_reducible repeat (first | apply Kd.R_alloc | apply Kd.R_drewN | apply Kd.R_drew)); exact Kd.R_mono HO_559000.out (fun _ hk => ⟨hk.1.1, hk.1.2⟩)⟩, ⟨by (with_reducible repeat (first | apply Kd.R_alloc | apply Kd.R_drewN | apply Kd.R_drew)); exact Kd.R_mono HO_559001.out (fun _ hk => ⟨hk.1.1, hk.1.2⟩)⟩, ⟨by (with_reducible repeat (first | apply Kd.R_alloc | apply Kd.R_drewN | apply Kd.R_drew)); exact Kd.R_mono HO_567000.out (fun _ hk => ⟨hk.1, hk.2.1⟩)⟩, ⟨by (with_reducible repeat (first | apply Kd.R_alloc | apply Kd.R_drewN | apply Kd.R_drew)); exact Kd.R_mono HO_567001.out (fun _ hk => ⟨hk.1, hk.2.1⟩)⟩, ⟨zb BK536⟩, ⟨zb BK551⟩, ⟨zb BK558⟩, ⟨zb BK566⟩, ⟨zB⟩⟩
       ·rw [if_neg c76] at H
        have c76b0 : decide (t575 < 0) = false := decide_eq_false c76
        clear c76
        (first | rw [c76b0] | (simp only [i64_w, i32_w]; rw [c76b0]) | skip)
        replace H := Option.bind_eq_some_iff.mp H
        obtain ⟨t578, A770, H⟩ := H
        replace H : (if t578 = true then (laws_FnExactSayGone.j1 kj11 a1 t550 (t565 != t550) l0_0 l0_1 t544 t547 t559 t562) else (laws_FnExactSayGone.j1 kj11 a1 t550 true l0_0 l0_1 t544 t547 t559 t562)) = some r := H
        have A77 := zm A770
        clear A770
        by_cases c78 : t578 = true
        ·subst c78
         have H1 : (laws_FnExactSayGone.j1 kj11 a1 t550 (t565 != t550) l0_0 l0_1 t544 t547 t559 t562) = some r := by rw [if_pos rfl] at H; exact H
         clear H
         have H := H1
         clear H1
         have H' := zm H
         clear H
         have hnb79 := NB566_536.out
         have hnc79 := NB536_566.out
         have hnb80 := NB566_551.out
         have hnc80 := NB551_566.out
         have hnb81 := NB566_558.out
         have hnc81 := NB558_566.out
         have hcz82_0 : w75.cell? ⟨gb566, 0, none⟩ = some (.slice Ao36 t559.length co36) := (blk_cell BK566.out 0).trans rfl
         have hcz82_1 : w75.cell? ⟨gb566, 1, none⟩ = some (.slice Ao41 t562.length co41) := (blk_cell BK566.out 1).trans rfl
         have hfz82_0 := blk_frozen BK566.out 0
         have hfz82_1 := blk_frozen BK566.out 1
         have hnb83 := NB551_536.out
         have hnc83 := NB536_551.out
         have hnb84 := NB551_558.out
         have hnc84 := NB558_551.out
         have hcz85_0 : w75.cell? ⟨gb551, 0, none⟩ = some (.slice Ao22 t544.length co22) := (blk_cell BK551.out 0).trans rfl
         have hcz85_1 : w75.cell? ⟨gb551, 1, none⟩ = some (.slice Ao25 t547.length co25) := (blk_cell BK551.out 1).trans rfl
         have hfz85_0 := blk_frozen BK551.out 0
         have hfz85_1 := blk_frozen BK551.out 1
         go_wp2_with (first | (go_at_call 18; (with_reducible refine (laws_eqState.calls kj11 _ _ t559 _ _ t562 _ _ t544 _ _ t547 true _ ?side1 ?side2 ?side3 ?side4 ?side5 ?side6 ?side7 ?side8 A77.out).mono ?_); (case side1 => repeat (first | exact (Kd.R_reads' HO_567000.out).2.2 | (with_reducible refine Kd.C_alloc ?_ _) | (with_reducible refine Kd.C_drewN ?_ _) | (with_reducible refine Kd.C_drew ?_))); (case side2 => exact (Kd.R_reads' HO_567000.out).2.1); (case side3 => repeat (first | exact (Kd.R_reads' HO_567001.out).2.2 | (with_reducible refine Kd.C_alloc ?_ _) | (with_reducible refine Kd.C_drewN ?_ _) | (with_reducible refine Kd.C_drew ?_))); (case side4 => exact (Kd.R_reads' HO_567001.out).2.1); (case side5 => repeat (first | exact (Kd.R_reads' HO_552000.out).2.2 | (with_reducible refine Kd.C_alloc ?_ _) | (with_reducible refine Kd.C_drewN ?_ _) | (with_reducible refine Kd.C_drew ?_))); (case side6 => exact (Kd.R_reads' HO_552000.out).2.1); (case side7 => repeat (first | exact (Kd.R_reads' HO_552001.out).2.2 | (with_reducible refine Kd.C_alloc ?_ _) | (with_reducible refine Kd.C_drewN ?_ _) | (with_reducible refine Kd.C_drew ?_))); (case side8 => exact (Kd.R_reads' HO_552001.out).2.1); rintro e w86 ⟨rfl, hb⟩; replace HO_552000 := zm (Kd.R_below (zr HO_552000) hb); replace HO_552001 := zm (Kd.R_below (zr HO_552001) hb); replace HO_559000 := zm (Kd.R_below (zr HO_559000) hb); replace HO_559001 := zm (Kd.R_below (zr HO_559001) hb); replace HO_567000 := zm (Kd.R_below (zr HO_567000) hb); replace HO_567001 := zm (Kd.R_below (zr HO_567001) hb); replace HO570 := zm (Kd.R_below (zr HO570) hb); replace HO573 := zm (Kd.R_below (zr HO573) hb); replace BK536 := zm (blk_below (zb BK536) hb); replace BK551 := zm (blk_below (zb BK551) hb); replace BK558 := zm (blk_below (zb BK558) hb); replace BK566 := zm (blk_below (zb BK566) hb); replace HB := zm (below_step zB hb); clear hb))
         go_meet
         case rel => exact ⟨_, ((t565 != t550)), zF, H', ⟨by have := HJ11.out; first | omega | exact Nat.le_refl _⟩, ⟨by (with_reducible repeat (first | apply Kd.R_alloc | apply Kd.R_drewN | apply Kd.R_drew)); exact Kd.R_mono HO_552000.out (fun _ hk => ⟨hk.1, hk.2.1⟩)⟩, ⟨by (with_reducible repeat (first | apply Kd.R_alloc | apply Kd.R_drewN | apply Kd.R_drew)); exact Kd.R_mono HO_552001.out (fun _ hk => ⟨hk.1, hk.2.1⟩)⟩, ⟨by (with_reducible repeat (first | apply Kd.R_alloc | apply Kd.R_drewN | apply Kd.R_drew)); exact Kd.R_mono HO_559000.out (fun _ hk => ⟨hk.1.1, hk.1.2⟩)⟩, ⟨by (with_reducible repeat (first | apply Kd.R_alloc | apply Kd.R_drewN | apply Kd.R_drew)); exact Kd.R_mono HO_559001.out (fun _ hk => ⟨hk.1.1, hk.1.2⟩)⟩, ⟨by (with_reducible repeat (first | apply Kd.R_alloc | apply Kd.R_drewN | apply Kd.R_drew)); exact Kd.R_mono HO_567000.out (fun _ hk => ⟨hk.1, hk.2.1⟩)⟩, ⟨by (with_reducible repeat (first | apply Kd.R_alloc | apply Kd.R_drewN | apply Kd.R_drew)); exact Kd.R_mono HO_567001.out (fun _ hk => ⟨hk.1, hk.2.1⟩)⟩, ⟨zb BK536⟩, ⟨zb BK551⟩, ⟨zb BK558⟩, ⟨zb BK566⟩, ⟨zB⟩⟩
        ·replace c78 := Bool.eq_false_iff.mpr c78
         subst c78
         have H1 : (laws_FnExactSayGone.j1 kj11 a1 t550 true l0_0 l0_1 t544 t547 t559 t562) = some r := by rw [if_neg (show ¬ (false = true) by decide)] at H; exact H
         clear H
         have H := H1
         clear H1
         have H' := zm H
         clear H
         have hnb87 := NB566_536.out
         have hnc87 := NB536_566.out
         have hnb88 := NB566_551.out
         have hnc88 := NB551_566.out
         have hnb89 := NB566_558.out
         have hnc89 := NB558_566.out
         have hcz90_0 : w75.cell? ⟨gb566, 0, none⟩ = some (.slice Ao36 t559.length co36) := (blk_cell BK566.out 0).trans rfl
         have hcz90_1 : w75.cell? ⟨gb566, 1, none⟩ = some (.slice Ao41 t562.length co41) := (blk_cell BK566.out 1).trans rfl
         have hfz90_0 := blk_frozen BK566.out 0
         have hfz90_1 := blk_frozen BK566.out 1
         have hnb91 := NB551_536.out
         have hnc91 := NB536_551.out
         have hnb92 := NB551_558.out
         have hnc92 := NB558_551.out
         have hcz93_0 : w75.cell? ⟨gb551, 0, none⟩ = some (.slice Ao22 t544.length co22) := (blk_cell BK551.out 0).trans rfl
         have hcz93_1 : w75.cell? ⟨gb551, 1, none⟩ = some (.slice Ao25 t547.length co25) := (blk_cell BK551.out 1).trans rfl
         have hfz93_0 := blk_frozen BK551.out 0
         have hfz93_1 := blk_frozen BK551.out 1
         go_wp2_with (first | (go_at_call 18; (with_reducible refine (laws_eqState.calls kj11 _ _ t559 _ _ t562 _ _ t544 _ _ t547 false _ ?side1 ?side2 ?side3 ?side4 ?side5 ?side6 ?side7 ?side8 A77.out).mono ?_); (case side1 => repeat (first | exact (Kd.R_reads' HO_567000.out).2.2 | (with_reducible refine Kd.C_alloc ?_ _) | (with_reducible refine Kd.C_drewN ?_ _) | (with_reducible refine Kd.C_drew ?_))); (case side2 => exact (Kd.R_reads' HO_567000.out).2.1); (case side3 => repeat (first | exact (Kd.R_reads' HO_567001.out).2.2 | (with_reducible refine Kd.C_alloc ?_ _) | (with_reducible refine Kd.C_drewN ?_ _) | (with_reducible refine Kd.C_drew ?_))); (case side4 => exact (Kd.R_reads' HO_567001.out).2.1); (case side5 => repeat (first | exact (Kd.R_reads' HO_552000.out).2.2 | (with_reducible refine Kd.C_alloc ?_ _) | (with_reducible refine Kd.C_drewN ?_ _) | (with_reducible refine Kd.C_drew ?_))); (case side6 => exact (Kd.R_reads' HO_552000.out).2.1); (case side7 => repeat (first | exact (Kd.R_reads' HO_552001.out).2.2 | (with_reducible refine Kd.C_alloc ?_ _) | (with_reducible refine Kd.C_drewN ?_ _) | (with_reducible refine Kd.C_drew ?_))); (case side8 => exact (Kd.R_reads' HO_552001.out).2.1); rintro e w94 ⟨rfl, hb⟩; replace HO_552000 := zm (Kd.R_below (zr HO_552000) hb); replace HO_552001 := zm (Kd.R_below (zr HO_552001) hb); replace HO_559000 := zm (Kd.R_below (zr HO_559000) hb); replace HO_559001 := zm (Kd.R_below (zr HO_559001) hb); replace HO_567000 := zm (Kd.R_below (zr HO_567000) hb); replace HO_567001 := zm (Kd.R_below (zr HO_567001) hb); replace HO570 := zm (Kd.R_below (zr HO570) hb); replace HO573 := zm (Kd.R_below (zr HO573) hb); replace BK536 := zm (blk_below (zb BK536) hb); replace BK551 := zm (blk_below (zb BK551) hb); replace BK558 := zm (blk_below (zb BK558) hb); replace BK566 := zm (blk_below (zb BK566) hb); replace HB := zm (below_step zB hb); clear hb))
         go_meet
         case rel => exact ⟨_, (true), zF, H', ⟨by have := HJ11.out; first | omega | exact Nat.le_refl _⟩, ⟨by (with_reducible repeat (first | apply Kd.R_alloc | apply Kd.R_drewN | apply Kd.R_drew)); exact Kd.R_mono HO_552000.out (fun _ hk => ⟨hk.1, hk.2.1⟩)⟩, ⟨by (with_reducible repeat (first | apply Kd.R_alloc | apply Kd.R_drewN | apply Kd.R_drew)); exact Kd.R_mono HO_552001.out (fun _ hk => ⟨hk.1, hk.2.1⟩)⟩, ⟨by (with_reducible repeat (first | apply Kd.R_alloc | apply Kd.R_drewN | apply Kd.R_drew)); exact Kd.R_mono HO_559000.out (fun _ hk => ⟨hk.1.1, hk.1.2⟩)⟩, ⟨by (with_reducible repeat (first | apply Kd.R_alloc | apply Kd.R_drewN | apply Kd.R_drew)); exact Kd.R_mono HO_559001.out (fun _ hk => ⟨hk.1.1, hk.1.2⟩)⟩, ⟨by (with_reducible repeat (first | apply Kd.R_alloc | apply Kd.R_drewN | apply Kd.R_drew)); exact Kd.R_mono HO_567000.out (fun _ hk => ⟨hk.1, hk.2.1⟩)⟩, ⟨by (with_reducible repeat (first | apply Kd.R_alloc | apply Kd.R_drewN | apply Kd.R_drew)); exact Kd.R_mono HO_567001.out (fun _ hk => ⟨hk.1, hk.2.1⟩)⟩, ⟨zb BK536⟩, ⟨zb BK551⟩, ⟨zb BK558⟩, ⟨zb BK566⟩, ⟨zB⟩⟩
      case rest =>
       clear HC65
       try clear c1
       try clear c2
       try clear p2
       try clear c3
       try clear c4
       try clear c4b0
       try clear c5
       try clear c6
       try clear c7
       try clear c8
       try clear c9
       try clear c13
       try clear c15
       try clear c18
       try clear c19
       try clear c23
       try clear c24
       try clear c25
       try clear c30
       try clear c31
       try clear c37
       try clear c38
       try clear c39
       try clear c43
       try clear c44
       try clear c45
       try clear c46
       try clear c48
       try clear c49
       try clear c52
       try clear c53
       try clear c54
       try clear c56
       try clear c57
       try clear c60
       try clear c63
       try clear c71
       try clear c72
       try clear c73
       try clear c76
       try clear c76b0
       try clear c78
       try clear c79
       try clear c80
       try clear c81
       try clear c83
       try clear c84
       try clear c87
       try clear c88
       try clear c89
       try clear c91
       try clear c92
       try clear hcz14_0
       try clear hcz14_1
       try clear hcz16_0
       try clear hcz16_1
       try clear hcz24_0
       try clear hcz24_1
       try clear hcz26_0
       try clear hcz26_1
       try clear hcz32_0
       try clear hcz32_1
       try clear hcz40_0
       try clear hcz40_1
       try clear hcz47_0
       try clear hcz47_1
       try clear hcz50_0
       try clear hcz50_1
       try clear hcz55_0
       try clear hcz55_1
       try clear hcz58_0
       try clear hcz58_1
       try clear hcz6_0
       try clear hcz6_1
       try clear hcz74_0
       try clear hcz74_1
       try clear hcz82_0
       try clear hcz82_1
       try clear hcz85_0
       try clear hcz85_1
       try clear hcz90_0
       try clear hcz90_1
       try clear hcz93_0
       try clear hcz93_1
       try clear hfz14_0
       try clear hfz14_1
       try clear hfz16_0
       try clear hfz16_1
       try clear hfz24_0
       try clear hfz24_1
       try clear hfz26_0
       try clear hfz26_1
       try clear hfz32_0
       try clear hfz32_1
       try clear hfz40_0
       try clear hfz40_1
       try clear hfz47_0
       try clear hfz47_1
       try clear hfz50_0
       try clear hfz50_1
       try clear hfz55_0
       try clear hfz55_1
       try clear hfz58_0
       try clear hfz58_1
       try clear hfz6_0
       try clear hfz6_1
       try clear hfz74_0
       try clear hfz74_1
       try clear hfz82_0
       try clear hfz82_1
       try clear hfz85_0
       try clear hfz85_1
       try clear hfz90_0
       try clear hfz90_1
       try clear hfz93_0
       try clear hfz93_1
       try clear p2
       obtain ⟨kq, x65_64, rfl, HA, HJ64, HO_552000, HO_552001, HO_559000, HO_559001, HO_567000, HO_567001, BK536, BK551, BK558, BK566, HB⟩ := hcut
       have hl559000_64 := (Kd.R_reads' HO_559000.out).1
       rw [hl559000_64] at HO_559000
       (try simp only [hl559000_64])
       (try simp only [hl559000_64] at BK536)
       (try simp only [hl559000_64] at BK551)
       (try simp only [hl559000_64] at BK558)
       (try simp only [hl559000_64] at BK566)
       (try simp only [hl559000_64] at HO_552000)
       (try simp only [hl559000_64] at HO_552001)
       (try simp only [hl559000_64] at HO_559001)
       (try simp only [hl559000_64] at HO_567000)
       (try simp only [hl559000_64] at HO_567001)
       have hl559001_64 := (Kd.R_reads' HO_559001.out).1
       rw [hl559001_64] at HO_559001
       (try simp only [hl559001_64])
       (try simp only [hl559001_64] at BK536)
       (try simp only [hl559001_64] at BK551)
       (try simp only [hl559001_64] at BK558)
       (try simp only [hl559001_64] at BK566)
       (try simp only [hl559001_64] at HO_552000)
       (try simp only [hl559001_64] at HO_552001)
       (try simp only [hl559001_64] at HO_559000)
       (try simp only [hl559001_64] at HO_567000)
       (try simp only [hl559001_64] at HO_567001)
       cases kq with
       | zero => exact absurd HA.out (by simp [laws_FnExactSayGone.j1])
       | succ kj64 =>
        have H := HA.out
        clear HA
        simp only [laws_FnExactSayGone.j1] at H
        by_cases c95 : x65_64 = true
        ·subst c95
         have H1 : (some false) = some r := by rw [if_pos rfl] at H; exact H
         clear H
         have H := H1
         clear H1
         obtain rfl := Option.some.inj H
         go_wp2
         go_ret
         exact ⟨zE, zB⟩
        ·replace c95 := Bool.eq_false_iff.mpr c95
         subst c95
         have H1 : ((laws_markState.f kj64 t559 t562 1).bind fun bt579 => ((laws_heldState.f kj64 bt579.2.1 bt579.2.2 1).bind fun t582 => (if t582 < 0 then (some false) else (if t582 = bt579.1 then ((laws_toState.f kj64 l0_0 l0_1).bind fun bt583 => ((impl_SayGone.f kj64 bt583.1 bt583.2 a1).bind fun bt589 => ((laws_eqState.f kj64 bt589.1 bt589.2.1 t544 t547).bind fun t597 => (if t597 = true then (laws_FnExactSayGone.j2 kj64 bt579.1 (bt589.2.2 != t550) bt579.2.1 bt579.2.2) else (laws_FnExactSayGone.j2 kj64 bt579.1 true bt579.2.1 bt579.2.2))))) else (some false))))) = some r := by rw [if_neg (show ¬ (false = true) by decide)] at H; exact H
         clear H
         have H := H1
         clear H1
         replace H := Option.bind_eq_some_iff.mp H
         obtain ⟨⟨t579, t580, t581⟩, A960, H⟩ := H
         replace H : ((laws_heldState.f kj64 t580 t581 1).bind fun t582 => (if t582 < 0 then (some false) else (if t582 = t579 then ((laws_toState.f kj64 l0_0 l0_1).bind fun bt583 => ((impl_SayGone.f kj64 bt583.1 bt583.2 a1).bind fun bt589 => ((laws_eqState.f kj64 bt589.1 bt589.2.1 t544 t547).bind fun t597 => (if t597 = true then (laws_FnExactSayGone.j2 kj64 t579 (bt589.2.2 != t550) t580 t581) else (laws_FnExactSayGone.j2 kj64 t579 true t580 t581))))) else (some false)))) = some r := H
         have A96 := zm A960
         clear A960
         replace H := Option.bind_eq_some_iff.mp H
         obtain ⟨t582, A970, H⟩ := H
         replace H : (if t582 < 0 then (some false) else (if t582 = t579 then ((laws_toState.f kj64 l0_0 l0_1).bind fun bt583 => ((impl_SayGone.f kj64 bt583.1 bt583.2 a1).bind fun bt589 => ((laws_eqState.f kj64 bt589.1 bt589.2.1 t544 t547).bind fun t597 => (if t597 = true then (laws_FnExactSayGone.j2 kj64 t579 (bt589.2.2 != t550) t580 t581) else (laws_FnExactSayGone.j2 kj64 t579 true t580 t581))))) else (some false))) = some r := H
         have A97 := zm A970
         clear A970
         by_cases c98 : t582 < 0
         ·rw [if_pos c98] at H
          have c98b0 : decide (t582 < 0) = true := decide_eq_true c98
          clear c98
          obtain rfl := Option.some.inj H
          have hnb99 := NB566_536.out
          have hnc99 := NB536_566.out
          have hnb100 := NB566_551.out
          have hnc100 := NB551_566.out
          have hnb101 := NB566_558.out
          have hnc101 := NB558_566.out
          have hcz102_0 : wc.cell? ⟨gb566, 0, none⟩ = some (.slice Ao36 t559.length co36) := (blk_cell BK566.out 0).trans rfl
          have hcz102_1 : wc.cell? ⟨gb566, 1, none⟩ = some (.slice Ao41 t562.length co41) := (blk_cell BK566.out 1).trans rfl
          have hfz102_0 := blk_frozen BK566.out 0
          have hfz102_1 := blk_frozen BK566.out 1
          go_wp2_with (first | ((with_reducible refine gate_callee (f := 19) rfl ?_); refine zg (some 68) #[.agg #[.slice Ao36 t559.length co36, .slice Ao41 t562.length co41], .int .i64 1] Try.func19 ?_; (with_reducible refine (laws_markState.calls kj64 (fun k_ => some k_ = (.slice Ao36 t559.length co36 : Value).ownBlock) (.slice Ao36 t559.length co36) t559 (fun k_ => some k_ = (.slice Ao41 t562.length co41 : Value).ownBlock) (.slice Ao41 t562.length co41) t562 1 t579 t580 t581 w _ zB ?side2 ?side3 A96.out).mono ?_); (case side2 => exact Kd.R_tight rfl HO_567000.out); (case side3 => exact Kd.R_tight rfl HO_567001.out); rintro e w103 ⟨rfl, hy0, hy1, hb, hkp⟩; refine ⟨_, rfl, ?_⟩; replace HO_552000 := zm (Kd.R_mono (ok' := fun k_ => some k_ ≠ (.slice Ao29 t576.length co29 : Value).ownBlock ∧ some k_ ≠ (.slice Ao36 t559.length co36 : Value).ownBlock) (Kd.R_keptB ((Kd.R_apart' HO_552000.out (Kd.R_typed HO_567001.out) (by decide))) hkp (fun k_ hk_ hs_ => Or.elim hs_ (fun e_ => (hk_.1.2) e_) (fun e_ => (hk_.2) e_))) (fun k_ hk_ => ⟨hk_.1.1.1, hk_.1.1.2⟩)); replace HO_552001 := zm (Kd.R_mono (ok' := fun k_ => some k_ ≠ (.slice Ao33 t577.length co33 : Value).ownBlock ∧ some k_ ≠ (.slice Ao41 t562.length co41 : Value).ownBlock) (Kd.R_keptB ((Kd.R_apart' HO_552001.out (Kd.R_typed HO_567000.out) (by decide))) hkp (fun k_ hk_ hs_ => Or.elim hs_ (fun e_ => (hk_.2) e_) (fun e_ => (hk_.1.2) e_))) (fun k_ hk_ => ⟨hk_.1.1.1, hk_.1.1.2⟩)); replace HO_559000 := zm (Kd.R_mono (ok' := fun k_ => some k_ ≠ (.slice Ao22 t544.length co22 : Value).ownBlock ∧ some k_ ≠ (.slice Ao36 t559.length co36 : Value).ownBlock) (Kd.R_keptB ((Kd.R_apart' HO_559000.out (Kd.R_typed HO_567001.out) (by decide))) hkp (fun k_ hk_ hs_ => Or.elim hs_ (fun e_ => (hk_.1.2) e_) (fun e_ => (hk_.2) e_))) (fun k_ hk_ => ⟨hk_.1.1.1, hk_.1.1.2⟩)); replace HO_559001 := zm (Kd.R_mono (ok' := fun k_ => some k_ ≠ (.slice Ao25 t547.length co25 : Value).ownBlock ∧ some k_ ≠ (.slice Ao41 t562.length co41 : Value).ownBlock) (Kd.R_keptB ((Kd.R_apart' HO_559001.out (Kd.R_typed HO_567000.out) (by decide))) hkp (fun k_ hk_ hs_ => Or.elim hs_ (fun e_ => (hk_.2) e_) (fun e_ => (hk_.1.2) e_))) (fun k_ hk_ => ⟨hk_.1.1.1, hk_.1.1.2⟩)); replace BK536 := zm (blk_kept (zb BK536) hkp (fun hs_ => Or.elim hs_ (fun e_ => (fun e_ => (Kd.R_ne HO_567000.out BK536.out (by decide)) e_) e_) (fun e_ => (fun e_ => (Kd.R_ne HO_567001.out BK536.out (by decide)) e_) e_))); replace BK551 := zm (blk_kept (zb BK551) hkp (fun hs_ => Or.elim hs_ (fun e_ => (fun e_ => (Kd.R_ne HO_567000.out BK551.out (by decide)) e_) e_) (fun e_ => (fun e_ => (Kd.R_ne HO_567001.out BK551.out (by decide)) e_) e_))); replace BK558 := zm (blk_kept (zb BK558) hkp (fun hs_ => Or.elim hs_ (fun e_ => (fun e_ => (Kd.R_ne HO_567000.out BK558.out (by decide)) e_) e_) (fun e_ => (fun e_ => (Kd.R_ne HO_567001.out BK558.out (by decide)) e_) e_))); replace BK566 := zm (blk_kept (zb BK566) hkp (fun hs_ => Or.elim hs_ (fun e_ => (fun e_ => (Kd.R_ne HO_567000.out BK566.out (by decide)) e_) e_) (fun e_ => (fun e_ => (Kd.R_ne HO_567001.out BK566.out (by decide)) e_) e_))); replace HO_567000 := zm (Kd.R_reok rfl hy0 (fun k_ e_ => HO_567000.out.1 k_ e_)); replace HO_567001 := zm (Kd.R_reok rfl hy1 (fun k_ e_ => HO_567001.out.1 k_ e_)); replace HB := zm (hb); clear hb hkp hy0; (try clear hy1); have hcz104_0 : w103.cell? ⟨gb566, 0, none⟩ = some (.slice Ao36 t559.length co36) := (blk_cell BK566.out 0).trans rfl; have hcz104_1 : w103.cell? ⟨gb566, 1, none⟩ = some (.slice Ao41 t562.length co41) := (blk_cell BK566.out 1).trans rfl; have hfz104_0 := blk_frozen BK566.out 0; have hfz104_1 := blk_frozen BK566.out 1) | ((with_reducible refine gate_callee (f := 26) rfl ?_); refine goesL_ (some 71) rfl rfl Try.func26 (by kernel_rfl) rfl #[.agg #[.slice Ao36 t580.length co36, .slice Ao41 t581.length co41], .int .i64 1] rfl (by (try simp only [List.map_toArray, List.map_cons, List.map_nil]); first | done | (rw [show t580.length = t559.length from (Kd.R_reads' HO_567000.out).1.symm, show t581.length = t562.length from (Kd.R_reads' HO_567001.out).1.symm] <;> rfl) | rfl | (simp only [List.length_drop, List.length_take]; rfl)) ?_; (with_reducible refine (laws_heldState.calls kj64 _ _ t580 _ _ t581 1 t582 _ ?side1 ?side2 ?side3 ?side4 A97.out).mono ?_); (case side1 => repeat (first | exact (Kd.R_reads' HO_567000.out).2.2 | (with_reducible refine Kd.C_alloc ?_ _) | (with_reducible refine Kd.C_drewN ?_ _) | (with_reducible refine Kd.C_drew ?_))); (case side2 => rw [show t580.length = t559.length from (Kd.R_reads' HO_567000.out).1.symm]; exact (Kd.R_reads' HO_567000.out).2.1); (case side3 => repeat (first | exact (Kd.R_reads' HO_567001.out).2.2 | (with_reducible refine Kd.C_alloc ?_ _) | (with_reducible refine Kd.C_drewN ?_ _) | (with_reducible refine Kd.C_drew ?_))); (case side4 => rw [show t581.length = t562.length from (Kd.R_reads' HO_567001.out).1.symm]; exact (Kd.R_reads' HO_567001.out).2.1); rintro e w105 ⟨rfl, hb⟩; refine ⟨_, rfl, ?_⟩; replace HO_552000 := zm (Kd.R_below (zr HO_552000) hb); replace HO_552001 := zm (Kd.R_below (zr HO_552001) hb); replace HO_559000 := zm (Kd.R_below (zr HO_559000) hb); replace HO_559001 := zm (Kd.R_below (zr HO_559001) hb); replace HO_567000 := zm (Kd.R_below (zr HO_567000) hb); replace HO_567001 := zm (Kd.R_below (zr HO_567001) hb); replace BK536 := zm (blk_below (zb BK536) hb); replace BK551 := zm (blk_below (zb BK551) hb); replace BK558 := zm (blk_below (zb BK558) hb); replace BK566 := zm (blk_below (zb BK566) hb); replace HB := zm (below_step zB hb); clear hb))
          go_ret
          exact ⟨zE, zB⟩
         ·rw [if_neg c98] at H
          have c98b0 : decide (t582 < 0) = false := decide_eq_false c98
          clear c98
          by_cases c106 : t582 = t579
          ·rw [if_pos c106] at H
           have c106b0 : (t582 == t579) = true := beq_iff_eq.mpr c106
           have c106b1 : (t582 != t579) = false := bne_eq_false_iff_eq.mpr c106
           clear c106
           replace H := Option.bind_eq_some_iff.mp H
           obtain ⟨⟨t583, t586⟩, A1070, H⟩ := H
           replace H : ((impl_SayGone.f kj64 t583 t586 a1).bind fun bt589 => ((laws_eqState.f kj64 bt589.1 bt589.2.1 t544 t547).bind fun t597 => (if t597 = true then (laws_FnExactSayGone.j2 kj64 t579 (bt589.2.2 != t550) t580 t581) else (laws_FnExactSayGone.j2 kj64 t579 true t580 t581)))) = some r := H
           have A107 := zm A1070
           clear A1070
           replace H := Option.bind_eq_some_iff.mp H
           obtain ⟨⟨t589, t592, t595⟩, A1080, H⟩ := H
           replace H : ((laws_eqState.f kj64 t589 t592 t544 t547).bind fun t597 => (if t597 = true then (laws_FnExactSayGone.j2 kj64 t579 (t595 != t550) t580 t581) else (laws_FnExactSayGone.j2 kj64 t579 true t580 t581))) = some r := H
           have A108 := zm A1080
           clear A1080
           have HC109 := zm H
           clear H
           have hnb110 := NB566_536.out
           have hnc110 := NB536_566.out
           have hnb111 := NB566_551.out
           have hnc111 := NB551_566.out
           have hnb112 := NB566_558.out
           have hnc112 := NB558_566.out
           have hcz113_0 : wc.cell? ⟨gb566, 0, none⟩ = some (.slice Ao36 t559.length co36) := (blk_cell BK566.out 0).trans rfl
           have hcz113_1 : wc.cell? ⟨gb566, 1, none⟩ = some (.slice Ao41 t562.length co41) := (blk_cell BK566.out 1).trans rfl
           have hfz113_0 := blk_frozen BK566.out 0
           have hfz113_1 := blk_frozen BK566.out 1
           go_upto_region 25 with (first | ((with_reducible refine gate_callee (f := 19) rfl ?_); refine zg (some 68) #[.agg #[.slice Ao36 t559.length co36, .slice Ao41 t562.length co41], .int .i64 1] Try.func19 ?_; (with_reducible refine (laws_markState.calls kj64 (fun k_ => some k_ = (.slice Ao36 t559.length co36 : Value).ownBlock) (.slice Ao36 t559.length co36) t559 (fun k_ => some k_ = (.slice Ao41 t562.length co41 : Value).ownBlock) (.slice Ao41 t562.length co41) t562 1 t579 t580 t581 w _ zB ?side2 ?side3 A96.out).mono ?_); (case side2 => exact Kd.R_tight rfl HO_567000.out); (case side3 => exact Kd.R_tight rfl HO_567001.out); rintro e w114 ⟨rfl, hy0, hy1, hb, hkp⟩; refine ⟨_, rfl, ?_⟩; replace HO_552000 := zm (Kd.R_mono (ok' := fun k_ => some k_ ≠ (.slice Ao29 t576.length co29 : Value).ownBlock ∧ some k_ ≠ (.slice Ao36 t559.length co36 : Value).ownBlock) (Kd.R_keptB ((Kd.R_apart' HO_552000.out (Kd.R_typed HO_567001.out) (by decide))) hkp (fun k_ hk_ hs_ => Or.elim hs_ (fun e_ => (hk_.1.2) e_) (fun e_ => (hk_.2) e_))) (fun k_ hk_ => ⟨hk_.1.1.1, hk_.1.1.2⟩)); replace HO_552001 := zm (Kd.R_mono (ok' := fun k_ => some k_ ≠ (.slice Ao33 t577.length co33 : Value).ownBlock ∧ some k_ ≠ (.slice Ao41 t562.length co41 : Value).ownBlock) (Kd.R_keptB ((Kd.R_apart' HO_552001.out (Kd.R_typed HO_567000.out) (by decide))) hkp (fun k_ hk_ hs_ => Or.elim hs_ (fun e_ => (hk_.2) e_) (fun e_ => (hk_.1.2) e_))) (fun k_ hk_ => ⟨hk_.1.1.1, hk_.1.1.2⟩)); replace HO_559000 := zm (Kd.R_mono (ok' := fun k_ => some k_ ≠ (.slice Ao22 t544.length co22 : Value).ownBlock ∧ some k_ ≠ (.slice Ao36 t559.length co36 : Value).ownBlock) (Kd.R_keptB ((Kd.R_apart' HO_559000.out (Kd.R_typed HO_567001.out) (by decide))) hkp (fun k_ hk_ hs_ => Or.elim hs_ (fun e_ => (hk_.1.2) e_) (fun e_ => (hk_.2) e_))) (fun k_ hk_ => ⟨hk_.1.1.1, hk_.1.1.2⟩)); replace HO_559001 := zm (Kd.R_mono (ok' := fun k_ => some k_ ≠ (.slice Ao25 t547.length co25 : Value).ownBlock ∧ some k_ ≠ (.slice Ao41 t562.length co41 : Value).ownBlock) (Kd.R_keptB ((Kd.R_apart' HO_559001.out (Kd.R_typed HO_567000.out) (by decide))) hkp (fun k_ hk_ hs_ => Or.elim hs_ (fun e_ => (hk_.2) e_) (fun e_ => (hk_.1.2) e_))) (fun k_ hk_ => ⟨hk_.1.1.1, hk_.1.1.2⟩)); replace BK536 := zm (blk_kept (zb BK536) hkp (fun hs_ => Or.elim hs_ (fun e_ => (fun e_ => (Kd.R_ne HO_567000.out BK536.out (by decide)) e_) e_) (fun e_ => (fun e_ => (Kd.R_ne HO_567001.out BK536.out (by decide)) e_) e_))); replace BK551 := zm (blk_kept (zb BK551) hkp (fun hs_ => Or.elim hs_ (fun e_ => (fun e_ => (Kd.R_ne HO_567000.out BK551.out (by decide)) e_) e_) (fun e_ => (fun e_ => (Kd.R_ne HO_567001.out BK551.out (by decide)) e_) e_))); replace BK558 := zm (blk_kept (zb BK558) hkp (fun hs_ => Or.elim hs_ (fun e_ => (fun e_ => (Kd.R_ne HO_567000.out BK558.out (by decide)) e_) e_) (fun e_ => (fun e_ => (Kd.R_ne HO_567001.out BK558.out (by decide)) e_) e_))); replace BK566 := zm (blk_kept (zb BK566) hkp (fun hs_ => Or.elim hs_ (fun e_ => (fun e_ => (Kd.R_ne HO_567000.out BK566.out (by decide)) e_) e_) (fun e_ => (fun e_ => (Kd.R_ne HO_567001.out BK566.out (by decide)) e_) e_))); replace HO_567000 := zm (Kd.R_reok rfl hy0 (fun k_ e_ => HO_567000.out.1 k_ e_)); replace HO_567001 := zm (Kd.R_reok rfl hy1 (fun k_ e_ => HO_567001.out.1 k_ e_)); replace HB := zm (hb); clear hb hkp hy0; (try clear hy1); have hcz115_0 : w114.cell? ⟨gb566, 0, none⟩ = some (.slice Ao36 t559.length co36) := (blk_cell BK566.out 0).trans rfl; have hcz115_1 : w114.cell? ⟨gb566, 1, none⟩ = some (.slice Ao41 t562.length co41) := (blk_cell BK566.out 1).trans rfl; have hfz115_0 := blk_frozen BK566.out 0; have hfz115_1 := blk_frozen BK566.out 1) | ((with_reducible refine gate_callee (f := 26) rfl ?_); refine goesL_ (some 71) rfl rfl Try.func26 (by kernel_rfl) rfl #[.agg #[.slice Ao36 t580.length co36, .slice Ao41 t581.length co41], .int .i64 1] rfl (by (try simp only [List.map_toArray, List.map_cons, List.map_nil]); first | done | (rw [show t580.length = t559.length from (Kd.R_reads' HO_567000.out).1.symm, show t581.length = t562.length from (Kd.R_reads' HO_567001.out).1.symm] <;> rfl) | rfl | (simp only [List.length_drop, List.length_take]; rfl)) ?_; (with_reducible refine (laws_heldState.calls kj64 _ _ t580 _ _ t581 1 t582 _ ?side1 ?side2 ?side3 ?side4 A97.out).mono ?_); (case side1 => repeat (first | exact (Kd.R_reads' HO_567000.out).2.2 | (with_reducible refine Kd.C_alloc ?_ _) | (with_reducible refine Kd.C_drewN ?_ _) | (with_reducible refine Kd.C_drew ?_))); (case side2 => rw [show t580.length = t559.length from (Kd.R_reads' HO_567000.out).1.symm]; exact (Kd.R_reads' HO_567000.out).2.1); (case side3 => repeat (first | exact (Kd.R_reads' HO_567001.out).2.2 | (with_reducible refine Kd.C_alloc ?_ _) | (with_reducible refine Kd.C_drewN ?_ _) | (with_reducible refine Kd.C_drew ?_))); (case side4 => rw [show t581.length = t562.length from (Kd.R_reads' HO_567001.out).1.symm]; exact (Kd.R_reads' HO_567001.out).2.1); rintro e w116 ⟨rfl, hb⟩; refine ⟨_, rfl, ?_⟩; replace HO_552000 := zm (Kd.R_below (zr HO_552000) hb); replace HO_552001 := zm (Kd.R_below (zr HO_552001) hb); replace HO_559000 := zm (Kd.R_below (zr HO_559000) hb); replace HO_559001 := zm (Kd.R_below (zr HO_559001) hb); replace HO_567000 := zm (Kd.R_below (zr HO_567000) hb); replace HO_567001 := zm (Kd.R_below (zr HO_567001) hb); replace BK536 := zm (blk_below (zb BK536) hb); replace BK551 := zm (blk_below (zb BK551) hb); replace BK558 := zm (blk_below (zb BK558) hb); replace BK566 := zm (blk_below (zb BK566) hb); replace HB := zm (below_step zB hb); clear hb; have hnb117 := NB536_551.out; have hnc117 := NB551_536.out; have hnb118 := NB536_558.out; have hnc118 := NB558_536.out; have hcz119_0 : w116.cell? ⟨gb536, 0, none⟩ = some (.slice A0_0 l0_0.length c0_0) := (blk_cell BK536.out 0).trans rfl; have hcz119_1 : w116.cell? ⟨gb536, 1, none⟩ = some (.slice A0_1 l0_1.length c0_1) := (blk_cell BK536.out 1).trans rfl; have hfz119_0 := blk_frozen BK536.out 0; have hfz119_1 := blk_frozen BK536.out 1) | ((with_reducible refine gate_callee (f := 15) rfl ?_); refine zg (some 79) #[.agg #[.slice A0_0 l0_0.length c0_0, .slice A0_1 l0_1.length c0_1]] Try.func15 ?_; (with_reducible refine (laws_toState.calls kj64 _ _ l0_0 _ _ l0_1 t583 t586 _ (zk (Kd.C_below HR0_0.out HB.out)) HC0_0.out (zk (Kd.C_below HR0_1.out HB.out)) HC0_1.out A107.out).mono ?_); rintro e w120 ⟨v584, v587, rfl, ho0, ho1, hb⟩; refine ⟨_, rfl, ?_⟩; have HO585 := zm (Kd.R_lower (Kd.R_new' (Kd.R_new' (Kd.R_new' ho0 (Kd.R_lt (zr HO_552000))) (Kd.R_lt (zr HO_559000))) (Kd.R_lt (zr HO_567000))) (below_size zB)); replace HO_552000 := zm (Kd.R_elder' (zr HO_552000) (Kd.R_base ho0) hb); replace HO_559000 := zm (Kd.R_elder' (zr HO_559000) (Kd.R_base ho0) hb); replace HO_567000 := zm (Kd.R_elder' (zr HO_567000) (Kd.R_base ho0) hb); have HO588 := zm (Kd.R_lower (Kd.R_new' (Kd.R_new' (Kd.R_new' ho1 (Kd.R_lt (zr HO_552001))) (Kd.R_lt (zr HO_559001))) (Kd.R_lt (zr HO_567001))) (below_size zB)); replace HO_552001 := zm (Kd.R_elder' (zr HO_552001) (Kd.R_base ho1) hb); replace HO_559001 := zm (Kd.R_elder' (zr HO_559001) (Kd.R_base ho1) hb); replace HO_567001 := zm (Kd.R_elder' (zr HO_567001) (Kd.R_base ho1) hb); replace BK536 := zm (blk_below (zb BK536) hb); replace BK551 := zm (blk_below (zb BK551) hb); replace BK558 := zm (blk_below (zb BK558) hb); replace BK566 := zm (blk_below (zb BK566) hb); replace HB := zm (below_step zB hb); clear hb ho0 ho1; obtain ⟨Ao121, co121, eo121⟩ := Kd.R_slice HO585.out; subst eo121; obtain ⟨Ao122, co122, eo122⟩ := Kd.R_slice HO588.out; subst eo122) | ((with_reducible refine gate_callee (f := 25) rfl ?_); refine zg (some 81) #[.agg #[.slice Ao121 t583.length co121, .slice Ao122 t586.length co122], .int .i64 a1] Try.func25 ?_; (with_reducible refine (impl_SayGone.calls kj64 _ _ t583 _ _ t586 a1 t589 t592 t595 _ ?side1 ?side2 ?side3 ?side4 A108.out).mono ?_); (case side1 => repeat (first | exact (Kd.R_reads' HO585.out).2.2 | (with_reducible refine Kd.C_alloc ?_ _) | (with_reducible refine Kd.C_drewN ?_ _) | (with_reducible refine Kd.C_drew ?_))); (case side2 => exact (Kd.R_reads' HO585.out).2.1); (case side3 => repeat (first | exact (Kd.R_reads' HO588.out).2.2 | (with_reducible refine Kd.C_alloc ?_ _) | (with_reducible refine Kd.C_drewN ?_ _) | (with_reducible refine Kd.C_drew ?_))); (case side4 => exact (Kd.R_reads' HO588.out).2.1); rintro e w123 ⟨v590, v593, rfl, ho0, ho1, hb⟩; refine ⟨_, rfl, ?_⟩; have HO591 := zm (Kd.R_lower (Kd.R_new' (Kd.R_new' (Kd.R_new' (Kd.R_new' ho0 (Kd.R_lt (zr HO_552000))) (Kd.R_lt (zr HO_559000))) (Kd.R_lt (zr HO_567000))) (Kd.R_lt (zr HO585))) (below_size zB)); replace HO_552000 := zm (Kd.R_elder' (zr HO_552000) (Kd.R_base ho0) hb); replace HO_559000 := zm (Kd.R_elder' (zr HO_559000) (Kd.R_base ho0) hb); replace HO_567000 := zm (Kd.R_elder' (zr HO_567000) (Kd.R_base ho0) hb); replace HO585 := zm (Kd.R_elder' (zr HO585) (Kd.R_base ho0) hb); have HO594 := zm (Kd.R_lower (Kd.R_new' (Kd.R_new' (Kd.R_new' (Kd.R_new' ho1 (Kd.R_lt (zr HO_552001))) (Kd.R_lt (zr HO_559001))) (Kd.R_lt (zr HO_567001))) (Kd.R_lt (zr HO588))) (below_size zB)); replace HO_552001 := zm (Kd.R_elder' (zr HO_552001) (Kd.R_base ho1) hb); replace HO_559001 := zm (Kd.R_elder' (zr HO_559001) (Kd.R_base ho1) hb); replace HO_567001 := zm (Kd.R_elder' (zr HO_567001) (Kd.R_base ho1) hb); replace HO588 := zm (Kd.R_elder' (zr HO588) (Kd.R_base ho1) hb); replace BK536 := zm (blk_below (zb BK536) hb); replace BK551 := zm (blk_below (zb BK551) hb); replace BK558 := zm (blk_below (zb BK558) hb); replace BK566 := zm (blk_below (zb BK566) hb); replace HB := zm (below_step zB hb); clear hb ho0 ho1) | ((with_reducible refine gate_dst (N := 14) rfl ?_); refine zbox 14 #[.slice none 0 0, .slice none 0 0] 32 ?_; intro gb596 hg w124 hbox hb; replace HO_552000 := zm (Kd.R_below (zr HO_552000) hb); replace HO_552001 := zm (Kd.R_below (zr HO_552001) hb); replace HO_559000 := zm (Kd.R_below (zr HO_559000) hb); replace HO_559001 := zm (Kd.R_below (zr HO_559001) hb); replace HO_567000 := zm (Kd.R_below (zr HO_567000) hb); replace HO_567001 := zm (Kd.R_below (zr HO_567001) hb); replace HO585 := zm (Kd.R_below (zr HO585) hb); replace HO588 := zm (Kd.R_below (zr HO588) hb); replace HO591 := zm (Kd.R_below (zr HO591) hb); replace HO594 := zm (Kd.R_below (zr HO594) hb); have BK596 := zm (hbox); have GW596 := zge w hg zB; have GE596 := zge w hg zB; replace HB := zm (below_step zB hb); have NB536_596 := zlt hg (zb BK536); have NB596_536 := zgt hg (zb BK536); replace BK536 := zm (blk_below (zb BK536) hb); have NB551_596 := zlt hg (zb BK551); have NB596_551 := zgt hg (zb BK551); replace BK551 := zm (blk_below (zb BK551) hb); have NB558_596 := zlt hg (zb BK558); have NB596_558 := zgt hg (zb BK558); replace BK558 := zm (blk_below (zb BK558) hb); have NB566_596 := zlt hg (zb BK566); have NB596_566 := zgt hg (zb BK566); replace BK566 := zm (blk_below (zb BK566) hb); clear hb hbox hg; obtain ⟨Ao125, co125, eo125⟩ := Kd.R_slice HO591.out; subst eo125; have hnb126 := NB596_536.out; have hnc126 := NB536_596.out; have hnb127 := NB596_551.out; have hnc127 := NB551_596.out; have hnb128 := NB596_558.out; have hnc128 := NB558_596.out; have hnb129 := NB596_566.out; have hnc129 := NB566_596.out; have hcz130_0 : w124.cell? ⟨gb596, 0, none⟩ = some (.slice none 0 0) := (blk_cell BK596.out 0).trans rfl; have hcz130_1 : w124.cell? ⟨gb596, 1, none⟩ = some (.slice none 0 0) := (blk_cell BK596.out 1).trans rfl; have hfz130_0 := blk_frozen BK596.out 0; have hfz130_1 := blk_frozen BK596.out 1; obtain ⟨Ao131, co131, eo131⟩ := Kd.R_slice HO594.out; subst eo131))
           (try simp only [Act.put, List.setIfInBounds_toArray, List.set_cons_zero, List.set_cons_succ])
           go_cut [92] (fun v92 wc => ∃ (kq : Nat) (x92_108 : Bool), v92 = .bool x92_108 ∧ Aside0 (laws_FnExactSayGone.j2 kq t579 x92_108 t580 t581 = some r) ∧ Aside0 (kq ≤ kj64) ∧ Aside0 (Kd.R k68 68 wc w.heap.size (fun k_ => some k_ ≠ ((.slice Ao29 t576.length co29) : Value).ownBlock ∧ some k_ ≠ ((.slice Ao36 t559.length co36) : Value).ownBlock ∧ some k_ ≠ ((.slice Ao125 t589.length co125) : Value).ownBlock) (.slice Ao22 t544.length co22) t544) ∧ Aside0 (Kd.R k72 72 wc w.heap.size (fun k_ => some k_ ≠ ((.slice Ao33 t577.length co33) : Value).ownBlock ∧ some k_ ≠ ((.slice Ao41 t562.length co41) : Value).ownBlock ∧ some k_ ≠ ((.slice Ao131 t592.length co131) : Value).ownBlock) (.slice Ao25 t547.length co25) t547) ∧ Aside0 (Kd.R k68 68 wc w.heap.size (fun k_ => some k_ ≠ ((.slice Ao22 t544.length co22) : Value).ownBlock ∧ some k_ ≠ ((.slice Ao36 t559.length co36) : Value).ownBlock ∧ some k_ ≠ ((.slice Ao125 t589.length co125) : Value).ownBlock) (.slice Ao29 t576.length co29) t576) ∧ Aside0 (Kd.R k72 72 wc w.heap.size (fun k_ => some k_ ≠ ((.slice Ao25 t547.length co25) : Value).ownBlock ∧ some k_ ≠ ((.slice Ao41 t562.length co41) : Value).ownBlock ∧ some k_ ≠ ((.slice Ao131 t592.length co131) : Value).ownBlock) (.slice Ao33 t577.length co33) t577) ∧ Aside0 (Kd.R k68 68 wc w.heap.size (fun k_ => some k_ ≠ ((.slice Ao22 t544.length co22) : Value).ownBlock ∧ some k_ ≠ ((.slice Ao29 t576.length co29) : Value).ownBlock ∧ some k_ ≠ ((.slice Ao125 t589.length co125) : Value).ownBlock) (.slice Ao36 t559.length co36) t580) ∧ Aside0 (Kd.R k72 72 wc w.heap.size (fun k_ => some k_ ≠ ((.slice Ao25 t547.length co25) : Value).ownBlock ∧ some k_ ≠ ((.slice Ao33 t577.length co33) : Value).ownBlock ∧ some k_ ≠ ((.slice Ao131 t592.length co131) : Value).ownBlock) (.slice Ao41 t562.length co41) t581) ∧ Aside0 (Kd.R k68 68 wc w.heap.size (fun k_ => some k_ ≠ ((.slice Ao22 t544.length co22) : Value).ownBlock ∧ some k_ ≠ ((.slice Ao29 t576.length co29) : Value).ownBlock ∧ some k_ ≠ ((.slice Ao36 t559.length co36) : Value).ownBlock) (.slice Ao125 t589.length co125) t589) ∧ Aside0 (Kd.R k72 72 wc w.heap.size (fun k_ => some k_ ≠ ((.slice Ao25 t547.length co25) : Value).ownBlock ∧ some k_ ≠ ((.slice Ao33 t577.length co33) : Value).ownBlock ∧ some k_ ≠ ((.slice Ao41 t562.length co41) : Value).ownBlock) (.slice Ao131 t592.length co131) t592) ∧ Aside0 (wc.heap[gb536]? = some (.cells #[(.slice A0_0 l0_0.length c0_0), (.slice A0_1 l0_1.length c0_1)] 25 (0, 0))) ∧ Aside0 (wc.heap[gb551]? = some (.cells #[(.slice Ao22 t544.length co22), (.slice Ao25 t547.length co25)] 32 (0, 0))) ∧ Aside0 (wc.heap[gb558]? = some (.cells #[(.slice Ao29 t576.length co29), (.slice Ao33 t577.length co33)] 32 (0, 0))) ∧ Aside0 (wc.heap[gb566]? = some (.cells #[(.slice Ao36 t559.length co36), (.slice Ao41 t562.length co41)] 32 (0, 0))) ∧ Aside0 (wc.heap[gb596]? = some (.cells #[(.slice Ao125 t589.length co125), (.slice Ao131 t592.length co131)] 32 (0, 0))) ∧ Aside0 (Below w.heap.size w wc))
           case first =>
            have H := HC109.out
            clear HC109
            replace H := Option.bind_eq_some_iff.mp H
            obtain ⟨t597, A1320, H⟩ := H
            replace H : (if t597 = true then (laws_FnExactSayGone.j2 kj64 t579 (t595 != t550) t580 t581) else (laws_FnExactSayGone.j2 kj64 t579 true t580 t581)) = some r := H
            have A132 := zm A1320
            clear A1320
            by_cases c133 : t597 = true
            ·subst c133
             have H1 : (laws_FnExactSayGone.j2 kj64 t579 (t595 != t550) t580 t581) = some r := by rw [if_pos rfl] at H; exact H
             clear H
             have H := H1
             clear H1
             have H' := zm H
             clear H
             have hnb134 := NB596_536.out
             have hnc134 := NB536_596.out
             have hnb135 := NB596_551.out
             have hnc135 := NB551_596.out
             have hnb136 := NB596_558.out
             have hnc136 := NB558_596.out
             have hnb137 := NB596_566.out
             have hnc137 := NB566_596.out
             have hcz138_0 : w124.cell? ⟨gb596, 0, none⟩ = some (.slice none 0 0) := (blk_cell BK596.out 0).trans rfl
             have hcz138_1 : w124.cell? ⟨gb596, 1, none⟩ = some (.slice none 0 0) := (blk_cell BK596.out 1).trans rfl
             have hfz138_0 := blk_frozen BK596.out 0
             have hfz138_1 := blk_frozen BK596.out 1
             have hnb139 := NB551_536.out
             have hnc139 := NB536_551.out
             have hnb140 := NB551_558.out
             have hnc140 := NB558_551.out
             have hnb141 := NB551_566.out
             have hnc141 := NB566_551.out
             have hcz142_0 : w124.cell? ⟨gb551, 0, none⟩ = some (.slice Ao22 t544.length co22) := (blk_cell BK551.out 0).trans rfl
             have hcz142_1 : w124.cell? ⟨gb551, 1, none⟩ = some (.slice Ao25 t547.length co25) := (blk_cell BK551.out 1).trans rfl
             have hfz142_0 := blk_frozen BK551.out 0
             have hfz142_1 := blk_frozen BK551.out 1
             go_wp2_with (first | ((with_reducible refine gate_callee (f := 18) rfl ?_); refine zg (some 86) #[.agg #[.slice Ao125 t589.length co125, .slice Ao131 t592.length co131], .agg #[.slice Ao22 t544.length co22, .slice Ao25 t547.length co25]] Try.func18 ?_; (with_reducible refine (laws_eqState.calls kj64 _ _ t589 _ _ t592 _ _ t544 _ _ t547 true _ ?side1 ?side2 ?side3 ?side4 ?side5 ?side6 ?side7 ?side8 A132.out).mono ?_); (case side1 => refine (Kd.R_reads' (e := 68) (base := w.heap.size) (ok := fun k_ => ((((True ∧ some k_ ≠ (.slice Ao22 t544.length co22 : Value).ownBlock) ∧ some k_ ≠ (.slice Ao29 t576.length co29 : Value).ownBlock) ∧ some k_ ≠ (.slice Ao36 t559.length co36 : Value).ownBlock) ∧ some k_ ≠ (.slice Ao121 t583.length co121 : Value).ownBlock)) (n := t589.length) (c := co125) ?_).2.2; exact (zrs <| (Kd.R_mono (zfr (zfr (Kd.R_types HO591.out BK596.out (by decide)))) (fun _ h_ => h_.1)))); (case side2 => exact (Kd.R_reads' HO591.out).2.1); (case side3 => refine (Kd.R_reads' (e := 72) (base := w.heap.size) (ok := fun k_ => ((((True ∧ some k_ ≠ (.slice Ao25 t547.length co25 : Value).ownBlock) ∧ some k_ ≠ (.slice Ao33 t577.length co33 : Value).ownBlock) ∧ some k_ ≠ (.slice Ao41 t562.length co41 : Value).ownBlock) ∧ some k_ ≠ (.slice Ao122 t586.length co122 : Value).ownBlock)) (n := t592.length) (c := co131) ?_).2.2; exact (zrs <| (Kd.R_mono (zfr (zfr (Kd.R_types HO594.out BK596.out (by decide)))) (fun _ h_ => h_.1)))); (case side4 => exact (Kd.R_reads' HO594.out).2.1); (case side5 => refine (Kd.R_reads' (e := 68) (base := w.heap.size) (ok := fun k_ => (((some k_ ≠ (.slice Ao29 t576.length co29 : Value).ownBlock ∧ some k_ ≠ (.slice Ao36 t559.length co36 : Value).ownBlock) ∧ some k_ ≠ (.slice Ao121 t583.length co121 : Value).ownBlock) ∧ some k_ ≠ (.slice Ao125 t589.length co125 : Value).ownBlock)) (n := t544.length) (c := co22) ?_).2.2; exact (zrs <| (Kd.R_mono (zfr (zfr (Kd.R_types HO_552000.out BK596.out (by decide)))) (fun _ h_ => h_.1)))); (case side6 => exact (Kd.R_reads' HO_552000.out).2.1); (case side7 => refine (Kd.R_reads' (e := 72) (base := w.heap.size) (ok := fun k_ => (((some k_ ≠ (.slice Ao33 t577.length co33 : Value).ownBlock ∧ some k_ ≠ (.slice Ao41 t562.length co41 : Value).ownBlock) ∧ some k_ ≠ (.slice Ao122 t586.length co122 : Value).ownBlock) ∧ some k_ ≠ (.slice Ao131 t592.length co131 : Value).ownBlock)) (n := t547.length) (c := co25) ?_).2.2; exact (zrs <| (Kd.R_mono (zfr (zfr (Kd.R_types HO_552001.out BK596.out (by decide)))) (fun _ h_ => h_.1)))); (case side8 => exact (Kd.R_reads' HO_552001.out).2.1); rintro e w143 ⟨rfl, hb⟩; refine ⟨_, rfl, ?_⟩; replace HO_552000 := zm (Kd.R_below (zrs <| (Kd.R_mono (zfr (zfr (Kd.R_types HO_552000.out BK596.out (by decide)))) (fun _ h_ => h_.1))) hb); replace HO_552001 := zm (Kd.R_below (zrs <| (Kd.R_mono (zfr (zfr (Kd.R_types HO_552001.out BK596.out (by decide)))) (fun _ h_ => h_.1))) hb); replace HO_559000 := zm (Kd.R_below (zrs <| (Kd.R_mono (zfr (zfr (Kd.R_types HO_559000.out BK596.out (by decide)))) (fun _ h_ => h_.1))) hb); replace HO_559001 := zm (Kd.R_below (zrs <| (Kd.R_mono (zfr (zfr (Kd.R_types HO_559001.out BK596.out (by decide)))) (fun _ h_ => h_.1))) hb); replace HO_567000 := zm (Kd.R_below (zrs <| (Kd.R_mono (zfr (zfr (Kd.R_types HO_567000.out BK596.out (by decide)))) (fun _ h_ => h_.1))) hb); replace HO_567001 := zm (Kd.R_below (zrs <| (Kd.R_mono (zfr (zfr (Kd.R_types HO_567001.out BK596.out (by decide)))) (fun _ h_ => h_.1))) hb); replace HO585 := zm (Kd.R_below (zrs <| (Kd.R_mono (zfr (zfr (Kd.R_types HO585.out BK596.out (by decide)))) (fun _ h_ => h_.1))) hb); replace HO588 := zm (Kd.R_below (zrs <| (Kd.R_mono (zfr (zfr (Kd.R_types HO588.out BK596.out (by decide)))) (fun _ h_ => h_.1))) hb); replace HO591 := zm (Kd.R_below (zrs <| (Kd.R_mono (zfr (zfr (Kd.R_types HO591.out BK596.out (by decide)))) (fun _ h_ => h_.1))) hb); replace HO594 := zm (Kd.R_below (zrs <| (Kd.R_mono (zfr (zfr (Kd.R_types HO594.out BK596.out (by decide)))) (fun _ h_ => h_.1))) hb); replace BK536 := zm (blk_below (g := gb536) (o := .cells #[.slice A0_0 l0_0.length c0_0, .slice A0_1 l0_1.length c0_1] 25 (0, 0)) (zfar (zfar (zb BK536) NB536_596) NB536_596) hb); replace BK551 := zm (blk_below (g := gb551) (o := .cells #[.slice Ao22 t544.length co22, .slice Ao25 t547.length co25] 32 (0, 0)) (zfar (zfar (zb BK551) NB551_596) NB551_596) hb); replace BK558 := zm (blk_below (g := gb558) (o := .cells #[.slice Ao29 t576.length co29, .slice Ao33 t577.length co33] 32 (0, 0)) (zfar (zfar (zb BK558) NB558_596) NB558_596) hb); replace BK566 := zm (blk_below (g := gb566) (o := .cells #[.slice Ao36 t559.length co36, .slice Ao41 t562.length co41] 32 (0, 0)) (zfar (zfar (zb BK566) NB566_596) NB566_596) hb); replace BK596 := zm (blk_below (g := gb596) (o := .cells #[.slice Ao125 t589.length co125, .slice Ao131 t592.length co131] 32 (0, 0)) (zput (zput (zb BK596) 0) 1) hb); replace HB := zm (below_step zB hb); clear hb))
             go_meet
             case rel => exact ⟨_, ((t595 != t550)), zF, H', ⟨by have := HJ11.out; have := HJ64.out; first | omega | exact Nat.le_refl _⟩, ⟨by (try simp only [hl559000_64]); (try simp only [hl559001_64]); (with_reducible repeat (first | apply Kd.R_alloc | apply Kd.R_drewN | apply Kd.R_drew)); exact Kd.R_mono HO_552000.out (fun _ hk => ⟨hk.1.1.1, ⟨hk.1.1.2, hk.2⟩⟩)⟩, ⟨by (try simp only [hl559000_64]); (try simp only [hl559001_64]); (with_reducible repeat (first | apply Kd.R_alloc | apply Kd.R_drewN | apply Kd.R_drew)); exact Kd.R_mono HO_552001.out (fun _ hk => ⟨hk.1.1.1, ⟨hk.1.1.2, hk.2⟩⟩)⟩, ⟨by (try simp only [hl559000_64]); (try simp only [hl559001_64]); (with_reducible repeat (first | apply Kd.R_alloc | apply Kd.R_drewN | apply Kd.R_drew)); exact Kd.R_mono HO_559000.out (fun _ hk => ⟨hk.1.1.1, ⟨hk.1.1.2, hk.2⟩⟩)⟩, ⟨by (try simp only [hl559000_64]); (try simp only [hl559001_64]); (with_reducible repeat (first | apply Kd.R_alloc | apply Kd.R_drewN | apply Kd.R_drew)); exact Kd.R_mono HO_559001.out (fun _ hk => ⟨hk.1.1.1, ⟨hk.1.1.2, hk.2⟩⟩)⟩, ⟨by (try simp only [hl559000_64]); (try simp only [hl559001_64]); (with_reducible repeat (first | apply Kd.R_alloc | apply Kd.R_drewN | apply Kd.R_drew)); exact Kd.R_mono HO_567000.out (fun _ hk => ⟨hk.1.1.1, ⟨hk.1.1.2, hk.2⟩⟩)⟩, ⟨by (try simp only [hl559000_64]); (try simp only [hl559001_64]); (with_reducible repeat (first | apply Kd.R_alloc | apply Kd.R_drewN | apply Kd.R_drew)); exact Kd.R_mono HO_567001.out (fun _ hk => ⟨hk.1.1.1, ⟨hk.1.1.2, hk.2⟩⟩)⟩, ⟨by (try simp only [hl559000_64]); (try simp only [hl559001_64]); (with_reducible repeat (first | apply Kd.R_alloc | apply Kd.R_drewN | apply Kd.R_drew)); exact Kd.R_mono HO591.out (fun _ hk => ⟨hk.1.1.1.2, ⟨hk.1.1.2, hk.1.2⟩⟩)⟩, ⟨by (try simp only [hl559000_64]); (try simp only [hl559001_64]); (with_reducible repeat (first | apply Kd.R_alloc | apply Kd.R_drewN | apply Kd.R_drew)); exact Kd.R_mono HO594.out (fun _ hk => ⟨hk.1.1.1.2, ⟨hk.1.1.2, hk.1.2⟩⟩)⟩, ⟨by (try simp only [hl559000_64]); (try simp only [hl559001_64]); (with_reducible repeat (first | refine blk_drewN ?_ _ | refine blk_drew ?_ | refine blk_alloc ?_ _)); exact BK536.out⟩, ⟨by (try simp only [hl559000_64]); (try simp only [hl559001_64]); (with_reducible repeat (first | refine blk_drewN ?_ _ | refine blk_drew ?_ | refine blk_alloc ?_ _)); exact BK551.out⟩, ⟨by (try simp only [hl559000_64]); (try simp only [hl559001_64]); (with_reducible repeat (first | refine blk_drewN ?_ _ | refine blk_drew ?_ | refine blk_alloc ?_ _)); exact BK558.out⟩, ⟨by (try simp only [hl559000_64]); (try simp only [hl559001_64]); (with_reducible repeat (first | refine blk_drewN ?_ _ | refine blk_drew ?_ | refine blk_alloc ?_ _)); exact BK566.out⟩, ⟨by (try simp only [hl559000_64]); (try simp only [hl559001_64]); (with_reducible repeat (first | refine blk_drewN ?_ _ | refine blk_drew ?_ | refine blk_alloc ?_ _)); exact BK596.out⟩, ⟨zB⟩⟩
            ·replace c133 := Bool.eq_false_iff.mpr c133
             subst c133
             have H1 : (laws_FnExactSayGone.j2 kj64 t579 true t580 t581) = some r := by rw [if_neg (show ¬ (false = true) by decide)] at H; exact H
             clear H
             have H := H1
             clear H1
             have H' := zm H
             clear H
             have hnb144 := NB596_536.out
             have hnc144 := NB536_596.out
             have hnb145 := NB596_551.out
             have hnc145 := NB551_596.out
             have hnb146 := NB596_558.out
             have hnc146 := NB558_596.out
             have hnb147 := NB596_566.out
             have hnc147 := NB566_596.out
             have hcz148_0 : w124.cell? ⟨gb596, 0, none⟩ = some (.slice none 0 0) := (blk_cell BK596.out 0).trans rfl
             have hcz148_1 : w124.cell? ⟨gb596, 1, none⟩ = some (.slice none 0 0) := (blk_cell BK596.out 1).trans rfl
             have hfz148_0 := blk_frozen BK596.out 0
             have hfz148_1 := blk_frozen BK596.out 1
             have hnb149 := NB551_536.out
             have hnc149 := NB536_551.out
             have hnb150 := NB551_558.out
             have hnc150 := NB558_551.out
             have hnb151 := NB551_566.out
             have hnc151 := NB566_551.out
             have hcz152_0 : w124.cell? ⟨gb551, 0, none⟩ = some (.slice Ao22 t544.length co22) := (blk_cell BK551.out 0).trans rfl
             have hcz152_1 : w124.cell? ⟨gb551, 1, none⟩ = some (.slice Ao25 t547.length co25) := (blk_cell BK551.out 1).trans rfl
             have hfz152_0 := blk_frozen BK551.out 0
             have hfz152_1 := blk_frozen BK551.out 1
             go_wp2_with (first | ((with_reducible refine gate_callee (f := 18) rfl ?_); refine zg (some 86) #[.agg #[.slice Ao125 t589.length co125, .slice Ao131 t592.length co131], .agg #[.slice Ao22 t544.length co22, .slice Ao25 t547.length co25]] Try.func18 ?_; (with_reducible refine (laws_eqState.calls kj64 _ _ t589 _ _ t592 _ _ t544 _ _ t547 false _ ?side1 ?side2 ?side3 ?side4 ?side5 ?side6 ?side7 ?side8 A132.out).mono ?_); (case side1 => refine (Kd.R_reads' (e := 68) (base := w.heap.size) (ok := fun k_ => ((((True ∧ some k_ ≠ (.slice Ao22 t544.length co22 : Value).ownBlock) ∧ some k_ ≠ (.slice Ao29 t576.length co29 : Value).ownBlock) ∧ some k_ ≠ (.slice Ao36 t559.length co36 : Value).ownBlock) ∧ some k_ ≠ (.slice Ao121 t583.length co121 : Value).ownBlock)) (n := t589.length) (c := co125) ?_).2.2; exact (zrs <| (Kd.R_mono (zfr (zfr (Kd.R_types HO591.out BK596.out (by decide)))) (fun _ h_ => h_.1)))); (case side2 => exact (Kd.R_reads' HO591.out).2.1); (case side3 => refine (Kd.R_reads' (e := 72) (base := w.heap.size) (ok := fun k_ => ((((True ∧ some k_ ≠ (.slice Ao25 t547.length co25 : Value).ownBlock) ∧ some k_ ≠ (.slice Ao33 t577.length co33 : Value).ownBlock) ∧ some k_ ≠ (.slice Ao41 t562.length co41 : Value).ownBlock) ∧ some k_ ≠ (.slice Ao122 t586.length co122 : Value).ownBlock)) (n := t592.length) (c := co131) ?_).2.2; exact (zrs <| (Kd.R_mono (zfr (zfr (Kd.R_types HO594.out BK596.out (by decide)))) (fun _ h_ => h_.1)))); (case side4 => exact (Kd.R_reads' HO594.out).2.1); (case side5 => refine (Kd.R_reads' (e := 68) (base := w.heap.size) (ok := fun k_ => (((some k_ ≠ (.slice Ao29 t576.length co29 : Value).ownBlock ∧ some k_ ≠ (.slice Ao36 t559.length co36 : Value).ownBlock) ∧ some k_ ≠ (.slice Ao121 t583.length co121 : Value).ownBlock) ∧ some k_ ≠ (.slice Ao125 t589.length co125 : Value).ownBlock)) (n := t544.length) (c := co22) ?_).2.2; exact (zrs <| (Kd.R_mono (zfr (zfr (Kd.R_types HO_552000.out BK596.out (by decide)))) (fun _ h_ => h_.1)))); (case side6 => exact (Kd.R_reads' HO_552000.out).2.1); (case side7 => refine (Kd.R_reads' (e := 72) (base := w.heap.size) (ok := fun k_ => (((some k_ ≠ (.slice Ao33 t577.length co33 : Value).ownBlock ∧ some k_ ≠ (.slice Ao41 t562.length co41 : Value).ownBlock) ∧ some k_ ≠ (.slice Ao122 t586.length co122 : Value).ownBlock) ∧ some k_ ≠ (.slice Ao131 t592.length co131 : Value).ownBlock)) (n := t547.length) (c := co25) ?_).2.2; exact (zrs <| (Kd.R_mono (zfr (zfr (Kd.R_types HO_552001.out BK596.out (by decide)))) (fun _ h_ => h_.1)))); (case side8 => exact (Kd.R_reads' HO_552001.out).2.1); rintro e w153 ⟨rfl, hb⟩; refine ⟨_, rfl, ?_⟩; replace HO_552000 := zm (Kd.R_below (zrs <| (Kd.R_mono (zfr (zfr (Kd.R_types HO_552000.out BK596.out (by decide)))) (fun _ h_ => h_.1))) hb); replace HO_552001 := zm (Kd.R_below (zrs <| (Kd.R_mono (zfr (zfr (Kd.R_types HO_552001.out BK596.out (by decide)))) (fun _ h_ => h_.1))) hb); replace HO_559000 := zm (Kd.R_below (zrs <| (Kd.R_mono (zfr (zfr (Kd.R_types HO_559000.out BK596.out (by decide)))) (fun _ h_ => h_.1))) hb); replace HO_559001 := zm (Kd.R_below (zrs <| (Kd.R_mono (zfr (zfr (Kd.R_types HO_559001.out BK596.out (by decide)))) (fun _ h_ => h_.1))) hb); replace HO_567000 := zm (Kd.R_below (zrs <| (Kd.R_mono (zfr (zfr (Kd.R_types HO_567000.out BK596.out (by decide)))) (fun _ h_ => h_.1))) hb); replace HO_567001 := zm (Kd.R_below (zrs <| (Kd.R_mono (zfr (zfr (Kd.R_types HO_567001.out BK596.out (by decide)))) (fun _ h_ => h_.1))) hb); replace HO585 := zm (Kd.R_below (zrs <| (Kd.R_mono (zfr (zfr (Kd.R_types HO585.out BK596.out (by decide)))) (fun _ h_ => h_.1))) hb); replace HO588 := zm (Kd.R_below (zrs <| (Kd.R_mono (zfr (zfr (Kd.R_types HO588.out BK596.out (by decide)))) (fun _ h_ => h_.1))) hb); replace HO591 := zm (Kd.R_below (zrs <| (Kd.R_mono (zfr (zfr (Kd.R_types HO591.out BK596.out (by decide)))) (fun _ h_ => h_.1))) hb); replace HO594 := zm (Kd.R_below (zrs <| (Kd.R_mono (zfr (zfr (Kd.R_types HO594.out BK596.out (by decide)))) (fun _ h_ => h_.1))) hb); replace BK536 := zm (blk_below (g := gb536) (o := .cells #[.slice A0_0 l0_0.length c0_0, .slice A0_1 l0_1.length c0_1] 25 (0, 0)) (zfar (zfar (zb BK536) NB536_596) NB536_596) hb); replace BK551 := zm (blk_below (g := gb551) (o := .cells #[.slice Ao22 t544.length co22, .slice Ao25 t547.length co25] 32 (0, 0)) (zfar (zfar (zb BK551) NB551_596) NB551_596) hb); replace BK558 := zm (blk_below (g := gb558) (o := .cells #[.slice Ao29 t576.length co29, .slice Ao33 t577.length co33] 32 (0, 0)) (zfar (zfar (zb BK558) NB558_596) NB558_596) hb); replace BK566 := zm (blk_below (g := gb566) (o := .cells #[.slice Ao36 t559.length co36, .slice Ao41 t562.length co41] 32 (0, 0)) (zfar (zfar (zb BK566) NB566_596) NB566_596) hb); replace BK596 := zm (blk_below (g := gb596) (o := .cells #[.slice Ao125 t589.length co125, .slice Ao131 t592.length co131] 32 (0, 0)) (zput (zput (zb BK596) 0) 1) hb); replace HB := zm (below_step zB hb); clear hb))
             go_meet
             case rel => exact ⟨_, (true), zF, H', ⟨by have := HJ11.out; have := HJ64.out; first | omega | exact Nat.le_refl _⟩, ⟨by (try simp only [hl559000_64]); (try simp only [hl559001_64]); (with_reducible repeat (first | apply Kd.R_alloc | apply Kd.R_drewN | apply Kd.R_drew)); exact Kd.R_mono HO_552000.out (fun _ hk => ⟨hk.1.1.1, ⟨hk.1.1.2, hk.2⟩⟩)⟩, ⟨by (try simp only [hl559000_64]); (try simp only [hl559001_64]); (with_reducible repeat (first | apply Kd.R_alloc | apply Kd.R_drewN | apply Kd.R_drew)); exact Kd.R_mono HO_552001.out (fun _ hk => ⟨hk.1.1.1, ⟨hk.1.1.2, hk.2⟩⟩)⟩, ⟨by (try simp only [hl559000_64]); (try simp only [hl559001_64]); (with_reducible repeat (first | apply Kd.R_alloc | apply Kd.R_drewN | apply Kd.R_drew)); exact Kd.R_mono HO_559000.out (fun _ hk => ⟨hk.1.1.1, ⟨hk.1.1.2, hk.2⟩⟩)⟩, ⟨by (try simp only [hl559000_64]); (try simp only [hl559001_64]); (with_reducible repeat (first | apply Kd.R_alloc | apply Kd.R_drewN | apply Kd.R_drew)); exact Kd.R_mono HO_559001.out (fun _ hk => ⟨hk.1.1.1, ⟨hk.1.1.2, hk.2⟩⟩)⟩, ⟨by (try simp only [hl559000_64]); (try simp only [hl559001_64]); (with_reducible repeat (first | apply Kd.R_alloc | apply Kd.R_drewN | apply Kd.R_drew)); exact Kd.R_mono HO_567000.out (fun _ hk => ⟨hk.1.1.1, ⟨hk.1.1.2, hk.2⟩⟩)⟩, ⟨by (try simp only [hl559000_64]); (try simp only [hl559001_64]); (with_reducible repeat (first | apply Kd.R_alloc | apply Kd.R_drewN | apply Kd.R_drew)); exact Kd.R_mono HO_567001.out (fun _ hk => ⟨hk.1.1.1, ⟨hk.1.1.2, hk.2⟩⟩)⟩, ⟨by (try simp only [hl559000_64]); (try simp only [hl559001_64]); (with_reducible repeat (first | apply Kd.R_alloc | apply Kd.R_drewN | apply Kd.R_drew)); exact Kd.R_mono HO591.out (fun _ hk => ⟨hk.1.1.1.2, ⟨hk.1.1.2, hk.1.2⟩⟩)⟩, ⟨by (try simp only [hl559000_64]); (try simp only [hl559001_64]); (with_reducible repeat (first | apply Kd.R_alloc | apply Kd.R_drewN | apply Kd.R_drew)); exact Kd.R_mono HO594.out (fun _ hk => ⟨hk.1.1.1.2, ⟨hk.1.1.2, hk.1.2⟩⟩)⟩, ⟨by (try simp only [hl559000_64]); (try simp only [hl559001_64]); (with_reducible repeat (first | refine blk_drewN ?_ _ | refine blk_drew ?_ | refine blk_alloc ?_ _)); exact BK536.out⟩, ⟨by (try simp only [hl559000_64]); (try simp only [hl559001_64]); (with_reducible repeat (first | refine blk_drewN ?_ _ | refine blk_drew ?_ | refine blk_alloc ?_ _)); exact BK551.out⟩, ⟨by (try simp only [hl559000_64]); (try simp only [hl559001_64]); (with_reducible repeat (first | refine blk_drewN ?_ _ | refine blk_drew ?_ | refine blk_alloc ?_ _)); exact BK558.out⟩, ⟨by (try simp only [hl559000_64]); (try simp only [hl559001_64]); (with_reducible repeat (first | refine blk_drewN ?_ _ | refine blk_drew ?_ | refine blk_alloc ?_ _)); exact BK566.out⟩, ⟨by (try simp only [hl559000_64]); (try simp only [hl559001_64]); (with_reducible repeat (first | refine blk_drewN ?_ _ | refine blk_drew ?_ | refine blk_alloc ?_ _)); exact BK596.out⟩, ⟨zB⟩⟩
           case rest =>
            clear HC109
            try clear c1
            try clear c2
            try clear p2
            try clear c3
            try clear c4
            try clear c4b0
            try clear c5
            try clear c6
            try clear c7
            try clear c8
            try clear c9
            try clear c10
            try clear c11
            try clear c12
            try clear c13
            try clear c14
            try clear c15
            try clear c18
            try clear c19
            try clear c23
            try clear c24
            try clear c25
            try clear c26
            try clear c30
            try clear c31
            try clear c37
            try clear c38
            try clear c39
            try clear c43
            try clear c44
            try clear c45
            try clear c46
            try clear c48
            try clear c49
            try clear c52
            try clear c53
            try clear c54
            try clear c56
            try clear c57
            try clear c60
            try clear c63
            try clear c71
            try clear c72
            try clear c73
            try clear c76
            try clear c76b0
            try clear c78
            try clear c79
            try clear c80
            try clear c81
            try clear c83
            try clear c84
            try clear c87
            try clear c88
            try clear c89
            try clear c91
            try clear c92
            try clear c95
            try clear c98
            try clear c98b0
            try clear c99
            try clear c100
            try clear c101
            try clear c106
            try clear c106b0
            try clear c106b1
            try clear c110
            try clear c111
            try clear c112
            try clear c117
            try clear c118
            try clear c126
            try clear c127
            try clear c128
            try clear c129
            try clear c133
            try clear c134
            try clear c135
            try clear c136
            try clear c137
            try clear c139
            try clear c140
            try clear c141
            try clear c144
            try clear c145
            try clear c146
            try clear c147
            try clear c149
            try clear c150
            try clear c151
            try clear hcz102_0
            try clear hcz102_1
            try clear hcz104_0
            try clear hcz104_1
            try clear hcz113_0
            try clear hcz113_1
            try clear hcz115_0
            try clear hcz115_1
            try clear hcz119_0
            try clear hcz119_1
            try clear hcz130_0
            try clear hcz130_1
            try clear hcz138_0
            try clear hcz138_1
            try clear hcz142_0
            try clear hcz142_1
            try clear hcz148_0
            try clear hcz148_1
            try clear hcz14_0
            try clear hcz14_1
            try clear hcz152_0
            try clear hcz152_1
            try clear hcz16_0
            try clear hcz16_1
            try clear hcz24_0
            try clear hcz24_1
            try clear hcz26_0
            try clear hcz26_1
            try clear hcz32_0
            try clear hcz32_1
            try clear hcz40_0
            try clear hcz40_1
            try clear hcz47_0
            try clear hcz47_1
            try clear hcz50_0
            try clear hcz50_1
            try clear hcz55_0
            try clear hcz55_1
            try clear hcz58_0
            try clear hcz58_1
            try clear hcz6_0
            try clear hcz6_1
            try clear hcz74_0
            try clear hcz74_1
            try clear hcz82_0
            try clear hcz82_1
            try clear hcz85_0
            try clear hcz85_1
            try clear hcz90_0
            try clear hcz90_1
            try clear hcz93_0
            try clear hcz93_1
            try clear hfz102_0
            try clear hfz102_1
            try clear hfz104_0
            try clear hfz104_1
            try clear hfz113_0
            try clear hfz113_1
            try clear hfz115_0
            try clear hfz115_1
            try clear hfz119_0
            try clear hfz119_1
            try clear hfz130_0
            try clear hfz130_1
            try clear hfz138_0
            try clear hfz138_1
            try clear hfz142_0
            try clear hfz142_1
            try clear hfz148_0
            try clear hfz148_1
            try clear hfz14_0
            try clear hfz14_1
            try clear hfz152_0
            try clear hfz152_1
            try clear hfz16_0
            try clear hfz16_1
            try clear hfz24_0
            try clear hfz24_1
            try clear hfz26_0
            try clear hfz26_1
            try clear hfz32_0
            try clear hfz32_1
            try clear hfz40_0
            try clear hfz40_1
            try clear hfz47_0
            try clear hfz47_1
            try clear hfz50_0
            try clear hfz50_1
            try clear hfz55_0
            try clear hfz55_1
            try clear hfz58_0
            try clear hfz58_1
            try clear hfz6_0
            try clear hfz6_1
            try clear hfz74_0
            try clear hfz74_1
            try clear hfz82_0
            try clear hfz82_1
            try clear hfz85_0
            try clear hfz85_1
            try clear hfz90_0
            try clear hfz90_1
            try clear hfz93_0
            try clear hfz93_1
            try clear p2
            obtain ⟨kq, x92_108, rfl, HA, HJ108, HO_552000, HO_552001, HO_559000, HO_559001, HO_567000, HO_567001, HO_597000, HO_597001, BK536, BK551, BK558, BK566, BK596, HB⟩ := hcut
            have hl567000_108 := (Kd.R_reads' HO_567000.out).1
            rw [hl567000_108] at HO_567000
            (try simp only [hl567000_108])
            (try simp only [hl567000_108] at BK536)
            (try simp only [hl567000_108] at BK551)
            (try simp only [hl567000_108] at BK558)
            (try simp only [hl567000_108] at BK566)
            (try simp only [hl567000_108] at BK596)
            (try simp only [hl567000_108] at HO_552000)
            (try simp only [hl567000_108] at HO_552001)
            (try simp only [hl567000_108] at HO_559000)
            (try simp only [hl567000_108] at HO_559001)
            (try simp only [hl567000_108] at HO_567001)
            (try simp only [hl567000_108] at HO_597000)
            (try simp only [hl567000_108] at HO_597001)
            have hl567001_108 := (Kd.R_reads' HO_567001.out).1
            rw [hl567001_108] at HO_567001
            (try simp only [hl567001_108])
            (try simp only [hl567001_108] at BK536)
            (try simp only [hl567001_108] at BK551)
            (try simp only [hl567001_108] at BK558)
            (try simp only [hl567001_108] at BK566)
            (try simp only [hl567001_108] at BK596)
            (try simp only [hl567001_108] at HO_552000)
            (try simp only [hl567001_108] at HO_552001)
            (try simp only [hl567001_108] at HO_559000)
            (try simp only [hl567001_108] at HO_559001)
            (try simp only [hl567001_108] at HO_567000)
            (try simp only [hl567001_108] at HO_597000)
            (try simp only [hl567001_108] at HO_597001)
            cases kq with
            | zero => exact absurd HA.out (by simp [laws_FnExactSayGone.j2])
            | succ kj108 =>
             have H := HA.out
             clear HA
             simp only [laws_FnExactSayGone.j2] at H
             by_cases c154 : x92_108 = true
             ·subst c154
              have H1 : (some false) = some r := by rw [if_pos rfl] at H; exact H
              clear H
              have H := H1
              clear H1
              obtain rfl := Option.some.inj H
              go_wp2
              go_ret
              exact ⟨zE, zB⟩
             ·replace c154 := Bool.eq_false_iff.mpr c154
              subst c154
              have H1 : ((laws_heldState.f kj108 t580 t581 1).bind fun t598 => (if t598 < 0 then (some false) else (if t598 = t579 then (some true) else (some false)))) = some r := by rw [if_neg (show ¬ (false = true) by decide)] at H; exact H
              clear H
              have H := H1
              clear H1
              replace H := Option.bind_eq_some_iff.mp H
              obtain ⟨t598, A1550, H⟩ := H
              replace H : (if t598 < 0 then (some false) else (if t598 = t579 then (some true) else (some false))) = some r := H
              have A155 := zm A1550
              clear A1550
              by_cases c156 : t598 < 0
              ·rw [if_pos c156] at H
               have c156b0 : decide (t598 < 0) = true := decide_eq_true c156
               clear c156
               obtain rfl := Option.some.inj H
               have hnb157 := NB566_536.out
               have hnc157 := NB536_566.out
               have hnb158 := NB566_551.out
               have hnc158 := NB551_566.out
               have hnb159 := NB566_558.out
               have hnc159 := NB558_566.out
               have hnb160 := NB566_596.out
               have hnc160 := NB596_566.out
               have hcz161_0 : wc.cell? ⟨gb566, 0, none⟩ = some (.slice Ao36 t580.length co36) := (blk_cell BK566.out 0).trans rfl
               have hcz161_1 : wc.cell? ⟨gb566, 1, none⟩ = some (.slice Ao41 t581.length co41) := (blk_cell BK566.out 1).trans rfl
               have hfz161_0 := blk_frozen BK566.out 0
               have hfz161_1 := blk_frozen BK566.out 1
               go_wp2_with (first | ((with_reducible refine gate_callee (f := 26) rfl ?_); refine zg (some 95) #[.agg #[.slice Ao36 t580.length co36, .slice Ao41 t581.length co41], .int .i64 1] Try.func26 ?_; (with_reducible refine (laws_heldState.calls kj108 _ _ t580 _ _ t581 1 t598 _ ?side1 ?side2 ?side3 ?side4 A155.out).mono ?_); (case side1 => repeat (first | exact (Kd.R_reads' HO_567000.out).2.2 | (with_reducible refine Kd.C_alloc ?_ _) | (with_reducible refine Kd.C_drewN ?_ _) | (with_reducible refine Kd.C_drew ?_))); (case side2 => exact (Kd.R_reads' HO_567000.out).2.1); (case side3 => repeat (first | exact (Kd.R_reads' HO_567001.out).2.2 | (with_reducible refine Kd.C_alloc ?_ _) | (with_reducible refine Kd.C_drewN ?_ _) | (with_reducible refine Kd.C_drew ?_))); (case side4 => exact (Kd.R_reads' HO_567001.out).2.1); rintro e w162 ⟨rfl, hb⟩; refine ⟨_, rfl, ?_⟩; replace HO_552000 := zm (Kd.R_below (zr HO_552000) hb); replace HO_552001 := zm (Kd.R_below (zr HO_552001) hb); replace HO_559000 := zm (Kd.R_below (zr HO_559000) hb); replace HO_559001 := zm (Kd.R_below (zr HO_559001) hb); replace HO_567000 := zm (Kd.R_below (zr HO_567000) hb); replace HO_567001 := zm (Kd.R_below (zr HO_567001) hb); replace HO_597000 := zm (Kd.R_below (zr HO_597000) hb); replace HO_597001 := zm (Kd.R_below (zr HO_597001) hb); replace BK536 := zm (blk_below (zb BK536) hb); replace BK551 := zm (blk_below (zb BK551) hb); replace BK558 := zm (blk_below (zb BK558) hb); replace BK566 := zm (blk_below (zb BK566) hb); replace BK596 := zm (blk_below (zb BK596) hb); replace HB := zm (below_step zB hb); clear hb))
               go_ret
               exact ⟨zE, zB⟩
              ·rw [if_neg c156] at H
               have c156b0 : decide (t598 < 0) = false := decide_eq_false c156
               clear c156
               by_cases c163 : t598 = t579
               ·rw [if_pos c163] at H
                have c163b0 : (t598 == t579) = true := beq_iff_eq.mpr c163
                have c163b1 : (t598 != t579) = false := bne_eq_false_iff_eq.mpr c163
                clear c163
                obtain rfl := Option.some.inj H
                have hnb164 := NB566_536.out
                have hnc164 := NB536_566.out
                have hnb165 := NB566_551.out
                have hnc165 := NB551_566.out
                have hnb166 := NB566_558.out
                have hnc166 := NB558_566.out
                have hnb167 := NB566_596.out
                have hnc167 := NB596_566.out
                have hcz168_0 : wc.cell? ⟨gb566, 0, none⟩ = some (.slice Ao36 t580.length co36) := (blk_cell BK566.out 0).trans rfl
                have hcz168_1 : wc.cell? ⟨gb566, 1, none⟩ = some (.slice Ao41 t581.length co41) := (blk_cell BK566.out 1).trans rfl
                have hfz168_0 := blk_frozen BK566.out 0
                have hfz168_1 := blk_frozen BK566.out 1
                go_wp2_with (first | ((with_reducible refine gate_callee (f := 26) rfl ?_); refine zg (some 95) #[.agg #[.slice Ao36 t580.length co36, .slice Ao41 t581.length co41], .int .i64 1] Try.func26 ?_; (with_reducible refine (laws_heldState.calls kj108 _ _ t580 _ _ t581 1 t598 _ ?side1 ?side2 ?side3 ?side4 A155.out).mono ?_); (case side1 => repeat (first | exact (Kd.R_reads' HO_567000.out).2.2 | (with_reducible refine Kd.C_alloc ?_ _) | (with_reducible refine Kd.C_drewN ?_ _) | (with_reducible refine Kd.C_drew ?_))); (case side2 => exact (Kd.R_reads' HO_567000.out).2.1); (case side3 => repeat (first | exact (Kd.R_reads' HO_567001.out).2.2 | (with_reducible refine Kd.C_alloc ?_ _) | (with_reducible refine Kd.C_drewN ?_ _) | (with_reducible refine Kd.C_drew ?_))); (case side4 => exact (Kd.R_reads' HO_567001.out).2.1); rintro e w169 ⟨rfl, hb⟩; refine ⟨_, rfl, ?_⟩; replace HO_552000 := zm (Kd.R_below (zr HO_552000) hb); replace HO_552001 := zm (Kd.R_below (zr HO_552001) hb); replace HO_559000 := zm (Kd.R_below (zr HO_559000) hb); replace HO_559001 := zm (Kd.R_below (zr HO_559001) hb); replace HO_567000 := zm (Kd.R_below (zr HO_567000) hb); replace HO_567001 := zm (Kd.R_below (zr HO_567001) hb); replace HO_597000 := zm (Kd.R_below (zr HO_597000) hb); replace HO_597001 := zm (Kd.R_below (zr HO_597001) hb); replace BK536 := zm (blk_below (zb BK536) hb); replace BK551 := zm (blk_below (zb BK551) hb); replace BK558 := zm (blk_below (zb BK558) hb); replace BK566 := zm (blk_below (zb BK566) hb); replace BK596 := zm (blk_below (zb BK596) hb); replace HB := zm (below_step zB hb); clear hb))
                go_ret
                exact ⟨zE, zB⟩
               ·rw [if_neg c163] at H
                have c163b0 : (t598 == t579) = false := beq_eq_false_iff_ne.mpr c163
                have c163b1 : (t598 != t579) = true := bne_iff_ne.mpr c163
                obtain rfl := Option.some.inj H
                have hnb170 := NB566_536.out
                have hnc170 := NB536_566.out
                have hnb171 := NB566_551.out
                have hnc171 := NB551_566.out
                have hnb172 := NB566_558.out
                have hnc172 := NB558_566.out
                have hnb173 := NB566_596.out
                have hnc173 := NB596_566.out
                have hcz174_0 : wc.cell? ⟨gb566, 0, none⟩ = some (.slice Ao36 t580.length co36) := (blk_cell BK566.out 0).trans rfl
                have hcz174_1 : wc.cell? ⟨gb566, 1, none⟩ = some (.slice Ao41 t581.length co41) := (blk_cell BK566.out 1).trans rfl
                have hfz174_0 := blk_frozen BK566.out 0
                have hfz174_1 := blk_frozen BK566.out 1
                go_wp2_with (first | ((with_reducible refine gate_callee (f := 26) rfl ?_); refine zg (some 95) #[.agg #[.slice Ao36 t580.length co36, .slice Ao41 t581.length co41], .int .i64 1] Try.func26 ?_; (with_reducible refine (laws_heldState.calls kj108 _ _ t580 _ _ t581 1 t598 _ ?side1 ?side2 ?side3 ?side4 A155.out).mono ?_); (case side1 => repeat (first | exact (Kd.R_reads' HO_567000.out).2.2 | (with_reducible refine Kd.C_alloc ?_ _) | (with_reducible refine Kd.C_drewN ?_ _) | (with_reducible refine Kd.C_drew ?_))); (case side2 => exact (Kd.R_reads' HO_567000.out).2.1); (case side3 => repeat (first | exact (Kd.R_reads' HO_567001.out).2.2 | (with_reducible refine Kd.C_alloc ?_ _) | (with_reducible refine Kd.C_drewN ?_ _) | (with_reducible refine Kd.C_drew ?_))); (case side4 => exact (Kd.R_reads' HO_567001.out).2.1); rintro e w175 ⟨rfl, hb⟩; refine ⟨_, rfl, ?_⟩; replace HO_552000 := zm (Kd.R_below (zr HO_552000) hb); replace HO_552001 := zm (Kd.R_below (zr HO_552001) hb); replace HO_559000 := zm (Kd.R_below (zr HO_559000) hb); replace HO_559001 := zm (Kd.R_below (zr HO_559001) hb); replace HO_567000 := zm (Kd.R_below (zr HO_567000) hb); replace HO_567001 := zm (Kd.R_below (zr HO_567001) hb); replace HO_597000 := zm (Kd.R_below (zr HO_597000) hb); replace HO_597001 := zm (Kd.R_below (zr HO_597001) hb); replace BK536 := zm (blk_below (zb BK536) hb); replace BK551 := zm (blk_below (zb BK551) hb); replace BK558 := zm (blk_below (zb BK558) hb); replace BK566 := zm (blk_below (zb BK566) hb); replace BK596 := zm (blk_below (zb BK596) hb); replace HB := zm (below_step zB hb); clear hb))
                go_ret
                exact ⟨zE, zB⟩
          ·rw [if_neg c106] at H
           have c106b0 : (t582 == t579) = false := beq_eq_false_iff_ne.mpr c106
           have c106b1 : (t582 != t579) = true := bne_iff_ne.mpr c106
           obtain rfl := Option.some.inj H
           have hnb176 := NB566_536.out
           have hnc176 := NB536_566.out
           have hnb177 := NB566_551.out
           have hnc177 := NB551_566.out
           have hnb178 := NB566_558.out
           have hnc178 := NB558_566.out
           have hcz179_0 : wc.cell? ⟨gb566, 0, none⟩ = some (.slice Ao36 t559.length co36) := (blk_cell BK566.out 0).trans rfl
           have hcz179_1 : wc.cell? ⟨gb566, 1, none⟩ = some (.slice Ao41 t562.length co41) := (blk_cell BK566.out 1).trans rfl
           have hfz179_0 := blk_frozen BK566.out 0
           have hfz179_1 := blk_frozen BK566.out 1
           go_wp2_with (first | ((with_reducible refine gate_callee (f := 19) rfl ?_); refine zg (some 68) #[.agg #[.slice Ao36 t559.length co36, .slice Ao41 t562.length co41], .int .i64 1] Try.func19 ?_; (with_reducible refine (laws_markState.calls kj64 (fun k_ => some k_ = (.slice Ao36 t559.length co36 : Value).ownBlock) (.slice Ao36 t559.length co36) t559 (fun k_ => some k_ = (.slice Ao41 t562.length co41 : Value).ownBlock) (.slice Ao41 t562.length co41) t562 1 t579 t580 t581 w _ zB ?side2 ?side3 A96.out).mono ?_); (case side2 => exact Kd.R_tight rfl HO_567000.out); (case side3 => exact Kd.R_tight rfl HO_567001.out); rintro e w180 ⟨rfl, hy0, hy1, hb, hkp⟩; refine ⟨_, rfl, ?_⟩; replace HO_552000 := zm (Kd.R_mono (ok' := fun k_ => some k_ ≠ (.slice Ao29 t576.length co29 : Value).ownBlock ∧ some k_ ≠ (.slice Ao36 t559.length co36 : Value).ownBlock) (Kd.R_keptB ((Kd.R_apart' HO_552000.out (Kd.R_typed HO_567001.out) (by decide))) hkp (fun k_ hk_ hs_ => Or.elim hs_ (fun e_ => (hk_.1.2) e_) (fun e_ => (hk_.2) e_))) (fun k_ hk_ => ⟨hk_.1.1.1, hk_.1.1.2⟩)); replace HO_552001 := zm (Kd.R_mono (ok' := fun k_ => some k_ ≠ (.slice Ao33 t577.length co33 : Value).ownBlock ∧ some k_ ≠ (.slice Ao41 t562.length co41 : Value).ownBlock) (Kd.R_keptB ((Kd.R_apart' HO_552001.out (Kd.R_typed HO_567000.out) (by decide))) hkp (fun k_ hk_ hs_ => Or.elim hs_ (fun e_ => (hk_.2) e_) (fun e_ => (hk_.1.2) e_))) (fun k_ hk_ => ⟨hk_.1.1.1, hk_.1.1.2⟩)); replace HO_559000 := zm (Kd.R_mono (ok' := fun k_ => some k_ ≠ (.slice Ao22 t544.length co22 : Value).ownBlock ∧ some k_ ≠ (.slice Ao36 t559.length co36 : Value).ownBlock) (Kd.R_keptB ((Kd.R_apart' HO_559000.out (Kd.R_typed HO_567001.out) (by decide))) hkp (fun k_ hk_ hs_ => Or.elim hs_ (fun e_ => (hk_.1.2) e_) (fun e_ => (hk_.2) e_))) (fun k_ hk_ => ⟨hk_.1.1.1, hk_.1.1.2⟩)); replace HO_559001 := zm (Kd.R_mono (ok' := fun k_ => some k_ ≠ (.slice Ao25 t547.length co25 : Value).ownBlock ∧ some k_ ≠ (.slice Ao41 t562.length co41 : Value).ownBlock) (Kd.R_keptB ((Kd.R_apart' HO_559001.out (Kd.R_typed HO_567000.out) (by decide))) hkp (fun k_ hk_ hs_ => Or.elim hs_ (fun e_ => (hk_.2) e_) (fun e_ => (hk_.1.2) e_))) (fun k_ hk_ => ⟨hk_.1.1.1, hk_.1.1.2⟩)); replace BK536 := zm (blk_kept (zb BK536) hkp (fun hs_ => Or.elim hs_ (fun e_ => (fun e_ => (Kd.R_ne HO_567000.out BK536.out (by decide)) e_) e_) (fun e_ => (fun e_ => (Kd.R_ne HO_567001.out BK536.out (by decide)) e_) e_))); replace BK551 := zm (blk_kept (zb BK551) hkp (fun hs_ => Or.elim hs_ (fun e_ => (fun e_ => (Kd.R_ne HO_567000.out BK551.out (by decide)) e_) e_) (fun e_ => (fun e_ => (Kd.R_ne HO_567001.out BK551.out (by decide)) e_) e_))); replace BK558 := zm (blk_kept (zb BK558) hkp (fun hs_ => Or.elim hs_ (fun e_ => (fun e_ => (Kd.R_ne HO_567000.out BK558.out (by decide)) e_) e_) (fun e_ => (fun e_ => (Kd.R_ne HO_567001.out BK558.out (by decide)) e_) e_))); replace BK566 := zm (blk_kept (zb BK566) hkp (fun hs_ => Or.elim hs_ (fun e_ => (fun e_ => (Kd.R_ne HO_567000.out BK566.out (by decide)) e_) e_) (fun e_ => (fun e_ => (Kd.R_ne HO_567001.out BK566.out (by decide)) e_) e_))); replace HO_567000 := zm (Kd.R_reok rfl hy0 (fun k_ e_ => HO_567000.out.1 k_ e_)); replace HO_567001 := zm (Kd.R_reok rfl hy1 (fun k_ e_ => HO_567001.out.1 k_ e_)); replace HB := zm (hb); clear hb hkp hy0; (try clear hy1); have hcz181_0 : w180.cell? ⟨gb566, 0, none⟩ = some (.slice Ao36 t559.length co36) := (blk_cell BK566.out 0).trans rfl; have hcz181_1 : w180.cell? ⟨gb566, 1, none⟩ = some (.slice Ao41 t562.length co41) := (blk_cell BK566.out 1).trans rfl; have hfz181_0 := blk_frozen BK566.out 0; have hfz181_1 := blk_frozen BK566.out 1) | ((with_reducible refine gate_callee (f := 26) rfl ?_); refine goesL_ (some 71) rfl rfl Try.func26 (by kernel_rfl) rfl #[.agg #[.slice Ao36 t580.length co36, .slice Ao41 t581.length co41], .int .i64 1] rfl (by (try simp only [List.map_toArray, List.map_cons, List.map_nil]); first | done | (rw [show t580.length = t559.length from (Kd.R_reads' HO_567000.out).1.symm, show t581.length = t562.length from (Kd.R_reads' HO_567001.out).1.symm] <;> rfl) | rfl | (simp only [List.length_drop, List.length_take]; rfl)) ?_; (with_reducible refine (laws_heldState.calls kj64 _ _ t580 _ _ t581 1 t582 _ ?side1 ?side2 ?side3 ?side4 A97.out).mono ?_); (case side1 => repeat (first | exact (Kd.R_reads' HO_567000.out).2.2 | (with_reducible refine Kd.C_alloc ?_ _) | (with_reducible refine Kd.C_drewN ?_ _) | (with_reducible refine Kd.C_drew ?_))); (case side2 => rw [show t580.length = t559.length from (Kd.R_reads' HO_567000.out).1.symm]; exact (Kd.R_reads' HO_567000.out).2.1); (case side3 => repeat (first | exact (Kd.R_reads' HO_567001.out).2.2 | (with_reducible refine Kd.C_alloc ?_ _) | (with_reducible refine Kd.C_drewN ?_ _) | (with_reducible refine Kd.C_drew ?_))); (case side4 => rw [show t581.length = t562.length from (Kd.R_reads' HO_567001.out).1.symm]; exact (Kd.R_reads' HO_567001.out).2.1); rintro e w182 ⟨rfl, hb⟩; refine ⟨_, rfl, ?_⟩; replace HO_552000 := zm (Kd.R_below (zr HO_552000) hb); replace HO_552001 := zm (Kd.R_below (zr HO_552001) hb); replace HO_559000 := zm (Kd.R_below (zr HO_559000) hb); replace HO_559001 := zm (Kd.R_below (zr HO_559001) hb); replace HO_567000 := zm (Kd.R_below (zr HO_567000) hb); replace HO_567001 := zm (Kd.R_below (zr HO_567001) hb); replace BK536 := zm (blk_below (zb BK536) hb); replace BK551 := zm (blk_below (zb BK551) hb); replace BK558 := zm (blk_below (zb BK558) hb); replace BK566 := zm (blk_below (zb BK566) hb); replace HB := zm (below_step zB hb); clear hb))
           go_ret
           exact ⟨zE, zB⟩
     ·replace c63 := Bool.eq_false_iff.mpr c63
      subst c63
      have H1 : (some false) = some r := by rw [if_neg (show ¬ (false = true) by decide)] at H; exact H
      clear H
      have H := H1
      clear H1
      obtain rfl := Option.some.inj H
      try go_wp2
      replace HO_552000 := zm (Kd.R_drew HO_552000.out)
      replace HO_552001 := zm (Kd.R_drew HO_552001.out)
      replace HO_559000 := zm (Kd.R_drew HO_559000.out)
      replace HO_559001 := zm (Kd.R_drew HO_559001.out)
      replace HO_567000 := zm (Kd.R_drew HO_567000.out)
      replace HO_567001 := zm (Kd.R_drew HO_567001.out)
      replace BK536 := zm (blk_drew BK536.out)
      replace BK551 := zm (blk_drew BK551.out)
      replace BK558 := zm (blk_drew BK558.out)
      replace BK566 := zm (blk_drew BK566.out)
      replace HB := zm (below_drew1 HB.out)
      refine start_ (n := 5) (S := fun w' => w'.cell? ⟨gb558, 0, none⟩ = some (.slice Ao29 t552.length co29) ∧ w'.cell? ⟨gb558, 1, none⟩ = some (.slice Ao33 t555.length co33) ∧ w'.cell? ⟨gb536, 0, none⟩ = some (.slice A0_0 l0_0.length c0_0) ∧ w'.cell? ⟨gb536, 1, none⟩ = some (.slice A0_1 l0_1.length c0_1)) (ds := []) (zl 5 0) (by kernel_rfl) rfl rfl ⟨(blk_cell BK558.out 0).trans rfl, (blk_cell BK558.out 1).trans rfl, (blk_cell BK536.out 0).trans rfl, (blk_cell BK536.out 1).trans rfl⟩ (fun hHeld => ?_)
      generalize wc.drew = w183 at HO_552000 HO_552001 HO_559000 HO_559001 HO_567000 HO_567001 BK536 BK551 BK558 BK566 HB hHeld ⊢
      refine zt 0 (some 45) (zl 5 1) ?_
      refine zt 1 (some 46) (zl 5 3) ?_
      refine zo 2 (some 47) (zl 5 7) (fun K hK => ?_)
      refine zgo #[.agg #[.slice A0_0 l0_0.length c0_0, .slice A0_1 l0_1.length c0_1]] Try.func15 ?_
      with_reducible refine (laws_toState.calls kj11 _ _ l0_0 _ _ l0_1 t568 t571 _ (zk (Kd.C_below HR0_0.out HB.out)) HC0_0.out (zk (Kd.C_below HR0_1.out HB.out)) HC0_1.out A61.out).mono ?_
      rintro e w184 ⟨v569, v572, rfl, ho0, ho1, hb⟩
      refine ⟨_, rfl, ?_⟩
      have HO570 := zm (Kd.R_lower (Kd.R_new' (Kd.R_new' (Kd.R_new' ho0 (Kd.R_lt (zr HO_552000))) (Kd.R_lt (zr HO_559000))) (Kd.R_lt (zr HO_567000))) (below_size zB))
      replace HO_552000 := zm (Kd.R_elder' (zr HO_552000) (Kd.R_base ho0) hb)
      replace HO_559000 := zm (Kd.R_elder' (zr HO_559000) (Kd.R_base ho0) hb)
      replace HO_567000 := zm (Kd.R_elder' (zr HO_567000) (Kd.R_base ho0) hb)
      have HO573 := zm (Kd.R_lower (Kd.R_new' (Kd.R_new' (Kd.R_new' ho1 (Kd.R_lt (zr HO_552001))) (Kd.R_lt (zr HO_559001))) (Kd.R_lt (zr HO_567001))) (below_size zB))
      replace HO_552001 := zm (Kd.R_elder' (zr HO_552001) (Kd.R_base ho1) hb)
      replace HO_559001 := zm (Kd.R_elder' (zr HO_559001) (Kd.R_base ho1) hb)
      replace HO_567001 := zm (Kd.R_elder' (zr HO_567001) (Kd.R_base ho1) hb)
      replace BK536 := zm (blk_below (zb BK536) hb)
      replace BK551 := zm (blk_below (zb BK551) hb)
      replace BK558 := zm (blk_below (zb BK558) hb)
      replace BK566 := zm (blk_below (zb BK566) hb)
      replace HB := zm (below_step zB hb)
      (try clear hb)
      (try clear hb2)
      (try clear hk)
      (try clear hi)
      (try clear ho0)
      (try clear ho1)
      obtain ⟨Ao185, co185, eo185⟩ := Kd.R_slice HO570.out
      (first | subst eo185 | (injection eo185 with f1_ f2_ f3_; have f4_ := f1_.symm; have f5_ := f3_.symm; clear f1_ f2_ f3_; subst f4_; subst f5_))
      obtain ⟨Ao186, co186, eo186⟩ := Kd.R_slice HO573.out
      (first | subst eo186 | (injection eo186 with f1_ f2_ f3_; have f4_ := f1_.symm; have f5_ := f3_.symm; clear f1_ f2_ f3_; subst f4_; subst f5_))
      refine hK.out _ _ ⟨(blk_cell BK558.out 0).trans rfl, (blk_cell BK558.out 1).trans rfl, (blk_cell BK536.out 0).trans rfl, (blk_cell BK536.out 1).trans rfl⟩ (fun hHeld => ?_)
      clear hK K
      refine zn ?_
      refine zo 3 (some 48) (zl 5 15) (fun K hK => ?_)
      refine zgo #[.agg #[.slice Ao29 t552.length co29, .slice Ao33 t555.length co33], .agg #[.slice Ao185 t568.length co185, .slice Ao186 t571.length co186]] Try.func18 ?_
      with_reducible refine (laws_eqState.calls kj11 _ _ t552 _ _ t555 _ _ t568 _ _ t571 false _ ?side1 ?side2 ?side3 ?side4 ?side5 ?side6 ?side7 ?side8 A62.out).mono ?_
      (case side1 => repeat (first | exact (Kd.R_reads' HO_559000.out).2.2 | (with_reducible refine Kd.C_alloc ?_ _) | (with_reducible refine Kd.C_drewN ?_ _) | (with_reducible refine Kd.C_drew ?_)))
      (case side2 => exact (Kd.R_reads' HO_559000.out).2.1)
      (case side3 => repeat (first | exact (Kd.R_reads' HO_559001.out).2.2 | (with_reducible refine Kd.C_alloc ?_ _) | (with_reducible refine Kd.C_drewN ?_ _) | (with_reducible refine Kd.C_drew ?_)))
      (case side4 => exact (Kd.R_reads' HO_559001.out).2.1)
      (case side5 => repeat (first | exact (Kd.R_reads' HO570.out).2.2 | (with_reducible refine Kd.C_alloc ?_ _) | (with_reducible refine Kd.C_drewN ?_ _) | (with_reducible refine Kd.C_drew ?_)))
      (case side6 => exact (Kd.R_reads' HO570.out).2.1)
      (case side7 => repeat (first | exact (Kd.R_reads' HO573.out).2.2 | (with_reducible refine Kd.C_alloc ?_ _) | (with_reducible refine Kd.C_drewN ?_ _) | (with_reducible refine Kd.C_drew ?_)))
      (case side8 => exact (Kd.R_reads' HO573.out).2.1)
      rintro e w187 ⟨rfl, hb⟩
      refine ⟨_, rfl, ?_⟩
      replace HO_552000 := zm (Kd.R_below (zr HO_552000) hb)
      replace HO_552001 := zm (Kd.R_below (zr HO_552001) hb)
      replace HO_559000 := zm (Kd.R_below (zr HO_559000) hb)
      replace HO_559001 := zm (Kd.R_below (zr HO_559001) hb)
      replace HO_567000 := zm (Kd.R_below (zr HO_567000) hb)
      replace HO_567001 := zm (Kd.R_below (zr HO_567001) hb)
      replace HO570 := zm (Kd.R_below (zr HO570) hb)
      replace HO573 := zm (Kd.R_below (zr HO573) hb)
      replace BK536 := zm (blk_below (zb BK536) hb)
      replace BK551 := zm (blk_below (zb BK551) hb)
      replace BK558 := zm (blk_below (zb BK558) hb)
      replace BK566 := zm (blk_below (zb BK566) hb)
      replace HB := zm (below_step zB hb)
      (try clear hb)
      (try clear hb2)
      (try clear hk)
      (try clear hi)
      refine hK.out _ _ ⟨(blk_cell BK558.out 0).trans rfl, (blk_cell BK558.out 1).trans rfl, (blk_cell BK536.out 0).trans rfl, (blk_cell BK536.out 1).trans rfl⟩ (fun hHeld => ?_)
      clear hK K
      refine zn ?_
      refine zp 4 (some 49) (zl 5 31) ?_
      refine done_ (by kernel_rfl) ?_
      try go_wp2
      go_ret
      exact ⟨zE, zB⟩

def laws_FnExactSayGone.Pure : Prop := ∀ (l0_0 : List (S94)) (l0_1 : List (S98)) (a1 : Int), l0_0.length ≤ maxLen → l0_0.length * 56 ≤ 140737488351232 → (∀ x ∈ l0_0, ((Lit.int .i64 x.f0).wf = true ∧ ((Lit.int .i64 x.f1.f0).wf = true ∧ ((Lit.int .i64 x.f1.f1).wf = true ∧ ((Lit.int .i64 x.f1.f2).wf = true ∧ ((Lit.int .i64 x.f1.f3).wf = true ∧ x.f1.f4.size ≤ 140737488351232)))))) → l0_1.length ≤ maxLen → l0_1.length * 16 ≤ 140737488351232 → (∀ x ∈ l0_1, ((Lit.int .i64 x.f0).wf = true ∧ (Lit.int .i64 x.f1).wf = true)) → (Lit.int .i64 a1).wf = true → ∃ k, laws_FnExactSayGone.f k l0_0 l0_1 a1 = some true

end Go.Proofs.Ytgapdegniepjiaa.P
