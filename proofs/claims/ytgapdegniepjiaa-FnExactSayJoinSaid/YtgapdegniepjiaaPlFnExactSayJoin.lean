-- by a program of this session, for this seat
import Derived.Test.YtgapdegniepjiaaZ
import Derived.Test.YtgapdegniepjiaaP0
import Derived.Test.YtgapdegniepjiaaPaa
import Derived.Test.YtgapdegniepjiaaPac
import Derived.Test.YtgapdegniepjiaaPag
import Derived.Test.YtgapdegniepjiaaPah
import Derived.Test.YtgapdegniepjiaaPam
import Derived.Test.YtgapdegniepjiaaPao
import Derived.Test.YtgapdegniepjiaaPap
namespace Go.Proofs.Ytgapdegniepjiaa.P
open Go.RowKit Go.Proofs.YtgapdegniepjiaaW.PrintWords Go.Proofs.YtgapdegniepjiaaW.PrintLast Go.Proofs.YtgapdegniepjiaaW.PrintMore Go.Proofs.Ytgapdegniepjiaa.Z
attribute [local go_sem] max2_int min2_int max_two min_two max_three min_three max_four min_four   -- for this text's walks alone
set_option linter.unusedVariables false
set_option linter.unusedSimpArgs false

/-! ### laws_FnExactSayJoin: function 8 -/
mutual
def laws_FnExactSayJoin.j0 : Nat → Int → Int → Int → Bool → List (S94) → List (S98) → List (S68) → List (S72) → List (S68) → List (S72) → List (S68) → List (S72) → Option (Bool)
 | 0, _, _, _, _, _, _, _, _, _, _, _, _ => none
 | k + 1, x1, x7, x10, x44, x848000, x848001, x863000, x863001, x870000, x870001, x878000, x878001 => if x44 = true then (some false) else ((laws_toState.f k x848000 x848001).bind fun bt879 => ((laws_eqState.f k x870000 x870001 bt879.1 bt879.2).bind fun t885 => (if t885 = true then ((laws_markState.f k x870000 x870001 1).bind fun bt886 => (if bt886.1 < 0 then (laws_FnExactSayJoin.j1 k x1 x7 true x848000 x848001 x863000 x863001 x878000 x878001) else ((laws_eqState.f k x878000 x878001 x863000 x863001).bind fun t889 => (if t889 = true then (laws_FnExactSayJoin.j1 k x1 x7 (x10 != x7) x848000 x848001 x863000 x863001 x878000 x878001) else (laws_FnExactSayJoin.j1 k x1 x7 true x848000 x848001 x863000 x863001 x878000 x878001))))) else (some false))))
def laws_FnExactSayJoin.j1 : Nat → Int → Int → Bool → List (S94) → List (S98) → List (S68) → List (S72) → List (S68) → List (S72) → Option (Bool)
 | 0, _, _, _, _, _, _, _, _, _ => none
 | k + 1, x1, x7, x65, x848000, x848001, x863000, x863001, x878000, x878001 => if x65 = true then (some false) else ((laws_markState.f k x878000 x878001 1).bind fun bt890 => ((laws_heldState.f k bt890.2.1 bt890.2.2 1).bind fun t893 => (if t893 < 0 then (some false) else (if t893 = bt890.1 then ((laws_toState.f k x848000 x848001).bind fun bt894 => ((impl_SayJoin.f k bt894.1 bt894.2 x1).bind fun bt900 => ((laws_eqState.f k bt900.1 bt900.2.1 x863000 x863001).bind fun t908 => (if t908 = true then (laws_FnExactSayJoin.j2 k bt890.1 (bt900.2.2 != x7) bt890.2.1 bt890.2.2) else (laws_FnExactSayJoin.j2 k bt890.1 true bt890.2.1 bt890.2.2))))) else (some false)))))
def laws_FnExactSayJoin.j2 : Nat → Int → Bool → List (S68) → List (S72) → Option (Bool)
 | 0, _, _, _, _ => none
 | k + 1, x12, x92, x878000, x878001 => if x92 = true then (some false) else ((laws_heldState.f k x878000 x878001 1).bind fun t909 => (if t909 < 0 then (some false) else (if t909 = x12 then (some true) else (some false))))
end
def laws_FnExactSayJoin.f (k : Nat) (l0_0 : List (S94)) (l0_1 : List (S98)) (a1 : Int) : Option (Bool) := (laws_szState.f k l0_0 l0_1 1048576).bind fun t848 => (if t848 < 0 then (some true) else ((laws_toState.f k l0_0 l0_1).bind fun bt849 => ((spec_SayJoin.f k bt849.1 bt849.2 a1).bind fun bt855 => ((laws_toState.f k l0_0 l0_1).bind fun bt863 => ((impl_SayJoin.f k bt863.1 bt863.2 a1).bind fun bt870 => ((laws_eqState.f k bt870.1 bt870.2.1 bt855.1 bt855.2.1).bind fun t878 => (if t878 = true then (laws_FnExactSayJoin.j0 k a1 bt855.2.2 bt870.2.2 (bt870.2.2 != bt855.2.2) l0_0 l0_1 bt855.1 bt855.2.1 bt863.1 bt863.2 bt870.1 bt870.2.1) else (laws_FnExactSayJoin.j0 k a1 bt855.2.2 bt870.2.2 true l0_0 l0_1 bt855.1 bt855.2.1 bt863.1 bt863.2 bt870.1 bt870.2.1))))))))
theorem laws_FnExactSayJoin.mono_l : ∀ k, (∀ y0 y1 y2 y3 y4 y5 y6 y7 y8 y9 y10 y11, LeO (laws_FnExactSayJoin.j0 k y0 y1 y2 y3 y4 y5 y6 y7 y8 y9 y10 y11) (laws_FnExactSayJoin.j0 (k + 1) y0 y1 y2 y3 y4 y5 y6 y7 y8 y9 y10 y11)) ∧ (∀ y0 y1 y2 y3 y4 y5 y6 y7 y8, LeO (laws_FnExactSayJoin.j1 k y0 y1 y2 y3 y4 y5 y6 y7 y8) (laws_FnExactSayJoin.j1 (k + 1) y0 y1 y2 y3 y4 y5 y6 y7 y8)) ∧ (∀ y0 y1 y2 y3, LeO (laws_FnExactSayJoin.j2 k y0 y1 y2 y3) (laws_FnExactSayJoin.j2 (k + 1) y0 y1 y2 y3))
 | 0 => ⟨fun _ _ _ _ _ _ _ _ _ _ _ _ r h => by simp [laws_FnExactSayJoin.j0] at h, fun _ _ _ _ _ _ _ _ _ r h => by simp [laws_FnExactSayJoin.j1] at h, fun _ _ _ _ r h => by simp [laws_FnExactSayJoin.j2] at h⟩
 | k + 1 => by
  obtain ⟨ih0, ih1, ih2⟩ := laws_FnExactSayJoin.mono_l k
  refine ⟨?_, ?_, ?_⟩
  ·intro y0 y1 y2 y3 y4 y5 y6 y7 y8 y9 y10 y11
   unfold laws_FnExactSayJoin.j0
   repeat' first
   | (with_reducible exact ih0 _ _ _ _ _ _ _ _ _ _ _ _)
   | (with_reducible exact ih1 _ _ _ _ _ _ _ _ _)
   | (with_reducible exact ih2 _ _ _ _)
   | (with_reducible exact impl_SayJoin.mono _ _ _ _)
   | (with_reducible exact laws_eqState.mono _ _ _ _ _)
   | (with_reducible exact laws_heldState.mono _ _ _ _)
   | (with_reducible exact laws_markState.mono _ _ _ _)
   | (with_reducible exact laws_szState.mono _ _ _ _)
   | (with_reducible exact laws_toState.mono _ _ _)
   | (with_reducible exact spec_SayJoin.mono _ _ _ _)
   | (with_reducible exact LeO.refl _)
   | (with_reducible exact LeO.none _)
   | (with_reducible refine LeO.ite ?_ ?_)
   | (with_reducible refine LeO.bind ?_ (fun _ => ?_))
   | exact ih0 _ _ _ _ _ _ _ _ _ _ _ _
   | exact ih1 _ _ _ _ _ _ _ _ _
   | exact ih2 _ _ _ _
   | exact impl_SayJoin.mono _ _ _ _
   | exact laws_eqState.mono _ _ _ _ _
   | exact laws_heldState.mono _ _ _ _
   | exact laws_markState.mono _ _ _ _
   | exact laws_szState.mono _ _ _ _
   | exact laws_toState.mono _ _ _
   | exact spec_SayJoin.mono _ _ _ _
   | exact LeO.none _
   | refine LeO.ite ?_ ?_
   | refine LeO.bind ?_ (fun _ => ?_)
  ·intro y0 y1 y2 y3 y4 y5 y6 y7 y8
   unfold laws_FnExactSayJoin.j1
   repeat' first
   | (with_reducible exact ih0 _ _ _ _ _ _ _ _ _ _ _ _)
   | (with_reducible exact ih1 _ _ _ _ _ _ _ _ _)
   | (with_reducible exact ih2 _ _ _ _)
   | (with_reducible exact impl_SayJoin.mono _ _ _ _)
   | (with_reducible exact laws_eqState.mono _ _ _ _ _)
   | (with_reducible exact laws_heldState.mono _ _ _ _)
   | (with_reducible exact laws_markState.mono _ _ _ _)
   | (with_reducible exact laws_szState.mono _ _ _ _)
   | (with_reducible exact laws_toState.mono _ _ _)
   | (with_reducible exact spec_SayJoin.mono _ _ _ _)
   | (with_reducible exact LeO.refl _)
   | (with_reducible exact LeO.none _)
   | (with_reducible refine LeO.ite ?_ ?_)
   | (with_reducible refine LeO.bind ?_ (fun _ => ?_))
   | exact ih0 _ _ _ _ _ _ _ _ _ _ _ _
   | exact ih1 _ _ _ _ _ _ _ _ _
   | exact ih2 _ _ _ _
   | exact impl_SayJoin.mono _ _ _ _
   | exact laws_eqState.mono _ _ _ _ _
   | exact laws_heldState.mono _ _ _ _
   | exact laws_markState.mono _ _ _ _
   | exact laws_szState.mono _ _ _ _
   | exact laws_toState.mono _ _ _
   | exact spec_SayJoin.mono _ _ _ _
   | exact LeO.none _
   | refine LeO.ite ?_ ?_
   | refine LeO.bind ?_ (fun _ => ?_)
  ·intro y0 y1 y2 y3
   unfold laws_FnExactSayJoin.j2
   repeat' first
   | (with_reducible exact ih0 _ _ _ _ _ _ _ _ _ _ _ _)
   | (with_reducible exact ih1 _ _ _ _ _ _ _ _ _)
   | (with_reducible exact ih2 _ _ _ _)
   | (with_reducible exact impl_SayJoin.mono _ _ _ _)
   | (with_reducible exact laws_eqState.mono _ _ _ _ _)
   | (with_reducible exact laws_heldState.mono _ _ _ _)
   | (with_reducible exact laws_markState.mono _ _ _ _)
   | (with_reducible exact laws_szState.mono _ _ _ _)
   | (with_reducible exact laws_toState.mono _ _ _)
   | (with_reducible exact spec_SayJoin.mono _ _ _ _)
   | (with_reducible exact LeO.refl _)
   | (with_reducible exact LeO.none _)
   | (with_reducible refine LeO.ite ?_ ?_)
   | (with_reducible refine LeO.bind ?_ (fun _ => ?_))
   | exact ih0 _ _ _ _ _ _ _ _ _ _ _ _
   | exact ih1 _ _ _ _ _ _ _ _ _
   | exact ih2 _ _ _ _
   | exact impl_SayJoin.mono _ _ _ _
   | exact laws_eqState.mono _ _ _ _ _
   | exact laws_heldState.mono _ _ _ _
   | exact laws_markState.mono _ _ _ _
   | exact laws_szState.mono _ _ _ _
   | exact laws_toState.mono _ _ _
   | exact spec_SayJoin.mono _ _ _ _
   | exact LeO.none _
   | refine LeO.ite ?_ ?_
   | refine LeO.bind ?_ (fun _ => ?_)
theorem laws_FnExactSayJoin.mono : ∀ a0 a1 a2 k, LeO (laws_FnExactSayJoin.f k a0 a1 a2) (laws_FnExactSayJoin.f (k + 1) a0 a1 a2) := by
 intro a0 a1 a2 k
 obtain ⟨ih0, ih1, ih2⟩ := laws_FnExactSayJoin.mono_l k
 unfold laws_FnExactSayJoin.f
 repeat' first
   | (with_reducible exact ih0 _ _ _ _ _ _ _ _ _ _ _ _)
   | (with_reducible exact ih1 _ _ _ _ _ _ _ _ _)
   | (with_reducible exact ih2 _ _ _ _)
   | (with_reducible exact impl_SayJoin.mono _ _ _ _)
   | (with_reducible exact laws_eqState.mono _ _ _ _ _)
   | (with_reducible exact laws_heldState.mono _ _ _ _)
   | (with_reducible exact laws_markState.mono _ _ _ _)
   | (with_reducible exact laws_szState.mono _ _ _ _)
   | (with_reducible exact laws_toState.mono _ _ _)
   | (with_reducible exact spec_SayJoin.mono _ _ _ _)
   | (with_reducible exact LeO.refl _)
   | (with_reducible exact LeO.none _)
   | (with_reducible refine LeO.ite ?_ ?_)
   | (with_reducible refine LeO.bind ?_ (fun _ => ?_))
   | exact ih0 _ _ _ _ _ _ _ _ _ _ _ _
   | exact ih1 _ _ _ _ _ _ _ _ _
   | exact ih2 _ _ _ _
   | exact impl_SayJoin.mono _ _ _ _
   | exact laws_eqState.mono _ _ _ _ _
   | exact laws_heldState.mono _ _ _ _
   | exact laws_markState.mono _ _ _ _
   | exact laws_szState.mono _ _ _ _
   | exact laws_toState.mono _ _ _
   | exact spec_SayJoin.mono _ _ _ _
   | exact LeO.none _
   | refine LeO.ite ?_ ?_
   | refine LeO.bind ?_ (fun _ => ?_)
set_option maxHeartbeats 8000000 in
set_option maxRecDepth 100000 in
theorem laws_FnExactSayJoin.calls (k : Nat) (A0_0 : Option Addr) (c0_0 : Nat) (l0_0 : List (S94)) (A0_1 : Option Addr) (c0_1 : Nat) (l0_1 : List (S98)) (a1 : Int) (r : Bool) (w : World) (hr0_0 : Kd.C k94 w A0_0 l0_0.length l0_0) (hc0_0 : l0_0.length ≤ c0_0) (hr0_1 : Kd.C k98 w A0_1 l0_1.length l0_1) (hc0_1 : l0_1.length ≤ c0_1) (h : laws_FnExactSayJoin.f k l0_0 l0_1 a1 = some r) :
  Calls Try.prog 8 #[.agg #[.slice A0_0 l0_0.length c0_0, .slice A0_1 l0_1.length c0_1], .int .i64 a1] w fun e w' => e = .returned (.bool r) ∧ Below w.heap.size w w' := by
 have hu25 := Try.underlying25
 have hu32 := Try.underlying32
 have HR0_0 := zm hr0_0
 have HC0_0 := zm hc0_0
 clear hr0_0 hc0_0
 have HR0_1 := zm hr0_1
 have HC0_1 := zm hc0_1
 clear hr0_1 hc0_1
 have HB := zm (Below.refl w.heap.size w)
 have H : ((laws_szState.f k l0_0 l0_1 1048576).bind fun t848 => (if t848 < 0 then (some true) else ((laws_toState.f k l0_0 l0_1).bind fun bt849 => ((spec_SayJoin.f k bt849.1 bt849.2 a1).bind fun bt855 => ((laws_toState.f k l0_0 l0_1).bind fun bt863 => ((impl_SayJoin.f k bt863.1 bt863.2 a1).bind fun bt870 => ((laws_eqState.f k bt870.1 bt870.2.1 bt855.1 bt855.2.1).bind fun t878 => (if t878 = true then (laws_FnExactSayJoin.j0 k a1 bt855.2.2 bt870.2.2 (bt870.2.2 != bt855.2.2) l0_0 l0_1 bt855.1 bt855.2.1 bt863.1 bt863.2 bt870.1 bt870.2.1) else (laws_FnExactSayJoin.j0 k a1 bt855.2.2 bt870.2.2 true l0_0 l0_1 bt855.1 bt855.2.1 bt863.1 bt863.2 bt870.1 bt870.2.1))))))))) = some r := h
 clear h
 replace H := Option.bind_eq_some_iff.mp H
 obtain ⟨t848, A30, H⟩ := H
 replace H : (if t848 < 0 then (some true) else ((laws_toState.f k l0_0 l0_1).bind fun bt849 => ((spec_SayJoin.f k bt849.1 bt849.2 a1).bind fun bt855 => ((laws_toState.f k l0_0 l0_1).bind fun bt863 => ((impl_SayJoin.f k bt863.1 bt863.2 a1).bind fun bt870 => ((laws_eqState.f k bt870.1 bt870.2.1 bt855.1 bt855.2.1).bind fun t878 => (if t878 = true then (laws_FnExactSayJoin.j0 k a1 bt855.2.2 bt870.2.2 (bt870.2.2 != bt855.2.2) l0_0 l0_1 bt855.1 bt855.2.1 bt863.1 bt863.2 bt870.1 bt870.2.1) else (laws_FnExactSayJoin.j0 k a1 bt855.2.2 bt870.2.2 true l0_0 l0_1 bt855.1 bt855.2.1 bt863.1 bt863.2 bt870.1 bt870.2.1)))))))) = some r := H
 have A3 := zm A30
 clear A30
 by_cases c4 : t848 < 0
 ·rw [if_pos c4] at H
  have c4b0 : decide (t848 < 0) = true := decide_eq_true c4
  clear c4
  obtain rfl := Option.some.inj H
  go_enter Try.func8, Try.ntmps8
  go_wp2_with (first | ((with_reducible refine gate_dst (N := 2) rfl ?_); refine zbox 2 #[.slice A0_0 l0_0.length c0_0, .slice A0_1 l0_1.length c0_1] 25 ?_; intro gb847 hg w5 hbox hb; have BK847 := zm (hbox); have GW847 := zge w hg zB; have GE847 := zge w hg zB; replace HB := zm (below_step zB hb); clear hb hbox hg; have hcz6_0 : w5.cell? ⟨gb847, 0, none⟩ = some (.slice A0_0 l0_0.length c0_0) := (blk_cell BK847.out 0).trans rfl; have hcz6_1 : w5.cell? ⟨gb847, 1, none⟩ = some (.slice A0_1 l0_1.length c0_1) := (blk_cell BK847.out 1).trans rfl; have hfz6_0 := blk_frozen BK847.out 0; have hfz6_1 := blk_frozen BK847.out 1) | ((with_reducible refine gate_callee (f := 13) rfl ?_); refine zg (some 18) #[.agg #[.slice A0_0 l0_0.length c0_0, .slice A0_1 l0_1.length c0_1], .int .i64 1048576] Try.func13 ?_; (with_reducible refine (laws_szState.calls k _ _ l0_0 _ _ l0_1 1048576 t848 _ (zk (Kd.C_below HR0_0.out HB.out)) HC0_0.out (zk (Kd.C_below HR0_1.out HB.out)) HC0_1.out A3.out).mono ?_); rintro e w7 ⟨rfl, hb⟩; refine ⟨_, rfl, ?_⟩; replace BK847 := zm (blk_below (zb BK847) hb); replace HB := zm (below_step zB hb); clear hb))
  go_ret
  exact ⟨zE, zB⟩
 ·rw [if_neg c4] at H
  have c4b0 : decide (t848 < 0) = false := decide_eq_false c4
  clear c4
  replace H := Option.bind_eq_some_iff.mp H
  obtain ⟨⟨t849, t852⟩, A80, H⟩ := H
  replace H : ((spec_SayJoin.f k t849 t852 a1).bind fun bt855 => ((laws_toState.f k l0_0 l0_1).bind fun bt863 => ((impl_SayJoin.f k bt863.1 bt863.2 a1).bind fun bt870 => ((laws_eqState.f k bt870.1 bt870.2.1 bt855.1 bt855.2.1).bind fun t878 => (if t878 = true then (laws_FnExactSayJoin.j0 k a1 bt855.2.2 bt870.2.2 (bt870.2.2 != bt855.2.2) l0_0 l0_1 bt855.1 bt855.2.1 bt863.1 bt863.2 bt870.1 bt870.2.1) else (laws_FnExactSayJoin.j0 k a1 bt855.2.2 bt870.2.2 true l0_0 l0_1 bt855.1 bt855.2.1 bt863.1 bt863.2 bt870.1 bt870.2.1)))))) = some r := H
  have A8 := zm A80
  clear A80
  replace H := Option.bind_eq_some_iff.mp H
  obtain ⟨⟨t855, t858, t861⟩, A90, H⟩ := H
  replace H : ((laws_toState.f k l0_0 l0_1).bind fun bt863 => ((impl_SayJoin.f k bt863.1 bt863.2 a1).bind fun bt870 => ((laws_eqState.f k bt870.1 bt870.2.1 t855 t858).bind fun t878 => (if t878 = true then (laws_FnExactSayJoin.j0 k a1 t861 bt870.2.2 (bt870.2.2 != t861) l0_0 l0_1 t855 t858 bt863.1 bt863.2 bt870.1 bt870.2.1) else (laws_FnExactSayJoin.j0 k a1 t861 bt870.2.2 true l0_0 l0_1 t855 t858 bt863.1 bt863.2 bt870.1 bt870.2.1))))) = some r := H
  have A9 := zm A90
  clear A90
  replace H := Option.bind_eq_some_iff.mp H
  obtain ⟨⟨t863, t866⟩, A100, H⟩ := H
  replace H : ((impl_SayJoin.f k t863 t866 a1).bind fun bt870 => ((laws_eqState.f k bt870.1 bt870.2.1 t855 t858).bind fun t878 => (if t878 = true then (laws_FnExactSayJoin.j0 k a1 t861 bt870.2.2 (bt870.2.2 != t861) l0_0 l0_1 t855 t858 t863 t866 bt870.1 bt870.2.1) else (laws_FnExactSayJoin.j0 k a1 t861 bt870.2.2 true l0_0 l0_1 t855 t858 t863 t866 bt870.1 bt870.2.1)))) = some r := H
  have A10 := zm A100
  clear A100
  replace H := Option.bind_eq_some_iff.mp H
  obtain ⟨⟨t870, t873, t876⟩, A110, H⟩ := H
  replace H : ((laws_eqState.f k t870 t873 t855 t858).bind fun t878 => (if t878 = true then (laws_FnExactSayJoin.j0 k a1 t861 t876 (t876 != t861) l0_0 l0_1 t855 t858 t863 t866 t870 t873) else (laws_FnExactSayJoin.j0 k a1 t861 t876 true l0_0 l0_1 t855 t858 t863 t866 t870 t873))) = some r := H
  have A11 := zm A110
  clear A110
  have HC12 := zm H
  clear H
  go_enter Try.func8, Try.ntmps8
  go_upto_region 8 with (first | ((with_reducible refine gate_dst (N := 2) rfl ?_); refine zbox 2 #[.slice A0_0 l0_0.length c0_0, .slice A0_1 l0_1.length c0_1] 25 ?_; intro gb847 hg w13 hbox hb; have BK847 := zm (hbox); have GW847 := zge w hg zB; have GE847 := zge w hg zB; replace HB := zm (below_step zB hb); clear hb hbox hg; have hcz14_0 : w13.cell? ⟨gb847, 0, none⟩ = some (.slice A0_0 l0_0.length c0_0) := (blk_cell BK847.out 0).trans rfl; have hcz14_1 : w13.cell? ⟨gb847, 1, none⟩ = some (.slice A0_1 l0_1.length c0_1) := (blk_cell BK847.out 1).trans rfl; have hfz14_0 := blk_frozen BK847.out 0; have hfz14_1 := blk_frozen BK847.out 1) | ((with_reducible refine gate_callee (f := 13) rfl ?_); refine zg (some 18) #[.agg #[.slice A0_0 l0_0.length c0_0, .slice A0_1 l0_1.length c0_1], .int .i64 1048576] Try.func13 ?_; (with_reducible refine (laws_szState.calls k _ _ l0_0 _ _ l0_1 1048576 t848 _ (zk (Kd.C_below HR0_0.out HB.out)) HC0_0.out (zk (Kd.C_below HR0_1.out HB.out)) HC0_1.out A3.out).mono ?_); rintro e w15 ⟨rfl, hb⟩; refine ⟨_, rfl, ?_⟩; replace BK847 := zm (blk_below (zb BK847) hb); replace HB := zm (below_step zB hb); clear hb; have hcz16_0 : w15.cell? ⟨gb847, 0, none⟩ = some (.slice A0_0 l0_0.length c0_0) := (blk_cell BK847.out 0).trans rfl; have hcz16_1 : w15.cell? ⟨gb847, 1, none⟩ = some (.slice A0_1 l0_1.length c0_1) := (blk_cell BK847.out 1).trans rfl; have hfz16_0 := blk_frozen BK847.out 0; have hfz16_1 := blk_frozen BK847.out 1) | ((with_reducible refine gate_callee (f := 15) rfl ?_); refine zg (some 23) #[.agg #[.slice A0_0 l0_0.length c0_0, .slice A0_1 l0_1.length c0_1]] Try.func15 ?_; (with_reducible refine (laws_toState.calls k _ _ l0_0 _ _ l0_1 t849 t852 _ (zk (Kd.C_below HR0_0.out HB.out)) HC0_0.out (zk (Kd.C_below HR0_1.out HB.out)) HC0_1.out A8.out).mono ?_); rintro e w17 ⟨v850, v853, rfl, ho0, ho1, hb⟩; refine ⟨_, rfl, ?_⟩; have HO851 := zm (Kd.R_lower ho0 (below_size zB)); have HO854 := zm (Kd.R_lower ho1 (below_size zB)); replace BK847 := zm (blk_below (zb BK847) hb); replace HB := zm (below_step zB hb); clear hb ho0 ho1; obtain ⟨Ao18, co18, eo18⟩ := Kd.R_slice HO851.out; subst eo18; obtain ⟨Ao19, co19, eo19⟩ := Kd.R_slice HO854.out; subst eo19) | ((with_reducible refine gate_callee (f := 31) rfl ?_); refine zg (some 25) #[.agg #[.slice Ao18 t849.length co18, .slice Ao19 t852.length co19], .int .i64 a1] Try.func31 ?_; (with_reducible refine (spec_SayJoin.calls k _ _ t849 _ _ t852 a1 t855 t858 t861 _ ?side1 ?side2 ?side3 ?side4 A9.out).mono ?_); (case side1 => repeat (first | exact (Kd.R_reads' HO851.out).2.2 | (with_reducible refine Kd.C_alloc ?_ _) | (with_reducible refine Kd.C_drewN ?_ _) | (with_reducible refine Kd.C_drew ?_))); (case side2 => exact (Kd.R_reads' HO851.out).2.1); (case side3 => repeat (first | exact (Kd.R_reads' HO854.out).2.2 | (with_reducible refine Kd.C_alloc ?_ _) | (with_reducible refine Kd.C_drewN ?_ _) | (with_reducible refine Kd.C_drew ?_))); (case side4 => exact (Kd.R_reads' HO854.out).2.1); rintro e w20 ⟨v856, v859, rfl, ho0, ho1, hb⟩; refine ⟨_, rfl, ?_⟩; have HO857 := zm (Kd.R_lower (Kd.R_new' ho0 (Kd.R_lt (zr HO851))) (below_size zB)); replace HO851 := zm (Kd.R_elder' (zr HO851) (Kd.R_base ho0) hb); have HO860 := zm (Kd.R_lower (Kd.R_new' ho1 (Kd.R_lt (zr HO854))) (below_size zB)); replace HO854 := zm (Kd.R_elder' (zr HO854) (Kd.R_base ho1) hb); replace BK847 := zm (blk_below (zb BK847) hb); replace HB := zm (below_step zB hb); clear hb ho0 ho1) | ((with_reducible refine gate_dst (N := 6) rfl ?_); refine zbox 6 #[.slice none 0 0, .slice none 0 0] 32 ?_; intro gb862 hg w21 hbox hb; replace HO851 := zm (Kd.R_below (zr HO851) hb); replace HO854 := zm (Kd.R_below (zr HO854) hb); replace HO857 := zm (Kd.R_below (zr HO857) hb); replace HO860 := zm (Kd.R_below (zr HO860) hb); have BK862 := zm (hbox); have GW862 := zge w hg zB; have GE862 := zge w hg zB; replace HB := zm (below_step zB hb); have NB847_862 := zlt hg (zb BK847); have NB862_847 := zgt hg (zb BK847); replace BK847 := zm (blk_below (zb BK847) hb); clear hb hbox hg; obtain ⟨Ao22, co22, eo22⟩ := Kd.R_slice HO857.out; subst eo22; have hnb23 := NB862_847.out; have hnc23 := NB847_862.out; have hcz24_0 : w21.cell? ⟨gb862, 0, none⟩ = some (.slice none 0 0) := (blk_cell BK862.out 0).trans rfl; have hcz24_1 : w21.cell? ⟨gb862, 1, none⟩ = some (.slice none 0 0) := (blk_cell BK862.out 1).trans rfl; have hfz24_0 := blk_frozen BK862.out 0; have hfz24_1 := blk_frozen BK862.out 1; obtain ⟨Ao25, co25, eo25⟩ := Kd.R_slice HO860.out; subst eo25; have hcz26_0 : w21.cell? ⟨gb847, 0, none⟩ = some (.slice A0_0 l0_0.length c0_0) := (blk_cell BK847.out 0).trans rfl; have hcz26_1 : w21.cell? ⟨gb847, 1, none⟩ = some (.slice A0_1 l0_1.length c0_1) := (blk_cell BK847.out 1).trans rfl; have hfz26_0 := blk_frozen BK847.out 0; have hfz26_1 := blk_frozen BK847.out 1) | ((with_reducible refine gate_callee (f := 15) rfl ?_); refine zg (some 29) #[.agg #[.slice A0_0 l0_0.length c0_0, .slice A0_1 l0_1.length c0_1]] Try.func15 ?_; (with_reducible refine (laws_toState.calls k _ _ l0_0 _ _ l0_1 t863 t866 _ ?side1 HC0_0.out ?side3 HC0_1.out A10.out).mono ?_); (case side1 => exact Kd.C_below HR0_0.out zB); (case side3 => exact Kd.C_below HR0_1.out zB); rintro e w27 ⟨v864, v867, rfl, ho0, ho1, hb⟩; refine ⟨_, rfl, ?_⟩; have HO865 := zm (Kd.R_lower (Kd.R_new' (Kd.R_new' ho0 (Kd.R_lt (zrs <| (Kd.R_mono (zfr (zfr (Kd.R_types HO851.out BK862.out (by decide)))) (fun _ h_ => h_.1))))) (Kd.R_lt (zrs <| (Kd.R_mono (zfr (zfr (Kd.R_types HO857.out BK862.out (by decide)))) (fun _ h_ => h_.1))))) (below_size zB)); replace HO851 := zm (Kd.R_elder' (zrs <| (Kd.R_mono (zfr (zfr (Kd.R_types HO851.out BK862.out (by decide)))) (fun _ h_ => h_.1))) (Kd.R_base ho0) hb); replace HO857 := zm (Kd.R_elder' (zrs <| (Kd.R_mono (zfr (zfr (Kd.R_types HO857.out BK862.out (by decide)))) (fun _ h_ => h_.1))) (Kd.R_base ho0) hb); have HO868 := zm (Kd.R_lower (Kd.R_new' (Kd.R_new' ho1 (Kd.R_lt (zrs <| (Kd.R_mono (zfr (zfr (Kd.R_types HO854.out BK862.out (by decide)))) (fun _ h_ => h_.1))))) (Kd.R_lt (zrs <| (Kd.R_mono (zfr (zfr (Kd.R_types HO860.out BK862.out (by decide)))) (fun _ h_ => h_.1))))) (below_size zB)); replace HO854 := zm (Kd.R_elder' (zrs <| (Kd.R_mono (zfr (zfr (Kd.R_types HO854.out BK862.out (by decide)))) (fun _ h_ => h_.1))) (Kd.R_base ho1) hb); replace HO860 := zm (Kd.R_elder' (zrs <| (Kd.R_mono (zfr (zfr (Kd.R_types HO860.out BK862.out (by decide)))) (fun _ h_ => h_.1))) (Kd.R_base ho1) hb); replace BK847 := zm (blk_below (g := gb847) (o := .cells #[.slice A0_0 l0_0.length c0_0, .slice A0_1 l0_1.length c0_1] 25 (0, 0)) (zfar (zfar (zb BK847) NB847_862) NB847_862) hb); replace BK862 := zm (blk_below (g := gb862) (o := .cells #[.slice Ao22 t855.length co22, .slice Ao25 t858.length co25] 32 (0, 0)) (zput (zput (zb BK862) 0) 1) hb); replace HB := zm (below_step zB hb); clear hb ho0 ho1) | ((with_reducible refine gate_dst (N := 8) rfl ?_); refine zbox 8 #[.slice none 0 0, .slice none 0 0] 32 ?_; intro gb869 hg w28 hbox hb; replace HO851 := zm (Kd.R_below (zr HO851) hb); replace HO854 := zm (Kd.R_below (zr HO854) hb); replace HO857 := zm (Kd.R_below (zr HO857) hb); replace HO860 := zm (Kd.R_below (zr HO860) hb); replace HO865 := zm (Kd.R_below (zr HO865) hb); replace HO868 := zm (Kd.R_below (zr HO868) hb); have BK869 := zm (hbox); have GW869 := zge w hg zB; have GE869 := zge w hg zB; replace HB := zm (below_step zB hb); have NB847_869 := zlt hg (zb BK847); have NB869_847 := zgt hg (zb BK847); replace BK847 := zm (blk_below (zb BK847) hb); have NB862_869 := zlt hg (zb BK862); have NB869_862 := zgt hg (zb BK862); replace BK862 := zm (blk_below (zb BK862) hb); clear hb hbox hg; obtain ⟨Ao29, co29, eo29⟩ := Kd.R_slice HO865.out; subst eo29; have hnb30 := NB869_847.out; have hnc30 := NB847_869.out; have hnb31 := NB869_862.out; have hnc31 := NB862_869.out; have hcz32_0 : w28.cell? ⟨gb869, 0, none⟩ = some (.slice none 0 0) := (blk_cell BK869.out 0).trans rfl; have hcz32_1 : w28.cell? ⟨gb869, 1, none⟩ = some (.slice none 0 0) := (blk_cell BK869.out 1).trans rfl; have hfz32_0 := blk_frozen BK869.out 0; have hfz32_1 := blk_frozen BK869.out 1; obtain ⟨Ao33, co33, eo33⟩ := Kd.R_slice HO868.out; subst eo33) | ((with_reducible refine gate_callee (f := 32) rfl ?_); refine zg (some 33) #[.agg #[.slice Ao29 t863.length co29, .slice Ao33 t866.length co33], .int .i64 a1] Try.func32 ?_; (with_reducible refine (impl_SayJoin.calls k _ _ t863 _ _ t866 a1 t870 t873 t876 _ ?side1 ?side2 ?side3 ?side4 A11.out).mono ?_); (case side1 => refine (Kd.R_reads' (e := 68) (base := w.heap.size) (ok := fun k_ => ((True ∧ some k_ ≠ (.slice Ao18 t849.length co18 : Value).ownBlock) ∧ some k_ ≠ (.slice Ao22 t855.length co22 : Value).ownBlock)) (n := t863.length) (c := co29) ?_).2.2; exact (zrs <| (Kd.R_mono (zfr (zfr (Kd.R_types HO865.out BK869.out (by decide)))) (fun _ h_ => h_.1)))); (case side2 => exact (Kd.R_reads' HO865.out).2.1); (case side3 => refine (Kd.R_reads' (e := 72) (base := w.heap.size) (ok := fun k_ => ((True ∧ some k_ ≠ (.slice Ao19 t852.length co19 : Value).ownBlock) ∧ some k_ ≠ (.slice Ao25 t858.length co25 : Value).ownBlock)) (n := t866.length) (c := co33) ?_).2.2; exact (zrs <| (Kd.R_mono (zfr (zfr (Kd.R_types HO868.out BK869.out (by decide)))) (fun _ h_ => h_.1)))); (case side4 => exact (Kd.R_reads' HO868.out).2.1); rintro e w34 ⟨v871, v874, rfl, ho0, ho1, hb⟩; refine ⟨_, rfl, ?_⟩; have HO872 := zm (Kd.R_lower (Kd.R_new' (Kd.R_new' (Kd.R_new' ho0 (Kd.R_lt (zrs <| (Kd.R_mono (zfr (zfr (Kd.R_types HO851.out BK869.out (by decide)))) (fun _ h_ => h_.1))))) (Kd.R_lt (zrs <| (Kd.R_mono (zfr (zfr (Kd.R_types HO857.out BK869.out (by decide)))) (fun _ h_ => h_.1))))) (Kd.R_lt (zrs <| (Kd.R_mono (zfr (zfr (Kd.R_types HO865.out BK869.out (by decide)))) (fun _ h_ => h_.1))))) (below_size zB)); replace HO851 := zm (Kd.R_elder' (zrs <| (Kd.R_mono (zfr (zfr (Kd.R_types HO851.out BK869.out (by decide)))) (fun _ h_ => h_.1))) (Kd.R_base ho0) hb); replace HO857 := zm (Kd.R_elder' (zrs <| (Kd.R_mono (zfr (zfr (Kd.R_types HO857.out BK869.out (by decide)))) (fun _ h_ => h_.1))) (Kd.R_base ho0) hb); replace HO865 := zm (Kd.R_elder' (zrs <| (Kd.R_mono (zfr (zfr (Kd.R_types HO865.out BK869.out (by decide)))) (fun _ h_ => h_.1))) (Kd.R_base ho0) hb); have HO875 := zm (Kd.R_lower (Kd.R_new' (Kd.R_new' (Kd.R_new' ho1 (Kd.R_lt (zrs <| (Kd.R_mono (zfr (zfr (Kd.R_types HO854.out BK869.out (by decide)))) (fun _ h_ => h_.1))))) (Kd.R_lt (zrs <| (Kd.R_mono (zfr (zfr (Kd.R_types HO860.out BK869.out (by decide)))) (fun _ h_ => h_.1))))) (Kd.R_lt (zrs <| (Kd.R_mono (zfr (zfr (Kd.R_types HO868.out BK869.out (by decide)))) (fun _ h_ => h_.1))))) (below_size zB)); replace HO854 := zm (Kd.R_elder' (zrs <| (Kd.R_mono (zfr (zfr (Kd.R_types HO854.out BK869.out (by decide)))) (fun _ h_ => h_.1))) (Kd.R_base ho1) hb); replace HO860 := zm (Kd.R_elder' (zrs <| (Kd.R_mono (zfr (zfr (Kd.R_types HO860.out BK869.out (by decide)))) (fun _ h_ => h_.1))) (Kd.R_base ho1) hb); replace HO868 := zm (Kd.R_elder' (zrs <| (Kd.R_mono (zfr (zfr (Kd.R_types HO868.out BK869.out (by decide)))) (fun _ h_ => h_.1))) (Kd.R_base ho1) hb); replace BK847 := zm (blk_below (g := gb847) (o := .cells #[.slice A0_0 l0_0.length c0_0, .slice A0_1 l0_1.length c0_1] 25 (0, 0)) (zfar (zfar (zb BK847) NB847_869) NB847_869) hb); replace BK862 := zm (blk_below (g := gb862) (o := .cells #[.slice Ao22 t855.length co22, .slice Ao25 t858.length co25] 32 (0, 0)) (zfar (zfar (zb BK862) NB862_869) NB862_869) hb); replace BK869 := zm (blk_below (g := gb869) (o := .cells #[.slice Ao29 t863.length co29, .slice Ao33 t866.length co33] 32 (0, 0)) (zput (zput (zb BK869) 0) 1) hb); replace HB := zm (below_step zB hb); clear hb ho0 ho1) | ((with_reducible refine gate_dst (N := 9) rfl ?_); refine zbox 9 #[.slice none 0 0, .slice none 0 0] 32 ?_; intro gb877 hg w35 hbox hb; replace HO851 := zm (Kd.R_below (zr HO851) hb); replace HO854 := zm (Kd.R_below (zr HO854) hb); replace HO857 := zm (Kd.R_below (zr HO857) hb); replace HO860 := zm (Kd.R_below (zr HO860) hb); replace HO865 := zm (Kd.R_below (zr HO865) hb); replace HO868 := zm (Kd.R_below (zr HO868) hb); replace HO872 := zm (Kd.R_below (zr HO872) hb); replace HO875 := zm (Kd.R_below (zr HO875) hb); have BK877 := zm (hbox); have GW877 := zge w hg zB; have GE877 := zge w hg zB; replace HB := zm (below_step zB hb); have NB847_877 := zlt hg (zb BK847); have NB877_847 := zgt hg (zb BK847); replace BK847 := zm (blk_below (zb BK847) hb); have NB862_877 := zlt hg (zb BK862); have NB877_862 := zgt hg (zb BK862); replace BK862 := zm (blk_below (zb BK862) hb); have NB869_877 := zlt hg (zb BK869); have NB877_869 := zgt hg (zb BK869); replace BK869 := zm (blk_below (zb BK869) hb); clear hb hbox hg; obtain ⟨Ao36, co36, eo36⟩ := Kd.R_slice HO872.out; subst eo36; have hnb37 := NB877_847.out; have hnc37 := NB847_877.out; have hnb38 := NB877_862.out; have hnc38 := NB862_877.out; have hnb39 := NB877_869.out; have hnc39 := NB869_877.out; have hcz40_0 : w35.cell? ⟨gb877, 0, none⟩ = some (.slice none 0 0) := (blk_cell BK877.out 0).trans rfl; have hcz40_1 : w35.cell? ⟨gb877, 1, none⟩ = some (.slice none 0 0) := (blk_cell BK877.out 1).trans rfl; have hfz40_0 := blk_frozen BK877.out 0; have hfz40_1 := blk_frozen BK877.out 1; obtain ⟨Ao41, co41, eo41⟩ := Kd.R_slice HO875.out; subst eo41))
  (try simp only [Act.put, List.setIfInBounds_toArray, List.set_cons_zero, List.set_cons_succ])
  go_cut [44] (fun v44 wc => ∃ (kq : Nat) (x44_11 : Bool), v44 = .bool x44_11 ∧ Aside0 (laws_FnExactSayJoin.j0 kq a1 t861 t876 x44_11 l0_0 l0_1 t855 t858 t863 t866 t870 t873 = some r) ∧ Aside0 (kq ≤ k) ∧ Aside0 (Kd.R k68 68 wc w.heap.size (fun k_ => some k_ ≠ ((.slice Ao29 t863.length co29) : Value).ownBlock ∧ some k_ ≠ ((.slice Ao36 t870.length co36) : Value).ownBlock) (.slice Ao22 t855.length co22) t855) ∧ Aside0 (Kd.R k72 72 wc w.heap.size (fun k_ => some k_ ≠ ((.slice Ao33 t866.length co33) : Value).ownBlock ∧ some k_ ≠ ((.slice Ao41 t873.length co41) : Value).ownBlock) (.slice Ao25 t858.length co25) t858) ∧ Aside0 (Kd.R k68 68 wc w.heap.size (fun k_ => some k_ ≠ ((.slice Ao22 t855.length co22) : Value).ownBlock ∧ some k_ ≠ ((.slice Ao36 t870.length co36) : Value).ownBlock) (.slice Ao29 t863.length co29) t863) ∧ Aside0 (Kd.R k72 72 wc w.heap.size (fun k_ => some k_ ≠ ((.slice Ao25 t858.length co25) : Value).ownBlock ∧ some k_ ≠ ((.slice Ao41 t873.length co41) : Value).ownBlock) (.slice Ao33 t866.length co33) t866) ∧ Aside0 (Kd.R k68 68 wc w.heap.size (fun k_ => some k_ ≠ ((.slice Ao22 t855.length co22) : Value).ownBlock ∧ some k_ ≠ ((.slice Ao29 t863.length co29) : Value).ownBlock) (.slice Ao36 t870.length co36) t870) ∧ Aside0 (Kd.R k72 72 wc w.heap.size (fun k_ => some k_ ≠ ((.slice Ao25 t858.length co25) : Value).ownBlock ∧ some k_ ≠ ((.slice Ao33 t866.length co33) : Value).ownBlock) (.slice Ao41 t873.length co41) t873) ∧ Aside0 (wc.heap[gb847]? = some (.cells #[(.slice A0_0 l0_0.length c0_0), (.slice A0_1 l0_1.length c0_1)] 25 (0, 0))) ∧ Aside0 (wc.heap[gb862]? = some (.cells #[(.slice Ao22 t855.length co22), (.slice Ao25 t858.length co25)] 32 (0, 0))) ∧ Aside0 (wc.heap[gb869]? = some (.cells #[(.slice Ao29 t863.length co29), (.slice Ao33 t866.length co33)] 32 (0, 0))) ∧ Aside0 (wc.heap[gb877]? = some (.cells #[(.slice Ao36 t870.length co36), (.slice Ao41 t873.length co41)] 32 (0, 0))) ∧ Aside0 (Below w.heap.size w wc))
  case first =>
   have H := HC12.out
   clear HC12
   replace H := Option.bind_eq_some_iff.mp H
   obtain ⟨t878, A420, H⟩ := H
   replace H : (if t878 = true then (laws_FnExactSayJoin.j0 k a1 t861 t876 (t876 != t861) l0_0 l0_1 t855 t858 t863 t866 t870 t873) else (laws_FnExactSayJoin.j0 k a1 t861 t876 true l0_0 l0_1 t855 t858 t863 t866 t870 t873)) = some r := H
   have A42 := zm A420
   clear A420
   by_cases c43 : t878 = true
   ·subst c43
    have H1 : (laws_FnExactSayJoin.j0 k a1 t861 t876 (t876 != t861) l0_0 l0_1 t855 t858 t863 t866 t870 t873) = some r := by rw [if_pos rfl] at H; exact H
    clear H
    have H := H1
    clear H1
    have H' := zm H
    clear H
    have hnb44 := NB877_847.out
    have hnc44 := NB847_877.out
    have hnb45 := NB877_862.out
    have hnc45 := NB862_877.out
    have hnb46 := NB877_869.out
    have hnc46 := NB869_877.out
    have hcz47_0 : w35.cell? ⟨gb877, 0, none⟩ = some (.slice none 0 0) := (blk_cell BK877.out 0).trans rfl
    have hcz47_1 : w35.cell? ⟨gb877, 1, none⟩ = some (.slice none 0 0) := (blk_cell BK877.out 1).trans rfl
    have hfz47_0 := blk_frozen BK877.out 0
    have hfz47_1 := blk_frozen BK877.out 1
    have hnb48 := NB862_847.out
    have hnc48 := NB847_862.out
    have hnb49 := NB862_869.out
    have hnc49 := NB869_862.out
    have hcz50_0 : w35.cell? ⟨gb862, 0, none⟩ = some (.slice Ao22 t855.length co22) := (blk_cell BK862.out 0).trans rfl
    have hcz50_1 : w35.cell? ⟨gb862, 1, none⟩ = some (.slice Ao25 t858.length co25) := (blk_cell BK862.out 1).trans rfl
    have hfz50_0 := blk_frozen BK862.out 0
    have hfz50_1 := blk_frozen BK862.out 1
    go_wp2_with (first | ((with_reducible refine gate_callee (f := 18) rfl ?_); refine zg (some 38) #[.agg #[.slice Ao36 t870.length co36, .slice Ao41 t873.length co41], .agg #[.slice Ao22 t855.length co22, .slice Ao25 t858.length co25]] Try.func18 ?_; (with_reducible refine (laws_eqState.calls k _ _ t870 _ _ t873 _ _ t855 _ _ t858 true _ ?side1 ?side2 ?side3 ?side4 ?side5 ?side6 ?side7 ?side8 A42.out).mono ?_); (case side1 => refine (Kd.R_reads' (e := 68) (base := w.heap.size) (ok := fun k_ => (((True ∧ some k_ ≠ (.slice Ao18 t849.length co18 : Value).ownBlock) ∧ some k_ ≠ (.slice Ao22 t855.length co22 : Value).ownBlock) ∧ some k_ ≠ (.slice Ao29 t863.length co29 : Value).ownBlock)) (n := t870.length) (c := co36) ?_).2.2; exact (zrs <| (Kd.R_mono (zfr (zfr (Kd.R_types HO872.out BK877.out (by decide)))) (fun _ h_ => h_.1)))); (case side2 => exact (Kd.R_reads' HO872.out).2.1); (case side3 => refine (Kd.R_reads' (e := 72) (base := w.heap.size) (ok := fun k_ => (((True ∧ some k_ ≠ (.slice Ao19 t852.length co19 : Value).ownBlock) ∧ some k_ ≠ (.slice Ao25 t858.length co25 : Value).ownBlock) ∧ some k_ ≠ (.slice Ao33 t866.length co33 : Value).ownBlock)) (n := t873.length) (c := co41) ?_).2.2; exact (zrs <| (Kd.R_mono (zfr (zfr (Kd.R_types HO875.out BK877.out (by decide)))) (fun _ h_ => h_.1)))); (case side4 => exact (Kd.R_reads' HO875.out).2.1); (case side5 => refine (Kd.R_reads' (e := 68) (base := w.heap.size) (ok := fun k_ => (((True ∧ some k_ ≠ (.slice Ao18 t849.length co18 : Value).ownBlock) ∧ some k_ ≠ (.slice Ao29 t863.length co29 : Value).ownBlock) ∧ some k_ ≠ (.slice Ao36 t870.length co36 : Value).ownBlock)) (n := t855.length) (c := co22) ?_).2.2; exact (zrs <| (Kd.R_mono (zfr (zfr (Kd.R_types HO857.out BK877.out (by decide)))) (fun _ h_ => h_.1)))); (case side6 => exact (Kd.R_reads' HO857.out).2.1); (case side7 => refine (Kd.R_reads' (e := 72) (base := w.heap.size) (ok := fun k_ => (((True ∧ some k_ ≠ (.slice Ao19 t852.length co19 : Value).ownBlock) ∧ some k_ ≠ (.slice Ao33 t866.length co33 : Value).ownBlock) ∧ some k_ ≠ (.slice Ao41 t873.length co41 : Value).ownBlock)) (n := t858.length) (c := co25) ?_).2.2; exact (zrs <| (Kd.R_mono (zfr (zfr (Kd.R_types HO860.out BK877.out (by decide)))) (fun _ h_ => h_.1)))); (case side8 => exact (Kd.R_reads' HO860.out).2.1); rintro e w51 ⟨rfl, hb⟩; refine ⟨_, rfl, ?_⟩; replace HO851 := zm (Kd.R_below (zrs <| (Kd.R_mono (zfr (zfr (Kd.R_types HO851.out BK877.out (by decide)))) (fun _ h_ => h_.1))) hb); replace HO854 := zm (Kd.R_below (zrs <| (Kd.R_mono (zfr (zfr (Kd.R_types HO854.out BK877.out (by decide)))) (fun _ h_ => h_.1))) hb); replace HO857 := zm (Kd.R_below (zrs <| (Kd.R_mono (zfr (zfr (Kd.R_types HO857.out BK877.out (by decide)))) (fun _ h_ => h_.1))) hb); replace HO860 := zm (Kd.R_below (zrs <| (Kd.R_mono (zfr (zfr (Kd.R_types HO860.out BK877.out (by decide)))) (fun _ h_ => h_.1))) hb); replace HO865 := zm (Kd.R_below (zrs <| (Kd.R_mono (zfr (zfr (Kd.R_types HO865.out BK877.out (by decide)))) (fun _ h_ => h_.1))) hb); replace HO868 := zm (Kd.R_below (zrs <| (Kd.R_mono (zfr (zfr (Kd.R_types HO868.out BK877.out (by decide)))) (fun _ h_ => h_.1))) hb); replace HO872 := zm (Kd.R_below (zrs <| (Kd.R_mono (zfr (zfr (Kd.R_types HO872.out BK877.out (by decide)))) (fun _ h_ => h_.1))) hb); replace HO875 := zm (Kd.R_below (zrs <| (Kd.R_mono (zfr (zfr (Kd.R_types HO875.out BK877.out (by decide)))) (fun _ h_ => h_.1))) hb); replace BK847 := zm (blk_below (g := gb847) (o := .cells #[.slice A0_0 l0_0.length c0_0, .slice A0_1 l0_1.length c0_1] 25 (0, 0)) (zfar (zfar (zb BK847) NB847_877) NB847_877) hb); replace BK862 := zm (blk_below (g := gb862) (o := .cells #[.slice Ao22 t855.length co22, .slice Ao25 t858.length co25] 32 (0, 0)) (zfar (zfar (zb BK862) NB862_877) NB862_877) hb); replace BK869 := zm (blk_below (g := gb869) (o := .cells #[.slice Ao29 t863.length co29, .slice Ao33 t866.length co33] 32 (0, 0)) (zfar (zfar (zb BK869) NB869_877) NB869_877) hb); replace BK877 := zm (blk_below (g := gb877) (o := .cells #[.slice Ao36 t870.length co36, .slice Ao41 t873.length co41] 32 (0, 0)) (zput (zput (zb BK877) 0) 1) hb); replace HB := zm (below_step zB hb); clear hb))
    go_meet
    case rel => exact ⟨_, ((t876 != t861)), zF, H', ⟨by first | omega | exact Nat.le_refl _⟩, ⟨by (with_reducible repeat (first | apply Kd.R_alloc | apply Kd.R_drewN | apply Kd.R_drew)); exact Kd.R_mono HO857.out (fun _ hk => ⟨hk.1.2, hk.2⟩)⟩, ⟨by (with_reducible repeat (first | apply Kd.R_alloc | apply Kd.R_drewN | apply Kd.R_drew)); exact Kd.R_mono HO860.out (fun _ hk => ⟨hk.1.2, hk.2⟩)⟩, ⟨by (with_reducible repeat (first | apply Kd.R_alloc | apply Kd.R_drewN | apply Kd.R_drew)); exact Kd.R_mono HO865.out (fun _ hk => ⟨hk.1.2, hk.2⟩)⟩, ⟨by (with_reducible repeat (first | apply Kd.R_alloc | apply Kd.R_drewN | apply Kd.R_drew)); exact Kd.R_mono HO868.out (fun _ hk => ⟨hk.1.2, hk.2⟩)⟩, ⟨by (with_reducible repeat (first | apply Kd.R_alloc | apply Kd.R_drewN | apply Kd.R_drew)); exact Kd.R_mono HO872.out (fun _ hk => ⟨hk.1.2, hk.2⟩)⟩, ⟨by (with_reducible repeat (first | apply Kd.R_alloc | apply Kd.R_drewN | apply Kd.R_drew)); exact Kd.R_mono HO875.out (fun _ hk => ⟨hk.1.2, hk.2⟩)⟩, ⟨zb BK847⟩, ⟨zb BK862⟩, ⟨zb BK869⟩, ⟨zb BK877⟩, ⟨zB⟩⟩
   ·replace c43 := Bool.eq_false_iff.mpr c43
    subst c43
    have H1 : (laws_FnExactSayJoin.j0 k a1 t861 t876 true l0_0 l0_1 t855 t858 t863 t866 t870 t873) = some r := by rw [if_neg (show ¬ (false = true) by decide)] at H; exact H
    clear H
    have H := H1
    clear H1
    have H' := zm H
    clear H
    have hnb52 := NB877_847.out
    have hnc52 := NB847_877.out
    have hnb53 := NB877_862.out
    have hnc53 := NB862_877.out
    have hnb54 := NB877_869.out
    have hnc54 := NB869_877.out
    have hcz55_0 : w35.cell? ⟨gb877, 0, none⟩ = some (.slice none 0 0) := (blk_cell BK877.out 0).trans rfl
    have hcz55_1 : w35.cell? ⟨gb877, 1, none⟩ = some (.slice none 0 0) := (blk_cell BK877.out 1).trans rfl
    have hfz55_0 := blk_frozen BK877.out 0
    have hfz55_1 := blk_frozen BK877.out 1
    have hnb56 := NB862_847.out
    have hnc56 := NB847_862.out
    have hnb57 := NB862_869.out
    have hnc57 := NB869_862.out
    have hcz58_0 : w35.cell? ⟨gb862, 0, none⟩ = some (.slice Ao22 t855.length co22) := (blk_cell BK862.out 0).trans rfl
    have hcz58_1 : w35.cell? ⟨gb862, 1, none⟩ = some (.slice Ao25 t858.length co25) := (blk_cell BK862.out 1).trans rfl
    have hfz58_0 := blk_frozen BK862.out 0
    have hfz58_1 := blk_frozen BK862.out 1
    go_wp2_with (first | ((with_reducible refine gate_callee (f := 18) rfl ?_); refine zg (some 38) #[.agg #[.slice Ao36 t870.length co36, .slice Ao41 t873.length co41], .agg #[.slice Ao22 t855.length co22, .slice Ao25 t858.length co25]] Try.func18 ?_; (with_reducible refine (laws_eqState.calls k _ _ t870 _ _ t873 _ _ t855 _ _ t858 false _ ?side1 ?side2 ?side3 ?side4 ?side5 ?side6 ?side7 ?side8 A42.out).mono ?_); (case side1 => refine (Kd.R_reads' (e := 68) (base := w.heap.size) (ok := fun k_ => (((True ∧ some k_ ≠ (.slice Ao18 t849.length co18 : Value).ownBlock) ∧ some k_ ≠ (.slice Ao22 t855.length co22 : Value).ownBlock) ∧ some k_ ≠ (.slice Ao29 t863.length co29 : Value).ownBlock)) (n := t870.length) (c := co36) ?_).2.2; exact (zrs <| (Kd.R_mono (zfr (zfr (Kd.R_types HO872.out BK877.out (by decide)))) (fun _ h_ => h_.1)))); (case side2 => exact (Kd.R_reads' HO872.out).2.1); (case side3 => refine (Kd.R_reads' (e := 72) (base := w.heap.size) (ok := fun k_ => (((True ∧ some k_ ≠ (.slice Ao19 t852.length co19 : Value).ownBlock) ∧ some k_ ≠ (.slice Ao25 t858.length co25 : Value).ownBlock) ∧ some k_ ≠ (.slice Ao33 t866.length co33 : Value).ownBlock)) (n := t873.length) (c := co41) ?_).2.2; exact (zrs <| (Kd.R_mono (zfr (zfr (Kd.R_types HO875.out BK877.out (by decide)))) (fun _ h_ => h_.1)))); (case side4 => exact (Kd.R_reads' HO875.out).2.1); (case side5 => refine (Kd.R_reads' (e := 68) (base := w.heap.size) (ok := fun k_ => (((True ∧ some k_ ≠ (.slice Ao18 t849.length co18 : Value).ownBlock) ∧ some k_ ≠ (.slice Ao29 t863.length co29 : Value).ownBlock) ∧ some k_ ≠ (.slice Ao36 t870.length co36 : Value).ownBlock)) (n := t855.length) (c := co22) ?_).2.2; exact (zrs <| (Kd.R_mono (zfr (zfr (Kd.R_types HO857.out BK877.out (by decide)))) (fun _ h_ => h_.1)))); (case side6 => exact (Kd.R_reads' HO857.out).2.1); (case side7 => refine (Kd.R_reads' (e := 72) (base := w.heap.size) (ok := fun k_ => (((True ∧ some k_ ≠ (.slice Ao19 t852.length co19 : Value).ownBlock) ∧ some k_ ≠ (.slice Ao33 t866.length co33 : Value).ownBlock) ∧ some k_ ≠ (.slice Ao41 t873.length co41 : Value).ownBlock)) (n := t858.length) (c := co25) ?_).2.2; exact (zrs <| (Kd.R_mono (zfr (zfr (Kd.R_types HO860.out BK877.out (by decide)))) (fun _ h_ => h_.1)))); (case side8 => exact (Kd.R_reads' HO860.out).2.1); rintro e w59 ⟨rfl, hb⟩; refine ⟨_, rfl, ?_⟩; replace HO851 := zm (Kd.R_below (zrs <| (Kd.R_mono (zfr (zfr (Kd.R_types HO851.out BK877.out (by decide)))) (fun _ h_ => h_.1))) hb); replace HO854 := zm (Kd.R_below (zrs <| (Kd.R_mono (zfr (zfr (Kd.R_types HO854.out BK877.out (by decide)))) (fun _ h_ => h_.1))) hb); replace HO857 := zm (Kd.R_below (zrs <| (Kd.R_mono (zfr (zfr (Kd.R_types HO857.out BK877.out (by decide)))) (fun _ h_ => h_.1))) hb); replace HO860 := zm (Kd.R_below (zrs <| (Kd.R_mono (zfr (zfr (Kd.R_types HO860.out BK877.out (by decide)))) (fun _ h_ => h_.1))) hb); replace HO865 := zm (Kd.R_below (zrs <| (Kd.R_mono (zfr (zfr (Kd.R_types HO865.out BK877.out (by decide)))) (fun _ h_ => h_.1))) hb); replace HO868 := zm (Kd.R_below (zrs <| (Kd.R_mono (zfr (zfr (Kd.R_types HO868.out BK877.out (by decide)))) (fun _ h_ => h_.1))) hb); replace HO872 := zm (Kd.R_below (zrs <| (Kd.R_mono (zfr (zfr (Kd.R_types HO872.out BK877.out (by decide)))) (fun _ h_ => h_.1))) hb); replace HO875 := zm (Kd.R_below (zrs <| (Kd.R_mono (zfr (zfr (Kd.R_types HO875.out BK877.out (by decide)))) (fun _ h_ => h_.1))) hb); replace BK847 := zm (blk_below (g := gb847) (o := .cells #[.slice A0_0 l0_0.length c0_0, .slice A0_1 l0_1.length c0_1] 25 (0, 0)) (zfar (zfar (zb BK847) NB847_877) NB847_877) hb); replace BK862 := zm (blk_below (g := gb862) (o := .cells #[.slice Ao22 t855.length co22, .slice Ao25 t858.length co25] 32 (0, 0)) (zfar (zfar (zb BK862) NB862_877) NB862_877) hb); replace BK869 := zm (blk_below (g := gb869) (o := .cells #[.slice Ao29 t863.length co29, .slice Ao33 t866.length co33] 32 (0, 0)) (zfar (zfar (zb BK869) NB869_877) NB869_877) hb); replace BK877 := zm (blk_below (g := gb877) (o := .cells #[.slice Ao36 t870.length co36, .slice Ao41 t873.length co41] 32 (0, 0)) (zput (zput (zb BK877) 0) 1) hb); replace HB := zm (below_step zB hb); clear hb))
    go_meet
    case rel => exact ⟨_, (true), zF, H', ⟨by first | omega | exact Nat.le_refl _⟩, ⟨by (with_reducible repeat (first | apply Kd.R_alloc | apply Kd.R_drewN | apply Kd.R_drew)); exact Kd.R_mono HO857.out (fun _ hk => ⟨hk.1.2, hk.2⟩)⟩, ⟨by (with_reducible repeat (first | apply Kd.R_alloc | apply Kd.R_drewN | apply Kd.R_drew)); exact Kd.R_mono HO860.out (fun _ hk => ⟨hk.1.2, hk.2⟩)⟩, ⟨by (with_reducible repeat (first | apply Kd.R_alloc | apply Kd.R_drewN | apply Kd.R_drew)); exact Kd.R_mono HO865.out (fun _ hk => ⟨hk.1.2, hk.2⟩)⟩, ⟨by (with_reducible repeat (first | apply Kd.R_alloc | apply Kd.R_drewN | apply Kd.R_drew)); exact Kd.R_mono HO868.out (fun _ hk => ⟨hk.1.2, hk.2⟩)⟩, ⟨by (with_reducible repeat (first | apply Kd.R_alloc | apply Kd.R_drewN | apply Kd.R_drew)); exact Kd.R_mono HO872.out (fun _ hk => ⟨hk.1.2, hk.2⟩)⟩, ⟨by (with_reducible repeat (first | apply Kd.R_alloc | apply Kd.R_drewN | apply Kd.R_drew)); exact Kd.R_mono HO875.out (fun _ hk => ⟨hk.1.2, hk.2⟩)⟩, ⟨zb BK847⟩, ⟨zb BK862⟩, ⟨zb BK869⟩, ⟨zb BK877⟩, ⟨zB⟩⟩
  case rest =>
   clear HC12
   try clear c1
   try clear c2
   try clear p2
   try clear c3
   try clear c4
   try clear c4b0
   try clear c5
   try clear c8
   try clear c13
   try clear c15
   try clear c18
   try clear c23
   try clear c30
   try clear c31
   try clear c32
   try clear c37
   try clear c38
   try clear c39
   try clear c43
   try clear c44
   try clear c45
   try clear c46
   try clear c48
   try clear c49
   try clear c52
   try clear c53
   try clear c54
   try clear c56
   try clear c57
   try clear hcz14_0
   try clear hcz14_1
   try clear hcz16_0
   try clear hcz16_1
   try clear hcz24_0
   try clear hcz24_1
   try clear hcz26_0
   try clear hcz26_1
   try clear hcz32_0
   try clear hcz32_1
   try clear hcz40_0
   try clear hcz40_1
   try clear hcz47_0
   try clear hcz47_1
   try clear hcz50_0
   try clear hcz50_1
   try clear hcz55_0
   try clear hcz55_1
   try clear hcz58_0
   try clear hcz58_1
   try clear hcz6_0
   try clear hcz6_1
   try clear hfz14_0
   try clear hfz14_1
   try clear hfz16_0
   try clear hfz16_1
   try clear hfz24_0
   try clear hfz24_1
   try clear hfz26_0
   try clear hfz26_1
   try clear hfz32_0
   try clear hfz32_1
   try clear hfz40_0
   try clear hfz40_1
   try clear hfz47_0
   try clear hfz47_1
   try clear hfz50_0
   try clear hfz50_1
   try clear hfz55_0
   try clear hfz55_1
   try clear hfz58_0
   try clear hfz58_1
   try clear hfz6_0
   try clear hfz6_1
   obtain ⟨kq, x44_11, rfl, HA, HJ11, HO_863000, HO_863001, HO_870000, HO_870001, HO_878000, HO_878001, BK847, BK862, BK869, BK877, HB⟩ := hcut
   cases kq with
   | zero => exact absurd HA.out (by simp [laws_FnExactSayJoin.j0])
   | succ kj11 =>
    have H := HA.out
    clear HA
    simp only [laws_FnExactSayJoin.j0] at H
    by_cases c60 : x44_11 = true
    ·subst c60
     have H1 : (some false) = some r := by rw [if_pos rfl] at H; exact H
     clear H
     have H := H1
     clear H1
     obtain rfl := Option.some.inj H
     go_wp2
     go_ret
     exact ⟨zE, zB⟩
    ·replace c60 := Bool.eq_false_iff.mpr c60
     subst c60
     have H1 : ((laws_toState.f kj11 l0_0 l0_1).bind fun bt879 => ((laws_eqState.f kj11 t863 t866 bt879.1 bt879.2).bind fun t885 => (if t885 = true then ((laws_markState.f kj11 t863 t866 1).bind fun bt886 => (if bt886.1 < 0 then (laws_FnExactSayJoin.j1 kj11 a1 t861 true l0_0 l0_1 t855 t858 t870 t873) else ((laws_eqState.f kj11 t870 t873 t855 t858).bind fun t889 => (if t889 = true then (laws_FnExactSayJoin.j1 kj11 a1 t861 (t876 != t861) l0_0 l0_1 t855 t858 t870 t873) else (laws_FnExactSayJoin.j1 kj11 a1 t861 true l0_0 l0_1 t855 t858 t870 t873))))) else (some false)))) = some r := by rw [if_neg (show ¬ (false = true) by decide)] at H; exact H
     clear H
     have H := H1
     clear H1
     replace H := Option.bind_eq_some_iff.mp H
     obtain ⟨⟨t879, t882⟩, A610, H⟩ := H
     replace H : ((laws_eqState.f kj11 t863 t866 t879 t882).bind fun t885 => (if t885 = true then ((laws_markState.f kj11 t863 t866 1).bind fun bt886 => (if bt886.1 < 0 then (laws_FnExactSayJoin.j1 kj11 a1 t861 true l0_0 l0_1 t855 t858 t870 t873) else ((laws_eqState.f kj11 t870 t873 t855 t858).bind fun t889 => (if t889 = true then (laws_FnExactSayJoin.j1 kj11 a1 t861 (t876 != t861) l0_0 l0_1 t855 t858 t870 t873) else (laws_FnExactSayJoin.j1 kj11 a1 t861 true l0_0 l0_1 t855 t858 t870 t873))))) else (some false))) = some r := H
     have A61 := zm A610
     clear A610
     replace H := Option.bind_eq_some_iff.mp H
     obtain ⟨t885, A620, H⟩ := H
     replace H : (if t885 = true then ((laws_markState.f kj11 t863 t866 1).bind fun bt886 => (if bt886.1 < 0 then (laws_FnExactSayJoin.j1 kj11 a1 t861 true l0_0 l0_1 t855 t858 t870 t873) else ((laws_eqState.f kj11 t870 t873 t855 t858).bind fun t889 => (if t889 = true then (laws_FnExactSayJoin.j1 kj11 a1 t861 (t876 != t861) l0_0 l0_1 t855 t858 t870 t873) else (laws_FnExactSayJoin.j1 kj11 a1 t861 true l0_0 l0_1 t855 t858 t870 t873))))) else (some false)) = some r := H
     have A62 := zm A620
     clear A620
     by_cases c63 : t885 = true
     ·subst c63
      have H1 : ((laws_markState.f kj11 t863 t866 1).bind fun bt886 => (if bt886.1 < 0 then (laws_FnExactSayJoin.j1 kj11 a1 t861 true l0_0 l0_1 t855 t858 t870 t873) else ((laws_eqState.f kj11 t870 t873 t855 t858).bind fun t889 => (if t889 = true then (laws_FnExactSayJoin.j1 kj11 a1 t861 (t876 != t861) l0_0 l0_1 t855 t858 t870 t873) else (laws_FnExactSayJoin.j1 kj11 a1 t861 true l0_0 l0_1 t855 t858 t870 t873))))) = some r := by rw [if_pos rfl] at H; exact H
      clear H
      have H := H1
      clear H1
      replace H := Option.bind_eq_some_iff.mp H
      obtain ⟨⟨t886, t887, t888⟩, A640, H⟩ := H
      replace H : (if t886 < 0 then (laws_FnExactSayJoin.j1 kj11 a1 t861 true l0_0 l0_1 t855 t858 t870 t873) else ((laws_eqState.f kj11 t870 t873 t855 t858).bind fun t889 => (if t889 = true then (laws_FnExactSayJoin.j1 kj11 a1 t861 (t876 != t861) l0_0 l0_1 t855 t858 t870 t873) else (laws_FnExactSayJoin.j1 kj11 a1 t861 true l0_0 l0_1 t855 t858 t870 t873)))) = some r := H
      have A64 := zm A640
      clear A640
      have HC65 := zm H
      clear H
      try go_wp2
      replace HO_863000 := zm (Kd.R_drew HO_863000.out)
      replace HO_863001 := zm (Kd.R_drew HO_863001.out)
      replace HO_870000 := zm (Kd.R_drew HO_870000.out)
      replace HO_870001 := zm (Kd.R_drew HO_870001.out)
      replace HO_878000 := zm (Kd.R_drew HO_878000.out)
      replace HO_878001 := zm (Kd.R_drew HO_878001.out)
      replace BK847 := zm (blk_drew BK847.out)
      replace BK862 := zm (blk_drew BK862.out)
      replace BK869 := zm (blk_drew BK869.out)
      replace BK877 := zm (blk_drew BK877.out)
      replace HB := zm (below_drew1 HB.out)
      refine start_ (n := 5) (S := fun w' => w'.cell? ⟨gb869, 0, none⟩ = some (.slice Ao29 t863.length co29) ∧ w'.cell? ⟨gb869, 1, none⟩ = some (.slice Ao33 t866.length co33) ∧ w'.cell? ⟨gb847, 0, none⟩ = some (.slice A0_0 l0_0.length c0_0) ∧ w'.cell? ⟨gb847, 1, none⟩ = some (.slice A0_1 l0_1.length c0_1)) (ds := []) (zl 5 0) (by kernel_rfl) rfl rfl ⟨(blk_cell BK869.out 0).trans rfl, (blk_cell BK869.out 1).trans rfl, (blk_cell BK847.out 0).trans rfl, (blk_cell BK847.out 1).trans rfl⟩ (fun hHeld => ?_)
      generalize wc.drew = w66 at HO_863000 HO_863001 HO_870000 HO_870001 HO_878000 HO_878001 BK847 BK862 BK869 BK877 HB hHeld ⊢
      refine zt 0 (some 45) (zl 5 1) ?_
      refine zt 1 (some 46) (zl 5 3) ?_
      refine zo 2 (some 47) (zl 5 7) (fun K hK => ?_)
      refine zgo #[.agg #[.slice A0_0 l0_0.length c0_0, .slice A0_1 l0_1.length c0_1]] Try.func15 ?_
      with_reducible refine (laws_toState.calls kj11 _ _ l0_0 _ _ l0_1 t879 t882 _ (zk (Kd.C_below HR0_0.out HB.out)) HC0_0.out (zk (Kd.C_below HR0_1.out HB.out)) HC0_1.out A61.out).mono ?_
      rintro e w67 ⟨v880, v883, rfl, ho0, ho1, hb⟩
      refine ⟨_, rfl, ?_⟩
      have HO881 := zm (Kd.R_lower (Kd.R_new' (Kd.R_new' (Kd.R_new' ho0 (Kd.R_lt (zr HO_863000))) (Kd.R_lt (zr HO_870000))) (Kd.R_lt (zr HO_878000))) (below_size zB))
      replace HO_863000 := zm (Kd.R_elder' (zr HO_863000) (Kd.R_base ho0) hb)
      replace HO_870000 := zm (Kd.R_elder' (zr HO_870000) (Kd.R_base ho0) hb)
      replace HO_878000 := zm (Kd.R_elder' (zr HO_878000) (Kd.R_base ho0) hb)
      have HO884 := zm (Kd.R_lower (Kd.R_new' (Kd.R_new' (Kd.R_new' ho1 (Kd.R_lt (zr HO_863001))) (Kd.R_lt (zr HO_870001))) (Kd.R_lt (zr HO_878001))) (below_size zB))
      replace HO_863001 := zm (Kd.R_elder' (zr HO_863001) (Kd.R_base ho1) hb)
      replace HO_870001 := zm (Kd.R_elder' (zr HO_870001) (Kd.R_base ho1) hb)
      replace HO_878001 := zm (Kd.R_elder' (zr HO_878001) (Kd.R_base ho1) hb)
      replace BK847 := zm (blk_below (zb BK847) hb)
      replace BK862 := zm (blk_below (zb BK862) hb)
      replace BK869 := zm (blk_below (zb BK869) hb)
      replace BK877 := zm (blk_below (zb BK877) hb)
      replace HB := zm (below_step zB hb)
      (try clear hb)
      (try clear hb2)
      (try clear hk)
      (try clear hi)
      (try clear ho0)
      (try clear ho1)
      obtain ⟨Ao68, co68, eo68⟩ := Kd.R_slice HO881.out
      (first | subst eo68 | (injection eo68 with f1_ f2_ f3_; have f4_ := f1_.symm; have f5_ := f3_.symm; clear f1_ f2_ f3_; subst f4_; subst f5_))
      obtain ⟨Ao69, co69, eo69⟩ := Kd.R_slice HO884.out
      (first | subst eo69 | (injection eo69 with f1_ f2_ f3_; have f4_ := f1_.symm; have f5_ := f3_.symm; clear f1_ f2_ f3_; subst f4_; subst f5_))
      refine hK.out _ _ ⟨(blk_cell BK869.out 0).trans rfl, (blk_cell BK869.out 1).trans rfl, (blk_cell BK847.out 0).trans rfl, (blk_cell BK847.out 1).trans rfl⟩ (fun hHeld => ?_)
      clear hK K
      refine zn ?_
      refine zo 3 (some 48) (zl 5 15) (fun K hK => ?_)
      refine zgo #[.agg #[.slice Ao29 t863.length co29, .slice Ao33 t866.length co33], .agg #[.slice Ao68 t879.length co68, .slice Ao69 t882.length co69]] Try.func18 ?_
      with_reducible refine (laws_eqState.calls kj11 _ _ t863 _ _ t866 _ _ t879 _ _ t882 true _ ?side1 ?side2 ?side3 ?side4 ?side5 ?side6 ?side7 ?side8 A62.out).mono ?_
      (case side1 => repeat (first | exact (Kd.R_reads' HO_870000.out).2.2 | (with_reducible refine Kd.C_alloc ?_ _) | (with_reducible refine Kd.C_drewN ?_ _) | (with_reducible refine Kd.C_drew ?_)))
      (case side2 => exact (Kd.R_reads' HO_870000.out).2.1)
      (case side3 => repeat (first | exact (Kd.R_reads' HO_870001.out).2.2 | (with_reducible refine Kd.C_alloc ?_ _) | (with_reducible refine Kd.C_drewN ?_ _) | (with_reducible refine Kd.C_drew ?_)))
      (case side4 => exact (Kd.R_reads' HO_870001.out).2.1)
      (case side5 => repeat (first | exact (Kd.R_reads' HO881.out).2.2 | (with_reducible refine Kd.C_alloc ?_ _) | (with_reducible refine Kd.C_drewN ?_ _) | (with_reducible refine Kd.C_drew ?_)))
      (case side6 => exact (Kd.R_reads' HO881.out).2.1)
      (case side7 => repeat (first | exact (Kd.R_reads' HO884.out).2.2 | (with_reducible refine Kd.C_alloc ?_ _) | (with_reducible refine Kd.C_drewN ?_ _) | (with_reducible refine Kd.C_drew ?_)))
      (case side8 => exact (Kd.R_reads' HO884.out).2.1)
      rintro e w70 ⟨rfl, hb⟩
      refine ⟨_, rfl, ?_⟩
      replace HO_863000 := zm (Kd.R_below (zr HO_863000) hb)
      replace HO_863001 := zm (Kd.R_below (zr HO_863001) hb)
      replace HO_870000 := zm (Kd.R_below (zr HO_870000) hb)
      replace HO_870001 := zm (Kd.R_below (zr HO_870001) hb)
      replace HO_878000 := zm (Kd.R_below (zr HO_878000) hb)
      replace HO_878001 := zm (Kd.R_below (zr HO_878001) hb)
      replace HO881 := zm (Kd.R_below (zr HO881) hb)
      replace HO884 := zm (Kd.R_below (zr HO884) hb)
      replace BK847 := zm (blk_below (zb BK847) hb)
      replace BK862 := zm (blk_below (zb BK862) hb)
      replace BK869 := zm (blk_below (zb BK869) hb)
      replace BK877 := zm (blk_below (zb BK877) hb)
      replace HB := zm (below_step zB hb)
      (try clear hb)
      (try clear hb2)
      (try clear hk)
      (try clear hi)
      refine hK.out _ _ ⟨(blk_cell BK869.out 0).trans rfl, (blk_cell BK869.out 1).trans rfl, (blk_cell BK847.out 0).trans rfl, (blk_cell BK847.out 1).trans rfl⟩ (fun hHeld => ?_)
      clear hK K
      refine zn ?_
      refine zp 4 (some 49) (zl 5 31) ?_
      refine done_ (by kernel_rfl) ?_
      have hnb71 := NB869_847.out
      have hnc71 := NB847_869.out
      have hnb72 := NB869_862.out
      have hnc72 := NB862_869.out
      have hnb73 := NB869_877.out
      have hnc73 := NB877_869.out
      have hcz74_0 : w70.cell? ⟨gb869, 0, none⟩ = some (.slice Ao29 t863.length co29) := (blk_cell BK869.out 0).trans rfl
      have hcz74_1 : w70.cell? ⟨gb869, 1, none⟩ = some (.slice Ao33 t866.length co33) := (blk_cell BK869.out 1).trans rfl
      have hfz74_0 := blk_frozen BK869.out 0
      have hfz74_1 := blk_frozen BK869.out 1
      go_upto_region 14 with (first | ((with_reducible refine gate_callee (f := 19) rfl ?_); refine zg (some 52) #[.agg #[.slice Ao29 t863.length co29, .slice Ao33 t866.length co33], .int .i64 1] Try.func19 ?_; (with_reducible refine (laws_markState.calls kj11 (fun k_ => some k_ = (.slice Ao29 t863.length co29 : Value).ownBlock) (.slice Ao29 t863.length co29) t863 (fun k_ => some k_ = (.slice Ao33 t866.length co33 : Value).ownBlock) (.slice Ao33 t866.length co33) t866 1 t886 t887 t888 w _ zB ?side2 ?side3 A64.out).mono ?_); (case side2 => exact Kd.R_tight rfl HO_870000.out); (case side3 => exact Kd.R_tight rfl HO_870001.out); rintro e w75 ⟨rfl, hy0, hy1, hb, hkp⟩; refine ⟨_, rfl, ?_⟩; replace HO_863000 := zm (Kd.R_mono (ok' := fun k_ => some k_ ≠ (.slice Ao29 t863.length co29 : Value).ownBlock ∧ some k_ ≠ (.slice Ao36 t870.length co36 : Value).ownBlock ∧ some k_ ≠ (.slice Ao68 t879.length co68 : Value).ownBlock) (Kd.R_keptB ((Kd.R_apart' HO_863000.out (Kd.R_typed HO_870001.out) (by decide))) hkp (fun k_ hk_ hs_ => Or.elim hs_ (fun e_ => (hk_.1.1.1) e_) (fun e_ => (hk_.2) e_))) (fun k_ hk_ => ⟨hk_.1.1.1.1, hk_.1.1.1.2, hk_.1.1.2⟩)); replace HO_863001 := zm (Kd.R_mono (ok' := fun k_ => some k_ ≠ (.slice Ao33 t866.length co33 : Value).ownBlock ∧ some k_ ≠ (.slice Ao41 t873.length co41 : Value).ownBlock ∧ some k_ ≠ (.slice Ao69 t882.length co69 : Value).ownBlock) (Kd.R_keptB ((Kd.R_apart' HO_863001.out (Kd.R_typed HO_870000.out) (by decide))) hkp (fun k_ hk_ hs_ => Or.elim hs_ (fun e_ => (hk_.2) e_) (fun e_ => (hk_.1.1.1) e_))) (fun k_ hk_ => ⟨hk_.1.1.1.1, hk_.1.1.1.2, hk_.1.1.2⟩)); replace HO_878000 := zm (Kd.R_mono (ok' := fun k_ => some k_ ≠ (.slice Ao22 t855.length co22 : Value).ownBlock ∧ some k_ ≠ (.slice Ao29 t863.length co29 : Value).ownBlock ∧ some k_ ≠ (.slice Ao68 t879.length co68 : Value).ownBlock) (Kd.R_keptB ((Kd.R_apart' HO_878000.out (Kd.R_typed HO_870001.out) (by decide))) hkp (fun k_ hk_ hs_ => Or.elim hs_ (fun e_ => (hk_.1.1.2) e_) (fun e_ => (hk_.2) e_))) (fun k_ hk_ => ⟨hk_.1.1.1.1, hk_.1.1.1.2, hk_.1.1.2⟩)); replace HO_878001 := zm (Kd.R_mono (ok' := fun k_ => some k_ ≠ (.slice Ao25 t858.length co25 : Value).ownBlock ∧ some k_ ≠ (.slice Ao33 t866.length co33 : Value).ownBlock ∧ some k_ ≠ (.slice Ao69 t882.length co69 : Value).ownBlock) (Kd.R_keptB ((Kd.R_apart' HO_878001.out (Kd.R_typed HO_870000.out) (by decide))) hkp (fun k_ hk_ hs_ => Or.elim hs_ (fun e_ => (hk_.2) e_) (fun e_ => (hk_.1.1.2) e_))) (fun k_ hk_ => ⟨hk_.1.1.1.1, hk_.1.1.1.2, hk_.1.1.2⟩)); replace BK847 := zm (blk_kept (zb BK847) hkp (fun hs_ => Or.elim hs_ (fun e_ => (fun e_ => (Kd.R_ne HO_870000.out BK847.out (by decide)) e_) e_) (fun e_ => (fun e_ => (Kd.R_ne HO_870001.out BK847.out (by decide)) e_) e_))); replace BK862 := zm (blk_kept (zb BK862) hkp (fun hs_ => Or.elim hs_ (fun e_ => (fun e_ => (Kd.R_ne HO_870000.out BK862.out (by decide)) e_) e_) (fun e_ => (fun e_ => (Kd.R_ne HO_870001.out BK862.out (by decide)) e_) e_))); replace BK869 := zm (blk_kept (zb BK869) hkp (fun hs_ => Or.elim hs_ (fun e_ => (fun e_ => (Kd.R_ne HO_870000.out BK869.out (by decide)) e_) e_) (fun e_ => (fun e_ => (Kd.R_ne HO_870001.out BK869.out (by decide)) e_) e_))); replace BK877 := zm (blk_kept (zb BK877) hkp (fun hs_ => Or.elim hs_ (fun e_ => (fun e_ => (Kd.R_ne HO_870000.out BK877.out (by decide)) e_) e_) (fun e_ => (fun e_ => (Kd.R_ne HO_870001.out BK877.out (by decide)) e_) e_))); replace HO881 := zm (Kd.R_mono (ok' := fun k_ => some k_ ≠ (.slice Ao22 t855.length co22 : Value).ownBlock ∧ some k_ ≠ (.slice Ao29 t863.length co29 : Value).ownBlock ∧ some k_ ≠ (.slice Ao36 t870.length co36 : Value).ownBlock) (Kd.R_keptB ((Kd.R_apart' HO881.out (Kd.R_typed HO_870001.out) (by decide))) hkp (fun k_ hk_ hs_ => Or.elim hs_ (fun e_ => (hk_.1.1.2) e_) (fun e_ => (hk_.2) e_))) (fun k_ hk_ => ⟨hk_.1.1.1.1.2, hk_.1.1.1.2, hk_.1.1.2⟩)); replace HO_870001 := zm (Kd.R_reok rfl hy1 (fun k_ e_ => HO_870001.out.1 k_ e_)); replace HO884 := zm (Kd.R_mono (ok' := fun k_ => some k_ ≠ (.slice Ao25 t858.length co25 : Value).ownBlock ∧ some k_ ≠ (.slice Ao33 t866.length co33 : Value).ownBlock ∧ some k_ ≠ (.slice Ao41 t873.length co41 : Value).ownBlock) (Kd.R_keptB ((Kd.R_apart' HO884.out (Kd.R_typed HO_870000.out) (by decide))) hkp (fun k_ hk_ hs_ => Or.elim hs_ (fun e_ => (hk_.2) e_) (fun e_ => (hk_.1.1.2) e_))) (fun k_ hk_ => ⟨hk_.1.1.1.1.2, hk_.1.1.1.2, hk_.1.1.2⟩)); replace HO_870000 := zm (Kd.R_reok rfl hy0 (fun k_ e_ => HO_870000.out.1 k_ e_)); replace HB := zm (hb); clear hb hkp hy0; (try clear hy1)))
      (try simp only [Act.put, List.setIfInBounds_toArray, List.set_cons_zero, List.set_cons_succ])
      go_cut [65] (fun v65 wc => ∃ (kq : Nat) (x65_64 : Bool), v65 = .bool x65_64 ∧ Aside0 (laws_FnExactSayJoin.j1 kq a1 t861 x65_64 l0_0 l0_1 t855 t858 t870 t873 = some r) ∧ Aside0 (kq ≤ kj11) ∧ Aside0 (Kd.R k68 68 wc w.heap.size (fun k_ => some k_ ≠ ((.slice Ao29 t863.length co29) : Value).ownBlock ∧ some k_ ≠ ((.slice Ao36 t870.length co36) : Value).ownBlock) (.slice Ao22 t855.length co22) t855) ∧ Aside0 (Kd.R k72 72 wc w.heap.size (fun k_ => some k_ ≠ ((.slice Ao33 t866.length co33) : Value).ownBlock ∧ some k_ ≠ ((.slice Ao41 t873.length co41) : Value).ownBlock) (.slice Ao25 t858.length co25) t858) ∧ Aside0 (Kd.R k68 68 wc w.heap.size (fun k_ => some k_ ≠ ((.slice Ao22 t855.length co22) : Value).ownBlock ∧ some k_ ≠ ((.slice Ao36 t870.length co36) : Value).ownBlock) (.slice Ao29 t863.length co29) t887) ∧ Aside0 (Kd.R k72 72 wc w.heap.size (fun k_ => some k_ ≠ ((.slice Ao25 t858.length co25) : Value).ownBlock ∧ some k_ ≠ ((.slice Ao41 t873.length co41) : Value).ownBlock) (.slice Ao33 t866.length co33) t888) ∧ Aside0 (Kd.R k68 68 wc w.heap.size (fun k_ => some k_ ≠ ((.slice Ao22 t855.length co22) : Value).ownBlock ∧ some k_ ≠ ((.slice Ao29 t863.length co29) : Value).ownBlock) (.slice Ao36 t870.length co36) t870) ∧ Aside0 (Kd.R k72 72 wc w.heap.size (fun k_ => some k_ ≠ ((.slice Ao25 t858.length co25) : Value).ownBlock ∧ some k_ ≠ ((.slice Ao33 t866.length co33) : Value).ownBlock) (.slice Ao41 t873.length co41) t873) ∧ Aside0 (wc.heap[gb847]? = some (.cells #[(.slice A0_0 l0_0.length c0_0), (.slice A0_1 l0_1.length c0_1)] 25 (0, 0))) ∧ Aside0 (wc.heap[gb862]? = some (.cells #[(.slice Ao22 t855.length co22), (.slice Ao25 t858.length co25)] 32 (0, 0))) ∧ Aside0 (wc.heap[gb869]? = some (.cells #[(.slice Ao29 t863.length co29), (.slice Ao33 t866.length co33)] 32 (0, 0))) ∧ Aside0 (wc.heap[gb877]? = some (.cells #[(.slice Ao36 t870.length co36), (.slice Ao41 t873.length co41)] 32 (0, 0))) ∧ Aside0 (Below w.heap.size w wc))
      case first =>
       have H := HC65.out
       clear HC65
       by_cases c76 : t886 < 0
       ·rw [if_pos c76] at H
        have c76b0 : decide (t886 < 0) = true := decide_eq_true c76
        clear c76
        (first | rw [c76b0] | (simp only [i64_w, i32_w]; rw [c76b0]) | skip)
        have H' := zm H
        clear H
        go_wp2
        go_meet
        case rel => exact ⟨_, (true), zF, H', ⟨by have := HJ11.out; first | omega | exact Nat.le_refl _⟩, ⟨by (with_reducible repeat (first | apply Kd.R_alloc | apply Kd.R_drewN | apply Kd.R_drew)); exact Kd.R_mono HO_863000.out (fun _ hk => ⟨hk.1, hk.2.1⟩)⟩, ⟨by (with_reducible repeat (first | apply Kd.R_alloc | apply Kd.R_drewN | apply Kd.R_drew)); exact Kd.R_mono HO_863001.out (fun _ hk => ⟨hk.1, hk.2.1⟩)⟩, ⟨by (with_reducible repeat (first | apply Kd.R_alloc | apply Kd.R_drewN | apply Kd.R_drew)); exact Kd.R_mono HO_870000.out (fun _ hk => ⟨hk.1.1, hk.1.2⟩)⟩, ⟨by (with_reducible repeat (first | apply Kd.R_alloc | apply Kd.R_drewN | apply Kd.R_drew)); exact Kd.R_mono HO_870001.out (fun _ hk => ⟨hk.1.1, hk.1.2⟩)⟩, ⟨by (with_reducible repeat (first | apply Kd.R_alloc | apply Kd.R_drewN | apply Kd.R_drew)); exact Kd.R_mono HO_878000.out (fun _ hk => ⟨hk.1, hk.2.1⟩)⟩, ⟨by (with_reducible repeat (first | apply Kd.R_alloc | apply Kd.R_drewN | apply Kd.R_drew)); exact Kd.R_mono HO_878001.out (fun _ hk => ⟨hk.1, hk.2.1⟩)⟩, ⟨zb BK847⟩, ⟨zb BK862⟩, ⟨zb BK869⟩, ⟨zb BK877⟩, ⟨zB⟩⟩
       ·rw [if_neg c76] at H
        have c76b0 : decide (t886 < 0) = false := decide_eq_false c76
        clear c76
        (first | rw [c76b0] | (simp only [i64_w, i32_w]; rw [c76b0]) | skip)
        replace H := Option.bind_eq_some_iff.mp H
        obtain ⟨t889, A770, H⟩ := H
        replace H : (if t889 = true then (laws_FnExactSayJoin.j1 kj11 a1 t861 (t876 != t861) l0_0 l0_1 t855 t858 t870 t873) else (laws_FnExactSayJoin.j1 kj11 a1 t861 true l0_0 l0_1 t855 t858 t870 t873)) = some r := H
        have A77 := zm A770
        clear A770
        by_cases c78 : t889 = true
        ·subst c78
         have H1 : (laws_FnExactSayJoin.j1 kj11 a1 t861 (t876 != t861) l0_0 l0_1 t855 t858 t870 t873) = some r := by rw [if_pos rfl] at H; exact H
         clear H
         have H := H1
         clear H1
         have H' := zm H
         clear H
         have hnb79 := NB877_847.out
         have hnc79 := NB847_877.out
         have hnb80 := NB877_862.out
         have hnc80 := NB862_877.out
         have hnb81 := NB877_869.out
         have hnc81 := NB869_877.out
         have hcz82_0 : w75.cell? ⟨gb877, 0, none⟩ = some (.slice Ao36 t870.length co36) := (blk_cell BK877.out 0).trans rfl
         have hcz82_1 : w75.cell? ⟨gb877, 1, none⟩ = some (.slice Ao41 t873.length co41) := (blk_cell BK877.out 1).trans rfl
         have hfz82_0 := blk_frozen BK877.out 0
         have hfz82_1 := blk_frozen BK877.out 1
         have hnb83 := NB862_847.out
         have hnc83 := NB847_862.out
         have hnb84 := NB862_869.out
         have hnc84 := NB869_862.out
         have hcz85_0 : w75.cell? ⟨gb862, 0, none⟩ = some (.slice Ao22 t855.length co22) := (blk_cell BK862.out 0).trans rfl
         have hcz85_1 : w75.cell? ⟨gb862, 1, none⟩ = some (.slice Ao25 t858.length co25) := (blk_cell BK862.out 1).trans rfl
         have hfz85_0 := blk_frozen BK862.out 0
         have hfz85_1 := blk_frozen BK862.out 1
         go_wp2_with (first | (go_at_call 18; (with_reducible refine (laws_eqState.calls kj11 _ _ t870 _ _ t873 _ _ t855 _ _ t858 true _ ?side1 ?side2 ?side3 ?side4 ?side5 ?side6 ?side7 ?side8 A77.out).mono ?_); (case side1 => repeat (first | exact (Kd.R_reads' HO_878000.out).2.2 | (with_reducible refine Kd.C_alloc ?_ _) | (with_reducible refine Kd.C_drewN ?_ _) | (with_reducible refine Kd.C_drew ?_))); (case side2 => exact (Kd.R_reads' HO_878000.out).2.1); (case side3 => repeat (first | exact (Kd.R_reads' HO_878001.out).2.2 | (with_reducible refine Kd.C_alloc ?_ _) | (with_reducible refine Kd.C_drewN ?_ _) | (with_reducible refine Kd.C_drew ?_))); (case side4 => exact (Kd.R_reads' HO_878001.out).2.1); (case side5 => repeat (first | exact (Kd.R_reads' HO_863000.out).2.2 | (with_reducible refine Kd.C_alloc ?_ _) | (with_reducible refine Kd.C_drewN ?_ _) | (with_reducible refine Kd.C_drew ?_))); (case side6 => exact (Kd.R_reads' HO_863000.out).2.1); (case side7 => repeat (first | exact (Kd.R_reads' HO_863001.out).2.2 | (with_reducible refine Kd.C_alloc ?_ _) | (with_reducible refine Kd.C_drewN ?_ _) | (with_reducible refine Kd.C_drew ?_))); (case side8 => exact (Kd.R_reads' HO_863001.out).2.1); rintro e w86 ⟨rfl, hb⟩; replace HO_863000 := zm (Kd.R_below (zr HO_863000) hb); replace HO_863001 := zm (Kd.R_below (zr HO_863001) hb); replace HO_870000 := zm (Kd.R_below (zr HO_870000) hb); replace HO_870001 := zm (Kd.R_below (zr HO_870001) hb); replace HO_878000 := zm (Kd.R_below (zr HO_878000) hb); replace HO_878001 := zm (Kd.R_below (zr HO_878001) hb); replace HO881 := zm (Kd.R_below (zr HO881) hb); replace HO884 := zm (Kd.R_below (zr HO884) hb); replace BK847 := zm (blk_below (zb BK847) hb); replace BK862 := zm (blk_below (zb BK862) hb); replace BK869 := zm (blk_below (zb BK869) hb); replace BK877 := zm (blk_below (zb BK877) hb); replace HB := zm (below_step zB hb); clear hb))
         go_meet
         case rel => exact ⟨_, ((t876 != t861)), zF, H', ⟨by have := HJ11.out; first | omega | exact Nat.le_refl _⟩, ⟨by (with_reducible repeat (first | apply Kd.R_alloc | apply Kd.R_drewN | apply Kd.R_drew)); exact Kd.R_mono HO_863000.out (fun _ hk => ⟨hk.1, hk.2.1⟩)⟩, ⟨by (with_reducible repeat (first | apply Kd.R_alloc | apply Kd.R_drewN | apply Kd.R_drew)); exact Kd.R_mono HO_863001.out (fun _ hk => ⟨hk.1, hk.2.1⟩)⟩, ⟨by (with_reducible repeat (first | apply Kd.R_alloc | apply Kd.R_drewN | apply Kd.R_drew)); exact Kd.R_mono HO_870000.out (fun _ hk => ⟨hk.1.1, hk.1.2⟩)⟩, ⟨by (with_reducible repeat (first | apply Kd.R_alloc | apply Kd.R_drewN | apply Kd.R_drew)); exact Kd.R_mono HO_870001.out (fun _ hk => ⟨hk.1.1, hk.1.2⟩)⟩, ⟨by (with_reducible repeat (first | apply Kd.R_alloc | apply Kd.R_drewN | apply Kd.R_drew)); exact Kd.R_mono HO_878000.out (fun _ hk => ⟨hk.1, hk.2.1⟩)⟩, ⟨by (with_reducible repeat (first | apply Kd.R_alloc | apply Kd.R_drewN | apply Kd.R_drew)); exact Kd.R_mono HO_878001.out (fun _ hk => ⟨hk.1, hk.2.1⟩)⟩, ⟨zb BK847⟩, ⟨zb BK862⟩, ⟨zb BK869⟩, ⟨zb BK877⟩, ⟨zB⟩⟩
        ·replace c78 := Bool.eq_false_iff.mpr c78
         subst c78
         have H1 : (laws_FnExactSayJoin.j1 kj11 a1 t861 true l0_0 l0_1 t855 t858 t870 t873) = some r := by rw [if_neg (show ¬ (false = true) by decide)] at H; exact H
         clear H
         have H := H1
         clear H1
         have H' := zm H
         clear H
         have hnb87 := NB877_847.out
         have hnc87 := NB847_877.out
         have hnb88 := NB877_862.out
         have hnc88 := NB862_877.out
         have hnb89 := NB877_869.out
         have hnc89 := NB869_877.out
         have hcz90_0 : w75.cell? ⟨gb877, 0, none⟩ = some (.slice Ao36 t870.length co36) := (blk_cell BK877.out 0).trans rfl
         have hcz90_1 : w75.cell? ⟨gb877, 1, none⟩ = some (.slice Ao41 t873.length co41) := (blk_cell BK877.out 1).trans rfl
         have hfz90_0 := blk_frozen BK877.out 0
         have hfz90_1 := blk_frozen BK877.out 1
         have hnb91 := NB862_847.out
         have hnc91 := NB847_862.out
         have hnb92 := NB862_869.out
         have hnc92 := NB869_862.out
         have hcz93_0 : w75.cell? ⟨gb862, 0, none⟩ = some (.slice Ao22 t855.length co22) := (blk_cell BK862.out 0).trans rfl
         have hcz93_1 : w75.cell? ⟨gb862, 1, none⟩ = some (.slice Ao25 t858.length co25) := (blk_cell BK862.out 1).trans rfl
         have hfz93_0 := blk_frozen BK862.out 0
         have hfz93_1 := blk_frozen BK862.out 1
         go_wp2_with (first | (go_at_call 18; (with_reducible refine (laws_eqState.calls kj11 _ _ t870 _ _ t873 _ _ t855 _ _ t858 false _ ?side1 ?side2 ?side3 ?side4 ?side5 ?side6 ?side7 ?side8 A77.out).mono ?_); (case side1 => repeat (first | exact (Kd.R_reads' HO_878000.out).2.2 | (with_reducible refine Kd.C_alloc ?_ _) | (with_reducible refine Kd.C_drewN ?_ _) | (with_reducible refine Kd.C_drew ?_))); (case side2 => exact (Kd.R_reads' HO_878000.out).2.1); (case side3 => repeat (first | exact (Kd.R_reads' HO_878001.out).2.2 | (with_reducible refine Kd.C_alloc ?_ _) | (with_reducible refine Kd.C_drewN ?_ _) | (with_reducible refine Kd.C_drew ?_))); (case side4 => exact (Kd.R_reads' HO_878001.out).2.1); (case side5 => repeat (first | exact (Kd.R_reads' HO_863000.out).2.2 | (with_reducible refine Kd.C_alloc ?_ _) | (with_reducible refine Kd.C_drewN ?_ _) | (with_reducible refine Kd.C_drew ?_))); (case side6 => exact (Kd.R_reads' HO_863000.out).2.1); (case side7 => repeat (first | exact (Kd.R_reads' HO_863001.out).2.2 | (with_reducible refine Kd.C_alloc ?_ _) | (with_reducible refine Kd.C_drewN ?_ _) | (with_reducible refine Kd.C_drew ?_))); (case side8 => exact (Kd.R_reads' HO_863001.out).2.1); rintro e w94 ⟨rfl, hb⟩; replace HO_863000 := zm (Kd.R_below (zr HO_863000) hb); replace HO_863001 := zm (Kd.R_below (zr HO_863001) hb); replace HO_870000 := zm (Kd.R_below (zr HO_870000) hb); replace HO_870001 := zm (Kd.R_below (zr HO_870001) hb); replace HO_878000 := zm (Kd.R_below (zr HO_878000) hb); replace HO_878001 := zm (Kd.R_below (zr HO_878001) hb); replace HO881 := zm (Kd.R_below (zr HO881) hb); replace HO884 := zm (Kd.R_below (zr HO884) hb); replace BK847 := zm (blk_below (zb BK847) hb); replace BK862 := zm (blk_below (zb BK862) hb); replace BK869 := zm (blk_below (zb BK869) hb); replace BK877 := zm (blk_below (zb BK877) hb); replace HB := zm (below_step zB hb); clear hb))
         go_meet
         case rel => exact ⟨_, (true), zF, H', ⟨by have := HJ11.out; first | omega | exact Nat.le_refl _⟩, ⟨by (with_reducible repeat (first | apply Kd.R_alloc | apply Kd.R_drewN | apply Kd.R_drew)); exact Kd.R_mono HO_863000.out (fun _ hk => ⟨hk.1, hk.2.1⟩)⟩, ⟨by (with_reducible repeat (first | apply Kd.R_alloc | apply Kd.R_drewN | apply Kd.R_drew)); exact Kd.R_mono HO_863001.out (fun _ hk => ⟨hk.1, hk.2.1⟩)⟩, ⟨by (with_reducible repeat (first | apply Kd.R_alloc | apply Kd.R_drewN | apply Kd.R_drew)); exact Kd.R_mono HO_870000.out (fun _ hk => ⟨hk.1.1, hk.1.2⟩)⟩, ⟨by (with_reducible repeat (first | apply Kd.R_alloc | apply Kd.R_drewN | apply Kd.R_drew)); exact Kd.R_mono HO_870001.out (fun _ hk => ⟨hk.1.1, hk.1.2⟩)⟩, ⟨by (with_reducible repeat (first | apply Kd.R_alloc | apply Kd.R_drewN | apply Kd.R_drew)); exact Kd.R_mono HO_878000.out (fun _ hk => ⟨hk.1, hk.2.1⟩)⟩, ⟨by (with_reducible repeat (first | apply Kd.R_alloc | apply Kd.R_drewN | apply Kd.R_drew)); exact Kd.R_mono HO_878001.out (fun _ hk => ⟨hk.1, hk.2.1⟩)⟩, ⟨zb BK847⟩, ⟨zb BK862⟩, ⟨zb BK869⟩, ⟨zb BK877⟩, ⟨zB⟩⟩
      case rest =>
       clear HC65
       try clear c1
       try clear c2
       try clear p2
       try clear c3
       try clear c4
       try clear c4b0
       try clear c5
       try clear c6
       try clear c7
       try clear c8
       try clear c9
       try clear c13
       try clear c15
       try clear c18
       try clear c19
       try clear c23
       try clear c30
       try clear c31
       try clear c32
       try clear c37
       try clear c38
       try clear c39
       try clear c43
       try clear c44
       try clear c45
       try clear c46
       try clear c48
       try clear c49
       try clear c52
       try clear c53
       try clear c54
       try clear c56
       try clear c57
       try clear c60
       try clear c63
       try clear c71
       try clear c72
       try clear c73
       try clear c76
       try clear c76b0
       try clear c78
       try clear c79
       try clear c80
       try clear c81
       try clear c83
       try clear c84
       try clear c87
       try clear c88
       try clear c89
       try clear c91
       try clear c92
       try clear hcz14_0
       try clear hcz14_1
       try clear hcz16_0
       try clear hcz16_1
       try clear hcz24_0
       try clear hcz24_1
       try clear hcz26_0
       try clear hcz26_1
       try clear hcz32_0
       try clear hcz32_1
       try clear hcz40_0
       try clear hcz40_1
       try clear hcz47_0
       try clear hcz47_1
       try clear hcz50_0
       try clear hcz50_1
       try clear hcz55_0
       try clear hcz55_1
       try clear hcz58_0
       try clear hcz58_1
       try clear hcz6_0
       try clear hcz6_1
       try clear hcz74_0
       try clear hcz74_1
       try clear hcz82_0
       try clear hcz82_1
       try clear hcz85_0
       try clear hcz85_1
       try clear hcz90_0
       try clear hcz90_1
       try clear hcz93_0
       try clear hcz93_1
       try clear hfz14_0
       try clear hfz14_1
       try clear hfz16_0
       try clear hfz16_1
       try clear hfz24_0
       try clear hfz24_1
       try clear hfz26_0
       try clear hfz26_1
       try clear hfz32_0
       try clear hfz32_1
       try clear hfz40_0
       try clear hfz40_1
       try clear hfz47_0
       try clear hfz47_1
       try clear hfz50_0
       try clear hfz50_1
       try clear hfz55_0
       try clear hfz55_1
       try clear hfz58_0
       try clear hfz58_1
       try clear hfz6_0
       try clear hfz6_1
       try clear hfz74_0
       try clear hfz74_1
       try clear hfz82_0
       try clear hfz82_1
       try clear hfz85_0
       try clear hfz85_1
       try clear hfz90_0
       try clear hfz90_1
       try clear hfz93_0
       try clear hfz93_1
       try clear p2
       obtain ⟨kq, x65_64, rfl, HA, HJ64, HO_863000, HO_863001, HO_870000, HO_870001, HO_878000, HO_878001, BK847, BK862, BK869, BK877, HB⟩ := hcut
       have hl870000_64 := (Kd.R_reads' HO_870000.out).1
       rw [hl870000_64] at HO_870000
       (try simp only [hl870000_64])
       (try simp only [hl870000_64] at BK847)
       (try simp only [hl870000_64] at BK862)
       (try simp only [hl870000_64] at BK869)
       (try simp only [hl870000_64] at BK877)
       (try simp only [hl870000_64] at HO_863000)
       (try simp only [hl870000_64] at HO_863001)
       (try simp only [hl870000_64] at HO_870001)
       (try simp only [hl870000_64] at HO_878000)
       (try simp only [hl870000_64] at HO_878001)
       have hl870001_64 := (Kd.R_reads' HO_870001.out).1
       rw [hl870001_64] at HO_870001
       (try simp only [hl870001_64])
       (try simp only [hl870001_64] at BK847)
       (try simp only [hl870001_64] at BK862)
       (try simp only [hl870001_64] at BK869)
       (try simp only [hl870001_64] at BK877)
       (try simp only [hl870001_64] at HO_863000)
       (try simp only [hl870001_64] at HO_863001)
       (try simp only [hl870001_64] at HO_870000)
       (try simp only [hl870001_64] at HO_878000)
       (try simp only [hl870001_64] at HO_878001)
       cases kq with
       | zero => exact absurd HA.out (by simp [laws_FnExactSayJoin.j1])
       | succ kj64 =>
        have H := HA.out
        clear HA
        simp only [laws_FnExactSayJoin.j1] at H
        by_cases c95 : x65_64 = true
        ·subst c95
         have H1 : (some false) = some r := by rw [if_pos rfl] at H; exact H
         clear H
         have H := H1
         clear H1
         obtain rfl := Option.some.inj H
         go_wp2
         go_ret
         exact ⟨zE, zB⟩
        ·replace c95 := Bool.eq_false_iff.mpr c95
         subst c95
         have H1 : ((laws_markState.f kj64 t870 t873 1).bind fun bt890 => ((laws_heldState.f kj64 bt890.2.1 bt890.2.2 1).bind fun t893 => (if t893 < 0 then (some false) else (if t893 = bt890.1 then ((laws_toState.f kj64 l0_0 l0_1).bind fun bt894 => ((impl_SayJoin.f kj64 bt894.1 bt894.2 a1).bind fun bt900 => ((laws_eqState.f kj64 bt900.1 bt900.2.1 t855 t858).bind fun t908 => (if t908 = true then (laws_FnExactSayJoin.j2 kj64 bt890.1 (bt900.2.2 != t861) bt890.2.1 bt890.2.2) else (laws_FnExactSayJoin.j2 kj64 bt890.1 true bt890.2.1 bt890.2.2))))) else (some false))))) = some r := by rw [if_neg (show ¬ (false = true) by decide)] at H; exact H
         clear H
         have H := H1
         clear H1
         replace H := Option.bind_eq_some_iff.mp H
         obtain ⟨⟨t890, t891, t892⟩, A960, H⟩ := H
         replace H : ((laws_heldState.f kj64 t891 t892 1).bind fun t893 => (if t893 < 0 then (some false) else (if t893 = t890 then ((laws_toState.f kj64 l0_0 l0_1).bind fun bt894 => ((impl_SayJoin.f kj64 bt894.1 bt894.2 a1).bind fun bt900 => ((laws_eqState.f kj64 bt900.1 bt900.2.1 t855 t858).bind fun t908 => (if t908 = true then (laws_FnExactSayJoin.j2 kj64 t890 (bt900.2.2 != t861) t891 t892) else (laws_FnExactSayJoin.j2 kj64 t890 true t891 t892))))) else (some false)))) = some r := H
         have A96 := zm A960
         clear A960
         replace H := Option.bind_eq_some_iff.mp H
         obtain ⟨t893, A970, H⟩ := H
         replace H : (if t893 < 0 then (some false) else (if t893 = t890 then ((laws_toState.f kj64 l0_0 l0_1).bind fun bt894 => ((impl_SayJoin.f kj64 bt894.1 bt894.2 a1).bind fun bt900 => ((laws_eqState.f kj64 bt900.1 bt900.2.1 t855 t858).bind fun t908 => (if t908 = true then (laws_FnExactSayJoin.j2 kj64 t890 (bt900.2.2 != t861) t891 t892) else (laws_FnExactSayJoin.j2 kj64 t890 true t891 t892))))) else (some false))) = some r := H
         have A97 := zm A970
         clear A970
         by_cases c98 : t893 < 0
         ·rw [if_pos c98] at H
          have c98b0 : decide (t893 < 0) = true := decide_eq_true c98
          clear c98
          obtain rfl := Option.some.inj H
          have hnb99 := NB877_847.out
          have hnc99 := NB847_877.out
          have hnb100 := NB877_862.out
          have hnc100 := NB862_877.out
          have hnb101 := NB877_869.out
          have hnc101 := NB869_877.out
          have hcz102_0 : wc.cell? ⟨gb877, 0, none⟩ = some (.slice Ao36 t870.length co36) := (blk_cell BK877.out 0).trans rfl
          have hcz102_1 : wc.cell? ⟨gb877, 1, none⟩ = some (.slice Ao41 t873.length co41) := (blk_cell BK877.out 1).trans rfl
          have hfz102_0 := blk_frozen BK877.out 0
          have hfz102_1 := blk_frozen BK877.out 1
          go_wp2_with (first | ((with_reducible refine gate_callee (f := 19) rfl ?_); refine zg (some 68) #[.agg #[.slice Ao36 t870.length co36, .slice Ao41 t873.length co41], .int .i64 1] Try.func19 ?_; (with_reducible refine (laws_markState.calls kj64 (fun k_ => some k_ = (.slice Ao36 t870.length co36 : Value).ownBlock) (.slice Ao36 t870.length co36) t870 (fun k_ => some k_ = (.slice Ao41 t873.length co41 : Value).ownBlock) (.slice Ao41 t873.length co41) t873 1 t890 t891 t892 w _ zB ?side2 ?side3 A96.out).mono ?_); (case side2 => exact Kd.R_tight rfl HO_878000.out); (case side3 => exact Kd.R_tight rfl HO_878001.out); rintro e w103 ⟨rfl, hy0, hy1, hb, hkp⟩; refine ⟨_, rfl, ?_⟩; replace HO_863000 := zm (Kd.R_mono (ok' := fun k_ => some k_ ≠ (.slice Ao29 t887.length co29 : Value).ownBlock ∧ some k_ ≠ (.slice Ao36 t870.length co36 : Value).ownBlock) (Kd.R_keptB ((Kd.R_apart' HO_863000.out (Kd.R_typed HO_878001.out) (by decide))) hkp (fun k_ hk_ hs_ => Or.elim hs_ (fun e_ => (hk_.1.2) e_) (fun e_ => (hk_.2) e_))) (fun k_ hk_ => ⟨hk_.1.1.1, hk_.1.1.2⟩)); replace HO_863001 := zm (Kd.R_mono (ok' := fun k_ => some k_ ≠ (.slice Ao33 t888.length co33 : Value).ownBlock ∧ some k_ ≠ (.slice Ao41 t873.length co41 : Value).ownBlock) (Kd.R_keptB ((Kd.R_apart' HO_863001.out (Kd.R_typed HO_878000.out) (by decide))) hkp (fun k_ hk_ hs_ => Or.elim hs_ (fun e_ => (hk_.2) e_) (fun e_ => (hk_.1.2) e_))) (fun k_ hk_ => ⟨hk_.1.1.1, hk_.1.1.2⟩)); replace HO_870000 := zm (Kd.R_mono (ok' := fun k_ => some k_ ≠ (.slice Ao22 t855.length co22 : Value).ownBlock ∧ some k_ ≠ (.slice Ao36 t870.length co36 : Value).ownBlock) (Kd.R_keptB ((Kd.R_apart' HO_870000.out (Kd.R_typed HO_878001.out) (by decide))) hkp (fun k_ hk_ hs_ => Or.elim hs_ (fun e_ => (hk_.1.2) e_) (fun e_ => (hk_.2) e_))) (fun k_ hk_ => ⟨hk_.1.1.1, hk_.1.1.2⟩)); replace HO_870001 := zm (Kd.R_mono (ok' := fun k_ => some k_ ≠ (.slice Ao25 t858.length co25 : Value).ownBlock ∧ some k_ ≠ (.slice Ao41 t873.length co41 : Value).ownBlock) (Kd.R_keptB ((Kd.R_apart' HO_870001.out (Kd.R_typed HO_878000.out) (by decide))) hkp (fun k_ hk_ hs_ => Or.elim hs_ (fun e_ => (hk_.2) e_) (fun e_ => (hk_.1.2) e_))) (fun k_ hk_ => ⟨hk_.1.1.1, hk_.1.1.2⟩)); replace BK847 := zm (blk_kept (zb BK847) hkp (fun hs_ => Or.elim hs_ (fun e_ => (fun e_ => (Kd.R_ne HO_878000.out BK847.out (by decide)) e_) e_) (fun e_ => (fun e_ => (Kd.R_ne HO_878001.out BK847.out (by decide)) e_) e_))); replace BK862 := zm (blk_kept (zb BK862) hkp (fun hs_ => Or.elim hs_ (fun e_ => (fun e_ => (Kd.R_ne HO_878000.out BK862.out (by decide)) e_) e_) (fun e_ => (fun e_ => (Kd.R_ne HO_878001.out BK862.out (by decide)) e_) e_))); replace BK869 := zm (blk_kept (zb BK869) hkp (fun hs_ => Or.elim hs_ (fun e_ => (fun e_ => (Kd.R_ne HO_878000.out BK869.out (by decide)) e_) e_) (fun e_ => (fun e_ => (Kd.R_ne HO_878001.out BK869.out (by decide)) e_) e_))); replace BK877 := zm (blk_kept (zb BK877) hkp (fun hs_ => Or.elim hs_ (fun e_ => (fun e_ => (Kd.R_ne HO_878000.out BK877.out (by decide)) e_) e_) (fun e_ => (fun e_ => (Kd.R_ne HO_878001.out BK877.out (by decide)) e_) e_))); replace HO_878000 := zm (Kd.R_reok rfl hy0 (fun k_ e_ => HO_878000.out.1 k_ e_)); replace HO_878001 := zm (Kd.R_reok rfl hy1 (fun k_ e_ => HO_878001.out.1 k_ e_)); replace HB := zm (hb); clear hb hkp hy0; (try clear hy1); have hcz104_0 : w103.cell? ⟨gb877, 0, none⟩ = some (.slice Ao36 t870.length co36) := (blk_cell BK877.out 0).trans rfl; have hcz104_1 : w103.cell? ⟨gb877, 1, none⟩ = some (.slice Ao41 t873.length co41) := (blk_cell BK877.out 1).trans rfl; have hfz104_0 := blk_frozen BK877.out 0; have hfz104_1 := blk_frozen BK877.out 1) | ((with_reducible refine gate_callee (f := 26) rfl ?_); refine goesL_ (some 71) rfl rfl Try.func26 (by kernel_rfl) rfl #[.agg #[.slice Ao36 t891.length co36, .slice Ao41 t892.length co41], .int .i64 1] rfl (by (try simp only [List.map_toArray, List.map_cons, List.map_nil]); first | done | (rw [show t891.length = t870.length from (Kd.R_reads' HO_878000.out).1.symm, show t892.length = t873.length from (Kd.R_reads' HO_878001.out).1.symm] <;> rfl) | rfl | (simp only [List.length_drop, List.length_take]; rfl)) ?_; (with_reducible refine (laws_heldState.calls kj64 _ _ t891 _ _ t892 1 t893 _ ?side1 ?side2 ?side3 ?side4 A97.out).mono ?_); (case side1 => repeat (first | exact (Kd.R_reads' HO_878000.out).2.2 | (with_reducible refine Kd.C_alloc ?_ _) | (with_reducible refine Kd.C_drewN ?_ _) | (with_reducible refine Kd.C_drew ?_))); (case side2 => rw [show t891.length = t870.length from (Kd.R_reads' HO_878000.out).1.symm]; exact (Kd.R_reads' HO_878000.out).2.1); (case side3 => repeat (first | exact (Kd.R_reads' HO_878001.out).2.2 | (with_reducible refine Kd.C_alloc ?_ _) | (with_reducible refine Kd.C_drewN ?_ _) | (with_reducible refine Kd.C_drew ?_))); (case side4 => rw [show t892.length = t873.length from (Kd.R_reads' HO_878001.out).1.symm]; exact (Kd.R_reads' HO_878001.out).2.1); rintro e w105 ⟨rfl, hb⟩; refine ⟨_, rfl, ?_⟩; replace HO_863000 := zm (Kd.R_below (zr HO_863000) hb); replace HO_863001 := zm (Kd.R_below (zr HO_863001) hb); replace HO_870000 := zm (Kd.R_below (zr HO_870000) hb); replace HO_870001 := zm (Kd.R_below (zr HO_870001) hb); replace HO_878000 := zm (Kd.R_below (zr HO_878000) hb); replace HO_878001 := zm (Kd.R_below (zr HO_878001) hb); replace BK847 := zm (blk_below (zb BK847) hb); replace BK862 := zm (blk_below (zb BK862) hb); replace BK869 := zm (blk_below (zb BK869) hb); replace BK877 := zm (blk_below (zb BK877) hb); replace HB := zm (below_step zB hb); clear hb))
          go_ret
          exact ⟨zE, zB⟩
         ·rw [if_neg c98] at H
          have c98b0 : decide (t893 < 0) = false := decide_eq_false c98
          clear c98
          by_cases c106 : t893 = t890
          ·rw [if_pos c106] at H
           have c106b0 : (t893 == t890) = true := beq_iff_eq.mpr c106
           have c106b1 : (t893 != t890) = false := bne_eq_false_iff_eq.mpr c106
           clear c106
           replace H := Option.bind_eq_some_iff.mp H
           obtain ⟨⟨t894, t897⟩, A1070, H⟩ := H
           replace H : ((impl_SayJoin.f kj64 t894 t897 a1).bind fun bt900 => ((laws_eqState.f kj64 bt900.1 bt900.2.1 t855 t858).bind fun t908 => (if t908 = true then (laws_FnExactSayJoin.j2 kj64 t890 (bt900.2.2 != t861) t891 t892) else (laws_FnExactSayJoin.j2 kj64 t890 true t891 t892)))) = some r := H
           have A107 := zm A1070
           clear A1070
           replace H := Option.bind_eq_some_iff.mp H
           obtain ⟨⟨t900, t903, t906⟩, A1080, H⟩ := H
           replace H : ((laws_eqState.f kj64 t900 t903 t855 t858).bind fun t908 => (if t908 = true then (laws_FnExactSayJoin.j2 kj64 t890 (t906 != t861) t891 t892) else (laws_FnExactSayJoin.j2 kj64 t890 true t891 t892))) = some r := H
           have A108 := zm A1080
           clear A1080
           have HC109 := zm H
           clear H
           have hnb110 := NB877_847.out
           have hnc110 := NB847_877.out
           have hnb111 := NB877_862.out
           have hnc111 := NB862_877.out
           have hnb112 := NB877_869.out
           have hnc112 := NB869_877.out
           have hcz113_0 : wc.cell? ⟨gb877, 0, none⟩ = some (.slice Ao36 t870.length co36) := (blk_cell BK877.out 0).trans rfl
           have hcz113_1 : wc.cell? ⟨gb877, 1, none⟩ = some (.slice Ao41 t873.length co41) := (blk_cell BK877.out 1).trans rfl
           have hfz113_0 := blk_frozen BK877.out 0
           have hfz113_1 := blk_frozen BK877.out 1
           go_upto_region 25 with (first | ((with_reducible refine gate_callee (f := 19) rfl ?_); refine zg (some 68) #[.agg #[.slice Ao36 t870.length co36, .slice Ao41 t873.length co41], .int .i64 1] Try.func19 ?_; (with_reducible refine (laws_markState.calls kj64 (fun k_ => some k_ = (.slice Ao36 t870.length co36 : Value).ownBlock) (.slice Ao36 t870.length co36) t870 (fun k_ => some k_ = (.slice Ao41 t873.length co41 : Value).ownBlock) (.slice Ao41 t873.length co41) t873 1 t890 t891 t892 w _ zB ?side2 ?side3 A96.out).mono ?_); (case side2 => exact Kd.R_tight rfl HO_878000.out); (case side3 => exact Kd.R_tight rfl HO_878001.out); rintro e w114 ⟨rfl, hy0, hy1, hb, hkp⟩; refine ⟨_, rfl, ?_⟩; replace HO_863000 := zm (Kd.R_mono (ok' := fun k_ => some k_ ≠ (.slice Ao29 t887.length co29 : Value).ownBlock ∧ some k_ ≠ (.slice Ao36 t870.length co36 : Value).ownBlock) (Kd.R_keptB ((Kd.R_apart' HO_863000.out (Kd.R_typed HO_878001.out) (by decide))) hkp (fun k_ hk_ hs_ => Or.elim hs_ (fun e_ => (hk_.1.2) e_) (fun e_ => (hk_.2) e_))) (fun k_ hk_ => ⟨hk_.1.1.1, hk_.1.1.2⟩)); replace HO_863001 := zm (Kd.R_mono (ok' := fun k_ => some k_ ≠ (.slice Ao33 t888.length co33 : Value).ownBlock ∧ some k_ ≠ (.slice Ao41 t873.length co41 : Value).ownBlock) (Kd.R_keptB ((Kd.R_apart' HO_863001.out (Kd.R_typed HO_878000.out) (by decide))) hkp (fun k_ hk_ hs_ => Or.elim hs_ (fun e_ => (hk_.2) e_) (fun e_ => (hk_.1.2) e_))) (fun k_ hk_ => ⟨hk_.1.1.1, hk_.1.1.2⟩)); replace HO_870000 := zm (Kd.R_mono (ok' := fun k_ => some k_ ≠ (.slice Ao22 t855.length co22 : Value).ownBlock ∧ some k_ ≠ (.slice Ao36 t870.length co36 : Value).ownBlock) (Kd.R_keptB ((Kd.R_apart' HO_870000.out (Kd.R_typed HO_878001.out) (by decide))) hkp (fun k_ hk_ hs_ => Or.elim hs_ (fun e_ => (hk_.1.2) e_) (fun e_ => (hk_.2) e_))) (fun k_ hk_ => ⟨hk_.1.1.1, hk_.1.1.2⟩)); replace HO_870001 := zm (Kd.R_mono (ok' := fun k_ => some k_ ≠ (.slice Ao25 t858.length co25 : Value).ownBlock ∧ some k_ ≠ (.slice Ao41 t873.length co41 : Value).ownBlock) (Kd.R_keptB ((Kd.R_apart' HO_870001.out (Kd.R_typed HO_878000.out) (by decide))) hkp (fun k_ hk_ hs_ => Or.elim hs_ (fun e_ => (hk_.2) e_) (fun e_ => (hk_.1.2) e_))) (fun k_ hk_ => ⟨hk_.1.1.1, hk_.1.1.2⟩)); replace BK847 := zm (blk_kept (zb BK847) hkp (fun hs_ => Or.elim hs_ (fun e_ => (fun e_ => (Kd.R_ne HO_878000.out BK847.out (by decide)) e_) e_) (fun e_ => (fun e_ => (Kd.R_ne HO_878001.out BK847.out (by decide)) e_) e_))); replace BK862 := zm (blk_kept (zb BK862) hkp (fun hs_ => Or.elim hs_ (fun e_ => (fun e_ => (Kd.R_ne HO_878000.out BK862.out (by decide)) e_) e_) (fun e_ => (fun e_ => (Kd.R_ne HO_878001.out BK862.out (by decide)) e_) e_))); replace BK869 := zm (blk_kept (zb BK869) hkp (fun hs_ => Or.elim hs_ (fun e_ => (fun e_ => (Kd.R_ne HO_878000.out BK869.out (by decide)) e_) e_) (fun e_ => (fun e_ => (Kd.R_ne HO_878001.out BK869.out (by decide)) e_) e_))); replace BK877 := zm (blk_kept (zb BK877) hkp (fun hs_ => Or.elim hs_ (fun e_ => (fun e_ => (Kd.R_ne HO_878000.out BK877.out (by decide)) e_) e_) (fun e_ => (fun e_ => (Kd.R_ne HO_878001.out BK877.out (by decide)) e_) e_))); replace HO_878000 := zm (Kd.R_reok rfl hy0 (fun k_ e_ => HO_878000.out.1 k_ e_)); replace HO_878001 := zm (Kd.R_reok rfl hy1 (fun k_ e_ => HO_878001.out.1 k_ e_)); replace HB := zm (hb); clear hb hkp hy0; (try clear hy1); have hcz115_0 : w114.cell? ⟨gb877, 0, none⟩ = some (.slice Ao36 t870.length co36) := (blk_cell BK877.out 0).trans rfl; have hcz115_1 : w114.cell? ⟨gb877, 1, none⟩ = some (.slice Ao41 t873.length co41) := (blk_cell BK877.out 1).trans rfl; have hfz115_0 := blk_frozen BK877.out 0; have hfz115_1 := blk_frozen BK877.out 1) | ((with_reducible refine gate_callee (f := 26) rfl ?_); refine goesL_ (some 71) rfl rfl Try.func26 (by kernel_rfl) rfl #[.agg #[.slice Ao36 t891.length co36, .slice Ao41 t892.length co41], .int .i64 1] rfl (by (try simp only [List.map_toArray, List.map_cons, List.map_nil]); first | done | (rw [show t891.length = t870.length from (Kd.R_reads' HO_878000.out).1.symm, show t892.length = t873.length from (Kd.R_reads' HO_878001.out).1.symm] <;> rfl) | rfl | (simp only [List.length_drop, List.length_take]; rfl)) ?_; (with_reducible refine (laws_heldState.calls kj64 _ _ t891 _ _ t892 1 t893 _ ?side1 ?side2 ?side3 ?side4 A97.out).mono ?_); (case side1 => repeat (first | exact (Kd.R_reads' HO_878000.out).2.2 | (with_reducible refine Kd.C_alloc ?_ _) | (with_reducible refine Kd.C_drewN ?_ _) | (with_reducible refine Kd.C_drew ?_))); (case side2 => rw [show t891.length = t870.length from (Kd.R_reads' HO_878000.out).1.symm]; exact (Kd.R_reads' HO_878000.out).2.1); (case side3 => repeat (first | exact (Kd.R_reads' HO_878001.out).2.2 | (with_reducible refine Kd.C_alloc ?_ _) | (with_reducible refine Kd.C_drewN ?_ _) | (with_reducible refine Kd.C_drew ?_))); (case side4 => rw [show t892.length = t873.length from (Kd.R_reads' HO_878001.out).1.symm]; exact (Kd.R_reads' HO_878001.out).2.1); rintro e w116 ⟨rfl, hb⟩; refine ⟨_, rfl, ?_⟩; replace HO_863000 := zm (Kd.R_below (zr HO_863000) hb); replace HO_863001 := zm (Kd.R_below (zr HO_863001) hb); replace HO_870000 := zm (Kd.R_below (zr HO_870000) hb); replace HO_870001 := zm (Kd.R_below (zr HO_870001) hb); replace HO_878000 := zm (Kd.R_below (zr HO_878000) hb); replace HO_878001 := zm (Kd.R_below (zr HO_878001) hb); replace BK847 := zm (blk_below (zb BK847) hb); replace BK862 := zm (blk_below (zb BK862) hb); replace BK869 := zm (blk_below (zb BK869) hb); replace BK877 := zm (blk_below (zb BK877) hb); replace HB := zm (below_step zB hb); clear hb; have hnb117 := NB847_862.out; have hnc117 := NB862_847.out; have hnb118 := NB847_869.out; have hnc118 := NB869_847.out; have hcz119_0 : w116.cell? ⟨gb847, 0, none⟩ = some (.slice A0_0 l0_0.length c0_0) := (blk_cell BK847.out 0).trans rfl; have hcz119_1 : w116.cell? ⟨gb847, 1, none⟩ = some (.slice A0_1 l0_1.length c0_1) := (blk_cell BK847.out 1).trans rfl; have hfz119_0 := blk_frozen BK847.out 0; have hfz119_1 := blk_frozen BK847.out 1) | ((with_reducible refine gate_callee (f := 15) rfl ?_); refine zg (some 79) #[.agg #[.slice A0_0 l0_0.length c0_0, .slice A0_1 l0_1.length c0_1]] Try.func15 ?_; (with_reducible refine (laws_toState.calls kj64 _ _ l0_0 _ _ l0_1 t894 t897 _ (zk (Kd.C_below HR0_0.out HB.out)) HC0_0.out (zk (Kd.C_below HR0_1.out HB.out)) HC0_1.out A107.out).mono ?_); rintro e w120 ⟨v895, v898, rfl, ho0, ho1, hb⟩; refine ⟨_, rfl, ?_⟩; have HO896 := zm (Kd.R_lower (Kd.R_new' (Kd.R_new' (Kd.R_new' ho0 (Kd.R_lt (zr HO_863000))) (Kd.R_lt (zr HO_870000))) (Kd.R_lt (zr HO_878000))) (below_size zB)); replace HO_863000 := zm (Kd.R_elder' (zr HO_863000) (Kd.R_base ho0) hb); replace HO_870000 := zm (Kd.R_elder' (zr HO_870000) (Kd.R_base ho0) hb); replace HO_878000 := zm (Kd.R_elder' (zr HO_878000) (Kd.R_base ho0) hb); have HO899 := zm (Kd.R_lower (Kd.R_new' (Kd.R_new' (Kd.R_new' ho1 (Kd.R_lt (zr HO_863001))) (Kd.R_lt (zr HO_870001))) (Kd.R_lt (zr HO_878001))) (below_size zB)); replace HO_863001 := zm (Kd.R_elder' (zr HO_863001) (Kd.R_base ho1) hb); replace HO_870001 := zm (Kd.R_elder' (zr HO_870001) (Kd.R_base ho1) hb); replace HO_878001 := zm (Kd.R_elder' (zr HO_878001) (Kd.R_base ho1) hb); replace BK847 := zm (blk_below (zb BK847) hb); replace BK862 := zm (blk_below (zb BK862) hb); replace BK869 := zm (blk_below (zb BK869) hb); replace BK877 := zm (blk_below (zb BK877) hb); replace HB := zm (below_step zB hb); clear hb ho0 ho1; obtain ⟨Ao121, co121, eo121⟩ := Kd.R_slice HO896.out; subst eo121; obtain ⟨Ao122, co122, eo122⟩ := Kd.R_slice HO899.out; subst eo122) | ((with_reducible refine gate_callee (f := 32) rfl ?_); refine zg (some 81) #[.agg #[.slice Ao121 t894.length co121, .slice Ao122 t897.length co122], .int .i64 a1] Try.func32 ?_; (with_reducible refine (impl_SayJoin.calls kj64 _ _ t894 _ _ t897 a1 t900 t903 t906 _ ?side1 ?side2 ?side3 ?side4 A108.out).mono ?_); (case side1 => repeat (first | exact (Kd.R_reads' HO896.out).2.2 | (with_reducible refine Kd.C_alloc ?_ _) | (with_reducible refine Kd.C_drewN ?_ _) | (with_reducible refine Kd.C_drew ?_))); (case side2 => exact (Kd.R_reads' HO896.out).2.1); (case side3 => repeat (first | exact (Kd.R_reads' HO899.out).2.2 | (with_reducible refine Kd.C_alloc ?_ _) | (with_reducible refine Kd.C_drewN ?_ _) | (with_reducible refine Kd.C_drew ?_))); (case side4 => exact (Kd.R_reads' HO899.out).2.1); rintro e w123 ⟨v901, v904, rfl, ho0, ho1, hb⟩; refine ⟨_, rfl, ?_⟩; have HO902 := zm (Kd.R_lower (Kd.R_new' (Kd.R_new' (Kd.R_new' (Kd.R_new' ho0 (Kd.R_lt (zr HO_863000))) (Kd.R_lt (zr HO_870000))) (Kd.R_lt (zr HO_878000))) (Kd.R_lt (zr HO896))) (below_size zB)); replace HO_863000 := zm (Kd.R_elder' (zr HO_863000) (Kd.R_base ho0) hb); replace HO_870000 := zm (Kd.R_elder' (zr HO_870000) (Kd.R_base ho0) hb); replace HO_878000 := zm (Kd.R_elder' (zr HO_878000) (Kd.R_base ho0) hb); replace HO896 := zm (Kd.R_elder' (zr HO896) (Kd.R_base ho0) hb); have HO905 := zm (Kd.R_lower (Kd.R_new' (Kd.R_new' (Kd.R_new' (Kd.R_new' ho1 (Kd.R_lt (zr HO_863001))) (Kd.R_lt (zr HO_870001))) (Kd.R_lt (zr HO_878001))) (Kd.R_lt (zr HO899))) (below_size zB)); replace HO_863001 := zm (Kd.R_elder' (zr HO_863001) (Kd.R_base ho1) hb); replace HO_870001 := zm (Kd.R_elder' (zr HO_870001) (Kd.R_base ho1) hb); replace HO_878001 := zm (Kd.R_elder' (zr HO_878001) (Kd.R_base ho1) hb); replace HO899 := zm (Kd.R_elder' (zr HO899) (Kd.R_base ho1) hb); replace BK847 := zm (blk_below (zb BK847) hb); replace BK862 := zm (blk_below (zb BK862) hb); replace BK869 := zm (blk_below (zb BK869) hb); replace BK877 := zm (blk_below (zb BK877) hb); replace HB := zm (below_step zB hb); clear hb ho0 ho1) | ((with_reducible refine gate_dst (N := 14) rfl ?_); refine zbox 14 #[.slice none 0 0, .slice none 0 0] 32 ?_; intro gb907 hg w124 hbox hb; replace HO_863000 := zm (Kd.R_below (zr HO_863000) hb); replace HO_863001 := zm (Kd.R_below (zr HO_863001) hb); replace HO_870000 := zm (Kd.R_below (zr HO_870000) hb); replace HO_870001 := zm (Kd.R_below (zr HO_870001) hb); replace HO_878000 := zm (Kd.R_below (zr HO_878000) hb); replace HO_878001 := zm (Kd.R_below (zr HO_878001) hb); replace HO896 := zm (Kd.R_below (zr HO896) hb); replace HO899 := zm (Kd.R_below (zr HO899) hb); replace HO902 := zm (Kd.R_below (zr HO902) hb); replace HO905 := zm (Kd.R_below (zr HO905) hb); have BK907 := zm (hbox); have GW907 := zge w hg zB; have GE907 := zge w hg zB; replace HB := zm (below_step zB hb); have NB847_907 := zlt hg (zb BK847); have NB907_847 := zgt hg (zb BK847); replace BK847 := zm (blk_below (zb BK847) hb); have NB862_907 := zlt hg (zb BK862); have NB907_862 := zgt hg (zb BK862); replace BK862 := zm (blk_below (zb BK862) hb); have NB869_907 := zlt hg (zb BK869); have NB907_869 := zgt hg (zb BK869); replace BK869 := zm (blk_below (zb BK869) hb); have NB877_907 := zlt hg (zb BK877); have NB907_877 := zgt hg (zb BK877); replace BK877 := zm (blk_below (zb BK877) hb); clear hb hbox hg; obtain ⟨Ao125, co125, eo125⟩ := Kd.R_slice HO902.out; subst eo125; have hnb126 := NB907_847.out; have hnc126 := NB847_907.out; have hnb127 := NB907_862.out; have hnc127 := NB862_907.out; have hnb128 := NB907_869.out; have hnc128 := NB869_907.out; have hnb129 := NB907_877.out; have hnc129 := NB877_907.out; have hcz130_0 : w124.cell? ⟨gb907, 0, none⟩ = some (.slice none 0 0) := (blk_cell BK907.out 0).trans rfl; have hcz130_1 : w124.cell? ⟨gb907, 1, none⟩ = some (.slice none 0 0) := (blk_cell BK907.out 1).trans rfl; have hfz130_0 := blk_frozen BK907.out 0; have hfz130_1 := blk_frozen BK907.out 1; obtain ⟨Ao131, co131, eo131⟩ := Kd.R_slice HO905.out; subst eo131))
           (try simp only [Act.put, List.setIfInBounds_toArray, List.set_cons_zero, List.set_cons_succ])
           go_cut [92] (fun v92 wc => ∃ (kq : Nat) (x92_108 : Bool), v92 = .bool x92_108 ∧ Aside0 (laws_FnExactSayJoin.j2 kq t890 x92_108 t891 t892 = some r) ∧ Aside0 (kq ≤ kj64) ∧ Aside0 (Kd.R k68 68 wc w.heap.size (fun k_ => some k_ ≠ ((.slice Ao29 t887.length co29) : Value).ownBlock ∧ some k_ ≠ ((.slice Ao36 t870.length co36) : Value).ownBlock ∧ some k_ ≠ ((.slice Ao125 t900.length co125) : Value).ownBlock) (.slice Ao22 t855.length co22) t855) ∧ Aside0 (Kd.R k72 72 wc w.heap.size (fun k_ => some k_ ≠ ((.slice Ao33 t888.length co33) : Value).ownBlock ∧ some k_ ≠ ((.slice Ao41 t873.length co41) : Value).ownBlock ∧ some k_ ≠ ((.slice Ao131 t903.length co131) : Value).ownBlock) (.slice Ao25 t858.length co25) t858) ∧ Aside0 (Kd.R k68 68 wc w.heap.size (fun k_ => some k_ ≠ ((.slice Ao22 t855.length co22) : Value).ownBlock ∧ some k_ ≠ ((.slice Ao36 t870.length co36) : Value).ownBlock ∧ some k_ ≠ ((.slice Ao125 t900.length co125) : Value).ownBlock) (.slice Ao29 t887.length co29) t887) ∧ Aside0 (Kd.R k72 72 wc w.heap.size (fun k_ => some k_ ≠ ((.slice Ao25 t858.length co25) : Value).ownBlock ∧ some k_ ≠ ((.slice Ao41 t873.length co41) : Value).ownBlock ∧ some k_ ≠ ((.slice Ao131 t903.length co131) : Value).ownBlock) (.slice Ao33 t888.length co33) t888) ∧ Aside0 (Kd.R k68 68 wc w.heap.size (fun k_ => some k_ ≠ ((.slice Ao22 t855.length co22) : Value).ownBlock ∧ some k_ ≠ ((.slice Ao29 t887.length co29) : Value).ownBlock ∧ some k_ ≠ ((.slice Ao125 t900.length co125) : Value).ownBlock) (.slice Ao36 t870.length co36) t891) ∧ Aside0 (Kd.R k72 72 wc w.heap.size (fun k_ => some k_ ≠ ((.slice Ao25 t858.length co25) : Value).ownBlock ∧ some k_ ≠ ((.slice Ao33 t888.length co33) : Value).ownBlock ∧ some k_ ≠ ((.slice Ao131 t903.length co131) : Value).ownBlock) (.slice Ao41 t873.length co41) t892) ∧ Aside0 (Kd.R k68 68 wc w.heap.size (fun k_ => some k_ ≠ ((.slice Ao22 t855.length co22) : Value).ownBlock ∧ some k_ ≠ ((.slice Ao29 t887.length co29) : Value).ownBlock ∧ some k_ ≠ ((.slice Ao36 t870.length co36) : Value).ownBlock) (.slice Ao125 t900.length co125) t900) ∧ Aside0 (Kd.R k72 72 wc w.heap.size (fun k_ => some k_ ≠ ((.slice Ao25 t858.length co25) : Value).ownBlock ∧ some k_ ≠ ((.slice Ao33 t888.length co33) : Value).ownBlock ∧ some k_ ≠ ((.slice Ao41 t873.length co41) : Value).ownBlock) (.slice Ao131 t903.length co131) t903) ∧ Aside0 (wc.heap[gb847]? = some (.cells #[(.slice A0_0 l0_0.length c0_0), (.slice A0_1 l0_1.length c0_1)] 25 (0, 0))) ∧ Aside0 (wc.heap[gb862]? = some (.cells #[(.slice Ao22 t855.length co22), (.slice Ao25 t858.length co25)] 32 (0, 0))) ∧ Aside0 (wc.heap[gb869]? = some (.cells #[(.slice Ao29 t887.length co29), (.slice Ao33 t888.length co33)] 32 (0, 0))) ∧ Aside0 (wc.heap[gb877]? = some (.cells #[(.slice Ao36 t870.length co36), (.slice Ao41 t873.length co41)] 32 (0, 0))) ∧ Aside0 (wc.heap[gb907]? = some (.cells #[(.slice Ao125 t900.length co125), (.slice Ao131 t903.length co131)] 32 (0, 0))) ∧ Aside0 (Below w.heap.size w wc))
           case first =>
            have H := HC109.out
            clear HC109
            replace H := Option.bind_eq_some_iff.mp H
            obtain ⟨t908, A1320, H⟩ := H
            replace H : (if t908 = true then (laws_FnExactSayJoin.j2 kj64 t890 (t906 != t861) t891 t892) else (laws_FnExactSayJoin.j2 kj64 t890 true t891 t892)) = some r := H
            have A132 := zm A1320
            clear A1320
            by_cases c133 : t908 = true
            ·subst c133
             have H1 : (laws_FnExactSayJoin.j2 kj64 t890 (t906 != t861) t891 t892) = some r := by rw [if_pos rfl] at H; exact H
             clear H
             have H := H1
             clear H1
             have H' := zm H
             clear H
             have hnb134 := NB907_847.out
             have hnc134 := NB847_907.out
             have hnb135 := NB907_862.out
             have hnc135 := NB862_907.out
             have hnb136 := NB907_869.out
             have hnc136 := NB869_907.out
             have hnb137 := NB907_877.out
             have hnc137 := NB877_907.out
             have hcz138_0 : w124.cell? ⟨gb907, 0, none⟩ = some (.slice none 0 0) := (blk_cell BK907.out 0).trans rfl
             have hcz138_1 : w124.cell? ⟨gb907, 1, none⟩ = some (.slice none 0 0) := (blk_cell BK907.out 1).trans rfl
             have hfz138_0 := blk_frozen BK907.out 0
             have hfz138_1 := blk_frozen BK907.out 1
             have hnb139 := NB862_847.out
             have hnc139 := NB847_862.out
             have hnb140 := NB862_869.out
             have hnc140 := NB869_862.out
             have hnb141 := NB862_877.out
             have hnc141 := NB877_862.out
             have hcz142_0 : w124.cell? ⟨gb862, 0, none⟩ = some (.slice Ao22 t855.length co22) := (blk_cell BK862.out 0).trans rfl
             have hcz142_1 : w124.cell? ⟨gb862, 1, none⟩ = some (.slice Ao25 t858.length co25) := (blk_cell BK862.out 1).trans rfl
             have hfz142_0 := blk_frozen BK862.out 0
             have hfz142_1 := blk_frozen BK862.out 1
             go_wp2_with (first | ((with_reducible refine gate_callee (f := 18) rfl ?_); refine zg (some 86) #[.agg #[.slice Ao125 t900.length co125, .slice Ao131 t903.length co131], .agg #[.slice Ao22 t855.length co22, .slice Ao25 t858.length co25]] Try.func18 ?_; (with_reducible refine (laws_eqState.calls kj64 _ _ t900 _ _ t903 _ _ t855 _ _ t858 true _ ?side1 ?side2 ?side3 ?side4 ?side5 ?side6 ?side7 ?side8 A132.out).mono ?_); (case side1 => refine (Kd.R_reads' (e := 68) (base := w.heap.size) (ok := fun k_ => ((((True ∧ some k_ ≠ (.slice Ao22 t855.length co22 : Value).ownBlock) ∧ some k_ ≠ (.slice Ao29 t887.length co29 : Value).ownBlock) ∧ some k_ ≠ (.slice Ao36 t870.length co36 : Value).ownBlock) ∧ some k_ ≠ (.slice Ao121 t894.length co121 : Value).ownBlock)) (n := t900.length) (c := co125) ?_).2.2; exact (zrs <| (Kd.R_mono (zfr (zfr (Kd.R_types HO902.out BK907.out (by decide)))) (fun _ h_ => h_.1)))); (case side2 => exact (Kd.R_reads' HO902.out).2.1); (case side3 => refine (Kd.R_reads' (e := 72) (base := w.heap.size) (ok := fun k_ => ((((True ∧ some k_ ≠ (.slice Ao25 t858.length co25 : Value).ownBlock) ∧ some k_ ≠ (.slice Ao33 t888.length co33 : Value).ownBlock) ∧ some k_ ≠ (.slice Ao41 t873.length co41 : Value).ownBlock) ∧ some k_ ≠ (.slice Ao122 t897.length co122 : Value).ownBlock)) (n := t903.length) (c := co131) ?_).2.2; exact (zrs <| (Kd.R_mono (zfr (zfr (Kd.R_types HO905.out BK907.out (by decide)))) (fun _ h_ => h_.1)))); (case side4 => exact (Kd.R_reads' HO905.out).2.1); (case side5 => refine (Kd.R_reads' (e := 68) (base := w.heap.size) (ok := fun k_ => (((some k_ ≠ (.slice Ao29 t887.length co29 : Value).ownBlock ∧ some k_ ≠ (.slice Ao36 t870.length co36 : Value).ownBlock) ∧ some k_ ≠ (.slice Ao121 t894.length co121 : Value).ownBlock) ∧ some k_ ≠ (.slice Ao125 t900.length co125 : Value).ownBlock)) (n := t855.length) (c := co22) ?_).2.2; exact (zrs <| (Kd.R_mono (zfr (zfr (Kd.R_types HO_863000.out BK907.out (by decide)))) (fun _ h_ => h_.1)))); (case side6 => exact (Kd.R_reads' HO_863000.out).2.1); (case side7 => refine (Kd.R_reads' (e := 72) (base := w.heap.size) (ok := fun k_ => (((some k_ ≠ (.slice Ao33 t888.length co33 : Value).ownBlock ∧ some k_ ≠ (.slice Ao41 t873.length co41 : Value).ownBlock) ∧ some k_ ≠ (.slice Ao122 t897.length co122 : Value).ownBlock) ∧ some k_ ≠ (.slice Ao131 t903.length co131 : Value).ownBlock)) (n := t858.length) (c := co25) ?_).2.2; exact (zrs <| (Kd.R_mono (zfr (zfr (Kd.R_types HO_863001.out BK907.out (by decide)))) (fun _ h_ => h_.1)))); (case side8 => exact (Kd.R_reads' HO_863001.out).2.1); rintro e w143 ⟨rfl, hb⟩; refine ⟨_, rfl, ?_⟩; replace HO_863000 := zm (Kd.R_below (zrs <| (Kd.R_mono (zfr (zfr (Kd.R_types HO_863000.out BK907.out (by decide)))) (fun _ h_ => h_.1))) hb); replace HO_863001 := zm (Kd.R_below (zrs <| (Kd.R_mono (zfr (zfr (Kd.R_types HO_863001.out BK907.out (by decide)))) (fun _ h_ => h_.1))) hb); replace HO_870000 := zm (Kd.R_below (zrs <| (Kd.R_mono (zfr (zfr (Kd.R_types HO_870000.out BK907.out (by decide)))) (fun _ h_ => h_.1))) hb); replace HO_870001 := zm (Kd.R_below (zrs <| (Kd.R_mono (zfr (zfr (Kd.R_types HO_870001.out BK907.out (by decide)))) (fun _ h_ => h_.1))) hb); replace HO_878000 := zm (Kd.R_below (zrs <| (Kd.R_mono (zfr (zfr (Kd.R_types HO_878000.out BK907.out (by decide)))) (fun _ h_ => h_.1))) hb); replace HO_878001 := zm (Kd.R_below (zrs <| (Kd.R_mono (zfr (zfr (Kd.R_types HO_878001.out BK907.out (by decide)))) (fun _ h_ => h_.1))) hb); replace HO896 := zm (Kd.R_below (zrs <| (Kd.R_mono (zfr (zfr (Kd.R_types HO896.out BK907.out (by decide)))) (fun _ h_ => h_.1))) hb); replace HO899 := zm (Kd.R_below (zrs <| (Kd.R_mono (zfr (zfr (Kd.R_types HO899.out BK907.out (by decide)))) (fun _ h_ => h_.1))) hb); replace HO902 := zm (Kd.R_below (zrs <| (Kd.R_mono (zfr (zfr (Kd.R_types HO902.out BK907.out (by decide)))) (fun _ h_ => h_.1))) hb); replace HO905 := zm (Kd.R_below (zrs <| (Kd.R_mono (zfr (zfr (Kd.R_types HO905.out BK907.out (by decide)))) (fun _ h_ => h_.1))) hb); replace BK847 := zm (blk_below (g := gb847) (o := .cells #[.slice A0_0 l0_0.length c0_0, .slice A0_1 l0_1.length c0_1] 25 (0, 0)) (zfar (zfar (zb BK847) NB847_907) NB847_907) hb); replace BK862 := zm (blk_below (g := gb862) (o := .cells #[.slice Ao22 t855.length co22, .slice Ao25 t858.length co25] 32 (0, 0)) (zfar (zfar (zb BK862) NB862_907) NB862_907) hb); replace BK869 := zm (blk_below (g := gb869) (o := .cells #[.slice Ao29 t887.length co29, .slice Ao33 t888.length co33] 32 (0, 0)) (zfar (zfar (zb BK869) NB869_907) NB869_907) hb); replace BK877 := zm (blk_below (g := gb877) (o := .cells #[.slice Ao36 t870.length co36, .slice Ao41 t873.length co41] 32 (0, 0)) (zfar (zfar (zb BK877) NB877_907) NB877_907) hb); replace BK907 := zm (blk_below (g := gb907) (o := .cells #[.slice Ao125 t900.length co125, .slice Ao131 t903.length co131] 32 (0, 0)) (zput (zput (zb BK907) 0) 1) hb); replace HB := zm (below_step zB hb); clear hb))
             go_meet
             case rel => exact ⟨_, ((t906 != t861)), zF, H', ⟨by have := HJ11.out; have := HJ64.out; first | omega | exact Nat.le_refl _⟩, ⟨by (try simp only [hl870000_64]); (try simp only [hl870001_64]); (with_reducible repeat (first | apply Kd.R_alloc | apply Kd.R_drewN | apply Kd.R_drew)); exact Kd.R_mono HO_863000.out (fun _ hk => ⟨hk.1.1.1, ⟨hk.1.1.2, hk.2⟩⟩)⟩, ⟨by (try simp only [hl870000_64]); (try simp only [hl870001_64]); (with_reducible repeat (first | apply Kd.R_alloc | apply Kd.R_drewN | apply Kd.R_drew)); exact Kd.R_mono HO_863001.out (fun _ hk => ⟨hk.1.1.1, ⟨hk.1.1.2, hk.2⟩⟩)⟩, ⟨by (try simp only [hl870000_64]); (try simp only [hl870001_64]); (with_reducible repeat (first | apply Kd.R_alloc | apply Kd.R_drewN | apply Kd.R_drew)); exact Kd.R_mono HO_870000.out (fun _ hk => ⟨hk.1.1.1, ⟨hk.1.1.2, hk.2⟩⟩)⟩, ⟨by (try simp only [hl870000_64]); (try simp only [hl870001_64]); (with_reducible repeat (first | apply Kd.R_alloc | apply Kd.R_drewN | apply Kd.R_drew)); exact Kd.R_mono HO_870001.out (fun _ hk => ⟨hk.1.1.1, ⟨hk.1.1.2, hk.2⟩⟩)⟩, ⟨by (try simp only [hl870000_64]); (try simp only [hl870001_64]); (with_reducible repeat (first | apply Kd.R_alloc | apply Kd.R_drewN | apply Kd.R_drew)); exact Kd.R_mono HO_878000.out (fun _ hk => ⟨hk.1.1.1, ⟨hk.1.1.2, hk.2⟩⟩)⟩, ⟨by (try simp only [hl870000_64]); (try simp only [hl870001_64]); (with_reducible repeat (first | apply Kd.R_alloc | apply Kd.R_drewN | apply Kd.R_drew)); exact Kd.R_mono HO_878001.out (fun _ hk => ⟨hk.1.1.1, ⟨hk.1.1.2, hk.2⟩⟩)⟩, ⟨by (try simp only [hl870000_64]); (try simp only [hl870001_64]); (with_reducible repeat (first | apply Kd.R_alloc | apply Kd.R_drewN | apply Kd.R_drew)); exact Kd.R_mono HO902.out (fun _ hk => ⟨hk.1.1.1.2, ⟨hk.1.1.2, hk.1.2⟩⟩)⟩, ⟨by (try simp only [hl870000_64]); (try simp only [hl870001_64]); (with_reducible repeat (first | apply Kd.R_alloc | apply Kd.R_drewN | apply Kd.R_drew)); exact Kd.R_mono HO905.out (fun _ hk => ⟨hk.1.1.1.2, ⟨hk.1.1.2, hk.1.2⟩⟩)⟩, ⟨by (try simp only [hl870000_64]); (try simp only [hl870001_64]); (with_reducible repeat (first | refine blk_drewN ?_ _ | refine blk_drew ?_ | refine blk_alloc ?_ _)); exact BK847.out⟩, ⟨by (try simp only [hl870000_64]); (try simp only [hl870001_64]); (with_reducible repeat (first | refine blk_drewN ?_ _ | refine blk_drew ?_ | refine blk_alloc ?_ _)); exact BK862.out⟩, ⟨by (try simp only [hl870000_64]); (try simp only [hl870001_64]); (with_reducible repeat (first | refine blk_drewN ?_ _ | refine blk_drew ?_ | refine blk_alloc ?_ _)); exact BK869.out⟩, ⟨by (try simp only [hl870000_64]); (try simp only [hl870001_64]); (with_reducible repeat (first | refine blk_drewN ?_ _ | refine blk_drew ?_ | refine blk_alloc ?_ _)); exact BK877.out⟩, ⟨by (try simp only [hl870000_64]); (try simp only [hl870001_64]); (with_reducible repeat (first | refine blk_drewN ?_ _ | refine blk_drew ?_ | refine blk_alloc ?_ _)); exact BK907.out⟩, ⟨zB⟩⟩
            ·replace c133 := Bool.eq_false_iff.mpr c133
             subst c133
             have H1 : (laws_FnExactSayJoin.j2 kj64 t890 true t891 t892) = some r := by rw [if_neg (show ¬ (false = true) by decide)] at H; exact H
             clear H
             have H := H1
             clear H1
             have H' := zm H
             clear H
             have hnb144 := NB907_847.out
             have hnc144 := NB847_907.out
             have hnb145 := NB907_862.out
             have hnc145 := NB862_907.out
             have hnb146 := NB907_869.out
             have hnc146 := NB869_907.out
             have hnb147 := NB907_877.out
             have hnc147 := NB877_907.out
             have hcz148_0 : w124.cell? ⟨gb907, 0, none⟩ = some (.slice none 0 0) := (blk_cell BK907.out 0).trans rfl
             have hcz148_1 : w124.cell? ⟨gb907, 1, none⟩ = some (.slice none 0 0) := (blk_cell BK907.out 1).trans rfl
             have hfz148_0 := blk_frozen BK907.out 0
             have hfz148_1 := blk_frozen BK907.out 1
             have hnb149 := NB862_847.out
             have hnc149 := NB847_862.out
             have hnb150 := NB862_869.out
             have hnc150 := NB869_862.out
             have hnb151 := NB862_877.out
             have hnc151 := NB877_862.out
             have hcz152_0 : w124.cell? ⟨gb862, 0, none⟩ = some (.slice Ao22 t855.length co22) := (blk_cell BK862.out 0).trans rfl
             have hcz152_1 : w124.cell? ⟨gb862, 1, none⟩ = some (.slice Ao25 t858.length co25) := (blk_cell BK862.out 1).trans rfl
             have hfz152_0 := blk_frozen BK862.out 0
             have hfz152_1 := blk_frozen BK862.out 1
             go_wp2_with (first | ((with_reducible refine gate_callee (f := 18) rfl ?_); refine zg (some 86) #[.agg #[.slice Ao125 t900.length co125, .slice Ao131 t903.length co131], .agg #[.slice Ao22 t855.length co22, .slice Ao25 t858.length co25]] Try.func18 ?_; (with_reducible refine (laws_eqState.calls kj64 _ _ t900 _ _ t903 _ _ t855 _ _ t858 false _ ?side1 ?side2 ?side3 ?side4 ?side5 ?side6 ?side7 ?side8 A132.out).mono ?_); (case side1 => refine (Kd.R_reads' (e := 68) (base := w.heap.size) (ok := fun k_ => ((((True ∧ some k_ ≠ (.slice Ao22 t855.length co22 : Value).ownBlock) ∧ some k_ ≠ (.slice Ao29 t887.length co29 : Value).ownBlock) ∧ some k_ ≠ (.slice Ao36 t870.length co36 : Value).ownBlock) ∧ some k_ ≠ (.slice Ao121 t894.length co121 : Value).ownBlock)) (n := t900.length) (c := co125) ?_).2.2; exact (zrs <| (Kd.R_mono (zfr (zfr (Kd.R_types HO902.out BK907.out (by decide)))) (fun _ h_ => h_.1)))); (case side2 => exact (Kd.R_reads' HO902.out).2.1); (case side3 => refine (Kd.R_reads' (e := 72) (base := w.heap.size) (ok := fun k_ => ((((True ∧ some k_ ≠ (.slice Ao25 t858.length co25 : Value).ownBlock) ∧ some k_ ≠ (.slice Ao33 t888.length co33 : Value).ownBlock) ∧ some k_ ≠ (.slice Ao41 t873.length co41 : Value).ownBlock) ∧ some k_ ≠ (.slice Ao122 t897.length co122 : Value).ownBlock)) (n := t903.length) (c := co131) ?_).2.2; exact (zrs <| (Kd.R_mono (zfr (zfr (Kd.R_types HO905.out BK907.out (by decide)))) (fun _ h_ => h_.1)))); (case side4 => exact (Kd.R_reads' HO905.out).2.1); (case side5 => refine (Kd.R_reads' (e := 68) (base := w.heap.size) (ok := fun k_ => (((some k_ ≠ (.slice Ao29 t887.length co29 : Value).ownBlock ∧ some k_ ≠ (.slice Ao36 t870.length co36 : Value).ownBlock) ∧ some k_ ≠ (.slice Ao121 t894.length co121 : Value).ownBlock) ∧ some k_ ≠ (.slice Ao125 t900.length co125 : Value).ownBlock)) (n := t855.length) (c := co22) ?_).2.2; exact (zrs <| (Kd.R_mono (zfr (zfr (Kd.R_types HO_863000.out BK907.out (by decide)))) (fun _ h_ => h_.1)))); (case side6 => exact (Kd.R_reads' HO_863000.out).2.1); (case side7 => refine (Kd.R_reads' (e := 72) (base := w.heap.size) (ok := fun k_ => (((some k_ ≠ (.slice Ao33 t888.length co33 : Value).ownBlock ∧ some k_ ≠ (.slice Ao41 t873.length co41 : Value).ownBlock) ∧ some k_ ≠ (.slice Ao122 t897.length co122 : Value).ownBlock) ∧ some k_ ≠ (.slice Ao131 t903.length co131 : Value).ownBlock)) (n := t858.length) (c := co25) ?_).2.2; exact (zrs <| (Kd.R_mono (zfr (zfr (Kd.R_types HO_863001.out BK907.out (by decide)))) (fun _ h_ => h_.1)))); (case side8 => exact (Kd.R_reads' HO_863001.out).2.1); rintro e w153 ⟨rfl, hb⟩; refine ⟨_, rfl, ?_⟩; replace HO_863000 := zm (Kd.R_below (zrs <| (Kd.R_mono (zfr (zfr (Kd.R_types HO_863000.out BK907.out (by decide)))) (fun _ h_ => h_.1))) hb); replace HO_863001 := zm (Kd.R_below (zrs <| (Kd.R_mono (zfr (zfr (Kd.R_types HO_863001.out BK907.out (by decide)))) (fun _ h_ => h_.1))) hb); replace HO_870000 := zm (Kd.R_below (zrs <| (Kd.R_mono (zfr (zfr (Kd.R_types HO_870000.out BK907.out (by decide)))) (fun _ h_ => h_.1))) hb); replace HO_870001 := zm (Kd.R_below (zrs <| (Kd.R_mono (zfr (zfr (Kd.R_types HO_870001.out BK907.out (by decide)))) (fun _ h_ => h_.1))) hb); replace HO_878000 := zm (Kd.R_below (zrs <| (Kd.R_mono (zfr (zfr (Kd.R_types HO_878000.out BK907.out (by decide)))) (fun _ h_ => h_.1))) hb); replace HO_878001 := zm (Kd.R_below (zrs <| (Kd.R_mono (zfr (zfr (Kd.R_types HO_878001.out BK907.out (by decide)))) (fun _ h_ => h_.1))) hb); replace HO896 := zm (Kd.R_below (zrs <| (Kd.R_mono (zfr (zfr (Kd.R_types HO896.out BK907.out (by decide)))) (fun _ h_ => h_.1))) hb); replace HO899 := zm (Kd.R_below (zrs <| (Kd.R_mono (zfr (zfr (Kd.R_types HO899.out BK907.out (by decide)))) (fun _ h_ => h_.1))) hb); replace HO902 := zm (Kd.R_below (zrs <| (Kd.R_mono (zfr (zfr (Kd.R_types HO902.out BK907.out (by decide)))) (fun _ h_ => h_.1))) hb); replace HO905 := zm (Kd.R_below (zrs <| (Kd.R_mono (zfr (zfr (Kd.R_types HO905.out BK907.out (by decide)))) (fun _ h_ => h_.1))) hb); replace BK847 := zm (blk_below (g := gb847) (o := .cells #[.slice A0_0 l0_0.length c0_0, .slice A0_1 l0_1.length c0_1] 25 (0, 0)) (zfar (zfar (zb BK847) NB847_907) NB847_907) hb); replace BK862 := zm (blk_below (g := gb862) (o := .cells #[.slice Ao22 t855.length co22, .slice Ao25 t858.length co25] 32 (0, 0)) (zfar (zfar (zb BK862) NB862_907) NB862_907) hb); replace BK869 := zm (blk_below (g := gb869) (o := .cells #[.slice Ao29 t887.length co29, .slice Ao33 t888.length co33] 32 (0, 0)) (zfar (zfar (zb BK869) NB869_907) NB869_907) hb); replace BK877 := zm (blk_below (g := gb877) (o := .cells #[.slice Ao36 t870.length co36, .slice Ao41 t873.length co41] 32 (0, 0)) (zfar (zfar (zb BK877) NB877_907) NB877_907) hb); replace BK907 := zm (blk_below (g := gb907) (o := .cells #[.slice Ao125 t900.length co125, .slice Ao131 t903.length co131] 32 (0, 0)) (zput (zput (zb BK907) 0) 1) hb); replace HB := zm (below_step zB hb); clear hb))
             go_meet
             case rel => exact ⟨_, (true), zF, H', ⟨by have := HJ11.out; have := HJ64.out; first | omega | exact Nat.le_refl _⟩, ⟨by (try simp only [hl870000_64]); (try simp only [hl870001_64]); (with_reducible repeat (first | apply Kd.R_alloc | apply Kd.R_drewN | apply Kd.R_drew)); exact Kd.R_mono HO_863000.out (fun _ hk => ⟨hk.1.1.1, ⟨hk.1.1.2, hk.2⟩⟩)⟩, ⟨by (try simp only [hl870000_64]); (try simp only [hl870001_64]); (with_reducible repeat (first | apply Kd.R_alloc | apply Kd.R_drewN | apply Kd.R_drew)); exact Kd.R_mono HO_863001.out (fun _ hk => ⟨hk.1.1.1, ⟨hk.1.1.2, hk.2⟩⟩)⟩, ⟨by (try simp only [hl870000_64]); (try simp only [hl870001_64]); (with_reducible repeat (first | apply Kd.R_alloc | apply Kd.R_drewN | apply Kd.R_drew)); exact Kd.R_mono HO_870000.out (fun _ hk => ⟨hk.1.1.1, ⟨hk.1.1.2, hk.2⟩⟩)⟩, ⟨by (try simp only [hl870000_64]); (try simp only [hl870001_64]); (with_reducible repeat (first | apply Kd.R_alloc | apply Kd.R_drewN | apply Kd.R_drew)); exact Kd.R_mono HO_870001.out (fun _ hk => ⟨hk.1.1.1, ⟨hk.1.1.2, hk.2⟩⟩)⟩, ⟨by (try simp only [hl870000_64]); (try simp only [hl870001_64]); (with_reducible repeat (first | apply Kd.R_alloc | apply Kd.R_drewN | apply Kd.R_drew)); exact Kd.R_mono HO_878000.out (fun _ hk => ⟨hk.1.1.1, ⟨hk.1.1.2, hk.2⟩⟩)⟩, ⟨by (try simp only [hl870000_64]); (try simp only [hl870001_64]); (with_reducible repeat (first | apply Kd.R_alloc | apply Kd.R_drewN | apply Kd.R_drew)); exact Kd.R_mono HO_878001.out (fun _ hk => ⟨hk.1.1.1, ⟨hk.1.1.2, hk.2⟩⟩)⟩, ⟨by (try simp only [hl870000_64]); (try simp only [hl870001_64]); (with_reducible repeat (first | apply Kd.R_alloc | apply Kd.R_drewN | apply Kd.R_drew)); exact Kd.R_mono HO902.out (fun _ hk => ⟨hk.1.1.1.2, ⟨hk.1.1.2, hk.1.2⟩⟩)⟩, ⟨by (try simp only [hl870000_64]); (try simp only [hl870001_64]); (with_reducible repeat (first | apply Kd.R_alloc | apply Kd.R_drewN | apply Kd.R_drew)); exact Kd.R_mono HO905.out (fun _ hk => ⟨hk.1.1.1.2, ⟨hk.1.1.2, hk.1.2⟩⟩)⟩, ⟨by (try simp only [hl870000_64]); (try simp only [hl870001_64]); (with_reducible repeat (first | refine blk_drewN ?_ _ | refine blk_drew ?_ | refine blk_alloc ?_ _)); exact BK847.out⟩, ⟨by (try simp only [hl870000_64]); (try simp only [hl870001_64]); (with_reducible repeat (first | refine blk_drewN ?_ _ | refine blk_drew ?_ | refine blk_alloc ?_ _)); exact BK862.out⟩, ⟨by (try simp only [hl870000_64]); (try simp only [hl870001_64]); (with_reducible repeat (first | refine blk_drewN ?_ _ | refine blk_drew ?_ | refine blk_alloc ?_ _)); exact BK869.out⟩, ⟨by (try simp only [hl870000_64]); (try simp only [hl870001_64]); (with_reducible repeat (first | refine blk_drewN ?_ _ | refine blk_drew ?_ | refine blk_alloc ?_ _)); exact BK877.out⟩, ⟨by (try simp only [hl870000_64]); (try simp only [hl870001_64]); (with_reducible repeat (first | refine blk_drewN ?_ _ | refine blk_drew ?_ | refine blk_alloc ?_ _)); exact BK907.out⟩, ⟨zB⟩⟩
           case rest =>
            clear HC109
            try clear c1
            try clear c2
            try clear p2
            try clear c3
            try clear c4
            try clear c4b0
            try clear c5
            try clear c6
            try clear c7
            try clear c8
            try clear c9
            try clear c10
            try clear c11
            try clear c12
            try clear c13
            try clear c14
            try clear c15
            try clear c18
            try clear c19
            try clear c23
            try clear c26
            try clear c30
            try clear c31
            try clear c32
            try clear c37
            try clear c38
            try clear c39
            try clear c43
            try clear c44
            try clear c45
            try clear c46
            try clear c48
            try clear c49
            try clear c52
            try clear c53
            try clear c54
            try clear c56
            try clear c57
            try clear c60
            try clear c63
            try clear c71
            try clear c72
            try clear c73
            try clear c76
            try clear c76b0
            try clear c78
            try clear c79
            try clear c80
            try clear c81
            try clear c83
            try clear c84
            try clear c87
            try clear c88
            try clear c89
            try clear c91
            try clear c92
            try clear c95
            try clear c98
            try clear c98b0
            try clear c99
            try clear c100
            try clear c101
            try clear c106
            try clear c106b0
            try clear c106b1
            try clear c110
            try clear c111
            try clear c112
            try clear c117
            try clear c118
            try clear c126
            try clear c127
            try clear c128
            try clear c129
            try clear c133
            try clear c134
            try clear c135
            try clear c136
            try clear c137
            try clear c139
            try clear c140
            try clear c141
            try clear c144
            try clear c145
            try clear c146
            try clear c147
            try clear c149
            try clear c150
            try clear c151
            try clear hcz102_0
            try clear hcz102_1
            try clear hcz104_0
            try clear hcz104_1
            try clear hcz113_0
            try clear hcz113_1
            try clear hcz115_0
            try clear hcz115_1
            try clear hcz119_0
            try clear hcz119_1
            try clear hcz130_0
            try clear hcz130_1
            try clear hcz138_0
            try clear hcz138_1
            try clear hcz142_0
            try clear hcz142_1
            try clear hcz148_0
            try clear hcz148_1
            try clear hcz14_0
            try clear hcz14_1
            try clear hcz152_0
            try clear hcz152_1
            try clear hcz16_0
            try clear hcz16_1
            try clear hcz24_0
            try clear hcz24_1
            try clear hcz26_0
            try clear hcz26_1
            try clear hcz32_0
            try clear hcz32_1
            try clear hcz40_0
            try clear hcz40_1
            try clear hcz47_0
            try clear hcz47_1
            try clear hcz50_0
            try clear hcz50_1
            try clear hcz55_0
            try clear hcz55_1
            try clear hcz58_0
            try clear hcz58_1
            try clear hcz6_0
            try clear hcz6_1
            try clear hcz74_0
            try clear hcz74_1
            try clear hcz82_0
            try clear hcz82_1
            try clear hcz85_0
            try clear hcz85_1
            try clear hcz90_0
            try clear hcz90_1
            try clear hcz93_0
            try clear hcz93_1
            try clear hfz102_0
            try clear hfz102_1
            try clear hfz104_0
            try clear hfz104_1
            try clear hfz113_0
            try clear hfz113_1
            try clear hfz115_0
            try clear hfz115_1
            try clear hfz119_0
            try clear hfz119_1
            try clear hfz130_0
            try clear hfz130_1
            try clear hfz138_0
            try clear hfz138_1
            try clear hfz142_0
            try clear hfz142_1
            try clear hfz148_0
            try clear hfz148_1
            try clear hfz14_0
            try clear hfz14_1
            try clear hfz152_0
            try clear hfz152_1
            try clear hfz16_0
            try clear hfz16_1
            try clear hfz24_0
            try clear hfz24_1
            try clear hfz26_0
            try clear hfz26_1
            try clear hfz32_0
            try clear hfz32_1
            try clear hfz40_0
            try clear hfz40_1
            try clear hfz47_0
            try clear hfz47_1
            try clear hfz50_0
            try clear hfz50_1
            try clear hfz55_0
            try clear hfz55_1
            try clear hfz58_0
            try clear hfz58_1
            try clear hfz6_0
            try clear hfz6_1
            try clear hfz74_0
            try clear hfz74_1
            try clear hfz82_0
            try clear hfz82_1
            try clear hfz85_0
            try clear hfz85_1
            try clear hfz90_0
            try clear hfz90_1
            try clear hfz93_0
            try clear hfz93_1
            try clear p2
            obtain ⟨kq, x92_108, rfl, HA, HJ108, HO_863000, HO_863001, HO_870000, HO_870001, HO_878000, HO_878001, HO_908000, HO_908001, BK847, BK862, BK869, BK877, BK907, HB⟩ := hcut
            have hl878000_108 := (Kd.R_reads' HO_878000.out).1
            rw [hl878000_108] at HO_878000
            (try simp only [hl878000_108])
            (try simp only [hl878000_108] at BK847)
            (try simp only [hl878000_108] at BK862)
            (try simp only [hl878000_108] at BK869)
            (try simp only [hl878000_108] at BK877)
            (try simp only [hl878000_108] at BK907)
            (try simp only [hl878000_108] at HO_863000)
            (try simp only [hl878000_108] at HO_863001)
            (try simp only [hl878000_108] at HO_870000)
            (try simp only [hl878000_108] at HO_870001)
            (try simp only [hl878000_108] at HO_878001)
            (try simp only [hl878000_108] at HO_908000)
            (try simp only [hl878000_108] at HO_908001)
            have hl878001_108 := (Kd.R_reads' HO_878001.out).1
            rw [hl878001_108] at HO_878001
            (try simp only [hl878001_108])
            (try simp only [hl878001_108] at BK847)
            (try simp only [hl878001_108] at BK862)
            (try simp only [hl878001_108] at BK869)
            (try simp only [hl878001_108] at BK877)
            (try simp only [hl878001_108] at BK907)
            (try simp only [hl878001_108] at HO_863000)
            (try simp only [hl878001_108] at HO_863001)
            (try simp only [hl878001_108] at HO_870000)
            (try simp only [hl878001_108] at HO_870001)
            (try simp only [hl878001_108] at HO_878000)
            (try simp only [hl878001_108] at HO_908000)
            (try simp only [hl878001_108] at HO_908001)
            cases kq with
            | zero => exact absurd HA.out (by simp [laws_FnExactSayJoin.j2])
            | succ kj108 =>
             have H := HA.out
             clear HA
             simp only [laws_FnExactSayJoin.j2] at H
             by_cases c154 : x92_108 = true
             ·subst c154
              have H1 : (some false) = some r := by rw [if_pos rfl] at H; exact H
              clear H
              have H := H1
              clear H1
              obtain rfl := Option.some.inj H
              go_wp2
              go_ret
              exact ⟨zE, zB⟩
             ·replace c154 := Bool.eq_false_iff.mpr c154
              subst c154
              have H1 : ((laws_heldState.f kj108 t891 t892 1).bind fun t909 => (if t909 < 0 then (some false) else (if t909 = t890 then (some true) else (some false)))) = some r := by rw [if_neg (show ¬ (false = true) by decide)] at H; exact H
              clear H
              have H := H1
              clear H1
              replace H := Option.bind_eq_some_iff.mp H
              obtain ⟨t909, A1550, H⟩ := H
              replace H : (if t909 < 0 then (some false) else (if t909 = t890 then (some true) else (some false))) = some r := H
              have A155 := zm A1550
              clear A1550
              by_cases c156 : t909 < 0
              ·rw [if_pos c156] at H
               have c156b0 : decide (t909 < 0) = true := decide_eq_true c156
               clear c156
               obtain rfl := Option.some.inj H
               have hnb157 := NB877_847.out
               have hnc157 := NB847_877.out
               have hnb158 := NB877_862.out
               have hnc158 := NB862_877.out
               have hnb159 := NB877_869.out
               have hnc159 := NB869_877.out
               have hnb160 := NB877_907.out
               have hnc160 := NB907_877.out
               have hcz161_0 : wc.cell? ⟨gb877, 0, none⟩ = some (.slice Ao36 t891.length co36) := (blk_cell BK877.out 0).trans rfl
               have hcz161_1 : wc.cell? ⟨gb877, 1, none⟩ = some (.slice Ao41 t892.length co41) := (blk_cell BK877.out 1).trans rfl
               have hfz161_0 := blk_frozen BK877.out 0
               have hfz161_1 := blk_frozen BK877.out 1
               go_wp2_with (first | ((with_reducible refine gate_callee (f := 26) rfl ?_); refine zg (some 95) #[.agg #[.slice Ao36 t891.length co36, .slice Ao41 t892.length co41], .int .i64 1] Try.func26 ?_; (with_reducible refine (laws_heldState.calls kj108 _ _ t891 _ _ t892 1 t909 _ ?side1 ?side2 ?side3 ?side4 A155.out).mono ?_); (case side1 => repeat (first | exact (Kd.R_reads' HO_878000.out).2.2 | (with_reducible refine Kd.C_alloc ?_ _) | (with_reducible refine Kd.C_drewN ?_ _) | (with_reducible refine Kd.C_drew ?_))); (case side2 => exact (Kd.R_reads' HO_878000.out).2.1); (case side3 => repeat (first | exact (Kd.R_reads' HO_878001.out).2.2 | (with_reducible refine Kd.C_alloc ?_ _) | (with_reducible refine Kd.C_drewN ?_ _) | (with_reducible refine Kd.C_drew ?_))); (case side4 => exact (Kd.R_reads' HO_878001.out).2.1); rintro e w162 ⟨rfl, hb⟩; refine ⟨_, rfl, ?_⟩; replace HO_863000 := zm (Kd.R_below (zr HO_863000) hb); replace HO_863001 := zm (Kd.R_below (zr HO_863001) hb); replace HO_870000 := zm (Kd.R_below (zr HO_870000) hb); replace HO_870001 := zm (Kd.R_below (zr HO_870001) hb); replace HO_878000 := zm (Kd.R_below (zr HO_878000) hb); replace HO_878001 := zm (Kd.R_below (zr HO_878001) hb); replace HO_908000 := zm (Kd.R_below (zr HO_908000) hb); replace HO_908001 := zm (Kd.R_below (zr HO_908001) hb); replace BK847 := zm (blk_below (zb BK847) hb); replace BK862 := zm (blk_below (zb BK862) hb); replace BK869 := zm (blk_below (zb BK869) hb); replace BK877 := zm (blk_below (zb BK877) hb); replace BK907 := zm (blk_below (zb BK907) hb); replace HB := zm (below_step zB hb); clear hb))
               go_ret
               exact ⟨zE, zB⟩
              ·rw [if_neg c156] at H
               have c156b0 : decide (t909 < 0) = false := decide_eq_false c156
               clear c156
               by_cases c163 : t909 = t890
               ·rw [if_pos c163] at H
                have c163b0 : (t909 == t890) = true := beq_iff_eq.mpr c163
                have c163b1 : (t909 != t890) = false := bne_eq_false_iff_eq.mpr c163
                clear c163
                obtain rfl := Option.some.inj H
                have hnb164 := NB877_847.out
                have hnc164 := NB847_877.out
                have hnb165 := NB877_862.out
                have hnc165 := NB862_877.out
                have hnb166 := NB877_869.out
                have hnc166 := NB869_877.out
                have hnb167 := NB877_907.out
                have hnc167 := NB907_877.out
                have hcz168_0 : wc.cell? ⟨gb877, 0, none⟩ = some (.slice Ao36 t891.length co36) := (blk_cell BK877.out 0).trans rfl
                have hcz168_1 : wc.cell? ⟨gb877, 1, none⟩ = some (.slice Ao41 t892.length co41) := (blk_cell BK877.out 1).trans rfl
                have hfz168_0 := blk_frozen BK877.out 0
                have hfz168_1 := blk_frozen BK877.out 1
                go_wp2_with (first | ((with_reducible refine gate_callee (f := 26) rfl ?_); refine zg (some 95) #[.agg #[.slice Ao36 t891.length co36, .slice Ao41 t892.length co41], .int .i64 1] Try.func26 ?_; (with_reducible refine (laws_heldState.calls kj108 _ _ t891 _ _ t892 1 t909 _ ?side1 ?side2 ?side3 ?side4 A155.out).mono ?_); (case side1 => repeat (first | exact (Kd.R_reads' HO_878000.out).2.2 | (with_reducible refine Kd.C_alloc ?_ _) | (with_reducible refine Kd.C_drewN ?_ _) | (with_reducible refine Kd.C_drew ?_))); (case side2 => exact (Kd.R_reads' HO_878000.out).2.1); (case side3 => repeat (first | exact (Kd.R_reads' HO_878001.out).2.2 | (with_reducible refine Kd.C_alloc ?_ _) | (with_reducible refine Kd.C_drewN ?_ _) | (with_reducible refine Kd.C_drew ?_))); (case side4 => exact (Kd.R_reads' HO_878001.out).2.1); rintro e w169 ⟨rfl, hb⟩; refine ⟨_, rfl, ?_⟩; replace HO_863000 := zm (Kd.R_below (zr HO_863000) hb); replace HO_863001 := zm (Kd.R_below (zr HO_863001) hb); replace HO_870000 := zm (Kd.R_below (zr HO_870000) hb); replace HO_870001 := zm (Kd.R_below (zr HO_870001) hb); replace HO_878000 := zm (Kd.R_below (zr HO_878000) hb); replace HO_878001 := zm (Kd.R_below (zr HO_878001) hb); replace HO_908000 := zm (Kd.R_below (zr HO_908000) hb); replace HO_908001 := zm (Kd.R_below (zr HO_908001) hb); replace BK847 := zm (blk_below (zb BK847) hb); replace BK862 := zm (blk_below (zb BK862) hb); replace BK869 := zm (blk_below (zb BK869) hb); replace BK877 := zm (blk_below (zb BK877) hb); replace BK907 := zm (blk_below (zb BK907) hb); replace HB := zm (below_step zB hb); clear hb))
                go_ret
                exact ⟨zE, zB⟩
               ·rw [if_neg c163] at H
                have c163b0 : (t909 == t890) = false := beq_eq_false_iff_ne.mpr c163
                have c163b1 : (t909 != t890) = true := bne_iff_ne.mpr c163
                obtain rfl := Option.some.inj H
                have hnb170 := NB877_847.out
                have hnc170 := NB847_877.out
                have hnb171 := NB877_862.out
                have hnc171 := NB862_877.out
                have hnb172 := NB877_869.out
                have hnc172 := NB869_877.out
                have hnb173 := NB877_907.out
                have hnc173 := NB907_877.out
                have hcz174_0 : wc.cell? ⟨gb877, 0, none⟩ = some (.slice Ao36 t891.length co36) := (blk_cell BK877.out 0).trans rfl
                have hcz174_1 : wc.cell? ⟨gb877, 1, none⟩ = some (.slice Ao41 t892.length co41) := (blk_cell BK877.out 1).trans rfl
                have hfz174_0 := blk_frozen BK877.out 0
                have hfz174_1 := blk_frozen BK877.out 1
                go_wp2_with (first | ((with_reducible refine gate_callee (f := 26) rfl ?_); refine zg (some 95) #[.agg #[.slice Ao36 t891.length co36, .slice Ao41 t892.length co41], .int .i64 1] Try.func26 ?_; (with_reducible refine (laws_heldState.calls kj108 _ _ t891 _ _ t892 1 t909 _ ?side1 ?side2 ?side3 ?side4 A155.out).mono ?_); (case side1 => repeat (first | exact (Kd.R_reads' HO_878000.out).2.2 | (with_reducible refine Kd.C_alloc ?_ _) | (with_reducible refine Kd.C_drewN ?_ _) | (with_reducible refine Kd.C_drew ?_))); (case side2 => exact (Kd.R_reads' HO_878000.out).2.1); (case side3 => repeat (first | exact (Kd.R_reads' HO_878001.out).2.2 | (with_reducible refine Kd.C_alloc ?_ _) | (with_reducible refine Kd.C_drewN ?_ _) | (with_reducible refine Kd.C_drew ?_))); (case side4 => exact (Kd.R_reads' HO_878001.out).2.1); rintro e w175 ⟨rfl, hb⟩; refine ⟨_, rfl, ?_⟩; replace HO_863000 := zm (Kd.R_below (zr HO_863000) hb); replace HO_863001 := zm (Kd.R_below (zr HO_863001) hb); replace HO_870000 := zm (Kd.R_below (zr HO_870000) hb); replace HO_870001 := zm (Kd.R_below (zr HO_870001) hb); replace HO_878000 := zm (Kd.R_below (zr HO_878000) hb); replace HO_878001 := zm (Kd.R_below (zr HO_878001) hb); replace HO_908000 := zm (Kd.R_below (zr HO_908000) hb); replace HO_908001 := zm (Kd.R_below (zr HO_908001) hb); replace BK847 := zm (blk_below (zb BK847) hb); replace BK862 := zm (blk_below (zb BK862) hb); replace BK869 := zm (blk_below (zb BK869) hb); replace BK877 := zm (blk_below (zb BK877) hb); replace BK907 := zm (blk_below (zb BK907) hb); replace HB := zm (below_step zB hb); clear hb))
                go_ret
                exact ⟨zE, zB⟩
          ·rw [if_neg c106] at H
           have c106b0 : (t893 == t890) = false := beq_eq_false_iff_ne.mpr c106
           have c106b1 : (t893 != t890) = true := bne_iff_ne.mpr c106
           obtain rfl := Option.some.inj H
           have hnb176 := NB877_847.out
           have hnc176 := NB847_877.out
           have hnb177 := NB877_862.out
           have hnc177 := NB862_877.out
           have hnb178 := NB877_869.out
           have hnc178 := NB869_877.out
           have hcz179_0 : wc.cell? ⟨gb877, 0, none⟩ = some (.slice Ao36 t870.length co36) := (blk_cell BK877.out 0).trans rfl
           have hcz179_1 : wc.cell? ⟨gb877, 1, none⟩ = some (.slice Ao41 t873.length co41) := (blk_cell BK877.out 1).trans rfl
           have hfz179_0 := blk_frozen BK877.out 0
           have hfz179_1 := blk_frozen BK877.out 1
           go_wp2_with (first | ((with_reducible refine gate_callee (f := 19) rfl ?_); refine zg (some 68) #[.agg #[.slice Ao36 t870.length co36, .slice Ao41 t873.length co41], .int .i64 1] Try.func19 ?_; (with_reducible refine (laws_markState.calls kj64 (fun k_ => some k_ = (.slice Ao36 t870.length co36 : Value).ownBlock) (.slice Ao36 t870.length co36) t870 (fun k_ => some k_ = (.slice Ao41 t873.length co41 : Value).ownBlock) (.slice Ao41 t873.length co41) t873 1 t890 t891 t892 w _ zB ?side2 ?side3 A96.out).mono ?_); (case side2 => exact Kd.R_tight rfl HO_878000.out); (case side3 => exact Kd.R_tight rfl HO_878001.out); rintro e w180 ⟨rfl, hy0, hy1, hb, hkp⟩; refine ⟨_, rfl, ?_⟩; replace HO_863000 := zm (Kd.R_mono (ok' := fun k_ => some k_ ≠ (.slice Ao29 t887.length co29 : Value).ownBlock ∧ some k_ ≠ (.slice Ao36 t870.length co36 : Value).ownBlock) (Kd.R_keptB ((Kd.R_apart' HO_863000.out (Kd.R_typed HO_878001.out) (by decide))) hkp (fun k_ hk_ hs_ => Or.elim hs_ (fun e_ => (hk_.1.2) e_) (fun e_ => (hk_.2) e_))) (fun k_ hk_ => ⟨hk_.1.1.1, hk_.1.1.2⟩)); replace HO_863001 := zm (Kd.R_mono (ok' := fun k_ => some k_ ≠ (.slice Ao33 t888.length co33 : Value).ownBlock ∧ some k_ ≠ (.slice Ao41 t873.length co41 : Value).ownBlock) (Kd.R_keptB ((Kd.R_apart' HO_863001.out (Kd.R_typed HO_878000.out) (by decide))) hkp (fun k_ hk_ hs_ => Or.elim hs_ (fun e_ => (hk_.2) e_) (fun e_ => (hk_.1.2) e_))) (fun k_ hk_ => ⟨hk_.1.1.1, hk_.1.1.2⟩)); replace HO_870000 := zm (Kd.R_mono (ok' := fun k_ => some k_ ≠ (.slice Ao22 t855.length co22 : Value).ownBlock ∧ some k_ ≠ (.slice Ao36 t870.length co36 : Value).ownBlock) (Kd.R_keptB ((Kd.R_apart' HO_870000.out (Kd.R_typed HO_878001.out) (by decide))) hkp (fun k_ hk_ hs_ => Or.elim hs_ (fun e_ => (hk_.1.2) e_) (fun e_ => (hk_.2) e_))) (fun k_ hk_ => ⟨hk_.1.1.1, hk_.1.1.2⟩)); replace HO_870001 := zm (Kd.R_mono (ok' := fun k_ => some k_ ≠ (.slice Ao25 t858.length co25 : Value).ownBlock ∧ some k_ ≠ (.slice Ao41 t873.length co41 : Value).ownBlock) (Kd.R_keptB ((Kd.R_apart' HO_870001.out (Kd.R_typed HO_878000.out) (by decide))) hkp (fun k_ hk_ hs_ => Or.elim hs_ (fun e_ => (hk_.2) e_) (fun e_ => (hk_.1.2) e_))) (fun k_ hk_ => ⟨hk_.1.1.1, hk_.1.1.2⟩)); replace BK847 := zm (blk_kept (zb BK847) hkp (fun hs_ => Or.elim hs_ (fun e_ => (fun e_ => (Kd.R_ne HO_878000.out BK847.out (by decide)) e_) e_) (fun e_ => (fun e_ => (Kd.R_ne HO_878001.out BK847.out (by decide)) e_) e_))); replace BK862 := zm (blk_kept (zb BK862) hkp (fun hs_ => Or.elim hs_ (fun e_ => (fun e_ => (Kd.R_ne HO_878000.out BK862.out (by decide)) e_) e_) (fun e_ => (fun e_ => (Kd.R_ne HO_878001.out BK862.out (by decide)) e_) e_))); replace BK869 := zm (blk_kept (zb BK869) hkp (fun hs_ => Or.elim hs_ (fun e_ => (fun e_ => (Kd.R_ne HO_878000.out BK869.out (by decide)) e_) e_) (fun e_ => (fun e_ => (Kd.R_ne HO_878001.out BK869.out (by decide)) e_) e_))); replace BK877 := zm (blk_kept (zb BK877) hkp (fun hs_ => Or.elim hs_ (fun e_ => (fun e_ => (Kd.R_ne HO_878000.out BK877.out (by decide)) e_) e_) (fun e_ => (fun e_ => (Kd.R_ne HO_878001.out BK877.out (by decide)) e_) e_))); replace HO_878000 := zm (Kd.R_reok rfl hy0 (fun k_ e_ => HO_878000.out.1 k_ e_)); replace HO_878001 := zm (Kd.R_reok rfl hy1 (fun k_ e_ => HO_878001.out.1 k_ e_)); replace HB := zm (hb); clear hb hkp hy0; (try clear hy1); have hcz181_0 : w180.cell? ⟨gb877, 0, none⟩ = some (.slice Ao36 t870.length co36) := (blk_cell BK877.out 0).trans rfl; have hcz181_1 : w180.cell? ⟨gb877, 1, none⟩ = some (.slice Ao41 t873.length co41) := (blk_cell BK877.out 1).trans rfl; have hfz181_0 := blk_frozen BK877.out 0; have hfz181_1 := blk_frozen BK877.out 1) | ((with_reducible refine gate_callee (f := 26) rfl ?_); refine goesL_ (some 71) rfl rfl Try.func26 (by kernel_rfl) rfl #[.agg #[.slice Ao36 t891.length co36, .slice Ao41 t892.length co41], .int .i64 1] rfl (by (try simp only [List.map_toArray, List.map_cons, List.map_nil]); first | done | (rw [show t891.length = t870.length from (Kd.R_reads' HO_878000.out).1.symm, show t892.length = t873.length from (Kd.R_reads' HO_878001.out).1.symm] <;> rfl) | rfl | (simp only [List.length_drop, List.length_take]; rfl)) ?_; (with_reducible refine (laws_heldState.calls kj64 _ _ t891 _ _ t892 1 t893 _ ?side1 ?side2 ?side3 ?side4 A97.out).mono ?_); (case side1 => repeat (first | exact (Kd.R_reads' HO_878000.out).2.2 | (with_reducible refine Kd.C_alloc ?_ _) | (with_reducible refine Kd.C_drewN ?_ _) | (with_reducible refine Kd.C_drew ?_))); (case side2 => rw [show t891.length = t870.length from (Kd.R_reads' HO_878000.out).1.symm]; exact (Kd.R_reads' HO_878000.out).2.1); (case side3 => repeat (first | exact (Kd.R_reads' HO_878001.out).2.2 | (with_reducible refine Kd.C_alloc ?_ _) | (with_reducible refine Kd.C_drewN ?_ _) | (with_reducible refine Kd.C_drew ?_))); (case side4 => rw [show t892.length = t873.length from (Kd.R_reads' HO_878001.out).1.symm]; exact (Kd.R_reads' HO_878001.out).2.1); rintro e w182 ⟨rfl, hb⟩; refine ⟨_, rfl, ?_⟩; replace HO_863000 := zm (Kd.R_below (zr HO_863000) hb); replace HO_863001 := zm (Kd.R_below (zr HO_863001) hb); replace HO_870000 := zm (Kd.R_below (zr HO_870000) hb); replace HO_870001 := zm (Kd.R_below (zr HO_870001) hb); replace HO_878000 := zm (Kd.R_below (zr HO_878000) hb); replace HO_878001 := zm (Kd.R_below (zr HO_878001) hb); replace BK847 := zm (blk_below (zb BK847) hb); replace BK862 := zm (blk_below (zb BK862) hb); replace BK869 := zm (blk_below (zb BK869) hb); replace BK877 := zm (blk_below (zb BK877) hb); replace HB := zm (below_step zB hb); clear hb))
           go_ret
           exact ⟨zE, zB⟩
     ·replace c63 := Bool.eq_false_iff.mpr c63
      subst c63
      have H1 : (some false) = some r := by rw [if_neg (show ¬ (false = true) by decide)] at H; exact H
      clear H
      have H := H1
      clear H1
      obtain rfl := Option.some.inj H
      try go_wp2
      replace HO_863000 := zm (Kd.R_drew HO_863000.out)
      replace HO_863001 := zm (Kd.R_drew HO_863001.out)
      replace HO_870000 := zm (Kd.R_drew HO_870000.out)
      replace HO_870001 := zm (Kd.R_drew HO_870001.out)
      replace HO_878000 := zm (Kd.R_drew HO_878000.out)
      replace HO_878001 := zm (Kd.R_drew HO_878001.out)
      replace BK847 := zm (blk_drew BK847.out)
      replace BK862 := zm (blk_drew BK862.out)
      replace BK869 := zm (blk_drew BK869.out)
      replace BK877 := zm (blk_drew BK877.out)
      replace HB := zm (below_drew1 HB.out)
      refine start_ (n := 5) (S := fun w' => w'.cell? ⟨gb869, 0, none⟩ = some (.slice Ao29 t863.length co29) ∧ w'.cell? ⟨gb869, 1, none⟩ = some (.slice Ao33 t866.length co33) ∧ w'.cell? ⟨gb847, 0, none⟩ = some (.slice A0_0 l0_0.length c0_0) ∧ w'.cell? ⟨gb847, 1, none⟩ = some (.slice A0_1 l0_1.length c0_1)) (ds := []) (zl 5 0) (by kernel_rfl) rfl rfl ⟨(blk_cell BK869.out 0).trans rfl, (blk_cell BK869.out 1).trans rfl, (blk_cell BK847.out 0).trans rfl, (blk_cell BK847.out 1).trans rfl⟩ (fun hHeld => ?_)
      generalize wc.drew = w183 at HO_863000 HO_863001 HO_870000 HO_870001 HO_878000 HO_878001 BK847 BK862 BK869 BK877 HB hHeld ⊢
      refine zt 0 (some 45) (zl 5 1) ?_
      refine zt 1 (some 46) (zl 5 3) ?_
      refine zo 2 (some 47) (zl 5 7) (fun K hK => ?_)
      refine zgo #[.agg #[.slice A0_0 l0_0.length c0_0, .slice A0_1 l0_1.length c0_1]] Try.func15 ?_
      with_reducible refine (laws_toState.calls kj11 _ _ l0_0 _ _ l0_1 t879 t882 _ (zk (Kd.C_below HR0_0.out HB.out)) HC0_0.out (zk (Kd.C_below HR0_1.out HB.out)) HC0_1.out A61.out).mono ?_
      rintro e w184 ⟨v880, v883, rfl, ho0, ho1, hb⟩
      refine ⟨_, rfl, ?_⟩
      have HO881 := zm (Kd.R_lower (Kd.R_new' (Kd.R_new' (Kd.R_new' ho0 (Kd.R_lt (zr HO_863000))) (Kd.R_lt (zr HO_870000))) (Kd.R_lt (zr HO_878000))) (below_size zB))
      replace HO_863000 := zm (Kd.R_elder' (zr HO_863000) (Kd.R_base ho0) hb)
      replace HO_870000 := zm (Kd.R_elder' (zr HO_870000) (Kd.R_base ho0) hb)
      replace HO_878000 := zm (Kd.R_elder' (zr HO_878000) (Kd.R_base ho0) hb)
      have HO884 := zm (Kd.R_lower (Kd.R_new' (Kd.R_new' (Kd.R_new' ho1 (Kd.R_lt (zr HO_863001))) (Kd.R_lt (zr HO_870001))) (Kd.R_lt (zr HO_878001))) (below_size zB))
      replace HO_863001 := zm (Kd.R_elder' (zr HO_863001) (Kd.R_base ho1) hb)
      replace HO_870001 := zm (Kd.R_elder' (zr HO_870001) (Kd.R_base ho1) hb)
      replace HO_878001 := zm (Kd.R_elder' (zr HO_878001) (Kd.R_base ho1) hb)
      replace BK847 := zm (blk_below (zb BK847) hb)
      replace BK862 := zm (blk_below (zb BK862) hb)
      replace BK869 := zm (blk_below (zb BK869) hb)
      replace BK877 := zm (blk_below (zb BK877) hb)
      replace HB := zm (below_step zB hb)
      (try clear hb)
      (try clear hb2)
      (try clear hk)
      (try clear hi)
      (try clear ho0)
      (try clear ho1)
      obtain ⟨Ao185, co185, eo185⟩ := Kd.R_slice HO881.out
      (first | subst eo185 | (injection eo185 with f1_ f2_ f3_; have f4_ := f1_.symm; have f5_ := f3_.symm; clear f1_ f2_ f3_; subst f4_; subst f5_))
      obtain ⟨Ao186, co186, eo186⟩ := Kd.R_slice HO884.out
      (first | subst eo186 | (injection eo186 with f1_ f2_ f3_; have f4_ := f1_.symm; have f5_ := f3_.symm; clear f1_ f2_ f3_; subst f4_; subst f5_))
      refine hK.out _ _ ⟨(blk_cell BK869.out 0).trans rfl, (blk_cell BK869.out 1).trans rfl, (blk_cell BK847.out 0).trans rfl, (blk_cell BK847.out 1).trans rfl⟩ (fun hHeld => ?_)
      clear hK K
      refine zn ?_
      refine zo 3 (some 48) (zl 5 15) (fun K hK => ?_)
      refine zgo #[.agg #[.slice Ao29 t863.length co29, .slice Ao33 t866.length co33], .agg #[.slice Ao185 t879.length co185, .slice Ao186 t882.length co186]] Try.func18 ?_
      with_reducible refine (laws_eqState.calls kj11 _ _ t863 _ _ t866 _ _ t879 _ _ t882 false _ ?side1 ?side2 ?side3 ?side4 ?side5 ?side6 ?side7 ?side8 A62.out).mono ?_
      (case side1 => repeat (first | exact (Kd.R_reads' HO_870000.out).2.2 | (with_reducible refine Kd.C_alloc ?_ _) | (with_reducible refine Kd.C_drewN ?_ _) | (with_reducible refine Kd.C_drew ?_)))
      (case side2 => exact (Kd.R_reads' HO_870000.out).2.1)
      (case side3 => repeat (first | exact (Kd.R_reads' HO_870001.out).2.2 | (with_reducible refine Kd.C_alloc ?_ _) | (with_reducible refine Kd.C_drewN ?_ _) | (with_reducible refine Kd.C_drew ?_)))
      (case side4 => exact (Kd.R_reads' HO_870001.out).2.1)
      (case side5 => repeat (first | exact (Kd.R_reads' HO881.out).2.2 | (with_reducible refine Kd.C_alloc ?_ _) | (with_reducible refine Kd.C_drewN ?_ _) | (with_reducible refine Kd.C_drew ?_)))
      (case side6 => exact (Kd.R_reads' HO881.out).2.1)
      (case side7 => repeat (first | exact (Kd.R_reads' HO884.out).2.2 | (with_reducible refine Kd.C_alloc ?_ _) | (with_reducible refine Kd.C_drewN ?_ _) | (with_reducible refine Kd.C_drew ?_)))
      (case side8 => exact (Kd.R_reads' HO884.out).2.1)
      rintro e w187 ⟨rfl, hb⟩
      refine ⟨_, rfl, ?_⟩
      replace HO_863000 := zm (Kd.R_below (zr HO_863000) hb)
      replace HO_863001 := zm (Kd.R_below (zr HO_863001) hb)
      replace HO_870000 := zm (Kd.R_below (zr HO_870000) hb)
      replace HO_870001 := zm (Kd.R_below (zr HO_870001) hb)
      replace HO_878000 := zm (Kd.R_below (zr HO_878000) hb)
      replace HO_878001 := zm (Kd.R_below (zr HO_878001) hb)
      replace HO881 := zm (Kd.R_below (zr HO881) hb)
      replace HO884 := zm (Kd.R_below (zr HO884) hb)
      replace BK847 := zm (blk_below (zb BK847) hb)
      replace BK862 := zm (blk_below (zb BK862) hb)
      replace BK869 := zm (blk_below (zb BK869) hb)
      replace BK877 := zm (blk_below (zb BK877) hb)
      replace HB := zm (below_step zB hb)
      (try clear hb)
      (try clear hb2)
      (try clear hk)
      (try clear hi)
      refine hK.out _ _ ⟨(blk_cell BK869.out 0).trans rfl, (blk_cell BK869.out 1).trans rfl, (blk_cell BK847.out 0).trans rfl, (blk_cell BK847.out 1).trans rfl⟩ (fun hHeld => ?_)
      clear hK K
      refine zn ?_
      refine zp 4 (some 49) (zl 5 31) ?_
      refine done_ (by kernel_rfl) ?_
      try go_wp2
      go_ret
      exact ⟨zE, zB⟩

def laws_FnExactSayJoin.Pure : Prop := ∀ (l0_0 : List (S94)) (l0_1 : List (S98)) (a1 : Int), l0_0.length ≤ maxLen → l0_0.length * 56 ≤ 140737488351232 → (∀ x ∈ l0_0, ((Lit.int .i64 x.f0).wf = true ∧ ((Lit.int .i64 x.f1.f0).wf = true ∧ ((Lit.int .i64 x.f1.f1).wf = true ∧ ((Lit.int .i64 x.f1.f2).wf = true ∧ ((Lit.int .i64 x.f1.f3).wf = true ∧ x.f1.f4.size ≤ 140737488351232)))))) → l0_1.length ≤ maxLen → l0_1.length * 16 ≤ 140737488351232 → (∀ x ∈ l0_1, ((Lit.int .i64 x.f0).wf = true ∧ (Lit.int .i64 x.f1).wf = true)) → (Lit.int .i64 a1).wf = true → ∃ k, laws_FnExactSayJoin.f k l0_0 l0_1 a1 = some true

end Go.Proofs.Ytgapdegniepjiaa.P
