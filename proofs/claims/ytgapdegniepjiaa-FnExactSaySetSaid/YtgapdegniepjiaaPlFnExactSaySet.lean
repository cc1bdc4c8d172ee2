-- by a program of this session, for this seat
import Derived.Test.YtgapdegniepjiaaZ
import Derived.Test.YtgapdegniepjiaaP0
import Derived.Test.YtgapdegniepjiaaPaa
import Derived.Test.YtgapdegniepjiaaPac
import Derived.Test.YtgapdegniepjiaaPag
import Derived.Test.YtgapdegniepjiaaPah
import Derived.Test.YtgapdegniepjiaaPam
import Derived.Test.YtgapdegniepjiaaPan
import Derived.Test.YtgapdegniepjiaaPao
namespace Go.Proofs.Ytgapdegniepjiaa.P
open Go.RowKit Go.Proofs.YtgapdegniepjiaaW.PrintWords Go.Proofs.YtgapdegniepjiaaW.PrintLast Go.Proofs.YtgapdegniepjiaaW.PrintMore Go.Proofs.Ytgapdegniepjiaa.Z
attribute [local go_sem] max2_int min2_int max_two min_two max_three min_three max_four min_four   -- for this text's walks alone
set_option linter.unusedVariables false
set_option linter.unusedSimpArgs false

/-! ### laws_FnExactSaySet: function 7 -/
mutual
def laws_FnExactSaySet.j0 : Nat → Int → ByteArray → Int → Int → Bool → List (S94) → List (S98) → List (S68) → List (S72) → List (S68) → List (S72) → List (S68) → List (S72) → Option (Bool)
 | 0, _, _, _, _, _, _, _, _, _, _, _, _, _ => none
 | k + 1, x1, x2, x9, x12, x51, x727000, x727001, x742000, x742001, x749000, x749001, x757000, x757001 => if x51 = true then (some false) else ((laws_toState.f k x727000 x727001).bind fun bt758 => ((laws_eqState.f k x749000 x749001 bt758.1 bt758.2).bind fun t764 => (if t764 = true then ((laws_markState.f k x749000 x749001 1).bind fun bt765 => (if bt765.1 < 0 then (laws_FnExactSaySet.j1 k x1 x2 x9 true x727000 x727001 x742000 x742001 x757000 x757001) else ((laws_eqState.f k x757000 x757001 x742000 x742001).bind fun t768 => (if t768 = true then (laws_FnExactSaySet.j1 k x1 x2 x9 (x12 != x9) x727000 x727001 x742000 x742001 x757000 x757001) else (laws_FnExactSaySet.j1 k x1 x2 x9 true x727000 x727001 x742000 x742001 x757000 x757001))))) else (some false))))
def laws_FnExactSaySet.j1 : Nat → Int → ByteArray → Int → Bool → List (S94) → List (S98) → List (S68) → List (S72) → List (S68) → List (S72) → Option (Bool)
 | 0, _, _, _, _, _, _, _, _, _, _ => none
 | k + 1, x1, x2, x9, x72, x727000, x727001, x742000, x742001, x757000, x757001 => if x72 = true then (some false) else ((laws_markState.f k x757000 x757001 1).bind fun bt769 => ((laws_heldState.f k bt769.2.1 bt769.2.2 1).bind fun t772 => (if t772 < 0 then (some false) else (if t772 = bt769.1 then ((laws_toState.f k x727000 x727001).bind fun bt773 => ((impl_SaySet.f k bt773.1 bt773.2 x1 x2).bind fun bt779 => ((laws_eqState.f k bt779.1 bt779.2.1 x742000 x742001).bind fun t787 => (if t787 = true then (laws_FnExactSaySet.j2 k bt769.1 (bt779.2.2 != x9) bt769.2.1 bt769.2.2) else (laws_FnExactSaySet.j2 k bt769.1 true bt769.2.1 bt769.2.2))))) else (some false)))))
def laws_FnExactSaySet.j2 : Nat → Int → Bool → List (S68) → List (S72) → Option (Bool)
 | 0, _, _, _, _ => none
 | k + 1, x14, x100, x757000, x757001 => if x100 = true then (some false) else ((laws_heldState.f k x757000 x757001 1).bind fun t788 => (if t788 < 0 then (some false) else (if t788 = x14 then (some true) else (some false))))
end
def laws_FnExactSaySet.f (k : Nat) (l0_0 : List (S94)) (l0_1 : List (S98)) (a1 : Int) (a2 : ByteArray) : Option (Bool) := if (a2.size : Int) > 1048576 then (some true) else ((laws_szState.f k l0_0 l0_1 1048576).bind fun t727 => (if t727 < 0 then (some true) else ((laws_toState.f k l0_0 l0_1).bind fun bt728 => ((spec_SaySet.f k bt728.1 bt728.2 a1 a2).bind fun bt734 => ((laws_toState.f k l0_0 l0_1).bind fun bt742 => ((impl_SaySet.f k bt742.1 bt742.2 a1 a2).bind fun bt749 => ((laws_eqState.f k bt749.1 bt749.2.1 bt734.1 bt734.2.1).bind fun t757 => (if t757 = true then (laws_FnExactSaySet.j0 k a1 a2 bt734.2.2 bt749.2.2 (bt749.2.2 != bt734.2.2) l0_0 l0_1 bt734.1 bt734.2.1 bt742.1 bt742.2 bt749.1 bt749.2.1) else (laws_FnExactSaySet.j0 k a1 a2 bt734.2.2 bt749.2.2 true l0_0 l0_1 bt734.1 bt734.2.1 bt742.1 bt742.2 bt749.1 bt749.2.1)))))))))
theorem laws_FnExactSaySet.mono_l : ∀ k, (∀ y0 y1 y2 y3 y4 y5 y6 y7 y8 y9 y10 y11 y12, LeO (laws_FnExactSaySet.j0 k y0 y1 y2 y3 y4 y5 y6 y7 y8 y9 y10 y11 y12) (laws_FnExactSaySet.j0 (k + 1) y0 y1 y2 y3 y4 y5 y6 y7 y8 y9 y10 y11 y12)) ∧ (∀ y0 y1 y2 y3 y4 y5 y6 y7 y8 y9, LeO (laws_FnExactSaySet.j1 k y0 y1 y2 y3 y4 y5 y6 y7 y8 y9) (laws_FnExactSaySet.j1 (k + 1) y0 y1 y2 y3 y4 y5 y6 y7 y8 y9)) ∧ (∀ y0 y1 y2 y3, LeO (laws_FnExactSaySet.j2 k y0 y1 y2 y3) (laws_FnExactSaySet.j2 (k + 1) y0 y1 y2 y3))
 | 0 => ⟨fun _ _ _ _ _ _ _ _ _ _ _ _ _ r h => by simp [laws_FnExactSaySet.j0] at h, fun _ _ _ _ _ _ _ _ _ _ r h => by simp [laws_FnExactSaySet.j1] at h, fun _ _ _ _ r h => by simp [laws_FnExactSaySet.j2] at h⟩
 | k + 1 => by
  obtain ⟨ih0, ih1, ih2⟩ := laws_FnExactSaySet.mono_l k
  refine ⟨?_, ?_, ?_⟩
  ·intro y0 y1 y2 y3 y4 y5 y6 y7 y8 y9 y10 y11 y12
   unfold laws_FnExactSaySet.j0
   repeat' first
   | (with_reducible exact ih0 _ _ _ _ _ _ _ _ _ _ _ _ _)
   | (with_reducible exact ih1 _ _ _ _ _ _ _ _ _ _)
   | (with_reducible exact ih2 _ _ _ _)
   | (with_reducible exact impl_SaySet.mono _ _ _ _ _)
   | (with_reducible exact laws_eqState.mono _ _ _ _ _)
   | (with_reducible exact laws_heldState.mono _ _ _ _)
   | (with_reducible exact laws_markState.mono _ _ _ _)
   | (with_reducible exact laws_szState.mono _ _ _ _)
   | (with_reducible exact laws_toState.mono _ _ _)
   | (with_reducible exact spec_SaySet.mono _ _ _ _ _)
   | (with_reducible exact LeO.refl _)
   | (with_reducible exact LeO.none _)
   | (with_reducible refine LeO.ite ?_ ?_)
   | (with_reducible refine LeO.bind ?_ (fun _ => ?_))
   | exact ih0 _ _ _ _ _ _ _ _ _ _ _ _ _
   | exact ih1 _ _ _ _ _ _ _ _ _ _
   | exact ih2 _ _ _ _
   | exact impl_SaySet.mono _ _ _ _ _
   | exact laws_eqState.mono _ _ _ _ _
   | exact laws_heldState.mono _ _ _ _
   | exact laws_markState.mono _ _ _ _
   | exact laws_szState.mono _ _ _ _
   | exact laws_toState.mono _ _ _
   | exact spec_SaySet.mono _ _ _ _ _
   | exact LeO.none _
   | refine LeO.ite ?_ ?_
   | refine LeO.bind ?_ (fun _ => ?_)
  ·intro y0 y1 y2 y3 y4 y5 y6 y7 y8 y9
   unfold laws_FnExactSaySet.j1
   repeat' first
   | (with_reducible exact ih0 _ _ _ _ _ _ _ _ _ _ _ _ _)
   | (with_reducible exact ih1 _ _ _ _ _ _ _ _ _ _)
   | (with_reducible exact ih2 _ _ _ _)
   | (with_reducible exact impl_SaySet.mono _ _ _ _ _)
   | (with_reducible exact laws_eqState.mono _ _ _ _ _)
   | (with_reducible exact laws_heldState.mono _ _ _ _)
   | (with_reducible exact laws_markState.mono _ _ _ _)
   | (with_reducible exact laws_szState.mono _ _ _ _)
   | (with_reducible exact laws_toState.mono _ _ _)
   | (with_reducible exact spec_SaySet.mono _ _ _ _ _)
   | (with_reducible exact LeO.refl _)
   | (with_reducible exact LeO.none _)
   | (with_reducible refine LeO.ite ?_ ?_)
   | (with_reducible refine LeO.bind ?_ (fun _ => ?_))
   | exact ih0 _ _ _ _ _ _ _ _ _ _ _ _ _
   | exact ih1 _ _ _ _ _ _ _ _ _ _
   | exact ih2 _ _ _ _
   | exact impl_SaySet.mono _ _ _ _ _
   | exact laws_eqState.mono _ _ _ _ _
   | exact laws_heldState.mono _ _ _ _
   | exact laws_markState.mono _ _ _ _
   | exact laws_szState.mono _ _ _ _
   | exact laws_toState.mono _ _ _
   | exact spec_SaySet.mono _ _ _ _ _
   | exact LeO.none _
   | refine LeO.ite ?_ ?_
   | refine LeO.bind ?_ (fun _ => ?_)
  ·intro y0 y1 y2 y3
   unfold laws_FnExactSaySet.j2
   repeat' first
   | (with_reducible exact ih0 _ _ _ _ _ _ _ _ _ _ _ _ _)
   | (with_reducible exact ih1 _ _ _ _ _ _ _ _ _ _)
   | (with_reducible exact ih2 _ _ _ _)
   | (with_reducible exact impl_SaySet.mono _ _ _ _ _)
   | (with_reducible exact laws_eqState.mono _ _ _ _ _)
   | (with_reducible exact laws_heldState.mono _ _ _ _)
   | (with_reducible exact laws_markState.mono _ _ _ _)
   | (with_reducible exact laws_szState.mono _ _ _ _)
   | (with_reducible exact laws_toState.mono _ _ _)
   | (with_reducible exact spec_SaySet.mono _ _ _ _ _)
   | (with_reducible exact LeO.refl _)
   | (with_reducible exact LeO.none _)
   | (with_reducible refine LeO.ite ?_ ?_)
   | (with_reducible refine LeO.bind ?_ (fun _ => ?_))
   | exact ih0 _ _ _ _ _ _ _ _ _ _ _ _ _
   | exact ih1 _ _ _ _ _ _ _ _ _ _
   | exact ih2 _ _ _ _
   | exact impl_SaySet.mono _ _ _ _ _
   | exact laws_eqState.mono _ _ _ _ _
   | exact laws_heldState.mono _ _ _ _
   | exact laws_markState.mono _ _ _ _
   | exact laws_szState.mono _ _ _ _
   | exact laws_toState.mono _ _ _
   | exact spec_SaySet.mono _ _ _ _ _
   | exact LeO.none _
   | refine LeO.ite ?_ ?_
   | refine LeO.bind ?_ (fun _ => ?_)
theorem laws_FnExactSaySet.mono : ∀ a0 a1 a2 a3 k, LeO (laws_FnExactSaySet.f k a0 a1 a2 a3) (laws_FnExactSaySet.f (k + 1) a0 a1 a2 a3) := by
 intro a0 a1 a2 a3 k
 obtain ⟨ih0, ih1, ih2⟩ := laws_FnExactSaySet.mono_l k
 unfold laws_FnExactSaySet.f
 repeat' first
   | (with_reducible exact ih0 _ _ _ _ _ _ _ _ _ _ _ _ _)
   | (with_reducible exact ih1 _ _ _ _ _ _ _ _ _ _)
   | (with_reducible exact ih2 _ _ _ _)
   | (with_reducible exact impl_SaySet.mono _ _ _ _ _)
   | (with_reducible exact laws_eqState.mono _ _ _ _ _)
   | (with_reducible exact laws_heldState.mono _ _ _ _)
   | (with_reducible exact laws_markState.mono _ _ _ _)
   | (with_reducible exact laws_szState.mono _ _ _ _)
   | (with_reducible exact laws_toState.mono _ _ _)
   | (with_reducible exact spec_SaySet.mono _ _ _ _ _)
   | (with_reducible exact LeO.refl _)
   | (with_reducible exact LeO.none _)
   | (with_reducible refine LeO.ite ?_ ?_)
   | (with_reducible refine LeO.bind ?_ (fun _ => ?_))
   | exact ih0 _ _ _ _ _ _ _ _ _ _ _ _ _
   | exact ih1 _ _ _ _ _ _ _ _ _ _
   | exact ih2 _ _ _ _
   | exact impl_SaySet.mono _ _ _ _ _
   | exact laws_eqState.mono _ _ _ _ _
   | exact laws_heldState.mono _ _ _ _
   | exact laws_markState.mono _ _ _ _
   | exact laws_szState.mono _ _ _ _
   | exact laws_toState.mono _ _ _
   | exact spec_SaySet.mono _ _ _ _ _
   | exact LeO.none _
   | refine LeO.ite ?_ ?_
   | refine LeO.bind ?_ (fun _ => ?_)
set_option maxHeartbeats 8000000 in
set_option maxRecDepth 100000 in
theorem laws_FnExactSaySet.calls (k : Nat) (A0_0 : Option Addr) (c0_0 : Nat) (l0_0 : List (S94)) (A0_1 : Option Addr) (c0_1 : Nat) (l0_1 : List (S98)) (a1 : Int) (a2 : ByteArray) (r : Bool) (w : World) (hr0_0 : Kd.C k94 w A0_0 l0_0.length l0_0) (hc0_0 : l0_0.length ≤ c0_0) (hr0_1 : Kd.C k98 w A0_1 l0_1.length l0_1) (hc0_1 : l0_1.length ≤ c0_1) (h : laws_FnExactSaySet.f k l0_0 l0_1 a1 a2 = some r) :
  Calls Try.prog 7 #[.agg #[.slice A0_0 l0_0.length c0_0, .slice A0_1 l0_1.length c0_1], .int .i64 a1, .string a2] w fun e w' => e = .returned (.bool r) ∧ Below w.heap.size w w' := by
 have hu25 := Try.underlying25
 have hu32 := Try.underlying32
 have HR0_0 := zm hr0_0
 have HC0_0 := zm hc0_0
 clear hr0_0 hc0_0
 have HR0_1 := zm hr0_1
 have HC0_1 := zm hc0_1
 clear hr0_1 hc0_1
 have HB := zm (Below.refl w.heap.size w)
 have H : (if (a2.size : Int) > 1048576 then (some true) else ((laws_szState.f k l0_0 l0_1 1048576).bind fun t727 => (if t727 < 0 then (some true) else ((laws_toState.f k l0_0 l0_1).bind fun bt728 => ((spec_SaySet.f k bt728.1 bt728.2 a1 a2).bind fun bt734 => ((laws_toState.f k l0_0 l0_1).bind fun bt742 => ((impl_SaySet.f k bt742.1 bt742.2 a1 a2).bind fun bt749 => ((laws_eqState.f k bt749.1 bt749.2.1 bt734.1 bt734.2.1).bind fun t757 => (if t757 = true then (laws_FnExactSaySet.j0 k a1 a2 bt734.2.2 bt749.2.2 (bt749.2.2 != bt734.2.2) l0_0 l0_1 bt734.1 bt734.2.1 bt742.1 bt742.2 bt749.1 bt749.2.1) else (laws_FnExactSaySet.j0 k a1 a2 bt734.2.2 bt749.2.2 true l0_0 l0_1 bt734.1 bt734.2.1 bt742.1 bt742.2 bt749.1 bt749.2.1)))))))))) = some r := h
 clear h
 by_cases c4 : (a2.size : Int) > 1048576
 ·rw [if_pos c4] at H
  have c4b0 : decide (1048576 < (a2.size : Int)) = true := decide_eq_true c4
  have c4b1 : decide (1048576 < a2.size) = true := decide_eq_true (by omega)
  clear c4
  obtain rfl := Option.some.inj H
  go_enter Try.func7, Try.ntmps7
  go_wp2_with (first | ((with_reducible refine gate_dst (N := 3) rfl ?_); refine zbox 3 #[.slice A0_0 l0_0.length c0_0, .slice A0_1 l0_1.length c0_1] 25 ?_; intro gb726 hg w5 hbox hb; have BK726 := zm (hbox); have GW726 := zge w hg zB; have GE726 := zge w hg zB; replace HB := zm (below_step zB hb); clear hb hbox hg))
  go_ret
  exact ⟨zE, zB⟩
 ·rw [if_neg c4] at H
  have c4b0 : decide (1048576 < (a2.size : Int)) = false := decide_eq_false c4
  have c4b1 : decide (1048576 < a2.size) = false := decide_eq_false (by omega)
  clear c4
  replace H := Option.bind_eq_some_iff.mp H
  obtain ⟨t727, A60, H⟩ := H
  replace H : (if t727 < 0 then (some true) else ((laws_toState.f k l0_0 l0_1).bind fun bt728 => ((spec_SaySet.f k bt728.1 bt728.2 a1 a2).bind fun bt734 => ((laws_toState.f k l0_0 l0_1).bind fun bt742 => ((impl_SaySet.f k bt742.1 bt742.2 a1 a2).bind fun bt749 => ((laws_eqState.f k bt749.1 bt749.2.1 bt734.1 bt734.2.1).bind fun t757 => (if t757 = true then (laws_FnExactSaySet.j0 k a1 a2 bt734.2.2 bt749.2.2 (bt749.2.2 != bt734.2.2) l0_0 l0_1 bt734.1 bt734.2.1 bt742.1 bt742.2 bt749.1 bt749.2.1) else (laws_FnExactSaySet.j0 k a1 a2 bt734.2.2 bt749.2.2 true l0_0 l0_1 bt734.1 bt734.2.1 bt742.1 bt742.2 bt749.1 bt749.2.1)))))))) = some r := H
  have A6 := zm A60
  clear A60
  by_cases c7 : t727 < 0
  ·rw [if_pos c7] at H
   have c7b0 : decide (t727 < 0) = true := decide_eq_true c7
   clear c7
   obtain rfl := Option.some.inj H
   go_enter Try.func7, Try.ntmps7
   go_wp2_with (first | ((with_reducible refine gate_dst (N := 3) rfl ?_); refine zbox 3 #[.slice A0_0 l0_0.length c0_0, .slice A0_1 l0_1.length c0_1] 25 ?_; intro gb726 hg w8 hbox hb; have BK726 := zm (hbox); have GW726 := zge w hg zB; have GE726 := zge w hg zB; replace HB := zm (below_step zB hb); clear hb hbox hg; have hcz9_0 : w8.cell? ⟨gb726, 0, none⟩ = some (.slice A0_0 l0_0.length c0_0) := (blk_cell BK726.out 0).trans rfl; have hcz9_1 : w8.cell? ⟨gb726, 1, none⟩ = some (.slice A0_1 l0_1.length c0_1) := (blk_cell BK726.out 1).trans rfl; have hfz9_0 := blk_frozen BK726.out 0; have hfz9_1 := blk_frozen BK726.out 1) | ((with_reducible refine gate_callee (f := 13) rfl ?_); refine zg (some 23) #[.agg #[.slice A0_0 l0_0.length c0_0, .slice A0_1 l0_1.length c0_1], .int .i64 1048576] Try.func13 ?_; (with_reducible refine (laws_szState.calls k _ _ l0_0 _ _ l0_1 1048576 t727 _ (zk (Kd.C_below HR0_0.out HB.out)) HC0_0.out (zk (Kd.C_below HR0_1.out HB.out)) HC0_1.out A6.out).mono ?_); rintro e w10 ⟨rfl, hb⟩; refine ⟨_, rfl, ?_⟩; replace BK726 := zm (blk_below (zb BK726) hb); replace HB := zm (below_step zB hb); clear hb))
   go_ret
   exact ⟨zE, zB⟩
  ·rw [if_neg c7] at H
   have c7b0 : decide (t727 < 0) = false := decide_eq_false c7
   clear c7
   replace H := Option.bind_eq_some_iff.mp H
   obtain ⟨⟨t728, t731⟩, A110, H⟩ := H
   replace H : ((spec_SaySet.f k t728 t731 a1 a2).bind fun bt734 => ((laws_toState.f k l0_0 l0_1).bind fun bt742 => ((impl_SaySet.f k bt742.1 bt742.2 a1 a2).bind fun bt749 => ((laws_eqState.f k bt749.1 bt749.2.1 bt734.1 bt734.2.1).bind fun t757 => (if t757 = true then (laws_FnExactSaySet.j0 k a1 a2 bt734.2.2 bt749.2.2 (bt749.2.2 != bt734.2.2) l0_0 l0_1 bt734.1 bt734.2.1 bt742.1 bt742.2 bt749.1 bt749.2.1) else (laws_FnExactSaySet.j0 k a1 a2 bt734.2.2 bt749.2.2 true l0_0 l0_1 bt734.1 bt734.2.1 bt742.1 bt742.2 bt749.1 bt749.2.1)))))) = some r := H
   have A11 := zm A110
   clear A110
   replace H := Option.bind_eq_some_iff.mp H
   obtain ⟨⟨t734, t737, t740⟩, A120, H⟩ := H
   replace H : ((laws_toState.f k l0_0 l0_1).bind fun bt742 => ((impl_SaySet.f k bt742.1 bt742.2 a1 a2).bind fun bt749 => ((laws_eqState.f k bt749.1 bt749.2.1 t734 t737).bind fun t757 => (if t757 = true then (laws_FnExactSaySet.j0 k a1 a2 t740 bt749.2.2 (bt749.2.2 != t740) l0_0 l0_1 t734 t737 bt742.1 bt742.2 bt749.1 bt749.2.1) else (laws_FnExactSaySet.j0 k a1 a2 t740 bt749.2.2 true l0_0 l0_1 t734 t737 bt742.1 bt742.2 bt749.1 bt749.2.1))))) = some r := H
   have A12 := zm A120
   clear A120
   replace H := Option.bind_eq_some_iff.mp H
   obtain ⟨⟨t742, t745⟩, A130, H⟩ := H
   replace H : ((impl_SaySet.f k t742 t745 a1 a2).bind fun bt749 => ((laws_eqState.f k bt749.1 bt749.2.1 t734 t737).bind fun t757 => (if t757 = true then (laws_FnExactSaySet.j0 k a1 a2 t740 bt749.2.2 (bt749.2.2 != t740) l0_0 l0_1 t734 t737 t742 t745 bt749.1 bt749.2.1) else (laws_FnExactSaySet.j0 k a1 a2 t740 bt749.2.2 true l0_0 l0_1 t734 t737 t742 t745 bt749.1 bt749.2.1)))) = some r := H
   have A13 := zm A130
   clear A130
   replace H := Option.bind_eq_some_iff.mp H
   obtain ⟨⟨t749, t752, t755⟩, A140, H⟩ := H
   replace H : ((laws_eqState.f k t749 t752 t734 t737).bind fun t757 => (if t757 = true then (laws_FnExactSaySet.j0 k a1 a2 t740 t755 (t755 != t740) l0_0 l0_1 t734 t737 t742 t745 t749 t752) else (laws_FnExactSaySet.j0 k a1 a2 t740 t755 true l0_0 l0_1 t734 t737 t742 t745 t749 t752))) = some r := H
   have A14 := zm A140
   clear A140
   have HC15 := zm H
   clear H
   go_enter Try.func7, Try.ntmps7
   go_upto_region 10 with (first | ((with_reducible refine gate_dst (N := 3) rfl ?_); refine zbox 3 #[.slice A0_0 l0_0.length c0_0, .slice A0_1 l0_1.length c0_1] 25 ?_; intro gb726 hg w16 hbox hb; have BK726 := zm (hbox); have GW726 := zge w hg zB; have GE726 := zge w hg zB; replace HB := zm (below_step zB hb); clear hb hbox hg; have hcz17_0 : w16.cell? ⟨gb726, 0, none⟩ = some (.slice A0_0 l0_0.length c0_0) := (blk_cell BK726.out 0).trans rfl; have hcz17_1 : w16.cell? ⟨gb726, 1, none⟩ = some (.slice A0_1 l0_1.length c0_1) := (blk_cell BK726.out 1).trans rfl; have hfz17_0 := blk_frozen BK726.out 0; have hfz17_1 := blk_frozen BK726.out 1) | ((with_reducible refine gate_callee (f := 13) rfl ?_); refine zg (some 23) #[.agg #[.slice A0_0 l0_0.length c0_0, .slice A0_1 l0_1.length c0_1], .int .i64 1048576] Try.func13 ?_; (with_reducible refine (laws_szState.calls k _ _ l0_0 _ _ l0_1 1048576 t727 _ (zk (Kd.C_below HR0_0.out HB.out)) HC0_0.out (zk (Kd.C_below HR0_1.out HB.out)) HC0_1.out A6.out).mono ?_); rintro e w18 ⟨rfl, hb⟩; refine ⟨_, rfl, ?_⟩; replace BK726 := zm (blk_below (zb BK726) hb); replace HB := zm (below_step zB hb); clear hb; have hcz19_0 : w18.cell? ⟨gb726, 0, none⟩ = some (.slice A0_0 l0_0.length c0_0) := (blk_cell BK726.out 0).trans rfl; have hcz19_1 : w18.cell? ⟨gb726, 1, none⟩ = some (.slice A0_1 l0_1.length c0_1) := (blk_cell BK726.out 1).trans rfl; have hfz19_0 := blk_frozen BK726.out 0; have hfz19_1 := blk_frozen BK726.out 1) | ((with_reducible refine gate_callee (f := 15) rfl ?_); refine zg (some 28) #[.agg #[.slice A0_0 l0_0.length c0_0, .slice A0_1 l0_1.length c0_1]] Try.func15 ?_; (with_reducible refine (laws_toState.calls k _ _ l0_0 _ _ l0_1 t728 t731 _ (zk (Kd.C_below HR0_0.out HB.out)) HC0_0.out (zk (Kd.C_below HR0_1.out HB.out)) HC0_1.out A11.out).mono ?_); rintro e w20 ⟨v729, v732, rfl, ho0, ho1, hb⟩; refine ⟨_, rfl, ?_⟩; have HO730 := zm (Kd.R_lower ho0 (below_size zB)); have HO733 := zm (Kd.R_lower ho1 (below_size zB)); replace BK726 := zm (blk_below (zb BK726) hb); replace HB := zm (below_step zB hb); clear hb ho0 ho1; obtain ⟨Ao21, co21, eo21⟩ := Kd.R_slice HO730.out; subst eo21; obtain ⟨Ao22, co22, eo22⟩ := Kd.R_slice HO733.out; subst eo22) | ((with_reducible refine gate_callee (f := 29) rfl ?_); refine zg (some 31) #[.agg #[.slice Ao21 t728.length co21, .slice Ao22 t731.length co22], .int .i64 a1, .string a2] Try.func29 ?_; (with_reducible refine (spec_SaySet.calls k _ _ t728 _ _ t731 a1 a2 t734 t737 t740 _ ?side1 ?side2 ?side3 ?side4 A12.out).mono ?_); (case side1 => repeat (first | exact (Kd.R_reads' HO730.out).2.2 | (with_reducible refine Kd.C_alloc ?_ _) | (with_reducible refine Kd.C_drewN ?_ _) | (with_reducible refine Kd.C_drew ?_))); (case side2 => exact (Kd.R_reads' HO730.out).2.1); (case side3 => repeat (first | exact (Kd.R_reads' HO733.out).2.2 | (with_reducible refine Kd.C_alloc ?_ _) | (with_reducible refine Kd.C_drewN ?_ _) | (with_reducible refine Kd.C_drew ?_))); (case side4 => exact (Kd.R_reads' HO733.out).2.1); rintro e w23 ⟨v735, v738, rfl, ho0, ho1, hb⟩; refine ⟨_, rfl, ?_⟩; have HO736 := zm (Kd.R_lower (Kd.R_new' ho0 (Kd.R_lt (zr HO730))) (below_size zB)); replace HO730 := zm (Kd.R_elder' (zr HO730) (Kd.R_base ho0) hb); have HO739 := zm (Kd.R_lower (Kd.R_new' ho1 (Kd.R_lt (zr HO733))) (below_size zB)); replace HO733 := zm (Kd.R_elder' (zr HO733) (Kd.R_base ho1) hb); replace BK726 := zm (blk_below (zb BK726) hb); replace HB := zm (below_step zB hb); clear hb ho0 ho1) | ((with_reducible refine gate_dst (N := 8) rfl ?_); refine zbox 8 #[.slice none 0 0, .slice none 0 0] 32 ?_; intro gb741 hg w24 hbox hb; replace HO730 := zm (Kd.R_below (zr HO730) hb); replace HO733 := zm (Kd.R_below (zr HO733) hb); replace HO736 := zm (Kd.R_below (zr HO736) hb); replace HO739 := zm (Kd.R_below (zr HO739) hb); have BK741 := zm (hbox); have GW741 := zge w hg zB; have GE741 := zge w hg zB; replace HB := zm (below_step zB hb); have NB726_741 := zlt hg (zb BK726); have NB741_726 := zgt hg (zb BK726); replace BK726 := zm (blk_below (zb BK726) hb); clear hb hbox hg; obtain ⟨Ao25, co25, eo25⟩ := Kd.R_slice HO736.out; subst eo25; have hnb26 := NB741_726.out; have hnc26 := NB726_741.out; have hcz27_0 : w24.cell? ⟨gb741, 0, none⟩ = some (.slice none 0 0) := (blk_cell BK741.out 0).trans rfl; have hcz27_1 : w24.cell? ⟨gb741, 1, none⟩ = some (.slice none 0 0) := (blk_cell BK741.out 1).trans rfl; have hfz27_0 := blk_frozen BK741.out 0; have hfz27_1 := blk_frozen BK741.out 1; obtain ⟨Ao28, co28, eo28⟩ := Kd.R_slice HO739.out; subst eo28; have hcz29_0 : w24.cell? ⟨gb726, 0, none⟩ = some (.slice A0_0 l0_0.length c0_0) := (blk_cell BK726.out 0).trans rfl; have hcz29_1 : w24.cell? ⟨gb726, 1, none⟩ = some (.slice A0_1 l0_1.length c0_1) := (blk_cell BK726.out 1).trans rfl; have hfz29_0 := blk_frozen BK726.out 0; have hfz29_1 := blk_frozen BK726.out 1) | ((with_reducible refine gate_callee (f := 15) rfl ?_); refine zg (some 35) #[.agg #[.slice A0_0 l0_0.length c0_0, .slice A0_1 l0_1.length c0_1]] Try.func15 ?_; (with_reducible refine (laws_toState.calls k _ _ l0_0 _ _ l0_1 t742 t745 _ ?side1 HC0_0.out ?side3 HC0_1.out A13.out).mono ?_); (case side1 => exact Kd.C_below HR0_0.out zB); (case side3 => exact Kd.C_below HR0_1.out zB); rintro e w30 ⟨v743, v746, rfl, ho0, ho1, hb⟩; refine ⟨_, rfl, ?_⟩; have HO744 := zm (Kd.R_lower (Kd.R_new' (Kd.R_new' ho0 (Kd.R_lt (zrs <| (Kd.R_mono (zfr (zfr (Kd.R_types HO730.out BK741.out (by decide)))) (fun _ h_ => h_.1))))) (Kd.R_lt (zrs <| (Kd.R_mono (zfr (zfr (Kd.R_types HO736.out BK741.out (by decide)))) (fun _ h_ => h_.1))))) (below_size zB)); replace HO730 := zm (Kd.R_elder' (zrs <| (Kd.R_mono (zfr (zfr (Kd.R_types HO730.out BK741.out (by decide)))) (fun _ h_ => h_.1))) (Kd.R_base ho0) hb); replace HO736 := zm (Kd.R_elder' (zrs <| (Kd.R_mono (zfr (zfr (Kd.R_types HO736.out BK741.out (by decide)))) (fun _ h_ => h_.1))) (Kd.R_base ho0) hb); have HO747 := zm (Kd.R_lower (Kd.R_new' (Kd.R_new' ho1 (Kd.R_lt (zrs <| (Kd.R_mono (zfr (zfr (Kd.R_types HO733.out BK741.out (by decide)))) (fun _ h_ => h_.1))))) (Kd.R_lt (zrs <| (Kd.R_mono (zfr (zfr (Kd.R_types HO739.out BK741.out (by decide)))) (fun _ h_ => h_.1))))) (below_size zB)); replace HO733 := zm (Kd.R_elder' (zrs <| (Kd.R_mono (zfr (zfr (Kd.R_types HO733.out BK741.out (by decide)))) (fun _ h_ => h_.1))) (Kd.R_base ho1) hb); replace HO739 := zm (Kd.R_elder' (zrs <| (Kd.R_mono (zfr (zfr (Kd.R_types HO739.out BK741.out (by decide)))) (fun _ h_ => h_.1))) (Kd.R_base ho1) hb); replace BK726 := zm (blk_below (g := gb726) (o := .cells #[.slice A0_0 l0_0.length c0_0, .slice A0_1 l0_1.length c0_1] 25 (0, 0)) (zfar (zfar (zb BK726) NB726_741) NB726_741) hb); replace BK741 := zm (blk_below (g := gb741) (o := .cells #[.slice Ao25 t734.length co25, .slice Ao28 t737.length co28] 32 (0, 0)) (zput (zput (zb BK741) 0) 1) hb); replace HB := zm (below_step zB hb); clear hb ho0 ho1) | ((with_reducible refine gate_dst (N := 10) rfl ?_); refine zbox 10 #[.slice none 0 0, .slice none 0 0] 32 ?_; intro gb748 hg w31 hbox hb; replace HO730 := zm (Kd.R_below (zr HO730) hb); replace HO733 := zm (Kd.R_below (zr HO733) hb); replace HO736 := zm (Kd.R_below (zr HO736) hb); replace HO739 := zm (Kd.R_below (zr HO739) hb); replace HO744 := zm (Kd.R_below (zr HO744) hb); replace HO747 := zm (Kd.R_below (zr HO747) hb); have BK748 := zm (hbox); have GW748 := zge w hg zB; have GE748 := zge w hg zB; replace HB := zm (below_step zB hb); have NB726_748 := zlt hg (zb BK726); have NB748_726 := zgt hg (zb BK726); replace BK726 := zm (blk_below (zb BK726) hb); have NB741_748 := zlt hg (zb BK741); have NB748_741 := zgt hg (zb BK741); replace BK741 := zm (blk_below (zb BK741) hb); clear hb hbox hg; obtain ⟨Ao32, co32, eo32⟩ := Kd.R_slice HO744.out; subst eo32; have hnb33 := NB748_726.out; have hnc33 := NB726_748.out; have hnb34 := NB748_741.out; have hnc34 := NB741_748.out; have hcz35_0 : w31.cell? ⟨gb748, 0, none⟩ = some (.slice none 0 0) := (blk_cell BK748.out 0).trans rfl; have hcz35_1 : w31.cell? ⟨gb748, 1, none⟩ = some (.slice none 0 0) := (blk_cell BK748.out 1).trans rfl; have hfz35_0 := blk_frozen BK748.out 0; have hfz35_1 := blk_frozen BK748.out 1; obtain ⟨Ao36, co36, eo36⟩ := Kd.R_slice HO747.out; subst eo36) | ((with_reducible refine gate_callee (f := 30) rfl ?_); refine zg (some 40) #[.agg #[.slice Ao32 t742.length co32, .slice Ao36 t745.length co36], .int .i64 a1, .string a2] Try.func30 ?_; (with_reducible refine (impl_SaySet.calls k _ _ t742 _ _ t745 a1 a2 t749 t752 t755 _ ?side1 ?side2 ?side3 ?side4 A14.out).mono ?_); (case side1 => refine (Kd.R_reads' (e := 68) (base := w.heap.size) (ok := fun k_ => ((True ∧ some k_ ≠ (.slice Ao21 t728.length co21 : Value).ownBlock) ∧ some k_ ≠ (.slice Ao25 t734.length co25 : Value).ownBlock)) (n := t742.length) (c := co32) ?_).2.2; exact (zrs <| (Kd.R_mono (zfr (zfr (Kd.R_types HO744.out BK748.out (by decide)))) (fun _ h_ => h_.1)))); (case side2 => exact (Kd.R_reads' HO744.out).2.1); (case side3 => refine (Kd.R_reads' (e := 72) (base := w.heap.size) (ok := fun k_ => ((True ∧ some k_ ≠ (.slice Ao22 t731.length co22 : Value).ownBlock) ∧ some k_ ≠ (.slice Ao28 t737.length co28 : Value).ownBlock)) (n := t745.length) (c := co36) ?_).2.2; exact (zrs <| (Kd.R_mono (zfr (zfr (Kd.R_types HO747.out BK748.out (by decide)))) (fun _ h_ => h_.1)))); (case side4 => exact (Kd.R_reads' HO747.out).2.1); rintro e w37 ⟨v750, v753, rfl, ho0, ho1, hb⟩; refine ⟨_, rfl, ?_⟩; have HO751 := zm (Kd.R_lower (Kd.R_new' (Kd.R_new' (Kd.R_new' ho0 (Kd.R_lt (zrs <| (Kd.R_mono (zfr (zfr (Kd.R_types HO730.out BK748.out (by decide)))) (fun _ h_ => h_.1))))) (Kd.R_lt (zrs <| (Kd.R_mono (zfr (zfr (Kd.R_types HO736.out BK748.out (by decide)))) (fun _ h_ => h_.1))))) (Kd.R_lt (zrs <| (Kd.R_mono (zfr (zfr (Kd.R_types HO744.out BK748.out (by decide)))) (fun _ h_ => h_.1))))) (below_size zB)); replace HO730 := zm (Kd.R_elder' (zrs <| (Kd.R_mono (zfr (zfr (Kd.R_types HO730.out BK748.out (by decide)))) (fun _ h_ => h_.1))) (Kd.R_base ho0) hb); replace HO736 := zm (Kd.R_elder' (zrs <| (Kd.R_mono (zfr (zfr (Kd.R_types HO736.out BK748.out (by decide)))) (fun _ h_ => h_.1))) (Kd.R_base ho0) hb); replace HO744 := zm (Kd.R_elder' (zrs <| (Kd.R_mono (zfr (zfr (Kd.R_types HO744.out BK748.out (by decide)))) (fun _ h_ => h_.1))) (Kd.R_base ho0) hb); have HO754 := zm (Kd.R_lower (Kd.R_new' (Kd.R_new' (Kd.R_new' ho1 (Kd.R_lt (zrs <| (Kd.R_mono (zfr (zfr (Kd.R_types HO733.out BK748.out (by decide)))) (fun _ h_ => h_.1))))) (Kd.R_lt (zrs <| (Kd.R_mono (zfr (zfr (Kd.R_types HO739.out BK748.out (by decide)))) (fun _ h_ => h_.1))))) (Kd.R_lt (zrs <| (Kd.R_mono (zfr (zfr (Kd.R_types HO747.out BK748.out (by decide)))) (fun _ h_ => h_.1))))) (below_size zB)); replace HO733 := zm (Kd.R_elder' (zrs <| (Kd.R_mono (zfr (zfr (Kd.R_types HO733.out BK748.out (by decide)))) (fun _ h_ => h_.1))) (Kd.R_base ho1) hb); replace HO739 := zm (Kd.R_elder' (zrs <| (Kd.R_mono (zfr (zfr (Kd.R_types HO739.out BK748.out (by decide)))) (fun _ h_ => h_.1))) (Kd.R_base ho1) hb); replace HO747 := zm (Kd.R_elder' (zrs <| (Kd.R_mono (zfr (zfr (Kd.R_types HO747.out BK748.out (by decide)))) (fun _ h_ => h_.1))) (Kd.R_base ho1) hb); replace BK726 := zm (blk_below (g := gb726) (o := .cells #[.slice A0_0 l0_0.length c0_0, .slice A0_1 l0_1.length c0_1] 25 (0, 0)) (zfar (zfar (zb BK726) NB726_748) NB726_748) hb); replace BK741 := zm (blk_below (g := gb741) (o := .cells #[.slice Ao25 t734.length co25, .slice Ao28 t737.length co28] 32 (0, 0)) (zfar (zfar (zb BK741) NB741_748) NB741_748) hb); replace BK748 := zm (blk_below (g := gb748) (o := .cells #[.slice Ao32 t742.length co32, .slice Ao36 t745.length co36] 32 (0, 0)) (zput (zput (zb BK748) 0) 1) hb); replace HB := zm (below_step zB hb); clear hb ho0 ho1) | ((with_reducible refine gate_dst (N := 11) rfl ?_); refine zbox 11 #[.slice none 0 0, .slice none 0 0] 32 ?_; intro gb756 hg w38 hbox hb; replace HO730 := zm (Kd.R_below (zr HO730) hb); replace HO733 := zm (Kd.R_below (zr HO733) hb); replace HO736 := zm (Kd.R_below (zr HO736) hb); replace HO739 := zm (Kd.R_below (zr HO739) hb); replace HO744 := zm (Kd.R_below (zr HO744) hb); replace HO747 := zm (Kd.R_below (zr HO747) hb); replace HO751 := zm (Kd.R_below (zr HO751) hb); replace HO754 := zm (Kd.R_below (zr HO754) hb); have BK756 := zm (hbox); have GW756 := zge w hg zB; have GE756 := zge w hg zB; replace HB := zm (below_step zB hb); have NB726_756 := zlt hg (zb BK726); have NB756_726 := zgt hg (zb BK726); replace BK726 := zm (blk_below (zb BK726) hb); have NB741_756 := zlt hg (zb BK741); have NB756_741 := zgt hg (zb BK741); replace BK741 := zm (blk_below (zb BK741) hb); have NB748_756 := zlt hg (zb BK748); have NB756_748 := zgt hg (zb BK748); replace BK748 := zm (blk_below (zb BK748) hb); clear hb hbox hg; obtain ⟨Ao39, co39, eo39⟩ := Kd.R_slice HO751.out; subst eo39; have hnb40 := NB756_726.out; have hnc40 := NB726_756.out; have hnb41 := NB756_741.out; have hnc41 := NB741_756.out; have hnb42 := NB756_748.out; have hnc42 := NB748_756.out; have hcz43_0 : w38.cell? ⟨gb756, 0, none⟩ = some (.slice none 0 0) := (blk_cell BK756.out 0).trans rfl; have hcz43_1 : w38.cell? ⟨gb756, 1, none⟩ = some (.slice none 0 0) := (blk_cell BK756.out 1).trans rfl; have hfz43_0 := blk_frozen BK756.out 0; have hfz43_1 := blk_frozen BK756.out 1; obtain ⟨Ao44, co44, eo44⟩ := Kd.R_slice HO754.out; subst eo44))
   (try simp only [Act.put, List.setIfInBounds_toArray, List.set_cons_zero, List.set_cons_succ])
   go_cut [51] (fun v51 wc => ∃ (kq : Nat) (x51_14 : Bool), v51 = .bool x51_14 ∧ Aside0 (laws_FnExactSaySet.j0 kq a1 a2 t740 t755 x51_14 l0_0 l0_1 t734 t737 t742 t745 t749 t752 = some r) ∧ Aside0 (kq ≤ k) ∧ Aside0 (Kd.R k68 68 wc w.heap.size (fun k_ => some k_ ≠ ((.slice Ao32 t742.length co32) : Value).ownBlock ∧ some k_ ≠ ((.slice Ao39 t749.length co39) : Value).ownBlock) (.slice Ao25 t734.length co25) t734) ∧ Aside0 (Kd.R k72 72 wc w.heap.size (fun k_ => some k_ ≠ ((.slice Ao36 t745.length co36) : Value).ownBlock ∧ some k_ ≠ ((.slice Ao44 t752.length co44) : Value).ownBlock) (.slice Ao28 t737.length co28) t737) ∧ Aside0 (Kd.R k68 68 wc w.heap.size (fun k_ => some k_ ≠ ((.slice Ao25 t734.length co25) : Value).ownBlock ∧ some k_ ≠ ((.slice Ao39 t749.length co39) : Value).ownBlock) (.slice Ao32 t742.length co32) t742) ∧ Aside0 (Kd.R k72 72 wc w.heap.size (fun k_ => some k_ ≠ ((.slice Ao28 t737.length co28) : Value).ownBlock ∧ some k_ ≠ ((.slice Ao44 t752.length co44) : Value).ownBlock) (.slice Ao36 t745.length co36) t745) ∧ Aside0 (Kd.R k68 68 wc w.heap.size (fun k_ => some k_ ≠ ((.slice Ao25 t734.length co25) : Value).ownBlock ∧ some k_ ≠ ((.slice Ao32 t742.length co32) : Value).ownBlock) (.slice Ao39 t749.length co39) t749) ∧ Aside0 (Kd.R k72 72 wc w.heap.size (fun k_ => some k_ ≠ ((.slice Ao28 t737.length co28) : Value).ownBlock ∧ some k_ ≠ ((.slice Ao36 t745.length co36) : Value).ownBlock) (.slice Ao44 t752.length co44) t752) ∧ Aside0 (wc.heap[gb726]? = some (.cells #[(.slice A0_0 l0_0.length c0_0), (.slice A0_1 l0_1.length c0_1)] 25 (0, 0))) ∧ Aside0 (wc.heap[gb741]? = some (.cells #[(.slice Ao25 t734.length co25), (.slice Ao28 t737.length co28)] 32 (0, 0))) ∧ Aside0 (wc.heap[gb748]? = some (.cells #[(.slice Ao32 t742.length co32), (.slice Ao36 t745.length co36)] 32 (0, 0))) ∧ Aside0 (wc.heap[gb756]? = some (.cells #[(.slice Ao39 t749.length co39), (.slice Ao44 t752.length co44)] 32 (0, 0))) ∧ Aside0 (Below w.heap.size w wc))
   case first =>
    have H := HC15.out
    clear HC15
    replace H := Option.bind_eq_some_iff.mp H
    obtain ⟨t757, A450, H⟩ := H
    replace H : (if t757 = true then (laws_FnExactSaySet.j0 k a1 a2 t740 t755 (t755 != t740) l0_0 l0_1 t734 t737 t742 t745 t749 t752) else (laws_FnExactSaySet.j0 k a1 a2 t740 t755 true l0_0 l0_1 t734 t737 t742 t745 t749 t752)) = some r := H
    have A45 := zm A450
    clear A450
    by_cases c46 : t757 = true
    ·subst c46
     have H1 : (laws_FnExactSaySet.j0 k a1 a2 t740 t755 (t755 != t740) l0_0 l0_1 t734 t737 t742 t745 t749 t752) = some r := by rw [if_pos rfl] at H; exact H
     clear H
     have H := H1
     clear H1
     have H' := zm H
     clear H
     have hnb47 := NB756_726.out
     have hnc47 := NB726_756.out
     have hnb48 := NB756_741.out
     have hnc48 := NB741_756.out
     have hnb49 := NB756_748.out
     have hnc49 := NB748_756.out
     have hcz50_0 : w38.cell? ⟨gb756, 0, none⟩ = some (.slice none 0 0) := (blk_cell BK756.out 0).trans rfl
     have hcz50_1 : w38.cell? ⟨gb756, 1, none⟩ = some (.slice none 0 0) := (blk_cell BK756.out 1).trans rfl
     have hfz50_0 := blk_frozen BK756.out 0
     have hfz50_1 := blk_frozen BK756.out 1
     have hnb51 := NB741_726.out
     have hnc51 := NB726_741.out
     have hnb52 := NB741_748.out
     have hnc52 := NB748_741.out
     have hcz53_0 : w38.cell? ⟨gb741, 0, none⟩ = some (.slice Ao25 t734.length co25) := (blk_cell BK741.out 0).trans rfl
     have hcz53_1 : w38.cell? ⟨gb741, 1, none⟩ = some (.slice Ao28 t737.length co28) := (blk_cell BK741.out 1).trans rfl
     have hfz53_0 := blk_frozen BK741.out 0
     have hfz53_1 := blk_frozen BK741.out 1
     go_wp2_with (first | ((with_reducible refine gate_callee (f := 18) rfl ?_); refine zg (some 45) #[.agg #[.slice Ao39 t749.length co39, .slice Ao44 t752.length co44], .agg #[.slice Ao25 t734.length co25, .slice Ao28 t737.length co28]] Try.func18 ?_; (with_reducible refine (laws_eqState.calls k _ _ t749 _ _ t752 _ _ t734 _ _ t737 true _ ?side1 ?side2 ?side3 ?side4 ?side5 ?side6 ?side7 ?side8 A45.out).mono ?_); (case side1 => refine (Kd.R_reads' (e := 68) (base := w.heap.size) (ok := fun k_ => (((True ∧ some k_ ≠ (.slice Ao21 t728.length co21 : Value).ownBlock) ∧ some k_ ≠ (.slice Ao25 t734.length co25 : Value).ownBlock) ∧ some k_ ≠ (.slice Ao32 t742.length co32 : Value).ownBlock)) (n := t749.length) (c := co39) ?_).2.2; exact (zrs <| (Kd.R_mono (zfr (zfr (Kd.R_types HO751.out BK756.out (by decide)))) (fun _ h_ => h_.1)))); (case side2 => exact (Kd.R_reads' HO751.out).2.1); (case side3 => refine (Kd.R_reads' (e := 72) (base := w.heap.size) (ok := fun k_ => (((True ∧ some k_ ≠ (.slice Ao22 t731.length co22 : Value).ownBlock) ∧ some k_ ≠ (.slice Ao28 t737.length co28 : Value).ownBlock) ∧ some k_ ≠ (.slice Ao36 t745.length co36 : Value).ownBlock)) (n := t752.length) (c := co44) ?_).2.2; exact (zrs <| (Kd.R_mono (zfr (zfr (Kd.R_types HO754.out BK756.out (by decide)))) (fun _ h_ => h_.1)))); (case side4 => exact (Kd.R_reads' HO754.out).2.1); (case side5 => refine (Kd.R_reads' (e := 68) (base := w.heap.size) (ok := fun k_ => (((True ∧ some k_ ≠ (.slice Ao21 t728.length co21 : Value).ownBlock) ∧ some k_ ≠ (.slice Ao32 t742.length co32 : Value).ownBlock) ∧ some k_ ≠ (.slice Ao39 t749.length co39 : Value).ownBlock)) (n := t734.length) (c := co25) ?_).2.2; exact (zrs <| (Kd.R_mono (zfr (zfr (Kd.R_types HO736.out BK756.out (by decide)))) (fun _ h_ => h_.1)))); (case side6 => exact (Kd.R_reads' HO736.out).2.1); (case side7 => refine (Kd.R_reads' (e := 72) (base := w.heap.size) (ok := fun k_ => (((True ∧ some k_ ≠ (.slice Ao22 t731.length co22 : Value).ownBlock) ∧ some k_ ≠ (.slice Ao36 t745.length co36 : Value).ownBlock) ∧ some k_ ≠ (.slice Ao44 t752.length co44 : Value).ownBlock)) (n := t737.length) (c := co28) ?_).2.2; exact (zrs <| (Kd.R_mono (zfr (zfr (Kd.R_types HO739.out BK756.out (by decide)))) (fun _ h_ => h_.1)))); (case side8 => exact (Kd.R_reads' HO739.out).2.1); rintro e w54 ⟨rfl, hb⟩; refine ⟨_, rfl, ?_⟩; replace HO730 := zm (Kd.R_below (zrs <| (Kd.R_mono (zfr (zfr (Kd.R_types HO730.out BK756.out (by decide)))) (fun _ h_ => h_.1))) hb); replace HO733 := zm (Kd.R_below (zrs <| (Kd.R_mono (zfr (zfr (Kd.R_types HO733.out BK756.out (by decide)))) (fun _ h_ => h_.1))) hb); replace HO736 := zm (Kd.R_below (zrs <| (Kd.R_mono (zfr (zfr (Kd.R_types HO736.out BK756.out (by decide)))) (fun _ h_ => h_.1))) hb); replace HO739 := zm (Kd.R_below (zrs <| (Kd.R_mono (zfr (zfr (Kd.R_types HO739.out BK756.out (by decide)))) (fun _ h_ => h_.1))) hb); replace HO744 := zm (Kd.R_below (zrs <| (Kd.R_mono (zfr (zfr (Kd.R_types HO744.out BK756.out (by decide)))) (fun _ h_ => h_.1))) hb); replace HO747 := zm (Kd.R_below (zrs <| (Kd.R_mono (zfr (zfr (Kd.R_types HO747.out BK756.out (by decide)))) (fun _ h_ => h_.1))) hb); replace HO751 := zm (Kd.R_below (zrs <| (Kd.R_mono (zfr (zfr (Kd.R_types HO751.out BK756.out (by decide)))) (fun _ h_ => h_.1))) hb); replace HO754 := zm (Kd.R_below (zrs <| (Kd.R_mono (zfr (zfr (Kd.R_types HO754.out BK756.out (by decide)))) (fun _ h_ => h_.1))) hb); replace BK726 := zm (blk_below (g := gb726) (o := .cells #[.slice A0_0 l0_0.length c0_0, .slice A0_1 l0_1.length c0_1] 25 (0, 0)) (zfar (zfar (zb BK726) NB726_756) NB726_756) hb); replace BK741 := zm (blk_below (g := gb741) (o := .cells #[.slice Ao25 t734.length co25, .slice Ao28 t737.length co28] 32 (0, 0)) (zfar (zfar (zb BK741) NB741_756) NB741_756) hb); replace BK748 := zm (blk_below (g := gb748) (o := .cells #[.slice Ao32 t742.length co32, .slice Ao36 t745.length co36] 32 (0, 0)) (zfar (zfar (zb BK748) NB748_756) NB748_756) hb); replace BK756 := zm (blk_below (g := gb756) (o := .cells #[.slice Ao39 t749.length co39, .slice Ao44 t752.length co44] 32 (0, 0)) (zput (zput (zb BK756) 0) 1) hb); replace HB := zm (below_step zB hb); clear hb))
     go_meet
     case rel => exact ⟨_, ((t755 != t740)), zF, H', ⟨by first | omega | exact Nat.le_refl _⟩, ⟨by (with_reducible repeat (first | apply Kd.R_alloc | apply Kd.R_drewN | apply Kd.R_drew)); exact Kd.R_mono HO736.out (fun _ hk => ⟨hk.1.2, hk.2⟩)⟩, ⟨by (with_reducible repeat (first | apply Kd.R_alloc | apply Kd.R_drewN | apply Kd.R_drew)); exact Kd.R_mono HO739.out (fun _ hk => ⟨hk.1.2, hk.2⟩)⟩, ⟨by (with_reducible repeat (first | apply Kd.R_alloc | apply Kd.R_drewN | apply Kd.R_drew)); exact Kd.R_mono HO744.out (fun _ hk => ⟨hk.1.2, hk.2⟩)⟩, ⟨by (with_reducible repeat (first | apply Kd.R_alloc | apply Kd.R_drewN | apply Kd.R_drew)); exact Kd.R_mono HO747.out (fun _ hk => ⟨hk.1.2, hk.2⟩)⟩, ⟨by (with_reducible repeat (first | apply Kd.R_alloc | apply Kd.R_drewN | apply Kd.R_drew)); exact Kd.R_mono HO751.out (fun _ hk => ⟨hk.1.2, hk.2⟩)⟩, ⟨by (with_reducible repeat (first | apply Kd.R_alloc | apply Kd.R_drewN | apply Kd.R_drew)); exact Kd.R_mono HO754.out (fun _ hk => ⟨hk.1.2, hk.2⟩)⟩, ⟨zb BK726⟩, ⟨zb BK741⟩, ⟨zb BK748⟩, ⟨zb BK756⟩, ⟨zB⟩⟩
    ·replace c46 := Bool.eq_false_iff.mpr c46
     subst c46
     have H1 : (laws_FnExactSaySet.j0 k a1 a2 t740 t755 true l0_0 l0_1 t734 t737 t742 t745 t749 t752) = some r := by rw [if_neg (show ¬ (false = true) by decide)] at H; exact H
     clear H
     have H := H1
     clear H1
     have H' := zm H
     clear H
     have hnb55 := NB756_726.out
     have hnc55 := NB726_756.out
     have hnb56 := NB756_741.out
     have hnc56 := NB741_756.out
     have hnb57 := NB756_748.out
     have hnc57 := NB748_756.out
     have hcz58_0 : w38.cell? ⟨gb756, 0, none⟩ = some (.slice none 0 0) := (blk_cell BK756.out 0).trans rfl
     have hcz58_1 : w38.cell? ⟨gb756, 1, none⟩ = some (.slice none 0 0) := (blk_cell BK756.out 1).trans rfl
     have hfz58_0 := blk_frozen BK756.out 0
     have hfz58_1 := blk_frozen BK756.out 1
     have hnb59 := NB741_726.out
     have hnc59 := NB726_741.out
     have hnb60 := NB741_748.out
     have hnc60 := NB748_741.out
     have hcz61_0 : w38.cell? ⟨gb741, 0, none⟩ = some (.slice Ao25 t734.length co25) := (blk_cell BK741.out 0).trans rfl
     have hcz61_1 : w38.cell? ⟨gb741, 1, none⟩ = some (.slice Ao28 t737.length co28) := (blk_cell BK741.out 1).trans rfl
     have hfz61_0 := blk_frozen BK741.out 0
     have hfz61_1 := blk_frozen BK741.out 1
     go_wp2_with (first | ((with_reducible refine gate_callee (f := 18) rfl ?_); refine zg (some 45) #[.agg #[.slice Ao39 t749.length co39, .slice Ao44 t752.length co44], .agg #[.slice Ao25 t734.length co25, .slice Ao28 t737.length co28]] Try.func18 ?_; (with_reducible refine (laws_eqState.calls k _ _ t749 _ _ t752 _ _ t734 _ _ t737 false _ ?side1 ?side2 ?side3 ?side4 ?side5 ?side6 ?side7 ?side8 A45.out).mono ?_); (case side1 => refine (Kd.R_reads' (e := 68) (base := w.heap.size) (ok := fun k_ => (((True ∧ some k_ ≠ (.slice Ao21 t728.length co21 : Value).ownBlock) ∧ some k_ ≠ (.slice Ao25 t734.length co25 : Value).ownBlock) ∧ some k_ ≠ (.slice Ao32 t742.length co32 : Value).ownBlock)) (n := t749.length) (c := co39) ?_).2.2; exact (zrs <| (Kd.R_mono (zfr (zfr (Kd.R_types HO751.out BK756.out (by decide)))) (fun _ h_ => h_.1)))); (case side2 => exact (Kd.R_reads' HO751.out).2.1); (case side3 => refine (Kd.R_reads' (e := 72) (base := w.heap.size) (ok := fun k_ => (((True ∧ some k_ ≠ (.slice Ao22 t731.length co22 : Value).ownBlock) ∧ some k_ ≠ (.slice Ao28 t737.length co28 : Value).ownBlock) ∧ some k_ ≠ (.slice Ao36 t745.length co36 : Value).ownBlock)) (n := t752.length) (c := co44) ?_).2.2; exact (zrs <| (Kd.R_mono (zfr (zfr (Kd.R_types HO754.out BK756.out (by decide)))) (fun _ h_ => h_.1)))); (case side4 => exact (Kd.R_reads' HO754.out).2.1); (case side5 => refine (Kd.R_reads' (e := 68) (base := w.heap.size) (ok := fun k_ => (((True ∧ some k_ ≠ (.slice Ao21 t728.length co21 : Value).ownBlock) ∧ some k_ ≠ (.slice Ao32 t742.length co32 : Value).ownBlock) ∧ some k_ ≠ (.slice Ao39 t749.length co39 : Value).ownBlock)) (n := t734.length) (c := co25) ?_).2.2; exact (zrs <| (Kd.R_mono (zfr (zfr (Kd.R_types HO736.out BK756.out (by decide)))) (fun _ h_ => h_.1)))); (case side6 => exact (Kd.R_reads' HO736.out).2.1); (case side7 => refine (Kd.R_reads' (e := 72) (base := w.heap.size) (ok := fun k_ => (((True ∧ some k_ ≠ (.slice Ao22 t731.length co22 : Value).ownBlock) ∧ some k_ ≠ (.slice Ao36 t745.length co36 : Value).ownBlock) ∧ some k_ ≠ (.slice Ao44 t752.length co44 : Value).ownBlock)) (n := t737.length) (c := co28) ?_).2.2; exact (zrs <| (Kd.R_mono (zfr (zfr (Kd.R_types HO739.out BK756.out (by decide)))) (fun _ h_ => h_.1)))); (case side8 => exact (Kd.R_reads' HO739.out).2.1); rintro e w62 ⟨rfl, hb⟩; refine ⟨_, rfl, ?_⟩; replace HO730 := zm (Kd.R_below (zrs <| (Kd.R_mono (zfr (zfr (Kd.R_types HO730.out BK756.out (by decide)))) (fun _ h_ => h_.1))) hb); replace HO733 := zm (Kd.R_below (zrs <| (Kd.R_mono (zfr (zfr (Kd.R_types HO733.out BK756.out (by decide)))) (fun _ h_ => h_.1))) hb); replace HO736 := zm (Kd.R_below (zrs <| (Kd.R_mono (zfr (zfr (Kd.R_types HO736.out BK756.out (by decide)))) (fun _ h_ => h_.1))) hb); replace HO739 := zm (Kd.R_below (zrs <| (Kd.R_mono (zfr (zfr (Kd.R_types HO739.out BK756.out (by decide)))) (fun _ h_ => h_.1))) hb); replace HO744 := zm (Kd.R_below (zrs <| (Kd.R_mono (zfr (zfr (Kd.R_types HO744.out BK756.out (by decide)))) (fun _ h_ => h_.1))) hb); replace HO747 := zm (Kd.R_below (zrs <| (Kd.R_mono (zfr (zfr (Kd.R_types HO747.out BK756.out (by decide)))) (fun _ h_ => h_.1))) hb); replace HO751 := zm (Kd.R_below (zrs <| (Kd.R_mono (zfr (zfr (Kd.R_types HO751.out BK756.out (by decide)))) (fun _ h_ => h_.1))) hb); replace HO754 := zm (Kd.R_below (zrs <| (Kd.R_mono (zfr (zfr (Kd.R_types HO754.out BK756.out (by decide)))) (fun _ h_ => h_.1))) hb); replace BK726 := zm (blk_below (g := gb726) (o := .cells #[.slice A0_0 l0_0.length c0_0, .slice A0_1 l0_1.length c0_1] 25 (0, 0)) (zfar (zfar (zb BK726) NB726_756) NB726_756) hb); replace BK741 := zm (blk_below (g := gb741) (o := .cells #[.slice Ao25 t734.length co25, .slice Ao28 t737.length co28] 32 (0, 0)) (zfar (zfar (zb BK741) NB741_756) NB741_756) hb); replace BK748 := zm (blk_below (g := gb748) (o := .cells #[.slice Ao32 t742.length co32, .slice Ao36 t745.length co36] 32 (0, 0)) (zfar (zfar (zb BK748) NB748_756) NB748_756) hb); replace BK756 := zm (blk_below (g := gb756) (o := .cells #[.slice Ao39 t749.length co39, .slice Ao44 t752.length co44] 32 (0, 0)) (zput (zput (zb BK756) 0) 1) hb); replace HB := zm (below_step zB hb); clear hb))
     go_meet
     case rel => exact ⟨_, (true), zF, H', ⟨by first | omega | exact Nat.le_refl _⟩, ⟨by (with_reducible repeat (first | apply Kd.R_alloc | apply Kd.R_drewN | apply Kd.R_drew)); exact Kd.R_mono HO736.out (fun _ hk => ⟨hk.1.2, hk.2⟩)⟩, ⟨by (with_reducible repeat (first | apply Kd.R_alloc | apply Kd.R_drewN | apply Kd.R_drew)); exact Kd.R_mono HO739.out (fun _ hk => ⟨hk.1.2, hk.2⟩)⟩, ⟨by (with_reducible repeat (first | apply Kd.R_alloc | apply Kd.R_drewN | apply Kd.R_drew)); exact Kd.R_mono HO744.out (fun _ hk => ⟨hk.1.2, hk.2⟩)⟩, ⟨by (with_reducible repeat (first | apply Kd.R_alloc | apply Kd.R_drewN | apply Kd.R_drew)); exact Kd.R_mono HO747.out (fun _ hk => ⟨hk.1.2, hk.2⟩)⟩, ⟨by (with_reducible repeat (first | apply Kd.R_alloc | apply Kd.R_drewN | apply Kd.R_drew)); exact Kd.R_mono HO751.out (fun _ hk => ⟨hk.1.2, hk.2⟩)⟩, ⟨by (with_reducible repeat (first | apply Kd.R_alloc | apply Kd.R_drewN | apply Kd.R_drew)); exact Kd.R_mono HO754.out (fun _ hk => ⟨hk.1.2, hk.2⟩)⟩, ⟨zb BK726⟩, ⟨zb BK741⟩, ⟨zb BK748⟩, ⟨zb BK756⟩, ⟨zB⟩⟩
   case rest =>
    clear HC15
    try clear c1
    try clear c2
    try clear p2
    try clear c3
    try clear c4
    try clear c4b0
    try clear c4b1
    try clear c5
    try clear c6
    try clear c7
    try clear c7b0
    try clear c13
    try clear c15
    try clear c18
    try clear c26
    try clear c29
    try clear c30
    try clear c33
    try clear c34
    try clear c40
    try clear c41
    try clear c42
    try clear c46
    try clear c47
    try clear c48
    try clear c49
    try clear c51
    try clear c52
    try clear c55
    try clear c56
    try clear c57
    try clear c59
    try clear c60
    try clear hcz17_0
    try clear hcz17_1
    try clear hcz19_0
    try clear hcz19_1
    try clear hcz27_0
    try clear hcz27_1
    try clear hcz29_0
    try clear hcz29_1
    try clear hcz35_0
    try clear hcz35_1
    try clear hcz43_0
    try clear hcz43_1
    try clear hcz50_0
    try clear hcz50_1
    try clear hcz53_0
    try clear hcz53_1
    try clear hcz58_0
    try clear hcz58_1
    try clear hcz61_0
    try clear hcz61_1
    try clear hcz9_0
    try clear hcz9_1
    try clear hfz17_0
    try clear hfz17_1
    try clear hfz19_0
    try clear hfz19_1
    try clear hfz27_0
    try clear hfz27_1
    try clear hfz29_0
    try clear hfz29_1
    try clear hfz35_0
    try clear hfz35_1
    try clear hfz43_0
    try clear hfz43_1
    try clear hfz50_0
    try clear hfz50_1
    try clear hfz53_0
    try clear hfz53_1
    try clear hfz58_0
    try clear hfz58_1
    try clear hfz61_0
    try clear hfz61_1
    try clear hfz9_0
    try clear hfz9_1
    obtain ⟨kq, x51_14, rfl, HA, HJ14, HO_742000, HO_742001, HO_749000, HO_749001, HO_757000, HO_757001, BK726, BK741, BK748, BK756, HB⟩ := hcut
    cases kq with
    | zero => exact absurd HA.out (by simp [laws_FnExactSaySet.j0])
    | succ kj14 =>
     have H := HA.out
     clear HA
     simp only [laws_FnExactSaySet.j0] at H
     by_cases c63 : x51_14 = true
     ·subst c63
      have H1 : (some false) = some r := by rw [if_pos rfl] at H; exact H
      clear H
      have H := H1
      clear H1
      obtain rfl := Option.some.inj H
      go_wp2
      go_ret
      exact ⟨zE, zB⟩
     ·replace c63 := Bool.eq_false_iff.mpr c63
      subst c63
      have H1 : ((laws_toState.f kj14 l0_0 l0_1).bind fun bt758 => ((laws_eqState.f kj14 t742 t745 bt758.1 bt758.2).bind fun t764 => (if t764 = true then ((laws_markState.f kj14 t742 t745 1).bind fun bt765 => (if bt765.1 < 0 then (laws_FnExactSaySet.j1 kj14 a1 a2 t740 true l0_0 l0_1 t734 t737 t749 t752) else ((laws_eqState.f kj14 t749 t752 t734 t737).bind fun t768 => (if t768 = true then (laws_FnExactSaySet.j1 kj14 a1 a2 t740 (t755 != t740) l0_0 l0_1 t734 t737 t749 t752) else (laws_FnExactSaySet.j1 kj14 a1 a2 t740 true l0_0 l0_1 t734 t737 t749 t752))))) else (some false)))) = some r := by rw [if_neg (show ¬ (false = true) by decide)] at H; exact H
      clear H
      have H := H1
      clear H1
      replace H := Option.bind_eq_some_iff.mp H
      obtain ⟨⟨t758, t761⟩, A640, H⟩ := H
      replace H : ((laws_eqState.f kj14 t742 t745 t758 t761).bind fun t764 => (if t764 = true then ((laws_markState.f kj14 t742 t745 1).bind fun bt765 => (if bt765.1 < 0 then (laws_FnExactSaySet.j1 kj14 a1 a2 t740 true l0_0 l0_1 t734 t737 t749 t752) else ((laws_eqState.f kj14 t749 t752 t734 t737).bind fun t768 => (if t768 = true then (laws_FnExactSaySet.j1 kj14 a1 a2 t740 (t755 != t740) l0_0 l0_1 t734 t737 t749 t752) else (laws_FnExactSaySet.j1 kj14 a1 a2 t740 true l0_0 l0_1 t734 t737 t749 t752))))) else (some false))) = some r := H
      have A64 := zm A640
      clear A640
      replace H := Option.bind_eq_some_iff.mp H
      obtain ⟨t764, A650, H⟩ := H
      replace H : (if t764 = true then ((laws_markState.f kj14 t742 t745 1).bind fun bt765 => (if bt765.1 < 0 then (laws_FnExactSaySet.j1 kj14 a1 a2 t740 true l0_0 l0_1 t734 t737 t749 t752) else ((laws_eqState.f kj14 t749 t752 t734 t737).bind fun t768 => (if t768 = true then (laws_FnExactSaySet.j1 kj14 a1 a2 t740 (t755 != t740) l0_0 l0_1 t734 t737 t749 t752) else (laws_FnExactSaySet.j1 kj14 a1 a2 t740 true l0_0 l0_1 t734 t737 t749 t752))))) else (some false)) = some r := H
      have A65 := zm A650
      clear A650
      by_cases c66 : t764 = true
      ·subst c66
       have H1 : ((laws_markState.f kj14 t742 t745 1).bind fun bt765 => (if bt765.1 < 0 then (laws_FnExactSaySet.j1 kj14 a1 a2 t740 true l0_0 l0_1 t734 t737 t749 t752) else ((laws_eqState.f kj14 t749 t752 t734 t737).bind fun t768 => (if t768 = true then (laws_FnExactSaySet.j1 kj14 a1 a2 t740 (t755 != t740) l0_0 l0_1 t734 t737 t749 t752) else (laws_FnExactSaySet.j1 kj14 a1 a2 t740 true l0_0 l0_1 t734 t737 t749 t752))))) = some r := by rw [if_pos rfl] at H; exact H
       clear H
       have H := H1
       clear H1
       replace H := Option.bind_eq_some_iff.mp H
       obtain ⟨⟨t765, t766, t767⟩, A670, H⟩ := H
       replace H : (if t765 < 0 then (laws_FnExactSaySet.j1 kj14 a1 a2 t740 true l0_0 l0_1 t734 t737 t749 t752) else ((laws_eqState.f kj14 t749 t752 t734 t737).bind fun t768 => (if t768 = true then (laws_FnExactSaySet.j1 kj14 a1 a2 t740 (t755 != t740) l0_0 l0_1 t734 t737 t749 t752) else (laws_FnExactSaySet.j1 kj14 a1 a2 t740 true l0_0 l0_1 t734 t737 t749 t752)))) = some r := H
       have A67 := zm A670
       clear A670
       have HC68 := zm H
       clear H
       try go_wp2
       replace HO_742000 := zm (Kd.R_drew HO_742000.out)
       replace HO_742001 := zm (Kd.R_drew HO_742001.out)
       replace HO_749000 := zm (Kd.R_drew HO_749000.out)
       replace HO_749001 := zm (Kd.R_drew HO_749001.out)
       replace HO_757000 := zm (Kd.R_drew HO_757000.out)
       replace HO_757001 := zm (Kd.R_drew HO_757001.out)
       replace BK726 := zm (blk_drew BK726.out)
       replace BK741 := zm (blk_drew BK741.out)
       replace BK748 := zm (blk_drew BK748.out)
       replace BK756 := zm (blk_drew BK756.out)
       replace HB := zm (below_drew1 HB.out)
       refine start_ (n := 5) (S := fun w' => w'.cell? ⟨gb748, 0, none⟩ = some (.slice Ao32 t742.length co32) ∧ w'.cell? ⟨gb748, 1, none⟩ = some (.slice Ao36 t745.length co36) ∧ w'.cell? ⟨gb726, 0, none⟩ = some (.slice A0_0 l0_0.length c0_0) ∧ w'.cell? ⟨gb726, 1, none⟩ = some (.slice A0_1 l0_1.length c0_1)) (ds := []) (zl 5 0) (by kernel_rfl) rfl rfl ⟨(blk_cell BK748.out 0).trans rfl, (blk_cell BK748.out 1).trans rfl, (blk_cell BK726.out 0).trans rfl, (blk_cell BK726.out 1).trans rfl⟩ (fun hHeld => ?_)
       generalize wc.drew = w69 at HO_742000 HO_742001 HO_749000 HO_749001 HO_757000 HO_757001 BK726 BK741 BK748 BK756 HB hHeld ⊢
       refine zt 0 (some 52) (zl 5 1) ?_
       refine zt 1 (some 53) (zl 5 3) ?_
       refine zo 2 (some 54) (zl 5 7) (fun K hK => ?_)
       refine zgo #[.agg #[.slice A0_0 l0_0.length c0_0, .slice A0_1 l0_1.length c0_1]] Try.func15 ?_
       with_reducible refine (laws_toState.calls kj14 _ _ l0_0 _ _ l0_1 t758 t761 _ (zk (Kd.C_below HR0_0.out HB.out)) HC0_0.out (zk (Kd.C_below HR0_1.out HB.out)) HC0_1.out A64.out).mono ?_
       rintro e w70 ⟨v759, v762, rfl, ho0, ho1, hb⟩
       refine ⟨_, rfl, ?_⟩
       have HO760 := zm (Kd.R_lower (Kd.R_new' (Kd.R_new' (Kd.R_new' ho0 (Kd.R_lt (zr HO_742000))) (Kd.R_lt (zr HO_749000))) (Kd.R_lt (zr HO_757000))) (below_size zB))
       replace HO_742000 := zm (Kd.R_elder' (zr HO_742000) (Kd.R_base ho0) hb)
       replace HO_749000 := zm (Kd.R_elder' (zr HO_749000) (Kd.R_base ho0) hb)
       replace HO_757000 := zm (Kd.R_elder' (zr HO_757000) (Kd.R_base ho0) hb)
       have HO763 := zm (Kd.R_lower (Kd.R_new' (Kd.R_new' (Kd.R_new' ho1 (Kd.R_lt (zr HO_742001))) (Kd.R_lt (zr HO_749001))) (Kd.R_lt (zr HO_757001))) (below_size zB))
       replace HO_742001 := zm (Kd.R_elder' (zr HO_742001) (Kd.R_base ho1) hb)
       replace HO_749001 := zm (Kd.R_elder' (zr HO_749001) (Kd.R_base ho1) hb)
       replace HO_757001 := zm (Kd.R_elder' (zr HO_757001) (Kd.R_base ho1) hb)
       replace BK726 := zm (blk_below (zb BK726) hb)
       replace BK741 := zm (blk_below (zb BK741) hb)
       replace BK748 := zm (blk_below (zb BK748) hb)
       replace BK756 := zm (blk_below (zb BK756) hb)
       replace HB := zm (below_step zB hb)
       (try clear hb)
       (try clear hb2)
       (try clear hk)
       (try clear hi)
       (try clear ho0)
       (try clear ho1)
       obtain ⟨Ao71, co71, eo71⟩ := Kd.R_slice HO760.out
       (first | subst eo71 | (injection eo71 with f1_ f2_ f3_; have f4_ := f1_.symm; have f5_ := f3_.symm; clear f1_ f2_ f3_; subst f4_; subst f5_))
       obtain ⟨Ao72, co72, eo72⟩ := Kd.R_slice HO763.out
       (first | subst eo72 | (injection eo72 with f1_ f2_ f3_; have f4_ := f1_.symm; have f5_ := f3_.symm; clear f1_ f2_ f3_; subst f4_; subst f5_))
       refine hK.out _ _ ⟨(blk_cell BK748.out 0).trans rfl, (blk_cell BK748.out 1).trans rfl, (blk_cell BK726.out 0).trans rfl, (blk_cell BK726.out 1).trans rfl⟩ (fun hHeld => ?_)
       clear hK K
       refine zn ?_
       refine zo 3 (some 55) (zl 5 15) (fun K hK => ?_)
       refine zgo #[.agg #[.slice Ao32 t742.length co32, .slice Ao36 t745.length co36], .agg #[.slice Ao71 t758.length co71, .slice Ao72 t761.length co72]] Try.func18 ?_
       with_reducible refine (laws_eqState.calls kj14 _ _ t742 _ _ t745 _ _ t758 _ _ t761 true _ ?side1 ?side2 ?side3 ?side4 ?side5 ?side6 ?side7 ?side8 A65.out).mono ?_
       (case side1 => repeat (first | exact (Kd.R_reads' HO_749000.out).2.2 | (with_reducible refine Kd.C_alloc ?_ _) | (with_reducible refine Kd.C_drewN ?_ _) | (with_reducible refine Kd.C_drew ?_)))
       (case side2 => exact (Kd.R_reads' HO_749000.out).2.1)
       (case side3 => repeat (first | exact (Kd.R_reads' HO_749001.out).2.2 | (with_reducible refine Kd.C_alloc ?_ _) | (with_reducible refine Kd.C_drewN ?_ _) | (with_reducible refine Kd.C_drew ?_)))
       (case side4 => exact (Kd.R_reads' HO_749001.out).2.1)
       (case side5 => repeat (first | exact (Kd.R_reads' HO760.out).2.2 | (with_reducible refine Kd.C_alloc ?_ _) | (with_reducible refine Kd.C_drewN ?_ _) | (with_reducible refine Kd.C_drew ?_)))
       (case side6 => exact (Kd.R_reads' HO760.out).2.1)
       (case side7 => repeat (first | exact (Kd.R_reads' HO763.out).2.2 | (with_reducible refine Kd.C_alloc ?_ _) | (with_reducible refine Kd.C_drewN ?_ _) | (with_reducible refine Kd.C_drew ?_)))
       (case side8 => exact (Kd.R_reads' HO763.out).2.1)
       rintro e w73 ⟨rfl, hb⟩
       refine ⟨_, rfl, ?_⟩
       replace HO_742000 := zm (Kd.R_below (zr HO_742000) hb)
       replace HO_742001 := zm (Kd.R_below (zr HO_742001) hb)
       replace HO_749000 := zm (Kd.R_below (zr HO_749000) hb)
       replace HO_749001 := zm (Kd.R_below (zr HO_749001) hb)
       replace HO_757000 := zm (Kd.R_below (zr HO_757000) hb)
       replace HO_757001 := zm (Kd.R_below (zr HO_757001) hb)
       replace HO760 := zm (Kd.R_below (zr HO760) hb)
       replace HO763 := zm (Kd.R_below (zr HO763) hb)
       replace BK726 := zm (blk_below (zb BK726) hb)
       replace BK741 := zm (blk_below (zb BK741) hb)
       replace BK748 := zm (blk_below (zb BK748) hb)
       replace BK756 := zm (blk_below (zb BK756) hb)
       replace HB := zm (below_step zB hb)
       (try clear hb)
       (try clear hb2)
       (try clear hk)
       (try clear hi)
       refine hK.out _ _ ⟨(blk_cell BK748.out 0).trans rfl, (blk_cell BK748.out 1).trans rfl, (blk_cell BK726.out 0).trans rfl, (blk_cell BK726.out 1).trans rfl⟩ (fun hHeld => ?_)
       clear hK K
       refine zn ?_
       refine zp 4 (some 56) (zl 5 31) ?_
       refine done_ (by kernel_rfl) ?_
       have hnb74 := NB748_726.out
       have hnc74 := NB726_748.out
       have hnb75 := NB748_741.out
       have hnc75 := NB741_748.out
       have hnb76 := NB748_756.out
       have hnc76 := NB756_748.out
       have hcz77_0 : w73.cell? ⟨gb748, 0, none⟩ = some (.slice Ao32 t742.length co32) := (blk_cell BK748.out 0).trans rfl
       have hcz77_1 : w73.cell? ⟨gb748, 1, none⟩ = some (.slice Ao36 t745.length co36) := (blk_cell BK748.out 1).trans rfl
       have hfz77_0 := blk_frozen BK748.out 0
       have hfz77_1 := blk_frozen BK748.out 1
       go_upto_region 16 with (first | ((with_reducible refine gate_callee (f := 19) rfl ?_); refine zg (some 59) #[.agg #[.slice Ao32 t742.length co32, .slice Ao36 t745.length co36], .int .i64 1] Try.func19 ?_; (with_reducible refine (laws_markState.calls kj14 (fun k_ => some k_ = (.slice Ao32 t742.length co32 : Value).ownBlock) (.slice Ao32 t742.length co32) t742 (fun k_ => some k_ = (.slice Ao36 t745.length co36 : Value).ownBlock) (.slice Ao36 t745.length co36) t745 1 t765 t766 t767 w _ zB ?side2 ?side3 A67.out).mono ?_); (case side2 => exact Kd.R_tight rfl HO_749000.out); (case side3 => exact Kd.R_tight rfl HO_749001.out); rintro e w78 ⟨rfl, hy0, hy1, hb, hkp⟩; refine ⟨_, rfl, ?_⟩; replace HO_742000 := zm (Kd.R_mono (ok' := fun k_ => some k_ ≠ (.slice Ao32 t742.length co32 : Value).ownBlock ∧ some k_ ≠ (.slice Ao39 t749.length co39 : Value).ownBlock ∧ some k_ ≠ (.slice Ao71 t758.length co71 : Value).ownBlock) (Kd.R_keptB ((Kd.R_apart' HO_742000.out (Kd.R_typed HO_749001.out) (by decide))) hkp (fun k_ hk_ hs_ => Or.elim hs_ (fun e_ => (hk_.1.1.1) e_) (fun e_ => (hk_.2) e_))) (fun k_ hk_ => ⟨hk_.1.1.1.1, hk_.1.1.1.2, hk_.1.1.2⟩)); replace HO_742001 := zm (Kd.R_mono (ok' := fun k_ => some k_ ≠ (.slice Ao36 t745.length co36 : Value).ownBlock ∧ some k_ ≠ (.slice Ao44 t752.length co44 : Value).ownBlock ∧ some k_ ≠ (.slice Ao72 t761.length co72 : Value).ownBlock) (Kd.R_keptB ((Kd.R_apart' HO_742001.out (Kd.R_typed HO_749000.out) (by decide))) hkp (fun k_ hk_ hs_ => Or.elim hs_ (fun e_ => (hk_.2) e_) (fun e_ => (hk_.1.1.1) e_))) (fun k_ hk_ => ⟨hk_.1.1.1.1, hk_.1.1.1.2, hk_.1.1.2⟩)); replace HO_757000 := zm (Kd.R_mono (ok' := fun k_ => some k_ ≠ (.slice Ao25 t734.length co25 : Value).ownBlock ∧ some k_ ≠ (.slice Ao32 t742.length co32 : Value).ownBlock ∧ some k_ ≠ (.slice Ao71 t758.length co71 : Value).ownBlock) (Kd.R_keptB ((Kd.R_apart' HO_757000.out (Kd.R_typed HO_749001.out) (by decide))) hkp (fun k_ hk_ hs_ => Or.elim hs_ (fun e_ => (hk_.1.1.2) e_) (fun e_ => (hk_.2) e_))) (fun k_ hk_ => ⟨hk_.1.1.1.1, hk_.1.1.1.2, hk_.1.1.2⟩)); replace HO_757001 := zm (Kd.R_mono (ok' := fun k_ => some k_ ≠ (.slice Ao28 t737.length co28 : Value).ownBlock ∧ some k_ ≠ (.slice Ao36 t745.length co36 : Value).ownBlock ∧ some k_ ≠ (.slice Ao72 t761.length co72 : Value).ownBlock) (Kd.R_keptB ((Kd.R_apart' HO_757001.out (Kd.R_typed HO_749000.out) (by decide))) hkp (fun k_ hk_ hs_ => Or.elim hs_ (fun e_ => (hk_.2) e_) (fun e_ => (hk_.1.1.2) e_))) (fun k_ hk_ => ⟨hk_.1.1.1.1, hk_.1.1.1.2, hk_.1.1.2⟩)); replace BK726 := zm (blk_kept (zb BK726) hkp (fun hs_ => Or.elim hs_ (fun e_ => (fun e_ => (Kd.R_ne HO_749000.out BK726.out (by decide)) e_) e_) (fun e_ => (fun e_ => (Kd.R_ne HO_749001.out BK726.out (by decide)) e_) e_))); replace BK741 := zm (blk_kept (zb BK741) hkp (fun hs_ => Or.elim hs_ (fun e_ => (fun e_ => (Kd.R_ne HO_749000.out BK741.out (by decide)) e_) e_) (fun e_ => (fun e_ => (Kd.R_ne HO_749001.out BK741.out (by decide)) e_) e_))); replace BK748 := zm (blk_kept (zb BK748) hkp (fun hs_ => Or.elim hs_ (fun e_ => (fun e_ => (Kd.R_ne HO_749000.out BK748.out (by decide)) e_) e_) (fun e_ => (fun e_ => (Kd.R_ne HO_749001.out BK748.out (by decide)) e_) e_))); replace BK756 := zm (blk_kept (zb BK756) hkp (fun hs_ => Or.elim hs_ (fun e_ => (fun e_ => (Kd.R_ne HO_749000.out BK756.out (by decide)) e_) e_) (fun e_ => (fun e_ => (Kd.R_ne HO_749001.out BK756.out (by decide)) e_) e_))); replace HO760 := zm (Kd.R_mono (ok' := fun k_ => some k_ ≠ (.slice Ao25 t734.length co25 : Value).ownBlock ∧ some k_ ≠ (.slice Ao32 t742.length co32 : Value).ownBlock ∧ some k_ ≠ (.slice Ao39 t749.length co39 : Value).ownBlock) (Kd.R_keptB ((Kd.R_apart' HO760.out (Kd.R_typed HO_749001.out) (by decide))) hkp (fun k_ hk_ hs_ => Or.elim hs_ (fun e_ => (hk_.1.1.2) e_) (fun e_ => (hk_.2) e_))) (fun k_ hk_ => ⟨hk_.1.1.1.1.2, hk_.1.1.1.2, hk_.1.1.2⟩)); replace HO_749001 := zm (Kd.R_reok rfl hy1 (fun k_ e_ => HO_749001.out.1 k_ e_)); replace HO763 := zm (Kd.R_mono (ok' := fun k_ => some k_ ≠ (.slice Ao28 t737.length co28 : Value).ownBlock ∧ some k_ ≠ (.slice Ao36 t745.length co36 : Value).ownBlock ∧ some k_ ≠ (.slice Ao44 t752.length co44 : Value).ownBlock) (Kd.R_keptB ((Kd.R_apart' HO763.out (Kd.R_typed HO_749000.out) (by decide))) hkp (fun k_ hk_ hs_ => Or.elim hs_ (fun e_ => (hk_.2) e_) (fun e_ => (hk_.1.1.2) e_))) (fun k_ hk_ => ⟨hk_.1.1.1.1.2, hk_.1.1.1.2, hk_.1.1.2⟩)); replace HO_749000 := zm (Kd.R_reok rfl hy0 (fun k_ e_ => HO_749000.out.1 k_ e_)); replace HB := zm (hb); clear hb hkp hy0; (try clear hy1)))
       (try simp only [Act.put, List.setIfInBounds_toArray, List.set_cons_zero, List.set_cons_succ])
       go_cut [72] (fun v72 wc => ∃ (kq : Nat) (x72_67 : Bool), v72 = .bool x72_67 ∧ Aside0 (laws_FnExactSaySet.j1 kq a1 a2 t740 x72_67 l0_0 l0_1 t734 t737 t749 t752 = some r) ∧ Aside0 (kq ≤ kj14) ∧ Aside0 (Kd.R k68 68 wc w.heap.size (fun k_ => some k_ ≠ ((.slice Ao32 t742.length co32) : Value).ownBlock ∧ some k_ ≠ ((.slice Ao39 t749.length co39) : Value).ownBlock) (.slice Ao25 t734.length co25) t734) ∧ Aside0 (Kd.R k72 72 wc w.heap.size (fun k_ => some k_ ≠ ((.slice Ao36 t745.length co36) : Value).ownBlock ∧ some k_ ≠ ((.slice Ao44 t752.length co44) : Value).ownBlock) (.slice Ao28 t737.length co28) t737) ∧ Aside0 (Kd.R k68 68 wc w.heap.size (fun k_ => some k_ ≠ ((.slice Ao25 t734.length co25) : Value).ownBlock ∧ some k_ ≠ ((.slice Ao39 t749.length co39) : Value).ownBlock) (.slice Ao32 t742.length co32) t766) ∧ Aside0 (Kd.R k72 72 wc w.heap.size (fun k_ => some k_ ≠ ((.slice Ao28 t737.length co28) : Value).ownBlock ∧ some k_ ≠ ((.slice Ao44 t752.length co44) : Value).ownBlock) (.slice Ao36 t745.length co36) t767) ∧ Aside0 (Kd.R k68 68 wc w.heap.size (fun k_ => some k_ ≠ ((.slice Ao25 t734.length co25) : Value).ownBlock ∧ some k_ ≠ ((.slice Ao32 t742.length co32) : Value).ownBlock) (.slice Ao39 t749.length co39) t749) ∧ Aside0 (Kd.R k72 72 wc w.heap.size (fun k_ => some k_ ≠ ((.slice Ao28 t737.length co28) : Value).ownBlock ∧ some k_ ≠ ((.slice Ao36 t745.length co36) : Value).ownBlock) (.slice Ao44 t752.length co44) t752) ∧ Aside0 (wc.heap[gb726]? = some (.cells #[(.slice A0_0 l0_0.length c0_0), (.slice A0_1 l0_1.length c0_1)] 25 (0, 0))) ∧ Aside0 (wc.heap[gb741]? = some (.cells #[(.slice Ao25 t734.length co25), (.slice Ao28 t737.length co28)] 32 (0, 0))) ∧ Aside0 (wc.heap[gb748]? = some (.cells #[(.slice Ao32 t742.length co32), (.slice Ao36 t745.length co36)] 32 (0, 0))) ∧ Aside0 (wc.heap[gb756]? = some (.cells #[(.slice Ao39 t749.length co39), (.slice Ao44 t752.length co44)] 32 (0, 0))) ∧ Aside0 (Below w.heap.size w wc))
       case first =>
        have H := HC68.out
        clear HC68
        by_cases c79 : t765 < 0
        ·rw [if_pos c79] at H
         have c79b0 : decide (t765 < 0) = true := decide_eq_true c79
         clear c79
         (first | rw [c79b0] | (simp only [i64_w, i32_w]; rw [c79b0]) | skip)
         have H' := zm H
         clear H
         go_wp2
         go_meet
         case rel => exact ⟨_, (true), zF, H', ⟨by have := HJ14.out; first | omega | exact Nat.le_refl _⟩, ⟨by (with_reducible repeat (first | apply Kd.R_alloc | apply Kd.R_drewN | apply Kd.R_drew)); exact Kd.R_mono HO_742000.out (fun _ hk => ⟨hk.1, hk.2.1⟩)⟩, ⟨by (with_reducible repeat (first | apply Kd.R_alloc | apply Kd.R_drewN | apply Kd.R_drew)); exact Kd.R_mono HO_742001.out (fun _ hk => ⟨hk.1, hk.2.1⟩)⟩, ⟨by (with_reducible repeat (first | apply Kd.R_alloc | apply Kd.R_drewN | apply Kd.R_drew)); exact Kd.R_mono HO_749000.out (fun _ hk => ⟨hk.1.1, hk.1.2⟩)⟩, ⟨by (with_reducible repeat (first | apply Kd.R_alloc | apply Kd.R_drewN | apply Kd.R_drew)); exact Kd.R_mono HO_749001.out (fun _ hk => ⟨hk.1.1, hk.1.2⟩)⟩, ⟨by (with_reducible repeat (first | apply Kd.R_alloc | apply Kd.R_drewN | apply Kd.R_drew)); exact Kd.R_mono HO_757000.out (fun _ hk => ⟨hk.1, hk.2.1⟩)⟩, ⟨by (with_reducible repeat (first | apply Kd.R_alloc | apply Kd.R_drewN | apply Kd.R_drew)); exact Kd.R_mono HO_757001.out (fun _ hk => ⟨hk.1, hk.2.1⟩)⟩, ⟨zb BK726⟩, ⟨zb BK741⟩, ⟨zb BK748⟩, ⟨zb BK756⟩, ⟨zB⟩⟩
        ·rw [if_neg c79] at H
         have c79b0 : decide (t765 < 0) = false := decide_eq_false c79
         clear c79
         (first | rw [c79b0] | (simp only [i64_w, i32_w]; rw [c79b0]) | skip)
         replace H := Option.bind_eq_some_iff.mp H
         obtain ⟨t768, A800, H⟩ := H
         replace H : (if t768 = true then (laws_FnExactSaySet.j1 kj14 a1 a2 t740 (t755 != t740) l0_0 l0_1 t734 t737 t749 t752) else (laws_FnExactSaySet.j1 kj14 a1 a2 t740 true l0_0 l0_1 t734 t737 t749 t752)) = some r := H
         have A80 := zm A800
         clear A800
         by_cases c81 : t768 = true
         ·subst c81
          have H1 : (laws_FnExactSaySet.j1 kj14 a1 a2 t740 (t755 != t740) l0_0 l0_1 t734 t737 t749 t752) = some r := by rw [if_pos rfl] at H; exact H
          clear H
          have H := H1
          clear H1
          have H' := zm H
          clear H
          have hnb82 := NB756_726.out
          have hnc82 := NB726_756.out
          have hnb83 := NB756_741.out
          have hnc83 := NB741_756.out
          have hnb84 := NB756_748.out
          have hnc84 := NB748_756.out
          have hcz85_0 : w78.cell? ⟨gb756, 0, none⟩ = some (.slice Ao39 t749.length co39) := (blk_cell BK756.out 0).trans rfl
          have hcz85_1 : w78.cell? ⟨gb756, 1, none⟩ = some (.slice Ao44 t752.length co44) := (blk_cell BK756.out 1).trans rfl
          have hfz85_0 := blk_frozen BK756.out 0
          have hfz85_1 := blk_frozen BK756.out 1
          have hnb86 := NB741_726.out
          have hnc86 := NB726_741.out
          have hnb87 := NB741_748.out
          have hnc87 := NB748_741.out
          have hcz88_0 : w78.cell? ⟨gb741, 0, none⟩ = some (.slice Ao25 t734.length co25) := (blk_cell BK741.out 0).trans rfl
          have hcz88_1 : w78.cell? ⟨gb741, 1, none⟩ = some (.slice Ao28 t737.length co28) := (blk_cell BK741.out 1).trans rfl
          have hfz88_0 := blk_frozen BK741.out 0
          have hfz88_1 := blk_frozen BK741.out 1
          go_wp2_with (first | (go_at_call 18; (with_reducible refine (laws_eqState.calls kj14 _ _ t749 _ _ t752 _ _ t734 _ _ t737 true _ ?side1 ?side2 ?side3 ?side4 ?side5 ?side6 ?side7 ?side8 A80.out).mono ?_); (case side1 => repeat (first | exact (Kd.R_reads' HO_757000.out).2.2 | (with_reducible refine Kd.C_alloc ?_ _) | (with_reducible refine Kd.C_drewN ?_ _) | (with_reducible refine Kd.C_drew ?_))); (case side2 => exact (Kd.R_reads' HO_757000.out).2.1); (case side3 => repeat (first | exact (Kd.R_reads' HO_757001.out).2.2 | (with_reducible refine Kd.C_alloc ?_ _) | (with_reducible refine Kd.C_drewN ?_ _) | (with_reducible refine Kd.C_drew ?_))); (case side4 => exact (Kd.R_reads' HO_757001.out).2.1); (case side5 => repeat (first | exact (Kd.R_reads' HO_742000.out).2.2 | (with_reducible refine Kd.C_alloc ?_ _) | (with_reducible refine Kd.C_drewN ?_ _) | (with_reducible refine Kd.C_drew ?_))); (case side6 => exact (Kd.R_reads' HO_742000.out).2.1); (case side7 => repeat (first | exact (Kd.R_reads' HO_742001.out).2.2 | (with_reducible refine Kd.C_alloc ?_ _) | (with_reducible refine Kd.C_drewN ?_ _) | (with_reducible refine Kd.C_drew ?_))); (case side8 => exact (Kd.R_reads' HO_742001.out).2.1); rintro e w89 ⟨rfl, hb⟩; replace HO_742000 := zm (Kd.R_below (zr HO_742000) hb); replace HO_742001 := zm (Kd.R_below (zr HO_742001) hb); replace HO_749000 := zm (Kd.R_below (zr HO_749000) hb); replace HO_749001 := zm (Kd.R_below (zr HO_749001) hb); replace HO_757000 := zm (Kd.R_below (zr HO_757000) hb); replace HO_757001 := zm (Kd.R_below (zr HO_757001) hb); replace HO760 := zm (Kd.R_below (zr HO760) hb); replace HO763 := zm (Kd.R_below (zr HO763) hb); replace BK726 := zm (blk_below (zb BK726) hb); replace BK741 := zm (blk_below (zb BK741) hb); replace BK748 := zm (blk_below (zb BK748) hb); replace BK756 := zm (blk_below (zb BK756) hb); replace HB := zm (below_step zB hb); clear hb))
          go_meet
          case rel => exact ⟨_, ((t755 != t740)), zF, H', ⟨by have := HJ14.out; first | omega | exact Nat.le_refl _⟩, ⟨by (with_reducible repeat (first | apply Kd.R_alloc | apply Kd.R_drewN | apply Kd.R_drew)); exact Kd.R_mono HO_742000.out (fun _ hk => ⟨hk.1, hk.2.1⟩)⟩, ⟨by (with_reducible repeat (first | apply Kd.R_alloc | apply Kd.R_drewN | apply Kd.R_drew)); exact Kd.R_mono HO_742001.out (fun _ hk => ⟨hk.1, hk.2.1⟩)⟩, ⟨by (with_reducible repeat (first | apply Kd.R_alloc | apply Kd.R_drewN | apply Kd.R_drew)); exact Kd.R_mono HO_749000.out (fun _ hk => ⟨hk.1.1, hk.1.2⟩)⟩, ⟨by (with_reducible repeat (first | apply Kd.R_alloc | apply Kd.R_drewN | apply Kd.R_drew)); exact Kd.R_mono HO_749001.out (fun _ hk => ⟨hk.1.1, hk.1.2⟩)⟩, ⟨by (with_reducible repeat (first | apply Kd.R_alloc | apply Kd.R_drewN | apply Kd.R_drew)); exact Kd.R_mono HO_757000.out (fun _ hk => ⟨hk.1, hk.2.1⟩)⟩, ⟨by (with_reducible repeat (first | apply Kd.R_alloc | apply Kd.R_drewN | apply Kd.R_drew)); exact Kd.R_mono HO_757001.out (fun _ hk => ⟨hk.1, hk.2.1⟩)⟩, ⟨zb BK726⟩, ⟨zb BK741⟩, ⟨zb BK748⟩, ⟨zb BK756⟩, ⟨zB⟩⟩
         ·replace c81 := Bool.eq_false_iff.mpr c81
          subst c81
          have H1 : (laws_FnExactSaySet.j1 kj14 a1 a2 t740 true l0_0 l0_1 t734 t737 t749 t752) = some r := by rw [if_neg (show ¬ (false = true) by decide)] at H; exact H
          clear H
          have H := H1
          clear H1
          have H' := zm H
          clear H
          have hnb90 := NB756_726.out
          have hnc90 := NB726_756.out
          have hnb91 := NB756_741.out
          have hnc91 := NB741_756.out
          have hnb92 := NB756_748.out
          have hnc92 := NB748_756.out
          have hcz93_0 : w78.cell? ⟨gb756, 0, none⟩ = some (.slice Ao39 t749.length co39) := (blk_cell BK756.out 0).trans rfl
          have hcz93_1 : w78.cell? ⟨gb756, 1, none⟩ = some (.slice Ao44 t752.length co44) := (blk_cell BK756.out 1).trans rfl
          have hfz93_0 := blk_frozen BK756.out 0
          have hfz93_1 := blk_frozen BK756.out 1
          have hnb94 := NB741_726.out
          have hnc94 := NB726_741.out
          have hnb95 := NB741_748.out
          have hnc95 := NB748_741.out
          have hcz96_0 : w78.cell? ⟨gb741, 0, none⟩ = some (.slice Ao25 t734.length co25) := (blk_cell BK741.out 0).trans rfl
          have hcz96_1 : w78.cell? ⟨gb741, 1, none⟩ = some (.slice Ao28 t737.length co28) := (blk_cell BK741.out 1).trans rfl
          have hfz96_0 := blk_frozen BK741.out 0
          have hfz96_1 := blk_frozen BK741.out 1
          go_wp2_with (first | (go_at_call 18; (with_reducible refine (laws_eqState.calls kj14 _ _ t749 _ _ t752 _ _ t734 _ _ t737 false _ ?side1 ?side2 ?side3 ?side4 ?side5 ?side6 ?side7 ?side8 A80.out).mono ?_); (case side1 => repeat (first | exact (Kd.R_reads' HO_757000.out).2.2 | (with_reducible refine Kd.C_alloc ?_ _) | (with_reducible refine Kd.C_drewN ?_ _) | (with_reducible refine Kd.C_drew ?_))); (case side2 => exact (Kd.R_reads' HO_757000.out).2.1); (case side3 => repeat (first | exact (Kd.R_reads' HO_757001.out).2.2 | (with_reducible refine Kd.C_alloc ?_ _) | (with_reducible refine Kd.C_drewN ?_ _) | (with_reducible refine Kd.C_drew ?_))); (case side4 => exact (Kd.R_reads' HO_757001.out).2.1); (case side5 => repeat (first | exact (Kd.R_reads' HO_742000.out).2.2 | (with_reducible refine Kd.C_alloc ?_ _) | (with_reducible refine Kd.C_drewN ?_ _) | (with_reducible refine Kd.C_drew ?_))); (case side6 => exact (Kd.R_reads' HO_742000.out).2.1); (case side7 => repeat (first | exact (Kd.R_reads' HO_742001.out).2.2 | (with_reducible refine Kd.C_alloc ?_ _) | (with_reducible refine Kd.C_drewN ?_ _) | (with_reducible refine Kd.C_drew ?_))); (case side8 => exact (Kd.R_reads' HO_742001.out).2.1); rintro e w97 ⟨rfl, hb⟩; replace HO_742000 := zm (Kd.R_below (zr HO_742000) hb); replace HO_742001 := zm (Kd.R_below (zr HO_742001) hb); replace HO_749000 := zm (Kd.R_below (zr HO_749000) hb); replace HO_749001 := zm (Kd.R_below (zr HO_749001) hb); replace HO_757000 := zm (Kd.R_below (zr HO_757000) hb); replace HO_757001 := zm (Kd.R_below (zr HO_757001) hb); replace HO760 := zm (Kd.R_below (zr HO760) hb); replace HO763 := zm (Kd.R_below (zr HO763) hb); replace BK726 := zm (blk_below (zb BK726) hb); replace BK741 := zm (blk_below (zb BK741) hb); replace BK748 := zm (blk_below (zb BK748) hb); replace BK756 := zm (blk_below (zb BK756) hb); replace HB := zm (below_step zB hb); clear hb))
          go_meet
          case rel => exact ⟨_, (true), zF, H', ⟨by have := HJ14.out; first | omega | exact Nat.le_refl _⟩, ⟨by (with_reducible repeat (first | apply Kd.R_alloc | apply Kd.R_drewN | apply Kd.R_drew)); exact Kd.R_mono HO_742000.out (fun _ hk => ⟨hk.1, hk.2.1⟩)⟩, ⟨by (with_reducible repeat (first | apply Kd.R_alloc | apply Kd.R_drewN | apply Kd.R_drew)); exact Kd.R_mono HO_742001.out (fun _ hk => ⟨hk.1, hk.2.1⟩)⟩, ⟨by (with_reducible repeat (first | apply Kd.R_alloc | apply Kd.R_drewN | apply Kd.R_drew)); exact Kd.R_mono HO_749000.out (fun _ hk => ⟨hk.1.1, hk.1.2⟩)⟩, ⟨by (with_reducible repeat (first | apply Kd.R_alloc | apply Kd.R_drewN | apply Kd.R_drew)); exact Kd.R_mono HO_749001.out (fun _ hk => ⟨hk.1.1, hk.1.2⟩)⟩, ⟨by (with_reducible repeat (first | apply Kd.R_alloc | apply Kd.R_drewN | apply Kd.R_drew)); exact Kd.R_mono HO_757000.out (fun _ hk => ⟨hk.1, hk.2.1⟩)⟩, ⟨by (with_reducible repeat (first | apply Kd.R_alloc | apply Kd.R_drewN | apply Kd.R_drew)); exact Kd.R_mono HO_757001.out (fun _ hk => ⟨hk.1, hk.2.1⟩)⟩, ⟨zb BK726⟩, ⟨zb BK741⟩, ⟨zb BK748⟩, ⟨zb BK756⟩, ⟨zB⟩⟩
       case rest =>
        clear HC68
        try clear c1
        try clear c2
        try clear p2
        try clear c3
        try clear c4
        try clear c4b0
        try clear c4b1
        try clear c5
        try clear c6
        try clear c7
        try clear c7b0
        try clear c8
        try clear c9
        try clear c13
        try clear c15
        try clear c18
        try clear c19
        try clear c26
        try clear c29
        try clear c30
        try clear c33
        try clear c34
        try clear c40
        try clear c41
        try clear c42
        try clear c46
        try clear c47
        try clear c48
        try clear c49
        try clear c51
        try clear c52
        try clear c55
        try clear c56
        try clear c57
        try clear c59
        try clear c60
        try clear c63
        try clear c66
        try clear c74
        try clear c75
        try clear c76
        try clear c79
        try clear c79b0
        try clear c81
        try clear c82
        try clear c83
        try clear c84
        try clear c86
        try clear c87
        try clear c90
        try clear c91
        try clear c92
        try clear c94
        try clear c95
        try clear hcz17_0
        try clear hcz17_1
        try clear hcz19_0
        try clear hcz19_1
        try clear hcz27_0
        try clear hcz27_1
        try clear hcz29_0
        try clear hcz29_1
        try clear hcz35_0
        try clear hcz35_1
        try clear hcz43_0
        try clear hcz43_1
        try clear hcz50_0
        try clear hcz50_1
        try clear hcz53_0
        try clear hcz53_1
        try clear hcz58_0
        try clear hcz58_1
        try clear hcz61_0
        try clear hcz61_1
        try clear hcz77_0
        try clear hcz77_1
        try clear hcz85_0
        try clear hcz85_1
        try clear hcz88_0
        try clear hcz88_1
        try clear hcz93_0
        try clear hcz93_1
        try clear hcz96_0
        try clear hcz96_1
        try clear hcz9_0
        try clear hcz9_1
        try clear hfz17_0
        try clear hfz17_1
        try clear hfz19_0
        try clear hfz19_1
        try clear hfz27_0
        try clear hfz27_1
        try clear hfz29_0
        try clear hfz29_1
        try clear hfz35_0
        try clear hfz35_1
        try clear hfz43_0
        try clear hfz43_1
        try clear hfz50_0
        try clear hfz50_1
        try clear hfz53_0
        try clear hfz53_1
        try clear hfz58_0
        try clear hfz58_1
        try clear hfz61_0
        try clear hfz61_1
        try clear hfz77_0
        try clear hfz77_1
        try clear hfz85_0
        try clear hfz85_1
        try clear hfz88_0
        try clear hfz88_1
        try clear hfz93_0
        try clear hfz93_1
        try clear hfz96_0
        try clear hfz96_1
        try clear hfz9_0
        try clear hfz9_1
        try clear p2
        obtain ⟨kq, x72_67, rfl, HA, HJ67, HO_742000, HO_742001, HO_749000, HO_749001, HO_757000, HO_757001, BK726, BK741, BK748, BK756, HB⟩ := hcut
        have hl749000_67 := (Kd.R_reads' HO_749000.out).1
        rw [hl749000_67] at HO_749000
        (try simp only [hl749000_67])
        (try simp only [hl749000_67] at BK726)
        (try simp only [hl749000_67] at BK741)
        (try simp only [hl749000_67] at BK748)
        (try simp only [hl749000_67] at BK756)
        (try simp only [hl749000_67] at HO_742000)
        (try simp only [hl749000_67] at HO_742001)
        (try simp only [hl749000_67] at HO_749001)
        (try simp only [hl749000_67] at HO_757000)
        (try simp only [hl749000_67] at HO_757001)
        have hl749001_67 := (Kd.R_reads' HO_749001.out).1
        rw [hl749001_67] at HO_749001
        (try simp only [hl749001_67])
        (try simp only [hl749001_67] at BK726)
        (try simp only [hl749001_67] at BK741)
        (try simp only [hl749001_67] at BK748)
        (try simp only [hl749001_67] at BK756)
        (try simp only [hl749001_67] at HO_742000)
        (try simp only [hl749001_67] at HO_742001)
        (try simp only [hl749001_67] at HO_749000)
        (try simp only [hl749001_67] at HO_757000)
        (try simp only [hl749001_67] at HO_757001)
        cases kq with
        | zero => exact absurd HA.out (by simp [laws_FnExactSaySet.j1])
        | succ kj67 =>
         have H := HA.out
         clear HA
         simp only [laws_FnExactSaySet.j1] at H
         by_cases c98 : x72_67 = true
         ·subst c98
          have H1 : (some false) = some r := by rw [if_pos rfl] at H; exact H
          clear H
          have H := H1
          clear H1
          obtain rfl := Option.some.inj H
          go_wp2
          go_ret
          exact ⟨zE, zB⟩
         ·replace c98 := Bool.eq_false_iff.mpr c98
          subst c98
          have H1 : ((laws_markState.f kj67 t749 t752 1).bind fun bt769 => ((laws_heldState.f kj67 bt769.2.1 bt769.2.2 1).bind fun t772 => (if t772 < 0 then (some false) else (if t772 = bt769.1 then ((laws_toState.f kj67 l0_0 l0_1).bind fun bt773 => ((impl_SaySet.f kj67 bt773.1 bt773.2 a1 a2).bind fun bt779 => ((laws_eqState.f kj67 bt779.1 bt779.2.1 t734 t737).bind fun t787 => (if t787 = true then (laws_FnExactSaySet.j2 kj67 bt769.1 (bt779.2.2 != t740) bt769.2.1 bt769.2.2) else (laws_FnExactSaySet.j2 kj67 bt769.1 true bt769.2.1 bt769.2.2))))) else (some false))))) = some r := by rw [if_neg (show ¬ (false = true) by decide)] at H; exact H
          clear H
          have H := H1
          clear H1
          replace H := Option.bind_eq_some_iff.mp H
          obtain ⟨⟨t769, t770, t771⟩, A990, H⟩ := H
          replace H : ((laws_heldState.f kj67 t770 t771 1).bind fun t772 => (if t772 < 0 then (some false) else (if t772 = t769 then ((laws_toState.f kj67 l0_0 l0_1).bind fun bt773 => ((impl_SaySet.f kj67 bt773.1 bt773.2 a1 a2).bind fun bt779 => ((laws_eqState.f kj67 bt779.1 bt779.2.1 t734 t737).bind fun t787 => (if t787 = true then (laws_FnExactSaySet.j2 kj67 t769 (bt779.2.2 != t740) t770 t771) else (laws_FnExactSaySet.j2 kj67 t769 true t770 t771))))) else (some false)))) = some r := H
          have A99 := zm A990
          clear A990
          replace H := Option.bind_eq_some_iff.mp H
          obtain ⟨t772, A1000, H⟩ := H
          replace H : (if t772 < 0 then (some false) else (if t772 = t769 then ((laws_toState.f kj67 l0_0 l0_1).bind fun bt773 => ((impl_SaySet.f kj67 bt773.1 bt773.2 a1 a2).bind fun bt779 => ((laws_eqState.f kj67 bt779.1 bt779.2.1 t734 t737).bind fun t787 => (if t787 = true then (laws_FnExactSaySet.j2 kj67 t769 (bt779.2.2 != t740) t770 t771) else (laws_FnExactSaySet.j2 kj67 t769 true t770 t771))))) else (some false))) = some r := H
          have A100 := zm A1000
          clear A1000
          by_cases c101 : t772 < 0
          ·rw [if_pos c101] at H
           have c101b0 : decide (t772 < 0) = true := decide_eq_true c101
           clear c101
           obtain rfl := Option.some.inj H
           have hnb102 := NB756_726.out
           have hnc102 := NB726_756.out
           have hnb103 := NB756_741.out
           have hnc103 := NB741_756.out
           have hnb104 := NB756_748.out
           have hnc104 := NB748_756.out
           have hcz105_0 : wc.cell? ⟨gb756, 0, none⟩ = some (.slice Ao39 t749.length co39) := (blk_cell BK756.out 0).trans rfl
           have hcz105_1 : wc.cell? ⟨gb756, 1, none⟩ = some (.slice Ao44 t752.length co44) := (blk_cell BK756.out 1).trans rfl
           have hfz105_0 := blk_frozen BK756.out 0
           have hfz105_1 := blk_frozen BK756.out 1
           go_wp2_with (first | ((with_reducible refine gate_callee (f := 19) rfl ?_); refine zg (some 75) #[.agg #[.slice Ao39 t749.length co39, .slice Ao44 t752.length co44], .int .i64 1] Try.func19 ?_; (with_reducible refine (laws_markState.calls kj67 (fun k_ => some k_ = (.slice Ao39 t749.length co39 : Value).ownBlock) (.slice Ao39 t749.length co39) t749 (fun k_ => some k_ = (.slice Ao44 t752.length co44 : Value).ownBlock) (.slice Ao44 t752.length co44) t752 1 t769 t770 t771 w _ zB ?side2 ?side3 A99.out).mono ?_); (case side2 => exact Kd.R_tight rfl HO_757000.out); (case side3 => exact Kd.R_tight rfl HO_757001.out); rintro e w106 ⟨rfl, hy0, hy1, hb, hkp⟩; refine ⟨_, rfl, ?_⟩; replace HO_742000 := zm (Kd.R_mono (ok' := fun k_ => some k_ ≠ (.slice Ao32 t766.length co32 : Value).ownBlock ∧ some k_ ≠ (.slice Ao39 t749.length co39 : Value).ownBlock) (Kd.R_keptB ((Kd.R_apart' HO_742000.out (Kd.R_typed HO_757001.out) (by decide))) hkp (fun k_ hk_ hs_ => Or.elim hs_ (fun e_ => (hk_.1.2) e_) (fun e_ => (hk_.2) e_))) (fun k_ hk_ => ⟨hk_.1.1.1, hk_.1.1.2⟩)); replace HO_742001 := zm (Kd.R_mono (ok' := fun k_ => some k_ ≠ (.slice Ao36 t767.length co36 : Value).ownBlock ∧ some k_ ≠ (.slice Ao44 t752.length co44 : Value).ownBlock) (Kd.R_keptB ((Kd.R_apart' HO_742001.out (Kd.R_typed HO_757000.out) (by decide))) hkp (fun k_ hk_ hs_ => Or.elim hs_ (fun e_ => (hk_.2) e_) (fun e_ => (hk_.1.2) e_))) (fun k_ hk_ => ⟨hk_.1.1.1, hk_.1.1.2⟩)); replace HO_749000 := zm (Kd.R_mono (ok' := fun k_ => some k_ ≠ (.slice Ao25 t734.length co25 : Value).ownBlock ∧ some k_ ≠ (.slice Ao39 t749.length co39 : Value).ownBlock) (Kd.R_keptB ((Kd.R_apart' HO_749000.out (Kd.R_typed HO_757001.out) (by decide))) hkp (fun k_ hk_ hs_ => Or.elim hs_ (fun e_ => (hk_.1.2) e_) (fun e_ => (hk_.2) e_))) (fun k_ hk_ => ⟨hk_.1.1.1, hk_.1.1.2⟩)); replace HO_749001 := zm (Kd.R_mono (ok' := fun k_ => some k_ ≠ (.slice Ao28 t737.length co28 : Value).ownBlock ∧ some k_ ≠ (.slice Ao44 t752.length co44 : Value).ownBlock) (Kd.R_keptB ((Kd.R_apart' HO_749001.out (Kd.R_typed HO_757000.out) (by decide))) hkp (fun k_ hk_ hs_ => Or.elim hs_ (fun e_ => (hk_.2) e_) (fun e_ => (hk_.1.2) e_))) (fun k_ hk_ => ⟨hk_.1.1.1, hk_.1.1.2⟩)); replace BK726 := zm (blk_kept (zb BK726) hkp (fun hs_ => Or.elim hs_ (fun e_ => (fun e_ => (Kd.R_ne HO_757000.out BK726.out (by decide)) e_) e_) (fun e_ => (fun e_ => (Kd.R_ne HO_757001.out BK726.out (by decide)) e_) e_))); replace BK741 := zm (blk_kept (zb BK741) hkp (fun hs_ => Or.elim hs_ (fun e_ => (fun e_ => (Kd.R_ne HO_757000.out BK741.out (by decide)) e_) e_) (fun e_ => (fun e_ => (Kd.R_ne HO_757001.out BK741.out (by decide)) e_) e_))); replace BK748 := zm (blk_kept (zb BK748) hkp (fun hs_ => Or.elim hs_ (fun e_ => (fun e_ => (Kd.R_ne HO_757000.out BK748.out (by decide)) e_) e_) (fun e_ => (fun e_ => (Kd.R_ne HO_757001.out BK748.out (by decide)) e_) e_))); replace BK756 := zm (blk_kept (zb BK756) hkp (fun hs_ => Or.elim hs_ (fun e_ => (fun e_ => (Kd.R_ne HO_757000.out BK756.out (by decide)) e_) e_) (fun e_ => (fun e_ => (Kd.R_ne HO_757001.out BK756.out (by decide)) e_) e_))); replace HO_757000 := zm (Kd.R_reok rfl hy0 (fun k_ e_ => HO_757000.out.1 k_ e_)); replace HO_757001 := zm (Kd.R_reok rfl hy1 (fun k_ e_ => HO_757001.out.1 k_ e_)); replace HB := zm (hb); clear hb hkp hy0; (try clear hy1); have hcz107_0 : w106.cell? ⟨gb756, 0, none⟩ = some (.slice Ao39 t749.length co39) := (blk_cell BK756.out 0).trans rfl; have hcz107_1 : w106.cell? ⟨gb756, 1, none⟩ = some (.slice Ao44 t752.length co44) := (blk_cell BK756.out 1).trans rfl; have hfz107_0 := blk_frozen BK756.out 0; have hfz107_1 := blk_frozen BK756.out 1) | ((with_reducible refine gate_callee (f := 26) rfl ?_); refine goesL_ (some 78) rfl rfl Try.func26 (by kernel_rfl) rfl #[.agg #[.slice Ao39 t770.length co39, .slice Ao44 t771.length co44], .int .i64 1] rfl (by (try simp only [List.map_toArray, List.map_cons, List.map_nil]); first | done | (rw [show t770.length = t749.length from (Kd.R_reads' HO_757000.out).1.symm, show t771.length = t752.length from (Kd.R_reads' HO_757001.out).1.symm] <;> rfl) | rfl | (simp only [List.length_drop, List.length_take]; rfl)) ?_; (with_reducible refine (laws_heldState.calls kj67 _ _ t770 _ _ t771 1 t772 _ ?side1 ?side2 ?side3 ?side4 A100.out).mono ?_); (case side1 => repeat (first | exact (Kd.R_reads' HO_757000.out).2.2 | (with_reducible refine Kd.C_alloc ?_ _) | (with_reducible refine Kd.C_drewN ?_ _) | (with_reducible refine Kd.C_drew ?_))); (case side2 => rw [show t770.length = t749.length from (Kd.R_reads' HO_757000.out).1.symm]; exact (Kd.R_reads' HO_757000.out).2.1); (case side3 => repeat (first | exact (Kd.R_reads' HO_757001.out).2.2 | (with_reducible refine Kd.C_alloc ?_ _) | (with_reducible refine Kd.C_drewN ?_ _) | (with_reducible refine Kd.C_drew ?_))); (case side4 => rw [show t771.length = t752.length from (Kd.R_reads' HO_757001.out).1.symm]; exact (Kd.R_reads' HO_757001.out).2.1); rintro e w108 ⟨rfl, hb⟩; refine ⟨_, rfl, ?_⟩; replace HO_742000 := zm (Kd.R_below (zr HO_742000) hb); replace HO_742001 := zm (Kd.R_below (zr HO_742001) hb); replace HO_749000 := zm (Kd.R_below (zr HO_749000) hb); replace HO_749001 := zm (Kd.R_below (zr HO_749001) hb); replace HO_757000 := zm (Kd.R_below (zr HO_757000) hb); replace HO_757001 := zm (Kd.R_below (zr HO_757001) hb); replace BK726 := zm (blk_below (zb BK726) hb); replace BK741 := zm (blk_below (zb BK741) hb); replace BK748 := zm (blk_below (zb BK748) hb); replace BK756 := zm (blk_below (zb BK756) hb); replace HB := zm (below_step zB hb); clear hb))
           go_ret
           exact ⟨zE, zB⟩
          ·rw [if_neg c101] at H
           have c101b0 : decide (t772 < 0) = false := decide_eq_false c101
           clear c101
           by_cases c109 : t772 = t769
           ·rw [if_pos c109] at H
            have c109b0 : (t772 == t769) = true := beq_iff_eq.mpr c109
            have c109b1 : (t772 != t769) = false := bne_eq_false_iff_eq.mpr c109
            clear c109
            replace H := Option.bind_eq_some_iff.mp H
            obtain ⟨⟨t773, t776⟩, A1100, H⟩ := H
            replace H : ((impl_SaySet.f kj67 t773 t776 a1 a2).bind fun bt779 => ((laws_eqState.f kj67 bt779.1 bt779.2.1 t734 t737).bind fun t787 => (if t787 = true then (laws_FnExactSaySet.j2 kj67 t769 (bt779.2.2 != t740) t770 t771) else (laws_FnExactSaySet.j2 kj67 t769 true t770 t771)))) = some r := H
            have A110 := zm A1100
            clear A1100
            replace H := Option.bind_eq_some_iff.mp H
            obtain ⟨⟨t779, t782, t785⟩, A1110, H⟩ := H
            replace H : ((laws_eqState.f kj67 t779 t782 t734 t737).bind fun t787 => (if t787 = true then (laws_FnExactSaySet.j2 kj67 t769 (t785 != t740) t770 t771) else (laws_FnExactSaySet.j2 kj67 t769 true t770 t771))) = some r := H
            have A111 := zm A1110
            clear A1110
            have HC112 := zm H
            clear H
            have hnb113 := NB756_726.out
            have hnc113 := NB726_756.out
            have hnb114 := NB756_741.out
            have hnc114 := NB741_756.out
            have hnb115 := NB756_748.out
            have hnc115 := NB748_756.out
            have hcz116_0 : wc.cell? ⟨gb756, 0, none⟩ = some (.slice Ao39 t749.length co39) := (blk_cell BK756.out 0).trans rfl
            have hcz116_1 : wc.cell? ⟨gb756, 1, none⟩ = some (.slice Ao44 t752.length co44) := (blk_cell BK756.out 1).trans rfl
            have hfz116_0 := blk_frozen BK756.out 0
            have hfz116_1 := blk_frozen BK756.out 1
            go_upto_region 27 with (first | ((with_reducible refine gate_callee (f := 19) rfl ?_); refine zg (some 75) #[.agg #[.slice Ao39 t749.length co39, .slice Ao44 t752.length co44], .int .i64 1] Try.func19 ?_; (with_reducible refine (laws_markState.calls kj67 (fun k_ => some k_ = (.slice Ao39 t749.length co39 : Value).ownBlock) (.slice Ao39 t749.length co39) t749 (fun k_ => some k_ = (.slice Ao44 t752.length co44 : Value).ownBlock) (.slice Ao44 t752.length co44) t752 1 t769 t770 t771 w _ zB ?side2 ?side3 A99.out).mono ?_); (case side2 => exact Kd.R_tight rfl HO_757000.out); (case side3 => exact Kd.R_tight rfl HO_757001.out); rintro e w117 ⟨rfl, hy0, hy1, hb, hkp⟩; refine ⟨_, rfl, ?_⟩; replace HO_742000 := zm (Kd.R_mono (ok' := fun k_ => some k_ ≠ (.slice Ao32 t766.length co32 : Value).ownBlock ∧ some k_ ≠ (.slice Ao39 t749.length co39 : Value).ownBlock) (Kd.R_keptB ((Kd.R_apart' HO_742000.out (Kd.R_typed HO_757001.out) (by decide))) hkp (fun k_ hk_ hs_ => Or.elim hs_ (fun e_ => (hk_.1.2) e_) (fun e_ => (hk_.2) e_))) (fun k_ hk_ => ⟨hk_.1.1.1, hk_.1.1.2⟩)); replace HO_742001 := zm (Kd.R_mono (ok' := fun k_ => some k_ ≠ (.slice Ao36 t767.length co36 : Value).ownBlock ∧ some k_ ≠ (.slice Ao44 t752.length co44 : Value).ownBlock) (Kd.R_keptB ((Kd.R_apart' HO_742001.out (Kd.R_typed HO_757000.out) (by decide))) hkp (fun k_ hk_ hs_ => Or.elim hs_ (fun e_ => (hk_.2) e_) (fun e_ => (hk_.1.2) e_))) (fun k_ hk_ => ⟨hk_.1.1.1, hk_.1.1.2⟩)); replace HO_749000 := zm (Kd.R_mono (ok' := fun k_ => some k_ ≠ (.slice Ao25 t734.length co25 : Value).ownBlock ∧ some k_ ≠ (.slice Ao39 t749.length co39 : Value).ownBlock) (Kd.R_keptB ((Kd.R_apart' HO_749000.out (Kd.R_typed HO_757001.out) (by decide))) hkp (fun k_ hk_ hs_ => Or.elim hs_ (fun e_ => (hk_.1.2) e_) (fun e_ => (hk_.2) e_))) (fun k_ hk_ => ⟨hk_.1.1.1, hk_.1.1.2⟩)); replace HO_749001 := zm (Kd.R_mono (ok' := fun k_ => some k_ ≠ (.slice Ao28 t737.length co28 : Value).ownBlock ∧ some k_ ≠ (.slice Ao44 t752.length co44 : Value).ownBlock) (Kd.R_keptB ((Kd.R_apart' HO_749001.out (Kd.R_typed HO_757000.out) (by decide))) hkp (fun k_ hk_ hs_ => Or.elim hs_ (fun e_ => (hk_.2) e_) (fun e_ => (hk_.1.2) e_))) (fun k_ hk_ => ⟨hk_.1.1.1, hk_.1.1.2⟩)); replace BK726 := zm (blk_kept (zb BK726) hkp (fun hs_ => Or.elim hs_ (fun e_ => (fun e_ => (Kd.R_ne HO_757000.out BK726.out (by decide)) e_) e_) (fun e_ => (fun e_ => (Kd.R_ne HO_757001.out BK726.out (by decide)) e_) e_))); replace BK741 := zm (blk_kept (zb BK741) hkp (fun hs_ => Or.elim hs_ (fun e_ => (fun e_ => (Kd.R_ne HO_757000.out BK741.out (by decide)) e_) e_) (fun e_ => (fun e_ => (Kd.R_ne HO_757001.out BK741.out (by decide)) e_) e_))); replace BK748 := zm (blk_kept (zb BK748) hkp (fun hs_ => Or.elim hs_ (fun e_ => (fun e_ => (Kd.R_ne HO_757000.out BK748.out (by decide)) e_) e_) (fun e_ => (fun e_ => (Kd.R_ne HO_757001.out BK748.out (by decide)) e_) e_))); replace BK756 := zm (blk_kept (zb BK756) hkp (fun hs_ => Or.elim hs_ (fun e_ => (fun e_ => (Kd.R_ne HO_757000.out BK756.out (by decide)) e_) e_) (fun e_ => (fun e_ => (Kd.R_ne HO_757001.out BK756.out (by decide)) e_) e_))); replace HO_757000 := zm (Kd.R_reok rfl hy0 (fun k_ e_ => HO_757000.out.1 k_ e_)); replace HO_757001 := zm (Kd.R_reok rfl hy1 (fun k_ e_ => HO_757001.out.1 k_ e_)); replace HB := zm (hb); clear hb hkp hy0; (try clear hy1); have hcz118_0 : w117.cell? ⟨gb756, 0, none⟩ = some (.slice Ao39 t749.length co39) := (blk_cell BK756.out 0).trans rfl; have hcz118_1 : w117.cell? ⟨gb756, 1, none⟩ = some (.slice Ao44 t752.length co44) := (blk_cell BK756.out 1).trans rfl; have hfz118_0 := blk_frozen BK756.out 0; have hfz118_1 := blk_frozen BK756.out 1) | ((with_reducible refine gate_callee (f := 26) rfl ?_); refine goesL_ (some 78) rfl rfl Try.func26 (by kernel_rfl) rfl #[.agg #[.slice Ao39 t770.length co39, .slice Ao44 t771.length co44], .int .i64 1] rfl (by (try simp only [List.map_toArray, List.map_cons, List.map_nil]); first | done | (rw [show t770.length = t749.length from (Kd.R_reads' HO_757000.out).1.symm, show t771.length = t752.length from (Kd.R_reads' HO_757001.out).1.symm] <;> rfl) | rfl | (simp only [List.length_drop, List.length_take]; rfl)) ?_; (with_reducible refine (laws_heldState.calls kj67 _ _ t770 _ _ t771 1 t772 _ ?side1 ?side2 ?side3 ?side4 A100.out).mono ?_); (case side1 => repeat (first | exact (Kd.R_reads' HO_757000.out).2.2 | (with_reducible refine Kd.C_alloc ?_ _) | (with_reducible refine Kd.C_drewN ?_ _) | (with_reducible refine Kd.C_drew ?_))); (case side2 => rw [show t770.length = t749.length from (Kd.R_reads' HO_757000.out).1.symm]; exact (Kd.R_reads' HO_757000.out).2.1); (case side3 => repeat (first | exact (Kd.R_reads' HO_757001.out).2.2 | (with_reducible refine Kd.C_alloc ?_ _) | (with_reducible refine Kd.C_drewN ?_ _) | (with_reducible refine Kd.C_drew ?_))); (case side4 => rw [show t771.length = t752.length from (Kd.R_reads' HO_757001.out).1.symm]; exact (Kd.R_reads' HO_757001.out).2.1); rintro e w119 ⟨rfl, hb⟩; refine ⟨_, rfl, ?_⟩; replace HO_742000 := zm (Kd.R_below (zr HO_742000) hb); replace HO_742001 := zm (Kd.R_below (zr HO_742001) hb); replace HO_749000 := zm (Kd.R_below (zr HO_749000) hb); replace HO_749001 := zm (Kd.R_below (zr HO_749001) hb); replace HO_757000 := zm (Kd.R_below (zr HO_757000) hb); replace HO_757001 := zm (Kd.R_below (zr HO_757001) hb); replace BK726 := zm (blk_below (zb BK726) hb); replace BK741 := zm (blk_below (zb BK741) hb); replace BK748 := zm (blk_below (zb BK748) hb); replace BK756 := zm (blk_below (zb BK756) hb); replace HB := zm (below_step zB hb); clear hb; have hnb120 := NB726_741.out; have hnc120 := NB741_726.out; have hnb121 := NB726_748.out; have hnc121 := NB748_726.out; have hcz122_0 : w119.cell? ⟨gb726, 0, none⟩ = some (.slice A0_0 l0_0.length c0_0) := (blk_cell BK726.out 0).trans rfl; have hcz122_1 : w119.cell? ⟨gb726, 1, none⟩ = some (.slice A0_1 l0_1.length c0_1) := (blk_cell BK726.out 1).trans rfl; have hfz122_0 := blk_frozen BK726.out 0; have hfz122_1 := blk_frozen BK726.out 1) | ((with_reducible refine gate_callee (f := 15) rfl ?_); refine zg (some 86) #[.agg #[.slice A0_0 l0_0.length c0_0, .slice A0_1 l0_1.length c0_1]] Try.func15 ?_; (with_reducible refine (laws_toState.calls kj67 _ _ l0_0 _ _ l0_1 t773 t776 _ (zk (Kd.C_below HR0_0.out HB.out)) HC0_0.out (zk (Kd.C_below HR0_1.out HB.out)) HC0_1.out A110.out).mono ?_); rintro e w123 ⟨v774, v777, rfl, ho0, ho1, hb⟩; refine ⟨_, rfl, ?_⟩; have HO775 := zm (Kd.R_lower (Kd.R_new' (Kd.R_new' (Kd.R_new' ho0 (Kd.R_lt (zr HO_742000))) (Kd.R_lt (zr HO_749000))) (Kd.R_lt (zr HO_757000))) (below_size zB)); replace HO_742000 := zm (Kd.R_elder' (zr HO_742000) (Kd.R_base ho0) hb); replace HO_749000 := zm (Kd.R_elder' (zr HO_749000) (Kd.R_base ho0) hb); replace HO_757000 := zm (Kd.R_elder' (zr HO_757000) (Kd.R_base ho0) hb); have HO778 := zm (Kd.R_lower (Kd.R_new' (Kd.R_new' (Kd.R_new' ho1 (Kd.R_lt (zr HO_742001))) (Kd.R_lt (zr HO_749001))) (Kd.R_lt (zr HO_757001))) (below_size zB)); replace HO_742001 := zm (Kd.R_elder' (zr HO_742001) (Kd.R_base ho1) hb); replace HO_749001 := zm (Kd.R_elder' (zr HO_749001) (Kd.R_base ho1) hb); replace HO_757001 := zm (Kd.R_elder' (zr HO_757001) (Kd.R_base ho1) hb); replace BK726 := zm (blk_below (zb BK726) hb); replace BK741 := zm (blk_below (zb BK741) hb); replace BK748 := zm (blk_below (zb BK748) hb); replace BK756 := zm (blk_below (zb BK756) hb); replace HB := zm (below_step zB hb); clear hb ho0 ho1; obtain ⟨Ao124, co124, eo124⟩ := Kd.R_slice HO775.out; subst eo124; obtain ⟨Ao125, co125, eo125⟩ := Kd.R_slice HO778.out; subst eo125) | ((with_reducible refine gate_callee (f := 30) rfl ?_); refine zg (some 89) #[.agg #[.slice Ao124 t773.length co124, .slice Ao125 t776.length co125], .int .i64 a1, .string a2] Try.func30 ?_; (with_reducible refine (impl_SaySet.calls kj67 _ _ t773 _ _ t776 a1 a2 t779 t782 t785 _ ?side1 ?side2 ?side3 ?side4 A111.out).mono ?_); (case side1 => repeat (first | exact (Kd.R_reads' HO775.out).2.2 | (with_reducible refine Kd.C_alloc ?_ _) | (with_reducible refine Kd.C_drewN ?_ _) | (with_reducible refine Kd.C_drew ?_))); (case side2 => exact (Kd.R_reads' HO775.out).2.1); (case side3 => repeat (first | exact (Kd.R_reads' HO778.out).2.2 | (with_reducible refine Kd.C_alloc ?_ _) | (with_reducible refine Kd.C_drewN ?_ _) | (with_reducible refine Kd.C_drew ?_))); (case side4 => exact (Kd.R_reads' HO778.out).2.1); rintro e w126 ⟨v780, v783, rfl, ho0, ho1, hb⟩; refine ⟨_, rfl, ?_⟩; have HO781 := zm (Kd.R_lower (Kd.R_new' (Kd.R_new' (Kd.R_new' (Kd.R_new' ho0 (Kd.R_lt (zr HO_742000))) (Kd.R_lt (zr HO_749000))) (Kd.R_lt (zr HO_757000))) (Kd.R_lt (zr HO775))) (below_size zB)); replace HO_742000 := zm (Kd.R_elder' (zr HO_742000) (Kd.R_base ho0) hb); replace HO_749000 := zm (Kd.R_elder' (zr HO_749000) (Kd.R_base ho0) hb); replace HO_757000 := zm (Kd.R_elder' (zr HO_757000) (Kd.R_base ho0) hb); replace HO775 := zm (Kd.R_elder' (zr HO775) (Kd.R_base ho0) hb); have HO784 := zm (Kd.R_lower (Kd.R_new' (Kd.R_new' (Kd.R_new' (Kd.R_new' ho1 (Kd.R_lt (zr HO_742001))) (Kd.R_lt (zr HO_749001))) (Kd.R_lt (zr HO_757001))) (Kd.R_lt (zr HO778))) (below_size zB)); replace HO_742001 := zm (Kd.R_elder' (zr HO_742001) (Kd.R_base ho1) hb); replace HO_749001 := zm (Kd.R_elder' (zr HO_749001) (Kd.R_base ho1) hb); replace HO_757001 := zm (Kd.R_elder' (zr HO_757001) (Kd.R_base ho1) hb); replace HO778 := zm (Kd.R_elder' (zr HO778) (Kd.R_base ho1) hb); replace BK726 := zm (blk_below (zb BK726) hb); replace BK741 := zm (blk_below (zb BK741) hb); replace BK748 := zm (blk_below (zb BK748) hb); replace BK756 := zm (blk_below (zb BK756) hb); replace HB := zm (below_step zB hb); clear hb ho0 ho1) | ((with_reducible refine gate_dst (N := 16) rfl ?_); refine zbox 16 #[.slice none 0 0, .slice none 0 0] 32 ?_; intro gb786 hg w127 hbox hb; replace HO_742000 := zm (Kd.R_below (zr HO_742000) hb); replace HO_742001 := zm (Kd.R_below (zr HO_742001) hb); replace HO_749000 := zm (Kd.R_below (zr HO_749000) hb); replace HO_749001 := zm (Kd.R_below (zr HO_749001) hb); replace HO_757000 := zm (Kd.R_below (zr HO_757000) hb); replace HO_757001 := zm (Kd.R_below (zr HO_757001) hb); replace HO775 := zm (Kd.R_below (zr HO775) hb); replace HO778 := zm (Kd.R_below (zr HO778) hb); replace HO781 := zm (Kd.R_below (zr HO781) hb); replace HO784 := zm (Kd.R_below (zr HO784) hb); have BK786 := zm (hbox); have GW786 := zge w hg zB; have GE786 := zge w hg zB; replace HB := zm (below_step zB hb); have NB726_786 := zlt hg (zb BK726); have NB786_726 := zgt hg (zb BK726); replace BK726 := zm (blk_below (zb BK726) hb); have NB741_786 := zlt hg (zb BK741); have NB786_741 := zgt hg (zb BK741); replace BK741 := zm (blk_below (zb BK741) hb); have NB748_786 := zlt hg (zb BK748); have NB786_748 := zgt hg (zb BK748); replace BK748 := zm (blk_below (zb BK748) hb); have NB756_786 := zlt hg (zb BK756); have NB786_756 := zgt hg (zb BK756); replace BK756 := zm (blk_below (zb BK756) hb); clear hb hbox hg; obtain ⟨Ao128, co128, eo128⟩ := Kd.R_slice HO781.out; subst eo128; have hnb129 := NB786_726.out; have hnc129 := NB726_786.out; have hnb130 := NB786_741.out; have hnc130 := NB741_786.out; have hnb131 := NB786_748.out; have hnc131 := NB748_786.out; have hnb132 := NB786_756.out; have hnc132 := NB756_786.out; have hcz133_0 : w127.cell? ⟨gb786, 0, none⟩ = some (.slice none 0 0) := (blk_cell BK786.out 0).trans rfl; have hcz133_1 : w127.cell? ⟨gb786, 1, none⟩ = some (.slice none 0 0) := (blk_cell BK786.out 1).trans rfl; have hfz133_0 := blk_frozen BK786.out 0; have hfz133_1 := blk_frozen BK786.out 1; obtain ⟨Ao134, co134, eo134⟩ := Kd.R_slice HO784.out; subst eo134))
            (try simp only [Act.put, List.setIfInBounds_toArray, List.set_cons_zero, List.set_cons_succ])
            go_cut [100] (fun v100 wc => ∃ (kq : Nat) (x100_111 : Bool), v100 = .bool x100_111 ∧ Aside0 (laws_FnExactSaySet.j2 kq t769 x100_111 t770 t771 = some r) ∧ Aside0 (kq ≤ kj67) ∧ Aside0 (Kd.R k68 68 wc w.heap.size (fun k_ => some k_ ≠ ((.slice Ao32 t766.length co32) : Value).ownBlock ∧ some k_ ≠ ((.slice Ao39 t749.length co39) : Value).ownBlock ∧ some k_ ≠ ((.slice Ao128 t779.length co128) : Value).ownBlock) (.slice Ao25 t734.length co25) t734) ∧ Aside0 (Kd.R k72 72 wc w.heap.size (fun k_ => some k_ ≠ ((.slice Ao36 t767.length co36) : Value).ownBlock ∧ some k_ ≠ ((.slice Ao44 t752.length co44) : Value).ownBlock ∧ some k_ ≠ ((.slice Ao134 t782.length co134) : Value).ownBlock) (.slice Ao28 t737.length co28) t737) ∧ Aside0 (Kd.R k68 68 wc w.heap.size (fun k_ => some k_ ≠ ((.slice Ao25 t734.length co25) : Value).ownBlock ∧ some k_ ≠ ((.slice Ao39 t749.length co39) : Value).ownBlock ∧ some k_ ≠ ((.slice Ao128 t779.length co128) : Value).ownBlock) (.slice Ao32 t766.length co32) t766) ∧ Aside0 (Kd.R k72 72 wc w.heap.size (fun k_ => some k_ ≠ ((.slice Ao28 t737.length co28) : Value).ownBlock ∧ some k_ ≠ ((.slice Ao44 t752.length co44) : Value).ownBlock ∧ some k_ ≠ ((.slice Ao134 t782.length co134) : Value).ownBlock) (.slice Ao36 t767.length co36) t767) ∧ Aside0 (Kd.R k68 68 wc w.heap.size (fun k_ => some k_ ≠ ((.slice Ao25 t734.length co25) : Value).ownBlock ∧ some k_ ≠ ((.slice Ao32 t766.length co32) : Value).ownBlock ∧ some k_ ≠ ((.slice Ao128 t779.length co128) : Value).ownBlock) (.slice Ao39 t749.length co39) t770) ∧ Aside0 (Kd.R k72 72 wc w.heap.size (fun k_ => some k_ ≠ ((.slice Ao28 t737.length co28) : Value).ownBlock ∧ some k_ ≠ ((.slice Ao36 t767.length co36) : Value).ownBlock ∧ some k_ ≠ ((.slice Ao134 t782.length co134) : Value).ownBlock) (.slice Ao44 t752.length co44) t771) ∧ Aside0 (Kd.R k68 68 wc w.heap.size (fun k_ => some k_ ≠ ((.slice Ao25 t734.length co25) : Value).ownBlock ∧ some k_ ≠ ((.slice Ao32 t766.length co32) : Value).ownBlock ∧ some k_ ≠ ((.slice Ao39 t749.length co39) : Value).ownBlock) (.slice Ao128 t779.length co128) t779) ∧ Aside0 (Kd.R k72 72 wc w.heap.size (fun k_ => some k_ ≠ ((.slice Ao28 t737.length co28) : Value).ownBlock ∧ some k_ ≠ ((.slice Ao36 t767.length co36) : Value).ownBlock ∧ some k_ ≠ ((.slice Ao44 t752.length co44) : Value).ownBlock) (.slice Ao134 t782.length co134) t782) ∧ Aside0 (wc.heap[gb726]? = some (.cells #[(.slice A0_0 l0_0.length c0_0), (.slice A0_1 l0_1.length c0_1)] 25 (0, 0))) ∧ Aside0 (wc.heap[gb741]? = some (.cells #[(.slice Ao25 t734.length co25), (.slice Ao28 t737.length co28)] 32 (0, 0))) ∧ Aside0 (wc.heap[gb748]? = some (.cells #[(.slice Ao32 t766.length co32), (.slice Ao36 t767.length co36)] 32 (0, 0))) ∧ Aside0 (wc.heap[gb756]? = some (.cells #[(.slice Ao39 t749.length co39), (.slice Ao44 t752.length co44)] 32 (0, 0))) ∧ Aside0 (wc.heap[gb786]? = some (.cells #[(.slice Ao128 t779.length co128), (.slice Ao134 t782.length co134)] 32 (0, 0))) ∧ Aside0 (Below w.heap.size w wc))
            case first =>
             have H := HC112.out
             clear HC112
             replace H := Option.bind_eq_some_iff.mp H
             obtain ⟨t787, A1350, H⟩ := H
             replace H : (if t787 = true then (laws_FnExactSaySet.j2 kj67 t769 (t785 != t740) t770 t771) else (laws_FnExactSaySet.j2 kj67 t769 true t770 t771)) = some r := H
             have A135 := zm A1350
             clear A1350
             by_cases c136 : t787 = true
             ·subst c136
              have H1 : (laws_FnExactSaySet.j2 kj67 t769 (t785 != t740) t770 t771) = some r := by rw [if_pos rfl] at H; exact H
              clear H
              have H := H1
              clear H1
              have H' := zm H
              clear H
              have hnb137 := NB786_726.out
              have hnc137 := NB726_786.out
              have hnb138 := NB786_741.out
              have hnc138 := NB741_786.out
              have hnb139 := NB786_748.out
              have hnc139 := NB748_786.out
              have hnb140 := NB786_756.out
              have hnc140 := NB756_786.out
              have hcz141_0 : w127.cell? ⟨gb786, 0, none⟩ = some (.slice none 0 0) := (blk_cell BK786.out 0).trans rfl
              have hcz141_1 : w127.cell? ⟨gb786, 1, none⟩ = some (.slice none 0 0) := (blk_cell BK786.out 1).trans rfl
              have hfz141_0 := blk_frozen BK786.out 0
              have hfz141_1 := blk_frozen BK786.out 1
              have hnb142 := NB741_726.out
              have hnc142 := NB726_741.out
              have hnb143 := NB741_748.out
              have hnc143 := NB748_741.out
              have hnb144 := NB741_756.out
              have hnc144 := NB756_741.out
              have hcz145_0 : w127.cell? ⟨gb741, 0, none⟩ = some (.slice Ao25 t734.length co25) := (blk_cell BK741.out 0).trans rfl
              have hcz145_1 : w127.cell? ⟨gb741, 1, none⟩ = some (.slice Ao28 t737.length co28) := (blk_cell BK741.out 1).trans rfl
              have hfz145_0 := blk_frozen BK741.out 0
              have hfz145_1 := blk_frozen BK741.out 1
              go_wp2_with (first | ((with_reducible refine gate_callee (f := 18) rfl ?_); refine zg (some 94) #[.agg #[.slice Ao128 t779.length co128, .slice Ao134 t782.length co134], .agg #[.slice Ao25 t734.length co25, .slice Ao28 t737.length co28]] Try.func18 ?_; (with_reducible refine (laws_eqState.calls kj67 _ _ t779 _ _ t782 _ _ t734 _ _ t737 true _ ?side1 ?side2 ?side3 ?side4 ?side5 ?side6 ?side7 ?side8 A135.out).mono ?_); (case side1 => refine (Kd.R_reads' (e := 68) (base := w.heap.size) (ok := fun k_ => ((((True ∧ some k_ ≠ (.slice Ao25 t734.length co25 : Value).ownBlock) ∧ some k_ ≠ (.slice Ao32 t766.length co32 : Value).ownBlock) ∧ some k_ ≠ (.slice Ao39 t749.length co39 : Value).ownBlock) ∧ some k_ ≠ (.slice Ao124 t773.length co124 : Value).ownBlock)) (n := t779.length) (c := co128) ?_).2.2; exact (zrs <| (Kd.R_mono (zfr (zfr (Kd.R_types HO781.out BK786.out (by decide)))) (fun _ h_ => h_.1)))); (case side2 => exact (Kd.R_reads' HO781.out).2.1); (case side3 => refine (Kd.R_reads' (e := 72) (base := w.heap.size) (ok := fun k_ => ((((True ∧ some k_ ≠ (.slice Ao28 t737.length co28 : Value).ownBlock) ∧ some k_ ≠ (.slice Ao36 t767.length co36 : Value).ownBlock) ∧ some k_ ≠ (.slice Ao44 t752.length co44 : Value).ownBlock) ∧ some k_ ≠ (.slice Ao125 t776.length co125 : Value).ownBlock)) (n := t782.length) (c := co134) ?_).2.2; exact (zrs <| (Kd.R_mono (zfr (zfr (Kd.R_types HO784.out BK786.out (by decide)))) (fun _ h_ => h_.1)))); (case side4 => exact (Kd.R_reads' HO784.out).2.1); (case side5 => refine (Kd.R_reads' (e := 68) (base := w.heap.size) (ok := fun k_ => (((some k_ ≠ (.slice Ao32 t766.length co32 : Value).ownBlock ∧ some k_ ≠ (.slice Ao39 t749.length co39 : Value).ownBlock) ∧ some k_ ≠ (.slice Ao124 t773.length co124 : Value).ownBlock) ∧ some k_ ≠ (.slice Ao128 t779.length co128 : Value).ownBlock)) (n := t734.length) (c := co25) ?_).2.2; exact (zrs <| (Kd.R_mono (zfr (zfr (Kd.R_types HO_742000.out BK786.out (by decide)))) (fun _ h_ => h_.1)))); (case side6 => exact (Kd.R_reads' HO_742000.out).2.1); (case side7 => refine (Kd.R_reads' (e := 72) (base := w.heap.size) (ok := fun k_ => (((some k_ ≠ (.slice Ao36 t767.length co36 : Value).ownBlock ∧ some k_ ≠ (.slice Ao44 t752.length co44 : Value).ownBlock) ∧ some k_ ≠ (.slice Ao125 t776.length co125 : Value).ownBlock) ∧ some k_ ≠ (.slice Ao134 t782.length co134 : Value).ownBlock)) (n := t737.length) (c := co28) ?_).2.2; exact (zrs <| (Kd.R_mono (zfr (zfr (Kd.R_types HO_742001.out BK786.out (by decide)))) (fun _ h_ => h_.1)))); (case side8 => exact (Kd.R_reads' HO_742001.out).2.1); rintro e w146 ⟨rfl, hb⟩; refine ⟨_, rfl, ?_⟩; replace HO_742000 := zm (Kd.R_below (zrs <| (Kd.R_mono (zfr (zfr (Kd.R_types HO_742000.out BK786.out (by decide)))) (fun _ h_ => h_.1))) hb); replace HO_742001 := zm (Kd.R_below (zrs <| (Kd.R_mono (zfr (zfr (Kd.R_types HO_742001.out BK786.out (by decide)))) (fun _ h_ => h_.1))) hb); replace HO_749000 := zm (Kd.R_below (zrs <| (Kd.R_mono (zfr (zfr (Kd.R_types HO_749000.out BK786.out (by decide)))) (fun _ h_ => h_.1))) hb); replace HO_749001 := zm (Kd.R_below (zrs <| (Kd.R_mono (zfr (zfr (Kd.R_types HO_749001.out BK786.out (by decide)))) (fun _ h_ => h_.1))) hb); replace HO_757000 := zm (Kd.R_below (zrs <| (Kd.R_mono (zfr (zfr (Kd.R_types HO_757000.out BK786.out (by decide)))) (fun _ h_ => h_.1))) hb); replace HO_757001 := zm (Kd.R_below (zrs <| (Kd.R_mono (zfr (zfr (Kd.R_types HO_757001.out BK786.out (by decide)))) (fun _ h_ => h_.1))) hb); replace HO775 := zm (Kd.R_below (zrs <| (Kd.R_mono (zfr (zfr (Kd.R_types HO775.out BK786.out (by decide)))) (fun _ h_ => h_.1))) hb); replace HO778 := zm (Kd.R_below (zrs <| (Kd.R_mono (zfr (zfr (Kd.R_types HO778.out BK786.out (by decide)))) (fun _ h_ => h_.1))) hb); replace HO781 := zm (Kd.R_below (zrs <| (Kd.R_mono (zfr (zfr (Kd.R_types HO781.out BK786.out (by decide)))) (fun _ h_ => h_.1))) hb); replace HO784 := zm (Kd.R_below (zrs <| (Kd.R_mono (zfr (zfr (Kd.R_types HO784.out BK786.out (by decide)))) (fun _ h_ => h_.1))) hb); replace BK726 := zm (blk_below (g := gb726) (o := .cells #[.slice A0_0 l0_0.length c0_0, .slice A0_1 l0_1.length c0_1] 25 (0, 0)) (zfar (zfar (zb BK726) NB726_786) NB726_786) hb); replace BK741 := zm (blk_below (g := gb741) (o := .cells #[.slice Ao25 t734.length co25, .slice Ao28 t737.length co28] 32 (0, 0)) (zfar (zfar (zb BK741) NB741_786) NB741_786) hb); replace BK748 := zm (blk_below (g := gb748) (o := .cells #[.slice Ao32 t766.length co32, .slice Ao36 t767.length co36] 32 (0, 0)) (zfar (zfar (zb BK748) NB748_786) NB748_786) hb); replace BK756 := zm (blk_below (g := gb756) (o := .cells #[.slice Ao39 t749.length co39, .slice Ao44 t752.length co44] 32 (0, 0)) (zfar (zfar (zb BK756) NB756_786) NB756_786) hb); replace BK786 := zm (blk_below (g := gb786) (o := .cells #[.slice Ao128 t779.length co128, .slice Ao134 t782.length co134] 32 (0, 0)) (zput (zput (zb BK786) 0) 1) hb); replace HB := zm (below_step zB hb); clear hb))
              go_meet
              case rel => exact ⟨_, ((t785 != t740)), zF, H', ⟨by have := HJ14.out; have := HJ67.out; first | omega | exact Nat.le_refl _⟩, ⟨by (try simp only [hl749000_67]); (try simp only [hl749001_67]); (with_reducible repeat (first | apply Kd.R_alloc | apply Kd.R_drewN | apply Kd.R_drew)); exact Kd.R_mono HO_742000.out (fun _ hk => ⟨hk.1.1.1, ⟨hk.1.1.2, hk.2⟩⟩)⟩, ⟨by (try simp only [hl749000_67]); (try simp only [hl749001_67]); (with_reducible repeat (first | apply Kd.R_alloc | apply Kd.R_drewN | apply Kd.R_drew)); exact Kd.R_mono HO_742001.out (fun _ hk => ⟨hk.1.1.1, ⟨hk.1.1.2, hk.2⟩⟩)⟩, ⟨by (try simp only [hl749000_67]); (try simp only [hl749001_67]); (with_reducible repeat (first | apply Kd.R_alloc | apply Kd.R_drewN | apply Kd.R_drew)); exact Kd.R_mono HO_749000.out (fun _ hk => ⟨hk.1.1.1, ⟨hk.1.1.2, hk.2⟩⟩)⟩, ⟨by (try simp only [hl749000_67]); (try simp only [hl749001_67]); (with_reducible repeat (first | apply Kd.R_alloc | apply Kd.R_drewN | apply Kd.R_drew)); exact Kd.R_mono HO_749001.out (fun _ hk => ⟨hk.1.1.1, ⟨hk.1.1.2, hk.2⟩⟩)⟩, ⟨by (try simp only [hl749000_67]); (try simp only [hl749001_67]); (with_reducible repeat (first | apply Kd.R_alloc | apply Kd.R_drewN | apply Kd.R_drew)); exact Kd.R_mono HO_757000.out (fun _ hk => ⟨hk.1.1.1, ⟨hk.1.1.2, hk.2⟩⟩)⟩, ⟨by (try simp only [hl749000_67]); (try simp only [hl749001_67]); (with_reducible repeat (first | apply Kd.R_alloc | apply Kd.R_drewN | apply Kd.R_drew)); exact Kd.R_mono HO_757001.out (fun _ hk => ⟨hk.1.1.1, ⟨hk.1.1.2, hk.2⟩⟩)⟩, ⟨by (try simp only [hl749000_67]); (try simp only [hl749001_67]); (with_reducible repeat (first | apply Kd.R_alloc | apply Kd.R_drewN | apply Kd.R_drew)); exact Kd.R_mono HO781.out (fun _ hk => ⟨hk.1.1.1.2, ⟨hk.1.1.2, hk.1.2⟩⟩)⟩, ⟨by (try simp only [hl749000_67]); (try simp only [hl749001_67]); (with_reducible repeat (first | apply Kd.R_alloc | apply Kd.R_drewN | apply Kd.R_drew)); exact Kd.R_mono HO784.out (fun _ hk => ⟨hk.1.1.1.2, ⟨hk.1.1.2, hk.1.2⟩⟩)⟩, ⟨by (try simp only [hl749000_67]); (try simp only [hl749001_67]); (with_reducible repeat (first | refine blk_drewN ?_ _ | refine blk_drew ?_ | refine blk_alloc ?_ _)); exact BK726.out⟩, ⟨by (try simp only [hl749000_67]); (try simp only [hl749001_67]); (with_reducible repeat (first | refine blk_drewN ?_ _ | refine blk_drew ?_ | refine blk_alloc ?_ _)); exact BK741.out⟩, ⟨by (try simp only [hl749000_67]); (try simp only [hl749001_67]); (with_reducible repeat (first | refine blk_drewN ?_ _ | refine blk_drew ?_ | refine blk_alloc ?_ _)); exact BK748.out⟩, ⟨by (try simp only [hl749000_67]); (try simp only [hl749001_67]); (with_reducible repeat (first | refine blk_drewN ?_ _ | refine blk_drew ?_ | refine blk_alloc ?_ _)); exact BK756.out⟩, ⟨by (try simp only [hl749000_67]); (try simp only [hl749001_67]); (with_reducible repeat (first | refine blk_drewN ?_ _ | refine blk_drew ?_ | refine blk_alloc ?_ _)); exact BK786.out⟩, ⟨zB⟩⟩
             ·replace c136 := Bool.eq_false_iff.mpr c136
              subst c136
              have H1 : (laws_FnExactSaySet.j2 kj67 t769 true t770 t771) = some r := by rw [if_neg (show ¬ (false = true) by decide)] at H; exact H
              clear H
              have H := H1
              clear H1
              have H' := zm H
              clear H
              have hnb147 := NB786_726.out
              have hnc147 := NB726_786.out
              have hnb148 := NB786_741.out
              have hnc148 := NB741_786.out
              have hnb149 := NB786_748.out
              have hnc149 := NB748_786.out
              have hnb150 := NB786_756.out
              have hnc150 := NB756_786.out
              have hcz151_0 : w127.cell? ⟨gb786, 0, none⟩ = some (.slice none 0 0) := (blk_cell BK786.out 0).trans rfl
              have hcz151_1 : w127.cell? ⟨gb786, 1, none⟩ = some (.slice none 0 0) := (blk_cell BK786.out 1).trans rfl
              have hfz151_0 := blk_frozen BK786.out 0
              have hfz151_1 := blk_frozen BK786.out 1
              have hnb152 := NB741_726.out
              have hnc152 := NB726_741.out
              have hnb153 := NB741_748.out
              have hnc153 := NB748_741.out
              have hnb154 := NB741_756.out
              have hnc154 := NB756_741.out
              have hcz155_0 : w127.cell? ⟨gb741, 0, none⟩ = some (.slice Ao25 t734.length co25) := (blk_cell BK741.out 0).trans rfl
              have hcz155_1 : w127.cell? ⟨gb741, 1, none⟩ = some (.slice Ao28 t737.length co28) := (blk_cell BK741.out 1).trans rfl
              have hfz155_0 := blk_frozen BK741.out 0
              have hfz155_1 := blk_frozen BK741.out 1
              go_wp2_with (first | ((with_reducible refine gate_callee (f := 18) rfl ?_); refine zg (some 94) #[.agg #[.slice Ao128 t779.length co128, .slice Ao134 t782.length co134], .agg #[.slice Ao25 t734.length co25, .slice Ao28 t737.length co28]] Try.func18 ?_; (with_reducible refine (laws_eqState.calls kj67 _ _ t779 _ _ t782 _ _ t734 _ _ t737 false _ ?side1 ?side2 ?side3 ?side4 ?side5 ?side6 ?side7 ?side8 A135.out).mono ?_); (case side1 => refine (Kd.R_reads' (e := 68) (base := w.heap.size) (ok := fun k_ => ((((True ∧ some k_ ≠ (.slice Ao25 t734.length co25 : Value).ownBlock) ∧ some k_ ≠ (.slice Ao32 t766.length co32 : Value).ownBlock) ∧ some k_ ≠ (.slice Ao39 t749.length co39 : Value).ownBlock) ∧ some k_ ≠ (.slice Ao124 t773.length co124 : Value).ownBlock)) (n := t779.length) (c := co128) ?_).2.2; exact (zrs <| (Kd.R_mono (zfr (zfr (Kd.R_types HO781.out BK786.out (by decide)))) (fun _ h_ => h_.1)))); (case side2 => exact (Kd.R_reads' HO781.out).2.1); (case side3 => refine (Kd.R_reads' (e := 72) (base := w.heap.size) (ok := fun k_ => ((((True ∧ some k_ ≠ (.slice Ao28 t737.length co28 : Value).ownBlock) ∧ some k_ ≠ (.slice Ao36 t767.length co36 : Value).ownBlock) ∧ some k_ ≠ (.slice Ao44 t752.length co44 : Value).ownBlock) ∧ some k_ ≠ (.slice Ao125 t776.length co125 : Value).ownBlock)) (n := t782.length) (c := co134) ?_).2.2; exact (zrs <| (Kd.R_mono (zfr (zfr (Kd.R_types HO784.out BK786.out (by decide)))) (fun _ h_ => h_.1)))); (case side4 => exact (Kd.R_reads' HO784.out).2.1); (case side5 => refine (Kd.R_reads' (e := 68) (base := w.heap.size) (ok := fun k_ => (((some k_ ≠ (.slice Ao32 t766.length co32 : Value).ownBlock ∧ some k_ ≠ (.slice Ao39 t749.length co39 : Value).ownBlock) ∧ some k_ ≠ (.slice Ao124 t773.length co124 : Value).ownBlock) ∧ some k_ ≠ (.slice Ao128 t779.length co128 : Value).ownBlock)) (n := t734.length) (c := co25) ?_).2.2; exact (zrs <| (Kd.R_mono (zfr (zfr (Kd.R_types HO_742000.out BK786.out (by decide)))) (fun _ h_ => h_.1)))); (case side6 => exact (Kd.R_reads' HO_742000.out).2.1); (case side7 => refine (Kd.R_reads' (e := 72) (base := w.heap.size) (ok := fun k_ => (((some k_ ≠ (.slice Ao36 t767.length co36 : Value).ownBlock ∧ some k_ ≠ (.slice Ao44 t752.length co44 : Value).ownBlock) ∧ some k_ ≠ (.slice Ao125 t776.length co125 : Value).ownBlock) ∧ some k_ ≠ (.slice Ao134 t782.length co134 : Value).ownBlock)) (n := t737.length) (c := co28) ?_).2.2; exact (zrs <| (Kd.R_mono (zfr (zfr (Kd.R_types HO_742001.out BK786.out (by decide)))) (fun _ h_ => h_.1)))); (case side8 => exact (Kd.R_reads' HO_742001.out).2.1); rintro e w156 ⟨rfl, hb⟩; refine ⟨_, rfl, ?_⟩; replace HO_742000 := zm (Kd.R_below (zrs <| (Kd.R_mono (zfr (zfr (Kd.R_types HO_742000.out BK786.out (by decide)))) (fun _ h_ => h_.1))) hb); replace HO_742001 := zm (Kd.R_below (zrs <| (Kd.R_mono (zfr (zfr (Kd.R_types HO_742001.out BK786.out (by decide)))) (fun _ h_ => h_.1))) hb); replace HO_749000 := zm (Kd.R_below (zrs <| (Kd.R_mono (zfr (zfr (Kd.R_types HO_749000.out BK786.out (by decide)))) (fun _ h_ => h_.1))) hb); replace HO_749001 := zm (Kd.R_below (zrs <| (Kd.R_mono (zfr (zfr (Kd.R_types HO_749001.out BK786.out (by decide)))) (fun _ h_ => h_.1))) hb); replace HO_757000 := zm (Kd.R_below (zrs <| (Kd.R_mono (zfr (zfr (Kd.R_types HO_757000.out BK786.out (by decide)))) (fun _ h_ => h_.1))) hb); replace HO_757001 := zm (Kd.R_below (zrs <| (Kd.R_mono (zfr (zfr (Kd.R_types HO_757001.out BK786.out (by decide)))) (fun _ h_ => h_.1))) hb); replace HO775 := zm (Kd.R_below (zrs <| (Kd.R_mono (zfr (zfr (Kd.R_types HO775.out BK786.out (by decide)))) (fun _ h_ => h_.1))) hb); replace HO778 := zm (Kd.R_below (zrs <| (Kd.R_mono (zfr (zfr (Kd.R_types HO778.out BK786.out (by decide)))) (fun _ h_ => h_.1))) hb); replace HO781 := zm (Kd.R_below (zrs <| (Kd.R_mono (zfr (zfr (Kd.R_types HO781.out BK786.out (by decide)))) (fun _ h_ => h_.1))) hb); replace HO784 := zm (Kd.R_below (zrs <| (Kd.R_mono (zfr (zfr (Kd.R_types HO784.out BK786.out (by decide)))) (fun _ h_ => h_.1))) hb); replace BK726 := zm (blk_below (g := gb726) (o := .cells #[.slice A0_0 l0_0.length c0_0, .slice A0_1 l0_1.length c0_1] 25 (0, 0)) (zfar (zfar (zb BK726) NB726_786) NB726_786) hb); replace BK741 := zm (blk_below (g := gb741) (o := .cells #[.slice Ao25 t734.length co25, .slice Ao28 t737.length co28] 32 (0, 0)) (zfar (zfar (zb BK741) NB741_786) NB741_786) hb); replace BK748 := zm (blk_below (g := gb748) (o := .cells #[.slice Ao32 t766.length co32, .slice Ao36 t767.length co36] 32 (0, 0)) (zfar (zfar (zb BK748) NB748_786) NB748_786) hb); replace BK756 := zm (blk_below (g := gb756) (o := .cells #[.slice Ao39 t749.length co39, .slice Ao44 t752.length co44] 32 (0, 0)) (zfar (zfar (zb BK756) NB756_786) NB756_786) hb); replace BK786 := zm (blk_below (g := gb786) (o := .cells #[.slice Ao128 t779.length co128, .slice Ao134 t782.length co134] 32 (0, 0)) (zput (zput (zb BK786) 0) 1) hb); replace HB := zm (below_step zB hb); clear hb))
              go_meet
              case rel => exact ⟨_, (true), zF, H', ⟨by have := HJ14.out; have := HJ67.out; first | omega | exact Nat.le_refl _⟩, ⟨by (try simp only [hl749000_67]); (try simp only [hl749001_67]); (with_reducible repeat (first | apply Kd.R_alloc | apply Kd.R_drewN | apply Kd.R_drew)); exact Kd.R_mono HO_742000.out (fun _ hk => ⟨hk.1.1.1, ⟨hk.1.1.2, hk.2⟩⟩)⟩, ⟨by (try simp only [hl749000_67]); (try simp only [hl749001_67]); (with_reducible repeat (first | apply Kd.R_alloc | apply Kd.R_drewN | apply Kd.R_drew)); exact Kd.R_mono HO_742001.out (fun _ hk => ⟨hk.1.1.1, ⟨hk.1.1.2, hk.2⟩⟩)⟩, ⟨by (try simp only [hl749000_67]); (try simp only [hl749001_67]); (with_reducible repeat (first | apply Kd.R_alloc | apply Kd.R_drewN | apply Kd.R_drew)); exact Kd.R_mono HO_749000.out (fun _ hk => ⟨hk.1.1.1, ⟨hk.1.1.2, hk.2⟩⟩)⟩, ⟨by (try simp only [hl749000_67]); (try simp only [hl749001_67]); (with_reducible repeat (first | apply Kd.R_alloc | apply Kd.R_drewN | apply Kd.R_drew)); exact Kd.R_mono HO_749001.out (fun _ hk => ⟨hk.1.1.1, ⟨hk.1.1.2, hk.2⟩⟩)⟩, ⟨by (try simp only [hl749000_67]); (try simp only [hl749001_67]); (with_reducible repeat (first | apply Kd.R_alloc | apply Kd.R_drewN | apply Kd.R_drew)); exact Kd.R_mono HO_757000.out (fun _ hk => ⟨hk.1.1.1, ⟨hk.1.1.2, hk.2⟩⟩)⟩, ⟨by (try simp only [hl749000_67]); (try simp only [hl749001_67]); (with_reducible repeat (first | apply Kd.R_alloc | apply Kd.R_drewN | apply Kd.R_drew)); exact Kd.R_mono HO_757001.out (fun _ hk => ⟨hk.1.1.1, ⟨hk.1.1.2, hk.2⟩⟩)⟩, ⟨by (try simp only [hl749000_67]); (try simp only [hl749001_67]); (with_reducible repeat (first | apply Kd.R_alloc | apply Kd.R_drewN | apply Kd.R_drew)); exact Kd.R_mono HO781.out (fun _ hk => ⟨hk.1.1.1.2, ⟨hk.1.1.2, hk.1.2⟩⟩)⟩, ⟨by (try simp only [hl749000_67]); (try simp only [hl749001_67]); (with_reducible repeat (first | apply Kd.R_alloc | apply Kd.R_drewN | apply Kd.R_drew)); exact Kd.R_mono HO784.out (fun _ hk => ⟨hk.1.1.1.2, ⟨hk.1.1.2, hk.1.2⟩⟩)⟩, ⟨by (try simp only [hl749000_67]); (try simp only [hl749001_67]); (with_reducible repeat (first | refine blk_drewN ?_ _ | refine blk_drew ?_ | refine blk_alloc ?_ _)); exact BK726.out⟩, ⟨by (try simp only [hl749000_67]); (try simp only [hl749001_67]); (with_reducible repeat (first | refine blk_drewN ?_ _ | refine blk_drew ?_ | refine blk_alloc ?_ _)); exact BK741.out⟩, ⟨by (try simp only [hl749000_67]); (try simp only [hl749001_67]); (with_reducible repeat (first | refine blk_drewN ?_ _ | refine blk_drew ?_ | refine blk_alloc ?_ _)); exact BK748.out⟩, ⟨by (try simp only [hl749000_67]); (try simp only [hl749001_67]); (with_reducible repeat (first | refine blk_drewN ?_ _ | refine blk_drew ?_ | refine blk_alloc ?_ _)); exact BK756.out⟩, ⟨by (try simp only [hl749000_67]); (try simp only [hl749001_67]); (with_reducible repeat (first | refine blk_drewN ?_ _ | refine blk_drew ?_ | refine blk_alloc ?_ _)); exact BK786.out⟩, ⟨zB⟩⟩
            case rest =>
             clear HC112
             try clear c1
             try clear c2
             try clear p2
             try clear c3
             try clear c4
             try clear c4b0
             try clear c4b1
             try clear c5
             try clear c6
             try clear c7
             try clear c7b0
             try clear c8
             try clear c9
             try clear c10
             try clear c11
             try clear c12
             try clear c13
             try clear c14
             try clear c15
             try clear c18
             try clear c19
             try clear c26
             try clear c29
             try clear c30
             try clear c33
             try clear c34
             try clear c40
             try clear c41
             try clear c42
             try clear c46
             try clear c47
             try clear c48
             try clear c49
             try clear c51
             try clear c52
             try clear c55
             try clear c56
             try clear c57
             try clear c59
             try clear c60
             try clear c63
             try clear c66
             try clear c74
             try clear c75
             try clear c76
             try clear c79
             try clear c79b0
             try clear c81
             try clear c82
             try clear c83
             try clear c84
             try clear c86
             try clear c87
             try clear c90
             try clear c91
             try clear c92
             try clear c94
             try clear c95
             try clear c98
             try clear c101
             try clear c101b0
             try clear c102
             try clear c103
             try clear c104
             try clear c109
             try clear c109b0
             try clear c109b1
             try clear c113
             try clear c114
             try clear c115
             try clear c120
             try clear c121
             try clear c129
             try clear c130
             try clear c131
             try clear c132
             try clear c136
             try clear c137
             try clear c138
             try clear c139
             try clear c140
             try clear c142
             try clear c143
             try clear c144
             try clear c147
             try clear c148
             try clear c149
             try clear c150
             try clear c152
             try clear c153
             try clear c154
             try clear hcz105_0
             try clear hcz105_1
             try clear hcz107_0
             try clear hcz107_1
             try clear hcz116_0
             try clear hcz116_1
             try clear hcz118_0
             try clear hcz118_1
             try clear hcz122_0
             try clear hcz122_1
             try clear hcz133_0
             try clear hcz133_1
             try clear hcz141_0
             try clear hcz141_1
             try clear hcz145_0
             try clear hcz145_1
             try clear hcz151_0
             try clear hcz151_1
             try clear hcz155_0
             try clear hcz155_1
             try clear hcz17_0
             try clear hcz17_1
             try clear hcz19_0
             try clear hcz19_1
             try clear hcz27_0
             try clear hcz27_1
             try clear hcz29_0
             try clear hcz29_1
             try clear hcz35_0
             try clear hcz35_1
             try clear hcz43_0
             try clear hcz43_1
             try clear hcz50_0
             try clear hcz50_1
             try clear hcz53_0
             try clear hcz53_1
             try clear hcz58_0
             try clear hcz58_1
             try clear hcz61_0
             try clear hcz61_1
             try clear hcz77_0
             try clear hcz77_1
             try clear hcz85_0
             try clear hcz85_1
             try clear hcz88_0
             try clear hcz88_1
             try clear hcz93_0
             try clear hcz93_1
             try clear hcz96_0
             try clear hcz96_1
             try clear hcz9_0
             try clear hcz9_1
             try clear hfz105_0
             try clear hfz105_1
             try clear hfz107_0
             try clear hfz107_1
             try clear hfz116_0
             try clear hfz116_1
             try clear hfz118_0
             try clear hfz118_1
             try clear hfz122_0
             try clear hfz122_1
             try clear hfz133_0
             try clear hfz133_1
             try clear hfz141_0
             try clear hfz141_1
             try clear hfz145_0
             try clear hfz145_1
             try clear hfz151_0
             try clear hfz151_1
             try clear hfz155_0
             try clear hfz155_1
             try clear hfz17_0
             try clear hfz17_1
             try clear hfz19_0
             try clear hfz19_1
             try clear hfz27_0
             try clear hfz27_1
             try clear hfz29_0
             try clear hfz29_1
             try clear hfz35_0
             try clear hfz35_1
             try clear hfz43_0
             try clear hfz43_1
             try clear hfz50_0
             try clear hfz50_1
             try clear hfz53_0
             try clear hfz53_1
             try clear hfz58_0
             try clear hfz58_1
             try clear hfz61_0
             try clear hfz61_1
             try clear hfz77_0
             try clear hfz77_1
             try clear hfz85_0
             try clear hfz85_1
             try clear hfz88_0
             try clear hfz88_1
             try clear hfz93_0
             try clear hfz93_1
             try clear hfz96_0
             try clear hfz96_1
             try clear hfz9_0
             try clear hfz9_1
             try clear p2
             obtain ⟨kq, x100_111, rfl, HA, HJ111, HO_742000, HO_742001, HO_749000, HO_749001, HO_757000, HO_757001, HO_787000, HO_787001, BK726, BK741, BK748, BK756, BK786, HB⟩ := hcut
             have hl757000_111 := (Kd.R_reads' HO_757000.out).1
             rw [hl757000_111] at HO_757000
             (try simp only [hl757000_111])
             (try simp only [hl757000_111] at BK726)
             (try simp only [hl757000_111] at BK741)
             (try simp only [hl757000_111] at BK748)
             (try simp only [hl757000_111] at BK756)
             (try simp only [hl757000_111] at BK786)
             (try simp only [hl757000_111] at HO_742000)
             (try simp only [hl757000_111] at HO_742001)
             (try simp only [hl757000_111] at HO_749000)
             (try simp only [hl757000_111] at HO_749001)
             (try simp only [hl757000_111] at HO_757001)
             (try simp only [hl757000_111] at HO_787000)
             (try simp only [hl757000_111] at HO_787001)
             have hl757001_111 := (Kd.R_reads' HO_757001.out).1
             rw [hl757001_111] at HO_757001
             (try simp only [hl757001_111])
             (try simp only [hl757001_111] at BK726)
             (try simp only [hl757001_111] at BK741)
             (try simp only [hl757001_111] at BK748)
             (try simp only [hl757001_111] at BK756)
             (try simp only [hl757001_111] at BK786)
             (try simp only [hl757001_111] at HO_742000)
             (try simp only [hl757001_111] at HO_742001)
             (try simp only [hl757001_111] at HO_749000)
             (try simp only [hl757001_111] at HO_749001)
             (try simp only [hl757001_111] at HO_757000)
             (try simp only [hl757001_111] at HO_787000)
             (try simp only [hl757001_111] at HO_787001)
             cases kq with
             | zero => exact absurd HA.out (by simp [laws_FnExactSaySet.j2])
             | succ kj111 =>
              have H := HA.out
              clear HA
              simp only [laws_FnExactSaySet.j2] at H
              by_cases c157 : x100_111 = true
              ·subst c157
               have H1 : (some false) = some r := by rw [if_pos rfl] at H; exact H
               clear H
               have H := H1
               clear H1
               obtain rfl := Option.some.inj H
               go_wp2
               go_ret
               exact ⟨zE, zB⟩
              ·replace c157 := Bool.eq_false_iff.mpr c157
               subst c157
               have H1 : ((laws_heldState.f kj111 t770 t771 1).bind fun t788 => (if t788 < 0 then (some false) else (if t788 = t769 then (some true) else (some false)))) = some r := by rw [if_neg (show ¬ (false = true) by decide)] at H; exact H
               clear H
               have H := H1
               clear H1
               replace H := Option.bind_eq_some_iff.mp H
               obtain ⟨t788, A1580, H⟩ := H
               replace H : (if t788 < 0 then (some false) else (if t788 = t769 then (some true) else (some false))) = some r := H
               have A158 := zm A1580
               clear A1580
               by_cases c159 : t788 < 0
               ·rw [if_pos c159] at H
                have c159b0 : decide (t788 < 0) = true := decide_eq_true c159
                clear c159
                obtain rfl := Option.some.inj H
                have hnb160 := NB756_726.out
                have hnc160 := NB726_756.out
                have hnb161 := NB756_741.out
                have hnc161 := NB741_756.out
                have hnb162 := NB756_748.out
                have hnc162 := NB748_756.out
                have hnb163 := NB756_786.out
                have hnc163 := NB786_756.out
                have hcz164_0 : wc.cell? ⟨gb756, 0, none⟩ = some (.slice Ao39 t770.length co39) := (blk_cell BK756.out 0).trans rfl
                have hcz164_1 : wc.cell? ⟨gb756, 1, none⟩ = some (.slice Ao44 t771.length co44) := (blk_cell BK756.out 1).trans rfl
                have hfz164_0 := blk_frozen BK756.out 0
                have hfz164_1 := blk_frozen BK756.out 1
                go_wp2_with (first | ((with_reducible refine gate_callee (f := 26) rfl ?_); refine zg (some 103) #[.agg #[.slice Ao39 t770.length co39, .slice Ao44 t771.length co44], .int .i64 1] Try.func26 ?_; (with_reducible refine (laws_heldState.calls kj111 _ _ t770 _ _ t771 1 t788 _ ?side1 ?side2 ?side3 ?side4 A158.out).mono ?_); (case side1 => repeat (first | exact (Kd.R_reads' HO_757000.out).2.2 | (with_reducible refine Kd.C_alloc ?_ _) | (with_reducible refine Kd.C_drewN ?_ _) | (with_reducible refine Kd.C_drew ?_))); (case side2 => exact (Kd.R_reads' HO_757000.out).2.1); (case side3 => repeat (first | exact (Kd.R_reads' HO_757001.out).2.2 | (with_reducible refine Kd.C_alloc ?_ _) | (with_reducible refine Kd.C_drewN ?_ _) | (with_reducible refine Kd.C_drew ?_))); (case side4 => exact (Kd.R_reads' HO_757001.out).2.1); rintro e w165 ⟨rfl, hb⟩; refine ⟨_, rfl, ?_⟩; replace HO_742000 := zm (Kd.R_below (zr HO_742000) hb); replace HO_742001 := zm (Kd.R_below (zr HO_742001) hb); replace HO_749000 := zm (Kd.R_below (zr HO_749000) hb); replace HO_749001 := zm (Kd.R_below (zr HO_749001) hb); replace HO_757000 := zm (Kd.R_below (zr HO_757000) hb); replace HO_757001 := zm (Kd.R_below (zr HO_757001) hb); replace HO_787000 := zm (Kd.R_below (zr HO_787000) hb); replace HO_787001 := zm (Kd.R_below (zr HO_787001) hb); replace BK726 := zm (blk_below (zb BK726) hb); replace BK741 := zm (blk_below (zb BK741) hb); replace BK748 := zm (blk_below (zb BK748) hb); replace BK756 := zm (blk_below (zb BK756) hb); replace BK786 := zm (blk_below (zb BK786) hb); replace HB := zm (below_step zB hb); clear hb))
                go_ret
                exact ⟨zE, zB⟩
               ·rw [if_neg c159] at H
                have c159b0 : decide (t788 < 0) = false := decide_eq_false c159
                clear c159
                by_cases c166 : t788 = t769
                ·rw [if_pos c166] at H
                 have c166b0 : (t788 == t769) = true := beq_iff_eq.mpr c166
                 have c166b1 : (t788 != t769) = false := bne_eq_false_iff_eq.mpr c166
                 clear c166
                 obtain rfl := Option.some.inj H
                 have hnb167 := NB756_726.out
                 have hnc167 := NB726_756.out
                 have hnb168 := NB756_741.out
                 have hnc168 := NB741_756.out
                 have hnb169 := NB756_748.out
                 have hnc169 := NB748_756.out
                 have hnb170 := NB756_786.out
                 have hnc170 := NB786_756.out
                 have hcz171_0 : wc.cell? ⟨gb756, 0, none⟩ = some (.slice Ao39 t770.length co39) := (blk_cell BK756.out 0).trans rfl
                 have hcz171_1 : wc.cell? ⟨gb756, 1, none⟩ = some (.slice Ao44 t771.length co44) := (blk_cell BK756.out 1).trans rfl
                 have hfz171_0 := blk_frozen BK756.out 0
                 have hfz171_1 := blk_frozen BK756.out 1
                 go_wp2_with (first | ((with_reducible refine gate_callee (f := 26) rfl ?_); refine zg (some 103) #[.agg #[.slice Ao39 t770.length co39, .slice Ao44 t771.length co44], .int .i64 1] Try.func26 ?_; (with_reducible refine (laws_heldState.calls kj111 _ _ t770 _ _ t771 1 t788 _ ?side1 ?side2 ?side3 ?side4 A158.out).mono ?_); (case side1 => repeat (first | exact (Kd.R_reads' HO_757000.out).2.2 | (with_reducible refine Kd.C_alloc ?_ _) | (with_reducible refine Kd.C_drewN ?_ _) | (with_reducible refine Kd.C_drew ?_))); (case side2 => exact (Kd.R_reads' HO_757000.out).2.1); (case side3 => repeat (first | exact (Kd.R_reads' HO_757001.out).2.2 | (with_reducible refine Kd.C_alloc ?_ _) | (with_reducible refine Kd.C_drewN ?_ _) | (with_reducible refine Kd.C_drew ?_))); (case side4 => exact (Kd.R_reads' HO_757001.out).2.1); rintro e w172 ⟨rfl, hb⟩; refine ⟨_, rfl, ?_⟩; replace HO_742000 := zm (Kd.R_below (zr HO_742000) hb); replace HO_742001 := zm (Kd.R_below (zr HO_742001) hb); replace HO_749000 := zm (Kd.R_below (zr HO_749000) hb); replace HO_749001 := zm (Kd.R_below (zr HO_749001) hb); replace HO_757000 := zm (Kd.R_below (zr HO_757000) hb); replace HO_757001 := zm (Kd.R_below (zr HO_757001) hb); replace HO_787000 := zm (Kd.R_below (zr HO_787000) hb); replace HO_787001 := zm (Kd.R_below (zr HO_787001) hb); replace BK726 := zm (blk_below (zb BK726) hb); replace BK741 := zm (blk_below (zb BK741) hb); replace BK748 := zm (blk_below (zb BK748) hb); replace BK756 := zm (blk_below (zb BK756) hb); replace BK786 := zm (blk_below (zb BK786) hb); replace HB := zm (below_step zB hb); clear hb))
                 go_ret
                 exact ⟨zE, zB⟩
                ·rw [if_neg c166] at H
                 have c166b0 : (t788 == t769) = false := beq_eq_false_iff_ne.mpr c166
                 have c166b1 : (t788 != t769) = true := bne_iff_ne.mpr c166
                 obtain rfl := Option.some.inj H
                 have hnb173 := NB756_726.out
                 have hnc173 := NB726_756.out
                 have hnb174 := NB756_741.out
                 have hnc174 := NB741_756.out
                 have hnb175 := NB756_748.out
                 have hnc175 := NB748_756.out
                 have hnb176 := NB756_786.out
                 have hnc176 := NB786_756.out
                 have hcz177_0 : wc.cell? ⟨gb756, 0, none⟩ = some (.slice Ao39 t770.length co39) := (blk_cell BK756.out 0).trans rfl
                 have hcz177_1 : wc.cell? ⟨gb756, 1, none⟩ = some (.slice Ao44 t771.length co44) := (blk_cell BK756.out 1).trans rfl
                 have hfz177_0 := blk_frozen BK756.out 0
                 have hfz177_1 := blk_frozen BK756.out 1
                 go_wp2_with (first | ((with_reducible refine gate_callee (f := 26) rfl ?_); refine zg (some 103) #[.agg #[.slice Ao39 t770.length co39, .slice Ao44 t771.length co44], .int .i64 1] Try.func26 ?_; (with_reducible refine (laws_heldState.calls kj111 _ _ t770 _ _ t771 1 t788 _ ?side1 ?side2 ?side3 ?side4 A158.out).mono ?_); (case side1 => repeat (first | exact (Kd.R_reads' HO_757000.out).2.2 | (with_reducible refine Kd.C_alloc ?_ _) | (with_reducible refine Kd.C_drewN ?_ _) | (with_reducible refine Kd.C_drew ?_))); (case side2 => exact (Kd.R_reads' HO_757000.out).2.1); (case side3 => repeat (first | exact (Kd.R_reads' HO_757001.out).2.2 | (with_reducible refine Kd.C_alloc ?_ _) | (with_reducible refine Kd.C_drewN ?_ _) | (with_reducible refine Kd.C_drew ?_))); (case side4 => exact (Kd.R_reads' HO_757001.out).2.1); rintro e w178 ⟨rfl, hb⟩; refine ⟨_, rfl, ?_⟩; replace HO_742000 := zm (Kd.R_below (zr HO_742000) hb); replace HO_742001 := zm (Kd.R_below (zr HO_742001) hb); replace HO_749000 := zm (Kd.R_below (zr HO_749000) hb); replace HO_749001 := zm (Kd.R_below (zr HO_749001) hb); replace HO_757000 := zm (Kd.R_below (zr HO_757000) hb); replace HO_757001 := zm (Kd.R_below (zr HO_757001) hb); replace HO_787000 := zm (Kd.R_below (zr HO_787000) hb); replace HO_787001 := zm (Kd.R_below (zr HO_787001) hb); replace BK726 := zm (blk_below (zb BK726) hb); replace BK741 := zm (blk_below (zb BK741) hb); replace BK748 := zm (blk_below (zb BK748) hb); replace BK756 := zm (blk_below (zb BK756) hb); replace BK786 := zm (blk_below (zb BK786) hb); replace HB := zm (below_step zB hb); clear hb))
                 go_ret
                 exact ⟨zE, zB⟩
           ·rw [if_neg c109] at H
            have c109b0 : (t772 == t769) = false := beq_eq_false_iff_ne.mpr c109
            have c109b1 : (t772 != t769) = true := bne_iff_ne.mpr c109
            obtain rfl := Option.some.inj H
            have hnb179 := NB756_726.out
            have hnc179 := NB726_756.out
            have hnb180 := NB756_741.out
            have hnc180 := NB741_756.out
            have hnb181 := NB756_748.out
            have hnc181 := NB748_756.out
            have hcz182_0 : wc.cell? ⟨gb756, 0, none⟩ = some (.slice Ao39 t749.length co39) := (blk_cell BK756.out 0).trans rfl
            have hcz182_1 : wc.cell? ⟨gb756, 1, none⟩ = some (.slice Ao44 t752.length co44) := (blk_cell BK756.out 1).trans rfl
            have hfz182_0 := blk_frozen BK756.out 0
            have hfz182_1 := blk_frozen BK756.out 1
            go_wp2_with (first | ((with_reducible refine gate_callee (f := 19) rfl ?_); refine zg (some 75) #[.agg #[.slice Ao39 t749.length co39, .slice Ao44 t752.length co44], .int .i64 1] Try.func19 ?_; (with_reducible refine (laws_markState.calls kj67 (fun k_ => some k_ = (.slice Ao39 t749.length co39 : Value).ownBlock) (.slice Ao39 t749.length co39) t749 (fun k_ => some k_ = (.slice Ao44 t752.length co44 : Value).ownBlock) (.slice Ao44 t752.length co44) t752 1 t769 t770 t771 w _ zB ?side2 ?side3 A99.out).mono ?_); (case side2 => exact Kd.R_tight rfl HO_757000.out); (case side3 => exact Kd.R_tight rfl HO_757001.out); rintro e w183 ⟨rfl, hy0, hy1, hb, hkp⟩; refine ⟨_, rfl, ?_⟩; replace HO_742000 := zm (Kd.R_mono (ok' := fun k_ => some k_ ≠ (.slice Ao32 t766.length co32 : Value).ownBlock ∧ some k_ ≠ (.slice Ao39 t749.length co39 : Value).ownBlock) (Kd.R_keptB ((Kd.R_apart' HO_742000.out (Kd.R_typed HO_757001.out) (by decide))) hkp (fun k_ hk_ hs_ => Or.elim hs_ (fun e_ => (hk_.1.2) e_) (fun e_ => (hk_.2) e_))) (fun k_ hk_ => ⟨hk_.1.1.1, hk_.1.1.2⟩)); replace HO_742001 := zm (Kd.R_mono (ok' := fun k_ => some k_ ≠ (.slice Ao36 t767.length co36 : Value).ownBlock ∧ some k_ ≠ (.slice Ao44 t752.length co44 : Value).ownBlock) (Kd.R_keptB ((Kd.R_apart' HO_742001.out (Kd.R_typed HO_757000.out) (by decide))) hkp (fun k_ hk_ hs_ => Or.elim hs_ (fun e_ => (hk_.2) e_) (fun e_ => (hk_.1.2) e_))) (fun k_ hk_ => ⟨hk_.1.1.1, hk_.1.1.2⟩)); replace HO_749000 := zm (Kd.R_mono (ok' := fun k_ => some k_ ≠ (.slice Ao25 t734.length co25 : Value).ownBlock ∧ some k_ ≠ (.slice Ao39 t749.length co39 : Value).ownBlock) (Kd.R_keptB ((Kd.R_apart' HO_749000.out (Kd.R_typed HO_757001.out) (by decide))) hkp (fun k_ hk_ hs_ => Or.elim hs_ (fun e_ => (hk_.1.2) e_) (fun e_ => (hk_.2) e_))) (fun k_ hk_ => ⟨hk_.1.1.1, hk_.1.1.2⟩)); replace HO_749001 := zm (Kd.R_mono (ok' := fun k_ => some k_ ≠ (.slice Ao28 t737.length co28 : Value).ownBlock ∧ some k_ ≠ (.slice Ao44 t752.length co44 : Value).ownBlock) (Kd.R_keptB ((Kd.R_apart' HO_749001.out (Kd.R_typed HO_757000.out) (by decide))) hkp (fun k_ hk_ hs_ => Or.elim hs_ (fun e_ => (hk_.2) e_) (fun e_ => (hk_.1.2) e_))) (fun k_ hk_ => ⟨hk_.1.1.1, hk_.1.1.2⟩)); replace BK726 := zm (blk_kept (zb BK726) hkp (fun hs_ => Or.elim hs_ (fun e_ => (fun e_ => (Kd.R_ne HO_757000.out BK726.out (by decide)) e_) e_) (fun e_ => (fun e_ => (Kd.R_ne HO_757001.out BK726.out (by decide)) e_) e_))); replace BK741 := zm (blk_kept (zb BK741) hkp (fun hs_ => Or.elim hs_ (fun e_ => (fun e_ => (Kd.R_ne HO_757000.out BK741.out (by decide)) e_) e_) (fun e_ => (fun e_ => (Kd.R_ne HO_757001.out BK741.out (by decide)) e_) e_))); replace BK748 := zm (blk_kept (zb BK748) hkp (fun hs_ => Or.elim hs_ (fun e_ => (fun e_ => (Kd.R_ne HO_757000.out BK748.out (by decide)) e_) e_) (fun e_ => (fun e_ => (Kd.R_ne HO_757001.out BK748.out (by decide)) e_) e_))); replace BK756 := zm (blk_kept (zb BK756) hkp (fun hs_ => Or.elim hs_ (fun e_ => (fun e_ => (Kd.R_ne HO_757000.out BK756.out (by decide)) e_) e_) (fun e_ => (fun e_ => (Kd.R_ne HO_757001.out BK756.out (by decide)) e_) e_))); replace HO_757000 := zm (Kd.R_reok rfl hy0 (fun k_ e_ => HO_757000.out.1 k_ e_)); replace HO_757001 := zm (Kd.R_reok rfl hy1 (fun k_ e_ => HO_757001.out.1 k_ e_)); replace HB := zm (hb); clear hb hkp hy0; (try clear hy1); have hcz184_0 : w183.cell? ⟨gb756, 0, none⟩ = some (.slice Ao39 t749.length co39) := (blk_cell BK756.out 0).trans rfl; have hcz184_1 : w183.cell? ⟨gb756, 1, none⟩ = some (.slice Ao44 t752.length co44) := (blk_cell BK756.out 1).trans rfl; have hfz184_0 := blk_frozen BK756.out 0; have hfz184_1 := blk_frozen BK756.out 1) | ((with_reducible refine gate_callee (f := 26) rfl ?_); refine goesL_ (some 78) rfl rfl Try.func26 (by kernel_rfl) rfl #[.agg #[.slice Ao39 t770.length co39, .slice Ao44 t771.length co44], .int .i64 1] rfl (by (try simp only [List.map_toArray, List.map_cons, List.map_nil]); first | done | (rw [show t770.length = t749.length from (Kd.R_reads' HO_757000.out).1.symm, show t771.length = t752.length from (Kd.R_reads' HO_757001.out).1.symm] <;> rfl) | rfl | (simp only [List.length_drop, List.length_take]; rfl)) ?_; (with_reducible refine (laws_heldState.calls kj67 _ _ t770 _ _ t771 1 t772 _ ?side1 ?side2 ?side3 ?side4 A100.out).mono ?_); (case side1 => repeat (first | exact (Kd.R_reads' HO_757000.out).2.2 | (with_reducible refine Kd.C_alloc ?_ _) | (with_reducible refine Kd.C_drewN ?_ _) | (with_reducible refine Kd.C_drew ?_))); (case side2 => rw [show t770.length = t749.length from (Kd.R_reads' HO_757000.out).1.symm]; exact (Kd.R_reads' HO_757000.out).2.1); (case side3 => repeat (first | exact (Kd.R_reads' HO_757001.out).2.2 | (with_reducible refine Kd.C_alloc ?_ _) | (with_reducible refine Kd.C_drewN ?_ _) | (with_reducible refine Kd.C_drew ?_))); (case side4 => rw [show t771.length = t752.length from (Kd.R_reads' HO_757001.out).1.symm]; exact (Kd.R_reads' HO_757001.out).2.1); rintro e w185 ⟨rfl, hb⟩; refine ⟨_, rfl, ?_⟩; replace HO_742000 := zm (Kd.R_below (zr HO_742000) hb); replace HO_742001 := zm (Kd.R_below (zr HO_742001) hb); replace HO_749000 := zm (Kd.R_below (zr HO_749000) hb); replace HO_749001 := zm (Kd.R_below (zr HO_749001) hb); replace HO_757000 := zm (Kd.R_below (zr HO_757000) hb); replace HO_757001 := zm (Kd.R_below (zr HO_757001) hb); replace BK726 := zm (blk_below (zb BK726) hb); replace BK741 := zm (blk_below (zb BK741) hb); replace BK748 := zm (blk_below (zb BK748) hb); replace BK756 := zm (blk_below (zb BK756) hb); replace HB := zm (below_step zB hb); clear hb))
            go_ret
            exact ⟨zE, zB⟩
      ·replace c66 := Bool.eq_false_iff.mpr c66
       subst c66
       have H1 : (some false) = some r := by rw [if_neg (show ¬ (false = true) by decide)] at H; exact H
       clear H
       have H := H1
       clear H1
       obtain rfl := Option.some.inj H
       try go_wp2
       replace HO_742000 := zm (Kd.R_drew HO_742000.out)
       replace HO_742001 := zm (Kd.R_drew HO_742001.out)
       replace HO_749000 := zm (Kd.R_drew HO_749000.out)
       replace HO_749001 := zm (Kd.R_drew HO_749001.out)
       replace HO_757000 := zm (Kd.R_drew HO_757000.out)
       replace HO_757001 := zm (Kd.R_drew HO_757001.out)
       replace BK726 := zm (blk_drew BK726.out)
       replace BK741 := zm (blk_drew BK741.out)
       replace BK748 := zm (blk_drew BK748.out)
       replace BK756 := zm (blk_drew BK756.out)
       replace HB := zm (below_drew1 HB.out)
       refine start_ (n := 5) (S := fun w' => w'.cell? ⟨gb748, 0, none⟩ = some (.slice Ao32 t742.length co32) ∧ w'.cell? ⟨gb748, 1, none⟩ = some (.slice Ao36 t745.length co36) ∧ w'.cell? ⟨gb726, 0, none⟩ = some (.slice A0_0 l0_0.length c0_0) ∧ w'.cell? ⟨gb726, 1, none⟩ = some (.slice A0_1 l0_1.length c0_1)) (ds := []) (zl 5 0) (by kernel_rfl) rfl rfl ⟨(blk_cell BK748.out 0).trans rfl, (blk_cell BK748.out 1).trans rfl, (blk_cell BK726.out 0).trans rfl, (blk_cell BK726.out 1).trans rfl⟩ (fun hHeld => ?_)
       generalize wc.drew = w186 at HO_742000 HO_742001 HO_749000 HO_749001 HO_757000 HO_757001 BK726 BK741 BK748 BK756 HB hHeld ⊢
       refine zt 0 (some 52) (zl 5 1) ?_
       refine zt 1 (some 53) (zl 5 3) ?_
       refine zo 2 (some 54) (zl 5 7) (fun K hK => ?_)
       refine zgo #[.agg #[.slice A0_0 l0_0.length c0_0, .slice A0_1 l0_1.length c0_1]] Try.func15 ?_
       with_reducible refine (laws_toState.calls kj14 _ _ l0_0 _ _ l0_1 t758 t761 _ (zk (Kd.C_below HR0_0.out HB.out)) HC0_0.out (zk (Kd.C_below HR0_1.out HB.out)) HC0_1.out A64.out).mono ?_
       rintro e w187 ⟨v759, v762, rfl, ho0, ho1, hb⟩
       refine ⟨_, rfl, ?_⟩
       have HO760 := zm (Kd.R_lower (Kd.R_new' (Kd.R_new' (Kd.R_new' ho0 (Kd.R_lt (zr HO_742000))) (Kd.R_lt (zr HO_749000))) (Kd.R_lt (zr HO_757000))) (below_size zB))
       replace HO_742000 := zm (Kd.R_elder' (zr HO_742000) (Kd.R_base ho0) hb)
       replace HO_749000 := zm (Kd.R_elder' (zr HO_749000) (Kd.R_base ho0) hb)
       replace HO_757000 := zm (Kd.R_elder' (zr HO_757000) (Kd.R_base ho0) hb)
       have HO763 := zm (Kd.R_lower (Kd.R_new' (Kd.R_new' (Kd.R_new' ho1 (Kd.R_lt (zr HO_742001))) (Kd.R_lt (zr HO_749001))) (Kd.R_lt (zr HO_757001))) (below_size zB))
       replace HO_742001 := zm (Kd.R_elder' (zr HO_742001) (Kd.R_base ho1) hb)
       replace HO_749001 := zm (Kd.R_elder' (zr HO_749001) (Kd.R_base ho1) hb)
       replace HO_757001 := zm (Kd.R_elder' (zr HO_757001) (Kd.R_base ho1) hb)
       replace BK726 := zm (blk_below (zb BK726) hb)
       replace BK741 := zm (blk_below (zb BK741) hb)
       replace BK748 := zm (blk_below (zb BK748) hb)
       replace BK756 := zm (blk_below (zb BK756) hb)
       replace HB := zm (below_step zB hb)
       (try clear hb)
       (try clear hb2)
       (try clear hk)
       (try clear hi)
       (try clear ho0)
       (try clear ho1)
       obtain ⟨Ao188, co188, eo188⟩ := Kd.R_slice HO760.out
       (first | subst eo188 | (injection eo188 with f1_ f2_ f3_; have f4_ := f1_.symm; have f5_ := f3_.symm; clear f1_ f2_ f3_; subst f4_; subst f5_))
       obtain ⟨Ao189, co189, eo189⟩ := Kd.R_slice HO763.out
       (first | subst eo189 | (injection eo189 with f1_ f2_ f3_; have f4_ := f1_.symm; have f5_ := f3_.symm; clear f1_ f2_ f3_; subst f4_; subst f5_))
       refine hK.out _ _ ⟨(blk_cell BK748.out 0).trans rfl, (blk_cell BK748.out 1).trans rfl, (blk_cell BK726.out 0).trans rfl, (blk_cell BK726.out 1).trans rfl⟩ (fun hHeld => ?_)
       clear hK K
       refine zn ?_
       refine zo 3 (some 55) (zl 5 15) (fun K hK => ?_)
       refine zgo #[.agg #[.slice Ao32 t742.length co32, .slice Ao36 t745.length co36], .agg #[.slice Ao188 t758.length co188, .slice Ao189 t761.length co189]] Try.func18 ?_
       with_reducible refine (laws_eqState.calls kj14 _ _ t742 _ _ t745 _ _ t758 _ _ t761 false _ ?side1 ?side2 ?side3 ?side4 ?side5 ?side6 ?side7 ?side8 A65.out).mono ?_
       (case side1 => repeat (first | exact (Kd.R_reads' HO_749000.out).2.2 | (with_reducible refine Kd.C_alloc ?_ _) | (with_reducible refine Kd.C_drewN ?_ _) | (with_reducible refine Kd.C_drew ?_)))
       (case side2 => exact (Kd.R_reads' HO_749000.out).2.1)
       (case side3 => repeat (first | exact (Kd.R_reads' HO_749001.out).2.2 | (with_reducible refine Kd.C_alloc ?_ _) | (with_reducible refine Kd.C_drewN ?_ _) | (with_reducible refine Kd.C_drew ?_)))
       (case side4 => exact (Kd.R_reads' HO_749001.out).2.1)
       (case side5 => repeat (first | exact (Kd.R_reads' HO760.out).2.2 | (with_reducible refine Kd.C_alloc ?_ _) | (with_reducible refine Kd.C_drewN ?_ _) | (with_reducible refine Kd.C_drew ?_)))
       (case side6 => exact (Kd.R_reads' HO760.out).2.1)
       (case side7 => repeat (first | exact (Kd.R_reads' HO763.out).2.2 | (with_reducible refine Kd.C_alloc ?_ _) | (with_reducible refine Kd.C_drewN ?_ _) | (with_reducible refine Kd.C_drew ?_)))
       (case side8 => exact (Kd.R_reads' HO763.out).2.1)
       rintro e w190 ⟨rfl, hb⟩
       refine ⟨_, rfl, ?_⟩
       replace HO_742000 := zm (Kd.R_below (zr HO_742000) hb)
       replace HO_742001 := zm (Kd.R_below (zr HO_742001) hb)
       replace HO_749000 := zm (Kd.R_below (zr HO_749000) hb)
       replace HO_749001 := zm (Kd.R_below (zr HO_749001) hb)
       replace HO_757000 := zm (Kd.R_below (zr HO_757000) hb)
       replace HO_757001 := zm (Kd.R_below (zr HO_757001) hb)
       replace HO760 := zm (Kd.R_below (zr HO760) hb)
       replace HO763 := zm (Kd.R_below (zr HO763) hb)
       replace BK726 := zm (blk_below (zb BK726) hb)
       replace BK741 := zm (blk_below (zb BK741) hb)
       replace BK748 := zm (blk_below (zb BK748) hb)
       replace BK756 := zm (blk_below (zb BK756) hb)
       replace HB := zm (below_step zB hb)
       (try clear hb)
       (try clear hb2)
       (try clear hk)
       (try clear hi)
       refine hK.out _ _ ⟨(blk_cell BK748.out 0).trans rfl, (blk_cell BK748.out 1).trans rfl, (blk_cell BK726.out 0).trans rfl, (blk_cell BK726.out 1).trans rfl⟩ (fun hHeld => ?_)
       clear hK K
       refine zn ?_
       refine zp 4 (some 56) (zl 5 31) ?_
       refine done_ (by kernel_rfl) ?_
       try go_wp2
       go_ret
       exact ⟨zE, zB⟩

def laws_FnExactSaySet.Pure : Prop := ∀ (l0_0 : List (S94)) (l0_1 : List (S98)) (a1 : Int) (a2 : ByteArray), l0_0.length ≤ maxLen → l0_0.length * 56 ≤ 140737488351232 → (∀ x ∈ l0_0, ((Lit.int .i64 x.f0).wf = true ∧ ((Lit.int .i64 x.f1.f0).wf = true ∧ ((Lit.int .i64 x.f1.f1).wf = true ∧ ((Lit.int .i64 x.f1.f2).wf = true ∧ ((Lit.int .i64 x.f1.f3).wf = true ∧ x.f1.f4.size ≤ 140737488351232)))))) → l0_1.length ≤ maxLen → l0_1.length * 16 ≤ 140737488351232 → (∀ x ∈ l0_1, ((Lit.int .i64 x.f0).wf = true ∧ (Lit.int .i64 x.f1).wf = true)) → (Lit.int .i64 a1).wf = true → a2.size ≤ 140737488351232 → ∃ k, laws_FnExactSaySet.f k l0_0 l0_1 a1 a2 = some true

end Go.Proofs.Ytgapdegniepjiaa.P
