-- by a program of this session, for this seat
import Derived.Test.YtnmofppbijmhoaaZ
import Derived.Test.YtnmofppbijmhoaaP0
import Derived.Test.YtnmofppbijmhoaaPaa
import Derived.Test.YtnmofppbijmhoaaPab
import Derived.Test.YtnmofppbijmhoaaPat
import Derived.Test.YtnmofppbijmhoaaPan
import Derived.Test.YtnmofppbijmhoaaPao
import Derived.Test.YtnmofppbijmhoaaPap
import Derived.Test.YtnmofppbijmhoaaPaq
import Derived.Test.YtnmofppbijmhoaaPbf
namespace Go.Proofs.Ytnmofppbijmhoaa.P
open Go.RowKit Go.Proofs.YtnmofppbijmhoaaW.PrintWords Go.Proofs.YtnmofppbijmhoaaW.PrintLast Go.Proofs.YtnmofppbijmhoaaW.PrintMore Go.Proofs.Ytnmofppbijmhoaa.Z
attribute [local go_sem] max2_int min2_int max_two min_two max_three min_three max_four min_four   -- for this text's walks alone
set_option linter.unusedVariables false
set_option linter.unusedSimpArgs false

/-- A later world, one event on. -/
class Nx (w : outParam World) (w1 : World) : Prop where out : Below w.heap.size w w1
instance (priority := low) later_nx (w w' w1 : World) [n : Nx w' w1] [i : Later w w'] : Later w w1 := ⟨below_step i.out n.out⟩
/-- A block that was new in W. -/
class Fb (g : Nat) (W : outParam World) : Prop where out : g = W.heap.size
instance later_set (w w' W : World) (g j : Nat) (v : Value) [f : Fb g W] [k : Later w W] [i : Later w w'] : Later w (w'.setCell ⟨g, j, none⟩ v) := ⟨below_set i.out (f.out ▸ k.out.size)⟩
theorem zL {w w' : World} [i : Later w w'] : Below w.heap.size w w' := i.out
theorem zRC {α : Type} {d : Kd α} {w : World} {e base : Nat} {ok : Nat → Prop} {v : Value} {xs : List α} (h : Kd.R d e w base ok v xs) : ∃ A c, v = .slice A xs.length c ∧ Aside0 (Kd.C d w A xs.length xs ∧ xs.length ≤ c) := by
 obtain ⟨A, c, rfl⟩ := Kd.R_slice h
 obtain ⟨_, h1, h2⟩ := Kd.R_reads' h
 exact ⟨A, c, rfl, h2, h1⟩
theorem zd2 {w : World} {g : Nat} {v0 v1 : Value} {t : TypeId} (w' : World) (h : Aside0 (w.heap[g]? = some (.cells #[v0, v1] t (0, 0)))) [i : Later w w'] : w'.cell? ⟨g, 0, none⟩ = some v0 ∧ w'.cell? ⟨g, 1, none⟩ = some v1 ∧ w'.frozen? ⟨g, 0, none⟩ = false ∧ w'.frozen? ⟨g, 1, none⟩ = false := zc2 ⟨blk_below h.out i.out⟩
theorem zlow {α : Type} {d : Kd α} {w : World} {e base : Nat} {ok : Nat → Prop} {v : Value} {xs : List α} (h : Kd.R d e w base ok v xs) : Aside0 (Kd.R d e w 0 (fun _ => True) v xs) := ⟨Kd.R_mono (Kd.R_lower h (Nat.zero_le _)) fun _ _ => trivial⟩
section
variable {P : Program} {ops : Array Oper} {Q : Exit → Act → World → Prop} {md : Region.Mode} {S : World → Prop} {ds : List Nat}
theorem zj {fuel : Nat} {l : Array Bool} {a a' : Act} {w : World} (h : wpAnyLast P md ops Q S ds fuel l a' w)
 (ha : a = a' := by first | (simp only [putAll, Act.put, List.setIfInBounds_toArray, List.set_cons_zero, List.set_cons_succ]; done) | (simp only [putAll, Act.put, List.setIfInBounds_toArray, List.set_cons_zero, List.set_cons_succ]; rfl)) : wpAnyLast P md ops Q S ds fuel l a w := norm_ ha h
theorem zj2 {fuel : Nat} {l : Array Bool} {a a' : Act} {w : World} (h : wpAnyLast P md ops Q S ds fuel l a' w)
 (ha : a = a' := by simp only [putAll, Act.put, List.setIfInBounds_toArray, List.set_cons_zero, List.set_cons_succ]; rfl) : wpAnyLast P md ops Q S ds fuel l a w := norm_ ha h
theorem zlit {a : Act} {o : Oper} {Kc : Act → World → Prop} {W : World} {x : Int} {y : List Int} (N : Tmp) (hy : Aside0 (y = [x])) (h : ∀ A c w1, Nx W w1 → Aside0 (Kd.C (Kd.int .i64) w1 A y.length y ∧ y.length ≤ c) → Kc (a.put o.dst (.slice A y.length c)) w1)
 (hw : Region.wanted o (yielded ops a.tmps) = true := by rfl) (hd : o.dst = some N := by rfl)
 (hrun : (execOp a.eval o).run P W = .ok (.value (.slice (some ⟨W.heap.size, 0, none⟩) 1 1)) (W.alloc (.cells #[.int .i64 x] 3)) := by first | (go_simp; done) | (go_simp; rfl)) : if Region.wanted o (yielded ops a.tmps) = true then Oper.wp P o a W Kc Q else Kc (a.put o.dst undef) W := by
 refine Kd.R_lit_step (Kd.int .i64) W.heap.size 3 hw hd (xs := ([x] : List Int)) (inner := [.int .i64 x]) (ok := fun _ => True) (okp := fun _ => True) hrun (Reps.one (show Kd.M (Kd.int .i64) _ _ _ x [.int .i64 x] from rfl) (Reps.none _ _)) (fun _ hk => hk) trivial (Below.refl _ _) (Nat.le_refl _) (by simp) ?_
 intro v w1 ho hb _ _
 rw [← hy.out] at ho
 obtain ⟨A, c, rfl, hC⟩ := zRC ho
 exact h A c w1 ⟨hb⟩ hC
end
/-! ### laws_FnSlices: function 10 -/
mutual
def laws_FnSlices.l0 : Nat → List Int → Int → List (S44) → List (S58) → List (S44) → List (S58) → Option (Bool)
 | 0, _, _, _, _, _, _ => none
 | k + 1, x0, x7, x1385000, x1385001, x1408000, x1408001 => if x7 < 4 then ((impl_Slice.f k x1385000 x1385001 (([x7] : List Int))).bind fun bt1411 => ((impl_StateJoin.f k x1408000 x1408001 bt1411.1 bt1411.2).bind fun bt1417 => (laws_FnSlices.l0 k x0 (wrap64 (x7 + 1)) x1385000 x1385001 bt1417.1 bt1417.2.1))) else ((spec_DrawStateJoin.f k x0).bind fun bt1424 => ((impl_TreeOf.f k bt1424.1 bt1424.2.1).bind fun bt1438 => ((impl_TreeOf.f k bt1424.2.2.1 bt1424.2.2.2).bind fun bt1443 => (laws_FnSlices.l1 k 0 x1385000 x1385001 x1408000 x1408001 bt1424.1 bt1424.2.1 bt1424.2.2.1 bt1424.2.2.2 bt1438.1 bt1438.2 bt1443.1 bt1443.2))))
def laws_FnSlices.l1 : Nat → Int → List (S44) → List (S58) → List (S44) → List (S58) → List (S44) → List (S58) → List (S44) → List (S58) → List Int → Int → List Int → Int → Option (Bool)
 | 0, _, _, _, _, _, _, _, _, _, _, _, _, _ => none
 | k + 1, x12, x1385000, x1385001, x1408000, x1408001, x1437000, x1437001, x1438000, x1438001, x1443000, x1443001, x1448000, x1448001 => if x12 < (x1443000.length : Int) then (laws_FnSlices.j2 k x12 (decide (x12 < (x1448000.length : Int))) x1385000 x1385001 x1408000 x1408001 x1437000 x1437001 x1438000 x1438001 x1443000 x1443001 x1448000 x1448001) else (laws_FnSlices.j2 k x12 false x1385000 x1385001 x1408000 x1408001 x1437000 x1437001 x1438000 x1438001 x1443000 x1443001 x1448000 x1448001)
def laws_FnSlices.j2 : Nat → Int → Bool → List (S44) → List (S58) → List (S44) → List (S58) → List (S44) → List (S58) → List (S44) → List (S58) → List Int → Int → List Int → Int → Option (Bool)
 | 0, _, _, _, _, _, _, _, _, _, _, _, _, _, _ => none
 | k + 1, x12, x78, x1385000, x1385001, x1408000, x1408001, x1437000, x1437001, x1438000, x1438001, x1443000, x1443001, x1448000, x1448001 => if x78 = true then ((impl_Slice.f k x1437000 x1437001 (([x12] : List Int))).bind fun bt1456 => ((impl_StateBytes.f k bt1456.1 bt1456.2).bind fun t1462 => ((impl_Slice.f k x1438000 x1438001 (([x12] : List Int))).bind fun bt1468 => ((impl_StateBytes.f k bt1468.1 bt1468.2).bind fun t1474 => (if (strOfNums t1462).toList = (strOfNums t1474).toList then (if 0 ≤ x12 then (if x12 < (x1443000.length : Int) then (if x12 < (x1448000.length : Int) then (if (rd x1443000 x12) = (rd x1448000 x12) then (laws_FnSlices.l1 k (wrap64 (x12 + 1)) x1385000 x1385001 x1408000 x1408001 x1437000 x1437001 x1438000 x1438001 x1443000 x1443001 x1448000 x1448001) else (some false)) else (none)) else (none)) else (none)) else (laws_FnSlices.l1 k (wrap64 (x12 + 1)) x1385000 x1385001 x1408000 x1408001 x1437000 x1437001 x1438000 x1438001 x1443000 x1443001 x1448000 x1448001)))))) else ((impl_StateSame.f k x1408000 x1408001 x1385000 x1385001).bind fun t1448 => (if t1448 = true then ((impl_TreeOf.f k x1385000 x1385001).bind fun bt1449 => (some ((bt1449.1.length : Int) == 4))) else (some false)))
end
def laws_FnSlices.f (k : Nat) (l0 : List Int) : Option (Bool) := (laws_big.f l0).bind fun t1374 => (if t1374 = true then (some true) else ((spec_DrawSlice.f k l0).bind fun bt1375 => ((impl_Slice.f k bt1375.1 bt1375.2.1 bt1375.2.2).bind fun bt1385 => ((spec_Slice.f k bt1375.1 bt1375.2.1 bt1375.2.2).bind fun bt1392 => ((spec_StateSame.f k bt1385.1 bt1385.2 bt1392.1 bt1392.2).bind fun t1398 => (if t1398 = true then ((spec_StateOk.f k bt1375.1 bt1375.2.1).bind fun t1399 => (if t1399 = true then (laws_FnSlices.l0 k l0 0 bt1375.1 bt1375.2.1 ([] : List (S44)) ([] : List (S58))) else ((impl_StateBytes.f k bt1375.1 bt1375.2.1).bind fun t1400 => (if (t1400.length : Int) = 0 then ((impl_TreeOf.f k bt1375.1 bt1375.2.1).bind fun bt1403 => (some ((bt1403.1.length : Int) == 0))) else (some false))))) else (some false)))))))
theorem laws_FnSlices.mono_l : ∀ k, (∀ y0 y1 y2 y3 y4 y5, LeO (laws_FnSlices.l0 k y0 y1 y2 y3 y4 y5) (laws_FnSlices.l0 (k + 1) y0 y1 y2 y3 y4 y5)) ∧ (∀ y0 y1 y2 y3 y4 y5 y6 y7 y8 y9 y10 y11 y12, LeO (laws_FnSlices.l1 k y0 y1 y2 y3 y4 y5 y6 y7 y8 y9 y10 y11 y12) (laws_FnSlices.l1 (k + 1) y0 y1 y2 y3 y4 y5 y6 y7 y8 y9 y10 y11 y12)) ∧ (∀ y0 y1 y2 y3 y4 y5 y6 y7 y8 y9 y10 y11 y12 y13, LeO (laws_FnSlices.j2 k y0 y1 y2 y3 y4 y5 y6 y7 y8 y9 y10 y11 y12 y13) (laws_FnSlices.j2 (k + 1) y0 y1 y2 y3 y4 y5 y6 y7 y8 y9 y10 y11 y12 y13))
 | 0 => ⟨fun _ _ _ _ _ _ r h => by simp [laws_FnSlices.l0] at h, fun _ _ _ _ _ _ _ _ _ _ _ _ _ r h => by simp [laws_FnSlices.l1] at h, fun _ _ _ _ _ _ _ _ _ _ _ _ _ _ r h => by simp [laws_FnSlices.j2] at h⟩
 | k + 1 => by
  obtain ⟨ih0, ih1, ih2⟩ := laws_FnSlices.mono_l k
  refine ⟨?_, ?_, ?_⟩
  ·intro y0 y1 y2 y3 y4 y5
   unfold laws_FnSlices.l0
   repeat' first | (with_reducible first | exact LeO.refl _ | exact LeO.none _ | refine LeO.ite ?_ ?_ | refine LeO.bind ?_ (fun _ => ?_) | apply ih0 | apply ih1 | apply ih2 | apply impl_Slice.mono | apply impl_StateBytes.mono | apply impl_StateJoin.mono | apply impl_StateSame.mono | apply impl_TreeOf.mono | apply spec_DrawSlice.mono | apply spec_DrawStateJoin.mono | apply spec_Slice.mono | apply spec_StateOk.mono | apply spec_StateSame.mono) | apply ih0 | apply ih1 | apply ih2 | apply impl_Slice.mono | apply impl_StateBytes.mono | apply impl_StateJoin.mono | apply impl_StateSame.mono | apply impl_TreeOf.mono | apply spec_DrawSlice.mono | apply spec_DrawStateJoin.mono | apply spec_Slice.mono | apply spec_StateOk.mono | apply spec_StateSame.mono | exact LeO.none _ | refine LeO.ite ?_ ?_ | refine LeO.bind ?_ (fun _ => ?_)
  ·intro y0 y1 y2 y3 y4 y5 y6 y7 y8 y9 y10 y11 y12
   unfold laws_FnSlices.l1
   repeat' first | (with_reducible first | exact LeO.refl _ | exact LeO.none _ | refine LeO.ite ?_ ?_ | refine LeO.bind ?_ (fun _ => ?_) | apply ih0 | apply ih1 | apply ih2 | apply impl_Slice.mono | apply impl_StateBytes.mono | apply impl_StateJoin.mono | apply impl_StateSame.mono | apply impl_TreeOf.mono | apply spec_DrawSlice.mono | apply spec_DrawStateJoin.mono | apply spec_Slice.mono | apply spec_StateOk.mono | apply spec_StateSame.mono) | apply ih0 | apply ih1 | apply ih2 | apply impl_Slice.mono | apply impl_StateBytes.mono | apply impl_StateJoin.mono | apply impl_StateSame.mono | apply impl_TreeOf.mono | apply spec_DrawSlice.mono | apply spec_DrawStateJoin.mono | apply spec_Slice.mono | apply spec_StateOk.mono | apply spec_StateSame.mono | exact LeO.none _ | refine LeO.ite ?_ ?_ | refine LeO.bind ?_ (fun _ => ?_)
  ·intro y0 y1 y2 y3 y4 y5 y6 y7 y8 y9 y10 y11 y12 y13
   unfold laws_FnSlices.j2
   repeat' first | (with_reducible first | exact LeO.refl _ | exact LeO.none _ | refine LeO.ite ?_ ?_ | refine LeO.bind ?_ (fun _ => ?_) | apply ih0 | apply ih1 | apply ih2 | apply impl_Slice.mono | apply impl_StateBytes.mono | apply impl_StateJoin.mono | apply impl_StateSame.mono | apply impl_TreeOf.mono | apply spec_DrawSlice.mono | apply spec_DrawStateJoin.mono | apply spec_Slice.mono | apply spec_StateOk.mono | apply spec_StateSame.mono) | apply ih0 | apply ih1 | apply ih2 | apply impl_Slice.mono | apply impl_StateBytes.mono | apply impl_StateJoin.mono | apply impl_StateSame.mono | apply impl_TreeOf.mono | apply spec_DrawSlice.mono | apply spec_DrawStateJoin.mono | apply spec_Slice.mono | apply spec_StateOk.mono | apply spec_StateSame.mono | exact LeO.none _ | refine LeO.ite ?_ ?_ | refine LeO.bind ?_ (fun _ => ?_)
theorem laws_FnSlices.mono : ∀ a0 k, LeO (laws_FnSlices.f k a0) (laws_FnSlices.f (k + 1) a0) := by
 intro a0 k; obtain ⟨ih0, ih1, ih2⟩ := laws_FnSlices.mono_l k
 unfold laws_FnSlices.f
 repeat' first | (with_reducible first | exact LeO.refl _ | exact LeO.none _ | refine LeO.ite ?_ ?_ | refine LeO.bind ?_ (fun _ => ?_) | apply ih0 | apply ih1 | apply ih2 | apply impl_Slice.mono | apply impl_StateBytes.mono | apply impl_StateJoin.mono | apply impl_StateSame.mono | apply impl_TreeOf.mono | apply spec_DrawSlice.mono | apply spec_DrawStateJoin.mono | apply spec_Slice.mono | apply spec_StateOk.mono | apply spec_StateSame.mono) | apply ih0 | apply ih1 | apply ih2 | apply impl_Slice.mono | apply impl_StateBytes.mono | apply impl_StateJoin.mono | apply impl_StateSame.mono | apply impl_TreeOf.mono | apply spec_DrawSlice.mono | apply spec_DrawStateJoin.mono | apply spec_Slice.mono | apply spec_StateOk.mono | apply spec_StateSame.mono | exact LeO.none _ | refine LeO.ite ?_ ?_ | refine LeO.bind ?_ (fun _ => ?_)
def laws_FnSlices.T13 : Bool × List (List Nat × List Nat) := (true, [([], []), ([], []), ([], []), ([2], [2]), ([1, 3], [1, 3]), ([0, 4, 4], [0, 4]), ([5], [5]), ([6], [6]), ([6], [6]), ([7, 5, 0, 1, 2, 3, 4, 5, 6, 7], [7])])
def laws_FnSlices.B13 : List Nat := [0, 0, 0, 4, 14, 31, 63, 127, 127, 255]
theorem laws_FnSlices.tab13 : rtab .any (opsOf Try.f10 13) = laws_FnSlices.T13 := by kernel_rfl
theorem laws_FnSlices.bits13 : waitsOk laws_FnSlices.T13.2 laws_FnSlices.B13 = true := by kernel_rfl
def laws_FnSlices.T20 : Bool × List (List Nat × List Nat) := (true, [([], []), ([], []), ([1], [1]), ([0, 2], [0, 2]), ([3, 3], [3]), ([4], [4]), ([], []), ([], []), ([7], [7]), ([6, 8, 4], [6, 8]), ([9, 9], [9]), ([10], [10]), ([5, 11], [5, 11]), ([12, 10, 0, 1, 2, 3, 4, 5, 6, 7, 8, 9, 10, 11, 12], [12])])
def laws_FnSlices.B20 : List Nat := [0, 0, 2, 7, 15, 31, 0, 0, 128, 479, 991, 2015, 4095, 8191]
theorem laws_FnSlices.tab20 : rtab .any (opsOf Try.f10 20) = laws_FnSlices.T20 := by kernel_rfl
theorem laws_FnSlices.bits20 : waitsOk laws_FnSlices.T20.2 laws_FnSlices.B20 = true := by kernel_rfl
def laws_FnSlices.T21 : Bool × List (List Nat × List Nat) := (true, [([], []), ([0], [0]), ([1], [1]), ([2, 1], [1, 2]), ([1], [1]), ([3, 4, 1], [1, 3, 4]), ([5, 1], [1, 5]), ([1], [1]), ([7, 1], [1, 7]), ([1], [1]), ([8, 9, 1], [1, 8, 9]), ([10, 1], [1, 10]), ([6, 11, 1], [1, 6, 11]), ([1, 12], [1, 12])])
def laws_FnSlices.B21 : List Nat := [0, 1, 3, 7, 3, 31, 63, 3, 131, 3, 899, 1923, 4095, 8191]
theorem laws_FnSlices.tab21 : rtab .any (opsOf Try.f10 21) = laws_FnSlices.T21 := by kernel_rfl
theorem laws_FnSlices.bits21 : waitsOk laws_FnSlices.T21.2 laws_FnSlices.B21 = true := by kernel_rfl
attribute [local go_sem] Instr.field asAgg
set_option maxHeartbeats 80000000 in
set_option maxRecDepth 100000 in
theorem laws_FnSlices.calls (k : Nat) (A0 : Option Addr) (c0 : Nat) (l0 : List Int) (r : Bool) (w : World) (hr0 : Kd.C (Kd.int .u8) w A0 l0.length l0) (hc0 : l0.length ≤ c0) (h : laws_FnSlices.f k l0 = some r) (hr_ : r = true) :
  Calls Try.prog 10 #[.slice A0 l0.length c0] w fun e w' => e = .returned (.bool r) ∧ Below w.heap.size w w' := by
 have HRT := zm hr_; clear hr_; have hu27 := Try.underlying27; have hu54 := Try.underlying54; have HR0 := zm hr0; have De := zm hc0; clear hr0 hc0; have H := h; clear h; unfold laws_FnSlices.f at H
 replace H := Option.bind_eq_some_iff.mp H; obtain ⟨EE, A2, H⟩ := H; (try dsimp only at H); replace A2 := zm A2
 cases EE with
 | true =>
  rw [if_pos rfl] at H; obtain rfl := Option.some.inj H; go_enter Try.func10, Try.ntmps10
  go_wp2_with (first | ((with_reducible refine gate_callee (f := 12) rfl ?_); refine zg (some 15) #[.slice A0 l0.length c0] Try.func12 ?_; (with_reducible refine (laws_big.calls _ _ l0 _ _ (zk HR0.out) De.out A2.out).mono ?_); rintro e w' ⟨rfl, ⟨nd, rfl⟩⟩; refine ⟨_, rfl, ?_⟩))
  go_ret
  exact ⟨zE, zL⟩
 | false =>
  rw [zff] at H; replace H := Option.bind_eq_some_iff.mp H; obtain ⟨⟨AE, AF, C8⟩, A4, H⟩ := H; (try dsimp only at H); replace H := Option.bind_eq_some_iff.mp H; obtain ⟨⟨AG, AH⟩, A5, H⟩ := H; (try dsimp only at H); replace H := Option.bind_eq_some_iff.mp H; obtain ⟨⟨Cu, Cv⟩, A6, H⟩ := H; (try dsimp only at H); replace H := Option.bind_eq_some_iff.mp H; obtain ⟨EF, A7, H⟩ := H; (try dsimp only at H); replace A4 := zm A4; replace A5 := zm A5; replace A6 := zm A6; replace A7 := zm A7
  cases EF with
  | false => rw [zff] at H; rw [HRT.out] at H; cases H
  | true =>
   rw [if_pos rfl] at H; replace H := Option.bind_eq_some_iff.mp H; obtain ⟨EG, A9, H⟩ := H; (try dsimp only at H); replace A9 := zm A9; replace H := zm H
   cases EG
   all_goals
    go_enter Try.func10, Try.ntmps10
    try go_wp2_with (first | ((with_reducible refine gate_callee (f := 12) rfl ?_); refine zg (some 15) #[.slice A0 l0.length c0] Try.func12 ?_; (with_reducible refine (laws_big.calls _ _ l0 _ _ (zk HR0.out) De.out A2.out).mono ?_); rintro e w' ⟨rfl, ⟨nd, rfl⟩⟩; refine ⟨_, rfl, ?_⟩) | ((with_reducible refine gate_callee (f := 52) rfl ?_); refine zg (some 18) #[.slice A0 l0.length c0] Try.func52 ?_; (with_reducible refine (spec_DrawSlice.calls k _ _ l0 AE AF C8 _ (zk HR0.out) De.out A4.out).mono ?_); rintro e JL ⟨v1376, v1379, v1382, rfl, ho0, ho1, ho2, hb⟩; refine ⟨_, rfl, ?_⟩; haveI := Nx.mk hb; obtain ⟨Ag, Ae, rfl, S0⟩ := zRC ho0; obtain ⟨Ah, Af, rfl, S1⟩ := zRC ho1; obtain ⟨ES, ED, rfl, S2⟩ := zRC ho2; clear hb ho0 ho1 ho2) | ((with_reducible refine gate_dst (N := 3) rfl ?_); (try (refine gate_guard (by rfl) ?_; dsimp only)); refine zbox 3 #[.slice none 0 0, .slice none 0 0] 27 ?_; intro BE hg JM hbox hb; haveI := Nx.mk hb; haveI := Fb.mk hg; have Am := zm (hbox); clear hb hbox hg; obtain ⟨DD, DE, DL, DM⟩ := zc2 Am) | ((with_reducible refine gate_callee (f := 37) rfl ?_); refine zg (some 23) #[.agg #[.slice Ag AE.length Ae, .slice Ah AF.length Af], .slice ES C8.length ED] Try.func37 ?_; (with_reducible refine (impl_Slice.calls k _ _ AE _ _ AF _ _ C8 AG AH _ (zk S0.out.1) S0.out.2 (zk S1.out.1) S1.out.2 (zk S2.out.1) S2.out.2 A5.out).mono ?_); rintro e JN ⟨v1386, v1389, rfl, ho0, ho1, hb⟩; refine ⟨_, rfl, ?_⟩; haveI := Nx.mk hb; obtain ⟨Ai, Ak, rfl, S3⟩ := zRC ho0; obtain ⟨Aj, Al, rfl, S4⟩ := zRC ho1; replace Am := zm (blk_below (g := BE) (o := .cells #[.slice Ag AE.length Ae, .slice Ah AF.length Af] 27 (0, 0)) (zput (zput (zb Am) 0) 1) hb); clear hb ho0 ho1) | ((with_reducible refine gate_dst (N := 5) rfl ?_); (try (refine gate_guard (by rfl) ?_; dsimp only)); refine zbox 5 #[.slice none 0 0, .slice none 0 0] 27 ?_; intro BF hg I4 hbox hb; have IB := (zgt hg (zb Am)).out; have Id := (zlt hg (zb Am)).out; haveI := Nx.mk hb; haveI := Fb.mk hg; have An := zm (hbox); clear hb hbox hg; obtain ⟨DF, DG, DN, DO⟩ := zc2 An))
    obtain ⟨DB, hW_⟩ : ∃ q, q = ((I4.setCell ⟨BF, 0, none⟩ (.slice Ai AG.length Ak)).setCell ⟨BF, 1, none⟩ (.slice Aj AH.length Al)) := ⟨_, rfl⟩
    haveI : Nx JN DB := ⟨by rw [hW_]; exact zL⟩; replace An : Aside0 (DB.heap[BF]? = some (.cells #[.slice Ai AG.length Ak, .slice Aj AH.length Al] 27 (0, 0))) := ⟨by rw [hW_]; exact zput (zput (zb An) 0) 1⟩; rw [← hW_]; clear hW_
    refine start_ (n := 6) (S := fun w' => w'.cell? ⟨BF, 0, none⟩ = some (.slice Ai AG.length Ak) ∧ w'.cell? ⟨BF, 1, none⟩ = some (.slice Aj AH.length Al) ∧ w'.cell? ⟨BE, 0, none⟩ = some (.slice Ag AE.length Ae) ∧ w'.cell? ⟨BE, 1, none⟩ = some (.slice Ah AF.length Af)) (ds := []) (zl 6 0) (by kernel_rfl) rfl rfl zS (fun hHeld => ?_)
    refine zu 2 26 6 4 ?_; refine zv 0 24 6 5 ?_; refine zv 1 25 6 7 ?_
    refine zo 3 (some 27) (zl 6 15) (fun K hK => ?_); refine zgo #[.agg #[.slice Ag AE.length Ae, .slice Ah AF.length Af], .slice ES C8.length ED] Try.func53 ?_; (with_reducible refine (spec_Slice.calls k _ _ AE _ _ AF _ _ C8 Cu Cv _ (zk S0.out.1) S0.out.2 (zk S1.out.1) S1.out.2 (zk S2.out.1) S2.out.2 A6.out).mono ?_)
    rintro e JP ⟨v1393, v1396, rfl, ho0, ho1, hb⟩; refine ⟨_, rfl, ?_⟩; haveI := Nx.mk hb; obtain ⟨Fu, G1, rfl, S5⟩ := zRC ho0; obtain ⟨Fv, G2, rfl, S6⟩ := zRC ho1; clear hb ho0 ho1; refine hK.out _ _ zS (fun hHeld => ?_); clear hK K; refine zn ?_
    refine zo 4 (some 28) (zl 6 31) (fun K hK => ?_); refine zgo #[.agg #[.slice Ai AG.length Ak, .slice Aj AH.length Al], .agg #[.slice Fu Cu.length G1, .slice Fv Cv.length G2]] Try.func15 ?_; (with_reducible refine (spec_StateSame.calls k _ _ AG _ _ AH _ _ Cu _ _ Cv true _ (zk S3.out.1) S3.out.2 (zk S4.out.1) S4.out.2 (zk S5.out.1) S5.out.2 (zk S6.out.1) S6.out.2 A7.out).mono ?_)
    rintro e JQ ⟨rfl, hb⟩; refine ⟨_, rfl, ?_⟩; haveI := Nx.mk hb; clear hb; refine hK.out _ _ zS (fun hHeld => ?_); clear hK K; refine zn ?_
    refine zu 5 29 6 63 ?_; refine done_ (by kernel_rfl) ?_; obtain ⟨DH, DI, DP, DQ⟩ := zd2 JQ Am
   ·have H := H.out; rw [zff] at H; replace H := Option.bind_eq_some_iff.mp H; obtain ⟨CZ, Fs, H⟩ := H; (try dsimp only at H); replace Fs := zm Fs
    by_cases Cp : (CZ.length : Int) = 0
    ·rw [if_pos Cp] at H; have FI : ((CZ.length : Int) == 0) = true := beq_iff_eq.mpr Cp; have FJ : ((CZ.length : Int) != 0) = false := bne_eq_false_iff_eq.mpr Cp; clear Cp; replace H := Option.bind_eq_some_iff.mp H; obtain ⟨⟨Fd, Fe⟩, Ft, H⟩ := H; (try dsimp only at H); replace Ft := zm Ft; obtain rfl := Option.some.inj H
     try go_wp2_with (first | ((with_reducible refine gate_callee (f := 17) rfl ?_); refine zg (some 31) #[.agg #[.slice Ag AE.length Ae, .slice Ah AF.length Af]] Try.func17 ?_; (with_reducible refine (spec_StateOk.calls k _ _ AE _ _ AF _ _ (zk S0.out.1) S0.out.2 (zk S1.out.1) S1.out.2 A9.out).mono ?_); rintro e JR ⟨rfl, hb⟩; refine ⟨_, rfl, ?_⟩; haveI := Nx.mk hb; clear hb; obtain ⟨E1_, E2_, E3_, E4_⟩ := zd2 JR Am) | ((with_reducible refine gate_callee (f := 54) rfl ?_); refine zg (some 34) #[.agg #[.slice Ag AE.length Ae, .slice Ah AF.length Af]] Try.func54 ?_; (with_reducible refine (impl_StateBytes.calls k _ _ AE _ _ AF CZ _ (zk S0.out.1) S0.out.2 (zk S1.out.1) S1.out.2 Fs.out).mono ?_); rintro e JJ ⟨v1401, rfl, ho0, hb⟩; refine ⟨_, rfl, ?_⟩; haveI := Nx.mk hb; obtain ⟨X0, X1, rfl, -⟩ := zRC ho0; clear hb ho0; obtain ⟨E5_, E6_, E7_, E8_⟩ := zd2 JJ Am) | (go_at_call 39; (with_reducible refine (impl_TreeOf.calls k _ _ AE _ _ AF Fd Fe _ (zk S0.out.1) S0.out.2 (zk S1.out.1) S1.out.2 Ft.out).mono ?_); rintro e JK ⟨v1404, rfl, ho0, hb⟩; haveI := Nx.mk hb; obtain ⟨X2, X3, rfl, -⟩ := zRC ho0; clear hb ho0))
     go_ret
     exact ⟨zE, zL⟩
    ·rw [if_neg Cp] at H; rw [HRT.out] at H; cases H
   ·have H := H.out; (first | rw [if_pos rfl] at H | rw [if_pos trivial] at H); have H' := zm H; clear H
    try go_wp2_with (first | ((with_reducible refine gate_callee (f := 17) rfl ?_); refine zg (some 31) #[.agg #[.slice Ag AE.length Ae, .slice Ah AF.length Af]] Try.func17 ?_; (with_reducible refine (spec_StateOk.calls k _ _ AE _ _ AF _ _ (zk S0.out.1) S0.out.2 (zk S1.out.1) S1.out.2 A9.out).mono ?_); rintro e JR ⟨rfl, hb⟩; refine ⟨_, rfl, ?_⟩; haveI := Nx.mk hb; clear hb; obtain ⟨E1_, E2_, E3_, E4_⟩ := zd2 JR Am) | ((with_reducible refine gate_dst (N := 6) rfl ?_); (try (refine gate_guard (by rfl) ?_; dsimp only)); refine zbox 6 #[.slice none 0 0, .slice none 0 0] 27 ?_; intro BG hg JS hbox hb; have C5 := zlt hg (zb Am); have CN := zgt hg (zb Am); have IC := CN.out; have Ie := C5.out; haveI := Nx.mk hb; haveI := Fb.mk hg; have Ao := zm (hbox); clear hb hbox hg; obtain ⟨DJ, DK, DR, DS⟩ := zc2 Ao))
    go_loopg [7] k (fun kq v7 w' => ∃ (CI : Int) (B0 : List (S44)) (B2 : List (S58)) (u0 : Value) (u1 : Value), v7 = .int .i64 CI ∧ Aside0 (laws_FnSlices.l0 kq l0 CI AE AF B0 B2 = some r) ∧ Aside0 (kq ≤ k) ∧ Aside0 (Kd.R k44 44 w' 0 (fun _ => True) u0 B0) ∧ Aside0 (Kd.R k58 58 w' 0 (fun _ => True) u1 B2) ∧ Aside0 (w'.heap[BG]? = some (.cells #[u0, u1] 27 (0, 0))) ∧ Aside0 (Below JR.heap.size JR w'))
    case atStart => exact ⟨(0), (([] : List (S44))), (([] : List (S58))), (.slice none 0 0), (.slice none 0 0), zF, H', ⟨Nat.le_refl _⟩, ⟨znil⟩, ⟨znil⟩, ⟨zput (zput (zb Ao) 0) 1⟩, ⟨zL⟩⟩
    case round =>
     clear H'; obtain ⟨CI, B0, B2, u0, u1, rfl, HA, DT, AK, AL, Ao, HB⟩ := hrel; haveI := Nx.mk HB.out; obtain ⟨F5, FL, rfl, T0⟩ := zRC AK.out; obtain ⟨F6, FM, rfl, T1⟩ := zRC AL.out; clear HB AK AL
     cases gk with
     | zero => exact absurd HA.out (by simp [laws_FnSlices.l0])
     | succ k1 =>
      have H := HA.out; clear HA; simp only [laws_FnSlices.l0] at H
      by_cases DU : CI < 4
      ·rw [if_pos DU] at H; have EC : decide (CI < 4) = true := decide_eq_true DU; clear DU; replace H := Option.bind_eq_some_iff.mp H; obtain ⟨⟨EH, EI⟩, Gw, H⟩ := H; (try dsimp only at H); replace H := Option.bind_eq_some_iff.mp H; obtain ⟨⟨EJ, EK, Ff⟩, Gx, H⟩ := H; (try dsimp only at H)
       obtain ⟨y, hy⟩ : ∃ y : List Int, y = [CI] := ⟨_, rfl⟩; rw [← hy] at Gw; replace Gw := zm Gw; replace Gx := zm Gx; replace hy := zm hy; have H' := zm H; clear H
       try go_wp2
       refine start_ (n := 10) (S := fun w' => w'.cell? ⟨BG, 0, none⟩ = some (.slice F5 B0.length FL) ∧ w'.cell? ⟨BG, 1, none⟩ = some (.slice F6 B2.length FM) ∧ w'.cell? ⟨BE, 0, none⟩ = some (.slice Ag AE.length Ae) ∧ w'.cell? ⟨BE, 1, none⟩ = some (.slice Ah AF.length Af)) (ds := [9]) (zl 10 0) (by kernel_rfl) rfl rfl zS (fun hHeld => ?_); refine with_tabW laws_FnSlices.tab13 laws_FnSlices.bits13 (fun HT_ HW_ => ?_)
       refine zu 2 52 10 4 ?_; refine zv 0 50 10 5 ?_; refine zv 1 51 10 7 ?_
       refine zo 3 (some 53) (zl 10 15) (fun K hK => ?_); refine zlit 53 hy (fun Fw G3 JU iU T2 => ?_)
       refine hK.out _ _ zS (fun hHeld => ?_); clear hK K; refine zn (N := some 53) ?_; refine zo 4 (some 54) (zl 10 31) (fun K hK => ?_); refine zgo #[.agg #[.slice Ag AE.length Ae, .slice Ah AF.length Af], .slice Fw y.length G3] Try.func37 ?_; (with_reducible refine (impl_Slice.calls k1 _ _ AE _ _ AF _ _ y EH EI _ (zk S0.out.1) S0.out.2 (zk S1.out.1) S1.out.2 (zk T2.out.1) T2.out.2 Gw.out).mono ?_)
       rintro e JV ⟨v1412, v1415, rfl, ho0, ho1, hb⟩; refine ⟨_, rfl, ?_⟩; haveI := Nx.mk hb; obtain ⟨Fx, G4, rfl, T3⟩ := zRC ho0; obtain ⟨Fy, G5, rfl, T4⟩ := zRC ho1; clear hb ho0 ho1; refine hK.out _ _ zS (fun hHeld => ?_); clear hK K; refine zn ?_; refine zo 5 (some 55) (zl 10 63) (fun K hK => ?_); refine zgo #[.agg #[.slice F5 B0.length FL, .slice F6 B2.length FM], .agg #[.slice Fx EH.length G4, .slice Fy EI.length G5]] Try.func19 ?_; (with_reducible refine (impl_StateJoin.calls k1 _ _ B0 _ _ B2 _ _ EH _ _ EI EJ EK Ff _ (zk T0.out.1) T0.out.2 (zk T1.out.1) T1.out.2 (zk T3.out.1) T3.out.2 (zk T4.out.1) T4.out.2 Gx.out).mono ?_)
       rintro e Fp ⟨v1418, v1421, rfl, ho0, ho1, hb⟩; refine ⟨_, rfl, ?_⟩; haveI := Nx.mk hb; obtain ⟨Fz, G6, rfl⟩ := Kd.R_slice ho0; obtain ⟨G0, G7, rfl⟩ := Kd.R_slice ho1; have EL := zlow ho0; have EM := zlow ho1; replace Ao : Aside0 (Fp.heap[BG]? = _) := zm (zb Ao); clear hb ho0 ho1; refine hK.out _ _ zS (fun hHeld => ?_); clear hK K; refine zn ?_
       refine zu 6 49 10 127 ?_; refine zu 7 56 10 255 ?_; refine zu 8 57 10 511 ?_
       refine last_ (i := 9) (N := none) #[true, true, true, true, true, true, true, true, true, true] rfl rfl (one_of HT_.out (by kernel_rfl)) (by decide) (fun K hK => ?_)
       have hs49 : Fp.cell? ⟨BG, 0, none⟩ = some (.slice F5 B0.length FL) := (blk_cell Ao.out 0).trans rfl; have hfs49 := blk_frozen Ao.out 0; have hns49_0 := C5.out; have hms49_0 := CN.out; have hs51 : Fp.cell? ⟨BG, 1, none⟩ = some (.slice F6 B2.length FM) := (blk_cell Ao.out 1).trans rfl; have hfs51 := blk_frozen Ao.out 1
       refine skip_ (w1 := ?_) (by rfl) rfl ?_ ?_
       rotate_left
       ·go_simp
        rfl
       refine hK.out _ _ ?_; clear hK K; refine done_ (done_of HT_.out (by kernel_rfl)) ?_
       try go_wp2
       go_roundg k1
       case measure => have := DT.out; omega
       case rel => exact ⟨(wrap64 (CI + 1)), (EJ), (EK), (.slice Fz EJ.length G6), (.slice G0 EK.length G7), zF, H', ⟨by have := DT.out; omega⟩, ⟨zrs <| Kd.R_mono (zfr (zfr (Kd.R_types EL.out Ao.out (by decide)))) (fun _ _ => trivial)⟩, ⟨zrs <| Kd.R_mono (zfr (zfr (Kd.R_types EM.out Ao.out (by decide)))) (fun _ _ => trivial)⟩, ⟨zput (zput (zb Ao) 0) 1⟩, ⟨zL⟩⟩
      ·rw [if_neg DU] at H; have EC : decide (CI < 4) = false := decide_eq_false DU; clear DU; replace H := Option.bind_eq_some_iff.mp H; obtain ⟨⟨AC, AD, AA, AB⟩, Gy, H⟩ := H; (try dsimp only at H); replace H := Option.bind_eq_some_iff.mp H; obtain ⟨⟨Ac, BL⟩, Gz, H⟩ := H; (try dsimp only at H); replace H := Option.bind_eq_some_iff.mp H; obtain ⟨⟨Ad, BM⟩, H0, H⟩ := H; (try dsimp only at H); replace Gy := zm Gy; replace Gz := zm Gz; replace H0 := zm H0; have H' := zm H; clear H
       go_wp2_with (first | ((with_reducible refine gate_callee (f := 21) rfl ?_); refine zg (some 60) #[.slice A0 l0.length c0] Try.func21 ?_; (with_reducible refine (spec_DrawStateJoin.calls k1 _ _ l0 AC AD AA AB _ (zk HR0.out) De.out Gy.out).mono ?_); rintro e JW ⟨v1425, v1428, v1431, v1434, rfl, ho0, ho1, ho2, ho3, hb⟩; refine ⟨_, rfl, ?_⟩; haveI := Nx.mk hb; haveI : Later JL JW := inferInstance; haveI : Later JN JW := inferInstance; haveI : Later w JW := inferInstance; obtain ⟨AS, AO, rfl, C0⟩ := zRC ho0; obtain ⟨AT, AP, rfl, C1⟩ := zRC ho1; obtain ⟨AU, AQ, rfl, C2⟩ := zRC ho2; obtain ⟨AV, AR, rfl, C3⟩ := zRC ho3; clear hb ho0 ho1 ho2 ho3) | ((with_reducible refine gate_dst (N := 8) rfl ?_); (try (refine gate_guard (by rfl) ?_; dsimp only)); refine zbox 8 #[.slice none 0 0, .slice none 0 0] 27 ?_; intro Ax hg JX hbox hb; haveI := Nx.mk hb; haveI := Fb.mk hg; have Ap := zm (hbox); clear hb hbox hg) | ((with_reducible refine gate_dst (N := 9) rfl ?_); (try (refine gate_guard (by rfl) ?_; dsimp only)); refine zbox 9 #[.slice none 0 0, .slice none 0 0] 27 ?_; intro Ay hg JY hbox hb; have Cd := zlt hg (zb Ap); have Ce := zgt hg (zb Ap); have IH := Cd.out; have Ij := Ce.out; haveI := Nx.mk hb; haveI := Fb.mk hg; have Aq := zm (hbox); replace Ap := zy Ap hb; clear hb hbox hg; obtain ⟨Dh, Di, Dr, Ds⟩ := zc2 Ap; obtain ⟨Dj, Dk, Dt, Du⟩ := zc2 Aq) | ((with_reducible refine gate_callee (f := 39) rfl ?_); refine zg (some 64) #[.agg #[.slice AS AC.length AO, .slice AT AD.length AP]] Try.func39 ?_; (with_reducible refine (impl_TreeOf.calls k1 _ _ AC _ _ AD Ac BL _ (zk C0.out.1) C0.out.2 (zk C1.out.1) C1.out.2 Gz.out).mono ?_); rintro e JZ ⟨v1439, rfl, ho0, hb⟩; refine ⟨_, rfl, ?_⟩; haveI := Nx.mk hb; obtain ⟨Au, At, rfl⟩ := Kd.R_slice ho0; have CH := zlow ho0; replace Ap := zm (blk_below (g := Ax) (o := .cells #[.slice AS AC.length AO, .slice AT AD.length AP] 27 (0, 0)) (zfar (zfar (zput (zput (zb Ap) 0) 1) Cd) Cd) hb); replace Aq := zm (blk_below (g := Ay) (o := .cells #[.slice AU AA.length AQ, .slice AV AB.length AR] 27 (0, 0)) (zput (zput (zfar (zfar (zb Aq) Ce) Ce) 0) 1) hb); clear hb ho0) | ((with_reducible refine gate_dst (N := 10) rfl ?_); (try (refine gate_guard (by rfl) ?_; dsimp only)); refine zbox 10 #[.slice none 0 0, .int .i64 0] 54 ?_; intro BJ hg Ja hbox hb; have IQ := (zgt hg (zb Aq)).out; have Ir := (zlt hg (zb Aq)).out; haveI := Nx.mk hb; haveI := Fb.mk hg; have Ar := zm (hbox); clear hb hbox hg; obtain ⟨Dl, Dm, Dv, Dw⟩ := zc2 Ar; obtain ⟨Dn, Do, Dx, Dy⟩ := zd2 Ja Aq) | ((with_reducible refine gate_callee (f := 39) rfl ?_); refine zg (some 66) #[.agg #[.slice AU AA.length AQ, .slice AV AB.length AR]] Try.func39 ?_; (with_reducible refine (impl_TreeOf.calls k1 _ _ AA _ _ AB Ad BM _ (zk C2.out.1) C2.out.2 (zk C3.out.1) C3.out.2 H0.out).mono ?_); rintro e Jb ⟨v1444, rfl, ho0, hb⟩; refine ⟨_, rfl, ?_⟩; haveI := Nx.mk hb; haveI : Later JL Jb := inferInstance; haveI : Later JN Jb := inferInstance; haveI : Later w Jb := inferInstance; obtain ⟨Aw, Av, rfl⟩ := Kd.R_slice ho0; have D7 := zlow ho0; replace Ar := zm (blk_below (g := BJ) (o := .cells #[.slice Au Ac.length At, .int .i64 BL] 54 (0, 0)) (zput (zput (zb Ar) 0) 1) hb); clear hb ho0) | ((with_reducible refine gate_dst (N := 11) rfl ?_); (try (refine gate_guard (by rfl) ?_; dsimp only)); refine zbox 11 #[.slice none 0 0, .int .i64 0] 54 ?_; intro BK hg Jc hbox hb; have IW := (zgt hg (zb Ar)).out; have Ix := (zlt hg (zb Ar)).out; haveI := Nx.mk hb; haveI := Fb.mk hg; have As := zm (hbox); clear hb hbox hg; obtain ⟨Dp, Dq, Dz, E0⟩ := zc2 As))
       go_loopg [12] k1 (fun kq v12 w' => ∃ (BD : Int), v12 = .int .i64 BD ∧ Aside0 (laws_FnSlices.l1 kq BD AE AF B0 B2 AC AD AA AB Ac BL Ad BM = some r) ∧ Aside0 (kq ≤ k1) ∧ Aside0 (w'.heap[BK]? = some (.cells #[.slice Aw Ad.length Av, .int .i64 BM] 54 (0, 0))) ∧ Aside0 (Below Jb.heap.size Jb w'))
       case atStart => exact ⟨(0), zF, H', ⟨Nat.le_refl _⟩, ⟨zput (zput (zb As) 0) 1⟩, ⟨zL⟩⟩
       case round =>
        clear H'; obtain ⟨BD, rfl, HA, Df, As, HB⟩ := hrel; haveI := Nx.mk HB.out; clear HB
        cases gk with
        | zero => exact absurd HA.out (by simp [laws_FnSlices.l1])
        | succ k2 =>
         have H := HA.out; clear HA; simp only [laws_FnSlices.l1] at H; have ET := zm H; clear H
         go_upto_region 18 with (fail)
         go_cut [78] (fun v78 wc => ∃ (kq : Nat) (DC : Bool), v78 = .bool DC ∧ Aside0 (laws_FnSlices.j2 kq BD DC AE AF B0 B2 AC AD AA AB Ac BL Ad BM = some r) ∧ Aside0 (kq ≤ k2) ∧ Aside0 (wc.heap[BK]? = some (.cells #[.slice Aw Ad.length Av, .int .i64 BM] 54 (0, 0))) ∧ Aside0 (Below Jb.heap.size Jb wc))
         case first =>
          have H := ET.out; clear ET; obtain ⟨Gs, Gt, Gu, Gv⟩ := zd2 wr Ar; obtain ⟨G8, G9, GS, GT⟩ := zd2 wr As
          by_cases Dg : BD < (Ac.length : Int)
          ·rw [if_pos Dg] at H; have D8 : decide (BD < (Ac.length : Int)) = true := decide_eq_true Dg; clear Dg
           (first | rw [D8] | (simp only [i64_w, i32_w]; rw [D8]) | skip)
           have H' := zm H; clear H
           go_wp2
           go_meet
           case rel => exact ⟨_, (decide (BD < (Ad.length : Int))), zF, H', ⟨by have := DT.out; have := Df.out; first | omega | exact Nat.le_refl _⟩, ⟨zb As⟩, ⟨zL⟩⟩
          ·rw [if_neg Dg] at H; have D8 : decide (BD < (Ac.length : Int)) = false := decide_eq_false Dg; clear Dg
           (first | rw [D8] | (simp only [i64_w, i32_w]; rw [D8]) | skip)
           have H' := zm H; clear H
           go_wp2
           go_meet
           case rel => exact ⟨_, (false), zF, H', ⟨by have := DT.out; have := Df.out; first | omega | exact Nat.le_refl _⟩, ⟨zb As⟩, ⟨zL⟩⟩
         case rest =>
          clear ET; obtain ⟨kq, DC, rfl, HA, E6, As, HB⟩ := hcut; haveI := Nx.mk HB.out; clear HB
          cases kq with
          | zero => exact absurd HA.out (by simp [laws_FnSlices.j2])
          | succ Br =>
           have H := HA.out; clear HA; simp only [laws_FnSlices.j2] at H
           by_cases E7 : DC = true
           ·subst E7; rw [if_pos rfl] at H; replace H := Option.bind_eq_some_iff.mp H; obtain ⟨⟨BQ, BR⟩, E1, H⟩ := H; (try dsimp only at H); replace H := Option.bind_eq_some_iff.mp H; obtain ⟨BS, E2, H⟩ := H; (try dsimp only at H); replace H := Option.bind_eq_some_iff.mp H; obtain ⟨⟨Bb, Bc⟩, E3, H⟩ := H; (try dsimp only at H); replace H := Option.bind_eq_some_iff.mp H; obtain ⟨Be, E4, H⟩ := H; (try dsimp only at H)
            obtain ⟨y, hy⟩ : ∃ y : List Int, y = [BD] := ⟨_, rfl⟩; rw [← hy] at E1 E3; replace E1 := zm E1; replace E2 := zm E2; replace E3 := zm E3; replace E4 := zm E4; replace hy := zm hy; replace H := zm H
            try go_wp2
            refine start_ (n := 14) (S := fun w' => w'.cell? ⟨Ax, 0, none⟩ = some (.slice AS AC.length AO) ∧ w'.cell? ⟨Ax, 1, none⟩ = some (.slice AT AD.length AP) ∧ w'.cell? ⟨Ay, 0, none⟩ = some (.slice AU AA.length AQ) ∧ w'.cell? ⟨Ay, 1, none⟩ = some (.slice AV AB.length AR)) (ds := []) (zl 14 0) (by kernel_rfl) rfl rfl zS (fun hHeld => ?_); refine with_tabW laws_FnSlices.tab20 laws_FnSlices.bits20 (fun HT_ HW_ => ?_)
            refine zu 1 82 14 2 ?_; refine zu 7 88 14 130 ?_; refine zv 0 81 14 131 ?_; refine zv 6 87 14 195 ?_
            refine join_ (σ := (Option Addr × Nat) × (Option Addr × Nat) × (Option Addr × Nat) × Value × (Option Addr × Nat) × (Option Addr × Nat) × (Option Addr × Nat) × Value) 2 (zl 14 4095) (fun s_ => [(83, .slice s_.1.1 y.length s_.1.2), (84, .agg #[.slice s_.2.1.1 BQ.length s_.2.1.2, .slice s_.2.2.1.1 BR.length s_.2.2.1.2]), (85, s_.2.2.2.1), (86, .string (strOfNums BS)), (89, .slice s_.2.2.2.2.1.1 y.length s_.2.2.2.2.1.2), (90, .agg #[.slice s_.2.2.2.2.2.1.1 Bb.length s_.2.2.2.2.2.1.2, .slice s_.2.2.2.2.2.2.1.1 Bc.length s_.2.2.2.2.2.2.1.2]), (91, s_.2.2.2.2.2.2.2), (92, .string (strOfNums Be))]) (fun s_ w' => Below wc.heap.size wc w') ?_ (fun h2_3_4_5_8_9_10_11 => ?_)
            ·rintro ⟨x2a, x3a, x3b, x4a, x8a, x9a, x9b, x10a⟩ wq hB; haveI := Nx.mk hB; clear hB; refine zj2 ?_
             have H := H.out
             by_cases D3 : (strOfNums BS).toList = (strOfNums Be).toList
             ·rw [if_pos D3] at H; have FE : ((strOfNums BS).toList == (strOfNums Be).toList) = true := beq_iff_eq.mpr D3; have FF : ((strOfNums BS).toList != (strOfNums Be).toList) = false := bne_eq_false_iff_eq.mpr D3; clear D3
              by_cases E8 : 0 ≤ BD
              rotate_left
              ·rw [if_neg E8] at H; exact absurd H (by simp)
              rw [if_pos E8] at H; have HD : decide (0 ≤ BD) = true := decide_eq_true E8; clear E8
              by_cases E9 : BD < (Ac.length : Int)
              rotate_left
              ·rw [if_neg E9] at H; exact absurd H (by simp)
              rw [if_pos E9] at H; have HE : decide (BD < (Ac.length : Int)) = true := decide_eq_true E9; clear E9
              by_cases EA : BD < (Ad.length : Int)
              rotate_left
              ·rw [if_neg EA] at H; exact absurd H (by simp)
              rw [if_pos EA] at H; have HF : decide (BD < (Ad.length : Int)) = true := decide_eq_true EA; clear EA
              by_cases D4 : (rd Ac BD) = (rd Ad BD)
              ·rw [if_pos D4] at H; have FG : ((rd Ac BD) == (rd Ad BD)) = true := beq_iff_eq.mpr D4; have FH : ((rd Ac BD) != (rd Ad BD)) = false := bne_eq_false_iff_eq.mpr D4; clear D4; have H' := zm H; clear H
               refine zu 12 93 14 8191 ?_; refine zu 13 13 14 16383 ?_; refine done_ (done_of HT_.out (by kernel_rfl)) ?_
               try go_wp2
               have p1477 : 0 ≤ (BD : Int) := zd; have q1477 : BD < (Ac.length : Int) := zd; obtain ⟨ad1477, e1477, hx1477_0⟩ := Kd.at_int (Kd.R_reads' (zr (w' := wq.drew) CH)).2.2 BD p1477 q1477; cases e1477; replace p1477 := eq_true p1477; replace q1477 := eq_true q1477; have p1478 : 0 ≤ (BD : Int) := zd; have q1478 : BD < (Ad.length : Int) := zd; obtain ⟨ad1478, e1478, hx1478_0⟩ := Kd.at_int (Kd.R_reads' (zr (w' := wq.drew) D7)).2.2 BD p1478 q1478; cases e1478; replace p1478 := eq_true p1478; replace q1478 := eq_true q1478
               refine start_ (n := 14) (S := fun w' => w'.cell? ⟨BJ, 0, none⟩ = some (.slice (some ad1477) Ac.length At) ∧ w'.cell? ⟨BJ, 1, none⟩ = some (.int .i64 BL) ∧ w'.cell? ⟨BK, 0, none⟩ = some (.slice (some ad1478) Ad.length Av) ∧ w'.cell? ⟨BK, 1, none⟩ = some (.int .i64 BM) ∧ w'.cell? (ad1477.add (BD).toNat) = some (.int .i64 (rd Ac BD)) ∧ w'.cell? (ad1478.add (BD).toNat) = some (.int .i64 (rd Ad BD))) (ds := []) (zl 14 0) (by kernel_rfl) rfl rfl ⟨(zd2 wq.drew Ar).1, (zd2 wq.drew Ar).2.1, (zd2 wq.drew As).1, (zd2 wq.drew As).2.1, hx1477_0, hx1478_0⟩ (fun hHeld => ?_); refine with_tabW laws_FnSlices.tab21 laws_FnSlices.bits21 (fun HT_ HW_ => ?_)
               refine zu 0 94 14 1 ?_
               refine zu 1 95 14 3 ?_
               refine zu 2 96 14 7 ?_
               refine zu 4 98 14 23 ?_
               refine zu 7 101 14 151 ?_
               refine zu 9 103 14 663 ?_
               refine zv 3 97 14 671 ?_
               refine zu 5 99 14 703 ?_
               refine zv 6 100 14 767 ?_
               refine zv 8 102 14 1023 ?_
               refine zu 10 104 14 2047 ?_
               refine zv 11 105 14 4095 ?_
               refine zu 12 106 14 8191 ?_
               refine zu 13 107 14 16383 ?_
               refine done_ (done_of HT_.out (by kernel_rfl)) ?_
               try go_wp2
               go_roundg Br
               case measure => have := DT.out; have := Df.out; have := E6.out; omega
               case rel => exact ⟨(wrap64 (BD + 1)), zF, H', ⟨by have := DT.out; have := Df.out; have := E6.out; omega⟩, ⟨zb As⟩, ⟨zL⟩⟩
              ·rw [if_neg D4] at H; rw [HRT.out] at H; cases H
             ·rw [if_neg D3] at H; have FE : ((strOfNums BS).toList == (strOfNums Be).toList) = false := beq_eq_false_iff_ne.mpr D3; have FF : ((strOfNums BS).toList != (strOfNums Be).toList) = true := bne_iff_ne.mpr D3; have H' := zm H; clear H
              refine zu 12 93 14 8191 ?_; refine zu 13 13 14 16383 ?_; refine done_ (done_of HT_.out (by kernel_rfl)) ?_
              try go_wp2
              refine start_ (n := 14) (S := fun w' => True) (ds := []) (zl 14 0) (by kernel_rfl) rfl rfl trivial (fun hHeld => ?_); refine with_tabW laws_FnSlices.tab21 laws_FnSlices.bits21 (fun HT_ HW_ => ?_)
              refine zu 0 94 14 1 ?_
              refine zu 1 95 14 3 ?_
              refine zu 2 96 14 7 ?_
              refine zu 3 97 14 15 ?_
              refine zu 4 98 14 31 ?_
              refine zu 5 99 14 63 ?_
              refine zu 6 100 14 127 ?_
              refine zu 7 101 14 255 ?_
              refine zu 8 102 14 511 ?_
              refine zu 9 103 14 1023 ?_
              refine zu 10 104 14 2047 ?_
              refine zu 11 105 14 4095 ?_
              refine zu 12 106 14 8191 ?_
              refine zu 13 107 14 16383 ?_
              refine done_ (done_of HT_.out (by kernel_rfl)) ?_
              try go_wp2
              go_roundg Br
              case measure => have := DT.out; have := Df.out; have := E6.out; omega
              case rel => exact ⟨(wrap64 (BD + 1)), zF, H', ⟨by have := DT.out; have := Df.out; have := E6.out; omega⟩, ⟨zb As⟩, ⟨zL⟩⟩
            refine join_ (σ := (Option Addr × Nat) × (Option Addr × Nat) × (Option Addr × Nat) × Value × (Option Addr × Nat) × (Option Addr × Nat) × (Option Addr × Nat) × Value) 3 (zl 14 2047) (fun s_ => [(83, .slice s_.1.1 y.length s_.1.2), (84, .agg #[.slice s_.2.1.1 BQ.length s_.2.1.2, .slice s_.2.2.1.1 BR.length s_.2.2.1.2]), (85, s_.2.2.2.1), (86, .string (strOfNums BS)), (89, .slice s_.2.2.2.2.1.1 y.length s_.2.2.2.2.1.2), (90, .agg #[.slice s_.2.2.2.2.2.1.1 Bb.length s_.2.2.2.2.2.1.2, .slice s_.2.2.2.2.2.2.1.1 Bc.length s_.2.2.2.2.2.2.1.2]), (91, s_.2.2.2.2.2.2.2)]) (fun s_ w' => Below wc.heap.size wc w' ∧ (Kd.R (Kd.int .u8) 5 w' 0 (fun _ => True) s_.2.2.2.2.2.2.2 Be)) ?_ (fun h2_3_4_5_8_9_10 => ?_)
            ·rintro ⟨x2a, x3a, x3b, x4a, x8a, x9a, x9b, x10a⟩ wq ⟨hB, f10a⟩; haveI := Nx.mk hB; clear hB; replace f10a := zm f10a; refine zj2 ?_
             refine zo 11 (some 92) (zl 14 4095) (fun K hK => ?_)
             have hcv := own_string (P := Try.prog) Try.underlying22 Try.underlying5 Try.underlying9 (Kd.own_of_R (zr (w' := wq) f10a)); refine value_ (w1 := ?_) (v := ?_) (by rfl) rfl ?_ ?_
             rotate_left 2
             ·go_simp
              constructor
              ·rfl
              ·rfl
             clear hcv
             refine hK.out _ _ zS (fun hHeld => ?_); clear hK K; exact zj (h2_3_4_5_8_9_10_11 (x2a, x3a, x3b, x4a, x8a, x9a, x9b, x10a) _ zL)
            refine join_ (σ := (Option Addr × Nat) × (Option Addr × Nat) × (Option Addr × Nat) × Value × (Option Addr × Nat) × (Option Addr × Nat) × (Option Addr × Nat) × Value) 3 (zl 14 4063) (fun s_ => [(83, .slice s_.1.1 y.length s_.1.2), (84, .agg #[.slice s_.2.1.1 BQ.length s_.2.1.2, .slice s_.2.2.1.1 BR.length s_.2.2.1.2]), (85, s_.2.2.2.1), (89, .slice s_.2.2.2.2.1.1 y.length s_.2.2.2.2.1.2), (90, .agg #[.slice s_.2.2.2.2.2.1.1 Bb.length s_.2.2.2.2.2.1.2, .slice s_.2.2.2.2.2.2.1.1 Bc.length s_.2.2.2.2.2.2.1.2]), (91, s_.2.2.2.2.2.2.2), (92, .string (strOfNums Be))]) (fun s_ w' => Below wc.heap.size wc w' ∧ (Kd.R (Kd.int .u8) 5 w' 0 (fun _ => True) s_.2.2.2.1 BS)) ?_ (fun h2_3_4_8_9_10_11 => ?_)
            ·rintro ⟨x2a, x3a, x3b, x4a, x8a, x9a, x9b, x10a⟩ wq ⟨hB, f4a⟩; haveI := Nx.mk hB; clear hB; replace f4a := zm f4a; refine zj2 ?_
             refine zo 5 (some 86) (zl 14 4095) (fun K hK => ?_)
             have hcv := own_string (P := Try.prog) Try.underlying22 Try.underlying5 Try.underlying9 (Kd.own_of_R (zr (w' := wq) f4a)); refine value_ (w1 := ?_) (v := ?_) (by rfl) rfl ?_ ?_
             rotate_left 2
             ·go_simp
              constructor
              ·rfl
              ·rfl
             clear hcv
             refine hK.out _ _ zS (fun hHeld => ?_); clear hK K; exact zj (h2_3_4_5_8_9_10_11 (x2a, x3a, x3b, x4a, x8a, x9a, x9b, x10a) _ zL)
            refine join_ (σ := (Option Addr × Nat) × (Option Addr × Nat) × (Option Addr × Nat) × Value × (Option Addr × Nat) × (Option Addr × Nat) × (Option Addr × Nat)) 4 (zl 14 1023) (fun s_ => [(83, .slice s_.1.1 y.length s_.1.2), (84, .agg #[.slice s_.2.1.1 BQ.length s_.2.1.2, .slice s_.2.2.1.1 BR.length s_.2.2.1.2]), (85, s_.2.2.2.1), (86, .string (strOfNums BS)), (89, .slice s_.2.2.2.2.1.1 y.length s_.2.2.2.2.1.2), (90, .agg #[.slice s_.2.2.2.2.2.1.1 Bb.length s_.2.2.2.2.2.1.2, .slice s_.2.2.2.2.2.2.1 Bc.length s_.2.2.2.2.2.2.2])]) (fun s_ w' => Below wc.heap.size wc w' ∧ Aside0 ((Kd.C k44 w' s_.2.2.2.2.2.1.1 Bb.length Bb ∧ Bb.length ≤ s_.2.2.2.2.2.1.2)) ∧ Aside0 ((Kd.C k58 w' s_.2.2.2.2.2.2.1 Bc.length Bc ∧ Bc.length ≤ s_.2.2.2.2.2.2.2))) ?_ (fun h2_3_4_5_8_9 => ?_)
            ·rintro ⟨x2a, x3a, x3b, x4a, x8a, x9a, x9b⟩ wq ⟨hB, f9a, f9b⟩; haveI := Nx.mk hB; clear hB; refine zj2 ?_
             refine zo 10 (some 91) (zl 14 2047) (fun K hK => ?_)
             refine zgo #[.agg #[.slice x9a.1 Bb.length x9a.2, .slice x9b.1 Bc.length x9b.2]] Try.func54 ?_; (with_reducible refine (impl_StateBytes.calls Br _ _ Bb _ _ Bc Be _ (zk f9a.out.1) f9a.out.2 (zk f9b.out.1) f9b.out.2 E4.out).mono ?_)
             rintro e wn ⟨x10a, rfl, ho0, hb⟩; refine ⟨_, rfl, ?_⟩; haveI := Nx.mk hb; have f10a := zlow ho0; clear hb ho0
             refine hK.out _ _ zS (fun hHeld => ?_); clear hK K; exact zj (h2_3_4_5_8_9_10 (x2a, x3a, x3b, x4a, x8a, x9a, x9b, x10a) _ ⟨zL, zr f10a⟩)
            refine join_ (σ := (Option Addr × Nat) × (Option Addr × Nat) × (Option Addr × Nat) × Value × (Option Addr × Nat) × (Option Addr × Nat) × (Option Addr × Nat) × Value) 4 (zl 14 2015) (fun s_ => [(83, .slice s_.1.1 y.length s_.1.2), (84, .agg #[.slice s_.2.1.1 BQ.length s_.2.1.2, .slice s_.2.2.1.1 BR.length s_.2.2.1.2]), (85, s_.2.2.2.1), (89, .slice s_.2.2.2.2.1.1 y.length s_.2.2.2.2.1.2), (90, .agg #[.slice s_.2.2.2.2.2.1.1 Bb.length s_.2.2.2.2.2.1.2, .slice s_.2.2.2.2.2.2.1.1 Bc.length s_.2.2.2.2.2.2.1.2]), (91, s_.2.2.2.2.2.2.2)]) (fun s_ w' => Below wc.heap.size wc w' ∧ (Kd.R (Kd.int .u8) 5 w' 0 (fun _ => True) s_.2.2.2.1 BS) ∧ (Kd.R (Kd.int .u8) 5 w' 0 (fun _ => True) s_.2.2.2.2.2.2.2 Be)) ?_ (fun h2_3_4_8_9_10 => ?_)
            ·rintro ⟨x2a, x3a, x3b, x4a, x8a, x9a, x9b, x10a⟩ wq ⟨hB, f4a, f10a⟩; haveI := Nx.mk hB; clear hB; replace f4a := zm f4a; replace f10a := zm f10a; refine zj2 ?_
             refine two_ (i := 5) (j := 11) (Ni := some 86) (Nj := some 92) (zl 14 2047) (zl 14 4063) rfl rfl rfl rfl (two_of HT_.out (by kernel_rfl)) (by decide) (by decide) (fun K hK => ?_) (fun K hK => ?_)
             ·skip
              have hcv := own_string (P := Try.prog) Try.underlying22 Try.underlying5 Try.underlying9 (Kd.own_of_R (zr (w' := wq) f4a)); refine value_ (w1 := ?_) (v := ?_) (by rfl) rfl ?_ ?_
              rotate_left 2
              ·go_simp
               constructor
               ·rfl
               ·rfl
              clear hcv
              refine hK.out _ _ zS (fun hHeld => ?_); clear hK K; exact zj (h2_3_4_5_8_9_10 (x2a, x3a, x3b, x4a, x8a, x9a, x9b, x10a) _ ⟨zL, zr f10a⟩)
             ·skip
              have hcv := own_string (P := Try.prog) Try.underlying22 Try.underlying5 Try.underlying9 (Kd.own_of_R (zr (w' := wq) f10a)); refine value_ (w1 := ?_) (v := ?_) (by rfl) rfl ?_ ?_
              rotate_left 2
              ·go_simp
               constructor
               ·rfl
               ·rfl
              clear hcv
              refine hK.out _ _ zS (fun hHeld => ?_); clear hK K; exact zj (h2_3_4_8_9_10_11 (x2a, x3a, x3b, x4a, x8a, x9a, x9b, x10a) _ ⟨zL, zr f4a⟩)
            refine join_ (σ := (Option Addr × Nat) × (Option Addr × Nat) × (Option Addr × Nat) × Value × (Option Addr × Nat)) 5 (zl 14 511) (fun s_ => [(83, .slice s_.1.1 y.length s_.1.2), (84, .agg #[.slice s_.2.1.1 BQ.length s_.2.1.2, .slice s_.2.2.1.1 BR.length s_.2.2.1.2]), (85, s_.2.2.2.1), (86, .string (strOfNums BS)), (89, .slice s_.2.2.2.2.1 y.length s_.2.2.2.2.2)]) (fun s_ w' => Below wc.heap.size wc w' ∧ Aside0 ((Kd.C (Kd.int .i64) w' s_.2.2.2.2.1 y.length y ∧ y.length ≤ s_.2.2.2.2.2))) ?_ (fun h2_3_4_5_8 => ?_)
            ·rintro ⟨x2a, x3a, x3b, x4a, x8a⟩ wq ⟨hB, f8a⟩; haveI := Nx.mk hB; clear hB; refine zj2 ?_
             refine zo 9 (some 90) (zl 14 1023) (fun K hK => ?_)
             refine zgo #[.agg #[.slice AU AA.length AQ, .slice AV AB.length AR], .slice x8a.1 y.length x8a.2] Try.func37 ?_; (with_reducible refine (impl_Slice.calls Br _ _ AA _ _ AB _ _ y Bb Bc _ (zk C2.out.1) C2.out.2 (zk C3.out.1) C3.out.2 (zk f8a.out.1) f8a.out.2 E3.out).mono ?_)
             rintro e wn ⟨v1, v2, rfl, ho0, ho1, hb⟩; refine ⟨_, rfl, ?_⟩; haveI := Nx.mk hb; obtain ⟨q, c, rfl, f9a⟩ := zRC ho0; obtain ⟨q', c', rfl, f9b⟩ := zRC ho1; obtain ⟨x9a, rfl, rfl⟩ : ∃ x : Option Addr × Nat, q = x.1 ∧ c = x.2 := ⟨(q, c), rfl, rfl⟩; obtain ⟨x9b, rfl, rfl⟩ : ∃ x : Option Addr × Nat, q' = x.1 ∧ c' = x.2 := ⟨(q', c'), rfl, rfl⟩; clear hb ho0 ho1
             refine hK.out _ _ zS (fun hHeld => ?_); clear hK K; exact zj (h2_3_4_5_8_9 (x2a, x3a, x3b, x4a, x8a, x9a, x9b) _ ⟨zL, ⟨zk f9a.out.1, f9a.out.2⟩, ⟨zk f9b.out.1, f9b.out.2⟩⟩)
            refine join_ (σ := (Option Addr × Nat) × (Option Addr × Nat) × (Option Addr × Nat) × Value × (Option Addr × Nat) × (Option Addr × Nat) × (Option Addr × Nat)) 5 (zl 14 991) (fun s_ => [(83, .slice s_.1.1 y.length s_.1.2), (84, .agg #[.slice s_.2.1.1 BQ.length s_.2.1.2, .slice s_.2.2.1.1 BR.length s_.2.2.1.2]), (85, s_.2.2.2.1), (89, .slice s_.2.2.2.2.1.1 y.length s_.2.2.2.2.1.2), (90, .agg #[.slice s_.2.2.2.2.2.1.1 Bb.length s_.2.2.2.2.2.1.2, .slice s_.2.2.2.2.2.2.1 Bc.length s_.2.2.2.2.2.2.2])]) (fun s_ w' => Below wc.heap.size wc w' ∧ (Kd.R (Kd.int .u8) 5 w' 0 (fun _ => True) s_.2.2.2.1 BS) ∧ Aside0 ((Kd.C k44 w' s_.2.2.2.2.2.1.1 Bb.length Bb ∧ Bb.length ≤ s_.2.2.2.2.2.1.2)) ∧ Aside0 ((Kd.C k58 w' s_.2.2.2.2.2.2.1 Bc.length Bc ∧ Bc.length ≤ s_.2.2.2.2.2.2.2))) ?_ (fun h2_3_4_8_9 => ?_)
            ·rintro ⟨x2a, x3a, x3b, x4a, x8a, x9a, x9b⟩ wq ⟨hB, f4a, f9a, f9b⟩; haveI := Nx.mk hB; clear hB; replace f4a := zm f4a; refine zj2 ?_
             refine two_ (i := 5) (j := 10) (Ni := some 86) (Nj := some 91) (zl 14 1023) (zl 14 2015) rfl rfl rfl rfl (two_of HT_.out (by kernel_rfl)) (by decide) (by decide) (fun K hK => ?_) (fun K hK => ?_)
             ·skip
              have hcv := own_string (P := Try.prog) Try.underlying22 Try.underlying5 Try.underlying9 (Kd.own_of_R (zr (w' := wq) f4a)); refine value_ (w1 := ?_) (v := ?_) (by rfl) rfl ?_ ?_
              rotate_left 2
              ·go_simp
               constructor
               ·rfl
               ·rfl
              clear hcv
              refine hK.out _ _ zS (fun hHeld => ?_); clear hK K; exact zj (h2_3_4_5_8_9 (x2a, x3a, x3b, x4a, x8a, x9a, x9b) _ ⟨zL, ⟨zk f9a.out.1, f9a.out.2⟩, ⟨zk f9b.out.1, f9b.out.2⟩⟩)
             ·skip
              refine zgo #[.agg #[.slice x9a.1 Bb.length x9a.2, .slice x9b.1 Bc.length x9b.2]] Try.func54 ?_; (with_reducible refine (impl_StateBytes.calls Br _ _ Bb _ _ Bc Be _ (zk f9a.out.1) f9a.out.2 (zk f9b.out.1) f9b.out.2 E4.out).mono ?_)
              rintro e wn ⟨x10a, rfl, ho0, hb⟩; refine ⟨_, rfl, ?_⟩; haveI := Nx.mk hb; have f10a := zlow ho0; clear hb ho0
              refine hK.out _ _ zS (fun hHeld => ?_); clear hK K; exact zj (h2_3_4_8_9_10 (x2a, x3a, x3b, x4a, x8a, x9a, x9b, x10a) _ ⟨zL, zr f4a, zr f10a⟩)
            refine join_ (σ := (Option Addr × Nat) × (Option Addr × Nat) × (Option Addr × Nat) × Value) 6 (zl 14 255) (fun s_ => [(83, .slice s_.1.1 y.length s_.1.2), (84, .agg #[.slice s_.2.1.1 BQ.length s_.2.1.2, .slice s_.2.2.1.1 BR.length s_.2.2.1.2]), (85, s_.2.2.2), (86, .string (strOfNums BS))]) (fun s_ w' => Below wc.heap.size wc w') ?_ (fun h2_3_4_5 => ?_)
            ·rintro ⟨x2a, x3a, x3b, x4a⟩ wq hB; haveI := Nx.mk hB; clear hB; refine zj2 ?_
             refine zo 8 (some 89) (zl 14 511) (fun K hK => ?_)
             refine zlit 89 hy (fun q c wn iN g => ?_); obtain ⟨x8a, rfl, rfl⟩ : ∃ x : Option Addr × Nat, q = x.1 ∧ c = x.2 := ⟨(q, c), rfl, rfl⟩; have f8a := g; clear g
             refine hK.out _ _ zS (fun hHeld => ?_); clear hK K; exact zj (h2_3_4_5_8 (x2a, x3a, x3b, x4a, x8a) _ ⟨zL, ⟨zk f8a.out.1, f8a.out.2⟩⟩)
            refine join_ (σ := (Option Addr × Nat) × (Option Addr × Nat) × (Option Addr × Nat) × Value × (Option Addr × Nat)) 6 (zl 14 479) (fun s_ => [(83, .slice s_.1.1 y.length s_.1.2), (84, .agg #[.slice s_.2.1.1 BQ.length s_.2.1.2, .slice s_.2.2.1.1 BR.length s_.2.2.1.2]), (85, s_.2.2.2.1), (89, .slice s_.2.2.2.2.1 y.length s_.2.2.2.2.2)]) (fun s_ w' => Below wc.heap.size wc w' ∧ (Kd.R (Kd.int .u8) 5 w' 0 (fun _ => True) s_.2.2.2.1 BS) ∧ Aside0 ((Kd.C (Kd.int .i64) w' s_.2.2.2.2.1 y.length y ∧ y.length ≤ s_.2.2.2.2.2))) ?_ (fun h2_3_4_8 => ?_)
            ·rintro ⟨x2a, x3a, x3b, x4a, x8a⟩ wq ⟨hB, f4a, f8a⟩; haveI := Nx.mk hB; clear hB; replace f4a := zm f4a; refine zj2 ?_
             refine two_ (i := 5) (j := 9) (Ni := some 86) (Nj := some 90) (zl 14 511) (zl 14 991) rfl rfl rfl rfl (two_of HT_.out (by kernel_rfl)) (by decide) (by decide) (fun K hK => ?_) (fun K hK => ?_)
             ·skip
              have hcv := own_string (P := Try.prog) Try.underlying22 Try.underlying5 Try.underlying9 (Kd.own_of_R (zr (w' := wq) f4a)); refine value_ (w1 := ?_) (v := ?_) (by rfl) rfl ?_ ?_
              rotate_left 2
              ·go_simp
               constructor
               ·rfl
               ·rfl
              clear hcv
              refine hK.out _ _ zS (fun hHeld => ?_); clear hK K; exact zj (h2_3_4_5_8 (x2a, x3a, x3b, x4a, x8a) _ ⟨zL, ⟨zk f8a.out.1, f8a.out.2⟩⟩)
             ·skip
              refine zgo #[.agg #[.slice AU AA.length AQ, .slice AV AB.length AR], .slice x8a.1 y.length x8a.2] Try.func37 ?_; (with_reducible refine (impl_Slice.calls Br _ _ AA _ _ AB _ _ y Bb Bc _ (zk C2.out.1) C2.out.2 (zk C3.out.1) C3.out.2 (zk f8a.out.1) f8a.out.2 E3.out).mono ?_)
              rintro e wn ⟨v1, v2, rfl, ho0, ho1, hb⟩; refine ⟨_, rfl, ?_⟩; haveI := Nx.mk hb; obtain ⟨q, c, rfl, f9a⟩ := zRC ho0; obtain ⟨q', c', rfl, f9b⟩ := zRC ho1; obtain ⟨x9a, rfl, rfl⟩ : ∃ x : Option Addr × Nat, q = x.1 ∧ c = x.2 := ⟨(q, c), rfl, rfl⟩; obtain ⟨x9b, rfl, rfl⟩ : ∃ x : Option Addr × Nat, q' = x.1 ∧ c' = x.2 := ⟨(q', c'), rfl, rfl⟩; clear hb ho0 ho1
              refine hK.out _ _ zS (fun hHeld => ?_); clear hK K; exact zj (h2_3_4_8_9 (x2a, x3a, x3b, x4a, x8a, x9a, x9b) _ ⟨zL, zr f4a, ⟨zk f9a.out.1, f9a.out.2⟩, ⟨zk f9b.out.1, f9b.out.2⟩⟩)
            refine join_ (σ := (Option Addr × Nat) × (Option Addr × Nat) × (Option Addr × Nat) × Value) 7 (zl 14 223) (fun s_ => [(83, .slice s_.1.1 y.length s_.1.2), (84, .agg #[.slice s_.2.1.1 BQ.length s_.2.1.2, .slice s_.2.2.1.1 BR.length s_.2.2.1.2]), (85, s_.2.2.2)]) (fun s_ w' => Below wc.heap.size wc w' ∧ (Kd.R (Kd.int .u8) 5 w' 0 (fun _ => True) s_.2.2.2 BS)) ?_ (fun h2_3_4 => ?_)
            ·rintro ⟨x2a, x3a, x3b, x4a⟩ wq ⟨hB, f4a⟩; haveI := Nx.mk hB; clear hB; replace f4a := zm f4a; refine zj2 ?_
             refine two_ (i := 5) (j := 8) (Ni := some 86) (Nj := some 89) (zl 14 255) (zl 14 479) rfl rfl rfl rfl (two_of HT_.out (by kernel_rfl)) (by decide) (by decide) (fun K hK => ?_) (fun K hK => ?_)
             ·skip
              have hcv := own_string (P := Try.prog) Try.underlying22 Try.underlying5 Try.underlying9 (Kd.own_of_R (zr (w' := wq) f4a)); refine value_ (w1 := ?_) (v := ?_) (by rfl) rfl ?_ ?_
              rotate_left 2
              ·go_simp
               constructor
               ·rfl
               ·rfl
              clear hcv
              refine hK.out _ _ zS (fun hHeld => ?_); clear hK K; exact zj (h2_3_4_5 (x2a, x3a, x3b, x4a) _ zL)
             ·skip
              refine zlit 89 hy (fun q c wn iN g => ?_); obtain ⟨x8a, rfl, rfl⟩ : ∃ x : Option Addr × Nat, q = x.1 ∧ c = x.2 := ⟨(q, c), rfl, rfl⟩; have f8a := g; clear g
              refine hK.out _ _ zS (fun hHeld => ?_); clear hK K; exact zj (h2_3_4_8 (x2a, x3a, x3b, x4a, x8a) _ ⟨zL, zr f4a, ⟨zk f8a.out.1, f8a.out.2⟩⟩)
            refine join_ (σ := (Option Addr × Nat) × (Option Addr × Nat) × (Option Addr × Nat) × (Option Addr × Nat)) 7 (zl 14 463) (fun s_ => [(83, .slice s_.1.1 y.length s_.1.2), (84, .agg #[.slice s_.2.1.1 BQ.length s_.2.1.2, .slice s_.2.2.1.1 BR.length s_.2.2.1.2]), (89, .slice s_.2.2.2.1 y.length s_.2.2.2.2)]) (fun s_ w' => Below wc.heap.size wc w' ∧ Aside0 ((Kd.C k44 w' s_.2.1.1 BQ.length BQ ∧ BQ.length ≤ s_.2.1.2)) ∧ Aside0 ((Kd.C k58 w' s_.2.2.1.1 BR.length BR ∧ BR.length ≤ s_.2.2.1.2)) ∧ Aside0 ((Kd.C (Kd.int .i64) w' s_.2.2.2.1 y.length y ∧ y.length ≤ s_.2.2.2.2))) ?_ (fun h2_3_8 => ?_)
            ·rintro ⟨x2a, x3a, x3b, x8a⟩ wq ⟨hB, f3a, f3b, f8a⟩; haveI := Nx.mk hB; clear hB; refine zj2 ?_
             refine zo 4 (some 85) (zl 14 479) (fun K hK => ?_)
             refine zgo #[.agg #[.slice x3a.1 BQ.length x3a.2, .slice x3b.1 BR.length x3b.2]] Try.func54 ?_; (with_reducible refine (impl_StateBytes.calls Br _ _ BQ _ _ BR BS _ (zk f3a.out.1) f3a.out.2 (zk f3b.out.1) f3b.out.2 E2.out).mono ?_)
             rintro e wn ⟨x4a, rfl, ho0, hb⟩; refine ⟨_, rfl, ?_⟩; haveI := Nx.mk hb; have f4a := zlow ho0; clear hb ho0
             refine hK.out _ _ zS (fun hHeld => ?_); clear hK K; exact zj (h2_3_4_8 (x2a, x3a, x3b, x4a, x8a) _ ⟨zL, zr f4a, ⟨zk f8a.out.1, f8a.out.2⟩⟩)
            refine join_ (σ := (Option Addr × Nat) × (Option Addr × Nat) × (Option Addr × Nat)) 8 (zl 14 207) (fun s_ => [(83, .slice s_.1.1 y.length s_.1.2), (84, .agg #[.slice s_.2.1.1 BQ.length s_.2.1.2, .slice s_.2.2.1 BR.length s_.2.2.2])]) (fun s_ w' => Below wc.heap.size wc w' ∧ Aside0 ((Kd.C k44 w' s_.2.1.1 BQ.length BQ ∧ BQ.length ≤ s_.2.1.2)) ∧ Aside0 ((Kd.C k58 w' s_.2.2.1 BR.length BR ∧ BR.length ≤ s_.2.2.2))) ?_ (fun h2_3 => ?_)
            ·rintro ⟨x2a, x3a, x3b⟩ wq ⟨hB, f3a, f3b⟩; haveI := Nx.mk hB; clear hB; refine zj2 ?_
             refine two_ (i := 4) (j := 8) (Ni := some 85) (Nj := some 89) (zl 14 223) (zl 14 463) rfl rfl rfl rfl (two_of HT_.out (by kernel_rfl)) (by decide) (by decide) (fun K hK => ?_) (fun K hK => ?_)
             ·skip
              refine zgo #[.agg #[.slice x3a.1 BQ.length x3a.2, .slice x3b.1 BR.length x3b.2]] Try.func54 ?_; (with_reducible refine (impl_StateBytes.calls Br _ _ BQ _ _ BR BS _ (zk f3a.out.1) f3a.out.2 (zk f3b.out.1) f3b.out.2 E2.out).mono ?_)
              rintro e wn ⟨x4a, rfl, ho0, hb⟩; refine ⟨_, rfl, ?_⟩; haveI := Nx.mk hb; have f4a := zlow ho0; clear hb ho0
              refine hK.out _ _ zS (fun hHeld => ?_); clear hK K; exact zj (h2_3_4 (x2a, x3a, x3b, x4a) _ ⟨zL, zr f4a⟩)
             ·skip
              refine zlit 89 hy (fun q c wn iN g => ?_); obtain ⟨x8a, rfl, rfl⟩ : ∃ x : Option Addr × Nat, q = x.1 ∧ c = x.2 := ⟨(q, c), rfl, rfl⟩; have f8a := g; clear g
              refine hK.out _ _ zS (fun hHeld => ?_); clear hK K; exact zj (h2_3_8 (x2a, x3a, x3b, x8a) _ ⟨zL, ⟨zk f3a.out.1, f3a.out.2⟩, ⟨zk f3b.out.1, f3b.out.2⟩, ⟨zk f8a.out.1, f8a.out.2⟩⟩)
            refine join_ (σ := (Option Addr × Nat) × (Option Addr × Nat)) 8 (zl 14 455) (fun s_ => [(83, .slice s_.1.1 y.length s_.1.2), (89, .slice s_.2.1 y.length s_.2.2)]) (fun s_ w' => Below wc.heap.size wc w' ∧ Aside0 ((Kd.C (Kd.int .i64) w' s_.1.1 y.length y ∧ y.length ≤ s_.1.2)) ∧ Aside0 ((Kd.C (Kd.int .i64) w' s_.2.1 y.length y ∧ y.length ≤ s_.2.2))) ?_ (fun h2_8 => ?_)
            ·rintro ⟨x2a, x8a⟩ wq ⟨hB, f2a, f8a⟩; haveI := Nx.mk hB; clear hB; refine zj2 ?_
             refine zo 3 (some 84) (zl 14 463) (fun K hK => ?_)
             refine zgo #[.agg #[.slice AS AC.length AO, .slice AT AD.length AP], .slice x2a.1 y.length x2a.2] Try.func37 ?_; (with_reducible refine (impl_Slice.calls Br _ _ AC _ _ AD _ _ y BQ BR _ (zk C0.out.1) C0.out.2 (zk C1.out.1) C1.out.2 (zk f2a.out.1) f2a.out.2 E1.out).mono ?_)
             rintro e wn ⟨v1, v2, rfl, ho0, ho1, hb⟩; refine ⟨_, rfl, ?_⟩; haveI := Nx.mk hb; obtain ⟨q, c, rfl, f3a⟩ := zRC ho0; obtain ⟨q', c', rfl, f3b⟩ := zRC ho1; obtain ⟨x3a, rfl, rfl⟩ : ∃ x : Option Addr × Nat, q = x.1 ∧ c = x.2 := ⟨(q, c), rfl, rfl⟩; obtain ⟨x3b, rfl, rfl⟩ : ∃ x : Option Addr × Nat, q' = x.1 ∧ c' = x.2 := ⟨(q', c'), rfl, rfl⟩; clear hb ho0 ho1
             refine hK.out _ _ zS (fun hHeld => ?_); clear hK K; exact zj (h2_3_8 (x2a, x3a, x3b, x8a) _ ⟨zL, ⟨zk f3a.out.1, f3a.out.2⟩, ⟨zk f3b.out.1, f3b.out.2⟩, ⟨zk f8a.out.1, f8a.out.2⟩⟩)
            refine join_ (σ := (Option Addr × Nat)) 9 (zl 14 199) (fun s_ => [(83, .slice s_.1 y.length s_.2)]) (fun s_ w' => Below wc.heap.size wc w' ∧ Aside0 ((Kd.C (Kd.int .i64) w' s_.1 y.length y ∧ y.length ≤ s_.2))) ?_ (fun h2 => ?_)
            ·rintro x2a wq ⟨hB, f2a⟩; haveI := Nx.mk hB; clear hB; refine zj2 ?_
             refine two_ (i := 3) (j := 8) (Ni := some 84) (Nj := some 89) (zl 14 207) (zl 14 455) rfl rfl rfl rfl (two_of HT_.out (by kernel_rfl)) (by decide) (by decide) (fun K hK => ?_) (fun K hK => ?_)
             ·skip
              refine zgo #[.agg #[.slice AS AC.length AO, .slice AT AD.length AP], .slice x2a.1 y.length x2a.2] Try.func37 ?_; (with_reducible refine (impl_Slice.calls Br _ _ AC _ _ AD _ _ y BQ BR _ (zk C0.out.1) C0.out.2 (zk C1.out.1) C1.out.2 (zk f2a.out.1) f2a.out.2 E1.out).mono ?_)
              rintro e wn ⟨v1, v2, rfl, ho0, ho1, hb⟩; refine ⟨_, rfl, ?_⟩; haveI := Nx.mk hb; obtain ⟨q, c, rfl, f3a⟩ := zRC ho0; obtain ⟨q', c', rfl, f3b⟩ := zRC ho1; obtain ⟨x3a, rfl, rfl⟩ : ∃ x : Option Addr × Nat, q = x.1 ∧ c = x.2 := ⟨(q, c), rfl, rfl⟩; obtain ⟨x3b, rfl, rfl⟩ : ∃ x : Option Addr × Nat, q' = x.1 ∧ c' = x.2 := ⟨(q', c'), rfl, rfl⟩; clear hb ho0 ho1
              refine hK.out _ _ zS (fun hHeld => ?_); clear hK K; exact zj (h2_3 (x2a, x3a, x3b) _ ⟨zL, ⟨zk f3a.out.1, f3a.out.2⟩, ⟨zk f3b.out.1, f3b.out.2⟩⟩)
             ·skip
              refine zlit 89 hy (fun q c wn iN g => ?_); obtain ⟨x8a, rfl, rfl⟩ : ∃ x : Option Addr × Nat, q = x.1 ∧ c = x.2 := ⟨(q, c), rfl, rfl⟩; have f8a := g; clear g
              refine hK.out _ _ zS (fun hHeld => ?_); clear hK K; exact zj (h2_8 (x2a, x8a) _ ⟨zL, ⟨zk f2a.out.1, f2a.out.2⟩, ⟨zk f8a.out.1, f8a.out.2⟩⟩)
            refine join_ (σ := (Option Addr × Nat)) 9 (zl 14 451) (fun s_ => [(89, .slice s_.1 y.length s_.2)]) (fun s_ w' => Below wc.heap.size wc w' ∧ Aside0 ((Kd.C (Kd.int .i64) w' s_.1 y.length y ∧ y.length ≤ s_.2))) ?_ (fun h8 => ?_)
            ·rintro x8a wq ⟨hB, f8a⟩; haveI := Nx.mk hB; clear hB; refine zj2 ?_
             refine zo 2 (some 83) (zl 14 455) (fun K hK => ?_)
             refine zlit 83 hy (fun q c wn iN g => ?_); obtain ⟨x2a, rfl, rfl⟩ : ∃ x : Option Addr × Nat, q = x.1 ∧ c = x.2 := ⟨(q, c), rfl, rfl⟩; have f2a := g; clear g
             refine hK.out _ _ zS (fun hHeld => ?_); clear hK K; exact zj (h2_8 (x2a, x8a) _ ⟨zL, ⟨zk f2a.out.1, f2a.out.2⟩, ⟨zk f8a.out.1, f8a.out.2⟩⟩)
            refine two_ (i := 2) (j := 8) (Ni := some 83) (Nj := some 89) (zl 14 199) (zl 14 451) rfl rfl rfl rfl (two_of HT_.out (by kernel_rfl)) (by decide) (by decide) (fun K hK => ?_) (fun K hK => ?_)
            ·skip
             refine zlit 83 hy (fun q c wn iN g => ?_); obtain ⟨x2a, rfl, rfl⟩ : ∃ x : Option Addr × Nat, q = x.1 ∧ c = x.2 := ⟨(q, c), rfl, rfl⟩; have f2a := g; clear g
             refine hK.out _ _ zS (fun hHeld => ?_); clear hK K; exact zj (h2 (x2a) _ ⟨zL, ⟨zk f2a.out.1, f2a.out.2⟩⟩)
            ·skip
             refine zlit 89 hy (fun q c wn iN g => ?_); obtain ⟨x8a, rfl, rfl⟩ : ∃ x : Option Addr × Nat, q = x.1 ∧ c = x.2 := ⟨(q, c), rfl, rfl⟩; have f8a := g; clear g
             refine hK.out _ _ zS (fun hHeld => ?_); clear hK K; exact zj (h8 (x8a) _ ⟨zL, ⟨zk f8a.out.1, f8a.out.2⟩⟩)
           ·replace E7 := Bool.eq_false_iff.mpr E7; subst E7; rw [zff] at H; replace H := Option.bind_eq_some_iff.mp H; obtain ⟨Fg, Fq, H⟩ := H; (try dsimp only at H); replace Fq := zm Fq
            cases Fg with
            | false => rw [zff] at H; rw [HRT.out] at H; cases H
            | true =>
             rw [if_pos rfl] at H; replace H := Option.bind_eq_some_iff.mp H; obtain ⟨⟨Fh, Fi⟩, Fr, H⟩ := H; (try dsimp only at H); replace Fr := zm Fr; obtain rfl := Option.some.inj H; obtain ⟨GC, GD, GW, GX⟩ := zd2 wc Ao; obtain ⟨GE, GF, GY, GZ⟩ := zd2 wc Am
             go_wp2_with (first | ((with_reducible refine gate_callee (f := 20) rfl ?_); refine zg (some 110) #[.agg #[.slice F5 B0.length FL, .slice F6 B2.length FM], .agg #[.slice Ag AE.length Ae, .slice Ah AF.length Af]] Try.func20 ?_; (with_reducible refine (impl_StateSame.calls Br _ _ B0 _ _ B2 _ _ AE _ _ AF true _ (zk T0.out.1) T0.out.2 (zk T1.out.1) T1.out.2 (zk S0.out.1) S0.out.2 (zk S1.out.1) S1.out.2 Fq.out).mono ?_); rintro e JA ⟨rfl, hb⟩; refine ⟨_, rfl, ?_⟩; haveI := Nx.mk hb; clear hb; obtain ⟨GG, GH, Ga, Gb⟩ := zd2 JA Am) | (go_at_call 39; (with_reducible refine (impl_TreeOf.calls Br _ _ AE _ _ AF Fh Fi _ (zk S0.out.1) S0.out.2 (zk S1.out.1) S1.out.2 Fr.out).mono ?_); rintro e JB ⟨v1450, rfl, ho0, hb⟩; haveI := Nx.mk hb; obtain ⟨X0, X1, rfl, -⟩ := zRC ho0; clear hb ho0))
             go_ret
             exact ⟨zE, zL⟩

def laws_FnSlices.Pure : Prop := ∀ (l0 : List Int), l0.length ≤ maxLen → l0.length * 1 ≤ 140737488351232 → (∀ x ∈ l0, (Lit.int .u8 x).wf = true) → ∃ k, laws_FnSlices.f k l0 = some true

end Go.Proofs.Ytnmofppbijmhoaa.P
