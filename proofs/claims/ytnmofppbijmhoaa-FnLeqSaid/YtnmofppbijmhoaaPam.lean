-- by a program of this session, for this seat
import Derived.Test.YtnmofppbijmhoaaZ
import Derived.Test.YtnmofppbijmhoaaP0
import Derived.Test.YtnmofppbijmhoaaPah
namespace Go.Proofs.Ytnmofppbijmhoaa.P
open Go.RowKit Go.Proofs.YtnmofppbijmhoaaW.PrintWords Go.Proofs.YtnmofppbijmhoaaW.PrintLast Go.Proofs.YtnmofppbijmhoaaW.PrintMore Go.Proofs.Ytnmofppbijmhoaa.Z
attribute [local go_sem] max2_int min2_int max_two min_two max_three min_three max_four min_four   -- for this text's walks alone
set_option linter.unusedVariables false
set_option linter.unusedSimpArgs false

/-! ### spec_l1New: function 73 -/
def spec_l1New.l0 : Nat → List Int → Int → Int → Option (List Int × Int × Int)
 | 0, _, _, _ => none
 | k + 1, x0, x3, x4 => if x4 < (x0.length : Int) then (if x4 < 4000 then (if 0 ≤ x4 then (spec_l1New.l0 k x0 (Go.bits .and .i64 (wrap64 ((wrap64 ((wrap64 (x3 * 131)) + (wrap64 (rd x0 x4)))) + 7)) 1073741823) (wrap64 (x4 + 1))) else (none)) else (some (x0, 0, x3))) else (some (x0, 0, x3))
def spec_l1New.f (k : Nat) (l0 : List Int) : Option (List Int × Int × Int) := spec_l1New.l0 k l0 (wrap64 (26583 + (l0.length : Int))) 0
theorem spec_l1New.mono_l : ∀ k, (∀ y0 y1 y2, LeO (spec_l1New.l0 k y0 y1 y2) (spec_l1New.l0 (k + 1) y0 y1 y2))
 | 0 => fun _ _ _ r h => by simp [spec_l1New.l0] at h
 | k + 1 => by
  have ih0 := spec_l1New.mono_l k
  ·intro y0 y1 y2
   unfold spec_l1New.l0
   repeat' first | (with_reducible first | exact LeO.refl _ | exact LeO.none _ | refine LeO.ite ?_ ?_ | refine LeO.bind ?_ (fun _ => ?_) | apply ih0) | apply ih0 | exact LeO.none _ | refine LeO.ite ?_ ?_ | refine LeO.bind ?_ (fun _ => ?_)
theorem spec_l1New.mono : ∀ a0 k, LeO (spec_l1New.f k a0) (spec_l1New.f (k + 1) a0) := by
 intro a0 k; have ih0 := spec_l1New.mono_l k
 unfold spec_l1New.f
 repeat' first | (with_reducible first | exact LeO.refl _ | exact LeO.none _ | refine LeO.ite ?_ ?_ | refine LeO.bind ?_ (fun _ => ?_) | apply ih0) | apply ih0 | exact LeO.none _ | refine LeO.ite ?_ ?_ | refine LeO.bind ?_ (fun _ => ?_)
set_option maxHeartbeats 8000000 in
set_option maxRecDepth 100000 in
theorem spec_l1New.calls (k : Nat) (A0 : Option Addr) (c0 : Nat) (l0 : List Int) (r1 : List Int) (r2 : Int) (r3 : Int) (w0 w : World) (hB : Below w0.heap.size w0 w) (hr0 : Kd.C (Kd.int .u8) w0 A0 l0.length l0) (hc0 : l0.length ≤ c0) (h : spec_l1New.f k l0 = some (r1, r2, r3)) :
  Calls Try.prog 73 #[.slice A0 l0.length c0] w fun e w' => ∃ g_ : Nat, e = .returned (.pointer (some ⟨g_, 0, none⟩)) ∧ IsS97 w0 w' g_ r1 r2 r3 ∧ Below w0.heap.size w0 w' ∧ Below w.heap.size w w' := by
 have hu97 := Try.underlying97; have HR0 := zm hr0; have AO := zm hc0; clear hr0 hc0; have HBW := zm (Below.refl w.heap.size w); have HW0 := zm hB.size; have HB := zm hB; clear hB; have H : (spec_l1New.l0 k l0 (wrap64 (26583 + (l0.length : Int))) 0) = some (r1, r2, r3) := h; clear h
 have H' := zm H
 clear H; go_enter Try.func73, Try.ntmps73
 go_wp2
 go_loopg [3, 4] k (fun kq v3 v4 w' => ∃ (AB : Int) (AA : Int), v3 = .int .i64 AB ∧ v4 = .int .i64 AA ∧ Aside0 (spec_l1New.l0 kq l0 AB AA = some (r1, r2, r3)) ∧ Aside0 (kq ≤ k) ∧ Aside0 (Below w0.heap.size w0 w') ∧ Aside0 (Below w.heap.size w w'))
 case atStart => exact ⟨(wrap64 (26583 + (l0.length : Int))), (0), zF, zF, H', ⟨Nat.le_refl _⟩, ⟨zB⟩, ⟨by repeat (first | (with_reducible first | exact HBW.out | apply below_alloc | apply pw_below_drewN | apply below_drew1) | exact HBW.out)⟩⟩
 case round =>
  clear H'; obtain ⟨AB, AA, rfl, rfl, HA, AK, HB, HBW⟩ := hrel
  cases gk with
  | zero => exact absurd HA.out (by simp [spec_l1New.l0])
  | succ k1 =>
   have H := HA.out; clear HA; simp only [spec_l1New.l0] at H
   by_cases c2 : AA < (l0.length : Int)
   ·rw [if_pos c2] at H; have AL : decide (AA < (l0.length : Int)) = true := decide_eq_true c2; clear c2
    by_cases c3 : AA < 4000
    ·rw [if_pos c3] at H; have AM : decide (AA < 4000) = true := decide_eq_true c3; clear c3
     by_cases c4 : 0 ≤ AA
     ·rw [if_pos c4] at H; have AN : decide (0 ≤ AA) = true := decide_eq_true c4; clear c4
      have H' := zm H
      clear H; have p466 : 0 ≤ (AA : Int) := zd; have q466 : AA < (l0.length : Int) := zd; obtain ⟨ad466, e466, hx466_0⟩ := Kd.at_int HR0.out AA p466 q466; cases e466; replace hx466_0 := pw_cell_below HB.out hx466_0; replace p466 := eq_true p466; replace q466 := eq_true q466
      go_wp2
      go_roundg k1
      case measure => have := AK.out; omega
      case rel => exact ⟨(Go.bits .and .i64 (wrap64 ((wrap64 ((wrap64 (AB * 131)) + (wrap64 (rd l0 AA)))) + 7)) 1073741823), (wrap64 (AA + 1)), zF, zF, H', ⟨by have := AK.out; omega⟩, ⟨zB⟩, ⟨by repeat (first | (with_reducible first | exact HBW.out | apply below_alloc | apply pw_below_drewN | apply below_drew1) | exact HBW.out)⟩⟩
     ·rw [if_neg c4] at H
      exact absurd H (by simp)
    ·rw [if_neg c3] at H; have AM : decide (AA < 4000) = false := decide_eq_false c3; clear c3; simp only [Option.some.injEq, Prod.mk.injEq] at H; obtain ⟨rfl, rfl, rfl⟩ := H
     go_wp2_with (first | ((with_reducible refine gate_dst (N := 31) rfl ?_); refine zbox 31 #[.slice A0 l0.length c0, .int .i64 0, .int .i64 AB] 97 ?_; intro AC hg w5 hbox hb; replace HB := zm (below_step zB hb); have AE := zm (hbox); have AI := zm ((by rw [hg]; exact (below_size (by repeat (first | (with_reducible first | exact HBW.out | apply below_alloc | apply pw_below_drewN | apply below_drew1) | exact HBW.out))) : w.heap.size ≤ AC)); have AG := zm ((Nat.le_trans HW0.out (by rw [hg]; exact (below_size (by repeat (first | (with_reducible first | exact HBW.out | apply below_alloc | apply pw_below_drewN | apply below_drew1) | exact HBW.out))) : w.heap.size ≤ AC) : w0.heap.size ≤ AC)); replace HBW := zm (below_step HBW.out hb); clear hb hbox hg))
     go_ret
     exact ⟨_, rfl, (show IsS97 w0 _ AC l0 0 AB from ⟨_, _, by (with_reducible repeat (first | refine blk_drewN ?_ _ | refine blk_drew ?_ | refine blk_alloc ?_ _)); exact AE.out, AG.out, HR0.out⟩), zB, by repeat (first | (with_reducible first | exact HBW.out | apply below_alloc | apply pw_below_drewN | apply below_drew1 | refine below_set ?_ AI.out) | exact HBW.out)⟩
   ·rw [if_neg c2] at H; have AL : decide (AA < (l0.length : Int)) = false := decide_eq_false c2; clear c2; simp only [Option.some.injEq, Prod.mk.injEq] at H; obtain ⟨rfl, rfl, rfl⟩ := H
    go_wp2_with (first | ((with_reducible refine gate_dst (N := 31) rfl ?_); refine zbox 31 #[.slice A0 l0.length c0, .int .i64 0, .int .i64 AB] 97 ?_; intro AD hg w6 hbox hb; replace HB := zm (below_step zB hb); have AF := zm (hbox); have AJ := zm ((by rw [hg]; exact (below_size (by repeat (first | (with_reducible first | exact HBW.out | apply below_alloc | apply pw_below_drewN | apply below_drew1) | exact HBW.out))) : w.heap.size ≤ AD)); have AH := zm ((Nat.le_trans HW0.out (by rw [hg]; exact (below_size (by repeat (first | (with_reducible first | exact HBW.out | apply below_alloc | apply pw_below_drewN | apply below_drew1) | exact HBW.out))) : w.heap.size ≤ AD) : w0.heap.size ≤ AD)); replace HBW := zm (below_step HBW.out hb); clear hb hbox hg))
    go_ret
    exact ⟨_, rfl, (show IsS97 w0 _ AD l0 0 AB from ⟨_, _, by (with_reducible repeat (first | refine blk_drewN ?_ _ | refine blk_drew ?_ | refine blk_alloc ?_ _)); exact AF.out, AH.out, HR0.out⟩), zB, by repeat (first | (with_reducible first | exact HBW.out | apply below_alloc | apply pw_below_drewN | apply below_drew1 | refine below_set ?_ AJ.out) | exact HBW.out)⟩

/-! ### spec_l3Copy: function 100 -/
def spec_l3Copy.f (l0_0 : List (S44)) (l0_1 : List (S58)) : Option ((List (S44)) × (List (S58))) := (some (([] : List (S44)) : List (S44))).bind fun y471 => (if y471.length + l0_0.length < 2513169434916 then ((some (([] : List (S58)) : List (S58))).bind fun y477 => (if y477.length + l0_1.length < 8796093022208 then (some ((y471 ++ l0_0), (y477 ++ l0_1))) else (none))) else (none))
def spec_l3Copy.T1 : Bool × List (List Nat × List Nat) := (true, [([], []), ([], []), ([1], [1]), ([0, 2], [0, 2]), ([], []), ([], []), ([5], [5]), ([4, 6, 3], [4, 6]), ([3, 7], [3, 7]), ([8, 7, 0, 1, 2, 3, 4, 5, 6, 7, 8], [8])])
def spec_l3Copy.B1 : List Nat := [0, 0, 2, 7, 0, 0, 32, 127, 255, 511]
theorem spec_l3Copy.tab1 : rtab .any (opsOf Try.f100 1) = spec_l3Copy.T1 := by kernel_rfl
theorem spec_l3Copy.bits1 : waitsOk spec_l3Copy.T1.2 spec_l3Copy.B1 = true := by kernel_rfl
set_option maxHeartbeats 8000000 in
set_option maxRecDepth 100000 in
theorem spec_l3Copy.calls (A0_0 : Option Addr) (c0_0 : Nat) (l0_0 : List (S44)) (A0_1 : Option Addr) (c0_1 : Nat) (l0_1 : List (S58)) (r1 : List (S44)) (r2 : List (S58)) (w : World) (hr0_0 : Kd.C k44 w A0_0 l0_0.length l0_0) (hc0_0 : l0_0.length ≤ c0_0) (hr0_1 : Kd.C k58 w A0_1 l0_1.length l0_1) (hc0_1 : l0_1.length ≤ c0_1) (h : spec_l3Copy.f l0_0 l0_1 = some (r1, r2)) :
  Calls Try.prog 100 #[.agg #[.slice A0_0 l0_0.length c0_0, .slice A0_1 l0_1.length c0_1]] w fun e w' => ∃ v0_ v1_ : Value, e = .returned (.agg #[v0_, v1_]) ∧ Kd.R k44 44 w' w.heap.size (fun _ => True) v0_ r1 ∧ Kd.R k58 58 w' w.heap.size (fun _ => True) v1_ r2 ∧ Below w.heap.size w w' := by
 have hu27 := Try.underlying27; have HR0_0 := zm hr0_0; have HC0_0 := zm hc0_0; clear hr0_0 hc0_0; have HR0_1 := zm hr0_1; have HC0_1 := zm hc0_1; clear hr0_1 hc0_1; have HB := zm (Below.refl w.heap.size w); have H : ((some (([] : List (S44)) : List (S44))).bind fun y471 => (if y471.length + l0_0.length < 2513169434916 then ((some (([] : List (S58)) : List (S58))).bind fun y477 => (if y477.length + l0_1.length < 8796093022208 then (some ((y471 ++ l0_0), (y477 ++ l0_1))) else (none))) else (none))) = some (r1, r2) := h; clear h
 obtain ⟨y471, hy471⟩ : ∃ y_ : List (S44), y_ = (([] : List (S44))) := ⟨_, rfl⟩
 replace H : (if y471.length + l0_0.length < 2513169434916 then ((some (([] : List (S58)) : List (S58))).bind fun y477 => (if y477.length + l0_1.length < 8796093022208 then (some ((y471 ++ l0_0), (y477 ++ l0_1))) else (none))) else (none)) = some (r1, r2) := by first | (rw [hy471]; with_reducible exact H) | (have H2_ := (Option.bind_some _ _).symm.trans H; rw [hy471]; with_reducible exact H2_) | (have H2_ := (Option.bind_some _ _).symm.trans H; with_reducible exact H2_) | with_reducible exact H | (rw [hy471]; exact H) | exact H
 have Ny471 := zm hy471; clear hy471
 by_cases c2 : y471.length + l0_0.length < 2513169434916
 ·rw [if_pos c2] at H; have LMc2 := zm c2; clear c2
  obtain ⟨y474, hy474⟩ : ∃ y_ : List (S44), y_ = (y471 ++ l0_0) := ⟨_, rfl⟩
  replace H : ((some (([] : List (S58)) : List (S58))).bind fun y477 => (if y477.length + l0_1.length < 8796093022208 then (some (y474, (y477 ++ l0_1))) else (none))) = some (r1, r2) := by first | (rw [hy474]; with_reducible exact H) | (have H2_ := (Option.bind_some _ _).symm.trans H; rw [hy474]; with_reducible exact H2_) | (have H2_ := (Option.bind_some _ _).symm.trans H; with_reducible exact H2_) | with_reducible exact H | (rw [hy474]; exact H) | exact H
  have Ny474 := zm hy474; clear hy474
  obtain ⟨y477, hy477⟩ : ∃ y_ : List (S58), y_ = (([] : List (S58))) := ⟨_, rfl⟩
  replace H : (if y477.length + l0_1.length < 8796093022208 then (some (y474, (y477 ++ l0_1))) else (none)) = some (r1, r2) := by first | (rw [hy477]; with_reducible exact H) | (have H2_ := (Option.bind_some _ _).symm.trans H; rw [hy477]; with_reducible exact H2_) | (have H2_ := (Option.bind_some _ _).symm.trans H; with_reducible exact H2_) | with_reducible exact H | (rw [hy477]; exact H) | exact H
  have Ny477 := zm hy477; clear hy477
  by_cases c3 : y477.length + l0_1.length < 8796093022208
  ·rw [if_pos c3] at H; have LMc3 := zm c3; clear c3
   obtain ⟨y480, hy480⟩ : ∃ y_ : List (S58), y_ = (y477 ++ l0_1) := ⟨_, rfl⟩
   replace H : (some (y474, y480)) = some (r1, r2) := by first | (rw [hy480]; with_reducible exact H) | (have H2_ := (Option.bind_some _ _).symm.trans H; rw [hy480]; with_reducible exact H2_) | (have H2_ := (Option.bind_some _ _).symm.trans H; with_reducible exact H2_) | with_reducible exact H | (rw [hy480]; exact H) | exact H
   have Ny480 := zm hy480; clear hy480; simp only [Option.some.injEq, Prod.mk.injEq] at H; obtain ⟨rfl, rfl⟩ := H; go_enter Try.func100, Try.ntmps100
   try go_wp2_with (first | ((with_reducible refine gate_dst (N := 1) rfl ?_); refine zbox 1 #[.slice A0_0 l0_0.length c0_0, .slice A0_1 l0_1.length c0_1] 27 ?_; intro AH hg w4 hbox hb; have AB := zm (hbox); have AT := zge w hg zB; have AR := zge w hg zB; replace HB := zm (below_step zB hb); clear hb hbox hg) | ((with_reducible refine gate_dst (N := 2) rfl ?_); refine zbox 2 #[.slice none 0 0, .slice none 0 0] 27 ?_; intro AG hg w5 hbox hb; have AA := zm (hbox); have AU := zge w hg zB; have AS := zge w hg zB; replace HB := zm (below_step zB hb); have AF := zlt hg (zb AB); have AI := zgt hg (zb AB); replace AB := zy AB hb; clear hb hbox hg))
   replace AB := zq AB; replace AA := zq AA; replace HB := zm (below_drew1 HB.out)
   refine start_ (n := 10) (S := fun w' => w'.cell? ⟨AH, 0, none⟩ = some (.slice A0_0 l0_0.length c0_0) ∧ w'.cell? ⟨AH, 1, none⟩ = some (.slice A0_1 l0_1.length c0_1)) (ds := []) (zl 10 0) (by kernel_rfl) rfl rfl zS (fun hHeld => ?_); refine with_tabW spec_l3Copy.tab1 spec_l3Copy.bits1 (fun HT_ HW_ => ?_)
   generalize w5.drew = w6 at AB AA HB hHeld ⊢
   refine zu 1 4 10 2 ?_
   refine zu 5 8 10 34 ?_
   refine zv 2 5 10 38 ?_
   refine zv 6 9 10 102 ?_
   refine join_ (σ := Value × Value × Value) 3 #[true, true, true, true, true, true, true, false, false, false] (fun s_ => [(3, s_.1), (6, s_.2.1), (7, s_.2.2)]) (fun s_ w' => (w'.cell? ⟨AH, 0, none⟩ = some (.slice A0_0 l0_0.length c0_0) ∧ w'.cell? ⟨AH, 1, none⟩ = some (.slice A0_1 l0_1.length c0_1)) ∧ (Kd.R k44 44 w' w.heap.size (fun _ => True) s_.2.1 y474) ∧ (Kd.R k58 58 w' w.heap.size (fun _ => True) s_.2.2 y477) ∧ (w'.heap[AH]? = some (.cells #[.slice A0_0 l0_0.length c0_0, .slice A0_1 l0_1.length c0_1] 27 (0, 0))) ∧ (w'.heap[AG]? = some (.cells #[.slice none 0 0, .slice none 0 0] 27 (0, 0))) ∧ (Below w.heap.size w w')) ?_ ?_
   rotate_left
   ·intro hCont
    refine two_ (i := 0) (j := 4) (Ni := some 3) (Nj := some 7) #[true, true, true, false, false, true, true, false, false, false] #[false, true, true, false, true, true, true, false, false, false] rfl rfl rfl rfl (two_of HT_.out (by kernel_rfl)) (by decide) (by decide) (fun K hK => ?_) (fun K hK => ?_)
    ·skip
     refine Kd.R_lit_step k44 _ 44 ?hg (N := 3) ?hd (xs := ([] : List (S44))) (inner := []) (ok := fun _ => True) (okp := fun _ => True) ?hr ?hp (fun _ hk => hk) trivial (Below.refl _ _) (Nat.le_refl _) (by simp) ?_; (case hd => rfl); (case hg => rfl); (case hr => first | (go_simp; done) | (go_simp; rfl)); (case hp => exact (Reps.none _ _))
     intro v472 w7 ho8 hb hg_ hnew_; clear hg_ hnew_
     (first | rw [← Ny471.out] at ho8 | (simp only [Int.reduceToNat] at ho8; rw [← Ny471.out] at ho8))
     have AC := zm (Kd.R_lower ho8 (below_size zB)); replace AB := zy AB hb; replace AA := zy AA hb; replace HB := zm (below_step zB hb); clear hb ho8; refine hK.out _ _ zS (fun hHeld => ?_); clear hK K; refine zn (N := some 3) ?_
     refine two_ (i := 3) (j := 4) (Ni := some 6) (Nj := some 7) #[true, true, true, true, false, true, true, false, false, false] #[true, true, true, false, true, true, true, false, false, false] rfl rfl rfl rfl (two_of HT_.out (by kernel_rfl)) (by decide) (by decide) (fun K hK => ?_) (fun K hK => ?_)
     ·skip
      refine Kd.R_append_rows_step k44 (w0 := w) w.heap.size (by rfl) (.tmp 3) (.tmp 5) 24 44 (.agg #[(.int .i64 0), (.int .i64 0), (.int .i64 0), (.int .i64 0), (.int .i64 0), (.string ⟨#[]⟩)]) 56 rfl Try.underlying24 info44 rfl (by decide) (by omega) v472 y471 l0_0 _ _ _ (fun _ => True) (fun _ => False) rfl rfl ?aO ?aR (fun _ _ h => h) (fun _ h => h.elim) ?aF ?aB ?aS ?aL ?_
      (case aR => repeat (first | exact (Kd.C_below HR0_0.out HB.out) | (with_reducible refine Kd.C_alloc ?_ _) | (with_reducible refine Kd.C_drewN ?_ _) | (with_reducible refine Kd.C_drew ?_)))
      (case aB => exact zB)
      (case aF => exact (fun _ _ => trivial))
      (case aO => exact (zr AC))
      (case aS => exact (below_size zB))
      (case aL => have := LMc2.out; omega)
      intro v475 w9 ho hb hg hat; rw [← Ny474.out] at ho; replace AB := zgr hg (zb AB) (Kd.R_ne AC.out AB.out (by decide)); replace AA := zgr hg (zb AA) (Kd.R_ne AC.out AA.out (by decide)); replace HB := zm (hb); have AE := zm (ho); clear AC; clear ho hb hg hat; refine hK.out _ _ zS (fun hHeld => ?_); clear hK K; refine zn (N := some 6) ?_; refine zo 4 (some 7) (zl 10 127) (fun K hK => ?_)
      refine Kd.R_lit_step k58 _ 58 ?hg (N := 7) ?hd (xs := ([] : List (S58))) (inner := []) (ok := fun _ => True) (okp := fun _ => True) ?hr ?hp (fun _ hk => hk) trivial (Below.refl _ _) (Nat.le_refl _) (by simp) ?_; (case hd => rfl); (case hg => rfl); (case hr => first | (go_simp; done) | (go_simp; rfl)); (case hp => exact (Reps.none _ _))
      intro v478 AV ho11 hb hg_ hnew_; clear hg_ hnew_
      (first | rw [← Ny477.out] at ho11 | (simp only [Int.reduceToNat] at ho11; rw [← Ny477.out] at ho11))
      replace AE := zw AE hb; have AD := zm (Kd.R_lower ho11 (below_size zB)); replace AB := zy AB hb; replace AA := zy AA hb; replace HB := zm (below_step zB hb); clear hb ho11; refine hK.out _ _ zS (fun hHeld => ?_); clear hK K; refine zn (N := some 7) ?_
      exact norm_ (by simp only [putAll, Act.put, List.setIfInBounds_toArray, List.set_cons_zero, List.set_cons_succ]) (hCont (v472, v475, v478) _ ⟨hHeld, (zr AE), (zr AD), (zb AB), (zb AA), zB⟩)
     ·skip
      refine Kd.R_lit_step k58 _ 58 ?hg (N := 7) ?hd (xs := ([] : List (S58))) (inner := []) (ok := fun _ => True) (okp := fun _ => True) ?hr ?hp (fun _ hk => hk) trivial (Below.refl _ _) (Nat.le_refl _) (by simp) ?_; (case hd => rfl); (case hg => rfl); (case hr => first | (go_simp; done) | (go_simp; rfl)); (case hp => exact (Reps.none _ _))
      intro v478 w9 ho10 hb hg_ hnew_; clear hg_ hnew_
      (first | rw [← Ny477.out] at ho10 | (simp only [Int.reduceToNat] at ho10; rw [← Ny477.out] at ho10))
      replace AC := zw AC hb; have AD := zm (Kd.R_lower ho10 (below_size zB)); replace AB := zy AB hb; replace AA := zy AA hb; replace HB := zm (below_step zB hb); clear hb ho10; refine hK.out _ _ zS (fun hHeld => ?_); clear hK K; refine zn (N := some 7) ?_; refine zo 3 (some 6) (zl 10 127) (fun K hK => ?_)
      refine Kd.R_append_rows_step k44 (w0 := w) w.heap.size (by rfl) (.tmp 3) (.tmp 5) 24 44 (.agg #[(.int .i64 0), (.int .i64 0), (.int .i64 0), (.int .i64 0), (.int .i64 0), (.string ⟨#[]⟩)]) 56 rfl Try.underlying24 info44 rfl (by decide) (by omega) v472 y471 l0_0 _ _ _ (fun _ => True) (fun _ => False) rfl rfl ?aO ?aR (fun _ _ h => h) (fun _ h => h.elim) ?aF ?aB ?aS ?aL ?_
      (case aR => repeat (first | exact (Kd.C_below HR0_0.out HB.out) | (with_reducible refine Kd.C_alloc ?_ _) | (with_reducible refine Kd.C_drewN ?_ _) | (with_reducible refine Kd.C_drew ?_)))
      (case aB => exact zB)
      (case aF => exact (fun _ _ => trivial))
      (case aO => exact (zr AC))
      (case aS => exact (below_size zB))
      (case aL => have := LMc2.out; omega)
      intro v475 AQ ho hb hg hat; rw [← Ny474.out] at ho; replace AB := zgr hg (zb AB) (Kd.R_ne AC.out AB.out (by decide)); replace AA := zgr hg (zb AA) (Kd.R_ne AC.out AA.out (by decide)); replace AD := zm (Kd.R_over' (zr AD) (Kd.R_typed (zr AC)) (by decide) hg); replace HB := zm (hb); have AE := zm (ho); clear AC; clear ho hb hg hat; refine hK.out _ _ zS (fun hHeld => ?_); clear hK K; refine zn (N := some 6) ?_
      exact norm_ (by simp only [putAll, Act.put, List.setIfInBounds_toArray, List.set_cons_zero, List.set_cons_succ]) (hCont (v472, v475, v478) _ ⟨hHeld, (zr AE), (zr AD), (zb AB), (zb AA), zB⟩)
    ·skip
     refine Kd.R_lit_step k58 _ 58 ?hg (N := 7) ?hd (xs := ([] : List (S58))) (inner := []) (ok := fun _ => True) (okp := fun _ => True) ?hr ?hp (fun _ hk => hk) trivial (Below.refl _ _) (Nat.le_refl _) (by simp) ?_; (case hd => rfl); (case hg => rfl); (case hr => first | (go_simp; done) | (go_simp; rfl)); (case hp => exact (Reps.none _ _))
     intro v478 w7 ho8 hb hg_ hnew_; clear hg_ hnew_
     (first | rw [← Ny477.out] at ho8 | (simp only [Int.reduceToNat] at ho8; rw [← Ny477.out] at ho8))
     have AD := zm (Kd.R_lower ho8 (below_size zB)); replace AB := zy AB hb; replace AA := zy AA hb; replace HB := zm (below_step zB hb); clear hb ho8; refine hK.out _ _ zS (fun hHeld => ?_); clear hK K; refine zn (N := some 7) ?_; refine zo 0 (some 3) (zl 10 119) (fun K hK => ?_)
     refine Kd.R_lit_step k44 _ 44 ?hg (N := 3) ?hd (xs := ([] : List (S44))) (inner := []) (ok := fun _ => True) (okp := fun _ => True) ?hr ?hp (fun _ hk => hk) trivial (Below.refl _ _) (Nat.le_refl _) (by simp) ?_; (case hd => rfl); (case hg => rfl); (case hr => first | (go_simp; done) | (go_simp; rfl)); (case hp => exact (Reps.none _ _))
     intro v472 w9 ho10 hb hg_ hnew_; clear hg_ hnew_
     (first | rw [← Ny471.out] at ho10 | (simp only [Int.reduceToNat] at ho10; rw [← Ny471.out] at ho10))
     replace AD := zw AD hb; have AC := zm (Kd.R_lower ho10 (below_size zB)); replace AB := zy AB hb; replace AA := zy AA hb; replace HB := zm (below_step zB hb); clear hb ho10; refine hK.out _ _ zS (fun hHeld => ?_); clear hK K; refine zn (N := some 3) ?_; refine zo 3 (some 6) (zl 10 127) (fun K hK => ?_)
     refine Kd.R_append_rows_step k44 (w0 := w) w.heap.size (by rfl) (.tmp 3) (.tmp 5) 24 44 (.agg #[(.int .i64 0), (.int .i64 0), (.int .i64 0), (.int .i64 0), (.int .i64 0), (.string ⟨#[]⟩)]) 56 rfl Try.underlying24 info44 rfl (by decide) (by omega) v472 y471 l0_0 _ _ _ (fun _ => True) (fun _ => False) rfl rfl ?aO ?aR (fun _ _ h => h) (fun _ h => h.elim) ?aF ?aB ?aS ?aL ?_
     (case aR => repeat (first | exact (Kd.C_below HR0_0.out HB.out) | (with_reducible refine Kd.C_alloc ?_ _) | (with_reducible refine Kd.C_drewN ?_ _) | (with_reducible refine Kd.C_drew ?_)))
     (case aB => exact zB)
     (case aF => exact (fun _ _ => trivial))
     (case aO => exact (zr AC))
     (case aS => exact (below_size zB))
     (case aL => have := LMc2.out; omega)
     intro v475 AQ ho hb hg hat; rw [← Ny474.out] at ho; replace AB := zgr hg (zb AB) (Kd.R_ne AC.out AB.out (by decide)); replace AA := zgr hg (zb AA) (Kd.R_ne AC.out AA.out (by decide)); replace AD := zm (Kd.R_over' (zr AD) (Kd.R_typed (zr AC)) (by decide) hg); replace HB := zm (hb); have AE := zm (ho); clear AC; clear ho hb hg hat; refine hK.out _ _ zS (fun hHeld => ?_); clear hK K; refine zn (N := some 6) ?_
     exact norm_ (by simp only [putAll, Act.put, List.setIfInBounds_toArray, List.set_cons_zero, List.set_cons_succ]) (hCont (v472, v475, v478) _ ⟨hHeld, (zr AE), (zr AD), (zb AB), (zb AA), zB⟩)
   rintro ⟨v472, v475, v478⟩ AJ ⟨hS_, h0_, h1_, h2_, h3_, h4_⟩; have n0_ : Aside0 (Kd.R k44 44 AJ w.heap.size (fun _ => True) v475 y474) := ⟨h0_⟩; have n1_ : Aside0 (Kd.R k58 58 AJ w.heap.size (fun _ => True) v478 y477) := ⟨h1_⟩; have n2_ : Aside0 (AJ.heap[AH]? = some (.cells #[.slice A0_0 l0_0.length c0_0, .slice A0_1 l0_1.length c0_1] 27 (0, 0))) := ⟨h2_⟩; have n3_ : Aside0 (AJ.heap[AG]? = some (.cells #[.slice none 0 0, .slice none 0 0] 27 (0, 0))) := ⟨h3_⟩; have n4_ : Aside0 (Below w.heap.size w AJ) := ⟨h4_⟩; clear AB; clear AA; clear HB; clear h0_ h1_ h2_ h3_ h4_; have AE := n0_; have AD := n1_; have AB := n2_; have AA := n3_; have HB := n4_; clear n0_ n1_ n2_ n3_ n4_; have hHeld : AJ.cell? ⟨AH, 0, none⟩ = some (.slice A0_0 l0_0.length c0_0) ∧ AJ.cell? ⟨AH, 1, none⟩ = some (.slice A0_1 l0_1.length c0_1) := hS_
   refine norm_ (a' := ?_) ?_ ?_
   rotate_left
   ·simp only [putAll, Act.put, List.setIfInBounds_toArray, List.set_cons_zero, List.set_cons_succ]
    rfl
   refine zo 7 (some 10) (zl 10 255) (fun K hK => ?_)
   refine Kd.R_append_rows_step k58 (w0 := w) w.heap.size (by rfl) (.tmp 7) (.tmp 9) 25 58 (.agg #[(.int .i64 0), (.int .i64 0)]) 16 rfl Try.underlying25 info58 rfl (by decide) (by omega) v478 y477 l0_1 _ _ _ (fun _ => True) (fun _ => False) rfl rfl ?aO ?aR (fun _ _ h => h) (fun _ h => h.elim) ?aF ?aB ?aS ?aL ?_
   (case aR => repeat (first | exact (Kd.C_below HR0_1.out HB.out) | (with_reducible refine Kd.C_alloc ?_ _) | (with_reducible refine Kd.C_drewN ?_ _) | (with_reducible refine Kd.C_drew ?_)))
   (case aB => exact zB)
   (case aF => exact (fun _ _ => trivial))
   (case aO => exact (zr AD))
   (case aS => exact (below_size zB))
   (case aL => have := LMc3.out; omega)
   intro v481 AL ho hb hg hat; rw [← Ny480.out] at ho; replace AB := zgr hg (zb AB) (Kd.R_ne AD.out AB.out (by decide)); replace AA := zgr hg (zb AA) (Kd.R_ne AD.out AA.out (by decide)); replace AE := zm (Kd.R_over' (zr AE) (Kd.R_typed (zr AD)) (by decide) hg); replace HB := zm (hb); have AK := zm (ho); clear AD; clear ho hb hg hat; obtain ⟨AM, AO, eo14⟩ := Kd.R_slice AK.out
   (first | subst eo14 | (injection eo14 with f1_ f2_ f3_; have f4_ := f1_.symm; have f5_ := f3_.symm; clear f1_ f2_ f3_; subst f4_; subst f5_))
   obtain ⟨AN, AP, eo15⟩ := Kd.R_slice AE.out
   (first | subst eo15 | (injection eo15 with f1_ f2_ f3_; have f4_ := f1_.symm; have f5_ := f3_.symm; clear f1_ f2_ f3_; subst f4_; subst f5_))
   refine hK.out _ _ zS (fun hHeld => ?_); clear hK K; refine zn (N := some 10) ?_
   refine zu 8 11 10 511 ?_
   refine zo 9 none (zl 10 1023) (fun K hK => ?_); have hs16 : AL.cell? ⟨AG, 0, none⟩ = some (.slice none 0 0) := (blk_cell AA.out 0).trans rfl; have hfs16 := blk_frozen AA.out 0; have hns16_0 := AF.out; have hms16_0 := AI.out; have hs17 : AL.cell? ⟨AG, 1, none⟩ = some (.slice none 0 0) := (blk_cell AA.out 1).trans rfl; have hfs17 := blk_frozen AA.out 1; have hns17_0 := AF.out; have hms17_0 := AI.out
   refine skip_ (w1 := ?_) (by rfl) rfl ?_ ?_
   rotate_left
   ·go_simp
    rfl
   refine hK.out _ _ ⟨((cell_far (p := ⟨AG, _, none⟩) AF.out _).trans (((cell_far (p := ⟨AG, _, none⟩) AF.out _).trans (hHeld.1)))), ((cell_far (p := ⟨AG, _, none⟩) AF.out _).trans (((cell_far (p := ⟨AG, _, none⟩) AF.out _).trans (hHeld.2))))⟩ (fun hHeld => ?_); clear hK K
   refine done_ (done_of HT_.out (by kernel_rfl)) ?_
   try go_wp2
   refine bodyPost_ret (results_cell_row rfl _ _ AG 27 #[.slice AN y474.length AP, .slice AM y480.length AO] (0, 0) _ rfl (zput (zput (zb AA) 0) 1) Try.underlying27 rfl (by kernel_rfl)) rfl ?_
   exact ⟨_, _, zE, zrs <| Kd.R_mono (zfr (zfr (Kd.R_types AE.out AA.out (by decide)))) (fun _ hk => trivial), zrs <| Kd.R_mono (zfr (zfr (Kd.R_types AK.out AA.out (by decide)))) (fun _ hk => trivial), zB⟩
  ·rw [if_neg c3] at H
   exact absurd H (by simp)
 ·rw [if_neg c2] at H
  exact absurd H (by simp)

end Go.Proofs.Ytnmofppbijmhoaa.P
