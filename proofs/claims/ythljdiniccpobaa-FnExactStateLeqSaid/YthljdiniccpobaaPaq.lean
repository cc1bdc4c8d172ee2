-- by a program of this session, for this seat
import Derived.Test.YthljdiniccpobaaZ
import Derived.Test.YthljdiniccpobaaP0
import Derived.Test.YthljdiniccpobaaPai
import Derived.Test.YthljdiniccpobaaPap
import Derived.Test.YthljdiniccpobaaPae
namespace Go.Proofs.Ythljdiniccpobaa.P
open Go.RowKit Go.Proofs.YthljdiniccpobaaW.PrintWords Go.Proofs.YthljdiniccpobaaW.PrintLast Go.Proofs.YthljdiniccpobaaW.PrintMore Go.Proofs.Ythljdiniccpobaa.Z
attribute [local go_sem] max2_int min2_int max_two min_two max_three min_three max_four min_four   -- for this text's walks alone
set_option linter.unusedVariables false
set_option linter.unusedSimpArgs false

/-! ### impl_StateJoin: function 89 -/
def impl_StateJoin.f (k : Nat) (l0_0 : List (S84)) (l0_1 : List (S89)) (l1_0 : List (S84)) (l1_1 : List (S89)) : Option ((List (S84)) × (List (S89)) × Bool) := (impl_StateOk.f k l0_0 l0_1).bind fun t779 => (if t779 = true then ((impl_StateOk.f k l1_0 l1_1).bind fun t780 => (if t780 = true then ((impl_stateJoin.f k l0_0 l0_1 l1_0 l1_1).bind fun bt781 => (some (bt781.1, bt781.2, true))) else (some (([] : List (S84)), ([] : List (S89)), false)))) else (some (([] : List (S84)), ([] : List (S89)), false)))
theorem impl_StateJoin.mono : ∀ a0 a1 a2 a3 k, LeO (impl_StateJoin.f k a0 a1 a2 a3) (impl_StateJoin.f (k + 1) a0 a1 a2 a3) := by
 intro a0 a1 a2 a3 k
 unfold impl_StateJoin.f
 repeat' first
   | (with_reducible exact impl_StateOk.mono _ _ _)
   | (with_reducible exact impl_stateJoin.mono _ _ _ _ _)
   | (with_reducible exact LeO.refl _)
   | (with_reducible exact LeO.none _)
   | (with_reducible refine LeO.ite ?_ ?_)
   | (with_reducible refine LeO.bind ?_ (fun _ => ?_))
   | exact impl_StateOk.mono _ _ _
   | exact impl_stateJoin.mono _ _ _ _ _
   | exact LeO.none _
   | refine LeO.ite ?_ ?_
   | refine LeO.bind ?_ (fun _ => ?_)
set_option maxHeartbeats 8000000 in
set_option maxRecDepth 100000 in
theorem impl_StateJoin.calls (k : Nat) (A0_0 : Option Addr) (c0_0 : Nat) (l0_0 : List (S84)) (A0_1 : Option Addr) (c0_1 : Nat) (l0_1 : List (S89)) (A1_0 : Option Addr) (c1_0 : Nat) (l1_0 : List (S84)) (A1_1 : Option Addr) (c1_1 : Nat) (l1_1 : List (S89)) (r1 : List (S84)) (r2 : List (S89)) (r3 : Bool) (w : World) (hr0_0 : Kd.C k84 w A0_0 l0_0.length l0_0) (hc0_0 : l0_0.length ≤ c0_0) (hr0_1 : Kd.C k89 w A0_1 l0_1.length l0_1) (hc0_1 : l0_1.length ≤ c0_1) (hr1_0 : Kd.C k84 w A1_0 l1_0.length l1_0) (hc1_0 : l1_0.length ≤ c1_0) (hr1_1 : Kd.C k89 w A1_1 l1_1.length l1_1) (hc1_1 : l1_1.length ≤ c1_1) (h : impl_StateJoin.f k l0_0 l0_1 l1_0 l1_1 = some (r1, r2, r3)) :
  Calls Try.prog 89 #[.agg #[.slice A0_0 l0_0.length c0_0, .slice A0_1 l0_1.length c0_1], .agg #[.slice A1_0 l1_0.length c1_0, .slice A1_1 l1_1.length c1_1]] w fun e w' => ∃ v0_ v1_ : Value, e = .returned (.tuple #[.agg #[v0_, v1_], .bool r3]) ∧ Kd.R k84 84 w' w.heap.size (fun _ => True) v0_ r1 ∧ Kd.R k89 89 w' w.heap.size (fun _ => True) v1_ r2 ∧ Below w.heap.size w w' := by
 have hu55 := Try.underlying55
 have HR0_0 := zm hr0_0
 have HC0_0 := zm hc0_0
 clear hr0_0 hc0_0
 have HR0_1 := zm hr0_1
 have HC0_1 := zm hc0_1
 clear hr0_1 hc0_1
 have HR1_0 := zm hr1_0
 have HC1_0 := zm hc1_0
 clear hr1_0 hc1_0
 have HR1_1 := zm hr1_1
 have HC1_1 := zm hc1_1
 clear hr1_1 hc1_1
 have HB := zm (Below.refl w.heap.size w)
 have H : ((impl_StateOk.f k l0_0 l0_1).bind fun t779 => (if t779 = true then ((impl_StateOk.f k l1_0 l1_1).bind fun t780 => (if t780 = true then ((impl_stateJoin.f k l0_0 l0_1 l1_0 l1_1).bind fun bt781 => (some (bt781.1, bt781.2, true))) else (some (([] : List (S84)), ([] : List (S89)), false)))) else (some (([] : List (S84)), ([] : List (S89)), false)))) = some (r1, r2, r3) := h
 clear h
 replace H := Option.bind_eq_some_iff.mp H
 obtain ⟨t779, A30, H⟩ := H
 replace H : (if t779 = true then ((impl_StateOk.f k l1_0 l1_1).bind fun t780 => (if t780 = true then ((impl_stateJoin.f k l0_0 l0_1 l1_0 l1_1).bind fun bt781 => (some (bt781.1, bt781.2, true))) else (some (([] : List (S84)), ([] : List (S89)), false)))) else (some (([] : List (S84)), ([] : List (S89)), false))) = some (r1, r2, r3) := H
 have A3 := zm A30
 clear A30
 by_cases c4 : t779 = true
 ·subst c4
  have H1 : ((impl_StateOk.f k l1_0 l1_1).bind fun t780 => (if t780 = true then ((impl_stateJoin.f k l0_0 l0_1 l1_0 l1_1).bind fun bt781 => (some (bt781.1, bt781.2, true))) else (some (([] : List (S84)), ([] : List (S89)), false)))) = some (r1, r2, r3) := by rw [if_pos rfl] at H; exact H
  clear H
  have H := H1
  clear H1
  replace H := Option.bind_eq_some_iff.mp H
  obtain ⟨t780, A50, H⟩ := H
  replace H : (if t780 = true then ((impl_stateJoin.f k l0_0 l0_1 l1_0 l1_1).bind fun bt781 => (some (bt781.1, bt781.2, true))) else (some (([] : List (S84)), ([] : List (S89)), false))) = some (r1, r2, r3) := H
  have A5 := zm A50
  clear A50
  by_cases c6 : t780 = true
  ·subst c6
   have H1 : ((impl_stateJoin.f k l0_0 l0_1 l1_0 l1_1).bind fun bt781 => (some (bt781.1, bt781.2, true))) = some (r1, r2, r3) := by rw [if_pos rfl] at H; exact H
   clear H
   have H := H1
   clear H1
   replace H := Option.bind_eq_some_iff.mp H
   obtain ⟨⟨t781, t784⟩, A70, H⟩ := H
   replace H : (some (t781, t784, true)) = some (r1, r2, r3) := H
   have A7 := zm A70
   clear A70
   simp only [Option.some.injEq, Prod.mk.injEq] at H
   obtain ⟨rfl, rfl, rfl⟩ := H
   go_enter Try.func89, Try.ntmps89
   go_wp2_with (first | ((with_reducible refine gate_dst (N := 2) rfl ?_); refine zbox 2 #[.slice A0_0 l0_0.length c0_0, .slice A0_1 l0_1.length c0_1] 55 ?_; intro gb776 hg w8 hbox hb; have BK776 := zm (hbox); have GW776 := zge w hg zB; have GE776 := zge w hg zB; replace HB := zm (below_step zB hb); clear hb hbox hg) | ((with_reducible refine gate_dst (N := 3) rfl ?_); refine zbox 3 #[.slice A1_0 l1_0.length c1_0, .slice A1_1 l1_1.length c1_1] 55 ?_; intro gb777 hg w9 hbox hb; have BK777 := zm (hbox); have GW777 := zge w hg zB; have GE777 := zge w hg zB; replace HB := zm (below_step zB hb); have NB776_777 := zlt hg (zb BK776); have NB777_776 := zgt hg (zb BK776); replace BK776 := zm (blk_below (zb BK776) hb); clear hb hbox hg) | ((with_reducible refine gate_dst (N := 4) rfl ?_); refine zbox 4 #[.slice none 0 0, .slice none 0 0] 55 ?_; intro gb778 hg w10 hbox hb; have BK778 := zm (hbox); have GW778 := zge w hg zB; have GE778 := zge w hg zB; replace HB := zm (below_step zB hb); have NB776_778 := zlt hg (zb BK776); have NB778_776 := zgt hg (zb BK776); replace BK776 := zm (blk_below (zb BK776) hb); have NB777_778 := zlt hg (zb BK777); have NB778_777 := zgt hg (zb BK777); replace BK777 := zm (blk_below (zb BK777) hb); clear hb hbox hg; have hnb11 := NB776_777.out; have hnc11 := NB777_776.out; have hnb12 := NB776_778.out; have hnc12 := NB778_776.out; have hcz13_0 : w10.cell? ⟨gb776, 0, none⟩ = some (.slice A0_0 l0_0.length c0_0) := (blk_cell BK776.out 0).trans rfl; have hcz13_1 : w10.cell? ⟨gb776, 1, none⟩ = some (.slice A0_1 l0_1.length c0_1) := (blk_cell BK776.out 1).trans rfl; have hfz13_0 := blk_frozen BK776.out 0; have hfz13_1 := blk_frozen BK776.out 1) | ((with_reducible refine gate_callee (f := 45) rfl ?_); refine zg (some 7) #[.agg #[.slice A0_0 l0_0.length c0_0, .slice A0_1 l0_1.length c0_1]] Try.func45 ?_; (with_reducible refine (impl_StateOk.calls k _ _ l0_0 _ _ l0_1 true _ (zk (Kd.C_below HR0_0.out HB.out)) HC0_0.out (zk (Kd.C_below HR0_1.out HB.out)) HC0_1.out A3.out).mono ?_); rintro e w14 ⟨rfl, hb⟩; refine ⟨_, rfl, ?_⟩; replace BK776 := zm (blk_below (zb BK776) hb); replace BK777 := zm (blk_below (zb BK777) hb); replace BK778 := zm (blk_below (zb BK778) hb); replace HB := zm (below_step zB hb); clear hb; have hnb15 := NB777_778.out; have hnc15 := NB778_777.out; have hcz16_0 : w14.cell? ⟨gb777, 0, none⟩ = some (.slice A1_0 l1_0.length c1_0) := (blk_cell BK777.out 0).trans rfl; have hcz16_1 : w14.cell? ⟨gb777, 1, none⟩ = some (.slice A1_1 l1_1.length c1_1) := (blk_cell BK777.out 1).trans rfl; have hfz16_0 := blk_frozen BK777.out 0; have hfz16_1 := blk_frozen BK777.out 1) | (go_at_call 45; (with_reducible refine (impl_StateOk.calls k _ _ l1_0 _ _ l1_1 true _ (zk (Kd.C_below HR1_0.out HB.out)) HC1_0.out (zk (Kd.C_below HR1_1.out HB.out)) HC1_1.out A5.out).mono ?_); rintro e w17 ⟨rfl, hb⟩; replace BK776 := zm (blk_below (zb BK776) hb); replace BK777 := zm (blk_below (zb BK777) hb); replace BK778 := zm (blk_below (zb BK778) hb); replace HB := zm (below_step zB hb); clear hb; have hcz18_0 : w17.cell? ⟨gb776, 0, none⟩ = some (.slice A0_0 l0_0.length c0_0) := (blk_cell BK776.out 0).trans rfl; have hcz18_1 : w17.cell? ⟨gb776, 1, none⟩ = some (.slice A0_1 l0_1.length c0_1) := (blk_cell BK776.out 1).trans rfl; have hfz18_0 := blk_frozen BK776.out 0; have hfz18_1 := blk_frozen BK776.out 1; have hcz19_0 : w17.cell? ⟨gb777, 0, none⟩ = some (.slice A1_0 l1_0.length c1_0) := (blk_cell BK777.out 0).trans rfl; have hcz19_1 : w17.cell? ⟨gb777, 1, none⟩ = some (.slice A1_1 l1_1.length c1_1) := (blk_cell BK777.out 1).trans rfl; have hfz19_0 := blk_frozen BK777.out 0; have hfz19_1 := blk_frozen BK777.out 1) | ((with_reducible refine gate_callee (f := 100) rfl ?_); refine zg (some 17) #[.agg #[.slice A0_0 l0_0.length c0_0, .slice A0_1 l0_1.length c0_1], .agg #[.slice A1_0 l1_0.length c1_0, .slice A1_1 l1_1.length c1_1]] Try.func100 ?_; (with_reducible refine (impl_stateJoin.calls k _ _ l0_0 _ _ l0_1 _ _ l1_0 _ _ l1_1 t781 t784 _ (zk (Kd.C_below HR0_0.out HB.out)) HC0_0.out (zk (Kd.C_below HR0_1.out HB.out)) HC0_1.out (zk (Kd.C_below HR1_0.out HB.out)) HC1_0.out (zk (Kd.C_below HR1_1.out HB.out)) HC1_1.out A7.out).mono ?_); rintro e w20 ⟨v782, v785, rfl, ho0, ho1, hb⟩; refine ⟨_, rfl, ?_⟩; have HO783 := zm (Kd.R_lower ho0 (below_size zB)); have HO786 := zm (Kd.R_lower ho1 (below_size zB)); replace BK776 := zm (blk_below (zb BK776) hb); replace BK777 := zm (blk_below (zb BK777) hb); replace BK778 := zm (blk_below (zb BK778) hb); replace HB := zm (below_step zB hb); clear hb ho0 ho1; obtain ⟨Ao21, co21, eo21⟩ := Kd.R_slice HO783.out; subst eo21; have hcz22_0 : w20.cell? ⟨gb778, 0, none⟩ = some (.slice none 0 0) := (blk_cell BK778.out 0).trans rfl; have hcz22_1 : w20.cell? ⟨gb778, 1, none⟩ = some (.slice none 0 0) := (blk_cell BK778.out 1).trans rfl; have hfz22_0 := blk_frozen BK778.out 0; have hfz22_1 := blk_frozen BK778.out 1; obtain ⟨Ao23, co23, eo23⟩ := Kd.R_slice HO786.out; subst eo23))
   refine bodyPost_ret (results_ct rfl _ _ gb778 55 #[.slice Ao21 t781.length co21, .slice Ao23 t784.length co23] (0, 0) _ rfl (zput (zput (zb BK778) 0) 1) Try.underlying55 rfl (by kernel_rfl)) rfl ?_
   exact ⟨_, _, zE, zrs <| Kd.R_mono (zfr (zfr (Kd.R_types HO783.out BK778.out (by decide)))) (fun _ hk => trivial), zrs <| Kd.R_mono (zfr (zfr (Kd.R_types HO786.out BK778.out (by decide)))) (fun _ hk => trivial), zB⟩
  ·replace c6 := Bool.eq_false_iff.mpr c6
   subst c6
   have H1 : (some (([] : List (S84)), ([] : List (S89)), false)) = some (r1, r2, r3) := by rw [if_neg (show ¬ (false = true) by decide)] at H; exact H
   clear H
   have H := H1
   clear H1
   simp only [Option.some.injEq, Prod.mk.injEq] at H
   obtain ⟨rfl, rfl, rfl⟩ := H
   go_enter Try.func89, Try.ntmps89
   go_wp2_with (first | ((with_reducible refine gate_dst (N := 2) rfl ?_); refine zbox 2 #[.slice A0_0 l0_0.length c0_0, .slice A0_1 l0_1.length c0_1] 55 ?_; intro gb776 hg w24 hbox hb; have BK776 := zm (hbox); have GW776 := zge w hg zB; have GE776 := zge w hg zB; replace HB := zm (below_step zB hb); clear hb hbox hg) | ((with_reducible refine gate_dst (N := 3) rfl ?_); refine zbox 3 #[.slice A1_0 l1_0.length c1_0, .slice A1_1 l1_1.length c1_1] 55 ?_; intro gb777 hg w25 hbox hb; have BK777 := zm (hbox); have GW777 := zge w hg zB; have GE777 := zge w hg zB; replace HB := zm (below_step zB hb); have NB776_777 := zlt hg (zb BK776); have NB777_776 := zgt hg (zb BK776); replace BK776 := zm (blk_below (zb BK776) hb); clear hb hbox hg) | ((with_reducible refine gate_dst (N := 4) rfl ?_); refine zbox 4 #[.slice none 0 0, .slice none 0 0] 55 ?_; intro gb778 hg w26 hbox hb; have BK778 := zm (hbox); have GW778 := zge w hg zB; have GE778 := zge w hg zB; replace HB := zm (below_step zB hb); have NB776_778 := zlt hg (zb BK776); have NB778_776 := zgt hg (zb BK776); replace BK776 := zm (blk_below (zb BK776) hb); have NB777_778 := zlt hg (zb BK777); have NB778_777 := zgt hg (zb BK777); replace BK777 := zm (blk_below (zb BK777) hb); clear hb hbox hg; have hnb27 := NB776_777.out; have hnc27 := NB777_776.out; have hnb28 := NB776_778.out; have hnc28 := NB778_776.out; have hcz29_0 : w26.cell? ⟨gb776, 0, none⟩ = some (.slice A0_0 l0_0.length c0_0) := (blk_cell BK776.out 0).trans rfl; have hcz29_1 : w26.cell? ⟨gb776, 1, none⟩ = some (.slice A0_1 l0_1.length c0_1) := (blk_cell BK776.out 1).trans rfl; have hfz29_0 := blk_frozen BK776.out 0; have hfz29_1 := blk_frozen BK776.out 1) | ((with_reducible refine gate_callee (f := 45) rfl ?_); refine zg (some 7) #[.agg #[.slice A0_0 l0_0.length c0_0, .slice A0_1 l0_1.length c0_1]] Try.func45 ?_; (with_reducible refine (impl_StateOk.calls k _ _ l0_0 _ _ l0_1 true _ (zk (Kd.C_below HR0_0.out HB.out)) HC0_0.out (zk (Kd.C_below HR0_1.out HB.out)) HC0_1.out A3.out).mono ?_); rintro e w30 ⟨rfl, hb⟩; refine ⟨_, rfl, ?_⟩; replace BK776 := zm (blk_below (zb BK776) hb); replace BK777 := zm (blk_below (zb BK777) hb); replace BK778 := zm (blk_below (zb BK778) hb); replace HB := zm (below_step zB hb); clear hb; have hnb31 := NB777_778.out; have hnc31 := NB778_777.out; have hcz32_0 : w30.cell? ⟨gb777, 0, none⟩ = some (.slice A1_0 l1_0.length c1_0) := (blk_cell BK777.out 0).trans rfl; have hcz32_1 : w30.cell? ⟨gb777, 1, none⟩ = some (.slice A1_1 l1_1.length c1_1) := (blk_cell BK777.out 1).trans rfl; have hfz32_0 := blk_frozen BK777.out 0; have hfz32_1 := blk_frozen BK777.out 1) | (go_at_call 45; (with_reducible refine (impl_StateOk.calls k _ _ l1_0 _ _ l1_1 false _ (zk (Kd.C_below HR1_0.out HB.out)) HC1_0.out (zk (Kd.C_below HR1_1.out HB.out)) HC1_1.out A5.out).mono ?_); rintro e w33 ⟨rfl, hb⟩; replace BK776 := zm (blk_below (zb BK776) hb); replace BK777 := zm (blk_below (zb BK777) hb); replace BK778 := zm (blk_below (zb BK778) hb); replace HB := zm (below_step zB hb); clear hb; have hcz34_0 : w33.cell? ⟨gb778, 0, none⟩ = some (.slice none 0 0) := (blk_cell BK778.out 0).trans rfl; have hcz34_1 : w33.cell? ⟨gb778, 1, none⟩ = some (.slice none 0 0) := (blk_cell BK778.out 1).trans rfl; have hfz34_0 := blk_frozen BK778.out 0; have hfz34_1 := blk_frozen BK778.out 1))
   refine bodyPost_ret (results_ct rfl _ _ gb778 55 #[.slice none 0 0, .slice none 0 0] (0, 0) _ rfl (zput (zput (zb BK778) 0) 1) Try.underlying55 rfl (by kernel_rfl)) rfl ?_
   exact ⟨_, _, zE, by first | exact Kd.R_nil _ _ _ _ _ | exact Kd.N_nil _ _ _ _ _ | exact Kd.V_nil _ _ _ _ _ | exact Kd.Q_nil _ _ _ _ _ | exact Kd.S_nil _ _ _ _ _, by first | exact Kd.R_nil _ _ _ _ _ | exact Kd.N_nil _ _ _ _ _ | exact Kd.V_nil _ _ _ _ _ | exact Kd.Q_nil _ _ _ _ _ | exact Kd.S_nil _ _ _ _ _, zB⟩
 ·replace c4 := Bool.eq_false_iff.mpr c4
  subst c4
  have H1 : (some (([] : List (S84)), ([] : List (S89)), false)) = some (r1, r2, r3) := by rw [if_neg (show ¬ (false = true) by decide)] at H; exact H
  clear H
  have H := H1
  clear H1
  simp only [Option.some.injEq, Prod.mk.injEq] at H
  obtain ⟨rfl, rfl, rfl⟩ := H
  go_enter Try.func89, Try.ntmps89
  go_wp2_with (first | ((with_reducible refine gate_dst (N := 2) rfl ?_); refine zbox 2 #[.slice A0_0 l0_0.length c0_0, .slice A0_1 l0_1.length c0_1] 55 ?_; intro gb776 hg w35 hbox hb; have BK776 := zm (hbox); have GW776 := zge w hg zB; have GE776 := zge w hg zB; replace HB := zm (below_step zB hb); clear hb hbox hg) | ((with_reducible refine gate_dst (N := 3) rfl ?_); refine zbox 3 #[.slice A1_0 l1_0.length c1_0, .slice A1_1 l1_1.length c1_1] 55 ?_; intro gb777 hg w36 hbox hb; have BK777 := zm (hbox); have GW777 := zge w hg zB; have GE777 := zge w hg zB; replace HB := zm (below_step zB hb); have NB776_777 := zlt hg (zb BK776); have NB777_776 := zgt hg (zb BK776); replace BK776 := zm (blk_below (zb BK776) hb); clear hb hbox hg) | ((with_reducible refine gate_dst (N := 4) rfl ?_); refine zbox 4 #[.slice none 0 0, .slice none 0 0] 55 ?_; intro gb778 hg w37 hbox hb; have BK778 := zm (hbox); have GW778 := zge w hg zB; have GE778 := zge w hg zB; replace HB := zm (below_step zB hb); have NB776_778 := zlt hg (zb BK776); have NB778_776 := zgt hg (zb BK776); replace BK776 := zm (blk_below (zb BK776) hb); have NB777_778 := zlt hg (zb BK777); have NB778_777 := zgt hg (zb BK777); replace BK777 := zm (blk_below (zb BK777) hb); clear hb hbox hg; have hnb38 := NB776_777.out; have hnc38 := NB777_776.out; have hnb39 := NB776_778.out; have hnc39 := NB778_776.out; have hcz40_0 : w37.cell? ⟨gb776, 0, none⟩ = some (.slice A0_0 l0_0.length c0_0) := (blk_cell BK776.out 0).trans rfl; have hcz40_1 : w37.cell? ⟨gb776, 1, none⟩ = some (.slice A0_1 l0_1.length c0_1) := (blk_cell BK776.out 1).trans rfl; have hfz40_0 := blk_frozen BK776.out 0; have hfz40_1 := blk_frozen BK776.out 1) | ((with_reducible refine gate_callee (f := 45) rfl ?_); refine zg (some 7) #[.agg #[.slice A0_0 l0_0.length c0_0, .slice A0_1 l0_1.length c0_1]] Try.func45 ?_; (with_reducible refine (impl_StateOk.calls k _ _ l0_0 _ _ l0_1 false _ (zk (Kd.C_below HR0_0.out HB.out)) HC0_0.out (zk (Kd.C_below HR0_1.out HB.out)) HC0_1.out A3.out).mono ?_); rintro e w41 ⟨rfl, hb⟩; refine ⟨_, rfl, ?_⟩; replace BK776 := zm (blk_below (zb BK776) hb); replace BK777 := zm (blk_below (zb BK777) hb); replace BK778 := zm (blk_below (zb BK778) hb); replace HB := zm (below_step zB hb); clear hb; have hnb42 := NB778_777.out; have hnc42 := NB777_778.out; have hcz43_0 : w41.cell? ⟨gb778, 0, none⟩ = some (.slice none 0 0) := (blk_cell BK778.out 0).trans rfl; have hcz43_1 : w41.cell? ⟨gb778, 1, none⟩ = some (.slice none 0 0) := (blk_cell BK778.out 1).trans rfl; have hfz43_0 := blk_frozen BK778.out 0; have hfz43_1 := blk_frozen BK778.out 1))
  refine bodyPost_ret (results_ct rfl _ _ gb778 55 #[.slice none 0 0, .slice none 0 0] (0, 0) _ rfl (zput (zput (zb BK778) 0) 1) Try.underlying55 rfl (by kernel_rfl)) rfl ?_
  exact ⟨_, _, zE, by first | exact Kd.R_nil _ _ _ _ _ | exact Kd.N_nil _ _ _ _ _ | exact Kd.V_nil _ _ _ _ _ | exact Kd.Q_nil _ _ _ _ _ | exact Kd.S_nil _ _ _ _ _, by first | exact Kd.R_nil _ _ _ _ _ | exact Kd.N_nil _ _ _ _ _ | exact Kd.V_nil _ _ _ _ _ | exact Kd.Q_nil _ _ _ _ _ | exact Kd.S_nil _ _ _ _ _, zB⟩

/-! ### impl_StateLeq: function 60 -/
def impl_StateLeq.f (k : Nat) (l0_0 : List (S84)) (l0_1 : List (S89)) (l1_0 : List (S84)) (l1_1 : List (S89)) : Option (Bool) := (impl_StateJoin.f k l0_0 l0_1 l1_0 l1_1).bind fun bt789 => (if bt789.2.2 = true then ((impl_StateSame.f k bt789.1 bt789.2.1 l1_0 l1_1).bind fun t797 => (some t797)) else (some false))
theorem impl_StateLeq.mono : ∀ a0 a1 a2 a3 k, LeO (impl_StateLeq.f k a0 a1 a2 a3) (impl_StateLeq.f (k + 1) a0 a1 a2 a3) := by
 intro a0 a1 a2 a3 k
 unfold impl_StateLeq.f
 repeat' first
   | (with_reducible exact impl_StateJoin.mono _ _ _ _ _)
   | (with_reducible exact impl_StateSame.mono _ _ _ _ _)
   | (with_reducible exact LeO.refl _)
   | (with_reducible exact LeO.none _)
   | (with_reducible refine LeO.ite ?_ ?_)
   | (with_reducible refine LeO.bind ?_ (fun _ => ?_))
   | exact impl_StateJoin.mono _ _ _ _ _
   | exact impl_StateSame.mono _ _ _ _ _
   | exact LeO.none _
   | refine LeO.ite ?_ ?_
   | refine LeO.bind ?_ (fun _ => ?_)
set_option maxHeartbeats 8000000 in
set_option maxRecDepth 100000 in
theorem impl_StateLeq.calls (k : Nat) (A0_0 : Option Addr) (c0_0 : Nat) (l0_0 : List (S84)) (A0_1 : Option Addr) (c0_1 : Nat) (l0_1 : List (S89)) (A1_0 : Option Addr) (c1_0 : Nat) (l1_0 : List (S84)) (A1_1 : Option Addr) (c1_1 : Nat) (l1_1 : List (S89)) (r : Bool) (w : World) (hr0_0 : Kd.C k84 w A0_0 l0_0.length l0_0) (hc0_0 : l0_0.length ≤ c0_0) (hr0_1 : Kd.C k89 w A0_1 l0_1.length l0_1) (hc0_1 : l0_1.length ≤ c0_1) (hr1_0 : Kd.C k84 w A1_0 l1_0.length l1_0) (hc1_0 : l1_0.length ≤ c1_0) (hr1_1 : Kd.C k89 w A1_1 l1_1.length l1_1) (hc1_1 : l1_1.length ≤ c1_1) (h : impl_StateLeq.f k l0_0 l0_1 l1_0 l1_1 = some r) :
  Calls Try.prog 60 #[.agg #[.slice A0_0 l0_0.length c0_0, .slice A0_1 l0_1.length c0_1], .agg #[.slice A1_0 l1_0.length c1_0, .slice A1_1 l1_1.length c1_1]] w fun e w' => e = .returned (.bool r) ∧ Below w.heap.size w w' := by
 have hu55 := Try.underlying55
 have HR0_0 := zm hr0_0
 have HC0_0 := zm hc0_0
 clear hr0_0 hc0_0
 have HR0_1 := zm hr0_1
 have HC0_1 := zm hc0_1
 clear hr0_1 hc0_1
 have HR1_0 := zm hr1_0
 have HC1_0 := zm hc1_0
 clear hr1_0 hc1_0
 have HR1_1 := zm hr1_1
 have HC1_1 := zm hc1_1
 clear hr1_1 hc1_1
 have HB := zm (Below.refl w.heap.size w)
 have H : ((impl_StateJoin.f k l0_0 l0_1 l1_0 l1_1).bind fun bt789 => (if bt789.2.2 = true then ((impl_StateSame.f k bt789.1 bt789.2.1 l1_0 l1_1).bind fun t797 => (some t797)) else (some false))) = some r := h
 clear h
 replace H := Option.bind_eq_some_iff.mp H
 obtain ⟨⟨t789, t792, t795⟩, A30, H⟩ := H
 replace H : (if t795 = true then ((impl_StateSame.f k t789 t792 l1_0 l1_1).bind fun t797 => (some t797)) else (some false)) = some r := H
 have A3 := zm A30
 clear A30
 by_cases c4 : t795 = true
 ·subst c4
  have H1 : ((impl_StateSame.f k t789 t792 l1_0 l1_1).bind fun t797 => (some t797)) = some r := by rw [if_pos rfl] at H; exact H
  clear H
  have H := H1
  clear H1
  replace H := Option.bind_eq_some_iff.mp H
  obtain ⟨t797, A50, H⟩ := H
  replace H : (some t797) = some r := H
  have A5 := zm A50
  clear A50
  obtain rfl := Option.some.inj H
  go_enter Try.func60, Try.ntmps60
  go_wp2_with (first | ((with_reducible refine gate_dst (N := 2) rfl ?_); refine zbox 2 #[.slice A0_0 l0_0.length c0_0, .slice A0_1 l0_1.length c0_1] 55 ?_; intro gb787 hg w6 hbox hb; have BK787 := zm (hbox); have GW787 := zge w hg zB; have GE787 := zge w hg zB; replace HB := zm (below_step zB hb); clear hb hbox hg) | ((with_reducible refine gate_dst (N := 3) rfl ?_); refine zbox 3 #[.slice A1_0 l1_0.length c1_0, .slice A1_1 l1_1.length c1_1] 55 ?_; intro gb788 hg w7 hbox hb; have BK788 := zm (hbox); have GW788 := zge w hg zB; have GE788 := zge w hg zB; replace HB := zm (below_step zB hb); have NB787_788 := zlt hg (zb BK787); have NB788_787 := zgt hg (zb BK787); replace BK787 := zm (blk_below (zb BK787) hb); clear hb hbox hg; have hnb8 := NB787_788.out; have hnc8 := NB788_787.out; have hcz9_0 : w7.cell? ⟨gb787, 0, none⟩ = some (.slice A0_0 l0_0.length c0_0) := (blk_cell BK787.out 0).trans rfl; have hcz9_1 : w7.cell? ⟨gb787, 1, none⟩ = some (.slice A0_1 l0_1.length c0_1) := (blk_cell BK787.out 1).trans rfl; have hfz9_0 := blk_frozen BK787.out 0; have hfz9_1 := blk_frozen BK787.out 1; have hcz10_0 : w7.cell? ⟨gb788, 0, none⟩ = some (.slice A1_0 l1_0.length c1_0) := (blk_cell BK788.out 0).trans rfl; have hcz10_1 : w7.cell? ⟨gb788, 1, none⟩ = some (.slice A1_1 l1_1.length c1_1) := (blk_cell BK788.out 1).trans rfl; have hfz10_0 := blk_frozen BK788.out 0; have hfz10_1 := blk_frozen BK788.out 1) | ((with_reducible refine gate_callee (f := 89) rfl ?_); refine zg (some 10) #[.agg #[.slice A0_0 l0_0.length c0_0, .slice A0_1 l0_1.length c0_1], .agg #[.slice A1_0 l1_0.length c1_0, .slice A1_1 l1_1.length c1_1]] Try.func89 ?_; (with_reducible refine (impl_StateJoin.calls k _ _ l0_0 _ _ l0_1 _ _ l1_0 _ _ l1_1 t789 t792 true _ (zk (Kd.C_below HR0_0.out HB.out)) HC0_0.out (zk (Kd.C_below HR0_1.out HB.out)) HC0_1.out (zk (Kd.C_below HR1_0.out HB.out)) HC1_0.out (zk (Kd.C_below HR1_1.out HB.out)) HC1_1.out A3.out).mono ?_); rintro e w11 ⟨v790, v793, rfl, ho0, ho1, hb⟩; refine ⟨_, rfl, ?_⟩; have HO791 := zm (Kd.R_lower ho0 (below_size zB)); have HO794 := zm (Kd.R_lower ho1 (below_size zB)); replace BK787 := zm (blk_below (zb BK787) hb); replace BK788 := zm (blk_below (zb BK788) hb); replace HB := zm (below_step zB hb); clear hb ho0 ho1) | ((with_reducible refine gate_dst (N := 5) rfl ?_); refine zbox 5 #[.slice none 0 0, .slice none 0 0] 55 ?_; intro gb796 hg w12 hbox hb; replace HO791 := zm (Kd.R_below (zr HO791) hb); replace HO794 := zm (Kd.R_below (zr HO794) hb); have BK796 := zm (hbox); have GW796 := zge w hg zB; have GE796 := zge w hg zB; replace HB := zm (below_step zB hb); have NB787_796 := zlt hg (zb BK787); have NB796_787 := zgt hg (zb BK787); replace BK787 := zm (blk_below (zb BK787) hb); have NB788_796 := zlt hg (zb BK788); have NB796_788 := zgt hg (zb BK788); replace BK788 := zm (blk_below (zb BK788) hb); clear hb hbox hg; obtain ⟨Ao13, co13, eo13⟩ := Kd.R_slice HO791.out; subst eo13; have hnb14 := NB796_787.out; have hnc14 := NB787_796.out; have hnb15 := NB796_788.out; have hnc15 := NB788_796.out; have hcz16_0 : w12.cell? ⟨gb796, 0, none⟩ = some (.slice none 0 0) := (blk_cell BK796.out 0).trans rfl; have hcz16_1 : w12.cell? ⟨gb796, 1, none⟩ = some (.slice none 0 0) := (blk_cell BK796.out 1).trans rfl; have hfz16_0 := blk_frozen BK796.out 0; have hfz16_1 := blk_frozen BK796.out 1; obtain ⟨Ao17, co17, eo17⟩ := Kd.R_slice HO794.out; subst eo17; have hcz18_0 : w12.cell? ⟨gb788, 0, none⟩ = some (.slice A1_0 l1_0.length c1_0) := (blk_cell BK788.out 0).trans rfl; have hcz18_1 : w12.cell? ⟨gb788, 1, none⟩ = some (.slice A1_1 l1_1.length c1_1) := (blk_cell BK788.out 1).trans rfl; have hfz18_0 := blk_frozen BK788.out 0; have hfz18_1 := blk_frozen BK788.out 1) | (go_at_call 43; (with_reducible refine (impl_StateSame.calls k _ _ t789 _ _ t792 _ _ l1_0 _ _ l1_1 t797 _ ?side1 ?side2 ?side3 ?side4 ?side5 HC1_0.out ?side7 HC1_1.out A5.out).mono ?_); (case side1 => refine (Kd.R_reads' (e := 84) (base := w.heap.size) (ok := fun k_ => True) (n := t789.length) (c := co13) ?_).2.2; exact (zrs <| (Kd.R_mono (zfr (zfr (Kd.R_types HO791.out BK796.out (by decide)))) (fun _ h_ => h_.1)))); (case side2 => exact (Kd.R_reads' HO791.out).2.1); (case side3 => refine (Kd.R_reads' (e := 89) (base := w.heap.size) (ok := fun k_ => True) (n := t792.length) (c := co17) ?_).2.2; exact (zrs <| (Kd.R_mono (zfr (zfr (Kd.R_types HO794.out BK796.out (by decide)))) (fun _ h_ => h_.1)))); (case side4 => exact (Kd.R_reads' HO794.out).2.1); (case side5 => exact Kd.C_below HR1_0.out zB); (case side7 => exact Kd.C_below HR1_1.out zB); rintro e w19 ⟨rfl, hb⟩; replace HO791 := zm (Kd.R_below (zrs <| (Kd.R_mono (zfr (zfr (Kd.R_types HO791.out BK796.out (by decide)))) (fun _ h_ => h_.1))) hb); replace HO794 := zm (Kd.R_below (zrs <| (Kd.R_mono (zfr (zfr (Kd.R_types HO794.out BK796.out (by decide)))) (fun _ h_ => h_.1))) hb); replace BK787 := zm (blk_below (g := gb787) (o := .cells #[.slice A0_0 l0_0.length c0_0, .slice A0_1 l0_1.length c0_1] 55 (0, 0)) (zfar (zfar (zb BK787) NB787_796) NB787_796) hb); replace BK788 := zm (blk_below (g := gb788) (o := .cells #[.slice A1_0 l1_0.length c1_0, .slice A1_1 l1_1.length c1_1] 55 (0, 0)) (zfar (zfar (zb BK788) NB788_796) NB788_796) hb); replace BK796 := zm (blk_below (g := gb796) (o := .cells #[.slice Ao13 t789.length co13, .slice Ao17 t792.length co17] 55 (0, 0)) (zput (zput (zb BK796) 0) 1) hb); replace HB := zm (below_step zB hb); clear hb))
  go_ret
  exact ⟨zE, zB⟩
 ·replace c4 := Bool.eq_false_iff.mpr c4
  subst c4
  have H1 : (some false) = some r := by rw [if_neg (show ¬ (false = true) by decide)] at H; exact H
  clear H
  have H := H1
  clear H1
  obtain rfl := Option.some.inj H
  go_enter Try.func60, Try.ntmps60
  go_wp2_with (first | ((with_reducible refine gate_dst (N := 2) rfl ?_); refine zbox 2 #[.slice A0_0 l0_0.length c0_0, .slice A0_1 l0_1.length c0_1] 55 ?_; intro gb787 hg w20 hbox hb; have BK787 := zm (hbox); have GW787 := zge w hg zB; have GE787 := zge w hg zB; replace HB := zm (below_step zB hb); clear hb hbox hg) | ((with_reducible refine gate_dst (N := 3) rfl ?_); refine zbox 3 #[.slice A1_0 l1_0.length c1_0, .slice A1_1 l1_1.length c1_1] 55 ?_; intro gb788 hg w21 hbox hb; have BK788 := zm (hbox); have GW788 := zge w hg zB; have GE788 := zge w hg zB; replace HB := zm (below_step zB hb); have NB787_788 := zlt hg (zb BK787); have NB788_787 := zgt hg (zb BK787); replace BK787 := zm (blk_below (zb BK787) hb); clear hb hbox hg; have hnb22 := NB787_788.out; have hnc22 := NB788_787.out; have hcz23_0 : w21.cell? ⟨gb787, 0, none⟩ = some (.slice A0_0 l0_0.length c0_0) := (blk_cell BK787.out 0).trans rfl; have hcz23_1 : w21.cell? ⟨gb787, 1, none⟩ = some (.slice A0_1 l0_1.length c0_1) := (blk_cell BK787.out 1).trans rfl; have hfz23_0 := blk_frozen BK787.out 0; have hfz23_1 := blk_frozen BK787.out 1; have hcz24_0 : w21.cell? ⟨gb788, 0, none⟩ = some (.slice A1_0 l1_0.length c1_0) := (blk_cell BK788.out 0).trans rfl; have hcz24_1 : w21.cell? ⟨gb788, 1, none⟩ = some (.slice A1_1 l1_1.length c1_1) := (blk_cell BK788.out 1).trans rfl; have hfz24_0 := blk_frozen BK788.out 0; have hfz24_1 := blk_frozen BK788.out 1) | ((with_reducible refine gate_callee (f := 89) rfl ?_); refine zg (some 10) #[.agg #[.slice A0_0 l0_0.length c0_0, .slice A0_1 l0_1.length c0_1], .agg #[.slice A1_0 l1_0.length c1_0, .slice A1_1 l1_1.length c1_1]] Try.func89 ?_; (with_reducible refine (impl_StateJoin.calls k _ _ l0_0 _ _ l0_1 _ _ l1_0 _ _ l1_1 t789 t792 false _ (zk (Kd.C_below HR0_0.out HB.out)) HC0_0.out (zk (Kd.C_below HR0_1.out HB.out)) HC0_1.out (zk (Kd.C_below HR1_0.out HB.out)) HC1_0.out (zk (Kd.C_below HR1_1.out HB.out)) HC1_1.out A3.out).mono ?_); rintro e w25 ⟨v790, v793, rfl, ho0, ho1, hb⟩; refine ⟨_, rfl, ?_⟩; have HO791 := zm (Kd.R_lower ho0 (below_size zB)); have HO794 := zm (Kd.R_lower ho1 (below_size zB)); replace BK787 := zm (blk_below (zb BK787) hb); replace BK788 := zm (blk_below (zb BK788) hb); replace HB := zm (below_step zB hb); clear hb ho0 ho1) | ((with_reducible refine gate_dst (N := 5) rfl ?_); refine zbox 5 #[.slice none 0 0, .slice none 0 0] 55 ?_; intro gb796 hg w26 hbox hb; replace HO791 := zm (Kd.R_below (zr HO791) hb); replace HO794 := zm (Kd.R_below (zr HO794) hb); have BK796 := zm (hbox); have GW796 := zge w hg zB; have GE796 := zge w hg zB; replace HB := zm (below_step zB hb); have NB787_796 := zlt hg (zb BK787); have NB796_787 := zgt hg (zb BK787); replace BK787 := zm (blk_below (zb BK787) hb); have NB788_796 := zlt hg (zb BK788); have NB796_788 := zgt hg (zb BK788); replace BK788 := zm (blk_below (zb BK788) hb); clear hb hbox hg; obtain ⟨Ao27, co27, eo27⟩ := Kd.R_slice HO791.out; subst eo27; have hnb28 := NB796_787.out; have hnc28 := NB787_796.out; have hnb29 := NB796_788.out; have hnc29 := NB788_796.out; have hcz30_0 : w26.cell? ⟨gb796, 0, none⟩ = some (.slice none 0 0) := (blk_cell BK796.out 0).trans rfl; have hcz30_1 : w26.cell? ⟨gb796, 1, none⟩ = some (.slice none 0 0) := (blk_cell BK796.out 1).trans rfl; have hfz30_0 := blk_frozen BK796.out 0; have hfz30_1 := blk_frozen BK796.out 1; obtain ⟨Ao31, co31, eo31⟩ := Kd.R_slice HO794.out; subst eo31))
  go_ret
  exact ⟨zE, zB⟩

end Go.Proofs.Ythljdiniccpobaa.P
