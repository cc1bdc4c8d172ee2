-- by a program of this session, for this seat
import Derived.Test.YtnmofppbijmhoaaZ
import Derived.Test.YtnmofppbijmhoaaP0
import Derived.Test.YtnmofppbijmhoaaPan
import Derived.Test.YtnmofppbijmhoaaPaa
import Derived.Test.YtnmofppbijmhoaaPab
import Derived.Test.YtnmofppbijmhoaaPah
namespace Go.Proofs.Ytnmofppbijmhoaa.P
open Go.RowKit Go.Proofs.YtnmofppbijmhoaaW.PrintWords Go.Proofs.YtnmofppbijmhoaaW.PrintLast Go.Proofs.YtnmofppbijmhoaaW.PrintMore Go.Proofs.Ytnmofppbijmhoaa.Z
attribute [local go_sem] max2_int min2_int max_two min_two max_three min_three max_four min_four   -- for this text's walks alone
set_option linter.unusedVariables false
set_option linter.unusedSimpArgs false

/-! ### spec_DrawStateLeq: function 31 -/
def spec_DrawStateLeq.f (k : Nat) (l0 : List Int) : Option ((List (S44)) × (List (S58)) × (List (S44)) × (List (S58))) := (spec_l3Two.f k l0).bind fun bt526 => (some (bt526.1, bt526.2.1, bt526.2.2.1, bt526.2.2.2))
theorem spec_DrawStateLeq.mono : ∀ a0 k, LeO (spec_DrawStateLeq.f k a0) (spec_DrawStateLeq.f (k + 1) a0) := by
 intro a0 k
 unfold spec_DrawStateLeq.f
 repeat' first | (with_reducible first | exact LeO.refl _ | exact LeO.none _ | refine LeO.ite ?_ ?_ | refine LeO.bind ?_ (fun _ => ?_) | apply spec_l3Two.mono) | apply spec_l3Two.mono | exact LeO.none _ | refine LeO.ite ?_ ?_ | refine LeO.bind ?_ (fun _ => ?_)
set_option maxHeartbeats 8000000 in
set_option maxRecDepth 100000 in
theorem spec_DrawStateLeq.calls (k : Nat) (A0 : Option Addr) (c0 : Nat) (l0 : List Int) (r1 : List (S44)) (r2 : List (S58)) (r3 : List (S44)) (r4 : List (S58)) (w : World) (hr0 : Kd.C (Kd.int .u8) w A0 l0.length l0) (hc0 : l0.length ≤ c0) (h : spec_DrawStateLeq.f k l0 = some (r1, r2, r3, r4)) :
  Calls Try.prog 31 #[.slice A0 l0.length c0] w fun e w' => ∃ v0_ v1_ v2_ v3_ : Value, e = .returned (.tuple #[.agg #[v0_, v1_], .agg #[v2_, v3_]]) ∧ Kd.R k44 44 w' w.heap.size (fun k_ => some k_ ≠ (v2_ : Value).ownBlock) v0_ r1 ∧ Kd.R k58 58 w' w.heap.size (fun k_ => some k_ ≠ (v3_ : Value).ownBlock) v1_ r2 ∧ Kd.R k44 44 w' w.heap.size (fun k_ => some k_ ≠ (v0_ : Value).ownBlock) v2_ r3 ∧ Kd.R k58 58 w' w.heap.size (fun k_ => some k_ ≠ (v1_ : Value).ownBlock) v3_ r4 ∧ Below w.heap.size w w' := by
 have hu27 := Try.underlying27; have HR0 := zm hr0; have Aa := zm hc0; clear hr0 hc0; have HB := zm (Below.refl w.heap.size w); have H : ((spec_l3Two.f k l0).bind fun AE => (some (AE.1, AE.2.1, AE.2.2.1, AE.2.2.2))) = some (r1, r2, r3, r4) := h; clear h; replace H := Option.bind_eq_some_iff.mp H; obtain ⟨⟨AJ, AK, AL, AM⟩, AP, H⟩ := H; (try dsimp only at H); have A2 := zm AP; clear AP; simp only [Option.some.injEq, Prod.mk.injEq] at H; obtain ⟨rfl, rfl, rfl, rfl⟩ := H; go_enter Try.func31, Try.ntmps31
 go_wp2_with (first | ((with_reducible refine gate_dst (N := 2) rfl ?_); refine zbox 2 #[.slice none 0 0, .slice none 0 0] 27 ?_; intro AN hg w3 hbox hb; have AA := zm (hbox); have Aj := zge w hg zB; have Ah := zge w hg zB; replace HB := zm (below_step zB hb); clear hb hbox hg) | ((with_reducible refine gate_dst (N := 3) rfl ?_); refine zbox 3 #[.slice none 0 0, .slice none 0 0] 27 ?_; intro AO hg w4 hbox hb; have AB := zm (hbox); have Ak := zge w hg zB; have Ai := zge w hg zB; replace HB := zm (below_step zB hb); have AC := zlt hg (zb AA); have AD := zgt hg (zb AA); replace AA := zy AA hb; clear hb hbox hg) | ((with_reducible refine gate_callee (f := 59) rfl ?_); refine zg (some 5) #[.slice A0 l0.length c0] Try.func59 ?_; (with_reducible refine (spec_l3Two.calls k _ _ l0 AJ AK AL AM _ (zk (Kd.C_below HR0.out HB.out)) Aa.out A2.out).mono ?_); rintro e w5 ⟨v527, v530, v533, v536, rfl, ho0, ho1, ho2, ho3, hb⟩; refine ⟨_, rfl, ?_⟩; have AF := zm (Kd.R_lower ho0 (below_size zB)); have AG := zm (Kd.R_lower ho1 (below_size zB)); have AH := zm (Kd.R_lower ho2 (below_size zB)); have AI := zm (Kd.R_lower ho3 (below_size zB)); replace AA := zy AA hb; replace AB := zy AB hb; replace HB := zm (below_step zB hb); clear hb ho0 ho1; (try clear ho2); (try clear ho3); obtain ⟨AY, Ab, eo6⟩ := Kd.R_slice AF.out; subst eo6; have Al := AC.out; have Am := AD.out; obtain ⟨Ad, Ae, Af, Ag⟩ := zc2 AA; obtain ⟨AZ, Ac, eo9⟩ := Kd.R_slice AG.out; subst eo9; obtain ⟨AQ, AS, eo10⟩ := Kd.R_slice AH.out; subst eo10; obtain ⟨AU, AV, AW, AX⟩ := zc2 AB; obtain ⟨AR, AT, eo12⟩ := Kd.R_slice AI.out; subst eo12))
 refine bodyPost_ret (results_cc rfl _ _ AN AO 27 27 #[.slice AY AJ.length Ab, .slice AZ AK.length Ac] #[.slice AQ AL.length AS, .slice AR AM.length AT] (0, 0) (0, 0) _ _ rfl (zfar (zfar (zput (zput (zb AA) 0) 1) AC) AC) Try.underlying27 rfl (by kernel_rfl) rfl (zput (zput (zfar (zfar (zb AB) AD) AD) 0) 1) Try.underlying27 rfl (by kernel_rfl)) rfl ?_
 exact ⟨_, _, _, _, zE, zrs <| Kd.R_mono (zfr (zfr (zfq (zfq (Kd.R_types (Kd.R_types AF.out AA.out (by decide)) AB.out (by decide)) (fun _ hk => hk.1.2)) (fun _ hk => hk.1.2)))) (fun _ hk => hk.1.1), zrs <| Kd.R_mono (zfr (zfr (zfq (zfq (Kd.R_types (Kd.R_types AG.out AA.out (by decide)) AB.out (by decide)) (fun _ hk => hk.1.2)) (fun _ hk => hk.1.2)))) (fun _ hk => hk.1.1), zrs <| Kd.R_mono (zfr (zfr (zfq (zfq (Kd.R_types (Kd.R_types AH.out AA.out (by decide)) AB.out (by decide)) (fun _ hk => hk.1.2)) (fun _ hk => hk.1.2)))) (fun _ hk => hk.1.1), zrs <| Kd.R_mono (zfr (zfr (zfq (zfq (Kd.R_types (Kd.R_types AI.out AA.out (by decide)) AB.out (by decide)) (fun _ hk => hk.1.2)) (fun _ hk => hk.1.2)))) (fun _ hk => hk.1.1), zB⟩

/-! ### laws_tail: function 32, by hand -/
set_option maxHeartbeats 8000000 in
set_option maxRecDepth 100000 in
theorem laws_tail.pre (A0 : Option Addr) (c0 : Nat) (l0 : List Int) (hc0 : l0.length ≤ c0) : ∃ (A1 : Option Addr) (c1 : Nat),
  (∀ w : World, Calls Try.prog 32 #[.slice A0 l0.length c0] w fun e w' => e = .returned (.slice A1 (l0.drop 1).length c1) ∧ Drawn0 w w') ∧
  (∀ w : World, Kd.C (Kd.int .u8) w A0 l0.length l0 → Kd.C (Kd.int .u8) w A1 (l0.drop 1).length (l0.drop 1)) ∧ (l0.drop 1).length ≤ c1 := by
 by_cases c : (l0.length : Int) = 0
 ·obtain rfl : l0 = [] := by
   cases l0 with
   | nil => rfl
   | cons x r => exact absurd c (by simp; omega)
  refine ⟨A0, c0, fun w => ?_, fun w h => h, Nat.zero_le _⟩
  go_enter Try.func32, Try.ntmps32
  go_wp2
  go_ret
  exact ⟨zE, zD⟩
 ·obtain ⟨i0, hi0, _, hsz, _⟩ := info_parts info5; obtain ⟨A1, hcut, hA, hC⟩ := print_drop_of (P := Try.prog) (Value.int .u8) (0 : Int) 22 5 .i64 Try.underlying22 hi0 hsz A0 c0 l0 1 (by omega) (by omega) hc0; have e1 : (1 : Int).toNat = 1 := rfl
  rw [e1] at hC hA
  simp only [e1] at hcut
  refine ⟨A1, c0 - 1, fun w => ?_, fun w h => Kd.C_of_reads (h1 := fun _ => rfl) (hA w (Kd.reads_of_C h)), hC⟩
  have cb0 : ((l0.length : Int) == 0) = false := by simpa using c
  have cb1 : ((l0.length : Int) != 0) = true := by simpa using c
  clear c; go_enter Try.func32, Try.ntmps32
  go_wp2
  go_ret
  exact ⟨zE, zD⟩

section
attribute [local go_sem high] eqA44 eqA58
/-! ### spec_StateSame: function 15 -/
mutual
def spec_StateSame.j0 : Nat → Bool → List (S44) → List (S58) → List (S44) → List (S58) → Option (Bool)
 | 0, _, _, _, _, _ => none
 | k + 1, x22, x539000, x539001, x540000, x540001 => if x22 = true then (some false) else (spec_StateSame.l0 k 0 x539000 x539001 x540000 x540001)
def spec_StateSame.l0 : Nat → Int → List (S44) → List (S58) → List (S44) → List (S58) → Option (Bool)
 | 0, _, _, _, _, _ => none
 | k + 1, x5, x539000, x539001, x540000, x540001 => if x5 < (x539000.length : Int) then (if 0 ≤ x5 then (if x5 < (x540000.length : Int) then (if (!(((rd_T44 x539000 x5).f0) == ((rd_T44 x540000 x5).f0)) || ((!(((rd_T44 x539000 x5).f1.f0) == ((rd_T44 x540000 x5).f1.f0)) || (!(((rd_T44 x539000 x5).f1.f1) == ((rd_T44 x540000 x5).f1.f1)) || (!(((rd_T44 x539000 x5).f1.f2) == ((rd_T44 x540000 x5).f1.f2)) || (!(((rd_T44 x539000 x5).f1.f3) == ((rd_T44 x540000 x5).f1.f3)) || (!((((rd_T44 x539000 x5).f1.f4).toList) == (((rd_T44 x540000 x5).f1.f4).toList))))))))) = true then (some false) else (spec_StateSame.l0 k (wrap64 (x5 + 1)) x539000 x539001 x540000 x540001)) else (none)) else (none)) else (spec_StateSame.l1 k 0 x539000 x539001 x540000 x540001)
def spec_StateSame.l1 : Nat → Int → List (S44) → List (S58) → List (S44) → List (S58) → Option (Bool)
 | 0, _, _, _, _, _ => none
 | k + 1, x6, x539000, x539001, x540000, x540001 => if x6 < (x539001.length : Int) then (if 0 ≤ x6 then (if x6 < (x540001.length : Int) then (if (!(((rd_T58 x539001 x6).f0) == ((rd_T58 x540001 x6).f0)) || (!(((rd_T58 x539001 x6).f1) == ((rd_T58 x540001 x6).f1)))) = true then (some false) else (spec_StateSame.l1 k (wrap64 (x6 + 1)) x539000 x539001 x540000 x540001)) else (none)) else (none)) else (some true)
end
def spec_StateSame.f (k : Nat) (l0_0 : List (S44)) (l0_1 : List (S58)) (l1_0 : List (S44)) (l1_1 : List (S58)) : Option (Bool) := if (l0_0.length : Int) = (l1_0.length : Int) then (spec_StateSame.j0 k ((l0_1.length : Int) != (l1_1.length : Int)) l0_0 l0_1 l1_0 l1_1) else (spec_StateSame.j0 k true l0_0 l0_1 l1_0 l1_1)
theorem spec_StateSame.mono_l : ∀ k, (∀ y0 y1 y2 y3 y4, LeO (spec_StateSame.j0 k y0 y1 y2 y3 y4) (spec_StateSame.j0 (k + 1) y0 y1 y2 y3 y4)) ∧ (∀ y0 y1 y2 y3 y4, LeO (spec_StateSame.l0 k y0 y1 y2 y3 y4) (spec_StateSame.l0 (k + 1) y0 y1 y2 y3 y4)) ∧ (∀ y0 y1 y2 y3 y4, LeO (spec_StateSame.l1 k y0 y1 y2 y3 y4) (spec_StateSame.l1 (k + 1) y0 y1 y2 y3 y4))
 | 0 => ⟨fun _ _ _ _ _ r h => by simp [spec_StateSame.j0] at h, fun _ _ _ _ _ r h => by simp [spec_StateSame.l0] at h, fun _ _ _ _ _ r h => by simp [spec_StateSame.l1] at h⟩
 | k + 1 => by
  obtain ⟨ih0, ih1, ih2⟩ := spec_StateSame.mono_l k
  refine ⟨?_, ?_, ?_⟩
  ·intro y0 y1 y2 y3 y4
   unfold spec_StateSame.j0
   repeat' first | (with_reducible first | exact LeO.refl _ | exact LeO.none _ | refine LeO.ite ?_ ?_ | refine LeO.bind ?_ (fun _ => ?_) | apply ih0 | apply ih1 | apply ih2) | apply ih0 | apply ih1 | apply ih2 | exact LeO.none _ | refine LeO.ite ?_ ?_ | refine LeO.bind ?_ (fun _ => ?_)
  ·intro y0 y1 y2 y3 y4
   unfold spec_StateSame.l0
   repeat' first | (with_reducible first | exact LeO.refl _ | exact LeO.none _ | refine LeO.ite ?_ ?_ | refine LeO.bind ?_ (fun _ => ?_) | apply ih0 | apply ih1 | apply ih2) | apply ih0 | apply ih1 | apply ih2 | exact LeO.none _ | refine LeO.ite ?_ ?_ | refine LeO.bind ?_ (fun _ => ?_)
  ·intro y0 y1 y2 y3 y4
   unfold spec_StateSame.l1
   repeat' first | (with_reducible first | exact LeO.refl _ | exact LeO.none _ | refine LeO.ite ?_ ?_ | refine LeO.bind ?_ (fun _ => ?_) | apply ih0 | apply ih1 | apply ih2) | apply ih0 | apply ih1 | apply ih2 | exact LeO.none _ | refine LeO.ite ?_ ?_ | refine LeO.bind ?_ (fun _ => ?_)
theorem spec_StateSame.mono : ∀ a0 a1 a2 a3 k, LeO (spec_StateSame.f k a0 a1 a2 a3) (spec_StateSame.f (k + 1) a0 a1 a2 a3) := by
 intro a0 a1 a2 a3 k; obtain ⟨ih0, ih1, ih2⟩ := spec_StateSame.mono_l k
 unfold spec_StateSame.f
 repeat' first | (with_reducible first | exact LeO.refl _ | exact LeO.none _ | refine LeO.ite ?_ ?_ | refine LeO.bind ?_ (fun _ => ?_) | apply ih0 | apply ih1 | apply ih2) | apply ih0 | apply ih1 | apply ih2 | exact LeO.none _ | refine LeO.ite ?_ ?_ | refine LeO.bind ?_ (fun _ => ?_)
set_option maxHeartbeats 8000000 in
set_option maxRecDepth 100000 in
theorem spec_StateSame.calls (k : Nat) (A0_0 : Option Addr) (c0_0 : Nat) (l0_0 : List (S44)) (A0_1 : Option Addr) (c0_1 : Nat) (l0_1 : List (S58)) (A1_0 : Option Addr) (c1_0 : Nat) (l1_0 : List (S44)) (A1_1 : Option Addr) (c1_1 : Nat) (l1_1 : List (S58)) (r : Bool) (w : World) (hr0_0 : Kd.C k44 w A0_0 l0_0.length l0_0) (hc0_0 : l0_0.length ≤ c0_0) (hr0_1 : Kd.C k58 w A0_1 l0_1.length l0_1) (hc0_1 : l0_1.length ≤ c0_1) (hr1_0 : Kd.C k44 w A1_0 l1_0.length l1_0) (hc1_0 : l1_0.length ≤ c1_0) (hr1_1 : Kd.C k58 w A1_1 l1_1.length l1_1) (hc1_1 : l1_1.length ≤ c1_1) (h : spec_StateSame.f k l0_0 l0_1 l1_0 l1_1 = some r) :
  Calls Try.prog 15 #[.agg #[.slice A0_0 l0_0.length c0_0, .slice A0_1 l0_1.length c0_1], .agg #[.slice A1_0 l1_0.length c1_0, .slice A1_1 l1_1.length c1_1]] w fun e w' => e = .returned (.bool r) ∧ Below w.heap.size w w' := by
 have hu27 := Try.underlying27; have hu44 := Try.underlying44; have hu58 := Try.underlying58; have HR0_0 := zm hr0_0; have HC0_0 := zm hc0_0; clear hr0_0 hc0_0; have HR0_1 := zm hr0_1; have HC0_1 := zm hc0_1; clear hr0_1 hc0_1; have HR1_0 := zm hr1_0; have HC1_0 := zm hc1_0; clear hr1_0 hc1_0; have HR1_1 := zm hr1_1; have HC1_1 := zm hc1_1; clear hr1_1 hc1_1; have HB := zm (Below.refl w.heap.size w); have H : (if (l0_0.length : Int) = (l1_0.length : Int) then (spec_StateSame.j0 k ((l0_1.length : Int) != (l1_1.length : Int)) l0_0 l0_1 l1_0 l1_1) else (spec_StateSame.j0 k true l0_0 l0_1 l1_0 l1_1)) = some r := h; clear h; have Ae := zm H; clear H; go_enter Try.func15, Try.ntmps15
 go_upto_region 1 with (first | ((with_reducible refine gate_dst (N := 2) rfl ?_); (try (refine gate_guard (by rfl) ?_; dsimp only)); refine zbox 2 #[.slice A0_0 l0_0.length c0_0, .slice A0_1 l0_1.length c0_1] 27 ?_; intro AG hg w4 hbox hb; have AB := zm (hbox); have AR := zge w hg zB; have AP := zge w hg zB; replace HB := zm (below_step zB hb); clear hb hbox hg) | ((with_reducible refine gate_dst (N := 3) rfl ?_); (try (refine gate_guard (by rfl) ?_; dsimp only)); refine zbox 3 #[.slice A1_0 l1_0.length c1_0, .slice A1_1 l1_1.length c1_1] 27 ?_; intro AH hg w5 hbox hb; have AF := zm (hbox); have AS := zge w hg zB; have AQ := zge w hg zB; replace HB := zm (below_step zB hb); have AD := zlt hg (zb AB); have AE := zgt hg (zb AB); replace AB := zy AB hb; clear hb hbox hg))
 repeat (go_quiet (first | ((with_reducible refine gate_dst (N := 2) rfl ?_); (try (refine gate_guard (by rfl) ?_; dsimp only)); refine box_event ?hg (N := 2) ?hd (cs := #[.slice A0_0 l0_0.length c0_0, .slice A0_1 l0_1.length c0_1]) (t := 27) ?hr ?_; (case hd => rfl); (case hg => rfl); (case hr => first | (go_simp; done) | (go_simp; rfl)); intro AG hg w4 hbox hb; have n0_ := zm (below_step zB hb); have n1_ := zm (hbox); have n2_ := zge w hg zB; have n3_ := zge w hg zB; clear HB; have HB := n0_; have AB := n1_; have AR := n2_; have AP := n3_; clear n0_ n1_ n2_ n3_; clear hb hbox hg) | ((with_reducible refine gate_dst (N := 3) rfl ?_); (try (refine gate_guard (by rfl) ?_; dsimp only)); refine box_event ?hg (N := 3) ?hd (cs := #[.slice A1_0 l1_0.length c1_0, .slice A1_1 l1_1.length c1_1]) (t := 27) ?hr ?_; (case hd => rfl); (case hg => rfl); (case hr => first | (go_simp; done) | (go_simp; rfl)); intro AH hg w5 hbox hb; have n0_ := zm (blk_below (zb AB) hb); have n1_ := zm (below_step zB hb); have n2_ := zm (hbox); have n3_ := zge w hg zB; have n4_ := zge w hg zB; have n5_ := zlt hg (zb AB); have n6_ := zgt hg (zb AB); clear AB; clear HB; have AB := n0_; have HB := n1_; have AF := n2_; have AS := n3_; have AQ := n4_; have AD := n5_; have AE := n6_; clear n0_ n1_ n2_ n3_ n4_ n5_ n6_; clear hb hbox hg)); go_upto_region 1 with (first | ((with_reducible refine gate_dst (N := 2) rfl ?_); (try (refine gate_guard (by rfl) ?_; dsimp only)); refine box_event ?hg (N := 2) ?hd (cs := #[.slice A0_0 l0_0.length c0_0, .slice A0_1 l0_1.length c0_1]) (t := 27) ?hr ?_; (case hd => rfl); (case hg => rfl); (case hr => first | (go_simp; done) | (go_simp; rfl)); intro AG hg w4 hbox hb; have n0_ := zm (below_step zB hb); have n1_ := zm (hbox); have n2_ := zge w hg zB; have n3_ := zge w hg zB; clear HB; have HB := n0_; have AB := n1_; have AR := n2_; have AP := n3_; clear n0_ n1_ n2_ n3_; clear hb hbox hg) | ((with_reducible refine gate_dst (N := 3) rfl ?_); (try (refine gate_guard (by rfl) ?_; dsimp only)); refine box_event ?hg (N := 3) ?hd (cs := #[.slice A1_0 l1_0.length c1_0, .slice A1_1 l1_1.length c1_1]) (t := 27) ?hr ?_; (case hd => rfl); (case hg => rfl); (case hr => first | (go_simp; done) | (go_simp; rfl)); intro AH hg w5 hbox hb; have n0_ := zm (blk_below (zb AB) hb); have n1_ := zm (below_step zB hb); have n2_ := zm (hbox); have n3_ := zge w hg zB; have n4_ := zge w hg zB; have n5_ := zlt hg (zb AB); have n6_ := zgt hg (zb AB); clear AB; clear HB; have AB := n0_; have HB := n1_; have AF := n2_; have AS := n3_; have AQ := n4_; have AD := n5_; have AE := n6_; clear n0_ n1_ n2_ n3_ n4_ n5_ n6_; clear hb hbox hg)))
 (try simp only [Act.put, List.setIfInBounds_toArray, List.set_cons_zero, List.set_cons_succ])
 go_cut [22] (fun v22 wc => ∃ (kq : Nat) (AI : Bool), v22 = .bool AI ∧ Aside0 (spec_StateSame.j0 kq AI l0_0 l0_1 l1_0 l1_1 = some r) ∧ Aside0 (kq ≤ k) ∧ Aside0 (wc.heap[AG]? = some (.cells #[(.slice A0_0 l0_0.length c0_0), (.slice A0_1 l0_1.length c0_1)] 27 (0, 0))) ∧ Aside0 (wc.heap[AH]? = some (.cells #[(.slice A1_0 l1_0.length c1_0), (.slice A1_1 l1_1.length c1_1)] 27 (0, 0))) ∧ Aside0 (Below w.heap.size w wc))
 case first =>
  have H := Ae.out; clear Ae
  by_cases c6 : (l0_0.length : Int) = (l1_0.length : Int)
  ·rw [if_pos c6] at H; have AK : ((l0_0.length : Int) == (l1_0.length : Int)) = true := beq_iff_eq.mpr c6; have Ak : ((l0_0.length : Int) != (l1_0.length : Int)) = false := bne_eq_false_iff_eq.mpr c6
   have Al : (l0_0.length == l1_0.length) = true := by first | simpa using c6 | (simp at c6 ⊢; omega)
   clear c6
   (first | rw [AK] | (simp only [i64_w, i32_w]; rw [AK]) | skip)
   have H' := zm H
   clear H; have C0 := AD.out; have C1 := AE.out; obtain ⟨Ba, Bb, Be, Bf⟩ := zc2 AB; obtain ⟨Bc, Bd, Bg, Bh⟩ := zc2 AF
   go_wp2
   repeat (go_quiet (fail); try go_wp2)
   go_meet
   case rel => exact ⟨_, (((l0_1.length : Int) != (l1_1.length : Int))), zF, H', ⟨zO⟩, ⟨zb AB⟩, ⟨zb AF⟩, ⟨zB⟩⟩
  ·rw [if_neg c6] at H; have AK : ((l0_0.length : Int) == (l1_0.length : Int)) = false := beq_eq_false_iff_ne.mpr c6; have Ak : ((l0_0.length : Int) != (l1_0.length : Int)) = true := bne_iff_ne.mpr c6
   have Al : (l0_0.length == l1_0.length) = false := by first | simpa using c6 | (simp at c6 ⊢; omega)
   (first | rw [AK] | (simp only [i64_w, i32_w]; rw [AK]) | skip)
   have H' := zm H
   clear H; have Bm := AD.out; have Bt := AE.out; obtain ⟨Am, An, BE, BF⟩ := zc2 AB; obtain ⟨Ao, Ap, BG, BH⟩ := zc2 AF
   go_wp2
   repeat (go_quiet (fail); try go_wp2)
   go_meet
   case rel => exact ⟨_, (true), zF, H', ⟨zO⟩, ⟨zb AB⟩, ⟨zb AF⟩, ⟨zB⟩⟩
 case rest =>
  clear Ae; obtain ⟨kq, AI, rfl, HA, AT, AB, AF, HB⟩ := hcut
  cases kq with
  | zero => exact absurd HA.out (by simp [spec_StateSame.j0])
  | succ Aj =>
   have H := HA.out; clear HA; simp only [spec_StateSame.j0] at H
   by_cases AL : AI = true
   ·subst AL; rw [if_pos rfl] at H; obtain rfl := Option.some.inj H
    go_wp2
    repeat (go_quiet (fail); try go_wp2)
    go_ret
    exact ⟨zE, zB⟩
   ·replace AL := Bool.eq_false_iff.mpr AL; subst AL; rw [zff] at H
    have H' := zm H
    clear H
    go_wp2
    repeat (go_quiet (fail); try go_wp2)
    go_loopg [5] Aj (fun kq v5 w' => ∃ (AA : Int), v5 = .int .i64 AA ∧ Aside0 (spec_StateSame.l0 kq AA l0_0 l0_1 l1_0 l1_1 = some r) ∧ Aside0 (kq ≤ Aj) ∧ Aside0 (w'.heap[AG]? = some (.cells #[(.slice A0_0 l0_0.length c0_0), (.slice A0_1 l0_1.length c0_1)] 27 (0, 0))) ∧ Aside0 (w'.heap[AH]? = some (.cells #[(.slice A1_0 l1_0.length c1_0), (.slice A1_1 l1_1.length c1_1)] 27 (0, 0))) ∧ Aside0 (Below w.heap.size w w'))
    case atStart => exact ⟨(0), zF, H', ⟨Nat.le_refl _⟩, ⟨zb AB⟩, ⟨zb AF⟩, ⟨zB⟩⟩
    case round =>
     clear H'; (try clear AL); obtain ⟨AA, rfl, HA, AU, AB, AF, HB⟩ := hrel
     cases gk with
     | zero => exact absurd HA.out (by simp [spec_StateSame.l0])
     | succ k2 =>
      have H := HA.out; clear HA; simp only [spec_StateSame.l0] at H
      by_cases AJ : AA < (l0_0.length : Int)
      ·rw [if_pos AJ] at H; have AV : decide (AA < (l0_0.length : Int)) = true := decide_eq_true AJ; clear AJ
       by_cases AW : 0 ≤ AA
       ·rw [if_pos AW] at H; have Bi : decide (0 ≤ AA) = true := decide_eq_true AW; clear AW
        by_cases AX : AA < (l1_0.length : Int)
        ·rw [if_pos AX] at H; have Bj : decide (AA < (l1_0.length : Int)) = true := decide_eq_true AX; clear AX
         by_cases AM : (!(((rd_T44 l0_0 AA).f0) == ((rd_T44 l1_0 AA).f0)) || ((!(((rd_T44 l0_0 AA).f1.f0) == ((rd_T44 l1_0 AA).f1.f0)) || (!(((rd_T44 l0_0 AA).f1.f1) == ((rd_T44 l1_0 AA).f1.f1)) || (!(((rd_T44 l0_0 AA).f1.f2) == ((rd_T44 l1_0 AA).f1.f2)) || (!(((rd_T44 l0_0 AA).f1.f3) == ((rd_T44 l1_0 AA).f1.f3)) || (!((((rd_T44 l0_0 AA).f1.f4).toList) == (((rd_T44 l1_0 AA).f1.f4).toList))))))))) = true
         ·rw [if_pos AM] at H; have Af : (!(((rd_T44 l0_0 AA).f0) == ((rd_T44 l1_0 AA).f0)) || ((!(((rd_T44 l0_0 AA).f1.f0) == ((rd_T44 l1_0 AA).f1.f0)) || (!(((rd_T44 l0_0 AA).f1.f1) == ((rd_T44 l1_0 AA).f1.f1)) || (!(((rd_T44 l0_0 AA).f1.f2) == ((rd_T44 l1_0 AA).f1.f2)) || (!(((rd_T44 l0_0 AA).f1.f3) == ((rd_T44 l1_0 AA).f1.f3)) || (!((((rd_T44 l0_0 AA).f1.f4).toList) == (((rd_T44 l1_0 AA).f1.f4).toList))))))))) = true := AM; clear AM; obtain rfl := Option.some.inj H; have Bn := AD.out; have Bu := AE.out; obtain ⟨Aq, Ar, BI, BJ⟩ := zc2 AB; have p540 : 0 ≤ (AA : Int) := zd; have q540 : AA < (l0_0.length : Int) := zd; obtain ⟨ad540, e540, hx540_0, hx540_1, hx540_2, hx540_3, hx540_4, hx540_5⟩ := at_T44 (Kd.C_below HR0_0.out HB.out) AA p540 q540; cases e540; replace p540 := eq_true p540; replace q540 := eq_true q540; obtain ⟨As, At, BK, BL⟩ := zc2 AF; have p541 : 0 ≤ (AA : Int) := zd; have q541 : AA < (l1_0.length : Int) := zd; obtain ⟨ad541, e541, hx541_0, hx541_1, hx541_2, hx541_3, hx541_4, hx541_5⟩ := at_T44 (Kd.C_below HR1_0.out HB.out) AA p541 q541; cases e541; replace p541 := eq_true p541; replace q541 := eq_true q541
          go_wp2
          repeat (go_quiet (fail); try go_wp2)
          go_ret
          exact ⟨zE, zB⟩
         ·rw [if_neg AM] at H
          have Af : (!(((rd_T44 l0_0 AA).f0) == ((rd_T44 l1_0 AA).f0)) || ((!(((rd_T44 l0_0 AA).f1.f0) == ((rd_T44 l1_0 AA).f1.f0)) || (!(((rd_T44 l0_0 AA).f1.f1) == ((rd_T44 l1_0 AA).f1.f1)) || (!(((rd_T44 l0_0 AA).f1.f2) == ((rd_T44 l1_0 AA).f1.f2)) || (!(((rd_T44 l0_0 AA).f1.f3) == ((rd_T44 l1_0 AA).f1.f3)) || (!((((rd_T44 l0_0 AA).f1.f4).toList) == (((rd_T44 l1_0 AA).f1.f4).toList))))))))) = false := by simpa using AM
          clear AM
          have H' := zm H
          clear H; have Bo := AD.out; have Bv := AE.out; obtain ⟨Au, Av, BM, BN⟩ := zc2 AB; have p540 : 0 ≤ (AA : Int) := zd; have q540 : AA < (l0_0.length : Int) := zd; obtain ⟨ad540, e540, hx540_0, hx540_1, hx540_2, hx540_3, hx540_4, hx540_5⟩ := at_T44 (Kd.C_below HR0_0.out HB.out) AA p540 q540; cases e540; replace p540 := eq_true p540; replace q540 := eq_true q540; obtain ⟨Aw, Ax, BO, BP⟩ := zc2 AF; have p541 : 0 ≤ (AA : Int) := zd; have q541 : AA < (l1_0.length : Int) := zd; obtain ⟨ad541, e541, hx541_0, hx541_1, hx541_2, hx541_3, hx541_4, hx541_5⟩ := at_T44 (Kd.C_below HR1_0.out HB.out) AA p541 q541; cases e541; replace p541 := eq_true p541; replace q541 := eq_true q541
          go_wp2
          repeat (go_quiet (fail); try go_wp2)
          go_roundg k2
          case measure => have := AT.out; have := AU.out; omega
          case rel => exact ⟨(wrap64 (AA + 1)), zF, H', ⟨by have := AT.out; have := AU.out; omega⟩, ⟨zb AB⟩, ⟨zb AF⟩, ⟨zB⟩⟩
        ·rw [if_neg AX] at H
         exact absurd H (by simp)
       ·rw [if_neg AW] at H
        exact absurd H (by simp)
      ·rw [if_neg AJ] at H; have AV : decide (AA < (l0_0.length : Int)) = false := decide_eq_false AJ; clear AJ
       have H' := zm H
       clear H; have Bp := AD.out; have Bw := AE.out; obtain ⟨Aa, Ab, Ac, Ad⟩ := zc2 AB
       go_wp2
       repeat (go_quiet (fail); try go_wp2)
       go_loopg [6] k2 (fun kq v6 w' => ∃ (AC : Int), v6 = .int .i64 AC ∧ Aside0 (spec_StateSame.l1 kq AC l0_0 l0_1 l1_0 l1_1 = some r) ∧ Aside0 (kq ≤ k2) ∧ Aside0 (w'.heap[AG]? = some (.cells #[(.slice A0_0 l0_0.length c0_0), (.slice A0_1 l0_1.length c0_1)] 27 (0, 0))) ∧ Aside0 (w'.heap[AH]? = some (.cells #[(.slice A1_0 l1_0.length c1_0), (.slice A1_1 l1_1.length c1_1)] 27 (0, 0))) ∧ Aside0 (Below w.heap.size w w'))
       case atStart => exact ⟨(0), zF, H', ⟨Nat.le_refl _⟩, ⟨zb AB⟩, ⟨zb AF⟩, ⟨zB⟩⟩
       case round =>
        clear H'; (try clear AL); (try clear AJ); (try clear AV); (try clear Aa); (try clear Ab); (try clear Ac); (try clear Ad); obtain ⟨AC, rfl, HA, Ai, AB, AF, HB⟩ := hrel
        cases gk with
        | zero => exact absurd HA.out (by simp [spec_StateSame.l1])
        | succ k3 =>
         have H := HA.out; clear HA; simp only [spec_StateSame.l1] at H
         by_cases AN : AC < (l0_1.length : Int)
         ·rw [if_pos AN] at H; have Ag : decide (AC < (l0_1.length : Int)) = true := decide_eq_true AN; clear AN
          by_cases AY : 0 ≤ AC
          ·rw [if_pos AY] at H; have Bk : decide (0 ≤ AC) = true := decide_eq_true AY; clear AY
           by_cases AZ : AC < (l1_1.length : Int)
           ·rw [if_pos AZ] at H; have Bl : decide (AC < (l1_1.length : Int)) = true := decide_eq_true AZ; clear AZ
            by_cases AO : (!(((rd_T58 l0_1 AC).f0) == ((rd_T58 l1_1 AC).f0)) || (!(((rd_T58 l0_1 AC).f1) == ((rd_T58 l1_1 AC).f1)))) = true
            ·rw [if_pos AO] at H; have Ah : (!(((rd_T58 l0_1 AC).f0) == ((rd_T58 l1_1 AC).f0)) || (!(((rd_T58 l0_1 AC).f1) == ((rd_T58 l1_1 AC).f1)))) = true := AO; clear AO; obtain rfl := Option.some.inj H; have Bq := AD.out; have Bx := AE.out; obtain ⟨Ay, Az, BQ, BR⟩ := zc2 AB; have p542 : 0 ≤ (AC : Int) := zd; have q542 : AC < (l0_1.length : Int) := zd; obtain ⟨ad542, e542, hx542_0, hx542_1⟩ := at_T58 (Kd.C_below HR0_1.out HB.out) AC p542 q542; cases e542; replace p542 := eq_true p542; replace q542 := eq_true q542; obtain ⟨B0, B2, BS, BT⟩ := zc2 AF; have p543 : 0 ≤ (AC : Int) := zd; have q543 : AC < (l1_1.length : Int) := zd; obtain ⟨ad543, e543, hx543_0, hx543_1⟩ := at_T58 (Kd.C_below HR1_1.out HB.out) AC p543 q543; cases e543; replace p543 := eq_true p543; replace q543 := eq_true q543
             go_wp2
             repeat (go_quiet (fail); try go_wp2)
             go_ret
             exact ⟨zE, zB⟩
            ·rw [if_neg AO] at H
             have Ah : (!(((rd_T58 l0_1 AC).f0) == ((rd_T58 l1_1 AC).f0)) || (!(((rd_T58 l0_1 AC).f1) == ((rd_T58 l1_1 AC).f1)))) = false := by simpa using AO
             clear AO
             have H' := zm H
             clear H; have Br := AD.out; have By := AE.out; obtain ⟨B3, B7, BU, BV⟩ := zc2 AB; have p542 : 0 ≤ (AC : Int) := zd; have q542 : AC < (l0_1.length : Int) := zd; obtain ⟨ad542, e542, hx542_0, hx542_1⟩ := at_T58 (Kd.C_below HR0_1.out HB.out) AC p542 q542; cases e542; replace p542 := eq_true p542; replace q542 := eq_true q542; obtain ⟨BA, BB, BW, BX⟩ := zc2 AF; have p543 : 0 ≤ (AC : Int) := zd; have q543 : AC < (l1_1.length : Int) := zd; obtain ⟨ad543, e543, hx543_0, hx543_1⟩ := at_T58 (Kd.C_below HR1_1.out HB.out) AC p543 q543; cases e543; replace p543 := eq_true p543; replace q543 := eq_true q543
             go_wp2
             repeat (go_quiet (fail); try go_wp2)
             go_roundg k3
             case measure => have := AT.out; have := AU.out; have := Ai.out; omega
             case rel => exact ⟨(wrap64 (AC + 1)), zF, H', ⟨by have := AT.out; have := AU.out; have := Ai.out; omega⟩, ⟨zb AB⟩, ⟨zb AF⟩, ⟨zB⟩⟩
           ·rw [if_neg AZ] at H
            exact absurd H (by simp)
          ·rw [if_neg AY] at H
           exact absurd H (by simp)
         ·rw [if_neg AN] at H; have Ag : decide (AC < (l0_1.length : Int)) = false := decide_eq_false AN; clear AN; obtain rfl := Option.some.inj H; have Bs := AD.out; have Bz := AE.out; obtain ⟨BC, BD, BY, BZ⟩ := zc2 AB
          go_wp2
          repeat (go_quiet (fail); try go_wp2)
          go_ret
          exact ⟨zE, zB⟩
end

/-! ### spec_StateLeq: function 33 -/
def spec_StateLeq.f (k : Nat) (l0_0 : List (S44)) (l0_1 : List (S58)) (l1_0 : List (S44)) (l1_1 : List (S58)) : Option (Bool) := (spec_StateOk.f k l0_0 l0_1).bind fun t546 => (if t546 = true then ((spec_StateOk.f k l1_0 l1_1).bind fun t547 => (if t547 = true then ((spec_l3Join.f k l0_0 l0_1 l1_0 l1_1).bind fun bt548 => ((spec_StateSame.f k bt548.1 bt548.2 l1_0 l1_1).bind fun t554 => (some t554))) else (some false))) else (some false))
theorem spec_StateLeq.mono : ∀ a0 a1 a2 a3 k, LeO (spec_StateLeq.f k a0 a1 a2 a3) (spec_StateLeq.f (k + 1) a0 a1 a2 a3) := by
 intro a0 a1 a2 a3 k
 unfold spec_StateLeq.f
 repeat' first | (with_reducible first | exact LeO.refl _ | exact LeO.none _ | refine LeO.ite ?_ ?_ | refine LeO.bind ?_ (fun _ => ?_) | apply spec_StateOk.mono | apply spec_StateSame.mono | apply spec_l3Join.mono) | apply spec_StateOk.mono | apply spec_StateSame.mono | apply spec_l3Join.mono | exact LeO.none _ | refine LeO.ite ?_ ?_ | refine LeO.bind ?_ (fun _ => ?_)
def spec_StateLeq.T1 : Bool × List (List Nat × List Nat) := (true, [([], []), ([0], [0]), ([1, 1], [1]), ([2], [2]), ([3, 2, 2], [2, 3]), ([2, 4], [2, 4]), ([5, 4], [5]), ([6], [6]), ([6], [6]), ([7, 8, 6, 6], [6, 7, 8]), ([6], [6]), ([9, 10, 9, 6], [6, 9, 10]), ([6, 11], [6, 11]), ([12, 11, 0, 1, 2, 3, 4, 5, 6, 7, 8, 9, 10, 11, 12], [12])])
def spec_StateLeq.B1 : List Nat := [0, 1, 3, 7, 15, 31, 63, 127, 127, 511, 127, 2047, 4095, 8191]
theorem spec_StateLeq.tab1 : rtab .any (opsOf Try.f33 1) = spec_StateLeq.T1 := by kernel_rfl
theorem spec_StateLeq.bits1 : waitsOk spec_StateLeq.T1.2 spec_StateLeq.B1 = true := by kernel_rfl
set_option maxHeartbeats 8000000 in
set_option maxRecDepth 100000 in
theorem spec_StateLeq.calls (k : Nat) (A0_0 : Option Addr) (c0_0 : Nat) (l0_0 : List (S44)) (A0_1 : Option Addr) (c0_1 : Nat) (l0_1 : List (S58)) (A1_0 : Option Addr) (c1_0 : Nat) (l1_0 : List (S44)) (A1_1 : Option Addr) (c1_1 : Nat) (l1_1 : List (S58)) (r : Bool) (w : World) (hr0_0 : Kd.C k44 w A0_0 l0_0.length l0_0) (hc0_0 : l0_0.length ≤ c0_0) (hr0_1 : Kd.C k58 w A0_1 l0_1.length l0_1) (hc0_1 : l0_1.length ≤ c0_1) (hr1_0 : Kd.C k44 w A1_0 l1_0.length l1_0) (hc1_0 : l1_0.length ≤ c1_0) (hr1_1 : Kd.C k58 w A1_1 l1_1.length l1_1) (hc1_1 : l1_1.length ≤ c1_1) (h : spec_StateLeq.f k l0_0 l0_1 l1_0 l1_1 = some r) :
  Calls Try.prog 33 #[.agg #[.slice A0_0 l0_0.length c0_0, .slice A0_1 l0_1.length c0_1], .agg #[.slice A1_0 l1_0.length c1_0, .slice A1_1 l1_1.length c1_1]] w fun e w' => e = .returned (.bool r) ∧ Below w.heap.size w w' := by
 have hu27 := Try.underlying27; have HR0_0 := zm hr0_0; have HC0_0 := zm hc0_0; clear hr0_0 hc0_0; have HR0_1 := zm hr0_1; have HC0_1 := zm hc0_1; clear hr0_1 hc0_1; have HR1_0 := zm hr1_0; have HC1_0 := zm hc1_0; clear hr1_0 hc1_0; have HR1_1 := zm hr1_1; have HC1_1 := zm hc1_1; clear hr1_1 hc1_1; have HB := zm (Below.refl w.heap.size w); have H : ((spec_StateOk.f k l0_0 l0_1).bind fun AI => (if AI = true then ((spec_StateOk.f k l1_0 l1_1).bind fun AJ => (if AJ = true then ((spec_l3Join.f k l0_0 l0_1 l1_0 l1_1).bind fun AR => ((spec_StateSame.f k AR.1 AR.2 l1_0 l1_1).bind fun AM => (some AM))) else (some false))) else (some false))) = some r := h; clear h; replace H := Option.bind_eq_some_iff.mp H; obtain ⟨AI, AS, H⟩ := H; (try dsimp only at H); have A3 := zm AS; clear AS
 by_cases c4 : AI = true
 ·subst c4; rw [if_pos rfl] at H; replace H := Option.bind_eq_some_iff.mp H; obtain ⟨AJ, AT, H⟩ := H; (try dsimp only at H); have A5 := zm AT; clear AT
  by_cases c6 : AJ = true
  ·subst c6; rw [if_pos rfl] at H; replace H := Option.bind_eq_some_iff.mp H; obtain ⟨⟨AK, AL⟩, AU, H⟩ := H; (try dsimp only at H); have A7 := zm AU; clear AU; replace H := Option.bind_eq_some_iff.mp H; obtain ⟨AM, AV, H⟩ := H; (try dsimp only at H); have A8 := zm AV; clear AV; obtain rfl := Option.some.inj H; go_enter Try.func33, Try.ntmps33
   try go_wp2_with (first | ((with_reducible refine gate_dst (N := 2) rfl ?_); refine zbox 2 #[.slice A0_0 l0_0.length c0_0, .slice A0_1 l0_1.length c0_1] 27 ?_; intro AC hg w9 hbox hb; have AA := zm (hbox); have AP := zge w hg zB; have AN := zge w hg zB; replace HB := zm (below_step zB hb); clear hb hbox hg) | ((with_reducible refine gate_dst (N := 3) rfl ?_); refine zbox 3 #[.slice A1_0 l1_0.length c1_0, .slice A1_1 l1_1.length c1_1] 27 ?_; intro AD hg Aa hbox hb; have AB := zm (hbox); have AQ := zge w hg zB; have AO := zge w hg zB; replace HB := zm (below_step zB hb); have AG := zlt hg (zb AA); have AH := zgt hg (zb AA); replace AA := zy AA hb; clear hb hbox hg))
   replace AA := zq AA; replace AB := zq AB; replace HB := zm (below_drew1 HB.out)
   refine start_ (n := 14) (S := fun w' => w'.cell? ⟨AC, 0, none⟩ = some (.slice A0_0 l0_0.length c0_0) ∧ w'.cell? ⟨AC, 1, none⟩ = some (.slice A0_1 l0_1.length c0_1) ∧ w'.cell? ⟨AD, 0, none⟩ = some (.slice A1_0 l1_0.length c1_0) ∧ w'.cell? ⟨AD, 1, none⟩ = some (.slice A1_1 l1_1.length c1_1)) (ds := []) (zl 14 0) (by kernel_rfl) rfl rfl zS (fun hHeld => ?_); refine with_tabW spec_StateLeq.tab1 spec_StateLeq.bits1 (fun HT_ HW_ => ?_)
   generalize Aa.drew = Ad at AA AB HB hHeld ⊢
   refine zv 0 5 14 1 ?_
   refine zo 1 (some 6) (zl 14 3) (fun K hK => ?_); refine zgo #[.agg #[.slice A0_0 l0_0.length c0_0, .slice A0_1 l0_1.length c0_1]] Try.func17 ?_; (with_reducible refine (spec_StateOk.calls k _ _ l0_0 _ _ l0_1 true _ (zk (Kd.C_below HR0_0.out HB.out)) HC0_0.out (zk (Kd.C_below HR0_1.out HB.out)) HC0_1.out A3.out).mono ?_); rintro e Ae ⟨rfl, hb⟩; refine ⟨_, rfl, ?_⟩; replace AA := zy AA hb; replace AB := zy AB hb; replace HB := zm (below_step zB hb); (try clear hb); refine hK.out _ _ zS (fun hHeld => ?_); clear hK K; refine zn ?_
   refine zu 2 7 14 7 ?_
   refine zv 3 8 14 15 ?_
   refine zo 4 (some 9) (zl 14 31) (fun K hK => ?_); refine zgo #[.agg #[.slice A1_0 l1_0.length c1_0, .slice A1_1 l1_1.length c1_1]] Try.func17 ?_; (with_reducible refine (spec_StateOk.calls k _ _ l1_0 _ _ l1_1 true _ (zk (Kd.C_below HR1_0.out HB.out)) HC1_0.out (zk (Kd.C_below HR1_1.out HB.out)) HC1_1.out A5.out).mono ?_); rintro e Af ⟨rfl, hb⟩; refine ⟨_, rfl, ?_⟩; replace AA := zy AA hb; replace AB := zy AB hb; replace HB := zm (below_step zB hb); (try clear hb); refine hK.out _ _ zS (fun hHeld => ?_); clear hK K; refine zn ?_
   refine zu 5 10 14 63 ?_
   refine zu 6 11 14 127 ?_
   refine zv 7 12 14 255 ?_
   refine zv 8 13 14 511 ?_
   refine zv 10 15 14 1535 ?_
   refine zo 9 (some 14) (zl 14 2047) (fun K hK => ?_); refine zgo #[.agg #[.slice A0_0 l0_0.length c0_0, .slice A0_1 l0_1.length c0_1], .agg #[.slice A1_0 l1_0.length c1_0, .slice A1_1 l1_1.length c1_1]] Try.func70 ?_; (with_reducible refine (spec_l3Join.calls k _ _ l0_0 _ _ l0_1 _ _ l1_0 _ _ l1_1 AK AL _ (zk (Kd.C_below HR0_0.out HB.out)) HC0_0.out (zk (Kd.C_below HR0_1.out HB.out)) HC0_1.out (zk (Kd.C_below HR1_0.out HB.out)) HC1_0.out (zk (Kd.C_below HR1_1.out HB.out)) HC1_1.out A7.out).mono ?_); rintro e Ag ⟨v549, v552, rfl, ho0, ho1, hb⟩; refine ⟨_, rfl, ?_⟩; have AE := zm (Kd.R_lower ho0 (below_size zB)); have AF := zm (Kd.R_lower ho1 (below_size zB)); replace AA := zy AA hb; replace AB := zy AB hb; replace HB := zm (below_step zB hb); (try clear hb); (try clear ho0); (try clear ho1); obtain ⟨AW, AY, eo15⟩ := Kd.R_slice AE.out
   (first | subst eo15 | (injection eo15 with f1_ f2_ f3_; have f4_ := f1_.symm; have f5_ := f3_.symm; clear f1_ f2_ f3_; subst f4_; subst f5_))
   obtain ⟨AX, AZ, eo16⟩ := Kd.R_slice AF.out
   (first | subst eo16 | (injection eo16 with f1_ f2_ f3_; have f4_ := f1_.symm; have f5_ := f3_.symm; clear f1_ f2_ f3_; subst f4_; subst f5_))
   refine hK.out _ _ zS (fun hHeld => ?_); clear hK K; refine zn ?_; refine zo 11 (some 16) (zl 14 4095) (fun K hK => ?_); refine zgo #[.agg #[.slice AW AK.length AY, .slice AX AL.length AZ], .agg #[.slice A1_0 l1_0.length c1_0, .slice A1_1 l1_1.length c1_1]] Try.func15 ?_; (with_reducible refine (spec_StateSame.calls k _ _ AK _ _ AL _ _ l1_0 _ _ l1_1 AM _ ?side1 ?side2 ?side3 ?side4 (zk (Kd.C_below HR1_0.out HB.out)) HC1_0.out (zk (Kd.C_below HR1_1.out HB.out)) HC1_1.out A8.out).mono ?_)
   (case side1 => repeat (first | exact (Kd.R_reads' AE.out).2.2 | (with_reducible refine Kd.C_alloc ?_ _) | (with_reducible refine Kd.C_drewN ?_ _) | (with_reducible refine Kd.C_drew ?_)))
   (case side2 => exact (Kd.R_reads' AE.out).2.1)
   (case side3 => repeat (first | exact (Kd.R_reads' AF.out).2.2 | (with_reducible refine Kd.C_alloc ?_ _) | (with_reducible refine Kd.C_drewN ?_ _) | (with_reducible refine Kd.C_drew ?_)))
   (case side4 => exact (Kd.R_reads' AF.out).2.1)
   rintro e Ah ⟨rfl, hb⟩; refine ⟨_, rfl, ?_⟩; replace AE := zw AE hb; replace AF := zw AF hb; replace AA := zy AA hb; replace AB := zy AB hb; replace HB := zm (below_step zB hb); (try clear hb); refine hK.out _ _ zS (fun hHeld => ?_); clear hK K; refine zn ?_
   refine zu 12 17 14 8191 ?_
   refine zu 13 4 14 16383 ?_
   refine done_ (done_of HT_.out (by kernel_rfl)) ?_
   try go_wp2
   go_ret
   exact ⟨zE, zB⟩
  ·replace c6 := Bool.eq_false_iff.mpr c6; subst c6; rw [zff] at H; obtain rfl := Option.some.inj H; go_enter Try.func33, Try.ntmps33
   try go_wp2_with (first | ((with_reducible refine gate_dst (N := 2) rfl ?_); refine zbox 2 #[.slice A0_0 l0_0.length c0_0, .slice A0_1 l0_1.length c0_1] 27 ?_; intro AC hg Ai hbox hb; have AA := zm (hbox); have AP := zge w hg zB; have AN := zge w hg zB; replace HB := zm (below_step zB hb); clear hb hbox hg) | ((with_reducible refine gate_dst (N := 3) rfl ?_); refine zbox 3 #[.slice A1_0 l1_0.length c1_0, .slice A1_1 l1_1.length c1_1] 27 ?_; intro AD hg Ab hbox hb; have AB := zm (hbox); have AQ := zge w hg zB; have AO := zge w hg zB; replace HB := zm (below_step zB hb); have AG := zlt hg (zb AA); have AH := zgt hg (zb AA); replace AA := zy AA hb; clear hb hbox hg))
   replace AA := zq AA; replace AB := zq AB; replace HB := zm (below_drew1 HB.out)
   refine start_ (n := 14) (S := fun w' => w'.cell? ⟨AC, 0, none⟩ = some (.slice A0_0 l0_0.length c0_0) ∧ w'.cell? ⟨AC, 1, none⟩ = some (.slice A0_1 l0_1.length c0_1) ∧ w'.cell? ⟨AD, 0, none⟩ = some (.slice A1_0 l1_0.length c1_0) ∧ w'.cell? ⟨AD, 1, none⟩ = some (.slice A1_1 l1_1.length c1_1)) (ds := []) (zl 14 0) (by kernel_rfl) rfl rfl zS (fun hHeld => ?_); refine with_tabW spec_StateLeq.tab1 spec_StateLeq.bits1 (fun HT_ HW_ => ?_)
   generalize Ab.drew = Aj at AA AB HB hHeld ⊢
   refine zv 0 5 14 1 ?_
   refine zo 1 (some 6) (zl 14 3) (fun K hK => ?_); refine zgo #[.agg #[.slice A0_0 l0_0.length c0_0, .slice A0_1 l0_1.length c0_1]] Try.func17 ?_; (with_reducible refine (spec_StateOk.calls k _ _ l0_0 _ _ l0_1 true _ (zk (Kd.C_below HR0_0.out HB.out)) HC0_0.out (zk (Kd.C_below HR0_1.out HB.out)) HC0_1.out A3.out).mono ?_); rintro e Ak ⟨rfl, hb⟩; refine ⟨_, rfl, ?_⟩; replace AA := zy AA hb; replace AB := zy AB hb; replace HB := zm (below_step zB hb); (try clear hb); refine hK.out _ _ zS (fun hHeld => ?_); clear hK K; refine zn ?_
   refine zu 2 7 14 7 ?_
   refine zv 3 8 14 15 ?_
   refine zo 4 (some 9) (zl 14 31) (fun K hK => ?_); refine zgo #[.agg #[.slice A1_0 l1_0.length c1_0, .slice A1_1 l1_1.length c1_1]] Try.func17 ?_; (with_reducible refine (spec_StateOk.calls k _ _ l1_0 _ _ l1_1 false _ (zk (Kd.C_below HR1_0.out HB.out)) HC1_0.out (zk (Kd.C_below HR1_1.out HB.out)) HC1_1.out A5.out).mono ?_); rintro e Al ⟨rfl, hb⟩; refine ⟨_, rfl, ?_⟩; replace AA := zy AA hb; replace AB := zy AB hb; replace HB := zm (below_step zB hb); (try clear hb); refine hK.out _ _ zS (fun hHeld => ?_); clear hK K; refine zn ?_
   refine zu 5 10 14 63 ?_
   refine zu 6 11 14 127 ?_
   refine zu 7 12 14 255 ?_
   refine zu 8 13 14 511 ?_
   refine zu 9 14 14 1023 ?_
   refine zu 10 15 14 2047 ?_
   refine zu 11 16 14 4095 ?_
   refine zu 12 17 14 8191 ?_
   refine zu 13 4 14 16383 ?_
   refine done_ (done_of HT_.out (by kernel_rfl)) ?_
   try go_wp2
   go_ret
   exact ⟨zE, zB⟩
 ·replace c4 := Bool.eq_false_iff.mpr c4; subst c4; rw [zff] at H; obtain rfl := Option.some.inj H; go_enter Try.func33, Try.ntmps33
  try go_wp2_with (first | ((with_reducible refine gate_dst (N := 2) rfl ?_); refine zbox 2 #[.slice A0_0 l0_0.length c0_0, .slice A0_1 l0_1.length c0_1] 27 ?_; intro AC hg Am hbox hb; have AA := zm (hbox); have AP := zge w hg zB; have AN := zge w hg zB; replace HB := zm (below_step zB hb); clear hb hbox hg) | ((with_reducible refine gate_dst (N := 3) rfl ?_); refine zbox 3 #[.slice A1_0 l1_0.length c1_0, .slice A1_1 l1_1.length c1_1] 27 ?_; intro AD hg Ac hbox hb; have AB := zm (hbox); have AQ := zge w hg zB; have AO := zge w hg zB; replace HB := zm (below_step zB hb); have AG := zlt hg (zb AA); have AH := zgt hg (zb AA); replace AA := zy AA hb; clear hb hbox hg))
  replace AA := zq AA; replace AB := zq AB; replace HB := zm (below_drew1 HB.out)
  refine start_ (n := 14) (S := fun w' => w'.cell? ⟨AC, 0, none⟩ = some (.slice A0_0 l0_0.length c0_0) ∧ w'.cell? ⟨AC, 1, none⟩ = some (.slice A0_1 l0_1.length c0_1)) (ds := []) (zl 14 0) (by kernel_rfl) rfl rfl zS (fun hHeld => ?_); refine with_tabW spec_StateLeq.tab1 spec_StateLeq.bits1 (fun HT_ HW_ => ?_)
  generalize Ac.drew = An at AA AB HB hHeld ⊢
  refine zv 0 5 14 1 ?_
  refine zo 1 (some 6) (zl 14 3) (fun K hK => ?_); refine zgo #[.agg #[.slice A0_0 l0_0.length c0_0, .slice A0_1 l0_1.length c0_1]] Try.func17 ?_; (with_reducible refine (spec_StateOk.calls k _ _ l0_0 _ _ l0_1 false _ (zk (Kd.C_below HR0_0.out HB.out)) HC0_0.out (zk (Kd.C_below HR0_1.out HB.out)) HC0_1.out A3.out).mono ?_); rintro e Ao ⟨rfl, hb⟩; refine ⟨_, rfl, ?_⟩; replace AA := zy AA hb; replace AB := zy AB hb; replace HB := zm (below_step zB hb); (try clear hb); refine hK.out _ _ zS (fun hHeld => ?_); clear hK K; refine zn ?_
  refine zu 2 7 14 7 ?_
  refine zu 3 8 14 15 ?_
  refine zu 4 9 14 31 ?_
  refine zu 5 10 14 63 ?_
  refine zu 6 11 14 127 ?_
  refine zu 7 12 14 255 ?_
  refine zu 8 13 14 511 ?_
  refine zu 9 14 14 1023 ?_
  refine zu 10 15 14 2047 ?_
  refine zu 11 16 14 4095 ?_
  refine zu 12 17 14 8191 ?_
  refine zu 13 4 14 16383 ?_
  refine done_ (done_of HT_.out (by kernel_rfl)) ?_
  try go_wp2
  go_ret
  exact ⟨zE, zB⟩

end Go.Proofs.Ytnmofppbijmhoaa.P
