-- by a program of this session, for this seat
import Derived.Test.YtomlglpmljngfaaDoorZ
import Derived.Test.YtomlglpmljngfaaDoorP0
import Derived.Test.YtomlglpmljngfaaDoorPau
namespace Go.Proofs.YtomlglpmljngfaaDoor.P
open Go.RowKit Go.Proofs.YtomlglpmljngfaaDoorW.PrintWords Go.Proofs.YtomlglpmljngfaaDoorW.PrintLast Go.Proofs.YtomlglpmljngfaaDoorW.PrintMore Go.Proofs.YtomlglpmljngfaaDoor.Z
attribute [local go_sem] max2_int min2_int max_two min_two max_three min_three max_four min_four   -- for this text's walks alone
set_option linter.unusedVariables false
set_option linter.unusedSimpArgs false

/-! ### spec_DrawStateJoin: function 31 -/
def spec_DrawStateJoin.f (k : Nat) (l0 : List Int) : Option ((List (S63)) × (List (S68)) × (List (S63)) × (List (S68))) := (spec_l3Two.f k l0).bind fun bt703 => (some (bt703.1, bt703.2.1, bt703.2.2.1, bt703.2.2.2))
theorem spec_DrawStateJoin.mono : ∀ a0 k, LeO (spec_DrawStateJoin.f k a0) (spec_DrawStateJoin.f (k + 1) a0) := by
 intro a0 k
 unfold spec_DrawStateJoin.f
 repeat' first | (with_reducible first | exact LeO.refl _ | exact LeO.none _ | refine LeO.ite ?_ ?_ | refine LeO.bind ?_ (fun _ => ?_) | apply spec_l3Two.mono) | apply spec_l3Two.mono | exact LeO.none _ | refine LeO.ite ?_ ?_ | refine LeO.bind ?_ (fun _ => ?_)
set_option maxHeartbeats 8000000 in
set_option maxRecDepth 100000 in
theorem spec_DrawStateJoin.calls (k : Nat) (A0 : Option Addr) (c0 : Nat) (l0 : List Int) (r1 : List (S63)) (r2 : List (S68)) (r3 : List (S63)) (r4 : List (S68)) (w : World) (hr0 : Kd.C (Kd.int .u8) w A0 l0.length l0) (hc0 : l0.length ≤ c0) (h : spec_DrawStateJoin.f k l0 = some (r1, r2, r3, r4)) :
  Calls Tryd.prog 31 #[.slice A0 l0.length c0] w fun e w' => ∃ v0_ v1_ v2_ v3_ : Value, e = .returned (.tuple #[.agg #[v0_, v1_], .agg #[v2_, v3_]]) ∧ Kd.R k63 63 w' w.heap.size (fun k_ => some k_ ≠ (v2_ : Value).ownBlock) v0_ r1 ∧ Kd.R k68 68 w' w.heap.size (fun k_ => some k_ ≠ (v3_ : Value).ownBlock) v1_ r2 ∧ Kd.R k63 63 w' w.heap.size (fun k_ => some k_ ≠ (v0_ : Value).ownBlock) v2_ r3 ∧ Kd.R k68 68 w' w.heap.size (fun k_ => some k_ ≠ (v1_ : Value).ownBlock) v3_ r4 ∧ Below w.heap.size w w' := by
 have hu45 := Tryd.underlying45; have HR0 := zm hr0; have Aa := zm hc0; clear hr0 hc0; have HB := zm (Below.refl w.heap.size w); have H : ((spec_l3Two.f k l0).bind fun AE => (some (AE.1, AE.2.1, AE.2.2.1, AE.2.2.2))) = some (r1, r2, r3, r4) := h; clear h; replace H := Option.bind_eq_some_iff.mp H; obtain ⟨⟨AJ, AK, AL, AM⟩, AP, H⟩ := H; (try dsimp only at H); have A2 := zm AP; clear AP; simp only [Option.some.injEq, Prod.mk.injEq] at H; obtain ⟨rfl, rfl, rfl, rfl⟩ := H; go_enter Tryd.func31, Tryd.ntmps31
 go_wp2_with (first | ((with_reducible refine gate_dst (N := 2) rfl ?_); refine zbox 2 #[.slice none 0 0, .slice none 0 0] 45 ?_; intro AN hg w3 hbox hb; have AA := zm (hbox); have Aj := zge w hg zB; have Ah := zge w hg zB; replace HB := zm (below_step zB hb); clear hb hbox hg) | ((with_reducible refine gate_dst (N := 3) rfl ?_); refine zbox 3 #[.slice none 0 0, .slice none 0 0] 45 ?_; intro AO hg w4 hbox hb; have AB := zm (hbox); have Ak := zge w hg zB; have Ai := zge w hg zB; replace HB := zm (below_step zB hb); have AC := zlt hg (zb AA); have AD := zgt hg (zb AA); replace AA := zy AA hb; clear hb hbox hg) | ((with_reducible refine gate_callee (f := 50) rfl ?_); refine zg (some 5) #[.slice A0 l0.length c0] Tryd.func50 ?_; (with_reducible refine (spec_l3Two.calls k _ _ l0 AJ AK AL AM _ (zk (Kd.C_below HR0.out HB.out)) Aa.out A2.out).mono ?_); rintro e w5 ⟨v704, v707, v710, v713, rfl, ho0, ho1, ho2, ho3, hb⟩; refine ⟨_, rfl, ?_⟩; have AF := zm (Kd.R_lower ho0 (below_size zB)); have AG := zm (Kd.R_lower ho1 (below_size zB)); have AH := zm (Kd.R_lower ho2 (below_size zB)); have AI := zm (Kd.R_lower ho3 (below_size zB)); replace AA := zy AA hb; replace AB := zy AB hb; replace HB := zm (below_step zB hb); clear hb ho0 ho1; (try clear ho2); (try clear ho3); obtain ⟨AY, Ab, eo6⟩ := Kd.R_slice AF.out; subst eo6; have Al := AC.out; have Am := AD.out; obtain ⟨Ad, Ae, Af, Ag⟩ := zc2 AA; obtain ⟨AZ, Ac, eo9⟩ := Kd.R_slice AG.out; subst eo9; obtain ⟨AQ, AS, eo10⟩ := Kd.R_slice AH.out; subst eo10; obtain ⟨AU, AV, AW, AX⟩ := zc2 AB; obtain ⟨AR, AT, eo12⟩ := Kd.R_slice AI.out; subst eo12))
 refine bodyPost_ret (results_cc rfl _ _ AN AO 45 45 #[.slice AY AJ.length Ab, .slice AZ AK.length Ac] #[.slice AQ AL.length AS, .slice AR AM.length AT] (0, 0) (0, 0) _ _ rfl (zfar (zfar (zput (zput (zb AA) 0) 1) AC) AC) Tryd.underlying45 rfl (by kernel_rfl) rfl (zput (zput (zfar (zfar (zb AB) AD) AD) 0) 1) Tryd.underlying45 rfl (by kernel_rfl)) rfl ?_
 exact ⟨_, _, _, _, zE, zrs <| Kd.R_mono (zfr (zfr (zfq (zfq (Kd.R_types (Kd.R_types AF.out AA.out (by decide)) AB.out (by decide)) (fun _ hk => hk.1.2)) (fun _ hk => hk.1.2)))) (fun _ hk => hk.1.1), zrs <| Kd.R_mono (zfr (zfr (zfq (zfq (Kd.R_types (Kd.R_types AG.out AA.out (by decide)) AB.out (by decide)) (fun _ hk => hk.1.2)) (fun _ hk => hk.1.2)))) (fun _ hk => hk.1.1), zrs <| Kd.R_mono (zfr (zfr (zfq (zfq (Kd.R_types (Kd.R_types AH.out AA.out (by decide)) AB.out (by decide)) (fun _ hk => hk.1.2)) (fun _ hk => hk.1.2)))) (fun _ hk => hk.1.1), zrs <| Kd.R_mono (zfr (zfr (zfq (zfq (Kd.R_types (Kd.R_types AI.out AA.out (by decide)) AB.out (by decide)) (fun _ hk => hk.1.2)) (fun _ hk => hk.1.2)))) (fun _ hk => hk.1.1), zB⟩

/-! ### impl_EntryOf: function 55 -/
def impl_EntryOf.l0 : Nat → Int → List (S63) → Int → Int → Option (Int × Int × Int × Int × ByteArray × Bool)
 | 0, _, _, _, _ => none
 | k + 1, x1, x9, x10, x11 => if x11 < x10 then (if 0 ≤ x11 then (if x11 < (x9.length : Int) then (if ((rd_T63 x9 x11).f0) = x1 then (some ((rd_T63 x9 x11).f1.f0, (rd_T63 x9 x11).f1.f1, (rd_T63 x9 x11).f1.f2, (rd_T63 x9 x11).f1.f3, (rd_T63 x9 x11).f1.f4, true)) else (impl_EntryOf.l0 k x1 x9 x10 (wrap64 (x11 + 1)))) else (none)) else (none)) else (some (0, 0, 0, 0, (⟨#[]⟩ : ByteArray), false))
def impl_EntryOf.f (k : Nat) (l0_0 : List (S63)) (l0_1 : List (S68)) (a1 : Int) : Option (Int × Int × Int × Int × ByteArray × Bool) := impl_EntryOf.l0 k a1 l0_0 (l0_0.length : Int) 0
theorem impl_EntryOf.mono_l : ∀ k, (∀ y0 y1 y2 y3, LeO (impl_EntryOf.l0 k y0 y1 y2 y3) (impl_EntryOf.l0 (k + 1) y0 y1 y2 y3))
 | 0 => fun _ _ _ _ r h => by simp [impl_EntryOf.l0] at h
 | k + 1 => by
  have ih0 := impl_EntryOf.mono_l k
  ·intro y0 y1 y2 y3
   unfold impl_EntryOf.l0
   repeat' first | (with_reducible first | exact LeO.refl _ | exact LeO.none _ | refine LeO.ite ?_ ?_ | refine LeO.bind ?_ (fun _ => ?_) | apply ih0) | apply ih0 | exact LeO.none _ | refine LeO.ite ?_ ?_ | refine LeO.bind ?_ (fun _ => ?_)
theorem impl_EntryOf.mono : ∀ a0 a1 a2 k, LeO (impl_EntryOf.f k a0 a1 a2) (impl_EntryOf.f (k + 1) a0 a1 a2) := by
 intro a0 a1 a2 k; have ih0 := impl_EntryOf.mono_l k
 unfold impl_EntryOf.f
 repeat' first | (with_reducible first | exact LeO.refl _ | exact LeO.none _ | refine LeO.ite ?_ ?_ | refine LeO.bind ?_ (fun _ => ?_) | apply ih0) | apply ih0 | exact LeO.none _ | refine LeO.ite ?_ ?_ | refine LeO.bind ?_ (fun _ => ?_)
set_option maxHeartbeats 8000000 in
set_option maxRecDepth 100000 in
theorem impl_EntryOf.calls (k : Nat) (A0_0 : Option Addr) (c0_0 : Nat) (l0_0 : List (S63)) (A0_1 : Option Addr) (c0_1 : Nat) (l0_1 : List (S68)) (a1 : Int) (r1 : Int) (r2 : Int) (r3 : Int) (r4 : Int) (r5 : ByteArray) (r6 : Bool) (w : World) (hr0_0 : Kd.C k63 w A0_0 l0_0.length l0_0) (hc0_0 : l0_0.length ≤ c0_0) (hr0_1 : Kd.C k68 w A0_1 l0_1.length l0_1) (hc0_1 : l0_1.length ≤ c0_1) (h : impl_EntryOf.f k l0_0 l0_1 a1 = some (r1, r2, r3, r4, r5, r6)) :
  Calls Tryd.prog 55 #[.agg #[.slice A0_0 l0_0.length c0_0, .slice A0_1 l0_1.length c0_1], .int .i64 a1] w fun e w' => e = .returned (.tuple #[.agg #[.int .i64 r1, .int .i64 r2, .int .i64 r3, .int .i64 r4, .string r5], .bool r6]) ∧ Below w.heap.size w w' := by
 have hu45 := Tryd.underlying45; have hu28 := Tryd.underlying28; have hu63 := Tryd.underlying63; have HR0_0 := zm hr0_0; have HC0_0 := zm hc0_0; clear hr0_0 hc0_0; have HR0_1 := zm hr0_1; have HC0_1 := zm hc0_1; clear hr0_1 hc0_1; have HB := zm (Below.refl w.heap.size w); have H : (impl_EntryOf.l0 k a1 l0_0 (l0_0.length : Int) 0) = some (r1, r2, r3, r4, r5, r6) := h; clear h
 have H' := zm H
 clear H; go_enter Tryd.func55, Tryd.ntmps55
 go_wp2_with (first | ((with_reducible refine gate_dst (N := 2) rfl ?_); refine zbox 2 #[.slice A0_0 l0_0.length c0_0, .slice A0_1 l0_1.length c0_1] 45 ?_; intro AZ hg w3 hbox hb; have AD := zm (hbox); have BU := zge w hg zB; have BS := zge w hg zB; replace HB := zm (below_step zB hb); clear hb hbox hg) | ((with_reducible refine gate_dst (N := 4) rfl ?_); refine zbox 4 #[.int .i64 0, .int .i64 0, .int .i64 0, .int .i64 0, .string (⟨#[]⟩ : ByteArray)] 28 ?_; intro AQ hg w4 hbox hb; have AE := zm (hbox); have BV := zge w hg zB; have BT := zge w hg zB; replace HB := zm (below_step zB hb); have AF := zlt hg (zb AD); have AG := zgt hg (zb AD); replace AD := zy AD hb; clear hb hbox hg; have Bk := AF.out; have Bl := AG.out; obtain ⟨AR, AS, AT, AU⟩ := zc2 AD))
 go_loopg [11] k (fun kq v11 w' => ∃ (AB : Int) (AJ : Int) (AK : Int) (AL : Int) (AM : Int) (AN : ByteArray), v11 = .int .i64 AB ∧ Aside0 (impl_EntryOf.l0 kq a1 l0_0 (l0_0.length : Int) AB = some (r1, r2, r3, r4, r5, r6)) ∧ Aside0 (kq ≤ k) ∧ Aside0 (w'.heap[AZ]? = some (.cells #[(.slice A0_0 l0_0.length c0_0), (.slice A0_1 l0_1.length c0_1)] 45 (0, 0))) ∧ Aside0 (w'.heap[AQ]? = some (.cells #[.int .i64 AJ, .int .i64 AK, .int .i64 AL, .int .i64 AM, .string AN] 28 (0, 0))) ∧ Aside0 (Below w.heap.size w w'))
 case atStart => exact ⟨(0), (0), (0), (0), (0), ((⟨#[]⟩ : ByteArray)), zF, H', ⟨Nat.le_refl _⟩, ⟨zb AD⟩, ⟨zb AE⟩, ⟨zB⟩⟩
 case round =>
  clear H'; (try clear AR); (try clear AS); (try clear AT); (try clear AU); obtain ⟨AB, AJ, AK, AL, AM, AN, rfl, HA, Ab, AD, AE, HB⟩ := hrel
  cases gk with
  | zero => exact absurd HA.out (by simp [impl_EntryOf.l0])
  | succ k1 =>
   have H := HA.out; clear HA; simp only [impl_EntryOf.l0] at H
   by_cases c7 : AB < (l0_0.length : Int)
   ·rw [if_pos c7] at H; have Ac : decide (AB < (l0_0.length : Int)) = true := decide_eq_true c7; clear c7
    by_cases c8 : 0 ≤ AB
    ·rw [if_pos c8] at H; have Bi : decide (0 ≤ AB) = true := decide_eq_true c8; clear c8
     by_cases c9 : AB < (l0_0.length : Int)
     ·rw [if_pos c9] at H; have Bj : decide (AB < (l0_0.length : Int)) = true := decide_eq_true c9; clear c9
      by_cases AO : ((rd_T63 l0_0 AB).f0) = a1
      ·rw [if_pos AO] at H; have AX : (((rd_T63 l0_0 AB).f0) == a1) = true := beq_iff_eq.mpr AO; have AY : (((rd_T63 l0_0 AB).f0) != a1) = false := bne_eq_false_iff_eq.mpr AO; clear AO; simp only [Option.some.injEq, Prod.mk.injEq] at H; obtain ⟨rfl, rfl, rfl, rfl, rfl, rfl⟩ := H; have p717 : 0 ≤ (AB : Int) := zd; have q717 : AB < (l0_0.length : Int) := zd; obtain ⟨ad717, e717, hx717_0, hx717_1, hx717_2, hx717_3, hx717_4, hx717_5⟩ := at_T63 (Kd.C_below HR0_0.out HB.out) AB p717 q717; cases e717; replace p717 := eq_true p717; replace q717 := eq_true q717
       go_wp2_with (first | ((with_reducible refine gate_dst (N := 7) rfl ?_); refine zbox 7 #[.int .i64 0, .int .i64 0, .int .i64 0, .int .i64 0, .int .i64 0, .string (⟨#[]⟩ : ByteArray)] 63 ?_; intro Aa hg Bm hbox hb; have AP := zm (hbox); have AW := zge w hg zB; have AV := zge w hg zB; replace HB := zm (below_step zB hb); have AC := zlt hg (zb AD); have AH := zgt hg (zb AD); replace AD := zy AD hb; have AA := zlt hg (zb AE); have AI := zgt hg (zb AE); replace AE := zy AE hb; clear hb hbox hg; have BW := AH.out; have Bc := AC.out; have BX := AI.out; have Bd := AA.out; obtain ⟨Ad, Ae, Af, Ag, Ah, Ai, Az, B0, B2, B3, BA, BB⟩ := zc6 AP; have BY := AG.out; have Be := AF.out; obtain ⟨Aj, Ak, Al, Am, An, BC, BD, BE, BF, BG⟩ := zc5 AE))
       refine bodyPost_ret (results_ct rfl _ _ AQ 28 #[.int .i64 ((rd_T63 l0_0 AB).f1.f0), .int .i64 ((rd_T63 l0_0 AB).f1.f1), .int .i64 ((rd_T63 l0_0 AB).f1.f2), .int .i64 ((rd_T63 l0_0 AB).f1.f3), .string ((rd_T63 l0_0 AB).f1.f4)] (0, 0) _ rfl (zput (zput (zput (zput (zput (zfar (zfar (zfar (zfar (zfar (zfar (zb AE) AA) AA) AA) AA) AA) AA) 0) 1) 2) 3) 4) Tryd.underlying28 rfl (by kernel_rfl)) rfl ?_
       exact ⟨zE, zB⟩
      ·rw [if_neg AO] at H; have AX : (((rd_T63 l0_0 AB).f0) == a1) = false := beq_eq_false_iff_ne.mpr AO; have AY : (((rd_T63 l0_0 AB).f0) != a1) = true := bne_iff_ne.mpr AO
       have H' := zm H
       clear H; have p717 : 0 ≤ (AB : Int) := zd; have q717 : AB < (l0_0.length : Int) := zd; obtain ⟨ad717, e717, hx717_0, hx717_1, hx717_2, hx717_3, hx717_4, hx717_5⟩ := at_T63 (Kd.C_below HR0_0.out HB.out) AB p717 q717; cases e717; replace p717 := eq_true p717; replace q717 := eq_true q717
       go_wp2_with (first | ((with_reducible refine gate_dst (N := 7) rfl ?_); refine zbox 7 #[.int .i64 0, .int .i64 0, .int .i64 0, .int .i64 0, .int .i64 0, .string (⟨#[]⟩ : ByteArray)] 63 ?_; intro Aa hg Bn hbox hb; have AP := zm (hbox); have AW := zge w hg zB; have AV := zge w hg zB; replace HB := zm (below_step zB hb); have AC := zlt hg (zb AD); have AH := zgt hg (zb AD); replace AD := zy AD hb; have AA := zlt hg (zb AE); have AI := zgt hg (zb AE); replace AE := zy AE hb; clear hb hbox hg; have BZ := AH.out; have Bf := AC.out; have Ba := AI.out; have Bg := AA.out; obtain ⟨Ao, Ap, Aq, Ar, As, At, BH, BI, BJ, BK, BL, BM⟩ := zc6 AP))
       go_roundg k1
       case measure => have := Ab.out; omega
       case rel => exact ⟨(wrap64 (AB + 1)), (AJ), (AK), (AL), (AM), (AN), zF, H', ⟨by have := Ab.out; omega⟩, ⟨zfar (zfar (zfar (zfar (zfar (zfar (zb AD) AC) AC) AC) AC) AC) AC⟩, ⟨zfar (zfar (zfar (zfar (zfar (zfar (zb AE) AA) AA) AA) AA) AA) AA⟩, ⟨zB⟩⟩
     ·rw [if_neg c9] at H
      exact absurd H (by simp)
    ·rw [if_neg c8] at H
     exact absurd H (by simp)
   ·rw [if_neg c7] at H; have Ac : decide (AB < (l0_0.length : Int)) = false := decide_eq_false c7; clear c7; simp only [Option.some.injEq, Prod.mk.injEq] at H; obtain ⟨rfl, rfl, rfl, rfl, rfl, rfl⟩ := H; have Bb := AG.out; have Bh := AF.out; obtain ⟨Au, Av, Aw, Ax, Ay, BN, BO, BP, BQ, BR⟩ := zc5 AE
    go_wp2
    refine bodyPost_ret (results_ct rfl _ _ AQ 28 #[.int .i64 0, .int .i64 0, .int .i64 0, .int .i64 0, .string (⟨#[]⟩ : ByteArray)] (0, 0) _ rfl (zput (zput (zput (zput (zput (zb AE) 0) 1) 2) 3) 4) Tryd.underlying28 rfl (by kernel_rfl)) rfl ?_
    exact ⟨zE, zB⟩

/-! ### cmp_Or_int: function 117 -/
def cmp_Or_int.l0 : Nat → Int → List Int → Int → Int → Option (Int)
 | 0, _, _, _, _ => none
 | k + 1, x3, x6, x7, x8 => if x8 < x7 then (if 0 ≤ x8 then (if x8 < (x6.length : Int) then (if (rd x6 x8) = x3 then (cmp_Or_int.l0 k x3 x6 x7 (wrap64 (x8 + 1))) else (some (rd x6 x8))) else (none)) else (none)) else (some x3)
def cmp_Or_int.f (k : Nat) (l0 : List Int) : Option (Int) := cmp_Or_int.l0 k 0 l0 (l0.length : Int) 0
theorem cmp_Or_int.mono_l : ∀ k, (∀ y0 y1 y2 y3, LeO (cmp_Or_int.l0 k y0 y1 y2 y3) (cmp_Or_int.l0 (k + 1) y0 y1 y2 y3))
 | 0 => fun _ _ _ _ r h => by simp [cmp_Or_int.l0] at h
 | k + 1 => by
  have ih0 := cmp_Or_int.mono_l k
  ·intro y0 y1 y2 y3
   unfold cmp_Or_int.l0
   repeat' first | (with_reducible first | exact LeO.refl _ | exact LeO.none _ | refine LeO.ite ?_ ?_ | refine LeO.bind ?_ (fun _ => ?_) | apply ih0) | apply ih0 | exact LeO.none _ | refine LeO.ite ?_ ?_ | refine LeO.bind ?_ (fun _ => ?_)
theorem cmp_Or_int.mono : ∀ a0 k, LeO (cmp_Or_int.f k a0) (cmp_Or_int.f (k + 1) a0) := by
 intro a0 k; have ih0 := cmp_Or_int.mono_l k
 unfold cmp_Or_int.f
 repeat' first | (with_reducible first | exact LeO.refl _ | exact LeO.none _ | refine LeO.ite ?_ ?_ | refine LeO.bind ?_ (fun _ => ?_) | apply ih0) | apply ih0 | exact LeO.none _ | refine LeO.ite ?_ ?_ | refine LeO.bind ?_ (fun _ => ?_)
set_option maxHeartbeats 8000000 in
set_option maxRecDepth 100000 in
theorem cmp_Or_int.calls (k : Nat) (A0 : Option Addr) (c0 : Nat) (l0 : List Int) (r : Int) (w : World) (hr0 : Kd.C (Kd.int .i64) w A0 l0.length l0) (hc0 : l0.length ≤ c0) (h : cmp_Or_int.f k l0 = some r) :
  Calls Tryd.prog 117 #[.slice A0 l0.length c0] w fun e w' => e = .returned (.int .i64 r) ∧ Drawn0 w w' := by
 have HR0 := zm hr0; have AH := zm hc0; clear hr0 hc0; have H : (cmp_Or_int.l0 k 0 l0 (l0.length : Int) 0) = some r := h; clear h
 have H' := zm H
 clear H; go_enter Tryd.func117, Tryd.ntmps117
 go_wp2
 go_loopg [8] k (fun kq v8 w' => ∃ (AA : Int), v8 = .int .i64 AA ∧ Aside0 (cmp_Or_int.l0 kq 0 l0 (l0.length : Int) AA = some r) ∧ Aside0 (kq ≤ k) ∧ Drawn0 w w')
 case atStart => exact ⟨(0), zF, H', ⟨Nat.le_refl _⟩, zD⟩
 case round =>
  clear H'; obtain ⟨AA, rfl, HA, AB, ⟨m1, rfl⟩⟩ := hrel
  cases gk with
  | zero => exact absurd HA.out (by simp [cmp_Or_int.l0])
  | succ k1 =>
   have H := HA.out; clear HA; simp only [cmp_Or_int.l0] at H
   by_cases c2 : AA < (l0.length : Int)
   ·rw [if_pos c2] at H; have AC : decide (AA < (l0.length : Int)) = true := decide_eq_true c2; clear c2
    by_cases c3 : 0 ≤ AA
    ·rw [if_pos c3] at H; have AF : decide (0 ≤ AA) = true := decide_eq_true c3; clear c3
     by_cases c4 : AA < (l0.length : Int)
     ·rw [if_pos c4] at H; have AG : decide (AA < (l0.length : Int)) = true := decide_eq_true c4; clear c4
      by_cases c5 : (rd l0 AA) = 0
      ·rw [if_pos c5] at H; have AD : ((rd l0 AA) == 0) = true := beq_iff_eq.mpr c5; have AE : ((rd l0 AA) != 0) = false := bne_eq_false_iff_eq.mpr c5; clear c5
       have H' := zm H
       clear H; have p719 : 0 ≤ (AA : Int) := zd; have q719 : AA < (l0.length : Int) := zd; obtain ⟨ad719, e719, hx719_0⟩ := Kd.at_int HR0.out AA p719 q719; cases e719; replace p719 := eq_true p719; replace q719 := eq_true q719
       go_wp2
       go_roundg k1
       case measure => have := AB.out; omega
       case rel => exact ⟨(wrap64 (AA + 1)), zF, H', ⟨by have := AB.out; omega⟩, zD⟩
      ·rw [if_neg c5] at H; have AD : ((rd l0 AA) == 0) = false := beq_eq_false_iff_ne.mpr c5; have AE : ((rd l0 AA) != 0) = true := bne_iff_ne.mpr c5; obtain rfl := Option.some.inj H; have p719 : 0 ≤ (AA : Int) := zd; have q719 : AA < (l0.length : Int) := zd; obtain ⟨ad719, e719, hx719_0⟩ := Kd.at_int HR0.out AA p719 q719; cases e719; replace p719 := eq_true p719; replace q719 := eq_true q719
       go_wp2
       go_ret
       exact ⟨zF, zD⟩
     ·rw [if_neg c4] at H
      exact absurd H (by simp)
    ·rw [if_neg c3] at H
     exact absurd H (by simp)
   ·rw [if_neg c2] at H; have AC : decide (AA < (l0.length : Int)) = false := decide_eq_false c2; clear c2; obtain rfl := Option.some.inj H
    go_wp2
    go_ret
    exact ⟨zF, zD⟩

/-! ### cmp_isNaN_int: function 133 -/
def cmp_isNaN_int.f (a0 : Int) : Option (Bool) := some (a0 != a0)
set_option maxHeartbeats 8000000 in
set_option maxRecDepth 100000 in
theorem cmp_isNaN_int.calls (a0 : Int) (r : Bool) (w : World) (h : cmp_isNaN_int.f a0 = some r) :
  Calls Tryd.prog 133 #[.int .i64 a0] w fun e w' => e = .returned (.bool r) ∧ Drawn0 w w' := by
 have H : (some (a0 != a0)) = some r := h; clear h; obtain rfl := Option.some.inj H; go_enter Tryd.func133, Tryd.ntmps133
 go_wp2
 go_ret
 exact ⟨zF, zD⟩

/-! ### cmp_Compare_int: function 118 -/
def cmp_Compare_int.f (a0 : Int) (a1 : Int) : Option (Int) := (cmp_isNaN_int.f a0).bind fun t720 => ((cmp_isNaN_int.f a1).bind fun t721 => (if t720 = true then (if t721 = true then (some 0) else (some (-1))) else (if t721 = true then (some 1) else (if a0 < a1 then (some (-1)) else (if a0 > a1 then (some 1) else (some 0))))))
set_option maxHeartbeats 8000000 in
set_option maxRecDepth 100000 in
theorem cmp_Compare_int.calls (a0 : Int) (a1 : Int) (r : Int) (w : World) (h : cmp_Compare_int.f a0 a1 = some r) :
  Calls Tryd.prog 118 #[.int .i64 a0, .int .i64 a1] w fun e w' => e = .returned (.int .i64 r) ∧ Drawn0 w w' := by
 have H : ((cmp_isNaN_int.f a0).bind fun AB => ((cmp_isNaN_int.f a1).bind fun AA => (if AB = true then (if AA = true then (some 0) else (some (-1))) else (if AA = true then (some 1) else (if a0 < a1 then (some (-1)) else (if a0 > a1 then (some 1) else (some 0))))))) = some r := h; clear h; replace H := Option.bind_eq_some_iff.mp H; obtain ⟨AB, AC, H⟩ := H; (try dsimp only at H); have A3 := zm AC; clear AC; replace H := Option.bind_eq_some_iff.mp H; obtain ⟨AA, AD, H⟩ := H; (try dsimp only at H); have A4 := zm AD; clear AD
 by_cases c5 : AB = true
 ·subst c5; rw [if_pos rfl] at H
  by_cases c6 : AA = true
  ·subst c6; rw [if_pos rfl] at H; obtain rfl := Option.some.inj H; go_enter Tryd.func118, Tryd.ntmps118
   go_wp2_with (first | ((with_reducible refine gate_callee (f := 133) rfl ?_); refine zg (some 8) #[.int .i64 a0] Tryd.func133 ?_; (with_reducible refine (cmp_isNaN_int.calls a0 true _ A3.out).mono ?_); rintro e w' ⟨rfl, ⟨nd, rfl⟩⟩; refine ⟨_, rfl, ?_⟩) | ((with_reducible refine gate_callee (f := 133) rfl ?_); refine zg (some 10) #[.int .i64 a1] Tryd.func133 ?_; (with_reducible refine (cmp_isNaN_int.calls a1 true _ A4.out).mono ?_); rintro e w' ⟨rfl, ⟨nd, rfl⟩⟩; refine ⟨_, rfl, ?_⟩))
   go_ret
   exact ⟨zF, zD⟩
  ·replace c6 := Bool.eq_false_iff.mpr c6; subst c6; rw [zff] at H; obtain rfl := Option.some.inj H; go_enter Tryd.func118, Tryd.ntmps118
   go_wp2_with (first | ((with_reducible refine gate_callee (f := 133) rfl ?_); refine zg (some 8) #[.int .i64 a0] Tryd.func133 ?_; (with_reducible refine (cmp_isNaN_int.calls a0 true _ A3.out).mono ?_); rintro e w' ⟨rfl, ⟨nd, rfl⟩⟩; refine ⟨_, rfl, ?_⟩) | ((with_reducible refine gate_callee (f := 133) rfl ?_); refine zg (some 10) #[.int .i64 a1] Tryd.func133 ?_; (with_reducible refine (cmp_isNaN_int.calls a1 false _ A4.out).mono ?_); rintro e w' ⟨rfl, ⟨nd, rfl⟩⟩; refine ⟨_, rfl, ?_⟩))
   go_ret
   exact ⟨zF, zD⟩
 ·replace c5 := Bool.eq_false_iff.mpr c5; subst c5; rw [zff] at H
  by_cases c7 : AA = true
  ·subst c7; rw [if_pos rfl] at H; obtain rfl := Option.some.inj H; go_enter Tryd.func118, Tryd.ntmps118
   go_wp2_with (first | ((with_reducible refine gate_callee (f := 133) rfl ?_); refine zg (some 8) #[.int .i64 a0] Tryd.func133 ?_; (with_reducible refine (cmp_isNaN_int.calls a0 false _ A3.out).mono ?_); rintro e w' ⟨rfl, ⟨nd, rfl⟩⟩; refine ⟨_, rfl, ?_⟩) | ((with_reducible refine gate_callee (f := 133) rfl ?_); refine zg (some 10) #[.int .i64 a1] Tryd.func133 ?_; (with_reducible refine (cmp_isNaN_int.calls a1 true _ A4.out).mono ?_); rintro e w' ⟨rfl, ⟨nd, rfl⟩⟩; refine ⟨_, rfl, ?_⟩))
   go_ret
   exact ⟨zF, zD⟩
  ·replace c7 := Bool.eq_false_iff.mpr c7; subst c7; rw [zff] at H
   by_cases c8 : a0 < a1
   ·rw [if_pos c8] at H; have AE : decide (a0 < a1) = true := decide_eq_true c8; clear c8; obtain rfl := Option.some.inj H; go_enter Tryd.func118, Tryd.ntmps118
    go_wp2_with (first | ((with_reducible refine gate_callee (f := 133) rfl ?_); refine zg (some 8) #[.int .i64 a0] Tryd.func133 ?_; (with_reducible refine (cmp_isNaN_int.calls a0 false _ A3.out).mono ?_); rintro e w' ⟨rfl, ⟨nd, rfl⟩⟩; refine ⟨_, rfl, ?_⟩) | ((with_reducible refine gate_callee (f := 133) rfl ?_); refine zg (some 10) #[.int .i64 a1] Tryd.func133 ?_; (with_reducible refine (cmp_isNaN_int.calls a1 false _ A4.out).mono ?_); rintro e w' ⟨rfl, ⟨nd, rfl⟩⟩; refine ⟨_, rfl, ?_⟩))
    go_ret
    exact ⟨zF, zD⟩
   ·rw [if_neg c8] at H; have AE : decide (a0 < a1) = false := decide_eq_false c8; clear c8
    by_cases c9 : a0 > a1
    ·rw [if_pos c9] at H; have AF : decide (a1 < a0) = true := decide_eq_true c9; clear c9; obtain rfl := Option.some.inj H; go_enter Tryd.func118, Tryd.ntmps118
     go_wp2_with (first | ((with_reducible refine gate_callee (f := 133) rfl ?_); refine zg (some 8) #[.int .i64 a0] Tryd.func133 ?_; (with_reducible refine (cmp_isNaN_int.calls a0 false _ A3.out).mono ?_); rintro e w' ⟨rfl, ⟨nd, rfl⟩⟩; refine ⟨_, rfl, ?_⟩) | ((with_reducible refine gate_callee (f := 133) rfl ?_); refine zg (some 10) #[.int .i64 a1] Tryd.func133 ?_; (with_reducible refine (cmp_isNaN_int.calls a1 false _ A4.out).mono ?_); rintro e w' ⟨rfl, ⟨nd, rfl⟩⟩; refine ⟨_, rfl, ?_⟩))
     go_ret
     exact ⟨zF, zD⟩
    ·rw [if_neg c9] at H; have AF : decide (a1 < a0) = false := decide_eq_false c9; clear c9; obtain rfl := Option.some.inj H; go_enter Tryd.func118, Tryd.ntmps118
     go_wp2_with (first | ((with_reducible refine gate_callee (f := 133) rfl ?_); refine zg (some 8) #[.int .i64 a0] Tryd.func133 ?_; (with_reducible refine (cmp_isNaN_int.calls a0 false _ A3.out).mono ?_); rintro e w' ⟨rfl, ⟨nd, rfl⟩⟩; refine ⟨_, rfl, ?_⟩) | ((with_reducible refine gate_callee (f := 133) rfl ?_); refine zg (some 10) #[.int .i64 a1] Tryd.func133 ?_; (with_reducible refine (cmp_isNaN_int.calls a1 false _ A4.out).mono ?_); rintro e w' ⟨rfl, ⟨nd, rfl⟩⟩; refine ⟨_, rfl, ?_⟩))
     go_ret
     exact ⟨zF, zD⟩

/-! ### strings_Compare: function 119 -/
def strings_Compare.f (a0 : ByteArray) (a1 : ByteArray) : Option (Int) := some (Lib.compareBytes a0.data.toList a1.data.toList)
theorem strings_Compare.calls (a0 : ByteArray) (a1 : ByteArray) (r : Int) (w : World) (h : strings_Compare.f a0 a1 = some r) :
  Calls Tryd.prog 119 #[.string a0, .string a1] w fun e w' => e = .returned (.int .i64 r) ∧ Drawn0 w w' := by
 refine (Go.Proofs.YtomlglpmljngfaaDoor.HandCmp.strings_Compare a0 a1 w).mono ?_
 rintro e w' ⟨rfl, rfl⟩
 exact ⟨by rw [Option.some.inj h], Drawn0.refl _⟩

/-! ### impl_EntryCmp: function 99 -/
def impl_EntryCmp.f (k : Nat) (a0_0 : Int) (a0_1 : Int) (a0_2 : Int) (a0_3 : Int) (a0_4 : ByteArray) (a1_0 : Int) (a1_1 : Int) (a1_2 : Int) (a1_3 : Int) (a1_4 : ByteArray) : Option (Int) := (cmp_Compare_int.f a0_0 a1_0).bind fun t724 => ((cmp_Compare_int.f a0_1 a1_1).bind fun t725 => ((cmp_Compare_int.f a0_2 a1_2).bind fun t726 => ((cmp_Compare_int.f a0_3 a1_3).bind fun t727 => ((strings_Compare.f a0_4 a1_4).bind fun t728 => ((cmp_Or_int.f k (([t724, t725, t726, t727, t728] : List Int))).bind fun t732 => (some t732))))))
theorem impl_EntryCmp.mono : ∀ a0 a1 a2 a3 a4 a5 a6 a7 a8 a9 k, LeO (impl_EntryCmp.f k a0 a1 a2 a3 a4 a5 a6 a7 a8 a9) (impl_EntryCmp.f (k + 1) a0 a1 a2 a3 a4 a5 a6 a7 a8 a9) := by
 intro a0 a1 a2 a3 a4 a5 a6 a7 a8 a9 k
 unfold impl_EntryCmp.f
 repeat' first | (with_reducible first | exact LeO.refl _ | exact LeO.none _ | refine LeO.ite ?_ ?_ | refine LeO.bind ?_ (fun _ => ?_) | apply cmp_Or_int.mono) | apply cmp_Or_int.mono | exact LeO.none _ | refine LeO.ite ?_ ?_ | refine LeO.bind ?_ (fun _ => ?_)
def impl_EntryCmp.T1 : Bool × List (List Nat × List Nat) := (true, [([], []), ([0], [0]), ([], []), ([2], [2]), ([1, 3], [1, 3]), ([], []), ([5], [5]), ([], []), ([7], [7]), ([6, 8, 4], [6, 8]), ([], []), ([10], [10]), ([], []), ([12], [12]), ([11, 13, 9], [11, 13]), ([], []), ([15], [15]), ([], []), ([17], [17]), ([16, 18, 14], [16, 18]), ([], []), ([20], [20]), ([], []), ([22], [22]), ([21, 23, 19], [21, 23]), ([4, 9, 14, 19, 24], [4, 9, 14, 19, 24]), ([25, 24], [25]), ([26, 26, 0, 1, 2, 3, 4, 5, 6, 7, 8, 9, 10, 11, 12, 13, 14, 15, 16, 17, 18, 19, 20, 21, 22, 23, 24, 25, 26], [26])])
def impl_EntryCmp.B1 : List Nat := [0, 1, 0, 4, 15, 0, 32, 0, 128, 511, 0, 1024, 0, 4096, 16383, 0, 32768, 0, 131072, 524287, 0, 1048576, 0, 4194304, 16777215, 33554431, 67108863, 134217727]
theorem impl_EntryCmp.tab1 : rtab .any (opsOf Tryd.f99 1) = impl_EntryCmp.T1 := by kernel_rfl
theorem impl_EntryCmp.bits1 : waitsOk impl_EntryCmp.T1.2 impl_EntryCmp.B1 = true := by kernel_rfl
set_option maxHeartbeats 8000000 in
set_option maxRecDepth 100000 in
theorem impl_EntryCmp.calls (k : Nat) (a0_0 : Int) (a0_1 : Int) (a0_2 : Int) (a0_3 : Int) (a0_4 : ByteArray) (a1_0 : Int) (a1_1 : Int) (a1_2 : Int) (a1_3 : Int) (a1_4 : ByteArray) (r : Int) (w : World) (h : impl_EntryCmp.f k a0_0 a0_1 a0_2 a0_3 a0_4 a1_0 a1_1 a1_2 a1_3 a1_4 = some r) :
  Calls Tryd.prog 99 #[.agg #[.int .i64 a0_0, .int .i64 a0_1, .int .i64 a0_2, .int .i64 a0_3, .string a0_4], .agg #[.int .i64 a1_0, .int .i64 a1_1, .int .i64 a1_2, .int .i64 a1_3, .string a1_4]] w fun e w' => e = .returned (.int .i64 r) ∧ Below w.heap.size w w' := by
 have hu28 := Tryd.underlying28; have HB := zm (Below.refl w.heap.size w); have H : ((cmp_Compare_int.f a0_0 a1_0).bind fun AB => ((cmp_Compare_int.f a0_1 a1_1).bind fun AC => ((cmp_Compare_int.f a0_2 a1_2).bind fun AD => ((cmp_Compare_int.f a0_3 a1_3).bind fun AE => ((strings_Compare.f a0_4 a1_4).bind fun AF => ((cmp_Or_int.f k (([AB, AC, AD, AE, AF] : List Int))).bind fun AJ => (some AJ))))))) = some r := h; clear h; replace H := Option.bind_eq_some_iff.mp H; obtain ⟨AB, AL, H⟩ := H; (try dsimp only at H); have A3 := zm AL; clear AL; replace H := Option.bind_eq_some_iff.mp H; obtain ⟨AC, AM, H⟩ := H; (try dsimp only at H); have A4 := zm AM; clear AM; replace H := Option.bind_eq_some_iff.mp H; obtain ⟨AD, AN, H⟩ := H; (try dsimp only at H); have A5 := zm AN; clear AN; replace H := Option.bind_eq_some_iff.mp H; obtain ⟨AE, AO, H⟩ := H; (try dsimp only at H); have A6 := zm AO; clear AO; replace H := Option.bind_eq_some_iff.mp H; obtain ⟨AF, AP, H⟩ := H; (try dsimp only at H); have A7 := zm AP; clear AP
 obtain ⟨y729, hy729⟩ : ∃ y_ : List Int, y_ = (([AB, AC, AD, AE, AF] : List Int)) := ⟨_, rfl⟩
 replace H : ((cmp_Or_int.f k y729).bind fun AJ => (some AJ)) = some r := by first | (rw [hy729]; with_reducible exact H) | (have H2_ := (Option.bind_some _ _).symm.trans H; rw [hy729]; with_reducible exact H2_) | (have H2_ := (Option.bind_some _ _).symm.trans H; with_reducible exact H2_) | with_reducible exact H | (rw [hy729]; exact H) | exact H
 have Ny729 := zm hy729; clear hy729; replace H := Option.bind_eq_some_iff.mp H; obtain ⟨AJ, AQ, H⟩ := H; (try dsimp only at H); have A8 := zm AQ; clear AQ; obtain rfl := Option.some.inj H; go_enter Tryd.func99, Tryd.ntmps99
 try go_wp2_with (first | ((with_reducible refine gate_dst (N := 2) rfl ?_); refine zbox 2 #[.int .i64 a0_0, .int .i64 a0_1, .int .i64 a0_2, .int .i64 a0_3, .string a0_4] 28 ?_; intro AH hg w9 hbox hb; have AA := zm (hbox); have AY := zge w hg zB; have AW := zge w hg zB; replace HB := zm (below_step zB hb); clear hb hbox hg) | ((with_reducible refine gate_dst (N := 3) rfl ?_); refine zbox 3 #[.int .i64 a1_0, .int .i64 a1_1, .int .i64 a1_2, .int .i64 a1_3, .string a1_4] 28 ?_; intro AI hg AV hbox hb; have AG := zm (hbox); have AZ := zge w hg zB; have AX := zge w hg zB; replace HB := zm (below_step zB hb); have AR := zlt hg (zb AA); have AS := zgt hg (zb AA); replace AA := zy AA hb; clear hb hbox hg))
 replace AA := zq AA; replace AG := zq AG; replace HB := zm (below_drew1 HB.out)
 refine start_ (n := 28) (S := fun w' => w'.cell? ⟨AH, 0, none⟩ = some (.int .i64 a0_0) ∧ w'.cell? ⟨AH, 1, none⟩ = some (.int .i64 a0_1) ∧ w'.cell? ⟨AH, 2, none⟩ = some (.int .i64 a0_2) ∧ w'.cell? ⟨AH, 3, none⟩ = some (.int .i64 a0_3) ∧ w'.cell? ⟨AH, 4, none⟩ = some (.string a0_4) ∧ w'.cell? ⟨AI, 0, none⟩ = some (.int .i64 a1_0) ∧ w'.cell? ⟨AI, 1, none⟩ = some (.int .i64 a1_1) ∧ w'.cell? ⟨AI, 2, none⟩ = some (.int .i64 a1_2) ∧ w'.cell? ⟨AI, 3, none⟩ = some (.int .i64 a1_3) ∧ w'.cell? ⟨AI, 4, none⟩ = some (.string a1_4)) (ds := []) (zl 28 0) (by kernel_rfl) rfl rfl zS (fun hHeld => ?_); refine with_tabW impl_EntryCmp.tab1 impl_EntryCmp.bits1 (fun HT_ HW_ => ?_)
 generalize AV.drew = Aa at AA AG HB hHeld ⊢
 refine zu 0 5 28 1 ?_
 refine zu 2 7 28 5 ?_
 refine zu 5 10 28 37 ?_
 refine zu 7 12 28 165 ?_
 refine zu 10 15 28 1189 ?_
 refine zu 12 17 28 5285 ?_
 refine zu 15 20 28 38053 ?_
 refine zu 17 22 28 169125 ?_
 refine zu 20 25 28 1217701 ?_
 refine zu 22 27 28 5412005 ?_
 refine zv 1 6 28 5412007 ?_
 refine zv 3 8 28 5412015 ?_
 refine zv 6 11 28 5412079 ?_
 refine zv 8 13 28 5412335 ?_
 refine zv 11 16 28 5414383 ?_
 refine zv 13 18 28 5422575 ?_
 refine zv 16 21 28 5488111 ?_
 refine zv 18 23 28 5750255 ?_
 refine zv 21 26 28 7847407 ?_
 refine zv 23 28 28 16236015 ?_
 refine zo 4 (some 9) (zl 28 16236031) (fun K hK => ?_); refine zgo #[.int .i64 a0_0, .int .i64 a1_0] Tryd.func118 ?_; (with_reducible refine (cmp_Compare_int.calls a0_0 a1_0 AB _ A3.out).mono ?_); rintro e w' ⟨rfl, ⟨nd, rfl⟩⟩; refine ⟨_, rfl, ?_⟩; refine hK.out _ _ zS (fun hHeld => ?_); clear hK K; refine zn ?_; refine zo 9 (some 14) (zl 28 16236543) (fun K hK => ?_); refine zgo #[.int .i64 a0_1, .int .i64 a1_1] Tryd.func118 ?_; (with_reducible refine (cmp_Compare_int.calls a0_1 a1_1 AC _ A4.out).mono ?_); rintro e w' ⟨rfl, ⟨nd, rfl⟩⟩; refine ⟨_, rfl, ?_⟩; refine hK.out _ _ zS (fun hHeld => ?_); clear hK K; refine zn ?_; refine zo 14 (some 19) (zl 28 16252927) (fun K hK => ?_); refine zgo #[.int .i64 a0_2, .int .i64 a1_2] Tryd.func118 ?_; (with_reducible refine (cmp_Compare_int.calls a0_2 a1_2 AD _ A5.out).mono ?_); rintro e w' ⟨rfl, ⟨nd, rfl⟩⟩; refine ⟨_, rfl, ?_⟩; refine hK.out _ _ zS (fun hHeld => ?_); clear hK K; refine zn ?_; refine zo 19 (some 24) (zl 28 16777215) (fun K hK => ?_); refine zgo #[.int .i64 a0_3, .int .i64 a1_3] Tryd.func118 ?_; (with_reducible refine (cmp_Compare_int.calls a0_3 a1_3 AE _ A6.out).mono ?_); rintro e w' ⟨rfl, ⟨nd, rfl⟩⟩; refine ⟨_, rfl, ?_⟩; refine hK.out _ _ zS (fun hHeld => ?_); clear hK K; refine zn ?_; refine zo 24 (some 29) (zl 28 33554431) (fun K hK => ?_); refine zgo #[.string a0_4, .string a1_4] Tryd.func119 ?_; (with_reducible refine (strings_Compare.calls a0_4 a1_4 AF _ A7.out).mono ?_); rintro e w' ⟨rfl, ⟨nd, rfl⟩⟩; refine ⟨_, rfl, ?_⟩
 refine hK.out _ _ zS (fun hHeld => ?_); clear hK K; refine zn ?_; refine zo 25 (some 30) (zl 28 67108863) (fun K hK => ?_)
 refine Kd.R_lit_step (Kd.int .i64) _ 3 ?hg (N := 30) ?hd (xs := ([AB, AC, AD, AE, AF] : List Int)) (inner := [.int .i64 AB, .int .i64 AC, .int .i64 AD, .int .i64 AE, .int .i64 AF]) (ok := fun _ => True) (okp := fun _ => True) ?hr ?hp (fun _ hk => hk) trivial (Below.refl _ _) (Nat.le_refl _) (by simp) ?_; (case hd => rfl); (case hg => rfl); (case hr => first | (go_simp; done) | (go_simp; rfl)); (case hp => exact (Reps.one (show Kd.M (Kd.int .i64) _ _ _ AB [.int .i64 AB] from rfl) (Reps.one (show Kd.M (Kd.int .i64) _ _ _ AC [.int .i64 AC] from rfl) (Reps.one (show Kd.M (Kd.int .i64) _ _ _ AD [.int .i64 AD] from rfl) (Reps.one (show Kd.M (Kd.int .i64) _ _ _ AE [.int .i64 AE] from rfl) (Reps.one (show Kd.M (Kd.int .i64) _ _ _ AF [.int .i64 AF] from rfl) (Reps.none _ _)))))))
 intro v730 Ab ho13 hb hg_ hnew_; clear hg_ hnew_
 (first | rw [← Ny729.out] at ho13 | (simp only [Int.reduceToNat] at ho13; rw [← Ny729.out] at ho13))
 have AK := zm (Kd.R_lower ho13 (below_size zB)); replace AA := zy AA hb; replace AG := zy AG hb; replace HB := zm (below_step zB hb); clear hb ho13; obtain ⟨AT, AU, eo14⟩ := Kd.R_slice AK.out
 (first | subst eo14 | (injection eo14 with f1_ f2_ f3_; have f4_ := f1_.symm; have f5_ := f3_.symm; clear f1_ f2_ f3_; subst f4_; subst f5_))
 refine hK.out _ _ zS (fun hHeld => ?_); clear hK K; refine zn (N := some 30) ?_; refine zo 26 (some 31) (zl 28 134217727) (fun K hK => ?_); refine zgo #[.slice AT y729.length AU] Tryd.func117 ?_; (with_reducible refine (cmp_Or_int.calls k _ _ y729 AJ _ ?side1 ?side2 A8.out).mono ?_)
 (case side1 => repeat (first | exact (Kd.R_reads' AK.out).2.2 | (with_reducible refine Kd.C_alloc ?_ _) | (with_reducible refine Kd.C_drewN ?_ _) | (with_reducible refine Kd.C_drew ?_)))
 (case side2 => exact (Kd.R_reads' AK.out).2.1)
 rintro e w' ⟨rfl, ⟨nd, rfl⟩⟩; refine ⟨_, rfl, ?_⟩; refine hK.out _ _ zS (fun hHeld => ?_); clear hK K; refine zn ?_
 refine zu 27 4 28 268435455 ?_
 refine done_ (done_of HT_.out (by kernel_rfl)) ?_
 try go_wp2
 go_ret
 exact ⟨zE, zB⟩

/-! ### impl_EntryMax: function 75 -/
def impl_EntryMax.f (k : Nat) (a0_0 : Int) (a0_1 : Int) (a0_2 : Int) (a0_3 : Int) (a0_4 : ByteArray) (a1_0 : Int) (a1_1 : Int) (a1_2 : Int) (a1_3 : Int) (a1_4 : ByteArray) : Option (Int × Int × Int × Int × ByteArray) := (impl_EntryCmp.f k a0_0 a0_1 a0_2 a0_3 a0_4 a1_0 a1_1 a1_2 a1_3 a1_4).bind fun t736 => (if t736 < 0 then (some (a1_0, a1_1, a1_2, a1_3, a1_4)) else (some (a0_0, a0_1, a0_2, a0_3, a0_4)))
theorem impl_EntryMax.mono : ∀ a0 a1 a2 a3 a4 a5 a6 a7 a8 a9 k, LeO (impl_EntryMax.f k a0 a1 a2 a3 a4 a5 a6 a7 a8 a9) (impl_EntryMax.f (k + 1) a0 a1 a2 a3 a4 a5 a6 a7 a8 a9) := by
 intro a0 a1 a2 a3 a4 a5 a6 a7 a8 a9 k
 unfold impl_EntryMax.f
 repeat' first | (with_reducible first | exact LeO.refl _ | exact LeO.none _ | refine LeO.ite ?_ ?_ | refine LeO.bind ?_ (fun _ => ?_) | apply impl_EntryCmp.mono) | apply impl_EntryCmp.mono | exact LeO.none _ | refine LeO.ite ?_ ?_ | refine LeO.bind ?_ (fun _ => ?_)
set_option maxHeartbeats 8000000 in
set_option maxRecDepth 100000 in
theorem impl_EntryMax.calls (k : Nat) (a0_0 : Int) (a0_1 : Int) (a0_2 : Int) (a0_3 : Int) (a0_4 : ByteArray) (a1_0 : Int) (a1_1 : Int) (a1_2 : Int) (a1_3 : Int) (a1_4 : ByteArray) (r1 : Int) (r2 : Int) (r3 : Int) (r4 : Int) (r5 : ByteArray) (w : World) (h : impl_EntryMax.f k a0_0 a0_1 a0_2 a0_3 a0_4 a1_0 a1_1 a1_2 a1_3 a1_4 = some (r1, r2, r3, r4, r5)) :
  Calls Tryd.prog 75 #[.agg #[.int .i64 a0_0, .int .i64 a0_1, .int .i64 a0_2, .int .i64 a0_3, .string a0_4], .agg #[.int .i64 a1_0, .int .i64 a1_1, .int .i64 a1_2, .int .i64 a1_3, .string a1_4]] w fun e w' => e = .returned (.agg #[.int .i64 r1, .int .i64 r2, .int .i64 r3, .int .i64 r4, .string r5]) ∧ Below w.heap.size w w' := by
 have hu28 := Tryd.underlying28; have HB := zm (Below.refl w.heap.size w); have H : ((impl_EntryCmp.f k a0_0 a0_1 a0_2 a0_3 a0_4 a1_0 a1_1 a1_2 a1_3 a1_4).bind fun AJ => (if AJ < 0 then (some (a1_0, a1_1, a1_2, a1_3, a1_4)) else (some (a0_0, a0_1, a0_2, a0_3, a0_4)))) = some (r1, r2, r3, r4, r5) := h; clear h; replace H := Option.bind_eq_some_iff.mp H; obtain ⟨AJ, AT, H⟩ := H; (try dsimp only at H); have A3 := zm AT; clear AT
 by_cases c4 : AJ < 0
 ·rw [if_pos c4] at H; have AU : decide (AJ < 0) = true := decide_eq_true c4; clear c4; simp only [Option.some.injEq, Prod.mk.injEq] at H; obtain ⟨rfl, rfl, rfl, rfl, rfl⟩ := H; go_enter Tryd.func75, Tryd.ntmps75
  go_wp2_with (first | ((with_reducible refine gate_dst (N := 2) rfl ?_); refine zbox 2 #[.int .i64 a0_0, .int .i64 a0_1, .int .i64 a0_2, .int .i64 a0_3, .string a0_4] 28 ?_; intro AR hg w5 hbox hb; have AA := zm (hbox); have AO := zge w hg zB; have AL := zge w hg zB; replace HB := zm (below_step zB hb); clear hb hbox hg) | ((with_reducible refine gate_dst (N := 3) rfl ?_); refine zbox 3 #[.int .i64 a1_0, .int .i64 a1_1, .int .i64 a1_2, .int .i64 a1_3, .string a1_4] 28 ?_; intro AS hg w6 hbox hb; have AB := zm (hbox); have AP := zge w hg zB; have AM := zge w hg zB; replace HB := zm (below_step zB hb); have AD := zlt hg (zb AA); have AF := zgt hg (zb AA); replace AA := zy AA hb; clear hb hbox hg) | ((with_reducible refine gate_dst (N := 4) rfl ?_); refine zbox 4 #[.int .i64 0, .int .i64 0, .int .i64 0, .int .i64 0, .string (⟨#[]⟩ : ByteArray)] 28 ?_; intro AK hg w7 hbox hb; have AC := zm (hbox); have AQ := zge w hg zB; have AN := zge w hg zB; replace HB := zm (below_step zB hb); have AE := zlt hg (zb AA); have AH := zgt hg (zb AA); replace AA := zy AA hb; have AG := zlt hg (zb AB); have AI := zgt hg (zb AB); replace AB := zy AB hb; clear hb hbox hg; have C2 := AD.out; have C4 := AF.out; have C3 := AE.out; have C5 := AH.out; obtain ⟨AV, AW, AX, AY, AZ, BG, BH, BI, BJ, BK⟩ := zc5 AA; have Bu := AG.out; have By := AI.out; obtain ⟨Aa, Ab, Ac, Ad, Ae, BL, BM, BN, BO, BP⟩ := zc5 AB) | ((with_reducible refine gate_callee (f := 99) rfl ?_); refine zg (some 7) #[.agg #[.int .i64 a0_0, .int .i64 a0_1, .int .i64 a0_2, .int .i64 a0_3, .string a0_4], .agg #[.int .i64 a1_0, .int .i64 a1_1, .int .i64 a1_2, .int .i64 a1_3, .string a1_4]] Tryd.func99 ?_; (with_reducible refine (impl_EntryCmp.calls k a0_0 a0_1 a0_2 a0_3 a0_4 a1_0 a1_1 a1_2 a1_3 a1_4 AJ _ A3.out).mono ?_); rintro e C6 ⟨rfl, hb⟩; refine ⟨_, rfl, ?_⟩; replace AA := zy AA hb; replace AB := zy AB hb; replace AC := zy AC hb; replace HB := zm (below_step zB hb); clear hb; obtain ⟨Af, Ag, Ah, Ai, Aj, BQ, BR, BS, BT, BU⟩ := zc5 AB; obtain ⟨Ak, Al, Am, An, Ao, BV, BW, BX, BY, BZ⟩ := zc5 AC))
  refine bodyPost_ret (results_cell_row rfl _ _ AK 28 #[.int .i64 a1_0, .int .i64 a1_1, .int .i64 a1_2, .int .i64 a1_3, .string a1_4] (0, 0) _ rfl (zput (zput (zput (zput (zput (zb AC) 0) 1) 2) 3) 4) Tryd.underlying28 rfl (by kernel_rfl)) rfl ?_
  exact ⟨zE, zB⟩
 ·rw [if_neg c4] at H; have AU : decide (AJ < 0) = false := decide_eq_false c4; clear c4; simp only [Option.some.injEq, Prod.mk.injEq] at H; obtain ⟨rfl, rfl, rfl, rfl, rfl⟩ := H; go_enter Tryd.func75, Tryd.ntmps75
  go_wp2_with (first | ((with_reducible refine gate_dst (N := 2) rfl ?_); refine zbox 2 #[.int .i64 a0_0, .int .i64 a0_1, .int .i64 a0_2, .int .i64 a0_3, .string a0_4] 28 ?_; intro AR hg C7 hbox hb; have AA := zm (hbox); have AO := zge w hg zB; have AL := zge w hg zB; replace HB := zm (below_step zB hb); clear hb hbox hg) | ((with_reducible refine gate_dst (N := 3) rfl ?_); refine zbox 3 #[.int .i64 a1_0, .int .i64 a1_1, .int .i64 a1_2, .int .i64 a1_3, .string a1_4] 28 ?_; intro AS hg C8 hbox hb; have AB := zm (hbox); have AP := zge w hg zB; have AM := zge w hg zB; replace HB := zm (below_step zB hb); have AD := zlt hg (zb AA); have AF := zgt hg (zb AA); replace AA := zy AA hb; clear hb hbox hg) | ((with_reducible refine gate_dst (N := 4) rfl ?_); refine zbox 4 #[.int .i64 0, .int .i64 0, .int .i64 0, .int .i64 0, .string (⟨#[]⟩ : ByteArray)] 28 ?_; intro AK hg C9 hbox hb; have AC := zm (hbox); have AQ := zge w hg zB; have AN := zge w hg zB; replace HB := zm (below_step zB hb); have AE := zlt hg (zb AA); have AH := zgt hg (zb AA); replace AA := zy AA hb; have AG := zlt hg (zb AB); have AI := zgt hg (zb AB); replace AB := zy AB hb; clear hb hbox hg; have Bv := AD.out; have Bz := AF.out; have Bw := AE.out; have C0 := AH.out; obtain ⟨Ap, Aq, Ar, As, At, Ba, Bb, Bc, Bd, Be⟩ := zc5 AA; have Bx := AG.out; have C1 := AI.out; obtain ⟨Au, Av, Aw, Ax, Ay, Bf, Bg, Bh, Bi, Bj⟩ := zc5 AB) | ((with_reducible refine gate_callee (f := 99) rfl ?_); refine zg (some 7) #[.agg #[.int .i64 a0_0, .int .i64 a0_1, .int .i64 a0_2, .int .i64 a0_3, .string a0_4], .agg #[.int .i64 a1_0, .int .i64 a1_1, .int .i64 a1_2, .int .i64 a1_3, .string a1_4]] Tryd.func99 ?_; (with_reducible refine (impl_EntryCmp.calls k a0_0 a0_1 a0_2 a0_3 a0_4 a1_0 a1_1 a1_2 a1_3 a1_4 AJ _ A3.out).mono ?_); rintro e CA ⟨rfl, hb⟩; refine ⟨_, rfl, ?_⟩; replace AA := zy AA hb; replace AB := zy AB hb; replace AC := zy AC hb; replace HB := zm (below_step zB hb); clear hb; obtain ⟨Az, B0, B2, B3, BA, Bk, Bl, Bm, Bn, Bo⟩ := zc5 AA; obtain ⟨BB, BC, BD, BE, BF, Bp, Bq, Br, Bs, Bt⟩ := zc5 AC))
  refine bodyPost_ret (results_cell_row rfl _ _ AK 28 #[.int .i64 a0_0, .int .i64 a0_1, .int .i64 a0_2, .int .i64 a0_3, .string a0_4] (0, 0) _ rfl (zput (zput (zput (zput (zput (zb AC) 0) 1) 2) 3) 4) Tryd.underlying28 rfl (by kernel_rfl)) rfl ?_
  exact ⟨zE, zB⟩

end Go.Proofs.YtomlglpmljngfaaDoor.P
