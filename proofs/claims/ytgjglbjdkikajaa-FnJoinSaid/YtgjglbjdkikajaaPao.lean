-- by a program of this session, for this seat
import Derived.Test.YtgjglbjdkikajaaZ
import Derived.Test.YtgjglbjdkikajaaP0
namespace Go.Proofs.Ytgjglbjdkikajaa.P
open Go.RowKit Go.Proofs.YtgjglbjdkikajaaW.PrintWords Go.Proofs.YtgjglbjdkikajaaW.PrintLast Go.Proofs.YtgjglbjdkikajaaW.PrintMore Go.Proofs.Ytgjglbjdkikajaa.Z
attribute [local go_sem] max2_int min2_int max_two min_two max_three min_three max_four min_four   -- for this text's walks alone
set_option linter.unusedVariables false
set_option linter.unusedSimpArgs false

/-! ### impl_EntryOf: function 56 -/
def impl_EntryOf.l0 : Nat → Int → List (S56) → Int → Int → Option (Int × Int × Int × Int × ByteArray × Bool)
 | 0, _, _, _, _ => none
 | k + 1, x1, x9, x10, x11 => if x11 < x10 then (if 0 ≤ x11 then (if x11 < (x9.length : Int) then (if ((rd_T56 x9 x11).f0) = x1 then (some ((rd_T56 x9 x11).f1.f0, (rd_T56 x9 x11).f1.f1, (rd_T56 x9 x11).f1.f2, (rd_T56 x9 x11).f1.f3, (rd_T56 x9 x11).f1.f4, true)) else (impl_EntryOf.l0 k x1 x9 x10 (wrap64 (x11 + 1)))) else (none)) else (none)) else (some (0, 0, 0, 0, (⟨#[]⟩ : ByteArray), false))
def impl_EntryOf.f (k : Nat) (l0_0 : List (S56)) (l0_1 : List (S59)) (a1 : Int) : Option (Int × Int × Int × Int × ByteArray × Bool) := impl_EntryOf.l0 k a1 l0_0 (l0_0.length : Int) 0
theorem impl_EntryOf.mono_l : ∀ k, (∀ y0 y1 y2 y3, LeO (impl_EntryOf.l0 k y0 y1 y2 y3) (impl_EntryOf.l0 (k + 1) y0 y1 y2 y3))
 | 0 => fun _ _ _ _ r h => by simp [impl_EntryOf.l0] at h
 | k + 1 => by
  have ih0 := impl_EntryOf.mono_l k
  ·intro y0 y1 y2 y3
   unfold impl_EntryOf.l0
   repeat' first | (with_reducible first | exact LeO.refl _ | exact LeO.none _ | refine LeO.ite ?_ ?_ | refine LeO.bind ?_ (fun _ => ?_) | apply ih0) | apply ih0 | exact LeO.none _ | refine LeO.ite ?_ ?_ | refine LeO.bind ?_ (fun _ => ?_)
theorem impl_EntryOf.mono : ∀ a0 a1 a2 k, LeO (impl_EntryOf.f k a0 a1 a2) (impl_EntryOf.f (k + 1) a0 a1 a2) := by
 intro a0 a1 a2 k; have ih0 := impl_EntryOf.mono_l k
 unfold impl_EntryOf.f
 repeat' first | (with_reducible first | exact LeO.refl _ | exact LeO.none _ | refine LeO.ite ?_ ?_ | refine LeO.bind ?_ (fun _ => ?_) | apply ih0) | apply ih0 | exact LeO.none _ | refine LeO.ite ?_ ?_ | refine LeO.bind ?_ (fun _ => ?_)
set_option maxHeartbeats 8000000 in
set_option maxRecDepth 100000 in
theorem impl_EntryOf.calls (k : Nat) (A0_0 : Option Addr) (c0_0 : Nat) (l0_0 : List (S56)) (A0_1 : Option Addr) (c0_1 : Nat) (l0_1 : List (S59)) (a1 : Int) (r1 : Int) (r2 : Int) (r3 : Int) (r4 : Int) (r5 : ByteArray) (r6 : Bool) (w : World) (hr0_0 : Kd.C k56 w A0_0 l0_0.length l0_0) (hc0_0 : l0_0.length ≤ c0_0) (hr0_1 : Kd.C k59 w A0_1 l0_1.length l0_1) (hc0_1 : l0_1.length ≤ c0_1) (h : impl_EntryOf.f k l0_0 l0_1 a1 = some (r1, r2, r3, r4, r5, r6)) :
  Calls Try.prog 56 #[.agg #[.slice A0_0 l0_0.length c0_0, .slice A0_1 l0_1.length c0_1], .int .i64 a1] w fun e w' => e = .returned (.tuple #[.agg #[.int .i64 r1, .int .i64 r2, .int .i64 r3, .int .i64 r4, .string r5], .bool r6]) ∧ Below w.heap.size w w' := by
 have hu27 := Try.underlying27; have hu47 := Try.underlying47; have hu56 := Try.underlying56; have HR0_0 := zm hr0_0; have HC0_0 := zm hc0_0; clear hr0_0 hc0_0; have HR0_1 := zm hr0_1; have HC0_1 := zm hc0_1; clear hr0_1 hc0_1; have HB := zm (Below.refl w.heap.size w); have H : (impl_EntryOf.l0 k a1 l0_0 (l0_0.length : Int) 0) = some (r1, r2, r3, r4, r5, r6) := h; clear h
 have H' := zm H
 clear H; go_enter Try.func56, Try.ntmps56
 go_wp2_with (first | ((with_reducible refine gate_dst (N := 2) rfl ?_); refine zbox 2 #[.slice A0_0 l0_0.length c0_0, .slice A0_1 l0_1.length c0_1] 27 ?_; intro AZ hg w3 hbox hb; have AD := zm (hbox); have BT := zge w hg zB; have BR := zge w hg zB; replace HB := zm (below_step zB hb); clear hb hbox hg) | ((with_reducible refine gate_dst (N := 4) rfl ?_); refine zbox 4 #[.int .i64 0, .int .i64 0, .int .i64 0, .int .i64 0, .string (⟨#[]⟩ : ByteArray)] 47 ?_; intro AQ hg w4 hbox hb; have AE := zm (hbox); have BU := zge w hg zB; have BS := zge w hg zB; replace HB := zm (below_step zB hb); have AF := zlt hg (zb AD); have AG := zgt hg (zb AD); replace AD := zy AD hb; clear hb hbox hg; have Bj := AF.out; have Bk := AG.out; obtain ⟨AR, AS, AT, AU⟩ := zc2 AD))
 go_loopg [11] k (fun kq v11 w' => ∃ (AB : Int) (AJ : Int) (AK : Int) (AL : Int) (AM : Int) (AN : ByteArray), v11 = .int .i64 AB ∧ Aside0 (impl_EntryOf.l0 kq a1 l0_0 (l0_0.length : Int) AB = some (r1, r2, r3, r4, r5, r6)) ∧ Aside0 (kq ≤ k) ∧ Aside0 (w'.heap[AZ]? = some (.cells #[(.slice A0_0 l0_0.length c0_0), (.slice A0_1 l0_1.length c0_1)] 27 (0, 0))) ∧ Aside0 (w'.heap[AQ]? = some (.cells #[.int .i64 AJ, .int .i64 AK, .int .i64 AL, .int .i64 AM, .string AN] 47 (0, 0))) ∧ Aside0 (Below w.heap.size w w'))
 case atStart => exact ⟨(0), (0), (0), (0), (0), ((⟨#[]⟩ : ByteArray)), zF, H', ⟨Nat.le_refl _⟩, ⟨zb AD⟩, ⟨zb AE⟩, ⟨zB⟩⟩
 case round =>
  clear H'; (try clear AR); (try clear AS); (try clear AT); (try clear AU); obtain ⟨AB, AJ, AK, AL, AM, AN, rfl, HA, Ab, AD, AE, HB⟩ := hrel
  cases gk with
  | zero => exact absurd HA.out (by simp [impl_EntryOf.l0])
  | succ k1 =>
   have H := HA.out; clear HA; simp only [impl_EntryOf.l0] at H
   by_cases c7 : AB < (l0_0.length : Int)
   ·rw [if_pos c7] at H; have Ac : decide (AB < (l0_0.length : Int)) = true := decide_eq_true c7; clear c7
    by_cases c8 : 0 ≤ AB
    ·rw [if_pos c8] at H; have Bh : decide (0 ≤ AB) = true := decide_eq_true c8; clear c8
     by_cases c9 : AB < (l0_0.length : Int)
     ·rw [if_pos c9] at H; have Bi : decide (AB < (l0_0.length : Int)) = true := decide_eq_true c9; clear c9
      by_cases AO : ((rd_T56 l0_0 AB).f0) = a1
      ·rw [if_pos AO] at H; have AX : (((rd_T56 l0_0 AB).f0) == a1) = true := beq_iff_eq.mpr AO; have AY : (((rd_T56 l0_0 AB).f0) != a1) = false := bne_eq_false_iff_eq.mpr AO; clear AO; simp only [Option.some.injEq, Prod.mk.injEq] at H; obtain ⟨rfl, rfl, rfl, rfl, rfl, rfl⟩ := H; have p706 : 0 ≤ (AB : Int) := zd; have q706 : AB < (l0_0.length : Int) := zd; obtain ⟨ad706, e706, hx706_0, hx706_1, hx706_2, hx706_3, hx706_4, hx706_5⟩ := at_T56 (Kd.C_below HR0_0.out HB.out) AB p706 q706; cases e706; replace p706 := eq_true p706; replace q706 := eq_true q706
       go_wp2_with (first | ((with_reducible refine gate_dst (N := 7) rfl ?_); refine zbox 7 #[.int .i64 0, .int .i64 0, .int .i64 0, .int .i64 0, .int .i64 0, .string (⟨#[]⟩ : ByteArray)] 56 ?_; intro Aa hg Bl hbox hb; have AP := zm (hbox); have AW := zge w hg zB; have AV := zge w hg zB; replace HB := zm (below_step zB hb); have AC := zlt hg (zb AD); have AH := zgt hg (zb AD); replace AD := zy AD hb; have AA := zlt hg (zb AE); have AI := zgt hg (zb AE); replace AE := zy AE hb; clear hb hbox hg; have BV := AH.out; have Bb := AC.out; have BW := AI.out; have Bc := AA.out; obtain ⟨Ad, Ae, Af, Ag, Ah, Ai, Az, B0, B2, B3, B7, BA⟩ := zc6 AP; have BX := AG.out; have Bd := AF.out; obtain ⟨Aj, Ak, Al, Am, An, BB, BC, BD, BE, BF⟩ := zc5 AE))
       refine bodyPost_ret (results_ct rfl _ _ AQ 47 #[.int .i64 ((rd_T56 l0_0 AB).f1.f0), .int .i64 ((rd_T56 l0_0 AB).f1.f1), .int .i64 ((rd_T56 l0_0 AB).f1.f2), .int .i64 ((rd_T56 l0_0 AB).f1.f3), .string ((rd_T56 l0_0 AB).f1.f4)] (0, 0) _ rfl (zput (zput (zput (zput (zput (zfar (zfar (zfar (zfar (zfar (zfar (zb AE) AA) AA) AA) AA) AA) AA) 0) 1) 2) 3) 4) Try.underlying47 rfl (by kernel_rfl)) rfl ?_
       exact ⟨zE, zB⟩
      ·rw [if_neg AO] at H; have AX : (((rd_T56 l0_0 AB).f0) == a1) = false := beq_eq_false_iff_ne.mpr AO; have AY : (((rd_T56 l0_0 AB).f0) != a1) = true := bne_iff_ne.mpr AO
       have H' := zm H
       clear H; have p706 : 0 ≤ (AB : Int) := zd; have q706 : AB < (l0_0.length : Int) := zd; obtain ⟨ad706, e706, hx706_0, hx706_1, hx706_2, hx706_3, hx706_4, hx706_5⟩ := at_T56 (Kd.C_below HR0_0.out HB.out) AB p706 q706; cases e706; replace p706 := eq_true p706; replace q706 := eq_true q706
       go_wp2_with (first | ((with_reducible refine gate_dst (N := 7) rfl ?_); refine zbox 7 #[.int .i64 0, .int .i64 0, .int .i64 0, .int .i64 0, .int .i64 0, .string (⟨#[]⟩ : ByteArray)] 56 ?_; intro Aa hg Bm hbox hb; have AP := zm (hbox); have AW := zge w hg zB; have AV := zge w hg zB; replace HB := zm (below_step zB hb); have AC := zlt hg (zb AD); have AH := zgt hg (zb AD); replace AD := zy AD hb; have AA := zlt hg (zb AE); have AI := zgt hg (zb AE); replace AE := zy AE hb; clear hb hbox hg; have BY := AH.out; have Be := AC.out; have BZ := AI.out; have Bf := AA.out; obtain ⟨Ao, Ap, Aq, Ar, As, At, BG, BH, BI, BJ, BK, BL⟩ := zc6 AP))
       go_roundg k1
       case measure => have := Ab.out; omega
       case rel => exact ⟨(wrap64 (AB + 1)), (AJ), (AK), (AL), (AM), (AN), zF, H', ⟨by have := Ab.out; omega⟩, ⟨zfar (zfar (zfar (zfar (zfar (zfar (zb AD) AC) AC) AC) AC) AC) AC⟩, ⟨zfar (zfar (zfar (zfar (zfar (zfar (zb AE) AA) AA) AA) AA) AA) AA⟩, ⟨zB⟩⟩
     ·rw [if_neg c9] at H
      exact absurd H (by simp)
    ·rw [if_neg c8] at H
     exact absurd H (by simp)
   ·rw [if_neg c7] at H; have Ac : decide (AB < (l0_0.length : Int)) = false := decide_eq_false c7; clear c7; simp only [Option.some.injEq, Prod.mk.injEq] at H; obtain ⟨rfl, rfl, rfl, rfl, rfl, rfl⟩ := H; have Ba := AG.out; have Bg := AF.out; obtain ⟨Au, Av, Aw, Ax, Ay, BM, BN, BO, BP, BQ⟩ := zc5 AE
    go_wp2
    refine bodyPost_ret (results_ct rfl _ _ AQ 47 #[.int .i64 0, .int .i64 0, .int .i64 0, .int .i64 0, .string (⟨#[]⟩ : ByteArray)] (0, 0) _ rfl (zput (zput (zput (zput (zput (zb AE) 0) 1) 2) 3) 4) Try.underlying47 rfl (by kernel_rfl)) rfl ?_
    exact ⟨zE, zB⟩

end Go.Proofs.Ytgjglbjdkikajaa.P
