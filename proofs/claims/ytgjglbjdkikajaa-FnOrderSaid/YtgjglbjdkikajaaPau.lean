-- by a program of this session, for this seat
import Derived.Test.YtgjglbjdkikajaaZ
import Derived.Test.YtgjglbjdkikajaaP0
import Derived.Test.YtgjglbjdkikajaaPat
import Derived.Test.YtgjglbjdkikajaaPad
namespace Go.Proofs.Ytgjglbjdkikajaa.P
open Go.RowKit Go.Proofs.YtgjglbjdkikajaaW.PrintWords Go.Proofs.YtgjglbjdkikajaaW.PrintLast Go.Proofs.YtgjglbjdkikajaaW.PrintMore Go.Proofs.Ytgjglbjdkikajaa.Z
attribute [local go_sem] max2_int min2_int max_two min_two max_three min_three max_four min_four   -- for this text's walks alone
set_option linter.unusedVariables false
set_option linter.unusedSimpArgs false

/-! ### spec_DrawEntryCmp: function 27 -/
def spec_DrawEntryCmp.f (k : Nat) (l0 : List Int) : Option (Int × Int × Int × Int × ByteArray × Int × Int × Int × Int × ByteArray) := (spec_l2Two.f k l0).bind fun bt268 => (some (bt268.1, bt268.2.1, bt268.2.2.1, bt268.2.2.2.1, bt268.2.2.2.2.1, bt268.2.2.2.2.2.1, bt268.2.2.2.2.2.2.1, bt268.2.2.2.2.2.2.2.1, bt268.2.2.2.2.2.2.2.2.1, bt268.2.2.2.2.2.2.2.2.2))
theorem spec_DrawEntryCmp.mono : ∀ a0 k, LeO (spec_DrawEntryCmp.f k a0) (spec_DrawEntryCmp.f (k + 1) a0) := by
 intro a0 k
 unfold spec_DrawEntryCmp.f
 repeat' first | (with_reducible first | exact LeO.refl _ | exact LeO.none _ | refine LeO.ite ?_ ?_ | refine LeO.bind ?_ (fun _ => ?_) | apply spec_l2Two.mono) | apply spec_l2Two.mono | exact LeO.none _ | refine LeO.ite ?_ ?_ | refine LeO.bind ?_ (fun _ => ?_)
set_option maxHeartbeats 8000000 in
set_option maxRecDepth 100000 in
theorem spec_DrawEntryCmp.calls (k : Nat) (A0 : Option Addr) (c0 : Nat) (l0 : List Int) (r1 : Int) (r2 : Int) (r3 : Int) (r4 : Int) (r5 : ByteArray) (r6 : Int) (r7 : Int) (r8 : Int) (r9 : Int) (r10 : ByteArray) (w : World) (hr0 : Kd.C (Kd.int .u8) w A0 l0.length l0) (hc0 : l0.length ≤ c0) (h : spec_DrawEntryCmp.f k l0 = some (r1, r2, r3, r4, r5, r6, r7, r8, r9, r10)) :
  Calls Try.prog 27 #[.slice A0 l0.length c0] w fun e w' => e = .returned (.tuple #[.agg #[.int .i64 r1, .int .i64 r2, .int .i64 r3, .int .i64 r4, .string r5], .agg #[.int .i64 r6, .int .i64 r7, .int .i64 r8, .int .i64 r9, .string r10]]) ∧ Below w.heap.size w w' := by
 have hu47 := Try.underlying47; have HR0 := zm hr0; have AS := zm hc0; clear hr0 hc0; have HB := zm (Below.refl w.heap.size w); have H : ((spec_l2Two.f k l0).bind fun AC => (some (AC.1, AC.2.1, AC.2.2.1, AC.2.2.2.1, AC.2.2.2.2.1, AC.2.2.2.2.2.1, AC.2.2.2.2.2.2.1, AC.2.2.2.2.2.2.2.1, AC.2.2.2.2.2.2.2.2.1, AC.2.2.2.2.2.2.2.2.2))) = some (r1, r2, r3, r4, r5, r6, r7, r8, r9, r10) := h; clear h; replace H := Option.bind_eq_some_iff.mp H; obtain ⟨⟨AF, AG, AH, AI, AJ, AK, AL, AM, AN, AO⟩, AR, H⟩ := H; (try dsimp only at H); have A2 := zm AR; clear AR; simp only [Option.some.injEq, Prod.mk.injEq] at H; obtain ⟨rfl, rfl, rfl, rfl, rfl, rfl, rfl, rfl, rfl, rfl⟩ := H; go_enter Try.func27, Try.ntmps27
 go_wp2_with (first | ((with_reducible refine gate_dst (N := 2) rfl ?_); refine zbox 2 #[.int .i64 0, .int .i64 0, .int .i64 0, .int .i64 0, .string (⟨#[]⟩ : ByteArray)] 47 ?_; intro AP hg w3 hbox hb; have AD := zm (hbox); have Ap := zge w hg zB; have An := zge w hg zB; replace HB := zm (below_step zB hb); clear hb hbox hg) | ((with_reducible refine gate_dst (N := 3) rfl ?_); refine zbox 3 #[.int .i64 0, .int .i64 0, .int .i64 0, .int .i64 0, .string (⟨#[]⟩ : ByteArray)] 47 ?_; intro AQ hg w4 hbox hb; have AE := zm (hbox); have Aq := zge w hg zB; have Ao := zge w hg zB; replace HB := zm (below_step zB hb); have AA := zlt hg (zb AD); have AB := zgt hg (zb AD); replace AD := zy AD hb; clear hb hbox hg) | ((with_reducible refine gate_callee (f := 47) rfl ?_); refine zg (some 5) #[.slice A0 l0.length c0] Try.func47 ?_; (with_reducible refine (spec_l2Two.calls k _ _ l0 AF AG AH AI AJ AK AL AM AN AO _ (zk (Kd.C_below HR0.out HB.out)) AS.out A2.out).mono ?_); rintro e w5 ⟨rfl, hb⟩; refine ⟨_, rfl, ?_⟩; replace AD := zy AD hb; replace AE := zy AE hb; replace HB := zm (below_step zB hb); clear hb; have Ar := AA.out; have As := AB.out; obtain ⟨AT, AU, AV, AW, AX, Ad, Ae, Af, Ag, Ah⟩ := zc5 AD; obtain ⟨AY, AZ, Aa, Ab, Ac, Ai, Aj, Ak, Al, Am⟩ := zc5 AE))
 refine bodyPost_ret (results_cc rfl _ _ AP AQ 47 47 #[.int .i64 AF, .int .i64 AG, .int .i64 AH, .int .i64 AI, .string AJ] #[.int .i64 AK, .int .i64 AL, .int .i64 AM, .int .i64 AN, .string AO] (0, 0) (0, 0) _ _ rfl (zfar (zfar (zfar (zfar (zfar (zput (zput (zput (zput (zput (zb AD) 0) 1) 2) 3) 4) AA) AA) AA) AA) AA) Try.underlying47 rfl (by kernel_rfl) rfl (zput (zput (zput (zput (zput (zfar (zfar (zfar (zfar (zfar (zb AE) AB) AB) AB) AB) AB) 0) 1) 2) 3) 4) Try.underlying47 rfl (by kernel_rfl)) rfl ?_
 exact ⟨zE, zB⟩

/-! ### impl_Newer: function 30 -/
def impl_Newer.f (k : Nat) (a0_0 : Int) (a0_1 : Int) (a0_2 : Int) (a0_3 : Int) (a0_4 : ByteArray) (a1_0 : Int) (a1_1 : Int) (a1_2 : Int) (a1_3 : Int) (a1_4 : ByteArray) : Option (Bool) := (impl_EntryCmp.f k a0_0 a0_1 a0_2 a0_3 a0_4 a1_0 a1_1 a1_2 a1_3 a1_4).bind fun t307 => (some (decide (t307 > 0)))
theorem impl_Newer.mono : ∀ a0 a1 a2 a3 a4 a5 a6 a7 a8 a9 k, LeO (impl_Newer.f k a0 a1 a2 a3 a4 a5 a6 a7 a8 a9) (impl_Newer.f (k + 1) a0 a1 a2 a3 a4 a5 a6 a7 a8 a9) := by
 intro a0 a1 a2 a3 a4 a5 a6 a7 a8 a9 k
 unfold impl_Newer.f
 repeat' first | (with_reducible first | exact LeO.refl _ | exact LeO.none _ | refine LeO.ite ?_ ?_ | refine LeO.bind ?_ (fun _ => ?_) | apply impl_EntryCmp.mono) | apply impl_EntryCmp.mono | exact LeO.none _ | refine LeO.ite ?_ ?_ | refine LeO.bind ?_ (fun _ => ?_)
set_option maxHeartbeats 8000000 in
set_option maxRecDepth 100000 in
theorem impl_Newer.calls (k : Nat) (a0_0 : Int) (a0_1 : Int) (a0_2 : Int) (a0_3 : Int) (a0_4 : ByteArray) (a1_0 : Int) (a1_1 : Int) (a1_2 : Int) (a1_3 : Int) (a1_4 : ByteArray) (r : Bool) (w : World) (h : impl_Newer.f k a0_0 a0_1 a0_2 a0_3 a0_4 a1_0 a1_1 a1_2 a1_3 a1_4 = some r) :
  Calls Try.prog 30 #[.agg #[.int .i64 a0_0, .int .i64 a0_1, .int .i64 a0_2, .int .i64 a0_3, .string a0_4], .agg #[.int .i64 a1_0, .int .i64 a1_1, .int .i64 a1_2, .int .i64 a1_3, .string a1_4]] w fun e w' => e = .returned (.bool r) ∧ Below w.heap.size w w' := by
 have hu47 := Try.underlying47; have HB := zm (Below.refl w.heap.size w); have H : ((impl_EntryCmp.f k a0_0 a0_1 a0_2 a0_3 a0_4 a1_0 a1_1 a1_2 a1_3 a1_4).bind fun AE => (some (decide (AE > 0)))) = some r := h; clear h; replace H := Option.bind_eq_some_iff.mp H; obtain ⟨AE, AF, H⟩ := H; (try dsimp only at H); have A3 := zm AF; clear AF; obtain rfl := Option.some.inj H; go_enter Try.func30, Try.ntmps30
 go_wp2_with (first | ((with_reducible refine gate_dst (N := 2) rfl ?_); refine zbox 2 #[.int .i64 a0_0, .int .i64 a0_1, .int .i64 a0_2, .int .i64 a0_3, .string a0_4] 47 ?_; intro Ae hg w4 hbox hb; have AA := zm (hbox); have Ac := zge w hg zB; have Aa := zge w hg zB; replace HB := zm (below_step zB hb); clear hb hbox hg) | ((with_reducible refine gate_dst (N := 3) rfl ?_); refine zbox 3 #[.int .i64 a1_0, .int .i64 a1_1, .int .i64 a1_2, .int .i64 a1_3, .string a1_4] 47 ?_; intro Af hg w5 hbox hb; have AB := zm (hbox); have Ad := zge w hg zB; have Ab := zge w hg zB; replace HB := zm (below_step zB hb); have AC := zlt hg (zb AA); have AD := zgt hg (zb AA); replace AA := zy AA hb; clear hb hbox hg; have Ag := AC.out; have Ah := AD.out; obtain ⟨AG, AH, AI, AJ, AK, AQ, AR, AS, AT, AU⟩ := zc5 AA; obtain ⟨AL, AM, AN, AO, AP, AV, AW, AX, AY, AZ⟩ := zc5 AB) | ((with_reducible refine gate_callee (f := 28) rfl ?_); refine zg (some 7) #[.agg #[.int .i64 a0_0, .int .i64 a0_1, .int .i64 a0_2, .int .i64 a0_3, .string a0_4], .agg #[.int .i64 a1_0, .int .i64 a1_1, .int .i64 a1_2, .int .i64 a1_3, .string a1_4]] Try.func28 ?_; (with_reducible refine (impl_EntryCmp.calls k a0_0 a0_1 a0_2 a0_3 a0_4 a1_0 a1_1 a1_2 a1_3 a1_4 AE _ A3.out).mono ?_); rintro e w9 ⟨rfl, hb⟩; refine ⟨_, rfl, ?_⟩; replace AA := zy AA hb; replace AB := zy AB hb; replace HB := zm (below_step zB hb); clear hb))
 go_ret
 exact ⟨zE, zB⟩

end Go.Proofs.Ytgjglbjdkikajaa.P
