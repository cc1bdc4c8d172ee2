-- by a program of this session, for this seat
import Derived.Test.YtnmofppbijmhoaaZ
import Derived.Test.YtnmofppbijmhoaaP0
import Derived.Test.YtnmofppbijmhoaaPaj
import Derived.Test.YtnmofppbijmhoaaPad
import Derived.Test.YtnmofppbijmhoaaPaf
import Derived.Test.YtnmofppbijmhoaaPai
import Derived.Test.YtnmofppbijmhoaaPap
import Derived.Test.YtnmofppbijmhoaaPaa
import Derived.Test.YtnmofppbijmhoaaPab
import Derived.Test.YtnmofppbijmhoaaPaw
namespace Go.Proofs.Ytnmofppbijmhoaa.P
open Go.RowKit Go.Proofs.YtnmofppbijmhoaaW.PrintWords Go.Proofs.YtnmofppbijmhoaaW.PrintLast Go.Proofs.YtnmofppbijmhoaaW.PrintMore Go.Proofs.Ytnmofppbijmhoaa.Z
attribute [local go_sem] max2_int min2_int max_two min_two max_three min_three max_four min_four   -- for this text's walks alone
set_option linter.unusedVariables false
set_option linter.unusedSimpArgs false

/-! ### impl_Single: function 28 -/
def impl_Single.f (k : Nat) (a0 : Int) (a1_0 : Int) (a1_1 : Int) (a1_2 : Int) (a1_3 : Int) (a1_4 : ByteArray) : Option ((List (S44)) × (List (S58)) × Bool) := (some (([(⟨a0, (⟨a1_0, a1_1, a1_2, a1_3, a1_4⟩ : S36)⟩ : S44)] : List (S44)) : List (S44))).bind fun y1481 => ((impl_StateOk.f k y1481 ([] : List (S58))).bind fun t1485 => (if t1485 = true then (some (y1481, ([] : List (S58)), true)) else (some (([] : List (S44)), ([] : List (S58)), false))))
theorem impl_Single.mono : ∀ a0 a1 a2 a3 a4 a5 k, LeO (impl_Single.f k a0 a1 a2 a3 a4 a5) (impl_Single.f (k + 1) a0 a1 a2 a3 a4 a5) := by
 intro a0 a1 a2 a3 a4 a5 k
 unfold impl_Single.f
 repeat' first | (with_reducible first | exact LeO.refl _ | exact LeO.none _ | refine LeO.ite ?_ ?_ | refine LeO.bind ?_ (fun _ => ?_) | apply impl_StateOk.mono) | apply impl_StateOk.mono | exact LeO.none _ | refine LeO.ite ?_ ?_ | refine LeO.bind ?_ (fun _ => ?_)
set_option maxHeartbeats 8000000 in
set_option maxRecDepth 100000 in
theorem impl_Single.calls (k : Nat) (a0 : Int) (a1_0 : Int) (a1_1 : Int) (a1_2 : Int) (a1_3 : Int) (a1_4 : ByteArray) (r1 : List (S44)) (r2 : List (S58)) (r3 : Bool) (w : World) (h : impl_Single.f k a0 a1_0 a1_1 a1_2 a1_3 a1_4 = some (r1, r2, r3)) :
  Calls Try.prog 28 #[.int .i64 a0, .agg #[.int .i64 a1_0, .int .i64 a1_1, .int .i64 a1_2, .int .i64 a1_3, .string a1_4]] w fun e w' => ∃ v0_ v1_ : Value, e = .returned (.tuple #[.agg #[v0_, v1_], .bool r3]) ∧ Kd.R k44 44 w' w.heap.size (fun _ => True) v0_ r1 ∧ Kd.R k58 58 w' w.heap.size (fun _ => True) v1_ r2 ∧ Below w.heap.size w w' := by
 have hu36 := Try.underlying36; have hu27 := Try.underlying27; have hu44 := Try.underlying44; have HB := zm (Below.refl w.heap.size w); have H : ((some (([(⟨a0, (⟨a1_0, a1_1, a1_2, a1_3, a1_4⟩ : S36)⟩ : S44)] : List (S44)) : List (S44))).bind fun y1481 => ((impl_StateOk.f k y1481 ([] : List (S58))).bind fun AK => (if AK = true then (some (y1481, ([] : List (S58)), true)) else (some (([] : List (S44)), ([] : List (S58)), false))))) = some (r1, r2, r3) := h; clear h
 obtain ⟨y1481, hy1481⟩ : ∃ y_ : List (S44), y_ = (([(⟨a0, (⟨a1_0, a1_1, a1_2, a1_3, a1_4⟩ : S36)⟩ : S44)] : List (S44))) := ⟨_, rfl⟩
 replace H : ((impl_StateOk.f k y1481 ([] : List (S58))).bind fun AK => (if AK = true then (some (y1481, ([] : List (S58)), true)) else (some (([] : List (S44)), ([] : List (S58)), false)))) = some (r1, r2, r3) := by first | (rw [hy1481]; with_reducible exact H) | (have H2_ := (Option.bind_some _ _).symm.trans H; rw [hy1481]; with_reducible exact H2_) | (have H2_ := (Option.bind_some _ _).symm.trans H; with_reducible exact H2_) | with_reducible exact H | (rw [hy1481]; exact H) | exact H
 have Ny1481 := zm hy1481; clear hy1481; replace H := Option.bind_eq_some_iff.mp H; obtain ⟨AK, AY, H⟩ := H; (try dsimp only at H); have A3 := zm AY; clear AY
 by_cases c4 : AK = true
 ·subst c4; rw [if_pos rfl] at H; simp only [Option.some.injEq, Prod.mk.injEq] at H; obtain ⟨rfl, rfl, rfl⟩ := H; go_enter Try.func28, Try.ntmps28
  go_wp2_with (first | ((with_reducible refine gate_dst (N := 3) rfl ?_); refine zbox 3 #[.int .i64 a1_0, .int .i64 a1_1, .int .i64 a1_2, .int .i64 a1_3, .string a1_4] 36 ?_; intro AX hg w5 hbox hb; have AA := zm (hbox); have AU := zge w hg zB; have AR := zge w hg zB; replace HB := zm (below_step zB hb); clear hb hbox hg) | ((with_reducible refine gate_dst (N := 4) rfl ?_); refine zbox 4 #[.slice none 0 0, .slice none 0 0] 27 ?_; intro AL hg w6 hbox hb; have AB := zm (hbox); have AV := zge w hg zB; have AS := zge w hg zB; replace HB := zm (below_step zB hb); have AG := zlt hg (zb AA); have AH := zgt hg (zb AA); replace AA := zy AA hb; clear hb hbox hg; have BU := AG.out; have BV := AH.out; obtain ⟨BA, BB, BC, BD, BE, BF, BG, BH, BI, BJ⟩ := zc5 AA) | ((with_reducible refine gate_dst (N := 10) rfl ?_); refine Kd.R_lit k44 _ 44 ?hg (N := 10) ?hd (xs := ([(⟨a0, (⟨a1_0, a1_1, a1_2, a1_3, a1_4⟩ : S36)⟩ : S44)] : List (S44))) (inner := [.int .i64 a0, .int .i64 a1_0, .int .i64 a1_1, .int .i64 a1_2, .int .i64 a1_3, .string a1_4]) (ok := fun _ => True) (okp := fun _ => True) ?hr ?hp (fun _ hk => hk) trivial (Below.refl _ _) (Nat.le_refl _) (by simp) ?_; (case hd => rfl); (case hg => rfl); (case hr => first | (go_simp; done) | (go_simp; rfl)); (case hp => exact (Reps.c6 (show Kd.M k44 _ _ _ (⟨a0, (⟨a1_0, a1_1, a1_2, a1_3, a1_4⟩ : S36)⟩ : S44) [.int .i64 a0, .int .i64 a1_0, .int .i64 a1_1, .int .i64 a1_2, .int .i64 a1_3, .string a1_4] from (k44_mkM _ _ _ (⟨a0, (⟨a1_0, a1_1, a1_2, a1_3, a1_4⟩ : S36)⟩ : S44) )) (Reps.none _ _))); intro v1482 w9 ho10 hb hg_ hnew_; clear hg_ hnew_; (first | rw [← Ny1481.out] at ho10 | (simp only [Int.reduceToNat] at ho10; rw [← Ny1481.out] at ho10)); have AC := zm (Kd.R_lower ho10 (below_size zB)); replace AA := zy AA hb; replace AB := zy AB hb; replace HB := zm (below_step zB hb); clear hb ho10; obtain ⟨AO, AN, eo11⟩ := Kd.R_slice AC.out; subst eo11) | ((with_reducible refine gate_dst (N := 6) rfl ?_); refine zbox 6 #[.slice none 0 0, .slice none 0 0] 27 ?_; intro AM hg BW hbox hb; replace AC := zw AC hb; have AF := zm (hbox); have AW := zge w hg zB; have AT := zge w hg zB; replace HB := zm (below_step zB hb); have AD := zlt hg (zb AA); have AI := zgt hg (zb AA); replace AA := zy AA hb; have AE := zlt hg (zb AB); have AJ := zgt hg (zb AB); replace AB := zy AB hb; clear hb hbox hg; have BK := AI.out; have BP := AD.out; have BL := AJ.out; have BQ := AE.out; obtain ⟨AZ, Aa, Ao, Ap⟩ := zc2 AF) | ((with_reducible refine gate_callee (f := 27) rfl ?_); refine zg (some 13) #[.agg #[.slice AO y1481.length AN, .slice none 0 0]] Try.func27 ?_; (refine (impl_StateOk.calls k _ _ y1481 _ _ ([] : List (S58)) true _ ?side1 ?side2 ?side3 ?side4 A3.out).mono ?_); (case side1 => refine (Kd.R_reads' (e := 44) (base := w.heap.size) (ok := fun k_ => True) (n := y1481.length) (c := AN) ?_).2.2; exact (zrs <| (Kd.R_mono (zfr (zfr (Kd.R_types AC.out AF.out (by decide)))) (fun _ h_ => h_.1)))); (case side2 => exact (Kd.R_reads' AC.out).2.1); (case side3 => exact Kd.C_nil _ _); (case side4 => exact Nat.le_refl _); rintro e BX ⟨rfl, hb⟩; refine ⟨_, rfl, ?_⟩; replace AC := zm (Kd.R_below (zrs <| (Kd.R_mono (zfr (zfr (Kd.R_types AC.out AF.out (by decide)))) (fun _ h_ => h_.1))) hb); replace AA := zyb hb (zfar (zfar (zb AA) AD) AD); replace AB := zyb hb (zfar (zfar (zb AB) AE) AE); replace AF := zm (blk_below (g := AM) (o := .cells #[.slice AO y1481.length AN, .slice none 0 0] 27 (0, 0)) (zput (zput (zb AF) 0) 1) hb); replace HB := zm (below_step zB hb); clear hb; obtain ⟨Ab, Ac, Aq, Ar⟩ := zc2 AF; obtain ⟨Ad, Ae, As, At⟩ := zc2 AB))
  refine bodyPost_ret (results_ct rfl _ _ AL 27 #[.slice AO y1481.length AN, .slice none 0 0] (0, 0) _ rfl (zput (zput (zb AB) 0) 1) Try.underlying27 rfl (by kernel_rfl)) rfl ?_
  exact ⟨_, _, zE, zrs <| Kd.R_mono (zfr (zfr (Kd.R_types AC.out AB.out (by decide)))) (fun _ hk => trivial), znil, zB⟩
 ·replace c4 := Bool.eq_false_iff.mpr c4; subst c4; rw [zff] at H; simp only [Option.some.injEq, Prod.mk.injEq] at H; obtain ⟨rfl, rfl, rfl⟩ := H; go_enter Try.func28, Try.ntmps28
  go_wp2_with (first | ((with_reducible refine gate_dst (N := 3) rfl ?_); refine zbox 3 #[.int .i64 a1_0, .int .i64 a1_1, .int .i64 a1_2, .int .i64 a1_3, .string a1_4] 36 ?_; intro AX hg BY hbox hb; have AA := zm (hbox); have AU := zge w hg zB; have AR := zge w hg zB; replace HB := zm (below_step zB hb); clear hb hbox hg) | ((with_reducible refine gate_dst (N := 4) rfl ?_); refine zbox 4 #[.slice none 0 0, .slice none 0 0] 27 ?_; intro AL hg BZ hbox hb; have AB := zm (hbox); have AV := zge w hg zB; have AS := zge w hg zB; replace HB := zm (below_step zB hb); have AG := zlt hg (zb AA); have AH := zgt hg (zb AA); replace AA := zy AA hb; clear hb hbox hg; have BM := AG.out; have BR := AH.out; obtain ⟨Af, Ag, Ah, Ai, Aj, Au, Av, Aw, Ax, Ay⟩ := zc5 AA) | ((with_reducible refine gate_dst (N := 10) rfl ?_); refine Kd.R_lit k44 _ 44 ?hg (N := 10) ?hd (xs := ([(⟨a0, (⟨a1_0, a1_1, a1_2, a1_3, a1_4⟩ : S36)⟩ : S44)] : List (S44))) (inner := [.int .i64 a0, .int .i64 a1_0, .int .i64 a1_1, .int .i64 a1_2, .int .i64 a1_3, .string a1_4]) (ok := fun _ => True) (okp := fun _ => True) ?hr ?hp (fun _ hk => hk) trivial (Below.refl _ _) (Nat.le_refl _) (by simp) ?_; (case hd => rfl); (case hg => rfl); (case hr => first | (go_simp; done) | (go_simp; rfl)); (case hp => exact (Reps.c6 (show Kd.M k44 _ _ _ (⟨a0, (⟨a1_0, a1_1, a1_2, a1_3, a1_4⟩ : S36)⟩ : S44) [.int .i64 a0, .int .i64 a1_0, .int .i64 a1_1, .int .i64 a1_2, .int .i64 a1_3, .string a1_4] from (k44_mkM _ _ _ (⟨a0, (⟨a1_0, a1_1, a1_2, a1_3, a1_4⟩ : S36)⟩ : S44) )) (Reps.none _ _))); intro v1482 Ba ho24 hb hg_ hnew_; clear hg_ hnew_; (first | rw [← Ny1481.out] at ho24 | (simp only [Int.reduceToNat] at ho24; rw [← Ny1481.out] at ho24)); have AC := zm (Kd.R_lower ho24 (below_size zB)); replace AA := zy AA hb; replace AB := zy AB hb; replace HB := zm (below_step zB hb); clear hb ho24; obtain ⟨AQ, AP, eo25⟩ := Kd.R_slice AC.out; subst eo25) | ((with_reducible refine gate_dst (N := 6) rfl ?_); refine zbox 6 #[.slice none 0 0, .slice none 0 0] 27 ?_; intro AM hg Bb hbox hb; replace AC := zw AC hb; have AF := zm (hbox); have AW := zge w hg zB; have AT := zge w hg zB; replace HB := zm (below_step zB hb); have AD := zlt hg (zb AA); have AI := zgt hg (zb AA); replace AA := zy AA hb; have AE := zlt hg (zb AB); have AJ := zgt hg (zb AB); replace AB := zy AB hb; clear hb hbox hg; have BN := AI.out; have BS := AD.out; have BO := AJ.out; have BT := AE.out; obtain ⟨Ak, Al, Az, B0⟩ := zc2 AF) | ((with_reducible refine gate_callee (f := 27) rfl ?_); refine zg (some 13) #[.agg #[.slice AQ y1481.length AP, .slice none 0 0]] Try.func27 ?_; (refine (impl_StateOk.calls k _ _ y1481 _ _ ([] : List (S58)) false _ ?side1 ?side2 ?side3 ?side4 A3.out).mono ?_); (case side1 => refine (Kd.R_reads' (e := 44) (base := w.heap.size) (ok := fun k_ => True) (n := y1481.length) (c := AP) ?_).2.2; exact (zrs <| (Kd.R_mono (zfr (zfr (Kd.R_types AC.out AF.out (by decide)))) (fun _ h_ => h_.1)))); (case side2 => exact (Kd.R_reads' AC.out).2.1); (case side3 => exact Kd.C_nil _ _); (case side4 => exact Nat.le_refl _); rintro e Bc ⟨rfl, hb⟩; refine ⟨_, rfl, ?_⟩; replace AC := zm (Kd.R_below (zrs <| (Kd.R_mono (zfr (zfr (Kd.R_types AC.out AF.out (by decide)))) (fun _ h_ => h_.1))) hb); replace AA := zyb hb (zfar (zfar (zb AA) AD) AD); replace AB := zyb hb (zfar (zfar (zb AB) AE) AE); replace AF := zm (blk_below (g := AM) (o := .cells #[.slice AQ y1481.length AP, .slice none 0 0] 27 (0, 0)) (zput (zput (zb AF) 0) 1) hb); replace HB := zm (below_step zB hb); clear hb; obtain ⟨Am, An, B2, B3⟩ := zc2 AB))
  refine bodyPost_ret (results_ct rfl _ _ AL 27 #[.slice none 0 0, .slice none 0 0] (0, 0) _ rfl (zput (zput (zb AB) 0) 1) Try.underlying27 rfl (by kernel_rfl)) rfl ?_
  exact ⟨_, _, zE, znil, znil, zB⟩

/-! ### spec_DrawSingle: function 29 -/
def spec_DrawSingle.f (k : Nat) (l0 : List Int) : Option (Int × Int × Int × Int × Int × ByteArray) := (spec_l1New.f k l0).bind fun bt1487 => ((spec_l1Below.f bt1487.1 bt1487.2.1 bt1487.2.2 7).bind fun bt1491 => ((spec_l2Draw.f bt1487.1 bt1491.2.1 bt1491.2.2).bind fun bt1494 => (some (wrap64 (bt1491.1 - 1), bt1494.1, bt1494.2.1, bt1494.2.2.1, bt1494.2.2.2.1, bt1494.2.2.2.2.1))))
theorem spec_DrawSingle.mono : ∀ a0 k, LeO (spec_DrawSingle.f k a0) (spec_DrawSingle.f (k + 1) a0) := by
 intro a0 k
 unfold spec_DrawSingle.f
 repeat' first | (with_reducible first | exact LeO.refl _ | exact LeO.none _ | refine LeO.ite ?_ ?_ | refine LeO.bind ?_ (fun _ => ?_) | apply spec_l1New.mono) | apply spec_l1New.mono | exact LeO.none _ | refine LeO.ite ?_ ?_ | refine LeO.bind ?_ (fun _ => ?_)
set_option maxHeartbeats 8000000 in
set_option maxRecDepth 100000 in
theorem spec_DrawSingle.calls (k : Nat) (A0 : Option Addr) (c0 : Nat) (l0 : List Int) (r1 : Int) (r2 : Int) (r3 : Int) (r4 : Int) (r5 : Int) (r6 : ByteArray) (w : World) (hr0 : Kd.C (Kd.int .u8) w A0 l0.length l0) (hc0 : l0.length ≤ c0) (h : spec_DrawSingle.f k l0 = some (r1, r2, r3, r4, r5, r6)) :
  Calls Try.prog 29 #[.slice A0 l0.length c0] w fun e w' => e = .returned (.tuple #[.int .i64 r1, .agg #[.int .i64 r2, .int .i64 r3, .int .i64 r4, .int .i64 r5, .string r6]]) ∧ Below w.heap.size w w' := by
 have hu36 := Try.underlying36; have HR0 := zm hr0; have Aj := zm hc0; clear hr0 hc0; have HB := zm (Below.refl w.heap.size w); have H : ((spec_l1New.f k l0).bind fun AD => ((spec_l1Below.f AD.1 AD.2.1 AD.2.2 7).bind fun AE => ((spec_l2Draw.f AD.1 AE.2.1 AE.2.2).bind fun AC => (some (wrap64 (AE.1 - 1), AC.1, AC.2.1, AC.2.2.1, AC.2.2.2.1, AC.2.2.2.2.1))))) = some (r1, r2, r3, r4, r5, r6) := h; clear h; replace H := Option.bind_eq_some_iff.mp H; obtain ⟨⟨AG, AH, AI⟩, AU, H⟩ := H; (try dsimp only at H); have A2 := zm AU; clear AU; replace H := Option.bind_eq_some_iff.mp H; obtain ⟨⟨AR, AJ, AK⟩, AV, H⟩ := H; (try dsimp only at H); have A3 := zm AV; clear AV; replace H := Option.bind_eq_some_iff.mp H; obtain ⟨⟨AL, AM, AN, AO, AP, AS, AT⟩, AW, H⟩ := H; (try dsimp only at H); have A4 := zm AW; clear AW; simp only [Option.some.injEq, Prod.mk.injEq] at H; obtain ⟨rfl, rfl, rfl, rfl, rfl, rfl⟩ := H; go_enter Try.func29, Try.ntmps29
 go_wp2_with (first | ((with_reducible refine gate_dst (N := 3) rfl ?_); refine zbox 3 #[.int .i64 0, .int .i64 0, .int .i64 0, .int .i64 0, .string (⟨#[]⟩ : ByteArray)] 36 ?_; intro AQ hg w5 hbox hb; have AA := zm (hbox); have Ai := zge w hg zB; have Ah := zge w hg zB; replace HB := zm (below_step zB hb); clear hb hbox hg) | ((with_reducible refine gate_callee (f := 73) rfl ?_); refine zg (some 7) #[.slice A0 l0.length c0] Try.func73 ?_; (with_reducible refine (spec_l1New.calls k _ _ l0 AG AH AI w _ zB HR0.out Aj.out A2.out).mono ?_); rintro e w6 ⟨g1490, rfl, hi, hb, hb2⟩; refine ⟨_, rfl, ?_⟩; replace HB := zm hb; have HI0 := zm hi; have AF := zm (IsS97.ne_blk hi (blk_below (zb AA) hb2) (by decide)); have AB := zm (Ne.symm (IsS97.ne_blk hi (blk_below (zb AA) hb2) (by decide))); replace AA := zm (blk_below (zb AA) hb2); clear hb hb2 hi) | ((with_reducible refine gate_callee (f := 77) rfl ?_); refine zg (some 9) #[.pointer (some ⟨g1490, 0, none⟩), .int .i64 7] Try.func77 ?_; (with_reducible refine (spec_l1Below.calls g1490 AG AH AI 7 AR AJ AK w _ zI zH A3.out).mono ?_); rintro e w7 ⟨rfl, hi, hb, hk⟩; refine ⟨_, rfl, ?_⟩; replace AA := zkk hk (zb AA) AB; replace HB := zm hb; replace HI0 := zm hi; clear hb hk hi) | ((with_reducible refine gate_callee (f := 78) rfl ?_); refine zg (some 13) #[.pointer (some ⟨g1490, 0, none⟩)] Try.func78 ?_; (with_reducible refine (spec_l2Draw.calls g1490 AG AJ AK AL AM AN AO AP AS AT w _ zI zH A4.out).mono ?_); rintro e w8 ⟨rfl, hi, hb, hk⟩; refine ⟨_, rfl, ?_⟩; replace AA := zkk hk (zb AA) AB; replace HB := zm hb; replace HI0 := zm hi; clear hb hk hi; have Ak := AB.out; have Al := AF.out; obtain ⟨AX, AY, AZ, Aa, Ab, Ac, Ad, Ae, Af, Ag⟩ := zc5 AA))
 refine bodyPost_ret (results_tc rfl _ _ AQ 36 #[.int .i64 AL, .int .i64 AM, .int .i64 AN, .int .i64 AO, .string AP] (0, 0) _ rfl (zput (zput (zput (zput (zput (zb AA) 0) 1) 2) 3) 4) Try.underlying36 rfl (by kernel_rfl)) rfl ?_
 exact ⟨zE, zH⟩

/-! ### spec_PutText: function 119, by hand -/
def spec_PutText.f (k : Nat) (a0 : ByteArray) : Option (List Int) := (spec_PutNum.f k (a0.size : Int)).bind fun t1 => if t1.length + a0.size < 140737488355328 then some (t1 ++ bytesOf a0) else none
theorem spec_PutText.mono : ∀ a0 k, LeO (spec_PutText.f k a0) (spec_PutText.f (k + 1) a0) := by
 intro a0 k
 unfold spec_PutText.f
 exact LeO.bind (spec_PutNum.mono _ _) (fun _ => LeO.refl _)
set_option maxHeartbeats 8000000 in
set_option maxRecDepth 100000 in
theorem spec_PutText.calls (k : Nat) (a0 : ByteArray) (r : List Int) (w : World) (h : spec_PutText.f k a0 = some r) :
 Calls Try.prog 119 #[.string a0] w fun e w' => ∃ v0_ : Value, e = .returned (v0_) ∧ Kd.R (Kd.int .u8) 5 w' w.heap.size (fun _ => True) v0_ r ∧ Below w.heap.size w w' := by
 have HB := zm (Below.refl w.heap.size w); have H := Option.bind_eq_some_iff.mp h; clear h; obtain ⟨t1, AB, H⟩ := H; have A1 := zm AB; clear AB
 by_cases c1 : t1.length + a0.size < 140737488355328
 ·rw [if_pos c1] at H; have LM := zm c1; have HSZ := zm (show a0.size ≤ 9223372036854775807 by omega); clear c1; obtain rfl := Option.some.inj H; clear H; go_enter Try.func119, Try.ntmps119
  go_wp2_with (first
   | ((with_reducible refine gate_callee (f := 82) rfl ?_); refine zg (some 5) #[.int .i64 (a0.size : Int)] Try.func82 ?_; (with_reducible refine (spec_PutNum.calls k (a0.size : Int) t1 _ A1.out).mono ?_); rintro e w8 ⟨v1, rfl, ho0, hb⟩; refine ⟨_, rfl, ?_⟩; have AA := zm (Kd.R_lower ho0 (below_size zB)); replace HB := zm (below_step zB hb); clear hb ho0)
   | ((with_reducible refine gate_dst (N := 7) rfl ?_); refine zcv a0 w8 9 22 5 Try.underlying9 Try.underlying22 Try.underlying5 HSZ.out rfl (fun kb_ => by first | (go_simp; done) | (go_simp; rfl)) ?_; intro A7 c7 w9 hc7 hl7 hb; have AC := zm hc7; replace AA := zm (Kd.R_below AA.out hb); replace HB := zm (below_step zB hb); clear hb hc7 hl7)
   | ((with_reducible refine gate_builtin (b := .append) (xs := #[.tmp 5, .tmp 7]) rfl ?_); at_builtin; refine Kd.R_append_rows (Kd.int .u8) (w0 := w) w.heap.size rfl (.tmp 5) (.tmp 7) 22 5 (.int .u8 0) 1 rfl Try.underlying22 info5 rfl (by decide) (by omega) v1 t1 (bytesOf a0) _ _ _ (fun _ => True) (fun _ => False) rfl rfl ?aO ?aR (fun _ _ h => h) (fun _ h => h.elim) ?aF ?aB ?aS ?aL ?_; (case aR => exact AC.out); (case aB => exact zB); (case aF => exact (fun _ _ => trivial)); (case aO => exact (zr AA)); (case aS => exact (below_size zB)); (case aL => have := LM.out; omega); intro v2 AE ho hb hg hat; replace HB := zm hb; have AD := zm ho; clear AA; clear ho hb hg hat))
  go_ret
  exact ⟨_, zE, zr AD, zB⟩
 ·rw [if_neg c1] at H
  exact absurd H (by simp)

/-! ### spec_l6Bytes: function 114 -/
mutual
def spec_l6Bytes.l0 : Nat → List Int → Int → List (S44) → List (S58) → Option (List Int)
 | 0, _, _, _, _ => none
 | k + 1, x3, x4, x1502000, x1502001 => if x4 < (x1502000.length : Int) then (if 0 ≤ x4 then (spec_l6Bytes.l1 k x3 x4 (([(rd_T44 x1502000 x4).f0, (rd_T44 x1502000 x4).f1.f0, (rd_T44 x1502000 x4).f1.f1, (rd_T44 x1502000 x4).f1.f2, (rd_T44 x1502000 x4).f1.f3] : List Int)) 0 x1502000 x1502001 ((rd_T44 x1502000 x4).f1.f0) ((rd_T44 x1502000 x4).f1.f1) ((rd_T44 x1502000 x4).f1.f2) ((rd_T44 x1502000 x4).f1.f3) ((rd_T44 x1502000 x4).f1.f4)) else (none)) else ((spec_PutNum.f k (x1502001.length : Int)).bind fun t1524 => (if x3.length + t1524.length < 140737488355328 then (spec_l6Bytes.l2 k (x3 ++ t1524) 0 x1502000 x1502001) else (none)))
def spec_l6Bytes.l1 : Nat → List Int → Int → List Int → Int → List (S44) → List (S58) → Int → Int → Int → Int → ByteArray → Option (List Int)
 | 0, _, _, _, _, _, _, _, _, _, _, _ => none
 | k + 1, x3, x4, x6, x7, x1502000, x1502001, x1507000, x1507001, x1507002, x1507003, x1507004 => if x7 < (x6.length : Int) then (if 0 ≤ x7 then ((spec_PutNum.f k (rd x6 x7)).bind fun t1512 => (if x3.length + t1512.length < 140737488355328 then (spec_l6Bytes.l1 k (x3 ++ t1512) x4 x6 (wrap64 (x7 + 1)) x1502000 x1502001 x1507000 x1507001 x1507002 x1507003 x1507004) else (none))) else (none)) else ((spec_PutText.f k x1507004).bind fun t1518 => (if x3.length + t1518.length < 140737488355328 then (spec_l6Bytes.l0 k (x3 ++ t1518) (wrap64 (x4 + 1)) x1502000 x1502001) else (none)))
def spec_l6Bytes.l2 : Nat → List Int → Int → List (S44) → List (S58) → Option (List Int)
 | 0, _, _, _, _ => none
 | k + 1, x3, x8, x1502000, x1502001 => if x8 < (x1502001.length : Int) then (if 0 ≤ x8 then ((spec_PutNum.f k ((rd_T58 x1502001 x8).f0)).bind fun t1531 => (if x3.length + t1531.length < 140737488355328 then ((some (x3 ++ t1531 : List Int)).bind fun y1534 => ((spec_PutNum.f k ((rd_T58 x1502001 x8).f1)).bind fun t1538 => (if y1534.length + t1538.length < 140737488355328 then (spec_l6Bytes.l2 k (y1534 ++ t1538) (wrap64 (x8 + 1)) x1502000 x1502001) else (none)))) else (none))) else (none)) else (some x3)
end
def spec_l6Bytes.f (k : Nat) (l0_0 : List (S44)) (l0_1 : List (S58)) : Option (List Int) := (spec_PutNum.f k (l0_0.length : Int)).bind fun t1502 => (spec_l6Bytes.l0 k t1502 0 l0_0 l0_1)
theorem spec_l6Bytes.mono_l : ∀ k, (∀ y0 y1 y2 y3, LeO (spec_l6Bytes.l0 k y0 y1 y2 y3) (spec_l6Bytes.l0 (k + 1) y0 y1 y2 y3)) ∧ (∀ y0 y1 y2 y3 y4 y5 y6 y7 y8 y9 y10, LeO (spec_l6Bytes.l1 k y0 y1 y2 y3 y4 y5 y6 y7 y8 y9 y10) (spec_l6Bytes.l1 (k + 1) y0 y1 y2 y3 y4 y5 y6 y7 y8 y9 y10)) ∧ (∀ y0 y1 y2 y3, LeO (spec_l6Bytes.l2 k y0 y1 y2 y3) (spec_l6Bytes.l2 (k + 1) y0 y1 y2 y3))
 | 0 => ⟨fun _ _ _ _ r h => by simp [spec_l6Bytes.l0] at h, fun _ _ _ _ _ _ _ _ _ _ _ r h => by simp [spec_l6Bytes.l1] at h, fun _ _ _ _ r h => by simp [spec_l6Bytes.l2] at h⟩
 | k + 1 => by
  obtain ⟨ih0, ih1, ih2⟩ := spec_l6Bytes.mono_l k
  refine ⟨?_, ?_, ?_⟩
  ·intro y0 y1 y2 y3
   unfold spec_l6Bytes.l0
   repeat' first | (with_reducible first | exact LeO.refl _ | exact LeO.none _ | refine LeO.ite ?_ ?_ | refine LeO.bind ?_ (fun _ => ?_) | apply ih0 | apply ih1 | apply ih2 | apply spec_PutNum.mono | apply spec_PutText.mono) | apply ih0 | apply ih1 | apply ih2 | apply spec_PutNum.mono | apply spec_PutText.mono | exact LeO.none _ | refine LeO.ite ?_ ?_ | refine LeO.bind ?_ (fun _ => ?_)
  ·intro y0 y1 y2 y3 y4 y5 y6 y7 y8 y9 y10
   unfold spec_l6Bytes.l1
   repeat' first | (with_reducible first | exact LeO.refl _ | exact LeO.none _ | refine LeO.ite ?_ ?_ | refine LeO.bind ?_ (fun _ => ?_) | apply ih0 | apply ih1 | apply ih2 | apply spec_PutNum.mono | apply spec_PutText.mono) | apply ih0 | apply ih1 | apply ih2 | apply spec_PutNum.mono | apply spec_PutText.mono | exact LeO.none _ | refine LeO.ite ?_ ?_ | refine LeO.bind ?_ (fun _ => ?_)
  ·intro y0 y1 y2 y3
   unfold spec_l6Bytes.l2
   repeat' first | (with_reducible first | exact LeO.refl _ | exact LeO.none _ | refine LeO.ite ?_ ?_ | refine LeO.bind ?_ (fun _ => ?_) | apply ih0 | apply ih1 | apply ih2 | apply spec_PutNum.mono | apply spec_PutText.mono) | apply ih0 | apply ih1 | apply ih2 | apply spec_PutNum.mono | apply spec_PutText.mono | exact LeO.none _ | refine LeO.ite ?_ ?_ | refine LeO.bind ?_ (fun _ => ?_)
theorem spec_l6Bytes.mono : ∀ a0 a1 k, LeO (spec_l6Bytes.f k a0 a1) (spec_l6Bytes.f (k + 1) a0 a1) := by
 intro a0 a1 k; obtain ⟨ih0, ih1, ih2⟩ := spec_l6Bytes.mono_l k
 unfold spec_l6Bytes.f
 repeat' first | (with_reducible first | exact LeO.refl _ | exact LeO.none _ | refine LeO.ite ?_ ?_ | refine LeO.bind ?_ (fun _ => ?_) | apply ih0 | apply ih1 | apply ih2 | apply spec_PutNum.mono | apply spec_PutText.mono) | apply ih0 | apply ih1 | apply ih2 | apply spec_PutNum.mono | apply spec_PutText.mono | exact LeO.none _ | refine LeO.ite ?_ ?_ | refine LeO.bind ?_ (fun _ => ?_)
def spec_l6Bytes.T6 : Bool × List (List Nat × List Nat) := (true, [([], []), ([0], [0]), ([], []), ([1, 2], [1, 2]), ([3], [3]), ([4], [4]), ([], []), ([6], [6]), ([], []), ([8], [8]), ([], []), ([10], [10]), ([], []), ([12], [12]), ([5, 7, 9, 11, 13], [5, 7, 9, 11, 13]), ([14, 0, 1, 2, 3, 4, 5, 6, 7, 8, 9, 10, 11, 12, 13, 14], [14])])
def spec_l6Bytes.B6 : List Nat := [0, 1, 0, 7, 15, 31, 0, 64, 0, 256, 0, 1024, 0, 4096, 16383, 32767]
theorem spec_l6Bytes.tab6 : rtab .any (opsOf Try.f114 6) = spec_l6Bytes.T6 := by kernel_rfl
theorem spec_l6Bytes.bits6 : waitsOk spec_l6Bytes.T6.2 spec_l6Bytes.B6 = true := by kernel_rfl
set_option maxHeartbeats 8000000 in
set_option maxRecDepth 100000 in
theorem spec_l6Bytes.calls (k : Nat) (A0_0 : Option Addr) (c0_0 : Nat) (l0_0 : List (S44)) (A0_1 : Option Addr) (c0_1 : Nat) (l0_1 : List (S58)) (r : List Int) (w : World) (hr0_0 : Kd.C k44 w A0_0 l0_0.length l0_0) (hc0_0 : l0_0.length ≤ c0_0) (hr0_1 : Kd.C k58 w A0_1 l0_1.length l0_1) (hc0_1 : l0_1.length ≤ c0_1) (h : spec_l6Bytes.f k l0_0 l0_1 = some r) :
  Calls Try.prog 114 #[.agg #[.slice A0_0 l0_0.length c0_0, .slice A0_1 l0_1.length c0_1]] w fun e w' => ∃ v0_ : Value, e = .returned (v0_) ∧ Kd.R (Kd.int .u8) 5 w' w.heap.size (fun _ => True) v0_ r ∧ Below w.heap.size w w' := by
 have hu27 := Try.underlying27; have hu36 := Try.underlying36; have HR0_0 := zm hr0_0; have HC0_0 := zm hc0_0; clear hr0_0 hc0_0; have HR0_1 := zm hr0_1; have HC0_1 := zm hc0_1; clear hr0_1 hc0_1; have HB := zm (Below.refl w.heap.size w); have H : ((spec_PutNum.f k (l0_0.length : Int)).bind fun AY => (spec_l6Bytes.l0 k AY 0 l0_0 l0_1)) = some r := h; clear h; replace H := Option.bind_eq_some_iff.mp H; obtain ⟨AY, BW, H⟩ := H; (try dsimp only at H); have A2 := zm BW; clear BW
 have H' := zm H
 clear H; go_enter Try.func114, Try.ntmps114
 go_wp2_with (first | ((with_reducible refine gate_dst (N := 1) rfl ?_); refine zbox 1 #[.slice A0_0 l0_0.length c0_0, .slice A0_1 l0_1.length c0_1] 27 ?_; intro AN hg w3 hbox hb; have AB := zm (hbox); have C7 := zge w hg zB; have C5 := zge w hg zB; replace HB := zm (below_step zB hb); clear hb hbox hg; obtain ⟨Aa, Ab, Ac, Ad⟩ := zc2 AB) | ((with_reducible refine gate_callee (f := 82) rfl ?_); refine zg (some 12) #[.int .i64 (l0_0.length : Int)] Try.func82 ?_; (with_reducible refine (spec_PutNum.calls k (l0_0.length : Int) AY _ A2.out).mono ?_); rintro e w5 ⟨v1503, rfl, ho0, hb⟩; refine ⟨_, rfl, ?_⟩; have BJ := zm (Kd.R_lower ho0 (below_size zB)); replace AB := zy AB hb; replace HB := zm (below_step zB hb); clear hb ho0))
 go_loopg [3, 4] k (fun kq v3 v4 w' => ∃ (AP : List Int) (AA : Int), v4 = .int .i64 AA ∧ Aside0 (spec_l6Bytes.l0 kq AP AA l0_0 l0_1 = some r) ∧ Aside0 (kq ≤ k) ∧ Aside0 (Kd.R (Kd.int .u8) 5 w' w.heap.size (fun _ => True) v3 AP) ∧ Aside0 (w'.heap[AN]? = some (.cells #[(.slice A0_0 l0_0.length c0_0), (.slice A0_1 l0_1.length c0_1)] 27 (0, 0))) ∧ Aside0 (Below w.heap.size w w'))
 case atStart => exact ⟨(AY), (0), zF, H', ⟨Nat.le_refl _⟩, ⟨zr BJ⟩, ⟨zb AB⟩, ⟨zB⟩⟩
 case round =>
  clear H'; (try clear Aa); (try clear Ab); (try clear Ac); (try clear Ad); obtain ⟨AP, AA, rfl, HA, Ae, AC, AB, HB⟩ := hrel
  cases gk with
  | zero => exact absurd HA.out (by simp [spec_l6Bytes.l0])
  | succ k1 =>
   have H := HA.out; clear HA; simp only [spec_l6Bytes.l0] at H
   by_cases c6 : AA < (l0_0.length : Int)
   ·rw [if_pos c6] at H; have Ak : decide (AA < (l0_0.length : Int)) = true := decide_eq_true c6; clear c6
    by_cases c7 : 0 ≤ AA
    ·rw [if_pos c7] at H; have Ba : decide (0 ≤ AA) = true := decide_eq_true c7; clear c7
     obtain ⟨y1508, hy1508⟩ : ∃ y_ : List Int, y_ = (([(rd_T44 l0_0 AA).f0, (rd_T44 l0_0 AA).f1.f0, (rd_T44 l0_0 AA).f1.f1, (rd_T44 l0_0 AA).f1.f2, (rd_T44 l0_0 AA).f1.f3] : List Int)) := ⟨_, rfl⟩
     replace H : (spec_l6Bytes.l1 k1 AP AA y1508 0 l0_0 l0_1 ((rd_T44 l0_0 AA).f1.f0) ((rd_T44 l0_0 AA).f1.f1) ((rd_T44 l0_0 AA).f1.f2) ((rd_T44 l0_0 AA).f1.f3) ((rd_T44 l0_0 AA).f1.f4)) = some r := by first | (rw [hy1508]; with_reducible exact H) | (have H2_ := (Option.bind_some _ _).symm.trans H; rw [hy1508]; with_reducible exact H2_) | (have H2_ := (Option.bind_some _ _).symm.trans H; with_reducible exact H2_) | with_reducible exact H | (rw [hy1508]; exact H) | exact H
     have Ny1508 := zm hy1508; clear hy1508
     have H' := zm H
     clear H; obtain ⟨BQ, BR, BS, BT⟩ := zc2 AB; have p1505 : 0 ≤ (AA : Int) := zd; have q1505 : AA < (l0_0.length : Int) := zd; obtain ⟨ad1505, e1505, hx1505_0, hx1505_1, hx1505_2, hx1505_3, hx1505_4, hx1505_5⟩ := at_T44 (Kd.C_below HR0_0.out HB.out) AA p1505 q1505; cases e1505; replace p1505 := eq_true p1505; replace q1505 := eq_true q1505
     try go_wp2_with (first | ((with_reducible refine gate_dst (N := 5) rfl ?_); refine zbox 5 #[.int .i64 0, .int .i64 0, .int .i64 0, .int .i64 0, .string (⟨#[]⟩ : ByteArray)] 36 ?_; intro AG hg w9 hbox hb; replace AC := zw AC hb; have AD := zm (hbox); have C8 := zge w hg zB; have C6 := zge w hg zB; replace HB := zm (below_step zB hb); have AF := zlt hg (zb AB); have AU := zgt hg (zb AB); replace AB := zy AB hb; clear hb hbox hg; have CB := AU.out; have CD := AF.out; obtain ⟨As, At, Au, Av, Aw, Az, B0, B2, B3, BA⟩ := zc5 AD))
     obtain ⟨Ai, hW_⟩ : ∃ q, q = (((((w9.setCell ⟨AG, 0, none⟩ (.int .i64 ((rd_T44 l0_0 AA).f1.f0))).setCell ⟨AG, 1, none⟩ (.int .i64 ((rd_T44 l0_0 AA).f1.f1))).setCell ⟨AG, 2, none⟩ (.int .i64 ((rd_T44 l0_0 AA).f1.f2))).setCell ⟨AG, 3, none⟩ (.int .i64 ((rd_T44 l0_0 AA).f1.f3))).setCell ⟨AG, 4, none⟩ (.string ((rd_T44 l0_0 AA).f1.f4))) := ⟨_, rfl⟩
     have n0_ : Aside0 (Kd.R (Kd.int .u8) 5 Ai w.heap.size (fun _ => True) u3 AP) := ⟨by rw [hW_]; exact zrs <| Kd.R_mono (zfr (zfr (zfr (zfr (zfr (Kd.R_types AC.out AD.out (by decide))))))) (fun _ hk => trivial)⟩; have n1_ : Aside0 (Ai.heap[AN]? = some (.cells #[.slice (some ad1505) l0_0.length c0_0, .slice A0_1 l0_1.length c0_1] 27 (0, 0))) := ⟨by rw [hW_]; exact zfar (zfar (zfar (zfar (zfar (zb AB) AF) AF) AF) AF) AF⟩; have n2_ : Aside0 (Ai.heap[AG]? = some (.cells #[.int .i64 ((rd_T44 l0_0 AA).f1.f0), .int .i64 ((rd_T44 l0_0 AA).f1.f1), .int .i64 ((rd_T44 l0_0 AA).f1.f2), .int .i64 ((rd_T44 l0_0 AA).f1.f3), .string ((rd_T44 l0_0 AA).f1.f4)] 36 (0, 0))) := ⟨by rw [hW_]; exact zput (zput (zput (zput (zput (zb AD) 0) 1) 2) 3) 4⟩; have n3_ : Aside0 (Below w.heap.size w Ai) := ⟨by rw [hW_]; exact zB⟩
     rw [← hW_]
     clear hW_; (try clear AC); (try clear AB); (try clear AD); (try clear HB); have AC := n0_; have AB := n1_; have AD := n2_; have HB := n3_; clear n0_ n1_ n2_ n3_; replace AC := zm (Kd.R_drew AC.out); replace AB := zq AB; replace AD := zq AD; replace HB := zm (below_drew1 HB.out); have p1507 : 0 ≤ (AA : Int) := zd; have q1507 : AA < (l0_0.length : Int) := zd; obtain ⟨ad1507, e1507, hx1507_0, hx1507_1, hx1507_2, hx1507_3, hx1507_4, hx1507_5⟩ := at_T44 HR0_0.out AA p1507 q1507; have hw1507_5 := hx1507_5; have hw1507_4 := hx1507_4; have hw1507_3 := hx1507_3; have hw1507_2 := hx1507_2; have hw1507_1 := hx1507_1; have hw1507_0 := hx1507_0
     obtain rfl : ad1505 = ad1507 := (by injection e1507)
     replace hx1507_0 := zx HB hx1507_0; replace hx1507_1 := zx HB hx1507_1; replace hx1507_2 := zx HB hx1507_2; replace hx1507_3 := zx HB hx1507_3; replace hx1507_4 := zx HB hx1507_4; replace hx1507_5 := zx HB hx1507_5; replace p1507 := eq_true p1507; replace q1507 := eq_true q1507
     refine start_ (n := 16) (S := fun w' => w'.cell? ⟨AN, 0, none⟩ = some (.slice (some ad1505) l0_0.length c0_0) ∧ w'.cell? ⟨AN, 1, none⟩ = some (.slice A0_1 l0_1.length c0_1) ∧ w'.cell? ⟨AG, 0, none⟩ = some (.int .i64 ((rd_T44 l0_0 AA).f1.f0)) ∧ w'.cell? ⟨AG, 1, none⟩ = some (.int .i64 ((rd_T44 l0_0 AA).f1.f1)) ∧ w'.cell? ⟨AG, 2, none⟩ = some (.int .i64 ((rd_T44 l0_0 AA).f1.f2)) ∧ w'.cell? ⟨AG, 3, none⟩ = some (.int .i64 ((rd_T44 l0_0 AA).f1.f3)) ∧ w'.cell? ⟨AG, 4, none⟩ = some (.string ((rd_T44 l0_0 AA).f1.f4)) ∧ w'.cell? (ad1505.add ((AA).toNat * 6)) = some (.int .i64 ((rd_T44 l0_0 AA).f0)) ∧ w'.cell? ⟨(ad1505.add ((AA).toNat * 6)).block, (ad1505.add ((AA).toNat * 6)).off + 1, none⟩ = some (.int .i64 ((rd_T44 l0_0 AA).f1.f0)) ∧ w'.cell? ⟨(ad1505.add ((AA).toNat * 6)).block, (ad1505.add ((AA).toNat * 6)).off + 2, none⟩ = some (.int .i64 ((rd_T44 l0_0 AA).f1.f1)) ∧ w'.cell? ⟨(ad1505.add ((AA).toNat * 6)).block, (ad1505.add ((AA).toNat * 6)).off + 3, none⟩ = some (.int .i64 ((rd_T44 l0_0 AA).f1.f2)) ∧ w'.cell? ⟨(ad1505.add ((AA).toNat * 6)).block, (ad1505.add ((AA).toNat * 6)).off + 4, none⟩ = some (.int .i64 ((rd_T44 l0_0 AA).f1.f3)) ∧ w'.cell? ⟨(ad1505.add ((AA).toNat * 6)).block, (ad1505.add ((AA).toNat * 6)).off + 5, none⟩ = some (.string ((rd_T44 l0_0 AA).f1.f4))) (ds := []) (zl 16 0) (by kernel_rfl) rfl rfl zS (fun hHeld => ?_); refine with_tabW spec_l6Bytes.tab6 spec_l6Bytes.bits6 (fun HT_ HW_ => ?_)
     generalize Ai.drew = CJ at AC AB AD HB hx1507_0 hx1507_1 hx1507_2 hx1507_3 hx1507_4 hx1507_5 hHeld ⊢
     refine zu 0 26 16 1 ?_
     refine zu 2 28 16 5 ?_
     refine zu 6 32 16 69 ?_
     refine zu 8 34 16 325 ?_
     refine zu 10 36 16 1349 ?_
     refine zu 12 38 16 5445 ?_
     refine zv 1 27 16 5447 ?_
     refine zu 3 29 16 5455 ?_
     refine zu 4 30 16 5471 ?_
     refine zv 5 31 16 5503 ?_
     refine zv 7 33 16 5631 ?_
     refine zv 9 35 16 6143 ?_
     refine zv 11 37 16 8191 ?_
     refine zv 13 39 16 16383 ?_
     refine zo 14 (some 40) (zl 16 32767) (fun K hK => ?_)
     refine Kd.R_lit_step (Kd.int .i64) _ 3 ?hg (N := 40) ?hd (xs := ([(rd_T44 l0_0 AA).f0, (rd_T44 l0_0 AA).f1.f0, (rd_T44 l0_0 AA).f1.f1, (rd_T44 l0_0 AA).f1.f2, (rd_T44 l0_0 AA).f1.f3] : List Int)) (inner := [.int .i64 ((rd_T44 l0_0 AA).f0), .int .i64 ((rd_T44 l0_0 AA).f1.f0), .int .i64 ((rd_T44 l0_0 AA).f1.f1), .int .i64 ((rd_T44 l0_0 AA).f1.f2), .int .i64 ((rd_T44 l0_0 AA).f1.f3)]) (ok := fun _ => True) (okp := fun _ => True) ?hr ?hp (fun _ hk => hk) trivial (Below.refl _ _) (Nat.le_refl _) (by simp) ?_; (case hd => rfl); (case hg => rfl); (case hr => first | (go_simp; done) | (go_simp; rfl)); (case hp => exact (Reps.one (show Kd.M (Kd.int .i64) _ _ _ ((rd_T44 l0_0 AA).f0) [.int .i64 ((rd_T44 l0_0 AA).f0)] from rfl) (Reps.one (show Kd.M (Kd.int .i64) _ _ _ ((rd_T44 l0_0 AA).f1.f0) [.int .i64 ((rd_T44 l0_0 AA).f1.f0)] from rfl) (Reps.one (show Kd.M (Kd.int .i64) _ _ _ ((rd_T44 l0_0 AA).f1.f1) [.int .i64 ((rd_T44 l0_0 AA).f1.f1)] from rfl) (Reps.one (show Kd.M (Kd.int .i64) _ _ _ ((rd_T44 l0_0 AA).f1.f2) [.int .i64 ((rd_T44 l0_0 AA).f1.f2)] from rfl) (Reps.one (show Kd.M (Kd.int .i64) _ _ _ ((rd_T44 l0_0 AA).f1.f3) [.int .i64 ((rd_T44 l0_0 AA).f1.f3)] from rfl) (Reps.none _ _)))))))
     intro v1509 CK ho15 hb hg_ hnew_; clear hg_ hnew_
     (first | rw [← Ny1508.out] at ho15 | (simp only [Int.reduceToNat] at ho15; rw [← Ny1508.out] at ho15))
     replace AC := zw AC hb; have BK := zm (Kd.R_lower ho15 (below_size zB)); replace AB := zy AB hb; replace AD := zy AD hb; replace HB := zm (below_step zB hb); clear hb ho15; refine hK.out _ _ zS (fun hHeld => ?_); clear hK K; refine zn (N := some 40) ?_
     refine zu 15 6 16 65535 ?_
     refine done_ (done_of HT_.out (by kernel_rfl)) ?_
     try go_wp2
     go_loopg [3, 7] k1 (fun kq v3 v7 w' => ∃ (AI : List Int) (AJ : Int), v7 = .int .i64 AJ ∧ Aside0 (spec_l6Bytes.l1 kq AI AA y1508 AJ l0_0 l0_1 ((rd_T44 l0_0 AA).f1.f0) ((rd_T44 l0_0 AA).f1.f1) ((rd_T44 l0_0 AA).f1.f2) ((rd_T44 l0_0 AA).f1.f3) ((rd_T44 l0_0 AA).f1.f4) = some r) ∧ Aside0 (kq ≤ k1) ∧ Aside0 (Kd.R (Kd.int .u8) 5 w' w.heap.size (fun _ => True) v3 AI) ∧ Aside0 (Kd.R (Kd.int .i64) 3 w' w.heap.size (fun _ => True) v1509 y1508) ∧ Aside0 (w'.heap[AN]? = some (.cells #[(.slice (some ad1505) l0_0.length c0_0), (.slice A0_1 l0_1.length c0_1)] 27 (0, 0))) ∧ Aside0 (w'.heap[AG]? = some (.cells #[.int .i64 ((rd_T44 l0_0 AA).f1.f0), .int .i64 ((rd_T44 l0_0 AA).f1.f1), .int .i64 ((rd_T44 l0_0 AA).f1.f2), .int .i64 ((rd_T44 l0_0 AA).f1.f3), .string ((rd_T44 l0_0 AA).f1.f4)] 36 (0, 0))) ∧ Aside0 (Below w.heap.size w w'))
     case atStart => exact ⟨(AP), (0), zF, H', ⟨Nat.le_refl _⟩, ⟨zr AC⟩, ⟨zr BK⟩, ⟨zb AB⟩, ⟨zb AD⟩, ⟨zB⟩⟩
     case round =>
      clear H'; (try clear c6); (try clear Ak); (try clear c7); (try clear Ba); (try clear As); (try clear At); (try clear Au); (try clear Av); (try clear Aw); (try clear Aa); (try clear Ab); (try clear BQ); (try clear BR); (try clear Az); (try clear B0); (try clear B2); (try clear B3); (try clear BA); (try clear Ac); (try clear Ad); (try clear BS); (try clear BT); (try clear hx1505_0); (try clear hx1505_1); (try clear hx1505_2); (try clear hx1505_3); (try clear hx1505_4); (try clear hx1505_5); (try clear hx1507_0); (try clear hx1507_1); (try clear hx1507_2); (try clear hx1507_3); (try clear hx1507_4); (try clear hx1507_5); (try clear p1505); (try clear p1507); (try clear q1505); (try clear q1507); obtain ⟨AI, AJ, rfl, HA, AZ, AC, AK, AB, AD, HB⟩ := hrel
      cases gk with
      | zero => exact absurd HA.out (by simp [spec_l6Bytes.l1])
      | succ k2 =>
       have H := HA.out; clear HA; simp only [spec_l6Bytes.l1] at H
       by_cases Af : AJ < (y1508.length : Int)
       ·rw [if_pos Af] at H; have BU : decide (AJ < (y1508.length : Int)) = true := decide_eq_true Af; clear Af
        by_cases Am : 0 ≤ AJ
        ·rw [if_pos Am] at H; have C9 : decide (0 ≤ AJ) = true := decide_eq_true Am; clear Am; replace H := Option.bind_eq_some_iff.mp H; obtain ⟨AV, BD, H⟩ := H; (try dsimp only at H); have C0 := zm BD; clear BD
         by_cases An : AI.length + AV.length < 140737488355328
         ·rw [if_pos An] at H; have LMc19 := zm An; clear An
          obtain ⟨y1515, hy1515⟩ : ∃ y_ : List Int, y_ = (AI ++ AV) := ⟨_, rfl⟩
          replace H : (spec_l6Bytes.l1 k2 y1515 AA y1508 (wrap64 (AJ + 1)) l0_0 l0_1 ((rd_T44 l0_0 AA).f1.f0) ((rd_T44 l0_0 AA).f1.f1) ((rd_T44 l0_0 AA).f1.f2) ((rd_T44 l0_0 AA).f1.f3) ((rd_T44 l0_0 AA).f1.f4)) = some r := by first | (rw [hy1515]; with_reducible exact H) | (have H2_ := (Option.bind_some _ _).symm.trans H; rw [hy1515]; with_reducible exact H2_) | (have H2_ := (Option.bind_some _ _).symm.trans H; with_reducible exact H2_) | with_reducible exact H | (rw [hy1515]; exact H) | exact H
          have Ny1515 := zm hy1515; clear hy1515
          have H' := zm H
          clear H; obtain ⟨CF, CH, eo20⟩ := Kd.R_slice AK.out; subst eo20; have p1511 : 0 ≤ (AJ : Int) := zd; have q1511 : AJ < (y1508.length : Int) := zd; obtain ⟨ad1511, e1511, hx1511_0⟩ := Kd.at_int (Kd.R_reads' AK.out).2.2 AJ p1511 q1511; cases e1511; replace p1511 := eq_true p1511; replace q1511 := eq_true q1511
          go_wp2_with (first | ((with_reducible refine gate_callee (f := 82) rfl ?_); refine zg (some 52) #[.int .i64 (rd y1508 AJ)] Try.func82 ?_; (with_reducible refine (spec_PutNum.calls k2 (rd y1508 AJ) AV _ C0.out).mono ?_); rintro e CL ⟨v1513, rfl, ho0, hb⟩; refine ⟨_, rfl, ?_⟩; replace AK := zw AK hb; have AQ := zm (Kd.R_lower (Kd.R_new' ho0 (Kd.R_lt (zr AC))) (below_size zB)); replace AC := zm (Kd.R_elder' (zr AC) (Kd.R_base ho0) hb); replace AB := zy AB hb; replace AD := zy AD hb; replace HB := zm (below_step zB hb); clear hb ho0; obtain ⟨BX, Bb, eo23⟩ := Kd.R_slice AQ.out; subst eo23) | ((with_reducible refine gate_builtin (b := .append) (xs := #[.tmp 47, .tmp 52]) rfl ?_); at_builtin; refine Kd.R_append_rows (Kd.int .u8) (w0 := w) w.heap.size rfl (.tmp 47) (.tmp 52) 22 5 (.int .u8 0) 1 rfl Try.underlying22 info5 rfl (by decide) (by omega) u3 AI AV _ _ _ (fun k_ => some k_ ≠ (.slice BX AV.length Bb : Value).ownBlock) (fun _ => False) rfl rfl ?aO ?aR (fun _ _ h => h) (fun _ h => h.elim) ?aF ?aB ?aS ?aL ?_; (case aR => repeat (first | exact (Kd.R_reads' AQ.out).2.2 | (with_reducible refine Kd.C_alloc ?_ _) | (with_reducible refine Kd.C_drewN ?_ _) | (with_reducible refine Kd.C_drew ?_))); (case aB => exact zB); (case aF => exact (fun k_ hk => Kd.fresh' (Kd.R_lt (zr AQ)) k_ hk)); (case aO => exact (by (with_reducible repeat (first | apply Kd.R_alloc | apply Kd.R_drewN | apply Kd.R_drew)); exact Kd.R_mono AC.out (fun _ hk => hk.2))); (case aS => exact (below_size zB)); (case aL => have := LMc19.out; omega); intro v1516 CM ho hb hg hat; rw [← Ny1515.out] at ho; replace AK := zm (Kd.R_over' (zr AK) (Kd.R_typed (zr AC)) (by decide) hg); replace AB := zgr hg (zb AB) (Kd.R_ne AC.out AB.out (by decide)); replace AD := zgr hg (zb AD) (Kd.R_ne AC.out AD.out (by decide)); replace AQ := zm (Kd.R_after (ok := (fun _ => True)) (zr AQ) hg hat); replace HB := zm hb; have BL := zm (ho); clear AC; clear ho hb hg hat))
          go_roundg k2
          case measure => have := Ae.out; have := AZ.out; omega
          case rel => exact ⟨(y1515), (wrap64 (AJ + 1)), zF, H', ⟨by have := Ae.out; have := AZ.out; omega⟩, ⟨by (with_reducible repeat (first | apply Kd.R_alloc | apply Kd.R_drewN | apply Kd.R_drew)); exact Kd.R_mono BL.out (fun _ hk => trivial)⟩, ⟨zr AK⟩, ⟨zb AB⟩, ⟨zb AD⟩, ⟨zB⟩⟩
         ·rw [if_neg An] at H
          exact absurd H (by simp)
        ·rw [if_neg Am] at H
         exact absurd H (by simp)
       ·rw [if_neg Af] at H; have BU : decide (AJ < (y1508.length : Int)) = false := decide_eq_false Af; clear Af; replace H := Option.bind_eq_some_iff.mp H; obtain ⟨AW, BE, H⟩ := H; (try dsimp only at H); have C1 := zm BE; clear BE
        by_cases Ao : AI.length + AW.length < 140737488355328
        ·rw [if_pos Ao] at H; have LMc25 := zm Ao; clear Ao
         obtain ⟨y1521, hy1521⟩ : ∃ y_ : List Int, y_ = (AI ++ AW) := ⟨_, rfl⟩
         replace H : (spec_l6Bytes.l0 k2 y1521 (wrap64 (AA + 1)) l0_0 l0_1) = some r := by first | (rw [hy1521]; with_reducible exact H) | (have H2_ := (Option.bind_some _ _).symm.trans H; rw [hy1521]; with_reducible exact H2_) | (have H2_ := (Option.bind_some _ _).symm.trans H; with_reducible exact H2_) | with_reducible exact H | (rw [hy1521]; exact H) | exact H
         have Ny1521 := zm hy1521; clear hy1521
         have H' := zm H
         clear H; obtain ⟨CG, CI, eo26⟩ := Kd.R_slice AK.out; subst eo26; have CC := AU.out; have CE := AF.out; obtain ⟨Be, Bf, Bg, Bh, Bi, Bp, Bq, Br, Bs, Bt⟩ := zc5 AD
         go_wp2_with (first | ((with_reducible refine gate_callee (f := 119) rfl ?_); refine zg (some 57) #[.string ((rd_T44 l0_0 AA).f1.f4)] Try.func119 ?_; (with_reducible refine (spec_PutText.calls k2 ((rd_T44 l0_0 AA).f1.f4) AW _ C1.out).mono ?_); rintro e CN ⟨v1519, rfl, ho0, hb⟩; refine ⟨_, rfl, ?_⟩; replace AK := zw AK hb; have AR := zm (Kd.R_lower (Kd.R_new' ho0 (Kd.R_lt (zr AC))) (below_size zB)); replace AC := zm (Kd.R_elder' (zr AC) (Kd.R_base ho0) hb); replace AB := zy AB hb; replace AD := zy AD hb; replace HB := zm (below_step zB hb); clear hb ho0; obtain ⟨BY, Bc, eo31⟩ := Kd.R_slice AR.out; subst eo31) | ((with_reducible refine gate_builtin (b := .append) (xs := #[.tmp 54, .tmp 57]) rfl ?_); at_builtin; refine Kd.R_append_rows (Kd.int .u8) (w0 := w) w.heap.size rfl (.tmp 54) (.tmp 57) 22 5 (.int .u8 0) 1 rfl Try.underlying22 info5 rfl (by decide) (by omega) u3 AI AW _ _ _ (fun k_ => some k_ ≠ (.slice BY AW.length Bc : Value).ownBlock) (fun _ => False) rfl rfl ?aO ?aR (fun _ _ h => h) (fun _ h => h.elim) ?aF ?aB ?aS ?aL ?_; (case aR => repeat (first | exact (Kd.R_reads' AR.out).2.2 | (with_reducible refine Kd.C_alloc ?_ _) | (with_reducible refine Kd.C_drewN ?_ _) | (with_reducible refine Kd.C_drew ?_))); (case aB => exact zB); (case aF => exact (fun k_ hk => Kd.fresh' (Kd.R_lt (zr AR)) k_ hk)); (case aO => exact (by (with_reducible repeat (first | apply Kd.R_alloc | apply Kd.R_drewN | apply Kd.R_drew)); exact Kd.R_mono AC.out (fun _ hk => hk.2))); (case aS => exact (below_size zB)); (case aL => have := LMc25.out; omega); intro v1522 CO ho hb hg hat; rw [← Ny1521.out] at ho; replace AK := zm (Kd.R_over' (zr AK) (Kd.R_typed (zr AC)) (by decide) hg); replace AB := zgr hg (zb AB) (Kd.R_ne AC.out AB.out (by decide)); replace AD := zgr hg (zb AD) (Kd.R_ne AC.out AD.out (by decide)); replace AR := zm (Kd.R_after (ok := (fun _ => True)) (zr AR) hg hat); replace HB := zm hb; have BM := zm (ho); clear AC; clear ho hb hg hat))
         go_roundg k2
         case measure => have := Ae.out; have := AZ.out; omega
         case rel => exact ⟨(y1521), (wrap64 (AA + 1)), zF, H', ⟨by have := Ae.out; have := AZ.out; omega⟩, ⟨by (with_reducible repeat (first | apply Kd.R_alloc | apply Kd.R_drewN | apply Kd.R_drew)); exact Kd.R_mono BM.out (fun _ hk => trivial)⟩, ⟨zb AB⟩, ⟨zB⟩⟩
        ·rw [if_neg Ao] at H
         exact absurd H (by simp)
    ·rw [if_neg c7] at H
     exact absurd H (by simp)
   ·rw [if_neg c6] at H; have Ak : decide (AA < (l0_0.length : Int)) = false := decide_eq_false c6; clear c6; replace H := Option.bind_eq_some_iff.mp H; obtain ⟨AX, BF, H⟩ := H; (try dsimp only at H); have C2 := zm BF; clear BF
    by_cases Ah : AP.length + AX.length < 140737488355328
    ·rw [if_pos Ah] at H; have LMc33 := zm Ah; clear Ah
     obtain ⟨y1527, hy1527⟩ : ∃ y_ : List Int, y_ = (AP ++ AX) := ⟨_, rfl⟩
     replace H : (spec_l6Bytes.l2 k1 y1527 0 l0_0 l0_1) = some r := by first | (rw [hy1527]; with_reducible exact H) | (have H2_ := (Option.bind_some _ _).symm.trans H; rw [hy1527]; with_reducible exact H2_) | (have H2_ := (Option.bind_some _ _).symm.trans H; with_reducible exact H2_) | with_reducible exact H | (rw [hy1527]; exact H) | exact H
     have Ny1527 := zm hy1527; clear hy1527
     have H' := zm H
     clear H; obtain ⟨Ax, Ay, BB, BC⟩ := zc2 AB
     go_wp2_with (first | ((with_reducible refine gate_callee (f := 82) rfl ?_); refine zg (some 63) #[.int .i64 (l0_1.length : Int)] Try.func82 ?_; (with_reducible refine (spec_PutNum.calls k1 (l0_1.length : Int) AX _ C2.out).mono ?_); rintro e CP ⟨v1525, rfl, ho0, hb⟩; refine ⟨_, rfl, ?_⟩; have AS := zm (Kd.R_lower (Kd.R_new' ho0 (Kd.R_lt (zr AC))) (below_size zB)); replace AC := zm (Kd.R_elder' (zr AC) (Kd.R_base ho0) hb); replace AB := zy AB hb; replace HB := zm (below_step zB hb); clear hb ho0; obtain ⟨BZ, Bd, eo37⟩ := Kd.R_slice AS.out; subst eo37) | ((with_reducible refine gate_builtin (b := .append) (xs := #[.tmp 59, .tmp 63]) rfl ?_); at_builtin; refine Kd.R_append_rows (Kd.int .u8) (w0 := w) w.heap.size rfl (.tmp 59) (.tmp 63) 22 5 (.int .u8 0) 1 rfl Try.underlying22 info5 rfl (by decide) (by omega) u3 AP AX _ _ _ (fun k_ => some k_ ≠ (.slice BZ AX.length Bd : Value).ownBlock) (fun _ => False) rfl rfl ?aO ?aR (fun _ _ h => h) (fun _ h => h.elim) ?aF ?aB ?aS ?aL ?_; (case aR => repeat (first | exact (Kd.R_reads' AS.out).2.2 | (with_reducible refine Kd.C_alloc ?_ _) | (with_reducible refine Kd.C_drewN ?_ _) | (with_reducible refine Kd.C_drew ?_))); (case aB => exact zB); (case aF => exact (fun k_ hk => Kd.fresh' (Kd.R_lt (zr AS)) k_ hk)); (case aO => exact (by (with_reducible repeat (first | apply Kd.R_alloc | apply Kd.R_drewN | apply Kd.R_drew)); exact Kd.R_mono AC.out (fun _ hk => hk.2))); (case aS => exact (below_size zB)); (case aL => have := LMc33.out; omega); intro v1528 CQ ho hb hg hat; rw [← Ny1527.out] at ho; replace AB := zgr hg (zb AB) (Kd.R_ne AC.out AB.out (by decide)); replace AS := zm (Kd.R_after (ok := (fun _ => True)) (zr AS) hg hat); replace HB := zm hb; have BN := zm (ho); clear AC; clear ho hb hg hat))
     go_loopg [3, 8] k1 (fun kq v3 v8 w' => ∃ (AI : List Int) (AE : Int), v8 = .int .i64 AE ∧ Aside0 (spec_l6Bytes.l2 kq AI AE l0_0 l0_1 = some r) ∧ Aside0 (kq ≤ k1) ∧ Aside0 (Kd.R (Kd.int .u8) 5 w' w.heap.size (fun _ => True) v3 AI) ∧ Aside0 (w'.heap[AN]? = some (.cells #[(.slice A0_0 l0_0.length c0_0), (.slice A0_1 l0_1.length c0_1)] 27 (0, 0))) ∧ Aside0 (Below w.heap.size w w'))
     case atStart => exact ⟨(y1527), (0), zF, H', ⟨Nat.le_refl _⟩, ⟨by (with_reducible repeat (first | apply Kd.R_alloc | apply Kd.R_drewN | apply Kd.R_drew)); exact Kd.R_mono BN.out (fun _ hk => trivial)⟩, ⟨zb AB⟩, ⟨zB⟩⟩
     case round =>
      clear H'; (try clear c6); (try clear Ak); (try clear Ah); (try clear Ax); (try clear Ay); (try clear Aa); (try clear Ab); (try clear BB); (try clear BC); (try clear Ac); (try clear Ad); obtain ⟨AI, AE, rfl, HA, AZ, AC, AB, HB⟩ := hrel
      cases gk with
      | zero => exact absurd HA.out (by simp [spec_l6Bytes.l2])
      | succ k2 =>
       have H := HA.out; clear HA; simp only [spec_l6Bytes.l2] at H
       by_cases Ag : AE < (l0_1.length : Int)
       ·rw [if_pos Ag] at H; have BV : decide (AE < (l0_1.length : Int)) = true := decide_eq_true Ag; clear Ag
        by_cases Ap : 0 ≤ AE
        ·rw [if_pos Ap] at H; have CA : decide (0 ≤ AE) = true := decide_eq_true Ap; clear Ap; replace H := Option.bind_eq_some_iff.mp H; obtain ⟨AO, BG, H⟩ := H; (try dsimp only at H); have C3 := zm BG; clear BG
         by_cases Aq : AI.length + AO.length < 140737488355328
         ·rw [if_pos Aq] at H; have LMc41 := zm Aq; clear Aq
          obtain ⟨y1534, hy1534⟩ : ∃ y_ : List Int, y_ = (AI ++ AO) := ⟨_, rfl⟩
          replace H : ((spec_PutNum.f k2 ((rd_T58 l0_1 AE).f1)).bind fun AL => (if y1534.length + AL.length < 140737488355328 then (spec_l6Bytes.l2 k2 (y1534 ++ AL) (wrap64 (AE + 1)) l0_0 l0_1) else (none))) = some r := by first | (rw [hy1534]; with_reducible exact H) | (have H2_ := (Option.bind_some _ _).symm.trans H; rw [hy1534]; with_reducible exact H2_) | (have H2_ := (Option.bind_some _ _).symm.trans H; with_reducible exact H2_) | with_reducible exact H | (rw [hy1534]; exact H) | exact H
          have Ny1534 := zm hy1534; clear hy1534; replace H := Option.bind_eq_some_iff.mp H; obtain ⟨AL, BH, H⟩ := H; (try dsimp only at H); have C4 := zm BH; clear BH
          by_cases Ar : y1534.length + AL.length < 140737488355328
          ·rw [if_pos Ar] at H; have LMc43 := zm Ar; clear Ar
           obtain ⟨y1541, hy1541⟩ : ∃ y_ : List Int, y_ = (y1534 ++ AL) := ⟨_, rfl⟩
           replace H : (spec_l6Bytes.l2 k2 y1541 (wrap64 (AE + 1)) l0_0 l0_1) = some r := by first | (rw [hy1541]; with_reducible exact H) | (have H2_ := (Option.bind_some _ _).symm.trans H; rw [hy1541]; with_reducible exact H2_) | (have H2_ := (Option.bind_some _ _).symm.trans H; with_reducible exact H2_) | with_reducible exact H | (rw [hy1541]; exact H) | exact H
           have Ny1541 := zm hy1541; clear hy1541
           have H' := zm H
           clear H; obtain ⟨Bj, Bk, Bu, Bv⟩ := zc2 AB; have p1530 : 0 ≤ (AE : Int) := zd; have q1530 : AE < (l0_1.length : Int) := zd; obtain ⟨ad1530, e1530, hx1530_0, hx1530_1⟩ := at_T58 (Kd.C_below HR0_1.out HB.out) AE p1530 q1530; cases e1530; replace p1530 := eq_true p1530; replace q1530 := eq_true q1530
           go_wp2_with (first | ((with_reducible refine gate_callee (f := 82) rfl ?_); refine zg (some 79) #[.int .i64 ((rd_T58 l0_1 AE).f0)] Try.func82 ?_; (with_reducible refine (spec_PutNum.calls k2 ((rd_T58 l0_1 AE).f0) AO _ C3.out).mono ?_); rintro e CR ⟨v1532, rfl, ho0, hb⟩; refine ⟨_, rfl, ?_⟩; have AH := zm (Kd.R_lower (Kd.R_new' ho0 (Kd.R_lt (zr AC))) (below_size zB)); replace AC := zm (Kd.R_elder' (zr AC) (Kd.R_base ho0) hb); replace AB := zy AB hb; replace HB := zm (below_step zB hb); clear hb ho0; obtain ⟨Aj, Al, eo47⟩ := Kd.R_slice AH.out; subst eo47) | ((with_reducible refine gate_builtin (b := .append) (xs := #[.tmp 72, .tmp 79]) rfl ?_); at_builtin; refine Kd.R_append_rows (Kd.int .u8) (w0 := w) w.heap.size rfl (.tmp 72) (.tmp 79) 22 5 (.int .u8 0) 1 rfl Try.underlying22 info5 rfl (by decide) (by omega) u3 AI AO _ _ _ (fun k_ => some k_ ≠ (.slice Aj AO.length Al : Value).ownBlock) (fun _ => False) rfl rfl ?aO ?aR (fun _ _ h => h) (fun _ h => h.elim) ?aF ?aB ?aS ?aL ?_; (case aR => repeat (first | exact (Kd.R_reads' AH.out).2.2 | (with_reducible refine Kd.C_alloc ?_ _) | (with_reducible refine Kd.C_drewN ?_ _) | (with_reducible refine Kd.C_drew ?_))); (case aB => exact zB); (case aF => exact (fun k_ hk => Kd.fresh' (Kd.R_lt (zr AH)) k_ hk)); (case aO => exact (by (with_reducible repeat (first | apply Kd.R_alloc | apply Kd.R_drewN | apply Kd.R_drew)); exact Kd.R_mono AC.out (fun _ hk => hk.2))); (case aS => exact (below_size zB)); (case aL => have := LMc41.out; omega); intro v1535 CS ho hb hg hat; rw [← Ny1534.out] at ho; replace AB := zgr hg (zb AB) (Kd.R_ne AC.out AB.out (by decide)); replace AH := zm (Kd.R_after (ok := (fun _ => True)) (zr AH) hg hat); replace HB := zm hb; have AM := zm (ho); clear AC; clear ho hb hg hat; obtain ⟨Bl, Bm, Bw, Bx⟩ := zc2 AB; have p1537 : 0 ≤ (AE : Int) := zd; have q1537 : AE < (l0_1.length : Int) := zd; obtain ⟨ad1537, e1537, hx1537_0, hx1537_1⟩ := at_T58 HR0_1.out AE p1537 q1537; obtain rfl : ad1530 = ad1537 := (by injection e1537); replace hx1537_0 := zx HB hx1537_0; replace hx1537_1 := zx HB hx1537_1; replace p1537 := eq_true p1537; replace q1537 := eq_true q1537) | ((with_reducible refine gate_callee (f := 82) rfl ?_); refine zg (some 88) #[.int .i64 ((rd_T58 l0_1 AE).f1)] Try.func82 ?_; (with_reducible refine (spec_PutNum.calls k2 ((rd_T58 l0_1 AE).f1) AL _ C4.out).mono ?_); rintro e CT ⟨v1539, rfl, ho0, hb⟩; refine ⟨_, rfl, ?_⟩; have AT := zm (Kd.R_lower (Kd.R_new' (Kd.R_new' ho0 (Kd.R_lt (zr AH))) (Kd.R_lt (zr AM))) (below_size zB)); replace AH := zm (Kd.R_elder' (zr AH) (Kd.R_base ho0) hb); replace AM := zm (Kd.R_elder' (zr AM) (Kd.R_base ho0) hb); replace AB := zy AB hb; replace HB := zm (below_step zB hb); clear hb ho0; obtain ⟨BI, BP, eo51⟩ := Kd.R_slice AT.out; subst eo51) | ((with_reducible refine gate_builtin (b := .append) (xs := #[.tmp 81, .tmp 88]) rfl ?_); at_builtin; refine Kd.R_append_rows (Kd.int .u8) (w0 := w) w.heap.size rfl (.tmp 81) (.tmp 88) 22 5 (.int .u8 0) 1 rfl Try.underlying22 info5 rfl (by decide) (by omega) v1535 y1534 AL _ _ _ (fun k_ => some k_ ≠ (.slice Aj AO.length Al : Value).ownBlock ∧ some k_ ≠ (.slice BI AL.length BP : Value).ownBlock) (fun _ => False) rfl rfl ?aO ?aR (fun _ _ h => h) (fun _ h => h.elim) ?aF ?aB ?aS ?aL ?_; (case aR => repeat (first | exact (Kd.R_reads' AT.out).2.2 | (with_reducible refine Kd.C_alloc ?_ _) | (with_reducible refine Kd.C_drewN ?_ _) | (with_reducible refine Kd.C_drew ?_))); (case aB => exact zB); (case aF => exact (fun k_ hk => ⟨Kd.fresh' (Kd.R_lt (zr AH)) k_ hk, Kd.fresh' (Kd.R_lt (zr AT)) k_ hk⟩)); (case aO => exact (zr AM)); (case aS => exact (below_size zB)); (case aL => have := LMc43.out; omega); intro v1542 CU ho hb hg hat; rw [← Ny1541.out] at ho; replace AB := zgr hg (zb AB) (Kd.R_ne AM.out AB.out (by decide)); replace AH := zm (Kd.R_after (ok := (fun k_ => some k_ ≠ (.slice BI AL.length BP : Value).ownBlock)) (by (with_reducible repeat (first | apply Kd.R_alloc | apply Kd.R_drewN | apply Kd.R_drew)); exact Kd.R_mono AH.out (fun _ hk => ⟨hk.2, hk.1.2⟩)) hg hat); replace AT := zm (Kd.R_after (ok := (fun k_ => some k_ ≠ (.slice Aj AO.length Al : Value).ownBlock)) (by (with_reducible repeat (first | apply Kd.R_alloc | apply Kd.R_drewN | apply Kd.R_drew)); exact Kd.R_mono AT.out (fun _ hk => ⟨hk.1.2, hk.2⟩)) hg hat); replace HB := zm hb; have BO := zm (ho); clear AM; clear ho hb hg hat))
           go_roundg k2
           case measure => have := Ae.out; have := AZ.out; omega
           case rel => exact ⟨(y1541), (wrap64 (AE + 1)), zF, H', ⟨by have := Ae.out; have := AZ.out; omega⟩, ⟨by (with_reducible repeat (first | apply Kd.R_alloc | apply Kd.R_drewN | apply Kd.R_drew)); exact Kd.R_mono BO.out (fun _ hk => trivial)⟩, ⟨zb AB⟩, ⟨zB⟩⟩
          ·rw [if_neg Ar] at H
           exact absurd H (by simp)
         ·rw [if_neg Aq] at H
          exact absurd H (by simp)
        ·rw [if_neg Ap] at H
         exact absurd H (by simp)
       ·rw [if_neg Ag] at H; have BV : decide (AE < (l0_1.length : Int)) = false := decide_eq_false Ag; clear Ag; obtain rfl := Option.some.inj H; obtain ⟨Bn, Bo, By, Bz⟩ := zc2 AB
        go_wp2
        go_ret
        exact ⟨_, zE, zr AC, zB⟩
    ·rw [if_neg Ah] at H
     exact absurd H (by simp)

/-! ### spec_LeafSum: function 97 -/
def spec_LeafSum.j0 : Nat → Int → Bool → List (S44) → List (S58) → Option (Int)
 | 0, _, _, _, _ => none
 | k + 1, x1, x12, x1545000, x1545001 => if x12 = true then (some 0) else ((spec_l6Slice.f k x1545000 x1545001 (([x1] : List Int))).bind fun bt1550 => ((spec_l6Bytes.f k bt1550.1 bt1550.2).bind fun t1556 => ((spec_Crc.f k t1556).bind fun t1559 => (some (Int.tmod t1559 1024)))))
def spec_LeafSum.f (k : Nat) (l0_0 : List (S44)) (l0_1 : List (S58)) (a1 : Int) : Option (Int) := (spec_StateOk.f k l0_0 l0_1).bind fun t1545 => (if t1545 = true then ((spec_l1In.f a1 0 3).bind fun t1546 => (spec_LeafSum.j0 k a1 (!t1546) l0_0 l0_1)) else (spec_LeafSum.j0 k a1 true l0_0 l0_1))
theorem spec_LeafSum.mono_l : ∀ k, (∀ y0 y1 y2 y3, LeO (spec_LeafSum.j0 k y0 y1 y2 y3) (spec_LeafSum.j0 (k + 1) y0 y1 y2 y3))
 | 0 => fun _ _ _ _ r h => by simp [spec_LeafSum.j0] at h
 | k + 1 => by
  have ih0 := spec_LeafSum.mono_l k
  ·intro y0 y1 y2 y3
   unfold spec_LeafSum.j0
   repeat' first | (with_reducible first | exact LeO.refl _ | exact LeO.none _ | refine LeO.ite ?_ ?_ | refine LeO.bind ?_ (fun _ => ?_) | apply ih0 | apply spec_Crc.mono | apply spec_StateOk.mono | apply spec_l6Bytes.mono | apply spec_l6Slice.mono) | apply ih0 | apply spec_Crc.mono | apply spec_StateOk.mono | apply spec_l6Bytes.mono | apply spec_l6Slice.mono | exact LeO.none _ | refine LeO.ite ?_ ?_ | refine LeO.bind ?_ (fun _ => ?_)
theorem spec_LeafSum.mono : ∀ a0 a1 a2 k, LeO (spec_LeafSum.f k a0 a1 a2) (spec_LeafSum.f (k + 1) a0 a1 a2) := by
 intro a0 a1 a2 k; have ih0 := spec_LeafSum.mono_l k
 unfold spec_LeafSum.f
 repeat' first | (with_reducible first | exact LeO.refl _ | exact LeO.none _ | refine LeO.ite ?_ ?_ | refine LeO.bind ?_ (fun _ => ?_) | apply ih0 | apply spec_Crc.mono | apply spec_StateOk.mono | apply spec_l6Bytes.mono | apply spec_l6Slice.mono) | apply ih0 | apply spec_Crc.mono | apply spec_StateOk.mono | apply spec_l6Bytes.mono | apply spec_l6Slice.mono | exact LeO.none _ | refine LeO.ite ?_ ?_ | refine LeO.bind ?_ (fun _ => ?_)
set_option maxHeartbeats 8000000 in
set_option maxRecDepth 100000 in
theorem spec_LeafSum.calls (k : Nat) (A0_0 : Option Addr) (c0_0 : Nat) (l0_0 : List (S44)) (A0_1 : Option Addr) (c0_1 : Nat) (l0_1 : List (S58)) (a1 : Int) (r : Int) (w : World) (hr0_0 : Kd.C k44 w A0_0 l0_0.length l0_0) (hc0_0 : l0_0.length ≤ c0_0) (hr0_1 : Kd.C k58 w A0_1 l0_1.length l0_1) (hc0_1 : l0_1.length ≤ c0_1) (h : spec_LeafSum.f k l0_0 l0_1 a1 = some r) :
  Calls Try.prog 97 #[.agg #[.slice A0_0 l0_0.length c0_0, .slice A0_1 l0_1.length c0_1], .int .i64 a1] w fun e w' => e = .returned (.int .i64 r) ∧ Below w.heap.size w w' := by
 have hu27 := Try.underlying27; have HR0_0 := zm hr0_0; have HC0_0 := zm hc0_0; clear hr0_0 hc0_0; have HR0_1 := zm hr0_1; have HC0_1 := zm hc0_1; clear hr0_1 hc0_1; have HB := zm (Below.refl w.heap.size w); have H : ((spec_StateOk.f k l0_0 l0_1).bind fun AJ => (if AJ = true then ((spec_l1In.f a1 0 3).bind fun AF => (spec_LeafSum.j0 k a1 (!AF) l0_0 l0_1)) else (spec_LeafSum.j0 k a1 true l0_0 l0_1))) = some r := h; clear h; have AS := zm H; clear H; go_enter Try.func97, Try.ntmps97
 go_upto_region 1 with (first | ((with_reducible refine gate_dst (N := 2) rfl ?_); refine zbox 2 #[.slice A0_0 l0_0.length c0_0, .slice A0_1 l0_1.length c0_1] 27 ?_; intro AT hg w4 hbox hb; have AA := zm (hbox); have Aq := zge w hg zB; have Ap := zge w hg zB; replace HB := zm (below_step zB hb); clear hb hbox hg))
 (try simp only [Act.put, List.setIfInBounds_toArray, List.set_cons_zero, List.set_cons_succ])
 go_cut [12] (fun v12 wc => ∃ (kq : Nat) (AG : Bool), v12 = .bool AG ∧ Aside0 (spec_LeafSum.j0 kq a1 AG l0_0 l0_1 = some r) ∧ Aside0 (kq ≤ k) ∧ Aside0 (wc.heap[AT]? = some (.cells #[(.slice A0_0 l0_0.length c0_0), (.slice A0_1 l0_1.length c0_1)] 27 (0, 0))) ∧ Aside0 (Below w.heap.size w wc))
 case first =>
  have H := AS.out; clear AS; replace H := Option.bind_eq_some_iff.mp H; obtain ⟨AJ, AU, H⟩ := H; (try dsimp only at H); have A5 := zm AU; clear AU
  by_cases c6 : AJ = true
  ·subst c6; rw [if_pos rfl] at H; replace H := Option.bind_eq_some_iff.mp H; obtain ⟨AF, AV, H⟩ := H; (try dsimp only at H); have A7 := zm AV; clear AV
   have H' := zm H
   clear H; obtain ⟨Ar, As, At, Au⟩ := zc2 AA
   go_wp2_with (first | ((with_reducible refine gate_callee (f := 17) rfl ?_); refine zg (some 6) #[.agg #[.slice A0_0 l0_0.length c0_0, .slice A0_1 l0_1.length c0_1]] Try.func17 ?_; (with_reducible refine (spec_StateOk.calls k _ _ l0_0 _ _ l0_1 true _ (zk (Kd.C_below HR0_0.out HB.out)) HC0_0.out (zk (Kd.C_below HR0_1.out HB.out)) HC0_1.out A5.out).mono ?_); rintro e w9 ⟨rfl, hb⟩; refine ⟨_, rfl, ?_⟩; replace AA := zy AA hb; replace HB := zm (below_step zB hb); clear hb) | (go_at_call 66; (with_reducible refine (spec_l1In.calls a1 0 3 AF _ A7.out).mono ?_); rintro e w' ⟨rfl, ⟨nd, rfl⟩⟩))
   go_meet
   case rel => exact ⟨_, (!AF), zF, H', ⟨zO⟩, ⟨zb AA⟩, ⟨zB⟩⟩
  ·replace c6 := Bool.eq_false_iff.mpr c6; subst c6; rw [zff] at H
   have H' := zm H
   clear H; obtain ⟨Ae, Af, Ai, Aj⟩ := zc2 AA
   go_wp2_with (first | ((with_reducible refine gate_callee (f := 17) rfl ?_); refine zg (some 6) #[.agg #[.slice A0_0 l0_0.length c0_0, .slice A0_1 l0_1.length c0_1]] Try.func17 ?_; (with_reducible refine (spec_StateOk.calls k _ _ l0_0 _ _ l0_1 false _ (zk (Kd.C_below HR0_0.out HB.out)) HC0_0.out (zk (Kd.C_below HR0_1.out HB.out)) HC0_1.out A5.out).mono ?_); rintro e Aw ⟨rfl, hb⟩; refine ⟨_, rfl, ?_⟩; replace AA := zy AA hb; replace HB := zm (below_step zB hb); clear hb))
   go_meet
   case rel => exact ⟨_, (true), zF, H', ⟨zO⟩, ⟨zb AA⟩, ⟨zB⟩⟩
 case rest =>
  clear AS; obtain ⟨kq, AG, rfl, HA, Av, AA, HB⟩ := hcut
  cases kq with
  | zero => exact absurd HA.out (by simp [spec_LeafSum.j0])
  | succ AI =>
   have H := HA.out; clear HA; simp only [spec_LeafSum.j0] at H
   by_cases AO : AG = true
   ·subst AO; rw [if_pos rfl] at H; obtain rfl := Option.some.inj H
    go_wp2
    go_ret
    exact ⟨zE, zB⟩
   ·replace AO := Bool.eq_false_iff.mpr AO; subst AO; rw [zff] at H
    obtain ⟨y1547, hy1547⟩ : ∃ y_ : List Int, y_ = (([a1] : List Int)) := ⟨_, rfl⟩
    replace H : ((spec_l6Slice.f AI l0_0 l0_1 y1547).bind fun AN => ((spec_l6Bytes.f AI AN.1 AN.2).bind fun AE => ((spec_Crc.f AI AE).bind fun AM => (some (Int.tmod AM 1024))))) = some r := by first | (rw [hy1547]; with_reducible exact H) | (have H2_ := (Option.bind_some _ _).symm.trans H; rw [hy1547]; with_reducible exact H2_) | (have H2_ := (Option.bind_some _ _).symm.trans H; with_reducible exact H2_) | with_reducible exact H | (rw [hy1547]; exact H) | exact H
    have Ny1547 := zm hy1547; clear hy1547; replace H := Option.bind_eq_some_iff.mp H; obtain ⟨⟨AK, AL⟩, AP, H⟩ := H; (try dsimp only at H); have Am := zm AP; clear AP; replace H := Option.bind_eq_some_iff.mp H; obtain ⟨AE, AQ, H⟩ := H; (try dsimp only at H); have An := zm AQ; clear AQ; replace H := Option.bind_eq_some_iff.mp H; obtain ⟨AM, AR, H⟩ := H; (try dsimp only at H); have Ao := zm AR; clear AR; obtain rfl := Option.some.inj H; obtain ⟨Ag, Ah, Ak, Al⟩ := zc2 AA
    go_wp2_with (first | ((with_reducible refine gate_dst (N := 15) rfl ?_); refine Kd.R_lit (Kd.int .i64) _ 3 ?hg (N := 15) ?hd (xs := ([a1] : List Int)) (inner := [.int .i64 a1]) (ok := fun _ => True) (okp := fun _ => True) ?hr ?hp (fun _ hk => hk) trivial (Below.refl _ _) (Nat.le_refl _) (by simp) ?_; (case hd => rfl); (case hg => rfl); (case hr => first | (go_simp; done) | (go_simp; rfl)); (case hp => exact (Reps.one (show Kd.M (Kd.int .i64) _ _ _ a1 [.int .i64 a1] from rfl) (Reps.none _ _))); intro v1548 Ax ho18 hb hg_ hnew_; clear hg_ hnew_; (first | rw [← Ny1547.out] at ho18 | (simp only [Int.reduceToNat] at ho18; rw [← Ny1547.out] at ho18)); have AB := zm (Kd.R_lower ho18 (below_size zB)); replace AA := zy AA hb; replace HB := zm (below_step zB hb); clear hb ho18; obtain ⟨AW, Aa, eo19⟩ := Kd.R_slice AB.out; subst eo19) | ((with_reducible refine gate_callee (f := 94) rfl ?_); refine zg (some 16) #[.agg #[.slice A0_0 l0_0.length c0_0, .slice A0_1 l0_1.length c0_1], .slice AW y1547.length Aa] Try.func94 ?_; (with_reducible refine (spec_l6Slice.calls AI _ _ l0_0 _ _ l0_1 _ _ y1547 AK AL _ (zk (Kd.C_below HR0_0.out HB.out)) HC0_0.out (zk (Kd.C_below HR0_1.out HB.out)) HC0_1.out ?side5 ?side6 Am.out).mono ?_); (case side5 => repeat (first | exact (Kd.R_reads' AB.out).2.2 | (with_reducible refine Kd.C_alloc ?_ _) | (with_reducible refine Kd.C_drewN ?_ _) | (with_reducible refine Kd.C_drew ?_))); (case side6 => exact (Kd.R_reads' AB.out).2.1); rintro e Ay ⟨v1551, v1554, rfl, ho0, ho1, hb⟩; refine ⟨_, rfl, ?_⟩; replace AB := zw AB hb; have AC := zm (Kd.R_lower ho0 (below_size zB)); have AD := zm (Kd.R_lower ho1 (below_size zB)); replace AA := zy AA hb; replace HB := zm (below_step zB hb); clear hb ho0 ho1; obtain ⟨AX, Ab, eo21⟩ := Kd.R_slice AC.out; subst eo21; obtain ⟨AY, Ac, eo22⟩ := Kd.R_slice AD.out; subst eo22) | ((with_reducible refine gate_callee (f := 114) rfl ?_); refine zg (some 17) #[.agg #[.slice AX AK.length Ab, .slice AY AL.length Ac]] Try.func114 ?_; (with_reducible refine (spec_l6Bytes.calls AI _ _ AK _ _ AL AE _ ?side1 ?side2 ?side3 ?side4 An.out).mono ?_); (case side1 => repeat (first | exact (Kd.R_reads' AC.out).2.2 | (with_reducible refine Kd.C_alloc ?_ _) | (with_reducible refine Kd.C_drewN ?_ _) | (with_reducible refine Kd.C_drew ?_))); (case side2 => exact (Kd.R_reads' AC.out).2.1); (case side3 => repeat (first | exact (Kd.R_reads' AD.out).2.2 | (with_reducible refine Kd.C_alloc ?_ _) | (with_reducible refine Kd.C_drewN ?_ _) | (with_reducible refine Kd.C_drew ?_))); (case side4 => exact (Kd.R_reads' AD.out).2.1); rintro e Az ⟨v1557, rfl, ho0, hb⟩; refine ⟨_, rfl, ?_⟩; replace AB := zw AB hb; replace AC := zw AC hb; replace AD := zw AD hb; have AH := zm (Kd.R_lower ho0 (below_size zB)); replace AA := zy AA hb; replace HB := zm (below_step zB hb); clear hb ho0; obtain ⟨AZ, Ad, eo24⟩ := Kd.R_slice AH.out; subst eo24) | ((with_reducible refine gate_callee (f := 81) rfl ?_); refine zg (some 18) #[.slice AZ AE.length Ad] Try.func81 ?_; (with_reducible refine (spec_Crc.calls AI _ _ AE AM _ ?side1 ?side2 Ao.out).mono ?_); (case side1 => repeat (first | exact (Kd.R_reads' AH.out).2.2 | (with_reducible refine Kd.C_alloc ?_ _) | (with_reducible refine Kd.C_drewN ?_ _) | (with_reducible refine Kd.C_drew ?_))); (case side2 => exact (Kd.R_reads' AH.out).2.1); rintro e w' ⟨rfl, ⟨nd, rfl⟩⟩; refine ⟨_, rfl, ?_⟩))
    go_ret
    exact ⟨zE, zB⟩

/-! ### spec_l6Root: function 98 -/
def spec_l6Root.l0 : Nat → List Int → List Int → Int → Option (Int)
 | 0, _, _, _ => none
 | k + 1, x0, x3, x4 => if x4 < (x0.length : Int) then (if 0 ≤ x4 then ((spec_PutNum.f k (rd x0 x4)).bind fun t1564 => (if x3.length + t1564.length < 140737488355328 then (spec_l6Root.l0 k x0 (x3 ++ t1564) (wrap64 (x4 + 1))) else (none))) else (none)) else ((spec_Crc.f k x3).bind fun t1570 => (some (Int.tmod t1570 1024)))
def spec_l6Root.f (k : Nat) (l0 : List Int) : Option (Int) := spec_l6Root.l0 k l0 (([] : List Int)) 0
theorem spec_l6Root.mono_l : ∀ k, (∀ y0 y1 y2, LeO (spec_l6Root.l0 k y0 y1 y2) (spec_l6Root.l0 (k + 1) y0 y1 y2))
 | 0 => fun _ _ _ r h => by simp [spec_l6Root.l0] at h
 | k + 1 => by
  have ih0 := spec_l6Root.mono_l k
  ·intro y0 y1 y2
   unfold spec_l6Root.l0
   repeat' first | (with_reducible first | exact LeO.refl _ | exact LeO.none _ | refine LeO.ite ?_ ?_ | refine LeO.bind ?_ (fun _ => ?_) | apply ih0 | apply spec_Crc.mono | apply spec_PutNum.mono) | apply ih0 | apply spec_Crc.mono | apply spec_PutNum.mono | exact LeO.none _ | refine LeO.ite ?_ ?_ | refine LeO.bind ?_ (fun _ => ?_)
theorem spec_l6Root.mono : ∀ a0 k, LeO (spec_l6Root.f k a0) (spec_l6Root.f (k + 1) a0) := by
 intro a0 k; have ih0 := spec_l6Root.mono_l k
 unfold spec_l6Root.f
 repeat' first | (with_reducible first | exact LeO.refl _ | exact LeO.none _ | refine LeO.ite ?_ ?_ | refine LeO.bind ?_ (fun _ => ?_) | apply ih0 | apply spec_Crc.mono | apply spec_PutNum.mono) | apply ih0 | apply spec_Crc.mono | apply spec_PutNum.mono | exact LeO.none _ | refine LeO.ite ?_ ?_ | refine LeO.bind ?_ (fun _ => ?_)
set_option maxHeartbeats 8000000 in
set_option maxRecDepth 100000 in
theorem spec_l6Root.calls (k : Nat) (A0 : Option Addr) (c0 : Nat) (l0 : List Int) (r : Int) (w : World) (hr0 : Kd.C (Kd.int .i64) w A0 l0.length l0) (hc0 : l0.length ≤ c0) (h : spec_l6Root.f k l0 = some r) :
  Calls Try.prog 98 #[.slice A0 l0.length c0] w fun e w' => e = .returned (.int .i64 r) ∧ Below w.heap.size w w' := by
 have HR0 := zm hr0; have AS := zm hc0; clear hr0 hc0; have HB := zm (Below.refl w.heap.size w); have H : (spec_l6Root.l0 k l0 (([] : List Int)) 0) = some r := h; clear h
 obtain ⟨y1560, hy1560⟩ : ∃ y_ : List Int, y_ = (([] : List Int)) := ⟨_, rfl⟩
 replace H : (spec_l6Root.l0 k l0 y1560 0) = some r := by first | (rw [hy1560]; with_reducible exact H) | (have H2_ := (Option.bind_some _ _).symm.trans H; rw [hy1560]; with_reducible exact H2_) | (have H2_ := (Option.bind_some _ _).symm.trans H; with_reducible exact H2_) | with_reducible exact H | (rw [hy1560]; exact H) | exact H
 have Ny1560 := zm hy1560; clear hy1560
 have H' := zm H
 clear H; go_enter Try.func98, Try.ntmps98
 go_wp2_with (first | ((with_reducible refine gate_dst (N := 5) rfl ?_); refine Kd.R_lit (Kd.int .u8) _ 5 ?hg (N := 5) ?hd (xs := ([] : List Int)) (inner := []) (ok := fun _ => True) (okp := fun _ => True) ?hr ?hp (fun _ hk => hk) trivial (Below.refl _ _) (Nat.le_refl _) (by simp) ?_; (case hd => rfl); (case hg => rfl); (case hr => first | (go_simp; done) | (go_simp; rfl)); (case hp => exact (Reps.none _ _)); intro v1561 w2 ho3 hb hg_ hnew_; clear hg_ hnew_; (first | rw [← Ny1560.out] at ho3 | (simp only [Int.reduceToNat] at ho3; rw [← Ny1560.out] at ho3)); have AG := zm (Kd.R_lower ho3 (below_size zB)); replace HB := zm (below_step zB hb); clear hb ho3))
 go_loopg [3, 4] k (fun kq v3 v4 w' => ∃ (AD : List Int) (AA : Int), v4 = .int .i64 AA ∧ Aside0 (spec_l6Root.l0 kq l0 AD AA = some r) ∧ Aside0 (kq ≤ k) ∧ Aside0 (Kd.R (Kd.int .u8) 5 w' w.heap.size (fun _ => True) v3 AD) ∧ Aside0 (Below w.heap.size w w'))
 case atStart => exact ⟨(y1560), (0), zF, H', ⟨Nat.le_refl _⟩, ⟨zr AG⟩, ⟨zB⟩⟩
 case round =>
  clear H'; obtain ⟨AD, AA, rfl, HA, AK, AC, HB⟩ := hrel
  cases gk with
  | zero => exact absurd HA.out (by simp [spec_l6Root.l0])
  | succ k1 =>
   have H := HA.out; clear HA; simp only [spec_l6Root.l0] at H
   by_cases c4 : AA < (l0.length : Int)
   ·rw [if_pos c4] at H; have AN : decide (AA < (l0.length : Int)) = true := decide_eq_true c4; clear c4
    by_cases c5 : 0 ≤ AA
    ·rw [if_pos c5] at H; have AR : decide (0 ≤ AA) = true := decide_eq_true c5; clear c5; replace H := Option.bind_eq_some_iff.mp H; obtain ⟨AE, AJ, H⟩ := H; (try dsimp only at H); have A6 := zm AJ; clear AJ
     by_cases c7 : AD.length + AE.length < 140737488355328
     ·rw [if_pos c7] at H; have LMc7 := zm c7; clear c7
      obtain ⟨y1567, hy1567⟩ : ∃ y_ : List Int, y_ = (AD ++ AE) := ⟨_, rfl⟩
      replace H : (spec_l6Root.l0 k1 l0 y1567 (wrap64 (AA + 1))) = some r := by first | (rw [hy1567]; with_reducible exact H) | (have H2_ := (Option.bind_some _ _).symm.trans H; rw [hy1567]; with_reducible exact H2_) | (have H2_ := (Option.bind_some _ _).symm.trans H; with_reducible exact H2_) | with_reducible exact H | (rw [hy1567]; exact H) | exact H
      have Ny1567 := zm hy1567; clear hy1567
      have H' := zm H
      clear H; have p1563 : 0 ≤ (AA : Int) := zd; have q1563 : AA < (l0.length : Int) := zd; obtain ⟨ad1563, e1563, hx1563_0⟩ := Kd.at_int (Kd.C_below HR0.out HB.out) AA p1563 q1563; cases e1563; replace p1563 := eq_true p1563; replace q1563 := eq_true q1563
      go_wp2_with (first | ((with_reducible refine gate_callee (f := 82) rfl ?_); refine zg (some 17) #[.int .i64 (rd l0 AA)] Try.func82 ?_; (with_reducible refine (spec_PutNum.calls k1 (rd l0 AA) AE _ A6.out).mono ?_); rintro e w8 ⟨v1565, rfl, ho0, hb⟩; refine ⟨_, rfl, ?_⟩; have AB := zm (Kd.R_lower (Kd.R_new' ho0 (Kd.R_lt (zr AC))) (below_size zB)); replace AC := zm (Kd.R_elder' (zr AC) (Kd.R_base ho0) hb); replace HB := zm (below_step zB hb); clear hb ho0; obtain ⟨AL, AO, eo10⟩ := Kd.R_slice AB.out; subst eo10) | ((with_reducible refine gate_builtin (b := .append) (xs := #[.tmp 12, .tmp 17]) rfl ?_); at_builtin; refine Kd.R_append_rows (Kd.int .u8) (w0 := w) w.heap.size rfl (.tmp 12) (.tmp 17) 22 5 (.int .u8 0) 1 rfl Try.underlying22 info5 rfl (by decide) (by omega) u3 AD AE _ _ _ (fun k_ => some k_ ≠ (.slice AL AE.length AO : Value).ownBlock) (fun _ => False) rfl rfl ?aO ?aR (fun _ _ h => h) (fun _ h => h.elim) ?aF ?aB ?aS ?aL ?_; (case aR => repeat (first | exact (Kd.R_reads' AB.out).2.2 | (with_reducible refine Kd.C_alloc ?_ _) | (with_reducible refine Kd.C_drewN ?_ _) | (with_reducible refine Kd.C_drew ?_))); (case aB => exact zB); (case aF => exact (fun k_ hk => Kd.fresh' (Kd.R_lt (zr AB)) k_ hk)); (case aO => exact (by (with_reducible repeat (first | apply Kd.R_alloc | apply Kd.R_drewN | apply Kd.R_drew)); exact Kd.R_mono AC.out (fun _ hk => hk.2))); (case aS => exact (below_size zB)); (case aL => have := LMc7.out; omega); intro v1568 w9 ho hb hg hat; rw [← Ny1567.out] at ho; replace AB := zm (Kd.R_after (ok := (fun _ => True)) (zr AB) hg hat); replace HB := zm hb; have AH := zm (ho); clear AC; clear ho hb hg hat))
      go_roundg k1
      case measure => have := AK.out; omega
      case rel => exact ⟨(y1567), (wrap64 (AA + 1)), zF, H', ⟨by have := AK.out; omega⟩, ⟨by (with_reducible repeat (first | apply Kd.R_alloc | apply Kd.R_drewN | apply Kd.R_drew)); exact Kd.R_mono AH.out (fun _ hk => trivial)⟩, ⟨zB⟩⟩
     ·rw [if_neg c7] at H
      exact absurd H (by simp)
    ·rw [if_neg c5] at H
     exact absurd H (by simp)
   ·rw [if_neg c4] at H; have AN : decide (AA < (l0.length : Int)) = false := decide_eq_false c4; clear c4; replace H := Option.bind_eq_some_iff.mp H; obtain ⟨AI, AF, H⟩ := H; (try dsimp only at H); have AQ := zm AF; clear AF; obtain rfl := Option.some.inj H; obtain ⟨AM, AP, eo12⟩ := Kd.R_slice AC.out; subst eo12
    go_wp2_with (first | ((with_reducible refine gate_callee (f := 81) rfl ?_); refine zg (some 20) #[.slice AM AD.length AP] Try.func81 ?_; (with_reducible refine (spec_Crc.calls k1 _ _ AD AI _ ?side1 ?side2 AQ.out).mono ?_); (case side1 => repeat (first | exact (Kd.R_reads' AC.out).2.2 | (with_reducible refine Kd.C_alloc ?_ _) | (with_reducible refine Kd.C_drewN ?_ _) | (with_reducible refine Kd.C_drew ?_))); (case side2 => exact (Kd.R_reads' AC.out).2.1); rintro e w' ⟨rfl, ⟨nd, rfl⟩⟩; refine ⟨_, rfl, ?_⟩))
    go_ret
    exact ⟨zE, zB⟩

end Go.Proofs.Ytnmofppbijmhoaa.P
