-- by a program of this session, for this seat
import Derived.Test.YtomlglpmljngfaaDoorZ
import Derived.Test.YtomlglpmljngfaaDoorP0
namespace Go.Proofs.YtomlglpmljngfaaDoor.P
open Go.RowKit Go.Proofs.YtomlglpmljngfaaDoorW.PrintWords Go.Proofs.YtomlglpmljngfaaDoorW.PrintLast Go.Proofs.YtomlglpmljngfaaDoorW.PrintMore Go.Proofs.YtomlglpmljngfaaDoor.Z
attribute [local go_sem] max2_int min2_int max_two min_two max_three min_three max_four min_four   -- for this text's walks alone
set_option linter.unusedVariables false
set_option linter.unusedSimpArgs false

/-! ### laws_szEntry: function 12 -/
def laws_szEntry.f (a0_0 : Int) (a0_1 : Int) (a0_2 : Int) (a0_3 : Int) (a0_4 : ByteArray) (a1 : Int) : Option (Int) := if (wrap64 (a1 - (a0_4.size : Int))) < 0 then (some (-1)) else (some (wrap64 (a1 - (a0_4.size : Int))))
set_option maxHeartbeats 8000000 in
set_option maxRecDepth 100000 in
theorem laws_szEntry.calls (a0_0 : Int) (a0_1 : Int) (a0_2 : Int) (a0_3 : Int) (a0_4 : ByteArray) (a1 : Int) (r : Int) (w : World) (h : laws_szEntry.f a0_0 a0_1 a0_2 a0_3 a0_4 a1 = some r) :
  Calls Tryd.prog 12 #[.agg #[.int .i64 a0_0, .int .i64 a0_1, .int .i64 a0_2, .int .i64 a0_3, .string a0_4], .int .i64 a1] w fun e w' => e = .returned (.int .i64 r) ∧ Below w.heap.size w w' := by
 have hu25 := Tryd.underlying25; have HB := zm (Below.refl w.heap.size w); have H : (if (wrap64 (a1 - (a0_4.size : Int))) < 0 then (some (-1)) else (some (wrap64 (a1 - (a0_4.size : Int))))) = some r := h; clear h
 by_cases c3 : (wrap64 (a1 - (a0_4.size : Int))) < 0
 ·rw [if_pos c3] at H; have AE : decide ((wrap64 (a1 - (a0_4.size : Int))) < 0) = true := decide_eq_true c3; clear c3; obtain rfl := Option.some.inj H; go_enter Tryd.func12, Tryd.ntmps12
  go_wp2_with (first | ((with_reducible refine gate_dst (N := 2) rfl ?_); refine zbox 2 #[.int .i64 a0_0, .int .i64 a0_1, .int .i64 a0_2, .int .i64 a0_3, .string a0_4] 25 ?_; intro AD hg w4 hbox hb; have AA := zm (hbox); have AC := zge w hg zB; have AB := zge w hg zB; replace HB := zm (below_step zB hb); clear hb hbox hg; obtain ⟨AF, AG, AH, AI, AJ, AP, AQ, AR, AS, AT⟩ := zc5 AA))
  go_ret
  exact ⟨zE, zB⟩
 ·rw [if_neg c3] at H; have AE : decide ((wrap64 (a1 - (a0_4.size : Int))) < 0) = false := decide_eq_false c3; clear c3; obtain rfl := Option.some.inj H; go_enter Tryd.func12, Tryd.ntmps12
  go_wp2_with (first | ((with_reducible refine gate_dst (N := 2) rfl ?_); refine zbox 2 #[.int .i64 a0_0, .int .i64 a0_1, .int .i64 a0_2, .int .i64 a0_3, .string a0_4] 25 ?_; intro AD hg w6 hbox hb; have AA := zm (hbox); have AC := zge w hg zB; have AB := zge w hg zB; replace HB := zm (below_step zB hb); clear hb hbox hg; obtain ⟨AK, AL, AM, AN, AO, AU, AV, AW, AX, AY⟩ := zc5 AA))
  go_ret
  exact ⟨zE, zB⟩

/-! ### laws_toEntry: function 14 -/
def laws_toEntry.f (a0_0 : Int) (a0_1 : Int) (a0_2 : Int) (a0_3 : Int) (a0_4 : ByteArray) : Option (Int × Int × Int × Int × ByteArray) := some (a0_0, a0_1, a0_2, a0_3, a0_4)
set_option maxHeartbeats 8000000 in
set_option maxRecDepth 100000 in
theorem laws_toEntry.calls (a0_0 : Int) (a0_1 : Int) (a0_2 : Int) (a0_3 : Int) (a0_4 : ByteArray) (r1 : Int) (r2 : Int) (r3 : Int) (r4 : Int) (r5 : ByteArray) (w : World) (h : laws_toEntry.f a0_0 a0_1 a0_2 a0_3 a0_4 = some (r1, r2, r3, r4, r5)) :
  Calls Tryd.prog 14 #[.agg #[.int .i64 a0_0, .int .i64 a0_1, .int .i64 a0_2, .int .i64 a0_3, .string a0_4]] w fun e w' => e = .returned (.agg #[.int .i64 r1, .int .i64 r2, .int .i64 r3, .int .i64 r4, .string r5]) ∧ Below w.heap.size w w' := by
 have hu25 := Tryd.underlying25; have hu28 := Tryd.underlying28; have HB := zm (Below.refl w.heap.size w); have H : (some (a0_0, a0_1, a0_2, a0_3, a0_4)) = some (r1, r2, r3, r4, r5) := h; clear h; simp only [Option.some.injEq, Prod.mk.injEq] at H; obtain ⟨rfl, rfl, rfl, rfl, rfl⟩ := H; go_enter Tryd.func14, Tryd.ntmps14
 go_wp2_with (first | ((with_reducible refine gate_dst (N := 1) rfl ?_); refine zbox 1 #[.int .i64 a0_0, .int .i64 a0_1, .int .i64 a0_2, .int .i64 a0_3, .string a0_4] 25 ?_; intro Au hg w2 hbox hb; have AB := zm (hbox); have Ar := zge w hg zB; have Ao := zge w hg zB; replace HB := zm (below_step zB hb); clear hb hbox hg) | ((with_reducible refine gate_dst (N := 2) rfl ?_); refine zbox 2 #[.int .i64 0, .int .i64 0, .int .i64 0, .int .i64 0, .string (⟨#[]⟩ : ByteArray)] 28 ?_; intro AJ hg w3 hbox hb; have AC := zm (hbox); have As := zge w hg zB; have Ap := zge w hg zB; replace HB := zm (below_step zB hb); have AD := zlt hg (zb AB); have AF := zgt hg (zb AB); replace AB := zy AB hb; clear hb hbox hg) | ((with_reducible refine gate_dst (N := 3) rfl ?_); refine zbox 3 #[.int .i64 0, .int .i64 0, .int .i64 0, .int .i64 0, .string (⟨#[]⟩ : ByteArray)] 28 ?_; intro Av hg w4 hbox hb; have AI := zm (hbox); have At := zge w hg zB; have Aq := zge w hg zB; replace HB := zm (below_step zB hb); have AE := zlt hg (zb AB); have AG := zgt hg (zb AB); replace AB := zy AB hb; have AA := zlt hg (zb AC); have AH := zgt hg (zb AC); replace AC := zy AC hb; clear hb hbox hg; have Aw := AD.out; have Az := AF.out; have Ax := AE.out; have B0 := AG.out; obtain ⟨AU, AV, AW, AX, AY, Ae, Af, Ag, Ah, Ai⟩ := zc5 AB; have Ay := AH.out; have B2 := AA.out; obtain ⟨AZ, Aa, Ab, Ac, Ad, Aj, Ak, Al, Am, An⟩ := zc5 AI; obtain ⟨AK, AL, AM, AN, AO, AP, AQ, AR, AS, AT⟩ := zc5 AC))
 refine bodyPost_ret (results_cell_row rfl _ _ AJ 28 #[.int .i64 a0_0, .int .i64 a0_1, .int .i64 a0_2, .int .i64 a0_3, .string a0_4] (0, 0) _ rfl (zput (zput (zput (zput (zput (zfar (zfar (zfar (zfar (zfar (zb AC) AA) AA) AA) AA) AA) 0) 1) 2) 3) 4) Tryd.underlying28 rfl (by kernel_rfl)) rfl ?_
 exact ⟨zE, zB⟩

end Go.Proofs.YtomlglpmljngfaaDoor.P
