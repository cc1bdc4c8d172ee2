-- by a program of this session, for this seat
import Derived.Test.YthljdiniccpobaaZ
import Derived.Test.YthljdiniccpobaaP0
import Derived.Test.YthljdiniccpobaaPaa
import Derived.Test.YthljdiniccpobaaPab
namespace Go.Proofs.Ythljdiniccpobaa.P
open Go.RowKit Go.Proofs.YthljdiniccpobaaW.PrintWords Go.Proofs.YthljdiniccpobaaW.PrintLast Go.Proofs.YthljdiniccpobaaW.PrintMore Go.Proofs.Ythljdiniccpobaa.Z
attribute [local go_sem] max2_int min2_int max_two min_two max_three min_three max_four min_four   -- for this text's walks alone
set_option linter.unusedVariables false
set_option linter.unusedSimpArgs false

/-! ### laws_FnExactEntryMax: function 3 -/
def laws_FnExactEntryMax.f (k : Nat) (a0_0 : Int) (a0_1 : Int) (a0_2 : Int) (a0_3 : Int) (a0_4 : ByteArray) (a1_0 : Int) (a1_1 : Int) (a1_2 : Int) (a1_3 : Int) (a1_4 : ByteArray) : Option (Bool) := (laws_szEntry.f a0_0 a0_1 a0_2 a0_3 a0_4 1048576).bind fun t144 => (if t144 < 0 then (some true) else ((laws_szEntry.f a1_0 a1_1 a1_2 a1_3 a1_4 t144).bind fun t145 => (if t145 < 0 then (some true) else ((laws_toEntry.f a0_0 a0_1 a0_2 a0_3 a0_4).bind fun bt146 => ((laws_toEntry.f a1_0 a1_1 a1_2 a1_3 a1_4).bind fun bt151 => ((spec_EntryMax.f k bt146.1 bt146.2.1 bt146.2.2.1 bt146.2.2.2.1 bt146.2.2.2.2 bt151.1 bt151.2.1 bt151.2.2.1 bt151.2.2.2.1 bt151.2.2.2.2).bind fun bt156 => ((laws_toEntry.f a0_0 a0_1 a0_2 a0_3 a0_4).bind fun bt162 => ((laws_toEntry.f a1_0 a1_1 a1_2 a1_3 a1_4).bind fun bt167 => ((impl_EntryMax.f k bt162.1 bt162.2.1 bt162.2.2.1 bt162.2.2.2.1 bt162.2.2.2.2 bt167.1 bt167.2.1 bt167.2.2.1 bt167.2.2.2.1 bt167.2.2.2.2).bind fun bt172 => ((laws_eqEntry.f bt172.1 bt172.2.1 bt172.2.2.1 bt172.2.2.2.1 bt172.2.2.2.2 bt156.1 bt156.2.1 bt156.2.2.1 bt156.2.2.2.1 bt156.2.2.2.2).bind fun t178 => (if t178 = true then (some true) else (some false))))))))))))
theorem laws_FnExactEntryMax.mono : ∀ a0 a1 a2 a3 a4 a5 a6 a7 a8 a9 k, LeO (laws_FnExactEntryMax.f k a0 a1 a2 a3 a4 a5 a6 a7 a8 a9) (laws_FnExactEntryMax.f (k + 1) a0 a1 a2 a3 a4 a5 a6 a7 a8 a9) := by
 intro a0 a1 a2 a3 a4 a5 a6 a7 a8 a9 k
 unfold laws_FnExactEntryMax.f
 repeat' first
   | (with_reducible exact impl_EntryMax.mono _ _ _ _ _ _ _ _ _ _ _)
   | (with_reducible exact spec_EntryMax.mono _ _ _ _ _ _ _ _ _ _ _)
   | (with_reducible exact LeO.refl _)
   | (with_reducible exact LeO.none _)
   | (with_reducible refine LeO.ite ?_ ?_)
   | (with_reducible refine LeO.bind ?_ (fun _ => ?_))
   | exact impl_EntryMax.mono _ _ _ _ _ _ _ _ _ _ _
   | exact spec_EntryMax.mono _ _ _ _ _ _ _ _ _ _ _
   | exact LeO.none _
   | refine LeO.ite ?_ ?_
   | refine LeO.bind ?_ (fun _ => ?_)
set_option maxHeartbeats 8000000 in
set_option maxRecDepth 100000 in
theorem laws_FnExactEntryMax.calls (k : Nat) (a0_0 : Int) (a0_1 : Int) (a0_2 : Int) (a0_3 : Int) (a0_4 : ByteArray) (a1_0 : Int) (a1_1 : Int) (a1_2 : Int) (a1_3 : Int) (a1_4 : ByteArray) (r : Bool) (w : World) (h : laws_FnExactEntryMax.f k a0_0 a0_1 a0_2 a0_3 a0_4 a1_0 a1_1 a1_2 a1_3 a1_4 = some r) :
  Calls Try.prog 3 #[.agg #[.int .i64 a0_0, .int .i64 a0_1, .int .i64 a0_2, .int .i64 a0_3, .string a0_4], .agg #[.int .i64 a1_0, .int .i64 a1_1, .int .i64 a1_2, .int .i64 a1_3, .string a1_4]] w fun e w' => e = .returned (.bool r) ∧ Below w.heap.size w w' := by
 have hu23 := Try.underlying23
 have hu25 := Try.underlying25
 have HB := zm (Below.refl w.heap.size w)
 have H : ((laws_szEntry.f a0_0 a0_1 a0_2 a0_3 a0_4 1048576).bind fun t144 => (if t144 < 0 then (some true) else ((laws_szEntry.f a1_0 a1_1 a1_2 a1_3 a1_4 t144).bind fun t145 => (if t145 < 0 then (some true) else ((laws_toEntry.f a0_0 a0_1 a0_2 a0_3 a0_4).bind fun bt146 => ((laws_toEntry.f a1_0 a1_1 a1_2 a1_3 a1_4).bind fun bt151 => ((spec_EntryMax.f k bt146.1 bt146.2.1 bt146.2.2.1 bt146.2.2.2.1 bt146.2.2.2.2 bt151.1 bt151.2.1 bt151.2.2.1 bt151.2.2.2.1 bt151.2.2.2.2).bind fun bt156 => ((laws_toEntry.f a0_0 a0_1 a0_2 a0_3 a0_4).bind fun bt162 => ((laws_toEntry.f a1_0 a1_1 a1_2 a1_3 a1_4).bind fun bt167 => ((impl_EntryMax.f k bt162.1 bt162.2.1 bt162.2.2.1 bt162.2.2.2.1 bt162.2.2.2.2 bt167.1 bt167.2.1 bt167.2.2.1 bt167.2.2.2.1 bt167.2.2.2.2).bind fun bt172 => ((laws_eqEntry.f bt172.1 bt172.2.1 bt172.2.2.1 bt172.2.2.2.1 bt172.2.2.2.2 bt156.1 bt156.2.1 bt156.2.2.1 bt156.2.2.2.1 bt156.2.2.2.2).bind fun t178 => (if t178 = true then (some true) else (some false))))))))))))) = some r := h
 clear h
 replace H := Option.bind_eq_some_iff.mp H
 obtain ⟨t144, A30, H⟩ := H
 replace H : (if t144 < 0 then (some true) else ((laws_szEntry.f a1_0 a1_1 a1_2 a1_3 a1_4 t144).bind fun t145 => (if t145 < 0 then (some true) else ((laws_toEntry.f a0_0 a0_1 a0_2 a0_3 a0_4).bind fun bt146 => ((laws_toEntry.f a1_0 a1_1 a1_2 a1_3 a1_4).bind fun bt151 => ((spec_EntryMax.f k bt146.1 bt146.2.1 bt146.2.2.1 bt146.2.2.2.1 bt146.2.2.2.2 bt151.1 bt151.2.1 bt151.2.2.1 bt151.2.2.2.1 bt151.2.2.2.2).bind fun bt156 => ((laws_toEntry.f a0_0 a0_1 a0_2 a0_3 a0_4).bind fun bt162 => ((laws_toEntry.f a1_0 a1_1 a1_2 a1_3 a1_4).bind fun bt167 => ((impl_EntryMax.f k bt162.1 bt162.2.1 bt162.2.2.1 bt162.2.2.2.1 bt162.2.2.2.2 bt167.1 bt167.2.1 bt167.2.2.1 bt167.2.2.2.1 bt167.2.2.2.2).bind fun bt172 => ((laws_eqEntry.f bt172.1 bt172.2.1 bt172.2.2.1 bt172.2.2.2.1 bt172.2.2.2.2 bt156.1 bt156.2.1 bt156.2.2.1 bt156.2.2.2.1 bt156.2.2.2.2).bind fun t178 => (if t178 = true then (some true) else (some false)))))))))))) = some r := H
 have A3 := zm A30
 clear A30
 by_cases c4 : t144 < 0
 ·rw [if_pos c4] at H
  have c4b0 : decide (t144 < 0) = true := decide_eq_true c4
  clear c4
  obtain rfl := Option.some.inj H
  go_enter Try.func3, Try.ntmps3
  go_wp2_with (first | ((with_reducible refine gate_dst (N := 2) rfl ?_); refine zbox 2 #[.int .i64 a0_0, .int .i64 a0_1, .int .i64 a0_2, .int .i64 a0_3, .string a0_4] 23 ?_; intro gb142 hg w5 hbox hb; have BK142 := zm (hbox); have GW142 := zge w hg zB; have GE142 := zge w hg zB; replace HB := zm (below_step zB hb); clear hb hbox hg) | ((with_reducible refine gate_dst (N := 3) rfl ?_); refine zbox 3 #[.int .i64 a1_0, .int .i64 a1_1, .int .i64 a1_2, .int .i64 a1_3, .string a1_4] 23 ?_; intro gb143 hg w6 hbox hb; have BK143 := zm (hbox); have GW143 := zge w hg zB; have GE143 := zge w hg zB; replace HB := zm (below_step zB hb); have NB142_143 := zlt hg (zb BK142); have NB143_142 := zgt hg (zb BK142); replace BK142 := zm (blk_below (zb BK142) hb); clear hb hbox hg; have hnb7 := NB142_143.out; have hnc7 := NB143_142.out; have hcz8_0 : w6.cell? ⟨gb142, 0, none⟩ = some (.int .i64 a0_0) := (blk_cell BK142.out 0).trans rfl; have hcz8_1 : w6.cell? ⟨gb142, 1, none⟩ = some (.int .i64 a0_1) := (blk_cell BK142.out 1).trans rfl; have hcz8_2 : w6.cell? ⟨gb142, 2, none⟩ = some (.int .i64 a0_2) := (blk_cell BK142.out 2).trans rfl; have hcz8_3 : w6.cell? ⟨gb142, 3, none⟩ = some (.int .i64 a0_3) := (blk_cell BK142.out 3).trans rfl; have hcz8_4 : w6.cell? ⟨gb142, 4, none⟩ = some (.string a0_4) := (blk_cell BK142.out 4).trans rfl; have hfz8_0 := blk_frozen BK142.out 0; have hfz8_1 := blk_frozen BK142.out 1; have hfz8_2 := blk_frozen BK142.out 2; have hfz8_3 := blk_frozen BK142.out 3; have hfz8_4 := blk_frozen BK142.out 4) | ((with_reducible refine gate_callee (f := 15) rfl ?_); refine zg (some 10) #[.agg #[.int .i64 a0_0, .int .i64 a0_1, .int .i64 a0_2, .int .i64 a0_3, .string a0_4], .int .i64 1048576] Try.func15 ?_; (with_reducible refine (laws_szEntry.calls a0_0 a0_1 a0_2 a0_3 a0_4 1048576 t144 _ A3.out).mono ?_); rintro e w9 ⟨rfl, hb⟩; refine ⟨_, rfl, ?_⟩; replace BK142 := zm (blk_below (zb BK142) hb); replace BK143 := zm (blk_below (zb BK143) hb); replace HB := zm (below_step zB hb); clear hb))
  go_ret
  exact ⟨zE, zB⟩
 ·rw [if_neg c4] at H
  have c4b0 : decide (t144 < 0) = false := decide_eq_false c4
  clear c4
  replace H := Option.bind_eq_some_iff.mp H
  obtain ⟨t145, A100, H⟩ := H
  replace H : (if t145 < 0 then (some true) else ((laws_toEntry.f a0_0 a0_1 a0_2 a0_3 a0_4).bind fun bt146 => ((laws_toEntry.f a1_0 a1_1 a1_2 a1_3 a1_4).bind fun bt151 => ((spec_EntryMax.f k bt146.1 bt146.2.1 bt146.2.2.1 bt146.2.2.2.1 bt146.2.2.2.2 bt151.1 bt151.2.1 bt151.2.2.1 bt151.2.2.2.1 bt151.2.2.2.2).bind fun bt156 => ((laws_toEntry.f a0_0 a0_1 a0_2 a0_3 a0_4).bind fun bt162 => ((laws_toEntry.f a1_0 a1_1 a1_2 a1_3 a1_4).bind fun bt167 => ((impl_EntryMax.f k bt162.1 bt162.2.1 bt162.2.2.1 bt162.2.2.2.1 bt162.2.2.2.2 bt167.1 bt167.2.1 bt167.2.2.1 bt167.2.2.2.1 bt167.2.2.2.2).bind fun bt172 => ((laws_eqEntry.f bt172.1 bt172.2.1 bt172.2.2.1 bt172.2.2.2.1 bt172.2.2.2.2 bt156.1 bt156.2.1 bt156.2.2.1 bt156.2.2.2.1 bt156.2.2.2.2).bind fun t178 => (if t178 = true then (some true) else (some false)))))))))) = some r := H
  have A10 := zm A100
  clear A100
  by_cases c11 : t145 < 0
  ·rw [if_pos c11] at H
   have c11b0 : decide (t145 < 0) = true := decide_eq_true c11
   clear c11
   obtain rfl := Option.some.inj H
   go_enter Try.func3, Try.ntmps3
   go_wp2_with (first | ((with_reducible refine gate_dst (N := 2) rfl ?_); refine zbox 2 #[.int .i64 a0_0, .int .i64 a0_1, .int .i64 a0_2, .int .i64 a0_3, .string a0_4] 23 ?_; intro gb142 hg w12 hbox hb; have BK142 := zm (hbox); have GW142 := zge w hg zB; have GE142 := zge w hg zB; replace HB := zm (below_step zB hb); clear hb hbox hg) | ((with_reducible refine gate_dst (N := 3) rfl ?_); refine zbox 3 #[.int .i64 a1_0, .int .i64 a1_1, .int .i64 a1_2, .int .i64 a1_3, .string a1_4] 23 ?_; intro gb143 hg w13 hbox hb; have BK143 := zm (hbox); have GW143 := zge w hg zB; have GE143 := zge w hg zB; replace HB := zm (below_step zB hb); have NB142_143 := zlt hg (zb BK142); have NB143_142 := zgt hg (zb BK142); replace BK142 := zm (blk_below (zb BK142) hb); clear hb hbox hg; have hnb14 := NB142_143.out; have hnc14 := NB143_142.out; have hcz15_0 : w13.cell? ⟨gb142, 0, none⟩ = some (.int .i64 a0_0) := (blk_cell BK142.out 0).trans rfl; have hcz15_1 : w13.cell? ⟨gb142, 1, none⟩ = some (.int .i64 a0_1) := (blk_cell BK142.out 1).trans rfl; have hcz15_2 : w13.cell? ⟨gb142, 2, none⟩ = some (.int .i64 a0_2) := (blk_cell BK142.out 2).trans rfl; have hcz15_3 : w13.cell? ⟨gb142, 3, none⟩ = some (.int .i64 a0_3) := (blk_cell BK142.out 3).trans rfl; have hcz15_4 : w13.cell? ⟨gb142, 4, none⟩ = some (.string a0_4) := (blk_cell BK142.out 4).trans rfl; have hfz15_0 := blk_frozen BK142.out 0; have hfz15_1 := blk_frozen BK142.out 1; have hfz15_2 := blk_frozen BK142.out 2; have hfz15_3 := blk_frozen BK142.out 3; have hfz15_4 := blk_frozen BK142.out 4) | ((with_reducible refine gate_callee (f := 15) rfl ?_); refine zg (some 10) #[.agg #[.int .i64 a0_0, .int .i64 a0_1, .int .i64 a0_2, .int .i64 a0_3, .string a0_4], .int .i64 1048576] Try.func15 ?_; (with_reducible refine (laws_szEntry.calls a0_0 a0_1 a0_2 a0_3 a0_4 1048576 t144 _ A3.out).mono ?_); rintro e w16 ⟨rfl, hb⟩; refine ⟨_, rfl, ?_⟩; replace BK142 := zm (blk_below (zb BK142) hb); replace BK143 := zm (blk_below (zb BK143) hb); replace HB := zm (below_step zB hb); clear hb; have hcz17_0 : w16.cell? ⟨gb143, 0, none⟩ = some (.int .i64 a1_0) := (blk_cell BK143.out 0).trans rfl; have hcz17_1 : w16.cell? ⟨gb143, 1, none⟩ = some (.int .i64 a1_1) := (blk_cell BK143.out 1).trans rfl; have hcz17_2 : w16.cell? ⟨gb143, 2, none⟩ = some (.int .i64 a1_2) := (blk_cell BK143.out 2).trans rfl; have hcz17_3 : w16.cell? ⟨gb143, 3, none⟩ = some (.int .i64 a1_3) := (blk_cell BK143.out 3).trans rfl; have hcz17_4 : w16.cell? ⟨gb143, 4, none⟩ = some (.string a1_4) := (blk_cell BK143.out 4).trans rfl; have hfz17_0 := blk_frozen BK143.out 0; have hfz17_1 := blk_frozen BK143.out 1; have hfz17_2 := blk_frozen BK143.out 2; have hfz17_3 := blk_frozen BK143.out 3; have hfz17_4 := blk_frozen BK143.out 4) | ((with_reducible refine gate_callee (f := 15) rfl ?_); refine zg (some 15) #[.agg #[.int .i64 a1_0, .int .i64 a1_1, .int .i64 a1_2, .int .i64 a1_3, .string a1_4], .int .i64 t144] Try.func15 ?_; (with_reducible refine (laws_szEntry.calls a1_0 a1_1 a1_2 a1_3 a1_4 t144 t145 _ A10.out).mono ?_); rintro e w18 ⟨rfl, hb⟩; refine ⟨_, rfl, ?_⟩; replace BK142 := zm (blk_below (zb BK142) hb); replace BK143 := zm (blk_below (zb BK143) hb); replace HB := zm (below_step zB hb); clear hb))
   go_ret
   exact ⟨zE, zB⟩
  ·rw [if_neg c11] at H
   have c11b0 : decide (t145 < 0) = false := decide_eq_false c11
   clear c11
   replace H := Option.bind_eq_some_iff.mp H
   obtain ⟨⟨t146, t147, t148, t149, t150⟩, A190, H⟩ := H
   replace H : ((laws_toEntry.f a1_0 a1_1 a1_2 a1_3 a1_4).bind fun bt151 => ((spec_EntryMax.f k t146 t147 t148 t149 t150 bt151.1 bt151.2.1 bt151.2.2.1 bt151.2.2.2.1 bt151.2.2.2.2).bind fun bt156 => ((laws_toEntry.f a0_0 a0_1 a0_2 a0_3 a0_4).bind fun bt162 => ((laws_toEntry.f a1_0 a1_1 a1_2 a1_3 a1_4).bind fun bt167 => ((impl_EntryMax.f k bt162.1 bt162.2.1 bt162.2.2.1 bt162.2.2.2.1 bt162.2.2.2.2 bt167.1 bt167.2.1 bt167.2.2.1 bt167.2.2.2.1 bt167.2.2.2.2).bind fun bt172 => ((laws_eqEntry.f bt172.1 bt172.2.1 bt172.2.2.1 bt172.2.2.2.1 bt172.2.2.2.2 bt156.1 bt156.2.1 bt156.2.2.1 bt156.2.2.2.1 bt156.2.2.2.2).bind fun t178 => (if t178 = true then (some true) else (some false)))))))) = some r := H
   have A19 := zm A190
   clear A190
   replace H := Option.bind_eq_some_iff.mp H
   obtain ⟨⟨t151, t152, t153, t154, t155⟩, A200, H⟩ := H
   replace H : ((spec_EntryMax.f k t146 t147 t148 t149 t150 t151 t152 t153 t154 t155).bind fun bt156 => ((laws_toEntry.f a0_0 a0_1 a0_2 a0_3 a0_4).bind fun bt162 => ((laws_toEntry.f a1_0 a1_1 a1_2 a1_3 a1_4).bind fun bt167 => ((impl_EntryMax.f k bt162.1 bt162.2.1 bt162.2.2.1 bt162.2.2.2.1 bt162.2.2.2.2 bt167.1 bt167.2.1 bt167.2.2.1 bt167.2.2.2.1 bt167.2.2.2.2).bind fun bt172 => ((laws_eqEntry.f bt172.1 bt172.2.1 bt172.2.2.1 bt172.2.2.2.1 bt172.2.2.2.2 bt156.1 bt156.2.1 bt156.2.2.1 bt156.2.2.2.1 bt156.2.2.2.2).bind fun t178 => (if t178 = true then (some true) else (some false))))))) = some r := H
   have A20 := zm A200
   clear A200
   replace H := Option.bind_eq_some_iff.mp H
   obtain ⟨⟨t156, t157, t158, t159, t160⟩, A210, H⟩ := H
   replace H : ((laws_toEntry.f a0_0 a0_1 a0_2 a0_3 a0_4).bind fun bt162 => ((laws_toEntry.f a1_0 a1_1 a1_2 a1_3 a1_4).bind fun bt167 => ((impl_EntryMax.f k bt162.1 bt162.2.1 bt162.2.2.1 bt162.2.2.2.1 bt162.2.2.2.2 bt167.1 bt167.2.1 bt167.2.2.1 bt167.2.2.2.1 bt167.2.2.2.2).bind fun bt172 => ((laws_eqEntry.f bt172.1 bt172.2.1 bt172.2.2.1 bt172.2.2.2.1 bt172.2.2.2.2 t156 t157 t158 t159 t160).bind fun t178 => (if t178 = true then (some true) else (some false)))))) = some r := H
   have A21 := zm A210
   clear A210
   replace H := Option.bind_eq_some_iff.mp H
   obtain ⟨⟨t162, t163, t164, t165, t166⟩, A220, H⟩ := H
   replace H : ((laws_toEntry.f a1_0 a1_1 a1_2 a1_3 a1_4).bind fun bt167 => ((impl_EntryMax.f k t162 t163 t164 t165 t166 bt167.1 bt167.2.1 bt167.2.2.1 bt167.2.2.2.1 bt167.2.2.2.2).bind fun bt172 => ((laws_eqEntry.f bt172.1 bt172.2.1 bt172.2.2.1 bt172.2.2.2.1 bt172.2.2.2.2 t156 t157 t158 t159 t160).bind fun t178 => (if t178 = true then (some true) else (some false))))) = some r := H
   have A22 := zm A220
   clear A220
   replace H := Option.bind_eq_some_iff.mp H
   obtain ⟨⟨t167, t168, t169, t170, t171⟩, A230, H⟩ := H
   replace H : ((impl_EntryMax.f k t162 t163 t164 t165 t166 t167 t168 t169 t170 t171).bind fun bt172 => ((laws_eqEntry.f bt172.1 bt172.2.1 bt172.2.2.1 bt172.2.2.2.1 bt172.2.2.2.2 t156 t157 t158 t159 t160).bind fun t178 => (if t178 = true then (some true) else (some false)))) = some r := H
   have A23 := zm A230
   clear A230
   replace H := Option.bind_eq_some_iff.mp H
   obtain ⟨⟨t172, t173, t174, t175, t176⟩, A240, H⟩ := H
   replace H : ((laws_eqEntry.f t172 t173 t174 t175 t176 t156 t157 t158 t159 t160).bind fun t178 => (if t178 = true then (some true) else (some false))) = some r := H
   have A24 := zm A240
   clear A240
   replace H := Option.bind_eq_some_iff.mp H
   obtain ⟨t178, A250, H⟩ := H
   replace H : (if t178 = true then (some true) else (some false)) = some r := H
   have A25 := zm A250
   clear A250
   by_cases c26 : t178 = true
   ·subst c26
    have H1 : (some true) = some r := by rw [if_pos rfl] at H; exact H
    clear H
    have H := H1
    clear H1
    obtain rfl := Option.some.inj H
    go_enter Try.func3, Try.ntmps3
    try go_wp2_with (first | ((with_reducible refine gate_dst (N := 2) rfl ?_); refine zbox 2 #[.int .i64 a0_0, .int .i64 a0_1, .int .i64 a0_2, .int .i64 a0_3, .string a0_4] 23 ?_; intro gb142 hg w27 hbox hb; have BK142 := zm (hbox); have GW142 := zge w hg zB; have GE142 := zge w hg zB; replace HB := zm (below_step zB hb); clear hb hbox hg) | ((with_reducible refine gate_dst (N := 3) rfl ?_); refine zbox 3 #[.int .i64 a1_0, .int .i64 a1_1, .int .i64 a1_2, .int .i64 a1_3, .string a1_4] 23 ?_; intro gb143 hg w28 hbox hb; have BK143 := zm (hbox); have GW143 := zge w hg zB; have GE143 := zge w hg zB; replace HB := zm (below_step zB hb); have NB142_143 := zlt hg (zb BK142); have NB143_142 := zgt hg (zb BK142); replace BK142 := zm (blk_below (zb BK142) hb); clear hb hbox hg; have hnb29 := NB142_143.out; have hnc29 := NB143_142.out; have hcz30_0 : w28.cell? ⟨gb142, 0, none⟩ = some (.int .i64 a0_0) := (blk_cell BK142.out 0).trans rfl; have hcz30_1 : w28.cell? ⟨gb142, 1, none⟩ = some (.int .i64 a0_1) := (blk_cell BK142.out 1).trans rfl; have hcz30_2 : w28.cell? ⟨gb142, 2, none⟩ = some (.int .i64 a0_2) := (blk_cell BK142.out 2).trans rfl; have hcz30_3 : w28.cell? ⟨gb142, 3, none⟩ = some (.int .i64 a0_3) := (blk_cell BK142.out 3).trans rfl; have hcz30_4 : w28.cell? ⟨gb142, 4, none⟩ = some (.string a0_4) := (blk_cell BK142.out 4).trans rfl; have hfz30_0 := blk_frozen BK142.out 0; have hfz30_1 := blk_frozen BK142.out 1; have hfz30_2 := blk_frozen BK142.out 2; have hfz30_3 := blk_frozen BK142.out 3; have hfz30_4 := blk_frozen BK142.out 4) | ((with_reducible refine gate_callee (f := 15) rfl ?_); refine zg (some 10) #[.agg #[.int .i64 a0_0, .int .i64 a0_1, .int .i64 a0_2, .int .i64 a0_3, .string a0_4], .int .i64 1048576] Try.func15 ?_; (with_reducible refine (laws_szEntry.calls a0_0 a0_1 a0_2 a0_3 a0_4 1048576 t144 _ A3.out).mono ?_); rintro e w31 ⟨rfl, hb⟩; refine ⟨_, rfl, ?_⟩; replace BK142 := zm (blk_below (zb BK142) hb); replace BK143 := zm (blk_below (zb BK143) hb); replace HB := zm (below_step zB hb); clear hb; have hcz32_0 : w31.cell? ⟨gb143, 0, none⟩ = some (.int .i64 a1_0) := (blk_cell BK143.out 0).trans rfl; have hcz32_1 : w31.cell? ⟨gb143, 1, none⟩ = some (.int .i64 a1_1) := (blk_cell BK143.out 1).trans rfl; have hcz32_2 : w31.cell? ⟨gb143, 2, none⟩ = some (.int .i64 a1_2) := (blk_cell BK143.out 2).trans rfl; have hcz32_3 : w31.cell? ⟨gb143, 3, none⟩ = some (.int .i64 a1_3) := (blk_cell BK143.out 3).trans rfl; have hcz32_4 : w31.cell? ⟨gb143, 4, none⟩ = some (.string a1_4) := (blk_cell BK143.out 4).trans rfl; have hfz32_0 := blk_frozen BK143.out 0; have hfz32_1 := blk_frozen BK143.out 1; have hfz32_2 := blk_frozen BK143.out 2; have hfz32_3 := blk_frozen BK143.out 3; have hfz32_4 := blk_frozen BK143.out 4) | ((with_reducible refine gate_callee (f := 15) rfl ?_); refine zg (some 15) #[.agg #[.int .i64 a1_0, .int .i64 a1_1, .int .i64 a1_2, .int .i64 a1_3, .string a1_4], .int .i64 t144] Try.func15 ?_; (with_reducible refine (laws_szEntry.calls a1_0 a1_1 a1_2 a1_3 a1_4 t144 t145 _ A10.out).mono ?_); rintro e w33 ⟨rfl, hb⟩; refine ⟨_, rfl, ?_⟩; replace BK142 := zm (blk_below (zb BK142) hb); replace BK143 := zm (blk_below (zb BK143) hb); replace HB := zm (below_step zB hb); clear hb))
    replace BK142 := zm (blk_drew BK142.out)
    replace BK143 := zm (blk_drew BK143.out)
    replace HB := zm (below_drew1 HB.out)
    refine start_ (n := 7) (S := fun w' => w'.cell? ⟨gb142, 0, none⟩ = some (.int .i64 a0_0) ∧ w'.cell? ⟨gb142, 1, none⟩ = some (.int .i64 a0_1) ∧ w'.cell? ⟨gb142, 2, none⟩ = some (.int .i64 a0_2) ∧ w'.cell? ⟨gb142, 3, none⟩ = some (.int .i64 a0_3) ∧ w'.cell? ⟨gb142, 4, none⟩ = some (.string a0_4) ∧ w'.cell? ⟨gb143, 0, none⟩ = some (.int .i64 a1_0) ∧ w'.cell? ⟨gb143, 1, none⟩ = some (.int .i64 a1_1) ∧ w'.cell? ⟨gb143, 2, none⟩ = some (.int .i64 a1_2) ∧ w'.cell? ⟨gb143, 3, none⟩ = some (.int .i64 a1_3) ∧ w'.cell? ⟨gb143, 4, none⟩ = some (.string a1_4)) (ds := []) (zl 7 0) (by kernel_rfl) rfl rfl ⟨(blk_cell BK142.out 0).trans rfl, (blk_cell BK142.out 1).trans rfl, (blk_cell BK142.out 2).trans rfl, (blk_cell BK142.out 3).trans rfl, (blk_cell BK142.out 4).trans rfl, (blk_cell BK143.out 0).trans rfl, (blk_cell BK143.out 1).trans rfl, (blk_cell BK143.out 2).trans rfl, (blk_cell BK143.out 3).trans rfl, (blk_cell BK143.out 4).trans rfl⟩ (fun hHeld => ?_)
    generalize w33.drew = w34 at BK142 BK143 HB hHeld ⊢
    refine zt 0 (some 18) (zl 7 1) ?_
    refine zt 2 (some 20) (zl 7 5) ?_
    refine join_ (σ := Nat) 1 #[true, true, true, true, true, true, false] (fun s_ => [(19, .agg #[.int .i64 t146, .int .i64 t147, .int .i64 t148, .int .i64 t149, .string t150]), (21, .agg #[.int .i64 t151, .int .i64 t152, .int .i64 t153, .int .i64 t154, .string t155]), (22, .agg #[.int .i64 t156, .int .i64 t157, .int .i64 t158, .int .i64 t159, .string t160]), (6, .pointer (some ⟨s_, 0, none⟩))]) (fun s_ w' => (w'.cell? ⟨gb142, 0, none⟩ = some (.int .i64 a0_0) ∧ w'.cell? ⟨gb142, 1, none⟩ = some (.int .i64 a0_1) ∧ w'.cell? ⟨gb142, 2, none⟩ = some (.int .i64 a0_2) ∧ w'.cell? ⟨gb142, 3, none⟩ = some (.int .i64 a0_3) ∧ w'.cell? ⟨gb142, 4, none⟩ = some (.string a0_4) ∧ w'.cell? ⟨gb143, 0, none⟩ = some (.int .i64 a1_0) ∧ w'.cell? ⟨gb143, 1, none⟩ = some (.int .i64 a1_1) ∧ w'.cell? ⟨gb143, 2, none⟩ = some (.int .i64 a1_2) ∧ w'.cell? ⟨gb143, 3, none⟩ = some (.int .i64 a1_3) ∧ w'.cell? ⟨gb143, 4, none⟩ = some (.string a1_4)) ∧ (w'.heap[gb142]? = some (.cells #[.int .i64 a0_0, .int .i64 a0_1, .int .i64 a0_2, .int .i64 a0_3, .string a0_4] 23 (0, 0))) ∧ (w'.heap[gb143]? = some (.cells #[.int .i64 a1_0, .int .i64 a1_1, .int .i64 a1_2, .int .i64 a1_3, .string a1_4] 23 (0, 0))) ∧ (w'.heap[s_]? = some (.cells #[.int .i64 0, .int .i64 0, .int .i64 0, .int .i64 0, .string (⟨#[]⟩ : ByteArray)] 25 (0, 0))) ∧ (w.heap.size ≤ s_) ∧ (w.heap.size ≤ s_) ∧ (gb142 ≠ s_) ∧ (s_ ≠ gb142) ∧ (gb143 ≠ s_) ∧ (s_ ≠ gb143) ∧ (Below w.heap.size w w')) ?_ ?_
    rotate_left
    ·intro hCont
     refine two_ (i := 1) (j := 5) (Ni := some 19) (Nj := some 6) #[true, true, true, false, false, false, false] #[true, false, true, false, false, true, false] rfl rfl rfl rfl (by kernel_rfl) (by decide) (by decide) (fun K hK => ?_) (fun K hK => ?_)
     ·skip
      refine zgo (N := some 19) #[.agg #[.int .i64 a0_0, .int .i64 a0_1, .int .i64 a0_2, .int .i64 a0_3, .string a0_4]] Try.func17 ?_
      with_reducible refine (laws_toEntry.calls a0_0 a0_1 a0_2 a0_3 a0_4 t146 t147 t148 t149 t150 _ A19.out).mono ?_
      rintro e w35 ⟨rfl, hb⟩
      refine ⟨_, rfl, ?_⟩
      replace BK142 := zm (blk_below (zb BK142) hb)
      replace BK143 := zm (blk_below (zb BK143) hb)
      replace HB := zm (below_step zB hb)
      (try clear hb)
      (try clear hb2)
      (try clear hk)
      (try clear hi)
      refine hK.out _ _ ⟨(blk_cell BK142.out 0).trans rfl, (blk_cell BK142.out 1).trans rfl, (blk_cell BK142.out 2).trans rfl, (blk_cell BK142.out 3).trans rfl, (blk_cell BK142.out 4).trans rfl, (blk_cell BK143.out 0).trans rfl, (blk_cell BK143.out 1).trans rfl, (blk_cell BK143.out 2).trans rfl, (blk_cell BK143.out 3).trans rfl, (blk_cell BK143.out 4).trans rfl⟩ (fun hHeld => ?_)
      clear hK K
      refine zn ?_
      refine two_ (i := 3) (j := 5) (Ni := some 21) (Nj := some 6) #[true, true, true, true, false, false, false] #[true, true, true, false, false, true, false] rfl rfl rfl rfl (by kernel_rfl) (by decide) (by decide) (fun K hK => ?_) (fun K hK => ?_)
      ·skip
       refine zgo (N := some 21) #[.agg #[.int .i64 a1_0, .int .i64 a1_1, .int .i64 a1_2, .int .i64 a1_3, .string a1_4]] Try.func17 ?_
       with_reducible refine (laws_toEntry.calls a1_0 a1_1 a1_2 a1_3 a1_4 t151 t152 t153 t154 t155 _ A20.out).mono ?_
       rintro e w36 ⟨rfl, hb⟩
       refine ⟨_, rfl, ?_⟩
       replace BK142 := zm (blk_below (zb BK142) hb)
       replace BK143 := zm (blk_below (zb BK143) hb)
       replace HB := zm (below_step zB hb)
       (try clear hb)
       (try clear hb2)
       (try clear hk)
       (try clear hi)
       refine hK.out _ _ ⟨(blk_cell BK142.out 0).trans rfl, (blk_cell BK142.out 1).trans rfl, (blk_cell BK142.out 2).trans rfl, (blk_cell BK142.out 3).trans rfl, (blk_cell BK142.out 4).trans rfl, (blk_cell BK143.out 0).trans rfl, (blk_cell BK143.out 1).trans rfl, (blk_cell BK143.out 2).trans rfl, (blk_cell BK143.out 3).trans rfl, (blk_cell BK143.out 4).trans rfl⟩ (fun hHeld => ?_)
       clear hK K
       refine zn ?_
       refine two_ (i := 4) (j := 5) (Ni := some 22) (Nj := some 6) #[true, true, true, true, true, false, false] #[true, true, true, true, false, true, false] rfl rfl rfl rfl (by kernel_rfl) (by decide) (by decide) (fun K hK => ?_) (fun K hK => ?_)
       ·skip
        refine zgo (N := some 22) #[.agg #[.int .i64 t146, .int .i64 t147, .int .i64 t148, .int .i64 t149, .string t150], .agg #[.int .i64 t151, .int .i64 t152, .int .i64 t153, .int .i64 t154, .string t155]] Try.func16 ?_
        with_reducible refine (spec_EntryMax.calls k t146 t147 t148 t149 t150 t151 t152 t153 t154 t155 t156 t157 t158 t159 t160 _ A21.out).mono ?_
        rintro e w37 ⟨rfl, hb⟩
        refine ⟨_, rfl, ?_⟩
        replace BK142 := zm (blk_below (zb BK142) hb)
        replace BK143 := zm (blk_below (zb BK143) hb)
        replace HB := zm (below_step zB hb)
        (try clear hb)
        (try clear hb2)
        (try clear hk)
        (try clear hi)
        refine hK.out _ _ ⟨(blk_cell BK142.out 0).trans rfl, (blk_cell BK142.out 1).trans rfl, (blk_cell BK142.out 2).trans rfl, (blk_cell BK142.out 3).trans rfl, (blk_cell BK142.out 4).trans rfl, (blk_cell BK143.out 0).trans rfl, (blk_cell BK143.out 1).trans rfl, (blk_cell BK143.out 2).trans rfl, (blk_cell BK143.out 3).trans rfl, (blk_cell BK143.out 4).trans rfl⟩ (fun hHeld => ?_)
        clear hK K
        refine zn ?_
        refine zo 5 (some 6) (zl 7 63) (fun K hK => ?_)
        refine box_step ?hg (N := 6) ?hd (cs := #[.int .i64 0, .int .i64 0, .int .i64 0, .int .i64 0, .string (⟨#[]⟩ : ByteArray)]) (t := 25) ?hr ?_; (case hd => rfl); (case hg => rfl); (case hr => first | (go_simp; done) | (go_simp; rfl))
        intro gb161 hg w38 hbox hb
        have BK161 := zm (hbox)
        have GW161 := zge w hg zB
        have GE161 := zge w hg zB
        replace HB := zm (below_step zB hb)
        have NB142_161 := zlt hg (zb BK142)
        have NB161_142 := zgt hg (zb BK142)
        replace BK142 := zm (blk_below (zb BK142) hb)
        have NB143_161 := zlt hg (zb BK143)
        have NB161_143 := zgt hg (zb BK143)
        replace BK143 := zm (blk_below (zb BK143) hb)
        clear hb hbox hg
        refine hK.out _ _ ⟨(blk_cell BK142.out 0).trans rfl, (blk_cell BK142.out 1).trans rfl, (blk_cell BK142.out 2).trans rfl, (blk_cell BK142.out 3).trans rfl, (blk_cell BK142.out 4).trans rfl, (blk_cell BK143.out 0).trans rfl, (blk_cell BK143.out 1).trans rfl, (blk_cell BK143.out 2).trans rfl, (blk_cell BK143.out 3).trans rfl, (blk_cell BK143.out 4).trans rfl⟩ (fun hHeld => ?_)
        clear hK K
        refine zn (N := some 6) ?_
        exact norm_ (by simp only [putAll, Act.put, List.setIfInBounds_toArray, List.set_cons_zero, List.set_cons_succ]) (hCont (gb161) _ ⟨hHeld, (zb BK142), (zb BK143), (zb BK161), GW161.out, GE161.out, NB142_161.out, NB161_142.out, NB143_161.out, NB161_143.out, zB⟩)
       ·skip
        refine box_step ?hg (N := 6) ?hd (cs := #[.int .i64 0, .int .i64 0, .int .i64 0, .int .i64 0, .string (⟨#[]⟩ : ByteArray)]) (t := 25) ?hr ?_; (case hd => rfl); (case hg => rfl); (case hr => first | (go_simp; done) | (go_simp; rfl))
        intro gb161 hg w37 hbox hb
        have BK161 := zm (hbox)
        have GW161 := zge w hg zB
        have GE161 := zge w hg zB
        replace HB := zm (below_step zB hb)
        have NB142_161 := zlt hg (zb BK142)
        have NB161_142 := zgt hg (zb BK142)
        replace BK142 := zm (blk_below (zb BK142) hb)
        have NB143_161 := zlt hg (zb BK143)
        have NB161_143 := zgt hg (zb BK143)
        replace BK143 := zm (blk_below (zb BK143) hb)
        clear hb hbox hg
        refine hK.out _ _ ⟨(blk_cell BK142.out 0).trans rfl, (blk_cell BK142.out 1).trans rfl, (blk_cell BK142.out 2).trans rfl, (blk_cell BK142.out 3).trans rfl, (blk_cell BK142.out 4).trans rfl, (blk_cell BK143.out 0).trans rfl, (blk_cell BK143.out 1).trans rfl, (blk_cell BK143.out 2).trans rfl, (blk_cell BK143.out 3).trans rfl, (blk_cell BK143.out 4).trans rfl⟩ (fun hHeld => ?_)
        clear hK K
        refine zn (N := some 6) ?_
        refine zo 4 (some 22) (zl 7 63) (fun K hK => ?_)
        refine zgo #[.agg #[.int .i64 t146, .int .i64 t147, .int .i64 t148, .int .i64 t149, .string t150], .agg #[.int .i64 t151, .int .i64 t152, .int .i64 t153, .int .i64 t154, .string t155]] Try.func16 ?_
        with_reducible refine (spec_EntryMax.calls k t146 t147 t148 t149 t150 t151 t152 t153 t154 t155 t156 t157 t158 t159 t160 _ A21.out).mono ?_
        rintro e w38 ⟨rfl, hb⟩
        refine ⟨_, rfl, ?_⟩
        replace BK142 := zm (blk_below (zb BK142) hb)
        replace BK143 := zm (blk_below (zb BK143) hb)
        replace BK161 := zm (blk_below (zb BK161) hb)
        replace HB := zm (below_step zB hb)
        (try clear hb)
        (try clear hb2)
        (try clear hk)
        (try clear hi)
        refine hK.out _ _ ⟨(blk_cell BK142.out 0).trans rfl, (blk_cell BK142.out 1).trans rfl, (blk_cell BK142.out 2).trans rfl, (blk_cell BK142.out 3).trans rfl, (blk_cell BK142.out 4).trans rfl, (blk_cell BK143.out 0).trans rfl, (blk_cell BK143.out 1).trans rfl, (blk_cell BK143.out 2).trans rfl, (blk_cell BK143.out 3).trans rfl, (blk_cell BK143.out 4).trans rfl⟩ (fun hHeld => ?_)
        clear hK K
        refine zn ?_
        exact norm_ (by simp only [putAll, Act.put, List.setIfInBounds_toArray, List.set_cons_zero, List.set_cons_succ]) (hCont (gb161) _ ⟨hHeld, (zb BK142), (zb BK143), (zb BK161), GW161.out, GE161.out, NB142_161.out, NB161_142.out, NB143_161.out, NB161_143.out, zB⟩)
      ·skip
       refine box_step ?hg (N := 6) ?hd (cs := #[.int .i64 0, .int .i64 0, .int .i64 0, .int .i64 0, .string (⟨#[]⟩ : ByteArray)]) (t := 25) ?hr ?_; (case hd => rfl); (case hg => rfl); (case hr => first | (go_simp; done) | (go_simp; rfl))
       intro gb161 hg w36 hbox hb
       have BK161 := zm (hbox)
       have GW161 := zge w hg zB
       have GE161 := zge w hg zB
       replace HB := zm (below_step zB hb)
       have NB142_161 := zlt hg (zb BK142)
       have NB161_142 := zgt hg (zb BK142)
       replace BK142 := zm (blk_below (zb BK142) hb)
       have NB143_161 := zlt hg (zb BK143)
       have NB161_143 := zgt hg (zb BK143)
       replace BK143 := zm (blk_below (zb BK143) hb)
       clear hb hbox hg
       refine hK.out _ _ ⟨(blk_cell BK142.out 0).trans rfl, (blk_cell BK142.out 1).trans rfl, (blk_cell BK142.out 2).trans rfl, (blk_cell BK142.out 3).trans rfl, (blk_cell BK142.out 4).trans rfl, (blk_cell BK143.out 0).trans rfl, (blk_cell BK143.out 1).trans rfl, (blk_cell BK143.out 2).trans rfl, (blk_cell BK143.out 3).trans rfl, (blk_cell BK143.out 4).trans rfl⟩ (fun hHeld => ?_)
       clear hK K
       refine zn (N := some 6) ?_
       refine zo 3 (some 21) (zl 7 47) (fun K hK => ?_)
       refine zgo #[.agg #[.int .i64 a1_0, .int .i64 a1_1, .int .i64 a1_2, .int .i64 a1_3, .string a1_4]] Try.func17 ?_
       with_reducible refine (laws_toEntry.calls a1_0 a1_1 a1_2 a1_3 a1_4 t151 t152 t153 t154 t155 _ A20.out).mono ?_
       rintro e w37 ⟨rfl, hb⟩
       refine ⟨_, rfl, ?_⟩
       replace BK142 := zm (blk_below (zb BK142) hb)
       replace BK143 := zm (blk_below (zb BK143) hb)
       replace BK161 := zm (blk_below (zb BK161) hb)
       replace HB := zm (below_step zB hb)
       (try clear hb)
       (try clear hb2)
       (try clear hk)
       (try clear hi)
       refine hK.out _ _ ⟨(blk_cell BK142.out 0).trans rfl, (blk_cell BK142.out 1).trans rfl, (blk_cell BK142.out 2).trans rfl, (blk_cell BK142.out 3).trans rfl, (blk_cell BK142.out 4).trans rfl, (blk_cell BK143.out 0).trans rfl, (blk_cell BK143.out 1).trans rfl, (blk_cell BK143.out 2).trans rfl, (blk_cell BK143.out 3).trans rfl, (blk_cell BK143.out 4).trans rfl⟩ (fun hHeld => ?_)
       clear hK K
       refine zn ?_
       refine zo 4 (some 22) (zl 7 63) (fun K hK => ?_)
       refine zgo #[.agg #[.int .i64 t146, .int .i64 t147, .int .i64 t148, .int .i64 t149, .string t150], .agg #[.int .i64 t151, .int .i64 t152, .int .i64 t153, .int .i64 t154, .string t155]] Try.func16 ?_
       with_reducible refine (spec_EntryMax.calls k t146 t147 t148 t149 t150 t151 t152 t153 t154 t155 t156 t157 t158 t159 t160 _ A21.out).mono ?_
       rintro e w38 ⟨rfl, hb⟩
       refine ⟨_, rfl, ?_⟩
       replace BK142 := zm (blk_below (zb BK142) hb)
       replace BK143 := zm (blk_below (zb BK143) hb)
       replace BK161 := zm (blk_below (zb BK161) hb)
       replace HB := zm (below_step zB hb)
       (try clear hb)
       (try clear hb2)
       (try clear hk)
       (try clear hi)
       refine hK.out _ _ ⟨(blk_cell BK142.out 0).trans rfl, (blk_cell BK142.out 1).trans rfl, (blk_cell BK142.out 2).trans rfl, (blk_cell BK142.out 3).trans rfl, (blk_cell BK142.out 4).trans rfl, (blk_cell BK143.out 0).trans rfl, (blk_cell BK143.out 1).trans rfl, (blk_cell BK143.out 2).trans rfl, (blk_cell BK143.out 3).trans rfl, (blk_cell BK143.out 4).trans rfl⟩ (fun hHeld => ?_)
       clear hK K
       refine zn ?_
       exact norm_ (by simp only [putAll, Act.put, List.setIfInBounds_toArray, List.set_cons_zero, List.set_cons_succ]) (hCont (gb161) _ ⟨hHeld, (zb BK142), (zb BK143), (zb BK161), GW161.out, GE161.out, NB142_161.out, NB161_142.out, NB143_161.out, NB161_143.out, zB⟩)
     ·skip
      refine box_step ?hg (N := 6) ?hd (cs := #[.int .i64 0, .int .i64 0, .int .i64 0, .int .i64 0, .string (⟨#[]⟩ : ByteArray)]) (t := 25) ?hr ?_; (case hd => rfl); (case hg => rfl); (case hr => first | (go_simp; done) | (go_simp; rfl))
      intro gb161 hg w35 hbox hb
      have BK161 := zm (hbox)
      have GW161 := zge w hg zB
      have GE161 := zge w hg zB
      replace HB := zm (below_step zB hb)
      have NB142_161 := zlt hg (zb BK142)
      have NB161_142 := zgt hg (zb BK142)
      replace BK142 := zm (blk_below (zb BK142) hb)
      have NB143_161 := zlt hg (zb BK143)
      have NB161_143 := zgt hg (zb BK143)
      replace BK143 := zm (blk_below (zb BK143) hb)
      clear hb hbox hg
      refine hK.out _ _ ⟨(blk_cell BK142.out 0).trans rfl, (blk_cell BK142.out 1).trans rfl, (blk_cell BK142.out 2).trans rfl, (blk_cell BK142.out 3).trans rfl, (blk_cell BK142.out 4).trans rfl, (blk_cell BK143.out 0).trans rfl, (blk_cell BK143.out 1).trans rfl, (blk_cell BK143.out 2).trans rfl, (blk_cell BK143.out 3).trans rfl, (blk_cell BK143.out 4).trans rfl⟩ (fun hHeld => ?_)
      clear hK K
      refine zn (N := some 6) ?_
      refine zo 1 (some 19) (zl 7 39) (fun K hK => ?_)
      refine zgo #[.agg #[.int .i64 a0_0, .int .i64 a0_1, .int .i64 a0_2, .int .i64 a0_3, .string a0_4]] Try.func17 ?_
      with_reducible refine (laws_toEntry.calls a0_0 a0_1 a0_2 a0_3 a0_4 t146 t147 t148 t149 t150 _ A19.out).mono ?_
      rintro e w36 ⟨rfl, hb⟩
      refine ⟨_, rfl, ?_⟩
      replace BK142 := zm (blk_below (zb BK142) hb)
      replace BK143 := zm (blk_below (zb BK143) hb)
      replace BK161 := zm (blk_below (zb BK161) hb)
      replace HB := zm (below_step zB hb)
      (try clear hb)
      (try clear hb2)
      (try clear hk)
      (try clear hi)
      refine hK.out _ _ ⟨(blk_cell BK142.out 0).trans rfl, (blk_cell BK142.out 1).trans rfl, (blk_cell BK142.out 2).trans rfl, (blk_cell BK142.out 3).trans rfl, (blk_cell BK142.out 4).trans rfl, (blk_cell BK143.out 0).trans rfl, (blk_cell BK143.out 1).trans rfl, (blk_cell BK143.out 2).trans rfl, (blk_cell BK143.out 3).trans rfl, (blk_cell BK143.out 4).trans rfl⟩ (fun hHeld => ?_)
      clear hK K
      refine zn ?_
      refine zo 3 (some 21) (zl 7 47) (fun K hK => ?_)
      refine zgo #[.agg #[.int .i64 a1_0, .int .i64 a1_1, .int .i64 a1_2, .int .i64 a1_3, .string a1_4]] Try.func17 ?_
      with_reducible refine (laws_toEntry.calls a1_0 a1_1 a1_2 a1_3 a1_4 t151 t152 t153 t154 t155 _ A20.out).mono ?_
      rintro e w37 ⟨rfl, hb⟩
      refine ⟨_, rfl, ?_⟩
      replace BK142 := zm (blk_below (zb BK142) hb)
      replace BK143 := zm (blk_below (zb BK143) hb)
      replace BK161 := zm (blk_below (zb BK161) hb)
      replace HB := zm (below_step zB hb)
      (try clear hb)
      (try clear hb2)
      (try clear hk)
      (try clear hi)
      refine hK.out _ _ ⟨(blk_cell BK142.out 0).trans rfl, (blk_cell BK142.out 1).trans rfl, (blk_cell BK142.out 2).trans rfl, (blk_cell BK142.out 3).trans rfl, (blk_cell BK142.out 4).trans rfl, (blk_cell BK143.out 0).trans rfl, (blk_cell BK143.out 1).trans rfl, (blk_cell BK143.out 2).trans rfl, (blk_cell BK143.out 3).trans rfl, (blk_cell BK143.out 4).trans rfl⟩ (fun hHeld => ?_)
      clear hK K
      refine zn ?_
      refine zo 4 (some 22) (zl 7 63) (fun K hK => ?_)
      refine zgo #[.agg #[.int .i64 t146, .int .i64 t147, .int .i64 t148, .int .i64 t149, .string t150], .agg #[.int .i64 t151, .int .i64 t152, .int .i64 t153, .int .i64 t154, .string t155]] Try.func16 ?_
      with_reducible refine (spec_EntryMax.calls k t146 t147 t148 t149 t150 t151 t152 t153 t154 t155 t156 t157 t158 t159 t160 _ A21.out).mono ?_
      rintro e w38 ⟨rfl, hb⟩
      refine ⟨_, rfl, ?_⟩
      replace BK142 := zm (blk_below (zb BK142) hb)
      replace BK143 := zm (blk_below (zb BK143) hb)
      replace BK161 := zm (blk_below (zb BK161) hb)
      replace HB := zm (below_step zB hb)
      (try clear hb)
      (try clear hb2)
      (try clear hk)
      (try clear hi)
      refine hK.out _ _ ⟨(blk_cell BK142.out 0).trans rfl, (blk_cell BK142.out 1).trans rfl, (blk_cell BK142.out 2).trans rfl, (blk_cell BK142.out 3).trans rfl, (blk_cell BK142.out 4).trans rfl, (blk_cell BK143.out 0).trans rfl, (blk_cell BK143.out 1).trans rfl, (blk_cell BK143.out 2).trans rfl, (blk_cell BK143.out 3).trans rfl, (blk_cell BK143.out 4).trans rfl⟩ (fun hHeld => ?_)
      clear hK K
      refine zn ?_
      exact norm_ (by simp only [putAll, Act.put, List.setIfInBounds_toArray, List.set_cons_zero, List.set_cons_succ]) (hCont (gb161) _ ⟨hHeld, (zb BK142), (zb BK143), (zb BK161), GW161.out, GE161.out, NB142_161.out, NB161_142.out, NB143_161.out, NB161_143.out, zB⟩)
    rintro gb161 w39 ⟨hS_, h0_, h1_, h2_, h3_, h4_, h5_, h6_, h7_, h8_, h9_⟩
    have n0_ : Aside0 (w39.heap[gb142]? = some (.cells #[.int .i64 a0_0, .int .i64 a0_1, .int .i64 a0_2, .int .i64 a0_3, .string a0_4] 23 (0, 0))) := ⟨h0_⟩
    have n1_ : Aside0 (w39.heap[gb143]? = some (.cells #[.int .i64 a1_0, .int .i64 a1_1, .int .i64 a1_2, .int .i64 a1_3, .string a1_4] 23 (0, 0))) := ⟨h1_⟩
    have n2_ : Aside0 (w39.heap[gb161]? = some (.cells #[.int .i64 0, .int .i64 0, .int .i64 0, .int .i64 0, .string (⟨#[]⟩ : ByteArray)] 25 (0, 0))) := ⟨h2_⟩
    have n3_ : Aside0 (w.heap.size ≤ gb161) := ⟨h3_⟩
    have n4_ : Aside0 (w.heap.size ≤ gb161) := ⟨h4_⟩
    have n5_ : Aside0 (gb142 ≠ gb161) := ⟨h5_⟩
    have n6_ : Aside0 (gb161 ≠ gb142) := ⟨h6_⟩
    have n7_ : Aside0 (gb143 ≠ gb161) := ⟨h7_⟩
    have n8_ : Aside0 (gb161 ≠ gb143) := ⟨h8_⟩
    have n9_ : Aside0 (Below w.heap.size w w39) := ⟨h9_⟩
    clear BK142
    clear BK143
    clear HB
    clear h0_ h1_ h2_ h3_ h4_ h5_ h6_ h7_ h8_ h9_
    have BK142 := n0_
    have BK143 := n1_
    have BK161 := n2_
    have GW161 := n3_
    have GE161 := n4_
    have NB142_161 := n5_
    have NB161_142 := n6_
    have NB143_161 := n7_
    have NB161_143 := n8_
    have HB := n9_
    clear n0_ n1_ n2_ n3_ n4_ n5_ n6_ n7_ n8_ n9_
    have hHeld : w39.cell? ⟨gb142, 0, none⟩ = some (.int .i64 a0_0) ∧ w39.cell? ⟨gb142, 1, none⟩ = some (.int .i64 a0_1) ∧ w39.cell? ⟨gb142, 2, none⟩ = some (.int .i64 a0_2) ∧ w39.cell? ⟨gb142, 3, none⟩ = some (.int .i64 a0_3) ∧ w39.cell? ⟨gb142, 4, none⟩ = some (.string a0_4) ∧ w39.cell? ⟨gb143, 0, none⟩ = some (.int .i64 a1_0) ∧ w39.cell? ⟨gb143, 1, none⟩ = some (.int .i64 a1_1) ∧ w39.cell? ⟨gb143, 2, none⟩ = some (.int .i64 a1_2) ∧ w39.cell? ⟨gb143, 3, none⟩ = some (.int .i64 a1_3) ∧ w39.cell? ⟨gb143, 4, none⟩ = some (.string a1_4) := hS_
    refine norm_ (a' := ?_) ?_ ?_
    rotate_left
    ·simp only [putAll, Act.put, List.setIfInBounds_toArray, List.set_cons_zero, List.set_cons_succ]
     rfl
    refine zo 6 none (zl 7 127) (fun K hK => ?_)
    have hs40 : w39.cell? ⟨gb161, 0, none⟩ = some (.int .i64 0) := (blk_cell BK161.out 0).trans rfl
    have hfs40 := blk_frozen BK161.out 0
    have hns40_0 := NB142_161.out
    have hns40_1 := NB143_161.out
    have hms40_0 := NB161_142.out
    have hms40_1 := NB161_143.out
    have hs41 : w39.cell? ⟨gb161, 1, none⟩ = some (.int .i64 0) := (blk_cell BK161.out 1).trans rfl
    have hfs41 := blk_frozen BK161.out 1
    have hns41_0 := NB142_161.out
    have hns41_1 := NB143_161.out
    have hms41_0 := NB161_142.out
    have hms41_1 := NB161_143.out
    have hs42 : w39.cell? ⟨gb161, 2, none⟩ = some (.int .i64 0) := (blk_cell BK161.out 2).trans rfl
    have hfs42 := blk_frozen BK161.out 2
    have hns42_0 := NB142_161.out
    have hns42_1 := NB143_161.out
    have hms42_0 := NB161_142.out
    have hms42_1 := NB161_143.out
    have hs43 : w39.cell? ⟨gb161, 3, none⟩ = some (.int .i64 0) := (blk_cell BK161.out 3).trans rfl
    have hfs43 := blk_frozen BK161.out 3
    have hns43_0 := NB142_161.out
    have hns43_1 := NB143_161.out
    have hms43_0 := NB161_142.out
    have hms43_1 := NB161_143.out
    have hs44 : w39.cell? ⟨gb161, 4, none⟩ = some (.string (⟨#[]⟩ : ByteArray)) := (blk_cell BK161.out 4).trans rfl
    have hfs44 := blk_frozen BK161.out 4
    have hns44_0 := NB142_161.out
    have hns44_1 := NB143_161.out
    have hms44_0 := NB161_142.out
    have hms44_1 := NB161_143.out
    refine skip_ (w1 := ?_) (by rfl) rfl ?_ ?_
    rotate_left
    ·go_simp
     rfl
    refine hK.out _ _ ⟨((cell_far (p := ⟨gb161, _, none⟩) NB142_161.out _).trans (((cell_far (p := ⟨gb161, _, none⟩) NB142_161.out _).trans (((cell_far (p := ⟨gb161, _, none⟩) NB142_161.out _).trans (((cell_far (p := ⟨gb161, _, none⟩) NB142_161.out _).trans (((cell_far (p := ⟨gb161, _, none⟩) NB142_161.out _).trans (hHeld.1)))))))))), ((cell_far (p := ⟨gb161, _, none⟩) NB142_161.out _).trans (((cell_far (p := ⟨gb161, _, none⟩) NB142_161.out _).trans (((cell_far (p := ⟨gb161, _, none⟩) NB142_161.out _).trans (((cell_far (p := ⟨gb161, _, none⟩) NB142_161.out _).trans (((cell_far (p := ⟨gb161, _, none⟩) NB142_161.out _).trans (hHeld.2.1)))))))))), ((cell_far (p := ⟨gb161, _, none⟩) NB142_161.out _).trans (((cell_far (p := ⟨gb161, _, none⟩) NB142_161.out _).trans (((cell_far (p := ⟨gb161, _, none⟩) NB142_161.out _).trans (((cell_far (p := ⟨gb161, _, none⟩) NB142_161.out _).trans (((cell_far (p := ⟨gb161, _, none⟩) NB142_161.out _).trans (hHeld.2.2.1)))))))))), ((cell_far (p := ⟨gb161, _, none⟩) NB142_161.out _).trans (((cell_far (p := ⟨gb161, _, none⟩) NB142_161.out _).trans (((cell_far (p := ⟨gb161, _, none⟩) NB142_161.out _).trans (((cell_far (p := ⟨gb161, _, none⟩) NB142_161.out _).trans (((cell_far (p := ⟨gb161, _, none⟩) NB142_161.out _).trans (hHeld.2.2.2.1)))))))))), ((cell_far (p := ⟨gb161, _, none⟩) NB142_161.out _).trans (((cell_far (p := ⟨gb161, _, none⟩) NB142_161.out _).trans (((cell_far (p := ⟨gb161, _, none⟩) NB142_161.out _).trans (((cell_far (p := ⟨gb161, _, none⟩) NB142_161.out _).trans (((cell_far (p := ⟨gb161, _, none⟩) NB142_161.out _).trans (hHeld.2.2.2.2.1)))))))))), ((cell_far (p := ⟨gb161, _, none⟩) NB143_161.out _).trans (((cell_far (p := ⟨gb161, _, none⟩) NB143_161.out _).trans (((cell_far (p := ⟨gb161, _, none⟩) NB143_161.out _).trans (((cell_far (p := ⟨gb161, _, none⟩) NB143_161.out _).trans (((cell_far (p := ⟨gb161, _, none⟩) NB143_161.out _).trans (hHeld.2.2.2.2.2.1)))))))))), ((cell_far (p := ⟨gb161, _, none⟩) NB143_161.out _).trans (((cell_far (p := ⟨gb161, _, none⟩) NB143_161.out _).trans (((cell_far (p := ⟨gb161, _, none⟩) NB143_161.out _).trans (((cell_far (p := ⟨gb161, _, none⟩) NB143_161.out _).trans (((cell_far (p := ⟨gb161, _, none⟩) NB143_161.out _).trans (hHeld.2.2.2.2.2.2.1)))))))))), ((cell_far (p := ⟨gb161, _, none⟩) NB143_161.out _).trans (((cell_far (p := ⟨gb161, _, none⟩) NB143_161.out _).trans (((cell_far (p := ⟨gb161, _, none⟩) NB143_161.out _).trans (((cell_far (p := ⟨gb161, _, none⟩) NB143_161.out _).trans (((cell_far (p := ⟨gb161, _, none⟩) NB143_161.out _).trans (hHeld.2.2.2.2.2.2.2.1)))))))))), ((cell_far (p := ⟨gb161, _, none⟩) NB143_161.out _).trans (((cell_far (p := ⟨gb161, _, none⟩) NB143_161.out _).trans (((cell_far (p := ⟨gb161, _, none⟩) NB143_161.out _).trans (((cell_far (p := ⟨gb161, _, none⟩) NB143_161.out _).trans (((cell_far (p := ⟨gb161, _, none⟩) NB143_161.out _).trans (hHeld.2.2.2.2.2.2.2.2.1)))))))))), ((cell_far (p := ⟨gb161, _, none⟩) NB143_161.out _).trans (((cell_far (p := ⟨gb161, _, none⟩) NB143_161.out _).trans (((cell_far (p := ⟨gb161, _, none⟩) NB143_161.out _).trans (((cell_far (p := ⟨gb161, _, none⟩) NB143_161.out _).trans (((cell_far (p := ⟨gb161, _, none⟩) NB143_161.out _).trans (hHeld.2.2.2.2.2.2.2.2.2))))))))))⟩ (fun hHeld => ?_)
    clear hK K
    refine done_ (by kernel_rfl) ?_
    try go_wp2
    obtain ⟨w45, hW_⟩ : ∃ q, q = (((((w39.setCell ⟨gb161, 0, none⟩ (.int .i64 t156)).setCell ⟨gb161, 1, none⟩ (.int .i64 t157)).setCell ⟨gb161, 2, none⟩ (.int .i64 t158)).setCell ⟨gb161, 3, none⟩ (.int .i64 t159)).setCell ⟨gb161, 4, none⟩ (.string t160)) := ⟨_, rfl⟩
    have n0_ : Aside0 (w45.heap[gb142]? = some (.cells #[.int .i64 a0_0, .int .i64 a0_1, .int .i64 a0_2, .int .i64 a0_3, .string a0_4] 23 (0, 0))) := ⟨by rw [hW_]; exact zfar (zfar (zfar (zfar (zfar (zb BK142) NB142_161) NB142_161) NB142_161) NB142_161) NB142_161⟩
    have n1_ : Aside0 (w45.heap[gb143]? = some (.cells #[.int .i64 a1_0, .int .i64 a1_1, .int .i64 a1_2, .int .i64 a1_3, .string a1_4] 23 (0, 0))) := ⟨by rw [hW_]; exact zfar (zfar (zfar (zfar (zfar (zb BK143) NB143_161) NB143_161) NB143_161) NB143_161) NB143_161⟩
    have n2_ : Aside0 (w45.heap[gb161]? = some (.cells #[.int .i64 t156, .int .i64 t157, .int .i64 t158, .int .i64 t159, .string t160] 25 (0, 0))) := ⟨by rw [hW_]; exact zput (zput (zput (zput (zput (zb BK161) 0) 1) 2) 3) 4⟩
    have n3_ : Aside0 (Below w.heap.size w w45) := ⟨by rw [hW_]; exact zB⟩
    rw [← hW_]
    clear hW_
    (try clear BK142)
    (try clear BK143)
    (try clear BK161)
    (try clear HB)
    have BK142 := n0_
    have BK143 := n1_
    have BK161 := n2_
    have HB := n3_
    clear n0_ n1_ n2_ n3_
    replace BK142 := zm (blk_drew BK142.out)
    replace BK143 := zm (blk_drew BK143.out)
    replace BK161 := zm (blk_drew BK161.out)
    replace HB := zm (below_drew1 HB.out)
    refine start_ (n := 7) (S := fun w' => w'.cell? ⟨gb142, 0, none⟩ = some (.int .i64 a0_0) ∧ w'.cell? ⟨gb142, 1, none⟩ = some (.int .i64 a0_1) ∧ w'.cell? ⟨gb142, 2, none⟩ = some (.int .i64 a0_2) ∧ w'.cell? ⟨gb142, 3, none⟩ = some (.int .i64 a0_3) ∧ w'.cell? ⟨gb142, 4, none⟩ = some (.string a0_4) ∧ w'.cell? ⟨gb143, 0, none⟩ = some (.int .i64 a1_0) ∧ w'.cell? ⟨gb143, 1, none⟩ = some (.int .i64 a1_1) ∧ w'.cell? ⟨gb143, 2, none⟩ = some (.int .i64 a1_2) ∧ w'.cell? ⟨gb143, 3, none⟩ = some (.int .i64 a1_3) ∧ w'.cell? ⟨gb143, 4, none⟩ = some (.string a1_4)) (ds := []) (zl 7 0) (by kernel_rfl) rfl rfl ⟨(blk_cell BK142.out 0).trans rfl, (blk_cell BK142.out 1).trans rfl, (blk_cell BK142.out 2).trans rfl, (blk_cell BK142.out 3).trans rfl, (blk_cell BK142.out 4).trans rfl, (blk_cell BK143.out 0).trans rfl, (blk_cell BK143.out 1).trans rfl, (blk_cell BK143.out 2).trans rfl, (blk_cell BK143.out 3).trans rfl, (blk_cell BK143.out 4).trans rfl⟩ (fun hHeld => ?_)
    generalize w45.drew = w46 at BK142 BK143 BK161 HB hHeld ⊢
    refine zt 0 (some 23) (zl 7 1) ?_
    refine zt 2 (some 25) (zl 7 5) ?_
    refine join_ (σ := Nat) 1 #[true, true, true, true, true, true, false] (fun s_ => [(24, .agg #[.int .i64 t162, .int .i64 t163, .int .i64 t164, .int .i64 t165, .string t166]), (26, .agg #[.int .i64 t167, .int .i64 t168, .int .i64 t169, .int .i64 t170, .string t171]), (27, .agg #[.int .i64 t172, .int .i64 t173, .int .i64 t174, .int .i64 t175, .string t176]), (7, .pointer (some ⟨s_, 0, none⟩))]) (fun s_ w' => (w'.cell? ⟨gb142, 0, none⟩ = some (.int .i64 a0_0) ∧ w'.cell? ⟨gb142, 1, none⟩ = some (.int .i64 a0_1) ∧ w'.cell? ⟨gb142, 2, none⟩ = some (.int .i64 a0_2) ∧ w'.cell? ⟨gb142, 3, none⟩ = some (.int .i64 a0_3) ∧ w'.cell? ⟨gb142, 4, none⟩ = some (.string a0_4) ∧ w'.cell? ⟨gb143, 0, none⟩ = some (.int .i64 a1_0) ∧ w'.cell? ⟨gb143, 1, none⟩ = some (.int .i64 a1_1) ∧ w'.cell? ⟨gb143, 2, none⟩ = some (.int .i64 a1_2) ∧ w'.cell? ⟨gb143, 3, none⟩ = some (.int .i64 a1_3) ∧ w'.cell? ⟨gb143, 4, none⟩ = some (.string a1_4)) ∧ (w'.heap[gb142]? = some (.cells #[.int .i64 a0_0, .int .i64 a0_1, .int .i64 a0_2, .int .i64 a0_3, .string a0_4] 23 (0, 0))) ∧ (w'.heap[gb143]? = some (.cells #[.int .i64 a1_0, .int .i64 a1_1, .int .i64 a1_2, .int .i64 a1_3, .string a1_4] 23 (0, 0))) ∧ (w'.heap[gb161]? = some (.cells #[.int .i64 t156, .int .i64 t157, .int .i64 t158, .int .i64 t159, .string t160] 25 (0, 0))) ∧ (w'.heap[s_]? = some (.cells #[.int .i64 0, .int .i64 0, .int .i64 0, .int .i64 0, .string (⟨#[]⟩ : ByteArray)] 25 (0, 0))) ∧ (w.heap.size ≤ s_) ∧ (w.heap.size ≤ s_) ∧ (gb142 ≠ s_) ∧ (s_ ≠ gb142) ∧ (gb143 ≠ s_) ∧ (s_ ≠ gb143) ∧ (gb161 ≠ s_) ∧ (s_ ≠ gb161) ∧ (Below w.heap.size w w')) ?_ ?_
    rotate_left
    ·intro hCont
     refine two_ (i := 1) (j := 5) (Ni := some 24) (Nj := some 7) #[true, true, true, false, false, false, false] #[true, false, true, false, false, true, false] rfl rfl rfl rfl (by kernel_rfl) (by decide) (by decide) (fun K hK => ?_) (fun K hK => ?_)
     ·skip
      refine zgo (N := some 24) #[.agg #[.int .i64 a0_0, .int .i64 a0_1, .int .i64 a0_2, .int .i64 a0_3, .string a0_4]] Try.func17 ?_
      with_reducible refine (laws_toEntry.calls a0_0 a0_1 a0_2 a0_3 a0_4 t162 t163 t164 t165 t166 _ A22.out).mono ?_
      rintro e w47 ⟨rfl, hb⟩
      refine ⟨_, rfl, ?_⟩
      replace BK142 := zm (blk_below (zb BK142) hb)
      replace BK143 := zm (blk_below (zb BK143) hb)
      replace BK161 := zm (blk_below (zb BK161) hb)
      replace HB := zm (below_step zB hb)
      (try clear hb)
      (try clear hb2)
      (try clear hk)
      (try clear hi)
      refine hK.out _ _ ⟨(blk_cell BK142.out 0).trans rfl, (blk_cell BK142.out 1).trans rfl, (blk_cell BK142.out 2).trans rfl, (blk_cell BK142.out 3).trans rfl, (blk_cell BK142.out 4).trans rfl, (blk_cell BK143.out 0).trans rfl, (blk_cell BK143.out 1).trans rfl, (blk_cell BK143.out 2).trans rfl, (blk_cell BK143.out 3).trans rfl, (blk_cell BK143.out 4).trans rfl⟩ (fun hHeld => ?_)
      clear hK K
      refine zn ?_
      refine two_ (i := 3) (j := 5) (Ni := some 26) (Nj := some 7) #[true, true, true, true, false, false, false] #[true, true, true, false, false, true, false] rfl rfl rfl rfl (by kernel_rfl) (by decide) (by decide) (fun K hK => ?_) (fun K hK => ?_)
      ·skip
       refine zgo (N := some 26) #[.agg #[.int .i64 a1_0, .int .i64 a1_1, .int .i64 a1_2, .int .i64 a1_3, .string a1_4]] Try.func17 ?_
       with_reducible refine (laws_toEntry.calls a1_0 a1_1 a1_2 a1_3 a1_4 t167 t168 t169 t170 t171 _ A23.out).mono ?_
       rintro e w48 ⟨rfl, hb⟩
       refine ⟨_, rfl, ?_⟩
       replace BK142 := zm (blk_below (zb BK142) hb)
       replace BK143 := zm (blk_below (zb BK143) hb)
       replace BK161 := zm (blk_below (zb BK161) hb)
       replace HB := zm (below_step zB hb)
       (try clear hb)
       (try clear hb2)
       (try clear hk)
       (try clear hi)
       refine hK.out _ _ ⟨(blk_cell BK142.out 0).trans rfl, (blk_cell BK142.out 1).trans rfl, (blk_cell BK142.out 2).trans rfl, (blk_cell BK142.out 3).trans rfl, (blk_cell BK142.out 4).trans rfl, (blk_cell BK143.out 0).trans rfl, (blk_cell BK143.out 1).trans rfl, (blk_cell BK143.out 2).trans rfl, (blk_cell BK143.out 3).trans rfl, (blk_cell BK143.out 4).trans rfl⟩ (fun hHeld => ?_)
       clear hK K
       refine zn ?_
       refine two_ (i := 4) (j := 5) (Ni := some 27) (Nj := some 7) #[true, true, true, true, true, false, false] #[true, true, true, true, false, true, false] rfl rfl rfl rfl (by kernel_rfl) (by decide) (by decide) (fun K hK => ?_) (fun K hK => ?_)
       ·skip
        refine zgo (N := some 27) #[.agg #[.int .i64 t162, .int .i64 t163, .int .i64 t164, .int .i64 t165, .string t166], .agg #[.int .i64 t167, .int .i64 t168, .int .i64 t169, .int .i64 t170, .string t171]] Try.func18 ?_
        with_reducible refine (impl_EntryMax.calls k t162 t163 t164 t165 t166 t167 t168 t169 t170 t171 t172 t173 t174 t175 t176 _ A24.out).mono ?_
        rintro e w49 ⟨rfl, hb⟩
        refine ⟨_, rfl, ?_⟩
        replace BK142 := zm (blk_below (zb BK142) hb)
        replace BK143 := zm (blk_below (zb BK143) hb)
        replace BK161 := zm (blk_below (zb BK161) hb)
        replace HB := zm (below_step zB hb)
        (try clear hb)
        (try clear hb2)
        (try clear hk)
        (try clear hi)
        refine hK.out _ _ ⟨(blk_cell BK142.out 0).trans rfl, (blk_cell BK142.out 1).trans rfl, (blk_cell BK142.out 2).trans rfl, (blk_cell BK142.out 3).trans rfl, (blk_cell BK142.out 4).trans rfl, (blk_cell BK143.out 0).trans rfl, (blk_cell BK143.out 1).trans rfl, (blk_cell BK143.out 2).trans rfl, (blk_cell BK143.out 3).trans rfl, (blk_cell BK143.out 4).trans rfl⟩ (fun hHeld => ?_)
        clear hK K
        refine zn ?_
        refine zo 5 (some 7) (zl 7 63) (fun K hK => ?_)
        refine box_step ?hg (N := 7) ?hd (cs := #[.int .i64 0, .int .i64 0, .int .i64 0, .int .i64 0, .string (⟨#[]⟩ : ByteArray)]) (t := 25) ?hr ?_; (case hd => rfl); (case hg => rfl); (case hr => first | (go_simp; done) | (go_simp; rfl))
        intro gb177 hg w50 hbox hb
        have BK177 := zm (hbox)
        have GW177 := zge w hg zB
        have GE177 := zge w hg zB
        replace HB := zm (below_step zB hb)
        have NB142_177 := zlt hg (zb BK142)
        have NB177_142 := zgt hg (zb BK142)
        replace BK142 := zm (blk_below (zb BK142) hb)
        have NB143_177 := zlt hg (zb BK143)
        have NB177_143 := zgt hg (zb BK143)
        replace BK143 := zm (blk_below (zb BK143) hb)
        have NB161_177 := zlt hg (zb BK161)
        have NB177_161 := zgt hg (zb BK161)
        replace BK161 := zm (blk_below (zb BK161) hb)
        clear hb hbox hg
        refine hK.out _ _ ⟨(blk_cell BK142.out 0).trans rfl, (blk_cell BK142.out 1).trans rfl, (blk_cell BK142.out 2).trans rfl, (blk_cell BK142.out 3).trans rfl, (blk_cell BK142.out 4).trans rfl, (blk_cell BK143.out 0).trans rfl, (blk_cell BK143.out 1).trans rfl, (blk_cell BK143.out 2).trans rfl, (blk_cell BK143.out 3).trans rfl, (blk_cell BK143.out 4).trans rfl⟩ (fun hHeld => ?_)
        clear hK K
        refine zn (N := some 7) ?_
        exact norm_ (by simp only [putAll, Act.put, List.setIfInBounds_toArray, List.set_cons_zero, List.set_cons_succ]) (hCont (gb177) _ ⟨hHeld, (zb BK142), (zb BK143), (zb BK161), (zb BK177), GW177.out, GE177.out, NB142_177.out, NB177_142.out, NB143_177.out, NB177_143.out, NB161_177.out, NB177_161.out, zB⟩)
       ·skip
        refine box_step ?hg (N := 7) ?hd (cs := #[.int .i64 0, .int .i64 0, .int .i64 0, .int .i64 0, .string (⟨#[]⟩ : ByteArray)]) (t := 25) ?hr ?_; (case hd => rfl); (case hg => rfl); (case hr => first | (go_simp; done) | (go_simp; rfl))
        intro gb177 hg w49 hbox hb
        have BK177 := zm (hbox)
        have GW177 := zge w hg zB
        have GE177 := zge w hg zB
        replace HB := zm (below_step zB hb)
        have NB142_177 := zlt hg (zb BK142)
        have NB177_142 := zgt hg (zb BK142)
        replace BK142 := zm (blk_below (zb BK142) hb)
        have NB143_177 := zlt hg (zb BK143)
        have NB177_143 := zgt hg (zb BK143)
        replace BK143 := zm (blk_below (zb BK143) hb)
        have NB161_177 := zlt hg (zb BK161)
        have NB177_161 := zgt hg (zb BK161)
        replace BK161 := zm (blk_below (zb BK161) hb)
        clear hb hbox hg
        refine hK.out _ _ ⟨(blk_cell BK142.out 0).trans rfl, (blk_cell BK142.out 1).trans rfl, (blk_cell BK142.out 2).trans rfl, (blk_cell BK142.out 3).trans rfl, (blk_cell BK142.out 4).trans rfl, (blk_cell BK143.out 0).trans rfl, (blk_cell BK143.out 1).trans rfl, (blk_cell BK143.out 2).trans rfl, (blk_cell BK143.out 3).trans rfl, (blk_cell BK143.out 4).trans rfl⟩ (fun hHeld => ?_)
        clear hK K
        refine zn (N := some 7) ?_
        refine zo 4 (some 27) (zl 7 63) (fun K hK => ?_)
        refine zgo #[.agg #[.int .i64 t162, .int .i64 t163, .int .i64 t164, .int .i64 t165, .string t166], .agg #[.int .i64 t167, .int .i64 t168, .int .i64 t169, .int .i64 t170, .string t171]] Try.func18 ?_
        with_reducible refine (impl_EntryMax.calls k t162 t163 t164 t165 t166 t167 t168 t169 t170 t171 t172 t173 t174 t175 t176 _ A24.out).mono ?_
        rintro e w50 ⟨rfl, hb⟩
        refine ⟨_, rfl, ?_⟩
        replace BK142 := zm (blk_below (zb BK142) hb)
        replace BK143 := zm (blk_below (zb BK143) hb)
        replace BK161 := zm (blk_below (zb BK161) hb)
        replace BK177 := zm (blk_below (zb BK177) hb)
        replace HB := zm (below_step zB hb)
        (try clear hb)
        (try clear hb2)
        (try clear hk)
        (try clear hi)
        refine hK.out _ _ ⟨(blk_cell BK142.out 0).trans rfl, (blk_cell BK142.out 1).trans rfl, (blk_cell BK142.out 2).trans rfl, (blk_cell BK142.out 3).trans rfl, (blk_cell BK142.out 4).trans rfl, (blk_cell BK143.out 0).trans rfl, (blk_cell BK143.out 1).trans rfl, (blk_cell BK143.out 2).trans rfl, (blk_cell BK143.out 3).trans rfl, (blk_cell BK143.out 4).trans rfl⟩ (fun hHeld => ?_)
        clear hK K
        refine zn ?_
        exact norm_ (by simp only [putAll, Act.put, List.setIfInBounds_toArray, List.set_cons_zero, List.set_cons_succ]) (hCont (gb177) _ ⟨hHeld, (zb BK142), (zb BK143), (zb BK161), (zb BK177), GW177.out, GE177.out, NB142_177.out, NB177_142.out, NB143_177.out, NB177_143.out, NB161_177.out, NB177_161.out, zB⟩)
      ·skip
       refine box_step ?hg (N := 7) ?hd (cs := #[.int .i64 0, .int .i64 0, .int .i64 0, .int .i64 0, .string (⟨#[]⟩ : ByteArray)]) (t := 25) ?hr ?_; (case hd => rfl); (case hg => rfl); (case hr => first | (go_simp; done) | (go_simp; rfl))
       intro gb177 hg w48 hbox hb
       have BK177 := zm (hbox)
       have GW177 := zge w hg zB
       have GE177 := zge w hg zB
       replace HB := zm (below_step zB hb)
       have NB142_177 := zlt hg (zb BK142)
       have NB177_142 := zgt hg (zb BK142)
       replace BK142 := zm (blk_below (zb BK142) hb)
       have NB143_177 := zlt hg (zb BK143)
       have NB177_143 := zgt hg (zb BK143)
       replace BK143 := zm (blk_below (zb BK143) hb)
       have NB161_177 := zlt hg (zb BK161)
       have NB177_161 := zgt hg (zb BK161)
       replace BK161 := zm (blk_below (zb BK161) hb)
       clear hb hbox hg
       refine hK.out _ _ ⟨(blk_cell BK142.out 0).trans rfl, (blk_cell BK142.out 1).trans rfl, (blk_cell BK142.out 2).trans rfl, (blk_cell BK142.out 3).trans rfl, (blk_cell BK142.out 4).trans rfl, (blk_cell BK143.out 0).trans rfl, (blk_cell BK143.out 1).trans rfl, (blk_cell BK143.out 2).trans rfl, (blk_cell BK143.out 3).trans rfl, (blk_cell BK143.out 4).trans rfl⟩ (fun hHeld => ?_)
       clear hK K
       refine zn (N := some 7) ?_
       refine zo 3 (some 26) (zl 7 47) (fun K hK => ?_)
       refine zgo #[.agg #[.int .i64 a1_0, .int .i64 a1_1, .int .i64 a1_2, .int .i64 a1_3, .string a1_4]] Try.func17 ?_
       with_reducible refine (laws_toEntry.calls a1_0 a1_1 a1_2 a1_3 a1_4 t167 t168 t169 t170 t171 _ A23.out).mono ?_
       rintro e w49 ⟨rfl, hb⟩
       refine ⟨_, rfl, ?_⟩
       replace BK142 := zm (blk_below (zb BK142) hb)
       replace BK143 := zm (blk_below (zb BK143) hb)
       replace BK161 := zm (blk_below (zb BK161) hb)
       replace BK177 := zm (blk_below (zb BK177) hb)
       replace HB := zm (below_step zB hb)
       (try clear hb)
       (try clear hb2)
       (try clear hk)
       (try clear hi)
       refine hK.out _ _ ⟨(blk_cell BK142.out 0).trans rfl, (blk_cell BK142.out 1).trans rfl, (blk_cell BK142.out 2).trans rfl, (blk_cell BK142.out 3).trans rfl, (blk_cell BK142.out 4).trans rfl, (blk_cell BK143.out 0).trans rfl, (blk_cell BK143.out 1).trans rfl, (blk_cell BK143.out 2).trans rfl, (blk_cell BK143.out 3).trans rfl, (blk_cell BK143.out 4).trans rfl⟩ (fun hHeld => ?_)
       clear hK K
       refine zn ?_
       refine zo 4 (some 27) (zl 7 63) (fun K hK => ?_)
       refine zgo #[.agg #[.int .i64 t162, .int .i64 t163, .int .i64 t164, .int .i64 t165, .string t166], .agg #[.int .i64 t167, .int .i64 t168, .int .i64 t169, .int .i64 t170, .string t171]] Try.func18 ?_
       with_reducible refine (impl_EntryMax.calls k t162 t163 t164 t165 t166 t167 t168 t169 t170 t171 t172 t173 t174 t175 t176 _ A24.out).mono ?_
       rintro e w50 ⟨rfl, hb⟩
       refine ⟨_, rfl, ?_⟩
       replace BK142 := zm (blk_below (zb BK142) hb)
       replace BK143 := zm (blk_below (zb BK143) hb)
       replace BK161 := zm (blk_below (zb BK161) hb)
       replace BK177 := zm (blk_below (zb BK177) hb)
       replace HB := zm (below_step zB hb)
       (try clear hb)
       (try clear hb2)
       (try clear hk)
       (try clear hi)
       refine hK.out _ _ ⟨(blk_cell BK142.out 0).trans rfl, (blk_cell BK142.out 1).trans rfl, (blk_cell BK142.out 2).trans rfl, (blk_cell BK142.out 3).trans rfl, (blk_cell BK142.out 4).trans rfl, (blk_cell BK143.out 0).trans rfl, (blk_cell BK143.out 1).trans rfl, (blk_cell BK143.out 2).trans rfl, (blk_cell BK143.out 3).trans rfl, (blk_cell BK143.out 4).trans rfl⟩ (fun hHeld => ?_)
       clear hK K
       refine zn ?_
       exact norm_ (by simp only [putAll, Act.put, List.setIfInBounds_toArray, List.set_cons_zero, List.set_cons_succ]) (hCont (gb177) _ ⟨hHeld, (zb BK142), (zb BK143), (zb BK161), (zb BK177), GW177.out, GE177.out, NB142_177.out, NB177_142.out, NB143_177.out, NB177_143.out, NB161_177.out, NB177_161.out, zB⟩)
     ·skip
      refine box_step ?hg (N := 7) ?hd (cs := #[.int .i64 0, .int .i64 0, .int .i64 0, .int .i64 0, .string (⟨#[]⟩ : ByteArray)]) (t := 25) ?hr ?_; (case hd => rfl); (case hg => rfl); (case hr => first | (go_simp; done) | (go_simp; rfl))
      intro gb177 hg w47 hbox hb
      have BK177 := zm (hbox)
      have GW177 := zge w hg zB
      have GE177 := zge w hg zB
      replace HB := zm (below_step zB hb)
      have NB142_177 := zlt hg (zb BK142)
      have NB177_142 := zgt hg (zb BK142)
      replace BK142 := zm (blk_below (zb BK142) hb)
      have NB143_177 := zlt hg (zb BK143)
      have NB177_143 := zgt hg (zb BK143)
      replace BK143 := zm (blk_below (zb BK143) hb)
      have NB161_177 := zlt hg (zb BK161)
      have NB177_161 := zgt hg (zb BK161)
      replace BK161 := zm (blk_below (zb BK161) hb)
      clear hb hbox hg
      refine hK.out _ _ ⟨(blk_cell BK142.out 0).trans rfl, (blk_cell BK142.out 1).trans rfl, (blk_cell BK142.out 2).trans rfl, (blk_cell BK142.out 3).trans rfl, (blk_cell BK142.out 4).trans rfl, (blk_cell BK143.out 0).trans rfl, (blk_cell BK143.out 1).trans rfl, (blk_cell BK143.out 2).trans rfl, (blk_cell BK143.out 3).trans rfl, (blk_cell BK143.out 4).trans rfl⟩ (fun hHeld => ?_)
      clear hK K
      refine zn (N := some 7) ?_
      refine zo 1 (some 24) (zl 7 39) (fun K hK => ?_)
      refine zgo #[.agg #[.int .i64 a0_0, .int .i64 a0_1, .int .i64 a0_2, .int .i64 a0_3, .string a0_4]] Try.func17 ?_
      with_reducible refine (laws_toEntry.calls a0_0 a0_1 a0_2 a0_3 a0_4 t162 t163 t164 t165 t166 _ A22.out).mono ?_
      rintro e w48 ⟨rfl, hb⟩
      refine ⟨_, rfl, ?_⟩
      replace BK142 := zm (blk_below (zb BK142) hb)
      replace BK143 := zm (blk_below (zb BK143) hb)
      replace BK161 := zm (blk_below (zb BK161) hb)
      replace BK177 := zm (blk_below (zb BK177) hb)
      replace HB := zm (below_step zB hb)
      (try clear hb)
      (try clear hb2)
      (try clear hk)
      (try clear hi)
      refine hK.out _ _ ⟨(blk_cell BK142.out 0).trans rfl, (blk_cell BK142.out 1).trans rfl, (blk_cell BK142.out 2).trans rfl, (blk_cell BK142.out 3).trans rfl, (blk_cell BK142.out 4).trans rfl, (blk_cell BK143.out 0).trans rfl, (blk_cell BK143.out 1).trans rfl, (blk_cell BK143.out 2).trans rfl, (blk_cell BK143.out 3).trans rfl, (blk_cell BK143.out 4).trans rfl⟩ (fun hHeld => ?_)
      clear hK K
      refine zn ?_
      refine zo 3 (some 26) (zl 7 47) (fun K hK => ?_)
      refine zgo #[.agg #[.int .i64 a1_0, .int .i64 a1_1, .int .i64 a1_2, .int .i64 a1_3, .string a1_4]] Try.func17 ?_
      with_reducible refine (laws_toEntry.calls a1_0 a1_1 a1_2 a1_3 a1_4 t167 t168 t169 t170 t171 _ A23.out).mono ?_
      rintro e w49 ⟨rfl, hb⟩
      refine ⟨_, rfl, ?_⟩
      replace BK142 := zm (blk_below (zb BK142) hb)
      replace BK143 := zm (blk_below (zb BK143) hb)
      replace BK161 := zm (blk_below (zb BK161) hb)
      replace BK177 := zm (blk_below (zb BK177) hb)
      replace HB := zm (below_step zB hb)
      (try clear hb)
      (try clear hb2)
      (try clear hk)
      (try clear hi)
      refine hK.out _ _ ⟨(blk_cell BK142.out 0).trans rfl, (blk_cell BK142.out 1).trans rfl, (blk_cell BK142.out 2).trans rfl, (blk_cell BK142.out 3).trans rfl, (blk_cell BK142.out 4).trans rfl, (blk_cell BK143.out 0).trans rfl, (blk_cell BK143.out 1).trans rfl, (blk_cell BK143.out 2).trans rfl, (blk_cell BK143.out 3).trans rfl, (blk_cell BK143.out 4).trans rfl⟩ (fun hHeld => ?_)
      clear hK K
      refine zn ?_
      refine zo 4 (some 27) (zl 7 63) (fun K hK => ?_)
      refine zgo #[.agg #[.int .i64 t162, .int .i64 t163, .int .i64 t164, .int .i64 t165, .string t166], .agg #[.int .i64 t167, .int .i64 t168, .int .i64 t169, .int .i64 t170, .string t171]] Try.func18 ?_
      with_reducible refine (impl_EntryMax.calls k t162 t163 t164 t165 t166 t167 t168 t169 t170 t171 t172 t173 t174 t175 t176 _ A24.out).mono ?_
      rintro e w50 ⟨rfl, hb⟩
      refine ⟨_, rfl, ?_⟩
      replace BK142 := zm (blk_below (zb BK142) hb)
      replace BK143 := zm (blk_below (zb BK143) hb)
      replace BK161 := zm (blk_below (zb BK161) hb)
      replace BK177 := zm (blk_below (zb BK177) hb)
      replace HB := zm (below_step zB hb)
      (try clear hb)
      (try clear hb2)
      (try clear hk)
      (try clear hi)
      refine hK.out _ _ ⟨(blk_cell BK142.out 0).trans rfl, (blk_cell BK142.out 1).trans rfl, (blk_cell BK142.out 2).trans rfl, (blk_cell BK142.out 3).trans rfl, (blk_cell BK142.out 4).trans rfl, (blk_cell BK143.out 0).trans rfl, (blk_cell BK143.out 1).trans rfl, (blk_cell BK143.out 2).trans rfl, (blk_cell BK143.out 3).trans rfl, (blk_cell BK143.out 4).trans rfl⟩ (fun hHeld => ?_)
      clear hK K
      refine zn ?_
      exact norm_ (by simp only [putAll, Act.put, List.setIfInBounds_toArray, List.set_cons_zero, List.set_cons_succ]) (hCont (gb177) _ ⟨hHeld, (zb BK142), (zb BK143), (zb BK161), (zb BK177), GW177.out, GE177.out, NB142_177.out, NB177_142.out, NB143_177.out, NB177_143.out, NB161_177.out, NB177_161.out, zB⟩)
    rintro gb177 w51 ⟨hS_, h0_, h1_, h2_, h3_, h4_, h5_, h6_, h7_, h8_, h9_, h10_, h11_, h12_⟩
    have n0_ : Aside0 (w51.heap[gb142]? = some (.cells #[.int .i64 a0_0, .int .i64 a0_1, .int .i64 a0_2, .int .i64 a0_3, .string a0_4] 23 (0, 0))) := ⟨h0_⟩
    have n1_ : Aside0 (w51.heap[gb143]? = some (.cells #[.int .i64 a1_0, .int .i64 a1_1, .int .i64 a1_2, .int .i64 a1_3, .string a1_4] 23 (0, 0))) := ⟨h1_⟩
    have n2_ : Aside0 (w51.heap[gb161]? = some (.cells #[.int .i64 t156, .int .i64 t157, .int .i64 t158, .int .i64 t159, .string t160] 25 (0, 0))) := ⟨h2_⟩
    have n3_ : Aside0 (w51.heap[gb177]? = some (.cells #[.int .i64 0, .int .i64 0, .int .i64 0, .int .i64 0, .string (⟨#[]⟩ : ByteArray)] 25 (0, 0))) := ⟨h3_⟩
    have n4_ : Aside0 (w.heap.size ≤ gb177) := ⟨h4_⟩
    have n5_ : Aside0 (w.heap.size ≤ gb177) := ⟨h5_⟩
    have n6_ : Aside0 (gb142 ≠ gb177) := ⟨h6_⟩
    have n7_ : Aside0 (gb177 ≠ gb142) := ⟨h7_⟩
    have n8_ : Aside0 (gb143 ≠ gb177) := ⟨h8_⟩
    have n9_ : Aside0 (gb177 ≠ gb143) := ⟨h9_⟩
    have n10_ : Aside0 (gb161 ≠ gb177) := ⟨h10_⟩
    have n11_ : Aside0 (gb177 ≠ gb161) := ⟨h11_⟩
    have n12_ : Aside0 (Below w.heap.size w w51) := ⟨h12_⟩
    clear BK142
    clear BK143
    clear BK161
    clear HB
    clear h0_ h1_ h2_ h3_ h4_ h5_ h6_ h7_ h8_ h9_ h10_ h11_ h12_
    have BK142 := n0_
    have BK143 := n1_
    have BK161 := n2_
    have BK177 := n3_
    have GW177 := n4_
    have GE177 := n5_
    have NB142_177 := n6_
    have NB177_142 := n7_
    have NB143_177 := n8_
    have NB177_143 := n9_
    have NB161_177 := n10_
    have NB177_161 := n11_
    have HB := n12_
    clear n0_ n1_ n2_ n3_ n4_ n5_ n6_ n7_ n8_ n9_ n10_ n11_ n12_
    have hHeld : w51.cell? ⟨gb142, 0, none⟩ = some (.int .i64 a0_0) ∧ w51.cell? ⟨gb142, 1, none⟩ = some (.int .i64 a0_1) ∧ w51.cell? ⟨gb142, 2, none⟩ = some (.int .i64 a0_2) ∧ w51.cell? ⟨gb142, 3, none⟩ = some (.int .i64 a0_3) ∧ w51.cell? ⟨gb142, 4, none⟩ = some (.string a0_4) ∧ w51.cell? ⟨gb143, 0, none⟩ = some (.int .i64 a1_0) ∧ w51.cell? ⟨gb143, 1, none⟩ = some (.int .i64 a1_1) ∧ w51.cell? ⟨gb143, 2, none⟩ = some (.int .i64 a1_2) ∧ w51.cell? ⟨gb143, 3, none⟩ = some (.int .i64 a1_3) ∧ w51.cell? ⟨gb143, 4, none⟩ = some (.string a1_4) := hS_
    refine norm_ (a' := ?_) ?_ ?_
    rotate_left
    ·simp only [putAll, Act.put, List.setIfInBounds_toArray, List.set_cons_zero, List.set_cons_succ]
     rfl
    refine zo 6 none (zl 7 127) (fun K hK => ?_)
    have hs52 : w51.cell? ⟨gb177, 0, none⟩ = some (.int .i64 0) := (blk_cell BK177.out 0).trans rfl
    have hfs52 := blk_frozen BK177.out 0
    have hns52_0 := NB142_177.out
    have hns52_1 := NB143_177.out
    have hns52_2 := NB161_177.out
    have hms52_0 := NB177_142.out
    have hms52_1 := NB177_143.out
    have hms52_2 := NB177_161.out
    have hs53 : w51.cell? ⟨gb177, 1, none⟩ = some (.int .i64 0) := (blk_cell BK177.out 1).trans rfl
    have hfs53 := blk_frozen BK177.out 1
    have hns53_0 := NB142_177.out
    have hns53_1 := NB143_177.out
    have hns53_2 := NB161_177.out
    have hms53_0 := NB177_142.out
    have hms53_1 := NB177_143.out
    have hms53_2 := NB177_161.out
    have hs54 : w51.cell? ⟨gb177, 2, none⟩ = some (.int .i64 0) := (blk_cell BK177.out 2).trans rfl
    have hfs54 := blk_frozen BK177.out 2
    have hns54_0 := NB142_177.out
    have hns54_1 := NB143_177.out
    have hns54_2 := NB161_177.out
    have hms54_0 := NB177_142.out
    have hms54_1 := NB177_143.out
    have hms54_2 := NB177_161.out
    have hs55 : w51.cell? ⟨gb177, 3, none⟩ = some (.int .i64 0) := (blk_cell BK177.out 3).trans rfl
    have hfs55 := blk_frozen BK177.out 3
    have hns55_0 := NB142_177.out
    have hns55_1 := NB143_177.out
    have hns55_2 := NB161_177.out
    have hms55_0 := NB177_142.out
    have hms55_1 := NB177_143.out
    have hms55_2 := NB177_161.out
    have hs56 : w51.cell? ⟨gb177, 4, none⟩ = some (.string (⟨#[]⟩ : ByteArray)) := (blk_cell BK177.out 4).trans rfl
    have hfs56 := blk_frozen BK177.out 4
    have hns56_0 := NB142_177.out
    have hns56_1 := NB143_177.out
    have hns56_2 := NB161_177.out
    have hms56_0 := NB177_142.out
    have hms56_1 := NB177_143.out
    have hms56_2 := NB177_161.out
    refine skip_ (w1 := ?_) (by rfl) rfl ?_ ?_
    rotate_left
    ·go_simp
     rfl
    refine hK.out _ _ ⟨((cell_far (p := ⟨gb177, _, none⟩) NB142_177.out _).trans (((cell_far (p := ⟨gb177, _, none⟩) NB142_177.out _).trans (((cell_far (p := ⟨gb177, _, none⟩) NB142_177.out _).trans (((cell_far (p := ⟨gb177, _, none⟩) NB142_177.out _).trans (((cell_far (p := ⟨gb177, _, none⟩) NB142_177.out _).trans (hHeld.1)))))))))), ((cell_far (p := ⟨gb177, _, none⟩) NB142_177.out _).trans (((cell_far (p := ⟨gb177, _, none⟩) NB142_177.out _).trans (((cell_far (p := ⟨gb177, _, none⟩) NB142_177.out _).trans (((cell_far (p := ⟨gb177, _, none⟩) NB142_177.out _).trans (((cell_far (p := ⟨gb177, _, none⟩) NB142_177.out _).trans (hHeld.2.1)))))))))), ((cell_far (p := ⟨gb177, _, none⟩) NB142_177.out _).trans (((cell_far (p := ⟨gb177, _, none⟩) NB142_177.out _).trans (((cell_far (p := ⟨gb177, _, none⟩) NB142_177.out _).trans (((cell_far (p := ⟨gb177, _, none⟩) NB142_177.out _).trans (((cell_far (p := ⟨gb177, _, none⟩) NB142_177.out _).trans (hHeld.2.2.1)))))))))), ((cell_far (p := ⟨gb177, _, none⟩) NB142_177.out _).trans (((cell_far (p := ⟨gb177, _, none⟩) NB142_177.out _).trans (((cell_far (p := ⟨gb177, _, none⟩) NB142_177.out _).trans (((cell_far (p := ⟨gb177, _, none⟩) NB142_177.out _).trans (((cell_far (p := ⟨gb177, _, none⟩) NB142_177.out _).trans (hHeld.2.2.2.1)))))))))), ((cell_far (p := ⟨gb177, _, none⟩) NB142_177.out _).trans (((cell_far (p := ⟨gb177, _, none⟩) NB142_177.out _).trans (((cell_far (p := ⟨gb177, _, none⟩) NB142_177.out _).trans (((cell_far (p := ⟨gb177, _, none⟩) NB142_177.out _).trans (((cell_far (p := ⟨gb177, _, none⟩) NB142_177.out _).trans (hHeld.2.2.2.2.1)))))))))), ((cell_far (p := ⟨gb177, _, none⟩) NB143_177.out _).trans (((cell_far (p := ⟨gb177, _, none⟩) NB143_177.out _).trans (((cell_far (p := ⟨gb177, _, none⟩) NB143_177.out _).trans (((cell_far (p := ⟨gb177, _, none⟩) NB143_177.out _).trans (((cell_far (p := ⟨gb177, _, none⟩) NB143_177.out _).trans (hHeld.2.2.2.2.2.1)))))))))), ((cell_far (p := ⟨gb177, _, none⟩) NB143_177.out _).trans (((cell_far (p := ⟨gb177, _, none⟩) NB143_177.out _).trans (((cell_far (p := ⟨gb177, _, none⟩) NB143_177.out _).trans (((cell_far (p := ⟨gb177, _, none⟩) NB143_177.out _).trans (((cell_far (p := ⟨gb177, _, none⟩) NB143_177.out _).trans (hHeld.2.2.2.2.2.2.1)))))))))), ((cell_far (p := ⟨gb177, _, none⟩) NB143_177.out _).trans (((cell_far (p := ⟨gb177, _, none⟩) NB143_177.out _).trans (((cell_far (p := ⟨gb177, _, none⟩) NB143_177.out _).trans (((cell_far (p := ⟨gb177, _, none⟩) NB143_177.out _).trans (((cell_far (p := ⟨gb177, _, none⟩) NB143_177.out _).trans (hHeld.2.2.2.2.2.2.2.1)))))))))), ((cell_far (p := ⟨gb177, _, none⟩) NB143_177.out _).trans (((cell_far (p := ⟨gb177, _, none⟩) NB143_177.out _).trans (((cell_far (p := ⟨gb177, _, none⟩) NB143_177.out _).trans (((cell_far (p := ⟨gb177, _, none⟩) NB143_177.out _).trans (((cell_far (p := ⟨gb177, _, none⟩) NB143_177.out _).trans (hHeld.2.2.2.2.2.2.2.2.1)))))))))), ((cell_far (p := ⟨gb177, _, none⟩) NB143_177.out _).trans (((cell_far (p := ⟨gb177, _, none⟩) NB143_177.out _).trans (((cell_far (p := ⟨gb177, _, none⟩) NB143_177.out _).trans (((cell_far (p := ⟨gb177, _, none⟩) NB143_177.out _).trans (((cell_far (p := ⟨gb177, _, none⟩) NB143_177.out _).trans (hHeld.2.2.2.2.2.2.2.2.2))))))))))⟩ (fun hHeld => ?_)
    clear hK K
    refine done_ (by kernel_rfl) ?_
    have hnb57 := NB177_142.out
    have hnc57 := NB142_177.out
    have hnb58 := NB177_143.out
    have hnc58 := NB143_177.out
    have hnb59 := NB177_161.out
    have hnc59 := NB161_177.out
    have hcz60_0 : w51.cell? ⟨gb177, 0, none⟩ = some (.int .i64 0) := (blk_cell BK177.out 0).trans rfl
    have hcz60_1 : w51.cell? ⟨gb177, 1, none⟩ = some (.int .i64 0) := (blk_cell BK177.out 1).trans rfl
    have hcz60_2 : w51.cell? ⟨gb177, 2, none⟩ = some (.int .i64 0) := (blk_cell BK177.out 2).trans rfl
    have hcz60_3 : w51.cell? ⟨gb177, 3, none⟩ = some (.int .i64 0) := (blk_cell BK177.out 3).trans rfl
    have hcz60_4 : w51.cell? ⟨gb177, 4, none⟩ = some (.string (⟨#[]⟩ : ByteArray)) := (blk_cell BK177.out 4).trans rfl
    have hfz60_0 := blk_frozen BK177.out 0
    have hfz60_1 := blk_frozen BK177.out 1
    have hfz60_2 := blk_frozen BK177.out 2
    have hfz60_3 := blk_frozen BK177.out 3
    have hfz60_4 := blk_frozen BK177.out 4
    have hnb61 := NB161_142.out
    have hnc61 := NB142_161.out
    have hnb62 := NB161_143.out
    have hnc62 := NB143_161.out
    have hcz63_0 : w51.cell? ⟨gb161, 0, none⟩ = some (.int .i64 t156) := (blk_cell BK161.out 0).trans rfl
    have hcz63_1 : w51.cell? ⟨gb161, 1, none⟩ = some (.int .i64 t157) := (blk_cell BK161.out 1).trans rfl
    have hcz63_2 : w51.cell? ⟨gb161, 2, none⟩ = some (.int .i64 t158) := (blk_cell BK161.out 2).trans rfl
    have hcz63_3 : w51.cell? ⟨gb161, 3, none⟩ = some (.int .i64 t159) := (blk_cell BK161.out 3).trans rfl
    have hcz63_4 : w51.cell? ⟨gb161, 4, none⟩ = some (.string t160) := (blk_cell BK161.out 4).trans rfl
    have hfz63_0 := blk_frozen BK161.out 0
    have hfz63_1 := blk_frozen BK161.out 1
    have hfz63_2 := blk_frozen BK161.out 2
    have hfz63_3 := blk_frozen BK161.out 3
    have hfz63_4 := blk_frozen BK161.out 4
    try go_wp2_with (first | ((with_reducible refine gate_callee (f := 19) rfl ?_); refine zg (some 30) #[.agg #[.int .i64 t172, .int .i64 t173, .int .i64 t174, .int .i64 t175, .string t176], .agg #[.int .i64 t156, .int .i64 t157, .int .i64 t158, .int .i64 t159, .string t160]] Try.func19 ?_; (with_reducible refine (laws_eqEntry.calls t172 t173 t174 t175 t176 t156 t157 t158 t159 t160 true _ A25.out).mono ?_); rintro e w64 ⟨rfl, hb⟩; refine ⟨_, rfl, ?_⟩; replace BK142 := zm (blk_below (g := gb142) (o := .cells #[.int .i64 a0_0, .int .i64 a0_1, .int .i64 a0_2, .int .i64 a0_3, .string a0_4] 23 (0, 0)) (zfar (zfar (zfar (zfar (zfar (zb BK142) NB142_177) NB142_177) NB142_177) NB142_177) NB142_177) hb); replace BK143 := zm (blk_below (g := gb143) (o := .cells #[.int .i64 a1_0, .int .i64 a1_1, .int .i64 a1_2, .int .i64 a1_3, .string a1_4] 23 (0, 0)) (zfar (zfar (zfar (zfar (zfar (zb BK143) NB143_177) NB143_177) NB143_177) NB143_177) NB143_177) hb); replace BK161 := zm (blk_below (g := gb161) (o := .cells #[.int .i64 t156, .int .i64 t157, .int .i64 t158, .int .i64 t159, .string t160] 25 (0, 0)) (zfar (zfar (zfar (zfar (zfar (zb BK161) NB161_177) NB161_177) NB161_177) NB161_177) NB161_177) hb); replace BK177 := zm (blk_below (g := gb177) (o := .cells #[.int .i64 t172, .int .i64 t173, .int .i64 t174, .int .i64 t175, .string t176] 25 (0, 0)) (zput (zput (zput (zput (zput (zb BK177) 0) 1) 2) 3) 4) hb); replace HB := zm (below_step zB hb); clear hb))
    go_ret
    exact ⟨zE, zB⟩
   ·replace c26 := Bool.eq_false_iff.mpr c26
    subst c26
    have H1 : (some false) = some r := by rw [if_neg (show ¬ (false = true) by decide)] at H; exact H
    clear H
    have H := H1
    clear H1
    obtain rfl := Option.some.inj H
    go_enter Try.func3, Try.ntmps3
    try go_wp2_with (first | ((with_reducible refine gate_dst (N := 2) rfl ?_); refine zbox 2 #[.int .i64 a0_0, .int .i64 a0_1, .int .i64 a0_2, .int .i64 a0_3, .string a0_4] 23 ?_; intro gb142 hg w65 hbox hb; have BK142 := zm (hbox); have GW142 := zge w hg zB; have GE142 := zge w hg zB; replace HB := zm (below_step zB hb); clear hb hbox hg) | ((with_reducible refine gate_dst (N := 3) rfl ?_); refine zbox 3 #[.int .i64 a1_0, .int .i64 a1_1, .int .i64 a1_2, .int .i64 a1_3, .string a1_4] 23 ?_; intro gb143 hg w66 hbox hb; have BK143 := zm (hbox); have GW143 := zge w hg zB; have GE143 := zge w hg zB; replace HB := zm (below_step zB hb); have NB142_143 := zlt hg (zb BK142); have NB143_142 := zgt hg (zb BK142); replace BK142 := zm (blk_below (zb BK142) hb); clear hb hbox hg; have hnb67 := NB142_143.out; have hnc67 := NB143_142.out; have hcz68_0 : w66.cell? ⟨gb142, 0, none⟩ = some (.int .i64 a0_0) := (blk_cell BK142.out 0).trans rfl; have hcz68_1 : w66.cell? ⟨gb142, 1, none⟩ = some (.int .i64 a0_1) := (blk_cell BK142.out 1).trans rfl; have hcz68_2 : w66.cell? ⟨gb142, 2, none⟩ = some (.int .i64 a0_2) := (blk_cell BK142.out 2).trans rfl; have hcz68_3 : w66.cell? ⟨gb142, 3, none⟩ = some (.int .i64 a0_3) := (blk_cell BK142.out 3).trans rfl; have hcz68_4 : w66.cell? ⟨gb142, 4, none⟩ = some (.string a0_4) := (blk_cell BK142.out 4).trans rfl; have hfz68_0 := blk_frozen BK142.out 0; have hfz68_1 := blk_frozen BK142.out 1; have hfz68_2 := blk_frozen BK142.out 2; have hfz68_3 := blk_frozen BK142.out 3; have hfz68_4 := blk_frozen BK142.out 4) | ((with_reducible refine gate_callee (f := 15) rfl ?_); refine zg (some 10) #[.agg #[.int .i64 a0_0, .int .i64 a0_1, .int .i64 a0_2, .int .i64 a0_3, .string a0_4], .int .i64 1048576] Try.func15 ?_; (with_reducible refine (laws_szEntry.calls a0_0 a0_1 a0_2 a0_3 a0_4 1048576 t144 _ A3.out).mono ?_); rintro e w69 ⟨rfl, hb⟩; refine ⟨_, rfl, ?_⟩; replace BK142 := zm (blk_below (zb BK142) hb); replace BK143 := zm (blk_below (zb BK143) hb); replace HB := zm (below_step zB hb); clear hb; have hcz70_0 : w69.cell? ⟨gb143, 0, none⟩ = some (.int .i64 a1_0) := (blk_cell BK143.out 0).trans rfl; have hcz70_1 : w69.cell? ⟨gb143, 1, none⟩ = some (.int .i64 a1_1) := (blk_cell BK143.out 1).trans rfl; have hcz70_2 : w69.cell? ⟨gb143, 2, none⟩ = some (.int .i64 a1_2) := (blk_cell BK143.out 2).trans rfl; have hcz70_3 : w69.cell? ⟨gb143, 3, none⟩ = some (.int .i64 a1_3) := (blk_cell BK143.out 3).trans rfl; have hcz70_4 : w69.cell? ⟨gb143, 4, none⟩ = some (.string a1_4) := (blk_cell BK143.out 4).trans rfl; have hfz70_0 := blk_frozen BK143.out 0; have hfz70_1 := blk_frozen BK143.out 1; have hfz70_2 := blk_frozen BK143.out 2; have hfz70_3 := blk_frozen BK143.out 3; have hfz70_4 := blk_frozen BK143.out 4) | ((with_reducible refine gate_callee (f := 15) rfl ?_); refine zg (some 15) #[.agg #[.int .i64 a1_0, .int .i64 a1_1, .int .i64 a1_2, .int .i64 a1_3, .string a1_4], .int .i64 t144] Try.func15 ?_; (with_reducible refine (laws_szEntry.calls a1_0 a1_1 a1_2 a1_3 a1_4 t144 t145 _ A10.out).mono ?_); rintro e w71 ⟨rfl, hb⟩; refine ⟨_, rfl, ?_⟩; replace BK142 := zm (blk_below (zb BK142) hb); replace BK143 := zm (blk_below (zb BK143) hb); replace HB := zm (below_step zB hb); clear hb))
    replace BK142 := zm (blk_drew BK142.out)
    replace BK143 := zm (blk_drew BK143.out)
    replace HB := zm (below_drew1 HB.out)
    refine start_ (n := 7) (S := fun w' => w'.cell? ⟨gb142, 0, none⟩ = some (.int .i64 a0_0) ∧ w'.cell? ⟨gb142, 1, none⟩ = some (.int .i64 a0_1) ∧ w'.cell? ⟨gb142, 2, none⟩ = some (.int .i64 a0_2) ∧ w'.cell? ⟨gb142, 3, none⟩ = some (.int .i64 a0_3) ∧ w'.cell? ⟨gb142, 4, none⟩ = some (.string a0_4) ∧ w'.cell? ⟨gb143, 0, none⟩ = some (.int .i64 a1_0) ∧ w'.cell? ⟨gb143, 1, none⟩ = some (.int .i64 a1_1) ∧ w'.cell? ⟨gb143, 2, none⟩ = some (.int .i64 a1_2) ∧ w'.cell? ⟨gb143, 3, none⟩ = some (.int .i64 a1_3) ∧ w'.cell? ⟨gb143, 4, none⟩ = some (.string a1_4)) (ds := []) (zl 7 0) (by kernel_rfl) rfl rfl ⟨(blk_cell BK142.out 0).trans rfl, (blk_cell BK142.out 1).trans rfl, (blk_cell BK142.out 2).trans rfl, (blk_cell BK142.out 3).trans rfl, (blk_cell BK142.out 4).trans rfl, (blk_cell BK143.out 0).trans rfl, (blk_cell BK143.out 1).trans rfl, (blk_cell BK143.out 2).trans rfl, (blk_cell BK143.out 3).trans rfl, (blk_cell BK143.out 4).trans rfl⟩ (fun hHeld => ?_)
    generalize w71.drew = w72 at BK142 BK143 HB hHeld ⊢
    refine zt 0 (some 18) (zl 7 1) ?_
    refine zt 2 (some 20) (zl 7 5) ?_
    refine join_ (σ := Nat) 1 #[true, true, true, true, true, true, false] (fun s_ => [(19, .agg #[.int .i64 t146, .int .i64 t147, .int .i64 t148, .int .i64 t149, .string t150]), (21, .agg #[.int .i64 t151, .int .i64 t152, .int .i64 t153, .int .i64 t154, .string t155]), (22, .agg #[.int .i64 t156, .int .i64 t157, .int .i64 t158, .int .i64 t159, .string t160]), (6, .pointer (some ⟨s_, 0, none⟩))]) (fun s_ w' => (w'.cell? ⟨gb142, 0, none⟩ = some (.int .i64 a0_0) ∧ w'.cell? ⟨gb142, 1, none⟩ = some (.int .i64 a0_1) ∧ w'.cell? ⟨gb142, 2, none⟩ = some (.int .i64 a0_2) ∧ w'.cell? ⟨gb142, 3, none⟩ = some (.int .i64 a0_3) ∧ w'.cell? ⟨gb142, 4, none⟩ = some (.string a0_4) ∧ w'.cell? ⟨gb143, 0, none⟩ = some (.int .i64 a1_0) ∧ w'.cell? ⟨gb143, 1, none⟩ = some (.int .i64 a1_1) ∧ w'.cell? ⟨gb143, 2, none⟩ = some (.int .i64 a1_2) ∧ w'.cell? ⟨gb143, 3, none⟩ = some (.int .i64 a1_3) ∧ w'.cell? ⟨gb143, 4, none⟩ = some (.string a1_4)) ∧ (w'.heap[gb142]? = some (.cells #[.int .i64 a0_0, .int .i64 a0_1, .int .i64 a0_2, .int .i64 a0_3, .string a0_4] 23 (0, 0))) ∧ (w'.heap[gb143]? = some (.cells #[.int .i64 a1_0, .int .i64 a1_1, .int .i64 a1_2, .int .i64 a1_3, .string a1_4] 23 (0, 0))) ∧ (w'.heap[s_]? = some (.cells #[.int .i64 0, .int .i64 0, .int .i64 0, .int .i64 0, .string (⟨#[]⟩ : ByteArray)] 25 (0, 0))) ∧ (w.heap.size ≤ s_) ∧ (w.heap.size ≤ s_) ∧ (gb142 ≠ s_) ∧ (s_ ≠ gb142) ∧ (gb143 ≠ s_) ∧ (s_ ≠ gb143) ∧ (Below w.heap.size w w')) ?_ ?_
    rotate_left
    ·intro hCont
     refine two_ (i := 1) (j := 5) (Ni := some 19) (Nj := some 6) #[true, true, true, false, false, false, false] #[true, false, true, false, false, true, false] rfl rfl rfl rfl (by kernel_rfl) (by decide) (by decide) (fun K hK => ?_) (fun K hK => ?_)
     ·skip
      refine zgo (N := some 19) #[.agg #[.int .i64 a0_0, .int .i64 a0_1, .int .i64 a0_2, .int .i64 a0_3, .string a0_4]] Try.func17 ?_
      with_reducible refine (laws_toEntry.calls a0_0 a0_1 a0_2 a0_3 a0_4 t146 t147 t148 t149 t150 _ A19.out).mono ?_
      rintro e w73 ⟨rfl, hb⟩
      refine ⟨_, rfl, ?_⟩
      replace BK142 := zm (blk_below (zb BK142) hb)
      replace BK143 := zm (blk_below (zb BK143) hb)
      replace HB := zm (below_step zB hb)
      (try clear hb)
      (try clear hb2)
      (try clear hk)
      (try clear hi)
      refine hK.out _ _ ⟨(blk_cell BK142.out 0).trans rfl, (blk_cell BK142.out 1).trans rfl, (blk_cell BK142.out 2).trans rfl, (blk_cell BK142.out 3).trans rfl, (blk_cell BK142.out 4).trans rfl, (blk_cell BK143.out 0).trans rfl, (blk_cell BK143.out 1).trans rfl, (blk_cell BK143.out 2).trans rfl, (blk_cell BK143.out 3).trans rfl, (blk_cell BK143.out 4).trans rfl⟩ (fun hHeld => ?_)
      clear hK K
      refine zn ?_
      refine two_ (i := 3) (j := 5) (Ni := some 21) (Nj := some 6) #[true, true, true, true, false, false, false] #[true, true, true, false, false, true, false] rfl rfl rfl rfl (by kernel_rfl) (by decide) (by decide) (fun K hK => ?_) (fun K hK => ?_)
      ·skip
       refine zgo (N := some 21) #[.agg #[.int .i64 a1_0, .int .i64 a1_1, .int .i64 a1_2, .int .i64 a1_3, .string a1_4]] Try.func17 ?_
       with_reducible refine (laws_toEntry.calls a1_0 a1_1 a1_2 a1_3 a1_4 t151 t152 t153 t154 t155 _ A20.out).mono ?_
       rintro e w74 ⟨rfl, hb⟩
       refine ⟨_, rfl, ?_⟩
       replace BK142 := zm (blk_below (zb BK142) hb)
       replace BK143 := zm (blk_below (zb BK143) hb)
       replace HB := zm (below_step zB hb)
       (try clear hb)
       (try clear hb2)
       (try clear hk)
       (try clear hi)
       refine hK.out _ _ ⟨(blk_cell BK142.out 0).trans rfl, (blk_cell BK142.out 1).trans rfl, (blk_cell BK142.out 2).trans rfl, (blk_cell BK142.out 3).trans rfl, (blk_cell BK142.out 4).trans rfl, (blk_cell BK143.out 0).trans rfl, (blk_cell BK143.out 1).trans rfl, (blk_cell BK143.out 2).trans rfl, (blk_cell BK143.out 3).trans rfl, (blk_cell BK143.out 4).trans rfl⟩ (fun hHeld => ?_)
       clear hK K
       refine zn ?_
       refine two_ (i := 4) (j := 5) (Ni := some 22) (Nj := some 6) #[true, true, true, true, true, false, false] #[true, true, true, true, false, true, false] rfl rfl rfl rfl (by kernel_rfl) (by decide) (by decide) (fun K hK => ?_) (fun K hK => ?_)
       ·skip
        refine zgo (N := some 22) #[.agg #[.int .i64 t146, .int .i64 t147, .int .i64 t148, .int .i64 t149, .string t150], .agg #[.int .i64 t151, .int .i64 t152, .int .i64 t153, .int .i64 t154, .string t155]] Try.func16 ?_
        with_reducible refine (spec_EntryMax.calls k t146 t147 t148 t149 t150 t151 t152 t153 t154 t155 t156 t157 t158 t159 t160 _ A21.out).mono ?_
        rintro e w75 ⟨rfl, hb⟩
        refine ⟨_, rfl, ?_⟩
        replace BK142 := zm (blk_below (zb BK142) hb)
        replace BK143 := zm (blk_below (zb BK143) hb)
        replace HB := zm (below_step zB hb)
        (try clear hb)
        (try clear hb2)
        (try clear hk)
        (try clear hi)
        refine hK.out _ _ ⟨(blk_cell BK142.out 0).trans rfl, (blk_cell BK142.out 1).trans rfl, (blk_cell BK142.out 2).trans rfl, (blk_cell BK142.out 3).trans rfl, (blk_cell BK142.out 4).trans rfl, (blk_cell BK143.out 0).trans rfl, (blk_cell BK143.out 1).trans rfl, (blk_cell BK143.out 2).trans rfl, (blk_cell BK143.out 3).trans rfl, (blk_cell BK143.out 4).trans rfl⟩ (fun hHeld => ?_)
        clear hK K
        refine zn ?_
        refine zo 5 (some 6) (zl 7 63) (fun K hK => ?_)
        refine box_step ?hg (N := 6) ?hd (cs := #[.int .i64 0, .int .i64 0, .int .i64 0, .int .i64 0, .string (⟨#[]⟩ : ByteArray)]) (t := 25) ?hr ?_; (case hd => rfl); (case hg => rfl); (case hr => first | (go_simp; done) | (go_simp; rfl))
        intro gb161 hg w76 hbox hb
        have BK161 := zm (hbox)
        have GW161 := zge w hg zB
        have GE161 := zge w hg zB
        replace HB := zm (below_step zB hb)
        have NB142_161 := zlt hg (zb BK142)
        have NB161_142 := zgt hg (zb BK142)
        replace BK142 := zm (blk_below (zb BK142) hb)
        have NB143_161 := zlt hg (zb BK143)
        have NB161_143 := zgt hg (zb BK143)
        replace BK143 := zm (blk_below (zb BK143) hb)
        clear hb hbox hg
        refine hK.out _ _ ⟨(blk_cell BK142.out 0).trans rfl, (blk_cell BK142.out 1).trans rfl, (blk_cell BK142.out 2).trans rfl, (blk_cell BK142.out 3).trans rfl, (blk_cell BK142.out 4).trans rfl, (blk_cell BK143.out 0).trans rfl, (blk_cell BK143.out 1).trans rfl, (blk_cell BK143.out 2).trans rfl, (blk_cell BK143.out 3).trans rfl, (blk_cell BK143.out 4).trans rfl⟩ (fun hHeld => ?_)
        clear hK K
        refine zn (N := some 6) ?_
        exact norm_ (by simp only [putAll, Act.put, List.setIfInBounds_toArray, List.set_cons_zero, List.set_cons_succ]) (hCont (gb161) _ ⟨hHeld, (zb BK142), (zb BK143), (zb BK161), GW161.out, GE161.out, NB142_161.out, NB161_142.out, NB143_161.out, NB161_143.out, zB⟩)
       ·skip
        refine box_step ?hg (N := 6) ?hd (cs := #[.int .i64 0, .int .i64 0, .int .i64 0, .int .i64 0, .string (⟨#[]⟩ : ByteArray)]) (t := 25) ?hr ?_; (case hd => rfl); (case hg => rfl); (case hr => first | (go_simp; done) | (go_simp; rfl))
        intro gb161 hg w75 hbox hb
        have BK161 := zm (hbox)
        have GW161 := zge w hg zB
        have GE161 := zge w hg zB
        replace HB := zm (below_step zB hb)
        have NB142_161 := zlt hg (zb BK142)
        have NB161_142 := zgt hg (zb BK142)
        replace BK142 := zm (blk_below (zb BK142) hb)
        have NB143_161 := zlt hg (zb BK143)
        have NB161_143 := zgt hg (zb BK143)
        replace BK143 := zm (blk_below (zb BK143) hb)
        clear hb hbox hg
        refine hK.out _ _ ⟨(blk_cell BK142.out 0).trans rfl, (blk_cell BK142.out 1).trans rfl, (blk_cell BK142.out 2).trans rfl, (blk_cell BK142.out 3).trans rfl, (blk_cell BK142.out 4).trans rfl, (blk_cell BK143.out 0).trans rfl, (blk_cell BK143.out 1).trans rfl, (blk_cell BK143.out 2).trans rfl, (blk_cell BK143.out 3).trans rfl, (blk_cell BK143.out 4).trans rfl⟩ (fun hHeld => ?_)
        clear hK K
        refine zn (N := some 6) ?_
        refine zo 4 (some 22) (zl 7 63) (fun K hK => ?_)
        refine zgo #[.agg #[.int .i64 t146, .int .i64 t147, .int .i64 t148, .int .i64 t149, .string t150], .agg #[.int .i64 t151, .int .i64 t152, .int .i64 t153, .int .i64 t154, .string t155]] Try.func16 ?_
        with_reducible refine (spec_EntryMax.calls k t146 t147 t148 t149 t150 t151 t152 t153 t154 t155 t156 t157 t158 t159 t160 _ A21.out).mono ?_
        rintro e w76 ⟨rfl, hb⟩
        refine ⟨_, rfl, ?_⟩
        replace BK142 := zm (blk_below (zb BK142) hb)
        replace BK143 := zm (blk_below (zb BK143) hb)
        replace BK161 := zm (blk_below (zb BK161) hb)
        replace HB := zm (below_step zB hb)
        (try clear hb)
        (try clear hb2)
        (try clear hk)
        (try clear hi)
        refine hK.out _ _ ⟨(blk_cell BK142.out 0).trans rfl, (blk_cell BK142.out 1).trans rfl, (blk_cell BK142.out 2).trans rfl, (blk_cell BK142.out 3).trans rfl, (blk_cell BK142.out 4).trans rfl, (blk_cell BK143.out 0).trans rfl, (blk_cell BK143.out 1).trans rfl, (blk_cell BK143.out 2).trans rfl, (blk_cell BK143.out 3).trans rfl, (blk_cell BK143.out 4).trans rfl⟩ (fun hHeld => ?_)
        clear hK K
        refine zn ?_
        exact norm_ (by simp only [putAll, Act.put, List.setIfInBounds_toArray, List.set_cons_zero, List.set_cons_succ]) (hCont (gb161) _ ⟨hHeld, (zb BK142), (zb BK143), (zb BK161), GW161.out, GE161.out, NB142_161.out, NB161_142.out, NB143_161.out, NB161_143.out, zB⟩)
      ·skip
       refine box_step ?hg (N := 6) ?hd (cs := #[.int .i64 0, .int .i64 0, .int .i64 0, .int .i64 0, .string (⟨#[]⟩ : ByteArray)]) (t := 25) ?hr ?_; (case hd => rfl); (case hg => rfl); (case hr => first | (go_simp; done) | (go_simp; rfl))
       intro gb161 hg w74 hbox hb
       have BK161 := zm (hbox)
       have GW161 := zge w hg zB
       have GE161 := zge w hg zB
       replace HB := zm (below_step zB hb)
       have NB142_161 := zlt hg (zb BK142)
       have NB161_142 := zgt hg (zb BK142)
       replace BK142 := zm (blk_below (zb BK142) hb)
       have NB143_161 := zlt hg (zb BK143)
       have NB161_143 := zgt hg (zb BK143)
       replace BK143 := zm (blk_below (zb BK143) hb)
       clear hb hbox hg
       refine hK.out _ _ ⟨(blk_cell BK142.out 0).trans rfl, (blk_cell BK142.out 1).trans rfl, (blk_cell BK142.out 2).trans rfl, (blk_cell BK142.out 3).trans rfl, (blk_cell BK142.out 4).trans rfl, (blk_cell BK143.out 0).trans rfl, (blk_cell BK143.out 1).trans rfl, (blk_cell BK143.out 2).trans rfl, (blk_cell BK143.out 3).trans rfl, (blk_cell BK143.out 4).trans rfl⟩ (fun hHeld => ?_)
       clear hK K
       refine zn (N := some 6) ?_
       refine zo 3 (some 21) (zl 7 47) (fun K hK => ?_)
       refine zgo #[.agg #[.int .i64 a1_0, .int .i64 a1_1, .int .i64 a1_2, .int .i64 a1_3, .string a1_4]] Try.func17 ?_
       with_reducible refine (laws_toEntry.calls a1_0 a1_1 a1_2 a1_3 a1_4 t151 t152 t153 t154 t155 _ A20.out).mono ?_
       rintro e w75 ⟨rfl, hb⟩
       refine ⟨_, rfl, ?_⟩
       replace BK142 := zm (blk_below (zb BK142) hb)
       replace BK143 := zm (blk_below (zb BK143) hb)
       replace BK161 := zm (blk_below (zb BK161) hb)
       replace HB := zm (below_step zB hb)
       (try clear hb)
       (try clear hb2)
       (try clear hk)
       (try clear hi)
       refine hK.out _ _ ⟨(blk_cell BK142.out 0).trans rfl, (blk_cell BK142.out 1).trans rfl, (blk_cell BK142.out 2).trans rfl, (blk_cell BK142.out 3).trans rfl, (blk_cell BK142.out 4).trans rfl, (blk_cell BK143.out 0).trans rfl, (blk_cell BK143.out 1).trans rfl, (blk_cell BK143.out 2).trans rfl, (blk_cell BK143.out 3).trans rfl, (blk_cell BK143.out 4).trans rfl⟩ (fun hHeld => ?_)
       clear hK K
       refine zn ?_
       refine zo 4 (some 22) (zl 7 63) (fun K hK => ?_)
       refine zgo #[.agg #[.int .i64 t146, .int .i64 t147, .int .i64 t148, .int .i64 t149, .string t150], .agg #[.int .i64 t151, .int .i64 t152, .int .i64 t153, .int .i64 t154, .string t155]] Try.func16 ?_
       with_reducible refine (spec_EntryMax.calls k t146 t147 t148 t149 t150 t151 t152 t153 t154 t155 t156 t157 t158 t159 t160 _ A21.out).mono ?_
       rintro e w76 ⟨rfl, hb⟩
       refine ⟨_, rfl, ?_⟩
       replace BK142 := zm (blk_below (zb BK142) hb)
       replace BK143 := zm (blk_below (zb BK143) hb)
       replace BK161 := zm (blk_below (zb BK161) hb)
       replace HB := zm (below_step zB hb)
       (try clear hb)
       (try clear hb2)
       (try clear hk)
       (try clear hi)
       refine hK.out _ _ ⟨(blk_cell BK142.out 0).trans rfl, (blk_cell BK142.out 1).trans rfl, (blk_cell BK142.out 2).trans rfl, (blk_cell BK142.out 3).trans rfl, (blk_cell BK142.out 4).trans rfl, (blk_cell BK143.out 0).trans rfl, (blk_cell BK143.out 1).trans rfl, (blk_cell BK143.out 2).trans rfl, (blk_cell BK143.out 3).trans rfl, (blk_cell BK143.out 4).trans rfl⟩ (fun hHeld => ?_)
       clear hK K
       refine zn ?_
       exact norm_ (by simp only [putAll, Act.put, List.setIfInBounds_toArray, List.set_cons_zero, List.set_cons_succ]) (hCont (gb161) _ ⟨hHeld, (zb BK142), (zb BK143), (zb BK161), GW161.out, GE161.out, NB142_161.out, NB161_142.out, NB143_161.out, NB161_143.out, zB⟩)
     ·skip
      refine box_step ?hg (N := 6) ?hd (cs := #[.int .i64 0, .int .i64 0, .int .i64 0, .int .i64 0, .string (⟨#[]⟩ : ByteArray)]) (t := 25) ?hr ?_; (case hd => rfl); (case hg => rfl); (case hr => first | (go_simp; done) | (go_simp; rfl))
      intro gb161 hg w73 hbox hb
      have BK161 := zm (hbox)
      have GW161 := zge w hg zB
      have GE161 := zge w hg zB
      replace HB := zm (below_step zB hb)
      have NB142_161 := zlt hg (zb BK142)
      have NB161_142 := zgt hg (zb BK142)
      replace BK142 := zm (blk_below (zb BK142) hb)
      have NB143_161 := zlt hg (zb BK143)
      have NB161_143 := zgt hg (zb BK143)
      replace BK143 := zm (blk_below (zb BK143) hb)
      clear hb hbox hg
      refine hK.out _ _ ⟨(blk_cell BK142.out 0).trans rfl, (blk_cell BK142.out 1).trans rfl, (blk_cell BK142.out 2).trans rfl, (blk_cell BK142.out 3).trans rfl, (blk_cell BK142.out 4).trans rfl, (blk_cell BK143.out 0).trans rfl, (blk_cell BK143.out 1).trans rfl, (blk_cell BK143.out 2).trans rfl, (blk_cell BK143.out 3).trans rfl, (blk_cell BK143.out 4).trans rfl⟩ (fun hHeld => ?_)
      clear hK K
      refine zn (N := some 6) ?_
      refine zo 1 (some 19) (zl 7 39) (fun K hK => ?_)
      refine zgo #[.agg #[.int .i64 a0_0, .int .i64 a0_1, .int .i64 a0_2, .int .i64 a0_3, .string a0_4]] Try.func17 ?_
      with_reducible refine (laws_toEntry.calls a0_0 a0_1 a0_2 a0_3 a0_4 t146 t147 t148 t149 t150 _ A19.out).mono ?_
      rintro e w74 ⟨rfl, hb⟩
      refine ⟨_, rfl, ?_⟩
      replace BK142 := zm (blk_below (zb BK142) hb)
      replace BK143 := zm (blk_below (zb BK143) hb)
      replace BK161 := zm (blk_below (zb BK161) hb)
      replace HB := zm (below_step zB hb)
      (try clear hb)
      (try clear hb2)
      (try clear hk)
      (try clear hi)
      refine hK.out _ _ ⟨(blk_cell BK142.out 0).trans rfl, (blk_cell BK142.out 1).trans rfl, (blk_cell BK142.out 2).trans rfl, (blk_cell BK142.out 3).trans rfl, (blk_cell BK142.out 4).trans rfl, (blk_cell BK143.out 0).trans rfl, (blk_cell BK143.out 1).trans rfl, (blk_cell BK143.out 2).trans rfl, (blk_cell BK143.out 3).trans rfl, (blk_cell BK143.out 4).trans rfl⟩ (fun hHeld => ?_)
      clear hK K
      refine zn ?_
      refine zo 3 (some 21) (zl 7 47) (fun K hK => ?_)
      refine zgo #[.agg #[.int .i64 a1_0, .int .i64 a1_1, .int .i64 a1_2, .int .i64 a1_3, .string a1_4]] Try.func17 ?_
      with_reducible refine (laws_toEntry.calls a1_0 a1_1 a1_2 a1_3 a1_4 t151 t152 t153 t154 t155 _ A20.out).mono ?_
      rintro e w75 ⟨rfl, hb⟩
      refine ⟨_, rfl, ?_⟩
      replace BK142 := zm (blk_below (zb BK142) hb)
      replace BK143 := zm (blk_below (zb BK143) hb)
      replace BK161 := zm (blk_below (zb BK161) hb)
      replace HB := zm (below_step zB hb)
      (try clear hb)
      (try clear hb2)
      (try clear hk)
      (try clear hi)
      refine hK.out _ _ ⟨(blk_cell BK142.out 0).trans rfl, (blk_cell BK142.out 1).trans rfl, (blk_cell BK142.out 2).trans rfl, (blk_cell BK142.out 3).trans rfl, (blk_cell BK142.out 4).trans rfl, (blk_cell BK143.out 0).trans rfl, (blk_cell BK143.out 1).trans rfl, (blk_cell BK143.out 2).trans rfl, (blk_cell BK143.out 3).trans rfl, (blk_cell BK143.out 4).trans rfl⟩ (fun hHeld => ?_)
      clear hK K
      refine zn ?_
      refine zo 4 (some 22) (zl 7 63) (fun K hK => ?_)
      refine zgo #[.agg #[.int .i64 t146, .int .i64 t147, .int .i64 t148, .int .i64 t149, .string t150], .agg #[.int .i64 t151, .int .i64 t152, .int .i64 t153, .int .i64 t154, .string t155]] Try.func16 ?_
      with_reducible refine (spec_EntryMax.calls k t146 t147 t148 t149 t150 t151 t152 t153 t154 t155 t156 t157 t158 t159 t160 _ A21.out).mono ?_
      rintro e w76 ⟨rfl, hb⟩
      refine ⟨_, rfl, ?_⟩
      replace BK142 := zm (blk_below (zb BK142) hb)
      replace BK143 := zm (blk_below (zb BK143) hb)
      replace BK161 := zm (blk_below (zb BK161) hb)
      replace HB := zm (below_step zB hb)
      (try clear hb)
      (try clear hb2)
      (try clear hk)
      (try clear hi)
      refine hK.out _ _ ⟨(blk_cell BK142.out 0).trans rfl, (blk_cell BK142.out 1).trans rfl, (blk_cell BK142.out 2).trans rfl, (blk_cell BK142.out 3).trans rfl, (blk_cell BK142.out 4).trans rfl, (blk_cell BK143.out 0).trans rfl, (blk_cell BK143.out 1).trans rfl, (blk_cell BK143.out 2).trans rfl, (blk_cell BK143.out 3).trans rfl, (blk_cell BK143.out 4).trans rfl⟩ (fun hHeld => ?_)
      clear hK K
      refine zn ?_
      exact norm_ (by simp only [putAll, Act.put, List.setIfInBounds_toArray, List.set_cons_zero, List.set_cons_succ]) (hCont (gb161) _ ⟨hHeld, (zb BK142), (zb BK143), (zb BK161), GW161.out, GE161.out, NB142_161.out, NB161_142.out, NB143_161.out, NB161_143.out, zB⟩)
    rintro gb161 w77 ⟨hS_, h0_, h1_, h2_, h3_, h4_, h5_, h6_, h7_, h8_, h9_⟩
    have n0_ : Aside0 (w77.heap[gb142]? = some (.cells #[.int .i64 a0_0, .int .i64 a0_1, .int .i64 a0_2, .int .i64 a0_3, .string a0_4] 23 (0, 0))) := ⟨h0_⟩
    have n1_ : Aside0 (w77.heap[gb143]? = some (.cells #[.int .i64 a1_0, .int .i64 a1_1, .int .i64 a1_2, .int .i64 a1_3, .string a1_4] 23 (0, 0))) := ⟨h1_⟩
    have n2_ : Aside0 (w77.heap[gb161]? = some (.cells #[.int .i64 0, .int .i64 0, .int .i64 0, .int .i64 0, .string (⟨#[]⟩ : ByteArray)] 25 (0, 0))) := ⟨h2_⟩
    have n3_ : Aside0 (w.heap.size ≤ gb161) := ⟨h3_⟩
    have n4_ : Aside0 (w.heap.size ≤ gb161) := ⟨h4_⟩
    have n5_ : Aside0 (gb142 ≠ gb161) := ⟨h5_⟩
    have n6_ : Aside0 (gb161 ≠ gb142) := ⟨h6_⟩
    have n7_ : Aside0 (gb143 ≠ gb161) := ⟨h7_⟩
    have n8_ : Aside0 (gb161 ≠ gb143) := ⟨h8_⟩
    have n9_ : Aside0 (Below w.heap.size w w77) := ⟨h9_⟩
    clear BK142
    clear BK143
    clear HB
    clear h0_ h1_ h2_ h3_ h4_ h5_ h6_ h7_ h8_ h9_
    have BK142 := n0_
    have BK143 := n1_
    have BK161 := n2_
    have GW161 := n3_
    have GE161 := n4_
    have NB142_161 := n5_
    have NB161_142 := n6_
    have NB143_161 := n7_
    have NB161_143 := n8_
    have HB := n9_
    clear n0_ n1_ n2_ n3_ n4_ n5_ n6_ n7_ n8_ n9_
    have hHeld : w77.cell? ⟨gb142, 0, none⟩ = some (.int .i64 a0_0) ∧ w77.cell? ⟨gb142, 1, none⟩ = some (.int .i64 a0_1) ∧ w77.cell? ⟨gb142, 2, none⟩ = some (.int .i64 a0_2) ∧ w77.cell? ⟨gb142, 3, none⟩ = some (.int .i64 a0_3) ∧ w77.cell? ⟨gb142, 4, none⟩ = some (.string a0_4) ∧ w77.cell? ⟨gb143, 0, none⟩ = some (.int .i64 a1_0) ∧ w77.cell? ⟨gb143, 1, none⟩ = some (.int .i64 a1_1) ∧ w77.cell? ⟨gb143, 2, none⟩ = some (.int .i64 a1_2) ∧ w77.cell? ⟨gb143, 3, none⟩ = some (.int .i64 a1_3) ∧ w77.cell? ⟨gb143, 4, none⟩ = some (.string a1_4) := hS_
    refine norm_ (a' := ?_) ?_ ?_
    rotate_left
    ·simp only [putAll, Act.put, List.setIfInBounds_toArray, List.set_cons_zero, List.set_cons_succ]
     rfl
    refine zo 6 none (zl 7 127) (fun K hK => ?_)
    have hs78 : w77.cell? ⟨gb161, 0, none⟩ = some (.int .i64 0) := (blk_cell BK161.out 0).trans rfl
    have hfs78 := blk_frozen BK161.out 0
    have hns78_0 := NB142_161.out
    have hns78_1 := NB143_161.out
    have hms78_0 := NB161_142.out
    have hms78_1 := NB161_143.out
    have hs79 : w77.cell? ⟨gb161, 1, none⟩ = some (.int .i64 0) := (blk_cell BK161.out 1).trans rfl
    have hfs79 := blk_frozen BK161.out 1
    have hns79_0 := NB142_161.out
    have hns79_1 := NB143_161.out
    have hms79_0 := NB161_142.out
    have hms79_1 := NB161_143.out
    have hs80 : w77.cell? ⟨gb161, 2, none⟩ = some (.int .i64 0) := (blk_cell BK161.out 2).trans rfl
    have hfs80 := blk_frozen BK161.out 2
    have hns80_0 := NB142_161.out
    have hns80_1 := NB143_161.out
    have hms80_0 := NB161_142.out
    have hms80_1 := NB161_143.out
    have hs81 : w77.cell? ⟨gb161, 3, none⟩ = some (.int .i64 0) := (blk_cell BK161.out 3).trans rfl
    have hfs81 := blk_frozen BK161.out 3
    have hns81_0 := NB142_161.out
    have hns81_1 := NB143_161.out
    have hms81_0 := NB161_142.out
    have hms81_1 := NB161_143.out
    have hs82 : w77.cell? ⟨gb161, 4, none⟩ = some (.string (⟨#[]⟩ : ByteArray)) := (blk_cell BK161.out 4).trans rfl
    have hfs82 := blk_frozen BK161.out 4
    have hns82_0 := NB142_161.out
    have hns82_1 := NB143_161.out
    have hms82_0 := NB161_142.out
    have hms82_1 := NB161_143.out
    refine skip_ (w1 := ?_) (by rfl) rfl ?_ ?_
    rotate_left
    ·go_simp
     rfl
    refine hK.out _ _ ⟨((cell_far (p := ⟨gb161, _, none⟩) NB142_161.out _).trans (((cell_far (p := ⟨gb161, _, none⟩) NB142_161.out _).trans (((cell_far (p := ⟨gb161, _, none⟩) NB142_161.out _).trans (((cell_far (p := ⟨gb161, _, none⟩) NB142_161.out _).trans (((cell_far (p := ⟨gb161, _, none⟩) NB142_161.out _).trans (hHeld.1)))))))))), ((cell_far (p := ⟨gb161, _, none⟩) NB142_161.out _).trans (((cell_far (p := ⟨gb161, _, none⟩) NB142_161.out _).trans (((cell_far (p := ⟨gb161, _, none⟩) NB142_161.out _).trans (((cell_far (p := ⟨gb161, _, none⟩) NB142_161.out _).trans (((cell_far (p := ⟨gb161, _, none⟩) NB142_161.out _).trans (hHeld.2.1)))))))))), ((cell_far (p := ⟨gb161, _, none⟩) NB142_161.out _).trans (((cell_far (p := ⟨gb161, _, none⟩) NB142_161.out _).trans (((cell_far (p := ⟨gb161, _, none⟩) NB142_161.out _).trans (((cell_far (p := ⟨gb161, _, none⟩) NB142_161.out _).trans (((cell_far (p := ⟨gb161, _, none⟩) NB142_161.out _).trans (hHeld.2.2.1)))))))))), ((cell_far (p := ⟨gb161, _, none⟩) NB142_161.out _).trans (((cell_far (p := ⟨gb161, _, none⟩) NB142_161.out _).trans (((cell_far (p := ⟨gb161, _, none⟩) NB142_161.out _).trans (((cell_far (p := ⟨gb161, _, none⟩) NB142_161.out _).trans (((cell_far (p := ⟨gb161, _, none⟩) NB142_161.out _).trans (hHeld.2.2.2.1)))))))))), ((cell_far (p := ⟨gb161, _, none⟩) NB142_161.out _).trans (((cell_far (p := ⟨gb161, _, none⟩) NB142_161.out _).trans (((cell_far (p := ⟨gb161, _, none⟩) NB142_161.out _).trans (((cell_far (p := ⟨gb161, _, none⟩) NB142_161.out _).trans (((cell_far (p := ⟨gb161, _, none⟩) NB142_161.out _).trans (hHeld.2.2.2.2.1)))))))))), ((cell_far (p := ⟨gb161, _, none⟩) NB143_161.out _).trans (((cell_far (p := ⟨gb161, _, none⟩) NB143_161.out _).trans (((cell_far (p := ⟨gb161, _, none⟩) NB143_161.out _).trans (((cell_far (p := ⟨gb161, _, none⟩) NB143_161.out _).trans (((cell_far (p := ⟨gb161, _, none⟩) NB143_161.out _).trans (hHeld.2.2.2.2.2.1)))))))))), ((cell_far (p := ⟨gb161, _, none⟩) NB143_161.out _).trans (((cell_far (p := ⟨gb161, _, none⟩) NB143_161.out _).trans (((cell_far (p := ⟨gb161, _, none⟩) NB143_161.out _).trans (((cell_far (p := ⟨gb161, _, none⟩) NB143_161.out _).trans (((cell_far (p := ⟨gb161, _, none⟩) NB143_161.out _).trans (hHeld.2.2.2.2.2.2.1)))))))))), ((cell_far (p := ⟨gb161, _, none⟩) NB143_161.out _).trans (((cell_far (p := ⟨gb161, _, none⟩) NB143_161.out _).trans (((cell_far (p := ⟨gb161, _, none⟩) NB143_161.out _).trans (((cell_far (p := ⟨gb161, _, none⟩) NB143_161.out _).trans (((cell_far (p := ⟨gb161, _, none⟩) NB143_161.out _).trans (hHeld.2.2.2.2.2.2.2.1)))))))))), ((cell_far (p := ⟨gb161, _, none⟩) NB143_161.out _).trans (((cell_far (p := ⟨gb161, _, none⟩) NB143_161.out _).trans (((cell_far (p := ⟨gb161, _, none⟩) NB143_161.out _).trans (((cell_far (p := ⟨gb161, _, none⟩) NB143_161.out _).trans (((cell_far (p := ⟨gb161, _, none⟩) NB143_161.out _).trans (hHeld.2.2.2.2.2.2.2.2.1)))))))))), ((cell_far (p := ⟨gb161, _, none⟩) NB143_161.out _).trans (((cell_far (p := ⟨gb161, _, none⟩) NB143_161.out _).trans (((cell_far (p := ⟨gb161, _, none⟩) NB143_161.out _).trans (((cell_far (p := ⟨gb161, _, none⟩) NB143_161.out _).trans (((cell_far (p := ⟨gb161, _, none⟩) NB143_161.out _).trans (hHeld.2.2.2.2.2.2.2.2.2))))))))))⟩ (fun hHeld => ?_)
    clear hK K
    refine done_ (by kernel_rfl) ?_
    try go_wp2
    obtain ⟨w83, hW_⟩ : ∃ q, q = (((((w77.setCell ⟨gb161, 0, none⟩ (.int .i64 t156)).setCell ⟨gb161, 1, none⟩ (.int .i64 t157)).setCell ⟨gb161, 2, none⟩ (.int .i64 t158)).setCell ⟨gb161, 3, none⟩ (.int .i64 t159)).setCell ⟨gb161, 4, none⟩ (.string t160)) := ⟨_, rfl⟩
    have n0_ : Aside0 (w83.heap[gb142]? = some (.cells #[.int .i64 a0_0, .int .i64 a0_1, .int .i64 a0_2, .int .i64 a0_3, .string a0_4] 23 (0, 0))) := ⟨by rw [hW_]; exact zfar (zfar (zfar (zfar (zfar (zb BK142) NB142_161) NB142_161) NB142_161) NB142_161) NB142_161⟩
    have n1_ : Aside0 (w83.heap[gb143]? = some (.cells #[.int .i64 a1_0, .int .i64 a1_1, .int .i64 a1_2, .int .i64 a1_3, .string a1_4] 23 (0, 0))) := ⟨by rw [hW_]; exact zfar (zfar (zfar (zfar (zfar (zb BK143) NB143_161) NB143_161) NB143_161) NB143_161) NB143_161⟩
    have n2_ : Aside0 (w83.heap[gb161]? = some (.cells #[.int .i64 t156, .int .i64 t157, .int .i64 t158, .int .i64 t159, .string t160] 25 (0, 0))) := ⟨by rw [hW_]; exact zput (zput (zput (zput (zput (zb BK161) 0) 1) 2) 3) 4⟩
    have n3_ : Aside0 (Below w.heap.size w w83) := ⟨by rw [hW_]; exact zB⟩
    rw [← hW_]
    clear hW_
    (try clear BK142)
    (try clear BK143)
    (try clear BK161)
    (try clear HB)
    have BK142 := n0_
    have BK143 := n1_
    have BK161 := n2_
    have HB := n3_
    clear n0_ n1_ n2_ n3_
    replace BK142 := zm (blk_drew BK142.out)
    replace BK143 := zm (blk_drew BK143.out)
    replace BK161 := zm (blk_drew BK161.out)
    replace HB := zm (below_drew1 HB.out)
    refine start_ (n := 7) (S := fun w' => w'.cell? ⟨gb142, 0, none⟩ = some (.int .i64 a0_0) ∧ w'.cell? ⟨gb142, 1, none⟩ = some (.int .i64 a0_1) ∧ w'.cell? ⟨gb142, 2, none⟩ = some (.int .i64 a0_2) ∧ w'.cell? ⟨gb142, 3, none⟩ = some (.int .i64 a0_3) ∧ w'.cell? ⟨gb142, 4, none⟩ = some (.string a0_4) ∧ w'.cell? ⟨gb143, 0, none⟩ = some (.int .i64 a1_0) ∧ w'.cell? ⟨gb143, 1, none⟩ = some (.int .i64 a1_1) ∧ w'.cell? ⟨gb143, 2, none⟩ = some (.int .i64 a1_2) ∧ w'.cell? ⟨gb143, 3, none⟩ = some (.int .i64 a1_3) ∧ w'.cell? ⟨gb143, 4, none⟩ = some (.string a1_4)) (ds := []) (zl 7 0) (by kernel_rfl) rfl rfl ⟨(blk_cell BK142.out 0).trans rfl, (blk_cell BK142.out 1).trans rfl, (blk_cell BK142.out 2).trans rfl, (blk_cell BK142.out 3).trans rfl, (blk_cell BK142.out 4).trans rfl, (blk_cell BK143.out 0).trans rfl, (blk_cell BK143.out 1).trans rfl, (blk_cell BK143.out 2).trans rfl, (blk_cell BK143.out 3).trans rfl, (blk_cell BK143.out 4).trans rfl⟩ (fun hHeld => ?_)
    generalize w83.drew = w84 at BK142 BK143 BK161 HB hHeld ⊢
    refine zt 0 (some 23) (zl 7 1) ?_
    refine zt 2 (some 25) (zl 7 5) ?_
    refine join_ (σ := Nat) 1 #[true, true, true, true, true, true, false] (fun s_ => [(24, .agg #[.int .i64 t162, .int .i64 t163, .int .i64 t164, .int .i64 t165, .string t166]), (26, .agg #[.int .i64 t167, .int .i64 t168, .int .i64 t169, .int .i64 t170, .string t171]), (27, .agg #[.int .i64 t172, .int .i64 t173, .int .i64 t174, .int .i64 t175, .string t176]), (7, .pointer (some ⟨s_, 0, none⟩))]) (fun s_ w' => (w'.cell? ⟨gb142, 0, none⟩ = some (.int .i64 a0_0) ∧ w'.cell? ⟨gb142, 1, none⟩ = some (.int .i64 a0_1) ∧ w'.cell? ⟨gb142, 2, none⟩ = some (.int .i64 a0_2) ∧ w'.cell? ⟨gb142, 3, none⟩ = some (.int .i64 a0_3) ∧ w'.cell? ⟨gb142, 4, none⟩ = some (.string a0_4) ∧ w'.cell? ⟨gb143, 0, none⟩ = some (.int .i64 a1_0) ∧ w'.cell? ⟨gb143, 1, none⟩ = some (.int .i64 a1_1) ∧ w'.cell? ⟨gb143, 2, none⟩ = some (.int .i64 a1_2) ∧ w'.cell? ⟨gb143, 3, none⟩ = some (.int .i64 a1_3) ∧ w'.cell? ⟨gb143, 4, none⟩ = some (.string a1_4)) ∧ (w'.heap[gb142]? = some (.cells #[.int .i64 a0_0, .int .i64 a0_1, .int .i64 a0_2, .int .i64 a0_3, .string a0_4] 23 (0, 0))) ∧ (w'.heap[gb143]? = some (.cells #[.int .i64 a1_0, .int .i64 a1_1, .int .i64 a1_2, .int .i64 a1_3, .string a1_4] 23 (0, 0))) ∧ (w'.heap[gb161]? = some (.cells #[.int .i64 t156, .int .i64 t157, .int .i64 t158, .int .i64 t159, .string t160] 25 (0, 0))) ∧ (w'.heap[s_]? = some (.cells #[.int .i64 0, .int .i64 0, .int .i64 0, .int .i64 0, .string (⟨#[]⟩ : ByteArray)] 25 (0, 0))) ∧ (w.heap.size ≤ s_) ∧ (w.heap.size ≤ s_) ∧ (gb142 ≠ s_) ∧ (s_ ≠ gb142) ∧ (gb143 ≠ s_) ∧ (s_ ≠ gb143) ∧ (gb161 ≠ s_) ∧ (s_ ≠ gb161) ∧ (Below w.heap.size w w')) ?_ ?_
    rotate_left
    ·intro hCont
     refine two_ (i := 1) (j := 5) (Ni := some 24) (Nj := some 7) #[true, true, true, false, false, false, false] #[true, false, true, false, false, true, false] rfl rfl rfl rfl (by kernel_rfl) (by decide) (by decide) (fun K hK => ?_) (fun K hK => ?_)
     ·skip
      refine zgo (N := some 24) #[.agg #[.int .i64 a0_0, .int .i64 a0_1, .int .i64 a0_2, .int .i64 a0_3, .string a0_4]] Try.func17 ?_
      with_reducible refine (laws_toEntry.calls a0_0 a0_1 a0_2 a0_3 a0_4 t162 t163 t164 t165 t166 _ A22.out).mono ?_
      rintro e w85 ⟨rfl, hb⟩
      refine ⟨_, rfl, ?_⟩
      replace BK142 := zm (blk_below (zb BK142) hb)
      replace BK143 := zm (blk_below (zb BK143) hb)
      replace BK161 := zm (blk_below (zb BK161) hb)
      replace HB := zm (below_step zB hb)
      (try clear hb)
      (try clear hb2)
      (try clear hk)
      (try clear hi)
      refine hK.out _ _ ⟨(blk_cell BK142.out 0).trans rfl, (blk_cell BK142.out 1).trans rfl, (blk_cell BK142.out 2).trans rfl, (blk_cell BK142.out 3).trans rfl, (blk_cell BK142.out 4).trans rfl, (blk_cell BK143.out 0).trans rfl, (blk_cell BK143.out 1).trans rfl, (blk_cell BK143.out 2).trans rfl, (blk_cell BK143.out 3).trans rfl, (blk_cell BK143.out 4).trans rfl⟩ (fun hHeld => ?_)
      clear hK K
      refine zn ?_
      refine two_ (i := 3) (j := 5) (Ni := some 26) (Nj := some 7) #[true, true, true, true, false, false, false] #[true, true, true, false, false, true, false] rfl rfl rfl rfl (by kernel_rfl) (by decide) (by decide) (fun K hK => ?_) (fun K hK => ?_)
      ·skip
       refine zgo (N := some 26) #[.agg #[.int .i64 a1_0, .int .i64 a1_1, .int .i64 a1_2, .int .i64 a1_3, .string a1_4]] Try.func17 ?_
       with_reducible refine (laws_toEntry.calls a1_0 a1_1 a1_2 a1_3 a1_4 t167 t168 t169 t170 t171 _ A23.out).mono ?_
       rintro e w86 ⟨rfl, hb⟩
       refine ⟨_, rfl, ?_⟩
       replace BK142 := zm (blk_below (zb BK142) hb)
       replace BK143 := zm (blk_below (zb BK143) hb)
       replace BK161 := zm (blk_below (zb BK161) hb)
       replace HB := zm (below_step zB hb)
       (try clear hb)
       (try clear hb2)
       (try clear hk)
       (try clear hi)
       refine hK.out _ _ ⟨(blk_cell BK142.out 0).trans rfl, (blk_cell BK142.out 1).trans rfl, (blk_cell BK142.out 2).trans rfl, (blk_cell BK142.out 3).trans rfl, (blk_cell BK142.out 4).trans rfl, (blk_cell BK143.out 0).trans rfl, (blk_cell BK143.out 1).trans rfl, (blk_cell BK143.out 2).trans rfl, (blk_cell BK143.out 3).trans rfl, (blk_cell BK143.out 4).trans rfl⟩ (fun hHeld => ?_)
       clear hK K
       refine zn ?_
       refine two_ (i := 4) (j := 5) (Ni := some 27) (Nj := some 7) #[true, true, true, true, true, false, false] #[true, true, true, true, false, true, false] rfl rfl rfl rfl (by kernel_rfl) (by decide) (by decide) (fun K hK => ?_) (fun K hK => ?_)
       ·skip
        refine zgo (N := some 27) #[.agg #[.int .i64 t162, .int .i64 t163, .int .i64 t164, .int .i64 t165, .string t166], .agg #[.int .i64 t167, .int .i64 t168, .int .i64 t169, .int .i64 t170, .string t171]] Try.func18 ?_
        with_reducible refine (impl_EntryMax.calls k t162 t163 t164 t165 t166 t167 t168 t169 t170 t171 t172 t173 t174 t175 t176 _ A24.out).mono ?_
        rintro e w87 ⟨rfl, hb⟩
        refine ⟨_, rfl, ?_⟩
        replace BK142 := zm (blk_below (zb BK142) hb)
        replace BK143 := zm (blk_below (zb BK143) hb)
        replace BK161 := zm (blk_below (zb BK161) hb)
        replace HB := zm (below_step zB hb)
        (try clear hb)
        (try clear hb2)
        (try clear hk)
        (try clear hi)
        refine hK.out _ _ ⟨(blk_cell BK142.out 0).trans rfl, (blk_cell BK142.out 1).trans rfl, (blk_cell BK142.out 2).trans rfl, (blk_cell BK142.out 3).trans rfl, (blk_cell BK142.out 4).trans rfl, (blk_cell BK143.out 0).trans rfl, (blk_cell BK143.out 1).trans rfl, (blk_cell BK143.out 2).trans rfl, (blk_cell BK143.out 3).trans rfl, (blk_cell BK143.out 4).trans rfl⟩ (fun hHeld => ?_)
        clear hK K
        refine zn ?_
        refine zo 5 (some 7) (zl 7 63) (fun K hK => ?_)
        refine box_step ?hg (N := 7) ?hd (cs := #[.int .i64 0, .int .i64 0, .int .i64 0, .int .i64 0, .string (⟨#[]⟩ : ByteArray)]) (t := 25) ?hr ?_; (case hd => rfl); (case hg => rfl); (case hr => first | (go_simp; done) | (go_simp; rfl))
        intro gb177 hg w88 hbox hb
        have BK177 := zm (hbox)
        have GW177 := zge w hg zB
        have GE177 := zge w hg zB
        replace HB := zm (below_step zB hb)
        have NB142_177 := zlt hg (zb BK142)
        have NB177_142 := zgt hg (zb BK142)
        replace BK142 := zm (blk_below (zb BK142) hb)
        have NB143_177 := zlt hg (zb BK143)
        have NB177_143 := zgt hg (zb BK143)
        replace BK143 := zm (blk_below (zb BK143) hb)
        have NB161_177 := zlt hg (zb BK161)
        have NB177_161 := zgt hg (zb BK161)
        replace BK161 := zm (blk_below (zb BK161) hb)
        clear hb hbox hg
        refine hK.out _ _ ⟨(blk_cell BK142.out 0).trans rfl, (blk_cell BK142.out 1).trans rfl, (blk_cell BK142.out 2).trans rfl, (blk_cell BK142.out 3).trans rfl, (blk_cell BK142.out 4).trans rfl, (blk_cell BK143.out 0).trans rfl, (blk_cell BK143.out 1).trans rfl, (blk_cell BK143.out 2).trans rfl, (blk_cell BK143.out 3).trans rfl, (blk_cell BK143.out 4).trans rfl⟩ (fun hHeld => ?_)
        clear hK K
        refine zn (N := some 7) ?_
        exact norm_ (by simp only [putAll, Act.put, List.setIfInBounds_toArray, List.set_cons_zero, List.set_cons_succ]) (hCont (gb177) _ ⟨hHeld, (zb BK142), (zb BK143), (zb BK161), (zb BK177), GW177.out, GE177.out, NB142_177.out, NB177_142.out, NB143_177.out, NB177_143.out, NB161_177.out, NB177_161.out, zB⟩)
       ·skip
        refine box_step ?hg (N := 7) ?hd (cs := #[.int .i64 0, .int .i64 0, .int .i64 0, .int .i64 0, .string (⟨#[]⟩ : ByteArray)]) (t := 25) ?hr ?_; (case hd => rfl); (case hg => rfl); (case hr => first | (go_simp; done) | (go_simp; rfl))
        intro gb177 hg w87 hbox hb
        have BK177 := zm (hbox)
        have GW177 := zge w hg zB
        have GE177 := zge w hg zB
        replace HB := zm (below_step zB hb)
        have NB142_177 := zlt hg (zb BK142)
        have NB177_142 := zgt hg (zb BK142)
        replace BK142 := zm (blk_below (zb BK142) hb)
        have NB143_177 := zlt hg (zb BK143)
        have NB177_143 := zgt hg (zb BK143)
        replace BK143 := zm (blk_below (zb BK143) hb)
        have NB161_177 := zlt hg (zb BK161)
        have NB177_161 := zgt hg (zb BK161)
        replace BK161 := zm (blk_below (zb BK161) hb)
        clear hb hbox hg
        refine hK.out _ _ ⟨(blk_cell BK142.out 0).trans rfl, (blk_cell BK142.out 1).trans rfl, (blk_cell BK142.out 2).trans rfl, (blk_cell BK142.out 3).trans rfl, (blk_cell BK142.out 4).trans rfl, (blk_cell BK143.out 0).trans rfl, (blk_cell BK143.out 1).trans rfl, (blk_cell BK143.out 2).trans rfl, (blk_cell BK143.out 3).trans rfl, (blk_cell BK143.out 4).trans rfl⟩ (fun hHeld => ?_)
        clear hK K
        refine zn (N := some 7) ?_
        refine zo 4 (some 27) (zl 7 63) (fun K hK => ?_)
        refine zgo #[.agg #[.int .i64 t162, .int .i64 t163, .int .i64 t164, .int .i64 t165, .string t166], .agg #[.int .i64 t167, .int .i64 t168, .int .i64 t169, .int .i64 t170, .string t171]] Try.func18 ?_
        with_reducible refine (impl_EntryMax.calls k t162 t163 t164 t165 t166 t167 t168 t169 t170 t171 t172 t173 t174 t175 t176 _ A24.out).mono ?_
        rintro e w88 ⟨rfl, hb⟩
        refine ⟨_, rfl, ?_⟩
        replace BK142 := zm (blk_below (zb BK142) hb)
        replace BK143 := zm (blk_below (zb BK143) hb)
        replace BK161 := zm (blk_below (zb BK161) hb)
        replace BK177 := zm (blk_below (zb BK177) hb)
        replace HB := zm (below_step zB hb)
        (try clear hb)
        (try clear hb2)
        (try clear hk)
        (try clear hi)
        refine hK.out _ _ ⟨(blk_cell BK142.out 0).trans rfl, (blk_cell BK142.out 1).trans rfl, (blk_cell BK142.out 2).trans rfl, (blk_cell BK142.out 3).trans rfl, (blk_cell BK142.out 4).trans rfl, (blk_cell BK143.out 0).trans rfl, (blk_cell BK143.out 1).trans rfl, (blk_cell BK143.out 2).trans rfl, (blk_cell BK143.out 3).trans rfl, (blk_cell BK143.out 4).trans rfl⟩ (fun hHeld => ?_)
        clear hK K
        refine zn ?_
        exact norm_ (by simp only [putAll, Act.put, List.setIfInBounds_toArray, List.set_cons_zero, List.set_cons_succ]) (hCont (gb177) _ ⟨hHeld, (zb BK142), (zb BK143), (zb BK161), (zb BK177), GW177.out, GE177.out, NB142_177.out, NB177_142.out, NB143_177.out, NB177_143.out, NB161_177.out, NB177_161.out, zB⟩)
      ·skip
       refine box_step ?hg (N := 7) ?hd (cs := #[.int .i64 0, .int .i64 0, .int .i64 0, .int .i64 0, .string (⟨#[]⟩ : ByteArray)]) (t := 25) ?hr ?_; (case hd => rfl); (case hg => rfl); (case hr => first | (go_simp; done) | (go_simp; rfl))
       intro gb177 hg w86 hbox hb
       have BK177 := zm (hbox)
       have GW177 := zge w hg zB
       have GE177 := zge w hg zB
       replace HB := zm (below_step zB hb)
       have NB142_177 := zlt hg (zb BK142)
       have NB177_142 := zgt hg (zb BK142)
       replace BK142 := zm (blk_below (zb BK142) hb)
       have NB143_177 := zlt hg (zb BK143)
       have NB177_143 := zgt hg (zb BK143)
       replace BK143 := zm (blk_below (zb BK143) hb)
       have NB161_177 := zlt hg (zb BK161)
       have NB177_161 := zgt hg (zb BK161)
       replace BK161 := zm (blk_below (zb BK161) hb)
       clear hb hbox hg
       refine hK.out _ _ ⟨(blk_cell BK142.out 0).trans rfl, (blk_cell BK142.out 1).trans rfl, (blk_cell BK142.out 2).trans rfl, (blk_cell BK142.out 3).trans rfl, (blk_cell BK142.out 4).trans rfl, (blk_cell BK143.out 0).trans rfl, (blk_cell BK143.out 1).trans rfl, (blk_cell BK143.out 2).trans rfl, (blk_cell BK143.out 3).trans rfl, (blk_cell BK143.out 4).trans rfl⟩ (fun hHeld => ?_)
       clear hK K
       refine zn (N := some 7) ?_
       refine zo 3 (some 26) (zl 7 47) (fun K hK => ?_)
       refine zgo #[.agg #[.int .i64 a1_0, .int .i64 a1_1, .int .i64 a1_2, .int .i64 a1_3, .string a1_4]] Try.func17 ?_
       with_reducible refine (laws_toEntry.calls a1_0 a1_1 a1_2 a1_3 a1_4 t167 t168 t169 t170 t171 _ A23.out).mono ?_
       rintro e w87 ⟨rfl, hb⟩
       refine ⟨_, rfl, ?_⟩
       replace BK142 := zm (blk_below (zb BK142) hb)
       replace BK143 := zm (blk_below (zb BK143) hb)
       replace BK161 := zm (blk_below (zb BK161) hb)
       replace BK177 := zm (blk_below (zb BK177) hb)
       replace HB := zm (below_step zB hb)
       (try clear hb)
       (try clear hb2)
       (try clear hk)
       (try clear hi)
       refine hK.out _ _ ⟨(blk_cell BK142.out 0).trans rfl, (blk_cell BK142.out 1).trans rfl, (blk_cell BK142.out 2).trans rfl, (blk_cell BK142.out 3).trans rfl, (blk_cell BK142.out 4).trans rfl, (blk_cell BK143.out 0).trans rfl, (blk_cell BK143.out 1).trans rfl, (blk_cell BK143.out 2).trans rfl, (blk_cell BK143.out 3).trans rfl, (blk_cell BK143.out 4).trans rfl⟩ (fun hHeld => ?_)
       clear hK K
       refine zn ?_
       refine zo 4 (some 27) (zl 7 63) (fun K hK => ?_)
       refine zgo #[.agg #[.int .i64 t162, .int .i64 t163, .int .i64 t164, .int .i64 t165, .string t166], .agg #[.int .i64 t167, .int .i64 t168, .int .i64 t169, .int .i64 t170, .string t171]] Try.func18 ?_
       with_reducible refine (impl_EntryMax.calls k t162 t163 t164 t165 t166 t167 t168 t169 t170 t171 t172 t173 t174 t175 t176 _ A24.out).mono ?_
       rintro e w88 ⟨rfl, hb⟩
       refine ⟨_, rfl, ?_⟩
       replace BK142 := zm (blk_below (zb BK142) hb)
       replace BK143 := zm (blk_below (zb BK143) hb)
       replace BK161 := zm (blk_below (zb BK161) hb)
       replace BK177 := zm (blk_below (zb BK177) hb)
       replace HB := zm (below_step zB hb)
       (try clear hb)
       (try clear hb2)
       (try clear hk)
       (try clear hi)
       refine hK.out _ _ ⟨(blk_cell BK142.out 0).trans rfl, (blk_cell BK142.out 1).trans rfl, (blk_cell BK142.out 2).trans rfl, (blk_cell BK142.out 3).trans rfl, (blk_cell BK142.out 4).trans rfl, (blk_cell BK143.out 0).trans rfl, (blk_cell BK143.out 1).trans rfl, (blk_cell BK143.out 2).trans rfl, (blk_cell BK143.out 3).trans rfl, (blk_cell BK143.out 4).trans rfl⟩ (fun hHeld => ?_)
       clear hK K
       refine zn ?_
       exact norm_ (by simp only [putAll, Act.put, List.setIfInBounds_toArray, List.set_cons_zero, List.set_cons_succ]) (hCont (gb177) _ ⟨hHeld, (zb BK142), (zb BK143), (zb BK161), (zb BK177), GW177.out, GE177.out, NB142_177.out, NB177_142.out, NB143_177.out, NB177_143.out, NB161_177.out, NB177_161.out, zB⟩)
     ·skip
      refine box_step ?hg (N := 7) ?hd (cs := #[.int .i64 0, .int .i64 0, .int .i64 0, .int .i64 0, .string (⟨#[]⟩ : ByteArray)]) (t := 25) ?hr ?_; (case hd => rfl); (case hg => rfl); (case hr => first | (go_simp; done) | (go_simp; rfl))
      intro gb177 hg w85 hbox hb
      have BK177 := zm (hbox)
      have GW177 := zge w hg zB
      have GE177 := zge w hg zB
      replace HB := zm (below_step zB hb)
      have NB142_177 := zlt hg (zb BK142)
      have NB177_142 := zgt hg (zb BK142)
      replace BK142 := zm (blk_below (zb BK142) hb)
      have NB143_177 := zlt hg (zb BK143)
      have NB177_143 := zgt hg (zb BK143)
      replace BK143 := zm (blk_below (zb BK143) hb)
      have NB161_177 := zlt hg (zb BK161)
      have NB177_161 := zgt hg (zb BK161)
      replace BK161 := zm (blk_below (zb BK161) hb)
      clear hb hbox hg
      refine hK.out _ _ ⟨(blk_cell BK142.out 0).trans rfl, (blk_cell BK142.out 1).trans rfl, (blk_cell BK142.out 2).trans rfl, (blk_cell BK142.out 3).trans rfl, (blk_cell BK142.out 4).trans rfl, (blk_cell BK143.out 0).trans rfl, (blk_cell BK143.out 1).trans rfl, (blk_cell BK143.out 2).trans rfl, (blk_cell BK143.out 3).trans rfl, (blk_cell BK143.out 4).trans rfl⟩ (fun hHeld => ?_)
      clear hK K
      refine zn (N := some 7) ?_
      refine zo 1 (some 24) (zl 7 39) (fun K hK => ?_)
      refine zgo #[.agg #[.int .i64 a0_0, .int .i64 a0_1, .int .i64 a0_2, .int .i64 a0_3, .string a0_4]] Try.func17 ?_
      with_reducible refine (laws_toEntry.calls a0_0 a0_1 a0_2 a0_3 a0_4 t162 t163 t164 t165 t166 _ A22.out).mono ?_
      rintro e w86 ⟨rfl, hb⟩
      refine ⟨_, rfl, ?_⟩
      replace BK142 := zm (blk_below (zb BK142) hb)
      replace BK143 := zm (blk_below (zb BK143) hb)
      replace BK161 := zm (blk_below (zb BK161) hb)
      replace BK177 := zm (blk_below (zb BK177) hb)
      replace HB := zm (below_step zB hb)
      (try clear hb)
      (try clear hb2)
      (try clear hk)
      (try clear hi)
      refine hK.out _ _ ⟨(blk_cell BK142.out 0).trans rfl, (blk_cell BK142.out 1).trans rfl, (blk_cell BK142.out 2).trans rfl, (blk_cell BK142.out 3).trans rfl, (blk_cell BK142.out 4).trans rfl, (blk_cell BK143.out 0).trans rfl, (blk_cell BK143.out 1).trans rfl, (blk_cell BK143.out 2).trans rfl, (blk_cell BK143.out 3).trans rfl, (blk_cell BK143.out 4).trans rfl⟩ (fun hHeld => ?_)
      clear hK K
      refine zn ?_
      refine zo 3 (some 26) (zl 7 47) (fun K hK => ?_)
      refine zgo #[.agg #[.int .i64 a1_0, .int .i64 a1_1, .int .i64 a1_2, .int .i64 a1_3, .string a1_4]] Try.func17 ?_
      with_reducible refine (laws_toEntry.calls a1_0 a1_1 a1_2 a1_3 a1_4 t167 t168 t169 t170 t171 _ A23.out).mono ?_
      rintro e w87 ⟨rfl, hb⟩
      refine ⟨_, rfl, ?_⟩
      replace BK142 := zm (blk_below (zb BK142) hb)
      replace BK143 := zm (blk_below (zb BK143) hb)
      replace BK161 := zm (blk_below (zb BK161) hb)
      replace BK177 := zm (blk_below (zb BK177) hb)
      replace HB := zm (below_step zB hb)
      (try clear hb)
      (try clear hb2)
      (try clear hk)
      (try clear hi)
      refine hK.out _ _ ⟨(blk_cell BK142.out 0).trans rfl, (blk_cell BK142.out 1).trans rfl, (blk_cell BK142.out 2).trans rfl, (blk_cell BK142.out 3).trans rfl, (blk_cell BK142.out 4).trans rfl, (blk_cell BK143.out 0).trans rfl, (blk_cell BK143.out 1).trans rfl, (blk_cell BK143.out 2).trans rfl, (blk_cell BK143.out 3).trans rfl, (blk_cell BK143.out 4).trans rfl⟩ (fun hHeld => ?_)
      clear hK K
      refine zn ?_
      refine zo 4 (some 27) (zl 7 63) (fun K hK => ?_)
      refine zgo #[.agg #[.int .i64 t162, .int .i64 t163, .int .i64 t164, .int .i64 t165, .string t166], .agg #[.int .i64 t167, .int .i64 t168, .int .i64 t169, .int .i64 t170, .string t171]] Try.func18 ?_
      with_reducible refine (impl_EntryMax.calls k t162 t163 t164 t165 t166 t167 t168 t169 t170 t171 t172 t173 t174 t175 t176 _ A24.out).mono ?_
      rintro e w88 ⟨rfl, hb⟩
      refine ⟨_, rfl, ?_⟩
      replace BK142 := zm (blk_below (zb BK142) hb)
      replace BK143 := zm (blk_below (zb BK143) hb)
      replace BK161 := zm (blk_below (zb BK161) hb)
      replace BK177 := zm (blk_below (zb BK177) hb)
      replace HB := zm (below_step zB hb)
      (try clear hb)
      (try clear hb2)
      (try clear hk)
      (try clear hi)
      refine hK.out _ _ ⟨(blk_cell BK142.out 0).trans rfl, (blk_cell BK142.out 1).trans rfl, (blk_cell BK142.out 2).trans rfl, (blk_cell BK142.out 3).trans rfl, (blk_cell BK142.out 4).trans rfl, (blk_cell BK143.out 0).trans rfl, (blk_cell BK143.out 1).trans rfl, (blk_cell BK143.out 2).trans rfl, (blk_cell BK143.out 3).trans rfl, (blk_cell BK143.out 4).trans rfl⟩ (fun hHeld => ?_)
      clear hK K
      refine zn ?_
      exact norm_ (by simp only [putAll, Act.put, List.setIfInBounds_toArray, List.set_cons_zero, List.set_cons_succ]) (hCont (gb177) _ ⟨hHeld, (zb BK142), (zb BK143), (zb BK161), (zb BK177), GW177.out, GE177.out, NB142_177.out, NB177_142.out, NB143_177.out, NB177_143.out, NB161_177.out, NB177_161.out, zB⟩)
    rintro gb177 w89 ⟨hS_, h0_, h1_, h2_, h3_, h4_, h5_, h6_, h7_, h8_, h9_, h10_, h11_, h12_⟩
    have n0_ : Aside0 (w89.heap[gb142]? = some (.cells #[.int .i64 a0_0, .int .i64 a0_1, .int .i64 a0_2, .int .i64 a0_3, .string a0_4] 23 (0, 0))) := ⟨h0_⟩
    have n1_ : Aside0 (w89.heap[gb143]? = some (.cells #[.int .i64 a1_0, .int .i64 a1_1, .int .i64 a1_2, .int .i64 a1_3, .string a1_4] 23 (0, 0))) := ⟨h1_⟩
    have n2_ : Aside0 (w89.heap[gb161]? = some (.cells #[.int .i64 t156, .int .i64 t157, .int .i64 t158, .int .i64 t159, .string t160] 25 (0, 0))) := ⟨h2_⟩
    have n3_ : Aside0 (w89.heap[gb177]? = some (.cells #[.int .i64 0, .int .i64 0, .int .i64 0, .int .i64 0, .string (⟨#[]⟩ : ByteArray)] 25 (0, 0))) := ⟨h3_⟩
    have n4_ : Aside0 (w.heap.size ≤ gb177) := ⟨h4_⟩
    have n5_ : Aside0 (w.heap.size ≤ gb177) := ⟨h5_⟩
    have n6_ : Aside0 (gb142 ≠ gb177) := ⟨h6_⟩
    have n7_ : Aside0 (gb177 ≠ gb142) := ⟨h7_⟩
    have n8_ : Aside0 (gb143 ≠ gb177) := ⟨h8_⟩
    have n9_ : Aside0 (gb177 ≠ gb143) := ⟨h9_⟩
    have n10_ : Aside0 (gb161 ≠ gb177) := ⟨h10_⟩
    have n11_ : Aside0 (gb177 ≠ gb161) := ⟨h11_⟩
    have n12_ : Aside0 (Below w.heap.size w w89) := ⟨h12_⟩
    clear BK142
    clear BK143
    clear BK161
    clear HB
    clear h0_ h1_ h2_ h3_ h4_ h5_ h6_ h7_ h8_ h9_ h10_ h11_ h12_
    have BK142 := n0_
    have BK143 := n1_
    have BK161 := n2_
    have BK177 := n3_
    have GW177 := n4_
    have GE177 := n5_
    have NB142_177 := n6_
    have NB177_142 := n7_
    have NB143_177 := n8_
    have NB177_143 := n9_
    have NB161_177 := n10_
    have NB177_161 := n11_
    have HB := n12_
    clear n0_ n1_ n2_ n3_ n4_ n5_ n6_ n7_ n8_ n9_ n10_ n11_ n12_
    have hHeld : w89.cell? ⟨gb142, 0, none⟩ = some (.int .i64 a0_0) ∧ w89.cell? ⟨gb142, 1, none⟩ = some (.int .i64 a0_1) ∧ w89.cell? ⟨gb142, 2, none⟩ = some (.int .i64 a0_2) ∧ w89.cell? ⟨gb142, 3, none⟩ = some (.int .i64 a0_3) ∧ w89.cell? ⟨gb142, 4, none⟩ = some (.string a0_4) ∧ w89.cell? ⟨gb143, 0, none⟩ = some (.int .i64 a1_0) ∧ w89.cell? ⟨gb143, 1, none⟩ = some (.int .i64 a1_1) ∧ w89.cell? ⟨gb143, 2, none⟩ = some (.int .i64 a1_2) ∧ w89.cell? ⟨gb143, 3, none⟩ = some (.int .i64 a1_3) ∧ w89.cell? ⟨gb143, 4, none⟩ = some (.string a1_4) := hS_
    refine norm_ (a' := ?_) ?_ ?_
    rotate_left
    ·simp only [putAll, Act.put, List.setIfInBounds_toArray, List.set_cons_zero, List.set_cons_succ]
     rfl
    refine zo 6 none (zl 7 127) (fun K hK => ?_)
    have hs90 : w89.cell? ⟨gb177, 0, none⟩ = some (.int .i64 0) := (blk_cell BK177.out 0).trans rfl
    have hfs90 := blk_frozen BK177.out 0
    have hns90_0 := NB142_177.out
    have hns90_1 := NB143_177.out
    have hns90_2 := NB161_177.out
    have hms90_0 := NB177_142.out
    have hms90_1 := NB177_143.out
    have hms90_2 := NB177_161.out
    have hs91 : w89.cell? ⟨gb177, 1, none⟩ = some (.int .i64 0) := (blk_cell BK177.out 1).trans rfl
    have hfs91 := blk_frozen BK177.out 1
    have hns91_0 := NB142_177.out
    have hns91_1 := NB143_177.out
    have hns91_2 := NB161_177.out
    have hms91_0 := NB177_142.out
    have hms91_1 := NB177_143.out
    have hms91_2 := NB177_161.out
    have hs92 : w89.cell? ⟨gb177, 2, none⟩ = some (.int .i64 0) := (blk_cell BK177.out 2).trans rfl
    have hfs92 := blk_frozen BK177.out 2
    have hns92_0 := NB142_177.out
    have hns92_1 := NB143_177.out
    have hns92_2 := NB161_177.out
    have hms92_0 := NB177_142.out
    have hms92_1 := NB177_143.out
    have hms92_2 := NB177_161.out
    have hs93 : w89.cell? ⟨gb177, 3, none⟩ = some (.int .i64 0) := (blk_cell BK177.out 3).trans rfl
    have hfs93 := blk_frozen BK177.out 3
    have hns93_0 := NB142_177.out
    have hns93_1 := NB143_177.out
    have hns93_2 := NB161_177.out
    have hms93_0 := NB177_142.out
    have hms93_1 := NB177_143.out
    have hms93_2 := NB177_161.out
    have hs94 : w89.cell? ⟨gb177, 4, none⟩ = some (.string (⟨#[]⟩ : ByteArray)) := (blk_cell BK177.out 4).trans rfl
    have hfs94 := blk_frozen BK177.out 4
    have hns94_0 := NB142_177.out
    have hns94_1 := NB143_177.out
    have hns94_2 := NB161_177.out
    have hms94_0 := NB177_142.out
    have hms94_1 := NB177_143.out
    have hms94_2 := NB177_161.out
    refine skip_ (w1 := ?_) (by rfl) rfl ?_ ?_
    rotate_left
    ·go_simp
     rfl
    refine hK.out _ _ ⟨((cell_far (p := ⟨gb177, _, none⟩) NB142_177.out _).trans (((cell_far (p := ⟨gb177, _, none⟩) NB142_177.out _).trans (((cell_far (p := ⟨gb177, _, none⟩) NB142_177.out _).trans (((cell_far (p := ⟨gb177, _, none⟩) NB142_177.out _).trans (((cell_far (p := ⟨gb177, _, none⟩) NB142_177.out _).trans (hHeld.1)))))))))), ((cell_far (p := ⟨gb177, _, none⟩) NB142_177.out _).trans (((cell_far (p := ⟨gb177, _, none⟩) NB142_177.out _).trans (((cell_far (p := ⟨gb177, _, none⟩) NB142_177.out _).trans (((cell_far (p := ⟨gb177, _, none⟩) NB142_177.out _).trans (((cell_far (p := ⟨gb177, _, none⟩) NB142_177.out _).trans (hHeld.2.1)))))))))), ((cell_far (p := ⟨gb177, _, none⟩) NB142_177.out _).trans (((cell_far (p := ⟨gb177, _, none⟩) NB142_177.out _).trans (((cell_far (p := ⟨gb177, _, none⟩) NB142_177.out _).trans (((cell_far (p := ⟨gb177, _, none⟩) NB142_177.out _).trans (((cell_far (p := ⟨gb177, _, none⟩) NB142_177.out _).trans (hHeld.2.2.1)))))))))), ((cell_far (p := ⟨gb177, _, none⟩) NB142_177.out _).trans (((cell_far (p := ⟨gb177, _, none⟩) NB142_177.out _).trans (((cell_far (p := ⟨gb177, _, none⟩) NB142_177.out _).trans (((cell_far (p := ⟨gb177, _, none⟩) NB142_177.out _).trans (((cell_far (p := ⟨gb177, _, none⟩) NB142_177.out _).trans (hHeld.2.2.2.1)))))))))), ((cell_far (p := ⟨gb177, _, none⟩) NB142_177.out _).trans (((cell_far (p := ⟨gb177, _, none⟩) NB142_177.out _).trans (((cell_far (p := ⟨gb177, _, none⟩) NB142_177.out _).trans (((cell_far (p := ⟨gb177, _, none⟩) NB142_177.out _).trans (((cell_far (p := ⟨gb177, _, none⟩) NB142_177.out _).trans (hHeld.2.2.2.2.1)))))))))), ((cell_far (p := ⟨gb177, _, none⟩) NB143_177.out _).trans (((cell_far (p := ⟨gb177, _, none⟩) NB143_177.out _).trans (((cell_far (p := ⟨gb177, _, none⟩) NB143_177.out _).trans (((cell_far (p := ⟨gb177, _, none⟩) NB143_177.out _).trans (((cell_far (p := ⟨gb177, _, none⟩) NB143_177.out _).trans (hHeld.2.2.2.2.2.1)))))))))), ((cell_far (p := ⟨gb177, _, none⟩) NB143_177.out _).trans (((cell_far (p := ⟨gb177, _, none⟩) NB143_177.out _).trans (((cell_far (p := ⟨gb177, _, none⟩) NB143_177.out _).trans (((cell_far (p := ⟨gb177, _, none⟩) NB143_177.out _).trans (((cell_far (p := ⟨gb177, _, none⟩) NB143_177.out _).trans (hHeld.2.2.2.2.2.2.1)))))))))), ((cell_far (p := ⟨gb177, _, none⟩) NB143_177.out _).trans (((cell_far (p := ⟨gb177, _, none⟩) NB143_177.out _).trans (((cell_far (p := ⟨gb177, _, none⟩) NB143_177.out _).trans (((cell_far (p := ⟨gb177, _, none⟩) NB143_177.out _).trans (((cell_far (p := ⟨gb177, _, none⟩) NB143_177.out _).trans (hHeld.2.2.2.2.2.2.2.1)))))))))), ((cell_far (p := ⟨gb177, _, none⟩) NB143_177.out _).trans (((cell_far (p := ⟨gb177, _, none⟩) NB143_177.out _).trans (((cell_far (p := ⟨gb177, _, none⟩) NB143_177.out _).trans (((cell_far (p := ⟨gb177, _, none⟩) NB143_177.out _).trans (((cell_far (p := ⟨gb177, _, none⟩) NB143_177.out _).trans (hHeld.2.2.2.2.2.2.2.2.1)))))))))), ((cell_far (p := ⟨gb177, _, none⟩) NB143_177.out _).trans (((cell_far (p := ⟨gb177, _, none⟩) NB143_177.out _).trans (((cell_far (p := ⟨gb177, _, none⟩) NB143_177.out _).trans (((cell_far (p := ⟨gb177, _, none⟩) NB143_177.out _).trans (((cell_far (p := ⟨gb177, _, none⟩) NB143_177.out _).trans (hHeld.2.2.2.2.2.2.2.2.2))))))))))⟩ (fun hHeld => ?_)
    clear hK K
    refine done_ (by kernel_rfl) ?_
    have hnb95 := NB177_142.out
    have hnc95 := NB142_177.out
    have hnb96 := NB177_143.out
    have hnc96 := NB143_177.out
    have hnb97 := NB177_161.out
    have hnc97 := NB161_177.out
    have hcz98_0 : w89.cell? ⟨gb177, 0, none⟩ = some (.int .i64 0) := (blk_cell BK177.out 0).trans rfl
    have hcz98_1 : w89.cell? ⟨gb177, 1, none⟩ = some (.int .i64 0) := (blk_cell BK177.out 1).trans rfl
    have hcz98_2 : w89.cell? ⟨gb177, 2, none⟩ = some (.int .i64 0) := (blk_cell BK177.out 2).trans rfl
    have hcz98_3 : w89.cell? ⟨gb177, 3, none⟩ = some (.int .i64 0) := (blk_cell BK177.out 3).trans rfl
    have hcz98_4 : w89.cell? ⟨gb177, 4, none⟩ = some (.string (⟨#[]⟩ : ByteArray)) := (blk_cell BK177.out 4).trans rfl
    have hfz98_0 := blk_frozen BK177.out 0
    have hfz98_1 := blk_frozen BK177.out 1
    have hfz98_2 := blk_frozen BK177.out 2
    have hfz98_3 := blk_frozen BK177.out 3
    have hfz98_4 := blk_frozen BK177.out 4
    have hnb99 := NB161_142.out
    have hnc99 := NB142_161.out
    have hnb100 := NB161_143.out
    have hnc100 := NB143_161.out
    have hcz101_0 : w89.cell? ⟨gb161, 0, none⟩ = some (.int .i64 t156) := (blk_cell BK161.out 0).trans rfl
    have hcz101_1 : w89.cell? ⟨gb161, 1, none⟩ = some (.int .i64 t157) := (blk_cell BK161.out 1).trans rfl
    have hcz101_2 : w89.cell? ⟨gb161, 2, none⟩ = some (.int .i64 t158) := (blk_cell BK161.out 2).trans rfl
    have hcz101_3 : w89.cell? ⟨gb161, 3, none⟩ = some (.int .i64 t159) := (blk_cell BK161.out 3).trans rfl
    have hcz101_4 : w89.cell? ⟨gb161, 4, none⟩ = some (.string t160) := (blk_cell BK161.out 4).trans rfl
    have hfz101_0 := blk_frozen BK161.out 0
    have hfz101_1 := blk_frozen BK161.out 1
    have hfz101_2 := blk_frozen BK161.out 2
    have hfz101_3 := blk_frozen BK161.out 3
    have hfz101_4 := blk_frozen BK161.out 4
    try go_wp2_with (first | ((with_reducible refine gate_callee (f := 19) rfl ?_); refine zg (some 30) #[.agg #[.int .i64 t172, .int .i64 t173, .int .i64 t174, .int .i64 t175, .string t176], .agg #[.int .i64 t156, .int .i64 t157, .int .i64 t158, .int .i64 t159, .string t160]] Try.func19 ?_; (with_reducible refine (laws_eqEntry.calls t172 t173 t174 t175 t176 t156 t157 t158 t159 t160 false _ A25.out).mono ?_); rintro e w102 ⟨rfl, hb⟩; refine ⟨_, rfl, ?_⟩; replace BK142 := zm (blk_below (g := gb142) (o := .cells #[.int .i64 a0_0, .int .i64 a0_1, .int .i64 a0_2, .int .i64 a0_3, .string a0_4] 23 (0, 0)) (zfar (zfar (zfar (zfar (zfar (zb BK142) NB142_177) NB142_177) NB142_177) NB142_177) NB142_177) hb); replace BK143 := zm (blk_below (g := gb143) (o := .cells #[.int .i64 a1_0, .int .i64 a1_1, .int .i64 a1_2, .int .i64 a1_3, .string a1_4] 23 (0, 0)) (zfar (zfar (zfar (zfar (zfar (zb BK143) NB143_177) NB143_177) NB143_177) NB143_177) NB143_177) hb); replace BK161 := zm (blk_below (g := gb161) (o := .cells #[.int .i64 t156, .int .i64 t157, .int .i64 t158, .int .i64 t159, .string t160] 25 (0, 0)) (zfar (zfar (zfar (zfar (zfar (zb BK161) NB161_177) NB161_177) NB161_177) NB161_177) NB161_177) hb); replace BK177 := zm (blk_below (g := gb177) (o := .cells #[.int .i64 t172, .int .i64 t173, .int .i64 t174, .int .i64 t175, .string t176] 25 (0, 0)) (zput (zput (zput (zput (zput (zb BK177) 0) 1) 2) 3) 4) hb); replace HB := zm (below_step zB hb); clear hb))
    go_ret
    exact ⟨zE, zB⟩

def laws_FnExactEntryMax.Pure : Prop := ∀ (a0_0 : Int) (a0_1 : Int) (a0_2 : Int) (a0_3 : Int) (a0_4 : ByteArray) (a1_0 : Int) (a1_1 : Int) (a1_2 : Int) (a1_3 : Int) (a1_4 : ByteArray), (Lit.int .i64 a0_0).wf = true → (Lit.int .i64 a0_1).wf = true → (Lit.int .i64 a0_2).wf = true → (Lit.int .i64 a0_3).wf = true → a0_4.size ≤ 140737488351232 → (Lit.int .i64 a1_0).wf = true → (Lit.int .i64 a1_1).wf = true → (Lit.int .i64 a1_2).wf = true → (Lit.int .i64 a1_3).wf = true → a1_4.size ≤ 140737488351232 → ∃ k, laws_FnExactEntryMax.f k a0_0 a0_1 a0_2 a0_3 a0_4 a1_0 a1_1 a1_2 a1_3 a1_4 = some true

end Go.Proofs.Ythljdiniccpobaa.P
