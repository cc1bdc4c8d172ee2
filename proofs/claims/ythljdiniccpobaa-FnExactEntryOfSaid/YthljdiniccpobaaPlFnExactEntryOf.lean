-- by a program of this session, for this seat
import Derived.Test.YthljdiniccpobaaZ
import Derived.Test.YthljdiniccpobaaP0
import Derived.Test.YthljdiniccpobaaPab
import Derived.Test.YthljdiniccpobaaPac
import Derived.Test.YthljdiniccpobaaPad
namespace Go.Proofs.Ythljdiniccpobaa.P
open Go.RowKit Go.Proofs.YthljdiniccpobaaW.PrintWords Go.Proofs.YthljdiniccpobaaW.PrintLast Go.Proofs.YthljdiniccpobaaW.PrintMore Go.Proofs.Ythljdiniccpobaa.Z
attribute [local go_sem] max2_int min2_int max_two min_two max_three min_three max_four min_four   -- for this text's walks alone
set_option linter.unusedVariables false
set_option linter.unusedSimpArgs false

/-! ### laws_FnExactEntryOf: function 6 -/
def laws_FnExactEntryOf.j0 : Nat → Bool → List (S105) → List (S108) → List (S84) → List (S89) → Option (Bool)
 | 0, _, _, _, _, _ => none
 | k + 1, x39, x248000, x248001, x269000, x269001 => if x39 = true then (some false) else ((laws_toState.f k x248000 x248001).bind fun bt277 => ((laws_eqState.f k x269000 x269001 bt277.1 bt277.2).bind fun t283 => (if t283 = true then (some true) else (some false))))
def laws_FnExactEntryOf.f (k : Nat) (l0_0 : List (S105)) (l0_1 : List (S108)) (a1 : Int) : Option (Bool) := (laws_szState.f k l0_0 l0_1 1048576).bind fun t248 => (if t248 < 0 then (some true) else ((laws_toState.f k l0_0 l0_1).bind fun bt249 => ((spec_EntryOf.f k bt249.1 bt249.2 a1).bind fun bt255 => ((laws_toState.f k l0_0 l0_1).bind fun bt262 => ((impl_EntryOf.f k bt262.1 bt262.2 a1).bind fun bt269 => ((laws_eqEntry.f bt269.1 bt269.2.1 bt269.2.2.1 bt269.2.2.2.1 bt269.2.2.2.2.1 bt255.1 bt255.2.1 bt255.2.2.1 bt255.2.2.2.1 bt255.2.2.2.2.1).bind fun t276 => (if t276 = true then (laws_FnExactEntryOf.j0 k (bt269.2.2.2.2.2 != bt255.2.2.2.2.2) l0_0 l0_1 bt262.1 bt262.2) else (laws_FnExactEntryOf.j0 k true l0_0 l0_1 bt262.1 bt262.2))))))))
theorem laws_FnExactEntryOf.mono_l : ∀ k, (∀ y0 y1 y2 y3 y4, LeO (laws_FnExactEntryOf.j0 k y0 y1 y2 y3 y4) (laws_FnExactEntryOf.j0 (k + 1) y0 y1 y2 y3 y4))
 | 0 => fun _ _ _ _ _ r h => by simp [laws_FnExactEntryOf.j0] at h
 | k + 1 => by
  have ih0 := laws_FnExactEntryOf.mono_l k
  ·intro y0 y1 y2 y3 y4
   unfold laws_FnExactEntryOf.j0
   repeat' first
   | (with_reducible exact ih0 _ _ _ _ _)
   | (with_reducible exact impl_EntryOf.mono _ _ _ _)
   | (with_reducible exact laws_eqState.mono _ _ _ _ _)
   | (with_reducible exact laws_szState.mono _ _ _ _)
   | (with_reducible exact laws_toState.mono _ _ _)
   | (with_reducible exact spec_EntryOf.mono _ _ _ _)
   | (with_reducible exact LeO.refl _)
   | (with_reducible exact LeO.none _)
   | (with_reducible refine LeO.ite ?_ ?_)
   | (with_reducible refine LeO.bind ?_ (fun _ => ?_))
   | exact ih0 _ _ _ _ _
   | exact impl_EntryOf.mono _ _ _ _
   | exact laws_eqState.mono _ _ _ _ _
   | exact laws_szState.mono _ _ _ _
   | exact laws_toState.mono _ _ _
   | exact spec_EntryOf.mono _ _ _ _
   | exact LeO.none _
   | refine LeO.ite ?_ ?_
   | refine LeO.bind ?_ (fun _ => ?_)
theorem laws_FnExactEntryOf.mono : ∀ a0 a1 a2 k, LeO (laws_FnExactEntryOf.f k a0 a1 a2) (laws_FnExactEntryOf.f (k + 1) a0 a1 a2) := by
 intro a0 a1 a2 k
 have ih0 := laws_FnExactEntryOf.mono_l k
 unfold laws_FnExactEntryOf.f
 repeat' first
   | (with_reducible exact ih0 _ _ _ _ _)
   | (with_reducible exact impl_EntryOf.mono _ _ _ _)
   | (with_reducible exact laws_eqState.mono _ _ _ _ _)
   | (with_reducible exact laws_szState.mono _ _ _ _)
   | (with_reducible exact laws_toState.mono _ _ _)
   | (with_reducible exact spec_EntryOf.mono _ _ _ _)
   | (with_reducible exact LeO.refl _)
   | (with_reducible exact LeO.none _)
   | (with_reducible refine LeO.ite ?_ ?_)
   | (with_reducible refine LeO.bind ?_ (fun _ => ?_))
   | exact ih0 _ _ _ _ _
   | exact impl_EntryOf.mono _ _ _ _
   | exact laws_eqState.mono _ _ _ _ _
   | exact laws_szState.mono _ _ _ _
   | exact laws_toState.mono _ _ _
   | exact spec_EntryOf.mono _ _ _ _
   | exact LeO.none _
   | refine LeO.ite ?_ ?_
   | refine LeO.bind ?_ (fun _ => ?_)
set_option maxHeartbeats 8000000 in
set_option maxRecDepth 100000 in
theorem laws_FnExactEntryOf.calls (k : Nat) (A0_0 : Option Addr) (c0_0 : Nat) (l0_0 : List (S105)) (A0_1 : Option Addr) (c0_1 : Nat) (l0_1 : List (S108)) (a1 : Int) (r : Bool) (w : World) (hr0_0 : Kd.C k105 w A0_0 l0_0.length l0_0) (hc0_0 : l0_0.length ≤ c0_0) (hr0_1 : Kd.C k108 w A0_1 l0_1.length l0_1) (hc0_1 : l0_1.length ≤ c0_1) (h : laws_FnExactEntryOf.f k l0_0 l0_1 a1 = some r) :
  Calls Try.prog 6 #[.agg #[.slice A0_0 l0_0.length c0_0, .slice A0_1 l0_1.length c0_1], .int .i64 a1] w fun e w' => e = .returned (.bool r) ∧ Below w.heap.size w w' := by
 have hu48 := Try.underlying48
 have hu25 := Try.underlying25
 have hu55 := Try.underlying55
 have HR0_0 := zm hr0_0
 have HC0_0 := zm hc0_0
 clear hr0_0 hc0_0
 have HR0_1 := zm hr0_1
 have HC0_1 := zm hc0_1
 clear hr0_1 hc0_1
 have HB := zm (Below.refl w.heap.size w)
 have H : ((laws_szState.f k l0_0 l0_1 1048576).bind fun t248 => (if t248 < 0 then (some true) else ((laws_toState.f k l0_0 l0_1).bind fun bt249 => ((spec_EntryOf.f k bt249.1 bt249.2 a1).bind fun bt255 => ((laws_toState.f k l0_0 l0_1).bind fun bt262 => ((impl_EntryOf.f k bt262.1 bt262.2 a1).bind fun bt269 => ((laws_eqEntry.f bt269.1 bt269.2.1 bt269.2.2.1 bt269.2.2.2.1 bt269.2.2.2.2.1 bt255.1 bt255.2.1 bt255.2.2.1 bt255.2.2.2.1 bt255.2.2.2.2.1).bind fun t276 => (if t276 = true then (laws_FnExactEntryOf.j0 k (bt269.2.2.2.2.2 != bt255.2.2.2.2.2) l0_0 l0_1 bt262.1 bt262.2) else (laws_FnExactEntryOf.j0 k true l0_0 l0_1 bt262.1 bt262.2))))))))) = some r := h
 clear h
 replace H := Option.bind_eq_some_iff.mp H
 obtain ⟨t248, A30, H⟩ := H
 replace H : (if t248 < 0 then (some true) else ((laws_toState.f k l0_0 l0_1).bind fun bt249 => ((spec_EntryOf.f k bt249.1 bt249.2 a1).bind fun bt255 => ((laws_toState.f k l0_0 l0_1).bind fun bt262 => ((impl_EntryOf.f k bt262.1 bt262.2 a1).bind fun bt269 => ((laws_eqEntry.f bt269.1 bt269.2.1 bt269.2.2.1 bt269.2.2.2.1 bt269.2.2.2.2.1 bt255.1 bt255.2.1 bt255.2.2.1 bt255.2.2.2.1 bt255.2.2.2.2.1).bind fun t276 => (if t276 = true then (laws_FnExactEntryOf.j0 k (bt269.2.2.2.2.2 != bt255.2.2.2.2.2) l0_0 l0_1 bt262.1 bt262.2) else (laws_FnExactEntryOf.j0 k true l0_0 l0_1 bt262.1 bt262.2)))))))) = some r := H
 have A3 := zm A30
 clear A30
 by_cases c4 : t248 < 0
 ·rw [if_pos c4] at H
  have c4b0 : decide (t248 < 0) = true := decide_eq_true c4
  clear c4
  obtain rfl := Option.some.inj H
  go_enter Try.func6, Try.ntmps6
  go_wp2_with (first | ((with_reducible refine gate_dst (N := 2) rfl ?_); refine zbox 2 #[.slice A0_0 l0_0.length c0_0, .slice A0_1 l0_1.length c0_1] 48 ?_; intro gb247 hg w5 hbox hb; have BK247 := zm (hbox); have GW247 := zge w hg zB; have GE247 := zge w hg zB; replace HB := zm (below_step zB hb); clear hb hbox hg; have hcz6_0 : w5.cell? ⟨gb247, 0, none⟩ = some (.slice A0_0 l0_0.length c0_0) := (blk_cell BK247.out 0).trans rfl; have hcz6_1 : w5.cell? ⟨gb247, 1, none⟩ = some (.slice A0_1 l0_1.length c0_1) := (blk_cell BK247.out 1).trans rfl; have hfz6_0 := blk_frozen BK247.out 0; have hfz6_1 := blk_frozen BK247.out 1) | ((with_reducible refine gate_callee (f := 35) rfl ?_); refine zg (some 13) #[.agg #[.slice A0_0 l0_0.length c0_0, .slice A0_1 l0_1.length c0_1], .int .i64 1048576] Try.func35 ?_; (with_reducible refine (laws_szState.calls k _ _ l0_0 _ _ l0_1 1048576 t248 _ (zk (Kd.C_below HR0_0.out HB.out)) HC0_0.out (zk (Kd.C_below HR0_1.out HB.out)) HC0_1.out A3.out).mono ?_); rintro e w7 ⟨rfl, hb⟩; refine ⟨_, rfl, ?_⟩; replace BK247 := zm (blk_below (zb BK247) hb); replace HB := zm (below_step zB hb); clear hb))
  go_ret
  exact ⟨zE, zB⟩
 ·rw [if_neg c4] at H
  have c4b0 : decide (t248 < 0) = false := decide_eq_false c4
  clear c4
  replace H := Option.bind_eq_some_iff.mp H
  obtain ⟨⟨t249, t252⟩, A80, H⟩ := H
  replace H : ((spec_EntryOf.f k t249 t252 a1).bind fun bt255 => ((laws_toState.f k l0_0 l0_1).bind fun bt262 => ((impl_EntryOf.f k bt262.1 bt262.2 a1).bind fun bt269 => ((laws_eqEntry.f bt269.1 bt269.2.1 bt269.2.2.1 bt269.2.2.2.1 bt269.2.2.2.2.1 bt255.1 bt255.2.1 bt255.2.2.1 bt255.2.2.2.1 bt255.2.2.2.2.1).bind fun t276 => (if t276 = true then (laws_FnExactEntryOf.j0 k (bt269.2.2.2.2.2 != bt255.2.2.2.2.2) l0_0 l0_1 bt262.1 bt262.2) else (laws_FnExactEntryOf.j0 k true l0_0 l0_1 bt262.1 bt262.2)))))) = some r := H
  have A8 := zm A80
  clear A80
  replace H := Option.bind_eq_some_iff.mp H
  obtain ⟨⟨t255, t256, t257, t258, t259, t260⟩, A90, H⟩ := H
  replace H : ((laws_toState.f k l0_0 l0_1).bind fun bt262 => ((impl_EntryOf.f k bt262.1 bt262.2 a1).bind fun bt269 => ((laws_eqEntry.f bt269.1 bt269.2.1 bt269.2.2.1 bt269.2.2.2.1 bt269.2.2.2.2.1 t255 t256 t257 t258 t259).bind fun t276 => (if t276 = true then (laws_FnExactEntryOf.j0 k (bt269.2.2.2.2.2 != t260) l0_0 l0_1 bt262.1 bt262.2) else (laws_FnExactEntryOf.j0 k true l0_0 l0_1 bt262.1 bt262.2))))) = some r := H
  have A9 := zm A90
  clear A90
  replace H := Option.bind_eq_some_iff.mp H
  obtain ⟨⟨t262, t265⟩, A100, H⟩ := H
  replace H : ((impl_EntryOf.f k t262 t265 a1).bind fun bt269 => ((laws_eqEntry.f bt269.1 bt269.2.1 bt269.2.2.1 bt269.2.2.2.1 bt269.2.2.2.2.1 t255 t256 t257 t258 t259).bind fun t276 => (if t276 = true then (laws_FnExactEntryOf.j0 k (bt269.2.2.2.2.2 != t260) l0_0 l0_1 t262 t265) else (laws_FnExactEntryOf.j0 k true l0_0 l0_1 t262 t265)))) = some r := H
  have A10 := zm A100
  clear A100
  replace H := Option.bind_eq_some_iff.mp H
  obtain ⟨⟨t269, t270, t271, t272, t273, t274⟩, A110, H⟩ := H
  replace H : ((laws_eqEntry.f t269 t270 t271 t272 t273 t255 t256 t257 t258 t259).bind fun t276 => (if t276 = true then (laws_FnExactEntryOf.j0 k (t274 != t260) l0_0 l0_1 t262 t265) else (laws_FnExactEntryOf.j0 k true l0_0 l0_1 t262 t265))) = some r := H
  have A11 := zm A110
  clear A110
  have HC12 := zm H
  clear H
  go_enter Try.func6, Try.ntmps6
  go_upto_region 8 with (first | ((with_reducible refine gate_dst (N := 2) rfl ?_); refine zbox 2 #[.slice A0_0 l0_0.length c0_0, .slice A0_1 l0_1.length c0_1] 48 ?_; intro gb247 hg w13 hbox hb; have BK247 := zm (hbox); have GW247 := zge w hg zB; have GE247 := zge w hg zB; replace HB := zm (below_step zB hb); clear hb hbox hg; have hcz14_0 : w13.cell? ⟨gb247, 0, none⟩ = some (.slice A0_0 l0_0.length c0_0) := (blk_cell BK247.out 0).trans rfl; have hcz14_1 : w13.cell? ⟨gb247, 1, none⟩ = some (.slice A0_1 l0_1.length c0_1) := (blk_cell BK247.out 1).trans rfl; have hfz14_0 := blk_frozen BK247.out 0; have hfz14_1 := blk_frozen BK247.out 1) | ((with_reducible refine gate_callee (f := 35) rfl ?_); refine zg (some 13) #[.agg #[.slice A0_0 l0_0.length c0_0, .slice A0_1 l0_1.length c0_1], .int .i64 1048576] Try.func35 ?_; (with_reducible refine (laws_szState.calls k _ _ l0_0 _ _ l0_1 1048576 t248 _ (zk (Kd.C_below HR0_0.out HB.out)) HC0_0.out (zk (Kd.C_below HR0_1.out HB.out)) HC0_1.out A3.out).mono ?_); rintro e w15 ⟨rfl, hb⟩; refine ⟨_, rfl, ?_⟩; replace BK247 := zm (blk_below (zb BK247) hb); replace HB := zm (below_step zB hb); clear hb; have hcz16_0 : w15.cell? ⟨gb247, 0, none⟩ = some (.slice A0_0 l0_0.length c0_0) := (blk_cell BK247.out 0).trans rfl; have hcz16_1 : w15.cell? ⟨gb247, 1, none⟩ = some (.slice A0_1 l0_1.length c0_1) := (blk_cell BK247.out 1).trans rfl; have hfz16_0 := blk_frozen BK247.out 0; have hfz16_1 := blk_frozen BK247.out 1) | ((with_reducible refine gate_callee (f := 37) rfl ?_); refine zg (some 18) #[.agg #[.slice A0_0 l0_0.length c0_0, .slice A0_1 l0_1.length c0_1]] Try.func37 ?_; (with_reducible refine (laws_toState.calls k _ _ l0_0 _ _ l0_1 t249 t252 _ (zk (Kd.C_below HR0_0.out HB.out)) HC0_0.out (zk (Kd.C_below HR0_1.out HB.out)) HC0_1.out A8.out).mono ?_); rintro e w17 ⟨v250, v253, rfl, ho0, ho1, hb⟩; refine ⟨_, rfl, ?_⟩; have HO251 := zm (Kd.R_lower ho0 (below_size zB)); have HO254 := zm (Kd.R_lower ho1 (below_size zB)); replace BK247 := zm (blk_below (zb BK247) hb); replace HB := zm (below_step zB hb); clear hb ho0 ho1; obtain ⟨Ao18, co18, eo18⟩ := Kd.R_slice HO251.out; subst eo18; obtain ⟨Ao19, co19, eo19⟩ := Kd.R_slice HO254.out; subst eo19) | ((with_reducible refine gate_callee (f := 36) rfl ?_); refine zg (some 20) #[.agg #[.slice Ao18 t249.length co18, .slice Ao19 t252.length co19], .int .i64 a1] Try.func36 ?_; (with_reducible refine (spec_EntryOf.calls k _ _ t249 _ _ t252 a1 t255 t256 t257 t258 t259 t260 _ ?side1 ?side2 ?side3 ?side4 A9.out).mono ?_); (case side1 => repeat (first | exact (Kd.R_reads' HO251.out).2.2 | (with_reducible refine Kd.C_alloc ?_ _) | (with_reducible refine Kd.C_drewN ?_ _) | (with_reducible refine Kd.C_drew ?_))); (case side2 => exact (Kd.R_reads' HO251.out).2.1); (case side3 => repeat (first | exact (Kd.R_reads' HO254.out).2.2 | (with_reducible refine Kd.C_alloc ?_ _) | (with_reducible refine Kd.C_drewN ?_ _) | (with_reducible refine Kd.C_drew ?_))); (case side4 => exact (Kd.R_reads' HO254.out).2.1); rintro e w20 ⟨rfl, hb⟩; refine ⟨_, rfl, ?_⟩; replace HO251 := zm (Kd.R_below (zr HO251) hb); replace HO254 := zm (Kd.R_below (zr HO254) hb); replace BK247 := zm (blk_below (zb BK247) hb); replace HB := zm (below_step zB hb); clear hb) | ((with_reducible refine gate_dst (N := 6) rfl ?_); refine zbox 6 #[.int .i64 0, .int .i64 0, .int .i64 0, .int .i64 0, .string (⟨#[]⟩ : ByteArray)] 25 ?_; intro gb261 hg w21 hbox hb; replace HO251 := zm (Kd.R_below (zr HO251) hb); replace HO254 := zm (Kd.R_below (zr HO254) hb); have BK261 := zm (hbox); have GW261 := zge w hg zB; have GE261 := zge w hg zB; replace HB := zm (below_step zB hb); have NB247_261 := zlt hg (zb BK247); have NB261_247 := zgt hg (zb BK247); replace BK247 := zm (blk_below (zb BK247) hb); clear hb hbox hg; have hnb22 := NB261_247.out; have hnc22 := NB247_261.out; have hcz23_0 : w21.cell? ⟨gb261, 0, none⟩ = some (.int .i64 0) := (blk_cell BK261.out 0).trans rfl; have hcz23_1 : w21.cell? ⟨gb261, 1, none⟩ = some (.int .i64 0) := (blk_cell BK261.out 1).trans rfl; have hcz23_2 : w21.cell? ⟨gb261, 2, none⟩ = some (.int .i64 0) := (blk_cell BK261.out 2).trans rfl; have hcz23_3 : w21.cell? ⟨gb261, 3, none⟩ = some (.int .i64 0) := (blk_cell BK261.out 3).trans rfl; have hcz23_4 : w21.cell? ⟨gb261, 4, none⟩ = some (.string (⟨#[]⟩ : ByteArray)) := (blk_cell BK261.out 4).trans rfl; have hfz23_0 := blk_frozen BK261.out 0; have hfz23_1 := blk_frozen BK261.out 1; have hfz23_2 := blk_frozen BK261.out 2; have hfz23_3 := blk_frozen BK261.out 3; have hfz23_4 := blk_frozen BK261.out 4; have hcz24_0 : w21.cell? ⟨gb247, 0, none⟩ = some (.slice A0_0 l0_0.length c0_0) := (blk_cell BK247.out 0).trans rfl; have hcz24_1 : w21.cell? ⟨gb247, 1, none⟩ = some (.slice A0_1 l0_1.length c0_1) := (blk_cell BK247.out 1).trans rfl; have hfz24_0 := blk_frozen BK247.out 0; have hfz24_1 := blk_frozen BK247.out 1) | ((with_reducible refine gate_callee (f := 37) rfl ?_); refine zg (some 24) #[.agg #[.slice A0_0 l0_0.length c0_0, .slice A0_1 l0_1.length c0_1]] Try.func37 ?_; (with_reducible refine (laws_toState.calls k _ _ l0_0 _ _ l0_1 t262 t265 _ ?side1 HC0_0.out ?side3 HC0_1.out A10.out).mono ?_); (case side1 => exact Kd.C_below HR0_0.out zB); (case side3 => exact Kd.C_below HR0_1.out zB); rintro e w25 ⟨v263, v266, rfl, ho0, ho1, hb⟩; refine ⟨_, rfl, ?_⟩; have HO264 := zm (Kd.R_lower (Kd.R_new' ho0 (Kd.R_lt (zrs <| (Kd.R_mono (zfr (zfr (zfr (zfr (zfr (Kd.R_types HO251.out BK261.out (by decide))))))) (fun _ h_ => h_.1))))) (below_size zB)); replace HO251 := zm (Kd.R_elder' (zrs <| (Kd.R_mono (zfr (zfr (zfr (zfr (zfr (Kd.R_types HO251.out BK261.out (by decide))))))) (fun _ h_ => h_.1))) (Kd.R_base ho0) hb); have HO267 := zm (Kd.R_lower (Kd.R_new' ho1 (Kd.R_lt (zrs <| (Kd.R_mono (zfr (zfr (zfr (zfr (zfr (Kd.R_types HO254.out BK261.out (by decide))))))) (fun _ h_ => h_.1))))) (below_size zB)); replace HO254 := zm (Kd.R_elder' (zrs <| (Kd.R_mono (zfr (zfr (zfr (zfr (zfr (Kd.R_types HO254.out BK261.out (by decide))))))) (fun _ h_ => h_.1))) (Kd.R_base ho1) hb); replace BK247 := zm (blk_below (g := gb247) (o := .cells #[.slice A0_0 l0_0.length c0_0, .slice A0_1 l0_1.length c0_1] 48 (0, 0)) (zfar (zfar (zfar (zfar (zfar (zb BK247) NB247_261) NB247_261) NB247_261) NB247_261) NB247_261) hb); replace BK261 := zm (blk_below (g := gb261) (o := .cells #[.int .i64 t255, .int .i64 t256, .int .i64 t257, .int .i64 t258, .string t259] 25 (0, 0)) (zput (zput (zput (zput (zput (zb BK261) 0) 1) 2) 3) 4) hb); replace HB := zm (below_step zB hb); clear hb ho0 ho1) | ((with_reducible refine gate_dst (N := 8) rfl ?_); refine zbox 8 #[.slice none 0 0, .slice none 0 0] 55 ?_; intro gb268 hg w26 hbox hb; replace HO251 := zm (Kd.R_below (zr HO251) hb); replace HO254 := zm (Kd.R_below (zr HO254) hb); replace HO264 := zm (Kd.R_below (zr HO264) hb); replace HO267 := zm (Kd.R_below (zr HO267) hb); have BK268 := zm (hbox); have GW268 := zge w hg zB; have GE268 := zge w hg zB; replace HB := zm (below_step zB hb); have NB247_268 := zlt hg (zb BK247); have NB268_247 := zgt hg (zb BK247); replace BK247 := zm (blk_below (zb BK247) hb); have NB261_268 := zlt hg (zb BK261); have NB268_261 := zgt hg (zb BK261); replace BK261 := zm (blk_below (zb BK261) hb); clear hb hbox hg; obtain ⟨Ao27, co27, eo27⟩ := Kd.R_slice HO264.out; subst eo27; have hnb28 := NB268_247.out; have hnc28 := NB247_268.out; have hnb29 := NB268_261.out; have hnc29 := NB261_268.out; have hcz30_0 : w26.cell? ⟨gb268, 0, none⟩ = some (.slice none 0 0) := (blk_cell BK268.out 0).trans rfl; have hcz30_1 : w26.cell? ⟨gb268, 1, none⟩ = some (.slice none 0 0) := (blk_cell BK268.out 1).trans rfl; have hfz30_0 := blk_frozen BK268.out 0; have hfz30_1 := blk_frozen BK268.out 1; obtain ⟨Ao31, co31, eo31⟩ := Kd.R_slice HO267.out; subst eo31) | ((with_reducible refine gate_callee (f := 38) rfl ?_); refine zg (some 28) #[.agg #[.slice Ao27 t262.length co27, .slice Ao31 t265.length co31], .int .i64 a1] Try.func38 ?_; (with_reducible refine (impl_EntryOf.calls k _ _ t262 _ _ t265 a1 t269 t270 t271 t272 t273 t274 _ ?side1 ?side2 ?side3 ?side4 A11.out).mono ?_); (case side1 => refine (Kd.R_reads' (e := 84) (base := w.heap.size) (ok := fun k_ => (True ∧ some k_ ≠ (.slice Ao18 t249.length co18 : Value).ownBlock)) (n := t262.length) (c := co27) ?_).2.2; exact (zrs <| (Kd.R_mono (zfr (zfr (Kd.R_types HO264.out BK268.out (by decide)))) (fun _ h_ => h_.1)))); (case side2 => exact (Kd.R_reads' HO264.out).2.1); (case side3 => refine (Kd.R_reads' (e := 89) (base := w.heap.size) (ok := fun k_ => (True ∧ some k_ ≠ (.slice Ao19 t252.length co19 : Value).ownBlock)) (n := t265.length) (c := co31) ?_).2.2; exact (zrs <| (Kd.R_mono (zfr (zfr (Kd.R_types HO267.out BK268.out (by decide)))) (fun _ h_ => h_.1)))); (case side4 => exact (Kd.R_reads' HO267.out).2.1); rintro e w32 ⟨rfl, hb⟩; refine ⟨_, rfl, ?_⟩; replace HO251 := zm (Kd.R_below (zrs <| (Kd.R_mono (zfr (zfr (Kd.R_types HO251.out BK268.out (by decide)))) (fun _ h_ => h_.1))) hb); replace HO254 := zm (Kd.R_below (zrs <| (Kd.R_mono (zfr (zfr (Kd.R_types HO254.out BK268.out (by decide)))) (fun _ h_ => h_.1))) hb); replace HO264 := zm (Kd.R_below (zrs <| (Kd.R_mono (zfr (zfr (Kd.R_types HO264.out BK268.out (by decide)))) (fun _ h_ => h_.1))) hb); replace HO267 := zm (Kd.R_below (zrs <| (Kd.R_mono (zfr (zfr (Kd.R_types HO267.out BK268.out (by decide)))) (fun _ h_ => h_.1))) hb); replace BK247 := zm (blk_below (g := gb247) (o := .cells #[.slice A0_0 l0_0.length c0_0, .slice A0_1 l0_1.length c0_1] 48 (0, 0)) (zfar (zfar (zb BK247) NB247_268) NB247_268) hb); replace BK261 := zm (blk_below (g := gb261) (o := .cells #[.int .i64 t255, .int .i64 t256, .int .i64 t257, .int .i64 t258, .string t259] 25 (0, 0)) (zfar (zfar (zb BK261) NB261_268) NB261_268) hb); replace BK268 := zm (blk_below (g := gb268) (o := .cells #[.slice Ao27 t262.length co27, .slice Ao31 t265.length co31] 55 (0, 0)) (zput (zput (zb BK268) 0) 1) hb); replace HB := zm (below_step zB hb); clear hb) | ((with_reducible refine gate_dst (N := 9) rfl ?_); refine zbox 9 #[.int .i64 0, .int .i64 0, .int .i64 0, .int .i64 0, .string (⟨#[]⟩ : ByteArray)] 25 ?_; intro gb275 hg w33 hbox hb; replace HO251 := zm (Kd.R_below (zr HO251) hb); replace HO254 := zm (Kd.R_below (zr HO254) hb); replace HO264 := zm (Kd.R_below (zr HO264) hb); replace HO267 := zm (Kd.R_below (zr HO267) hb); have BK275 := zm (hbox); have GW275 := zge w hg zB; have GE275 := zge w hg zB; replace HB := zm (below_step zB hb); have NB247_275 := zlt hg (zb BK247); have NB275_247 := zgt hg (zb BK247); replace BK247 := zm (blk_below (zb BK247) hb); have NB261_275 := zlt hg (zb BK261); have NB275_261 := zgt hg (zb BK261); replace BK261 := zm (blk_below (zb BK261) hb); have NB268_275 := zlt hg (zb BK268); have NB275_268 := zgt hg (zb BK268); replace BK268 := zm (blk_below (zb BK268) hb); clear hb hbox hg; have hnb34 := NB275_247.out; have hnc34 := NB247_275.out; have hnb35 := NB275_261.out; have hnc35 := NB261_275.out; have hnb36 := NB275_268.out; have hnc36 := NB268_275.out; have hcz37_0 : w33.cell? ⟨gb275, 0, none⟩ = some (.int .i64 0) := (blk_cell BK275.out 0).trans rfl; have hcz37_1 : w33.cell? ⟨gb275, 1, none⟩ = some (.int .i64 0) := (blk_cell BK275.out 1).trans rfl; have hcz37_2 : w33.cell? ⟨gb275, 2, none⟩ = some (.int .i64 0) := (blk_cell BK275.out 2).trans rfl; have hcz37_3 : w33.cell? ⟨gb275, 3, none⟩ = some (.int .i64 0) := (blk_cell BK275.out 3).trans rfl; have hcz37_4 : w33.cell? ⟨gb275, 4, none⟩ = some (.string (⟨#[]⟩ : ByteArray)) := (blk_cell BK275.out 4).trans rfl; have hfz37_0 := blk_frozen BK275.out 0; have hfz37_1 := blk_frozen BK275.out 1; have hfz37_2 := blk_frozen BK275.out 2; have hfz37_3 := blk_frozen BK275.out 3; have hfz37_4 := blk_frozen BK275.out 4))
  (try simp only [Act.put, List.setIfInBounds_toArray, List.set_cons_zero, List.set_cons_succ])
  go_cut [39] (fun v39 wc => ∃ (kq : Nat) (x39_11 : Bool), v39 = .bool x39_11 ∧ Aside0 (laws_FnExactEntryOf.j0 kq x39_11 l0_0 l0_1 t262 t265 = some r) ∧ Aside0 (kq ≤ k) ∧ Aside0 (Kd.R k84 84 wc w.heap.size (fun _ => True) (.slice Ao27 t262.length co27) t262) ∧ Aside0 (Kd.R k89 89 wc w.heap.size (fun _ => True) (.slice Ao31 t265.length co31) t265) ∧ Aside0 (wc.heap[gb247]? = some (.cells #[(.slice A0_0 l0_0.length c0_0), (.slice A0_1 l0_1.length c0_1)] 48 (0, 0))) ∧ Aside0 (wc.heap[gb261]? = some (.cells #[.int .i64 t255, .int .i64 t256, .int .i64 t257, .int .i64 t258, .string t259] 25 (0, 0))) ∧ Aside0 (wc.heap[gb268]? = some (.cells #[(.slice Ao27 t262.length co27), (.slice Ao31 t265.length co31)] 55 (0, 0))) ∧ Aside0 (wc.heap[gb275]? = some (.cells #[.int .i64 t269, .int .i64 t270, .int .i64 t271, .int .i64 t272, .string t273] 25 (0, 0))) ∧ Aside0 (Below w.heap.size w wc))
  case first =>
   have H := HC12.out
   clear HC12
   replace H := Option.bind_eq_some_iff.mp H
   obtain ⟨t276, A380, H⟩ := H
   replace H : (if t276 = true then (laws_FnExactEntryOf.j0 k (t274 != t260) l0_0 l0_1 t262 t265) else (laws_FnExactEntryOf.j0 k true l0_0 l0_1 t262 t265)) = some r := H
   have A38 := zm A380
   clear A380
   by_cases c39 : t276 = true
   ·subst c39
    have H1 : (laws_FnExactEntryOf.j0 k (t274 != t260) l0_0 l0_1 t262 t265) = some r := by rw [if_pos rfl] at H; exact H
    clear H
    have H := H1
    clear H1
    have H' := zm H
    clear H
    have hnb40 := NB275_247.out
    have hnc40 := NB247_275.out
    have hnb41 := NB275_261.out
    have hnc41 := NB261_275.out
    have hnb42 := NB275_268.out
    have hnc42 := NB268_275.out
    have hcz43_0 : w33.cell? ⟨gb275, 0, none⟩ = some (.int .i64 0) := (blk_cell BK275.out 0).trans rfl
    have hcz43_1 : w33.cell? ⟨gb275, 1, none⟩ = some (.int .i64 0) := (blk_cell BK275.out 1).trans rfl
    have hcz43_2 : w33.cell? ⟨gb275, 2, none⟩ = some (.int .i64 0) := (blk_cell BK275.out 2).trans rfl
    have hcz43_3 : w33.cell? ⟨gb275, 3, none⟩ = some (.int .i64 0) := (blk_cell BK275.out 3).trans rfl
    have hcz43_4 : w33.cell? ⟨gb275, 4, none⟩ = some (.string (⟨#[]⟩ : ByteArray)) := (blk_cell BK275.out 4).trans rfl
    have hfz43_0 := blk_frozen BK275.out 0
    have hfz43_1 := blk_frozen BK275.out 1
    have hfz43_2 := blk_frozen BK275.out 2
    have hfz43_3 := blk_frozen BK275.out 3
    have hfz43_4 := blk_frozen BK275.out 4
    have hnb44 := NB261_247.out
    have hnc44 := NB247_261.out
    have hnb45 := NB261_268.out
    have hnc45 := NB268_261.out
    have hcz46_0 : w33.cell? ⟨gb261, 0, none⟩ = some (.int .i64 t255) := (blk_cell BK261.out 0).trans rfl
    have hcz46_1 : w33.cell? ⟨gb261, 1, none⟩ = some (.int .i64 t256) := (blk_cell BK261.out 1).trans rfl
    have hcz46_2 : w33.cell? ⟨gb261, 2, none⟩ = some (.int .i64 t257) := (blk_cell BK261.out 2).trans rfl
    have hcz46_3 : w33.cell? ⟨gb261, 3, none⟩ = some (.int .i64 t258) := (blk_cell BK261.out 3).trans rfl
    have hcz46_4 : w33.cell? ⟨gb261, 4, none⟩ = some (.string t259) := (blk_cell BK261.out 4).trans rfl
    have hfz46_0 := blk_frozen BK261.out 0
    have hfz46_1 := blk_frozen BK261.out 1
    have hfz46_2 := blk_frozen BK261.out 2
    have hfz46_3 := blk_frozen BK261.out 3
    have hfz46_4 := blk_frozen BK261.out 4
    go_wp2_with (first | ((with_reducible refine gate_callee (f := 19) rfl ?_); refine zg (some 33) #[.agg #[.int .i64 t269, .int .i64 t270, .int .i64 t271, .int .i64 t272, .string t273], .agg #[.int .i64 t255, .int .i64 t256, .int .i64 t257, .int .i64 t258, .string t259]] Try.func19 ?_; (with_reducible refine (laws_eqEntry.calls t269 t270 t271 t272 t273 t255 t256 t257 t258 t259 true _ A38.out).mono ?_); rintro e w47 ⟨rfl, hb⟩; refine ⟨_, rfl, ?_⟩; replace HO251 := zm (Kd.R_below (zrs <| (Kd.R_mono (zfr (zfr (zfr (zfr (zfr (Kd.R_types HO251.out BK275.out (by decide))))))) (fun _ h_ => h_.1))) hb); replace HO254 := zm (Kd.R_below (zrs <| (Kd.R_mono (zfr (zfr (zfr (zfr (zfr (Kd.R_types HO254.out BK275.out (by decide))))))) (fun _ h_ => h_.1))) hb); replace HO264 := zm (Kd.R_below (zrs <| (Kd.R_mono (zfr (zfr (zfr (zfr (zfr (Kd.R_types HO264.out BK275.out (by decide))))))) (fun _ h_ => h_.1))) hb); replace HO267 := zm (Kd.R_below (zrs <| (Kd.R_mono (zfr (zfr (zfr (zfr (zfr (Kd.R_types HO267.out BK275.out (by decide))))))) (fun _ h_ => h_.1))) hb); replace BK247 := zm (blk_below (g := gb247) (o := .cells #[.slice A0_0 l0_0.length c0_0, .slice A0_1 l0_1.length c0_1] 48 (0, 0)) (zfar (zfar (zfar (zfar (zfar (zb BK247) NB247_275) NB247_275) NB247_275) NB247_275) NB247_275) hb); replace BK261 := zm (blk_below (g := gb261) (o := .cells #[.int .i64 t255, .int .i64 t256, .int .i64 t257, .int .i64 t258, .string t259] 25 (0, 0)) (zfar (zfar (zfar (zfar (zfar (zb BK261) NB261_275) NB261_275) NB261_275) NB261_275) NB261_275) hb); replace BK268 := zm (blk_below (g := gb268) (o := .cells #[.slice Ao27 t262.length co27, .slice Ao31 t265.length co31] 55 (0, 0)) (zfar (zfar (zfar (zfar (zfar (zb BK268) NB268_275) NB268_275) NB268_275) NB268_275) NB268_275) hb); replace BK275 := zm (blk_below (g := gb275) (o := .cells #[.int .i64 t269, .int .i64 t270, .int .i64 t271, .int .i64 t272, .string t273] 25 (0, 0)) (zput (zput (zput (zput (zput (zb BK275) 0) 1) 2) 3) 4) hb); replace HB := zm (below_step zB hb); clear hb))
    go_meet
    case rel => exact ⟨_, ((t274 != t260)), zF, H', ⟨by first | omega | exact Nat.le_refl _⟩, ⟨by (with_reducible repeat (first | apply Kd.R_alloc | apply Kd.R_drewN | apply Kd.R_drew)); exact Kd.R_mono HO264.out (fun _ hk => trivial)⟩, ⟨by (with_reducible repeat (first | apply Kd.R_alloc | apply Kd.R_drewN | apply Kd.R_drew)); exact Kd.R_mono HO267.out (fun _ hk => trivial)⟩, ⟨zb BK247⟩, ⟨zb BK261⟩, ⟨zb BK268⟩, ⟨zb BK275⟩, ⟨zB⟩⟩
   ·replace c39 := Bool.eq_false_iff.mpr c39
    subst c39
    have H1 : (laws_FnExactEntryOf.j0 k true l0_0 l0_1 t262 t265) = some r := by rw [if_neg (show ¬ (false = true) by decide)] at H; exact H
    clear H
    have H := H1
    clear H1
    have H' := zm H
    clear H
    have hnb48 := NB275_247.out
    have hnc48 := NB247_275.out
    have hnb49 := NB275_261.out
    have hnc49 := NB261_275.out
    have hnb50 := NB275_268.out
    have hnc50 := NB268_275.out
    have hcz51_0 : w33.cell? ⟨gb275, 0, none⟩ = some (.int .i64 0) := (blk_cell BK275.out 0).trans rfl
    have hcz51_1 : w33.cell? ⟨gb275, 1, none⟩ = some (.int .i64 0) := (blk_cell BK275.out 1).trans rfl
    have hcz51_2 : w33.cell? ⟨gb275, 2, none⟩ = some (.int .i64 0) := (blk_cell BK275.out 2).trans rfl
    have hcz51_3 : w33.cell? ⟨gb275, 3, none⟩ = some (.int .i64 0) := (blk_cell BK275.out 3).trans rfl
    have hcz51_4 : w33.cell? ⟨gb275, 4, none⟩ = some (.string (⟨#[]⟩ : ByteArray)) := (blk_cell BK275.out 4).trans rfl
    have hfz51_0 := blk_frozen BK275.out 0
    have hfz51_1 := blk_frozen BK275.out 1
    have hfz51_2 := blk_frozen BK275.out 2
    have hfz51_3 := blk_frozen BK275.out 3
    have hfz51_4 := blk_frozen BK275.out 4
    have hnb52 := NB261_247.out
    have hnc52 := NB247_261.out
    have hnb53 := NB261_268.out
    have hnc53 := NB268_261.out
    have hcz54_0 : w33.cell? ⟨gb261, 0, none⟩ = some (.int .i64 t255) := (blk_cell BK261.out 0).trans rfl
    have hcz54_1 : w33.cell? ⟨gb261, 1, none⟩ = some (.int .i64 t256) := (blk_cell BK261.out 1).trans rfl
    have hcz54_2 : w33.cell? ⟨gb261, 2, none⟩ = some (.int .i64 t257) := (blk_cell BK261.out 2).trans rfl
    have hcz54_3 : w33.cell? ⟨gb261, 3, none⟩ = some (.int .i64 t258) := (blk_cell BK261.out 3).trans rfl
    have hcz54_4 : w33.cell? ⟨gb261, 4, none⟩ = some (.string t259) := (blk_cell BK261.out 4).trans rfl
    have hfz54_0 := blk_frozen BK261.out 0
    have hfz54_1 := blk_frozen BK261.out 1
    have hfz54_2 := blk_frozen BK261.out 2
    have hfz54_3 := blk_frozen BK261.out 3
    have hfz54_4 := blk_frozen BK261.out 4
    go_wp2_with (first | ((with_reducible refine gate_callee (f := 19) rfl ?_); refine zg (some 33) #[.agg #[.int .i64 t269, .int .i64 t270, .int .i64 t271, .int .i64 t272, .string t273], .agg #[.int .i64 t255, .int .i64 t256, .int .i64 t257, .int .i64 t258, .string t259]] Try.func19 ?_; (with_reducible refine (laws_eqEntry.calls t269 t270 t271 t272 t273 t255 t256 t257 t258 t259 false _ A38.out).mono ?_); rintro e w55 ⟨rfl, hb⟩; refine ⟨_, rfl, ?_⟩; replace HO251 := zm (Kd.R_below (zrs <| (Kd.R_mono (zfr (zfr (zfr (zfr (zfr (Kd.R_types HO251.out BK275.out (by decide))))))) (fun _ h_ => h_.1))) hb); replace HO254 := zm (Kd.R_below (zrs <| (Kd.R_mono (zfr (zfr (zfr (zfr (zfr (Kd.R_types HO254.out BK275.out (by decide))))))) (fun _ h_ => h_.1))) hb); replace HO264 := zm (Kd.R_below (zrs <| (Kd.R_mono (zfr (zfr (zfr (zfr (zfr (Kd.R_types HO264.out BK275.out (by decide))))))) (fun _ h_ => h_.1))) hb); replace HO267 := zm (Kd.R_below (zrs <| (Kd.R_mono (zfr (zfr (zfr (zfr (zfr (Kd.R_types HO267.out BK275.out (by decide))))))) (fun _ h_ => h_.1))) hb); replace BK247 := zm (blk_below (g := gb247) (o := .cells #[.slice A0_0 l0_0.length c0_0, .slice A0_1 l0_1.length c0_1] 48 (0, 0)) (zfar (zfar (zfar (zfar (zfar (zb BK247) NB247_275) NB247_275) NB247_275) NB247_275) NB247_275) hb); replace BK261 := zm (blk_below (g := gb261) (o := .cells #[.int .i64 t255, .int .i64 t256, .int .i64 t257, .int .i64 t258, .string t259] 25 (0, 0)) (zfar (zfar (zfar (zfar (zfar (zb BK261) NB261_275) NB261_275) NB261_275) NB261_275) NB261_275) hb); replace BK268 := zm (blk_below (g := gb268) (o := .cells #[.slice Ao27 t262.length co27, .slice Ao31 t265.length co31] 55 (0, 0)) (zfar (zfar (zfar (zfar (zfar (zb BK268) NB268_275) NB268_275) NB268_275) NB268_275) NB268_275) hb); replace BK275 := zm (blk_below (g := gb275) (o := .cells #[.int .i64 t269, .int .i64 t270, .int .i64 t271, .int .i64 t272, .string t273] 25 (0, 0)) (zput (zput (zput (zput (zput (zb BK275) 0) 1) 2) 3) 4) hb); replace HB := zm (below_step zB hb); clear hb))
    go_meet
    case rel => exact ⟨_, (true), zF, H', ⟨by first | omega | exact Nat.le_refl _⟩, ⟨by (with_reducible repeat (first | apply Kd.R_alloc | apply Kd.R_drewN | apply Kd.R_drew)); exact Kd.R_mono HO264.out (fun _ hk => trivial)⟩, ⟨by (with_reducible repeat (first | apply Kd.R_alloc | apply Kd.R_drewN | apply Kd.R_drew)); exact Kd.R_mono HO267.out (fun _ hk => trivial)⟩, ⟨zb BK247⟩, ⟨zb BK261⟩, ⟨zb BK268⟩, ⟨zb BK275⟩, ⟨zB⟩⟩
  case rest =>
   clear HC12
   try clear c1
   try clear c2
   try clear p2
   try clear c3
   try clear c4
   try clear c4b0
   try clear c5
   try clear c6
   try clear c19
   try clear c22
   try clear c28
   try clear c29
   try clear c34
   try clear c35
   try clear c36
   try clear c37
   try clear c38
   try clear c39
   try clear c40
   try clear c41
   try clear c42
   try clear c44
   try clear c45
   try clear c48
   try clear c49
   try clear c50
   try clear c52
   try clear c53
   try clear hcz14_0
   try clear hcz14_1
   try clear hcz16_0
   try clear hcz16_1
   try clear hcz23_0
   try clear hcz23_1
   try clear hcz23_2
   try clear hcz23_3
   try clear hcz23_4
   try clear hcz24_0
   try clear hcz24_1
   try clear hcz30_0
   try clear hcz30_1
   try clear hcz37_0
   try clear hcz37_1
   try clear hcz37_2
   try clear hcz37_3
   try clear hcz37_4
   try clear hcz43_0
   try clear hcz43_1
   try clear hcz43_2
   try clear hcz43_3
   try clear hcz43_4
   try clear hcz46_0
   try clear hcz46_1
   try clear hcz46_2
   try clear hcz46_3
   try clear hcz46_4
   try clear hcz51_0
   try clear hcz51_1
   try clear hcz51_2
   try clear hcz51_3
   try clear hcz51_4
   try clear hcz54_0
   try clear hcz54_1
   try clear hcz54_2
   try clear hcz54_3
   try clear hcz54_4
   try clear hcz6_0
   try clear hcz6_1
   try clear hfz14_0
   try clear hfz14_1
   try clear hfz16_0
   try clear hfz16_1
   try clear hfz23_0
   try clear hfz23_1
   try clear hfz23_2
   try clear hfz23_3
   try clear hfz23_4
   try clear hfz24_0
   try clear hfz24_1
   try clear hfz30_0
   try clear hfz30_1
   try clear hfz37_0
   try clear hfz37_1
   try clear hfz37_2
   try clear hfz37_3
   try clear hfz37_4
   try clear hfz43_0
   try clear hfz43_1
   try clear hfz43_2
   try clear hfz43_3
   try clear hfz43_4
   try clear hfz46_0
   try clear hfz46_1
   try clear hfz46_2
   try clear hfz46_3
   try clear hfz46_4
   try clear hfz51_0
   try clear hfz51_1
   try clear hfz51_2
   try clear hfz51_3
   try clear hfz51_4
   try clear hfz54_0
   try clear hfz54_1
   try clear hfz54_2
   try clear hfz54_3
   try clear hfz54_4
   try clear hfz6_0
   try clear hfz6_1
   obtain ⟨kq, x39_11, rfl, HA, HJ11, HO_269000, HO_269001, BK247, BK261, BK268, BK275, HB⟩ := hcut
   cases kq with
   | zero => exact absurd HA.out (by simp [laws_FnExactEntryOf.j0])
   | succ kj11 =>
    have H := HA.out
    clear HA
    simp only [laws_FnExactEntryOf.j0] at H
    by_cases c56 : x39_11 = true
    ·subst c56
     have H1 : (some false) = some r := by rw [if_pos rfl] at H; exact H
     clear H
     have H := H1
     clear H1
     obtain rfl := Option.some.inj H
     go_wp2
     go_ret
     exact ⟨zE, zB⟩
    ·replace c56 := Bool.eq_false_iff.mpr c56
     subst c56
     have H1 : ((laws_toState.f kj11 l0_0 l0_1).bind fun bt277 => ((laws_eqState.f kj11 t262 t265 bt277.1 bt277.2).bind fun t283 => (if t283 = true then (some true) else (some false)))) = some r := by rw [if_neg (show ¬ (false = true) by decide)] at H; exact H
     clear H
     have H := H1
     clear H1
     replace H := Option.bind_eq_some_iff.mp H
     obtain ⟨⟨t277, t280⟩, A570, H⟩ := H
     replace H : ((laws_eqState.f kj11 t262 t265 t277 t280).bind fun t283 => (if t283 = true then (some true) else (some false))) = some r := H
     have A57 := zm A570
     clear A570
     replace H := Option.bind_eq_some_iff.mp H
     obtain ⟨t283, A580, H⟩ := H
     replace H : (if t283 = true then (some true) else (some false)) = some r := H
     have A58 := zm A580
     clear A580
     by_cases c59 : t283 = true
     ·subst c59
      have H1 : (some true) = some r := by rw [if_pos rfl] at H; exact H
      clear H
      have H := H1
      clear H1
      obtain rfl := Option.some.inj H
      try go_wp2
      replace HO_269000 := zm (Kd.R_drew HO_269000.out)
      replace HO_269001 := zm (Kd.R_drew HO_269001.out)
      replace BK247 := zm (blk_drew BK247.out)
      replace BK261 := zm (blk_drew BK261.out)
      replace BK268 := zm (blk_drew BK268.out)
      replace BK275 := zm (blk_drew BK275.out)
      replace HB := zm (below_drew1 HB.out)
      refine start_ (n := 5) (S := fun w' => w'.cell? ⟨gb268, 0, none⟩ = some (.slice Ao27 t262.length co27) ∧ w'.cell? ⟨gb268, 1, none⟩ = some (.slice Ao31 t265.length co31) ∧ w'.cell? ⟨gb247, 0, none⟩ = some (.slice A0_0 l0_0.length c0_0) ∧ w'.cell? ⟨gb247, 1, none⟩ = some (.slice A0_1 l0_1.length c0_1)) (ds := []) (zl 5 0) (by kernel_rfl) rfl rfl ⟨(blk_cell BK268.out 0).trans rfl, (blk_cell BK268.out 1).trans rfl, (blk_cell BK247.out 0).trans rfl, (blk_cell BK247.out 1).trans rfl⟩ (fun hHeld => ?_)
      generalize wc.drew = w60 at HO_269000 HO_269001 BK247 BK261 BK268 BK275 HB hHeld ⊢
      refine zt 0 (some 40) (zl 5 1) ?_
      refine zt 1 (some 41) (zl 5 3) ?_
      refine zo 2 (some 42) (zl 5 7) (fun K hK => ?_)
      refine zgo #[.agg #[.slice A0_0 l0_0.length c0_0, .slice A0_1 l0_1.length c0_1]] Try.func37 ?_
      with_reducible refine (laws_toState.calls kj11 _ _ l0_0 _ _ l0_1 t277 t280 _ (zk (Kd.C_below HR0_0.out HB.out)) HC0_0.out (zk (Kd.C_below HR0_1.out HB.out)) HC0_1.out A57.out).mono ?_
      rintro e w61 ⟨v278, v281, rfl, ho0, ho1, hb⟩
      refine ⟨_, rfl, ?_⟩
      have HO279 := zm (Kd.R_lower (Kd.R_new' ho0 (Kd.R_lt (zr HO_269000))) (below_size zB))
      replace HO_269000 := zm (Kd.R_elder' (zr HO_269000) (Kd.R_base ho0) hb)
      have HO282 := zm (Kd.R_lower (Kd.R_new' ho1 (Kd.R_lt (zr HO_269001))) (below_size zB))
      replace HO_269001 := zm (Kd.R_elder' (zr HO_269001) (Kd.R_base ho1) hb)
      replace BK247 := zm (blk_below (zb BK247) hb)
      replace BK261 := zm (blk_below (zb BK261) hb)
      replace BK268 := zm (blk_below (zb BK268) hb)
      replace BK275 := zm (blk_below (zb BK275) hb)
      replace HB := zm (below_step zB hb)
      (try clear hb)
      (try clear hb2)
      (try clear hk)
      (try clear hi)
      (try clear ho0)
      (try clear ho1)
      obtain ⟨Ao62, co62, eo62⟩ := Kd.R_slice HO279.out
      (first | subst eo62 | (injection eo62 with f1_ f2_ f3_; have f4_ := f1_.symm; have f5_ := f3_.symm; clear f1_ f2_ f3_; subst f4_; subst f5_))
      obtain ⟨Ao63, co63, eo63⟩ := Kd.R_slice HO282.out
      (first | subst eo63 | (injection eo63 with f1_ f2_ f3_; have f4_ := f1_.symm; have f5_ := f3_.symm; clear f1_ f2_ f3_; subst f4_; subst f5_))
      refine hK.out _ _ ⟨(blk_cell BK268.out 0).trans rfl, (blk_cell BK268.out 1).trans rfl, (blk_cell BK247.out 0).trans rfl, (blk_cell BK247.out 1).trans rfl⟩ (fun hHeld => ?_)
      clear hK K
      refine zn ?_
      refine zo 3 (some 43) (zl 5 15) (fun K hK => ?_)
      refine zgo #[.agg #[.slice Ao27 t262.length co27, .slice Ao31 t265.length co31], .agg #[.slice Ao62 t277.length co62, .slice Ao63 t280.length co63]] Try.func39 ?_
      with_reducible refine (laws_eqState.calls kj11 _ _ t262 _ _ t265 _ _ t277 _ _ t280 true _ ?side1 ?side2 ?side3 ?side4 ?side5 ?side6 ?side7 ?side8 A58.out).mono ?_
      (case side1 => repeat (first | exact (Kd.R_reads' HO_269000.out).2.2 | (with_reducible refine Kd.C_alloc ?_ _) | (with_reducible refine Kd.C_drewN ?_ _) | (with_reducible refine Kd.C_drew ?_)))
      (case side2 => exact (Kd.R_reads' HO_269000.out).2.1)
      (case side3 => repeat (first | exact (Kd.R_reads' HO_269001.out).2.2 | (with_reducible refine Kd.C_alloc ?_ _) | (with_reducible refine Kd.C_drewN ?_ _) | (with_reducible refine Kd.C_drew ?_)))
      (case side4 => exact (Kd.R_reads' HO_269001.out).2.1)
      (case side5 => repeat (first | exact (Kd.R_reads' HO279.out).2.2 | (with_reducible refine Kd.C_alloc ?_ _) | (with_reducible refine Kd.C_drewN ?_ _) | (with_reducible refine Kd.C_drew ?_)))
      (case side6 => exact (Kd.R_reads' HO279.out).2.1)
      (case side7 => repeat (first | exact (Kd.R_reads' HO282.out).2.2 | (with_reducible refine Kd.C_alloc ?_ _) | (with_reducible refine Kd.C_drewN ?_ _) | (with_reducible refine Kd.C_drew ?_)))
      (case side8 => exact (Kd.R_reads' HO282.out).2.1)
      rintro e w64 ⟨rfl, hb⟩
      refine ⟨_, rfl, ?_⟩
      replace HO_269000 := zm (Kd.R_below (zr HO_269000) hb)
      replace HO_269001 := zm (Kd.R_below (zr HO_269001) hb)
      replace HO279 := zm (Kd.R_below (zr HO279) hb)
      replace HO282 := zm (Kd.R_below (zr HO282) hb)
      replace BK247 := zm (blk_below (zb BK247) hb)
      replace BK261 := zm (blk_below (zb BK261) hb)
      replace BK268 := zm (blk_below (zb BK268) hb)
      replace BK275 := zm (blk_below (zb BK275) hb)
      replace HB := zm (below_step zB hb)
      (try clear hb)
      (try clear hb2)
      (try clear hk)
      (try clear hi)
      refine hK.out _ _ ⟨(blk_cell BK268.out 0).trans rfl, (blk_cell BK268.out 1).trans rfl, (blk_cell BK247.out 0).trans rfl, (blk_cell BK247.out 1).trans rfl⟩ (fun hHeld => ?_)
      clear hK K
      refine zn ?_
      refine zp 4 (some 44) (zl 5 31) ?_
      refine done_ (by kernel_rfl) ?_
      try go_wp2
      go_ret
      exact ⟨zE, zB⟩
     ·replace c59 := Bool.eq_false_iff.mpr c59
      subst c59
      have H1 : (some false) = some r := by rw [if_neg (show ¬ (false = true) by decide)] at H; exact H
      clear H
      have H := H1
      clear H1
      obtain rfl := Option.some.inj H
      try go_wp2
      replace HO_269000 := zm (Kd.R_drew HO_269000.out)
      replace HO_269001 := zm (Kd.R_drew HO_269001.out)
      replace BK247 := zm (blk_drew BK247.out)
      replace BK261 := zm (blk_drew BK261.out)
      replace BK268 := zm (blk_drew BK268.out)
      replace BK275 := zm (blk_drew BK275.out)
      replace HB := zm (below_drew1 HB.out)
      refine start_ (n := 5) (S := fun w' => w'.cell? ⟨gb268, 0, none⟩ = some (.slice Ao27 t262.length co27) ∧ w'.cell? ⟨gb268, 1, none⟩ = some (.slice Ao31 t265.length co31) ∧ w'.cell? ⟨gb247, 0, none⟩ = some (.slice A0_0 l0_0.length c0_0) ∧ w'.cell? ⟨gb247, 1, none⟩ = some (.slice A0_1 l0_1.length c0_1)) (ds := []) (zl 5 0) (by kernel_rfl) rfl rfl ⟨(blk_cell BK268.out 0).trans rfl, (blk_cell BK268.out 1).trans rfl, (blk_cell BK247.out 0).trans rfl, (blk_cell BK247.out 1).trans rfl⟩ (fun hHeld => ?_)
      generalize wc.drew = w65 at HO_269000 HO_269001 BK247 BK261 BK268 BK275 HB hHeld ⊢
      refine zt 0 (some 40) (zl 5 1) ?_
      refine zt 1 (some 41) (zl 5 3) ?_
      refine zo 2 (some 42) (zl 5 7) (fun K hK => ?_)
      refine zgo #[.agg #[.slice A0_0 l0_0.length c0_0, .slice A0_1 l0_1.length c0_1]] Try.func37 ?_
      with_reducible refine (laws_toState.calls kj11 _ _ l0_0 _ _ l0_1 t277 t280 _ (zk (Kd.C_below HR0_0.out HB.out)) HC0_0.out (zk (Kd.C_below HR0_1.out HB.out)) HC0_1.out A57.out).mono ?_
      rintro e w66 ⟨v278, v281, rfl, ho0, ho1, hb⟩
      refine ⟨_, rfl, ?_⟩
      have HO279 := zm (Kd.R_lower (Kd.R_new' ho0 (Kd.R_lt (zr HO_269000))) (below_size zB))
      replace HO_269000 := zm (Kd.R_elder' (zr HO_269000) (Kd.R_base ho0) hb)
      have HO282 := zm (Kd.R_lower (Kd.R_new' ho1 (Kd.R_lt (zr HO_269001))) (below_size zB))
      replace HO_269001 := zm (Kd.R_elder' (zr HO_269001) (Kd.R_base ho1) hb)
      replace BK247 := zm (blk_below (zb BK247) hb)
      replace BK261 := zm (blk_below (zb BK261) hb)
      replace BK268 := zm (blk_below (zb BK268) hb)
      replace BK275 := zm (blk_below (zb BK275) hb)
      replace HB := zm (below_step zB hb)
      (try clear hb)
      (try clear hb2)
      (try clear hk)
      (try clear hi)
      (try clear ho0)
      (try clear ho1)
      obtain ⟨Ao67, co67, eo67⟩ := Kd.R_slice HO279.out
      (first | subst eo67 | (injection eo67 with f1_ f2_ f3_; have f4_ := f1_.symm; have f5_ := f3_.symm; clear f1_ f2_ f3_; subst f4_; subst f5_))
      obtain ⟨Ao68, co68, eo68⟩ := Kd.R_slice HO282.out
      (first | subst eo68 | (injection eo68 with f1_ f2_ f3_; have f4_ := f1_.symm; have f5_ := f3_.symm; clear f1_ f2_ f3_; subst f4_; subst f5_))
      refine hK.out _ _ ⟨(blk_cell BK268.out 0).trans rfl, (blk_cell BK268.out 1).trans rfl, (blk_cell BK247.out 0).trans rfl, (blk_cell BK247.out 1).trans rfl⟩ (fun hHeld => ?_)
      clear hK K
      refine zn ?_
      refine zo 3 (some 43) (zl 5 15) (fun K hK => ?_)
      refine zgo #[.agg #[.slice Ao27 t262.length co27, .slice Ao31 t265.length co31], .agg #[.slice Ao67 t277.length co67, .slice Ao68 t280.length co68]] Try.func39 ?_
      with_reducible refine (laws_eqState.calls kj11 _ _ t262 _ _ t265 _ _ t277 _ _ t280 false _ ?side1 ?side2 ?side3 ?side4 ?side5 ?side6 ?side7 ?side8 A58.out).mono ?_
      (case side1 => repeat (first | exact (Kd.R_reads' HO_269000.out).2.2 | (with_reducible refine Kd.C_alloc ?_ _) | (with_reducible refine Kd.C_drewN ?_ _) | (with_reducible refine Kd.C_drew ?_)))
      (case side2 => exact (Kd.R_reads' HO_269000.out).2.1)
      (case side3 => repeat (first | exact (Kd.R_reads' HO_269001.out).2.2 | (with_reducible refine Kd.C_alloc ?_ _) | (with_reducible refine Kd.C_drewN ?_ _) | (with_reducible refine Kd.C_drew ?_)))
      (case side4 => exact (Kd.R_reads' HO_269001.out).2.1)
      (case side5 => repeat (first | exact (Kd.R_reads' HO279.out).2.2 | (with_reducible refine Kd.C_alloc ?_ _) | (with_reducible refine Kd.C_drewN ?_ _) | (with_reducible refine Kd.C_drew ?_)))
      (case side6 => exact (Kd.R_reads' HO279.out).2.1)
      (case side7 => repeat (first | exact (Kd.R_reads' HO282.out).2.2 | (with_reducible refine Kd.C_alloc ?_ _) | (with_reducible refine Kd.C_drewN ?_ _) | (with_reducible refine Kd.C_drew ?_)))
      (case side8 => exact (Kd.R_reads' HO282.out).2.1)
      rintro e w69 ⟨rfl, hb⟩
      refine ⟨_, rfl, ?_⟩
      replace HO_269000 := zm (Kd.R_below (zr HO_269000) hb)
      replace HO_269001 := zm (Kd.R_below (zr HO_269001) hb)
      replace HO279 := zm (Kd.R_below (zr HO279) hb)
      replace HO282 := zm (Kd.R_below (zr HO282) hb)
      replace BK247 := zm (blk_below (zb BK247) hb)
      replace BK261 := zm (blk_below (zb BK261) hb)
      replace BK268 := zm (blk_below (zb BK268) hb)
      replace BK275 := zm (blk_below (zb BK275) hb)
      replace HB := zm (below_step zB hb)
      (try clear hb)
      (try clear hb2)
      (try clear hk)
      (try clear hi)
      refine hK.out _ _ ⟨(blk_cell BK268.out 0).trans rfl, (blk_cell BK268.out 1).trans rfl, (blk_cell BK247.out 0).trans rfl, (blk_cell BK247.out 1).trans rfl⟩ (fun hHeld => ?_)
      clear hK K
      refine zn ?_
      refine zp 4 (some 44) (zl 5 31) ?_
      refine done_ (by kernel_rfl) ?_
      try go_wp2
      go_ret
      exact ⟨zE, zB⟩

def laws_FnExactEntryOf.Pure : Prop := ∀ (l0_0 : List (S105)) (l0_1 : List (S108)) (a1 : Int), l0_0.length ≤ maxLen → l0_0.length * 56 ≤ 140737488351232 → (∀ x ∈ l0_0, ((Lit.int .i64 x.f0).wf = true ∧ ((Lit.int .i64 x.f1.f0).wf = true ∧ ((Lit.int .i64 x.f1.f1).wf = true ∧ ((Lit.int .i64 x.f1.f2).wf = true ∧ ((Lit.int .i64 x.f1.f3).wf = true ∧ x.f1.f4.size ≤ 140737488351232)))))) → l0_1.length ≤ maxLen → l0_1.length * 16 ≤ 140737488351232 → (∀ x ∈ l0_1, ((Lit.int .i64 x.f0).wf = true ∧ (Lit.int .i64 x.f1).wf = true)) → (Lit.int .i64 a1).wf = true → ∃ k, laws_FnExactEntryOf.f k l0_0 l0_1 a1 = some true

end Go.Proofs.Ythljdiniccpobaa.P
