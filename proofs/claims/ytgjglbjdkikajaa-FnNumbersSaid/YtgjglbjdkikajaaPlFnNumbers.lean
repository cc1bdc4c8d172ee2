-- by a program of this session, for this seat
import Derived.Test.YtgjglbjdkikajaaZ
import Derived.Test.YtgjglbjdkikajaaP0
import Derived.Test.YtgjglbjdkikajaaPaa
import Derived.Test.YtgjglbjdkikajaaPab
namespace Go.Proofs.Ytgjglbjdkikajaa.P
open Go.RowKit Go.Proofs.YtgjglbjdkikajaaW.PrintWords Go.Proofs.YtgjglbjdkikajaaW.PrintLast Go.Proofs.YtgjglbjdkikajaaW.PrintMore Go.Proofs.Ytgjglbjdkikajaa.Z
attribute [local go_sem] max2_int min2_int max_two min_two max_three min_three max_four min_four   -- for this text's walks alone
set_option linter.unusedVariables false
set_option linter.unusedSimpArgs false

/-! ### laws_FnNumbers: function 5 -/
mutual
def laws_FnNumbers.j0 : Nat → List Int → ByteArray → List Int → Int → Option (Bool)
 | 0, _, _, _, _ => none
 | k + 1, x0, x4, x6, x7 => (impl_GetText.f k x6 x7).bind fun bt206 => (if bt206.2.2 = true then (if bt206.1.toList = x4.toList then (laws_FnNumbers.j1 k x0 x6 (bt206.2.1 != (x6.length : Int))) else (laws_FnNumbers.j1 k x0 x6 true)) else (laws_FnNumbers.j1 k x0 x6 true))
def laws_FnNumbers.j1 : Nat → List Int → List Int → Bool → Option (Bool)
 | 0, _, _, _ => none
 | k + 1, x0, x6, x77 => if x77 = true then (some false) else ((some (([] : List Int) : List Int)).bind fun y209 => (if y209.length + x6.length < 140737488355328 then ((some (y209 ++ x6 : List Int)).bind fun y212 => ((laws_at0.f x0 3).bind fun t215 => (if (x6.length : Int) = 0 then (none) else (if 0 ≤ (Int.tmod t215 (x6.length : Int)) then (if (Int.tmod t215 (x6.length : Int)) < (y212.length : Int) then ((laws_at0.f x0 4).bind fun t217 => ((impl_Crc.f k (y212.set ((Int.tmod t215 (x6.length : Int)) : Int).toNat (((rd y212 (Int.tmod t215 (x6.length : Int))) + ((wrap64 (1 + (Int.tmod t217 255))) % 256)) % 256))).bind fun t219 => ((impl_Crc.f k x6).bind fun t220 => (if t219 = t220 then (some false) else ((impl_Crc.f k x6).bind fun t221 => (some (decide (t221 ≥ 0)))))))) else (none)) else (none))))) else (none)))
end
def laws_FnNumbers.f (k : Nat) (l0 : List Int) : Option (Bool) := (laws_big.f l0).bind fun t182 => (if t182 = true then (some true) else ((spec_DrawPutNum.f k l0).bind fun t183 => ((spec_DrawPutText.f k l0).bind fun t184 => ((impl_PutNum.f k t183).bind fun t185 => ((some (([7] : List Int) : List Int)).bind fun y188 => (if y188.length + t185.length < 140737488355328 then ((some (y188 ++ t185 : List Int)).bind fun y191 => ((impl_PutText.f k t184).bind fun t194 => (if y191.length + t194.length < 140737488355328 then ((some (y191 ++ t194 : List Int)).bind fun y197 => ((spec_PutNum.f k t183).bind fun t200 => (if (t200.length : Int) > 0 then ((impl_GetNum.f k y197 1).bind fun bt203 => (if bt203.2.2 = true then (if bt203.1 = t183 then (if bt203.2.1 = (wrap64 (1 + (t185.length : Int))) then (laws_FnNumbers.j0 k l0 t184 y197 bt203.2.1) else (some false)) else (some false)) else (some false))) else (if (t185.length : Int) = 0 then (laws_FnNumbers.j0 k l0 t184 y197 1) else (some false))))) else (none)))) else (none)))))))
theorem laws_FnNumbers.mono_l : ∀ k, (∀ y0 y1 y2 y3, LeO (laws_FnNumbers.j0 k y0 y1 y2 y3) (laws_FnNumbers.j0 (k + 1) y0 y1 y2 y3)) ∧ (∀ y0 y1 y2, LeO (laws_FnNumbers.j1 k y0 y1 y2) (laws_FnNumbers.j1 (k + 1) y0 y1 y2))
 | 0 => ⟨fun _ _ _ _ r h => by simp [laws_FnNumbers.j0] at h, fun _ _ _ r h => by simp [laws_FnNumbers.j1] at h⟩
 | k + 1 => by
  obtain ⟨ih0, ih1⟩ := laws_FnNumbers.mono_l k
  refine ⟨?_, ?_⟩
  ·intro y0 y1 y2 y3
   unfold laws_FnNumbers.j0
   repeat' first | (with_reducible first | exact LeO.refl _ | exact LeO.none _ | refine LeO.ite ?_ ?_ | refine LeO.bind ?_ (fun _ => ?_) | apply ih0 | apply ih1 | apply impl_Crc.mono | apply impl_GetNum.mono | apply impl_GetText.mono | apply impl_PutNum.mono | apply impl_PutText.mono | apply spec_DrawPutNum.mono | apply spec_DrawPutText.mono | apply spec_PutNum.mono) | apply ih0 | apply ih1 | apply impl_Crc.mono | apply impl_GetNum.mono | apply impl_GetText.mono | apply impl_PutNum.mono | apply impl_PutText.mono | apply spec_DrawPutNum.mono | apply spec_DrawPutText.mono | apply spec_PutNum.mono | exact LeO.none _ | refine LeO.ite ?_ ?_ | refine LeO.bind ?_ (fun _ => ?_)
  ·intro y0 y1 y2
   unfold laws_FnNumbers.j1
   repeat' first | (with_reducible first | exact LeO.refl _ | exact LeO.none _ | refine LeO.ite ?_ ?_ | refine LeO.bind ?_ (fun _ => ?_) | apply ih0 | apply ih1 | apply impl_Crc.mono | apply impl_GetNum.mono | apply impl_GetText.mono | apply impl_PutNum.mono | apply impl_PutText.mono | apply spec_DrawPutNum.mono | apply spec_DrawPutText.mono | apply spec_PutNum.mono) | apply ih0 | apply ih1 | apply impl_Crc.mono | apply impl_GetNum.mono | apply impl_GetText.mono | apply impl_PutNum.mono | apply impl_PutText.mono | apply spec_DrawPutNum.mono | apply spec_DrawPutText.mono | apply spec_PutNum.mono | exact LeO.none _ | refine LeO.ite ?_ ?_ | refine LeO.bind ?_ (fun _ => ?_)
theorem laws_FnNumbers.mono : ∀ a0 k, LeO (laws_FnNumbers.f k a0) (laws_FnNumbers.f (k + 1) a0) := by
 intro a0 k; obtain ⟨ih0, ih1⟩ := laws_FnNumbers.mono_l k
 unfold laws_FnNumbers.f
 repeat' first | (with_reducible first | exact LeO.refl _ | exact LeO.none _ | refine LeO.ite ?_ ?_ | refine LeO.bind ?_ (fun _ => ?_) | apply ih0 | apply ih1 | apply impl_Crc.mono | apply impl_GetNum.mono | apply impl_GetText.mono | apply impl_PutNum.mono | apply impl_PutText.mono | apply spec_DrawPutNum.mono | apply spec_DrawPutText.mono | apply spec_PutNum.mono) | apply ih0 | apply ih1 | apply impl_Crc.mono | apply impl_GetNum.mono | apply impl_GetText.mono | apply impl_PutNum.mono | apply impl_PutText.mono | apply spec_DrawPutNum.mono | apply spec_DrawPutText.mono | apply spec_PutNum.mono | exact LeO.none _ | refine LeO.ite ?_ ?_ | refine LeO.bind ?_ (fun _ => ?_)
def laws_FnNumbers.T20 : Bool × List (List Nat × List Nat) := (true, [([], []), ([], []), ([], []), ([], []), ([2, 3], [2, 3]), ([4], [4]), ([], []), ([6], [6]), ([7], [7]), ([8], [8]), ([9], [9]), ([5, 10], [5, 10]), ([0, 1, 0, 1, 2, 3, 4, 5, 6, 7, 8, 9, 10, 11], [0, 1]), ([12, 11, 7, 0, 1, 2, 3, 4, 5, 6, 7, 8, 9, 10, 11], [11, 12])])
def laws_FnNumbers.B20 : List Nat := [0, 0, 0, 0, 12, 28, 0, 64, 192, 448, 960, 2044, 4095, 8191]
theorem laws_FnNumbers.tab20 : rtab .any (opsOf Try.f5 20) = laws_FnNumbers.T20 := by kernel_rfl
theorem laws_FnNumbers.bits20 : waitsOk laws_FnNumbers.T20.2 laws_FnNumbers.B20 = true := by kernel_rfl
set_option maxHeartbeats 80000000 in
set_option maxRecDepth 100000 in
theorem laws_FnNumbers.calls (k : Nat) (A0 : Option Addr) (c0 : Nat) (l0 : List Int) (r : Bool) (w : World) (hr0 : Kd.C (Kd.int .u8) w A0 l0.length l0) (hc0 : l0.length ≤ c0) (h : laws_FnNumbers.f k l0 = some r) (hr_ : r = true) :
  Calls Try.prog 5 #[.slice A0 l0.length c0] w fun e w' => e = .returned (.bool r) ∧ Below w.heap.size w w' := by
 have HRT := zm hr_; clear hr_; have HR0 := zm hr0; have Ag := zm hc0; clear hr0 hc0; have HB := zm (Below.refl w.heap.size w); have H : ((laws_big.f l0).bind fun Ap => (if Ap = true then (some true) else ((spec_DrawPutNum.f k l0).bind fun AF => ((spec_DrawPutText.f k l0).bind fun AE => ((impl_PutNum.f k AF).bind fun AA => ((some (([7] : List Int) : List Int)).bind fun y188 => (if y188.length + AA.length < 140737488355328 then ((some (y188 ++ AA : List Int)).bind fun y191 => ((impl_PutText.f k AE).bind fun AI => (if y191.length + AI.length < 140737488355328 then ((some (y191 ++ AI : List Int)).bind fun y197 => ((spec_PutNum.f k AF).bind fun AJ => (if (AJ.length : Int) > 0 then ((impl_GetNum.f k y197 1).bind fun AB => (if AB.2.2 = true then (if AB.1 = AF then (if AB.2.1 = (wrap64 (1 + (AA.length : Int))) then (laws_FnNumbers.j0 k l0 AE y197 AB.2.1) else (some false)) else (some false)) else (some false))) else (if (AA.length : Int) = 0 then (laws_FnNumbers.j0 k l0 AE y197 1) else (some false))))) else (none)))) else (none)))))))) = some r := h; clear h; replace H := Option.bind_eq_some_iff.mp H; obtain ⟨Ap, BN, H⟩ := H; (try dsimp only at H); have A2 := zm BN; clear BN
 by_cases c3 : Ap = true
 ·subst c3; rw [if_pos rfl] at H; obtain rfl := Option.some.inj H; go_enter Try.func5, Try.ntmps5
  go_wp2_with (first | ((with_reducible refine gate_callee (f := 7) rfl ?_); refine zg (some 17) #[.slice A0 l0.length c0] Try.func7 ?_; (with_reducible refine (laws_big.calls _ _ l0 true _ (zk HR0.out) Ag.out A2.out).mono ?_); rintro e w' ⟨rfl, ⟨nd, rfl⟩⟩; refine ⟨_, rfl, ?_⟩))
  go_ret
  exact ⟨zE, zB⟩
 ·replace c3 := Bool.eq_false_iff.mpr c3; subst c3; rw [zff] at H; replace H := Option.bind_eq_some_iff.mp H; obtain ⟨AF, BP, H⟩ := H; (try dsimp only at H); have A4 := zm BP; clear BP; replace H := Option.bind_eq_some_iff.mp H; obtain ⟨AE, BQ, H⟩ := H; (try dsimp only at H); have A5 := zm BQ; clear BQ; replace H := Option.bind_eq_some_iff.mp H; obtain ⟨AA, BR, H⟩ := H; (try dsimp only at H); have A6 := zm BR; clear BR
  obtain ⟨y188, hy188⟩ : ∃ y_ : List Int, y_ = (([7] : List Int)) := ⟨_, rfl⟩
  replace H : (if y188.length + AA.length < 140737488355328 then ((some (y188 ++ AA : List Int)).bind fun y191 => ((impl_PutText.f k AE).bind fun AI => (if y191.length + AI.length < 140737488355328 then ((some (y191 ++ AI : List Int)).bind fun y197 => ((spec_PutNum.f k AF).bind fun AJ => (if (AJ.length : Int) > 0 then ((impl_GetNum.f k y197 1).bind fun AB => (if AB.2.2 = true then (if AB.1 = AF then (if AB.2.1 = (wrap64 (1 + (AA.length : Int))) then (laws_FnNumbers.j0 k l0 AE y197 AB.2.1) else (some false)) else (some false)) else (some false))) else (if (AA.length : Int) = 0 then (laws_FnNumbers.j0 k l0 AE y197 1) else (some false))))) else (none)))) else (none)) = some r := by first | (rw [hy188]; with_reducible exact H) | (have H2_ := (Option.bind_some _ _).symm.trans H; rw [hy188]; with_reducible exact H2_) | (have H2_ := (Option.bind_some _ _).symm.trans H; with_reducible exact H2_) | with_reducible exact H | (rw [hy188]; exact H) | exact H
  have Ny188 := zm hy188; clear hy188
  by_cases c7 : y188.length + AA.length < 140737488355328
  ·rw [if_pos c7] at H; have LMc7 := zm c7; clear c7
   obtain ⟨y191, hy191⟩ : ∃ y_ : List Int, y_ = (y188 ++ AA) := ⟨_, rfl⟩
   replace H : ((impl_PutText.f k AE).bind fun AI => (if y191.length + AI.length < 140737488355328 then ((some (y191 ++ AI : List Int)).bind fun y197 => ((spec_PutNum.f k AF).bind fun AJ => (if (AJ.length : Int) > 0 then ((impl_GetNum.f k y197 1).bind fun AB => (if AB.2.2 = true then (if AB.1 = AF then (if AB.2.1 = (wrap64 (1 + (AA.length : Int))) then (laws_FnNumbers.j0 k l0 AE y197 AB.2.1) else (some false)) else (some false)) else (some false))) else (if (AA.length : Int) = 0 then (laws_FnNumbers.j0 k l0 AE y197 1) else (some false))))) else (none))) = some r := by first | (rw [hy191]; with_reducible exact H) | (have H2_ := (Option.bind_some _ _).symm.trans H; rw [hy191]; with_reducible exact H2_) | (have H2_ := (Option.bind_some _ _).symm.trans H; with_reducible exact H2_) | with_reducible exact H | (rw [hy191]; exact H) | exact H
   have Ny191 := zm hy191; clear hy191; replace H := Option.bind_eq_some_iff.mp H; obtain ⟨AI, BS, H⟩ := H; (try dsimp only at H); have A8 := zm BS; clear BS
   by_cases c9 : y191.length + AI.length < 140737488355328
   ·rw [if_pos c9] at H; have LMc9 := zm c9; clear c9
    obtain ⟨y197, hy197⟩ : ∃ y_ : List Int, y_ = (y191 ++ AI) := ⟨_, rfl⟩
    replace H : ((spec_PutNum.f k AF).bind fun AJ => (if (AJ.length : Int) > 0 then ((impl_GetNum.f k y197 1).bind fun AB => (if AB.2.2 = true then (if AB.1 = AF then (if AB.2.1 = (wrap64 (1 + (AA.length : Int))) then (laws_FnNumbers.j0 k l0 AE y197 AB.2.1) else (some false)) else (some false)) else (some false))) else (if (AA.length : Int) = 0 then (laws_FnNumbers.j0 k l0 AE y197 1) else (some false)))) = some r := by first | (rw [hy197]; with_reducible exact H) | (have H2_ := (Option.bind_some _ _).symm.trans H; rw [hy197]; with_reducible exact H2_) | (have H2_ := (Option.bind_some _ _).symm.trans H; with_reducible exact H2_) | with_reducible exact H | (rw [hy197]; exact H) | exact H
    have Ny197 := zm hy197; clear hy197; replace H := Option.bind_eq_some_iff.mp H; obtain ⟨AJ, Az, H⟩ := H; (try dsimp only at H); have BX := zm Az; clear Az; have Am := zm H; clear H; go_enter Try.func5, Try.ntmps5
    go_upto_if 33 with (first | ((with_reducible refine gate_callee (f := 7) rfl ?_); refine zg (some 17) #[.slice A0 l0.length c0] Try.func7 ?_; (with_reducible refine (laws_big.calls _ _ l0 false _ (zk HR0.out) Ag.out A2.out).mono ?_); rintro e w' ⟨rfl, ⟨nd, rfl⟩⟩; refine ⟨_, rfl, ?_⟩) | ((with_reducible refine gate_callee (f := 19) rfl ?_); refine zg (some 19) #[.slice A0 l0.length c0] Try.func19 ?_; (with_reducible refine (spec_DrawPutNum.calls k _ _ l0 AF _ (zk HR0.out) Ag.out A4.out).mono ?_); rintro e Bp ⟨rfl, hb⟩; refine ⟨_, rfl, ?_⟩; replace HB := zm (below_step zB hb); clear hb) | ((with_reducible refine gate_callee (f := 20) rfl ?_); refine zg (some 21) #[.slice A0 l0.length c0] Try.func20 ?_; (with_reducible refine (spec_DrawPutText.calls k _ _ l0 AE _ (zk (Kd.C_below HR0.out HB.out)) Ag.out A5.out).mono ?_); rintro e Bq ⟨rfl, hb⟩; refine ⟨_, rfl, ?_⟩; replace HB := zm (below_step zB hb); clear hb) | ((with_reducible refine gate_callee (f := 21) rfl ?_); refine zg (some 23) #[.int .i64 AF] Try.func21 ?_; (with_reducible refine (impl_PutNum.calls k AF AA _ A6.out).mono ?_); rintro e Br ⟨v186, rfl, ho0, hb⟩; refine ⟨_, rfl, ?_⟩; have AD := zm (Kd.R_lower ho0 (below_size zB)); replace HB := zm (below_step zB hb); clear hb ho0) | ((with_reducible refine gate_dst (N := 24) rfl ?_); (try (refine gate_guard (by rfl) ?_; dsimp only)); refine Kd.R_lit (Kd.int .u8) _ 5 ?hg (N := 24) ?hd (xs := ([7] : List Int)) (inner := [.int .u8 7]) (ok := fun _ => True) (okp := fun _ => True) ?hr ?hp (fun _ hk => hk) trivial (Below.refl _ _) (Nat.le_refl _) (by simp) ?_; (case hd => rfl); (case hg => rfl); (case hr => first | (go_simp; done) | (go_simp; rfl)); (case hp => exact (Reps.one (show Kd.M (Kd.int .u8) _ _ _ 7 [.int .u8 7] from rfl) (Reps.none _ _))); intro v189 Bs ho16 hb hg_ hnew_; clear hg_ hnew_; (first | rw [← Ny188.out] at ho16 | (simp only [Int.reduceToNat] at ho16; rw [← Ny188.out] at ho16)); have Aq := zm (Kd.R_lower (Kd.R_new' ho16 (Kd.R_lt (zr AD))) (below_size zB)); replace AD := zm (Kd.R_elder' (zr AD) (Kd.R_base ho16) hb); replace HB := zm (below_step zB hb); clear hb ho16; obtain ⟨Al, Ao, eo18⟩ := Kd.R_slice AD.out; subst eo18) | ((with_reducible refine gate_builtin (b := .append) (xs := #[.tmp 24, .tmp 25]) rfl ?_); (try (refine gate_guard (by rfl) ?_; dsimp only)); at_builtin; refine Kd.R_append_rows (Kd.int .u8) (w0 := w) w.heap.size rfl (.tmp 24) (.tmp 25) 22 5 (.int .u8 0) 1 rfl Try.underlying22 info5 rfl (by decide) (by omega) v189 y188 AA _ _ _ (fun k_ => some k_ ≠ (.slice Al AA.length Ao : Value).ownBlock) (fun _ => False) rfl rfl ?aO ?aR (fun _ _ h => h) (fun _ h => h.elim) ?aF ?aB ?aS ?aL ?_; (case aR => repeat (first | exact (Kd.R_reads' AD.out).2.2 | (with_reducible refine Kd.C_alloc ?_ _) | (with_reducible refine Kd.C_drewN ?_ _) | (with_reducible refine Kd.C_drew ?_))); (case aB => exact zB); (case aF => exact (fun k_ hk => Kd.fresh' (Kd.R_lt (zr AD)) k_ hk)); (case aO => exact (by (with_reducible repeat (first | apply Kd.R_alloc | apply Kd.R_drewN | apply Kd.R_drew)); exact Kd.R_mono Aq.out (fun _ hk => hk.2))); (case aS => exact (below_size zB)); (case aL => have := LMc7.out; omega); intro v192 Bt ho hb hg hat; rw [← Ny191.out] at ho; replace AD := zm (Kd.R_after (ok := (fun _ => True)) (zr AD) hg hat); replace HB := zm hb; have AT := zm (ho); clear Aq; clear ho hb hg hat) | ((with_reducible refine gate_callee (f := 15) rfl ?_); refine zg (some 28) #[.string AE] Try.func15 ?_; (with_reducible refine (impl_PutText.calls k AE AI _ A8.out).mono ?_); rintro e Bu ⟨v195, rfl, ho0, hb⟩; refine ⟨_, rfl, ?_⟩; have AO := zm (Kd.R_lower (Kd.R_new' (Kd.R_new' ho0 (Kd.R_lt (zr AD))) (Kd.R_lt (zr AT))) (below_size zB)); replace AD := zm (Kd.R_elder' (zr AD) (Kd.R_base ho0) hb); replace AT := zm (Kd.R_elder' (zr AT) (Kd.R_base ho0) hb); replace HB := zm (below_step zB hb); clear hb ho0; obtain ⟨B7, B8, eo21⟩ := Kd.R_slice AO.out; subst eo21) | ((with_reducible refine gate_builtin (b := .append) (xs := #[.tmp 26, .tmp 28]) rfl ?_); (try (refine gate_guard (by rfl) ?_; dsimp only)); at_builtin; refine Kd.R_append_rows (Kd.int .u8) (w0 := w) w.heap.size rfl (.tmp 26) (.tmp 28) 22 5 (.int .u8 0) 1 rfl Try.underlying22 info5 rfl (by decide) (by omega) v192 y191 AI _ _ _ (fun k_ => some k_ ≠ (.slice Al AA.length Ao : Value).ownBlock ∧ some k_ ≠ (.slice B7 AI.length B8 : Value).ownBlock) (fun _ => False) rfl rfl ?aO ?aR (fun _ _ h => h) (fun _ h => h.elim) ?aF ?aB ?aS ?aL ?_; (case aR => repeat (first | exact (Kd.R_reads' AO.out).2.2 | (with_reducible refine Kd.C_alloc ?_ _) | (with_reducible refine Kd.C_drewN ?_ _) | (with_reducible refine Kd.C_drew ?_))); (case aB => exact zB); (case aF => exact (fun k_ hk => ⟨Kd.fresh' (Kd.R_lt (zr AD)) k_ hk, Kd.fresh' (Kd.R_lt (zr AO)) k_ hk⟩)); (case aO => exact (zr AT)); (case aS => exact (below_size zB)); (case aL => have := LMc9.out; omega); intro v198 Bv ho hb hg hat; rw [← Ny197.out] at ho; replace AD := zm (Kd.R_after (ok := (fun k_ => some k_ ≠ (.slice B7 AI.length B8 : Value).ownBlock)) (by (with_reducible repeat (first | apply Kd.R_alloc | apply Kd.R_drewN | apply Kd.R_drew)); exact Kd.R_mono AD.out (fun _ hk => ⟨hk.2, hk.1.2⟩)) hg hat); replace AO := zm (Kd.R_after (ok := (fun k_ => some k_ ≠ (.slice Al AA.length Ao : Value).ownBlock)) (by (with_reducible repeat (first | apply Kd.R_alloc | apply Kd.R_drewN | apply Kd.R_drew)); exact Kd.R_mono AO.out (fun _ hk => ⟨hk.1.2, hk.2⟩)) hg hat); replace HB := zm hb; have AP := zm (ho); clear AT; clear ho hb hg hat) | ((with_reducible refine gate_callee (f := 22) rfl ?_); refine zg (some 31) #[.int .i64 AF] Try.func22 ?_; (with_reducible refine (spec_PutNum.calls k AF AJ _ BX.out).mono ?_); rintro e Bw ⟨v201, rfl, ho0, hb⟩; refine ⟨_, rfl, ?_⟩; have BC := zm (Kd.R_lower (Kd.R_new' (Kd.R_new' (Kd.R_new' ho0 (Kd.R_lt (zr AD))) (Kd.R_lt (zr AO))) (Kd.R_lt (zr AP))) (below_size zB)); replace AD := zm (Kd.R_elder' (zr AD) (Kd.R_base ho0) hb); replace AO := zm (Kd.R_elder' (zr AO) (Kd.R_base ho0) hb); replace AP := zm (Kd.R_elder' (zr AP) (Kd.R_base ho0) hb); replace HB := zm (below_step zB hb); clear hb ho0; obtain ⟨Bk, Bn, eo23⟩ := Kd.R_slice BC.out; subst eo23))
    (try simp only [Act.put, List.setIfInBounds_toArray, List.set_cons_zero, List.set_cons_succ])
    go_cut [7] (fun v7 wc => ∃ (kq : Nat) (AX : Int), v7 = .int .i64 AX ∧ Aside0 (laws_FnNumbers.j0 kq l0 AE y197 AX = some r) ∧ Aside0 (kq ≤ k) ∧ Aside0 (Kd.R (Kd.int .u8) 5 wc w.heap.size (fun _ => True) v198 y197) ∧ Aside0 (Below w.heap.size w wc))
    case first =>
     have H := Am.out; clear Am
     by_cases Ah : (AJ.length : Int) > 0
     ·rw [if_pos Ah] at H; have AU : decide (0 < (AJ.length : Int)) = true := decide_eq_true Ah; have BD : decide (0 < AJ.length) = true := decide_eq_true (by omega); clear Ah
      (first | rw [AU] | rw [BD] | rw [BD] | (simp only [i64_w, i32_w]; rw [AU]) | skip)
      replace H := Option.bind_eq_some_iff.mp H; obtain ⟨⟨AY, AS, BW⟩, B0, H⟩ := H; (try dsimp only at H); have BY := zm B0; clear B0
      by_cases As : BW = true
      ·subst As; rw [if_pos rfl] at H
       by_cases Ac : AY = AF
       ·rw [if_pos Ac] at H; have BE : (AY == AF) = true := beq_iff_eq.mpr Ac; have BF : (AY != AF) = false := bne_eq_false_iff_eq.mpr Ac; clear Ac
        by_cases Ad : AS = (wrap64 (1 + (AA.length : Int)))
        ·rw [if_pos Ad] at H; have BG : (AS == (wrap64 (1 + (AA.length : Int)))) = true := beq_iff_eq.mpr Ad; have BH : (AS != (wrap64 (1 + (AA.length : Int)))) = false := bne_eq_false_iff_eq.mpr Ad; clear Ad
         have H' := zm H
         clear H; obtain ⟨BT, BV, eo29⟩ := Kd.R_slice AP.out; subst eo29
         go_wp2_with (first | ((with_reducible refine gate_callee (f := 23) rfl ?_); refine zg (some 36) #[.slice BT y197.length BV, .int .i64 1] Try.func23 ?_; (with_reducible refine (impl_GetNum.calls k _ _ y197 1 AY AS true _ ?side1 ?side2 BY.out).mono ?_); (case side1 => repeat (first | exact (Kd.R_reads' AP.out).2.2 | (with_reducible refine Kd.C_alloc ?_ _) | (with_reducible refine Kd.C_drewN ?_ _) | (with_reducible refine Kd.C_drew ?_))); (case side2 => exact (Kd.R_reads' AP.out).2.1); rintro e w' ⟨rfl, ⟨nd, rfl⟩⟩; refine ⟨_, rfl, ?_⟩))
         go_meet
         case rel => exact ⟨_, (AS), zF, H', ⟨zO⟩, ⟨by (with_reducible repeat (first | apply Kd.R_alloc | apply Kd.R_drewN | apply Kd.R_drew)); exact Kd.R_mono AP.out (fun _ hk => trivial)⟩, ⟨zB⟩⟩
        ·rw [if_neg Ad] at H; have BG : (AS == (wrap64 (1 + (AA.length : Int)))) = false := beq_eq_false_iff_ne.mpr Ad; have BH : (AS != (wrap64 (1 + (AA.length : Int)))) = true := bne_iff_ne.mpr Ad; rw [HRT.out] at H; cases H
       ·rw [if_neg Ac] at H; have BE : (AY == AF) = false := beq_eq_false_iff_ne.mpr Ac; have BF : (AY != AF) = true := bne_iff_ne.mpr Ac; rw [HRT.out] at H; cases H
      ·replace As := Bool.eq_false_iff.mpr As; subst As; rw [zff] at H; rw [HRT.out] at H; cases H
     ·rw [if_neg Ah] at H; have AU : decide (0 < (AJ.length : Int)) = false := decide_eq_false Ah; have BD : decide (0 < AJ.length) = false := decide_eq_false (by omega); clear Ah
      (first | rw [AU] | rw [BD] | rw [BD] | (simp only [i64_w, i32_w]; rw [AU]) | skip)
      by_cases Aa : (AA.length : Int) = 0
      ·rw [if_pos Aa] at H; have BI : ((AA.length : Int) == 0) = true := beq_iff_eq.mpr Aa; have BJ : ((AA.length : Int) != 0) = false := bne_eq_false_iff_eq.mpr Aa; clear Aa
       have H' := zm H
       clear H
       go_wp2
       go_meet
       case rel => exact ⟨_, (1), zF, H', ⟨zO⟩, ⟨by (with_reducible repeat (first | apply Kd.R_alloc | apply Kd.R_drewN | apply Kd.R_drew)); exact Kd.R_mono AP.out (fun _ hk => trivial)⟩, ⟨zB⟩⟩
      ·rw [if_neg Aa] at H; have BI : ((AA.length : Int) == 0) = false := beq_eq_false_iff_ne.mpr Aa; have BJ : ((AA.length : Int) != 0) = true := bne_iff_ne.mpr Aa
       have Be : ¬ (AA = []) := fun h_ => Aa (by rw [h_]; rfl)
       rw [HRT.out] at H; cases H
    case rest =>
     clear Am; (try clear c3); (try clear c7); (try clear c9); obtain ⟨kq, AX, rfl, HA, BU, AC, HB⟩ := hcut
     cases kq with
     | zero => exact absurd HA.out (by simp [laws_FnNumbers.j0])
     | succ Aj =>
      have H := HA.out; clear HA; simp only [laws_FnNumbers.j0] at H; replace H := Option.bind_eq_some_iff.mp H; obtain ⟨⟨AZ, BA, BB⟩, B1, H⟩ := H; (try dsimp only at H); have BZ := zm B1; clear B1; have An := zm H; clear H; obtain ⟨Ab, AR, eo33⟩ := Kd.R_slice AC.out; subst eo33
      go_upto_region 16 with (first | ((with_reducible refine gate_callee (f := 24) rfl ?_); refine zg (some 61) #[.slice Ab y197.length AR, .int .i64 AX] Try.func24 ?_; (with_reducible refine (impl_GetText.calls Aj _ _ y197 AX AZ BA BB _ ?side1 ?side2 BZ.out).mono ?_); (case side1 => repeat (first | exact (Kd.R_reads' AC.out).2.2 | (with_reducible refine Kd.C_alloc ?_ _) | (with_reducible refine Kd.C_drewN ?_ _) | (with_reducible refine Kd.C_drew ?_))); (case side2 => exact (Kd.R_reads' AC.out).2.1); rintro e w' ⟨rfl, ⟨nd, rfl⟩⟩; refine ⟨_, rfl, ?_⟩))
      (try simp only [Act.put, List.setIfInBounds_toArray, List.set_cons_zero, List.set_cons_succ])
      go_cut [77] (fun v77 wc => ∃ (kq : Nat) (AW : Bool), v77 = .bool AW ∧ Aside0 (laws_FnNumbers.j1 kq l0 y197 AW = some r) ∧ Aside0 (kq ≤ Aj) ∧ Aside0 (Kd.R (Kd.int .u8) 5 wc w.heap.size (fun _ => True) (.slice Ab y197.length AR) y197) ∧ Aside0 (Below w.heap.size w wc))
      case first =>
       have H := An.out; clear An
       by_cases At : BB = true
       ·subst At; rw [if_pos rfl] at H
        by_cases Ae : AZ.toList = AE.toList
        ·rw [if_pos Ae] at H; have AV : (AZ.toList == AE.toList) = true := beq_iff_eq.mpr Ae; have BK : (AZ.toList != AE.toList) = false := bne_eq_false_iff_eq.mpr Ae; clear Ae
         (first | rw [AV] | (simp only [i64_w, i32_w]; rw [AV]) | skip)
         have H' := zm H
         clear H
         go_wp2
         go_meet
         case rel => exact ⟨_, ((BA != (y197.length : Int))), zF, H', ⟨by have := BU.out; first | omega | exact Nat.le_refl _⟩, ⟨zr AC⟩, ⟨zB⟩⟩
        ·rw [if_neg Ae] at H; have AV : (AZ.toList == AE.toList) = false := beq_eq_false_iff_ne.mpr Ae; have BK : (AZ.toList != AE.toList) = true := bne_iff_ne.mpr Ae
         (first | rw [AV] | (simp only [i64_w, i32_w]; rw [AV]) | skip)
         rw [HRT.out] at H
         exact absurd H (by cases Aj <;> simp [laws_FnNumbers.j1])
       ·replace At := Bool.eq_false_iff.mpr At; subst At; rw [zff] at H; rw [HRT.out] at H
        exact absurd H (by cases Aj <;> simp [laws_FnNumbers.j1])
      case rest =>
       clear An; (try clear c3); (try clear c7); (try clear c9); obtain ⟨kq, AW, rfl, HA, Bm, AC, HB⟩ := hcut
       cases kq with
       | zero => exact absurd HA.out (by simp [laws_FnNumbers.j1])
       | succ AH =>
        have H := HA.out; clear HA; simp only [laws_FnNumbers.j1] at H
        by_cases Au : AW = true
        ·subst Au; rw [if_pos rfl] at H; rw [HRT.out] at H; cases H
        ·replace Au := Bool.eq_false_iff.mpr Au; subst Au; rw [zff] at H
         obtain ⟨y209, hy209⟩ : ∃ y_ : List Int, y_ = (([] : List Int)) := ⟨_, rfl⟩
         replace H : (if y209.length + y197.length < 140737488355328 then ((some (y209 ++ y197 : List Int)).bind fun y212 => ((laws_at0.f l0 3).bind fun AM => (if (y197.length : Int) = 0 then (none) else (if 0 ≤ (Int.tmod AM (y197.length : Int)) then (if (Int.tmod AM (y197.length : Int)) < (y212.length : Int) then ((laws_at0.f l0 4).bind fun AN => ((impl_Crc.f AH (y212.set ((Int.tmod AM (y197.length : Int)) : Int).toNat (((rd y212 (Int.tmod AM (y197.length : Int))) + ((wrap64 (1 + (Int.tmod AN 255))) % 256)) % 256))).bind fun AK => ((impl_Crc.f AH y197).bind fun AL => (if AK = AL then (some false) else ((impl_Crc.f AH y197).bind fun AQ => (some (decide (AQ ≥ 0)))))))) else (none)) else (none))))) else (none)) = some r := by first | (rw [hy209]; with_reducible exact H) | (have H2_ := (Option.bind_some _ _).symm.trans H; rw [hy209]; with_reducible exact H2_) | (have H2_ := (Option.bind_some _ _).symm.trans H; with_reducible exact H2_) | with_reducible exact H | (rw [hy209]; exact H) | exact H
         have Ny209 := zm hy209; clear hy209
         by_cases Av : y209.length + y197.length < 140737488355328
         ·rw [if_pos Av] at H; have LMc37 := zm Av; clear Av
          obtain ⟨y212, hy212⟩ : ∃ y_ : List Int, y_ = (y209 ++ y197) := ⟨_, rfl⟩
          replace H : ((laws_at0.f l0 3).bind fun AM => (if (y197.length : Int) = 0 then (none) else (if 0 ≤ (Int.tmod AM (y197.length : Int)) then (if (Int.tmod AM (y197.length : Int)) < (y212.length : Int) then ((laws_at0.f l0 4).bind fun AN => ((impl_Crc.f AH (y212.set ((Int.tmod AM (y197.length : Int)) : Int).toNat (((rd y212 (Int.tmod AM (y197.length : Int))) + ((wrap64 (1 + (Int.tmod AN 255))) % 256)) % 256))).bind fun AK => ((impl_Crc.f AH y197).bind fun AL => (if AK = AL then (some false) else ((impl_Crc.f AH y197).bind fun AQ => (some (decide (AQ ≥ 0)))))))) else (none)) else (none)))) = some r := by first | (rw [hy212]; with_reducible exact H) | (have H2_ := (Option.bind_some _ _).symm.trans H; rw [hy212]; with_reducible exact H2_) | (have H2_ := (Option.bind_some _ _).symm.trans H; with_reducible exact H2_) | with_reducible exact H | (rw [hy212]; exact H) | exact H
          have Ny212 := zm hy212; clear hy212; replace H := Option.bind_eq_some_iff.mp H; obtain ⟨AM, B2, H⟩ := H; (try dsimp only at H); have BO := zm B2; clear B2
          by_cases Ak : (y197.length : Int) = 0
          ·rw [if_pos Ak] at H
           exact absurd H (by simp)
          ·rw [if_neg Ak] at H; have Bf : ((y197.length : Int) == 0) = false := beq_eq_false_iff_ne.mpr Ak; have Bg : ((y197.length : Int) != 0) = true := bne_iff_ne.mpr Ak
           have Bh : ¬ (y197 = []) := fun h_ => Ak (by rw [h_]; rfl)
           obtain ⟨ji40, hji40⟩ : ∃ j_ : Int, (Int.tmod AM (y197.length : Int)) = j_ := ⟨_, rfl⟩
           replace H : (if 0 ≤ (ji40) then (if (ji40) < (y212.length : Int) then ((laws_at0.f l0 4).bind fun AN => ((impl_Crc.f AH (y212.set ((ji40) : Int).toNat (((rd y212 (ji40)) + ((wrap64 (1 + (Int.tmod AN 255))) % 256)) % 256))).bind fun AK => ((impl_Crc.f AH y197).bind fun AL => (if AK = AL then (some false) else ((impl_Crc.f AH y197).bind fun AQ => (some (decide (AQ ≥ 0)))))))) else (none)) else (none)) = some r := by first | (rw [hji40] at H; exact H) | (simp only [hji40] at H ⊢; exact H)
           (try rw [hji40] at BO)
           by_cases Aw : 0 ≤ (ji40)
           ·rw [if_pos Aw] at H; have Bi : decide (0 ≤ (ji40)) = true := decide_eq_true Aw; clear Aw
            by_cases Ax : (ji40) < (y212.length : Int)
            ·rw [if_pos Ax] at H; have Bj : decide ((ji40) < (y212.length : Int)) = true := decide_eq_true Ax; clear Ax; replace H := Option.bind_eq_some_iff.mp H; obtain ⟨AN, B3, H⟩ := H; (try dsimp only at H); have Ba := zm B3; clear B3
             obtain ⟨y218, hy218⟩ : ∃ y_ : List Int, y_ = (y212.set ((ji40) : Int).toNat (((rd y212 (ji40)) + ((wrap64 (1 + (Int.tmod AN 255))) % 256)) % 256)) := ⟨_, rfl⟩
             replace H : ((impl_Crc.f AH y218).bind fun AK => ((impl_Crc.f AH y197).bind fun AL => (if AK = AL then (some false) else ((impl_Crc.f AH y197).bind fun AQ => (some (decide (AQ ≥ 0))))))) = some r := by first | (rw [hy218]; with_reducible exact H) | (have H2_ := (Option.bind_some _ _).symm.trans H; rw [hy218]; with_reducible exact H2_) | (have H2_ := (Option.bind_some _ _).symm.trans H; with_reducible exact H2_) | with_reducible exact H | (rw [hy218]; exact H) | exact H
             have Ny218 := zm hy218; clear hy218; replace H := Option.bind_eq_some_iff.mp H; obtain ⟨AK, B4, H⟩ := H; (try dsimp only at H); have Bb := zm B4; clear B4; replace H := Option.bind_eq_some_iff.mp H; obtain ⟨AL, B5, H⟩ := H; (try dsimp only at H); have Bc := zm B5; clear B5
             by_cases Af : AK = AL
             ·rw [if_pos Af] at H; have BL : (AK == AL) = true := beq_iff_eq.mpr Af; have BM : (AK != AL) = false := bne_eq_false_iff_eq.mpr Af; clear Af; rw [HRT.out] at H; cases H
             ·rw [if_neg Af] at H; have BL : (AK == AL) = false := beq_eq_false_iff_ne.mpr Af; have BM : (AK != AL) = true := bne_iff_ne.mpr Af; replace H := Option.bind_eq_some_iff.mp H; obtain ⟨AQ, B6, H⟩ := H; (try dsimp only at H); have Bd := zm B6; clear B6; obtain rfl := Option.some.inj H
              try go_wp2_with (first | ((with_reducible refine gate_dst (N := 78) rfl ?_); (try (refine gate_guard (by rfl) ?_; dsimp only)); refine Kd.R_lit (Kd.int .u8) _ 5 ?hg (N := 78) ?hd (xs := ([] : List Int)) (inner := []) (ok := fun _ => True) (okp := fun _ => True) ?hr ?hp (fun _ hk => hk) trivial (Below.refl _ _) (Nat.le_refl _) (by simp) ?_; (case hd => rfl); (case hg => rfl); (case hr => first | (go_simp; done) | (go_simp; rfl)); (case hp => exact (Reps.none _ _)); intro v210 Bx ho50 hb hg_ hnew_; clear hg_ hnew_; (first | rw [← Ny209.out] at ho50 | (simp only [Int.reduceToNat] at ho50; rw [← Ny209.out] at ho50)); have Ar := zm (Kd.R_lower (Kd.R_new' ho50 (Kd.R_lt (zr AC))) (below_size zB)); replace AC := zm (Kd.R_elder' (zr AC) (Kd.R_base ho50) hb); replace HB := zm (below_step zB hb); clear hb ho50) | ((with_reducible refine gate_builtin (b := .append) (xs := #[.tmp 78, .tmp 79]) rfl ?_); (try (refine gate_guard (by rfl) ?_; dsimp only)); at_builtin; refine Kd.R_append_rows (Kd.int .u8) (w0 := w) w.heap.size rfl (.tmp 78) (.tmp 79) 22 5 (.int .u8 0) 1 rfl Try.underlying22 info5 rfl (by decide) (by omega) v210 y209 y197 _ _ _ (fun k_ => some k_ ≠ (.slice Ab y197.length AR : Value).ownBlock) (fun _ => False) rfl rfl ?aO ?aR (fun _ _ h => h) (fun _ h => h.elim) ?aF ?aB ?aS ?aL ?_; (case aR => repeat (first | exact (Kd.R_reads' AC.out).2.2 | (with_reducible refine Kd.C_alloc ?_ _) | (with_reducible refine Kd.C_drewN ?_ _) | (with_reducible refine Kd.C_drew ?_))); (case aB => exact zB); (case aF => exact (fun k_ hk => Kd.fresh' (Kd.R_lt (zr AC)) k_ hk)); (case aO => exact (by (with_reducible repeat (first | apply Kd.R_alloc | apply Kd.R_drewN | apply Kd.R_drew)); exact Kd.R_mono Ar.out (fun _ hk => hk.2))); (case aS => exact (below_size zB)); (case aL => have := LMc37.out; omega); intro v213 Ay ho hb hg hat; rw [← Ny212.out] at ho; replace AC := zm (Kd.R_after (ok := (fun _ => True)) (zr AC) hg hat); replace HB := zm hb; have AG := zm (ho); clear Ar; clear ho hb hg hat) | ((with_reducible refine gate_callee (f := 25) rfl ?_); refine zg (some 82) #[.slice A0 l0.length c0, .int .i64 3] Try.func25 ?_; (with_reducible refine (laws_at0.calls _ _ l0 3 AM _ (zk (Kd.C_below HR0.out HB.out)) Ag.out BO.out).mono ?_); rintro e w' ⟨rfl, ⟨nd, rfl⟩⟩; refine ⟨_, rfl, ?_⟩; (try (rw [drewN_self Ay]; generalize hq_ : World.drewN Ay _ = Ay; have n0_ := zm (Kd.R_at hq_ AC.out); have n1_ := zm (Kd.R_at hq_ AG.out); have n2_ := zm (below_at hq_ HB.out); clear hq_ AC AG HB; have AC := n0_; have AG := n1_; have HB := n2_; clear n0_ n1_ n2_))))
              replace AC := zm (Kd.R_drew AC.out); replace AG := zm (Kd.R_drew AG.out); replace HB := zm (below_drew1 HB.out); obtain ⟨Bl, Ai, eo53⟩ := Kd.R_slice AG.out
              (first | subst eo53 | (injection eo53 with f1_ f2_ f3_; have f4_ := f1_.symm; have f5_ := f3_.symm; clear f1_ f2_ f3_; subst f4_; subst f5_))
              have p216 : 0 ≤ ((ji40) : Int) := zd; have q216 : (ji40) < (y212.length : Int) := zd; obtain ⟨ad216, e216, hx216_0⟩ := Kd.at_int (Kd.R_reads' AG.out).2.2 (ji40) p216 q216; cases e216; replace p216 := eq_true p216; replace q216 := eq_true q216
              refine start_ (n := 14) (S := fun w' => w'.cell? (ad216.add ((ji40)).toNat) = some (.int .u8 (rd y212 (ji40)))) (ds := [13]) (zl 14 0) (by kernel_rfl) rfl rfl (hx216_0) (fun hHeld => ?_); refine with_tabW laws_FnNumbers.tab20 laws_FnNumbers.bits20 (fun HT_ HW_ => ?_)
              generalize Ay.drew = By at AC AG HB hx216_0 hHeld ⊢
              refine zu 0 86 14 1 ?_
              refine zu 1 87 14 3 ?_
              refine zu 2 88 14 7 ?_
              refine zu 3 89 14 15 ?_
              refine zu 4 90 14 31 ?_
              refine zu 6 92 14 95 ?_
              refine take_ (i := 5) (N := some 91) (v := ?_) (a' := ?_) #[true, true, true, true, true, true, true, false, false, false, false, false, false, false] rfl rfl (take_ofW HT_.out HW_.out (by kernel_rfl)) (fun _ _ _ h => h) (Or.inl ⟨by rfl, ?_⟩) hHeld ?_ ?_
              rotate_left
              ·intro w' s0
               go_simp
               (with_reducible rfl)
              rotate_left
              ·simp only [Act.put, List.setIfInBounds_toArray, List.set_cons_zero, List.set_cons_succ, i64_w, i32_w]
               rfl
              refine zo 7 (some 93) (zl 14 255) (fun K hK => ?_); refine zgo #[.slice A0 l0.length c0, .int .i64 4] Try.func25 ?_; (with_reducible refine (laws_at0.calls _ _ l0 4 AN _ (zk (Kd.C_below HR0.out HB.out)) Ag.out Ba.out).mono ?_); rintro e w' ⟨rfl, ⟨nd, rfl⟩⟩; refine ⟨_, rfl, ?_⟩; have p44 : 0 ≤ ((ji40) : Int) := zd; have q44 : ((ji40) : Int) < ((y212.length : Int) : Int) := zd; obtain ⟨go44, Bo, eo44, B9, gl44, cl44, HG44⟩ := Kd.R_form AG.out (by omega)
              (first | cases eo44 | (injection eo44 with ea_ en_ ec_; (first | subst ea_ | (injection ea_ with ea_; subst ea_)); subst ec_; clear en_))
              have GB44 := zm B9; have GG44 := zm HG44; clear B9 gl44 HG44
              (first | simp only [add_plain] at hx216_0 | skip)
              obtain ⟨hx44_0, hf44_0⟩ := Kd.R_celln 0 AG.out ((ji40) : Int) p44 q44; replace p44 := eq_true p44; replace q44 := eq_true q44; have HP54 := Kd.R_putn AG.out ((ji40) : Int) (((rd y212 (ji40)) + ((wrap64 (1 + (Int.tmod AN 255))) % 256)) % 256); rw [← Ny218.out] at HP54; have HQ54 := zm HP54; clear HP54; refine hK.out _ _ (hHeld) (fun hHeld => ?_); clear hK K; refine zn ?_
              refine zu 8 94 14 511 ?_
              refine zu 9 95 14 1023 ?_
              refine zu 10 96 14 2047 ?_
              refine zu 11 97 14 4095 ?_
              refine zu 12 98 14 8191 ?_
              refine last_ (i := 13) (N := none) #[true, true, true, true, true, true, true, true, true, true, true, true, true, true] rfl rfl (one_of HT_.out (by kernel_rfl)) (by decide) (fun K hK => ?_)
              refine skip_ (w1 := ?_) (by rfl) rfl ?_ ?_
              rotate_left
              ·go_simp
               rfl
              refine hK.out _ _ ?_; clear hK K
              refine done_ (done_of HT_.out (by kernel_rfl)) ?_
              try go_wp2_with (first | ((with_reducible refine gate_callee (f := 26) rfl ?_); refine goesL_ (some 100) rfl rfl Try.func26 (by kernel_rfl) rfl #[.slice (some ⟨go44, 0, none⟩) y218.length Ai] rfl (by (try simp only [List.map_toArray, List.map_cons, List.map_nil]); first | done | (rw [show y218.length = y212.length from (Kd.R_reads' HQ54.out).1.symm] <;> first | rfl | (apply congrArg (fun z => #[z]); go_simp)) | rfl | (simp only [List.length_drop, List.length_take]; rfl)) ?_; (with_reducible refine (impl_Crc.calls AH _ _ y218 AK _ ?side1 ?side2 Bb.out).mono ?_); (case side1 => refine (Kd.R_reads' (e := 5) (base := w.heap.size) (ok := fun k_ => some k_ ≠ (.slice Ab y197.length AR : Value).ownBlock) (n := y212.length) (c := Ai) ?_).2.2; exact (by (with_reducible repeat (first | apply Kd.R_alloc | apply Kd.R_drewN | apply Kd.R_drew)); exact HQ54.out)); (case side2 => rw [show y218.length = y212.length from (Kd.R_reads' HQ54.out).1.symm]; exact (Kd.R_reads' AG.out).2.1); rintro e w' ⟨rfl, ⟨nd, rfl⟩⟩; refine ⟨_, rfl, ?_⟩) | ((with_reducible refine gate_callee (f := 26) rfl ?_); refine zg (some 102) #[.slice Ab y197.length AR] Try.func26 ?_; (with_reducible refine (impl_Crc.calls AH _ _ y197 AL _ ?side1 ?side2 Bc.out).mono ?_); (case side1 => refine (Kd.R_reads' (e := 5) (base := w.heap.size) (ok := fun k_ => (True ∧ some k_ ≠ (.slice (some ⟨go44, 0, none⟩) y212.length Ai : Value).ownBlock)) (n := y197.length) (c := AR) ?_).2.2; exact (by (with_reducible repeat (first | apply Kd.R_alloc | apply Kd.R_drewN | apply Kd.R_drew)); exact (Kd.R_mono (Kd.R_far (p := ⟨go44, ((ji40) : Int).toNat, none⟩) (Kd.R_mono AC.out (fun k_ hk => (⟨hk, fun e_ => hk.2 (by rw [e_]; rfl)⟩ : _ ∧ k_ ≠ go44))) (fun _ hk => hk.2) _) (fun _ h_ => h_.1)))); (case side2 => exact (Kd.R_reads' AC.out).2.1); rintro e w' ⟨rfl, ⟨nd, rfl⟩⟩; refine ⟨_, rfl, ?_⟩) | (go_at_call 26; (with_reducible refine (impl_Crc.calls AH _ _ y197 AQ _ ?side1 ?side2 Bd.out).mono ?_); (case side1 => refine (Kd.R_reads' (e := 5) (base := w.heap.size) (ok := fun k_ => (True ∧ some k_ ≠ (.slice (some ⟨go44, 0, none⟩) y212.length Ai : Value).ownBlock)) (n := y197.length) (c := AR) ?_).2.2; exact (by (with_reducible repeat (first | apply Kd.R_alloc | apply Kd.R_drewN | apply Kd.R_drew)); exact (Kd.R_mono (Kd.R_far (p := ⟨go44, ((ji40) : Int).toNat, none⟩) (Kd.R_mono AC.out (fun k_ hk => (⟨hk, fun e_ => hk.2 (by rw [e_]; rfl)⟩ : _ ∧ k_ ≠ go44))) (fun _ hk => hk.2) _) (fun _ h_ => h_.1)))); (case side2 => exact (Kd.R_reads' AC.out).2.1); rintro e w' ⟨rfl, ⟨nd, rfl⟩⟩))
              go_ret
              exact ⟨by first | rfl | (simp [errW_none, errW_some] <;> rfl) | (simp only [← hji40]; first | rfl | (simp [errW_none, errW_some] <;> rfl)) | (simp [*, errW_none, errW_some] <;> rfl), zH⟩
            ·rw [if_neg Ax] at H
             exact absurd H (by simp)
           ·rw [if_neg Aw] at H
            exact absurd H (by simp)
         ·rw [if_neg Av] at H
          exact absurd H (by simp)
   ·rw [if_neg c9] at H
    exact absurd H (by simp)
  ·rw [if_neg c7] at H
   exact absurd H (by simp)

def laws_FnNumbers.Pure : Prop := ∀ (l0 : List Int), l0.length ≤ maxLen → l0.length * 1 ≤ 140737488351232 → (∀ x ∈ l0, (Lit.int .u8 x).wf = true) → ∃ k, laws_FnNumbers.f k l0 = some true

end Go.Proofs.Ytgjglbjdkikajaa.P
