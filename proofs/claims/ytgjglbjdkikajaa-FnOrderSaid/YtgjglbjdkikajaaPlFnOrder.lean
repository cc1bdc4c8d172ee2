-- by a program of this session, for this seat
import Derived.Test.YtgjglbjdkikajaaZ
import Derived.Test.YtgjglbjdkikajaaP0
import Derived.Test.YtgjglbjdkikajaaPac
import Derived.Test.YtgjglbjdkikajaaPab
import Derived.Test.YtgjglbjdkikajaaPau
import Derived.Test.YtgjglbjdkikajaaPad
namespace Go.Proofs.Ytgjglbjdkikajaa.P
open Go.RowKit Go.Proofs.YtgjglbjdkikajaaW.PrintWords Go.Proofs.YtgjglbjdkikajaaW.PrintLast Go.Proofs.YtgjglbjdkikajaaW.PrintMore Go.Proofs.Ytgjglbjdkikajaa.Z
attribute [local go_sem] max2_int min2_int max_two min_two max_three min_three max_four min_four   -- for this text's walks alone
set_option linter.unusedVariables false
set_option linter.unusedSimpArgs false

section
attribute [local go_sem high] eqA47
/-! ### laws_FnOrder: function 6 -/
mutual
def laws_FnOrder.j0 : Nat → Int → Bool → Int → Int → Int → Int → ByteArray → Int → Int → Int → Int → ByteArray → Int → Int → Int → Int → ByteArray → Option (Bool)
 | 0, _, _, _, _, _, _, _, _, _, _, _, _, _, _, _, _, _ => none
 | k + 1, x7, x53, x324000, x324001, x324002, x324003, x324004, x325000, x325001, x325002, x325003, x325004, x337000, x337001, x337002, x337003, x337004 => if x53 = true then (some false) else ((impl_EntryMax.f k x324000 x324001 x324002 x324003 x324004 x325000 x325001 x325002 x325003 x325004).bind fun bt342 => ((impl_EntryMax.f k x325000 x325001 x325002 x325003 x325004 x324000 x324001 x324002 x324003 x324004).bind fun bt348 => (if (!(bt342.1 == bt348.1) || (!(bt342.2.1 == bt348.2.1) || (!(bt342.2.2.1 == bt348.2.2.1) || (!(bt342.2.2.2.1 == bt348.2.2.2.1) || (!(bt342.2.2.2.2.toList == bt348.2.2.2.2.toList)))))) = true then (laws_FnOrder.j1 k x7 true x324000 x324001 x324002 x324003 x324004 x325000 x325001 x325002 x325003 x325004 x337000 x337001 x337002 x337003 x337004) else ((impl_EntryCmp.f k bt342.1 bt342.2.1 bt342.2.2.1 bt342.2.2.2.1 bt342.2.2.2.2 x324000 x324001 x324002 x324003 x324004).bind fun t353 => (if t353 < 0 then (laws_FnOrder.j1 k x7 true x324000 x324001 x324002 x324003 x324004 x325000 x325001 x325002 x325003 x325004 x337000 x337001 x337002 x337003 x337004) else ((impl_EntryCmp.f k bt342.1 bt342.2.1 bt342.2.2.1 bt342.2.2.2.1 bt342.2.2.2.2 x325000 x325001 x325002 x325003 x325004).bind fun t354 => (if t354 < 0 then (laws_FnOrder.j1 k x7 true x324000 x324001 x324002 x324003 x324004 x325000 x325001 x325002 x325003 x325004 x337000 x337001 x337002 x337003 x337004) else (if (!(bt342.1 == x324000) || (!(bt342.2.1 == x324001) || (!(bt342.2.2.1 == x324002) || (!(bt342.2.2.2.1 == x324003) || (!(bt342.2.2.2.2.toList == x324004.toList)))))) = true then (laws_FnOrder.j1 k x7 (!(bt342.1 == x325000) || (!(bt342.2.1 == x325001) || (!(bt342.2.2.1 == x325002) || (!(bt342.2.2.2.1 == x325003) || (!(bt342.2.2.2.2.toList == x325004.toList)))))) x324000 x324001 x324002 x324003 x324004 x325000 x325001 x325002 x325003 x325004 x337000 x337001 x337002 x337003 x337004) else (laws_FnOrder.j1 k x7 false x324000 x324001 x324002 x324003 x324004 x325000 x325001 x325002 x325003 x325004 x337000 x337001 x337002 x337003 x337004)))))))))
def laws_FnOrder.j1 : Nat → Int → Bool → Int → Int → Int → Int → ByteArray → Int → Int → Int → Int → ByteArray → Int → Int → Int → Int → ByteArray → Option (Bool)
 | 0, _, _, _, _, _, _, _, _, _, _, _, _, _, _, _, _, _ => none
 | k + 1, x7, x83, x324000, x324001, x324002, x324003, x324004, x325000, x325001, x325002, x325003, x325004, x337000, x337001, x337002, x337003, x337004 => if x83 = true then (some false) else ((impl_EntryMax.f k x324000 x324001 x324002 x324003 x324004 x325000 x325001 x325002 x325003 x325004).bind fun bt355 => ((impl_EntryMax.f k bt355.1 bt355.2.1 bt355.2.2.1 bt355.2.2.2.1 bt355.2.2.2.2 x337000 x337001 x337002 x337003 x337004).bind fun bt360 => ((impl_EntryMax.f k x325000 x325001 x325002 x325003 x325004 x337000 x337001 x337002 x337003 x337004).bind fun bt365 => ((impl_EntryMax.f k x324000 x324001 x324002 x324003 x324004 bt365.1 bt365.2.1 bt365.2.2.1 bt365.2.2.2.1 bt365.2.2.2.2).bind fun bt370 => (if (!(bt360.1 == bt370.1) || (!(bt360.2.1 == bt370.2.1) || (!(bt360.2.2.1 == bt370.2.2.1) || (!(bt360.2.2.2.1 == bt370.2.2.2.1) || (!(bt360.2.2.2.2.toList == bt370.2.2.2.2.toList)))))) = true then (laws_FnOrder.j2 k x7 true x324000 x324001 x324002 x324003 x324004 x325000 x325001 x325002 x325003 x325004 x337000 x337001 x337002 x337003 x337004) else ((impl_EntryMax.f k x324000 x324001 x324002 x324003 x324004 x324000 x324001 x324002 x324003 x324004).bind fun bt375 => (laws_FnOrder.j2 k x7 (!(bt375.1 == x324000) || (!(bt375.2.1 == x324001) || (!(bt375.2.2.1 == x324002) || (!(bt375.2.2.2.1 == x324003) || (!(bt375.2.2.2.2.toList == x324004.toList)))))) x324000 x324001 x324002 x324003 x324004 x325000 x325001 x325002 x325003 x325004 x337000 x337001 x337002 x337003 x337004)))))))
def laws_FnOrder.j2 : Nat → Int → Bool → Int → Int → Int → Int → ByteArray → Int → Int → Int → Int → ByteArray → Int → Int → Int → Int → ByteArray → Option (Bool)
 | 0, _, _, _, _, _, _, _, _, _, _, _, _, _, _, _, _, _ => none
 | k + 1, x7, x101, x324000, x324001, x324002, x324003, x324004, x325000, x325001, x325002, x325003, x325004, x337000, x337001, x337002, x337003, x337004 => if x101 = true then (some false) else (if x7 < 0 then (some true) else ((impl_EntryCmp.f k x325000 x325001 x325002 x325003 x325004 x337000 x337001 x337002 x337003 x337004).bind fun t380 => (if t380 < 0 then (some true) else ((impl_EntryCmp.f k x324000 x324001 x324002 x324003 x324004 x337000 x337001 x337002 x337003 x337004).bind fun t381 => (some (decide (t381 ≥ 0)))))))
end
def laws_FnOrder.f (k : Nat) (l0 : List Int) : Option (Bool) := (laws_big.f l0).bind fun t312 => (if t312 = true then (some true) else ((spec_DrawEntryCmp.f k l0).bind fun bt313 => ((spec_DrawEntryCmp.f k (l0.drop 1)).bind fun bt326 => ((impl_EntryCmp.f k bt313.1 bt313.2.1 bt313.2.2.1 bt313.2.2.2.1 bt313.2.2.2.2.1 bt313.2.2.2.2.2.1 bt313.2.2.2.2.2.2.1 bt313.2.2.2.2.2.2.2.1 bt313.2.2.2.2.2.2.2.2.1 bt313.2.2.2.2.2.2.2.2.2).bind fun t338 => ((spec_EntryCmp.f k bt313.1 bt313.2.1 bt313.2.2.1 bt313.2.2.2.1 bt313.2.2.2.2.1 bt313.2.2.2.2.2.1 bt313.2.2.2.2.2.2.1 bt313.2.2.2.2.2.2.2.1 bt313.2.2.2.2.2.2.2.2.1 bt313.2.2.2.2.2.2.2.2.2).bind fun t339 => (if t338 = t339 then ((impl_EntryCmp.f k bt313.2.2.2.2.2.1 bt313.2.2.2.2.2.2.1 bt313.2.2.2.2.2.2.2.1 bt313.2.2.2.2.2.2.2.2.1 bt313.2.2.2.2.2.2.2.2.2 bt313.1 bt313.2.1 bt313.2.2.1 bt313.2.2.2.1 bt313.2.2.2.2.1).bind fun t340 => (if t340 = (wrap64 (-t338)) then (if ((t338 == 0) != (bt313.1 == bt313.2.2.2.2.2.1 && (bt313.2.1 == bt313.2.2.2.2.2.2.1 && (bt313.2.2.1 == bt313.2.2.2.2.2.2.2.1 && (bt313.2.2.2.1 == bt313.2.2.2.2.2.2.2.2.1 && (bt313.2.2.2.2.1.toList == bt313.2.2.2.2.2.2.2.2.2.toList)))))) = true then (laws_FnOrder.j0 k t338 true bt313.1 bt313.2.1 bt313.2.2.1 bt313.2.2.2.1 bt313.2.2.2.2.1 bt313.2.2.2.2.2.1 bt313.2.2.2.2.2.2.1 bt313.2.2.2.2.2.2.2.1 bt313.2.2.2.2.2.2.2.2.1 bt313.2.2.2.2.2.2.2.2.2 bt326.1 bt326.2.1 bt326.2.2.1 bt326.2.2.2.1 bt326.2.2.2.2.1) else ((impl_Newer.f k bt313.1 bt313.2.1 bt313.2.2.1 bt313.2.2.2.1 bt313.2.2.2.2.1 bt313.2.2.2.2.2.1 bt313.2.2.2.2.2.2.1 bt313.2.2.2.2.2.2.2.1 bt313.2.2.2.2.2.2.2.2.1 bt313.2.2.2.2.2.2.2.2.2).bind fun t341 => (laws_FnOrder.j0 k t338 (t341 != (decide (t338 > 0))) bt313.1 bt313.2.1 bt313.2.2.1 bt313.2.2.2.1 bt313.2.2.2.2.1 bt313.2.2.2.2.2.1 bt313.2.2.2.2.2.2.1 bt313.2.2.2.2.2.2.2.1 bt313.2.2.2.2.2.2.2.2.1 bt313.2.2.2.2.2.2.2.2.2 bt326.1 bt326.2.1 bt326.2.2.1 bt326.2.2.2.1 bt326.2.2.2.2.1))) else (laws_FnOrder.j0 k t338 true bt313.1 bt313.2.1 bt313.2.2.1 bt313.2.2.2.1 bt313.2.2.2.2.1 bt313.2.2.2.2.2.1 bt313.2.2.2.2.2.2.1 bt313.2.2.2.2.2.2.2.1 bt313.2.2.2.2.2.2.2.2.1 bt313.2.2.2.2.2.2.2.2.2 bt326.1 bt326.2.1 bt326.2.2.1 bt326.2.2.2.1 bt326.2.2.2.2.1))) else (laws_FnOrder.j0 k t338 true bt313.1 bt313.2.1 bt313.2.2.1 bt313.2.2.2.1 bt313.2.2.2.2.1 bt313.2.2.2.2.2.1 bt313.2.2.2.2.2.2.1 bt313.2.2.2.2.2.2.2.1 bt313.2.2.2.2.2.2.2.2.1 bt313.2.2.2.2.2.2.2.2.2 bt326.1 bt326.2.1 bt326.2.2.1 bt326.2.2.2.1 bt326.2.2.2.2.1)))))))
theorem laws_FnOrder.mono_l : ∀ k, (∀ y0 y1 y2 y3 y4 y5 y6 y7 y8 y9 y10 y11 y12 y13 y14 y15 y16, LeO (laws_FnOrder.j0 k y0 y1 y2 y3 y4 y5 y6 y7 y8 y9 y10 y11 y12 y13 y14 y15 y16) (laws_FnOrder.j0 (k + 1) y0 y1 y2 y3 y4 y5 y6 y7 y8 y9 y10 y11 y12 y13 y14 y15 y16)) ∧ (∀ y0 y1 y2 y3 y4 y5 y6 y7 y8 y9 y10 y11 y12 y13 y14 y15 y16, LeO (laws_FnOrder.j1 k y0 y1 y2 y3 y4 y5 y6 y7 y8 y9 y10 y11 y12 y13 y14 y15 y16) (laws_FnOrder.j1 (k + 1) y0 y1 y2 y3 y4 y5 y6 y7 y8 y9 y10 y11 y12 y13 y14 y15 y16)) ∧ (∀ y0 y1 y2 y3 y4 y5 y6 y7 y8 y9 y10 y11 y12 y13 y14 y15 y16, LeO (laws_FnOrder.j2 k y0 y1 y2 y3 y4 y5 y6 y7 y8 y9 y10 y11 y12 y13 y14 y15 y16) (laws_FnOrder.j2 (k + 1) y0 y1 y2 y3 y4 y5 y6 y7 y8 y9 y10 y11 y12 y13 y14 y15 y16))
 | 0 => ⟨fun _ _ _ _ _ _ _ _ _ _ _ _ _ _ _ _ _ r h => by simp [laws_FnOrder.j0] at h, fun _ _ _ _ _ _ _ _ _ _ _ _ _ _ _ _ _ r h => by simp [laws_FnOrder.j1] at h, fun _ _ _ _ _ _ _ _ _ _ _ _ _ _ _ _ _ r h => by simp [laws_FnOrder.j2] at h⟩
 | k + 1 => by
  obtain ⟨ih0, ih1, ih2⟩ := laws_FnOrder.mono_l k
  refine ⟨?_, ?_, ?_⟩
  ·intro y0 y1 y2 y3 y4 y5 y6 y7 y8 y9 y10 y11 y12 y13 y14 y15 y16
   unfold laws_FnOrder.j0
   repeat' first | (with_reducible first | exact LeO.refl _ | exact LeO.none _ | refine LeO.ite ?_ ?_ | refine LeO.bind ?_ (fun _ => ?_) | apply ih0 | apply ih1 | apply ih2 | apply impl_EntryCmp.mono | apply impl_EntryMax.mono | apply impl_Newer.mono | apply spec_DrawEntryCmp.mono | apply spec_EntryCmp.mono) | apply ih0 | apply ih1 | apply ih2 | apply impl_EntryCmp.mono | apply impl_EntryMax.mono | apply impl_Newer.mono | apply spec_DrawEntryCmp.mono | apply spec_EntryCmp.mono | exact LeO.none _ | refine LeO.ite ?_ ?_ | refine LeO.bind ?_ (fun _ => ?_)
  ·intro y0 y1 y2 y3 y4 y5 y6 y7 y8 y9 y10 y11 y12 y13 y14 y15 y16
   unfold laws_FnOrder.j1
   repeat' first | (with_reducible first | exact LeO.refl _ | exact LeO.none _ | refine LeO.ite ?_ ?_ | refine LeO.bind ?_ (fun _ => ?_) | apply ih0 | apply ih1 | apply ih2 | apply impl_EntryCmp.mono | apply impl_EntryMax.mono | apply impl_Newer.mono | apply spec_DrawEntryCmp.mono | apply spec_EntryCmp.mono) | apply ih0 | apply ih1 | apply ih2 | apply impl_EntryCmp.mono | apply impl_EntryMax.mono | apply impl_Newer.mono | apply spec_DrawEntryCmp.mono | apply spec_EntryCmp.mono | exact LeO.none _ | refine LeO.ite ?_ ?_ | refine LeO.bind ?_ (fun _ => ?_)
  ·intro y0 y1 y2 y3 y4 y5 y6 y7 y8 y9 y10 y11 y12 y13 y14 y15 y16
   unfold laws_FnOrder.j2
   repeat' first | (with_reducible first | exact LeO.refl _ | exact LeO.none _ | refine LeO.ite ?_ ?_ | refine LeO.bind ?_ (fun _ => ?_) | apply ih0 | apply ih1 | apply ih2 | apply impl_EntryCmp.mono | apply impl_EntryMax.mono | apply impl_Newer.mono | apply spec_DrawEntryCmp.mono | apply spec_EntryCmp.mono) | apply ih0 | apply ih1 | apply ih2 | apply impl_EntryCmp.mono | apply impl_EntryMax.mono | apply impl_Newer.mono | apply spec_DrawEntryCmp.mono | apply spec_EntryCmp.mono | exact LeO.none _ | refine LeO.ite ?_ ?_ | refine LeO.bind ?_ (fun _ => ?_)
theorem laws_FnOrder.mono : ∀ a0 k, LeO (laws_FnOrder.f k a0) (laws_FnOrder.f (k + 1) a0) := by
 intro a0 k; obtain ⟨ih0, ih1, ih2⟩ := laws_FnOrder.mono_l k
 unfold laws_FnOrder.f
 repeat' first | (with_reducible first | exact LeO.refl _ | exact LeO.none _ | refine LeO.ite ?_ ?_ | refine LeO.bind ?_ (fun _ => ?_) | apply ih0 | apply ih1 | apply ih2 | apply impl_EntryCmp.mono | apply impl_EntryMax.mono | apply impl_Newer.mono | apply spec_DrawEntryCmp.mono | apply spec_EntryCmp.mono) | apply ih0 | apply ih1 | apply ih2 | apply impl_EntryCmp.mono | apply impl_EntryMax.mono | apply impl_Newer.mono | apply spec_DrawEntryCmp.mono | apply spec_EntryCmp.mono | exact LeO.none _ | refine LeO.ite ?_ ?_ | refine LeO.bind ?_ (fun _ => ?_)
def laws_FnOrder.T9 : Bool × List (List Nat × List Nat) := (true, [([], []), ([], []), ([], []), ([1, 2], [1, 2]), ([0, 3], [0, 3]), ([4, 3], [4]), ([5], [5]), ([5], [5]), ([6, 7, 5, 5], [5, 6, 7]), ([8, 5], [5, 8]), ([5, 9], [5, 9]), ([10, 8], [10]), ([11], [11]), ([11], [11]), ([12, 13, 11, 11], [11, 12, 13]), ([14, 11], [11, 14]), ([11, 15], [11, 15]), ([16, 14], [16]), ([17], [17]), ([17], [17]), ([18, 19, 17], [17, 18, 19]), ([20, 17, 17], [17, 20]), ([21], [21]), ([21], [21]), ([22, 23, 21], [21, 22, 23]), ([21, 24, 17], [17, 21, 24]), ([17, 25], [17, 25])])
def laws_FnOrder.B9 : List Nat := [0, 0, 0, 6, 15, 31, 63, 63, 255, 511, 1023, 2047, 4095, 4095, 16383, 32767, 65535, 131071, 262143, 262143, 1048575, 2097151, 4194303, 4194303, 16777215, 33554431, 67108863]
theorem laws_FnOrder.tab9 : rtab .any (opsOf Try.f6 9) = laws_FnOrder.T9 := by kernel_rfl
theorem laws_FnOrder.bits9 : waitsOk laws_FnOrder.T9.2 laws_FnOrder.B9 = true := by kernel_rfl
def laws_FnOrder.T11 : Bool × List (List Nat × List Nat) := (true, [([], []), ([], []), ([0, 1], [0, 1]), ([], []), ([2, 3, 2], [2, 3]), ([], []), ([], []), ([], []), ([6, 7, 4], [6, 7]), ([5, 8, 8], [5, 8]), ([4, 9], [4, 9]), ([10, 9], [10]), ([11], [11]), ([11], [11]), ([12, 13, 11, 11], [11, 12, 13]), ([11], [11]), ([14, 15, 11], [11, 14, 15]), ([11, 16], [11, 16])])
def laws_FnOrder.B11 : List Nat := [0, 0, 3, 0, 15, 0, 0, 0, 223, 511, 1023, 2047, 4095, 4095, 16383, 4095, 65535, 131071]
theorem laws_FnOrder.tab11 : rtab .any (opsOf Try.f6 11) = laws_FnOrder.T11 := by kernel_rfl
theorem laws_FnOrder.bits11 : waitsOk laws_FnOrder.T11.2 laws_FnOrder.B11 = true := by kernel_rfl
set_option maxHeartbeats 8000000 in
set_option maxRecDepth 100000 in
theorem laws_FnOrder.calls (k : Nat) (A0 : Option Addr) (c0 : Nat) (l0 : List Int) (r : Bool) (w : World) (hr0 : Kd.C (Kd.int .u8) w A0 l0.length l0) (hc0 : l0.length ≤ c0) (h : laws_FnOrder.f k l0 = some r) (hr_ : r = true) :
  Calls Try.prog 6 #[.slice A0 l0.length c0] w fun e w' => e = .returned (.bool r) ∧ Below w.heap.size w w' := by
 have HRT := zm hr_; clear hr_; have hu47 := Try.underlying47; have HR0 := zm hr0; have C7 := zm hc0; clear hr0 hc0; have HB := zm (Below.refl w.heap.size w); have H : ((laws_big.f l0).bind fun Bv => (if Bv = true then (some true) else ((spec_DrawEntryCmp.f k l0).bind fun AA => ((spec_DrawEntryCmp.f k (l0.drop 1)).bind fun AY => ((impl_EntryCmp.f k AA.1 AA.2.1 AA.2.2.1 AA.2.2.2.1 AA.2.2.2.2.1 AA.2.2.2.2.2.1 AA.2.2.2.2.2.2.1 AA.2.2.2.2.2.2.2.1 AA.2.2.2.2.2.2.2.2.1 AA.2.2.2.2.2.2.2.2.2).bind fun AQ => ((spec_EntryCmp.f k AA.1 AA.2.1 AA.2.2.1 AA.2.2.2.1 AA.2.2.2.2.1 AA.2.2.2.2.2.1 AA.2.2.2.2.2.2.1 AA.2.2.2.2.2.2.2.1 AA.2.2.2.2.2.2.2.2.1 AA.2.2.2.2.2.2.2.2.2).bind fun B0 => (if AQ = B0 then ((impl_EntryCmp.f k AA.2.2.2.2.2.1 AA.2.2.2.2.2.2.1 AA.2.2.2.2.2.2.2.1 AA.2.2.2.2.2.2.2.2.1 AA.2.2.2.2.2.2.2.2.2 AA.1 AA.2.1 AA.2.2.1 AA.2.2.2.1 AA.2.2.2.2.1).bind fun B2 => (if B2 = (wrap64 (-AQ)) then (if ((AQ == 0) != (AA.1 == AA.2.2.2.2.2.1 && (AA.2.1 == AA.2.2.2.2.2.2.1 && (AA.2.2.1 == AA.2.2.2.2.2.2.2.1 && (AA.2.2.2.1 == AA.2.2.2.2.2.2.2.2.1 && (AA.2.2.2.2.1.toList == AA.2.2.2.2.2.2.2.2.2.toList)))))) = true then (laws_FnOrder.j0 k AQ true AA.1 AA.2.1 AA.2.2.1 AA.2.2.2.1 AA.2.2.2.2.1 AA.2.2.2.2.2.1 AA.2.2.2.2.2.2.1 AA.2.2.2.2.2.2.2.1 AA.2.2.2.2.2.2.2.2.1 AA.2.2.2.2.2.2.2.2.2 AY.1 AY.2.1 AY.2.2.1 AY.2.2.2.1 AY.2.2.2.2.1) else ((impl_Newer.f k AA.1 AA.2.1 AA.2.2.1 AA.2.2.2.1 AA.2.2.2.2.1 AA.2.2.2.2.2.1 AA.2.2.2.2.2.2.1 AA.2.2.2.2.2.2.2.1 AA.2.2.2.2.2.2.2.2.1 AA.2.2.2.2.2.2.2.2.2).bind fun Bf => (laws_FnOrder.j0 k AQ (Bf != (decide (AQ > 0))) AA.1 AA.2.1 AA.2.2.1 AA.2.2.2.1 AA.2.2.2.2.1 AA.2.2.2.2.2.1 AA.2.2.2.2.2.2.1 AA.2.2.2.2.2.2.2.1 AA.2.2.2.2.2.2.2.2.1 AA.2.2.2.2.2.2.2.2.2 AY.1 AY.2.1 AY.2.2.1 AY.2.2.2.1 AY.2.2.2.2.1))) else (laws_FnOrder.j0 k AQ true AA.1 AA.2.1 AA.2.2.1 AA.2.2.2.1 AA.2.2.2.2.1 AA.2.2.2.2.2.1 AA.2.2.2.2.2.2.1 AA.2.2.2.2.2.2.2.1 AA.2.2.2.2.2.2.2.2.1 AA.2.2.2.2.2.2.2.2.2 AY.1 AY.2.1 AY.2.2.1 AY.2.2.2.1 AY.2.2.2.2.1))) else (laws_FnOrder.j0 k AQ true AA.1 AA.2.1 AA.2.2.1 AA.2.2.2.1 AA.2.2.2.2.1 AA.2.2.2.2.2.1 AA.2.2.2.2.2.2.1 AA.2.2.2.2.2.2.2.1 AA.2.2.2.2.2.2.2.2.1 AA.2.2.2.2.2.2.2.2.2 AY.1 AY.2.1 AY.2.2.1 AY.2.2.2.1 AY.2.2.2.2.1)))))))) = some r := h
 clear h; replace H := Option.bind_eq_some_iff.mp H; obtain ⟨Bv, De, H⟩ := H; (try dsimp only at H); have A2 := zm De; clear De
 by_cases c3 : Bv = true
 ·subst c3; rw [if_pos rfl] at H; obtain rfl := Option.some.inj H; go_enter Try.func6, Try.ntmps6
  go_wp2_with (first | ((with_reducible refine gate_callee (f := 7) rfl ?_); refine zg (some 10) #[.slice A0 l0.length c0] Try.func7 ?_; (with_reducible refine (laws_big.calls _ _ l0 true _ (zk HR0.out) C7.out A2.out).mono ?_); rintro e w' ⟨rfl, ⟨nd, rfl⟩⟩; refine ⟨_, rfl, ?_⟩))
  go_ret
  exact ⟨zE, zB⟩
 ·replace c3 := Bool.eq_false_iff.mpr c3; subst c3; rw [zff] at H; replace H := Option.bind_eq_some_iff.mp H; obtain ⟨⟨AG, AH, AI, AJ, AK, AL, AM, AN, AO, AP⟩, Df, H⟩ := H; (try dsimp only at H); have A4 := zm Df; clear Df; replace H := Option.bind_eq_some_iff.mp H; obtain ⟨⟨Am, An, Ao, Ap, Aq, BB, BC, BD, BE, BF⟩, Dg, H⟩ := H; (try dsimp only at H); have A5 := zm Dg; clear Dg; replace H := Option.bind_eq_some_iff.mp H; obtain ⟨AQ, Dh, H⟩ := H; (try dsimp only at H); have A6 := zm Dh; clear Dh; have DL := zm H; clear H; go_enter Try.func6, Try.ntmps6
  go_upto_region 6 with (first | ((with_reducible refine gate_callee (f := 7) rfl ?_); refine zg (some 10) #[.slice A0 l0.length c0] Try.func7 ?_; (with_reducible refine (laws_big.calls _ _ l0 false _ (zk HR0.out) C7.out A2.out).mono ?_); rintro e w' ⟨rfl, ⟨nd, rfl⟩⟩; refine ⟨_, rfl, ?_⟩) | ((with_reducible refine gate_callee (f := 27) rfl ?_); refine zg (some 13) #[.slice A0 l0.length c0] Try.func27 ?_; (with_reducible refine (spec_DrawEntryCmp.calls k _ _ l0 AG AH AI AJ AK AL AM AN AO AP _ (zk HR0.out) C7.out A4.out).mono ?_); rintro e w8 ⟨rfl, hb⟩; refine ⟨_, rfl, ?_⟩; replace HB := zm (below_step zB hb); clear hb) | ((with_reducible refine gate_dst (N := 3) rfl ?_); refine zbox 3 #[.int .i64 0, .int .i64 0, .int .i64 0, .int .i64 0, .string (⟨#[]⟩ : ByteArray)] 47 ?_; intro AV hg w9 hbox hb; have AB := zm (hbox); have H3 := zge w hg zB; have Gy := zge w hg zB; replace HB := zm (below_step zB hb); clear hb hbox hg) | ((with_reducible refine gate_dst (N := 4) rfl ?_); refine zbox 4 #[.int .i64 0, .int .i64 0, .int .i64 0, .int .i64 0, .string (⟨#[]⟩ : ByteArray)] 47 ?_; intro AW hg Hw hbox hb; have AC := zm (hbox); have H4 := zge w hg zB; have Gz := zge w hg zB; replace HB := zm (below_step zB hb); have Ae := zlt hg (zb AB); have Ag := zgt hg (zb AB); replace AB := zy AB hb; clear hb hbox hg; have H9 := Ae.out; have HY := Ag.out; obtain ⟨CA, CB, CC, CD, CE, Ce, Cf, Cg, Ch, Ci⟩ := zc5 AB; obtain ⟨CF, CG, CH, CI, CJ, Cj, Ck, Cl, Cm, Cn⟩ := zc5 AC; obtain ⟨GH, Dm, hcl14, hA14, hC14⟩ := laws_tail.pre A0 c0 l0 C7.out; have HR325 := zm (hA14 _ HR0.out); have DS := zm hC14; clear hA14 hC14) | ((with_reducible refine gate_callee (f := 9) rfl ?_); refine zg (some 18) #[.slice A0 l0.length c0] Try.func9 ?_; refine (hcl14 _).mono ?_; rintro e w' ⟨rfl, ⟨nd, rfl⟩⟩; refine ⟨_, rfl, ?_⟩) | ((with_reducible refine gate_callee (f := 27) rfl ?_); refine zg (some 19) #[.slice GH (l0.drop 1).length Dm] Try.func27 ?_; (with_reducible refine (spec_DrawEntryCmp.calls k _ _ (l0.drop 1) Am An Ao Ap Aq BB BC BD BE BF _ ?side1 DS.out A5.out).mono ?_); (case side1 => exact Kd.C_below HR325.out zB); rintro e Hx ⟨rfl, hb⟩; refine ⟨_, rfl, ?_⟩; replace AB := zm (blk_below (g := AV) (o := .cells #[.int .i64 AG, .int .i64 AH, .int .i64 AI, .int .i64 AJ, .string AK] 47 (0, 0)) (zfar (zfar (zfar (zfar (zfar (zput (zput (zput (zput (zput (zb AB) 0) 1) 2) 3) 4) Ae) Ae) Ae) Ae) Ae) hb); replace AC := zm (blk_below (g := AW) (o := .cells #[.int .i64 AL, .int .i64 AM, .int .i64 AN, .int .i64 AO, .string AP] 47 (0, 0)) (zput (zput (zput (zput (zput (zfar (zfar (zfar (zfar (zfar (zb AC) Ag) Ag) Ag) Ag) Ag) 0) 1) 2) 3) 4) hb); replace HB := zm (below_step zB hb); clear hb) | ((with_reducible refine gate_dst (N := 5) rfl ?_); refine zbox 5 #[.int .i64 0, .int .i64 0, .int .i64 0, .int .i64 0, .string (⟨#[]⟩ : ByteArray)] 47 ?_; intro Ar hg Hy hbox hb; have AD := zm (hbox); have H5 := zge w hg zB; have H0 := zge w hg zB; replace HB := zm (below_step zB hb); have Af := zlt hg (zb AB); have As := zgt hg (zb AB); replace AB := zy AB hb; have Ah := zlt hg (zb AC); have At := zgt hg (zb AC); replace AC := zy AC hb; clear hb hbox hg) | ((with_reducible refine gate_dst (N := 6) rfl ?_); refine zbox 6 #[.int .i64 0, .int .i64 0, .int .i64 0, .int .i64 0, .string (⟨#[]⟩ : ByteArray)] 47 ?_; intro B3 hg Hz hbox hb; have AE := zm (hbox); have H6 := zge w hg zB; have H1 := zge w hg zB; replace HB := zm (below_step zB hb); have Aj := zlt hg (zb AB); have Av := zgt hg (zb AB); replace AB := zy AB hb; have Ai := zlt hg (zb AC); have Au := zgt hg (zb AC); replace AC := zy AC hb; have Ak := zlt hg (zb AD); have Al := zgt hg (zb AD); replace AD := zy AD hb; clear hb hbox hg; have HC := As.out; have HZ := Af.out; have HD := At.out; have Ha := Ah.out; have HE := Ak.out; have Hb := Al.out; obtain ⟨CK, CL, CM, CN, CO, Co, Cp, Cq, Cr, Cs⟩ := zc5 AD; have HF := Av.out; have Hc := Aj.out; have HG := Au.out; have Hd := Ai.out; obtain ⟨CP, CQ, CR, CS, CT, Ct, Cu, Cv, Cw, Cx⟩ := zc5 AE; obtain ⟨CU, CV, CW, CX, CY, Cy, Cz, D0, D1, D2⟩ := zc5 AB; obtain ⟨CZ, Ca, Cb, Cc, Cd, D3, D4, D5, D6, D7⟩ := zc5 AC) | ((with_reducible refine gate_callee (f := 28) rfl ?_); refine zg (some 24) #[.agg #[.int .i64 AG, .int .i64 AH, .int .i64 AI, .int .i64 AJ, .string AK], .agg #[.int .i64 AL, .int .i64 AM, .int .i64 AN, .int .i64 AO, .string AP]] Try.func28 ?_; (with_reducible refine (impl_EntryCmp.calls k AG AH AI AJ AK AL AM AN AO AP AQ _ A6.out).mono ?_); rintro e I0 ⟨rfl, hb⟩; refine ⟨_, rfl, ?_⟩; replace AB := zyb hb (zfar (zfar (zfar (zfar (zfar (zfar (zfar (zfar (zfar (zfar (zb AB) Af) Af) Af) Af) Af) Aj) Aj) Aj) Aj) Aj); replace AC := zyb hb (zfar (zfar (zfar (zfar (zfar (zfar (zfar (zfar (zfar (zfar (zb AC) Ah) Ah) Ah) Ah) Ah) Ai) Ai) Ai) Ai) Ai); replace AD := zm (blk_below (g := Ar) (o := .cells #[.int .i64 Am, .int .i64 An, .int .i64 Ao, .int .i64 Ap, .string Aq] 47 (0, 0)) (zfar (zfar (zfar (zfar (zfar (zput (zput (zput (zput (zput (zb AD) 0) 1) 2) 3) 4) Ak) Ak) Ak) Ak) Ak) hb); replace AE := zm (blk_below (g := B3) (o := .cells #[.int .i64 BB, .int .i64 BC, .int .i64 BD, .int .i64 BE, .string BF] 47 (0, 0)) (zput (zput (zput (zput (zput (zfar (zfar (zfar (zfar (zfar (zb AE) Al) Al) Al) Al) Al) 0) 1) 2) 3) 4) hb); replace HB := zm (below_step zB hb); clear hb))
  (try simp only [Act.put, List.setIfInBounds_toArray, List.set_cons_zero, List.set_cons_succ])
  go_cut [53] (fun v53 wc => ∃ (kq : Nat) (BL : Bool), v53 = .bool BL ∧ Aside0 (laws_FnOrder.j0 kq AQ BL AG AH AI AJ AK AL AM AN AO AP Am An Ao Ap Aq = some r) ∧ Aside0 (kq ≤ k) ∧ Aside0 (wc.heap[AV]? = some (.cells #[.int .i64 AG, .int .i64 AH, .int .i64 AI, .int .i64 AJ, .string AK] 47 (0, 0))) ∧ Aside0 (wc.heap[AW]? = some (.cells #[.int .i64 AL, .int .i64 AM, .int .i64 AN, .int .i64 AO, .string AP] 47 (0, 0))) ∧ Aside0 (wc.heap[Ar]? = some (.cells #[.int .i64 Am, .int .i64 An, .int .i64 Ao, .int .i64 Ap, .string Aq] 47 (0, 0))) ∧ Aside0 (wc.heap[B3]? = some (.cells #[.int .i64 BB, .int .i64 BC, .int .i64 BD, .int .i64 BE, .string BF] 47 (0, 0))) ∧ Aside0 (Below w.heap.size w wc))
  case first =>
   have H := DL.out; clear DL; replace H := Option.bind_eq_some_iff.mp H; obtain ⟨B0, D8, H⟩ := H; (try dsimp only at H); have GI := zm D8; clear D8
   by_cases BM : AQ = B0
   ·rw [if_pos BM] at H; have BG : (AQ == B0) = true := beq_iff_eq.mpr BM; have DT : (AQ != B0) = false := bne_eq_false_iff_eq.mpr BM; clear BM
    (first | rw [BG] | (simp only [i64_w, i32_w]; rw [BG]) | skip)
    replace H := Option.bind_eq_some_iff.mp H; obtain ⟨B2, D9, H⟩ := H; (try dsimp only at H); have GJ := zm D9; clear D9
    by_cases BN : B2 = (wrap64 (-AQ))
    ·rw [if_pos BN] at H; have DU : (B2 == (wrap64 (-AQ))) = true := beq_iff_eq.mpr BN; have DV : (B2 != (wrap64 (-AQ))) = false := bne_eq_false_iff_eq.mpr BN; clear BN
     by_cases Ay : ((AQ == 0) != (AG == AL && (AH == AM && (AI == AN && (AJ == AO && (AK.toList == AP.toList)))))) = true
     ·rw [if_pos Ay] at H; have DW : ((AQ == 0) != (AG == AL && (AH == AM && (AI == AN && (AJ == AO && (AK.toList == AP.toList)))))) = true := Ay
      (try (have DX : decide ((AQ == 0) = (AG == AL && (AH == AM && (AI == AN && (AJ == AO && (AK.toList == AP.toList)))))) = false := by simpa using Ay))
      (try (have DY : ((AQ == 0) == (AG == AL && (AH == AM && (AI == AN && (AJ == AO && (AK.toList == AP.toList)))))) = false := by simpa using Ay))
      (try (have H8 : ¬ ((AQ == 0) = (AG == AL && (AH == AM && (AI == AN && (AJ == AO && (AK.toList == AP.toList)))))) := by simpa using Ay))
      clear Ay; rw [HRT.out] at H
      exact absurd H (by cases k <;> simp [laws_FnOrder.j0])
     ·rw [if_neg Ay] at H
      have DW : ((AQ == 0) != (AG == AL && (AH == AM && (AI == AN && (AJ == AO && (AK.toList == AP.toList)))))) = false := by simpa using Ay
      (try (have DX : decide ((AQ == 0) = (AG == AL && (AH == AM && (AI == AN && (AJ == AO && (AK.toList == AP.toList)))))) = true := by simpa using Ay))
      (try (have DY : ((AQ == 0) == (AG == AL && (AH == AM && (AI == AN && (AJ == AO && (AK.toList == AP.toList)))))) = true := by simpa using Ay))
      clear Ay; replace H := Option.bind_eq_some_iff.mp H; obtain ⟨Bf, DA, H⟩ := H; (try dsimp only at H); have GK := zm DA; clear DA
      have H' := zm H
      clear H; have HH := Ae.out; have He := Ag.out; have HI := Af.out; have Hf := As.out; have HM := Aj.out; have Hg := Av.out; obtain ⟨Ep, Eq, Er, Es, Et, FY, FZ, Fa, Fb, Fc⟩ := zc5 AB; have HN := Ah.out; have Hh := At.out; have HO := Ai.out; have Hi := Au.out; obtain ⟨Eu, Ev, Ew, Ex, Ey, Fd, Fe, Ff, Fg, Fh⟩ := zc5 AC
      go_wp2_with (first | ((with_reducible refine gate_callee (f := 29) rfl ?_); refine zg (some 28) #[.agg #[.int .i64 AG, .int .i64 AH, .int .i64 AI, .int .i64 AJ, .string AK], .agg #[.int .i64 AL, .int .i64 AM, .int .i64 AN, .int .i64 AO, .string AP]] Try.func29 ?_; (with_reducible refine (spec_EntryCmp.calls k AG AH AI AJ AK AL AM AN AO AP B0 _ GI.out).mono ?_); rintro e I1 ⟨rfl, hb⟩; refine ⟨_, rfl, ?_⟩; replace AB := zy AB hb; replace AC := zy AC hb; replace AD := zy AD hb; replace AE := zy AE hb; replace HB := zm (below_step zB hb); clear hb; obtain ⟨Ez, F0, F1, F2, F3, Fi, Fj, Fk, Fl, Fm⟩ := zc5 AC; obtain ⟨F4, F5, F6, F7, F8, Fn, Fo, Fp, Fq, Fr⟩ := zc5 AB) | (go_at_call 28; (with_reducible refine (impl_EntryCmp.calls k AL AM AN AO AP AG AH AI AJ AK B2 _ GJ.out).mono ?_); rintro e I2 ⟨rfl, hb⟩; replace AB := zy AB hb; replace AC := zy AC hb; replace AD := zy AD hb; replace AE := zy AE hb; replace HB := zm (below_step zB hb); clear hb; obtain ⟨F9, FA, FB, FC, FD, Fs, Ft, Fu, Fv, Fw⟩ := zc5 AB; obtain ⟨FE, FF, FG, FH, FI, Fx, Fy, Fz, G0, G1⟩ := zc5 AC) | (go_at_call 30; (with_reducible refine (impl_Newer.calls k AG AH AI AJ AK AL AM AN AO AP Bf _ GK.out).mono ?_); rintro e I3 ⟨rfl, hb⟩; replace AB := zy AB hb; replace AC := zy AC hb; replace AD := zy AD hb; replace AE := zy AE hb; replace HB := zm (below_step zB hb); clear hb))
      go_meet
      case rel => exact ⟨_, ((Bf != (decide (AQ > 0)))), zF, H', ⟨zO⟩, ⟨zb AB⟩, ⟨zb AC⟩, ⟨zb AD⟩, ⟨zb AE⟩, ⟨zB⟩⟩
    ·rw [if_neg BN] at H; have DU : (B2 == (wrap64 (-AQ))) = false := beq_eq_false_iff_ne.mpr BN; have DV : (B2 != (wrap64 (-AQ))) = true := bne_iff_ne.mpr BN; rw [HRT.out] at H
     exact absurd H (by cases k <;> simp [laws_FnOrder.j0])
   ·rw [if_neg BM] at H; have BG : (AQ == B0) = false := beq_eq_false_iff_ne.mpr BM; have DT : (AQ != B0) = true := bne_iff_ne.mpr BM
    (first | rw [BG] | (simp only [i64_w, i32_w]; rw [BG]) | skip)
    rw [HRT.out] at H
    exact absurd H (by cases k <;> simp [laws_FnOrder.j0])
  case rest =>
   clear DL; (try clear c3); (try clear Dm); (try clear CA); (try clear CB); (try clear CC); (try clear CD); (try clear CE); (try clear CF); (try clear CG); (try clear CH); (try clear CI); (try clear CJ); (try clear CK); (try clear CL); (try clear CM); (try clear CN); (try clear CO); (try clear CP); (try clear CQ); (try clear CR); (try clear CS); (try clear CT); (try clear CU); (try clear CV); (try clear CW); (try clear CX); (try clear CY); (try clear CZ); (try clear Ca); (try clear Cb); (try clear Cc); (try clear Cd); (try clear Ce); (try clear Cf); (try clear Cg); (try clear Ch); (try clear Ci); (try clear Cj); (try clear Ck); (try clear Cl); (try clear Cm); (try clear Cn); (try clear Co); (try clear Cp); (try clear Cq); (try clear Cr); (try clear Cs); (try clear Ct); (try clear Cu); (try clear Cv); (try clear Cw); (try clear Cx); (try clear Cy); (try clear Cz); (try clear D0); (try clear D1); (try clear D2); (try clear D3); (try clear D4); (try clear D5); (try clear D6); (try clear D7); obtain ⟨kq, BL, rfl, HA, DM, AB, AC, AD, AE, HB⟩ := hcut
   cases kq with
   | zero => exact absurd HA.out (by simp [laws_FnOrder.j0])
   | succ Az =>
    have H := HA.out; clear HA; simp only [laws_FnOrder.j0] at H
    by_cases C8 : BL = true
    ·subst C8; rw [if_pos rfl] at H; rw [HRT.out] at H; cases H
    ·replace C8 := Bool.eq_false_iff.mpr C8; subst C8; rw [zff] at H; replace H := Option.bind_eq_some_iff.mp H; obtain ⟨⟨AZ, Aa, Ab, Ac, Ad⟩, DB, H⟩ := H; (try dsimp only at H); have GL := zm DB; clear DB; have Bs := zm H; clear H; have HP := Ae.out; have Hj := Ag.out; have HQ := Af.out; have Hk := As.out; have HR := Aj.out; have Hl := Av.out; obtain ⟨FJ, FK, FL, FM, FN, G2, G3, G4, G5, G6⟩ := zc5 AB; have HS := Ah.out; have Hm := At.out; have HT := Ai.out; have Hn := Au.out; obtain ⟨FO, FP, FQ, FR, FS, G7, G8, G9, GA, GB⟩ := zc5 AC
     go_upto_region 9 with (first | ((with_reducible refine gate_callee (f := 31) rfl ?_); refine zg (some 56) #[.agg #[.int .i64 AG, .int .i64 AH, .int .i64 AI, .int .i64 AJ, .string AK], .agg #[.int .i64 AL, .int .i64 AM, .int .i64 AN, .int .i64 AO, .string AP]] Try.func31 ?_; (with_reducible refine (impl_EntryMax.calls Az AG AH AI AJ AK AL AM AN AO AP AZ Aa Ab Ac Ad _ GL.out).mono ?_); rintro e I4 ⟨rfl, hb⟩; refine ⟨_, rfl, ?_⟩; replace AB := zy AB hb; replace AC := zy AC hb; replace AD := zy AD hb; replace AE := zy AE hb; replace HB := zm (below_step zB hb); clear hb) | ((with_reducible refine gate_dst (N := 8) rfl ?_); refine zbox 8 #[.int .i64 0, .int .i64 0, .int .i64 0, .int .i64 0, .string (⟨#[]⟩ : ByteArray)] 47 ?_; intro AT hg Dn hbox hb; have AF := zm (hbox); have H7 := zge w hg zB; have H2 := zge w hg zB; replace HB := zm (below_step zB hb); have AU := zlt hg (zb AB); have BK := zgt hg (zb AB); replace AB := zy AB hb; have AR := zlt hg (zb AC); have Aw := zgt hg (zb AC); replace AC := zy AC hb; have AS := zlt hg (zb AD); have Ax := zgt hg (zb AD); replace AD := zy AD hb; have AX := zlt hg (zb AE); have Bq := zgt hg (zb AE); replace AE := zy AE hb; clear hb hbox hg; have HU := BK.out; have Ho := AU.out; have HV := Aw.out; have Hp := AR.out; have HW := Ax.out; have Hq := AS.out; have HX := Bq.out; have Hr := AX.out; obtain ⟨FT, FU, FV, FW, FX, GC, GD, GE, GF, GG⟩ := zc5 AF))
     (try simp only [Act.put, List.setIfInBounds_toArray, List.set_cons_zero, List.set_cons_succ])
     go_cut [83] (fun v83 wc => ∃ (kq : Nat) (BJ : Bool), v83 = .bool BJ ∧ Aside0 (laws_FnOrder.j1 kq AQ BJ AG AH AI AJ AK AL AM AN AO AP Am An Ao Ap Aq = some r) ∧ Aside0 (kq ≤ Az) ∧ Aside0 (wc.heap[AV]? = some (.cells #[.int .i64 AG, .int .i64 AH, .int .i64 AI, .int .i64 AJ, .string AK] 47 (0, 0))) ∧ Aside0 (wc.heap[AW]? = some (.cells #[.int .i64 AL, .int .i64 AM, .int .i64 AN, .int .i64 AO, .string AP] 47 (0, 0))) ∧ Aside0 (wc.heap[Ar]? = some (.cells #[.int .i64 Am, .int .i64 An, .int .i64 Ao, .int .i64 Ap, .string Aq] 47 (0, 0))) ∧ Aside0 (wc.heap[B3]? = some (.cells #[.int .i64 BB, .int .i64 BC, .int .i64 BD, .int .i64 BE, .string BF] 47 (0, 0))) ∧ Aside0 (wc.heap[AT]? = some (.cells #[.int .i64 AZ, .int .i64 Aa, .int .i64 Ab, .int .i64 Ac, .string Ad] 47 (0, 0))) ∧ Aside0 (Below w.heap.size w wc))
     case first =>
      have H := Bs.out; clear Bs; replace H := Option.bind_eq_some_iff.mp H; obtain ⟨⟨BO, BP, BQ, BR, BS⟩, DC, H⟩ := H; (try dsimp only at H); have Di := zm DC; clear DC
      by_cases BY : (!(AZ == BO) || (!(Aa == BP) || (!(Ab == BQ) || (!(Ac == BR) || (!(Ad.toList == BS.toList)))))) = true
      ·rw [if_pos BY] at H; have BH : (!(AZ == BO) || (!(Aa == BP) || (!(Ab == BQ) || (!(Ac == BR) || (!(Ad.toList == BS.toList)))))) = true := BY; clear BY
       (first | rw [BH] | (simp only [i64_w, i32_w]; rw [BH]) | skip)
       rw [HRT.out] at H
       exact absurd H (by cases Az <;> simp [laws_FnOrder.j1])
      ·rw [if_neg BY] at H
       have BH : (!(AZ == BO) || (!(Aa == BP) || (!(Ab == BQ) || (!(Ac == BR) || (!(Ad.toList == BS.toList)))))) = false := by simpa using BY
       clear BY
       (first | rw [BH] | (simp only [i64_w, i32_w]; rw [BH]) | skip)
       replace H := Option.bind_eq_some_iff.mp H; obtain ⟨BT, DD, H⟩ := H; (try dsimp only at H); have Dj := zm DD; clear DD
       by_cases BZ : BT < 0
       ·rw [if_pos BZ] at H; have DZ : decide (BT < 0) = true := decide_eq_true BZ; clear BZ; rw [HRT.out] at H
        exact absurd H (by cases Az <;> simp [laws_FnOrder.j1])
       ·rw [if_neg BZ] at H; have DZ : decide (BT < 0) = false := decide_eq_false BZ; clear BZ; replace H := Option.bind_eq_some_iff.mp H; obtain ⟨BU, DE, H⟩ := H; (try dsimp only at H); have Dk := zm DE; clear DE
        by_cases Ba : BU < 0
        ·rw [if_pos Ba] at H; have Da : decide (BU < 0) = true := decide_eq_true Ba; clear Ba; rw [HRT.out] at H
         exact absurd H (by cases Az <;> simp [laws_FnOrder.j1])
        ·rw [if_neg Ba] at H; have Da : decide (BU < 0) = false := decide_eq_false Ba; clear Ba
         by_cases Bb : (!(AZ == AG) || (!(Aa == AH) || (!(Ab == AI) || (!(Ac == AJ) || (!(Ad.toList == AK.toList)))))) = true
         ·rw [if_pos Bb] at H; have Db : (!(AZ == AG) || (!(Aa == AH) || (!(Ab == AI) || (!(Ac == AJ) || (!(Ad.toList == AK.toList)))))) = true := Bb; clear Bb
          have H' := zm H
          clear H
          try go_wp2
          obtain ⟨BW, hW_⟩ : ∃ q, q = (((((Dn.setCell ⟨AT, 0, none⟩ (.int .i64 AZ)).setCell ⟨AT, 1, none⟩ (.int .i64 Aa)).setCell ⟨AT, 2, none⟩ (.int .i64 Ab)).setCell ⟨AT, 3, none⟩ (.int .i64 Ac)).setCell ⟨AT, 4, none⟩ (.string Ad)) := ⟨_, rfl⟩
          have n0_ : Aside0 (BW.heap[AV]? = some (.cells #[.int .i64 AG, .int .i64 AH, .int .i64 AI, .int .i64 AJ, .string AK] 47 (0, 0))) := ⟨by rw [hW_]; exact zfar (zfar (zfar (zfar (zfar (zb AB) AU) AU) AU) AU) AU⟩; have n1_ : Aside0 (BW.heap[AW]? = some (.cells #[.int .i64 AL, .int .i64 AM, .int .i64 AN, .int .i64 AO, .string AP] 47 (0, 0))) := ⟨by rw [hW_]; exact zfar (zfar (zfar (zfar (zfar (zb AC) AR) AR) AR) AR) AR⟩; have n2_ : Aside0 (BW.heap[Ar]? = some (.cells #[.int .i64 Am, .int .i64 An, .int .i64 Ao, .int .i64 Ap, .string Aq] 47 (0, 0))) := ⟨by rw [hW_]; exact zfar (zfar (zfar (zfar (zfar (zb AD) AS) AS) AS) AS) AS⟩; have n3_ : Aside0 (BW.heap[B3]? = some (.cells #[.int .i64 BB, .int .i64 BC, .int .i64 BD, .int .i64 BE, .string BF] 47 (0, 0))) := ⟨by rw [hW_]; exact zfar (zfar (zfar (zfar (zfar (zb AE) AX) AX) AX) AX) AX⟩; have n4_ : Aside0 (BW.heap[AT]? = some (.cells #[.int .i64 AZ, .int .i64 Aa, .int .i64 Ab, .int .i64 Ac, .string Ad] 47 (0, 0))) := ⟨by rw [hW_]; exact zput (zput (zput (zput (zput (zb AF) 0) 1) 2) 3) 4⟩; have n5_ : Aside0 (Below w.heap.size w BW) := ⟨by rw [hW_]; exact zB⟩
          rw [← hW_]
          clear hW_; (try clear AB); (try clear AC); (try clear AD); (try clear AE); (try clear AF); (try clear HB); have AB := n0_; have AC := n1_; have AD := n2_; have AE := n3_; have AF := n4_; have HB := n5_; clear n0_ n1_ n2_ n3_ n4_ n5_; replace AB := zq AB; replace AC := zq AC; replace AD := zq AD; replace AE := zq AE; replace AF := zq AF; replace HB := zm (below_drew1 HB.out)
          refine start_ (n := 27) (S := fun w' => w'.cell? ⟨AT, 0, none⟩ = some (.int .i64 AZ) ∧ w'.cell? ⟨AT, 1, none⟩ = some (.int .i64 Aa) ∧ w'.cell? ⟨AT, 2, none⟩ = some (.int .i64 Ab) ∧ w'.cell? ⟨AT, 3, none⟩ = some (.int .i64 Ac) ∧ w'.cell? ⟨AT, 4, none⟩ = some (.string Ad) ∧ w'.cell? ⟨AW, 0, none⟩ = some (.int .i64 AL) ∧ w'.cell? ⟨AW, 1, none⟩ = some (.int .i64 AM) ∧ w'.cell? ⟨AW, 2, none⟩ = some (.int .i64 AN) ∧ w'.cell? ⟨AW, 3, none⟩ = some (.int .i64 AO) ∧ w'.cell? ⟨AW, 4, none⟩ = some (.string AP) ∧ w'.cell? ⟨AV, 0, none⟩ = some (.int .i64 AG) ∧ w'.cell? ⟨AV, 1, none⟩ = some (.int .i64 AH) ∧ w'.cell? ⟨AV, 2, none⟩ = some (.int .i64 AI) ∧ w'.cell? ⟨AV, 3, none⟩ = some (.int .i64 AJ) ∧ w'.cell? ⟨AV, 4, none⟩ = some (.string AK)) (ds := []) (zl 27 0) (by kernel_rfl) rfl rfl zS (fun hHeld => ?_); refine with_tabW laws_FnOrder.tab9 laws_FnOrder.bits9 (fun HT_ HW_ => ?_)
          generalize BW.drew = I5 at AB AC AD AE AF HB hHeld ⊢
          refine zv 0 57 27 1 ?_
          refine zv 1 58 27 3 ?_
          refine zv 2 59 27 7 ?_
          refine zo 3 (some 60) (zl 27 15) (fun K hK => ?_); refine zgo #[.agg #[.int .i64 AL, .int .i64 AM, .int .i64 AN, .int .i64 AO, .string AP], .agg #[.int .i64 AG, .int .i64 AH, .int .i64 AI, .int .i64 AJ, .string AK]] Try.func31 ?_; (with_reducible refine (impl_EntryMax.calls Az AL AM AN AO AP AG AH AI AJ AK BO BP BQ BR BS _ Di.out).mono ?_); rintro e I6 ⟨rfl, hb⟩; refine ⟨_, rfl, ?_⟩; replace AB := zy AB hb; replace AC := zy AC hb; replace AD := zy AD hb; replace AE := zy AE hb; replace AF := zy AF hb; replace HB := zm (below_step zB hb); (try clear hb); refine hK.out _ _ zS (fun hHeld => ?_); clear hK K; refine zn ?_
          refine zu 4 61 27 31 ?_
          refine zu 5 62 27 63 ?_
          refine zv 6 63 27 127 ?_
          refine zv 7 64 27 255 ?_
          refine zo 8 (some 65) (zl 27 511) (fun K hK => ?_); refine zgo #[.agg #[.int .i64 AZ, .int .i64 Aa, .int .i64 Ab, .int .i64 Ac, .string Ad], .agg #[.int .i64 AG, .int .i64 AH, .int .i64 AI, .int .i64 AJ, .string AK]] Try.func28 ?_; (with_reducible refine (impl_EntryCmp.calls Az AZ Aa Ab Ac Ad AG AH AI AJ AK BT _ Dj.out).mono ?_); rintro e I7 ⟨rfl, hb⟩; refine ⟨_, rfl, ?_⟩; replace AB := zy AB hb; replace AC := zy AC hb; replace AD := zy AD hb; replace AE := zy AE hb; replace AF := zy AF hb; replace HB := zm (below_step zB hb); (try clear hb); refine hK.out _ _ zS (fun hHeld => ?_); clear hK K; refine zn ?_
          refine zu 9 66 27 1023 ?_
          refine zu 10 67 27 2047 ?_
          refine zu 11 68 27 4095 ?_
          refine zv 12 69 27 8191 ?_
          refine zv 13 70 27 16383 ?_
          refine zo 14 (some 71) (zl 27 32767) (fun K hK => ?_); refine zgo #[.agg #[.int .i64 AZ, .int .i64 Aa, .int .i64 Ab, .int .i64 Ac, .string Ad], .agg #[.int .i64 AL, .int .i64 AM, .int .i64 AN, .int .i64 AO, .string AP]] Try.func28 ?_; (with_reducible refine (impl_EntryCmp.calls Az AZ Aa Ab Ac Ad AL AM AN AO AP BU _ Dk.out).mono ?_); rintro e I8 ⟨rfl, hb⟩; refine ⟨_, rfl, ?_⟩; replace AB := zy AB hb; replace AC := zy AC hb; replace AD := zy AD hb; replace AE := zy AE hb; replace AF := zy AF hb; replace HB := zm (below_step zB hb); (try clear hb); refine hK.out _ _ zS (fun hHeld => ?_); clear hK K; refine zn ?_
          refine zu 15 72 27 65535 ?_
          refine zu 16 73 27 131071 ?_
          refine zu 17 74 27 262143 ?_
          refine zv 18 75 27 524287 ?_
          refine zv 19 76 27 1048575 ?_
          refine zu 20 77 27 2097151 ?_
          refine zu 21 78 27 4194303 ?_
          refine zv 22 79 27 8388607 ?_
          refine zv 23 80 27 16777215 ?_
          refine zu 24 81 27 33554431 ?_
          refine zu 25 82 27 67108863 ?_
          refine zu 26 83 27 134217727 ?_
          refine done_ (done_of HT_.out (by kernel_rfl)) ?_
          try go_wp2
          go_meet
          case rel => exact ⟨_, ((!(AZ == AL) || (!(Aa == AM) || (!(Ab == AN) || (!(Ac == AO) || (!(Ad.toList == AP.toList))))))), zF, H', ⟨by have := DM.out; first | omega | exact Nat.le_refl _⟩, ⟨zb AB⟩, ⟨zb AC⟩, ⟨zb AD⟩, ⟨zb AE⟩, ⟨zb AF⟩, ⟨zB⟩⟩
         ·rw [if_neg Bb] at H
          have Db : (!(AZ == AG) || (!(Aa == AH) || (!(Ab == AI) || (!(Ac == AJ) || (!(Ad.toList == AK.toList)))))) = false := by simpa using Bb
          clear Bb
          have H' := zm H
          clear H
          try go_wp2
          obtain ⟨BX, hW_⟩ : ∃ q, q = (((((Dn.setCell ⟨AT, 0, none⟩ (.int .i64 AZ)).setCell ⟨AT, 1, none⟩ (.int .i64 Aa)).setCell ⟨AT, 2, none⟩ (.int .i64 Ab)).setCell ⟨AT, 3, none⟩ (.int .i64 Ac)).setCell ⟨AT, 4, none⟩ (.string Ad)) := ⟨_, rfl⟩
          have n0_ : Aside0 (BX.heap[AV]? = some (.cells #[.int .i64 AG, .int .i64 AH, .int .i64 AI, .int .i64 AJ, .string AK] 47 (0, 0))) := ⟨by rw [hW_]; exact zfar (zfar (zfar (zfar (zfar (zb AB) AU) AU) AU) AU) AU⟩; have n1_ : Aside0 (BX.heap[AW]? = some (.cells #[.int .i64 AL, .int .i64 AM, .int .i64 AN, .int .i64 AO, .string AP] 47 (0, 0))) := ⟨by rw [hW_]; exact zfar (zfar (zfar (zfar (zfar (zb AC) AR) AR) AR) AR) AR⟩; have n2_ : Aside0 (BX.heap[Ar]? = some (.cells #[.int .i64 Am, .int .i64 An, .int .i64 Ao, .int .i64 Ap, .string Aq] 47 (0, 0))) := ⟨by rw [hW_]; exact zfar (zfar (zfar (zfar (zfar (zb AD) AS) AS) AS) AS) AS⟩; have n3_ : Aside0 (BX.heap[B3]? = some (.cells #[.int .i64 BB, .int .i64 BC, .int .i64 BD, .int .i64 BE, .string BF] 47 (0, 0))) := ⟨by rw [hW_]; exact zfar (zfar (zfar (zfar (zfar (zb AE) AX) AX) AX) AX) AX⟩; have n4_ : Aside0 (BX.heap[AT]? = some (.cells #[.int .i64 AZ, .int .i64 Aa, .int .i64 Ab, .int .i64 Ac, .string Ad] 47 (0, 0))) := ⟨by rw [hW_]; exact zput (zput (zput (zput (zput (zb AF) 0) 1) 2) 3) 4⟩; have n5_ : Aside0 (Below w.heap.size w BX) := ⟨by rw [hW_]; exact zB⟩
          rw [← hW_]
          clear hW_; (try clear AB); (try clear AC); (try clear AD); (try clear AE); (try clear AF); (try clear HB); have AB := n0_; have AC := n1_; have AD := n2_; have AE := n3_; have AF := n4_; have HB := n5_; clear n0_ n1_ n2_ n3_ n4_ n5_; replace AB := zq AB; replace AC := zq AC; replace AD := zq AD; replace AE := zq AE; replace AF := zq AF; replace HB := zm (below_drew1 HB.out)
          refine start_ (n := 27) (S := fun w' => w'.cell? ⟨AT, 0, none⟩ = some (.int .i64 AZ) ∧ w'.cell? ⟨AT, 1, none⟩ = some (.int .i64 Aa) ∧ w'.cell? ⟨AT, 2, none⟩ = some (.int .i64 Ab) ∧ w'.cell? ⟨AT, 3, none⟩ = some (.int .i64 Ac) ∧ w'.cell? ⟨AT, 4, none⟩ = some (.string Ad) ∧ w'.cell? ⟨AW, 0, none⟩ = some (.int .i64 AL) ∧ w'.cell? ⟨AW, 1, none⟩ = some (.int .i64 AM) ∧ w'.cell? ⟨AW, 2, none⟩ = some (.int .i64 AN) ∧ w'.cell? ⟨AW, 3, none⟩ = some (.int .i64 AO) ∧ w'.cell? ⟨AW, 4, none⟩ = some (.string AP) ∧ w'.cell? ⟨AV, 0, none⟩ = some (.int .i64 AG) ∧ w'.cell? ⟨AV, 1, none⟩ = some (.int .i64 AH) ∧ w'.cell? ⟨AV, 2, none⟩ = some (.int .i64 AI) ∧ w'.cell? ⟨AV, 3, none⟩ = some (.int .i64 AJ) ∧ w'.cell? ⟨AV, 4, none⟩ = some (.string AK)) (ds := []) (zl 27 0) (by kernel_rfl) rfl rfl zS (fun hHeld => ?_); refine with_tabW laws_FnOrder.tab9 laws_FnOrder.bits9 (fun HT_ HW_ => ?_)
          generalize BX.drew = I9 at AB AC AD AE AF HB hHeld ⊢
          refine zv 0 57 27 1 ?_
          refine zv 1 58 27 3 ?_
          refine zv 2 59 27 7 ?_
          refine zo 3 (some 60) (zl 27 15) (fun K hK => ?_); refine zgo #[.agg #[.int .i64 AL, .int .i64 AM, .int .i64 AN, .int .i64 AO, .string AP], .agg #[.int .i64 AG, .int .i64 AH, .int .i64 AI, .int .i64 AJ, .string AK]] Try.func31 ?_; (with_reducible refine (impl_EntryMax.calls Az AL AM AN AO AP AG AH AI AJ AK BO BP BQ BR BS _ Di.out).mono ?_); rintro e IA ⟨rfl, hb⟩; refine ⟨_, rfl, ?_⟩; replace AB := zy AB hb; replace AC := zy AC hb; replace AD := zy AD hb; replace AE := zy AE hb; replace AF := zy AF hb; replace HB := zm (below_step zB hb); (try clear hb); refine hK.out _ _ zS (fun hHeld => ?_); clear hK K; refine zn ?_
          refine zu 4 61 27 31 ?_
          refine zu 5 62 27 63 ?_
          refine zv 6 63 27 127 ?_
          refine zv 7 64 27 255 ?_
          refine zo 8 (some 65) (zl 27 511) (fun K hK => ?_); refine zgo #[.agg #[.int .i64 AZ, .int .i64 Aa, .int .i64 Ab, .int .i64 Ac, .string Ad], .agg #[.int .i64 AG, .int .i64 AH, .int .i64 AI, .int .i64 AJ, .string AK]] Try.func28 ?_; (with_reducible refine (impl_EntryCmp.calls Az AZ Aa Ab Ac Ad AG AH AI AJ AK BT _ Dj.out).mono ?_); rintro e IB ⟨rfl, hb⟩; refine ⟨_, rfl, ?_⟩; replace AB := zy AB hb; replace AC := zy AC hb; replace AD := zy AD hb; replace AE := zy AE hb; replace AF := zy AF hb; replace HB := zm (below_step zB hb); (try clear hb); refine hK.out _ _ zS (fun hHeld => ?_); clear hK K; refine zn ?_
          refine zu 9 66 27 1023 ?_
          refine zu 10 67 27 2047 ?_
          refine zu 11 68 27 4095 ?_
          refine zv 12 69 27 8191 ?_
          refine zv 13 70 27 16383 ?_
          refine zo 14 (some 71) (zl 27 32767) (fun K hK => ?_); refine zgo #[.agg #[.int .i64 AZ, .int .i64 Aa, .int .i64 Ab, .int .i64 Ac, .string Ad], .agg #[.int .i64 AL, .int .i64 AM, .int .i64 AN, .int .i64 AO, .string AP]] Try.func28 ?_; (with_reducible refine (impl_EntryCmp.calls Az AZ Aa Ab Ac Ad AL AM AN AO AP BU _ Dk.out).mono ?_); rintro e IC ⟨rfl, hb⟩; refine ⟨_, rfl, ?_⟩; replace AB := zy AB hb; replace AC := zy AC hb; replace AD := zy AD hb; replace AE := zy AE hb; replace AF := zy AF hb; replace HB := zm (below_step zB hb); (try clear hb); refine hK.out _ _ zS (fun hHeld => ?_); clear hK K; refine zn ?_
          refine zu 15 72 27 65535 ?_
          refine zu 16 73 27 131071 ?_
          refine zu 17 74 27 262143 ?_
          refine zv 18 75 27 524287 ?_
          refine zv 19 76 27 1048575 ?_
          refine zu 20 77 27 2097151 ?_
          refine zu 21 78 27 4194303 ?_
          refine zu 22 79 27 8388607 ?_
          refine zu 23 80 27 16777215 ?_
          refine zu 24 81 27 33554431 ?_
          refine zu 25 82 27 67108863 ?_
          refine zu 26 83 27 134217727 ?_
          refine done_ (done_of HT_.out (by kernel_rfl)) ?_
          try go_wp2
          go_meet
          case rel => exact ⟨_, (false), zF, H', ⟨by have := DM.out; first | omega | exact Nat.le_refl _⟩, ⟨zb AB⟩, ⟨zb AC⟩, ⟨zb AD⟩, ⟨zb AE⟩, ⟨zb AF⟩, ⟨zB⟩⟩
     case rest =>
      clear Bs; (try clear c3); obtain ⟨kq, BJ, rfl, HA, Dp, AB, AC, AD, AE, AF, HB⟩ := hcut
      cases kq with
      | zero => exact absurd HA.out (by simp [laws_FnOrder.j1])
      | succ BA =>
       have H := HA.out; clear HA; simp only [laws_FnOrder.j1] at H
       by_cases Br : BJ = true
       ·subst Br; rw [if_pos rfl] at H; rw [HRT.out] at H; cases H
       ·replace Br := Bool.eq_false_iff.mpr Br; subst Br; rw [zff] at H; have Bt := zm H; clear H
        go_upto_region 11 with (fail)
        go_cut [101] (fun v101 wc => ∃ (kq : Nat) (B7 : Bool), v101 = .bool B7 ∧ Aside0 (laws_FnOrder.j2 kq AQ B7 AG AH AI AJ AK AL AM AN AO AP Am An Ao Ap Aq = some r) ∧ Aside0 (kq ≤ BA) ∧ Aside0 (wc.heap[AV]? = some (.cells #[.int .i64 AG, .int .i64 AH, .int .i64 AI, .int .i64 AJ, .string AK] 47 (0, 0))) ∧ Aside0 (wc.heap[AW]? = some (.cells #[.int .i64 AL, .int .i64 AM, .int .i64 AN, .int .i64 AO, .string AP] 47 (0, 0))) ∧ Aside0 (wc.heap[Ar]? = some (.cells #[.int .i64 Am, .int .i64 An, .int .i64 Ao, .int .i64 Ap, .string Aq] 47 (0, 0))) ∧ Aside0 (wc.heap[B3]? = some (.cells #[.int .i64 BB, .int .i64 BC, .int .i64 BD, .int .i64 BE, .string BF] 47 (0, 0))) ∧ Aside0 (wc.heap[AT]? = some (.cells #[.int .i64 AZ, .int .i64 Aa, .int .i64 Ab, .int .i64 Ac, .string Ad] 47 (0, 0))) ∧ Aside0 (Below w.heap.size w wc))
        case first =>
         have H := Bt.out; clear Bt; replace H := Option.bind_eq_some_iff.mp H; obtain ⟨⟨Bw, Bx, By, Bz, C0⟩, DF, H⟩ := H; (try dsimp only at H); have GM := zm DF; clear DF; replace H := Option.bind_eq_some_iff.mp H; obtain ⟨⟨Bg, Bh, Bi, Bj, Bk⟩, DG, H⟩ := H; (try dsimp only at H); have GN := zm DG; clear DG; replace H := Option.bind_eq_some_iff.mp H; obtain ⟨⟨C1, C2, C3, C4, C5⟩, DH, H⟩ := H; (try dsimp only at H); have GO := zm DH; clear DH; replace H := Option.bind_eq_some_iff.mp H; obtain ⟨⟨Bl, Bm, Bn, Bo, Bp⟩, DI, H⟩ := H; (try dsimp only at H); have GP := zm DI; clear DI
         by_cases Bc : (!(Bg == Bl) || (!(Bh == Bm) || (!(Bi == Bn) || (!(Bj == Bo) || (!(Bk.toList == Bp.toList)))))) = true
         ·rw [if_pos Bc] at H; have BI : (!(Bg == Bl) || (!(Bh == Bm) || (!(Bi == Bn) || (!(Bj == Bo) || (!(Bk.toList == Bp.toList)))))) = true := Bc; clear Bc
          (first | rw [BI] | (simp only [i64_w, i32_w]; rw [BI]) | skip)
          rw [HRT.out] at H
          exact absurd H (by cases BA <;> simp [laws_FnOrder.j2])
         ·rw [if_neg Bc] at H
          have BI : (!(Bg == Bl) || (!(Bh == Bm) || (!(Bi == Bn) || (!(Bj == Bo) || (!(Bk.toList == Bp.toList)))))) = false := by simpa using Bc
          clear Bc
          (first | rw [BI] | (simp only [i64_w, i32_w]; rw [BI]) | skip)
          replace H := Option.bind_eq_some_iff.mp H; obtain ⟨⟨DN, DO, DP, DQ, DR⟩, DJ, H⟩ := H; (try dsimp only at H); have GQ := zm DJ; clear DJ
          have H' := zm H
          clear H
          try go_wp2
          replace AB := zq AB; replace AC := zq AC; replace AD := zq AD; replace AE := zq AE; replace AF := zq AF; replace HB := zm (below_drew1 HB.out)
          refine start_ (n := 18) (S := fun w' => w'.cell? ⟨AV, 0, none⟩ = some (.int .i64 AG) ∧ w'.cell? ⟨AV, 1, none⟩ = some (.int .i64 AH) ∧ w'.cell? ⟨AV, 2, none⟩ = some (.int .i64 AI) ∧ w'.cell? ⟨AV, 3, none⟩ = some (.int .i64 AJ) ∧ w'.cell? ⟨AV, 4, none⟩ = some (.string AK) ∧ w'.cell? ⟨AW, 0, none⟩ = some (.int .i64 AL) ∧ w'.cell? ⟨AW, 1, none⟩ = some (.int .i64 AM) ∧ w'.cell? ⟨AW, 2, none⟩ = some (.int .i64 AN) ∧ w'.cell? ⟨AW, 3, none⟩ = some (.int .i64 AO) ∧ w'.cell? ⟨AW, 4, none⟩ = some (.string AP) ∧ w'.cell? ⟨Ar, 0, none⟩ = some (.int .i64 Am) ∧ w'.cell? ⟨Ar, 1, none⟩ = some (.int .i64 An) ∧ w'.cell? ⟨Ar, 2, none⟩ = some (.int .i64 Ao) ∧ w'.cell? ⟨Ar, 3, none⟩ = some (.int .i64 Ap) ∧ w'.cell? ⟨Ar, 4, none⟩ = some (.string Aq)) (ds := []) (zl 18 0) (by kernel_rfl) rfl rfl zS (fun hHeld => ?_); refine with_tabW laws_FnOrder.tab11 laws_FnOrder.bits11 (fun HT_ HW_ => ?_)
          generalize wc.drew = ID at AB AC AD AE AF HB hHeld ⊢
          refine zv 0 84 18 1 ?_
          refine zv 1 85 18 3 ?_
          refine zv 3 87 18 11 ?_
          refine zv 5 89 18 43 ?_
          refine zv 6 90 18 107 ?_
          refine zv 7 91 18 235 ?_
          refine zo 2 (some 86) (zl 18 239) (fun K hK => ?_); refine zgo #[.agg #[.int .i64 AG, .int .i64 AH, .int .i64 AI, .int .i64 AJ, .string AK], .agg #[.int .i64 AL, .int .i64 AM, .int .i64 AN, .int .i64 AO, .string AP]] Try.func31 ?_; (with_reducible refine (impl_EntryMax.calls BA AG AH AI AJ AK AL AM AN AO AP Bw Bx By Bz C0 _ GM.out).mono ?_); rintro e IE ⟨rfl, hb⟩; refine ⟨_, rfl, ?_⟩; replace AB := zy AB hb; replace AC := zy AC hb; replace AD := zy AD hb; replace AE := zy AE hb; replace AF := zy AF hb; replace HB := zm (below_step zB hb); (try clear hb); refine hK.out _ _ zS (fun hHeld => ?_); clear hK K; refine zn ?_; refine zo 4 (some 88) (zl 18 255) (fun K hK => ?_); refine zgo #[.agg #[.int .i64 Bw, .int .i64 Bx, .int .i64 By, .int .i64 Bz, .string C0], .agg #[.int .i64 Am, .int .i64 An, .int .i64 Ao, .int .i64 Ap, .string Aq]] Try.func31 ?_; (with_reducible refine (impl_EntryMax.calls BA Bw Bx By Bz C0 Am An Ao Ap Aq Bg Bh Bi Bj Bk _ GN.out).mono ?_); rintro e IF ⟨rfl, hb⟩; refine ⟨_, rfl, ?_⟩; replace AB := zy AB hb; replace AC := zy AC hb; replace AD := zy AD hb; replace AE := zy AE hb; replace AF := zy AF hb; replace HB := zm (below_step zB hb); (try clear hb); refine hK.out _ _ zS (fun hHeld => ?_); clear hK K; refine zn ?_; refine zo 8 (some 92) (zl 18 511) (fun K hK => ?_); refine zgo #[.agg #[.int .i64 AL, .int .i64 AM, .int .i64 AN, .int .i64 AO, .string AP], .agg #[.int .i64 Am, .int .i64 An, .int .i64 Ao, .int .i64 Ap, .string Aq]] Try.func31 ?_
          (with_reducible refine (impl_EntryMax.calls BA AL AM AN AO AP Am An Ao Ap Aq C1 C2 C3 C4 C5 _ GO.out).mono ?_); rintro e IG ⟨rfl, hb⟩; refine ⟨_, rfl, ?_⟩; replace AB := zy AB hb; replace AC := zy AC hb; replace AD := zy AD hb; replace AE := zy AE hb; replace AF := zy AF hb; replace HB := zm (below_step zB hb); (try clear hb); refine hK.out _ _ zS (fun hHeld => ?_); clear hK K; refine zn ?_; refine zo 9 (some 93) (zl 18 1023) (fun K hK => ?_); refine zgo #[.agg #[.int .i64 AG, .int .i64 AH, .int .i64 AI, .int .i64 AJ, .string AK], .agg #[.int .i64 C1, .int .i64 C2, .int .i64 C3, .int .i64 C4, .string C5]] Try.func31 ?_; (with_reducible refine (impl_EntryMax.calls BA AG AH AI AJ AK C1 C2 C3 C4 C5 Bl Bm Bn Bo Bp _ GP.out).mono ?_); rintro e IH ⟨rfl, hb⟩; refine ⟨_, rfl, ?_⟩; replace AB := zy AB hb; replace AC := zy AC hb; replace AD := zy AD hb; replace AE := zy AE hb; replace AF := zy AF hb; replace HB := zm (below_step zB hb); (try clear hb); refine hK.out _ _ zS (fun hHeld => ?_); clear hK K; refine zn ?_
          refine zu 10 94 18 2047 ?_
          refine zu 11 95 18 4095 ?_
          refine zv 12 96 18 8191 ?_
          refine zv 13 97 18 16383 ?_
          refine zv 15 99 18 49151 ?_
          refine zo 14 (some 98) (zl 18 65535) (fun K hK => ?_); refine zgo #[.agg #[.int .i64 AG, .int .i64 AH, .int .i64 AI, .int .i64 AJ, .string AK], .agg #[.int .i64 AG, .int .i64 AH, .int .i64 AI, .int .i64 AJ, .string AK]] Try.func31 ?_; (with_reducible refine (impl_EntryMax.calls BA AG AH AI AJ AK AG AH AI AJ AK DN DO DP DQ DR _ GQ.out).mono ?_); rintro e II ⟨rfl, hb⟩; refine ⟨_, rfl, ?_⟩; replace AB := zy AB hb; replace AC := zy AC hb; replace AD := zy AD hb; replace AE := zy AE hb; replace AF := zy AF hb; replace HB := zm (below_step zB hb); (try clear hb); refine hK.out _ _ zS (fun hHeld => ?_); clear hK K; refine zn ?_
          refine zu 16 100 18 131071 ?_
          refine zu 17 101 18 262143 ?_
          refine done_ (done_of HT_.out (by kernel_rfl)) ?_
          try go_wp2
          go_meet
          case rel => exact ⟨_, ((!(DN == AG) || (!(DO == AH) || (!(DP == AI) || (!(DQ == AJ) || (!(DR.toList == AK.toList))))))), zF, H', ⟨by have := DM.out; have := Dp.out; first | omega | exact Nat.le_refl _⟩, ⟨zb AB⟩, ⟨zb AC⟩, ⟨zb AD⟩, ⟨zb AE⟩, ⟨zb AF⟩, ⟨zB⟩⟩
        case rest =>
         clear Bt; (try clear c3); (try clear Br); obtain ⟨kq, B7, rfl, HA, Hs, AB, AC, AD, AE, AF, HB⟩ := hcut
         cases kq with
         | zero => exact absurd HA.out (by simp [laws_FnOrder.j2])
         | succ Bu =>
          have H := HA.out; clear HA; simp only [laws_FnOrder.j2] at H
          by_cases C9 : B7 = true
          ·subst C9; rw [if_pos rfl] at H; rw [HRT.out] at H; cases H
          ·replace C9 := Bool.eq_false_iff.mpr C9; subst C9; rw [zff] at H
           by_cases Bd : AQ < 0
           ·rw [if_pos Bd] at H; have Dc : decide (AQ < 0) = true := decide_eq_true Bd; clear Bd; obtain rfl := Option.some.inj H
            go_wp2
            go_ret
            exact ⟨zE, zB⟩
           ·rw [if_neg Bd] at H; have Dc : decide (AQ < 0) = false := decide_eq_false Bd; clear Bd; replace H := Option.bind_eq_some_iff.mp H; obtain ⟨BV, DK, H⟩ := H; (try dsimp only at H); have Dl := zm DK; clear DK
            by_cases Be : BV < 0
            ·rw [if_pos Be] at H; have Dd : decide (BV < 0) = true := decide_eq_true Be; clear Be; obtain rfl := Option.some.inj H; have GR := Ag.out; have Gh := Ae.out; have GS := Ah.out; have Gi := At.out; have GT := Ai.out; have Gj := Au.out; have GU := AR.out; have Gk := Aw.out; obtain ⟨Dq, Dr, Ds, Dt, Du, EK, EL, EM, EN, EO⟩ := zc5 AC; have GV := As.out; have Gl := Af.out; have GW := Ak.out; have Gm := Al.out; have GX := AS.out; have Gn := Ax.out; obtain ⟨Dv, Dw, Dx, Dy, Dz, EP, EQ, ER, ES, ET⟩ := zc5 AD
             go_wp2_with (first | (go_at_call 28; (with_reducible refine (impl_EntryCmp.calls Bu AL AM AN AO AP Am An Ao Ap Aq BV _ Dl.out).mono ?_); rintro e Ht ⟨rfl, hb⟩; replace AB := zy AB hb; replace AC := zy AC hb; replace AD := zy AD hb; replace AE := zy AE hb; replace AF := zy AF hb; replace HB := zm (below_step zB hb); clear hb))
             go_ret
             exact ⟨zE, zB⟩
            ·rw [if_neg Be] at H; have Dd : decide (BV < 0) = false := decide_eq_false Be; clear Be; replace H := Option.bind_eq_some_iff.mp H; obtain ⟨Eo, C6, H⟩ := H; (try dsimp only at H); have Do := zm C6; clear C6; obtain rfl := Option.some.inj H; have GY := Ag.out; have Gp := Ae.out; have GZ := Ah.out; have Gq := At.out; have Ga := Ai.out; have Gr := Au.out; have Gb := AR.out; have Gs := Aw.out; obtain ⟨E0, E1, E2, E3, E4, EU, EV, EW, EX, EY⟩ := zc5 AC; have Gc := As.out; have Gt := Af.out; have Gd := Ak.out; have Gu := Al.out; have Ge := AS.out; have Gv := Ax.out; obtain ⟨E5, E6, E7, E8, E9, EZ, Ea, Eb, Ec, Ed⟩ := zc5 AD
             go_wp2_with (first | (go_at_call 28; (with_reducible refine (impl_EntryCmp.calls Bu AL AM AN AO AP Am An Ao Ap Aq BV _ Dl.out).mono ?_); rintro e Hu ⟨rfl, hb⟩; replace AB := zy AB hb; replace AC := zy AC hb; replace AD := zy AD hb; replace AE := zy AE hb; replace AF := zy AF hb; replace HB := zm (below_step zB hb); clear hb; have Gf := Aj.out; have Gw := Av.out; have Gg := AU.out; have Gx := BK.out; obtain ⟨EA, EB, EC, ED, EE, Ee, Ef, Eg, Eh, Ei⟩ := zc5 AB; obtain ⟨EF, EG, EH, EI, EJ, Ej, Ek, El, Em, En⟩ := zc5 AD) | (go_at_call 28; (with_reducible refine (impl_EntryCmp.calls Bu AG AH AI AJ AK Am An Ao Ap Aq Eo _ Do.out).mono ?_); rintro e Hv ⟨rfl, hb⟩; replace AB := zy AB hb; replace AC := zy AC hb; replace AD := zy AD hb; replace AE := zy AE hb; replace AF := zy AF hb; replace HB := zm (below_step zB hb); clear hb))
             go_ret
             exact ⟨zE, zB⟩

def laws_FnOrder.Pure : Prop := ∀ (l0 : List Int), l0.length ≤ maxLen → l0.length * 1 ≤ 140737488351232 → (∀ x ∈ l0, (Lit.int .u8 x).wf = true) → ∃ k, laws_FnOrder.f k l0 = some true
end

end Go.Proofs.Ytgjglbjdkikajaa.P
