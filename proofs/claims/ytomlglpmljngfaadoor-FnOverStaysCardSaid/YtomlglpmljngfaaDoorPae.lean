-- by a program of this session, for this seat
import Derived.Test.YtomlglpmljngfaaDoorHandIo
import Derived.Test.YtomlglpmljngfaaDoorZ
import Derived.Test.YtomlglpmljngfaaDoorP0
import Derived.Test.YtomlglpmljngfaaDoorPaa
import Derived.Test.YtomlglpmljngfaaDoorPac
import Derived.Test.YtomlglpmljngfaaDoorPab
namespace Go.Proofs.YtomlglpmljngfaaDoor.P
open Go.RowKit Go.Proofs.YtomlglpmljngfaaDoorW.PrintWords Go.Proofs.YtomlglpmljngfaaDoorW.PrintLast Go.Proofs.YtomlglpmljngfaaDoorW.PrintMore Go.Proofs.YtomlglpmljngfaaDoor.Z Go.Proofs.YtomlglpmljngfaaDoor.HandIo
attribute [local go_sem] max2_int min2_int max_two min_two max_three min_three max_four min_four   -- for this text's walks alone
set_option linter.unusedVariables false
set_option linter.unusedSimpArgs false

/-! ### spec_StateText: function 22 -/
mutual
def spec_StateText.l0 : Nat → ByteArray → Int → List (S63) → List (S68) → Option (ByteArray)
 | 0, _, _, _, _ => none
 | k + 1, x3, x4, x192000, x192001 => if x4 < (x192000.length : Int) then (if x3.toList = ([] : List UInt8) then (if 0 ≤ x4 then ((spec_Digits.f k ((rd_T63 x192000 x4).f0)).bind fun t193 => (if x3.size + t193.size ≤ 9223372036854775807 then (if (x3 ++ t193).size + 1 ≤ 9223372036854775807 then ((spec_EntryText.f k ((rd_T63 x192000 x4).f1.f0) ((rd_T63 x192000 x4).f1.f1) ((rd_T63 x192000 x4).f1.f2) ((rd_T63 x192000 x4).f1.f3) ((rd_T63 x192000 x4).f1.f4)).bind fun t195 => (if ((x3 ++ t193) ++ (⟨#[61]⟩ : ByteArray)).size + t195.size ≤ 9223372036854775807 then (spec_StateText.l0 k (((x3 ++ t193) ++ (⟨#[61]⟩ : ByteArray)) ++ t195) (wrap64 (x4 + 1)) x192000 x192001) else (none))) else (none)) else (none))) else (none)) else (if x3.size + 1 ≤ 9223372036854775807 then (if 0 ≤ x4 then ((spec_Digits.f k ((rd_T63 x192000 x4).f0)).bind fun t197 => (if (x3 ++ (⟨#[32]⟩ : ByteArray)).size + t197.size ≤ 9223372036854775807 then (if ((x3 ++ (⟨#[32]⟩ : ByteArray)) ++ t197).size + 1 ≤ 9223372036854775807 then ((spec_EntryText.f k ((rd_T63 x192000 x4).f1.f0) ((rd_T63 x192000 x4).f1.f1) ((rd_T63 x192000 x4).f1.f2) ((rd_T63 x192000 x4).f1.f3) ((rd_T63 x192000 x4).f1.f4)).bind fun t199 => (if (((x3 ++ (⟨#[32]⟩ : ByteArray)) ++ t197) ++ (⟨#[61]⟩ : ByteArray)).size + t199.size ≤ 9223372036854775807 then (spec_StateText.l0 k ((((x3 ++ (⟨#[32]⟩ : ByteArray)) ++ t197) ++ (⟨#[61]⟩ : ByteArray)) ++ t199) (wrap64 (x4 + 1)) x192000 x192001) else (none))) else (none)) else (none))) else (none)) else (none))) else (spec_StateText.l1 k x3 0 x192000 x192001)
def spec_StateText.l1 : Nat → ByteArray → Int → List (S63) → List (S68) → Option (ByteArray)
 | 0, _, _, _, _ => none
 | k + 1, x3, x5, x192000, x192001 => if x5 < (x192001.length : Int) then (if x3.toList = ([] : List UInt8) then (if x3.size + 1 ≤ 9223372036854775807 then (if 0 ≤ x5 then ((spec_Digits.f k ((rd_T68 x192001 x5).f0)).bind fun t201 => (if (x3 ++ (⟨#[45]⟩ : ByteArray)).size + t201.size ≤ 9223372036854775807 then (if ((x3 ++ (⟨#[45]⟩ : ByteArray)) ++ t201).size + 1 ≤ 9223372036854775807 then ((spec_Digits.f k ((rd_T68 x192001 x5).f1)).bind fun t203 => (if (((x3 ++ (⟨#[45]⟩ : ByteArray)) ++ t201) ++ (⟨#[60]⟩ : ByteArray)).size + t203.size ≤ 9223372036854775807 then (spec_StateText.l1 k ((((x3 ++ (⟨#[45]⟩ : ByteArray)) ++ t201) ++ (⟨#[60]⟩ : ByteArray)) ++ t203) (wrap64 (x5 + 1)) x192000 x192001) else (none))) else (none)) else (none))) else (none)) else (none)) else (if x3.size + 1 ≤ 9223372036854775807 then (if (x3 ++ (⟨#[32]⟩ : ByteArray)).size + 1 ≤ 9223372036854775807 then (if 0 ≤ x5 then ((spec_Digits.f k ((rd_T68 x192001 x5).f0)).bind fun t205 => (if ((x3 ++ (⟨#[32]⟩ : ByteArray)) ++ (⟨#[45]⟩ : ByteArray)).size + t205.size ≤ 9223372036854775807 then (if (((x3 ++ (⟨#[32]⟩ : ByteArray)) ++ (⟨#[45]⟩ : ByteArray)) ++ t205).size + 1 ≤ 9223372036854775807 then ((spec_Digits.f k ((rd_T68 x192001 x5).f1)).bind fun t207 => (if ((((x3 ++ (⟨#[32]⟩ : ByteArray)) ++ (⟨#[45]⟩ : ByteArray)) ++ t205) ++ (⟨#[60]⟩ : ByteArray)).size + t207.size ≤ 9223372036854775807 then (spec_StateText.l1 k (((((x3 ++ (⟨#[32]⟩ : ByteArray)) ++ (⟨#[45]⟩ : ByteArray)) ++ t205) ++ (⟨#[60]⟩ : ByteArray)) ++ t207) (wrap64 (x5 + 1)) x192000 x192001) else (none))) else (none)) else (none))) else (none)) else (none)) else (none))) else (some x3)
end
def spec_StateText.f (k : Nat) (l0_0 : List (S63)) (l0_1 : List (S68)) : Option (ByteArray) := spec_StateText.l0 k (⟨#[]⟩ : ByteArray) 0 l0_0 l0_1
theorem spec_StateText.mono_l : ∀ k, (∀ y0 y1 y2 y3, LeO (spec_StateText.l0 k y0 y1 y2 y3) (spec_StateText.l0 (k + 1) y0 y1 y2 y3)) ∧ (∀ y0 y1 y2 y3, LeO (spec_StateText.l1 k y0 y1 y2 y3) (spec_StateText.l1 (k + 1) y0 y1 y2 y3))
 | 0 => ⟨fun _ _ _ _ r h => by simp [spec_StateText.l0] at h, fun _ _ _ _ r h => by simp [spec_StateText.l1] at h⟩
 | k + 1 => by
  obtain ⟨ih0, ih1⟩ := spec_StateText.mono_l k
  refine ⟨?_, ?_⟩
  ·intro y0 y1 y2 y3
   unfold spec_StateText.l0
   repeat' first | (with_reducible first | exact LeO.refl _ | exact LeO.none _ | refine LeO.ite ?_ ?_ | refine LeO.bind ?_ (fun _ => ?_) | apply ih0 | apply ih1 | apply spec_Digits.mono | apply spec_EntryText.mono) | apply ih0 | apply ih1 | apply spec_Digits.mono | apply spec_EntryText.mono | exact LeO.none _ | refine LeO.ite ?_ ?_ | refine LeO.bind ?_ (fun _ => ?_)
  ·intro y0 y1 y2 y3
   unfold spec_StateText.l1
   repeat' first | (with_reducible first | exact LeO.refl _ | exact LeO.none _ | refine LeO.ite ?_ ?_ | refine LeO.bind ?_ (fun _ => ?_) | apply ih0 | apply ih1 | apply spec_Digits.mono | apply spec_EntryText.mono) | apply ih0 | apply ih1 | apply spec_Digits.mono | apply spec_EntryText.mono | exact LeO.none _ | refine LeO.ite ?_ ?_ | refine LeO.bind ?_ (fun _ => ?_)
theorem spec_StateText.mono : ∀ a0 a1 k, LeO (spec_StateText.f k a0 a1) (spec_StateText.f (k + 1) a0 a1) := by
 intro a0 a1 k; obtain ⟨ih0, ih1⟩ := spec_StateText.mono_l k
 unfold spec_StateText.f
 repeat' first | (with_reducible first | exact LeO.refl _ | exact LeO.none _ | refine LeO.ite ?_ ?_ | refine LeO.bind ?_ (fun _ => ?_) | apply ih0 | apply ih1 | apply spec_Digits.mono | apply spec_EntryText.mono) | apply ih0 | apply ih1 | apply spec_Digits.mono | apply spec_EntryText.mono | exact LeO.none _ | refine LeO.ite ?_ ?_ | refine LeO.bind ?_ (fun _ => ?_)
def spec_StateText.T7 : Bool × List (List Nat × List Nat) := (true, [([], []), ([], []), ([1], [1]), ([], []), ([2, 3], [2, 3]), ([4], [4]), ([5], [5]), ([6], [6]), ([0, 7], [0, 7]), ([8], [8]), ([], []), ([10], [10]), ([], []), ([11, 12], [11, 12]), ([13], [13]), ([14], [14]), ([15, 7], [15]), ([9, 16], [9, 16]), ([17, 16, 0, 1, 2, 3, 4, 5, 6, 7, 8, 9, 10, 11, 12, 13, 14, 15, 16, 17], [0, 17])])
def spec_StateText.B7 : List Nat := [0, 0, 2, 0, 14, 30, 62, 126, 255, 511, 0, 1024, 0, 7168, 15360, 31744, 64766, 131071, 262143]
theorem spec_StateText.tab7 : rtab .any (opsOf Tryd.f22 7) = spec_StateText.T7 := by kernel_rfl
theorem spec_StateText.bits7 : waitsOk spec_StateText.T7.2 spec_StateText.B7 = true := by kernel_rfl
def spec_StateText.T13 : Bool × List (List Nat × List Nat) := (true, [([], []), ([0], [0]), ([], []), ([2], [2]), ([], []), ([3, 4], [3, 4]), ([5], [5]), ([6], [6]), ([7], [7]), ([1, 8], [1, 8]), ([9], [9]), ([], []), ([11], [11]), ([], []), ([12, 13], [12, 13]), ([14], [14]), ([15], [15]), ([16, 8], [16]), ([10, 17], [10, 17]), ([18, 17, 0, 1, 2, 3, 4, 5, 6, 7, 8, 9, 10, 11, 12, 13, 14, 15, 16, 17, 18], [0, 18])])
def spec_StateText.B13 : List Nat := [0, 1, 0, 4, 0, 28, 60, 124, 252, 511, 1023, 0, 2048, 0, 14336, 30720, 63488, 129532, 262143, 524287]
theorem spec_StateText.tab13 : rtab .any (opsOf Tryd.f22 13) = spec_StateText.T13 := by kernel_rfl
theorem spec_StateText.bits13 : waitsOk spec_StateText.T13.2 spec_StateText.B13 = true := by kernel_rfl
set_option maxHeartbeats 8000000 in
set_option maxRecDepth 100000 in
theorem spec_StateText.calls (k : Nat) (A0_0 : Option Addr) (c0_0 : Nat) (l0_0 : List (S63)) (A0_1 : Option Addr) (c0_1 : Nat) (l0_1 : List (S68)) (r : ByteArray) (w : World) (hr0_0 : Kd.C k63 w A0_0 l0_0.length l0_0) (hc0_0 : l0_0.length ≤ c0_0) (hr0_1 : Kd.C k68 w A0_1 l0_1.length l0_1) (hc0_1 : l0_1.length ≤ c0_1) (h : spec_StateText.f k l0_0 l0_1 = some r) :
  Calls Tryd.prog 22 #[.agg #[.slice A0_0 l0_0.length c0_0, .slice A0_1 l0_1.length c0_1]] w fun e w' => e = .returned (.string r) ∧ Below w.heap.size w w' := by
 have hu45 := Tryd.underlying45; have hu28 := Tryd.underlying28; have HR0_0 := zm hr0_0; have HC0_0 := zm hc0_0; clear hr0_0 hc0_0; have HR0_1 := zm hr0_1; have HC0_1 := zm hc0_1; clear hr0_1 hc0_1; have HB := zm (Below.refl w.heap.size w); have H : (spec_StateText.l0 k (⟨#[]⟩ : ByteArray) 0 l0_0 l0_1) = some r := h; clear h
 have H' := zm H
 clear H; go_enter Tryd.func22, Tryd.ntmps22
 go_wp2_with (first | ((with_reducible refine gate_dst (N := 1) rfl ?_); refine zbox 1 #[.slice A0_0 l0_0.length c0_0, .slice A0_1 l0_1.length c0_1] 45 ?_; intro AF hg w2 hbox hb; have AB := zm (hbox); have BZ := zge w hg zB; have BY := zge w hg zB; replace HB := zm (below_step zB hb); clear hb hbox hg))
 go_loopg [3, 4] k (fun kq v3 v4 w' => ∃ (AE : ByteArray) (AA : Int), v3 = .string AE ∧ v4 = .int .i64 AA ∧ Aside0 (spec_StateText.l0 kq AE AA l0_0 l0_1 = some r) ∧ Aside0 (kq ≤ k) ∧ Aside0 (w'.heap[AF]? = some (.cells #[(.slice A0_0 l0_0.length c0_0), (.slice A0_1 l0_1.length c0_1)] 45 (0, 0))) ∧ Aside0 (Below w.heap.size w w'))
 case atStart => exact ⟨((⟨#[]⟩ : ByteArray)), (0), zF, zF, H', ⟨Nat.le_refl _⟩, ⟨zb AB⟩, ⟨zB⟩⟩
 case round =>
  clear H'; obtain ⟨AE, AA, rfl, rfl, HA, AK, AB, HB⟩ := hrel
  cases gk with
  | zero => exact absurd HA.out (by simp [spec_StateText.l0])
  | succ k1 =>
   have H := HA.out; clear HA; simp only [spec_StateText.l0] at H
   by_cases c3 : AA < (l0_0.length : Int)
   ·rw [if_pos c3] at H; have At : decide (AA < (l0_0.length : Int)) = true := decide_eq_true c3; clear c3
    by_cases c4 : AE.toList = ([] : List UInt8)
    ·rw [if_pos c4] at H; have Az : (AE.toList == ([] : List UInt8)) = true := beq_iff_eq.mpr c4; have B0 : (AE.toList != ([] : List UInt8)) = false := bne_eq_false_iff_eq.mpr c4; clear c4
     by_cases c5 : 0 ≤ AA
     ·rw [if_pos c5] at H; have CJ : decide (0 ≤ AA) = true := decide_eq_true c5; clear c5; replace H := Option.bind_eq_some_iff.mp H; obtain ⟨AG, Ax, H⟩ := H; (try dsimp only at H); have A6 := zm Ax; clear Ax
      by_cases c7 : AE.size + AG.size ≤ 9223372036854775807
      ·rw [if_pos c7] at H; have CK := eq_true c7; have CL : decide (AE.size + AG.size ≤ 9223372036854775807) = true := decide_eq_true c7
       try have CM : (9223372036854775807 < AE.size + AG.size) = False := eq_false (Nat.not_lt.2 c7)
       by_cases c8 : (AE ++ AG).size + 1 ≤ 9223372036854775807
       ·rw [if_pos c8] at H; have CN := eq_true c8; have CO : decide ((AE ++ AG).size + 1 ≤ 9223372036854775807) = true := decide_eq_true c8
        try have CP : (9223372036854775807 < (AE ++ AG).size + 1) = False := eq_false (Nat.not_lt.2 c8)
        (try (have CPs := CP; simp only [ByteArray.size_append, zsz] at CPs))
        replace H := Option.bind_eq_some_iff.mp H; obtain ⟨AM, Ay, H⟩ := H; (try dsimp only at H); have A9 := zm Ay; clear Ay
        by_cases AR : ((AE ++ AG) ++ (⟨#[61]⟩ : ByteArray)).size + AM.size ≤ 9223372036854775807
        ·rw [if_pos AR] at H; have Ba := eq_true AR; have Bb : decide (((AE ++ AG) ++ (⟨#[61]⟩ : ByteArray)).size + AM.size ≤ 9223372036854775807) = true := decide_eq_true AR
         try have Bc : (9223372036854775807 < ((AE ++ AG) ++ (⟨#[61]⟩ : ByteArray)).size + AM.size) = False := eq_false (Nat.not_lt.2 AR)
         (try (have Bcs := Bc; simp only [ByteArray.size_append, zsz] at Bcs))
         have H' := zm H
         clear H; obtain ⟨B2, B3, BI, BJ⟩ := zc2 AB
         try go_wp2
         replace AB := zq AB; replace HB := zm (below_drew1 HB.out); have p192 : 0 ≤ (AA : Int) := zd; have q192 : AA < (l0_0.length : Int) := zd; obtain ⟨ad192, e192, hx192_0, hx192_1, hx192_2, hx192_3, hx192_4, hx192_5⟩ := at_T63 HR0_0.out AA p192 q192; have hw192_5 := hx192_5; have hw192_4 := hx192_4; have hw192_3 := hx192_3; have hw192_2 := hx192_2; have hw192_1 := hx192_1; have hw192_0 := hx192_0; cases e192; replace hx192_0 := zx HB hx192_0; replace hx192_1 := zx HB hx192_1; replace hx192_2 := zx HB hx192_2; replace hx192_3 := zx HB hx192_3; replace hx192_4 := zx HB hx192_4; replace hx192_5 := zx HB hx192_5; replace p192 := eq_true p192; replace q192 := eq_true q192; have p194 : 0 ≤ (AA : Int) := zd; have q194 : AA < (l0_0.length : Int) := zd; obtain ⟨ad194, e194, hx194_0, hx194_1, hx194_2, hx194_3, hx194_4, hx194_5⟩ := at_T63 HR0_0.out AA p194 q194; have hw194_5 := hx194_5; have hw194_4 := hx194_4; have hw194_3 := hx194_3; have hw194_2 := hx194_2; have hw194_1 := hx194_1; have hw194_0 := hx194_0
         obtain rfl : ad192 = ad194 := (by injection e194)
         replace hx194_0 := zx HB hx194_0; replace hx194_1 := zx HB hx194_1; replace hx194_2 := zx HB hx194_2; replace hx194_3 := zx HB hx194_3; replace hx194_4 := zx HB hx194_4; replace hx194_5 := zx HB hx194_5; replace p194 := eq_true p194; replace q194 := eq_true q194
         refine start_ (n := 19) (S := fun w' => w'.cell? ⟨AF, 0, none⟩ = some (.slice (some ad192) l0_0.length c0_0) ∧ w'.cell? ⟨AF, 1, none⟩ = some (.slice A0_1 l0_1.length c0_1) ∧ w'.cell? (ad192.add ((AA).toNat * 6)) = some (.int .i64 ((rd_T63 l0_0 AA).f0)) ∧ w'.cell? ⟨(ad192.add ((AA).toNat * 6)).block, (ad192.add ((AA).toNat * 6)).off + 1, none⟩ = some (.int .i64 ((rd_T63 l0_0 AA).f1.f0)) ∧ w'.cell? ⟨(ad192.add ((AA).toNat * 6)).block, (ad192.add ((AA).toNat * 6)).off + 2, none⟩ = some (.int .i64 ((rd_T63 l0_0 AA).f1.f1)) ∧ w'.cell? ⟨(ad192.add ((AA).toNat * 6)).block, (ad192.add ((AA).toNat * 6)).off + 3, none⟩ = some (.int .i64 ((rd_T63 l0_0 AA).f1.f2)) ∧ w'.cell? ⟨(ad192.add ((AA).toNat * 6)).block, (ad192.add ((AA).toNat * 6)).off + 4, none⟩ = some (.int .i64 ((rd_T63 l0_0 AA).f1.f3)) ∧ w'.cell? ⟨(ad192.add ((AA).toNat * 6)).block, (ad192.add ((AA).toNat * 6)).off + 5, none⟩ = some (.string ((rd_T63 l0_0 AA).f1.f4)) ∧ w'.cell? (ad192.add ((AA).toNat * 6)) = some (.int .i64 ((rd_T63 l0_0 AA).f0)) ∧ w'.cell? ⟨(ad192.add ((AA).toNat * 6)).block, (ad192.add ((AA).toNat * 6)).off + 1, none⟩ = some (.int .i64 ((rd_T63 l0_0 AA).f1.f0)) ∧ w'.cell? ⟨(ad192.add ((AA).toNat * 6)).block, (ad192.add ((AA).toNat * 6)).off + 2, none⟩ = some (.int .i64 ((rd_T63 l0_0 AA).f1.f1)) ∧ w'.cell? ⟨(ad192.add ((AA).toNat * 6)).block, (ad192.add ((AA).toNat * 6)).off + 3, none⟩ = some (.int .i64 ((rd_T63 l0_0 AA).f1.f2)) ∧ w'.cell? ⟨(ad192.add ((AA).toNat * 6)).block, (ad192.add ((AA).toNat * 6)).off + 4, none⟩ = some (.int .i64 ((rd_T63 l0_0 AA).f1.f3)) ∧ w'.cell? ⟨(ad192.add ((AA).toNat * 6)).block, (ad192.add ((AA).toNat * 6)).off + 5, none⟩ = some (.string ((rd_T63 l0_0 AA).f1.f4))) (ds := []) (zl 19 0) (by kernel_rfl) rfl rfl zS (fun hHeld => ?_); refine with_tabW spec_StateText.tab7 spec_StateText.bits7 (fun HT_ HW_ => ?_)
         generalize wr.drew = CQ at AB HB hx192_0 hx192_1 hx192_2 hx192_3 hx192_4 hx192_5 hx194_0 hx194_1 hx194_2 hx194_3 hx194_4 hx194_5 hHeld ⊢
         refine zu 0 17 19 1 ?_
         refine zu 1 18 19 3 ?_
         refine zu 3 20 19 11 ?_
         refine zu 10 27 19 1035 ?_
         refine zu 12 29 19 5131 ?_
         refine zv 2 19 19 5135 ?_
         refine zu 4 21 19 5151 ?_
         refine zu 5 22 19 5183 ?_
         refine zv 6 23 19 5247 ?_
         refine zv 11 28 19 7295 ?_
         refine zu 13 30 19 15487 ?_
         refine zu 14 31 19 31871 ?_
         refine zv 15 32 19 64639 ?_
         refine zo 7 (some 24) (zl 19 64767) (fun K hK => ?_); refine zgo #[.int .i64 ((rd_T63 l0_0 AA).f0)] Tryd.func10 ?_; (with_reducible refine (spec_Digits.calls k1 ((rd_T63 l0_0 AA).f0) AG _ A6.out).mono ?_); rintro e CR ⟨rfl, hb⟩; refine ⟨_, rfl, ?_⟩; replace AB := zy AB hb; replace HB := zm (below_step zB hb); (try clear hb); refine hK.out _ _ zS (fun hHeld => ?_); clear hK K; refine zn ?_
         refine zu 8 25 19 65023 ?_
         refine zu 9 26 19 65535 ?_
         refine zo 16 (some 33) (zl 19 131071) (fun K hK => ?_); refine zgo #[.agg #[.int .i64 ((rd_T63 l0_0 AA).f1.f0), .int .i64 ((rd_T63 l0_0 AA).f1.f1), .int .i64 ((rd_T63 l0_0 AA).f1.f2), .int .i64 ((rd_T63 l0_0 AA).f1.f3), .string ((rd_T63 l0_0 AA).f1.f4)]] Tryd.func13 ?_; (with_reducible refine (spec_EntryText.calls k1 ((rd_T63 l0_0 AA).f1.f0) ((rd_T63 l0_0 AA).f1.f1) ((rd_T63 l0_0 AA).f1.f2) ((rd_T63 l0_0 AA).f1.f3) ((rd_T63 l0_0 AA).f1.f4) AM _ A9.out).mono ?_); rintro e CS ⟨rfl, hb⟩; refine ⟨_, rfl, ?_⟩; replace AB := zy AB hb; replace HB := zm (below_step zB hb); (try clear hb); refine hK.out _ _ zS (fun hHeld => ?_); clear hK K; refine zn ?_
         refine zu 17 34 19 262143 ?_
         refine zu 18 3 19 524287 ?_
         refine done_ (done_of HT_.out (by kernel_rfl)) ?_
         try go_wp2
         go_roundg k1
         case measure => have := AK.out; omega
         case rel => exact ⟨(((AE ++ AG) ++ (⟨#[61]⟩ : ByteArray)) ++ AM), (wrap64 (AA + 1)), zF, zF, H', ⟨by have := AK.out; omega⟩, ⟨zb AB⟩, ⟨zB⟩⟩
        ·rw [if_neg AR] at H
         exact absurd H (by simp)
       ·rw [if_neg c8] at H
        exact absurd H (by simp)
      ·rw [if_neg c7] at H
       exact absurd H (by simp)
     ·rw [if_neg c5] at H
      exact absurd H (by simp)
    ·rw [if_neg c4] at H; have Az : (AE.toList == ([] : List UInt8)) = false := beq_eq_false_iff_ne.mpr c4; have B0 : (AE.toList != ([] : List UInt8)) = true := bne_iff_ne.mpr c4
     by_cases AS : AE.size + 1 ≤ 9223372036854775807
     ·rw [if_pos AS] at H; have Bd := eq_true AS; have Be : decide (AE.size + 1 ≤ 9223372036854775807) = true := decide_eq_true AS
      try have Bf : (9223372036854775807 < AE.size + 1) = False := eq_false (Nat.not_lt.2 AS)
      by_cases Ag : 0 ≤ AA
      ·rw [if_pos Ag] at H; have Bg : decide (0 ≤ AA) = true := decide_eq_true Ag; clear Ag; replace H := Option.bind_eq_some_iff.mp H; obtain ⟨AH, An, H⟩ := H; (try dsimp only at H); have BS := zm An; clear An
       by_cases AT : (AE ++ (⟨#[32]⟩ : ByteArray)).size + AH.size ≤ 9223372036854775807
       ·rw [if_pos AT] at H; have Bh := eq_true AT; have Bi : decide ((AE ++ (⟨#[32]⟩ : ByteArray)).size + AH.size ≤ 9223372036854775807) = true := decide_eq_true AT
        try have Bj : (9223372036854775807 < (AE ++ (⟨#[32]⟩ : ByteArray)).size + AH.size) = False := eq_false (Nat.not_lt.2 AT)
        (try (have Bjs := Bj; simp only [ByteArray.size_append, zsz] at Bjs))
        by_cases AU : ((AE ++ (⟨#[32]⟩ : ByteArray)) ++ AH).size + 1 ≤ 9223372036854775807
        ·rw [if_pos AU] at H; have Bk := eq_true AU; have Bl : decide (((AE ++ (⟨#[32]⟩ : ByteArray)) ++ AH).size + 1 ≤ 9223372036854775807) = true := decide_eq_true AU
         try have Bm : (9223372036854775807 < ((AE ++ (⟨#[32]⟩ : ByteArray)) ++ AH).size + 1) = False := eq_false (Nat.not_lt.2 AU)
         (try (have Bms := Bm; simp only [ByteArray.size_append, zsz] at Bms))
         replace H := Option.bind_eq_some_iff.mp H; obtain ⟨AN, Ao, H⟩ := H; (try dsimp only at H); have BT := zm Ao; clear Ao
         by_cases AV : (((AE ++ (⟨#[32]⟩ : ByteArray)) ++ AH) ++ (⟨#[61]⟩ : ByteArray)).size + AN.size ≤ 9223372036854775807
         ·rw [if_pos AV] at H; have Bn := eq_true AV; have Bo : decide ((((AE ++ (⟨#[32]⟩ : ByteArray)) ++ AH) ++ (⟨#[61]⟩ : ByteArray)).size + AN.size ≤ 9223372036854775807) = true := decide_eq_true AV
          try have Bp : (9223372036854775807 < (((AE ++ (⟨#[32]⟩ : ByteArray)) ++ AH) ++ (⟨#[61]⟩ : ByteArray)).size + AN.size) = False := eq_false (Nat.not_lt.2 AV)
          (try (have Bps := Bp; simp only [ByteArray.size_append, zsz] at Bps))
          have H' := zm H
          clear H; obtain ⟨BA, BB, BK, BL⟩ := zc2 AB
          try go_wp2
          replace AB := zq AB; replace HB := zm (below_drew1 HB.out); have p196 : 0 ≤ (AA : Int) := zd; have q196 : AA < (l0_0.length : Int) := zd; obtain ⟨ad196, e196, hx196_0, hx196_1, hx196_2, hx196_3, hx196_4, hx196_5⟩ := at_T63 HR0_0.out AA p196 q196; have hw196_5 := hx196_5; have hw196_4 := hx196_4; have hw196_3 := hx196_3; have hw196_2 := hx196_2; have hw196_1 := hx196_1; have hw196_0 := hx196_0; cases e196; replace hx196_0 := zx HB hx196_0; replace hx196_1 := zx HB hx196_1; replace hx196_2 := zx HB hx196_2; replace hx196_3 := zx HB hx196_3; replace hx196_4 := zx HB hx196_4; replace hx196_5 := zx HB hx196_5; replace p196 := eq_true p196; replace q196 := eq_true q196; have p198 : 0 ≤ (AA : Int) := zd; have q198 : AA < (l0_0.length : Int) := zd; obtain ⟨ad198, e198, hx198_0, hx198_1, hx198_2, hx198_3, hx198_4, hx198_5⟩ := at_T63 HR0_0.out AA p198 q198; have hw198_5 := hx198_5; have hw198_4 := hx198_4; have hw198_3 := hx198_3; have hw198_2 := hx198_2; have hw198_1 := hx198_1; have hw198_0 := hx198_0
          obtain rfl : ad196 = ad198 := (by injection e198)
          replace hx198_0 := zx HB hx198_0; replace hx198_1 := zx HB hx198_1; replace hx198_2 := zx HB hx198_2; replace hx198_3 := zx HB hx198_3; replace hx198_4 := zx HB hx198_4; replace hx198_5 := zx HB hx198_5; replace p198 := eq_true p198; replace q198 := eq_true q198
          refine start_ (n := 19) (S := fun w' => w'.cell? ⟨AF, 0, none⟩ = some (.slice (some ad196) l0_0.length c0_0) ∧ w'.cell? ⟨AF, 1, none⟩ = some (.slice A0_1 l0_1.length c0_1) ∧ w'.cell? (ad196.add ((AA).toNat * 6)) = some (.int .i64 ((rd_T63 l0_0 AA).f0)) ∧ w'.cell? ⟨(ad196.add ((AA).toNat * 6)).block, (ad196.add ((AA).toNat * 6)).off + 1, none⟩ = some (.int .i64 ((rd_T63 l0_0 AA).f1.f0)) ∧ w'.cell? ⟨(ad196.add ((AA).toNat * 6)).block, (ad196.add ((AA).toNat * 6)).off + 2, none⟩ = some (.int .i64 ((rd_T63 l0_0 AA).f1.f1)) ∧ w'.cell? ⟨(ad196.add ((AA).toNat * 6)).block, (ad196.add ((AA).toNat * 6)).off + 3, none⟩ = some (.int .i64 ((rd_T63 l0_0 AA).f1.f2)) ∧ w'.cell? ⟨(ad196.add ((AA).toNat * 6)).block, (ad196.add ((AA).toNat * 6)).off + 4, none⟩ = some (.int .i64 ((rd_T63 l0_0 AA).f1.f3)) ∧ w'.cell? ⟨(ad196.add ((AA).toNat * 6)).block, (ad196.add ((AA).toNat * 6)).off + 5, none⟩ = some (.string ((rd_T63 l0_0 AA).f1.f4)) ∧ w'.cell? (ad196.add ((AA).toNat * 6)) = some (.int .i64 ((rd_T63 l0_0 AA).f0)) ∧ w'.cell? ⟨(ad196.add ((AA).toNat * 6)).block, (ad196.add ((AA).toNat * 6)).off + 1, none⟩ = some (.int .i64 ((rd_T63 l0_0 AA).f1.f0)) ∧ w'.cell? ⟨(ad196.add ((AA).toNat * 6)).block, (ad196.add ((AA).toNat * 6)).off + 2, none⟩ = some (.int .i64 ((rd_T63 l0_0 AA).f1.f1)) ∧ w'.cell? ⟨(ad196.add ((AA).toNat * 6)).block, (ad196.add ((AA).toNat * 6)).off + 3, none⟩ = some (.int .i64 ((rd_T63 l0_0 AA).f1.f2)) ∧ w'.cell? ⟨(ad196.add ((AA).toNat * 6)).block, (ad196.add ((AA).toNat * 6)).off + 4, none⟩ = some (.int .i64 ((rd_T63 l0_0 AA).f1.f3)) ∧ w'.cell? ⟨(ad196.add ((AA).toNat * 6)).block, (ad196.add ((AA).toNat * 6)).off + 5, none⟩ = some (.string ((rd_T63 l0_0 AA).f1.f4))) (ds := []) (zl 19 0) (by kernel_rfl) rfl rfl zS (fun hHeld => ?_); refine with_tabW spec_StateText.tab7 spec_StateText.bits7 (fun HT_ HW_ => ?_)
          generalize wr.drew = CT at AB HB hx196_0 hx196_1 hx196_2 hx196_3 hx196_4 hx196_5 hx198_0 hx198_1 hx198_2 hx198_3 hx198_4 hx198_5 hHeld ⊢
          refine zu 0 17 19 1 ?_
          refine zu 1 18 19 3 ?_
          refine zu 3 20 19 11 ?_
          refine zu 10 27 19 1035 ?_
          refine zu 12 29 19 5131 ?_
          refine zv 2 19 19 5135 ?_
          refine zu 4 21 19 5151 ?_
          refine zu 5 22 19 5183 ?_
          refine zv 6 23 19 5247 ?_
          refine zv 11 28 19 7295 ?_
          refine zu 13 30 19 15487 ?_
          refine zu 14 31 19 31871 ?_
          refine zv 15 32 19 64639 ?_
          refine zo 7 (some 24) (zl 19 64767) (fun K hK => ?_); refine zgo #[.int .i64 ((rd_T63 l0_0 AA).f0)] Tryd.func10 ?_; (with_reducible refine (spec_Digits.calls k1 ((rd_T63 l0_0 AA).f0) AH _ BS.out).mono ?_); rintro e CU ⟨rfl, hb⟩; refine ⟨_, rfl, ?_⟩; replace AB := zy AB hb; replace HB := zm (below_step zB hb); (try clear hb); refine hK.out _ _ zS (fun hHeld => ?_); clear hK K; refine zn ?_
          refine zu 8 25 19 65023 ?_
          refine zu 9 26 19 65535 ?_
          refine zo 16 (some 33) (zl 19 131071) (fun K hK => ?_); refine zgo #[.agg #[.int .i64 ((rd_T63 l0_0 AA).f1.f0), .int .i64 ((rd_T63 l0_0 AA).f1.f1), .int .i64 ((rd_T63 l0_0 AA).f1.f2), .int .i64 ((rd_T63 l0_0 AA).f1.f3), .string ((rd_T63 l0_0 AA).f1.f4)]] Tryd.func13 ?_; (with_reducible refine (spec_EntryText.calls k1 ((rd_T63 l0_0 AA).f1.f0) ((rd_T63 l0_0 AA).f1.f1) ((rd_T63 l0_0 AA).f1.f2) ((rd_T63 l0_0 AA).f1.f3) ((rd_T63 l0_0 AA).f1.f4) AN _ BT.out).mono ?_); rintro e CV ⟨rfl, hb⟩; refine ⟨_, rfl, ?_⟩; replace AB := zy AB hb; replace HB := zm (below_step zB hb); (try clear hb); refine hK.out _ _ zS (fun hHeld => ?_); clear hK K; refine zn ?_
          refine zu 17 34 19 262143 ?_
          refine zu 18 3 19 524287 ?_
          refine done_ (done_of HT_.out (by kernel_rfl)) ?_
          try go_wp2
          go_roundg k1
          case measure => have := AK.out; omega
          case rel => exact ⟨((((AE ++ (⟨#[32]⟩ : ByteArray)) ++ AH) ++ (⟨#[61]⟩ : ByteArray)) ++ AN), (wrap64 (AA + 1)), zF, zF, H', ⟨by have := AK.out; omega⟩, ⟨zb AB⟩, ⟨zB⟩⟩
         ·rw [if_neg AV] at H
          exact absurd H (by simp)
        ·rw [if_neg AU] at H
         exact absurd H (by simp)
       ·rw [if_neg AT] at H
        exact absurd H (by simp)
      ·rw [if_neg Ag] at H
       exact absurd H (by simp)
     ·rw [if_neg AS] at H
      exact absurd H (by simp)
   ·rw [if_neg c3] at H; have At : decide (AA < (l0_0.length : Int)) = false := decide_eq_false c3; clear c3
    have H' := zm H
    clear H; obtain ⟨Aj, Ak, Al, Am⟩ := zc2 AB
    go_wp2
    go_loopg [3, 5] k1 (fun kq v3 v5 w' => ∃ (AD : ByteArray) (AC : Int), v3 = .string AD ∧ v5 = .int .i64 AC ∧ Aside0 (spec_StateText.l1 kq AD AC l0_0 l0_1 = some r) ∧ Aside0 (kq ≤ k1) ∧ Aside0 (w'.heap[AF]? = some (.cells #[(.slice A0_0 l0_0.length c0_0), (.slice A0_1 l0_1.length c0_1)] 45 (0, 0))) ∧ Aside0 (Below w.heap.size w w'))
    case atStart => exact ⟨(AE), (0), zF, zF, H', ⟨Nat.le_refl _⟩, ⟨zb AB⟩, ⟨zB⟩⟩
    case round =>
     clear H'; (try clear c3); (try clear At); (try clear Aj); (try clear Ak); (try clear Al); (try clear Am); obtain ⟨AD, AC, rfl, rfl, HA, Af, AB, HB⟩ := hrel
     cases gk with
     | zero => exact absurd HA.out (by simp [spec_StateText.l1])
     | succ k2 =>
      have H := HA.out; clear HA; simp only [spec_StateText.l1] at H
      by_cases AQ : AC < (l0_1.length : Int)
      ·rw [if_pos AQ] at H; have Au : decide (AC < (l0_1.length : Int)) = true := decide_eq_true AQ; clear AQ
       by_cases AL : AD.toList = ([] : List UInt8)
       ·rw [if_pos AL] at H; have Av : (AD.toList == ([] : List UInt8)) = true := beq_iff_eq.mpr AL; have Aw : (AD.toList != ([] : List UInt8)) = false := bne_eq_false_iff_eq.mpr AL; clear AL
        by_cases AW : AD.size + 1 ≤ 9223372036854775807
        ·rw [if_pos AW] at H; have Bq := eq_true AW; have Br : decide (AD.size + 1 ≤ 9223372036854775807) = true := decide_eq_true AW
         try have Bs : (9223372036854775807 < AD.size + 1) = False := eq_false (Nat.not_lt.2 AW)
         by_cases Ah : 0 ≤ AC
         ·rw [if_pos Ah] at H; have Bt : decide (0 ≤ AC) = true := decide_eq_true Ah; clear Ah; replace H := Option.bind_eq_some_iff.mp H; obtain ⟨AI, Ap, H⟩ := H; (try dsimp only at H); have BU := zm Ap; clear Ap
          by_cases AX : (AD ++ (⟨#[45]⟩ : ByteArray)).size + AI.size ≤ 9223372036854775807
          ·rw [if_pos AX] at H; have Bu := eq_true AX; have Bv : decide ((AD ++ (⟨#[45]⟩ : ByteArray)).size + AI.size ≤ 9223372036854775807) = true := decide_eq_true AX
           try have Bw : (9223372036854775807 < (AD ++ (⟨#[45]⟩ : ByteArray)).size + AI.size) = False := eq_false (Nat.not_lt.2 AX)
           (try (have Bws := Bw; simp only [ByteArray.size_append, zsz] at Bws))
           by_cases AY : ((AD ++ (⟨#[45]⟩ : ByteArray)) ++ AI).size + 1 ≤ 9223372036854775807
           ·rw [if_pos AY] at H; have Bx := eq_true AY; have By : decide (((AD ++ (⟨#[45]⟩ : ByteArray)) ++ AI).size + 1 ≤ 9223372036854775807) = true := decide_eq_true AY
            try have Bz : (9223372036854775807 < ((AD ++ (⟨#[45]⟩ : ByteArray)) ++ AI).size + 1) = False := eq_false (Nat.not_lt.2 AY)
            (try (have Bzs := Bz; simp only [ByteArray.size_append, zsz] at Bzs))
            replace H := Option.bind_eq_some_iff.mp H; obtain ⟨AO, Aq, H⟩ := H; (try dsimp only at H); have BV := zm Aq; clear Aq
            by_cases AZ : (((AD ++ (⟨#[45]⟩ : ByteArray)) ++ AI) ++ (⟨#[60]⟩ : ByteArray)).size + AO.size ≤ 9223372036854775807
            ·rw [if_pos AZ] at H; have C0 := eq_true AZ; have C1 : decide ((((AD ++ (⟨#[45]⟩ : ByteArray)) ++ AI) ++ (⟨#[60]⟩ : ByteArray)).size + AO.size ≤ 9223372036854775807) = true := decide_eq_true AZ
             try have C2 : (9223372036854775807 < (((AD ++ (⟨#[45]⟩ : ByteArray)) ++ AI) ++ (⟨#[60]⟩ : ByteArray)).size + AO.size) = False := eq_false (Nat.not_lt.2 AZ)
             (try (have C2s := C2; simp only [ByteArray.size_append, zsz] at C2s))
             have H' := zm H
             clear H; obtain ⟨BC, BD, BM, BN⟩ := zc2 AB
             try go_wp2
             replace AB := zq AB; replace HB := zm (below_drew1 HB.out); have p200 : 0 ≤ (AC : Int) := zd; have q200 : AC < (l0_1.length : Int) := zd; obtain ⟨ad200, e200, hx200_0, hx200_1⟩ := at_T68 HR0_1.out AC p200 q200; have hw200_1 := hx200_1; have hw200_0 := hx200_0; cases e200; replace hx200_0 := zx HB hx200_0; replace hx200_1 := zx HB hx200_1; replace p200 := eq_true p200; replace q200 := eq_true q200; have p202 : 0 ≤ (AC : Int) := zd; have q202 : AC < (l0_1.length : Int) := zd; obtain ⟨ad202, e202, hx202_0, hx202_1⟩ := at_T68 HR0_1.out AC p202 q202; have hw202_1 := hx202_1; have hw202_0 := hx202_0
             obtain rfl : ad200 = ad202 := (by injection e202)
             replace hx202_0 := zx HB hx202_0; replace hx202_1 := zx HB hx202_1; replace p202 := eq_true p202; replace q202 := eq_true q202
             refine start_ (n := 20) (S := fun w' => w'.cell? ⟨AF, 0, none⟩ = some (.slice A0_0 l0_0.length c0_0) ∧ w'.cell? ⟨AF, 1, none⟩ = some (.slice (some ad200) l0_1.length c0_1) ∧ w'.cell? (ad200.add ((AC).toNat * 2)) = some (.int .i64 ((rd_T68 l0_1 AC).f0)) ∧ w'.cell? ⟨(ad200.add ((AC).toNat * 2)).block, (ad200.add ((AC).toNat * 2)).off + 1, none⟩ = some (.int .i64 ((rd_T68 l0_1 AC).f1)) ∧ w'.cell? (ad200.add ((AC).toNat * 2)) = some (.int .i64 ((rd_T68 l0_1 AC).f0)) ∧ w'.cell? ⟨(ad200.add ((AC).toNat * 2)).block, (ad200.add ((AC).toNat * 2)).off + 1, none⟩ = some (.int .i64 ((rd_T68 l0_1 AC).f1))) (ds := []) (zl 20 0) (by kernel_rfl) rfl rfl zS (fun hHeld => ?_); refine with_tabW spec_StateText.tab13 spec_StateText.bits13 (fun HT_ HW_ => ?_)
             generalize wr.drew = CW at AB HB hx200_0 hx200_1 hx202_0 hx202_1 hHeld ⊢
             refine zu 0 46 20 1 ?_
             refine zu 1 47 20 3 ?_
             refine zu 2 48 20 7 ?_
             refine zu 4 50 20 23 ?_
             refine zu 11 57 20 2071 ?_
             refine zu 13 59 20 10263 ?_
             refine zv 3 49 20 10271 ?_
             refine zu 5 51 20 10303 ?_
             refine zu 6 52 20 10367 ?_
             refine zv 7 53 20 10495 ?_
             refine zv 12 58 20 14591 ?_
             refine zu 14 60 20 30975 ?_
             refine zu 15 61 20 63743 ?_
             refine zv 16 62 20 129279 ?_
             refine zo 8 (some 54) (zl 20 129535) (fun K hK => ?_); refine zgo #[.int .i64 ((rd_T68 l0_1 AC).f0)] Tryd.func10 ?_; (with_reducible refine (spec_Digits.calls k2 ((rd_T68 l0_1 AC).f0) AI _ BU.out).mono ?_); rintro e CX ⟨rfl, hb⟩; refine ⟨_, rfl, ?_⟩; replace AB := zy AB hb; replace HB := zm (below_step zB hb); (try clear hb); refine hK.out _ _ zS (fun hHeld => ?_); clear hK K; refine zn ?_
             refine zu 9 55 20 130047 ?_
             refine zu 10 56 20 131071 ?_
             refine zo 17 (some 63) (zl 20 262143) (fun K hK => ?_); refine zgo #[.int .i64 ((rd_T68 l0_1 AC).f1)] Tryd.func10 ?_; (with_reducible refine (spec_Digits.calls k2 ((rd_T68 l0_1 AC).f1) AO _ BV.out).mono ?_); rintro e CY ⟨rfl, hb⟩; refine ⟨_, rfl, ?_⟩; replace AB := zy AB hb; replace HB := zm (below_step zB hb); (try clear hb); refine hK.out _ _ zS (fun hHeld => ?_); clear hK K; refine zn ?_
             refine zu 18 64 20 524287 ?_
             refine zu 19 3 20 1048575 ?_
             refine done_ (done_of HT_.out (by kernel_rfl)) ?_
             try go_wp2
             go_roundg k2
             case measure => have := AK.out; have := Af.out; omega
             case rel => exact ⟨((((AD ++ (⟨#[45]⟩ : ByteArray)) ++ AI) ++ (⟨#[60]⟩ : ByteArray)) ++ AO), (wrap64 (AC + 1)), zF, zF, H', ⟨by have := AK.out; have := Af.out; omega⟩, ⟨zb AB⟩, ⟨zB⟩⟩
            ·rw [if_neg AZ] at H
             exact absurd H (by simp)
           ·rw [if_neg AY] at H
            exact absurd H (by simp)
          ·rw [if_neg AX] at H
           exact absurd H (by simp)
         ·rw [if_neg Ah] at H
          exact absurd H (by simp)
        ·rw [if_neg AW] at H
         exact absurd H (by simp)
       ·rw [if_neg AL] at H; have Av : (AD.toList == ([] : List UInt8)) = false := beq_eq_false_iff_ne.mpr AL; have Aw : (AD.toList != ([] : List UInt8)) = true := bne_iff_ne.mpr AL
        by_cases Aa : AD.size + 1 ≤ 9223372036854775807
        ·rw [if_pos Aa] at H; have C3 := eq_true Aa; have C4 : decide (AD.size + 1 ≤ 9223372036854775807) = true := decide_eq_true Aa
         try have C5 : (9223372036854775807 < AD.size + 1) = False := eq_false (Nat.not_lt.2 Aa)
         by_cases Ab : (AD ++ (⟨#[32]⟩ : ByteArray)).size + 1 ≤ 9223372036854775807
         ·rw [if_pos Ab] at H; have C6 := eq_true Ab; have C7 : decide ((AD ++ (⟨#[32]⟩ : ByteArray)).size + 1 ≤ 9223372036854775807) = true := decide_eq_true Ab
          try have C8 : (9223372036854775807 < (AD ++ (⟨#[32]⟩ : ByteArray)).size + 1) = False := eq_false (Nat.not_lt.2 Ab)
          (try (have C8s := C8; simp only [ByteArray.size_append, zsz] at C8s))
          by_cases Ai : 0 ≤ AC
          ·rw [if_pos Ai] at H; have C9 : decide (0 ≤ AC) = true := decide_eq_true Ai; clear Ai; replace H := Option.bind_eq_some_iff.mp H; obtain ⟨AJ, Ar, H⟩ := H; (try dsimp only at H); have BW := zm Ar; clear Ar
           by_cases Ac : ((AD ++ (⟨#[32]⟩ : ByteArray)) ++ (⟨#[45]⟩ : ByteArray)).size + AJ.size ≤ 9223372036854775807
           ·rw [if_pos Ac] at H; have CA := eq_true Ac; have CB : decide (((AD ++ (⟨#[32]⟩ : ByteArray)) ++ (⟨#[45]⟩ : ByteArray)).size + AJ.size ≤ 9223372036854775807) = true := decide_eq_true Ac
            try have CC : (9223372036854775807 < ((AD ++ (⟨#[32]⟩ : ByteArray)) ++ (⟨#[45]⟩ : ByteArray)).size + AJ.size) = False := eq_false (Nat.not_lt.2 Ac)
            (try (have CCs := CC; simp only [ByteArray.size_append, zsz] at CCs))
            by_cases Ad : (((AD ++ (⟨#[32]⟩ : ByteArray)) ++ (⟨#[45]⟩ : ByteArray)) ++ AJ).size + 1 ≤ 9223372036854775807
            ·rw [if_pos Ad] at H; have CD := eq_true Ad; have CE : decide ((((AD ++ (⟨#[32]⟩ : ByteArray)) ++ (⟨#[45]⟩ : ByteArray)) ++ AJ).size + 1 ≤ 9223372036854775807) = true := decide_eq_true Ad
             try have CF : (9223372036854775807 < (((AD ++ (⟨#[32]⟩ : ByteArray)) ++ (⟨#[45]⟩ : ByteArray)) ++ AJ).size + 1) = False := eq_false (Nat.not_lt.2 Ad)
             (try (have CFs := CF; simp only [ByteArray.size_append, zsz] at CFs))
             replace H := Option.bind_eq_some_iff.mp H; obtain ⟨AP, As, H⟩ := H; (try dsimp only at H); have BX := zm As; clear As
             by_cases Ae : ((((AD ++ (⟨#[32]⟩ : ByteArray)) ++ (⟨#[45]⟩ : ByteArray)) ++ AJ) ++ (⟨#[60]⟩ : ByteArray)).size + AP.size ≤ 9223372036854775807
             ·rw [if_pos Ae] at H; have CG := eq_true Ae; have CH : decide (((((AD ++ (⟨#[32]⟩ : ByteArray)) ++ (⟨#[45]⟩ : ByteArray)) ++ AJ) ++ (⟨#[60]⟩ : ByteArray)).size + AP.size ≤ 9223372036854775807) = true := decide_eq_true Ae
              try have CI : (9223372036854775807 < ((((AD ++ (⟨#[32]⟩ : ByteArray)) ++ (⟨#[45]⟩ : ByteArray)) ++ AJ) ++ (⟨#[60]⟩ : ByteArray)).size + AP.size) = False := eq_false (Nat.not_lt.2 Ae)
              (try (have CIs := CI; simp only [ByteArray.size_append, zsz] at CIs))
              have H' := zm H
              clear H; obtain ⟨BE, BF, BO, BP⟩ := zc2 AB
              try go_wp2
              replace AB := zq AB; replace HB := zm (below_drew1 HB.out); have p204 : 0 ≤ (AC : Int) := zd; have q204 : AC < (l0_1.length : Int) := zd; obtain ⟨ad204, e204, hx204_0, hx204_1⟩ := at_T68 HR0_1.out AC p204 q204; have hw204_1 := hx204_1; have hw204_0 := hx204_0; cases e204; replace hx204_0 := zx HB hx204_0; replace hx204_1 := zx HB hx204_1; replace p204 := eq_true p204; replace q204 := eq_true q204; have p206 : 0 ≤ (AC : Int) := zd; have q206 : AC < (l0_1.length : Int) := zd; obtain ⟨ad206, e206, hx206_0, hx206_1⟩ := at_T68 HR0_1.out AC p206 q206; have hw206_1 := hx206_1; have hw206_0 := hx206_0
              obtain rfl : ad204 = ad206 := (by injection e206)
              replace hx206_0 := zx HB hx206_0; replace hx206_1 := zx HB hx206_1; replace p206 := eq_true p206; replace q206 := eq_true q206
              refine start_ (n := 20) (S := fun w' => w'.cell? ⟨AF, 0, none⟩ = some (.slice A0_0 l0_0.length c0_0) ∧ w'.cell? ⟨AF, 1, none⟩ = some (.slice (some ad204) l0_1.length c0_1) ∧ w'.cell? (ad204.add ((AC).toNat * 2)) = some (.int .i64 ((rd_T68 l0_1 AC).f0)) ∧ w'.cell? ⟨(ad204.add ((AC).toNat * 2)).block, (ad204.add ((AC).toNat * 2)).off + 1, none⟩ = some (.int .i64 ((rd_T68 l0_1 AC).f1)) ∧ w'.cell? (ad204.add ((AC).toNat * 2)) = some (.int .i64 ((rd_T68 l0_1 AC).f0)) ∧ w'.cell? ⟨(ad204.add ((AC).toNat * 2)).block, (ad204.add ((AC).toNat * 2)).off + 1, none⟩ = some (.int .i64 ((rd_T68 l0_1 AC).f1))) (ds := []) (zl 20 0) (by kernel_rfl) rfl rfl zS (fun hHeld => ?_); refine with_tabW spec_StateText.tab13 spec_StateText.bits13 (fun HT_ HW_ => ?_)
              generalize wr.drew = CZ at AB HB hx204_0 hx204_1 hx206_0 hx206_1 hHeld ⊢
              refine zu 0 46 20 1 ?_
              refine zu 1 47 20 3 ?_
              refine zu 2 48 20 7 ?_
              refine zu 4 50 20 23 ?_
              refine zu 11 57 20 2071 ?_
              refine zu 13 59 20 10263 ?_
              refine zv 3 49 20 10271 ?_
              refine zu 5 51 20 10303 ?_
              refine zu 6 52 20 10367 ?_
              refine zv 7 53 20 10495 ?_
              refine zv 12 58 20 14591 ?_
              refine zu 14 60 20 30975 ?_
              refine zu 15 61 20 63743 ?_
              refine zv 16 62 20 129279 ?_
              refine zo 8 (some 54) (zl 20 129535) (fun K hK => ?_); refine zgo #[.int .i64 ((rd_T68 l0_1 AC).f0)] Tryd.func10 ?_; (with_reducible refine (spec_Digits.calls k2 ((rd_T68 l0_1 AC).f0) AJ _ BW.out).mono ?_); rintro e Ca ⟨rfl, hb⟩; refine ⟨_, rfl, ?_⟩; replace AB := zy AB hb; replace HB := zm (below_step zB hb); (try clear hb); refine hK.out _ _ zS (fun hHeld => ?_); clear hK K; refine zn ?_
              refine zu 9 55 20 130047 ?_
              refine zu 10 56 20 131071 ?_
              refine zo 17 (some 63) (zl 20 262143) (fun K hK => ?_); refine zgo #[.int .i64 ((rd_T68 l0_1 AC).f1)] Tryd.func10 ?_; (with_reducible refine (spec_Digits.calls k2 ((rd_T68 l0_1 AC).f1) AP _ BX.out).mono ?_); rintro e Cb ⟨rfl, hb⟩; refine ⟨_, rfl, ?_⟩; replace AB := zy AB hb; replace HB := zm (below_step zB hb); (try clear hb); refine hK.out _ _ zS (fun hHeld => ?_); clear hK K; refine zn ?_
              refine zu 18 64 20 524287 ?_
              refine zu 19 3 20 1048575 ?_
              refine done_ (done_of HT_.out (by kernel_rfl)) ?_
              try go_wp2
              go_roundg k2
              case measure => have := AK.out; have := Af.out; omega
              case rel => exact ⟨(((((AD ++ (⟨#[32]⟩ : ByteArray)) ++ (⟨#[45]⟩ : ByteArray)) ++ AJ) ++ (⟨#[60]⟩ : ByteArray)) ++ AP), (wrap64 (AC + 1)), zF, zF, H', ⟨by have := AK.out; have := Af.out; omega⟩, ⟨zb AB⟩, ⟨zB⟩⟩
             ·rw [if_neg Ae] at H
              exact absurd H (by simp)
            ·rw [if_neg Ad] at H
             exact absurd H (by simp)
           ·rw [if_neg Ac] at H
            exact absurd H (by simp)
          ·rw [if_neg Ai] at H
           exact absurd H (by simp)
         ·rw [if_neg Ab] at H
          exact absurd H (by simp)
        ·rw [if_neg Aa] at H
         exact absurd H (by simp)
      ·rw [if_neg AQ] at H; have Au : decide (AC < (l0_1.length : Int)) = false := decide_eq_false AQ; clear AQ; obtain rfl := Option.some.inj H; obtain ⟨BG, BH, BQ, BR⟩ := zc2 AB
       go_wp2
       go_ret
       exact ⟨zE, zB⟩

/-! ### strings_Join: function 44, by hand -/
def strings_Join.f (l0 : List ByteArray) (a1 : ByteArray) : Option (ByteArray) := if l0.length ≤ 140737488355328 ∧ (Lib.join (l0.map (·.data.toList)) a1.data.toList).length ≤ 140737488355328 then (some (⟨(Lib.join (l0.map (·.data.toList)) a1.data.toList).toArray⟩ : ByteArray)) else none
theorem strings_Join.calls (A0 : Option Addr) (c0 : Nat) (l0 : List ByteArray) (a1 : ByteArray) (r : ByteArray) (w : World) (hr0 : Kd.C Kd.string w A0 l0.length l0) (hc0 : l0.length ≤ c0) (h : strings_Join.f l0 a1 = some r) :
 Calls Tryd.prog 44 #[.slice A0 l0.length c0, .string a1] w fun e w' => e = .returned (.string r) ∧ Below w.heap.size w w' := by
 by_cases c : l0.length ≤ 140737488355328 ∧ (Lib.join (l0.map (·.data.toList)) a1.data.toList).length ≤ 140737488355328
 ·rw [strings_Join.f, if_pos c] at h; obtain rfl := Option.some.inj h; exact Go.Proofs.YtomlglpmljngfaaDoor.HandIo.join A0 c0 l0 a1 w hr0 hc0 c.1 c.2
 ·rw [strings_Join.f, if_neg c] at h; cases h

/-! ### impl_StateText: function 24 -/
mutual
def impl_StateText.l0 : Nat → List ByteArray → List (S63) → Int → Int → List (S63) → List (S68) → Option (ByteArray)
 | 0, _, _, _, _, _, _ => none
 | k + 1, x3, x10, x11, x12, x247000, x247001 => if x12 < x11 then (if 0 ≤ x12 then (if x12 < (x10.length : Int) then ((impl_Digits.f ((rd_T63 x10 x12).f0)).bind fun t252 => (if t252.size + 1 ≤ 9223372036854775807 then ((impl_EntryText.f ((rd_T63 x10 x12).f1.f0) ((rd_T63 x10 x12).f1.f1) ((rd_T63 x10 x12).f1.f2) ((rd_T63 x10 x12).f1.f3) ((rd_T63 x10 x12).f1.f4)).bind fun t253 => (if (t252 ++ (⟨#[61]⟩ : ByteArray)).size + t253.size ≤ 9223372036854775807 then (if x3.length < 8796093022208 then (impl_StateText.l0 k (x3 ++ [(t252 ++ (⟨#[61]⟩ : ByteArray)) ++ t253]) x10 x11 (wrap64 (x12 + 1)) x247000 x247001) else (none)) else (none))) else (none))) else (none)) else (none)) else (impl_StateText.l1 k x3 x247001 (x247001.length : Int) 0)
def impl_StateText.l1 : Nat → List ByteArray → List (S68) → Int → Int → Option (ByteArray)
 | 0, _, _, _, _ => none
 | k + 1, x3, x29, x30, x31 => if x31 < x30 then (if 0 ≤ x31 then (if x31 < (x29.length : Int) then ((impl_Digits.f ((rd_T68 x29 x31).f0)).bind fun t259 => (if 1 + t259.size ≤ 9223372036854775807 then (if ((⟨#[45]⟩ : ByteArray) ++ t259).size + 1 ≤ 9223372036854775807 then ((impl_Digits.f ((rd_T68 x29 x31).f1)).bind fun t260 => (if (((⟨#[45]⟩ : ByteArray) ++ t259) ++ (⟨#[60]⟩ : ByteArray)).size + t260.size ≤ 9223372036854775807 then (if x3.length < 8796093022208 then (impl_StateText.l1 k (x3 ++ [(((⟨#[45]⟩ : ByteArray) ++ t259) ++ (⟨#[60]⟩ : ByteArray)) ++ t260]) x29 x30 (wrap64 (x31 + 1))) else (none)) else (none))) else (none)) else (none))) else (none)) else (none)) else ((strings_Join.f x3 (⟨#[32]⟩ : ByteArray)).bind fun t264 => (some t264))
end
def impl_StateText.f (k : Nat) (l0_0 : List (S63)) (l0_1 : List (S68)) : Option (ByteArray) := impl_StateText.l0 k (([] : List ByteArray)) l0_0 (l0_0.length : Int) 0 l0_0 l0_1
theorem impl_StateText.mono_l : ∀ k, (∀ y0 y1 y2 y3 y4 y5, LeO (impl_StateText.l0 k y0 y1 y2 y3 y4 y5) (impl_StateText.l0 (k + 1) y0 y1 y2 y3 y4 y5)) ∧ (∀ y0 y1 y2 y3, LeO (impl_StateText.l1 k y0 y1 y2 y3) (impl_StateText.l1 (k + 1) y0 y1 y2 y3))
 | 0 => ⟨fun _ _ _ _ _ _ r h => by simp [impl_StateText.l0] at h, fun _ _ _ _ r h => by simp [impl_StateText.l1] at h⟩
 | k + 1 => by
  obtain ⟨ih0, ih1⟩ := impl_StateText.mono_l k
  refine ⟨?_, ?_⟩
  ·intro y0 y1 y2 y3 y4 y5
   unfold impl_StateText.l0
   repeat' first | (with_reducible first | exact LeO.refl _ | exact LeO.none _ | refine LeO.ite ?_ ?_ | refine LeO.bind ?_ (fun _ => ?_) | apply ih0 | apply ih1) | apply ih0 | apply ih1 | exact LeO.none _ | refine LeO.ite ?_ ?_ | refine LeO.bind ?_ (fun _ => ?_)
  ·intro y0 y1 y2 y3
   unfold impl_StateText.l1
   repeat' first | (with_reducible first | exact LeO.refl _ | exact LeO.none _ | refine LeO.ite ?_ ?_ | refine LeO.bind ?_ (fun _ => ?_) | apply ih0 | apply ih1) | apply ih0 | apply ih1 | exact LeO.none _ | refine LeO.ite ?_ ?_ | refine LeO.bind ?_ (fun _ => ?_)
theorem impl_StateText.mono : ∀ a0 a1 k, LeO (impl_StateText.f k a0 a1) (impl_StateText.f (k + 1) a0 a1) := by
 intro a0 a1 k; obtain ⟨ih0, ih1⟩ := impl_StateText.mono_l k
 unfold impl_StateText.f
 repeat' first | (with_reducible first | exact LeO.refl _ | exact LeO.none _ | refine LeO.ite ?_ ?_ | refine LeO.bind ?_ (fun _ => ?_) | apply ih0 | apply ih1) | apply ih0 | apply ih1 | exact LeO.none _ | refine LeO.ite ?_ ?_ | refine LeO.bind ?_ (fun _ => ?_)
def impl_StateText.T5 : Bool × List (List Nat × List Nat) := (true, [([], []), ([], []), ([1], [1]), ([2], [2]), ([3], [3]), ([], []), ([5], [5]), ([6, 3], [6]), ([4, 7], [4, 7]), ([8], [8]), ([0, 9, 7], [0, 9]), ([10, 10, 0, 1, 2, 3, 4, 5, 6, 7, 8, 9, 10], [0, 10])])
def impl_StateText.B5 : List Nat := [0, 0, 2, 6, 14, 0, 32, 110, 254, 510, 1023, 2047]
theorem impl_StateText.tab5 : rtab .any (opsOf Tryd.f24 5) = impl_StateText.T5 := by kernel_rfl
theorem impl_StateText.bits5 : waitsOk impl_StateText.T5.2 impl_StateText.B5 = true := by kernel_rfl
def impl_StateText.T10 : Bool × List (List Nat × List Nat) := (true, [([], []), ([], []), ([1], [1]), ([2], [2]), ([3], [3]), ([4], [4]), ([], []), ([6], [6]), ([7, 3], [7]), ([5, 8], [5, 8]), ([9], [9]), ([0, 10, 8], [0, 10]), ([11, 11, 0, 1, 2, 3, 4, 5, 6, 7, 8, 9, 10, 11], [0, 11])])
def impl_StateText.B10 : List Nat := [0, 0, 2, 6, 14, 30, 0, 64, 206, 510, 1022, 2047, 4095]
theorem impl_StateText.tab10 : rtab .any (opsOf Tryd.f24 10) = impl_StateText.T10 := by kernel_rfl
theorem impl_StateText.bits10 : waitsOk impl_StateText.T10.2 impl_StateText.B10 = true := by kernel_rfl
set_option maxHeartbeats 8000000 in
set_option maxRecDepth 100000 in
theorem impl_StateText.calls (k : Nat) (A0_0 : Option Addr) (c0_0 : Nat) (l0_0 : List (S63)) (A0_1 : Option Addr) (c0_1 : Nat) (l0_1 : List (S68)) (r : ByteArray) (w : World) (hr0_0 : Kd.C k63 w A0_0 l0_0.length l0_0) (hc0_0 : l0_0.length ≤ c0_0) (hr0_1 : Kd.C k68 w A0_1 l0_1.length l0_1) (hc0_1 : l0_1.length ≤ c0_1) (hT : Go.Proofs.YtomlglpmljngfaaDoor.HandIo.TI w) (h : impl_StateText.f k l0_0 l0_1 = some r) :
  Calls Tryd.prog 24 #[.agg #[.slice A0_0 l0_0.length c0_0, .slice A0_1 l0_1.length c0_1]] w fun e w' => e = .returned (.string r) ∧ Below w.heap.size w w' := by
 have HT := zm hT; clear hT
 have hu45 := Tryd.underlying45; have hu63 := Tryd.underlying63; have hu28 := Tryd.underlying28; have hu68 := Tryd.underlying68; have HR0_0 := zm hr0_0; have HC0_0 := zm hc0_0; clear hr0_0 hc0_0; have HR0_1 := zm hr0_1; have HC0_1 := zm hc0_1; clear hr0_1 hc0_1; have HB := zm (Below.refl w.heap.size w); have H : (impl_StateText.l0 k (([] : List ByteArray)) l0_0 (l0_0.length : Int) 0 l0_0 l0_1) = some r := h; clear h
 obtain ⟨y247, hy247⟩ : ∃ y_ : List ByteArray, y_ = (([] : List ByteArray)) := ⟨_, rfl⟩
 replace H : (impl_StateText.l0 k y247 l0_0 (l0_0.length : Int) 0 l0_0 l0_1) = some r := by first | (rw [hy247]; with_reducible exact H) | (have H2_ := (Option.bind_some _ _).symm.trans H; rw [hy247]; with_reducible exact H2_) | (have H2_ := (Option.bind_some _ _).symm.trans H; with_reducible exact H2_) | with_reducible exact H | (rw [hy247]; exact H) | exact H
 have Ny247 := zm hy247; clear hy247
 have H' := zm H
 clear H; go_enter Tryd.func24, Tryd.ntmps24
 go_wp2_with (first | ((with_reducible refine gate_dst (N := 1) rfl ?_); refine zbox 1 #[.slice A0_0 l0_0.length c0_0, .slice A0_1 l0_1.length c0_1] 45 ?_; intro AQ hg w2 hbox hb; have AA := zm (hbox); have BY := zge w hg zB; have BV := zge w hg zB; replace HB := zm (below_step zB hb); clear hb hbox hg) | ((with_reducible refine gate_dst (N := 8) rfl ?_); refine Kd.R_lit Kd.string _ 9 ?hg (N := 8) ?hd (xs := ([] : List ByteArray)) (inner := []) (ok := fun _ => True) (okp := fun _ => True) ?hr ?hp (fun _ hk => hk) trivial (Below.refl _ _) (Nat.le_refl _) (by simp) ?_; (case hd => rfl); (case hg => rfl); (case hr => first | (go_simp; done) | (go_simp; rfl)); (case hp => exact (Reps.none _ _)); intro v248 w3 ho4 hb hg_ hnew_; clear hg_ hnew_; (first | rw [← Ny247.out] at ho4 | (simp only [Int.reduceToNat] at ho4; rw [← Ny247.out] at ho4)); have At := zm (Kd.R_lower ho4 (below_size zB)); replace AA := zy AA hb; replace HB := zm (below_step zB hb); clear hb ho4; obtain ⟨AZ, Aa, Ab, Ac⟩ := zc2 AA))
 go_loopg [3, 12] k (fun kq v3 v12 w' => ∃ (AM : List ByteArray) (AB : Int), v12 = .int .i64 AB ∧ Aside0 (impl_StateText.l0 kq AM l0_0 (l0_0.length : Int) AB l0_0 l0_1 = some r) ∧ Aside0 (kq ≤ k) ∧ Aside0 (Kd.R Kd.string 9 w' w.heap.size (fun _ => True) v3 AM) ∧ Aside0 (w'.heap[AQ]? = some (.cells #[(.slice A0_0 l0_0.length c0_0), (.slice A0_1 l0_1.length c0_1)] 45 (0, 0))) ∧ Aside0 (Below w.heap.size w w'))
 case atStart => exact ⟨(y247), (0), zF, H', ⟨Nat.le_refl _⟩, ⟨zr At⟩, ⟨zb AA⟩, ⟨zB⟩⟩
 case round =>
  clear H'; (try clear AZ); (try clear Aa); (try clear Ab); (try clear Ac); obtain ⟨AM, AB, rfl, HA, Af, AC, AA, HB⟩ := hrel
  cases gk with
  | zero => exact absurd HA.out (by simp [impl_StateText.l0])
  | succ k1 =>
   have H := HA.out; clear HA; simp only [impl_StateText.l0] at H
   by_cases c6 : AB < (l0_0.length : Int)
   ·rw [if_pos c6] at H; have As : decide (AB < (l0_0.length : Int)) = true := decide_eq_true c6; clear c6
    by_cases c7 : 0 ≤ AB
    ·rw [if_pos c7] at H; have Bw : decide (0 ≤ AB) = true := decide_eq_true c7; clear c7
     by_cases c8 : AB < (l0_0.length : Int)
     ·rw [if_pos c8] at H; have Bx : decide (AB < (l0_0.length : Int)) = true := decide_eq_true c8; clear c8; replace H := Option.bind_eq_some_iff.mp H; obtain ⟨AJ, Ax, H⟩ := H; (try dsimp only at H); have A9 := zm Ax; clear Ax
      by_cases AU : AJ.size + 1 ≤ 9223372036854775807
      ·rw [if_pos AU] at H; have Bb := eq_true AU; have Bc : decide (AJ.size + 1 ≤ 9223372036854775807) = true := decide_eq_true AU
       try have Bd : (9223372036854775807 < AJ.size + 1) = False := eq_false (Nat.not_lt.2 AU)
       replace H := Option.bind_eq_some_iff.mp H; obtain ⟨AN, Ao, H⟩ := H; (try dsimp only at H); have BP := zm Ao; clear Ao
       by_cases AV : (AJ ++ (⟨#[61]⟩ : ByteArray)).size + AN.size ≤ 9223372036854775807
       ·rw [if_pos AV] at H; have Be := eq_true AV; have Bf : decide ((AJ ++ (⟨#[61]⟩ : ByteArray)).size + AN.size ≤ 9223372036854775807) = true := decide_eq_true AV
        try have Bg : (9223372036854775807 < (AJ ++ (⟨#[61]⟩ : ByteArray)).size + AN.size) = False := eq_false (Nat.not_lt.2 AV)
        (try (have Bgs := Bg; simp only [ByteArray.size_append, zsz] at Bgs))
        by_cases Ag : AM.length < 8796093022208
        ·rw [if_pos Ag] at H; have LMc13 := zm Ag; clear Ag
         obtain ⟨y254, hy254⟩ : ∃ y_ : List ByteArray, y_ = (AM ++ [(AJ ++ (⟨#[61]⟩ : ByteArray)) ++ AN]) := ⟨_, rfl⟩
         replace H : (impl_StateText.l0 k1 y254 l0_0 (l0_0.length : Int) (wrap64 (AB + 1)) l0_0 l0_1) = some r := by first | (rw [hy254]; with_reducible exact H) | (have H2_ := (Option.bind_some _ _).symm.trans H; rw [hy254]; with_reducible exact H2_) | (have H2_ := (Option.bind_some _ _).symm.trans H; with_reducible exact H2_) | with_reducible exact H | (rw [hy254]; exact H) | exact H
         have Ny254 := zm hy254; clear hy254
         have H' := zm H
         clear H; have p250 : 0 ≤ (AB : Int) := zd; have q250 : AB < (l0_0.length : Int) := zd; obtain ⟨ad250, e250, hx250_0, hx250_1, hx250_2, hx250_3, hx250_4, hx250_5⟩ := at_T63 (Kd.C_below HR0_0.out HB.out) AB p250 q250; cases e250; replace p250 := eq_true p250; replace q250 := eq_true q250
         try go_wp2_with (first | ((with_reducible refine gate_dst (N := 5) rfl ?_); refine zbox 5 #[.int .i64 0, .int .i64 0, .int .i64 0, .int .i64 0, .int .i64 0, .string (⟨#[]⟩ : ByteArray)] 63 ?_; intro AH hg BT hbox hb; replace AC := zw AC hb; have AE := zm (hbox); have BZ := zge w hg zB; have BW := zge w hg zB; replace HB := zm (below_step zB hb); have AG := zlt hg (zb AA); have AS := zgt hg (zb AA); replace AA := zy AA hb; clear hb hbox hg; have Bs := AS.out; have Bu := AG.out; obtain ⟨B3, BA, BB, BC, BD, BE, BH, BI, BJ, BK, BL, BM⟩ := zc6 AE))
         obtain ⟨Ad, hW_⟩ : ∃ q, q = ((((((BT.setCell ⟨AH, 0, none⟩ (.int .i64 ((rd_T63 l0_0 AB).f0))).setCell ⟨AH, 1, none⟩ (.int .i64 ((rd_T63 l0_0 AB).f1.f0))).setCell ⟨AH, 2, none⟩ (.int .i64 ((rd_T63 l0_0 AB).f1.f1))).setCell ⟨AH, 3, none⟩ (.int .i64 ((rd_T63 l0_0 AB).f1.f2))).setCell ⟨AH, 4, none⟩ (.int .i64 ((rd_T63 l0_0 AB).f1.f3))).setCell ⟨AH, 5, none⟩ (.string ((rd_T63 l0_0 AB).f1.f4))) := ⟨_, rfl⟩
         have n0_ : Aside0 (Kd.R Kd.string 9 Ad w.heap.size (fun _ => True) u3 AM) := ⟨by rw [hW_]; exact zrs <| Kd.R_mono (zfr (zfr (zfr (zfr (zfr (zfr (Kd.R_types AC.out AE.out (by decide)))))))) (fun _ hk => trivial)⟩; have n1_ : Aside0 (Ad.heap[AQ]? = some (.cells #[.slice (some ad250) l0_0.length c0_0, .slice A0_1 l0_1.length c0_1] 45 (0, 0))) := ⟨by rw [hW_]; exact zfar (zfar (zfar (zfar (zfar (zfar (zb AA) AG) AG) AG) AG) AG) AG⟩; have n2_ : Aside0 (Ad.heap[AH]? = some (.cells #[.int .i64 ((rd_T63 l0_0 AB).f0), .int .i64 ((rd_T63 l0_0 AB).f1.f0), .int .i64 ((rd_T63 l0_0 AB).f1.f1), .int .i64 ((rd_T63 l0_0 AB).f1.f2), .int .i64 ((rd_T63 l0_0 AB).f1.f3), .string ((rd_T63 l0_0 AB).f1.f4)] 63 (0, 0))) := ⟨by rw [hW_]; exact zput (zput (zput (zput (zput (zput (zb AE) 0) 1) 2) 3) 4) 5⟩; have n3_ : Aside0 (Below w.heap.size w Ad) := ⟨by rw [hW_]; exact zB⟩
         rw [← hW_]
         clear hW_; (try clear AC); (try clear AA); (try clear AE); (try clear HB); have AC := n0_; have AA := n1_; have AE := n2_; have HB := n3_; clear n0_ n1_ n2_ n3_; replace AC := zm (Kd.R_drew AC.out); replace AA := zq AA; replace AE := zq AE; replace HB := zm (below_drew1 HB.out)
         refine start_ (n := 12) (S := fun w' => w'.cell? ⟨AH, 0, none⟩ = some (.int .i64 ((rd_T63 l0_0 AB).f0)) ∧ w'.cell? ⟨AH, 1, none⟩ = some (.int .i64 ((rd_T63 l0_0 AB).f1.f0)) ∧ w'.cell? ⟨AH, 2, none⟩ = some (.int .i64 ((rd_T63 l0_0 AB).f1.f1)) ∧ w'.cell? ⟨AH, 3, none⟩ = some (.int .i64 ((rd_T63 l0_0 AB).f1.f2)) ∧ w'.cell? ⟨AH, 4, none⟩ = some (.int .i64 ((rd_T63 l0_0 AB).f1.f3)) ∧ w'.cell? ⟨AH, 5, none⟩ = some (.string ((rd_T63 l0_0 AB).f1.f4))) (ds := []) (zl 12 0) (by kernel_rfl) rfl rfl zS (fun hHeld => ?_); refine with_tabW impl_StateText.tab5 impl_StateText.bits5 (fun HT_ HW_ => ?_)
         generalize Ad.drew = By at AC AA AE HB hHeld ⊢
         refine zu 0 16 12 1 ?_
         refine zu 1 17 12 3 ?_
         refine zu 5 21 12 35 ?_
         refine zv 2 18 12 39 ?_
         refine zv 6 22 12 103 ?_
         refine zo 3 (some 19) (zl 12 111) (fun K hK => ?_); refine zgo #[.int .i64 ((rd_T63 l0_0 AB).f0)] Tryd.func11 ?_; (with_reducible refine (impl_Digits.calls ((rd_T63 l0_0 AB).f0) AJ _ zT A9.out).mono ?_); rintro e Bz ⟨rfl, hb⟩; refine ⟨_, rfl, ?_⟩; replace AC := zw AC hb; replace AA := zy AA hb; replace AE := zy AE hb; replace HB := zm (below_step zB hb); (try clear hb); (try clear hk); refine hK.out _ _ zS (fun hHeld => ?_); clear hK K; refine zn ?_
         refine zu 4 20 12 127 ?_
         refine zo 7 (some 23) (zl 12 255) (fun K hK => ?_); refine zgo #[.agg #[.int .i64 ((rd_T63 l0_0 AB).f1.f0), .int .i64 ((rd_T63 l0_0 AB).f1.f1), .int .i64 ((rd_T63 l0_0 AB).f1.f2), .int .i64 ((rd_T63 l0_0 AB).f1.f3), .string ((rd_T63 l0_0 AB).f1.f4)]] Tryd.func15 ?_; (with_reducible refine (impl_EntryText.calls ((rd_T63 l0_0 AB).f1.f0) ((rd_T63 l0_0 AB).f1.f1) ((rd_T63 l0_0 AB).f1.f2) ((rd_T63 l0_0 AB).f1.f3) ((rd_T63 l0_0 AB).f1.f4) AN _ zT BP.out).mono ?_); rintro e C0 ⟨rfl, hb⟩; refine ⟨_, rfl, ?_⟩; replace AC := zw AC hb; replace AA := zy AA hb; replace AE := zy AE hb; replace HB := zm (below_step zB hb); (try clear hb); (try clear hk); refine hK.out _ _ zS (fun hHeld => ?_); clear hK K; refine zn ?_
         refine zu 8 24 12 511 ?_
         refine zo 9 (some 25) (zl 12 1023) (fun K hK => ?_)
         refine value_ (w1 := ?_) (v := ?_) (by rfl) rfl ?_ ?_
         rotate_left 2
         ·go_simp
          constructor
          ·rfl
          ·rfl
         refine hK.out _ _ ⟨(blk_cell (blk_alloc AE.out _) 0).trans rfl, (blk_cell (blk_alloc AE.out _) 1).trans rfl, (blk_cell (blk_alloc AE.out _) 2).trans rfl, (blk_cell (blk_alloc AE.out _) 3).trans rfl, (blk_cell (blk_alloc AE.out _) 4).trans rfl, (blk_cell (blk_alloc AE.out _) 5).trans rfl⟩ (fun hHeld => ?_); clear hK K; refine zn (N := some 25) ?_; refine zo 10 (some 26) (zl 12 2047) (fun K hK => ?_)
         refine Kd.R_append_step Kd.string (w0 := w) w.heap.size (by rfl) (.tmp 16) (.tmp 25) 31 9 (.string ⟨#[]⟩) 16 rfl Tryd.underlying31 info9 rfl (by decide) (by omega) u3 AM ((AJ ++ (⟨#[61]⟩ : ByteArray)) ++ AN) [.string ((AJ ++ (⟨#[61]⟩ : ByteArray)) ++ AN)] (fun _ => True) (fun _ => False) rfl rfl ?aP (fun _ hk => hk.elim) ?aF ?aO ?aB ?aS ?aL ?_
         (case aP => exact rfl)
         (case aB => exact zB)
         (case aF => exact (fun _ _ => trivial))
         (case aO => exact (zr AC))
         (case aS => exact (below_size zB))
         (case aL => have := LMc13.out; omega)
         intro v255 C1 ho hb hg hat; rw [← Ny254.out] at ho; replace AA := zgr hg (zb AA) (Kd.R_ne AC.out AA.out (by decide)); replace AE := zgr hg (zb AE) (Kd.R_ne AC.out AE.out (by decide)); replace HB := zm hb; have Au := zm (ho); clear AC; clear ho hb hg hat; refine hK.out _ _ zS (fun hHeld => ?_); clear hK K; refine zn (N := some 26) ?_
         refine zu 11 3 12 4095 ?_
         refine done_ (done_of HT_.out (by kernel_rfl)) ?_
         try go_wp2
         go_roundg k1
         case measure => have := Af.out; omega
         case rel => exact ⟨(y254), (wrap64 (AB + 1)), zF, H', ⟨by have := Af.out; omega⟩, ⟨zr Au⟩, ⟨zb AA⟩, ⟨zB⟩⟩
        ·rw [if_neg Ag] at H
         exact absurd H (by simp)
       ·rw [if_neg AV] at H
        exact absurd H (by simp)
      ·rw [if_neg AU] at H
       exact absurd H (by simp)
     ·rw [if_neg c8] at H
      exact absurd H (by simp)
    ·rw [if_neg c7] at H
     exact absurd H (by simp)
   ·rw [if_neg c6] at H; have As : decide (AB < (l0_0.length : Int)) = false := decide_eq_false c6; clear c6
    have H' := zm H
    clear H; obtain ⟨Ak, Al, Am, An⟩ := zc2 AA
    go_wp2
    go_loopg [3, 31] k1 (fun kq v3 v31 w' => ∃ (AK : List ByteArray) (AD : Int), v31 = .int .i64 AD ∧ Aside0 (impl_StateText.l1 kq AK l0_1 (l0_1.length : Int) AD = some r) ∧ Aside0 (kq ≤ k1) ∧ Aside0 (Kd.R Kd.string 9 w' w.heap.size (fun _ => True) v3 AK) ∧ Aside0 (w'.heap[AQ]? = some (.cells #[(.slice A0_0 l0_0.length c0_0), (.slice A0_1 l0_1.length c0_1)] 45 (0, 0))) ∧ Aside0 (Below w.heap.size w w'))
    case atStart => exact ⟨(AM), (0), zF, H', ⟨Nat.le_refl _⟩, ⟨zr AC⟩, ⟨zb AA⟩, ⟨zB⟩⟩
    case round =>
     clear H'; (try clear c6); (try clear As); (try clear Ak); (try clear Al); (try clear AZ); (try clear Aa); (try clear Am); (try clear An); (try clear Ab); (try clear Ac); obtain ⟨AK, AD, rfl, HA, Ay, AC, AA, HB⟩ := hrel
     cases gk with
     | zero => exact absurd HA.out (by simp [impl_StateText.l1])
     | succ k2 =>
      have H := HA.out; clear HA; simp only [impl_StateText.l1] at H
      by_cases AR : AD < (l0_1.length : Int)
      ·rw [if_pos AR] at H; have Aw : decide (AD < (l0_1.length : Int)) = true := decide_eq_true AR; clear AR
       by_cases Ah : 0 ≤ AD
       ·rw [if_pos Ah] at H; have Bh : decide (0 ≤ AD) = true := decide_eq_true Ah; clear Ah
        by_cases Ai : AD < (l0_1.length : Int)
        ·rw [if_pos Ai] at H; have Bi : decide (AD < (l0_1.length : Int)) = true := decide_eq_true Ai; clear Ai; replace H := Option.bind_eq_some_iff.mp H; obtain ⟨AI, Ap, H⟩ := H; (try dsimp only at H); have BQ := zm Ap; clear Ap
         by_cases AW : 1 + AI.size ≤ 9223372036854775807
         ·rw [if_pos AW] at H; have Bj := eq_true AW; have Bk : decide (1 + AI.size ≤ 9223372036854775807) = true := decide_eq_true AW
          try have Bl : (9223372036854775807 < 1 + AI.size) = False := eq_false (Nat.not_lt.2 AW)
          by_cases AX : ((⟨#[45]⟩ : ByteArray) ++ AI).size + 1 ≤ 9223372036854775807
          ·rw [if_pos AX] at H; have Bm := eq_true AX; have Bn : decide (((⟨#[45]⟩ : ByteArray) ++ AI).size + 1 ≤ 9223372036854775807) = true := decide_eq_true AX
           try have Bo : (9223372036854775807 < ((⟨#[45]⟩ : ByteArray) ++ AI).size + 1) = False := eq_false (Nat.not_lt.2 AX)
           (try (have Bos := Bo; simp only [ByteArray.size_append, zsz] at Bos))
           replace H := Option.bind_eq_some_iff.mp H; obtain ⟨AO, Aq, H⟩ := H; (try dsimp only at H); have BR := zm Aq; clear Aq
           by_cases AY : (((⟨#[45]⟩ : ByteArray) ++ AI) ++ (⟨#[60]⟩ : ByteArray)).size + AO.size ≤ 9223372036854775807
           ·rw [if_pos AY] at H; have Bp := eq_true AY; have Bq : decide ((((⟨#[45]⟩ : ByteArray) ++ AI) ++ (⟨#[60]⟩ : ByteArray)).size + AO.size ≤ 9223372036854775807) = true := decide_eq_true AY
            try have Br : (9223372036854775807 < (((⟨#[45]⟩ : ByteArray) ++ AI) ++ (⟨#[60]⟩ : ByteArray)).size + AO.size) = False := eq_false (Nat.not_lt.2 AY)
            (try (have Brs := Br; simp only [ByteArray.size_append, zsz] at Brs))
            by_cases Aj : AK.length < 8796093022208
            ·rw [if_pos Aj] at H; have LMc31 := zm Aj; clear Aj
             obtain ⟨y261, hy261⟩ : ∃ y_ : List ByteArray, y_ = (AK ++ [(((⟨#[45]⟩ : ByteArray) ++ AI) ++ (⟨#[60]⟩ : ByteArray)) ++ AO]) := ⟨_, rfl⟩
             replace H : (impl_StateText.l1 k2 y261 l0_1 (l0_1.length : Int) (wrap64 (AD + 1))) = some r := by first | (rw [hy261]; with_reducible exact H) | (have H2_ := (Option.bind_some _ _).symm.trans H; rw [hy261]; with_reducible exact H2_) | (have H2_ := (Option.bind_some _ _).symm.trans H; with_reducible exact H2_) | with_reducible exact H | (rw [hy261]; exact H) | exact H
             have Ny261 := zm hy261; clear hy261
             have H' := zm H
             clear H; have p257 : 0 ≤ (AD : Int) := zd; have q257 : AD < (l0_1.length : Int) := zd; obtain ⟨ad257, e257, hx257_0, hx257_1⟩ := at_T68 (Kd.C_below HR0_1.out HB.out) AD p257 q257; cases e257; replace p257 := eq_true p257; replace q257 := eq_true q257
             try go_wp2_with (first | ((with_reducible refine gate_dst (N := 7) rfl ?_); refine zbox 7 #[.int .i64 0, .int .i64 0] 68 ?_; intro AP hg BU hbox hb; replace AC := zw AC hb; have AF := zm (hbox); have Ba := zge w hg zB; have BX := zge w hg zB; replace HB := zm (below_step zB hb); have AL := zlt hg (zb AA); have AT := zgt hg (zb AA); replace AA := zy AA hb; clear hb hbox hg; have Bt := AT.out; have Bv := AL.out; obtain ⟨BF, BG, BN, BO⟩ := zc2 AF))
             obtain ⟨Ae, hW_⟩ : ∃ q, q = ((BU.setCell ⟨AP, 0, none⟩ (.int .i64 ((rd_T68 l0_1 AD).f0))).setCell ⟨AP, 1, none⟩ (.int .i64 ((rd_T68 l0_1 AD).f1))) := ⟨_, rfl⟩
             have n0_ : Aside0 (Kd.R Kd.string 9 Ae w.heap.size (fun _ => True) u3 AK) := ⟨by rw [hW_]; exact zrs <| Kd.R_mono (zfr (zfr (Kd.R_types AC.out AF.out (by decide)))) (fun _ hk => trivial)⟩; have n1_ : Aside0 (Ae.heap[AQ]? = some (.cells #[.slice A0_0 l0_0.length c0_0, .slice (some ad257) l0_1.length c0_1] 45 (0, 0))) := ⟨by rw [hW_]; exact zfar (zfar (zb AA) AL) AL⟩; have n2_ : Aside0 (Ae.heap[AP]? = some (.cells #[.int .i64 ((rd_T68 l0_1 AD).f0), .int .i64 ((rd_T68 l0_1 AD).f1)] 68 (0, 0))) := ⟨by rw [hW_]; exact zput (zput (zb AF) 0) 1⟩; have n3_ : Aside0 (Below w.heap.size w Ae) := ⟨by rw [hW_]; exact zB⟩
             rw [← hW_]
             clear hW_; (try clear AC); (try clear AA); (try clear AF); (try clear HB); have AC := n0_; have AA := n1_; have AF := n2_; have HB := n3_; clear n0_ n1_ n2_ n3_; replace AC := zm (Kd.R_drew AC.out); replace AA := zq AA; replace AF := zq AF; replace HB := zm (below_drew1 HB.out)
             refine start_ (n := 13) (S := fun w' => w'.cell? ⟨AP, 0, none⟩ = some (.int .i64 ((rd_T68 l0_1 AD).f0)) ∧ w'.cell? ⟨AP, 1, none⟩ = some (.int .i64 ((rd_T68 l0_1 AD).f1))) (ds := []) (zl 13 0) (by kernel_rfl) rfl rfl zS (fun hHeld => ?_); refine with_tabW impl_StateText.tab10 impl_StateText.bits10 (fun HT_ HW_ => ?_)
             generalize Ae.drew = C2 at AC AA AF HB hHeld ⊢
             refine zu 0 35 13 1 ?_
             refine zu 1 36 13 3 ?_
             refine zu 6 41 13 67 ?_
             refine zv 2 37 13 71 ?_
             refine zv 7 42 13 199 ?_
             refine zo 3 (some 38) (zl 13 207) (fun K hK => ?_); refine zgo #[.int .i64 ((rd_T68 l0_1 AD).f0)] Tryd.func11 ?_; (with_reducible refine (impl_Digits.calls ((rd_T68 l0_1 AD).f0) AI _ zT BQ.out).mono ?_); rintro e C3 ⟨rfl, hb⟩; refine ⟨_, rfl, ?_⟩; replace AC := zw AC hb; replace AA := zy AA hb; replace AF := zy AF hb; replace HB := zm (below_step zB hb); (try clear hb); (try clear hk); refine hK.out _ _ zS (fun hHeld => ?_); clear hK K; refine zn ?_
             refine zu 4 39 13 223 ?_
             refine zu 5 40 13 255 ?_
             refine zo 8 (some 43) (zl 13 511) (fun K hK => ?_); refine zgo #[.int .i64 ((rd_T68 l0_1 AD).f1)] Tryd.func11 ?_; (with_reducible refine (impl_Digits.calls ((rd_T68 l0_1 AD).f1) AO _ zT BR.out).mono ?_); rintro e C4 ⟨rfl, hb⟩; refine ⟨_, rfl, ?_⟩; replace AC := zw AC hb; replace AA := zy AA hb; replace AF := zy AF hb; replace HB := zm (below_step zB hb); (try clear hb); (try clear hk); refine hK.out _ _ zS (fun hHeld => ?_); clear hK K; refine zn ?_
             refine zu 9 44 13 1023 ?_
             refine zo 10 (some 45) (zl 13 2047) (fun K hK => ?_)
             refine value_ (w1 := ?_) (v := ?_) (by rfl) rfl ?_ ?_
             rotate_left 2
             ·go_simp
              constructor
              ·rfl
              ·rfl
             refine hK.out _ _ ⟨(blk_cell (blk_alloc AF.out _) 0).trans rfl, (blk_cell (blk_alloc AF.out _) 1).trans rfl⟩ (fun hHeld => ?_); clear hK K; refine zn (N := some 45) ?_; refine zo 11 (some 46) (zl 13 4095) (fun K hK => ?_)
             refine Kd.R_append_step Kd.string (w0 := w) w.heap.size (by rfl) (.tmp 35) (.tmp 45) 31 9 (.string ⟨#[]⟩) 16 rfl Tryd.underlying31 info9 rfl (by decide) (by omega) u3 AK ((((⟨#[45]⟩ : ByteArray) ++ AI) ++ (⟨#[60]⟩ : ByteArray)) ++ AO) [.string ((((⟨#[45]⟩ : ByteArray) ++ AI) ++ (⟨#[60]⟩ : ByteArray)) ++ AO)] (fun _ => True) (fun _ => False) rfl rfl ?aP (fun _ hk => hk.elim) ?aF ?aO ?aB ?aS ?aL ?_
             (case aP => exact rfl)
             (case aB => exact zB)
             (case aF => exact (fun _ _ => trivial))
             (case aO => exact (zr AC))
             (case aS => exact (below_size zB))
             (case aL => have := LMc31.out; omega)
             intro v262 C5 ho hb hg hat; rw [← Ny261.out] at ho; replace AA := zgr hg (zb AA) (Kd.R_ne AC.out AA.out (by decide)); replace AF := zgr hg (zb AF) (Kd.R_ne AC.out AF.out (by decide)); replace HB := zm hb; have Av := zm (ho); clear AC; clear ho hb hg hat; refine hK.out _ _ zS (fun hHeld => ?_); clear hK K; refine zn (N := some 46) ?_
             refine zu 12 3 13 8191 ?_
             refine done_ (done_of HT_.out (by kernel_rfl)) ?_
             try go_wp2
             go_roundg k2
             case measure => have := Af.out; have := Ay.out; omega
             case rel => exact ⟨(y261), (wrap64 (AD + 1)), zF, H', ⟨by have := Af.out; have := Ay.out; omega⟩, ⟨zr Av⟩, ⟨zb AA⟩, ⟨zB⟩⟩
            ·rw [if_neg Aj] at H
             exact absurd H (by simp)
           ·rw [if_neg AY] at H
            exact absurd H (by simp)
          ·rw [if_neg AX] at H
           exact absurd H (by simp)
         ·rw [if_neg AW] at H
          exact absurd H (by simp)
        ·rw [if_neg Ai] at H
         exact absurd H (by simp)
       ·rw [if_neg Ah] at H
        exact absurd H (by simp)
      ·rw [if_neg AR] at H; have Aw : decide (AD < (l0_1.length : Int)) = false := decide_eq_false AR; clear AR; replace H := Option.bind_eq_some_iff.mp H; obtain ⟨B2, Ar, H⟩ := H; (try dsimp only at H); have BS := zm Ar; clear Ar; obtain rfl := Option.some.inj H; obtain ⟨Az, B0, eo41⟩ := Kd.R_slice AC.out; subst eo41
       go_wp2_with (first | ((with_reducible refine gate_callee (f := 44) rfl ?_); refine zg (some 49) #[.slice Az AK.length B0, .string (⟨#[32]⟩ : ByteArray)] Tryd.func44 ?_; (with_reducible refine (strings_Join.calls _ _ AK (⟨#[32]⟩ : ByteArray) B2 _ ?side1 ?side2 BS.out).mono ?_); (case side1 => repeat (first | exact (Kd.R_reads' AC.out).2.2 | (with_reducible refine Kd.C_alloc ?_ _) | (with_reducible refine Kd.C_drewN ?_ _) | (with_reducible refine Kd.C_drew ?_))); (case side2 => exact (Kd.R_reads' AC.out).2.1); rintro e C6 ⟨rfl, hb⟩; refine ⟨_, rfl, ?_⟩; replace AC := zw AC hb; replace AA := zy AA hb; replace HB := zm (below_step zB hb); clear hb))
       go_ret
       exact ⟨zE, zB⟩

end Go.Proofs.YtomlglpmljngfaaDoor.P
