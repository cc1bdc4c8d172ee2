-- by a program of this session, for this seat
import Derived.Test.YtomlglpmljngfaaDoorHandIo
import Derived.Test.YtomlglpmljngfaaDoorZ
import Derived.Test.YtomlglpmljngfaaDoorP0
namespace Go.Proofs.YtomlglpmljngfaaDoor.P
open Go.RowKit Go.Proofs.YtomlglpmljngfaaDoorW.PrintWords Go.Proofs.YtomlglpmljngfaaDoorW.PrintLast Go.Proofs.YtomlglpmljngfaaDoorW.PrintMore Go.Proofs.YtomlglpmljngfaaDoor.Z Go.Proofs.YtomlglpmljngfaaDoor.HandIo
attribute [local go_sem] max2_int min2_int max_two min_two max_three min_three max_four min_four   -- for this text's walks alone
set_option linter.unusedVariables false
set_option linter.unusedSimpArgs false

/-! ### spec_Parts: function 16 -/
def spec_Parts.l0 : Nat → ByteArray → Int → List ByteArray → Int → Int → Option (List ByteArray)
 | 0, _, _, _, _, _ => none
 | k + 1, x0, x1, x5, x6, x7 => if x7 ≤ (x0.size : Int) then (if x7 = (x0.size : Int) then (if 0 ≤ x6 then (if x6 ≤ x7 then (if x5.length < 8796093022208 then (spec_Parts.l0 k x0 x1 (x5 ++ [x0.extract (x6 : Int).toNat (x7 : Int).toNat]) (wrap64 (x7 + 1)) (wrap64 (x7 + 1))) else (none)) else (none)) else (none)) else (if 0 ≤ x7 then (if x7 < (x0.size : Int) then (if (bt x0 x7) = x1 then (if 0 ≤ x6 then (if x6 ≤ x7 then (if x5.length < 8796093022208 then (spec_Parts.l0 k x0 x1 (x5 ++ [x0.extract (x6 : Int).toNat (x7 : Int).toNat]) (wrap64 (x7 + 1)) (wrap64 (x7 + 1))) else (none)) else (none)) else (none)) else (spec_Parts.l0 k x0 x1 x5 x6 (wrap64 (x7 + 1)))) else (none)) else (none))) else (some x5)
def spec_Parts.f (k : Nat) (a0 : ByteArray) (a1 : Int) : Option (List ByteArray) := spec_Parts.l0 k a0 a1 (([] : List ByteArray)) 0 0
theorem spec_Parts.mono_l : ∀ k, (∀ y0 y1 y2 y3 y4, LeO (spec_Parts.l0 k y0 y1 y2 y3 y4) (spec_Parts.l0 (k + 1) y0 y1 y2 y3 y4))
 | 0 => fun _ _ _ _ _ r h => by simp [spec_Parts.l0] at h
 | k + 1 => by
  have ih0 := spec_Parts.mono_l k
  ·intro y0 y1 y2 y3 y4
   unfold spec_Parts.l0
   repeat' first | (with_reducible first | exact LeO.refl _ | exact LeO.none _ | refine LeO.ite ?_ ?_ | refine LeO.bind ?_ (fun _ => ?_) | apply ih0) | apply ih0 | exact LeO.none _ | refine LeO.ite ?_ ?_ | refine LeO.bind ?_ (fun _ => ?_)
theorem spec_Parts.mono : ∀ a0 a1 k, LeO (spec_Parts.f k a0 a1) (spec_Parts.f (k + 1) a0 a1) := by
 intro a0 a1 k; have ih0 := spec_Parts.mono_l k
 unfold spec_Parts.f
 repeat' first | (with_reducible first | exact LeO.refl _ | exact LeO.none _ | refine LeO.ite ?_ ?_ | refine LeO.bind ?_ (fun _ => ?_) | apply ih0) | apply ih0 | exact LeO.none _ | refine LeO.ite ?_ ?_ | refine LeO.bind ?_ (fun _ => ?_)
set_option maxHeartbeats 8000000 in
set_option maxRecDepth 100000 in
theorem spec_Parts.calls (k : Nat) (a0 : ByteArray) (a1 : Int) (r : List ByteArray) (w : World) (h : spec_Parts.f k a0 a1 = some r) :
  Calls Tryd.prog 16 #[.string a0, .int .u8 a1] w fun e w' => ∃ v0_ : Value, e = .returned (v0_) ∧ Kd.R Kd.string 9 w' w.heap.size (fun _ => True) v0_ r ∧ Below w.heap.size w w' := by
 have HB := zm (Below.refl w.heap.size w); have H : (spec_Parts.l0 k a0 a1 (([] : List ByteArray)) 0 0) = some r := h; clear h
 obtain ⟨y145, hy145⟩ : ∃ y_ : List ByteArray, y_ = (([] : List ByteArray)) := ⟨_, rfl⟩
 replace H : (spec_Parts.l0 k a0 a1 y145 0 0) = some r := by first | (rw [hy145]; with_reducible exact H) | (have H2_ := (Option.bind_some _ _).symm.trans H; rw [hy145]; with_reducible exact H2_) | (have H2_ := (Option.bind_some _ _).symm.trans H; with_reducible exact H2_) | with_reducible exact H | (rw [hy145]; exact H) | exact H
 have Ny145 := zm hy145; clear hy145
 have H' := zm H
 clear H; go_enter Tryd.func16, Tryd.ntmps16
 go_wp2_with (first | ((with_reducible refine gate_dst (N := 8) rfl ?_); refine Kd.R_lit Kd.string _ 9 ?hg (N := 8) ?hd (xs := ([] : List ByteArray)) (inner := []) (ok := fun _ => True) (okp := fun _ => True) ?hr ?hp (fun _ hk => hk) trivial (Below.refl _ _) (Nat.le_refl _) (by simp) ?_; (case hd => rfl); (case hg => rfl); (case hr => first | (go_simp; done) | (go_simp; rfl)); (case hp => exact (Reps.none _ _)); intro v146 w3 ho4 hb hg_ hnew_; clear hg_ hnew_; (first | rw [← Ny145.out] at ho4 | (simp only [Int.reduceToNat] at ho4; rw [← Ny145.out] at ho4)); have AM := zm (Kd.R_lower ho4 (below_size zB)); replace HB := zm (below_step zB hb); clear hb ho4))
 go_loopg [5, 6, 7] k (fun kq v5 v6 v7 w' => ∃ (AC : List ByteArray) (AB : Int) (AA : Int), v6 = .int .i64 AB ∧ v7 = .int .i64 AA ∧ Aside0 (spec_Parts.l0 kq a0 a1 AC AB AA = some r) ∧ Aside0 (kq ≤ k) ∧ Aside0 (Kd.R Kd.string 9 w' w.heap.size (fun _ => True) v5 AC) ∧ Aside0 (Below w.heap.size w w'))
 case atStart => exact ⟨(y145), (0), (0), zF, zF, H', ⟨Nat.le_refl _⟩, ⟨zr AM⟩, ⟨zB⟩⟩
 case round =>
  clear H'; obtain ⟨AC, AB, AA, rfl, rfl, HA, AF, AD, HB⟩ := hrel
  cases gk with
  | zero => exact absurd HA.out (by simp [spec_Parts.l0])
  | succ k1 =>
   have H := HA.out; clear HA; simp only [spec_Parts.l0] at H
   by_cases c5 : AA ≤ (a0.size : Int)
   ·rw [if_pos c5] at H; have AR : decide (AA ≤ (a0.size : Int)) = true := decide_eq_true c5; clear c5
    by_cases c6 : AA = (a0.size : Int)
    ·rw [if_pos c6] at H; have AS : (AA == (a0.size : Int)) = true := beq_iff_eq.mpr c6; have AT : (AA != (a0.size : Int)) = false := bne_eq_false_iff_eq.mpr c6; clear c6
     by_cases c7 : 0 ≤ AB
     ·rw [if_pos c7] at H; have Ac := eq_true c7; have Ad : decide (0 ≤ AB) = true := decide_eq_true c7; clear c7
      by_cases c8 : AB ≤ AA
      ·rw [if_pos c8] at H; have Ae := eq_true c8; have Af : decide (AB ≤ AA) = true := decide_eq_true c8; clear c8; have Ag := eq_true (zd : AA ≤ (a0.size : Int))
       by_cases AI : AC.length < 8796093022208
       ·rw [if_pos AI] at H; have LMc10 := zm AI; clear AI
        obtain ⟨y148, hy148⟩ : ∃ y_ : List ByteArray, y_ = (AC ++ [a0.extract (AB : Int).toNat (AA : Int).toNat]) := ⟨_, rfl⟩
        replace H : (spec_Parts.l0 k1 a0 a1 y148 (wrap64 (AA + 1)) (wrap64 (AA + 1))) = some r := by first | (rw [hy148]; with_reducible exact H) | (have H2_ := (Option.bind_some _ _).symm.trans H; rw [hy148]; with_reducible exact H2_) | (have H2_ := (Option.bind_some _ _).symm.trans H; with_reducible exact H2_) | with_reducible exact H | (rw [hy148]; exact H) | exact H
        have Ny148 := zm hy148; clear hy148
        have H' := zm H
        clear H
        go_wp2_with (first | ((with_reducible refine gate_builtin (b := .append) (xs := #[.tmp 26, .tmp 31]) rfl ?_); at_builtin; refine Kd.R_append Kd.string (w0 := w) w.heap.size rfl (.tmp 26) (.tmp 31) 31 9 (.string ⟨#[]⟩) 16 rfl Tryd.underlying31 info9 rfl (by decide) (by omega) u5 AC (a0.extract (AB : Int).toNat (AA : Int).toNat) [.string (a0.extract (AB : Int).toNat (AA : Int).toNat)] (fun _ => True) (fun _ => False) rfl rfl ?aP (fun _ hk => hk.elim) ?aF ?aO ?aB ?aS ?aL ?_; (case aP => exact rfl); (case aB => exact zB); (case aF => exact (fun _ _ => trivial)); (case aO => exact (zr AD)); (case aS => exact (below_size zB)); (case aL => have := LMc10.out; omega); intro v149 Ah ho hb hg hat; rw [← Ny148.out] at ho; replace HB := zm hb; have AN := zm (ho); clear AD; clear ho hb hg hat))
        go_roundg k1
        case measure => have := AF.out; omega
        case rel => exact ⟨(y148), (wrap64 (AA + 1)), (wrap64 (AA + 1)), zF, zF, H', ⟨by have := AF.out; omega⟩, ⟨zr AN⟩, ⟨zB⟩⟩
       ·rw [if_neg AI] at H
        exact absurd H (by simp)
      ·rw [if_neg c8] at H
       exact absurd H (by simp)
     ·rw [if_neg c7] at H
      exact absurd H (by simp)
    ·rw [if_neg c6] at H; have AS : (AA == (a0.size : Int)) = false := beq_eq_false_iff_ne.mpr c6; have AT : (AA != (a0.size : Int)) = true := bne_iff_ne.mpr c6
     by_cases AJ : 0 ≤ AA
     ·rw [if_pos AJ] at H; have AV : decide (0 ≤ AA) = true := decide_eq_true AJ; clear AJ
      by_cases AK : AA < (a0.size : Int)
      ·rw [if_pos AK] at H; have AW : decide (AA < (a0.size : Int)) = true := decide_eq_true AK; clear AK
       by_cases AE : (bt a0 AA) = a1
       ·rw [if_pos AE] at H; have AP : ((bt a0 AA) == a1) = true := beq_iff_eq.mpr AE; have AQ : ((bt a0 AA) != a1) = false := bne_eq_false_iff_eq.mpr AE; clear AE
        by_cases AG : 0 ≤ AB
        ·rw [if_pos AG] at H; have AX := eq_true AG; have AY : decide (0 ≤ AB) = true := decide_eq_true AG; clear AG
         by_cases AH : AB ≤ AA
         ·rw [if_pos AH] at H; have AZ := eq_true AH; have Aa : decide (AB ≤ AA) = true := decide_eq_true AH; clear AH; have Ab := eq_true (zd : AA ≤ (a0.size : Int))
          by_cases AL : AC.length < 8796093022208
          ·rw [if_pos AL] at H; have LMc19 := zm AL; clear AL
           obtain ⟨y151, hy151⟩ : ∃ y_ : List ByteArray, y_ = (AC ++ [a0.extract (AB : Int).toNat (AA : Int).toNat]) := ⟨_, rfl⟩
           replace H : (spec_Parts.l0 k1 a0 a1 y151 (wrap64 (AA + 1)) (wrap64 (AA + 1))) = some r := by first | (rw [hy151]; with_reducible exact H) | (have H2_ := (Option.bind_some _ _).symm.trans H; rw [hy151]; with_reducible exact H2_) | (have H2_ := (Option.bind_some _ _).symm.trans H; with_reducible exact H2_) | with_reducible exact H | (rw [hy151]; exact H) | exact H
           have Ny151 := zm hy151; clear hy151
           have H' := zm H
           clear H; have p14 : 0 ≤ (AA : Int) := zd; have q14 : AA < (a0.size : Int) := zd; have AU := bt_at a0 AA; replace p14 := eq_true p14; replace q14 := eq_true q14
           go_wp2_with (first | ((with_reducible refine gate_builtin (b := .append) (xs := #[.tmp 26, .tmp 31]) rfl ?_); at_builtin; refine Kd.R_append Kd.string (w0 := w) w.heap.size rfl (.tmp 26) (.tmp 31) 31 9 (.string ⟨#[]⟩) 16 rfl Tryd.underlying31 info9 rfl (by decide) (by omega) u5 AC (a0.extract (AB : Int).toNat (AA : Int).toNat) [.string (a0.extract (AB : Int).toNat (AA : Int).toNat)] (fun _ => True) (fun _ => False) rfl rfl ?aP (fun _ hk => hk.elim) ?aF ?aO ?aB ?aS ?aL ?_; (case aP => exact rfl); (case aB => exact zB); (case aF => exact (fun _ _ => trivial)); (case aO => exact (zr AD)); (case aS => exact (below_size zB)); (case aL => have := LMc19.out; omega); intro v152 Ai ho hb hg hat; rw [← Ny151.out] at ho; replace HB := zm hb; have AO := zm (ho); clear AD; clear ho hb hg hat))
           go_roundg k1
           case measure => have := AF.out; omega
           case rel => exact ⟨(y151), (wrap64 (AA + 1)), (wrap64 (AA + 1)), zF, zF, H', ⟨by have := AF.out; omega⟩, ⟨zr AO⟩, ⟨zB⟩⟩
          ·rw [if_neg AL] at H
           exact absurd H (by simp)
         ·rw [if_neg AH] at H
          exact absurd H (by simp)
        ·rw [if_neg AG] at H
         exact absurd H (by simp)
       ·rw [if_neg AE] at H; have AP : ((bt a0 AA) == a1) = false := beq_eq_false_iff_ne.mpr AE; have AQ : ((bt a0 AA) != a1) = true := bne_iff_ne.mpr AE
        have H' := zm H
        clear H; have p14 : 0 ≤ (AA : Int) := zd; have q14 : AA < (a0.size : Int) := zd; have AU := bt_at a0 AA; replace p14 := eq_true p14; replace q14 := eq_true q14
        go_wp2
        go_roundg k1
        case measure => have := AF.out; omega
        case rel => exact ⟨(AC), (AB), (wrap64 (AA + 1)), zF, zF, H', ⟨by have := AF.out; omega⟩, ⟨zr AD⟩, ⟨zB⟩⟩
      ·rw [if_neg AK] at H
       exact absurd H (by simp)
     ·rw [if_neg AJ] at H
      exact absurd H (by simp)
   ·rw [if_neg c5] at H; have AR : decide (AA ≤ (a0.size : Int)) = false := decide_eq_false c5; clear c5; obtain rfl := Option.some.inj H
    go_wp2
    go_ret
    exact ⟨_, zE, zr AD, zB⟩

/-! ### strings_Split: function 38, by hand -/
def strings_Split.f (a0 : ByteArray) (a1 : ByteArray) : Option (List ByteArray) := if a0.size < 4294967281 ∧ 1 ≤ a1.size then (some (Lib.splitB a1 0 (Lib.countB a0 a1) a0)) else none
theorem strings_Split.calls (a0 : ByteArray) (a1 : ByteArray) (r : List ByteArray) (w : World) (hT : Go.Proofs.YtomlglpmljngfaaDoor.HandIo.TS w) (h : strings_Split.f a0 a1 = some r) :
 Calls Tryd.prog 38 #[.string a0, .string a1] w fun e w' => ∃ v0_ : Value, e = .returned (v0_) ∧ Kd.R Kd.string 9 w' w.heap.size (fun _ => True) v0_ r ∧ Below w.heap.size w w' := by
 by_cases c : a0.size < 4294967281 ∧ 1 ≤ a1.size
 ·rw [strings_Split.f, if_pos c] at h; obtain rfl := Option.some.inj h; exact Go.Proofs.YtomlglpmljngfaaDoor.HandIo.split a0 a1 w hT c.1 c.2
 ·rw [strings_Split.f, if_neg c] at h; cases h

/-! ### impl_Parts: function 17 -/
def impl_Parts.f (a0 : ByteArray) (a1 : Int) : Option (List ByteArray) := (strings_Split.f a0 (strOfNums (([a1] : List Int)))).bind fun t157 => (some t157)
set_option maxHeartbeats 8000000 in
set_option maxRecDepth 100000 in
theorem impl_Parts.calls (a0 : ByteArray) (a1 : Int) (r : List ByteArray) (w : World) (hT : Go.Proofs.YtomlglpmljngfaaDoor.HandIo.TS w) (h : impl_Parts.f a0 a1 = some r) :
  Calls Tryd.prog 17 #[.string a0, .int .u8 a1] w fun e w' => ∃ v0_ : Value, e = .returned (v0_) ∧ Kd.R Kd.string 9 w' w.heap.size (fun _ => True) v0_ r ∧ Below w.heap.size w w' := by
 have HT := zm hT; clear hT
 have HB := zm (Below.refl w.heap.size w); have H : ((strings_Split.f a0 (strOfNums (([a1] : List Int)))).bind fun AA => (some AA)) = some r := h; clear h
 obtain ⟨y154, hy154⟩ : ∃ y_ : List Int, y_ = (([a1] : List Int)) := ⟨_, rfl⟩
 replace H : ((strings_Split.f a0 (strOfNums y154)).bind fun AA => (some AA)) = some r := by first | (rw [hy154]; with_reducible exact H) | (have H2_ := (Option.bind_some _ _).symm.trans H; rw [hy154]; with_reducible exact H2_) | (have H2_ := (Option.bind_some _ _).symm.trans H; with_reducible exact H2_) | with_reducible exact H | (rw [hy154]; exact H) | exact H
 have Ny154 := zm hy154; clear hy154; replace H := Option.bind_eq_some_iff.mp H; obtain ⟨AA, AD, H⟩ := H; (try dsimp only at H); have A3 := zm AD; clear AD; obtain rfl := Option.some.inj H; go_enter Tryd.func17, Tryd.ntmps17
 go_wp2_with (first | ((with_reducible refine gate_dst (N := 7) rfl ?_); refine Kd.R_lit (Kd.int .u8) _ 5 ?hg (N := 7) ?hd (xs := ([a1] : List Int)) (inner := [.int .u8 a1]) (ok := fun _ => True) (okp := fun _ => True) ?hr ?hp (fun _ hk => hk) trivial (Below.refl _ _) (Nat.le_refl _) (by simp) ?_; (case hd => rfl); (case hg => rfl); (case hr => first | (go_simp; done) | (go_simp; rfl)); (case hp => exact (Reps.one (show Kd.M (Kd.int .u8) _ _ _ a1 [.int .u8 a1] from rfl) (Reps.none _ _))); intro v155 w4 ho5 hb hg_ hnew_; clear hg_ hnew_; (first | rw [← Ny154.out] at ho5 | (simp only [Int.reduceToNat] at ho5; rw [← Ny154.out] at ho5)); have AB := zm (Kd.R_lower ho5 (below_size zB)); replace HB := zm (below_step zB hb); clear hb ho5; have hcv6 := own_string (P := Tryd.prog) Tryd.underlying52 Tryd.underlying5 Tryd.underlying9 (Kd.own_of_R AB.out)) | ((with_reducible refine gate_callee (f := 38) rfl ?_); refine zg (some 9) #[.string a0, .string (strOfNums y154)] Tryd.func38 ?_; (with_reducible refine (strings_Split.calls a0 (strOfNums y154) AA _ zT A3.out).mono ?_); rintro e w7 ⟨v158, rfl, ho0, hb⟩; refine ⟨_, rfl, ?_⟩; replace AB := zw AB hb; have AC := zm (Kd.R_lower ho0 (below_size zB)); replace HB := zm (below_step zB hb); clear hb ho0))
 go_ret
 exact ⟨_, zE, zr AC, zB⟩

/-! ### laws_eqStringS: function 18 -/
def laws_eqStringS.l0 : Nat → List ByteArray → List ByteArray → Int → Option (Bool)
 | 0, _, _, _ => none
 | k + 1, x0, x1, x5 => if x5 < (x0.length : Int) then (if 0 ≤ x5 then (if x5 < (x1.length : Int) then (if (rdOf ByteArray.empty x0 x5).toList = (rdOf ByteArray.empty x1 x5).toList then (laws_eqStringS.l0 k x0 x1 (wrap64 (x5 + 1))) else (some false)) else (none)) else (none)) else (some true)
def laws_eqStringS.f (k : Nat) (l0 : List ByteArray) (l1 : List ByteArray) : Option (Bool) := if (l0.length : Int) = (l1.length : Int) then (laws_eqStringS.l0 k l0 l1 0) else (some false)
theorem laws_eqStringS.mono_l : ∀ k, (∀ y0 y1 y2, LeO (laws_eqStringS.l0 k y0 y1 y2) (laws_eqStringS.l0 (k + 1) y0 y1 y2))
 | 0 => fun _ _ _ r h => by simp [laws_eqStringS.l0] at h
 | k + 1 => by
  have ih0 := laws_eqStringS.mono_l k
  ·intro y0 y1 y2
   unfold laws_eqStringS.l0
   repeat' first | (with_reducible first | exact LeO.refl _ | exact LeO.none _ | refine LeO.ite ?_ ?_ | refine LeO.bind ?_ (fun _ => ?_) | apply ih0) | apply ih0 | exact LeO.none _ | refine LeO.ite ?_ ?_ | refine LeO.bind ?_ (fun _ => ?_)
theorem laws_eqStringS.mono : ∀ a0 a1 k, LeO (laws_eqStringS.f k a0 a1) (laws_eqStringS.f (k + 1) a0 a1) := by
 intro a0 a1 k; have ih0 := laws_eqStringS.mono_l k
 unfold laws_eqStringS.f
 repeat' first | (with_reducible first | exact LeO.refl _ | exact LeO.none _ | refine LeO.ite ?_ ?_ | refine LeO.bind ?_ (fun _ => ?_) | apply ih0) | apply ih0 | exact LeO.none _ | refine LeO.ite ?_ ?_ | refine LeO.bind ?_ (fun _ => ?_)
set_option maxHeartbeats 8000000 in
set_option maxRecDepth 100000 in
theorem laws_eqStringS.calls (k : Nat) (A0 : Option Addr) (c0 : Nat) (l0 : List ByteArray) (A1 : Option Addr) (c1 : Nat) (l1 : List ByteArray) (r : Bool) (w : World) (hr0 : Kd.C Kd.string w A0 l0.length l0) (hc0 : l0.length ≤ c0) (hr1 : Kd.C Kd.string w A1 l1.length l1) (hc1 : l1.length ≤ c1) (h : laws_eqStringS.f k l0 l1 = some r) :
  Calls Tryd.prog 18 #[.slice A0 l0.length c0, .slice A1 l1.length c1] w fun e w' => e = .returned (.bool r) ∧ Drawn0 w w' := by
 have HR0 := zm hr0; have AK := zm hc0; clear hr0 hc0; have HR1 := zm hr1; have AL := zm hc1; clear hr1 hc1; have H : (if (l0.length : Int) = (l1.length : Int) then (laws_eqStringS.l0 k l0 l1 0) else (some false)) = some r := h; clear h
 by_cases c3 : (l0.length : Int) = (l1.length : Int)
 ·rw [if_pos c3] at H; have AB : ((l0.length : Int) == (l1.length : Int)) = true := beq_iff_eq.mpr c3; have AC : ((l0.length : Int) != (l1.length : Int)) = false := bne_eq_false_iff_eq.mpr c3
  have AD : (l0.length == l1.length) = true := by first | simpa using c3 | (simp at c3 ⊢; omega)
  clear c3
  have H' := zm H
  clear H; go_enter Tryd.func18, Tryd.ntmps18
  go_wp2
  repeat (go_quiet (fail); try go_wp2)
  go_loopg [5] k (fun kq v5 w' => ∃ (AA : Int), v5 = .int .i64 AA ∧ Aside0 (laws_eqStringS.l0 kq l0 l1 AA = some r) ∧ Aside0 (kq ≤ k) ∧ Drawn0 w w')
  case atStart => exact ⟨(0), zF, H', ⟨Nat.le_refl _⟩, zD⟩
  case round =>
   clear H'; (try clear c1); (try clear c3); (try clear AB); (try clear AC); (try clear AD); obtain ⟨AA, rfl, HA, AE, ⟨m1, rfl⟩⟩ := hrel
   cases gk with
   | zero => exact absurd HA.out (by simp [laws_eqStringS.l0])
   | succ k1 =>
    have H := HA.out; clear HA; simp only [laws_eqStringS.l0] at H
    by_cases c4 : AA < (l0.length : Int)
    ·rw [if_pos c4] at H; have AF : decide (AA < (l0.length : Int)) = true := decide_eq_true c4; clear c4
     by_cases c5 : 0 ≤ AA
     ·rw [if_pos c5] at H; have AI : decide (0 ≤ AA) = true := decide_eq_true c5; clear c5
      by_cases c6 : AA < (l1.length : Int)
      ·rw [if_pos c6] at H; have AJ : decide (AA < (l1.length : Int)) = true := decide_eq_true c6; clear c6
       by_cases c7 : (rdOf ByteArray.empty l0 AA).toList = (rdOf ByteArray.empty l1 AA).toList
       ·rw [if_pos c7] at H; have AG : ((rdOf ByteArray.empty l0 AA).toList == (rdOf ByteArray.empty l1 AA).toList) = true := beq_iff_eq.mpr c7; have AH : ((rdOf ByteArray.empty l0 AA).toList != (rdOf ByteArray.empty l1 AA).toList) = false := bne_eq_false_iff_eq.mpr c7; clear c7
        have H' := zm H
        clear H; have p160 : 0 ≤ (AA : Int) := zd; have q160 : AA < (l0.length : Int) := zd; obtain ⟨ad160, e160, hx160_0⟩ := Kd.at_string HR0.out AA p160 q160; cases e160; replace p160 := eq_true p160; replace q160 := eq_true q160; have p161 : 0 ≤ (AA : Int) := zd; have q161 : AA < (l1.length : Int) := zd; obtain ⟨ad161, e161, hx161_0⟩ := Kd.at_string HR1.out AA p161 q161; cases e161; replace p161 := eq_true p161; replace q161 := eq_true q161
        go_wp2
        repeat (go_quiet (fail); try go_wp2)
        go_roundg k1
        case measure => have := AE.out; omega
        case rel => exact ⟨(wrap64 (AA + 1)), zF, H', ⟨by have := AE.out; omega⟩, zD⟩
       ·rw [if_neg c7] at H; have AG : ((rdOf ByteArray.empty l0 AA).toList == (rdOf ByteArray.empty l1 AA).toList) = false := beq_eq_false_iff_ne.mpr c7; have AH : ((rdOf ByteArray.empty l0 AA).toList != (rdOf ByteArray.empty l1 AA).toList) = true := bne_iff_ne.mpr c7; obtain rfl := Option.some.inj H; have p160 : 0 ≤ (AA : Int) := zd; have q160 : AA < (l0.length : Int) := zd; obtain ⟨ad160, e160, hx160_0⟩ := Kd.at_string HR0.out AA p160 q160; cases e160; replace p160 := eq_true p160; replace q160 := eq_true q160; have p161 : 0 ≤ (AA : Int) := zd; have q161 : AA < (l1.length : Int) := zd; obtain ⟨ad161, e161, hx161_0⟩ := Kd.at_string HR1.out AA p161 q161; cases e161; replace p161 := eq_true p161; replace q161 := eq_true q161
        go_wp2
        repeat (go_quiet (fail); try go_wp2)
        go_ret
        exact ⟨zF, zD⟩
      ·rw [if_neg c6] at H
       exact absurd H (by simp)
     ·rw [if_neg c5] at H
      exact absurd H (by simp)
    ·rw [if_neg c4] at H; have AF : decide (AA < (l0.length : Int)) = false := decide_eq_false c4; clear c4; obtain rfl := Option.some.inj H
     go_wp2
     repeat (go_quiet (fail); try go_wp2)
     go_ret
     exact ⟨zF, zD⟩
 ·rw [if_neg c3] at H; have AB : ((l0.length : Int) == (l1.length : Int)) = false := beq_eq_false_iff_ne.mpr c3; have AC : ((l0.length : Int) != (l1.length : Int)) = true := bne_iff_ne.mpr c3
  have AD : (l0.length == l1.length) = false := by first | simpa using c3 | (simp at c3 ⊢; omega)
  obtain rfl := Option.some.inj H; go_enter Tryd.func18, Tryd.ntmps18
  go_wp2
  repeat (go_quiet (fail); try go_wp2)
  go_ret
  exact ⟨zF, zD⟩

/-! ### laws_markText: function 39 -/
def laws_markText.l0 : Nat → Int → ByteArray → Option (ByteArray)
 | 0, _, _ => none
 | k + 1, x0, x3 => if x0 > 0 then ((some (([(wrap64 (48 + (Int.tmod x0 10))) % 256] : List Int) : List Int)).bind fun y162 => (if (strOfNums y162).size + x3.size ≤ 9223372036854775807 then (laws_markText.l0 k (wrap64 (Int.tdiv x0 10)) ((strOfNums y162) ++ x3)) else (none))) else (if 1 + x3.size ≤ 9223372036854775807 then (some ((⟨#[109]⟩ : ByteArray) ++ x3)) else (none))
def laws_markText.f (k : Nat) (a0 : Int) : Option (ByteArray) := if a0 ≤ 0 then (some (⟨#[109, 48]⟩ : ByteArray)) else (laws_markText.l0 k a0 (⟨#[]⟩ : ByteArray))
theorem laws_markText.mono_l : ∀ k, (∀ y0 y1, LeO (laws_markText.l0 k y0 y1) (laws_markText.l0 (k + 1) y0 y1))
 | 0 => fun _ _ r h => by simp [laws_markText.l0] at h
 | k + 1 => by
  have ih0 := laws_markText.mono_l k
  ·intro y0 y1
   unfold laws_markText.l0
   repeat' first | (with_reducible first | exact LeO.refl _ | exact LeO.none _ | refine LeO.ite ?_ ?_ | refine LeO.bind ?_ (fun _ => ?_) | apply ih0) | apply ih0 | exact LeO.none _ | refine LeO.ite ?_ ?_ | refine LeO.bind ?_ (fun _ => ?_)
theorem laws_markText.mono : ∀ a0 k, LeO (laws_markText.f k a0) (laws_markText.f (k + 1) a0) := by
 intro a0 k; have ih0 := laws_markText.mono_l k
 unfold laws_markText.f
 repeat' first | (with_reducible first | exact LeO.refl _ | exact LeO.none _ | refine LeO.ite ?_ ?_ | refine LeO.bind ?_ (fun _ => ?_) | apply ih0) | apply ih0 | exact LeO.none _ | refine LeO.ite ?_ ?_ | refine LeO.bind ?_ (fun _ => ?_)
set_option maxHeartbeats 8000000 in
set_option maxRecDepth 100000 in
theorem laws_markText.calls (k : Nat) (a0 : Int) (r : ByteArray) (w : World) (h : laws_markText.f k a0 = some r) :
  Calls Tryd.prog 39 #[.int .i64 a0] w fun e w' => e = .returned (.string r) ∧ Below w.heap.size w w' := by
 have HB := zm (Below.refl w.heap.size w); have H : (if a0 ≤ 0 then (some (⟨#[109, 48]⟩ : ByteArray)) else (laws_markText.l0 k a0 (⟨#[]⟩ : ByteArray))) = some r := h; clear h
 by_cases c2 : a0 ≤ 0
 ·rw [if_pos c2] at H; have AC : decide (a0 ≤ 0) = true := decide_eq_true c2; clear c2; obtain rfl := Option.some.inj H; go_enter Tryd.func39, Tryd.ntmps39
  go_wp2
  go_ret
  exact ⟨zE, zB⟩
 ·rw [if_neg c2] at H; have AC : decide (a0 ≤ 0) = false := decide_eq_false c2; clear c2
  have H' := zm H
  clear H; go_enter Tryd.func39, Tryd.ntmps39
  go_wp2
  go_loopg [0, 3] k (fun kq v0 v3 w' => ∃ (AA : Int) (AB : ByteArray), v0 = .int .i64 AA ∧ v3 = .string AB ∧ Aside0 (laws_markText.l0 kq AA AB = some r) ∧ Aside0 (kq ≤ k) ∧ Aside0 (Below w.heap.size w w'))
  case atStart => exact ⟨(a0), ((⟨#[]⟩ : ByteArray)), zF, zF, H', ⟨Nat.le_refl _⟩, ⟨zB⟩⟩
  case round =>
   clear H'; (try clear c2); (try clear AC); obtain ⟨AA, AB, rfl, rfl, HA, AE, HB⟩ := hrel
   cases gk with
   | zero => exact absurd HA.out (by simp [laws_markText.l0])
   | succ k1 =>
    have H := HA.out; clear HA; simp only [laws_markText.l0] at H
    by_cases c3 : AA > 0
    ·rw [if_pos c3] at H; have AF : decide (0 < AA) = true := decide_eq_true c3; clear c3
     obtain ⟨y162, hy162⟩ : ∃ y_ : List Int, y_ = (([(wrap64 (48 + (Int.tmod AA 10))) % 256] : List Int)) := ⟨_, rfl⟩
     replace H : (if (strOfNums y162).size + AB.size ≤ 9223372036854775807 then (laws_markText.l0 k1 (wrap64 (Int.tdiv AA 10)) ((strOfNums y162) ++ AB)) else (none)) = some r := by first | (rw [hy162]; with_reducible exact H) | (have H2_ := (Option.bind_some _ _).symm.trans H; rw [hy162]; with_reducible exact H2_) | (have H2_ := (Option.bind_some _ _).symm.trans H; with_reducible exact H2_) | with_reducible exact H | (rw [hy162]; exact H) | exact H
     have Ny162 := zm hy162; clear hy162
     by_cases c4 : (strOfNums y162).size + AB.size ≤ 9223372036854775807
     ·rw [if_pos c4] at H; have AG := eq_true c4; have AH : decide ((strOfNums y162).size + AB.size ≤ 9223372036854775807) = true := decide_eq_true c4
      try have AI : (9223372036854775807 < (strOfNums y162).size + AB.size) = False := eq_false (Nat.not_lt.2 c4)
      have H' := zm H
      clear H
      go_wp2_with (first | ((with_reducible refine gate_dst (N := 12) rfl ?_); refine Kd.R_lit (Kd.int .u8) _ 5 ?hg (N := 12) ?hd (xs := ([(wrap64 (48 + (Int.tmod AA 10))) % 256] : List Int)) (inner := [.int .u8 ((wrap64 (48 + (Int.tmod AA 10))) % 256)]) (ok := fun _ => True) (okp := fun _ => True) ?hr ?hp (fun _ hk => hk) trivial (Below.refl _ _) (Nat.le_refl _) (by simp) ?_; (case hd => rfl); (case hg => rfl); (case hr => first | (go_simp; done) | (go_simp; rfl)); (case hp => exact (Reps.one (show Kd.M (Kd.int .u8) _ _ _ ((wrap64 (48 + (Int.tmod AA 10))) % 256) [.int .u8 ((wrap64 (48 + (Int.tmod AA 10))) % 256)] from rfl) (Reps.none _ _))); intro v163 w5 ho6 hb hg_ hnew_; clear hg_ hnew_; (first | rw [← Ny162.out] at ho6 | (simp only [Int.reduceToNat] at ho6; rw [← Ny162.out] at ho6)); have AD := zm (Kd.R_lower ho6 (below_size zB)); replace HB := zm (below_step zB hb); clear hb ho6; have hcv7 := own_string (P := Tryd.prog) Tryd.underlying52 Tryd.underlying5 Tryd.underlying9 (Kd.own_of_R AD.out)))
      go_roundg k1
      case measure => have := AE.out; omega
      case rel => exact ⟨(wrap64 (Int.tdiv AA 10)), ((strOfNums y162) ++ AB), zF, zF, H', ⟨by have := AE.out; omega⟩, ⟨zB⟩⟩
     ·rw [if_neg c4] at H
      exact absurd H (by simp)
    ·rw [if_neg c3] at H; have AF : decide (0 < AA) = false := decide_eq_false c3; clear c3
     by_cases c8 : 1 + AB.size ≤ 9223372036854775807
     ·rw [if_pos c8] at H; have AJ := eq_true c8; have AK : decide (1 + AB.size ≤ 9223372036854775807) = true := decide_eq_true c8
      try have AL : (9223372036854775807 < 1 + AB.size) = False := eq_false (Nat.not_lt.2 c8)
      obtain rfl := Option.some.inj H
      go_wp2
      go_ret
      exact ⟨zE, zB⟩
     ·rw [if_neg c8] at H
      exact absurd H (by simp)

/-! ### laws_markStringS: function 19 -/
def laws_markStringS.l0 : Nat → List ByteArray → Int → Int → Option (Int × List ByteArray)
 | 0, _, _, _ => none
 | k + 1, x0, x1, x5 => if x5 < (x0.length : Int) then ((laws_markText.f k x1).bind fun t165 => (if 0 ≤ x5 then (laws_markStringS.l0 k (x0.set (x5 : Int).toNat t165) (wrap64 (x1 + 1)) (wrap64 (x5 + 1))) else (none))) else (some (x1, x0))
def laws_markStringS.f (k : Nat) (l0 : List ByteArray) (a1 : Int) : Option (Int × List ByteArray) := laws_markStringS.l0 k l0 a1 0
theorem laws_markStringS.mono_l : ∀ k, (∀ y0 y1 y2, LeO (laws_markStringS.l0 k y0 y1 y2) (laws_markStringS.l0 (k + 1) y0 y1 y2))
 | 0 => fun _ _ _ r h => by simp [laws_markStringS.l0] at h
 | k + 1 => by
  have ih0 := laws_markStringS.mono_l k
  ·intro y0 y1 y2
   unfold laws_markStringS.l0
   repeat' first | (with_reducible first | exact LeO.refl _ | exact LeO.none _ | refine LeO.ite ?_ ?_ | refine LeO.bind ?_ (fun _ => ?_) | apply ih0 | apply laws_markText.mono) | apply ih0 | apply laws_markText.mono | exact LeO.none _ | refine LeO.ite ?_ ?_ | refine LeO.bind ?_ (fun _ => ?_)
theorem laws_markStringS.mono : ∀ a0 a1 k, LeO (laws_markStringS.f k a0 a1) (laws_markStringS.f (k + 1) a0 a1) := by
 intro a0 a1 k; have ih0 := laws_markStringS.mono_l k
 unfold laws_markStringS.f
 repeat' first | (with_reducible first | exact LeO.refl _ | exact LeO.none _ | refine LeO.ite ?_ ?_ | refine LeO.bind ?_ (fun _ => ?_) | apply ih0 | apply laws_markText.mono) | apply ih0 | apply laws_markText.mono | exact LeO.none _ | refine LeO.ite ?_ ?_ | refine LeO.bind ?_ (fun _ => ?_)
set_option maxHeartbeats 8000000 in
set_option maxRecDepth 100000 in
theorem laws_markStringS.calls (k : Nat) (P0_ : Nat → Prop) (u9000_ : Value) (l0 : List ByteArray) (a1 : Int) (r1 : Int) (r2 : List ByteArray) (w0 w : World) (hB : Below w0.heap.size w0 w) (ho0 : Kd.R Kd.string 9 w w0.heap.size P0_ u9000_ l0) (h : laws_markStringS.f k l0 a1 = some (r1, r2)) :
  Calls Tryd.prog 19 #[u9000_, .int .i64 a1] w fun e w' => e = .returned (.int .i64 r1) ∧ Kd.R Kd.string 9 w' w0.heap.size (fun k_ => (P0_ k_ ∨ w.heap.size ≤ k_)) u9000_ r2 ∧ Below w0.heap.size w0 w' ∧ Kept w w' (fun k_ => P0_ k_) := by
 have AK := zm (show Kd.R Kd.string 9 w w0.heap.size (fun k_ => (P0_ k_ ∨ w.heap.size ≤ k_)) u9000_ l0 from Kd.R_mono ho0 (fun k_ hk => (.inl hk))); have HK := zm (Kept.refl w (fun k_ => P0_ k_)); have HW0 := zm hB.size; have HB := zm hB; clear hB; have H : (laws_markStringS.l0 k l0 a1 0) = some (r1, r2) := h; clear h
 have H' := zm H
 clear H; go_enter Tryd.func19, Tryd.ntmps19
 go_wp2
 go_loopg [1, 5] k (fun kq v1 v5 w' => ∃ (AC : List ByteArray) (AD : Int) (AA : Int), v1 = .int .i64 AD ∧ v5 = .int .i64 AA ∧ Aside0 (laws_markStringS.l0 kq AC AD AA = some (r1, r2)) ∧ Aside0 (kq ≤ k) ∧ Aside0 (Kd.R Kd.string 9 w' w0.heap.size (fun k_ => (P0_ k_ ∨ w.heap.size ≤ k_)) u9000_ AC) ∧ Aside0 (Kept w w' (fun k_ => P0_ k_)) ∧ Aside0 (Below w0.heap.size w0 w'))
 case atStart => exact ⟨(l0), (a1), (0), zF, zF, H', ⟨Nat.le_refl _⟩, ⟨zr AK⟩, ⟨by repeat (first | (with_reducible first | exact HK.out | apply Kept.alloc | apply Kept.drewN | apply Kept.drew) | exact HK.out)⟩, ⟨zB⟩⟩
 case round =>
  clear H'; obtain ⟨AC, AD, AA, rfl, rfl, HA, AH, AB, HK, HB⟩ := hrel
  cases gk with
  | zero => exact absurd HA.out (by simp [laws_markStringS.l0])
  | succ k1 =>
   have H := HA.out; clear HA; simp only [laws_markStringS.l0] at H
   by_cases c3 : AA < (AC.length : Int)
   ·rw [if_pos c3] at H; have AJ : decide (AA < (AC.length : Int)) = true := decide_eq_true c3; clear c3; replace H := Option.bind_eq_some_iff.mp H; obtain ⟨AE, AG, H⟩ := H; (try dsimp only at H); have A4 := zm AG; clear AG
    by_cases c5 : 0 ≤ AA
    ·rw [if_pos c5] at H; have AN : decide (0 ≤ AA) = true := decide_eq_true c5; clear c5
     obtain ⟨y166, hy166⟩ : ∃ y_ : List ByteArray, y_ = (AC.set (AA : Int).toNat AE) := ⟨_, rfl⟩
     replace H : (laws_markStringS.l0 k1 y166 (wrap64 (AD + 1)) (wrap64 (AA + 1))) = some (r1, r2) := by first | (rw [hy166]; with_reducible exact H) | (have H2_ := (Option.bind_some _ _).symm.trans H; rw [hy166]; with_reducible exact H2_) | (have H2_ := (Option.bind_some _ _).symm.trans H; with_reducible exact H2_) | with_reducible exact H | (rw [hy166]; exact H) | exact H
     have Ny166 := zm hy166; clear hy166
     have H' := zm H
     clear H; obtain ⟨AP, AL, eo7⟩ := Kd.R_slice AB.out; subst eo7
     go_wp2_with (first | ((with_reducible refine gate_callee (f := 39) rfl ?_); refine zg (some 15) #[.int .i64 AD] Tryd.func39 ?_; (with_reducible refine (laws_markText.calls k1 AD AE _ A4.out).mono ?_); rintro e w8 ⟨rfl, hb⟩; refine ⟨_, rfl, ?_⟩; replace AB := zw AB hb; replace HK := zm (Kept.below (S := (fun k_ => P0_ k_)) (by repeat (first | (with_reducible first | exact HK.out | apply Kept.alloc | apply Kept.drewN | apply Kept.drew) | exact HK.out)) hb); replace HB := zm (below_step zB hb); clear hb; have p6 : 0 ≤ (AA : Int) := zd; have q6 : (AA : Int) < ((AC.length : Int) : Int) := zd; obtain ⟨go6, AQ, eo6, AI, gl6, cl6, HG6⟩ := Kd.R_form AB.out (by omega); (first | cases eo6 | (injection eo6 with ea_ en_ ec_; (first | subst ea_ | (injection ea_ with ea_; subst ea_)); subst ec_; clear en_)); have GB6 := zm AI; have GG6 := zm HG6; clear AI gl6 HG6; have HMgo6 := zm (show (P0_ go6 ∨ w.heap.size ≤ go6) from (AB.out.1 _ rfl)); obtain ⟨hx6_0, hf6_0⟩ := Kd.R_celln (⟨#[]⟩ : ByteArray) AB.out (AA : Int) p6 q6; replace p6 := eq_true p6; replace q6 := eq_true q6; obtain ⟨hy9_, hz9_⟩ := Kd.R_celln (⟨#[]⟩ : ByteArray) AB.out (AA : Int) zd zd; have HP9 := Kd.R_putg AB.out (AA : Int) AE) | ((with_reducible refine gate_store (t := 9) (p := 16) rfl ?_); refine store_event (t := 9) (p := 16) (v := ?vo_w10) (w1 := (w8.setCell ⟨go6, (AA : Int).toNat, none⟩ (.string AE))) ?hg ?ho ?hn ?hr ?_; (case ho => rfl); (case hg => rfl); (case hn => rfl); (case hr => first | (go_simp; done) | (go_simp; rfl)); intro AF hw; have hg : w8.grownBy AF (some go6) := (by rw [hw]; exact HP9.2); have hp_ : Kd.R Kd.string 9 AF w0.heap.size (fun k_ => (P0_ k_ ∨ w.heap.size ≤ k_)) (.slice (some ⟨go6, 0, none⟩) AC.length AL) y166 := (by rw [hw, Ny166.out]; exact HP9.1); clear HP9; replace HB := zm ((by rw [hw]; exact below_set (HB.out) GB6.out : Below w0.heap.size w0 AF)); replace HK := zm (Kept.of_grown (S := (fun k_ => P0_ k_)) hg (by repeat (first | (with_reducible first | exact HK.out | apply Kept.alloc | apply Kept.drewN | apply Kept.drew) | exact HK.out)) (fun k_ e_ => (AB.out.1 k_ e_))); replace AB := zm (hp_); clear hg hw hp_))
     go_roundg k1
     case measure => have := AH.out; omega
     case rel => exact ⟨(y166), (wrap64 (AD + 1)), (wrap64 (AA + 1)), zF, zF, H', ⟨by have := AH.out; omega⟩, ⟨zr AB⟩, ⟨by repeat (first | (with_reducible first | exact HK.out | apply Kept.alloc | apply Kept.drewN | apply Kept.drew) | exact HK.out)⟩, ⟨zB⟩⟩
    ·rw [if_neg c5] at H
     exact absurd H (by simp)
   ·rw [if_neg c3] at H; have AJ : decide (AA < (AC.length : Int)) = false := decide_eq_false c3; clear c3; simp only [Option.some.injEq, Prod.mk.injEq] at H; obtain ⟨rfl, rfl⟩ := H; obtain ⟨AM, AO, eo11⟩ := Kd.R_slice AB.out; subst eo11
    go_wp2
    go_ret
    exact ⟨zE, zr AB, zB, by repeat (first | (with_reducible first | exact HK.out | apply Kept.alloc | apply Kept.drewN | apply Kept.drew) | exact HK.out)⟩

/-! ### laws_heldStringS: function 20 -/
def laws_heldStringS.l0 : Nat → List ByteArray → Int → Int → Option (Int)
 | 0, _, _, _ => none
 | k + 1, x0, x1, x5 => if x5 < (x0.length : Int) then (if 0 ≤ x5 then ((laws_markText.f k x1).bind fun t168 => (if (rdOf ByteArray.empty x0 x5).toList = t168.toList then (laws_heldStringS.l0 k x0 (wrap64 (x1 + 1)) (wrap64 (x5 + 1))) else (some (-1)))) else (none)) else (some x1)
def laws_heldStringS.f (k : Nat) (l0 : List ByteArray) (a1 : Int) : Option (Int) := laws_heldStringS.l0 k l0 a1 0
theorem laws_heldStringS.mono_l : ∀ k, (∀ y0 y1 y2, LeO (laws_heldStringS.l0 k y0 y1 y2) (laws_heldStringS.l0 (k + 1) y0 y1 y2))
 | 0 => fun _ _ _ r h => by simp [laws_heldStringS.l0] at h
 | k + 1 => by
  have ih0 := laws_heldStringS.mono_l k
  ·intro y0 y1 y2
   unfold laws_heldStringS.l0
   repeat' first | (with_reducible first | exact LeO.refl _ | exact LeO.none _ | refine LeO.ite ?_ ?_ | refine LeO.bind ?_ (fun _ => ?_) | apply ih0 | apply laws_markText.mono) | apply ih0 | apply laws_markText.mono | exact LeO.none _ | refine LeO.ite ?_ ?_ | refine LeO.bind ?_ (fun _ => ?_)
theorem laws_heldStringS.mono : ∀ a0 a1 k, LeO (laws_heldStringS.f k a0 a1) (laws_heldStringS.f (k + 1) a0 a1) := by
 intro a0 a1 k; have ih0 := laws_heldStringS.mono_l k
 unfold laws_heldStringS.f
 repeat' first | (with_reducible first | exact LeO.refl _ | exact LeO.none _ | refine LeO.ite ?_ ?_ | refine LeO.bind ?_ (fun _ => ?_) | apply ih0 | apply laws_markText.mono) | apply ih0 | apply laws_markText.mono | exact LeO.none _ | refine LeO.ite ?_ ?_ | refine LeO.bind ?_ (fun _ => ?_)
set_option maxHeartbeats 8000000 in
set_option maxRecDepth 100000 in
theorem laws_heldStringS.calls (k : Nat) (A0 : Option Addr) (c0 : Nat) (l0 : List ByteArray) (a1 : Int) (r : Int) (w : World) (hr0 : Kd.C Kd.string w A0 l0.length l0) (hc0 : l0.length ≤ c0) (h : laws_heldStringS.f k l0 a1 = some r) :
  Calls Tryd.prog 20 #[.slice A0 l0.length c0, .int .i64 a1] w fun e w' => e = .returned (.int .i64 r) ∧ Below w.heap.size w w' := by
 have HR0 := zm hr0; have AJ := zm hc0; clear hr0 hc0; have HB := zm (Below.refl w.heap.size w); have H : (laws_heldStringS.l0 k l0 a1 0) = some r := h; clear h
 have H' := zm H
 clear H; go_enter Tryd.func20, Tryd.ntmps20
 go_wp2
 go_loopg [1, 5] k (fun kq v1 v5 w' => ∃ (AB : Int) (AA : Int), v1 = .int .i64 AB ∧ v5 = .int .i64 AA ∧ Aside0 (laws_heldStringS.l0 kq l0 AB AA = some r) ∧ Aside0 (kq ≤ k) ∧ Aside0 (Below w.heap.size w w'))
 case atStart => exact ⟨(a1), (0), zF, zF, H', ⟨Nat.le_refl _⟩, ⟨zB⟩⟩
 case round =>
  clear H'; obtain ⟨AB, AA, rfl, rfl, HA, AE, HB⟩ := hrel
  cases gk with
  | zero => exact absurd HA.out (by simp [laws_heldStringS.l0])
  | succ k1 =>
   have H := HA.out; clear HA; simp only [laws_heldStringS.l0] at H
   by_cases c3 : AA < (l0.length : Int)
   ·rw [if_pos c3] at H; have AF : decide (AA < (l0.length : Int)) = true := decide_eq_true c3; clear c3
    by_cases c4 : 0 ≤ AA
    ·rw [if_pos c4] at H; have AI : decide (0 ≤ AA) = true := decide_eq_true c4; clear c4; replace H := Option.bind_eq_some_iff.mp H; obtain ⟨AC, AD, H⟩ := H; (try dsimp only at H); have A5 := zm AD; clear AD
     by_cases c6 : (rdOf ByteArray.empty l0 AA).toList = AC.toList
     ·rw [if_pos c6] at H; have AG : ((rdOf ByteArray.empty l0 AA).toList == AC.toList) = true := beq_iff_eq.mpr c6; have AH : ((rdOf ByteArray.empty l0 AA).toList != AC.toList) = false := bne_eq_false_iff_eq.mpr c6; clear c6
      have H' := zm H
      clear H
      try go_wp2
      replace HB := zm (below_drew1 HB.out); have p167 : 0 ≤ (AA : Int) := zd; have q167 : AA < (l0.length : Int) := zd; obtain ⟨ad167, e167, hx167_0⟩ := Kd.at_string HR0.out AA p167 q167; have hw167_0 := hx167_0; cases e167; replace hx167_0 := zx HB hx167_0; replace p167 := eq_true p167; replace q167 := eq_true q167
      refine start_ (n := 7) (S := fun w' => w'.cell? (ad167.add (AA).toNat) = some (.string (rdOf ByteArray.empty l0 AA))) (ds := []) (zl 7 0) (by kernel_rfl) rfl rfl (((HB.out.cell (World.block_lt_of_cell? w _ hw167_0)).trans hw167_0)) (fun hHeld => ?_)
      generalize wr.drew = w7 at HB hx167_0 hHeld ⊢
      refine zu 0 12 7 1 ?_
      refine zu 1 13 7 3 ?_
      refine zu 2 14 7 7 ?_
      refine zu 4 16 7 23 ?_
      refine take_ (i := 3) (N := some 15) (v := ?_) (a' := ?_) #[true, true, true, true, true, false, false] rfl rfl (by kernel_rfl) (fun _ _ _ h => h) (Or.inl ⟨by rfl, ?_⟩) hHeld ?_ ?_
      rotate_left
      ·intro w' s0
       go_simp
       (with_reducible rfl)
      rotate_left
      ·simp only [Act.put, List.setIfInBounds_toArray, List.set_cons_zero, List.set_cons_succ, i64_w, i32_w]
       rfl
      refine zo 5 (some 17) (zl 7 63) (fun K hK => ?_); refine zgo #[.int .i64 AB] Tryd.func39 ?_; (with_reducible refine (laws_markText.calls k1 AB AC _ A5.out).mono ?_); rintro e w8 ⟨rfl, hb⟩; refine ⟨_, rfl, ?_⟩; replace HB := zm (below_step zB hb); (try clear hb); refine hK.out _ _ (((HB.out.cell (World.block_lt_of_cell? w _ hw167_0)).trans hw167_0)) (fun hHeld => ?_); clear hK K; refine zn ?_
      refine zu 6 18 7 127 ?_
      refine done_ (by kernel_rfl) ?_
      try go_wp2
      go_roundg k1
      case measure => have := AE.out; omega
      case rel => exact ⟨(wrap64 (AB + 1)), (wrap64 (AA + 1)), zF, zF, H', ⟨by have := AE.out; omega⟩, ⟨zB⟩⟩
     ·rw [if_neg c6] at H; have AG : ((rdOf ByteArray.empty l0 AA).toList == AC.toList) = false := beq_eq_false_iff_ne.mpr c6; have AH : ((rdOf ByteArray.empty l0 AA).toList != AC.toList) = true := bne_iff_ne.mpr c6; obtain rfl := Option.some.inj H
      try go_wp2
      replace HB := zm (below_drew1 HB.out); have p167 : 0 ≤ (AA : Int) := zd; have q167 : AA < (l0.length : Int) := zd; obtain ⟨ad167, e167, hx167_0⟩ := Kd.at_string HR0.out AA p167 q167; have hw167_0 := hx167_0; cases e167; replace hx167_0 := zx HB hx167_0; replace p167 := eq_true p167; replace q167 := eq_true q167
      refine start_ (n := 7) (S := fun w' => w'.cell? (ad167.add (AA).toNat) = some (.string (rdOf ByteArray.empty l0 AA))) (ds := []) (zl 7 0) (by kernel_rfl) rfl rfl (((HB.out.cell (World.block_lt_of_cell? w _ hw167_0)).trans hw167_0)) (fun hHeld => ?_)
      generalize wr.drew = w9 at HB hx167_0 hHeld ⊢
      refine zu 0 12 7 1 ?_
      refine zu 1 13 7 3 ?_
      refine zu 2 14 7 7 ?_
      refine zu 4 16 7 23 ?_
      refine take_ (i := 3) (N := some 15) (v := ?_) (a' := ?_) #[true, true, true, true, true, false, false] rfl rfl (by kernel_rfl) (fun _ _ _ h => h) (Or.inl ⟨by rfl, ?_⟩) hHeld ?_ ?_
      rotate_left
      ·intro w' s0
       go_simp
       (with_reducible rfl)
      rotate_left
      ·simp only [Act.put, List.setIfInBounds_toArray, List.set_cons_zero, List.set_cons_succ, i64_w, i32_w]
       rfl
      refine zo 5 (some 17) (zl 7 63) (fun K hK => ?_); refine zgo #[.int .i64 AB] Tryd.func39 ?_; (with_reducible refine (laws_markText.calls k1 AB AC _ A5.out).mono ?_); rintro e AK ⟨rfl, hb⟩; refine ⟨_, rfl, ?_⟩; replace HB := zm (below_step zB hb); (try clear hb); refine hK.out _ _ (((HB.out.cell (World.block_lt_of_cell? w _ hw167_0)).trans hw167_0)) (fun hHeld => ?_); clear hK K; refine zn ?_
      refine zu 6 18 7 127 ?_
      refine done_ (by kernel_rfl) ?_
      try go_wp2
      go_ret
      exact ⟨zE, zB⟩
    ·rw [if_neg c4] at H
     exact absurd H (by simp)
   ·rw [if_neg c3] at H; have AF : decide (AA < (l0.length : Int)) = false := decide_eq_false c3; clear c3; obtain rfl := Option.some.inj H
    go_wp2
    go_ret
    exact ⟨zE, zB⟩

end Go.Proofs.YtomlglpmljngfaaDoor.P
